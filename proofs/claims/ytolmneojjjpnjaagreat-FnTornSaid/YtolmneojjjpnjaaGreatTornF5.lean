/- Functions of the program, and what they come to. -/
import Derived.Test.YtolmneojjjpnjaaGreatTornF4
namespace Go.Tf
noncomputable section
open Go.Proofs Go.Proofs.Tryz IntKind
set_option synthInstance.maxHeartbeats 400000
set_option synthInstance.maxSize 10000
set_option linter.unusedVariables false
set_option linter.unusedSimpArgs false
set_option maxRecDepth 100000
def y3v:Code:=(f57.body).getD .skip
def y3w:Env:=zku TT [] []
theorem y1m:FrOk prog ⟨y3w,21,fun _=>none⟩ y3v:=zky yf yg trivial
abbrev yJI:List Par:= [.rd tYs,.rd tI]
abbrev yJJ:List OT:= [⟨false,tI,.fz⟩]
def yjf (a0:List Int) (a1:Int):Option (zaY yJJ×zak yJI) :=bif(ltb a1 (a0.length:Int))then bif(inb a1 a0.length)then some (((i64.wrap (nth a0 a1 0)),()),()) else none else some ((((i64.wrap ((i64.wrap (a1*31))+(i64.wrap ((a0.length:Int)*7)))).tmod 256),()),())
theorem y2j:ConOk prog 57 ⟨yJI,yJJ,fun x=>yjf x.1 x.2.1⟩:=zkG (y1m) func57 ntmps57.symm fun x=>by kernel_rfl
def yOf:Con:=⟨yJI,yJJ,fun x=>yjf x.1 x.2.1⟩
theorem y3i:ConOk prog 57 yOf:=y2j
def atV (a0:List Int) (i:Int):Int:=bif ltb i (a0.length:Int)then nth a0 i 0 else(i*31+(a0.length:Int)*7).tmod 256
theorem y0M {a0:List Int} {i:Int} (hb:a0.length≤140737488355328) (hx: ∀x∈a0,0≤x∧x≤255) (i0:0≤i) (i1:i≤1000):yjf a0 i=some ((atV a0 i,()),())∧0≤atV a0 i∧atV a0 i≤255:=by
 unfold yjf atV;by_cases h:i<(a0.length:Int)
 ·have hi:inb i a0.length=true:=zj4.2 ⟨i0,h⟩
  have hr:=yB4 (P:=fun x:Int=>0≤x∧x≤255) (d:=0) hi hx;rw[zkw h,hi,wq (nth a0 i 0) (by omega) (by omega)];exact⟨rfl,hr⟩
 ·rw[zk1 (by omega),cond_false,cond_false,wq (i*31) (by omega) (by omega),wq ((a0.length:Int)*7) (by omega) (by omega),wq (i*31+(a0.length:Int)*7) (by omega) (by omega)]
  refine⟨rfl,Int.tmod_nonneg _ (by omega),?_⟩;have:=Int.tmod_lt_of_pos (i*31+(a0.length:Int)*7) (show(0:Int)<256 by omega);omega
theorem y2Y {a0:List Int} (h:Ty.Ok (.sl (.int .u8)) a0): ∀x∈a0,0≤x∧x≤255:=fun x hx=>h.2 x hx
theorem y4h {k:Int} {V:Int→Int→Int} {a:dA} {s:Int} {d:List Int} (h:Ix k V a) (hk:k<59990) (hs:yL a.2.1 s=true) (hl:(d.length:Int)=a.2.1.1-1) (hd:d.all isW=true):yP a s d=0:=by
 have h1:=yV.1 hs;have hg:=yl.1 h1.1;have:=h.xg;have:=h.xs;unfold yP;simp only[yff,yhR,ybM,yD4 h,hd,show a.2.2.2.2.2.2.2.2.2.2.1=false from h.xu,h.xb,wq (a.2.1.1-1) (by omega) (by omega),wq (a.2.1.2-1) (by omega) (by omega),hl,bne_self_eq_false,zk0 h1.2.1,zk0 h1.2.2,zkZ (show a.2.2.2.2.2.1<60000 by omega),zkZ (show a.2.2.2.2.2.2.2.1<59990 by omega)];rfl
theorem y4C {N p i:Int} (h:3≤N∧N≤5) (hp:0≤p∧p≤N-1) (hi:0≤i∧i≤N-2):(p+1+i).tmod N≠p∧((p+1+i).tmod N-p-1+N).tmod N=i:=by
 have e1:(p+1+i).tmod N=(p+1+i) % N:=Int.tmod_eq_emod_of_nonneg (by omega);rw[e1];have h0:0≤(p+1+i) % N∧(p+1+i) % N<N:=⟨Int.emod_nonneg _ (by omega),Int.emod_lt_of_pos _ (by omega)⟩;rw[Int.tmod_eq_emod_of_nonneg (by omega)];have:N=3∨N=4∨N=5:=by omega
 rcases this with rfl | rfl | rfl<;>omega
theorem y3C {g:dG} {s i:Int} (hs:yL g s=true) (h0:0≤i) (h1:i≤g.1-2):yaQ g s i=(yk g s+1+i).tmod g.1:=by
 unfold yaQ;rw[hs,zk0 h0,zk0 h1]; rfl
theorem y2W {V:Int→Int→Int} {g:dG} {s:Int} {d:List Int} (hs:yL g s=true) (hl:(d.length:Int)=g.1-1):yey (ycc V g s d) g s=d:=by
 have hg:=yl.1 (yV.1 hs).1;have hp:=yi5 hs;refine List.ext_getElem (by rw[yxD]; omega) fun i h1 h2=> ?_
 rw[yxD]at h1;have hdi:=yLM hs (show(0:Int)≤(i:Int)by omega) (show(i:Int)≤g.1-2 by omega);have e:(yey (ycc V g s d) g s)[i]'(by rw[yxD]; exact h1)=nth (ydL (ycc V g s d) g.1 s) (yaQ g s i) 0:=by unfold yey; simp
 rw[e,yR0 _ hdi.1 (by omega)];obtain⟨r1,r2⟩:=y4C (i:=(i:Int)) hg.1 hp (by omega);unfold ycc ycd;rw[beq_self_eq_true,cond_true,y3C hs (by omega) (by omega),show((yk g s+1+(i:Int)).tmod g.1==yk g s)=false from beq_eq_false_iff_ne.2 r1,cond_false,r2,zkQ,zkH h2]
theorem y1f {V:Int→Int→Int} {g:dG} {s t:Int} {d:List Int} (hts:t≠s):yey (ycc V g s d) g t=yey V g t:=by
 unfold yey ydL ycc;rw[show(t==s)=false from beq_eq_false_iff_ne.2 hts]; rfl
theorem y2Z {a0:List Int} (hb:a0.length≤140737488355328) (hx: ∀x∈a0,0≤x∧x≤255) (f:Int) (h0:0≤f) (h1:f≤257) (j n:Nat) (hn:n+j≤900):((List.range n).map (fun(i:Nat)=>atV a0 ((i:Int)+j)*f)).all isW=true:=by
 rw[yB1];intro x hx';obtain⟨i,hi,rfl⟩:=List.mem_map.1 hx';have hi:=List.mem_range.1 hi;obtain⟨_,a1,a2⟩:=y0M (i:=(i:Int)+j) hb hx (by omega) (by omega);refine yoT.2 ⟨Int.mul_nonneg a1 h0,?_⟩;have:=Int.mul_le_mul a2 h1 h0 (by omega:(0:Int)≤255);omega
theorem y2v {f:Nat→List Int} {c:Nat} (hc:0<c) (h: ∀i,(f i).length=c): ∀n,((List.range n).flatMap f).length=c*n∧ ∀b:Nat,b<c*n→nth ((List.range n).flatMap f) b 0=nth (f (b / c)) ((b % c:Nat):Int) 0
 | 0=>⟨by simp,fun b hb=>by simp at hb⟩
 | n+1=>by
  obtain⟨h1,h2⟩:=y2v hc h n
  have e:(List.range (n+1)).flatMap f=(List.range n).flatMap f++f n:=by
   rw[List.range_succ,List.flatMap_append]; simp
  rw[e];refine⟨by rw[List.length_append,h1,h n,Nat.mul_succ],fun b hb=> ?_⟩;rw[zkQ,List.getD_eq_getElem?_getD];by_cases hlt:b<c*n
  ·rw[List.getElem?_append_left (by rw[h1]; exact hlt),← List.getD_eq_getElem?_getD,← zkQ,h2 b hlt]
  ·rw[Nat.mul_succ]at hb
   have hd:b / c=n:=by
    rw[Nat.div_eq_of_lt_le]
    ·rw[Nat.mul_comm]; omega
    ·rw[Nat.mul_comm,Nat.mul_succ]; omega
   have hm:b % c=b-c*n:=by
    have:=Nat.div_add_mod b c;rw[hd]at this; omega
   rw[List.getElem?_append_right (by rw[h1]; omega),h1,hd,hm,zkQ,List.getD_eq_getElem?_getD]
def yfa (V:Int→Int→Int) (g:dG):List Int:=(List.range g.2.toNat).flatMap (fun(s:Nat)=>yey V g s)
theorem yB0 {V:Int→Int→Int} {g:dG} (hg:yd g=true):((yfa V g).length:Int)=yq g∧ ∀b:Nat,(b:Int)<yq g→yeP g b=true∧(0≤yY g b∧yY g b<g.2)∧(0≤ybN g b∧ybN g b<g.1-1)∧nth (yfa V g) b 0=nth (yey V g (yY g b)) (ybN g b) 0:=by
 have h1:=yl.1 hg;obtain⟨f1,f2⟩:=y2v (f:=fun(s:Nat)=>yey V g s) (c:=(g.1-1).toNat) (by omega) (fun i=>yxD V g i) g.2.toNat
 have hB:yq g=(((g.1-1).toNat*g.2.toNat:Nat):Int):=by
  rw[yxr hg,Int.natCast_mul,Int.mul_comm,show(((g.1-1).toNat:Nat):Int)=g.1-1 by omega,show((g.2.toNat:Nat):Int)=g.2 by omega]
 refine⟨by rw[hB]; unfold yfa; rw[f1],fun b hb=> ?_⟩
 have hok:yeP g b=true:=by
  unfold yeP;rw[zk0 (show(0:Int)≤b by omega),zk0 (show(b:Int)≤yq g-1 by omega)]; rfl
 obtain⟨_,b1,b2⟩:=yns hok
 have e1:yY g b=((b / (g.1-1).toNat:Nat):Int):=by
  unfold yY;rw[hok,cond_true,Int.tdiv_eq_ediv_of_nonneg (by omega),Int.natCast_ediv,show(((g.1-1).toNat:Nat):Int)=g.1-1 by omega]
 have e2:ybN g b=((b % (g.1-1).toNat:Nat):Int):=by
  unfold ybN;rw[hok,cond_true,Int.tmod_eq_emod_of_nonneg (by omega),Int.natCast_emod,show(((g.1-1).toNat:Nat):Int)=g.1-1 by omega]
 have e3:yY g b=(b:Int).tdiv (g.1-1):=by unfold yY; rw[hok]; rfl
 have e4:ybN g b=(b:Int).tmod (g.1-1):=by unfold ybN; rw[hok]; rfl
 refine⟨hok,by rw[e3]; omega,by rw[e4]; omega,?_⟩;have hlt:(b:Int)<(((g.1-1).toNat*g.2.toNat:Nat):Int):=by omega
 have:=f2 b (by omega);unfold yfa;rw[this,e1,e2]
def yLU (g:dG) (s:Int) (d before after:List Int) (p:Bool×Bool) (b:Nat):Bool×Bool :=bif yY g b !=s then p else(p.1&&(nth after b 0==nth before b 0),p.2&&(nth after b 0==nth d (ybN g b) 0))
theorem yYR {V W:Int→Int→Int} {g:dG} {s:Int} {d:List Int} (hg:yd g=true) (hs:yL g s=true) (hl:(d.length:Int)=g.1-1) (hW:W=V∨W=ycc V g s d): ∀n:Nat,(n:Int)≤yq g →
  (W=V→((List.range n).foldl (yLU g s d (yfa V g) (yfa W g)) (true,true)).1=true)∧(W=ycc V g s d→((List.range n).foldl (yLU g s d (yfa V g) (yfa W g)) (true,true)).2=true)
 | 0,_=>⟨fun _=>rfl,fun _=>rfl⟩
 | n+1,hn=>by
  obtain⟨h1,h2⟩:=yYR hg hs hl hW n (by omega);obtain⟨_,a1⟩:=yB0 (V:=V) hg;obtain⟨_,a2⟩:=yB0 (V:=W) hg;obtain⟨b1,b2,b3,b4⟩:=a1 n (by omega);obtain⟨_,_,_,b5⟩:=a2 n (by omega);rw[List.range_succ,List.foldl_append,List.foldl_cons,List.foldl_nil];generalize (List.range n).foldl (yLU g s d (yfa V g) (yfa W g)) (true,true)=p at h1 h2;unfold yLU;cases hx:(yY g n !=s)
  ·have hx:=bne_eq_false_iff_eq.1 hx
   refine⟨fun e=> ?_,fun e=> ?_⟩
   ·rw[cond_false,h1 e,e,beq_self_eq_true]; rfl
   ·rw[cond_false,h2 e,b5,e,hx,y2W hs hl,beq_self_eq_true]; rfl
  ·exact⟨h1,h2⟩
theorem y3p {V W:Int→Int→Int} {g:dG} {s:Int} {d:List Int} (hg:yd g=true) (hW:W=V∨W=ycc V g s d) {b:Nat} (hb:(b:Int)<yq g) (hx:(yY g b !=s)=true):nth (yfa W g) b 0=nth (yfa V g) b 0:=by
 obtain⟨_,a1⟩:=yB0 (V:=V) hg;obtain⟨_,a2⟩:=yB0 (V:=W) hg;rw[(a1 b hb).2.2.2,(a2 b hb).2.2.2];rcases hW with rfl | rfl
 ·rfl
 ·rw[y1f (bne_iff_ne.1 hx)]
theorem y4Q {K s:Int} {d:List Int} {V:Int→Int→Int} {a:dA} (h:Lv K V a) (hs:yL a.2.1 s=true) (hl:(d.length:Int)=a.2.1.1-1) (hd:d.all isW=true) (hq:a.2.2.2.2.2.1<60000) (hk:K+1≤60000) :
  Dd (K+2) (fun W=>W=ycc V a.2.1 s d∨(W=V∧(yz a s d).1≠0)) (yz a s d).2:=by
 obtain⟨h1,h2⟩:=y1x h hs hl hd hq hk;generalize yz a s d=X at h1 h2;rcases Bool.eq_false_or_eq_true (ya X.2)with hu | hu
 ·obtain⟨g1,g2⟩:=h2 hu
  refine ylP g1 (Int.le_refl _) fun W hW=> ?_
  rcases hW with hW | hW
  ·exact .inr ⟨hW,g2⟩
  ·exact .inl hW
 ·obtain⟨B0,hr⟩:=(h1 hu).1.r
  exact ylP (yVO hr (h1 hu).1.x.xg (h1 hu).1.x.xs) (Int.le_refl _) fun W hW=> .inl hW
def yLX:Code:=(f130.body).getD .skip
def yL9:Env:=zku TT [(97,ylY),(98,ynu),(99,ynt),(158,yaG)] []
theorem yH2:FrOk prog ⟨yL9,44,fun _=>none⟩ yLX:=zky yf yg ⟨yyE,yBt,yBs,ybH,trivial⟩
abbrev ydM:List Par:= [.pt tA (.pr .fz (.pr (.pr .fz .fz) (.pr (.ow (.pr (.ow (.ow .fz)) (.pr (.ow (.pr .fz (.ow .fz))) (.pr .fz (.ow .fz))))) (.pr .fz (.pr .fz (.pr .fz (.pr .fz (.pr .fz (.pr (.ow (.pr .fz (.ow .fz))) (.pr .fz (.pr .fz .fz))))))))))),.rd tI,.rd tL]
abbrev ygg:List OT:= [⟨false,tB,.fz⟩]
def ymb (a0:dA) (a1:Int) (a2:List Int):Option (zaY ygg×zak ydM) :=bif(leb 4 (i64.wrap (a0.2.2.2.2.2.1-a0.2.2.2.2.2.2.1)))then bnd (yhp a0) fun r1 =>bif(!r1.1.1)then some ((false,()),(r1.2.1,())) else let r2:=yx a2;bnd (ybc r1.2.1 (r1.2.1.2.2.2.2.2.1,a1,r2)) fun r3 =>bif(!r3.1.1)then some ((false,()),(r3.2.1,())) else bnd (ya1 (r3.2.1.1,r3.2.1.2.1,r3.2.1.2.2.1,r3.2.1.2.2.2.1,r3.2.1.2.2.2.2.1,(i64.wrap (r3.2.1.2.2.2.2.2.1+1)),r3.2.1.2.2.2.2.2.2) a1 a2) fun r4 =>some ((r4.1.1,()),(r4.2.1,())) else let r5:=yx a2;bnd (ybc a0 (a0.2.2.2.2.2.1,a1,r5)) fun r6 =>bif(!r6.1.1)then some ((false,()),(r6.2.1,())) else bnd (ya1 (r6.2.1.1,r6.2.1.2.1,r6.2.1.2.2.1,r6.2.1.2.2.2.1,r6.2.1.2.2.2.2.1,(i64.wrap (r6.2.1.2.2.2.2.2.1+1)),r6.2.1.2.2.2.2.2.2) a1 a2) fun r7 =>some ((r7.1.1,()),(r7.2.1,()))
theorem yJn:ConOk prog 130 ⟨ydM,ygg,fun x=>ymb x.1 x.2.1 x.2.2.1⟩:=zkG (yH2) func130 ntmps130.symm fun x=>by kernel_rfl
def ygo (a0:dA) (a1:Int) (a2:List Int):Bool×dA:=(!(ya (yz a0 a1 a2).2),(yz a0 a1 a2).2)
def ygq (a0:dA) (a1:Int) (a2:List Int):Bool:= !(ya a0)&&(yL a0.2.1 a1&&((a2.length:Int)==a0.2.1.1-1&&(a0.2.2.1.length:Int)==a0.2.1.1))
theorem yK7 (a0:dA) (a1:Int) (a2:List Int) (hk:zjw ydM (a0,a1,a2,())) (hq:ygq a0 a1 a2=true):ymb a0 a1 a2=(fun n=>some ((n.1,()),(n.2,()))) (ygo a0 a1 a2):=by
 simp only[ygq,Bool.and_eq_true,beq_iff_eq,Bool.not_eq_true']at hq;obtain⟨hd0,hs0,hl0,hm0⟩:=hq
 have key: ∀b:dA,b.2.1=a0.2.1→b.2.2.1.length=a0.2.2.1.length→ya (yo b (b.2.2.2.2.2.1,a1,a2))=false→ya1 (yC (yo b (b.2.2.2.2.2.1,a1,a2))) a1 a2=some ((!(ya (yB (yC (yo b (b.2.2.2.2.2.1,a1,a2))) a1 a2)),()),(yB (yC (yo b (b.2.2.2.2.2.1,a1,a2))) a1 a2,())):=fun b h1 h2 h3=>yBv _ _ _ (by
  unfold yeG;rw[show ya (yC (yo b (b.2.2.2.2.2.1,a1,a2)))=ya (yo b (b.2.2.2.2.2.1,a1,a2))from rfl,h3,show(yC (yo b (b.2.2.2.2.2.1,a1,a2))).2.1=a0.2.1 from(yah (ya2 _ _)).trans h1,show(yC (yo b (b.2.2.2.2.2.1,a1,a2))).2.2.1.length=a0.2.2.1.length from(yHM _ _).trans h2,hs0,hl0,hm0]
  simp)
 have fin: ∀b:dA,b.2.1=a0.2.1→b.2.2.1.length=a0.2.2.1.length→ya b=false →
   (bnd (ybc b (b.2.2.2.2.2.1,a1,a2)) fun r3=>bif !r3.1.1 then some ((false,()),(r3.2.1,()))else bnd (ya1 (yC r3.2.1) a1 a2) fun r4=>(some ((r4.1.1,()),(r4.2.1,())):Option (zaY ygg×zak ydM))) =
   some ((!(ya (bif ya (yo b (b.2.2.2.2.2.1,a1,a2))then(6,yo b (b.2.2.2.2.2.1,a1,a2))else(bif ya (yB (yC (yo b (b.2.2.2.2.2.1,a1,a2))) a1 a2)then 6 else 0,yB (yC (yo b (b.2.2.2.2.2.1,a1,a2))) a1 a2):Int×dA).2),()),((bif ya (yo b (b.2.2.2.2.2.1,a1,a2))then(6,yo b (b.2.2.2.2.2.1,a1,a2))else(bif ya (yB (yC (yo b (b.2.2.2.2.2.1,a1,a2))) a1 a2)then 6 else 0,yB (yC (yo b (b.2.2.2.2.2.1,a1,a2))) a1 a2):Int×dA).2,())):=fun b h1 h2 h3=>by
  rw[yyG b _ (by unfold ydS; rw[h3]; rfl)];have hk:=key b h1 h2;simp only[zkF,ygn];generalize yo b (b.2.2.2.2.2.1,a1,a2)=R at hk ⊢;rcases Bool.eq_false_or_eq_true (ya R)with hr | hr
  ·simp only[hr,Bool.not_true,Bool.not_false,cond_true]
  ·rw[hk hr]
   simp only[hr,Bool.not_false,Bool.not_true,cond_false,zkF]
 unfold ymb ygo yz yv;simp only[yx];cases h4:leb 4 (i64.wrap (a0.2.2.2.2.2.1-a0.2.2.2.2.2.2.1))
 ·simp only[cond_false]
  have:=fin a0 rfl rfl hd0;unfold yC at this ⊢;rw[this];rw[show ya a0=false from hd0]; rfl
 ·simp only[cond_true]
  rw[yBu a0 (by unfold yhr; rw[hd0]; rfl)];simp only[zkF,yhh];rcases Bool.eq_false_or_eq_true (ya (yp a0))with hc | hc
  ·simp only[hc,Bool.not_true,Bool.not_false,cond_true]
  ·have:=fin (yp a0) (yJU a0) (yYu a0) hc
   simp only[hc,Bool.not_false,Bool.not_true,cond_false];unfold yC at this ⊢;exact this
def yjE (a0:dA) (a1:Int) (a2:List Int):Option (zaY ygg×zak ydM):=bif ygq a0 a1 a2 then(fun n=>some ((n.1,()),(n.2,()))) (ygo a0 a1 a2)else none
theorem yLm (a0:dA) (a1:Int) (a2:List Int) (h:ygq a0 a1 a2=true):yjE a0 a1 a2=(fun n=>some ((n.1,()),(n.2,()))) (ygo a0 a1 a2):=by unfold yjE; rw[h]; rfl
def yvu:Con:=⟨ydM,ygg,fun x=>yjE x.1 x.2.1 x.2.2.1⟩
theorem yLh:ConOk prog 130 yvu:=(yJn).mono (fun x r hk h=>zkW h (fun hq=>yK7 x.1 x.2.1 x.2.2.1 hk hq))
def yZd:Code:=(f131.body).getD .skip
def yZK:Env:=zku TT [] []
theorem yPj:FrOk prog ⟨yZK,4,fun _=>none⟩ yZd:=zky yf yg trivial
abbrev yzd:List Par:= [.rd tB]
abbrev yzE:List OT:= [⟨false,tI,.fz⟩]
def yF3 (a0:Bool):Option (zaY yzE×zak yzd) :=bif a0 then some ((0,()),()) else some ((6,()),())
theorem yUF:ConOk prog 131 ⟨yzd,yzE,fun x=>yF3 x.1⟩:=zkG (yPj) func131 ntmps131.symm fun x=>by kernel_rfl
def yq7 (a0:Bool):Int :=bif a0 then 0 else 6
def yFo:Con:=⟨yzd,yzE,fun x=>(fun n=>some ((n,()),())) (yq7 x.1)⟩
theorem yW5 (a0:Bool):yF3 a0=(fun n=>some ((n,()),())) (yq7 a0):=zkT (p:=fun(n:Int)=>((n,()),())) (zkE (p:=fun(n:Int)=>((n,()),())) rfl rfl)
theorem yXY:ConOk prog 131 yFo:=(yUF).mono (fun x r _ h=>(yW5 x.1).trans h)
def yJC:Code:=(f58.body).getD .skip
def yJH:Env:=zku TT [(55,yez),(95,ykW),(109,yc5),(129,yuc),(130,yvu),(131,yFo)] []
theorem yHe:FrOk prog ⟨yJH,55,fun _=>none⟩ yJC:=zky yf yg ⟨yhP,yuQ,ygp,yHs,yLh,yXY,trivial⟩
abbrev yhZ:List Par:= [.rd tA,.rd tI,.rd tL]
abbrev ynp:List OT:= [⟨false,tA,(.pr .fz (.pr (.pr .fz .fz) (.pr (.ow (.pr (.ow (.ow .fz)) (.pr (.ow (.pr .fz (.ow .fz))) (.pr .fz (.ow .fz))))) (.pr .fz (.pr .fz (.pr .fz (.pr .fz (.pr .fz (.pr (.ow (.pr .fz (.ow .fz))) (.pr .fz (.pr .fz .fz)))))))))))⟩,⟨false,tI,.fz⟩]
def yk8 (a0:dA) (a1:Int) (a2:List Int):Option (zaY ynp×zak yhZ) :=let r1:=ybP a0;let r2:=yO a0;bif(!(!r2))then let r3:=yd8 a0.2.1 a2;bif(!r3)then some ((r1,1,()),()) else bif a0.2.2.2.2.2.2.2.2.2.2.1 then some ((r1,6,()),()) else let r4:=yaC a0.2.1 a1;bif(!r4)then some ((r1,2,()),()) else bif a0.2.2.2.2.2.2.2.2.2.2.2 then some ((r1,5,()),()) else bif(!(a0.2.2.2.2.2.1==60000))then bif(leb 59990 a0.2.2.2.2.2.2.2.1)then some ((r1,7,()),()) else bnd (yjE r1 a1 a2) fun r5 =>let r6:=yq7 r5.1.1;some ((r5.2.1,r6,()),()) else some ((r1,7,()),()) else some ((r1,1,()),())
theorem yIj:ConOk prog 58 ⟨yhZ,ynp,fun x=>yk8 x.1 x.2.1 x.2.2.1⟩:=zkG (yHe) func58 ntmps58.symm fun x=>by kernel_rfl
def yfd (a0:dA) (a1:Int) (a2:List Int):dA×Int:=yIz a0 a1 a2
theorem yJj (a0:dA) (a1:Int) (a2:List Int) (hk:zjw yhZ (a0,a1,a2,())):yk8 a0 a1 a2=(fun n=>some ((n.1,n.2,()),())) (yfd a0 a1 a2):=by
 have hz:=fun h=>yxU (a:=a0) (s:=a1) (d:=a2) h
 unfold yk8 yfd yIz;unfold yP at hz ⊢;simp only[ybP,yO,yff,yhR,ybM]at hz ⊢;cases ha:yal a0
 ·rfl
 have hg:=yl.1 (yiK ha);have hc:=(yB2.1 ha).1;unfold yT at hc
 have hdo:yd8 a0.2.1 a2=((a2.length:Int)==a0.2.1.1-1&&a2.all isW):=by
  unfold yd8;rw[yuA,wq (a0.2.1.1-1) (by omega) (by omega)];cases((a2.length:Int)==a0.2.1.1-1)<;>rfl
 rw[hdo,yxE,show yL a0.2.1 a1=(leb 0 a1&&leb a1 (a0.2.1.2-1))by unfold yL; rw[yiK ha]; rfl];rw[ha,wq (a0.2.1.1-1) (by omega) (by omega),wq (a0.2.1.2-1) (by omega) (by omega)]at hz;rw[wq (a0.2.1.1-1) (by omega) (by omega),wq (a0.2.1.2-1) (by omega) (by omega)];rw[show(a0.2.2.2.2.2.1==60000)=leb 60000 a0.2.2.2.2.2.1 by rw[Bool.eq_iff_iff,beq_iff_eq,zj5]; omega];unfold bne at hz ⊢;cases hl:((a2.length:Int)==a0.2.1.1-1)
 ·rfl
 cases hw:a2.all isW
 ·rfl
 rcases Bool.eq_false_or_eq_true a0.2.2.2.2.2.2.2.2.2.2.1 with hd | hd
 ·simp only[hd,Bool.not_true,Bool.not_false,Bool.and_self,cond_true,cond_false]; rfl
 cases hs:(leb 0 a1&&leb a1 (a0.2.1.2-1))
 ·simp only[hd,Bool.not_true,Bool.not_false,Bool.and_self,cond_true,cond_false]; rfl
 rcases Bool.eq_false_or_eq_true a0.2.2.2.2.2.2.2.2.2.2.2 with hb | hb
 ·simp only[hd,hb,Bool.not_true,Bool.not_false,Bool.and_self,cond_true,cond_false]; rfl
 cases h6:leb 60000 a0.2.2.2.2.2.1
 ·cases h7:leb 59990 a0.2.2.2.2.2.2.2.1
  ·simp only[hd,hb,Bool.not_true,Bool.not_false,Bool.and_self,cond_true,cond_false,beq_self_eq_true]
   have hso:yL a0.2.1 a1=true:=by unfold yL; rw[yiK ha,hs]; rfl
   rw[yLm a0 a1 a2 (by unfold ygq; rw[show ya a0=false from hd,hso,hl,beq_iff_eq.2 (yE2 ha)]; rfl)];simp only[zkF,ygo,yq7];rw[y3t];cases ya (yz a0 a1 a2).2<;>rfl
  ·simp only[hd,hb,Bool.not_true,Bool.not_false,Bool.and_self,cond_true,cond_false]; rfl
 ·simp only[hd,hb,Bool.not_true,Bool.not_false,Bool.and_self,cond_true,cond_false]; rfl
def yub:Con:=⟨yhZ,ynp,fun x=>(fun n=>some ((n.1,n.2,()),())) (yfd x.1 x.2.1 x.2.2.1)⟩
theorem yJs:ConOk prog 58 yub:=(yIj).mono (fun x r hk h=>(yJj x.1 x.2.1 x.2.2.1 hk).trans h)
def yY5:Code:=(f51.body).getD .skip
def yZC:Env:=zku TT [(123,ygy)] []
theorem yO7:FrOk prog ⟨yZC,12,fun _=>none⟩ yY5:=zky yf yg ⟨ylI,trivial⟩
abbrev yy9:List Par:= [.rd tG]
abbrev yzu:List OT:= [⟨false,tI,.fz⟩]
def yFZ (a0:dG):Option (zaY yzu×zak yy9) :=let r1:=ybG a0;bif(!r1)then some ((0,()),()) else some (((i64.wrap (a0.2*(i64.wrap (a0.1-1)))),()),())
theorem yUv:ConOk prog 51 ⟨yy9,yzu,fun x=>yFZ x.1⟩:=zkG (yO7) func51 ntmps51.symm fun x=>by kernel_rfl
def ylw (a0:dG):Int :=let r1:=ybG a0;bif(!r1)then 0 else (i64.wrap (a0.2*(i64.wrap (a0.1-1))))
def yFj:Con:=⟨yy9,yzu,fun x=>(fun n=>some ((n,()),())) (ylw x.1)⟩
theorem yWV (a0:dG):yFZ a0=(fun n=>some ((n,()),())) (ylw a0):=zkT (p:=fun(n:Int)=>((n,()),())) (zkE (p:=fun(n:Int)=>((n,()),())) rfl rfl)
theorem yXT:ConOk prog 51 yFj:=(yUv).mono (fun x r _ h=>(yWV x.1).trans h)
theorem yWR (a:Int×Int):ylw a=yq a:=by kernel_rfl
def yR8:Code:=(f132.body).getD .skip
def ySC:Env:=zku TT [(51,yFj),(81,yN)] []
theorem yKj:FrOk prog ⟨ySC,10,fun _=>none⟩ yR8:=zky yf yg ⟨yXT,y9,trivial⟩
abbrev ytq:List Par:= [.rd tG,.rd tI]
abbrev ytM:List OT:= [⟨false,tB,.fz⟩]
def yBx (a0:dG) (a1:Int):Option (zaY ytM×zak ytq) :=let r1:=ylw a0;let r2:=yi a1 0 (i64.wrap (r1-1));some ((r2,()),())
theorem yNJ:ConOk prog 132 ⟨ytq,ytM,fun x=>yBx x.1 x.2.1⟩:=zkG (yKj) func132 ntmps132.symm fun x=>by kernel_rfl
def yfw (a0:dG) (a1:Int):Bool :=let r1:=ylw a0;let r2:=yi a1 0 (i64.wrap (r1-1));r2
def ypz:Con:=⟨ytq,ytM,fun x=>(fun n=>some ((n,()),())) (yfw x.1 x.2.1)⟩
theorem yQK (a0:dG) (a1:Int):yBx a0 a1=(fun n=>some ((n,()),())) (yfw a0 a1):=zkT (p:=fun(n:Bool)=>((n,()),())) rfl
theorem yEg:ConOk prog 132 ypz:=(yNJ).mono (fun x r _ h=>(yQK x.1 x.2.1).trans h)
theorem yOk (g:dG) (b:Int):yfw g b=yeP g b:=by
 unfold yfw;simp only[yWR,yao,y1e]
def yR5:Code:=(f59.body).getD .skip
def ySz:Env:=zku TT [(132,ypz)] []
theorem yKe:FrOk prog ⟨ySz,14,fun _=>none⟩ yR5:=zky yf yg ⟨yEg,trivial⟩
abbrev ymw:List Par:= [.rd tG,.rd tI]
abbrev ytI:List OT:= [⟨false,tI,.fz⟩]
def ypX (a0:dG) (a1:Int):Option (zaY ytI×zak ymw) :=let r1:=yfw a0 a1;bif(!r1)then some (((-1),()),()) else bif((i64.wrap (a0.1-1)) !=0)then some (((i64.wrap (a1.tdiv (i64.wrap (a0.1-1)))),()),()) else none
theorem yNF:ConOk prog 59 ⟨ymw,ytI,fun x=>ypX x.1 x.2.1⟩:=zkG (yKe) func59 ntmps59.symm fun x=>by kernel_rfl
def yiW (a0:dG) (a1:Int):Int:=yY a0 a1
theorem yQG (a0:dG) (a1:Int) (hk:zjw ymw (a0,a1,())):ypX a0 a1=(fun n=>some ((n,()),())) (yiW a0 a1):=by
 unfold ypX yiW yY;rw[yOk];cases hb:yeP a0 a1
 ·rfl
 ·obtain⟨h1,h2,h3⟩:=yns hb
  have h4:=yl.1 h1;rw[wq (a0.1-1) (by omega) (by omega),show(a0.1-1 !=0)=true from bne_iff_ne.2 (by omega),wr (by omega) (by omega)]; rfl
def yAP:Con:=⟨ymw,ytI,fun x=>(fun n=>some ((n,()),())) (yiW x.1 x.2.1)⟩
theorem yRu:ConOk prog 59 yAP:=(yNF).mono (fun x r hk h=>(yQG x.1 x.2.1 hk).trans h)
def yVU:Code:=(f60.body).getD .skip
def yWl:Env:=zku TT [(132,ypz)] []
theorem yMy:FrOk prog ⟨yWl,14,fun _=>none⟩ yVU:=zky yf yg ⟨yEg,trivial⟩
abbrev yox:List Par:= [.rd tG,.rd tI]
abbrev ywy:List OT:= [⟨false,tI,.fz⟩]
def yrW (a0:dG) (a1:Int):Option (zaY ywy×zak yox) :=let r1:=yfw a0 a1;bif(!r1)then some (((-1),()),()) else bif((i64.wrap (a0.1-1)) !=0)then some (((a1.tmod (i64.wrap (a0.1-1))),()),()) else none
theorem yQZ:ConOk prog 60 ⟨yox,ywy,fun x=>yrW x.1 x.2.1⟩:=zkG (yMy) func60 ntmps60.symm fun x=>by kernel_rfl
def ygD (a0:dG) (a1:Int):Int:=ybN a0 a1
theorem yT8 (a0:dG) (a1:Int) (hk:zjw yox (a0,a1,())):yrW a0 a1=(fun n=>some ((n,()),())) (ygD a0 a1):=by
 unfold yrW ygD ybN;rw[yOk];cases hb:yeP a0 a1
 ·rfl
 ·obtain⟨h1,h2,h3⟩:=yns hb
  have h4:=yl.1 h1;rw[wq (a0.1-1) (by omega) (by omega),show(a0.1-1 !=0)=true from bne_iff_ne.2 (by omega)]; rfl
def yDh:Con:=⟨yox,ywy,fun x=>(fun n=>some ((n,()),())) (ygD x.1 x.2.1)⟩
theorem yVd:ConOk prog 60 yDh:=(yQZ).mono (fun x r hk h=>(yT8 x.1 x.2.1 hk).trans h)
def yfD:Code:=(f8.body).getD .skip
def yli:Env:=zku TT [(14,yJV),(19,yDi),(34,yAN),(48,yIE),(52,yDm),(53,yAT),(54,yDe),(55,yez),(57,yOf),(58,yub),(59,yAP),(60,yDh)] []
theorem yPp:FrOk prog ⟨yli,174,fun _=>none⟩ yfD:=zky yf yg ⟨y2k,yVe,yRs,y1J,yVi,yRy,yVa,yhP,y3i,yJs,yRu,yVd,trivial⟩
def yER:Nat→Option Seg:=fun _=>none
def yb6:Shape:=⟨[(0,false,[.fz tY]),(3,false,[.ptr 12416 0]),(5,false,[.at 800000000]),(6,false,[.int .i64]),(7,false,[.int .i64]),(8,false,[.at 800000001]),(9,false,[.int .i64])],[(12416,[.int .i64,.int .i64,.int .i64,.at 800000002,.int .i64,.int .i64,.int .i64,.int .i64,.int .i64,.at 800000003,.int .i64,.bool,.bool])],[(800000000,tI,.fz),(800000001,tI,.fz),(800000002,tM,(.pr (.ow .fz) (.pr (.ow (.pr .fz .fz)) (.pr .fz (.ow .fz))))),(800000003,tW,(.pr .fz .fz))]⟩
def ygb:Shape:=⟨[(0,false,[.fz tY]),(3,false,[.ptr 12416 0]),(5,false,[.at 800000000]),(6,false,[.int .i64]),(7,false,[.int .i64]),(8,false,[.at 800000001]),(9,false,[.ci .i64 0])],[(12416,[.int .i64,.int .i64,.int .i64,.at 800000002,.int .i64,.int .i64,.int .i64,.int .i64,.int .i64,.at 800000003,.int .i64,.bool,.bool])],[(800000000,tI,.fz),(800000001,tI,.fz),(800000002,tM,(.pr (.ow .fz) (.pr (.ow (.pr .fz .fz)) (.pr .fz (.ow .fz))))),(800000003,tW,(.pr .fz .fz))]⟩
def yfY:Shape:=⟨[(0,false,[.fz tY]),(3,false,[.ptr 12416 0]),(5,false,[.at 800000000]),(6,false,[.int .i64]),(7,false,[.int .i64]),(8,false,[.at 800000001])],[(12416,[.int .i64,.int .i64,.int .i64,.at 800000002,.int .i64,.int .i64,.int .i64,.int .i64,.int .i64,.at 800000003,.int .i64,.bool,.bool])],[(800000000,tI,.fz),(800000001,tI,.fz),(800000002,tM,(.pr (.ow .fz) (.pr (.ow (.pr .fz .fz)) (.pr .fz (.ow .fz))))),(800000003,tW,(.pr .fz .fz))]⟩
def yjw:Shape:=⟨[],[],[]⟩
abbrev ynL (v0:List Int) (v1 v2 v3:Int) (v4:dA) (v5 v6:List Int):(yb6).X:=(((v0,()),((),()),((),()),(v1,()),(v2,()),((),()),(v3,()),()),((v4.1,v4.2.1.1,v4.2.1.2,(),v4.2.2.2.1,v4.2.2.2.2.1,v4.2.2.2.2.2.1,v4.2.2.2.2.2.2.1,v4.2.2.2.2.2.2.2.1,(),v4.2.2.2.2.2.2.2.2.2.1,v4.2.2.2.2.2.2.2.2.2.2.1,v4.2.2.2.2.2.2.2.2.2.2.2,()),()),(v5,v6,v4.2.2.1,v4.2.2.2.2.2.2.2.2.1,()))
abbrev yKW (v0:List Int) (v1 v2:Int) (v3:dA) (v4 v5:List Int):(ygb).X:=(((v0,()),((),()),((),()),(v1,()),(v2,()),((),()),((),()),()),((v3.1,v3.2.1.1,v3.2.1.2,(),v3.2.2.2.1,v3.2.2.2.2.1,v3.2.2.2.2.2.1,v3.2.2.2.2.2.2.1,v3.2.2.2.2.2.2.2.1,(),v3.2.2.2.2.2.2.2.2.2.1,v3.2.2.2.2.2.2.2.2.2.2.1,v3.2.2.2.2.2.2.2.2.2.2.2,()),()),(v4,v5,v3.2.2.1,v3.2.2.2.2.2.2.2.2.1,()))
abbrev yyA (v0:List Int) (v1 v2:Int) (v3:dA) (v4 v5:List Int):(yfY).X:=(((v0,()),((),()),((),()),(v1,()),(v2,()),((),()),()),((v3.1,v3.2.1.1,v3.2.1.2,(),v3.2.2.2.1,v3.2.2.2.2.1,v3.2.2.2.2.2.1,v3.2.2.2.2.2.2.1,v3.2.2.2.2.2.2.2.1,(),v3.2.2.2.2.2.2.2.2.2.1,v3.2.2.2.2.2.2.2.2.2.2.1,v3.2.2.2.2.2.2.2.2.2.2.2,()),()),(v4,v5,v3.2.2.1,v3.2.2.2.2.2.2.2.2.1,()))
def yoc (v0:List Int) (v1 v2 v3 v4 v5 v6 v7 v8 v9 v10 v11 v12:Int) (v13 v14:Bool) (v15 v16:List Int) (v17:List dM) (v18:List dW):Option ((yb6).X ⊕ ((yfY).X ⊕ (yjw).X)) :=bif(ltb v3 (i64.wrap (v5-1)))then bnd (yjf v0 (i64.wrap (v3+3))) fun r6 =>bif(zkj v16.length ([(i64.wrap (r6.1.1*200))]:List Int).length 8)then some (.inl (((v0,()),((),()),((),()),(v1,()),(v2,()),((),()),((i64.wrap (v3+1)),()),()),((v4,v5,v6,(),v7,v8,v9,v10,v11,(),v12,v13,v14,()),()),(v15,(v16++([(i64.wrap (r6.1.1*200))]:List Int)),v17,v18,()))) else none else some (.inr (.inl (((v0,()),((),()),((),()),(v1,()),(v2,()),((),()),()),((v4,v5,v6,(),v7,v8,v9,v10,v11,(),v12,v13,v14,()),()),(v15,v16,v17,v18,()))))
def ycs (x:(yb6).X):=yoc x.1.1.1 x.1.2.2.2.1.1 x.1.2.2.2.2.1.1 x.1.2.2.2.2.2.2.1.1 x.2.1.1.1 x.2.1.1.2.1 x.2.1.1.2.2.1 x.2.1.1.2.2.2.2.1 x.2.1.1.2.2.2.2.2.1 x.2.1.1.2.2.2.2.2.2.1 x.2.1.1.2.2.2.2.2.2.2.1 x.2.1.1.2.2.2.2.2.2.2.2.1 x.2.1.1.2.2.2.2.2.2.2.2.2.2.1 x.2.1.1.2.2.2.2.2.2.2.2.2.2.2.1 x.2.1.1.2.2.2.2.2.2.2.2.2.2.2.2.1 x.2.2.1 x.2.2.2.1 x.2.2.2.2.1 x.2.2.2.2.2.1
def yx8 (x:(ygb).X):(yb6).X:=(((x.1.1.1,()),((),()),((),()),(x.1.2.2.2.1.1,()),(x.1.2.2.2.2.1.1,()),((),()),(0,()),()),((x.2.1.1.1,x.2.1.1.2.1,x.2.1.1.2.2.1,(),x.2.1.1.2.2.2.2.1,x.2.1.1.2.2.2.2.2.1,x.2.1.1.2.2.2.2.2.2.1,x.2.1.1.2.2.2.2.2.2.2.1,x.2.1.1.2.2.2.2.2.2.2.2.1,(),x.2.1.1.2.2.2.2.2.2.2.2.2.2.1,x.2.1.1.2.2.2.2.2.2.2.2.2.2.2.1,x.2.1.1.2.2.2.2.2.2.2.2.2.2.2.2.1,()),()),(x.2.2.1,x.2.2.2.1,x.2.2.2.2.1,x.2.2.2.2.2.1,()))
def yAD:Code:=(zeJ yfD 64 2036).getD .skip
theorem yMm:zeJ yfD 64 509=some (.block 0 (.loop yAD)):=by kernel_rfl
theorem yN8 (x:(yb6).X):zhu ⟨yli,174,yER⟩ 0 yAD 2036 yb6 yfY yjw x=ycs x:=by kernel_rfl
def yyo (x:(ygb).X):Nat:=18446744073709551616
def ypl (x:(ygb).X):Option ((yfY).X ⊕ (yjw).X):=zF ycs (yyo x) (yx8 x)
def yyS:Seg:=⟨ygb,yfY,yjw,ypl⟩
def ysT:Nat→Option Seg:=fun q=>bif Nat.beq q 509 then some yyS else yER q
theorem yPq:FrOk prog ⟨yli,174,ysT⟩ yfD:=(yPp).loop (sg:=yyS) yb6 yx8 (by decide) yMm ycs yyo (by decide) (fun _=>rfl) (fun x r _ h=>h) yN8
def yaK:Shape:=⟨[(3,false,[.ptr 12416 0]),(7,false,[.int .i64]),(8,false,[.at 800000000]),(10,false,[.at 800000001]),(12,false,[.int .i64]),(15,false,[.ptr 69696 0]),(16,false,[.at 800000002]),(17,false,[.bool]),(18,false,[.bool]),(19,false,[.int .i64])],[(12416,[.int .i64,.int .i64,.int .i64,.at 800000003,.int .i64,.int .i64,.int .i64,.int .i64,.int .i64,.at 800000004,.int .i64,.bool,.bool]),(69696,[.int .i64,.int .i64,.int .i64,.at 800000005,.int .i64,.int .i64,.int .i64,.int .i64,.int .i64,.at 800000006,.int .i64,.bool,.bool])],[(800000000,tI,.fz),(800000001,tI,.fz),(800000002,tI,.fz),(800000003,tM,(.pr (.ow .fz) (.pr (.ow (.pr .fz .fz)) (.pr .fz (.ow .fz))))),(800000004,tW,(.pr .fz .fz)),(800000005,tM,(.pr (.ow (.ow .fz)) (.pr (.ow (.pr .fz (.ow .fz))) (.pr .fz (.ow .fz))))),(800000006,tW,(.pr .fz (.ow .fz)))]⟩
def yc1:Shape:=⟨[(3,false,[.ptr 12416 0]),(7,false,[.int .i64]),(8,false,[.at 800000000]),(10,false,[.at 800000001]),(12,false,[.int .i64]),(15,false,[.ptr 69696 0]),(16,false,[.at 800000002]),(17,false,[.cb true]),(18,false,[.cb true]),(19,false,[.ci .i64 0])],[(12416,[.int .i64,.int .i64,.int .i64,.at 800000003,.int .i64,.int .i64,.int .i64,.int .i64,.int .i64,.at 800000004,.int .i64,.bool,.bool]),(69696,[.int .i64,.int .i64,.int .i64,.at 800000005,.int .i64,.int .i64,.int .i64,.int .i64,.int .i64,.at 800000006,.int .i64,.bool,.bool])],[(800000000,tI,.fz),(800000001,tI,.fz),(800000002,tI,.fz),(800000003,tM,(.pr (.ow .fz) (.pr (.ow (.pr .fz .fz)) (.pr .fz (.ow .fz))))),(800000004,tW,(.pr .fz .fz)),(800000005,tM,(.pr (.ow (.ow .fz)) (.pr (.ow (.pr .fz (.ow .fz))) (.pr .fz (.ow .fz))))),(800000006,tW,(.pr .fz (.ow .fz)))]⟩
def ycY:Shape:=⟨[(12,false,[.int .i64]),(15,false,[.ptr 69696 0]),(17,false,[.bool]),(18,false,[.bool])],[(69696,[.int .i64,.int .i64,.int .i64,.at 800000000,.int .i64,.int .i64,.int .i64,.int .i64,.int .i64,.at 800000001,.int .i64,.bool,.bool])],[(800000000,tM,(.pr (.ow (.ow .fz)) (.pr (.ow (.pr .fz (.ow .fz))) (.pr .fz (.ow .fz))))),(800000001,tW,(.pr .fz (.ow .fz)))]⟩
def yfq:Shape:=⟨[(2,false,[.bool])],[],[]⟩
abbrev yjb (v0 v1:Int) (v2 v3:Bool) (v4:Int) (v5 v6:dA) (v7 v8 v9:List Int):(yaK).X:=((((),()),(v0,()),((),()),((),()),(v1,()),((),()),((),()),(v2,()),(v3,()),(v4,()),()),((v5.1,v5.2.1.1,v5.2.1.2,(),v5.2.2.2.1,v5.2.2.2.2.1,v5.2.2.2.2.2.1,v5.2.2.2.2.2.2.1,v5.2.2.2.2.2.2.2.1,(),v5.2.2.2.2.2.2.2.2.2.1,v5.2.2.2.2.2.2.2.2.2.2.1,v5.2.2.2.2.2.2.2.2.2.2.2,()),(v6.1,v6.2.1.1,v6.2.1.2,(),v6.2.2.2.1,v6.2.2.2.2.1,v6.2.2.2.2.2.1,v6.2.2.2.2.2.2.1,v6.2.2.2.2.2.2.2.1,(),v6.2.2.2.2.2.2.2.2.2.1,v6.2.2.2.2.2.2.2.2.2.2.1,v6.2.2.2.2.2.2.2.2.2.2.2,()),()),(v7,v8,v9,v5.2.2.1,v5.2.2.2.2.2.2.2.2.1,v6.2.2.1,v6.2.2.2.2.2.2.2.2.1,()))
abbrev yGz (v0 v1:Int) (v2 v3:dA) (v4 v5 v6:List Int):(yc1).X:=((((),()),(v0,()),((),()),((),()),(v1,()),((),()),((),()),((),()),((),()),((),()),()),((v2.1,v2.2.1.1,v2.2.1.2,(),v2.2.2.2.1,v2.2.2.2.2.1,v2.2.2.2.2.2.1,v2.2.2.2.2.2.2.1,v2.2.2.2.2.2.2.2.1,(),v2.2.2.2.2.2.2.2.2.2.1,v2.2.2.2.2.2.2.2.2.2.2.1,v2.2.2.2.2.2.2.2.2.2.2.2,()),(v3.1,v3.2.1.1,v3.2.1.2,(),v3.2.2.2.1,v3.2.2.2.2.1,v3.2.2.2.2.2.1,v3.2.2.2.2.2.2.1,v3.2.2.2.2.2.2.2.1,(),v3.2.2.2.2.2.2.2.2.2.1,v3.2.2.2.2.2.2.2.2.2.2.1,v3.2.2.2.2.2.2.2.2.2.2.2,()),()),(v4,v5,v6,v2.2.2.1,v2.2.2.2.2.2.2.2.2.1,v3.2.2.1,v3.2.2.2.2.2.2.2.2.1,()))
abbrev yqv (v0:Int) (v1 v2:Bool) (v3:dA):(ycY).X:=(((v0,()),((),()),(v1,()),(v2,()),()),((v3.1,v3.2.1.1,v3.2.1.2,(),v3.2.2.2.1,v3.2.2.2.2.1,v3.2.2.2.2.2.1,v3.2.2.2.2.2.2.1,v3.2.2.2.2.2.2.2.1,(),v3.2.2.2.2.2.2.2.2.2.1,v3.2.2.2.2.2.2.2.2.2.2.1,v3.2.2.2.2.2.2.2.2.2.2.2,()),()),(v3.2.2.1,v3.2.2.2.2.2.2.2.2.1,()))
def yjg (v0 v1:Int) (v2 v3:Bool) (v4 v5 v6 v7 v8 v9 v10 v11 v12 v13:Int) (v14 v15:Bool) (v16 v17 v18 v19 v20 v21 v22 v23 v24:Int) (v25 v26:Bool) (v27 v28 v29:List Int) (v30:List dM) (v31:List dW) (v32:List dM) (v33:List dW):Option ((yaK).X ⊕ ((ycY).X ⊕ (yfq).X)) :=bif(ltb v4 (v28.length:Int))then bif(leb (v29.length:Int) v4)then some (.inr (.inr (((false,()),()),(),()))) else let r19:=yiW (v6,v7) v4;bif(r19 !=v0)then bif(inb v4 v29.length)then bif(inb v4 v28.length)then bif((nth v29 v4 0) !=(nth v28 v4 0))then some (.inr (.inr (((false,()),()),(),()))) else some (.inl ((((),()),(v0,()),((),()),((),()),(v1,()),((),()),((),()),(v2,()),(v3,()),((i64.wrap (v4+1)),()),()),((v5,v6,v7,(),v8,v9,v10,v11,v12,(),v13,v14,v15,()),(v16,v17,v18,(),v19,v20,v21,v22,v23,(),v24,v25,v26,()),()),(v27,v28,v29,v30,v31,v32,v33,()))) else none else none else bif v2 then bif(inb v4 v29.length)then bif(inb v4 v28.length)then bif v3 then bif(inb v4 v29.length)then let r20:=ygD (v6,v7) v4;bif(inb r20 v27.length)then some (.inl ((((),()),(v0,()),((),()),((),()),(v1,()),((),()),((),()),(((nth v29 v4 0)==(nth v28 v4 0)),()),(((nth v29 v4 0)==(nth v27 r20 0)),()),((i64.wrap (v4+1)),()),()),((v5,v6,v7,(),v8,v9,v10,v11,v12,(),v13,v14,v15,()),(v16,v17,v18,(),v19,v20,v21,v22,v23,(),v24,v25,v26,()),()),(v27,v28,v29,v30,v31,v32,v33,()))) else none else none else some (.inl ((((),()),(v0,()),((),()),((),()),(v1,()),((),()),((),()),(((nth v29 v4 0)==(nth v28 v4 0)),()),(false,()),((i64.wrap (v4+1)),()),()),((v5,v6,v7,(),v8,v9,v10,v11,v12,(),v13,v14,v15,()),(v16,v17,v18,(),v19,v20,v21,v22,v23,(),v24,v25,v26,()),()),(v27,v28,v29,v30,v31,v32,v33,()))) else none else none else bif v3 then bif(inb v4 v29.length)then let r21:=ygD (v6,v7) v4;bif(inb r21 v27.length)then some (.inl ((((),()),(v0,()),((),()),((),()),(v1,()),((),()),((),()),(false,()),(((nth v29 v4 0)==(nth v27 r21 0)),()),((i64.wrap (v4+1)),()),()),((v5,v6,v7,(),v8,v9,v10,v11,v12,(),v13,v14,v15,()),(v16,v17,v18,(),v19,v20,v21,v22,v23,(),v24,v25,v26,()),()),(v27,v28,v29,v30,v31,v32,v33,()))) else none else none else some (.inl ((((),()),(v0,()),((),()),((),()),(v1,()),((),()),((),()),(false,()),(false,()),((i64.wrap (v4+1)),()),()),((v5,v6,v7,(),v8,v9,v10,v11,v12,(),v13,v14,v15,()),(v16,v17,v18,(),v19,v20,v21,v22,v23,(),v24,v25,v26,()),()),(v27,v28,v29,v30,v31,v32,v33,()))) else some (.inr (.inl (((v1,()),((),()),(v2,()),(v3,()),()),((v16,v17,v18,(),v19,v20,v21,v22,v23,(),v24,v25,v26,()),()),(v32,v33,()))))
def yaU (x:(yaK).X):=yjg x.1.2.1.1 x.1.2.2.2.2.1.1 x.1.2.2.2.2.2.2.2.1.1 x.1.2.2.2.2.2.2.2.2.1.1 x.1.2.2.2.2.2.2.2.2.2.1.1 x.2.1.1.1 x.2.1.1.2.1 x.2.1.1.2.2.1 x.2.1.1.2.2.2.2.1 x.2.1.1.2.2.2.2.2.1 x.2.1.1.2.2.2.2.2.2.1 x.2.1.1.2.2.2.2.2.2.2.1 x.2.1.1.2.2.2.2.2.2.2.2.1 x.2.1.1.2.2.2.2.2.2.2.2.2.2.1 x.2.1.1.2.2.2.2.2.2.2.2.2.2.2.1 x.2.1.1.2.2.2.2.2.2.2.2.2.2.2.2.1 x.2.1.2.1.1 x.2.1.2.1.2.1 x.2.1.2.1.2.2.1 x.2.1.2.1.2.2.2.2.1 x.2.1.2.1.2.2.2.2.2.1 x.2.1.2.1.2.2.2.2.2.2.1 x.2.1.2.1.2.2.2.2.2.2.2.1 x.2.1.2.1.2.2.2.2.2.2.2.2.1 x.2.1.2.1.2.2.2.2.2.2.2.2.2.2.1 x.2.1.2.1.2.2.2.2.2.2.2.2.2.2.2.1 x.2.1.2.1.2.2.2.2.2.2.2.2.2.2.2.2.1 x.2.2.1 x.2.2.2.1 x.2.2.2.2.1 x.2.2.2.2.2.1 x.2.2.2.2.2.2.1 x.2.2.2.2.2.2.2.1 x.2.2.2.2.2.2.2.2.1
def yqn (x:(yc1).X):(yaK).X:=((((),()),(x.1.2.1.1,()),((),()),((),()),(x.1.2.2.2.2.1.1,()),((),()),((),()),(true,()),(true,()),(0,()),()),((x.2.1.1.1,x.2.1.1.2.1,x.2.1.1.2.2.1,(),x.2.1.1.2.2.2.2.1,x.2.1.1.2.2.2.2.2.1,x.2.1.1.2.2.2.2.2.2.1,x.2.1.1.2.2.2.2.2.2.2.1,x.2.1.1.2.2.2.2.2.2.2.2.1,(),x.2.1.1.2.2.2.2.2.2.2.2.2.2.1,x.2.1.1.2.2.2.2.2.2.2.2.2.2.2.1,x.2.1.1.2.2.2.2.2.2.2.2.2.2.2.2.1,()),(x.2.1.2.1.1,x.2.1.2.1.2.1,x.2.1.2.1.2.2.1,(),x.2.1.2.1.2.2.2.2.1,x.2.1.2.1.2.2.2.2.2.1,x.2.1.2.1.2.2.2.2.2.2.1,x.2.1.2.1.2.2.2.2.2.2.2.1,x.2.1.2.1.2.2.2.2.2.2.2.2.1,(),x.2.1.2.1.2.2.2.2.2.2.2.2.2.2.1,x.2.1.2.1.2.2.2.2.2.2.2.2.2.2.2.1,x.2.1.2.1.2.2.2.2.2.2.2.2.2.2.2.2.1,()),()),(x.2.2.1,x.2.2.2.1,x.2.2.2.2.1,x.2.2.2.2.2.1,x.2.2.2.2.2.2.1,x.2.2.2.2.2.2.2.1,x.2.2.2.2.2.2.2.2.1,()))
def yss:Code:=(zeJ yfD 64 8388596).getD .skip
theorem yGU:zeJ yfD 64 2097149=some (.block 2 (.loop yss)):=by kernel_rfl
theorem yHC (x:(yaK).X):zhu ⟨yli,174,ysT⟩ 2 yss 8388596 yaK ycY yfq x=yaU x:=by kernel_rfl
def yqq (x:(yc1).X):Nat:=18446744073709551616
def yfn (x:(yc1).X):Option ((ycY).X ⊕ (yfq).X):=zF yaU (yqq x) (yqn x)
def yqA:Seg:=⟨yc1,ycY,yfq,yfn⟩
def ySl:Nat→Option Seg:=fun q=>bif Nat.beq q 2097149 then some yqA else ysT q
theorem yPr:FrOk prog ⟨yli,174,ySl⟩ yfD:=(yPq).loop (sg:=yqA) yaK yqn (by decide) yGU yaU yqq (by decide) (fun _=>rfl) (fun x r _ h=>h) yHC
abbrev ylm:List Par:= [.kp tYs .fz]
abbrev yq2:List OT:= [⟨false,tB,.fz⟩]
def yu0 (a0:List Int):Option (zaY yq2×zak ylm) :=let r1:=yBX a0;bif r1 then some ((true,()),()) else bnd (yht a0) fun r2 =>bnd (ygr a0) fun r3 =>bnd (yjf a0 2) fun r4 =>bif(r2.1.1.2.1.2 !=0)then zkr (ypl (((a0,()),((),()),((),()),(r3.1.2.2.1,()),((r4.1.1.tmod r2.1.1.2.1.2),()),((),()),((),()),()),((r2.1.1.1,r2.1.1.2.1.1,r2.1.1.2.1.2,(),r2.1.1.2.2.2.1,r2.1.1.2.2.2.2.1,r2.1.1.2.2.2.2.2.1,r2.1.1.2.2.2.2.2.2.1,r2.1.1.2.2.2.2.2.2.2.1,(),r2.1.1.2.2.2.2.2.2.2.2.2.1,r2.1.1.2.2.2.2.2.2.2.2.2.2.1,r2.1.1.2.2.2.2.2.2.2.2.2.2.2,()),()),(r3.1.2.1,([]:List Int),r2.1.1.2.2.1,r2.1.1.2.2.2.2.2.2.2.2.1,()))) (fun y6 =>let r8:=yeC (y6.2.1.1.1,(y6.2.1.1.2.1,y6.2.1.1.2.2.1),y6.2.2.2.2.1,y6.2.1.1.2.2.2.2.1,y6.2.1.1.2.2.2.2.2.1,y6.2.1.1.2.2.2.2.2.2.1,y6.2.1.1.2.2.2.2.2.2.2.1,y6.2.1.1.2.2.2.2.2.2.2.2.1,y6.2.2.2.2.2.1,y6.2.1.1.2.2.2.2.2.2.2.2.2.2.1,y6.2.1.1.2.2.2.2.2.2.2.2.2.2.2.1,y6.2.1.1.2.2.2.2.2.2.2.2.2.2.2.2.1);bif((r8.length:Int)==0)then let r9:=yO (y6.2.1.1.1,(y6.2.1.1.2.1,y6.2.1.1.2.2.1),y6.2.2.2.2.1,y6.2.1.1.2.2.2.2.1,y6.2.1.1.2.2.2.2.2.1,y6.2.1.1.2.2.2.2.2.2.1,y6.2.1.1.2.2.2.2.2.2.2.1,y6.2.1.1.2.2.2.2.2.2.2.2.1,y6.2.2.2.2.2.1,y6.2.1.1.2.2.2.2.2.2.2.2.2.2.1,y6.2.1.1.2.2.2.2.2.2.2.2.2.2.2.1,y6.2.1.1.2.2.2.2.2.2.2.2.2.2.2.2.1);some ((r9,()),()) else let r10:=yfd (y6.2.1.1.1,(y6.2.1.1.2.1,y6.2.1.1.2.2.1),y6.2.2.2.2.1,y6.2.1.1.2.2.2.2.1,y6.2.1.1.2.2.2.2.2.1,y6.2.1.1.2.2.2.2.2.2.1,y6.2.1.1.2.2.2.2.2.2.2.1,y6.2.1.1.2.2.2.2.2.2.2.2.1,y6.2.2.2.2.2.1,y6.1.2.2.2.1.1,y6.2.1.1.2.2.2.2.2.2.2.2.2.2.2.1,y6.2.1.1.2.2.2.2.2.2.2.2.2.2.2.2.1) y6.1.2.2.2.2.1.1 y6.2.2.2.1;let r11:=yfu r10.1;bnd (yjf y6.1.1.1 8) fun r12 =>let r13:=ygE r11.2.2.1 y6.2.2.1 y6.2.1.1.1 (r12.1.1.tmod 16);bif r13.1.2.2.2.2.2.2.2.2.2.2.1 then let r14:=ygE r13.1.2.2.1 y6.2.2.1 y6.2.1.1.1 (-1);bif(!(!r14.2))then bif(!r14.1.2.2.2.2.2.2.2.2.2.2.1)then bif r14.1.2.2.2.2.2.2.2.2.2.2.2 then some ((false,()),()) else let r15:=yeC r14.1;zkr (yfn ((((),()),(y6.1.2.2.2.2.1.1,()),((),()),((),()),(r10.2,()),((),()),((),()),((),()),((),()),((),()),()),((y6.2.1.1.1,y6.2.1.1.2.1,y6.2.1.1.2.2.1,(),y6.2.1.1.2.2.2.2.1,y6.2.1.1.2.2.2.2.2.1,y6.2.1.1.2.2.2.2.2.2.1,y6.2.1.1.2.2.2.2.2.2.2.1,y6.2.1.1.2.2.2.2.2.2.2.2.1,(),y6.1.2.2.2.1.1,y6.2.1.1.2.2.2.2.2.2.2.2.2.2.2.1,y6.2.1.1.2.2.2.2.2.2.2.2.2.2.2.2.1,()),(r14.1.1,r14.1.2.1.1,r14.1.2.1.2,(),r14.1.2.2.2.1,r14.1.2.2.2.2.1,r14.1.2.2.2.2.2.1,r14.1.2.2.2.2.2.2.1,r14.1.2.2.2.2.2.2.2.1,(),r14.1.2.2.2.2.2.2.2.2.2.1,r14.1.2.2.2.2.2.2.2.2.2.2.1,r14.1.2.2.2.2.2.2.2.2.2.2.2,()),()),(y6.2.2.2.1,r8,r15,y6.2.2.2.2.1,y6.2.2.2.2.2.1,r14.1.2.2.1,r14.1.2.2.2.2.2.2.2.2.1,()))) (fun y21 =>bif(!y21.1.2.2.2.1.1)then bif y21.1.2.2.1.1 then bif(y21.1.1.1 !=0)then let r23:=yeR (y21.2.1.1.1,(y21.2.1.1.2.1,y21.2.1.1.2.2.1),y21.2.2.1,y21.2.1.1.2.2.2.2.1,y21.2.1.1.2.2.2.2.2.1,y21.2.1.1.2.2.2.2.2.2.1,y21.2.1.1.2.2.2.2.2.2.2.1,y21.2.1.1.2.2.2.2.2.2.2.2.1,y21.2.2.2.1,y21.2.1.1.2.2.2.2.2.2.2.2.2.2.1,y21.2.1.1.2.2.2.2.2.2.2.2.2.2.2.1,y21.2.1.1.2.2.2.2.2.2.2.2.2.2.2.2.1);bif r23 then let r24:=yO (y21.2.1.1.1,(y21.2.1.1.2.1,y21.2.1.1.2.2.1),y21.2.2.1,y21.2.1.1.2.2.2.2.1,y21.2.1.1.2.2.2.2.2.1,y21.2.1.1.2.2.2.2.2.2.1,y21.2.1.1.2.2.2.2.2.2.2.1,y21.2.1.1.2.2.2.2.2.2.2.2.1,y21.2.2.2.1,y21.2.1.1.2.2.2.2.2.2.2.2.2.2.1,y21.2.1.1.2.2.2.2.2.2.2.2.2.2.2.1,y21.2.1.1.2.2.2.2.2.2.2.2.2.2.2.2.1);some ((r24,()),()) else some ((false,()),()) else some ((false,()),()) else some ((false,()),()) else let r25:=yeR (y21.2.1.1.1,(y21.2.1.1.2.1,y21.2.1.1.2.2.1),y21.2.2.1,y21.2.1.1.2.2.2.2.1,y21.2.1.1.2.2.2.2.2.1,y21.2.1.1.2.2.2.2.2.2.1,y21.2.1.1.2.2.2.2.2.2.2.1,y21.2.1.1.2.2.2.2.2.2.2.2.1,y21.2.2.2.1,y21.2.1.1.2.2.2.2.2.2.2.2.2.2.1,y21.2.1.1.2.2.2.2.2.2.2.2.2.2.2.1,y21.2.1.1.2.2.2.2.2.2.2.2.2.2.2.2.1);bif r25 then let r26:=yO (y21.2.1.1.1,(y21.2.1.1.2.1,y21.2.1.1.2.2.1),y21.2.2.1,y21.2.1.1.2.2.2.2.1,y21.2.1.1.2.2.2.2.2.1,y21.2.1.1.2.2.2.2.2.2.1,y21.2.1.1.2.2.2.2.2.2.2.1,y21.2.1.1.2.2.2.2.2.2.2.2.1,y21.2.2.2.1,y21.2.1.1.2.2.2.2.2.2.2.2.2.2.1,y21.2.1.1.2.2.2.2.2.2.2.2.2.2.2.1,y21.2.1.1.2.2.2.2.2.2.2.2.2.2.2.2.1);some ((r26,()),()) else some ((false,()),())) (fun y21 =>some ((y21.1.1.1,()),())) else some ((false,()),()) else some ((false,()),()) else bif(!(!r13.2))then bif(!r13.1.2.2.2.2.2.2.2.2.2.2.1)then bif r13.1.2.2.2.2.2.2.2.2.2.2.2 then some ((false,()),()) else let r27:=yeC r13.1;zkr (yfn ((((),()),(y6.1.2.2.2.2.1.1,()),((),()),((),()),(r10.2,()),((),()),((),()),((),()),((),()),((),()),()),((y6.2.1.1.1,y6.2.1.1.2.1,y6.2.1.1.2.2.1,(),y6.2.1.1.2.2.2.2.1,y6.2.1.1.2.2.2.2.2.1,y6.2.1.1.2.2.2.2.2.2.1,y6.2.1.1.2.2.2.2.2.2.2.1,y6.2.1.1.2.2.2.2.2.2.2.2.1,(),y6.1.2.2.2.1.1,y6.2.1.1.2.2.2.2.2.2.2.2.2.2.2.1,y6.2.1.1.2.2.2.2.2.2.2.2.2.2.2.2.1,()),(r13.1.1,r13.1.2.1.1,r13.1.2.1.2,(),r13.1.2.2.2.1,r13.1.2.2.2.2.1,r13.1.2.2.2.2.2.1,r13.1.2.2.2.2.2.2.1,r13.1.2.2.2.2.2.2.2.1,(),r13.1.2.2.2.2.2.2.2.2.2.1,r13.1.2.2.2.2.2.2.2.2.2.2.1,r13.1.2.2.2.2.2.2.2.2.2.2.2,()),()),(y6.2.2.2.1,r8,r27,y6.2.2.2.2.1,y6.2.2.2.2.2.1,r13.1.2.2.1,r13.1.2.2.2.2.2.2.2.2.1,()))) (fun y27 =>bif(!y27.1.2.2.2.1.1)then bif y27.1.2.2.1.1 then bif(y27.1.1.1 !=0)then let r29:=yeR (y27.2.1.1.1,(y27.2.1.1.2.1,y27.2.1.1.2.2.1),y27.2.2.1,y27.2.1.1.2.2.2.2.1,y27.2.1.1.2.2.2.2.2.1,y27.2.1.1.2.2.2.2.2.2.1,y27.2.1.1.2.2.2.2.2.2.2.1,y27.2.1.1.2.2.2.2.2.2.2.2.1,y27.2.2.2.1,y27.2.1.1.2.2.2.2.2.2.2.2.2.2.1,y27.2.1.1.2.2.2.2.2.2.2.2.2.2.2.1,y27.2.1.1.2.2.2.2.2.2.2.2.2.2.2.2.1);bif r29 then let r30:=yO (y27.2.1.1.1,(y27.2.1.1.2.1,y27.2.1.1.2.2.1),y27.2.2.1,y27.2.1.1.2.2.2.2.1,y27.2.1.1.2.2.2.2.2.1,y27.2.1.1.2.2.2.2.2.2.1,y27.2.1.1.2.2.2.2.2.2.2.1,y27.2.1.1.2.2.2.2.2.2.2.2.1,y27.2.2.2.1,y27.2.1.1.2.2.2.2.2.2.2.2.2.2.1,y27.2.1.1.2.2.2.2.2.2.2.2.2.2.2.1,y27.2.1.1.2.2.2.2.2.2.2.2.2.2.2.2.1);some ((r30,()),()) else some ((false,()),()) else some ((false,()),()) else some ((false,()),()) else let r31:=yeR (y27.2.1.1.1,(y27.2.1.1.2.1,y27.2.1.1.2.2.1),y27.2.2.1,y27.2.1.1.2.2.2.2.1,y27.2.1.1.2.2.2.2.2.1,y27.2.1.1.2.2.2.2.2.2.1,y27.2.1.1.2.2.2.2.2.2.2.1,y27.2.1.1.2.2.2.2.2.2.2.2.1,y27.2.2.2.1,y27.2.1.1.2.2.2.2.2.2.2.2.2.2.1,y27.2.1.1.2.2.2.2.2.2.2.2.2.2.2.1,y27.2.1.1.2.2.2.2.2.2.2.2.2.2.2.2.1);bif r31 then let r32:=yO (y27.2.1.1.1,(y27.2.1.1.2.1,y27.2.1.1.2.2.1),y27.2.2.1,y27.2.1.1.2.2.2.2.1,y27.2.1.1.2.2.2.2.2.1,y27.2.1.1.2.2.2.2.2.2.1,y27.2.1.1.2.2.2.2.2.2.2.1,y27.2.1.1.2.2.2.2.2.2.2.2.1,y27.2.2.2.1,y27.2.1.1.2.2.2.2.2.2.2.2.2.2.1,y27.2.1.1.2.2.2.2.2.2.2.2.2.2.2.1,y27.2.1.1.2.2.2.2.2.2.2.2.2.2.2.2.1);some ((r32,()),()) else some ((false,()),())) (fun y27 =>some ((y27.1.1.1,()),())) else some ((false,()),()) else some ((false,()),())) (fun y6 =>none) else none
theorem yUL:ConOk prog 8 ⟨ylm,yq2,fun x=>yu0 x.1⟩:=zkG (yPr) func8 ntmps8.symm fun x=>by kernel_rfl
def yAb (a0:List Int):Bool:=true
theorem y3S (a:dA):(yfu a).2.2.1=a.2.2.1:=by unfold yfu; cases yal a<;>rfl
set_option maxHeartbeats 4000000 in
theorem yYS {V W:Int→Int→Int} {s c:Int} {d:List Int} {a z:dA} (hg:yd a.2.1=true) (hs:yL a.2.1 s=true) (hl:(d.length:Int)=a.2.1.1-1) (hW:W=V∨W=ycc V a.2.1 s d): ∃p:Bool×Bool,(W=V→p.1=true)∧(W=ycc V a.2.1 s d→p.2=true) ∧
  yfn (yGz s c a z d (yfa V a.2.1) (yfa W a.2.1))=some (.inl (yqv c p.1 p.2 z)):=by
 obtain⟨h1,h2⟩:=yYR hg hs hl hW (yq a.2.1).toNat (by have:=yxs a.2.1; omega);refine⟨_,h1,h2,?_⟩;have hB:=yxs a.2.1;obtain⟨lv,av⟩:=yB0 (V:=V) hg;obtain⟨lw,_⟩:=yB0 (V:=W) hg
 exact zkB (step:=yaU) (yq a.2.1).toNat (fun i p=>yjb s c p.1 p.2 i a z d (yfa V a.2.1) (yfa W a.2.1)) (yLU a.2.1 s d (yfa V a.2.1) (yfa W a.2.1)) (fun _ _=>True) (fun p=> .inl (yqv c p.1 p.2 z)) (fun i p hi _=>⟨by
  obtain⟨_,_,a3,_⟩:=av i (by omega);simp only[yaU,yjb,yjg,zkw (show(i:Int)<((yfa V a.2.1).length:Int)by omega),zkZ (show(i:Int)<((yfa W a.2.1).length:Int)by omega),zj4.2 (show(0:Int)≤i∧(i:Int)<((yfa V a.2.1).length:Int)by omega),zj4.2 (show(0:Int)≤i∧(i:Int)<((yfa W a.2.1).length:Int)by omega),zkV,yiW,ygD,zj4.2 (show 0≤ybN a.2.1 i∧ybN a.2.1 i<(d.length:Int)by omega),wq ((i:Int)+1) (by omega) (by omega)];unfold yLU;cases hx:(yY a.2.1 i !=s)
  ·cases p.1<;>cases p.2<;>rfl
  ·rw[y3p hg hW (by omega) hx,bne_self_eq_false]; rfl,trivial⟩) (fun p _=>by
  simp only[yaU,yjb,yjg,zk1 (show((yfa V a.2.1).length:Int)≤(((yq a.2.1).toNat:Nat):Int)by omega),cond_false]) (true,true) trivial 18446744073709551616 (by omega)
set_option maxHeartbeats 4000000 in
theorem yXb (a0:List Int) (hk:zjw ylm (a0,())):yu0 a0=(fun n=>some ((n,()),())) (yAb a0):=by
 have hb:a0.length≤140737488355328:=by have:a0.length*1≤2^47:=hk.1.1; omega
 have hx:=y2Y hk.1;obtain⟨a,V,e,_,hi⟩:=y19 a0 hb;obtain⟨a2,ks,n,e1,_,n0,n1⟩:=y2a a0 hb;have hg:=yl.1 hi.x.xc.1;obtain⟨e2,r0,r1⟩:=y0M (i:=2) hb hx (by omega) (by omega);obtain⟨e8,q0,q1⟩:=y0M (i:=8) hb hx (by omega) (by omega);have s0:0≤(atV a0 2).tmod a.2.1.2:=Int.tmod_nonneg _ r0;have s1:(atV a0 2).tmod a.2.1.2<a.2.1.2:=Int.tmod_lt_of_pos _ (by omega);have hso:=y1p hi.x s0 s1;obtain⟨s,hse⟩: ∃s,s=(atV a0 2).tmod a.2.1.2:=⟨_,rfl⟩;rw[← hse]at s0 s1 hso;have t0:0≤(atV a0 8).tmod 16:=Int.tmod_nonneg _ q0;have t1:(atV a0 8).tmod 16<16:=Int.tmod_lt_of_pos _ (by omega);obtain⟨t,hte⟩: ∃t,t=(atV a0 8).tmod 16:=⟨_,rfl⟩;rw[← hte]at t0 t1;obtain⟨d,hd⟩: ∃d,d=(List.range (a.2.1.1-1).toNat).map (fun(i:Nat)=>atV a0 ((i:Int)+(3:Nat))*200):=⟨_,rfl⟩;have hdl:(d.length:Int)=a.2.1.1-1:=by rw[hd,List.length_map,List.length_range]; omega
 have hdw:d.all isW=true:=by rw[hd]; exact y2Z hb hx 200 (by omega) (by omega) 3 _ (by omega)
 have l1:ypl (yKW a0 n s a ks [])=some (.inl (yyA a0 n s a ks d)):=by
  have:=zkB (step:=ycs) (a.2.1.1-1).toNat (fun i l=>ynL a0 n s i a ks l) (fun l (i:Nat)=>l++ [atV a0 ((i:Int)+(3:Nat))*200]) (fun i l=>l.length=i) (fun l=> .inl (yyA a0 n s a ks l)) (fun i l hil hl=>by
   obtain⟨e3,a1,a2⟩:=y0M (i:=(i:Int)+3) hb hx (by omega) (by omega);refine⟨?_,by rw[List.length_append,hl]; rfl⟩;simp only[ycs,ynL,yoc,wq (a.2.1.1-1) (by omega) (by omega),zkw (show(i:Int)<a.2.1.1-1 by omega),cond_true,wq ((i:Int)+3) (by omega) (by omega),e3,zkF,wq (atV a0 ((i:Int)+3)*200) (by omega) (by omega),wq ((i:Int)+1) (by omega) (by omega)]
   rw[zkD.2 (show(l.length+ [atV a0 ((i:Int)+3)*200].length)*8≤140737488355328 by simp only[List.length_cons,List.length_nil]; omega)]; rfl) (fun l hl=>by simp only[ycs,ynL,yoc,wq (a.2.1.1-1) (by omega) (by omega),zk1 (show a.2.1.1-1≤(((a.2.1.1-1).toNat:Nat):Int)by omega),cond_false]) [] rfl 18446744073709551616 (by omega)
  rw[ykZ,List.nil_append,← hd]at this;exact this
 have hA:=y2C (x:=n) hi (by omega)
 have hAd:yhD a n false=(a.1,a.2.1,a.2.2.1,a.2.2.2.1,a.2.2.2.2.1,a.2.2.2.2.2.1,a.2.2.2.2.2.2.1,a.2.2.2.2.2.2.2.1,a.2.2.2.2.2.2.2.2.1,n,a.2.2.2.2.2.2.2.2.2.2):=by
  unfold yhD;rw[← show a.2.2.2.2.2.2.2.2.2.2.1=false from hi.x.xu]
 obtain⟨A,hAe⟩: ∃A,A=yhD a n false:=⟨_,rfl⟩;have Ag:A.2.1=a.2.1:=by rw[hAe]; rfl
 have Al:A.2.2.2.1=a.2.2.2.1:=by rw[hAe]; rfl
 have Ai:A.1=a.1:=by rw[hAe]; rfl
 have Af: ∀i,yG A i=yG a i:=fun i=>by rw[hAe]; rfl
 have Ab: ∀i m,yK A i m=yK a i m:=fun i m=>by rw[hAe]; rfl
 rw[← hAe]at hA hAd;have hxs:=hA.x.xs;have hc:=y4h hA.x (by omega) (by rw[Ag]; exact hso) (by rw[Ag]; exact hdl) hdw;have can:=y1g (y4Q hA (by rw[Ag]; exact hso) (by rw[Ag]; exact hdl) hdw (by omega) (by omega));obtain⟨w1,w2,w3,_⟩:=yOv A s d;rw[w3,Ag,Al]at can;have wb:=fun i m i0 i1 m0=>yY0 (s:=s) (d:=d) hA.x.xk (by rw[Ag]; exact hso) (by have c:=hA.x.xc; unfold yT at c; omega) (i:=i) (m:=m) i0 i1 m0
 have wk:=yTR s d hA.x.xk;have hwr:yIz A s d=((yz A s d).2,(yz A s d).1):=by unfold yIz; rw[hc]; rfl
 generalize yz A s d=X at can w1 w2 wb wk hwr;rw[Ai]at w1;rw[Ag]at w2 wb;obtain⟨x,W,Lf,ex,⟨hW,hLf⟩,bx⟩:=yOs (fuse:=t) wk can (by omega) ks (by omega);rw[w1,w2]at bx;rw[w1]at ex
 have few: ∀(l:List dM),(∀i,0≤i→i<a.2.1.1→flF l i=yG X.2 i)→(∀i m,0≤i→i<a.2.1.1→6≤m→bdF l i m=true→yK X.2 i m=true)→y2T a→ ∀s,0≤s→s<a.2.1.2→ ∃j,0≤j∧ ∀i,0≤i→i<a.2.1.1→i≠j→i≠Lf∧flF l i=false∧bdF l i (s+6)=false:=fun l lf lb hf s s0 s1=>by
  obtain⟨j,j0,hj⟩:=y5l hi s0 s1 (hf s s0 s1);refine⟨j,j0,fun i i0 i1 hij=> ?_⟩;obtain⟨k1,k2,k3⟩:=hj i i0 i1 hij;refine⟨by rw[hLf]; exact k1,?_,?_⟩
  ·rw[lf i i0 i1,(wb i 6 i0 i1 (by omega)).2,Af]; exact k2
  ·cases hb:bdF l i (s+6)
   ·rfl
   ·have:=(wb i (s+6) i0 i1 (by omega)).1 (lb i (s+6) i0 i1 (by omega) hb)
    rw[Ab,k3]at this; cases this
 have hWV:W=V∨W=ycc V a.2.1 s d:=hW.elim .inr (fun h=> .inl h.1)
 have fin: ∀(p:Bool×Bool),(W=V→p.1=true)→(W=ycc V a.2.1 s d→p.2=true)→(bif !p.2 then(bif p.1 then bif X.1 !=0 then some ((true,()),())else some ((false,()),())else some ((false,()),()))else some ((true,()),()):Option (zaY yq2×zak ylm))=some ((true,()),()):=fun p h1 h2=>by
  rcases hW with h | ⟨h,h3⟩
  ·rw[h2 h]; rfl
  ·rw[h1 h,show(X.1 !=0)=true from bne_iff_ne.2 h3]
   cases p.2<;>rfl
 unfold yu0 yAb;simp only[e,e1,e2,zkF,← hse];cases yBX a0
 ·rw[show(a.2.1.2 !=0)=true from bne_iff_ne.2 (by omega)]
  simp only[cond_false,cond_true];refine(congrArg (fun z=>zkr z _ _) l1).trans ?_;simp only[zkL,zkV,yeC,yO,yD4 hi.x];by_cases h0:(yhJ a).length=0
  ·rw[show(((yhJ a).length:Int)==0)=true from beq_iff_eq.2 (by omega)]; rfl
  ·have hf:=y1k hi.x h0
   have hda:yhJ a=yfa V a.2.1:=yD2 hi.x hf;rw[show(((yhJ a).length:Int)==0)=false from beq_eq_false_iff_ne.2 (by omega),cond_false,← hAd];simp only[yfd,hwr,y3S,e8,zkF,← hte,ygE,ex];rcases Bool.eq_false_or_eq_true (ya x)with hdn | hdn
   ·obtain⟨y,V2,Lf2,ey,⟨hV2,hLf2⟩,byy⟩:=yOs (fuse:= -1) bx.bk (y4d bx hdn) (by omega) ks (by omega)
    have hu:=y3n ey;subst hV2 hLf2;rw[bx.bi]at ey;rw[bx.bi,bx.bg]at byy;have hyi:=(byy.up hu).1
    have hyd:yhJ y=yfa V2 a.2.1:=by
     rw[yD2 hyi (yYr byy (few _ (fun i i0 i1=>bx.bf i i0 i1) (fun i m i0 i1 m0=>bx.be i m i0 i1 m0) hf)),byy.bg]; rfl
    obtain⟨p,p1,p2,p3⟩:=yYS (c:=X.1) (a:=A) (z:=y) (V:=V) (W:=V2) (s:=s) (d:=d) (by rw[Ag]; exact hi.x.xc.1) (by rw[Ag]; exact hso) (by rw[Ag]; exact hdl) (by rw[Ag]; exact hWV);rw[Ag]at p2 p3;rw[hAd]at p3;rw[yLI (show x.2.2.2.2.2.2.2.2.2.2.1=true from hdn),ey];simp only[Bool.not_true,Bool.not_false,cond_true];rw[yHY (show y.2.2.2.2.2.2.2.2.2.2.1=false from hu),yLH byy.bb,hyd,hda];refine(congrArg (fun z=>zkr z _ _) p3).trans ?_;simp only[zkL,zkV,yeR,y2x hyi,yD4 hyi,cond_true];exact fin p p1 p2
   ·have hxi:=(bx.up hdn).1
    have hxd:yhJ x=yfa W a.2.1:=by
     rw[yD2 hxi (yYr bx (few _ (fun i _ _=>rfl) (fun i m _ _ _ h=>h) hf)),bx.bg]; rfl
    obtain⟨p,p1,p2,p3⟩:=yYS (c:=X.1) (a:=A) (z:=x) (V:=V) (W:=W) (s:=s) (d:=d) (by rw[Ag]; exact hi.x.xc.1) (by rw[Ag]; exact hso) (by rw[Ag]; exact hdl) (by rw[Ag]; exact hWV);rw[Ag]at p2 p3;rw[hAd]at p3;rw[yLH (show x.2.2.2.2.2.2.2.2.2.2.1=false from hdn)];simp only[Bool.not_true,Bool.not_false,cond_true];rw[yHY (show x.2.2.2.2.2.2.2.2.2.2.1=false from hdn),yLH bx.bb,hxd,hda];refine(congrArg (fun z=>zkr z _ _) p3).trans ?_;simp only[zkL,zkV,yeR,y2x hxi,yD4 hxi,cond_true];exact fin p p1 p2
 ·rfl
def yS5:Con:=⟨ylm,yq2,fun x=>(fun n=>some ((n,()),())) (yAb x.1)⟩
theorem yX0:ConOk prog 8 yS5:=(yUL).mono (fun x r hk h=>(yXb x.1 hk).trans h)
end
end Go.Tf
