/- Functions of the program, and what they come to. -/
import Derived.Test.YtgmadfpnljibhaaGreatFallsBentF3
namespace Go.Tf
noncomputable section
open Go.Proofs
set_option synthInstance.maxHeartbeats 400000
set_option synthInstance.maxSize 10000
set_option linter.unusedVariables false
set_option linter.unusedSimpArgs false
set_option maxRecDepth 100000
section
def yQI:Code:=(Tryz.f124.body).getD .skip
def yQ0:Env:=zj2 TT [(150,ym)] []
theorem y2a:FrOk Tryz.prog ⟨yQ0,12,fun _=>none⟩ yQI:=zj6 yc yd ⟨yv,trivial⟩
def y4F:Nat→Option Seg:=fun _=>none
abbrev ysU:List Par:= [.pt tU .fz,.rd tL]
abbrev yza:List OT:= [⟨false,tI,.fz⟩]
def yn (a0:dU) (a1:List Int):Option (ResD yza×MutD ysU) :=
 bnd (yb a0 (a1.length:Int)) fun r1 =>
 bif (inb r1.1.1 a1.length) then
 some (((nth a1 r1.1.1 0),()),(r1.2.1,()))
 else none
theorem y9x (x:InD ysU):zjw ⟨yQ0,12,y4F⟩ Tryz.f124.results.toList yQI ysU yza x=yn x.1 x.2.1:=by kernel_rfl
theorem y6r:ConOk Tryz.prog 124 ⟨ysU,yza,fun x=>yn x.1 x.2.1⟩:=zj1 (y2a) Tryz.func124 (by kernel_rfl) (by kernel_rfl) Tryz.ntmps124.symm (by decide) (fun x r h=>(y9x x).trans h)
def yae:Con:=⟨ysU,yza,fun x=>yn x.1 x.2.1⟩
theorem yaQ:ConOk Tryz.prog 124 yae:=y6r
theorem yfe (u:List Int×Int×Int) (l:List Int) (h:yA u) (hl:l≠ []): ∃ (r:Int) (u':List Int×Int×Int),yn u l=some ((r,()),(u',()))∧r∈l∧yA u':=by
 unfold yn
 obtain ⟨r1,u1,e1,q1,d1⟩:=yp u (l.length:Int) h
 have hp:0 < l.length:=List.length_pos_iff.2 hl
 have hr:=q1.2.1 (by omega)
 simp only [e1,zkc,zjC.2 ⟨q1.1,hr⟩,cond_true]
 refine ⟨_,_,rfl,?_,d1⟩
 have:r1.toNat < l.length:=by have:=q1.1; omega
 unfold nth
 rw [List.getD_eq_getElem?_getD,List.getElem?_eq_getElem this,Option.getD_some]
 exact List.getElem_mem this
end
section
def yOB:Code:=(Tryz.f115.body).getD .skip
def yPc:Env:=zj2 TT [(124,yae)] []
theorem yXF:FrOk Tryz.prog ⟨yPc,6,fun _=>none⟩ yOB:=zj6 yc yd ⟨yaQ,trivial⟩
def y0E:Nat→Option Seg:=fun _=>none
abbrev ypM:List Par:= [.pt tU .fz]
abbrev ywD:List OT:= [⟨false,tI,.fz⟩]
def yak (a0:dU):Option (ResD ywD×MutD ypM) :=
 bnd (yn a0 ([0,1,2,7,255,256,4660,65535]:List Int)) fun r1 =>
 some ((r1.1.1,()),(r1.2.1,()))
theorem y79 (x:InD ypM):zjw ⟨yPc,6,y0E⟩ Tryz.f115.results.toList yOB ypM ywD x=yak x.1:=by kernel_rfl
theorem y3A:ConOk Tryz.prog 115 ⟨ypM,ywD,fun x=>yak x.1⟩:=zj1 (yXF) Tryz.func115 (by kernel_rfl) (by kernel_rfl) Tryz.ntmps115.symm (by decide) (fun x r h=>(y79 x).trans h)
def yzy:Con:=⟨ypM,ywD,fun x=>yak x.1⟩
theorem yNd:ConOk Tryz.prog 115 yzy:=y3A
theorem yaaG (u:List Int×Int×Int) (h:yA u): ∃ (r:Int) (u':List Int×Int×Int),yak u=some ((r,()),(u',()))∧ya r 0 65535=true∧yA u':=by
 unfold yak
 obtain ⟨r1,u1,e1,q1,d1⟩:=yfe u [0,1,2,7,255,256,4660,65535] h (by simp)
 simp only [e1,zkc]
 refine ⟨_,_,rfl,?_,d1⟩
 simp only [List.mem_cons,List.not_mem_nil,or_false]at q1
 exact in_t (by omega) (by omega)
end
section
def yLQ:Code:=(Tryz.f208.body).getD .skip
def yMx:Env:=zj2 TT [(203,yrW),(261,yrX)] []
theorem yUO:FrOk Tryz.prog ⟨yMx,17,fun _=>none⟩ yLQ:=zj6 yc yd ⟨yCe,yCf,trivial⟩
def yWK:Nat→Option Seg:=fun _=>none
abbrev ynh:List Par:= [.pt tA (.pr .fz (.pr (.pr .fz .fz) (.pr (.ow (.pr (.ow .fz) (.pr (.ow (.pr .fz .fz)) (.pr .fz (.ow .fz))))) (.pr .fz (.pr .fz (.pr .fz (.pr .fz (.pr .fz (.pr (.ow (.pr .fz .fz)) (.pr .fz (.pr .fz .fz)))))))))))]
abbrev yum:List OT:= []
def yxU (a0:dA):Option (ResD yum×MutD ynh) :=
 let r1:=yeP a0
 bif r1.2.2.2.2.2.2.2.2.2.2.1 then
 some ((),(r1,()))
 else
 let r2:=yaP (r1.1,r1.2.1,r1.2.2.1,r1.2.2.2.1,r1.2.2.2.2.1,r1.2.2.2.2.2.1,r1.2.2.2.2.2.1,r1.2.2.2.2.2.2.2)
 some ((),(r2,()))
theorem y5l (x:InD ynh):zjw ⟨yMx,17,yWK⟩ Tryz.f208.results.toList yLQ ynh yum x=yxU x.1:=by kernel_rfl
theorem yZB:ConOk Tryz.prog 208 ⟨ynh,yum,fun x=>yxU x.1⟩:=zj1 (yUO) Tryz.func208 (by kernel_rfl) (by kernel_rfl) Tryz.ntmps208.symm (by decide) (fun x r h=>(y5l x).trans h)
def yfG (a0:dA):dA :=
 let r1:=yeP a0
 bif r1.2.2.2.2.2.2.2.2.2.2.1 then
 r1
 else
 let r2:=yaP (r1.1,r1.2.1,r1.2.2.1,r1.2.2.2.1,r1.2.2.2.2.1,r1.2.2.2.2.2.1,r1.2.2.2.2.2.1,r1.2.2.2.2.2.2.2)
 r2
def yoF:Con:=⟨ynh,yum,fun x=>(fun n=>some ((),(n,()))) (yfG x.1)⟩
theorem y28 (a0:dA):yxU a0=(fun n=>some ((),(n,()))) (yfG a0):=zkp (p:=fun (n:dA)=>((),(n,()))) (zkb (p:=fun (n:dA)=>((),(n,()))) rfl rfl)
theorem yAh:ConOk Tryz.prog 208 yoF:=(yZB).mono (fun x r _ h=>(y28 x.1).trans h)
theorem yEC (a:dA):yfG a=checkA a:=by
 unfold yfG checkA yeP yaP
 show (bif ye (yz a) then yz a else markA (ycR (yz a)))=_
 rfl
end
section
def yQF:Code:=(Tryz.f239.body).getD .skip
def yQX:Env:=zj2 TT [(135,yq),(225,yje)] []
theorem y11:FrOk Tryz.prog ⟨yQX,22,fun _=>none⟩ yQF:=zj6 yc yd ⟨yy,yr4,trivial⟩
def y4C:Nat→Option Seg:=fun _=>none
abbrev ysR:List Par:= [.rd tN]
abbrev yy6:List OT:= [⟨false,tB,.fz⟩]
def yCr (a0:dN):Option (ResD yy6×MutD ysR) :=
 let r1:=ya a0.1 0 60000
 bif r1 then
 let r2:=ya a0.2.1 0 7
 bif r2 then
 let r3:=ya (a0.2.2.length:Int) 2 4
 bif r3 then
 let r4:=yX a0.2.2
 some ((r4,()),())
 else
 some ((false,()),())
 else
 some ((false,()),())
 else
 some ((false,()),())
theorem y9t (x:InD ysR):zjw ⟨yQX,22,y4C⟩ Tryz.f239.results.toList yQF ysR yy6 x=yCr x.1:=by kernel_rfl
theorem y6n:ConOk Tryz.prog 239 ⟨ysR,yy6,fun x=>yCr x.1⟩:=zj1 (y11) Tryz.func239 (by kernel_rfl) (by kernel_rfl) Tryz.ntmps239.symm (by decide) (fun x r h=>(y9t x).trans h)
def yB (a0:dN):Bool :=
 let r1:=ya a0.1 0 60000
 bif r1 then
 let r2:=ya a0.2.1 0 7
 bif r2 then
 let r3:=ya (a0.2.2.length:Int) 2 4
 bif r3 then
 let r4:=yX a0.2.2
 r4
 else
 false
 else
 false
 else
 false
def yBZ:Con:=⟨ysR,yy6,fun x=>(fun n=>some ((n,()),())) (yB x.1)⟩
theorem y8G (a0:dN):yCr a0=(fun n=>some ((n,()),())) (yB a0):=zkp (p:=fun (n:Bool)=>((n,()),())) (zkb (p:=fun (n:Bool)=>((n,()),())) (zkb (p:=fun (n:Bool)=>((n,()),())) (zkb (p:=fun (n:Bool)=>((n,()),())) rfl rfl) rfl) rfl)
theorem yPq:ConOk Tryz.prog 239 yBZ:=(y6n).mono (fun x r _ h=>(y8G x.1).trans h)
abbrev yK4:dN:=(0,0,[])
def ytu (r:dN):List Int:=bif yB r then 21322::r.1::r.2.1::(r.2.2.length:Int)::r.2.2 else []
def yLk (l:List Int):dN:=(nth l 1 0,nth l 2 0,l.drop 4)
def ybb (l:List Int):dN×Bool:=bif leb 4 (l.length:Int)&&(nth l 0 0==21322&&(nth l 3 0==(l.length:Int) - 4&&yB (yLk l))) then (yLk l,true) else (yK4,false)
theorem yTh {r:dN}:yB r=true↔(0≤r.1∧r.1≤60000)∧(0≤r.2.1∧r.2.1≤7)∧(2≤(r.2.2.length:Int)∧(r.2.2.length:Int)≤4)∧r.2.2.all isW=true:=by
 unfold yB
 simp only [yw4,← yzY]
 cases ya r.1 0 60000<;>cases ya r.2.1 0 7<;>cases ya (r.2.2.length:Int) 2 4<;>simp
def yTi (a:dA) (q:Int) (i:Nat):List Int×Bool:=yr (nth a.2.2.1 i noMem) (yl q)
def yCF (a:dA) (q:Int) (i:Nat):dN:=(ybb (yTi a q i).1).1
def yql (a:dA) (q:Int) (i:Nat):Bool:=(yTi a q i).2&&((ybb (yTi a q i).1).2&&((yCF a q i).1==q&&((leb 0 (yCF a q i).2.1&&leb (yCF a q i).2.1 (a.2.1.2 - 1))&&((yCF a q i).2.2.length:Int)==a.2.1.1 - 1)))
def yU (a:dA) (q:Int):dN×Bool:=bif leb 0 (yR (yql a q) (List.range a.2.2.1.length)) then (yCF a q (yR (yql a q) (List.range a.2.2.1.length)).toNat,true) else (yK4,false)
theorem yOa {n i:Nat} (h:i < n):(List.range n).getD i 0=i:=by rw [zkd (by rw [List.length_range]; exact h)]; simp
theorem yabt {l:List Int} (h:(ybb l).2=true):yB (ybb l).1=true∧l=ytu (ybb l).1:=by
 unfold ybb at h ⊢
 cases hc:(leb 4 (l.length:Int)&&(nth l 0 0==21322&&(nth l 3 0==(l.length:Int) - 4&&yB (yLk l))))
 ·rw [hc]at h; cases h
 ·simp only [Bool.and_eq_true,zjD,beq_iff_eq]at hc
  refine ⟨hc.2.2.2,?_⟩
  show l=ytu (yLk l)
  unfold ytu
  rw [hc.2.2.2]
  match l,hc with
  | x0::x1::x2::x3::t,hc =>
   have e0:x0=21322:=hc.2.1
   have e3:x3=((x0::x1::x2::x3::t).length:Int) - 4:=hc.2.2.1
   have e4:x3=(t.length:Int):=by rw [e3]; simp only [List.length_cons]; omega
   subst e0
   rw [e4]; rfl
  | [],hc=>exact absurd hc.1 (by simp)
  | [_],hc=>exact absurd hc.1 (by simp)
  | [_,_],hc=>exact absurd hc.1 (by simp)
  | [_,_,_],hc=>exact absurd hc.1 (by simp)
theorem yabW {a:dA} {q:Int} (h:(yU a q).2=true): ∃ i,i < a.2.2.1.length∧yql a q i=true∧(yU a q).1=yCF a q i:=by
 unfold yU at h ⊢
 cases hk:leb 0 (yR (yql a q) (List.range a.2.2.1.length))
 ·rw [hk]at h; cases h
 ·obtain ⟨h1,h2⟩:=yta (d:=0) hk
  have h3:=zjC.1 h1
  rw [List.length_range]at h3
  refine ⟨(yR (yql a q) (List.range a.2.2.1.length)).toNat,by omega,?_,rfl⟩
  unfold nth at h2
  rwa [yOa (by omega)] at h2
theorem yaaJ {a:dA} {q:Int} (hg:yf a.2.1=true) (h:(yU a q).2=true):ycU a.2.1 (yU a q).1.2.1=true∧((yU a q).1.2.2.length:Int)=a.2.1.1 - 1:=by
 obtain ⟨i,_,h1,h2⟩:=yabW h
 rw [h2]
 simp only [yql,Bool.and_eq_true,zjD,beq_iff_eq]at h1
 exact ⟨ybK.2 ⟨hg,h1.2.2.2.1.1,h1.2.2.2.1.2⟩,h1.2.2.2.2⟩
def yfg (r:dN) (a:dA) (i:Nat):dA:=ydM a i (yl r.1) (ytu r)
def ydg (a:dA) (r:dN):dA:=yz ((List.range a.2.2.1.length).foldl (yfg r) a)
theorem yuQ (r:dN) (a:dA) (i:Nat):(yfg r a i).2.2.1.length=a.2.2.1.length:=yuD _ _ _ _
theorem yaax (r:dN) {a:dA} (i:Nat) (h:ye a=true):yfg r a i=a:=yZ0 h _ _ _
theorem yNn (a:dA) (r:dN):(ydg a r).2.2.1.length=a.2.2.1.length:=(yIZ _).trans (ys9 (yuQ r) _ _)
theorem ylS (a:dA) (r:dN):yG (ydg a r)=yG a:=(yoe _).trans (yDz (one:=yfg r) (fun _ _=>yxN _ _ _ _) _ _)
theorem ySI {one:dA→Nat→dA} {d:List dW} (hl: ∀ a i,(one a i).2.2.1.length=a.2.2.1.length) (ho: ∀ a i,yaG d a→i < a.2.2.1.length→yaG d (one a i)): ∀ (n:Nat) (a:dA),n≤a.2.2.1.length→yaG d a→yaG d ((List.range n).foldl one a)
 | 0,_,_,h=>h
 | n+1,a,hn,h=>by
  rw [List.range_succ,List.foldl_append]
  exact ho _ _ (ySI hl ho n a (by omega) h) (by rw [ys9 hl]; exact hn)
theorem y9U {d:List dW} {a:dA} (r:dN) (h:yaG d a):yaG d (ydg a r):=yabz (ySI (yuQ r) (fun _ _ h hi=>yYI h (zkl hi)) _ a (Nat.le_refl _) h)
def yCC (p N x:Int) (data:List Int) (i:Int):Int:=bif i==p then x else nth data ((i - p - 1+N).tmod N) 0
def ybO (p N s:Int) (data:List Int) (a:dA) (i:Nat):dA:=bif yff a i s then ydM a i (dataAt s) [yCC p N (yg3 data) data i] else a
def yL (a:dA) (s:Int) (data:List Int):dA:=(List.range a.2.2.1.length).foldl (ybO (yh a.2.1 s) a.2.1.1 s data) a
theorem yqs (p N s:Int) (data:List Int) (a:dA) (i:Nat):(ybO p N s data a i).2.2.1.length=a.2.2.1.length:=by
 unfold ybO; cases yff a i s
 ·rfl
 ·exact yuD _ _ _ _
theorem y9g (p N s:Int) (data:List Int) {a:dA} (i:Nat) (h:ye a=true):ybO p N s data a i=a:=by
 unfold ybO; cases yff a i s
 ·rfl
 ·exact yZ0 h _ _ _
theorem yRm (p N s:Int) (data:List Int) (a:dA) (i:Nat):yG (ybO p N s data a i)=yG a:=by
 unfold ybO; cases yff a i s
 ·rfl
 ·exact yxN _ _ _ _
theorem y9h (a:dA) (s:Int) (data:List Int):(yL a s data).2.2.1.length=a.2.2.1.length:=ys9 (yqs _ _ _ _) _ _
theorem yDh (a:dA) (s:Int) (data:List Int):yG (yL a s data)=yG a:=yDz (yRm _ _ _ _) _ _
theorem y7u {d:List dW} {a:dA} (s:Int) (data:List Int) (h:yaG d a):yaG d (yL a s data):=ySI (yqs _ _ _ _) (fun a i h hi=>by
 unfold ybO; cases yff a i s
 ·exact h
 ·exact yYI h (zkl hi)) _ a (Nat.le_refl _) h
theorem didx {N i p:Int} (h:3≤N∧N≤5) (hi:0≤i∧i < N) (hp:0≤p∧p≤N - 1) (hne:i≠p):0≤(i - p - 1+N).tmod N∧(i - p - 1+N).tmod N < N - 1:=by
 rw [Int.tmod_eq_emod_of_nonneg (by omega)]
 have:N=3∨N=4∨N=5:=by omega
 rcases this with rfl | rfl | rfl<;>omega
theorem yabd {N p x:Int} {data:List Int} (h:3≤N∧N≤5) (hp:0≤p∧p≤N - 1) (hd:(data.length:Int)=N - 1) :
  (List.range data.length).foldl (fun l (i:Nat)=>l.set ((p+1+i).tmod N).toNat (nth data i 0)) ((List.replicate N.toNat 0).set p.toNat x)=(List.range N.toNat).map (fun (i:Nat)=>yCC p N x data i):=by
 have:N=3∨N=4∨N=5:=by omega
 rcases this with rfl | rfl | rfl
 ·match data,hd with
  | [a,b],_ =>
   have:p=0∨p=1∨p=2:=by omega
   rcases this with rfl | rfl | rfl<;>simp [yCC,nth,List.range_succ,List.replicate_succ]
  | [],hd=>simp at hd
  | [_],hd=>simp at hd
  | _::_::_::_,hd=>simp only [List.length_cons]at hd; omega
 ·match data,hd with
  | [a,b,c],_ =>
   have:p=0∨p=1∨p=2∨p=3:=by omega
   rcases this with rfl | rfl | rfl | rfl<;>simp [yCC,nth,List.range_succ,List.replicate_succ]
  | [],hd=>simp at hd
  | [_],hd=>simp at hd
  | [_,_],hd=>simp at hd
  | _::_::_::_::_,hd=>simp only [List.length_cons]at hd; omega
 ·match data,hd with
  | [a,b,c,d],_ =>
   have:p=0∨p=1∨p=2∨p=3∨p=4:=by omega
   rcases this with rfl | rfl | rfl | rfl | rfl<;>simp [yCC,nth,List.range_succ,List.replicate_succ]
  | [],hd=>simp at hd
  | [_],hd=>simp at hd
  | [_,_],hd=>simp at hd
  | [_,_,_],hd=>simp at hd
  | _::_::_::_::_::_,hd=>simp only [List.length_cons]at hd; omega
def yh5 (a:dA):dA:=ydg a (yU a a.2.2.2.2.2.1).1
def ytx (a:dA):dA:=yL (yQ (yh5 a)) (yU a a.2.2.2.2.2.1).1.2.1 (yU a a.2.2.2.2.2.1).1.2.2
def yxV (_:Nat) (a:dA):dA ⊕ (dA ⊕ dA) :=
 bif !(yU a a.2.2.2.2.2.1).2||leb 60000 a.2.2.2.2.2.1 then .inr (.inl a) else bif ye (yh5 a) then .inr (.inr (yh5 a)) else bif ye (ytx a) then .inr (.inr (ytx a)) else .inl (ytx a)
def yTj (a:dA):dA:=match goE yxV .inl 4 0 a with
 | .inl b=>checkA b
 | .inr b=>b
def yqm (a:dA):dA:=bif yE a&&(!(ye a)&&(!a.2.2.2.2.2.2.2.2.2.2.2&&ltb a.2.2.2.2.2.2.2.1 60000)) then yTj a else a
def yCt (l:List dM) (ks:List Int) (id fuse:Int):dA×Bool :=
 bif (ycm (ybf l ks) id).2 then (yqm (bif leb (-1) fuse&&leb fuse 1000 then yAy (ycm (ybf l ks) id).1 fuse (ye (ycm (ybf l ks) id).1) else (ycm (ybf l ks) id).1),true) else (yK,false)
theorem y0e (a:dA):(yh5 a).2.1=a.2.1:=ydb (ylS _ _)
theorem y94 (a:dA):(ytx a).2.1=a.2.1:=(ydb (yDh (yQ (yh5 a)) _ _)).trans (y0e a)
theorem y95 (a:dA):(ytx a).2.2.1.length=a.2.2.1.length:=(y9h (yQ (yh5 a)) _ _).trans (yNn a _)
theorem y7v {d:List dW} {a:dA} (h:yaG d a):yaG d (yh5 a):=y9U _ h
theorem y7w {d:List dW} {a:dA} (h:yaG d a):yaG d (ytx a):=y7u (a:=yQ (yh5 a)) _ _ (y7v h)
theorem y9T {d:List dW}: ∀ (k i:Nat) (a:dA),yaG d a→(match goE yxV .inl k i a with | .inl b=>yaG d b | .inr b=>yaG d b)
 | 0,_,_,h=>h
 | k+1,i,a,h=>by
  unfold goE yxV
  cases (!(yU a a.2.2.2.2.2.1).2||leb 60000 a.2.2.2.2.2.1)
  ·cases ye (yh5 a)
   ·cases ye (ytx a)
    ·exact y9T k (i+1) (ytx a) (y7w h)
    ·exact y7w h
   ·exact y7v h
  ·exact h
theorem yab1 {d:List dW} {a:dA} (h:yaG d a):yaG d (yTj a):=by
 have:=y9T 4 0 a h
 unfold yTj
 cases hg:goE yxV .inl 4 0 a with
 | inl b=>rw [hg]at this; exact yNX this
 | inr b=>rw [hg]at this; exact this
theorem yaas {d:List dW} {a:dA} (h:yaG d a):yaG d (yqm a):=by
 unfold yqm
 cases (yE a&&(!(ye a)&&(!a.2.2.2.2.2.2.2.2.2.2.2&&ltb a.2.2.2.2.2.2.2.1 60000)))
 ·exact h
 ·exact yab1 h
theorem y96: ∀ (k i:Nat) (a b:dA),ye a=false→goE yxV .inl k i a= .inl b→ye b=false
 | 0,_,a,b,h,e=>by cases e; exact h
 | k+1,i,a,b,h,e=>by
  unfold goE yxV at e
  cases hc:(!(yU a a.2.2.2.2.2.1).2||leb 60000 a.2.2.2.2.2.1)
  ·rw [hc]at e
   cases hd1:ye (yh5 a)
   ·rw [hd1]at e
    cases hd2:ye (ytx a)
    ·rw [hd2]at e
     exact y96 k (i+1) (ytx a) b hd2 e
    ·rw [hd2]at e; cases e
   ·rw [hd1]at e; cases e
  ·rw [hc]at e; cases e; exact h
def yw (a:dA):dA:=bif leb 4 (IntKind.i64.wrap (a.2.2.2.2.2.1 - a.2.2.2.2.2.2.1)) then checkA a else a
def yad (a:dA) (s:Int) (d:List Int):Int×dA :=
 bif ye (yw a) then (6,yw a) else
 bif ye (ydg (yw a) ((yw a).2.2.2.2.2.1,s,d)) then (6,ydg (yw a) ((yw a).2.2.2.2.2.1,s,d)) else
 (bif ye (yL (yQ (ydg (yw a) ((yw a).2.2.2.2.2.1,s,d))) s d) then 6 else 0,yL (yQ (ydg (yw a) ((yw a).2.2.2.2.2.1,s,d))) s d)
theorem yRj (a:dA):(checkA a).2.1=a.2.1:=by
 unfold checkA
 cases ye (yz a)
 ·exact (ydb (yh6 (ycR (yz a)))).trans (show (yz a).2.1=a.2.1 from ydb (yoe a))
 ·exact ydb (yoe a)
theorem yaaD (a:dA):(yw a).2.1=a.2.1:=by
 unfold yw
 cases leb 4 (IntKind.i64.wrap (a.2.2.2.2.2.1 - a.2.2.2.2.2.2.1))
 ·rfl
 ·exact yRj a
theorem yacg (a:dA):(yw a).2.2.1.length=a.2.2.1.length:=by
 unfold yw
 cases leb 4 (IntKind.i64.wrap (a.2.2.2.2.2.1 - a.2.2.2.2.2.2.1))
 ·rfl
 ·exact yKr a
def yKN (l:List dW) (k:Nat):List dW:=l.take k++l.drop (k+1)
def flushE (a:dA) (s:Int):Int×dA :=
 bif ltb (yI a.2.2.2.2.2.2.2.2.1 s) 0 then (0,a) else
 bif yN a s (nth a.2.2.2.2.2.2.2.2.1 (yI a.2.2.2.2.2.2.2.2.1 s) (0,[])).2 !=0 then (yN a s (nth a.2.2.2.2.2.2.2.2.1 (yI a.2.2.2.2.2.2.2.2.1 s) (0,[])).2,a) else
 bif (yad a s (nth a.2.2.2.2.2.2.2.2.1 (yI a.2.2.2.2.2.2.2.2.1 s) (0,[])).2).1==0 then
 (0,yII (yad a s (nth a.2.2.2.2.2.2.2.2.1 (yI a.2.2.2.2.2.2.2.2.1 s) (0,[])).2).2 (yKN a.2.2.2.2.2.2.2.2.1 (yI a.2.2.2.2.2.2.2.2.1 s).toNat))
 else yad a s (nth a.2.2.2.2.2.2.2.2.1 (yI a.2.2.2.2.2.2.2.2.1 s) (0,[])).2
theorem yRk {a:dA} {s:Int} {d:List Int} (h:yN a s d=0):yE a=true∧(d.length:Int)=a.2.1.1 - 1∧d.all isW=true∧ye a=false∧ycU a.2.1 s=true∧a.2.2.2.2.2.2.2.2.2.2.2=false∧a.2.2.2.2.2.1 < 60000∧a.2.2.2.2.2.2.2.1 < 59990:=by
 unfold yN at h
 simp only [yaM,yw4,ybr]at h
 cases ha:yE a
 ·rw [ha]at h; exact absurd (show (1:Int)=0 from h) (by decide)
 have hg:=yk.1 (yll ha)
 rw [ha,wr (show -9223372036854775808≤a.2.1.1 - 1 by omega) (by omega),wr (show -9223372036854775808≤a.2.1.2 - 1 by omega) (by omega)] at h
 cases hl:((d.length:Int) !=a.2.1.1 - 1)
 ·cases hw:d.all isW
  ·rw [hl,hw]at h; exact absurd (show (1:Int)=0 from h) (by decide)
  cases hd:a.2.2.2.2.2.2.2.2.2.2.1
  ·cases hs:(leb 0 s&&leb s (a.2.1.2 - 1))
   ·rw [hl,hw,hd,hs]at h; exact absurd (show (2:Int)=0 from h) (by decide)
   cases hb:a.2.2.2.2.2.2.2.2.2.2.2
   ·cases h6:leb 60000 a.2.2.2.2.2.1
    ·cases h7:leb 59990 a.2.2.2.2.2.2.2.1
     ·have e6: ¬ (60000≤a.2.2.2.2.2.1):=fun g=>by rw [zkw g]at h6; cases h6
      have e7: ¬ (59990≤a.2.2.2.2.2.2.2.1):=fun g=>by rw [zkw g]at h7; cases h7
      exact ⟨rfl,bne_eq_false_iff_eq.1 hl,rfl,hd,by unfold ycU; rw [yll ha,hs]; rfl,rfl,by omega,by omega⟩
     ·rw [hl,hw,hd,hs,hb,h6,h7]at h; exact absurd (show (7:Int)=0 from h) (by decide)
    ·rw [hl,hw,hd,hs,hb,h6]at h; exact absurd (show (7:Int)=0 from h) (by decide)
   ·rw [hl,hw,hd,hs,hb]at h; exact absurd (show (5:Int)=0 from h) (by decide)
  ·rw [hl,hw,hd]at h; exact absurd (show (6:Int)=0 from h) (by decide)
 ·rw [hl]at h; exact absurd (show (1:Int)=0 from h) (by decide)
theorem y7c (a:dA):(yw a).2.2.2.2.2.2.2.2.1=a.2.2.2.2.2.2.2.2.1:=by
 unfold yw
 cases leb 4 (IntKind.i64.wrap (a.2.2.2.2.2.1 - a.2.2.2.2.2.2.1))
 ·rfl
 ·exact yWl a
theorem yaay (a:dA):(yQ a).2.2.2.2.2.2.2.2.1=a.2.2.2.2.2.2.2.2.1:=rfl
theorem yaaB (a:dA) (s:Int) (d:List Int):(yad a s d).2.2.2.2.2.2.2.2.2.1=a.2.2.2.2.2.2.2.2.1:=by
 unfold yad
 have h2:=(y08 (ylS (yw a) ((yw a).2.2.2.2.2.1,s,d))).trans (y7c a)
 generalize ydg (yw a) ((yw a).2.2.2.2.2.1,s,d)=R at h2 ⊢
 have h3:=(y08 (yDh (yQ R) s d)).trans ((yaay R).trans h2)
 generalize yL (yQ R) s d=Q at h3 ⊢
 cases ye (yw a)
 ·cases ye R
  ·exact h3
  ·exact h2
 ·exact y7c a
theorem yabm {l:List dW} {k:Int} (h0:0≤k) (h1:k < (l.length:Int)):(([]:List dW)++((l.drop (0:Int).toNat).take (k - 0).toNat))++((l.drop (k+1).toNat).take ((l.length:Int) - (k+1)).toNat)=yKN l k.toNat:=by
 unfold yKN
 rw [List.nil_append,show (0:Int).toNat=0 from rfl,List.drop_zero,Int.sub_zero,show (k+1).toNat=k.toNat+1 by omega,List.take_of_length_le (l:=l.drop (k.toNat+1)) (by rw [List.length_drop]; omega)]
def ys5 (_:Nat) (a:dA):dA ⊕ (Int×dA):=bif (flushE a (nth a.2.2.2.2.2.2.2.2.1 0 (0,[])).1).1 !=0 then .inr (flushE a (nth a.2.2.2.2.2.2.2.2.1 0 (0,[])).1) else .inl (flushE a (nth a.2.2.2.2.2.2.2.2.1 0 (0,[])).1).2
def allE (a:dA):Int×dA:=goE ys5 (fun b=>(0,b)) a.2.2.2.2.2.2.2.2.1.length 0 a
theorem yaaX {e:dW} {l:List dW}:yI (e::l) e.1=0:=by
 unfold yI
 rw [yGt,show (e.1==e.1)=true from beq_self_eq_true _]; rfl
theorem yaaY {a:dA} (h:0 < a.2.2.2.2.2.2.2.2.1.length) (h0:(flushE a (nth a.2.2.2.2.2.2.2.2.1 0 (0,[])).1).1=0):(flushE a (nth a.2.2.2.2.2.2.2.2.1 0 (0,[])).1).2.2.2.2.2.2.2.2.2.1=a.2.2.2.2.2.2.2.2.1.drop 1:=by
 unfold flushE at h0 ⊢
 have hk:yI a.2.2.2.2.2.2.2.2.1 (nth a.2.2.2.2.2.2.2.2.1 0 (0,[])).1=0:=by
  cases hl:a.2.2.2.2.2.2.2.2.1 with
  | nil=>rw [hl]at h; exact absurd h (Nat.lt_irrefl 0)
  | cons e l=>exact yaaX
 rw [hk]at h0 ⊢
 generalize (nth a.2.2.2.2.2.2.2.2.1 0 (0,[])).2=D at h0 ⊢
 generalize (nth a.2.2.2.2.2.2.2.2.1 0 (0,[])).1=s at h0 ⊢
 cases hc:(yN a s D !=0)
 ·rw [hc]at h0
  cases hr:((yad a s D).1==0)
  ·rw [hr]at h0
   exact absurd (show (yad a s D).1=0 from h0) (beq_eq_false_iff_ne.1 hr)
  ·rfl
 ·rw [hc]at h0
  exact absurd (show yN a s D=0 from h0) (bne_iff_ne.1 hc)
theorem yaa5 {d:List dW} {a:dA} (s:Int) (data:List Int) (h:yaG d a):yaG d (yad a s data).2:=by
 have hc:yaG d (yw a):=by
  unfold yw
  cases leb 4 (IntKind.i64.wrap (a.2.2.2.2.2.1 - a.2.2.2.2.2.2.1))
  ·exact h
  ·exact yNX h
 unfold yad
 have hr:=y9U ((yw a).2.2.2.2.2.1,s,data) hc
 generalize ydg (yw a) ((yw a).2.2.2.2.2.1,s,data)=R at hr ⊢
 have hq:yaG d (yL (yQ R) s data):=y7u (a:=yQ R) _ _ hr
 generalize yL (yQ R) s data=Q at hq ⊢
 cases ye (yw a)
 ·cases ye R
  ·exact hq
  ·exact hr
 ·exact hc
inductive Turned (a:dA):dA→Prop where
 | same:Turned a a
 | put (b x:Int):blkOk a.2.1 b=true→isW x=true→Turned a (setOne a b x).2
 | flush (s:Int):Turned a (flushE a s).2
 | all:Turned a (allE a).2
 | fail (m:Int):a.2.2.2.1= -1→inb m a.2.2.1.length=true→Turned a (failOne a m)
 | spare:inb a.2.2.2.1 a.2.2.1.length=true→(nth a.2.2.1 a.2.2.2.1 noMem).2.2.1=true→Turned a (markA (spareNew a))
 | step:inb a.2.2.2.1 a.2.2.1.length=true→(nth a.2.2.1 a.2.2.2.1 noMem).2.2.1=false→a.2.2.2.2.1 < a.2.1.2→Turned a (stepOne a).2
 | check:Turned a (checkA a)
 | spoil (m s:Int):inb m a.2.2.1.length=true→0≤s→s < a.2.1.2→Turned a (setMem a m (spoil (nth a.2.2.1 m noMem) (dataAt s)))
def y87 (g:dG) (e:dW):Prop:=(0≤e.1∧e.1≤g.2 - 1)∧(e.2.length:Int)=g.1 - 1∧e.2.all isW=true
theorem yyg {g:dG} {l:List dW}:yaA g l=true↔(∀ e∈l,y87 g e)∧l.Pairwise (fun x y=>x.1 < y.1):=by
 have bad: ∀ i,yjY g l i=false↔y87 g (nth l i (0,[]))∧(0 < i→(nth l ((i - 1:Nat):Int) (0,[])).1 < (nth l i (0,[])).1):=by
  intro i
  unfold yjY y87
  simp only [Bool.or_eq_false_iff,Bool.not_eq_false',bne_eq_false_iff_eq,Bool.and_eq_true,Bool.and_eq_false_iff,decide_eq_false_iff_not,zjD]
  constructor
  ·rintro ⟨h1,h2,h3,h4⟩
   refine ⟨⟨h1,h2,h3⟩,fun h0=> ?_⟩
   rcases h4 with h4 | h4
   ·exact absurd h0 h4
   ·have:=mt zkw (by rw [h4]; simp: ¬ leb (nth l i (0,[])).1 (nth l ((i - 1:Nat):Int) (0,[])).1=true)
    omega
  ·rintro ⟨⟨h1,h2,h3⟩,h4⟩
   refine ⟨h1,h2,h3,?_⟩
   by_cases h0:0 < i
   ·exact .inr (zkv (by have:=h4 h0; omega))
   ·exact .inl h0
 unfold yaA
 simp only [Bool.not_eq_true',List.any_eq_false,List.mem_range,Bool.not_eq_true,bad]
 constructor
 ·intro h
  refine ⟨fun e he=> ?_,?_⟩
  ·obtain ⟨i,hi,rfl⟩:=List.getElem_of_mem he
   have:=(h i hi).1
   rwa [zkm,zkd hi]at this
  ·rw [List.pairwise_iff_getElem]
   have step: ∀ (d i:Nat) (hi:i < l.length) (hj:i+d+1 < l.length),l[i].1 < l[i+d+1].1:=by
    intro d
    induction d with
    | zero =>
     intro i hi hj
     have:=(h (i+1) hj).2 (by omega)
     rwa [Nat.add_sub_cancel,zkm,zkm,zkd hi,zkd hj]at this
    | succ d ih =>
     intro i hi hj
     have h1:=ih i hi (by omega)
     have:=(h (i+d+1+1) hj).2 (by omega)
     rw [Nat.add_sub_cancel,zkm,zkm,zkd (show i+d+1 < l.length by omega),zkd (show i+d+1+1 < l.length from hj)] at this
     exact Int.lt_trans h1 this
   intro i j hi hj hij
   have:=step (j - i - 1) i hi (by omega)
   have e:i+(j - i - 1)+1=j:=by omega
   simp only [e]at this
   exact this
 ·rintro ⟨h1,h2⟩ i hi
  rw [List.pairwise_iff_getElem]at h2
  refine ⟨by rw [zkm,zkd hi]; exact h1 _ (List.getElem_mem hi),fun h0=> ?_⟩
  rw [zkm,zkm,zkd hi,zkd (show i - 1 < l.length by omega)]
  exact h2 (i - 1) i (by omega) hi (by omega)
theorem y7e {g:dG} {l:List dW} (k:Nat) (h:yaA g l=true):yaA g (yKN l k)=true:=by
 rw [yyg]at h ⊢
 have hs:(yKN l k).Sublist l:=by
  unfold yKN
  have:(l.take k++l.drop (k+1)).Sublist (l.take k++l.drop k):=List.Sublist.append_left (by rw [← List.drop_drop]; exact List.drop_sublist _ _) _
  rwa [List.take_append_drop]at this
 exact ⟨fun e he=>h.1 e (hs.subset he),h.2.sublist hs⟩
theorem y91 (e:dW): ∀ (l acc:List dW),l.foldl (ycQ e) (true,acc)=(true,acc++l.filter (fun x=>x.1 !=e.1))
 | [],acc=>by simp
 | x::t,acc=>by
  rw [List.foldl_cons]
  have:ycQ e (true,acc) x=(true,acc++(bif x.1 !=e.1 then [x] else [])):=rfl
  rw [this,y91 e t,List.filter_cons]
  cases x.1 !=e.1<;>simp
theorem y7y {e:dW} {l:List dW} (h:l.Pairwise (fun x y=>x.1 < y.1)):yID l e=l.filter (fun x=>ltb x.1 e.1)++e::l.filter (fun x=>ltb e.1 x.1):=by
 have: ∀ (l acc:List dW),l.Pairwise (fun x y=>x.1 < y.1)→(bif (l.foldl (ycQ e) (false,acc)).1 then (l.foldl (ycQ e) (false,acc)).2 else (l.foldl (ycQ e) (false,acc)).2++ [e])=acc++(l.filter (fun x=>ltb x.1 e.1)++e::l.filter (fun x=>ltb e.1 x.1)):=by
  intro l
  induction l with
  | nil=>intro acc _; simp
  | cons x t ih =>
   intro acc h
   obtain ⟨hx,ht⟩:=List.pairwise_cons.1 h
   rw [List.foldl_cons]
   by_cases hle:e.1≤x.1
   ·have h1:ycQ e (false,acc) x=(true,(acc++ [e])++(bif x.1 !=e.1 then [x] else [])):=by
     unfold ycQ; rw [zkw hle]; rfl
    have h2:t.filter (fun x=>x.1 !=e.1)=t:=List.filter_eq_self.2 (fun y hy=>bne_iff_ne.2 (by have:=hx y hy; omega))
    have h3:t.filter (fun x=>ltb x.1 e.1)= []:=List.filter_eq_nil_iff.2 (fun y hy=>by rw [zkx (by have:=hx y hy; omega)]; simp)
    have h4:t.filter (fun x=>ltb e.1 x.1)=t:=List.filter_eq_self.2 (fun y hy=>zj4 (by have:=hx y hy; omega))
    rw [h1,y91,h2,List.filter_cons,List.filter_cons,h3,h4,zkx (show e.1≤x.1 by omega)]
    by_cases he:x.1=e.1
    ·rw [show (x.1 !=e.1)=false from bne_eq_false_iff_eq.2 he,zkx (show x.1≤e.1 by omega)]; simp
    ·rw [show (x.1 !=e.1)=true from bne_iff_ne.2 he,zj4 (show e.1 < x.1 by omega)]; simp
   ·have h1:ycQ e (false,acc) x=(false,acc++ [x]):=by
     unfold ycQ; rw [zkv (show x.1 < e.1 by omega),show (x.1 !=e.1)=true from bne_iff_ne.2 (by omega)]; rfl
    rw [h1,ih _ ht,List.filter_cons,List.filter_cons,zj4 (show x.1 < e.1 by omega),zkx (show x.1≤e.1 by omega)]
    simp
 have:=this l [] h
 rw [List.nil_append]at this
 exact this
theorem y7f {g:dG} {l:List dW} {e:dW} (h:yaA g l=true) (he:y87 g e):yaA g (yID l e)=true:=by
 rw [yyg]at h ⊢
 rw [y7y h.2]
 refine ⟨fun x hx=> ?_,?_⟩
 ·rcases List.mem_append.1 hx with h1 | h1
  ·exact h.1 x (List.mem_filter.1 h1).1
  ·rcases List.mem_cons.1 h1 with rfl | h1
   ·exact he
   ·exact h.1 x (List.mem_filter.1 h1).1
 ·rw [List.pairwise_append,List.pairwise_cons]
  refine ⟨h.2.filter _,⟨fun y hy=>zjG.1 (List.mem_filter.1 hy).2,h.2.filter _⟩,fun x hx y hy=> ?_⟩
  have h1:=zjG.1 (List.mem_filter.1 hx).2
  rcases List.mem_cons.1 hy with rfl | hy
  ·exact h1
  ·exact Int.lt_trans h1 (zjG.1 (List.mem_filter.1 hy).2)
theorem ys8 {g:dG} {l:List dW} (h:yaA g l=true) (hg:yf g=true):l.length≤8:=by
 rw [yyg]at h
 have hg:=yk.1 hg
 have:=yTo (l:=l.map (fun e=>e.1)) (lo:=0) (n:=g.2) (by rw [List.pairwise_map]; exact h.2) (fun x hx=>by
  obtain ⟨e,he,rfl⟩:=List.mem_map.1 hx
  have:=(h.1 e he).1; omega) (by omega)
 rw [List.length_map]at this
 omega
theorem y9O {a:dA} (r:dN) (h:yH a):yH (ydg a r) :=
 yDR (yoG (P:=yH) (one:=yfg r) (yuQ r) (fun _ _ h hi=>yIf h (zkl hi)) _ a (Nat.le_refl _) h)
theorem yabX {a:dA} (r:dN) (h:ylM a):ylM (ydg a r) :=
 yKS (yoG (P:=ylM) (one:=yfg r) (yuQ r) (fun _ _ h _=>yNG h _ _ _) _ a (Nat.le_refl _) h)
theorem y7q {a:dA} (s:Int) (d:List Int) (h:yH a):yH (yL a s d) :=
 yoG (P:=yH) (one:=ybO (yh a.2.1 s) a.2.1.1 s d) (yqs _ _ _ _) (fun b i h hi=>by
  unfold ybO
  cases yff b i s
  ·exact h
  ·exact yIf h (zkl hi)) _ a (Nat.le_refl _) h
theorem yabr {a:dA} (s:Int) (d:List Int) (h:ylM a):ylM (yL a s d) :=
 yoG (P:=ylM) (one:=ybO (yh a.2.1 s) a.2.1.1 s d) (yqs _ _ _ _) (fun b i h hi=>by
  unfold ybO
  cases yff b i s
  ·exact h
  ·exact yNG h _ _ _) _ a (Nat.le_refl _) h
theorem yacH {k:Int} {a:dA} (r:dN) (h:Wk k a):Wk k (ydg a r):=yGA (ylS _ _) (y9O r h.2.1) (yabX r h.2.2.1) h
theorem yacl {k:Int} {a:dA} (s:Int) (d:List Int) (h:Wk k a):Wk k (yL a s d):=yGA (yDh _ _ _) (y7q s d h.2.1) (yabr s d h.2.2.1) h
theorem yab7 {k:Int} {a:dA} (h:Wk k a) (h1:a.2.2.2.2.2.1 < 60000) (h2:a.2.2.2.2.2.1 - a.2.2.2.2.2.2.1≤3):Wk k (yQ a):=by
 obtain ⟨⟨c1,c2,c3,c4,c5,c6,c7,c8,c9,c10,c11⟩,g2,g3,g4,g5⟩:=h
 have e:IntKind.i64.wrap (a.2.2.2.2.2.1+1)=a.2.2.2.2.2.1+1:=wr (by omega) (by omega)
 refine ⟨⟨c1,c2,c3,c4,c5,c6,c7,⟨?_,?_⟩,?_,c10,c11⟩,g2,g3,g4,g5⟩
 ·show a.2.2.2.2.2.2.1≤IntKind.i64.wrap (a.2.2.2.2.2.1+1); omega
 ·show IntKind.i64.wrap (a.2.2.2.2.2.1+1)≤60000; omega
 ·show IntKind.i64.wrap (a.2.2.2.2.2.1+1)≤a.2.2.2.2.2.2.1+4; omega
theorem yHG {a b:dA} (h:yG a=yG b):a.2.2.2.2.2.1=b.2.2.2.2.2.1:=congrArg (fun x=>x.2.2.2.2.1) h
theorem yKM {a b:dA} (h:yG a=yG b):a.2.2.2.2.2.2.1=b.2.2.2.2.2.2.1:=congrArg (fun x=>x.2.2.2.2.2.1) h
theorem y05 {a:dA} (h:ylM a):yG (checkA a)=yG (ygV (ycR a)):=by
 rw [y06 h,yh6]
 have:=yoe a
 unfold yG at this ⊢
 simp only [Prod.mk.injEq]at this
 obtain ⟨h1,h2,h3,h4,h5,h6,h7,h8,h9⟩:=this
 unfold ygV ycR
 simp only [h1,h2,h3,h4,h5,h7,h8,h9]
theorem yacE {k:Int} {a:dA} (h:Wk k a) (hk:k+1≤60000):Wk (k+1) (yw a)∧(yw a).2.2.2.2.2.1=a.2.2.2.2.2.1∧(yw a).2.2.2.2.2.1 - (yw a).2.2.2.2.2.2.1≤3:=by
 have c:=h.1
 unfold ydt at c
 unfold yw
 rw [wr (by omega) (by omega)]
 cases h4:leb 4 (a.2.2.2.2.2.1 - a.2.2.2.2.2.2.1)
 ·refine ⟨yeI h (by omega),rfl,?_⟩
  have: ¬ (4≤a.2.2.2.2.2.1 - a.2.2.2.2.2.2.1):=fun g=>by rw [zkw g]at h4; cases h4
  show a.2.2.2.2.2.1 - a.2.2.2.2.2.2.1≤3; omega
 ·have e1:(checkA a).2.2.2.2.2.1=a.2.2.2.2.2.1:=(yHG (y05 h.2.2.1)).trans rfl
  have e2:(checkA a).2.2.2.2.2.2.1=a.2.2.2.2.2.1:=(yKM (y05 h.2.2.1)).trans rfl
  rw [cond_true]
  exact ⟨yaae h hk,e1,by omega⟩
theorem yaca {k:Int} {a:dA} (s:Int) (d:List Int) (h:Wk k a) (hs:a.2.2.2.2.2.1 < 60000) (hk:k+1≤60000):Wk (k+1) (yad a s d).2∧(yad a s d).1=0:=by
 obtain ⟨h1,h2,h3⟩:=yacE h hk
 have h4:=yacH ((yw a).2.2.2.2.2.1,s,d) h1
 have e1:=yHG (ylS (yw a) ((yw a).2.2.2.2.2.1,s,d))
 have e2:=yKM (ylS (yw a) ((yw a).2.2.2.2.2.1,s,d))
 unfold yad
 generalize ydg (yw a) ((yw a).2.2.2.2.2.1,s,d)=R at h4 e1 e2 ⊢
 have h5:=yacl s d (yab7 h4 (by omega) (by omega))
 generalize yL (yQ R) s d=Q at h5 ⊢
 rw [h1.2.2.1.1,h4.2.2.1.1,h5.2.2.1.1]
 exact ⟨h5,rfl⟩
theorem yWw {k:Int} {a:dA} {l:List dW} (h:Wk k a) (hd:yaA a.2.1 l=true):Wk k (yII a l):=by
 obtain ⟨⟨c1,c2,c3,c4,c5,c6,c7,c8,c9,c10,c11⟩,g2,g3,g4,g5⟩:=h
 exact ⟨⟨c1,c2,hd,c4,c5,c6,c7,c8,c9,c10,c11⟩,g2,g3,g4,g5⟩
theorem yTm (a:dA) (s:Int) (d:List Int):(yad a s d).2.2.1=a.2.1:=by
 unfold yad
 have h2:=(ydb (ylS (yw a) ((yw a).2.2.2.2.2.1,s,d))).trans (yaaD a)
 generalize ydg (yw a) ((yw a).2.2.2.2.2.1,s,d)=R at h2 ⊢
 have h3:=(ydb (yDh (yQ R) s d)).trans (show (yQ R).2.1=a.2.1 from h2)
 generalize yL (yQ R) s d=Q at h3 ⊢
 cases ye (yw a)
 ·cases ye R
  ·exact h3
  ·exact h2
 ·exact yaaD a
theorem yaaf {k:Int} {a:dA} (s:Int) (h:Wk k a) (hk:k+1≤60000):Wk (k+1) (flushE a s).2:=by
 unfold flushE
 cases ltb (yI a.2.2.2.2.2.2.2.2.1 s) 0
 ·generalize hD:(nth a.2.2.2.2.2.2.2.2.1 (yI a.2.2.2.2.2.2.2.2.1 s) (0,[])).2=D
  cases hc:(yN a s D !=0)
  ·have hz:=yRk (bne_eq_false_iff_eq.1 hc)
   obtain ⟨h1,h2⟩:=yaca s D h hz.2.2.2.2.2.2.1 hk
   rw [show ((yad a s D).1==0)=true from beq_iff_eq.2 h2]
   exact yWw h1 (by rw [yTm]; exact y7e _ h.1.2.2.1)
  ·exact yeI h (by omega)
 ·exact yeI h (by omega)
theorem yaag {k:Int}: ∀ (n i:Nat) (j:Int) (a:dA),Wk j a→j+n≤k→k≤60000→Wk k (goE ys5 (fun b=>((0:Int),b)) n i a).2
 | 0,_,j,a,h,h1,_=>yeI h (by omega)
 | n+1,i,j,a,h,h1,h2=>by
  have h3:=yaaf (nth a.2.2.2.2.2.2.2.2.1 0 (0,[])).1 h (by omega)
  unfold goE ys5
  cases ((flushE a (nth a.2.2.2.2.2.2.2.2.1 0 (0,[])).1).1 !=0)
  ·exact yaag n (i+1) (j+1) _ h3 (by omega) h2
  ·exact yeI h3 (by omega)
theorem yacD {k:Int} {a:dA} (h:Wk k a) (hk:k+8≤60000):Wk (k+8) (allE a).2:=by
 have:=ys8 h.1.2.2.1 h.1.1
 exact yaag _ 0 k a h (by omega) hk
theorem yacI {k:Int} {a:dA} {b n:Int} (h:Wk k a) (hb:blkOk a.2.1 b=true) (hn:isW n=true):Wk k (setOne a b n).2:=by
 unfold setOne
 cases hs:(yao a (yav a.2.1 b)).2
 ·exact h
 ·have hstr:=yLC hb
  have hl:=yED (yabE h) hstr hs
  refine yWw h (y7f h.1.2.2.1 ⟨(ybK.1 hstr).2,by rw [List.length_set]; exact hl,y67 ?_ hn⟩)
  unfold yao
  cases hk:leb 0 (yI a.2.2.2.2.2.2.2.2.1 (yav a.2.1 b))
  ·rw [h.2.2.2.1]; exact y7d _ _
  ·have:=(yta (d:=((0:Int),([]:List Int))) hk).1
   exact yfH (P:=fun e:dW=>e.2.all isW=true) this (fun e he=>((yyg.1 h.1.2.2.1).1 e he).2.2)
def Cw (k:Int) (a:dA):Prop:=ydt a∧a.2.2.2.2.2.2.2.2.2.2.2=false∧a.2.2.2.2.2.2.2.1≤k
theorem ydu {k j:Int} {a:dA} (h:Cw k a) (hj:k≤j):Cw j a:=⟨h.1,h.2.1,Int.le_trans h.2.2 hj⟩
theorem yB6 {k:Int} {a b:dA} (hc:yG b=yG a) (h:Cw k a):Cw k b:=by
 refine ⟨yaaE hc h.1,?_⟩
 unfold yG at hc
 simp only [Prod.mk.injEq]at hc
 obtain ⟨_,_,_,_,_,_,h7,_,h9⟩:=hc
 rw [h7,h9]; exact h.2
theorem yabR {k:Int} {a:dA} (h:Cw k a) (hk:k+1≤60000):Cw (k+1) (ygV a):=by
 obtain ⟨⟨c1,c2,c3,c4,c5,c6,c7,c8,c9,c10,c11⟩,h4,h5⟩:=h
 have e:IntKind.i64.wrap (a.2.2.2.2.2.2.2.1+1)=a.2.2.2.2.2.2.2.1+1:=wr (by omega) (by omega)
 refine ⟨⟨c1,c2,c3,c4,c5,c6,c7,c8,c9,?_,?_⟩,h4,?_⟩
 ·show 0≤IntKind.i64.wrap (a.2.2.2.2.2.2.2.1+1); omega
 ·show IntKind.i64.wrap (a.2.2.2.2.2.2.2.1+1)≤_; omega
 ·show IntKind.i64.wrap (a.2.2.2.2.2.2.2.1+1)≤_; omega
theorem y4R {k:Int} {a:dA} (h:Cw k a) (hk:k+1≤60000):Cw (k+1) (markA a):=yB6 (yh6 _) (yabR h hk)
theorem yabk {k:Int} {a:dA} (h:Cw k a):Cw k (ycR a):=by
 obtain ⟨⟨c1,c2,c3,c4,c5,c6,c7,c8,c9,c10,c11⟩,h4,h5⟩:=h
 refine ⟨⟨c1,c2,c3,c4,c5,c6,⟨?_,?_⟩,⟨Int.le_refl _,c8.2⟩,?_,c10,c11⟩,h4,h5⟩
 ·show 0≤a.2.2.2.2.2.1; omega
 ·show a.2.2.2.2.2.1≤60000; omega
 ·show a.2.2.2.2.2.1≤a.2.2.2.2.2.1+4; omega
theorem y9d {k:Int} {a:dA} (h:Cw k a) (hk:k+1≤60000):Cw (k+1) (checkA a):=by
 have hs:Cw k (yz a):=yB6 (yoe a) h
 unfold checkA
 cases ye (yz a)
 ·exact y4R (yabk hs) hk
 ·exact ydu hs (by omega)
theorem yacr {k:Int} {a:dA} (h:Cw k a) (hk:k+1≤60000):Cw (k+1) (yw a):=by
 unfold yw
 cases leb 4 (IntKind.i64.wrap (a.2.2.2.2.2.1 - a.2.2.2.2.2.2.1))
 ·exact ydu h (by omega)
 ·exact y9d h hk
theorem yabQ {a:dA} (c:ydt a) (hd:ye (yw a)=false):(yw a).2.2.2.2.2.1=a.2.2.2.2.2.1∧(yw a).2.2.2.2.2.1 - (yw a).2.2.2.2.2.2.1≤3:=by
 unfold ydt at c
 unfold yw at hd ⊢
 rw [wr (by omega) (by omega)] at hd ⊢
 cases h4:leb 4 (a.2.2.2.2.2.1 - a.2.2.2.2.2.2.1)
 ·have: ¬ (4≤a.2.2.2.2.2.1 - a.2.2.2.2.2.2.1):=fun g=>by rw [zkw g]at h4; cases h4
  refine ⟨rfl,?_⟩
  show a.2.2.2.2.2.1 - a.2.2.2.2.2.2.1≤3; omega
 ·rw [h4,cond_true]at hd
  rw [cond_true]
  have hs:=yHG (yoe a)
  unfold checkA at hd ⊢
  cases hq:ye (yz a)
  ·have e1:(markA (ycR (yz a))).2.2.2.2.2.1=(yz a).2.2.2.2.2.1:=(yHG (yh6 (ycR (yz a)))).trans rfl
   have e2:(markA (ycR (yz a))).2.2.2.2.2.2.1=(yz a).2.2.2.2.2.1:=(yKM (yh6 (ycR (yz a)))).trans rfl
   rw [cond_false]
   omega
  ·rw [hq,cond_true]at hd
   rw [hq]at hd; cases hd
theorem yabS {k:Int} {a:dA} (h:Cw k a) (h1:a.2.2.2.2.2.1 < 60000) (h2:a.2.2.2.2.2.1 - a.2.2.2.2.2.2.1≤3):Cw k (yQ a):=by
 obtain ⟨⟨c1,c2,c3,c4,c5,c6,c7,c8,c9,c10,c11⟩,g4,g5⟩:=h
 have e:IntKind.i64.wrap (a.2.2.2.2.2.1+1)=a.2.2.2.2.2.1+1:=wr (by omega) (by omega)
 refine ⟨⟨c1,c2,c3,c4,c5,c6,c7,⟨?_,?_⟩,?_,c10,c11⟩,g4,g5⟩
 ·show a.2.2.2.2.2.2.1≤IntKind.i64.wrap (a.2.2.2.2.2.1+1); omega
 ·show IntKind.i64.wrap (a.2.2.2.2.2.1+1)≤60000; omega
 ·show IntKind.i64.wrap (a.2.2.2.2.2.1+1)≤a.2.2.2.2.2.2.1+4; omega
theorem yabT {k:Int} {a:dA} (s:Int) (d:List Int) (h:Cw k a) (hs:a.2.2.2.2.2.1 < 60000) (hk:k+1≤60000):Cw (k+1) (yad a s d).2:=by
 have h1:=yacr h hk
 have h2:=fun hd=>yabQ h.1 hd
 have h4:Cw (k+1) (ydg (yw a) ((yw a).2.2.2.2.2.1,s,d)):=yB6 (ylS _ _) h1
 have e1:=yHG (ylS (yw a) ((yw a).2.2.2.2.2.1,s,d))
 have e2:=yKM (ylS (yw a) ((yw a).2.2.2.2.2.1,s,d))
 unfold yad
 generalize ydg (yw a) ((yw a).2.2.2.2.2.1,s,d)=R at h4 e1 e2 ⊢
 cases hd:ye (yw a)
 ·obtain ⟨g1,g2⟩:=h2 hd
  have h5:Cw (k+1) (yL (yQ R) s d):=yB6 (yDh _ _ _) (yabS h4 (by omega) (by omega))
  generalize yL (yQ R) s d=Q at h5 ⊢
  cases ye R
  ·exact h5
  ·exact h4
 ·exact h1
theorem yWm {k:Int} {a:dA} {l:List dW} (h:Cw k a) (hd:yaA a.2.1 l=true):Cw k (yII a l):=by
 obtain ⟨⟨c1,c2,c3,c4,c5,c6,c7,c8,c9,c10,c11⟩,g4,g5⟩:=h
 exact ⟨⟨c1,c2,hd,c4,c5,c6,c7,c8,c9,c10,c11⟩,g4,g5⟩
theorem y9e {k:Int} {a:dA} (s:Int) (h:Cw k a) (hk:k+1≤60000):Cw (k+1) (flushE a s).2:=by
 unfold flushE
 cases ltb (yI a.2.2.2.2.2.2.2.2.1 s) 0
 ·generalize hD:(nth a.2.2.2.2.2.2.2.2.1 (yI a.2.2.2.2.2.2.2.2.1 s) (0,[])).2=D
  cases hc:(yN a s D !=0)
  ·have hz:=yRk (bne_eq_false_iff_eq.1 hc)
   have h1:=yabT s D h hz.2.2.2.2.2.2.1 hk
   cases ((yad a s D).1==0)
   ·exact h1
   ·exact yWm h1 (by rw [yTm]; exact y7e _ h.1.2.2.1)
  ·exact ydu h (by omega)
 ·exact ydu h (by omega)
theorem y9f {k:Int}: ∀ (n i:Nat) (j:Int) (a:dA),Cw j a→j+n≤k→k≤60000→Cw k (goE ys5 (fun b=>((0:Int),b)) n i a).2
 | 0,_,j,a,h,h1,_=>ydu h (by omega)
 | n+1,i,j,a,h,h1,h2=>by
  have h3:=y9e (nth a.2.2.2.2.2.2.2.2.1 0 (0,[])).1 h (by omega)
  unfold goE ys5
  cases ((flushE a (nth a.2.2.2.2.2.2.2.2.1 0 (0,[])).1).1 !=0)
  ·exact y9f n (i+1) (j+1) _ h3 (by omega) h2
  ·exact ydu h3 (by omega)
theorem yacs {k:Int} {a:dA} {b n:Int} (h:Cw k a) (hkp:yH a) (hb:blkOk a.2.1 b=true) (hn:isW n=true):Cw k (setOne a b n).2:=by
 unfold setOne
 cases hs:(yao a (yav a.2.1 b)).2
 ·exact h
 ·have hstr:=yLC hb
  have hl:=yED (yBV.2 ⟨h.1,hkp⟩) hstr hs
  refine yWm h (y7f h.1.2.2.1 ⟨(ybK.1 hstr).2,by rw [List.length_set]; exact hl,y67 ?_ hn⟩)
  unfold yao
  cases hk:leb 0 (yI a.2.2.2.2.2.2.2.2.1 (yav a.2.1 b))
  ·rw [h.2.1]; exact y7d _ _
  ·have:=(yta (d:=((0:Int),([]:List Int))) hk).1
   exact yfH (P:=fun e:dW=>e.2.all isW=true) this (fun e he=>((yyg.1 h.1.2.2.1).1 e he).2.2)
theorem yach {k m:Int} {a:dA} (h:Cw k a) (hkp:yH a) (hl:a.2.2.2.1= -1) (hm:inb m a.2.2.1.length=true) (hk:k+1≤60000):Cw (k+1) (failOne a m):=by
 have hmi:=zjC.1 hm
 have hn:=hkp.1.2
 have hw:Cw k (ybG a m):=by
  obtain ⟨⟨c1,c2,c3,c4,c5,c6,c7,c8,c9,c10,c11⟩,b,t⟩:=h
  refine ⟨⟨c1,c2,c3,⟨?_,?_⟩,⟨Int.le_refl _,by show (0:Int)≤a.2.1.2; omega⟩,fun e=>rfl,c7,c8,c9,c10,c11⟩,b,t⟩
  ·show -1≤m; omega
  ·show m≤a.2.1.1 - 1; omega
 unfold failOne
 rw [show (a.2.2.2.1== -1)=true from beq_iff_eq.2 hl]
 show Cw (k+1) (bif (!(ye a)&&(!a.2.2.2.2.2.2.2.2.2.2.2&&ltb a.2.2.2.2.2.2.2.1 60000)) then markA (ybG a m) else ybG a m)
 cases (!(ye a)&&(!a.2.2.2.2.2.2.2.2.2.2.2&&ltb a.2.2.2.2.2.2.2.1 60000))
 ·exact ydu hw (by omega)
 ·exact y4R hw hk
theorem yabl {k:Int} {a b:dA} (h:Cw k a) (hkp:yH a) (ht:Turned a b) (hk:k+8≤60000):Cw (k+8) b:=by
 have hn:=hkp.1.2
 cases ht with
 | same=>exact ydu h (by omega)
 | put b x hb hx=>exact ydu (yacs h hkp hb hx) (by omega)
 | flush s=>exact ydu (y9e s h (by omega)) (by omega)
 | all=>have:=ys8 h.1.2.2.1 h.1.1; exact y9f _ 0 k a h (by omega) hk
 | fail m hl hm=>exact ydu (yach h hkp hl hm (by omega)) (by omega)
 | spare hl _ =>
  refine ydu (y4R (k:=k) ?_ (by omega)) (by omega)
  obtain ⟨⟨c1,c2,c3,c4,c5,c6,c7,c8,c9,c10,c11⟩,b,t⟩:=h
  exact ⟨⟨c1,c2,c3,c4,⟨Int.le_refl _,by show (0:Int)≤a.2.1.2; omega⟩,fun e=>rfl,c7,c8,c9,c10,c11⟩,b,t⟩
 | step hl hf hb =>
  have hmi:=zjC.1 hl
  have e:=yxN a a.2.2.2.1 (dataAt a.2.2.2.2.1) [nth (yax a a.2.2.2.2.1).1 a.2.2.2.1 0]
  have hp:Cw k (yag a):=yB6 e h
  have e1:(yag a).2.2.2.2.1=a.2.2.2.2.1:=y07 e
  have e2:(yag a).2.1=a.2.1:=ydb e
  have e3:(yag a).2.2.2.1=a.2.2.2.1:=congrArg (fun x=>x.2.2.1) e
  unfold stepOne
  cases (yax a a.2.2.2.2.1).2
  ·exact ydu h (by omega)
  ·generalize yag a=R at hp e1 e2 e3 ⊢
   cases ye R
   ·obtain ⟨⟨c1,c2,c3,c4,c5,c6,c7,c8,c9,c10,c11⟩,g4,g5⟩:=hp
    have hg:=yk.1 c1
    have e4:IntKind.i64.wrap (R.2.2.2.2.1+1)=R.2.2.2.2.1+1:=wr (by omega) (by omega)
    refine ydu (k:=k) ⟨⟨c1,c2,c3,c4,⟨?_,?_⟩,fun e=> ?_,c7,c8,c9,c10,c11⟩,g4,g5⟩ (by omega)
    ·show 0≤IntKind.i64.wrap (R.2.2.2.2.1+1); omega
    ·show IntKind.i64.wrap (R.2.2.2.2.1+1)≤R.2.1.2; rw [e4,e1,e2]; omega
    ·have:R.2.2.2.1= -1:=e
     omega
   ·exact ydu hp (by omega)
 | check=>exact ydu (y9d h (by omega)) (by omega)
 | spoil m s hm _ _=>exact ydu (yB6 (a:=a) (b:=setMem a m (spoil (nth a.2.2.1 m noMem) (dataAt s))) rfl h) (by omega)
theorem y7a {a:dA} (h:yE a=true):yaA a.2.1 a.2.2.2.2.2.2.2.2.1=true:=by
 simp only [yE,Bool.and_eq_true]at h; exact h.2.2.2.1
theorem yabH {k:Int} {a b:dA} (h:Wk k a) (ht:Turned a b) (hk:k+8≤60000):Wk (k+8) b:=by
 cases ht with
 | same=>exact yeI h (by omega)
 | put b x hb hx=>exact yeI (yacI h hb hx) (by omega)
 | flush s=>exact yeI (yaaf s h (by omega)) (by omega)
 | all=>exact yacD h hk
 | fail m hl hm=>exact yeI (yacm h hl hm (by omega)) (by omega)
 | spare hl _=>exact yeI (yab8 h hl (by omega)) (by omega)
 | step hl _ hb=>exact yeI (yacn h hl hb) (by omega)
 | check=>exact yeI (yaae h (by omega)) (by omega)
 | spoil m s hm _ _=>exact yeI (yab9 h hm) (by omega)
def Nie (M:Nat) (x:dA):Prop:=x.2.2.1.length≤5∧yan x.2.2.1∧x.2.2.2.2.2.2.2.2.1.length≤M
theorem y7x {M:Nat} {a:dA} (s:Int) (h:Nie M a):Nie M (flushE a s).2:=by
 unfold flushE
 cases ltb (yI a.2.2.2.2.2.2.2.2.1 s) 0
 ·generalize (nth a.2.2.2.2.2.2.2.2.1 (yI a.2.2.2.2.2.2.2.2.1 s) (0,[])).2=D
  cases (yN a s D !=0)
  ·have hw:=yaa5 (d:=a.2.2.2.2.2.2.2.2.1) s D ⟨h.1,h.2.1,rfl⟩
   cases ((yad a s D).1==0)
   ·exact ⟨hw.1,hw.2.1,by show (yad a s D).2.2.2.2.2.2.2.2.2.1.length≤M; rw [hw.2.2]; exact h.2.2⟩
   ·refine ⟨hw.1,hw.2.1,Nat.le_trans ?_ h.2.2⟩
    show (yKN _ _).length≤_
    unfold yKN
    rw [List.length_append,List.length_take,List.length_drop]; omega
  ·exact h
 ·exact h
theorem yaaM {M:Nat}: ∀ (k i:Nat) (a:dA),Nie M a→Nie M (goE ys5 (fun b=>(0,b)) k i a).2
 | 0,_,_,h=>h
 | k+1,i,a,h=>by
  have hf:=y7x (nth a.2.2.2.2.2.2.2.2.1 0 (0,[])).1 h
  unfold goE ys5
  cases hc:((flushE a (nth a.2.2.2.2.2.2.2.2.1 0 (0,[])).1).1 !=0)
  ·exact yaaM k (i+1) _ hf
  ·exact hf
theorem yaaN {a:dA} (h:yE a=true):Nie 8 a:=⟨y9b h,yNv h,ys8 (y7a h) (yll h)⟩
theorem yab3 (l:List dW) (e:dW) (h:l.Pairwise (fun x y=>x.1 < y.1)):(yID l e).length≤l.length+1:=by
 rw [y7y h,List.length_append,List.length_cons]
 have h7: ∀ (l:List dW) (s:Int),(l.filter (fun x=>ltb x.1 s)).length+(l.filter (fun x=>ltb s x.1)).length≤l.length:=by
  intro l s
  induction l with
  | nil=>exact Nat.le_refl _
  | cons x t ih =>
   rw [List.filter_cons,List.filter_cons,List.length_cons]
   by_cases hx:x.1 < s
   ·rw [zj4 hx,zkx (show x.1≤s by omega)]; simp only [if_true,Bool.false_eq_true,if_false,List.length_cons]; omega
   ·rw [zkx (show s≤x.1 by omega)]
    cases ltb s x.1<;>simp only [if_true,Bool.false_eq_true,if_false,List.length_cons]<;>omega
 have:=h7 l e.1
 omega
theorem yIp {M:Nat} {d:List dW} {x:dA} (h:yaG d x) (hd:d.length≤M):Nie M x:=⟨h.1,h.2.1,by rw [h.2.2]; exact hd⟩
theorem yIo {M N:Nat} {x:dA} (h:Nie M x) (hd:M≤N):Nie N x:=⟨h.1,h.2.1,Nat.le_trans h.2.2 hd⟩
theorem yaa7 {a b:dA} (h:yE a=true) (ht:Turned a b):Nie 9 b:=by
 have hn:=yaaN h
 have hd8:a.2.2.2.2.2.2.2.2.1.length≤9:=Nat.le_trans hn.2.2 (by omega)
 have hlo:=yacv h
 cases ht with
 | same=>exact yIo hn (by omega)
 | put b x hb hx =>
  unfold setOne
  cases (yao a (yav a.2.1 b)).2
  ·exact yIo hn (by omega)
  ·refine ⟨hn.1,hn.2.1,?_⟩
   have:=yab3 a.2.2.2.2.2.2.2.2.1 (yav a.2.1 b,(yao a (yav a.2.1 b)).1.set (yym a.2.1 b).toNat x) (yyg.1 (y7a h)).2
   have h8:=hn.2.2
   show (yID _ _).length≤9
   omega
 | flush s=>exact yIo (y7x s hn) (by omega)
 | all=>exact yIo (yaaM _ 0 a hn) (by omega)
 | fail m _ hm=>exact yIp (yacj hlo hm).1 hd8
 | spare _ _=>exact yIp (yab0 hlo).1 hd8
 | step hl _ _=>exact yIp (yaby hlo.1 hl) hd8
 | check=>exact yIp (yNX hlo.1) hd8
 | spoil m s hm _ _ =>
  refine yIp (d:=a.2.2.2.2.2.2.2.2.1) ⟨?_,?_,rfl⟩ hd8
  ·show (a.2.2.1.set _ _).length≤5
   rw [List.length_set]; exact hn.1
  ·exact yAd hn.2.1 (yOc _ (yfH (P:=fun x:dM=>yu x=true) hm hn.2.1))
theorem yabe (a:dA) (s:Int) (d:List Int):(yad a s d).2.2.2.1.length=a.2.2.1.length:=by
 unfold yad
 have hc:=yacg a
 have hr:=(yNn (yw a) ((yw a).2.2.2.2.2.1,s,d)).trans hc
 generalize ydg (yw a) ((yw a).2.2.2.2.2.1,s,d)=R at hr ⊢
 have hq:(yL (yQ R) s d).2.2.1.length=a.2.2.1.length:=(y9h (yQ R) s d).trans hr
 generalize yL (yQ R) s d=Q at hq ⊢
 cases ye (yw a)
 ·cases ye R
  ·exact hq
  ·exact hr
 ·exact hc
theorem y1H (a:dA) (s:Int):(flushE a s).2.2.2.1.length=a.2.2.1.length:=by
 unfold flushE
 cases ltb (yI a.2.2.2.2.2.2.2.2.1 s) 0
 ·generalize (nth a.2.2.2.2.2.2.2.2.1 (yI a.2.2.2.2.2.2.2.2.1 s) (0,[])).2=D
  have hw:=yabe a s D
  cases (yN a s D !=0)
  ·cases ((yad a s D).1==0)
   ·exact hw
   ·exact hw
  ·rfl
 ·rfl
theorem y9a: ∀ (k i:Nat) (a:dA),(goE ys5 (fun b=>(0,b)) k i a).2.2.2.1.length=a.2.2.1.length
 | 0,_,_=>rfl
 | k+1,i,a=>by
  have hf:=y1H a (nth a.2.2.2.2.2.2.2.2.1 0 (0,[])).1
  unfold goE ys5
  cases hc:((flushE a (nth a.2.2.2.2.2.2.2.2.1 0 (0,[])).1).1 !=0)
  ·exact (y9a k (i+1) _).trans hf
  ·exact hf
theorem yabc {a b:dA} (h:yE a=true) (ht:Turned a b):b.2.2.1.length=a.2.2.1.length:=by
 cases ht with
 | same=>rfl
 | put b x hb hx=>unfold setOne; cases (yao a (yav a.2.1 b)).2<;>rfl
 | flush s=>exact y1H a s
 | all=>exact y9a _ 0 a
 | fail m _ hm =>
  have hf:=(yWp (yNv h) hm).2
  unfold failOne
  cases (a.2.2.2.1== -1||a.2.2.2.1==m)
  ·exact hf
  ·cases (!(ye a)&&(!a.2.2.2.2.2.2.2.2.2.2.2&&ltb a.2.2.2.2.2.2.2.1 60000))
   ·exact hf
   ·exact (yIh (ybG a m)).trans hf
 | spare _ _=>exact (yIh (spareNew a)).trans (List.length_set)
 | step _ _ _ =>
  have e2:(yag a).2.2.1.length=a.2.2.1.length:=yuD _ _ _ _
  unfold stepOne
  cases (yax a a.2.2.2.2.1).2
  ·rfl
  ·generalize yag a=R at e2 ⊢
   cases ye R
   ·exact e2
   ·exact e2
 | check=>exact yKr a
 | spoil m s _ _ _=>exact List.length_set
theorem yaaZ {a:dA} (s:Int) (d:List Int) (h:yH a):yH (yad a s d).2:=by
 have hc:yH (yw a):=by
  unfold yw
  cases leb 4 (IntKind.i64.wrap (a.2.2.2.2.2.1 - a.2.2.2.2.2.2.1))
  ·exact h
  ·exact y2z h
 unfold yad
 have hr:=y9O ((yw a).2.2.2.2.2.1,s,d) hc
 generalize ydg (yw a) ((yw a).2.2.2.2.2.1,s,d)=R at hr ⊢
 have hq:yH (yL (yQ R) s d):=y7q (a:=yQ R) s d hr
 generalize yL (yQ R) s d=Q at hq ⊢
 cases ye (yw a)
 ·cases ye R
  ·exact hq
  ·exact hr
 ·exact hc
theorem y2A {a:dA} (s:Int) (h:yH a):yH (flushE a s).2:=by
 unfold flushE
 cases ltb (yI a.2.2.2.2.2.2.2.2.1 s) 0
 ·generalize (nth a.2.2.2.2.2.2.2.2.1 (yI a.2.2.2.2.2.2.2.2.1 s) (0,[])).2=D
  have hw:=yaaZ s D h
  cases (yN a s D !=0)
  ·cases ((yad a s D).1==0)
   ·exact hw
   ·exact hw
  ·exact h
 ·exact h
theorem y9N: ∀ (k i:Nat) (a:dA),yH a→yH (goE ys5 (fun b=>(0,b)) k i a).2
 | 0,_,_,h=>h
 | k+1,i,a,h=>by
  have hf:=y2A (nth a.2.2.2.2.2.2.2.2.1 0 (0,[])).1 h
  unfold goE ys5
  cases hc:((flushE a (nth a.2.2.2.2.2.2.2.2.1 0 (0,[])).1).1 !=0)
  ·exact y9N k (i+1) _ hf
  ·exact hf
theorem y8v {a:dA} {m:Int} (h:yH a) (hl:a.2.2.2.1= -1) (hm:inb m a.2.2.1.length=true):yH (ybG a m):=by
 have hmi:=zjC.1 hm
 obtain ⟨⟨g1,g2⟩,g3⟩:=h
 refine ⟨⟨?_,?_⟩,g3⟩
 ·show yNJ m a.2.2.2.2.2.2.2.2.2.2.2 a.2.1.2 (a.2.2.1.set m.toNat (yyj (nth a.2.2.1 m noMem)))
  refine yDS (fun i hi=> ?_) (fun hi=> ?_)
  ·obtain ⟨e1,e2,e3⟩:=g1 i hi
   refine ⟨e1,e2,fun e=> ?_⟩
   rcases e3 e with e | e
   ·omega
   ·exact .inr e
  ·have:=g1 m.toNat hi
   rw [Int.toNat_of_nonneg hmi.1]at this
   exact ⟨y5q this.1,this.2.1,fun _=> .inl (Int.toNat_of_nonneg hmi.1)⟩
 ·show ((a.2.2.1.set m.toNat (yyj (nth a.2.2.1 m noMem))).length:Int)=a.2.1.1
  rw [List.length_set]; exact g2
theorem y8w {a:dA} (h:yH a) (hgo:yf a.2.1=true):yH (spareNew a):=by
 obtain ⟨⟨g1,g2⟩,g3⟩:=h
 have hg:=yk.1 hgo
 refine ⟨⟨yDS g1 (fun hi=>⟨yK0 (by omega) (by omega),?_,fun e=> ?_⟩),?_⟩,g3⟩
 ·unfold ycO
  rw [zkw (show 1≤6+a.2.1.2 by omega),zkw (show 6+a.2.1.2≤20 by omega)]
  show ((List.replicate (6+a.2.1.2).toNat ([]:List Int)).length:Int)=6+a.2.1.2
  rw [List.length_replicate]; omega
 ·unfold ycO at e
  rw [zkw (show 1≤6+a.2.1.2 by omega),zkw (show 6+a.2.1.2≤20 by omega)] at e
  cases e
 ·show ((a.2.2.1.set a.2.2.2.1.toNat (ycO (6+a.2.1.2))).length:Int)=a.2.1.1
  rw [List.length_set]; exact g2
theorem yWs {a b:dA} (h:yH a) (hgo:yf a.2.1=true) (ht:Turned a b):yH b:=by
 cases ht with
 | same=>exact h
 | put b x hb hx=>unfold setOne; cases (yao a (yav a.2.1 b)).2<;>exact h
 | flush s=>exact y2A s h
 | all=>exact y9N _ 0 a h
 | fail m hl hm =>
  have hf:=y8v h hl hm
  unfold failOne
  rw [show (a.2.2.2.1== -1)=true from beq_iff_eq.2 hl]
  show yH (bif (!(ye a)&&(!a.2.2.2.2.2.2.2.2.2.2.2&&ltb a.2.2.2.2.2.2.2.1 60000)) then markA (ybG a m) else ybG a m)
  cases (!(ye a)&&(!a.2.2.2.2.2.2.2.2.2.2.2&&ltb a.2.2.2.2.2.2.2.1 60000))
  ·exact hf
  ·exact yKY hf
 | spare _ _=>exact yKY (y8w h hgo)
 | step hl _ _ =>
  have hp:yH (yag a):=yIf h hl
  unfold stepOne
  cases (yax a a.2.2.2.2.1).2
  ·exact h
  ·generalize yag a=R at hp ⊢
   cases ye R
   ·exact hp
   ·exact hp
 | check=>exact y2z h
 | spoil m s hm _ _=>exact yCD h hm (fun g=>⟨yOc _ g.1,by rw [(yLp _ _).1]; exact g.2.1,by rw [(yLp _ _).2]; exact g.2.2⟩)
def Sec2 (a:dA):Prop:= ∀ m∈a.2.2.1,2≤m.1.length
theorem yabA {a:dA} (h:yH a) (hg:1≤a.2.1.2):Sec2 a:=fun m hm=>by
 obtain ⟨i,hi,rfl⟩:=List.getElem_of_mem hm
 have:=(h.1.1 i hi).2.1
 rw [zkm,zkd hi]at this
 omega
theorem y4w {a b:dA} (ht:Turned a b):b.2.1=a.2.1:=by
 have fl: ∀ (a:dA) (s:Int),(flushE a s).2.2.1=a.2.1:=fun a s=>by
  unfold flushE
  cases ltb (yI a.2.2.2.2.2.2.2.2.1 s) 0
  ·generalize (nth a.2.2.2.2.2.2.2.2.1 (yI a.2.2.2.2.2.2.2.2.1 s) (0,[])).2=D
   have hw:=yTm a s D
   cases (yN a s D !=0)
   ·cases ((yad a s D).1==0)
    ·exact hw
    ·exact hw
   ·rfl
  ·rfl
 have al: ∀ (k i:Nat) (a:dA),(goE ys5 (fun b=>(0,b)) k i a).2.2.1=a.2.1:=by
  intro k
  induction k with
  | zero=>intro _ _; rfl
  | succ k ih =>
   intro i a
   have hf:=fl a (nth a.2.2.2.2.2.2.2.2.1 0 (0,[])).1
   unfold goE ys5
   cases hc:((flushE a (nth a.2.2.2.2.2.2.2.2.1 0 (0,[])).1).1 !=0)
   ·exact (ih (i+1) _).trans hf
   ·exact hf
 cases ht with
 | same=>rfl
 | put b x hb hx=>unfold setOne; cases (yao a (yav a.2.1 b)).2<;>rfl
 | flush s=>exact fl a s
 | all=>exact al _ 0 a
 | fail m hl hm =>
  unfold failOne
  cases (a.2.2.2.1== -1||a.2.2.2.1==m)
  ·rfl
  ·cases (!(ye a)&&(!a.2.2.2.2.2.2.2.2.2.2.2&&ltb a.2.2.2.2.2.2.2.1 60000))
   ·rfl
   ·exact (ydb (yh6 (ybG a m))).trans rfl
 | spare _ _=>exact (ydb (yh6 (spareNew a))).trans rfl
 | step _ _ _ =>
  have e2:(yag a).2.1=a.2.1:=ydb (yxN _ _ _ _)
  unfold stepOne
  cases (yax a a.2.2.2.2.1).2
  ·rfl
  ·generalize yag a=R at e2 ⊢
   cases ye R
   ·exact e2
   ·exact e2
 | check=>exact yRj a
 | spoil m s _ _ _=>rfl
theorem yWu {a b:dA} (h:yE a=true) (ht:Turned a b):Sec2 b:=by
 have hg:=yll h
 have hge:=yk.1 hg
 exact yabA (yWs (yBV.1 h).2 hg ht) (by rw [y4w ht]; omega)
end
section
def yOx:Code:=(Tryz.f271.body).getD .skip
def yO8:Env:=zj2 TT [(239,yBZ)] []
theorem yXB:FrOk Tryz.prog ⟨yO8,18,fun _=>none⟩ yOx:=zj6 yc yd ⟨yPq,trivial⟩
def y0A:Nat→Option Seg:=fun _=>none
abbrev yjQ:List Par:= [.rd tN]
abbrev ywz:List OT:= [⟨false,tL,(.ow .fz)⟩]
def ysf (a0:dN):Option (ResD ywz×MutD yjQ) :=
 let r1:=yB a0
 bif (!r1) then
 some ((([]:List Int),()),())
 else
 bif (zjQ ([21322,a0.1,a0.2.1,(a0.2.2.length:Int)]:List Int).length a0.2.2.length 8) then
 some (((([21322,a0.1,a0.2.1,(a0.2.2.length:Int)]:List Int)++a0.2.2),()),())
 else none
theorem y75 (x:InD yjQ):zjw ⟨yO8,18,y0A⟩ Tryz.f271.results.toList yOx yjQ ywz x=ysf x.1:=by kernel_rfl
theorem y3w:ConOk Tryz.prog 271 ⟨yjQ,ywz,fun x=>ysf x.1⟩:=zj1 (yXB) Tryz.func271 (by kernel_rfl) (by kernel_rfl) Tryz.ntmps271.symm (by decide) (fun x r h=>(y75 x).trans h)
def yqf (a0:dN):List Int:=ytu a0
theorem y5Y (a0:dN) (hk:zi1 yjQ (a0,())):ysf a0=(fun n=>some ((n,()),())) (yqf a0):=by
 unfold ysf yqf ytu
 cases hr:yB a0
 ·rfl
 ·have:=(yTh.1 hr).2.2.1
  rw [zka.2 (show (([21322,a0.1,a0.2.1,(a0.2.2.length:Int)]:List Int).length+a0.2.2.length) * 8≤140737488355328 by simp only [List.length_cons,List.length_nil]; omega)]; rfl
def yKC:Con:=⟨yjQ,ywz,fun x=>(fun n=>some ((n,()),())) (yqf x.1)⟩
theorem y6P:ConOk Tryz.prog 271 yKC:=(y3w).mono (fun x r hk h=>(y5Y x.1 hk).trans h)
end
section
def ysx:Code:=(Tryz.f229.body).getD .skip
def yyE:Env:=zj2 TT [(160,yzx),(207,ynG),(261,yrX),(271,yKC)] []
theorem y2o:FrOk Tryz.prog ⟨yyE,24,fun _=>none⟩ ysx:=zj6 yc yd ⟨yNc,yw0,yCf,y6P,trivial⟩
def yMe:Nat→Option Seg:=fun _=>none
def yd3:Shape:=⟨[(0,false,[.ptr 1000000000 0]),(3,false,[.ptr 0 0]),(4,false,[.int .i64])],[(0,[.int .i64,.int .i64,.br tI]),(1000000000,[.int .i64,.int .i64,.int .i64,.at 800000000,.int .i64,.int .i64,.int .i64,.int .i64,.int .i64,.at 800000001,.int .i64,.bool,.bool])],[(800000000,tM,(.pr (.ow .fz) (.pr (.ow (.pr .fz .fz)) (.pr .fz (.ow .fz))))),(800000001,tW,(.pr .fz .fz))]⟩
def ykR:Shape:=⟨[(0,false,[.ptr 1000000000 0]),(3,false,[.ptr 0 0]),(4,false,[.ci .i64 0])],[(0,[.int .i64,.int .i64,.br tI]),(1000000000,[.int .i64,.int .i64,.int .i64,.at 800000000,.int .i64,.int .i64,.int .i64,.int .i64,.int .i64,.at 800000001,.int .i64,.bool,.bool])],[(800000000,tM,(.pr (.ow .fz) (.pr (.ow (.pr .fz .fz)) (.pr .fz (.ow .fz))))),(800000001,tW,(.pr .fz .fz))]⟩
def ykC:Shape:=⟨[(0,false,[.ptr 1000000000 0])],[(1000000000,[.int .i64,.int .i64,.int .i64,.at 800000000,.int .i64,.int .i64,.int .i64,.int .i64,.int .i64,.at 800000001,.int .i64,.bool,.bool])],[(800000000,tM,(.pr (.ow .fz) (.pr (.ow (.pr .fz .fz)) (.pr .fz (.ow .fz))))),(800000001,tW,(.pr .fz .fz))]⟩
def yrN:Shape:=⟨[],[],[]⟩
abbrev yxF (v0:Int) (v1:dN) (v2:dA):(yd3).X:=((((),()),((),()),(v0,()),()),((v1.1,v1.2.1,v1.2.2,()),(v2.1,v2.2.1.1,v2.2.1.2,(),v2.2.2.2.1,v2.2.2.2.2.1,v2.2.2.2.2.2.1,v2.2.2.2.2.2.2.1,v2.2.2.2.2.2.2.2.1,(),v2.2.2.2.2.2.2.2.2.2.1,v2.2.2.2.2.2.2.2.2.2.2.1,v2.2.2.2.2.2.2.2.2.2.2.2,()),()),(v2.2.2.1,v2.2.2.2.2.2.2.2.2.1,()))
abbrev yYx (v0:dN) (v1:dA):(ykR).X:=((((),()),((),()),((),()),()),((v0.1,v0.2.1,v0.2.2,()),(v1.1,v1.2.1.1,v1.2.1.2,(),v1.2.2.2.1,v1.2.2.2.2.1,v1.2.2.2.2.2.1,v1.2.2.2.2.2.2.1,v1.2.2.2.2.2.2.2.1,(),v1.2.2.2.2.2.2.2.2.2.1,v1.2.2.2.2.2.2.2.2.2.2.1,v1.2.2.2.2.2.2.2.2.2.2.2,()),()),(v1.2.2.1,v1.2.2.2.2.2.2.2.2.1,()))
abbrev yIm (v0:dA):(ykC).X:=((((),()),()),((v0.1,v0.2.1.1,v0.2.1.2,(),v0.2.2.2.1,v0.2.2.2.2.1,v0.2.2.2.2.2.1,v0.2.2.2.2.2.2.1,v0.2.2.2.2.2.2.2.1,(),v0.2.2.2.2.2.2.2.2.2.1,v0.2.2.2.2.2.2.2.2.2.2.1,v0.2.2.2.2.2.2.2.2.2.2.2,()),()),(v0.2.2.1,v0.2.2.2.2.2.2.2.2.1,()))
def yx7 (v0 v1 v2:Int) (v3:List Int) (v4 v5 v6 v7 v8 v9 v10 v11 v12:Int) (v13 v14:Bool) (v15:List dM) (v16:List dW):Option ((yd3).X ⊕ ((ykC).X ⊕ (yrN).X)) :=
 bif (ltb v0 (v15.length:Int)) then
 let r4:=yl v1
 let r5:=yqf (v1,v2,v3)
 bnd (ygu (v4,(v5,v6),v15,v7,v8,v9,v10,v11,v16,v12,v13,v14) v0 r4 r5) fun r6 =>
 some (.inl ((((),()),((),()),((IntKind.i64.wrap (v0+1)),()),()),((v1,v2,v3,()),(r6.2.1.1,r6.2.1.2.1.1,r6.2.1.2.1.2,(),r6.2.1.2.2.2.1,r6.2.1.2.2.2.2.1,r6.2.1.2.2.2.2.2.1,r6.2.1.2.2.2.2.2.2.1,r6.2.1.2.2.2.2.2.2.2.1,(),r6.2.1.2.2.2.2.2.2.2.2.2.1,r6.2.1.2.2.2.2.2.2.2.2.2.2.1,r6.2.1.2.2.2.2.2.2.2.2.2.2.2,()),()),(r6.2.1.2.2.1,r6.2.1.2.2.2.2.2.2.2.2.1,())))
 else
 some (.inr (.inl ((((),()),()),((v4,v5,v6,(),v7,v8,v9,v10,v11,(),v12,v13,v14,()),()),(v15,v16,()))))
def yeF (x:(yd3).X):=yx7 x.1.2.2.1.1 x.2.1.1.1 x.2.1.1.2.1 x.2.1.1.2.2.1 x.2.1.2.1.1 x.2.1.2.1.2.1 x.2.1.2.1.2.2.1 x.2.1.2.1.2.2.2.2.1 x.2.1.2.1.2.2.2.2.2.1 x.2.1.2.1.2.2.2.2.2.2.1 x.2.1.2.1.2.2.2.2.2.2.2.1 x.2.1.2.1.2.2.2.2.2.2.2.2.1 x.2.1.2.1.2.2.2.2.2.2.2.2.2.2.1 x.2.1.2.1.2.2.2.2.2.2.2.2.2.2.2.1 x.2.1.2.1.2.2.2.2.2.2.2.2.2.2.2.2.1 x.2.2.1 x.2.2.2.1
def yHU (x:(ykR).X):(yd3).X:=((((),()),((),()),(0,()),()),((x.2.1.1.1,x.2.1.1.2.1,x.2.1.1.2.2.1,()),(x.2.1.2.1.1,x.2.1.2.1.2.1,x.2.1.2.1.2.2.1,(),x.2.1.2.1.2.2.2.2.1,x.2.1.2.1.2.2.2.2.2.1,x.2.1.2.1.2.2.2.2.2.2.1,x.2.1.2.1.2.2.2.2.2.2.2.1,x.2.1.2.1.2.2.2.2.2.2.2.2.1,(),x.2.1.2.1.2.2.2.2.2.2.2.2.2.2.1,x.2.1.2.1.2.2.2.2.2.2.2.2.2.2.2.1,x.2.1.2.1.2.2.2.2.2.2.2.2.2.2.2.2.1,()),()),(x.2.2.1,x.2.2.2.1,()))
def yKo:Code:=(zdD ysx 64 52).getD .skip
theorem y01:zdD ysx 64 13=some (.block 0 (.loop yKo)):=by kernel_rfl
theorem y4r (x:(yd3).X):zg0 ⟨yyE,24,yMe⟩ 0 yKo 52 yd3 ykC yrN x=yeF x:=by kernel_rfl
def yIa (x:(ykR).X):Nat:=18446744073709551616
def yyT (x:(ykR).X):Option ((ykC).X ⊕ (yrN).X):=zz yeF (yIa x) (yHU x)
def yIV:Seg:=⟨ykR,ykC,yrN,yyT⟩
def yMf:Nat→Option Seg:=fun q=>bif Nat.beq q 13 then some yIV else yMe q
theorem y2p:FrOk Tryz.prog ⟨yyE,24,yMf⟩ ysx:=(y2o).loop (sg:=yIV) yd3 yHU (by decide) y01 yeF yIa (by decide) (fun _=>rfl) (fun x r _ h=>h) y4r
abbrev yni:List Par:= [.pt tA (.pr .fz (.pr (.pr .fz .fz) (.pr (.ow (.pr (.ow .fz) (.pr (.ow (.pr .fz .fz)) (.pr .fz (.ow .fz))))) (.pr .fz (.pr .fz (.pr .fz (.pr .fz (.pr .fz (.pr (.ow (.pr .fz .fz)) (.pr .fz (.pr .fz .fz))))))))))),.rd tN]
abbrev yzj:List OT:= []
def yuM (a0:dA) (a1:dN):Option (ResD yzj×MutD yni) :=
 zjY (yyT ((((),()),((),()),((),()),()),((a1.1,a1.2.1,a1.2.2,()),(a0.1,a0.2.1.1,a0.2.1.2,(),a0.2.2.2.1,a0.2.2.2.2.1,a0.2.2.2.2.2.1,a0.2.2.2.2.2.2.1,a0.2.2.2.2.2.2.2.1,(),a0.2.2.2.2.2.2.2.2.2.1,a0.2.2.2.2.2.2.2.2.2.2.1,a0.2.2.2.2.2.2.2.2.2.2.2,()),()),(a0.2.2.1,a0.2.2.2.2.2.2.2.2.1,()))) (fun y6 =>
 let r8:=yeP (y6.2.1.1.1,(y6.2.1.1.2.1,y6.2.1.1.2.2.1),y6.2.2.1,y6.2.1.1.2.2.2.2.1,y6.2.1.1.2.2.2.2.2.1,y6.2.1.1.2.2.2.2.2.2.1,y6.2.1.1.2.2.2.2.2.2.2.1,y6.2.1.1.2.2.2.2.2.2.2.2.1,y6.2.2.2.1,y6.2.1.1.2.2.2.2.2.2.2.2.2.2.1,y6.2.1.1.2.2.2.2.2.2.2.2.2.2.2.1,y6.2.1.1.2.2.2.2.2.2.2.2.2.2.2.2.1)
 some ((),(r8,()))) (fun y6 =>
 none)
theorem y9H (x:InD yni):zjw ⟨yyE,24,yMf⟩ Tryz.f229.results.toList ysx yni yzj x=yuM x.1 x.2.1:=by kernel_rfl
theorem y6B:ConOk Tryz.prog 229 ⟨yni,yzj,fun x=>yuM x.1 x.2.1⟩:=zj1 (y2p) Tryz.func229 (by kernel_rfl) (by kernel_rfl) Tryz.ntmps229.symm (by decide) (fun x r h=>(y9H x).trans h)
def ygt (a0:dA) (a1:dN):dA:=ydg a0 a1
theorem y8M (a0:dA) (a1:dN) (hk:zi1 yni (a0,a1,())):yuM a0 a1=(fun n=>some ((),(n,()))) (ygt a0 a1):=by
 have hb:a0.2.2.1.length * 80≤2 ^ 47:=hk.1.2.2.1.1
 have h1:yyT (yYx a1 a0)=some (.inl (yIm ((List.range a0.2.2.1.length).foldl (yfg a1) a0))) :=
  zj8 (step:=yeF) a0.2.2.1.length (fun i s=>yxF i a1 s) (yfg a1) (fun _ s=>s.2.2.1.length=a0.2.2.1.length) (fun s=> .inl (yIm s)) (fun i s hi hs=>⟨by
   simp only [yeF,yxF,yx7,hs,zj4 (show (i:Int) < a0.2.2.1.length by omega),cond_true,wr (show -9223372036854775808≤(i:Int)+1 by omega) (by omega),Int.natCast_add,Int.natCast_one,Int.toNat_natCast,zkr,yqf]
   rw [yqk s i (yl a1.1) (ytu a1) (zkl (by rw [hs]; exact hi))]
   rfl,(yuQ a1 s i).trans hs⟩) (fun s hs=>by simp only [yeF,yxF,yx7,hs,zkx (Int.le_refl _),cond_false]) a0 rfl _ (by show _ < 18446744073709551616; omega)
 unfold yuM ygt ydg
 exact (congrArg (fun z=>zjY z _ _) h1).trans rfl
def yB5:Con:=⟨yni,yzj,fun x=>(fun n=>some ((),(n,()))) (ygt x.1 x.2.1)⟩
theorem yPw:ConOk Tryz.prog 229 yB5:=(y6B).mono (fun x r hk h=>(y8M x.1 x.2.1 hk).trans h)
end
section
def yss:Code:=(Tryz.f289.body).getD .skip
def yyz:Env:=zj2 TT [] []
theorem y14:FrOk Tryz.prog ⟨yyz,18,fun _=>none⟩ yss:=zj6 yc yd trivial
def yL4:Nat→Option Seg:=fun _=>none
def ydZ:Shape:=⟨[(0,false,[.br tI]),(3,false,[.int .i64]),(4,false,[.int .i64])],[],[]⟩
def ykN:Shape:=⟨[(0,false,[.br tI]),(3,false,[.ci .i64 0]),(4,false,[.ci .i64 0])],[],[]⟩
def yky:Shape:=⟨[(3,false,[.int .i64])],[],[]⟩
def yrJ:Shape:=⟨[],[],[]⟩
abbrev yxB (v0:List Int) (v1 v2:Int):(ydZ).X:=(((v0,()),(v1,()),(v2,()),()),(),())
abbrev yYt (v0:List Int):(ykN).X:=(((v0,()),((),()),((),()),()),(),())
abbrev yIk (v0:Int):(yky).X:=(((v0,()),()),(),())
def yx3 (v0:List Int) (v1 v2:Int):Option ((ydZ).X ⊕ ((yky).X ⊕ (yrJ).X)) :=
 bif (ltb v2 (v0.length:Int)) then
 bif (inb v2 v0.length) then
 some (.inl (((v0,()),((IntKind.i64.wrap ((BitVec.ofInt IntKind.i64.bits v1 ^^^ BitVec.ofInt IntKind.i64.bits (nth v0 v2 0)).toNat:Int)),()),((IntKind.i64.wrap (v2+1)),()),()),(),()))
 else none
 else
 some (.inr (.inl (((v1,()),()),(),())))
def yeB (x:(ydZ).X):=yx3 x.1.1.1 x.1.2.1.1 x.1.2.2.1.1
def yHP (x:(ykN).X):(ydZ).X:=(((x.1.1.1,()),(0,()),(0,()),()),(),())
def yKj:Code:=(zdD yss 64 116).getD .skip
theorem y0W:zdD yss 64 29=some (.block 0 (.loop yKj)):=by kernel_rfl
theorem y4m (x:(ydZ).X):zg0 ⟨yyz,18,yL4⟩ 0 yKj 116 ydZ yky yrJ x=yeB x:=by kernel_rfl
def yH5 (x:(ykN).X):Nat:=18446744073709551616
def yyO (x:(ykN).X):Option ((yky).X ⊕ (yrJ).X):=zz yeB (yH5 x) (yHP x)
def yIQ:Seg:=⟨ykN,yky,yrJ,yyO⟩
def yL5:Nat→Option Seg:=fun q=>bif Nat.beq q 29 then some yIQ else yL4 q
theorem y16:FrOk Tryz.prog ⟨yyz,18,yL5⟩ yss:=(y14).loop (sg:=yIQ) ydZ yHP (by decide) y0W yeB yH5 (by decide) (fun _=>rfl) (fun x r _ h=>h) y4m
abbrev ynd:List Par:= [.rd tL]
abbrev yy8:List OT:= [⟨false,tI,.fz⟩]
def yuJ (a0:List Int):Option (ResD yy8×MutD ynd) :=
 zjY (yyO (((a0,()),((),()),((),()),()),(),())) (fun y0 =>
 some ((y0.1.1.1,()),())) (fun y0 =>
 none)
theorem y9v (x:InD ynd):zjw ⟨yyz,18,yL5⟩ Tryz.f289.results.toList yss ynd yy8 x=yuJ x.1:=by kernel_rfl
theorem y6p:ConOk Tryz.prog 289 ⟨ynd,yy8,fun x=>yuJ x.1⟩:=zj1 (y16) Tryz.func289 (by kernel_rfl) (by kernel_rfl) Tryz.ntmps289.symm (by decide) (fun x r h=>(y9v x).trans h)
def ynU (a0:List Int):Int:=yg3 a0
theorem y8I (a0:List Int) (hk:zi1 ynd (a0,())):yuJ a0=(fun n=>some ((n,()),())) (ynU a0):=by
 have hb:a0.length * 8≤2 ^ 47:=hk.1.1
 have h1:yyO (yYt a0)=some (.inl (yIk (yg3 a0))) :=
  zj3 (step:=yeB) a0 0 (fun i s=>yxB a0 s i) xw (fun _ _=>True) (fun s=> .inl (yIk s)) (fun i s hi _=>⟨by
   simp only [yeB,yxB,yx3,zj4 (show (i:Int) < a0.length by omega),cond_true,wr (show -9223372036854775808≤(i:Int)+1 by omega) (by omega),Int.natCast_add,Int.natCast_one,Int.toNat_natCast,zkl hi,zkm]; rfl,trivial⟩) (fun s _=>by simp only [yeB,yxB,yx3,zkx (Int.le_refl _),cond_false]) 0 trivial _ (by show _ < 18446744073709551616; omega)
 unfold yuJ ynU
 rw [h1]; rfl
def yMJ:Con:=⟨ynd,yy8,fun x=>(fun n=>some ((n,()),())) (ynU x.1)⟩
theorem y8W:ConOk Tryz.prog 289 yMJ:=(y6p).mono (fun x r hk h=>(y8I x.1 hk).trans h)
end
section
def yEH:Code:=(Tryz.f273.body).getD .skip
def yE9:Env:=zj2 TT [(289,yMJ)] []
theorem yNF:FrOk Tryz.prog ⟨yE9,5,fun _=>none⟩ yEH:=zj6 yc yd ⟨y8W,trivial⟩
def yPA:Nat→Option Seg:=fun _=>none
abbrev yhi:List Par:= [.rd tL]
abbrev yl3:List OT:= [⟨false,tI,.fz⟩]
def yqS (a0:List Int):Option (ResD yl3×MutD yhi) :=
 let r1:=ynU a0
 some ((r1,()),())
theorem yT6 (x:InD yhi):zjw ⟨yE9,5,yPA⟩ Tryz.f273.results.toList yEH yhi yl3 x=yqS x.1:=by kernel_rfl
theorem yQl:ConOk Tryz.prog 273 ⟨yhi,yl3,fun x=>yqS x.1⟩:=zj1 (yNF) Tryz.func273 (by kernel_rfl) (by kernel_rfl) Tryz.ntmps273.symm (by decide) (fun x r h=>(yT6 x).trans h)
def ymm (a0:List Int):Int :=
 let r1:=ynU a0
 r1
def yA6:Con:=⟨yhi,yl3,fun x=>(fun n=>some ((n,()),())) (ymm x.1)⟩
theorem ySM (a0:List Int):yqS a0=(fun n=>some ((n,()),())) (ymm a0):=zkp (p:=fun (n:Int)=>((n,()),())) rfl
theorem yS1:ConOk Tryz.prog 273 yA6:=(yQl).mono (fun x r _ h=>(ySM x.1).trans h)
end
section
def ypv:Code:=(Tryz.f230.body).getD .skip
def ywa:Env:=zj2 TT [(48,yzu),(141,yed),(207,ynG),(272,yvg),(273,yA6)] []
theorem yX2:FrOk Tryz.prog ⟨ywa,61,fun _=>none⟩ ypv:=zj6 yc yd ⟨yNa,yis,yw0,yIy,yS1,trivial⟩
def yJH:Nat→Option Seg:=fun _=>none
def yd2:Shape:=⟨[(0,false,[.ptr 1000000000 0]),(1,false,[.int .i64]),(2,false,[.br tI]),(6,false,[.int .i64]),(7,false,[.int .i64])],[(1000000000,[.int .i64,.int .i64,.int .i64,.at 800000000,.int .i64,.int .i64,.int .i64,.int .i64,.int .i64,.at 800000001,.int .i64,.bool,.bool])],[(800000000,tM,(.pr (.ow .fz) (.pr (.ow (.pr .fz .fz)) (.pr .fz (.ow .fz))))),(800000001,tW,(.pr .fz .fz))]⟩
def ykQ:Shape:=⟨[(0,false,[.ptr 1000000000 0]),(1,false,[.int .i64]),(2,false,[.br tI]),(6,false,[.int .i64]),(7,false,[.ci .i64 0])],[(1000000000,[.int .i64,.int .i64,.int .i64,.at 800000000,.int .i64,.int .i64,.int .i64,.int .i64,.int .i64,.at 800000001,.int .i64,.bool,.bool])],[(800000000,tM,(.pr (.ow .fz) (.pr (.ow (.pr .fz .fz)) (.pr .fz (.ow .fz))))),(800000001,tW,(.pr .fz .fz))]⟩
def ykB:Shape:=⟨[],[(1000000000,[.int .i64,.int .i64,.int .i64,.at 800000000,.int .i64,.int .i64,.int .i64,.int .i64,.int .i64,.at 800000001,.int .i64,.bool,.bool])],[(800000000,tM,(.pr (.ow .fz) (.pr (.ow (.pr .fz .fz)) (.pr .fz (.ow .fz))))),(800000001,tW,(.pr .fz .fz))]⟩
def yrM:Shape:=⟨[],[],[]⟩
abbrev yxE (v0:Int) (v1:List Int) (v2 v3:Int) (v4:dA):(yd2).X:=((((),()),(v0,()),(v1,()),(v2,()),(v3,()),()),((v4.1,v4.2.1.1,v4.2.1.2,(),v4.2.2.2.1,v4.2.2.2.2.1,v4.2.2.2.2.2.1,v4.2.2.2.2.2.2.1,v4.2.2.2.2.2.2.2.1,(),v4.2.2.2.2.2.2.2.2.2.1,v4.2.2.2.2.2.2.2.2.2.2.1,v4.2.2.2.2.2.2.2.2.2.2.2,()),()),(v4.2.2.1,v4.2.2.2.2.2.2.2.2.1,()))
abbrev yYw (v0:Int) (v1:List Int) (v2:Int) (v3:dA):(ykQ).X:=((((),()),(v0,()),(v1,()),(v2,()),((),()),()),((v3.1,v3.2.1.1,v3.2.1.2,(),v3.2.2.2.1,v3.2.2.2.2.1,v3.2.2.2.2.2.1,v3.2.2.2.2.2.2.1,v3.2.2.2.2.2.2.2.1,(),v3.2.2.2.2.2.2.2.2.2.1,v3.2.2.2.2.2.2.2.2.2.2.1,v3.2.2.2.2.2.2.2.2.2.2.2,()),()),(v3.2.2.1,v3.2.2.2.2.2.2.2.2.1,()))
abbrev yIl (v0:dA):(ykB).X:=((),((v0.1,v0.2.1.1,v0.2.1.2,(),v0.2.2.2.1,v0.2.2.2.2.1,v0.2.2.2.2.2.1,v0.2.2.2.2.2.2.1,v0.2.2.2.2.2.2.2.1,(),v0.2.2.2.2.2.2.2.2.2.1,v0.2.2.2.2.2.2.2.2.2.2.1,v0.2.2.2.2.2.2.2.2.2.2.2,()),()),(v0.2.2.1,v0.2.2.2.2.2.2.2.2.1,()))
def yx6 (v0:Int) (v1:List Int) (v2 v3 v4 v5 v6 v7 v8 v9 v10 v11 v12:Int) (v13 v14:Bool) (v15:List dM) (v16:List dW):Option ((yd2).X ⊕ ((ykB).X ⊕ (yrM).X)) :=
 bif (ltb v3 (v15.length:Int)) then
 let r9:=ymm v1
 bif (v3 !=v2) then
 bif (v5 !=0) then
 bif (inb ((IntKind.i64.wrap ((IntKind.i64.wrap ((IntKind.i64.wrap (v3 - v2)) - 1))+v5)).tmod v5) v1.length) then
 let r10:=yeN (v4,(v5,v6),v15,v7,v8,v9,v10,v11,v16,v12,v13,v14) v3 v0
 bif r10 then
 let r11:=yaN v0
 bnd (ygu (v4,(v5,v6),v15,v7,v8,v9,v10,v11,v16,v12,v13,v14) v3 r11 ([(nth v1 ((IntKind.i64.wrap ((IntKind.i64.wrap ((IntKind.i64.wrap (v3 - v2)) - 1))+v5)).tmod v5) 0)]:List Int)) fun r12 =>
 some (.inl ((((),()),(v0,()),(v1,()),(v2,()),((IntKind.i64.wrap (v3+1)),()),()),((r12.2.1.1,r12.2.1.2.1.1,r12.2.1.2.1.2,(),r12.2.1.2.2.2.1,r12.2.1.2.2.2.2.1,r12.2.1.2.2.2.2.2.1,r12.2.1.2.2.2.2.2.2.1,r12.2.1.2.2.2.2.2.2.2.1,(),r12.2.1.2.2.2.2.2.2.2.2.2.1,r12.2.1.2.2.2.2.2.2.2.2.2.2.1,r12.2.1.2.2.2.2.2.2.2.2.2.2.2,()),()),(r12.2.1.2.2.1,r12.2.1.2.2.2.2.2.2.2.2.1,())))
 else
 some (.inl ((((),()),(v0,()),(v1,()),(v2,()),((IntKind.i64.wrap (v3+1)),()),()),((v4,v5,v6,(),v7,v8,v9,v10,v11,(),v12,v13,v14,()),()),(v15,v16,())))
 else none
 else none
 else
 let r13:=yeN (v4,(v5,v6),v15,v7,v8,v9,v10,v11,v16,v12,v13,v14) v3 v0
 bif r13 then
 let r14:=yaN v0
 bnd (ygu (v4,(v5,v6),v15,v7,v8,v9,v10,v11,v16,v12,v13,v14) v3 r14 ([r9]:List Int)) fun r15 =>
 some (.inl ((((),()),(v0,()),(v1,()),(v2,()),((IntKind.i64.wrap (v3+1)),()),()),((r15.2.1.1,r15.2.1.2.1.1,r15.2.1.2.1.2,(),r15.2.1.2.2.2.1,r15.2.1.2.2.2.2.1,r15.2.1.2.2.2.2.2.1,r15.2.1.2.2.2.2.2.2.1,r15.2.1.2.2.2.2.2.2.2.1,(),r15.2.1.2.2.2.2.2.2.2.2.2.1,r15.2.1.2.2.2.2.2.2.2.2.2.2.1,r15.2.1.2.2.2.2.2.2.2.2.2.2.2,()),()),(r15.2.1.2.2.1,r15.2.1.2.2.2.2.2.2.2.2.1,())))
 else
 some (.inl ((((),()),(v0,()),(v1,()),(v2,()),((IntKind.i64.wrap (v3+1)),()),()),((v4,v5,v6,(),v7,v8,v9,v10,v11,(),v12,v13,v14,()),()),(v15,v16,())))
 else
 some (.inr (.inl ((),((v4,v5,v6,(),v7,v8,v9,v10,v11,(),v12,v13,v14,()),()),(v15,v16,()))))
def yeE (x:(yd2).X):=yx6 x.1.2.1.1 x.1.2.2.1.1 x.1.2.2.2.1.1 x.1.2.2.2.2.1.1 x.2.1.1.1 x.2.1.1.2.1 x.2.1.1.2.2.1 x.2.1.1.2.2.2.2.1 x.2.1.1.2.2.2.2.2.1 x.2.1.1.2.2.2.2.2.2.1 x.2.1.1.2.2.2.2.2.2.2.1 x.2.1.1.2.2.2.2.2.2.2.2.1 x.2.1.1.2.2.2.2.2.2.2.2.2.2.1 x.2.1.1.2.2.2.2.2.2.2.2.2.2.2.1 x.2.1.1.2.2.2.2.2.2.2.2.2.2.2.2.1 x.2.2.1 x.2.2.2.1
def yHT (x:(ykQ).X):(yd2).X:=((((),()),(x.1.2.1.1,()),(x.1.2.2.1.1,()),(x.1.2.2.2.1.1,()),(0,()),()),((x.2.1.1.1,x.2.1.1.2.1,x.2.1.1.2.2.1,(),x.2.1.1.2.2.2.2.1,x.2.1.1.2.2.2.2.2.1,x.2.1.1.2.2.2.2.2.2.1,x.2.1.1.2.2.2.2.2.2.2.1,x.2.1.1.2.2.2.2.2.2.2.2.1,(),x.2.1.1.2.2.2.2.2.2.2.2.2.2.1,x.2.1.1.2.2.2.2.2.2.2.2.2.2.2.1,x.2.1.1.2.2.2.2.2.2.2.2.2.2.2.2.1,()),()),(x.2.2.1,x.2.2.2.1,()))
def yKn:Code:=(zdD ypv 64 28).getD .skip
theorem y00:zdD ypv 64 7=some (.block 0 (.loop yKn)):=by kernel_rfl
theorem y4q (x:(yd2).X):zg0 ⟨ywa,61,yJH⟩ 0 yKn 28 yd2 ykB yrM x=yeE x:=by kernel_rfl
def yH9 (x:(ykQ).X):Nat:=18446744073709551616
def yyS (x:(ykQ).X):Option ((ykB).X ⊕ (yrM).X):=zz yeE (yH9 x) (yHT x)
def yIU:Seg:=⟨ykQ,ykB,yrM,yyS⟩
def yJI:Nat→Option Seg:=fun q=>bif Nat.beq q 7 then some yIU else yJH q
theorem yX3:FrOk Tryz.prog ⟨ywa,61,yJI⟩ ypv:=(yX2).loop (sg:=yIU) yd2 yHT (by decide) y00 yeE yH9 (by decide) (fun _=>rfl) (fun x r _ h=>h) y4q
abbrev yg7:List Par:= [.pt tA (.pr .fz (.pr (.pr .fz .fz) (.pr (.ow (.pr (.ow .fz) (.pr (.ow (.pr .fz .fz)) (.pr .fz (.ow .fz))))) (.pr .fz (.pr .fz (.pr .fz (.pr .fz (.pr .fz (.pr (.ow (.pr .fz .fz)) (.pr .fz (.pr .fz .fz))))))))))),.rd tI,.rd tL]
abbrev ypZ:List OT:= []
def ysm (a0:dA) (a1:Int) (a2:List Int):Option (ResD ypZ×MutD yg7) :=
 let r1:=yek a0.2.1 a1
 zjY (yyS ((((),()),(a1,()),(a2,()),(r1,()),((),()),()),((a0.1,a0.2.1.1,a0.2.1.2,(),a0.2.2.2.1,a0.2.2.2.2.1,a0.2.2.2.2.2.1,a0.2.2.2.2.2.2.1,a0.2.2.2.2.2.2.2.1,(),a0.2.2.2.2.2.2.2.2.2.1,a0.2.2.2.2.2.2.2.2.2.2.1,a0.2.2.2.2.2.2.2.2.2.2.2,()),()),(a0.2.2.1,a0.2.2.2.2.2.2.2.2.1,()))) (fun y15 =>
 some ((),((y15.2.1.1.1,(y15.2.1.1.2.1,y15.2.1.1.2.2.1),y15.2.2.1,y15.2.1.1.2.2.2.2.1,y15.2.1.1.2.2.2.2.2.1,y15.2.1.1.2.2.2.2.2.2.1,y15.2.1.1.2.2.2.2.2.2.2.1,y15.2.1.1.2.2.2.2.2.2.2.2.1,y15.2.2.2.1,y15.2.1.1.2.2.2.2.2.2.2.2.2.2.1,y15.2.1.1.2.2.2.2.2.2.2.2.2.2.2.1,y15.2.1.1.2.2.2.2.2.2.2.2.2.2.2.2.1),()))) (fun y15 =>
 none)
theorem y8o (x:InD yg7):zjw ⟨ywa,61,yJI⟩ Tryz.f230.results.toList ypv yg7 ypZ x=ysm x.1 x.2.1 x.2.2.1:=by kernel_rfl
theorem y3P:ConOk Tryz.prog 230 ⟨yg7,ypZ,fun x=>ysm x.1 x.2.1 x.2.2.1⟩:=zj1 (yX3) Tryz.func230 (by kernel_rfl) (by kernel_rfl) Tryz.ntmps230.symm (by decide) (fun x r h=>(y8o x).trans h)
def ywW (a0:dA) (a1:Int) (a2:List Int):dA:=yL a0 a1 a2
def yj2 (a0:dA) (a1:Int) (a2:List Int):Bool:=ycU a0.2.1 a1&&((a2.length:Int)==a0.2.1.1 - 1&&(a0.2.2.1.length:Int)==a0.2.1.1)
theorem y6a (a0:dA) (a1:Int) (a2:List Int) (hk:zi1 yg7 (a0,a1,a2,())) (hq:yj2 a0 a1 a2=true):ysm a0 a1 a2=(fun n=>some ((),(n,()))) (ywW a0 a1 a2):=by
 simp only [yj2,Bool.and_eq_true,beq_iff_eq]at hq
 have hg:=yk.1 (ybK.1 hq.1).1
 have hp:=ytt hq.1
 have h1:yyS (yYw a1 a2 (yh a0.2.1 a1) a0)=some (.inl (yIl (yL a0 a1 a2))) :=
  zj8 (step:=yeE) a0.2.2.1.length (fun i s=>yxE a1 a2 (yh a0.2.1 a1) i s) (ybO (yh a0.2.1 a1) a0.2.1.1 a1 a2) (fun _ s=>s.2.2.1.length=a0.2.2.1.length∧s.2.1=a0.2.1) (fun s=> .inl (yIl s)) (fun i s hi hs=>⟨by
   have hN:s.2.1.1=a0.2.1.1:=by rw [hs.2]
   simp only [yeE,yxE,yx6,hs.1,zj4 (show (i:Int) < a0.2.2.1.length by omega),cond_true,wr (show -9223372036854775808≤(i:Int)+1 by omega) (by omega),Int.natCast_add,Int.natCast_one,Int.toNat_natCast,zkr,ynU,ymm,yeN,yfO,ybO,yCC]
   rw [← hN]
   by_cases he:(i:Int)=yh a0.2.1 a1
   ·rw [show ((i:Int) !=yh a0.2.1 a1)=false by simp [he],show ((i:Int)==yh a0.2.1 a1)=true from beq_iff_eq.2 he]
    rw [yqk s i (dataAt a1) [yg3 a2] (zkl (by rw [hs.1]; exact hi))]
    cases yff s i a1<;>rfl
   ·have hd:=didx (N:=s.2.1.1) (i:=i) (p:=yh a0.2.1 a1) ⟨by omega,by omega⟩ ⟨by omega,by omega⟩ ⟨hp.1,by omega⟩ he
    rw [show ((i:Int) !=yh a0.2.1 a1)=true from bne_iff_ne.2 he,show ((i:Int)==yh a0.2.1 a1)=false from beq_eq_false_iff_ne.2 he,show (s.2.1.1 !=0)=true from bne_iff_ne.2 (by omega),
     wr (show -9223372036854775808≤(i:Int) - yh a0.2.1 a1 by omega) (by omega),wr (show -9223372036854775808≤(i:Int) - yh a0.2.1 a1 - 1 by omega) (by omega),wr (show -9223372036854775808≤(i:Int) - yh a0.2.1 a1 - 1+s.2.1.1 by omega) (by omega),zjC.2 (show 0≤((i:Int) - yh a0.2.1 a1 - 1+s.2.1.1).tmod s.2.1.1∧((i:Int) - yh a0.2.1 a1 - 1+s.2.1.1).tmod s.2.1.1 < a2.length by omega)]
    rw [yqk s i (dataAt a1) [nth a2 (((i:Int) - yh a0.2.1 a1 - 1+s.2.1.1).tmod s.2.1.1) 0] (zkl (by rw [hs.1]; exact hi))]
    cases yff s i a1<;>rfl,(yqs _ _ _ _ s i).trans hs.1,(ydb (yRm _ _ _ _ s i)).trans hs.2⟩) (fun s hs=>by simp only [yeE,yxE,yx6,hs.1,zkx (Int.le_refl _),cond_false]) a0 ⟨rfl,rfl⟩ _ (by show _ < 18446744073709551616; omega)
 unfold ysm ywW yek
 exact (congrArg (fun z=>zjY z _ _) h1).trans rfl
def yeQ (a0:dA) (a1:Int) (a2:List Int):Option (ResD ypZ×MutD yg7):=bif yj2 a0 a1 a2 then (fun n=>some ((),(n,()))) (ywW a0 a1 a2) else none
theorem yNk (a0:dA) (a1:Int) (a2:List Int) (h:yj2 a0 a1 a2=true):yeQ a0 a1 a2=(fun n=>some ((),(n,()))) (ywW a0 a1 a2):=by unfold yeQ; rw [h]; rfl
def yzC:Con:=⟨yg7,ypZ,fun x=>yeQ x.1 x.2.1 x.2.2.1⟩
theorem yNh:ConOk Tryz.prog 230 yzC:=(y3P).mono (fun x r hk h=>zks h (fun hq=>y6a x.1 x.2.1 x.2.2.1 hk hq))
end
section
def yLR:Code:=(Tryz.f147.body).getD .skip
def yMy:Env:=zj2 TT [(208,yoF),(229,yB5),(230,yzC)] []
theorem yUP:FrOk Tryz.prog ⟨yMy,54,fun _=>none⟩ yLR:=zj6 yc yd ⟨yAh,yPw,yNh,trivial⟩
def yWL:Nat→Option Seg:=fun _=>none
abbrev yft:List Par:= [.pt tA (.pr .fz (.pr (.pr .fz .fz) (.pr (.ow (.pr (.ow .fz) (.pr (.ow (.pr .fz .fz)) (.pr .fz (.ow .fz))))) (.pr .fz (.pr .fz (.pr .fz (.pr .fz (.pr .fz (.pr (.ow (.pr .fz .fz)) (.pr .fz (.pr .fz .fz))))))))))),.rd tI,.rd tL]
abbrev ynz:List OT:= [⟨false,tI,.fz⟩]
def ypd (a0:dA) (a1:Int) (a2:List Int):Option (ResD ynz×MutD yft) :=
 bif (leb 4 (IntKind.i64.wrap (a0.2.2.2.2.2.1 - a0.2.2.2.2.2.2.1))) then
 let r1:=yfG a0
 bif r1.2.2.2.2.2.2.2.2.2.2.1 then
 some ((6,()),(r1,()))
 else
 bif (zjQ ([]:List Int).length a2.length 8) then
 let r2:=ygt r1 (r1.2.2.2.2.2.1,a1,(([]:List Int)++a2))
 bif r2.2.2.2.2.2.2.2.2.2.2.1 then
 some ((6,()),(r2,()))
 else
 bnd (yeQ (r2.1,r2.2.1,r2.2.2.1,r2.2.2.2.1,r2.2.2.2.2.1,(IntKind.i64.wrap (r2.2.2.2.2.2.1+1)),r2.2.2.2.2.2.2) a1 a2) fun r3 =>
 bif r3.2.1.2.2.2.2.2.2.2.2.2.2.1 then
 some ((6,()),(r3.2.1,()))
 else
 some ((0,()),(r3.2.1,()))
 else none
 else
 bif a0.2.2.2.2.2.2.2.2.2.2.1 then
 some ((6,()),(a0,()))
 else
 bif (zjQ ([]:List Int).length a2.length 8) then
 let r4:=ygt a0 (a0.2.2.2.2.2.1,a1,(([]:List Int)++a2))
 bif r4.2.2.2.2.2.2.2.2.2.2.1 then
 some ((6,()),(r4,()))
 else
 bnd (yeQ (r4.1,r4.2.1,r4.2.2.1,r4.2.2.2.1,r4.2.2.2.2.1,(IntKind.i64.wrap (r4.2.2.2.2.2.1+1)),r4.2.2.2.2.2.2) a1 a2) fun r5 =>
 bif r5.2.1.2.2.2.2.2.2.2.2.2.2.1 then
 some ((6,()),(r5.2.1,()))
 else
 some ((0,()),(r5.2.1,()))
 else none
theorem y5m (x:InD yft):zjw ⟨yMy,54,yWL⟩ Tryz.f147.results.toList yLR yft ynz x=ypd x.1 x.2.1 x.2.2.1:=by kernel_rfl
theorem yZC:ConOk Tryz.prog 147 ⟨yft,ynz,fun x=>ypd x.1 x.2.1 x.2.2.1⟩:=zj1 (yUP) Tryz.func147 (by kernel_rfl) (by kernel_rfl) Tryz.ntmps147.symm (by decide) (fun x r h=>(y5m x).trans h)
def ynW (a0:dA) (a1:Int) (a2:List Int):Int×dA:=yad a0 a1 a2
def yn7 (a0:dA) (a1:Int) (a2:List Int):Bool:=ycU a0.2.1 a1&&((a2.length:Int)==a0.2.1.1 - 1&&(a0.2.2.1.length:Int)==a0.2.1.1)
theorem y29 (a0:dA) (a1:Int) (a2:List Int) (hk:zi1 yft (a0,a1,a2,())) (hq:yn7 a0 a1 a2=true):ypd a0 a1 a2=(fun n=>some ((n.1,()),(n.2,()))) (ynW a0 a1 a2):=by
 have hq':=hq
 simp only [yn7,Bool.and_eq_true,beq_iff_eq]at hq
 have hg:=yk.1 (ybK.1 hq.1).1
 have hap:zjQ ([]:List Int).length a2.length 8=true:=zka.2 (by simp only [List.length_nil]; omega)
 have key: ∀ b:dA,b.2.1=a0.2.1→b.2.2.1.length=a0.2.2.1.length→yeQ (yQ (ydg b (b.2.2.2.2.2.1,a1,a2))) a1 a2=some ((),(yL (yQ (ydg b (b.2.2.2.2.2.1,a1,a2))) a1 a2,())):=fun b h1 h2=>yNk _ _ _ (by
  unfold yj2
  rw [show (yQ (ydg b (b.2.2.2.2.2.1,a1,a2))).2.1=a0.2.1 from (ydb (ylS _ _)).trans h1,show (yQ (ydg b (b.2.2.2.2.2.1,a1,a2))).2.2.1.length=a0.2.2.1.length from (yNn _ _).trans h2]
  exact hq')
 unfold ypd ynW yad yw
 simp only [yEC,ygt,List.nil_append,hap,cond_true]
 cases leb 4 (IntKind.i64.wrap (a0.2.2.2.2.2.1 - a0.2.2.2.2.2.2.1))
 ·have hd:=key a0 rfl rfl
  simp only [cond_false]
  generalize ydg a0 (a0.2.2.2.2.2.1,a1,a2)=R at hd ⊢
  generalize yL (yQ R) a1 a2=Q at hd ⊢
  unfold yQ at hd
  simp only [cond_false,hd,zkc]
  unfold ye
  cases a0.2.2.2.2.2.2.2.2.2.2.1
  ·cases R.2.2.2.2.2.2.2.2.2.2.1
   ·cases Q.2.2.2.2.2.2.2.2.2.2.1<;>rfl
   ·rfl
  ·rfl
 ·have hd:=key (checkA a0) (yRj a0) (yKr a0)
  simp only [cond_true]
  generalize checkA a0=C at hd ⊢
  generalize ydg C (C.2.2.2.2.2.1,a1,a2)=R at hd ⊢
  generalize yL (yQ R) a1 a2=Q at hd ⊢
  unfold yQ at hd
  simp only [cond_true,hd,zkc]
  unfold ye
  cases C.2.2.2.2.2.2.2.2.2.2.1
  ·cases R.2.2.2.2.2.2.2.2.2.2.1
   ·cases Q.2.2.2.2.2.2.2.2.2.2.1<;>rfl
   ·rfl
  ·rfl
def yuB (a0:dA) (a1:Int) (a2:List Int):Option (ResD ynz×MutD yft):=bif yn7 a0 a1 a2 then (fun n=>some ((n.1,()),(n.2,()))) (ynW a0 a1 a2) else none
theorem y4e (a0:dA) (a1:Int) (a2:List Int) (h:yn7 a0 a1 a2=true):yuB a0 a1 a2=(fun n=>some ((n.1,()),(n.2,()))) (ynW a0 a1 a2):=by unfold yuB; rw [h]; rfl
def yHF:Con:=⟨yft,ynz,fun x=>yuB x.1 x.2.1 x.2.2.1⟩
theorem y39:ConOk Tryz.prog 147 yHF:=(yZC).mono (fun x r hk h=>zks h (fun hq=>y29 x.1 x.2.1 x.2.2.1 hk hq))
end
section
def yLS:Code:=(Tryz.f185.body).getD .skip
def yMz:Env:=zj2 TT [(146,yKK),(147,yHF),(243,yEo)] [(36928,(.pr .fz .fz))]
theorem yUQ:FrOk Tryz.prog ⟨yMz,63,fun _=>none⟩ yLS:=zj6 yc yd ⟨y6X,y39,yS3,trivial⟩
def yWM:Nat→Option Seg:=fun _=>none
abbrev yfu:List Par:= [.pt tA (.pr .fz (.pr (.pr .fz .fz) (.pr (.ow (.pr (.ow .fz) (.pr (.ow (.pr .fz .fz)) (.pr .fz (.ow .fz))))) (.pr .fz (.pr .fz (.pr .fz (.pr .fz (.pr .fz (.pr (.ow (.pr .fz .fz)) (.pr .fz (.pr .fz .fz))))))))))),.rd tI]
abbrev ynA:List OT:= [⟨false,tI,.fz⟩]
def ype (a0:dA) (a1:Int):Option (ResD ynA×MutD yfu) :=
 let r1:=ylR a0 a1
 bif (ltb r1 0) then
 some ((0,()),(a0,()))
 else
 bif (inb r1 a0.2.2.2.2.2.2.2.2.1.length) then
 let r2:=yN a0 a1 ((nth a0.2.2.2.2.2.2.2.2.1 r1 (0,[])).2)
 bif (r2 !=0) then
 some ((r2,()),(a0,()))
 else
 bif (inb r1 a0.2.2.2.2.2.2.2.2.1.length) then
 bnd (yuB a0 a1 ((nth a0.2.2.2.2.2.2.2.2.1 r1 (0,[])).2)) fun r3 =>
 bif (r3.1.1==0) then
 bif (zjv 0 r1 r3.2.1.2.2.2.2.2.2.2.2.1.length) then
 bif (zjQ ([]:List dW).length ((r3.2.1.2.2.2.2.2.2.2.2.1.drop (0:Int).toNat).take (r1 - 0).toNat).length 32) then
 bif (zjv (IntKind.i64.wrap (r1+1)) (r3.2.1.2.2.2.2.2.2.2.2.1.length:Int) r3.2.1.2.2.2.2.2.2.2.2.1.length) then
 bif (zjQ (([]:List dW)++((r3.2.1.2.2.2.2.2.2.2.2.1.drop (0:Int).toNat).take (r1 - 0).toNat)).length ((r3.2.1.2.2.2.2.2.2.2.2.1.drop ((IntKind.i64.wrap (r1+1))).toNat).take ((r3.2.1.2.2.2.2.2.2.2.2.1.length:Int) - (IntKind.i64.wrap (r1+1))).toNat).length 32) then
 some ((r3.1.1,()),((r3.2.1.1,r3.2.1.2.1,r3.2.1.2.2.1,r3.2.1.2.2.2.1,r3.2.1.2.2.2.2.1,r3.2.1.2.2.2.2.2.1,r3.2.1.2.2.2.2.2.2.1,r3.2.1.2.2.2.2.2.2.2.1,((([]:List dW)++((r3.2.1.2.2.2.2.2.2.2.2.1.drop (0:Int).toNat).take (r1 - 0).toNat))++((r3.2.1.2.2.2.2.2.2.2.2.1.drop ((IntKind.i64.wrap (r1+1))).toNat).take ((r3.2.1.2.2.2.2.2.2.2.2.1.length:Int) - (IntKind.i64.wrap (r1+1))).toNat)),r3.2.1.2.2.2.2.2.2.2.2.2),()))
 else none
 else none
 else none
 else none
 else
 some ((r3.1.1,()),(r3.2.1,()))
 else none
 else none
theorem y5n (x:InD yfu):zjw ⟨yMz,63,yWM⟩ Tryz.f185.results.toList yLS yfu ynA x=ype x.1 x.2.1:=by kernel_rfl
theorem yZD:ConOk Tryz.prog 185 ⟨yfu,ynA,fun x=>ype x.1 x.2.1⟩:=zj1 (yUQ) Tryz.func185 (by kernel_rfl) (by kernel_rfl) Tryz.ntmps185.symm (by decide) (fun x r h=>(y5n x).trans h)
def ynX (a0:dA) (a1:Int):Int×dA:=flushE a0 a1
def yCl (a0:dA) (a1:Int):Bool:=decide (a0.2.2.2.2.2.2.2.2.1.length≤1000)
theorem y3a (a0:dA) (a1:Int) (hk:zi1 yfu (a0,a1,())) (hq:yCl a0 a1=true):ype a0 a1=(fun n=>some ((n.1,()),(n.2,()))) (ynX a0 a1):=by
 have hq:=of_decide_eq_true hq
 unfold ype ynX flushE
 simp only [ylR]
 cases h0:ltb (yI a0.2.2.2.2.2.2.2.2.1 a1) 0
 ·have h1:=zkq h0
  have hi:inb (yI a0.2.2.2.2.2.2.2.2.1 a1) a0.2.2.2.2.2.2.2.2.1.length=true:=(yta (d:=((0:Int),([]:List Int))) (zkw h1)).1
  simp only [hi,cond_true,cond_false]
  generalize hD:(nth a0.2.2.2.2.2.2.2.2.1 (yI a0.2.2.2.2.2.2.2.2.1 a1) (0,[])).2=D
  cases hc:(yN a0 a1 D !=0)
  ·obtain ⟨ha,hl,hw,hd,hs,hb,_⟩:=yRk (bne_eq_false_iff_eq.1 hc)
   rw [y4e a0 a1 D (by unfold yn7; rw [hs,hl,yCY ha]; simp)]
   simp only [zkc,cond_false,ynW,yaaB]
   have hk:=zjC.1 hi
   cases hr:((yad a0 a1 D).1==0)
   ·rfl
   ·generalize yI a0.2.2.2.2.2.2.2.2.1 a1=K at h1 hk
    rw [wr (show -9223372036854775808≤K+1 by omega) (by omega),zj5.2 (show (0:Int)≤0∧0≤K∧K≤(a0.2.2.2.2.2.2.2.2.1.length:Int) by omega),zj5.2 (show 0≤K+1∧K+1≤(a0.2.2.2.2.2.2.2.2.1.length:Int)∧(a0.2.2.2.2.2.2.2.2.1.length:Int)≤(a0.2.2.2.2.2.2.2.2.1.length:Int) by omega),
     zka.2 (by rw [List.length_take,List.length_drop,List.length_nil]; omega),zka.2 (by rw [List.length_append,List.length_take,List.length_take,List.length_drop,List.length_drop,List.length_nil]; omega),yabm h1 hk.2]
    rw [beq_iff_eq.1 hr]; rfl
  ·rfl
 ·rfl
def ydw (a0:dA) (a1:Int):Option (ResD ynA×MutD yfu):=bif yCl a0 a1 then (fun n=>some ((n.1,()),(n.2,()))) (ynX a0 a1) else none
theorem yLi (a0:dA) (a1:Int) (h:yCl a0 a1=true):ydw a0 a1=(fun n=>some ((n.1,()),(n.2,()))) (ynX a0 a1):=by unfold ydw; rw [h]; rfl
def yxq:Con:=⟨yfu,ynA,fun x=>ydw x.1 x.2.1⟩
theorem yLc:ConOk Tryz.prog 185 yxq:=(yZD).mono (fun x r hk h=>zks h (fun hq=>y3a x.1 x.2.1 hk hq))
end
section
def ysy:Code:=(Tryz.f186.body).getD .skip
def yyF:Env:=zj2 TT [(185,yxq)] []
theorem y2q:FrOk Tryz.prog ⟨yyF,22,fun _=>none⟩ ysy:=zj6 yc yd ⟨yLc,trivial⟩
def yMg:Nat→Option Seg:=fun _=>none
def yfy:Shape:=⟨[(0,false,[.ptr 1000000000 0])],[(1000000000,[.int .i64,.int .i64,.int .i64,.at 800000000,.int .i64,.int .i64,.int .i64,.int .i64,.int .i64,.at 800000001,.int .i64,.bool,.bool])],[(800000000,tM,(.pr (.ow .fz) (.pr (.ow (.pr .fz .fz)) (.pr .fz (.ow .fz))))),(800000001,tW,(.pr .fz .fz))]⟩
def ynq:Shape:=⟨[(0,false,[.ptr 1000000000 0])],[(1000000000,[.int .i64,.int .i64,.int .i64,.at 800000000,.int .i64,.int .i64,.int .i64,.int .i64,.int .i64,.at 800000001,.int .i64,.bool,.bool])],[(800000000,tM,(.pr (.ow .fz) (.pr (.ow (.pr .fz .fz)) (.pr .fz (.ow .fz))))),(800000001,tW,(.pr .fz .fz))]⟩
def ynm:Shape:=⟨[],[(1000000000,[.int .i64,.int .i64,.int .i64,.at 800000000,.int .i64,.int .i64,.int .i64,.int .i64,.int .i64,.at 800000001,.int .i64,.bool,.bool])],[(800000000,tM,(.pr (.ow .fz) (.pr (.ow (.pr .fz .fz)) (.pr .fz (.ow .fz))))),(800000001,tW,(.pr .fz .fz))]⟩
def ynC:Shape:=⟨[(2,false,[.int .i64])],[(1000000000,[.int .i64,.int .i64,.int .i64,.at 800000000,.int .i64,.int .i64,.int .i64,.int .i64,.int .i64,.at 800000001,.int .i64,.bool,.bool])],[(800000000,tM,(.pr (.ow .fz) (.pr (.ow (.pr .fz .fz)) (.pr .fz (.ow .fz))))),(800000001,tW,(.pr .fz .fz))]⟩
abbrev yz2 (v0:dA):(yfy).X:=((((),()),()),((v0.1,v0.2.1.1,v0.2.1.2,(),v0.2.2.2.1,v0.2.2.2.2.1,v0.2.2.2.2.2.1,v0.2.2.2.2.2.2.1,v0.2.2.2.2.2.2.2.1,(),v0.2.2.2.2.2.2.2.2.2.1,v0.2.2.2.2.2.2.2.2.2.2.1,v0.2.2.2.2.2.2.2.2.2.2.2,()),()),(v0.2.2.1,v0.2.2.2.2.2.2.2.2.1,()))
abbrev y2H (v0:dA):(ynq).X:=((((),()),()),((v0.1,v0.2.1.1,v0.2.1.2,(),v0.2.2.2.1,v0.2.2.2.2.1,v0.2.2.2.2.2.1,v0.2.2.2.2.2.2.1,v0.2.2.2.2.2.2.2.1,(),v0.2.2.2.2.2.2.2.2.2.1,v0.2.2.2.2.2.2.2.2.2.2.1,v0.2.2.2.2.2.2.2.2.2.2.2,()),()),(v0.2.2.1,v0.2.2.2.2.2.2.2.2.1,()))
abbrev y2D (v0:dA):(ynm).X:=((),((v0.1,v0.2.1.1,v0.2.1.2,(),v0.2.2.2.1,v0.2.2.2.2.1,v0.2.2.2.2.2.1,v0.2.2.2.2.2.2.1,v0.2.2.2.2.2.2.2.1,(),v0.2.2.2.2.2.2.2.2.2.1,v0.2.2.2.2.2.2.2.2.2.2.1,v0.2.2.2.2.2.2.2.2.2.2.2,()),()),(v0.2.2.1,v0.2.2.2.2.2.2.2.2.1,()))
abbrev y2J (v0:Int) (v1:dA):(ynC).X:=(((v0,()),()),((v1.1,v1.2.1.1,v1.2.1.2,(),v1.2.2.2.1,v1.2.2.2.2.1,v1.2.2.2.2.2.1,v1.2.2.2.2.2.2.1,v1.2.2.2.2.2.2.2.1,(),v1.2.2.2.2.2.2.2.2.2.1,v1.2.2.2.2.2.2.2.2.2.2.1,v1.2.2.2.2.2.2.2.2.2.2.2,()),()),(v1.2.2.1,v1.2.2.2.2.2.2.2.2.1,()))
def yAK (v0 v1 v2 v3 v4 v5 v6 v7 v8:Int) (v9 v10:Bool) (v11:List dM) (v12:List dW):Option ((yfy).X ⊕ ((ynm).X ⊕ (ynC).X)) :=
 bif (ltb 0 (v12.length:Int)) then
 bif (inb 0 v12.length) then
 bnd (ydw (v0,(v1,v2),v11,v3,v4,v5,v6,v7,v12,v8,v9,v10) ((nth v12 0 (0,[])).1)) fun r2 =>
 bif (r2.1.1 !=0) then
 some (.inr (.inr (((r2.1.1,()),()),((r2.2.1.1,r2.2.1.2.1.1,r2.2.1.2.1.2,(),r2.2.1.2.2.2.1,r2.2.1.2.2.2.2.1,r2.2.1.2.2.2.2.2.1,r2.2.1.2.2.2.2.2.2.1,r2.2.1.2.2.2.2.2.2.2.1,(),r2.2.1.2.2.2.2.2.2.2.2.2.1,r2.2.1.2.2.2.2.2.2.2.2.2.2.1,r2.2.1.2.2.2.2.2.2.2.2.2.2.2,()),()),(r2.2.1.2.2.1,r2.2.1.2.2.2.2.2.2.2.2.1,()))))
 else
 some (.inl ((((),()),()),((r2.2.1.1,r2.2.1.2.1.1,r2.2.1.2.1.2,(),r2.2.1.2.2.2.1,r2.2.1.2.2.2.2.1,r2.2.1.2.2.2.2.2.1,r2.2.1.2.2.2.2.2.2.1,r2.2.1.2.2.2.2.2.2.2.1,(),r2.2.1.2.2.2.2.2.2.2.2.2.1,r2.2.1.2.2.2.2.2.2.2.2.2.2.1,r2.2.1.2.2.2.2.2.2.2.2.2.2.2,()),()),(r2.2.1.2.2.1,r2.2.1.2.2.2.2.2.2.2.2.1,())))
 else none
 else
 some (.inr (.inl ((),((v0,v1,v2,(),v3,v4,v5,v6,v7,(),v8,v9,v10,()),()),(v11,v12,()))))
def yfR (x:(yfy).X):=yAK x.2.1.1.1 x.2.1.1.2.1 x.2.1.1.2.2.1 x.2.1.1.2.2.2.2.1 x.2.1.1.2.2.2.2.2.1 x.2.1.1.2.2.2.2.2.2.1 x.2.1.1.2.2.2.2.2.2.2.1 x.2.1.1.2.2.2.2.2.2.2.2.1 x.2.1.1.2.2.2.2.2.2.2.2.2.2.1 x.2.1.1.2.2.2.2.2.2.2.2.2.2.2.1 x.2.1.1.2.2.2.2.2.2.2.2.2.2.2.2.1 x.2.2.1 x.2.2.2.1
def yKQ (x:(ynq).X):(yfy).X:=((((),()),()),((x.2.1.1.1,x.2.1.1.2.1,x.2.1.1.2.2.1,(),x.2.1.1.2.2.2.2.1,x.2.1.1.2.2.2.2.2.1,x.2.1.1.2.2.2.2.2.2.1,x.2.1.1.2.2.2.2.2.2.2.1,x.2.1.1.2.2.2.2.2.2.2.2.1,(),x.2.1.1.2.2.2.2.2.2.2.2.2.2.1,x.2.1.1.2.2.2.2.2.2.2.2.2.2.2.1,x.2.1.1.2.2.2.2.2.2.2.2.2.2.2.2.1,()),()),(x.2.2.1,x.2.2.2.1,()))
def yMG:Code:=(zdD ysy 64 24).getD .skip
theorem y4O:zdD ysy 64 6=some (.block 0 (.loop yMG)):=by kernel_rfl
theorem y64 (x:(yfy).X):zg0 ⟨yyF,22,yMg⟩ 0 yMG 24 yfy ynm ynC x=yfR x:=by kernel_rfl
def yKV (x:(ynq).X):Nat:=18446744073709551616
def yBT (x:(ynq).X):Option ((ynm).X ⊕ (ynC).X):=zz yfR (yKV x) (yKQ x)
def yLn:Seg:=⟨ynq,ynm,ynC,yBT⟩
def yMh:Nat→Option Seg:=fun q=>bif Nat.beq q 6 then some yLn else yMg q
theorem y2r:FrOk Tryz.prog ⟨yyF,22,yMh⟩ ysy:=(y2q).loop (sg:=yLn) yfy yKQ (by decide) y4O yfR yKV (by decide) (fun _=>rfl) (fun x r _ h=>h) y64
abbrev yiD:List Par:= [.pt tA (.pr .fz (.pr (.pr .fz .fz) (.pr (.ow (.pr (.ow .fz) (.pr (.ow (.pr .fz .fz)) (.pr .fz (.ow .fz))))) (.pr .fz (.pr .fz (.pr .fz (.pr .fz (.pr .fz (.pr (.ow (.pr .fz .fz)) (.pr .fz (.pr .fz .fz)))))))))))]
abbrev ys2:List OT:= [⟨false,tI,.fz⟩]
def yuN (a0:dA):Option (ResD ys2×MutD yiD) :=
 zjY (yBT ((((),()),()),((a0.1,a0.2.1.1,a0.2.1.2,(),a0.2.2.2.1,a0.2.2.2.2.1,a0.2.2.2.2.2.1,a0.2.2.2.2.2.2.1,a0.2.2.2.2.2.2.2.1,(),a0.2.2.2.2.2.2.2.2.2.1,a0.2.2.2.2.2.2.2.2.2.2.1,a0.2.2.2.2.2.2.2.2.2.2.2,()),()),(a0.2.2.1,a0.2.2.2.2.2.2.2.2.1,()))) (fun y2 =>
 some ((0,()),((y2.2.1.1.1,(y2.2.1.1.2.1,y2.2.1.1.2.2.1),y2.2.2.1,y2.2.1.1.2.2.2.2.1,y2.2.1.1.2.2.2.2.2.1,y2.2.1.1.2.2.2.2.2.2.1,y2.2.1.1.2.2.2.2.2.2.2.1,y2.2.1.1.2.2.2.2.2.2.2.2.1,y2.2.2.2.1,y2.2.1.1.2.2.2.2.2.2.2.2.2.2.1,y2.2.1.1.2.2.2.2.2.2.2.2.2.2.2.1,y2.2.1.1.2.2.2.2.2.2.2.2.2.2.2.2.1),()))) (fun y2 =>
 some ((y2.1.1.1,()),((y2.2.1.1.1,(y2.2.1.1.2.1,y2.2.1.1.2.2.1),y2.2.2.1,y2.2.1.1.2.2.2.2.1,y2.2.1.1.2.2.2.2.2.1,y2.2.1.1.2.2.2.2.2.2.1,y2.2.1.1.2.2.2.2.2.2.2.1,y2.2.1.1.2.2.2.2.2.2.2.2.1,y2.2.2.2.1,y2.2.1.1.2.2.2.2.2.2.2.2.2.2.1,y2.2.1.1.2.2.2.2.2.2.2.2.2.2.2.1,y2.2.1.1.2.2.2.2.2.2.2.2.2.2.2.2.1),())))
theorem y9I (x:InD yiD):zjw ⟨yyF,22,yMh⟩ Tryz.f186.results.toList ysy yiD ys2 x=yuN x.1:=by kernel_rfl
theorem y6C:ConOk Tryz.prog 186 ⟨yiD,ys2,fun x=>yuN x.1⟩:=zj1 (y2r) Tryz.func186 (by kernel_rfl) (by kernel_rfl) Tryz.ntmps186.symm (by decide) (fun x r h=>(y9I x).trans h)
def yz9 (a0:dA):Int×dA:=allE a0
def yIF (a0:dA):Bool:=decide (a0.2.2.2.2.2.2.2.2.1.length≤1000)
theorem y8N (a0:dA) (hk:zi1 yiD (a0,())) (hq:yIF a0=true):yuN a0=(fun n=>some ((n.1,()),(n.2,()))) (yz9 a0):=by
 have hq:=of_decide_eq_true hq
 have h1:=zj7 (step:=yfR) a0.2.2.2.2.2.2.2.2.1.length (fun _ s=>yz2 s) ys5 (fun i s=>s.2.2.2.2.2.2.2.2.1.length+i=a0.2.2.2.2.2.2.2.2.1.length) (fun b=>(0,b))
  (fun r=>bif r.1==0 then .inl (y2D r.2) else .inr (y2J r.1 r.2)) (fun i s hi hs=>by
   have hp:0 < s.2.2.2.2.2.2.2.2.1.length:=by omega
   constructor
   ·simp only [yfR,yz2,yAK,zkr,zj4 (show (0:Int) < (s.2.2.2.2.2.2.2.2.1.length:Int) by omega),cond_true,show inb 0 s.2.2.2.2.2.2.2.2.1.length=true from zkl (i:=0) hp]
    rw [yLi s (nth s.2.2.2.2.2.2.2.2.1 0 (0,[])).1 (decide_eq_true (show s.2.2.2.2.2.2.2.2.1.length≤1000 by omega))]
    simp only [zkc,ynX]
    unfold ys5
    generalize flushE s (nth s.2.2.2.2.2.2.2.2.1 0 (0,[])).1=R
    cases hr:(R.1 !=0)
    ·rfl
    ·simp only [cond_true]
     rw [show (R.1==0)=false from beq_eq_false_iff_ne.2 (bne_iff_ne.1 hr)]; rfl
   ·intro s' h
    unfold ys5 at h
    cases hr:((flushE s (nth s.2.2.2.2.2.2.2.2.1 0 (0,[])).1).1 !=0)
    ·rw [hr]at h
     simp only [cond_false,Sum.inl.injEq]at h
     rw [← h,yaaY hp (bne_eq_false_iff_eq.1 hr),List.length_drop]; omega
    ·rw [hr]at h; cases h) (fun s hs=>by
   simp only [yfR,yz2,yAK,show ltb 0 (s.2.2.2.2.2.2.2.2.1.length:Int)=false from zkx (by omega)]; rfl) a0 rfl 18446744073709551616 (by omega)
 unfold yuN yz9 allE
 refine (congrArg (fun z=>zjY z _ _) (show yBT (y2H a0)=_ from h1)).trans ?_
 generalize goE ys5 (fun b=>(0,b)) a0.2.2.2.2.2.2.2.2.1.length 0 a0=R
 cases hr:(R.1==0)
 ·rfl
 ·simp only [cond_true,zkh,zkr]
  rw [show R.1=0 from beq_iff_eq.1 hr]
def yts (a0:dA):Option (ResD ys2×MutD yiD):=bif yIF a0 then (fun n=>some ((n.1,()),(n.2,()))) (yz9 a0) else none
theorem y82 (a0:dA) (h:yIF a0=true):yts a0=(fun n=>some ((n.1,()),(n.2,()))) (yz9 a0):=by unfold yts; rw [h]; rfl
def yMM:Con:=⟨yiD,ys2,fun x=>yts x.1⟩
theorem y8Z:ConOk Tryz.prog 186 yMM:=(y6C).mono (fun x r hk h=>zks h (fun hq=>y8N x.1 hk hq))
end
section
def yLJ:Code:=(Tryz.f232.body).getD .skip
def yMq:Env:=zj2 TT [(152,ycq)] [(12288,(.pr .fz .fz))]
theorem yUv:FrOk Tryz.prog ⟨yMq,10,fun _=>none⟩ yLJ:=zj6 yc yd ⟨yfK,trivial⟩
def yWD:Nat→Option Seg:=fun _=>none
abbrev yna:List Par:= [.rd tM]
abbrev yue:List OT:= [⟨false,tM,(.pr (.ow .fz) (.pr (.ow (.pr .fz .fz)) (.pr .fz (.ow .fz))))⟩]
def yxS (a0:dM):Option (ResD yue×MutD yna) :=
 let r1:=yD a0
 some (((r1.1,([]:List dW),true,r1.2.2.2),()),())
theorem y48 (x:InD yna):zjw ⟨yMq,10,yWD⟩ Tryz.f232.results.toList yLJ yna yue x=yxS x.1:=by kernel_rfl
theorem yZo:ConOk Tryz.prog 232 ⟨yna,yue,fun x=>yxS x.1⟩:=zj1 (yUv) Tryz.func232 (by kernel_rfl) (by kernel_rfl) Tryz.ntmps232.symm (by decide) (fun x r h=>(y48 x).trans h)
def yin (a0:dM):dM :=
 let r1:=yD a0
 (r1.1,([]:List dW),true,r1.2.2.2)
def yoD:Con:=⟨yna,yue,fun x=>(fun n=>some ((n,()),())) (yin x.1)⟩
theorem y2W (a0:dM):yxS a0=(fun n=>some ((n,()),())) (yin a0):=zkp (p:=fun (n:dM)=>((n,()),())) rfl
theorem yAf:ConOk Tryz.prog 232 yoD:=(yZo).mono (fun x r _ h=>(y2W x.1).trans h)
end
section
def yLN:Code:=(Tryz.f199.body).getD .skip
def yMu:Env:=zj2 TT [(203,yrW),(232,yoD)] []
theorem yUF:FrOk Tryz.prog ⟨yMu,62,fun _=>none⟩ yLN:=zj6 yc yd ⟨yCe,yAf,trivial⟩
def yWH:Nat→Option Seg:=fun _=>none
abbrev yfo:List Par:= [.pt tA (.pr .fz (.pr (.pr .fz .fz) (.pr (.ow (.pr (.ow .fz) (.pr (.ow (.pr .fz .fz)) (.pr .fz (.ow .fz))))) (.pr .fz (.pr .fz (.pr .fz (.pr .fz (.pr .fz (.pr (.ow (.pr .fz .fz)) (.pr .fz (.pr .fz .fz))))))))))),.rd tI]
abbrev ynv:List OT:= []
def yo8 (a0:dA) (a1:Int):Option (ResD ynv×MutD yfo) :=
 bif (inb a1 a0.2.2.1.length) then
 let r1:=yin ((nth a0.2.2.1 a1 ([],[],false,[])).1,((nth a0.2.2.1 a1 ([],[],false,[])).2).1,(((nth a0.2.2.1 a1 ([],[],false,[])).2).2))
 bif (inb a1 a0.2.2.1.length) then
 bif (!(a0.2.2.2.1==(-1))) then
 bif (a0.2.2.2.1==a1) then
 bif (!a0.2.2.2.2.2.2.2.2.2.2.1) then
 bif (!a0.2.2.2.2.2.2.2.2.2.2.2) then
 bif (ltb a0.2.2.2.2.2.2.2.1 60000) then
 let r2:=yaP (a0.1,a0.2.1,(a0.2.2.1.set (a1).toNat r1),a1,0,a0.2.2.2.2.2)
 some ((),(r2,()))
 else
 some ((),((a0.1,a0.2.1,(a0.2.2.1.set (a1).toNat r1),a1,0,a0.2.2.2.2.2),()))
 else
 some ((),((a0.1,a0.2.1,(a0.2.2.1.set (a1).toNat r1),a1,0,a0.2.2.2.2.2),()))
 else
 some ((),((a0.1,a0.2.1,(a0.2.2.1.set (a1).toNat r1),a1,0,a0.2.2.2.2.2),()))
 else
 bif (!a0.2.2.2.2.2.2.2.2.2.2.1) then
 some ((),((a0.1,a0.2.1,(a0.2.2.1.set (a1).toNat r1),a0.2.2.2.1,a0.2.2.2.2.1,a0.2.2.2.2.2.1,a0.2.2.2.2.2.2.1,a0.2.2.2.2.2.2.2.1,a0.2.2.2.2.2.2.2.2.1,a0.2.2.2.2.2.2.2.2.2.1,a0.2.2.2.2.2.2.2.2.2.2.1,true),()))
 else
 some ((),((a0.1,a0.2.1,(a0.2.2.1.set (a1).toNat r1),a0.2.2.2.1,a0.2.2.2.2.1,a0.2.2.2.2.2.1,a0.2.2.2.2.2.2.1,a0.2.2.2.2.2.2.2.1,a0.2.2.2.2.2.2.2.2.1,a0.2.2.2.2.2.2.2.2.2.1,a0.2.2.2.2.2.2.2.2.2.2.1,true),()))
 else
 bif (!a0.2.2.2.2.2.2.2.2.2.2.1) then
 bif (!a0.2.2.2.2.2.2.2.2.2.2.2) then
 bif (ltb a0.2.2.2.2.2.2.2.1 60000) then
 let r3:=yaP (a0.1,a0.2.1,(a0.2.2.1.set (a1).toNat r1),a1,0,a0.2.2.2.2.2)
 some ((),(r3,()))
 else
 some ((),((a0.1,a0.2.1,(a0.2.2.1.set (a1).toNat r1),a1,0,a0.2.2.2.2.2),()))
 else
 some ((),((a0.1,a0.2.1,(a0.2.2.1.set (a1).toNat r1),a1,0,a0.2.2.2.2.2),()))
 else
 some ((),((a0.1,a0.2.1,(a0.2.2.1.set (a1).toNat r1),a1,0,a0.2.2.2.2.2),()))
 else none
 else none
theorem y5f (x:InD yfo):zjw ⟨yMu,62,yWH⟩ Tryz.f199.results.toList yLN yfo ynv x=yo8 x.1 x.2.1:=by kernel_rfl
theorem yZv:ConOk Tryz.prog 199 ⟨yfo,ynv,fun x=>yo8 x.1 x.2.1⟩:=zj1 (yUF) Tryz.func199 (by kernel_rfl) (by kernel_rfl) Tryz.ntmps199.symm (by decide) (fun x r h=>(y5f x).trans h)
def yux (a0:dA) (a1:Int):dA:=failOne a0 a1
def yCi (a0:dA) (a1:Int):Bool:=inb a1 a0.2.2.1.length
theorem y23 (a0:dA) (a1:Int) (hk:zi1 yfo (a0,a1,())) (hq:yCi a0 a1=true):yo8 a0 a1=(fun n=>some ((),(n,()))) (yux a0 a1):=by
 have hq:inb a1 a0.2.2.1.length=true:=hq
 unfold yo8 yux failOne ybG yzN yyj ye
 simp only [hq,zkr,yin,yD,yaP]
 cases (a0.2.2.2.1== -1)<;>cases (a0.2.2.2.1==a1)<;>cases a0.2.2.2.2.2.2.2.2.2.2.1<;>cases a0.2.2.2.2.2.2.2.2.2.2.2<;>cases ltb a0.2.2.2.2.2.2.2.1 60000<;>rfl
def yn0 (a0:dA) (a1:Int):Option (ResD ynv×MutD yfo):=bif yCi a0 a1 then (fun n=>some ((),(n,()))) (yux a0 a1) else none
theorem y4b (a0:dA) (a1:Int) (h:yCi a0 a1=true):yn0 a0 a1=(fun n=>some ((),(n,()))) (yux a0 a1):=by unfold yn0; rw [h]; rfl
def yHC:Con:=⟨yfo,ynv,fun x=>yn0 x.1 x.2.1⟩
theorem y36:ConOk Tryz.prog 199 yHC:=(yZv).mono (fun x r hk h=>zks h (fun hq=>y23 x.1 x.2.1 hk hq))
end
section
def ykb:Code:=(Tryz.f265.body).getD .skip
def yrd:Env:=zj2 TT [(135,yq),(152,ycq),(224,yfB),(238,yB3)] []
theorem yR3:FrOk Tryz.prog ⟨yrd,68,fun _=>none⟩ ykb:=zj6 yc yd ⟨yy,yfK,yj1,yPu,trivial⟩
def yE0:Nat→Option Seg:=fun _=>none
def ya6:Shape:=⟨[(1,false,[.int .i64]),(4,false,[.ptr 64 0]),(5,false,[.ptr 4224 0]),(6,false,[.int .i64])],[(64,[.nil,.nil,.bool,.nil]),(4224,[.at 800000000,.at 800000001,.bool,.at 800000002])],[(800000000,tL,.fz),(800000001,tW,(.pr .fz .fz)),(800000002,tI,.fz)]⟩
def yfc:Shape:=⟨[(1,false,[.int .i64]),(4,false,[.ptr 64 0]),(5,false,[.ptr 4224 0]),(6,false,[.int .i64])],[(64,[.nil,.nil,.bool,.nil]),(4224,[.at 800000000,.at 800000001,.bool,.at 800000002])],[(800000000,tL,.fz),(800000001,tW,(.pr .fz .fz)),(800000002,tI,.fz)]⟩
def ye3:Shape:=⟨[(1,false,[.int .i64]),(4,false,[.ptr 64 0]),(5,false,[.ptr 4224 0]),(6,false,[.int .i64])],[(64,[.nil,.nil,.bool,.nil]),(4224,[.at 800000000,.at 800000001,.bool,.at 800000002])],[(800000000,tL,.fz),(800000001,tW,(.pr .fz .fz)),(800000002,tI,.fz)]⟩
def yjx:Shape:=⟨[],[],[]⟩
abbrev yoO (v0 v1:Int) (v2 v3:dM):(ya6).X:=(((v0,()),((),()),((),()),(v1,()),()),(((),(),v2.2.2.1,(),()),((),(),v3.2.2.1,(),()),()),(v3.1,v3.2.1,v3.2.2.2,()))
abbrev yNV (v0 v1:Int) (v2 v3:dM):(yfc).X:=(((v0,()),((),()),((),()),(v1,()),()),(((),(),v2.2.2.1,(),()),((),(),v3.2.2.1,(),()),()),(v3.1,v3.2.1,v3.2.2.2,()))
abbrev yNM (v0 v1:Int) (v2 v3:dM):(ye3).X:=(((v0,()),((),()),((),()),(v1,()),()),(((),(),v2.2.2.1,(),()),((),(),v3.2.2.1,(),()),()),(v3.1,v3.2.1,v3.2.2.2,()))
def ypn (v0 v1:Int) (v2 v3:Bool) (v4:List (List Int)) (v5:List dW) (v6:List Int):Option ((ya6).X ⊕ ((ye3).X ⊕ (yjx).X)) :=
 bif (ltb 0 v1) then
 bif (inb (IntKind.i64.wrap (v1 - 1)) v6.length) then
 bif (ltb v0 (nth v6 (IntKind.i64.wrap (v1 - 1)) 0)) then
 bif (inb (IntKind.i64.wrap (v1 - 1)) v6.length) then
 bif (inb v1 v6.length) then
 some (.inl (((v0,()),((),()),((),()),((IntKind.i64.wrap (v1 - 1)),()),()),(((),(),v2,(),()),((),(),v3,(),()),()),(v4,v5,(v6.set (v1).toNat (nth v6 (IntKind.i64.wrap (v1 - 1)) 0)),())))
 else none
 else none
 else
 some (.inr (.inl (((v0,()),((),()),((),()),(v1,()),()),(((),(),v2,(),()),((),(),v3,(),()),()),(v4,v5,v6,()))))
 else none
 else
 some (.inr (.inl (((v0,()),((),()),((),()),(v1,()),()),(((),(),v2,(),()),((),(),v3,(),()),()),(v4,v5,v6,()))))
def ybp (x:(ya6).X):=ypn x.1.1.1 x.1.2.2.2.1.1 x.2.1.1.2.2.1 x.2.1.2.1.2.2.1 x.2.2.1 x.2.2.2.1 x.2.2.2.2.1
def yzL (x:(yfc).X):(ya6).X:=(((x.1.1.1,()),((),()),((),()),(x.1.2.2.2.1.1,()),()),(((),(),x.2.1.1.2.2.1,(),()),((),(),x.2.1.2.1.2.2.1,(),()),()),(x.2.2.1,x.2.2.2.1,x.2.2.2.2.1,()))
def yA1:Code:=(zdD ykb 64 504).getD .skip
theorem yPI:zdD ykb 64 126=some (.block 0 (.loop yA1)):=by kernel_rfl
theorem yQy (x:(ya6).X):zg0 ⟨yrd,68,yE0⟩ 0 yA1 504 ya6 ye3 yjx x=ybp x:=by kernel_rfl
def yzW (x:(yfc).X):Nat:=18446744073709551616
def yqB (x:(yfc).X):Option ((ye3).X ⊕ (yjx).X):=zz ybp (yzW x) (yzL x)
def yAG:Seg:=⟨yfc,ye3,yjx,yqB⟩
def yE1:Nat→Option Seg:=fun q=>bif Nat.beq q 126 then some yAG else yE0 q
theorem yR4:FrOk Tryz.prog ⟨yrd,68,yE1⟩ ykb:=(yR3).loop (sg:=yAG) ya6 yzL (by decide) yPI ybp yzW (by decide) (fun _=>rfl) (fun x r _ h=>h) yQy
abbrev ygN:List Par:= [.rd tM,.rd tI]
abbrev yrD:List OT:= [⟨false,tM,(.pr (.ow .fz) (.pr (.ow (.pr .fz .fz)) (.pr .fz (.ow .fz))))⟩]
def ymE (a0:dM) (a1:Int):Option (ResD yrD×MutD ygN) :=
 let r1:=yD a0
 let r2:=yab a0
 bif (!(!r2)) then
 let r3:=ya a1 0 (IntKind.i64.wrap ((a0.1.length:Int) - 1))
 bif (!(!r3)) then
 let r4:=yjk a0.2.2.2 a1
 bif r4 then
 some ((r1,()),())
 else
 bif (zjQ r1.2.2.2.length ([a1]:List Int).length 8) then
 zjY (yqB (((a1,()),((),()),((),()),((IntKind.i64.wrap (((r1.2.2.2++([a1]:List Int)).length:Int) - 1)),()),()),(((),(),false,(),()),((),(),r1.2.2.1,(),()),()),(r1.1,r1.2.1,(r1.2.2.2++([a1]:List Int)),()))) (fun y4 =>
 bif (inb y4.1.2.2.2.1.1 y4.2.2.2.2.1.length) then
 some (((y4.2.2.1,y4.2.2.2.1,y4.2.1.2.1.2.2.1,(y4.2.2.2.2.1.set (y4.1.2.2.2.1.1).toNat y4.1.1.1)),()),())
 else none) (fun y4 =>
 none)
 else none
 else
 some ((r1,()),())
 else
 some ((r1,()),())
theorem y1z (x:InD ygN):zjw ⟨yrd,68,yE1⟩ Tryz.f265.results.toList ykb ygN yrD x=ymE x.1 x.2.1:=by kernel_rfl
theorem yVK:ConOk Tryz.prog 265 ⟨ygN,yrD,fun x=>ymE x.1 x.2.1⟩:=zj1 (yR4) Tryz.func265 (by kernel_rfl) (by kernel_rfl) Tryz.ntmps265.symm (by decide) (fun x r h=>(y1z x).trans h)
def ygX (a0:dM) (a1:Int):dM:=spoil a0 a1
theorem y4v (n:Int) (m:dM) (p:List Int) (hp: ∀ x∈p,x < n): ∀ (j:Nat) (q1 q2:List Int) (x:Int) (fuel:Nat),q1.length=j→j < fuel→(∀ y∈q1,n < y)→p.length+q1.length≤1000 →
  ∃ (x':Int) (q':List Int),q1++q2=q'∧zz ybp fuel (yoO n ((p.length+q1.length:Nat):Int) noMem (m.1,m.2.1,m.2.2.1,(p++q1)++x::q2))=some (.inl (yNM n (p.length:Nat) noMem (m.1,m.2.1,m.2.2.1,p++x'::q')))
 | 0,q1,q2,x,fuel+1,hj,hf,hq,hb=>by
  have:q1= []:=List.length_eq_zero_iff.1 hj
  subst this
  refine ⟨x,q2,rfl,?_⟩
  simp only [zz,ybp,yoO,ypn,List.length_nil,Nat.add_zero,List.append_nil]
  rcases List.eq_nil_or_concat p with rfl | ⟨P,y,rfl⟩
  ·rfl
  ·have hy:=hp y (by simp)
   simp only [List.concat_eq_append,List.length_append,List.length_cons,List.length_nil,List.append_assoc,List.cons_append,List.nil_append]at hb ⊢
   rw [zj4 (show (0:Int) < ((P.length+(0+1):Nat):Int) by omega),wr (show -9223372036854775808≤((P.length+(0+1):Nat):Int) - 1 by omega) (by omega),show ((P.length+(0+1):Nat):Int) - 1=(P.length:Nat) by omega,
    zkl (by simp),zkm,yaaO,zkx (show y≤n by omega)]
   rfl
 | j+1,q1,q2,x,fuel+1,hj,hf,hq,hb=>by
  rcases List.eq_nil_or_concat q1 with rfl | ⟨Q,y,rfl⟩
  ·cases hj
  ·rw [List.concat_eq_append]at hj hq hb ⊢
   have hQ:Q.length=j:=by simpa using hj
   have hy:=hq y (by simp)
   obtain ⟨x',q',e1,e2⟩:=y4v n m p hp j Q (y::q2) y fuel hQ (by omega) (fun z hz=>hq z (by simp [hz])) (by simp at hb; omega)
   refine ⟨x',q',by rw [← e1]; simp,?_⟩
   rw [← e2]
   have ea:((p++(Q++ [y]))++x::q2)=(p++Q)++y::x::q2:=by simp
   have el:p.length+(Q++ [y]).length=(p++Q).length+1:=by simp; omega
   have el2:p.length+Q.length=(p++Q).length:=by simp
   have hb2:(p++Q).length≤1000:=by simp at hb ⊢; omega
   rw [ea,el,el2]
   generalize p++Q=A at hb2
   rw [zz]
   simp only [ybp,yoO,ypn]
   have es:(A++y::x::q2).set (A.length+1) y=A++y::y::q2:=by
    have:=yaaS (A++ [y]) x y q2
    simp at this ⊢
   rw [zj4 (show (0:Int) < ((A.length+1:Nat):Int) by omega),wr (show -9223372036854775808≤((A.length+1:Nat):Int) - 1 by omega) (by omega),show ((A.length+1:Nat):Int) - 1=(A.length:Nat) by omega,zkl (show A.length < (A++y::x::q2).length by simp),zkm,yaaO,zj4 hy,
    zkl (show A.length+1 < (A++y::x::q2).length by simp),Int.toNat_natCast,es]
   rfl
theorem yY3 (a0:dM) (a1:Int) (hk:zi1 ygN (a0,a1,())):ymE a0 a1=(fun n=>some ((n,()),())) (ygX a0 a1):=by
 unfold ymE ygX spoil
 simp only [yD,yab,ybr,yjk]
 cases hm:yu a0
 ·rfl
 obtain ⟨h1,h2,h3,h4,h5,h6⟩:=yaw hm
 rw [ys6]at h3
 have hlen:=yTo h3.2 (lo:=0) (n:=a0.1.length) h3.1 (by omega)
 rw [wr (show -9223372036854775808≤(a0.1.length:Int) - 1 by omega) (by omega)]
 have hi:(leb 0 a1&&leb a1 ((a0.1.length:Int) - 1))=inb a1 a0.1.length:=by
  rw [Bool.eq_iff_iff,Bool.and_eq_true,zjD,zjD,zjC]; omega
 rw [hi]
 cases hin:inb a1 a0.1.length
 ·rfl
 cases hh:a0.2.2.2.any (· ==a1)
 ·have hn:a1∉a0.2.2.2:=fun h=>by
   have:=List.any_eq_false.1 hh a1 h
   simp at this
  have hsp:=y98 h3.2 hn
  have hp: ∀ x∈a0.2.2.2.filter (fun x=>ltb x a1),x < a1:=fun x hx=>zjG.1 (List.mem_filter.1 hx).2
  have hq: ∀ x∈a0.2.2.2.filter (fun x=>ltb a1 x),a1 < x:=fun x hx=>zjG.1 (List.mem_filter.1 hx).2
  unfold y2y
  generalize a0.2.2.2.filter (fun x=>ltb x a1)=P at hsp hp
  generalize a0.2.2.2.filter (fun x=>ltb a1 x)=Q at hsp hq
  have hPQ:P.length+Q.length=a0.2.2.2.length:=by rw [hsp,List.length_append]
  obtain ⟨x',q',e1,e2⟩:=y4v a1 a0 P hp Q.length Q [] a1 18446744073709551616 rfl (by omega) hq (by omega)
  rw [List.append_nil]at e1
  subst e1
  simp only [cond_true,cond_false,Bool.not_true,Bool.not_false,Bool.and_self]
  rw [zka.2 (show (a0.2.2.2.length+ [a1].length) * 8≤140737488355328 by simp only [List.length_cons,List.length_nil]; omega),wr (show -9223372036854775808≤((a0.2.2.2++ [a1]).length:Int) - 1 by omega) (by simp only [List.length_append,List.length_cons,List.length_nil]; omega),
   show ((a0.2.2.2++ [a1]).length:Int) - 1=((P.length+Q.length:Nat):Int) by simp only [List.length_append,List.length_cons,List.length_nil]; omega,hsp,cond_true]
  refine (congrArg (fun z=>zjY z _ _) (show yqB (yNV a1 ((P.length+Q.length:Nat):Int) noMem (a0.1,a0.2.1,a0.2.2.1,(P++Q)++ [a1]))=_ from e2)).trans ?_
  simp only [zkh]
  show (bif inb (P.length:Int) (P++x'::Q).length then some (((a0.1,a0.2.1,a0.2.2.1,(P++x'::Q).set (P.length:Int).toNat a1),()),()) else none)=_
  rw [zkl (by simp),Int.toNat_natCast,yaaS]; rfl
 ·rfl
def yvh:Con:=⟨ygN,yrD,fun x=>(fun n=>some ((n,()),())) (ygX x.1 x.2.1)⟩
theorem yIz:ConOk Tryz.prog 265 yvh:=(yVK).mono (fun x r hk h=>(yY3 x.1 x.2.1 hk).trans h)
end
section
def yOH:Code:=(Tryz.f210.body).getD .skip
def yPi:Env:=zj2 TT [(105,yFE),(109,yHD),(110,ylo),(115,yzy),(121,yrT),(141,yed),(150,ym),(182,yMO),(185,yxq),(186,yMM),(199,yHC),(208,yoF),(265,yvh)] []
theorem yXZ:FrOk Tryz.prog ⟨yPi,160,fun _=>none⟩ yOH:=zj6 yc yd ⟨yZT,y37,yuC,yNd,yCb,yis,yv,y81,yLc,y8Z,y36,yAh,yIz,trivial⟩
def y0K:Nat→Option Seg:=fun _=>none
abbrev yi:List Par:= [.pt tU .fz,.pt tA (.pr .fz (.pr (.pr .fz .fz) (.pr (.ow (.pr (.ow .fz) (.pr (.ow (.pr .fz .fz)) (.pr .fz (.ow .fz))))) (.pr .fz (.pr .fz (.pr .fz (.pr .fz (.pr .fz (.pr (.ow (.pr .fz .fz)) (.pr .fz (.pr .fz .fz)))))))))))]
abbrev yj:List OT:= []
def yen (a0:dU) (a1:dA):Option (ResD yj×MutD yi) :=
 bnd (yb a0 14) fun r1 =>
 let k1:Option (ResD yj×MutD yi) :=
 bnd (yZ r1.2.1 3) fun r9 =>
 bif r9.1.1 then
 bif (a1.2.2.2.1==(-1)) then
 bnd (yb r9.2.1 a1.2.1.1) fun r10 =>
 bnd (yn0 a1 r10.1.1) fun r11 =>
 some ((),(r10.2.1,r11.2.1,()))
 else
 some ((),(r9.2.1,a1,()))
 else
 some ((),(r9.2.1,a1,()))
 let k2:Option (ResD yj×MutD yi) :=
 bif (inb a1.2.2.2.1 a1.2.2.1.length) then
 bif (((nth a1.2.2.1 a1.2.2.2.1 ([],[],false,[])).2).2).1 then
 bnd (ylC a1) fun r12 =>
 some ((),(r1.2.1,r12.2.1,()))
 else
 some ((),(r1.2.1,a1,()))
 else none
 let k3:Option (ResD yj×MutD yi) :=
 bif (leb 0 a1.2.2.2.1) then
 k2
 else
 some ((),(r1.2.1,a1,()))
 let k4:Option (ResD yj×MutD yi) :=
 bif (inb a1.2.2.2.1 a1.2.2.1.length) then
 bif (!((((nth a1.2.2.1 a1.2.2.2.1 ([],[],false,[])).2).2).1)) then
 bif (ltb a1.2.2.2.2.1 a1.2.1.2) then
 bnd (yn1 a1) fun r13 =>
 some ((),(r1.2.1,r13.2.1,()))
 else
 some ((),(r1.2.1,a1,()))
 else
 some ((),(r1.2.1,a1,()))
 else none
 let k5:Option (ResD yj×MutD yi) :=
 bif (leb 0 a1.2.2.2.1) then
 k4
 else
 some ((),(r1.2.1,a1,()))
 let k6:Option (ResD yj×MutD yi) :=
 bnd (yZ r1.2.1 3) fun r15 =>
 bif r15.1.1 then
 bnd (yb r15.2.1 a1.2.1.1) fun r16 =>
 bif (inb r16.1.1 a1.2.2.1.length) then
 bnd (yb r16.2.1 a1.2.1.2) fun r17 =>
 let r18:=yaN r17.1.1
 let r19:=ygX ((nth a1.2.2.1 r16.1.1 ([],[],false,[])).1,((nth a1.2.2.1 r16.1.1 ([],[],false,[])).2).1,(((nth a1.2.2.1 r16.1.1 ([],[],false,[])).2).2)) r18
 bif (inb r16.1.1 a1.2.2.1.length) then
 some ((),(r17.2.1,(a1.1,a1.2.1,(a1.2.2.1.set (r16.1.1).toNat r19),a1.2.2.2),()))
 else none
 else none
 else
 some ((),(r15.2.1,a1,()))
 let k7:Option (ResD yj×MutD yi) :=
 bif (a1.2.2.2.1==(-1)) then
 k6
 else
 some ((),(r1.2.1,a1,()))
 let k8:Option (ResD yj×MutD yi) :=
 bif (r1.1.1==12) then
 let r14:=yfG a1
 some ((),(r1.2.1,r14,()))
 else
 k7
 let k9:Option (ResD yj×MutD yi) :=
 bif (r1.1.1==10) then
 k5
 else
 k8
 let k10:Option (ResD yj×MutD yi) :=
 bif (r1.1.1==11) then
 k5
 else
 k8
 let k11:Option (ResD yj×MutD yi) :=
 bif (r1.1.1==10) then
 k9
 else
 k10
 let k12:Option (ResD yj×MutD yi) :=
 bif (r1.1.1==9) then
 k3
 else
 k11
 let k13:Option (ResD yj×MutD yi) :=
 bif (r1.1.1==8) then
 k1
 else
 k12
 let k14:Option (ResD yj×MutD yi) :=
 bif (r1.1.1==7) then
 bnd (yts a1) fun r8 =>
 some ((),(r1.2.1,r8.2.1,()))
 else
 k13
 let k15:Option (ResD yj×MutD yi) :=
 bif (r1.1.1==4) then
 bnd (yb r1.2.1 a1.2.1.2) fun r6 =>
 bnd (ydw a1 r6.1.1) fun r7 =>
 some ((),(r6.2.1,r7.2.1,()))
 else
 k14
 let k16:Option (ResD yj×MutD yi) :=
 bif (r1.1.1==5) then
 bnd (yb r1.2.1 a1.2.1.2) fun r27 =>
 bnd (ydw a1 r27.1.1) fun r28 =>
 some ((),(r27.2.1,r28.2.1,()))
 else
 k14
 let k17:Option (ResD yj×MutD yi) :=
 bif (r1.1.1==6) then
 bnd (yb r1.2.1 a1.2.1.2) fun r48 =>
 bnd (ydw a1 r48.1.1) fun r49 =>
 some ((),(r48.2.1,r49.2.1,()))
 else
 k14
 let k18:Option (ResD yj×MutD yi) :=
 bif (r1.1.1==5) then
 k16
 else
 k17
 let k19:Option (ResD yj×MutD yi) :=
 bif (r1.1.1==4) then
 k15
 else
 k18
 bif (r1.1.1==0) then
 bif (r1.1.1==0) then
 let r2:=yx a1.2.1
 bnd (yb r1.2.1 r2) fun r3 =>
 bnd (yak r3.2.1) fun r4 =>
 bnd (ygv a1 r3.1.1 r4.1.1) fun r5 =>
 some ((),(r4.2.1,r5.2.1,()))
 else
 k19
 else
 bif (r1.1.1==1) then
 bif (r1.1.1==1) then
 let r69:=yx a1.2.1
 bnd (yb r1.2.1 r69) fun r70 =>
 bnd (yak r70.2.1) fun r71 =>
 bnd (ygv a1 r70.1.1 r71.1.1) fun r72 =>
 some ((),(r71.2.1,r72.2.1,()))
 else
 k19
 else
 bif (r1.1.1==2) then
 bif (r1.1.1==2) then
 let r136:=yx a1.2.1
 bnd (yb r1.2.1 r136) fun r137 =>
 bnd (yak r137.2.1) fun r138 =>
 bnd (ygv a1 r137.1.1 r138.1.1) fun r139 =>
 some ((),(r138.2.1,r139.2.1,()))
 else
 k19
 else
 bif (r1.1.1==3) then
 let r203:=yx a1.2.1
 bnd (yb r1.2.1 r203) fun r204 =>
 bnd (yak r204.2.1) fun r205 =>
 bnd (ygv a1 r204.1.1 r205.1.1) fun r206 =>
 some ((),(r205.2.1,r206.2.1,()))
 else
 k19
theorem y8l (x:InD yi):zjw ⟨yPi,160,y0K⟩ Tryz.f210.results.toList yOH yi yj x=yen x.1 x.2.1:=by kernel_rfl
theorem y3M:ConOk Tryz.prog 210 ⟨yi,yj,fun x=>yen x.1 x.2.1⟩:=zj1 (yXZ) Tryz.func210 (by kernel_rfl) (by kernel_rfl) Tryz.ntmps210.symm (by decide) (fun x r h=>(y8l x).trans h)
def yzB:Con:=⟨yi,yj,fun x=>yen x.1 x.2.1⟩
theorem yNg:ConOk Tryz.prog 210 yzB:=y3M
def yCW (a:dA) (z:Option (ResD yj×MutD yi)):Prop:= ∃ (u':dU) (a':dA),z=some ((),(u',a',()))∧yA u'∧Turned a a'
def yaaT (u:dU) (a:dA):Option (ResD yj×MutD yi) :=
 bnd (yb u (yx a.2.1)) fun r3=>bnd (yak r3.2.1) fun r4=>bnd (ygv a r3.1.1 r4.1.1) fun r5=>some ((),(r4.2.1,r5.2.1,()))
def y7D (u:dU) (a:dA):Option (ResD yj×MutD yi) :=
 bnd (yb u a.2.1.2) fun r6=>bnd (ydw a r6.1.1) fun r7=>some ((),(r6.2.1,r7.2.1,()))
def yaac (u:dU) (a:dA):Option (ResD yj×MutD yi) :=
 bnd (yZ u 3) fun r9=>bif r9.1.1 then (bif (a.2.2.2.1==(-1)) then (bnd (yb r9.2.1 a.2.1.1) fun r10=>bnd (yn0 a r10.1.1) fun r11=>some ((),(r10.2.1,r11.2.1,()))) else some ((),(r9.2.1,a,()))) else some ((),(r9.2.1,a,()))
def y7E (u:dU) (a:dA):Option (ResD yj×MutD yi) :=
 bif leb 0 a.2.2.2.1 then (bif inb a.2.2.2.1 a.2.2.1.length then (bif (nth a.2.2.1 a.2.2.2.1 noMem).2.2.1 then (bnd (ylC a) fun r12=>some ((),(u,r12.2.1,()))) else some ((),(u,a,()))) else none) else some ((),(u,a,()))
def yaad (u:dU) (a:dA):Option (ResD yj×MutD yi) :=
 bif leb 0 a.2.2.2.1 then (bif inb a.2.2.2.1 a.2.2.1.length then (bif !(nth a.2.2.1 a.2.2.2.1 noMem).2.2.1 then (bif ltb a.2.2.2.2.1 a.2.1.2 then (bnd (yn1 a) fun r13=>some ((),(u,r13.2.1,()))) else some ((),(u,a,()))) else some ((),(u,a,()))) else none) else some ((),(u,a,()))
def yTl (u:dU) (a:dA):Option (ResD yj×MutD yi) :=
 bif (a.2.2.2.1==(-1)) then (bnd (yZ u 3) fun r15=>bif r15.1.1 then (bnd (yb r15.2.1 a.2.1.1) fun r16=>bif inb r16.1.1 a.2.2.1.length then (bnd (yb r16.2.1 a.2.1.2) fun r17 =>
 bif inb r16.1.1 a.2.2.1.length then some ((),(r17.2.1,setMem a r16.1.1 (spoil (nth a.2.2.1 r16.1.1 noMem) (dataAt r17.1.1)),())) else none) else none) else some ((),(r15.2.1,a,()))) else some ((),(u,a,()))
theorem yOe {u:dU} {a:dA} (h:ydt a) (hk:yH a) (hu:yA u):yCW a (yaaT u a):=by
 have hg:=yk.1 h.1
 have hd:=ys8 h.2.2.1 h.1
 obtain ⟨b,u1,e1,q1,d1⟩:=yp u (yx a.2.1) hu
 obtain ⟨x,u2,e2,q2,d2⟩:=yaaG u1 d1
 have hx:isW x=true:=by rw [ybr]at q2; exact q2
 have hbl:0 < yx a.2.1:=by
  rw [yNo h.1]
  exact Int.mul_pos (by omega) (by omega)
 have hb:blkOk a.2.1 b=true:=by
  have:=q1.2.1 hbl
  unfold blkOk
  rw [zkw q1.1,zkw (show b≤yx a.2.1 - 1 by omega)]; rfl
 unfold yaaT
 rw [e1,zkc,e2,zkc,y84 a b x (by unfold ytv; rw [yBV.2 ⟨h,hk⟩,hb]; exact decide_eq_true (show a.2.2.2.2.2.2.2.2.1.length≤1000 by omega)),zkc]
 exact ⟨_,_,rfl,d2,.put b x hb hx⟩
theorem yOd {u:dU} {a:dA} (h:ydt a) (hu:yA u):yCW a (y7D u a):=by
 have hd:=ys8 h.2.2.1 h.1
 obtain ⟨s,u1,e1,q1,d1⟩:=yp u a.2.1.2 hu
 unfold y7D
 rw [e1,zkc,yLi a s (decide_eq_true (show a.2.2.2.2.2.2.2.2.1.length≤1000 by omega)),zkc]
 exact ⟨_,_,rfl,d1,.flush s⟩
theorem yab5 {u:dU} {a:dA} (h:ydt a) (hu:yA u):yCW a (bnd (yts a) fun r8=>some ((),(u,r8.2.1,()))):=by
 have hd:=ys8 h.2.2.1 h.1
 rw [y82 a (decide_eq_true (show a.2.2.2.2.2.2.2.2.1.length≤1000 by omega)),zkc]
 exact ⟨_,_,rfl,hu,.all⟩
theorem yabD {u:dU} {a:dA} (h:ydt a) (hk:yH a) (hu:yA u):yCW a (yaac u a):=by
 have hg:=yk.1 h.1
 have hl:=hk.1.2
 obtain ⟨r,u1,e1,d1⟩:=yMP u 3 hu
 unfold yaac
 rw [e1,zkc]
 cases r
 ·exact ⟨_,_,rfl,d1,.same⟩
 ·cases h1:(a.2.2.2.1==(-1))
  ·exact ⟨_,_,rfl,d1,.same⟩
  ·obtain ⟨m,u2,e2,q2,d2⟩:=yp u1 a.2.1.1 d1
   have hm:inb m a.2.2.1.length=true:=zjC.2 ⟨q2.1,by have:=q2.2.1 (by omega); omega⟩
   simp only [cond_true]
   rw [e2,zkc,y4b a m hm,zkc]
   exact ⟨_,_,rfl,d2,.fail m (beq_iff_eq.1 h1) hm⟩
theorem yaba {u:dU} {a:dA} (h:ydt a) (hk:yH a) (hu:yA u):yCW a (y7E u a):=by
 have hl:=hk.1.2
 have hc:=h.2.2.2.1
 unfold y7E
 cases h0:leb 0 a.2.2.2.1
 ·exact ⟨_,_,rfl,hu,.same⟩
 ·have hi:inb a.2.2.2.1 a.2.2.1.length=true:=zjC.2 ⟨zjD.1 h0,by omega⟩
  rw [hi]
  cases hf:(nth a.2.2.1 a.2.2.2.1 noMem).2.2.1
  ·exact ⟨_,_,rfl,hu,.same⟩
  ·simp only [cond_true]
   rw [yZX a (by unfold ylE; rw [h.1,hi]; rfl),zkc]
   exact ⟨_,_,rfl,hu,.spare hi hf⟩
theorem y7F {u:dU} {a:dA} (h:ydt a) (hk:yH a) (hu:yA u):yCW a (yaad u a):=by
 have hl:=hk.1.2
 have hc:=h.2.2.2.1
 unfold yaad
 cases h0:leb 0 a.2.2.2.1
 ·exact ⟨_,_,rfl,hu,.same⟩
 ·have h0':=zjD.1 h0
  have hi:inb a.2.2.2.1 a.2.2.1.length=true:=zjC.2 ⟨h0',by omega⟩
  rw [hi]
  cases hf:(nth a.2.2.1 a.2.2.2.1 noMem).2.2.1
  ·cases hb:ltb a.2.2.2.2.1 a.2.1.2
   ·exact ⟨_,_,rfl,hu,.same⟩
   ·simp only [cond_true,Bool.not_false]
    rw [y4c a (by unfold yn6; rw [h.1,hi,zjC.2 (show 0≤a.2.2.2.1∧a.2.2.2.1 < a.2.1.1.toNat by omega)]; rfl),zkc]
    exact ⟨_,_,rfl,hu,.step hi hf (zjG.1 hb)⟩
  ·exact ⟨_,_,rfl,hu,.same⟩
theorem yabb {u:dU} {a:dA} (h:ydt a) (hk:yH a) (hu:yA u):yCW a (yTl u a):=by
 have hg:=yk.1 h.1
 have hl:=hk.1.2
 unfold yTl
 cases (a.2.2.2.1==(-1))
 ·exact ⟨_,_,rfl,hu,.same⟩
 ·obtain ⟨r,u1,e1,d1⟩:=yMP u 3 hu
  simp only [cond_true]
  rw [e1,zkc]
  cases r
  ·exact ⟨_,_,rfl,d1,.same⟩
  ·obtain ⟨m,u2,e2,q2,d2⟩:=yp u1 a.2.1.1 d1
   have hm:inb m a.2.2.1.length=true:=zjC.2 ⟨q2.1,by have:=q2.2.1 (by omega); omega⟩
   obtain ⟨s,u3,e3,q3,d3⟩:=yp u2 a.2.1.2 d2
   simp only [cond_true]
   rw [e2,zkc]
   simp only [hm,cond_true]
   rw [e3,zkc]
   exact ⟨_,_,rfl,d3,.spoil m s hm q3.1 (q3.2.1 (by omega))⟩
theorem yaaI (u:dU) (a:dA) (hu:yA u) (h:ydt a) (hk:yH a):yCW a (yen u a):=by
 obtain ⟨r,u1,e1,q1,d1⟩:=yp u 14 hu
 have hr:=q1.2.1 (by omega)
 have h0:=q1.1
 unfold yen
 rw [e1,zkc]
 have hc:(r=0∨r=1∨r=2∨r=3)∨(r=4∨r=5∨r=6)∨r=7∨r=8∨r=9∨(r=10∨r=11)∨r=12∨r=13:=by omega
 rcases hc with (rfl | rfl | rfl | rfl) | (rfl | rfl | rfl) | rfl | rfl | rfl | (rfl | rfl) | rfl | rfl
 ·exact yOe h hk d1
 ·exact yOe h hk d1
 ·exact yOe h hk d1
 ·exact yOe h hk d1
 ·exact yOd h d1
 ·exact yOd h d1
 ·exact yOd h d1
 ·exact yab5 h d1
 ·exact yabD h hk d1
 ·exact yaba h hk d1
 ·exact y7F h hk d1
 ·exact y7F h hk d1
 ·refine ⟨u1,checkA a,?_,d1,.check⟩
  rw [← yEC]; rfl
 ·have:=yabb h hk d1
  unfold yTl at this
  simp only [← yfO]at this
  exact this
end
section
def ypt:Code:=(Tryz.f113.body).getD .skip
def yv8:Env:=zj2 TT [(49,yKz),(150,ym),(209,yML),(210,yzB)] []
theorem yXU:FrOk Tryz.prog ⟨yv8,24,fun _=>none⟩ ypt:=zj6 yc yd ⟨y6M,yv,y8Y,yNg,trivial⟩
def yJD:Nat→Option Seg:=fun _=>none
def yc7:Shape:=⟨[(0,false,[.ptr 1000000000 0]),(4,false,[.ptr 0 0]),(5,false,[.ptr 4480 0]),(6,false,[.int .i64])],[(0,[.int .i64,.int .i64,.int .i64,.nil,.int .i64,.int .i64,.int .i64,.int .i64,.int .i64,.nil,.int .i64,.bool,.bool]),(4480,[.int .i64,.int .i64,.int .i64,.at 800000000,.int .i64,.int .i64,.int .i64,.int .i64,.int .i64,.at 800000001,.int .i64,.bool,.bool]),(1000000000,[.fz tY,.int .i64,.int .i64])],[(800000000,tM,(.pr (.ow .fz) (.pr (.ow (.pr .fz .fz)) (.pr .fz (.ow .fz))))),(800000001,tW,(.pr .fz .fz))]⟩
def yi2:Shape:=⟨[(0,false,[.ptr 1000000000 0]),(4,false,[.ptr 0 0]),(5,false,[.ptr 4480 0]),(6,false,[.int .i64])],[(0,[.int .i64,.int .i64,.int .i64,.nil,.int .i64,.int .i64,.int .i64,.int .i64,.int .i64,.nil,.int .i64,.bool,.bool]),(4480,[.int .i64,.int .i64,.int .i64,.at 800000000,.int .i64,.int .i64,.int .i64,.int .i64,.int .i64,.at 800000001,.int .i64,.bool,.bool]),(1000000000,[.fz tY,.int .i64,.int .i64])],[(800000000,tM,(.pr (.ow .fz) (.pr (.ow (.pr .fz .fz)) (.pr .fz (.ow .fz))))),(800000001,tW,(.pr .fz .fz))]⟩
def yiP:Shape:=⟨[(4,false,[.ptr 0 0]),(5,false,[.ptr 4480 0])],[(0,[.int .i64,.int .i64,.int .i64,.nil,.int .i64,.int .i64,.int .i64,.int .i64,.int .i64,.nil,.int .i64,.bool,.bool]),(4480,[.int .i64,.int .i64,.int .i64,.at 800000000,.int .i64,.int .i64,.int .i64,.int .i64,.int .i64,.at 800000001,.int .i64,.bool,.bool]),(1000000000,[.fz tY,.int .i64,.int .i64])],[(800000000,tM,(.pr (.ow .fz) (.pr (.ow (.pr .fz .fz)) (.pr .fz (.ow .fz))))),(800000001,tW,(.pr .fz .fz))]⟩
def yoy:Shape:=⟨[],[],[]⟩
abbrev yvr (v0:Int) (v1 v2:dA) (v3:dU):(yc7).X:=((((),()),((),()),((),()),(v0,()),()),((v1.1,v1.2.1.1,v1.2.1.2,(),v1.2.2.2.1,v1.2.2.2.2.1,v1.2.2.2.2.2.1,v1.2.2.2.2.2.2.1,v1.2.2.2.2.2.2.2.1,(),v1.2.2.2.2.2.2.2.2.2.1,v1.2.2.2.2.2.2.2.2.2.2.1,v1.2.2.2.2.2.2.2.2.2.2.2,()),(v2.1,v2.2.1.1,v2.2.1.2,(),v2.2.2.2.1,v2.2.2.2.2.1,v2.2.2.2.2.2.1,v2.2.2.2.2.2.2.1,v2.2.2.2.2.2.2.2.1,(),v2.2.2.2.2.2.2.2.2.2.1,v2.2.2.2.2.2.2.2.2.2.2.1,v2.2.2.2.2.2.2.2.2.2.2.2,()),(v3.1,v3.2.1,v3.2.2,()),()),(v2.2.2.1,v2.2.2.2.2.2.2.2.2.1,()))
abbrev yVa (v0:Int) (v1 v2:dA) (v3:dU):(yi2).X:=((((),()),((),()),((),()),(v0,()),()),((v1.1,v1.2.1.1,v1.2.1.2,(),v1.2.2.2.1,v1.2.2.2.2.1,v1.2.2.2.2.2.1,v1.2.2.2.2.2.2.1,v1.2.2.2.2.2.2.2.1,(),v1.2.2.2.2.2.2.2.2.2.1,v1.2.2.2.2.2.2.2.2.2.2.1,v1.2.2.2.2.2.2.2.2.2.2.2,()),(v2.1,v2.2.1.1,v2.2.1.2,(),v2.2.2.2.1,v2.2.2.2.2.1,v2.2.2.2.2.2.1,v2.2.2.2.2.2.2.1,v2.2.2.2.2.2.2.2.1,(),v2.2.2.2.2.2.2.2.2.2.1,v2.2.2.2.2.2.2.2.2.2.2.1,v2.2.2.2.2.2.2.2.2.2.2.2,()),(v3.1,v3.2.1,v3.2.2,()),()),(v2.2.2.1,v2.2.2.2.2.2.2.2.2.1,()))
abbrev yUZ (v0 v1:dA) (v2:dU):(yiP).X:=((((),()),((),()),()),((v0.1,v0.2.1.1,v0.2.1.2,(),v0.2.2.2.1,v0.2.2.2.2.1,v0.2.2.2.2.2.1,v0.2.2.2.2.2.2.1,v0.2.2.2.2.2.2.2.1,(),v0.2.2.2.2.2.2.2.2.2.1,v0.2.2.2.2.2.2.2.2.2.2.1,v0.2.2.2.2.2.2.2.2.2.2.2,()),(v1.1,v1.2.1.1,v1.2.1.2,(),v1.2.2.2.1,v1.2.2.2.2.1,v1.2.2.2.2.2.1,v1.2.2.2.2.2.2.1,v1.2.2.2.2.2.2.2.1,(),v1.2.2.2.2.2.2.2.2.2.1,v1.2.2.2.2.2.2.2.2.2.2.1,v1.2.2.2.2.2.2.2.2.2.2.2,()),(v2.1,v2.2.1,v2.2.2,()),()),(v1.2.2.1,v1.2.2.2.2.2.2.2.2.1,()))
def yvM (v0 v1 v2 v3 v4 v5 v6 v7 v8 v9:Int) (v10 v11:Bool) (v12 v13 v14 v15 v16 v17 v18 v19 v20:Int) (v21 v22:Bool) (v23:List Int) (v24 v25:Int) (v26:List dM) (v27:List dW):Option ((yc7).X ⊕ ((yiP).X ⊕ (yoy).X)) :=
 bif (ltb 0 v0) then
 bnd (yen (v23,v24,v25) (v12,(v13,v14),v26,v15,v16,v17,v18,v19,v27,v20,v21,v22)) fun r6 =>
 some (.inl ((((),()),((),()),((),()),((IntKind.i64.wrap (v0 - 1)),()),()),((v1,v2,v3,(),v4,v5,v6,v7,v8,(),v9,v10,v11,()),(r6.2.2.1.1,r6.2.2.1.2.1.1,r6.2.2.1.2.1.2,(),r6.2.2.1.2.2.2.1,r6.2.2.1.2.2.2.2.1,r6.2.2.1.2.2.2.2.2.1,r6.2.2.1.2.2.2.2.2.2.1,r6.2.2.1.2.2.2.2.2.2.2.1,(),r6.2.2.1.2.2.2.2.2.2.2.2.2.1,r6.2.2.1.2.2.2.2.2.2.2.2.2.2.1,r6.2.2.1.2.2.2.2.2.2.2.2.2.2.2,()),(r6.2.1.1,r6.2.1.2.1,r6.2.1.2.2,()),()),(r6.2.2.1.2.2.1,r6.2.2.1.2.2.2.2.2.2.2.2.1,())))
 else
 some (.inr (.inl ((((),()),((),()),()),((v1,v2,v3,(),v4,v5,v6,v7,v8,(),v9,v10,v11,()),(v12,v13,v14,(),v15,v16,v17,v18,v19,(),v20,v21,v22,()),(v23,v24,v25,()),()),(v26,v27,()))))
def ydH (x:(yc7).X):=yvM x.1.2.2.2.1.1 x.2.1.1.1 x.2.1.1.2.1 x.2.1.1.2.2.1 x.2.1.1.2.2.2.2.1 x.2.1.1.2.2.2.2.2.1 x.2.1.1.2.2.2.2.2.2.1 x.2.1.1.2.2.2.2.2.2.2.1 x.2.1.1.2.2.2.2.2.2.2.2.1 x.2.1.1.2.2.2.2.2.2.2.2.2.2.1 x.2.1.1.2.2.2.2.2.2.2.2.2.2.2.1 x.2.1.1.2.2.2.2.2.2.2.2.2.2.2.2.1 x.2.1.2.1.1 x.2.1.2.1.2.1 x.2.1.2.1.2.2.1 x.2.1.2.1.2.2.2.2.1 x.2.1.2.1.2.2.2.2.2.1 x.2.1.2.1.2.2.2.2.2.2.1 x.2.1.2.1.2.2.2.2.2.2.2.1 x.2.1.2.1.2.2.2.2.2.2.2.2.1 x.2.1.2.1.2.2.2.2.2.2.2.2.2.2.1 x.2.1.2.1.2.2.2.2.2.2.2.2.2.2.2.1 x.2.1.2.1.2.2.2.2.2.2.2.2.2.2.2.2.1 x.2.1.2.2.1.1 x.2.1.2.2.1.2.1 x.2.1.2.2.1.2.2.1 x.2.2.1 x.2.2.2.1
def yFQ (x:(yi2).X):(yc7).X:=((((),()),((),()),((),()),(x.1.2.2.2.1.1,()),()),((x.2.1.1.1,x.2.1.1.2.1,x.2.1.1.2.2.1,(),x.2.1.1.2.2.2.2.1,x.2.1.1.2.2.2.2.2.1,x.2.1.1.2.2.2.2.2.2.1,x.2.1.1.2.2.2.2.2.2.2.1,x.2.1.1.2.2.2.2.2.2.2.2.1,(),x.2.1.1.2.2.2.2.2.2.2.2.2.2.1,x.2.1.1.2.2.2.2.2.2.2.2.2.2.2.1,x.2.1.1.2.2.2.2.2.2.2.2.2.2.2.2.1,()),(x.2.1.2.1.1,x.2.1.2.1.2.1,x.2.1.2.1.2.2.1,(),x.2.1.2.1.2.2.2.2.1,x.2.1.2.1.2.2.2.2.2.1,x.2.1.2.1.2.2.2.2.2.2.1,x.2.1.2.1.2.2.2.2.2.2.2.1,x.2.1.2.1.2.2.2.2.2.2.2.2.1,(),x.2.1.2.1.2.2.2.2.2.2.2.2.2.2.1,x.2.1.2.1.2.2.2.2.2.2.2.2.2.2.2.1,x.2.1.2.1.2.2.2.2.2.2.2.2.2.2.2.2.1,()),(x.2.1.2.2.1.1,x.2.1.2.2.1.2.1,x.2.1.2.2.1.2.2.1,()),()),(x.2.2.1,x.2.2.2.1,()))
def yHm:Code:=(zdD ypt 64 116).getD .skip
theorem yWX:zdD ypt 64 29=some (.block 0 (.loop yHm)):=by kernel_rfl
theorem y0a (x:(yc7).X):zg0 ⟨yv8,24,yJD⟩ 0 yHm 116 yc7 yiP yoy x=ydH x:=by kernel_rfl
def yF3 (x:(yi2).X):Nat:=18446744073709551616
def yxf (x:(yi2).X):Option ((yiP).X ⊕ (yoy).X):=zz ydH (yF3 x) (yFQ x)
def yGl:Seg:=⟨yi2,yiP,yoy,yxf⟩
def yJE:Nat→Option Seg:=fun q=>bif Nat.beq q 29 then some yGl else yJD q
theorem yXV:FrOk Tryz.prog ⟨yv8,24,yJE⟩ ypt:=(yXU).loop (sg:=yGl) yc7 yFQ (by decide) yWX ydH yF3 (by decide) (fun _=>rfl) (fun x r _ h=>h) y0a
abbrev ypS:List Par:= [.pt tU .fz,.rd tI]
abbrev ywL:List OT:= [⟨false,tA,(.pr .fz (.pr (.pr .fz .fz) (.pr (.ow (.pr (.ow .fz) (.pr (.ow (.pr .fz .fz)) (.pr .fz (.ow .fz))))) (.pr .fz (.pr .fz (.pr .fz (.pr .fz (.pr .fz (.pr (.ow (.pr .fz .fz)) (.pr .fz (.pr .fz .fz)))))))))))⟩]
def ycs (a0:dU) (a1:Int):Option (ResD ywL×MutD ypS) :=
 bnd (yb a0 2) fun r1 =>
 bnd (yiv r1.2.1) fun r2 =>
 let r3:=yqc (IntKind.i64.wrap (1+r1.1.1)) r2.1.1
 bnd (yb r2.2.1 (IntKind.i64.wrap (a1+1))) fun r4 =>
 zjY (yxf ((((),()),((),()),((),()),(r4.1.1,()),()),((0,0,0,(),0,0,0,0,0,(),0,false,false,()),(r3.1,r3.2.1.1,r3.2.1.2,(),r3.2.2.2.1,r3.2.2.2.2.1,r3.2.2.2.2.2.1,r3.2.2.2.2.2.2.1,r3.2.2.2.2.2.2.2.1,(),r3.2.2.2.2.2.2.2.2.2.1,r3.2.2.2.2.2.2.2.2.2.2.1,r3.2.2.2.2.2.2.2.2.2.2.2,()),(r4.2.1.1,r4.2.1.2.1,r4.2.1.2.2,()),()),(r3.2.2.1,r3.2.2.2.2.2.2.2.2.1,()))) (fun y6 =>
 some (((y6.2.1.2.1.1,(y6.2.1.2.1.2.1,y6.2.1.2.1.2.2.1),y6.2.2.1,y6.2.1.2.1.2.2.2.2.1,y6.2.1.2.1.2.2.2.2.2.1,y6.2.1.2.1.2.2.2.2.2.2.1,y6.2.1.2.1.2.2.2.2.2.2.2.1,y6.2.1.2.1.2.2.2.2.2.2.2.2.1,y6.2.2.2.1,y6.2.1.2.1.2.2.2.2.2.2.2.2.2.2.1,y6.2.1.2.1.2.2.2.2.2.2.2.2.2.2.2.1,y6.2.1.2.1.2.2.2.2.2.2.2.2.2.2.2.2.1),()),((y6.2.1.2.2.1.1,y6.2.1.2.2.1.2.1,y6.2.1.2.2.1.2.2.1),()))) (fun y6 =>
 none)
theorem y8i (x:InD ypS):zjw ⟨yv8,24,yJE⟩ Tryz.f113.results.toList ypt ypS ywL x=ycs x.1 x.2.1:=by kernel_rfl
theorem y3J:ConOk Tryz.prog 113 ⟨ypS,ywL,fun x=>ycs x.1 x.2.1⟩:=zj1 (yXV) Tryz.func113 (by kernel_rfl) (by kernel_rfl) Tryz.ntmps113.symm (by decide) (fun x r h=>(y8i x).trans h)
def yzA:Con:=⟨ypS,ywL,fun x=>ycs x.1 x.2.1⟩
theorem yNf:ConOk Tryz.prog 113 yzA:=y3J
theorem y7l {P:Int→dA→Prop} {K:Int} (hP: ∀ k a,P k a→ydt a∧yH a) (hT: ∀ k a b,P k a→Turned a b→k+16≤K→P (k+16) b): ∀ (n:Nat) (k:Int) (a:dA) (u:dU) (fuel:Nat),n < fuel→n≤1000→yA u→P k a→k+16 * n≤K →
  ∃ (a':dA) (u':dU),zz ydH fuel (yvr n yK a u)=some (.inl (yUZ yK a' u'))∧yA u'∧P (k+16 * n) a'
 | 0,k,a,u,fuel+1,_,_,hu,h,_=>⟨a,u,by simp only [zz,ydH,yvr,yvM]; rfl,hu,by rw [show k+16 * ((0:Nat):Int)=k by omega]; exact h⟩
 | n+1,k,a,u,fuel+1,hf,hn,hu,h,hk=>by
  obtain ⟨hc,hkp⟩:=hP k a h
  obtain ⟨u1,a1,e1,d1,h1⟩:=yaaI u a hu hc hkp
  obtain ⟨a',u',e2,d2,h2⟩:=y7l hP hT n (k+16) a1 u1 fuel (by omega) (by omega) d1 (hT k a a1 h h1 (by omega)) (by omega)
  refine ⟨a',u',?_,d2,by rw [show k+16 * ((n+1:Nat):Int)=k+16+16 * (n:Int) by omega]; exact h2⟩
  rw [← e2,zz]
  simp only [ydH,yvr,yvM,zj4 (show (0:Int) < ((n+1:Nat):Int) by omega),cond_true,zkr,e1,zkc,show ((n+1:Nat):Int) - 1=(n:Int) by omega,wr (show -9223372036854775808≤(n:Int) by omega) (by omega)]
theorem yaaV {P:Int→dA→Prop} {K:Int} (hP: ∀ k a,P k a→ydt a∧yH a) (hT: ∀ k a b,P k a→Turned a b→k+16≤K→P (k+16) b) (h0P: ∀ id g,yf g=true→1≤id→id≤60000→P 0 (yCX id g))
  (u:dU) (most:Int) (h:yA u) (h0:0≤most) (h1:most≤1000) (hm:16 * most≤K): ∃ (a:dA) (u':dU) (k:Int),ycs u most=some ((a,()),(u',()))∧P k a∧k≤16 * most∧yA u':=by
 obtain ⟨r1,u1,e1,q1,d1⟩:=yp u 2 h
 obtain ⟨g,u2,e2,q2,d2⟩:=yabV u1 d1
 obtain ⟨r3,u3,e3,q3,d3⟩:=yp u2 (most+1) d2
 have:=q1.1; have:=q1.2.1 (by omega); have:=q3.1; have:=q3.2.1 (by omega)
 have hn:=h0P (1+r1) g q2 (by omega) (by omega)
 obtain ⟨a',u',e4,d4,h4⟩:=y7l hP hT r3.toNat 0 (yCX (1+r1) g) u3 18446744073709551616 (by omega) (by omega) d3 hn (by omega)
 rw [show ((r3.toNat:Nat):Int)=r3 by omega]at e4
 unfold ycs
 simp only [e1,e2,zkc,wr (show -9223372036854775808≤most+1 by omega) (by omega),e3,wr (show -9223372036854775808≤1+r1 by omega) (by omega),yqc]
 refine ⟨a',u',_,?_,h4,by omega,d4⟩
 exact (congrArg (fun z=>zjY z _ _) (show yxf (yVa r3 yK (yCX (1+r1) g) u3)=_ from e4)).trans rfl
theorem y7k (u:dU) (most:Int) (h:yA u) (h0:0≤most) (h1:most≤1000): ∃ (a:dA) (u':dU),ycs u most=some ((a,()),(u',()))∧Wk 16000 a∧yA u':=by
 obtain ⟨a,u',k,e,q,hk,d⟩:=yaaV (P:=fun k a=>Wk k a∧k≤16000) (K:=16000) (fun k a h=>⟨h.1.1,h.1.2.1⟩) (fun k a b h ht hk=>⟨yeI (yabH h.1 ht (by omega)) (by omega),by omega⟩) (fun id g h1 h2 h3=>⟨yacF h1 h2 h3,by omega⟩) u most h h0 h1 (by omega)
 exact ⟨a,u',e,yeI q.1 (by omega),d⟩
end
section
def ykc:Code:=(Tryz.f162.body).getD .skip
def yre:Env:=zj2 TT [(113,yzA),(124,yae),(150,ym),(210,yzB)] []
theorem ySa:FrOk Tryz.prog ⟨yre,29,fun _=>none⟩ ykc:=zj6 yc yd ⟨yNf,yaQ,yv,yNg,trivial⟩
def yE2:Nat→Option Seg:=fun _=>none
def ybF:Shape:=⟨[(0,false,[.ptr 1000000000 0]),(4,false,[.ptr 0 0]),(5,false,[.ptr 4288 0]),(6,false,[.int .i64])],[(0,[.int .i64,.int .i64,.int .i64,.nil,.int .i64,.int .i64,.int .i64,.int .i64,.int .i64,.nil,.int .i64,.bool,.bool]),(4288,[.int .i64,.int .i64,.int .i64,.at 800000000,.int .i64,.int .i64,.int .i64,.int .i64,.int .i64,.at 800000001,.int .i64,.bool,.bool]),(1000000000,[.fz tY,.int .i64,.int .i64])],[(800000000,tM,(.pr (.ow .fz) (.pr (.ow (.pr .fz .fz)) (.pr .fz (.ow .fz))))),(800000001,tW,(.pr .fz .fz))]⟩
def ygm:Shape:=⟨[(0,false,[.ptr 1000000000 0]),(4,false,[.ptr 0 0]),(5,false,[.ptr 4288 0]),(6,false,[.int .i64])],[(0,[.int .i64,.int .i64,.int .i64,.nil,.int .i64,.int .i64,.int .i64,.int .i64,.int .i64,.nil,.int .i64,.bool,.bool]),(4288,[.int .i64,.int .i64,.int .i64,.at 800000000,.int .i64,.int .i64,.int .i64,.int .i64,.int .i64,.at 800000001,.int .i64,.bool,.bool]),(1000000000,[.fz tY,.int .i64,.int .i64])],[(800000000,tM,(.pr (.ow .fz) (.pr (.ow (.pr .fz .fz)) (.pr .fz (.ow .fz))))),(800000001,tW,(.pr .fz .fz))]⟩
def ygb:Shape:=⟨[(4,false,[.ptr 0 0]),(5,false,[.ptr 4288 0])],[(0,[.int .i64,.int .i64,.int .i64,.nil,.int .i64,.int .i64,.int .i64,.int .i64,.int .i64,.nil,.int .i64,.bool,.bool]),(4288,[.int .i64,.int .i64,.int .i64,.at 800000000,.int .i64,.int .i64,.int .i64,.int .i64,.int .i64,.at 800000001,.int .i64,.bool,.bool]),(1000000000,[.fz tY,.int .i64,.int .i64])],[(800000000,tM,(.pr (.ow .fz) (.pr (.ow (.pr .fz .fz)) (.pr .fz (.ow .fz))))),(800000001,tW,(.pr .fz .fz))]⟩
def ylk:Shape:=⟨[],[],[]⟩
abbrev ycu (v0:Int) (v1 v2:dA) (v3:dU):(ybF).X:=((((),()),((),()),((),()),(v0,()),()),((v1.1,v1.2.1.1,v1.2.1.2,(),v1.2.2.2.1,v1.2.2.2.2.1,v1.2.2.2.2.2.1,v1.2.2.2.2.2.2.1,v1.2.2.2.2.2.2.2.1,(),v1.2.2.2.2.2.2.2.2.2.1,v1.2.2.2.2.2.2.2.2.2.2.1,v1.2.2.2.2.2.2.2.2.2.2.2,()),(v2.1,v2.2.1.1,v2.2.1.2,(),v2.2.2.2.1,v2.2.2.2.2.1,v2.2.2.2.2.2.1,v2.2.2.2.2.2.2.1,v2.2.2.2.2.2.2.2.1,(),v2.2.2.2.2.2.2.2.2.2.1,v2.2.2.2.2.2.2.2.2.2.2.1,v2.2.2.2.2.2.2.2.2.2.2.2,()),(v3.1,v3.2.1,v3.2.2,()),()),(v2.2.2.1,v2.2.2.2.2.2.2.2.2.1,()))
abbrev yQd (v0:Int) (v1 v2:dA) (v3:dU):(ygm).X:=((((),()),((),()),((),()),(v0,()),()),((v1.1,v1.2.1.1,v1.2.1.2,(),v1.2.2.2.1,v1.2.2.2.2.1,v1.2.2.2.2.2.1,v1.2.2.2.2.2.2.1,v1.2.2.2.2.2.2.2.1,(),v1.2.2.2.2.2.2.2.2.2.1,v1.2.2.2.2.2.2.2.2.2.2.1,v1.2.2.2.2.2.2.2.2.2.2.2,()),(v2.1,v2.2.1.1,v2.2.1.2,(),v2.2.2.2.1,v2.2.2.2.2.1,v2.2.2.2.2.2.1,v2.2.2.2.2.2.2.1,v2.2.2.2.2.2.2.2.1,(),v2.2.2.2.2.2.2.2.2.2.1,v2.2.2.2.2.2.2.2.2.2.2.1,v2.2.2.2.2.2.2.2.2.2.2.2,()),(v3.1,v3.2.1,v3.2.2,()),()),(v2.2.2.1,v2.2.2.2.2.2.2.2.2.1,()))
abbrev yP2 (v0 v1:dA) (v2:dU):(ygb).X:=((((),()),((),()),()),((v0.1,v0.2.1.1,v0.2.1.2,(),v0.2.2.2.1,v0.2.2.2.2.1,v0.2.2.2.2.2.1,v0.2.2.2.2.2.2.1,v0.2.2.2.2.2.2.2.1,(),v0.2.2.2.2.2.2.2.2.2.1,v0.2.2.2.2.2.2.2.2.2.2.1,v0.2.2.2.2.2.2.2.2.2.2.2,()),(v1.1,v1.2.1.1,v1.2.1.2,(),v1.2.2.2.1,v1.2.2.2.2.1,v1.2.2.2.2.2.1,v1.2.2.2.2.2.2.1,v1.2.2.2.2.2.2.2.1,(),v1.2.2.2.2.2.2.2.2.2.1,v1.2.2.2.2.2.2.2.2.2.2.1,v1.2.2.2.2.2.2.2.2.2.2.2,()),(v2.1,v2.2.1,v2.2.2,()),()),(v1.2.2.1,v1.2.2.2.2.2.2.2.2.1,()))
def yfh (v0 v1 v2 v3 v4 v5 v6 v7 v8 v9:Int) (v10 v11:Bool) (v12 v13 v14 v15 v16 v17 v18 v19 v20:Int) (v21 v22:Bool) (v23:List Int) (v24 v25:Int) (v26:List dM) (v27:List dW):Option ((ybF).X ⊕ ((ygb).X ⊕ (ylk).X)) :=
 bif (ltb 0 v0) then
 bif (!v21) then
 bnd (yen (v23,v24,v25) (v12,(v13,v14),v26,v15,v16,v17,v18,v19,v27,v20,v21,v22)) fun r5 =>
 some (.inl ((((),()),((),()),((),()),((IntKind.i64.wrap (v0 - 1)),()),()),((v1,v2,v3,(),v4,v5,v6,v7,v8,(),v9,v10,v11,()),(r5.2.2.1.1,r5.2.2.1.2.1.1,r5.2.2.1.2.1.2,(),r5.2.2.1.2.2.2.1,r5.2.2.1.2.2.2.2.1,r5.2.2.1.2.2.2.2.2.1,r5.2.2.1.2.2.2.2.2.2.1,r5.2.2.1.2.2.2.2.2.2.2.1,(),r5.2.2.1.2.2.2.2.2.2.2.2.2.1,r5.2.2.1.2.2.2.2.2.2.2.2.2.2.1,r5.2.2.1.2.2.2.2.2.2.2.2.2.2.2,()),(r5.2.1.1,r5.2.1.2.1,r5.2.1.2.2,()),()),(r5.2.2.1.2.2.1,r5.2.2.1.2.2.2.2.2.2.2.2.1,())))
 else
 some (.inr (.inl ((((),()),((),()),()),((v1,v2,v3,(),v4,v5,v6,v7,v8,(),v9,v10,v11,()),(v12,v13,v14,(),v15,v16,v17,v18,v19,(),v20,v21,v22,()),(v23,v24,v25,()),()),(v26,v27,()))))
 else
 some (.inr (.inl ((((),()),((),()),()),((v1,v2,v3,(),v4,v5,v6,v7,v8,(),v9,v10,v11,()),(v12,v13,v14,(),v15,v16,v17,v18,v19,(),v20,v21,v22,()),(v23,v24,v25,()),()),(v26,v27,()))))
def yW (x:(ybF).X):=yfh x.1.2.2.2.1.1 x.2.1.1.1 x.2.1.1.2.1 x.2.1.1.2.2.1 x.2.1.1.2.2.2.2.1 x.2.1.1.2.2.2.2.2.1 x.2.1.1.2.2.2.2.2.2.1 x.2.1.1.2.2.2.2.2.2.2.1 x.2.1.1.2.2.2.2.2.2.2.2.1 x.2.1.1.2.2.2.2.2.2.2.2.2.2.1 x.2.1.1.2.2.2.2.2.2.2.2.2.2.2.1 x.2.1.1.2.2.2.2.2.2.2.2.2.2.2.2.1 x.2.1.2.1.1 x.2.1.2.1.2.1 x.2.1.2.1.2.2.1 x.2.1.2.1.2.2.2.2.1 x.2.1.2.1.2.2.2.2.2.1 x.2.1.2.1.2.2.2.2.2.2.1 x.2.1.2.1.2.2.2.2.2.2.2.1 x.2.1.2.1.2.2.2.2.2.2.2.2.1 x.2.1.2.1.2.2.2.2.2.2.2.2.2.2.1 x.2.1.2.1.2.2.2.2.2.2.2.2.2.2.2.1 x.2.1.2.1.2.2.2.2.2.2.2.2.2.2.2.2.1 x.2.1.2.2.1.1 x.2.1.2.2.1.2.1 x.2.1.2.2.1.2.2.1 x.2.2.1 x.2.2.2.1
def yBi (x:(ygm).X):(ybF).X:=((((),()),((),()),((),()),(x.1.2.2.2.1.1,()),()),((x.2.1.1.1,x.2.1.1.2.1,x.2.1.1.2.2.1,(),x.2.1.1.2.2.2.2.1,x.2.1.1.2.2.2.2.2.1,x.2.1.1.2.2.2.2.2.2.1,x.2.1.1.2.2.2.2.2.2.2.1,x.2.1.1.2.2.2.2.2.2.2.2.1,(),x.2.1.1.2.2.2.2.2.2.2.2.2.2.1,x.2.1.1.2.2.2.2.2.2.2.2.2.2.2.1,x.2.1.1.2.2.2.2.2.2.2.2.2.2.2.2.1,()),(x.2.1.2.1.1,x.2.1.2.1.2.1,x.2.1.2.1.2.2.1,(),x.2.1.2.1.2.2.2.2.1,x.2.1.2.1.2.2.2.2.2.1,x.2.1.2.1.2.2.2.2.2.2.1,x.2.1.2.1.2.2.2.2.2.2.2.1,x.2.1.2.1.2.2.2.2.2.2.2.2.1,(),x.2.1.2.1.2.2.2.2.2.2.2.2.2.2.1,x.2.1.2.1.2.2.2.2.2.2.2.2.2.2.2.1,x.2.1.2.1.2.2.2.2.2.2.2.2.2.2.2.2.1,()),(x.2.1.2.2.1.1,x.2.1.2.2.1.2.1,x.2.1.2.2.1.2.2.1,()),()),(x.2.2.1,x.2.2.2.1,()))
def yDa:Code:=(zdD ykc 64 244).getD .skip
theorem yRi:zdD ykc 64 61=some (.block 0 (.loop yDa)):=by kernel_rfl
theorem yTg (x:(ybF).X):zg0 ⟨yre,29,yE2⟩ 0 yDa 244 ybF ygb ylk x=yW x:=by kernel_rfl
def yBu (x:(ygm).X):Nat:=18446744073709551616
def ysM (x:(ygm).X):Option ((ygb).X ⊕ (ylk).X):=zz yW (yBu x) (yBi x)
def yBM:Seg:=⟨ygm,ygb,ylk,ysM⟩
def yE3:Nat→Option Seg:=fun q=>bif Nat.beq q 61 then some yBM else yE2 q
theorem ySb:FrOk Tryz.prog ⟨yre,29,yE3⟩ ykc:=(ySa).loop (sg:=yBM) ybF yBi (by decide) yRi yW yBu (by decide) (fun _=>rfl) (fun x r _ h=>h) yTg
abbrev ykp:List Par:= [.pt tU .fz,.rd tI]
abbrev yrH:List OT:= [⟨false,tA,(.pr .fz (.pr (.pr .fz .fz) (.pr (.ow (.pr (.ow .fz) (.pr (.ow (.pr .fz .fz)) (.pr .fz (.ow .fz))))) (.pr .fz (.pr .fz (.pr .fz (.pr .fz (.pr .fz (.pr (.ow (.pr .fz .fz)) (.pr .fz (.pr .fz .fz)))))))))))⟩]
def ycn (a0:dU) (a1:Int):Option (ResD yrH×MutD ykp) :=
 bnd (ycs a0 a1) fun r1 =>
 bnd (yn r1.2.1 ([(-1),0,1,2,3,4,6,8,11,15,20]:List Int)) fun r2 =>
 bnd (yb r2.2.1 3) fun r3 =>
 zjY (ysM ((((),()),((),()),((),()),((IntKind.i64.wrap (1+r3.1.1)),()),()),((0,0,0,(),0,0,0,0,0,(),0,false,false,()),(r1.1.1.1,r1.1.1.2.1.1,r1.1.1.2.1.2,(),r1.1.1.2.2.2.1,r1.1.1.2.2.2.2.1,r1.1.1.2.2.2.2.2.1,r1.1.1.2.2.2.2.2.2.1,r1.1.1.2.2.2.2.2.2.2.1,(),r2.1.1,r1.1.1.2.2.2.2.2.2.2.2.2.2.1,r1.1.1.2.2.2.2.2.2.2.2.2.2.2,()),(r3.2.1.1,r3.2.1.2.1,r3.2.1.2.2,()),()),(r1.1.1.2.2.1,r1.1.1.2.2.2.2.2.2.2.2.1,()))) (fun y5 =>
 some (((y5.2.1.2.1.1,(y5.2.1.2.1.2.1,y5.2.1.2.1.2.2.1),y5.2.2.1,y5.2.1.2.1.2.2.2.2.1,y5.2.1.2.1.2.2.2.2.2.1,y5.2.1.2.1.2.2.2.2.2.2.1,y5.2.1.2.1.2.2.2.2.2.2.2.1,y5.2.1.2.1.2.2.2.2.2.2.2.2.1,y5.2.2.2.1,y5.2.1.2.1.2.2.2.2.2.2.2.2.2.2.1,y5.2.1.2.1.2.2.2.2.2.2.2.2.2.2.2.1,y5.2.1.2.1.2.2.2.2.2.2.2.2.2.2.2.2.1),()),((y5.2.1.2.2.1.1,y5.2.1.2.2.1.2.1,y5.2.1.2.2.1.2.2.1),()))) (fun y5 =>
 none)
theorem y1F (x:InD ykp):zjw ⟨yre,29,yE3⟩ Tryz.f162.results.toList ykc ykp yrH x=ycn x.1 x.2.1:=by kernel_rfl
theorem yVQ:ConOk Tryz.prog 162 ⟨ykp,yrH,fun x=>ycn x.1 x.2.1⟩:=zj1 (ySb) Tryz.func162 (by kernel_rfl) (by kernel_rfl) Tryz.ntmps162.symm (by decide) (fun x r h=>(y1F x).trans h)
def yvk:Con:=⟨ykp,yrH,fun x=>ycn x.1 x.2.1⟩
theorem yIC:ConOk Tryz.prog 162 yvk:=yVQ
theorem yPm: ∀ (n:Nat) (k:Int) (a:dA) (u:dU) (fuel:Nat),n < fuel→n≤1000→yA u→Cw k a→yH a→ye a=false→k+8 * n+8≤60000 →
  ∃ (a':dA) (u':dU),zz yW fuel (ycu n yK a u)=some (.inl (yP2 yK a' u'))∧yA u'∧(Nie 9 a'∧Sec2 a')∧(a'.2.2.1.length:Int)=a.2.1.1
 | 0,k,a,u,fuel+1,_,_,hu,h,hkp,hd,_=>⟨a,u,by simp only [zz,yW,ycu,yfh]; rfl,hu,⟨yIo (yaaN (yBV.2 ⟨h.1,hkp⟩)) (by omega),yWu (yBV.2 ⟨h.1,hkp⟩) .same⟩,hkp.1.2⟩
 | n+1,k,a,u,fuel+1,hf,hn,hu,h,hkp,hda,hk=>by
  have ha:=yBV.2 ⟨h.1,hkp⟩
  obtain ⟨u1,a1,e1,d1,h1⟩:=yaaI u a hu h.1 hkp
  have h9:=And.intro (yaa7 ha h1) (yWu ha h1)
  have hl1:(a1.2.2.1.length:Int)=a.2.1.1:=by rw [← hkp.1.2]; exact congrArg _ (yabc ha h1)
  rcases Bool.eq_false_or_eq_true (ye a1) with hd | hd
  ·refine ⟨a1,u1,?_,d1,h9,hl1⟩
   rw [zz]
   simp only [yW,ycu,yfh,zj4 (show (0:Int) < ((n+1:Nat):Int) by omega),cond_true,zkr,show ((n+1:Nat):Int) - 1=(n:Int) by omega,wr (show -9223372036854775808≤(n:Int) by omega) (by omega)]
   rw [y9c (show a.2.2.2.2.2.2.2.2.2.2.1=false from hda),e1,zkc]
   simp only [zkr]
   obtain ⟨fuel,rfl⟩: ∃ m,fuel=m+1:=⟨fuel - 1,by omega⟩
   show zz yW (fuel+1) (ycu n yK a1 u1)=_
   rw [zz]
   simp only [yW,ycu,yfh,zkr]
   cases ltb 0 ((n:Nat):Int)
   ·rfl
   ·rw [cond_true,yabi (show a1.2.2.2.2.2.2.2.2.2.2.1=true from hd)]
  ·obtain ⟨a',u',e2,d2,g2,g3⟩:=yPm n (k+8) a1 u1 fuel (by omega) (by omega) d1 (yabl h hkp h1 (by omega)) (yWs hkp h.1.1 h1) hd (by omega)
   refine ⟨a',u',?_,d2,g2,by rw [g3,y4w h1]⟩
   rw [← e2,zz]
   simp only [yW,ycu,yfh,zj4 (show (0:Int) < ((n+1:Nat):Int) by omega),cond_true,zkr,show ((n+1:Nat):Int) - 1=(n:Int) by omega,wr (show -9223372036854775808≤(n:Int) by omega) (by omega)]
   rw [y9c (show a.2.2.2.2.2.2.2.2.2.2.1=false from hda),e1,zkc]
theorem yWo (u:dU) (most:Int) (h:yA u) (h0:0≤most) (h1:most≤12): ∃ (a:dA) (u':dU),ycn u most=some ((a,()),(u',()))∧(Nie 9 a∧Sec2 a)∧3≤a.2.2.1.length∧yA u':=by
 obtain ⟨a,u1,e1,⟨w1,w2,w3,w4,w5⟩,d1⟩:=y7k u most h h0 (by omega)
 obtain ⟨x,u2,e2,q3,d2⟩:=yfe u1 [(-1),0,1,2,3,4,6,8,11,15,20] d1 (by simp)
 obtain ⟨r,u3,e3,q4,d3⟩:=yp u2 3 d2
 simp only [List.mem_cons,List.not_mem_nil,or_false]at q3
 have:=q4.1; have:=q4.2.1 (by omega)
 have hg:=yk.1 w1.1
 have hcw:Cw 16000 (yAy a x false):=yB6 (a:=a) rfl ⟨w1,w4,w5⟩
 have hkp:yH (yAy a x false):=⟨w2.1,by show -1≤x; omega,by show x≤1000; omega⟩
 obtain ⟨a',u',e4,d4,g1,g2⟩:=yPm (1+r).toNat 16000 (yAy a x false) u3 18446744073709551616 (by omega) (by omega) d3 hcw hkp rfl (by omega)
 rw [show (((1+r).toNat:Nat):Int)=1+r by omega]at e4
 unfold ycn
 simp only [e1,e2,e3,zkc,wr (show -9223372036854775808≤1+r by omega) (by omega)]
 refine ⟨a',u',?_,g1,by have g2':(a'.2.2.1.length:Int)=a.2.1.1:=g2; omega,d4⟩
 have hu:yAy a x false=(a.1,a.2.1,a.2.2.1,a.2.2.2.1,a.2.2.2.2.1,a.2.2.2.2.2.1,a.2.2.2.2.2.2.1,a.2.2.2.2.2.2.2.1,a.2.2.2.2.2.2.2.2.1,x,a.2.2.2.2.2.2.2.2.2.2.1,a.2.2.2.2.2.2.2.2.2.2.2):=by
  unfold yAy
  rw [show a.2.2.2.2.2.2.2.2.2.2.1=false from w3.1]
 rw [hu]at e4
 exact (congrArg (fun z=>zjY z _ _) (show ysM (yQd (1+r) yK (a.1,a.2.1,a.2.2.1,a.2.2.2.1,a.2.2.2.2.1,a.2.2.2.2.2.1,a.2.2.2.2.2.2.1,a.2.2.2.2.2.2.2.1,a.2.2.2.2.2.2.2.2.1,x,a.2.2.2.2.2.2.2.2.2.2.1,a.2.2.2.2.2.2.2.2.2.2.2) u3)=_ from e4)).trans rfl
end
section
def ysu:Code:=(Tryz.f213.body).getD .skip
def yyB:Env:=zj2 TT [(115,yzy),(150,ym)] []
theorem y2d:FrOk Tryz.prog ⟨yyB,18,fun _=>none⟩ ysu:=zj6 yc yd ⟨yNd,yv,trivial⟩
def yL8:Nat→Option Seg:=fun _=>none
def yd0:Shape:=⟨[(0,false,[.ptr 1000000000 0]),(3,false,[.at 800000000]),(4,false,[.int .i64])],[(1000000000,[.fz tY,.int .i64,.int .i64])],[(800000000,tI,.fz)]⟩
def ykO:Shape:=⟨[(0,false,[.ptr 1000000000 0]),(3,false,[.at 800000000]),(4,false,[.int .i64])],[(1000000000,[.fz tY,.int .i64,.int .i64])],[(800000000,tI,.fz)]⟩
def ykz:Shape:=⟨[(3,false,[.at 800000000])],[(1000000000,[.fz tY,.int .i64,.int .i64])],[(800000000,tI,.fz)]⟩
def yrL:Shape:=⟨[],[],[]⟩
abbrev yxC (v0:Int) (v1:dU) (v2:List Int):(yd0).X:=((((),()),((),()),(v0,()),()),((v1.1,v1.2.1,v1.2.2,()),()),(v2,()))
abbrev yYu (v0:Int) (v1:dU) (v2:List Int):(ykO).X:=((((),()),((),()),(v0,()),()),((v1.1,v1.2.1,v1.2.2,()),()),(v2,()))
abbrev yYj (v0:dU) (v1:List Int):(ykz).X:=((((),()),()),((v0.1,v0.2.1,v0.2.2,()),()),(v1,()))
def yx4 (v0:Int) (v1:List Int) (v2 v3:Int) (v4:List Int):Option ((yd0).X ⊕ ((ykz).X ⊕ (yrL).X)) :=
 bif (ltb 0 v0) then
 bnd (yak (v1,v2,v3)) fun r3 =>
 bif (zjQ v4.length ([r3.1.1]:List Int).length 8) then
 some (.inl ((((),()),((),()),((IntKind.i64.wrap (v0 - 1)),()),()),((r3.2.1.1,r3.2.1.2.1,r3.2.1.2.2,()),()),((v4++([r3.1.1]:List Int)),())))
 else none
 else
 some (.inr (.inl ((((),()),()),((v1,v2,v3,()),()),(v4,()))))
def yeC (x:(yd0).X):=yx4 x.1.2.2.1.1 x.2.1.1.1 x.2.1.1.2.1 x.2.1.1.2.2.1 x.2.2.1
def yHR (x:(ykO).X):(yd0).X:=((((),()),((),()),(x.1.2.2.1.1,()),()),((x.2.1.1.1,x.2.1.1.2.1,x.2.1.1.2.2.1,()),()),(x.2.2.1,()))
def yKl:Code:=(zdD ysu 64 116).getD .skip
theorem y0Y:zdD ysu 64 29=some (.block 0 (.loop yKl)):=by kernel_rfl
theorem y4o (x:(yd0).X):zg0 ⟨yyB,18,yL8⟩ 0 yKl 116 yd0 ykz yrL x=yeC x:=by kernel_rfl
def yH7 (x:(ykO).X):Nat:=18446744073709551616
def yyQ (x:(ykO).X):Option ((ykz).X ⊕ (yrL).X):=zz yeC (yH7 x) (yHR x)
def yIS:Seg:=⟨ykO,ykz,yrL,yyQ⟩
def yL9:Nat→Option Seg:=fun q=>bif Nat.beq q 29 then some yIS else yL8 q
theorem y2e:FrOk Tryz.prog ⟨yyB,18,yL9⟩ ysu:=(y2d).loop (sg:=yIS) yd0 yHR (by decide) y0Y yeC yH7 (by decide) (fun _=>rfl) (fun x r _ h=>h) y4o
abbrev ysV:List Par:= [.pt tU .fz]
abbrev yzc:List OT:= [⟨false,tL,(.ow .fz)⟩]
def ydz (a0:dU):Option (ResD yzc×MutD ysV) :=
 bnd (yb a0 5) fun r1 =>
 zjY (yyQ ((((),()),((),()),(r1.1.1,()),()),((r1.2.1.1,r1.2.1.2.1,r1.2.1.2.2,()),()),(([]:List Int),()))) (fun y3 =>
 some ((y3.2.2.1,()),((y3.2.1.1.1,y3.2.1.1.2.1,y3.2.1.1.2.2.1),()))) (fun y3 =>
 none)
theorem y9z (x:InD ysV):zjw ⟨yyB,18,yL9⟩ Tryz.f213.results.toList ysu ysV yzc x=ydz x.1:=by kernel_rfl
theorem y6t:ConOk Tryz.prog 213 ⟨ysV,yzc,fun x=>ydz x.1⟩:=zj1 (y2e) Tryz.func213 (by kernel_rfl) (by kernel_rfl) Tryz.ntmps213.symm (by decide) (fun x r h=>(y9z x).trans h)
def yut:Con:=⟨ysV,yzc,fun x=>ydz x.1⟩
theorem yEv:ConOk Tryz.prog 213 yut:=y6t
theorem y7g: ∀ (n:Nat) (u:dU) (l:List Int) (fuel:Nat),n < fuel→yA u→n+l.length≤1000 →
  ∃ (u':dU) (l':List Int),zz yeC fuel (yxC n u l)=some (.inl (yYj u' l'))∧yA u'∧l'.length=n+l.length
 | 0,u,l,fuel+1,_,hu,_=>⟨u,l,by simp only [zz,yeC,yxC,yx4]; rfl,hu,by omega⟩
 | n+1,u,l,fuel+1,hf,hu,hl=>by
  obtain ⟨x,u1,e1,_,d1⟩:=yaaG u hu
  obtain ⟨u',l',e2,d2,h2⟩:=y7g n u1 (l++ [x]) fuel (by omega) d1 (by rw [List.length_append]; simp only [List.length_cons,List.length_nil]; omega)
  refine ⟨u',l',?_,d2,by rw [h2,List.length_append]; simp only [List.length_cons,List.length_nil]; omega⟩
  rw [← e2,zz]
  simp only [yeC,yxC,yx4,zj4 (show (0:Int) < ((n+1:Nat):Int) by omega),cond_true,zkr,e1,zkc,show ((n+1:Nat):Int) - 1=(n:Int) by omega,wr (show -9223372036854775808≤(n:Int) by omega) (by omega),
   zka.2 (show (l.length+ [x].length) * 8≤140737488355328 by simp only [List.length_cons,List.length_nil]; omega)]
theorem yW3 (u:dU) (h:yA u): ∃ (l:List Int) (u':dU),ydz u=some ((l,()),(u',()))∧l.length≤4∧yA u':=by
 obtain ⟨r1,u1,e1,q1,d1⟩:=yp u 5 h
 have:=q1.1; have:=q1.2.1 (by omega)
 obtain ⟨u',l',e2,d2,h2⟩:=y7g r1.toNat u1 [] 18446744073709551616 (by omega) d1 (by simp only [List.length_nil]; omega)
 rw [show ((r1.toNat:Nat):Int)=r1 by omega]at e2
 unfold ydz
 simp only [e1,zkc]
 refine ⟨l',u',?_,by rw [h2]; simp only [List.length_nil]; omega,d2⟩
 exact (congrArg (fun z=>zjY z _ _) (show yyQ (yYu r1 u1 [])=_ from e2)).trans rfl
end
section
def yQH:Code:=(Tryz.f212.body).getD .skip
def yQZ:Env:=zj2 TT [(124,yae),(150,ym),(213,yut)] []
theorem y19:FrOk Tryz.prog ⟨yQZ,23,fun _=>none⟩ yQH:=zj6 yc yd ⟨yaQ,yv,yEv,trivial⟩
def y4E:Nat→Option Seg:=fun _=>none
abbrev ysT:List Par:= [.pt tU .fz]
abbrev yy9:List OT:= [⟨false,tL,(.ow .fz)⟩]
def ydy (a0:dU):Option (ResD yy9×MutD ysT) :=
 bnd (ydz a0) fun r1 =>
 bnd (yb r1.2.1 10) fun r2 =>
 bif (r2.1.1==0) then
 bnd (yn r2.2.1 ([(-1),65536]:List Int)) fun r3 =>
 bif (zjQ r1.1.1.length ([r3.1.1]:List Int).length 8) then
 some (((r1.1.1++([r3.1.1]:List Int)),()),(r3.2.1,()))
 else none
 else
 bif (r2.1.1==1) then
 bnd (yb r2.2.1 2) fun r4 =>
 bif (zjX (IntKind.i64.wrap (12+r4.1.1)) 8) then
 some (((List.replicate ((IntKind.i64.wrap (12+r4.1.1))).toNat (0:Int)),()),(r4.2.1,()))
 else none
 else
 some ((r1.1.1,()),(r2.2.1,()))
theorem y9w (x:InD ysT):zjw ⟨yQZ,23,y4E⟩ Tryz.f212.results.toList yQH ysT yy9 x=ydy x.1:=by kernel_rfl
theorem y6q:ConOk Tryz.prog 212 ⟨ysT,yy9,fun x=>ydy x.1⟩:=zj1 (y19) Tryz.func212 (by kernel_rfl) (by kernel_rfl) Tryz.ntmps212.symm (by decide) (fun x r h=>(y9w x).trans h)
def yB1:Con:=⟨ysT,yy9,fun x=>ydy x.1⟩
theorem yPs:ConOk Tryz.prog 212 yB1:=y6q
theorem yW2 (u:dU) (h:yA u): ∃ (l:List Int) (u':dU),ydy u=some ((l,()),(u',()))∧l.length≤14∧yA u':=by
 unfold ydy
 obtain ⟨l,u1,e1,q1,d1⟩:=yW3 u h
 obtain ⟨r,u2,e2,q2,d2⟩:=yp u1 10 d1
 simp only [e1,e2,zkc]
 cases (r==0)
 ·cases (r==1)
  ·exact ⟨_,_,rfl,by omega,d2⟩
  ·obtain ⟨r3,u3,e3,q3,d3⟩:=yp u2 2 d2
   have:=q3.1; have:=q3.2.1 (by omega)
   have hm:zjX (IntKind.i64.wrap (12+r3)) 8=true:=by rw [wr (by omega) (by omega),zkg]; omega
   simp only [cond_true,cond_false,e3,zkc,hm]
   exact ⟨_,_,rfl,by simp only [List.length_replicate]; rw [wr (by omega) (by omega)]; omega,d3⟩
 ·obtain ⟨r3,u3,e3,q3,d3⟩:=yfe u2 [(-1),65536] d2 (by simp)
  simp only [cond_true,e3,zkc]
  rw [zka.2 (show (l.length+ [r3].length) * 8≤140737488355328 by simp only [List.length_cons,List.length_nil]; omega)]
  exact ⟨_,_,rfl,by simp only [List.length_append,List.length_cons,List.length_nil]; omega,d3⟩
end
end
end Go.Tf
