/- Functions of the program, and what they come to. -/
import Derived.Test.YtgmadfpnljibhaaGreatExactFlushAllF8
namespace Go.Tf
noncomputable section
open Go.Proofs
set_option synthInstance.maxHeartbeats 400000
set_option synthInstance.maxSize 10000
set_option linter.unusedVariables false
set_option linter.unusedSimpArgs false
set_option maxRecDepth 100000
section
def yK3:Code:=(Tryz.f239.body).getD .skip
def yLs:Env:=zki TT [(135,yn),(225,yg1)] []
theorem yUU:FrOk Tryz.prog ⟨yLs,22,fun _=>none⟩ yK3:=zkp yb yc ⟨yr,ypc,trivial⟩
def yXk:Nat→Option Seg:=fun _=>none
abbrev yqf:List Par:= [.rd tN]
abbrev yvT:List OT:= [⟨false,tB,.fz⟩]
def yyw (a0:dN):Option (ResD yvT×MutD yqf) :=
 let r1:=ya a0.1 0 60000
 bif r1 then
 let r2:=ya a0.2.1 0 7
 bif r2 then
 let r3:=ya (a0.2.2.length:Int) 2 4
 bif r3 then
 let r4:=yH a0.2.2
 some ((r4,()),())
 else
 some ((false,()),())
 else
 some ((false,()),())
 else
 some ((false,()),())
theorem y2u (x:InD yqf):zjH ⟨yLs,22,yXk⟩ Tryz.f239.results.toList yK3 yqf yvT x=yyw x.1:=by kernel_rfl
theorem yY8:ConOk Tryz.prog 239 ⟨yqf,yvT,fun x=>yyw x.1⟩:=zkh (yUU) Tryz.func239 (by kernel_rfl) (by kernel_rfl) Tryz.ntmps239.symm (by decide) (fun x r h=>(y2u x).trans h)
def ya3 (a0:dN):Bool :=
 let r1:=ya a0.1 0 60000
 bif r1 then
 let r2:=ya a0.2.1 0 7
 bif r2 then
 let r3:=ya (a0.2.2.length:Int) 2 4
 bif r3 then
 let r4:=yH a0.2.2
 r4
 else
 false
 else
 false
 else
 false
def yH3:Con:=⟨yqf,yvT,fun x=>(fun n=>some ((n,()),())) (ya3 x.1)⟩
theorem y1f (a0:dN):yyw a0=(fun n=>some ((n,()),())) (ya3 a0):=zkS (p:=fun (n:Bool)=>((n,()),())) (zkx (p:=fun (n:Bool)=>((n,()),())) (zkx (p:=fun (n:Bool)=>((n,()),())) (zkx (p:=fun (n:Bool)=>((n,()),())) rfl rfl) rfl) rfl)
theorem y1K:ConOk Tryz.prog 239 yH3:=(yY8).mono (fun x r _ h=>(y1f x.1).trans h)
abbrev y5n:dN:=(0,0,[])
def yz1 (r:dN):List Int:=bif ya3 r then 21322::r.1::r.2.1::(r.2.2.length:Int)::r.2.2 else []
def y4E (l:List Int):dN:=(nth l 1 0,nth l 2 0,l.drop 4)
def y5Y (l:List Int):dN×Bool:=bif leb 4 (l.length:Int)&&(nth l 0 0==21322&&(nth l 3 0==(l.length:Int) - 4&&ya3 (y4E l))) then (y4E l,true) else (y5n,false)
theorem yZ4 {r:dN}:ya3 r=true↔(0≤r.1∧r.1≤60000)∧(0≤r.2.1∧r.2.1≤7)∧(2≤(r.2.2.length:Int)∧(r.2.2.length:Int)≤4)∧r.2.2.all isW=true:=by
 unfold ya3
 simp only [yhY,← ysL]
 cases ya r.1 0 60000<;>cases ya r.2.1 0 7<;>cases ya (r.2.2.length:Int) 2 4<;>simp
def yga (r:dN) (a:dA) (i:Nat):dA:=yeR a i (ydN r.1) (yz1 r)
def yao (a:dA) (r:dN):dA:=yz ((List.range a.2.2.1.length).foldl (yga r) a)
theorem yCE (r:dN) (a:dA) (i:Nat):(yga r a i).2.2.1.length=a.2.2.1.length:=yyb _ _ _ _
theorem y3j (r:dN) {a:dA} (i:Nat) (h:yd a=true):yga r a i=a:=yST h _ _ _
theorem y3w (a:dA) (r:dN):(yao a r).2.2.1.length=a.2.2.1.length:=(yEW _).trans (yqo (yCE r) _ _)
theorem yS9 (a:dA) (r:dN):yab (yao a r)=yab a:=(yGQ _).trans (yzD (one:=yga r) (fun _ _=>ySS _ _ _ _) _ _)
theorem yMO {one:dA→Nat→dA} {d:List dW} (hl: ∀ a i,(one a i).2.2.1.length=a.2.2.1.length) (ho: ∀ a i,ydP d a→i < a.2.2.1.length→ydP d (one a i)): ∀ (n:Nat) (a:dA),n≤a.2.2.1.length→ydP d a→ydP d ((List.range n).foldl one a)
 | 0,_,_,h=>h
 | n+1,a,hn,h=>by
  rw [List.range_succ,List.foldl_append]
  exact ho _ _ (yMO hl ho n a (by omega) h) (by rw [yqo hl]; exact hn)
theorem y4s {d:List dW} {a:dA} (r:dN) (h:ydP d a):ydP d (yao a r):=y36 (yMO (yCE r) (fun _ _ h hi=>y2N h (zkO hi)) _ a (Nat.le_refl _) h)
def yyK (p N x:Int) (data:List Int) (i:Int):Int:=bif i==p then x else nth data ((i - p - 1+N).tmod N) 0
def yeg (p N s:Int) (data:List Int) (a:dA) (i:Nat):dA:=bif yf3 a i s then yeR a i (ysI s) [yyK p N (yfm data) data i] else a
def yL (a:dA) (s:Int) (data:List Int):dA:=(List.range a.2.2.1.length).foldl (yeg (yg a.2.1 s) a.2.1.1 s data) a
theorem yyJ (p N s:Int) (data:List Int) (a:dA) (i:Nat):(yeg p N s data a i).2.2.1.length=a.2.2.1.length:=by
 unfold yeg; cases yf3 a i s
 ·rfl
 ·exact yyb _ _ _ _
theorem y13 (p N s:Int) (data:List Int) {a:dA} (i:Nat) (h:yd a=true):yeg p N s data a i=a:=by
 unfold yeg; cases yf3 a i s
 ·rfl
 ·exact yST h _ _ _
theorem yLM (p N s:Int) (data:List Int) (a:dA) (i:Nat):yab (yeg p N s data a i)=yab a:=by
 unfold yeg; cases yf3 a i s
 ·rfl
 ·exact ySS _ _ _ _
theorem y5J (a:dA) (s:Int) (data:List Int):(yL a s data).2.2.1.length=a.2.2.1.length:=yqo (yyJ _ _ _ _) _ _
theorem y3Q (a:dA) (s:Int) (data:List Int):yab (yL a s data)=yab a:=yzD (yLM _ _ _ _) _ _
theorem y34 {d:List dW} {a:dA} (s:Int) (data:List Int) (h:ydP d a):ydP d (yL a s data):=yMO (yyJ _ _ _ _) (fun a i h hi=>by
 unfold yeg; cases yf3 a i s
 ·exact h
 ·exact y2N h (zkO hi)) _ a (Nat.le_refl _) h
theorem y5K {N i p:Int} (h:3≤N∧N≤5) (hi:0≤i∧i < N) (hp:0≤p∧p≤N - 1) (hne:i≠p):0≤(i - p - 1+N).tmod N∧(i - p - 1+N).tmod N < N - 1:=by
 rw [Int.tmod_eq_emod_of_nonneg (by omega)]
 have:N=3∨N=4∨N=5:=by omega
 rcases this with rfl | rfl | rfl<;>omega
theorem y3J {N p x:Int} {data:List Int} (h:3≤N∧N≤5) (hp:0≤p∧p≤N - 1) (hd:(data.length:Int)=N - 1) :
  (List.range data.length).foldl (fun l (i:Nat)=>l.set ((p+1+i).tmod N).toNat (nth data i 0)) ((List.replicate N.toNat 0).set p.toNat x)=(List.range N.toNat).map (fun (i:Nat)=>yyK p N x data i):=by
 have:N=3∨N=4∨N=5:=by omega
 rcases this with rfl | rfl | rfl
 ·match data,hd with
  | [a,b],_ =>
   have:p=0∨p=1∨p=2:=by omega
   rcases this with rfl | rfl | rfl<;>simp [yyK,nth,List.range_succ,List.replicate_succ]
  | [],hd=>simp at hd
  | [_],hd=>simp at hd
  | _::_::_::_,hd=>simp only [List.length_cons]at hd; omega
 ·match data,hd with
  | [a,b,c],_ =>
   have:p=0∨p=1∨p=2∨p=3:=by omega
   rcases this with rfl | rfl | rfl | rfl<;>simp [yyK,nth,List.range_succ,List.replicate_succ]
  | [],hd=>simp at hd
  | [_],hd=>simp at hd
  | [_,_],hd=>simp at hd
  | _::_::_::_::_,hd=>simp only [List.length_cons]at hd; omega
 ·match data,hd with
  | [a,b,c,d],_ =>
   have:p=0∨p=1∨p=2∨p=3∨p=4:=by omega
   rcases this with rfl | rfl | rfl | rfl | rfl<;>simp [yyK,nth,List.range_succ,List.replicate_succ]
  | [],hd=>simp at hd
  | [_],hd=>simp at hd
  | [_,_],hd=>simp at hd
  | [_,_,_],hd=>simp at hd
  | _::_::_::_::_::_,hd=>simp only [List.length_cons]at hd; omega
def ycM (a:dA):dA:=bif leb 4 (IntKind.i64.wrap (a.2.2.2.2.2.1 - a.2.2.2.2.2.2.1)) then yv a else a
def ya5 (a:dA) (s:Int) (d:List Int):Int×dA :=
 bif yd (ycM a) then (6,ycM a) else
 bif yd (yao (ycM a) ((ycM a).2.2.2.2.2.1,s,d)) then (6,yao (ycM a) ((ycM a).2.2.2.2.2.1,s,d)) else
 (bif yd (yL (yap (yao (ycM a) ((ycM a).2.2.2.2.2.1,s,d))) s d) then 6 else 0,yL (yap (yao (ycM a) ((ycM a).2.2.2.2.2.1,s,d))) s d)
theorem yLL (a:dA):(yv a).2.1=a.2.1:=by
 unfold yv
 cases yd (yz a)
 ·exact (yx5 (y3X (ynG (yz a)))).trans (show (yz a).2.1=a.2.1 from yx5 (yGQ a))
 ·exact yx5 (yGQ a)
theorem y5R (a:dA):(ycM a).2.1=a.2.1:=by
 unfold ycM
 cases leb 4 (IntKind.i64.wrap (a.2.2.2.2.2.1 - a.2.2.2.2.2.2.1))
 ·rfl
 ·exact yLL a
theorem y5S (a:dA):(ycM a).2.2.1.length=a.2.2.1.length:=by
 unfold ycM
 cases leb 4 (IntKind.i64.wrap (a.2.2.2.2.2.1 - a.2.2.2.2.2.2.1))
 ·rfl
 ·exact yuR a
end
section
def yKN:Code:=(Tryz.f237.body).getD .skip
def yLc:Env:=zki TT [(126,yw),(228,ymp)] []
theorem yUs:FrOk Tryz.prog ⟨yLc,22,fun _=>none⟩ yKN:=zkp yb yc ⟨yQ,ywC,trivial⟩
def yW4:Nat→Option Seg:=fun _=>none
abbrev yp1:List Par:= [.rd tN]
abbrev yvy:List OT:= [⟨false,tB,.fz⟩]
def yyh (a0:dN):Option (ResD yvy×MutD yp1) :=
 let r1:=ye a0.1 0 60000
 bif r1 then
 let r2:=ye a0.2.1 0 7
 bif r2 then
 let r3:=ye (a0.2.2.length:Int) 2 4
 bif r3 then
 let r4:=yO a0.2.2
 some ((r4,()),())
 else
 some ((false,()),())
 else
 some ((false,()),())
 else
 some ((false,()),())
theorem y19 (x:InD yp1):zjH ⟨yLc,22,yW4⟩ Tryz.f237.results.toList yKN yp1 yvy x=yyh x.1:=by kernel_rfl
theorem yYN:ConOk Tryz.prog 237 ⟨yp1,yvy,fun x=>yyh x.1⟩:=zkh (yUs) Tryz.func237 (by kernel_rfl) (by kernel_rfl) Tryz.ntmps237.symm (by decide) (fun x r h=>(y19 x).trans h)
def yqx (a0:dN):Bool :=
 let r1:=ye a0.1 0 60000
 bif r1 then
 let r2:=ye a0.2.1 0 7
 bif r2 then
 let r3:=ye (a0.2.2.length:Int) 2 4
 bif r3 then
 let r4:=yO a0.2.2
 r4
 else
 false
 else
 false
 else
 false
def yHO:Con:=⟨yp1,yvy,fun x=>(fun n=>some ((n,()),())) (yqx x.1)⟩
theorem y0U (a0:dN):yyh a0=(fun n=>some ((n,()),())) (yqx a0):=zkS (p:=fun (n:Bool)=>((n,()),())) (zkx (p:=fun (n:Bool)=>((n,()),())) (zkx (p:=fun (n:Bool)=>((n,()),())) (zkx (p:=fun (n:Bool)=>((n,()),())) rfl rfl) rfl) rfl)
theorem y1v:ConOk Tryz.prog 237 yHO:=(yYN).mono (fun x r _ h=>(y0U x.1).trans h)
theorem y3g (r:dN):yqx r=ya3 r:=by
 unfold yqx ya3
 simp only [yaH,ywm,yhY]
end
section
def yJb:Code:=(Tryz.f240.body).getD .skip
def yJA:Env:=zki TT [(237,yHO)] []
theorem yQw:FrOk Tryz.prog ⟨yJA,17,fun _=>none⟩ yJb:=zkp yb yc ⟨y1v,trivial⟩
def yTh:Nat→Option Seg:=fun _=>none
abbrev yhB:List Par:= [.rd tN]
abbrev ys7:List OT:= [⟨false,tL,(.ow .fz)⟩]
def ypf (a0:dN):Option (ResD ys7×MutD yhB) :=
 let r1:=yqx a0
 bif (!r1) then
 some (([],()),())
 else
 bif (zj4 ([21322,a0.1,a0.2.1,(a0.2.2.length:Int)]:List Int).length a0.2.2.length 8) then
 some (((([21322,a0.1,a0.2.1,(a0.2.2.length:Int)]:List Int)++a0.2.2),()),())
 else none
theorem y0g (x:InD yhB):zjH ⟨yJA,17,yTh⟩ Tryz.f240.results.toList yJb yhB ys7 x=ypf x.1:=by kernel_rfl
theorem yVO:ConOk Tryz.prog 240 ⟨yhB,ys7,fun x=>ypf x.1⟩:=zkh (yQw) Tryz.func240 (by kernel_rfl) (by kernel_rfl) Tryz.ntmps240.symm (by decide) (fun x r h=>(y0g x).trans h)
def yny (a0:dN):List Int:=yz1 a0
theorem yYa (a0:dN) (hk:zi9 yhB (a0,())):ypf a0=(fun n=>some ((n,()),())) (yny a0):=by
 unfold ypf yny yz1
 simp only [y3g]
 cases hr:ya3 a0
 ·rfl
 ·have:=(yZ4.1 hr).2.2.1
  rw [zkw.2 (show (([21322,a0.1,a0.2.1,(a0.2.2.length:Int)]:List Int).length+a0.2.2.length) * 8≤140737488355328 by simp only [List.length_cons,List.length_nil]; omega)]; rfl
def yGg:Con:=⟨yhB,ys7,fun x=>(fun n=>some ((n,()),())) (yny x.1)⟩
theorem yZl:ConOk Tryz.prog 240 yGg:=(yVO).mono (fun x r hk h=>(yYa x.1 hk).trans h)
end
section
def yfC:Code:=(Tryz.f164.body).getD .skip
def yjF:Env:=zki TT [(107,yjf),(157,yGh),(202,yj9),(240,yGg)] []
theorem yIJ:FrOk Tryz.prog ⟨yjF,26,fun _=>none⟩ yfC:=zkp yb yc ⟨ysh,yZm,yuo,yZl,trivial⟩
def yw3:Nat→Option Seg:=fun _=>none
def yai:Shape:=⟨[(0,false,[.ptr 1000000000 0]),(3,false,[.ptr 0 0]),(10,false,[.int .i64]),(11,false,[.int .i64])],[(0,[.int .i64,.int .i64,.br tI]),(1000000000,[.int .i64,.int .i64,.int .i64,.at 800000000,.int .i64,.int .i64,.int .i64,.int .i64,.int .i64,.at 800000001,.int .i64,.bool,.bool])],[(800000000,tM,(.pr (.ow (.ow .fz)) (.pr (.ow (.pr .fz (.ow .fz))) (.pr .fz (.ow .fz))))),(800000001,tW,(.pr .fz (.ow .fz)))]⟩
def yc5:Shape:=⟨[(0,false,[.ptr 1000000000 0]),(3,false,[.ptr 0 0]),(10,false,[.int .i64]),(11,false,[.ci .i64 0])],[(0,[.int .i64,.int .i64,.br tI]),(1000000000,[.int .i64,.int .i64,.int .i64,.at 800000000,.int .i64,.int .i64,.int .i64,.int .i64,.int .i64,.at 800000001,.int .i64,.bool,.bool])],[(800000000,tM,(.pr (.ow (.ow .fz)) (.pr (.ow (.pr .fz (.ow .fz))) (.pr .fz (.ow .fz))))),(800000001,tW,(.pr .fz (.ow .fz)))]⟩
def yc3:Shape:=⟨[(0,false,[.ptr 1000000000 0])],[(1000000000,[.int .i64,.int .i64,.int .i64,.at 800000000,.int .i64,.int .i64,.int .i64,.int .i64,.int .i64,.at 800000001,.int .i64,.bool,.bool])],[(800000000,tM,(.pr (.ow (.ow .fz)) (.pr (.ow (.pr .fz (.ow .fz))) (.pr .fz (.ow .fz))))),(800000001,tW,(.pr .fz (.ow .fz)))]⟩
def yc7:Shape:=⟨[(4,false,[.bool])],[(1000000000,[.int .i64,.int .i64,.int .i64,.at 800000000,.int .i64,.int .i64,.int .i64,.int .i64,.int .i64,.at 800000001,.int .i64,.bool,.bool])],[(800000000,tM,(.pr (.ow (.ow .fz)) (.pr (.ow (.pr .fz (.ow .fz))) (.pr .fz (.ow .fz))))),(800000001,tW,(.pr .fz (.ow .fz)))]⟩
abbrev ylk (v0 v1:Int) (v2:dN) (v3:dA):(yai).X:=((((),()),((),()),(v0,()),(v1,()),()),((v2.1,v2.2.1,v2.2.2,()),(v3.1,v3.2.1.1,v3.2.1.2,(),v3.2.2.2.1,v3.2.2.2.2.1,v3.2.2.2.2.2.1,v3.2.2.2.2.2.2.1,v3.2.2.2.2.2.2.2.1,(),v3.2.2.2.2.2.2.2.2.2.1,v3.2.2.2.2.2.2.2.2.2.2.1,v3.2.2.2.2.2.2.2.2.2.2.2,()),()),(v3.2.2.1,v3.2.2.2.2.2.2.2.2.1,()))
abbrev yIm (v0:Int) (v1:dN) (v2:dA):(yc5).X:=((((),()),((),()),(v0,()),((),()),()),((v1.1,v1.2.1,v1.2.2,()),(v2.1,v2.2.1.1,v2.2.1.2,(),v2.2.2.2.1,v2.2.2.2.2.1,v2.2.2.2.2.2.1,v2.2.2.2.2.2.2.1,v2.2.2.2.2.2.2.2.1,(),v2.2.2.2.2.2.2.2.2.2.1,v2.2.2.2.2.2.2.2.2.2.2.1,v2.2.2.2.2.2.2.2.2.2.2.2,()),()),(v2.2.2.1,v2.2.2.2.2.2.2.2.2.1,()))
abbrev ylm (v0:dA):(yc3).X:=((((),()),()),((v0.1,v0.2.1.1,v0.2.1.2,(),v0.2.2.2.1,v0.2.2.2.2.1,v0.2.2.2.2.2.1,v0.2.2.2.2.2.2.1,v0.2.2.2.2.2.2.2.1,(),v0.2.2.2.2.2.2.2.2.2.1,v0.2.2.2.2.2.2.2.2.2.2.1,v0.2.2.2.2.2.2.2.2.2.2.2,()),()),(v0.2.2.1,v0.2.2.2.2.2.2.2.2.1,()))
abbrev ylo (v0:Bool) (v1:dA):(yc7).X:=(((v0,()),()),((v1.1,v1.2.1.1,v1.2.1.2,(),v1.2.2.2.1,v1.2.2.2.2.1,v1.2.2.2.2.2.1,v1.2.2.2.2.2.2.1,v1.2.2.2.2.2.2.2.1,(),v1.2.2.2.2.2.2.2.2.2.1,v1.2.2.2.2.2.2.2.2.2.2.1,v1.2.2.2.2.2.2.2.2.2.2.2,()),()),(v1.2.2.1,v1.2.2.2.2.2.2.2.2.1,()))
def ylE (v0 v1 v2 v3:Int) (v4:List Int) (v5 v6 v7 v8 v9 v10 v11 v12 v13:Int) (v14 v15:Bool) (v16:List dM) (v17:List dW):Option ((yai).X ⊕ ((yc3).X ⊕ (yc7).X)) :=
 bif (ltb v1 v0) then
 let r4:=ytE v2
 let r5:=yny (v2,v3,v4)
 bnd (yej (v5,(v6,v7),v16,v8,v9,v10,v11,v12,v17,v13,v14,v15) v1 r4 r5) fun r6 =>
 bif (!r6.1.1) then
 some (.inr (.inr (((false,()),()),((r6.2.1.1,r6.2.1.2.1.1,r6.2.1.2.1.2,(),r6.2.1.2.2.2.1,r6.2.1.2.2.2.2.1,r6.2.1.2.2.2.2.2.1,r6.2.1.2.2.2.2.2.2.1,r6.2.1.2.2.2.2.2.2.2.1,(),r6.2.1.2.2.2.2.2.2.2.2.2.1,r6.2.1.2.2.2.2.2.2.2.2.2.2.1,r6.2.1.2.2.2.2.2.2.2.2.2.2.2,()),()),(r6.2.1.2.2.1,r6.2.1.2.2.2.2.2.2.2.2.1,()))))
 else
 some (.inl ((((),()),((),()),(v0,()),((IntKind.i64.wrap (v1+1)),()),()),((v2,v3,v4,()),(r6.2.1.1,r6.2.1.2.1.1,r6.2.1.2.1.2,(),r6.2.1.2.2.2.1,r6.2.1.2.2.2.2.1,r6.2.1.2.2.2.2.2.1,r6.2.1.2.2.2.2.2.2.1,r6.2.1.2.2.2.2.2.2.2.1,(),r6.2.1.2.2.2.2.2.2.2.2.2.1,r6.2.1.2.2.2.2.2.2.2.2.2.2.1,r6.2.1.2.2.2.2.2.2.2.2.2.2.2,()),()),(r6.2.1.2.2.1,r6.2.1.2.2.2.2.2.2.2.2.1,())))
 else
 some (.inr (.inl ((((),()),()),((v5,v6,v7,(),v8,v9,v10,v11,v12,(),v13,v14,v15,()),()),(v16,v17,()))))
def yav (x:(yai).X):=ylE x.1.2.2.1.1 x.1.2.2.2.1.1 x.2.1.1.1 x.2.1.1.2.1 x.2.1.1.2.2.1 x.2.1.2.1.1 x.2.1.2.1.2.1 x.2.1.2.1.2.2.1 x.2.1.2.1.2.2.2.2.1 x.2.1.2.1.2.2.2.2.2.1 x.2.1.2.1.2.2.2.2.2.2.1 x.2.1.2.1.2.2.2.2.2.2.2.1 x.2.1.2.1.2.2.2.2.2.2.2.2.1 x.2.1.2.1.2.2.2.2.2.2.2.2.2.2.1 x.2.1.2.1.2.2.2.2.2.2.2.2.2.2.2.1 x.2.1.2.1.2.2.2.2.2.2.2.2.2.2.2.2.1 x.2.2.1 x.2.2.2.1
def yuT (x:(yc5).X):(yai).X:=((((),()),((),()),(x.1.2.2.1.1,()),(0,()),()),((x.2.1.1.1,x.2.1.1.2.1,x.2.1.1.2.2.1,()),(x.2.1.2.1.1,x.2.1.2.1.2.1,x.2.1.2.1.2.2.1,(),x.2.1.2.1.2.2.2.2.1,x.2.1.2.1.2.2.2.2.2.1,x.2.1.2.1.2.2.2.2.2.2.1,x.2.1.2.1.2.2.2.2.2.2.2.1,x.2.1.2.1.2.2.2.2.2.2.2.2.1,(),x.2.1.2.1.2.2.2.2.2.2.2.2.2.2.1,x.2.1.2.1.2.2.2.2.2.2.2.2.2.2.2.1,x.2.1.2.1.2.2.2.2.2.2.2.2.2.2.2.2.1,()),()),(x.2.2.1,x.2.2.2.1,()))
def yv0:Code:=(zdI yfC 64 52).getD .skip
theorem yIC:zdI yfC 64 13=some (.block 0 (.loop yv0)):=by kernel_rfl
theorem yI3 (x:(yai).X):zg7 ⟨yjF,26,yw3⟩ 0 yv0 52 yai yc3 yc7 x=yav x:=by kernel_rfl
def yuV (x:(yc5).X):Nat:=18446744073709551616
def ylM (x:(yc5).X):Option ((yc3).X ⊕ (yc7).X):=zr yav (yuV x) (yuT x)
def yuZ:Seg:=⟨yc5,yc3,yc7,ylM⟩
def yw4:Nat→Option Seg:=fun q=>bif Nat.beq q 13 then some yuZ else yw3 q
theorem yIK:FrOk Tryz.prog ⟨yjF,26,yw4⟩ yfC:=(yIJ).loop (sg:=yuZ) yai yuT (by decide) yIC yav yuV (by decide) (fun _=>rfl) (fun x r _ h=>h) yI3
abbrev ybn:List Par:= [.pt tA (.pr .fz (.pr (.pr .fz .fz) (.pr (.ow (.pr (.ow (.ow .fz)) (.pr (.ow (.pr .fz (.ow .fz))) (.pr .fz (.ow .fz))))) (.pr .fz (.pr .fz (.pr .fz (.pr .fz (.pr .fz (.pr (.ow (.pr .fz (.ow .fz))) (.pr .fz (.pr .fz .fz))))))))))),.rd tN]
abbrev yfW:List OT:= [⟨false,tB,.fz⟩]
def yhu (a0:dA) (a1:dN):Option (ResD yfW×MutD ybn) :=
 zjw (ylM ((((),()),((),()),((a0.2.2.1.length:Int),()),((),()),()),((a1.1,a1.2.1,a1.2.2,()),(a0.1,a0.2.1.1,a0.2.1.2,(),a0.2.2.2.1,a0.2.2.2.2.1,a0.2.2.2.2.2.1,a0.2.2.2.2.2.2.1,a0.2.2.2.2.2.2.2.1,(),a0.2.2.2.2.2.2.2.2.2.1,a0.2.2.2.2.2.2.2.2.2.2.1,a0.2.2.2.2.2.2.2.2.2.2.2,()),()),(a0.2.2.1,a0.2.2.2.2.2.2.2.2.1,()))) (fun y6 =>
 bnd (yfk (y6.2.1.1.1,(y6.2.1.1.2.1,y6.2.1.1.2.2.1),y6.2.2.1,y6.2.1.1.2.2.2.2.1,y6.2.1.1.2.2.2.2.2.1,y6.2.1.1.2.2.2.2.2.2.1,y6.2.1.1.2.2.2.2.2.2.2.1,y6.2.1.1.2.2.2.2.2.2.2.2.1,y6.2.2.2.1,y6.2.1.1.2.2.2.2.2.2.2.2.2.2.1,y6.2.1.1.2.2.2.2.2.2.2.2.2.2.2.1,y6.2.1.1.2.2.2.2.2.2.2.2.2.2.2.2.1)) fun r8 =>
 some ((r8.1.1,()),(r8.2.1,()))) (fun y6 =>
 some ((y6.1.1.1,()),((y6.2.1.1.1,(y6.2.1.1.2.1,y6.2.1.1.2.2.1),y6.2.2.1,y6.2.1.1.2.2.2.2.1,y6.2.1.1.2.2.2.2.2.1,y6.2.1.1.2.2.2.2.2.2.1,y6.2.1.1.2.2.2.2.2.2.2.1,y6.2.1.1.2.2.2.2.2.2.2.2.1,y6.2.2.2.1,y6.2.1.1.2.2.2.2.2.2.2.2.2.2.1,y6.2.1.1.2.2.2.2.2.2.2.2.2.2.2.1,y6.2.1.1.2.2.2.2.2.2.2.2.2.2.2.2.1),())))
theorem yNU (x:InD ybn):zjH ⟨yjF,26,yw4⟩ Tryz.f164.results.toList yfC ybn yfW x=yhu x.1 x.2.1:=by kernel_rfl
theorem yKA:ConOk Tryz.prog 164 ⟨ybn,yfW,fun x=>yhu x.1 x.2.1⟩:=zkh (yIK) Tryz.func164 (by kernel_rfl) (by kernel_rfl) Tryz.ntmps164.symm (by decide) (fun x r h=>(yNU x).trans h)
def yf5 (a0:dA) (a1:dN):Bool×dA:=(!(yd (yao a0 a1)),yao a0 a1)
def yf8 (a0:dA) (a1:dN):Bool:= !(yd a0)
theorem yMQ (a0:dA) (a1:dN) (hk:zi9 ybn (a0,a1,())) (hq:yf8 a0 a1=true):yhu a0 a1=(fun n=>some ((n.1,()),(n.2,()))) (yf5 a0 a1):=by
 have hb:a0.2.2.1.length * 80≤2 ^ 47:=hk.1.2.2.1.1
 have hd0:yd a0=false:=by simpa [yf8] using hq
 have h1:ylM (yIm a0.2.2.1.length a1 a0)=some (bif yd ((List.range a0.2.2.1.length).foldl (yga a1) a0) then .inr (ylo false ((List.range a0.2.2.1.length).foldl (yga a1) a0)) else .inl (ylm ((List.range a0.2.2.1.length).foldl (yga a1) a0))):=by
  have:=zkr (step:=yav) a0.2.2.1.length (fun i s=>ylk a0.2.2.1.length i a1 s) (fun i s=>bif yd (yga a1 s i) then (.inr (yga a1 s i):dA ⊕ dA) else .inl (yga a1 s i)) (fun _ s=>s.2.2.1.length=a0.2.2.1.length∧yd s=false) id
   (fun b=>bif yd b then .inr (ylo false b) else .inl (ylm b)) (fun i s hi hs=>by
    constructor
    ·simp only [yav,ylk,ylE,zjI (show (i:Int) < a0.2.2.1.length by omega),cond_true,wr (show -9223372036854775808≤(i:Int)+1 by omega) (by omega),Int.natCast_add,Int.natCast_one,Int.toNat_natCast,zkV,y2I,yny]
     rw [ysi s i (ydN a1.1) (yz1 a1) (by unfold ycf; rw [zkO (by rw [hs.1]; exact hi),hs.2]; rfl)]
     simp only [zky,ycd]
     rw [show yeR s i (ydN a1.1) (yz1 a1)=yga a1 s i from rfl]
     cases hd:yd (yga a1 s i)
     ·rfl
     ·simp only [hd,Bool.not_true,Bool.not_false,cond_true,ylo]
    ·intro s' h
     cases hd:yd (yga a1 s i)
     ·rw [hd]at h
      cases h
      exact ⟨(yCE a1 s i).trans hs.1,hd⟩
     ·rw [hd]at h; cases h) (fun s hs=>by simp only [yav,ylk,ylE,hs.2,zkm (Int.le_refl _),cond_false,id,ylm]) a0 ⟨rfl,hd0⟩ 18446744073709551616 (by omega)
  rw [yEl (fun a i h=>y3j a1 i h),← List.range_eq_range'] at this
  exact this
 unfold yhu yf5 yao
 refine (congrArg (fun z=>zjw z _ _) h1).trans ?_
 cases hd:yd ((List.range a0.2.2.1.length).foldl (yga a1) a0)
 ·simp only [cond_false,zkJ,zkV]
  rw [yup _ (by unfold yfl; rw [hd]; rfl)]; rfl
 ·rw [yZ5 hd]
  simp only [cond_true,zkK,zkV]
  rw [hd]; rfl
def ydr (a0:dA) (a1:dN):Option (ResD yfW×MutD ybn):=bif yf8 a0 a1 then (fun n=>some ((n.1,()),(n.2,()))) (yf5 a0 a1) else none
theorem yM9 (a0:dA) (a1:dN) (h:yf8 a0 a1=true):ydr a0 a1=(fun n=>some ((n.1,()),(n.2,()))) (yf5 a0 a1):=by unfold ydr; rw [h]; rfl
def yw9:Con:=⟨ybn,yfW,fun x=>ydr x.1 x.2.1⟩
theorem yM3:ConOk Tryz.prog 164 yw9:=(yKA).mono (fun x r hk h=>zkW h (fun hq=>yMQ x.1 x.2.1 hk hq))
end
section
def yJa:Code:=(Tryz.f47.body).getD .skip
def yJz:Env:=zki TT [(126,yw)] []
theorem yQv:FrOk Tryz.prog ⟨yJz,34,fun _=>none⟩ yJa:=zkp yb yc ⟨yQ,trivial⟩
def yTg:Nat→Option Seg:=fun _=>none
abbrev yhA:List Par:= [.rd tA,.rd tI,.rd tI]
abbrev ys6:List OT:= [⟨false,tB,.fz⟩]
def ype (a0:dA) (a1 a2:Int):Option (ResD ys6×MutD yhA) :=
 let r1:=ye a1 0 (IntKind.i64.wrap ((a0.2.2.1.length:Int) - 1))
 bif r1 then
 bif (inb a1 a0.2.2.1.length) then
 bif (!((((nth a0.2.2.1 a1 ([],[],false,[])).2).2).1)) then
 bif (!(a0.2.2.2.1 !=a1)) then
 some (((ltb a2 a0.2.2.2.2.1),()),())
 else
 some ((true,()),())
 else
 some ((false,()),())
 else none
 else
 some ((false,()),())
theorem y0f (x:InD yhA):zjH ⟨yJz,34,yTg⟩ Tryz.f47.results.toList yJa yhA ys6 x=ype x.1 x.2.1 x.2.2.1:=by kernel_rfl
theorem yVN:ConOk Tryz.prog 47 ⟨yhA,ys6,fun x=>ype x.1 x.2.1 x.2.2.1⟩:=zkh (yQv) Tryz.func47 (by kernel_rfl) (by kernel_rfl) Tryz.ntmps47.symm (by decide) (fun x r h=>(y0f x).trans h)
def ynx (a0:dA) (a1 a2:Int):Bool:=yf3 a0 a1 a2
theorem yX9 (a0:dA) (a1 a2:Int) (hk:zi9 yhA (a0,a1,a2,())):ype a0 a1 a2=(fun n=>some ((n,()),())) (ynx a0 a1 a2):=by
 have hb:a0.2.2.1.length * 80≤2 ^ 47:=hk.1.2.2.1.1
 unfold ype ynx yf3 yh
 rw [yaH,ywn (show a0.2.2.1.length≤1152921504606846976 by omega),bne_comm]
 cases inb a1 a0.2.2.1.length
 ·rfl
 ·cases (nth a0.2.2.1 a1 ([],[],false,[])).2.2.1<;>cases (a1 !=a0.2.2.2.1)<;>rfl
def yGf:Con:=⟨yhA,ys6,fun x=>(fun n=>some ((n,()),())) (ynx x.1 x.2.1 x.2.2.1)⟩
theorem yZk:ConOk Tryz.prog 47 yGf:=(yVN).mono (fun x r hk h=>(yX9 x.1 x.2.1 x.2.2.1 hk).trans h)
end
section
def yI8:Code:=(Tryz.f108.body).getD .skip
def yJx:Env:=zki TT [(126,yw)] []
theorem yQt:FrOk Tryz.prog ⟨yJx,9,fun _=>none⟩ yI8:=zkp yb yc ⟨yQ,trivial⟩
def yTe:Nat→Option Seg:=fun _=>none
abbrev ym6:List Par:= [.rd tI]
abbrev ys4:List OT:= [⟨false,tI,.fz⟩]
def ywH (a0:Int):Option (ResD ys4×MutD ym6) :=
 let r1:=ye a0 0 1099511627776
 bif (!r1) then
 some (((-1),()),())
 else
 some (((IntKind.i64.wrap ((IntKind.i64.wrap (a0+2))+4)),()),())
theorem y0d (x:InD ym6):zjH ⟨yJx,9,yTe⟩ Tryz.f108.results.toList yI8 ym6 ys4 x=ywH x.1:=by kernel_rfl
theorem yVL:ConOk Tryz.prog 108 ⟨ym6,ys4,fun x=>ywH x.1⟩:=zkh (yQt) Tryz.func108 (by kernel_rfl) (by kernel_rfl) Tryz.ntmps108.symm (by decide) (fun x r h=>(y0d x).trans h)
def ytD (a0:Int):Int :=
 let r1:=ye a0 0 1099511627776
 bif (!r1) then
 (-1)
 else
 (IntKind.i64.wrap ((IntKind.i64.wrap (a0+2))+4))
def yGd:Con:=⟨ym6,ys4,fun x=>(fun n=>some ((n,()),())) (ytD x.1)⟩
theorem yX7 (a0:Int):ywH a0=(fun n=>some ((n,()),())) (ytD a0):=zkS (p:=fun (n:Int)=>((n,()),())) (zkx (p:=fun (n:Int)=>((n,()),())) rfl rfl)
theorem yZi:ConOk Tryz.prog 108 yGd:=(yVL).mono (fun x r _ h=>(yX7 x.1).trans h)
end
end
end Go.Tf
