/- Functions of the program, and what they come to. -/
import Derived.Test.YtgmadfpnljibhaaGreatBlocksBentF8
namespace Go.Tf
noncomputable section
open Go.Proofs
set_option synthInstance.maxHeartbeats 400000
set_option synthInstance.maxSize 10000
set_option linter.unusedVariables false
set_option linter.unusedSimpArgs false
set_option maxRecDepth 100000
section
def yNb:Code:=(Tryz.f239.body).getD .skip
def yNx:Env:=zj3 TT [(135,yn),(225,yim)] []
theorem yXG:FrOk Tryz.prog ⟨yNx,22,fun _=>none⟩ yNb:=zj7 yb yc ⟨yu,yqm,trivial⟩
def yZ1:Nat→Option Seg:=fun _=>none
abbrev yq9:List Par:= [.rd tN]
abbrev yw6:List OT:= [⟨false,tB,.fz⟩]
def yzY (a0:dN):Option (ResD yw6×MutD yq9) :=
 let r1:=ya a0.1 0 60000
 bif r1 then
 let r2:=ya a0.2.1 0 7
 bif r2 then
 let r3:=ya (a0.2.2.length:Int) 2 4
 bif r3 then
 let r4:=yU a0.2.2
 some ((r4,()),())
 else
 some ((false,()),())
 else
 some ((false,()),())
 else
 some ((false,()),())
theorem y4C (x:InD yq9):zjx ⟨yNx,22,yZ1⟩ Tryz.f239.results.toList yNb yq9 yw6 x=yzY x.1:=by kernel_rfl
theorem y1C:ConOk Tryz.prog 239 ⟨yq9,yw6,fun x=>yzY x.1⟩:=zj2 (yXG) Tryz.func239 (by kernel_rfl) (by kernel_rfl) Tryz.ntmps239.symm (by decide) (fun x r h=>(y4C x).trans h)
def ycv (a0:dN):Bool :=
 let r1:=ya a0.1 0 60000
 bif r1 then
 let r2:=ya a0.2.1 0 7
 bif r2 then
 let r3:=ya (a0.2.2.length:Int) 2 4
 bif r3 then
 let r4:=yU a0.2.2
 r4
 else
 false
 else
 false
 else
 false
def yJm:Con:=⟨yq9,yw6,fun x=>(fun n=>some ((n,()),())) (ycv x.1)⟩
theorem y3R (a0:dN):yzY a0=(fun n=>some ((n,()),())) (ycv a0):=zkq (p:=fun (n:Bool)=>((n,()),())) (zkc (p:=fun (n:Bool)=>((n,()),())) (zkc (p:=fun (n:Bool)=>((n,()),())) (zkc (p:=fun (n:Bool)=>((n,()),())) rfl rfl) rfl) rfl)
theorem y38:ConOk Tryz.prog 239 yJm:=(y1C).mono (fun x r _ h=>(y3R x.1).trans h)
def yBg (r:dN):List Int:=bif ycv r then 21322::r.1::r.2.1::(r.2.2.length:Int)::r.2.2 else []
theorem y2N {r:dN}:ycv r=true↔(0≤r.1∧r.1≤60000)∧(0≤r.2.1∧r.2.1≤7)∧(2≤(r.2.2.length:Int)∧(r.2.2.length:Int)≤4)∧r.2.2.all isW=true:=by
 unfold ycv
 simp only [yjb,← yxS]
 cases ya r.1 0 60000<;>cases ya r.2.1 0 7<;>cases ya (r.2.2.length:Int) 2 4<;>simp
def yeS (r:dN) (a:dA) (i:Nat):dA:=yds a i (yew r.1) (yBg r)
def yam (a:dA) (r:dN):dA:=yK ((List.range a.2.2.1.length).foldl (yeS r) a)
theorem ysV (r:dN) (a:dA) (i:Nat):(yeS r a i).2.2.1.length=a.2.2.1.length:=ywh _ _ _ _
theorem y5y (r:dN) {a:dA} (i:Nat) (h:ye a=true):yeS r a i=a:=yVz h _ _ _
theorem y5R (a:dA) (r:dN):(yam a r).2.2.1.length=a.2.2.1.length:=(yFS _).trans (yvn (ysV r) _ _)
theorem yvN (a:dA) (r:dN):yJ (yam a r)=yJ a:=(ywl _).trans (yAQ (one:=yeS r) (fun _ _=>yFw _ _ _ _) _ _)
theorem yO8 {one:dA→Nat→dA} {d:List dW} (hl: ∀ a i,(one a i).2.2.1.length=a.2.2.1.length) (ho: ∀ a i,yl9 d a→i < a.2.2.1.length→yl9 d (one a i)): ∀ (n:Nat) (a:dA),n≤a.2.2.1.length→yl9 d a→yl9 d ((List.range n).foldl one a)
 | 0,_,_,h=>h
 | n+1,a,hn,h=>by
  rw [List.range_succ,List.foldl_append]
  exact ho _ _ (yO8 hl ho n a (by omega) h) (by rw [yvn hl]; exact hn)
theorem y64 {d:List dW} {a:dA} (r:dN) (h:yl9 d a):yl9 d (yam a r):=y6D (yO8 (ysV r) (fun _ _ h hi=>y44 h (zkm hi)) _ a (Nat.le_refl _) h)
def yz5 (p N x:Int) (data:List Int) (i:Int):Int:=bif i==p then x else nth data ((i - p - 1+N).tmod N) 0
def ybD (p N s:Int) (data:List Int) (a:dA) (i:Nat):dA:=bif yda a i s then yds a i (dataAt s) [yz5 p N (ygi data) data i] else a
def yE (a:dA) (s:Int) (data:List Int):dA:=(List.range a.2.2.1.length).foldl (ybD (yh a.2.1 s) a.2.1.1 s data) a
theorem ytT (p N s:Int) (data:List Int) (a:dA) (i:Nat):(ybD p N s data a i).2.2.1.length=a.2.2.1.length:=by
 unfold ybD; cases yda a i s
 ·rfl
 ·exact ywh _ _ _ _
theorem y4o (p N s:Int) (data:List Int) {a:dA} (i:Nat) (h:ye a=true):ybD p N s data a i=a:=by
 unfold ybD; cases yda a i s
 ·rfl
 ·exact yVz h _ _ _
theorem yNV (p N s:Int) (data:List Int) (a:dA) (i:Nat):yJ (ybD p N s data a i)=yJ a:=by
 unfold ybD; cases yda a i s
 ·rfl
 ·exact yFw _ _ _ _
theorem yNW (a:dA) (s:Int) (data:List Int):yJ (yE a s data)=yJ a:=yAQ (yNV _ _ _ _) _ _
theorem y6C {d:List dW} {a:dA} (s:Int) (data:List Int) (h:yl9 d a):yl9 d (yE a s data):=yO8 (ytT _ _ _ _) (fun a i h hi=>by
 unfold ybD; cases yda a i s
 ·exact h
 ·exact y44 h (zkm hi)) _ a (Nat.le_refl _) h
theorem y73 {N i p:Int} (h:3≤N∧N≤5) (hi:0≤i∧i < N) (hp:0≤p∧p≤N - 1) (hne:i≠p):0≤(i - p - 1+N).tmod N∧(i - p - 1+N).tmod N < N - 1:=by
 rw [Int.tmod_eq_emod_of_nonneg (by omega)]
 have:N=3∨N=4∨N=5:=by omega
 rcases this with rfl | rfl | rfl<;>omega
theorem y6f {N p x:Int} {data:List Int} (h:3≤N∧N≤5) (hp:0≤p∧p≤N - 1) (hd:(data.length:Int)=N - 1) :
  (List.range data.length).foldl (fun l (i:Nat)=>l.set ((p+1+i).tmod N).toNat (nth data i 0)) ((List.replicate N.toNat 0).set p.toNat x)=(List.range N.toNat).map (fun (i:Nat)=>yz5 p N x data i):=by
 have:N=3∨N=4∨N=5:=by omega
 rcases this with rfl | rfl | rfl
 ·match data,hd with
  | [a,b],_ =>
   have:p=0∨p=1∨p=2:=by omega
   rcases this with rfl | rfl | rfl<;>simp [yz5,nth,List.range_succ,List.replicate_succ]
  | [],hd=>simp at hd
  | [_],hd=>simp at hd
  | _::_::_::_,hd=>simp only [List.length_cons]at hd; omega
 ·match data,hd with
  | [a,b,c],_ =>
   have:p=0∨p=1∨p=2∨p=3:=by omega
   rcases this with rfl | rfl | rfl | rfl<;>simp [yz5,nth,List.range_succ,List.replicate_succ]
  | [],hd=>simp at hd
  | [_],hd=>simp at hd
  | [_,_],hd=>simp at hd
  | _::_::_::_::_,hd=>simp only [List.length_cons]at hd; omega
 ·match data,hd with
  | [a,b,c,d],_ =>
   have:p=0∨p=1∨p=2∨p=3∨p=4:=by omega
   rcases this with rfl | rfl | rfl | rfl | rfl<;>simp [yz5,nth,List.range_succ,List.replicate_succ]
  | [],hd=>simp at hd
  | [_],hd=>simp at hd
  | [_,_],hd=>simp at hd
  | [_,_,_],hd=>simp at hd
  | _::_::_::_::_::_,hd=>simp only [List.length_cons]at hd; omega
def yad (a:dA):dA:=bif leb 4 (IntKind.i64.wrap (a.2.2.2.2.2.1 - a.2.2.2.2.2.2.1)) then checkA a else a
def yac (a:dA) (s:Int) (d:List Int):Int×dA :=
 bif ye (yad a) then (6,yad a) else
 bif ye (yam (yad a) ((yad a).2.2.2.2.2.1,s,d)) then (6,yam (yad a) ((yad a).2.2.2.2.2.1,s,d)) else
 (bif ye (yE (yak (yam (yad a) ((yad a).2.2.2.2.2.1,s,d))) s d) then 6 else 0,yE (yak (yam (yad a) ((yad a).2.2.2.2.2.1,s,d))) s d)
theorem yNR (a:dA):(checkA a).2.1=a.2.1:=by
 unfold checkA
 cases ye (yK a)
 ·exact (ynm (yOM (yiv (yK a)))).trans (show (yK a).2.1=a.2.1 from ynm (ywl a))
 ·exact ynm (ywl a)
theorem y5G (a:dA):(yad a).2.1=a.2.1:=by
 unfold yad
 cases leb 4 (IntKind.i64.wrap (a.2.2.2.2.2.1 - a.2.2.2.2.2.2.1))
 ·rfl
 ·exact yNR a
end
section
def yM6:Code:=(Tryz.f237.body).getD .skip
def yNs:Env:=zj3 TT [(126,yy),(228,ynk)] []
theorem yXt:FrOk Tryz.prog ⟨yNs,22,fun _=>none⟩ yM6:=zj7 yb yc ⟨yN,yx5,trivial⟩
def yZW:Nat→Option Seg:=fun _=>none
abbrev yq6:List Par:= [.rd tN]
abbrev ywY:List OT:= [⟨false,tB,.fz⟩]
def yzU (a0:dN):Option (ResD ywY×MutD yq6) :=
 let r1:=yf a0.1 0 60000
 bif r1 then
 let r2:=yf a0.2.1 0 7
 bif r2 then
 let r3:=yf (a0.2.2.length:Int) 2 4
 bif r3 then
 let r4:=yaf a0.2.2
 some ((r4,()),())
 else
 some ((false,()),())
 else
 some ((false,()),())
 else
 some ((false,()),())
theorem y4u (x:InD yq6):zjx ⟨yNs,22,yZW⟩ Tryz.f237.results.toList yM6 yq6 ywY x=yzU x.1:=by kernel_rfl
theorem y1u:ConOk Tryz.prog 237 ⟨yq6,ywY,fun x=>yzU x.1⟩:=zj2 (yXt) Tryz.func237 (by kernel_rfl) (by kernel_rfl) Tryz.ntmps237.symm (by decide) (fun x r h=>(y4u x).trans h)
def yrI (a0:dN):Bool :=
 let r1:=yf a0.1 0 60000
 bif r1 then
 let r2:=yf a0.2.1 0 7
 bif r2 then
 let r3:=yf (a0.2.2.length:Int) 2 4
 bif r3 then
 let r4:=yaf a0.2.2
 r4
 else
 false
 else
 false
 else
 false
def yJj:Con:=⟨yq6,ywY,fun x=>(fun n=>some ((n,()),())) (yrI x.1)⟩
theorem y3J (a0:dN):yzU a0=(fun n=>some ((n,()),())) (yrI a0):=zkq (p:=fun (n:Bool)=>((n,()),())) (zkc (p:=fun (n:Bool)=>((n,()),())) (zkc (p:=fun (n:Bool)=>((n,()),())) (zkc (p:=fun (n:Bool)=>((n,()),())) rfl rfl) rfl) rfl)
theorem y36:ConOk Tryz.prog 237 yJj:=(y1u).mono (fun x r _ h=>(y3J x.1).trans h)
theorem y5t (r:dN):yrI r=ycv r:=by
 unfold yrI ycv
 simp only [yag,yxR,yjb]
end
section
def yK1:Code:=(Tryz.f240.body).getD .skip
def yLy:Env:=zj3 TT [(237,yJj)] []
theorem yS9:FrOk Tryz.prog ⟨yLy,17,fun _=>none⟩ yK1:=zj7 yb yc ⟨y36,trivial⟩
def yVX:Nat→Option Seg:=fun _=>none
abbrev yiW:List Par:= [.rd tN]
abbrev yuj:List OT:= [⟨false,tL,(.ow .fz)⟩]
def yqq (a0:dN):Option (ResD yuj×MutD yiW) :=
 let r1:=yrI a0
 bif (!r1) then
 some (([],()),())
 else
 bif (zjR ([21322,a0.1,a0.2.1,(a0.2.2.length:Int)]:List Int).length a0.2.2.length 8) then
 some (((([21322,a0.1,a0.2.1,(a0.2.2.length:Int)]:List Int)++a0.2.2),()),())
 else none
theorem y22 (x:InD yiW):zjx ⟨yLy,17,yVX⟩ Tryz.f240.results.toList yK1 yiW yuj x=yqq x.1:=by kernel_rfl
theorem yYI:ConOk Tryz.prog 240 ⟨yiW,yuj,fun x=>yqq x.1⟩:=zj2 (yS9) Tryz.func240 (by kernel_rfl) (by kernel_rfl) Tryz.ntmps240.symm (by decide) (fun x r h=>(y22 x).trans h)
def yoF (a0:dN):List Int:=yBg a0
theorem y0W (a0:dN) (hk:zi2 yiW (a0,())):yqq a0=(fun n=>some ((n,()),())) (yoF a0):=by
 unfold yqq yoF yBg
 simp only [y5t]
 cases hr:ycv a0
 ·rfl
 ·have:=(y2N.1 hr).2.2.1
  rw [zkb.2 (show (([21322,a0.1,a0.2.1,(a0.2.2.length:Int)]:List Int).length+a0.2.2.length) * 8≤140737488355328 by simp only [List.length_cons,List.length_nil]; omega)]; rfl
def yHj:Con:=⟨yiW,yuj,fun x=>(fun n=>some ((n,()),())) (yoF x.1)⟩
theorem y1X:ConOk Tryz.prog 240 yHj:=(yYI).mono (fun x r hk h=>(y0W x.1 hk).trans h)
end
section
def ygw:Code:=(Tryz.f164.body).getD .skip
def ykR:Env:=zj3 TT [(107,yko),(157,yHk),(202,yla),(240,yHj)] []
theorem yKi:FrOk Tryz.prog ⟨ykR,26,fun _=>none⟩ ygw:=zj7 yb yc ⟨ytw,y1Y,yvD,y1X,trivial⟩
def yyD:Nat→Option Seg:=fun _=>none
def yaz:Shape:=⟨[(0,false,[.ptr 1000000000 0]),(3,false,[.ptr 0 0]),(10,false,[.int .i64]),(11,false,[.int .i64])],[(0,[.int .i64,.int .i64,.br tI]),(1000000000,[.int .i64,.int .i64,.int .i64,.at 800000000,.int .i64,.int .i64,.int .i64,.int .i64,.int .i64,.at 800000001,.int .i64,.bool,.bool])],[(800000000,tM,(.pr (.ow (.ow .fz)) (.pr (.ow (.pr .fz (.ow .fz))) (.pr .fz (.ow .fz))))),(800000001,tW,(.pr .fz (.ow .fz)))]⟩
def ydO:Shape:=⟨[(0,false,[.ptr 1000000000 0]),(3,false,[.ptr 0 0]),(10,false,[.int .i64]),(11,false,[.ci .i64 0])],[(0,[.int .i64,.int .i64,.br tI]),(1000000000,[.int .i64,.int .i64,.int .i64,.at 800000000,.int .i64,.int .i64,.int .i64,.int .i64,.int .i64,.at 800000001,.int .i64,.bool,.bool])],[(800000000,tM,(.pr (.ow (.ow .fz)) (.pr (.ow (.pr .fz (.ow .fz))) (.pr .fz (.ow .fz))))),(800000001,tW,(.pr .fz (.ow .fz)))]⟩
def ydL:Shape:=⟨[(0,false,[.ptr 1000000000 0])],[(1000000000,[.int .i64,.int .i64,.int .i64,.at 800000000,.int .i64,.int .i64,.int .i64,.int .i64,.int .i64,.at 800000001,.int .i64,.bool,.bool])],[(800000000,tM,(.pr (.ow (.ow .fz)) (.pr (.ow (.pr .fz (.ow .fz))) (.pr .fz (.ow .fz))))),(800000001,tW,(.pr .fz (.ow .fz)))]⟩
def ydR:Shape:=⟨[(4,false,[.bool])],[(1000000000,[.int .i64,.int .i64,.int .i64,.at 800000000,.int .i64,.int .i64,.int .i64,.int .i64,.int .i64,.at 800000001,.int .i64,.bool,.bool])],[(800000000,tM,(.pr (.ow (.ow .fz)) (.pr (.ow (.pr .fz (.ow .fz))) (.pr .fz (.ow .fz))))),(800000001,tW,(.pr .fz (.ow .fz)))]⟩
abbrev ymt (v0 v1:Int) (v2:dN) (v3:dA):(yaz).X:=((((),()),((),()),(v0,()),(v1,()),()),((v2.1,v2.2.1,v2.2.2,()),(v3.1,v3.2.1.1,v3.2.1.2,(),v3.2.2.2.1,v3.2.2.2.2.1,v3.2.2.2.2.2.1,v3.2.2.2.2.2.2.1,v3.2.2.2.2.2.2.2.1,(),v3.2.2.2.2.2.2.2.2.2.1,v3.2.2.2.2.2.2.2.2.2.2.1,v3.2.2.2.2.2.2.2.2.2.2.2,()),()),(v3.2.2.1,v3.2.2.2.2.2.2.2.2.1,()))
abbrev yJG (v0:Int) (v1:dN) (v2:dA):(ydO).X:=((((),()),((),()),(v0,()),((),()),()),((v1.1,v1.2.1,v1.2.2,()),(v2.1,v2.2.1.1,v2.2.1.2,(),v2.2.2.2.1,v2.2.2.2.2.1,v2.2.2.2.2.2.1,v2.2.2.2.2.2.2.1,v2.2.2.2.2.2.2.2.1,(),v2.2.2.2.2.2.2.2.2.2.1,v2.2.2.2.2.2.2.2.2.2.2.1,v2.2.2.2.2.2.2.2.2.2.2.2,()),()),(v2.2.2.1,v2.2.2.2.2.2.2.2.2.1,()))
abbrev ymw (v0:dA):(ydL).X:=((((),()),()),((v0.1,v0.2.1.1,v0.2.1.2,(),v0.2.2.2.1,v0.2.2.2.2.1,v0.2.2.2.2.2.1,v0.2.2.2.2.2.2.1,v0.2.2.2.2.2.2.2.1,(),v0.2.2.2.2.2.2.2.2.2.1,v0.2.2.2.2.2.2.2.2.2.2.1,v0.2.2.2.2.2.2.2.2.2.2.2,()),()),(v0.2.2.1,v0.2.2.2.2.2.2.2.2.1,()))
abbrev ymz (v0:Bool) (v1:dA):(ydR).X:=(((v0,()),()),((v1.1,v1.2.1.1,v1.2.1.2,(),v1.2.2.2.1,v1.2.2.2.2.1,v1.2.2.2.2.2.1,v1.2.2.2.2.2.2.1,v1.2.2.2.2.2.2.2.1,(),v1.2.2.2.2.2.2.2.2.2.1,v1.2.2.2.2.2.2.2.2.2.2.1,v1.2.2.2.2.2.2.2.2.2.2.2,()),()),(v1.2.2.1,v1.2.2.2.2.2.2.2.2.1,()))
def ymU (v0 v1 v2 v3:Int) (v4:List Int) (v5 v6 v7 v8 v9 v10 v11 v12 v13:Int) (v14 v15:Bool) (v16:List dM) (v17:List dW):Option ((yaz).X ⊕ ((ydL).X ⊕ (ydR).X)) :=
 bif (ltb v1 v0) then
 let r4:=yuP v2
 let r5:=yoF (v2,v3,v4)
 bnd (ye7 (v5,(v6,v7),v16,v8,v9,v10,v11,v12,v17,v13,v14,v15) v1 r4 r5) fun r6 =>
 bif (!r6.1.1) then
 some (.inr (.inr (((false,()),()),((r6.2.1.1,r6.2.1.2.1.1,r6.2.1.2.1.2,(),r6.2.1.2.2.2.1,r6.2.1.2.2.2.2.1,r6.2.1.2.2.2.2.2.1,r6.2.1.2.2.2.2.2.2.1,r6.2.1.2.2.2.2.2.2.2.1,(),r6.2.1.2.2.2.2.2.2.2.2.2.1,r6.2.1.2.2.2.2.2.2.2.2.2.2.1,r6.2.1.2.2.2.2.2.2.2.2.2.2.2,()),()),(r6.2.1.2.2.1,r6.2.1.2.2.2.2.2.2.2.2.1,()))))
 else
 some (.inl ((((),()),((),()),(v0,()),((IntKind.i64.wrap (v1+1)),()),()),((v2,v3,v4,()),(r6.2.1.1,r6.2.1.2.1.1,r6.2.1.2.1.2,(),r6.2.1.2.2.2.1,r6.2.1.2.2.2.2.1,r6.2.1.2.2.2.2.2.1,r6.2.1.2.2.2.2.2.2.1,r6.2.1.2.2.2.2.2.2.2.1,(),r6.2.1.2.2.2.2.2.2.2.2.2.1,r6.2.1.2.2.2.2.2.2.2.2.2.2.1,r6.2.1.2.2.2.2.2.2.2.2.2.2.2,()),()),(r6.2.1.2.2.1,r6.2.1.2.2.2.2.2.2.2.2.1,())))
 else
 some (.inr (.inl ((((),()),()),((v5,v6,v7,(),v8,v9,v10,v11,v12,(),v13,v14,v15,()),()),(v16,v17,()))))
def yaO (x:(yaz).X):=ymU x.1.2.2.1.1 x.1.2.2.2.1.1 x.2.1.1.1 x.2.1.1.2.1 x.2.1.1.2.2.1 x.2.1.2.1.1 x.2.1.2.1.2.1 x.2.1.2.1.2.2.1 x.2.1.2.1.2.2.2.2.1 x.2.1.2.1.2.2.2.2.2.1 x.2.1.2.1.2.2.2.2.2.2.1 x.2.1.2.1.2.2.2.2.2.2.2.1 x.2.1.2.1.2.2.2.2.2.2.2.2.1 x.2.1.2.1.2.2.2.2.2.2.2.2.2.2.1 x.2.1.2.1.2.2.2.2.2.2.2.2.2.2.2.1 x.2.1.2.1.2.2.2.2.2.2.2.2.2.2.2.2.1 x.2.2.1 x.2.2.2.1
def ywb (x:(ydO).X):(yaz).X:=((((),()),((),()),(x.1.2.2.1.1,()),(0,()),()),((x.2.1.1.1,x.2.1.1.2.1,x.2.1.1.2.2.1,()),(x.2.1.2.1.1,x.2.1.2.1.2.1,x.2.1.2.1.2.2.1,(),x.2.1.2.1.2.2.2.2.1,x.2.1.2.1.2.2.2.2.2.1,x.2.1.2.1.2.2.2.2.2.2.1,x.2.1.2.1.2.2.2.2.2.2.2.1,x.2.1.2.1.2.2.2.2.2.2.2.2.1,(),x.2.1.2.1.2.2.2.2.2.2.2.2.2.2.1,x.2.1.2.1.2.2.2.2.2.2.2.2.2.2.2.1,x.2.1.2.1.2.2.2.2.2.2.2.2.2.2.2.2.1,()),()),(x.2.2.1,x.2.2.2.1,()))
def yxl:Code:=(zdD ygw 64 52).getD .skip
theorem yKb:zdD ygw 64 13=some (.block 0 (.loop yxl)):=by kernel_rfl
theorem yKR (x:(yaz).X):zg0 ⟨ykR,26,yyD⟩ 0 yxl 52 yaz ydL ydR x=yaO x:=by kernel_rfl
def ywe (x:(ydO).X):Nat:=18446744073709551616
def ym2 (x:(ydO).X):Option ((ydL).X ⊕ (ydR).X):=zz yaO (ywe x) (ywb x)
def ywi:Seg:=⟨ydO,ydL,ydR,ym2⟩
def yyE:Nat→Option Seg:=fun q=>bif Nat.beq q 13 then some ywi else yyD q
theorem yKj:FrOk Tryz.prog ⟨ykR,26,yyE⟩ ygw:=(yKi).loop (sg:=ywi) yaz ywb (by decide) yKb yaO ywe (by decide) (fun _=>rfl) (fun x r _ h=>h) yKR
abbrev ybT:List Par:= [.pt tA (.pr .fz (.pr (.pr .fz .fz) (.pr (.ow (.pr (.ow (.ow .fz)) (.pr (.ow (.pr .fz (.ow .fz))) (.pr .fz (.ow .fz))))) (.pr .fz (.pr .fz (.pr .fz (.pr .fz (.pr .fz (.pr (.ow (.pr .fz (.ow .fz))) (.pr .fz (.pr .fz .fz))))))))))),.rd tN]
abbrev ygY:List OT:= [⟨false,tB,.fz⟩]
def yiN (a0:dA) (a1:dN):Option (ResD ygY×MutD ybT) :=
 zjZ (ym2 ((((),()),((),()),((a0.2.2.1.length:Int),()),((),()),()),((a1.1,a1.2.1,a1.2.2,()),(a0.1,a0.2.1.1,a0.2.1.2,(),a0.2.2.2.1,a0.2.2.2.2.1,a0.2.2.2.2.2.1,a0.2.2.2.2.2.2.1,a0.2.2.2.2.2.2.2.1,(),a0.2.2.2.2.2.2.2.2.2.1,a0.2.2.2.2.2.2.2.2.2.2.1,a0.2.2.2.2.2.2.2.2.2.2.2,()),()),(a0.2.2.1,a0.2.2.2.2.2.2.2.2.1,()))) (fun y6 =>
 bnd (ygd (y6.2.1.1.1,(y6.2.1.1.2.1,y6.2.1.1.2.2.1),y6.2.2.1,y6.2.1.1.2.2.2.2.1,y6.2.1.1.2.2.2.2.2.1,y6.2.1.1.2.2.2.2.2.2.1,y6.2.1.1.2.2.2.2.2.2.2.1,y6.2.1.1.2.2.2.2.2.2.2.2.1,y6.2.2.2.1,y6.2.1.1.2.2.2.2.2.2.2.2.2.2.1,y6.2.1.1.2.2.2.2.2.2.2.2.2.2.2.1,y6.2.1.1.2.2.2.2.2.2.2.2.2.2.2.2.1)) fun r8 =>
 some ((r8.1.1,()),(r8.2.1,()))) (fun y6 =>
 some ((y6.1.1.1,()),((y6.2.1.1.1,(y6.2.1.1.2.1,y6.2.1.1.2.2.1),y6.2.2.1,y6.2.1.1.2.2.2.2.1,y6.2.1.1.2.2.2.2.2.1,y6.2.1.1.2.2.2.2.2.2.1,y6.2.1.1.2.2.2.2.2.2.2.1,y6.2.1.1.2.2.2.2.2.2.2.2.1,y6.2.2.2.1,y6.2.1.1.2.2.2.2.2.2.2.2.2.2.1,y6.2.1.1.2.2.2.2.2.2.2.2.2.2.2.1,y6.2.1.1.2.2.2.2.2.2.2.2.2.2.2.2.1),())))
theorem yQk (x:InD ybT):zjx ⟨ykR,26,yyE⟩ Tryz.f164.results.toList ygw ybT ygY x=yiN x.1 x.2.1:=by kernel_rfl
theorem yMP:ConOk Tryz.prog 164 ⟨ybT,ygY,fun x=>yiN x.1 x.2.1⟩:=zj2 (yKj) Tryz.func164 (by kernel_rfl) (by kernel_rfl) Tryz.ntmps164.symm (by decide) (fun x r h=>(yQk x).trans h)
def yg4 (a0:dA) (a1:dN):Bool×dA:=(!(ye (yam a0 a1)),yam a0 a1)
def yg6 (a0:dA) (a1:dN):Bool:= !(ye a0)
theorem yO9 (a0:dA) (a1:dN) (hk:zi2 ybT (a0,a1,())) (hq:yg6 a0 a1=true):yiN a0 a1=(fun n=>some ((n.1,()),(n.2,()))) (yg4 a0 a1):=by
 have hb:a0.2.2.1.length * 80≤2 ^ 47:=hk.1.2.2.1.1
 have hd0:ye a0=false:=by simpa [yg6] using hq
 have h1:ym2 (yJG a0.2.2.1.length a1 a0)=some (bif ye ((List.range a0.2.2.1.length).foldl (yeS a1) a0) then .inr (ymz false ((List.range a0.2.2.1.length).foldl (yeS a1) a0)) else .inl (ymw ((List.range a0.2.2.1.length).foldl (yeS a1) a0))):=by
  have:=zj8 (step:=yaO) a0.2.2.1.length (fun i s=>ymt a0.2.2.1.length i a1 s) (fun i s=>bif ye (yeS a1 s i) then (.inr (yeS a1 s i):dA ⊕ dA) else .inl (yeS a1 s i)) (fun _ s=>s.2.2.1.length=a0.2.2.1.length∧ye s=false) id
   (fun b=>bif ye b then .inr (ymz false b) else .inl (ymw b)) (fun i s hi hs=>by
    constructor
    ·simp only [yaO,ymt,ymU,zj5 (show (i:Int) < a0.2.2.1.length by omega),cond_true,wr (show -9223372036854775808≤(i:Int)+1 by omega) (by omega),Int.natCast_add,Int.natCast_one,Int.toNat_natCast,zks,y4W,yoF]
     rw [ytx s i (yew a1.1) (yBg a1) (by unfold ycU; rw [zkm (by rw [hs.1]; exact hi),hs.2]; rfl)]
     simp only [zkd,ycR]
     rw [show yds s i (yew a1.1) (yBg a1)=yeS a1 s i from rfl]
     cases hd:ye (yeS a1 s i)
     ·rfl
     ·simp only [hd,Bool.not_true,Bool.not_false,cond_true,ymz]
    ·intro s' h
     cases hd:ye (yeS a1 s i)
     ·rw [hd]at h
      cases h
      exact ⟨(ysV a1 s i).trans hs.1,hd⟩
     ·rw [hd]at h; cases h) (fun s hs=>by simp only [yaO,ymt,ymU,hs.2,zky (Int.le_refl _),cond_false,id,ymw]) a0 ⟨rfl,hd0⟩ 18446744073709551616 (by omega)
  rw [yE6 (fun a i h=>y5y a1 i h),← List.range_eq_range'] at this
  exact this
 unfold yiN yg4 yam
 refine (congrArg (fun z=>zjZ z _ _) h1).trans ?_
 cases hd:ye ((List.range a0.2.2.1.length).foldl (yeS a1) a0)
 ·simp only [cond_false,zki,zks]
  rw [yvF _ (by unfold yge; rw [hd]; rfl)]; rfl
 ·rw [y2P hd]
  simp only [cond_true,zkj,zks]
  rw [hd]; rfl
def yd8 (a0:dA) (a1:dN):Option (ResD ygY×MutD ybT):=bif yg6 a0 a1 then (fun n=>some ((n.1,()),(n.2,()))) (yg4 a0 a1) else none
theorem yPr (a0:dA) (a1:dN) (h:yg6 a0 a1=true):yd8 a0 a1=(fun n=>some ((n.1,()),(n.2,()))) (yg4 a0 a1):=by unfold yd8; rw [h]; rfl
def yyO:Con:=⟨ybT,ygY,fun x=>yd8 x.1 x.2.1⟩
theorem yPl:ConOk Tryz.prog 164 yyO:=(yMP).mono (fun x r hk h=>zkt h (fun hq=>yO9 x.1 x.2.1 hk hq))
end
section
def yK0:Code:=(Tryz.f47.body).getD .skip
def yLx:Env:=zj3 TT [(126,yy)] []
theorem yS8:FrOk Tryz.prog ⟨yLx,34,fun _=>none⟩ yK0:=zj7 yb yc ⟨yN,trivial⟩
def yVW:Nat→Option Seg:=fun _=>none
abbrev yiV:List Par:= [.rd tA,.rd tI,.rd tI]
abbrev yui:List OT:= [⟨false,tB,.fz⟩]
def yqp (a0:dA) (a1 a2:Int):Option (ResD yui×MutD yiV) :=
 let r1:=yf a1 0 (IntKind.i64.wrap ((a0.2.2.1.length:Int) - 1))
 bif r1 then
 bif (inb a1 a0.2.2.1.length) then
 bif (!((((nth a0.2.2.1 a1 ([],[],false,[])).2).2).1)) then
 bif (!(a0.2.2.2.1 !=a1)) then
 some (((ltb a2 a0.2.2.2.2.1),()),())
 else
 some ((true,()),())
 else
 some ((false,()),())
 else none
 else
 some ((false,()),())
theorem y21 (x:InD yiV):zjx ⟨yLx,34,yVW⟩ Tryz.f47.results.toList yK0 yiV yui x=yqp x.1 x.2.1 x.2.2.1:=by kernel_rfl
theorem yYH:ConOk Tryz.prog 47 ⟨yiV,yui,fun x=>yqp x.1 x.2.1 x.2.2.1⟩:=zj2 (yS8) Tryz.func47 (by kernel_rfl) (by kernel_rfl) Tryz.ntmps47.symm (by decide) (fun x r h=>(y21 x).trans h)
def ygr (a0:dA) (a1 a2:Int):Bool:=yda a0 a1 a2
theorem y0V (a0:dA) (a1 a2:Int) (hk:zi2 yiV (a0,a1,a2,())):yqp a0 a1 a2=(fun n=>some ((n,()),())) (ygr a0 a1 a2):=by
 have hb:a0.2.2.1.length * 80≤2 ^ 47:=hk.1.2.2.1.1
 unfold yqp ygr yda noMem
 rw [yag,yru (show a0.2.2.1.length≤1152921504606846976 by omega),bne_comm]
 cases inb a1 a0.2.2.1.length
 ·rfl
 ·cases (nth a0.2.2.1 a1 ([],[],false,[])).2.2.1<;>cases (a1 !=a0.2.2.2.1)<;>rfl
def yxr:Con:=⟨yiV,yui,fun x=>(fun n=>some ((n,()),())) (ygr x.1 x.2.1 x.2.2.1)⟩
theorem yJS:ConOk Tryz.prog 47 yxr:=(yYH).mono (fun x r hk h=>(y0V x.1 x.2.1 x.2.2.1 hk).trans h)
end
section
def yKY:Code:=(Tryz.f108.body).getD .skip
def yLv:Env:=zj3 TT [(126,yy)] []
theorem yS4:FrOk Tryz.prog ⟨yLv,9,fun _=>none⟩ yKY:=zj7 yb yc ⟨yN,trivial⟩
def yVU:Nat→Option Seg:=fun _=>none
abbrev yn3:List Par:= [.rd tI]
abbrev yuf:List OT:= [⟨false,tI,.fz⟩]
def yyb (a0:Int):Option (ResD yuf×MutD yn3) :=
 let r1:=yf a0 0 1099511627776
 bif (!r1) then
 some (((-1),()),())
 else
 some (((IntKind.i64.wrap ((IntKind.i64.wrap (a0+2))+4)),()),())
theorem y2Y (x:InD yn3):zjx ⟨yLv,9,yVU⟩ Tryz.f108.results.toList yKY yn3 yuf x=yyb x.1:=by kernel_rfl
theorem yYE:ConOk Tryz.prog 108 ⟨yn3,yuf,fun x=>yyb x.1⟩:=zj2 (yS4) Tryz.func108 (by kernel_rfl) (by kernel_rfl) Tryz.ntmps108.symm (by decide) (fun x r h=>(y2Y x).trans h)
def yoD (a0:Int):Int :=
 let r1:=yf a0 0 1099511627776
 bif (!r1) then
 (-1)
 else
 (IntKind.i64.wrap ((IntKind.i64.wrap (a0+2))+4))
def yxp:Con:=⟨yn3,yuf,fun x=>(fun n=>some ((n,()),())) (yoD x.1)⟩
theorem y0S (a0:Int):yyb a0=(fun n=>some ((n,()),())) (yoD a0):=zkq (p:=fun (n:Int)=>((n,()),())) (zkc (p:=fun (n:Int)=>((n,()),())) rfl rfl)
theorem yJQ:ConOk Tryz.prog 108 yxp:=(yYE).mono (fun x r _ h=>(y0S x.1).trans h)
end
end
end Go.Tf
