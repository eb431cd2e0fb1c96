/- Functions of the program, and what they come to. -/
import Derived.Test.YtgmadfpnljibhaaGreatExactFlushStripeF8
namespace Go.Tf
noncomputable section
open Go.Proofs
set_option synthInstance.maxHeartbeats 400000
set_option synthInstance.maxSize 10000
set_option linter.unusedVariables false
set_option linter.unusedSimpArgs false
set_option maxRecDepth 100000
section
def yJK:Code:=(Tryz.f239.body).getD .skip
def yJ9:Env:=zki TT [(135,yl),(225,ygJ)] []
theorem yTk:FrOk Tryz.prog ⟨yJ9,22,fun _=>none⟩ yJK:=zkp yb yc ⟨yp,yoF,trivial⟩
def yVH:Nat→Option Seg:=fun _=>none
abbrev ypG:List Par:= [.rd tN]
abbrev yvb:List OT:= [⟨false,tB,.fz⟩]
def yxB (a0:dN):Option (ResD yvb×MutD ypG) :=
 let r1:=ya a0.1 0 60000
 bif r1 then
 let r2:=ya a0.2.1 0 7
 bif r2 then
 let r3:=ya (a0.2.2.length:Int) 2 4
 bif r3 then
 let r4:=yF a0.2.2
 some ((r4,()),())
 else
 some ((false,()),())
 else
 some ((false,()),())
 else
 some ((false,()),())
theorem y0N (x:InD ypG):zjH ⟨yJ9,22,yVH⟩ Tryz.f239.results.toList yJK ypG yvb x=yxB x.1:=by kernel_rfl
theorem yXt:ConOk Tryz.prog 239 ⟨ypG,yvb,fun x=>yxB x.1⟩:=zkh (yTk) Tryz.func239 (by kernel_rfl) (by kernel_rfl) Tryz.ntmps239.symm (by decide) (fun x r h=>(y0N x).trans h)
def yaU (a0:dN):Bool :=
 let r1:=ya a0.1 0 60000
 bif r1 then
 let r2:=ya a0.2.1 0 7
 bif r2 then
 let r3:=ya (a0.2.2.length:Int) 2 4
 bif r3 then
 let r4:=yF a0.2.2
 r4
 else
 false
 else
 false
 else
 false
def yGR:Con:=⟨ypG,yvb,fun x=>(fun n=>some ((n,()),())) (yaU x.1)⟩
theorem yZB (a0:dN):yxB a0=(fun n=>some ((n,()),())) (yaU a0):=zkS (p:=fun (n:Bool)=>((n,()),())) (zkx (p:=fun (n:Bool)=>((n,()),())) (zkx (p:=fun (n:Bool)=>((n,()),())) (zkx (p:=fun (n:Bool)=>((n,()),())) rfl rfl) rfl) rfl)
theorem yZ7:ConOk Tryz.prog 239 yGR:=(yXt).mono (fun x r _ h=>(yZB x.1).trans h)
abbrev y3L:dN:=(0,0,[])
def yy5 (r:dN):List Int:=bif yaU r then 21322::r.1::r.2.1::(r.2.2.length:Int)::r.2.2 else []
def y2Z (l:List Int):dN:=(nth l 1 0,nth l 2 0,l.drop 4)
def y4o (l:List Int):dN×Bool:=bif leb 4 (l.length:Int)&&(nth l 0 0==21322&&(nth l 3 0==(l.length:Int) - 4&&yaU (y2Z l))) then (y2Z l,true) else (y3L,false)
theorem yYp {r:dN}:yaU r=true↔(0≤r.1∧r.1≤60000)∧(0≤r.2.1∧r.2.1≤7)∧(2≤(r.2.2.length:Int)∧(r.2.2.length:Int)≤4)∧r.2.2.all isW=true:=by
 unfold yaU
 simp only [yne,← yr9]
 cases ya r.1 0 60000<;>cases ya r.2.1 0 7<;>cases ya (r.2.2.length:Int) 2 4<;>simp
def yfU (r:dN) (a:dA) (i:Nat):dA:=yeF a i (ydC r.1) (yy5 r)
def yaj (a:dA) (r:dN):dA:=yw ((List.range a.2.2.1.length).foldl (yfU r) a)
theorem yBD (r:dN) (a:dA) (i:Nat):(yfU r a i).2.2.1.length=a.2.2.1.length:=yxg _ _ _ _
theorem y1y (r:dN) {a:dA} (i:Nat) (h:yd a=true):yfU r a i=a:=yRn h _ _ _
theorem y1M (a:dA) (r:dN):(yaj a r).2.2.1.length=a.2.2.1.length:=(yDV _).trans (ypO (yBD r) _ _)
theorem yRD (a:dA) (r:dN):y9 (yaj a r)=y9 a:=(yFG _).trans (yyH (one:=yfU r) (fun _ _=>yRm _ _ _ _) _ _)
theorem yLs {one:dA→Nat→dA} {d:List dW} (hl: ∀ a i,(one a i).2.2.1.length=a.2.2.1.length) (ho: ∀ a i,ydF d a→i < a.2.2.1.length→ydF d (one a i)): ∀ (n:Nat) (a:dA),n≤a.2.2.1.length→ydF d a→ydF d ((List.range n).foldl one a)
 | 0,_,_,h=>h
 | n+1,a,hn,h=>by
  rw [List.range_succ,List.foldl_append]
  exact ho _ _ (yLs hl ho n a (by omega) h) (by rw [ypO hl]; exact hn)
theorem y2L {d:List dW} {a:dA} (r:dN) (h:ydF d a):ydF d (yaj a r):=y2p (yLs (yBD r) (fun _ _ h hi=>y05 h (zkO hi)) _ a (Nat.le_refl _) h)
def yxP (p N x:Int) (data:List Int) (i:Int):Int:=bif i==p then x else nth data ((i - p - 1+N).tmod N) 0
def yd6 (p N s:Int) (data:List Int) (a:dA) (i:Nat):dA:=bif yfN a i s then yeF a i (yr6 s) [yxP p N (ye7 data) data i] else a
def yI (a:dA) (s:Int) (data:List Int):dA:=(List.range a.2.2.1.length).foldl (yd6 (yg a.2.1 s) a.2.1.1 s data) a
theorem yxO (p N s:Int) (data:List Int) (a:dA) (i:Nat):(yd6 p N s data a i).2.2.1.length=a.2.2.1.length:=by
 unfold yd6; cases yfN a i s
 ·rfl
 ·exact yxg _ _ _ _
theorem y0o (p N s:Int) (data:List Int) {a:dA} (i:Nat) (h:yd a=true):yd6 p N s data a i=a:=by
 unfold yd6; cases yfN a i s
 ·rfl
 ·exact yRn h _ _ _
theorem yKt (p N s:Int) (data:List Int) (a:dA) (i:Nat):y9 (yd6 p N s data a i)=y9 a:=by
 unfold yd6; cases yfN a i s
 ·rfl
 ·exact yRm _ _ _ _
theorem y38 (a:dA) (s:Int) (data:List Int):(yI a s data).2.2.1.length=a.2.2.1.length:=ypO (yxO _ _ _ _) _ _
theorem y2b (a:dA) (s:Int) (data:List Int):y9 (yI a s data)=y9 a:=yyH (yKt _ _ _ _) _ _
theorem y2n {d:List dW} {a:dA} (s:Int) (data:List Int) (h:ydF d a):ydF d (yI a s data):=yLs (yxO _ _ _ _) (fun a i h hi=>by
 unfold yd6; cases yfN a i s
 ·exact h
 ·exact y05 h (zkO hi)) _ a (Nat.le_refl _) h
theorem y39 {N i p:Int} (h:3≤N∧N≤5) (hi:0≤i∧i < N) (hp:0≤p∧p≤N - 1) (hne:i≠p):0≤(i - p - 1+N).tmod N∧(i - p - 1+N).tmod N < N - 1:=by
 rw [Int.tmod_eq_emod_of_nonneg (by omega)]
 have:N=3∨N=4∨N=5:=by omega
 rcases this with rfl | rfl | rfl<;>omega
theorem y16 {N p x:Int} {data:List Int} (h:3≤N∧N≤5) (hp:0≤p∧p≤N - 1) (hd:(data.length:Int)=N - 1) :
  (List.range data.length).foldl (fun l (i:Nat)=>l.set ((p+1+i).tmod N).toNat (nth data i 0)) ((List.replicate N.toNat 0).set p.toNat x)=(List.range N.toNat).map (fun (i:Nat)=>yxP p N x data i):=by
 have:N=3∨N=4∨N=5:=by omega
 rcases this with rfl | rfl | rfl
 ·match data,hd with
  | [a,b],_ =>
   have:p=0∨p=1∨p=2:=by omega
   rcases this with rfl | rfl | rfl<;>simp [yxP,nth,List.range_succ,List.replicate_succ]
  | [],hd=>simp at hd
  | [_],hd=>simp at hd
  | _::_::_::_,hd=>simp only [List.length_cons]at hd; omega
 ·match data,hd with
  | [a,b,c],_ =>
   have:p=0∨p=1∨p=2∨p=3:=by omega
   rcases this with rfl | rfl | rfl | rfl<;>simp [yxP,nth,List.range_succ,List.replicate_succ]
  | [],hd=>simp at hd
  | [_],hd=>simp at hd
  | [_,_],hd=>simp at hd
  | _::_::_::_::_,hd=>simp only [List.length_cons]at hd; omega
 ·match data,hd with
  | [a,b,c,d],_ =>
   have:p=0∨p=1∨p=2∨p=3∨p=4:=by omega
   rcases this with rfl | rfl | rfl | rfl | rfl<;>simp [yxP,nth,List.range_succ,List.replicate_succ]
  | [],hd=>simp at hd
  | [_],hd=>simp at hd
  | [_,_],hd=>simp at hd
  | [_,_,_],hd=>simp at hd
  | _::_::_::_::_::_,hd=>simp only [List.length_cons]at hd; omega
def ycC (a:dA):dA:=bif leb 4 (IntKind.i64.wrap (a.2.2.2.2.2.1 - a.2.2.2.2.2.2.1)) then yu a else a
def yaW (a:dA) (s:Int) (d:List Int):Int×dA :=
 bif yd (ycC a) then (6,ycC a) else
 bif yd (yaj (ycC a) ((ycC a).2.2.2.2.2.1,s,d)) then (6,yaj (ycC a) ((ycC a).2.2.2.2.2.1,s,d)) else
 (bif yd (yI (yak (yaj (ycC a) ((ycC a).2.2.2.2.2.1,s,d))) s d) then 6 else 0,yI (yak (yaj (ycC a) ((ycC a).2.2.2.2.2.1,s,d))) s d)
theorem yKs (a:dA):(yu a).2.1=a.2.1:=by
 unfold yu
 cases yd (yw a)
 ·exact (yw9 (y2h (ynf (yw a)))).trans (show (yw a).2.1=a.2.1 from yw9 (yFG a))
 ·exact yw9 (yFG a)
theorem y4h (a:dA):(ycC a).2.1=a.2.1:=by
 unfold ycC
 cases leb 4 (IntKind.i64.wrap (a.2.2.2.2.2.1 - a.2.2.2.2.2.2.1))
 ·rfl
 ·exact yKs a
theorem y4i (a:dA):(ycC a).2.2.1.length=a.2.2.1.length:=by
 unfold ycC
 cases leb 4 (IntKind.i64.wrap (a.2.2.2.2.2.1 - a.2.2.2.2.2.2.1))
 ·rfl
 ·exact yua a
end
section
def yJu:Code:=(Tryz.f237.body).getD .skip
def yJT:Env:=zki TT [(126,yv),(228,ylW)] []
theorem ySS:FrOk Tryz.prog ⟨yJT,22,fun _=>none⟩ yJu:=zkp yb yc ⟨yP,yvQ,trivial⟩
def yVr:Nat→Option Seg:=fun _=>none
abbrev yps:List Par:= [.rd tN]
abbrev yuQ:List OT:= [⟨false,tB,.fz⟩]
def yxm (a0:dN):Option (ResD yuQ×MutD yps) :=
 let r1:=ye a0.1 0 60000
 bif r1 then
 let r2:=ye a0.2.1 0 7
 bif r2 then
 let r3:=ye (a0.2.2.length:Int) 2 4
 bif r3 then
 let r4:=yM a0.2.2
 some ((r4,()),())
 else
 some ((false,()),())
 else
 some ((false,()),())
 else
 some ((false,()),())
theorem y0s (x:InD yps):zjH ⟨yJT,22,yVr⟩ Tryz.f237.results.toList yJu yps yuQ x=yxm x.1:=by kernel_rfl
theorem yW8:ConOk Tryz.prog 237 ⟨yps,yuQ,fun x=>yxm x.1⟩:=zkh (ySS) Tryz.func237 (by kernel_rfl) (by kernel_rfl) Tryz.ntmps237.symm (by decide) (fun x r h=>(y0s x).trans h)
def ypX (a0:dN):Bool :=
 let r1:=ye a0.1 0 60000
 bif r1 then
 let r2:=ye a0.2.1 0 7
 bif r2 then
 let r3:=ye (a0.2.2.length:Int) 2 4
 bif r3 then
 let r4:=yM a0.2.2
 r4
 else
 false
 else
 false
 else
 false
def yGz:Con:=⟨yps,yuQ,fun x=>(fun n=>some ((n,()),())) (ypX x.1)⟩
theorem yZg (a0:dN):yxm a0=(fun n=>some ((n,()),())) (ypX a0):=zkS (p:=fun (n:Bool)=>((n,()),())) (zkx (p:=fun (n:Bool)=>((n,()),())) (zkx (p:=fun (n:Bool)=>((n,()),())) (zkx (p:=fun (n:Bool)=>((n,()),())) rfl rfl) rfl) rfl)
theorem yZQ:ConOk Tryz.prog 237 yGz:=(yW8).mono (fun x r _ h=>(yZg x.1).trans h)
theorem y1v (r:dN):ypX r=yaU r:=by
 unfold ypX yaU
 simp only [yaB,yvE,yne]
end
section
def yHW:Code:=(Tryz.f240.body).getD .skip
def yIl:Env:=zki TT [(237,yGz)] []
theorem yO4:FrOk Tryz.prog ⟨yIl,17,fun _=>none⟩ yHW:=zkp yb yc ⟨yZQ,trivial⟩
def yRL:Nat→Option Seg:=fun _=>none
abbrev yhl:List Par:= [.rd tN]
abbrev ysv:List OT:= [⟨false,tL,(.ow .fz)⟩]
def yoI (a0:dN):Option (ResD ysv×MutD yhl) :=
 let r1:=ypX a0
 bif (!r1) then
 some (([],()),())
 else
 bif (zj4 ([21322,a0.1,a0.2.1,(a0.2.2.length:Int)]:List Int).length a0.2.2.length 8) then
 some (((([21322,a0.1,a0.2.1,(a0.2.2.length:Int)]:List Int)++a0.2.2),()),())
 else none
theorem yYB (x:InD yhl):zjH ⟨yIl,17,yRL⟩ Tryz.f240.results.toList yHW yhl ysv x=yoI x.1:=by kernel_rfl
theorem yT7:ConOk Tryz.prog 240 ⟨yhl,ysv,fun x=>yoI x.1⟩:=zkh (yO4) Tryz.func240 (by kernel_rfl) (by kernel_rfl) Tryz.ntmps240.symm (by decide) (fun x r h=>(yYB x).trans h)
def ym5 (a0:dN):List Int:=yy5 a0
theorem yWv (a0:dN) (hk:zi9 yhl (a0,())):yoI a0=(fun n=>some ((n,()),())) (ym5 a0):=by
 unfold yoI ym5 yy5
 simp only [y1v]
 cases hr:yaU a0
 ·rfl
 ·have:=(yYp.1 hr).2.2.1
  rw [zkw.2 (show (([21322,a0.1,a0.2.1,(a0.2.2.length:Int)]:List Int).length+a0.2.2.length) * 8≤140737488355328 by simp only [List.length_cons,List.length_nil]; omega)]; rfl
def yFb:Con:=⟨yhl,ysv,fun x=>(fun n=>some ((n,()),())) (ym5 x.1)⟩
theorem yXF:ConOk Tryz.prog 240 yFb:=(yT7).mono (fun x r hk h=>(yWv x.1 hk).trans h)
end
section
def yfm:Code:=(Tryz.f164.body).getD .skip
def yjl:Env:=zki TT [(107,yiW),(157,yFc),(202,yjP),(240,yFb)] []
theorem yHu:FrOk Tryz.prog ⟨yjl,26,fun _=>none⟩ yfm:=zkp yb yc ⟨yrH,yXG,ytI,yXF,trivial⟩
def ywg:Nat→Option Seg:=fun _=>none
def yae:Shape:=⟨[(0,false,[.ptr 1000000000 0]),(3,false,[.ptr 0 0]),(10,false,[.int .i64]),(11,false,[.int .i64])],[(0,[.int .i64,.int .i64,.br tI]),(1000000000,[.int .i64,.int .i64,.int .i64,.at 800000000,.int .i64,.int .i64,.int .i64,.int .i64,.int .i64,.at 800000001,.int .i64,.bool,.bool])],[(800000000,tM,(.pr (.ow (.ow .fz)) (.pr (.ow (.pr .fz (.ow .fz))) (.pr .fz (.ow .fz))))),(800000001,tW,(.pr .fz (.ow .fz)))]⟩
def ycV:Shape:=⟨[(0,false,[.ptr 1000000000 0]),(3,false,[.ptr 0 0]),(10,false,[.int .i64]),(11,false,[.ci .i64 0])],[(0,[.int .i64,.int .i64,.br tI]),(1000000000,[.int .i64,.int .i64,.int .i64,.at 800000000,.int .i64,.int .i64,.int .i64,.int .i64,.int .i64,.at 800000001,.int .i64,.bool,.bool])],[(800000000,tM,(.pr (.ow (.ow .fz)) (.pr (.ow (.pr .fz (.ow .fz))) (.pr .fz (.ow .fz))))),(800000001,tW,(.pr .fz (.ow .fz)))]⟩
def ycT:Shape:=⟨[(0,false,[.ptr 1000000000 0])],[(1000000000,[.int .i64,.int .i64,.int .i64,.at 800000000,.int .i64,.int .i64,.int .i64,.int .i64,.int .i64,.at 800000001,.int .i64,.bool,.bool])],[(800000000,tM,(.pr (.ow (.ow .fz)) (.pr (.ow (.pr .fz (.ow .fz))) (.pr .fz (.ow .fz))))),(800000001,tW,(.pr .fz (.ow .fz)))]⟩
def ycX:Shape:=⟨[(4,false,[.bool])],[(1000000000,[.int .i64,.int .i64,.int .i64,.at 800000000,.int .i64,.int .i64,.int .i64,.int .i64,.int .i64,.at 800000001,.int .i64,.bool,.bool])],[(800000000,tM,(.pr (.ow (.ow .fz)) (.pr (.ow (.pr .fz (.ow .fz))) (.pr .fz (.ow .fz))))),(800000001,tW,(.pr .fz (.ow .fz)))]⟩
abbrev ykU (v0 v1:Int) (v2:dN) (v3:dA):(yae).X:=((((),()),((),()),(v0,()),(v1,()),()),((v2.1,v2.2.1,v2.2.2,()),(v3.1,v3.2.1.1,v3.2.1.2,(),v3.2.2.2.1,v3.2.2.2.2.1,v3.2.2.2.2.2.1,v3.2.2.2.2.2.2.1,v3.2.2.2.2.2.2.2.1,(),v3.2.2.2.2.2.2.2.2.2.1,v3.2.2.2.2.2.2.2.2.2.2.1,v3.2.2.2.2.2.2.2.2.2.2.2,()),()),(v3.2.2.1,v3.2.2.2.2.2.2.2.2.1,()))
abbrev yG9 (v0:Int) (v1:dN) (v2:dA):(ycV).X:=((((),()),((),()),(v0,()),((),()),()),((v1.1,v1.2.1,v1.2.2,()),(v2.1,v2.2.1.1,v2.2.1.2,(),v2.2.2.2.1,v2.2.2.2.2.1,v2.2.2.2.2.2.1,v2.2.2.2.2.2.2.1,v2.2.2.2.2.2.2.2.1,(),v2.2.2.2.2.2.2.2.2.2.1,v2.2.2.2.2.2.2.2.2.2.2.1,v2.2.2.2.2.2.2.2.2.2.2.2,()),()),(v2.2.2.1,v2.2.2.2.2.2.2.2.2.1,()))
abbrev ykW (v0:dA):(ycT).X:=((((),()),()),((v0.1,v0.2.1.1,v0.2.1.2,(),v0.2.2.2.1,v0.2.2.2.2.1,v0.2.2.2.2.2.1,v0.2.2.2.2.2.2.1,v0.2.2.2.2.2.2.2.1,(),v0.2.2.2.2.2.2.2.2.2.1,v0.2.2.2.2.2.2.2.2.2.2.1,v0.2.2.2.2.2.2.2.2.2.2.2,()),()),(v0.2.2.1,v0.2.2.2.2.2.2.2.2.1,()))
abbrev ykY (v0:Bool) (v1:dA):(ycX).X:=(((v0,()),()),((v1.1,v1.2.1.1,v1.2.1.2,(),v1.2.2.2.1,v1.2.2.2.2.1,v1.2.2.2.2.2.1,v1.2.2.2.2.2.2.1,v1.2.2.2.2.2.2.2.1,(),v1.2.2.2.2.2.2.2.2.2.1,v1.2.2.2.2.2.2.2.2.2.2.1,v1.2.2.2.2.2.2.2.2.2.2.2,()),()),(v1.2.2.1,v1.2.2.2.2.2.2.2.2.1,()))
def yld (v0 v1 v2 v3:Int) (v4:List Int) (v5 v6 v7 v8 v9 v10 v11 v12 v13:Int) (v14 v15:Bool) (v16:List dM) (v17:List dW):Option ((yae).X ⊕ ((ycT).X ⊕ (ycX).X)) :=
 bif (ltb v1 v0) then
 let r4:=ys2 v2
 let r5:=ym5 (v2,v3,v4)
 bnd (yd9 (v5,(v6,v7),v16,v8,v9,v10,v11,v12,v17,v13,v14,v15) v1 r4 r5) fun r6 =>
 bif (!r6.1.1) then
 some (.inr (.inr (((false,()),()),((r6.2.1.1,r6.2.1.2.1.1,r6.2.1.2.1.2,(),r6.2.1.2.2.2.1,r6.2.1.2.2.2.2.1,r6.2.1.2.2.2.2.2.1,r6.2.1.2.2.2.2.2.2.1,r6.2.1.2.2.2.2.2.2.2.1,(),r6.2.1.2.2.2.2.2.2.2.2.2.1,r6.2.1.2.2.2.2.2.2.2.2.2.2.1,r6.2.1.2.2.2.2.2.2.2.2.2.2.2,()),()),(r6.2.1.2.2.1,r6.2.1.2.2.2.2.2.2.2.2.1,()))))
 else
 some (.inl ((((),()),((),()),(v0,()),((IntKind.i64.wrap (v1+1)),()),()),((v2,v3,v4,()),(r6.2.1.1,r6.2.1.2.1.1,r6.2.1.2.1.2,(),r6.2.1.2.2.2.1,r6.2.1.2.2.2.2.1,r6.2.1.2.2.2.2.2.1,r6.2.1.2.2.2.2.2.2.1,r6.2.1.2.2.2.2.2.2.2.1,(),r6.2.1.2.2.2.2.2.2.2.2.2.1,r6.2.1.2.2.2.2.2.2.2.2.2.2.1,r6.2.1.2.2.2.2.2.2.2.2.2.2.2,()),()),(r6.2.1.2.2.1,r6.2.1.2.2.2.2.2.2.2.2.1,())))
 else
 some (.inr (.inl ((((),()),()),((v5,v6,v7,(),v8,v9,v10,v11,v12,(),v13,v14,v15,()),()),(v16,v17,()))))
def yap (x:(yae).X):=yld x.1.2.2.1.1 x.1.2.2.2.1.1 x.2.1.1.1 x.2.1.1.2.1 x.2.1.1.2.2.1 x.2.1.2.1.1 x.2.1.2.1.2.1 x.2.1.2.1.2.2.1 x.2.1.2.1.2.2.2.2.1 x.2.1.2.1.2.2.2.2.2.1 x.2.1.2.1.2.2.2.2.2.2.1 x.2.1.2.1.2.2.2.2.2.2.2.1 x.2.1.2.1.2.2.2.2.2.2.2.2.1 x.2.1.2.1.2.2.2.2.2.2.2.2.2.2.1 x.2.1.2.1.2.2.2.2.2.2.2.2.2.2.2.1 x.2.1.2.1.2.2.2.2.2.2.2.2.2.2.2.2.1 x.2.2.1 x.2.2.2.1
def yuc (x:(ycV).X):(yae).X:=((((),()),((),()),(x.1.2.2.1.1,()),(0,()),()),((x.2.1.1.1,x.2.1.1.2.1,x.2.1.1.2.2.1,()),(x.2.1.2.1.1,x.2.1.2.1.2.1,x.2.1.2.1.2.2.1,(),x.2.1.2.1.2.2.2.2.1,x.2.1.2.1.2.2.2.2.2.1,x.2.1.2.1.2.2.2.2.2.2.1,x.2.1.2.1.2.2.2.2.2.2.2.1,x.2.1.2.1.2.2.2.2.2.2.2.2.1,(),x.2.1.2.1.2.2.2.2.2.2.2.2.2.2.1,x.2.1.2.1.2.2.2.2.2.2.2.2.2.2.2.1,x.2.1.2.1.2.2.2.2.2.2.2.2.2.2.2.2.1,()),()),(x.2.2.1,x.2.2.2.1,()))
def yvi:Code:=(zdI yfm 64 52).getD .skip
theorem yHo:zdI yfm 64 13=some (.block 0 (.loop yvi)):=by kernel_rfl
theorem yHO (x:(yae).X):zg7 ⟨yjl,26,ywg⟩ 0 yvi 52 yae ycT ycX x=yap x:=by kernel_rfl
def yue (x:(ycV).X):Nat:=18446744073709551616
def yll (x:(ycV).X):Option ((ycT).X ⊕ (ycX).X):=zr yap (yue x) (yuc x)
def yui:Seg:=⟨ycV,ycT,ycX,yll⟩
def ywh:Nat→Option Seg:=fun q=>bif Nat.beq q 13 then some yui else ywg q
theorem yHv:FrOk Tryz.prog ⟨yjl,26,ywh⟩ yfm:=(yHu).loop (sg:=yui) yae yuc (by decide) yHo yap yue (by decide) (fun _=>rfl) (fun x r _ h=>h) yHO
abbrev ybd:List Par:= [.pt tA (.pr .fz (.pr (.pr .fz .fz) (.pr (.ow (.pr (.ow (.ow .fz)) (.pr (.ow (.pr .fz (.ow .fz))) (.pr .fz (.ow .fz))))) (.pr .fz (.pr .fz (.pr .fz (.pr .fz (.pr .fz (.pr (.ow (.pr .fz (.ow .fz))) (.pr .fz (.pr .fz .fz))))))))))),.rd tN]
abbrev yfG:List OT:= [⟨false,tB,.fz⟩]
def yhe (a0:dA) (a1:dN):Option (ResD yfG×MutD ybd) :=
 zjw (yll ((((),()),((),()),((a0.2.2.1.length:Int),()),((),()),()),((a1.1,a1.2.1,a1.2.2,()),(a0.1,a0.2.1.1,a0.2.1.2,(),a0.2.2.2.1,a0.2.2.2.2.1,a0.2.2.2.2.2.1,a0.2.2.2.2.2.2.1,a0.2.2.2.2.2.2.2.1,(),a0.2.2.2.2.2.2.2.2.2.1,a0.2.2.2.2.2.2.2.2.2.2.1,a0.2.2.2.2.2.2.2.2.2.2.2,()),()),(a0.2.2.1,a0.2.2.2.2.2.2.2.2.1,()))) (fun y6 =>
 bnd (ye5 (y6.2.1.1.1,(y6.2.1.1.2.1,y6.2.1.1.2.2.1),y6.2.2.1,y6.2.1.1.2.2.2.2.1,y6.2.1.1.2.2.2.2.2.1,y6.2.1.1.2.2.2.2.2.2.1,y6.2.1.1.2.2.2.2.2.2.2.1,y6.2.1.1.2.2.2.2.2.2.2.2.1,y6.2.2.2.1,y6.2.1.1.2.2.2.2.2.2.2.2.2.2.1,y6.2.1.1.2.2.2.2.2.2.2.2.2.2.2.1,y6.2.1.1.2.2.2.2.2.2.2.2.2.2.2.2.1)) fun r8 =>
 some ((r8.1.1,()),(r8.2.1,()))) (fun y6 =>
 some ((y6.1.1.1,()),((y6.2.1.1.1,(y6.2.1.1.2.1,y6.2.1.1.2.2.1),y6.2.2.1,y6.2.1.1.2.2.2.2.1,y6.2.1.1.2.2.2.2.2.1,y6.2.1.1.2.2.2.2.2.2.1,y6.2.1.1.2.2.2.2.2.2.2.1,y6.2.1.1.2.2.2.2.2.2.2.2.1,y6.2.2.2.1,y6.2.1.1.2.2.2.2.2.2.2.2.2.2.1,y6.2.1.1.2.2.2.2.2.2.2.2.2.2.2.1,y6.2.1.1.2.2.2.2.2.2.2.2.2.2.2.2.1),())))
theorem yMv (x:InD ybd):zjH ⟨yjl,26,ywh⟩ Tryz.f164.results.toList yfm ybd yfG x=yhe x.1 x.2.1:=by kernel_rfl
theorem yJg:ConOk Tryz.prog 164 ⟨ybd,yfG,fun x=>yhe x.1 x.2.1⟩:=zkh (yHv) Tryz.func164 (by kernel_rfl) (by kernel_rfl) Tryz.ntmps164.symm (by decide) (fun x r h=>(yMv x).trans h)
def yfP (a0:dA) (a1:dN):Bool×dA:=(!(yd (yaj a0 a1)),yaj a0 a1)
def yfS (a0:dA) (a1:dN):Bool:= !(yd a0)
theorem yLu (a0:dA) (a1:dN) (hk:zi9 ybd (a0,a1,())) (hq:yfS a0 a1=true):yhe a0 a1=(fun n=>some ((n.1,()),(n.2,()))) (yfP a0 a1):=by
 have hb:a0.2.2.1.length * 80≤2 ^ 47:=hk.1.2.2.1.1
 have hd0:yd a0=false:=by simpa [yfS] using hq
 have h1:yll (yG9 a0.2.2.1.length a1 a0)=some (bif yd ((List.range a0.2.2.1.length).foldl (yfU a1) a0) then .inr (ykY false ((List.range a0.2.2.1.length).foldl (yfU a1) a0)) else .inl (ykW ((List.range a0.2.2.1.length).foldl (yfU a1) a0))):=by
  have:=zkr (step:=yap) a0.2.2.1.length (fun i s=>ykU a0.2.2.1.length i a1 s) (fun i s=>bif yd (yfU a1 s i) then (.inr (yfU a1 s i):dA ⊕ dA) else .inl (yfU a1 s i)) (fun _ s=>s.2.2.1.length=a0.2.2.1.length∧yd s=false) id
   (fun b=>bif yd b then .inr (ykY false b) else .inl (ykW b)) (fun i s hi hs=>by
    constructor
    ·simp only [yap,ykU,yld,zjI (show (i:Int) < a0.2.2.1.length by omega),cond_true,wr (show -9223372036854775808≤(i:Int)+1 by omega) (by omega),Int.natCast_add,Int.natCast_one,Int.toNat_natCast,zkV,y00,ym5]
     rw [yrI s i (ydC a1.1) (yy5 a1) (by unfold yb4; rw [zkO (by rw [hs.1]; exact hi),hs.2]; rfl)]
     simp only [zky,yb2]
     rw [show yeF s i (ydC a1.1) (yy5 a1)=yfU a1 s i from rfl]
     cases hd:yd (yfU a1 s i)
     ·rfl
     ·simp only [hd,Bool.not_true,Bool.not_false,cond_true,ykY]
    ·intro s' h
     cases hd:yd (yfU a1 s i)
     ·rw [hd]at h
      cases h
      exact ⟨(yBD a1 s i).trans hs.1,hd⟩
     ·rw [hd]at h; cases h) (fun s hs=>by simp only [yap,ykU,yld,hs.2,zkm (Int.le_refl _),cond_false,id,ykW]) a0 ⟨rfl,hd0⟩ 18446744073709551616 (by omega)
  rw [yDm (fun a i h=>y1y a1 i h),← List.range_eq_range'] at this
  exact this
 unfold yhe yfP yaj
 refine (congrArg (fun z=>zjw z _ _) h1).trans ?_
 cases hd:yd ((List.range a0.2.2.1.length).foldl (yfU a1) a0)
 ·simp only [cond_false,zkJ,zkV]
  rw [ytJ _ (by unfold ye6; rw [hd]; rfl)]; rfl
 ·rw [yYq hd]
  simp only [cond_true,zkK,zkV]
  rw [hd]; rfl
def ydg (a0:dA) (a1:dN):Option (ResD yfG×MutD ybd):=bif yfS a0 a1 then (fun n=>some ((n.1,()),(n.2,()))) (yfP a0 a1) else none
theorem yLN (a0:dA) (a1:dN) (h:yfS a0 a1=true):ydg a0 a1=(fun n=>some ((n.1,()),(n.2,()))) (yfP a0 a1):=by unfold ydg; rw [h]; rfl
def ywm:Con:=⟨ybd,yfG,fun x=>ydg x.1 x.2.1⟩
theorem yLH:ConOk Tryz.prog 164 ywm:=(yJg).mono (fun x r hk h=>zkW h (fun hq=>yLu x.1 x.2.1 hk hq))
end
section
def yHV:Code:=(Tryz.f47.body).getD .skip
def yIk:Env:=zki TT [(126,yv)] []
theorem yO3:FrOk Tryz.prog ⟨yIk,34,fun _=>none⟩ yHV:=zkp yb yc ⟨yP,trivial⟩
def yRK:Nat→Option Seg:=fun _=>none
abbrev yhk:List Par:= [.rd tA,.rd tI,.rd tI]
abbrev ysu:List OT:= [⟨false,tB,.fz⟩]
def yoH (a0:dA) (a1 a2:Int):Option (ResD ysu×MutD yhk) :=
 let r1:=ye a1 0 (IntKind.i64.wrap ((a0.2.2.1.length:Int) - 1))
 bif r1 then
 bif (inb a1 a0.2.2.1.length) then
 bif (!((((nth a0.2.2.1 a1 ([],[],false,[])).2).2).1)) then
 bif (!(a0.2.2.2.1 !=a1)) then
 some (((ltb a2 a0.2.2.2.2.1),()),())
 else
 some ((true,()),())
 else
 some ((false,()),())
 else none
 else
 some ((false,()),())
theorem yYA (x:InD yhk):zjH ⟨yIk,34,yRK⟩ Tryz.f47.results.toList yHV yhk ysu x=yoH x.1 x.2.1 x.2.2.1:=by kernel_rfl
theorem yT6:ConOk Tryz.prog 47 ⟨yhk,ysu,fun x=>yoH x.1 x.2.1 x.2.2.1⟩:=zkh (yO3) Tryz.func47 (by kernel_rfl) (by kernel_rfl) Tryz.ntmps47.symm (by decide) (fun x r h=>(yYA x).trans h)
def ym4 (a0:dA) (a1 a2:Int):Bool:=yfN a0 a1 a2
theorem yWu (a0:dA) (a1 a2:Int) (hk:zi9 yhk (a0,a1,a2,())):yoH a0 a1 a2=(fun n=>some ((n,()),())) (ym4 a0 a1 a2):=by
 have hb:a0.2.2.1.length * 80≤2 ^ 47:=hk.1.2.2.1.1
 unfold yoH ym4 yfN yh
 rw [yaB,yvF (show a0.2.2.1.length≤1152921504606846976 by omega),bne_comm]
 cases inb a1 a0.2.2.1.length
 ·rfl
 ·cases (nth a0.2.2.1 a1 ([],[],false,[])).2.2.1<;>cases (a1 !=a0.2.2.2.1)<;>rfl
def yFa:Con:=⟨yhk,ysu,fun x=>(fun n=>some ((n,()),())) (ym4 x.1 x.2.1 x.2.2.1)⟩
theorem yXE:ConOk Tryz.prog 47 yFa:=(yT6).mono (fun x r hk h=>(yWu x.1 x.2.1 x.2.2.1 hk).trans h)
end
section
def yHT:Code:=(Tryz.f108.body).getD .skip
def yIi:Env:=zki TT [(126,yv)] []
theorem yO1:FrOk Tryz.prog ⟨yIi,9,fun _=>none⟩ yHT:=zkp yb yc ⟨yP,trivial⟩
def yRI:Nat→Option Seg:=fun _=>none
abbrev ymD:List Par:= [.rd tI]
abbrev yss:List OT:= [⟨false,tI,.fz⟩]
def yvV (a0:Int):Option (ResD yss×MutD ymD) :=
 let r1:=ye a0 0 1099511627776
 bif (!r1) then
 some (((-1),()),())
 else
 some (((IntKind.i64.wrap ((IntKind.i64.wrap (a0+2))+4)),()),())
theorem yYy (x:InD ymD):zjH ⟨yIi,9,yRI⟩ Tryz.f108.results.toList yHT ymD yss x=yvV x.1:=by kernel_rfl
theorem yT4:ConOk Tryz.prog 108 ⟨ymD,yss,fun x=>yvV x.1⟩:=zkh (yO1) Tryz.func108 (by kernel_rfl) (by kernel_rfl) Tryz.ntmps108.symm (by decide) (fun x r h=>(yYy x).trans h)
def ys1 (a0:Int):Int :=
 let r1:=ye a0 0 1099511627776
 bif (!r1) then
 (-1)
 else
 (IntKind.i64.wrap ((IntKind.i64.wrap (a0+2))+4))
def yE8:Con:=⟨ymD,yss,fun x=>(fun n=>some ((n,()),())) (ys1 x.1)⟩
theorem yWs (a0:Int):yvV a0=(fun n=>some ((n,()),())) (ys1 a0):=zkS (p:=fun (n:Int)=>((n,()),())) (zkx (p:=fun (n:Int)=>((n,()),())) rfl rfl)
theorem yXC:ConOk Tryz.prog 108 yE8:=(yT4).mono (fun x r _ h=>(yWs x.1).trans h)
end
end
end Go.Tf
