/- Functions of the program, and what they come to. -/
import Derived.Test.YtolmneojjjpnjaaGreatFailsBentF0
namespace Go.Tf
noncomputable section
open Go.Proofs Go.Proofs.Tryz IntKind
set_option synthInstance.maxHeartbeats 400000
set_option synthInstance.maxSize 10000
set_option linter.unusedVariables false
set_option linter.unusedSimpArgs false
set_option maxRecDepth 100000
def yP9:Code:=(f119.body).getD .skip
def yQx:Env:=zkw TT [(150,yeQ)] []
theorem yHC:FrOk prog ⟨yQx,12,fun _=>none⟩ yP9:=zkA mixed yd ⟨yi2,trivial⟩
abbrev yuj:List Par:= [.rd tG]
abbrev yuE:List OT:= [⟨false,tI,.fz⟩]
def yAp (a0:dG):Option (zaY yuE×zak yuj) :=let r1:=ye a0;bif(!r1)then some ((0,()),()) else some (((i64.wrap (a0.2*(i64.wrap (a0.1-1)))),()),())
theorem yMp:ConOk prog 119 ⟨yuj,yuE,fun x=>yAp x.1⟩:=zkI (yHC) func119 ntmps119.symm fun x=>by kernel_rfl
def yl (a0:dG):Int :=let r1:=ye a0;bif(!r1)then 0 else (i64.wrap (a0.2*(i64.wrap (a0.1-1))))
def ykb:Con:=⟨yuj,yuE,fun x=>(fun n=>some ((n,()),())) (yl x.1)⟩
theorem yOx (a0:dG):yAp a0=(fun n=>some ((n,()),())) (yl a0):=zkV (p:=fun(n:Int)=>((n,()),())) (zkG (p:=fun(n:Int)=>((n,()),())) rfl rfl)
theorem yst:ConOk prog 119 ykb:=(yMp).mono (fun x r _ h=>(yOx x.1).trans h)
theorem yPD (a:Int×Int):0≤yl a∧yl a≤32:=by
 unfold yl;cases h:ye a
 ·simp
 ·obtain⟨⟨h1,h2⟩,h3,h4⟩:=yk.1 h
  have h5:0≤a.2*(a.1-1):=Int.mul_nonneg (by omega) (by omega);have h6:a.2*(a.1-1)≤8*4:=Int.mul_le_mul h4 (by omega) (by omega) (by omega);simp only[Bool.not_true,cond_false,wq (a.1-1) (by omega) (by omega),wq (a.2*(a.1-1)) (by omega) (by omega)];omega
theorem yBy {a:Int×Int} (h:ye a=true):yl a=a.2*(a.1-1):=by
 unfold yl;obtain⟨⟨h1,h2⟩,h3,h4⟩:=yk.1 h;have h5:0≤a.2*(a.1-1):=Int.mul_nonneg (by omega) (by omega);have h6:a.2*(a.1-1)≤8*4:=Int.mul_le_mul h4 (by omega) (by omega) (by omega);simp only[h,Bool.not_true,cond_false,wq (a.1-1) (by omega) (by omega),wq (a.2*(a.1-1)) (by omega) (by omega)]
def yQ (l:List dW) (s:Int):Int:=yM (fun e:dW=>e.1==s) l
def ylK (g:dG) (b:Int):Bool:=leb 0 b&&leb b (yl g-1)
def yd8 (g:dG) (b:Int):Int:=bif ylK g b then b.tdiv (g.1-1)else -1
def ysp (g:dG) (b:Int):Int:=bif ylK g b then b.tmod (g.1-1)else -1
theorem yzu {g:dG} {b:Int} (h:ylK g b=true):ye g=true∧(0≤b.tdiv (g.1-1)∧b.tdiv (g.1-1)≤g.2-1)∧(0≤b.tmod (g.1-1)∧b.tmod (g.1-1)≤g.1-2):=by
 simp only[ylK,Bool.and_eq_true,zj7]at h;cases hg:ye g
 ·have:yl g=0:=by unfold yl; rw[hg]; rfl
  omega
 ·rw[yBy hg]at h
  have h2:=yk.1 hg;rw[Int.tdiv_eq_ediv_of_nonneg h.1,Int.tmod_eq_emod_of_nonneg h.1];have h3:=Int.ediv_lt_of_lt_mul (show 0<g.1-1 by omega) (show b<g.2*(g.1-1)by omega);have h4:=Int.ediv_nonneg h.1 (show 0≤g.1-1 by omega);have h5:=Int.emod_nonneg b (show g.1-1≠0 by omega);have h6:=Int.emod_lt_of_pos b (show 0<g.1-1 by omega);exact⟨rfl,⟨h4,by omega⟩,h5,by omega⟩
theorem yGT {g:dG} {b:Int} (h:ylK g b=true):ya0 g (yd8 g b)=true:=by
 obtain⟨h1,h2,_⟩:=yzu h;unfold yd8;rw[h,cond_true,yeP];exact⟨h1,h2⟩
def ydR (a:dA) (s:Int):List Int×Bool:=bif leb 0 (yQ a.2.2.2.2.2.2.2.2.1 s)then((nth a.2.2.2.2.2.2.2.2.1 (yQ a.2.2.2.2.2.2.2.2.1 s) (0,[])).2,true)else bif a.2.2.2.2.2.2.2.2.2.2.2 then([],false)else yEF a s
theorem yTL {a:dA} (h:yP a=true) {i:Nat} (hi:i<a.2.2.2.2.2.2.2.2.1.length):(0≤(nth a.2.2.2.2.2.2.2.2.1 i (0,[])).1∧(nth a.2.2.2.2.2.2.2.2.1 i (0,[])).1≤a.2.1.2-1)∧((nth a.2.2.2.2.2.2.2.2.1 i (0,[])).2.length:Int)=a.2.1.1-1∧(nth a.2.2.2.2.2.2.2.2.1 i (0,[])).2.all isW=true∧(0<i→(nth a.2.2.2.2.2.2.2.2.1 ((i-1:Nat):Int) (0,[])).1<(nth a.2.2.2.2.2.2.2.2.1 i (0,[])).1):=by
 have h1:yaB a.2.1 a.2.2.2.2.2.2.2.2.1=true:=by simp only[yP,Bool.and_eq_true]at h; exact h.2.2.2.1
 simp only[yaB,Bool.not_eq_true',List.any_eq_false,List.mem_range]at h1;have h2:=h1 i hi;simp only[yfK,Bool.not_eq_true,Bool.or_eq_false_iff,Bool.not_eq_false',bne_eq_false_iff_eq,Bool.and_eq_true,Bool.and_eq_false_iff,decide_eq_false_iff_not,zj7]at h2;refine⟨h2.1,h2.2.1,h2.2.2.1,fun h0=> ?_⟩;rcases h2.2.2.2 with h3 | h3
 ·exact absurd h0 h3
 ·have:=mt zk2 (by rw[h3]; simp: ¬leb (nth a.2.2.2.2.2.2.2.2.1 i (0,[])).1 (nth a.2.2.2.2.2.2.2.2.1 ((i-1:Nat):Int) (0,[])).1=true)
  omega
theorem yCe {a:dA} {s:Int} (h:yP a=true) (hs:ya0 a.2.1 s=true) (h2:(ydR a s).2=true):((ydR a s).1.length:Int)=a.2.1.1-1:=by
 have hg:=yk.1 (ykJ h);unfold ydR at h2 ⊢;cases hk:leb 0 (yQ a.2.2.2.2.2.2.2.2.1 s)
 ·rw[hk]at h2
  simp only[cond_false]at h2 ⊢;cases hb:a.2.2.2.2.2.2.2.2.2.2.2
  ·rw[hb]at h2
   simp only[cond_false]at h2 ⊢;unfold yEF at h2 ⊢;cases hw:(ybp a s).2
   ·rw[hw]at h2; cases h2
   ·simp only[cond_true,List.length_map,List.length_range]; omega
  ·rw[hb]at h2; cases h2
 ·have h3:=zj6.1 (yso (d:=((0,[]):dW)) hk).1
  have:=(yTL h (i:=(yQ a.2.2.2.2.2.2.2.2.1 s).toNat) (by unfold yQ; omega)).2.1;rw[show(((yQ a.2.2.2.2.2.2.2.2.1 s).toNat:Nat):Int)=yQ a.2.2.2.2.2.2.2.2.1 s by have:=zj7.1 hk; omega]at this;exact this
theorem yS7 (g:dG) (b:Int):ya b 0 (i64.wrap (yl g-1))=ylK g b:=by
 have:=yPD g;rw[wr (by omega) (by omega),ycf]; rfl
def ym4:Code:=(f177.body).getD .skip
def yt4:Env:=zkw TT [(82,yj)] [(28864,.fz),(28928,.fz)]
theorem yHG:FrOk prog ⟨yt4,22,fun _=>none⟩ ym4:=zkA mixed yd ⟨ym,trivial⟩
def yzj:Nat→Option Seg:=fun _=>none
def ybM:Shape:=⟨[(0,false,[.int .i64]),(2,false,[.ptr 0 0]),(3,false,[.ptr 12352 0]),(4,false,[.int .i64])],[(0,[.nil,.nil,.bool,.nil]),(12352,[.at 800000000,.nil,.bool,.nil])],[(800000000,tL,.fz)]⟩
def yfc:Shape:=⟨[(0,false,[.int .i64]),(2,false,[.ptr 0 0]),(3,false,[.ptr 12352 0]),(4,false,[.ci .i64 0])],[(0,[.nil,.nil,.bool,.nil]),(12352,[.at 800000000,.nil,.bool,.nil])],[(800000000,tL,.fz)]⟩
def ye1:Shape:=⟨[(2,false,[.ptr 0 0]),(3,false,[.ptr 12352 0])],[(0,[.nil,.nil,.bool,.nil]),(12352,[.at 800000000,.nil,.bool,.nil])],[(800000000,tL,.fz)]⟩
def yij:Shape:=⟨[],[],[]⟩
abbrev ymo (v0 v1:Int) (v2 v3:dM):(ybM).X:=(((v0,()),((),()),((),()),(v1,()),()),(((),(),v2.2.2.1,(),()),((),(),v3.2.2.1,(),()),()),(v3.1,()))
abbrev yFZ (v0:Int) (v1 v2:dM):(yfc).X:=(((v0,()),((),()),((),()),((),()),()),(((),(),v1.2.2.1,(),()),((),(),v2.2.2.1,(),()),()),(v2.1,()))
abbrev yFS (v0 v1:dM):(ye1).X:=((((),()),((),()),()),(((),(),v0.2.2.1,(),()),((),(),v1.2.2.1,(),()),()),(v1.1,()))
def ymQ (v0 v1:Int) (v2 v3:Bool) (v4:List (List Int)):Option ((ybM).X ⊕ ((ye1).X ⊕ (yij).X)) :=bif(ltb v1 v0)then bif(zkl v4.length ([([]:List Int)]:List (List Int)).length 24)then some (.inl (((v0,()),((),()),((),()),((i64.wrap (v1+1)),()),()),(((),(),v2,(),()),((),(),v3,(),()),()),((v4++([([]:List Int)]:List (List Int))),()))) else none else some (.inr (.inl ((((),()),((),()),()),(((),(),v2,(),()),((),(),v3,(),()),()),(v4,()))))
def yb7 (x:(ybM).X):=ymQ x.1.1.1 x.1.2.2.2.1.1 x.2.1.1.2.2.1 x.2.1.2.1.2.2.1 x.2.2.1
def yvT (x:(yfc).X):(ybM).X:=(((x.1.1.1,()),((),()),((),()),(0,()),()),(((),(),x.2.1.1.2.2.1,(),()),((),(),x.2.1.2.1.2.2.1,(),()),()),(x.2.2.1,()))
def yxG:Code:=(zd7 ym4 64 244).getD .skip
theorem yHc:zd7 ym4 64 61=some (.block 0 (.loop yxG)):=by kernel_rfl
theorem yJS (x:(ybM).X):zhu ⟨yt4,22,yzj⟩ 0 yxG 244 ybM ye1 yij x=yb7 x:=by kernel_rfl
def yv4 (x:(yfc).X):Nat:=18446744073709551616
def ynD (x:(yfc).X):Option ((ye1).X ⊕ (yij).X):=zF yb7 (yv4 x) (yvT x)
def ywo:Seg:=⟨yfc,ye1,yij,ynD⟩
def yKk:Nat→Option Seg:=fun q=>bif Nat.beq q 61 then some ywo else yzj q
theorem yHH:FrOk prog ⟨yt4,22,yKk⟩ ym4:=(yHG).loop (sg:=ywo) ybM yvT (by decide) yHc yb7 yv4 (by decide) (fun _=>rfl) (fun x r _ h=>h) yJS
abbrev ynf:List Par:= [.rd tI]
abbrev yuI:List OT:= [⟨false,tM,(.pr (.ow .fz) (.pr (.ow (.pr .fz .fz)) (.pr .fz (.ow .fz))))⟩]
def yqw (a0:Int):Option (zaY yuI×zak ynf) :=let r1:=ya a0 1 20;bif(!r1)then some ((([],[],false,[]),()),()) else zkt (ynD (((a0,()),((),()),((),()),((),()),()),(((),(),false,(),()),((),(),false,(),()),()),([],()))) (fun y1 =>some (((y1.2.2.1,[],y1.2.1.2.1.2.2.1,[]),()),())) (fun y1 =>none)
theorem yMt:ConOk prog 177 ⟨ynf,yuI,fun x=>yqw x.1⟩:=zkI (yHH) func177 ntmps177.symm fun x=>by kernel_rfl
def yaU (a0:Int):dM:=yc9 a0
theorem yOB (a0:Int) (hk:zjx ynf (a0,())):yqw a0=(fun n=>some ((n,()),())) (yaU a0):=by
 unfold yqw yaU yc9;simp only[ycf];cases hc:(leb 1 a0&&leb a0 20)
 ·rfl
 ·rw[Bool.and_eq_true,zj7,zj7]at hc
  have h1:ynD (yFZ a0 yc yc)=some (.inl (yFS yc (List.replicate a0.toNat [],[],false,[]))) :=
   zkL (step:=yb7) (fun i=>ymo a0 i yc (List.replicate i [],[],false,[])) a0.toNat _ (fun i hi=>by
    simp only[yb7,ymo,ymQ,zky (show(i:Int)<a0 by omega),cond_true,wq ((i:Int)+1) (by omega) (by omega),Int.natCast_add,Int.natCast_one,Int.toNat_natCast]
    rw[zkF.2 (show((List.replicate i ([]:List Int)).length+([[]]:List (List Int)).length)*24≤140737488355328 by simp only[List.length_cons,List.length_nil,List.length_replicate]; omega),← List.replicate_succ']; rfl) (by simp only[yb7,ymo,ymQ,zk3 (show a0≤(a0.toNat:Int)by omega),cond_false]) _ (by show _<18446744073709551616; omega)
  rw[h1]; rfl
def ykc:Con:=⟨ynf,yuI,fun x=>(fun n=>some ((n,()),())) (yaU x.1)⟩
theorem ysu:ConOk prog 177 ykc:=(yMt).mono (fun x r hk h=>(yOB x.1 hk).trans h)
def ydZ:Code:=(f115.body).getD .skip
def yiJ:Env:=zkw TT [(82,yj),(113,yay),(144,yml),(150,yeQ),(177,ykc),(178,yke)] [(53440,(.pr (.ow .fz) (.pr (.ow (.pr .fz .fz)) (.pr .fz (.ow .fz))))),(53504,(.pr (.ow .fz) (.pr (.ow (.pr .fz .fz)) (.pr .fz (.ow .fz)))))]
theorem yHz:FrOk prog ⟨yiJ,60,fun _=>none⟩ ydZ:=zkA mixed yd ⟨ym,yb3,yyK,yi2,ysu,ysw,trivial⟩
def yzi:Nat→Option Seg:=fun _=>none
def yaq:Shape:=⟨[(0,false,[.int .i64]),(3,false,[.ptr 0 0]),(4,false,[.ptr 64 0]),(5,false,[.ptr 12480 0]),(6,false,[.int .i64]),(7,false,[.ptr 28864 0]),(8,false,[.int .i64])],[(0,[.int .i64,.int .i64]),(64,[.int .i64,.int .i64,.int .i64,.nil,.int .i64,.int .i64,.int .i64,.int .i64,.int .i64,.nil,.int .i64,.bool,.bool]),(12480,[.int .i64,.int .i64,.int .i64,.at 800000000,.int .i64,.int .i64,.int .i64,.int .i64,.int .i64,.nil,.int .i64,.bool,.bool]),(28864,[.at 800000001,.at 800000002,.bool,.at 800000003])],[(800000000,tM,(.pr (.ow .fz) (.pr (.ow (.pr .fz .fz)) (.pr .fz (.ow .fz))))),(800000001,tL,.fz),(800000002,tW,(.pr .fz .fz)),(800000003,tI,.fz)]⟩
def yc4:Shape:=⟨[(0,false,[.int .i64]),(3,false,[.ptr 0 0]),(4,false,[.ptr 64 0]),(5,false,[.ptr 12480 0]),(6,false,[.int .i64]),(7,false,[.ptr 28864 0]),(8,false,[.ci .i64 0])],[(0,[.int .i64,.int .i64]),(64,[.int .i64,.int .i64,.int .i64,.nil,.int .i64,.int .i64,.int .i64,.int .i64,.int .i64,.nil,.int .i64,.bool,.bool]),(12480,[.int .i64,.int .i64,.int .i64,.at 800000000,.int .i64,.int .i64,.int .i64,.int .i64,.int .i64,.nil,.int .i64,.bool,.bool]),(28864,[.at 800000001,.at 800000002,.bool,.at 800000003])],[(800000000,tM,(.pr (.ow .fz) (.pr (.ow (.pr .fz .fz)) (.pr .fz (.ow .fz))))),(800000001,tL,.fz),(800000002,tW,(.pr .fz .fz)),(800000003,tI,.fz)]⟩
def ycZ:Shape:=⟨[(0,false,[.int .i64]),(3,false,[.ptr 0 0]),(4,false,[.ptr 64 0]),(5,false,[.ptr 12480 0]),(6,false,[.int .i64]),(7,false,[.ptr 28864 0])],[(0,[.int .i64,.int .i64]),(64,[.int .i64,.int .i64,.int .i64,.nil,.int .i64,.int .i64,.int .i64,.int .i64,.int .i64,.nil,.int .i64,.bool,.bool]),(12480,[.int .i64,.int .i64,.int .i64,.at 800000000,.int .i64,.int .i64,.int .i64,.int .i64,.int .i64,.nil,.int .i64,.bool,.bool]),(28864,[.at 800000001,.at 800000002,.bool,.at 800000003])],[(800000000,tM,(.pr (.ow .fz) (.pr (.ow (.pr .fz .fz)) (.pr .fz (.ow .fz))))),(800000001,tL,.fz),(800000002,tW,(.pr .fz .fz)),(800000003,tI,.fz)]⟩
def yfB:Shape:=⟨[],[],[]⟩
abbrev yiw (v0 v1 v2:Int) (v3:dG) (v4 v5:dA) (v6:dM):(yaq).X:=(((v0,()),((),()),((),()),((),()),(v1,()),((),()),(v2,()),()),((v3.1,v3.2,()),(v4.1,v4.2.1.1,v4.2.1.2,(),v4.2.2.2.1,v4.2.2.2.2.1,v4.2.2.2.2.2.1,v4.2.2.2.2.2.2.1,v4.2.2.2.2.2.2.2.1,(),v4.2.2.2.2.2.2.2.2.2.1,v4.2.2.2.2.2.2.2.2.2.2.1,v4.2.2.2.2.2.2.2.2.2.2.2,()),(v5.1,v5.2.1.1,v5.2.1.2,(),v5.2.2.2.1,v5.2.2.2.2.1,v5.2.2.2.2.2.1,v5.2.2.2.2.2.2.1,v5.2.2.2.2.2.2.2.1,(),v5.2.2.2.2.2.2.2.2.2.1,v5.2.2.2.2.2.2.2.2.2.2.1,v5.2.2.2.2.2.2.2.2.2.2.2,()),((),(),v6.2.2.1,(),()),()),(v5.2.2.1,v6.1,v6.2.1,v6.2.2.2,()))
abbrev yBQ (v0 v1:Int) (v2:dG) (v3 v4:dA) (v5:dM):(yc4).X:=(((v0,()),((),()),((),()),((),()),(v1,()),((),()),((),()),()),((v2.1,v2.2,()),(v3.1,v3.2.1.1,v3.2.1.2,(),v3.2.2.2.1,v3.2.2.2.2.1,v3.2.2.2.2.2.1,v3.2.2.2.2.2.2.1,v3.2.2.2.2.2.2.2.1,(),v3.2.2.2.2.2.2.2.2.2.1,v3.2.2.2.2.2.2.2.2.2.2.1,v3.2.2.2.2.2.2.2.2.2.2.2,()),(v4.1,v4.2.1.1,v4.2.1.2,(),v4.2.2.2.1,v4.2.2.2.2.1,v4.2.2.2.2.2.1,v4.2.2.2.2.2.2.1,v4.2.2.2.2.2.2.2.1,(),v4.2.2.2.2.2.2.2.2.2.1,v4.2.2.2.2.2.2.2.2.2.2.1,v4.2.2.2.2.2.2.2.2.2.2.2,()),((),(),v5.2.2.1,(),()),()),(v4.2.2.1,v5.1,v5.2.1,v5.2.2.2,()))
abbrev yqi (v0 v1:Int) (v2:dG) (v3 v4:dA) (v5:dM):(ycZ).X:=(((v0,()),((),()),((),()),((),()),(v1,()),((),()),()),((v2.1,v2.2,()),(v3.1,v3.2.1.1,v3.2.1.2,(),v3.2.2.2.1,v3.2.2.2.2.1,v3.2.2.2.2.2.1,v3.2.2.2.2.2.2.1,v3.2.2.2.2.2.2.2.1,(),v3.2.2.2.2.2.2.2.2.2.1,v3.2.2.2.2.2.2.2.2.2.2.1,v3.2.2.2.2.2.2.2.2.2.2.2,()),(v4.1,v4.2.1.1,v4.2.1.2,(),v4.2.2.2.1,v4.2.2.2.2.1,v4.2.2.2.2.2.1,v4.2.2.2.2.2.2.1,v4.2.2.2.2.2.2.2.1,(),v4.2.2.2.2.2.2.2.2.2.1,v4.2.2.2.2.2.2.2.2.2.2.1,v4.2.2.2.2.2.2.2.2.2.2.2,()),((),(),v5.2.2.1,(),()),()),(v4.2.2.1,v5.1,v5.2.1,v5.2.2.2,()))
def yiF (v0 v1 v2 v3 v4 v5 v6 v7 v8 v9 v10 v11 v12 v13:Int) (v14 v15:Bool) (v16 v17 v18 v19 v20 v21 v22 v23 v24:Int) (v25 v26 v27:Bool) (v28:List dM) (v29:List (List Int)) (v30:List dW) (v31:List Int):Option ((yaq).X ⊕ ((ycZ).X ⊕ (yfB).X)) :=bif(ltb v2 v4)then let r13:=yK v2;bif(inb r13 v29.length)then some (.inl (((v0,()),((),()),((),()),((),()),(v1,()),((),()),((i64.wrap (v2+1)),()),()),((v3,v4,()),(v5,v6,v7,(),v8,v9,v10,v11,v12,(),v13,v14,v15,()),(v16,v17,v18,(),v19,v20,v21,v22,v23,(),v24,v25,v26,()),((),(),v27,(),()),()),(v28,(v29.set (r13).toNat ([0]:List Int)),v30,v31,()))) else none else some (.inr (.inl (((v0,()),((),()),((),()),((),()),(v1,()),((),()),()),((v3,v4,()),(v5,v6,v7,(),v8,v9,v10,v11,v12,(),v13,v14,v15,()),(v16,v17,v18,(),v19,v20,v21,v22,v23,(),v24,v25,v26,()),((),(),v27,(),()),()),(v28,v29,v30,v31,()))))
def yaD (x:(yaq).X):=yiF x.1.1.1 x.1.2.2.2.2.1.1 x.1.2.2.2.2.2.2.1.1 x.2.1.1.1 x.2.1.1.2.1 x.2.1.2.1.1 x.2.1.2.1.2.1 x.2.1.2.1.2.2.1 x.2.1.2.1.2.2.2.2.1 x.2.1.2.1.2.2.2.2.2.1 x.2.1.2.1.2.2.2.2.2.2.1 x.2.1.2.1.2.2.2.2.2.2.2.1 x.2.1.2.1.2.2.2.2.2.2.2.2.1 x.2.1.2.1.2.2.2.2.2.2.2.2.2.2.1 x.2.1.2.1.2.2.2.2.2.2.2.2.2.2.2.1 x.2.1.2.1.2.2.2.2.2.2.2.2.2.2.2.2.1 x.2.1.2.2.1.1 x.2.1.2.2.1.2.1 x.2.1.2.2.1.2.2.1 x.2.1.2.2.1.2.2.2.2.1 x.2.1.2.2.1.2.2.2.2.2.1 x.2.1.2.2.1.2.2.2.2.2.2.1 x.2.1.2.2.1.2.2.2.2.2.2.2.1 x.2.1.2.2.1.2.2.2.2.2.2.2.2.1 x.2.1.2.2.1.2.2.2.2.2.2.2.2.2.2.1 x.2.1.2.2.1.2.2.2.2.2.2.2.2.2.2.2.1 x.2.1.2.2.1.2.2.2.2.2.2.2.2.2.2.2.2.1 x.2.1.2.2.2.1.2.2.1 x.2.2.1 x.2.2.2.1 x.2.2.2.2.1 x.2.2.2.2.2.1
def yp3 (x:(yc4).X):(yaq).X:=(((x.1.1.1,()),((),()),((),()),((),()),(x.1.2.2.2.2.1.1,()),((),()),(0,()),()),((x.2.1.1.1,x.2.1.1.2.1,()),(x.2.1.2.1.1,x.2.1.2.1.2.1,x.2.1.2.1.2.2.1,(),x.2.1.2.1.2.2.2.2.1,x.2.1.2.1.2.2.2.2.2.1,x.2.1.2.1.2.2.2.2.2.2.1,x.2.1.2.1.2.2.2.2.2.2.2.1,x.2.1.2.1.2.2.2.2.2.2.2.2.1,(),x.2.1.2.1.2.2.2.2.2.2.2.2.2.2.1,x.2.1.2.1.2.2.2.2.2.2.2.2.2.2.2.1,x.2.1.2.1.2.2.2.2.2.2.2.2.2.2.2.2.1,()),(x.2.1.2.2.1.1,x.2.1.2.2.1.2.1,x.2.1.2.2.1.2.2.1,(),x.2.1.2.2.1.2.2.2.2.1,x.2.1.2.2.1.2.2.2.2.2.1,x.2.1.2.2.1.2.2.2.2.2.2.1,x.2.1.2.2.1.2.2.2.2.2.2.2.1,x.2.1.2.2.1.2.2.2.2.2.2.2.2.1,(),x.2.1.2.2.1.2.2.2.2.2.2.2.2.2.2.1,x.2.1.2.2.1.2.2.2.2.2.2.2.2.2.2.2.1,x.2.1.2.2.1.2.2.2.2.2.2.2.2.2.2.2.2.1,()),((),(),x.2.1.2.2.2.1.2.2.1,(),()),()),(x.2.2.1,x.2.2.2.1,x.2.2.2.2.1,x.2.2.2.2.2.1,()))
def yqS:Code:=(zd7 ydZ 64 125236).getD .skip
theorem yCi:zd7 ydZ 64 31309=some (.block 2 (.loop yqS)):=by kernel_rfl
theorem yCN (x:(yaq).X):zhu ⟨yiJ,60,yzi⟩ 2 yqS 125236 yaq ycZ yfB x=yaD x:=by kernel_rfl
def yp8 (x:(yc4).X):Nat:=18446744073709551616
def yi9 (x:(yc4).X):Option ((ycZ).X ⊕ (yfB).X):=zF yaD (yp8 x) (yp3 x)
def yqH:Seg:=⟨yc4,ycZ,yfB,yi9⟩
def yoT:Nat→Option Seg:=fun q=>bif Nat.beq q 31309 then some yqH else yzi q
theorem yHA:FrOk prog ⟨yiJ,60,yoT⟩ ydZ:=(yHz).loop (sg:=yqH) yaq yp3 (by decide) yCi yaD yp8 (by decide) (fun _=>rfl) (fun x r _ h=>h) yCN
def ybL:Shape:=⟨[(0,false,[.int .i64]),(3,false,[.ptr 0 0]),(4,false,[.ptr 64 0]),(5,false,[.ptr 12480 0]),(6,false,[.int .i64])],[(0,[.int .i64,.int .i64]),(64,[.int .i64,.int .i64,.int .i64,.nil,.int .i64,.int .i64,.int .i64,.int .i64,.int .i64,.nil,.int .i64,.bool,.bool]),(12480,[.int .i64,.int .i64,.int .i64,.at 800000000,.int .i64,.int .i64,.int .i64,.int .i64,.int .i64,.nil,.int .i64,.bool,.bool])],[(800000000,tM,(.pr (.ow .fz) (.pr (.ow (.pr .fz .fz)) (.pr .fz (.ow .fz)))))]⟩
def yfb:Shape:=⟨[(0,false,[.int .i64]),(3,false,[.ptr 0 0]),(4,false,[.ptr 64 0]),(5,false,[.ptr 12480 0]),(6,false,[.ci .i64 0])],[(0,[.int .i64,.int .i64]),(64,[.int .i64,.int .i64,.int .i64,.nil,.int .i64,.int .i64,.int .i64,.int .i64,.int .i64,.nil,.int .i64,.bool,.bool]),(12480,[.int .i64,.int .i64,.int .i64,.at 800000000,.int .i64,.int .i64,.int .i64,.int .i64,.int .i64,.nil,.int .i64,.bool,.bool])],[(800000000,tM,(.pr (.ow .fz) (.pr (.ow (.pr .fz .fz)) (.pr .fz (.ow .fz)))))]⟩
def ye0:Shape:=⟨[(4,false,[.ptr 64 0]),(5,false,[.ptr 12480 0])],[(64,[.int .i64,.int .i64,.int .i64,.nil,.int .i64,.int .i64,.int .i64,.int .i64,.int .i64,.nil,.int .i64,.bool,.bool]),(12480,[.int .i64,.int .i64,.int .i64,.at 800000000,.int .i64,.int .i64,.int .i64,.int .i64,.int .i64,.nil,.int .i64,.bool,.bool])],[(800000000,tM,(.pr (.ow .fz) (.pr (.ow (.pr .fz .fz)) (.pr .fz (.ow .fz)))))]⟩
def yii:Shape:=⟨[],[],[]⟩
abbrev yhi (v0 v1:Int) (v2:dG) (v3 v4:dA):(ybL).X:=(((v0,()),((),()),((),()),((),()),(v1,()),()),((v2.1,v2.2,()),(v3.1,v3.2.1.1,v3.2.1.2,(),v3.2.2.2.1,v3.2.2.2.2.1,v3.2.2.2.2.2.1,v3.2.2.2.2.2.2.1,v3.2.2.2.2.2.2.2.1,(),v3.2.2.2.2.2.2.2.2.2.1,v3.2.2.2.2.2.2.2.2.2.2.1,v3.2.2.2.2.2.2.2.2.2.2.2,()),(v4.1,v4.2.1.1,v4.2.1.2,(),v4.2.2.2.1,v4.2.2.2.2.1,v4.2.2.2.2.2.1,v4.2.2.2.2.2.2.1,v4.2.2.2.2.2.2.2.1,(),v4.2.2.2.2.2.2.2.2.2.1,v4.2.2.2.2.2.2.2.2.2.2.1,v4.2.2.2.2.2.2.2.2.2.2.2,()),()),(v4.2.2.1,()))
abbrev yFY (v0:Int) (v1:dG) (v2 v3:dA):(yfb).X:=(((v0,()),((),()),((),()),((),()),((),()),()),((v1.1,v1.2,()),(v2.1,v2.2.1.1,v2.2.1.2,(),v2.2.2.2.1,v2.2.2.2.2.1,v2.2.2.2.2.2.1,v2.2.2.2.2.2.2.1,v2.2.2.2.2.2.2.2.1,(),v2.2.2.2.2.2.2.2.2.2.1,v2.2.2.2.2.2.2.2.2.2.2.1,v2.2.2.2.2.2.2.2.2.2.2.2,()),(v3.1,v3.2.1.1,v3.2.1.2,(),v3.2.2.2.1,v3.2.2.2.2.1,v3.2.2.2.2.2.1,v3.2.2.2.2.2.2.1,v3.2.2.2.2.2.2.2.1,(),v3.2.2.2.2.2.2.2.2.2.1,v3.2.2.2.2.2.2.2.2.2.2.1,v3.2.2.2.2.2.2.2.2.2.2.2,()),()),(v3.2.2.1,()))
abbrev ywe (v0 v1:dA):(ye0).X:=((((),()),((),()),()),((v0.1,v0.2.1.1,v0.2.1.2,(),v0.2.2.2.1,v0.2.2.2.2.1,v0.2.2.2.2.2.1,v0.2.2.2.2.2.2.1,v0.2.2.2.2.2.2.2.1,(),v0.2.2.2.2.2.2.2.2.2.1,v0.2.2.2.2.2.2.2.2.2.2.1,v0.2.2.2.2.2.2.2.2.2.2.2,()),(v1.1,v1.2.1.1,v1.2.1.2,(),v1.2.2.2.1,v1.2.2.2.2.1,v1.2.2.2.2.2.1,v1.2.2.2.2.2.2.1,v1.2.2.2.2.2.2.2.1,(),v1.2.2.2.2.2.2.2.2.2.1,v1.2.2.2.2.2.2.2.2.2.2.1,v1.2.2.2.2.2.2.2.2.2.2.2,()),()),(v1.2.2.1,()))
def ymP (v0 v1 v2 v3 v4 v5 v6 v7 v8 v9 v10 v11 v12:Int) (v13 v14:Bool) (v15 v16 v17 v18 v19 v20 v21 v22 v23:Int) (v24 v25:Bool) (v26:List dM):Option ((ybL).X ⊕ ((ye0).X ⊕ (yii).X)) :=bif(ltb v1 v2)then let r15:=ybK (v2,v3);let r16:=yaU r15;let r17:=yC (v0,0,v1,v2,v3,0,(-1),0);bif(inb 0 r16.1.length)then zkt (yi9 (((v0,()),((),()),((),()),((),()),(v1,()),((),()),((),()),()),((v2,v3,()),(v4,v5,v6,(),v7,v8,v9,v10,v11,(),v12,v13,v14,()),(v15,v16,v17,(),v18,v19,v20,v21,v22,(),v23,v24,v25,()),((),(),r16.2.2.1,(),()),()),(v26,(r16.1.set (0:Int).toNat r17),r16.2.1,r16.2.2.2,()))) (fun y17 =>bif(zkl y17.2.2.1.length ([(y17.2.2.2.1,y17.2.2.2.2.1,y17.2.1.2.2.2.1.2.2.1,y17.2.2.2.2.2.1)]:List dM).length 80)then some (.inl (((y17.1.1.1,()),((),()),((),()),((),()),((i64.wrap (y17.1.2.2.2.2.1.1+1)),()),()),((y17.2.1.1.1,y17.2.1.1.2.1,()),(y17.2.1.2.1.1,y17.2.1.2.1.2.1,y17.2.1.2.1.2.2.1,(),y17.2.1.2.1.2.2.2.2.1,y17.2.1.2.1.2.2.2.2.2.1,y17.2.1.2.1.2.2.2.2.2.2.1,y17.2.1.2.1.2.2.2.2.2.2.2.1,y17.2.1.2.1.2.2.2.2.2.2.2.2.1,(),y17.2.1.2.1.2.2.2.2.2.2.2.2.2.2.1,y17.2.1.2.1.2.2.2.2.2.2.2.2.2.2.2.1,y17.2.1.2.1.2.2.2.2.2.2.2.2.2.2.2.2.1,()),(y17.2.1.2.2.1.1,y17.2.1.2.2.1.2.1,y17.2.1.2.2.1.2.2.1,(),y17.2.1.2.2.1.2.2.2.2.1,y17.2.1.2.2.1.2.2.2.2.2.1,y17.2.1.2.2.1.2.2.2.2.2.2.1,y17.2.1.2.2.1.2.2.2.2.2.2.2.1,y17.2.1.2.2.1.2.2.2.2.2.2.2.2.1,(),y17.2.1.2.2.1.2.2.2.2.2.2.2.2.2.2.1,y17.2.1.2.2.1.2.2.2.2.2.2.2.2.2.2.2.1,y17.2.1.2.2.1.2.2.2.2.2.2.2.2.2.2.2.2.1,()),()),((y17.2.2.1++([(y17.2.2.2.1,y17.2.2.2.2.1,y17.2.1.2.2.2.1.2.2.1,y17.2.2.2.2.2.1)]:List dM)),()))) else none) (fun y17 =>some (.inr (.inr ((),(),())))) else none else some (.inr (.inl ((((),()),((),()),()),((v4,v5,v6,(),v7,v8,v9,v10,v11,(),v12,v13,v14,()),(v15,v16,v17,(),v18,v19,v20,v21,v22,(),v23,v24,v25,()),()),(v26,()))))
def yb6 (x:(ybL).X):=ymP x.1.1.1 x.1.2.2.2.2.1.1 x.2.1.1.1 x.2.1.1.2.1 x.2.1.2.1.1 x.2.1.2.1.2.1 x.2.1.2.1.2.2.1 x.2.1.2.1.2.2.2.2.1 x.2.1.2.1.2.2.2.2.2.1 x.2.1.2.1.2.2.2.2.2.2.1 x.2.1.2.1.2.2.2.2.2.2.2.1 x.2.1.2.1.2.2.2.2.2.2.2.2.1 x.2.1.2.1.2.2.2.2.2.2.2.2.2.2.1 x.2.1.2.1.2.2.2.2.2.2.2.2.2.2.2.1 x.2.1.2.1.2.2.2.2.2.2.2.2.2.2.2.2.1 x.2.1.2.2.1.1 x.2.1.2.2.1.2.1 x.2.1.2.2.1.2.2.1 x.2.1.2.2.1.2.2.2.2.1 x.2.1.2.2.1.2.2.2.2.2.1 x.2.1.2.2.1.2.2.2.2.2.2.1 x.2.1.2.2.1.2.2.2.2.2.2.2.1 x.2.1.2.2.1.2.2.2.2.2.2.2.2.1 x.2.1.2.2.1.2.2.2.2.2.2.2.2.2.2.1 x.2.1.2.2.1.2.2.2.2.2.2.2.2.2.2.2.1 x.2.1.2.2.1.2.2.2.2.2.2.2.2.2.2.2.2.1 x.2.2.1
def yvS (x:(yfb).X):(ybL).X:=(((x.1.1.1,()),((),()),((),()),((),()),(0,()),()),((x.2.1.1.1,x.2.1.1.2.1,()),(x.2.1.2.1.1,x.2.1.2.1.2.1,x.2.1.2.1.2.2.1,(),x.2.1.2.1.2.2.2.2.1,x.2.1.2.1.2.2.2.2.2.1,x.2.1.2.1.2.2.2.2.2.2.1,x.2.1.2.1.2.2.2.2.2.2.2.1,x.2.1.2.1.2.2.2.2.2.2.2.2.1,(),x.2.1.2.1.2.2.2.2.2.2.2.2.2.2.1,x.2.1.2.1.2.2.2.2.2.2.2.2.2.2.2.1,x.2.1.2.1.2.2.2.2.2.2.2.2.2.2.2.2.1,()),(x.2.1.2.2.1.1,x.2.1.2.2.1.2.1,x.2.1.2.2.1.2.2.1,(),x.2.1.2.2.1.2.2.2.2.1,x.2.1.2.2.1.2.2.2.2.2.1,x.2.1.2.2.1.2.2.2.2.2.2.1,x.2.1.2.2.1.2.2.2.2.2.2.2.1,x.2.1.2.2.1.2.2.2.2.2.2.2.2.1,(),x.2.1.2.2.1.2.2.2.2.2.2.2.2.2.2.1,x.2.1.2.2.1.2.2.2.2.2.2.2.2.2.2.2.1,x.2.1.2.2.1.2.2.2.2.2.2.2.2.2.2.2.2.1,()),()),(x.2.2.1,()))
def yxF:Code:=(zd7 ydZ 64 244).getD .skip
theorem yHb:zd7 ydZ 64 61=some (.block 0 (.loop yxF)):=by kernel_rfl
theorem yJR (x:(ybL).X):zhu ⟨yiJ,60,yoT⟩ 0 yxF 244 ybL ye0 yii x=yb6 x:=by kernel_rfl
def yv3 (x:(yfb).X):Nat:=18446744073709551616
def ynC (x:(yfb).X):Option ((ye0).X ⊕ (yii).X):=zF yb6 (yv3 x) (yvS x)
def ywn:Seg:=⟨yfb,ye0,yii,ynC⟩
def yKj:Nat→Option Seg:=fun q=>bif Nat.beq q 61 then some ywn else yoT q
theorem yHB:FrOk prog ⟨yiJ,60,yKj⟩ ydZ:=(yHA).loop (sg:=ywn) ybL yvS (by decide) yHb yb6 yv3 (by decide) (fun _=>rfl) (fun x r _ h=>h) yJR
abbrev ync:List Par:= [.rd tI,.rd tG]
abbrev yuD:List OT:= [⟨false,tA,(.pr .fz (.pr (.pr .fz .fz) (.pr (.ow (.pr (.ow .fz) (.pr (.ow (.pr .fz .fz)) (.pr .fz (.ow .fz))))) (.pr .fz (.pr .fz (.pr .fz (.pr .fz (.pr .fz (.pr (.ow (.pr .fz .fz)) (.pr .fz (.pr .fz .fz)))))))))))⟩]
def yqt (a0:Int) (a1:dG):Option (zaY yuD×zak ync) :=let r1:=ye a1;bif(!(!r1))then let r2:=ya a0 1 60000;bif(!r2)then some (((0,(0,0),[],0,0,0,0,0,[],0,false,false),()),()) else zkt (ynC (((a0,()),((),()),((),()),((),()),((),()),()),((a1.1,a1.2,()),(0,0,0,(),0,0,0,0,0,(),0,false,false,()),(a0,a1.1,a1.2,(),(-1),0,0,0,0,(),(-1),false,false,()),()),([],()))) (fun y18 =>some (((y18.2.1.2.1.1,(y18.2.1.2.1.2.1,y18.2.1.2.1.2.2.1),y18.2.2.1,y18.2.1.2.1.2.2.2.2.1,y18.2.1.2.1.2.2.2.2.2.1,y18.2.1.2.1.2.2.2.2.2.2.1,y18.2.1.2.1.2.2.2.2.2.2.2.1,y18.2.1.2.1.2.2.2.2.2.2.2.2.1,[],y18.2.1.2.1.2.2.2.2.2.2.2.2.2.2.1,y18.2.1.2.1.2.2.2.2.2.2.2.2.2.2.2.1,y18.2.1.2.1.2.2.2.2.2.2.2.2.2.2.2.2.1),()),())) (fun y18 =>none) else some (((0,(0,0),[],0,0,0,0,0,[],0,false,false),()),())
theorem yMo:ConOk prog 115 ⟨ync,yuD,fun x=>yqt x.1 x.2.1⟩:=zkI (yHB) func115 ntmps115.symm fun x=>by kernel_rfl
def yiW (a0:Int) (a1:dG):dA:=ysY a0 a1
theorem yOw (a0:Int) (a1:dG) (hk:zjx ync (a0,a1,())):yqt a0 a1=(fun n=>some ((n,()),())) (yiW a0 a1):=by
 unfold yqt yiW ysY;simp only[ycf];cases hg:ye a1
 ·rfl
 cases hid:(leb 1 a0&&leb a0 60000)
 ·rfl
 have hge:=yk.1 hg
 have inner: ∀(i:Int) (a:dA),yi9 (yBQ a0 i a1 ycX a (ytN a0 a1 i))=some (.inl (yqi a0 i a1 ycX a (yz a0 a1 i))):=fun i a =>
  zkD (step:=yaD) a1.2.toNat (fun s m=>yiw a0 i s a1 ycX a m) yBg (fun _ m=>(m.1.length:Int)=6+a1.2) (fun m=> .inl (yqi a0 i a1 ycX a m)) (fun s m hs hm=>⟨by
   simp only[yaD,yiw,yiF,zky (show(s:Int)<a1.2 by omega),cond_true,wq ((s:Int)+1) (by omega) (by omega),Int.natCast_add,Int.natCast_one,Int.toNat_natCast,yaZ];have hd:ybG (s:Int)=((s+6:Nat):Int):=by unfold ybG; rw[zk2 (show(0:Int)≤s by omega),zk2 (show(s:Int)≤1099511627776 by omega)]; rfl
   rw[hd,zkR (show s+6<m.1.length by omega),Int.toNat_natCast]; rfl,by show((m.1.set _ _).length:Int)=_; rw[List.length_set]; exact hm⟩) (fun m hm=>by simp only[yaD,yiw,yiF,show((a1.2.toNat:Nat):Int)=a1.2 by omega,zk3 (Int.le_refl _),cond_false]) (ytN a0 a1 i) (by
   unfold ytN yc9;rw[zk2 (show 1≤6+a1.2 by omega),zk2 (show 6+a1.2≤20 by omega)];show(((List.replicate (6+a1.2).toNat ([]:List Int)).set 0 _).length:Int)=_
   rw[List.length_set,List.length_replicate]; omega) 18446744073709551616 (by omega)
 have hmn:yaU (ybK a1)=yc9 (6+a1.2):=by
  unfold yaU ybK;rw[wr (by omega) (by omega)]
 have h0:inb 0 (yc9 (6+a1.2)).1.length=true:=by
  unfold yc9;rw[zk2 (show 1≤6+a1.2 by omega),zk2 (show 6+a1.2≤20 by omega)];show inb 0 (List.replicate (6+a1.2).toNat ([]:List Int)).length=true;rw[List.length_replicate,zj6]; omega
 have outer:ynC (yFY a0 a1 ycX (yxE a0 a1))=some (.inl (ywe ycX ((List.range a1.1.toNat).foldl (fun a (i:Nat)=>yxD a (yz a0 a1 i)) (yxE a0 a1)))) :=
  zkD (step:=yb6) a1.1.toNat (fun i a=>yhi a0 i a1 ycX a) (fun a i=>yxD a (yz a0 a1 i)) (fun i a=>a.2.2.1.length=i) (fun a=> .inl (ywe ycX a)) (fun i a hi ha=>⟨by
   simp only[yb6,yhi,ymP,zky (show(i:Int)<a1.1 by omega),cond_true,wq ((i:Int)+1) (by omega) (by omega),Int.natCast_add,Int.natCast_one,zkX,hmn,h0];refine(congrArg (fun z=>zkt z _ _) (inner i a)).trans ?_;simp only[zkN];show(bif zkl a.2.2.1.length [yz a0 a1 i].length 80 then _ else _)=_;rw[zkF.2 (show(a.2.2.1.length+ [yz a0 a1 i].length)*80≤140737488355328 by simp only[List.length_cons,List.length_nil]; omega)];simp only[cond_true];show some (Sum.inl (yhi a0 (i64.wrap ((i:Int)+1)) a1 ycX (yxD a (yz a0 a1 i))))=_
   rw[wq ((i:Int)+1) (by omega) (by omega)],by show(a.2.2.1++ [_]).length=_; rw[List.length_append,ha]; rfl⟩) (fun a ha=>by simp only[yb6,yhi,ymP,show((a1.1.toNat:Nat):Int)=a1.1 by omega,zk3 (Int.le_refl _),cond_false]) (yxE a0 a1) rfl 18446744073709551616 (by omega)
 have hdr: ∀(l:List Nat) (a:dA),a.2.2.2.2.2.2.2.2.1= []→(l.foldl (fun a (i:Nat)=>yxD a (yz a0 a1 i)) a).2.2.2.2.2.2.2.2.1= []:=by
  intro l
  induction l with
  | nil=>intro a h; exact h
  | cons x t ih=>intro a h; exact ih _ h
 have h:=hdr (List.range a1.1.toNat) (yxE a0 a1) rfl;simp only[Bool.not_true,Bool.not_false,cond_true,cond_false,Bool.and_self];refine(congrArg (fun z=>zkt z _ _) outer).trans ?_;generalize (List.range a1.1.toNat).foldl (fun a (i:Nat)=>yxD a (yz a0 a1 i)) (yxE a0 a1)=R at h;simp only[zkN];show some ((((R.1,R.2.1,R.2.2.1,R.2.2.2.1,R.2.2.2.2.1,R.2.2.2.2.2.1,R.2.2.2.2.2.2.1,R.2.2.2.2.2.2.2.1,[],R.2.2.2.2.2.2.2.2.2):dA),()),())=some ((R,()),());rw[← h]
def yzL:Con:=⟨ync,yuD,fun x=>(fun n=>some ((n,()),())) (yiW x.1 x.2.1)⟩
theorem yPh:ConOk prog 115 yzL:=(yMo).mono (fun x r hk h=>(yOw x.1 x.2.1 hk).trans h)
def yRC:Code:=(f116.body).getD .skip
def yRQ:Env:=zkw TT [(72,yr)] []
theorem yLx:FrOk prog ⟨yRQ,10,fun _=>none⟩ yRC:=zkA mixed yd ⟨yD,trivial⟩
abbrev yxh:List Par:= [.pt tU .fz]
abbrev yxB:List OT:= [⟨false,tG,(.pr .fz .fz)⟩]
def yh5 (a0:dU):Option (zaY yxB×zak yxh) :=bnd (yb a0 3) fun r1 =>bnd (yb r1.2.1 4) fun r2 =>some ((((i64.wrap (3+r1.1.1)),(i64.wrap (1+r2.1.1))),()),(r2.2.1,()))
theorem yO9:ConOk prog 116 ⟨yxh,yxB,fun x=>yh5 x.1⟩:=zkI (yLx) func116 ntmps116.symm fun x=>by kernel_rfl
def yA5:Con:=⟨yxh,yxB,fun x=>yh5 x.1⟩
theorem yRe:ConOk prog 116 yA5:=yO9
theorem yTN (u:dU) (h:yx u): ∃(g:dG) (u':dU),yh5 u=some ((g,()),(u',()))∧ye g=true∧yx u':=by
 unfold yh5;obtain⟨r1,u1,e1,q1,d1⟩:=yu u 3 h;obtain⟨r2,u2,e2,q2,d2⟩:=yu u1 4 d1;simp only[e1,e2,zkH];refine⟨_,_,rfl,?_,d2⟩;have:=q1.2.1 (by omega); have:=q2.2.1 (by omega); have:=q1.1; have:=q2.1;rw[wr (by omega) (by omega),wr (by omega) (by omega)];exact yk.2 ⟨⟨by show 3≤3+r1; omega,by show 3+r1≤5; omega⟩,by show 1≤1+r2; omega,by show 1+r2≤8; omega⟩
def yKe:Code:=(f180.body).getD .skip
def yKC:Env:=zkw TT [(82,yj),(119,ykb)] []
theorem yDG:FrOk prog ⟨yKC,16,fun _=>none⟩ yKe:=zkA mixed yd ⟨ym,yst,trivial⟩
abbrev yjT:List Par:= [.rd tG,.rd tI]
abbrev ypL:List OT:= [⟨false,tI,.fz⟩]
def ymL (a0:dG) (a1:Int):Option (zaY ypL×zak yjT) :=let r1:=yl a0;let r2:=ya a1 0 (i64.wrap (r1-1));bif(!r2)then some (((-1),()),()) else bif((i64.wrap (a0.1-1)) !=0)then some (((i64.wrap (a1.tdiv (i64.wrap (a0.1-1)))),()),()) else none
theorem yGu:ConOk prog 180 ⟨yjT,ypL,fun x=>ymL x.1 x.2.1⟩:=zkI (yDG) func180 ntmps180.symm fun x=>by kernel_rfl
def ygJ (a0:dG) (a1:Int):Int:=yd8 a0 a1
theorem yI1 (a0:dG) (a1:Int) (hk:zjx yjT (a0,a1,())):ymL a0 a1=(fun n=>some ((n,()),())) (ygJ a0 a1):=by
 unfold ymL ygJ yd8;simp only[yS7];cases hb:ylK a0 a1
 ·rfl
 ·obtain⟨h1,h2,h3⟩:=yzu hb
  have h4:=yk.1 h1;rw[wq (a0.1-1) (by omega) (by omega),show(a0.1-1 !=0)=true from bne_iff_ne.2 (by omega),wr (by omega) (by omega)]; rfl
def yvP:Con:=⟨yjT,ypL,fun x=>(fun n=>some ((n,()),())) (ygJ x.1 x.2.1)⟩
theorem yJK:ConOk prog 180 yvP:=(yGu).mono (fun x r hk h=>(yI1 x.1 x.2.1 hk).trans h)
def ysS:Code:=(f215.body).getD .skip
def yAy:Env:=zkw TT [] []
theorem yOl:FrOk prog ⟨yAy,22,fun _=>none⟩ ysS:=zkA mixed yd trivial
def yB6:Nat→Option Seg:=fun _=>none
def yde:Shape:=⟨[(1,false,[.int .i64]),(2,false,[.ptr 0 0]),(5,false,[.int .i64])],[(0,[.int .i64,.int .i64,.int .i64,.br tM,.int .i64,.int .i64,.int .i64,.int .i64,.int .i64,.br tW,.int .i64,.bool,.bool])],[]⟩
def yhA:Shape:=⟨[(1,false,[.int .i64]),(2,false,[.ptr 0 0]),(5,false,[.ci .i64 0])],[(0,[.int .i64,.int .i64,.int .i64,.br tM,.int .i64,.int .i64,.int .i64,.int .i64,.int .i64,.br tW,.int .i64,.bool,.bool])],[]⟩
def yhy:Shape:=⟨[],[],[]⟩
def yhC:Shape:=⟨[(4,false,[.int .i64])],[],[]⟩
abbrev yqg (v0 v1:Int) (v2:dA):(yde).X:=(((v0,()),((),()),(v1,()),()),((v2.1,v2.2.1.1,v2.2.1.2,v2.2.2.1,v2.2.2.2.1,v2.2.2.2.2.1,v2.2.2.2.2.2.1,v2.2.2.2.2.2.2.1,v2.2.2.2.2.2.2.2.1,v2.2.2.2.2.2.2.2.2.1,v2.2.2.2.2.2.2.2.2.2.1,v2.2.2.2.2.2.2.2.2.2.2.1,v2.2.2.2.2.2.2.2.2.2.2.2,()),()),())
abbrev yLQ (v0:Int) (v1:dA):(yhA).X:=(((v0,()),((),()),((),()),()),((v1.1,v1.2.1.1,v1.2.1.2,v1.2.2.1,v1.2.2.2.1,v1.2.2.2.2.1,v1.2.2.2.2.2.1,v1.2.2.2.2.2.2.1,v1.2.2.2.2.2.2.2.1,v1.2.2.2.2.2.2.2.2.1,v1.2.2.2.2.2.2.2.2.2.1,v1.2.2.2.2.2.2.2.2.2.2.1,v1.2.2.2.2.2.2.2.2.2.2.2,()),()),())
abbrev yLO  :(yhy).X:=((),(),())
abbrev yz6 (v0:Int):(yhC).X:=(((v0,()),()),(),())
def yqM (v0 v1 v2 v3 v4:Int) (v5:List dM) (v6 v7 v8 v9 v10:Int) (v11:List dW) (v12:Int) (v13 v14:Bool):Option ((yde).X ⊕ ((yhy).X ⊕ (yhC).X)) :=bif(ltb v1 (v11.length:Int))then bif(inb v1 v11.length)then bif((nth v11 v1 (0,[])).1==v0)then some (.inr (.inr (((v1,()),()),(),()))) else some (.inl (((v0,()),((),()),((i64.wrap (v1+1)),()),()),((v2,v3,v4,v5,v6,v7,v8,v9,v10,v11,v12,v13,v14,()),()),())) else none else some (.inr (.inl ((),(),())))
def ydn (x:(yde).X):=yqM x.1.1.1 x.1.2.2.1.1 x.2.1.1.1 x.2.1.1.2.1 x.2.1.1.2.2.1 x.2.1.1.2.2.2.1 x.2.1.1.2.2.2.2.1 x.2.1.1.2.2.2.2.2.1 x.2.1.1.2.2.2.2.2.2.1 x.2.1.1.2.2.2.2.2.2.2.1 x.2.1.1.2.2.2.2.2.2.2.2.1 x.2.1.1.2.2.2.2.2.2.2.2.2.1 x.2.1.1.2.2.2.2.2.2.2.2.2.2.1 x.2.1.1.2.2.2.2.2.2.2.2.2.2.2.1 x.2.1.1.2.2.2.2.2.2.2.2.2.2.2.2.1
def yz2 (x:(yhA).X):(yde).X:=(((x.1.1.1,()),((),()),(0,()),()),((x.2.1.1.1,x.2.1.1.2.1,x.2.1.1.2.2.1,x.2.1.1.2.2.2.1,x.2.1.1.2.2.2.2.1,x.2.1.1.2.2.2.2.2.1,x.2.1.1.2.2.2.2.2.2.1,x.2.1.1.2.2.2.2.2.2.2.1,x.2.1.1.2.2.2.2.2.2.2.2.1,x.2.1.1.2.2.2.2.2.2.2.2.2.1,x.2.1.1.2.2.2.2.2.2.2.2.2.2.1,x.2.1.1.2.2.2.2.2.2.2.2.2.2.2.1,x.2.1.1.2.2.2.2.2.2.2.2.2.2.2.2.1,()),()),())
def yAZ:Code:=(zd7 ysS 64 52).getD .skip
theorem yOd:zd7 ysS 64 13=some (.block 0 (.loop yAZ)):=by kernel_rfl
theorem yPB (x:(yde).X):zhu ⟨yAy,22,yB6⟩ 0 yAZ 52 yde yhy yhC x=ydn x:=by kernel_rfl
def yz5 (x:(yhA).X):Nat:=18446744073709551616
def yrH (x:(yhA).X):Option ((yhy).X ⊕ (yhC).X):=zF ydn (yz5 x) (yz2 x)
def yAx:Seg:=⟨yhA,yhy,yhC,yrH⟩
def yQp:Nat→Option Seg:=fun q=>bif Nat.beq q 13 then some yAx else yB6 q
theorem yOm:FrOk prog ⟨yAy,22,yQp⟩ ysS:=(yOl).loop (sg:=yAx) yde yz2 (by decide) yOd ydn yz5 (by decide) (fun _=>rfl) (fun x r _ h=>h) yPB
abbrev ysT:List Par:= [.rd tA,.rd tI]
abbrev yAD:List OT:= [⟨false,tI,.fz⟩]
def yvf (a0:dA) (a1:Int):Option (zaY yAD×zak ysT) :=zkt (yrH (((a1,()),((),()),((),()),()),((a0.1,a0.2.1.1,a0.2.1.2,a0.2.2.1,a0.2.2.2.1,a0.2.2.2.2.1,a0.2.2.2.2.2.1,a0.2.2.2.2.2.2.1,a0.2.2.2.2.2.2.2.1,a0.2.2.2.2.2.2.2.2.1,a0.2.2.2.2.2.2.2.2.2.1,a0.2.2.2.2.2.2.2.2.2.2.1,a0.2.2.2.2.2.2.2.2.2.2.2,()),()),())) (fun y0 =>some (((-1),()),())) (fun y0 =>some ((y0.1.1.1,()),()))
theorem yQ8:ConOk prog 215 ⟨ysT,yAD,fun x=>yvf x.1 x.2.1⟩:=zkI (yOm) func215 ntmps215.symm fun x=>by kernel_rfl
def ygX (a0:dA) (a1:Int):Int:=yQ a0.2.2.2.2.2.2.2.2.1 a1
theorem yR5 (a0:dA) (a1:Int) (hk:zjx ysT (a0,a1,())):yvf a0 a1=(fun n=>some ((n,()),())) (ygX a0 a1):=by
 have hb:a0.2.2.2.2.2.2.2.2.1.length*32≤2^47:=hk.1.2.2.2.2.2.2.2.2.1.1
 have h1:yrH (yLQ a1 a0)=some (bif leb 0 (yQ a0.2.2.2.2.2.2.2.2.1 a1)then .inr (yz6 (yQ a0.2.2.2.2.2.2.2.2.1 a1))else .inl yLO) :=
  yPS (step:=ydn) a0.2.2.2.2.2.2.2.2.1 (0,[]) (fun i=>yqg a1 i a0) (fun e:dW=>e.1==a1) (fun i=> .inr (yz6 i)) _ (fun i hi=>by
   simp only[ydn,yqg,yqM,zky (show(i:Int)<a0.2.2.2.2.2.2.2.2.1.length by omega),cond_true,wq ((i:Int)+1) (by omega) (by omega),Int.natCast_add,Int.natCast_one,Int.toNat_natCast,zkR hi,zkS]
   cases((a0.2.2.2.2.2.2.2.2.1.getD i (0,[])).1==a1)<;>rfl) (by simp only[ydn,yqg,yqM,zk3 (Int.le_refl _),cond_false]) _ (by show _<18446744073709551616; omega)
 unfold yvf ygX;rw[h1];cases h:leb 0 (yQ a0.2.2.2.2.2.2.2.2.1 a1)
 ·rw[show yQ a0.2.2.2.2.2.2.2.2.1 a1= -1 from yOn h]; rfl
 ·rfl
def yu2:Con:=⟨ysT,yAD,fun x=>(fun n=>some ((n,()),())) (ygX x.1 x.2.1)⟩
theorem yEn:ConOk prog 215 yu2:=(yQ8).mono (fun x r hk h=>(yR5 x.1 x.2.1 hk).trans h)
def yoP:Code:=(f161.body).getD .skip
def yw1:Env:=zkw TT [] []
theorem yLs:FrOk prog ⟨yw1,18,fun _=>none⟩ yoP:=zkA mixed yd trivial
def yAS:Nat→Option Seg:=fun _=>none
def yco:Shape:=⟨[(0,false,[.br tI]),(1,false,[.int .i64]),(5,false,[.int .i64])],[],[]⟩
def ygi:Shape:=⟨[(0,false,[.br tI]),(1,false,[.int .i64]),(5,false,[.ci .i64 0])],[],[]⟩
def yf4:Shape:=⟨[],[],[]⟩
def ygz:Shape:=⟨[(4,false,[.bool])],[],[]⟩
abbrev yn7 (v0:List Int) (v1 v2:Int):(yco).X:=(((v0,()),(v1,()),(v2,()),()),(),())
abbrev yIy (v0:List Int) (v1:Int):(ygi).X:=(((v0,()),(v1,()),((),()),()),(),())
abbrev yIo  :(yf4).X:=((),(),())
abbrev yIJ (v0:Bool):(ygz).X:=(((v0,()),()),(),())
def yoC (v0:List Int) (v1 v2:Int):Option ((yco).X ⊕ ((yf4).X ⊕ (ygz).X)) :=bif(ltb v2 (v0.length:Int))then bif(inb v2 v0.length)then bif((nth v0 v2 0)==v1)then some (.inr (.inr (((true,()),()),(),()))) else some (.inl (((v0,()),(v1,()),((i64.wrap (v2+1)),()),()),(),())) else none else some (.inr (.inl ((),(),())))
def ycM (x:(yco).X):=yoC x.1.1.1 x.1.2.1.1 x.1.2.2.1.1
def yyg (x:(ygi).X):(yco).X:=(((x.1.1.1,()),(x.1.2.1.1,()),(0,()),()),(),())
def yzE:Code:=(zd7 yoP 64 52).getD .skip
theorem yKQ:zd7 yoP 64 13=some (.block 0 (.loop yzE)):=by kernel_rfl
theorem yNk (x:(yco).X):zhu ⟨yw1,18,yAS⟩ 0 yzE 52 yco yf4 ygz x=ycM x:=by kernel_rfl
def yyu (x:(ygi).X):Nat:=18446744073709551616
def ypf (x:(ygi).X):Option ((yf4).X ⊕ (ygz).X):=zF ycM (yyu x) (yyg x)
def yy9:Seg:=⟨ygi,yf4,ygz,ypf⟩
def yNQ:Nat→Option Seg:=fun q=>bif Nat.beq q 13 then some yy9 else yAS q
theorem yLt:FrOk prog ⟨yw1,18,yNQ⟩ yoP:=(yLs).loop (sg:=yy9) yco yyg (by decide) yKQ ycM yyu (by decide) (fun _=>rfl) (fun x r _ h=>h) yNk
abbrev ypt:List Par:= [.rd tL,.rd tI]
abbrev yxx:List OT:= [⟨false,tB,.fz⟩]
def ysK (a0:List Int) (a1:Int):Option (zaY yxx×zak ypt) :=zkt (ypf (((a0,()),(a1,()),((),()),()),(),())) (fun y0 =>some ((false,()),())) (fun y0 =>some ((y0.1.1.1,()),()))
theorem yO5:ConOk prog 161 ⟨ypt,yxx,fun x=>ysK x.1 x.2.1⟩:=zkI (yLt) func161 ntmps161.symm fun x=>by kernel_rfl
def yfu (a0:List Int) (a1:Int):Bool:=a0.any (· ==a1)
theorem yQ0 (a0:List Int) (a1:Int) (hk:zjx ypt (a0,a1,())):ysK a0 a1=(fun n=>some ((n,()),())) (yfu a0 a1):=by
 have hb:a0.length*8≤2^47:=hk.1.1
 have h1:ypf (yIy a0 a1)=some (bif a0.all (· !=a1)then .inl yIo else .inr (yIJ true)) :=
  zj9 (step:=ycM) a0 0 (fun i=>yn7 a0 a1 i) (· !=a1) _ _ (fun i hi=>by
   simp only[ycM,yn7,yoC,zky (show(i:Int)<a0.length by omega),cond_true,wq ((i:Int)+1) (by omega) (by omega),Int.natCast_add,Int.natCast_one,Int.toNat_natCast,zkR hi,zkS,bne]
   cases(a0.getD i 0==a1)<;>rfl) (by simp only[ycM,yn7,yoC,zk3 (Int.le_refl _),cond_false]) _ (by show _<18446744073709551616; omega)
 unfold ysK yfu;rw[h1,show a0.any (· ==a1)= !(a0.all (· !=a1))by simp[List.all_eq_not_any_not,bne]];cases a0.all (· !=a1)<;>rfl
def ysk:Con:=⟨ypt,yxx,fun x=>(fun n=>some ((n,()),())) (yfu x.1 x.2.1)⟩
theorem yCa:ConOk prog 161 ysk:=(yO5).mono (fun x r hk h=>(yQ0 x.1 x.2.1 hk).trans h)
def ylo:Code:=(f90.body).getD .skip
def yrC:Env:=zkw TT [(82,yj),(160,yeR),(161,ysk)] []
theorem yFB:FrOk prog ⟨yrC,60,fun _=>none⟩ ylo:=zkA mixed yd ⟨ym,yi3,yCa,trivial⟩
def ywS:Nat→Option Seg:=fun _=>none
def ybi:Shape:=⟨[(1,false,[.int .i64]),(2,false,[.ptr 0 0]),(6,false,[.br tI]),(7,false,[.int .i64])],[(0,[.br tL,.br tW,.bool,.br tI])],[]⟩
def yeu:Shape:=⟨[(1,false,[.int .i64]),(2,false,[.ptr 0 0]),(6,false,[.br tI]),(7,false,[.ci .i64 0])],[(0,[.br tL,.br tW,.bool,.br tI])],[]⟩
def yei:Shape:=⟨[(6,false,[.br tI])],[],[]⟩
def yhe:Shape:=⟨[],[],[]⟩
abbrev ykV (v0:Int) (v1:List Int) (v2:Int) (v3:dM):(ybi).X:=(((v0,()),((),()),(v1,()),(v2,()),()),((v3.1,v3.2.1,v3.2.2.1,v3.2.2.2,()),()),())
abbrev yD3 (v0:Int) (v1:List Int) (v2:dM):(yeu).X:=(((v0,()),((),()),(v1,()),((),()),()),((v2.1,v2.2.1,v2.2.2.1,v2.2.2.2,()),()),())
abbrev ytL (v0:List Int):(yei).X:=(((v0,()),()),(),())
def ylf (v0:Int) (v1:List Int) (v2:Int) (v3:List (List Int)) (v4:List dW) (v5:Bool) (v6:List Int):Option ((ybi).X ⊕ ((yei).X ⊕ (yhe).X)) :=bif(ltb v2 (v4.length:Int))then bif(inb v2 v4.length)then bif((nth v4 v2 (0,[])).1==v0)then bif(inb v2 v4.length)then some (.inl (((v0,()),((),()),((nth v4 v2 (0,[])).2,()),((i64.wrap (v2+1)),()),()),((v3,v4,v5,v6,()),()),())) else none else some (.inl (((v0,()),((),()),(v1,()),((i64.wrap (v2+1)),()),()),((v3,v4,v5,v6,()),()),())) else none else some (.inr (.inl (((v1,()),()),(),())))
def ybz (x:(ybi).X):=ylf x.1.1.1 x.1.2.2.1.1 x.1.2.2.2.1.1 x.2.1.1.1 x.2.1.1.2.1 x.2.1.1.2.2.1 x.2.1.1.2.2.2.1
def ytl (x:(yeu).X):(ybi).X:=(((x.1.1.1,()),((),()),(x.1.2.2.1.1,()),(0,()),()),((x.2.1.1.1,x.2.1.1.2.1,x.2.1.1.2.2.1,x.2.1.1.2.2.2.1,()),()),())
def yvz:Code:=(zd7 ylo 64 244).getD .skip
theorem yE6:zd7 ylo 64 61=some (.block 0 (.loop yvz)):=by kernel_rfl
theorem yGM (x:(ybi).X):zhu ⟨yrC,60,ywS⟩ 0 yvz 244 ybi yei yhe x=ybz x:=by kernel_rfl
def ytA (x:(yeu).X):Nat:=18446744073709551616
def yl9 (x:(yeu).X):Option ((yei).X ⊕ (yhe).X):=zF ybz (ytA x) (ytl x)
def ytZ:Seg:=⟨yeu,yei,yhe,yl9⟩
def yG4:Nat→Option Seg:=fun q=>bif Nat.beq q 61 then some ytZ else ywS q
theorem yFC:FrOk prog ⟨yrC,60,yG4⟩ ylo:=(yFB).loop (sg:=ytZ) ybi ytl (by decide) yE6 ybz ytA (by decide) (fun _=>rfl) (fun x r _ h=>h) yGM
abbrev ylz:List Par:= [.rd tM,.rd tI]
abbrev yr9:List OT:= [⟨false,tL,(.ow .fz)⟩,⟨false,tB,.fz⟩]
def yol (a0:dM) (a1:Int):Option (zaY yr9×zak ylz) :=let r1:=yU a0;bif(!(!r1))then bif(!a0.2.2.1)then let r2:=ya a1 0 (i64.wrap ((a0.1.length:Int)-1));bif(!(!r2))then let r3:=yfu a0.2.2.2 a1;bif r3 then some ((([]:List Int),false,()),()) else bif(inb a1 a0.1.length)then zkt (yl9 (((a1,()),((),()),((nth a0.1 a1 []),()),((),()),()),((a0.1,a0.2.1,a0.2.2.1,a0.2.2.2,()),()),())) (fun y3 =>bif(zkl ([]:List Int).length y3.1.1.1.length 8)then some (((([]:List Int)++y3.1.1.1),true,()),()) else none) (fun y3 =>none) else none else some ((([]:List Int),false,()),()) else some ((([]:List Int),false,()),()) else some ((([]:List Int),false,()),())
theorem yJm:ConOk prog 90 ⟨ylz,yr9,fun x=>yol x.1 x.2.1⟩:=zkI (yFC) func90 ntmps90.symm fun x=>by kernel_rfl
def yhP (a0:dM) (a1:Int):List Int×Bool:=ysQ a0 a1
theorem yL6 (a0:dM) (a1:Int) (hk:zjx ylz (a0,a1,())):yol a0 a1=(fun n=>some ((n.1,n.2,()),())) (yhP a0 a1):=by
 have hb1:a0.1.length*24≤2^47:=hk.1.1.1;have hb2:a0.2.1.length*32≤2^47:=hk.1.2.1.1
 have h1: ∀s,yl9 (yD3 a1 s a0)=some (.inl (ytL (yEc a1 a0.2.1 s))):=fun s =>
  zkx (step:=ybz) a0.2.1 (0,[]) (fun i s=>ykV a1 s i a0) (fun s w=>bif w.1==a1 then w.2 else s) (fun _ _=>True) (fun s=> .inl (ytL s)) (fun i s hi _=>⟨by
   simp only[ybz,ykV,ylf,zky (show(i:Int)<a0.2.1.length by omega),cond_true,wq ((i:Int)+1) (by omega) (by omega),Int.natCast_add,Int.natCast_one,Int.toNat_natCast,zkR hi,zkS]
   cases((a0.2.1.getD i (0,[])).1==a1)<;>rfl,trivial⟩) (fun s _=>by simp only[ybz,ykV,ylf,zk3 (Int.le_refl _),cond_false]) s trivial _ (by show _<18446744073709551616; omega)
 unfold yol yhP ysQ yEE;rw[ygB (show a0.1.length≤1152921504606846976 by omega)];unfold yU yfu;simp only[h1,zkN,List.nil_append];cases yq a0
 ·rfl
 cases a0.2.2.1
 ·cases hi:inb a1 a0.1.length
  ·rfl
  ·cases a0.2.2.2.any (· ==a1)
   ·have hs:(yEc a1 a0.2.1 (nth a0.1 a1 [])).length*8≤2^47 :=
     yBT (P:=fun s=>s.length*8≤2^47) (ylX (P:=fun s:List Int=>s.length*8≤2^47) hi fun x hx=>(hk.1.1.2 x hx).1) fun w hw=>(hk.1.2.1.2 w hw).2.1
    simp only[Bool.not_true,Bool.not_false,cond_true,cond_false,Bool.true_and,show zkl ([]:List Int).length (yEc a1 a0.2.1 (nth a0.1 a1 [])).length 8=true from zkF.2 (by rw[List.length_nil]; omega)]
   ·rfl
 ·rfl
def yx1:Con:=⟨ylz,yr9,fun x=>(fun n=>some ((n.1,n.2,()),())) (yhP x.1 x.2.1)⟩
theorem yM0:ConOk prog 90 yx1:=(yJm).mono (fun x r hk h=>(yL6 x.1 x.2.1 hk).trans h)
def yQc:Code:=(f211.body).getD .skip
def yQA:Env:=zkw TT [(82,yj)] []
theorem yHF:FrOk prog ⟨yQA,34,fun _=>none⟩ yQc:=zkA mixed yd ⟨ym,trivial⟩
abbrev yne:List Par:= [.rd tA,.rd tI,.rd tI]
abbrev yuH:List OT:= [⟨false,tB,.fz⟩]
def yqv (a0:dA) (a1 a2:Int):Option (zaY yuH×zak yne) :=let r1:=ya a1 0 (i64.wrap ((a0.2.2.1.length:Int)-1));bif r1 then bif(inb a1 a0.2.2.1.length)then bif(!((((nth a0.2.2.1 a1 ([],[],false,[])).2).2).1))then bif(!(a1 !=a0.2.2.2.1))then some (((ltb a2 a0.2.2.2.2.1),()),()) else some ((true,()),()) else some ((false,()),()) else none else some ((false,()),())
theorem yMs:ConOk prog 211 ⟨yne,yuH,fun x=>yqv x.1 x.2.1 x.2.2.1⟩:=zkI (yHF) func211 ntmps211.symm fun x=>by kernel_rfl
def ycS (a0:dA) (a1 a2:Int):Bool:=yhJ a0 a1 a2
theorem yOA (a0:dA) (a1 a2:Int) (hk:zjx yne (a0,a1,a2,())):yqv a0 a1 a2=(fun n=>some ((n,()),())) (ycS a0 a1 a2):=by
 have hb:a0.2.2.1.length*80≤2^47:=hk.1.2.2.1.1;unfold yqv ycS yhJ yc;rw[ygB (show a0.2.2.1.length≤1152921504606846976 by omega)];cases inb a1 a0.2.2.1.length
 ·rfl
 ·cases(nth a0.2.2.1 a1 ([],[],false,[])).2.2.1<;>cases(a1 !=a0.2.2.2.1)<;>rfl
def ypX:Con:=⟨yne,yuH,fun x=>(fun n=>some ((n,()),())) (ycS x.1 x.2.1 x.2.2.1)⟩
theorem yBm:ConOk prog 211 ypX:=(yMs).mono (fun x r hk h=>(yOA x.1 x.2.1 x.2.2.1 hk).trans h)
def yQm:Code:=(f246.body).getD .skip
def yQK:Env:=zkw TT [(90,yx1),(113,yay),(211,ypX)] []
theorem yH5:FrOk prog ⟨yQK,36,fun _=>none⟩ yQm:=zkA mixed yd ⟨yM0,yb3,yBm,trivial⟩
abbrev ynj:List Par:= [.rd tA,.rd tI,.rd tI]
abbrev yuV:List OT:= [⟨false,tI,.fz⟩,⟨false,tB,.fz⟩]
def yqC (a0:dA) (a1 a2:Int):Option (zaY yuV×zak ynj) :=let r1:=ycS a0 a1 a2;bif(!r1)then some ((0,false,()),()) else bif(inb a1 a0.2.2.1.length)then let r2:=yK a2;let r3:=yhP ((nth a0.2.2.1 a1 ([],[],false,[])).1,((nth a0.2.2.1 a1 ([],[],false,[])).2).1,(((nth a0.2.2.1 a1 ([],[],false,[])).2).2)) r2;bif(!(!r3.2))then bif((r3.1.length:Int) !=1)then some ((0,false,()),()) else bif(inb 0 r3.1.length)then some (((nth r3.1 0 0),true,()),()) else none else some ((0,false,()),()) else none
theorem yMJ:ConOk prog 246 ⟨ynj,yuV,fun x=>yqC x.1 x.2.1 x.2.2.1⟩:=zkI (yH5) func246 ntmps246.symm fun x=>by kernel_rfl
def yi1 (a0:dA) (a1 a2:Int):Int×Bool:=(yB5 a0 a1 a2,yA a0 a1 a2)
theorem yOL (a0:dA) (a1 a2:Int) (hk:zjx ynj (a0,a1,a2,())):yqC a0 a1 a2=(fun n=>some ((n.1,n.2,()),())) (yi1 a0 a1 a2):=by
 unfold yqC yi1 yB5 ycS;simp only[zkX,yaZ,yhP];rw[show yA a0 a1 a2=(yhJ a0 a1 a2&&((yl1 a0 a1 a2).2&&((yl1 a0 a1 a2).1.length:Int)==1))from rfl];rw[show ysQ (nth a0.2.2.1 a1 ([],[],false,[])) (ybG a2)=yl1 a0 a1 a2 from rfl];cases hl:yhJ a0 a1 a2
 ·rfl
 ·rw[show inb a1 a0.2.2.1.length=true by unfold yhJ at hl; exact(Bool.and_eq_true_iff.1 hl).1]
  cases(yl1 a0 a1 a2).2
  ·rfl
  ·rw[bne]
   cases h1:(((yl1 a0 a1 a2).1.length:Int)==1)
   ·rfl
   ·rw[show inb 0 (yl1 a0 a1 a2).1.length=true from zj6.2 (by have:=beq_iff_eq.1 h1; omega)]; rfl
def yzW:Con:=⟨ynj,yuV,fun x=>(fun n=>some ((n.1,n.2,()),())) (yi1 x.1 x.2.1 x.2.2.1)⟩
theorem yPs:ConOk prog 246 yzW:=(yMJ).mono (fun x r hk h=>(yOL x.1 x.2.1 x.2.2.1 hk).trans h)
def yfO:Code:=(f247.body).getD .skip
def ykp:Env:=zkw TT [] []
theorem yBd:FrOk prog ⟨ykp,23,fun _=>none⟩ yfO:=zkA mixed yd trivial
def yoU:Nat→Option Seg:=fun _=>none
def yT:Shape:=⟨[(0,false,[.br tI]),(1,false,[.int .i64]),(5,false,[.int .i64]),(6,false,[.int .i64])],[],[]⟩
def yb0:Shape:=⟨[(0,false,[.br tI]),(1,false,[.int .i64]),(5,false,[.ci .i64 0]),(6,false,[.ci .i64 0])],[],[]⟩
def ybZ:Shape:=⟨[(5,false,[.int .i64])],[],[]⟩
def ydT:Shape:=⟨[],[],[]⟩
abbrev ygW (v0:List Int) (v1 v2 v3:Int):(yT).X:=(((v0,()),(v1,()),(v2,()),(v3,()),()),(),())
abbrev yAJ (v0:List Int) (v1:Int):(yb0).X:=(((v0,()),(v1,()),((),()),((),()),()),(),())
abbrev yAI (v0:Int):(ybZ).X:=(((v0,()),()),(),())
def ygY (v0:List Int) (v1 v2 v3:Int):Option ((yT).X ⊕ ((ybZ).X ⊕ (ydT).X)) :=bif(ltb v3 (v0.length:Int))then bif(v3 !=v1)then bif(inb v3 v0.length)then some (.inl (((v0,()),(v1,()),((i64.wrap ((BitVec.ofInt IntKind.i64.bits v2 ^^^ BitVec.ofInt IntKind.i64.bits (nth v0 v3 0)).toNat:Int)),()),((i64.wrap (v3+1)),()),()),(),())) else none else some (.inl (((v0,()),(v1,()),(v2,()),((i64.wrap (v3+1)),()),()),(),())) else some (.inr (.inl (((v2,()),()),(),())))
def yZ (x:(yT).X):=ygY x.1.1.1 x.1.2.1.1 x.1.2.2.1.1 x.1.2.2.2.1.1
def ym0 (x:(yb0).X):(yT).X:=(((x.1.1.1,()),(x.1.2.1.1,()),(0,()),(0,()),()),(),())
def yoH:Code:=(zd7 yfO 64 116).getD .skip
theorem yAW:zd7 yfO 64 29=some (.block 0 (.loop yoH)):=by kernel_rfl
theorem yBs (x:(yT).X):zhu ⟨ykp,23,yoU⟩ 0 yoH 116 yT ybZ ydT x=yZ x:=by kernel_rfl
def ym1 (x:(yb0).X):Nat:=18446744073709551616
def yhp (x:(yb0).X):Option ((ybZ).X ⊕ (ydT).X):=zF yZ (ym1 x) (ym0 x)
def ym3:Seg:=⟨yb0,ybZ,ydT,yhp⟩
def yBA:Nat→Option Seg:=fun q=>bif Nat.beq q 29 then some ym3 else yoU q
theorem yBe:FrOk prog ⟨ykp,23,yBA⟩ yfO:=(yBd).loop (sg:=ym3) yT ym0 (by decide) yAW yZ ym1 (by decide) (fun _=>rfl) (fun x r _ h=>h) yBs
abbrev yfS:List Par:= [.rd tL,.rd tI]
abbrev ykI:List OT:= [⟨false,tI,.fz⟩]
def yiD (a0:List Int) (a1:Int):Option (zaY ykI×zak yfS) :=zkt (yhp (((a0,()),(a1,()),((),()),((),()),()),(),())) (fun y0 =>some ((y0.1.1.1,()),())) (fun y0 =>none)
theorem yBX:ConOk prog 247 ⟨yfS,ykI,fun x=>yiD x.1 x.2.1⟩:=zkI (yBe) func247 ntmps247.symm fun x=>by kernel_rfl
def ydL (a0:List Int) (a1:Int):Int:=ysr a0 a1
theorem yCF (a0:List Int) (a1:Int) (hk:zjx yfS (a0,a1,())):yiD a0 a1=(fun n=>some ((n,()),())) (ydL a0 a1):=by
 have hb:a0.length*8≤2^47:=hk.1.1
 have h1:=zkD (step:=yZ) a0.length (fun i s=>ygW a0 a1 s i) (fun n (i:Nat)=>bif(i:Int) !=a1 then xw n (nth a0 i 0)else n) (fun _ _=>True) (fun s=> .inl (yAI s)) (fun i s hi _=>⟨by
  simp only[yZ,ygW,ygY,zky (show(i:Int)<a0.length by omega),cond_true,wq ((i:Int)+1) (by omega) (by omega),Int.natCast_add,Int.natCast_one,Int.toNat_natCast,zkR hi]
  cases((i:Int) !=a1)<;>rfl,trivial⟩) (fun s _=>by simp only[yZ,ygW,ygY,zk3 (Int.le_refl _),cond_false]) 0 trivial 18446744073709551616 (by omega)
 rw[yTo]at h1;unfold yiD ydL;rw[show yhp (yAJ a0 a1)=_ from h1]; rfl
def ypY:Con:=⟨yfS,ykI,fun x=>(fun n=>some ((n,()),())) (ydL x.1 x.2.1)⟩
theorem yCL:ConOk prog 247 ypY:=(yBX).mono (fun x r hk h=>(yCF x.1 x.2.1 hk).trans h)
def ylr:Code:=(f227.body).getD .skip
def yrF:Env:=zkw TT [(246,yzW),(247,ypY)] []
theorem yFN:FrOk prog ⟨yrF,45,fun _=>none⟩ ylr:=zkA mixed yd ⟨yPs,yCL,trivial⟩
def ywV:Nat→Option Seg:=fun _=>none
def ybl:Shape:=⟨[(1,false,[.int .i64]),(2,false,[.ptr 0 0]),(6,false,[.at 800000000]),(7,false,[.int .i64]),(8,false,[.int .i64])],[(0,[.int .i64,.int .i64,.int .i64,.br tM,.int .i64,.int .i64,.int .i64,.int .i64,.int .i64,.br tW,.int .i64,.bool,.bool])],[(800000000,tI,.fz)]⟩
def yex:Shape:=⟨[(1,false,[.int .i64]),(2,false,[.ptr 0 0]),(6,false,[.at 800000000]),(7,false,[.ci .i64 (-1)]),(8,false,[.ci .i64 0])],[(0,[.int .i64,.int .i64,.int .i64,.br tM,.int .i64,.int .i64,.int .i64,.int .i64,.int .i64,.br tW,.int .i64,.bool,.bool])],[(800000000,tI,.fz)]⟩
def yel:Shape:=⟨[(6,false,[.at 800000000]),(7,false,[.int .i64])],[],[(800000000,tI,.fz)]⟩
def yeC:Shape:=⟨[(4,false,[.at 800000000]),(5,false,[.bool])],[],[(800000000,tI,.fz)]⟩
abbrev ykY (v0 v1 v2:Int) (v3:dA) (v4:List Int):(ybl).X:=(((v0,()),((),()),((),()),(v1,()),(v2,()),()),((v3.1,v3.2.1.1,v3.2.1.2,v3.2.2.1,v3.2.2.2.1,v3.2.2.2.2.1,v3.2.2.2.2.2.1,v3.2.2.2.2.2.2.1,v3.2.2.2.2.2.2.2.1,v3.2.2.2.2.2.2.2.2.1,v3.2.2.2.2.2.2.2.2.2.1,v3.2.2.2.2.2.2.2.2.2.2.1,v3.2.2.2.2.2.2.2.2.2.2.2,()),()),(v4,()))
abbrev yD6 (v0:Int) (v1:dA) (v2:List Int):(yex).X:=(((v0,()),((),()),((),()),((),()),((),()),()),((v1.1,v1.2.1.1,v1.2.1.2,v1.2.2.1,v1.2.2.2.1,v1.2.2.2.2.1,v1.2.2.2.2.2.1,v1.2.2.2.2.2.2.1,v1.2.2.2.2.2.2.2.1,v1.2.2.2.2.2.2.2.2.1,v1.2.2.2.2.2.2.2.2.2.1,v1.2.2.2.2.2.2.2.2.2.2.1,v1.2.2.2.2.2.2.2.2.2.2.2,()),()),(v2,()))
abbrev yDU (v0:Int) (v1:List Int):(yel).X:=((((),()),(v0,()),()),(),(v1,()))
abbrev yEb (v0:Bool) (v1:List Int):(yeC).X:=((((),()),(v0,()),()),(),(v1,()))
def ylj (v0 v1 v2 v3 v4 v5:Int) (v6:List dM) (v7 v8 v9 v10 v11:Int) (v12:List dW) (v13:Int) (v14 v15:Bool) (v16:List Int):Option ((ybl).X ⊕ ((yel).X ⊕ (yeC).X)) :=bif(ltb v2 v4)then let r2:=yi1 (v3,(v4,v5),v6,v7,v8,v9,v10,v11,v12,v13,v14,v15) v2 v0;bif(!r2.2)then bif(leb 0 v1)then some (.inr (.inr ((((),()),(false,()),()),(),(([]:List Int),())))) else bif(zkl v16.length ([r2.1]:List Int).length 8)then some (.inl (((v0,()),((),()),((),()),(v2,()),((i64.wrap (v2+1)),()),()),((v3,v4,v5,v6,v7,v8,v9,v10,v11,v12,v13,v14,v15,()),()),((v16++([r2.1]:List Int)),()))) else none else bif(zkl v16.length ([r2.1]:List Int).length 8)then some (.inl (((v0,()),((),()),((),()),(v1,()),((i64.wrap (v2+1)),()),()),((v3,v4,v5,v6,v7,v8,v9,v10,v11,v12,v13,v14,v15,()),()),((v16++([r2.1]:List Int)),()))) else none else some (.inr (.inl ((((),()),(v1,()),()),(),(v16,()))))
def ybD (x:(ybl).X):=ylj x.1.1.1 x.1.2.2.2.1.1 x.1.2.2.2.2.1.1 x.2.1.1.1 x.2.1.1.2.1 x.2.1.1.2.2.1 x.2.1.1.2.2.2.1 x.2.1.1.2.2.2.2.1 x.2.1.1.2.2.2.2.2.1 x.2.1.1.2.2.2.2.2.2.1 x.2.1.1.2.2.2.2.2.2.2.1 x.2.1.1.2.2.2.2.2.2.2.2.1 x.2.1.1.2.2.2.2.2.2.2.2.2.1 x.2.1.1.2.2.2.2.2.2.2.2.2.2.1 x.2.1.1.2.2.2.2.2.2.2.2.2.2.2.1 x.2.1.1.2.2.2.2.2.2.2.2.2.2.2.2.1 x.2.2.1
def ytp (x:(yex).X):(ybl).X:=(((x.1.1.1,()),((),()),((),()),((-1),()),(0,()),()),((x.2.1.1.1,x.2.1.1.2.1,x.2.1.1.2.2.1,x.2.1.1.2.2.2.1,x.2.1.1.2.2.2.2.1,x.2.1.1.2.2.2.2.2.1,x.2.1.1.2.2.2.2.2.2.1,x.2.1.1.2.2.2.2.2.2.2.1,x.2.1.1.2.2.2.2.2.2.2.2.1,x.2.1.1.2.2.2.2.2.2.2.2.2.1,x.2.1.1.2.2.2.2.2.2.2.2.2.2.1,x.2.1.1.2.2.2.2.2.2.2.2.2.2.2.1,x.2.1.1.2.2.2.2.2.2.2.2.2.2.2.2.1,()),()),(x.2.2.1,()))
def yvD:Code:=(zd7 ylr 64 244).getD .skip
theorem yFa:zd7 ylr 64 61=some (.block 0 (.loop yvD)):=by kernel_rfl
theorem yGQ (x:(ybl).X):zhu ⟨yrF,45,ywV⟩ 0 yvD 244 ybl yel yeC x=ybD x:=by kernel_rfl
def ytE (x:(yex).X):Nat:=18446744073709551616
def ymd (x:(yex).X):Option ((yel).X ⊕ (yeC).X):=zF ybD (ytE x) (ytp x)
def yt3:Seg:=⟨yex,yel,yeC,ymd⟩
def yG7:Nat→Option Seg:=fun q=>bif Nat.beq q 61 then some yt3 else ywV q
theorem yFO:FrOk prog ⟨yrF,45,yG7⟩ ylr:=(yFN).loop (sg:=yt3) ybl ytp (by decide) yFa ybD ytE (by decide) (fun _=>rfl) (fun x r _ h=>h) yGQ
abbrev yhu:List Par:= [.rd tA,.rd tI]
abbrev ylG:List OT:= [⟨false,tL,(.ow .fz)⟩,⟨false,tB,.fz⟩]
def yor (a0:dA) (a1:Int):Option (zaY ylG×zak yhu) :=zkt (ymd (((a1,()),((),()),((),()),((),()),((),()),()),((a0.1,a0.2.1.1,a0.2.1.2,a0.2.2.1,a0.2.2.2.1,a0.2.2.2.2.1,a0.2.2.2.2.2.1,a0.2.2.2.2.2.2.1,a0.2.2.2.2.2.2.2.1,a0.2.2.2.2.2.2.2.2.1,a0.2.2.2.2.2.2.2.2.2.1,a0.2.2.2.2.2.2.2.2.2.2.1,a0.2.2.2.2.2.2.2.2.2.2.2,()),()),(([]:List Int),()))) (fun y2 =>bif(leb 0 y2.1.2.1.1)then let r4:=ydL y2.2.2.1 y2.1.2.1.1;bif(inb y2.1.2.1.1 y2.2.2.1.length)then some (((y2.2.2.1.set (y2.1.2.1.1).toNat r4),true,()),()) else none else some ((y2.2.2.1,true,()),())) (fun y2 =>some ((y2.2.2.1,y2.1.2.1.1,()),()))
theorem yJv:ConOk prog 227 ⟨yhu,ylG,fun x=>yor x.1 x.2.1⟩:=zkI (yFO) func227 ntmps227.symm fun x=>by kernel_rfl
def yeU (a0:dA) (a1:Int):List Int×Bool:=ybp a0 a1
def ysD (a0:dA) (a1:Int):Bool:=ye a0.2.1
theorem yMd (a0:dA) (a1:Int) (hk:zjx yhu (a0,a1,())) (hq:ysD a0 a1=true):yor a0 a1=(fun n=>some ((n.1,n.2,()),())) (yeU a0 a1):=by
 have hg:=yk.1 hq
 have h1:ymd (yD6 a1 a0 [])=some (bif yLM (fun(i:Nat)=>yA a0 i a1) a0.2.1.1.toNat then .inr (yEb false [])else .inl (yDU (yN (fun(i:Nat)=>yA a0 i a1) a0.2.1.1.toNat) (yad a0 a1 a0.2.1.1.toNat))) :=
  zji (step:=ybD) (fun i=>ykY a1 (yN (fun(i:Nat)=>yA a0 i a1) i) i a0 (yad a0 a1 i)) a0.2.1.1.toNat (fun i=> !yA a0 i a1&&leb 0 (yN (fun(i:Nat)=>yA a0 i a1) i)) _ _ (fun i hi=>by
   simp only[ybD,ykY,ylj,zky (show(i:Int)<a0.2.1.1 by omega),cond_true,wq ((i:Int)+1) (by omega) (by omega),Int.natCast_add,Int.natCast_one,Int.toNat_natCast,zkX,yi1,yN];rw[zkF.2 (show((yad a0 a1 i).length+ [yB5 a0 i a1].length)*8≤140737488355328 by simp only[List.length_cons,List.length_nil,yqO]; omega),yRn]
   cases yA a0 i a1<;>cases leb 0 (yN (fun(i:Nat)=>yA a0 i a1) i)<;>rfl) (by simp only[ybD,ykY,ylj,zk3 (show a0.2.1.1≤(a0.2.1.1.toNat:Int)by omega),cond_false]) _ (by show _<18446744073709551616; omega)
 unfold yor yeU ybp;rw[h1];cases yLM (fun(i:Nat)=>yA a0 i a1) a0.2.1.1.toNat
 ·simp only[cond_false,zkN,ydL]
  cases hm:leb 0 (yN (fun(i:Nat)=>yA a0 i a1) a0.2.1.1.toNat)
  ·rfl
  ·obtain⟨h2,h3⟩:=yTp a0 a1 a0.2.1.1.toNat hm
   rw[h2,h3]; rfl
 ·rfl
def yhX (a0:dA) (a1:Int):Option (zaY ylG×zak yhu):=bif ysD a0 a1 then(fun n=>some ((n.1,n.2,()),())) (yeU a0 a1)else none
theorem yAf (a0:dA) (a1:Int) (h:ysD a0 a1=true):yhX a0 a1=(fun n=>some ((n.1,n.2,()),())) (yeU a0 a1):=by unfold yhX; rw[h]; rfl
def ynV:Con:=⟨yhu,ylG,fun x=>yhX x.1 x.2.1⟩
theorem yAb:ConOk prog 227 ynV:=(yJv).mono (fun x r hk h=>zkY h (fun hq=>yMd x.1 x.2.1 hk hq))
def yKh:Code:=(f229.body).getD .skip
def yKF:Env:=zkw TT [(82,yj),(150,yeQ)] []
theorem yDJ:FrOk prog ⟨yKF,14,fun _=>none⟩ yKh:=zkA mixed yd ⟨ym,yi2,trivial⟩
abbrev ypu:List Par:= [.rd tG,.rd tI]
abbrev ypN:List OT:= [⟨false,tB,.fz⟩]
def ywm (a0:dG) (a1:Int):Option (zaY ypN×zak ypu) :=let r1:=ye a0;bif r1 then let r2:=ya a1 0 (i64.wrap (a0.2-1));some ((r2,()),()) else some ((false,()),())
theorem yGx:ConOk prog 229 ⟨ypu,ypN,fun x=>ywm x.1 x.2.1⟩:=zkI (yDJ) func229 ntmps229.symm fun x=>by kernel_rfl
def ydW (a0:dG) (a1:Int):Bool :=let r1:=ye a0;bif r1 then let r2:=ya a1 0 (i64.wrap (a0.2-1));r2 else false
def ymn:Con:=⟨ypu,ypN,fun x=>(fun n=>some ((n,()),())) (ydW x.1 x.2.1)⟩
theorem yI4 (a0:dG) (a1:Int):ywm a0 a1=(fun n=>some ((n,()),())) (ydW a0 a1):=zkV (p:=fun(n:Bool)=>((n,()),())) (zkG (p:=fun(n:Bool)=>((n,()),())) rfl rfl)
theorem yyM:ConOk prog 229 ymn:=(yGx).mono (fun x r _ h=>(yI4 x.1 x.2.1).trans h)
theorem yGS (g:dG) (s:Int):ydW g s=ya0 g s:=by
 unfold ydW ya0;cases hg:ye g
 ·rfl
 have:=yk.1 hg;rw[ycf,wr (by omega) (by omega)]; rfl
def yKc:Code:=(f209.body).getD .skip
def yKA:Env:=zkw TT [(229,ymn)] []
theorem yDC:FrOk prog ⟨yKA,17,fun _=>none⟩ yKc:=zkA mixed yd ⟨yyM,trivial⟩
abbrev yjR:List Par:= [.rd tG,.rd tI]
abbrev ypI:List OT:= [⟨false,tI,.fz⟩]
def ymJ (a0:dG) (a1:Int):Option (zaY ypI×zak yjR) :=let r1:=ydW a0 a1;bif(!r1)then some (((-1),()),()) else bif(a0.1 !=0)then some (((i64.wrap ((i64.wrap (a0.1-1))-(a1.tmod a0.1))),()),()) else none
theorem yGr:ConOk prog 209 ⟨yjR,ypI,fun x=>ymJ x.1 x.2.1⟩:=zkI (yDC) func209 ntmps209.symm fun x=>by kernel_rfl
def ycx (a0:dG) (a1:Int):Int:=yn a0 a1
theorem yIY (a0:dG) (a1:Int) (hk:zjx yjR (a0,a1,())):ymJ a0 a1=(fun n=>some ((n,()),())) (ycx a0 a1):=by
 unfold ymJ ycx;rw[yGS];cases hs:ya0 a0 a1
 ·unfold yn; rw[hs]; rfl
 ·have h1:=yeP.1 hs
  have h2:=yk.1 h1.1;have h3:=yAh hs;have h4:yn a0 a1=a0.1-1-a1.tmod a0.1:=by unfold yn; rw[hs]; rfl
  rw[show(a0.1 !=0)=true from bne_iff_ne.2 (by omega),wq (a0.1-1) (by omega) (by omega),wq (a0.1-1-a1.tmod a0.1) (by omega) (by omega),h4]; rfl
def ymk:Con:=⟨yjR,ypI,fun x=>(fun n=>some ((n,()),())) (ycx x.1 x.2.1)⟩
theorem yyJ:ConOk prog 209 ymk:=(yGr).mono (fun x r hk h=>(yIY x.1 x.2.1 hk).trans h)
def yQb:Code:=(f242.body).getD .skip
def yQz:Env:=zkw TT [(82,yj),(209,ymk),(229,ymn)] []
theorem yHE:FrOk prog ⟨yQz,28,fun _=>none⟩ yQb:=zkA mixed yd ⟨ym,yyJ,yyM,trivial⟩
abbrev ynd:List Par:= [.rd tG,.rd tI,.rd tI]
abbrev yuG:List OT:= [⟨false,tI,.fz⟩]
def yqu (a0:dG) (a1 a2:Int):Option (zaY yuG×zak ynd) :=let r1:=ydW a0 a1;bif(!(!r1))then let r2:=ya a2 0 (i64.wrap (a0.1-2));bif(!r2)then some (((-1),()),()) else let r3:=ycx a0 a1;bif(a0.1 !=0)then some ((((i64.wrap ((i64.wrap (r3+1))+a2)).tmod a0.1),()),()) else none else some (((-1),()),())
theorem yMr:ConOk prog 242 ⟨ynd,yuG,fun x=>yqu x.1 x.2.1 x.2.2.1⟩:=zkI (yHE) func242 ntmps242.symm fun x=>by kernel_rfl
def yiX (a0:dG) (a1 a2:Int):Int:=ykM a0 a1 a2
theorem yOz (a0:dG) (a1 a2:Int) (hk:zjx ynd (a0,a1,a2,())):yqu a0 a1 a2=(fun n=>some ((n,()),())) (yiX a0 a1 a2):=by
 unfold yqu yiX ykM ycx;rw[yGS];cases hs:ya0 a0 a1
 ·rfl
 ·have h1:=yeP.1 hs
  have h2:=yk.1 h1.1;have h3:=yAh hs;rw[ycf,wq (a0.1-2) (by omega) (by omega)];cases hi:(leb 0 a2&&leb a2 (a0.1-2))
  ·rfl
  ·rw[Bool.and_eq_true,zj7,zj7]at hi
   rw[show(a0.1 !=0)=true from bne_iff_ne.2 (by omega)];show some (((i64.wrap (i64.wrap (yn a0 a1+1)+a2)).tmod a0.1,()),())=some (((yn a0 a1+1+a2).tmod a0.1,()),());rw[wq (yn a0 a1+1) (by omega) (by omega),wq (yn a0 a1+1+a2) (by omega) (by omega)]
def yzM:Con:=⟨ynd,yuG,fun x=>(fun n=>some ((n,()),())) (yiX x.1 x.2.1 x.2.2.1)⟩
theorem yPi:ConOk prog 242 yzM:=(yMr).mono (fun x r hk h=>(yOz x.1 x.2.1 x.2.2.1 hk).trans h)
def ym6:Code:=(f218.body).getD .skip
def yt6:Env:=zkw TT [(227,ynV),(242,yzM)] []
theorem yHX:FrOk prog ⟨yt6,41,fun _=>none⟩ ym6:=zkA mixed yd ⟨yAb,yPi,trivial⟩
def yzn:Nat→Option Seg:=fun _=>none
def ybS:Shape:=⟨[(1,false,[.int .i64]),(2,false,[.ptr 0 0]),(6,false,[.at 800000000]),(7,false,[.bool]),(8,false,[.at 800000001]),(9,false,[.int .i64])],[(0,[.int .i64,.int .i64,.int .i64,.br tM,.int .i64,.int .i64,.int .i64,.int .i64,.int .i64,.br tW,.int .i64,.bool,.bool])],[(800000000,tI,.fz),(800000001,tI,.fz)]⟩
def yfi:Shape:=⟨[(1,false,[.int .i64]),(2,false,[.ptr 0 0]),(6,false,[.at 800000000]),(7,false,[.bool]),(8,false,[.at 800000001]),(9,false,[.ci .i64 0])],[(0,[.int .i64,.int .i64,.int .i64,.br tM,.int .i64,.int .i64,.int .i64,.int .i64,.int .i64,.br tW,.int .i64,.bool,.bool])],[(800000000,tI,.fz),(800000001,tI,.fz)]⟩
def ye7:Shape:=⟨[(7,false,[.bool]),(8,false,[.at 800000000])],[],[(800000000,tI,.fz)]⟩
def yio:Shape:=⟨[],[],[]⟩
abbrev yeF (v0:Int) (v1:Bool) (v2:Int) (v3:dA) (v4 v5:List Int):(ybS).X:=(((v0,()),((),()),((),()),(v1,()),((),()),(v2,()),()),((v3.1,v3.2.1.1,v3.2.1.2,v3.2.2.1,v3.2.2.2.1,v3.2.2.2.2.1,v3.2.2.2.2.2.1,v3.2.2.2.2.2.2.1,v3.2.2.2.2.2.2.2.1,v3.2.2.2.2.2.2.2.2.1,v3.2.2.2.2.2.2.2.2.2.1,v3.2.2.2.2.2.2.2.2.2.2.1,v3.2.2.2.2.2.2.2.2.2.2.2,()),()),(v4,v5,()))
abbrev ywi (v0:Int) (v1:Bool) (v2:dA) (v3 v4:List Int):(yfi).X:=(((v0,()),((),()),((),()),(v1,()),((),()),((),()),()),((v2.1,v2.2.1.1,v2.2.1.2,v2.2.2.1,v2.2.2.2.1,v2.2.2.2.2.1,v2.2.2.2.2.2.1,v2.2.2.2.2.2.2.1,v2.2.2.2.2.2.2.2.1,v2.2.2.2.2.2.2.2.2.1,v2.2.2.2.2.2.2.2.2.2.1,v2.2.2.2.2.2.2.2.2.2.2.1,v2.2.2.2.2.2.2.2.2.2.2.2,()),()),(v3,v4,()))
abbrev ymw (v0:Bool) (v1:List Int):(ye7).X:=(((v0,()),((),()),()),(),(v1,()))
def yhl (v0:Int) (v1:Bool) (v2 v3 v4 v5:Int) (v6:List dM) (v7 v8 v9 v10 v11:Int) (v12:List dW) (v13:Int) (v14 v15:Bool) (v16 v17:List Int):Option ((ybS).X ⊕ ((ye7).X ⊕ (yio).X)) :=bif(ltb v2 (i64.wrap (v4-1)))then bif v1 then let r3:=yiX (v4,v5) v0 v2;bif(inb r3 v16.length)then bif(zkl v17.length ([(nth v16 r3 0)]:List Int).length 8)then some (.inl (((v0,()),((),()),((),()),(v1,()),((),()),((i64.wrap (v2+1)),()),()),((v3,v4,v5,v6,v7,v8,v9,v10,v11,v12,v13,v14,v15,()),()),(v16,(v17++([(nth v16 r3 0)]:List Int)),()))) else none else none else some (.inr (.inl (((v1,()),((),()),()),(),(v17,())))) else some (.inr (.inl (((v1,()),((),()),()),(),(v17,()))))
def yY (x:(ybS).X):=yhl x.1.1.1 x.1.2.2.2.1.1 x.1.2.2.2.2.2.1.1 x.2.1.1.1 x.2.1.1.2.1 x.2.1.1.2.2.1 x.2.1.1.2.2.2.1 x.2.1.1.2.2.2.2.1 x.2.1.1.2.2.2.2.2.1 x.2.1.1.2.2.2.2.2.2.1 x.2.1.1.2.2.2.2.2.2.2.1 x.2.1.1.2.2.2.2.2.2.2.2.1 x.2.1.1.2.2.2.2.2.2.2.2.2.1 x.2.1.1.2.2.2.2.2.2.2.2.2.2.1 x.2.1.1.2.2.2.2.2.2.2.2.2.2.2.1 x.2.1.1.2.2.2.2.2.2.2.2.2.2.2.2.1 x.2.2.1 x.2.2.2.1
def yvZ (x:(yfi).X):(ybS).X:=(((x.1.1.1,()),((),()),((),()),(x.1.2.2.2.1.1,()),((),()),(0,()),()),((x.2.1.1.1,x.2.1.1.2.1,x.2.1.1.2.2.1,x.2.1.1.2.2.2.1,x.2.1.1.2.2.2.2.1,x.2.1.1.2.2.2.2.2.1,x.2.1.1.2.2.2.2.2.2.1,x.2.1.1.2.2.2.2.2.2.2.1,x.2.1.1.2.2.2.2.2.2.2.2.1,x.2.1.1.2.2.2.2.2.2.2.2.2.1,x.2.1.1.2.2.2.2.2.2.2.2.2.2.1,x.2.1.1.2.2.2.2.2.2.2.2.2.2.2.1,x.2.1.1.2.2.2.2.2.2.2.2.2.2.2.2.1,()),()),(x.2.2.1,x.2.2.2.1,()))
def yxM:Code:=(zd7 ym6 64 244).getD .skip
theorem yHi:zd7 ym6 64 61=some (.block 0 (.loop yxM)):=by kernel_rfl
theorem yJY (x:(ybS).X):zhu ⟨yt6,41,yzn⟩ 0 yxM 244 ybS ye7 yio x=yY x:=by kernel_rfl
def ywa (x:(yfi).X):Nat:=18446744073709551616
def yif (x:(yfi).X):Option ((ye7).X ⊕ (yio).X):=zF yY (ywa x) (yvZ x)
def ywu:Seg:=⟨yfi,ye7,yio,yif⟩
def yKo:Nat→Option Seg:=fun q=>bif Nat.beq q 61 then some ywu else yzn q
theorem yHY:FrOk prog ⟨yt6,41,yKo⟩ ym6:=(yHX).loop (sg:=ywu) ybS yvZ (by decide) yHi yY ywa (by decide) (fun _=>rfl) (fun x r _ h=>h) yJY
abbrev yiM:List Par:= [.rd tA,.rd tI]
abbrev ynm:List OT:= [⟨false,tL,(.ow .fz)⟩,⟨false,tB,.fz⟩]
def yqA (a0:dA) (a1:Int):Option (zaY ynm×zak yiM) :=bnd (yhX a0 a1) fun r1 =>zkt (yif (((a1,()),((),()),((),()),(r1.1.2.1,()),((),()),((),()),()),((a0.1,a0.2.1.1,a0.2.1.2,a0.2.2.1,a0.2.2.2.1,a0.2.2.2.2.1,a0.2.2.2.2.2.1,a0.2.2.2.2.2.2.1,a0.2.2.2.2.2.2.2.1,a0.2.2.2.2.2.2.2.2.1,a0.2.2.2.2.2.2.2.2.2.1,a0.2.2.2.2.2.2.2.2.2.2.1,a0.2.2.2.2.2.2.2.2.2.2.2,()),()),(r1.1.1,([]:List Int),()))) (fun y3 =>some ((y3.2.2.1,y3.1.1.1,()),())) (fun y3 =>none)
theorem yME:ConOk prog 218 ⟨yiM,ynm,fun x=>yqA x.1 x.2.1⟩:=zkI (yHY) func218 ntmps218.symm fun x=>by kernel_rfl
def ynp (a0:dA) (a1:Int):List Int×Bool:=yEF a0 a1
def yvc (a0:dA) (a1:Int):Bool:=ya0 a0.2.1 a1
theorem yOI (a0:dA) (a1:Int) (hk:zjx yiM (a0,a1,())) (hq:yvc a0 a1=true):yqA a0 a1=(fun n=>some ((n.1,n.2,()),())) (ynp a0 a1):=by
 have hs:ya0 a0.2.1 a1=true:=hq;have hg:=yk.1 (yeP.1 hs).1;unfold yqA ynp yEF;rw[yAf a0 a1 (yeP.1 hs).1,yeU];simp only[zkH];cases hw:(ybp a0 a1).2
 ·have h1:yif (ywi a1 false a0 (ybp a0 a1).1 [])=some (.inl (ymw false [])) :=
   zkL (step:=yY) (fun i=>yeF a1 false i a0 (ybp a0 a1).1 []) 0 _ (fun i hi=>absurd hi (Nat.not_lt_zero _)) (by
    simp only[yY,yeF,yhl,cond_false]
    cases ltb ((0:Nat):Int) (i64.wrap (a0.2.1.1-1))<;>rfl) _ (by show _<18446744073709551616; omega)
  rw[h1]; rfl
 ·have hL:=yP0 hw
  have h1:yif (ywi a1 true a0 (ybp a0 a1).1 [])=some (.inl (ymw true ((List.range (a0.2.1.1-1).toNat).foldl (fun l (i:Nat)=>l++ [nth (ybp a0 a1).1 (ykM a0.2.1 a1 i) 0]) []))) :=
   zkD (step:=yY) (a0.2.1.1-1).toNat (fun i s=>yeF a1 true i a0 (ybp a0 a1).1 s) (fun l (i:Nat)=>l++ [nth (ybp a0 a1).1 (ykM a0.2.1 a1 i) 0]) (fun i s=>s.length=i) (fun s=> .inl (ymw true s)) (fun i s hi hs2=>⟨by
    have hd:=yUa hs (show(0:Int)≤i by omega) (show(i:Int)≤a0.2.1.1-2 by omega);simp only[yY,yeF,yhl,wq (a0.2.1.1-1) (by omega) (by omega),zky (show(i:Int)<a0.2.1.1-1 by omega),cond_true,wq ((i:Int)+1) (by omega) (by omega),Int.natCast_add,Int.natCast_one,Int.toNat_natCast,zkX,yiX,zj6.2 (show 0≤ykM a0.2.1 a1 i∧ykM a0.2.1 a1 i<(ybp a0 a1).1.length by omega)]
    rw[zkF.2 (show(s.length+ [nth (ybp a0 a1).1 (ykM a0.2.1 a1 i) 0].length)*8≤140737488355328 by simp only[List.length_cons,List.length_nil]; omega)]; rfl,by simp[hs2]⟩) (fun s hs2=>by simp only[yY,yeF,yhl,wq (a0.2.1.1-1) (by omega) (by omega),zk3 (show a0.2.1.1-1≤((a0.2.1.1-1).toNat:Int)by omega),cond_false]) [] rfl _ (by show _<18446744073709551616; omega)
  rw[h1,yBH]; rfl
def ynr (a0:dA) (a1:Int):Option (zaY ynm×zak yiM):=bif yvc a0 a1 then(fun n=>some ((n.1,n.2,()),())) (ynp a0 a1)else none
theorem yPx (a0:dA) (a1:Int) (h:yvc a0 a1=true):ynr a0 a1=(fun n=>some ((n.1,n.2,()),())) (ynp a0 a1):=by unfold ynr; rw[h]; rfl
def yzS:Con:=⟨yiM,ynm,fun x=>ynr x.1 x.2.1⟩
theorem yPo:ConOk prog 218 yzS:=(yME).mono (fun x r hk h=>zkY h (fun hq=>yOI x.1 x.2.1 hk hq))
def yKi:Code:=(f181.body).getD .skip
def yKG:Env:=zkw TT [(215,yu2),(218,yzS)] []
theorem yDK:FrOk prog ⟨yKG,28,fun _=>none⟩ yKi:=zkA mixed yd ⟨yEn,yPo,trivial⟩
abbrev yfU:List Par:= [.rd tA,.rd tI]
abbrev yj0:List OT:= [⟨false,tL,(.ow .fz)⟩,⟨false,tB,.fz⟩]
def ymO (a0:dA) (a1:Int):Option (zaY yj0×zak yfU) :=let r1:=ygX a0 a1;bif(leb 0 r1)then bif(inb r1 a0.2.2.2.2.2.2.2.2.1.length)then bif(zkl ([]:List Int).length ((nth a0.2.2.2.2.2.2.2.2.1 r1 (0,[])).2).length 8)then some (((([]:List Int)++((nth a0.2.2.2.2.2.2.2.2.1 r1 (0,[])).2)),true,()),()) else none else none else bif a0.2.2.2.2.2.2.2.2.2.2.2 then some ((([]:List Int),false,()),()) else bnd (ynr a0 a1) fun r2 =>some ((r2.1.1,r2.1.2.1,()),())
theorem yGy:ConOk prog 181 ⟨yfU,yj0,fun x=>ymO x.1 x.2.1⟩:=zkI (yDK) func181 ntmps181.symm fun x=>by kernel_rfl
def ygK (a0:dA) (a1:Int):List Int×Bool:=ydR a0 a1
def yqs (a0:dA) (a1:Int):Bool:=ya0 a0.2.1 a1
theorem yI5 (a0:dA) (a1:Int) (hk:zjx yfU (a0,a1,())) (hq:yqs a0 a1=true):ymO a0 a1=(fun n=>some ((n.1,n.2,()),())) (ygK a0 a1):=by
 unfold ymO ygK ydR ygX;rw[yPx a0 a1 hq];simp only[List.nil_append];cases h:leb 0 (yQ a0.2.2.2.2.2.2.2.2.1 a1)
 ·cases a0.2.2.2.2.2.2.2.2.2.2.2<;>rfl
 ·have h1:=(yso (d:=((0,[]):dW)) h).1
  have h2:(nth a0.2.2.2.2.2.2.2.2.1 (yQ a0.2.2.2.2.2.2.2.2.1 a1) (0,[])).2.length*8≤2^47:=ylX (P:=fun x:dW=>x.2.length*8≤2^47) h1 (fun x hx=>(hk.1.2.2.2.2.2.2.2.2.1.2 x hx).2.1);rw[show inb (yQ a0.2.2.2.2.2.2.2.2.1 a1) a0.2.2.2.2.2.2.2.2.1.length=true from h1,zkF.2 (show(([]:List Int).length+(nth a0.2.2.2.2.2.2.2.2.1 (yQ a0.2.2.2.2.2.2.2.2.1 a1) (0,[])).2.length)*8≤140737488355328 by rw[List.length_nil]; omega)]; rfl
def ykm (a0:dA) (a1:Int):Option (zaY yj0×zak yfU):=bif yqs a0 a1 then(fun n=>some ((n.1,n.2,()),())) (ygK a0 a1)else none
theorem yJQ (a0:dA) (a1:Int) (h:yqs a0 a1=true):ykm a0 a1=(fun n=>some ((n.1,n.2,()),())) (ygK a0 a1):=by unfold ykm; rw[h]; rfl
def yvR:Con:=⟨yfU,yj0,fun x=>ykm x.1 x.2.1⟩
theorem yJM:ConOk prog 181 yvR:=(yGy).mono (fun x r hk h=>zkY h (fun hq=>yI5 x.1 x.2.1 hk hq))
def yNz:Code:=(f182.body).getD .skip
def yN2:Env:=zkw TT [(82,yj),(119,ykb)] []
theorem yFA:FrOk prog ⟨yN2,16,fun _=>none⟩ yNz:=zkA mixed yd ⟨ym,yst,trivial⟩
abbrev yly:List Par:= [.rd tG,.rd tI]
abbrev yr8:List OT:= [⟨false,tI,.fz⟩]
def yok (a0:dG) (a1:Int):Option (zaY yr8×zak yly) :=let r1:=yl a0;let r2:=ya a1 0 (i64.wrap (r1-1));bif(!r2)then some (((-1),()),()) else bif((i64.wrap (a0.1-1)) !=0)then some (((a1.tmod (i64.wrap (a0.1-1))),()),()) else none
theorem yJl:ConOk prog 182 ⟨yly,yr8,fun x=>yok x.1 x.2.1⟩:=zkI (yFA) func182 ntmps182.symm fun x=>by kernel_rfl
def yhO (a0:dG) (a1:Int):Int:=ysp a0 a1
theorem yL5 (a0:dG) (a1:Int) (hk:zjx yly (a0,a1,())):yok a0 a1=(fun n=>some ((n,()),())) (yhO a0 a1):=by
 unfold yok yhO ysp;simp only[yS7];cases hb:ylK a0 a1
 ·rfl
 ·obtain⟨h1,h2,h3⟩:=yzu hb
  have h4:=yk.1 h1;rw[wq (a0.1-1) (by omega) (by omega),show(a0.1-1 !=0)=true from bne_iff_ne.2 (by omega)]; rfl
def yx0:Con:=⟨yly,yr8,fun x=>(fun n=>some ((n,()),())) (yhO x.1 x.2.1)⟩
theorem yMZ:ConOk prog 182 yx0:=(yJl).mono (fun x r hk h=>(yL5 x.1 x.2.1 hk).trans h)
def yoS:Code:=(f183.body).getD .skip
def yw4:Env:=zkw TT [] [(4096,(.pr .fz .fz)),(28800,(.pr .fz .fz)),(41472,(.pr .fz .fz)),(49280,(.pr .fz .fz))]
theorem yLD:FrOk prog ⟨yw4,67,fun _=>none⟩ yoS:=zkA mixed yd trivial
def yAV:Nat→Option Seg:=fun _=>none
def ycs:Shape:=⟨[(0,false,[.ptr 1000000000 0]),(3,false,[.ptr 0 0]),(4,false,[.at 800000000]),(5,false,[.bool]),(6,false,[.int .i64])],[(0,[.int .i64,.fz tI]),(1000000000,[.int .i64,.int .i64,.int .i64,.at 800000001,.int .i64,.int .i64,.int .i64,.int .i64,.int .i64,.at 800000002,.int .i64,.bool,.bool])],[(800000000,tW,(.pr .fz .fz)),(800000001,tM,(.pr (.ow .fz) (.pr (.ow (.pr .fz .fz)) (.pr .fz (.ow .fz))))),(800000002,tW,(.pr .fz .fz))]⟩
def ygm:Shape:=⟨[(0,false,[.ptr 1000000000 0]),(3,false,[.ptr 0 0]),(4,false,[.at 800000000]),(5,false,[.cb false]),(6,false,[.ci .i64 0])],[(0,[.int .i64,.fz tI]),(1000000000,[.int .i64,.int .i64,.int .i64,.at 800000001,.int .i64,.int .i64,.int .i64,.int .i64,.int .i64,.at 800000002,.int .i64,.bool,.bool])],[(800000000,tW,(.pr .fz .fz)),(800000001,tM,(.pr (.ow .fz) (.pr (.ow (.pr .fz .fz)) (.pr .fz (.ow .fz))))),(800000002,tW,(.pr .fz .fz))]⟩
def yf8:Shape:=⟨[(0,false,[.ptr 1000000000 0]),(3,false,[.ptr 0 0]),(4,false,[.at 800000000]),(5,false,[.bool])],[(0,[.int .i64,.fz tI]),(1000000000,[.int .i64,.int .i64,.int .i64,.at 800000001,.int .i64,.int .i64,.int .i64,.int .i64,.int .i64,.at 800000002,.int .i64,.bool,.bool])],[(800000000,tW,(.pr .fz .fz)),(800000001,tM,(.pr (.ow .fz) (.pr (.ow (.pr .fz .fz)) (.pr .fz (.ow .fz))))),(800000002,tW,(.pr .fz .fz))]⟩
def yj7:Shape:=⟨[],[],[]⟩
abbrev yob (v0:Bool) (v1:Int) (v2:dW) (v3:dA) (v4:List dW):(ycs).X:=((((),()),((),()),((),()),(v0,()),(v1,()),()),((v2.1,v2.2,()),(v3.1,v3.2.1.1,v3.2.1.2,(),v3.2.2.2.1,v3.2.2.2.2.1,v3.2.2.2.2.2.1,v3.2.2.2.2.2.2.1,v3.2.2.2.2.2.2.2.1,(),v3.2.2.2.2.2.2.2.2.2.1,v3.2.2.2.2.2.2.2.2.2.2.1,v3.2.2.2.2.2.2.2.2.2.2.2,()),()),(v4,v3.2.2.1,v3.2.2.2.2.2.2.2.2.1,()))
abbrev yIC (v0:dW) (v1:dA) (v2:List dW):(ygm).X:=((((),()),((),()),((),()),((),()),((),()),()),((v0.1,v0.2,()),(v1.1,v1.2.1.1,v1.2.1.2,(),v1.2.2.2.1,v1.2.2.2.2.1,v1.2.2.2.2.2.1,v1.2.2.2.2.2.2.1,v1.2.2.2.2.2.2.2.1,(),v1.2.2.2.2.2.2.2.2.2.1,v1.2.2.2.2.2.2.2.2.2.2.1,v1.2.2.2.2.2.2.2.2.2.2.2,()),()),(v2,v1.2.2.1,v1.2.2.2.2.2.2.2.2.1,()))
abbrev yIp (v0:Bool) (v1:dW) (v2:dA) (v3:List dW):(yf8).X:=((((),()),((),()),((),()),(v0,()),()),((v1.1,v1.2,()),(v2.1,v2.2.1.1,v2.2.1.2,(),v2.2.2.2.1,v2.2.2.2.2.1,v2.2.2.2.2.2.1,v2.2.2.2.2.2.2.1,v2.2.2.2.2.2.2.2.1,(),v2.2.2.2.2.2.2.2.2.2.1,v2.2.2.2.2.2.2.2.2.2.2.1,v2.2.2.2.2.2.2.2.2.2.2.2,()),()),(v3,v2.2.2.1,v2.2.2.2.2.2.2.2.2.1,()))
def yoG (v0:Bool) (v1 v2:Int) (v3:List Int) (v4 v5 v6 v7 v8 v9 v10 v11 v12:Int) (v13 v14:Bool) (v15:List dW) (v16:List dM) (v17:List dW):Option ((ycs).X ⊕ ((yf8).X ⊕ (yj7).X)) :=bif(ltb v1 (v17.length:Int))then bif(!v0)then bif(inb v1 v17.length)then bif(leb v2 ((nth v17 v1 (0,[])).1))then bif(zkl v15.length ([(v2,v3)]:List dW).length 32)then bif(inb v1 v17.length)then bif((nth v17 v1 (0,[])).1 !=v2)then bif(inb v1 v17.length)then bif(zkl (v15++([(v2,v3)]:List dW)).length ([(nth v17 v1 (0,[]))]:List dW).length 32)then some (.inl ((((),()),((),()),((),()),(true,()),((i64.wrap (v1+1)),()),()),((v2,v3,()),(v4,v5,v6,(),v7,v8,v9,v10,v11,(),v12,v13,v14,()),()),(((v15++([(v2,v3)]:List dW))++([(nth v17 v1 (0,[]))]:List dW)),v16,v17,()))) else none else none else some (.inl ((((),()),((),()),((),()),(true,()),((i64.wrap (v1+1)),()),()),((v2,v3,()),(v4,v5,v6,(),v7,v8,v9,v10,v11,(),v12,v13,v14,()),()),((v15++([(v2,v3)]:List dW)),v16,v17,()))) else none else none else bif(inb v1 v17.length)then bif((nth v17 v1 (0,[])).1 !=v2)then bif(inb v1 v17.length)then bif(zkl v15.length ([(nth v17 v1 (0,[]))]:List dW).length 32)then some (.inl ((((),()),((),()),((),()),(v0,()),((i64.wrap (v1+1)),()),()),((v2,v3,()),(v4,v5,v6,(),v7,v8,v9,v10,v11,(),v12,v13,v14,()),()),((v15++([(nth v17 v1 (0,[]))]:List dW)),v16,v17,()))) else none else none else some (.inl ((((),()),((),()),((),()),(v0,()),((i64.wrap (v1+1)),()),()),((v2,v3,()),(v4,v5,v6,(),v7,v8,v9,v10,v11,(),v12,v13,v14,()),()),(v15,v16,v17,()))) else none else none else bif(inb v1 v17.length)then bif((nth v17 v1 (0,[])).1 !=v2)then bif(inb v1 v17.length)then bif(zkl v15.length ([(nth v17 v1 (0,[]))]:List dW).length 32)then some (.inl ((((),()),((),()),((),()),(v0,()),((i64.wrap (v1+1)),()),()),((v2,v3,()),(v4,v5,v6,(),v7,v8,v9,v10,v11,(),v12,v13,v14,()),()),((v15++([(nth v17 v1 (0,[]))]:List dW)),v16,v17,()))) else none else none else some (.inl ((((),()),((),()),((),()),(v0,()),((i64.wrap (v1+1)),()),()),((v2,v3,()),(v4,v5,v6,(),v7,v8,v9,v10,v11,(),v12,v13,v14,()),()),(v15,v16,v17,()))) else none else some (.inr (.inl ((((),()),((),()),((),()),(v0,()),()),((v2,v3,()),(v4,v5,v6,(),v7,v8,v9,v10,v11,(),v12,v13,v14,()),()),(v15,v16,v17,()))))
def ycQ (x:(ycs).X):=yoG x.1.2.2.2.1.1 x.1.2.2.2.2.1.1 x.2.1.1.1 x.2.1.1.2.1 x.2.1.2.1.1 x.2.1.2.1.2.1 x.2.1.2.1.2.2.1 x.2.1.2.1.2.2.2.2.1 x.2.1.2.1.2.2.2.2.2.1 x.2.1.2.1.2.2.2.2.2.2.1 x.2.1.2.1.2.2.2.2.2.2.2.1 x.2.1.2.1.2.2.2.2.2.2.2.2.1 x.2.1.2.1.2.2.2.2.2.2.2.2.2.2.1 x.2.1.2.1.2.2.2.2.2.2.2.2.2.2.2.1 x.2.1.2.1.2.2.2.2.2.2.2.2.2.2.2.2.1 x.2.2.1 x.2.2.2.1 x.2.2.2.2.1
def yyk (x:(ygm).X):(ycs).X:=((((),()),((),()),((),()),(false,()),(0,()),()),((x.2.1.1.1,x.2.1.1.2.1,()),(x.2.1.2.1.1,x.2.1.2.1.2.1,x.2.1.2.1.2.2.1,(),x.2.1.2.1.2.2.2.2.1,x.2.1.2.1.2.2.2.2.2.1,x.2.1.2.1.2.2.2.2.2.2.1,x.2.1.2.1.2.2.2.2.2.2.2.1,x.2.1.2.1.2.2.2.2.2.2.2.2.1,(),x.2.1.2.1.2.2.2.2.2.2.2.2.2.2.1,x.2.1.2.1.2.2.2.2.2.2.2.2.2.2.2.1,x.2.1.2.1.2.2.2.2.2.2.2.2.2.2.2.2.1,()),()),(x.2.2.1,x.2.2.2.1,x.2.2.2.2.1,()))
def yzI:Code:=(zd7 yoS 64 244).getD .skip
theorem yKU:zd7 yoS 64 61=some (.block 0 (.loop yzI)):=by kernel_rfl
theorem yNo (x:(ycs).X):zhu ⟨yw4,67,yAV⟩ 0 yzI 244 ycs yf8 yj7 x=ycQ x:=by kernel_rfl
def yyy (x:(ygm).X):Nat:=18446744073709551616
def ypj (x:(ygm).X):Option ((yf8).X ⊕ (yj7).X):=zF ycQ (yyy x) (yyk x)
def yzd:Seg:=⟨ygm,yf8,yj7,ypj⟩
def yNT:Nat→Option Seg:=fun q=>bif Nat.beq q 61 then some yzd else yAV q
theorem yLE:FrOk prog ⟨yw4,67,yNT⟩ yoS:=(yLD).loop (sg:=yzd) ycs yyk (by decide) yKU ycQ yyy (by decide) (fun _=>rfl) (fun x r _ h=>h) yNo
abbrev ykD:List Par:= [.pt tA (.pr .fz (.pr (.pr .fz .fz) (.pr (.ow (.pr (.ow .fz) (.pr (.ow (.pr .fz .fz)) (.pr .fz (.ow .fz))))) (.pr .fz (.pr .fz (.pr .fz (.pr .fz (.pr .fz (.pr (.ow (.pr .fz .fz)) (.pr .fz (.pr .fz .fz))))))))))),.kp tW .fz]
abbrev ypQ:List OT:= []
def ysO (a0:dA) (a1:dW):Option (zaY ypQ×zak ykD) :=zkt (ypj ((((),()),((),()),((),()),((),()),((),()),()),((a1.1,a1.2,()),(a0.1,a0.2.1.1,a0.2.1.2,(),a0.2.2.2.1,a0.2.2.2.2.1,a0.2.2.2.2.2.1,a0.2.2.2.2.2.2.1,a0.2.2.2.2.2.2.2.1,(),a0.2.2.2.2.2.2.2.2.2.1,a0.2.2.2.2.2.2.2.2.2.2.1,a0.2.2.2.2.2.2.2.2.2.2.2,()),()),(([]:List dW),a0.2.2.1,a0.2.2.2.2.2.2.2.2.1,()))) (fun y0 =>bif(!y0.1.2.2.2.1.1)then bif(zkl y0.2.2.1.length ([(y0.2.1.1.1,y0.2.1.1.2.1)]:List dW).length 32)then some ((),((y0.2.1.2.1.1,(y0.2.1.2.1.2.1,y0.2.1.2.1.2.2.1),y0.2.2.2.1,y0.2.1.2.1.2.2.2.2.1,y0.2.1.2.1.2.2.2.2.2.1,y0.2.1.2.1.2.2.2.2.2.2.1,y0.2.1.2.1.2.2.2.2.2.2.2.1,y0.2.1.2.1.2.2.2.2.2.2.2.2.1,(y0.2.2.1++([(y0.2.1.1.1,y0.2.1.1.2.1)]:List dW)),y0.2.1.2.1.2.2.2.2.2.2.2.2.2.2.1,y0.2.1.2.1.2.2.2.2.2.2.2.2.2.2.2.1,y0.2.1.2.1.2.2.2.2.2.2.2.2.2.2.2.2.1),())) else none else some ((),((y0.2.1.2.1.1,(y0.2.1.2.1.2.1,y0.2.1.2.1.2.2.1),y0.2.2.2.1,y0.2.1.2.1.2.2.2.2.1,y0.2.1.2.1.2.2.2.2.2.1,y0.2.1.2.1.2.2.2.2.2.2.1,y0.2.1.2.1.2.2.2.2.2.2.2.1,y0.2.1.2.1.2.2.2.2.2.2.2.2.1,y0.2.2.1,y0.2.1.2.1.2.2.2.2.2.2.2.2.2.2.1,y0.2.1.2.1.2.2.2.2.2.2.2.2.2.2.2.1,y0.2.1.2.1.2.2.2.2.2.2.2.2.2.2.2.2.1),()))) (fun y0 =>none)
theorem yPd:ConOk prog 183 ⟨ykD,ypQ,fun x=>ysO x.1 x.2.1⟩:=zkI (yLE) func183 ntmps183.symm fun x=>by kernel_rfl
def yqn (a0:dA) (a1:dW):dA:=yB0 a0 (yEp a0.2.2.2.2.2.2.2.2.1 a1)
def yyQ (a0:dA) (a1:dW):Bool:=decide (a0.2.2.2.2.2.2.2.2.1.length≤1000)
theorem yQ4 (a0:dA) (a1:dW) (hk:zjx ykD (a0,a1,())) (hq:yyQ a0 a1=true):ysO a0 a1=(fun n=>some ((),(n,()))) (yqn a0 a1):=by
 have hq:=of_decide_eq_true hq
 have h1:=zkx (step:=ycQ) a0.2.2.2.2.2.2.2.2.1 (0,[]) (fun i s=>yob s.1 i a1 a0 s.2) (ybI a1) (fun i s=>s.2.length≤i*2) (fun s=> .inl (yIp s.1 a1 a0 s.2)) (fun i s hi hs=>by
  constructor
  ·simp only[ycQ,yob,yoG,zky (show(i:Int)<a0.2.2.2.2.2.2.2.2.1.length by omega),cond_true,wq ((i:Int)+1) (by omega) (by omega),Int.natCast_add,Int.natCast_one,Int.toNat_natCast,zkR hi,zkX,zkS,ybI,zkF.2 (show(s.2.length+ [a1].length)*32≤140737488355328 by simp only[List.length_cons,List.length_nil]; omega),
    show ∀x:dW,zkl s.2.length [x].length 32=true from fun x=>zkF.2 (by simp only[List.length_cons,List.length_nil]; omega),show ∀x:dW,zkl (s.2++ [a1]).length [x].length 32=true from fun x=>zkF.2 (by simp only[List.length_append,List.length_cons,List.length_nil]; omega)]
   cases s.1<;>cases leb a1.1 (a0.2.2.2.2.2.2.2.2.1.getD i (0,[])).1<;>cases((a0.2.2.2.2.2.2.2.2.1.getD i (0,[])).1 !=a1.1)<;>simp
  ·unfold ybI
   have: ∀(b c:Bool) (x:dW),((bif b then s.2++ [a1]else s.2)++(bif c then[x]else[])).length≤(i+1)*2:=fun b c x=>by
    cases b<;>cases c<;>simp<;>omega
   exact this _ _ _) (fun s hs=>by simp only[ycQ,yob,yoG,zk3 (Int.le_refl _),cond_false]) (false,[]) (Nat.zero_le _) 18446744073709551616 (by omega)
 have hl:((a0.2.2.2.2.2.2.2.2.1.foldl (ybI a1) (false,[])).2).length≤2000:=by
  have: ∀(l:List dW) (s:Bool×List dW),((l.foldl (ybI a1) s).2).length≤s.2.length+l.length*2:=by
   intro l
   induction l with
   | nil=>intro s; simp
   | cons x t ih =>
    intro s;rw[List.foldl_cons];have:=ih (ybI a1 s x)
    have h2:(ybI a1 s x).2.length≤s.2.length+2:=by
     unfold ybI;cases(!s.1&&leb a1.1 x.1)<;>cases(x.1 !=a1.1)<;>simp
    simp only[List.length_cons]; omega
  have:=this a0.2.2.2.2.2.2.2.2.1 (false,[]);simp only[List.length_nil]at this;omega
 unfold ysO yqn yEp;refine(congrArg (fun z=>zkt z _ _) (show ypj (yIC a1 a0 [])=_ from h1)).trans ?_;generalize a0.2.2.2.2.2.2.2.2.1.foldl (ybI a1) (false,[])=R at hl;simp only[zkN,zkX];cases hr:R.1
 ·rw[zkF.2 (show(R.2.length+ [a1].length)*32≤140737488355328 by simp only[List.length_cons,List.length_nil]; omega)]; rfl
 ·rfl
def yqp (a0:dA) (a1:dW):Option (zaY ypQ×zak ykD):=bif yyQ a0 a1 then(fun n=>some ((),(n,()))) (yqn a0 a1)else none
theorem yRk (a0:dA) (a1:dW) (h:yyQ a0 a1=true):yqp a0 a1=(fun n=>some ((),(n,()))) (yqn a0 a1):=by unfold yqp; rw[h]; rfl
def yA8:Con:=⟨ykD,ypQ,fun x=>yqp x.1 x.2.1⟩
theorem yRh:ConOk prog 183 yA8:=(yPd).mono (fun x r hk h=>zkY h (fun hq=>yQ4 x.1 x.2.1 hk hq))
def yRE:Code:=(f118.body).getD .skip
def yRS:Env:=zkw TT [(180,yvP),(181,yvR),(182,yx0),(183,yA8)] []
theorem yLF:FrOk prog ⟨yRS,40,fun _=>none⟩ yRE:=zkA mixed yd ⟨yJK,yJM,yMZ,yRh,trivial⟩
abbrev ykE:List Par:= [.pt tA (.pr .fz (.pr (.pr .fz .fz) (.pr (.ow (.pr (.ow .fz) (.pr (.ow (.pr .fz .fz)) (.pr .fz (.ow .fz))))) (.pr .fz (.pr .fz (.pr .fz (.pr .fz (.pr .fz (.pr (.ow (.pr .fz .fz)) (.pr .fz (.pr .fz .fz))))))))))),.rd tI,.rd tI]
abbrev ypR:List OT:= [⟨false,tI,.fz⟩]
def ysP (a0:dA) (a1 a2:Int):Option (zaY ypR×zak ykE) :=let r1:=ygJ a0.2.1 a1;bnd (ykm a0 r1) fun r2 =>bif(!r2.1.2.1)then some ((5,()),(a0,())) else let r3:=yhO a0.2.1 a1;bif(inb r3 r2.1.1.length)then bnd (yqp a0 (r1,(r2.1.1.set (r3).toNat a2))) fun r4 =>some ((0,()),(r4.2.1,())) else none
theorem yPe:ConOk prog 118 ⟨ykE,ypR,fun x=>ysP x.1 x.2.1 x.2.2.1⟩:=zkI (yLF) func118 ntmps118.symm fun x=>by kernel_rfl
def yEA (a:dA) (b n:Int):Int×dA:=bif(ydR a (yd8 a.2.1 b)).2 then(0,yB0 a (yEp a.2.2.2.2.2.2.2.2.1 (yd8 a.2.1 b,(ydR a (yd8 a.2.1 b)).1.set (ysp a.2.1 b).toNat n)))else(5,a)
def yqo (a0:dA) (a1 a2:Int):Int×dA:=yEA a0 a1 a2
def yk2 (a0:dA) (a1 a2:Int):Bool:=yP a0&&(ylK a0.2.1 a1&&decide (a0.2.2.2.2.2.2.2.2.1.length≤1000))
theorem yQ5 (a0:dA) (a1 a2:Int) (hk:zjx ykE (a0,a1,a2,())) (hq:yk2 a0 a1 a2=true):ysP a0 a1 a2=(fun n=>some ((n.1,()),(n.2,()))) (yqo a0 a1 a2):=by
 simp only[yk2,Bool.and_eq_true]at hq;have hs:=yGT hq.2.1;obtain⟨hg,_,hi⟩:=yzu hq.2.1;unfold ysP yqo yEA;simp only[ygJ,yhO];rw[yJQ a0 (yd8 a0.2.1 a1) hs];simp only[zkH,ygK];cases hn:(ydR a0 (yd8 a0.2.1 a1)).2
 ·rfl
 ·have hl:=yCe hq.1 hs hn
  have hx:ysp a0.2.1 a1=a1.tmod (a0.2.1.1-1):=by unfold ysp; rw[hq.2.1]; rfl
  rw[zj6.2 (show 0≤ysp a0.2.1 a1∧ysp a0.2.1 a1<(ydR a0 (yd8 a0.2.1 a1)).1.length by omega),yRk _ _ hq.2.2];rfl
def ydO (a0:dA) (a1 a2:Int):Option (zaY ypR×zak ykE):=bif yk2 a0 a1 a2 then(fun n=>some ((n.1,()),(n.2,()))) (yqo a0 a1 a2)else none
theorem yRl (a0:dA) (a1 a2:Int) (h:yk2 a0 a1 a2=true):ydO a0 a1 a2=(fun n=>some ((n.1,()),(n.2,()))) (yqo a0 a1 a2):=by unfold ydO; rw[h]; rfl
def yA9:Con:=⟨ykE,ypR,fun x=>ydO x.1 x.2.1 x.2.2.1⟩
theorem yRi:ConOk prog 118 yA9:=(yPe).mono (fun x r hk h=>zkY h (fun hq=>yQ5 x.1 x.2.1 x.2.2.1 hk hq))
def yRv:Code:=(f162.body).getD .skip
def yRJ:Env:=zkw TT [(82,yj),(200,yfo)] []
theorem yLg:FrOk prog ⟨yRJ,22,fun _=>none⟩ yRv:=zkA mixed yd ⟨ym,ykn,trivial⟩
abbrev yw8:List Par:= [.rd tN]
abbrev yxp:List OT:= [⟨false,tB,.fz⟩]
def yBw (a0:dN):Option (zaY yxp×zak yw8) :=let r1:=ya a0.1 0 60000;bif r1 then let r2:=ya a0.2.1 0 7;bif r2 then let r3:=ya (a0.2.2.length:Int) 2 4;bif r3 then let r4:=yG a0.2.2;some ((r4,()),()) else some ((false,()),()) else some ((false,()),()) else some ((false,()),())
theorem yOX:ConOk prog 162 ⟨yw8,yxp,fun x=>yBw x.1⟩:=zkI (yLg) func162 ntmps162.symm fun x=>by kernel_rfl
def yfs (a0:dN):Bool :=let r1:=ya a0.1 0 60000;bif r1 then let r2:=ya a0.2.1 0 7;bif r2 then let r3:=ya (a0.2.2.length:Int) 2 4;bif r3 then let r4:=yG a0.2.2;r4 else false else false else false
def yA0:Con:=⟨yw8,yxp,fun x=>(fun n=>some ((n,()),())) (yfs x.1)⟩
theorem yQW (a0:dN):yBw a0=(fun n=>some ((n,()),())) (yfs a0):=zkV (p:=fun(n:Bool)=>((n,()),())) (zkG (p:=fun(n:Bool)=>((n,()),())) (zkG (p:=fun(n:Bool)=>((n,()),())) (zkG (p:=fun(n:Bool)=>((n,()),())) rfl rfl) rfl) rfl)
theorem yQ9:ConOk prog 162 yA0:=(yOX).mono (fun x r _ h=>(yQW x.1).trans h)
def yNa (r:dN):List Int:=bif yfs r then 21322::r.1::r.2.1::(r.2.2.length:Int)::r.2.2 else[]
theorem yTt {r:dN}:yfs r=true↔(0≤r.1∧r.1≤60000)∧(0≤r.2.1∧r.2.1≤7)∧(2≤(r.2.2.length:Int)∧(r.2.2.length:Int)≤4)∧r.2.2.all isW=true:=by
 unfold yfs;simp only[yvg,← yqc];cases ya r.1 0 60000<;>cases ya r.2.1 0 7<;>cases ya (r.2.2.length:Int) 2 4<;>simp
def yyZ (r:dN) (a:dA) (i:Nat):dA:=ydi a i (yiZ r.1) (yNa r)
def yh6 (a:dA) (r:dN):dA:=yX ((List.range a.2.2.1.length).foldl (yyZ r) a)
theorem ywH (r:dN) (a:dA) (i:Nat):(yyZ r a i).2.2.1.length=a.2.2.1.length:=ysz _ _ _ _
theorem yUg (a:dA) (r:dN):(yh6 a r).2.2.1.length=a.2.2.1.length:=(yB2 _).trans (ysn (ywH r) _ _)
theorem ysR (a:dA) (r:dN):yw (yh6 a r)=yw a:=(yoJ _).trans (ytq (one:=yyZ r) (fun _ _=>yyN _ _ _ _) _ _)
def yT4 (p N x:Int) (data:List Int) (i:Int):Int:=bif i==p then x else nth data ((i-p-1+N).tmod N) 0
def yhG (p N s:Int) (data:List Int) (a:dA) (i:Nat):dA:=bif yhJ a i s then ydi a i (ybG s) [yT4 p N (yqQ data) data i]else a
def ydV (a:dA) (s:Int) (data:List Int):dA:=(List.range a.2.2.1.length).foldl (yhG (yn a.2.1 s) a.2.1.1 s data) a
theorem yAE (p N s:Int) (data:List Int) (a:dA) (i:Nat):(yhG p N s data a i).2.2.1.length=a.2.2.1.length:=by
 unfold yhG; cases yhJ a i s
 ·rfl
 ·exact ysz _ _ _ _
theorem yDb (p N s:Int) (data:List Int) (a:dA) (i:Nat):yw (yhG p N s data a i)=yw a:=by
 unfold yhG; cases yhJ a i s
 ·rfl
 ·exact yyN _ _ _ _
theorem yDc (a:dA) (s:Int) (data:List Int):yw (ydV a s data)=yw a:=ytq (yDb _ _ _ _) _ _
theorem yUQ {N i p:Int} (h:3≤N∧N≤5) (hi:0≤i∧i<N) (hp:0≤p∧p≤N-1) (hne:i≠p):0≤(i-p-1+N).tmod N∧(i-p-1+N).tmod N<N-1:=by
 rw[Int.tmod_eq_emod_of_nonneg (by omega)];have:N=3∨N=4∨N=5:=by omega
 rcases this with rfl | rfl | rfl<;>omega
def yau (a:dA):dA:=bif leb 4 (i64.wrap (a.2.2.2.2.2.1-a.2.2.2.2.2.2.1))then yct a else a
def yeI (a:dA) (s:Int) (d:List Int):Int×dA :=bif yi (yau a)then(6,yau a)else bif yi (yh6 (yau a) ((yau a).2.2.2.2.2.1,s,d))then(6,yh6 (yau a) ((yau a).2.2.2.2.2.1,s,d))else (bif yi (ydV (yfG (yh6 (yau a) ((yau a).2.2.2.2.2.1,s,d))) s d)then 6 else 0,ydV (yfG (yh6 (yau a) ((yau a).2.2.2.2.2.1,s,d))) s d)
theorem yPG (a:dA):(yct a).2.1=a.2.1:=by
 unfold yct;cases yi (yX a)
 ·exact(yit (ytF (yqN (yX a)))).trans (show(yX a).2.1=a.2.1 from yit (yoJ a))
 ·exact yit (yoJ a)
theorem ySE (a:dA):(yau a).2.1=a.2.1:=by
 unfold yau;cases leb 4 (i64.wrap (a.2.2.2.2.2.1-a.2.2.2.2.2.2.1))
 ·rfl
 ·exact yPG a
def yd0:Code:=(f76.body).getD .skip
def yiK:Env:=zkw TT [] [(21056,.fz),(21120,.fz),(37952,(.pr .fz .fz)),(38016,(.pr .fz .fz))]
theorem yHP:FrOk prog ⟨yiK,60,fun _=>none⟩ yd0:=zkA mixed yd trivial
def yzk:Nat→Option Seg:=fun _=>none
def ybO:Shape:=⟨[(1,false,[.ptr 0 0]),(2,false,[.ptr 64 0]),(3,false,[.ptr 4544 0]),(4,false,[.int .i64])],[(0,[.br tL,.br tW,.bool,.br tI]),(64,[.nil,.nil,.bool,.nil]),(4544,[.at 800000001,.nil,.bool,.at 800000000])],[(800000001,tL,.fz),(800000000,tI,.fz)]⟩
def yfe:Shape:=⟨[(1,false,[.ptr 0 0]),(2,false,[.ptr 64 0]),(3,false,[.ptr 4544 0]),(4,false,[.ci .i64 0])],[(0,[.br tL,.br tW,.bool,.br tI]),(64,[.nil,.nil,.bool,.nil]),(4544,[.at 800000001,.nil,.bool,.at 800000000])],[(800000001,tL,.fz),(800000000,tI,.fz)]⟩
def ye3:Shape:=⟨[(1,false,[.ptr 0 0]),(2,false,[.ptr 64 0]),(3,false,[.ptr 4544 0])],[(0,[.br tL,.br tW,.bool,.br tI]),(64,[.nil,.nil,.bool,.nil]),(4544,[.at 800000000,.nil,.bool,.at 800000001])],[(800000000,tL,.fz),(800000001,tI,.fz)]⟩
def yik:Shape:=⟨[],[],[]⟩
abbrev ymq (v0:Int) (v1 v2 v3:dM):(ybO).X:=((((),()),((),()),((),()),(v0,()),()),((v1.1,v1.2.1,v1.2.2.1,v1.2.2.2,()),((),(),v2.2.2.1,(),()),((),(),v3.2.2.1,(),()),()),(v3.1,v3.2.2.2,()))
abbrev yF1 (v0 v1 v2:dM):(yfe).X:=((((),()),((),()),((),()),((),()),()),((v0.1,v0.2.1,v0.2.2.1,v0.2.2.2,()),((),(),v1.2.2.1,(),()),((),(),v2.2.2.1,(),()),()),(v2.1,v2.2.2.2,()))
abbrev ywf (v0 v1 v2:dM):(ye3).X:=((((),()),((),()),((),()),()),((v0.1,v0.2.1,v0.2.2.1,v0.2.2.2,()),((),(),v1.2.2.1,(),()),((),(),v2.2.2.1,(),()),()),(v2.1,v2.2.2.2,()))
def ymS (v0:Int) (v1:List (List Int)) (v2:List dW) (v3:Bool) (v4:List Int) (v5 v6:Bool) (v7:List (List Int)) (v8:List Int):Option ((ybO).X ⊕ ((ye3).X ⊕ (yik).X)) :=bif(ltb v0 (v1.length:Int))then bif(inb v0 v1.length)then bif(zkl ([]:List Int).length (nth v1 v0 []).length 8)then bif(zkl v7.length ([(([]:List Int)++(nth v1 v0 []))]:List (List Int)).length 24)then some (.inl ((((),()),((),()),((),()),((i64.wrap (v0+1)),()),()),((v1,v2,v3,v4,()),((),(),v5,(),()),((),(),v6,(),()),()),((v7++([(([]:List Int)++(nth v1 v0 []))]:List (List Int))),v8,()))) else none else none else none else some (.inr (.inl ((((),()),((),()),((),()),()),((v1,v2,v3,v4,()),((),(),v5,(),()),((),(),v6,(),()),()),(v7,v8,()))))
def yb9 (x:(ybO).X):=ymS x.1.2.2.2.1.1 x.2.1.1.1 x.2.1.1.2.1 x.2.1.1.2.2.1 x.2.1.1.2.2.2.1 x.2.1.2.1.2.2.1 x.2.1.2.2.1.2.2.1 x.2.2.1 x.2.2.2.1
def yvV (x:(yfe).X):(ybO).X:=((((),()),((),()),((),()),(0,()),()),((x.2.1.1.1,x.2.1.1.2.1,x.2.1.1.2.2.1,x.2.1.1.2.2.2.1,()),((),(),x.2.1.2.1.2.2.1,(),()),((),(),x.2.1.2.2.1.2.2.1,(),()),()),(x.2.2.1,x.2.2.2.1,()))
def yxI:Code:=(zd7 yd0 64 116).getD .skip
theorem yHe:zd7 yd0 64 29=some (.block 0 (.loop yxI)):=by kernel_rfl
theorem yJU (x:(ybO).X):zhu ⟨yiK,60,yzk⟩ 0 yxI 116 ybO ye3 yik x=yb9 x:=by kernel_rfl
def yv6 (x:(yfe).X):Nat:=18446744073709551616
def ynF (x:(yfe).X):Option ((ye3).X ⊕ (yik).X):=zF yb9 (yv6 x) (yvV x)
def ywq:Seg:=⟨yfe,ye3,yik,ynF⟩
def yoV:Nat→Option Seg:=fun q=>bif Nat.beq q 29 then some ywq else yzk q
theorem yHQ:FrOk prog ⟨yiK,60,yoV⟩ yd0:=(yHP).loop (sg:=ywq) ybO yvV (by decide) yHe yb9 yv6 (by decide) (fun _=>rfl) (fun x r _ h=>h) yJU
def ybP:Shape:=⟨[(1,false,[.ptr 0 0]),(2,false,[.ptr 64 0]),(3,false,[.ptr 4544 0]),(5,false,[.int .i64])],[(0,[.br tL,.br tW,.bool,.br tI]),(64,[.nil,.nil,.bool,.nil]),(4544,[.at 800000000,.at 800000002,.bool,.at 800000001])],[(800000000,tL,.fz),(800000002,tW,(.pr .fz .fz)),(800000001,tI,.fz)]⟩
def yff:Shape:=⟨[(1,false,[.ptr 0 0]),(2,false,[.ptr 64 0]),(3,false,[.ptr 4544 0]),(5,false,[.ci .i64 0])],[(0,[.br tL,.br tW,.bool,.br tI]),(64,[.nil,.nil,.bool,.nil]),(4544,[.at 800000000,.at 800000002,.bool,.at 800000001])],[(800000000,tL,.fz),(800000002,tW,(.pr .fz .fz)),(800000001,tI,.fz)]⟩
def ye4:Shape:=⟨[(2,false,[.ptr 64 0]),(3,false,[.ptr 4544 0])],[(64,[.nil,.nil,.bool,.nil]),(4544,[.at 800000000,.at 800000001,.bool,.at 800000002])],[(800000000,tL,.fz),(800000001,tW,(.pr .fz .fz)),(800000002,tI,.fz)]⟩
def yil:Shape:=⟨[],[],[]⟩
abbrev ymr (v0:Int) (v1 v2 v3:dM):(ybP).X:=((((),()),((),()),((),()),(v0,()),()),((v1.1,v1.2.1,v1.2.2.1,v1.2.2.2,()),((),(),v2.2.2.1,(),()),((),(),v3.2.2.1,(),()),()),(v3.1,v3.2.1,v3.2.2.2,()))
abbrev yF2 (v0 v1 v2:dM):(yff).X:=((((),()),((),()),((),()),((),()),()),((v0.1,v0.2.1,v0.2.2.1,v0.2.2.2,()),((),(),v1.2.2.1,(),()),((),(),v2.2.2.1,(),()),()),(v2.1,v2.2.1,v2.2.2.2,()))
abbrev ywg (v0 v1:dM):(ye4).X:=((((),()),((),()),()),(((),(),v0.2.2.1,(),()),((),(),v1.2.2.1,(),()),()),(v1.1,v1.2.1,v1.2.2.2,()))
def ymT (v0:Int) (v1:List (List Int)) (v2:List dW) (v3:Bool) (v4:List Int) (v5 v6:Bool) (v7:List (List Int)) (v8:List dW) (v9:List Int):Option ((ybP).X ⊕ ((ye4).X ⊕ (yil).X)) :=bif(ltb v0 (v2.length:Int))then bif(inb v0 v2.length)then bif(inb v0 v2.length)then bif(zkl ([]:List Int).length ((nth v2 v0 (0,[])).2).length 8)then bif(zkl v8.length ([((nth v2 v0 (0,[])).1,(([]:List Int)++((nth v2 v0 (0,[])).2)))]:List dW).length 32)then some (.inl ((((),()),((),()),((),()),((i64.wrap (v0+1)),()),()),((v1,v2,v3,v4,()),((),(),v5,(),()),((),(),v6,(),()),()),(v7,(v8++([((nth v2 v0 (0,[])).1,(([]:List Int)++((nth v2 v0 (0,[])).2)))]:List dW)),v9,()))) else none else none else none else none else some (.inr (.inl ((((),()),((),()),()),(((),(),v5,(),()),((),(),v6,(),()),()),(v7,v8,v9,()))))
def yca (x:(ybP).X):=ymT x.1.2.2.2.1.1 x.2.1.1.1 x.2.1.1.2.1 x.2.1.1.2.2.1 x.2.1.1.2.2.2.1 x.2.1.2.1.2.2.1 x.2.1.2.2.1.2.2.1 x.2.2.1 x.2.2.2.1 x.2.2.2.2.1
def yvW (x:(yff).X):(ybP).X:=((((),()),((),()),((),()),(0,()),()),((x.2.1.1.1,x.2.1.1.2.1,x.2.1.1.2.2.1,x.2.1.1.2.2.2.1,()),((),(),x.2.1.2.1.2.2.1,(),()),((),(),x.2.1.2.2.1.2.2.1,(),()),()),(x.2.2.1,x.2.2.2.1,x.2.2.2.2.1,()))
def yxJ:Code:=(zd7 yd0 64 244).getD .skip
theorem yHf:zd7 yd0 64 61=some (.block 2 (.loop yxJ)):=by kernel_rfl
theorem yJV (x:(ybP).X):zhu ⟨yiK,60,yoV⟩ 2 yxJ 244 ybP ye4 yil x=yca x:=by kernel_rfl
def yv7 (x:(yff).X):Nat:=18446744073709551616
def ynG (x:(yff).X):Option ((ye4).X ⊕ (yil).X):=zF yca (yv7 x) (yvW x)
def ywr:Seg:=⟨yff,ye4,yil,ynG⟩
def yKl:Nat→Option Seg:=fun q=>bif Nat.beq q 61 then some ywr else yoV q
theorem yHR:FrOk prog ⟨yiK,60,yKl⟩ yd0:=(yHQ).loop (sg:=ywr) ybP yvW (by decide) yHf yca yv7 (by decide) (fun _=>rfl) (fun x r _ h=>h) yJV
abbrev ynh:List Par:= [.rd tM]
abbrev yuQ:List OT:= [⟨false,tM,(.pr (.ow .fz) (.pr (.ow (.pr .fz .fz)) (.pr .fz (.ow .fz))))⟩]
def yqy (a0:dM):Option (zaY yuQ×zak ynh) :=bif(zkl ([]:List Int).length a0.2.2.2.length 8)then zkt (ynF ((((),()),((),()),((),()),((),()),()),((a0.1,a0.2.1,a0.2.2.1,a0.2.2.2,()),((),(),false,(),()),((),(),a0.2.2.1,(),()),()),([],(([]:List Int)++a0.2.2.2),()))) (fun y0 =>zkt (ynG ((((),()),((),()),((),()),((),()),()),((y0.2.1.1.1,y0.2.1.1.2.1,y0.2.1.1.2.2.1,y0.2.1.1.2.2.2.1,()),((),(),y0.2.1.2.1.2.2.1,(),()),((),(),y0.2.1.2.2.1.2.2.1,(),()),()),(y0.2.2.1,[],y0.2.2.2.1,()))) (fun y1 =>some (((y1.2.2.1,y1.2.2.2.1,y1.2.1.2.1.2.2.1,y1.2.2.2.2.1),()),())) (fun y1 =>none)) (fun y0 =>none) else none
theorem yMB:ConOk prog 76 ⟨ynh,yuQ,fun x=>yqy x.1⟩:=zkI (yHR) func76 ntmps76.symm fun x=>by kernel_rfl
def yI (a0:dM):dM:=a0
theorem yOG (a0:dM) (hk:zjx ynh (a0,())):yqy a0=(fun n=>some ((n,()),())) (yI a0):=by
 have hb1:a0.1.length*24≤2^47:=hk.1.1.1;have hb2:a0.2.1.length*32≤2^47:=hk.1.2.1.1;have hb3:a0.2.2.2.length*8≤2^47:=hk.1.2.2.2.1;have hs: ∀i,i<a0.1.length→(a0.1.getD i []).length*8≤2^47:=fun i hi=>by rw[zkJ hi]; exact(hk.1.1.2 _ (List.getElem_mem hi)).1
 have hc: ∀i,i<a0.2.1.length→(a0.2.1.getD i (0,[])).2.length*8≤2^47:=fun i hi=>by rw[zkJ hi]; exact(hk.1.2.1.2 _ (List.getElem_mem hi)).2.1
 have h1:ynF (yF1 a0 yc ([],[],a0.2.2.1,a0.2.2.2))=some (.inl (ywf a0 yc (a0.1,[],a0.2.2.1,a0.2.2.2))):=by
  have:=zkx (step:=yb9) a0.1 [] (fun i s=>ymq i a0 yc (s,[],a0.2.2.1,a0.2.2.2)) (fun s x=>s++ [x]) (fun i s=>s.length=i) (fun s=> .inl (ywf a0 yc (s,[],a0.2.2.1,a0.2.2.2))) (fun i s hi hs2=>⟨by
   have:=hs i hi;simp only[yb9,ymq,ymS,zky (show(i:Int)<a0.1.length by omega),cond_true,wq ((i:Int)+1) (by omega) (by omega),Int.natCast_add,Int.natCast_one,Int.toNat_natCast,zkR hi,zkS,List.nil_append]
   rw[zkF.2 (show(([]:List Int).length+(a0.1.getD i []).length)*8≤140737488355328 by rw[List.length_nil]; omega),zkF.2 (show(s.length+ [a0.1.getD i []].length)*24≤140737488355328 by simp only[List.length_cons,List.length_nil]; omega)]; rfl,by simp[hs2]⟩) (fun s _=>by simp only[yb9,ymq,ymS,zk3 (Int.le_refl _),cond_false]) [] rfl 18446744073709551616 (by omega)
  rw[ynY]at this;exact this
 have h2:ynG (yF2 a0 yc (a0.1,[],a0.2.2.1,a0.2.2.2))=some (.inl (ywg yc a0)):=by
  have:=zkx (step:=yca) a0.2.1 (0,[]) (fun i s=>ymr i a0 yc (a0.1,s,a0.2.2.1,a0.2.2.2)) (fun s x=>s++ [x]) (fun i s=>s.length=i) (fun s=> .inl (ywg yc (a0.1,s,a0.2.2.1,a0.2.2.2))) (fun i s hi hs2=>⟨by
   have:=hc i hi;simp only[yca,ymr,ymT,zky (show(i:Int)<a0.2.1.length by omega),cond_true,wq ((i:Int)+1) (by omega) (by omega),Int.natCast_add,Int.natCast_one,Int.toNat_natCast,zkR hi,zkS,List.nil_append,zkX]
   rw[zkF.2 (show(([]:List Int).length+(a0.2.1.getD i (0,[])).2.length)*8≤140737488355328 by rw[List.length_nil]; omega),zkF.2 (show(s.length+ [a0.2.1.getD i (0,[])].length)*32≤140737488355328 by simp only[List.length_cons,List.length_nil]; omega)]; rfl,by simp[hs2]⟩) (fun s _=>by simp only[yca,ymr,ymT,zk3 (Int.le_refl _),cond_false]) [] rfl 18446744073709551616 (by omega)
  rw[ynY]at this;exact this
 unfold yqy yI;rw[zkF.2 (show(([]:List Int).length+a0.2.2.2.length)*8≤140737488355328 by rw[List.length_nil]; omega)];simp only[cond_true,List.nil_append,h1,zkN,h2]
def ydU:Con:=⟨ynh,yuQ,fun x=>(fun n=>some ((n,()),())) (yI x.1)⟩
theorem yhY:ConOk prog 76 ydU:=(yMB).mono (fun x r hk h=>(yOG x.1 hk).trans h)
def yNy:Code:=(f143.body).getD .skip
def yN1:Env:=zkw TT [(76,ydU)] [(12288,(.pr .fz .fz))]
theorem yFz:FrOk prog ⟨yN1,10,fun _=>none⟩ yNy:=zkA mixed yd ⟨yhY,trivial⟩
abbrev yrP:List Par:= [.rd tM]
abbrev yr7:List OT:= [⟨false,tM,(.pr (.ow .fz) (.pr (.ow (.pr .fz .fz)) (.pr .fz (.ow .fz))))⟩]
def yyW (a0:dM):Option (zaY yr7×zak yrP) :=let r1:=yI a0;some (((r1.1,([]:List dW),true,r1.2.2.2),()),())
theorem yJk:ConOk prog 143 ⟨yrP,yr7,fun x=>yyW x.1⟩:=zkI (yFz) func143 ntmps143.symm fun x=>by kernel_rfl
def yhN (a0:dM):dM :=let r1:=yI a0;(r1.1,([]:List dW),true,r1.2.2.2)
def ynT:Con:=⟨yrP,yr7,fun x=>(fun n=>some ((n,()),())) (yhN x.1)⟩
theorem yL4 (a0:dM):yyW a0=(fun n=>some ((n,()),())) (yhN a0):=zkV (p:=fun(n:dM)=>((n,()),())) rfl
theorem yz9:ConOk prog 143 ynT:=(yJk).mono (fun x r _ h=>(yL4 x.1).trans h)
def yie:Code:=(f245.body).getD .skip
def ynB:Env:=zkw TT [] []
theorem yCq:FrOk prog ⟨ynB,28,fun _=>none⟩ yie:=zkA mixed yd trivial
def ysW:Nat→Option Seg:=fun _=>none
def yat:Shape:=⟨[(0,false,[.br tI]),(1,false,[.int .i64]),(5,false,[.at 800000000]),(6,false,[.int .i64])],[],[(800000000,tI,.fz)]⟩
def yc7:Shape:=⟨[(0,false,[.br tI]),(1,false,[.int .i64]),(5,false,[.at 800000000]),(6,false,[.ci .i64 0])],[],[(800000000,tI,.fz)]⟩
def yc2:Shape:=⟨[(5,false,[.at 800000000])],[],[(800000000,tI,.fz)]⟩
def yfD:Shape:=⟨[],[],[]⟩
abbrev yiz (v0:List Int) (v1 v2:Int) (v3:List Int):(yat).X:=(((v0,()),(v1,()),((),()),(v2,()),()),(),(v3,()))
abbrev yBS (v0:List Int) (v1:Int) (v2:List Int):(yc7).X:=(((v0,()),(v1,()),((),()),((),()),()),(),(v2,()))
abbrev yBO (v0:List Int):(yc2).X:=((((),()),()),(),(v0,()))
def yiI (v0:List Int) (v1 v2:Int) (v3:List Int):Option ((yat).X ⊕ ((yc2).X ⊕ (yfD).X)) :=bif(ltb v2 (v0.length:Int))then bif(inb v2 v0.length)then bif((nth v0 v2 0) !=v1)then bif(inb v2 v0.length)then bif(zkl v3.length ([(nth v0 v2 0)]:List Int).length 8)then some (.inl (((v0,()),(v1,()),((),()),((i64.wrap (v2+1)),()),()),(),((v3++([(nth v0 v2 0)]:List Int)),()))) else none else none else some (.inl (((v0,()),(v1,()),((),()),((i64.wrap (v2+1)),()),()),(),(v3,()))) else none else some (.inr (.inl ((((),()),()),(),(v3,()))))
def yaG (x:(yat).X):=yiI x.1.1.1 x.1.2.1.1 x.1.2.2.2.1.1 x.2.2.1
def yp6 (x:(yc7).X):(yat).X:=(((x.1.1.1,()),(x.1.2.1.1,()),((),()),(0,()),()),(),(x.2.2.1,()))
def yqV:Code:=(zd7 yie 64 116).getD .skip
theorem yCl:zd7 yie 64 29=some (.block 0 (.loop yqV)):=by kernel_rfl
theorem yCQ (x:(yat).X):zhu ⟨ynB,28,ysW⟩ 0 yqV 116 yat yc2 yfD x=yaG x:=by kernel_rfl
def yqb (x:(yc7).X):Nat:=18446744073709551616
def yjb (x:(yc7).X):Option ((yc2).X ⊕ (yfD).X):=zF yaG (yqb x) (yp6 x)
def yqK:Seg:=⟨yc7,yc2,yfD,yjb⟩
def yCV:Nat→Option Seg:=fun q=>bif Nat.beq q 29 then some yqK else ysW q
theorem yCr:FrOk prog ⟨ynB,28,yCV⟩ yie:=(yCq).loop (sg:=yqK) yat yp6 (by decide) yCl yaG yqb (by decide) (fun _=>rfl) (fun x r _ h=>h) yCQ
abbrev yig:List Par:= [.rd tL,.rd tI]
abbrev ynQ:List OT:= [⟨false,tL,(.ow .fz)⟩]
def yk4 (a0:List Int) (a1:Int):Option (zaY ynQ×zak yig) :=zkt (yjb (((a0,()),(a1,()),((),()),((),()),()),(),(([]:List Int),()))) (fun y0 =>some ((y0.2.2.1,()),())) (fun y0 =>none)
theorem yEi:ConOk prog 245 ⟨yig,ynQ,fun x=>yk4 x.1 x.2.1⟩:=zkI (yCr) func245 ntmps245.symm fun x=>by kernel_rfl
def yfv (a0:List Int) (a1:Int):List Int:=yPC a0 a1
theorem yDf {α:Type} (p:α→Bool): ∀(l:List α) (s:List α),l.foldl (fun s x=>bif p x then s++ [x]else s) s=s++l.filter p
 | [],s=>by simp
 | x::l,s=>by
  rw[List.foldl_cons,yDf p l,List.filter_cons];cases p x<;>simp
theorem yGc (a0:List Int) (a1:Int) (hk:zjx yig (a0,a1,())):yk4 a0 a1=(fun n=>some ((n,()),())) (yfv a0 a1):=by
 have hb:a0.length*8≤2^47:=hk.1.1
 have h1:=zkx (step:=yaG) a0 0 (fun i s=>yiz a0 a1 i s) (fun s x=>bif x !=a1 then s++ [x]else s) (fun i s=>s.length≤i) (fun s=> .inl (yBO s)) (fun i s hi hs=>by
   constructor
   ·simp only[yaG,yiz,yiI,zky (show(i:Int)<a0.length by omega),cond_true,wq ((i:Int)+1) (by omega) (by omega),Int.natCast_add,Int.natCast_one,Int.toNat_natCast,zkR hi,zkS]
    rw[zkF.2 (show(s.length+ [a0.getD i 0].length)*8≤140737488355328 by simp only[List.length_cons,List.length_nil]; omega)];cases(a0.getD i 0 !=a1)<;>rfl
   ·cases(a0.getD i 0 !=a1)
    ·show s.length≤_; omega
    ·simp only[cond_true,List.length_append,List.length_cons,List.length_nil]; omega) (fun s _=>by simp only[yaG,yiz,yiI,zk3 (Int.le_refl _),cond_false]) [] (Nat.le_refl _) 18446744073709551616 (by omega)
 unfold yk4 yfv yPC;rw[show yjb (yBS a0 a1 [])=_ from h1,yDf]; rfl
def yta:Con:=⟨yig,ynQ,fun x=>(fun n=>some ((n,()),())) (yfv x.1 x.2.1)⟩
theorem yGB:ConOk prog 245 yta:=(yEi).mono (fun x r hk h=>(yGc x.1 x.2.1 hk).trans h)
def yKf:Code:=(f225.body).getD .skip
def yKD:Env:=zkw TT [(76,ydU),(82,yj),(160,yeR),(202,ysi),(245,yta)] [(16832,(.pr .fz .fz))]
theorem yDH:FrOk prog ⟨yKD,55,fun _=>none⟩ yKf:=zkA mixed yd ⟨yhY,ym,yi3,yB8,yGB,trivial⟩
abbrev yjU:List Par:= [.rd tM,.rd tI,.rd tL]
abbrev ypM:List OT:= [⟨false,tM,(.pr (.ow .fz) (.pr (.ow (.pr .fz .fz)) (.pr .fz (.ow .fz))))⟩,⟨false,tB,.fz⟩]
def ymM (a0:dM) (a1:Int) (a2:List Int):Option (zaY ypM×zak yjU) :=let r1:=yI a0;let r2:=yU a0;bif(!(!r2))then bif(!a0.2.2.1)then let r3:=ya a1 0 (i64.wrap ((a0.1.length:Int)-1));bif(!(!r3))then let r4:=yft a2;bif(!(!r4))then bif(leb 60 (a0.2.1.length:Int))then some ((r1,false,()),()) else bif(zkl ([]:List Int).length a2.length 8)then bif(zkl r1.2.1.length ([(a1,(([]:List Int)++a2))]:List dW).length 32)then let r5:=yfv a0.2.2.2 a1;some (((r1.1,(r1.2.1++([(a1,(([]:List Int)++a2))]:List dW)),r1.2.2.1,r5),true,()),()) else none else none else some ((r1,false,()),()) else some ((r1,false,()),()) else some ((r1,false,()),()) else some ((r1,false,()),())
theorem yGv:ConOk prog 225 ⟨yjU,ypM,fun x=>ymM x.1 x.2.1 x.2.2.1⟩:=zkI (yDH) func225 ntmps225.symm fun x=>by kernel_rfl
def ycy (a0:dM) (a1:Int) (a2:List Int):dM×Bool:=yd9 a0 a1 a2
theorem yI2 (a0:dM) (a1:Int) (a2:List Int) (hk:zjx yjU (a0,a1,a2,())):ymM a0 a1 a2=(fun n=>some ((n.1,n.2,()),())) (ycy a0 a1 a2):=by
 have hb1:a0.1.length*24≤2^47:=hk.1.1.1;have hb2:a2.length*8≤2^47:=hk.2.2.1.1;unfold ymM ycy yd9 ysg;simp only[yI,yU,ygB (show a0.1.length≤1152921504606846976 by omega),yAK,yfv,List.nil_append];cases yq a0
 ·rfl
 cases a0.2.2.1
 ·cases inb a1 a0.1.length
  ·rfl
  cases yO a2
  ·rfl
  by_cases h:(a0.2.1.length:Int)<60
  ·rw[zky h,zk1 h,zkF.2 (show(([]:List Int).length+a2.length)*8≤140737488355328 by rw[List.length_nil]; omega),zkF.2 (show(a0.2.1.length+ [(a1,a2)].length)*32≤140737488355328 by simp only[List.length_cons,List.length_nil]; omega)]; rfl
  ·rw[zk3 (by omega),zk2 (by omega)]; rfl
 ·rfl
def ymm:Con:=⟨yjU,ypM,fun x=>(fun n=>some ((n.1,n.2,()),())) (ycy x.1 x.2.1 x.2.2.1)⟩
theorem yyL:ConOk prog 225 ymm:=(yGv).mono (fun x r hk h=>(yI2 x.1 x.2.1 x.2.2.1 hk).trans h)
def ySk:Code:=(f228.body).getD .skip
def ySm:Env:=zkw TT [] []
theorem yOk:FrOk prog ⟨ySm,31,fun _=>none⟩ ySk:=zkA mixed yd trivial
abbrev yAA:List Par:= [.pt tA (.pr .fz (.pr (.pr .fz .fz) (.pr (.ow (.pr (.ow .fz) (.pr (.ow (.pr .fz .fz)) (.pr .fz (.ow .fz))))) (.pr .fz (.pr .fz (.pr .fz (.pr .fz (.pr .fz (.pr (.ow (.pr .fz .fz)) (.pr .fz (.pr .fz .fz)))))))))))]
abbrev yAC:List OT:= [⟨false,tB,.fz⟩]
def yCc (a0:dA):Option (zaY yAC×zak yAA) :=bif a0.2.2.2.2.2.2.2.2.2.2.1 then some ((false,()),(a0,())) else bif(a0.2.2.2.2.2.2.2.2.2.1==0)then some ((false,()),((a0.1,a0.2.1,a0.2.2.1,a0.2.2.2.1,a0.2.2.2.2.1,a0.2.2.2.2.2.1,a0.2.2.2.2.2.2.1,a0.2.2.2.2.2.2.2.1,a0.2.2.2.2.2.2.2.2.1,(-1),true,a0.2.2.2.2.2.2.2.2.2.2.2),())) else bif(ltb 0 a0.2.2.2.2.2.2.2.2.2.1)then some ((true,()),((a0.1,a0.2.1,a0.2.2.1,a0.2.2.2.1,a0.2.2.2.2.1,a0.2.2.2.2.2.1,a0.2.2.2.2.2.2.1,a0.2.2.2.2.2.2.2.1,a0.2.2.2.2.2.2.2.2.1,(i64.wrap (a0.2.2.2.2.2.2.2.2.2.1-1)),a0.2.2.2.2.2.2.2.2.2.2),())) else some ((true,()),(a0,()))
theorem yQ7:ConOk prog 228 ⟨yAA,yAC,fun x=>yCc x.1⟩:=zkI (yOk) func228 ntmps228.symm fun x=>by kernel_rfl
def ym2 (a0:dA):Bool×dA :=bif a0.2.2.2.2.2.2.2.2.2.2.1 then (false,a0) else bif(a0.2.2.2.2.2.2.2.2.2.1==0)then (false,(a0.1,a0.2.1,a0.2.2.1,a0.2.2.2.1,a0.2.2.2.2.1,a0.2.2.2.2.2.1,a0.2.2.2.2.2.2.1,a0.2.2.2.2.2.2.2.1,a0.2.2.2.2.2.2.2.2.1,(-1),true,a0.2.2.2.2.2.2.2.2.2.2.2)) else bif(ltb 0 a0.2.2.2.2.2.2.2.2.2.1)then (true,(a0.1,a0.2.1,a0.2.2.1,a0.2.2.2.1,a0.2.2.2.2.1,a0.2.2.2.2.2.1,a0.2.2.2.2.2.2.1,a0.2.2.2.2.2.2.2.1,a0.2.2.2.2.2.2.2.2.1,(i64.wrap (a0.2.2.2.2.2.2.2.2.2.1-1)),a0.2.2.2.2.2.2.2.2.2.2)) else (true,a0)
def yu1:Con:=⟨yAA,yAC,fun x=>(fun n=>some ((n.1,()),(n.2,()))) (ym2 x.1)⟩
theorem yR4 (a0:dA):yCc a0=(fun n=>some ((n.1,()),(n.2,()))) (ym2 a0):=zkV (p:=fun(n:Bool×dA)=>((n.1,()),(n.2,()))) (zkG (p:=fun(n:Bool×dA)=>((n.1,()),(n.2,()))) rfl (zkG (p:=fun(n:Bool×dA)=>((n.1,()),(n.2,()))) rfl (zkG (p:=fun(n:Bool×dA)=>((n.1,()),(n.2,()))) rfl rfl)))
theorem yEm:ConOk prog 228 yu1:=(yQ7).mono (fun x r _ h=>(yR4 x.1).trans h)
theorem yNp (a:dA):ym2 a=yV a:=by kernel_rfl
def yRD:Code:=(f206.body).getD .skip
def yRR:Env:=zkw TT [(225,ymm),(228,yu1)] []
theorem yLy:FrOk prog ⟨yRR,43,fun _=>none⟩ yRD:=zkA mixed yd ⟨yyL,yEm,trivial⟩
abbrev ykB:List Par:= [.pt tA (.pr .fz (.pr (.pr .fz .fz) (.pr (.ow (.pr (.ow .fz) (.pr (.ow (.pr .fz .fz)) (.pr .fz (.ow .fz))))) (.pr .fz (.pr .fz (.pr .fz (.pr .fz (.pr .fz (.pr (.ow (.pr .fz .fz)) (.pr .fz (.pr .fz .fz))))))))))),.rd tI,.rd tI,.rd tL]
abbrev ypO:List OT:= []
def ysL (a0:dA) (a1 a2:Int) (a3:List Int):Option (zaY ypO×zak ykB) :=bif(inb a1 a0.2.2.1.length)then bif(!((((nth a0.2.2.1 a1 ([],[],false,[])).2).2).1))then let r1:=ym2 a0;bif(!r1.1)then some ((),(r1.2,())) else bif(inb a1 r1.2.2.2.1.length)then let r2:=ycy ((nth r1.2.2.2.1 a1 ([],[],false,[])).1,((nth r1.2.2.2.1 a1 ([],[],false,[])).2).1,(((nth r1.2.2.2.1 a1 ([],[],false,[])).2).2)) a2 a3;bif(inb a1 r1.2.2.2.1.length)then some ((),((r1.2.1,r1.2.2.1,(r1.2.2.2.1.set (a1).toNat r2.1),r1.2.2.2.2),())) else none else none else some ((),(a0,())) else none
theorem yPa:ConOk prog 206 ⟨ykB,ypO,fun x=>ysL x.1 x.2.1 x.2.2.1 x.2.2.2.1⟩:=zkI (yLy) func206 ntmps206.symm fun x=>by kernel_rfl
def yk0 (a0:dA) (a1 a2:Int) (a3:List Int):dA:=ydi a0 a1 a2 a3
def yyO (a0:dA) (a1 a2:Int) (a3:List Int):Bool:=inb a1 a0.2.2.1.length
theorem yQ1 (a0:dA) (a1 a2:Int) (a3:List Int) (hk:zjx ykB (a0,a1,a2,a3,())) (hq:yyO a0 a1 a2 a3=true):ysL a0 a1 a2 a3=(fun n=>some ((),(n,()))) (yk0 a0 a1 a2 a3):=by
 have hq:inb a1 a0.2.2.1.length=true:=hq;unfold ysL yk0 ydi yh7;simp only[yNp,yan,hq,zkX,ycy];cases(nth a0.2.2.1 a1 yc).2.2.1<;>cases(yV a0).1<;>rfl
def ydN (a0:dA) (a1 a2:Int) (a3:List Int):Option (zaY ypO×zak ykB):=bif yyO a0 a1 a2 a3 then(fun n=>some ((),(n,()))) (yk0 a0 a1 a2 a3)else none
theorem yi4 (a0:dA) (a1 a2:Int) (a3:List Int) (h:yyO a0 a1 a2 a3=true):ydN a0 a1 a2 a3=(fun n=>some ((),(n,()))) (yk0 a0 a1 a2 a3):=by unfold ydN; rw[h]; rfl
def yhF:Con:=⟨ykB,ypO,fun x=>ydN x.1 x.2.1 x.2.2.1 x.2.2.2.1⟩
theorem ynv:ConOk prog 206 yhF:=(yPa).mono (fun x r hk h=>zkY h (fun hq=>yQ1 x.1 x.2.1 x.2.2.1 x.2.2.2.1 hk hq))
end
end Go.Tf
