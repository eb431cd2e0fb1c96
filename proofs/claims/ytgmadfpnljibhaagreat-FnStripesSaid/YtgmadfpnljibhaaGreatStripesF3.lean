/- Functions of the program, and what they come to. -/
import Derived.Test.YtgmadfpnljibhaaGreatStripesF2
namespace Go.Tf
noncomputable section
open Go.Proofs
set_option synthInstance.maxHeartbeats 400000
set_option synthInstance.maxSize 10000
set_option linter.unusedVariables false
set_option linter.unusedSimpArgs false
set_option maxRecDepth 100000
section
def yo5:Code:=(Tryz.f94.body).getD .skip
def yus:Env:=zki TT [] []
theorem ySQ:FrOk Tryz.prog ⟨yus,32,fun _=>none⟩ yo5:=zkp yb yd trivial
def yFA:Nat→Option Seg:=fun _=>none
def yfq:Shape:=⟨[(0,false,[.fz tY]),(3,false,[.int .i64]),(4,false,[.int .i64])],[],[]⟩
def yn7:Shape:=⟨[(0,false,[.fz tY]),(3,false,[.int .i64]),(4,false,[.ci .i64 0])],[],[]⟩
def yn6:Shape:=⟨[(0,false,[.fz tY]),(3,false,[.int .i64])],[],[]⟩
def yop:Shape:=⟨[],[],[]⟩
def yCZ (v0:List Int) (v1 v2:Int):Option ((yfq).X ⊕ ((yn6).X ⊕ (yop).X)) :=
 bif (ltb v2 (v0.length:Int)) then
 bif (ltb v2 4000) then
 bif (inb v2 v0.length) then
 some (.inl (((v0,()),((IntKind.i64.wrap ((BitVec.ofInt IntKind.i64.bits (IntKind.i64.wrap ((IntKind.i64.wrap ((IntKind.i64.wrap (v1 * 137))+(IntKind.i64.wrap (nth v0 v2 0))))+11)) &&& BitVec.ofInt IntKind.i64.bits 1073741823).toNat:Int)),()),((IntKind.i64.wrap (v2+1)),()),()),(),()))
 else none
 else
 some (.inr (.inl (((v0,()),(v1,()),()),(),())))
 else
 some (.inr (.inl (((v0,()),(v1,()),()),(),())))
def ygn (x:(yfq).X):=yCZ x.1.1.1 x.1.2.1.1 x.1.2.2.1.1
def yB0 (x:(yn7).X):(yfq).X:=(((x.1.1.1,()),(x.1.2.1.1,()),(0,()),()),(),())
def yD3:Code:=(zdI yo5 64 116).getD .skip
theorem yRT:zdI yo5 64 29=some (.block 0 (.loop yD3)):=by kernel_rfl
theorem yUL (x:(yfq).X):zg7 ⟨yus,32,yFA⟩ 0 yD3 116 yfq yn6 yop x=ygn x:=by kernel_rfl
def yCg (x:(yn7).X):Nat:=18446744073709551616
def yuG (x:(yn7).X):Option ((yn6).X ⊕ (yop).X):=zr ygn (yCg x) (yB0 x)
def yCT:Seg:=⟨yn7,yn6,yop,yuG⟩
def yFB:Nat→Option Seg:=fun q=>bif Nat.beq q 29 then some yCT else yFA q
theorem ySR:FrOk Tryz.prog ⟨yus,32,yFB⟩ yo5:=(ySQ).loop (sg:=yCT) yfq yB0 (by decide) yRT ygn yCg (by decide) (fun _=>rfl) (fun x r _ h=>h) yUL
abbrev ykS:List Par:= [.kp tYs .fz]
abbrev yu3:List OT:= [⟨true,tU,.fz⟩]
def ygR (a0:List Int):Option (ResD yu3×MutD ykS) :=
 zjw (yuG (((a0,()),((IntKind.i64.wrap (770770+(a0.length:Int))),()),((),()),()),(),())) (fun y0 =>
 some (((y0.1.1.1,0,y0.1.2.1.1),()),())) (fun y0 =>
 none)
theorem yZD (x:InD ykS):zjH ⟨yus,32,yFB⟩ Tryz.f94.results.toList yo5 ykS yu3 x=ygR x.1:=by kernel_rfl
theorem yWz:ConOk Tryz.prog 94 ⟨ykS,yu3,fun x=>ygR x.1⟩:=zkh (ySR) Tryz.func94 (by kernel_rfl) (by kernel_rfl) Tryz.ntmps94.symm (by decide) (fun x r h=>(yZD x).trans h)
def yls (a0:List Int):List Int×Int×Int:=(((ygR a0).getD (((([]:List Int),(0:Int),(0:Int)),()),())).1).1
def yd3 (u:List Int×Int×Int):Prop:=0≤u.2.1∧(u.1.length:Int)≤140737488355328
theorem yZY (a0:List Int) (hb:a0.length≤140737488355328): ∃ s:Int,ygR a0=some (((a0,0,s),()),()):=by
 have hl: ∃ b,yuG (((a0,()),((IntKind.i64.wrap (770770+(a0.length:Int))),()),((),()),()),(),())=some b∧(∃ s:Int,b= .inl (((a0,()),(s,()),()),(),())):=by
  refine ziU (step:=ygn) (fun x=>(a0.length - (x.1.2.2.1.1:Int).toNat)) (fun x=>(x.1.1.1:List Int)=a0∧(0:Int)≤(x.1.2.2.1.1:Int)) _ ?_ _ _ ⟨rfl,Int.le_refl _⟩ (by show a0.length - _ < 18446744073709551616; omega)
  rintro ⟨⟨⟨(l:List Int),_⟩,⟨(s:Int),_⟩,⟨(i:Int),_⟩,_⟩,_,_⟩ ⟨h0,hi⟩
  simp only at h0 hi
  subst h0
  simp only [ygn,yCZ]
  by_cases h1:i < (l.length:Int)
  ·rw [zjI h1]
   by_cases h2:i < 4000
   ·rw [zjI h2,zjP.2 ⟨hi,h1⟩]
    refine .inl ⟨_,rfl,⟨rfl,?_⟩,?_⟩
    ·show 0≤IntKind.i64.wrap (i+1); rw [wr (by omega) (by omega)]; omega
    ·show l.length - (IntKind.i64.wrap (i+1)).toNat < l.length - i.toNat; rw [wr (by omega) (by omega)]; omega
   ·rw [zkm (Int.not_lt.1 h2)]
    exact .inr ⟨_,rfl,_,rfl⟩
  ·rw [zkm (Int.not_lt.1 h1)]
   exact .inr ⟨_,rfl,_,rfl⟩
 obtain ⟨b,e,s,rfl⟩:=hl
 refine ⟨s,?_⟩
 unfold ygR
 rw [e]; rfl
theorem yYJ (a0:List Int) (hk:zi9 ykS (a0,())):ygR a0=(fun n=>some ((n,()),())) (yls a0):=by
 obtain ⟨s,e⟩:=yZY a0 (by have:a0.length * 1≤2 ^ 47:=hk.1.1; omega)
 unfold yls
 rw [e]; rfl
theorem y3b (a0:List Int) (hb:a0.length≤140737488355328):yd3 (yls a0):=by
 obtain ⟨s,e⟩:=yZY a0 hb
 unfold yls
 rw [e]
 exact ⟨Int.le_refl _,by show (a0.length:Int)≤_; omega⟩
def yGb:Con:=⟨ykS,yu3,fun x=>(fun n=>some ((n,()),())) (yls x.1)⟩
theorem yY1:ConOk Tryz.prog 94 yGb:=(yWz).mono (fun x r hk h=>(yYJ x.1 hk).trans h)
end
section
def yHT:Code:=(Tryz.f96.body).getD .skip
def yIp:Env:=zki TT [] []
theorem yO9:FrOk Tryz.prog ⟨yIp,15,fun _=>none⟩ yHT:=zkp yb yd trivial
def yRD:Nat→Option Seg:=fun _=>none
abbrev ymZ:List Par:= [.rd tYs,.rd tI]
abbrev ysB:List OT:= [⟨false,tI,.fz⟩]
def yv1 (a0:List Int) (a1:Int):Option (ResD ysB×MutD ymZ) :=
 bif (ltb a1 (IntKind.i64.wrap (3+(IntKind.i64.wrap ((a0.length:Int).tdiv 12))))) then
 some ((a1,()),())
 else
 some (((IntKind.i64.wrap (3+(IntKind.i64.wrap ((a0.length:Int).tdiv 12)))),()),())
theorem yYe (x:InD ymZ):zjH ⟨yIp,15,yRD⟩ Tryz.f96.results.toList yHT ymZ ysB x=yv1 x.1 x.2.1:=by kernel_rfl
theorem yT4:ConOk Tryz.prog 96 ⟨ymZ,ysB,fun x=>yv1 x.1 x.2.1⟩:=zkh (yO9) Tryz.func96 (by kernel_rfl) (by kernel_rfl) Tryz.ntmps96.symm (by decide) (fun x r h=>(yYe x).trans h)
def yd1 (a0:List Int) (a1:Int):Int :=
 bif (ltb a1 (IntKind.i64.wrap (3+(IntKind.i64.wrap ((a0.length:Int).tdiv 12))))) then
 a1
 else
 (IntKind.i64.wrap (3+(IntKind.i64.wrap ((a0.length:Int).tdiv 12))))
def yEl:Con:=⟨ymZ,ysB,fun x=>(fun n=>some ((n,()),())) (yd1 x.1 x.2.1)⟩
theorem yV7 (a0:List Int) (a1:Int):yv1 a0 a1=(fun n=>some ((n,()),())) (yd1 a0 a1):=zkS (p:=fun (n:Int)=>((n,()),())) (zkx (p:=fun (n:Int)=>((n,()),())) rfl rfl)
theorem yWT:ConOk Tryz.prog 96 yEl:=(yT4).mono (fun x r _ h=>(yV7 x.1 x.2.1).trans h)
theorem y2K (l:List Int) (n:Int) (hn:0≤n) (hl:l.length≤140737488355328):0≤yd1 l n∧yd1 l n≤n:=by
 unfold yd1
 have h1:0≤(l.length:Int).tdiv 12:=Int.tdiv_nonneg (by omega) (by omega)
 have h2:(l.length:Int).tdiv 12≤(l.length:Int):=by
  rw [Int.tdiv_eq_ediv_of_nonneg (by omega)]
  exact Int.ediv_le_self _ (by omega)
 rw [wr (show -9223372036854775808≤(l.length:Int).tdiv 12 by omega) (by omega),wr (show -9223372036854775808≤3+(l.length:Int).tdiv 12 by omega) (by omega)]
 by_cases h:n < 3+(l.length:Int).tdiv 12
 ·rw [zjI h]; exact ⟨hn,Int.le_refl _⟩
 ·rw [zkm (by omega),cond_false]; omega
end
section
def ymD:Code:=(Tryz.f138.body).getD .skip
def yr6:Env:=zki TT [(135,yx)] [(28864,.fz),(28928,.fz)]
theorem yO2:FrOk Tryz.prog ⟨yr6,22,fun _=>none⟩ ymD:=zkp yb yd ⟨yD,trivial⟩
def yDn:Nat→Option Seg:=fun _=>none
def yck:Shape:=⟨[(0,false,[.int .i64]),(2,false,[.ptr 0 0]),(3,false,[.ptr 12352 0]),(4,false,[.int .i64])],[(0,[.nil,.nil,.bool,.nil]),(12352,[.at 800000000,.nil,.bool,.nil])],[(800000000,tL,.fz)]⟩
def yhg:Shape:=⟨[(0,false,[.int .i64]),(2,false,[.ptr 0 0]),(3,false,[.ptr 12352 0]),(4,false,[.ci .i64 0])],[(0,[.nil,.nil,.bool,.nil]),(12352,[.at 800000000,.nil,.bool,.nil])],[(800000000,tL,.fz)]⟩
def yg5:Shape:=⟨[(2,false,[.ptr 0 0]),(3,false,[.ptr 12352 0])],[(0,[.nil,.nil,.bool,.nil]),(12352,[.at 800000000,.nil,.bool,.nil])],[(800000000,tL,.fz)]⟩
def ylZ:Shape:=⟨[],[],[]⟩
abbrev yrq (v0 v1:Int) (v2 v3:dM):(yck).X:=(((v0,()),((),()),((),()),(v1,()),()),(((),(),v2.2.2.1,(),()),((),(),v3.2.2.1,(),()),()),(v3.1,()))
abbrev yMX (v0:Int) (v1 v2:dM):(yhg).X:=(((v0,()),((),()),((),()),((),()),()),(((),(),v1.2.2.1,(),()),((),(),v2.2.2.1,(),()),()),(v2.1,()))
abbrev yMQ (v0 v1:dM):(yg5).X:=((((),()),((),()),()),(((),(),v0.2.2.1,(),()),((),(),v1.2.2.1,(),()),()),(v1.1,()))
def yrG (v0 v1:Int) (v2 v3:Bool) (v4:List (List Int)):Option ((yck).X ⊕ ((yg5).X ⊕ (ylZ).X)) :=
 bif (ltb v1 v0) then
 bif (zj4 v4.length ([([]:List Int)]:List (List Int)).length 24) then
 some (.inl (((v0,()),((),()),((),()),((IntKind.i64.wrap (v1+1)),()),()),(((),(),v2,(),()),((),(),v3,(),()),()),((v4++([([]:List Int)]:List (List Int))),())))
 else none
 else
 some (.inr (.inl ((((),()),((),()),()),(((),(),v2,(),()),((),(),v3,(),()),()),(v4,()))))
def ycR (x:(yck).X):=yrG x.1.1.1 x.1.2.2.2.1.1 x.2.1.1.2.2.1 x.2.1.2.1.2.2.1 x.2.2.1
def yz1 (x:(yhg).X):(yck).X:=(((x.1.1.1,()),((),()),((),()),(0,()),()),(((),(),x.2.1.1.2.2.1,(),()),((),(),x.2.1.2.1.2.2.1,(),()),()),(x.2.2.1,()))
def yBr:Code:=(zdI ymD 64 244).getD .skip
theorem yOp:zdI ymD 64 61=some (.block 0 (.loop yBr)):=by kernel_rfl
theorem yQ5 (x:(yck).X):zg7 ⟨yr6,22,yDn⟩ 0 yBr 244 yck yg5 ylZ x=ycR x:=by kernel_rfl
def yAc (x:(yhg).X):Nat:=18446744073709551616
def ysZ (x:(yhg).X):Option ((yg5).X ⊕ (ylZ).X):=zr ycR (yAc x) (yz1 x)
def yAt:Seg:=⟨yhg,yg5,ylZ,ysZ⟩
def yDo:Nat→Option Seg:=fun q=>bif Nat.beq q 61 then some yAt else yDn q
theorem yO3:FrOk Tryz.prog ⟨yr6,22,yDo⟩ ymD:=(yO2).loop (sg:=yAt) yck yz1 (by decide) yOp ycR yAc (by decide) (fun _=>rfl) (fun x r _ h=>h) yQ5
abbrev yhW:List Par:= [.rd tI]
abbrev ysv:List OT:= [⟨false,tM,(.pr (.ow .fz) (.pr (.ow (.pr .fz .fz)) (.pr .fz (.ow .fz))))⟩]
def yoP (a0:Int):Option (ResD ysv×MutD yhW) :=
 let r1:=ya a0 1 20
 bif (!r1) then
 some ((([],[],false,[]),()),())
 else
 zjw (ysZ (((a0,()),((),()),((),()),((),()),()),(((),(),false,(),()),((),(),false,(),()),()),([],()))) (fun y1 =>
 some (((y1.2.2.1,[],y1.2.1.2.1.2.2.1,[]),()),())) (fun y1 =>
 none)
theorem yX8 (x:InD yhW):zjH ⟨yr6,22,yDo⟩ Tryz.f138.results.toList ymD yhW ysv x=yoP x.1:=by kernel_rfl
theorem yTY:ConOk Tryz.prog 138 ⟨yhW,ysv,fun x=>yoP x.1⟩:=zkh (yO3) Tryz.func138 (by kernel_rfl) (by kernel_rfl) Tryz.ntmps138.symm (by decide) (fun x r h=>(yX8 x).trans h)
def yd0 (a0:Int):dM:=yb7 a0
theorem yV4 (a0:Int) (hk:zi9 yhW (a0,())):yoP a0=(fun n=>some ((n,()),())) (yd0 a0):=by
 unfold yoP yd0 yb7
 simp only [ycd]
 cases hc:(leb 1 a0&&leb a0 20)
 ·rfl
 ·rw [Bool.and_eq_true,zjQ,zjQ]at hc
  have h1:ysZ (yMX a0 noMem noMem)=some (.inl (yMQ noMem (List.replicate a0.toNat [],[],false,[]))) :=
   zjs (step:=ycR) (fun i=>yrq a0 i noMem (List.replicate i [],[],false,[])) a0.toNat _ (fun i hi=>by
    simp only [ycR,yrq,yrG,zjI (show (i:Int) < a0 by omega),cond_true,wr (show -9223372036854775808≤(i:Int)+1 by omega) (by omega),Int.natCast_add,Int.natCast_one,Int.toNat_natCast]
    rw [zkw.2 (show ((List.replicate i ([]:List Int)).length+([[]]:List (List Int)).length) * 24≤140737488355328 by simp only [List.length_cons,List.length_nil,List.length_replicate]; omega),← List.replicate_succ']; rfl) (by simp only [ycR,yrq,yrG,zkm (show a0≤(a0.toNat:Int) by omega),cond_false]) _ (by show _ < 18446744073709551616; omega)
  rw [h1]; rfl
def yvl:Con:=⟨yhW,ysv,fun x=>(fun n=>some ((n,()),())) (yd0 x.1)⟩
theorem yGC:ConOk Tryz.prog 138 yvl:=(yTY).mono (fun x r hk h=>(yV4 x.1 hk).trans h)
end
section
def yHL:Code:=(Tryz.f141.body).getD .skip
def yIh:Env:=zki TT [(135,yx)] []
theorem yOZ:FrOk Tryz.prog ⟨yIh,9,fun _=>none⟩ yHL:=zkp yb yd ⟨yD,trivial⟩
def yRv:Nat→Option Seg:=fun _=>none
abbrev ymU:List Par:= [.rd tI]
abbrev yss:List OT:= [⟨false,tI,.fz⟩]
def yvZ (a0:Int):Option (ResD yss×MutD ymU) :=
 let r1:=ya a0 0 1099511627776
 bif (!r1) then
 some (((-1),()),())
 else
 some (((IntKind.i64.wrap ((IntKind.i64.wrap (a0+2))+4)),()),())
theorem yX5 (x:InD ymU):zjH ⟨yIh,9,yRv⟩ Tryz.f141.results.toList yHL ymU yss x=yvZ x.1:=by kernel_rfl
theorem yTV:ConOk Tryz.prog 141 ⟨ymU,yss,fun x=>yvZ x.1⟩:=zkh (yOZ) Tryz.func141 (by kernel_rfl) (by kernel_rfl) Tryz.ntmps141.symm (by decide) (fun x r h=>(yX5 x).trans h)
def ybm (a0:Int):Int :=
 let r1:=ya a0 0 1099511627776
 bif (!r1) then
 (-1)
 else
 (IntKind.i64.wrap ((IntKind.i64.wrap (a0+2))+4))
def yfu:Con:=⟨ymU,yss,fun x=>(fun n=>some ((n,()),())) (ybm x.1)⟩
theorem yV1 (a0:Int):yvZ a0=(fun n=>some ((n,()),())) (ybm a0):=zkS (p:=fun (n:Int)=>((n,()),())) (zkx (p:=fun (n:Int)=>((n,()),())) rfl rfl)
theorem ylC:ConOk Tryz.prog 141 yfu:=(yTV).mono (fun x r _ h=>(yV1 x.1).trans h)
theorem ygT (s:Int):ybm s=dataAt s:=by
 unfold ybm dataAt
 rw [ycd]
 by_cases h:0≤s∧s≤1099511627776
 ·rw [zk0 h.1,zk0 h.2,wr (show -9223372036854775808≤s+2 by omega) (by omega),wr (by omega) (by omega)]
  show s+2+4=s+6
  omega
 ·cases h1:(leb 0 s&&leb s 1099511627776)
  ·rfl
  ·rw [Bool.and_eq_true,zjQ,zjQ]at h1; exact absurd h1 h
end
section
def ydS:Code:=(Tryz.f49.body).getD .skip
def yhM:Env:=zki TT [(134,ygJ),(135,yx),(138,yvl),(139,yoy),(140,yrn),(141,yfu)] [(53440,(.pr (.ow .fz) (.pr (.ow (.pr .fz .fz)) (.pr .fz (.ow .fz))))),(53504,(.pr (.ow .fz) (.pr (.ow (.pr .fz .fz)) (.pr .fz (.ow .fz)))))]
theorem yOV:FrOk Tryz.prog ⟨yhM,60,fun _=>none⟩ ydS:=zkp yb yd ⟨ynn,yD,yGC,yw1,yCD,ylC,trivial⟩
def yDl:Nat→Option Seg:=fun _=>none
def yaQ:Shape:=⟨[(0,false,[.int .i64]),(3,false,[.ptr 0 0]),(4,false,[.ptr 64 0]),(5,false,[.ptr 12480 0]),(6,false,[.int .i64]),(7,false,[.ptr 28864 0]),(8,false,[.int .i64])],[(0,[.int .i64,.int .i64]),(64,[.int .i64,.int .i64,.int .i64,.nil,.int .i64,.int .i64,.int .i64,.int .i64,.int .i64,.nil,.int .i64,.bool,.bool]),(12480,[.int .i64,.int .i64,.int .i64,.at 800000000,.int .i64,.int .i64,.int .i64,.int .i64,.int .i64,.nil,.int .i64,.bool,.bool]),(28864,[.at 800000001,.at 800000002,.bool,.at 800000003])],[(800000000,tM,(.pr (.ow .fz) (.pr (.ow (.pr .fz .fz)) (.pr .fz (.ow .fz))))),(800000001,tL,.fz),(800000002,tW,(.pr .fz .fz)),(800000003,tI,.fz)]⟩
def yef:Shape:=⟨[(0,false,[.int .i64]),(3,false,[.ptr 0 0]),(4,false,[.ptr 64 0]),(5,false,[.ptr 12480 0]),(6,false,[.int .i64]),(7,false,[.ptr 28864 0]),(8,false,[.ci .i64 0])],[(0,[.int .i64,.int .i64]),(64,[.int .i64,.int .i64,.int .i64,.nil,.int .i64,.int .i64,.int .i64,.int .i64,.int .i64,.nil,.int .i64,.bool,.bool]),(12480,[.int .i64,.int .i64,.int .i64,.at 800000000,.int .i64,.int .i64,.int .i64,.int .i64,.int .i64,.nil,.int .i64,.bool,.bool]),(28864,[.at 800000001,.at 800000002,.bool,.at 800000003])],[(800000000,tM,(.pr (.ow .fz) (.pr (.ow (.pr .fz .fz)) (.pr .fz (.ow .fz))))),(800000001,tL,.fz),(800000002,tW,(.pr .fz .fz)),(800000003,tI,.fz)]⟩
def yea:Shape:=⟨[(0,false,[.int .i64]),(3,false,[.ptr 0 0]),(4,false,[.ptr 64 0]),(5,false,[.ptr 12480 0]),(6,false,[.int .i64]),(7,false,[.ptr 28864 0])],[(0,[.int .i64,.int .i64]),(64,[.int .i64,.int .i64,.int .i64,.nil,.int .i64,.int .i64,.int .i64,.int .i64,.int .i64,.nil,.int .i64,.bool,.bool]),(12480,[.int .i64,.int .i64,.int .i64,.at 800000000,.int .i64,.int .i64,.int .i64,.int .i64,.int .i64,.nil,.int .i64,.bool,.bool]),(28864,[.at 800000001,.at 800000002,.bool,.at 800000003])],[(800000000,tM,(.pr (.ow .fz) (.pr (.ow (.pr .fz .fz)) (.pr .fz (.ow .fz))))),(800000001,tL,.fz),(800000002,tW,(.pr .fz .fz)),(800000003,tI,.fz)]⟩
def yhG:Shape:=⟨[],[],[]⟩
abbrev ymb (v0 v1 v2:Int) (v3:dG) (v4 v5:dA) (v6:dM):(yaQ).X:=(((v0,()),((),()),((),()),((),()),(v1,()),((),()),(v2,()),()),((v3.1,v3.2,()),(v4.1,v4.2.1.1,v4.2.1.2,(),v4.2.2.2.1,v4.2.2.2.2.1,v4.2.2.2.2.2.1,v4.2.2.2.2.2.2.1,v4.2.2.2.2.2.2.2.1,(),v4.2.2.2.2.2.2.2.2.2.1,v4.2.2.2.2.2.2.2.2.2.2.1,v4.2.2.2.2.2.2.2.2.2.2.2,()),(v5.1,v5.2.1.1,v5.2.1.2,(),v5.2.2.2.1,v5.2.2.2.2.1,v5.2.2.2.2.2.1,v5.2.2.2.2.2.2.1,v5.2.2.2.2.2.2.2.1,(),v5.2.2.2.2.2.2.2.2.2.1,v5.2.2.2.2.2.2.2.2.2.2.1,v5.2.2.2.2.2.2.2.2.2.2.2,()),((),(),v6.2.2.1,(),()),()),(v5.2.2.1,v6.1,v6.2.1,v6.2.2.2,()))
abbrev yHe (v0 v1:Int) (v2:dG) (v3 v4:dA) (v5:dM):(yef).X:=(((v0,()),((),()),((),()),((),()),(v1,()),((),()),((),()),()),((v2.1,v2.2,()),(v3.1,v3.2.1.1,v3.2.1.2,(),v3.2.2.2.1,v3.2.2.2.2.1,v3.2.2.2.2.2.1,v3.2.2.2.2.2.2.1,v3.2.2.2.2.2.2.2.1,(),v3.2.2.2.2.2.2.2.2.2.1,v3.2.2.2.2.2.2.2.2.2.2.1,v3.2.2.2.2.2.2.2.2.2.2.2,()),(v4.1,v4.2.1.1,v4.2.1.2,(),v4.2.2.2.1,v4.2.2.2.2.1,v4.2.2.2.2.2.1,v4.2.2.2.2.2.2.1,v4.2.2.2.2.2.2.2.1,(),v4.2.2.2.2.2.2.2.2.2.1,v4.2.2.2.2.2.2.2.2.2.2.1,v4.2.2.2.2.2.2.2.2.2.2.2,()),((),(),v5.2.2.1,(),()),()),(v4.2.2.1,v5.1,v5.2.1,v5.2.2.2,()))
abbrev yvH (v0 v1:Int) (v2:dG) (v3 v4:dA) (v5:dM):(yea).X:=(((v0,()),((),()),((),()),((),()),(v1,()),((),()),()),((v2.1,v2.2,()),(v3.1,v3.2.1.1,v3.2.1.2,(),v3.2.2.2.1,v3.2.2.2.2.1,v3.2.2.2.2.2.1,v3.2.2.2.2.2.2.1,v3.2.2.2.2.2.2.2.1,(),v3.2.2.2.2.2.2.2.2.2.1,v3.2.2.2.2.2.2.2.2.2.2.1,v3.2.2.2.2.2.2.2.2.2.2.2,()),(v4.1,v4.2.1.1,v4.2.1.2,(),v4.2.2.2.1,v4.2.2.2.2.1,v4.2.2.2.2.2.1,v4.2.2.2.2.2.2.1,v4.2.2.2.2.2.2.2.1,(),v4.2.2.2.2.2.2.2.2.2.1,v4.2.2.2.2.2.2.2.2.2.2.1,v4.2.2.2.2.2.2.2.2.2.2.2,()),((),(),v5.2.2.1,(),()),()),(v4.2.2.1,v5.1,v5.2.1,v5.2.2.2,()))
def ymy (v0 v1 v2 v3 v4 v5 v6 v7 v8 v9 v10 v11 v12 v13:Int) (v14 v15:Bool) (v16 v17 v18 v19 v20 v21 v22 v23 v24:Int) (v25 v26 v27:Bool) (v28:List dM) (v29:List (List Int)) (v30:List dW) (v31:List Int):Option ((yaQ).X ⊕ ((yea).X ⊕ (yhG).X)) :=
 bif (ltb v2 v4) then
 let r13:=ybm v2
 bif (inb r13 v29.length) then
 some (.inl (((v0,()),((),()),((),()),((),()),(v1,()),((),()),((IntKind.i64.wrap (v2+1)),()),()),((v3,v4,()),(v5,v6,v7,(),v8,v9,v10,v11,v12,(),v13,v14,v15,()),(v16,v17,v18,(),v19,v20,v21,v22,v23,(),v24,v25,v26,()),((),(),v27,(),()),()),(v28,(v29.set (r13).toNat ([0]:List Int)),v30,v31,())))
 else none
 else
 some (.inr (.inl (((v0,()),((),()),((),()),((),()),(v1,()),((),()),()),((v3,v4,()),(v5,v6,v7,(),v8,v9,v10,v11,v12,(),v13,v14,v15,()),(v16,v17,v18,(),v19,v20,v21,v22,v23,(),v24,v25,v26,()),((),(),v27,(),()),()),(v28,v29,v30,v31,()))))
def ya1 (x:(yaQ).X):=ymy x.1.1.1 x.1.2.2.2.2.1.1 x.1.2.2.2.2.2.2.1.1 x.2.1.1.1 x.2.1.1.2.1 x.2.1.2.1.1 x.2.1.2.1.2.1 x.2.1.2.1.2.2.1 x.2.1.2.1.2.2.2.2.1 x.2.1.2.1.2.2.2.2.2.1 x.2.1.2.1.2.2.2.2.2.2.1 x.2.1.2.1.2.2.2.2.2.2.2.1 x.2.1.2.1.2.2.2.2.2.2.2.2.1 x.2.1.2.1.2.2.2.2.2.2.2.2.2.2.1 x.2.1.2.1.2.2.2.2.2.2.2.2.2.2.2.1 x.2.1.2.1.2.2.2.2.2.2.2.2.2.2.2.2.1 x.2.1.2.2.1.1 x.2.1.2.2.1.2.1 x.2.1.2.2.1.2.2.1 x.2.1.2.2.1.2.2.2.2.1 x.2.1.2.2.1.2.2.2.2.2.1 x.2.1.2.2.1.2.2.2.2.2.2.1 x.2.1.2.2.1.2.2.2.2.2.2.2.1 x.2.1.2.2.1.2.2.2.2.2.2.2.2.1 x.2.1.2.2.1.2.2.2.2.2.2.2.2.2.2.1 x.2.1.2.2.1.2.2.2.2.2.2.2.2.2.2.2.1 x.2.1.2.2.1.2.2.2.2.2.2.2.2.2.2.2.2.1 x.2.1.2.2.2.1.2.2.1 x.2.2.1 x.2.2.2.1 x.2.2.2.2.1 x.2.2.2.2.2.1
def yvt (x:(yef).X):(yaQ).X:=(((x.1.1.1,()),((),()),((),()),((),()),(x.1.2.2.2.2.1.1,()),((),()),(0,()),()),((x.2.1.1.1,x.2.1.1.2.1,()),(x.2.1.2.1.1,x.2.1.2.1.2.1,x.2.1.2.1.2.2.1,(),x.2.1.2.1.2.2.2.2.1,x.2.1.2.1.2.2.2.2.2.1,x.2.1.2.1.2.2.2.2.2.2.1,x.2.1.2.1.2.2.2.2.2.2.2.1,x.2.1.2.1.2.2.2.2.2.2.2.2.1,(),x.2.1.2.1.2.2.2.2.2.2.2.2.2.2.1,x.2.1.2.1.2.2.2.2.2.2.2.2.2.2.2.1,x.2.1.2.1.2.2.2.2.2.2.2.2.2.2.2.2.1,()),(x.2.1.2.2.1.1,x.2.1.2.2.1.2.1,x.2.1.2.2.1.2.2.1,(),x.2.1.2.2.1.2.2.2.2.1,x.2.1.2.2.1.2.2.2.2.2.1,x.2.1.2.2.1.2.2.2.2.2.2.1,x.2.1.2.2.1.2.2.2.2.2.2.2.1,x.2.1.2.2.1.2.2.2.2.2.2.2.2.1,(),x.2.1.2.2.1.2.2.2.2.2.2.2.2.2.2.1,x.2.1.2.2.1.2.2.2.2.2.2.2.2.2.2.2.1,x.2.1.2.2.1.2.2.2.2.2.2.2.2.2.2.2.2.1,()),((),(),x.2.1.2.2.2.1.2.2.1,(),()),()),(x.2.2.1,x.2.2.2.1,x.2.2.2.2.1,x.2.2.2.2.2.1,()))
def ywh:Code:=(zdI ydS 64 125236).getD .skip
theorem yIH:zdI ydS 64 31309=some (.block 2 (.loop ywh)):=by kernel_rfl
theorem yJl (x:(yaQ).X):zg7 ⟨yhM,60,yDl⟩ 2 ywh 125236 yaQ yea yhG x=ya1 x:=by kernel_rfl
def yvy (x:(yef).X):Nat:=18446744073709551616
def ynz (x:(yef).X):Option ((yea).X ⊕ (yhG).X):=zr ya1 (yvy x) (yvt x)
def yv7:Seg:=⟨yef,yea,yhG,ynz⟩
def yui:Nat→Option Seg:=fun q=>bif Nat.beq q 31309 then some yv7 else yDl q
theorem yOW:FrOk Tryz.prog ⟨yhM,60,yui⟩ ydS:=(yOV).loop (sg:=yv7) yaQ yvt (by decide) yIH ya1 yvy (by decide) (fun _=>rfl) (fun x r _ h=>h) yJl
def ycj:Shape:=⟨[(0,false,[.int .i64]),(3,false,[.ptr 0 0]),(4,false,[.ptr 64 0]),(5,false,[.ptr 12480 0]),(6,false,[.int .i64])],[(0,[.int .i64,.int .i64]),(64,[.int .i64,.int .i64,.int .i64,.nil,.int .i64,.int .i64,.int .i64,.int .i64,.int .i64,.nil,.int .i64,.bool,.bool]),(12480,[.int .i64,.int .i64,.int .i64,.at 800000000,.int .i64,.int .i64,.int .i64,.int .i64,.int .i64,.nil,.int .i64,.bool,.bool])],[(800000000,tM,(.pr (.ow .fz) (.pr (.ow (.pr .fz .fz)) (.pr .fz (.ow .fz)))))]⟩
def yhf:Shape:=⟨[(0,false,[.int .i64]),(3,false,[.ptr 0 0]),(4,false,[.ptr 64 0]),(5,false,[.ptr 12480 0]),(6,false,[.ci .i64 0])],[(0,[.int .i64,.int .i64]),(64,[.int .i64,.int .i64,.int .i64,.nil,.int .i64,.int .i64,.int .i64,.int .i64,.int .i64,.nil,.int .i64,.bool,.bool]),(12480,[.int .i64,.int .i64,.int .i64,.at 800000000,.int .i64,.int .i64,.int .i64,.int .i64,.int .i64,.nil,.int .i64,.bool,.bool])],[(800000000,tM,(.pr (.ow .fz) (.pr (.ow (.pr .fz .fz)) (.pr .fz (.ow .fz)))))]⟩
def yg4:Shape:=⟨[(4,false,[.ptr 64 0]),(5,false,[.ptr 12480 0])],[(64,[.int .i64,.int .i64,.int .i64,.nil,.int .i64,.int .i64,.int .i64,.int .i64,.int .i64,.nil,.int .i64,.bool,.bool]),(12480,[.int .i64,.int .i64,.int .i64,.at 800000000,.int .i64,.int .i64,.int .i64,.int .i64,.int .i64,.nil,.int .i64,.bool,.bool])],[(800000000,tM,(.pr (.ow .fz) (.pr (.ow (.pr .fz .fz)) (.pr .fz (.ow .fz)))))]⟩
def ylY:Shape:=⟨[],[],[]⟩
abbrev yj6 (v0 v1:Int) (v2:dG) (v3 v4:dA):(ycj).X:=(((v0,()),((),()),((),()),((),()),(v1,()),()),((v2.1,v2.2,()),(v3.1,v3.2.1.1,v3.2.1.2,(),v3.2.2.2.1,v3.2.2.2.2.1,v3.2.2.2.2.2.1,v3.2.2.2.2.2.2.1,v3.2.2.2.2.2.2.2.1,(),v3.2.2.2.2.2.2.2.2.2.1,v3.2.2.2.2.2.2.2.2.2.2.1,v3.2.2.2.2.2.2.2.2.2.2.2,()),(v4.1,v4.2.1.1,v4.2.1.2,(),v4.2.2.2.1,v4.2.2.2.2.1,v4.2.2.2.2.2.1,v4.2.2.2.2.2.2.1,v4.2.2.2.2.2.2.2.1,(),v4.2.2.2.2.2.2.2.2.2.1,v4.2.2.2.2.2.2.2.2.2.2.1,v4.2.2.2.2.2.2.2.2.2.2.2,()),()),(v4.2.2.1,()))
abbrev yMW (v0:Int) (v1:dG) (v2 v3:dA):(yhf).X:=(((v0,()),((),()),((),()),((),()),((),()),()),((v1.1,v1.2,()),(v2.1,v2.2.1.1,v2.2.1.2,(),v2.2.2.2.1,v2.2.2.2.2.1,v2.2.2.2.2.2.1,v2.2.2.2.2.2.2.1,v2.2.2.2.2.2.2.2.1,(),v2.2.2.2.2.2.2.2.2.2.1,v2.2.2.2.2.2.2.2.2.2.2.1,v2.2.2.2.2.2.2.2.2.2.2.2,()),(v3.1,v3.2.1.1,v3.2.1.2,(),v3.2.2.2.1,v3.2.2.2.2.1,v3.2.2.2.2.2.1,v3.2.2.2.2.2.2.1,v3.2.2.2.2.2.2.2.1,(),v3.2.2.2.2.2.2.2.2.2.1,v3.2.2.2.2.2.2.2.2.2.2.1,v3.2.2.2.2.2.2.2.2.2.2.2,()),()),(v3.2.2.1,()))
abbrev yAl (v0 v1:dA):(yg4).X:=((((),()),((),()),()),((v0.1,v0.2.1.1,v0.2.1.2,(),v0.2.2.2.1,v0.2.2.2.2.1,v0.2.2.2.2.2.1,v0.2.2.2.2.2.2.1,v0.2.2.2.2.2.2.2.1,(),v0.2.2.2.2.2.2.2.2.2.1,v0.2.2.2.2.2.2.2.2.2.2.1,v0.2.2.2.2.2.2.2.2.2.2.2,()),(v1.1,v1.2.1.1,v1.2.1.2,(),v1.2.2.2.1,v1.2.2.2.2.1,v1.2.2.2.2.2.1,v1.2.2.2.2.2.2.1,v1.2.2.2.2.2.2.2.1,(),v1.2.2.2.2.2.2.2.2.2.1,v1.2.2.2.2.2.2.2.2.2.2.1,v1.2.2.2.2.2.2.2.2.2.2.2,()),()),(v1.2.2.1,()))
def yrF (v0 v1 v2 v3 v4 v5 v6 v7 v8 v9 v10 v11 v12:Int) (v13 v14:Bool) (v15 v16 v17 v18 v19 v20 v21 v22 v23:Int) (v24 v25:Bool) (v26:List dM):Option ((ycj).X ⊕ ((yg4).X ⊕ (ylY).X)) :=
 bif (ltb v1 v2) then
 let r15:=yce (v2,v3)
 let r16:=yd0 r15
 let r17:=yz (v0,0,v1,v2,v3,0,(-1),0)
 bif (inb 0 r16.1.length) then
 zjw (ynz (((v0,()),((),()),((),()),((),()),(v1,()),((),()),((),()),()),((v2,v3,()),(v4,v5,v6,(),v7,v8,v9,v10,v11,(),v12,v13,v14,()),(v15,v16,v17,(),v18,v19,v20,v21,v22,(),v23,v24,v25,()),((),(),r16.2.2.1,(),()),()),(v26,(r16.1.set (0:Int).toNat r17),r16.2.1,r16.2.2.2,()))) (fun y17 =>
 bif (zj4 y17.2.2.1.length ([(y17.2.2.2.1,y17.2.2.2.2.1,y17.2.1.2.2.2.1.2.2.1,y17.2.2.2.2.2.1)]:List dM).length 80) then
 some (.inl (((y17.1.1.1,()),((),()),((),()),((),()),((IntKind.i64.wrap (y17.1.2.2.2.2.1.1+1)),()),()),((y17.2.1.1.1,y17.2.1.1.2.1,()),(y17.2.1.2.1.1,y17.2.1.2.1.2.1,y17.2.1.2.1.2.2.1,(),y17.2.1.2.1.2.2.2.2.1,y17.2.1.2.1.2.2.2.2.2.1,y17.2.1.2.1.2.2.2.2.2.2.1,y17.2.1.2.1.2.2.2.2.2.2.2.1,y17.2.1.2.1.2.2.2.2.2.2.2.2.1,(),y17.2.1.2.1.2.2.2.2.2.2.2.2.2.2.1,y17.2.1.2.1.2.2.2.2.2.2.2.2.2.2.2.1,y17.2.1.2.1.2.2.2.2.2.2.2.2.2.2.2.2.1,()),(y17.2.1.2.2.1.1,y17.2.1.2.2.1.2.1,y17.2.1.2.2.1.2.2.1,(),y17.2.1.2.2.1.2.2.2.2.1,y17.2.1.2.2.1.2.2.2.2.2.1,y17.2.1.2.2.1.2.2.2.2.2.2.1,y17.2.1.2.2.1.2.2.2.2.2.2.2.1,y17.2.1.2.2.1.2.2.2.2.2.2.2.2.1,(),y17.2.1.2.2.1.2.2.2.2.2.2.2.2.2.2.1,y17.2.1.2.2.1.2.2.2.2.2.2.2.2.2.2.2.1,y17.2.1.2.2.1.2.2.2.2.2.2.2.2.2.2.2.2.1,()),()),((y17.2.2.1++([(y17.2.2.2.1,y17.2.2.2.2.1,y17.2.1.2.2.2.1.2.2.1,y17.2.2.2.2.2.1)]:List dM)),())))
 else none) (fun y17 =>
 some (.inr (.inr ((),(),()))))
 else none
 else
 some (.inr (.inl ((((),()),((),()),()),((v4,v5,v6,(),v7,v8,v9,v10,v11,(),v12,v13,v14,()),(v15,v16,v17,(),v18,v19,v20,v21,v22,(),v23,v24,v25,()),()),(v26,()))))
def ycQ (x:(ycj).X):=yrF x.1.1.1 x.1.2.2.2.2.1.1 x.2.1.1.1 x.2.1.1.2.1 x.2.1.2.1.1 x.2.1.2.1.2.1 x.2.1.2.1.2.2.1 x.2.1.2.1.2.2.2.2.1 x.2.1.2.1.2.2.2.2.2.1 x.2.1.2.1.2.2.2.2.2.2.1 x.2.1.2.1.2.2.2.2.2.2.2.1 x.2.1.2.1.2.2.2.2.2.2.2.2.1 x.2.1.2.1.2.2.2.2.2.2.2.2.2.2.1 x.2.1.2.1.2.2.2.2.2.2.2.2.2.2.2.1 x.2.1.2.1.2.2.2.2.2.2.2.2.2.2.2.2.1 x.2.1.2.2.1.1 x.2.1.2.2.1.2.1 x.2.1.2.2.1.2.2.1 x.2.1.2.2.1.2.2.2.2.1 x.2.1.2.2.1.2.2.2.2.2.1 x.2.1.2.2.1.2.2.2.2.2.2.1 x.2.1.2.2.1.2.2.2.2.2.2.2.1 x.2.1.2.2.1.2.2.2.2.2.2.2.2.1 x.2.1.2.2.1.2.2.2.2.2.2.2.2.2.2.1 x.2.1.2.2.1.2.2.2.2.2.2.2.2.2.2.2.1 x.2.1.2.2.1.2.2.2.2.2.2.2.2.2.2.2.2.1 x.2.2.1
def yz0 (x:(yhf).X):(ycj).X:=(((x.1.1.1,()),((),()),((),()),((),()),(0,()),()),((x.2.1.1.1,x.2.1.1.2.1,()),(x.2.1.2.1.1,x.2.1.2.1.2.1,x.2.1.2.1.2.2.1,(),x.2.1.2.1.2.2.2.2.1,x.2.1.2.1.2.2.2.2.2.1,x.2.1.2.1.2.2.2.2.2.2.1,x.2.1.2.1.2.2.2.2.2.2.2.1,x.2.1.2.1.2.2.2.2.2.2.2.2.1,(),x.2.1.2.1.2.2.2.2.2.2.2.2.2.2.1,x.2.1.2.1.2.2.2.2.2.2.2.2.2.2.2.1,x.2.1.2.1.2.2.2.2.2.2.2.2.2.2.2.2.1,()),(x.2.1.2.2.1.1,x.2.1.2.2.1.2.1,x.2.1.2.2.1.2.2.1,(),x.2.1.2.2.1.2.2.2.2.1,x.2.1.2.2.1.2.2.2.2.2.1,x.2.1.2.2.1.2.2.2.2.2.2.1,x.2.1.2.2.1.2.2.2.2.2.2.2.1,x.2.1.2.2.1.2.2.2.2.2.2.2.2.1,(),x.2.1.2.2.1.2.2.2.2.2.2.2.2.2.2.1,x.2.1.2.2.1.2.2.2.2.2.2.2.2.2.2.2.1,x.2.1.2.2.1.2.2.2.2.2.2.2.2.2.2.2.2.1,()),()),(x.2.2.1,()))
def yBq:Code:=(zdI ydS 64 244).getD .skip
theorem yOo:zdI ydS 64 61=some (.block 0 (.loop yBq)):=by kernel_rfl
theorem yQ4 (x:(ycj).X):zg7 ⟨yhM,60,yui⟩ 0 yBq 244 ycj yg4 ylY x=ycQ x:=by kernel_rfl
def yAb (x:(yhf).X):Nat:=18446744073709551616
def ysY (x:(yhf).X):Option ((yg4).X ⊕ (ylY).X):=zr ycQ (yAb x) (yz0 x)
def yAs:Seg:=⟨yhf,yg4,ylY,ysY⟩
def yDm:Nat→Option Seg:=fun q=>bif Nat.beq q 61 then some yAs else yui q
theorem yOX:FrOk Tryz.prog ⟨yhM,60,yDm⟩ ydS:=(yOW).loop (sg:=yAs) ycj yz0 (by decide) yOo ycQ yAb (by decide) (fun _=>rfl) (fun x r _ h=>h) yQ4
abbrev yhT:List Par:= [.rd tI,.rd tG]
abbrev ysq:List OT:= [⟨false,tA,(.pr .fz (.pr (.pr .fz .fz) (.pr (.ow (.pr (.ow .fz) (.pr (.ow (.pr .fz .fz)) (.pr .fz (.ow .fz))))) (.pr .fz (.pr .fz (.pr .fz (.pr .fz (.pr .fz (.pr (.ow (.pr .fz .fz)) (.pr .fz (.pr .fz .fz)))))))))))⟩]
def yoM (a0:Int) (a1:dG):Option (ResD ysq×MutD yhT) :=
 let r1:=yc a1
 bif (!(!r1)) then
 let r2:=ya a0 1 60000
 bif (!r2) then
 some (((0,(0,0),[],0,0,0,0,0,[],0,false,false),()),())
 else
 zjw (ysY (((a0,()),((),()),((),()),((),()),((),()),()),((a1.1,a1.2,()),(0,0,0,(),0,0,0,0,0,(),0,false,false,()),(a0,a1.1,a1.2,(),(-1),0,0,0,0,(),(-1),false,false,()),()),([],()))) (fun y18 =>
 some (((y18.2.1.2.1.1,(y18.2.1.2.1.2.1,y18.2.1.2.1.2.2.1),y18.2.2.1,y18.2.1.2.1.2.2.2.2.1,y18.2.1.2.1.2.2.2.2.2.1,y18.2.1.2.1.2.2.2.2.2.2.1,y18.2.1.2.1.2.2.2.2.2.2.2.1,y18.2.1.2.1.2.2.2.2.2.2.2.2.1,[],y18.2.1.2.1.2.2.2.2.2.2.2.2.2.2.1,y18.2.1.2.1.2.2.2.2.2.2.2.2.2.2.2.1,y18.2.1.2.1.2.2.2.2.2.2.2.2.2.2.2.2.1),()),())) (fun y18 =>
 none)
 else
 some (((0,(0,0),[],0,0,0,0,0,[],0,false,false),()),())
theorem yX3 (x:InD yhT):zjH ⟨yhM,60,yDm⟩ Tryz.f49.results.toList ydS yhT ysq x=yoM x.1 x.2.1:=by kernel_rfl
theorem yTT:ConOk Tryz.prog 49 ⟨yhT,ysq,fun x=>yoM x.1 x.2.1⟩:=zkh (yOX) Tryz.func49 (by kernel_rfl) (by kernel_rfl) Tryz.ntmps49.symm (by decide) (fun x r h=>(yX3 x).trans h)
def yng (a0:Int) (a1:dG):dA:=ym8 a0 a1
theorem yVZ (a0:Int) (a1:dG) (hk:zi9 yhT (a0,a1,())):yoM a0 a1=(fun n=>some ((n,()),())) (yng a0 a1):=by
 unfold yoM yng ym8
 simp only [ycd]
 cases hg:yc a1
 ·rfl
 cases hid:(leb 1 a0&&leb a0 60000)
 ·rfl
 have hge:=yi.1 hg
 have inner: ∀ (i:Int) (a:dA),ynz (yHe a0 i a1 ydv a (ylx a0 a1 i))=some (.inl (yvH a0 i a1 ydv a (yB a0 a1 i))):=fun i a =>
  zks (step:=ya1) a1.2.toNat (fun s m=>ymb a0 i s a1 ydv a m) yua (fun _ m=>(m.1.length:Int)=6+a1.2) (fun m=> .inl (yvH a0 i a1 ydv a m)) (fun s m hs hm=>⟨by
   simp only [ya1,ymb,ymy,zjI (show (s:Int) < a1.2 by omega),cond_true,wr (show -9223372036854775808≤(s:Int)+1 by omega) (by omega),Int.natCast_add,Int.natCast_one,Int.toNat_natCast,ygT]
   have hd:dataAt (s:Int)=((s+6:Nat):Int):=by unfold dataAt; rw [zk0 (show (0:Int)≤s by omega),zk0 (show (s:Int)≤1099511627776 by omega)]; rfl
   rw [hd,zkO (show s+6 < m.1.length by omega),Int.toNat_natCast]; rfl,by show ((m.1.set _ _).length:Int)=_; rw [List.length_set]; exact hm⟩) (fun m hm=>by simp only [ya1,ymb,ymy,show ((a1.2.toNat:Nat):Int)=a1.2 by omega,zkm (Int.le_refl _),cond_false]) (ylx a0 a1 i) (by
   unfold ylx yb7
   rw [zk0 (show 1≤6+a1.2 by omega),zk0 (show 6+a1.2≤20 by omega)]
   show (((List.replicate (6+a1.2).toNat ([]:List Int)).set 0 _).length:Int)=_
   rw [List.length_set,List.length_replicate]; omega) 18446744073709551616 (by omega)
 have hmn:yd0 (yce a1)=yb7 (6+a1.2):=by
  unfold yd0 yce
  rw [wr (by omega) (by omega)]
 have h0:inb 0 (yb7 (6+a1.2)).1.length=true:=by
  unfold yb7
  rw [zk0 (show 1≤6+a1.2 by omega),zk0 (show 6+a1.2≤20 by omega)]
  show inb 0 (List.replicate (6+a1.2).toNat ([]:List Int)).length=true
  rw [List.length_replicate,zjP]; omega
 have outer:ysY (yMW a0 a1 ydv (yBo a0 a1))=some (.inl (yAl ydv ((List.range a1.1.toNat).foldl (fun a (i:Nat)=>yBi a (yB a0 a1 i)) (yBo a0 a1)))) :=
  zks (step:=ycQ) a1.1.toNat (fun i a=>yj6 a0 i a1 ydv a) (fun a i=>yBi a (yB a0 a1 i)) (fun i a=>a.2.2.1.length=i) (fun a=> .inl (yAl ydv a)) (fun i a hi ha=>⟨by
   simp only [ycQ,yj6,yrF,zjI (show (i:Int) < a1.1 by omega),cond_true,wr (show -9223372036854775808≤(i:Int)+1 by omega) (by omega),Int.natCast_add,Int.natCast_one,zkV,hmn,h0]
   refine (congrArg (fun z=>zjw z _ _) (inner i a)).trans ?_
   simp only [zkJ]
   show (bif zj4 a.2.2.1.length [yB a0 a1 i].length 80 then _ else _)=_
   rw [zkw.2 (show (a.2.2.1.length+ [yB a0 a1 i].length) * 80≤140737488355328 by simp only [List.length_cons,List.length_nil]; omega)]
   simp only [cond_true]
   show some (Sum.inl (yj6 a0 (IntKind.i64.wrap ((i:Int)+1)) a1 ydv (yBi a (yB a0 a1 i))))=_
   rw [wr (show -9223372036854775808≤(i:Int)+1 by omega) (by omega)],by show (a.2.2.1++ [_]).length=_; rw [List.length_append,ha]; rfl⟩) (fun a ha=>by simp only [ycQ,yj6,yrF,show ((a1.1.toNat:Nat):Int)=a1.1 by omega,zkm (Int.le_refl _),cond_false]) (yBo a0 a1) rfl 18446744073709551616 (by omega)
 have hdr: ∀ (l:List Nat) (a:dA),a.2.2.2.2.2.2.2.2.1= []→(l.foldl (fun a (i:Nat)=>yBi a (yB a0 a1 i)) a).2.2.2.2.2.2.2.2.1= []:=by
  intro l
  induction l with
  | nil=>intro a h; exact h
  | cons x t ih=>intro a h; exact ih _ h
 have h:=hdr (List.range a1.1.toNat) (yBo a0 a1) rfl
 simp only [Bool.not_true,Bool.not_false,cond_true,cond_false,Bool.and_self]
 refine (congrArg (fun z=>zjw z _ _) outer).trans ?_
 generalize (List.range a1.1.toNat).foldl (fun a (i:Nat)=>yBi a (yB a0 a1 i)) (yBo a0 a1)=R at h
 simp only [zkJ]
 show some ((((R.1,R.2.1,R.2.2.1,R.2.2.2.1,R.2.2.2.2.1,R.2.2.2.2.2.1,R.2.2.2.2.2.2.1,R.2.2.2.2.2.2.2.1,[],R.2.2.2.2.2.2.2.2.2):dA),()),())=some ((R,()),())
 rw [← h]
def yEe:Con:=⟨yhT,ysq,fun x=>(fun n=>some ((n,()),())) (yng x.1 x.2.1)⟩
theorem yWM:ConOk Tryz.prog 49 yEe:=(yTT).mono (fun x r hk h=>(yVZ x.1 x.2.1 hk).trans h)
end
section
def yHK:Code:=(Tryz.f121.body).getD .skip
def yIg:Env:=zki TT [(134,ygJ)] []
theorem yOY:FrOk Tryz.prog ⟨yIg,12,fun _=>none⟩ yHK:=zkp yb yd ⟨ynn,trivial⟩
def yRu:Nat→Option Seg:=fun _=>none
abbrev ymT:List Par:= [.rd tG]
abbrev ysr:List OT:= [⟨false,tI,.fz⟩]
def yvY (a0:dG):Option (ResD ysr×MutD ymT) :=
 let r1:=yc a0
 bif (!r1) then
 some ((0,()),())
 else
 some (((IntKind.i64.wrap (a0.2 * (IntKind.i64.wrap (a0.1 - 1)))),()),())
theorem yX4 (x:InD ymT):zjH ⟨yIg,12,yRu⟩ Tryz.f121.results.toList yHK ymT ysr x=yvY x.1:=by kernel_rfl
theorem yTU:ConOk Tryz.prog 121 ⟨ymT,ysr,fun x=>yvY x.1⟩:=zkh (yOY) Tryz.func121 (by kernel_rfl) (by kernel_rfl) Tryz.ntmps121.symm (by decide) (fun x r h=>(yX4 x).trans h)
def yv (a0:dG):Int :=
 let r1:=yc a0
 bif (!r1) then
 0
 else
 (IntKind.i64.wrap (a0.2 * (IntKind.i64.wrap (a0.1 - 1))))
def yox:Con:=⟨ymT,ysr,fun x=>(fun n=>some ((n,()),())) (yv x.1)⟩
theorem yV0 (a0:dG):yvY a0=(fun n=>some ((n,()),())) (yv a0):=zkS (p:=fun (n:Int)=>((n,()),())) (zkx (p:=fun (n:Int)=>((n,()),())) rfl rfl)
theorem yw0:ConOk Tryz.prog 121 yox:=(yTU).mono (fun x r _ h=>(yV0 x.1).trans h)
theorem yXa (a:Int×Int):0≤yv a∧yv a≤32:=by
 unfold yv
 cases h:yc a
 ·simp
 ·obtain ⟨⟨h1,h2⟩,h3,h4⟩:=yi.1 h
  have h5:0≤a.2 * (a.1 - 1):=Int.mul_nonneg (by omega) (by omega)
  have h6:a.2 * (a.1 - 1)≤8 * 4:=Int.mul_le_mul h4 (by omega) (by omega) (by omega)
  simp only [Bool.not_true,cond_false,wr (show -9223372036854775808≤a.1 - 1 by omega) (by omega),wr (show -9223372036854775808≤a.2 * (a.1 - 1) by omega) (by omega)]
  omega
theorem yGJ {a:Int×Int} (h:yc a=true):yv a=a.2 * (a.1 - 1):=by
 unfold yv
 obtain ⟨⟨h1,h2⟩,h3,h4⟩:=yi.1 h
 have h5:0≤a.2 * (a.1 - 1):=Int.mul_nonneg (by omega) (by omega)
 have h6:a.2 * (a.1 - 1)≤8 * 4:=Int.mul_le_mul h4 (by omega) (by omega) (by omega)
 simp only [h,Bool.not_true,cond_false,wr (show -9223372036854775808≤a.1 - 1 by omega) (by omega),wr (show -9223372036854775808≤a.2 * (a.1 - 1) by omega) (by omega)]
def yW (l:List dW) (s:Int):Int:=yad (fun e:dW=>e.1==s) l
def blkOk (g:dG) (b:Int):Bool:=leb 0 b&&leb b (yv g - 1)
def ybO (g:dG) (b:Int):Int:=bif blkOk g b then b.tdiv (g.1 - 1) else -1
def yt7 (g:dG) (b:Int):Int:=bif blkOk g b then b.tmod (g.1 - 1) else -1
theorem yDS {g:dG} {b:Int} (h:blkOk g b=true):yc g=true∧(0≤b.tdiv (g.1 - 1)∧b.tdiv (g.1 - 1)≤g.2 - 1)∧(0≤b.tmod (g.1 - 1)∧b.tmod (g.1 - 1)≤g.1 - 2):=by
 simp only [blkOk,Bool.and_eq_true,zjQ]at h
 cases hg:yc g
 ·have:yv g=0:=by unfold yv; rw [hg]; rfl
  omega
 ·rw [yGJ hg]at h
  have h2:=yi.1 hg
  rw [Int.tdiv_eq_ediv_of_nonneg h.1,Int.tmod_eq_emod_of_nonneg h.1]
  have h3:=Int.ediv_lt_of_lt_mul (show 0 < g.1 - 1 by omega) (show b < g.2 * (g.1 - 1) by omega)
  have h4:=Int.ediv_nonneg h.1 (show 0≤g.1 - 1 by omega)
  have h5:=Int.emod_nonneg b (show g.1 - 1≠0 by omega)
  have h6:=Int.emod_lt_of_pos b (show 0 < g.1 - 1 by omega)
  exact ⟨rfl,⟨h4,by omega⟩,h5,by omega⟩
theorem yE7 {g:dG} {b:Int} (h:blkOk g b=true):yI g (ybO g b)=true:=by
 obtain ⟨h1,h2,_⟩:=yDS h
 unfold ybO
 rw [h,cond_true,yN]
 exact ⟨h1,h2⟩
def yDT (a:dA) (b:Int):Int:=bif !(yw a) then 1 else bif a.2.2.2.2.2.2.2.2.2.2.1 then 6 else bif blkOk a.2.1 b then 0 else 2
def ybk (a:dA) (s:Int):List Int×Bool:=bif leb 0 (yW a.2.2.2.2.2.2.2.2.1 s) then ((nth a.2.2.2.2.2.2.2.2.1 (yW a.2.2.2.2.2.2.2.2.1 s) (0,[])).2,true) else bif a.2.2.2.2.2.2.2.2.2.2.2 then ([],false) else yvp a s
def y30 (a:dA) (b:Int):Int×Int:=bif yDT a b !=0 then (0,yDT a b) else bif (ybk a (ybO a.2.1 b)).2 then (nth (ybk a (ybO a.2.1 b)).1 (yt7 a.2.1 b) 0,0) else (0,5)
theorem y3L {a:dA} {b:Int} (h:yDT a b=0):yw a=true∧blkOk a.2.1 b=true∧a.2.2.2.2.2.2.2.2.2.2.1=false:=by
 unfold yDT at h
 cases ha:yw a
 ·rw [ha]at h; exact absurd (show (1:Int)=0 from h) (by decide)
 ·rw [ha]at h
  cases hd:a.2.2.2.2.2.2.2.2.2.2.1
  ·rw [hd]at h
   cases hb:blkOk a.2.1 b
   ·rw [hb]at h; exact absurd (show (2:Int)=0 from h) (by decide)
   ·exact ⟨rfl,rfl,rfl⟩
  ·rw [hd]at h; exact absurd (show (6:Int)=0 from h) (by decide)
theorem y2d {a:dA} (h:yw a=true) {i:Nat} (hi:i < a.2.2.2.2.2.2.2.2.1.length):(0≤(nth a.2.2.2.2.2.2.2.2.1 i (0,[])).1∧(nth a.2.2.2.2.2.2.2.2.1 i (0,[])).1≤a.2.1.2 - 1)∧((nth a.2.2.2.2.2.2.2.2.1 i (0,[])).2.length:Int)=a.2.1.1 - 1∧(nth a.2.2.2.2.2.2.2.2.1 i (0,[])).2.all isW=true∧(0 < i→(nth a.2.2.2.2.2.2.2.2.1 ((i - 1:Nat):Int) (0,[])).1 < (nth a.2.2.2.2.2.2.2.2.1 i (0,[])).1):=by
 have h1:yaI a.2.1 a.2.2.2.2.2.2.2.2.1=true:=by simp only [yw,Bool.and_eq_true]at h; exact h.2.2.2.1
 simp only [yaI,Bool.not_eq_true',List.any_eq_false,List.mem_range]at h1
 have h2:=h1 i hi
 simp only [yh4,Bool.not_eq_true,Bool.or_eq_false_iff,Bool.not_eq_false',bne_eq_false_iff_eq,Bool.and_eq_true,Bool.and_eq_false_iff,decide_eq_false_iff_not,zjQ]at h2
 refine ⟨h2.1,h2.2.1,h2.2.2.1,fun h0=> ?_⟩
 rcases h2.2.2.2 with h3 | h3
 ·exact absurd h0 h3
 ·have:=mt zk0 (by rw [h3]; simp: ¬ leb (nth a.2.2.2.2.2.2.2.2.1 i (0,[])).1 (nth a.2.2.2.2.2.2.2.2.1 ((i - 1:Nat):Int) (0,[])).1=true)
  omega
theorem yy9 {a:dA} {s:Int} (h:yw a=true) (hs:yI a.2.1 s=true) (h2:(ybk a s).2=true):((ybk a s).1.length:Int)=a.2.1.1 - 1:=by
 have hg:=yi.1 (ydV h)
 unfold ybk at h2 ⊢
 cases hk:leb 0 (yW a.2.2.2.2.2.2.2.2.1 s)
 ·rw [hk]at h2
  simp only [cond_false]at h2 ⊢
  cases hb:a.2.2.2.2.2.2.2.2.2.2.2
  ·rw [hb]at h2
   simp only [cond_false]at h2 ⊢
   unfold yvp at h2 ⊢
   cases hw:(yE a s).2
   ·rw [hw]at h2; cases h2
   ·simp only [cond_true,List.length_map,List.length_range]; omega
  ·rw [hb]at h2; cases h2
 ·have h3:=zjP.1 (yte (d:=((0,[]):dW)) hk).1
  have:=(y2d h (i:=(yW a.2.2.2.2.2.2.2.2.1 s).toNat) (by unfold yW; omega)).2.1
  rw [show (((yW a.2.2.2.2.2.2.2.2.1 s).toNat:Nat):Int)=yW a.2.2.2.2.2.2.2.2.1 s by have:=zjQ.1 hk; omega]at this
  exact this
theorem y1w (g:dG) (b:Int):ya b 0 (IntKind.i64.wrap (yv g - 1))=blkOk g b:=by
 have:=yXa g
 rw [wr (by omega) (by omega),ycd]; rfl
end
end
end Go.Tf
