/- Functions of the program, and what they come to. -/
import Derived.Test.YtgmadfpnljibhaaGreatArrsF7
namespace Go.Tf
noncomputable section
open Go.Proofs
set_option synthInstance.maxHeartbeats 400000
set_option synthInstance.maxSize 10000
set_option linter.unusedVariables false
set_option linter.unusedSimpArgs false
set_option maxRecDepth 100000
section
def yDc:Code:=(Tryz.f173.body).getD .skip
def yDQ:Env:=zj2 TT [(242,yjK)] []
theorem yKn:FrOk Tryz.prog ⟨yDQ,14,fun _=>none⟩ yDc:=zj6 yc yd ⟨ytt,trivial⟩
def yLK:Nat→Option Seg:=fun _=>none
abbrev yeU:List Par:= [.rd tG,.rd tI]
abbrev ynU:List OT:= [⟨false,tI,.fz⟩]
def yjW (a0:dG) (a1:Int):Option (ResD ynU×MutD yeU) :=
 let r1:=ybB a0 a1
 bif (!r1) then
 some (((-1),()),())
 else
 bif ((IntKind.i64.wrap (a0.1 - 1)) !=0) then
 some (((IntKind.i64.wrap (a1.tdiv (IntKind.i64.wrap (a0.1 - 1)))),()),())
 else none
theorem yR9 (x:InD yeU):zjx ⟨yDQ,14,yLK⟩ Tryz.f173.results.toList yDc yeU ynU x=yjW x.1 x.2.1:=by kernel_rfl
theorem yNi:ConOk Tryz.prog 173 ⟨yeU,ynU,fun x=>yjW x.1 x.2.1⟩:=zj1 (yKn) Tryz.func173 (by kernel_rfl) (by kernel_rfl) Tryz.ntmps173.symm (by decide) (fun x r h=>(yR9 x).trans h)
def yjb (a0:dG) (a1:Int):Int:=yT a0 a1
theorem yP7 (a0:dG) (a1:Int) (hk:zi2 yeU (a0,a1,())):yjW a0 a1=(fun n=>some ((n,()),())) (yjb a0 a1):=by
 unfold yjW yjb yT
 rw [yE5]
 cases hb:blkOk a0 a1
 ·rfl
 ·obtain ⟨h1,h2,h3⟩:=ypv hb
  have h4:=yi.1 h1
  rw [wr (show -9223372036854775808≤a0.1 - 1 by omega) (by omega),show (a0.1 - 1 !=0)=true from bne_iff_ne.2 (by omega),wr (by omega) (by omega)]; rfl
def yzO:Con:=⟨yeU,ynU,fun x=>(fun n=>some ((n,()),())) (yjb x.1 x.2.1)⟩
theorem yQT:ConOk Tryz.prog 173 yzO:=(yNi).mono (fun x r hk h=>(yP7 x.1 x.2.1 hk).trans h)
end
section
def yFh:Code:=(Tryz.f174.body).getD .skip
def yFZ:Env:=zj2 TT [(242,yjK)] []
theorem yMd:FrOk Tryz.prog ⟨yFZ,14,fun _=>none⟩ yFh:=zj6 yc yd ⟨ytt,trivial⟩
def yNY:Nat→Option Seg:=fun _=>none
abbrev yge:List Par:= [.rd tG,.rd tI]
abbrev yqd:List OT:= [⟨false,tI,.fz⟩]
def ylO (a0:dG) (a1:Int):Option (ResD yqd×MutD yge) :=
 let r1:=ybB a0 a1
 bif (!r1) then
 some (((-1),()),())
 else
 bif ((IntKind.i64.wrap (a0.1 - 1)) !=0) then
 some (((a1.tmod (IntKind.i64.wrap (a0.1 - 1))),()),())
 else none
theorem yVq (x:InD yge):zjx ⟨yFZ,14,yNY⟩ Tryz.f174.results.toList yFh yge yqd x=ylO x.1 x.2.1:=by kernel_rfl
theorem yQn:ConOk Tryz.prog 174 ⟨yge,yqd,fun x=>ylO x.1 x.2.1⟩:=zj1 (yMd) Tryz.func174 (by kernel_rfl) (by kernel_rfl) Tryz.ntmps174.symm (by decide) (fun x r h=>(yVq x).trans h)
def yk1 (a0:dG) (a1:Int):Int:=yd5 a0 a1
theorem yTs (a0:dG) (a1:Int) (hk:zi2 yge (a0,a1,())):ylO a0 a1=(fun n=>some ((n,()),())) (yk1 a0 a1):=by
 unfold ylO yk1 yd5
 rw [yE5]
 cases hb:blkOk a0 a1
 ·rfl
 ·obtain ⟨h1,h2,h3⟩:=ypv hb
  have h4:=yi.1 h1
  rw [wr (show -9223372036854775808≤a0.1 - 1 by omega) (by omega),show (a0.1 - 1 !=0)=true from bne_iff_ne.2 (by omega)]; rfl
def yBw:Con:=⟨yge,yqd,fun x=>(fun n=>some ((n,()),())) (yk1 x.1 x.2.1)⟩
theorem yUr:ConOk Tryz.prog 174 yBw:=(yQn).mono (fun x r hk h=>(yTs x.1 x.2.1 hk).trans h)
end
section
def yC8:Code:=(Tryz.f77.body).getD .skip
def yDM:Env:=zj2 TT [(171,yxT),(172,yBx),(173,yzO),(174,yBw)] []
theorem yKj:FrOk Tryz.prog ⟨yDM,33,fun _=>none⟩ yC8:=zj6 yc yd ⟨yNA,yUs,yQT,yUr,trivial⟩
def yLG:Nat→Option Seg:=fun _=>none
abbrev yeR:List Par:= [.rd tA,.rd tI]
abbrev ynQ:List OT:= [⟨false,tI,.fz⟩,⟨false,tI,.fz⟩]
def yjT (a0:dA) (a1:Int):Option (ResD ynQ×MutD yeR) :=
 let r1:=yhj a0 a1
 bif (r1 !=0) then
 some ((0,r1,()),())
 else
 let r2:=yjb a0.2.1 a1
 let r3:=ygr a0 r2
 bif (!r3.2) then
 some ((0,5,()),())
 else
 let r4:=yk1 a0.2.1 a1
 bif (inb r4 r3.1.length) then
 some (((nth r3.1 r4 0),0,()),())
 else none
theorem yR5 (x:InD yeR):zjx ⟨yDM,33,yLG⟩ Tryz.f77.results.toList yC8 yeR ynQ x=yjT x.1 x.2.1:=by kernel_rfl
theorem yNe:ConOk Tryz.prog 77 ⟨yeR,ynQ,fun x=>yjT x.1 x.2.1⟩:=zj1 (yKj) Tryz.func77 (by kernel_rfl) (by kernel_rfl) Tryz.ntmps77.symm (by decide) (fun x r h=>(yR5 x).trans h)
def yi8 (a0:dA) (a1:Int):Int×Int:=yc2 a0 a1
theorem yP3 (a0:dA) (a1:Int) (hk:zi2 yeR (a0,a1,())):yjT a0 a1=(fun n=>some ((n.1,n.2,()),())) (yi8 a0 a1):=by
 unfold yjT yi8 yc2 yjb yk1
 simp only [yZ0]
 cases hc:(yi1 a0 a1 !=0)
 ·obtain ⟨h1,h2,_⟩:=y1k (bne_eq_false_iff_eq.1 hc)
  have hs:=yxz h2
  rw [y00 h1 hs]
  simp only [cond_false]
  cases hn:(yY a0 (yT a0.2.1 a1)).2
  ·rfl
  ·have hl:=yy4 h1 hs hn
   obtain ⟨_,_,h5⟩:=ypv h2
   have h6:yd5 a0.2.1 a1=a1.tmod (a0.2.1.1 - 1):=by unfold yd5; rw [h2]; rfl
   rw [zjD.2 (show 0≤yd5 a0.2.1 a1∧yd5 a0.2.1 a1 < (yY a0 (yT a0.2.1 a1)).1.length by omega)]; rfl
 ·rfl
def yzK:Con:=⟨yeR,ynQ,fun x=>(fun n=>some ((n.1,n.2,()),())) (yi8 x.1 x.2.1)⟩
theorem yQP:ConOk Tryz.prog 77 yzK:=(yNe).mono (fun x r hk h=>(yP3 x.1 x.2.1 hk).trans h)
end
section
def yhX:Code:=(Tryz.f37.body).getD .skip
def ynE:Env:=zj2 TT [(77,yzK),(120,yoj)] []
theorem yKf:FrOk Tryz.prog ⟨ynE,28,fun _=>none⟩ yhX:=zj6 yc yd ⟨yQP,yw4,trivial⟩
def yzc:Nat→Option Seg:=fun _=>none
def yaZ:Shape:=⟨[(1,false,[.ptr 0 0]),(3,false,[.at 800000000]),(10,false,[.int .i64]),(11,false,[.int .i64])],[(0,[.int .i64,.int .i64,.int .i64,.br tM,.int .i64,.int .i64,.int .i64,.int .i64,.int .i64,.br tW,.int .i64,.bool,.bool])],[(800000000,tI,.fz)]⟩
def yew:Shape:=⟨[(1,false,[.ptr 0 0]),(3,false,[.at 800000000]),(10,false,[.int .i64]),(11,false,[.ci .i64 0])],[(0,[.int .i64,.int .i64,.int .i64,.br tM,.int .i64,.int .i64,.int .i64,.int .i64,.int .i64,.br tW,.int .i64,.bool,.bool])],[(800000000,tI,.fz)]⟩
def yep:Shape:=⟨[(3,false,[.at 800000000])],[],[(800000000,tI,.fz)]⟩
def yeC:Shape:=⟨[(2,false,[.nil])],[],[]⟩
abbrev ynn (v0 v1:Int) (v2:dA) (v3:List Int):(yaZ).X:=((((),()),((),()),(v0,()),(v1,()),()),((v2.1,v2.2.1.1,v2.2.1.2,v2.2.2.1,v2.2.2.2.1,v2.2.2.2.2.1,v2.2.2.2.2.2.1,v2.2.2.2.2.2.2.1,v2.2.2.2.2.2.2.2.1,v2.2.2.2.2.2.2.2.2.1,v2.2.2.2.2.2.2.2.2.2.1,v2.2.2.2.2.2.2.2.2.2.2.1,v2.2.2.2.2.2.2.2.2.2.2.2,()),()),(v3,()))
abbrev yIY (v0:Int) (v1:dA) (v2:List Int):(yew).X:=((((),()),((),()),(v0,()),((),()),()),((v1.1,v1.2.1.1,v1.2.1.2,v1.2.2.1,v1.2.2.2.1,v1.2.2.2.2.1,v1.2.2.2.2.2.1,v1.2.2.2.2.2.2.1,v1.2.2.2.2.2.2.2.1,v1.2.2.2.2.2.2.2.2.1,v1.2.2.2.2.2.2.2.2.2.1,v1.2.2.2.2.2.2.2.2.2.2.1,v1.2.2.2.2.2.2.2.2.2.2.2,()),()),(v2,()))
abbrev ywA (v0:List Int):(yep).X:=((((),()),()),(),(v0,()))
abbrev yI4  :(yeC).X:=((((),()),()),(),())
def ynw (v0 v1 v2 v3 v4:Int) (v5:List dM) (v6 v7 v8 v9 v10:Int) (v11:List dW) (v12:Int) (v13 v14:Bool) (v15:List Int):Option ((yaZ).X ⊕ ((yep).X ⊕ (yeC).X)) :=
 bif (ltb v1 v0) then
 let r3:=yi8 (v2,(v3,v4),v5,v6,v7,v8,v9,v10,v11,v12,v13,v14) v1
 bif (r3.2 !=0) then
 some (.inr (.inr ((((),()),()),(),())))
 else
 bif (zjR v15.length ([r3.1]:List Int).length 8) then
 some (.inl ((((),()),((),()),(v0,()),((IntKind.i64.wrap (v1+1)),()),()),((v2,v3,v4,v5,v6,v7,v8,v9,v10,v11,v12,v13,v14,()),()),((v15++([r3.1]:List Int)),())))
 else none
 else
 some (.inr (.inl ((((),()),()),(),(v15,()))))
def ybf (x:(yaZ).X):=ynw x.1.2.2.1.1 x.1.2.2.2.1.1 x.2.1.1.1 x.2.1.1.2.1 x.2.1.1.2.2.1 x.2.1.1.2.2.2.1 x.2.1.1.2.2.2.2.1 x.2.1.1.2.2.2.2.2.1 x.2.1.1.2.2.2.2.2.2.1 x.2.1.1.2.2.2.2.2.2.2.1 x.2.1.1.2.2.2.2.2.2.2.2.1 x.2.1.1.2.2.2.2.2.2.2.2.2.1 x.2.1.1.2.2.2.2.2.2.2.2.2.2.1 x.2.1.1.2.2.2.2.2.2.2.2.2.2.2.1 x.2.1.1.2.2.2.2.2.2.2.2.2.2.2.2.1 x.2.2.1
def ywk (x:(yew).X):(yaZ).X:=((((),()),((),()),(x.1.2.2.1.1,()),(0,()),()),((x.2.1.1.1,x.2.1.1.2.1,x.2.1.1.2.2.1,x.2.1.1.2.2.2.1,x.2.1.1.2.2.2.2.1,x.2.1.1.2.2.2.2.2.1,x.2.1.1.2.2.2.2.2.2.1,x.2.1.1.2.2.2.2.2.2.2.1,x.2.1.1.2.2.2.2.2.2.2.2.1,x.2.1.1.2.2.2.2.2.2.2.2.2.1,x.2.1.1.2.2.2.2.2.2.2.2.2.2.1,x.2.1.1.2.2.2.2.2.2.2.2.2.2.2.1,x.2.1.1.2.2.2.2.2.2.2.2.2.2.2.2.1,()),()),(x.2.2.1,()))
def yxL:Code:=(zdD yhX 64 116).getD .skip
theorem yJX:zdD yhX 64 29=some (.block 0 (.loop yxL)):=by kernel_rfl
theorem yLn (x:(yaZ).X):zg0 ⟨ynE,28,yzc⟩ 0 yxL 116 yaZ yep yeC x=ybf x:=by kernel_rfl
def yws (x:(yew).X):Nat:=18446744073709551616
def yo6 (x:(yew).X):Option ((yep).X ⊕ (yeC).X):=zz ybf (yws x) (ywk x)
def ywF:Seg:=⟨yew,yep,yeC,yo6⟩
def yzd:Nat→Option Seg:=fun q=>bif Nat.beq q 29 then some ywF else yzc q
theorem yKg:FrOk Tryz.prog ⟨ynE,28,yzd⟩ yhX:=(yKf).loop (sg:=ywF) yaZ ywk (by decide) yJX ybf yws (by decide) (fun _=>rfl) (fun x r _ h=>h) yLn
abbrev yeP:List Par:= [.rd tA]
abbrev ynO:List OT:= [⟨false,tL,(.ow .fz)⟩]
def yjR (a0:dA):Option (ResD ynO×MutD yeP) :=
 let r1:=yfp a0.2.1
 zkh (yo6 ((((),()),((),()),(r1,()),((),()),()),((a0.1,a0.2.1.1,a0.2.1.2,a0.2.2.1,a0.2.2.2.1,a0.2.2.2.2.1,a0.2.2.2.2.2.1,a0.2.2.2.2.2.2.1,a0.2.2.2.2.2.2.2.1,a0.2.2.2.2.2.2.2.2.1,a0.2.2.2.2.2.2.2.2.2.1,a0.2.2.2.2.2.2.2.2.2.2.1,a0.2.2.2.2.2.2.2.2.2.2.2,()),()),(([]:List Int),()))) (fun y3 =>
 some ((y3.2.2.1,()),())) (fun y3 =>
 some (([],()),()))
theorem yR3 (x:InD yeP):zjx ⟨ynE,28,yzd⟩ Tryz.f37.results.toList yhX yeP ynO x=yjR x.1:=by kernel_rfl
theorem yNc:ConOk Tryz.prog 37 ⟨yeP,ynO,fun x=>yjR x.1⟩:=zj1 (yKg) Tryz.func37 (by kernel_rfl) (by kernel_rfl) Tryz.ntmps37.symm (by decide) (fun x r h=>(yR3 x).trans h)
def yi6 (a0:dA):List Int:=yGU a0
theorem yP1 (a0:dA) (hk:zi2 yeP (a0,())):yjR a0=(fun n=>some ((n,()),())) (yi6 a0):=by
 have hB:=yq0 a0.2.1
 have h1:yo6 (yIY (yg a0.2.1) a0 [])=some (bif (List.range (yg a0.2.1).toNat).all (fun (b:Nat)=> !((yc2 a0 b).2 !=0)) then .inl (ywA ((List.range (yg a0.2.1).toNat).foldl (fun l (b:Nat)=>l++ [(yc2 a0 b).1]) [])) else .inr yI4) :=
  zhr (step:=ybf) (yg a0.2.1).toNat (fun i s=>ynn (yg a0.2.1) i a0 s) (fun (b:Nat)=> !((yc2 a0 b).2 !=0)) (fun l (b:Nat)=>l++ [(yc2 a0 b).1]) (fun i s=>s.length=i) (fun s=> .inl (ywA s)) _ (fun i s hi hs=>by
   refine ⟨?_,fun _=>by simp [hs]⟩
   simp only [ybf,ynn,ynw,zj4 (show (i:Int) < yg a0.2.1 by omega),cond_true,wr (show -9223372036854775808≤(i:Int)+1 by omega) (by omega),Int.natCast_add,Int.natCast_one,Int.toNat_natCast,zkr,yi8,zka.2 (show (s.length+ [(yc2 a0 i).1].length) * 8≤140737488355328 by simp only [List.length_cons,List.length_nil]; omega)]
   cases ((yc2 a0 i).2 !=0)<;>rfl) (fun s hs=>by simp only [ybf,ynn,ynw,zkx (show yg a0.2.1≤((yg a0.2.1).toNat:Int) by omega),cond_false]) [] rfl _ (by show _ < 18446744073709551616; omega)
 unfold yjR yi6 yGU
 simp only [yw3]
 rw [h1,yqA]
 cases (List.range (yg a0.2.1).toNat).all (fun (b:Nat)=> !((yc2 a0 b).2 !=0))<;>rfl
def yzI:Con:=⟨yeP,ynO,fun x=>(fun n=>some ((n,()),())) (yi6 x.1)⟩
theorem yQN:ConOk Tryz.prog 37 yzI:=(yNc).mono (fun x r hk h=>(yP1 x.1 hk).trans h)
end
section
def yoU:Code:=(Tryz.f94.body).getD .skip
def yub:Env:=zj2 TT [] []
theorem ySU:FrOk Tryz.prog ⟨yub,32,fun _=>none⟩ yoU:=zj6 yc yd trivial
def yFL:Nat→Option Seg:=fun _=>none
def ye5:Shape:=⟨[(0,false,[.fz tY]),(3,false,[.int .i64]),(4,false,[.int .i64])],[],[]⟩
def ynM:Shape:=⟨[(0,false,[.fz tY]),(3,false,[.int .i64]),(4,false,[.ci .i64 0])],[],[]⟩
def ynL:Shape:=⟨[(0,false,[.fz tY]),(3,false,[.int .i64])],[],[]⟩
def yob:Shape:=⟨[],[],[]⟩
def yCZ (v0:List Int) (v1 v2:Int):Option ((ye5).X ⊕ ((ynL).X ⊕ (yob).X)) :=
 bif (ltb v2 (v0.length:Int)) then
 bif (ltb v2 4000) then
 bif (inb v2 v0.length) then
 some (.inl (((v0,()),((IntKind.i64.wrap ((BitVec.ofInt IntKind.i64.bits (IntKind.i64.wrap ((IntKind.i64.wrap ((IntKind.i64.wrap (v1 * 137))+(IntKind.i64.wrap (nth v0 v2 0))))+11)) &&& BitVec.ofInt IntKind.i64.bits 1073741823).toNat:Int)),()),((IntKind.i64.wrap (v2+1)),()),()),(),()))
 else none
 else
 some (.inr (.inl (((v0,()),(v1,()),()),(),())))
 else
 some (.inr (.inl (((v0,()),(v1,()),()),(),())))
def yf3 (x:(ye5).X):=yCZ x.1.1.1 x.1.2.1.1 x.1.2.2.1.1
def yBU (x:(ynM).X):(ye5).X:=(((x.1.1.1,()),(x.1.2.1.1,()),(0,()),()),(),())
def yEd:Code:=(zdD yoU 64 116).getD .skip
theorem yRQ:zdD yoU 64 29=some (.block 0 (.loop yEd)):=by kernel_rfl
theorem yUU (x:(ye5).X):zg0 ⟨yub,32,yFL⟩ 0 yEd 116 ye5 ynL yob x=yf3 x:=by kernel_rfl
def yCd (x:(ynM).X):Nat:=18446744073709551616
def yur (x:(ynM).X):Option ((ynL).X ⊕ (yob).X):=zz yf3 (yCd x) (yBU x)
def yCS:Seg:=⟨ynM,ynL,yob,yur⟩
def yFM:Nat→Option Seg:=fun q=>bif Nat.beq q 29 then some yCS else yFL q
theorem ySV:FrOk Tryz.prog ⟨yub,32,yFM⟩ yoU:=(ySU).loop (sg:=yCS) ye5 yBU (by decide) yRQ yf3 yCd (by decide) (fun _=>rfl) (fun x r _ h=>h) yUU
abbrev ykC:List Par:= [.kp tYs .fz]
abbrev yuQ:List OT:= [⟨true,tU,.fz⟩]
def ygw (a0:List Int):Option (ResD yuQ×MutD ykC) :=
 zkh (yur (((a0,()),((IntKind.i64.wrap (770770+(a0.length:Int))),()),((),()),()),(),())) (fun y0 =>
 some (((y0.1.1.1,0,y0.1.2.1.1),()),())) (fun y0 =>
 none)
theorem yZL (x:InD ykC):zjx ⟨yub,32,yFM⟩ Tryz.f94.results.toList yoU ykC yuQ x=ygw x.1:=by kernel_rfl
theorem yWO:ConOk Tryz.prog 94 ⟨ykC,yuQ,fun x=>ygw x.1⟩:=zj1 (ySV) Tryz.func94 (by kernel_rfl) (by kernel_rfl) Tryz.ntmps94.symm (by decide) (fun x r h=>(yZL x).trans h)
def yeI (a0:List Int):List Int×Int×Int:=(((ygw a0).getD (((([]:List Int),(0:Int),(0:Int)),()),())).1).1
def yD (u:List Int×Int×Int):Prop:=0≤u.2.1∧(u.1.length:Int)≤140737488355328
theorem yZ4 (a0:List Int) (hb:a0.length≤140737488355328): ∃ s:Int,ygw a0=some (((a0,0,s),()),()):=by
 have hl: ∃ b,yur (((a0,()),((IntKind.i64.wrap (770770+(a0.length:Int))),()),((),()),()),(),())=some b∧(∃ s:Int,b= .inl (((a0,()),(s,()),()),(),())):=by
  refine ziP (step:=yf3) (fun x=>(a0.length - (x.1.2.2.1.1:Int).toNat)) (fun x=>(x.1.1.1:List Int)=a0∧(0:Int)≤(x.1.2.2.1.1:Int)) _ ?_ _ _ ⟨rfl,Int.le_refl _⟩ (by show a0.length - _ < 18446744073709551616; omega)
  rintro ⟨⟨⟨(l:List Int),_⟩,⟨(s:Int),_⟩,⟨(i:Int),_⟩,_⟩,_,_⟩ ⟨h0,hi⟩
  simp only at h0 hi
  subst h0
  simp only [yf3,yCZ]
  by_cases h1:i < (l.length:Int)
  ·rw [zj4 h1]
   by_cases h2:i < 4000
   ·rw [zj4 h2,zjD.2 ⟨hi,h1⟩]
    refine .inl ⟨_,rfl,⟨rfl,?_⟩,?_⟩
    ·show 0≤IntKind.i64.wrap (i+1); rw [wr (by omega) (by omega)]; omega
    ·show l.length - (IntKind.i64.wrap (i+1)).toNat < l.length - i.toNat; rw [wr (by omega) (by omega)]; omega
   ·rw [zkx (Int.not_lt.1 h2)]
    exact .inr ⟨_,rfl,_,rfl⟩
  ·rw [zkx (Int.not_lt.1 h1)]
   exact .inr ⟨_,rfl,_,rfl⟩
 obtain ⟨b,e,s,rfl⟩:=hl
 refine ⟨s,?_⟩
 unfold ygw
 rw [e]; rfl
theorem yYR (a0:List Int) (hk:zi2 ykC (a0,())):ygw a0=(fun n=>some ((n,()),())) (yeI a0):=by
 obtain ⟨s,e⟩:=yZ4 a0 (by have:a0.length * 1≤2 ^ 47:=hk.1.1; omega)
 unfold yeI
 rw [e]; rfl
theorem yZt (a0:List Int) (hb:a0.length≤140737488355328):yD (yeI a0):=by
 obtain ⟨s,e⟩:=yZ4 a0 hb
 unfold yeI
 rw [e]
 exact ⟨Int.le_refl _,by show (a0.length:Int)≤_; omega⟩
def yqy:Con:=⟨ykC,yuQ,fun x=>(fun n=>some ((n,()),())) (yeI x.1)⟩
theorem yyV:ConOk Tryz.prog 94 yqy:=(yWO).mono (fun x r hk h=>(yYR x.1 hk).trans h)
end
section
def yHH:Code:=(Tryz.f234.body).getD .skip
def yIe:Env:=zj2 TT [] []
theorem yO2:FrOk Tryz.prog ⟨yIe,58,fun _=>none⟩ yHH:=zj6 yc yd trivial
def yRx:Nat→Option Seg:=fun _=>none
abbrev ymt:List Par:= [.pt tU .fz]
abbrev ysv:List OT:= [⟨false,tI,.fz⟩]
def yaK (a0:dU):Option (ResD ysv×MutD ymt) :=
 bif (ltb a0.2.1 (a0.1.length:Int)) then
 bif (inb a0.2.1 a0.1.length) then
 some (((IntKind.i64.wrap ((BitVec.ofInt IntKind.i64.bits (IntKind.i64.wrap ((IntKind.i64.wrap ((BitVec.ofInt IntKind.i64.bits (IntKind.i64.wrap ((BitVec.ofInt IntKind.i64.bits ((IntKind.i64.wrap ((IntKind.i64.wrap (a0.2.2 * 6364136223846793005))+1442695040888963407)).fdiv (2 ^ (min (33:Int).toNat IntKind.i64.bits))) ^^^ BitVec.ofInt IntKind.i64.bits ((IntKind.i64.wrap ((IntKind.i64.wrap (a0.2.2 * 6364136223846793005))+1442695040888963407)).fdiv (2 ^ (min (47:Int).toNat IntKind.i64.bits)))).toNat:Int)) &&& BitVec.ofInt IntKind.i64.bits 255).toNat:Int))+(IntKind.i64.wrap (nth a0.1 a0.2.1 0)))) &&& BitVec.ofInt IntKind.i64.bits 255).toNat:Int)),()),((a0.1,(IntKind.i64.wrap (a0.2.1+1)),(IntKind.i64.wrap ((IntKind.i64.wrap (a0.2.2 * 6364136223846793005))+1442695040888963407))),()))
 else none
 else
 some (((IntKind.i64.wrap ((BitVec.ofInt IntKind.i64.bits (IntKind.i64.wrap ((BitVec.ofInt IntKind.i64.bits ((IntKind.i64.wrap ((IntKind.i64.wrap (a0.2.2 * 6364136223846793005))+1442695040888963407)).fdiv (2 ^ (min (33:Int).toNat IntKind.i64.bits))) ^^^ BitVec.ofInt IntKind.i64.bits ((IntKind.i64.wrap ((IntKind.i64.wrap (a0.2.2 * 6364136223846793005))+1442695040888963407)).fdiv (2 ^ (min (47:Int).toNat IntKind.i64.bits)))).toNat:Int)) &&& BitVec.ofInt IntKind.i64.bits 255).toNat:Int)),()),((a0.1,a0.2.1,(IntKind.i64.wrap ((IntKind.i64.wrap (a0.2.2 * 6364136223846793005))+1442695040888963407))),()))
theorem yYj (x:InD ymt):zjx ⟨yIe,58,yRx⟩ Tryz.f234.results.toList yHH ymt ysv x=yaK x.1:=by kernel_rfl
theorem yUa:ConOk Tryz.prog 234 ⟨ymt,ysv,fun x=>yaK x.1⟩:=zj1 (yO2) Tryz.func234 (by kernel_rfl) (by kernel_rfl) Tryz.ntmps234.symm (by decide) (fun x r h=>(yYj x).trans h)
def yEt:Con:=⟨ymt,ysv,fun x=>yaK x.1⟩
theorem yXb:ConOk Tryz.prog 234 yEt:=yUa
theorem y1i (x:Int):0≤IntKind.i64.wrap ((BitVec.ofInt IntKind.i64.bits x &&& BitVec.ofInt IntKind.i64.bits 255).toNat:Int)∧IntKind.i64.wrap ((BitVec.ofInt IntKind.i64.bits x &&& BitVec.ofInt IntKind.i64.bits 255).toNat:Int)≤255:=by
 have h:(BitVec.ofInt IntKind.i64.bits x &&& BitVec.ofInt IntKind.i64.bits 255).toNat≤255:=by
  rw [BitVec.toNat_and]
  exact Nat.le_trans Nat.and_le_right (by decide)
 rw [wr (by omega) (by omega)]
 omega
theorem yLB (u:List Int×Int×Int) (h:yD u): ∃ (r:Int) (u':List Int×Int×Int),yaK u=some ((r,()),(u',()))∧(0≤r∧r≤255)∧yD u':=by
 unfold yaK
 by_cases h1:u.2.1 < (u.1.length:Int)
 ·rw [zj4 h1,zjD.2 ⟨h.1,h1⟩]
  refine ⟨_,_,rfl,y1i _,?_,h.2⟩
  show 0≤IntKind.i64.wrap (u.2.1+1)
  have:=h.1; have:=h.2
  rw [wr (by omega) (by omega)]; omega
 ·rw [zkx (Int.not_lt.1 h1)]
  exact ⟨_,_,rfl,y1i _,h⟩
end
end
end Go.Tf
