/- YtojbflghmjfbpaaGreatDoorB4, a part of the proof that the claim's law answers true for every input. No condition beyond the statements' own. -/
import Derived.Test.YtojbflghmjfbpaaGreatDoorB3
import Derived.Test.YtojbflghmjfbpaaGreatDoorProg
import Derived.KernelRfl
import Derived.Shelf.SlSortCmp.WholeK
import Derived.Shelf.SlGeneric
set_option maxRecDepth 100000
noncomputable section
namespace Go.Cham
open Go Go.RowKit Go.Proofs Tryz
def frac_Add_r:List Rw:=[⟨[2,0],1,0⟩,⟨[2,1],1,0⟩,⟨[44,0],1,0⟩,⟨[44,1],1,0⟩,⟨[13,0],1,0⟩,⟨[13,1],1,0⟩,⟨[29,4,5],2,1⟩,⟨[4,1],0,64⟩,⟨[36,3,7],1,65⟩,⟨[17,8],1,65⟩,⟨[37,4,9],2,65⟩,⟨[36,2,7],1,65⟩,⟨[17,11],1,65⟩,⟨[37,5,12],2,65⟩,⟨[29,10,13],4,131⟩,⟨[24,11,8],2,130⟩,⟨[78,14,15],6,261⟩]
def Zb1(cs:CL):Tb:=⟨frac_Add_r,cs,50000000000⟩
def Zf5(cs:CL)(r:SV Ato):Prop:=Zdn Ze3 (Zb1 cs) 25 [.agg (cQs [0]),.agg (cQs [1])] r 100
def QR(a0 a1:Rat):Nat->AV:=rho (Zb1 []) (YV [a0,a1])
def frac_Add_k0(nh0:Nat):CL:=([16,2],.ofNat (.succ nh0))::[]
theorem frac_Add_p2(nh0:Nat):Zf5 (frac_Add_k0 nh0) (.agg (cQs [16])):=λ_ _ _=>by kernel_rfl
def Zg4:CL:=([16,2],0)::[]
def frac_Add_k2(nh1:Nat):CL:=([16,3],.ofNat (.succ nh1))::Zg4
theorem frac_Add_p1(nh1:Nat):Zf5 (frac_Add_k2 nh1) (.agg (cQs [16])):=λ_ _ _=>by kernel_rfl
def frac_Add_k3:CL:=([16,3],0)::Zg4
theorem frac_Add_p0:Zf5 frac_Add_k3 (.agg [.at_ (.s 6),.at_ (.a 6),.int .u64 0,.sl none 0 0]):=λ_ _ _=>by kernel_rfl
theorem frac_Add_s{S:Sh}{w:World}(hS:ZV S w){c_a:List Value}{a0:Rat}{k_a:Nat}(h_a:Fs S c_a [a0] k_a){c_b:List Value}{a1:Rat}{k_b:Nat}(h_b:Fs S c_b [a1] k_b)(hlim:k_a<=50000000000)(hlim2:k_b<=50000000000):Calls prog 25 [(.agg (c_a:List Value).toArray),(.agg (c_b:List Value).toArray)].toArray w (Ret S w (λS v=>∃(c0:List Value),v= .agg c0.toArray/\Fs S c0 [a0+a1] (k_a+k_b+1))):=by
 have leaf:=λcs hc {r} (h:Zf5 cs r)=>YX Zbu (K:=max k_a k_b) (base:=(YV [a0,a1])) (by kernel_rfl) (by omega) (by kernel_rfl) hS (λ_ _=>.cons (.agg (QF (is:=[0]) (qs:=[a0]) (k:=max k_a k_b) ⟨by kernel_rfl,le1 _,trivial⟩<|h_a.wide (by omega))) (.cons (.agg (QF (is:=[1]) (qs:=[a1]) (k:=max k_a k_b) ⟨by kernel_rfl,le1 _,trivial⟩<|h_b.wide (by omega))) .nil)) cs hc h;rcases waysE (QR a0 a1) (t:=16) (is:=[2]) (by decide) with h0|⟨nh0,h0⟩;rotate_left
 have H0:Csl (QR a0 a1) (frac_Add_k0 nh0):=.cons h0 .nil;refine Calls.mono (leaf _ H0<|frac_Add_p2 nh0) λe w' ⟨v,S',q1,q2,blk,q3⟩=>⟨v,S',q1,q2,?_⟩
 cases q3 with
 |agg h4=>
  have h9:=(Zcz (bd:=Zej (Zb1 []) (max k_a k_b)) (is:=[16]) (qs:=[(mkRat ((a0.num*((((a1.den-1)+1):Nat):Int))+(a1.num*((((a0.den-1)+1):Nat):Int))) (((a0.den-1)+1)*((a1.den-1)+1)))]) (k:=Zej (Zb1 []) (max k_a k_b) 16) ⟨by kernel_rfl,Nat.le_refl _,trivial⟩ h4)
  exact⟨_,rfl,h9.toR (by rw[Xo,Xo,Qn]) (Zet h_a.num_le h_a.den_le h_b.num_le h_b.den_le)⟩
 have H1:Csl (QR a0 a1) Zg4:=.cons h0 .nil;rcases waysE (QR a0 a1) (t:=16) (is:=[3]) (by decide) with h1|⟨nh1,h1⟩;rotate_left
 have H2:Csl (QR a0 a1) (frac_Add_k2 nh1):=.cons h1 H1;refine Calls.mono (leaf _ H2<|frac_Add_p1 nh1) λe w' ⟨v,S',q1,q2,blk,q3⟩=>⟨v,S',q1,q2,?_⟩
 cases q3 with
 |agg h4=>
  have h9:=(Zcz (bd:=Zej (Zb1 []) (max k_a k_b)) (is:=[16]) (qs:=[(mkRat ((a0.num*((((a1.den-1)+1):Nat):Int))+(a1.num*((((a0.den-1)+1):Nat):Int))) (((a0.den-1)+1)*((a1.den-1)+1)))]) (k:=Zej (Zb1 []) (max k_a k_b) 16) ⟨by kernel_rfl,Nat.le_refl _,trivial⟩ h4)
  exact⟨_,rfl,h9.toR (by rw[Xo,Xo,Qn]) (Zet h_a.num_le h_a.den_le h_b.num_le h_b.den_le)⟩
 have H3:Csl (QR a0 a1) frac_Add_k3:=.cons h1 H1;have g0:((ZC (a0.den-1):Nat):Int)=_:=tr h0;have g1:((ZC (a1.den-1):Nat):Int)=_:=tr h1;refine Calls.mono (leaf _ H3 frac_Add_p0) λe w' ⟨v,S',q1,q2,blk,q3⟩=>⟨v,S',q1,q2,?_⟩
 cases q3 with
 |agg h4=>
  have h9:=mixed_of (i:=6) (z:=(a0.num+a1.num)) (by kernel_rfl) h4
  exact⟨_,rfl,h9.toR (by rw[cast_add' (bits0 g0) (bits0 g1)]) (Zet h_a.num_le h_a.den_le h_b.num_le h_b.den_le)⟩
def frac_Sub_r:List Rw:=[⟨[2,0],1,0⟩,⟨[2,1],1,0⟩,⟨[44,0],1,0⟩,⟨[44,1],1,0⟩,⟨[13,0],1,0⟩,⟨[13,1],1,0⟩,⟨[33,4,5],2,1⟩,⟨[4,1],0,64⟩,⟨[36,3,7],1,65⟩,⟨[17,8],1,65⟩,⟨[37,4,9],2,65⟩,⟨[36,2,7],1,65⟩,⟨[17,11],1,65⟩,⟨[37,5,12],2,65⟩,⟨[33,10,13],4,131⟩,⟨[24,11,8],2,130⟩,⟨[78,14,15],6,261⟩]
def Zby(cs:CL):Tb:=⟨frac_Sub_r,cs,50000000000⟩
def Zf1(cs:CL)(r:SV Ato):Prop:=Zdn Ze3 (Zby cs) 93 [.agg (cQs [0]),.agg (cQs [1])] r 100
def QP(a0 a1:Rat):Nat->AV:=rho (Zby []) (YV [a0,a1])
def frac_Sub_k0(nh0:Nat):CL:=([16,2],.ofNat (.succ nh0))::[]
theorem frac_Sub_p2(nh0:Nat):Zf1 (frac_Sub_k0 nh0) (.agg (cQs [16])):=λ_ _ _=>by kernel_rfl
def Zg1:CL:=([16,2],0)::[]
def frac_Sub_k2(nh1:Nat):CL:=([16,3],.ofNat (.succ nh1))::Zg1
theorem frac_Sub_p1(nh1:Nat):Zf1 (frac_Sub_k2 nh1) (.agg (cQs [16])):=λ_ _ _=>by kernel_rfl
def frac_Sub_k3:CL:=([16,3],0)::Zg1
theorem frac_Sub_p0:Zf1 frac_Sub_k3 (.agg [.at_ (.s 6),.at_ (.a 6),.int .u64 0,.sl none 0 0]):=λ_ _ _=>by kernel_rfl
theorem frac_Sub_s{S:Sh}{w:World}(hS:ZV S w){c_a:List Value}{a0:Rat}{k_a:Nat}(h_a:Fs S c_a [a0] k_a){c_b:List Value}{a1:Rat}{k_b:Nat}(h_b:Fs S c_b [a1] k_b)(hlim:k_a<=50000000000)(hlim2:k_b<=50000000000):Calls prog 93 [(.agg (c_a:List Value).toArray),(.agg (c_b:List Value).toArray)].toArray w (Ret S w (λS v=>∃(c0:List Value),v= .agg c0.toArray/\Fs S c0 [a0-a1] (k_a+k_b+1))):=by
 have leaf:=λcs hc {r} (h:Zf1 cs r)=>YX Zbu (K:=max k_a k_b) (base:=(YV [a0,a1])) (by kernel_rfl) (by omega) (by kernel_rfl) hS (λ_ _=>.cons (.agg (QF (is:=[0]) (qs:=[a0]) (k:=max k_a k_b) ⟨by kernel_rfl,le1 _,trivial⟩<|h_a.wide (by omega))) (.cons (.agg (QF (is:=[1]) (qs:=[a1]) (k:=max k_a k_b) ⟨by kernel_rfl,le1 _,trivial⟩<|h_b.wide (by omega))) .nil)) cs hc h;rcases waysE (QP a0 a1) (t:=16) (is:=[2]) (by decide) with h0|⟨nh0,h0⟩;rotate_left
 have H0:Csl (QP a0 a1) (frac_Sub_k0 nh0):=.cons h0 .nil;refine Calls.mono (leaf _ H0<|frac_Sub_p2 nh0) λe w' ⟨v,S',q1,q2,blk,q3⟩=>⟨v,S',q1,q2,?_⟩
 cases q3 with
 |agg h4=>
  have h9:=(Zcz (bd:=Zej (Zby []) (max k_a k_b)) (is:=[16]) (qs:=[(mkRat ((a0.num*((((a1.den-1)+1):Nat):Int))-(a1.num*((((a0.den-1)+1):Nat):Int))) (((a0.den-1)+1)*((a1.den-1)+1)))]) (k:=Zej (Zby []) (max k_a k_b) 16) ⟨by kernel_rfl,Nat.le_refl _,trivial⟩ h4)
  exact⟨_,rfl,h9.toR (by rw[Xo,Xo,mkRat_sub]) (sub_bd h_a.num_le h_a.den_le h_b.num_le h_b.den_le)⟩
 have H1:Csl (QP a0 a1) Zg1:=.cons h0 .nil;rcases waysE (QP a0 a1) (t:=16) (is:=[3]) (by decide) with h1|⟨nh1,h1⟩;rotate_left
 have H2:Csl (QP a0 a1) (frac_Sub_k2 nh1):=.cons h1 H1;refine Calls.mono (leaf _ H2<|frac_Sub_p1 nh1) λe w' ⟨v,S',q1,q2,blk,q3⟩=>⟨v,S',q1,q2,?_⟩
 cases q3 with
 |agg h4=>
  have h9:=(Zcz (bd:=Zej (Zby []) (max k_a k_b)) (is:=[16]) (qs:=[(mkRat ((a0.num*((((a1.den-1)+1):Nat):Int))-(a1.num*((((a0.den-1)+1):Nat):Int))) (((a0.den-1)+1)*((a1.den-1)+1)))]) (k:=Zej (Zby []) (max k_a k_b) 16) ⟨by kernel_rfl,Nat.le_refl _,trivial⟩ h4)
  exact⟨_,rfl,h9.toR (by rw[Xo,Xo,mkRat_sub]) (sub_bd h_a.num_le h_a.den_le h_b.num_le h_b.den_le)⟩
 have H3:Csl (QP a0 a1) frac_Sub_k3:=.cons h1 H1;have g0:((ZC (a0.den-1):Nat):Int)=_:=tr h0;have g1:((ZC (a1.den-1):Nat):Int)=_:=tr h1;refine Calls.mono (leaf _ H3 frac_Sub_p0) λe w' ⟨v,S',q1,q2,blk,q3⟩=>⟨v,S',q1,q2,?_⟩
 cases q3 with
 |agg h4=>
  have h9:=mixed_of (i:=6) (z:=(a0.num-a1.num)) (by kernel_rfl) h4
  exact⟨_,rfl,h9.toR (by rw[cast_sub' (bits0 g0) (bits0 g1)]) (sub_bd h_a.num_le h_a.den_le h_b.num_le h_b.den_le)⟩
def frac_Mul_r:List Rw:=[⟨[2,0],1,0⟩,⟨[2,1],1,0⟩,⟨[13,0],1,0⟩,⟨[13,1],1,0⟩,⟨[37,2,3],2,0⟩,⟨[44,0],1,0⟩,⟨[44,1],1,0⟩,⟨[4,1],0,64⟩,⟨[36,5,7],1,65⟩,⟨[36,6,7],1,65⟩,⟨[24,8,9],2,130⟩,⟨[78,4,10],4,130⟩]
def Zbz(cs:CL):Tb:=⟨frac_Mul_r,cs,50000000000⟩
def Zf2(cs:CL)(r:SV Ato):Prop:=Zdn Ze3 (Zbz cs) 37 [.agg (cQs [0]),.agg (cQs [1])] r 100
def QQ(a0 a1:Rat):Nat->AV:=rho (Zbz []) (YV [a0,a1])
def frac_Mul_k0(nh0:Nat):CL:=([16,5],.ofNat (.succ nh0))::[]
theorem frac_Mul_p2(nh0:Nat):Zf2 (frac_Mul_k0 nh0) (.agg (cQs [11])):=λ_ _ _=>by kernel_rfl
def Zg2:CL:=([16,5],0)::[]
def frac_Mul_k2(nh1:Nat):CL:=([16,6],.ofNat (.succ nh1))::Zg2
theorem frac_Mul_p1(nh1:Nat):Zf2 (frac_Mul_k2 nh1) (.agg (cQs [11])):=λ_ _ _=>by kernel_rfl
def frac_Mul_k3:CL:=([16,6],0)::Zg2
theorem frac_Mul_p0:Zf2 frac_Mul_k3 (.agg [.at_ (.s 4),.at_ (.a 4),.int .u64 0,.sl none 0 0]):=λ_ _ _=>by kernel_rfl
theorem frac_Mul_s{S:Sh}{w:World}(hS:ZV S w){c_a:List Value}{a0:Rat}{k_a:Nat}(h_a:Fs S c_a [a0] k_a){c_b:List Value}{a1:Rat}{k_b:Nat}(h_b:Fs S c_b [a1] k_b)(hlim:k_a<=50000000000)(hlim2:k_b<=50000000000):Calls prog 37 [(.agg (c_a:List Value).toArray),(.agg (c_b:List Value).toArray)].toArray w (Ret S w (λS v=>∃(c0:List Value),v= .agg c0.toArray/\Fs S c0 [a0*a1] (k_a+k_b))):=by
 have leaf:=λcs hc {r} (h:Zf2 cs r)=>YX Zbu (K:=max k_a k_b) (base:=(YV [a0,a1])) (by kernel_rfl) (by omega) (by kernel_rfl) hS (λ_ _=>.cons (.agg (QF (is:=[0]) (qs:=[a0]) (k:=max k_a k_b) ⟨by kernel_rfl,le1 _,trivial⟩<|h_a.wide (by omega))) (.cons (.agg (QF (is:=[1]) (qs:=[a1]) (k:=max k_a k_b) ⟨by kernel_rfl,le1 _,trivial⟩<|h_b.wide (by omega))) .nil)) cs hc h;rcases waysE (QQ a0 a1) (t:=16) (is:=[5]) (by decide) with h0|⟨nh0,h0⟩;rotate_left
 have H0:Csl (QQ a0 a1) (frac_Mul_k0 nh0):=.cons h0 .nil;refine Calls.mono (leaf _ H0<|frac_Mul_p2 nh0) λe w' ⟨v,S',q1,q2,blk,q3⟩=>⟨v,S',q1,q2,?_⟩
 cases q3 with
 |agg h4=>
  have h9:=(Zcz (bd:=Zej (Zbz []) (max k_a k_b)) (is:=[11]) (qs:=[(mkRat (a0.num*a1.num) (((a0.den-1)+1)*((a1.den-1)+1)))]) (k:=Zej (Zbz []) (max k_a k_b) 11) ⟨by kernel_rfl,Nat.le_refl _,trivial⟩ h4)
  exact⟨_,rfl,h9.toR (by rw[Xo,Xo,Zcc]) (mul_bd h_a.num_le h_a.den_le h_b.num_le h_b.den_le)⟩
 have H1:Csl (QQ a0 a1) Zg2:=.cons h0 .nil;rcases waysE (QQ a0 a1) (t:=16) (is:=[6]) (by decide) with h1|⟨nh1,h1⟩;rotate_left
 have H2:Csl (QQ a0 a1) (frac_Mul_k2 nh1):=.cons h1 H1;refine Calls.mono (leaf _ H2<|frac_Mul_p1 nh1) λe w' ⟨v,S',q1,q2,blk,q3⟩=>⟨v,S',q1,q2,?_⟩
 cases q3 with
 |agg h4=>
  have h9:=(Zcz (bd:=Zej (Zbz []) (max k_a k_b)) (is:=[11]) (qs:=[(mkRat (a0.num*a1.num) (((a0.den-1)+1)*((a1.den-1)+1)))]) (k:=Zej (Zbz []) (max k_a k_b) 11) ⟨by kernel_rfl,Nat.le_refl _,trivial⟩ h4)
  exact⟨_,rfl,h9.toR (by rw[Xo,Xo,Zcc]) (mul_bd h_a.num_le h_a.den_le h_b.num_le h_b.den_le)⟩
 have H3:Csl (QQ a0 a1) frac_Mul_k3:=.cons h1 H1;have g0:((ZC (a0.den-1):Nat):Int)=_:=tr h0;have g1:((ZC (a1.den-1):Nat):Int)=_:=tr h1;refine Calls.mono (leaf _ H3 frac_Mul_p0) λe w' ⟨v,S',q1,q2,blk,q3⟩=>⟨v,S',q1,q2,?_⟩
 cases q3 with
 |agg h4=>
  have h9:=mixed_of (i:=4) (z:=(a0.num*a1.num)) (by kernel_rfl) h4
  exact⟨_,rfl,h9.toR (by rw[cast_mul' (bits0 g0) (bits0 g1)]) (mul_bd h_a.num_le h_a.den_le h_b.num_le h_b.den_le)⟩
def frac_Cmp_r:List Rw:=[⟨[2,0],1,0⟩,⟨[2,1],1,0⟩,⟨[44,0],1,0⟩,⟨[44,1],1,0⟩,⟨[13,0],1,0⟩,⟨[13,1],1,0⟩,⟨[4,1],0,64⟩,⟨[36,3,6],1,65⟩,⟨[17,7],1,65⟩,⟨[37,4,8],2,65⟩,⟨[36,2,6],1,65⟩,⟨[17,10],1,65⟩,⟨[37,5,11],2,65⟩]
def frac_Cmp_T(cs:CL):Tb:=⟨frac_Cmp_r,cs,100000000000⟩
def Zf4(cs:CL)(r:SV Ato):Prop:=Zdn Ze3 (frac_Cmp_T cs) 60 [.agg (cQs [0]),.agg (cQs [1])] r 100
def Xn(a0 a1:Rat):Nat->AV:=rho (frac_Cmp_T []) (YV [a0,a1])
def frac_Cmp_k0(nh0:Nat):CL:=([16,2],.ofNat (.succ nh0))::[]
theorem frac_Cmp_p2(nh0:Nat)(z0:Int):Zf4 (([17,9,12],z0)::(frac_Cmp_k0 nh0)) (.int .i64 z0):=λ_ _ _=>by kernel_rfl
def Zg3:CL:=([16,2],0)::[]
def frac_Cmp_k2(nh1:Nat):CL:=([16,3],.ofNat (.succ nh1))::Zg3
theorem frac_Cmp_p1(nh1:Nat)(z0:Int):Zf4 (([17,9,12],z0)::(frac_Cmp_k2 nh1)) (.int .i64 z0):=λ_ _ _=>by kernel_rfl
def frac_Cmp_k3:CL:=([16,3],0)::Zg3
theorem frac_Cmp_p0(z0:Int):Zf4 (([17,4,5],z0)::frac_Cmp_k3) (.int .i64 z0):=λ_ _ _=>by kernel_rfl
theorem frac_Cmp_s{S:Sh}{w:World}(hS:ZV S w){c_a:List Value}{a0:Rat}{k_a:Nat}(h_a:Fs S c_a [a0] k_a){c_b:List Value}{a1:Rat}{k_b:Nat}(h_b:Fs S c_b [a1] k_b)(hlim:k_a<=100000000000)(hlim2:k_b<=100000000000):Calls prog 60 [(.agg (c_a:List Value).toArray),(.agg (c_b:List Value).toArray)].toArray w (Ret S w (λS v=>v= .int .i64 (Yp a0 a1))):=by
 have leaf:=λcs hc {r} (h:Zf4 cs r)=>YX Zbu (K:=max k_a k_b) (base:=(YV [a0,a1])) (by kernel_rfl) (by omega) (by kernel_rfl) hS (λ_ _=>.cons (.agg (QF (is:=[0]) (qs:=[a0]) (k:=max k_a k_b) ⟨by kernel_rfl,le1 _,trivial⟩<|h_a.wide (by omega))) (.cons (.agg (QF (is:=[1]) (qs:=[a1]) (k:=max k_a k_b) ⟨by kernel_rfl,le1 _,trivial⟩<|h_b.wide (by omega))) .nil)) cs hc h;rcases waysE (Xn a0 a1) (t:=16) (is:=[2]) (by decide) with h0|⟨nh0,h0⟩;rotate_left
 have H0:Csl (Xn a0 a1) (frac_Cmp_k0 nh0):=.cons h0 .nil;refine Calls.mono (leaf _ (.cons (show ZI (Xn a0 a1) [17,9,12]=_ from rfl) H0)<|frac_Cmp_p2 nh0 _) λe w' ⟨v,S',q1,q2,blk,q3⟩=>⟨v,S',q1,q2,?_⟩;cases q3;exact congrArg (Value.int .i64)<|(by kernel_rfl:ZI (Xn a0 a1) [17,9,12]=cmpZ (a0.num*((((a1.den-1)+1):Nat):Int)) (a1.num*((((a0.den-1)+1):Nat):Int))).trans ((by rw[Xo,Xo]:cmpZ (a0.num*((((a1.den-1)+1):Nat):Int)) (a1.num*((((a0.den-1)+1):Nat):Int))=cmpZ (a0.num*(a1.den:Int)) (a1.num*(a0.den:Int))).trans cmpQ_den);have H1:Csl (Xn a0 a1) Zg3:=.cons h0 .nil;rcases waysE (Xn a0 a1) (t:=16) (is:=[3]) (by decide) with h1|⟨nh1,h1⟩;rotate_left
 have H2:Csl (Xn a0 a1) (frac_Cmp_k2 nh1):=.cons h1 H1;refine Calls.mono (leaf _ (.cons (show ZI (Xn a0 a1) [17,9,12]=_ from rfl) H2)<|frac_Cmp_p1 nh1 _) λe w' ⟨v,S',q1,q2,blk,q3⟩=>⟨v,S',q1,q2,?_⟩;cases q3;exact congrArg (Value.int .i64)<|(by kernel_rfl:ZI (Xn a0 a1) [17,9,12]=cmpZ (a0.num*((((a1.den-1)+1):Nat):Int)) (a1.num*((((a0.den-1)+1):Nat):Int))).trans ((by rw[Xo,Xo]:cmpZ (a0.num*((((a1.den-1)+1):Nat):Int)) (a1.num*((((a0.den-1)+1):Nat):Int))=cmpZ (a0.num*(a1.den:Int)) (a1.num*(a0.den:Int))).trans cmpQ_den);have H3:Csl (Xn a0 a1) frac_Cmp_k3:=.cons h1 H1;have g0:((ZC (a0.den-1):Nat):Int)=_:=tr h0;have g1:((ZC (a1.den-1):Nat):Int)=_:=tr h1;refine Calls.mono (leaf _ (.cons (show ZI (Xn a0 a1) [17,4,5]=_ from rfl) H3)<|frac_Cmp_p0 _) λe w' ⟨v,S',q1,q2,blk,q3⟩=>⟨v,S',q1,q2,?_⟩;cases q3;exact congrArg (Value.int .i64)<|(by kernel_rfl:ZI (Xn a0 a1) [17,4,5]=cmpZ a0.num a1.num).trans (cmpQ_int (bits0 g0)<|bits0 g1)
def frac_Div_r:List Rw:=[⟨[2,0],1,0⟩,⟨[2,1],1,0⟩,⟨[13,1],1,0⟩,⟨[9,1,1],0,64⟩,⟨[13,0],1,0⟩,⟨[37,4,3],1,64⟩,⟨[4,1],0,64⟩,⟨[44,1],1,0⟩,⟨[36,7,6],1,65⟩,⟨[17,8],1,65⟩,⟨[37,5,9],2,129⟩,⟨[44,0],1,0⟩,⟨[36,11,6],1,65⟩,⟨[12,2],1,0⟩,⟨[24,12,13],2,65⟩,⟨[78,10,14],4,194⟩,⟨[9,1,0],0,64⟩,⟨[37,4,16],1,64⟩,⟨[37,17,9],2,129⟩,⟨[78,18,14],4,194⟩]
def Zb0(cs:CL):Tb:=⟨frac_Div_r,cs,50000000000⟩
def Zf3(cs:CL)(r:SV Ato):Prop:=Zdn Ze3 (Zb0 cs) 46 [.agg (cQs [0]),.agg (cQs [1])] r 100
def XD(a0 a1:Rat):Nat->AV:=rho (Zb0 []) (YV [a0,a1])
def frac_Div_k0:CL:=([3,2],0)::[]
theorem frac_Div_p2:Zf3 frac_Div_k0 (.tup [.agg [.bool false,.int .u64 0,.sl none 0 0,.int .u64 0,.sl none 0 0],.int .i64 11]):=λ_ _ _=>by kernel_rfl
def frac_Div_k1:CL:=([5,14],0)::([3,2],1)::[]
theorem frac_Div_p1:Zf3 frac_Div_k1 (.tup [.agg (cQs [19]),.int .i64 0]):=λ_ _ _=>by kernel_rfl
def frac_Div_k2:CL:=([5,14],0)::([3,2],(-1))::[]
theorem frac_Div_p0:Zf3 frac_Div_k2 (.tup [.agg (cQs [15]),.int .i64 0]):=λ_ _ _=>by kernel_rfl
theorem frac_Div_s{S:Sh}{w:World}(hS:ZV S w){c_a:List Value}{a0:Rat}{k_a:Nat}(h_a:Fs S c_a [a0] k_a){c_b:List Value}{a1:Rat}{k_b:Nat}(h_b:Fs S c_b [a1] k_b)(hlim:k_a<=50000000000)(hlim2:k_b<=50000000000):Calls prog 46 [(.agg (c_a:List Value).toArray),(.agg (c_b:List Value).toArray)].toArray w (Ret S w (λS v=>((a1.num=0)/\∃(c0:List Value),v= .tuple [.agg c0.toArray,.int .i64 11].toArray/\Fs S c0 [0] 0)\/((a1.num≠0)/\∃(c0:List Value),v= .tuple [.agg c0.toArray,.int .i64 0].toArray/\Fs S c0 [a0/a1] (k_a+k_b)))):=by
 have leaf:=λcs hc {r} (h:Zf3 cs r)=>YX Zbu (K:=max k_a k_b) (base:=(YV [a0,a1])) (by kernel_rfl) (by omega) (by kernel_rfl) hS (λ_ _=>.cons (.agg (QF (is:=[0]) (qs:=[a0]) (k:=max k_a k_b) ⟨by kernel_rfl,le1 _,trivial⟩<|h_a.wide (by omega))) (.cons (.agg (QF (is:=[1]) (qs:=[a1]) (k:=max k_a k_b) ⟨by kernel_rfl,le1 _,trivial⟩<|h_b.wide (by omega))) .nil)) cs hc h;rcases Zcm (XD a0 a1) (t:=3) (is:=[2]) (by decide) with h0|h0|h0;rotate_left
 have H0:Csl (XD a0 a1) frac_Div_k0:=.cons h0 .nil;have g0:Yu a1.num=_:=tr h0;have gz:=Yh (z:=a1.num);have gn:=Zaw (z:=a1.num);refine Calls.mono (leaf _ H0 frac_Div_p2) λe w' ⟨v,S',q1,q2,blk,q3⟩=>⟨v,S',q1,q2,?_⟩
 cases q3 with
 | tup h5=>cases h5 with
  | cons h6 h7=>cases h7 with
   |cons h7 h8=>
    cases h8
    cases h7
    rw[QO (v:=.agg [.bool false,.int .u64 0,.slice none 0 0,.int .u64 0,.slice none 0 0].toArray) rfl h6]
    exact .inl ⟨by omega,_,rfl,Fs.zero _ _⟩
 have h1:ZI (XD a0 a1) [5,14]=0:=(by kernel_rfl:ZI (XD a0 a1) [5,14]=(if(((a0.den-1)+1)*(a1.num).natAbs)=0 then(1:Int) else 0)).trans (if_neg<|Nat.mul_ne_zero (Nat.succ_ne_zero _) (by have g:Yu a1.num=_:=tr h0;have g2:=Yh (z:=a1.num);omega));have H1:Csl (XD a0 a1) frac_Div_k1:=.cons h1 (.cons h0 .nil);have g0:Yu a1.num=_:=tr h0;have gz:=Yh (z:=a1.num);have gn:=Zaw (z:=a1.num);refine Calls.mono (leaf _ H1 frac_Div_p1) λe w' ⟨v,S',q1,q2,blk,q3⟩=>⟨v,S',q1,q2,?_⟩
 cases q3 with
 | tup h5=>cases h5 with
  | cons h6 h7=>cases h7 with
   | cons h7 h8=>
    cases h8
    cases h7
    cases h6 with
    |agg h4=>
     have h9:=(Zcz (bd:=Zej (Zb0 []) (max k_a k_b)) (is:=[19]) (qs:=[(mkRat ((a0.num*(1:Int))*((((a1.den-1)+1):Nat):Int)) (((a0.den-1)+1)*(a1.num).natAbs))]) (k:=Zej (Zb0 []) (max k_a k_b) 19) ⟨by kernel_rfl,Nat.le_refl _,trivial⟩ h4)
     refine .inr ⟨by omega,_,rfl,h9.toR ?_ (div_bd h_a.num_le h_a.den_le h_b.num_le h_b.den_le (by omega))⟩
     rw[Xo,Xo,<-Zcd (by omega),g0]
 have h2:ZI (XD a0 a1) [5,14]=0:=(by kernel_rfl:ZI (XD a0 a1) [5,14]=(if(((a0.den-1)+1)*(a1.num).natAbs)=0 then(1:Int) else 0)).trans (if_neg<|Nat.mul_ne_zero (Nat.succ_ne_zero _) (by have g:Yu a1.num=_:=tr h0;have g2:=Yh (z:=a1.num);omega));have H2:Csl (XD a0 a1) frac_Div_k2:=.cons h2 (.cons h0 .nil);have g0:Yu a1.num=_:=tr h0;have gz:=Yh (z:=a1.num);have gn:=Zaw (z:=a1.num);refine Calls.mono (leaf _ H2 frac_Div_p0) λe w' ⟨v,S',q1,q2,blk,q3⟩=>⟨v,S',q1,q2,?_⟩
 cases q3 with
 | tup h5=>cases h5 with
  | cons h6 h7=>cases h7 with
   | cons h7 h8=>
    cases h8
    cases h7
    cases h6 with
    |agg h4=>
     have h9:=(Zcz (bd:=Zej (Zb0 []) (max k_a k_b)) (is:=[15]) (qs:=[(mkRat ((a0.num*((-1):Int))*((((a1.den-1)+1):Nat):Int)) (((a0.den-1)+1)*(a1.num).natAbs))]) (k:=Zej (Zb0 []) (max k_a k_b) 15) ⟨by kernel_rfl,Nat.le_refl _,trivial⟩ h4)
     refine .inr ⟨by omega,_,rfl,h9.toR ?_ (div_bd h_a.num_le h_a.den_le h_b.num_le h_b.den_le (by omega))⟩
     rw[Xo,Xo,<-Zcd (by omega),g0]
def frac_Make_r:List Rw:=[⟨[1,0],1,0⟩,⟨[1,1],1,0⟩,⟨[25,0],1,0⟩,⟨[12,1],1,0⟩,⟨[78,2,3],2,0⟩,⟨[78,0,3],2,0⟩]
def Zak(cs:CL):Tb:=⟨frac_Make_r,cs,50000000000⟩
def Zd6(cs:CL)(r:SV Ato):Prop:=Zdn Ze3 (Zak cs) 65 [.agg [.at_ (.s 0),.at_ (.a 0)],.agg [.at_ (.s 1),.at_ (.a 1)]] r 100
def Xg(a0 a1:Int):Nat->AV:=rho (Zak []) (baseZ [a0,a1])
def frac_Make_k0:CL:=([3,1],0)::[]
theorem frac_Make_p2:Zd6 frac_Make_k0 (.tup [.agg [.bool false,.int .u64 0,.sl none 0 0,.int .u64 0,.sl none 0 0],.int .i64 11]):=λ_ _ _=>by kernel_rfl
def frac_Make_k1:CL:=([5,3],0)::([3,1],1)::[]
theorem frac_Make_p1:Zd6 frac_Make_k1 (.tup [.agg (cQs [5]),.int .i64 0]):=λ_ _ _=>by kernel_rfl
def frac_Make_k2:CL:=([5,3],0)::([3,1],(-1))::[]
theorem frac_Make_p0:Zd6 frac_Make_k2 (.tup [.agg (cQs [4]),.int .i64 0]):=λ_ _ _=>by kernel_rfl
theorem frac_Make_s{S:Sh}{w:World}(hS:ZV S w){c_a:List Value}{a0:Int}{k_a:Nat}(h_a:In S c_a a0 k_a){c_b:List Value}{a1:Int}{k_b:Nat}(h_b:In S c_b a1 k_b)(hlim:k_a<=50000000000)(hlim2:k_b<=50000000000):Calls prog 65 [(.agg (c_a:List Value).toArray),(.agg (c_b:List Value).toArray)].toArray w (Ret S w (λS v=>((a1=0)/\∃(c0:List Value),v= .tuple [.agg c0.toArray,.int .i64 11].toArray/\Fs S c0 [0] 0)\/((a1≠0)/\∃(c0:List Value),v= .tuple [.agg c0.toArray,.int .i64 0].toArray/\Fs S c0 [(a0:Rat)/(a1:Rat)] (k_a+k_b)))):=by
 have leaf:=λcs hc {r} (h:Zd6 cs r)=>YX Zbu (K:=max k_a k_b) (base:=(baseZ [a0,a1])) (by kernel_rfl) (by omega) (by kernel_rfl) hS (λ_ _=>.cons (.agg (cZ_mk1 (i:=0) (a:=a0) (k:=max k_a k_b) (by kernel_rfl) (le1 _)<|h_a.wide (by omega))) (.cons (.agg (cZ_mk1 (i:=1) (a:=a1) (k:=max k_a k_b) (by kernel_rfl) (le1 _)<|h_b.wide (by omega))) .nil)) cs hc h;rcases Zcm (Xg a0 a1) (t:=3) (is:=[1]) (by decide) with h0|h0|h0;rotate_left
 have H0:Csl (Xg a0 a1) frac_Make_k0:=.cons h0 .nil;have g0:Yu a1=_:=tr h0;have gz:=Yh (z:=a1);have gn:=Zaw (z:=a1);refine Calls.mono (leaf _ H0 frac_Make_p2) λe w' ⟨v,S',q1,q2,blk,q3⟩=>⟨v,S',q1,q2,?_⟩
 cases q3 with
 | tup h5=>cases h5 with
  | cons h6 h7=>cases h7 with
   |cons h7 h8=>
    cases h8
    cases h7
    rw[QO (v:=.agg [.bool false,.int .u64 0,.slice none 0 0,.int .u64 0,.slice none 0 0].toArray) rfl h6]
    exact .inl ⟨by omega,_,rfl,Fs.zero _ _⟩
 have h1:ZI (Xg a0 a1) [5,3]=0:=(by kernel_rfl:ZI (Xg a0 a1) [5,3]=(if(a1).natAbs=0 then(1:Int) else 0)).trans (if_neg (λz=>by have g:Yu a1=_:=tr h0;have g2:=Yh (z:=a1);omega));have H1:Csl (Xg a0 a1) frac_Make_k1:=.cons h1 (.cons h0 .nil);have g0:Yu a1=_:=tr h0;have gz:=Yh (z:=a1);have gn:=Zaw (z:=a1);refine Calls.mono (leaf _ H1 frac_Make_p1) λe w' ⟨v,S',q1,q2,blk,q3⟩=>⟨v,S',q1,q2,?_⟩
 cases q3 with
 | tup h5=>cases h5 with
  | cons h6 h7=>cases h7 with
   | cons h7 h8=>
    cases h8
    cases h7
    cases h6 with
    |agg h4=>
     have h9:=(Zcz (bd:=Zej (Zak []) (max k_a k_b)) (is:=[5]) (qs:=[(mkRat a0 a1.natAbs)]) (k:=Zej (Zak []) (max k_a k_b) 5) ⟨by kernel_rfl,Nat.le_refl _,trivial⟩ h4)
     refine .inr ⟨by omega,_,rfl,h9.toR ?_ (quo_bd h_a.le h_b.le (by omega))⟩
     rw[<-mkRat_quo (by omega),if_neg (by omega)]
 have h2:ZI (Xg a0 a1) [5,3]=0:=(by kernel_rfl:ZI (Xg a0 a1) [5,3]=(if(a1).natAbs=0 then(1:Int) else 0)).trans (if_neg (λz=>by have g:Yu a1=_:=tr h0;have g2:=Yh (z:=a1);omega));have H2:Csl (Xg a0 a1) frac_Make_k2:=.cons h2 (.cons h0 .nil);have g0:Yu a1=_:=tr h0;have gz:=Yh (z:=a1);have gn:=Zaw (z:=a1);refine Calls.mono (leaf _ H2 frac_Make_p0) λe w' ⟨v,S',q1,q2,blk,q3⟩=>⟨v,S',q1,q2,?_⟩
 cases q3 with
 | tup h5=>cases h5 with
  | cons h6 h7=>cases h7 with
   | cons h7 h8=>
    cases h8
    cases h7
    cases h6 with
    |agg h4=>
     have h9:=(Zcz (bd:=Zej (Zak []) (max k_a k_b)) (is:=[4]) (qs:=[(mkRat (-a0) a1.natAbs)]) (k:=Zej (Zak []) (max k_a k_b) 4) ⟨by kernel_rfl,Nat.le_refl _,trivial⟩ h4)
     refine .inr ⟨by omega,_,rfl,h9.toR ?_ (quo_bd h_a.le h_b.le (by omega))⟩
     rw[<-mkRat_quo (by omega),if_pos (by omega)]
def symTab(T:Tb):List (Nat × PrF Ato):=[
  (25,pO T [2,2] 22 50000000000 1),
  (93,pO T [2,2] 26 50000000000 1),
  (37,pO T [2,2] 30 50000000000 0),
  (86,pO T [1] 14 100000000000 0),
  (66,pO T [2] 13 100000000000 0),
  (78,pO T [2] 16 100000000000 0),
  (60,pT T [2,2] 2 100000000000),
  (45,pT T [2] 1 100000000000),
  (81,pO T [1,1] 37 100000000000 0),
  (89,pO T [1,1] 29 100000000000 1),
  (146,pO T [1,1] 33 100000000000 1),
  (85,pO T [1] 25 100000000000 0),
  (113,pO T [1] 12 100000000000 0),
  (84,pT T [1] 3 100000000000),
  (80,pO T [0,0] 24 100000000000 0),
  (79,pO T [0,0] 28 100000000000 0)]
theorem symTab_ok{T:Tb}{K:Nat}{base ρ:Nat->AV}{bd:Nat->Nat}{T0:Tb}{hT:Cs T0 ρ}(hg:YG T K base ρ bd):∀p∈symTab T,Xq prog (DS hT bd) p.1 p.2:=by
 intro p hp;simp only[symTab,List.mem_cons,List.not_mem_nil,or_false] at hp;rcases hp with rfl|rfl|rfl|rfl|rfl|rfl|rfl|rfl|rfl|rfl|rfl|rfl|rfl|rfl|rfl|rfl;exact pQQ hg (by kernel_rfl) (by decide) (λ_ _=>rfl) λhS h1 h2 h3 h4=>frac_Add_s hS h1 h2 h3 h4;exact pQQ hg (by kernel_rfl) (by decide) (λ_ _=>rfl) λhS h1 h2 h3 h4=>frac_Sub_s hS h1 h2 h3 h4;exact pQQ hg (by kernel_rfl) (by decide) (λ_ _=>rfl) λhS h1 h2 h3 h4=>frac_Mul_s hS h1 h2 h3 h4;exact pZq hg (by kernel_rfl) (by decide) (λ_=>rfl) λhS h1 h2=>frac_Of hS h1;exact pQz hg (by kernel_rfl) (by decide) (λ_=>rfl) λhS h1 h2=>frac_Frac_Num hS h1;exact pQn hg (by kernel_rfl) (by decide) (λ_=>rfl) λhS h1 h2=>Zhs hS h1 (by omega);refine pT_ok hg (by kernel_rfl) λS w vs xs ks hS hr hl=>?_;obtain⟨x,k1,v,x',k2,v',rfl,rfl,rfl,h1,h2,h3,h4⟩:=hr.two;obtain⟨c,rfl,h5⟩:=h2.q h1;obtain⟨d,rfl,h6⟩:=h4.q h3;have e1:=hl k1 (by simp);have e2:=hl k2 (by simp);exact frac_Cmp_s hS h5 h6 (by omega) (by omega);refine pT_ok hg (by kernel_rfl) λS w vs xs ks hS hr hl=>?_;obtain⟨x,k1,v,rfl,rfl,rfl,h1,h2⟩:=hr.one;obtain⟨c,rfl,h5⟩:=h2.q h1;exact frac_Frac_Sign hS h5;exact pZZ hg (by kernel_rfl) (by decide) (λ_ _=>rfl) λhS h1 h2 h3 h4=>whole_Mul hS h1 h2 (by omega) (by omega);exact pZZ hg (by kernel_rfl) (by decide) (λ_ _=>rfl) λhS h1 h2 h3 h4=>whole_Add hS h1 h2 (by omega) (by omega);exact pZZ hg (by kernel_rfl) (by decide) (λ_ _=>rfl) λhS h1 h2 h3 h4=>whole_Sub hS h1 h2 (by omega) (by omega);exact pZz hg (by kernel_rfl) (by decide) (λ_=>rfl) λhS h1 h2=>whole_Neg hS h1;exact pZn hg (by kernel_rfl) (by decide) (λ_=>rfl) λhS h1 h2=>Zdr hS h1;refine pT_ok hg (by kernel_rfl) λS w vs xs ks hS hr hl=>?_;obtain⟨x,k1,v,rfl,rfl,rfl,h1,h2⟩:=hr.one;obtain⟨c,rfl,h5⟩:=h2.z h1;exact Zau hS h5;exact pNN hg (by kernel_rfl) (by decide) (λ_ _=>rfl) λhS h1 h2 h3 h4=>nat_Mul hS h1 h2 (by omega) (by omega);exact pNN hg (by kernel_rfl) (by decide) (λ_ _=>rfl) λhS h1 h2 h3 h4=>nat_Gcd hS h1 h2 (by omega)
section
section
variable{T:Tb}{K:Nat}{base ρ:Nat->AV}{bd:Nat->Nat}{T0:Tb}{hT:Cs T0 ρ}
theorem pNatDiv_ok(hg:YG T K base ρ bd):Xq prog (DS hT bd) 77 (pNatDiv T):=by
 intro args r hr G w vs hd hS;unfold pNatDiv at hr;split at hr;rename_i is his;split at hr;rename_i i j;split at hr;rename_i ht;split at hr;rename_i x hx;split at hr;rename_i y hy;cases hr;have hnz:=nzB_ok hg ht;obtain⟨k,rfl,h1,h2,h3,h4⟩:=Zfb hg hx (by decide);obtain⟨l,rfl,g1,g2,g3,g4⟩:=Zfb hg hy (by decide);obtain⟨x,k1,v,x',k2,v',e1,e2,rfl,a1,a2,a3,a4⟩:=(Zaj hg his hd).two;simp only[List.map_cons,List.map_nil,List.cons.injEq,and_true] at e1 e2 h2 g2 h3 h4 g4;obtain⟨rfl,rfl⟩:=e1;obtain⟨rfl,rfl⟩:=e2;obtain⟨c,rfl,h5⟩:=a2.n a1;obtain⟨d,rfl,h6⟩:=a4.n a3;have b1:=h3 (bd i) (by simp);have b2:=sum2 h4;have b3:=sum2 g4;refine .ret (by kernel_rfl) (nat_Div hS h5 h6 (by omega)) λS' v hv=>?_;rcases hv with⟨z,_⟩|⟨_,c0,c1,e,hv,hu⟩;exact absurd z hnz;rw[e];refine .tup (.cons (Xm h1 ?_) (.cons (Xm g1 ?_) (.cons (.int _ _) .nil)));rw[h2];exact⟨c0,rfl,hv.wide (by omega)⟩;rw[g2];exact⟨c1,rfl,hu.wide (by omega)⟩;cases hr;cases hr;cases hr;cases hr;cases hr
theorem pDivQ_ok(hg:YG T K base ρ bd):Xq prog (DS hT bd) 46 (pDivQ T):=by
 intro args r hr G w vs hd hS;unfold pDivQ at hr;split at hr;rename_i is his;split at hr;rename_i i j;obtain⟨x,k1,v,x',k2,v',e1,e2,rfl,a1,a2,a3,a4⟩:=(Zaj hg his hd).two;simp only[List.map_cons,List.map_nil,List.cons.injEq,and_true] at e1 e2;obtain⟨rfl,rfl⟩:=e1;obtain⟨rfl,rfl⟩:=e2;obtain⟨c,rfl,h5⟩:=a2.q a1;obtain⟨d,rfl,h6⟩:=a4.q a3;split at hr;rename_i s ht;obtain⟨ht1,ht2⟩:=tstV_ok hg ht;have ht3:Yu (ρ j).rat.num=s:=ht1;split at hr;cases hr;rename_i hnz0;split at hr;rename_i y hy;cases hr;obtain⟨l,rfl,g1,g2,g3,g4⟩:=Zfb hg hy (by decide);have b1:=g3 (bd i) (by simp);have b2:=g3 (bd j) (by simp);simp only[List.map_cons,List.map_nil] at g2 g4;have b3:=sum2 g4;have hnz:(ρ j).rat.num≠0:=λh0=>hnz0 (by rw[<-ht3,h0];rfl);refine .ret (by kernel_rfl) (frac_Div_s hS h5 h6 b1 b2) λS' v hv=>?_;rcases hv with⟨z,_⟩|⟨_,c0,e,hv⟩;exact absurd z hnz;rw[e];refine .tup (.cons (Xm g1 ?_) (.cons (.int _ _) .nil));rw[g2];exact⟨c0,rfl,hv.wide (by omega)⟩;cases hr;cases hr;cases hr;cases hr
theorem pMakeQ_ok(hg:YG T K base ρ bd):Xq prog (DS hT bd) 65 (pMakeQ T):=by
 intro args r hr G w vs hd hS;unfold pMakeQ at hr;split at hr;rename_i is his;split at hr;rename_i i j;obtain⟨x,k1,v,x',k2,v',e1,e2,rfl,a1,a2,a3,a4⟩:=(Zaj hg his hd).two;simp only[List.map_cons,List.map_nil,List.cons.injEq,and_true] at e1 e2;obtain⟨rfl,rfl⟩:=e1;obtain⟨rfl,rfl⟩:=e2;obtain⟨c,rfl,h5⟩:=a2.z a1;obtain⟨d,rfl,h6⟩:=a4.z a3;split at hr;rename_i s ht;obtain⟨ht1,ht2⟩:=tstV_ok hg ht;have ht3:Yu (ρ j).int=s:=ht1;split at hr;cases hr;rename_i hnz0;split at hr;rename_i y hy;cases hr;obtain⟨l,rfl,g1,g2,g3,g4⟩:=Zfb hg hy (by decide);have b1:=g3 (bd i) (by simp);have b2:=g3 (bd j) (by simp);simp only[List.map_cons,List.map_nil] at g2 g4;have b3:=sum2 g4;have hnz:(ρ j).int≠0:=λh0=>hnz0 (by rw[<-ht3,h0];rfl);refine .ret (by kernel_rfl) (frac_Make_s hS h5 h6 b1 b2) λS' v hv=>?_;rcases hv with⟨z,_⟩|⟨_,c0,e,hv⟩;exact absurd z hnz;rw[e];refine .tup (.cons (Xm g1 ?_) (.cons (.int _ _) .nil));rw[g2];exact⟨c0,rfl,hv.wide (by omega)⟩;cases hr;cases hr;cases hr;cases hr
end
def symTab2(T:Tb):List (Nat × PrF Ato):=(76,pNatOf T)::(27,pConst T 10)::(90,pConst T 9)::(82,pMakeW T)::(77,pNatDiv T)::(46,pDivQ T)::(65,pMakeQ T)::symTab T
theorem symTab2_ok{T:Tb}{K:Nat}{base ρ:Nat->AV}{bd:Nat->Nat}{T0:Tb}{hT:Cs T0 ρ}(hg:YG T K base ρ bd):∀p∈symTab2 T,Xq prog (DS hT bd) p.1 p.2:=by
 intro p hp;simp only[symTab2,List.mem_cons] at hp;rcases hp with rfl|rfl|rfl|rfl|rfl|rfl|rfl|hp;exact pNatOf_ok hg;exact pInt_ok hg;exact pWOf_ok hg;exact pMakeW_ok hg;exact pNatDiv_ok hg;exact pDivQ_ok hg;exact pMakeQ_ok hg;exact symTab_ok hg p hp
end
def zQs:Nat->List (SV Ato)
  |0=>[]
  |n+1=>.bool false:: .int .u64 0:: .sl none 0 0:: .int .u64 0:: .sl none 0 0::zQs n
theorem Zey{T:Tb}{ρ:Nat->AV}{hT:Cs T ρ}{bd:Nat->Nat}{G:Gh}{v:Value}{k:Nat}(h:Den (DS hT bd) G (.agg (zQs 4)) v):∃c0:List Value,v= .agg c0.toArray/\Fs G.S c0 [0,0,0,0] k:=by
 rw[QO (v:=.agg [.bool false,.int .u64 0,.slice none 0 0,.int .u64 0,.slice none 0 0,.bool false,.int .u64 0,.slice none 0 0,.int .u64 0,.slice none 0 0,.bool false,.int .u64 0,.slice none 0 0,.int .u64 0,.slice none 0 0,.bool false,.int .u64 0,.slice none 0 0,.int .u64 0,.slice none 0 0].toArray) rfl h];exact⟨_,rfl,Fs.zero4 _ _⟩
theorem pv_err{x y z u:List Nat}(h:Zbv x y z u≠0):[(0:Rat),0,0,0]=[pvA x y z u,pvB x y z u,pvC x y z u,pvD x y z u]:=by unfold pvA pvB pvC pvD;rw[if_neg h,if_neg h,if_neg h,if_neg h]
theorem pv_ok{x y z u:List Nat}(h:Zbv x y z u=0):[pn (Yz x) (Yz y) (Yz z) (Yz u) (Yz x),pn (Yz x) (Yz y) (Yz z) (Yz u) (Yz y),pn (Yz x) (Yz y) (Yz z) (Yz u) (Yz z),pn (Yz x) (Yz y) (Yz z) (Yz u) (Yz u)]=[pvA x y z u,pvB x y z u,pvC x y z u,pvD x y z u]:=by unfold pvA pvB pvC pvD;rw[if_pos h,if_pos h,if_pos h,if_pos h]
theorem symTab2_OK:TabOK symTab2:=symTab2_ok
theorem ent_94:ZR prog 94=true:=by kernel_rfl
theorem ent_95:ZR prog 95=true:=by kernel_rfl
theorem ent_96:ZR prog 96=true:=by kernel_rfl
theorem ent_97:ZR prog 97=true:=by kernel_rfl
theorem ent_99:ZR prog 99=true:=by kernel_rfl
theorem ent_117:ZR prog 117=true:=by kernel_rfl
theorem ent_147:ZR prog 147=true:=by kernel_rfl
theorem ent_149:ZR prog 149=true:=by kernel_rfl
theorem ent_169:ZR prog 169=true:=by kernel_rfl
theorem Zgj{S:Sh}{w:World}(hS:ZV S w){c_a:List Value}{a:Rat}{k_a:Nat}(h_a:Fs S c_a [a] k_a)(hlim:k_a<=100000000000):Calls prog 55 [(.agg (c_a:List Value).toArray)].toArray w (Ret S w (λS v=>v= .string (Xb<|rtxt a))):=by
 refine cbd hS (n:=18) func55 rfl λ_ L0 R0=>?_;have hzl:=ztxt_len h_a.num_le;have hdl:=Zar h_a.den_le;have hbz:=@Qw (a.den-1);have hdp:=a.den_pos;refine wA<|sO L0 rfl<|ZW (cs:=c_a) rfl R0 rfl λb1 _ _ l1 r1 R1=>Sa rfl<|SVv<|So rfl<|Zg (off':=3) rfl field_36_1 rfl λ_ L3=>?_;obtain⟨c1,e1,h1⟩:=(h_a.up l1).less;refine sO L3 rfl<|ZQ rfl ZM Zp (R1.row r1) e1 h1.len<|So rfl<|Zi rfl Zgk (YU R1.holds h1) λv_1 _ _ x1 v1=>?_;have R2:=R1.call x1;have l2:=x1.le;obtain rfl:=v1;intro _ L5;by_cases t1:((ZC (a.den-1):Nat):Int)=(0:Int);refine sO L5 rfl<|cT t1 (ZP rfl rfl)<|ST rfl<|WA<|So rfl<|Zg (off':=0) rfl Zb2 rfl λ_ L7=>?_;obtain⟨c2,e2,h2⟩:=(h_a.up<|l1.trans l2).num;refine sO L7 rfl<|ZQ rfl QG YJ (R2.row<|r1.up l2) e2 h2.len<|So rfl<|Zi rfl ent_117 (Zgg R2.holds h2 (by omega)) λv_2 _ _ x2 v2=>?_;have R3:=R2.call x2;obtain rfl:=v2;intro _ L9;exact sa L9 rfl λ_ L10=>sn<|wp_ret<|Zt<|rt (L10.kp [1,2] rfl) (.tmp rfl Res.nil)<|⟨_,_,rfl,R3.ext,(by exact congrArg Value.string<|rtxt_int (by omega))⟩;refine sO L5 rfl<|cF t1 (ZP rfl rfl)<|SF rfl λ_ L12=>wp_skip<|Zc<|wp_seq ?_;have L13:=(L12.kp [1,2] rfl);refine Zw (E0:=[]) (H0:=[]) (n:=18) mixed 7 [] (λk=>0) (Zcn [.is (.pointer (some ⟨b1,0,none⟩)),(kvIn a.num k_a),.is (.string (Xb<|Zgb a.num)),.is (.string ((Xb<|Zgb a.num)++(⟨#[47]⟩:ByteArray))),.is (.agg (c_a:List Value).toArray),(kvNa a.den k_a),.is (.string (txt a.den))]) L13 R2 (by simp) (by simp) (by rfl) (by rfl) (by simp) (ZU ?_) ?_;refine(An ?_<|Ak ?_ ?_<|Al ?_ ?_ ?_ ?_ trivial);exact dK [] rfl λA=>Zg (off':=0) rfl Zb2 rfl<|A.same rfl;refine Zb rfl (λ_ _ _ _ _ A2=>?_);obtain⟨_,e3,rfl⟩:=A2.known 0 rfl;obtain⟨c3,e4,h3⟩:=(h_a.up<|l1.trans<|l2.trans A2.le).num;exact Cu (A2.live.add e3)<|ZQ rfl QG YJ (A2.run.row<|r1.up<|l2.trans A2.le) e4 h3.len<|A2.same ⟨_,rfl,h3⟩;refine Zb rfl (λ_ _ _ _ _ A3=>?_);obtain⟨_,e5,c4,rfl,h4⟩:=A3.known 1 rfl;exact Cu (A3.live.add e5)<|Zi rfl ent_117 (Zgg A3.run.holds h4 (by omega)) λv_3 _ _ x3 v3=>(A3.post x3.le (A3.run.call x3) v3);exact dK [2] rfl λA=>Qa (z:=((Xb<|Zgb a.num)++(⟨#[47]⟩:ByteArray))) rfl rfl (by simp only[ByteArray.size_append,Zfc,Zfr,show(⟨#[47]⟩:ByteArray).size=1 from rfl];omega) rfl<|A.same rfl;exact dK [] rfl λA=>ZA rfl Qy Yw (A.run.row<|r1.up<|l2.trans A.le) h_a.len<|A.same rfl;exact dK [4] rfl λA=>Zi rfl ent_78 (Zhs A.run.holds (h_a.up<|l1.trans<|l2.trans A.le) (by omega)) λv_4 _ _ x4 v4=>(A.post x4.le (A.run.call x4) v4);refine Zb rfl (λ_ _ _ _ _ A7=>?_);obtain⟨_,e8,c5,rfl,h5⟩:=A7.known 5 rfl;exact Cu (A7.live.add e8)<|Zi rfl ent_118 (Zcv A7.run.holds h5 (by omega)) λv_5 _ _ x5 v5=>(A7.post x5.le (A7.run.call x5) v5);intro S14 _ _ w14 l7 E1 R7 n1 L21 K1;have L23:=L21.dr K1 [3,6] rfl;have R8:Run _ _ S14 [] w14:=Yb R7 n1 [] (by simp) (by simp);exact sO L23 rfl<|Qa (z:=(((Xb<|Zgb a.num)++(⟨#[47]⟩:ByteArray))++(txt a.den))) rfl rfl (by simp only[ByteArray.size_append,Zfc,Zfr,show(⟨#[47]⟩:ByteArray).size=1 from rfl];omega) rfl<|Sa rfl λ_ L25=>sn<|wp_ret<|rt L25 (.tmp rfl Res.nil)<|⟨_,_,rfl,R8.ext,(by exact congrArg Value.string<|rtxt_frac (by omega))⟩
theorem Zda{S:Sh}{w:World}(hS:ZV S w){s:ByteArray}{sep:ByteArray}(hsep:sep=⟨#[47]⟩)(hs:s.size<=1099511627776):Calls prog 147 [(.string s),(.string sep)].toArray w (Ret S w (λS v=>v= .tuple [.string (Xb<|Zae<|bl s),.string (Xb (Zci<|bl s).2.1),.bool (decide (Zev (bl s)=true))].toArray)):=by
 refine cbd hS (n:=23) func147 rfl λ_ L0 R0=>?_;have hsz:sep.size=1:=by rw[hsep];rfl
 have hbs:=YK s;refine wA<|sa L0 rfl<|Sa rfl<|Sa rfl<|SVv<|Sm rfl<|Sm rfl<|So rfl<|Zi rfl ent_169 (Zhh R0.holds (s:=s) (sep:=sep) (by assumption)) λv_1 _ _ x1 v1=>?_;have R1:=R0.call x1;obtain rfl:=v1;intro _ L6;refine sa L6 rfl<|SW<|Sm rfl λ_ L8=>?_;by_cases t1:(0:Int)<=(Zho<|bl s);refine sO L8 rfl<|cT t1 (YI rfl rfl)<|ST rfl λ_ L9=>wp_seq ?_;have hcp:=Zhn (l:=bl s) (by omega);have hcl:=congrArg List.length hcp.2.2;rw[List.length_append,List.length_cons] at hcl;have L10:=L9;rw[hcp.2.1] at L10;have L11:=(L10.kp [0,1,5,6,7] rfl);refine Zw (E0:=[]) (H0:=[]) (n:=23) mixed 10 [] (λk=>0) (Zcn [.is (.string s),.is (.int .i64 (((Zae<|bl s).length:Nat):Int)),.is (.string (s.extract 0<|(Zae<|bl s).length)),.is (.string s),.is (.int .i64 (((Zae<|bl s).length:Nat):Int)),.is (.string sep),.is (.int .i64 ((sep.size:Nat):Int)),.is (.int .i64 ((((Zae<|bl s).length:Nat):Int)+((sep.size:Nat):Int))),.is (.string (s.extract (((Zae<|bl s).length)+sep.size) s.size)),.is (.string (s.extract 0<|(Zae<|bl s).length))]) L11 R1 (by simp) (by simp) (by rfl) (by rfl) (by simp) (ZU ?_) ?_;refine(Ak ?_ ?_<|Am ?_ ?_ ?_ ?_ ?_ ?_ ?_ ?_ trivial);exact dm [] rfl;exact dm [] rfl;exact dK [0,1] rfl λA=>XY (i:=0) (j:=((Zae<|bl s).length)) (z:=(s.extract 0<|(Zae<|bl s).length)) rfl underlying9 rfl ⟨_,rfl⟩ (by omega) (by omega) rfl<|A.same rfl;exact dm [] rfl;exact dm [] rfl;exact dm [] rfl;exact dK [5] rfl λA=>Yr rfl underlying9<|A.same rfl;exact dK [4,6] rfl λA=>Zy (z:=((((Zae<|bl s).length:Nat):Int)+((sep.size:Nat):Int))) rfl rfl Xd<|A.same rfl;exact dK [3,7] rfl λA=>XY (i:=(((Zae<|bl s).length)+sep.size)) (j:=s.size) (z:=(s.extract (((Zae<|bl s).length)+sep.size) s.size)) rfl underlying9 ⟨_,rfl⟩ rfl (by omega) (by omega) rfl<|A.same rfl;exact dK [2] rfl λA=>QM rfl<|A.same rfl;intro S12 _ _ w12 l2 E1 R2 n1 L22 K1;have L24:=L22.dr K1 [8,9] rfl;have R3:Run _ _ S12 [] w12:=Yb R2 n1 [] (by simp) (by simp);exact sa L24 rfl<|Sa rfl λ_ L26=>sn<|wp_ret<|Zt<|rt L26 (.tmp rfl (.tmp rfl (.tmp rfl Res.nil)))<|⟨_,_,rfl,R3.ext,(by rw[cut_left hcp.2.2 (by omega),cut_right hcp.2.2 (by omega),hcp.1];rfl)⟩;refine sO L8 rfl<|cF t1 (YI rfl rfl)<|SF rfl λ_ L27=>wp_skip<|Zc<|wp_seq ?_;have hcp:=idx47_neg (l:=bl s) (by omega);exact Za<|sm L27 rfl<|Sa rfl<|Sa rfl<|Sa rfl λ_ L31=>sn<|wp_ret<|rt (L31.kp [4,5,6] rfl) (.tmp rfl (.tmp rfl (.tmp rfl Res.nil)))<|⟨_,_,rfl,R1.ext,(by rw[hcp.2.1,ofBl_bl,hcp.1,hcp.2.2];rfl)⟩
theorem strings_Cut{S:Sh}{w:World}(hS:ZV S w){s:ByteArray}{sep:ByteArray}(hsep:sep=⟨#[47]⟩)(hs:s.size<=1099511627776):Calls prog 94 [(.string s),(.string sep)].toArray w (Ret S w (λS v=>v= .tuple [.string (Xb<|Zae<|bl s),.string (Xb (Zci<|bl s).2.1),.bool (decide (Zev (bl s)=true))].toArray)):=by
 refine cbd hS (n:=13) func94 rfl λ_ L0 R0=>wA<|sa L0 rfl<|Sa rfl<|Sa rfl<|SW<|Sm rfl<|Sm rfl<|So rfl<|Zi rfl ent_147 (Zda R0.holds (s:=s) (sep:=sep) hsep (by omega)) λv_1 _ _ x1 v1=>?_;have R1:=R0.call x1;obtain rfl:=v1;intro _ L6;exact sO L6 rfl<|Zj rfl rfl<|So rfl<|Zj rfl rfl<|So rfl<|Zj rfl rfl<|Sa rfl<|Sa rfl<|Sa rfl λ_ L12=>sn<|wp_ret<|rt (L12.kp [4,5,6] rfl) (.tmp rfl (.tmp rfl (.tmp rfl Res.nil)))<|⟨_,_,rfl,R1.ext,rfl⟩
theorem Zd5{S:Sh}{w:World}(hS:ZV S w){s:ByteArray}(hlim:s.size<=1099511627776):Calls prog 96 [(.string s)].toArray w (Ret S w (λS v=>((wd<|bl s)/\v= .bool true)\/((¬(wd<|bl s))/\v= .bool false))):=by
 refine cbd hS (n:=20) func96 rfl λ_ L0 R0=>?_;have hbs:=YK s;have htn:=@trimD_nil s;refine wA<|sa L0 rfl<|SW<|Sm rfl λ_ L2=>?_;by_cases t1:¬s=(⟨#[]⟩:ByteArray);refine sO L2 rfl<|cT t1 (Zan rfl rfl)<|Sm rfl<|Sn rfl<|Zd rfl<|Sn rfl<|Zi rfl ent_149 (strings_TrimR R0.holds (s:=s) (sep:=(⟨#[48,49,50,51,52,53,54,55,56,57]⟩:ByteArray)) (by rfl) (by omega)) λv_1 _ _ x1 v1=>?_;have R1:=R0.call x1;obtain rfl:=v1;intro _ L6;by_cases t2:(trimD s)=(⟨#[]⟩:ByteArray);refine sN L6 rfl<|cT t2 (Xa rfl rfl)<|So rfl<|Ze rfl rfl<|Sm rfl<|Sn rfl<|Zd rfl<|Sn rfl<|Yr rfl underlying9 λ_ L11=>?_;by_cases t3:((s.size:Nat):Int)=(1:Int);exact sN L11 rfl<|cT t3 (ZP rfl rfl)<|Sn rfl<|Zd rfl<|Sf rfl<|Sf rfl<|Sf rfl<|Sn rfl<|Ze rfl rfl<|So rfl<|Ze rfl rfl<|Sa rfl λ_ L19=>sn<|wp_ret<|rt (L19.kp [2] rfl) (.tmp rfl Res.nil)<|⟨_,_,rfl,R1.ext,(Or.inl ⟨by first|exact dig_wd (Zbh (by assumption)) (htn.1 (by assumption)) (by omega)|exact Zai (Classical.not_not.1 (by assumption))|(exact λq=>absurd (htn.2 q.2.1) (by assumption))|exact XX (by have q:=Zbh (s:=s) (by assumption);omega) (by omega),rfl⟩)⟩;refine sN L11 rfl<|cF t3 (ZP rfl rfl)<|Sn rfl<|Zd rfl<|Sn rfl<|Zd rfl<|Sn rfl<|YO (j:=0) rfl rfl underlying9 (by have q:=Zbh (s:=s) (by assumption);omega) (by have q:=Zbh (s:=s) (by assumption);omega) λ_ L24=>?_;by_cases t4:¬(((bl s).getD 0 0:Nat):Int)=(48:Int);exact sN L24 rfl<|cT t4 (Yn rfl rfl)<|Sn rfl<|Ze rfl rfl<|So rfl<|Ze rfl rfl<|Sa rfl λ_ L28=>sn<|wp_ret<|rt (L28.kp [2] rfl) (.tmp rfl Res.nil)<|⟨_,_,rfl,R1.ext,(Or.inl ⟨by first|exact dig_wd (Zbh (by assumption)) (htn.1 (by assumption)) (by omega)|exact Zai (Classical.not_not.1 (by assumption))|(exact λq=>absurd (htn.2 q.2.1) (by assumption))|exact XX (by have q:=Zbh (s:=s) (by assumption);omega) (by omega),rfl⟩)⟩;exact sN L24 rfl<|cF t4 (Yn rfl rfl)<|Sn rfl<|Ze rfl rfl<|So rfl<|Ze rfl rfl<|Sa rfl λ_ L33=>sn<|wp_ret<|rt (L33.kp [2] rfl) (.tmp rfl Res.nil)<|⟨_,_,rfl,R1.ext,(Or.inr ⟨by first|exact dig_wd (Zbh (by assumption)) (htn.1 (by assumption)) (by omega)|exact Zai (Classical.not_not.1 (by assumption))|(exact λq=>absurd (htn.2 q.2.1) (by assumption))|exact XX (by have q:=Zbh (s:=s) (by assumption);omega) (by omega),rfl⟩)⟩;exact sN L6 rfl<|cF t2 (Xa rfl rfl)<|So rfl<|Ze rfl rfl<|Sm rfl<|Sf rfl<|Sf rfl<|Sf rfl<|Sf rfl λ_ L41=>ZY L41 rfl rfl rfl rfl rfl λ_ L42=>ZY L42 rfl rfl rfl rfl rfl λ_ L43=>ZY L43 rfl rfl rfl rfl rfl<|Sf rfl<|So rfl<|Ze rfl rfl<|Sa rfl λ_ L47=>sn<|wp_ret<|rt (L47.kp [2] rfl) (.tmp rfl Res.nil)<|⟨_,_,rfl,R1.ext,(Or.inr ⟨by first|exact dig_wd (Zbh (by assumption)) (htn.1 (by assumption)) (by omega)|exact Zai (Classical.not_not.1 (by assumption))|(exact λq=>absurd (htn.2 q.2.1) (by assumption))|exact XX (by have q:=Zbh (s:=s) (by assumption);omega) (by omega),rfl⟩)⟩;exact sO L2 rfl<|cF t1 (Zan rfl rfl)<|Sm rfl<|Sf rfl<|Sf rfl<|Sf rfl<|So rfl<|Ze rfl rfl<|Sm rfl<|Sf rfl<|Sf rfl<|Sf rfl<|Sf rfl λ_ L59=>ZY L59 rfl rfl rfl rfl rfl λ_ L60=>ZY L60 rfl rfl rfl rfl rfl λ_ L61=>ZY L61 rfl rfl rfl rfl rfl<|Sf rfl<|So rfl<|Ze rfl rfl<|Sa rfl λ_ L65=>sn<|wp_ret<|rt (L65.kp [2] rfl) (.tmp rfl Res.nil)<|⟨_,_,rfl,R0.ext,(Or.inr ⟨by first|exact dig_wd (Zbh (by assumption)) (htn.1 (by assumption)) (by omega)|exact Zai (Classical.not_not.1 (by assumption))|(exact λq=>absurd (htn.2 q.2.1) (by assumption))|exact XX (by have q:=Zbh (s:=s) (by assumption);omega) (by omega),rfl⟩)⟩
theorem frac_Parse{S:Sh}{w:World}(hS:ZV S w){s:ByteArray}(hlim:s.size<=1099511627775):Calls prog 32 [(.string s)].toArray w (Ret S w (λS v=>∃(c0:List Value),v= .tuple [.agg c0.toArray,.int .i64 (YP<|bl s)].toArray/\Fs S c0 [Yz (bl s)] 900)):=by
 refine cbd hS (n:=80) func32 rfl λ_ L0 R0=>wA<|sO L0 rfl<|ZK (cs:=zF1) XR R0 rfl λb1 _ R1=>Sa rfl<|SW<|Sm rfl<|So rfl<|Zi rfl ent_94 (strings_Cut R1.holds (s:=s) (sep:=(⟨#[47]⟩:ByteArray)) (by rfl) (by omega)) λv_1 _ _ x1 v1=>?_;have R2:=R1.call x1;obtain rfl:=v1;intro _ L4;refine sm L4 rfl<|So rfl<|Zj rfl rfl<|So rfl<|Zj rfl rfl<|So rfl<|Zj rfl rfl<|Sa rfl<|Sa rfl<|Sa rfl<|kP [2,3,4,5,6] rfl<|SW<|Sm rfl<|So rfl<|Zi rfl ent_95 (Zgu R2.holds (s:=(Xb<|Zae<|bl s)) (sep:=(⟨#[45]⟩:ByteArray)) (by rfl)) λv_2 S2 _ x2 v2=>?_;have R3:=R2.call x2;obtain rfl:=v2;intro _ L14;refine sa L14 rfl λ_ L15=>sn<|Xr (λac ww=>∃(S':Sh)(nm:ByteArray)(dn:ByteArray)(sz:ByteArray),S2.le S'/\ZD ac 80 [(2,(.pointer (some ⟨b1,0,none⟩))),(3,(.int .i64 (0:Int))),(6,(.bool (decide (Zev (bl s)=true)))),(4,(.string nm)),(5,(.string dn)),(7,(.string sz))]/\Run S w S' [(b1,36,zF1)] ww/\(bl nm=Zae (bl s))/\(bl sz=QD (bl s))/\(bl dn=QI (bl s))) ?_ ?_;rintro ac1 _ ⟨_,nm,dn,sz,l3,L16,R4,hnm,hsz,hdn⟩;have hmi:=Zfh hnm hsz;have hsb:=YK sz;have hdb:=YK dn;have hbb:=@bitlen_gt1 (Xw<|bl dn);have hb1:=@bitlen_one (Nat.gcd (Xw<|bl sz)<|Xw<|bl dn);have hszl:sz.size<=s.size:=by rw[<-YK,<-YK s,hsz];exact fsize_len _
 have hdnl:dn.size<=s.size+1:=by rw[<-YK,<-YK s,hdn];exact fden_len _
 refine wA<|sm L16 rfl<|So rfl<|Yr rfl underlying9<|Sm rfl<|So rfl<|Yr rfl underlying9 λ_ L20=>?_;by_cases t1:((sz.size:Nat):Int)<((nm.size:Nat):Int);refine sO L20 rfl<|cT t1 (Zs rfl rfl)<|Sa rfl<|kP [2,3,6,5,7,8] rfl<|SVv<|Sm rfl<|So rfl<|Zi rfl ent_96 (Zd5 R4.holds (s:=sz) (by omega)) λv_3 S4 _ x3 v3=>?_;have R5:=R4.call x3;rcases v3 with⟨t2,rfl⟩|⟨t3,rfl⟩;intro _ L25;refine sO L25 rfl<|YM rfl rfl<|Sm rfl<|Sn rfl<|Zd rfl<|Sn rfl<|Zi rfl ent_96 (Zd5 R5.holds (s:=dn) (by omega)) λv_4 S5 _ x4 v4=>?_;have R6:=R5.call x4;rcases v4 with⟨t4,rfl⟩|⟨t5,rfl⟩;intro _ L29;refine sN L29 rfl<|YM rfl rfl<|So rfl<|Ze rfl rfl<|Sm rfl<|Sn rfl<|Zd rfl<|Sn rfl<|Zd rfl<|Sn rfl<|Zd rfl λ_ L35=>?_;by_cases t6:sz=(⟨#[48]⟩:ByteArray);refine sN L35 rfl<|cT t6 (Xa rfl rfl)<|Sn rfl<|Ze rfl rfl<|So rfl<|Ze rfl rfl<|kP [2,3,6,5,7,8,42] rfl<|ST rfl λ_ L39=>wp_seq<|Za ?_;have h1:Fs S5 zF1 [0] (0):=Fs.zero _ _;refine sO L39 rfl<|ZH (cs:=zF1) XR Za1 .nil (by rfl)<|Sz rfl<|Zm rfl rfl R6 Yw h1.len rfl h1.ones λ_ R7=>Sa rfl λ_ L42=>sn<|wp_ret<|Zt<|rt L42 (Res.aggW rfl Qy Yw (R7.has<|List.Mem.head _) h1.len<|.tmp rfl Res.nil) ?_;obtain⟨her,hvl⟩:=Zcw (l:=bl s) (by unfold Zew;rw[<-hsz,<-hdn];first|exact Or.inl (by assumption)|exact Or.inr (Or.inl (by assumption))|exact Or.inr<|Or.inr ⟨hmi.1 (by assumption),str48.1 (by assumption)⟩);exact⟨_,_,rfl,R7.ext,⟨_,(by rw[her];rfl),(h1.toR (by rw[hvl]) (by exact Xc _))⟩⟩;refine sN L35 rfl<|cF t6 (Xa rfl rfl)<|Sn rfl<|Ze rfl rfl<|So rfl<|Ze rfl rfl<|kP [2,3,6,5,7,8,42] rfl<|SF rfl λ_ L46=>wp_skip<|Zc<|wp_seq ?_;have hnb:¬Zew (bl s):=by(unfold Zew;rw[<-hsz,<-hdn];first|exact λq=>q.elim (λq=>q (by assumption)) (λq=>q.elim (λq=>q (by assumption)) (λq=>absurd (hmi.2 q.1) (by assumption)))|exact λq=>q.elim (λq=>q (by assumption)) (λq=>q.elim (λq=>q (by assumption)) (λq=>absurd (str48.2 q.2) (by assumption))))
 refine Za<|sm L46 rfl<|So rfl<|Zi rfl ent_97 (Zc7 R6.holds (s:=sz) (by omega)) λv_5 _ _ x5 v5=>?_;have R8:=R6.call x5;rcases v5 with⟨t7,c1,rfl,h2⟩|⟨t8,c2,rfl,h3⟩|⟨t9,c3,rfl,h4⟩;exact absurd t7<|not_not_intro t2;intro _ L48;refine sm L48 rfl<|So rfl<|Zj rfl rfl<|So rfl<|Zj rfl rfl<|So rfl<|ZK (cs:=zN1) ZZ R8 rfl λb2 _ R9=>Sz rfl<|Zm rfl rfl R9 Zp h3.len rfl h3.ones λ_ R10=>Sa rfl<|kP [2,3,6,5,8,9,10] rfl<|SW<|Sm rfl<|So rfl<|Zi rfl ent_97 (Zc7 R10.holds (s:=dn) (by omega)) λv_6 S7 _ x6 v6=>?_;have R11:=R10.call x6;rcases v6 with⟨t10,c4,rfl,h5⟩|⟨t11,c5,rfl,h6⟩|⟨t12,c6,rfl,h7⟩;exact absurd t10<|not_not_intro t4;intro _ L57;refine sm L57 rfl<|So rfl<|Zj rfl rfl<|So rfl<|Zj rfl rfl<|So rfl<|ZK (cs:=zN1) ZZ R11 rfl λb3 _ R12=>Sz rfl<|Zm rfl rfl R12 Zp h6.len rfl h6.ones λ_ R13=>Sa rfl<|kP [2,3,6,8,9,10,11,12] rfl<|SVv<|Sm rfl<|So rfl<|cB (b:=true) (by decide) (Yn rfl rfl)<|Sm rfl<|Sf rfl<|Sf rfl<|So rfl<|Ze rfl rfl<|kP [2,3,6,8,9,11,59] rfl<|ST rfl λ_ L71=>wp_seq<|Za ?_;have h8:Fs S7 zF1 [0] (0):=Fs.zero _ _;refine sO L71 rfl<|ZH (cs:=zF1) XR Za1 .nil (by rfl)<|Sz rfl<|Zm rfl rfl (XO R13) Yw h8.len rfl h8.ones λ_ R14=>Sa rfl λ_ L74=>sn<|wp_ret<|Zt<|rt L74 (Res.aggW rfl Qy Yw (R14.has<|List.Mem.head _) h8.len<|.tmp rfl Res.nil) ?_;obtain⟨her,hvl⟩:=Za5 hnb (by unfold QA;rw[<-hsz,<-hdn];omega);exact⟨_,_,rfl,R14.ext,⟨_,(by rw[her];rfl),(h8.toR (by rw[hvl]) (by exact Xc _))⟩⟩;intro _ L75;refine sm L75 rfl<|So rfl<|Zj rfl rfl<|So rfl<|Zj rfl rfl<|So rfl<|ZK (cs:=zN1) ZZ R11 rfl λb4 _ R15=>Sz rfl<|Zm rfl rfl R15 Zp h7.len rfl h7.ones λ_ R16=>Sa rfl<|kP [2,3,6,8,9,10,11,12] rfl<|SVv<|Sm rfl<|So rfl<|cB (b:=true) (by decide) (Yn rfl rfl)<|Sm rfl<|Sf rfl<|Sf rfl<|So rfl<|Ze rfl rfl<|kP [2,3,6,8,9,11,59] rfl<|ST rfl λ_ L89=>wp_seq<|Za ?_;have h9:Fs S7 zF1 [0] (0):=Fs.zero _ _;refine sO L89 rfl<|ZH (cs:=zF1) XR Za1 .nil (by rfl)<|Sz rfl<|Zm rfl rfl (XO R16) Yw h9.len rfl h9.ones λ_ R17=>Sa rfl λ_ L92=>sn<|wp_ret<|Zt<|rt L92 (Res.aggW rfl Qy Yw (R17.has<|List.Mem.head _) h9.len<|.tmp rfl Res.nil) ?_;obtain⟨her,hvl⟩:=Za5 hnb (by unfold QA;rw[<-hsz,<-hdn];omega);exact⟨_,_,rfl,R17.ext,⟨_,(by rw[her];rfl),(h9.toR (by rw[hvl]) (by exact Xc _))⟩⟩;intro _ L93;refine sm L93 rfl<|So rfl<|Zj rfl rfl<|So rfl<|Zj rfl rfl<|So rfl<|ZK (cs:=zN1) ZZ R8 rfl λb5 _ R18=>Sz rfl<|Zm rfl rfl R18 Zp h4.len rfl h4.ones λ_ R19=>Sa rfl<|kP [2,3,6,5,8,9,10] rfl<|SW<|Sm rfl<|So rfl<|Zi rfl ent_97 (Zc7 R19.holds (s:=dn) (by omega)) λv_7 S8 _ x7 v7=>?_;have R20:=R19.call x7;have l8:=x7.le;rcases v7 with⟨t13,c7,rfl,h10⟩|⟨t14,c8,rfl,h11⟩|⟨t15,c9,rfl,h12⟩;exact absurd t13<|not_not_intro t4;intro _ L102;refine sm L102 rfl<|So rfl<|Zj rfl rfl<|So rfl<|Zj rfl rfl<|So rfl<|ZK (cs:=zN1) ZZ R20 rfl λb6 _ R21=>Sz rfl<|Zm rfl rfl R21 Zp h11.len rfl h11.ones λ_ R22=>Sa rfl<|kP [2,3,6,8,9,10,11,12] rfl<|SVv<|Sm rfl<|So rfl<|cB (b:=false) (by decide) (Yn rfl rfl)<|Sm rfl<|Sn rfl<|Zd rfl<|Sn rfl<|cB (b:=true) (by decide) (Yn rfl rfl)<|So rfl<|Ze rfl rfl<|kP [2,3,6,8,9,11,59] rfl<|ST rfl λ_ L116=>wp_seq<|Za ?_;have h13:Fs S8 zF1 [0] (0):=Fs.zero _ _;refine sO L116 rfl<|ZH (cs:=zF1) XR Za1 .nil (by rfl)<|Sz rfl<|Zm rfl rfl (XO R22) Yw h13.len rfl h13.ones λ_ R23=>Sa rfl λ_ L119=>sn<|wp_ret<|Zt<|rt L119 (Res.aggW rfl Qy Yw (R23.has<|List.Mem.head _) h13.len<|.tmp rfl Res.nil) ?_;obtain⟨her,hvl⟩:=Za5 hnb (by unfold QA;rw[<-hsz,<-hdn];omega);exact⟨_,_,rfl,R23.ext,⟨_,(by rw[her];rfl),(h13.toR (by rw[hvl]) (by exact Xc _))⟩⟩;intro _ L120;refine sm L120 rfl<|So rfl<|Zj rfl rfl<|So rfl<|Zj rfl rfl<|So rfl<|ZK (cs:=zN1) ZZ R20 rfl λb7 _ R24=>Sz rfl<|Zm rfl rfl R24 Zp h12.len rfl h12.ones λ_ R25=>Sa rfl<|kP [2,3,6,8,9,10,11,12] rfl<|SVv<|Sm rfl<|So rfl<|cB (b:=false) (by decide) (Yn rfl rfl)<|Sm rfl<|Sn rfl<|Zd rfl<|Sn rfl<|cB (b:=false) (by decide) (Yn rfl rfl)<|So rfl<|Ze rfl rfl<|kP [2,3,6,8,9,11,59] rfl<|SF rfl λ_ L134=>wp_skip<|Zc<|wp_seq<|wp_seq ?_;by_cases t16:Zev (bl s)=true;have L135:=L134;rw[decide_eq_true t16] at L135;have hnl:¬QA (bl s):=by(unfold QA;rw[<-hsz,<-hdn];omega)
 refine Za<|sm L135 rfl<|Sm rfl<|Sn rfl<|ZA rfl ZM Zp (R25.has<|List.Mem.head _) h12.len<|Sn rfl<|Zi rfl Zgk (YU R25.holds h12) λv_8 S9 _ x8 v8=>?_;have R26:=R25.call x8;have l9:=x8.le;obtain rfl:=v8;intro _ L139;by_cases t17:((ZC (Xw<|bl dn):Nat):Int)<(2:Int);refine sN L139 rfl<|cT t17 (Zs rfl rfl)<|Sn rfl<|Zd rfl<|Sf rfl<|Sf rfl<|Sf rfl<|Sf rfl<|Sf rfl<|Sn rfl<|Ze rfl rfl<|So rfl<|Ze rfl rfl<|kP [2,3,8,9,11,73] rfl<|ST rfl λ_ L149=>wp_seq<|Za ?_;have h14:Fs S9 zF1 [0] (0):=Fs.zero _ _;refine sO L149 rfl<|ZH (cs:=zF1) XR Za1 .nil (by rfl)<|Sz rfl<|Zm rfl rfl (XO R26) Yw h14.len rfl h14.ones λ_ R27=>Sa rfl λ_ L152=>sn<|wp_ret<|Zt<|rt L152 (Res.aggW rfl Qy Yw (R27.has<|List.Mem.head _) h14.len<|.tmp rfl Res.nil) ?_;obtain⟨her,hvl⟩:=Zd8 hnb hnl (by unfold fred;rw[<-hsz,<-hdn];exact⟨by assumption,by omega⟩);exact⟨_,_,rfl,R27.ext,⟨_,(by rw[her];rfl),(h14.toR (by rw[hvl]) (by exact Xc _))⟩⟩;refine sN L139 rfl<|cF t17 (Zs rfl rfl)<|Sn rfl<|Zd rfl<|Sn rfl<|ZA rfl ZM Zp (R26.has<|List.Mem.tail _<|List.Mem.head _) h4.len<|Sn rfl<|ZA rfl ZM Zp (R26.has<|List.Mem.head _) h12.len<|Sn rfl<|Zi rfl ent_79 (nat_Gcd R26.holds (h4.up<|l8.trans l9) (h12.up l9) (by omega)) λv_9 _ _ x9 v9=>?_;have R28:=R26.call x9;have l10:=x9.le;obtain⟨c10,rfl,h15⟩:=v9;intro _ L157;refine sN L157 rfl<|Zi rfl Zgk (YU R28.holds h15) λv_10 S11 _ x10 v10=>?_;have R29:=R28.call x10;have l11:=x10.le;obtain rfl:=v10;intro _ L158;by_cases t18:¬((ZC (Nat.gcd (Xw<|bl sz)<|Xw<|bl dn):Nat):Int)=(1:Int);refine sN L158 rfl<|cT t18 (Yn rfl rfl)<|Sn rfl<|Ze rfl rfl<|So rfl<|Ze rfl rfl<|kP [2,3,8,9,11,73] rfl<|ST rfl λ_ L162=>wp_seq<|Za ?_;have h16:Fs S11 zF1 [0] (0):=Fs.zero _ _;refine sO L162 rfl<|ZH (cs:=zF1) XR Za1 .nil (by rfl)<|Sz rfl<|Zm rfl rfl (XO R29) Yw h16.len rfl h16.ones λ_ R30=>Sa rfl λ_ L165=>sn<|wp_ret<|Zt<|rt L165 (Res.aggW rfl Qy Yw (R30.has<|List.Mem.head _) h16.len<|.tmp rfl Res.nil) ?_;obtain⟨her,hvl⟩:=Zd8 hnb hnl (by unfold fred;rw[<-hsz,<-hdn];exact⟨by assumption,by omega⟩);exact⟨_,_,rfl,R30.ext,⟨_,(by rw[her];rfl),(h16.toR (by rw[hvl]) (by exact Xc _))⟩⟩;refine sN L158 rfl<|cF t18 (Yn rfl rfl)<|Sn rfl<|Ze rfl rfl<|So rfl<|Ze rfl rfl<|kP [2,3,8,9,11,73] rfl<|SF rfl λ_ L169=>wp_skip<|Zc<|wp_seq ?_;have hnr:¬fred (bl s):=by(unfold fred;rw[<-hsz,<-hdn];intro q;first|exact absurd q.1 (by assumption)|exact q.2.elim (λq=>by omega) (λq=>by omega))
 have hdp:0<Xw (bl dn):=by rw[hdn];exact Nat.pos_of_ne_zero (Zf7 hnb hnr)
 have hmn:=@Zfh s nm sz hnm hsz;have L170:=(L169.kp [2,3,8,9,11] rfl);refine Zw (E0:=[]) (H0:=[(b7,32,c9),(b5,32,c3),(b1,36,zF1)]) (n:=80) mixed 4 [] (λk=>0) (Zcn [.is (.bool true),.is (.agg (c3:List Value).toArray),(kvIn (sI true<|Xw<|bl sz) 900),.is (.agg (c9:List Value).toArray)]) L170 R29 (by simp) (by simp) (by rfl) (by rfl) (by simp) (ZU ?_) ?_;refine(Al ?_ ?_ ?_ ?_ trivial);exact dm [] rfl;exact dK [] rfl λA=>ZA rfl ZM Zp (A.run.has<|List.mem_append_right _<|List.Mem.tail _<|List.Mem.head _) h4.len<|A.same rfl;exact dK [0,1] rfl λA=>Zi rfl Zhu (XG A.run.holds (mi:=true)<|h4.up<|l8.trans<|l9.trans<|l10.trans<|l11.trans A.le) λv_11 _ _ x11 v11=>(A.post x11.le (A.run.call x11) v11);exact dK [] rfl λA=>ZA rfl ZM Zp (A.run.has<|List.mem_append_right _<|List.Mem.head _) h12.len<|A.same rfl;intro S17 _ _ w36 l13 E1 R32 n1 L175 K1;obtain⟨_,e3,c11,rfl,h17⟩:=K1 2 (by decide);have L176:=L175.add e3;clear L175;have L177:=L176.dr K1 [3] rfl;have R33:Run _ _ S17 [(b7,32,c9),(b5,32,c3),(b1,36,zF1)] w36:=Yb R32 n1 [] (by simp) (by simp);refine sO L177 rfl<|Zi rfl ent_99 (Zde R33.holds h17 (h12.up<|l9.trans<|l10.trans<|l11.trans l13) hdp (by omega)) λv_12 _ _ x12 v12=>?_;have R34:=R33.call x12;obtain⟨c12,rfl,h18⟩:=v12;intro _ L178;refine sZ L178 rfl<|Zm rfl rfl (XO R34) Yw h18.len rfl h18.ones λ_ R35=>Sa rfl λ_ L180=>sn<|wp_ret<|rt (L180.kp [2,3] rfl) (Res.aggW rfl Qy Yw (R35.has<|List.Mem.head _) h18.len<|.tmp rfl Res.nil) ?_;obtain⟨her,hvl⟩:=ferr_ok hnb hnl hnr;exact⟨_,_,rfl,R35.ext,⟨_,(by rw[her];rfl),(h18.toR (by rw[hvl,<-hsz,<-hdn];first|rw[show Zdq (bl s)=true from hmi.1 (by assumption)]|rw[show Zdq (bl s)=false from(by cases q:Zdq (bl s);rfl;exact absurd (hmi.2 q) (by assumption))]) (by exact Xc _))⟩⟩;have L182:=L134;rw[decide_eq_false t16] at L182;have hnl:¬QA (bl s):=by(unfold QA;rw[<-hsz,<-hdn];omega)
 refine Za<|sm L182 rfl<|Sm rfl<|Sf rfl<|Sf rfl<|Sf rfl<|Sf rfl λ_ L188=>ZY L188 rfl rfl rfl rfl rfl λ_ L189=>ZY L189 rfl rfl rfl rfl rfl λ_ L190=>ZY L190 rfl rfl rfl rfl rfl λ_ L191=>ZY L191 rfl rfl rfl rfl rfl λ_ L192=>ZY L192 rfl rfl rfl rfl rfl<|Sf rfl<|So rfl<|Ze rfl rfl<|kP [2,3,8,9,11,73] rfl<|SF rfl λ_ L196=>wp_skip<|Zc<|wp_seq ?_;have hnr:¬fred (bl s):=by(unfold fred;rw[<-hsz,<-hdn];intro q;first|exact absurd q.1 (by assumption)|exact q.2.elim (λq=>by omega) (λq=>by omega))
 have hdp:0<Xw (bl dn):=by rw[hdn];exact Nat.pos_of_ne_zero (Zf7 hnb hnr)
 have hmn:=@Zfh s nm sz hnm hsz;have L197:=(L196.kp [2,3,8,9,11] rfl);refine Zw (E0:=[]) (H0:=[(b7,32,c9),(b5,32,c3),(b1,36,zF1)]) (n:=80) mixed 4 [] (λk=>0) (Zcn [.is (.bool true),.is (.agg (c3:List Value).toArray),(kvIn (sI true<|Xw<|bl sz) 900),.is (.agg (c9:List Value).toArray)]) L197 R25 (by simp) (by simp) (by rfl) (by rfl) (by simp) (ZU ?_) ?_;refine(Al ?_ ?_ ?_ ?_ trivial);exact dm [] rfl;exact dK [] rfl λA=>ZA rfl ZM Zp (A.run.has<|List.mem_append_right _<|List.Mem.tail _<|List.Mem.head _) h4.len<|A.same rfl;exact dK [0,1] rfl λA=>Zi rfl Zhu (XG A.run.holds (mi:=true)<|h4.up<|l8.trans A.le) λv_13 _ _ x13 v13=>(A.post x13.le (A.run.call x13) v13);exact dK [] rfl λA=>ZA rfl ZM Zp (A.run.has<|List.mem_append_right _<|List.Mem.head _) h12.len<|A.same rfl;intro S24 _ _ w44 l16 E2 R37 n2 L202 K2;obtain⟨_,e7,c13,rfl,h19⟩:=K2 2 (by decide);have L203:=L202.add e7;clear L202;have L204:=L203.dr K2 [3] rfl;have R38:Run _ _ S24 [(b7,32,c9),(b5,32,c3),(b1,36,zF1)] w44:=Yb R37 n2 [] (by simp) (by simp);refine sO L204 rfl<|Zi rfl ent_99 (Zde R38.holds h19 (h12.up l16) hdp (by omega)) λv_14 _ _ x14 v14=>?_;have R39:=R38.call x14;obtain⟨c14,rfl,h20⟩:=v14;intro _ L205;refine sZ L205 rfl<|Zm rfl rfl (XO R39) Yw h20.len rfl h20.ones λ_ R40=>Sa rfl λ_ L207=>sn<|wp_ret<|rt (L207.kp [2,3] rfl) (Res.aggW rfl Qy Yw (R40.has<|List.Mem.head _) h20.len<|.tmp rfl Res.nil) ?_;obtain⟨her,hvl⟩:=ferr_ok hnb hnl hnr;exact⟨_,_,rfl,R40.ext,⟨_,(by rw[her];rfl),(h20.toR (by rw[hvl,<-hsz,<-hdn];first|rw[show Zdq (bl s)=true from hmi.1 (by assumption)]|rw[show Zdq (bl s)=false from(by cases q:Zdq (bl s);rfl;exact absurd (hmi.2 q) (by assumption))]) (by exact Xc _))⟩⟩;intro _ L209;refine sN L209 rfl<|YM rfl rfl<|So rfl<|Ze rfl rfl<|Sm rfl<|Sf rfl<|Sf rfl λ_ L214=>ZY L214 rfl rfl rfl rfl rfl λ_ L215=>ZY L215 rfl rfl rfl rfl rfl<|Sf rfl<|So rfl<|Ze rfl rfl<|kP [2,3,6,5,7,8,42] rfl<|ST rfl λ_ L219=>wp_seq<|Za ?_;have h21:Fs S5 zF1 [0] (0):=Fs.zero _ _;refine sO L219 rfl<|ZH (cs:=zF1) XR Za1 .nil (by rfl)<|Sz rfl<|Zm rfl rfl R6 Yw h21.len rfl h21.ones λ_ R41=>Sa rfl λ_ L222=>sn<|wp_ret<|Zt<|rt L222 (Res.aggW rfl Qy Yw (R41.has<|List.Mem.head _) h21.len<|.tmp rfl Res.nil) ?_;obtain⟨her,hvl⟩:=Zcw (l:=bl s) (by unfold Zew;rw[<-hsz,<-hdn];first|exact Or.inl (by assumption)|exact Or.inr (Or.inl (by assumption))|exact Or.inr<|Or.inr ⟨hmi.1 (by assumption),str48.1 (by assumption)⟩);exact⟨_,_,rfl,R41.ext,⟨_,(by rw[her];rfl),(h21.toR (by rw[hvl]) (by exact Xc _))⟩⟩;intro _ L223;refine sO L223 rfl<|YM rfl rfl<|Sm rfl<|Sf rfl<|Sf rfl<|Sf rfl<|So rfl<|Ze rfl rfl<|Sm rfl<|Sf rfl<|Sf rfl λ_ L232=>ZY L232 rfl rfl rfl rfl rfl λ_ L233=>ZY L233 rfl rfl rfl rfl rfl<|Sf rfl<|So rfl<|Ze rfl rfl<|kP [2,3,6,5,7,8,42] rfl<|ST rfl λ_ L237=>wp_seq<|Za ?_;have h22:Fs S4 zF1 [0] (0):=Fs.zero _ _;refine sO L237 rfl<|ZH (cs:=zF1) XR Za1 .nil (by rfl)<|Sz rfl<|Zm rfl rfl R5 Yw h22.len rfl h22.ones λ_ R42=>Sa rfl λ_ L240=>sn<|wp_ret<|Zt<|rt L240 (Res.aggW rfl Qy Yw (R42.has<|List.Mem.head _) h22.len<|.tmp rfl Res.nil) ?_;obtain⟨her,hvl⟩:=Zcw (l:=bl s) (by unfold Zew;rw[<-hsz,<-hdn];first|exact Or.inl (by assumption)|exact Or.inr (Or.inl (by assumption))|exact Or.inr<|Or.inr ⟨hmi.1 (by assumption),str48.1 (by assumption)⟩);exact⟨_,_,rfl,R42.ext,⟨_,(by rw[her];rfl),(h22.toR (by rw[hvl]) (by exact Xc _))⟩⟩;refine sO L20 rfl<|cF t1 (Zs rfl rfl)<|Sa rfl<|kP [2,3,6,5,7,8] rfl<|SVv<|Sm rfl<|So rfl<|Zi rfl ent_96 (Zd5 R4.holds (s:=sz) (by omega)) λv_15 S26 _ x15 v15=>?_;have R43:=R4.call x15;rcases v15 with⟨t19,rfl⟩|⟨t20,rfl⟩;intro _ L245;refine sO L245 rfl<|YM rfl rfl<|Sm rfl<|Sn rfl<|Zd rfl<|Sn rfl<|Zi rfl ent_96 (Zd5 R43.holds (s:=dn) (by omega)) λv_16 S27 _ x16 v16=>?_;have R44:=R43.call x16;rcases v16 with⟨t21,rfl⟩|⟨t22,rfl⟩;intro _ L249;refine sN L249 rfl<|YM rfl rfl<|So rfl<|Ze rfl rfl<|Sm rfl<|Sn rfl<|Zd rfl<|Sn rfl<|Zd rfl<|Sf rfl<|Sf rfl<|Sn rfl<|Ze rfl rfl<|So rfl<|Ze rfl rfl<|kP [2,3,6,5,7,8,42] rfl<|SF rfl λ_ L259=>wp_skip<|Zc<|wp_seq ?_;have hnb:¬Zew (bl s):=by(unfold Zew;rw[<-hsz,<-hdn];first|exact λq=>q.elim (λq=>q (by assumption)) (λq=>q.elim (λq=>q (by assumption)) (λq=>absurd (hmi.2 q.1) (by assumption)))|exact λq=>q.elim (λq=>q (by assumption)) (λq=>q.elim (λq=>q (by assumption)) (λq=>absurd (str48.2 q.2) (by assumption))))
 refine Za<|sm L259 rfl<|So rfl<|Zi rfl ent_97 (Zc7 R44.holds (s:=sz) (by omega)) λv_17 _ _ x17 v17=>?_;have R45:=R44.call x17;rcases v17 with⟨t23,c15,rfl,h23⟩|⟨t24,c16,rfl,h24⟩|⟨t25,c17,rfl,h25⟩;exact absurd t23<|not_not_intro t19;intro _ L261;refine sm L261 rfl<|So rfl<|Zj rfl rfl<|So rfl<|Zj rfl rfl<|So rfl<|ZK (cs:=zN1) ZZ R45 rfl λb8 _ R46=>Sz rfl<|Zm rfl rfl R46 Zp h24.len rfl h24.ones λ_ R47=>Sa rfl<|kP [2,3,6,5,8,9,10] rfl<|SW<|Sm rfl<|So rfl<|Zi rfl ent_97 (Zc7 R47.holds (s:=dn) (by omega)) λv_18 S29 _ x18 v18=>?_;have R48:=R47.call x18;rcases v18 with⟨t26,c18,rfl,h26⟩|⟨t27,c19,rfl,h27⟩|⟨t28,c20,rfl,h28⟩;exact absurd t26<|not_not_intro t21;intro _ L270;refine sm L270 rfl<|So rfl<|Zj rfl rfl<|So rfl<|Zj rfl rfl<|So rfl<|ZK (cs:=zN1) ZZ R48 rfl λb9 _ R49=>Sz rfl<|Zm rfl rfl R49 Zp h27.len rfl h27.ones λ_ R50=>Sa rfl<|kP [2,3,6,8,9,10,11,12] rfl<|SVv<|Sm rfl<|So rfl<|cB (b:=true) (by decide) (Yn rfl rfl)<|Sm rfl<|Sf rfl<|Sf rfl<|So rfl<|Ze rfl rfl<|kP [2,3,6,8,9,11,59] rfl<|ST rfl λ_ L284=>wp_seq<|Za ?_;have h29:Fs S29 zF1 [0] (0):=Fs.zero _ _;refine sO L284 rfl<|ZH (cs:=zF1) XR Za1 .nil (by rfl)<|Sz rfl<|Zm rfl rfl (XO R50) Yw h29.len rfl h29.ones λ_ R51=>Sa rfl λ_ L287=>sn<|wp_ret<|Zt<|rt L287 (Res.aggW rfl Qy Yw (R51.has<|List.Mem.head _) h29.len<|.tmp rfl Res.nil) ?_;obtain⟨her,hvl⟩:=Za5 hnb (by unfold QA;rw[<-hsz,<-hdn];omega);exact⟨_,_,rfl,R51.ext,⟨_,(by rw[her];rfl),(h29.toR (by rw[hvl]) (by exact Xc _))⟩⟩;intro _ L288;refine sm L288 rfl<|So rfl<|Zj rfl rfl<|So rfl<|Zj rfl rfl<|So rfl<|ZK (cs:=zN1) ZZ R48 rfl λb10 _ R52=>Sz rfl<|Zm rfl rfl R52 Zp h28.len rfl h28.ones λ_ R53=>Sa rfl<|kP [2,3,6,8,9,10,11,12] rfl<|SVv<|Sm rfl<|So rfl<|cB (b:=true) (by decide) (Yn rfl rfl)<|Sm rfl<|Sf rfl<|Sf rfl<|So rfl<|Ze rfl rfl<|kP [2,3,6,8,9,11,59] rfl<|ST rfl λ_ L302=>wp_seq<|Za ?_;have h30:Fs S29 zF1 [0] (0):=Fs.zero _ _;refine sO L302 rfl<|ZH (cs:=zF1) XR Za1 .nil (by rfl)<|Sz rfl<|Zm rfl rfl (XO R53) Yw h30.len rfl h30.ones λ_ R54=>Sa rfl λ_ L305=>sn<|wp_ret<|Zt<|rt L305 (Res.aggW rfl Qy Yw (R54.has<|List.Mem.head _) h30.len<|.tmp rfl Res.nil) ?_;obtain⟨her,hvl⟩:=Za5 hnb (by unfold QA;rw[<-hsz,<-hdn];omega);exact⟨_,_,rfl,R54.ext,⟨_,(by rw[her];rfl),(h30.toR (by rw[hvl]) (by exact Xc _))⟩⟩;intro _ L306;refine sm L306 rfl<|So rfl<|Zj rfl rfl<|So rfl<|Zj rfl rfl<|So rfl<|ZK (cs:=zN1) ZZ R45 rfl λb11 _ R55=>Sz rfl<|Zm rfl rfl R55 Zp h25.len rfl h25.ones λ_ R56=>Sa rfl<|kP [2,3,6,5,8,9,10] rfl<|SW<|Sm rfl<|So rfl<|Zi rfl ent_97 (Zc7 R56.holds (s:=dn) (by omega)) λv_19 S30 _ x19 v19=>?_;have R57:=R56.call x19;have l22:=x19.le;rcases v19 with⟨t29,c21,rfl,h31⟩|⟨t30,c22,rfl,h32⟩|⟨t31,c23,rfl,h33⟩;exact absurd t29<|not_not_intro t21;intro _ L315;refine sm L315 rfl<|So rfl<|Zj rfl rfl<|So rfl<|Zj rfl rfl<|So rfl<|ZK (cs:=zN1) ZZ R57 rfl λb12 _ R58=>Sz rfl<|Zm rfl rfl R58 Zp h32.len rfl h32.ones λ_ R59=>Sa rfl<|kP [2,3,6,8,9,10,11,12] rfl<|SVv<|Sm rfl<|So rfl<|cB (b:=false) (by decide) (Yn rfl rfl)<|Sm rfl<|Sn rfl<|Zd rfl<|Sn rfl<|cB (b:=true) (by decide) (Yn rfl rfl)<|So rfl<|Ze rfl rfl<|kP [2,3,6,8,9,11,59] rfl<|ST rfl λ_ L329=>wp_seq<|Za ?_;have h34:Fs S30 zF1 [0] (0):=Fs.zero _ _;refine sO L329 rfl<|ZH (cs:=zF1) XR Za1 .nil (by rfl)<|Sz rfl<|Zm rfl rfl (XO R59) Yw h34.len rfl h34.ones λ_ R60=>Sa rfl λ_ L332=>sn<|wp_ret<|Zt<|rt L332 (Res.aggW rfl Qy Yw (R60.has<|List.Mem.head _) h34.len<|.tmp rfl Res.nil) ?_;obtain⟨her,hvl⟩:=Za5 hnb (by unfold QA;rw[<-hsz,<-hdn];omega);exact⟨_,_,rfl,R60.ext,⟨_,(by rw[her];rfl),(h34.toR (by rw[hvl]) (by exact Xc _))⟩⟩;intro _ L333;refine sm L333 rfl<|So rfl<|Zj rfl rfl<|So rfl<|Zj rfl rfl<|So rfl<|ZK (cs:=zN1) ZZ R57 rfl λb13 _ R61=>Sz rfl<|Zm rfl rfl R61 Zp h33.len rfl h33.ones λ_ R62=>Sa rfl<|kP [2,3,6,8,9,10,11,12] rfl<|SVv<|Sm rfl<|So rfl<|cB (b:=false) (by decide) (Yn rfl rfl)<|Sm rfl<|Sn rfl<|Zd rfl<|Sn rfl<|cB (b:=false) (by decide) (Yn rfl rfl)<|So rfl<|Ze rfl rfl<|kP [2,3,6,8,9,11,59] rfl<|SF rfl λ_ L347=>wp_skip<|Zc<|wp_seq<|wp_seq ?_;by_cases t32:Zev (bl s)=true;have L348:=L347;rw[decide_eq_true t32] at L348;have hnl:¬QA (bl s):=by(unfold QA;rw[<-hsz,<-hdn];omega)
 refine Za<|sm L348 rfl<|Sm rfl<|Sn rfl<|ZA rfl ZM Zp (R62.has<|List.Mem.head _) h33.len<|Sn rfl<|Zi rfl Zgk (YU R62.holds h33) λv_20 S31 _ x20 v20=>?_;have R63:=R62.call x20;have l23:=x20.le;obtain rfl:=v20;intro _ L352;by_cases t33:((ZC (Xw<|bl dn):Nat):Int)<(2:Int);refine sN L352 rfl<|cT t33 (Zs rfl rfl)<|Sn rfl<|Zd rfl<|Sf rfl<|Sf rfl<|Sf rfl<|Sf rfl<|Sf rfl<|Sn rfl<|Ze rfl rfl<|So rfl<|Ze rfl rfl<|kP [2,3,8,9,11,73] rfl<|ST rfl λ_ L362=>wp_seq<|Za ?_;have h35:Fs S31 zF1 [0] (0):=Fs.zero _ _;refine sO L362 rfl<|ZH (cs:=zF1) XR Za1 .nil (by rfl)<|Sz rfl<|Zm rfl rfl (XO R63) Yw h35.len rfl h35.ones λ_ R64=>Sa rfl λ_ L365=>sn<|wp_ret<|Zt<|rt L365 (Res.aggW rfl Qy Yw (R64.has<|List.Mem.head _) h35.len<|.tmp rfl Res.nil) ?_;obtain⟨her,hvl⟩:=Zd8 hnb hnl (by unfold fred;rw[<-hsz,<-hdn];exact⟨by assumption,by omega⟩);exact⟨_,_,rfl,R64.ext,⟨_,(by rw[her];rfl),(h35.toR (by rw[hvl]) (by exact Xc _))⟩⟩;refine sN L352 rfl<|cF t33 (Zs rfl rfl)<|Sn rfl<|Zd rfl<|Sn rfl<|ZA rfl ZM Zp (R63.has<|List.Mem.tail _<|List.Mem.head _) h25.len<|Sn rfl<|ZA rfl ZM Zp (R63.has<|List.Mem.head _) h33.len<|Sn rfl<|Zi rfl ent_79 (nat_Gcd R63.holds (h25.up<|l22.trans l23) (h33.up l23) (by omega)) λv_21 _ _ x21 v21=>?_;have R65:=R63.call x21;have l24:=x21.le;obtain⟨c24,rfl,h36⟩:=v21;intro _ L370;refine sN L370 rfl<|Zi rfl Zgk (YU R65.holds h36) λv_22 S33 _ x22 v22=>?_;have R66:=R65.call x22;have l25:=x22.le;obtain rfl:=v22;intro _ L371;by_cases t34:¬((ZC (Nat.gcd (Xw<|bl sz)<|Xw<|bl dn):Nat):Int)=(1:Int);refine sN L371 rfl<|cT t34 (Yn rfl rfl)<|Sn rfl<|Ze rfl rfl<|So rfl<|Ze rfl rfl<|kP [2,3,8,9,11,73] rfl<|ST rfl λ_ L375=>wp_seq<|Za ?_;have h37:Fs S33 zF1 [0] (0):=Fs.zero _ _;refine sO L375 rfl<|ZH (cs:=zF1) XR Za1 .nil (by rfl)<|Sz rfl<|Zm rfl rfl (XO R66) Yw h37.len rfl h37.ones λ_ R67=>Sa rfl λ_ L378=>sn<|wp_ret<|Zt<|rt L378 (Res.aggW rfl Qy Yw (R67.has<|List.Mem.head _) h37.len<|.tmp rfl Res.nil) ?_;obtain⟨her,hvl⟩:=Zd8 hnb hnl (by unfold fred;rw[<-hsz,<-hdn];exact⟨by assumption,by omega⟩);exact⟨_,_,rfl,R67.ext,⟨_,(by rw[her];rfl),(h37.toR (by rw[hvl]) (by exact Xc _))⟩⟩;refine sN L371 rfl<|cF t34 (Yn rfl rfl)<|Sn rfl<|Ze rfl rfl<|So rfl<|Ze rfl rfl<|kP [2,3,8,9,11,73] rfl<|SF rfl λ_ L382=>wp_skip<|Zc<|wp_seq ?_;have hnr:¬fred (bl s):=by(unfold fred;rw[<-hsz,<-hdn];intro q;first|exact absurd q.1 (by assumption)|exact q.2.elim (λq=>by omega) (λq=>by omega))
 have hdp:0<Xw (bl dn):=by rw[hdn];exact Nat.pos_of_ne_zero (Zf7 hnb hnr)
 have hmn:=@Zfh s nm sz hnm hsz;have L383:=(L382.kp [2,3,8,9,11] rfl);refine Zw (E0:=[]) (H0:=[(b13,32,c23),(b11,32,c17),(b1,36,zF1)]) (n:=80) mixed 4 [] (λk=>0) (Zcn [.is (.bool false),.is (.agg (c17:List Value).toArray),(kvIn (sI false<|Xw<|bl sz) 900),.is (.agg (c23:List Value).toArray)]) L383 R66 (by simp) (by simp) (by rfl) (by rfl) (by simp) (ZU ?_) ?_;refine(Al ?_ ?_ ?_ ?_ trivial);exact dm [] rfl;exact dK [] rfl λA=>ZA rfl ZM Zp (A.run.has<|List.mem_append_right _<|List.Mem.tail _<|List.Mem.head _) h25.len<|A.same rfl;exact dK [0,1] rfl λA=>Zi rfl Zhu (XG A.run.holds (mi:=false)<|h25.up<|l22.trans<|l23.trans<|l24.trans<|l25.trans A.le) λv_23 _ _ x23 v23=>(A.post x23.le (A.run.call x23) v23);exact dK [] rfl λA=>ZA rfl ZM Zp (A.run.has<|List.mem_append_right _<|List.Mem.head _) h33.len<|A.same rfl;intro S39 _ _ w79 l27 E3 R69 n3 L388 K3;obtain⟨_,e11,c25,rfl,h38⟩:=K3 2 (by decide);have L389:=L388.add e11;clear L388;have L390:=L389.dr K3 [3] rfl;have R70:Run _ _ S39 [(b13,32,c23),(b11,32,c17),(b1,36,zF1)] w79:=Yb R69 n3 [] (by simp) (by simp);refine sO L390 rfl<|Zi rfl ent_99 (Zde R70.holds h38 (h33.up<|l23.trans<|l24.trans<|l25.trans l27) hdp (by omega)) λv_24 _ _ x24 v24=>?_;have R71:=R70.call x24;obtain⟨c26,rfl,h39⟩:=v24;intro _ L391;refine sZ L391 rfl<|Zm rfl rfl (XO R71) Yw h39.len rfl h39.ones λ_ R72=>Sa rfl λ_ L393=>sn<|wp_ret<|rt (L393.kp [2,3] rfl) (Res.aggW rfl Qy Yw (R72.has<|List.Mem.head _) h39.len<|.tmp rfl Res.nil) ?_;obtain⟨her,hvl⟩:=ferr_ok hnb hnl hnr;exact⟨_,_,rfl,R72.ext,⟨_,(by rw[her];rfl),(h39.toR (by rw[hvl,<-hsz,<-hdn];first|rw[show Zdq (bl s)=true from hmi.1 (by assumption)]|rw[show Zdq (bl s)=false from(by cases q:Zdq (bl s);rfl;exact absurd (hmi.2 q) (by assumption))]) (by exact Xc _))⟩⟩;have L395:=L347;rw[decide_eq_false t32] at L395;have hnl:¬QA (bl s):=by(unfold QA;rw[<-hsz,<-hdn];omega)
 refine Za<|sm L395 rfl<|Sm rfl<|Sf rfl<|Sf rfl<|Sf rfl<|Sf rfl λ_ L401=>ZY L401 rfl rfl rfl rfl rfl λ_ L402=>ZY L402 rfl rfl rfl rfl rfl λ_ L403=>ZY L403 rfl rfl rfl rfl rfl λ_ L404=>ZY L404 rfl rfl rfl rfl rfl λ_ L405=>ZY L405 rfl rfl rfl rfl rfl<|Sf rfl<|So rfl<|Ze rfl rfl<|kP [2,3,8,9,11,73] rfl<|SF rfl λ_ L409=>wp_skip<|Zc<|wp_seq ?_;have hnr:¬fred (bl s):=by(unfold fred;rw[<-hsz,<-hdn];intro q;first|exact absurd q.1 (by assumption)|exact q.2.elim (λq=>by omega) (λq=>by omega))
 have hdp:0<Xw (bl dn):=by rw[hdn];exact Nat.pos_of_ne_zero (Zf7 hnb hnr)
 have hmn:=@Zfh s nm sz hnm hsz;have L410:=(L409.kp [2,3,8,9,11] rfl);refine Zw (E0:=[]) (H0:=[(b13,32,c23),(b11,32,c17),(b1,36,zF1)]) (n:=80) mixed 4 [] (λk=>0) (Zcn [.is (.bool false),.is (.agg (c17:List Value).toArray),(kvIn (sI false<|Xw<|bl sz) 900),.is (.agg (c23:List Value).toArray)]) L410 R62 (by simp) (by simp) (by rfl) (by rfl) (by simp) (ZU ?_) ?_;refine(Al ?_ ?_ ?_ ?_ trivial);exact dm [] rfl;exact dK [] rfl λA=>ZA rfl ZM Zp (A.run.has<|List.mem_append_right _<|List.Mem.tail _<|List.Mem.head _) h25.len<|A.same rfl;exact dK [0,1] rfl λA=>Zi rfl Zhu (XG A.run.holds (mi:=false)<|h25.up<|l22.trans A.le) λv_25 _ _ x25 v25=>(A.post x25.le (A.run.call x25) v25);exact dK [] rfl λA=>ZA rfl ZM Zp (A.run.has<|List.mem_append_right _<|List.Mem.head _) h33.len<|A.same rfl;intro S46 _ _ w87 l30 E4 R74 n4 L415 K4;obtain⟨_,e15,c27,rfl,h40⟩:=K4 2 (by decide);have L416:=L415.add e15;clear L415;have L417:=L416.dr K4 [3] rfl;have R75:Run _ _ S46 [(b13,32,c23),(b11,32,c17),(b1,36,zF1)] w87:=Yb R74 n4 [] (by simp) (by simp);refine sO L417 rfl<|Zi rfl ent_99 (Zde R75.holds h40 (h33.up l30) hdp (by omega)) λv_26 _ _ x26 v26=>?_;have R76:=R75.call x26;obtain⟨c28,rfl,h41⟩:=v26;intro _ L418;refine sZ L418 rfl<|Zm rfl rfl (XO R76) Yw h41.len rfl h41.ones λ_ R77=>Sa rfl λ_ L420=>sn<|wp_ret<|rt (L420.kp [2,3] rfl) (Res.aggW rfl Qy Yw (R77.has<|List.Mem.head _) h41.len<|.tmp rfl Res.nil) ?_;obtain⟨her,hvl⟩:=ferr_ok hnb hnl hnr;exact⟨_,_,rfl,R77.ext,⟨_,(by rw[her];rfl),(h41.toR (by rw[hvl,<-hsz,<-hdn];first|rw[show Zdq (bl s)=true from hmi.1 (by assumption)]|rw[show Zdq (bl s)=false from(by cases q:Zdq (bl s);rfl;exact absurd (hmi.2 q) (by assumption))]) (by exact Xc _))⟩⟩;intro _ L422;refine sN L422 rfl<|YM rfl rfl<|So rfl<|Ze rfl rfl<|Sm rfl<|Sf rfl<|Sf rfl λ_ L427=>ZY L427 rfl rfl rfl rfl rfl λ_ L428=>ZY L428 rfl rfl rfl rfl rfl<|Sf rfl<|So rfl<|Ze rfl rfl<|kP [2,3,6,5,7,8,42] rfl<|ST rfl λ_ L432=>wp_seq<|Za ?_;have h42:Fs S27 zF1 [0] (0):=Fs.zero _ _;refine sO L432 rfl<|ZH (cs:=zF1) XR Za1 .nil (by rfl)<|Sz rfl<|Zm rfl rfl R44 Yw h42.len rfl h42.ones λ_ R78=>Sa rfl λ_ L435=>sn<|wp_ret<|Zt<|rt L435 (Res.aggW rfl Qy Yw (R78.has<|List.Mem.head _) h42.len<|.tmp rfl Res.nil) ?_;obtain⟨her,hvl⟩:=Zcw (l:=bl s) (by unfold Zew;rw[<-hsz,<-hdn];first|exact Or.inl (by assumption)|exact Or.inr (Or.inl (by assumption))|exact Or.inr<|Or.inr ⟨hmi.1 (by assumption),str48.1 (by assumption)⟩);exact⟨_,_,rfl,R78.ext,⟨_,(by rw[her];rfl),(h42.toR (by rw[hvl]) (by exact Xc _))⟩⟩;intro _ L436;refine sO L436 rfl<|YM rfl rfl<|Sm rfl<|Sf rfl<|Sf rfl<|Sf rfl<|So rfl<|Ze rfl rfl<|Sm rfl<|Sf rfl<|Sf rfl λ_ L445=>ZY L445 rfl rfl rfl rfl rfl λ_ L446=>ZY L446 rfl rfl rfl rfl rfl<|Sf rfl<|So rfl<|Ze rfl rfl<|kP [2,3,6,5,7,8,42] rfl<|ST rfl λ_ L450=>wp_seq<|Za ?_;have h43:Fs S26 zF1 [0] (0):=Fs.zero _ _;refine sO L450 rfl<|ZH (cs:=zF1) XR Za1 .nil (by rfl)<|Sz rfl<|Zm rfl rfl R43 Yw h43.len rfl h43.ones λ_ R79=>Sa rfl λ_ L453=>sn<|wp_ret<|Zt<|rt L453 (Res.aggW rfl Qy Yw (R79.has<|List.Mem.head _) h43.len<|.tmp rfl Res.nil) ?_;obtain⟨her,hvl⟩:=Zcw (l:=bl s) (by unfold Zew;rw[<-hsz,<-hdn];first|exact Or.inl (by assumption)|exact Or.inr (Or.inl (by assumption))|exact Or.inr<|Or.inr ⟨hmi.1 (by assumption),str48.1 (by assumption)⟩);exact⟨_,_,rfl,R79.ext,⟨_,(by rw[her];rfl),(h43.toR (by rw[hvl]) (by exact Xc _))⟩⟩;skip;refine wA<|sm L15 rfl<|So rfl<|YM rfl rfl λ_ L455=>sn ?_;by_cases t35:Zev (bl s)=true;exact Zh L455 rfl (by rw[decide_eq_true t35];rfl)<|wp_skip<|Zc<|⟨S2,(Xb<|Zae<|bl s),(Xb (Zci<|bl s).2.1),(tpre<|Xb<|Zae<|bl s),Sh.le.refl _,(L455.kp [7,5,4,6,3,2] rfl),R3,(by exact Qr (Zef<|bl_lt s).1),(by exact fsize_tpre<|Qr (Zef<|bl_lt s).1),(by first|(rw[fden_not (by assumption)];rfl)|(rw[fden_two (by assumption)];exact Qr (Zef<|bl_lt s).2))⟩;exact Zl L455 rfl (by rw[decide_eq_false t35];rfl)<|Za<|sa L455 rfl λ_ L456=>sn<|⟨S2,(Xb<|Zae<|bl s),(⟨#[49]⟩:ByteArray),(tpre<|Xb<|Zae<|bl s),Sh.le.refl _,(L456.kp [7,5,4,6,3,2] rfl),R3,(by exact Qr (Zef<|bl_lt s).1),(by exact fsize_tpre<|Qr (Zef<|bl_lt s).1),(by first|(rw[fden_not (by assumption)];rfl)|(rw[fden_two (by assumption)];exact Qr (Zef<|bl_lt s).2))⟩
section
theorem YW.splitA{D:Dom Ato}{G:Gh}{B:List (SV Ato)}:∀{A:List (SV Ato)} {vs:List Value},YW D G (A++B) vs->∃us ws,vs=us++ws/\YW D G A us/\YW D G B ws
  |[],vs,h=>⟨[],vs,rfl,.nil,h⟩
  | x ::A,vs,h=>by
    cases h with
    | one h1 h2 h3 h4=>
      obtain⟨us,ws,rfl,a1,a2⟩:=YW.splitA (A:=A) h4
      exact⟨_::us,ws,rfl,.one h1 h2 h3 a1,a2⟩
    | run h1 h4=>
      obtain⟨us,ws,rfl,a1,a2⟩:=YW.splitA (A:=A) h4
      exact⟨_++us,ws,by rw[List.append_assoc],.run h1 a1,a2⟩
def asQ1(T:Tb)(l:List (SV Ato)):Option Nat:=match asQ' T l with
  | some i=>match isK T i 2 with
    |true=>some i
    |false=>none
  |none=>none
def asQs(T:Tb):Nat->List (SV Ato)->Option (List Nat)
  | 0,l=>match l with
    |[]=>some []
    |_=>none
  | n + 1,l=>match l with
    | x :: .at_ y::z::r=>match asQ1 T [x,.at_ y,z] with
      | some i=>match asQs T n r with
        |some is=>some (i::is)
        |none=>none
      |none=>none
    | x ::y::z::u::v::r=>match asQ1 T [x,y,z,u,v] with
      | some i=>match asQs T n r with
        |some is=>some (i::is)
        |none=>none
      |none=>none
    |_=>none
def mxC(T:Tb)(is:List Nat):Nat:=List.rec 0 (λi _ s=>match Zco T i with
  | some r=>match Nat.ble r.c s with
    |true=>s
    |false=>r.c
  |none=>s) is
def mxD(T:Tb)(is:List Nat):Nat:=List.rec 0 (λi _ s=>match Zco T i with
  | some r=>match Nat.ble r.d s with
    |true=>s
    |false=>r.d
  |none=>s) is
def shortB(T:Tb)(i:Nat):Bool:=match Zez T [12,i] with
  |some b=> !b
  |none=>false
def keyE(x:Int)(key:List Nat):List Nat:=match x with
  | .ofNat n=>match n with
    |0=>key
    |_+1=>[6]
  | .negSucc _=>key
def pFParse(T:Tb):PrF Ato:=λl=>match l with
  | [.at_ (.t i)]=>match shortB T i with
    | true=>match Zgn [4,i] T.conds with
      | some x=>match Zd7 T (keyE x [38,i]) with
        | some (k,r)=>match Nat.ble 900 r.d with
          |true=>some (.tup [.agg (cQ k),.int .i64 x])
          |false=>none
        |none=>none
      |none=>none
    |false=>none
  |_=>none
def txtK(T:Tb)(i:Nat):Option (List Nat):=match Zco T i with
  | some r=>match r.key with
    |[6]=>some [48]
    | [10,a,s]=>match s with
      |0=>some (decB a)
      |_=>none
    |_=>none
  |none=>none
def pText(T:Tb):PrF Ato:=λl=>match getA T [2] l with
  | some is=>match is with
    | [i]=>match txtK T i with
      | some s=>match limB T 100000000000 [i] with
        |true=>some (.str s)
        |false=>none
      |none=>opV T 43 100000000000 0 [i]
    |_=>none
  |none=>none
section
variable{T:Tb}{K:Nat}{base ρ:Nat->AV}{bd:Nat->Nat}{G:Gh}{T0:Tb}{hT:Cs T0 ρ}
theorem asQ1_ok(hg:YG T K base ρ bd){l:List (SV Ato)}{i:Nat}{vs:List Value}(h:asQ1 T l=some i)(hd:YW (DS hT bd) G l vs):Fs G.S vs [(ρ i).rat] (bd i):=by
 unfold asQ1 at h;split at h;rename_i j hj;split at h;rename_i hk;cases h;have h1:=asQ_ok hg hj hd;have e:=AV.k2 (Zce hg hk);rw[e] at h1;obtain⟨cs,e1,h2⟩:=h1;simp only[Value.agg.injEq] at e1;have e2:vs=cs:=by simpa using congrArg Array.toList e1
 rw[e2];exact h2;cases h;cases h
theorem asQs_ok(hg:YG T K base ρ bd){k:Nat}:∀{n:Nat} {l:List (SV Ato)} {is:List Nat} {vs:List Value},asQs T n l=some is->YW (DS hT bd) G l vs->(∀i∈is,bd i<=k)->Fs G.S vs (is.map λi=>(ρ i).rat) k
  | 0,l,is,vs,h,hd,hk=>by
    unfold asQs at h
    split at h
    · cases h
      rw[hd.nilI];rfl
    · cases h
  | n + 1,l,is,vs,h,hd,hk=>by
    unfold asQs at h
    split at h
    · rename_i x y z r
      split at h
      · rename_i i hi
        split at h
        · rename_i js hjs
          cases h
          obtain⟨us,ws,rfl,h1,h2⟩:=YW.splitA (A:=[x,.at_ y,z]) hd
          exact((asQ1_ok hg hi h1).wide (hk i (by simp))).append (asQs_ok hg hjs h2 λj hj=>hk j (by simp[hj]))
        · cases h
      · cases h
    · rename_i x y z u v r _
      split at h
      · rename_i i hi
        split at h
        · rename_i js hjs
          cases h
          obtain⟨us,ws,rfl,h1,h2⟩:=YW.splitA (A:=[x,y,z,u,v]) hd
          exact((asQ1_ok hg hi h1).wide (hk i (by simp))).append (asQs_ok hg hjs h2 λj hj=>hk j (by simp[hj]))
        · cases h
      · cases h
    · cases h
theorem mx_ok(hg:YG T K base ρ bd){lim:Nat}:∀{is:List Nat},limB T lim is=true->∀i∈is,bd i<=mxC T is*K+mxD T is
  |[],_,i,hi=>by cases hi
  | j ::is,h,i,hi=>by
    have h1:(limB T lim [j]&&limB T lim is)=true:=by simpa [limB] using h
    simp only[Bool.and_eq_true] at h1
    have h2:=List.all_eq_true.1 h1.1 j (by simp)
    split at h2
    · rename_i r hr
      have e1 :r.c<=mxC T (j::is)/\mxC T is<=mxC T (j::is):=by
        have e:mxC T (j::is)=match Nat.ble r.c (mxC T is) with
          |true=>mxC T is
          |false=>r.c:=by
          show(match Zco T j with
            | some r=>match Nat.ble r.c (mxC T is) with
              |true=>mxC T is
              |false=>r.c
            |none=>mxC T is)=_
          rw[hr]
        rw[e]
        cases hb:Nat.ble r.c (mxC T is) with
        |true=>exact⟨Nat.le_of_ble_eq_true hb,Nat.le_refl _⟩
        | false=>
          refine⟨Nat.le_refl _,?_⟩
          rcases Nat.le_total r.c (mxC T is) with h9|h9
          · rw[Nat.ble_eq_true_of_le h9] at hb;cases hb
          · exact h9
      have e2 :r.d<=mxD T (j::is)/\mxD T is<=mxD T (j::is):=by
        have e:mxD T (j::is)=match Nat.ble r.d (mxD T is) with
          |true=>mxD T is
          |false=>r.d:=by
          show(match Zco T j with
            | some r=>match Nat.ble r.d (mxD T is) with
              |true=>mxD T is
              |false=>r.d
            |none=>mxD T is)=_
          rw[hr]
        rw[e]
        cases hb:Nat.ble r.d (mxD T is) with
        |true=>exact⟨Nat.le_of_ble_eq_true hb,Nat.le_refl _⟩
        | false=>
          refine⟨Nat.le_refl _,?_⟩
          rcases Nat.le_total r.d (mxD T is) with h9|h9
          · rw[Nat.ble_eq_true_of_le h9] at hb;cases hb
          · exact h9
      rcases List.mem_cons.1 hi with rfl|hi
      · rw[(hg.row _ _ hr).2]
        exact Nat.add_le_add (Nat.mul_le_mul_right _ e1.1) e2.1
      · exact Nat.le_trans (mx_ok hg h1.2 i hi) (Nat.add_le_add (Nat.mul_le_mul_right _ e1.2) e2.2)
    · cases h2
theorem mx_lim{lim:Nat}(hK:K<=T.km):∀{is:List Nat},Nat.ble (Nat.add (Nat.mul (mxC T is) T.km)<|mxD T is) lim=true->mxC T is*K+mxD T is<=lim:=by
 intro is h;exact Nat.le_trans (Nat.add_le_add_right (Nat.mul_le_mul_left _ hK) _)<|Nat.le_of_ble_eq_true h
theorem shortB_ok(hg:YG T K base ρ bd){i:Nat}(h:shortB T i=true):(ρ i).txt.size<=1024:=by
 unfold shortB at h;split at h;rename_i b hb;have h1:=Qh hg.cond hb
 cases b with
 |true=>cases h
 | false=>
   have h2:(if 1024<(ρ i).txt.size then(1:Int) else 0)=0:=h1
   split at h2
   · cases h2
   · omega
 cases h
theorem pFParse_ok(hg:YG T K base ρ bd):Xq prog (DS hT bd) 32 (pFParse T):=by
 intro args r hr G w vs hd hS;unfold pFParse at hr;split at hr;rename_i i;split at hr;rename_i hs;split at hr;rename_i x hx;split at hr;rename_i k r' hf;split at hr;rename_i hb;cases hr;obtain⟨h1,h2⟩:=XI hf;obtain⟨h3,h4⟩:=hg.row _ _ h1;rw[h2] at h3
 cases hd with
 | cons x1 x2=>
   cases x2
   cases x1 with
   | at_ hp=>
     obtain⟨s,e,hv⟩:=hp
     have hv':=List.cons.inj hv
     obtain⟨rfl,_⟩:=hv'
     have hsz:=shortB_ok hg hs
     rw[e] at hsz
     have hsz':s.size<=1024:=hsz
     have hc:YP (bl s)=x:=by
       have h9:=hg.cond _ (Zab hx)
       have h8:ZI ρ [4,i]=YP (bl (ρ i).txt):=rfl
       rw[e] at h8
       exact h8.symm.trans h9
     have h3':ρ k= .q (Yz<|bl s):=by
       rw[h3]
       unfold keyE
       split
       · split
         · show Zg9 38 [ρ i]=_
           rw[e];rfl
         · show AV.q 0=_
           unfold Yz
           rw[if_neg (by rw[hc];simp;omega)]
       · show Zg9 38 [ρ i]=_
         rw[e];rfl
     have hb':=Nat.le_of_ble_eq_true hb
     refine .ret (by kernel_rfl) (frac_Parse hS (s:=s) (by omega)) λS' v ⟨c0,ev,hv⟩=>?_
     rw[ev,hc]
     exact .tup (.cons (Xm (kd:=2) (by rw[h3'];rfl) (by rw[h3'];exact⟨c0,rfl,hv.wide (by omega)⟩)) (.cons (.int _ _) .nil))
 cases hr;cases hr;cases hr;cases hr;cases hr
theorem rtxt_nat(a:Nat):rtxt ((a:Int):Rat)=decs a:=by
 unfold rtxt Zgb;have h1:((a:Int):Rat).num=(a:Int):=rfl;have h2:((a:Int):Rat).den=1:=rfl;rw[h1,h2];simp
theorem txtK_ok(hg:YG T K base ρ bd){i:Nat}{s:List Nat}(h:txtK T i=some s):rtxt (ρ i).rat=s:=by
 unfold txtK at h;split at h;rename_i r hr;have h1:=(hg.row _ _ hr).1;split at h;rename_i hk;rw[hk] at h1;cases h;rw[h1];exact(rtxt_nat 0).trans (by rw[<-decB_eq];rfl);rename_i a s' hk;rw[hk] at h1;split at h;cases h;rw[h1,decB_eq];exact rtxt_nat a;cases h;cases h;cases h
theorem pText_ok(hg:YG T K base ρ bd):Xq prog (DS hT bd) 55 (pText T):=by
 intro args r hr G w vs hd hS;unfold pText at hr;split at hr;rename_i is his;split at hr;rename_i i;obtain⟨x,k1,v,e1,e2,rfl,h5,h6⟩:=(Zaj hg his hd).one;simp only[List.map_cons,List.map_nil,List.cons.injEq,and_true] at e1 e2;subst e1 e2;obtain⟨c,rfl,h7⟩:=h6.q h5;split at hr;rename_i s hs;split at hr;rename_i hl;cases hr;have hb:=QV hg hl (bd i) (by simp);refine .ret (by kernel_rfl) (Zgj hS h7 hb) λS' v hv=>?_;rw[hv,txtK_ok hg hs];exact .str _;cases hr;obtain⟨l,rfl,g1,g2,g3,g4⟩:=Zfb hg hr (by decide);have hb:=g3 (bd i) (by simp);refine .ret (by kernel_rfl) (Zgj hS h7 hb) λS' v hv=>Xm g1 ?_;rw[g2];exact hv;cases hr;cases hr
end
def symTab3(T:Tb):List (Nat × PrF Ato):=(32,pFParse T)::(55,pText T)::symTab2 T
theorem symTab3_OK:TabOK symTab3:=by
 intro T K base ρ bd T0 hT hg p hp;simp only[symTab3,List.mem_cons] at hp;rcases hp with rfl|rfl|hp;exact pFParse_ok hg;exact pText_ok hg;exact symTab2_ok hg p hp
end
section
def cRs:List Nat->List (SV Ato)
 |[]=>[]
 |i::is=>cR i++cRs is
section
variable{ρ:Nat->AV}{bd:Nat->Nat}{G:Gh}{T0:Tb}{hT:Cs T0 ρ}
theorem Zh5{k:Nat}:∀{is:List Nat} {qs:List Rat} {cs:List Value},Qs ρ bd k is qs->Gs G.S cs qs k->YW (DS hT bd) G (cRs is) cs
 |[],[],cs,_,h=>by rw[show cs=[] from h];exact .nil
 |i::is,q::qs,cs,hq,h=>by
  obtain⟨c1,c2,vs,e,h1,h2,h3⟩:=h
  rw[e]
  exact YW.append (vs:=[.bool (decide (q<0)),c1,c2]) (cR_mk hq.1 hq.2.1<|Gs.mk rfl h1 h2) (Zh5 hq.2.2 h3)
 |[],_::_,_,hq,_=>hq.elim
 |_::_,[],_,hq,_=>hq.elim
theorem Zgo{k:Nat}:∀{is:List Nat} {qs:List Rat} {cs:List Value},QsI ρ bd k is qs->YW (DS hT bd) G (cRs is) cs->Gs G.S cs qs k
 |[],[],cs,_,h=>h.nilI
 |i::is,q::qs,cs,hq,h=>by
  obtain⟨us,ws,rfl,h1,h2⟩:=YW.splitA (A:=cR i) h
  obtain⟨c1,c2,rfl,h3,h4⟩:=(Zex hq.1 h1).open
  exact⟨c1,c2,ws,rfl,h3.wide hq.2.1,h4.wide hq.2.1,Zgo hq.2.2 h2⟩
 |[],_::_,_,hq,_=>hq.elim
 |_::_,[],_,hq,_=>hq.elim
end
def rM(a b c d q:Rat):Rat:=q*(((pL a b c d:Nat):Int):Rat)
def rG(a b c d:Rat):Nat:=Nat.gcd (Nat.gcd (Nat.gcd (Nat.gcd 0 (rM a b c d a).num.natAbs) (rM a b c d b).num.natAbs) (rM a b c d c).num.natAbs) (rM a b c d d).num.natAbs
theorem rM_num{a b c d q:Rat}(h:q.den ∣ pL a b c d):(rM a b c d q).num=pI (pL a b c d) q:=(pI_num h).1
theorem rG_eq(a b c d:Rat):rG a b c d=pG a b c d:=by
 unfold rG pG;rw[rM_num (pL_a a b c d),rM_num (pL_b a b c d),rM_num (pL_c a b c d),rM_num (pL_d a b c d)]
theorem Zb9{a b c d q:Rat}(h:q.den ∣ pL a b c d):Yu (rM a b c d q).num=Yu q.num:=by
 rw[rM_num h];have h1:=Zfa h (pL_pos a b c d);have h2:=pI_sign h (pL_pos a b c d);unfold Yu;by_cases e:q.num=0;rw[if_pos e,if_pos (h1.2 e)];rw[if_neg e,if_neg (λz=>e<|h1.1 z)];by_cases f:q.num<0;rw[if_pos f,if_pos (h2.2 f)];rw[if_neg f,if_neg (λz=>f<|h2.1 z)]
theorem rG_sgn{a b c d:Rat}(h:¬(a.num=0/\b.num=0/\c.num=0)):Yu (((rG a b c d:Nat):Int):Rat).num=1:=by
 have h1:=pG_pos (d:=d) h;rw[rG_eq];show Yu ((pG a b c d:Nat):Int)=1;unfold Yu;rw[if_neg (by omega),if_neg (by omega)]
theorem ref_pos{a b c d q:Rat}(h:¬(a.num=0/\b.num=0/\c.num=0))(hs:pS a.num b.num c.num=1)(hq:q.den ∣ pL a b c d)(hg:pG a b c d ∣ (pI (pL a b c d) q).natAbs):rM a b c d q/(((rG a b c d:Nat):Int):Rat)=pn a b c d q:=by
 rw[pn_eq h hq hg,rG_eq];unfold pF rM;rw[hs];show q*(pL a b c d:Rat)/(pG a b c d:Rat)=((1:Int):Rat)*(pL a b c d:Rat)/(pG a b c d:Rat)*q;generalize (pL a b c d:Rat)=x;generalize (pG a b c d:Rat)=y;rw[Rat.div_def,Rat.div_def,show((1:Int):Rat)=1 from rfl];grind
theorem ref_neg{a b c d q:Rat}(h:¬(a.num=0/\b.num=0/\c.num=0))(hs:pS a.num b.num c.num= -1)(hq:q.den ∣ pL a b c d)(hg:pG a b c d ∣ (pI (pL a b c d) q).natAbs): -(rM a b c d q/(((rG a b c d:Nat):Int):Rat))=pn a b c d q:=by
 rw[pn_eq h hq hg,rG_eq];unfold pF rM;rw[hs];show -(q*(pL a b c d:Rat)/(pG a b c d:Rat))=((-1:Int):Rat)*(pL a b c d:Rat)/(pG a b c d:Rat)*q;generalize (pL a b c d:Rat)=x;generalize (pG a b c d:Rat)=y;rw[Rat.div_def,Rat.div_def,show((-1:Int):Rat)= -1 from rfl];grind
end
theorem sI_quo(z:Int)(n:Nat):sI (decide (z<0)) (z.natAbs/n)=quoN z n:=by unfold sI quoN;simp
theorem sgn_quo{a b c d q:Rat}(h:¬(a.num=0/\b.num=0/\c.num=0))(hq:q.den ∣ pL a b c d)(hg:pG a b c d ∣ (pI (pL a b c d) q).natAbs):Yu (quoN (pI (pL a b c d) q)<|pG a b c d)=Yu q.num:=by
 have e1:=quoN_neg hg (pG_pos h);have e2:=pI_sign hq (pL_pos a b c d);have e3:=Zfa hq (pL_pos a b c d);have e4:=Zfu hg;have e5:quoN (pI (pL a b c d) q) (pG a b c d)=0↔q.num=0:=by constructor;intro h9;rw[h9,Int.zero_mul] at e4;exact e3.1 e4.symm;intro h9;rw[e3.2 h9];unfold quoN;simp
 unfold Yu;by_cases h1:q.num=0;rw[if_pos h1,if_pos (e5.2 h1)];rw[if_neg h1,if_neg (λh=>h1<|e5.1 h)];by_cases h2:q.num<0;rw[if_pos h2,if_pos (e1.2<|e2.2 h2)];rw[if_neg h2,if_neg (λh=>h2<|e2.1<|e1.1 h)]
theorem QL{z:Int}(h:Yu z= -1):z<0:=by
 unfold Yu at h;split at h;cases h;split at h;assumption;cases h
theorem QK{z:Int}(h:Yu z=1):0<z:=by
 unfold Yu at h;split at h;cases h;split at h;cases h;omega
def mk_r:List Rw:=[⟨[2,0],1,0⟩,⟨[2,1],1,0⟩,⟨[2,2],1,0⟩,⟨[2,3],1,0⟩,⟨[4,1],0,64⟩,⟨[16,0],1,0⟩,⟨[28,4,5],1,64⟩,⟨[32,5,6],2,64⟩,⟨[40,5,6],2,64⟩,⟨[24,4,7],2,128⟩,⟨[16,1],1,0⟩,⟨[28,9,10],3,128⟩,⟨[32,10,11],4,128⟩,⟨[40,10,11],4,128⟩,⟨[24,9,12],6,256⟩,⟨[16,2],1,0⟩,⟨[28,14,15],7,256⟩,⟨[32,15,16],8,256⟩,⟨[40,15,16],8,256⟩,⟨[24,14,17],14,512⟩,⟨[16,3],1,0⟩,⟨[28,19,20],15,512⟩,⟨[32,20,21],16,512⟩,⟨[40,20,21],16,512⟩,⟨[24,19,22],30,1024⟩,⟨[32,24,5],31,1024⟩,⟨[40,24,5],31,1024⟩,⟨[13,0],1,0⟩,⟨[17,25],31,1024⟩,⟨[37,27,28],32,1024⟩,⟨[32,24,10],31,1024⟩,⟨[40,24,10],31,1024⟩,⟨[13,1],1,0⟩,⟨[17,30],31,1024⟩,⟨[37,32,33],32,1024⟩,⟨[32,24,15],31,1024⟩,⟨[40,24,15],31,1024⟩,⟨[13,2],1,0⟩,⟨[17,35],31,1024⟩,⟨[37,37,38],32,1024⟩,⟨[32,24,20],31,1024⟩,⟨[40,24,20],31,1024⟩,⟨[13,3],1,0⟩,⟨[17,40],31,1024⟩,⟨[37,42,43],32,1024⟩,⟨[4,0],0,64⟩,⟨[12,29],32,1024⟩,⟨[28,45,46],32,1088⟩,⟨[12,34],32,1024⟩,⟨[28,47,48],64,2112⟩,⟨[12,39],32,1024⟩,⟨[28,49,50],96,3136⟩,⟨[12,44],32,1024⟩,⟨[28,51,52],128,4160⟩,⟨[32,46,53],160,5184⟩,⟨[40,46,53],160,5184⟩,⟨[21,29,54],192,6208⟩,⟨[32,48,53],160,5184⟩,⟨[40,48,53],160,5184⟩,⟨[21,34,57],192,6208⟩,⟨[32,50,53],160,5184⟩,⟨[40,50,53],160,5184⟩,⟨[21,39,60],192,6208⟩,⟨[32,52,53],160,5184⟩,⟨[40,52,53],160,5184⟩,⟨[21,44,63],192,6208⟩,⟨[25,56],192,6208⟩,⟨[25,59],192,6208⟩,⟨[25,62],192,6208⟩,⟨[25,65],192,6208⟩,⟨[14,66],192,6208⟩,⟨[14,67],192,6208⟩,⟨[14,68],192,6208⟩,⟨[14,69],192,6208⟩,⟨[14,56],192,6208⟩,⟨[14,59],192,6208⟩,⟨[14,62],192,6208⟩,⟨[14,65],192,6208⟩]
def mk_T(cs:CL):Tb:=⟨mk_r,cs,500000000⟩
def mk_G(cs:CL)(r:SV Ato):Prop:=Zdn symTab2 (mk_T cs) 23 [.agg (cQs [0,1,2]),.agg (cQs [3])] r 200
def XF(a0 a1 a2 a3:Rat):Nat->AV:=rho (mk_T []) (YV [a0,a1,a2,a3])
def mk_k0:CL:=([3,56],1)::([5,53],0)::([1,0],1)::[]
theorem mk_p1:mk_G mk_k0 (.tup [.agg (cQs [74,75,76,77]),.int .i64 0]):=λ_ _ _=>by kernel_rfl
def mk_k1:CL:=([3,56],(-1))::([5,53],0)::([1,0],(-1))::[]
theorem mk_p0:mk_G mk_k1 (.tup [.agg (cQs [70,71,72,73]),.int .i64 0]):=λ_ _ _=>by kernel_rfl
def mk_k2:CL:=([1,0],0)::[]
def mk_k3:CL:=([3,59],1)::([3,56],0)::([5,53],0)::([1,1],1)::mk_k2
theorem mk_p3:mk_G mk_k3 (.tup [.agg (cQs [74,75,76,77]),.int .i64 0]):=λ_ _ _=>by kernel_rfl
def mk_k4:CL:=([3,59],(-1))::([3,56],0)::([5,53],0)::([1,1],(-1))::mk_k2
theorem mk_p2:mk_G mk_k4 (.tup [.agg (cQs [70,71,72,73]),.int .i64 0]):=λ_ _ _=>by kernel_rfl
def mk_k5:CL:=([1,1],0)::mk_k2
def mk_k6:CL:=([1,2],0)::mk_k5
theorem mk_p6:mk_G mk_k6 (.tup [.agg (zQs 4),.int .i64 2]):=λ_ _ _=>by kernel_rfl
def mk_k7:CL:=([3,62],1)::([3,59],0)::([3,56],0)::([5,53],0)::([1,2],1)::mk_k5
theorem mk_p5:mk_G mk_k7 (.tup [.agg (cQs [74,75,76,77]),.int .i64 0]):=λ_ _ _=>by kernel_rfl
def mk_k8:CL:=([3,62],(-1))::([3,59],0)::([3,56],0)::([5,53],0)::([1,2],(-1))::mk_k5
theorem mk_p4:mk_G mk_k8 (.tup [.agg (cQs [70,71,72,73]),.int .i64 0]):=λ_ _ _=>by kernel_rfl
theorem Zfx{a0 a1 a2 a3:Rat}{k:Nat}{cs:List (List Nat × Int)}(hc:Csl (XF a0 a1 a2 a3) cs){is:List Nat}(hQ:QsI (XF a0 a1 a2 a3) (Zej (mk_T []) k) (192*k+6208) is [pn a0 a1 a2 a3 a0,pn a0 a1 a2 a3 a1,pn a0 a1 a2 a3 a2,pn a0 a1 a2 a3 a3]){S':Sh}{blk:Nat->Option (Nat × Nat)}{v:Value}(h3:Den (DS (T:=mk_T cs) (ρ:=XF a0 a1 a2 a3) hc.all<|Zej (mk_T []) k) ⟨S',blk⟩ (.tup [.agg (cQs is),.int .i64 0]) v):
  ∃(c0:List Value),v= .tuple [.agg c0.toArray,.int .i64 0].toArray/\Fs S' c0 [pn a0 a1 a2 a3 a0,pn a0 a1 a2 a3 a1,pn a0 a1 a2 a3 a2,pn a0 a1 a2 a3 a3] (192*k+6208):=by
 cases h3 with
 | tup h4=>cases h4 with
  | cons h5 h6=>cases h6 with
   |cons h7 h8=>
    cases h8
    cases h7
    cases h5 with
    |agg h9=>exact⟨_,rfl,Zcz hQ h9⟩
theorem make_zero{T:Tb}{ρ:Nat->AV}{hT:Cs T ρ}{bd:Nat->Nat}{S':Sh}{blk:Nat->Option (Nat × Nat)}{v:Value}(h3:Den (DS hT bd) ⟨S',blk⟩ (.tup [.agg (zQs 4),.int .i64 2]) v):
  ∃(c0:List Value),v= .tuple [.agg c0.toArray,.int .i64 2].toArray/\Fs S' c0 [0,0,0,0] 0:=by
 cases h3 with
 | tup h4=>cases h4 with
  | cons h5 h6=>cases h6 with
   |cons h7 h8=>
    cases h8
    cases h7
    obtain⟨c0,rfl,hF⟩:=Zey (k:=0) h5
    exact⟨_,rfl,hF⟩
theorem plane_Make_s{S:Sh}{w:World}(hS:ZV S w){c_a:List Value}{a0 a1 a2:Rat}{k_a:Nat}(h_a:Fs S c_a [a0,a1,a2] k_a){c_y:List Value}{a3:Rat}{k_y:Nat}(h_y:Fs S c_y [a3] k_y)(hlim:k_a<=250000000)(hlim2:k_y<=250000000):
  Calls prog 23 [(.agg (c_a:List Value).toArray),(.agg (c_y:List Value).toArray)].toArray w (Ret S w (λS v=>((a0.num=0/\a1.num=0/\a2.num=0)/\∃(c0:List Value),v= .tuple [.agg c0.toArray,.int .i64 2].toArray/\Fs S c0 [0,0,0,0] 0)\/((¬(a0.num=0/\a1.num=0/\a2.num=0))/\∃(c0:List Value),v= .tuple [.agg c0.toArray,.int .i64 0].toArray/\Fs S c0 [pn a0 a1 a2 a3 a0,pn a0 a1 a2 a3 a1,pn a0 a1 a2 a3 a2,pn a0 a1 a2 a3 a3] (192*(k_a+k_y)+6208)))):=by
 have leaf:=λcs hc {r} (h:mk_G cs r)=>YX symTab2_OK (K:=k_a+k_y) (base:=YV [a0,a1,a2,a3]) (by kernel_rfl) (by omega) (by kernel_rfl) hS (λ_ _=>.cons (.agg (QF (is:=[0,1,2]) (qs:=[a0,a1,a2]) (k:=k_a+k_y) ⟨by kernel_rfl,le1 _,by kernel_rfl,le1 _,by kernel_rfl,le1 _,trivial⟩<|h_a.wide<|Nat.le_add_right k_a k_y)) (.cons (.agg (QF (is:=[3]) (qs:=[a3]) (k:=k_a+k_y) ⟨by kernel_rfl,le1 _,trivial⟩<|h_y.wide<|Nat.le_add_left k_y k_a)) .nil)) cs hc h;have pz:¬(a0.num=0/\a1.num=0/\a2.num=0)->ZI (XF a0 a1 a2 a3) [5,53]=0:=λh=>(by kernel_rfl:ZI (XF a0 a1 a2 a3) [5,53]=(if pG a0 a1 a2 a3=0 then(1:Int) else 0)).trans (if_neg<|pG_pos h);have p0:¬(a0.num=0/\a1.num=0/\a2.num=0)->ZI (XF a0 a1 a2 a3) [3,56]=Yu a0.num:=λh=>(by kernel_rfl:ZI (XF a0 a1 a2 a3) [3,56]=Yu (sI (decide (pI (pL a0 a1 a2 a3) a0<0)) ((pI (pL a0 a1 a2 a3) a0).natAbs/pG a0 a1 a2 a3))).trans (by rw[sI_quo];exact sgn_quo h (pL_a a0 a1 a2 a3) (Zc6 a0 a1 a2 a3).1);have p1:¬(a0.num=0/\a1.num=0/\a2.num=0)->ZI (XF a0 a1 a2 a3) [3,59]=Yu a1.num:=λh=>(by kernel_rfl:ZI (XF a0 a1 a2 a3) [3,59]=Yu (sI (decide (pI (pL a0 a1 a2 a3) a1<0)) ((pI (pL a0 a1 a2 a3) a1).natAbs/pG a0 a1 a2 a3))).trans (by rw[sI_quo];exact sgn_quo h (pL_b a0 a1 a2 a3) (Zc6 a0 a1 a2 a3).2.1);have p2:¬(a0.num=0/\a1.num=0/\a2.num=0)->ZI (XF a0 a1 a2 a3) [3,62]=Yu a2.num:=λh=>(by kernel_rfl:ZI (XF a0 a1 a2 a3) [3,62]=Yu (sI (decide (pI (pL a0 a1 a2 a3) a2<0)) ((pI (pL a0 a1 a2 a3) a2).natAbs/pG a0 a1 a2 a3))).trans (by rw[sI_quo];exact sgn_quo h (pL_c a0 a1 a2 a3) (Zc6 a0 a1 a2 a3).2.2.1);have qn:pS a0.num a1.num a2.num= -1->QsI (XF a0 a1 a2 a3) (Zej (mk_T []) (k_a+k_y)) (192*(k_a+k_y)+6208) [70,71,72,73] [pn a0 a1 a2 a3 a0,pn a0 a1 a2 a3 a1,pn a0 a1 a2 a3 a2,pn a0 a1 a2 a3 a3]:=by
  intro hs;have hq:∀q,((-(sI (decide (pI (pL a0 a1 a2 a3) q<0)) ((pI (pL a0 a1 a2 a3) q).natAbs/pG a0 a1 a2 a3)):Int):Rat)=pn a0 a1 a2 a3 q:=λq=>by rw[sI_quo];unfold pn pnI;rw[hs,Int.neg_mul,Int.one_mul]
  exact⟨(by kernel_rfl:(XF a0 a1 a2 a3) 70= .q ((-(sI (decide (pI (pL a0 a1 a2 a3) a0<0)) ((pI (pL a0 a1 a2 a3) a0).natAbs/pG a0 a1 a2 a3)):Int):Rat)).trans (congrArg AV.q<|hq a0),Nat.le_refl _,(by kernel_rfl:(XF a0 a1 a2 a3) 71= .q ((-(sI (decide (pI (pL a0 a1 a2 a3) a1<0)) ((pI (pL a0 a1 a2 a3) a1).natAbs/pG a0 a1 a2 a3)):Int):Rat)).trans (congrArg AV.q<|hq a1),Nat.le_refl _,(by kernel_rfl:(XF a0 a1 a2 a3) 72= .q ((-(sI (decide (pI (pL a0 a1 a2 a3) a2<0)) ((pI (pL a0 a1 a2 a3) a2).natAbs/pG a0 a1 a2 a3)):Int):Rat)).trans (congrArg AV.q<|hq a2),Nat.le_refl _,(by kernel_rfl:(XF a0 a1 a2 a3) 73= .q ((-(sI (decide (pI (pL a0 a1 a2 a3) a3<0)) ((pI (pL a0 a1 a2 a3) a3).natAbs/pG a0 a1 a2 a3)):Int):Rat)).trans (congrArg AV.q<|hq a3),Nat.le_refl _,trivial⟩
 have qp:pS a0.num a1.num a2.num=1->QsI (XF a0 a1 a2 a3) (Zej (mk_T []) (k_a+k_y)) (192*(k_a+k_y)+6208) [74,75,76,77] [pn a0 a1 a2 a3 a0,pn a0 a1 a2 a3 a1,pn a0 a1 a2 a3 a2,pn a0 a1 a2 a3 a3]:=by
  intro hs;have hq:∀q,((sI (decide (pI (pL a0 a1 a2 a3) q<0)) ((pI (pL a0 a1 a2 a3) q).natAbs/pG a0 a1 a2 a3):Int):Rat)=pn a0 a1 a2 a3 q:=λq=>by rw[sI_quo];unfold pn pnI;rw[hs,Int.one_mul]
  exact⟨(by kernel_rfl:(XF a0 a1 a2 a3) 74= .q ((sI (decide (pI (pL a0 a1 a2 a3) a0<0)) ((pI (pL a0 a1 a2 a3) a0).natAbs/pG a0 a1 a2 a3):Int):Rat)).trans (congrArg AV.q<|hq a0),Nat.le_refl _,(by kernel_rfl:(XF a0 a1 a2 a3) 75= .q ((sI (decide (pI (pL a0 a1 a2 a3) a1<0)) ((pI (pL a0 a1 a2 a3) a1).natAbs/pG a0 a1 a2 a3):Int):Rat)).trans (congrArg AV.q<|hq a1),Nat.le_refl _,(by kernel_rfl:(XF a0 a1 a2 a3) 76= .q ((sI (decide (pI (pL a0 a1 a2 a3) a2<0)) ((pI (pL a0 a1 a2 a3) a2).natAbs/pG a0 a1 a2 a3):Int):Rat)).trans (congrArg AV.q<|hq a2),Nat.le_refl _,(by kernel_rfl:(XF a0 a1 a2 a3) 77= .q ((sI (decide (pI (pL a0 a1 a2 a3) a3<0)) ((pI (pL a0 a1 a2 a3) a3).natAbs/pG a0 a1 a2 a3):Int):Rat)).trans (congrArg AV.q<|hq a3),Nat.le_refl _,trivial⟩
 rcases Zcm (XF a0 a1 a2 a3) (t:=1) (is:=[0]) (by decide) with h0|h0|h0;rotate_left 2
 have h1:ZI (XF a0 a1 a2 a3) [5,53]=0:=pz (λz=>by have g:=QK (tr h0:Yu a0.num=_);omega);have h2:ZI (XF a0 a1 a2 a3) [3,56]=1:=(p0 (λz=>by have g:=QK (tr h0:Yu a0.num=_);omega)).trans (tr h0:Yu a0.num=_);have H0:Csl (XF a0 a1 a2 a3) mk_k0:=.cons h2 (.cons h1 (.cons h0 .nil));have g0:=QK (tr h0:Yu a0.num=_);have hs:pS a0.num a1.num a2.num=1:=by unfold pS sgnI;rw[if_pos (by omega),if_neg (by omega)]
 exact Calls.mono (leaf _ H0 mk_p1) λe w' ⟨v,S',q1,q2,blk,q3⟩=>⟨v,S',q1,q2,.inr ⟨λz=>by omega,Zfx H0 (qp hs) q3⟩⟩;have h3:ZI (XF a0 a1 a2 a3) [5,53]=0:=pz (λz=>by have g:=QL (tr h0:Yu a0.num=_);omega);have h4:ZI (XF a0 a1 a2 a3) [3,56]= -1:=(p0 (λz=>by have g:=QL (tr h0:Yu a0.num=_);omega)).trans (tr h0:Yu a0.num=_);have H1:Csl (XF a0 a1 a2 a3) mk_k1:=.cons h4 (.cons h3 (.cons h0 .nil));have g0:=QL (tr h0:Yu a0.num=_);have hs:pS a0.num a1.num a2.num= -1:=by unfold pS sgnI;rw[if_pos (by omega),if_pos (by omega)]
 exact Calls.mono (leaf _ H1 mk_p0) λe w' ⟨v,S',q1,q2,blk,q3⟩=>⟨v,S',q1,q2,.inr ⟨λz=>by omega,Zfx H1 (qn hs) q3⟩⟩;have H2:Csl (XF a0 a1 a2 a3) mk_k2:=.cons h0 .nil;rcases Zcm (XF a0 a1 a2 a3) (t:=1) (is:=[1]) (by decide) with h5|h5|h5;rotate_left 2
 have h6:ZI (XF a0 a1 a2 a3) [5,53]=0:=pz (λz=>by have g:=QK (tr h5:Yu a1.num=_);omega);have h7:ZI (XF a0 a1 a2 a3) [3,56]=0:=(p0 (λz=>by have g:=QK (tr h5:Yu a1.num=_);omega)).trans (tr h0:Yu a0.num=_);have h8:ZI (XF a0 a1 a2 a3) [3,59]=1:=(p1 (λz=>by have g:=QK (tr h5:Yu a1.num=_);omega)).trans (tr h5:Yu a1.num=_);have H3:Csl (XF a0 a1 a2 a3) mk_k3:=.cons h8 (.cons h7 (.cons h6 (.cons h5 H2)));have g0:=Yh.1 (tr h0:Yu a0.num=_);have g1:=QK (tr h5:Yu a1.num=_);have hs:pS a0.num a1.num a2.num=1:=by unfold pS sgnI;rw[if_neg (by omega),if_pos (by omega),if_neg (by omega)]
 exact Calls.mono (leaf _ H3 mk_p3) λe w' ⟨v,S',q1,q2,blk,q3⟩=>⟨v,S',q1,q2,.inr ⟨λz=>by omega,Zfx H3 (qp hs) q3⟩⟩;have h9:ZI (XF a0 a1 a2 a3) [5,53]=0:=pz (λz=>by have g:=QL (tr h5:Yu a1.num=_);omega);have h10:ZI (XF a0 a1 a2 a3) [3,56]=0:=(p0 (λz=>by have g:=QL (tr h5:Yu a1.num=_);omega)).trans (tr h0:Yu a0.num=_);have h11:ZI (XF a0 a1 a2 a3) [3,59]= -1:=(p1 (λz=>by have g:=QL (tr h5:Yu a1.num=_);omega)).trans (tr h5:Yu a1.num=_);have H4:Csl (XF a0 a1 a2 a3) mk_k4:=.cons h11 (.cons h10 (.cons h9 (.cons h5 H2)));have g0:=Yh.1 (tr h0:Yu a0.num=_);have g1:=QL (tr h5:Yu a1.num=_);have hs:pS a0.num a1.num a2.num= -1:=by unfold pS sgnI;rw[if_neg (by omega),if_pos (by omega),if_pos (by omega)]
 exact Calls.mono (leaf _ H4 mk_p2) λe w' ⟨v,S',q1,q2,blk,q3⟩=>⟨v,S',q1,q2,.inr ⟨λz=>by omega,Zfx H4 (qn hs) q3⟩⟩;have H5:Csl (XF a0 a1 a2 a3) mk_k5:=.cons h5 H2;rcases Zcm (XF a0 a1 a2 a3) (t:=1) (is:=[2]) (by decide) with h12|h12|h12;rotate_left
 have H6:Csl (XF a0 a1 a2 a3) mk_k6:=.cons h12 H5;exact Calls.mono (leaf _ H6 mk_p6) λe w' ⟨v,S',q1,q2,blk,q3⟩=>⟨v,S',q1,q2,.inl ⟨⟨Yh.1 (tr h0:Yu a0.num=_),Yh.1 (tr h5:Yu a1.num=_),Yh.1 (tr h12:Yu a2.num=_)⟩,make_zero q3⟩⟩;have h13:ZI (XF a0 a1 a2 a3) [5,53]=0:=pz (λz=>by have g:=QK (tr h12:Yu a2.num=_);omega);have h14:ZI (XF a0 a1 a2 a3) [3,56]=0:=(p0 (λz=>by have g:=QK (tr h12:Yu a2.num=_);omega)).trans (tr h0:Yu a0.num=_);have h15:ZI (XF a0 a1 a2 a3) [3,59]=0:=(p1 (λz=>by have g:=QK (tr h12:Yu a2.num=_);omega)).trans (tr h5:Yu a1.num=_);have h16:ZI (XF a0 a1 a2 a3) [3,62]=1:=(p2 (λz=>by have g:=QK (tr h12:Yu a2.num=_);omega)).trans (tr h12:Yu a2.num=_);have H7:Csl (XF a0 a1 a2 a3) mk_k7:=.cons h16 (.cons h15 (.cons h14 (.cons h13 (.cons h12 H5))));have g0:=Yh.1 (tr h0:Yu a0.num=_);have g1:=Yh.1 (tr h5:Yu a1.num=_);have g2:=QK (tr h12:Yu a2.num=_);have hs:pS a0.num a1.num a2.num=1:=by unfold pS sgnI;rw[if_neg (by omega),if_neg (by omega),if_neg (by omega)]
 exact Calls.mono (leaf _ H7 mk_p5) λe w' ⟨v,S',q1,q2,blk,q3⟩=>⟨v,S',q1,q2,.inr ⟨λz=>by omega,Zfx H7 (qp hs) q3⟩⟩;have h17:ZI (XF a0 a1 a2 a3) [5,53]=0:=pz (λz=>by have g:=QL (tr h12:Yu a2.num=_);omega);have h18:ZI (XF a0 a1 a2 a3) [3,56]=0:=(p0 (λz=>by have g:=QL (tr h12:Yu a2.num=_);omega)).trans (tr h0:Yu a0.num=_);have h19:ZI (XF a0 a1 a2 a3) [3,59]=0:=(p1 (λz=>by have g:=QL (tr h12:Yu a2.num=_);omega)).trans (tr h5:Yu a1.num=_);have h20:ZI (XF a0 a1 a2 a3) [3,62]= -1:=(p2 (λz=>by have g:=QL (tr h12:Yu a2.num=_);omega)).trans (tr h12:Yu a2.num=_);have H8:Csl (XF a0 a1 a2 a3) mk_k8:=.cons h20 (.cons h19 (.cons h18 (.cons h17 (.cons h12 H5))));have g0:=Yh.1 (tr h0:Yu a0.num=_);have g1:=Yh.1 (tr h5:Yu a1.num=_);have g2:=QL (tr h12:Yu a2.num=_);have hs:pS a0.num a1.num a2.num= -1:=by unfold pS sgnI;rw[if_neg (by omega),if_neg (by omega),if_pos (by omega)]
 exact Calls.mono (leaf _ H8 mk_p4) λe w' ⟨v,S',q1,q2,blk,q3⟩=>⟨v,S',q1,q2,.inr ⟨λz=>by omega,Zfx H8 (qn hs) q3⟩⟩
def rk_r:List Rw:=[⟨[2,0],1,0⟩,⟨[2,1],1,0⟩,⟨[2,2],1,0⟩,⟨[2,3],1,0⟩,⟨[4,1],0,64⟩,⟨[16,0],1,0⟩,⟨[28,4,5],1,64⟩,⟨[32,5,6],1,0⟩,⟨[40,5,6],1,64⟩,⟨[24,4,7],1,64⟩,⟨[16,1],1,0⟩,⟨[28,9,10],2,64⟩,⟨[32,10,11],1,0⟩,⟨[40,10,11],2,64⟩,⟨[24,9,12],2,64⟩,⟨[16,2],1,0⟩,⟨[28,14,15],3,64⟩,⟨[32,15,16],1,0⟩,⟨[40,15,16],3,64⟩,⟨[24,14,17],3,64⟩,⟨[16,3],1,0⟩,⟨[28,19,20],4,64⟩,⟨[32,20,21],1,0⟩,⟨[40,20,21],4,64⟩,⟨[24,19,22],4,64⟩,⟨[17,24],4,64⟩,⟨[14,25],4,64⟩,⟨[30,0,26],5,64⟩,⟨[4,0],0,64⟩,⟨[20,27],5,64⟩,⟨[28,28,29],5,128⟩,⟨[30,1,26],5,64⟩,⟨[20,31],5,64⟩,⟨[28,30,32],10,192⟩,⟨[30,2,26],5,64⟩,⟨[20,34],5,64⟩,⟨[28,33,35],15,256⟩,⟨[30,3,26],5,64⟩,⟨[20,37],5,64⟩,⟨[28,36,38],20,320⟩,⟨[17,39],20,320⟩,⟨[14,40],20,320⟩,⟨[34,27,41],25,384⟩,⟨[18,42],25,384⟩,⟨[34,31,41],25,384⟩,⟨[18,44],25,384⟩,⟨[34,34,41],25,384⟩,⟨[18,46],25,384⟩,⟨[34,37,41],25,384⟩,⟨[18,48],25,384⟩]
def rk_T(cs:CL):Tb:=⟨rk_r,cs,1000000000⟩
def rk_G(cs:CL)(r:SV Ato):Prop:=Zdn symTabS (rk_T cs) 40 [.agg (cRs [0,1,2]),.agg (cRs [3])] r 200
def Zba(a0 a1 a2 a3:Rat):Nat->AV:=rho (rk_T []) (YV [a0,a1,a2,a3])
def rk_k0:CL:=([1,41],1)::[]
def rk_k1:CL:=([1,27],1)::rk_k0
theorem rk_p1(z0:Int)(z1:Int)(z2:Int):rk_G (([1,37],z2)::(([1,34],z1)::(([1,31],z0)::rk_k1))) (.agg (cRs [42,44,46,48])):=λ_ _ _=>by kernel_rfl
def rk_k2:CL:=([1,27],(-1))::rk_k0
theorem rk_p0(z0:Int)(z1:Int)(z2:Int):rk_G (([1,37],z2)::(([1,34],z1)::(([1,31],z0)::rk_k2))) (.agg (cRs [43,45,47,49])):=λ_ _ _=>by kernel_rfl
def rk_k3:CL:=([1,27],0)::rk_k0
def rk_k4:CL:=([1,31],1)::rk_k3
theorem rk_p3(z0:Int)(z1:Int):rk_G (([1,37],z1)::(([1,34],z0)::rk_k4)) (.agg (cRs [42,44,46,48])):=λ_ _ _=>by kernel_rfl
def rk_k5:CL:=([1,31],(-1))::rk_k3
theorem rk_p2(z0:Int)(z1:Int):rk_G (([1,37],z1)::(([1,34],z0)::rk_k5)) (.agg (cRs [43,45,47,49])):=λ_ _ _=>by kernel_rfl
def rk_k6:CL:=([1,31],0)::rk_k3
def rk_k7:CL:=([1,34],1)::rk_k6
theorem rk_p5(z0:Int):rk_G (([1,37],z0)::rk_k7) (.agg (cRs [42,44,46,48])):=λ_ _ _=>by kernel_rfl
def rk_k8:CL:=([1,34],(-1))::rk_k6
theorem rk_p4(z0:Int):rk_G (([1,37],z0)::rk_k8) (.agg (cRs [43,45,47,49])):=λ_ _ _=>by kernel_rfl
theorem cref05_Make{S:Sh}{w:World}(hS:ZV S w){c_a:List Value}{a0 a1 a2:Rat}{k_a:Nat}(h_a:Gs S c_a [a0,a1,a2] k_a){c_b:List Value}{a3:Rat}{k_b:Nat}(h_b:Gs S c_b [a3] k_b)(hlim:k_a<=1000000000)(hlim2:k_b<=1000000000)(hn0:¬(a0.num=0/\a1.num=0/\a2.num=0)):
  Calls prog 40 [(.agg (c_a:List Value).toArray),(.agg (c_b:List Value).toArray)].toArray w (Ret S w (λS v=>∃(c0:List Value),v= .agg c0.toArray/\Gs S c0 [pn a0 a1 a2 a3 a0,pn a0 a1 a2 a3 a1,pn a0 a1 a2 a3 a2,pn a0 a1 a2 a3 a3] (25*max k_a k_b+384))):=by
 have leaf:=λcs hc {r} (h:rk_G cs r)=>YX symTabS_OK (K:=max k_a k_b) (base:=YV [a0,a1,a2,a3]) (by kernel_rfl) (by omega) (by kernel_rfl) hS (λ_ _=>.cons (.agg (Zh5 (is:=[0,1,2]) (qs:=[a0,a1,a2]) (k:=max k_a k_b) ⟨by kernel_rfl,le1 _,by kernel_rfl,le1 _,by kernel_rfl,le1 _,trivial⟩<|Gs.wide (by omega) h_a)) (.cons (.agg (Zh5 (is:=[3]) (qs:=[a3]) (k:=max k_a k_b) ⟨by kernel_rfl,le1 _,trivial⟩<|Gs.wide (by omega) h_b)) .nil)) cs hc h;have qn:pS a0.num a1.num a2.num= -1->QsI (Zba a0 a1 a2 a3) (Zej (rk_T [])<|max k_a k_b) (25*max k_a k_b+384) [43,45,47,49] [pn a0 a1 a2 a3 a0,pn a0 a1 a2 a3 a1,pn a0 a1 a2 a3 a2,pn a0 a1 a2 a3 a3]:=λhs=>⟨(by kernel_rfl:(Zba a0 a1 a2 a3) 43= .q (-(rM a0 a1 a2 a3 a0/(((rG a0 a1 a2 a3:Nat):Int):Rat)))).trans (congrArg AV.q<|ref_neg hn0 hs (pL_a a0 a1 a2 a3) (Zc6 a0 a1 a2 a3).1),Nat.le_refl _,(by kernel_rfl:(Zba a0 a1 a2 a3) 45= .q (-(rM a0 a1 a2 a3 a1/(((rG a0 a1 a2 a3:Nat):Int):Rat)))).trans (congrArg AV.q<|ref_neg hn0 hs (pL_b a0 a1 a2 a3) (Zc6 a0 a1 a2 a3).2.1),Nat.le_refl _,(by kernel_rfl:(Zba a0 a1 a2 a3) 47= .q (-(rM a0 a1 a2 a3 a2/(((rG a0 a1 a2 a3:Nat):Int):Rat)))).trans (congrArg AV.q<|ref_neg hn0 hs (pL_c a0 a1 a2 a3) (Zc6 a0 a1 a2 a3).2.2.1),Nat.le_refl _,(by kernel_rfl:(Zba a0 a1 a2 a3) 49= .q (-(rM a0 a1 a2 a3 a3/(((rG a0 a1 a2 a3:Nat):Int):Rat)))).trans (congrArg AV.q<|ref_neg hn0 hs (pL_d a0 a1 a2 a3) (Zc6 a0 a1 a2 a3).2.2.2),Nat.le_refl _,trivial⟩;have qp:pS a0.num a1.num a2.num=1->QsI (Zba a0 a1 a2 a3) (Zej (rk_T [])<|max k_a k_b) (25*max k_a k_b+384) [42,44,46,48] [pn a0 a1 a2 a3 a0,pn a0 a1 a2 a3 a1,pn a0 a1 a2 a3 a2,pn a0 a1 a2 a3 a3]:=λhs=>⟨(by kernel_rfl:(Zba a0 a1 a2 a3) 42= .q (rM a0 a1 a2 a3 a0/(((rG a0 a1 a2 a3:Nat):Int):Rat))).trans (congrArg AV.q<|ref_pos hn0 hs (pL_a a0 a1 a2 a3) (Zc6 a0 a1 a2 a3).1),Nat.le_refl _,(by kernel_rfl:(Zba a0 a1 a2 a3) 44= .q (rM a0 a1 a2 a3 a1/(((rG a0 a1 a2 a3:Nat):Int):Rat))).trans (congrArg AV.q<|ref_pos hn0 hs (pL_b a0 a1 a2 a3) (Zc6 a0 a1 a2 a3).2.1),Nat.le_refl _,(by kernel_rfl:(Zba a0 a1 a2 a3) 46= .q (rM a0 a1 a2 a3 a2/(((rG a0 a1 a2 a3:Nat):Int):Rat))).trans (congrArg AV.q<|ref_pos hn0 hs (pL_c a0 a1 a2 a3) (Zc6 a0 a1 a2 a3).2.2.1),Nat.le_refl _,(by kernel_rfl:(Zba a0 a1 a2 a3) 48= .q (rM a0 a1 a2 a3 a3/(((rG a0 a1 a2 a3:Nat):Int):Rat))).trans (congrArg AV.q<|ref_pos hn0 hs (pL_d a0 a1 a2 a3) (Zc6 a0 a1 a2 a3).2.2.2),Nat.le_refl _,trivial⟩;have h0:ZI (Zba a0 a1 a2 a3) [1,41]=1:=(by kernel_rfl:ZI (Zba a0 a1 a2 a3) [1,41]=Yu (((rG a0 a1 a2 a3:Nat):Int):Rat).num).trans (rG_sgn hn0);have H0:Csl (Zba a0 a1 a2 a3) rk_k0:=.cons h0 .nil;rcases Zcm (Zba a0 a1 a2 a3) (t:=1) (is:=[27]) (by decide) with h1|h1|h1;rotate_left 2
 have H1:Csl (Zba a0 a1 a2 a3) rk_k1:=.cons h1 H0;have g0:=QK ((Zb9<|pL_a a0 a1 a2 a3).symm.trans (tr h1:Yu (rM a0 a1 a2 a3 a0).num=_));have hs:pS a0.num a1.num a2.num=1:=by unfold pS sgnI;rw[if_pos (by omega),if_neg (by omega)]
 refine Calls.mono (leaf _ (.cons (show ZI (Zba a0 a1 a2 a3) [1,37]=_ from rfl) (.cons (show ZI (Zba a0 a1 a2 a3) [1,34]=_ from rfl) (.cons (show ZI (Zba a0 a1 a2 a3) [1,31]=_ from rfl) H1)))<|rk_p1 _ _ _) λe w' ⟨v,S',q1,q2,blk,q3⟩=>⟨v,S',q1,q2,?_⟩
 cases q3 with
 |agg h4=>exact⟨_,rfl,Zgo (qp hs) h4⟩
 have H2:Csl (Zba a0 a1 a2 a3) rk_k2:=.cons h1 H0;have g0:=QL ((Zb9<|pL_a a0 a1 a2 a3).symm.trans (tr h1:Yu (rM a0 a1 a2 a3 a0).num=_));have hs:pS a0.num a1.num a2.num= -1:=by unfold pS sgnI;rw[if_pos (by omega),if_pos (by omega)]
 refine Calls.mono (leaf _ (.cons (show ZI (Zba a0 a1 a2 a3) [1,37]=_ from rfl) (.cons (show ZI (Zba a0 a1 a2 a3) [1,34]=_ from rfl) (.cons (show ZI (Zba a0 a1 a2 a3) [1,31]=_ from rfl) H2)))<|rk_p0 _ _ _) λe w' ⟨v,S',q1,q2,blk,q3⟩=>⟨v,S',q1,q2,?_⟩
 cases q3 with
 |agg h4=>exact⟨_,rfl,Zgo (qn hs) h4⟩
 have H3:Csl (Zba a0 a1 a2 a3) rk_k3:=.cons h1 H0;rcases Zcm (Zba a0 a1 a2 a3) (t:=1) (is:=[31]) (by decide) with h2|h2|h2;rotate_left 2
 have H4:Csl (Zba a0 a1 a2 a3) rk_k4:=.cons h2 H3;have g0:=Yh.1 ((Zb9<|pL_a a0 a1 a2 a3).symm.trans (tr h1:Yu (rM a0 a1 a2 a3 a0).num=_));have g1:=QK ((Zb9<|pL_b a0 a1 a2 a3).symm.trans (tr h2:Yu (rM a0 a1 a2 a3 a1).num=_));have hs:pS a0.num a1.num a2.num=1:=by unfold pS sgnI;rw[if_neg (by omega),if_pos (by omega),if_neg (by omega)]
 refine Calls.mono (leaf _ (.cons (show ZI (Zba a0 a1 a2 a3) [1,37]=_ from rfl) (.cons (show ZI (Zba a0 a1 a2 a3) [1,34]=_ from rfl) H4))<|rk_p3 _ _) λe w' ⟨v,S',q1,q2,blk,q3⟩=>⟨v,S',q1,q2,?_⟩
 cases q3 with
 |agg h4=>exact⟨_,rfl,Zgo (qp hs) h4⟩
 have H5:Csl (Zba a0 a1 a2 a3) rk_k5:=.cons h2 H3;have g0:=Yh.1 ((Zb9<|pL_a a0 a1 a2 a3).symm.trans (tr h1:Yu (rM a0 a1 a2 a3 a0).num=_));have g1:=QL ((Zb9<|pL_b a0 a1 a2 a3).symm.trans (tr h2:Yu (rM a0 a1 a2 a3 a1).num=_));have hs:pS a0.num a1.num a2.num= -1:=by unfold pS sgnI;rw[if_neg (by omega),if_pos (by omega),if_pos (by omega)]
 refine Calls.mono (leaf _ (.cons (show ZI (Zba a0 a1 a2 a3) [1,37]=_ from rfl) (.cons (show ZI (Zba a0 a1 a2 a3) [1,34]=_ from rfl) H5))<|rk_p2 _ _) λe w' ⟨v,S',q1,q2,blk,q3⟩=>⟨v,S',q1,q2,?_⟩
 cases q3 with
 |agg h4=>exact⟨_,rfl,Zgo (qn hs) h4⟩
 have H6:Csl (Zba a0 a1 a2 a3) rk_k6:=.cons h2 H3;rcases Zcm (Zba a0 a1 a2 a3) (t:=1) (is:=[34]) (by decide) with h3|h3|h3;rotate_left
 exact absurd h3 (λ_=>hn0 ⟨Yh.1 ((Zb9<|pL_a a0 a1 a2 a3).symm.trans (tr h1:Yu (rM a0 a1 a2 a3 a0).num=_)),Yh.1 ((Zb9<|pL_b a0 a1 a2 a3).symm.trans (tr h2:Yu (rM a0 a1 a2 a3 a1).num=_)),Yh.1 ((Zb9<|pL_c a0 a1 a2 a3).symm.trans (tr h3:Yu (rM a0 a1 a2 a3 a2).num=_))⟩);have H7:Csl (Zba a0 a1 a2 a3) rk_k7:=.cons h3 H6;have g0:=Yh.1 ((Zb9<|pL_a a0 a1 a2 a3).symm.trans (tr h1:Yu (rM a0 a1 a2 a3 a0).num=_));have g1:=Yh.1 ((Zb9<|pL_b a0 a1 a2 a3).symm.trans (tr h2:Yu (rM a0 a1 a2 a3 a1).num=_));have g2:=QK ((Zb9<|pL_c a0 a1 a2 a3).symm.trans (tr h3:Yu (rM a0 a1 a2 a3 a2).num=_));have hs:pS a0.num a1.num a2.num=1:=by unfold pS sgnI;rw[if_neg (by omega),if_neg (by omega),if_neg (by omega)]
 refine Calls.mono (leaf _ (.cons (show ZI (Zba a0 a1 a2 a3) [1,37]=_ from rfl) H7)<|rk_p5 _) λe w' ⟨v,S',q1,q2,blk,q3⟩=>⟨v,S',q1,q2,?_⟩
 cases q3 with
 |agg h4=>exact⟨_,rfl,Zgo (qp hs) h4⟩
 have H8:Csl (Zba a0 a1 a2 a3) rk_k8:=.cons h3 H6;have g0:=Yh.1 ((Zb9<|pL_a a0 a1 a2 a3).symm.trans (tr h1:Yu (rM a0 a1 a2 a3 a0).num=_));have g1:=Yh.1 ((Zb9<|pL_b a0 a1 a2 a3).symm.trans (tr h2:Yu (rM a0 a1 a2 a3 a1).num=_));have g2:=QL ((Zb9<|pL_c a0 a1 a2 a3).symm.trans (tr h3:Yu (rM a0 a1 a2 a3 a2).num=_));have hs:pS a0.num a1.num a2.num= -1:=by unfold pS sgnI;rw[if_neg (by omega),if_neg (by omega),if_pos (by omega)]
 refine Calls.mono (leaf _ (.cons (show ZI (Zba a0 a1 a2 a3) [1,37]=_ from rfl) H8)<|rk_p4 _) λe w' ⟨v,S',q1,q2,blk,q3⟩=>⟨v,S',q1,q2,?_⟩
 cases q3 with
 |agg h4=>exact⟨_,rfl,Zgo (qn hs) h4⟩
theorem cref03_low{S:Sh}{w:World}(hS:ZV S w){mi:Bool}{c_a:Value}{a k_a:Nat}(h_a:Gn S c_a a k_a){c_b:Value}{b k_b:Nat}(h_b:Gn S c_b b k_b)(h0:0<b)(hlim:k_a<=540000000000)(hlim2:k_b<=540000000000):
  Calls prog 102 [(.bool mi),c_a,c_b].toArray w (Ret S w (λS v=>∃(c0:List Value),v= .agg c0.toArray/\Gs S c0 [mkRat (sI mi a) b] (k_a+k_b))):=by
 cases mi;exact cref03_low0 hS h_a h_b h0 hlim hlim2;exact cref03_low1 hS h_a h_b h0 hlim hlim2
theorem whole_n0{a:Nat}(h:(0:Int)<(((ZL W16 a).length:Nat):Int)):(⟨#[45]⟩:ByteArray)++txt a=Xb (Zgb<|sI true a):=by
 have h2:=Qu (n:=a) (by omega);have e:a=(sI true a).natAbs:=by show a=(-(a:Int)).natAbs;omega
 conv=>lhs;rw[e]
 exact ztxt_neg (by show -(a:Int)<0;omega)
theorem whole_n1{a:Nat}(h:¬(0:Int)<(((ZL W16 a).length:Nat):Int)):txt a=Xb (Zgb<|sI true a):=by
 obtain rfl:=Zaq (n:=a) (by omega);exact ztxt_nn (a:=sI true 0) (by decide)
theorem whole_p{a:Nat}:txt a=Xb (Zgb<|sI false a):=by
 have e:a=(sI false a).natAbs:=by show a=(a:Int).natAbs;omega
 conv=>lhs;rw[e]
 exact ztxt_nn (by show ¬(a:Int)<0;omega)
theorem sI_num(q:Rat):sI (decide (q<0)) q.num.natAbs=q.num:=by
 unfold sI;by_cases h:q<0;have:=Qz.2 h;simp only[h,decide_true,if_true];omega;have h3:¬q.num<0:=λz=>h<|Qz.1 z;simp only[h,decide_false,Bool.false_eq_true,if_false];omega
theorem zero_bd{k:Nat}:(0:Rat).num.natAbs<=2^k/\(0:Rat).den<=2^k:=⟨Nat.zero_le _,Nat.one_le_two_pow⟩
theorem Zht{l:List Nat}:Zdq l=decide (l.getD 0 0=45):=by
 unfold Zdq Zae
 cases l with
 |nil=>rfl
 |cons c r=>
  by_cases h:c=47
  ·subst h;rfl
  ·simp[Zci,h]
theorem cut_min{l:List Nat}(h:Zdq l=true):QD l=Zae (l.drop 1)/\QI l=QI (l.drop 1)/\Zev l=Zev (l.drop 1):=by
 have h0:=h;rw[Zht] at h
 cases l with
 |nil=>simp at h
 |cons c r=>
  have hc:c=45:=by simpa using h
  subst hc
  unfold QD QI
  rw[h0]
  refine⟨?_,?_,?_⟩
  ·rfl
  ·rfl
  ·rfl
theorem cut_nomin{l:List Nat}(h:Zdq l=false):QD l=Zae l:=by unfold QD;rw[h];rfl
def strk(l:List Nat)(n:Nat):Nat:=n+(Zae<|l.drop n).length
theorem strk_end(l:List Nat):strk l l.length=l.length:=by
 unfold strk;rw[List.drop_length];rfl
theorem drop_pred{l:List Nat}{n:Nat}(h0:0<n)(h:n<=l.length):l.drop (n-1)=l.getD (n-1) 0::l.drop n:=by
 have hl:n-1<l.length:=by omega
 rw[List.drop_eq_getElem_cons hl,List.getD_eq_getElem?_getD,List.getElem?_eq_getElem hl,show n-1+1=n by omega];rfl
theorem strk_hit{l:List Nat}{n:Nat}(h0:0<n)(h:n<=l.length)(e:l.getD (n-1) 0=47):strk l (n-1)=n-1:=by
 unfold strk;rw[drop_pred h0 h,e];rfl
theorem strk_miss{l:List Nat}{n:Nat}(h0:0<n)(h:n<=l.length)(e:¬l.getD (n-1) 0=47):strk l (n-1)=strk l n:=by
 unfold strk;rw[drop_pred h0 h];unfold Zae;simp only[Zci,e,if_false,List.length_cons];omega
theorem strk_zero(l:List Nat):strk l 0=(Zae l).length:=by unfold strk;rw[List.drop_zero];omega
theorem Zcr{l:List Nat}:(((strk l 0:Nat):Int)<((l.length:Nat):Int))↔Zev l=true:=by
 rw[strk_zero];have hi:Zho l=if Zev l=true then((Zae l).length:Int) else -1:=rfl;constructor;intro h;by_cases q:Zev l=true;exact q;exfalso;have:=idx47_neg (l:=l) (by rw[hi,if_neg q];omega);rw[this.2.1] at h;omega;intro q;have h:=(Zhn (l:=l) (by rw[hi,if_pos q];omega)).2.2;have:=congrArg List.length h;rw[List.length_append,List.length_cons] at this;omega
theorem strk_num{t:ByteArray}{n:Nat}(h:n=strk (bl t) 0):bl (t.extract 0 n)=Zae (bl t):=by
 rw[Zb3,List.drop_zero,h,strk_zero];by_cases q:Zev (bl t)=true;have h2:=(Zhn (l:=bl t) (by unfold Zho;rw[if_pos q];omega)).2.2;exact(congrArg (List.take _) h2).trans List.take_left;have h2:=(idx47_neg (l:=bl t) (by unfold Zho;rw[if_neg q];omega)).2.1;rw[h2,List.take_length]
theorem strk_den{t:ByteArray}{n:Nat}(h:n=strk (bl t) 0+1)(q:Zev (bl t)=true):bl (t.extract n t.size)=QI (bl t):=by
 rw[strk_zero] at h;have h2:=(Zhn (l:=bl t) (by unfold Zho;rw[if_pos q];omega)).2.2;rw[cut_right h2 h,Qr (Zef<|bl_lt t).2];unfold QI;rw[if_pos q]
theorem str49{sz:ByteArray}:sz=(⟨#[49]⟩:ByteArray)↔bl sz=[49]:=⟨λh=>by rw[h];rfl,λh=>bl_inj (by rw[h];rfl)⟩
theorem wd_small{l:List Nat}(h:wd l)(h0:l≠[48])(h1:l≠[49]):Xw l≠0/\Xw l≠1:=
 ⟨λe=>h0 (by rw[<-Zch h,e];rfl),λe=>h1 (by rw[<-Zch h,e,<-Zhj];exact Zch ⟨by simp,by simp,Or.inl rfl⟩)⟩
theorem ref_same{s:ByteArray}(hb:¬Zew (bl s))(hl:¬QA (bl s))(h1:Zev (bl s)=true->Xw (QI<|bl s)≠0/\Xw (QI<|bl s)≠1)(e:Xb (rtxt<|mkRat (fraw<|bl s)<|Xw<|QI<|bl s)=s):YP (bl s)=0/\Yz (bl s)=mkRat (fraw<|bl s) (Xw<|QI<|bl s):=by
 have h2:¬fred (bl s):=(rtxt_raw hb h1).1 (by have:=congrArg bl e;rwa [Qr (rtxt_lt _)] at this);have h3:=(ferr_ok hb hl h2).1;exact⟨h3,fval_ok h3⟩
theorem ref_other{s:ByteArray}(hb:¬Zew (bl s))(hl:¬QA (bl s))(h1:Zev (bl s)=true->Xw (QI<|bl s)≠0/\Xw (QI<|bl s)≠1)(e:¬Xb (rtxt<|mkRat (fraw<|bl s)<|Xw<|QI<|bl s)=s):YP (bl s)=12/\Yz (bl s)=0:=by
 refine Zd8 hb hl<|Classical.not_not.1 λh2=>e<|bl_inj ?_;rw[Qr (rtxt_lt _)];exact(rtxt_raw hb h1).2 h2
theorem Zgm{S:Sh}{w:World}(hS:ZV S w){s:ByteArray}(hlim:s.size<=1099511627776):Calls prog 100 [(.string s)].toArray w (Ret S w (λS v=>v= .bool (decide<|wd<|bl s))):=by
 refine Calls.mono (cref01_Digits hS hlim) λe w' ⟨v,S',q1,q2,h⟩=>⟨v,S',q1,q2,?_⟩;rcases h with⟨h,e⟩|⟨h,e⟩;rw[e,decide_eq_true h];rw[e,decide_eq_false h]
theorem ref_dp{l:List Nat}(h:Zev l=true->Xw (QI l)≠0/\Xw (QI l)≠1):0<Xw (QI l):=by
 by_cases q:Zev l=true;exact Nat.pos_of_ne_zero (h q).1;rw[show QI l=[49] by unfold QI;rw[if_neg q],Zhj];decide
theorem not_bad{l:List Nat}(h1:wd (QD l))(h2:wd (QI l))(h3:¬(Zdq l=true/\QD l=[48])):¬Zew l:=λq=>q.elim (λq=>q h1) (λq=>q.elim (λq=>q h2) h3)
theorem bl_tail{s:ByteArray}:bl (s.extract 1 s.size)=(bl s).drop 1:=by
 rw[Zb3,List.take_of_length_le (by rw[YK];omega)]
theorem min_pos{l:List Nat}(h:Zdq l=true):0<l.length:=by
 cases l with
 |nil=>exact absurd h (by decide)
 |cons a r=>simp
theorem pval_01{l:List Nat}(h:l=[48]\/l=[49]):Xw l<2:=by rcases h with rfl|rfl <;> decide
theorem agg_44:Zgf prog 44=some false:=by kernel_rfl
theorem Zdm:Zgf prog 46=some true:=by kernel_rfl
theorem Xp:Yy prog 46=some 3:=by kernel_rfl
theorem zero_46:XT prog 46=some (.agg ([(.bool false),(.slice none 0 0),(.slice none 0 0)]:List Value).toArray):=by kernel_rfl
theorem field_46_0:Zaf prog 46 0=some (0,4,1):=by kernel_rfl
theorem field_46_1:Zaf prog 46 1=some (1,44,1):=by kernel_rfl
theorem field_46_2:Zaf prog 46 2=some (2,44,1):=by kernel_rfl
theorem ent_56:ZR prog 56=true:=by kernel_rfl
theorem ent_100:ZR prog 100=true:=by kernel_rfl
theorem Zfk:ZR prog 101=true:=by kernel_rfl
theorem ent_102:ZR prog 102=true:=by kernel_rfl
theorem ent_103:ZR prog 103=true:=by kernel_rfl
theorem ent_119:ZR prog 119=true:=by kernel_rfl
theorem ent_120:ZR prog 120=true:=by kernel_rfl
theorem ent_121:ZR prog 121=true:=by kernel_rfl
theorem cref03_Whole{S:Sh}{w:World}(hS:ZV S w){mi:Bool}{c_a:Value}{a k_a:Nat}(h_a:Gn S c_a a k_a)(hlim:k_a<=100000000000):Calls prog 119 [(.bool mi),c_a].toArray w (Ret S w (λS v=>v= .string (Xb<|Zgb<|sI mi a))):=by
 refine cbd hS (n:=17) func119 rfl λ_ L0 R0=>?_;obtain rfl|rfl:mi=true\/mi=false:=by cases mi <;> simp
 refine wA<|sa L0 rfl<|SW<|Sm rfl<|So rfl<|Zi rfl ent_121 (Zg5 R0.holds h_a (by omega)) λv_1 _ _ x1 v1=>?_;have R1:=R0.call x1;have l1:=x1.le;obtain rfl:=v1;intro _ L3;refine sa L3 rfl<|SVv<|Sm rfl<|Sm rfl<|Sn rfl<|Zd rfl<|Sn rfl<|Zdh rfl underlying44 (h_a.up l1) λ_ L8=>?_;by_cases t1:(0:Int)<(((ZL W16 a).length:Nat):Int);refine sN L8 rfl<|cT t1 (ZF rfl rfl)<|So rfl<|Ze rfl rfl<|kP [4,5,13] rfl<|ST rfl λ_ L11=>Za<|sm L11 rfl<|So rfl<|Qa (z:=((⟨#[45]⟩:ByteArray)++(txt a))) rfl rfl (by rw[Zfr];have q:=Zar h_a.1;(show 1+_<=_);omega) rfl<|Sa rfl<|SW<|Sm rfl<|Sa rfl λ_ L16=>sn<|wp_ret<|rt (L16.kp [4] rfl) (.tmp rfl Res.nil) ?_;exact⟨_,_,rfl,R1.ext,(by first|exact congrArg Value.string (whole_n0 (by assumption))|exact congrArg Value.string (whole_n1 (by assumption))|exact congrArg Value.string whole_p)⟩;exact sN L8 rfl<|cF t1 (ZF rfl rfl)<|So rfl<|Ze rfl rfl<|kP [4,5,13] rfl<|SF rfl λ_ L20=>wp_skip<|Zc<|wA<|sm L20 rfl<|Sa rfl λ_ L22=>sn<|wp_ret<|rt L22 (.tmp rfl Res.nil)<|⟨_,_,rfl,R1.ext,(by first|exact congrArg Value.string (whole_n0 (by assumption))|exact congrArg Value.string (whole_n1 (by assumption))|exact congrArg Value.string whole_p)⟩;refine wA<|sa L0 rfl<|SW<|Sm rfl<|So rfl<|Zi rfl ent_121 (Zg5 R0.holds h_a (by omega)) λv_2 _ _ x2 v2=>?_;have R2:=R0.call x2;obtain rfl:=v2;intro _ L25;exact sa L25 rfl<|SVv<|Sm rfl<|Sm rfl<|Sf rfl<|Sf rfl<|Sf rfl<|So rfl<|Ze rfl rfl<|kP [4,5,13] rfl<|SF rfl λ_ L33=>wp_skip<|Zc<|wA<|sm L33 rfl<|Sa rfl λ_ L35=>sn<|wp_ret<|rt L35 (.tmp rfl Res.nil)<|⟨_,_,rfl,R2.ext,(by first|exact congrArg Value.string (whole_n0 (by assumption))|exact congrArg Value.string (whole_n1 (by assumption))|exact congrArg Value.string whole_p)⟩
theorem cref03_Text{S:Sh}{w:World}(hS:ZV S w){c_a:List Value}{a:Rat}{k_a:Nat}(h_a:Gs S c_a [a] k_a)(hlim:k_a<=100000000000):Calls prog 56 [(.agg (c_a:List Value).toArray)].toArray w (Ret S w (λS v=>v= .string (Xb<|rtxt a))):=by
 refine cbd hS (n:=22) func56 rfl λ_ L0 R0=>?_;have hle:=h_a.le;have hzl:=ztxt_len hle.1;have hdl:=Zar hle.2;rw[<-sI_num a] at hzl;refine wA<|sO L0 rfl<|ZW (cs:=c_a) rfl R0 rfl λb1 _ _ l1 r1 R1=>Sa rfl<|SW<|So rfl<|Zg (off':=0) rfl field_46_0 rfl<|So rfl<|Zk rfl Zcq (R1.row r1) (h_a.up l1).sgn (So rfl<|Zg (off':=1) rfl field_46_1 rfl λ_ L5=>?_);obtain⟨c1,e1,h1⟩:=(h_a.up l1).cn;refine sO L5 rfl<|Zk rfl agg_44 (R1.row r1) e1<|So rfl<|Zi rfl ent_119 (cref03_Whole R1.holds (mi:=(decide (a<0))) h1 (by omega)) λv_1 _ _ x1 v1=>?_;have R2:=R1.call x1;have l2:=x1.le;obtain rfl:=v1;intro _ L7;refine sa L7 rfl<|kP [1,2,3] rfl<|SW<|So rfl<|Zg (off':=2) rfl field_46_2 rfl λ_ L10=>?_;obtain⟨c2,e2,h2⟩:=(h_a.up<|l1.trans l2).cd;refine sO L10 rfl<|Zk rfl agg_44 (R2.row<|r1.up l2) e2<|So rfl<|Zi rfl ent_120 (cref01_One R2.holds h2) λv_2 _ _ x2 v2=>?_;have R3:=R2.call x2;have l3:=x2.le;rcases v2 with⟨t1,rfl⟩|⟨t2,rfl⟩;intro _ L12;exact sa L12 rfl<|SVv<|Sm rfl<|So rfl<|YM rfl rfl<|kP [1,2,3,14] rfl<|SF rfl λ_ L16=>wp_skip<|Zc<|wA<|sm L16 rfl<|Sa rfl λ_ L18=>sn<|wp_ret<|rt L18 (.tmp rfl Res.nil)<|⟨_,_,rfl,R3.ext,(by rw[sI_num];first|exact congrArg Value.string (rtxt_int (by assumption))|exact congrArg Value.string<|rtxt_frac (by assumption))⟩;intro _ L19;refine sa L19 rfl<|SVv<|Sm rfl<|So rfl<|YM rfl rfl<|kP [1,2,3,14] rfl<|ST rfl λ_ L23=>Za<|sm L23 rfl<|So rfl<|Qa (z:=((Xb<|Zgb<|sI (decide (a<0)) a.num.natAbs)++(⟨#[47]⟩:ByteArray))) rfl rfl (by simp only[ByteArray.size_append,Zfc,Zfr,show(⟨#[47]⟩:ByteArray).size=1 from rfl];omega) rfl<|So rfl<|Zg (off':=2) rfl field_46_2 rfl λ_ L26=>?_;obtain⟨c3,e3,h3⟩:=(h_a.up<|l1.trans<|l2.trans l3).cd;refine sO L26 rfl<|Zk rfl agg_44 (R3.row<|r1.up<|l2.trans l3) e3<|So rfl<|Zi rfl ent_121 (Zg5 R3.holds h3 (by omega)) λv_3 _ _ x3 v3=>?_;have R4:=R3.call x3;obtain rfl:=v3;intro _ L28;exact sO L28 rfl<|Qa (z:=(((Xb<|Zgb<|sI (decide (a<0)) a.num.natAbs)++(⟨#[47]⟩:ByteArray))++(txt a.den))) rfl rfl (by simp only[ByteArray.size_append,Zfc,Zfr,show(⟨#[47]⟩:ByteArray).size=1 from rfl];omega) rfl<|Sa rfl<|kP [2,3] rfl<|SW<|Sm rfl<|Sa rfl λ_ L33=>sn<|wp_ret<|rt L33 (.tmp rfl Res.nil)<|⟨_,_,rfl,R4.ext,(by rw[sI_num];first|exact congrArg Value.string (rtxt_int (by assumption))|exact congrArg Value.string<|rtxt_frac (by assumption))⟩
theorem Qq{S:Sh}{w:World}(hS:ZV S w){n:Int}(hn:n=0):Calls prog 101 [(.int .i64 n)].toArray w (Ret S w (λS v=>∃(c0:List Value),v= .agg c0.toArray/\Gs S c0 [0] 0)):=by
 refine cbd hS (n:=16) func101 rfl λ_ L0 R0=>wA<|sO L0 rfl<|ZK (cs:=[(.bool false),(.slice none 0 0),(.slice none 0 0)]) zero_46 R0 rfl λb1 _ R1=>SW<|Sm rfl<|So rfl<|Yv (z:=((0:Nat):Int)) rfl rfl underlying29 (by subst hn;rfl)<|Sa rfl<|SVv<|Sm rfl λ_ L5=>?_;by_cases t1:n<(0:Int);refine sO L5 rfl<|cT t1 (Zs rfl rfl)<|ST rfl λ_ L6=>Za<|sm L6 rfl<|So rfl<|does_neg (z:=(0-((0:Nat):Int))) rfl Zav<|Sa rfl<|kP [0,2,3] rfl<|SW<|Sm rfl<|So rfl<|cT t1 (Zs rfl rfl)<|Sm rfl<|So rfl<|Zi rfl Zea (QE R1.holds (n:=(0-0)) (by omega)) λv_1 _ _ x1 v1=>?_;have R2:=R1.call x1;obtain⟨c1,e1,h1⟩:=v1;obtain rfl:=e1.symm;intro _ L14;refine sO L14 rfl<|Zi rfl Zea (QE R2.holds (n:=1) (by omega)) λv_2 _ _ x2 v2=>?_;have R3:=R2.call x2;have l2:=x2.le;obtain⟨c2,e2,h2⟩:=v2;obtain rfl:=e2.symm;intro _ L15;refine sO L15 rfl<|Zi rfl ent_102 (cref03_low R3.holds (mi:=true) (h1.up l2) h2 (by decide) (by omega) (by omega)) λv_3 _ _ x3 v3=>?_;have R4:=R3.call x3;obtain⟨cs_1,rfl,h3⟩:=v3;intro _ L16;exact sZ L16 rfl<|Zm rfl rfl R4 Xp h3.len rfl h3.ones λ_ R5 _ L17=>(sn<|wp_ret<|rt (L17.kp [2] rfl) (Res.aggW rfl Zdm Xp (R5.has<|List.Mem.head _) h3.len Res.nil)<|⟨_,_,rfl,R5.ext,⟨_,rfl,(h3.toR (by rfl) zero_bd)⟩⟩);refine sO L5 rfl<|cF t1 (Zs rfl rfl)<|SF rfl λ_ L19=>wp_skip<|Zc<|wA<|sm L19 rfl<|So rfl<|cF t1 (Zs rfl rfl)<|Sm rfl<|So rfl<|Zi rfl Zea (QE R1.holds (n:=0) (by omega)) λv_4 _ _ x4 v4=>?_;have R6:=R1.call x4;obtain⟨c3,e3,h4⟩:=v4;obtain rfl:=e3.symm;intro _ L23;refine sO L23 rfl<|Zi rfl Zea (QE R6.holds (n:=1) (by omega)) λv_5 _ _ x5 v5=>?_;have R7:=R6.call x5;have l5:=x5.le;obtain⟨c4,e4,h5⟩:=v5;obtain rfl:=e4.symm;intro _ L24;refine sO L24 rfl<|Zi rfl ent_102 (cref03_low R7.holds (mi:=false) (h4.up l5) h5 (by decide) (by omega) (by omega)) λv_6 _ _ x6 v6=>?_;have R8:=R7.call x6;obtain⟨cs_2,rfl,h6⟩:=v6;intro _ L25;exact sZ L25 rfl<|Zm rfl rfl R8 Xp h6.len rfl h6.ones λ_ R9 _ L26=>(sn<|wp_ret<|rt (L26.kp [2] rfl) (Res.aggW rfl Zdm Xp (R9.has<|List.Mem.head _) h6.len Res.nil)<|⟨_,_,rfl,R9.ext,⟨_,rfl,(h6.toR (by rfl) zero_bd)⟩⟩)
theorem cref03_Parse{S:Sh}{w:World}(hS:ZV S w){s:ByteArray}(hlim:s.size<=1099511627775):Calls prog 33 [(.string s)].toArray w (Ret S w (λS v=>∃(c0:List Value),v= .tuple [.agg c0.toArray,.int .i64 (YP<|bl s)].toArray/\Gs S c0 [Yz (bl s)] 900)):=by
 refine cbd hS (n:=102) func33 rfl λ_ L0 R0=>?_;have hbs:=YK s;refine wA<|sO L0 rfl<|ZK (cs:=[(.bool false),(.slice none 0 0),(.slice none 0 0)]) zero_46 R0 rfl λb1 _ R1=>Sa rfl λ_ L2=>sn<|Xr (λac ww=>∃(S':Sh)(mi:Bool),S.le S'/\ZD ac 102 [(0,(.string s)),(2,(.pointer (some ⟨b1,0,none⟩))),(3,(.int .i64 (0:Int))),(4,(.bool (decide (mi=true))))]/\Run S w S' [(b1,46,[(.bool false),(.slice none 0 0),(.slice none 0 0)])] ww/\(mi=Zdq (bl s))) ?_ ?_;rintro ac1 _ ⟨S1,mi,l1,L3,R2,hmi⟩;refine wA<|sm L3 rfl<|Sa rfl λ_ L5=>sn<|Xr (λac ww=>∃(S':Sh)(mi:Bool)(tt:ByteArray),S1.le S'/\ZD ac 102 [(0,(.string s)),(2,(.pointer (some ⟨b1,0,none⟩))),(3,(.int .i64 (0:Int))),(5,(.string tt)),(4,(.bool (decide (mi=true))))]/\Run S w S' [(b1,46,[(.bool false),(.slice none 0 0),(.slice none 0 0)])] ww/\(mi=Zdq (bl s))/\(QD (bl s)=Zae (bl tt)/\QI (bl s)=QI (bl tt)/\Zev (bl s)=Zev (bl tt))/\(tt.size<=s.size)) ?_ ?_;rintro ac2 _ ⟨S2,mi,tt,l2,L6,R3,hmi,htt,htz⟩;have hbt:=YK tt;refine wA<|sm L6 rfl<|So rfl<|Yr rfl underlying9<|Sa rfl<|SVv<|Sm rfl<|So rfl<|Yr rfl underlying9<|So rfl<|ZO rfl rfl Xd<|Sa rfl<|kP [0,2,3,5,4,6,7] rfl λ_ L14=>sn<|wp_block<|ZJ (λm ac ww=>∃(S':Sh)(st:Nat)(n:Nat),S2.le S'/\ZD ac 102 [(0,(.string s)),(2,(.pointer (some ⟨b1,0,none⟩))),(3,(.int .i64 (0:Int))),(5,(.string tt)),(4,(.bool (decide (mi=true)))),(6,(.int .i64 ((st:Nat):Int))),(7,(.int .i64 (((n:Nat):Int)-(1:Int))))]/\Run S w S' [(b1,46,[(.bool false),(.slice none 0 0),(.slice none 0 0)])] ww/\(st=strk (bl tt) n)/\(n<=tt.size)/\(st<=tt.size)/\m=n) tt.size ⟨S2,tt.size,tt.size,Sh.le.refl _,(L14.kp [7,6,4,5,3,2,0] rfl),R3,(by rw[<-hbt];exact(strk_end _).symm),(by omega),(by omega),rfl⟩ ?_;rintro m_1 ac3 _ ⟨S3,st,n,l3,L15,R4,hst,hn,hsn,m1⟩;refine wp_seq<|wA<|sm L15 rfl λ_ L16=>?_;by_cases t1:(0:Int)<=((n:Int)-(1:Int));refine sO L16 rfl<|cT t1 (YI rfl rfl)<|ST rfl λ_ L17=>wp_skip<|Zc<|wp_seq<|wp_block<|wA<|sm L17 rfl<|Sm rfl<|So rfl<|YO (j:=(n-1)) rfl rfl underlying9 (by omega) (by omega) λ_ L20=>?_;by_cases t2:(((bl tt).getD (n-1) 0:Nat):Int)=(47:Int);exact sO L20 rfl<|cT t2 (ZP rfl rfl)<|ST rfl λ_ L21=>Za<|sm L21 rfl<|Sa rfl<|SY<|Sm rfl<|So rfl<|ZO rfl rfl Xd<|Sa rfl λ_ L26=>sn<|⟨(n-1),(by omega),S3,(n-1),(n-1),l3,(((L26.ri 6 (((n-1):Nat):Int) rfl).a ((L26.ri 7 ((((n-1):Nat):Int)-(1:Int)) rfl).a L26)).kp [7,6,4,5,3,2,0] rfl),R4,(by first|exact(strk_hit (by omega) (by omega) (by omega)).symm|(rw[strk_miss (by omega) (by omega) (by omega)];exact hst)),(by omega),(by omega),rfl⟩;exact sO L20 rfl<|cF t2 (ZP rfl rfl)<|SF rfl λ_ L29=>wp_skip<|Zx<|Zc<|Za<|sm L29 rfl<|So rfl<|ZO rfl rfl Xd<|Sa rfl λ_ L32=>sn<|⟨(n-1),(by omega),S3,st,(n-1),l3,(((L32.ri 7 ((((n-1):Nat):Int)-(1:Int)) rfl).a L32).kp [7,6,4,5,3,2,0] rfl),R4,(by first|exact(strk_hit (by omega) (by omega) (by omega)).symm|(rw[strk_miss (by omega) (by omega) (by omega)];exact hst)),(by omega),(by omega),rfl⟩;refine sO L16 rfl<|cF t1 (YI rfl rfl)<|SF rfl λ_ L34=>wp_exit<|Zo<|Zo<|Yl<|Zc<|wp_seq ?_;obtain rfl:n=0:=by omega
 refine Za<|sa L34 rfl λ_ L35=>sn<|Xr (λac ww=>∃(S':Sh)(dn:ByteArray),S3.le S'/\ZD ac 102 [(0,(.string s)),(2,(.pointer (some ⟨b1,0,none⟩))),(3,(.int .i64 (0:Int))),(5,(.string tt)),(4,(.bool (decide (mi=true)))),(6,(.int .i64 ((st:Nat):Int))),(8,(.string dn))]/\Run S w S' [(b1,46,[(.bool false),(.slice none 0 0),(.slice none 0 0)])] ww/\(bl dn=QI (bl s))) ?_ ?_;rintro ac4 _ ⟨S4,dn,l4,L36,R5,hdn⟩;refine Xr (λac ww=>∃(S':Sh)(sz:ByteArray),S4.le S'/\ZD ac 102 [(0,(.string s)),(2,(.pointer (some ⟨b1,0,none⟩))),(3,(.int .i64 (0:Int))),(5,(.string tt)),(4,(.bool (decide (mi=true)))),(6,(.int .i64 ((st:Nat):Int))),(8,(.string dn)),(9,(.string sz))]/\Run S w S' [(b1,46,[(.bool false),(.slice none 0 0),(.slice none 0 0)])] ww/\(bl sz=QD (bl s))) ?_ ?_;rintro ac5 _ ⟨_,sz,l5,L37,R6,hsz⟩;have hsb:=YK sz;have hdb:=YK dn;have hszl:sz.size<=s.size:=by rw[<-YK,<-YK s,hsz];exact fsize_len _
 have hdnl:dn.size<=s.size+1:=by rw[<-YK,<-YK s,hdn];exact fden_len _
 refine wA<|sm L37 rfl<|So rfl<|Zi rfl ent_100 (Zgm R6.holds (s:=sz) (by omega)) λv_1 _ _ x1 v1=>?_;have R7:=R6.call x1;obtain rfl:=v1;intro _ L39;refine sa L39 rfl<|SW<|Sm rfl<|So rfl<|Zi rfl ent_100 (Zgm R7.holds (s:=dn) (by omega)) λv_2 S7 _ x2 v2=>?_;have R8:=R7.call x2;obtain rfl:=v2;intro _ L42;refine sa L42 rfl λ_ L43=>sn<|Xr (λac ww=>∃(S':Sh)(mi:Bool),S7.le S'/\ZD ac 102 [(0,(.string s)),(2,(.pointer (some ⟨b1,0,none⟩))),(3,(.int .i64 (0:Int))),(5,(.string tt)),(6,(.int .i64 ((st:Nat):Int))),(8,(.string dn)),(9,(.string sz)),(4,(.bool (decide (mi=true))))]/\Run S w S' [(b1,46,[(.bool false),(.slice none 0 0),(.slice none 0 0)])] ww/\(mi=Zdq (bl s))/\(¬Zew (bl s))/\(wd<|bl sz)/\(wd<|bl dn)) ?_ ?_;rintro ac6 _ ⟨S8,mi,l8,L44,R9,hmi,hnb,hw1,hw2⟩;refine wp_seq<|wA<|sm L44 rfl<|So rfl<|Yr rfl underlying9 λ_ L46=>?_;by_cases t3:(256:Int)<((sz.size:Nat):Int);refine sO L46 rfl<|cT t3 (ZF rfl rfl)<|Sm rfl<|Sf rfl<|Sf rfl<|Sf rfl<|So rfl<|Ze rfl rfl<|kP [0,2,3,5,6,8,9,4,75] rfl<|ST rfl<|WA<|So rfl<|Zi rfl Zfk (Qq R9.holds (n:=(0:Int)) (by omega)) λv_3 _ _ x3 v3=>?_;have R10:=R9.call x3;obtain⟨cs_1,rfl,h1⟩:=v3;intro _ L54;refine sZ L54 rfl<|Zm rfl rfl R10 Xp h1.len rfl h1.ones λ_ R11=>Sa rfl λ_ L56=>sn<|wp_ret<|Zt<|rt L56 (Res.aggW rfl Zdm Xp (R11.has<|List.Mem.head _) h1.len<|.tmp rfl Res.nil) ?_;obtain⟨her,hvl⟩:=Za5 hnb (by unfold QA;rw[<-hsz,<-hdn];omega);exact⟨_,_,rfl,R11.ext,⟨_,(by rw[her];rfl),(h1.toR (by rw[hvl]) (by exact Xc _))⟩⟩;refine sO L46 rfl<|cF t3 (ZF rfl rfl)<|Sm rfl<|Sn rfl<|Zd rfl<|Sn rfl<|Yr rfl underlying9 λ_ L60=>?_;by_cases t4:(256:Int)<((dn.size:Nat):Int);refine sN L60 rfl<|cT t4 (ZF rfl rfl)<|So rfl<|Ze rfl rfl<|kP [0,2,3,5,6,8,9,4,75] rfl<|ST rfl<|WA<|So rfl<|Zi rfl Zfk (Qq R9.holds (n:=(0:Int)) (by omega)) λv_4 _ _ x4 v4=>?_;have R12:=R9.call x4;obtain⟨cs_2,rfl,h2⟩:=v4;intro _ L64;refine sZ L64 rfl<|Zm rfl rfl R12 Xp h2.len rfl h2.ones λ_ R13=>Sa rfl λ_ L66=>sn<|wp_ret<|Zt<|rt L66 (Res.aggW rfl Zdm Xp (R13.has<|List.Mem.head _) h2.len<|.tmp rfl Res.nil) ?_;obtain⟨her,hvl⟩:=Za5 hnb (by unfold QA;rw[<-hsz,<-hdn];omega);exact⟨_,_,rfl,R13.ext,⟨_,(by rw[her];rfl),(h2.toR (by rw[hvl]) (by exact Xc _))⟩⟩;refine sN L60 rfl<|cF t4 (ZF rfl rfl)<|So rfl<|Ze rfl rfl<|kP [0,2,3,5,6,8,9,4,75] rfl<|SF rfl λ_ L69=>wp_skip<|Zc<|Xr (λac ww=>∃(S':Sh),S8.le S'/\ZD ac 102 [(0,(.string s)),(2,(.pointer (some ⟨b1,0,none⟩))),(3,(.int .i64 (0:Int))),(8,(.string dn)),(9,(.string sz)),(4,(.bool (decide (mi=true))))]/\Run S w S' [(b1,46,[(.bool false),(.slice none 0 0),(.slice none 0 0)])] ww/\(Zev (bl s)=true->Xw (QI<|bl s)≠0/\Xw (QI<|bl s)≠1)) ?_ ?_;rintro ac7 _ ⟨_,l11,L70,R14,hone⟩;have hdp:0<Xw (bl dn):=by rw[hdn];exact ref_dp hone
 have hnl:¬QA (bl s):=by unfold QA;rw[<-hsz,<-hdn];omega
 have hq:mkRat (sI (decide (mi=true))<|Xw<|bl sz) (Xw<|bl dn)=mkRat (fraw<|bl s) (Xw<|QI<|bl s):=by rw[hsz,hdn,hmi,Bool.decide_eq_true,<-fraw_sI]
 refine wA<|sm L70 rfl<|Sm rfl<|So rfl<|Zi rfl ent_103 (cref01_Parse R14.holds (s:=sz) (by omega) (by omega)) λv_5 _ _ x5 v5=>?_;have R15:=R14.call x5;obtain⟨c1,e4,h3⟩:=v5;obtain rfl:=e4.symm;intro _ L73;refine sm L73 rfl<|So rfl<|Zi rfl ent_103 (cref01_Parse R15.holds (s:=dn) (by omega) (by omega)) λv_6 _ _ x6 v6=>?_;have R16:=R15.call x6;have l13:=x6.le;obtain⟨c2,e5,h4⟩:=v6;obtain rfl:=e5.symm;intro _ L75;refine sO L75 rfl<|Zi rfl ent_102 (cref03_low R16.holds (mi:=(decide (mi=true))) (h3.up l13) h4 (by omega) (by omega) (by omega)) λv_7 _ _ x7 v7=>?_;have R17:=R16.call x7;obtain⟨c3,rfl,h5⟩:=v7;intro _ L76;refine sO L76 rfl<|ZK (cs:=[(.bool false),(.slice none 0 0),(.slice none 0 0)]) zero_46 R17 rfl λb2 _ R18=>Sz rfl<|Zm rfl rfl R18 Xp h5.len rfl h5.ones λ_ R19=>kP [0,2,3,12] rfl<|SVv<|So rfl<|ZA rfl Zdm Xp (R19.has<|List.Mem.head _) h5.len<|So rfl<|Zi rfl ent_56 (cref03_Text R19.holds h5 (by omega)) λv_8 _ _ x8 v8=>?_;have R20:=R19.call x8;have l15:=x8.le;obtain rfl:=v8;intro _ L81;refine sm L81 rfl λ_ L82=>?_;by_cases t5:¬(Xb<|rtxt<|mkRat (sI (decide (mi=true))<|Xw<|bl sz)<|Xw<|bl dn)=s;refine sO L82 rfl<|cT t5 (Zan rfl rfl)<|ST rfl<|WA<|So rfl<|Zi rfl Zfk (Qq R20.holds (n:=(0:Int)) (by omega)) λv_9 _ _ x9 v9=>?_;have R21:=R20.call x9;obtain⟨c4,rfl,h6⟩:=v9;intro _ L84;refine sZ L84 rfl<|Zm rfl rfl (Yd R21) Xp h6.len rfl h6.ones λ_ R22=>Sa rfl λ_ L86=>sn<|wp_ret<|Zt<|rt (L86.kp [2,3,12] rfl) (Res.aggW rfl Zdm Xp (R22.has<|List.Mem.head _) h6.len<|.tmp rfl Res.nil) ?_;obtain⟨her,hvl⟩:=ref_other hnb hnl hone (by rw[<-hq];assumption);exact⟨_,_,rfl,R22.ext,⟨_,(by rw[her];rfl),(h6.toR (by rw[hvl]) (by exact Xc _))⟩⟩;refine sO L82 rfl<|cF t5 (Zan rfl rfl)<|SF rfl λ_ L88=>wp_skip<|Zc<|wA<|sO L88 rfl<|ZA rfl Zdm Xp (R20.has<|List.Mem.head _) h5.len<|Sz rfl<|Zm rfl rfl (Yd R20) Xp h5.len rfl h5.ones λ_ R23=>Sa rfl λ_ L91=>sn<|wp_ret<|rt (L91.kp [2,3] rfl) (Res.aggW rfl Zdm Xp (R23.has<|List.Mem.head _) h5.len<|.tmp rfl Res.nil) ?_;obtain⟨her,hvl⟩:=ref_same hnb hnl hone (by rw[<-hq];exact Classical.not_not.1 (by assumption));exact⟨_,_,rfl,R23.ext,⟨_,(by rw[her];rfl),((h5.up l15).toR (by rw[hvl];exact hq) (by exact Xc _))⟩⟩;skip;refine wA<|sm L69 rfl<|Sm rfl<|So rfl<|Yr rfl underlying9 λ_ L95=>?_;by_cases t6:(st:Int)<((tt.size:Nat):Int);refine sO L95 rfl<|cT t6 (Zs rfl rfl)<|Sm rfl<|Sn rfl<|Zd rfl λ_ L98=>?_;by_cases t7:dn=(⟨#[48]⟩:ByteArray);refine sN L98 rfl<|cT t7 (Xa rfl rfl)<|Sn rfl<|Zd rfl<|Sf rfl<|Sf rfl<|Sn rfl<|Ze rfl rfl<|So rfl<|Ze rfl rfl<|kP [0,2,3,8,9,4,88] rfl<|ST rfl<|WA<|So rfl<|Zi rfl Zfk (Qq R9.holds (n:=(0:Int)) (by omega)) λv_10 _ _ x10 v10=>?_;have R24:=R9.call x10;obtain⟨c5,rfl,h7⟩:=v10;intro _ L106;refine sZ L106 rfl<|Zm rfl rfl R24 Xp h7.len rfl h7.ones λ_ R25=>Sa rfl λ_ L108=>sn<|wp_ret<|Zt<|rt L108 (Res.aggW rfl Zdm Xp (R25.has<|List.Mem.head _) h7.len<|.tmp rfl Res.nil) ?_;obtain⟨her,hvl⟩:=Zd8 hnb (by unfold QA;rw[<-hsz,<-hdn];omega) ⟨htt.2.2.trans (Zcr.1 (by rw[<-hst,hbt];assumption)),Or.inl (by rw[<-hdn];exact pval_01 (by first|exact Or.inl (str48.1 (by assumption))|exact Or.inr<|str49.1 (by assumption)))⟩;exact⟨_,_,rfl,R25.ext,⟨_,(by rw[her];rfl),(h7.toR (by rw[hvl]) (by exact Xc _))⟩⟩;refine sN L98 rfl<|cF t7 (Xa rfl rfl)<|Sn rfl<|Zd rfl<|Sn rfl<|Zd rfl λ_ L111=>?_;by_cases t8:dn=(⟨#[49]⟩:ByteArray);refine sN L111 rfl<|cT t8 (Xa rfl rfl)<|Sn rfl<|Ze rfl rfl<|So rfl<|Ze rfl rfl<|kP [0,2,3,8,9,4,88] rfl<|ST rfl<|WA<|So rfl<|Zi rfl Zfk (Qq R9.holds (n:=(0:Int)) (by omega)) λv_11 _ _ x11 v11=>?_;have R26:=R9.call x11;obtain⟨c6,rfl,h8⟩:=v11;intro _ L116;refine sZ L116 rfl<|Zm rfl rfl R26 Xp h8.len rfl h8.ones λ_ R27=>Sa rfl λ_ L118=>sn<|wp_ret<|Zt<|rt L118 (Res.aggW rfl Zdm Xp (R27.has<|List.Mem.head _) h8.len<|.tmp rfl Res.nil) ?_;obtain⟨her,hvl⟩:=Zd8 hnb (by unfold QA;rw[<-hsz,<-hdn];omega) ⟨htt.2.2.trans (Zcr.1 (by rw[<-hst,hbt];assumption)),Or.inl (by rw[<-hdn];exact pval_01 (by first|exact Or.inl (str48.1 (by assumption))|exact Or.inr<|str49.1 (by assumption)))⟩;exact⟨_,_,rfl,R27.ext,⟨_,(by rw[her];rfl),(h8.toR (by rw[hvl]) (by exact Xc _))⟩⟩;exact sN L111 rfl<|cF t8 (Xa rfl rfl)<|Sn rfl<|Ze rfl rfl<|So rfl<|Ze rfl rfl<|kP [0,2,3,8,9,4,88] rfl<|SF rfl λ_ L122=>wp_skip<|Zc<|⟨S8,Sh.le.refl _,(L122.kp [4,9,8,3,2,0] rfl),R9,(by first|exact λq=>absurd (Zcr.2<|htt.2.2.symm.trans q) (by rw[<-hst,hbt];assumption)|exact λ_=>(by rw[<-hdn];exact wd_small hw2 (λq=>absurd (str48.2 q) (by assumption)) (λq=>absurd (str49.2 q) (by assumption))))⟩;exact sO L95 rfl<|cF t6 (Zs rfl rfl)<|Sm rfl<|Sf rfl<|Sf rfl<|Sf rfl λ_ L127=>ZY L127 rfl rfl rfl rfl rfl λ_ L128=>ZY L128 rfl rfl rfl rfl rfl<|Sf rfl<|So rfl<|Ze rfl rfl<|kP [0,2,3,8,9,4,88] rfl<|SF rfl λ_ L132=>wp_skip<|Zc<|⟨S8,Sh.le.refl _,(L132.kp [4,9,8,3,2,0] rfl),R9,(by first|exact λq=>absurd (Zcr.2<|htt.2.2.symm.trans q) (by rw[<-hst,hbt];assumption)|exact λ_=>(by rw[<-hdn];exact wd_small hw2 (λq=>absurd (str48.2 q) (by assumption)) (λq=>absurd (str49.2 q) (by assumption))))⟩;skip;refine wp_seq ?_;by_cases t9:wd (bl sz);have L133:=L43;rw[decide_eq_true t9] at L133;by_cases t10:wd (bl dn);have L134:=L133;rw[decide_eq_true t10] at L134;by_cases t11:mi=true;have L135:=L134;rw[decide_eq_true t11] at L135;refine Za<|sm L135 rfl<|So rfl<|YM rfl rfl<|Sm rfl<|Sn rfl<|Zd rfl<|Sn rfl<|YM rfl rfl<|So rfl<|Ze rfl rfl<|Sm rfl<|Sn rfl<|Zd rfl<|Sn rfl<|Zd rfl<|Sn rfl<|Zd rfl λ_ L145=>?_;by_cases t12:sz=(⟨#[48]⟩:ByteArray);refine sN L145 rfl<|cT t12 (Xa rfl rfl)<|Sn rfl<|Ze rfl rfl<|So rfl<|Ze rfl rfl<|kP [0,2,3,5,4,6,8,9,66] rfl<|ST rfl<|WA<|So rfl<|Zi rfl Zfk (Qq R8.holds (n:=(0:Int)) (by omega)) λv_12 _ _ x12 v12=>?_;have R28:=R8.call x12;obtain⟨c7,rfl,h9⟩:=v12;intro _ L150;refine sZ L150 rfl<|Zm rfl rfl R28 Xp h9.len rfl h9.ones λ_ R29=>Sa rfl λ_ L152=>sn<|wp_ret<|Zt<|rt L152 (Res.aggW rfl Zdm Xp (R29.has<|List.Mem.head _) h9.len<|.tmp rfl Res.nil) ?_;obtain⟨her,hvl⟩:=Zcw (l:=bl s) (by unfold Zew;rw[<-hsz,<-hdn];first|exact Or.inl (by assumption)|exact Or.inr (Or.inl (by assumption))|exact Or.inr<|Or.inr ⟨hmi.symm.trans (by assumption),str48.1 (by assumption)⟩);exact⟨_,_,rfl,R29.ext,⟨_,(by rw[her];rfl),(h9.toR (by rw[hvl]) (by exact Xc _))⟩⟩;exact sN L145 rfl<|cF t12 (Xa rfl rfl)<|Sn rfl<|Ze rfl rfl<|So rfl<|Ze rfl rfl<|kP [0,2,3,5,4,6,8,9,66] rfl<|SF rfl λ_ L156=>wp_skip<|Zc<|⟨S7,true,Sh.le.refl _,(L156.kp [4,9,8,6,5,3,2,0] rfl),R8,(by first|exact(by assumption:mi=true).symm.trans hmi|exact(eq_false_of_ne_true (by assumption:¬mi=true)).symm.trans hmi),(by exact not_bad (by rw[<-hsz];assumption) (by rw[<-hdn];assumption) (by rw[<-hmi,<-hsz];intro q;first|exact absurd (str48.2 q.2) (by assumption)|exact absurd q.1 (by assumption))),(by assumption),(by assumption)⟩;have L157:=L134;rw[decide_eq_false t11] at L157;exact Za<|sm L157 rfl<|So rfl<|YM rfl rfl<|Sm rfl<|Sn rfl<|Zd rfl<|Sn rfl<|YM rfl rfl<|So rfl<|Ze rfl rfl<|Sm rfl<|Sn rfl<|Zd rfl<|Sn rfl<|Zd rfl<|Sf rfl<|Sf rfl<|Sn rfl<|Ze rfl rfl<|So rfl<|Ze rfl rfl<|kP [0,2,3,5,4,6,8,9,66] rfl<|SF rfl λ_ L171=>wp_skip<|Zc<|⟨S7,false,Sh.le.refl _,(L171.kp [4,9,8,6,5,3,2,0] rfl),R8,(by first|exact(by assumption:mi=true).symm.trans hmi|exact(eq_false_of_ne_true (by assumption:¬mi=true)).symm.trans hmi),(by exact not_bad (by rw[<-hsz];assumption) (by rw[<-hdn];assumption) (by rw[<-hmi,<-hsz];intro q;first|exact absurd (str48.2 q.2) (by assumption)|exact absurd q.1 (by assumption))),(by assumption),(by assumption)⟩;have L172:=L133;rw[decide_eq_false t10] at L172;refine Za<|sm L172 rfl<|So rfl<|YM rfl rfl<|Sm rfl<|Sn rfl<|Zd rfl<|Sn rfl<|YM rfl rfl<|So rfl<|Ze rfl rfl<|Sm rfl<|Sf rfl<|Sf rfl λ_ L181=>ZY L181 rfl rfl rfl rfl rfl λ_ L182=>ZY L182 rfl rfl rfl rfl rfl<|Sf rfl<|So rfl<|Ze rfl rfl<|kP [0,2,3,5,4,6,8,9,66] rfl<|ST rfl<|WA<|So rfl<|Zi rfl Zfk (Qq R8.holds (n:=(0:Int)) (by omega)) λv_13 _ _ x13 v13=>?_;have R30:=R8.call x13;obtain⟨c8,rfl,h10⟩:=v13;intro _ L187;refine sZ L187 rfl<|Zm rfl rfl R30 Xp h10.len rfl h10.ones λ_ R31=>Sa rfl λ_ L189=>sn<|wp_ret<|Zt<|rt L189 (Res.aggW rfl Zdm Xp (R31.has<|List.Mem.head _) h10.len<|.tmp rfl Res.nil) ?_;obtain⟨her,hvl⟩:=Zcw (l:=bl s) (by unfold Zew;rw[<-hsz,<-hdn];first|exact Or.inl (by assumption)|exact Or.inr (Or.inl (by assumption))|exact Or.inr<|Or.inr ⟨hmi.symm.trans (by assumption),str48.1 (by assumption)⟩);exact⟨_,_,rfl,R31.ext,⟨_,(by rw[her];rfl),(h10.toR (by rw[hvl]) (by exact Xc _))⟩⟩;have L190:=L43;rw[decide_eq_false t9] at L190;refine Za<|sm L190 rfl<|So rfl<|YM rfl rfl<|Sm rfl<|Sf rfl<|Sf rfl<|So rfl<|Ze rfl rfl<|Sm rfl<|Sf rfl<|Sf rfl λ_ L199=>ZY L199 rfl rfl rfl rfl rfl λ_ L200=>ZY L200 rfl rfl rfl rfl rfl<|Sf rfl<|So rfl<|Ze rfl rfl<|kP [0,2,3,5,4,6,8,9,66] rfl<|ST rfl<|WA<|So rfl<|Zi rfl Zfk (Qq R8.holds (n:=(0:Int)) (by omega)) λv_14 _ _ x14 v14=>?_;have R32:=R8.call x14;obtain⟨c9,rfl,h11⟩:=v14;intro _ L205;refine sZ L205 rfl<|Zm rfl rfl R32 Xp h11.len rfl h11.ones λ_ R33=>Sa rfl λ_ L207=>sn<|wp_ret<|Zt<|rt L207 (Res.aggW rfl Zdm Xp (R33.has<|List.Mem.head _) h11.len<|.tmp rfl Res.nil) ?_;obtain⟨her,hvl⟩:=Zcw (l:=bl s) (by unfold Zew;rw[<-hsz,<-hdn];first|exact Or.inl (by assumption)|exact Or.inr (Or.inl (by assumption))|exact Or.inr<|Or.inr ⟨hmi.symm.trans (by assumption),str48.1 (by assumption)⟩);exact⟨_,_,rfl,R33.ext,⟨_,(by rw[her];rfl),(h11.toR (by rw[hvl]) (by exact Xc _))⟩⟩;skip;exact Za<|sm L36 rfl<|Sm rfl<|So rfl<|XY (i:=0) (j:=st) (z:=(tt.extract 0 st)) rfl underlying9 rfl ⟨_,rfl⟩ (by omega) (by omega) rfl<|Sa rfl λ_ L211=>sn<|⟨S4,(tt.extract 0 st),Sh.le.refl _,(L211.kp [9,8,6,4,5,3,2,0] rfl),R5,(by rw[htt.1];exact strk_num hst)⟩;skip;refine wA<|sm L35 rfl<|Sm rfl<|So rfl<|Yr rfl underlying9 λ_ L214=>?_;by_cases t13:(st:Int)<((tt.size:Nat):Int);exact sO L214 rfl<|cT t13 (Zs rfl rfl)<|kP [0,2,3,5,4,6,8,42] rfl<|ST rfl λ_ L216=>Za<|sm L216 rfl<|Sm rfl<|So rfl<|Zy rfl rfl Xd<|So rfl<|XY (i:=(st+1)) (j:=tt.size) (z:=(tt.extract (st+1) tt.size)) rfl underlying9 ⟨_,rfl⟩ rfl (by omega) (by omega) rfl<|Sa rfl λ_ L221=>sn<|⟨S3,(tt.extract (st+1) tt.size),Sh.le.refl _,((L221.kp [0,2,3,5,4,6,8] rfl).kp [8,6,4,5,3,2,0] rfl),R4,(by first|(rw[htt.2.1];exact strk_den (by rw[hst])<|Zcr.1 (by rw[<-hst,hbt];assumption))|(rw[fden_not (λq=>absurd (Zcr.2<|htt.2.2.symm.trans q) (by rw[<-hst,hbt];assumption))];rfl))⟩;exact sO L214 rfl<|cF t13 (Zs rfl rfl)<|kP [0,2,3,5,4,6,8,42] rfl<|SF rfl λ_ L224=>wp_skip<|Zc<|⟨S3,(⟨#[49]⟩:ByteArray),Sh.le.refl _,(L224.kp [8,6,4,5,3,2,0] rfl),R4,(by first|(rw[htt.2.1];exact strk_den (by rw[hst])<|Zcr.1 (by rw[<-hst,hbt];assumption))|(rw[fden_not (λq=>absurd (Zcr.2<|htt.2.2.symm.trans q) (by rw[<-hst,hbt];assumption))];rfl))⟩;skip;refine wp_seq ?_;by_cases t14:mi=true;have L225:=L5;rw[decide_eq_true t14] at L225;refine Za<|sm L225 rfl λ_ L226=>sn<|Zl L226 rfl rfl ?_;have hs1:=min_pos (hmi.symm.trans (by assumption));exact Za<|sm L226 rfl<|So rfl<|XY (i:=1) (j:=s.size) (z:=(s.extract 1 s.size)) rfl underlying9 ⟨_,rfl⟩ rfl (by omega) (by omega) rfl<|Sa rfl λ_ L229=>sn<|⟨S1,true,(s.extract 1 s.size),Sh.le.refl _,(L229.kp [4,5,3,2,0] rfl),R2,(by first|exact(by assumption:mi=true).symm.trans hmi|exact(eq_false_of_ne_true (by assumption:¬mi=true)).symm.trans hmi),(by first|(rw[bl_tail];exact cut_min<|hmi.symm.trans (by assumption))|exact⟨cut_nomin (hmi.symm.trans<|eq_false_of_ne_true (by assumption)),rfl,rfl⟩),(by first|exact Nat.le_refl _|(simp only[ByteArray.size_extract];omega))⟩;have L230:=L5;rw[decide_eq_false t14] at L230;exact Za<|sm L230 rfl<|SF rfl λ_ L231=>wp_skip<|Zc<|⟨S1,false,s,Sh.le.refl _,(L231.kp [4,5,3,2,0] rfl),R2,(by first|exact(by assumption:mi=true).symm.trans hmi|exact(eq_false_of_ne_true (by assumption:¬mi=true)).symm.trans hmi),(by first|(rw[bl_tail];exact cut_min<|hmi.symm.trans (by assumption))|exact⟨cut_nomin (hmi.symm.trans<|eq_false_of_ne_true (by assumption)),rfl,rfl⟩),(by first|exact Nat.le_refl _|(simp only[ByteArray.size_extract];omega))⟩;skip;refine Za<|sm L2 rfl<|So rfl<|Yr rfl underlying9 λ_ L233=>?_;by_cases t15:(0:Int)<((s.size:Nat):Int);refine sO L233 rfl<|cT t15 (ZF rfl rfl)<|Sm rfl<|Sn rfl<|Zd rfl<|Sn rfl<|YO (j:=0) rfl rfl underlying9 (by omega) (by omega) λ_ L237=>?_;by_cases t16:(((bl s).getD 0 0:Nat):Int)=(45:Int);exact sN L237 rfl<|cT t16 (ZP rfl rfl)<|So rfl<|Ze rfl rfl<|Sa rfl λ_ L240=>sn<|⟨S,true,Sh.le.refl _,((L240.kp [0,2,3,4] rfl).kp [4,3,2,0] rfl),R1,(by rw[Zht];first|exact(decide_eq_true (by omega)).symm|exact(decide_eq_false (by omega)).symm|exact(decide_eq_false (by rw[List.length_eq_zero_iff.1 (show(bl s).length=0 by omega)];decide)).symm)⟩;exact sN L237 rfl<|cF t16 (ZP rfl rfl)<|So rfl<|Ze rfl rfl<|Sa rfl λ_ L244=>sn<|⟨S,false,Sh.le.refl _,((L244.kp [0,2,3,4] rfl).kp [4,3,2,0] rfl),R1,(by rw[Zht];first|exact(decide_eq_true (by omega)).symm|exact(decide_eq_false (by omega)).symm|exact(decide_eq_false (by rw[List.length_eq_zero_iff.1 (show(bl s).length=0 by omega)];decide)).symm)⟩;exact sO L233 rfl<|cF t15 (ZF rfl rfl)<|Sm rfl<|Sf rfl<|Sf rfl<|Sf rfl<|So rfl<|Ze rfl rfl<|Sa rfl λ_ L252=>sn<|⟨S,false,Sh.le.refl _,((L252.kp [0,2,3,4] rfl).kp [4,3,2,0] rfl),R1,(by rw[Zht];first|exact(decide_eq_true (by omega)).symm|exact(decide_eq_false (by omega)).symm|exact(decide_eq_false (by rw[List.length_eq_zero_iff.1 (show(bl s).length=0 by omega)];decide)).symm)⟩
def vz_r:List Rw:=[⟨[2,0],1,0⟩,⟨[2,1],1,0⟩,⟨[2,2],1,0⟩]
def vz_T(cs:CL):Tb:=⟨vz_r,cs,100000000000⟩
def vz_G(cs:CL)(r:SV Ato):Prop:=Zdn symTab3 (vz_T cs) 30 [.agg (cQs [0,1,2])] r 60
def vz_R(a0 a1 a2:Rat):Nat->AV:=rho (vz_T []) (YV [a0,a1,a2])
def vz_k0:CL:=([1,0],1)::[]
theorem vz_p1:vz_G vz_k0 (.bool false):=λ_ _ _=>by kernel_rfl
def vz_k1:CL:=([1,0],(-1))::[]
theorem vz_p0:vz_G vz_k1 (.bool false):=λ_ _ _=>by kernel_rfl
def vz_k2:CL:=([1,0],0)::[]
def vz_k3:CL:=([1,1],1)::vz_k2
theorem vz_p3:vz_G vz_k3 (.bool false):=λ_ _ _=>by kernel_rfl
def vz_k4:CL:=([1,1],(-1))::vz_k2
theorem vz_p2:vz_G vz_k4 (.bool false):=λ_ _ _=>by kernel_rfl
def vz_k5:CL:=([1,1],0)::vz_k2
def vz_k6:CL:=([1,2],0)::vz_k5
theorem vz_p6:vz_G vz_k6 (.bool true):=λ_ _ _=>by kernel_rfl
def vz_k7:CL:=([1,2],1)::vz_k5
theorem vz_p5:vz_G vz_k7 (.bool false):=λ_ _ _=>by kernel_rfl
def vz_k8:CL:=([1,2],(-1))::vz_k5
theorem vz_p4:vz_G vz_k8 (.bool false):=λ_ _ _=>by kernel_rfl
theorem vec_Zero_s{S:Sh}{w:World}(hS:ZV S w){c_a:List Value}{a0 a1 a2:Rat}{k:Nat}(h_a:Fs S c_a [a0,a1,a2] k)(hlim:k<=100000000000):
  Calls prog 30 [(.agg (c_a:List Value).toArray)].toArray w (Ret S w (λ_ v=>v= .bool (decide (a0.num=0/\a1.num=0/\a2.num=0)))):=by
 have leaf:=λcs hc {r} (h:vz_G cs r) {u} hg=>Qt symTab3_OK (K:=k) (base:=YV [a0,a1,a2]) (by kernel_rfl) hlim (by kernel_rfl) hS (λ_ _=>.cons (.agg (QF (is:=[0,1,2]) (qs:=[a0,a1,a2]) (k:=k) ⟨by kernel_rfl,le1 _,by kernel_rfl,le1 _,by kernel_rfl,le1 _,trivial⟩ h_a)) .nil) cs hc (r:=r) h (u:=u) hg;rcases Zcm (vz_R a0 a1 a2) (t:=1) (is:=[0]) (by decide) with h0|h0|h0;rotate_left 2
 have H0:Csl (vz_R a0 a1 a2) vz_k0:=.cons h0 .nil;exact Calls.mono (leaf _ H0 vz_p1 rfl) λe w' ⟨v,S',q1,q2,q3⟩=>⟨v,S',q1,q2,q3.trans (by rw[decide_eq_false λz=>(by have g:Yu a0.num=_:=tr h0;rw[z.1] at g;cases g)])⟩;have H1:Csl (vz_R a0 a1 a2) vz_k1:=.cons h0 .nil;exact Calls.mono (leaf _ H1 vz_p0 rfl) λe w' ⟨v,S',q1,q2,q3⟩=>⟨v,S',q1,q2,q3.trans (by rw[decide_eq_false λz=>(by have g:Yu a0.num=_:=tr h0;rw[z.1] at g;cases g)])⟩;have H2:Csl (vz_R a0 a1 a2) vz_k2:=.cons h0 .nil;rcases Zcm (vz_R a0 a1 a2) (t:=1) (is:=[1]) (by decide) with h1|h1|h1;rotate_left 2
 have H3:Csl (vz_R a0 a1 a2) vz_k3:=.cons h1 H2;exact Calls.mono (leaf _ H3 vz_p3 rfl) λe w' ⟨v,S',q1,q2,q3⟩=>⟨v,S',q1,q2,q3.trans (by rw[decide_eq_false λz=>(by have g:Yu a1.num=_:=tr h1;rw[z.2.1] at g;cases g)])⟩;have H4:Csl (vz_R a0 a1 a2) vz_k4:=.cons h1 H2;exact Calls.mono (leaf _ H4 vz_p2 rfl) λe w' ⟨v,S',q1,q2,q3⟩=>⟨v,S',q1,q2,q3.trans (by rw[decide_eq_false λz=>(by have g:Yu a1.num=_:=tr h1;rw[z.2.1] at g;cases g)])⟩;have H5:Csl (vz_R a0 a1 a2) vz_k5:=.cons h1 H2;rcases Zcm (vz_R a0 a1 a2) (t:=1) (is:=[2]) (by decide) with h2|h2|h2;rotate_left
 have H6:Csl (vz_R a0 a1 a2) vz_k6:=.cons h2 H5;exact Calls.mono (leaf _ H6 vz_p6 rfl) λe w' ⟨v,S',q1,q2,q3⟩=>⟨v,S',q1,q2,q3.trans (by rw[decide_eq_true ⟨Yh.1 (tr h0:Yu a0.num=_),Yh.1 (tr h1:Yu a1.num=_),Yh.1 (tr h2:Yu a2.num=_)⟩])⟩;have H7:Csl (vz_R a0 a1 a2) vz_k7:=.cons h2 H5;exact Calls.mono (leaf _ H7 vz_p5 rfl) λe w' ⟨v,S',q1,q2,q3⟩=>⟨v,S',q1,q2,q3.trans (by rw[decide_eq_false λz=>(by have g:Yu a2.num=_:=tr h2;rw[z.2.2] at g;cases g)])⟩;have H8:Csl (vz_R a0 a1 a2) vz_k8:=.cons h2 H5;exact Calls.mono (leaf _ H8 vz_p4 rfl) λe w' ⟨v,S',q1,q2,q3⟩=>⟨v,S',q1,q2,q3.trans (by rw[decide_eq_false λz=>(by have g:Yu a2.num=_:=tr h2;rw[z.2.2] at g;cases g)])⟩
section
def pZero(T:Tb):PrF Ato:=λl=>match l with
  | [.agg n]=>match asQs T 3 n with
    | some is=>match is with
      | [a, b,c]=>match limB T 100000000000 [a,b,c] with
        | true=>match Nat.ble (Nat.add (Nat.mul (mxC T [a,b,c]) T.km)<|mxD T [a,b,c]) 100000000000 with
          | true=>match Zez T [9,a,b,c] with
            |some x=>some (.bool x)
            |none=>none
          |false=>none
        |false=>none
      |_=>none
    |none=>none
  |_=>none
def row46(T:Tb)(a b c d q:Nat):Option Nat:=match Zd7 T [46,a,b,c,d,q] with
  | some (k,r)=>match Nat.ble (Nat.mul 384<|mxC T [a,b,c,d]) r.c&&Nat.ble (Nat.add (Nat.mul 384<|mxD T [a,b,c,d]) 6208) r.d with
    |true=>some k
    |false=>none
  |none=>none
def zeroRow(T:Tb):Option Nat:=match Zd7 T [6] with
  |some (k,_)=>some k
  |none=>none
def pMakeP(T : Tb) : PrF Ato:=λl=>match l with
  | [.agg n, .agg y] => match asQs T 3 n with
    | some is =>match asQs T 1 y with
      | some js =>match is,js with
        | [a, b,c],[d]=>match limB T 250000000 [a,b,c,d] with
          | true => match Nat.ble (Nat.add (Nat.mul (mxC T [a,b,c,d]) T.km)<|mxD T [a,b,c,d]) 250000000 with
            | true => match Zez T [9,a,b,c] with
              | some x=>match x with
                | true=>match zeroRow T with
                  |some z=>some (.tup [.agg (cQs [z,z,z,z]),.int .i64 2])
                  |none=>none
                | false =>match row46 T a b c d a with
                  | some i=>match row46 T a b c d b with
                    | some j=>match row46 T a b c d c with
                      | some k=>match row46 T a b c d d with
                        |some l=>some (.tup [.agg (cQs [i,j,k,l]),.int .i64 0])
                        |none=>none
                      |none=>none
                    |none=>none
                  |none=>none
              |none=>none
            |false=>none
          |false=>none
        |_,_=>none
      |none=>none
    |none=>none
  |_=>none
section
variable{T:Tb}{K:Nat}{base ρ:Nat->AV}{bd:Nat->Nat}{G:Gh}{T0:Tb}{hT:Cs T0 ρ}
theorem zero_yes(hg:YG T K base ρ bd){a b c:Nat}{x:Bool}(h:Zez T [9,a,b,c]=some x):decide ((ρ a).rat.num=0/\(ρ b).rat.num=0/\(ρ c).rat.num=0)=x:=
  Zff (show(if(ρ a).rat.num=0/\(ρ b).rat.num=0/\(ρ c).rat.num=0 then(1:Int) else 0)=if x then 1 else 0 from Qh hg.cond h)
theorem pZero_ok(hg:YG T K base ρ bd):Xq prog (DS hT bd) 30 (pZero T):=by
 intro args r hr G w vs hd hS;unfold pZero at hr;split at hr;rename_i n;split at hr;rename_i is his;split at hr;rename_i a b c;split at hr;rename_i hl;split at hr;rename_i hm;split at hr;rename_i x hx;cases hr
 cases hd with
 | cons x1 x2=>
   cases x2
   cases x1 with
   | agg x1=>
     have h1:=asQs_ok hg his x1 (mx_ok hg hl)
     refine .ret (by kernel_rfl) (vec_Zero_s hS (a0:=(ρ a).rat) (a1:=(ρ b).rat) (a2:=(ρ c).rat) h1<|mx_lim hg.km hm) λS' v hv=>?_
     rw[hv,zero_yes hg hx]
     exact .bool _
 cases hr;cases hr;cases hr;cases hr;cases hr;cases hr
theorem Zcu(hg:YG T K base ρ bd){a b c d q k:Nat}(h:row46 T a b c d q=some k):ρ k= .q (pn (ρ a).rat (ρ b).rat (ρ c).rat (ρ d).rat (ρ q).rat)/\192*(mxC T [a,b,c,d]*K+mxD T [a,b,c,d]+(mxC T [a,b,c,d]*K+mxD T [a,b,c,d]))+6208<=bd k:=by
 unfold row46 at h;split at h;rename_i k' r hf;split at h;rename_i hb;cases h;obtain⟨h1,h2⟩:=XI hf;obtain⟨h3,h4⟩:=hg.row _ _ h1;rw[h2] at h3;simp only[Bool.and_eq_true] at hb;have b1:=Nat.le_of_ble_eq_true hb.1;have b2:=Nat.le_of_ble_eq_true hb.2;refine⟨h3,?_⟩;rw[h4];have b3:=Nat.mul_le_mul_right K b1;have b4:(384*mxC T [a,b,c,d])*K=384*(mxC T [a,b,c,d]*K):=Nat.mul_assoc _ _ _;have b5:Nat.mul 384 (mxC T [a,b,c,d])*K=384*(mxC T [a,b,c,d]*K):=b4;have b6:Nat.add (Nat.mul 384<|mxD T [a,b,c,d]) 6208=384*mxD T [a,b,c,d]+6208:=rfl;rw[b5] at b3;rw[b6] at b2;omega;cases h;cases h
theorem zeroRow_ok(hg:YG T K base ρ bd){z:Nat}(h:zeroRow T=some z):ρ z= .q 0:=by
 unfold zeroRow at h;split at h;rename_i k r hf;cases h;obtain⟨h1,h2⟩:=XI hf;rw[(hg.row _ _ h1).1,h2];rfl;cases h
theorem pMakeP_ok(hg:YG T K base ρ bd):Xq prog (DS hT bd) 23 (pMakeP T):=by
 intro args r hr G w vs hd hS;unfold pMakeP at hr;split at hr;rename_i n y;split at hr;rename_i is his;split at hr;rename_i js hjs;split at hr;rename_i a b c d;split at hr;rename_i hl;split at hr;rename_i hm;have hm':=mx_lim hg.km hm;have hmx:=mx_ok hg hl
 cases hd with
 | cons x1 x2=>
   cases x2 with
   | cons x3 x4=>
     cases x4
     cases x1 with
     | agg x1=>
       cases x3 with
       | agg x3=>
         have h1:=asQs_ok hg his x1 (k:=mxC T [a,b,c,d]*K+mxD T [a,b,c,d]) (λi hi=>hmx i (by simp at hi ⊢;omega))
         have h2:=asQs_ok hg hjs x3 (k:=mxC T [a,b,c,d]*K+mxD T [a,b,c,d]) (λi hi=>hmx i (by simp at hi ⊢;omega))
         have hC:=plane_Make_s hS (a0:=(ρ a).rat) (a1:=(ρ b).rat) (a2:=(ρ c).rat) (a3:=(ρ d).rat) h1 h2 hm' hm'
         split at hr
         · rename_i x hx
           have hz:=zero_yes hg hx
           split at hr
           · have hz':=of_decide_eq_true hz
             split at hr
             · rename_i z hzr
               cases hr
               have e:=zeroRow_ok hg hzr
               refine .ret (by kernel_rfl) hC λS' v hv=>?_
               rcases hv with⟨_,c0,ev,hF⟩|⟨hn,_⟩
               · rw[ev]
                 exact .tup (.cons (.agg (QF (is:=[z,z,z,z]) (qs:=[0,0,0,0]) (k:=0) ⟨e,Nat.zero_le _,e,Nat.zero_le _,e,Nat.zero_le _,e,Nat.zero_le _,trivial⟩ hF)) (.cons (.int _ _) .nil))
               · exact absurd hz' hn
             · cases hr
           · have hz':=of_decide_eq_false hz
             split at hr
             · rename_i i hi
               split at hr
               · rename_i j hj
                 split at hr
                 · rename_i k hk
                   split at hr
                   · rename_i l hl2
                     cases hr
                     obtain⟨e0,f0⟩:=Zcu hg hi
                     obtain⟨e1,f1⟩:=Zcu hg hj
                     obtain⟨e2,f2⟩:=Zcu hg hk
                     obtain⟨e3,f3⟩:=Zcu hg hl2
                     refine .ret (by kernel_rfl) hC λS' v hv=>?_
                     rcases hv with⟨hn,_⟩|⟨_,c0,ev,hF⟩
                     · exact absurd hn hz'
                     · rw[ev]
                       exact .tup (.cons (.agg (QF (is:=[i,j,k,l]) (qs:=[_,_,_,_]) ⟨e0,f0,e1,f1,e2,f2,e3,f3,trivial⟩ hF)) (.cons (.int _ _) .nil))
                   · cases hr
                 · cases hr
               · cases hr
             · cases hr
         · cases hr
 cases hr;cases hr;cases hr;cases hr;cases hr;cases hr
end
def Zgt(T:Tb):List (Nat × PrF Ato):=(30,pZero T)::(23,pMakeP T)::symTab3 T
theorem Zc4:TabOK Zgt:=by
 intro T K base ρ bd T0 hT hg p hp;simp only[Zgt,List.mem_cons] at hp;rcases hp with rfl|rfl|hp;exact pZero_ok hg;exact pMakeP_ok hg;exact symTab3_OK hg p hp
end
def pc_r:List Rw:=[⟨[2,0],1,0⟩,⟨[2,1],1,0⟩,⟨[2,2],1,0⟩,⟨[2,3],1,0⟩,⟨[2,4],1,0⟩,⟨[2,5],1,0⟩,⟨[2,6],1,0⟩,⟨[2,7],1,0⟩]
def pc_T(cs:CL):Tb:=⟨pc_r,cs,100000000000⟩
def pc_G(cs:CL)(r:SV Ato):Prop:=Zdn Zgt (pc_T cs) 21 [.agg (cQs [0,1,2,3]),.agg (cQs [4,5,6,7])] r 100
def Zc0(a0 a1 a2 a3 a4 a5 a6 a7:Rat):Nat->AV:=rho (pc_T []) (YV [a0,a1,a2,a3,a4,a5,a6,a7])
def pc_k0:CL:=([9,4,5,6],0)::([9,0,1,2],0)::[]
def pc_k1:CL:=([2,0,4],1)::pc_k0
theorem pc_p1:pc_G pc_k1 (.int .i64 1):=λ_ _ _=>by kernel_rfl
def pc_k2:CL:=([2,0,4],(-1))::pc_k0
theorem pc_p0:pc_G pc_k2 (.int .i64 (-1)):=λ_ _ _=>by kernel_rfl
def pc_k3:CL:=([2,0,4],0)::pc_k0
def pc_k4:CL:=([2,1,5],1)::pc_k3
theorem pc_p3:pc_G pc_k4 (.int .i64 1):=λ_ _ _=>by kernel_rfl
def pc_k5:CL:=([2,1,5],(-1))::pc_k3
theorem pc_p2:pc_G pc_k5 (.int .i64 (-1)):=λ_ _ _=>by kernel_rfl
def pc_k6:CL:=([2,1,5],0)::pc_k3
def pc_k7:CL:=([2,2,6],1)::pc_k6
theorem pc_p5:pc_G pc_k7 (.int .i64 1):=λ_ _ _=>by kernel_rfl
def pc_k8:CL:=([2,2,6],(-1))::pc_k6
theorem pc_p4:pc_G pc_k8 (.int .i64 (-1)):=λ_ _ _=>by kernel_rfl
def pc_k9:CL:=([2,2,6],0)::pc_k6
def pc_k10:CL:=([2,3,7],0)::pc_k9
theorem pc_p8:pc_G pc_k10 (.int .i64 0):=λ_ _ _=>by kernel_rfl
def pc_k11:CL:=([2,3,7],1)::pc_k9
theorem pc_p7:pc_G pc_k11 (.int .i64 1):=λ_ _ _=>by kernel_rfl
def pc_k12:CL:=([2,3,7],(-1))::pc_k9
theorem pc_p6:pc_G pc_k12 (.int .i64 (-1)):=λ_ _ _=>by kernel_rfl
theorem plane_Cmp_s{S:Sh}{w:World}(hS:ZV S w){c_a c_b:List Value}{a0 a1 a2 a3 a4 a5 a6 a7:Rat}{k:Nat}(h_a:Fs S c_a [a0,a1,a2,a3] k)(h_b:Fs S c_b [a4,a5,a6,a7] k)(hlim:k<=100000000000)(hn1:¬(a0.num=0/\a1.num=0/\a2.num=0))(hn2:¬(a4.num=0/\a5.num=0/\a6.num=0)):
  Calls prog 21 [(.agg (c_a:List Value).toArray),(.agg (c_b:List Value).toArray)].toArray w (Ret S w (λ_ v=>v= .int .i64 (QS (Yp a0 a4) (Yp a1 a5) (Yp a2 a6)<|Yp a3 a7))):=by
 have leaf:=λcs hc {r} (h:pc_G cs r) {u} hg=>Qt Zc4 (K:=k) (base:=YV [a0,a1,a2,a3,a4,a5,a6,a7]) (by kernel_rfl) hlim (by kernel_rfl) hS (λ_ _=>.cons (.agg (QF (is:=[0,1,2,3]) (qs:=[a0,a1,a2,a3]) (k:=k) ⟨by kernel_rfl,le1 _,by kernel_rfl,le1 _,by kernel_rfl,le1 _,by kernel_rfl,le1 _,trivial⟩ h_a)) (.cons (.agg (QF (is:=[4,5,6,7]) (qs:=[a4,a5,a6,a7]) (k:=k) ⟨by kernel_rfl,le1 _,by kernel_rfl,le1 _,by kernel_rfl,le1 _,by kernel_rfl,le1 _,trivial⟩ h_b)) .nil)) cs hc (r:=r) h (u:=u) hg;have H0:Csl (Zc0 a0 a1 a2 a3 a4 a5 a6 a7) pc_k0:=.cons (show ZI (Zc0 a0 a1 a2 a3 a4 a5 a6 a7) [9,4,5,6]=0 from if_neg hn2) (.cons (show ZI (Zc0 a0 a1 a2 a3 a4 a5 a6 a7) [9,0,1,2]=0 from if_neg hn1) .nil);rcases Zcm (Zc0 a0 a1 a2 a3 a4 a5 a6 a7) (t:=2) (is:=[0,4]) (by decide) with h0|h0|h0;rotate_left 2
 have H1:Csl (Zc0 a0 a1 a2 a3 a4 a5 a6 a7) pc_k1:=.cons h0 H0;exact Calls.mono (leaf _ H1 pc_p1 rfl) λe w' ⟨v,S',q1,q2,q3⟩=>⟨v,S',q1,q2,q3.trans (by unfold QS;rw[(tr h0:Yp a0 a4=_)];rfl)⟩;have H2:Csl (Zc0 a0 a1 a2 a3 a4 a5 a6 a7) pc_k2:=.cons h0 H0;exact Calls.mono (leaf _ H2 pc_p0 rfl) λe w' ⟨v,S',q1,q2,q3⟩=>⟨v,S',q1,q2,q3.trans (by unfold QS;rw[(tr h0:Yp a0 a4=_)];rfl)⟩;have H3:Csl (Zc0 a0 a1 a2 a3 a4 a5 a6 a7) pc_k3:=.cons h0 H0;rcases Zcm (Zc0 a0 a1 a2 a3 a4 a5 a6 a7) (t:=2) (is:=[1,5]) (by decide) with h1|h1|h1;rotate_left 2
 have H4:Csl (Zc0 a0 a1 a2 a3 a4 a5 a6 a7) pc_k4:=.cons h1 H3;exact Calls.mono (leaf _ H4 pc_p3 rfl) λe w' ⟨v,S',q1,q2,q3⟩=>⟨v,S',q1,q2,q3.trans (by unfold QS;rw[(tr h0:Yp a0 a4=_),(tr h1:Yp a1 a5=_)];rfl)⟩;have H5:Csl (Zc0 a0 a1 a2 a3 a4 a5 a6 a7) pc_k5:=.cons h1 H3;exact Calls.mono (leaf _ H5 pc_p2 rfl) λe w' ⟨v,S',q1,q2,q3⟩=>⟨v,S',q1,q2,q3.trans (by unfold QS;rw[(tr h0:Yp a0 a4=_),(tr h1:Yp a1 a5=_)];rfl)⟩;have H6:Csl (Zc0 a0 a1 a2 a3 a4 a5 a6 a7) pc_k6:=.cons h1 H3;rcases Zcm (Zc0 a0 a1 a2 a3 a4 a5 a6 a7) (t:=2) (is:=[2,6]) (by decide) with h2|h2|h2;rotate_left 2
 have H7:Csl (Zc0 a0 a1 a2 a3 a4 a5 a6 a7) pc_k7:=.cons h2 H6;exact Calls.mono (leaf _ H7 pc_p5 rfl) λe w' ⟨v,S',q1,q2,q3⟩=>⟨v,S',q1,q2,q3.trans (by unfold QS;rw[(tr h0:Yp a0 a4=_),(tr h1:Yp a1 a5=_),(tr h2:Yp a2 a6=_)];rfl)⟩;have H8:Csl (Zc0 a0 a1 a2 a3 a4 a5 a6 a7) pc_k8:=.cons h2 H6;exact Calls.mono (leaf _ H8 pc_p4 rfl) λe w' ⟨v,S',q1,q2,q3⟩=>⟨v,S',q1,q2,q3.trans (by unfold QS;rw[(tr h0:Yp a0 a4=_),(tr h1:Yp a1 a5=_),(tr h2:Yp a2 a6=_)];rfl)⟩;have H9:Csl (Zc0 a0 a1 a2 a3 a4 a5 a6 a7) pc_k9:=.cons h2 H6;rcases Zcm (Zc0 a0 a1 a2 a3 a4 a5 a6 a7) (t:=2) (is:=[3,7]) (by decide) with h3|h3|h3;rotate_left
 have H10:Csl (Zc0 a0 a1 a2 a3 a4 a5 a6 a7) pc_k10:=.cons h3 H9;exact Calls.mono (leaf _ H10 pc_p8 rfl) λe w' ⟨v,S',q1,q2,q3⟩=>⟨v,S',q1,q2,q3.trans (by unfold QS;rw[(tr h0:Yp a0 a4=_),(tr h1:Yp a1 a5=_),(tr h2:Yp a2 a6=_),(tr h3:Yp a3 a7=_)];rfl)⟩;have H11:Csl (Zc0 a0 a1 a2 a3 a4 a5 a6 a7) pc_k11:=.cons h3 H9;exact Calls.mono (leaf _ H11 pc_p7 rfl) λe w' ⟨v,S',q1,q2,q3⟩=>⟨v,S',q1,q2,q3.trans (by unfold QS;rw[(tr h0:Yp a0 a4=_),(tr h1:Yp a1 a5=_),(tr h2:Yp a2 a6=_),(tr h3:Yp a3 a7=_)];rfl)⟩;have H12:Csl (Zc0 a0 a1 a2 a3 a4 a5 a6 a7) pc_k12:=.cons h3 H9;exact Calls.mono (leaf _ H12 pc_p6 rfl) λe w' ⟨v,S',q1,q2,q3⟩=>⟨v,S',q1,q2,q3.trans (by unfold QS;rw[(tr h0:Yp a0 a4=_),(tr h1:Yp a1 a5=_),(tr h2:Yp a2 a6=_),(tr h3:Yp a3 a7=_)];rfl)⟩
def pp_r:List Rw:=[⟨[3,0],0,0⟩,⟨[3,1],0,0⟩,⟨[3,2],0,0⟩,⟨[3,3],0,0⟩,⟨[38,0],0,900⟩,⟨[38,1],0,900⟩,⟨[38,2],0,900⟩,⟨[38,3],0,900⟩,⟨[46,4,5,6,7,4],0,351808⟩,⟨[46,4,5,6,7,5],0,351808⟩,⟨[46,4,5,6,7,6],0,351808⟩,⟨[46,4,5,6,7,7],0,351808⟩,⟨[6],0,351808⟩]
def pp_T(cs:CL):Tb:=⟨pp_r,cs,100000000000⟩
def pp_G(cs:CL)(r:SV Ato):Prop:=Zdn Zgt (pp_T cs) 20 [.agg (cTs [0,1,2,3])] r 120
def Zdo(x0 x1 x2 x3:ByteArray):Nat->AV:=rho (pp_T []) (baseS [x0,x1,x2,x3])
def pp_k0:CL:=([12,3],0)::([12,2],0)::([12,1],0)::([12,0],0)::[]
def pp_k1(nh0:Nat):CL:=([4,0],.ofNat (.succ nh0))::pp_k0
theorem pp_p5(nh0:Nat):pp_G (pp_k1 nh0) (.tup [.agg (zQs 4),.int .i64 (.ofNat (.succ nh0))]):=λ_ _ _=>by kernel_rfl
def pp_k2:CL:=([4,0],0)::pp_k0
def pp_k3(nh1:Nat):CL:=([4,1],.ofNat (.succ nh1))::pp_k2
theorem pp_p4(nh1:Nat):pp_G (pp_k3 nh1) (.tup [.agg (zQs 4),.int .i64 (.ofNat (.succ nh1))]):=λ_ _ _=>by kernel_rfl
def pp_k4:CL:=([4,1],0)::pp_k2
def pp_k5(nh2:Nat):CL:=([4,2],.ofNat (.succ nh2))::pp_k4
theorem pp_p3(nh2:Nat):pp_G (pp_k5 nh2) (.tup [.agg (zQs 4),.int .i64 (.ofNat (.succ nh2))]):=λ_ _ _=>by kernel_rfl
def pp_k6:CL:=([4,2],0)::pp_k4
def pp_k7(nh3:Nat):CL:=([4,3],.ofNat (.succ nh3))::pp_k6
theorem pp_p2(nh3:Nat):pp_G (pp_k7 nh3) (.tup [.agg (zQs 4),.int .i64 (.ofNat (.succ nh3))]):=λ_ _ _=>by kernel_rfl
def pp_k8:CL:=([4,3],0)::pp_k6
def pp_k9:CL:=([9,4,5,6],1)::pp_k8
theorem pp_p1:pp_G pp_k9 (.tup [.agg (cQs [12,12,12,12]),.int .i64 2]):=λ_ _ _=>by kernel_rfl
def pp_k10:CL:=([9,4,5,6],0)::pp_k8
theorem pp_p0:pp_G pp_k10 (.tup [.agg (cQs [8,9,10,11]),.int .i64 0]):=λ_ _ _=>by kernel_rfl
theorem plane_Parse_s{S:Sh}{w:World}(hS:ZV S w){x0 x1 x2 x3:ByteArray}(hz0:x0.size<=1024)(hz1:x1.size<=1024)(hz2:x2.size<=1024)(hz3:x3.size<=1024):
  Calls prog 20 [(.agg ([.string x0,.string x1,.string x2,.string x3]:List Value).toArray)].toArray w (Ret S w (λS v=>∃c0:List Value,v= .tuple [.agg c0.toArray,.int .i64 (Zbv (bl x0) (bl x1) (bl x2)<|bl x3)].toArray/\Fs S c0 [pvA (bl x0) (bl x1) (bl x2) (bl x3),pvB (bl x0) (bl x1) (bl x2) (bl x3),pvC (bl x0) (bl x1) (bl x2) (bl x3),pvD (bl x0) (bl x1) (bl x2) (bl x3)] 351808)):=by
 have leaf:=λcs hc {r} (h:pp_G cs r)=>YX Zc4 (K:=0) (base:=(baseS [x0,x1,x2,x3])) (by kernel_rfl) (Nat.zero_le _) (by kernel_rfl) hS (λ_ _=>.cons (.agg (cTs_mk (is:=[0,1,2,3]) (ss:=[x0,x1,x2,x3]) ⟨by kernel_rfl,by kernel_rfl,by kernel_rfl,by kernel_rfl,trivial⟩)) .nil) cs hc h;have H0:Csl (Zdo x0 x1 x2 x3) pp_k0:=.cons (show ZI (Zdo x0 x1 x2 x3) [12,3]=0 from if_neg (Nat.not_lt.2 hz3)) (.cons (show ZI (Zdo x0 x1 x2 x3) [12,2]=0 from if_neg (Nat.not_lt.2 hz2)) (.cons (show ZI (Zdo x0 x1 x2 x3) [12,1]=0 from if_neg (Nat.not_lt.2 hz1)) (.cons (show ZI (Zdo x0 x1 x2 x3) [12,0]=0 from if_neg (Nat.not_lt.2 hz0)) .nil)));rcases waysE (Zdo x0 x1 x2 x3) (t:=4) (is:=[0]) (by decide) with h0|⟨nh0,h0⟩;rotate_left
 have H1:Csl (Zdo x0 x1 x2 x3) (pp_k1 nh0):=.cons h0 H0;have g0:YP (bl x0)=_:=tr h0;have he:Zbv (bl x0) (bl x1) (bl x2) (bl x3)=Int.ofNat (Nat.succ nh0):=(perr_0 (λq=>absurd (g0.symm.trans q) (by simp;try omega))).trans g0;refine Calls.mono (leaf _ H1<|pp_p5 nh0) λe w' ⟨v,S',q1,q2,blk,q3⟩=>⟨v,S',q1,q2,?_⟩
 cases q3 with
 | tup h4=>cases h4 with
  | cons h5 h6=>cases h6 with
   |cons h7 h8=>
    cases h8
    cases h7
    rw[he]
    obtain⟨c0,rfl,hF⟩:=Zey (k:=351808) h5
    exact⟨_,rfl,hF.to (pv_err (by rw[he];simp;try omega)) (Nat.le_refl _)⟩
 have H2:Csl (Zdo x0 x1 x2 x3) pp_k2:=.cons h0 H0;rcases waysE (Zdo x0 x1 x2 x3) (t:=4) (is:=[1]) (by decide) with h1|⟨nh1,h1⟩;rotate_left
 have H3:Csl (Zdo x0 x1 x2 x3) (pp_k3 nh1):=.cons h1 H2;have g0:YP (bl x0)=_:=tr h0;have g1:YP (bl x1)=_:=tr h1;have he:Zbv (bl x0) (bl x1) (bl x2) (bl x3)=Int.ofNat (Nat.succ nh1):=(perr_1 g0 (λq=>absurd (g1.symm.trans q) (by simp;try omega))).trans g1;refine Calls.mono (leaf _ H3<|pp_p4 nh1) λe w' ⟨v,S',q1,q2,blk,q3⟩=>⟨v,S',q1,q2,?_⟩
 cases q3 with
 | tup h4=>cases h4 with
  | cons h5 h6=>cases h6 with
   |cons h7 h8=>
    cases h8
    cases h7
    rw[he]
    obtain⟨c0,rfl,hF⟩:=Zey (k:=351808) h5
    exact⟨_,rfl,hF.to (pv_err (by rw[he];simp;try omega)) (Nat.le_refl _)⟩
 have H4:Csl (Zdo x0 x1 x2 x3) pp_k4:=.cons h1 H2;rcases waysE (Zdo x0 x1 x2 x3) (t:=4) (is:=[2]) (by decide) with h2|⟨nh2,h2⟩;rotate_left
 have H5:Csl (Zdo x0 x1 x2 x3) (pp_k5 nh2):=.cons h2 H4;have g0:YP (bl x0)=_:=tr h0;have g1:YP (bl x1)=_:=tr h1;have g2:YP (bl x2)=_:=tr h2;have he:Zbv (bl x0) (bl x1) (bl x2) (bl x3)=Int.ofNat (Nat.succ nh2):=(perr_2 g0 g1 (λq=>absurd (g2.symm.trans q) (by simp;try omega))).trans g2;refine Calls.mono (leaf _ H5<|pp_p3 nh2) λe w' ⟨v,S',q1,q2,blk,q3⟩=>⟨v,S',q1,q2,?_⟩
 cases q3 with
 | tup h4=>cases h4 with
  | cons h5 h6=>cases h6 with
   |cons h7 h8=>
    cases h8
    cases h7
    rw[he]
    obtain⟨c0,rfl,hF⟩:=Zey (k:=351808) h5
    exact⟨_,rfl,hF.to (pv_err (by rw[he];simp;try omega)) (Nat.le_refl _)⟩
 have H6:Csl (Zdo x0 x1 x2 x3) pp_k6:=.cons h2 H4;rcases waysE (Zdo x0 x1 x2 x3) (t:=4) (is:=[3]) (by decide) with h3|⟨nh3,h3⟩;rotate_left
 have H7:Csl (Zdo x0 x1 x2 x3) (pp_k7 nh3):=.cons h3 H6;have g0:YP (bl x0)=_:=tr h0;have g1:YP (bl x1)=_:=tr h1;have g2:YP (bl x2)=_:=tr h2;have g3:YP (bl x3)=_:=tr h3;have he:Zbv (bl x0) (bl x1) (bl x2) (bl x3)=Int.ofNat (Nat.succ nh3):=(perr_3 g0 g1 g2 (λq=>absurd (g3.symm.trans q) (by simp;try omega))).trans g3;refine Calls.mono (leaf _ H7<|pp_p2 nh3) λe w' ⟨v,S',q1,q2,blk,q3⟩=>⟨v,S',q1,q2,?_⟩
 cases q3 with
 | tup h4=>cases h4 with
  | cons h5 h6=>cases h6 with
   |cons h7 h8=>
    cases h8
    cases h7
    rw[he]
    obtain⟨c0,rfl,hF⟩:=Zey (k:=351808) h5
    exact⟨_,rfl,hF.to (pv_err (by rw[he];simp;try omega)) (Nat.le_refl _)⟩
 have H8:Csl (Zdo x0 x1 x2 x3) pp_k8:=.cons h3 H6;rcases Zgc (Zdo x0 x1 x2 x3) (t:=9) (is:=[4,5,6]) (by decide) with h4|h4;rotate_left
 have H9:Csl (Zdo x0 x1 x2 x3) pp_k9:=.cons h4 H8;have g0:YP (bl x0)=_:=tr h0;have g1:YP (bl x1)=_:=tr h1;have g2:YP (bl x2)=_:=tr h2;have g3:YP (bl x3)=_:=tr h3;have g4:(if(Yz<|bl x0).num=0/\(Yz<|bl x1).num=0/\(Yz<|bl x2).num=0 then(1:Int) else 0)=_:=tr h4;have he:Zbv (bl x0) (bl x1) (bl x2) (bl x3)=2:=perr_4 g0 g1 g2 g3 (Classical.byContradiction λq=>absurd ((if_neg q).symm.trans g4) (by decide));refine Calls.mono (leaf _ H9 pp_p1) λe w' ⟨v,S',q1,q2,blk,q3⟩=>⟨v,S',q1,q2,?_⟩
 cases q3 with
 | tup h4=>cases h4 with
  | cons h5 h6=>cases h6 with
   |cons h7 h8=>
    cases h8
    cases h7
    rw[he]
    cases h5 with
    |agg h9=>exact⟨_,rfl,(Zcz (bd:=Zej (pp_T []) 0) (is:=[12,12,12,12]) (k:=351808) (qs:=[0,0,0,0]) ⟨by kernel_rfl,by decide,by kernel_rfl,by decide,by kernel_rfl,by decide,by kernel_rfl,by decide,trivial⟩ h9).to (pv_err (by rw[he];decide)) (Nat.le_refl _)⟩
 have H10:Csl (Zdo x0 x1 x2 x3) pp_k10:=.cons h4 H8;have g0:YP (bl x0)=_:=tr h0;have g1:YP (bl x1)=_:=tr h1;have g2:YP (bl x2)=_:=tr h2;have g3:YP (bl x3)=_:=tr h3;have g4:(if(Yz<|bl x0).num=0/\(Yz<|bl x1).num=0/\(Yz<|bl x2).num=0 then(1:Int) else 0)=_:=tr h4;have he:Zbv (bl x0) (bl x1) (bl x2) (bl x3)=0:=perr_5 g0 g1 g2 g3 (λq=>absurd ((if_pos q).symm.trans g4) (by decide));refine Calls.mono (leaf _ H10 pp_p0) λe w' ⟨v,S',q1,q2,blk,q3⟩=>⟨v,S',q1,q2,?_⟩
 cases q3 with
 | tup h4=>cases h4 with
  | cons h5 h6=>cases h6 with
   |cons h7 h8=>
    cases h8
    cases h7
    rw[he]
    cases h5 with
    |agg h9=>exact⟨_,rfl,(Zcz (bd:=Zej (pp_T []) 0) (is:=[8,9,10,11]) (k:=351808) (qs:=[(pn (Yz<|bl x0) (Yz<|bl x1) (Yz<|bl x2) (Yz<|bl x3)<|Yz<|bl x0),(pn (Yz<|bl x0) (Yz<|bl x1) (Yz<|bl x2) (Yz<|bl x3)<|Yz<|bl x1),(pn (Yz<|bl x0) (Yz<|bl x1) (Yz<|bl x2) (Yz<|bl x3)<|Yz<|bl x2),(pn (Yz<|bl x0) (Yz<|bl x1) (Yz<|bl x2) (Yz<|bl x3)<|Yz<|bl x3)]) ⟨by kernel_rfl,by decide,by kernel_rfl,by decide,by kernel_rfl,by decide,by kernel_rfl,by decide,trivial⟩ h9).to (pv_ok he) (Nat.le_refl _)⟩
abbrev fNatOf:Nat:=76
def pOf:PrF Nat:=λl=>match l with
  | [.int .u64 (.ofNat a)]=>match Nat.ble a 18446744073709551615 with
    |true=>some (nv a)
    |false=>none
  |_=>none
theorem pOf_ok:Xq prog DN fNatOf pOf:=by
 intro args r hr G w vs hd hS;unfold pOf at hr;split at hr;rename_i a;split at hr;rename_i hle;cases hr;have:=Nat.le_of_ble_eq_true hle
 cases hd with
 | cons h1 h2=>
   cases h2
   cases h1
   exact .ret (by kernel_rfl) (nat_Of hS (n:=a) (by omega)) λS' v ⟨c0,e,h⟩=>by rw[e];exact Zgi h
 cases hr;cases hr
def tabNat:List (Nat × PrF Nat):=[
  (fNatOf,pOf),
  (98,pN1 λa=>.int .i64 (bitB a:Int)),
  (133,pN2 λa b=>.int .i64 (cmpB a b)),
  (137,pN2 λa b=>nv<|Nat.add a b),
  (80,pN2 λa b=>nv<|Nat.mul a b),
  (79,pN2 λa b=>nv<|Nat.gcd a b),
  (145,pN2 λa b=>match Nat.ble b a with|true=>.tup [nv (Nat.sub a b),.int .i64 0]|false=>.tup [nv 0,.int .i64 10]),
  (77,pN2 λa b=>match Nat.beq b 0 with|true=>.tup [nv 0,nv 0,.int .i64 11]|false=>.tup [nv (Nat.div a b),nv (Nat.mod a b),.int .i64 0]),
  (118,pN1 λa=>.str (decB a))]
theorem tabNat_ok:∀p∈tabNat,Xq prog DN p.1 p.2:=by
 intro p hp;simp only[tabNat,List.mem_cons,List.not_mem_nil,or_false] at hp;rcases hp with rfl|rfl|rfl|rfl|rfl|rfl|rfl|rfl|rfl;exact pOf_ok;exact pN1_ok (by kernel_rfl) λS w c a hS h=>⟨_,YU hS h,λblk S' v hv=>by rw[hv,bitB_eq];exact .int _ _⟩;exact pN2_ok (by kernel_rfl) λS w c d a b hS h k=>⟨_,nat_Cmp hS h k,λblk S' v hv=>by rw[hv,cmpB_eq];exact .int _ _⟩;exact pN2_ok (by kernel_rfl) λS w c d a b hS h k=>⟨_,nat_Add hS h k (by omega) (by omega),λblk S' v ⟨c0,e,hv⟩=>by rw[e];exact Zgi hv⟩;exact pN2_ok (by kernel_rfl) λS w c d a b hS h k=>⟨_,nat_Mul hS h k (by omega) (by omega),λblk S' v ⟨c0,e,hv⟩=>by rw[e];exact Zgi hv⟩;exact pN2_ok (by kernel_rfl) λS w c d a b hS h k=>⟨_,nat_Gcd hS h k (by omega),λblk S' v ⟨c0,e,hv⟩=>by rw[e];exact Zgi hv⟩;refine pN2_ok (by kernel_rfl) λS w c d a b hS h k=>⟨_,nat_Sub hS h k (by omega),λblk S' v hv=>?_⟩;rcases hv with⟨h1,c0,e,hv⟩|⟨h1,c0,e,hv⟩
 have:Nat.ble b a=false:=by
   cases hb:Nat.ble b a with
   |false=>rfl
   |true=>have:=Nat.le_of_ble_eq_true hb;omega
 rw[e,this];exact .tup (.cons (Zgi hv) (.cons (.int _ _) .nil));rw[e,Nat.ble_eq_true_of_le h1];exact .tup (.cons (Zgi hv) (.cons (.int _ _) .nil));refine pN2_ok (by kernel_rfl) λS w c d a b hS h k=>⟨_,nat_Div hS h k (by omega),λblk S' v hv=>?_⟩;rcases hv with⟨h1,c0,c1,e,hv,hu⟩|⟨h1,c0,c1,e,hv,hu⟩;subst h1;rw[e];exact .tup (.cons (Zgi hv) (.cons (Zgi hu) (.cons (.int _ _) .nil)))
 have:Nat.beq b 0=false:=by
   cases hb:Nat.beq b 0 with
   |false=>rfl
   |true=>rw[YY] at hb;exact absurd hb h1
 rw[e,this];exact .tup (.cons (Zgi hv) (.cons (Zgi hu) (.cons (.int _ _) .nil)));refine pN1_ok (by kernel_rfl) λS w c a hS h=>⟨_,Zcv hS h (by omega),λblk S' v hv=>?_⟩;rw[hv,decB_eq];exact .str _
def fracV(q:Rat):SV Nat:=.agg [.bool (decide (q.num<0)),.at_ q.num.natAbs,.at_ (q.den-1)]
theorem fracV_den{S:Sh}{cs:List Value}{q:Rat}{k:Nat}{blk:Nat->Option (Nat × Nat)}(h:Fs S cs [q] k):Den DN ⟨S,blk⟩ (fracV q) (.agg cs.toArray):=by
 obtain⟨c0,c1,c2,c3,c4,rfl,h1,h2,_⟩:=h.one;obtain⟨us,e,h3⟩:=h1.abs;have h0:=h1.sign;simp at h0 e;subst h0 e;refine .agg (.one (.bool _) rfl (λ_=>by simp) ?_);have:=YW.run (D:=DN) (G:=⟨S,blk⟩) (a:=q.num.natAbs) (us:=[c1,c2]) ⟨k,h3⟩ (YW.run (a:=q.den-1) (us:=[c3,c4]) ⟨k,h2⟩ .nil);simpa using this
def pParse:PrF Nat:=λl=>match l with
  | [.str s]=>match byteL s with
    | true=>match Nat.ble (lenL s) 1000000 with
      |true=>some (.tup [fracV (Yz s),.int .i64 (YP s)])
      |false=>none
    |false=>none
  |_=>none
theorem pParse_ok:Xq prog DN 32 pParse:=by
 intro args r hr G w vs hd hS;unfold pParse at hr;split at hr;rename_i s;split at hr;rename_i hb;split at hr;rename_i hle;cases hr;have hle':=Nat.le_of_ble_eq_true hle;rw[Zd3] at hle';have hbl:=Qr (Zh7 hb)
 cases hd with
 | cons h1 h2=>
   cases h2
   cases h1
   refine .ret (by kernel_rfl) (frac_Parse hS (s:=Xb s) (by rw[Zfc];omega)) λS' v hv=>?_
   rw[hbl] at hv
   obtain⟨c0,e,hv⟩:=hv
   rw[e]
   exact .tup (.cons (fracV_den hv) (.cons (.int _ _) .nil))
 cases hr;cases hr;cases hr
def isTrue(o:Option (CR Nat)):Bool:=match o with
  | some c=>match c.r with
    | .bool b=>b
    |_=>false
  |none=>false
theorem known{P:Program}{f:FuncId}(hmo:P.follows .mixedOrders=true){l:List (Nat × PrF Nat)}(hl:∀p∈l,Xq P DN p.1 p.2){k:Nat}(he:ZR P f=true)(h:isTrue (callB P DN (primOf<|mkTab l) (runN P DN (primOf<|mkTab l) k) 0 f [] .nil 0)=true){S:Sh}{w:World}(hS:ZV S w):Calls P f [].toArray w (Ret S w λ_ v=>v= .bool true):=by
 unfold isTrue at h;split at h;rename_i c hc;split at h;rename_i b hb;subst h;refine Calls.mono (Zcl.toRet he<|ev_call hmo (primOf_ok hl) hc hS .nil) λe w' ⟨v,S',h1,h2,blk',h3⟩=>⟨v,S',h1,h2,?_⟩;rw[hb] at h3;cases h3;rfl;cases h;cases h
def tabPlane:List (Nat × PrF Nat):=(32,pParse)::tabNat
theorem tabPlane_ok:∀p∈tabPlane,Xq prog DN p.1 p.2:=by
 intro p hp;rcases List.mem_cons.1 hp with rfl|hp;exact pParse_ok;exact tabNat_ok p hp
theorem works_run:isTrue (callB prog DN (primOf<|mkTab tabPlane) (runN prog DN (primOf<|mkTab tabPlane) 4000) 0 11 [] .nil 0)=true:=by kernel_rfl
theorem works_s{S:Sh}{w:World}(hS:ZV S w):Calls prog 11 [].toArray w (Ret S w λ_ v=>v= .bool true):=known mixed tabPlane_ok (by kernel_rfl) works_run hS
section
def pWorks:PrF Ato:=λl=>match l with
  |[]=>some (.bool true)
  |_=>none
section
variable{T:Tb}{K:Nat}{base ρ:Nat->AV}{bd:Nat->Nat}{G:Gh}{T0:Tb}{hT:Cs T0 ρ}
theorem pWorks_ok:Xq prog (DS hT bd) 11 pWorks:=by
 intro args r hr G w vs hd hS;unfold pWorks at hr;split at hr;cases hr;cases hd;refine .ret (by kernel_rfl) (works_s hS) λS' v hv=>?_;rw[hv];exact .bool _;cases hr
theorem TsE.vals:∀{is:List Nat} {ss:List ByteArray},TsE ρ is ss->is.map ρ=ss.map AV.s
  |[],[],_=>rfl
  |i::is,s::ss,h=>by rw[List.map_cons,List.map_cons,h.1,TsE.vals h.2]
  |[],_::_,h=>h.elim
  |_::_,[],h=>h.elim
theorem TsE.len:∀{is:List Nat} {ss:List ByteArray},TsE ρ is ss->is.length=ss.length
  |[],[],_=>rfl
  |i::is,s::ss,h=>by rw[List.length_cons,List.length_cons,TsE.len h.2]
  |[],_::_,h=>h.elim
  |_::_,[],h=>h.elim
end
end
section
def pRText(T:Tb):PrF Ato:=λl=>match l with
 |[x]=>match asR T x with
  |some i=>opV T 43 100000000000 0 [i]
  |none=>none
 |_=>none
def pRParse(T:Tb):PrF Ato:=λl=>match l with
 | [.at_ (.t i)]=>match shortB T i with
  | true=>match Zgn [4,i] T.conds with
   | some x=>match Zd7 T (keyE x [38,i]) with
    |some (k,r)=>match Nat.ble 900 r.d with
     |true=>some (.tup [.agg (cR k),.int .i64 x])
     |false=>none
    |none=>none
   |none=>none
  |false=>none
 |_=>none
def asRs(T:Tb):Nat->List (SV Ato)->Option (List Nat)
 |0,l=>match l with
  |[]=>some []
  |_=>none
 | n+1,l=>match l with
  | a::b::c::r=>match asR T (.agg [a,b,c]) with
   |some i=>match asRs T n r with
    |some is=>some (i::is)
    |none=>none
   |none=>none
  |_=>none
def nzR(T:Tb)(i:Nat):Bool:=match isK T i 2 with
 | true=>match Zez T [19,i] with
  |some b=>match b with
   |true=>false
   |false=>true
  |none=>false
 |false=>false
def pRMake(T:Tb):PrF Ato:=λl=>match l with
 | [.agg n,y]=>match asRs T 3 n with
  | some is=>match asR T y with
   | some d=>match is with
    | [a, b,c]=>match limB T 250000000 [a,b,c,d] with
     | true=>match Nat.ble (Nat.add (Nat.mul (mxC T [a,b,c,d]) T.km)<|mxD T [a,b,c,d]) 250000000 with
      | true=>match nzR T a||nzR T b||nzR T c with
       | true=>match row46 T a b c d a with
        | some i=>match row46 T a b c d b with
         | some j=>match row46 T a b c d c with
          |some k=>match row46 T a b c d d with
           |some l=>some (.agg (cRs [i,j,k,l]))
           |none=>none
          |none=>none
         |none=>none
        |none=>none
       |false=>none
      |false=>none
     |false=>none
    |_=>none
   |none=>none
  |none=>none
 |_=>none
section
variable{T:Tb}{K:Nat}{base ρ:Nat->AV}{bd:Nat->Nat}{G:Gh}{T0:Tb}{hT:Cs T0 ρ}
theorem pRText_ok(hg:YG T K base ρ bd):Xq prog (DS hT bd) 56 (pRText T):=by
 intro args r hr G w vs hd hS;unfold pRText at hr;split at hr;split at hr;rename_i i hi;obtain⟨l,rfl,g1,g2,g3,g4⟩:=Zfb hg hr (by decide);have hb:=g3 (bd i) (by simp)
 cases hd with
 |cons x1 x2=>
  cases x2
  obtain⟨c,rfl,h5⟩:=Zia hg hi x1
  refine .ret (by kernel_rfl) (cref03_Text hS h5 hb) λS' v hv=>Xm g1 ?_
  rw[g2]
  exact hv
 cases hr;cases hr
theorem pRParse_ok(hg:YG T K base ρ bd):Xq prog (DS hT bd) 33 (pRParse T):=by
 intro args r hr G w vs hd hS;unfold pRParse at hr;split at hr;rename_i i;split at hr;rename_i hs;split at hr;rename_i x hx;split at hr;rename_i k r' hf;split at hr;rename_i hb;cases hr;obtain⟨h1,h2⟩:=XI hf;obtain⟨h3,h4⟩:=hg.row _ _ h1;rw[h2] at h3
 cases hd with
 | cons x1 x2=>
  cases x2
  cases x1 with
  | at_ hp=>
   obtain⟨s,e,hv⟩:=hp
   have hv':=List.cons.inj hv
   obtain⟨rfl,_⟩:=hv'
   have hsz:=shortB_ok hg hs
   rw[e] at hsz
   have hsz':s.size<=1024:=hsz
   have hc:YP (bl s)=x:=by
    have h9:=hg.cond _ (Zab hx)
    have h8:ZI ρ [4,i]=YP (bl (ρ i).txt):=rfl
    rw[e] at h8
    exact h8.symm.trans h9
   have h3':ρ k= .q (Yz<|bl s):=by
    rw[h3]
    unfold keyE
    split
    ·split
     ·show Zg9 38 [ρ i]=_
      rw[e];rfl
     ·show AV.q 0=_
      unfold Yz
      rw[if_neg (by rw[hc];simp;omega)]
    ·show Zg9 38 [ρ i]=_
     rw[e];rfl
   have hb':=Nat.le_of_ble_eq_true hb
   refine .ret (by kernel_rfl) (cref03_Parse hS (s:=s) (by omega)) λS' v ⟨c0,ev,hv⟩=>?_
   rw[ev,hc]
   exact .tup (.cons (.agg (cR_mk h3' (by omega) hv)) (.cons (.int _ _) .nil))
 cases hr;cases hr;cases hr;cases hr;cases hr
theorem asRs_ok(hg:YG T K base ρ bd){k:Nat}:∀{n:Nat} {l:List (SV Ato)} {is:List Nat} {vs:List Value},asRs T n l=some is->YW (DS hT bd) G l vs->(∀i∈is,bd i<=k)->Gs G.S vs (is.map λi=>(ρ i).rat) k
 | 0,l,is,vs,h,hd,hk=>by
  unfold asRs at h
  split at h
  ·cases h
   rw[hd.nilI];rfl
  ·cases h
 | n +1,l,is,vs,h,hd,hk=>by
  unfold asRs at h
  split at h
  ·rename_i a b c r
   split at h
   ·rename_i i hi
    split at h
    ·rename_i js hjs
     cases h
     obtain⟨us,ws,rfl,h1,h2⟩:=YW.splitA (A:=[a,b,c]) hd
     obtain⟨cs,e,h3⟩:=Zia hg hi (.agg h1)
     have e2:us=cs:=by
      have:=congrArg (λv=>match v with|Value.agg x=>x.toList|_=>[]) e
      simpa using this
     subst e2
     exact(h3.wide<|hk i (by simp)).append (asRs_ok hg hjs h2 λj hj=>hk j (by simp[hj]))
    ·cases h
   ·cases h
  ·cases h
theorem nzR_ok(hg:YG T K base ρ bd){i:Nat}(h:nzR T i=true):(ρ i).rat.num≠0:=by
 unfold nzR at h;split at h;rename_i hk;split at h;rename_i b hb;have h1:=Qh hg.cond hb
 cases b with
 |true=>cases h
 |false=>
  have h2:(if(ρ i).abs=0 then(1:Int) else 0)=0:=h1
  have h3:=AV.k2 (Zce hg hk)
  rw[h3] at h2
  have h4:(if(ρ i).rat.num.natAbs=0 then(1:Int) else 0)=0:=h2
  split at h4
  ·cases h4
  ·omega
 cases h;cases h
theorem pRMake_ok(hg:YG T K base ρ bd):Xq prog (DS hT bd) 40 (pRMake T):=by
 intro args r hr G w vs hd hS;unfold pRMake at hr;split at hr;rename_i n y;split at hr;rename_i is his;split at hr;rename_i d hd4;split at hr;rename_i a b c;split at hr;rename_i hl;split at hr;rename_i hm;have hm':=mx_lim hg.km hm;have hmx:=mx_ok hg hl
 cases hd with
 | cons x1 x2=>
  cases x2 with
  | cons x3 x4=>
   cases x4
   cases x1 with
   | agg x1=>
    have h1:=asRs_ok hg his x1 (k:=mxC T [a,b,c,d]*K+mxD T [a,b,c,d]) (λi hi=>hmx i (by simp at hi ⊢;omega))
    obtain⟨c2,rfl,h2'⟩:=Zia hg hd4 x3
    have h2:=h2'.wide (hmx d (by simp))
    split at hr
    ·rename_i hnz
     have hn:¬((ρ a).rat.num=0/\(ρ b).rat.num=0/\(ρ c).rat.num=0):=by
      simp only[Bool.or_eq_true] at hnz
      rcases hnz with(q|q)|q
      ·exact λz=>nzR_ok hg q z.1
      ·exact λz=>nzR_ok hg q z.2.1
      ·exact λz=>nzR_ok hg q z.2.2
     have hC:=cref05_Make hS (a0:=(ρ a).rat) (a1:=(ρ b).rat) (a2:=(ρ c).rat) (a3:=(ρ d).rat) h1 h2 (by omega) (by omega) hn
     split at hr
     ·rename_i i hi
      split at hr
      ·rename_i j hj
       split at hr
       ·rename_i k hk
        split at hr
        ·rename_i l hl2
         cases hr
         obtain⟨e0,f0⟩:=Zcu hg hi
         obtain⟨e1,f1⟩:=Zcu hg hj
         obtain⟨e2,f2⟩:=Zcu hg hk
         obtain⟨e3,f3⟩:=Zcu hg hl2
         refine .ret (by kernel_rfl) hC λS' v ⟨c0,ev,hF⟩=>?_
         rw[ev,Nat.max_self] at*
         exact .agg (Zh5 (is:=[i,j,k,l]) (qs:=[_,_,_,_]) ⟨e0,by omega,e1,by omega,e2,by omega,e3,by omega,trivial⟩ hF)
        ·cases hr
       ·cases hr
      ·cases hr
     ·cases hr
    ·cases hr
 cases hr;cases hr;cases hr;cases hr;cases hr;cases hr
end
theorem ferr_3w(l:List Nat):YP l=0\/YP l=3\/YP l=12:=by
 rcases ferr_cases l with h|h|h|h;exact .inr (.inr h.2);exact .inr (.inl h.2.2);exact .inr (.inr h.2.2.2);exact .inl h.2.2.2
theorem waysF(ρ:Nat->AV){t:Nat}{is:List Nat}(h:t=4):ZI ρ (t::is)=0\/ZI ρ (t::is)=3\/ZI ρ (t::is)=12:=by
 subst h;show semT 4 (is.map ρ)=0\/semT 4 (is.map ρ)=3\/semT 4 (is.map ρ)=12;unfold semT;split <;> first|omega|exact ferr_3w _|skip
 unfold semU;split <;> first|omega|exact .inl rfl
def Ze2(T:Tb):List (Nat × PrF Ato):=(56,pRText T)::(33,pRParse T)::(40,pRMake T)::(11,pWorks)::(Zgt T++symTabS T)
theorem Zbt:TabOK Ze2:=by
 intro T K base ρ bd T0 hT hg p hp;simp only[Ze2,List.mem_cons,List.mem_append] at hp;rcases hp with rfl|rfl|rfl|rfl|hp|hp;exact pRText_ok hg;exact pRParse_ok hg;exact pRMake_ok hg;exact pWorks_ok;exact Zc4 hg p hp;exact symTabS_OK hg p hp
end
theorem perr_zero{x y z u:List Nat}(h:Zbv x y z u=0):YP x=0/\YP y=0/\YP z=0/\YP u=0/\¬((Yz x).num=0/\(Yz y).num=0/\(Yz z).num=0):=by
 unfold Zbv at h;split at h;rename_i h1;exact absurd h h1;split at h;rename_i h1;exact absurd h h1;split at h;rename_i h1;exact absurd h h1;split at h;rename_i h1;exact absurd h h1;split at h;cases h;rename_i a b c d e;exact⟨Classical.byContradiction a,Classical.byContradiction b,Classical.byContradiction c,Classical.byContradiction d,e⟩
theorem pv_nz0{x y z u:List Nat}(h:Zbv x y z u=0):¬(pvA x y z u=0/\pvB x y z u=0/\pvC x y z u=0):=by
 unfold pvA pvB pvC;rw[if_pos h,if_pos h,if_pos h];exact pn_nz<|nz3.1 (perr_zero h).2.2.2.2
theorem pv_nz{x y z u:List Nat}(h:Zbv x y z u=0):¬((pvA x y z u).num=0/\(pvB x y z u).num=0/\(pvC x y z u).num=0):=nz3.2 (pv_nz0 h)
theorem sgnQ(q:Rat):(Yu q.num= -1/\q<0)\/(Yu q.num=0/\q=0)\/(Yu q.num=1/\0<q):=by
 rcases sgnZ_cases q.num with h|h|h;refine .inl ⟨h,?_⟩;have h1:q.num<0:=Zaw.1 (by omega);have:¬ 0<=q:=λh2=>by have:=Rat.num_nonneg.2 h2;omega
 grind;exact .inr (.inl ⟨h,num0.1 (Yh.1 h)⟩);refine .inr (.inr ⟨h,?_⟩);have h1:0<q.num:=sgnZ_pos.1 (by omega);have h2:0<=q:=Rat.num_nonneg.1 (by omega);have h3:q≠0:=λe=>by rw[e] at h1;exact absurd h1 (by decide)
 grind
theorem Zh4(a b:Rat):Yp a b=0-Yp b a:=by
 unfold Yp;by_cases h:a<b;have h2:¬b<a:=by grind
 rw[if_pos h,if_neg h2,if_pos h];rfl;by_cases h2:b<a;rw[if_neg h,if_pos h2,if_pos h2];rfl;rw[if_neg h,if_neg h2,if_neg h2,if_neg h];rfl
theorem Zh3{a b:Rat}:Yp a b=0↔a=b:=by
 unfold Yp;by_cases h:a<b;rw[if_pos h];constructor;intro e;cases e;intro e;subst e;grind;by_cases h2:b<a;rw[if_neg h,if_pos h2];constructor;intro e;cases e;intro e;subst e;grind;rw[if_neg h,if_neg h2];constructor;intro _;grind;intro _;rfl
theorem cmpQ_cases(a b:Rat):(Yp a b= -1/\a<b)\/(Yp a b=0/\a=b)\/(Yp a b=1/\b<a):=by
 unfold Yp;by_cases h:a<b;rw[if_pos h];exact Or.inl ⟨rfl,h⟩;by_cases h2:b<a;rw[if_neg h,if_pos h2];exact Or.inr<|Or.inr ⟨rfl,h2⟩;rw[if_neg h,if_neg h2];exact Or.inr<|Or.inl ⟨rfl,by grind⟩
theorem Zbx(x y z u:Int):(x≠0/\QS x y z u=x)\/(x=0/\y≠0/\QS x y z u=y)\/(x=0/\y=0/\z≠0/\QS x y z u=z)\/(x=0/\y=0/\z=0/\QS x y z u=u):=by
 by_cases h:x=0;by_cases h1:y=0;by_cases h2:z=0;exact Or.inr<|Or.inr<|Or.inr ⟨h,h1,h2,(lex4_3 h h1 h2).symm⟩;exact Or.inr<|Or.inr<|Or.inl ⟨h,h1,h2,(lex4_2 h h1 h2).symm⟩;exact Or.inr<|Or.inl ⟨h,h1,(lex4_1 h h1).symm⟩;exact Or.inl ⟨h,(lex4_0 h).symm⟩
theorem cmp4_anti{a b c d e f g h:Rat}:QS (Yp a e) (Yp b f) (Yp c g) (Yp d h)=0-QS (Yp e a) (Yp f b) (Yp g c) (Yp h d):=by
 have h1:=Zh4 a e;have h2:=Zh4 b f;have h3:=Zh4 c g;have h4:=Zh4 d h;have c1:=Zbx (Yp a e) (Yp b f) (Yp c g) (Yp d h);have c2:=Zbx (Yp e a) (Yp f b) (Yp g c) (Yp h d);omega
theorem cmp4_zero{a b c d e f g h:Rat}:QS (Yp a e) (Yp b f) (Yp c g) (Yp d h)=0↔(a=e/\b=f/\c=g/\d=h):=by
 have c1:=Zbx (Yp a e) (Yp b f) (Yp c g) (Yp d h);rw[<- @Zh3 a e,<- @Zh3 b f,<- @Zh3 c g,<- @Zh3 d h];omega
theorem cmp4_trans{a b c d e f g h i j k l:Rat}(h1:QS (Yp a e) (Yp b f) (Yp c g) (Yp d h)<=0)(h2:QS (Yp e i) (Yp f j) (Yp g k) (Yp h l)<=0):¬ 0<QS (Yp a i) (Yp b j) (Yp c k) (Yp d l):=by
 have c1:=Zbx (Yp a e) (Yp b f) (Yp c g) (Yp d h);have c2:=Zbx (Yp e i) (Yp f j) (Yp g k) (Yp h l);have c3:=Zbx (Yp a i) (Yp b j) (Yp c k) (Yp d l);have t:∀x y z:Rat,(Yp x y=0/\Yp y z=Yp x z)\/(Yp y z=0/\Yp x y=Yp x z)\/(Yp x y= -1/\Yp y z= -1/\Yp x z= -1)\/(Yp x y=1)\/(Yp y z=1):=by intro x y z;rcases cmpQ_cases x y with⟨e1,p1⟩|⟨e1,p1⟩|⟨e1,p1⟩;rcases cmpQ_cases y z with⟨e2,p2⟩|⟨e2,p2⟩|⟨e2,p2⟩;refine Or.inr<|Or.inr<|Or.inl ⟨e1,e2,?_⟩;unfold Yp;rw[if_pos (by grind)];subst p2;exact Or.inr<|Or.inl ⟨e2,rfl⟩;exact Or.inr<|Or.inr<|Or.inr<|Or.inr e2;subst p1;exact Or.inl ⟨e1,rfl⟩;exact Or.inr (Or.inr<|Or.inr<|Or.inl e1)
 have t1:=t a e i;have t2:=t b f j;have t3:=t c g k;have t4:=t d h l;omega
theorem nine{p:Prop}[Decidable p](h:(if p then(1:Int) else 0)=0):¬p:=λe=>by rw[if_pos e] at h;cases h
theorem nine1{p:Prop}[Decidable p](h:(if p then(1:Int) else 0)=1):p:=Classical.byContradiction λe=>by rw[if_neg e] at h;cases h
theorem abs1{z:Int}(h:(if z.natAbs=0 then(1:Int) else 0)=1):z=0:=Int.natAbs_eq_zero.1 (nine1 h)
section
def zPl:Nat->List Value
  |0=>[]
  |n+1=>.bool false:: .int .u64 0:: .slice none 0 0:: .int .u64 0:: .slice none 0 0::zPl n
def zPlane:List Value:=zPl 4
section
variable{T:Tb}{ρ:Nat->AV}{hT:Cs T ρ}{bd:Nat->Nat}{S:Sh}{blk:Nat->Option (Nat × Nat)}{G:Gh}
theorem zq_den:∀n,YW (DS hT bd) G (zQs n) (zPl n)
  |0=>.nil
  |n+1=>.one (.bool _) rfl (λ_ h=>by cases h) (.one (.int _ _) rfl (λ_ h=>by cases h) (.one (.slN 0 0) rfl (λ_ h=>by cases h) (.one (.int _ _) rfl (λ_ h=>by cases h) (.one (.slN 0 0) rfl (λ_ h=>by cases h) (zq_den n)))))
theorem zero_den:Den (DS hT bd) G (.agg (zQs 4)) (.agg zPlane.toArray):=.agg (zq_den 4)
theorem Zbb{l:List (SV Ato)}{e:Int}{v:Value}{Q:List Value->Prop}(h:Den (DS hT bd) ⟨S,blk⟩ (.tup [.agg l,.int .i64 e]) v)(hl:lsz (DS hT bd) l=12)(f:∀vs,YW (DS hT bd) ⟨S,blk⟩ l vs->e=0->Q vs):
    ∃c0:List Value,v= .tuple [.agg c0.toArray,.int .i64 e].toArray/\c0.length=12/\(∀u∈c0,one u=true)/\(e=0->Q c0):=by
 cases h with
 | tup h4=>cases h4 with
   | cons h5 h6=>cases h6 with
     | cons h7 h8=>
       cases h8
       cases h7
       cases h5 with
       |agg h9=>exact⟨_,rfl,h9.len.trans hl,h9.ones,f _ h9⟩
end
theorem far_no{a b c d:Prop}(h1:¬a)(h2:¬b)(h3:¬c)(h4:¬d):¬(a\/b\/c\/d):=λz=>z.elim h1 λz=>z.elim h2 λz=>z.elim h3 h4
theorem abs0{z:Int}(h:(if z.natAbs=0 then(1:Int) else 0)=0):z≠0:=λe=>nine h<|Int.natAbs_eq_zero.2 e
theorem Zbo(a b:Rat):Yp a b=Yu (a+ -b).num:=by
 rcases cmpQ_cases a b with⟨e,h⟩|⟨e,h⟩|⟨e,h⟩;rcases sgnQ (a+ -b) with⟨f,g⟩|⟨f,g⟩|⟨f,g⟩;rw[e,f]
 exact absurd h (by have:a=b:=by grind
                    rw[this];exact Rat.lt_irrefl)
 grind;rw[e,h,show b+ -b=0 by grind];rfl;rcases sgnQ (a+ -b) with⟨f,g⟩|⟨f,g⟩|⟨f,g⟩;grind
 exact absurd h (by have:a=b:=by grind
                    rw[this];exact Rat.lt_irrefl)
 rw[e,f]
def parB(a b c d e f:Rat):Bool:=decide ((b*f-c*e).num=0/\(c*d-a*f).num=0/\(a*e-b*d).num=0)
theorem parB_add{a b c d e f:Rat}:parB a b c d e f=decide ((b*f+ -(c*e)).num=0/\(c*d+ -(a*f)).num=0/\(a*e+ -(b*d)).num=0):=by
 unfold parB;simp only[Rat.sub_eq_add_neg]
end
def of_r:List Rw:=[⟨[3,0],0,0⟩,⟨[3,1],0,0⟩,⟨[3,2],0,0⟩,⟨[3,3],0,0⟩]
def of_T(cs:CL):Tb:=⟨of_r,cs,100000000000⟩
def of_G(cs:CL)(r:SV Ato):Prop:=Zdn Ze2 (of_T cs) 19 [.agg (cTs [0,1,2,3])] r 200
def of_R(x0 x1 x2 x3:ByteArray):Nat->AV:=rho (of_T []) (baseS [x0,x1,x2,x3])
def of_k0:CL:=([12,0],1)::[]
theorem of_p4:of_G of_k0 (.bool true):=λ_ _ _=>by kernel_rfl
def of_k1:CL:=([12,0],0)::[]
def of_k2:CL:=([12,1],1)::of_k1
theorem of_p3:of_G of_k2 (.bool true):=λ_ _ _=>by kernel_rfl
def of_k3:CL:=([12,1],0)::of_k1
def of_k4:CL:=([12,2],1)::of_k3
theorem of_p2:of_G of_k4 (.bool true):=λ_ _ _=>by kernel_rfl
def of_k5:CL:=([12,2],0)::of_k3
def of_k6:CL:=([12,3],1)::of_k5
theorem of_p1:of_G of_k6 (.bool true):=λ_ _ _=>by kernel_rfl
def of_k7:CL:=([12,3],0)::of_k5
theorem of_p0:of_G of_k7 (.bool false):=λ_ _ _=>by kernel_rfl
theorem far_s{S:Sh}{w:World}(hS:ZV S w){x0 x1 x2 x3:ByteArray}:
    Calls prog 19 [(.agg ([.string x0,.string x1,.string x2,.string x3]:List Value).toArray)].toArray w (Ret S w (λ_ v=>v= .bool (decide (1024<x0.size\/1024<x1.size\/1024<x2.size\/1024<x3.size)))):=by
 have leaf:=λcs hc {r} (h:of_G cs r) {u} hg=>Qt Zbt (K:=0) (base:=(baseS [x0,x1,x2,x3])) (by kernel_rfl) (Nat.zero_le _) (by kernel_rfl) hS (λ_ _=>(.cons (.agg (cTs_mk (is:=[0,1,2,3]) (ss:=[x0,x1,x2,x3]) ⟨by kernel_rfl,by kernel_rfl,by kernel_rfl,by kernel_rfl,trivial⟩)) .nil)) cs hc (r:=r) h (u:=u) hg;rcases Zgc (of_R x0 x1 x2 x3) (t:=12) (is:=[0]) (by decide) with h0|h0;rotate_left
 have H0:Csl (of_R x0 x1 x2 x3) of_k0:=.cons h0 .nil;exact Calls.mono (leaf _ H0 of_p4 rfl) λe w' ⟨v,S',q1,q2,q3⟩=>⟨v,S',q1,q2,q3.trans (by rw[decide_eq_true (.inl (nine1 (tr h0:(if 1024<x0.size then(1:Int) else 0)=_)))])⟩;have H1:Csl (of_R x0 x1 x2 x3) of_k1:=.cons h0 .nil;rcases Zgc (of_R x0 x1 x2 x3) (t:=12) (is:=[1]) (by decide) with h1|h1;rotate_left
 have H2:Csl (of_R x0 x1 x2 x3) of_k2:=.cons h1 H1;exact Calls.mono (leaf _ H2 of_p3 rfl) λe w' ⟨v,S',q1,q2,q3⟩=>⟨v,S',q1,q2,q3.trans (by rw[decide_eq_true (.inr (.inl (nine1 (tr h1:(if 1024<x1.size then(1:Int) else 0)=_))))])⟩;have H3:Csl (of_R x0 x1 x2 x3) of_k3:=.cons h1 H1;rcases Zgc (of_R x0 x1 x2 x3) (t:=12) (is:=[2]) (by decide) with h2|h2;rotate_left
 have H4:Csl (of_R x0 x1 x2 x3) of_k4:=.cons h2 H3;exact Calls.mono (leaf _ H4 of_p2 rfl) λe w' ⟨v,S',q1,q2,q3⟩=>⟨v,S',q1,q2,q3.trans (by rw[decide_eq_true (.inr (.inr (.inl (nine1 (tr h2:(if 1024<x2.size then(1:Int) else 0)=_)))))])⟩;have H5:Csl (of_R x0 x1 x2 x3) of_k5:=.cons h2 H3;rcases Zgc (of_R x0 x1 x2 x3) (t:=12) (is:=[3]) (by decide) with h3|h3;rotate_left
 have H6:Csl (of_R x0 x1 x2 x3) of_k6:=.cons h3 H5;exact Calls.mono (leaf _ H6 of_p1 rfl) λe w' ⟨v,S',q1,q2,q3⟩=>⟨v,S',q1,q2,q3.trans (by rw[decide_eq_true (.inr (.inr (.inr (nine1 (tr h3:(if 1024<x3.size then(1:Int) else 0)=_)))))])⟩;have H7:Csl (of_R x0 x1 x2 x3) of_k7:=.cons h3 H5;exact Calls.mono (leaf _ H7 of_p0 rfl) λe w' ⟨v,S',q1,q2,q3⟩=>⟨v,S',q1,q2,q3.trans (by rw[decide_eq_false (far_no (nine (tr h0:(if 1024<x0.size then(1:Int) else 0)=_)) (nine (tr h1:(if 1024<x1.size then(1:Int) else 0)=_)) (nine (tr h2:(if 1024<x2.size then(1:Int) else 0)=_))<|nine (tr h3:(if 1024<x3.size then(1:Int) else 0)=_))])⟩
def on_r:List Rw:=[⟨[6],0,351808⟩,⟨[10,0,0],0,64⟩,⟨[10,1,0],0,64⟩]
def on_T(cs:CL):Tb:=⟨on_r,cs,100000000000⟩
def on_G(cs:CL)(r:SV Ato):Prop:=Zdn Ze2 (on_T cs) 17 [.agg (zQs 4)] r 200
def on_R(_:Unit):Nat->AV:=rho (on_T []) (YV [])
def on_k0:CL:=([9,0,0,0],1)::[]
theorem on_p0:on_G on_k0 (.bool true):=λ_ _ _=>by kernel_rfl
theorem nothing_s{S:Sh}{w:World}(hS:ZV S w):
    Calls prog 17 [(.agg zPlane.toArray)].toArray w (Ret S w (λ_ v=>v= .bool true)):=by
 have leaf:=λcs hc {r} (h:on_G cs r) {u} hg=>Qt Zbt (K:=0) (base:=(YV [])) (by kernel_rfl) (Nat.zero_le _) (by kernel_rfl) hS (λ_ _=>(.cons zero_den .nil)) cs hc (r:=r) h (u:=u) hg;have h0:ZI (on_R ()) [9,0,0,0]=1:=by kernel_rfl
 have H0:Csl (on_R ()) on_k0:=.cons h0 .nil;exact Calls.mono (leaf _ H0 on_p0 rfl) λe w' ⟨v,S',q1,q2,q3⟩=>⟨v,S',q1,q2,q3⟩
def oz_r:List Rw:=[⟨[6],0,351808⟩,⟨[10,0,0],0,64⟩,⟨[10,1,0],0,64⟩]
def oz_T(cs:CL):Tb:=⟨oz_r,cs,100000000000⟩
def oz_G(cs:CL)(r:SV Ato):Prop:=Zdn Zgt (oz_T cs) 21 [.agg (zQs 4),.agg (zQs 4)] r 200
def oz_R(_:Unit):Nat->AV:=rho (oz_T []) (YV [])
def oz_k0:CL:=([2,0,0],0)::([2,2,2],0)::([2,1,1],0)::([9,0,0,0],1)::[]
theorem oz_p0:oz_G oz_k0 (.int .i64 0):=λ_ _ _=>by kernel_rfl
theorem zero_Cmp_s{S:Sh}{w:World}(hS:ZV S w):
    Calls prog 21 [(.agg zPlane.toArray),(.agg zPlane.toArray)].toArray w (Ret S w (λ_ v=>v= .int .i64 0)):=by
 have leaf:=λcs hc {r} (h:oz_G cs r) {u} hg=>Qt Zc4 (K:=0) (base:=(YV [])) (by kernel_rfl) (Nat.zero_le _) (by kernel_rfl) hS (λ_ _=>(.cons zero_den (.cons zero_den .nil))) cs hc (r:=r) h (u:=u) hg;have h0:ZI (oz_R ()) [9,0,0,0]=1:=by kernel_rfl
 have h1:ZI (oz_R ()) [2,1,1]=0:=by kernel_rfl
 have h2:ZI (oz_R ()) [2,2,2]=0:=by kernel_rfl
 have h3:ZI (oz_R ()) [2,0,0]=0:=by kernel_rfl
 have H0:Csl (oz_R ()) oz_k0:=.cons h3 (.cons h2 (.cons h1 (.cons h0 .nil)));exact Calls.mono (leaf _ H0 oz_p0 rfl) λe w' ⟨v,S',q1,q2,q3⟩=>⟨v,S',q1,q2,q3⟩
def os_r:List Rw:=[⟨[2,0],1,0⟩,⟨[2,1],1,0⟩,⟨[2,2],1,0⟩,⟨[2,3],1,0⟩,⟨[43,0],1,0⟩,⟨[43,1],1,0⟩,⟨[43,2],1,0⟩,⟨[43,3],1,0⟩]
def os_T(cs:CL):Tb:=⟨os_r,cs,100000000000⟩
def os_G(cs:CL)(r:SV Ato):Prop:=Zdn Ze2 (os_T cs) 18 [.agg (cQs [0,1,2,3]),.agg (cRs [0,1,2,3])] r 200
def os_R(a0 a1 a2 a3:Rat):Nat->AV:=rho (os_T []) (YV [a0,a1,a2,a3])
def os_k0:CL:=([9,0,1,2],0)::([8,4,5,6,7,4,5,6,7],1)::[]
theorem os_p0:os_G os_k0 (.bool true):=λ_ _ _=>by kernel_rfl
theorem same_s{S:Sh}{w:World}(hS:ZV S w){c_a c_b:List Value}{a0 a1 a2 a3:Rat}{k:Nat}(h_a:Fs S c_a [a0,a1,a2,a3] k)(h_b:Gs S c_b [a0,a1,a2,a3] k)(hlim:k<=100000000000)(hn1:¬(a0.num=0/\a1.num=0/\a2.num=0)):
    Calls prog 18 [(.agg (c_a:List Value).toArray),(.agg (c_b:List Value).toArray)].toArray w (Ret S w (λ_ v=>v= .bool true)):=by
 have leaf:=λcs hc {r} (h:os_G cs r) {u} hg=>Qt Zbt (K:=k) (base:=(YV [a0,a1,a2,a3])) (by kernel_rfl) hlim (by kernel_rfl) hS (λ_ _=>(.cons (.agg (QF (is:=[0,1,2,3]) (qs:=[a0,a1,a2,a3]) (k:=k) ⟨by kernel_rfl,le1 _,by kernel_rfl,le1 _,by kernel_rfl,le1 _,by kernel_rfl,le1 _,trivial⟩ h_a)) (.cons (.agg (Zh5 (is:=[0,1,2,3]) (qs:=[a0,a1,a2,a3]) (k:=k) ⟨by kernel_rfl,le1 _,by kernel_rfl,le1 _,by kernel_rfl,le1 _,by kernel_rfl,le1 _,trivial⟩ h_b)) .nil))) cs hc (r:=r) h (u:=u) hg;have h0:ZI (os_R a0 a1 a2 a3) [8,4,5,6,7,4,5,6,7]=1:=(by kernel_rfl:ZI (os_R a0 a1 a2 a3) [8,4,5,6,7,4,5,6,7]=(if [(Xb<|rtxt a0),(Xb<|rtxt a1),(Xb<|rtxt a2),(Xb<|rtxt a3)]=[(Xb<|rtxt a0),(Xb<|rtxt a1),(Xb<|rtxt a2),(Xb<|rtxt a3)] then(1:Int) else 0)).trans (if_pos rfl);have H0:Csl (os_R a0 a1 a2 a3) os_k0:=.cons (show ZI (os_R a0 a1 a2 a3) [9,0,1,2]=0 from if_neg hn1) (.cons h0 .nil);exact Calls.mono (leaf _ H0 os_p0 rfl) λe w' ⟨v,S',q1,q2,q3⟩=>⟨v,S',q1,q2,q3⟩
def oc_r:List Rw:=[⟨[2,0],1,0⟩,⟨[2,1],1,0⟩,⟨[2,2],1,0⟩,⟨[2,3],1,0⟩,⟨[2,4],1,0⟩,⟨[2,5],1,0⟩,⟨[2,6],1,0⟩,⟨[2,7],1,0⟩,⟨[18,4],1,0⟩,⟨[22,0,8],2,1⟩,⟨[18,5],1,0⟩,⟨[22,1,10],2,1⟩,⟨[18,6],1,0⟩,⟨[22,2,12],2,1⟩,⟨[18,7],1,0⟩,⟨[22,3,14],2,1⟩]
def oc_T(cs:CL):Tb:=⟨oc_r,cs,10000000000⟩
def oc_G(cs:CL)(r:SV Ato):Prop:=Zdn Ze2 (oc_T cs) 61 [.agg (cRs [0,1,2,3]),.agg (cRs [4,5,6,7])] r 200
def Zdp(a0 a1 a2 a3 a4 a5 a6 a7:Rat):Nat->AV:=rho (oc_T []) (YV [a0,a1,a2,a3,a4,a5,a6,a7])
def oc_k0:CL:=([1,9],1)::[]
theorem oc_p1:oc_G oc_k0 (.int .i64 1):=λ_ _ _=>by kernel_rfl
def oc_k1:CL:=([1,9],(-1))::[]
theorem oc_p0:oc_G oc_k1 (.int .i64 (-1)):=λ_ _ _=>by kernel_rfl
def oc_k2:CL:=([1,9],0)::[]
def oc_k3:CL:=([1,11],1)::oc_k2
theorem oc_p3:oc_G oc_k3 (.int .i64 1):=λ_ _ _=>by kernel_rfl
def oc_k4:CL:=([1,11],(-1))::oc_k2
theorem oc_p2:oc_G oc_k4 (.int .i64 (-1)):=λ_ _ _=>by kernel_rfl
def oc_k5:CL:=([1,11],0)::oc_k2
def oc_k6:CL:=([1,13],1)::oc_k5
theorem oc_p5:oc_G oc_k6 (.int .i64 1):=λ_ _ _=>by kernel_rfl
def oc_k7:CL:=([1,13],(-1))::oc_k5
theorem oc_p4:oc_G oc_k7 (.int .i64 (-1)):=λ_ _ _=>by kernel_rfl
def oc_k8:CL:=([1,13],0)::oc_k5
def oc_k9:CL:=([1,15],0)::oc_k8
theorem oc_p8:oc_G oc_k9 (.int .i64 0):=λ_ _ _=>by kernel_rfl
def oc_k10:CL:=([1,15],1)::oc_k8
theorem oc_p7:oc_G oc_k10 (.int .i64 1):=λ_ _ _=>by kernel_rfl
def oc_k11:CL:=([1,15],(-1))::oc_k8
theorem oc_p6:oc_G oc_k11 (.int .i64 (-1)):=λ_ _ _=>by kernel_rfl
theorem ref05_Cmp_s{S:Sh}{w:World}(hS:ZV S w){c_a c_b:List Value}{a0 a1 a2 a3 a4 a5 a6 a7:Rat}{k:Nat}(h_a:Gs S c_a [a0,a1,a2,a3] k)(h_b:Gs S c_b [a4,a5,a6,a7] k)(hlim:k<=10000000000):
    Calls prog 61 [(.agg (c_a:List Value).toArray),(.agg (c_b:List Value).toArray)].toArray w (Ret S w (λ_ v=>v= .int .i64 (QS (Yp a0 a4) (Yp a1 a5) (Yp a2 a6)<|Yp a3 a7))):=by
 have leaf:=λcs hc {r} (h:oc_G cs r) {u} hg=>Qt Zbt (K:=k) (base:=(YV [a0,a1,a2,a3,a4,a5,a6,a7])) (by kernel_rfl) hlim (by kernel_rfl) hS (λ_ _=>(.cons (.agg (Zh5 (is:=[0,1,2,3]) (qs:=[a0,a1,a2,a3]) (k:=k) ⟨by kernel_rfl,le1 _,by kernel_rfl,le1 _,by kernel_rfl,le1 _,by kernel_rfl,le1 _,trivial⟩ h_a)) (.cons (.agg (Zh5 (is:=[4,5,6,7]) (qs:=[a4,a5,a6,a7]) (k:=k) ⟨by kernel_rfl,le1 _,by kernel_rfl,le1 _,by kernel_rfl,le1 _,by kernel_rfl,le1 _,trivial⟩ h_b)) .nil))) cs hc (r:=r) h (u:=u) hg;rcases Zcm (Zdp a0 a1 a2 a3 a4 a5 a6 a7) (t:=1) (is:=[9]) (by decide) with h0|h0|h0;rotate_left 2
 have H0:Csl (Zdp a0 a1 a2 a3 a4 a5 a6 a7) oc_k0:=.cons h0 .nil;exact Calls.mono (leaf _ H0 oc_p1 rfl) λe w' ⟨v,S',q1,q2,q3⟩=>⟨v,S',q1,q2,q3.trans (by unfold QS;simp only[Zbo];rw[(tr h0:Yu (a0+(-a4)).num=_)];rfl)⟩;have H1:Csl (Zdp a0 a1 a2 a3 a4 a5 a6 a7) oc_k1:=.cons h0 .nil;exact Calls.mono (leaf _ H1 oc_p0 rfl) λe w' ⟨v,S',q1,q2,q3⟩=>⟨v,S',q1,q2,q3.trans (by unfold QS;simp only[Zbo];rw[(tr h0:Yu (a0+(-a4)).num=_)];rfl)⟩;have H2:Csl (Zdp a0 a1 a2 a3 a4 a5 a6 a7) oc_k2:=.cons h0 .nil;rcases Zcm (Zdp a0 a1 a2 a3 a4 a5 a6 a7) (t:=1) (is:=[11]) (by decide) with h1|h1|h1;rotate_left 2
 have H3:Csl (Zdp a0 a1 a2 a3 a4 a5 a6 a7) oc_k3:=.cons h1 H2;exact Calls.mono (leaf _ H3 oc_p3 rfl) λe w' ⟨v,S',q1,q2,q3⟩=>⟨v,S',q1,q2,q3.trans (by unfold QS;simp only[Zbo];rw[(tr h0:Yu (a0+(-a4)).num=_),(tr h1:Yu (a1+(-a5)).num=_)];rfl)⟩;have H4:Csl (Zdp a0 a1 a2 a3 a4 a5 a6 a7) oc_k4:=.cons h1 H2;exact Calls.mono (leaf _ H4 oc_p2 rfl) λe w' ⟨v,S',q1,q2,q3⟩=>⟨v,S',q1,q2,q3.trans (by unfold QS;simp only[Zbo];rw[(tr h0:Yu (a0+(-a4)).num=_),(tr h1:Yu (a1+(-a5)).num=_)];rfl)⟩;have H5:Csl (Zdp a0 a1 a2 a3 a4 a5 a6 a7) oc_k5:=.cons h1 H2;rcases Zcm (Zdp a0 a1 a2 a3 a4 a5 a6 a7) (t:=1) (is:=[13]) (by decide) with h2|h2|h2;rotate_left 2
 have H6:Csl (Zdp a0 a1 a2 a3 a4 a5 a6 a7) oc_k6:=.cons h2 H5;exact Calls.mono (leaf _ H6 oc_p5 rfl) λe w' ⟨v,S',q1,q2,q3⟩=>⟨v,S',q1,q2,q3.trans (by unfold QS;simp only[Zbo];rw[(tr h0:Yu (a0+(-a4)).num=_),(tr h1:Yu (a1+(-a5)).num=_),(tr h2:Yu (a2+(-a6)).num=_)];rfl)⟩;have H7:Csl (Zdp a0 a1 a2 a3 a4 a5 a6 a7) oc_k7:=.cons h2 H5;exact Calls.mono (leaf _ H7 oc_p4 rfl) λe w' ⟨v,S',q1,q2,q3⟩=>⟨v,S',q1,q2,q3.trans (by unfold QS;simp only[Zbo];rw[(tr h0:Yu (a0+(-a4)).num=_),(tr h1:Yu (a1+(-a5)).num=_),(tr h2:Yu (a2+(-a6)).num=_)];rfl)⟩;have H8:Csl (Zdp a0 a1 a2 a3 a4 a5 a6 a7) oc_k8:=.cons h2 H5;rcases Zcm (Zdp a0 a1 a2 a3 a4 a5 a6 a7) (t:=1) (is:=[15]) (by decide) with h3|h3|h3;rotate_left
 have H9:Csl (Zdp a0 a1 a2 a3 a4 a5 a6 a7) oc_k9:=.cons h3 H8;exact Calls.mono (leaf _ H9 oc_p8 rfl) λe w' ⟨v,S',q1,q2,q3⟩=>⟨v,S',q1,q2,q3.trans (by unfold QS;simp only[Zbo];rw[(tr h0:Yu (a0+(-a4)).num=_),(tr h1:Yu (a1+(-a5)).num=_),(tr h2:Yu (a2+(-a6)).num=_),(tr h3:Yu (a3+(-a7)).num=_)];rfl)⟩;have H10:Csl (Zdp a0 a1 a2 a3 a4 a5 a6 a7) oc_k10:=.cons h3 H8;exact Calls.mono (leaf _ H10 oc_p7 rfl) λe w' ⟨v,S',q1,q2,q3⟩=>⟨v,S',q1,q2,q3.trans (by unfold QS;simp only[Zbo];rw[(tr h0:Yu (a0+(-a4)).num=_),(tr h1:Yu (a1+(-a5)).num=_),(tr h2:Yu (a2+(-a6)).num=_),(tr h3:Yu (a3+(-a7)).num=_)];rfl)⟩;have H11:Csl (Zdp a0 a1 a2 a3 a4 a5 a6 a7) oc_k11:=.cons h3 H8;exact Calls.mono (leaf _ H11 oc_p6 rfl) λe w' ⟨v,S',q1,q2,q3⟩=>⟨v,S',q1,q2,q3.trans (by unfold QS;simp only[Zbo];rw[(tr h0:Yu (a0+(-a4)).num=_),(tr h1:Yu (a1+(-a5)).num=_),(tr h2:Yu (a2+(-a6)).num=_),(tr h3:Yu (a3+(-a7)).num=_)];rfl)⟩
def oq_r:List Rw:=[⟨[2,0],1,0⟩,⟨[2,1],1,0⟩,⟨[2,2],1,0⟩,⟨[2,3],1,0⟩,⟨[2,4],1,0⟩,⟨[2,5],1,0⟩,⟨[2,6],1,0⟩,⟨[2,7],1,0⟩,⟨[30,1,6],2,0⟩,⟨[30,2,5],2,0⟩,⟨[26,8,9],4,1⟩,⟨[30,2,4],2,0⟩,⟨[30,0,6],2,0⟩,⟨[26,11,12],4,1⟩,⟨[30,0,5],2,0⟩,⟨[30,1,4],2,0⟩,⟨[26,14,15],4,1⟩]
def oq_T(cs:CL):Tb:=⟨oq_r,cs,10000000000⟩
def oq_G(cs:CL)(r:SV Ato):Prop:=Zdn Zgt (oq_T cs) 28 [.agg (cQs [0,1,2,3]),.agg (cQs [4,5,6,7])] r 200
def oq_R(a0 a1 a2 a3 a4 a5 a6 a7:Rat):Nat->AV:=rho (oq_T []) (YV [a0,a1,a2,a3,a4,a5,a6,a7])
def oq_k0:CL:=([9,4,5,6],0)::([9,0,1,2],0)::[]
def oq_k1:CL:=([9,10,13,16],1)::oq_k0
theorem oq_p1:oq_G oq_k1 (.bool true):=λ_ _ _=>by kernel_rfl
def oq_k2:CL:=([9,10,13,16],0)::oq_k0
theorem oq_p0:oq_G oq_k2 (.bool false):=λ_ _ _=>by kernel_rfl
theorem plane_Parallel_s{S:Sh}{w:World}(hS:ZV S w){c_a c_b:List Value}{a0 a1 a2 a3 a4 a5 a6 a7:Rat}{k:Nat}(h_a:Fs S c_a [a0,a1,a2,a3] k)(h_b:Fs S c_b [a4,a5,a6,a7] k)(hlim:k<=10000000000)(hn1:¬(a0.num=0/\a1.num=0/\a2.num=0))(hn2:¬(a4.num=0/\a5.num=0/\a6.num=0)):
    Calls prog 28 [(.agg (c_a:List Value).toArray),(.agg (c_b:List Value).toArray)].toArray w (Ret S w (λ_ v=>v= .bool (parB a0 a1 a2 a4 a5 a6))):=by
 have leaf:=λcs hc {r} (h:oq_G cs r) {u} hg=>Qt Zc4 (K:=k) (base:=(YV [a0,a1,a2,a3,a4,a5,a6,a7])) (by kernel_rfl) hlim (by kernel_rfl) hS (λ_ _=>(.cons (.agg (QF (is:=[0,1,2,3]) (qs:=[a0,a1,a2,a3]) (k:=k) ⟨by kernel_rfl,le1 _,by kernel_rfl,le1 _,by kernel_rfl,le1 _,by kernel_rfl,le1 _,trivial⟩ h_a)) (.cons (.agg (QF (is:=[4,5,6,7]) (qs:=[a4,a5,a6,a7]) (k:=k) ⟨by kernel_rfl,le1 _,by kernel_rfl,le1 _,by kernel_rfl,le1 _,by kernel_rfl,le1 _,trivial⟩ h_b)) .nil))) cs hc (r:=r) h (u:=u) hg;have H0:Csl (oq_R a0 a1 a2 a3 a4 a5 a6 a7) oq_k0:=.cons (show ZI (oq_R a0 a1 a2 a3 a4 a5 a6 a7) [9,4,5,6]=0 from if_neg hn2) (.cons (show ZI (oq_R a0 a1 a2 a3 a4 a5 a6 a7) [9,0,1,2]=0 from if_neg hn1) .nil);rcases Zgc (oq_R a0 a1 a2 a3 a4 a5 a6 a7) (t:=9) (is:=[10,13,16]) (by decide) with h0|h0;rotate_left
 have H1:Csl (oq_R a0 a1 a2 a3 a4 a5 a6 a7) oq_k1:=.cons h0 H0;exact Calls.mono (leaf _ H1 oq_p1 rfl) λe w' ⟨v,S',q1,q2,q3⟩=>⟨v,S',q1,q2,q3.trans (by rw[show parB a0 a1 a2 a4 a5 a6=true from decide_eq_true (nine1 (tr h0:(if((a1*a6)-(a2*a5)).num=0/\((a2*a4)-(a0*a6)).num=0/\((a0*a5)-(a1*a4)).num=0 then(1:Int) else 0)=_))])⟩;have H2:Csl (oq_R a0 a1 a2 a3 a4 a5 a6 a7) oq_k2:=.cons h0 H0;exact Calls.mono (leaf _ H2 oq_p0 rfl) λe w' ⟨v,S',q1,q2,q3⟩=>⟨v,S',q1,q2,q3.trans (by rw[show parB a0 a1 a2 a4 a5 a6=false from decide_eq_false (nine (tr h0:(if((a1*a6)-(a2*a5)).num=0/\((a2*a4)-(a0*a6)).num=0/\((a0*a5)-(a1*a4)).num=0 then(1:Int) else 0)=_))])⟩
def or_r:List Rw:=[⟨[2,0],1,0⟩,⟨[2,1],1,0⟩,⟨[2,2],1,0⟩,⟨[2,3],1,0⟩,⟨[2,4],1,0⟩,⟨[2,5],1,0⟩,⟨[2,6],1,0⟩,⟨[2,7],1,0⟩,⟨[30,1,6],2,0⟩,⟨[30,2,5],2,0⟩,⟨[18,9],2,0⟩,⟨[22,8,10],4,1⟩,⟨[30,2,4],2,0⟩,⟨[30,0,6],2,0⟩,⟨[18,13],2,0⟩,⟨[22,12,14],4,1⟩,⟨[30,0,5],2,0⟩,⟨[30,1,4],2,0⟩,⟨[18,17],2,0⟩,⟨[22,16,18],4,1⟩]
def or_T(cs:CL):Tb:=⟨or_r,cs,10000000000⟩
def or_G(cs:CL)(r:SV Ato):Prop:=Zdn Ze2 (or_T cs) 62 [.agg (cRs [0,1,2,3]),.agg (cRs [4,5,6,7])] r 200
def or_R(a0 a1 a2 a3 a4 a5 a6 a7:Rat):Nat->AV:=rho (or_T []) (YV [a0,a1,a2,a3,a4,a5,a6,a7])
def or_k0:CL:=([19,11],0)::[]
theorem or_p0:or_G or_k0 (.bool false):=λ_ _ _=>by kernel_rfl
def or_k1:CL:=([19,11],1)::[]
def or_k2:CL:=([19,15],0)::or_k1
theorem or_p1:or_G or_k2 (.bool false):=λ_ _ _=>by kernel_rfl
def or_k3:CL:=([19,15],1)::or_k1
def or_k4:CL:=([19,19],1)::or_k3
theorem or_p3:or_G or_k4 (.bool true):=λ_ _ _=>by kernel_rfl
def or_k5:CL:=([19,19],0)::or_k3
theorem or_p2:or_G or_k5 (.bool false):=λ_ _ _=>by kernel_rfl
theorem ref05_Parallel_s{S:Sh}{w:World}(hS:ZV S w){c_a c_b:List Value}{a0 a1 a2 a3 a4 a5 a6 a7:Rat}{k:Nat}(h_a:Gs S c_a [a0,a1,a2,a3] k)(h_b:Gs S c_b [a4,a5,a6,a7] k)(hlim:k<=10000000000):
    Calls prog 62 [(.agg (c_a:List Value).toArray),(.agg (c_b:List Value).toArray)].toArray w (Ret S w (λ_ v=>v= .bool (parB a0 a1 a2 a4 a5 a6))):=by
 have leaf:=λcs hc {r} (h:or_G cs r) {u} hg=>Qt Zbt (K:=k) (base:=(YV [a0,a1,a2,a3,a4,a5,a6,a7])) (by kernel_rfl) hlim (by kernel_rfl) hS (λ_ _=>(.cons (.agg (Zh5 (is:=[0,1,2,3]) (qs:=[a0,a1,a2,a3]) (k:=k) ⟨by kernel_rfl,le1 _,by kernel_rfl,le1 _,by kernel_rfl,le1 _,by kernel_rfl,le1 _,trivial⟩ h_a)) (.cons (.agg (Zh5 (is:=[4,5,6,7]) (qs:=[a4,a5,a6,a7]) (k:=k) ⟨by kernel_rfl,le1 _,by kernel_rfl,le1 _,by kernel_rfl,le1 _,by kernel_rfl,le1 _,trivial⟩ h_b)) .nil))) cs hc (r:=r) h (u:=u) hg;rcases Zgc (or_R a0 a1 a2 a3 a4 a5 a6 a7) (t:=19) (is:=[11]) (by decide) with h0|h0;have H0:Csl (or_R a0 a1 a2 a3 a4 a5 a6 a7) or_k0:=.cons h0 .nil;exact Calls.mono (leaf _ H0 or_p0 rfl) λe w' ⟨v,S',q1,q2,q3⟩=>⟨v,S',q1,q2,q3.trans (by rw[show parB a0 a1 a2 a4 a5 a6=false from parB_add.trans (decide_eq_false λz=>abs0 (tr h0:(if((a1*a6)+(-(a2*a5))).num.natAbs=0 then(1:Int) else 0)=_) z.1)])⟩;have H1:Csl (or_R a0 a1 a2 a3 a4 a5 a6 a7) or_k1:=.cons h0 .nil;rcases Zgc (or_R a0 a1 a2 a3 a4 a5 a6 a7) (t:=19) (is:=[15]) (by decide) with h1|h1;have H2:Csl (or_R a0 a1 a2 a3 a4 a5 a6 a7) or_k2:=.cons h1 H1;exact Calls.mono (leaf _ H2 or_p1 rfl) λe w' ⟨v,S',q1,q2,q3⟩=>⟨v,S',q1,q2,q3.trans (by rw[show parB a0 a1 a2 a4 a5 a6=false from parB_add.trans (decide_eq_false λz=>abs0 (tr h1:(if((a2*a4)+(-(a0*a6))).num.natAbs=0 then(1:Int) else 0)=_) z.2.1)])⟩;have H3:Csl (or_R a0 a1 a2 a3 a4 a5 a6 a7) or_k3:=.cons h1 H1;rcases Zgc (or_R a0 a1 a2 a3 a4 a5 a6 a7) (t:=19) (is:=[19]) (by decide) with h2|h2;rotate_left
 have H4:Csl (or_R a0 a1 a2 a3 a4 a5 a6 a7) or_k4:=.cons h2 H3;exact Calls.mono (leaf _ H4 or_p3 rfl) λe w' ⟨v,S',q1,q2,q3⟩=>⟨v,S',q1,q2,q3.trans (by rw[show parB a0 a1 a2 a4 a5 a6=true from parB_add.trans (decide_eq_true ⟨abs1 (tr h0:(if((a1*a6)+(-(a2*a5))).num.natAbs=0 then(1:Int) else 0)=_),abs1 (tr h1:(if((a2*a4)+(-(a0*a6))).num.natAbs=0 then(1:Int) else 0)=_),abs1 (tr h2:(if((a0*a5)+(-(a1*a4))).num.natAbs=0 then(1:Int) else 0)=_)⟩)])⟩;have H5:Csl (or_R a0 a1 a2 a3 a4 a5 a6 a7) or_k5:=.cons h2 H3;exact Calls.mono (leaf _ H5 or_p2 rfl) λe w' ⟨v,S',q1,q2,q3⟩=>⟨v,S',q1,q2,q3.trans (by rw[show parB a0 a1 a2 a4 a5 a6=false from parB_add.trans (decide_eq_false λz=>abs0 (tr h2:(if((a0*a5)+(-(a1*a4))).num.natAbs=0 then(1:Int) else 0)=_) z.2.2)])⟩
def op_r:List Rw:=[⟨[3,0],0,0⟩,⟨[3,1],0,0⟩,⟨[3,2],0,0⟩,⟨[3,3],0,0⟩,⟨[38,0],0,900⟩,⟨[38,1],0,900⟩,⟨[38,2],0,900⟩,⟨[38,3],0,900⟩,⟨[46,4,5,6,7,4],0,351808⟩,⟨[46,4,5,6,7,5],0,351808⟩,⟨[46,4,5,6,7,6],0,351808⟩,⟨[46,4,5,6,7,7],0,351808⟩,⟨[6],0,351808⟩]
def op_T(cs:CL):Tb:=⟨op_r,cs,100000000000⟩
def op_G(cs:CL)(r:SV Ato):Prop:=Zdn Ze2 (op_T cs) 51 [.agg (cTs [0,1,2,3])] r 200
def Qd(x0 x1 x2 x3:ByteArray):Nat->AV:=rho (op_T []) (baseS [x0,x1,x2,x3])
def op_k0:CL:=([12,3],0)::([12,2],0)::([12,1],0)::([12,0],0)::[]
def op_k1:CL:=([4,0],3)::op_k0
theorem op_p10:op_G op_k1 (.tup [.agg [.bool false,.sl none 0 0,.sl none 0 0,.bool false,.sl none 0 0,.sl none 0 0,.bool false,.sl none 0 0,.sl none 0 0,.bool false,.sl none 0 0,.sl none 0 0],.int .i64 3]):=λ_ _ _=>by kernel_rfl
def op_k2:CL:=([4,0],12)::op_k0
theorem op_p11:op_G op_k2 (.tup [.agg [.bool false,.sl none 0 0,.sl none 0 0,.bool false,.sl none 0 0,.sl none 0 0,.bool false,.sl none 0 0,.sl none 0 0,.bool false,.sl none 0 0,.sl none 0 0],.int .i64 12]):=λ_ _ _=>by kernel_rfl
def op_k3:CL:=([4,0],0)::op_k0
def op_k4:CL:=([4,1],3)::op_k3
theorem op_p8:op_G op_k4 (.tup [.agg [.bool false,.sl none 0 0,.sl none 0 0,.bool false,.sl none 0 0,.sl none 0 0,.bool false,.sl none 0 0,.sl none 0 0,.bool false,.sl none 0 0,.sl none 0 0],.int .i64 3]):=λ_ _ _=>by kernel_rfl
def op_k5:CL:=([4,1],12)::op_k3
theorem op_p9:op_G op_k5 (.tup [.agg [.bool false,.sl none 0 0,.sl none 0 0,.bool false,.sl none 0 0,.sl none 0 0,.bool false,.sl none 0 0,.sl none 0 0,.bool false,.sl none 0 0,.sl none 0 0],.int .i64 12]):=λ_ _ _=>by kernel_rfl
def op_k6:CL:=([4,1],0)::op_k3
def op_k7:CL:=([4,2],3)::op_k6
theorem op_p6:op_G op_k7 (.tup [.agg [.bool false,.sl none 0 0,.sl none 0 0,.bool false,.sl none 0 0,.sl none 0 0,.bool false,.sl none 0 0,.sl none 0 0,.bool false,.sl none 0 0,.sl none 0 0],.int .i64 3]):=λ_ _ _=>by kernel_rfl
def op_k8:CL:=([4,2],12)::op_k6
theorem op_p7:op_G op_k8 (.tup [.agg [.bool false,.sl none 0 0,.sl none 0 0,.bool false,.sl none 0 0,.sl none 0 0,.bool false,.sl none 0 0,.sl none 0 0,.bool false,.sl none 0 0,.sl none 0 0],.int .i64 12]):=λ_ _ _=>by kernel_rfl
def op_k9:CL:=([4,2],0)::op_k6
def op_k10:CL:=([4,3],3)::op_k9
theorem op_p4:op_G op_k10 (.tup [.agg [.bool false,.sl none 0 0,.sl none 0 0,.bool false,.sl none 0 0,.sl none 0 0,.bool false,.sl none 0 0,.sl none 0 0,.bool false,.sl none 0 0,.sl none 0 0],.int .i64 3]):=λ_ _ _=>by kernel_rfl
def op_k11:CL:=([4,3],12)::op_k9
theorem op_p5:op_G op_k11 (.tup [.agg [.bool false,.sl none 0 0,.sl none 0 0,.bool false,.sl none 0 0,.sl none 0 0,.bool false,.sl none 0 0,.sl none 0 0,.bool false,.sl none 0 0,.sl none 0 0],.int .i64 12]):=λ_ _ _=>by kernel_rfl
def op_k12:CL:=([4,3],0)::op_k9
def op_k13:CL:=([19,4],0)::op_k12
theorem op_p0:op_G op_k13 (.tup [.agg (cRs [8,9,10,11]),.int .i64 0]):=λ_ _ _=>by kernel_rfl
def op_k14:CL:=([19,4],1)::op_k12
def op_k15:CL:=([19,5],0)::op_k14
theorem op_p1:op_G op_k15 (.tup [.agg (cRs [8,9,10,11]),.int .i64 0]):=λ_ _ _=>by kernel_rfl
def op_k16:CL:=([19,5],1)::op_k14
def op_k17:CL:=([19,6],1)::op_k16
theorem op_p3:op_G op_k17 (.tup [.agg [.bool false,.sl none 0 0,.sl none 0 0,.bool false,.sl none 0 0,.sl none 0 0,.bool false,.sl none 0 0,.sl none 0 0,.bool false,.sl none 0 0,.sl none 0 0],.int .i64 2]):=λ_ _ _=>by kernel_rfl
def op_k18:CL:=([19,6],0)::op_k16
theorem op_p2:op_G op_k18 (.tup [.agg (cRs [8,9,10,11]),.int .i64 0]):=λ_ _ _=>by kernel_rfl
theorem ref05_Parse_s{S:Sh}{w:World}(hS:ZV S w){x0 x1 x2 x3:ByteArray}(hz0:x0.size<=1024)(hz1:x1.size<=1024)(hz2:x2.size<=1024)(hz3:x3.size<=1024):
    Calls prog 51 [(.agg ([.string x0,.string x1,.string x2,.string x3]:List Value).toArray)].toArray w (Ret S w (λS v=>∃c0:List Value,v= .tuple [.agg c0.toArray,.int .i64 (Zbv (bl x0) (bl x1) (bl x2)<|bl x3)].toArray/\c0.length=12/\(∀u∈c0,one u=true)/\(Zbv (bl x0) (bl x1) (bl x2) (bl x3)=0->Gs S c0 [pvA (bl x0) (bl x1) (bl x2) (bl x3),pvB (bl x0) (bl x1) (bl x2) (bl x3),pvC (bl x0) (bl x1) (bl x2) (bl x3),pvD (bl x0) (bl x1) (bl x2) (bl x3)] 351808))):=by
 have leaf:=λcs hc {r} (h:op_G cs r)=>YX Zbt (K:=0) (base:=(baseS [x0,x1,x2,x3])) (by kernel_rfl) (Nat.zero_le _) (by kernel_rfl) hS (λ_ _=>(.cons (.agg (cTs_mk (is:=[0,1,2,3]) (ss:=[x0,x1,x2,x3]) ⟨by kernel_rfl,by kernel_rfl,by kernel_rfl,by kernel_rfl,trivial⟩)) .nil)) cs hc h;have H0:Csl (Qd x0 x1 x2 x3) op_k0:=.cons (show ZI (Qd x0 x1 x2 x3) [12,3]=0 from if_neg (Nat.not_lt.2 hz3)) (.cons (show ZI (Qd x0 x1 x2 x3) [12,2]=0 from if_neg (Nat.not_lt.2 hz2)) (.cons (show ZI (Qd x0 x1 x2 x3) [12,1]=0 from if_neg (Nat.not_lt.2 hz1)) (.cons (show ZI (Qd x0 x1 x2 x3) [12,0]=0 from if_neg (Nat.not_lt.2 hz0)) .nil)));rcases waysF (Qd x0 x1 x2 x3) (t:=4) (is:=[0]) (by decide) with h0|h0|h0;rotate_left
 have H1:Csl (Qd x0 x1 x2 x3) op_k1:=.cons h0 H0;have g0:YP (bl x0)=_:=tr h0;have he:Zbv (bl x0) (bl x1) (bl x2) (bl x3)=3:=(perr_0 (λq=>absurd (g0.symm.trans q) (by decide))).trans g0;refine Calls.mono (leaf _ H1 op_p10) λe w' ⟨v,S',q1,q2,blk,q3⟩=>⟨v,S',q1,q2,?_⟩;rw[he];exact Zbb q3 rfl λ_ _ z=>absurd z (by decide);have H2:Csl (Qd x0 x1 x2 x3) op_k2:=.cons h0 H0;have g0:YP (bl x0)=_:=tr h0;have he:Zbv (bl x0) (bl x1) (bl x2) (bl x3)=12:=(perr_0 (λq=>absurd (g0.symm.trans q) (by decide))).trans g0;refine Calls.mono (leaf _ H2 op_p11) λe w' ⟨v,S',q1,q2,blk,q3⟩=>⟨v,S',q1,q2,?_⟩;rw[he];exact Zbb q3 rfl λ_ _ z=>absurd z (by decide);have H3:Csl (Qd x0 x1 x2 x3) op_k3:=.cons h0 H0;rcases waysF (Qd x0 x1 x2 x3) (t:=4) (is:=[1]) (by decide) with h1|h1|h1;rotate_left
 have H4:Csl (Qd x0 x1 x2 x3) op_k4:=.cons h1 H3;have g0:YP (bl x0)=_:=tr h0;have g1:YP (bl x1)=_:=tr h1;have he:Zbv (bl x0) (bl x1) (bl x2) (bl x3)=3:=(perr_1 g0 (λq=>absurd (g1.symm.trans q) (by decide))).trans g1;refine Calls.mono (leaf _ H4 op_p8) λe w' ⟨v,S',q1,q2,blk,q3⟩=>⟨v,S',q1,q2,?_⟩;rw[he];exact Zbb q3 rfl λ_ _ z=>absurd z (by decide);have H5:Csl (Qd x0 x1 x2 x3) op_k5:=.cons h1 H3;have g0:YP (bl x0)=_:=tr h0;have g1:YP (bl x1)=_:=tr h1;have he:Zbv (bl x0) (bl x1) (bl x2) (bl x3)=12:=(perr_1 g0 (λq=>absurd (g1.symm.trans q) (by decide))).trans g1;refine Calls.mono (leaf _ H5 op_p9) λe w' ⟨v,S',q1,q2,blk,q3⟩=>⟨v,S',q1,q2,?_⟩;rw[he];exact Zbb q3 rfl λ_ _ z=>absurd z (by decide);have H6:Csl (Qd x0 x1 x2 x3) op_k6:=.cons h1 H3;rcases waysF (Qd x0 x1 x2 x3) (t:=4) (is:=[2]) (by decide) with h2|h2|h2;rotate_left
 have H7:Csl (Qd x0 x1 x2 x3) op_k7:=.cons h2 H6;have g0:YP (bl x0)=_:=tr h0;have g1:YP (bl x1)=_:=tr h1;have g2:YP (bl x2)=_:=tr h2;have he:Zbv (bl x0) (bl x1) (bl x2) (bl x3)=3:=(perr_2 g0 g1 (λq=>absurd (g2.symm.trans q) (by decide))).trans g2;refine Calls.mono (leaf _ H7 op_p6) λe w' ⟨v,S',q1,q2,blk,q3⟩=>⟨v,S',q1,q2,?_⟩;rw[he];exact Zbb q3 rfl λ_ _ z=>absurd z (by decide);have H8:Csl (Qd x0 x1 x2 x3) op_k8:=.cons h2 H6;have g0:YP (bl x0)=_:=tr h0;have g1:YP (bl x1)=_:=tr h1;have g2:YP (bl x2)=_:=tr h2;have he:Zbv (bl x0) (bl x1) (bl x2) (bl x3)=12:=(perr_2 g0 g1 (λq=>absurd (g2.symm.trans q) (by decide))).trans g2;refine Calls.mono (leaf _ H8 op_p7) λe w' ⟨v,S',q1,q2,blk,q3⟩=>⟨v,S',q1,q2,?_⟩;rw[he];exact Zbb q3 rfl λ_ _ z=>absurd z (by decide);have H9:Csl (Qd x0 x1 x2 x3) op_k9:=.cons h2 H6;rcases waysF (Qd x0 x1 x2 x3) (t:=4) (is:=[3]) (by decide) with h3|h3|h3;rotate_left
 have H10:Csl (Qd x0 x1 x2 x3) op_k10:=.cons h3 H9;have g0:YP (bl x0)=_:=tr h0;have g1:YP (bl x1)=_:=tr h1;have g2:YP (bl x2)=_:=tr h2;have g3:YP (bl x3)=_:=tr h3;have he:Zbv (bl x0) (bl x1) (bl x2) (bl x3)=3:=(perr_3 g0 g1 g2 (λq=>absurd (g3.symm.trans q) (by decide))).trans g3;refine Calls.mono (leaf _ H10 op_p4) λe w' ⟨v,S',q1,q2,blk,q3⟩=>⟨v,S',q1,q2,?_⟩;rw[he];exact Zbb q3 rfl λ_ _ z=>absurd z (by decide);have H11:Csl (Qd x0 x1 x2 x3) op_k11:=.cons h3 H9;have g0:YP (bl x0)=_:=tr h0;have g1:YP (bl x1)=_:=tr h1;have g2:YP (bl x2)=_:=tr h2;have g3:YP (bl x3)=_:=tr h3;have he:Zbv (bl x0) (bl x1) (bl x2) (bl x3)=12:=(perr_3 g0 g1 g2 (λq=>absurd (g3.symm.trans q) (by decide))).trans g3;refine Calls.mono (leaf _ H11 op_p5) λe w' ⟨v,S',q1,q2,blk,q3⟩=>⟨v,S',q1,q2,?_⟩;rw[he];exact Zbb q3 rfl λ_ _ z=>absurd z (by decide);have H12:Csl (Qd x0 x1 x2 x3) op_k12:=.cons h3 H9;rcases Zgc (Qd x0 x1 x2 x3) (t:=19) (is:=[4]) (by decide) with h4|h4;have H13:Csl (Qd x0 x1 x2 x3) op_k13:=.cons h4 H12;have g0:YP (bl x0)=_:=tr h0;have g1:YP (bl x1)=_:=tr h1;have g2:YP (bl x2)=_:=tr h2;have g3:YP (bl x3)=_:=tr h3;have g4:(if(Yz<|bl x0).num.natAbs=0 then(1:Int) else 0)=_:=tr h4;have he:Zbv (bl x0) (bl x1) (bl x2) (bl x3)=0:=perr_5 g0 g1 g2 g3 (λz=>abs0 g4 z.1);refine Calls.mono (leaf _ H13 op_p0) λe w' ⟨v,S',q1,q2,blk,q3⟩=>⟨v,S',q1,q2,?_⟩;rw[he];exact Zbb q3 rfl λ_ h9 _=>(Zgo (bd:=Zej (op_T []) 0) (is:=[8,9,10,11]) (k:=351808) (qs:=[(pn (Yz<|bl x0) (Yz<|bl x1) (Yz<|bl x2) (Yz<|bl x3)<|Yz<|bl x0),(pn (Yz<|bl x0) (Yz<|bl x1) (Yz<|bl x2) (Yz<|bl x3)<|Yz<|bl x1),(pn (Yz<|bl x0) (Yz<|bl x1) (Yz<|bl x2) (Yz<|bl x3)<|Yz<|bl x2),(pn (Yz<|bl x0) (Yz<|bl x1) (Yz<|bl x2) (Yz<|bl x3)<|Yz<|bl x3)]) ⟨by kernel_rfl,by decide,by kernel_rfl,by decide,by kernel_rfl,by decide,by kernel_rfl,by decide,trivial⟩ h9).to (pv_ok he) (Nat.le_refl _);have H14:Csl (Qd x0 x1 x2 x3) op_k14:=.cons h4 H12;rcases Zgc (Qd x0 x1 x2 x3) (t:=19) (is:=[5]) (by decide) with h5|h5;have H15:Csl (Qd x0 x1 x2 x3) op_k15:=.cons h5 H14;have g0:YP (bl x0)=_:=tr h0;have g1:YP (bl x1)=_:=tr h1;have g2:YP (bl x2)=_:=tr h2;have g3:YP (bl x3)=_:=tr h3;have g4:(if(Yz<|bl x0).num.natAbs=0 then(1:Int) else 0)=_:=tr h4;have g5:(if(Yz<|bl x1).num.natAbs=0 then(1:Int) else 0)=_:=tr h5;have he:Zbv (bl x0) (bl x1) (bl x2) (bl x3)=0:=perr_5 g0 g1 g2 g3 (λz=>abs0 g5 z.2.1);refine Calls.mono (leaf _ H15 op_p1) λe w' ⟨v,S',q1,q2,blk,q3⟩=>⟨v,S',q1,q2,?_⟩;rw[he];exact Zbb q3 rfl λ_ h9 _=>(Zgo (bd:=Zej (op_T []) 0) (is:=[8,9,10,11]) (k:=351808) (qs:=[(pn (Yz<|bl x0) (Yz<|bl x1) (Yz<|bl x2) (Yz<|bl x3)<|Yz<|bl x0),(pn (Yz<|bl x0) (Yz<|bl x1) (Yz<|bl x2) (Yz<|bl x3)<|Yz<|bl x1),(pn (Yz<|bl x0) (Yz<|bl x1) (Yz<|bl x2) (Yz<|bl x3)<|Yz<|bl x2),(pn (Yz<|bl x0) (Yz<|bl x1) (Yz<|bl x2) (Yz<|bl x3)<|Yz<|bl x3)]) ⟨by kernel_rfl,by decide,by kernel_rfl,by decide,by kernel_rfl,by decide,by kernel_rfl,by decide,trivial⟩ h9).to (pv_ok he) (Nat.le_refl _);have H16:Csl (Qd x0 x1 x2 x3) op_k16:=.cons h5 H14;rcases Zgc (Qd x0 x1 x2 x3) (t:=19) (is:=[6]) (by decide) with h6|h6;rotate_left
 have H17:Csl (Qd x0 x1 x2 x3) op_k17:=.cons h6 H16;have g0:YP (bl x0)=_:=tr h0;have g1:YP (bl x1)=_:=tr h1;have g2:YP (bl x2)=_:=tr h2;have g3:YP (bl x3)=_:=tr h3;have g4:(if(Yz<|bl x0).num.natAbs=0 then(1:Int) else 0)=_:=tr h4;have g5:(if(Yz<|bl x1).num.natAbs=0 then(1:Int) else 0)=_:=tr h5;have g6:(if(Yz<|bl x2).num.natAbs=0 then(1:Int) else 0)=_:=tr h6;have he:Zbv (bl x0) (bl x1) (bl x2) (bl x3)=2:=perr_4 g0 g1 g2 g3 ⟨abs1 g4,abs1 g5,abs1 g6⟩;refine Calls.mono (leaf _ H17 op_p3) λe w' ⟨v,S',q1,q2,blk,q3⟩=>⟨v,S',q1,q2,?_⟩;rw[he];exact Zbb q3 rfl λ_ _ z=>absurd z (by decide);have H18:Csl (Qd x0 x1 x2 x3) op_k18:=.cons h6 H16;have g0:YP (bl x0)=_:=tr h0;have g1:YP (bl x1)=_:=tr h1;have g2:YP (bl x2)=_:=tr h2;have g3:YP (bl x3)=_:=tr h3;have g4:(if(Yz<|bl x0).num.natAbs=0 then(1:Int) else 0)=_:=tr h4;have g5:(if(Yz<|bl x1).num.natAbs=0 then(1:Int) else 0)=_:=tr h5;have g6:(if(Yz<|bl x2).num.natAbs=0 then(1:Int) else 0)=_:=tr h6;have he:Zbv (bl x0) (bl x1) (bl x2) (bl x3)=0:=perr_5 g0 g1 g2 g3 (λz=>abs0 g6 z.2.2);refine Calls.mono (leaf _ H18 op_p2) λe w' ⟨v,S',q1,q2,blk,q3⟩=>⟨v,S',q1,q2,?_⟩;rw[he];exact Zbb q3 rfl λ_ h9 _=>(Zgo (bd:=Zej (op_T []) 0) (is:=[8,9,10,11]) (k:=351808) (qs:=[(pn (Yz<|bl x0) (Yz<|bl x1) (Yz<|bl x2) (Yz<|bl x3)<|Yz<|bl x0),(pn (Yz<|bl x0) (Yz<|bl x1) (Yz<|bl x2) (Yz<|bl x3)<|Yz<|bl x1),(pn (Yz<|bl x0) (Yz<|bl x1) (Yz<|bl x2) (Yz<|bl x3)<|Yz<|bl x2),(pn (Yz<|bl x0) (Yz<|bl x1) (Yz<|bl x2) (Yz<|bl x3)<|Yz<|bl x3)]) ⟨by kernel_rfl,by decide,by kernel_rfl,by decide,by kernel_rfl,by decide,by kernel_rfl,by decide,trivial⟩ h9).to (pv_ok he) (Nat.le_refl _)
theorem plane_CmpW{S:Sh}{w:World}(hS:ZV S w){c_a c_b:List Value}{a0 a1 a2 a3 a4 a5 a6 a7:Rat}{k k':Nat}(h_a:Fs S c_a [a0,a1,a2,a3] k)(h_b:Fs S c_b [a4,a5,a6,a7] k')(hl1:k<=100000000000)(hl2:k'<=100000000000)(hn1:¬(a0.num=0/\a1.num=0/\a2.num=0))(hn2:¬(a4.num=0/\a5.num=0/\a6.num=0)):
    Calls prog 21 [(.agg (c_a:List Value).toArray),(.agg (c_b:List Value).toArray)].toArray w (Ret S w (λ_ v=>v= .int .i64 (QS (Yp a0 a4) (Yp a1 a5) (Yp a2 a6)<|Yp a3 a7))):=
  plane_Cmp_s hS (h_a.wide<|Nat.le_max_left k k') (h_b.wide<|Nat.le_max_right k k') (Nat.max_le.2 ⟨hl1,hl2⟩) hn1 hn2
theorem c4_eq{p q:P4}:QS (Yp p.a q.a) (Yp p.b q.b) (Yp p.c q.c) (Yp p.d q.d)=0↔p=q:=by
 rw[cmp4_zero];cases p;cases q;simp
theorem dd_takeN{s:List El}{i:Nat}(h1:1<=i)(hi:i<s.length)(hne:¬QS (Yp (s.getD i dEl).2.a (s.getD (i-1) dEl).2.a) (Yp (s.getD i dEl).2.b (s.getD (i-1) dEl).2.b) (Yp (s.getD i dEl).2.c (s.getD (i-1) dEl).2.c) (Yp (s.getD i dEl).2.d (s.getD (i-1) dEl).2.d)=0)(hd:dd (XE<|s.take i)=XE (s.take i)):dd (XE<|s.take (i+1))=XE (s.take (i+1)):=by
 rw[dd_ne h1 hi (λe=>hne<|c4_eq.2 e),hd,Qc hi]
theorem cp_start{s:List El}{i:Nat}(h1:1<=i)(hi:i<s.length)(he:QS (Yp (s.getD i dEl).2.a (s.getD (i-1) dEl).2.a) (Yp (s.getD i dEl).2.b (s.getD (i-1) dEl).2.b) (Yp (s.getD i dEl).2.c (s.getD (i-1) dEl).2.c) (Yp (s.getD i dEl).2.d (s.getD (i-1) dEl).2.d)=0)(hd:dd (XE<|s.take i)=XE (s.take i)):XE (s.take i)=dd (XE<|s.take (i+1)):=by
 rw[dd_eq h1 hi (c4_eq.1 he),hd]
theorem cp_same{s ys:List El}{q i k:Nat}(hyd:∀j,q<=j->ys.getD j dEl=s.getD j dEl)(hdd:XE (ys.take q)=dd (XE<|s.take (i+k)))(hqk:q+1<=i+k)(h1:1<=k)(hik:i+k<s.length)(he:QS (Yp (ys.getD (i+k) dEl).2.a (ys.getD (i+(k-1)) dEl).2.a) (Yp (ys.getD (i+k) dEl).2.b (ys.getD (i+(k-1)) dEl).2.b) (Yp (ys.getD (i+k) dEl).2.c (ys.getD (i+(k-1)) dEl).2.c) (Yp (ys.getD (i+k) dEl).2.d (ys.getD (i+(k-1)) dEl).2.d)=0):XE (ys.take q)=dd (XE<|s.take (i+(k+1))):=by
 have e:=c4_eq.1 he;rw[hyd _ (by omega),hyd _ (by omega),show i+(k-1)=i+k-1 by omega] at e;rw[hdd,<-Nat.add_assoc,dd_eq (by omega) hik e]
theorem cp_more{s ys:List El}{q i k:Nat}(hyd:∀j,q<=j->ys.getD j dEl=s.getD j dEl)(hdd:XE (ys.take q)=dd (XE<|s.take (i+k)))(hqk:q+1<=i+k)(h1:1<=k)(hik:i+k<s.length)(hql:q<ys.length)(he:¬QS (Yp (ys.getD (i+k) dEl).2.a (ys.getD (i+(k-1)) dEl).2.a) (Yp (ys.getD (i+k) dEl).2.b (ys.getD (i+(k-1)) dEl).2.b) (Yp (ys.getD (i+k) dEl).2.c (ys.getD (i+(k-1)) dEl).2.c) (Yp (ys.getD (i+k) dEl).2.d (ys.getD (i+(k-1)) dEl).2.d)=0):XE ((ys.set q<|ys.getD (i+k) dEl).take (q+1))=dd (XE<|s.take (i+(k+1))):=by
 have e:¬(ys.getD (i+k) dEl).2=(ys.getD (i+(k-1)) dEl).2:=λe=>he<|c4_eq.2 e;rw[hyd (i+(k-1)) (by omega),hyd (i+k) (by omega),show i+(k-1)=i+k-1 by omega] at e;rw[nums_set hql,hdd,hyd (i+k) (by omega),<-Nat.add_assoc,dd_ne (by omega) hik e]
theorem ref05_CmpW{S:Sh}{w:World}(hS:ZV S w){c_a c_b:List Value}{a0 a1 a2 a3 a4 a5 a6 a7:Rat}{k k':Nat}(h_a:Gs S c_a [a0,a1,a2,a3] k)(h_b:Gs S c_b [a4,a5,a6,a7] k')(hl1:k<=10000000000)(hl2:k'<=10000000000):
    Calls prog 61 [(.agg (c_a:List Value).toArray),(.agg (c_b:List Value).toArray)].toArray w (Ret S w (λ_ v=>v= .int .i64 (QS (Yp a0 a4) (Yp a1 a5) (Yp a2 a6)<|Yp a3 a7))):=
  ref05_Cmp_s hS (h_a.wide<|Nat.le_max_left k k') (h_b.wide<|Nat.le_max_right k k') (Nat.max_le.2 ⟨hl1,hl2⟩)
def c4(p q:P4):Int:=QS (Yp p.a q.a) (Yp p.b q.b) (Yp p.c q.c) (Yp p.d q.d)
theorem Zb6:Rows3 c4:=⟨λ_ _=>cmp4_anti,λ_ _=>c4_eq,λ_ _ _ h1 h2=>Int.not_lt.1<|cmp4_trans h1 h2⟩
theorem put_lt{out:List El}{k:Nat}{x:P4}(h:∀j,j<k->c4 (out.getD j dEl).2 x<0)(h1:¬(0:Int)<QS (Yp (out.getD k dEl).2.a x.a) (Yp (out.getD k dEl).2.b x.b) (Yp (out.getD k dEl).2.c x.c) (Yp (out.getD k dEl).2.d x.d))(h2:¬QS (Yp (out.getD k dEl).2.a x.a) (Yp (out.getD k dEl).2.b x.b) (Yp (out.getD k dEl).2.c x.c) (Yp (out.getD k dEl).2.d x.d)=(0:Int)):∀j,j<k+1->c4 (out.getD j dEl).2 x<0:=by
 intro j hj;rcases Nat.lt_or_ge j k with q|q;exact h j q;obtain rfl:j=k:=by omega
 unfold c4;omega
theorem put_eq{out:List El}{k:Nat}{x:P4}(hk:k<out.length)(he:QS (Yp (out.getD k dEl).2.a x.a) (Yp (out.getD k dEl).2.b x.b) (Yp (out.getD k dEl).2.c x.c) (Yp (out.getD k dEl).2.d x.d)=(0:Int)):x∈XE out:=by
 have e:=c4_eq.1 he;exact List.mem_map.2 ⟨_,Zbn hk,e⟩
theorem nums_app(xs ys:List El):XE (xs++ys)=XE xs++XE ys:=List.map_append
theorem nums_put{out:List El}{k:Nat}{x:El}:XE ((([]++out.take k)++[x])++out.drop k)=(XE out).take k++x.2::(XE out).drop k:=by
 unfold XE;simp[List.map_take,List.map_drop]
theorem put_asc{out:List El}{k:Nat}{x:El}(hA:(XE out).Pairwise λp q=>c4 p q<0)(hlt:∀j,j<k->c4 (out.getD j dEl).2 x.2<0)(hk:k<=out.length)(hhi:k<out.length->(0:Int)<QS (Yp (out.getD k dEl).2.a x.2.a) (Yp (out.getD k dEl).2.b x.2.b) (Yp (out.getD k dEl).2.c x.2.c) (Yp (out.getD k dEl).2.d x.2.d)):(XE ((([]++out.take k)++[x])++out.drop k)).Pairwise λp q=>c4 p q<0:=by
 rw[nums_put];refine ins_asc Zb6 hA (λp hp=>?_) (λp hp=>?_);obtain⟨j,hj,rfl⟩:=List.mem_take_iff_getElem.1 hp;have hjl:j<out.length:=by have:=hj;simp[XE] at this;omega
 have:=hlt j (by omega);rw[List.getD_eq_getElem?_getD,List.getElem?_eq_getElem hjl] at this;simpa [XE] using this;have hkl:k<out.length:=by rcases Nat.lt_or_ge k out.length with q|q;exact q;rw[List.getElem?_eq_none (by simpa [XE] using q)] at hp;cases hp
 have:=hhi hkl;have e:p=(out.getD k dEl).2:=by
  have h9:(XE out)[k]? =some (out.getD k dEl).2:=by unfold XE;rw[List.getElem?_map,getD_some hkl];rfl
  rw[h9] at hp;exact(Option.some.inj hp).symm
 rw[e];exact this
theorem put_mem{out l:List El}{i k:Nat}(hM:∀y,y∈XE out↔y∈XE (l.take i))(hi:i<l.length):∀y,y∈XE ((([]++out.take k)++[l.getD i dEl])++out.drop k)↔y∈XE (l.take (i+1)):=by
 intro y;rw[nums_put,ins_mem,Qc hi,List.mem_append,hM,List.mem_singleton]
theorem put_same{out l:List El}{i:Nat}(hM:∀y,y∈XE out↔y∈XE (l.take i))(hi:i<l.length)(hx:(l.getD i dEl).2∈XE out):∀y,y∈XE out↔y∈XE (l.take (i+1)):=by
 intro y;rw[Qc hi,List.mem_append,<-hM,List.mem_singleton];exact⟨.inl,λh=>h.elim id λe=>e▸hx⟩
theorem Ks.one{S:Sh}{l:List El}(h:Ks S l){i:Nat}(hi:i<l.length):Ks S [l.getD i dEl]:=λx hx=>by
  rw[List.mem_singleton.1 hx];exact h _<|Zbn hi
theorem Els.one{n:Nat}{us:List Value}{q:P4}(hu:us.length=n)(ho:∀u∈us,one u=true):Els n [(us,q)]:=λx hx=>by
  rw[List.mem_singleton.1 hx];exact⟨hu,ho⟩
def RowOf(l:List El)(S:Sh)(v:Value):Prop:=
  ∃p len cap ys,v= .slice p len cap/\Fz S p len cap 56 ys/\Ks S ys/\((XE ys).Pairwise λp q=>c4 p q<0)/\∀y,y∈XE ys↔y∈XE l
section
open Go.Sort
def slsfP_ren:Go.Shelf.Ren:=⟨λ|6=>127|15=>159|14=>158|28=>186|29=>150|20=>178|21=>179|22=>180|23=>181|24=>182|25=>183|26=>184|27=>185|46=>195|47=>196|48=>197|49=>198|50=>199|57=>205|n=>n,λ|22=>111|24=>52|25=>66|3=>3|39=>194|0=>0|53=>163|55=>29|4=>4|46=>213|45=>212|50=>217|5=>5|9=>9|66=>228|70=>232|76=>237|77=>238|n=>n,λ|n=>n⟩
theorem slsfP:Go.Proofs.SlLaysF0.n6 prog slsfP_ren where
  mixed:=by kernel_rfl
  f6:=⟨"slices.SortFunc[[]chamfer/plane.Plane,chamfer/plane.Plane]",by decide,func127.trans (congrArg some (by kernel_rfl))⟩
  f14:=⟨"slices.pdqsortCmpFunc[chamfer/plane.Plane]",by decide,func158.trans (congrArg some (by kernel_rfl))⟩
  f15:=func159.trans (congrArg some (by kernel_rfl))
  f20:=⟨"slices.insertionSortCmpFunc[chamfer/plane.Plane]",by decide,func178.trans (congrArg some (by kernel_rfl))⟩
  f21:=⟨"slices.heapSortCmpFunc[chamfer/plane.Plane]",by decide,func179.trans (congrArg some (by kernel_rfl))⟩
  f22:=⟨"slices.breakPatternsCmpFunc[chamfer/plane.Plane]",by decide,func180.trans (congrArg some (by kernel_rfl))⟩
  f23:=⟨"slices.choosePivotCmpFunc[chamfer/plane.Plane]",by decide,func181.trans (congrArg some (by kernel_rfl))⟩
  f24:=⟨"slices.reverseRangeCmpFunc[chamfer/plane.Plane]",by decide,func182.trans (congrArg some (by kernel_rfl))⟩
  f25:=⟨"slices.partialInsertionSortCmpFunc[chamfer/plane.Plane]",by decide,func183.trans (congrArg some (by kernel_rfl))⟩
  f26:=⟨"slices.partitionEqualCmpFunc[chamfer/plane.Plane]",by decide,func184.trans (congrArg some (by kernel_rfl))⟩
  f27:=⟨"slices.partitionCmpFunc[chamfer/plane.Plane]",by decide,func185.trans (congrArg some (by kernel_rfl))⟩
  f28:=func186.trans (congrArg some (by kernel_rfl))
  f29:=func150.trans (congrArg some (by kernel_rfl))
  f46:=⟨"slices.siftDownCmpFunc[chamfer/plane.Plane]",by decide,func195.trans (congrArg some (by kernel_rfl))⟩
  f47:=func196.trans (congrArg some (by kernel_rfl))
  f48:=func197.trans (congrArg some (by kernel_rfl))
  f49:=⟨"slices.medianAdjacentCmpFunc[chamfer/plane.Plane]",by decide,func198.trans (congrArg some (by kernel_rfl))⟩
  f50:=⟨"slices.medianCmpFunc[chamfer/plane.Plane]",by decide,func199.trans (congrArg some (by kernel_rfl))⟩
  f57:=⟨"slices.order2CmpFunc[chamfer/plane.Plane]",by decide,func205.trans (congrArg some (by kernel_rfl))⟩
  t0:=underlying0
  a0:=Tryz.isAgg0
  z0:=Tryz.sizeOf0
  v0:=Tryz.zeroValue0
  t3:=underlying3
  a3:=Tryz.isAgg3
  z3:=Tryz.sizeOf3
  v3:=Tryz.zeroValue3
  t4:=underlying4
  a4:=Tryz.isAgg4
  z4:=Tryz.sizeOf4
  v4:=Tryz.zeroValue4
  t5:=underlying5
  a5:=Tryz.isAgg5
  z5:=Tryz.sizeOf5
  v5:=Tryz.zeroValue5
  t9:=underlying9
  a9:=Tryz.isAgg9
  z9:=Tryz.sizeOf9
  v9:=Tryz.zeroValue9
  t22:=underlying111
  a22:=Tryz.isAgg111
  z22:=Tryz.sizeOf111
  v22:=Tryz.zeroValue111
  t25:=underlying66
  a25:=Tryz.isAgg66
  z25:=Tryz.sizeOf66
  v25:=Tryz.zeroValue66
  t39:=underlying194
  a39:=Tryz.isAgg194
  z39:=Tryz.sizeOf194
  v39:=Tryz.zeroValue194
  t45:=underlying212
  a45:=Tryz.isAgg212
  z45:=Tryz.sizeOf212
  v45:=Tryz.zeroValue212
  t46:=underlying213
  a46:=Tryz.isAgg213
  z46:=Tryz.sizeOf213
  v46:=Tryz.zeroValue213
  t50:=underlying217
  a50:=Tryz.isAgg217
  z50:=Tryz.sizeOf217
  v50:=Tryz.zeroValue217
  t53:=underlying163
  a53:=Tryz.isAgg163
  z53:=Tryz.sizeOf163
  v53:=Tryz.zeroValue163
  t55:=underlying29
  a55:=Tryz.isAgg29
  z55:=Tryz.sizeOf29
  v55:=Tryz.zeroValue29
  t66:=underlying228
  a66:=Tryz.isAgg228
  z66:=Tryz.sizeOf228
  v66:=Tryz.zeroValue228
  t70:=underlying232
  a70:=Tryz.isAgg232
  z70:=Tryz.sizeOf232
  v70:=Tryz.zeroValue232
  t76:=underlying237
  a76:=Tryz.isAgg237
  z76:=Tryz.sizeOf237
  v76:=Tryz.zeroValue237
  t77:=underlying238
  a77:=Tryz.isAgg238
  z77:=Tryz.sizeOf238
  v77:=Tryz.zeroValue238
theorem one_cell{v:Value}(h:one v=true):v.oneCell'=true:=by cases v <;> first|rfl|cases h
theorem cel_map{α:Type}(elm:α->El)(d:List α):cel (d.map λx=>((elm x).1,()))=cel (d.map elm):=by
 unfold cel;rw[List.map_map,List.map_map];rfl
theorem sort_any{α:Type}[Inhabited α]{elm:α->El}{cf:α->α->Int}{S0 S:Sh}{w0 w:World}{H:Own}{b len cap:Nat}{rest:List Value}(d:Array α)(hk:∀x,(elm x).1.length=20)(ho:∀x,∀u∈(elm x).1,one u=true)(hO:SWO (ltOf cf))(hc:∀w',ZV S w'->∀x y,Calls prog 21 [(.agg (elm x).1.toArray),(.agg (elm y).1.toArray)].toArray w' (Ret S w' λ_ v=>v= .int .i64 (cf x y)))(hR:Run S0 w0 S ((b,52,cel (d.toList.map elm)++rest)::H) w)(hl:len=d.size)(hsz:len<=40):
    Calls prog 127 [.slice (some ⟨b,0,none⟩) len cap,.func (.func 21) #[] #[]].toArray w λe w'=>e= .returned (.tuple #[])/\∃d':Array α,d'.toList.Perm d.toList/\(d'.toList.Pairwise λx y=>ltOf cf y x=false)/\Run S0 w0 S ((b,52,cel (d'.toList.map elm)++rest)::H) w':=by
 subst hl;have hf:∀d:Array α,(flatK (λx=>(elm x).1) 20 d).toList=cel (d.toList.map elm):=λd=>(flatK_toList (enc:=λx=>(elm x).1) hk d).trans (cel_map elm d.toList);rw[<-hf] at hR;refine(AnyQ.slices_SortFunc slsfP 20 Tryz.isAgg52 Tryz.sizeOf52 (λx=>(elm x).1) hk (λx v hv=>one_cell<|ho x v hv) cf hO 21 #[] b 0 cap d w (λ_ _=>Ze9 (by kernel_rfl)) ?_ hR.holdsK ?_ (by omega)).mono ?_;intro m os dk hs x y;refine(hc _ (hR.holdsS hk hs m os) x y).mono ?_;rintro e w' ⟨v,S',rfl,hx,rfl⟩;exact⟨rfl,hx.grown⟩;have:=(hR.own _ List.mem_cons_self).1;exact(Array.getElem?_eq_some_iff.1 this).1;rintro e w' ⟨he,d',n,os,hp,hs,rfl⟩;have h1:d'.size=d.size:=hp.1;refine⟨he,d',?_,?_,?_⟩;have:=hp.2.2;rwa [<-h1,Array.extract_size,h1,Array.extract_size] at this;refine List.pairwise_iff_getElem.2 λi j hi hj hij=>?_;have:=hs i j (Nat.zero_le _) hij (by rw[<-h1];simpa using hj);rwa [getElem!_pos d' i (by simpa using hi),getElem!_pos d' j (by simpa using hj)] at this;rw[<-hf];exact hR.sorted hk h1 n os
def Sorted1(s:List El)(S:Sh)(v:Value)(ds:List El):Prop:=v= .tuple #[]/\Hs S ds/\ds.length=s.length/\(XE ds).Perm (XE s)/\(XE ds).Pairwise λp q=>c4 p q<=0
abbrev PlS(S:Sh):Type:={x:El // Fs S x.1 [x.2.a,x.2.b,x.2.c,x.2.d] 351808/\x.2.ok}
theorem swo_c4{α:Type}(f:α->P4):SWO (ltOf λx y=>c4 (f x)<|f y):=by
 refine⟨λx=>?_,λx y z h1 h2=>?_,λx y z h1 h2=>?_⟩;exact decide_eq_false<|Zb6.irr _;exact decide_eq_true<|Zb6.lt_trans (of_decide_eq_true h1)<|of_decide_eq_true h2;have h3:¬c4 (f x) (f y)<0:=of_decide_eq_false h1;have h4:¬c4 (f y) (f z)<0:=of_decide_eq_false h2;refine decide_eq_false (p:=c4 (f x) (f z)<0) ?_;have a1:=Zb6.anti (f x) (f y);have a2:=Zb6.anti (f y) (f z);have a3:=Zb6.anti (f x) (f z);have:=Zb6.trans (f z) (f y) (f x) (by omega) (by omega);omega
theorem sortfunc_s{S0 S:Sh}{w0 w:World}{H0:Own}{b_s len_s cap_s:Nat}{s:List El}{rest_s:List Value}(R0:Run S0 w0 S ((b_s,52,cel s++rest_s)::H0) w)(hs:Hs S s)(hl:len_s=s.length)(hlim:len_s<=40):
    Calls prog 127 [.slice (some ⟨b_s,0,none⟩) len_s cap_s,.func (.func 21) #[] #[]].toArray w (RetE S0 w0 S b_s 52 rest_s H0<|Sorted1 s):=by
 cases s with
 | nil=>
   refine(sort_any (α:=Unit) (elm:=λ_=>(zPlane,⟨0,0,0,0⟩)) (cf:=λ_ _=>0) #[] (λ_=>rfl) (λ_=>by decide) ⟨λ_=>rfl,(λ_ _ _ h _=>by cases h),λ_ _ _ _ _=>rfl⟩ (λw' hS _ _=>zero_Cmp_s hS) R0 hl hlim).mono ?_
   rintro e w' ⟨rfl,d',hp, -,hR⟩
   have h0:d'.toList=[]:=hp.eq_nil
   rw[h0] at hR
   exact⟨_,S,[],rfl,.refl S,hR,rfl,hs,rfl,List.Perm.refl _,List.Pairwise.nil⟩
 | cons x r=>
   letI:Inhabited (PlS S):=⟨⟨x,hs x List.mem_cons_self⟩⟩
   have e0:((x::r).attach.map λy=>(⟨y.1,hs y.1 y.2⟩:PlS S)).map (·.1)=x::r:=by
     rw[List.map_map]
     exact List.attach_map_subtype_val _
   refine(sort_any (α:=PlS S) (elm:=(·.1)) (cf:=λx y=>c4 x.1.2 y.1.2) ((x::r).attach.map λy=>(⟨y.1,hs y.1 y.2⟩:PlS S)).toArray (λx=>x.2.1.len) (λx=>x.2.1.ones) (swo_c4 _) (λw' hS x y=>plane_CmpW hS x.2.1 y.2.1 (by omega) (by omega) x.2.2 y.2.2) (by rw[List.toList_toArray,e0];exact R0) (by rw[hl];simp) hlim).mono ?_
   rintro e w' ⟨rfl,d',hp,hq,hR⟩
   rw[List.toList_toArray] at hp
   have hp2:=hp.map (·.1)
   rw[e0] at hp2
   refine⟨_,S,_,rfl,.refl S,hR,rfl,λy hy=>hs y<|hp2.mem_iff.1 hy,hp2.length_eq,hp2.map _,?_⟩
   unfold XE
   rw[List.map_map]
   refine List.pairwise_map.2 (hq.imp λ{p q} h=>?_)
   have h3:¬c4 q.1.2 p.1.2<0:=of_decide_eq_false h
   have:=Zb6.anti p.1.2 q.1.2
   show c4 p.1.2 q.1.2<=0
   omega
end
theorem Zck:Zgf prog 52=some true:=by kernel_rfl
theorem Zfn:Zgf prog 56=some true:=by kernel_rfl
theorem Yq:Yy prog 52=some 20:=by kernel_rfl
theorem YF:Yy prog 56=some 12:=by kernel_rfl
theorem Zh6:Qb prog 52=some 288:=by kernel_rfl
theorem Zeh:Qb prog 56=some 224:=by kernel_rfl
theorem Zb5:XT prog 52=some (.agg ([(.bool false),(.int .u64 (0:Int)),(.slice none 0 0),(.int .u64 (0:Int)),(.slice none 0 0),(.bool false),(.int .u64 (0:Int)),(.slice none 0 0),(.int .u64 (0:Int)),(.slice none 0 0),(.bool false),(.int .u64 (0:Int)),(.slice none 0 0),(.int .u64 (0:Int)),(.slice none 0 0),(.bool false),(.int .u64 (0:Int)),(.slice none 0 0),(.int .u64 (0:Int)),(.slice none 0 0)]:List Value).toArray):=by kernel_rfl
theorem Zb4:XT prog 56=some (.agg ([(.bool false),(.slice none 0 0),(.slice none 0 0),(.bool false),(.slice none 0 0),(.slice none 0 0),(.bool false),(.slice none 0 0),(.slice none 0 0),(.bool false),(.slice none 0 0),(.slice none 0 0)]:List Value).toArray):=by kernel_rfl
theorem ent_21:ZR prog 21=true:=by kernel_rfl
theorem ent_61:ZR prog 61=true:=by kernel_rfl
theorem ent_129:ZR prog 129=true:=by kernel_rfl
theorem plane_eq{S:Sh}{w:World}(hS:ZV S w){c_x:List Value}{x0 x1 x2 x3:Rat}{k_x:Nat}(h_x:Fs S c_x [x0,x1,x2,x3] k_x){c_y:List Value}{y0 y1 y2 y3:Rat}{k_y:Nat}(h_y:Fs S c_y [y0,y1,y2,y3] k_y)(hl1:k_x<=10000000000)(hl2:k_y<=10000000000)(hn1:¬(x0.num=0/\x1.num=0/\x2.num=0))(hn2:¬(y0.num=0/\y1.num=0/\y2.num=0)):Calls prog 129 [(.agg (c_x:List Value).toArray),(.agg (c_y:List Value).toArray)].toArray w (Ret S w (λS v=>((QS (Yp x0 y0) (Yp x1 y1) (Yp x2 y2) (Yp x3 y3)=0)/\v= .bool true)\/((¬(QS (Yp x0 y0) (Yp x1 y1) (Yp x2 y2) (Yp x3 y3)=0))/\v= .bool false))):=by
 refine cbd hS (n:=9) func129 rfl λ_ L0 R0=>wA<|sO L0 rfl<|ZW (cs:=c_x) rfl R0 rfl λb1 _ _ l1 r1 R1=>So rfl<|ZW (cs:=c_y) rfl R1 rfl λb2 _ _ l2 r2 R2=>Sa rfl<|SW<|So rfl<|ZA rfl Zck Yq (R2.row<|r1.up l2) h_x.len<|So rfl<|ZA rfl Zck Yq (R2.row r2) h_y.len<|So rfl<|Zi rfl ent_21 (plane_CmpW R2.holds (h_x.up<|l1.trans l2) (h_y.up<|l1.trans l2) (by omega) (by omega) (by assumption) (by assumption)) λv_1 _ _ x_1 v1=>?_;have R3:=R2.call x_1;obtain rfl:=v1;intro _ L6;by_cases t1:(QS (Yp x0 y0) (Yp x1 y1) (Yp x2 y2)<|Yp x3 y3)=(0:Int);exact sO L6 rfl<|cT t1 (ZP rfl rfl)<|Sa rfl λ_ L8=>sn<|wp_ret<|rt (L8.kp [4] rfl) (.tmp rfl Res.nil)<|⟨_,_,rfl,R3.ext,(Or.inl ⟨by first|assumption|omega|(simp_all;done),rfl⟩)⟩;exact sO L6 rfl<|cF t1 (ZP rfl rfl)<|Sa rfl λ_ L11=>sn<|wp_ret<|rt (L11.kp [4] rfl) (.tmp rfl Res.nil)<|⟨_,_,rfl,R3.ext,(Or.inr ⟨by first|assumption|omega|(simp_all;done),rfl⟩)⟩
theorem compact_s{S0 S:Sh}{w0 w:World}{H0:Own}{b_s len_s cap_s:Nat}{s:List El}{rest_s:List Value}(R0:Run S0 w0 S ((b_s,52,(pls s++rest_s))::H0) w)(hs:Hs S s)(hl:len_s=s.length)(hc:len_s<=cap_s)(hlim:len_s<=40):Calls prog 128 [(.slice (some ⟨b_s,0,none⟩) len_s cap_s),(.func (.func 129) #[] [].toArray)].toArray w (RetE S0 w0 S b_s 52 rest_s H0<|Compacted b_s cap_s s):=by
 refine ZB (n:=66) func128 rfl rfl λac0 L0=>wA<|sa L0 rfl<|SVv<|Sm rfl<|So rfl<|Zz rfl underlying111 λ_ L3=>?_;by_cases t1:(len_s:Int)<(2:Int);exact sO L3 rfl<|cT t1 (Zs rfl rfl)<|ST rfl<|WA<|Sm rfl<|Sa rfl λ_ L6=>sn<|wp_ret<|Zt<|rt L6 (.tmp rfl Res.nil)<|⟨_,S,s,rfl,Sh.le.refl _,R0,⟨_,rfl,by omega,by omega,hs.els,λx hx=>hs x<|List.mem_of_mem_take hx,by rw[List.take_of_length_le (by omega)];exact(dd_short (by unfold XE;rw[List.length_map];omega)).symm⟩⟩;refine sO L3 rfl<|cF t1 (Zs rfl rfl)<|SF rfl λ_ L7=>wp_skip<|Zc<|wp_seq<|wA<|sa L7 rfl λ_ L8=>sn<|wp_block<|ZJ (λm ac ww=>∃(S':Sh)(i:Nat),S.le S'/\ZD ac 66 [(0,(.slice (some ⟨b_s,0,none⟩) len_s cap_s)),(1,(.func (.func 129) #[] [].toArray)),(4,(.slice none 0 0)),(5,(.int .i64 ((i:Nat):Int)))]/\Run S0 w0 S' ((b_s,52,(pls s++rest_s))::H0) ww/\(1<=i)/\(i<=len_s)/\(dd (XE<|s.take i)=XE (s.take i))/\m=len_s-i) (len_s-1) ⟨S,1,Sh.le.refl _,(((L8.ri 5 ((1:Nat):Int) rfl).a L8).kp [5,4,1,0] rfl),R0,(by omega),(by omega),(by exact dd_take1 _),rfl⟩ ?_;rintro m_1 ac1 _ ⟨S1,i,l1,L9,R1,hi,hil,hd,m1⟩;refine wp_seq<|wA<|sm L9 rfl<|Sm rfl<|So rfl<|Zz rfl underlying111 λ_ L13=>?_;by_cases t2:(i:Int)<(len_s:Int);refine sO L13 rfl<|cT t2 (Zs rfl rfl)<|ST rfl λ_ L14=>wp_skip<|Zc<|wp_seq<|wp_block<|wp_seq ?_;have L15:=(L14.kp [0,1,4,5,12,13,14,15] rfl);refine Zw (E0:=[]) (H0:=((b_s,52,(pls s++rest_s))::H0)) (n:=66) mixed 10 [] (λk=>0) (Zcn [.is (.func (.func 129) #[] [].toArray),.is (.slice (some ⟨b_s,0,none⟩) len_s cap_s),.is (.int .i64 (i:Int)),.is (.pointer (some ⟨b_s,(0+(i)*20),none⟩)),.is (.agg ((s.getD i dEl).1:List Value).toArray),.is (.slice (some ⟨b_s,0,none⟩) len_s cap_s),.is (.int .i64 (i:Int)),.is (.int .i64 ((i:Int)-(1:Int))),.is (.pointer (some ⟨b_s,(0+(i-1)*20),none⟩)),.is (.agg ((s.getD (i-1) dEl).1:List Value).toArray)]) L15 R1 (by simp) (by simp) (by rfl) (by rfl) (by simp) (ZU ?_) ?_;refine(Ak ?_ ?_<|Am ?_ ?_ ?_ ?_ ?_ ?_ ?_ ?_ trivial);exact dm [] rfl;exact dm [] rfl;exact dm [] rfl;exact dK [1,2] rfl λA=>Yk i i rfl rfl underlying111 Yq (by omega) (by omega) (by omega)<|A.same rfl;exact dK [3] rfl λA=>ZQ (vs:=(s.getD i dEl).1) rfl Zck Yq (A.run.has<|List.mem_append_right _<|List.Mem.head _) (Zcp hs.els (by omega)) (XJ hs.els (by omega))<|A.same rfl;exact dm [] rfl;exact dm [] rfl;exact dK [6] rfl λA=>ZO (z:=((i:Int)-(1:Int))) rfl rfl Xd<|A.same rfl;exact dK [5,7] rfl λA=>Yk (i-1) (i-1) rfl rfl underlying111 Yq (by omega) (by omega) (by omega)<|A.same rfl;exact dK [8] rfl λA=>ZQ (vs:=(s.getD (i-1) dEl).1) rfl Zck Yq (A.run.has<|List.mem_append_right _<|List.Mem.head _) (Zcp hs.els (by omega)) (XJ hs.els (by omega))<|A.same rfl;intro S12 _ _ w12 l2 E1 R2 n1 L26 K1;have L36:=L26.dr K1 [0,1,2,3,4,5,6,7,8,9] rfl;have R3:Run _ _ S12 ((b_s,52,(pls s++rest_s))::H0) w12:=Yb R2 n1 [] (by simp) (by simp);refine sO L36 rfl<|does_call rfl rfl ent_129 (plane_eq R3.holds (((hs.up l1).at (i:=i) (by omega)).up l2) (((hs.up l1).at (i:=i-1) (by omega)).up l2) (by omega) (by omega) (hs.ok (i:=i) (by omega))<|hs.ok (i:=i-1) (by omega)) λv_1 S13 _ x1 v1=>?_;have R4:=R3.call x1;have l3:=x1.le;rcases v1 with⟨t3,rfl⟩|⟨t4,rfl⟩;intro _ L37;refine sT L37 rfl<|wA<|sm L37 rfl<|Sm rfl<|So rfl<|does_sliceLo (i:=i) rfl rfl underlying111 Yq (by omega) (by omega) (by omega)<|Sa rfl<|SVv<|Sa rfl λ_ L42=>sn<|wp_block<|ZJ (λm ac ww=>∃(S':Sh)(k:Nat)(q:Nat)(ys:List El),S13.le S'/\ZD ac 66 [(0,(.slice (some ⟨b_s,0,none⟩) len_s cap_s)),(1,(.func (.func 129) #[] [].toArray)),(4,(.slice none 0 0)),(5,(.int .i64 ((q:Nat):Int))),(12,(.int .i64 ((i:Nat):Int))),(13,(.slice (some ⟨b_s,0,none⟩) len_s cap_s)),(14,(.int .i64 ((len_s:Nat):Int))),(15,(.bool true)),(18,(.func (.func 129) #[] [].toArray)),(19,(.slice (some ⟨b_s,0,none⟩) len_s cap_s)),(20,(.int .i64 ((i:Nat):Int))),(21,(.pointer (some ⟨b_s,(0+(i)*20),none⟩))),(22,(.agg ((s.getD i dEl).1:List Value).toArray)),(23,(.slice (some ⟨b_s,0,none⟩) len_s cap_s)),(24,(.int .i64 ((i:Nat):Int))),(25,(.int .i64 (((i:Nat):Int)-(1:Int)))),(26,(.pointer (some ⟨b_s,(0+(i-1)*20),none⟩))),(27,(.agg ((s.getD (i-1) dEl).1:List Value).toArray)),(28,(.bool true)),(29,(.slice (some ⟨b_s,0,none⟩) len_s cap_s)),(30,(.int .i64 ((i:Nat):Int))),(31,(.slice (some ⟨b_s,0+i*20,none⟩) (len_s-i) (cap_s-i))),(6,(.slice (some ⟨b_s,0+i*20,none⟩) (len_s-i) (cap_s-i))),(7,(.int .i64 ((k:Nat):Int)))]/\Run S0 w0 S' ((b_s,52,(pls ys++rest_s))::H0) ww/\(1<=k)/\(1<=q)/\(q+1<=i+k)/\(i+k<=len_s)/\(ys.length=len_s)/\(∀j,q<=j->ys.getD j dEl=s.getD j dEl)/\(XE (ys.take q)=dd (XE<|s.take (i+k)))/\(Hs S' ys)/\m=len_s-i-k) (len_s-i-1) ⟨S13,1,i,s,Sh.le.refl _,(((L42.ri 7 ((1:Nat):Int) rfl).a L42).kp [7,6,31,30,29,28,27,26,25,24,23,22,21,20,19,18,15,14,13,12,5,4,1,0] rfl),R4,(by omega),(by omega),(by omega),(by omega),(by omega),(by exact λ_ _=>rfl),(by exact cp_start hi (by omega) (by assumption) hd),(hs.up<|l1.trans<|l2.trans l3),rfl⟩ ?_;rintro m_2 ac2 _ ⟨S14,k,q,ys,l4,L43,R5,hk1,hq,hqk,hkl,hyl,hyd,hdd,hys,m2⟩;refine wp_seq<|wA<|sm L43 rfl<|Sm rfl<|So rfl<|Zz rfl underlying111 λ_ L47=>?_;by_cases t5:(k:Int)<(((len_s-i):Nat):Int);refine sO L47 rfl<|cT t5 (Zs rfl rfl)<|ST rfl λ_ L48=>wp_skip<|Zc<|wp_seq<|wp_block<|wp_seq ?_;have L49:=(L48.kp [0,1,4,5,12,13,14,15,18,19,20,21,22,23,24,25,26,27,28,29,30,31,6,7,32,33,34,35] rfl);refine Zw (E0:=[]) (H0:=((b_s,52,(pls ys++rest_s))::H0)) (n:=66) mixed 10 [] (λk=>0) (Zcn [.is (.func (.func 129) #[] [].toArray),.is (.slice (some ⟨b_s,0+i*20,none⟩) (len_s-i) (cap_s-i)),.is (.int .i64 (k:Int)),.is (.pointer (some ⟨b_s,(0+(i+(k))*20),none⟩)),.is (.agg ((ys.getD (i+(k)) dEl).1:List Value).toArray),.is (.slice (some ⟨b_s,0+i*20,none⟩) (len_s-i) (cap_s-i)),.is (.int .i64 (k:Int)),.is (.int .i64 ((k:Int)-(1:Int))),.is (.pointer (some ⟨b_s,(0+(i+(k-1))*20),none⟩)),.is (.agg ((ys.getD (i+(k-1)) dEl).1:List Value).toArray)]) L49 R5 (by simp) (by simp) (by rfl) (by rfl) (by simp) (ZU ?_) ?_;refine(Ak ?_ ?_<|Am ?_ ?_ ?_ ?_ ?_ ?_ ?_ ?_ trivial);exact dm [] rfl;exact dm [] rfl;exact dm [] rfl;exact dK [1,2] rfl λA=>Yk k (i+(k)) rfl rfl underlying111 Yq (by omega) (by omega) (by omega)<|A.same rfl;exact dK [3] rfl λA=>ZQ (vs:=(ys.getD (i+(k)) dEl).1) rfl Zck Yq (A.run.has<|List.mem_append_right _<|List.Mem.head _) (Zcp hys.els (by omega)) (XJ hys.els (by omega))<|A.same rfl;exact dm [] rfl;exact dm [] rfl;exact dK [6] rfl λA=>ZO (z:=((k:Int)-(1:Int))) rfl rfl Xd<|A.same rfl;exact dK [5,7] rfl λA=>Yk (k-1) (i+(k-1)) rfl rfl underlying111 Yq (by omega) (by omega) (by omega)<|A.same rfl;exact dK [8] rfl λA=>ZQ (vs:=(ys.getD (i+(k-1)) dEl).1) rfl Zck Yq (A.run.has<|List.mem_append_right _<|List.Mem.head _) (Zcp hys.els (by omega)) (XJ hys.els (by omega))<|A.same rfl;intro S25 _ _ w25 l5 E2 R6 n2 L60 K2;have L70:=L60.dr K2 [0,1,2,3,4,5,6,7,8,9] rfl;have R7:Run _ _ S25 ((b_s,52,(pls ys++rest_s))::H0) w25:=Yb R6 n2 [] (by simp) (by simp);refine sO L70 rfl<|does_call rfl rfl ent_129 (plane_eq R7.holds ((hys.at (i:=i+(k)) (by omega)).up l5) ((hys.at (i:=i+(k-1)) (by omega)).up l5) (by omega) (by omega) (hys.ok (i:=i+(k)) (by omega))<|hys.ok (i:=i+(k-1)) (by omega)) λv_2 S26 _ x2 v2=>?_;have R8:=R7.call x2;have l6:=x2.le;rcases v2 with⟨t6,rfl⟩|⟨t7,rfl⟩;intro _ L71;exact sO L71 rfl<|YM rfl rfl<|SF rfl λ_ L72=>wp_skip<|Zx<|Zc<|Za<|sm L72 rfl<|So rfl<|Zy rfl rfl Xd<|Sa rfl λ_ L75=>sn<|⟨len_s-i-(k+1),(by omega),S26,(k+1),q,ys,(l4.trans<|l5.trans l6),(((L75.ri 7 (((k+1):Nat):Int) rfl).a L75).kp [7,6,31,30,29,28,27,26,25,24,23,22,21,20,19,18,15,14,13,12,5,4,1,0] rfl),R8,(by omega),(by omega),(by omega),(by omega),(by first|exact hyl|(rw[List.length_set];exact hyl)),(by first|exact hyd|exact cp_keep hyd),(by first|exact cp_same hyd hdd (by omega) (by omega) (by omega) (by assumption)|exact cp_more hyd hdd (by omega) (by omega) (by omega) (by omega) (by assumption)),(by first|exact(hys.up<|l5.trans l6)|exact(hys.up<|l5.trans l6).setD (by omega)),rfl⟩;intro _ L77;exact sO L77 rfl<|YM rfl rfl<|ST rfl<|WA<|Sm rfl<|Sm rfl<|Sm rfl<|Sm rfl<|So rfl<|Yk k (i+(k)) rfl rfl underlying111 Yq (by omega) (by omega) (by omega)<|So rfl<|ZQ (vs:=(ys.getD (i+(k)) dEl).1) rfl Zck Yq (R8.has<|List.Mem.head _) (Zcp hys.els (by omega)) (XJ hys.els (by omega))<|So rfl<|Yk q q rfl rfl underlying111 Yq (by omega) (by omega) (by omega)<|Sz rfl<|does_storeE (q:=(ys.getD (i+(k)) dEl).2) rfl rfl R8 Yq hys.els (XJ hys.els (by omega)) (el_ones hys.els (by omega)) (by omega) λ_ R9=>SX<|Sm rfl<|So rfl<|Zy rfl rfl Xd<|Sa rfl<|SY<|Sm rfl<|So rfl<|Zy rfl rfl Xd<|Sa rfl λ_ L92=>sn<|⟨len_s-i-(k+1),(by omega),S26,(k+1),(q+1),(ys.set q<|ys.getD (i+(k)) dEl),(l4.trans<|l5.trans l6),(((L92.ri 5 (((q+1):Nat):Int) rfl).a ((L92.ri 7 (((k+1):Nat):Int) rfl).a L92)).kp [7,6,31,30,29,28,27,26,25,24,23,22,21,20,19,18,15,14,13,12,5,4,1,0] rfl),R9,(by omega),(by omega),(by omega),(by omega),(by first|exact hyl|(rw[List.length_set];exact hyl)),(by first|exact hyd|exact cp_keep hyd),(by first|exact cp_same hyd hdd (by omega) (by omega) (by omega) (by assumption)|exact cp_more hyd hdd (by omega) (by omega) (by omega) (by omega) (by assumption)),(by first|exact(hys.up<|l5.trans l6)|exact(hys.up<|l5.trans l6).setD (by omega)),rfl⟩;exact sO L47 rfl<|cF t5 (Zs rfl rfl)<|SF rfl λ_ L95=>wp_exit<|Zo<|Zo<|Yl<|Zc<|wA<|sm L95 rfl<|Sm rfl<|So rfl<|does_sliceLo (i:=q) rfl rfl underlying111 Yq (by omega) (by omega) (by omega)<|Sz rfl<|does_clearE (q:=q) rfl underlying111 Yq Zh6 Zb5 R5 hys.els rfl (by omega) (by omega) λ_ R10=>SW<|Sm rfl<|Sm rfl<|So rfl<|Qo (i:=q) rfl rfl underlying111 Yq (by omega)<|Sa rfl λ_ L103=>sn<|wp_ret<|YE<|Zt<|Zt<|YE<|Zt<|rt L103 (.tmp rfl Res.nil)<|⟨_,S14,(clr ys q),rfl,(l1.trans<|l2.trans<|l3.trans l4),R10,⟨q,rfl,by omega,by rw[clr_len (by omega)];omega,clr_els hys.els,clr_hs hys (by omega),by rw[clr_take (by omega),hdd,List.take_of_length_le (by omega)]⟩⟩;intro _ L104;exact sF L104 rfl<|wp_skip<|Zx<|Zc<|Za<|sm L104 rfl<|So rfl<|Zy rfl rfl Xd<|Sa rfl λ_ L107=>sn<|⟨len_s-(i+1),(by omega),S13,(i+1),(l1.trans<|l2.trans l3),(((L107.ri 5 (((i+1):Nat):Int) rfl).a L107).kp [5,4,1,0] rfl),R4,(by omega),(by omega),(by exact dd_takeN (by omega) (by omega) (by assumption) hd),rfl⟩;exact sO L13 rfl<|cF t2 (Zs rfl rfl)<|SF rfl λ_ L109=>wp_exit<|Zo<|Zo<|Yl<|Zc<|wA<|sm L109 rfl<|Sa rfl λ_ L111=>sn<|wp_ret<|rt (L111.kp [4] rfl) (.tmp rfl Res.nil)<|⟨_,S1,s,rfl,l1,R1,⟨_,rfl,by omega,by omega,hs.els,λx hx=>(hs.up l1) x (List.mem_of_mem_take hx),by rw[List.take_of_length_le (by omega)];rw[List.take_of_length_le (by omega)] at hd;exact hd.symm⟩⟩
section
section
variable{P:Program}{a:Act}{w:World}{n:Nat}{l:List (Nat × Value)}{K:Value->World->Prop}
variable{d:Option Tmp}{ty:TypeId}{pos:String}{af:Array Edge}{g0:Option (Nat × Bool)}
theorem does_sliceTo{t e:TypeId}{x y z:Operand}{p:Option Addr}{len cap i sz:Nat}{k1 k2:IntKind}(hx:ev l x=some (.slice p len cap))(hy:ev l y=some (.int k1 i))(hz:ev l z=some (.int k2 i))(ht:P.underlying t=some (.slice e))(hZ:Yy P e=some sz)(h1:i<=cap)(k:K (.slice p i i) w)(a:Act)(hL:ZD a n l):YL P ⟨d,.slice t x none (some y) (some z),ty,pos,af,g0⟩ a w K:=by
 refine Zv (v:=.slice p i i) ?_ k;simp only[execOp,hL.ev hx,Option.map_none,Option.map_some,hL.ev hy,hL.ev hz,Instr.sliceAt];rw[Zf (w':=w) (a:=(.slice p i i:Value))];rfl;rw[Zf (Zq ht)];simp only[Instr.slice];rw[Zf (Zq ht)];simp only[Instr.sliceBounds]
 rw[Zf (w':=w) (a:=(0,i,i)) (by
  rw[Zf (Ye rfl h1),Zf (Ye rfl<|Nat.le_refl _),ZE];rfl)]
 simp only[];rw[Zf (Ym hZ)];simp only[Nat.zero_mul,Nat.sub_zero];by_cases hj:i=0;rw[if_pos hj];rfl;rw[if_neg hj]
 cases p with
 |none=>rfl
 |some ad=>rfl
theorem does_appendC{x y:Operand}{t e:TypeId}{b b2 m cap2 sz by_:Nat}{z:Value}{s:List El}{rest:List Value}{S0 S:Sh}{w0:World}{H:Own}(hx:ev l x=some (.slice (some ⟨b,0,none⟩) 0 0))(hy:ev l y=some (.slice (some ⟨b2,0,none⟩) m cap2))(ht:P.underlying t=some (.slice e))(hZ:Yy P e=some sz)(hB:Qb P e=some by_)(hz:XT P e=some z)(hzs:z.cells.size=sz)(hR:Run S0 w0 S ((b,e,[])::H) w)(hr:Row S b2 e (cel s++rest))(hE:Els sz s)(hm:m=s.length)(hlim:(0+m)*by_<=140737488355328)(hlim2:0+m<=140737488355328)(k:∀b' cap' rest' w',m<=cap'->Run S0 w0 S ((b',e,cel s++rest')::H) w'->K (.slice (some ⟨b',0,none⟩) m cap') w')(a:Act)(hL:ZD a n l):YL P ⟨d,.call ⟨.builtin .append,#[x,y],#[t,t]⟩,ty,pos,af,g0⟩ a w K:=by
 rcases Nat.eq_zero_or_pos m with h0|h0;subst h0;have hs0:s=[]:=List.eq_nil_of_length_eq_zero hm.symm;subst hs0;exact Cu hL<|Zcx hx hy ht hZ (Nat.le_refl _)<|k b 0 [] w (Nat.le_refl _) hR;have hP:Zgq w sz (some ⟨b2,0,none⟩) m s:=by have:=Zgq.all (hR.row hr) hE;rwa [<-hm] at this
 refine Cu hL<|XC (g:=some (b,[])) (xs:=[]) (ys:=s) hx hy ht hZ hB hz hzs (Gw.own (by simp[cel])) hR hP hE hlim hlim2 λg' cap' w' hG r=>?_;obtain⟨b',rest',rfl⟩:=hG.some (by omega);rw[Nat.zero_add] at*;exact k b' cap' rest' w' hG.hc r
end
theorem clone_s{S0 S:Sh}{w0 w:World}{H0:Own}(R0:Run S0 w0 S H0 w){b_s len_s cap_s:Nat}{s:List El}{rest_s:List Value}(hrow:Row S b_s 52 (cel s++rest_s))(hE:Els 20 s)(hl:len_s=s.length)(hlim:len_s<=40):
  Calls prog 126 [.slice (some ⟨b_s,0,none⟩) len_s cap_s].toArray w λe w'=>∃b cap rest,e= .returned (.slice (some ⟨b,0,none⟩) len_s cap)/\len_s<=cap/\Run S0 w0 S ((b,52,cel s++rest)::H0) w':=by
 exact ZB (n:=8) func126 rfl rfl λac0 L0=>wA<|sa L0 rfl<|SVv<|Sm rfl<|So rfl<|Yc rfl rfl underlying111<|SF rfl λ_ L3=>wp_skip<|Zc<|wA<|sO L3 rfl<|Yf (cs:=[]) underlying111 Yq Zb5 .nil [] rfl rfl rfl (by decide) R0 λb1 _ R1=>Sm rfl<|So rfl<|does_appendC (s:=s) rfl rfl underlying111 Yq Zh6 Zb5 rfl R1 hrow hE hl (by omega) (by omega) λb2 cap2 rest_2 _ z2 R2=>Sa rfl λ_ L7=>sn<|wp_ret<|rt L7 (.tmp rfl Res.nil)<|⟨_,_,_,rfl,z2,R2⟩
theorem planes_Sorted_s{S0 S:Sh}{w0 w:World}{H0:Own}(R0:Run S0 w0 S H0 w){b_s len_s cap_s:Nat}{s:List El}{rest_s:List Value}(hrow:Row S b_s 52 (cel s++rest_s))(hs:Hs S s)(hl:len_s=s.length)(hlim:len_s<=40):
  Calls prog 63 [.slice (some ⟨b_s,0,none⟩) len_s cap_s].toArray w λe w'=>∃S' b m ds rest,e= .returned (.slice (some ⟨b,0,none⟩) m m)/\S.le S'/\Run S0 w0 S' ((b,52,cel ds++rest)::H0) w'/\m<=ds.length/\m<=len_s/\Els 20 ds/\Hs S' (ds.take m)/\((XE<|ds.take m).Pairwise λp q=>c4 p q<0)/\∀y,y∈XE (ds.take m)↔y∈XE s:=by
 refine ZB (n:=16) func63 rfl rfl λac0 L0=>wA<|sa L0 rfl<|SW<|Sm rfl<|So rfl<|XN rfl (by rfl) (clone_s R0 hrow hs.els hl hlim) ?_;rintro _ _ ⟨b1,cap1,rest_1,rfl,z1,R1⟩;refine⟨_,rfl,?_⟩;intro _ L3;refine sa L3 rfl<|SW<|Sm rfl<|So rfl<|XN rfl (by rfl) (sortfunc_s R1 hs hl hlim) ?_;rintro _ _ ⟨_,_,ds1,rfl,l2,R2,rfl,h1,h2,h3,h4⟩;refine⟨_,rfl,?_⟩;intro _ L6;refine sW<|sm L6 rfl<|So rfl<|XN rfl (by rfl) (compact_s R2 h1 (hl.trans h2.symm) z1 hlim) ?_;rintro _ _ ⟨_,S3,ds2,rfl,l3,R3,m,rfl,g1,g2,g3,g4,g5⟩;refine⟨_,rfl,?_⟩;intro _ L8;refine sa L8 rfl<|SW<|Sm rfl<|Sm rfl<|So rfl<|Zz rfl underlying111<|Sm rfl<|So rfl<|Zz rfl underlying111<|So rfl<|does_sliceTo (i:=m) rfl rfl rfl underlying111 Yq (by omega)<|Sa rfl λ_ L16=>sn<|wp_ret<|rt L16 (.tmp rfl Res.nil)<|⟨S3,b1,m,ds2,rest_1,rfl,l2.trans l3,R3,by omega,by omega,g3,g4,?_,λy=>?_⟩;rw[g5];exact dd_asc Zb6 h4;rw[g5,dd_mem];exact h3.mem_iff
end
theorem ref05_Sorted_s{S:Sh}{w:World}(hS:ZV S w){p_l:Option Addr}{len_l cap_l:Nat}{l:List El}(hf_l:Fz S p_l len_l cap_l 56 l)(hk_l:Ks S l)(hlim:len_l<=40):Calls prog 64 [(.slice p_l len_l cap_l)].toArray w (Ret S w<|RowOf l):=by
 refine cbd hS (n:=57) func64 rfl λ_ L0 R0=>?_;have hl_l:=hf_l.hl;have hc_l:=hf_l.hc;refine wA<|sa L0 rfl<|SW<|Sa rfl<|SVv<|Sa rfl λ_ L3=>sn<|wp_block<|ZJ (λm ac ww=>∃(S':Sh)(i:Nat)(p_o:Option Addr)(len_o:Nat)(cap_o:Nat)(out:List El),S.le S'/\ZD ac 57 [(0,(.slice p_l len_l cap_l)),(2,(.slice none 0 0)),(3,(.slice p_o len_o cap_o)),(4,(.int .i64 ((i:Nat):Int)))]/\Run S w S' [] ww/\(i<=len_l)/\(Fz S' p_o len_o cap_o 56 out)/\(Ks S' out)/\((XE out).Pairwise λp q=>c4 p q<0)/\(∀y,y∈XE out↔y∈XE (l.take i))/\(len_o<=i)/\m=len_l-i) (len_l-0) ⟨S,0,none,0,0,([]),Sh.le.refl _,(((L3.ri 4 ((0:Nat):Int) rfl).a L3).kp [4,3,2,0] rfl),R0,(by omega),(by exact Fz.nil _ _),(by exact λx hx=>by cases hx),List.Pairwise.nil,(by exact λy=>Iff.rfl),(by omega),rfl⟩ ?_;rintro m_1 ac1 _ ⟨S1,i,p_o,len_o,cap_o,out,l1,L4,R1,hi,hf_o,hK,hA,hM,hlo,m1⟩;have hl_o:=hf_o.hl;have hc_o:=hf_o.hc;refine wp_seq<|wA<|sm L4 rfl<|Sm rfl<|So rfl<|Zz rfl underlying112 λ_ L8=>?_;by_cases t1:(i:Int)<(len_l:Int);refine sO L8 rfl<|cT t1 (Zs rfl rfl)<|ST rfl λ_ L9=>wp_skip<|Zc<|wp_seq<|wp_block<|wA<|sa L9 rfl<|SW<|Sa rfl λ_ L11=>sn<|wp_seq<|wp_block<|ZJ (λm ac ww=>∃(S':Sh)(k:Nat)(sme:Bool),S1.le S'/\ZD ac 57 [(0,(.slice p_l len_l cap_l)),(2,(.slice none 0 0)),(3,(.slice p_o len_o cap_o)),(4,(.int .i64 ((i:Nat):Int))),(9,(.int .i64 ((i:Nat):Int))),(10,(.slice p_l len_l cap_l)),(11,(.int .i64 ((len_l:Nat):Int))),(12,(.bool true)),(5,(.int .i64 ((k:Nat):Int))),(6,(.bool (decide (sme=true))))]/\Run S w S' [] ww/\(k<=len_o)/\(sme=false->∀j,j<k->c4 (out.getD j dEl).2 (l.getD i dEl).2<0)/\(sme=true->(l.getD i dEl).2∈XE out)/\m=len_o-k) (len_o-0) ⟨S1,0,false,Sh.le.refl _,(((L11.ri 5 ((0:Nat):Int) rfl).a L11).kp [6,5,12,11,10,9,4,3,2,0] rfl),R1,(by omega),(by exact λ_ j hj=>by omega),(by exact λh=>by cases h),rfl⟩ ?_;rintro m_2 ac2 w2 ⟨S2,k,sme,l2,L12,R2,hk,hlt,hsm,m2⟩;refine wp_seq<|wA<|sm L12 rfl<|Sm rfl<|So rfl<|Zz rfl underlying112 λ_ L16=>?_;by_cases t2:(k:Int)<(len_o:Int);refine sO L16 rfl<|cT t2 (Zs rfl rfl)<|Sm rfl<|Sn rfl<|Zd rfl<|Sn rfl<|YM rfl rfl<|So rfl<|Ze rfl rfl λ_ L21=>sn ?_;by_cases t3:sme=true;exact Zh L21 rfl (by rw[decide_eq_true t3];rfl)<|wp_exit<|Zo<|Zo<|Yl<|Zc<|wp_seq<|wA<|sm L21 rfl λ_ L22=>sn<|Zl L22 rfl (decide_eq_true t3)<|wp_exit<|Zo<|Yl<|Zc<|Za<|sm L22 rfl<|So rfl<|Zy rfl rfl Xd<|Sa rfl λ_ L25=>sn<|⟨len_l-(i+1),(by omega),S2,(i+1),p_o,len_o,cap_o,out,(l1.trans l2),(((L25.ri 4 (((i+1):Nat):Int) rfl).a L25).kp [4,3,2,0] rfl),R2,(by omega),(hf_o.up l2),(by first|exact(hK.up l2)|exact((((hK.up l2).take _).append (Ks.one (hk_l.up<|l1.trans l2) (by omega))).append ((hK.up l2).drop _))),(by first|exact hA|exact put_asc hA (hlt (by first|assumption|exact Bool.eq_false_iff.2 (by assumption))) (by omega) (by first|(intro hz;omega)|(intro _;assumption))),(by first|exact put_same hM (by omega) (hsm (by assumption))|exact put_mem hM (by omega)),(by omega),rfl⟩;refine Zl L21 rfl (by rw[decide_eq_false t3];rfl)<|wp_skip<|Zc<|wp_block<|wp_seq ?_;obtain⟨b1,rest_1,rfl,r1⟩:=(hf_o.up l2).row (by omega);obtain⟨b2,rest_2,rfl,r2⟩:=(hf_l.up<|l1.trans l2).row (by omega);have L27:=(L21.kp [0,2,3,4,9,10,11,12,5,6,15,16,17,18,19,20,21,22] rfl);refine Zw (E0:=[]) (H0:=[]) (n:=57) mixed 8 [] (λk=>0) (Zcn [.is (.slice (some ⟨b1,0,none⟩) len_o cap_o),.is (.int .i64 (k:Int)),.is (.pointer (some ⟨b1,(0+(k)*12),none⟩)),.is (.agg ((out.getD k dEl).1:List Value).toArray),.is (.slice (some ⟨b2,0,none⟩) len_l cap_l),.is (.int .i64 (i:Int)),.is (.pointer (some ⟨b2,(0+(i)*12),none⟩)),.is (.agg ((l.getD i dEl).1:List Value).toArray)]) L27 R2 (by simp) (by simp) (by rfl) (by rfl) (by simp) (ZU ?_) ?_;refine(Am ?_ ?_ ?_ ?_ ?_ ?_ ?_ ?_ trivial);exact dm [] rfl;exact dm [] rfl;exact dK [0,1] rfl λA=>Yk k k rfl rfl underlying112 YF (by omega) (by omega) (by omega)<|A.same rfl;exact dK [2] rfl λA=>ZQ (vs:=(out.getD k dEl).1) rfl Zfn YF (A.run.row<|r1.up A.le) (Zcp hK.els (by omega)) (XJ hK.els (by omega))<|A.same rfl;exact dm [] rfl;exact dm [] rfl;exact dK [4,5] rfl λA=>Yk i i rfl rfl underlying112 YF (by omega) (by omega) (by omega)<|A.same rfl;exact dK [6] rfl λA=>ZQ (vs:=(l.getD i dEl).1) rfl Zfn YF (A.run.row<|r2.up A.le) (Zcp hk_l.els (by omega)) (XJ hk_l.els (by omega))<|A.same rfl;intro S11 _ _ w11 l3 E1 R3 n1 L36 K1;have L44:=L36.dr K1 [0,1,2,3,4,5,6,7] rfl;have R4:Run _ _ S11 [] w11:=Yb R3 n1 [] (by simp) (by simp);refine sO L44 rfl<|Zi rfl ent_61 (ref05_CmpW R4.holds (((hK.up l2).at (i:=k) (by omega)).up l3) (((hk_l.up<|l1.trans l2).at (i:=i) (by omega)).up l3) (by omega) (by omega)) λv_1 S12 w12 x1 v1=>?_;have R5:=R4.call x1;have l4:=x1.le;obtain rfl:=v1;intro _ L45;refine sa L45 rfl<|SVv<|Sm rfl λ_ L47=>?_;by_cases t5:(0:Int)<(QS (Yp ((out.getD k dEl).2.a)<|(l.getD i dEl).2.a) (Yp ((out.getD k dEl).2.b)<|(l.getD i dEl).2.b) (Yp ((out.getD k dEl).2.c)<|(l.getD i dEl).2.c)<|Yp ((out.getD k dEl).2.d)<|(l.getD i dEl).2.d);refine sO L47 rfl<|cT t5 (ZF rfl rfl)<|ST rfl λ_ L48=>wp_exit<|Zo<|Zgz rfl<|Zo<|Yl<|Zc<|wp_seq<|wA<|sm L48 rfl λ_ L49=>sn<|Zh L49 rfl (decide_eq_false t3)<|wp_skip<|Zc<|wA<|sa L49 rfl<|SW<|Sm rfl<|Sm rfl<|Sm rfl<|So rfl<|Qo (i:=k) rfl rfl underlying112 YF (by omega) λ_ L54=>?_;have R6:Run S w S12 (YH none 56 (dps [])++[]) w12:=R5;refine sO L54 rfl<|XC (g:=none) (xs:=[]) (ys:=(out.take k)) (H:=[]) rfl rfl underlying112 YF Zeh Zb4 rfl (Gw.nil 12) R6 (Zgq.allF ((hf_o.up<|l2.trans<|l3.trans l4).pre (k:=k) (by omega)) R6<|hK.els.take k) (hK.els.take k) (by omega) (by omega) λg1 cap1 _ hG1 R7=>Sa rfl<|SW<|Sm rfl<|Sm rfl<|Sm rfl<|So rfl<|Yk i i rfl rfl underlying112 YF (by omega) (by omega) (by omega)<|So rfl<|ZQ (vs:=(l.getD i dEl).1) rfl Zfn YF (R7.row<|r2.up<|l3.trans l4) (Zcp hk_l.els (by omega)) (XJ hk_l.els (by omega))<|So rfl<|Zbc ((l.getD i dEl).2) rfl underlying112 YF Zb4 (XJ hk_l.els (by omega)) (by decide) (by decide) R7 λb3 _ R8=>So rfl<|XC (g:=g1) (xs:=([]++(out.take k))) (ys:=[(l.getD i dEl)]) (H:=[(b3,56,(dps [(l.getD i dEl)]++[]))]++[]) rfl rfl underlying112 YF Zeh Zb4 rfl hG1 (YQ [(b3,56,(dps [(l.getD i dEl)]++[]))] (H2:=YH g1 56 (dps ([]++(out.take k)))) (H:=[]) R8) (Zgq.all (R8.has<|List.Mem.head _)<|Els.one (XJ hk_l.els (by omega))<|el_ones hk_l.els (by omega)) (Els.one (XJ hk_l.els (by omega))<|el_ones hk_l.els (by omega)) (by omega) (by omega) λg2 cap2 w15 hG2 R9 _ L63=>?_;have R10:Run S w S12 ((b3,56,(dps [(l.getD i dEl)]++[]))::(YH g2 56 (dps (([]++(out.take k))++[(l.getD i dEl)]))++[])) w15:=YQ (YH g2 56<|dps (([]++(out.take k))++[(l.getD i dEl)])) (H2:=[(b3,56,(dps [(l.getD i dEl)]++[]))]) (H:=[]) R9;refine sa L63 rfl<|SX<|Sm rfl<|Sm rfl<|Sm rfl<|So rfl<|Zhw (i:=k) rfl rfl underlying112 YF (by omega)<|So rfl<|XC (g:=g2) (xs:=(([]++(out.take k))++[(l.getD i dEl)])) (ys:=(out.drop k)) (H:=[(b3,56,(dps [(l.getD i dEl)]++[]))]++[]) rfl rfl underlying112 YF Zeh Zb4 rfl hG2 (YQ [(b3,56,(dps [(l.getD i dEl)]++[]))] (H2:=YH g2 56 (dps (([]++(out.take k))++[(l.getD i dEl)]))) (H:=[]) R10) (Zgq.postF (k:=k) (hf_o.up<|l2.trans<|l3.trans l4) R10 hK.els (by omega)) (hK.els.drop k) (by omega) (by omega) λg3 cap3 w16 hG3 R11 _ L69=>?_;have R12:Run S w S12 ((b3,56,(dps [(l.getD i dEl)]++[]))::(YH g3 56 (dps ((([]++(out.take k))++[(l.getD i dEl)])++(out.drop k)))++[])) w16:=YQ (YH g3 56<|dps ((([]++(out.take k))++[(l.getD i dEl)])++(out.drop k))) (H2:=[(b3,56,(dps [(l.getD i dEl)]++[]))]) (H:=[]) R11;refine sa L69 rfl<|SY<|Sm rfl<|So rfl<|Zy rfl rfl Xd<|Sa rfl λ_ L73=>sn ?_;obtain⟨S13,l5,hF1,R13⟩:=Run.freezeF (xs:=((([]++(out.take k))++[(l.getD i dEl)])++(out.drop k))) [(b3,56,(dps [(l.getD i dEl)]++[]))] (H:=[]) R12 hG3 (by simp only[List.length_append,List.length_take,List.length_drop,List.length_nil,List.length_cons];omega);exact⟨len_l-(i+1),(by omega),S13,(i+1),(gp g3),(((0+(k))+1)+(len_o-k)),cap3,((([]++(out.take k))++[(l.getD i dEl)])++(out.drop k)),(l1.trans<|l2.trans<|l3.trans<|l4.trans l5),(((L73.ri 4 (((i+1):Nat):Int) rfl).a L73).kp [4,3,2,0] rfl),(Run.init [] R13),(by omega),hF1,(by first|exact(hK.up<|l2.trans<|l3.trans<|l4.trans l5)|exact((((hK.up<|l2.trans<|l3.trans<|l4.trans l5).take _).append (Ks.one (hk_l.up<|l1.trans<|l2.trans<|l3.trans<|l4.trans l5) (by omega))).append ((hK.up<|l2.trans<|l3.trans<|l4.trans l5).drop _))),(by first|exact hA|exact put_asc hA (hlt (by first|assumption|exact Bool.eq_false_iff.2 (by assumption))) (by omega) (by first|(intro hz;omega)|(intro _;assumption))),(by first|exact put_same hM (by omega) (hsm (by assumption))|exact put_mem hM (by omega)),(by omega),rfl⟩;refine sO L47 rfl<|cF t5 (ZF rfl rfl)<|SF rfl λ_ L75=>wp_skip<|Zc<|wA<|sm L75 rfl λ_ L76=>?_;by_cases t7:(QS (Yp ((out.getD k dEl).2.a)<|(l.getD i dEl).2.a) (Yp ((out.getD k dEl).2.b)<|(l.getD i dEl).2.b) (Yp ((out.getD k dEl).2.c)<|(l.getD i dEl).2.c)<|Yp ((out.getD k dEl).2.d)<|(l.getD i dEl).2.d)=(0:Int);exact sO L76 rfl<|cT t7 (ZP rfl rfl)<|Sa rfl<|SX<|Sm rfl<|So rfl<|Zy rfl rfl Xd<|Sa rfl λ_ L81=>Ya<|Zx<|Zc<|⟨len_o-(k+1),(by omega),S12,(k+1),true,(l2.trans<|l3.trans l4),(((L81.ri 5 (((k+1):Nat):Int) rfl).a L81).kp [6,5,12,11,10,9,4,3,2,0] rfl),R5,(by omega),(by first|(intro h;cases h;done)|exact λ_=>put_lt (hlt (by first|assumption|exact Bool.eq_false_iff.2 (by assumption))) (by assumption) (by assumption)),(by first|(intro h;cases h;done)|exact λ_=>put_eq (k:=k) (by omega) (by assumption)),rfl⟩;exact sO L76 rfl<|cF t7 (ZP rfl rfl)<|Sa rfl<|SX<|Sm rfl<|So rfl<|Zy rfl rfl Xd<|Sa rfl λ_ L87=>Ya<|Zx<|Zc<|⟨len_o-(k+1),(by omega),S12,(k+1),false,(l2.trans<|l3.trans l4),(((L87.ri 5 (((k+1):Nat):Int) rfl).a L87).kp [6,5,12,11,10,9,4,3,2,0] rfl),R5,(by omega),(by first|(intro h;cases h;done)|exact λ_=>put_lt (hlt (by first|assumption|exact Bool.eq_false_iff.2 (by assumption))) (by assumption) (by assumption)),(by first|(intro h;cases h;done)|exact λ_=>put_eq (k:=k) (by omega) (by assumption)),rfl⟩;refine sO L16 rfl<|cF t2 (Zs rfl rfl)<|Sm rfl<|Sf rfl<|Sf rfl<|So rfl<|Ze rfl rfl<|SF rfl λ_ L93=>wp_exit<|Zo<|Zo<|Yl<|Zc<|wp_seq<|wA<|sm L93 rfl λ_ L94=>sn ?_;by_cases t8:sme=true;exact Zl L94 rfl (decide_eq_true t8)<|wp_exit<|Zo<|Yl<|Zc<|Za<|sm L94 rfl<|So rfl<|Zy rfl rfl Xd<|Sa rfl λ_ L97=>sn<|⟨len_l-(i+1),(by omega),S2,(i+1),p_o,len_o,cap_o,out,(l1.trans l2),(((L97.ri 4 (((i+1):Nat):Int) rfl).a L97).kp [4,3,2,0] rfl),R2,(by omega),(hf_o.up l2),(by first|exact(hK.up l2)|exact((((hK.up l2).take _).append (Ks.one (hk_l.up<|l1.trans l2) (by omega))).append ((hK.up l2).drop _))),(by first|exact hA|exact put_asc hA (hlt (by first|assumption|exact Bool.eq_false_iff.2 (by assumption))) (by omega) (by first|(intro hz;omega)|(intro _;assumption))),(by first|exact put_same hM (by omega) (hsm (by assumption))|exact put_mem hM (by omega)),(by omega),rfl⟩;refine Zh L94 rfl (decide_eq_false t8)<|wp_skip<|Zc<|wA<|sa L94 rfl<|SW<|Sm rfl<|Sm rfl<|Sm rfl<|So rfl<|Qo (i:=k) rfl rfl underlying112 YF (by omega) λ_ L103=>?_;have R14:Run S w S2 (YH none 56 (dps [])++[]) w2:=R2;refine sO L103 rfl<|XC (g:=none) (xs:=[]) (ys:=(out.take k)) (H:=[]) rfl rfl underlying112 YF Zeh Zb4 rfl (Gw.nil 12) R14 (Zgq.allF ((hf_o.up l2).pre (k:=k) (by omega)) R14<|hK.els.take k) (hK.els.take k) (by omega) (by omega) λg4 cap4 _ hG4 R15=>Sa rfl<|SW<|Sm rfl<|Sm rfl<|Sm rfl λ_ L108=>?_;obtain⟨b4,rest_3,rfl,r3⟩:=(hf_l.up<|l1.trans l2).row (by omega);refine sO L108 rfl<|Yk i i rfl rfl underlying112 YF (by omega) (by omega) (by omega)<|So rfl<|ZQ (vs:=(l.getD i dEl).1) rfl Zfn YF (R15.row r3) (Zcp hk_l.els (by omega)) (XJ hk_l.els (by omega))<|So rfl<|Zbc ((l.getD i dEl).2) rfl underlying112 YF Zb4 (XJ hk_l.els (by omega)) (by decide) (by decide) R15 λb5 _ R16=>So rfl<|XC (g:=g4) (xs:=([]++(out.take k))) (ys:=[(l.getD i dEl)]) (H:=[(b5,56,(dps [(l.getD i dEl)]++[]))]++[]) rfl rfl underlying112 YF Zeh Zb4 rfl hG4 (YQ [(b5,56,(dps [(l.getD i dEl)]++[]))] (H2:=YH g4 56 (dps ([]++(out.take k)))) (H:=[]) R16) (Zgq.all (R16.has<|List.Mem.head _)<|Els.one (XJ hk_l.els (by omega))<|el_ones hk_l.els (by omega)) (Els.one (XJ hk_l.els (by omega))<|el_ones hk_l.els (by omega)) (by omega) (by omega) λg5 cap5 w19 hG5 R17 _ L112=>?_;have R18:Run S w S2 ((b5,56,(dps [(l.getD i dEl)]++[]))::(YH g5 56 (dps (([]++(out.take k))++[(l.getD i dEl)]))++[])) w19:=YQ (YH g5 56<|dps (([]++(out.take k))++[(l.getD i dEl)])) (H2:=[(b5,56,(dps [(l.getD i dEl)]++[]))]) (H:=[]) R17;refine sa L112 rfl<|SX<|Sm rfl<|Sm rfl<|Sm rfl<|So rfl<|Zhw (i:=k) rfl rfl underlying112 YF (by omega)<|So rfl<|XC (g:=g5) (xs:=(([]++(out.take k))++[(l.getD i dEl)])) (ys:=(out.drop k)) (H:=[(b5,56,(dps [(l.getD i dEl)]++[]))]++[]) rfl rfl underlying112 YF Zeh Zb4 rfl hG5 (YQ [(b5,56,(dps [(l.getD i dEl)]++[]))] (H2:=YH g5 56 (dps (([]++(out.take k))++[(l.getD i dEl)]))) (H:=[]) R18) (Zgq.postF (k:=k) (hf_o.up l2) R18 hK.els (by omega)) (hK.els.drop k) (by omega) (by omega) λg6 cap6 w20 hG6 R19 _ L118=>?_;have R20:Run S w S2 ((b5,56,(dps [(l.getD i dEl)]++[]))::(YH g6 56 (dps ((([]++(out.take k))++[(l.getD i dEl)])++(out.drop k)))++[])) w20:=YQ (YH g6 56<|dps ((([]++(out.take k))++[(l.getD i dEl)])++(out.drop k))) (H2:=[(b5,56,(dps [(l.getD i dEl)]++[]))]) (H:=[]) R19;refine sa L118 rfl<|SY<|Sm rfl<|So rfl<|Zy rfl rfl Xd<|Sa rfl λ_ L122=>sn ?_;obtain⟨S14,l6,hF2,R21⟩:=Run.freezeF (xs:=((([]++(out.take k))++[(l.getD i dEl)])++(out.drop k))) [(b5,56,(dps [(l.getD i dEl)]++[]))] (H:=[]) R20 hG6 (by simp only[List.length_append,List.length_take,List.length_drop,List.length_nil,List.length_cons];omega);exact⟨len_l-(i+1),(by omega),S14,(i+1),(gp g6),(((0+(k))+1)+(len_o-k)),cap6,((([]++(out.take k))++[(l.getD i dEl)])++(out.drop k)),(l1.trans<|l2.trans l6),(((L122.ri 4 (((i+1):Nat):Int) rfl).a L122).kp [4,3,2,0] rfl),(Run.init [] R21),(by omega),hF2,(by first|exact(hK.up<|l2.trans l6)|exact((((hK.up<|l2.trans l6).take _).append (Ks.one (hk_l.up<|l1.trans<|l2.trans l6) (by omega))).append ((hK.up<|l2.trans l6).drop _))),(by first|exact hA|exact put_asc hA (hlt (by first|assumption|exact Bool.eq_false_iff.2 (by assumption))) (by omega) (by first|(intro hz;omega)|(intro _;assumption))),(by first|exact put_same hM (by omega) (hsm (by assumption))|exact put_mem hM (by omega)),(by omega),rfl⟩;refine sO L8 rfl<|cF t1 (Zs rfl rfl)<|SF rfl λ_ L124=>wp_exit<|Zo<|Zo<|Yl<|Zc<|wA<|sm L124 rfl<|Sa rfl λ_ L126=>sn<|wp_ret<|rt (L126.kp [2] rfl) (.tmp rfl Res.nil) ?_;exact⟨_,_,rfl,R1.ext,⟨_,_,_,_,rfl,hf_o,hK,hA,λy=>(hM y).trans (by rw[List.take_of_length_le (by omega)])⟩⟩
section
structure T4 where
  a:ByteArray
  b:ByteArray
  c:ByteArray
  d:ByteArray
def dT:T4:=⟨⟨#[]⟩,⟨#[]⟩,⟨#[]⟩,⟨#[]⟩⟩
def T4.cells(t:T4):List Value:=[.string t.a,.string t.b,.string t.c,.string t.d]
def InC(S:Sh)(b off len:Nat)(ts:List T4):Prop:=∀w,ZV S w->∀i,i<len->∀j v,(ts.getD i dT).cells[j]? =some v->w.cell? ⟨b,off+(i*4+j),none⟩=some v
def InT(S:Sh)(p:Option Addr)(len:Nat)(ts:List T4):Prop:=0<len->∃b off,p=some ⟨b,off,none⟩/\InC S b off len ts
theorem InC.up{S S':Sh}{b off len:Nat}{ts:List T4}(h:InC S b off len ts)(l:S.le S'):InC S' b off len ts:=λw hw=>h w λc o hc=>hw c o<|l _ _ hc
section
variable{P:Program}{a:Act}{w:World}{n:Nat}{l:List (Nat × Value)}{K:Value->World->Prop}
variable{d:Option Tmp}{ty:TypeId}{pos:String}{af:Array Edge}{g0:Option (Nat × Bool)}
theorem run_loadFrom{b off:Nat}:∀(vs:List Value)(i:Nat)(acc:Array Value),(∀j v,vs[j]? =some v->w.cell? ⟨b,off+(i+j),none⟩=some v)->(loadCellsFrom ⟨b,off,none⟩ i vs.length acc).run P w= .ok (acc++vs.toArray) w:=by
 intro vs
 induction vs with
 |nil=>intro i acc _;simp[loadCellsFrom,Sem.run,pure]
 | cons v r ih=>
   intro i acc hj
   have hc:w.cell? ((⟨b,off,none⟩:Addr).add i)=some v:=by rw[Qk];exact hj 0 v rfl
   have hr:=ih (i+1) (acc.push v) (λj u hu=>by
     have:=hj (j+1) u (by simpa using hu)
     rwa [show i+(j+1)=i+1+j by omega] at this)
   show Sem.run P (Sem.bind (load<|(⟨b,off,none⟩:Addr).add i) _) w=_
   simp only[load,Sem.bind,Sem.run,hc]
   simpa using hr
theorem does_loadIn{t:TypeId}{x:Operand}{b off len i:Nat}{ts:List T4}{S:Sh}(hx:ev l x=some (.pointer (some ⟨b,off+i*4,none⟩)))(hA:Zgf P t=some true)(hZ:Yy P t=some 4)(hS:ZV S w)(hc:InC S b off len ts)(hi:i<len)(k:K (.agg ([.string (ts.getD i dT).a,.string (ts.getD i dT).b,.string (ts.getD i dT).c,.string (ts.getD i dT).d]:List Value).toArray) w)(a:Act)(hL:ZD a n l):YL P ⟨d,.load t x,ty,pos,af,g0⟩ a w K:=by
 have h2:(loadVar t ⟨b,off+i*4,none⟩).run P w= .ok (.agg ([.string (ts.getD i dT).a,.string (ts.getD i dT).b,.string (ts.getD i dT).c,.string (ts.getD i dT).d]:List Value).toArray) w:=by
  unfold loadVar;rw[Zf (Ze8 hA)];simp only[if_true];have h1:=run_loadFrom (P:=P) (w:=w) (b:=b) (off:=off+i*4) (ts.getD i dT).cells 0 #[] λj v hj=>by have:=hc w hS i hi j v hj;rwa [show off+(i*4+j)=off+i*4+(0+j) by omega] at this
  rw[Zf (Ym hZ),Zf (w':=w) (a:=(ts.getD i dT).cells.toArray) (by rw[show(#[]:Array Value)++(ts.getD i dT).cells.toArray=(ts.getD i dT).cells.toArray by simp] at h1;exact h1)];rfl
 exact Zv (by
   simp only[execOp,hL.ev hx,Instr.loadAt,Instr.sureAddr]
   rw[Zf (w':=w) (a:=(.agg ([.string (ts.getD i dT).a,.string (ts.getD i dT).b,.string (ts.getD i dT).c,.string (ts.getD i dT).d]:List Value).toArray:Value))]
   · rfl
   · exact h2) k
end
def gE(g:Option (Nat × List Value))(T:TypeId)(cs:List Value):QH:=match g with|none=>[]|some q=>[(1000,q.1,T,cs++q.2,false)]
theorem gE_own(g:Option (Nat × List Value))(T:TypeId)(cs:List Value):(gE g T cs).own=YH g T cs:=by cases g <;> rfl
theorem gE_nodup(g:Option (Nat × List Value))(T:TypeId)(cs:List Value):((gE g T cs).map (·.1)).Nodup:=by cases g <;> simp[gE]
theorem gE_ok(g:Option (Nat × List Value))(T:TypeId)(cs:List Value):∀x∈gE g T cs,1000<=x.1/\x.2.2.2.2=false:=by cases g <;> simp[gE]
theorem gE_mem(g:Option (Nat × List Value))(T:TypeId)(cs:List Value):∀q,g=some q->(1000,q.1,T,cs++q.2,false)∈gE g T cs:=by rintro q rfl;simp[gE]
theorem gE_run{S0 S:Sh}{w0 w:World}{H:Own}{g:Option (Nat × List Value)}{T:TypeId}{cs:List Value}(h:Run S0 w0 S (YH g T cs++H) w):Run S0 w0 S ((gE g T cs).own++H) w:=by rw[gE_own];exact h
theorem cel_snoc(xs:List El)(us:List Value)(q:P4):cel (xs++[(us,q)])=cel xs++us:=by rw[Zc1,cel_one]
theorem Gw.snocE{b len cap sz:Nat}{rest us:List Value}{xs:List El}(q:P4)(h:Gw (Option.some (b,rest)) len cap sz (cel xs++us)):Gw (Option.some (b,rest)) len cap sz (cel (xs++[(us,q)])):=by rw[cel_snoc];exact h
theorem Run.snocE{S0 S:Sh}{w0 w:World}{H1 H:Own}{b:Nat}{T:TypeId}{rest us:List Value}{xs:List El}(q:P4)(h:Run S0 w0 S ((b,T,cel xs++us++rest)::(H1++H)) w):Run S0 w0 S (H1++(YH (some (b,rest)) T (cel (xs++[(us,q)]))++H)) w:=by
 rw[cel_snoc];exact Zhp H1 h
theorem Zgq.one{w:World}{b sz:Nat}{T:TypeId}{us:List Value}(q:P4)(hw:Has w b T us)(hu:us.length=sz):Zgq w sz (some ⟨b,0,none⟩) 1 [(us,q)]:=
  ⟨rfl,λ_=>⟨b,0,T,us,rfl,hw,by rw[List.drop_zero,List.take_of_length_le (by omega),cel_one]⟩⟩
theorem Hs.snoc{S:Sh}{xs:List El}{us:List Value}{a b c d:Rat}(h:Hs S xs)(hf:Fs S us [a,b,c,d] 351808)(ok:¬(a.num=0/\b.num=0/\c.num=0)):Hs S (xs++[(us,⟨a,b,c,d⟩)]):=
  h.append λx hx=>by rw[List.mem_singleton.1 hx];exact⟨hf,ok⟩
theorem Ks.snoc{S:Sh}{xs:List El}{us:List Value}{a b c d:Rat}(h:Ks S xs)(hf:Gs S us [a,b,c,d] 351808)(ok:¬(a.num=0/\b.num=0/\c.num=0)):Ks S (xs++[(us,⟨a,b,c,d⟩)]):=
  h.append λx hx=>by rw[List.mem_singleton.1 hx];exact⟨hf,ok⟩
def pvP(t:T4):P4:=⟨pvA (bl t.a) (bl t.b) (bl t.c) (bl t.d),pvB (bl t.a) (bl t.b) (bl t.c) (bl t.d),pvC (bl t.a) (bl t.b) (bl t.c) (bl t.d),pvD (bl t.a) (bl t.b) (bl t.c) (bl t.d)⟩
theorem Hs.snocP{S:Sh}{xs:List El}{us:List Value}{t:T4}(h:Hs S xs)(he:Zbv (bl t.a) (bl t.b) (bl t.c) (bl t.d)=0)(hf:Fs S us [pvA (bl t.a) (bl t.b) (bl t.c) (bl t.d),pvB (bl t.a) (bl t.b) (bl t.c) (bl t.d),pvC (bl t.a) (bl t.b) (bl t.c) (bl t.d),pvD (bl t.a) (bl t.b) (bl t.c) (bl t.d)] 351808):Hs S (xs++[(us,pvP t)]):=h.snoc hf (pv_nz he)
theorem Ks.snocP{S:Sh}{xs:List El}{us:List Value}{t:T4}(h:Ks S xs)(he:Zbv (bl t.a) (bl t.b) (bl t.c) (bl t.d)=0)(hf:Gs S us [pvA (bl t.a) (bl t.b) (bl t.c) (bl t.d),pvB (bl t.a) (bl t.b) (bl t.c) (bl t.d),pvC (bl t.a) (bl t.b) (bl t.c) (bl t.d),pvD (bl t.a) (bl t.b) (bl t.c) (bl t.d)] 351808):Ks S (xs++[(us,pvP t)]):=h.snoc hf (pv_nz he)
theorem nums_snoc2{xs ys:List El}(h:XE xs=XE ys)(us vs:List Value)(q:P4):XE (xs++[(us,q)])=XE (ys++[(vs,q)]):=by rw[nums_app,nums_app,h];rfl
theorem nums_getD(xs:List El)(i:Nat):(XE xs).getD i dEl.2=(xs.getD i dEl).2:=by
 unfold XE;rw[List.getD_eq_getElem?_getD,List.getD_eq_getElem?_getD,List.getElem?_map];cases xs[i]? <;> rfl
theorem nums_at{xs ys:List El}(h:XE xs=XE ys)(i:Nat):(xs.getD i dEl).2=(ys.getD i dEl).2:=by rw[<-nums_getD,<-nums_getD,h]
theorem Ks.atH{S:Sh}{hs ks:List El}{i:Nat}(h:Ks S ks)(hn:XE hs=XE ks)(hi:i<ks.length):Gs S (ks.getD i dEl).1 [(hs.getD i dEl).2.a,(hs.getD i dEl).2.b,(hs.getD i dEl).2.c,(hs.getD i dEl).2.d] 351808:=by
 rw[nums_at hn i];exact h.at hi
theorem Hs.at6{S:Sh}{ds dz ys:List El}{m i:Nat}(h:Hs S (ds.take m))(hm:m<=ds.length)(hn:XE (ds.take m)=XE ys)(hyd:∀j,i<=j->dz.getD j dEl=ds.getD j dEl)(hi:i<m):Fs S (dz.getD i dEl).1 [(ys.getD i dEl).2.a,(ys.getD i dEl).2.b,(ys.getD i dEl).2.c,(ys.getD i dEl).2.d] 351808:=by
 have e:dz.getD i dEl=(ds.take m).getD i dEl:=by rw[hyd i (Nat.le_refl _),List.getD_eq_getElem?_getD,List.getD_eq_getElem?_getD,List.getElem?_take,if_pos hi]
 rw[e,<-nums_at hn i];exact h.at (by rw[List.length_take];omega)
theorem Hs.at8{S:Sh}{hs ks:List El}{i:Nat}(h:Hs S hs)(hn:XE hs=XE ks)(hi:i<hs.length):Fs S ((hs++[zEl]).getD i dEl).1 [(ks.getD i dEl).2.a,(ks.getD i dEl).2.b,(ks.getD i dEl).2.c,(ks.getD i dEl).2.d] 351808:=by
 have e:(hs++[zEl]).getD i dEl=hs.getD i dEl:=by rw[List.getD_eq_getElem?_getD,List.getD_eq_getElem?_getD,List.getElem?_append_left hi]
 rw[e,<-nums_at hn i];exact h.at hi
theorem in_last{hs:List El}{len:Nat}(hl:len=hs.length):((hs++[zEl]).getD len dEl).1=zPlane:=by
 subst hl;rw[List.getD_eq_getElem?_getD,List.getElem?_concat_length];rfl
theorem asc_nums{xs ys:List P4}(h1:xs.Pairwise λp q=>c4 p q<0)(h2:ys.Pairwise λp q=>c4 p q<0)(hm:∀x,x∈xs↔x∈ys):xs=ys:=
  asc_unique (lt:=λp q=>c4 p q<0) Zb6.irr (λ_ _ _=>Zb6.lt_trans) h1 h2 hm
theorem nums_len{xs ys:List El}(h:XE xs=XE ys):xs.length=ys.length:=by
 have:=congrArg List.length h;unfold XE at this;rwa [List.length_map,List.length_map] at this
theorem row_pre{S:Sh}{b:Nat}{T:TypeId}{xs ys:List El}{rest:List Value}(h:Row S b T (cel (xs++ys)++rest)):Row S b T (cel xs++(cel ys++rest)):=by
 rwa [Zc1,List.append_assoc] at h
theorem Els.zsnoc{xs:List El}(h:Els 20 xs):Els 20 (xs++[zEl]):=h.append λx hx=>by rw[List.mem_singleton.1 hx];exact Za9
end
theorem agg_63:Zgf prog 63=some true:=by kernel_rfl
theorem size_63:Yy prog 63=some 4:=by kernel_rfl
theorem zero_63:XT prog 63=some (.agg ([(.string (⟨#[]⟩:ByteArray)),(.string (⟨#[]⟩:ByteArray)),(.string (⟨#[]⟩:ByteArray)),(.string (⟨#[]⟩:ByteArray))]:List Value).toArray):=by kernel_rfl
theorem sok_52:Zdx prog 52=true:=by kernel_rfl
theorem ent_11:ZR prog 11=true:=by kernel_rfl
theorem ent_17:ZR prog 17=true:=by kernel_rfl
theorem ent_18:ZR prog 18=true:=by kernel_rfl
theorem ent_19:ZR prog 19=true:=by kernel_rfl
theorem ent_20:ZR prog 20=true:=by kernel_rfl
theorem ent_28:ZR prog 28=true:=by kernel_rfl
theorem ent_51:ZR prog 51=true:=by kernel_rfl
theorem ent_62:ZR prog 62=true:=by kernel_rfl
theorem ent_63:ZR prog 63=true:=by kernel_rfl
theorem ent_64:ZR prog 64=true:=by kernel_rfl
end Go.Cham
