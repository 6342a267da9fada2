/- YtojbflghmjfbpaaGreatDoorB4, a part of the proof that the claim's law answers true for every input, made small by program from the texts of this repo's wip/. No condition beyond those that the statements bear. -/
import Derived.Test.YtojbflghmjfbpaaGreatDoorB3
import Derived.Test.YtojbflghmjfbpaaGreatDoorProg
import Derived.KernelRfl
import Derived.Test.YtojbflghmjfbpaaGreatDoorRows
import Derived.ProofKit
import Derived.LaidMore
import Derived.OpenShut
import Derived.Lay
import Derived.Lib.SmallJoins
import Derived.Stop.Joined
namespace Go.Cham
open Go Go.RowKit Go.Proofs
noncomputable section
set_option maxRecDepth 100000
def rnn_r:List Rw:=[⟨[2,0],1,0⟩]
def rnn_T (cs:CL):Tb:=⟨rnn_r,cs,50000000000⟩
def rnn_G (cs:CL) (r:SV Ato):Prop:=Zfh XK (rnn_T cs) 112 [.agg [.bool true,.at_ (.g 0),.at_ (.h 0)]] r 100
def rnn_R (a0:Rat):Nat->AV:=rho (rnn_T []) (Xp [a0])
theorem rnn_p0:rnn_G [] (.agg [.bool false,.at_ (.g 0),.at_ (.h 0)]):=λ_ _ _=>by kernel_rfl
def rnp_r:List Rw:=[⟨[2,0],1,0⟩]
def rnp_T (cs:CL):Tb:=⟨rnp_r,cs,50000000000⟩
def rnp_G (cs:CL) (r:SV Ato):Prop:=Zfh XK (rnp_T cs) 112 [.agg [.bool false,.at_ (.g 0),.at_ (.h 0)]] r 100
def rnp_R (a0:Rat):Nat->AV:=rho (rnp_T []) (Xp [a0])
def rnp_k0:CL:=([19,0],1)::[]
theorem rnp_p1:rnp_G rnp_k0 (.agg [.bool false,.at_ (.g 0),.at_ (.h 0)]):=λ_ _ _=>by kernel_rfl
def rnp_k1:CL:=([19,0],0)::[]
theorem rnp_p0:rnp_G rnp_k1 (.agg [.bool true,.at_ (.g 0),.at_ (.h 0)]):=λ_ _ _=>by kernel_rfl
theorem cref03_Neg {S:Sh} {w:World} (hS:ZU S w) {c_a:List Value} {a0:Rat} {k_a:Nat} (h_a:Gs S c_a [a0] k_a) (hlim_a:k_a<=50000000000):Calls Tryz.prog 112 [(.agg (c_a:List Value).toArray)].toArray w (Ret S w (λS v=>∃(c0:List Value),v= .agg c0.toArray/\Gs S c0 [-a0] (k_a))):=by
 by_cases ha:a0<0;have leaf:=λcs hc {r} (h:rnn_G cs r)=>YP YJ (K:=k_a) (base:=Xp [a0]) (by kernel_rfl) (by omega) (by kernel_rfl) hS (λ_ _=>(.cons (.agg (gsgn (i:=0) (q:=a0) (k:=k_a) (by kernel_rfl) (le1 _) (h_a.wide (by omega)) (decide_eq_true ha))) .nil)) cs hc h;refine Calls.mono (leaf _ (show Csl (rnn_R a0) [] from .nil) rnn_p0) λe w' ⟨v,S',q1,q2,blk,q3⟩=>⟨v,S',q1,q2,?_⟩
 cases q3 with
 |agg h4=>exact⟨_,rfl,(gneg (i:=0) (q:=a0) (by kernel_rfl) ((decide_eq_false (by grind)).symm) h4).toR rfl ⟨by rw[(Zcz a0).1,Int.natAbs_neg];exact h_a.le.1,by rw[(Zcz a0).2];exact h_a.le.2⟩⟩
 ·have leaf:=λcs hc {r} (h:rnp_G cs r)=>YP YJ (K:=k_a) (base:=Xp [a0]) (by kernel_rfl) (by omega) (by kernel_rfl) hS (λ_ _=>(.cons (.agg (gsgn (i:=0) (q:=a0) (k:=k_a) (by kernel_rfl) (le1 _) (h_a.wide (by omega)) (decide_eq_false ha))) .nil)) cs hc h
  rcases Zf1 (rnp_R a0) (t:=19) (is:=[0]) (by decide) with h0|h0;rotate_left
  ·have H0:Csl (rnp_R a0) rnp_k0:=.cons h0 .nil
   have g0:=((by kernel_rfl:ZI (rnp_R a0) [19,0]=(if a0.num.natAbs=0 then(1:Int) else 0)).symm.trans h0)
   refine Calls.mono (leaf _ H0 rnp_p1) λe w' ⟨v,S',q1,q2,blk,q3⟩=>⟨v,S',q1,q2,?_⟩
   cases q3 with
   |agg h4=>exact⟨_,rfl,(gneg (i:=0) (q:=a0) (by kernel_rfl) ((decide_eq_false (by have hz:a0=0:=num0.1 (Int.natAbs_eq_zero.1 (Classical.byContradiction λz=>by rw[if_neg z] at g0;cases g0));grind)).symm) h4).toR rfl ⟨by rw[(Zcz a0).1,Int.natAbs_neg];exact h_a.le.1,by rw[(Zcz a0).2];exact h_a.le.2⟩⟩
  have H1:Csl (rnp_R a0) rnp_k1:=.cons h0 .nil
  have g0:=((by kernel_rfl:ZI (rnp_R a0) [19,0]=(if a0.num.natAbs=0 then(1:Int) else 0)).symm.trans h0)
  refine Calls.mono (leaf _ H1 rnp_p0) λe w' ⟨v,S',q1,q2,blk,q3⟩=>⟨v,S',q1,q2,?_⟩
  cases q3 with
  |agg h4=>exact⟨_,rfl,(gneg (i:=0) (q:=a0) (by kernel_rfl) ((decide_eq_true (by have hz:a0≠0:=(λz=>by rw[z] at g0;exact absurd g0 (by decide));grind)).symm) h4).toR rfl ⟨by rw[(Zcz a0).1,Int.natAbs_neg];exact h_a.le.1,by rw[(Zcz a0).2];exact h_a.le.2⟩⟩
def rsn_r:List Rw:=[⟨[2,0],1,0⟩]
def rsn_T (cs:CL):Tb:=⟨rsn_r,cs,50000000000⟩
def rsn_G (cs:CL) (r:SV Ato):Prop:=Zfh XK (rsn_T cs) 110 [.agg [.bool true,.at_ (.g 0),.at_ (.h 0)]] r 100
def rsn_R (a0:Rat):Nat->AV:=rho (rsn_T []) (Xp [a0])
def rsn_k0:CL:=([19,0],0)::[]
theorem rsn_p0:rsn_G rsn_k0 (.int .i64 (-1)):=λ_ _ _=>by kernel_rfl
def rsp_r:List Rw:=[⟨[2,0],1,0⟩]
def rsp_T (cs:CL):Tb:=⟨rsp_r,cs,50000000000⟩
def rsp_G (cs:CL) (r:SV Ato):Prop:=Zfh XK (rsp_T cs) 110 [.agg [.bool false,.at_ (.g 0),.at_ (.h 0)]] r 100
def rsp_R (a0:Rat):Nat->AV:=rho (rsp_T []) (Xp [a0])
def rsp_k0:CL:=([19,0],1)::[]
theorem rsp_p1:rsp_G rsp_k0 (.int .i64 0):=λ_ _ _=>by kernel_rfl
def rsp_k1:CL:=([19,0],0)::[]
theorem rsp_p0:rsp_G rsp_k1 (.int .i64 1):=λ_ _ _=>by kernel_rfl
theorem cref03_Sign {S:Sh} {w:World} (hS:ZU S w) {c_a:List Value} {a0:Rat} {k_a:Nat} (h_a:Gs S c_a [a0] k_a) (hlim_a:k_a<=50000000000):Calls Tryz.prog 110 [(.agg (c_a:List Value).toArray)].toArray w (Ret S w (λS v=>v= .int .i64 (Yy a0.num))):=by
 by_cases ha:a0<0;have leaf:=λcs hc {r} (h:rsn_G cs r)=>YP YJ (K:=k_a) (base:=Xp [a0]) (by kernel_rfl) (by omega) (by kernel_rfl) hS (λ_ _=>(.cons (.agg (gsgn (i:=0) (q:=a0) (k:=k_a) (by kernel_rfl) (le1 _) (h_a.wide (by omega)) (decide_eq_true ha))) .nil)) cs hc h;have h0:ZI (rsn_R a0) [19,0]=0:=(by kernel_rfl:ZI (rsn_R a0) [19,0]=(if a0.num.natAbs=0 then(1:Int) else 0)).trans (if_neg (by have:=Qk.2 ha;omega));have H0:Csl (rsn_R a0) rsn_k0:=.cons h0 .nil;have g0:=((by kernel_rfl:ZI (rsn_R a0) [19,0]=(if a0.num.natAbs=0 then(1:Int) else 0)).symm.trans h0);have hz:a0.num≠0:=λz=>by rw[z] at g0;exact absurd g0 (by decide)
 have hs:Yy a0.num= -1:=by have:=Qk.2 ha;unfold Yy;rw[if_neg hz,if_pos (by omega)]
 exact Calls.mono (leaf _ H0 rsn_p0) λe w' ⟨v,S',q1,q2,blk,q3⟩=>⟨v,S',q1,q2,by cases q3;rw[hs]⟩
 ·have leaf:=λcs hc {r} (h:rsp_G cs r)=>YP YJ (K:=k_a) (base:=Xp [a0]) (by kernel_rfl) (by omega) (by kernel_rfl) hS (λ_ _=>(.cons (.agg (gsgn (i:=0) (q:=a0) (k:=k_a) (by kernel_rfl) (le1 _) (h_a.wide (by omega)) (decide_eq_false ha))) .nil)) cs hc h
  rcases Zf1 (rsp_R a0) (t:=19) (is:=[0]) (by decide) with h0|h0;rotate_left
  ·have H0:Csl (rsp_R a0) rsp_k0:=.cons h0 .nil
   have g0:=((by kernel_rfl:ZI (rsp_R a0) [19,0]=(if a0.num.natAbs=0 then(1:Int) else 0)).symm.trans h0)
   have hz:a0.num=0:=Int.natAbs_eq_zero.1 (Classical.byContradiction λz=>by rw[if_neg z] at g0;cases g0)
   have hs:Yy a0.num=0:=by have:=num_nn ha;unfold Yy;rw[if_pos hz]
   exact Calls.mono (leaf _ H0 rsp_p1) λe w' ⟨v,S',q1,q2,blk,q3⟩=>⟨v,S',q1,q2,by cases q3;rw[hs]⟩
  have H1:Csl (rsp_R a0) rsp_k1:=.cons h0 .nil
  have g0:=((by kernel_rfl:ZI (rsp_R a0) [19,0]=(if a0.num.natAbs=0 then(1:Int) else 0)).symm.trans h0)
  have hz:a0.num≠0:=λz=>by rw[z] at g0;exact absurd g0 (by decide)
  have hs:Yy a0.num=1:=by have:=num_nn ha;unfold Yy;rw[if_neg hz,if_neg (by omega)]
  exact Calls.mono (leaf _ H1 rsp_p0) λe w' ⟨v,S',q1,q2,blk,q3⟩=>⟨v,S',q1,q2,by cases q3;rw[hs]⟩
def rann_r:List Rw:=[⟨[2,0],1,0⟩,⟨[2,1],1,0⟩,⟨[20,0],1,0⟩,⟨[16,1],1,0⟩,⟨[24,2,3],2,0⟩,⟨[20,1],1,0⟩,⟨[16,0],1,0⟩,⟨[24,5,6],2,0⟩,⟨[36,4,7],4,1⟩,⟨[24,6,3],2,0⟩,⟨[45,8],4,1⟩,⟨[78,10,9],6,1⟩]
def rann_T (cs:CL):Tb:=⟨rann_r,cs,50000000000⟩
def rann_G (cs:CL) (r:SV Ato):Prop:=Zfh XK (rann_T cs) 132 [.agg [.bool true,.at_ (.g 0),.at_ (.h 0)],.agg [.bool true,.at_ (.g 1),.at_ (.h 1)]] r 100
def rann_R (a0 a1:Rat):Nat->AV:=rho (rann_T []) (Xp [a0,a1])
theorem rann_p0:rann_G [] (.agg [.at_ (.s 11),.at_ (.g 11),.at_ (.h 11)]):=λ_ _ _=>by kernel_rfl
def ranp_r:List Rw:=[⟨[2,0],1,0⟩,⟨[2,1],1,0⟩,⟨[20,0],1,0⟩,⟨[16,1],1,0⟩,⟨[24,2,3],2,0⟩,⟨[20,1],1,0⟩,⟨[16,0],1,0⟩,⟨[24,5,6],2,0⟩,⟨[48,7,4],2,0⟩,⟨[24,6,3],2,0⟩,⟨[17,8],2,0⟩,⟨[78,10,9],4,0⟩,⟨[48,4,7],2,0⟩,⟨[45,12],2,0⟩,⟨[78,13,9],4,0⟩]
def ranp_T (cs:CL):Tb:=⟨ranp_r,cs,50000000000⟩
def ranp_G (cs:CL) (r:SV Ato):Prop:=Zfh XK (ranp_T cs) 132 [.agg [.bool true,.at_ (.g 0),.at_ (.h 0)],.agg [.bool false,.at_ (.g 1),.at_ (.h 1)]] r 100
def Zax (a0 a1:Rat):Nat->AV:=rho (ranp_T []) (Xp [a0,a1])
def ranp_k0:CL:=([18,4,7],1)::([6,4,7],0)::[]
theorem ranp_p2:ranp_G ranp_k0 (.agg [.at_ (.s 14),.at_ (.g 14),.at_ (.h 14)]):=λ_ _ _=>by kernel_rfl
def ranp_k1:CL:=([18,4,7],1)::([6,4,7],1)::[]
theorem ranp_p1:ranp_G ranp_k1 (.agg [.at_ (.s 14),.at_ (.g 14),.at_ (.h 14)]):=λ_ _ _=>by kernel_rfl
def ranp_k2:CL:=([18,7,4],1)::([6,4,7],(-1))::[]
theorem ranp_p0:ranp_G ranp_k2 (.agg [.at_ (.s 11),.at_ (.g 11),.at_ (.h 11)]):=λ_ _ _=>by kernel_rfl
def rapn_r:List Rw:=[⟨[2,0],1,0⟩,⟨[2,1],1,0⟩,⟨[20,0],1,0⟩,⟨[16,1],1,0⟩,⟨[24,2,3],2,0⟩,⟨[20,1],1,0⟩,⟨[16,0],1,0⟩,⟨[24,5,6],2,0⟩,⟨[48,7,4],2,0⟩,⟨[24,6,3],2,0⟩,⟨[45,8],2,0⟩,⟨[78,10,9],4,0⟩,⟨[48,4,7],2,0⟩,⟨[17,12],2,0⟩,⟨[78,13,9],4,0⟩]
def rapn_T (cs:CL):Tb:=⟨rapn_r,cs,50000000000⟩
def rapn_G (cs:CL) (r:SV Ato):Prop:=Zfh XK (rapn_T cs) 132 [.agg [.bool false,.at_ (.g 0),.at_ (.h 0)],.agg [.bool true,.at_ (.g 1),.at_ (.h 1)]] r 100
def Zaw (a0 a1:Rat):Nat->AV:=rho (rapn_T []) (Xp [a0,a1])
def rapn_k0:CL:=([18,4,7],1)::([6,4,7],0)::[]
theorem rapn_p2:rapn_G rapn_k0 (.agg [.at_ (.s 14),.at_ (.g 14),.at_ (.h 14)]):=λ_ _ _=>by kernel_rfl
def rapn_k1:CL:=([18,4,7],1)::([6,4,7],1)::[]
theorem rapn_p1:rapn_G rapn_k1 (.agg [.at_ (.s 14),.at_ (.g 14),.at_ (.h 14)]):=λ_ _ _=>by kernel_rfl
def rapn_k2:CL:=([18,7,4],1)::([6,4,7],(-1))::[]
theorem rapn_p0:rapn_G rapn_k2 (.agg [.at_ (.s 11),.at_ (.g 11),.at_ (.h 11)]):=λ_ _ _=>by kernel_rfl
def rapp_r:List Rw:=[⟨[2,0],1,0⟩,⟨[2,1],1,0⟩,⟨[20,0],1,0⟩,⟨[16,1],1,0⟩,⟨[24,2,3],2,0⟩,⟨[20,1],1,0⟩,⟨[16,0],1,0⟩,⟨[24,5,6],2,0⟩,⟨[36,4,7],4,1⟩,⟨[24,6,3],2,0⟩,⟨[17,8],4,1⟩,⟨[78,10,9],6,1⟩]
def rapp_T (cs:CL):Tb:=⟨rapp_r,cs,50000000000⟩
def rapp_G (cs:CL) (r:SV Ato):Prop:=Zfh XK (rapp_T cs) 132 [.agg [.bool false,.at_ (.g 0),.at_ (.h 0)],.agg [.bool false,.at_ (.g 1),.at_ (.h 1)]] r 100
def rapp_R (a0 a1:Rat):Nat->AV:=rho (rapp_T []) (Xp [a0,a1])
theorem rapp_p0:rapp_G [] (.agg [.at_ (.s 11),.at_ (.g 11),.at_ (.h 11)]):=λ_ _ _=>by kernel_rfl
theorem cref03_Add {S:Sh} {w:World} (hS:ZU S w) {c_a:List Value} {a0:Rat} {k_a:Nat} (h_a:Gs S c_a [a0] k_a) {c_b:List Value} {a1:Rat} {k_b:Nat} (h_b:Gs S c_b [a1] k_b) (hlim_a:k_a<=50000000000) (hlim_b:k_b<=50000000000):Calls Tryz.prog 132 [(.agg (c_a:List Value).toArray),(.agg (c_b:List Value).toArray)].toArray w (Ret S w (λS v=>∃(c0:List Value),v= .agg c0.toArray/\Gs S c0 [a0+a1] (k_a+k_b+1))):=by
 by_cases ha:a0<0
 ·by_cases hb:a1<0
  ·have leaf:=λcs hc {r} (h:rann_G cs r)=>YP YJ (K:=max k_a k_b) (base:=Xp [a0,a1]) (by kernel_rfl) (by omega) (by kernel_rfl) hS (λ_ _=>(.cons (.agg (gsgn (i:=0) (q:=a0) (k:=max k_a k_b) (by kernel_rfl) (le1 _) (h_a.wide (by omega)) (decide_eq_true ha))) (.cons (.agg (gsgn (i:=1) (q:=a1) (k:=max k_a k_b) (by kernel_rfl) (le1 _) (h_b.wide (by omega)) (decide_eq_true hb))) .nil))) cs hc h
   refine Calls.mono (leaf _ (show Csl (rann_R a0 a1) [] from .nil) rann_p0) λe w' ⟨v,S',q1,q2,blk,q3⟩=>⟨v,S',q1,q2,?_⟩
   cases q3 with
   |agg h4=>exact⟨_,rfl,(Zdt (i:=11) (q:=(mkRat (-(((((a0).num.natAbs*a1.den)+((a1).num.natAbs*a0.den)):Nat):Int)) (a0.den*a1.den))) (by kernel_rfl) h4).toR ((congrArg (λz=>mkRat z (a0.den*a1.den)) (by rw[numN ha a1.den,numN hb a0.den];omega)).trans Qa) (Zdq h_a.le.1 h_a.le.2 h_b.le.1 h_b.le.2)⟩
  ·have leaf:=λcs hc {r} (h:ranp_G cs r)=>YP YJ (K:=max k_a k_b) (base:=Xp [a0,a1]) (by kernel_rfl) (by omega) (by kernel_rfl) hS (λ_ _=>(.cons (.agg (gsgn (i:=0) (q:=a0) (k:=max k_a k_b) (by kernel_rfl) (le1 _) (h_a.wide (by omega)) (decide_eq_true ha))) (.cons (.agg (gsgn (i:=1) (q:=a1) (k:=max k_a k_b) (by kernel_rfl) (le1 _) (h_b.wide (by omega)) (decide_eq_false hb))) .nil))) cs hc h
   rcases XX (Zax a0 a1) (t:=6) (is:=[4,7]) (by decide) with h0|h0|h0;rotate_left
   ·have h1:ZI (Zax a0 a1) [18,4,7]=1:=(by kernel_rfl:ZI (Zax a0 a1) [18,4,7]=(if((a1).num.natAbs*a0.den)<=((a0).num.natAbs*a1.den) then(1:Int) else 0)).trans (if_pos (by have g:=((by kernel_rfl:ZI (Zax a0 a1) [6,4,7]=Zb4 ((a0).num.natAbs*a1.den) ((a1).num.natAbs*a0.den)).symm.trans h0);have s:=Qt ((a0).num.natAbs*a1.den) ((a1).num.natAbs*a0.den);omega))
    have H0:Csl (Zax a0 a1) ranp_k0:=.cons h1 (.cons h0 .nil)
    have g6:=((by kernel_rfl:ZI (Zax a0 a1) [6,4,7]=Zb4 ((a0).num.natAbs*a1.den) ((a1).num.natAbs*a0.den)).symm.trans h0);have s6:=Qt ((a0).num.natAbs*a1.den) ((a1).num.natAbs*a0.den)
    refine Calls.mono (leaf _ H0 ranp_p2) λe w' ⟨v,S',q1,q2,blk,q3⟩=>⟨v,S',q1,q2,?_⟩
    cases q3 with
    |agg h4=>exact⟨_,rfl,(Zdt (i:=14) (q:=(mkRat (-(((((a0).num.natAbs*a1.den) - ((a1).num.natAbs*a0.den)):Nat):Int)) (a0.den*a1.den))) (by kernel_rfl) h4).toR ((congrArg (λz=>mkRat z (a0.den*a1.den)) (by rw[numN ha a1.den,numP hb a0.den];omega)).trans Qa) (Zdq h_a.le.1 h_a.le.2 h_b.le.1 h_b.le.2)⟩
   ·have h2:ZI (Zax a0 a1) [18,4,7]=1:=(by kernel_rfl:ZI (Zax a0 a1) [18,4,7]=(if((a1).num.natAbs*a0.den)<=((a0).num.natAbs*a1.den) then(1:Int) else 0)).trans (if_pos (by have g:=((by kernel_rfl:ZI (Zax a0 a1) [6,4,7]=Zb4 ((a0).num.natAbs*a1.den) ((a1).num.natAbs*a0.den)).symm.trans h0);have s:=Qt ((a0).num.natAbs*a1.den) ((a1).num.natAbs*a0.den);omega))
    have H1:Csl (Zax a0 a1) ranp_k1:=.cons h2 (.cons h0 .nil)
    have g6:=((by kernel_rfl:ZI (Zax a0 a1) [6,4,7]=Zb4 ((a0).num.natAbs*a1.den) ((a1).num.natAbs*a0.den)).symm.trans h0);have s6:=Qt ((a0).num.natAbs*a1.den) ((a1).num.natAbs*a0.den)
    refine Calls.mono (leaf _ H1 ranp_p1) λe w' ⟨v,S',q1,q2,blk,q3⟩=>⟨v,S',q1,q2,?_⟩
    cases q3 with
    |agg h4=>exact⟨_,rfl,(Zdt (i:=14) (q:=(mkRat (-(((((a0).num.natAbs*a1.den) - ((a1).num.natAbs*a0.den)):Nat):Int)) (a0.den*a1.den))) (by kernel_rfl) h4).toR ((congrArg (λz=>mkRat z (a0.den*a1.den)) (by rw[numN ha a1.den,numP hb a0.den];omega)).trans Qa) (Zdq h_a.le.1 h_a.le.2 h_b.le.1 h_b.le.2)⟩
   have h3:ZI (Zax a0 a1) [18,7,4]=1:=(by kernel_rfl:ZI (Zax a0 a1) [18,7,4]=(if((a0).num.natAbs*a1.den)<=((a1).num.natAbs*a0.den) then(1:Int) else 0)).trans (if_pos (by have g:=((by kernel_rfl:ZI (Zax a0 a1) [6,4,7]=Zb4 ((a0).num.natAbs*a1.den) ((a1).num.natAbs*a0.den)).symm.trans h0);have s:=Qt ((a0).num.natAbs*a1.den) ((a1).num.natAbs*a0.den);omega))
   have H2:Csl (Zax a0 a1) ranp_k2:=.cons h3 (.cons h0 .nil)
   have g6:=((by kernel_rfl:ZI (Zax a0 a1) [6,4,7]=Zb4 ((a0).num.natAbs*a1.den) ((a1).num.natAbs*a0.den)).symm.trans h0);have s6:=Qt ((a0).num.natAbs*a1.den) ((a1).num.natAbs*a0.den)
   refine Calls.mono (leaf _ H2 ranp_p0) λe w' ⟨v,S',q1,q2,blk,q3⟩=>⟨v,S',q1,q2,?_⟩
   cases q3 with
   |agg h4=>exact⟨_,rfl,(Zdt (i:=11) (q:=(mkRat (((((a1).num.natAbs*a0.den) - ((a0).num.natAbs*a1.den)):Nat):Int) (a0.den*a1.den))) (by kernel_rfl) h4).toR ((congrArg (λz=>mkRat z (a0.den*a1.den)) (by rw[numN ha a1.den,numP hb a0.den];omega)).trans Qa) (Zdq h_a.le.1 h_a.le.2 h_b.le.1 h_b.le.2)⟩
 ·by_cases hb:a1<0
  ·have leaf:=λcs hc {r} (h:rapn_G cs r)=>YP YJ (K:=max k_a k_b) (base:=Xp [a0,a1]) (by kernel_rfl) (by omega) (by kernel_rfl) hS (λ_ _=>(.cons (.agg (gsgn (i:=0) (q:=a0) (k:=max k_a k_b) (by kernel_rfl) (le1 _) (h_a.wide (by omega)) (decide_eq_false ha))) (.cons (.agg (gsgn (i:=1) (q:=a1) (k:=max k_a k_b) (by kernel_rfl) (le1 _) (h_b.wide (by omega)) (decide_eq_true hb))) .nil))) cs hc h
   rcases XX (Zaw a0 a1) (t:=6) (is:=[4,7]) (by decide) with h0|h0|h0;rotate_left
   ·have h1:ZI (Zaw a0 a1) [18,4,7]=1:=(by kernel_rfl:ZI (Zaw a0 a1) [18,4,7]=(if((a1).num.natAbs*a0.den)<=((a0).num.natAbs*a1.den) then(1:Int) else 0)).trans (if_pos (by have g:=((by kernel_rfl:ZI (Zaw a0 a1) [6,4,7]=Zb4 ((a0).num.natAbs*a1.den) ((a1).num.natAbs*a0.den)).symm.trans h0);have s:=Qt ((a0).num.natAbs*a1.den) ((a1).num.natAbs*a0.den);omega))
    have H0:Csl (Zaw a0 a1) rapn_k0:=.cons h1 (.cons h0 .nil)
    have g6:=((by kernel_rfl:ZI (Zaw a0 a1) [6,4,7]=Zb4 ((a0).num.natAbs*a1.den) ((a1).num.natAbs*a0.den)).symm.trans h0);have s6:=Qt ((a0).num.natAbs*a1.den) ((a1).num.natAbs*a0.den)
    refine Calls.mono (leaf _ H0 rapn_p2) λe w' ⟨v,S',q1,q2,blk,q3⟩=>⟨v,S',q1,q2,?_⟩
    cases q3 with
    |agg h4=>exact⟨_,rfl,(Zdt (i:=14) (q:=(mkRat (((((a0).num.natAbs*a1.den) - ((a1).num.natAbs*a0.den)):Nat):Int) (a0.den*a1.den))) (by kernel_rfl) h4).toR ((congrArg (λz=>mkRat z (a0.den*a1.den)) (by rw[numP ha a1.den,numN hb a0.den];omega)).trans Qa) (Zdq h_a.le.1 h_a.le.2 h_b.le.1 h_b.le.2)⟩
   ·have h2:ZI (Zaw a0 a1) [18,4,7]=1:=(by kernel_rfl:ZI (Zaw a0 a1) [18,4,7]=(if((a1).num.natAbs*a0.den)<=((a0).num.natAbs*a1.den) then(1:Int) else 0)).trans (if_pos (by have g:=((by kernel_rfl:ZI (Zaw a0 a1) [6,4,7]=Zb4 ((a0).num.natAbs*a1.den) ((a1).num.natAbs*a0.den)).symm.trans h0);have s:=Qt ((a0).num.natAbs*a1.den) ((a1).num.natAbs*a0.den);omega))
    have H1:Csl (Zaw a0 a1) rapn_k1:=.cons h2 (.cons h0 .nil)
    have g6:=((by kernel_rfl:ZI (Zaw a0 a1) [6,4,7]=Zb4 ((a0).num.natAbs*a1.den) ((a1).num.natAbs*a0.den)).symm.trans h0);have s6:=Qt ((a0).num.natAbs*a1.den) ((a1).num.natAbs*a0.den)
    refine Calls.mono (leaf _ H1 rapn_p1) λe w' ⟨v,S',q1,q2,blk,q3⟩=>⟨v,S',q1,q2,?_⟩
    cases q3 with
    |agg h4=>exact⟨_,rfl,(Zdt (i:=14) (q:=(mkRat (((((a0).num.natAbs*a1.den) - ((a1).num.natAbs*a0.den)):Nat):Int) (a0.den*a1.den))) (by kernel_rfl) h4).toR ((congrArg (λz=>mkRat z (a0.den*a1.den)) (by rw[numP ha a1.den,numN hb a0.den];omega)).trans Qa) (Zdq h_a.le.1 h_a.le.2 h_b.le.1 h_b.le.2)⟩
   have h3:ZI (Zaw a0 a1) [18,7,4]=1:=(by kernel_rfl:ZI (Zaw a0 a1) [18,7,4]=(if((a0).num.natAbs*a1.den)<=((a1).num.natAbs*a0.den) then(1:Int) else 0)).trans (if_pos (by have g:=((by kernel_rfl:ZI (Zaw a0 a1) [6,4,7]=Zb4 ((a0).num.natAbs*a1.den) ((a1).num.natAbs*a0.den)).symm.trans h0);have s:=Qt ((a0).num.natAbs*a1.den) ((a1).num.natAbs*a0.den);omega))
   have H2:Csl (Zaw a0 a1) rapn_k2:=.cons h3 (.cons h0 .nil)
   have g6:=((by kernel_rfl:ZI (Zaw a0 a1) [6,4,7]=Zb4 ((a0).num.natAbs*a1.den) ((a1).num.natAbs*a0.den)).symm.trans h0);have s6:=Qt ((a0).num.natAbs*a1.den) ((a1).num.natAbs*a0.den)
   refine Calls.mono (leaf _ H2 rapn_p0) λe w' ⟨v,S',q1,q2,blk,q3⟩=>⟨v,S',q1,q2,?_⟩
   cases q3 with
   |agg h4=>exact⟨_,rfl,(Zdt (i:=11) (q:=(mkRat (-(((((a1).num.natAbs*a0.den) - ((a0).num.natAbs*a1.den)):Nat):Int)) (a0.den*a1.den))) (by kernel_rfl) h4).toR ((congrArg (λz=>mkRat z (a0.den*a1.den)) (by rw[numP ha a1.den,numN hb a0.den];omega)).trans Qa) (Zdq h_a.le.1 h_a.le.2 h_b.le.1 h_b.le.2)⟩
  ·have leaf:=λcs hc {r} (h:rapp_G cs r)=>YP YJ (K:=max k_a k_b) (base:=Xp [a0,a1]) (by kernel_rfl) (by omega) (by kernel_rfl) hS (λ_ _=>(.cons (.agg (gsgn (i:=0) (q:=a0) (k:=max k_a k_b) (by kernel_rfl) (le1 _) (h_a.wide (by omega)) (decide_eq_false ha))) (.cons (.agg (gsgn (i:=1) (q:=a1) (k:=max k_a k_b) (by kernel_rfl) (le1 _) (h_b.wide (by omega)) (decide_eq_false hb))) .nil))) cs hc h
   refine Calls.mono (leaf _ (show Csl (rapp_R a0 a1) [] from .nil) rapp_p0) λe w' ⟨v,S',q1,q2,blk,q3⟩=>⟨v,S',q1,q2,?_⟩
   cases q3 with
   |agg h4=>exact⟨_,rfl,(Zdt (i:=11) (q:=(mkRat (((((a0).num.natAbs*a1.den)+((a1).num.natAbs*a0.den)):Nat):Int) (a0.den*a1.den))) (by kernel_rfl) h4).toR ((congrArg (λz=>mkRat z (a0.den*a1.den)) (by rw[numP ha a1.den,numP hb a0.den];omega)).trans Qa) (Zdq h_a.le.1 h_a.le.2 h_b.le.1 h_b.le.2)⟩
def rmnn_r:List Rw:=[⟨[2,0],1,0⟩,⟨[2,1],1,0⟩,⟨[20,0],1,0⟩,⟨[20,1],1,0⟩,⟨[24,2,3],2,0⟩,⟨[16,0],1,0⟩,⟨[16,1],1,0⟩,⟨[24,5,6],2,0⟩,⟨[17,4],2,0⟩,⟨[78,8,7],4,0⟩]
def rmnn_T (cs:CL):Tb:=⟨rmnn_r,cs,50000000000⟩
def rmnn_G (cs:CL) (r:SV Ato):Prop:=Zfh XK (rmnn_T cs) 38 [.agg [.bool true,.at_ (.g 0),.at_ (.h 0)],.agg [.bool true,.at_ (.g 1),.at_ (.h 1)]] r 100
def rmnn_R (a0 a1:Rat):Nat->AV:=rho (rmnn_T []) (Xp [a0,a1])
theorem rmnn_p0:rmnn_G [] (.agg [.at_ (.s 9),.at_ (.g 9),.at_ (.h 9)]):=λ_ _ _=>by kernel_rfl
def rmnp_r:List Rw:=[⟨[2,0],1,0⟩,⟨[2,1],1,0⟩,⟨[20,0],1,0⟩,⟨[20,1],1,0⟩,⟨[24,2,3],2,0⟩,⟨[16,0],1,0⟩,⟨[16,1],1,0⟩,⟨[24,5,6],2,0⟩,⟨[45,4],2,0⟩,⟨[78,8,7],4,0⟩]
def rmnp_T (cs:CL):Tb:=⟨rmnp_r,cs,50000000000⟩
def rmnp_G (cs:CL) (r:SV Ato):Prop:=Zfh XK (rmnp_T cs) 38 [.agg [.bool true,.at_ (.g 0),.at_ (.h 0)],.agg [.bool false,.at_ (.g 1),.at_ (.h 1)]] r 100
def rmnp_R (a0 a1:Rat):Nat->AV:=rho (rmnp_T []) (Xp [a0,a1])
theorem rmnp_p0:rmnp_G [] (.agg [.at_ (.s 9),.at_ (.g 9),.at_ (.h 9)]):=λ_ _ _=>by kernel_rfl
def rmpn_r:List Rw:=[⟨[2,0],1,0⟩,⟨[2,1],1,0⟩,⟨[20,0],1,0⟩,⟨[20,1],1,0⟩,⟨[24,2,3],2,0⟩,⟨[16,0],1,0⟩,⟨[16,1],1,0⟩,⟨[24,5,6],2,0⟩,⟨[45,4],2,0⟩,⟨[78,8,7],4,0⟩]
def rmpn_T (cs:CL):Tb:=⟨rmpn_r,cs,50000000000⟩
def rmpn_G (cs:CL) (r:SV Ato):Prop:=Zfh XK (rmpn_T cs) 38 [.agg [.bool false,.at_ (.g 0),.at_ (.h 0)],.agg [.bool true,.at_ (.g 1),.at_ (.h 1)]] r 100
def rmpn_R (a0 a1:Rat):Nat->AV:=rho (rmpn_T []) (Xp [a0,a1])
theorem rmpn_p0:rmpn_G [] (.agg [.at_ (.s 9),.at_ (.g 9),.at_ (.h 9)]):=λ_ _ _=>by kernel_rfl
def rmpp_r:List Rw:=[⟨[2,0],1,0⟩,⟨[2,1],1,0⟩,⟨[20,0],1,0⟩,⟨[20,1],1,0⟩,⟨[24,2,3],2,0⟩,⟨[16,0],1,0⟩,⟨[16,1],1,0⟩,⟨[24,5,6],2,0⟩,⟨[17,4],2,0⟩,⟨[78,8,7],4,0⟩]
def rmpp_T (cs:CL):Tb:=⟨rmpp_r,cs,50000000000⟩
def rmpp_G (cs:CL) (r:SV Ato):Prop:=Zfh XK (rmpp_T cs) 38 [.agg [.bool false,.at_ (.g 0),.at_ (.h 0)],.agg [.bool false,.at_ (.g 1),.at_ (.h 1)]] r 100
def rmpp_R (a0 a1:Rat):Nat->AV:=rho (rmpp_T []) (Xp [a0,a1])
theorem rmpp_p0:rmpp_G [] (.agg [.at_ (.s 9),.at_ (.g 9),.at_ (.h 9)]):=λ_ _ _=>by kernel_rfl
theorem cref03_Mul {S:Sh} {w:World} (hS:ZU S w) {c_a:List Value} {a0:Rat} {k_a:Nat} (h_a:Gs S c_a [a0] k_a) {c_b:List Value} {a1:Rat} {k_b:Nat} (h_b:Gs S c_b [a1] k_b) (hlim_a:k_a<=50000000000) (hlim_b:k_b<=50000000000):Calls Tryz.prog 38 [(.agg (c_a:List Value).toArray),(.agg (c_b:List Value).toArray)].toArray w (Ret S w (λS v=>∃(c0:List Value),v= .agg c0.toArray/\Gs S c0 [a0*a1] (k_a+k_b))):=by
 by_cases ha:a0<0;by_cases hb:a1<0;have leaf:=λcs hc {r} (h:rmnn_G cs r)=>YP YJ (K:=max k_a k_b) (base:=Xp [a0,a1]) (by kernel_rfl) (by omega) (by kernel_rfl) hS (λ_ _=>(.cons (.agg (gsgn (i:=0) (q:=a0) (k:=max k_a k_b) (by kernel_rfl) (le1 _) (h_a.wide (by omega)) (decide_eq_true ha))) (.cons (.agg (gsgn (i:=1) (q:=a1) (k:=max k_a k_b) (by kernel_rfl) (le1 _) (h_b.wide (by omega)) (decide_eq_true hb))) .nil))) cs hc h;refine Calls.mono (leaf _ (show Csl (rmnn_R a0 a1) [] from .nil) rmnn_p0) λe w' ⟨v,S',q1,q2,blk,q3⟩=>⟨v,S',q1,q2,?_⟩
 cases q3 with
 |agg h4=>exact⟨_,rfl,(Zdt (i:=9) (q:=(mkRat ((((a0).num.natAbs*(a1).num.natAbs):Nat):Int) (a0.den*a1.den))) (by kernel_rfl) h4).toR ((congrArg (λz=>mkRat z (a0.den*a1.den)) (mulP (.inl ⟨(Qk.2 ha),(Qk.2 hb)⟩))).trans Zbk) (mul_bd h_a.le.1 h_a.le.2 h_b.le.1 h_b.le.2)⟩
 have leaf:=λcs hc {r} (h:rmnp_G cs r)=>YP YJ (K:=max k_a k_b) (base:=Xp [a0,a1]) (by kernel_rfl) (by omega) (by kernel_rfl) hS (λ_ _=>(.cons (.agg (gsgn (i:=0) (q:=a0) (k:=max k_a k_b) (by kernel_rfl) (le1 _) (h_a.wide (by omega)) (decide_eq_true ha))) (.cons (.agg (gsgn (i:=1) (q:=a1) (k:=max k_a k_b) (by kernel_rfl) (le1 _) (h_b.wide (by omega)) (decide_eq_false hb))) .nil))) cs hc h;refine Calls.mono (leaf _ (show Csl (rmnp_R a0 a1) [] from .nil) rmnp_p0) λe w' ⟨v,S',q1,q2,blk,q3⟩=>⟨v,S',q1,q2,?_⟩
 cases q3 with
 |agg h4=>exact⟨_,rfl,(Zdt (i:=9) (q:=(mkRat (-((((a0).num.natAbs*(a1).num.natAbs):Nat):Int)) (a0.den*a1.den))) (by kernel_rfl) h4).toR ((congrArg (λz=>mkRat z (a0.den*a1.den)) (mulN (.inl ⟨(Qk.2 ha),(num_nn hb)⟩))).trans Zbk) (mul_bd h_a.le.1 h_a.le.2 h_b.le.1 h_b.le.2)⟩
 by_cases hb:a1<0;have leaf:=λcs hc {r} (h:rmpn_G cs r)=>YP YJ (K:=max k_a k_b) (base:=Xp [a0,a1]) (by kernel_rfl) (by omega) (by kernel_rfl) hS (λ_ _=>(.cons (.agg (gsgn (i:=0) (q:=a0) (k:=max k_a k_b) (by kernel_rfl) (le1 _) (h_a.wide (by omega)) (decide_eq_false ha))) (.cons (.agg (gsgn (i:=1) (q:=a1) (k:=max k_a k_b) (by kernel_rfl) (le1 _) (h_b.wide (by omega)) (decide_eq_true hb))) .nil))) cs hc h;refine Calls.mono (leaf _ (show Csl (rmpn_R a0 a1) [] from .nil) rmpn_p0) λe w' ⟨v,S',q1,q2,blk,q3⟩=>⟨v,S',q1,q2,?_⟩
 cases q3 with
 |agg h4=>exact⟨_,rfl,(Zdt (i:=9) (q:=(mkRat (-((((a0).num.natAbs*(a1).num.natAbs):Nat):Int)) (a0.den*a1.den))) (by kernel_rfl) h4).toR ((congrArg (λz=>mkRat z (a0.den*a1.den)) (mulN (.inr ⟨(num_nn ha),(Qk.2 hb)⟩))).trans Zbk) (mul_bd h_a.le.1 h_a.le.2 h_b.le.1 h_b.le.2)⟩
 have leaf:=λcs hc {r} (h:rmpp_G cs r)=>YP YJ (K:=max k_a k_b) (base:=Xp [a0,a1]) (by kernel_rfl) (by omega) (by kernel_rfl) hS (λ_ _=>(.cons (.agg (gsgn (i:=0) (q:=a0) (k:=max k_a k_b) (by kernel_rfl) (le1 _) (h_a.wide (by omega)) (decide_eq_false ha))) (.cons (.agg (gsgn (i:=1) (q:=a1) (k:=max k_a k_b) (by kernel_rfl) (le1 _) (h_b.wide (by omega)) (decide_eq_false hb))) .nil))) cs hc h;refine Calls.mono (leaf _ (show Csl (rmpp_R a0 a1) [] from .nil) rmpp_p0) λe w' ⟨v,S',q1,q2,blk,q3⟩=>⟨v,S',q1,q2,?_⟩
 cases q3 with
 |agg h4=>exact⟨_,rfl,(Zdt (i:=9) (q:=(mkRat ((((a0).num.natAbs*(a1).num.natAbs):Nat):Int) (a0.den*a1.den))) (by kernel_rfl) h4).toR ((congrArg (λz=>mkRat z (a0.den*a1.den)) (mulP (.inr ⟨(num_nn ha),(num_nn hb)⟩))).trans Zbk) (mul_bd h_a.le.1 h_a.le.2 h_b.le.1 h_b.le.2)⟩
def rdnn_r:List Rw:=[⟨[2,0],1,0⟩,⟨[2,1],1,0⟩,⟨[20,0],1,0⟩,⟨[16,1],1,0⟩,⟨[24,2,3],2,0⟩,⟨[16,0],1,0⟩,⟨[20,1],1,0⟩,⟨[24,5,6],2,0⟩,⟨[17,4],2,0⟩,⟨[78,8,7],4,0⟩]
def rdnn_T (cs:CL):Tb:=⟨rdnn_r,cs,50000000000⟩
def rdnn_G (cs:CL) (r:SV Ato):Prop:=Zfh XK (rdnn_T cs) 111 [.agg [.bool true,.at_ (.g 0),.at_ (.h 0)],.agg [.bool true,.at_ (.g 1),.at_ (.h 1)]] r 100
def rdnn_R (a0 a1:Rat):Nat->AV:=rho (rdnn_T []) (Xp [a0,a1])
def rdnn_k0:CL:=([5,7],0)::[]
theorem rdnn_p0:rdnn_G rdnn_k0 (.agg [.at_ (.s 9),.at_ (.g 9),.at_ (.h 9)]):=λ_ _ _=>by kernel_rfl
def rdnp_r:List Rw:=[⟨[2,0],1,0⟩,⟨[2,1],1,0⟩,⟨[20,0],1,0⟩,⟨[16,1],1,0⟩,⟨[24,2,3],2,0⟩,⟨[16,0],1,0⟩,⟨[20,1],1,0⟩,⟨[24,5,6],2,0⟩,⟨[45,4],2,0⟩,⟨[78,8,7],4,0⟩]
def rdnp_T (cs:CL):Tb:=⟨rdnp_r,cs,50000000000⟩
def rdnp_G (cs:CL) (r:SV Ato):Prop:=Zfh XK (rdnp_T cs) 111 [.agg [.bool true,.at_ (.g 0),.at_ (.h 0)],.agg [.bool false,.at_ (.g 1),.at_ (.h 1)]] r 100
def rdnp_R (a0 a1:Rat):Nat->AV:=rho (rdnp_T []) (Xp [a0,a1])
def rdnp_k0:CL:=([5,7],0)::[]
theorem rdnp_p0:rdnp_G rdnp_k0 (.agg [.at_ (.s 9),.at_ (.g 9),.at_ (.h 9)]):=λ_ _ _=>by kernel_rfl
def rdpn_r:List Rw:=[⟨[2,0],1,0⟩,⟨[2,1],1,0⟩,⟨[20,0],1,0⟩,⟨[16,1],1,0⟩,⟨[24,2,3],2,0⟩,⟨[16,0],1,0⟩,⟨[20,1],1,0⟩,⟨[24,5,6],2,0⟩,⟨[45,4],2,0⟩,⟨[78,8,7],4,0⟩]
def rdpn_T (cs:CL):Tb:=⟨rdpn_r,cs,50000000000⟩
def rdpn_G (cs:CL) (r:SV Ato):Prop:=Zfh XK (rdpn_T cs) 111 [.agg [.bool false,.at_ (.g 0),.at_ (.h 0)],.agg [.bool true,.at_ (.g 1),.at_ (.h 1)]] r 100
def rdpn_R (a0 a1:Rat):Nat->AV:=rho (rdpn_T []) (Xp [a0,a1])
def rdpn_k0:CL:=([5,7],0)::[]
theorem rdpn_p0:rdpn_G rdpn_k0 (.agg [.at_ (.s 9),.at_ (.g 9),.at_ (.h 9)]):=λ_ _ _=>by kernel_rfl
def rdpp_r:List Rw:=[⟨[2,0],1,0⟩,⟨[2,1],1,0⟩,⟨[20,0],1,0⟩,⟨[16,1],1,0⟩,⟨[24,2,3],2,0⟩,⟨[16,0],1,0⟩,⟨[20,1],1,0⟩,⟨[24,5,6],2,0⟩,⟨[17,4],2,0⟩,⟨[78,8,7],4,0⟩]
def rdpp_T (cs:CL):Tb:=⟨rdpp_r,cs,50000000000⟩
def rdpp_G (cs:CL) (r:SV Ato):Prop:=Zfh XK (rdpp_T cs) 111 [.agg [.bool false,.at_ (.g 0),.at_ (.h 0)],.agg [.bool false,.at_ (.g 1),.at_ (.h 1)]] r 100
def rdpp_R (a0 a1:Rat):Nat->AV:=rho (rdpp_T []) (Xp [a0,a1])
def rdpp_k0:CL:=([5,7],0)::[]
theorem rdpp_p0:rdpp_G rdpp_k0 (.agg [.at_ (.s 9),.at_ (.g 9),.at_ (.h 9)]):=λ_ _ _=>by kernel_rfl
theorem cref03_Div {S:Sh} {w:World} (hS:ZU S w) {c_a:List Value} {a0:Rat} {k_a:Nat} (h_a:Gs S c_a [a0] k_a) {c_b:List Value} {a1:Rat} {k_b:Nat} (h_b:Gs S c_b [a1] k_b) (hlim_a:k_a<=50000000000) (hlim_b:k_b<=50000000000) (hb0:a1≠0):Calls Tryz.prog 111 [(.agg (c_a:List Value).toArray),(.agg (c_b:List Value).toArray)].toArray w (Ret S w (λS v=>∃(c0:List Value),v= .agg c0.toArray/\Gs S c0 [a0 / a1] (k_a+k_b))):=by
 by_cases ha:a0<0;by_cases hb:a1<0;have leaf:=λcs hc {r} (h:rdnn_G cs r)=>YP YJ (K:=max k_a k_b) (base:=Xp [a0,a1]) (by kernel_rfl) (by omega) (by kernel_rfl) hS (λ_ _=>(.cons (.agg (gsgn (i:=0) (q:=a0) (k:=max k_a k_b) (by kernel_rfl) (le1 _) (h_a.wide (by omega)) (decide_eq_true ha))) (.cons (.agg (gsgn (i:=1) (q:=a1) (k:=max k_a k_b) (by kernel_rfl) (le1 _) (h_b.wide (by omega)) (decide_eq_true hb))) .nil))) cs hc h;have h0:ZI (rdnn_R a0 a1) [5,7]=0:=(by kernel_rfl:ZI (rdnn_R a0 a1) [5,7]=(if(a0.den*(a1).num.natAbs)=0 then(1:Int) else 0)).trans (if_neg (Nat.mul_ne_zero a0.den_nz (λz=>hb0 (num0.1 (Int.natAbs_eq_zero.1 z)))));have H0:Csl (rdnn_R a0 a1) rdnn_k0:=.cons h0 .nil;refine Calls.mono (leaf _ H0 rdnn_p0) λe w' ⟨v,S',q1,q2,blk,q3⟩=>⟨v,S',q1,q2,?_⟩
 cases q3 with
 |agg h4=>exact⟨_,rfl,(Zdt (i:=9) (q:=(mkRat ((((a0).num.natAbs*a1.den):Nat):Int) (a0.den*(a1).num.natAbs))) (by kernel_rfl) h4).toR ((congrArg (λz=>mkRat z (a0.den*a1.num.natAbs)) (by rw[(show Yy a1.num= -1 by have:=Qk.2 hb;unfold Yy;rw[if_neg (by omega),if_pos (by omega)]),Int.mul_right_comm,numN ha a1.den];omega)).trans (Zbl (λz=>hb0 (num0.1 z)))) (div_bd h_a.le.1 h_a.le.2 h_b.le.1 h_b.le.2 (λz=>hb0 (num0.1 z)))⟩
 have leaf:=λcs hc {r} (h:rdnp_G cs r)=>YP YJ (K:=max k_a k_b) (base:=Xp [a0,a1]) (by kernel_rfl) (by omega) (by kernel_rfl) hS (λ_ _=>(.cons (.agg (gsgn (i:=0) (q:=a0) (k:=max k_a k_b) (by kernel_rfl) (le1 _) (h_a.wide (by omega)) (decide_eq_true ha))) (.cons (.agg (gsgn (i:=1) (q:=a1) (k:=max k_a k_b) (by kernel_rfl) (le1 _) (h_b.wide (by omega)) (decide_eq_false hb))) .nil))) cs hc h;have h0:ZI (rdnp_R a0 a1) [5,7]=0:=(by kernel_rfl:ZI (rdnp_R a0 a1) [5,7]=(if(a0.den*(a1).num.natAbs)=0 then(1:Int) else 0)).trans (if_neg (Nat.mul_ne_zero a0.den_nz (λz=>hb0 (num0.1 (Int.natAbs_eq_zero.1 z)))));have H0:Csl (rdnp_R a0 a1) rdnp_k0:=.cons h0 .nil;refine Calls.mono (leaf _ H0 rdnp_p0) λe w' ⟨v,S',q1,q2,blk,q3⟩=>⟨v,S',q1,q2,?_⟩
 cases q3 with
 |agg h4=>exact⟨_,rfl,(Zdt (i:=9) (q:=(mkRat (-((((a0).num.natAbs*a1.den):Nat):Int)) (a0.den*(a1).num.natAbs))) (by kernel_rfl) h4).toR ((congrArg (λz=>mkRat z (a0.den*a1.num.natAbs)) (by rw[(show Yy a1.num=1 by have:=num_nn hb;have:a1.num≠0:=λz=>hb0 (num0.1 z);unfold Yy;rw[if_neg (by omega),if_neg (by omega)]),Int.mul_right_comm,numN ha a1.den];omega)).trans (Zbl (λz=>hb0 (num0.1 z)))) (div_bd h_a.le.1 h_a.le.2 h_b.le.1 h_b.le.2 (λz=>hb0 (num0.1 z)))⟩
 by_cases hb:a1<0;have leaf:=λcs hc {r} (h:rdpn_G cs r)=>YP YJ (K:=max k_a k_b) (base:=Xp [a0,a1]) (by kernel_rfl) (by omega) (by kernel_rfl) hS (λ_ _=>(.cons (.agg (gsgn (i:=0) (q:=a0) (k:=max k_a k_b) (by kernel_rfl) (le1 _) (h_a.wide (by omega)) (decide_eq_false ha))) (.cons (.agg (gsgn (i:=1) (q:=a1) (k:=max k_a k_b) (by kernel_rfl) (le1 _) (h_b.wide (by omega)) (decide_eq_true hb))) .nil))) cs hc h;have h0:ZI (rdpn_R a0 a1) [5,7]=0:=(by kernel_rfl:ZI (rdpn_R a0 a1) [5,7]=(if(a0.den*(a1).num.natAbs)=0 then(1:Int) else 0)).trans (if_neg (Nat.mul_ne_zero a0.den_nz (λz=>hb0 (num0.1 (Int.natAbs_eq_zero.1 z)))));have H0:Csl (rdpn_R a0 a1) rdpn_k0:=.cons h0 .nil;refine Calls.mono (leaf _ H0 rdpn_p0) λe w' ⟨v,S',q1,q2,blk,q3⟩=>⟨v,S',q1,q2,?_⟩
 cases q3 with
 |agg h4=>exact⟨_,rfl,(Zdt (i:=9) (q:=(mkRat (-((((a0).num.natAbs*a1.den):Nat):Int)) (a0.den*(a1).num.natAbs))) (by kernel_rfl) h4).toR ((congrArg (λz=>mkRat z (a0.den*a1.num.natAbs)) (by rw[(show Yy a1.num= -1 by have:=Qk.2 hb;unfold Yy;rw[if_neg (by omega),if_pos (by omega)]),Int.mul_right_comm,numP ha a1.den];omega)).trans (Zbl (λz=>hb0 (num0.1 z)))) (div_bd h_a.le.1 h_a.le.2 h_b.le.1 h_b.le.2 (λz=>hb0 (num0.1 z)))⟩
 have leaf:=λcs hc {r} (h:rdpp_G cs r)=>YP YJ (K:=max k_a k_b) (base:=Xp [a0,a1]) (by kernel_rfl) (by omega) (by kernel_rfl) hS (λ_ _=>(.cons (.agg (gsgn (i:=0) (q:=a0) (k:=max k_a k_b) (by kernel_rfl) (le1 _) (h_a.wide (by omega)) (decide_eq_false ha))) (.cons (.agg (gsgn (i:=1) (q:=a1) (k:=max k_a k_b) (by kernel_rfl) (le1 _) (h_b.wide (by omega)) (decide_eq_false hb))) .nil))) cs hc h;have h0:ZI (rdpp_R a0 a1) [5,7]=0:=(by kernel_rfl:ZI (rdpp_R a0 a1) [5,7]=(if(a0.den*(a1).num.natAbs)=0 then(1:Int) else 0)).trans (if_neg (Nat.mul_ne_zero a0.den_nz (λz=>hb0 (num0.1 (Int.natAbs_eq_zero.1 z)))));have H0:Csl (rdpp_R a0 a1) rdpp_k0:=.cons h0 .nil;refine Calls.mono (leaf _ H0 rdpp_p0) λe w' ⟨v,S',q1,q2,blk,q3⟩=>⟨v,S',q1,q2,?_⟩
 cases q3 with
 |agg h4=>exact⟨_,rfl,(Zdt (i:=9) (q:=(mkRat ((((a0).num.natAbs*a1.den):Nat):Int) (a0.den*(a1).num.natAbs))) (by kernel_rfl) h4).toR ((congrArg (λz=>mkRat z (a0.den*a1.num.natAbs)) (by rw[(show Yy a1.num=1 by have:=num_nn hb;have:a1.num≠0:=λz=>hb0 (num0.1 z);unfold Yy;rw[if_neg (by omega),if_neg (by omega)]),Int.mul_right_comm,numP ha a1.den];omega)).trans (Zbl (λz=>hb0 (num0.1 z)))) (div_bd h_a.le.1 h_a.le.2 h_b.le.1 h_b.le.2 (λz=>hb0 (num0.1 z)))⟩
end
end Go.Cham
namespace Go.Cham
open Go Go.RowKit Go.Proofs
noncomputable section
set_option maxRecDepth 100000
def asR1 (T:Tb) (l:List (SV Ato)):Option Nat:=match l with
 |[.at_ (.s i),.at_ (.g j),.at_ (.h k)]=>match Nat.beq i j && Nat.beq i k && isK T i 2 with
  |true=>some i
  |false=>none
 | [.bool false,.at_ (.g i),.at_ (.g j)]=>match isK T i 0 with
  | true=>match Zbw T i with
   | some ri=>match Zbw T j with
    | some rj=>match eqN rj.key [4,1] with
     | true=>match Zc5 T [17,i] with
      | some (z,_)=>match Zc5 T [14,z] with
       |some (q,rq)=>match leB ri rq with
        |true=>some q
        |false=>none
       |none=>none
      |none=>none
     |false=>none
    |none=>none
   |none=>none
  |false=>none
 |_=>none
def asR (T:Tb) (x:SV Ato):Option Nat:=match x with
 | .agg l=>asR1 T l
 |_=>none
def pR1 (T:Tb) (op lim e:Nat):PrF Ato:=λl=>match l with
 | [x]=>match asR T x with
  |some i=>match opK T op lim e [i] with
   |some k=>some (.agg (cR k))
   |none=>none
  |none=>none
 |_=>none
def pR2 (T:Tb) (op lim e:Nat):PrF Ato:=λl=>match l with
 | [x,y]=>match asR T x with
  | some i=>match asR T y with
   |some j=>match opK T op lim e [i,j] with
    |some k=>some (.agg (cR k))
    |none=>none
   |none=>none
  |none=>none
 |_=>none
def pRDiv (T:Tb):PrF Ato:=λl=>match l with
 | [x,y]=>match asR T x with
  | some i=>match asR T y with
   | some j=>match Zff [1,j] T.conds with
    | some s=>match s with
     | .ofNat 0=>none
     |_=>match opK T 34 50000000000 0 [i,j] with
      |some k=>some (.agg (cR k))
      |none=>none
    |none=>none
   |none=>none
  |none=>none
 |_=>none
def pRSign (T:Tb):PrF Ato:=λl=>match l with
 | [x]=>match asR T x with
  | some i=>match limB T 50000000000 [i] with
   |true=>match Zff [1,i] T.conds with
    |some s=>some (.int .i64 s)
    |none=>none
   |false=>none
  |none=>none
 |_=>none
section
variable {T : Tb} {K : Nat} {base ρ : Nat → AV} {bd : Nat → Nat} {G : Gh} {T0 : Tb} {hT : Cs T0 ρ}
theorem Gs.whole {S:Sh} {c1 c2:Value} {n k k':Nat} (h1:Gn S c1 n k) (h2:Gn S c2 1 k'):Gs S [.bool false,c1,c2] [(((n:Nat):Int):Rat)] k:=by
 have e1:((n:Int):Rat).num=(n:Int):=rfl;have e2:((n:Int):Rat).den=1:=rfl;refine Gs.mk ?_ (Gn.toE h1 ?_) (h2.toR e2.symm ?_);rw[neg_dec,e1];exact(decide_eq_false (by omega)).symm;rw[e1];rfl;rw[e2];exact Nat.one_le_two_pow
theorem Zgu (hg:Yz T K base ρ bd) {x:SV Ato} {i:Nat} {v:Value} (h:asR T x=some i) (hd:Den (DS hT bd) G x v):∃cs,v= .agg cs.toArray/\Gs G.S cs [(ρ i).rat] (bd i):=by
 unfold asR at h;split at h
 cases hd with
 | agg hl =>
  refine⟨_,rfl,?_⟩
  unfold asR1 at h
  split at h
  ·rename_i a b c
   split at h
   ·rename_i hk
    simp only[Bool.and_eq_true] at hk
    obtain⟨⟨h1,h2⟩,h3⟩:=hk
    rw[YM] at h1 h2
    subst h1 h2
    cases h
    exact Zdt (AV.k2 (Zbm hg h3)) hl
   ·cases h
  ·rename_i a b
   split at h
   ·rename_i hk
    split at h
    ·rename_i ri hri
     split at h
     ·rename_i rj hrj
      split at h
      ·rename_i hj
       split at h
       ·rename_i z rz hz
        split at h
        ·rename_i q rq hq
         split at h
         ·rename_i hle
          cases h
          have hb:ρ b= .n 1:=by
           rw[(hg.row _ _ hrj).1,eqN_eq hj];rfl
          obtain⟨c1,c2,rfl,g1,g2⟩:=gcells (AV.k0 (Zbm hg hk)) hb hl
          obtain⟨f1,f2⟩:=Xw hz
          obtain⟨e1,e2⟩:=Xw hq
          have hzv:ρ z= .z (((ρ a).nat:Nat):Int):=by rw[(hg.row _ _ f1).1,f2];rfl
          have hqv:ρ i= .q ((((ρ a).nat:Nat):Int):Rat):=by
           rw[(hg.row _ _ e1).1,e2]
           show Zfy 14 [ρ z]=_
           rw[hzv];rfl
          have hle':=leB_ok hle K
          rw[hqv,(hg.row _ _ e1).2]
          rw[(hg.row _ _ hri).2] at g1
          exact(Gs.whole g1 g2).wide hle'
         ·cases h
        ·cases h
       ·cases h
      ·cases h
     ·cases h
    ·cases h
   ·cases h
  ·cases h
 cases h
theorem pR1_ok (hg:Yz T K base ρ bd) {f op lim e:Nat} (he:ZT Tryz.prog f=true) (ho:10<op) {F:Rat->Rat} (hs:∀x,Zfy op [x]= .q (F x.rat))
  (h:∀{S:Sh} {w:World} {c:List Value} {a:Rat} {k:Nat},ZU S w->Gs S c [a] k->k<=lim->Calls Tryz.prog f [.agg c.toArray].toArray w (Ret S w λS v=>∃c0:List Value,v= .agg c0.toArray/\Gs S c0 [F a] (k+e))):YZ Tryz.prog (DS hT bd) f (pR1 T op lim e):=by
 intro args r hr G w vs hd hS;unfold pR1 at hr;split at hr;split at hr;rename_i i hi;split at hr;rename_i k hk;cases hr;obtain⟨k1,k2,k3⟩:=opK_ok hg hk ho
 cases hd with
 |cons x1 x2=>
  cases x2
  obtain⟨c,rfl,h5⟩:=Zgu hg hi x1
  have b1:=k2 (bd i) (by simp)
  simp only[List.map_cons,List.map_nil] at k1 k3
  rw[hs] at k1
  refine .ret he (h hS h5 b1) λS' v ⟨c0,e,hv⟩=>?_
  rw[e]
  exact .agg (cR_mk k1 (sum1 k3) hv)
 cases hr;cases hr;cases hr
theorem pR2_ok (hg:Yz T K base ρ bd) {f op lim e:Nat} (he:ZT Tryz.prog f=true) (ho:10<op) {F:Rat->Rat->Rat} (hs:∀x y,Zfy op [x,y]= .q (F x.rat y.rat))
  (h:∀{S:Sh} {w:World} {c d:List Value} {a b:Rat} {k l:Nat},ZU S w->Gs S c [a] k->Gs S d [b] l->k<=lim->l<=lim->Calls Tryz.prog f [.agg c.toArray,.agg d.toArray].toArray w (Ret S w λS v=>∃c0:List Value,v= .agg c0.toArray/\Gs S c0 [F a b] (k+l+e))):YZ Tryz.prog (DS hT bd) f (pR2 T op lim e):=by
 intro args r hr G w vs hd hS;unfold pR2 at hr;split at hr;split at hr;rename_i i hi;split at hr;rename_i j hj;split at hr;rename_i k hk;cases hr;obtain⟨k1,k2,k3⟩:=opK_ok hg hk ho
 cases hd with
 | cons x1 x2=>
  cases x2 with
  |cons x3 x4=>
   cases x4
   obtain⟨c,rfl,h5⟩:=Zgu hg hi x1
   obtain⟨d,rfl,h6⟩:=Zgu hg hj x3
   have b1:=k2 (bd i) (by simp)
   have b2:=k2 (bd j) (by simp)
   simp only[List.map_cons,List.map_nil] at k1 k3
   rw[hs] at k1
   refine .ret he (h hS h5 h6 b1 b2) λS' v ⟨c0,e,hv⟩=>?_
   rw[e]
   exact .agg (cR_mk k1 (sum2 k3) hv)
 cases hr;cases hr;cases hr;cases hr
theorem pRDiv_ok (hg:Yz T K base ρ bd):YZ Tryz.prog (DS hT bd) 111 (pRDiv T):=by
 intro args r hr G w vs hd hS;unfold pRDiv at hr;split at hr;split at hr;rename_i i hi;split at hr;rename_i j hj;split at hr;rename_i s hs;split at hr;cases hr;rename_i hn0;split at hr;rename_i k hk;cases hr;obtain⟨k1,k2,k3⟩:=opK_ok hg hk (by decide);have hs':Yy (ρ j).rat.num=s:=hg.cond _ (QI hs);have hb0:(ρ j).rat≠0:=λz=>hn0 (by rw[<-hs',z];rfl)
 cases hd with
 | cons x1 x2=>
  cases x2 with
  |cons x3 x4=>
   cases x4
   obtain⟨c,rfl,h5⟩:=Zgu hg hi x1
   obtain⟨d,rfl,h6⟩:=Zgu hg hj x3
   have b1:=k2 (bd i) (by simp)
   have b2:=k2 (bd j) (by simp)
   simp only[List.map_cons,List.map_nil] at k1 k3
   have b3:=sum2 k3
   refine .ret (by kernel_rfl) (cref03_Div hS h5 h6 b1 b2 hb0) λS' v ⟨c0,e,hv⟩=>?_
   rw[e]
   exact .agg (cR_mk k1 (by omega) hv)
 cases hr;cases hr;cases hr;cases hr;cases hr
theorem pRSign_ok (hg:Yz T K base ρ bd):YZ Tryz.prog (DS hT bd) 110 (pRSign T):=by
 intro args r hr G w vs hd hS;unfold pRSign at hr;split at hr;split at hr;rename_i i hi;split at hr;rename_i hl;split at hr;rename_i s hs;cases hr;have hs':Yy (ρ i).rat.num=s:=hg.cond _ (QI hs);have b1:=Qx hg hl (bd i) (by simp)
 cases hd with
 |cons x1 x2=>
  cases x2
  obtain⟨c,rfl,h5⟩:=Zgu hg hi x1
  refine .ret (by kernel_rfl) (cref03_Sign hS h5 b1) λS' v hv=>?_
  rw[hv,hs']
  exact .int _ _
 cases hr;cases hr;cases hr;cases hr
end
def symTabS (T:Tb):List (Nat × PrF Ato):=[
 (110,pRSign T),(111,pRDiv T),
 (112,pR1 T 18 50000000000 0),
 (132,pR2 T 22 50000000000 1),
 (38,pR2 T 30 50000000000 0)]++XK T
theorem symTabS_OK:TabOK symTabS:=by
 intro T K base ρ bd T0 hT hg p hp;simp only[symTabS,List.cons_append,List.nil_append,List.mem_cons] at hp;rcases hp with rfl|rfl|rfl|rfl|rfl|hp;exact pRSign_ok hg;exact pRDiv_ok hg;exact pR1_ok hg (by kernel_rfl) (by decide) (λ_=>rfl) λhS h1 h2=>cref03_Neg hS h1 h2;exact pR2_ok hg (by kernel_rfl) (by decide) (λ_ _=>rfl) λhS h1 h2 h3 h4=>cref03_Add hS h1 h2 h3 h4;exact pR2_ok hg (by kernel_rfl) (by decide) (λ_ _=>rfl) λhS h1 h2 h3 h4=>cref03_Mul hS h1 h2 h3 h4;exact YJ hg p hp
end
end Go.Cham
namespace Go.Cham
open Go Go.RowKit Go.Proofs
noncomputable section
set_option maxRecDepth 100000
def fl_r:List Rw:=[⟨[1,0],1,0⟩,⟨[0,1],1,0⟩,⟨[12,0],1,0⟩,⟨[28,2,1],2,0⟩,⟨[4,1],0,64⟩,⟨[48,1,4],1,0⟩,⟨[32,2,3],1,0⟩,⟨[40,2,3],1,0⟩,⟨[45,6],1,0⟩,⟨[32,1,3],1,0⟩,⟨[40,1,3],1,0⟩,⟨[48,9,4],1,0⟩,⟨[17,6],1,0⟩]
def fl_T (cs:CL):Tb:=⟨fl_r,cs,549755000000⟩
def fl_G (cs:CL) (r:SV Ato):Prop:=Zfh symTabL (fl_T cs) 99 [.agg [.at_ (.s 0),.at_ (.a 0)],.agg [.at_ (.a 1)]] r 100
def Zfz (a0:Int) (a1:Nat):Nat->AV:=rho (fl_T []) (baseZN a0 a1)
def fl_k0:CL:=([16,1],1)::[]
theorem fl_p0:fl_G fl_k0 (.agg [.at_ (.s 0),.at_ (.a 0),.int .u64 0,.sl none 0 0]):=λ_ _ _=>by kernel_rfl
def fl_k1 (nh0:Nat):CL:=([16,1],.ofNat (.succ (.succ nh0)))::[]
def fl_k2 (nh0:Nat):CL:=([18,1,4],1)::([16,3],1)::(fl_k1 nh0)
theorem fl_p1 (nh0:Nat):fl_G (fl_k2 nh0) (.agg [.at_ (.s 0),.at_ (.a 0),.at_ (.a 5)]):=λ_ _ _=>by kernel_rfl
def fl_k3 (nh0:Nat) (nh1:Nat):CL:=([18,9,4],1)::([5,3],0)::([16,3],.ofNat (.succ (.succ nh1)))::(fl_k1 nh0)
def fl_k4 (nh0:Nat) (nh1:Nat):CL:=([3,0],0)::(fl_k3 nh0 nh1)
theorem fl_p4 (nh0:Nat) (nh1:Nat):fl_G (fl_k4 nh0 nh1) (.agg [.at_ (.s 12),.at_ (.a 12),.at_ (.a 11)]):=λ_ _ _=>by kernel_rfl
def fl_k5 (nh0:Nat) (nh1:Nat):CL:=([3,0],1)::(fl_k3 nh0 nh1)
theorem fl_p3 (nh0:Nat) (nh1:Nat):fl_G (fl_k5 nh0 nh1) (.agg [.at_ (.s 12),.at_ (.a 12),.at_ (.a 11)]):=λ_ _ _=>by kernel_rfl
def fl_k6 (nh0:Nat) (nh1:Nat):CL:=([3,0],(-1))::(fl_k3 nh0 nh1)
theorem fl_p2 (nh0:Nat) (nh1:Nat):fl_G (fl_k6 nh0 nh1) (.agg [.at_ (.s 8),.at_ (.a 8),.at_ (.a 11)]):=λ_ _ _=>by kernel_rfl
theorem Zch {S:Sh} {w:World} (hS:ZU S w) {c_z:List Value} {a0:Int} {k_z:Nat} (h_z:In S c_z a0 (k_z)) {c_d:List Value} {a1:Nat} {k_d:Nat} (h_d:Na S c_d a1 (k_d)) (hp:0<a1) (hlim:k_z+k_d<=549755000000):Calls Tryz.prog 99 [(.agg (c_z:List Value).toArray),(.agg (c_d:List Value).toArray)].toArray w (Ret S w (λS v=>∃(c0:List Value),v= .agg c0.toArray/\Fs S c0 [mkRat a0 a1] ((k_z+k_d)))):=by
 have leaf:=λcs hc {r} (h:fl_G cs r)=>YP symTabL_OK (K:=max k_z k_d) (base:=baseZN a0 a1) (by kernel_rfl) (by omega) (by kernel_rfl) hS (λ_ _=>.cons (.agg (cZ_mk1 (i:=0) (a:=a0) (k:=max k_z k_d) (by kernel_rfl) (le1 _) (h_z.wide (by omega)))) (.cons (.agg (cN_mk1 (i:=1) (a:=a1) (k:=max k_z k_d) (by kernel_rfl) (le1 _) (h_d.wide (by omega)))) .nil)) cs hc h;have hgp:=Nat.gcd_pos_of_pos_right a0.natAbs hp;have hdq:=Nat.div_pos (Nat.le_of_dvd hp (Nat.gcd_dvd_right a0.natAbs a1)) hgp;rcases waysB (Zfz a0 a1) (t:=16) (is:=[1]) (by decide) with h0|h0|⟨nh0,h0⟩;exact absurd h0 (λz=>by have g:=Qg.1 (Int.ofNat.inj ((by kernel_rfl:ZI (Zfz a0 a1) [16,1]=((Zs a1:Nat):Int)).symm.trans z));omega);have H0:Csl (Zfz a0 a1) fl_k0:=.cons h0 .nil;have g0:=((by kernel_rfl:ZI (Zfz a0 a1) [16,1]=((Zs a1:Nat):Int)).symm.trans h0);refine Calls.mono (leaf _ H0 fl_p0) λe w' ⟨v,S',q1,q2,blk,q3⟩=>⟨v,S',q1,q2,?_⟩
 cases q3 with
 |agg h4=>
  exact⟨_,rfl,(mixed_of (i:=0) (z:=a0) (by kernel_rfl) h4).to (by rw[show a1=1 by have:=@bitlen_one a1;omega,mkRat_one]) (show 1*max k_z k_d+0<=_ by omega)⟩
 have H1:Csl (Zfz a0 a1) (fl_k1 nh0):=.cons h0 .nil;rcases waysB (Zfz a0 a1) (t:=16) (is:=[3]) (by decide) with h1|h1|⟨nh1,h1⟩;exact absurd h1 (λz=>by have g:=Qg.1 (Int.ofNat.inj ((by kernel_rfl:ZI (Zfz a0 a1) [16,3]=((Zs (Nat.gcd (a0).natAbs a1):Nat):Int)).symm.trans z));omega);have h2:ZI (Zfz a0 a1) [18,1,4]=1:=(by kernel_rfl:ZI (Zfz a0 a1) [18,1,4]=(if 1<=a1 then(1:Int) else 0)).trans (if_pos (by first|omega|exact hdq));have H2:Csl (Zfz a0 a1) (fl_k2 nh0):=.cons h2 (.cons h1 H1);have g0:=((by kernel_rfl:ZI (Zfz a0 a1) [16,1]=((Zs a1:Nat):Int)).symm.trans h0);have g1:=((by kernel_rfl:ZI (Zfz a0 a1) [16,3]=((Zs (Nat.gcd (a0).natAbs a1):Nat):Int)).symm.trans h1);refine Calls.mono (leaf _ H2 (fl_p1 nh0)) λe w' ⟨v,S',q1,q2,blk,q3⟩=>⟨v,S',q1,q2,?_⟩
 cases q3 with
 |agg h4=>
  exact⟨_,rfl,parts_of (i:=0) (j:=5) (K:=0) (z:=a0) (n:=(a1 - 1)) (by kernel_rfl) (by kernel_rfl) h4 ((mkRat_num0 hp (by have:=@bitlen_gt1 (Nat.gcd a0.natAbs a1);omega)).1.symm) (by rw[(mkRat_num0 hp (by have:=@bitlen_gt1 (Nat.gcd a0.natAbs a1);omega)).2]) (Nat.le_trans (Xk hp h_z.le) (YK (by omega))) (Nat.le_trans (Xl hp h_d.1) (YK (by omega)))⟩
 have h3:ZI (Zfz a0 a1) [5,3]=0:=(by kernel_rfl:ZI (Zfz a0 a1) [5,3]=(if(Nat.gcd (a0).natAbs a1)=0 then(1:Int) else 0)).trans (if_neg (by omega));have h4:ZI (Zfz a0 a1) [18,9,4]=1:=(by kernel_rfl:ZI (Zfz a0 a1) [18,9,4]=(if 1<=(a1 / (Nat.gcd (a0).natAbs a1)) then(1:Int) else 0)).trans (if_pos (by first|omega|exact hdq));have H3:Csl (Zfz a0 a1) (fl_k3 nh0 nh1):=.cons h4 (.cons h3 (.cons h1 H1));rcases XX (Zfz a0 a1) (t:=3) (is:=[0]) (by decide) with h5|h5|h5;rotate_left
 have H4:Csl (Zfz a0 a1) (fl_k4 nh0 nh1):=.cons h5 H3;have g0:=((by kernel_rfl:ZI (Zfz a0 a1) [16,1]=((Zs a1:Nat):Int)).symm.trans h0);have g1:=((by kernel_rfl:ZI (Zfz a0 a1) [16,3]=((Zs (Nat.gcd (a0).natAbs a1):Nat):Int)).symm.trans h1);have g2:=((by kernel_rfl:ZI (Zfz a0 a1) [3,0]=Yy (a0)).symm.trans h5);refine Calls.mono (leaf _ H4 (fl_p4 nh0 nh1)) λe w' ⟨v,S',q1,q2,blk,q3⟩=>⟨v,S',q1,q2,?_⟩
 cases q3 with
 |agg h4=>
  exact⟨_,rfl,parts_of (i:=12) (j:=11) (K:=0) (z:=((((a0).natAbs / (Nat.gcd (a0).natAbs a1)):Nat):Int)) (n:=((a1 / (Nat.gcd (a0).natAbs a1)) - 1)) (by kernel_rfl) (by kernel_rfl) h4 (Zcc hp false (by have:=@Za2 a0;simp;omega)) (by rw[Zeo hp]) (Nat.le_trans (Xk hp h_z.le) (YK (by omega))) (Nat.le_trans (Xl hp h_d.1) (YK (by omega)))⟩
 have H5:Csl (Zfz a0 a1) (fl_k5 nh0 nh1):=.cons h5 H3;have g0:=((by kernel_rfl:ZI (Zfz a0 a1) [16,1]=((Zs a1:Nat):Int)).symm.trans h0);have g1:=((by kernel_rfl:ZI (Zfz a0 a1) [16,3]=((Zs (Nat.gcd (a0).natAbs a1):Nat):Int)).symm.trans h1);have g2:=((by kernel_rfl:ZI (Zfz a0 a1) [3,0]=Yy (a0)).symm.trans h5);refine Calls.mono (leaf _ H5 (fl_p3 nh0 nh1)) λe w' ⟨v,S',q1,q2,blk,q3⟩=>⟨v,S',q1,q2,?_⟩
 cases q3 with
 |agg h4=>
  exact⟨_,rfl,parts_of (i:=12) (j:=11) (K:=0) (z:=((((a0).natAbs / (Nat.gcd (a0).natAbs a1)):Nat):Int)) (n:=((a1 / (Nat.gcd (a0).natAbs a1)) - 1)) (by kernel_rfl) (by kernel_rfl) h4 (Zcc hp false (by have:=@Za2 a0;simp;omega)) (by rw[Zeo hp]) (Nat.le_trans (Xk hp h_z.le) (YK (by omega))) (Nat.le_trans (Xl hp h_d.1) (YK (by omega)))⟩
 have H6:Csl (Zfz a0 a1) (fl_k6 nh0 nh1):=.cons h5 H3;have g0:=((by kernel_rfl:ZI (Zfz a0 a1) [16,1]=((Zs a1:Nat):Int)).symm.trans h0);have g1:=((by kernel_rfl:ZI (Zfz a0 a1) [16,3]=((Zs (Nat.gcd (a0).natAbs a1):Nat):Int)).symm.trans h1);have g2:=((by kernel_rfl:ZI (Zfz a0 a1) [3,0]=Yy (a0)).symm.trans h5);refine Calls.mono (leaf _ H6 (fl_p2 nh0 nh1)) λe w' ⟨v,S',q1,q2,blk,q3⟩=>⟨v,S',q1,q2,?_⟩
 cases q3 with
 |agg h4=>
  exact⟨_,rfl,parts_of (i:=8) (j:=11) (K:=0) (z:=(-((((a0).natAbs / (Nat.gcd (a0).natAbs a1)):Nat):Int))) (n:=((a1 / (Nat.gcd (a0).natAbs a1)) - 1)) (by kernel_rfl) (by kernel_rfl) h4 (Zcc hp true (by have:=@Za2 a0;simp;omega)) (by rw[Zeo hp]) (Nat.le_trans (Xk hp h_z.le) (YK (by omega))) (Nat.le_trans (Xl hp h_d.1) (YK (by omega)))⟩
end
end Go.Cham
namespace Go.Cham
open Go Go.RowKit Go.Proofs
noncomputable section
def pLow (T:Tb):PrF Ato:=λl=>match getA T [1,0] l with
  | some is=>match is with
    | [i,j]=>match nzB T j with
      |true=>opV T 78 270000000000 0 [i,j]
      |false=>none
    |_=>none
  |none=>none
section
variable {T : Tb} {K : Nat} {base ρ : Nat → AV} {bd : Nat → Nat} {T0 : Tb} {hT : Cs T0 ρ}
set_option maxRecDepth 100000 in
theorem pLow_ok (hg:Yz T K base ρ bd):YZ Tryz.prog (DS hT bd) 99 (pLow T):=by
 intro args r hr G w vs hd hS;unfold pLow at hr;split at hr;rename_i is his;split at hr;rename_i i j;split at hr;rename_i hz;have hnz:=nzB_ok hg hz;obtain⟨x,k1,v,x',k2,v',e1,e2,rfl,a1,a2,a3,a4⟩:=(QR hg his hd).two;simp only[List.map_cons,List.map_nil,List.cons.injEq,and_true] at e1 e2;obtain⟨rfl,rfl⟩:=e1;obtain⟨rfl,rfl⟩:=e2;obtain⟨c,rfl,h5⟩:=a2.z a1;obtain⟨d,rfl,h6⟩:=a4.n a3;obtain⟨l,rfl,g1,g2,g3,g4⟩:=Zd3 hg hr (by decide);have b1:=g3 (bd i) (by simp);have b2:=g3 (bd j) (by simp);simp only[List.map_cons,List.map_nil] at g2 g4;have b3:=sum2 g4;refine .ret (by kernel_rfl) (Zch hS h5 h6 (Nat.pos_of_ne_zero hnz) (by omega)) λS' v hv=>Xa g1 ?_;obtain⟨c0,e,hv⟩:=hv;rw[g2];exact⟨c0,e,hv.wide (by omega)⟩;cases hr;cases hr;cases hr
end
def baseZ (zs:List Int):Nat->AV:=λi=>.z (zs.getD i 0)
theorem bits0 {q:Rat} (h:((Zs (q.den - 1):Nat):Int)=0):q.den=1:=den_one (Qg.1 (by omega))
theorem Xd (q:Rat):q.den - 1+1=q.den:=by have:=q.den_pos;omega
def Zdx (T:Tb):List (Nat × PrF Ato):=[
  (76,pNatOf T),(90,pConst T 9),(82,pMakeW T),(99,pLow T),
  (137,pO T [0,0] 36 500000000000 1),
  (80,pO T [0,0] 24 500000000000 0),
  (98,pT T [0] 16 500000000000),
  (81,pO T [1,1] 37 500000000000 0),
  (89,pO T [1,1] 29 500000000000 1),
  (146,pO T [1,1] 33 500000000000 1),
  (85,pO T [1] 25 500000000000 0),
  (113,pO T [1] 12 500000000000 0),
  (84,pT T [1] 3 500000000000),
  (124,pT T [1,1] 17 500000000000)]
set_option maxRecDepth 100000 in
theorem Za8:TabOK Zdx:=by
 intro T K base ρ bd T0 hT hg p hp;simp only[Zdx,List.mem_cons,List.not_mem_nil,or_false] at hp;rcases hp with rfl|rfl|rfl|rfl|rfl|rfl|rfl|rfl|rfl|rfl|rfl|rfl|rfl|rfl;exact pNatOf_ok hg;exact pWOf_ok hg;exact pMakeW_ok hg;exact pLow_ok hg;exact pNN hg (by kernel_rfl) (by decide) (λ_ _=>rfl) λhS h1 h2 h3 h4=>nat_Add hS h1 h2 (by omega) (by omega);exact pNN hg (by kernel_rfl) (by decide) (λ_ _=>rfl) λhS h1 h2 h3 h4=>nat_Mul hS h1 h2 (by omega) (by omega);refine pT_ok hg (by kernel_rfl) λS w vs xs ks hS hr hl=>?_;obtain⟨x,k1,v,rfl,rfl,rfl,h1,h2⟩:=hr.one;obtain⟨c,rfl,h5⟩:=h2.n h1;exact YF hS h5;exact pZZ hg (by kernel_rfl) (by decide) (λ_ _=>rfl) λhS h1 h2 h3 h4=>whole_Mul hS h1 h2 (by omega) (by omega);exact pZZ hg (by kernel_rfl) (by decide) (λ_ _=>rfl) λhS h1 h2 h3 h4=>whole_Add hS h1 h2 (by omega) (by omega);exact pZZ hg (by kernel_rfl) (by decide) (λ_ _=>rfl) λhS h1 h2 h3 h4=>whole_Sub hS h1 h2 (by omega) (by omega);exact pZz hg (by kernel_rfl) (by decide) (λ_=>rfl) λhS h1 h2=>whole_Neg hS h1;exact pZn hg (by kernel_rfl) (by decide) (λ_=>rfl) λhS h1 h2=>Zcq hS h1;refine pT_ok hg (by kernel_rfl) λS w vs xs ks hS hr hl=>?_;obtain⟨x,k1,v,rfl,rfl,rfl,h1,h2⟩:=hr.one;obtain⟨c,rfl,h5⟩:=h2.z h1;exact Zad hS h5;refine pT_ok hg (by kernel_rfl) λS w vs xs ks hS hr hl=>?_;obtain⟨x,k1,v,x',k2,v',rfl,rfl,rfl,h1,h2,h3,h4⟩:=hr.two;obtain⟨c,rfl,h5⟩:=h2.z h1;obtain⟨d,rfl,h6⟩:=h4.z h3;exact whole_Cmp hS h5 h6
end
end Go.Cham
namespace Go.Cham
open Go Go.RowKit Go.Proofs
noncomputable section
set_option maxRecDepth 100000
def frac_Add_r:List Rw:=[⟨[2,0],1,0⟩,⟨[2,1],1,0⟩,⟨[44,0],1,0⟩,⟨[44,1],1,0⟩,⟨[13,0],1,0⟩,⟨[13,1],1,0⟩,⟨[29,4,5],2,1⟩,⟨[4,1],0,64⟩,⟨[36,3,7],1,65⟩,⟨[17,8],1,65⟩,⟨[37,4,9],2,65⟩,⟨[36,2,7],1,65⟩,⟨[17,11],1,65⟩,⟨[37,5,12],2,65⟩,⟨[29,10,13],4,131⟩,⟨[24,11,8],2,130⟩,⟨[78,14,15],6,261⟩]
def Zbd (cs:CL):Tb:=⟨frac_Add_r,cs,50000000000⟩
def Zey (cs:CL) (r:SV Ato):Prop:=Zfh Zdx (Zbd cs) 25 [.agg (cQs [0]),.agg (cQs [1])] r 100
def QD (a0 a1:Rat):Nat->AV:=rho (Zbd []) (Xp [a0,a1])
def frac_Add_k0 (nh0:Nat):CL:=([16,2],.ofNat (.succ nh0))::[]
theorem frac_Add_p2 (nh0:Nat):Zey (frac_Add_k0 nh0) (.agg (cQs [16])):=λ_ _ _=>by kernel_rfl
def Zft:CL:=([16,2],0)::[]
def frac_Add_k2 (nh1:Nat):CL:=([16,3],.ofNat (.succ nh1))::Zft
theorem frac_Add_p1 (nh1:Nat):Zey (frac_Add_k2 nh1) (.agg (cQs [16])):=λ_ _ _=>by kernel_rfl
def frac_Add_k3:CL:=([16,3],0)::Zft
theorem frac_Add_p0:Zey frac_Add_k3 (.agg [.at_ (.s 6),.at_ (.a 6),.int .u64 0,.sl none 0 0]):=λ_ _ _=>by kernel_rfl
theorem frac_Add_s {S:Sh} {w:World} (hS:ZU S w) {c_a:List Value} {a0:Rat} {k_a:Nat} (h_a:Fs S c_a [a0] (k_a)) {c_b:List Value} {a1:Rat} {k_b:Nat} (h_b:Fs S c_b [a1] (k_b)) (hlim:k_a<=50000000000) (hlim2:k_b<=50000000000):Calls Tryz.prog 25 [(.agg (c_a:List Value).toArray),(.agg (c_b:List Value).toArray)].toArray w (Ret S w (λS v=>∃(c0:List Value),v= .agg c0.toArray/\Fs S c0 [a0+a1] (k_a+k_b+1))):=by
 have leaf:=λcs hc {r} (h:Zey cs r)=>YP Za8 (K:=max k_a k_b) (base:=(Xp [a0,a1])) (by kernel_rfl) (by omega) (by kernel_rfl) hS (λ_ _=>.cons (.agg (Za0 (is:=[0]) (qs:=[a0]) (k:=max k_a k_b) ⟨by kernel_rfl,le1 _,trivial⟩ (h_a.wide (by omega)))) (.cons (.agg (Za0 (is:=[1]) (qs:=[a1]) (k:=max k_a k_b) ⟨by kernel_rfl,le1 _,trivial⟩ (h_b.wide (by omega)))) .nil)) cs hc h;rcases waysE (QD a0 a1) (t:=16) (is:=[2]) (by decide) with h0|⟨nh0,h0⟩;rotate_left
 have H0:Csl (QD a0 a1) (frac_Add_k0 nh0):=.cons h0 .nil;refine Calls.mono (leaf _ H0 (frac_Add_p2 nh0)) λe w' ⟨v,S',q1,q2,blk,q3⟩=>⟨v,S',q1,q2,?_⟩
 cases q3 with
 |agg h4=>
  have h9:=(Zdo (bd:=Ze5 (Zbd []) (max k_a k_b)) (is:=[16]) (qs:=[(mkRat ((a0.num*((((a1.den - 1)+1):Nat):Int))+(a1.num*((((a0.den - 1)+1):Nat):Int))) (((a0.den - 1)+1)*((a1.den - 1)+1)))]) (k:=Ze5 (Zbd []) (max k_a k_b) 16) ⟨by kernel_rfl,Nat.le_refl _,trivial⟩ h4)
  exact⟨_,rfl,h9.toR (by rw[Xd,Xd,Qa]) (Zdq h_a.num_le h_a.den_le h_b.num_le h_b.den_le)⟩
 have H1:Csl (QD a0 a1) Zft:=.cons h0 .nil;rcases waysE (QD a0 a1) (t:=16) (is:=[3]) (by decide) with h1|⟨nh1,h1⟩;rotate_left
 have H2:Csl (QD a0 a1) (frac_Add_k2 nh1):=.cons h1 H1;refine Calls.mono (leaf _ H2 (frac_Add_p1 nh1)) λe w' ⟨v,S',q1,q2,blk,q3⟩=>⟨v,S',q1,q2,?_⟩
 cases q3 with
 |agg h4=>
  have h9:=(Zdo (bd:=Ze5 (Zbd []) (max k_a k_b)) (is:=[16]) (qs:=[(mkRat ((a0.num*((((a1.den - 1)+1):Nat):Int))+(a1.num*((((a0.den - 1)+1):Nat):Int))) (((a0.den - 1)+1)*((a1.den - 1)+1)))]) (k:=Ze5 (Zbd []) (max k_a k_b) 16) ⟨by kernel_rfl,Nat.le_refl _,trivial⟩ h4)
  exact⟨_,rfl,h9.toR (by rw[Xd,Xd,Qa]) (Zdq h_a.num_le h_a.den_le h_b.num_le h_b.den_le)⟩
 have H3:Csl (QD a0 a1) frac_Add_k3:=.cons h1 H1;have g0:=((by kernel_rfl:ZI (QD a0 a1) [16,2]=((Zs (a0.den - 1):Nat):Int)).symm.trans h0);have g1:=((by kernel_rfl:ZI (QD a0 a1) [16,3]=((Zs (a1.den - 1):Nat):Int)).symm.trans h1);refine Calls.mono (leaf _ H3 frac_Add_p0) λe w' ⟨v,S',q1,q2,blk,q3⟩=>⟨v,S',q1,q2,?_⟩
 cases q3 with
 |agg h4=>
  have h9:=mixed_of (i:=6) (z:=(a0.num+a1.num)) (by kernel_rfl) h4
  exact⟨_,rfl,h9.toR (by rw[cast_add' (bits0 g0) (bits0 g1)]) (Zdq h_a.num_le h_a.den_le h_b.num_le h_b.den_le)⟩
def frac_Sub_r:List Rw:=[⟨[2,0],1,0⟩,⟨[2,1],1,0⟩,⟨[44,0],1,0⟩,⟨[44,1],1,0⟩,⟨[13,0],1,0⟩,⟨[13,1],1,0⟩,⟨[33,4,5],2,1⟩,⟨[4,1],0,64⟩,⟨[36,3,7],1,65⟩,⟨[17,8],1,65⟩,⟨[37,4,9],2,65⟩,⟨[36,2,7],1,65⟩,⟨[17,11],1,65⟩,⟨[37,5,12],2,65⟩,⟨[33,10,13],4,131⟩,⟨[24,11,8],2,130⟩,⟨[78,14,15],6,261⟩]
def Zba (cs:CL):Tb:=⟨frac_Sub_r,cs,50000000000⟩
def Zeu (cs:CL) (r:SV Ato):Prop:=Zfh Zdx (Zba cs) 93 [.agg (cQs [0]),.agg (cQs [1])] r 100
def QB (a0 a1:Rat):Nat->AV:=rho (Zba []) (Xp [a0,a1])
def frac_Sub_k0 (nh0:Nat):CL:=([16,2],.ofNat (.succ nh0))::[]
theorem frac_Sub_p2 (nh0:Nat):Zeu (frac_Sub_k0 nh0) (.agg (cQs [16])):=λ_ _ _=>by kernel_rfl
def Zfq:CL:=([16,2],0)::[]
def frac_Sub_k2 (nh1:Nat):CL:=([16,3],.ofNat (.succ nh1))::Zfq
theorem frac_Sub_p1 (nh1:Nat):Zeu (frac_Sub_k2 nh1) (.agg (cQs [16])):=λ_ _ _=>by kernel_rfl
def frac_Sub_k3:CL:=([16,3],0)::Zfq
theorem frac_Sub_p0:Zeu frac_Sub_k3 (.agg [.at_ (.s 6),.at_ (.a 6),.int .u64 0,.sl none 0 0]):=λ_ _ _=>by kernel_rfl
theorem frac_Sub_s {S:Sh} {w:World} (hS:ZU S w) {c_a:List Value} {a0:Rat} {k_a:Nat} (h_a:Fs S c_a [a0] (k_a)) {c_b:List Value} {a1:Rat} {k_b:Nat} (h_b:Fs S c_b [a1] (k_b)) (hlim:k_a<=50000000000) (hlim2:k_b<=50000000000):Calls Tryz.prog 93 [(.agg (c_a:List Value).toArray),(.agg (c_b:List Value).toArray)].toArray w (Ret S w (λS v=>∃(c0:List Value),v= .agg c0.toArray/\Fs S c0 [a0 - a1] (k_a+k_b+1))):=by
 have leaf:=λcs hc {r} (h:Zeu cs r)=>YP Za8 (K:=max k_a k_b) (base:=(Xp [a0,a1])) (by kernel_rfl) (by omega) (by kernel_rfl) hS (λ_ _=>.cons (.agg (Za0 (is:=[0]) (qs:=[a0]) (k:=max k_a k_b) ⟨by kernel_rfl,le1 _,trivial⟩ (h_a.wide (by omega)))) (.cons (.agg (Za0 (is:=[1]) (qs:=[a1]) (k:=max k_a k_b) ⟨by kernel_rfl,le1 _,trivial⟩ (h_b.wide (by omega)))) .nil)) cs hc h;rcases waysE (QB a0 a1) (t:=16) (is:=[2]) (by decide) with h0|⟨nh0,h0⟩;rotate_left
 have H0:Csl (QB a0 a1) (frac_Sub_k0 nh0):=.cons h0 .nil;refine Calls.mono (leaf _ H0 (frac_Sub_p2 nh0)) λe w' ⟨v,S',q1,q2,blk,q3⟩=>⟨v,S',q1,q2,?_⟩
 cases q3 with
 |agg h4=>
  have h9:=(Zdo (bd:=Ze5 (Zba []) (max k_a k_b)) (is:=[16]) (qs:=[(mkRat ((a0.num*((((a1.den - 1)+1):Nat):Int)) - (a1.num*((((a0.den - 1)+1):Nat):Int))) (((a0.den - 1)+1)*((a1.den - 1)+1)))]) (k:=Ze5 (Zba []) (max k_a k_b) 16) ⟨by kernel_rfl,Nat.le_refl _,trivial⟩ h4)
  exact⟨_,rfl,h9.toR (by rw[Xd,Xd,mkRat_sub]) (sub_bd h_a.num_le h_a.den_le h_b.num_le h_b.den_le)⟩
 have H1:Csl (QB a0 a1) Zfq:=.cons h0 .nil;rcases waysE (QB a0 a1) (t:=16) (is:=[3]) (by decide) with h1|⟨nh1,h1⟩;rotate_left
 have H2:Csl (QB a0 a1) (frac_Sub_k2 nh1):=.cons h1 H1;refine Calls.mono (leaf _ H2 (frac_Sub_p1 nh1)) λe w' ⟨v,S',q1,q2,blk,q3⟩=>⟨v,S',q1,q2,?_⟩
 cases q3 with
 |agg h4=>
  have h9:=(Zdo (bd:=Ze5 (Zba []) (max k_a k_b)) (is:=[16]) (qs:=[(mkRat ((a0.num*((((a1.den - 1)+1):Nat):Int)) - (a1.num*((((a0.den - 1)+1):Nat):Int))) (((a0.den - 1)+1)*((a1.den - 1)+1)))]) (k:=Ze5 (Zba []) (max k_a k_b) 16) ⟨by kernel_rfl,Nat.le_refl _,trivial⟩ h4)
  exact⟨_,rfl,h9.toR (by rw[Xd,Xd,mkRat_sub]) (sub_bd h_a.num_le h_a.den_le h_b.num_le h_b.den_le)⟩
 have H3:Csl (QB a0 a1) frac_Sub_k3:=.cons h1 H1;have g0:=((by kernel_rfl:ZI (QB a0 a1) [16,2]=((Zs (a0.den - 1):Nat):Int)).symm.trans h0);have g1:=((by kernel_rfl:ZI (QB a0 a1) [16,3]=((Zs (a1.den - 1):Nat):Int)).symm.trans h1);refine Calls.mono (leaf _ H3 frac_Sub_p0) λe w' ⟨v,S',q1,q2,blk,q3⟩=>⟨v,S',q1,q2,?_⟩
 cases q3 with
 |agg h4=>
  have h9:=mixed_of (i:=6) (z:=(a0.num - a1.num)) (by kernel_rfl) h4
  exact⟨_,rfl,h9.toR (by rw[cast_sub' (bits0 g0) (bits0 g1)]) (sub_bd h_a.num_le h_a.den_le h_b.num_le h_b.den_le)⟩
def frac_Mul_r:List Rw:=[⟨[2,0],1,0⟩,⟨[2,1],1,0⟩,⟨[13,0],1,0⟩,⟨[13,1],1,0⟩,⟨[37,2,3],2,0⟩,⟨[44,0],1,0⟩,⟨[44,1],1,0⟩,⟨[4,1],0,64⟩,⟨[36,5,7],1,65⟩,⟨[36,6,7],1,65⟩,⟨[24,8,9],2,130⟩,⟨[78,4,10],4,130⟩]
def Zbb (cs:CL):Tb:=⟨frac_Mul_r,cs,50000000000⟩
def Zev (cs:CL) (r:SV Ato):Prop:=Zfh Zdx (Zbb cs) 37 [.agg (cQs [0]),.agg (cQs [1])] r 100
def QC (a0 a1:Rat):Nat->AV:=rho (Zbb []) (Xp [a0,a1])
def frac_Mul_k0 (nh0:Nat):CL:=([16,5],.ofNat (.succ nh0))::[]
theorem frac_Mul_p2 (nh0:Nat):Zev (frac_Mul_k0 nh0) (.agg (cQs [11])):=λ_ _ _=>by kernel_rfl
def Zfr:CL:=([16,5],0)::[]
def frac_Mul_k2 (nh1:Nat):CL:=([16,6],.ofNat (.succ nh1))::Zfr
theorem frac_Mul_p1 (nh1:Nat):Zev (frac_Mul_k2 nh1) (.agg (cQs [11])):=λ_ _ _=>by kernel_rfl
def frac_Mul_k3:CL:=([16,6],0)::Zfr
theorem frac_Mul_p0:Zev frac_Mul_k3 (.agg [.at_ (.s 4),.at_ (.a 4),.int .u64 0,.sl none 0 0]):=λ_ _ _=>by kernel_rfl
theorem frac_Mul_s {S:Sh} {w:World} (hS:ZU S w) {c_a:List Value} {a0:Rat} {k_a:Nat} (h_a:Fs S c_a [a0] (k_a)) {c_b:List Value} {a1:Rat} {k_b:Nat} (h_b:Fs S c_b [a1] (k_b)) (hlim:k_a<=50000000000) (hlim2:k_b<=50000000000):Calls Tryz.prog 37 [(.agg (c_a:List Value).toArray),(.agg (c_b:List Value).toArray)].toArray w (Ret S w (λS v=>∃(c0:List Value),v= .agg c0.toArray/\Fs S c0 [a0*a1] (k_a+k_b))):=by
 have leaf:=λcs hc {r} (h:Zev cs r)=>YP Za8 (K:=max k_a k_b) (base:=(Xp [a0,a1])) (by kernel_rfl) (by omega) (by kernel_rfl) hS (λ_ _=>.cons (.agg (Za0 (is:=[0]) (qs:=[a0]) (k:=max k_a k_b) ⟨by kernel_rfl,le1 _,trivial⟩ (h_a.wide (by omega)))) (.cons (.agg (Za0 (is:=[1]) (qs:=[a1]) (k:=max k_a k_b) ⟨by kernel_rfl,le1 _,trivial⟩ (h_b.wide (by omega)))) .nil)) cs hc h;rcases waysE (QC a0 a1) (t:=16) (is:=[5]) (by decide) with h0|⟨nh0,h0⟩;rotate_left
 have H0:Csl (QC a0 a1) (frac_Mul_k0 nh0):=.cons h0 .nil;refine Calls.mono (leaf _ H0 (frac_Mul_p2 nh0)) λe w' ⟨v,S',q1,q2,blk,q3⟩=>⟨v,S',q1,q2,?_⟩
 cases q3 with
 |agg h4=>
  have h9:=(Zdo (bd:=Ze5 (Zbb []) (max k_a k_b)) (is:=[11]) (qs:=[(mkRat (a0.num*a1.num) (((a0.den - 1)+1)*((a1.den - 1)+1)))]) (k:=Ze5 (Zbb []) (max k_a k_b) 11) ⟨by kernel_rfl,Nat.le_refl _,trivial⟩ h4)
  exact⟨_,rfl,h9.toR (by rw[Xd,Xd,Zbk]) (mul_bd h_a.num_le h_a.den_le h_b.num_le h_b.den_le)⟩
 have H1:Csl (QC a0 a1) Zfr:=.cons h0 .nil;rcases waysE (QC a0 a1) (t:=16) (is:=[6]) (by decide) with h1|⟨nh1,h1⟩;rotate_left
 have H2:Csl (QC a0 a1) (frac_Mul_k2 nh1):=.cons h1 H1;refine Calls.mono (leaf _ H2 (frac_Mul_p1 nh1)) λe w' ⟨v,S',q1,q2,blk,q3⟩=>⟨v,S',q1,q2,?_⟩
 cases q3 with
 |agg h4=>
  have h9:=(Zdo (bd:=Ze5 (Zbb []) (max k_a k_b)) (is:=[11]) (qs:=[(mkRat (a0.num*a1.num) (((a0.den - 1)+1)*((a1.den - 1)+1)))]) (k:=Ze5 (Zbb []) (max k_a k_b) 11) ⟨by kernel_rfl,Nat.le_refl _,trivial⟩ h4)
  exact⟨_,rfl,h9.toR (by rw[Xd,Xd,Zbk]) (mul_bd h_a.num_le h_a.den_le h_b.num_le h_b.den_le)⟩
 have H3:Csl (QC a0 a1) frac_Mul_k3:=.cons h1 H1;have g0:=((by kernel_rfl:ZI (QC a0 a1) [16,5]=((Zs (a0.den - 1):Nat):Int)).symm.trans h0);have g1:=((by kernel_rfl:ZI (QC a0 a1) [16,6]=((Zs (a1.den - 1):Nat):Int)).symm.trans h1);refine Calls.mono (leaf _ H3 frac_Mul_p0) λe w' ⟨v,S',q1,q2,blk,q3⟩=>⟨v,S',q1,q2,?_⟩
 cases q3 with
 |agg h4=>
  have h9:=mixed_of (i:=4) (z:=(a0.num*a1.num)) (by kernel_rfl) h4
  exact⟨_,rfl,h9.toR (by rw[cast_mul' (bits0 g0) (bits0 g1)]) (mul_bd h_a.num_le h_a.den_le h_b.num_le h_b.den_le)⟩
def frac_Cmp_r:List Rw:=[⟨[2,0],1,0⟩,⟨[2,1],1,0⟩,⟨[44,0],1,0⟩,⟨[44,1],1,0⟩,⟨[13,0],1,0⟩,⟨[13,1],1,0⟩,⟨[4,1],0,64⟩,⟨[36,3,6],1,65⟩,⟨[17,7],1,65⟩,⟨[37,4,8],2,65⟩,⟨[36,2,6],1,65⟩,⟨[17,10],1,65⟩,⟨[37,5,11],2,65⟩]
def frac_Cmp_T (cs:CL):Tb:=⟨frac_Cmp_r,cs,100000000000⟩
def Zex (cs:CL) (r:SV Ato):Prop:=Zfh Zdx (frac_Cmp_T cs) 60 [.agg (cQs [0]),.agg (cQs [1])] r 100
def Xb (a0 a1:Rat):Nat->AV:=rho (frac_Cmp_T []) (Xp [a0,a1])
def frac_Cmp_k0 (nh0:Nat):CL:=([16,2],.ofNat (.succ nh0))::[]
theorem frac_Cmp_p2 (nh0:Nat) (z0:Int):Zex (([17,9,12],z0)::(frac_Cmp_k0 nh0)) (.int .i64 z0):=λ_ _ _=>by kernel_rfl
def Zfs:CL:=([16,2],0)::[]
def frac_Cmp_k2 (nh1:Nat):CL:=([16,3],.ofNat (.succ nh1))::Zfs
theorem frac_Cmp_p1 (nh1:Nat) (z0:Int):Zex (([17,9,12],z0)::(frac_Cmp_k2 nh1)) (.int .i64 z0):=λ_ _ _=>by kernel_rfl
def frac_Cmp_k3:CL:=([16,3],0)::Zfs
theorem frac_Cmp_p0 (z0:Int):Zex (([17,4,5],z0)::frac_Cmp_k3) (.int .i64 z0):=λ_ _ _=>by kernel_rfl
theorem frac_Cmp_s {S:Sh} {w:World} (hS:ZU S w) {c_a:List Value} {a0:Rat} {k_a:Nat} (h_a:Fs S c_a [a0] (k_a)) {c_b:List Value} {a1:Rat} {k_b:Nat} (h_b:Fs S c_b [a1] (k_b)) (hlim:k_a<=100000000000) (hlim2:k_b<=100000000000):Calls Tryz.prog 60 [(.agg (c_a:List Value).toArray),(.agg (c_b:List Value).toArray)].toArray w (Ret S w (λS v=>v= .int .i64 (cmpQ a0 a1))):=by
 have leaf:=λcs hc {r} (h:Zex cs r)=>YP Za8 (K:=max k_a k_b) (base:=(Xp [a0,a1])) (by kernel_rfl) (by omega) (by kernel_rfl) hS (λ_ _=>.cons (.agg (Za0 (is:=[0]) (qs:=[a0]) (k:=max k_a k_b) ⟨by kernel_rfl,le1 _,trivial⟩ (h_a.wide (by omega)))) (.cons (.agg (Za0 (is:=[1]) (qs:=[a1]) (k:=max k_a k_b) ⟨by kernel_rfl,le1 _,trivial⟩ (h_b.wide (by omega)))) .nil)) cs hc h;rcases waysE (Xb a0 a1) (t:=16) (is:=[2]) (by decide) with h0|⟨nh0,h0⟩;rotate_left
 have H0:Csl (Xb a0 a1) (frac_Cmp_k0 nh0):=.cons h0 .nil;refine Calls.mono (leaf _ (.cons (show ZI (Xb a0 a1) [17,9,12]=_ from rfl) H0) (frac_Cmp_p2 nh0 _)) λe w' ⟨v,S',q1,q2,blk,q3⟩=>⟨v,S',q1,q2,?_⟩;cases q3;exact congrArg (Value.int .i64) (((by kernel_rfl:ZI (Xb a0 a1) [17,9,12]=cmpZ (a0.num*((((a1.den - 1)+1):Nat):Int)) (a1.num*((((a0.den - 1)+1):Nat):Int)))).trans ((by rw[Xd,Xd]:cmpZ (a0.num*((((a1.den - 1)+1):Nat):Int)) (a1.num*((((a0.den - 1)+1):Nat):Int))=cmpZ (a0.num*(a1.den:Int)) (a1.num*(a0.den:Int))).trans cmpQ_den));have H1:Csl (Xb a0 a1) Zfs:=.cons h0 .nil;rcases waysE (Xb a0 a1) (t:=16) (is:=[3]) (by decide) with h1|⟨nh1,h1⟩;rotate_left
 have H2:Csl (Xb a0 a1) (frac_Cmp_k2 nh1):=.cons h1 H1;refine Calls.mono (leaf _ (.cons (show ZI (Xb a0 a1) [17,9,12]=_ from rfl) H2) (frac_Cmp_p1 nh1 _)) λe w' ⟨v,S',q1,q2,blk,q3⟩=>⟨v,S',q1,q2,?_⟩;cases q3;exact congrArg (Value.int .i64) (((by kernel_rfl:ZI (Xb a0 a1) [17,9,12]=cmpZ (a0.num*((((a1.den - 1)+1):Nat):Int)) (a1.num*((((a0.den - 1)+1):Nat):Int)))).trans ((by rw[Xd,Xd]:cmpZ (a0.num*((((a1.den - 1)+1):Nat):Int)) (a1.num*((((a0.den - 1)+1):Nat):Int))=cmpZ (a0.num*(a1.den:Int)) (a1.num*(a0.den:Int))).trans cmpQ_den));have H3:Csl (Xb a0 a1) frac_Cmp_k3:=.cons h1 H1;have g0:=((by kernel_rfl:ZI (Xb a0 a1) [16,2]=((Zs (a0.den - 1):Nat):Int)).symm.trans h0);have g1:=((by kernel_rfl:ZI (Xb a0 a1) [16,3]=((Zs (a1.den - 1):Nat):Int)).symm.trans h1);refine Calls.mono (leaf _ (.cons (show ZI (Xb a0 a1) [17,4,5]=_ from rfl) H3) (frac_Cmp_p0 _)) λe w' ⟨v,S',q1,q2,blk,q3⟩=>⟨v,S',q1,q2,?_⟩;cases q3;exact congrArg (Value.int .i64) (((by kernel_rfl:ZI (Xb a0 a1) [17,4,5]=cmpZ a0.num a1.num)).trans (cmpQ_int (bits0 g0) (bits0 g1)))
def frac_Div_r:List Rw:=[⟨[2,0],1,0⟩,⟨[2,1],1,0⟩,⟨[13,1],1,0⟩,⟨[9,1,1],0,64⟩,⟨[13,0],1,0⟩,⟨[37,4,3],1,64⟩,⟨[4,1],0,64⟩,⟨[44,1],1,0⟩,⟨[36,7,6],1,65⟩,⟨[17,8],1,65⟩,⟨[37,5,9],2,129⟩,⟨[44,0],1,0⟩,⟨[36,11,6],1,65⟩,⟨[12,2],1,0⟩,⟨[24,12,13],2,65⟩,⟨[78,10,14],4,194⟩,⟨[9,1,0],0,64⟩,⟨[37,4,16],1,64⟩,⟨[37,17,9],2,129⟩,⟨[78,18,14],4,194⟩]
def Zbc (cs:CL):Tb:=⟨frac_Div_r,cs,50000000000⟩
def Zew (cs:CL) (r:SV Ato):Prop:=Zfh Zdx (Zbc cs) 46 [.agg (cQs [0]),.agg (cQs [1])] r 100
def Xo (a0 a1:Rat):Nat->AV:=rho (Zbc []) (Xp [a0,a1])
def frac_Div_k0:CL:=([3,2],0)::[]
theorem frac_Div_p2:Zew frac_Div_k0 (.tup [.agg [.bool false,.int .u64 0,.sl none 0 0,.int .u64 0,.sl none 0 0],.int .i64 11]):=λ_ _ _=>by kernel_rfl
def frac_Div_k1:CL:=([5,14],0)::([3,2],1)::[]
theorem frac_Div_p1:Zew frac_Div_k1 (.tup [.agg (cQs [19]),.int .i64 0]):=λ_ _ _=>by kernel_rfl
def frac_Div_k2:CL:=([5,14],0)::([3,2],(-1))::[]
theorem frac_Div_p0:Zew frac_Div_k2 (.tup [.agg (cQs [15]),.int .i64 0]):=λ_ _ _=>by kernel_rfl
theorem frac_Div_s {S:Sh} {w:World} (hS:ZU S w) {c_a:List Value} {a0:Rat} {k_a:Nat} (h_a:Fs S c_a [a0] (k_a)) {c_b:List Value} {a1:Rat} {k_b:Nat} (h_b:Fs S c_b [a1] (k_b)) (hlim:k_a<=50000000000) (hlim2:k_b<=50000000000):Calls Tryz.prog 46 [(.agg (c_a:List Value).toArray),(.agg (c_b:List Value).toArray)].toArray w (Ret S w (λS v=>((a1.num=0)/\∃(c0:List Value),v= .tuple [.agg c0.toArray,.int .i64 (11)].toArray/\Fs S c0 [0] (0))\/((a1.num≠0)/\∃(c0:List Value),v= .tuple [.agg c0.toArray,.int .i64 (0)].toArray/\Fs S c0 [a0 / a1] (k_a+k_b)))):=by
 have leaf:=λcs hc {r} (h:Zew cs r)=>YP Za8 (K:=max k_a k_b) (base:=(Xp [a0,a1])) (by kernel_rfl) (by omega) (by kernel_rfl) hS (λ_ _=>.cons (.agg (Za0 (is:=[0]) (qs:=[a0]) (k:=max k_a k_b) ⟨by kernel_rfl,le1 _,trivial⟩ (h_a.wide (by omega)))) (.cons (.agg (Za0 (is:=[1]) (qs:=[a1]) (k:=max k_a k_b) ⟨by kernel_rfl,le1 _,trivial⟩ (h_b.wide (by omega)))) .nil)) cs hc h;rcases XX (Xo a0 a1) (t:=3) (is:=[2]) (by decide) with h0|h0|h0;rotate_left
 have H0:Csl (Xo a0 a1) frac_Div_k0:=.cons h0 .nil;have g0:=((by kernel_rfl:ZI (Xo a0 a1) [3,2]=Yy (a1.num)).symm.trans h0);have gz:=Yf (z:=a1.num);have gn:=Za2 (z:=a1.num);refine Calls.mono (leaf _ H0 frac_Div_p2) λe w' ⟨v,S',q1,q2,blk,q3⟩=>⟨v,S',q1,q2,?_⟩
 cases q3 with
 | tup h5=>cases h5 with
  | cons h6 h7=>cases h7 with
   |cons h7 h8=>
    cases h8
    cases h7
    rw[QA (v:=.agg [.bool false,.int .u64 0,.slice none 0 0,.int .u64 0,.slice none 0 0].toArray) rfl h6]
    exact .inl ⟨by omega,_,rfl,Fs.zero _ _⟩
 have h1:ZI (Xo a0 a1) [5,14]=0:=(by kernel_rfl:ZI (Xo a0 a1) [5,14]=(if(((a0.den - 1)+1)*(a1.num).natAbs)=0 then(1:Int) else 0)).trans (if_neg (Nat.mul_ne_zero (Nat.succ_ne_zero _) (by have g:=((by kernel_rfl:ZI (Xo a0 a1) [3,2]=Yy (a1.num)).symm.trans h0);have g2:=Yf (z:=a1.num);omega)));have H1:Csl (Xo a0 a1) frac_Div_k1:=.cons h1 (.cons h0 .nil);have g0:=((by kernel_rfl:ZI (Xo a0 a1) [3,2]=Yy (a1.num)).symm.trans h0);have gz:=Yf (z:=a1.num);have gn:=Za2 (z:=a1.num);refine Calls.mono (leaf _ H1 frac_Div_p1) λe w' ⟨v,S',q1,q2,blk,q3⟩=>⟨v,S',q1,q2,?_⟩
 cases q3 with
 | tup h5=>cases h5 with
  | cons h6 h7=>cases h7 with
   | cons h7 h8=>
    cases h8
    cases h7
    cases h6 with
    |agg h4=>
     have h9:=(Zdo (bd:=Ze5 (Zbc []) (max k_a k_b)) (is:=[19]) (qs:=[(mkRat ((a0.num*(1:Int))*((((a1.den - 1)+1):Nat):Int)) (((a0.den - 1)+1)*(a1.num).natAbs))]) (k:=Ze5 (Zbc []) (max k_a k_b) 19) ⟨by kernel_rfl,Nat.le_refl _,trivial⟩ h4)
     refine .inr ⟨by omega,_,rfl,h9.toR ?_ (div_bd h_a.num_le h_a.den_le h_b.num_le h_b.den_le (by omega))⟩
     rw[Xd,Xd,<-Zbl (by omega),g0]
 have h2:ZI (Xo a0 a1) [5,14]=0:=(by kernel_rfl:ZI (Xo a0 a1) [5,14]=(if(((a0.den - 1)+1)*(a1.num).natAbs)=0 then(1:Int) else 0)).trans (if_neg (Nat.mul_ne_zero (Nat.succ_ne_zero _) (by have g:=((by kernel_rfl:ZI (Xo a0 a1) [3,2]=Yy (a1.num)).symm.trans h0);have g2:=Yf (z:=a1.num);omega)));have H2:Csl (Xo a0 a1) frac_Div_k2:=.cons h2 (.cons h0 .nil);have g0:=((by kernel_rfl:ZI (Xo a0 a1) [3,2]=Yy (a1.num)).symm.trans h0);have gz:=Yf (z:=a1.num);have gn:=Za2 (z:=a1.num);refine Calls.mono (leaf _ H2 frac_Div_p0) λe w' ⟨v,S',q1,q2,blk,q3⟩=>⟨v,S',q1,q2,?_⟩
 cases q3 with
 | tup h5=>cases h5 with
  | cons h6 h7=>cases h7 with
   | cons h7 h8=>
    cases h8
    cases h7
    cases h6 with
    |agg h4=>
     have h9:=(Zdo (bd:=Ze5 (Zbc []) (max k_a k_b)) (is:=[15]) (qs:=[(mkRat ((a0.num*((-1):Int))*((((a1.den - 1)+1):Nat):Int)) (((a0.den - 1)+1)*(a1.num).natAbs))]) (k:=Ze5 (Zbc []) (max k_a k_b) 15) ⟨by kernel_rfl,Nat.le_refl _,trivial⟩ h4)
     refine .inr ⟨by omega,_,rfl,h9.toR ?_ (div_bd h_a.num_le h_a.den_le h_b.num_le h_b.den_le (by omega))⟩
     rw[Xd,Xd,<-Zbl (by omega),g0]
def frac_Make_r:List Rw:=[⟨[1,0],1,0⟩,⟨[1,1],1,0⟩,⟨[25,0],1,0⟩,⟨[12,1],1,0⟩,⟨[78,2,3],2,0⟩,⟨[78,0,3],2,0⟩]
def QS (cs:CL):Tb:=⟨frac_Make_r,cs,50000000000⟩
def Zc4 (cs:CL) (r:SV Ato):Prop:=Zfh Zdx (QS cs) 65 [.agg [.at_ (.s 0),.at_ (.a 0)],.agg [.at_ (.s 1),.at_ (.a 1)]] r 100
def YT (a0 a1:Int):Nat->AV:=rho (QS []) (baseZ [a0,a1])
def frac_Make_k0:CL:=([3,1],0)::[]
theorem frac_Make_p2:Zc4 frac_Make_k0 (.tup [.agg [.bool false,.int .u64 0,.sl none 0 0,.int .u64 0,.sl none 0 0],.int .i64 11]):=λ_ _ _=>by kernel_rfl
def frac_Make_k1:CL:=([5,3],0)::([3,1],1)::[]
theorem frac_Make_p1:Zc4 frac_Make_k1 (.tup [.agg (cQs [5]),.int .i64 0]):=λ_ _ _=>by kernel_rfl
def frac_Make_k2:CL:=([5,3],0)::([3,1],(-1))::[]
theorem frac_Make_p0:Zc4 frac_Make_k2 (.tup [.agg (cQs [4]),.int .i64 0]):=λ_ _ _=>by kernel_rfl
theorem frac_Make_s {S:Sh} {w:World} (hS:ZU S w) {c_a:List Value} {a0:Int} {k_a:Nat} (h_a:In S c_a a0 (k_a)) {c_b:List Value} {a1:Int} {k_b:Nat} (h_b:In S c_b a1 (k_b)) (hlim:k_a<=50000000000) (hlim2:k_b<=50000000000):Calls Tryz.prog 65 [(.agg (c_a:List Value).toArray),(.agg (c_b:List Value).toArray)].toArray w (Ret S w (λS v=>((a1=0)/\∃(c0:List Value),v= .tuple [.agg c0.toArray,.int .i64 (11)].toArray/\Fs S c0 [0] (0))\/((a1≠0)/\∃(c0:List Value),v= .tuple [.agg c0.toArray,.int .i64 (0)].toArray/\Fs S c0 [(a0:Rat) / (a1:Rat)] (k_a+k_b)))):=by
 have leaf:=λcs hc {r} (h:Zc4 cs r)=>YP Za8 (K:=max k_a k_b) (base:=(baseZ [a0,a1])) (by kernel_rfl) (by omega) (by kernel_rfl) hS (λ_ _=>.cons (.agg (cZ_mk1 (i:=0) (a:=a0) (k:=max k_a k_b) (by kernel_rfl) (le1 _) (h_a.wide (by omega)))) (.cons (.agg (cZ_mk1 (i:=1) (a:=a1) (k:=max k_a k_b) (by kernel_rfl) (le1 _) (h_b.wide (by omega)))) .nil)) cs hc h;rcases XX (YT a0 a1) (t:=3) (is:=[1]) (by decide) with h0|h0|h0;rotate_left
 have H0:Csl (YT a0 a1) frac_Make_k0:=.cons h0 .nil;have g0:=((by kernel_rfl:ZI (YT a0 a1) [3,1]=Yy (a1)).symm.trans h0);have gz:=Yf (z:=a1);have gn:=Za2 (z:=a1);refine Calls.mono (leaf _ H0 frac_Make_p2) λe w' ⟨v,S',q1,q2,blk,q3⟩=>⟨v,S',q1,q2,?_⟩
 cases q3 with
 | tup h5=>cases h5 with
  | cons h6 h7=>cases h7 with
   |cons h7 h8=>
    cases h8
    cases h7
    rw[QA (v:=.agg [.bool false,.int .u64 0,.slice none 0 0,.int .u64 0,.slice none 0 0].toArray) rfl h6]
    exact .inl ⟨by omega,_,rfl,Fs.zero _ _⟩
 have h1:ZI (YT a0 a1) [5,3]=0:=(by kernel_rfl:ZI (YT a0 a1) [5,3]=(if(a1).natAbs=0 then(1:Int) else 0)).trans (if_neg (λz=>by have g:=((by kernel_rfl:ZI (YT a0 a1) [3,1]=Yy (a1)).symm.trans h0);have g2:=Yf (z:=a1);omega));have H1:Csl (YT a0 a1) frac_Make_k1:=.cons h1 (.cons h0 .nil);have g0:=((by kernel_rfl:ZI (YT a0 a1) [3,1]=Yy (a1)).symm.trans h0);have gz:=Yf (z:=a1);have gn:=Za2 (z:=a1);refine Calls.mono (leaf _ H1 frac_Make_p1) λe w' ⟨v,S',q1,q2,blk,q3⟩=>⟨v,S',q1,q2,?_⟩
 cases q3 with
 | tup h5=>cases h5 with
  | cons h6 h7=>cases h7 with
   | cons h7 h8=>
    cases h8
    cases h7
    cases h6 with
    |agg h4=>
     have h9:=(Zdo (bd:=Ze5 (QS []) (max k_a k_b)) (is:=[5]) (qs:=[(mkRat a0 (a1).natAbs)]) (k:=Ze5 (QS []) (max k_a k_b) 5) ⟨by kernel_rfl,Nat.le_refl _,trivial⟩ h4)
     refine .inr ⟨by omega,_,rfl,h9.toR ?_ (quo_bd h_a.le h_b.le (by omega))⟩
     rw[<-mkRat_quo (by omega),if_neg (by omega)]
 have h2:ZI (YT a0 a1) [5,3]=0:=(by kernel_rfl:ZI (YT a0 a1) [5,3]=(if(a1).natAbs=0 then(1:Int) else 0)).trans (if_neg (λz=>by have g:=((by kernel_rfl:ZI (YT a0 a1) [3,1]=Yy (a1)).symm.trans h0);have g2:=Yf (z:=a1);omega));have H2:Csl (YT a0 a1) frac_Make_k2:=.cons h2 (.cons h0 .nil);have g0:=((by kernel_rfl:ZI (YT a0 a1) [3,1]=Yy (a1)).symm.trans h0);have gz:=Yf (z:=a1);have gn:=Za2 (z:=a1);refine Calls.mono (leaf _ H2 frac_Make_p0) λe w' ⟨v,S',q1,q2,blk,q3⟩=>⟨v,S',q1,q2,?_⟩
 cases q3 with
 | tup h5=>cases h5 with
  | cons h6 h7=>cases h7 with
   | cons h7 h8=>
    cases h8
    cases h7
    cases h6 with
    |agg h4=>
     have h9:=(Zdo (bd:=Ze5 (QS []) (max k_a k_b)) (is:=[4]) (qs:=[(mkRat (-a0) (a1).natAbs)]) (k:=Ze5 (QS []) (max k_a k_b) 4) ⟨by kernel_rfl,Nat.le_refl _,trivial⟩ h4)
     refine .inr ⟨by omega,_,rfl,h9.toR ?_ (quo_bd h_a.le h_b.le (by omega))⟩
     rw[<-mkRat_quo (by omega),if_pos (by omega)]
end
end Go.Cham
namespace Go.Cham
open Go Go.RowKit Go.Proofs
noncomputable section
def symTab (T:Tb):List (Nat × PrF Ato):=[
  (25,pO T [2,2] 22 50000000000 1),
  (93,pO T [2,2] 26 50000000000 1),
  (37,pO T [2,2] 30 50000000000 0),
  (86,pO T [1] 14 100000000000 0),
  (66,pO T [2] 13 100000000000 0),
  (78,pO T [2] 16 100000000000 0),
  (60,pT T [2,2] 2 100000000000),
  (45,pT T [2] 1 100000000000),
  (81,pO T [1,1] 37 100000000000 0),
  (89,pO T [1,1] 29 100000000000 1),
  (146,pO T [1,1] 33 100000000000 1),
  (85,pO T [1] 25 100000000000 0),
  (113,pO T [1] 12 100000000000 0),
  (84,pT T [1] 3 100000000000),
  (80,pO T [0,0] 24 100000000000 0),
  (79,pO T [0,0] 28 100000000000 0)]
set_option maxRecDepth 100000 in
theorem symTab_ok {T:Tb} {K:Nat} {base ρ:Nat->AV} {bd:Nat->Nat} {T0:Tb} {hT:Cs T0 ρ} (hg:Yz T K base ρ bd):∀p∈symTab T,YZ Tryz.prog (DS hT bd) p.1 p.2:=by
 intro p hp;simp only[symTab,List.mem_cons,List.not_mem_nil,or_false] at hp;rcases hp with rfl|rfl|rfl|rfl|rfl|rfl|rfl|rfl|rfl|rfl|rfl|rfl|rfl|rfl|rfl|rfl;exact pQQ hg (by kernel_rfl) (by decide) (λ_ _=>rfl) λhS h1 h2 h3 h4=>frac_Add_s hS h1 h2 h3 h4;exact pQQ hg (by kernel_rfl) (by decide) (λ_ _=>rfl) λhS h1 h2 h3 h4=>frac_Sub_s hS h1 h2 h3 h4;exact pQQ hg (by kernel_rfl) (by decide) (λ_ _=>rfl) λhS h1 h2 h3 h4=>frac_Mul_s hS h1 h2 h3 h4;exact pZq hg (by kernel_rfl) (by decide) (λ_=>rfl) λhS h1 h2=>frac_Of hS h1;exact pQz hg (by kernel_rfl) (by decide) (λ_=>rfl) λhS h1 h2=>frac_Frac_Num hS h1;exact pQn hg (by kernel_rfl) (by decide) (λ_=>rfl) λhS h1 h2=>Zgh hS h1 (by omega);refine pT_ok hg (by kernel_rfl) λS w vs xs ks hS hr hl=>?_;obtain⟨x,k1,v,x',k2,v',rfl,rfl,rfl,h1,h2,h3,h4⟩:=hr.two;obtain⟨c,rfl,h5⟩:=h2.q h1;obtain⟨d,rfl,h6⟩:=h4.q h3;have e1:=hl k1 (by simp);have e2:=hl k2 (by simp);exact frac_Cmp_s hS h5 h6 (by omega) (by omega);refine pT_ok hg (by kernel_rfl) λS w vs xs ks hS hr hl=>?_;obtain⟨x,k1,v,rfl,rfl,rfl,h1,h2⟩:=hr.one;obtain⟨c,rfl,h5⟩:=h2.q h1;exact frac_Frac_Sign hS h5;exact pZZ hg (by kernel_rfl) (by decide) (λ_ _=>rfl) λhS h1 h2 h3 h4=>whole_Mul hS h1 h2 (by omega) (by omega);exact pZZ hg (by kernel_rfl) (by decide) (λ_ _=>rfl) λhS h1 h2 h3 h4=>whole_Add hS h1 h2 (by omega) (by omega);exact pZZ hg (by kernel_rfl) (by decide) (λ_ _=>rfl) λhS h1 h2 h3 h4=>whole_Sub hS h1 h2 (by omega) (by omega);exact pZz hg (by kernel_rfl) (by decide) (λ_=>rfl) λhS h1 h2=>whole_Neg hS h1;exact pZn hg (by kernel_rfl) (by decide) (λ_=>rfl) λhS h1 h2=>Zcq hS h1;refine pT_ok hg (by kernel_rfl) λS w vs xs ks hS hr hl=>?_;obtain⟨x,k1,v,rfl,rfl,rfl,h1,h2⟩:=hr.one;obtain⟨c,rfl,h5⟩:=h2.z h1;exact Zad hS h5;exact pNN hg (by kernel_rfl) (by decide) (λ_ _=>rfl) λhS h1 h2 h3 h4=>nat_Mul hS h1 h2 (by omega) (by omega);exact pNN hg (by kernel_rfl) (by decide) (λ_ _=>rfl) λhS h1 h2 h3 h4=>nat_Gcd hS h1 h2 (by omega)
end
end Go.Cham
namespace Go.Cham
open Go Go.RowKit Go.Proofs
noncomputable section
section
variable {T : Tb} {K : Nat} {base ρ : Nat → AV} {bd : Nat → Nat} {T0 : Tb} {hT : Cs T0 ρ}
theorem pNatDiv_ok (hg:Yz T K base ρ bd):YZ Tryz.prog (DS hT bd) 77 (pNatDiv T):=by
 intro args r hr G w vs hd hS;unfold pNatDiv at hr;split at hr;rename_i is his;split at hr;rename_i i j;split at hr;rename_i ht;split at hr;rename_i x hx;split at hr;rename_i y hy;cases hr;have hnz:=nzB_ok hg ht;obtain⟨k,rfl,h1,h2,h3,h4⟩:=Zd3 hg hx (by decide);obtain⟨l,rfl,g1,g2,g3,g4⟩:=Zd3 hg hy (by decide);obtain⟨x,k1,v,x',k2,v',e1,e2,rfl,a1,a2,a3,a4⟩:=(QR hg his hd).two;simp only[List.map_cons,List.map_nil,List.cons.injEq,and_true] at e1 e2 h2 g2 h3 h4 g4;obtain⟨rfl,rfl⟩:=e1;obtain⟨rfl,rfl⟩:=e2;obtain⟨c,rfl,h5⟩:=a2.n a1;obtain⟨d,rfl,h6⟩:=a4.n a3;have b1:=h3 (bd i) (by simp);have b2:=sum2 h4;have b3:=sum2 g4;refine .ret (by kernel_rfl) (nat_Div hS h5 h6 (by omega)) λS' v hv=>?_;rcases hv with⟨z,_⟩|⟨_,c0,c1,e,hv,hu⟩;exact absurd z hnz;rw[e];refine .tup (.cons (Xa h1 ?_) (.cons (Xa g1 ?_) (.cons (.int _ _) .nil)));rw[h2];exact⟨c0,rfl,hv.wide (by omega)⟩;rw[g2];exact⟨c1,rfl,hu.wide (by omega)⟩;cases hr;cases hr;cases hr;cases hr;cases hr
theorem pDivQ_ok (hg:Yz T K base ρ bd):YZ Tryz.prog (DS hT bd) 46 (pDivQ T):=by
 intro args r hr G w vs hd hS;unfold pDivQ at hr;split at hr;rename_i is his;split at hr;rename_i i j;obtain⟨x,k1,v,x',k2,v',e1,e2,rfl,a1,a2,a3,a4⟩:=(QR hg his hd).two;simp only[List.map_cons,List.map_nil,List.cons.injEq,and_true] at e1 e2;obtain⟨rfl,rfl⟩:=e1;obtain⟨rfl,rfl⟩:=e2;obtain⟨c,rfl,h5⟩:=a2.q a1;obtain⟨d,rfl,h6⟩:=a4.q a3;split at hr;rename_i s ht;obtain⟨ht1,ht2⟩:=tstV_ok hg ht;have ht3:Yy (ρ j).rat.num=s:=ht1;split at hr;cases hr;rename_i hnz0;split at hr;rename_i y hy;cases hr;obtain⟨l,rfl,g1,g2,g3,g4⟩:=Zd3 hg hy (by decide);have b1:=g3 (bd i) (by simp);have b2:=g3 (bd j) (by simp);simp only[List.map_cons,List.map_nil] at g2 g4;have b3:=sum2 g4;have hnz:(ρ j).rat.num≠0:=λh0=>hnz0 (by rw[<-ht3,h0];rfl);refine .ret (by kernel_rfl) (frac_Div_s hS h5 h6 b1 b2) λS' v hv=>?_;rcases hv with⟨z,_⟩|⟨_,c0,e,hv⟩;exact absurd z hnz;rw[e];refine .tup (.cons (Xa g1 ?_) (.cons (.int _ _) .nil));rw[g2];exact⟨c0,rfl,hv.wide (by omega)⟩;cases hr;cases hr;cases hr;cases hr
theorem pMakeQ_ok (hg:Yz T K base ρ bd):YZ Tryz.prog (DS hT bd) 65 (pMakeQ T):=by
 intro args r hr G w vs hd hS;unfold pMakeQ at hr;split at hr;rename_i is his;split at hr;rename_i i j;obtain⟨x,k1,v,x',k2,v',e1,e2,rfl,a1,a2,a3,a4⟩:=(QR hg his hd).two;simp only[List.map_cons,List.map_nil,List.cons.injEq,and_true] at e1 e2;obtain⟨rfl,rfl⟩:=e1;obtain⟨rfl,rfl⟩:=e2;obtain⟨c,rfl,h5⟩:=a2.z a1;obtain⟨d,rfl,h6⟩:=a4.z a3;split at hr;rename_i s ht;obtain⟨ht1,ht2⟩:=tstV_ok hg ht;have ht3:Yy (ρ j).int=s:=ht1;split at hr;cases hr;rename_i hnz0;split at hr;rename_i y hy;cases hr;obtain⟨l,rfl,g1,g2,g3,g4⟩:=Zd3 hg hy (by decide);have b1:=g3 (bd i) (by simp);have b2:=g3 (bd j) (by simp);simp only[List.map_cons,List.map_nil] at g2 g4;have b3:=sum2 g4;have hnz:(ρ j).int≠0:=λh0=>hnz0 (by rw[<-ht3,h0];rfl);refine .ret (by kernel_rfl) (frac_Make_s hS h5 h6 b1 b2) λS' v hv=>?_;rcases hv with⟨z,_⟩|⟨_,c0,e,hv⟩;exact absurd z hnz;rw[e];refine .tup (.cons (Xa g1 ?_) (.cons (.int _ _) .nil));rw[g2];exact⟨c0,rfl,hv.wide (by omega)⟩;cases hr;cases hr;cases hr;cases hr
end
def symTab2 (T:Tb):List (Nat × PrF Ato):=(76,pNatOf T)::(27,pConst T 10)::(90,pConst T 9)::(82,pMakeW T)::(77,pNatDiv T)::(46,pDivQ T)::(65,pMakeQ T)::symTab T
theorem symTab2_ok {T:Tb} {K:Nat} {base ρ:Nat->AV} {bd:Nat->Nat} {T0:Tb} {hT:Cs T0 ρ} (hg:Yz T K base ρ bd):∀p∈symTab2 T,YZ Tryz.prog (DS hT bd) p.1 p.2:=by
 intro p hp;simp only[symTab2,List.mem_cons] at hp;rcases hp with rfl|rfl|rfl|rfl|rfl|rfl|rfl|hp;exact pNatOf_ok hg;exact pInt_ok hg;exact pWOf_ok hg;exact pMakeW_ok hg;exact pNatDiv_ok hg;exact pDivQ_ok hg;exact pMakeQ_ok hg;exact symTab_ok hg p hp
end
end Go.Cham
namespace Go.Cham
open Go Go.RowKit Go.Proofs
noncomputable section
def zQs:Nat->List (SV Ato)
  |0=>[]
  |n+1=>.bool false:: .int .u64 0:: .sl none 0 0:: .int .u64 0:: .sl none 0 0::zQs n
theorem zero_end4 {T:Tb} {ρ:Nat->AV} {hT:Cs T ρ} {bd:Nat->Nat} {G:Gh} {v:Value} {k:Nat} (h:Den (DS hT bd) G (.agg (zQs 4)) v):∃c0:List Value,v= .agg c0.toArray/\Fs G.S c0 [0,0,0,0] k:=by
 rw[QA (v:=.agg [.bool false,.int .u64 0,.slice none 0 0,.int .u64 0,.slice none 0 0,.bool false,.int .u64 0,.slice none 0 0,.int .u64 0,.slice none 0 0,.bool false,.int .u64 0,.slice none 0 0,.int .u64 0,.slice none 0 0,.bool false,.int .u64 0,.slice none 0 0,.int .u64 0,.slice none 0 0].toArray) rfl h];exact⟨_,rfl,Fs.zero4 _ _⟩
theorem symTab2_OK:TabOK symTab2:=symTab2_ok
end
end Go.Cham
namespace Go.Cham
open Go Go.RowKit Go.Proofs
theorem ent_94:ZT Tryz.prog 94=true:=by kernel_rfl
theorem ent_95:ZT Tryz.prog 95=true:=by kernel_rfl
theorem ent_96:ZT Tryz.prog 96=true:=by kernel_rfl
theorem ent_97:ZT Tryz.prog 97=true:=by kernel_rfl
theorem ent_99:ZT Tryz.prog 99=true:=by kernel_rfl
theorem ent_117:ZT Tryz.prog 117=true:=by kernel_rfl
theorem ent_147:ZT Tryz.prog 147=true:=by kernel_rfl
theorem ent_149:ZT Tryz.prog 149=true:=by kernel_rfl
theorem ent_169:ZT Tryz.prog 169=true:=by kernel_rfl
end Go.Cham
namespace Go.Cham
open Go Go.RowKit Go.Proofs
set_option maxRecDepth 20000 in
theorem Zfb {S:Sh} {w:World} (hS:ZU S w) {c_a:List Value} {a:Rat} {k_a:Nat} (h_a:Fs S c_a [a] (k_a)) (hlim:k_a<=100000000000):Calls Tryz.prog 55 [(.agg (c_a:List Value).toArray)].toArray w (Ret S w (λS v=>v= .string (YV (rtxt a)))):=by
 refine ZB (n:=18) Tryz.func55 rfl rfl ?_;intro ac0 L0;replace L0:ZL ac0 18 [(0,(.agg (c_a:List Value).toArray))]:=L0;have R0:Run S w S [] w:=.start hS;have hzl:=ztxt_len h_a.num_le;have hdl:=Zaa h_a.den_le;have hbz:=@Qg (a.den - 1);have hdp:=a.den_pos;refine wp_seq (Za (so L0 rfl (ZW (cs:=c_a) L0 rfl R0 rfl ?_)));intro b1 _ _ l1 r1 R1 _ L1;refine sa L1 rfl λ_ L2=>sn (wp_seq (wp_seq (Za (so L2 rfl (Zd (off':=3) L2 rfl field_36_1 rfl λ_ L3=>?_)))));obtain⟨c1,e1,h1⟩:=(h_a.up l1).less;refine so L3 rfl (Yt L3 rfl ZK Zo (R1.row r1) e1 h1.len λ_ L4=>so L4 rfl (Zh L4 rfl Zfc (YF R1.holds h1) λv_1 _ _ x1 v1=>?_));have R2:=R1.call x1;have l2:=x1.le;obtain rfl:=v1;intro _ L5;by_cases t1:((Zs (a.den - 1):Nat):Int)=(0:Int);refine so L5 rfl (bT t1 (λ_=>ZQ L5 rfl rfl) λ_ L6=>sn (Zm L6 rfl rfl (wp_seq (Za (so L6 rfl (Zd (off':=0) L6 rfl Zbe rfl λ_ L7=>?_))))));obtain⟨c2,e2,h2⟩:=(h_a.up (l1.trans l2)).num;refine so L7 rfl (Yt L7 rfl Qq YB (R2.row (r1.up l2)) e2 h2.len λ_ L8=>so L8 rfl (Zh L8 rfl ent_117 (Ze8 R2.holds h2 (by omega)) λv_2 _ _ x2 v2=>?_));have R3:=R2.call x2;obtain rfl:=v2;intro _ L9;exact sa L9 rfl λ_ L10=>sn (wp_ret ((Zt (Zn (rs:=Tryz.f55.results.toList) (L10.kp [1,2] rfl) rfl (.tmp rfl Res.nil) (⟨_,_,rfl,R3.ext,(by exact congrArg Value.string (rtxt_int (by omega)))⟩)))));refine so L5 rfl (bF t1 (λ_=>ZQ L5 rfl rfl) λ_ L12=>sn (Zi L12 rfl rfl (wp_skip ((Zb (wp_seq ?_))))));have L13:=(L12.kp [1,2] rfl);refine Zx (E0:=[]) (H0:=[]) (n:=18) mixed 7 [] (λk=>0) (Zdm [.is (.pointer (some ⟨b1,0,none⟩)),(kvIn (a.num) (k_a)),.is (.string (YV (Ze6 a.num))),.is (.string ((YV (Ze6 a.num))++(⟨#[47]⟩:ByteArray))),.is (.agg (c_a:List Value).toArray),(kvNa (a.den) (k_a)),.is (.string (txt a.den))]) L13 R2 (by simp) (by simp) (by rfl) (by rfl) (by simp) (ZY ?_) ?_;refine(An ?_ (An ?_ (An ?_ (An ?_ (An ?_ (An ?_ (An ?_ trivial)))))));exact Zc rfl (λ_ _ _ _ _ A1=>(Zd (off':=0) A1.live rfl Zbe rfl (A1.same rfl)));refine Zc rfl (λ_ _ _ _ _ A2=>?_);obtain⟨_,e3,rfl⟩:=A2.known 0 rfl;obtain⟨c3,e4,h3⟩:=(h_a.up (l1.trans (l2.trans A2.le))).num;exact Yt (A2.live.add e3) rfl Qq YB (A2.run.row (r1.up (l2.trans A2.le))) e4 h3.len (A2.same ⟨_,rfl,h3⟩);refine Zc rfl (λ_ _ _ _ _ A3=>?_);obtain⟨_,e5,c4,rfl,h4⟩:=A3.known 1 rfl;exact Zh (A3.live.add e5) rfl ent_117 (Ze8 A3.run.holds h4 (by omega)) λv_3 _ _ x3 v3=>(A3.post x3.le (A3.run.call x3) v3);refine Zc rfl (λ_ _ _ _ _ A4=>?_);obtain⟨_,e6,rfl⟩:=A4.known 2 rfl;exact XP (z:=((YV (Ze6 a.num))++(⟨#[47]⟩:ByteArray))) (A4.live.add e6) rfl rfl (by simp only[ByteArray.size_append,Zd4,Zei,show(⟨#[47]⟩:ByteArray).size=1 from rfl];omega) rfl (A4.same rfl);exact Zc rfl (λ_ _ _ _ _ A5=>(ZA A5.live rfl Qj Yp (A5.run.row (r1.up (l2.trans A5.le))) h_a.len (A5.same rfl)));refine Zc rfl (λ_ _ _ _ _ A6=>?_);obtain⟨_,e7,rfl⟩:=A6.known 4 rfl;exact Zh (A6.live.add e7) rfl ent_78 (Zgh A6.run.holds (h_a.up (l1.trans (l2.trans A6.le))) (by omega)) λv_4 _ _ x4 v4=>(A6.post x4.le (A6.run.call x4) v4);refine Zc rfl (λ_ _ _ _ _ A7=>?_);obtain⟨_,e8,c5,rfl,h5⟩:=A7.known 5 rfl;exact Zh (A7.live.add e8) rfl ent_118 (Zb2 A7.run.holds h5 (by omega)) λv_5 _ _ x5 v5=>(A7.post x5.le (A7.run.call x5) v5);intro S14 _ _ w14 l7 E1 R7 n1 L21 K1;obtain⟨_,e9,rfl⟩:=K1 3 (by decide);have L22:=L21.add e9;clear L21;obtain⟨_,e10,rfl⟩:=K1 6 (by decide);have L23:=L22.add e10;clear L22;have R8:Run _ _ S14 [] w14:=Yh R7 n1 [] (by simp) (by simp);exact so L23 rfl (XP (z:=(((YV (Ze6 a.num))++(⟨#[47]⟩:ByteArray))++(txt a.den))) L23 rfl rfl (by simp only[ByteArray.size_append,Zd4,Zei,show(⟨#[47]⟩:ByteArray).size=1 from rfl];omega) rfl λ_ L24=>sa L24 rfl λ_ L25=>sn (wp_ret ((Zn (rs:=Tryz.f55.results.toList) L25 rfl (.tmp rfl Res.nil) (⟨_,_,rfl,R8.ext,(by exact congrArg Value.string (rtxt_frac (by omega)))⟩)))))
end Go.Cham
namespace Go.Cham
open Go Go.RowKit Go.Proofs
set_option maxRecDepth 20000 in
theorem Zce {S:Sh} {w:World} (hS:ZU S w) {s:ByteArray} {sep:ByteArray} (hsep:sep=⟨#[47]⟩) (hs:s.size<=1099511627776):Calls Tryz.prog 147 [(.string s),(.string sep)].toArray w (Ret S w (λS v=>v= .tuple [.string (YV (QM (bl s))),.string (YV (Zbr (bl s)).2.1),.bool (decide (Zdr (bl s)=true))].toArray)):=by
 refine ZB (n:=23) Tryz.func147 rfl rfl ?_;intro ac0 L0;replace L0:ZL ac0 23 [(0,(.string s)),(1,(.string sep))]:=L0;have R0:Run S w S [] w:=.start hS;have hsz:sep.size=1:=by rw[hsep];rfl
 have hbs:=YD s;refine wp_seq (Za (sa L0 rfl ?_));intro _ L1;refine sa L1 rfl λ_ L2=>sa L2 rfl λ_ L3=>sn (wp_seq (wp_seq (Za (sm L3 rfl λ_ L4=>sm L4 rfl λ_ L5=>so L5 rfl (Zh L5 rfl ent_169 (Zf7 R0.holds (s:=s) (sep:=sep) (by assumption)) λv_1 _ _ x1 v1=>?_)))));have R1:=R0.call x1;obtain rfl:=v1;intro _ L6;refine sa L6 rfl λ_ L7=>sn (wp_seq (Za (sm L7 rfl λ_ L8=>?_)));by_cases t1:(0:Int)<=(Zge (bl s));refine so L8 rfl (bT t1 (λ_=>YA L8 rfl rfl) λ_ L9=>sn (Zm L9 rfl rfl (wp_seq ?_)));have hcp:=Zgd (l:=bl s) (by omega);have hcl:=congrArg List.length hcp.2.2;rw[List.length_append,List.length_cons] at hcl;have L10:=L9;rw[hcp.2.1] at L10;have L11:=(L10.kp [0,1,5,6,7] rfl);refine Zx (E0:=[]) (H0:=[]) (n:=23) mixed 10 [] (λk=>0) (Zdm [.is (.string s),.is (.int .i64 (((QM (bl s)).length:Nat):Int)),.is (.string (s.extract (0) (((QM (bl s)).length)))),.is (.string s),.is (.int .i64 (((QM (bl s)).length:Nat):Int)),.is (.string sep),.is (.int .i64 ((sep.size:Nat):Int)),.is (.int .i64 ((((QM (bl s)).length:Nat):Int)+((sep.size:Nat):Int))),.is (.string (s.extract ((((QM (bl s)).length)+sep.size)) (s.size))),.is (.string (s.extract (0) (((QM (bl s)).length))))]) L11 R1 (by simp) (by simp) (by rfl) (by rfl) (by simp) (ZY ?_) ?_;refine(An ?_ (An ?_ (An ?_ (An ?_ (An ?_ (An ?_ (An ?_ (An ?_ (An ?_ (An ?_ trivial))))))))));exact Zc rfl (λ_ _ _ _ _ A1=>(Zf A1.live rfl (A1.same rfl)));exact Zc rfl (λ_ _ _ _ _ A2=>(Zf A2.live rfl (A2.same rfl)));refine Zc rfl (λ_ _ _ _ _ A3=>?_);obtain⟨_,e1,rfl⟩:=A3.known 0 rfl;obtain⟨_,e2,rfl⟩:=A3.known 1 rfl;exact XN (i:=0) (j:=((QM (bl s)).length)) (z:=(s.extract (0) (((QM (bl s)).length)))) ((A3.live.add e1).add e2) rfl Tryz.underlying9 rfl ⟨_,rfl⟩ (by omega) (by omega) rfl (A3.same rfl);exact Zc rfl (λ_ _ _ _ _ A4=>(Zf A4.live rfl (A4.same rfl)));exact Zc rfl (λ_ _ _ _ _ A5=>(Zf A5.live rfl (A5.same rfl)));exact Zc rfl (λ_ _ _ _ _ A6=>(Zf A6.live rfl (A6.same rfl)));refine Zc rfl (λ_ _ _ _ _ A7=>?_);obtain⟨_,e3,rfl⟩:=A7.known 5 rfl;exact Yj (A7.live.add e3) rfl Tryz.underlying9 (A7.same rfl);refine Zc rfl (λ_ _ _ _ _ A8=>?_);obtain⟨_,e4,rfl⟩:=A8.known 4 rfl;obtain⟨_,e5,rfl⟩:=A8.known 6 rfl;exact Zz (z:=((((QM (bl s)).length:Nat):Int)+((sep.size:Nat):Int))) ((A8.live.add e4).add e5) rfl rfl Xr (A8.same rfl);refine Zc rfl (λ_ _ _ _ _ A9=>?_);obtain⟨_,e6,rfl⟩:=A9.known 3 rfl;obtain⟨_,e7,rfl⟩:=A9.known 7 rfl;exact XN (i:=(((QM (bl s)).length)+sep.size)) (j:=s.size) (z:=(s.extract ((((QM (bl s)).length)+sep.size)) (s.size))) ((A9.live.add e6).add e7) rfl Tryz.underlying9 ⟨_,rfl⟩ rfl (by omega) (by omega) rfl (A9.same rfl);refine Zc rfl (λ_ _ _ _ _ A10=>?_);obtain⟨_,e8,rfl⟩:=A10.known 2 rfl;exact Qy (A10.live.add e8) rfl (A10.same rfl);intro S12 _ _ w12 l2 E1 R2 n1 L22 K1;obtain⟨_,e9,rfl⟩:=K1 8 (by decide);have L23:=L22.add e9;clear L22;obtain⟨_,e10,rfl⟩:=K1 9 (by decide);have L24:=L23.add e10;clear L23;have R3:Run _ _ S12 [] w12:=Yh R2 n1 [] (by simp) (by simp);exact sa L24 rfl λ_ L25=>sa L25 rfl λ_ L26=>sn (wp_ret ((Zt (Zn (rs:=Tryz.f147.results.toList) L26 rfl (.tmp rfl (.tmp rfl (.tmp rfl Res.nil))) (⟨_,_,rfl,R3.ext,(by rw[cut_left hcp.2.2 (by omega),cut_right hcp.2.2 (by omega),hcp.1];rfl)⟩)))));refine so L8 rfl (bF t1 (λ_=>YA L8 rfl rfl) λ_ L27=>sn (Zi L27 rfl rfl (wp_skip ((Zb (wp_seq ?_))))));have hcp:=idx47_neg (l:=bl s) (by omega);refine Za (sm L27 rfl ?_);intro _ L28;exact sa L28 rfl λ_ L29=>sa L29 rfl λ_ L30=>sa L30 rfl λ_ L31=>sn (wp_ret ((Zn (rs:=Tryz.f147.results.toList) (L31.kp [4,5,6] rfl) rfl (.tmp rfl (.tmp rfl (.tmp rfl Res.nil))) (⟨_,_,rfl,R1.ext,(by rw[hcp.2.1,ofBl_bl,hcp.1,hcp.2.2];rfl)⟩))))
set_option maxRecDepth 20000 in
theorem strings_Cut {S:Sh} {w:World} (hS:ZU S w) {s:ByteArray} {sep:ByteArray} (hsep:sep=⟨#[47]⟩) (hs:s.size<=1099511627776):Calls Tryz.prog 94 [(.string s),(.string sep)].toArray w (Ret S w (λS v=>v= .tuple [.string (YV (QM (bl s))),.string (YV (Zbr (bl s)).2.1),.bool (decide (Zdr (bl s)=true))].toArray)):=by
 refine ZB (n:=13) Tryz.func94 rfl rfl ?_;intro ac0 L0;replace L0:ZL ac0 13 [(0,(.string s)),(1,(.string sep))]:=L0;have R0:Run S w S [] w:=.start hS;refine wp_seq (Za (sa L0 rfl ?_));intro _ L1;refine sa L1 rfl λ_ L2=>sa L2 rfl λ_ L3=>sn (wp_seq (Za (sm L3 rfl λ_ L4=>sm L4 rfl λ_ L5=>so L5 rfl (Zh L5 rfl ent_147 (Zce R0.holds (s:=s) (sep:=sep) (hsep) (by omega)) λv_1 _ _ x1 v1=>?_))));have R1:=R0.call x1;obtain rfl:=v1;intro _ L6;refine so L6 rfl (Zk L6 rfl rfl λ_ L7=>so L7 rfl (Zk L7 rfl rfl λ_ L8=>so L8 rfl (Zk L8 rfl rfl λ_ L9=>sa L9 rfl λ_ L10=>sa L10 rfl λ_ L11=>sa L11 rfl λ_ L12=>sn ?_)));exact wp_ret ((Zn (rs:=Tryz.f94.results.toList) (L12.kp [4,5,6] rfl) rfl (.tmp rfl (.tmp rfl (.tmp rfl Res.nil))) (⟨_,_,rfl,R1.ext,rfl⟩)))
set_option maxRecDepth 20000 in
theorem Zc3 {S:Sh} {w:World} (hS:ZU S w) {s:ByteArray} (hlim:s.size<=1099511627776):Calls Tryz.prog 96 [(.string s)].toArray w (Ret S w (λS v=>((wd (bl s))/\v= .bool true)\/((¬(wd (bl s)))/\v= .bool false))):=by
 refine ZB (n:=20) Tryz.func96 rfl rfl ?_;intro ac0 L0;replace L0:ZL ac0 20 [(0,(.string s))]:=L0;have R0:Run S w S [] w:=.start hS;have hbs:=YD s;have htn:=@trimD_nil s;refine wp_seq (Za (sa L0 rfl ?_));intro _ L1;refine sn (wp_seq (Za (sm L1 rfl ?_)));intro _ L2;by_cases t1:¬s=(⟨#[]⟩:ByteArray);refine so L2 rfl (bT t1 (λ_=>QV L2 rfl rfl) λ_ L3=>sm L3 rfl λ_ L4=>son L4 rfl (Zf L4 rfl λ_ L5=>son L5 rfl (Zh L5 rfl ent_149 (strings_TrimR R0.holds (s:=s) (sep:=(⟨#[48,49,50,51,52,53,54,55,56,57]⟩:ByteArray)) (by rfl) (by omega)) λv_1 _ _ x1 v1=>?_)));have R1:=R0.call x1;obtain rfl:=v1;intro _ L6;by_cases t2:(trimD s)=(⟨#[]⟩:ByteArray);refine son L6 rfl (bT t2 (λ_=>YO L6 rfl rfl) λ_ L7=>so L7 rfl (Ze L7 rfl rfl λ_ L8=>sm L8 rfl λ_ L9=>son L9 rfl (Zf L9 rfl λ_ L10=>son L10 rfl (Yj L10 rfl Tryz.underlying9 λ_ L11=>?_))));by_cases t3:((s.size:Nat):Int)=(1:Int);refine son L11 rfl (bT t3 (λ_=>ZQ L11 rfl rfl) λ_ L12=>son L12 rfl (Zf L12 rfl λ_ L13=>sof L13 rfl λ_ L14=>sof L14 rfl λ_ L15=>sof L15 rfl λ_ L16=>son L16 rfl (Ze L16 rfl rfl λ_ L17=>so L17 rfl (Ze L17 rfl rfl λ_ L18=>?_))));exact sa L18 rfl λ_ L19=>sn (wp_ret ((Zn (rs:=Tryz.f96.results.toList) (L19.kp [2] rfl) rfl (.tmp rfl Res.nil) (⟨_,_,rfl,R1.ext,(Or.inl ⟨by first|exact dig_wd (Zav (by assumption)) (htn.1 (by assumption)) (by omega)|exact QQ (Classical.not_not.1 (by assumption))|(exact λq=>absurd (htn.2 q.2.1) (by assumption))|exact XM (by have q:=Zav (s:=s) (by assumption);omega) (by omega),rfl⟩)⟩))));refine son L11 rfl (bF t3 (λ_=>ZQ L11 rfl rfl) λ_ L21=>son L21 rfl (Zf L21 rfl λ_ L22=>son L22 rfl (Zf L22 rfl λ_ L23=>son L23 rfl (YH (j:=0) L23 rfl rfl Tryz.underlying9 (by have q:=Zav (s:=s) (by assumption);omega) (by have q:=Zav (s:=s) (by assumption);omega) λ_ L24=>?_))));by_cases t4:¬(((bl s).getD (0) 0:Nat):Int)=(48:Int);exact son L24 rfl (bT t4 (λ_=>Ym L24 rfl rfl) λ_ L25=>son L25 rfl (Ze L25 rfl rfl λ_ L26=>so L26 rfl (Ze L26 rfl rfl λ_ L27=>sa L27 rfl λ_ L28=>sn (wp_ret ((Zn (rs:=Tryz.f96.results.toList) (L28.kp [2] rfl) rfl (.tmp rfl Res.nil) (⟨_,_,rfl,R1.ext,(Or.inl ⟨by first|exact dig_wd (Zav (by assumption)) (htn.1 (by assumption)) (by omega)|exact QQ (Classical.not_not.1 (by assumption))|(exact λq=>absurd (htn.2 q.2.1) (by assumption))|exact XM (by have q:=Zav (s:=s) (by assumption);omega) (by omega),rfl⟩)⟩)))))));exact son L24 rfl (bF t4 (λ_=>Ym L24 rfl rfl) λ_ L30=>son L30 rfl (Ze L30 rfl rfl λ_ L31=>so L31 rfl (Ze L31 rfl rfl λ_ L32=>sa L32 rfl λ_ L33=>sn (wp_ret ((Zn (rs:=Tryz.f96.results.toList) (L33.kp [2] rfl) rfl (.tmp rfl Res.nil) (⟨_,_,rfl,R1.ext,(Or.inr ⟨by first|exact dig_wd (Zav (by assumption)) (htn.1 (by assumption)) (by omega)|exact QQ (Classical.not_not.1 (by assumption))|(exact λq=>absurd (htn.2 q.2.1) (by assumption))|exact XM (by have q:=Zav (s:=s) (by assumption);omega) (by omega),rfl⟩)⟩)))))));refine son L6 rfl (bF t2 (λ_=>YO L6 rfl rfl) λ_ L35=>so L35 rfl (Ze L35 rfl rfl λ_ L36=>sm L36 rfl λ_ L37=>sof L37 rfl λ_ L38=>sof L38 rfl λ_ L39=>sof L39 rfl λ_ L40=>sof L40 rfl λ_ L41=>?_));refine ZX L41 rfl rfl rfl rfl rfl ?_;intro _ L42;refine ZX L42 rfl rfl rfl rfl rfl ?_;intro _ L43;refine ZX L43 rfl rfl rfl rfl rfl ?_;intro _ L44;exact sof L44 rfl λ_ L45=>so L45 rfl (Ze L45 rfl rfl λ_ L46=>sa L46 rfl λ_ L47=>sn (wp_ret ((Zn (rs:=Tryz.f96.results.toList) (L47.kp [2] rfl) rfl (.tmp rfl Res.nil) (⟨_,_,rfl,R1.ext,(Or.inr ⟨by first|exact dig_wd (Zav (by assumption)) (htn.1 (by assumption)) (by omega)|exact QQ (Classical.not_not.1 (by assumption))|(exact λq=>absurd (htn.2 q.2.1) (by assumption))|exact XM (by have q:=Zav (s:=s) (by assumption);omega) (by omega),rfl⟩)⟩)))));refine so L2 rfl (bF t1 (λ_=>QV L2 rfl rfl) λ_ L49=>sm L49 rfl λ_ L50=>sof L50 rfl λ_ L51=>sof L51 rfl λ_ L52=>sof L52 rfl λ_ L53=>so L53 rfl (Ze L53 rfl rfl λ_ L54=>sm L54 rfl λ_ L55=>?_));refine sof L55 rfl λ_ L56=>sof L56 rfl λ_ L57=>sof L57 rfl λ_ L58=>sof L58 rfl λ_ L59=>ZX L59 rfl rfl rfl rfl rfl λ_ L60=>ZX L60 rfl rfl rfl rfl rfl λ_ L61=>ZX L61 rfl rfl rfl rfl rfl λ_ L62=>?_;exact sof L62 rfl λ_ L63=>so L63 rfl (Ze L63 rfl rfl λ_ L64=>sa L64 rfl λ_ L65=>sn (wp_ret ((Zn (rs:=Tryz.f96.results.toList) (L65.kp [2] rfl) rfl (.tmp rfl Res.nil) (⟨_,_,rfl,R0.ext,(Or.inr ⟨by first|exact dig_wd (Zav (by assumption)) (htn.1 (by assumption)) (by omega)|exact QQ (Classical.not_not.1 (by assumption))|(exact λq=>absurd (htn.2 q.2.1) (by assumption))|exact XM (by have q:=Zav (s:=s) (by assumption);omega) (by omega),rfl⟩)⟩)))))
set_option maxRecDepth 20000 in
theorem frac_Parse {S:Sh} {w:World} (hS:ZU S w) {s:ByteArray} (hlim:s.size<=1099511627775):Calls Tryz.prog 32 [(.string s)].toArray w (Ret S w (λS v=>∃(c0:List Value),v= .tuple [.agg c0.toArray,.int .i64 (Za3 (bl s))].toArray/\Fs S c0 [Zbv (bl s)] (900))):=by
 refine ZB (n:=80) Tryz.func32 rfl rfl ?_;intro ac0 L0;replace L0:ZL ac0 80 [(0,(.string s))]:=L0;have R0:Run S w S [] w:=.start hS;refine wp_seq (Za (so L0 rfl (ZJ (cs:=zF1) XG R0 rfl ?_)));intro b1 _ R1 _ L1;refine sa L1 rfl λ_ L2=>sn (wp_seq (Za (sm L2 rfl λ_ L3=>so L3 rfl (Zh L3 rfl ent_94 (strings_Cut R1.holds (s:=s) (sep:=(⟨#[47]⟩:ByteArray)) (by rfl) (by omega)) λv_1 _ _ x1 v1=>?_))));have R2:=R1.call x1;obtain rfl:=v1;intro _ L4;refine sm L4 rfl λ_ L5=>so L5 rfl (Zk L5 rfl rfl λ_ L6=>so L6 rfl (Zk L6 rfl rfl λ_ L7=>so L7 rfl (Zk L7 rfl rfl λ_ L8=>sa L8 rfl λ_ L9=>sa L9 rfl λ_ L10=>sa L10 rfl λ_ L11=>?_)));have L12:=(L11.kp [2,3,4,5,6] rfl);clear L11;refine sn (wp_seq (Za (sm L12 rfl ?_)));intro _ L13;refine so L13 rfl (Zh L13 rfl ent_95 (Zfk R2.holds (s:=(YV (QM (bl s)))) (sep:=(⟨#[45]⟩:ByteArray)) (by rfl)) λv_2 S2 _ x2 v2=>?_);have R3:=R2.call x2;obtain rfl:=v2;intro _ L14;refine sa L14 rfl λ_ L15=>sn ?_;refine Xf (λac ww=>∃(S':Sh) (nm:ByteArray) (dn:ByteArray) (sz:ByteArray),S2.le S'/\ZL ac 80 [(2,(.pointer (some ⟨b1,0,none⟩))),(3,(.int .i64 (0:Int))),(6,(.bool (decide (Zdr (bl s)=true)))),(4,(.string nm)),(5,(.string dn)),(7,(.string sz))]/\Run S w S' [(b1,36,zF1)] ww/\(bl nm=QM (bl s))/\(bl sz=Qo (bl s))/\(bl dn=Qr (bl s))) ?_ ?_;rintro ac1 _ ⟨_,nm,dn,sz,l3,L16,R4,hnm,hsz,hdn⟩;have hmi:=Zd9 hnm hsz;have hsb:=YD sz;have hdb:=YD dn;have hbb:=@bitlen_gt1 (Xi (bl dn));have hb1:=@bitlen_one (Nat.gcd (Xi (bl sz)) (Xi (bl dn)));have hszl:sz.size<=s.size:=by rw[<-YD,<-YD s,hsz];exact fsize_len _
 have hdnl:dn.size<=s.size+1:=by rw[<-YD,<-YD s,hdn];exact fden_len _
 refine wp_seq (Za (sm L16 rfl ?_));intro _ L17;refine so L17 rfl (Yj L17 rfl Tryz.underlying9 λ_ L18=>sm L18 rfl λ_ L19=>so L19 rfl (Yj L19 rfl Tryz.underlying9 λ_ L20=>?_));by_cases t1:((sz.size:Nat):Int)<((nm.size:Nat):Int);refine so L20 rfl (bT t1 (λ_=>Zu L20 rfl rfl) λ_ L21=>sa L21 rfl λ_ L22=>?_);have L23:=(L22.kp [2,3,6,5,7,8] rfl);clear L22;refine sn (wp_seq (wp_seq (Za (sm L23 rfl ?_))));intro _ L24;refine so L24 rfl (Zh L24 rfl ent_96 (Zc3 R4.holds (s:=sz) (by omega)) λv_3 S4 _ x3 v3=>?_);have R5:=R4.call x3;rcases v3 with⟨t2,rfl⟩|⟨t3,rfl⟩;intro _ L25;refine so L25 rfl (Xc L25 rfl rfl λ_ L26=>sm L26 rfl λ_ L27=>son L27 rfl (Zf L27 rfl λ_ L28=>son L28 rfl (Zh L28 rfl ent_96 (Zc3 R5.holds (s:=dn) (by omega)) λv_4 S5 _ x4 v4=>?_)));have R6:=R5.call x4;rcases v4 with⟨t4,rfl⟩|⟨t5,rfl⟩;intro _ L29;refine son L29 rfl (Xc L29 rfl rfl λ_ L30=>so L30 rfl (Ze L30 rfl rfl λ_ L31=>sm L31 rfl λ_ L32=>son L32 rfl (Zf L32 rfl λ_ L33=>son L33 rfl (Zf L33 rfl λ_ L34=>son L34 rfl (Zf L34 rfl λ_ L35=>?_)))));by_cases t6:sz=(⟨#[48]⟩:ByteArray);refine son L35 rfl (bT t6 (λ_=>YO L35 rfl rfl) λ_ L36=>son L36 rfl (Ze L36 rfl rfl λ_ L37=>so L37 rfl (Ze L37 rfl rfl λ_ L38=>?_)));have L39:=(L38.kp [2,3,6,5,7,8,42] rfl);clear L38;refine sn (Zm L39 rfl rfl (wp_seq (Za ?_)));have h1:Fs S5 zF1 [0] (0):=Fs.zero _ _;refine so L39 rfl (ZG (cs:=zF1) L39 XG Zai .nil (by rfl) λ_ L40=>Zv L40 rfl rfl (Zl L40 rfl rfl R6 Yp h1.len rfl h1.ones λ_ R7 _ L41=>sa L41 rfl λ_ L42=>sn (wp_ret ((Zt (Zn (rs:=Tryz.f32.results.toList) L42 rfl (Res.aggW rfl Qj Yp (R7.has (List.Mem.head _)) h1.len (.tmp rfl Res.nil)) ?_))))));obtain⟨her,hvl⟩:=Zb3 (l:=bl s) (by unfold Zds;rw[<-hsz,<-hdn];first|exact Or.inl (by assumption)|exact Or.inr (Or.inl (by assumption))|exact Or.inr (Or.inr ⟨hmi.1 (by assumption),str48.1 (by assumption)⟩));exact⟨_,_,rfl,R7.ext,⟨_,(by rw[her];rfl),(h1.toR (by rw[hvl]) (by exact YQ _))⟩⟩;refine son L35 rfl (bF t6 (λ_=>YO L35 rfl rfl) λ_ L43=>son L43 rfl (Ze L43 rfl rfl λ_ L44=>so L44 rfl (Ze L44 rfl rfl λ_ L45=>?_)));have L46:=(L45.kp [2,3,6,5,7,8,42] rfl);clear L45;refine sn (Zi L46 rfl rfl (wp_skip ((Zb (wp_seq ?_)))));have hnb:¬Zds (bl s):=by(unfold Zds;rw[<-hsz,<-hdn];first|exact λq=>q.elim (λq=>q (by assumption)) (λq=>q.elim (λq=>q (by assumption)) (λq=>absurd (hmi.2 q.1) (by assumption)))|exact λq=>q.elim (λq=>q (by assumption)) (λq=>q.elim (λq=>q (by assumption)) (λq=>absurd (str48.2 q.2) (by assumption))))
 refine Za (sm L46 rfl ?_);intro _ L47;refine so L47 rfl (Zh L47 rfl ent_97 (Zcb R6.holds (s:=sz) (by omega)) λv_5 _ _ x5 v5=>?_);have R8:=R6.call x5;rcases v5 with⟨t7,c1,rfl,h2⟩|⟨t8,c2,rfl,h3⟩|⟨t9,c3,rfl,h4⟩;exact absurd t7 (not_not_intro t2);intro _ L48;refine sm L48 rfl λ_ L49=>so L49 rfl (Zk L49 rfl rfl λ_ L50=>so L50 rfl (Zk L50 rfl rfl λ_ L51=>so L51 rfl (ZJ (cs:=zN1) ZZ R8 rfl λb2 _ R9 _ L52=>Zv L52 rfl rfl (Zl L52 rfl rfl R9 Zo h3.len rfl h3.ones λ_ R10 _ L53=>sa L53 rfl λ_ L54=>?_))));have L55:=(L54.kp [2,3,6,5,8,9,10] rfl);clear L54;refine sn (wp_seq (Za (sm L55 rfl ?_)));intro _ L56;refine so L56 rfl (Zh L56 rfl ent_97 (Zcb R10.holds (s:=dn) (by omega)) λv_6 S7 _ x6 v6=>?_);have R11:=R10.call x6;rcases v6 with⟨t10,c4,rfl,h5⟩|⟨t11,c5,rfl,h6⟩|⟨t12,c6,rfl,h7⟩;exact absurd t10 (not_not_intro t4);intro _ L57;refine sm L57 rfl λ_ L58=>so L58 rfl (Zk L58 rfl rfl λ_ L59=>so L59 rfl (Zk L59 rfl rfl λ_ L60=>so L60 rfl (ZJ (cs:=zN1) ZZ R11 rfl λb3 _ R12 _ L61=>Zv L61 rfl rfl (Zl L61 rfl rfl R12 Zo h6.len rfl h6.ones λ_ R13 _ L62=>sa L62 rfl λ_ L63=>?_))));have L64:=(L63.kp [2,3,6,8,9,10,11,12] rfl);clear L63;refine sn (wp_seq (wp_seq (Za (sm L64 rfl ?_))));intro _ L65;refine so L65 rfl (XA (b:=true) (by decide) (λ_ k_=>Ym L65 rfl rfl k_) λ_ L66=>sm L66 rfl λ_ L67=>sof L67 rfl λ_ L68=>sof L68 rfl λ_ L69=>so L69 rfl (Ze L69 rfl rfl λ_ L70=>?_));have L71:=(L70.kp [2,3,6,8,9,11,59] rfl);clear L70;refine sn (Zm L71 rfl rfl (wp_seq (Za ?_)));have h8:Fs S7 zF1 [0] (0):=Fs.zero _ _;refine so L71 rfl (ZG (cs:=zF1) L71 XG Zai .nil (by rfl) λ_ L72=>Zv L72 rfl rfl (Zl L72 rfl rfl (XC R13) Yp h8.len rfl h8.ones λ_ R14 _ L73=>sa L73 rfl λ_ L74=>sn (wp_ret ((Zt (Zn (rs:=Tryz.f32.results.toList) L74 rfl (Res.aggW rfl Qj Yp (R14.has (List.Mem.head _)) h8.len (.tmp rfl Res.nil)) ?_))))));obtain⟨her,hvl⟩:=Zan hnb (by unfold Ql;rw[<-hsz,<-hdn];omega);exact⟨_,_,rfl,R14.ext,⟨_,(by rw[her];rfl),(h8.toR (by rw[hvl]) (by exact YQ _))⟩⟩;intro _ L75;refine sm L75 rfl λ_ L76=>so L76 rfl (Zk L76 rfl rfl λ_ L77=>so L77 rfl (Zk L77 rfl rfl λ_ L78=>so L78 rfl (ZJ (cs:=zN1) ZZ R11 rfl λb4 _ R15 _ L79=>Zv L79 rfl rfl (Zl L79 rfl rfl R15 Zo h7.len rfl h7.ones λ_ R16 _ L80=>sa L80 rfl λ_ L81=>?_))));have L82:=(L81.kp [2,3,6,8,9,10,11,12] rfl);clear L81;refine sn (wp_seq (wp_seq (Za (sm L82 rfl ?_))));intro _ L83;refine so L83 rfl (XA (b:=true) (by decide) (λ_ k_=>Ym L83 rfl rfl k_) λ_ L84=>sm L84 rfl λ_ L85=>sof L85 rfl λ_ L86=>sof L86 rfl λ_ L87=>so L87 rfl (Ze L87 rfl rfl λ_ L88=>?_));have L89:=(L88.kp [2,3,6,8,9,11,59] rfl);clear L88;refine sn (Zm L89 rfl rfl (wp_seq (Za ?_)));have h9:Fs S7 zF1 [0] (0):=Fs.zero _ _;refine so L89 rfl (ZG (cs:=zF1) L89 XG Zai .nil (by rfl) λ_ L90=>Zv L90 rfl rfl (Zl L90 rfl rfl (XC R16) Yp h9.len rfl h9.ones λ_ R17 _ L91=>sa L91 rfl λ_ L92=>sn (wp_ret ((Zt (Zn (rs:=Tryz.f32.results.toList) L92 rfl (Res.aggW rfl Qj Yp (R17.has (List.Mem.head _)) h9.len (.tmp rfl Res.nil)) ?_))))));obtain⟨her,hvl⟩:=Zan hnb (by unfold Ql;rw[<-hsz,<-hdn];omega);exact⟨_,_,rfl,R17.ext,⟨_,(by rw[her];rfl),(h9.toR (by rw[hvl]) (by exact YQ _))⟩⟩;intro _ L93;refine sm L93 rfl λ_ L94=>so L94 rfl (Zk L94 rfl rfl λ_ L95=>so L95 rfl (Zk L95 rfl rfl λ_ L96=>so L96 rfl (ZJ (cs:=zN1) ZZ R8 rfl λb5 _ R18 _ L97=>Zv L97 rfl rfl (Zl L97 rfl rfl R18 Zo h4.len rfl h4.ones λ_ R19 _ L98=>sa L98 rfl λ_ L99=>?_))));have L100:=(L99.kp [2,3,6,5,8,9,10] rfl);clear L99;refine sn (wp_seq (Za (sm L100 rfl ?_)));intro _ L101;refine so L101 rfl (Zh L101 rfl ent_97 (Zcb R19.holds (s:=dn) (by omega)) λv_7 S8 _ x7 v7=>?_);have R20:=R19.call x7;have l8:=x7.le;rcases v7 with⟨t13,c7,rfl,h10⟩|⟨t14,c8,rfl,h11⟩|⟨t15,c9,rfl,h12⟩;exact absurd t13 (not_not_intro t4);intro _ L102;refine sm L102 rfl λ_ L103=>so L103 rfl (Zk L103 rfl rfl λ_ L104=>so L104 rfl (Zk L104 rfl rfl λ_ L105=>so L105 rfl (ZJ (cs:=zN1) ZZ R20 rfl λb6 _ R21 _ L106=>Zv L106 rfl rfl (Zl L106 rfl rfl R21 Zo h11.len rfl h11.ones λ_ R22 _ L107=>sa L107 rfl λ_ L108=>?_))));have L109:=(L108.kp [2,3,6,8,9,10,11,12] rfl);clear L108;refine sn (wp_seq (wp_seq (Za (sm L109 rfl ?_))));intro _ L110;refine so L110 rfl (XA (b:=false) (by decide) (λ_ k_=>Ym L110 rfl rfl k_) λ_ L111=>sm L111 rfl λ_ L112=>son L112 rfl (Zf L112 rfl λ_ L113=>son L113 rfl (XA (b:=true) (by decide) (λ_ k_=>Ym L113 rfl rfl k_) λ_ L114=>so L114 rfl (Ze L114 rfl rfl λ_ L115=>?_))));have L116:=(L115.kp [2,3,6,8,9,11,59] rfl);clear L115;refine sn (Zm L116 rfl rfl (wp_seq (Za ?_)));have h13:Fs S8 zF1 [0] (0):=Fs.zero _ _;refine so L116 rfl (ZG (cs:=zF1) L116 XG Zai .nil (by rfl) λ_ L117=>Zv L117 rfl rfl (Zl L117 rfl rfl (XC R22) Yp h13.len rfl h13.ones λ_ R23 _ L118=>sa L118 rfl λ_ L119=>sn (wp_ret ((Zt (Zn (rs:=Tryz.f32.results.toList) L119 rfl (Res.aggW rfl Qj Yp (R23.has (List.Mem.head _)) h13.len (.tmp rfl Res.nil)) ?_))))));obtain⟨her,hvl⟩:=Zan hnb (by unfold Ql;rw[<-hsz,<-hdn];omega);exact⟨_,_,rfl,R23.ext,⟨_,(by rw[her];rfl),(h13.toR (by rw[hvl]) (by exact YQ _))⟩⟩;intro _ L120;refine sm L120 rfl λ_ L121=>so L121 rfl (Zk L121 rfl rfl λ_ L122=>so L122 rfl (Zk L122 rfl rfl λ_ L123=>so L123 rfl (ZJ (cs:=zN1) ZZ R20 rfl λb7 _ R24 _ L124=>Zv L124 rfl rfl (Zl L124 rfl rfl R24 Zo h12.len rfl h12.ones λ_ R25 _ L125=>sa L125 rfl λ_ L126=>?_))));have L127:=(L126.kp [2,3,6,8,9,10,11,12] rfl);clear L126;refine sn (wp_seq (wp_seq (Za (sm L127 rfl ?_))));intro _ L128;refine so L128 rfl (XA (b:=false) (by decide) (λ_ k_=>Ym L128 rfl rfl k_) λ_ L129=>sm L129 rfl λ_ L130=>son L130 rfl (Zf L130 rfl λ_ L131=>son L131 rfl (XA (b:=false) (by decide) (λ_ k_=>Ym L131 rfl rfl k_) λ_ L132=>so L132 rfl (Ze L132 rfl rfl λ_ L133=>?_))));have L134:=(L133.kp [2,3,6,8,9,11,59] rfl);clear L133;refine sn (Zi L134 rfl rfl (wp_skip ((Zb (wp_seq (wp_seq ?_))))));by_cases t16:Zdr (bl s)=true;have L135:=L134;rw[decide_eq_true t16] at L135;have hnl:¬Ql (bl s):=by(unfold Ql;rw[<-hsz,<-hdn];omega)
 refine Za (sm L135 rfl ?_);intro _ L136;refine sm L136 rfl λ_ L137=>son L137 rfl (ZA L137 rfl ZK Zo (R25.has (List.Mem.head _)) h12.len λ_ L138=>son L138 rfl (Zh L138 rfl Zfc (YF R25.holds h12) λv_8 S9 _ x8 v8=>?_));have R26:=R25.call x8;have l9:=x8.le;obtain rfl:=v8;intro _ L139;by_cases t17:((Zs (Xi (bl dn)):Nat):Int)<(2:Int);refine son L139 rfl (bT t17 (λ_=>Zu L139 rfl rfl) λ_ L140=>son L140 rfl (Zf L140 rfl λ_ L141=>sof L141 rfl λ_ L142=>sof L142 rfl λ_ L143=>sof L143 rfl λ_ L144=>sof L144 rfl λ_ L145=>sof L145 rfl λ_ L146=>?_));refine son L146 rfl (Ze L146 rfl rfl λ_ L147=>so L147 rfl (Ze L147 rfl rfl λ_ L148=>?_));have L149:=(L148.kp [2,3,8,9,11,73] rfl);clear L148;refine sn (Zm L149 rfl rfl (wp_seq (Za ?_)));have h14:Fs S9 zF1 [0] (0):=Fs.zero _ _;refine so L149 rfl (ZG (cs:=zF1) L149 XG Zai .nil (by rfl) λ_ L150=>Zv L150 rfl rfl (Zl L150 rfl rfl (XC R26) Yp h14.len rfl h14.ones λ_ R27 _ L151=>sa L151 rfl λ_ L152=>sn (wp_ret ((Zt (Zn (rs:=Tryz.f32.results.toList) L152 rfl (Res.aggW rfl Qj Yp (R27.has (List.Mem.head _)) h14.len (.tmp rfl Res.nil)) ?_))))));obtain⟨her,hvl⟩:=Zc6 hnb hnl (by unfold fred;rw[<-hsz,<-hdn];exact⟨by assumption,by omega⟩);exact⟨_,_,rfl,R27.ext,⟨_,(by rw[her];rfl),(h14.toR (by rw[hvl]) (by exact YQ _))⟩⟩;refine son L139 rfl (bF t17 (λ_=>Zu L139 rfl rfl) λ_ L153=>son L153 rfl (Zf L153 rfl λ_ L154=>son L154 rfl (ZA L154 rfl ZK Zo (R26.has (List.Mem.tail _ (List.Mem.head _))) h4.len λ_ L155=>son L155 rfl (ZA L155 rfl ZK Zo (R26.has (List.Mem.head _)) h12.len λ_ L156=>son L156 rfl (Zh L156 rfl ent_79 (nat_Gcd R26.holds (h4.up (l8.trans l9)) (h12.up l9) (by omega)) λv_9 _ _ x9 v9=>?_)))));have R28:=R26.call x9;have l10:=x9.le;obtain⟨c10,rfl,h15⟩:=v9;intro _ L157;refine son L157 rfl (Zh L157 rfl Zfc (YF R28.holds h15) λv_10 S11 _ x10 v10=>?_);have R29:=R28.call x10;have l11:=x10.le;obtain rfl:=v10;intro _ L158;by_cases t18:¬((Zs (Nat.gcd (Xi (bl sz)) (Xi (bl dn))):Nat):Int)=(1:Int);refine son L158 rfl (bT t18 (λ_=>Ym L158 rfl rfl) λ_ L159=>son L159 rfl (Ze L159 rfl rfl λ_ L160=>so L160 rfl (Ze L160 rfl rfl λ_ L161=>?_)));have L162:=(L161.kp [2,3,8,9,11,73] rfl);clear L161;refine sn (Zm L162 rfl rfl (wp_seq (Za ?_)));have h16:Fs S11 zF1 [0] (0):=Fs.zero _ _;refine so L162 rfl (ZG (cs:=zF1) L162 XG Zai .nil (by rfl) λ_ L163=>Zv L163 rfl rfl (Zl L163 rfl rfl (XC R29) Yp h16.len rfl h16.ones λ_ R30 _ L164=>sa L164 rfl λ_ L165=>sn (wp_ret ((Zt (Zn (rs:=Tryz.f32.results.toList) L165 rfl (Res.aggW rfl Qj Yp (R30.has (List.Mem.head _)) h16.len (.tmp rfl Res.nil)) ?_))))));obtain⟨her,hvl⟩:=Zc6 hnb hnl (by unfold fred;rw[<-hsz,<-hdn];exact⟨by assumption,by omega⟩);exact⟨_,_,rfl,R30.ext,⟨_,(by rw[her];rfl),(h16.toR (by rw[hvl]) (by exact YQ _))⟩⟩;refine son L158 rfl (bF t18 (λ_=>Ym L158 rfl rfl) λ_ L166=>son L166 rfl (Ze L166 rfl rfl λ_ L167=>so L167 rfl (Ze L167 rfl rfl λ_ L168=>?_)));have L169:=(L168.kp [2,3,8,9,11,73] rfl);clear L168;refine sn (Zi L169 rfl rfl (wp_skip ((Zb (wp_seq ?_)))));have hnr:¬fred (bl s):=by(unfold fred;rw[<-hsz,<-hdn];intro q;first|exact absurd q.1 (by assumption)|exact q.2.elim (λq=>by omega) (λq=>by omega))
 have hdp:0<Xi (bl dn):=by rw[hdn];exact Nat.pos_of_ne_zero (Ze0 hnb hnr)
 have hmn:=@Zd9 s nm sz hnm hsz;have L170:=(L169.kp [2,3,8,9,11] rfl);refine Zx (E0:=[]) (H0:=[(b7,32,c9),(b5,32,c3),(b1,36,zF1)]) (n:=80) mixed 4 [] (λk=>0) (Zdm [.is (.bool true),.is (.agg (c3:List Value).toArray),(kvIn (sI true (Xi (bl sz))) (900)),.is (.agg (c9:List Value).toArray)]) L170 R29 (by simp) (by simp) (by rfl) (by rfl) (by simp) (ZY ?_) ?_;refine(An ?_ (An ?_ (An ?_ (An ?_ trivial))));exact Zc rfl (λ_ _ _ _ _ A1=>(Zf A1.live rfl (A1.same rfl)));exact Zc rfl (λ_ _ _ _ _ A2=>(ZA A2.live rfl ZK Zo (A2.run.has (List.mem_append_right _ (List.Mem.tail _ (List.Mem.head _)))) h4.len (A2.same rfl)));refine Zc rfl (λ_ _ _ _ _ A3=>?_);obtain⟨_,e1,rfl⟩:=A3.known 0 rfl;obtain⟨_,e2,rfl⟩:=A3.known 1 rfl;exact Zh ((A3.live.add e1).add e2) rfl Zgj (Xt A3.run.holds (mi:=true) (h4.up (l8.trans (l9.trans (l10.trans (l11.trans A3.le)))))) λv_11 _ _ x11 v11=>(A3.post x11.le (A3.run.call x11) v11);exact Zc rfl (λ_ _ _ _ _ A4=>(ZA A4.live rfl ZK Zo (A4.run.has (List.mem_append_right _ (List.Mem.head _))) h12.len (A4.same rfl)));intro S17 _ _ w36 l13 E1 R32 n1 L175 K1;obtain⟨_,e3,c11,rfl,h17⟩:=K1 2 (by decide);have L176:=L175.add e3;clear L175;obtain⟨_,e4,rfl⟩:=K1 3 (by decide);have L177:=L176.add e4;clear L176;have R33:Run _ _ S17 [(b7,32,c9),(b5,32,c3),(b1,36,zF1)] w36:=Yh R32 n1 [] (by simp) (by simp);refine so L177 rfl (Zh L177 rfl ent_99 (Zch R33.holds h17 (h12.up (l9.trans (l10.trans (l11.trans l13)))) (hdp) (by omega)) λv_12 _ _ x12 v12=>?_);have R34:=R33.call x12;obtain⟨c12,rfl,h18⟩:=v12;intro _ L178;refine Zv L178 rfl rfl (Zl L178 rfl rfl (XC R34) Yp h18.len rfl h18.ones λ_ R35 _ L179=>sa L179 rfl λ_ L180=>sn (wp_ret ((Zn (rs:=Tryz.f32.results.toList) (L180.kp [2,3] rfl) rfl (Res.aggW rfl Qj Yp (R35.has (List.Mem.head _)) h18.len (.tmp rfl Res.nil)) ?_))));obtain⟨her,hvl⟩:=ferr_ok hnb hnl hnr;exact⟨_,_,rfl,R35.ext,⟨_,(by rw[her];rfl),(h18.toR (by rw[hvl,<-hsz,<-hdn];first|rw[show Zcp (bl s)=true from hmi.1 (by assumption)]|rw[show Zcp (bl s)=false from(by cases q:Zcp (bl s);rfl;exact absurd (hmi.2 q) (by assumption))]) (by exact YQ _))⟩⟩;have L182:=L134;rw[decide_eq_false t16] at L182;have hnl:¬Ql (bl s):=by(unfold Ql;rw[<-hsz,<-hdn];omega)
 refine Za (sm L182 rfl ?_);intro _ L183;refine sm L183 rfl λ_ L184=>sof L184 rfl λ_ L185=>sof L185 rfl λ_ L186=>sof L186 rfl λ_ L187=>sof L187 rfl λ_ L188=>ZX L188 rfl rfl rfl rfl rfl λ_ L189=>ZX L189 rfl rfl rfl rfl rfl λ_ L190=>?_;refine ZX L190 rfl rfl rfl rfl rfl ?_;intro _ L191;refine ZX L191 rfl rfl rfl rfl rfl ?_;intro _ L192;refine ZX L192 rfl rfl rfl rfl rfl ?_;intro _ L193;refine sof L193 rfl λ_ L194=>so L194 rfl (Ze L194 rfl rfl λ_ L195=>?_);have L196:=(L195.kp [2,3,8,9,11,73] rfl);clear L195;refine sn (Zi L196 rfl rfl (wp_skip ((Zb (wp_seq ?_)))));have hnr:¬fred (bl s):=by(unfold fred;rw[<-hsz,<-hdn];intro q;first|exact absurd q.1 (by assumption)|exact q.2.elim (λq=>by omega) (λq=>by omega))
 have hdp:0<Xi (bl dn):=by rw[hdn];exact Nat.pos_of_ne_zero (Ze0 hnb hnr)
 have hmn:=@Zd9 s nm sz hnm hsz;have L197:=(L196.kp [2,3,8,9,11] rfl);refine Zx (E0:=[]) (H0:=[(b7,32,c9),(b5,32,c3),(b1,36,zF1)]) (n:=80) mixed 4 [] (λk=>0) (Zdm [.is (.bool true),.is (.agg (c3:List Value).toArray),(kvIn (sI true (Xi (bl sz))) (900)),.is (.agg (c9:List Value).toArray)]) L197 R25 (by simp) (by simp) (by rfl) (by rfl) (by simp) (ZY ?_) ?_;refine(An ?_ (An ?_ (An ?_ (An ?_ trivial))));exact Zc rfl (λ_ _ _ _ _ A5=>(Zf A5.live rfl (A5.same rfl)));exact Zc rfl (λ_ _ _ _ _ A6=>(ZA A6.live rfl ZK Zo (A6.run.has (List.mem_append_right _ (List.Mem.tail _ (List.Mem.head _)))) h4.len (A6.same rfl)));refine Zc rfl (λ_ _ _ _ _ A7=>?_);obtain⟨_,e5,rfl⟩:=A7.known 0 rfl;obtain⟨_,e6,rfl⟩:=A7.known 1 rfl;exact Zh ((A7.live.add e5).add e6) rfl Zgj (Xt A7.run.holds (mi:=true) (h4.up (l8.trans A7.le))) λv_13 _ _ x13 v13=>(A7.post x13.le (A7.run.call x13) v13);exact Zc rfl (λ_ _ _ _ _ A8=>(ZA A8.live rfl ZK Zo (A8.run.has (List.mem_append_right _ (List.Mem.head _))) h12.len (A8.same rfl)));intro S24 _ _ w44 l16 E2 R37 n2 L202 K2;obtain⟨_,e7,c13,rfl,h19⟩:=K2 2 (by decide);have L203:=L202.add e7;clear L202;obtain⟨_,e8,rfl⟩:=K2 3 (by decide);have L204:=L203.add e8;clear L203;have R38:Run _ _ S24 [(b7,32,c9),(b5,32,c3),(b1,36,zF1)] w44:=Yh R37 n2 [] (by simp) (by simp);refine so L204 rfl (Zh L204 rfl ent_99 (Zch R38.holds h19 (h12.up l16) (hdp) (by omega)) λv_14 _ _ x14 v14=>?_);have R39:=R38.call x14;obtain⟨c14,rfl,h20⟩:=v14;intro _ L205;refine Zv L205 rfl rfl (Zl L205 rfl rfl (XC R39) Yp h20.len rfl h20.ones λ_ R40 _ L206=>sa L206 rfl λ_ L207=>sn (wp_ret ((Zn (rs:=Tryz.f32.results.toList) (L207.kp [2,3] rfl) rfl (Res.aggW rfl Qj Yp (R40.has (List.Mem.head _)) h20.len (.tmp rfl Res.nil)) ?_))));obtain⟨her,hvl⟩:=ferr_ok hnb hnl hnr;exact⟨_,_,rfl,R40.ext,⟨_,(by rw[her];rfl),(h20.toR (by rw[hvl,<-hsz,<-hdn];first|rw[show Zcp (bl s)=true from hmi.1 (by assumption)]|rw[show Zcp (bl s)=false from(by cases q:Zcp (bl s);rfl;exact absurd (hmi.2 q) (by assumption))]) (by exact YQ _))⟩⟩;intro _ L209;refine son L209 rfl (Xc L209 rfl rfl λ_ L210=>so L210 rfl (Ze L210 rfl rfl λ_ L211=>sm L211 rfl λ_ L212=>sof L212 rfl λ_ L213=>sof L213 rfl λ_ L214=>ZX L214 rfl rfl rfl rfl rfl λ_ L215=>ZX L215 rfl rfl rfl rfl rfl λ_ L216=>?_));refine sof L216 rfl λ_ L217=>so L217 rfl (Ze L217 rfl rfl λ_ L218=>?_);have L219:=(L218.kp [2,3,6,5,7,8,42] rfl);clear L218;refine sn (Zm L219 rfl rfl (wp_seq (Za ?_)));have h21:Fs S5 zF1 [0] (0):=Fs.zero _ _;refine so L219 rfl (ZG (cs:=zF1) L219 XG Zai .nil (by rfl) λ_ L220=>Zv L220 rfl rfl (Zl L220 rfl rfl R6 Yp h21.len rfl h21.ones λ_ R41 _ L221=>sa L221 rfl λ_ L222=>sn (wp_ret ((Zt (Zn (rs:=Tryz.f32.results.toList) L222 rfl (Res.aggW rfl Qj Yp (R41.has (List.Mem.head _)) h21.len (.tmp rfl Res.nil)) ?_))))));obtain⟨her,hvl⟩:=Zb3 (l:=bl s) (by unfold Zds;rw[<-hsz,<-hdn];first|exact Or.inl (by assumption)|exact Or.inr (Or.inl (by assumption))|exact Or.inr (Or.inr ⟨hmi.1 (by assumption),str48.1 (by assumption)⟩));exact⟨_,_,rfl,R41.ext,⟨_,(by rw[her];rfl),(h21.toR (by rw[hvl]) (by exact YQ _))⟩⟩;intro _ L223;refine so L223 rfl (Xc L223 rfl rfl λ_ L224=>sm L224 rfl λ_ L225=>sof L225 rfl λ_ L226=>sof L226 rfl λ_ L227=>sof L227 rfl λ_ L228=>so L228 rfl (Ze L228 rfl rfl λ_ L229=>sm L229 rfl λ_ L230=>?_));refine sof L230 rfl λ_ L231=>sof L231 rfl λ_ L232=>ZX L232 rfl rfl rfl rfl rfl λ_ L233=>ZX L233 rfl rfl rfl rfl rfl λ_ L234=>sof L234 rfl λ_ L235=>so L235 rfl (Ze L235 rfl rfl λ_ L236=>?_);have L237:=(L236.kp [2,3,6,5,7,8,42] rfl);clear L236;refine sn (Zm L237 rfl rfl (wp_seq (Za ?_)));have h22:Fs S4 zF1 [0] (0):=Fs.zero _ _;refine so L237 rfl (ZG (cs:=zF1) L237 XG Zai .nil (by rfl) λ_ L238=>Zv L238 rfl rfl (Zl L238 rfl rfl R5 Yp h22.len rfl h22.ones λ_ R42 _ L239=>sa L239 rfl λ_ L240=>sn (wp_ret ((Zt (Zn (rs:=Tryz.f32.results.toList) L240 rfl (Res.aggW rfl Qj Yp (R42.has (List.Mem.head _)) h22.len (.tmp rfl Res.nil)) ?_))))));obtain⟨her,hvl⟩:=Zb3 (l:=bl s) (by unfold Zds;rw[<-hsz,<-hdn];first|exact Or.inl (by assumption)|exact Or.inr (Or.inl (by assumption))|exact Or.inr (Or.inr ⟨hmi.1 (by assumption),str48.1 (by assumption)⟩));exact⟨_,_,rfl,R42.ext,⟨_,(by rw[her];rfl),(h22.toR (by rw[hvl]) (by exact YQ _))⟩⟩;refine so L20 rfl (bF t1 (λ_=>Zu L20 rfl rfl) λ_ L241=>sa L241 rfl λ_ L242=>?_);have L243:=(L242.kp [2,3,6,5,7,8] rfl);clear L242;refine sn (wp_seq (wp_seq (Za (sm L243 rfl ?_))));intro _ L244;refine so L244 rfl (Zh L244 rfl ent_96 (Zc3 R4.holds (s:=sz) (by omega)) λv_15 S26 _ x15 v15=>?_);have R43:=R4.call x15;rcases v15 with⟨t19,rfl⟩|⟨t20,rfl⟩;intro _ L245;refine so L245 rfl (Xc L245 rfl rfl λ_ L246=>sm L246 rfl λ_ L247=>son L247 rfl (Zf L247 rfl λ_ L248=>son L248 rfl (Zh L248 rfl ent_96 (Zc3 R43.holds (s:=dn) (by omega)) λv_16 S27 _ x16 v16=>?_)));have R44:=R43.call x16;rcases v16 with⟨t21,rfl⟩|⟨t22,rfl⟩;intro _ L249;refine son L249 rfl (Xc L249 rfl rfl λ_ L250=>so L250 rfl (Ze L250 rfl rfl λ_ L251=>sm L251 rfl λ_ L252=>son L252 rfl (Zf L252 rfl λ_ L253=>son L253 rfl (Zf L253 rfl λ_ L254=>sof L254 rfl λ_ L255=>sof L255 rfl λ_ L256=>?_))));refine son L256 rfl (Ze L256 rfl rfl λ_ L257=>so L257 rfl (Ze L257 rfl rfl λ_ L258=>?_));have L259:=(L258.kp [2,3,6,5,7,8,42] rfl);clear L258;refine sn (Zi L259 rfl rfl (wp_skip ((Zb (wp_seq ?_)))));have hnb:¬Zds (bl s):=by(unfold Zds;rw[<-hsz,<-hdn];first|exact λq=>q.elim (λq=>q (by assumption)) (λq=>q.elim (λq=>q (by assumption)) (λq=>absurd (hmi.2 q.1) (by assumption)))|exact λq=>q.elim (λq=>q (by assumption)) (λq=>q.elim (λq=>q (by assumption)) (λq=>absurd (str48.2 q.2) (by assumption))))
 refine Za (sm L259 rfl ?_);intro _ L260;refine so L260 rfl (Zh L260 rfl ent_97 (Zcb R44.holds (s:=sz) (by omega)) λv_17 _ _ x17 v17=>?_);have R45:=R44.call x17;rcases v17 with⟨t23,c15,rfl,h23⟩|⟨t24,c16,rfl,h24⟩|⟨t25,c17,rfl,h25⟩;exact absurd t23 (not_not_intro t19);intro _ L261;refine sm L261 rfl λ_ L262=>so L262 rfl (Zk L262 rfl rfl λ_ L263=>so L263 rfl (Zk L263 rfl rfl λ_ L264=>so L264 rfl (ZJ (cs:=zN1) ZZ R45 rfl λb8 _ R46 _ L265=>Zv L265 rfl rfl (Zl L265 rfl rfl R46 Zo h24.len rfl h24.ones λ_ R47 _ L266=>sa L266 rfl λ_ L267=>?_))));have L268:=(L267.kp [2,3,6,5,8,9,10] rfl);clear L267;refine sn (wp_seq (Za (sm L268 rfl ?_)));intro _ L269;refine so L269 rfl (Zh L269 rfl ent_97 (Zcb R47.holds (s:=dn) (by omega)) λv_18 S29 _ x18 v18=>?_);have R48:=R47.call x18;rcases v18 with⟨t26,c18,rfl,h26⟩|⟨t27,c19,rfl,h27⟩|⟨t28,c20,rfl,h28⟩;exact absurd t26 (not_not_intro t21);intro _ L270;refine sm L270 rfl λ_ L271=>so L271 rfl (Zk L271 rfl rfl λ_ L272=>so L272 rfl (Zk L272 rfl rfl λ_ L273=>so L273 rfl (ZJ (cs:=zN1) ZZ R48 rfl λb9 _ R49 _ L274=>Zv L274 rfl rfl (Zl L274 rfl rfl R49 Zo h27.len rfl h27.ones λ_ R50 _ L275=>sa L275 rfl λ_ L276=>?_))));have L277:=(L276.kp [2,3,6,8,9,10,11,12] rfl);clear L276;refine sn (wp_seq (wp_seq (Za (sm L277 rfl ?_))));intro _ L278;refine so L278 rfl (XA (b:=true) (by decide) (λ_ k_=>Ym L278 rfl rfl k_) λ_ L279=>sm L279 rfl λ_ L280=>sof L280 rfl λ_ L281=>sof L281 rfl λ_ L282=>so L282 rfl (Ze L282 rfl rfl λ_ L283=>?_));have L284:=(L283.kp [2,3,6,8,9,11,59] rfl);clear L283;refine sn (Zm L284 rfl rfl (wp_seq (Za ?_)));have h29:Fs S29 zF1 [0] (0):=Fs.zero _ _;refine so L284 rfl (ZG (cs:=zF1) L284 XG Zai .nil (by rfl) λ_ L285=>Zv L285 rfl rfl (Zl L285 rfl rfl (XC R50) Yp h29.len rfl h29.ones λ_ R51 _ L286=>sa L286 rfl λ_ L287=>sn (wp_ret ((Zt (Zn (rs:=Tryz.f32.results.toList) L287 rfl (Res.aggW rfl Qj Yp (R51.has (List.Mem.head _)) h29.len (.tmp rfl Res.nil)) ?_))))));obtain⟨her,hvl⟩:=Zan hnb (by unfold Ql;rw[<-hsz,<-hdn];omega);exact⟨_,_,rfl,R51.ext,⟨_,(by rw[her];rfl),(h29.toR (by rw[hvl]) (by exact YQ _))⟩⟩;intro _ L288;refine sm L288 rfl λ_ L289=>so L289 rfl (Zk L289 rfl rfl λ_ L290=>so L290 rfl (Zk L290 rfl rfl λ_ L291=>so L291 rfl (ZJ (cs:=zN1) ZZ R48 rfl λb10 _ R52 _ L292=>Zv L292 rfl rfl (Zl L292 rfl rfl R52 Zo h28.len rfl h28.ones λ_ R53 _ L293=>sa L293 rfl λ_ L294=>?_))));have L295:=(L294.kp [2,3,6,8,9,10,11,12] rfl);clear L294;refine sn (wp_seq (wp_seq (Za (sm L295 rfl ?_))));intro _ L296;refine so L296 rfl (XA (b:=true) (by decide) (λ_ k_=>Ym L296 rfl rfl k_) λ_ L297=>sm L297 rfl λ_ L298=>sof L298 rfl λ_ L299=>sof L299 rfl λ_ L300=>so L300 rfl (Ze L300 rfl rfl λ_ L301=>?_));have L302:=(L301.kp [2,3,6,8,9,11,59] rfl);clear L301;refine sn (Zm L302 rfl rfl (wp_seq (Za ?_)));have h30:Fs S29 zF1 [0] (0):=Fs.zero _ _;refine so L302 rfl (ZG (cs:=zF1) L302 XG Zai .nil (by rfl) λ_ L303=>Zv L303 rfl rfl (Zl L303 rfl rfl (XC R53) Yp h30.len rfl h30.ones λ_ R54 _ L304=>sa L304 rfl λ_ L305=>sn (wp_ret ((Zt (Zn (rs:=Tryz.f32.results.toList) L305 rfl (Res.aggW rfl Qj Yp (R54.has (List.Mem.head _)) h30.len (.tmp rfl Res.nil)) ?_))))));obtain⟨her,hvl⟩:=Zan hnb (by unfold Ql;rw[<-hsz,<-hdn];omega);exact⟨_,_,rfl,R54.ext,⟨_,(by rw[her];rfl),(h30.toR (by rw[hvl]) (by exact YQ _))⟩⟩;intro _ L306;refine sm L306 rfl λ_ L307=>so L307 rfl (Zk L307 rfl rfl λ_ L308=>so L308 rfl (Zk L308 rfl rfl λ_ L309=>so L309 rfl (ZJ (cs:=zN1) ZZ R45 rfl λb11 _ R55 _ L310=>Zv L310 rfl rfl (Zl L310 rfl rfl R55 Zo h25.len rfl h25.ones λ_ R56 _ L311=>sa L311 rfl λ_ L312=>?_))));have L313:=(L312.kp [2,3,6,5,8,9,10] rfl);clear L312;refine sn (wp_seq (Za (sm L313 rfl ?_)));intro _ L314;refine so L314 rfl (Zh L314 rfl ent_97 (Zcb R56.holds (s:=dn) (by omega)) λv_19 S30 _ x19 v19=>?_);have R57:=R56.call x19;have l22:=x19.le;rcases v19 with⟨t29,c21,rfl,h31⟩|⟨t30,c22,rfl,h32⟩|⟨t31,c23,rfl,h33⟩;exact absurd t29 (not_not_intro t21);intro _ L315;refine sm L315 rfl λ_ L316=>so L316 rfl (Zk L316 rfl rfl λ_ L317=>so L317 rfl (Zk L317 rfl rfl λ_ L318=>so L318 rfl (ZJ (cs:=zN1) ZZ R57 rfl λb12 _ R58 _ L319=>Zv L319 rfl rfl (Zl L319 rfl rfl R58 Zo h32.len rfl h32.ones λ_ R59 _ L320=>sa L320 rfl λ_ L321=>?_))));have L322:=(L321.kp [2,3,6,8,9,10,11,12] rfl);clear L321;refine sn (wp_seq (wp_seq (Za (sm L322 rfl ?_))));intro _ L323;refine so L323 rfl (XA (b:=false) (by decide) (λ_ k_=>Ym L323 rfl rfl k_) λ_ L324=>sm L324 rfl λ_ L325=>son L325 rfl (Zf L325 rfl λ_ L326=>son L326 rfl (XA (b:=true) (by decide) (λ_ k_=>Ym L326 rfl rfl k_) λ_ L327=>so L327 rfl (Ze L327 rfl rfl λ_ L328=>?_))));have L329:=(L328.kp [2,3,6,8,9,11,59] rfl);clear L328;refine sn (Zm L329 rfl rfl (wp_seq (Za ?_)));have h34:Fs S30 zF1 [0] (0):=Fs.zero _ _;refine so L329 rfl (ZG (cs:=zF1) L329 XG Zai .nil (by rfl) λ_ L330=>Zv L330 rfl rfl (Zl L330 rfl rfl (XC R59) Yp h34.len rfl h34.ones λ_ R60 _ L331=>sa L331 rfl λ_ L332=>sn (wp_ret ((Zt (Zn (rs:=Tryz.f32.results.toList) L332 rfl (Res.aggW rfl Qj Yp (R60.has (List.Mem.head _)) h34.len (.tmp rfl Res.nil)) ?_))))));obtain⟨her,hvl⟩:=Zan hnb (by unfold Ql;rw[<-hsz,<-hdn];omega);exact⟨_,_,rfl,R60.ext,⟨_,(by rw[her];rfl),(h34.toR (by rw[hvl]) (by exact YQ _))⟩⟩;intro _ L333;refine sm L333 rfl λ_ L334=>so L334 rfl (Zk L334 rfl rfl λ_ L335=>so L335 rfl (Zk L335 rfl rfl λ_ L336=>so L336 rfl (ZJ (cs:=zN1) ZZ R57 rfl λb13 _ R61 _ L337=>Zv L337 rfl rfl (Zl L337 rfl rfl R61 Zo h33.len rfl h33.ones λ_ R62 _ L338=>sa L338 rfl λ_ L339=>?_))));have L340:=(L339.kp [2,3,6,8,9,10,11,12] rfl);clear L339;refine sn (wp_seq (wp_seq (Za (sm L340 rfl ?_))));intro _ L341;refine so L341 rfl (XA (b:=false) (by decide) (λ_ k_=>Ym L341 rfl rfl k_) λ_ L342=>sm L342 rfl λ_ L343=>son L343 rfl (Zf L343 rfl λ_ L344=>son L344 rfl (XA (b:=false) (by decide) (λ_ k_=>Ym L344 rfl rfl k_) λ_ L345=>so L345 rfl (Ze L345 rfl rfl λ_ L346=>?_))));have L347:=(L346.kp [2,3,6,8,9,11,59] rfl);clear L346;refine sn (Zi L347 rfl rfl (wp_skip ((Zb (wp_seq (wp_seq ?_))))));by_cases t32:Zdr (bl s)=true;have L348:=L347;rw[decide_eq_true t32] at L348;have hnl:¬Ql (bl s):=by(unfold Ql;rw[<-hsz,<-hdn];omega)
 refine Za (sm L348 rfl ?_);intro _ L349;refine sm L349 rfl λ_ L350=>son L350 rfl (ZA L350 rfl ZK Zo (R62.has (List.Mem.head _)) h33.len λ_ L351=>son L351 rfl (Zh L351 rfl Zfc (YF R62.holds h33) λv_20 S31 _ x20 v20=>?_));have R63:=R62.call x20;have l23:=x20.le;obtain rfl:=v20;intro _ L352;by_cases t33:((Zs (Xi (bl dn)):Nat):Int)<(2:Int);refine son L352 rfl (bT t33 (λ_=>Zu L352 rfl rfl) λ_ L353=>son L353 rfl (Zf L353 rfl λ_ L354=>sof L354 rfl λ_ L355=>sof L355 rfl λ_ L356=>sof L356 rfl λ_ L357=>sof L357 rfl λ_ L358=>sof L358 rfl λ_ L359=>?_));refine son L359 rfl (Ze L359 rfl rfl λ_ L360=>so L360 rfl (Ze L360 rfl rfl λ_ L361=>?_));have L362:=(L361.kp [2,3,8,9,11,73] rfl);clear L361;refine sn (Zm L362 rfl rfl (wp_seq (Za ?_)));have h35:Fs S31 zF1 [0] (0):=Fs.zero _ _;refine so L362 rfl (ZG (cs:=zF1) L362 XG Zai .nil (by rfl) λ_ L363=>Zv L363 rfl rfl (Zl L363 rfl rfl (XC R63) Yp h35.len rfl h35.ones λ_ R64 _ L364=>sa L364 rfl λ_ L365=>sn (wp_ret ((Zt (Zn (rs:=Tryz.f32.results.toList) L365 rfl (Res.aggW rfl Qj Yp (R64.has (List.Mem.head _)) h35.len (.tmp rfl Res.nil)) ?_))))));obtain⟨her,hvl⟩:=Zc6 hnb hnl (by unfold fred;rw[<-hsz,<-hdn];exact⟨by assumption,by omega⟩);exact⟨_,_,rfl,R64.ext,⟨_,(by rw[her];rfl),(h35.toR (by rw[hvl]) (by exact YQ _))⟩⟩;refine son L352 rfl (bF t33 (λ_=>Zu L352 rfl rfl) λ_ L366=>son L366 rfl (Zf L366 rfl λ_ L367=>son L367 rfl (ZA L367 rfl ZK Zo (R63.has (List.Mem.tail _ (List.Mem.head _))) h25.len λ_ L368=>son L368 rfl (ZA L368 rfl ZK Zo (R63.has (List.Mem.head _)) h33.len λ_ L369=>son L369 rfl (Zh L369 rfl ent_79 (nat_Gcd R63.holds (h25.up (l22.trans l23)) (h33.up l23) (by omega)) λv_21 _ _ x21 v21=>?_)))));have R65:=R63.call x21;have l24:=x21.le;obtain⟨c24,rfl,h36⟩:=v21;intro _ L370;refine son L370 rfl (Zh L370 rfl Zfc (YF R65.holds h36) λv_22 S33 _ x22 v22=>?_);have R66:=R65.call x22;have l25:=x22.le;obtain rfl:=v22;intro _ L371;by_cases t34:¬((Zs (Nat.gcd (Xi (bl sz)) (Xi (bl dn))):Nat):Int)=(1:Int);refine son L371 rfl (bT t34 (λ_=>Ym L371 rfl rfl) λ_ L372=>son L372 rfl (Ze L372 rfl rfl λ_ L373=>so L373 rfl (Ze L373 rfl rfl λ_ L374=>?_)));have L375:=(L374.kp [2,3,8,9,11,73] rfl);clear L374;refine sn (Zm L375 rfl rfl (wp_seq (Za ?_)));have h37:Fs S33 zF1 [0] (0):=Fs.zero _ _;refine so L375 rfl (ZG (cs:=zF1) L375 XG Zai .nil (by rfl) λ_ L376=>Zv L376 rfl rfl (Zl L376 rfl rfl (XC R66) Yp h37.len rfl h37.ones λ_ R67 _ L377=>sa L377 rfl λ_ L378=>sn (wp_ret ((Zt (Zn (rs:=Tryz.f32.results.toList) L378 rfl (Res.aggW rfl Qj Yp (R67.has (List.Mem.head _)) h37.len (.tmp rfl Res.nil)) ?_))))));obtain⟨her,hvl⟩:=Zc6 hnb hnl (by unfold fred;rw[<-hsz,<-hdn];exact⟨by assumption,by omega⟩);exact⟨_,_,rfl,R67.ext,⟨_,(by rw[her];rfl),(h37.toR (by rw[hvl]) (by exact YQ _))⟩⟩;refine son L371 rfl (bF t34 (λ_=>Ym L371 rfl rfl) λ_ L379=>son L379 rfl (Ze L379 rfl rfl λ_ L380=>so L380 rfl (Ze L380 rfl rfl λ_ L381=>?_)));have L382:=(L381.kp [2,3,8,9,11,73] rfl);clear L381;refine sn (Zi L382 rfl rfl (wp_skip ((Zb (wp_seq ?_)))));have hnr:¬fred (bl s):=by(unfold fred;rw[<-hsz,<-hdn];intro q;first|exact absurd q.1 (by assumption)|exact q.2.elim (λq=>by omega) (λq=>by omega))
 have hdp:0<Xi (bl dn):=by rw[hdn];exact Nat.pos_of_ne_zero (Ze0 hnb hnr)
 have hmn:=@Zd9 s nm sz hnm hsz;have L383:=(L382.kp [2,3,8,9,11] rfl);refine Zx (E0:=[]) (H0:=[(b13,32,c23),(b11,32,c17),(b1,36,zF1)]) (n:=80) mixed 4 [] (λk=>0) (Zdm [.is (.bool false),.is (.agg (c17:List Value).toArray),(kvIn (sI false (Xi (bl sz))) (900)),.is (.agg (c23:List Value).toArray)]) L383 R66 (by simp) (by simp) (by rfl) (by rfl) (by simp) (ZY ?_) ?_;refine(An ?_ (An ?_ (An ?_ (An ?_ trivial))));exact Zc rfl (λ_ _ _ _ _ A9=>(Zf A9.live rfl (A9.same rfl)));exact Zc rfl (λ_ _ _ _ _ A10=>(ZA A10.live rfl ZK Zo (A10.run.has (List.mem_append_right _ (List.Mem.tail _ (List.Mem.head _)))) h25.len (A10.same rfl)));refine Zc rfl (λ_ _ _ _ _ A11=>?_);obtain⟨_,e9,rfl⟩:=A11.known 0 rfl;obtain⟨_,e10,rfl⟩:=A11.known 1 rfl;exact Zh ((A11.live.add e9).add e10) rfl Zgj (Xt A11.run.holds (mi:=false) (h25.up (l22.trans (l23.trans (l24.trans (l25.trans A11.le)))))) λv_23 _ _ x23 v23=>(A11.post x23.le (A11.run.call x23) v23);exact Zc rfl (λ_ _ _ _ _ A12=>(ZA A12.live rfl ZK Zo (A12.run.has (List.mem_append_right _ (List.Mem.head _))) h33.len (A12.same rfl)));intro S39 _ _ w79 l27 E3 R69 n3 L388 K3;obtain⟨_,e11,c25,rfl,h38⟩:=K3 2 (by decide);have L389:=L388.add e11;clear L388;obtain⟨_,e12,rfl⟩:=K3 3 (by decide);have L390:=L389.add e12;clear L389;have R70:Run _ _ S39 [(b13,32,c23),(b11,32,c17),(b1,36,zF1)] w79:=Yh R69 n3 [] (by simp) (by simp);refine so L390 rfl (Zh L390 rfl ent_99 (Zch R70.holds h38 (h33.up (l23.trans (l24.trans (l25.trans l27)))) (hdp) (by omega)) λv_24 _ _ x24 v24=>?_);have R71:=R70.call x24;obtain⟨c26,rfl,h39⟩:=v24;intro _ L391;refine Zv L391 rfl rfl (Zl L391 rfl rfl (XC R71) Yp h39.len rfl h39.ones λ_ R72 _ L392=>sa L392 rfl λ_ L393=>sn (wp_ret ((Zn (rs:=Tryz.f32.results.toList) (L393.kp [2,3] rfl) rfl (Res.aggW rfl Qj Yp (R72.has (List.Mem.head _)) h39.len (.tmp rfl Res.nil)) ?_))));obtain⟨her,hvl⟩:=ferr_ok hnb hnl hnr;exact⟨_,_,rfl,R72.ext,⟨_,(by rw[her];rfl),(h39.toR (by rw[hvl,<-hsz,<-hdn];first|rw[show Zcp (bl s)=true from hmi.1 (by assumption)]|rw[show Zcp (bl s)=false from(by cases q:Zcp (bl s);rfl;exact absurd (hmi.2 q) (by assumption))]) (by exact YQ _))⟩⟩;have L395:=L347;rw[decide_eq_false t32] at L395;have hnl:¬Ql (bl s):=by(unfold Ql;rw[<-hsz,<-hdn];omega)
 refine Za (sm L395 rfl ?_);intro _ L396;refine sm L396 rfl λ_ L397=>sof L397 rfl λ_ L398=>sof L398 rfl λ_ L399=>sof L399 rfl λ_ L400=>sof L400 rfl λ_ L401=>ZX L401 rfl rfl rfl rfl rfl λ_ L402=>ZX L402 rfl rfl rfl rfl rfl λ_ L403=>?_;refine ZX L403 rfl rfl rfl rfl rfl ?_;intro _ L404;refine ZX L404 rfl rfl rfl rfl rfl ?_;intro _ L405;refine ZX L405 rfl rfl rfl rfl rfl ?_;intro _ L406;refine sof L406 rfl λ_ L407=>so L407 rfl (Ze L407 rfl rfl λ_ L408=>?_);have L409:=(L408.kp [2,3,8,9,11,73] rfl);clear L408;refine sn (Zi L409 rfl rfl (wp_skip ((Zb (wp_seq ?_)))));have hnr:¬fred (bl s):=by(unfold fred;rw[<-hsz,<-hdn];intro q;first|exact absurd q.1 (by assumption)|exact q.2.elim (λq=>by omega) (λq=>by omega))
 have hdp:0<Xi (bl dn):=by rw[hdn];exact Nat.pos_of_ne_zero (Ze0 hnb hnr)
 have hmn:=@Zd9 s nm sz hnm hsz;have L410:=(L409.kp [2,3,8,9,11] rfl);refine Zx (E0:=[]) (H0:=[(b13,32,c23),(b11,32,c17),(b1,36,zF1)]) (n:=80) mixed 4 [] (λk=>0) (Zdm [.is (.bool false),.is (.agg (c17:List Value).toArray),(kvIn (sI false (Xi (bl sz))) (900)),.is (.agg (c23:List Value).toArray)]) L410 R62 (by simp) (by simp) (by rfl) (by rfl) (by simp) (ZY ?_) ?_;refine(An ?_ (An ?_ (An ?_ (An ?_ trivial))));exact Zc rfl (λ_ _ _ _ _ A13=>(Zf A13.live rfl (A13.same rfl)));exact Zc rfl (λ_ _ _ _ _ A14=>(ZA A14.live rfl ZK Zo (A14.run.has (List.mem_append_right _ (List.Mem.tail _ (List.Mem.head _)))) h25.len (A14.same rfl)));refine Zc rfl (λ_ _ _ _ _ A15=>?_);obtain⟨_,e13,rfl⟩:=A15.known 0 rfl;obtain⟨_,e14,rfl⟩:=A15.known 1 rfl;exact Zh ((A15.live.add e13).add e14) rfl Zgj (Xt A15.run.holds (mi:=false) (h25.up (l22.trans A15.le))) λv_25 _ _ x25 v25=>(A15.post x25.le (A15.run.call x25) v25);exact Zc rfl (λ_ _ _ _ _ A16=>(ZA A16.live rfl ZK Zo (A16.run.has (List.mem_append_right _ (List.Mem.head _))) h33.len (A16.same rfl)));intro S46 _ _ w87 l30 E4 R74 n4 L415 K4;obtain⟨_,e15,c27,rfl,h40⟩:=K4 2 (by decide);have L416:=L415.add e15;clear L415;obtain⟨_,e16,rfl⟩:=K4 3 (by decide);have L417:=L416.add e16;clear L416;have R75:Run _ _ S46 [(b13,32,c23),(b11,32,c17),(b1,36,zF1)] w87:=Yh R74 n4 [] (by simp) (by simp);refine so L417 rfl (Zh L417 rfl ent_99 (Zch R75.holds h40 (h33.up l30) (hdp) (by omega)) λv_26 _ _ x26 v26=>?_);have R76:=R75.call x26;obtain⟨c28,rfl,h41⟩:=v26;intro _ L418;refine Zv L418 rfl rfl (Zl L418 rfl rfl (XC R76) Yp h41.len rfl h41.ones λ_ R77 _ L419=>sa L419 rfl λ_ L420=>sn (wp_ret ((Zn (rs:=Tryz.f32.results.toList) (L420.kp [2,3] rfl) rfl (Res.aggW rfl Qj Yp (R77.has (List.Mem.head _)) h41.len (.tmp rfl Res.nil)) ?_))));obtain⟨her,hvl⟩:=ferr_ok hnb hnl hnr;exact⟨_,_,rfl,R77.ext,⟨_,(by rw[her];rfl),(h41.toR (by rw[hvl,<-hsz,<-hdn];first|rw[show Zcp (bl s)=true from hmi.1 (by assumption)]|rw[show Zcp (bl s)=false from(by cases q:Zcp (bl s);rfl;exact absurd (hmi.2 q) (by assumption))]) (by exact YQ _))⟩⟩;intro _ L422;refine son L422 rfl (Xc L422 rfl rfl λ_ L423=>so L423 rfl (Ze L423 rfl rfl λ_ L424=>sm L424 rfl λ_ L425=>sof L425 rfl λ_ L426=>sof L426 rfl λ_ L427=>ZX L427 rfl rfl rfl rfl rfl λ_ L428=>ZX L428 rfl rfl rfl rfl rfl λ_ L429=>?_));refine sof L429 rfl λ_ L430=>so L430 rfl (Ze L430 rfl rfl λ_ L431=>?_);have L432:=(L431.kp [2,3,6,5,7,8,42] rfl);clear L431;refine sn (Zm L432 rfl rfl (wp_seq (Za ?_)));have h42:Fs S27 zF1 [0] (0):=Fs.zero _ _;refine so L432 rfl (ZG (cs:=zF1) L432 XG Zai .nil (by rfl) λ_ L433=>Zv L433 rfl rfl (Zl L433 rfl rfl R44 Yp h42.len rfl h42.ones λ_ R78 _ L434=>sa L434 rfl λ_ L435=>sn (wp_ret ((Zt (Zn (rs:=Tryz.f32.results.toList) L435 rfl (Res.aggW rfl Qj Yp (R78.has (List.Mem.head _)) h42.len (.tmp rfl Res.nil)) ?_))))));obtain⟨her,hvl⟩:=Zb3 (l:=bl s) (by unfold Zds;rw[<-hsz,<-hdn];first|exact Or.inl (by assumption)|exact Or.inr (Or.inl (by assumption))|exact Or.inr (Or.inr ⟨hmi.1 (by assumption),str48.1 (by assumption)⟩));exact⟨_,_,rfl,R78.ext,⟨_,(by rw[her];rfl),(h42.toR (by rw[hvl]) (by exact YQ _))⟩⟩;intro _ L436;refine so L436 rfl (Xc L436 rfl rfl λ_ L437=>sm L437 rfl λ_ L438=>sof L438 rfl λ_ L439=>sof L439 rfl λ_ L440=>sof L440 rfl λ_ L441=>so L441 rfl (Ze L441 rfl rfl λ_ L442=>sm L442 rfl λ_ L443=>?_));refine sof L443 rfl λ_ L444=>sof L444 rfl λ_ L445=>ZX L445 rfl rfl rfl rfl rfl λ_ L446=>ZX L446 rfl rfl rfl rfl rfl λ_ L447=>sof L447 rfl λ_ L448=>so L448 rfl (Ze L448 rfl rfl λ_ L449=>?_);have L450:=(L449.kp [2,3,6,5,7,8,42] rfl);clear L449;refine sn (Zm L450 rfl rfl (wp_seq (Za ?_)));have h43:Fs S26 zF1 [0] (0):=Fs.zero _ _;refine so L450 rfl (ZG (cs:=zF1) L450 XG Zai .nil (by rfl) λ_ L451=>Zv L451 rfl rfl (Zl L451 rfl rfl R43 Yp h43.len rfl h43.ones λ_ R79 _ L452=>sa L452 rfl λ_ L453=>sn (wp_ret ((Zt (Zn (rs:=Tryz.f32.results.toList) L453 rfl (Res.aggW rfl Qj Yp (R79.has (List.Mem.head _)) h43.len (.tmp rfl Res.nil)) ?_))))));obtain⟨her,hvl⟩:=Zb3 (l:=bl s) (by unfold Zds;rw[<-hsz,<-hdn];first|exact Or.inl (by assumption)|exact Or.inr (Or.inl (by assumption))|exact Or.inr (Or.inr ⟨hmi.1 (by assumption),str48.1 (by assumption)⟩));exact⟨_,_,rfl,R79.ext,⟨_,(by rw[her];rfl),(h43.toR (by rw[hvl]) (by exact YQ _))⟩⟩;skip;refine wp_seq (Za (sm L15 rfl ?_));intro _ L454;refine so L454 rfl (Xc L454 rfl rfl λ_ L455=>sn ?_);by_cases t35:Zdr (bl s)=true;exact Zi L455 rfl (by rw[decide_eq_true t35];rfl) (wp_skip ((Zb (⟨S2,(YV (QM (bl s))),(YV (Zbr (bl s)).2.1),(tpre (YV (QM (bl s)))),Sh.le.refl _,(L455.kp [7,5,4,6,3,2] rfl),R3,(by exact Qd (Zdd (bl_lt s)).1),(by exact fsize_tpre (Qd (Zdd (bl_lt s)).1)),(by first|(rw[fden_not (by assumption)];rfl)|(rw[fden_two (by assumption)];exact Qd (Zdd (bl_lt s)).2))⟩))));refine Zm L455 rfl (by rw[decide_eq_false t35];rfl) (Za (sa L455 rfl ?_));intro _ L456;exact sn (⟨S2,(YV (QM (bl s))),(⟨#[49]⟩:ByteArray),(tpre (YV (QM (bl s)))),Sh.le.refl _,(L456.kp [7,5,4,6,3,2] rfl),R3,(by exact Qd (Zdd (bl_lt s)).1),(by exact fsize_tpre (Qd (Zdd (bl_lt s)).1)),(by first|(rw[fden_not (by assumption)];rfl)|(rw[fden_two (by assumption)];exact Qd (Zdd (bl_lt s)).2))⟩)
end Go.Cham
namespace Go.Cham
open Go Go.RowKit Go.Proofs
noncomputable section
theorem YL.splitA {D:Dom Ato} {G:Gh} {B:List (SV Ato)}:∀{A:List (SV Ato)} {vs:List Value},YL D G (A++B) vs->∃us ws,vs=us++ws/\YL D G A us/\YL D G B ws
  |[],vs,h=>⟨[],vs,rfl,.nil,h⟩
  | x ::A,vs,h=>by
    cases h with
    | one h1 h2 h3 h4=>
      obtain⟨us,ws,rfl,a1,a2⟩:=YL.splitA (A:=A) h4
      exact⟨_::us,ws,rfl,.one h1 h2 h3 a1,a2⟩
    | run h1 h4=>
      obtain⟨us,ws,rfl,a1,a2⟩:=YL.splitA (A:=A) h4
      exact⟨_++us,ws,by rw[List.append_assoc],.run h1 a1,a2⟩
def asQ1 (T:Tb) (l:List (SV Ato)):Option Nat:=match asQ' T l with
  | some i=>match isK T i 2 with
    |true=>some i
    |false=>none
  |none=>none
def asQs (T:Tb):Nat->List (SV Ato)->Option (List Nat)
  | 0,l=>match l with
    |[]=>some []
    |_=>none
  | n + 1,l=>match l with
    | x :: .at_ y::z::r=>match asQ1 T [x,.at_ y,z] with
      | some i=>match asQs T n r with
        |some is=>some (i::is)
        |none=>none
      |none=>none
    | x ::y::z::u::v::r=>match asQ1 T [x,y,z,u,v] with
      | some i=>match asQs T n r with
        |some is=>some (i::is)
        |none=>none
      |none=>none
    |_=>none
def mxC (T:Tb) (is:List Nat):Nat:=List.rec 0 (λi _ s=>match Zbw T i with
  | some r=>match Nat.ble r.c s with
    |true=>s
    |false=>r.c
  |none=>s) is
def mxD (T:Tb) (is:List Nat):Nat:=List.rec 0 (λi _ s=>match Zbw T i with
  | some r=>match Nat.ble r.d s with
    |true=>s
    |false=>r.d
  |none=>s) is
def shortB (T:Tb) (i:Nat):Bool:=match Zdu T [12,i] with
  |some b=> !b
  |none=>false
def keyE (x:Int) (key:List Nat):List Nat:=match x with
  | .ofNat n=>match n with
    |0=>key
    |_+1=>[6]
  | .negSucc _=>key
def pFParse (T:Tb):PrF Ato:=λl=>match l with
  | [.at_ (.t i)]=>match shortB T i with
    | true=>match Zff [4,i] T.conds with
      | some x=>match Zc5 T (keyE x [38,i]) with
        | some (k,r)=>match Nat.ble 900 r.d with
          |true=>some (.tup [.agg (cQ k),.int .i64 x])
          |false=>none
        |none=>none
      |none=>none
    |false=>none
  |_=>none
def txtK (T:Tb) (i:Nat):Option (List Nat):=match Zbw T i with
  | some r=>match r.key with
    |[6]=>some [48]
    | [10,a,s]=>match s with
      |0=>some (decB a)
      |_=>none
    |_=>none
  |none=>none
def pText (T:Tb):PrF Ato:=λl=>match getA T [2] l with
  | some is=>match is with
    | [i]=>match txtK T i with
      | some s=>match limB T 100000000000 [i] with
        |true=>some (.str s)
        |false=>none
      |none=>opV T 43 100000000000 0 [i]
    |_=>none
  |none=>none
section
variable {T : Tb} {K : Nat} {base ρ : Nat → AV} {bd : Nat → Nat} {G : Gh} {T0 : Tb} {hT : Cs T0 ρ}
theorem asQ1_ok (hg:Yz T K base ρ bd) {l:List (SV Ato)} {i:Nat} {vs:List Value} (h:asQ1 T l=some i) (hd:YL (DS hT bd) G l vs):Fs G.S vs [(ρ i).rat] (bd i):=by
 unfold asQ1 at h;split at h;rename_i j hj;split at h;rename_i hk;cases h;have h1:=asQ_ok hg hj hd;have e:=AV.k2 (Zbm hg hk);rw[e] at h1;obtain⟨cs,e1,h2⟩:=h1;simp only[Value.agg.injEq] at e1;have e2:vs=cs:=by simpa using congrArg Array.toList e1
 rw[e2];exact h2;cases h;cases h
theorem asQs_ok (hg:Yz T K base ρ bd) {k:Nat}:∀{n:Nat} {l:List (SV Ato)} {is:List Nat} {vs:List Value},asQs T n l=some is->YL (DS hT bd) G l vs->(∀i∈is,bd i<=k)->Fs G.S vs (is.map λi=>(ρ i).rat) k
  | 0,l,is,vs,h,hd,hk=>by
    unfold asQs at h
    split at h
    · cases h
      rw[hd.nilI];rfl
    · cases h
  | n + 1,l,is,vs,h,hd,hk=>by
    unfold asQs at h
    split at h
    · rename_i x y z r
      split at h
      · rename_i i hi
        split at h
        · rename_i js hjs
          cases h
          obtain⟨us,ws,rfl,h1,h2⟩:=YL.splitA (A:=[x,.at_ y,z]) hd
          exact((asQ1_ok hg hi h1).wide (hk i (by simp))).append (asQs_ok hg hjs h2 λj hj=>hk j (by simp[hj]))
        · cases h
      · cases h
    · rename_i x y z u v r _
      split at h
      · rename_i i hi
        split at h
        · rename_i js hjs
          cases h
          obtain⟨us,ws,rfl,h1,h2⟩:=YL.splitA (A:=[x,y,z,u,v]) hd
          exact((asQ1_ok hg hi h1).wide (hk i (by simp))).append (asQs_ok hg hjs h2 λj hj=>hk j (by simp[hj]))
        · cases h
      · cases h
    · cases h
theorem mx_ok (hg:Yz T K base ρ bd) {lim:Nat}:∀{is:List Nat},limB T lim is=true->∀i∈is,bd i<=mxC T is*K+mxD T is
  |[],_,i,hi=>by cases hi
  | j ::is,h,i,hi=>by
    have h1:(limB T lim [j] && limB T lim is)=true:=by simpa [limB] using h
    simp only[Bool.and_eq_true] at h1
    have h2:=List.all_eq_true.1 h1.1 j (by simp)
    split at h2
    · rename_i r hr
      have e1 :r.c<=mxC T (j::is)/\mxC T is<=mxC T (j::is):=by
        have e:mxC T (j::is)=match Nat.ble r.c (mxC T is) with
          |true=>mxC T is
          |false=>r.c:=by
          show(match Zbw T j with
            | some r=>match Nat.ble r.c (mxC T is) with
              |true=>mxC T is
              |false=>r.c
            |none=>mxC T is)=_
          rw[hr]
        rw[e]
        cases hb:Nat.ble r.c (mxC T is) with
        |true=>exact⟨Nat.le_of_ble_eq_true hb,Nat.le_refl _⟩
        | false=>
          refine⟨Nat.le_refl _,?_⟩
          rcases Nat.le_total r.c (mxC T is) with h9|h9
          · rw[Nat.ble_eq_true_of_le h9] at hb;cases hb
          · exact h9
      have e2 :r.d<=mxD T (j::is)/\mxD T is<=mxD T (j::is):=by
        have e:mxD T (j::is)=match Nat.ble r.d (mxD T is) with
          |true=>mxD T is
          |false=>r.d:=by
          show(match Zbw T j with
            | some r=>match Nat.ble r.d (mxD T is) with
              |true=>mxD T is
              |false=>r.d
            |none=>mxD T is)=_
          rw[hr]
        rw[e]
        cases hb:Nat.ble r.d (mxD T is) with
        |true=>exact⟨Nat.le_of_ble_eq_true hb,Nat.le_refl _⟩
        | false=>
          refine⟨Nat.le_refl _,?_⟩
          rcases Nat.le_total r.d (mxD T is) with h9|h9
          · rw[Nat.ble_eq_true_of_le h9] at hb;cases hb
          · exact h9
      rcases List.mem_cons.1 hi with rfl|hi
      · rw[(hg.row _ _ hr).2]
        exact Nat.add_le_add (Nat.mul_le_mul_right _ e1.1) e2.1
      · exact Nat.le_trans (mx_ok hg h1.2 i hi) (Nat.add_le_add (Nat.mul_le_mul_right _ e1.2) e2.2)
    · cases h2
theorem mx_lim {lim:Nat} (hK:K<=T.km):∀{is:List Nat},Nat.ble (Nat.add (Nat.mul (mxC T is) T.km) (mxD T is)) lim=true->mxC T is*K+mxD T is<=lim:=by
 intro is h;exact Nat.le_trans (Nat.add_le_add_right (Nat.mul_le_mul_left _ hK) _) (Nat.le_of_ble_eq_true h)
theorem shortB_ok (hg:Yz T K base ρ bd) {i:Nat} (h:shortB T i=true):(ρ i).txt.size<=1024:=by
 unfold shortB at h;split at h;rename_i b hb;have h1:=XU hg.cond hb
 cases b with
 |true=>cases h
 | false=>
   have h2:(if 1024<(ρ i).txt.size then(1:Int) else 0)=0:=h1
   split at h2
   · cases h2
   · omega
 cases h
set_option maxRecDepth 100000 in
theorem pFParse_ok (hg:Yz T K base ρ bd):YZ Tryz.prog (DS hT bd) 32 (pFParse T):=by
 intro args r hr G w vs hd hS;unfold pFParse at hr;split at hr;rename_i i;split at hr;rename_i hs;split at hr;rename_i x hx;split at hr;rename_i k r' hf;split at hr;rename_i hb;cases hr;obtain⟨h1,h2⟩:=Xw hf;obtain⟨h3,h4⟩:=hg.row _ _ h1;rw[h2] at h3
 cases hd with
 | cons x1 x2=>
   cases x2
   cases x1 with
   | at_ hp=>
     obtain⟨s,e,hv⟩:=hp
     have hv':=List.cons.inj hv
     obtain⟨rfl,_⟩:=hv'
     have hsz:=shortB_ok hg hs
     rw[e] at hsz
     have hsz':s.size<=1024:=hsz
     have hc:Za3 (bl s)=x:=by
       have h9:=hg.cond _ (QI hx)
       have h8:ZI ρ [4,i]=Za3 (bl (ρ i).txt):=rfl
       rw[e] at h8
       exact h8.symm.trans h9
     have h3':ρ k= .q (Zbv (bl s)):=by
       rw[h3]
       unfold keyE
       split
       · split
         · show Zfy 38 [ρ i]=_
           rw[e];rfl
         · show AV.q 0=_
           unfold Zbv
           rw[if_neg (by rw[hc];simp;omega)]
       · show Zfy 38 [ρ i]=_
         rw[e];rfl
     have hb':=Nat.le_of_ble_eq_true hb
     refine .ret (by kernel_rfl) (frac_Parse hS (s:=s) (by omega)) λS' v ⟨c0,ev,hv⟩=>?_
     rw[ev,hc]
     exact .tup (.cons (Xa (kd:=2) (by rw[h3'];rfl) (by rw[h3'];exact⟨c0,rfl,hv.wide (by omega)⟩)) (.cons (.int _ _) .nil))
 cases hr;cases hr;cases hr;cases hr;cases hr
theorem rtxt_nat (a:Nat):rtxt (((a:Int)):Rat)=decs a:=by
 unfold rtxt Ze6;have h1:(((a:Int)):Rat).num=(a:Int):=rfl;have h2:(((a:Int)):Rat).den=1:=rfl;rw[h1,h2];simp
theorem txtK_ok (hg:Yz T K base ρ bd) {i:Nat} {s:List Nat} (h:txtK T i=some s):rtxt (ρ i).rat=s:=by
 unfold txtK at h;split at h;rename_i r hr;have h1:=(hg.row _ _ hr).1;split at h;rename_i hk;rw[hk] at h1;cases h;rw[h1];exact(rtxt_nat 0).trans (by rw[<-decB_eq];rfl);rename_i a s' hk;rw[hk] at h1;split at h;cases h;rw[h1,decB_eq];exact rtxt_nat a;cases h;cases h;cases h
set_option maxRecDepth 100000 in
theorem pText_ok (hg:Yz T K base ρ bd):YZ Tryz.prog (DS hT bd) 55 (pText T):=by
 intro args r hr G w vs hd hS;unfold pText at hr;split at hr;rename_i is his;split at hr;rename_i i;obtain⟨x,k1,v,e1,e2,rfl,h5,h6⟩:=(QR hg his hd).one;simp only[List.map_cons,List.map_nil,List.cons.injEq,and_true] at e1 e2;subst e1 e2;obtain⟨c,rfl,h7⟩:=h6.q h5;split at hr;rename_i s hs;split at hr;rename_i hl;cases hr;have hb:=Qx hg hl (bd i) (by simp);refine .ret (by kernel_rfl) (Zfb hS h7 hb) λS' v hv=>?_;rw[hv,txtK_ok hg hs];exact .str _;cases hr;obtain⟨l,rfl,g1,g2,g3,g4⟩:=Zd3 hg hr (by decide);have hb:=g3 (bd i) (by simp);refine .ret (by kernel_rfl) (Zfb hS h7 hb) λS' v hv=>Xa g1 ?_;rw[g2];exact hv;cases hr;cases hr
end
def symTab3 (T:Tb):List (Nat × PrF Ato):=(32,pFParse T)::(55,pText T)::symTab2 T
theorem symTab3_OK:TabOK symTab3:=by
 intro T K base ρ bd T0 hT hg p hp;simp only[symTab3,List.mem_cons] at hp;rcases hp with rfl|rfl|hp;exact pFParse_ok hg;exact pText_ok hg;exact symTab2_ok hg p hp
end
end Go.Cham
namespace Go.Cham
open Go Go.RowKit Go.Proofs
noncomputable section
def cRs:List Nat->List (SV Ato)
 |[]=>[]
 |i::is=>cR i++cRs is
section
variable {ρ : Nat → AV} {bd : Nat → Nat} {G : Gh} {T0 : Tb} {hT : Cs T0 ρ}
theorem cRs_mk {k:Nat}:∀{is:List Nat} {qs:List Rat} {cs:List Value},Qs ρ bd k is qs->Gs G.S cs qs k->YL (DS hT bd) G (cRs is) cs
 |[],[],cs,_,h=>by rw[show cs=[] from h];exact .nil
 |i::is,q::qs,cs,hq,h=>by
  obtain⟨c1,c2,vs,e,h1,h2,h3⟩:=h
  rw[e]
  exact YL.append (vs:=[.bool (decide (q<0)),c1,c2]) (cR_mk hq.1 hq.2.1 (Gs.mk rfl h1 h2)) (cRs_mk hq.2.2 h3)
 |[],_::_,_,hq,_=>hq.elim
 |_::_,[],_,hq,_=>hq.elim
theorem cRs_of {k:Nat}:∀{is:List Nat} {qs:List Rat} {cs:List Value},QsI ρ bd k is qs->YL (DS hT bd) G (cRs is) cs->Gs G.S cs qs k
 |[],[],cs,_,h=>h.nilI
 |i::is,q::qs,cs,hq,h=>by
  obtain⟨us,ws,rfl,h1,h2⟩:=YL.splitA (A:=cR i) h
  obtain⟨c1,c2,rfl,h3,h4⟩:=(Zdt hq.1 h1).open
  exact⟨c1,c2,ws,rfl,h3.wide hq.2.1,h4.wide hq.2.1,cRs_of hq.2.2 h2⟩
 |[],_::_,_,hq,_=>hq.elim
 |_::_,[],_,hq,_=>hq.elim
end
def rM (a b c d q:Rat):Rat:=q*(((pL a b c d:Nat):Int):Rat)
def rG (a b c d:Rat):Nat:=Nat.gcd (Nat.gcd (Nat.gcd (Nat.gcd 0 (rM a b c d a).num.natAbs) (rM a b c d b).num.natAbs) (rM a b c d c).num.natAbs) (rM a b c d d).num.natAbs
theorem rM_num {a b c d q:Rat} (h:q.den ∣ pL a b c d):(rM a b c d q).num=pI (pL a b c d) q:=(pI_num h).1
theorem rG_eq (a b c d:Rat):rG a b c d=pG a b c d:=by
 unfold rG pG;rw[rM_num (pL_a a b c d),rM_num (pL_b a b c d),rM_num (pL_c a b c d),rM_num (pL_d a b c d)]
theorem Zbi {a b c d q:Rat} (h:q.den ∣ pL a b c d):Yy (rM a b c d q).num=Yy q.num:=by
 rw[rM_num h];have h1:=Zd2 h (pL_pos a b c d);have h2:=pI_sign h (pL_pos a b c d);unfold Yy;by_cases e:q.num=0;rw[if_pos e,if_pos (h1.2 e)];rw[if_neg e,if_neg (λz=>e (h1.1 z))];by_cases f:q.num<0;rw[if_pos f,if_pos (h2.2 f)];rw[if_neg f,if_neg (λz=>f (h2.1 z))]
theorem rG_sgn {a b c d:Rat} (h:¬(a.num=0/\b.num=0/\c.num=0)):Yy ((((rG a b c d:Nat):Int):Rat)).num=1:=by
 have h1:=pG_pos (d:=d) h;rw[rG_eq];show Yy ((pG a b c d:Nat):Int)=1;unfold Yy;rw[if_neg (by omega),if_neg (by omega)]
theorem ref_pos {a b c d q:Rat} (h:¬(a.num=0/\b.num=0/\c.num=0)) (hs:pS a.num b.num c.num=1) (hq:q.den ∣ pL a b c d) (hg:pG a b c d ∣ (pI (pL a b c d) q).natAbs):rM a b c d q / (((rG a b c d:Nat):Int):Rat)=pn a b c d q:=by
 rw[pn_eq h hq hg,rG_eq];unfold pF rM;rw[hs];show q*(pL a b c d:Rat) / (pG a b c d:Rat)=((1:Int):Rat)*(pL a b c d:Rat) / (pG a b c d:Rat)*q;generalize (pL a b c d:Rat)=x;generalize (pG a b c d:Rat)=y;rw[Rat.div_def,Rat.div_def,show((1:Int):Rat)=1 from rfl];grind
theorem ref_neg {a b c d q:Rat} (h:¬(a.num=0/\b.num=0/\c.num=0)) (hs:pS a.num b.num c.num= -1) (hq:q.den ∣ pL a b c d) (hg:pG a b c d ∣ (pI (pL a b c d) q).natAbs): -(rM a b c d q / (((rG a b c d:Nat):Int):Rat))=pn a b c d q:=by
 rw[pn_eq h hq hg,rG_eq];unfold pF rM;rw[hs];show -(q*(pL a b c d:Rat) / (pG a b c d:Rat))=((-1:Int):Rat)*(pL a b c d:Rat) / (pG a b c d:Rat)*q;generalize (pL a b c d:Rat)=x;generalize (pG a b c d:Rat)=y;rw[Rat.div_def,Rat.div_def,show((-1:Int):Rat)= -1 from rfl];grind
end
end Go.Cham
namespace Go.Cham
open Go Go.RowKit Go.Proofs
noncomputable section
set_option maxRecDepth 100000
theorem sI_quo (z:Int) (n:Nat):sI (decide (z<0)) (z.natAbs / n)=quoN z n:=by unfold sI quoN;simp
theorem sgn_quo {a b c d q:Rat} (h:¬(a.num=0/\b.num=0/\c.num=0)) (hq:q.den ∣ pL a b c d) (hg:pG a b c d ∣ (pI (pL a b c d) q).natAbs):Yy (quoN (pI (pL a b c d) q) (pG a b c d))=Yy q.num:=by
 have e1:=quoN_neg hg (pG_pos h);have e2:=pI_sign hq (pL_pos a b c d);have e3:=Zd2 hq (pL_pos a b c d);have e4:=Zem hg;have e5:quoN (pI (pL a b c d) q) (pG a b c d)=0↔q.num=0:=by constructor;intro h9;rw[h9,Int.zero_mul] at e4;exact e3.1 e4.symm;intro h9;rw[e3.2 h9];unfold quoN;simp
 unfold Yy;by_cases h1:q.num=0;rw[if_pos h1,if_pos (e5.2 h1)];rw[if_neg h1,if_neg (λh=>h1 (e5.1 h))];by_cases h2:q.num<0;rw[if_pos h2,if_pos (e1.2 (e2.2 h2))];rw[if_neg h2,if_neg (λh=>h2 (e2.1 (e1.1 h)))]
theorem Qw {z:Int} (h:Yy z= -1):z<0:=by
 unfold Yy at h;split at h;cases h;split at h;assumption;cases h
theorem Qv {z:Int} (h:Yy z=1):0<z:=by
 unfold Yy at h;split at h;cases h;split at h;cases h;omega
def mk_r:List Rw:=[⟨[2,0],1,0⟩,⟨[2,1],1,0⟩,⟨[2,2],1,0⟩,⟨[2,3],1,0⟩,⟨[4,1],0,64⟩,⟨[16,0],1,0⟩,⟨[28,4,5],1,64⟩,⟨[32,5,6],2,64⟩,⟨[40,5,6],2,64⟩,⟨[24,4,7],2,128⟩,⟨[16,1],1,0⟩,⟨[28,9,10],3,128⟩,⟨[32,10,11],4,128⟩,⟨[40,10,11],4,128⟩,⟨[24,9,12],6,256⟩,⟨[16,2],1,0⟩,⟨[28,14,15],7,256⟩,⟨[32,15,16],8,256⟩,⟨[40,15,16],8,256⟩,⟨[24,14,17],14,512⟩,⟨[16,3],1,0⟩,⟨[28,19,20],15,512⟩,⟨[32,20,21],16,512⟩,⟨[40,20,21],16,512⟩,⟨[24,19,22],30,1024⟩,⟨[32,24,5],31,1024⟩,⟨[40,24,5],31,1024⟩,⟨[13,0],1,0⟩,⟨[17,25],31,1024⟩,⟨[37,27,28],32,1024⟩,⟨[32,24,10],31,1024⟩,⟨[40,24,10],31,1024⟩,⟨[13,1],1,0⟩,⟨[17,30],31,1024⟩,⟨[37,32,33],32,1024⟩,⟨[32,24,15],31,1024⟩,⟨[40,24,15],31,1024⟩,⟨[13,2],1,0⟩,⟨[17,35],31,1024⟩,⟨[37,37,38],32,1024⟩,⟨[32,24,20],31,1024⟩,⟨[40,24,20],31,1024⟩,⟨[13,3],1,0⟩,⟨[17,40],31,1024⟩,⟨[37,42,43],32,1024⟩,⟨[4,0],0,64⟩,⟨[12,29],32,1024⟩,⟨[28,45,46],32,1088⟩,⟨[12,34],32,1024⟩,⟨[28,47,48],64,2112⟩,⟨[12,39],32,1024⟩,⟨[28,49,50],96,3136⟩,⟨[12,44],32,1024⟩,⟨[28,51,52],128,4160⟩,⟨[32,46,53],160,5184⟩,⟨[40,46,53],160,5184⟩,⟨[21,29,54],192,6208⟩,⟨[32,48,53],160,5184⟩,⟨[40,48,53],160,5184⟩,⟨[21,34,57],192,6208⟩,⟨[32,50,53],160,5184⟩,⟨[40,50,53],160,5184⟩,⟨[21,39,60],192,6208⟩,⟨[32,52,53],160,5184⟩,⟨[40,52,53],160,5184⟩,⟨[21,44,63],192,6208⟩,⟨[25,56],192,6208⟩,⟨[25,59],192,6208⟩,⟨[25,62],192,6208⟩,⟨[25,65],192,6208⟩,⟨[14,66],192,6208⟩,⟨[14,67],192,6208⟩,⟨[14,68],192,6208⟩,⟨[14,69],192,6208⟩,⟨[14,56],192,6208⟩,⟨[14,59],192,6208⟩,⟨[14,62],192,6208⟩,⟨[14,65],192,6208⟩]
def mk_T (cs:CL):Tb:=⟨mk_r,cs,500000000⟩
def mk_G (cs:CL) (r:SV Ato):Prop:=Zfh symTab2 (mk_T cs) 23 [.agg (cQs [0,1,2]),.agg (cQs [3])] r 200
def Xq (a0 a1 a2 a3:Rat):Nat->AV:=rho (mk_T []) (Xp [a0,a1,a2,a3])
def mk_k0:CL:=([3,56],1)::([5,53],0)::([1,0],1)::[]
theorem mk_p1:mk_G mk_k0 (.tup [.agg (cQs [74,75,76,77]),.int .i64 0]):=λ_ _ _=>by kernel_rfl
def mk_k1:CL:=([3,56],(-1))::([5,53],0)::([1,0],(-1))::[]
theorem mk_p0:mk_G mk_k1 (.tup [.agg (cQs [70,71,72,73]),.int .i64 0]):=λ_ _ _=>by kernel_rfl
def mk_k2:CL:=([1,0],0)::[]
def mk_k3:CL:=([3,59],1)::([3,56],0)::([5,53],0)::([1,1],1)::mk_k2
theorem mk_p3:mk_G mk_k3 (.tup [.agg (cQs [74,75,76,77]),.int .i64 0]):=λ_ _ _=>by kernel_rfl
def mk_k4:CL:=([3,59],(-1))::([3,56],0)::([5,53],0)::([1,1],(-1))::mk_k2
theorem mk_p2:mk_G mk_k4 (.tup [.agg (cQs [70,71,72,73]),.int .i64 0]):=λ_ _ _=>by kernel_rfl
def mk_k5:CL:=([1,1],0)::mk_k2
def mk_k6:CL:=([1,2],0)::mk_k5
theorem mk_p6:mk_G mk_k6 (.tup [.agg (zQs 4),.int .i64 2]):=λ_ _ _=>by kernel_rfl
def mk_k7:CL:=([3,62],1)::([3,59],0)::([3,56],0)::([5,53],0)::([1,2],1)::mk_k5
theorem mk_p5:mk_G mk_k7 (.tup [.agg (cQs [74,75,76,77]),.int .i64 0]):=λ_ _ _=>by kernel_rfl
def mk_k8:CL:=([3,62],(-1))::([3,59],0)::([3,56],0)::([5,53],0)::([1,2],(-1))::mk_k5
theorem mk_p4:mk_G mk_k8 (.tup [.agg (cQs [70,71,72,73]),.int .i64 0]):=λ_ _ _=>by kernel_rfl
theorem Zep {a0 a1 a2 a3:Rat} {k:Nat} {cs:List (List Nat × Int)} (hc:Csl (Xq a0 a1 a2 a3) cs) {is:List Nat} (hQ:QsI (Xq a0 a1 a2 a3) (Ze5 (mk_T []) k) (192*k+6208) is [pn a0 a1 a2 a3 a0,pn a0 a1 a2 a3 a1,pn a0 a1 a2 a3 a2,pn a0 a1 a2 a3 a3]) {S':Sh} {blk:Nat->Option (Nat × Nat)} {v:Value} (h3:Den (DS (T:=mk_T cs) (ρ:=Xq a0 a1 a2 a3) hc.all (Ze5 (mk_T []) k)) ⟨S',blk⟩ (.tup [.agg (cQs is),.int .i64 0]) v):
  ∃(c0:List Value),v= .tuple [.agg c0.toArray,.int .i64 0].toArray/\Fs S' c0 [pn a0 a1 a2 a3 a0,pn a0 a1 a2 a3 a1,pn a0 a1 a2 a3 a2,pn a0 a1 a2 a3 a3] (192*k+6208):=by
 cases h3 with
 | tup h4=>cases h4 with
  | cons h5 h6=>cases h6 with
   |cons h7 h8=>
    cases h8
    cases h7
    cases h5 with
    |agg h9=>exact⟨_,rfl,Zdo hQ h9⟩
theorem make_zero {T:Tb} {ρ:Nat->AV} {hT:Cs T ρ} {bd:Nat->Nat} {S':Sh} {blk:Nat->Option (Nat × Nat)} {v:Value} (h3:Den (DS hT bd) ⟨S',blk⟩ (.tup [.agg (zQs 4),.int .i64 2]) v):
  ∃(c0:List Value),v= .tuple [.agg c0.toArray,.int .i64 2].toArray/\Fs S' c0 [0,0,0,0] 0:=by
 cases h3 with
 | tup h4=>cases h4 with
  | cons h5 h6=>cases h6 with
   |cons h7 h8=>
    cases h8
    cases h7
    obtain⟨c0,rfl,hF⟩:=zero_end4 (k:=0) h5
    exact⟨_,rfl,hF⟩
theorem plane_Make_s {S:Sh} {w:World} (hS:ZU S w) {c_a:List Value} {a0 a1 a2:Rat} {k_a:Nat} (h_a:Fs S c_a [a0,a1,a2] k_a) {c_y:List Value} {a3:Rat} {k_y:Nat} (h_y:Fs S c_y [a3] k_y) (hlim:k_a<=250000000) (hlim2:k_y<=250000000):
  Calls Tryz.prog 23 [(.agg (c_a:List Value).toArray),(.agg (c_y:List Value).toArray)].toArray w (Ret S w (λS v=>((a0.num=0/\a1.num=0/\a2.num=0)/\∃(c0:List Value),v= .tuple [.agg c0.toArray,.int .i64 (2)].toArray/\Fs S c0 [0,0,0,0] (0))\/((¬(a0.num=0/\a1.num=0/\a2.num=0))/\∃(c0:List Value),v= .tuple [.agg c0.toArray,.int .i64 (0)].toArray/\Fs S c0 [pn a0 a1 a2 a3 a0,pn a0 a1 a2 a3 a1,pn a0 a1 a2 a3 a2,pn a0 a1 a2 a3 a3] (192*(k_a+k_y)+6208)))):=by
 have leaf:=λcs hc {r} (h:mk_G cs r)=>YP symTab2_OK (K:=k_a+k_y) (base:=Xp [a0,a1,a2,a3]) (by kernel_rfl) (by omega) (by kernel_rfl) hS (λ_ _=>.cons (.agg (Za0 (is:=[0,1,2]) (qs:=[a0,a1,a2]) (k:=k_a+k_y) ⟨by kernel_rfl,le1 _,by kernel_rfl,le1 _,by kernel_rfl,le1 _,trivial⟩ (h_a.wide (Nat.le_add_right k_a k_y)))) (.cons (.agg (Za0 (is:=[3]) (qs:=[a3]) (k:=k_a+k_y) ⟨by kernel_rfl,le1 _,trivial⟩ (h_y.wide (Nat.le_add_left k_y k_a)))) .nil)) cs hc h;have pz:¬(a0.num=0/\a1.num=0/\a2.num=0)->ZI (Xq a0 a1 a2 a3) [5,53]=0:=λh=>(by kernel_rfl:ZI (Xq a0 a1 a2 a3) [5,53]=(if pG a0 a1 a2 a3=0 then(1:Int) else 0)).trans (if_neg (pG_pos h));have p0:¬(a0.num=0/\a1.num=0/\a2.num=0)->ZI (Xq a0 a1 a2 a3) [3,56]=Yy a0.num:=λh=>(by kernel_rfl:ZI (Xq a0 a1 a2 a3) [3,56]=Yy (sI (decide (pI (pL a0 a1 a2 a3) a0<0)) ((pI (pL a0 a1 a2 a3) a0).natAbs / pG a0 a1 a2 a3))).trans (by rw[sI_quo];exact sgn_quo h (pL_a a0 a1 a2 a3) (Zca a0 a1 a2 a3).1);have p1:¬(a0.num=0/\a1.num=0/\a2.num=0)->ZI (Xq a0 a1 a2 a3) [3,59]=Yy a1.num:=λh=>(by kernel_rfl:ZI (Xq a0 a1 a2 a3) [3,59]=Yy (sI (decide (pI (pL a0 a1 a2 a3) a1<0)) ((pI (pL a0 a1 a2 a3) a1).natAbs / pG a0 a1 a2 a3))).trans (by rw[sI_quo];exact sgn_quo h (pL_b a0 a1 a2 a3) (Zca a0 a1 a2 a3).2.1);have p2:¬(a0.num=0/\a1.num=0/\a2.num=0)->ZI (Xq a0 a1 a2 a3) [3,62]=Yy a2.num:=λh=>(by kernel_rfl:ZI (Xq a0 a1 a2 a3) [3,62]=Yy (sI (decide (pI (pL a0 a1 a2 a3) a2<0)) ((pI (pL a0 a1 a2 a3) a2).natAbs / pG a0 a1 a2 a3))).trans (by rw[sI_quo];exact sgn_quo h (pL_c a0 a1 a2 a3) (Zca a0 a1 a2 a3).2.2.1);have qn:pS a0.num a1.num a2.num= -1->QsI (Xq a0 a1 a2 a3) (Ze5 (mk_T []) (k_a+k_y)) (192*(k_a+k_y)+6208) [70,71,72,73] [pn a0 a1 a2 a3 a0,pn a0 a1 a2 a3 a1,pn a0 a1 a2 a3 a2,pn a0 a1 a2 a3 a3]:=by
  intro hs;have hq:∀q,((-(sI (decide (pI (pL a0 a1 a2 a3) q<0)) ((pI (pL a0 a1 a2 a3) q).natAbs / pG a0 a1 a2 a3)):Int):Rat)=pn a0 a1 a2 a3 q:=λq=>by rw[sI_quo];unfold pn pnI;rw[hs,Int.neg_mul,Int.one_mul]
  exact⟨(by kernel_rfl:(Xq a0 a1 a2 a3) 70= .q ((-(sI (decide (pI (pL a0 a1 a2 a3) a0<0)) ((pI (pL a0 a1 a2 a3) a0).natAbs / pG a0 a1 a2 a3)):Int):Rat)).trans (congrArg AV.q (hq a0)),Nat.le_refl _,(by kernel_rfl:(Xq a0 a1 a2 a3) 71= .q ((-(sI (decide (pI (pL a0 a1 a2 a3) a1<0)) ((pI (pL a0 a1 a2 a3) a1).natAbs / pG a0 a1 a2 a3)):Int):Rat)).trans (congrArg AV.q (hq a1)),Nat.le_refl _,(by kernel_rfl:(Xq a0 a1 a2 a3) 72= .q ((-(sI (decide (pI (pL a0 a1 a2 a3) a2<0)) ((pI (pL a0 a1 a2 a3) a2).natAbs / pG a0 a1 a2 a3)):Int):Rat)).trans (congrArg AV.q (hq a2)),Nat.le_refl _,(by kernel_rfl:(Xq a0 a1 a2 a3) 73= .q ((-(sI (decide (pI (pL a0 a1 a2 a3) a3<0)) ((pI (pL a0 a1 a2 a3) a3).natAbs / pG a0 a1 a2 a3)):Int):Rat)).trans (congrArg AV.q (hq a3)),Nat.le_refl _,trivial⟩
 have qp:pS a0.num a1.num a2.num=1->QsI (Xq a0 a1 a2 a3) (Ze5 (mk_T []) (k_a+k_y)) (192*(k_a+k_y)+6208) [74,75,76,77] [pn a0 a1 a2 a3 a0,pn a0 a1 a2 a3 a1,pn a0 a1 a2 a3 a2,pn a0 a1 a2 a3 a3]:=by
  intro hs;have hq:∀q,((sI (decide (pI (pL a0 a1 a2 a3) q<0)) ((pI (pL a0 a1 a2 a3) q).natAbs / pG a0 a1 a2 a3):Int):Rat)=pn a0 a1 a2 a3 q:=λq=>by rw[sI_quo];unfold pn pnI;rw[hs,Int.one_mul]
  exact⟨(by kernel_rfl:(Xq a0 a1 a2 a3) 74= .q ((sI (decide (pI (pL a0 a1 a2 a3) a0<0)) ((pI (pL a0 a1 a2 a3) a0).natAbs / pG a0 a1 a2 a3):Int):Rat)).trans (congrArg AV.q (hq a0)),Nat.le_refl _,(by kernel_rfl:(Xq a0 a1 a2 a3) 75= .q ((sI (decide (pI (pL a0 a1 a2 a3) a1<0)) ((pI (pL a0 a1 a2 a3) a1).natAbs / pG a0 a1 a2 a3):Int):Rat)).trans (congrArg AV.q (hq a1)),Nat.le_refl _,(by kernel_rfl:(Xq a0 a1 a2 a3) 76= .q ((sI (decide (pI (pL a0 a1 a2 a3) a2<0)) ((pI (pL a0 a1 a2 a3) a2).natAbs / pG a0 a1 a2 a3):Int):Rat)).trans (congrArg AV.q (hq a2)),Nat.le_refl _,(by kernel_rfl:(Xq a0 a1 a2 a3) 77= .q ((sI (decide (pI (pL a0 a1 a2 a3) a3<0)) ((pI (pL a0 a1 a2 a3) a3).natAbs / pG a0 a1 a2 a3):Int):Rat)).trans (congrArg AV.q (hq a3)),Nat.le_refl _,trivial⟩
 rcases XX (Xq a0 a1 a2 a3) (t:=1) (is:=[0]) (by decide) with h0|h0|h0;rotate_left 2
 have h1:ZI (Xq a0 a1 a2 a3) [5,53]=0:=pz (λz=>by have g:=Qv ((by kernel_rfl:ZI (Xq a0 a1 a2 a3) [1,0]=Yy (a0).num).symm.trans h0);omega);have h2:ZI (Xq a0 a1 a2 a3) [3,56]=1:=(p0 (λz=>by have g:=Qv ((by kernel_rfl:ZI (Xq a0 a1 a2 a3) [1,0]=Yy (a0).num).symm.trans h0);omega)).trans ((by kernel_rfl:ZI (Xq a0 a1 a2 a3) [1,0]=Yy (a0).num).symm.trans h0);have H0:Csl (Xq a0 a1 a2 a3) mk_k0:=.cons h2 (.cons h1 (.cons h0 .nil));have g0:=Qv ((by kernel_rfl:ZI (Xq a0 a1 a2 a3) [1,0]=Yy (a0).num).symm.trans h0);have hs:pS a0.num a1.num a2.num=1:=by unfold pS sgnI;rw[if_pos (by omega),if_neg (by omega)]
 exact Calls.mono (leaf _ H0 mk_p1) λe w' ⟨v,S',q1,q2,blk,q3⟩=>⟨v,S',q1,q2,.inr ⟨λz=>by omega,Zep H0 (qp hs) q3⟩⟩;have h3:ZI (Xq a0 a1 a2 a3) [5,53]=0:=pz (λz=>by have g:=Qw ((by kernel_rfl:ZI (Xq a0 a1 a2 a3) [1,0]=Yy (a0).num).symm.trans h0);omega);have h4:ZI (Xq a0 a1 a2 a3) [3,56]= -1:=(p0 (λz=>by have g:=Qw ((by kernel_rfl:ZI (Xq a0 a1 a2 a3) [1,0]=Yy (a0).num).symm.trans h0);omega)).trans ((by kernel_rfl:ZI (Xq a0 a1 a2 a3) [1,0]=Yy (a0).num).symm.trans h0);have H1:Csl (Xq a0 a1 a2 a3) mk_k1:=.cons h4 (.cons h3 (.cons h0 .nil));have g0:=Qw ((by kernel_rfl:ZI (Xq a0 a1 a2 a3) [1,0]=Yy (a0).num).symm.trans h0);have hs:pS a0.num a1.num a2.num= -1:=by unfold pS sgnI;rw[if_pos (by omega),if_pos (by omega)]
 exact Calls.mono (leaf _ H1 mk_p0) λe w' ⟨v,S',q1,q2,blk,q3⟩=>⟨v,S',q1,q2,.inr ⟨λz=>by omega,Zep H1 (qn hs) q3⟩⟩;have H2:Csl (Xq a0 a1 a2 a3) mk_k2:=.cons h0 .nil;rcases XX (Xq a0 a1 a2 a3) (t:=1) (is:=[1]) (by decide) with h5|h5|h5;rotate_left 2
 have h6:ZI (Xq a0 a1 a2 a3) [5,53]=0:=pz (λz=>by have g:=Qv ((by kernel_rfl:ZI (Xq a0 a1 a2 a3) [1,1]=Yy (a1).num).symm.trans h5);omega);have h7:ZI (Xq a0 a1 a2 a3) [3,56]=0:=(p0 (λz=>by have g:=Qv ((by kernel_rfl:ZI (Xq a0 a1 a2 a3) [1,1]=Yy (a1).num).symm.trans h5);omega)).trans ((by kernel_rfl:ZI (Xq a0 a1 a2 a3) [1,0]=Yy (a0).num).symm.trans h0);have h8:ZI (Xq a0 a1 a2 a3) [3,59]=1:=(p1 (λz=>by have g:=Qv ((by kernel_rfl:ZI (Xq a0 a1 a2 a3) [1,1]=Yy (a1).num).symm.trans h5);omega)).trans ((by kernel_rfl:ZI (Xq a0 a1 a2 a3) [1,1]=Yy (a1).num).symm.trans h5);have H3:Csl (Xq a0 a1 a2 a3) mk_k3:=.cons h8 (.cons h7 (.cons h6 (.cons h5 H2)));have g0:=Yf.1 ((by kernel_rfl:ZI (Xq a0 a1 a2 a3) [1,0]=Yy (a0).num).symm.trans h0);have g1:=Qv ((by kernel_rfl:ZI (Xq a0 a1 a2 a3) [1,1]=Yy (a1).num).symm.trans h5);have hs:pS a0.num a1.num a2.num=1:=by unfold pS sgnI;rw[if_neg (by omega),if_pos (by omega),if_neg (by omega)]
 exact Calls.mono (leaf _ H3 mk_p3) λe w' ⟨v,S',q1,q2,blk,q3⟩=>⟨v,S',q1,q2,.inr ⟨λz=>by omega,Zep H3 (qp hs) q3⟩⟩;have h9:ZI (Xq a0 a1 a2 a3) [5,53]=0:=pz (λz=>by have g:=Qw ((by kernel_rfl:ZI (Xq a0 a1 a2 a3) [1,1]=Yy (a1).num).symm.trans h5);omega);have h10:ZI (Xq a0 a1 a2 a3) [3,56]=0:=(p0 (λz=>by have g:=Qw ((by kernel_rfl:ZI (Xq a0 a1 a2 a3) [1,1]=Yy (a1).num).symm.trans h5);omega)).trans ((by kernel_rfl:ZI (Xq a0 a1 a2 a3) [1,0]=Yy (a0).num).symm.trans h0);have h11:ZI (Xq a0 a1 a2 a3) [3,59]= -1:=(p1 (λz=>by have g:=Qw ((by kernel_rfl:ZI (Xq a0 a1 a2 a3) [1,1]=Yy (a1).num).symm.trans h5);omega)).trans ((by kernel_rfl:ZI (Xq a0 a1 a2 a3) [1,1]=Yy (a1).num).symm.trans h5);have H4:Csl (Xq a0 a1 a2 a3) mk_k4:=.cons h11 (.cons h10 (.cons h9 (.cons h5 H2)));have g0:=Yf.1 ((by kernel_rfl:ZI (Xq a0 a1 a2 a3) [1,0]=Yy (a0).num).symm.trans h0);have g1:=Qw ((by kernel_rfl:ZI (Xq a0 a1 a2 a3) [1,1]=Yy (a1).num).symm.trans h5);have hs:pS a0.num a1.num a2.num= -1:=by unfold pS sgnI;rw[if_neg (by omega),if_pos (by omega),if_pos (by omega)]
 exact Calls.mono (leaf _ H4 mk_p2) λe w' ⟨v,S',q1,q2,blk,q3⟩=>⟨v,S',q1,q2,.inr ⟨λz=>by omega,Zep H4 (qn hs) q3⟩⟩;have H5:Csl (Xq a0 a1 a2 a3) mk_k5:=.cons h5 H2;rcases XX (Xq a0 a1 a2 a3) (t:=1) (is:=[2]) (by decide) with h12|h12|h12;rotate_left
 have H6:Csl (Xq a0 a1 a2 a3) mk_k6:=.cons h12 H5;exact Calls.mono (leaf _ H6 mk_p6) λe w' ⟨v,S',q1,q2,blk,q3⟩=>⟨v,S',q1,q2,.inl ⟨⟨Yf.1 ((by kernel_rfl:ZI (Xq a0 a1 a2 a3) [1,0]=Yy (a0).num).symm.trans h0),Yf.1 ((by kernel_rfl:ZI (Xq a0 a1 a2 a3) [1,1]=Yy (a1).num).symm.trans h5),Yf.1 ((by kernel_rfl:ZI (Xq a0 a1 a2 a3) [1,2]=Yy (a2).num).symm.trans h12)⟩,make_zero q3⟩⟩;have h13:ZI (Xq a0 a1 a2 a3) [5,53]=0:=pz (λz=>by have g:=Qv ((by kernel_rfl:ZI (Xq a0 a1 a2 a3) [1,2]=Yy (a2).num).symm.trans h12);omega);have h14:ZI (Xq a0 a1 a2 a3) [3,56]=0:=(p0 (λz=>by have g:=Qv ((by kernel_rfl:ZI (Xq a0 a1 a2 a3) [1,2]=Yy (a2).num).symm.trans h12);omega)).trans ((by kernel_rfl:ZI (Xq a0 a1 a2 a3) [1,0]=Yy (a0).num).symm.trans h0);have h15:ZI (Xq a0 a1 a2 a3) [3,59]=0:=(p1 (λz=>by have g:=Qv ((by kernel_rfl:ZI (Xq a0 a1 a2 a3) [1,2]=Yy (a2).num).symm.trans h12);omega)).trans ((by kernel_rfl:ZI (Xq a0 a1 a2 a3) [1,1]=Yy (a1).num).symm.trans h5);have h16:ZI (Xq a0 a1 a2 a3) [3,62]=1:=(p2 (λz=>by have g:=Qv ((by kernel_rfl:ZI (Xq a0 a1 a2 a3) [1,2]=Yy (a2).num).symm.trans h12);omega)).trans ((by kernel_rfl:ZI (Xq a0 a1 a2 a3) [1,2]=Yy (a2).num).symm.trans h12);have H7:Csl (Xq a0 a1 a2 a3) mk_k7:=.cons h16 (.cons h15 (.cons h14 (.cons h13 (.cons h12 H5))));have g0:=Yf.1 ((by kernel_rfl:ZI (Xq a0 a1 a2 a3) [1,0]=Yy (a0).num).symm.trans h0);have g1:=Yf.1 ((by kernel_rfl:ZI (Xq a0 a1 a2 a3) [1,1]=Yy (a1).num).symm.trans h5);have g2:=Qv ((by kernel_rfl:ZI (Xq a0 a1 a2 a3) [1,2]=Yy (a2).num).symm.trans h12);have hs:pS a0.num a1.num a2.num=1:=by unfold pS sgnI;rw[if_neg (by omega),if_neg (by omega),if_neg (by omega)]
 exact Calls.mono (leaf _ H7 mk_p5) λe w' ⟨v,S',q1,q2,blk,q3⟩=>⟨v,S',q1,q2,.inr ⟨λz=>by omega,Zep H7 (qp hs) q3⟩⟩;have h17:ZI (Xq a0 a1 a2 a3) [5,53]=0:=pz (λz=>by have g:=Qw ((by kernel_rfl:ZI (Xq a0 a1 a2 a3) [1,2]=Yy (a2).num).symm.trans h12);omega);have h18:ZI (Xq a0 a1 a2 a3) [3,56]=0:=(p0 (λz=>by have g:=Qw ((by kernel_rfl:ZI (Xq a0 a1 a2 a3) [1,2]=Yy (a2).num).symm.trans h12);omega)).trans ((by kernel_rfl:ZI (Xq a0 a1 a2 a3) [1,0]=Yy (a0).num).symm.trans h0);have h19:ZI (Xq a0 a1 a2 a3) [3,59]=0:=(p1 (λz=>by have g:=Qw ((by kernel_rfl:ZI (Xq a0 a1 a2 a3) [1,2]=Yy (a2).num).symm.trans h12);omega)).trans ((by kernel_rfl:ZI (Xq a0 a1 a2 a3) [1,1]=Yy (a1).num).symm.trans h5);have h20:ZI (Xq a0 a1 a2 a3) [3,62]= -1:=(p2 (λz=>by have g:=Qw ((by kernel_rfl:ZI (Xq a0 a1 a2 a3) [1,2]=Yy (a2).num).symm.trans h12);omega)).trans ((by kernel_rfl:ZI (Xq a0 a1 a2 a3) [1,2]=Yy (a2).num).symm.trans h12);have H8:Csl (Xq a0 a1 a2 a3) mk_k8:=.cons h20 (.cons h19 (.cons h18 (.cons h17 (.cons h12 H5))));have g0:=Yf.1 ((by kernel_rfl:ZI (Xq a0 a1 a2 a3) [1,0]=Yy (a0).num).symm.trans h0);have g1:=Yf.1 ((by kernel_rfl:ZI (Xq a0 a1 a2 a3) [1,1]=Yy (a1).num).symm.trans h5);have g2:=Qw ((by kernel_rfl:ZI (Xq a0 a1 a2 a3) [1,2]=Yy (a2).num).symm.trans h12);have hs:pS a0.num a1.num a2.num= -1:=by unfold pS sgnI;rw[if_neg (by omega),if_neg (by omega),if_pos (by omega)]
 exact Calls.mono (leaf _ H8 mk_p4) λe w' ⟨v,S',q1,q2,blk,q3⟩=>⟨v,S',q1,q2,.inr ⟨λz=>by omega,Zep H8 (qn hs) q3⟩⟩
end
end Go.Cham
namespace Go.Cham
open Go Go.RowKit Go.Proofs
noncomputable section
set_option maxRecDepth 100000
def rk_r:List Rw:=[⟨[2,0],1,0⟩,⟨[2,1],1,0⟩,⟨[2,2],1,0⟩,⟨[2,3],1,0⟩,⟨[4,1],0,64⟩,⟨[16,0],1,0⟩,⟨[28,4,5],1,64⟩,⟨[32,5,6],1,0⟩,⟨[40,5,6],1,64⟩,⟨[24,4,7],1,64⟩,⟨[16,1],1,0⟩,⟨[28,9,10],2,64⟩,⟨[32,10,11],1,0⟩,⟨[40,10,11],2,64⟩,⟨[24,9,12],2,64⟩,⟨[16,2],1,0⟩,⟨[28,14,15],3,64⟩,⟨[32,15,16],1,0⟩,⟨[40,15,16],3,64⟩,⟨[24,14,17],3,64⟩,⟨[16,3],1,0⟩,⟨[28,19,20],4,64⟩,⟨[32,20,21],1,0⟩,⟨[40,20,21],4,64⟩,⟨[24,19,22],4,64⟩,⟨[17,24],4,64⟩,⟨[14,25],4,64⟩,⟨[30,0,26],5,64⟩,⟨[4,0],0,64⟩,⟨[20,27],5,64⟩,⟨[28,28,29],5,128⟩,⟨[30,1,26],5,64⟩,⟨[20,31],5,64⟩,⟨[28,30,32],10,192⟩,⟨[30,2,26],5,64⟩,⟨[20,34],5,64⟩,⟨[28,33,35],15,256⟩,⟨[30,3,26],5,64⟩,⟨[20,37],5,64⟩,⟨[28,36,38],20,320⟩,⟨[17,39],20,320⟩,⟨[14,40],20,320⟩,⟨[34,27,41],25,384⟩,⟨[18,42],25,384⟩,⟨[34,31,41],25,384⟩,⟨[18,44],25,384⟩,⟨[34,34,41],25,384⟩,⟨[18,46],25,384⟩,⟨[34,37,41],25,384⟩,⟨[18,48],25,384⟩]
def rk_T (cs:CL):Tb:=⟨rk_r,cs,1000000000⟩
def rk_G (cs:CL) (r:SV Ato):Prop:=Zfh symTabS (rk_T cs) 40 [.agg (cRs [0,1,2]),.agg (cRs [3])] r 200
def Zas (a0 a1 a2 a3:Rat):Nat->AV:=rho (rk_T []) (Xp [a0,a1,a2,a3])
def rk_k0:CL:=([1,41],1)::[]
def rk_k1:CL:=([1,27],1)::rk_k0
theorem rk_p1 (z0:Int) (z1:Int) (z2:Int):rk_G (([1,37],z2)::(([1,34],z1)::(([1,31],z0)::rk_k1))) (.agg (cRs [42,44,46,48])):=λ_ _ _=>by kernel_rfl
def rk_k2:CL:=([1,27],(-1))::rk_k0
theorem rk_p0 (z0:Int) (z1:Int) (z2:Int):rk_G (([1,37],z2)::(([1,34],z1)::(([1,31],z0)::rk_k2))) (.agg (cRs [43,45,47,49])):=λ_ _ _=>by kernel_rfl
def rk_k3:CL:=([1,27],0)::rk_k0
def rk_k4:CL:=([1,31],1)::rk_k3
theorem rk_p3 (z0:Int) (z1:Int):rk_G (([1,37],z1)::(([1,34],z0)::rk_k4)) (.agg (cRs [42,44,46,48])):=λ_ _ _=>by kernel_rfl
def rk_k5:CL:=([1,31],(-1))::rk_k3
theorem rk_p2 (z0:Int) (z1:Int):rk_G (([1,37],z1)::(([1,34],z0)::rk_k5)) (.agg (cRs [43,45,47,49])):=λ_ _ _=>by kernel_rfl
def rk_k6:CL:=([1,31],0)::rk_k3
def rk_k7:CL:=([1,34],1)::rk_k6
theorem rk_p5 (z0:Int):rk_G (([1,37],z0)::rk_k7) (.agg (cRs [42,44,46,48])):=λ_ _ _=>by kernel_rfl
def rk_k8:CL:=([1,34],(-1))::rk_k6
theorem rk_p4 (z0:Int):rk_G (([1,37],z0)::rk_k8) (.agg (cRs [43,45,47,49])):=λ_ _ _=>by kernel_rfl
theorem cref05_Make {S:Sh} {w:World} (hS:ZU S w) {c_a:List Value} {a0 a1 a2:Rat} {k_a:Nat} (h_a:Gs S c_a [a0,a1,a2] k_a) {c_b:List Value} {a3:Rat} {k_b:Nat} (h_b:Gs S c_b [a3] k_b) (hlim:k_a<=1000000000) (hlim2:k_b<=1000000000) (hn0:¬(a0.num=0/\a1.num=0/\a2.num=0)):
  Calls Tryz.prog 40 [(.agg (c_a:List Value).toArray),(.agg (c_b:List Value).toArray)].toArray w (Ret S w (λS v=>∃(c0:List Value),v= .agg c0.toArray/\Gs S c0 [pn a0 a1 a2 a3 a0,pn a0 a1 a2 a3 a1,pn a0 a1 a2 a3 a2,pn a0 a1 a2 a3 a3] (25*max k_a k_b+384))):=by
 have leaf:=λcs hc {r} (h:rk_G cs r)=>YP symTabS_OK (K:=max k_a k_b) (base:=Xp [a0,a1,a2,a3]) (by kernel_rfl) (by omega) (by kernel_rfl) hS (λ_ _=>.cons (.agg (cRs_mk (is:=[0,1,2]) (qs:=[a0,a1,a2]) (k:=max k_a k_b) ⟨by kernel_rfl,le1 _,by kernel_rfl,le1 _,by kernel_rfl,le1 _,trivial⟩ (Gs.wide (by omega) h_a))) (.cons (.agg (cRs_mk (is:=[3]) (qs:=[a3]) (k:=max k_a k_b) ⟨by kernel_rfl,le1 _,trivial⟩ (Gs.wide (by omega) h_b))) .nil)) cs hc h;have qn:pS a0.num a1.num a2.num= -1->QsI (Zas a0 a1 a2 a3) (Ze5 (rk_T []) (max k_a k_b)) (25*max k_a k_b+384) [43,45,47,49] [pn a0 a1 a2 a3 a0,pn a0 a1 a2 a3 a1,pn a0 a1 a2 a3 a2,pn a0 a1 a2 a3 a3]:=λhs=>⟨(by kernel_rfl:(Zas a0 a1 a2 a3) 43= .q (-(rM a0 a1 a2 a3 a0 / (((rG a0 a1 a2 a3:Nat):Int):Rat)))).trans (congrArg AV.q (ref_neg hn0 hs (pL_a a0 a1 a2 a3) (Zca a0 a1 a2 a3).1)),Nat.le_refl _,(by kernel_rfl:(Zas a0 a1 a2 a3) 45= .q (-(rM a0 a1 a2 a3 a1 / (((rG a0 a1 a2 a3:Nat):Int):Rat)))).trans (congrArg AV.q (ref_neg hn0 hs (pL_b a0 a1 a2 a3) (Zca a0 a1 a2 a3).2.1)),Nat.le_refl _,(by kernel_rfl:(Zas a0 a1 a2 a3) 47= .q (-(rM a0 a1 a2 a3 a2 / (((rG a0 a1 a2 a3:Nat):Int):Rat)))).trans (congrArg AV.q (ref_neg hn0 hs (pL_c a0 a1 a2 a3) (Zca a0 a1 a2 a3).2.2.1)),Nat.le_refl _,(by kernel_rfl:(Zas a0 a1 a2 a3) 49= .q (-(rM a0 a1 a2 a3 a3 / (((rG a0 a1 a2 a3:Nat):Int):Rat)))).trans (congrArg AV.q (ref_neg hn0 hs (pL_d a0 a1 a2 a3) (Zca a0 a1 a2 a3).2.2.2)),Nat.le_refl _,trivial⟩;have qp:pS a0.num a1.num a2.num=1->QsI (Zas a0 a1 a2 a3) (Ze5 (rk_T []) (max k_a k_b)) (25*max k_a k_b+384) [42,44,46,48] [pn a0 a1 a2 a3 a0,pn a0 a1 a2 a3 a1,pn a0 a1 a2 a3 a2,pn a0 a1 a2 a3 a3]:=λhs=>⟨(by kernel_rfl:(Zas a0 a1 a2 a3) 42= .q (rM a0 a1 a2 a3 a0 / (((rG a0 a1 a2 a3:Nat):Int):Rat))).trans (congrArg AV.q (ref_pos hn0 hs (pL_a a0 a1 a2 a3) (Zca a0 a1 a2 a3).1)),Nat.le_refl _,(by kernel_rfl:(Zas a0 a1 a2 a3) 44= .q (rM a0 a1 a2 a3 a1 / (((rG a0 a1 a2 a3:Nat):Int):Rat))).trans (congrArg AV.q (ref_pos hn0 hs (pL_b a0 a1 a2 a3) (Zca a0 a1 a2 a3).2.1)),Nat.le_refl _,(by kernel_rfl:(Zas a0 a1 a2 a3) 46= .q (rM a0 a1 a2 a3 a2 / (((rG a0 a1 a2 a3:Nat):Int):Rat))).trans (congrArg AV.q (ref_pos hn0 hs (pL_c a0 a1 a2 a3) (Zca a0 a1 a2 a3).2.2.1)),Nat.le_refl _,(by kernel_rfl:(Zas a0 a1 a2 a3) 48= .q (rM a0 a1 a2 a3 a3 / (((rG a0 a1 a2 a3:Nat):Int):Rat))).trans (congrArg AV.q (ref_pos hn0 hs (pL_d a0 a1 a2 a3) (Zca a0 a1 a2 a3).2.2.2)),Nat.le_refl _,trivial⟩;have h0:ZI (Zas a0 a1 a2 a3) [1,41]=1:=(by kernel_rfl:ZI (Zas a0 a1 a2 a3) [1,41]=Yy ((((rG a0 a1 a2 a3:Nat):Int):Rat)).num).trans (rG_sgn hn0);have H0:Csl (Zas a0 a1 a2 a3) rk_k0:=.cons h0 .nil;rcases XX (Zas a0 a1 a2 a3) (t:=1) (is:=[27]) (by decide) with h1|h1|h1;rotate_left 2
 have H1:Csl (Zas a0 a1 a2 a3) rk_k1:=.cons h1 H0;have g0:=Qv ((Zbi (pL_a a0 a1 a2 a3)).symm.trans ((by kernel_rfl:ZI (Zas a0 a1 a2 a3) [1,27]=Yy (rM a0 a1 a2 a3 a0).num).symm.trans h1));have hs:pS a0.num a1.num a2.num=1:=by unfold pS sgnI;rw[if_pos (by omega),if_neg (by omega)]
 refine Calls.mono (leaf _ (.cons (show ZI (Zas a0 a1 a2 a3) [1,37]=_ from rfl) (.cons (show ZI (Zas a0 a1 a2 a3) [1,34]=_ from rfl) (.cons (show ZI (Zas a0 a1 a2 a3) [1,31]=_ from rfl) H1))) (rk_p1 _ _ _)) λe w' ⟨v,S',q1,q2,blk,q3⟩=>⟨v,S',q1,q2,?_⟩
 cases q3 with
 |agg h4=>exact⟨_,rfl,cRs_of (qp hs) h4⟩
 have H2:Csl (Zas a0 a1 a2 a3) rk_k2:=.cons h1 H0;have g0:=Qw ((Zbi (pL_a a0 a1 a2 a3)).symm.trans ((by kernel_rfl:ZI (Zas a0 a1 a2 a3) [1,27]=Yy (rM a0 a1 a2 a3 a0).num).symm.trans h1));have hs:pS a0.num a1.num a2.num= -1:=by unfold pS sgnI;rw[if_pos (by omega),if_pos (by omega)]
 refine Calls.mono (leaf _ (.cons (show ZI (Zas a0 a1 a2 a3) [1,37]=_ from rfl) (.cons (show ZI (Zas a0 a1 a2 a3) [1,34]=_ from rfl) (.cons (show ZI (Zas a0 a1 a2 a3) [1,31]=_ from rfl) H2))) (rk_p0 _ _ _)) λe w' ⟨v,S',q1,q2,blk,q3⟩=>⟨v,S',q1,q2,?_⟩
 cases q3 with
 |agg h4=>exact⟨_,rfl,cRs_of (qn hs) h4⟩
 have H3:Csl (Zas a0 a1 a2 a3) rk_k3:=.cons h1 H0;rcases XX (Zas a0 a1 a2 a3) (t:=1) (is:=[31]) (by decide) with h2|h2|h2;rotate_left 2
 have H4:Csl (Zas a0 a1 a2 a3) rk_k4:=.cons h2 H3;have g0:=Yf.1 ((Zbi (pL_a a0 a1 a2 a3)).symm.trans ((by kernel_rfl:ZI (Zas a0 a1 a2 a3) [1,27]=Yy (rM a0 a1 a2 a3 a0).num).symm.trans h1));have g1:=Qv ((Zbi (pL_b a0 a1 a2 a3)).symm.trans ((by kernel_rfl:ZI (Zas a0 a1 a2 a3) [1,31]=Yy (rM a0 a1 a2 a3 a1).num).symm.trans h2));have hs:pS a0.num a1.num a2.num=1:=by unfold pS sgnI;rw[if_neg (by omega),if_pos (by omega),if_neg (by omega)]
 refine Calls.mono (leaf _ (.cons (show ZI (Zas a0 a1 a2 a3) [1,37]=_ from rfl) (.cons (show ZI (Zas a0 a1 a2 a3) [1,34]=_ from rfl) H4)) (rk_p3 _ _)) λe w' ⟨v,S',q1,q2,blk,q3⟩=>⟨v,S',q1,q2,?_⟩
 cases q3 with
 |agg h4=>exact⟨_,rfl,cRs_of (qp hs) h4⟩
 have H5:Csl (Zas a0 a1 a2 a3) rk_k5:=.cons h2 H3;have g0:=Yf.1 ((Zbi (pL_a a0 a1 a2 a3)).symm.trans ((by kernel_rfl:ZI (Zas a0 a1 a2 a3) [1,27]=Yy (rM a0 a1 a2 a3 a0).num).symm.trans h1));have g1:=Qw ((Zbi (pL_b a0 a1 a2 a3)).symm.trans ((by kernel_rfl:ZI (Zas a0 a1 a2 a3) [1,31]=Yy (rM a0 a1 a2 a3 a1).num).symm.trans h2));have hs:pS a0.num a1.num a2.num= -1:=by unfold pS sgnI;rw[if_neg (by omega),if_pos (by omega),if_pos (by omega)]
 refine Calls.mono (leaf _ (.cons (show ZI (Zas a0 a1 a2 a3) [1,37]=_ from rfl) (.cons (show ZI (Zas a0 a1 a2 a3) [1,34]=_ from rfl) H5)) (rk_p2 _ _)) λe w' ⟨v,S',q1,q2,blk,q3⟩=>⟨v,S',q1,q2,?_⟩
 cases q3 with
 |agg h4=>exact⟨_,rfl,cRs_of (qn hs) h4⟩
 have H6:Csl (Zas a0 a1 a2 a3) rk_k6:=.cons h2 H3;rcases XX (Zas a0 a1 a2 a3) (t:=1) (is:=[34]) (by decide) with h3|h3|h3;rotate_left
 exact absurd h3 (λ_=>hn0 ⟨Yf.1 ((Zbi (pL_a a0 a1 a2 a3)).symm.trans ((by kernel_rfl:ZI (Zas a0 a1 a2 a3) [1,27]=Yy (rM a0 a1 a2 a3 a0).num).symm.trans h1)),Yf.1 ((Zbi (pL_b a0 a1 a2 a3)).symm.trans ((by kernel_rfl:ZI (Zas a0 a1 a2 a3) [1,31]=Yy (rM a0 a1 a2 a3 a1).num).symm.trans h2)),Yf.1 ((Zbi (pL_c a0 a1 a2 a3)).symm.trans ((by kernel_rfl:ZI (Zas a0 a1 a2 a3) [1,34]=Yy (rM a0 a1 a2 a3 a2).num).symm.trans h3))⟩);have H7:Csl (Zas a0 a1 a2 a3) rk_k7:=.cons h3 H6;have g0:=Yf.1 ((Zbi (pL_a a0 a1 a2 a3)).symm.trans ((by kernel_rfl:ZI (Zas a0 a1 a2 a3) [1,27]=Yy (rM a0 a1 a2 a3 a0).num).symm.trans h1));have g1:=Yf.1 ((Zbi (pL_b a0 a1 a2 a3)).symm.trans ((by kernel_rfl:ZI (Zas a0 a1 a2 a3) [1,31]=Yy (rM a0 a1 a2 a3 a1).num).symm.trans h2));have g2:=Qv ((Zbi (pL_c a0 a1 a2 a3)).symm.trans ((by kernel_rfl:ZI (Zas a0 a1 a2 a3) [1,34]=Yy (rM a0 a1 a2 a3 a2).num).symm.trans h3));have hs:pS a0.num a1.num a2.num=1:=by unfold pS sgnI;rw[if_neg (by omega),if_neg (by omega),if_neg (by omega)]
 refine Calls.mono (leaf _ (.cons (show ZI (Zas a0 a1 a2 a3) [1,37]=_ from rfl) H7) (rk_p5 _)) λe w' ⟨v,S',q1,q2,blk,q3⟩=>⟨v,S',q1,q2,?_⟩
 cases q3 with
 |agg h4=>exact⟨_,rfl,cRs_of (qp hs) h4⟩
 have H8:Csl (Zas a0 a1 a2 a3) rk_k8:=.cons h3 H6;have g0:=Yf.1 ((Zbi (pL_a a0 a1 a2 a3)).symm.trans ((by kernel_rfl:ZI (Zas a0 a1 a2 a3) [1,27]=Yy (rM a0 a1 a2 a3 a0).num).symm.trans h1));have g1:=Yf.1 ((Zbi (pL_b a0 a1 a2 a3)).symm.trans ((by kernel_rfl:ZI (Zas a0 a1 a2 a3) [1,31]=Yy (rM a0 a1 a2 a3 a1).num).symm.trans h2));have g2:=Qw ((Zbi (pL_c a0 a1 a2 a3)).symm.trans ((by kernel_rfl:ZI (Zas a0 a1 a2 a3) [1,34]=Yy (rM a0 a1 a2 a3 a2).num).symm.trans h3));have hs:pS a0.num a1.num a2.num= -1:=by unfold pS sgnI;rw[if_neg (by omega),if_neg (by omega),if_pos (by omega)]
 refine Calls.mono (leaf _ (.cons (show ZI (Zas a0 a1 a2 a3) [1,37]=_ from rfl) H8) (rk_p4 _)) λe w' ⟨v,S',q1,q2,blk,q3⟩=>⟨v,S',q1,q2,?_⟩
 cases q3 with
 |agg h4=>exact⟨_,rfl,cRs_of (qn hs) h4⟩
end
end Go.Cham
namespace Go.Cham
open Go Go.RowKit Go.Proofs
theorem cref03_low {S:Sh} {w:World} (hS:ZU S w) {mi:Bool} {c_a:Value} {a k_a:Nat} (h_a:Gn S c_a a k_a) {c_b:Value} {b k_b:Nat} (h_b:Gn S c_b b k_b) (h0:0<b) (hlim:k_a<=540000000000) (hlim2:k_b<=540000000000):
  Calls Tryz.prog 102 [(.bool mi),c_a,c_b].toArray w (Ret S w (λS v=>∃(c0:List Value),v= .agg c0.toArray/\Gs S c0 [mkRat (sI mi a) b] (k_a+k_b))):=by
 cases mi;exact cref03_low0 hS h_a h_b h0 hlim hlim2;exact cref03_low1 hS h_a h_b h0 hlim hlim2
theorem whole_n0 {a:Nat} (h:(0:Int)<(((ZH W16 a).length:Nat):Int)):(⟨#[45]⟩:ByteArray)++txt a=YV (Ze6 (sI true a)):=by
 have h2:=Qe (n:=a) (by omega);have e:a=(sI true a).natAbs:=by show a=(-(a:Int)).natAbs;omega
 conv=>lhs;rw[e]
 exact ztxt_neg (by show -(a:Int)<0;omega)
theorem whole_n1 {a:Nat} (h:¬(0:Int)<(((ZH W16 a).length:Nat):Int)):txt a=YV (Ze6 (sI true a)):=by
 obtain rfl:=QZ (n:=a) (by omega);exact ztxt_nn (a:=sI true 0) (by decide)
theorem whole_p {a:Nat}:txt a=YV (Ze6 (sI false a)):=by
 have e:a=(sI false a).natAbs:=by show a=((a:Int)).natAbs;omega
 conv=>lhs;rw[e]
 exact ztxt_nn (by show ¬(a:Int)<0;omega)
theorem sI_num (q:Rat):sI (decide (q<0)) q.num.natAbs=q.num:=by
 unfold sI;by_cases h:q<0;have:=Qk.2 h;simp only[h,decide_true,if_true];omega;have h3:¬q.num<0:=λz=>h (Qk.1 z);simp only[h,decide_false,Bool.false_eq_true,if_false];omega
theorem zero_bd {k:Nat}:(0:Rat).num.natAbs<=2^k/\(0:Rat).den<=2^k:=⟨Nat.zero_le _,Nat.one_le_two_pow⟩
theorem Zgi {l:List Nat}:Zcp l=decide (l.getD 0 0=45):=by
 unfold Zcp QM
 cases l with
 |nil=>rfl
 |cons c r=>
  by_cases h:c=47
  ·subst h;rfl
  ·simp[Zbr,h]
theorem cut_min {l:List Nat} (h:Zcp l=true):Qo l=QM (l.drop 1)/\Qr l=Qr (l.drop 1)/\Zdr l=Zdr (l.drop 1):=by
 have h0:=h;rw[Zgi] at h
 cases l with
 |nil=>simp at h
 |cons c r=>
  have hc:c=45:=by simpa using h
  subst hc
  unfold Qo Qr
  rw[h0]
  refine⟨?_,?_,?_⟩
  ·rfl
  ·rfl
  ·rfl
theorem cut_nomin {l:List Nat} (h:Zcp l=false):Qo l=QM l:=by unfold Qo;rw[h];rfl
def strk (l:List Nat) (n:Nat):Nat:=n+(QM (l.drop n)).length
theorem strk_end (l:List Nat):strk l l.length=l.length:=by
 unfold strk;rw[List.drop_length];rfl
theorem drop_pred {l:List Nat} {n:Nat} (h0:0<n) (h:n<=l.length):l.drop (n - 1)=l.getD (n - 1) 0::l.drop n:=by
 have hl:n - 1<l.length:=by omega
 rw[List.drop_eq_getElem_cons hl,List.getD_eq_getElem?_getD,List.getElem?_eq_getElem hl,show n - 1+1=n by omega];rfl
theorem strk_hit {l:List Nat} {n:Nat} (h0:0<n) (h:n<=l.length) (e:l.getD (n - 1) 0=47):strk l (n - 1)=n - 1:=by
 unfold strk;rw[drop_pred h0 h,e];rfl
theorem strk_miss {l:List Nat} {n:Nat} (h0:0<n) (h:n<=l.length) (e:¬l.getD (n - 1) 0=47):strk l (n - 1)=strk l n:=by
 unfold strk;rw[drop_pred h0 h];unfold QM;simp only[Zbr,e,if_false,List.length_cons];omega
theorem strk_zero (l:List Nat):strk l 0=(QM l).length:=by unfold strk;rw[List.drop_zero];omega
theorem Zby {l:List Nat}:(((strk l 0:Nat):Int)<((l.length:Nat):Int))↔Zdr l=true:=by
 rw[strk_zero];have hi:Zge l=if Zdr l=true then((QM l).length:Int) else -1:=rfl;constructor;intro h;by_cases q:Zdr l=true;exact q;exfalso;have:=idx47_neg (l:=l) (by rw[hi,if_neg q];omega);rw[this.2.1] at h;omega;intro q;have h:=(Zgd (l:=l) (by rw[hi,if_pos q];omega)).2.2;have:=congrArg List.length h;rw[List.length_append,List.length_cons] at this;omega
theorem strk_num {t:ByteArray} {n:Nat} (h:n=strk (bl t) 0):bl (t.extract 0 n)=QM (bl t):=by
 rw[Zbf,List.drop_zero,h,strk_zero];by_cases q:Zdr (bl t)=true;have h2:=(Zgd (l:=bl t) (by unfold Zge;rw[if_pos q];omega)).2.2;exact(congrArg (List.take _) h2).trans List.take_left;have h2:=(idx47_neg (l:=bl t) (by unfold Zge;rw[if_neg q];omega)).2.1;rw[h2,List.take_length]
theorem strk_den {t:ByteArray} {n:Nat} (h:n=strk (bl t) 0+1) (q:Zdr (bl t)=true):bl (t.extract n t.size)=Qr (bl t):=by
 rw[strk_zero] at h;have h2:=(Zgd (l:=bl t) (by unfold Zge;rw[if_pos q];omega)).2.2;rw[cut_right h2 h,Qd (Zdd (bl_lt t)).2];unfold Qr;rw[if_pos q]
theorem str49 {sz:ByteArray}:sz=(⟨#[49]⟩:ByteArray)↔bl sz=[49]:=⟨λh=>by rw[h];rfl,λh=>bl_inj (by rw[h];rfl)⟩
theorem wd_small {l:List Nat} (h:wd l) (h0:l≠[48]) (h1:l≠[49]):Xi l≠0/\Xi l≠1:=
 ⟨λe=>h0 (by rw[<-Zbq h,e];rfl),λe=>h1 (by rw[<-Zbq h,e,<-Zga];exact Zbq ⟨by simp,by simp,Or.inl rfl⟩)⟩
theorem ref_same {s:ByteArray} (hb:¬Zds (bl s)) (hl:¬Ql (bl s)) (h1:Zdr (bl s)=true->Xi (Qr (bl s))≠0/\Xi (Qr (bl s))≠1) (e:YV (rtxt (mkRat (fraw (bl s)) (Xi (Qr (bl s)))))=s):Za3 (bl s)=0/\Zbv (bl s)=mkRat (fraw (bl s)) (Xi (Qr (bl s))):=by
 have h2:¬fred (bl s):=(rtxt_raw hb h1).1 (by have:=congrArg bl e;rwa [Qd (rtxt_lt _)] at this);have h3:=(ferr_ok hb hl h2).1;exact⟨h3,fval_ok h3⟩
theorem ref_other {s:ByteArray} (hb:¬Zds (bl s)) (hl:¬Ql (bl s)) (h1:Zdr (bl s)=true->Xi (Qr (bl s))≠0/\Xi (Qr (bl s))≠1) (e:¬YV (rtxt (mkRat (fraw (bl s)) (Xi (Qr (bl s)))))=s):Za3 (bl s)=12/\Zbv (bl s)=0:=by
 refine Zc6 hb hl (Classical.not_not.1 λh2=>e (bl_inj ?_));rw[Qd (rtxt_lt _)];exact(rtxt_raw hb h1).2 h2
theorem Zfe {S:Sh} {w:World} (hS:ZU S w) {s:ByteArray} (hlim:s.size<=1099511627776):Calls Tryz.prog 100 [(.string s)].toArray w (Ret S w (λS v=>v= .bool (decide (wd (bl s))))):=by
 refine Calls.mono (cref01_Digits hS hlim) λe w' ⟨v,S',q1,q2,h⟩=>⟨v,S',q1,q2,?_⟩;rcases h with⟨h,e⟩|⟨h,e⟩;rw[e,decide_eq_true h];rw[e,decide_eq_false h]
theorem ref_dp {l:List Nat} (h:Zdr l=true->Xi (Qr l)≠0/\Xi (Qr l)≠1):0<Xi (Qr l):=by
 by_cases q:Zdr l=true;exact Nat.pos_of_ne_zero (h q).1;rw[show Qr l=[49] by unfold Qr;rw[if_neg q],Zga];decide
theorem not_bad {l:List Nat} (h1:wd (Qo l)) (h2:wd (Qr l)) (h3:¬(Zcp l=true/\Qo l=[48])):¬Zds l:=λq=>q.elim (λq=>q h1) (λq=>q.elim (λq=>q h2) h3)
theorem bl_tail {s:ByteArray}:bl (s.extract 1 s.size)=(bl s).drop 1:=by
 rw[Zbf,List.take_of_length_le (by rw[YD];omega)]
theorem min_pos {l:List Nat} (h:Zcp l=true):0<l.length:=by
 cases l with
 |nil=>exact absurd h (by decide)
 |cons a r=>simp
theorem pval_01 {l:List Nat} (h:l=[48]\/l=[49]):Xi l<2:=by rcases h with rfl|rfl <;> decide
end Go.Cham
namespace Go.Cham
open Go Go.RowKit Go.Proofs
theorem agg_44:Zgv Tryz.prog 44=some false:=by kernel_rfl
theorem Zco:Zgv Tryz.prog 46=some true:=by kernel_rfl
theorem Xe:YE Tryz.prog 46=some 3:=by kernel_rfl
theorem zero_46:QJ Tryz.prog 46=some (.agg ([(.bool false),(.slice none 0 0),(.slice none 0 0)]:List Value).toArray):=by kernel_rfl
theorem field_46_0:QN Tryz.prog 46 0=some (0,4,1):=by kernel_rfl
theorem field_46_1:QN Tryz.prog 46 1=some (1,44,1):=by kernel_rfl
theorem field_46_2:QN Tryz.prog 46 2=some (2,44,1):=by kernel_rfl
theorem ent_56:ZT Tryz.prog 56=true:=by kernel_rfl
theorem ent_100:ZT Tryz.prog 100=true:=by kernel_rfl
theorem Zec:ZT Tryz.prog 101=true:=by kernel_rfl
theorem ent_102:ZT Tryz.prog 102=true:=by kernel_rfl
theorem ent_103:ZT Tryz.prog 103=true:=by kernel_rfl
theorem ent_119:ZT Tryz.prog 119=true:=by kernel_rfl
theorem ent_120:ZT Tryz.prog 120=true:=by kernel_rfl
theorem ent_121:ZT Tryz.prog 121=true:=by kernel_rfl
end Go.Cham
namespace Go.Cham
open Go Go.RowKit Go.Proofs
set_option maxRecDepth 20000 in
theorem cref03_Whole {S:Sh} {w:World} (hS:ZU S w) {mi:Bool} {c_a:Value} {a k_a:Nat} (h_a:Gn S c_a a k_a) (hlim:k_a<=100000000000):Calls Tryz.prog 119 [(.bool mi),c_a].toArray w (Ret S w (λS v=>v= .string (YV (Ze6 (sI mi a))))):=by
 refine ZB (n:=17) Tryz.func119 rfl rfl ?_;intro ac0 L0;replace L0:ZL ac0 17 [(0,(.bool mi)),(1,c_a)]:=L0;have R0:Run S w S [] w:=.start hS;obtain rfl|rfl:mi=true\/mi=false:=by cases mi <;> simp
 refine wp_seq (Za (sa L0 rfl ?_));intro _ L1;refine sn (wp_seq (Za (sm L1 rfl ?_)));intro _ L2;refine so L2 rfl (Zh L2 rfl ent_121 (Zfu R0.holds h_a (by omega)) λv_1 _ _ x1 v1=>?_);have R1:=R0.call x1;have l1:=x1.le;obtain rfl:=v1;intro _ L3;refine sa L3 rfl λ_ L4=>sn (wp_seq (wp_seq (Za (sm L4 rfl λ_ L5=>sm L5 rfl λ_ L6=>son L6 rfl (Zf L6 rfl λ_ L7=>son L7 rfl (Zcj L7 rfl Tryz.underlying44 (h_a.up l1) λ_ L8=>?_))))));by_cases t1:(0:Int)<(((ZH W16 a).length:Nat):Int);refine son L8 rfl (bT t1 (λ_=>ZD L8 rfl rfl) λ_ L9=>so L9 rfl (Ze L9 rfl rfl λ_ L10=>?_));have L11:=(L10.kp [4,5,13] rfl);clear L10;refine sn (Zm L11 rfl rfl (Za (sm L11 rfl ?_)));intro _ L12;refine so L12 rfl (XP (z:=((⟨#[45]⟩:ByteArray)++(txt a))) L12 rfl rfl (by rw[Zei];have q:=Zaa h_a.1;(show 1+_<=_);omega) rfl λ_ L13=>sa L13 rfl λ_ L14=>sn (wp_seq (Za (sm L14 rfl λ_ L15=>sa L15 rfl λ_ L16=>sn (wp_ret ((Zn (rs:=Tryz.f119.results.toList) (L16.kp [4] rfl) rfl (.tmp rfl Res.nil) ?_)))))));exact⟨_,_,rfl,R1.ext,(by first|exact congrArg Value.string (whole_n0 (by assumption))|exact congrArg Value.string (whole_n1 (by assumption))|exact congrArg Value.string whole_p)⟩;refine son L8 rfl (bF t1 (λ_=>ZD L8 rfl rfl) λ_ L18=>so L18 rfl (Ze L18 rfl rfl λ_ L19=>?_));have L20:=(L19.kp [4,5,13] rfl);clear L19;refine sn (Zi L20 rfl rfl (wp_skip ((Zb (wp_seq (Za (sm L20 rfl ?_)))))));intro _ L21;exact sa L21 rfl λ_ L22=>sn (wp_ret ((Zn (rs:=Tryz.f119.results.toList) L22 rfl (.tmp rfl Res.nil) (⟨_,_,rfl,R1.ext,(by first|exact congrArg Value.string (whole_n0 (by assumption))|exact congrArg Value.string (whole_n1 (by assumption))|exact congrArg Value.string whole_p)⟩))));refine wp_seq (Za (sa L0 rfl ?_));intro _ L23;refine sn (wp_seq (Za (sm L23 rfl ?_)));intro _ L24;refine so L24 rfl (Zh L24 rfl ent_121 (Zfu R0.holds h_a (by omega)) λv_2 _ _ x2 v2=>?_);have R2:=R0.call x2;obtain rfl:=v2;intro _ L25;refine sa L25 rfl λ_ L26=>sn (wp_seq (wp_seq (Za (sm L26 rfl λ_ L27=>sm L27 rfl λ_ L28=>sof L28 rfl λ_ L29=>sof L29 rfl λ_ L30=>?_))));refine sof L30 rfl λ_ L31=>so L31 rfl (Ze L31 rfl rfl λ_ L32=>?_);have L33:=(L32.kp [4,5,13] rfl);clear L32;refine sn (Zi L33 rfl rfl (wp_skip ((Zb (wp_seq (Za (sm L33 rfl ?_)))))));intro _ L34;exact sa L34 rfl λ_ L35=>sn (wp_ret ((Zn (rs:=Tryz.f119.results.toList) L35 rfl (.tmp rfl Res.nil) (⟨_,_,rfl,R2.ext,(by first|exact congrArg Value.string (whole_n0 (by assumption))|exact congrArg Value.string (whole_n1 (by assumption))|exact congrArg Value.string whole_p)⟩))))
set_option maxRecDepth 20000 in
theorem cref03_Text {S:Sh} {w:World} (hS:ZU S w) {c_a:List Value} {a:Rat} {k_a:Nat} (h_a:Gs S c_a [a] (k_a)) (hlim:k_a<=100000000000):Calls Tryz.prog 56 [(.agg (c_a:List Value).toArray)].toArray w (Ret S w (λS v=>v= .string (YV (rtxt a)))):=by
 refine ZB (n:=22) Tryz.func56 rfl rfl ?_;intro ac0 L0;replace L0:ZL ac0 22 [(0,(.agg (c_a:List Value).toArray))]:=L0;have R0:Run S w S [] w:=.start hS;have hle:=h_a.le;have hzl:=ztxt_len hle.1;have hdl:=Zaa hle.2;rw[<-sI_num a] at hzl;refine wp_seq (Za (so L0 rfl (ZW (cs:=c_a) L0 rfl R0 rfl ?_)));intro b1 _ _ l1 r1 R1 _ L1;refine sa L1 rfl λ_ L2=>sn (wp_seq (Za (so L2 rfl (Zd (off':=0) L2 rfl field_46_0 rfl λ_ L3=>so L3 rfl (Zj L3 rfl Zbx (R1.row r1) (h_a.up l1).sgn λ_ L4=>so L4 rfl (Zd (off':=1) L4 rfl field_46_1 rfl λ_ L5=>?_))))));obtain⟨c1,e1,h1⟩:=(h_a.up l1).cn;refine so L5 rfl (Zj L5 rfl agg_44 (R1.row r1) e1 λ_ L6=>so L6 rfl (Zh L6 rfl ent_119 (cref03_Whole R1.holds (mi:=(decide (a<0))) h1 (by omega)) λv_1 _ _ x1 v1=>?_));have R2:=R1.call x1;have l2:=x1.le;obtain rfl:=v1;intro _ L7;refine sa L7 rfl λ_ L8=>?_;have L9:=(L8.kp [1,2,3] rfl);clear L8;refine sn (wp_seq (Za (so L9 rfl (Zd (off':=2) L9 rfl field_46_2 rfl ?_))));intro _ L10;obtain⟨c2,e2,h2⟩:=(h_a.up (l1.trans l2)).cd;refine so L10 rfl (Zj L10 rfl agg_44 (R2.row (r1.up l2)) e2 λ_ L11=>so L11 rfl (Zh L11 rfl ent_120 (cref01_One R2.holds h2) λv_2 _ _ x2 v2=>?_));have R3:=R2.call x2;have l3:=x2.le;rcases v2 with⟨t1,rfl⟩|⟨t2,rfl⟩;intro _ L12;refine sa L12 rfl λ_ L13=>sn (wp_seq (wp_seq (Za (sm L13 rfl λ_ L14=>so L14 rfl (Xc L14 rfl rfl λ_ L15=>?_)))));have L16:=(L15.kp [1,2,3,14] rfl);clear L15;refine sn (Zi L16 rfl rfl (wp_skip ((Zb (wp_seq (Za (sm L16 rfl ?_)))))));intro _ L17;exact sa L17 rfl λ_ L18=>sn (wp_ret ((Zn (rs:=Tryz.f56.results.toList) L18 rfl (.tmp rfl Res.nil) (⟨_,_,rfl,R3.ext,(by rw[sI_num];first|exact congrArg Value.string (rtxt_int (by assumption))|exact congrArg Value.string (rtxt_frac (by assumption)))⟩))));intro _ L19;refine sa L19 rfl λ_ L20=>sn (wp_seq (wp_seq (Za (sm L20 rfl λ_ L21=>so L21 rfl (Xc L21 rfl rfl λ_ L22=>?_)))));have L23:=(L22.kp [1,2,3,14] rfl);clear L22;refine sn (Zm L23 rfl rfl (Za (sm L23 rfl ?_)));intro _ L24;refine so L24 rfl (XP (z:=((YV (Ze6 (sI (decide (a<0)) a.num.natAbs)))++(⟨#[47]⟩:ByteArray))) L24 rfl rfl (by simp only[ByteArray.size_append,Zd4,Zei,show(⟨#[47]⟩:ByteArray).size=1 from rfl];omega) rfl λ_ L25=>so L25 rfl (Zd (off':=2) L25 rfl field_46_2 rfl λ_ L26=>?_));obtain⟨c3,e3,h3⟩:=(h_a.up (l1.trans (l2.trans l3))).cd;refine so L26 rfl (Zj L26 rfl agg_44 (R3.row (r1.up (l2.trans l3))) e3 λ_ L27=>so L27 rfl (Zh L27 rfl ent_121 (Zfu R3.holds h3 (by omega)) λv_3 _ _ x3 v3=>?_));have R4:=R3.call x3;obtain rfl:=v3;intro _ L28;refine so L28 rfl (XP (z:=(((YV (Ze6 (sI (decide (a<0)) a.num.natAbs)))++(⟨#[47]⟩:ByteArray))++(txt a.den))) L28 rfl rfl (by simp only[ByteArray.size_append,Zd4,Zei,show(⟨#[47]⟩:ByteArray).size=1 from rfl];omega) rfl λ_ L29=>sa L29 rfl λ_ L30=>?_);have L31:=(L30.kp [2,3] rfl);clear L30;refine sn (wp_seq (Za (sm L31 rfl ?_)));intro _ L32;exact sa L32 rfl λ_ L33=>sn (wp_ret ((Zn (rs:=Tryz.f56.results.toList) L33 rfl (.tmp rfl Res.nil) (⟨_,_,rfl,R4.ext,(by rw[sI_num];first|exact congrArg Value.string (rtxt_int (by assumption))|exact congrArg Value.string (rtxt_frac (by assumption)))⟩))))
set_option maxRecDepth 20000 in
theorem Qc {S:Sh} {w:World} (hS:ZU S w) {n:Int} (hn:n=0):Calls Tryz.prog 101 [(.int .i64 n)].toArray w (Ret S w (λS v=>∃(c0:List Value),v= .agg c0.toArray/\Gs S c0 [0] (0))):=by
 refine ZB (n:=16) Tryz.func101 rfl rfl ?_;intro ac0 L0;replace L0:ZL ac0 16 [(0,(.int .i64 n))]:=L0;have R0:Run S w S [] w:=.start hS;refine wp_seq (Za (so L0 rfl (ZJ (cs:=[(.bool false),(.slice none 0 0),(.slice none 0 0)]) zero_46 R0 rfl ?_)));intro b1 _ R1 _ L1;refine sn (wp_seq (Za (sm L1 rfl ?_)));intro _ L2;refine so L2 rfl (Yn (z:=((0:Nat):Int)) L2 rfl rfl Tryz.underlying29 (by subst hn;rfl) λ_ L3=>sa L3 rfl λ_ L4=>sn (wp_seq (wp_seq (Za (sm L4 rfl λ_ L5=>?_)))));by_cases t1:n<(0:Int);refine so L5 rfl (bT t1 (λ_=>Zu L5 rfl rfl) λ_ L6=>sn (Zm L6 rfl rfl (Za (sm L6 rfl λ_ L7=>so L7 rfl (does_neg (z:=(0 - ((0:Nat):Int))) L7 rfl Zae λ_ L8=>sa L8 rfl λ_ L9=>?_)))));have L10:=(L9.kp [0,2,3] rfl);clear L9;refine sn (wp_seq (Za (sm L10 rfl ?_)));intro _ L11;refine so L11 rfl (bT t1 (λ_=>Zu L11 rfl rfl) λ_ L12=>sm L12 rfl λ_ L13=>so L13 rfl (Zh L13 rfl Zc8 (Qp R1.holds (n:=(0 - 0)) (by omega)) λv_1 _ _ x1 v1=>?_));have R2:=R1.call x1;obtain⟨c1,e1,h1⟩:=v1;obtain rfl:=e1.symm;intro _ L14;refine so L14 rfl (Zh L14 rfl Zc8 (Qp R2.holds (n:=1) (by omega)) λv_2 _ _ x2 v2=>?_);have R3:=R2.call x2;have l2:=x2.le;obtain⟨c2,e2,h2⟩:=v2;obtain rfl:=e2.symm;intro _ L15;refine so L15 rfl (Zh L15 rfl ent_102 (cref03_low R3.holds (mi:=true) (h1.up l2) h2 (by decide) (by omega) (by omega)) λv_3 _ _ x3 v3=>?_);have R4:=R3.call x3;obtain⟨cs_1,rfl,h3⟩:=v3;intro _ L16;exact Zv L16 rfl rfl (Zl L16 rfl rfl R4 Xe h3.len rfl h3.ones λ_ R5 _ L17=>(sn (wp_ret ((Zn (rs:=Tryz.f101.results.toList) (L17.kp [2] rfl) rfl (Res.aggW rfl Zco Xe (R5.has (List.Mem.head _)) h3.len Res.nil) (⟨_,_,rfl,R5.ext,⟨_,rfl,(h3.toR (by rfl) (by exact zero_bd))⟩⟩))))));refine so L5 rfl (bF t1 (λ_=>Zu L5 rfl rfl) λ_ L19=>sn (Zi L19 rfl rfl (wp_skip ((Zb (wp_seq (Za (sm L19 rfl λ_ L20=>so L20 rfl (bF t1 (λ_=>Zu L20 rfl rfl) λ_ L21=>sm L21 rfl λ_ L22=>?_)))))))));refine so L22 rfl (Zh L22 rfl Zc8 (Qp R1.holds (n:=0) (by omega)) λv_4 _ _ x4 v4=>?_);have R6:=R1.call x4;obtain⟨c3,e3,h4⟩:=v4;obtain rfl:=e3.symm;intro _ L23;refine so L23 rfl (Zh L23 rfl Zc8 (Qp R6.holds (n:=1) (by omega)) λv_5 _ _ x5 v5=>?_);have R7:=R6.call x5;have l5:=x5.le;obtain⟨c4,e4,h5⟩:=v5;obtain rfl:=e4.symm;intro _ L24;refine so L24 rfl (Zh L24 rfl ent_102 (cref03_low R7.holds (mi:=false) (h4.up l5) h5 (by decide) (by omega) (by omega)) λv_6 _ _ x6 v6=>?_);have R8:=R7.call x6;obtain⟨cs_2,rfl,h6⟩:=v6;intro _ L25;exact Zv L25 rfl rfl (Zl L25 rfl rfl R8 Xe h6.len rfl h6.ones λ_ R9 _ L26=>(sn (wp_ret ((Zn (rs:=Tryz.f101.results.toList) (L26.kp [2] rfl) rfl (Res.aggW rfl Zco Xe (R9.has (List.Mem.head _)) h6.len Res.nil) (⟨_,_,rfl,R9.ext,⟨_,rfl,(h6.toR (by rfl) (by exact zero_bd))⟩⟩))))))
set_option maxRecDepth 20000 in
theorem cref03_Parse {S:Sh} {w:World} (hS:ZU S w) {s:ByteArray} (hlim:s.size<=1099511627775):Calls Tryz.prog 33 [(.string s)].toArray w (Ret S w (λS v=>∃(c0:List Value),v= .tuple [.agg c0.toArray,.int .i64 (Za3 (bl s))].toArray/\Gs S c0 [Zbv (bl s)] (900))):=by
 refine ZB (n:=102) Tryz.func33 rfl rfl ?_;intro ac0 L0;replace L0:ZL ac0 102 [(0,(.string s))]:=L0;have R0:Run S w S [] w:=.start hS;have hbs:=YD s;refine wp_seq (Za (so L0 rfl (ZJ (cs:=[(.bool false),(.slice none 0 0),(.slice none 0 0)]) zero_46 R0 rfl ?_)));intro b1 _ R1 _ L1;refine sa L1 rfl λ_ L2=>sn ?_;refine Xf (λac ww=>∃(S':Sh) (mi:Bool),S.le S'/\ZL ac 102 [(0,(.string s)),(2,(.pointer (some ⟨b1,0,none⟩))),(3,(.int .i64 (0:Int))),(4,(.bool (decide (mi=true))))]/\Run S w S' [(b1,46,[(.bool false),(.slice none 0 0),(.slice none 0 0)])] ww/\(mi=Zcp (bl s))) ?_ ?_;rintro ac1 _ ⟨S1,mi,l1,L3,R2,hmi⟩;refine wp_seq (Za (sm L3 rfl ?_));intro _ L4;refine sa L4 rfl λ_ L5=>sn ?_;refine Xf (λac ww=>∃(S':Sh) (mi:Bool) (tt:ByteArray),S1.le S'/\ZL ac 102 [(0,(.string s)),(2,(.pointer (some ⟨b1,0,none⟩))),(3,(.int .i64 (0:Int))),(5,(.string tt)),(4,(.bool (decide (mi=true))))]/\Run S w S' [(b1,46,[(.bool false),(.slice none 0 0),(.slice none 0 0)])] ww/\(mi=Zcp (bl s))/\(Qo (bl s)=QM (bl tt)/\Qr (bl s)=Qr (bl tt)/\Zdr (bl s)=Zdr (bl tt))/\(tt.size<=s.size)) ?_ ?_;rintro ac2 _ ⟨S2,mi,tt,l2,L6,R3,hmi,htt,htz⟩;have hbt:=YD tt;refine wp_seq (Za (sm L6 rfl ?_));intro _ L7;refine so L7 rfl (Yj L7 rfl Tryz.underlying9 λ_ L8=>sa L8 rfl λ_ L9=>sn (wp_seq (wp_seq (Za (sm L9 rfl λ_ L10=>so L10 rfl (Yj L10 rfl Tryz.underlying9 λ_ L11=>so L11 rfl (ZN L11 rfl rfl Xr λ_ L12=>?_)))))));refine sa L12 rfl λ_ L13=>?_;have L14:=(L13.kp [0,2,3,5,4,6,7] rfl);clear L13;refine sn (wp_block ?_);refine ZO (λm ac ww=>∃(S':Sh) (st:Nat) (n:Nat),S2.le S'/\ZL ac 102 [(0,(.string s)),(2,(.pointer (some ⟨b1,0,none⟩))),(3,(.int .i64 (0:Int))),(5,(.string tt)),(4,(.bool (decide (mi=true)))),(6,(.int .i64 ((st:Nat):Int))),(7,(.int .i64 (((n:Nat):Int) - (1:Int))))]/\Run S w S' [(b1,46,[(.bool false),(.slice none 0 0),(.slice none 0 0)])] ww/\(st=strk (bl tt) n)/\(n<=tt.size)/\(st<=tt.size)/\m=n) (tt.size) ⟨S2,tt.size,tt.size,Sh.le.refl _,(L14.kp [7,6,4,5,3,2,0] rfl),R3,(by rw[<-hbt];exact(strk_end _).symm),(by omega),(by omega),rfl⟩ ?_;rintro m_1 ac3 _ ⟨S3,st,n,l3,L15,R4,hst,hn,hsn,m1⟩;refine wp_seq (wp_seq (Za (sm L15 rfl ?_)));intro _ L16;by_cases t1:(0:Int)<=((n:Int) - (1:Int));refine so L16 rfl (bT t1 (λ_=>YA L16 rfl rfl) λ_ L17=>sn (Zm L17 rfl rfl (wp_skip ((Zb (wp_seq (wp_block (wp_seq (Za (sm L17 rfl λ_ L18=>sm L18 rfl λ_ L19=>?_))))))))));refine so L19 rfl (YH (j:=(n - 1)) L19 rfl rfl Tryz.underlying9 (by omega) (by omega) λ_ L20=>?_);by_cases t2:(((bl tt).getD ((n - 1)) 0:Nat):Int)=(47:Int);refine so L20 rfl (bT t2 (λ_=>ZQ L20 rfl rfl) λ_ L21=>sn (Zm L21 rfl rfl (Za (sm L21 rfl λ_ L22=>sa L22 rfl λ_ L23=>Ye ((Zy (Zb (Za (sm L23 rfl λ_ L24=>?_)))))))));exact so L24 rfl (ZN L24 rfl rfl Xr λ_ L25=>sa L25 rfl λ_ L26=>sn (⟨(n - 1),(by omega),S3,(n - 1),(n - 1),l3,(((L26.ri 6 (((n - 1):Nat):Int) rfl).a ((L26.ri 7 ((((n - 1):Nat):Int) - (1:Int)) rfl).a L26)).kp [7,6,4,5,3,2,0] rfl),R4,(by first|exact(strk_hit (by omega) (by omega) (by omega)).symm|(rw[strk_miss (by omega) (by omega) (by omega)];exact hst)),(by omega),(by omega),rfl⟩));refine so L20 rfl (bF t2 (λ_=>ZQ L20 rfl rfl) λ_ L29=>sn (Zi L29 rfl rfl (wp_skip ((Zy (Zb (Za (sm L29 rfl λ_ L30=>so L30 rfl (ZN L30 rfl rfl Xr λ_ L31=>sa L31 rfl λ_ L32=>sn ?_)))))))));exact⟨(n - 1),(by omega),S3,st,(n - 1),l3,(((L32.ri 7 ((((n - 1):Nat):Int) - (1:Int)) rfl).a L32).kp [7,6,4,5,3,2,0] rfl),R4,(by first|exact(strk_hit (by omega) (by omega) (by omega)).symm|(rw[strk_miss (by omega) (by omega) (by omega)];exact hst)),(by omega),(by omega),rfl⟩;refine so L16 rfl (bF t1 (λ_=>YA L16 rfl rfl) λ_ L34=>sn (Zi L34 rfl rfl (wp_exit ((Zq (Zq (Yx (Zb (wp_seq ?_)))))))));obtain rfl:n=0:=by omega
 refine Za (sa L34 rfl ?_);intro _ L35;refine sn ?_;refine Xf (λac ww=>∃(S':Sh) (dn:ByteArray),S3.le S'/\ZL ac 102 [(0,(.string s)),(2,(.pointer (some ⟨b1,0,none⟩))),(3,(.int .i64 (0:Int))),(5,(.string tt)),(4,(.bool (decide (mi=true)))),(6,(.int .i64 ((st:Nat):Int))),(8,(.string dn))]/\Run S w S' [(b1,46,[(.bool false),(.slice none 0 0),(.slice none 0 0)])] ww/\(bl dn=Qr (bl s))) ?_ ?_;rintro ac4 _ ⟨S4,dn,l4,L36,R5,hdn⟩;refine Xf (λac ww=>∃(S':Sh) (sz:ByteArray),S4.le S'/\ZL ac 102 [(0,(.string s)),(2,(.pointer (some ⟨b1,0,none⟩))),(3,(.int .i64 (0:Int))),(5,(.string tt)),(4,(.bool (decide (mi=true)))),(6,(.int .i64 ((st:Nat):Int))),(8,(.string dn)),(9,(.string sz))]/\Run S w S' [(b1,46,[(.bool false),(.slice none 0 0),(.slice none 0 0)])] ww/\(bl sz=Qo (bl s))) ?_ ?_;rintro ac5 _ ⟨_,sz,l5,L37,R6,hsz⟩;have hsb:=YD sz;have hdb:=YD dn;have hszl:sz.size<=s.size:=by rw[<-YD,<-YD s,hsz];exact fsize_len _
 have hdnl:dn.size<=s.size+1:=by rw[<-YD,<-YD s,hdn];exact fden_len _
 refine wp_seq (Za (sm L37 rfl ?_));intro _ L38;refine so L38 rfl (Zh L38 rfl ent_100 (Zfe R6.holds (s:=sz) (by omega)) λv_1 _ _ x1 v1=>?_);have R7:=R6.call x1;obtain rfl:=v1;intro _ L39;refine sa L39 rfl λ_ L40=>sn (wp_seq (Za (sm L40 rfl λ_ L41=>so L41 rfl (Zh L41 rfl ent_100 (Zfe R7.holds (s:=dn) (by omega)) λv_2 S7 _ x2 v2=>?_))));have R8:=R7.call x2;obtain rfl:=v2;intro _ L42;refine sa L42 rfl λ_ L43=>sn ?_;refine Xf (λac ww=>∃(S':Sh) (mi:Bool),S7.le S'/\ZL ac 102 [(0,(.string s)),(2,(.pointer (some ⟨b1,0,none⟩))),(3,(.int .i64 (0:Int))),(5,(.string tt)),(6,(.int .i64 ((st:Nat):Int))),(8,(.string dn)),(9,(.string sz)),(4,(.bool (decide (mi=true))))]/\Run S w S' [(b1,46,[(.bool false),(.slice none 0 0),(.slice none 0 0)])] ww/\(mi=Zcp (bl s))/\(¬Zds (bl s))/\(wd (bl sz))/\(wd (bl dn))) ?_ ?_;rintro ac6 _ ⟨S8,mi,l8,L44,R9,hmi,hnb,hw1,hw2⟩;refine wp_seq (wp_seq (Za (sm L44 rfl ?_)));intro _ L45;refine so L45 rfl (Yj L45 rfl Tryz.underlying9 λ_ L46=>?_);by_cases t3:(256:Int)<((sz.size:Nat):Int);refine so L46 rfl (bT t3 (λ_=>ZD L46 rfl rfl) λ_ L47=>sm L47 rfl λ_ L48=>sof L48 rfl λ_ L49=>sof L49 rfl λ_ L50=>sof L50 rfl λ_ L51=>so L51 rfl (Ze L51 rfl rfl λ_ L52=>?_));have L53:=(L52.kp [0,2,3,5,6,8,9,4,75] rfl);clear L52;refine sn (Zm L53 rfl rfl (wp_seq (Za (so L53 rfl (Zh L53 rfl Zec (Qc R9.holds (n:=(0:Int)) (by omega)) ?_)))));intro v_3 _ _ x3 v3;have R10:=R9.call x3;obtain⟨cs_1,rfl,h1⟩:=v3;intro _ L54;refine Zv L54 rfl rfl (Zl L54 rfl rfl R10 Xe h1.len rfl h1.ones λ_ R11 _ L55=>sa L55 rfl λ_ L56=>sn (wp_ret ((Zt (Zn (rs:=Tryz.f33.results.toList) L56 rfl (Res.aggW rfl Zco Xe (R11.has (List.Mem.head _)) h1.len (.tmp rfl Res.nil)) ?_)))));obtain⟨her,hvl⟩:=Zan hnb (by unfold Ql;rw[<-hsz,<-hdn];omega);exact⟨_,_,rfl,R11.ext,⟨_,(by rw[her];rfl),(h1.toR (by rw[hvl]) (by exact YQ _))⟩⟩;refine so L46 rfl (bF t3 (λ_=>ZD L46 rfl rfl) λ_ L57=>sm L57 rfl λ_ L58=>son L58 rfl (Zf L58 rfl λ_ L59=>son L59 rfl (Yj L59 rfl Tryz.underlying9 λ_ L60=>?_)));by_cases t4:(256:Int)<((dn.size:Nat):Int);refine son L60 rfl (bT t4 (λ_=>ZD L60 rfl rfl) λ_ L61=>so L61 rfl (Ze L61 rfl rfl λ_ L62=>?_));have L63:=(L62.kp [0,2,3,5,6,8,9,4,75] rfl);clear L62;refine sn (Zm L63 rfl rfl (wp_seq (Za (so L63 rfl (Zh L63 rfl Zec (Qc R9.holds (n:=(0:Int)) (by omega)) ?_)))));intro v_4 _ _ x4 v4;have R12:=R9.call x4;obtain⟨cs_2,rfl,h2⟩:=v4;intro _ L64;refine Zv L64 rfl rfl (Zl L64 rfl rfl R12 Xe h2.len rfl h2.ones λ_ R13 _ L65=>sa L65 rfl λ_ L66=>sn (wp_ret ((Zt (Zn (rs:=Tryz.f33.results.toList) L66 rfl (Res.aggW rfl Zco Xe (R13.has (List.Mem.head _)) h2.len (.tmp rfl Res.nil)) ?_)))));obtain⟨her,hvl⟩:=Zan hnb (by unfold Ql;rw[<-hsz,<-hdn];omega);exact⟨_,_,rfl,R13.ext,⟨_,(by rw[her];rfl),(h2.toR (by rw[hvl]) (by exact YQ _))⟩⟩;refine son L60 rfl (bF t4 (λ_=>ZD L60 rfl rfl) λ_ L67=>so L67 rfl (Ze L67 rfl rfl λ_ L68=>?_));have L69:=(L68.kp [0,2,3,5,6,8,9,4,75] rfl);clear L68;refine sn (Zi L69 rfl rfl (wp_skip ((Zb ?_))));refine Xf (λac ww=>∃(S':Sh),S8.le S'/\ZL ac 102 [(0,(.string s)),(2,(.pointer (some ⟨b1,0,none⟩))),(3,(.int .i64 (0:Int))),(8,(.string dn)),(9,(.string sz)),(4,(.bool (decide (mi=true))))]/\Run S w S' [(b1,46,[(.bool false),(.slice none 0 0),(.slice none 0 0)])] ww/\(Zdr (bl s)=true->Xi (Qr (bl s))≠0/\Xi (Qr (bl s))≠1)) ?_ ?_;rintro ac7 _ ⟨_,l11,L70,R14,hone⟩;have hdp:0<Xi (bl dn):=by rw[hdn];exact ref_dp hone
 have hnl:¬Ql (bl s):=by unfold Ql;rw[<-hsz,<-hdn];omega
 have hq:mkRat (sI (decide (mi=true)) (Xi (bl sz))) (Xi (bl dn))=mkRat (fraw (bl s)) (Xi (Qr (bl s))):=by rw[hsz,hdn,hmi,Bool.decide_eq_true,<-fraw_sI]
 refine wp_seq (Za (sm L70 rfl ?_));intro _ L71;refine sm L71 rfl λ_ L72=>so L72 rfl (Zh L72 rfl ent_103 (cref01_Parse R14.holds (s:=sz) (by omega) (by omega)) λv_5 _ _ x5 v5=>?_);have R15:=R14.call x5;obtain⟨c1,e4,h3⟩:=v5;obtain rfl:=e4.symm;intro _ L73;refine sm L73 rfl λ_ L74=>so L74 rfl (Zh L74 rfl ent_103 (cref01_Parse R15.holds (s:=dn) (by omega) (by omega)) λv_6 _ _ x6 v6=>?_);have R16:=R15.call x6;have l13:=x6.le;obtain⟨c2,e5,h4⟩:=v6;obtain rfl:=e5.symm;intro _ L75;refine so L75 rfl (Zh L75 rfl ent_102 (cref03_low R16.holds (mi:=(decide (mi=true))) (h3.up l13) h4 (by omega) (by omega) (by omega)) λv_7 _ _ x7 v7=>?_);have R17:=R16.call x7;obtain⟨c3,rfl,h5⟩:=v7;intro _ L76;refine so L76 rfl (ZJ (cs:=[(.bool false),(.slice none 0 0),(.slice none 0 0)]) zero_46 R17 rfl λb2 _ R18 _ L77=>Zv L77 rfl rfl (Zl L77 rfl rfl R18 Xe h5.len rfl h5.ones λ_ R19 _ L78=>?_));have L79:=(L78.kp [0,2,3,12] rfl);clear L78;refine sn (wp_seq (wp_seq (Za (so L79 rfl (ZA L79 rfl Zco Xe (R19.has (List.Mem.head _)) h5.len ?_)))));intro _ L80;refine so L80 rfl (Zh L80 rfl ent_56 (cref03_Text R19.holds h5 (by omega)) λv_8 _ _ x8 v8=>?_);have R20:=R19.call x8;have l15:=x8.le;obtain rfl:=v8;intro _ L81;refine sm L81 rfl λ_ L82=>?_;by_cases t5:¬(YV (rtxt (mkRat (sI (decide (mi=true)) (Xi (bl sz))) (Xi (bl dn)))))=s;refine so L82 rfl (bT t5 (λ_=>QV L82 rfl rfl) λ_ L83=>sn (Zm L83 rfl rfl (wp_seq (Za (so L83 rfl (Zh L83 rfl Zec (Qc R20.holds (n:=(0:Int)) (by omega)) λv_9 _ _ x9 v9=>?_))))));have R21:=R20.call x9;obtain⟨c4,rfl,h6⟩:=v9;intro _ L84;refine Zv L84 rfl rfl (Zl L84 rfl rfl (Yg R21) Xe h6.len rfl h6.ones λ_ R22 _ L85=>sa L85 rfl λ_ L86=>sn (wp_ret ((Zt (Zn (rs:=Tryz.f33.results.toList) (L86.kp [2,3,12] rfl) rfl (Res.aggW rfl Zco Xe (R22.has (List.Mem.head _)) h6.len (.tmp rfl Res.nil)) ?_)))));obtain⟨her,hvl⟩:=ref_other hnb hnl hone (by rw[<-hq];assumption);exact⟨_,_,rfl,R22.ext,⟨_,(by rw[her];rfl),(h6.toR (by rw[hvl]) (by exact YQ _))⟩⟩;refine so L82 rfl (bF t5 (λ_=>QV L82 rfl rfl) λ_ L88=>sn (Zi L88 rfl rfl (wp_skip ((Zb (wp_seq (Za (so L88 rfl (ZA L88 rfl Zco Xe (R20.has (List.Mem.head _)) h5.len λ_ L89=>Zv L89 rfl rfl (Zl L89 rfl rfl (Yg R20) Xe h5.len rfl h5.ones λ_ R23 _ L90=>sa L90 rfl λ_ L91=>?_))))))))));refine sn (wp_ret ((Zn (rs:=Tryz.f33.results.toList) (L91.kp [2,3] rfl) rfl (Res.aggW rfl Zco Xe (R23.has (List.Mem.head _)) h5.len (.tmp rfl Res.nil)) ?_)));obtain⟨her,hvl⟩:=ref_same hnb hnl hone (by rw[<-hq];exact Classical.not_not.1 (by assumption));exact⟨_,_,rfl,R23.ext,⟨_,(by rw[her];rfl),((h5.up l15).toR (by rw[hvl];exact hq) (by exact YQ _))⟩⟩;skip;refine wp_seq (Za (sm L69 rfl ?_));intro _ L93;refine sm L93 rfl λ_ L94=>so L94 rfl (Yj L94 rfl Tryz.underlying9 λ_ L95=>?_);by_cases t6:(st:Int)<((tt.size:Nat):Int);refine so L95 rfl (bT t6 (λ_=>Zu L95 rfl rfl) λ_ L96=>sm L96 rfl λ_ L97=>son L97 rfl (Zf L97 rfl λ_ L98=>?_));by_cases t7:dn=(⟨#[48]⟩:ByteArray);refine son L98 rfl (bT t7 (λ_=>YO L98 rfl rfl) λ_ L99=>son L99 rfl (Zf L99 rfl λ_ L100=>sof L100 rfl λ_ L101=>sof L101 rfl λ_ L102=>son L102 rfl (Ze L102 rfl rfl λ_ L103=>so L103 rfl (Ze L103 rfl rfl λ_ L104=>?_))));have L105:=(L104.kp [0,2,3,8,9,4,88] rfl);clear L104;refine sn (Zm L105 rfl rfl (wp_seq (Za (so L105 rfl (Zh L105 rfl Zec (Qc R9.holds (n:=(0:Int)) (by omega)) ?_)))));intro v_10 _ _ x10 v10;have R24:=R9.call x10;obtain⟨c5,rfl,h7⟩:=v10;intro _ L106;refine Zv L106 rfl rfl (Zl L106 rfl rfl R24 Xe h7.len rfl h7.ones λ_ R25 _ L107=>sa L107 rfl λ_ L108=>sn (wp_ret ((Zt (Zn (rs:=Tryz.f33.results.toList) L108 rfl (Res.aggW rfl Zco Xe (R25.has (List.Mem.head _)) h7.len (.tmp rfl Res.nil)) ?_)))));obtain⟨her,hvl⟩:=Zc6 hnb (by unfold Ql;rw[<-hsz,<-hdn];omega) ⟨htt.2.2.trans (Zby.1 (by rw[<-hst,hbt];assumption)),Or.inl (by rw[<-hdn];exact pval_01 (by first|exact Or.inl (str48.1 (by assumption))|exact Or.inr (str49.1 (by assumption))))⟩;exact⟨_,_,rfl,R25.ext,⟨_,(by rw[her];rfl),(h7.toR (by rw[hvl]) (by exact YQ _))⟩⟩;refine son L98 rfl (bF t7 (λ_=>YO L98 rfl rfl) λ_ L109=>son L109 rfl (Zf L109 rfl λ_ L110=>son L110 rfl (Zf L110 rfl λ_ L111=>?_)));by_cases t8:dn=(⟨#[49]⟩:ByteArray);refine son L111 rfl (bT t8 (λ_=>YO L111 rfl rfl) λ_ L112=>son L112 rfl (Ze L112 rfl rfl λ_ L113=>so L113 rfl (Ze L113 rfl rfl λ_ L114=>?_)));have L115:=(L114.kp [0,2,3,8,9,4,88] rfl);clear L114;refine sn (Zm L115 rfl rfl (wp_seq (Za (so L115 rfl (Zh L115 rfl Zec (Qc R9.holds (n:=(0:Int)) (by omega)) ?_)))));intro v_11 _ _ x11 v11;have R26:=R9.call x11;obtain⟨c6,rfl,h8⟩:=v11;intro _ L116;refine Zv L116 rfl rfl (Zl L116 rfl rfl R26 Xe h8.len rfl h8.ones λ_ R27 _ L117=>sa L117 rfl λ_ L118=>sn (wp_ret ((Zt (Zn (rs:=Tryz.f33.results.toList) L118 rfl (Res.aggW rfl Zco Xe (R27.has (List.Mem.head _)) h8.len (.tmp rfl Res.nil)) ?_)))));obtain⟨her,hvl⟩:=Zc6 hnb (by unfold Ql;rw[<-hsz,<-hdn];omega) ⟨htt.2.2.trans (Zby.1 (by rw[<-hst,hbt];assumption)),Or.inl (by rw[<-hdn];exact pval_01 (by first|exact Or.inl (str48.1 (by assumption))|exact Or.inr (str49.1 (by assumption))))⟩;exact⟨_,_,rfl,R27.ext,⟨_,(by rw[her];rfl),(h8.toR (by rw[hvl]) (by exact YQ _))⟩⟩;refine son L111 rfl (bF t8 (λ_=>YO L111 rfl rfl) λ_ L119=>son L119 rfl (Ze L119 rfl rfl λ_ L120=>so L120 rfl (Ze L120 rfl rfl λ_ L121=>?_)));have L122:=(L121.kp [0,2,3,8,9,4,88] rfl);clear L121;exact sn (Zi L122 rfl rfl (wp_skip ((Zb (⟨S8,Sh.le.refl _,(L122.kp [4,9,8,3,2,0] rfl),R9,(by first|exact λq=>absurd (Zby.2 (htt.2.2.symm.trans q)) (by rw[<-hst,hbt];assumption)|exact λ_=>(by rw[<-hdn];exact wd_small hw2 (λq=>absurd (str48.2 q) (by assumption)) (λq=>absurd (str49.2 q) (by assumption))))⟩)))));refine so L95 rfl (bF t6 (λ_=>Zu L95 rfl rfl) λ_ L123=>sm L123 rfl λ_ L124=>sof L124 rfl λ_ L125=>sof L125 rfl λ_ L126=>sof L126 rfl λ_ L127=>ZX L127 rfl rfl rfl rfl rfl λ_ L128=>ZX L128 rfl rfl rfl rfl rfl λ_ L129=>?_);refine sof L129 rfl λ_ L130=>so L130 rfl (Ze L130 rfl rfl λ_ L131=>?_);have L132:=(L131.kp [0,2,3,8,9,4,88] rfl);clear L131;exact sn (Zi L132 rfl rfl (wp_skip ((Zb (⟨S8,Sh.le.refl _,(L132.kp [4,9,8,3,2,0] rfl),R9,(by first|exact λq=>absurd (Zby.2 (htt.2.2.symm.trans q)) (by rw[<-hst,hbt];assumption)|exact λ_=>(by rw[<-hdn];exact wd_small hw2 (λq=>absurd (str48.2 q) (by assumption)) (λq=>absurd (str49.2 q) (by assumption))))⟩)))));skip;refine wp_seq ?_;by_cases t9:wd (bl sz);have L133:=L43;rw[decide_eq_true t9] at L133;by_cases t10:wd (bl dn);have L134:=L133;rw[decide_eq_true t10] at L134;by_cases t11:mi=true;have L135:=L134;rw[decide_eq_true t11] at L135;refine Za (sm L135 rfl ?_);intro _ L136;refine so L136 rfl (Xc L136 rfl rfl λ_ L137=>sm L137 rfl λ_ L138=>son L138 rfl (Zf L138 rfl λ_ L139=>son L139 rfl (Xc L139 rfl rfl λ_ L140=>so L140 rfl (Ze L140 rfl rfl λ_ L141=>sm L141 rfl λ_ L142=>son L142 rfl (Zf L142 rfl λ_ L143=>?_)))));refine son L143 rfl (Zf L143 rfl λ_ L144=>son L144 rfl (Zf L144 rfl λ_ L145=>?_));by_cases t12:sz=(⟨#[48]⟩:ByteArray);refine son L145 rfl (bT t12 (λ_=>YO L145 rfl rfl) λ_ L146=>son L146 rfl (Ze L146 rfl rfl λ_ L147=>so L147 rfl (Ze L147 rfl rfl λ_ L148=>?_)));have L149:=(L148.kp [0,2,3,5,4,6,8,9,66] rfl);clear L148;refine sn (Zm L149 rfl rfl (wp_seq (Za (so L149 rfl (Zh L149 rfl Zec (Qc R8.holds (n:=(0:Int)) (by omega)) ?_)))));intro v_12 _ _ x12 v12;have R28:=R8.call x12;obtain⟨c7,rfl,h9⟩:=v12;intro _ L150;refine Zv L150 rfl rfl (Zl L150 rfl rfl R28 Xe h9.len rfl h9.ones λ_ R29 _ L151=>sa L151 rfl λ_ L152=>sn (wp_ret ((Zt (Zn (rs:=Tryz.f33.results.toList) L152 rfl (Res.aggW rfl Zco Xe (R29.has (List.Mem.head _)) h9.len (.tmp rfl Res.nil)) ?_)))));obtain⟨her,hvl⟩:=Zb3 (l:=bl s) (by unfold Zds;rw[<-hsz,<-hdn];first|exact Or.inl (by assumption)|exact Or.inr (Or.inl (by assumption))|exact Or.inr (Or.inr ⟨hmi.symm.trans (by assumption),str48.1 (by assumption)⟩));exact⟨_,_,rfl,R29.ext,⟨_,(by rw[her];rfl),(h9.toR (by rw[hvl]) (by exact YQ _))⟩⟩;refine son L145 rfl (bF t12 (λ_=>YO L145 rfl rfl) λ_ L153=>son L153 rfl (Ze L153 rfl rfl λ_ L154=>so L154 rfl (Ze L154 rfl rfl λ_ L155=>?_)));have L156:=(L155.kp [0,2,3,5,4,6,8,9,66] rfl);clear L155;exact sn (Zi L156 rfl rfl (wp_skip ((Zb (⟨S7,true,Sh.le.refl _,(L156.kp [4,9,8,6,5,3,2,0] rfl),R8,(by first|exact(by assumption:mi=true).symm.trans hmi|exact(eq_false_of_ne_true (by assumption:¬mi=true)).symm.trans hmi),(by exact not_bad (by rw[<-hsz];assumption) (by rw[<-hdn];assumption) (by rw[<-hmi,<-hsz];intro q;first|exact absurd (str48.2 q.2) (by assumption)|exact absurd q.1 (by assumption))),(by assumption),(by assumption)⟩)))));have L157:=L134;rw[decide_eq_false t11] at L157;refine Za (sm L157 rfl ?_);intro _ L158;refine so L158 rfl (Xc L158 rfl rfl λ_ L159=>sm L159 rfl λ_ L160=>son L160 rfl (Zf L160 rfl λ_ L161=>son L161 rfl (Xc L161 rfl rfl λ_ L162=>so L162 rfl (Ze L162 rfl rfl λ_ L163=>sm L163 rfl λ_ L164=>son L164 rfl (Zf L164 rfl λ_ L165=>?_)))));refine son L165 rfl (Zf L165 rfl λ_ L166=>sof L166 rfl λ_ L167=>sof L167 rfl λ_ L168=>son L168 rfl (Ze L168 rfl rfl λ_ L169=>so L169 rfl (Ze L169 rfl rfl λ_ L170=>?_)));have L171:=(L170.kp [0,2,3,5,4,6,8,9,66] rfl);clear L170;exact sn (Zi L171 rfl rfl (wp_skip ((Zb (⟨S7,false,Sh.le.refl _,(L171.kp [4,9,8,6,5,3,2,0] rfl),R8,(by first|exact(by assumption:mi=true).symm.trans hmi|exact(eq_false_of_ne_true (by assumption:¬mi=true)).symm.trans hmi),(by exact not_bad (by rw[<-hsz];assumption) (by rw[<-hdn];assumption) (by rw[<-hmi,<-hsz];intro q;first|exact absurd (str48.2 q.2) (by assumption)|exact absurd q.1 (by assumption))),(by assumption),(by assumption)⟩)))));have L172:=L133;rw[decide_eq_false t10] at L172;refine Za (sm L172 rfl ?_);intro _ L173;refine so L173 rfl (Xc L173 rfl rfl λ_ L174=>sm L174 rfl λ_ L175=>son L175 rfl (Zf L175 rfl λ_ L176=>son L176 rfl (Xc L176 rfl rfl λ_ L177=>so L177 rfl (Ze L177 rfl rfl λ_ L178=>sm L178 rfl λ_ L179=>sof L179 rfl λ_ L180=>?_))));refine sof L180 rfl λ_ L181=>ZX L181 rfl rfl rfl rfl rfl λ_ L182=>ZX L182 rfl rfl rfl rfl rfl λ_ L183=>sof L183 rfl λ_ L184=>so L184 rfl (Ze L184 rfl rfl λ_ L185=>?_);have L186:=(L185.kp [0,2,3,5,4,6,8,9,66] rfl);clear L185;refine sn (Zm L186 rfl rfl (wp_seq (Za (so L186 rfl (Zh L186 rfl Zec (Qc R8.holds (n:=(0:Int)) (by omega)) ?_)))));intro v_13 _ _ x13 v13;have R30:=R8.call x13;obtain⟨c8,rfl,h10⟩:=v13;intro _ L187;refine Zv L187 rfl rfl (Zl L187 rfl rfl R30 Xe h10.len rfl h10.ones λ_ R31 _ L188=>sa L188 rfl λ_ L189=>sn (wp_ret ((Zt (Zn (rs:=Tryz.f33.results.toList) L189 rfl (Res.aggW rfl Zco Xe (R31.has (List.Mem.head _)) h10.len (.tmp rfl Res.nil)) ?_)))));obtain⟨her,hvl⟩:=Zb3 (l:=bl s) (by unfold Zds;rw[<-hsz,<-hdn];first|exact Or.inl (by assumption)|exact Or.inr (Or.inl (by assumption))|exact Or.inr (Or.inr ⟨hmi.symm.trans (by assumption),str48.1 (by assumption)⟩));exact⟨_,_,rfl,R31.ext,⟨_,(by rw[her];rfl),(h10.toR (by rw[hvl]) (by exact YQ _))⟩⟩;have L190:=L43;rw[decide_eq_false t9] at L190;refine Za (sm L190 rfl ?_);intro _ L191;refine so L191 rfl (Xc L191 rfl rfl λ_ L192=>sm L192 rfl λ_ L193=>sof L193 rfl λ_ L194=>sof L194 rfl λ_ L195=>so L195 rfl (Ze L195 rfl rfl λ_ L196=>sm L196 rfl λ_ L197=>sof L197 rfl λ_ L198=>?_));refine sof L198 rfl λ_ L199=>ZX L199 rfl rfl rfl rfl rfl λ_ L200=>ZX L200 rfl rfl rfl rfl rfl λ_ L201=>sof L201 rfl λ_ L202=>so L202 rfl (Ze L202 rfl rfl λ_ L203=>?_);have L204:=(L203.kp [0,2,3,5,4,6,8,9,66] rfl);clear L203;refine sn (Zm L204 rfl rfl (wp_seq (Za (so L204 rfl (Zh L204 rfl Zec (Qc R8.holds (n:=(0:Int)) (by omega)) ?_)))));intro v_14 _ _ x14 v14;have R32:=R8.call x14;obtain⟨c9,rfl,h11⟩:=v14;intro _ L205;refine Zv L205 rfl rfl (Zl L205 rfl rfl R32 Xe h11.len rfl h11.ones λ_ R33 _ L206=>sa L206 rfl λ_ L207=>sn (wp_ret ((Zt (Zn (rs:=Tryz.f33.results.toList) L207 rfl (Res.aggW rfl Zco Xe (R33.has (List.Mem.head _)) h11.len (.tmp rfl Res.nil)) ?_)))));obtain⟨her,hvl⟩:=Zb3 (l:=bl s) (by unfold Zds;rw[<-hsz,<-hdn];first|exact Or.inl (by assumption)|exact Or.inr (Or.inl (by assumption))|exact Or.inr (Or.inr ⟨hmi.symm.trans (by assumption),str48.1 (by assumption)⟩));exact⟨_,_,rfl,R33.ext,⟨_,(by rw[her];rfl),(h11.toR (by rw[hvl]) (by exact YQ _))⟩⟩;skip;refine Za (sm L36 rfl ?_);intro _ L208;exact sm L208 rfl λ_ L209=>so L209 rfl (XN (i:=0) (j:=st) (z:=(tt.extract (0) (st))) L209 rfl Tryz.underlying9 rfl ⟨_,rfl⟩ (by omega) (by omega) rfl λ_ L210=>sa L210 rfl λ_ L211=>sn (⟨S4,(tt.extract (0) (st)),Sh.le.refl _,(L211.kp [9,8,6,4,5,3,2,0] rfl),R5,(by rw[htt.1];exact strk_num hst)⟩));skip;refine wp_seq (Za (sm L35 rfl ?_));intro _ L212;refine sm L212 rfl λ_ L213=>so L213 rfl (Yj L213 rfl Tryz.underlying9 λ_ L214=>?_);by_cases t13:(st:Int)<((tt.size:Nat):Int);refine so L214 rfl (bT t13 (λ_=>Zu L214 rfl rfl) λ_ L215=>?_);have L216:=(L215.kp [0,2,3,5,4,6,8,42] rfl);clear L215;refine sn (Zm L216 rfl rfl (Za (sm L216 rfl ?_)));intro _ L217;exact sm L217 rfl λ_ L218=>so L218 rfl (Zz L218 rfl rfl Xr λ_ L219=>so L219 rfl (XN (i:=(st+1)) (j:=tt.size) (z:=(tt.extract ((st+1)) (tt.size))) L219 rfl Tryz.underlying9 ⟨_,rfl⟩ rfl (by omega) (by omega) rfl λ_ L220=>sa L220 rfl λ_ L221=>sn (⟨S3,(tt.extract ((st+1)) (tt.size)),Sh.le.refl _,((L221.kp [0,2,3,5,4,6,8] rfl).kp [8,6,4,5,3,2,0] rfl),R4,(by first|(rw[htt.2.1];exact strk_den (by rw[hst]) (Zby.1 (by rw[<-hst,hbt];assumption)))|(rw[fden_not (λq=>absurd (Zby.2 (htt.2.2.symm.trans q)) (by rw[<-hst,hbt];assumption))];rfl))⟩)));refine so L214 rfl (bF t13 (λ_=>Zu L214 rfl rfl) λ_ L223=>?_);have L224:=(L223.kp [0,2,3,5,4,6,8,42] rfl);clear L223;exact sn (Zi L224 rfl rfl (wp_skip ((Zb (⟨S3,(⟨#[49]⟩:ByteArray),Sh.le.refl _,(L224.kp [8,6,4,5,3,2,0] rfl),R4,(by first|(rw[htt.2.1];exact strk_den (by rw[hst]) (Zby.1 (by rw[<-hst,hbt];assumption)))|(rw[fden_not (λq=>absurd (Zby.2 (htt.2.2.symm.trans q)) (by rw[<-hst,hbt];assumption))];rfl))⟩)))));skip;refine wp_seq ?_;by_cases t14:mi=true;have L225:=L5;rw[decide_eq_true t14] at L225;refine Za (sm L225 rfl ?_);intro _ L226;refine sn (Zm L226 rfl rfl ?_);have hs1:=min_pos (hmi.symm.trans (by assumption));refine Za (sm L226 rfl ?_);intro _ L227;exact so L227 rfl (XN (i:=1) (j:=s.size) (z:=(s.extract (1) (s.size))) L227 rfl Tryz.underlying9 ⟨_,rfl⟩ rfl (by omega) (by omega) rfl λ_ L228=>sa L228 rfl λ_ L229=>sn (⟨S1,true,(s.extract (1) (s.size)),Sh.le.refl _,(L229.kp [4,5,3,2,0] rfl),R2,(by first|exact(by assumption:mi=true).symm.trans hmi|exact(eq_false_of_ne_true (by assumption:¬mi=true)).symm.trans hmi),(by first|(rw[bl_tail];exact cut_min (hmi.symm.trans (by assumption)))|exact⟨cut_nomin (hmi.symm.trans (eq_false_of_ne_true (by assumption))),rfl,rfl⟩),(by first|exact Nat.le_refl _|(simp only[ByteArray.size_extract];omega))⟩));have L230:=L5;rw[decide_eq_false t14] at L230;refine Za (sm L230 rfl ?_);intro _ L231;exact sn (Zi L231 rfl rfl (wp_skip ((Zb (⟨S1,false,s,Sh.le.refl _,(L231.kp [4,5,3,2,0] rfl),R2,(by first|exact(by assumption:mi=true).symm.trans hmi|exact(eq_false_of_ne_true (by assumption:¬mi=true)).symm.trans hmi),(by first|(rw[bl_tail];exact cut_min (hmi.symm.trans (by assumption)))|exact⟨cut_nomin (hmi.symm.trans (eq_false_of_ne_true (by assumption))),rfl,rfl⟩),(by first|exact Nat.le_refl _|(simp only[ByteArray.size_extract];omega))⟩)))));skip;refine Za (sm L2 rfl ?_);intro _ L232;refine so L232 rfl (Yj L232 rfl Tryz.underlying9 λ_ L233=>?_);by_cases t15:(0:Int)<((s.size:Nat):Int);refine so L233 rfl (bT t15 (λ_=>ZD L233 rfl rfl) λ_ L234=>sm L234 rfl λ_ L235=>son L235 rfl (Zf L235 rfl λ_ L236=>son L236 rfl (YH (j:=0) L236 rfl rfl Tryz.underlying9 (by omega) (by omega) λ_ L237=>?_)));by_cases t16:(((bl s).getD (0) 0:Nat):Int)=(45:Int);exact son L237 rfl (bT t16 (λ_=>ZQ L237 rfl rfl) λ_ L238=>so L238 rfl (Ze L238 rfl rfl λ_ L239=>sa L239 rfl λ_ L240=>sn (⟨S,true,Sh.le.refl _,((L240.kp [0,2,3,4] rfl).kp [4,3,2,0] rfl),R1,(by rw[Zgi];first|exact(decide_eq_true (by omega)).symm|exact(decide_eq_false (by omega)).symm|exact(decide_eq_false (by rw[List.length_eq_zero_iff.1 (show(bl s).length=0 by omega)];decide)).symm)⟩)));exact son L237 rfl (bF t16 (λ_=>ZQ L237 rfl rfl) λ_ L242=>so L242 rfl (Ze L242 rfl rfl λ_ L243=>sa L243 rfl λ_ L244=>sn (⟨S,false,Sh.le.refl _,((L244.kp [0,2,3,4] rfl).kp [4,3,2,0] rfl),R1,(by rw[Zgi];first|exact(decide_eq_true (by omega)).symm|exact(decide_eq_false (by omega)).symm|exact(decide_eq_false (by rw[List.length_eq_zero_iff.1 (show(bl s).length=0 by omega)];decide)).symm)⟩)));refine so L233 rfl (bF t15 (λ_=>ZD L233 rfl rfl) λ_ L246=>sm L246 rfl λ_ L247=>sof L247 rfl λ_ L248=>sof L248 rfl λ_ L249=>sof L249 rfl λ_ L250=>so L250 rfl (Ze L250 rfl rfl λ_ L251=>sa L251 rfl λ_ L252=>?_));exact sn (⟨S,false,Sh.le.refl _,((L252.kp [0,2,3,4] rfl).kp [4,3,2,0] rfl),R1,(by rw[Zgi];first|exact(decide_eq_true (by omega)).symm|exact(decide_eq_false (by omega)).symm|exact(decide_eq_false (by rw[List.length_eq_zero_iff.1 (show(bl s).length=0 by omega)];decide)).symm)⟩)
end Go.Cham
namespace Go.Cham
open Go Go.RowKit Go.Proofs
noncomputable section
set_option maxRecDepth 100000
def vz_r:List Rw:=[⟨[2,0],1,0⟩,⟨[2,1],1,0⟩,⟨[2,2],1,0⟩]
def vz_T (cs:CL):Tb:=⟨vz_r,cs,100000000000⟩
def vz_G (cs:CL) (r:SV Ato):Prop:=Zfh symTab3 (vz_T cs) 30 [.agg (cQs [0,1,2])] r 60
def vz_R (a0 a1 a2:Rat):Nat->AV:=rho (vz_T []) (Xp [a0,a1,a2])
def vz_k0:CL:=([1,0],1)::[]
theorem vz_p1:vz_G vz_k0 (.bool false):=λ_ _ _=>by kernel_rfl
def vz_k1:CL:=([1,0],(-1))::[]
theorem vz_p0:vz_G vz_k1 (.bool false):=λ_ _ _=>by kernel_rfl
def vz_k2:CL:=([1,0],0)::[]
def vz_k3:CL:=([1,1],1)::vz_k2
theorem vz_p3:vz_G vz_k3 (.bool false):=λ_ _ _=>by kernel_rfl
def vz_k4:CL:=([1,1],(-1))::vz_k2
theorem vz_p2:vz_G vz_k4 (.bool false):=λ_ _ _=>by kernel_rfl
def vz_k5:CL:=([1,1],0)::vz_k2
def vz_k6:CL:=([1,2],0)::vz_k5
theorem vz_p6:vz_G vz_k6 (.bool true):=λ_ _ _=>by kernel_rfl
def vz_k7:CL:=([1,2],1)::vz_k5
theorem vz_p5:vz_G vz_k7 (.bool false):=λ_ _ _=>by kernel_rfl
def vz_k8:CL:=([1,2],(-1))::vz_k5
theorem vz_p4:vz_G vz_k8 (.bool false):=λ_ _ _=>by kernel_rfl
theorem vec_Zero_s {S:Sh} {w:World} (hS:ZU S w) {c_a:List Value} {a0 a1 a2:Rat} {k:Nat} (h_a:Fs S c_a [a0,a1,a2] k) (hlim:k<=100000000000):
  Calls Tryz.prog 30 [(.agg (c_a:List Value).toArray)].toArray w (Ret S w (λ_ v=>v= .bool (decide (a0.num=0/\a1.num=0/\a2.num=0)))):=by
 have leaf:=λcs hc {r} (h:vz_G cs r) {u} hg=>sym_ground symTab3_OK (K:=k) (base:=Xp [a0,a1,a2]) (by kernel_rfl) hlim (by kernel_rfl) hS (λ_ _=>.cons (.agg (Za0 (is:=[0,1,2]) (qs:=[a0,a1,a2]) (k:=k) ⟨by kernel_rfl,le1 _,by kernel_rfl,le1 _,by kernel_rfl,le1 _,trivial⟩ h_a)) .nil) cs hc (r:=r) h (u:=u) hg;rcases XX (vz_R a0 a1 a2) (t:=1) (is:=[0]) (by decide) with h0|h0|h0;rotate_left 2
 have H0:Csl (vz_R a0 a1 a2) vz_k0:=.cons h0 .nil;exact Calls.mono (leaf _ H0 vz_p1 rfl) λe w' ⟨v,S',q1,q2,q3⟩=>⟨v,S',q1,q2,q3.trans (by rw[decide_eq_false λz=>(by have g:=((by kernel_rfl:ZI (vz_R a0 a1 a2) [1,0]=Yy (a0).num).symm.trans h0);rw[z.1] at g;cases g)])⟩;have H1:Csl (vz_R a0 a1 a2) vz_k1:=.cons h0 .nil;exact Calls.mono (leaf _ H1 vz_p0 rfl) λe w' ⟨v,S',q1,q2,q3⟩=>⟨v,S',q1,q2,q3.trans (by rw[decide_eq_false λz=>(by have g:=((by kernel_rfl:ZI (vz_R a0 a1 a2) [1,0]=Yy (a0).num).symm.trans h0);rw[z.1] at g;cases g)])⟩;have H2:Csl (vz_R a0 a1 a2) vz_k2:=.cons h0 .nil;rcases XX (vz_R a0 a1 a2) (t:=1) (is:=[1]) (by decide) with h1|h1|h1;rotate_left 2
 have H3:Csl (vz_R a0 a1 a2) vz_k3:=.cons h1 H2;exact Calls.mono (leaf _ H3 vz_p3 rfl) λe w' ⟨v,S',q1,q2,q3⟩=>⟨v,S',q1,q2,q3.trans (by rw[decide_eq_false λz=>(by have g:=((by kernel_rfl:ZI (vz_R a0 a1 a2) [1,1]=Yy (a1).num).symm.trans h1);rw[z.2.1] at g;cases g)])⟩;have H4:Csl (vz_R a0 a1 a2) vz_k4:=.cons h1 H2;exact Calls.mono (leaf _ H4 vz_p2 rfl) λe w' ⟨v,S',q1,q2,q3⟩=>⟨v,S',q1,q2,q3.trans (by rw[decide_eq_false λz=>(by have g:=((by kernel_rfl:ZI (vz_R a0 a1 a2) [1,1]=Yy (a1).num).symm.trans h1);rw[z.2.1] at g;cases g)])⟩;have H5:Csl (vz_R a0 a1 a2) vz_k5:=.cons h1 H2;rcases XX (vz_R a0 a1 a2) (t:=1) (is:=[2]) (by decide) with h2|h2|h2;rotate_left
 have H6:Csl (vz_R a0 a1 a2) vz_k6:=.cons h2 H5;exact Calls.mono (leaf _ H6 vz_p6 rfl) λe w' ⟨v,S',q1,q2,q3⟩=>⟨v,S',q1,q2,q3.trans (by rw[decide_eq_true ⟨Yf.1 ((by kernel_rfl:ZI (vz_R a0 a1 a2) [1,0]=Yy (a0).num).symm.trans h0),Yf.1 ((by kernel_rfl:ZI (vz_R a0 a1 a2) [1,1]=Yy (a1).num).symm.trans h1),Yf.1 ((by kernel_rfl:ZI (vz_R a0 a1 a2) [1,2]=Yy (a2).num).symm.trans h2)⟩])⟩;have H7:Csl (vz_R a0 a1 a2) vz_k7:=.cons h2 H5;exact Calls.mono (leaf _ H7 vz_p5 rfl) λe w' ⟨v,S',q1,q2,q3⟩=>⟨v,S',q1,q2,q3.trans (by rw[decide_eq_false λz=>(by have g:=((by kernel_rfl:ZI (vz_R a0 a1 a2) [1,2]=Yy (a2).num).symm.trans h2);rw[z.2.2] at g;cases g)])⟩;have H8:Csl (vz_R a0 a1 a2) vz_k8:=.cons h2 H5;exact Calls.mono (leaf _ H8 vz_p4 rfl) λe w' ⟨v,S',q1,q2,q3⟩=>⟨v,S',q1,q2,q3.trans (by rw[decide_eq_false λz=>(by have g:=((by kernel_rfl:ZI (vz_R a0 a1 a2) [1,2]=Yy (a2).num).symm.trans h2);rw[z.2.2] at g;cases g)])⟩
end
end Go.Cham
namespace Go.Cham
open Go Go.RowKit Go.Proofs
noncomputable section
def pZero (T:Tb):PrF Ato:=λl=>match l with
  | [.agg n]=>match asQs T 3 n with
    | some is=>match is with
      | [a, b,c]=>match limB T 100000000000 [a,b,c] with
        | true=>match Nat.ble (Nat.add (Nat.mul (mxC T [a,b,c]) T.km) (mxD T [a,b,c])) 100000000000 with
          | true=>match Zdu T [9,a,b,c] with
            |some x=>some (.bool x)
            |none=>none
          |false=>none
        |false=>none
      |_=>none
    |none=>none
  |_=>none
def row46 (T:Tb) (a b c d q:Nat):Option Nat:=match Zc5 T [46,a,b,c,d,q] with
  | some (k,r)=>match Nat.ble (Nat.mul 384 (mxC T [a,b,c,d])) r.c && Nat.ble (Nat.add (Nat.mul 384 (mxD T [a,b,c,d])) 6208) r.d with
    |true=>some k
    |false=>none
  |none=>none
def zeroRow (T:Tb):Option Nat:=match Zc5 T [6] with
  |some (k,_)=>some k
  |none=>none
def pMakeP (T : Tb) : PrF Ato:=λl=>match l with
  | [.agg n, .agg y] => match asQs T 3 n with
    | some is =>match asQs T 1 y with
      | some js =>match is,js with
        | [a, b,c],[d]=>match limB T 250000000 [a,b,c,d] with
          | true => match Nat.ble (Nat.add (Nat.mul (mxC T [a,b,c,d]) T.km) (mxD T [a,b,c,d])) 250000000 with
            | true => match Zdu T [9,a,b,c] with
              | some x=>match x with
                | true=>match zeroRow T with
                  |some z=>some (.tup [.agg (cQs [z,z,z,z]),.int .i64 2])
                  |none=>none
                | false =>match row46 T a b c d a with
                  | some i=>match row46 T a b c d b with
                    | some j=>match row46 T a b c d c with
                      | some k=>match row46 T a b c d d with
                        |some l=>some (.tup [.agg (cQs [i,j,k,l]),.int .i64 0])
                        |none=>none
                      |none=>none
                    |none=>none
                  |none=>none
              |none=>none
            |false=>none
          |false=>none
        |_,_=>none
      |none=>none
    |none=>none
  |_=>none
section
variable {T : Tb} {K : Nat} {base ρ : Nat → AV} {bd : Nat → Nat} {G : Gh} {T0 : Tb} {hT : Cs T0 ρ}
theorem zero_yes (hg:Yz T K base ρ bd) {a b c:Nat} {x:Bool} (h:Zdu T [9,a,b,c]=some x):decide ((ρ a).rat.num=0/\(ρ b).rat.num=0/\(ρ c).rat.num=0)=x:=
  Zd7 (show(if(ρ a).rat.num=0/\(ρ b).rat.num=0/\(ρ c).rat.num=0 then(1:Int) else 0)=if x then 1 else 0 from XU hg.cond h)
set_option maxRecDepth 100000 in
theorem pZero_ok (hg:Yz T K base ρ bd):YZ Tryz.prog (DS hT bd) 30 (pZero T):=by
 intro args r hr G w vs hd hS;unfold pZero at hr;split at hr;rename_i n;split at hr;rename_i is his;split at hr;rename_i a b c;split at hr;rename_i hl;split at hr;rename_i hm;split at hr;rename_i x hx;cases hr
 cases hd with
 | cons x1 x2=>
   cases x2
   cases x1 with
   | agg x1=>
     have h1:=asQs_ok hg his x1 (mx_ok hg hl)
     refine .ret (by kernel_rfl) (vec_Zero_s hS (a0:=(ρ a).rat) (a1:=(ρ b).rat) (a2:=(ρ c).rat) h1 (mx_lim hg.km hm)) λS' v hv=>?_
     rw[hv,zero_yes hg hx]
     exact .bool _
 cases hr;cases hr;cases hr;cases hr;cases hr;cases hr
theorem Zb1 (hg:Yz T K base ρ bd) {a b c d q k:Nat} (h:row46 T a b c d q=some k):ρ k= .q (pn (ρ a).rat (ρ b).rat (ρ c).rat (ρ d).rat (ρ q).rat)/\192*(mxC T [a,b,c,d]*K+mxD T [a,b,c,d]+(mxC T [a,b,c,d]*K+mxD T [a,b,c,d]))+6208<=bd k:=by
 unfold row46 at h;split at h;rename_i k' r hf;split at h;rename_i hb;cases h;obtain⟨h1,h2⟩:=Xw hf;obtain⟨h3,h4⟩:=hg.row _ _ h1;rw[h2] at h3;simp only[Bool.and_eq_true] at hb;have b1:=Nat.le_of_ble_eq_true hb.1;have b2:=Nat.le_of_ble_eq_true hb.2;refine⟨h3,?_⟩;rw[h4];have b3:=Nat.mul_le_mul_right K b1;have b4:(384*mxC T [a,b,c,d])*K=384*(mxC T [a,b,c,d]*K):=Nat.mul_assoc _ _ _;have b5:Nat.mul 384 (mxC T [a,b,c,d])*K=384*(mxC T [a,b,c,d]*K):=b4;have b6:Nat.add (Nat.mul 384 (mxD T [a,b,c,d])) 6208=384*mxD T [a,b,c,d]+6208:=rfl;rw[b5] at b3;rw[b6] at b2;omega;cases h;cases h
theorem zeroRow_ok (hg:Yz T K base ρ bd) {z:Nat} (h:zeroRow T=some z):ρ z= .q 0:=by
 unfold zeroRow at h;split at h;rename_i k r hf;cases h;obtain⟨h1,h2⟩:=Xw hf;rw[(hg.row _ _ h1).1,h2];rfl;cases h
set_option maxRecDepth 100000 in
theorem pMakeP_ok (hg:Yz T K base ρ bd):YZ Tryz.prog (DS hT bd) 23 (pMakeP T):=by
 intro args r hr G w vs hd hS;unfold pMakeP at hr;split at hr;rename_i n y;split at hr;rename_i is his;split at hr;rename_i js hjs;split at hr;rename_i a b c d;split at hr;rename_i hl;split at hr;rename_i hm;have hm':=mx_lim hg.km hm;have hmx:=mx_ok hg hl
 cases hd with
 | cons x1 x2=>
   cases x2 with
   | cons x3 x4=>
     cases x4
     cases x1 with
     | agg x1=>
       cases x3 with
       | agg x3=>
         have h1:=asQs_ok hg his x1 (k:=mxC T [a,b,c,d]*K+mxD T [a,b,c,d]) (λi hi=>hmx i (by simp at hi ⊢;omega))
         have h2:=asQs_ok hg hjs x3 (k:=mxC T [a,b,c,d]*K+mxD T [a,b,c,d]) (λi hi=>hmx i (by simp at hi ⊢;omega))
         have hC:=plane_Make_s hS (a0:=(ρ a).rat) (a1:=(ρ b).rat) (a2:=(ρ c).rat) (a3:=(ρ d).rat) h1 h2 hm' hm'
         split at hr
         · rename_i x hx
           have hz:=zero_yes hg hx
           split at hr
           · have hz':=of_decide_eq_true hz
             split at hr
             · rename_i z hzr
               cases hr
               have e:=zeroRow_ok hg hzr
               refine .ret (by kernel_rfl) hC λS' v hv=>?_
               rcases hv with⟨_,c0,ev,hF⟩|⟨hn,_⟩
               · rw[ev]
                 exact .tup (.cons (.agg (Za0 (is:=[z,z,z,z]) (qs:=[0,0,0,0]) (k:=0) ⟨e,Nat.zero_le _,e,Nat.zero_le _,e,Nat.zero_le _,e,Nat.zero_le _,trivial⟩ hF)) (.cons (.int _ _) .nil))
               · exact absurd hz' hn
             · cases hr
           · have hz':=of_decide_eq_false hz
             split at hr
             · rename_i i hi
               split at hr
               · rename_i j hj
                 split at hr
                 · rename_i k hk
                   split at hr
                   · rename_i l hl2
                     cases hr
                     obtain⟨e0,f0⟩:=Zb1 hg hi
                     obtain⟨e1,f1⟩:=Zb1 hg hj
                     obtain⟨e2,f2⟩:=Zb1 hg hk
                     obtain⟨e3,f3⟩:=Zb1 hg hl2
                     refine .ret (by kernel_rfl) hC λS' v hv=>?_
                     rcases hv with⟨hn,_⟩|⟨_,c0,ev,hF⟩
                     · exact absurd hn hz'
                     · rw[ev]
                       exact .tup (.cons (.agg (Za0 (is:=[i,j,k,l]) (qs:=[_,_,_,_]) ⟨e0,f0,e1,f1,e2,f2,e3,f3,trivial⟩ hF)) (.cons (.int _ _) .nil))
                   · cases hr
                 · cases hr
               · cases hr
             · cases hr
         · cases hr
 cases hr;cases hr;cases hr;cases hr;cases hr;cases hr
end
def symTab4 (T:Tb):List (Nat × PrF Ato):=(30,pZero T)::(23,pMakeP T)::symTab3 T
theorem symTab4_OK:TabOK symTab4:=by
 intro T K base ρ bd T0 hT hg p hp;simp only[symTab4,List.mem_cons] at hp;rcases hp with rfl|rfl|hp;exact pZero_ok hg;exact pMakeP_ok hg;exact symTab3_OK hg p hp
end
end Go.Cham
namespace Go.Cham
open Go Go.RowKit Go.Proofs
noncomputable section
end
end Go.Cham
namespace Go.Cham
open Go Go.RowKit Go.Proofs
noncomputable section
abbrev fNatOf:Nat:=76
def pOf:PrF Nat:=λl=>match l with
  | [.int .u64 (.ofNat a)]=>match Nat.ble a 18446744073709551615 with
    |true=>some (nv a)
    |false=>none
  |_=>none
set_option maxRecDepth 100000 in
theorem pOf_ok:YZ Tryz.prog DN fNatOf pOf:=by
 intro args r hr G w vs hd hS;unfold pOf at hr;split at hr;rename_i a;split at hr;rename_i hle;cases hr;have:=Nat.le_of_ble_eq_true hle
 cases hd with
 | cons h1 h2=>
   cases h2
   cases h1
   exact .ret (by kernel_rfl) (nat_Of hS (n:=a) (by omega)) λS' v ⟨c0,e,h⟩=>by rw[e];exact Zfa h
 cases hr;cases hr
def tabNat:List (Nat × PrF Nat):=[
  (fNatOf,pOf),
  (98,pN1 λa=>.int .i64 (bitB a:Int)),
  (133,pN2 λa b=>.int .i64 (cmpB a b)),
  (137,pN2 λa b=>nv (Nat.add a b)),
  (80,pN2 λa b=>nv (Nat.mul a b)),
  (79,pN2 λa b=>nv (Nat.gcd a b)),
  (145,pN2 λa b=>match Nat.ble b a with|true=>.tup [nv (Nat.sub a b),.int .i64 0]|false=>.tup [nv 0,.int .i64 10]),
  (77,pN2 λa b=>match Nat.beq b 0 with|true=>.tup [nv 0,nv 0,.int .i64 11]|false=>.tup [nv (Nat.div a b),nv (Nat.mod a b),.int .i64 0]),
  (118,pN1 λa=>.str (decB a))]
set_option maxRecDepth 100000 in
theorem tabNat_ok:∀p∈tabNat,YZ Tryz.prog DN p.1 p.2:=by
 intro p hp;simp only[tabNat,List.mem_cons,List.not_mem_nil,or_false] at hp;rcases hp with rfl|rfl|rfl|rfl|rfl|rfl|rfl|rfl|rfl;exact pOf_ok;exact pN1_ok (by kernel_rfl) λS w c a hS h=>⟨_,YF hS h,λblk S' v hv=>by rw[hv,bitB_eq];exact .int _ _⟩;exact pN2_ok (by kernel_rfl) λS w c d a b hS h k=>⟨_,nat_Cmp hS h k,λblk S' v hv=>by rw[hv,cmpB_eq];exact .int _ _⟩;exact pN2_ok (by kernel_rfl) λS w c d a b hS h k=>⟨_,nat_Add hS h k (by omega) (by omega),λblk S' v ⟨c0,e,hv⟩=>by rw[e];exact Zfa hv⟩;exact pN2_ok (by kernel_rfl) λS w c d a b hS h k=>⟨_,nat_Mul hS h k (by omega) (by omega),λblk S' v ⟨c0,e,hv⟩=>by rw[e];exact Zfa hv⟩;exact pN2_ok (by kernel_rfl) λS w c d a b hS h k=>⟨_,nat_Gcd hS h k (by omega),λblk S' v ⟨c0,e,hv⟩=>by rw[e];exact Zfa hv⟩;refine pN2_ok (by kernel_rfl) λS w c d a b hS h k=>⟨_,nat_Sub hS h k (by omega),λblk S' v hv=>?_⟩;rcases hv with⟨h1,c0,e,hv⟩|⟨h1,c0,e,hv⟩
 have:Nat.ble b a=false:=by
   cases hb:Nat.ble b a with
   |false=>rfl
   |true=>have:=Nat.le_of_ble_eq_true hb;omega
 rw[e,this];exact .tup (.cons (Zfa hv) (.cons (.int _ _) .nil));rw[e,Nat.ble_eq_true_of_le h1];exact .tup (.cons (Zfa hv) (.cons (.int _ _) .nil));refine pN2_ok (by kernel_rfl) λS w c d a b hS h k=>⟨_,nat_Div hS h k (by omega),λblk S' v hv=>?_⟩;rcases hv with⟨h1,c0,c1,e,hv,hu⟩|⟨h1,c0,c1,e,hv,hu⟩;subst h1;rw[e];exact .tup (.cons (Zfa hv) (.cons (Zfa hu) (.cons (.int _ _) .nil)))
 have:Nat.beq b 0=false:=by
   cases hb:Nat.beq b 0 with
   |false=>rfl
   |true=>rw[YM] at hb;exact absurd hb h1
 rw[e,this];exact .tup (.cons (Zfa hv) (.cons (Zfa hu) (.cons (.int _ _) .nil)));refine pN1_ok (by kernel_rfl) λS w c a hS h=>⟨_,Zb2 hS h (by omega),λblk S' v hv=>?_⟩;rw[hv,decB_eq];exact .str _
end
end Go.Cham
namespace Go.Cham
open Go Go.RowKit Go.Proofs
noncomputable section
def fracV (q:Rat):SV Nat:=.agg [.bool (decide (q.num<0)),.at_ q.num.natAbs,.at_ (q.den - 1)]
theorem fracV_den {S:Sh} {cs:List Value} {q:Rat} {k:Nat} {blk:Nat->Option (Nat × Nat)} (h:Fs S cs [q] k):Den DN ⟨S,blk⟩ (fracV q) (.agg cs.toArray):=by
 obtain⟨c0,c1,c2,c3,c4,rfl,h1,h2,_⟩:=h.one;obtain⟨us,e,h3⟩:=h1.abs;have h0:=h1.sign;simp at h0 e;subst h0 e;refine .agg (.one (.bool _) rfl (λ_=>by simp) ?_);have:=YL.run (D:=DN) (G:=⟨S,blk⟩) (a:=q.num.natAbs) (us:=[c1,c2]) ⟨k,h3⟩ (YL.run (a:=q.den - 1) (us:=[c3,c4]) ⟨k,h2⟩ .nil);simpa using this
def pParse:PrF Nat:=λl=>match l with
  | [.str s]=>match byteL s with
    | true=>match Nat.ble (lenL s) 1000000 with
      |true=>some (.tup [fracV (Zbv s),.int .i64 (Za3 s)])
      |false=>none
    |false=>none
  |_=>none
set_option maxRecDepth 100000 in
theorem pParse_ok:YZ Tryz.prog DN 32 pParse:=by
 intro args r hr G w vs hd hS;unfold pParse at hr;split at hr;rename_i s;split at hr;rename_i hb;split at hr;rename_i hle;cases hr;have hle':=Nat.le_of_ble_eq_true hle;rw[Zc1] at hle';have hbl:=Qd (Zgr hb)
 cases hd with
 | cons h1 h2=>
   cases h2
   cases h1
   refine .ret (by kernel_rfl) (frac_Parse hS (s:=YV s) (by rw[Zd4];omega)) λS' v hv=>?_
   rw[hbl] at hv
   obtain⟨c0,e,hv⟩:=hv
   rw[e]
   exact .tup (.cons (fracV_den hv) (.cons (.int _ _) .nil))
 cases hr;cases hr;cases hr
def isTrue (o:Option (CR Nat)):Bool:=match o with
  | some c=>match c.r with
    | .bool b=>b
    |_=>false
  |none=>false
theorem known {P:Program} {f:FuncId} (hmo:P.follows .mixedOrders=true) {l:List (Nat × PrF Nat)} (hl:∀p∈l,YZ P DN p.1 p.2) {k:Nat} (he:ZT P f=true)
    (h:isTrue (callB P DN (primOf (mkTab l)) (runN P DN (primOf (mkTab l)) k) 0 f [] .nil 0)=true) {S:Sh} {w:World} (hS:ZU S w):Calls P f [].toArray w (Ret S w λ_ v=>v= .bool true):=by
 unfold isTrue at h;split at h;rename_i c hc;split at h;rename_i b hb;subst h;refine Calls.mono (Zbu.toRet he (ev_call hmo (primOf_ok hl) hc hS .nil)) λe w' ⟨v,S',h1,h2,blk',h3⟩=>⟨v,S',h1,h2,?_⟩;rw[hb] at h3;cases h3;rfl;cases h;cases h
def tabPlane:List (Nat × PrF Nat):=(32,pParse)::tabNat
theorem tabPlane_ok:∀p∈tabPlane,YZ Tryz.prog DN p.1 p.2:=by
 intro p hp;rcases List.mem_cons.1 hp with rfl|hp;exact pParse_ok;exact tabNat_ok p hp
end
end Go.Cham
namespace Go.Cham
open Go Go.RowKit Go.Proofs
noncomputable section
set_option maxRecDepth 100000 in
theorem works_run:isTrue (callB Tryz.prog DN (primOf (mkTab tabPlane)) (runN Tryz.prog DN (primOf (mkTab tabPlane)) 4000) 0 11 [] .nil 0)=true:=by kernel_rfl
theorem works_s {S:Sh} {w:World} (hS:ZU S w):Calls Tryz.prog 11 [].toArray w (Ret S w λ_ v=>v= .bool true):=known mixed tabPlane_ok (by kernel_rfl) works_run hS
end
end Go.Cham
namespace Go.Cham
open Go Go.RowKit Go.Proofs
noncomputable section
def pWorks:PrF Ato:=λl=>match l with
  |[]=>some (.bool true)
  |_=>none
section
variable {T : Tb} {K : Nat} {base ρ : Nat → AV} {bd : Nat → Nat} {G : Gh} {T0 : Tb} {hT : Cs T0 ρ}
set_option maxRecDepth 100000 in
theorem pWorks_ok:YZ Tryz.prog (DS hT bd) 11 pWorks:=by
 intro args r hr G w vs hd hS;unfold pWorks at hr;split at hr;cases hr;cases hd;refine .ret (by kernel_rfl) (works_s hS) λS' v hv=>?_;rw[hv];exact .bool _;cases hr
theorem TsE.vals:∀{is:List Nat} {ss:List ByteArray},TsE ρ is ss->is.map ρ=ss.map AV.s
  |[],[],_=>rfl
  |i::is,s::ss,h=>by rw[List.map_cons,List.map_cons,h.1,TsE.vals h.2]
  |[],_::_,h=>h.elim
  |_::_,[],h=>h.elim
theorem TsE.len:∀{is:List Nat} {ss:List ByteArray},TsE ρ is ss->is.length=ss.length
  |[],[],_=>rfl
  |i::is,s::ss,h=>by rw[List.length_cons,List.length_cons,TsE.len h.2]
  |[],_::_,h=>h.elim
  |_::_,[],h=>h.elim
end
end
end Go.Cham
namespace Go.Cham
open Go Go.RowKit Go.Proofs
noncomputable section
set_option maxRecDepth 100000
def pRText (T:Tb):PrF Ato:=λl=>match l with
 |[x]=>match asR T x with
  |some i=>opV T 43 100000000000 0 [i]
  |none=>none
 |_=>none
def pRParse (T:Tb):PrF Ato:=λl=>match l with
 | [.at_ (.t i)]=>match shortB T i with
  | true=>match Zff [4,i] T.conds with
   | some x=>match Zc5 T (keyE x [38,i]) with
    |some (k,r)=>match Nat.ble 900 r.d with
     |true=>some (.tup [.agg (cR k),.int .i64 x])
     |false=>none
    |none=>none
   |none=>none
  |false=>none
 |_=>none
def asRs (T:Tb):Nat->List (SV Ato)->Option (List Nat)
 |0,l=>match l with
  |[]=>some []
  |_=>none
 | n+1,l=>match l with
  | a::b::c::r=>match asR T (.agg [a,b,c]) with
   |some i=>match asRs T n r with
    |some is=>some (i::is)
    |none=>none
   |none=>none
  |_=>none
def nzR (T:Tb) (i:Nat):Bool:=match isK T i 2 with
 | true=>match Zdu T [19,i] with
  |some b=>match b with
   |true=>false
   |false=>true
  |none=>false
 |false=>false
def pRMake (T:Tb):PrF Ato:=λl=>match l with
 | [.agg n,y]=>match asRs T 3 n with
  | some is=>match asR T y with
   | some d=>match is with
    | [a, b,c]=>match limB T 250000000 [a,b,c,d] with
     | true=>match Nat.ble (Nat.add (Nat.mul (mxC T [a,b,c,d]) T.km) (mxD T [a,b,c,d])) 250000000 with
      | true=>match nzR T a || nzR T b || nzR T c with
       | true=>match row46 T a b c d a with
        | some i=>match row46 T a b c d b with
         | some j=>match row46 T a b c d c with
          |some k=>match row46 T a b c d d with
           |some l=>some (.agg (cRs [i,j,k,l]))
           |none=>none
          |none=>none
         |none=>none
        |none=>none
       |false=>none
      |false=>none
     |false=>none
    |_=>none
   |none=>none
  |none=>none
 |_=>none
section
variable {T : Tb} {K : Nat} {base ρ : Nat → AV} {bd : Nat → Nat} {G : Gh} {T0 : Tb} {hT : Cs T0 ρ}
theorem pRText_ok (hg:Yz T K base ρ bd):YZ Tryz.prog (DS hT bd) 56 (pRText T):=by
 intro args r hr G w vs hd hS;unfold pRText at hr;split at hr;split at hr;rename_i i hi;obtain⟨l,rfl,g1,g2,g3,g4⟩:=Zd3 hg hr (by decide);have hb:=g3 (bd i) (by simp)
 cases hd with
 |cons x1 x2=>
  cases x2
  obtain⟨c,rfl,h5⟩:=Zgu hg hi x1
  refine .ret (by kernel_rfl) (cref03_Text hS h5 hb) λS' v hv=>Xa g1 ?_
  rw[g2]
  exact hv
 cases hr;cases hr
theorem pRParse_ok (hg:Yz T K base ρ bd):YZ Tryz.prog (DS hT bd) 33 (pRParse T):=by
 intro args r hr G w vs hd hS;unfold pRParse at hr;split at hr;rename_i i;split at hr;rename_i hs;split at hr;rename_i x hx;split at hr;rename_i k r' hf;split at hr;rename_i hb;cases hr;obtain⟨h1,h2⟩:=Xw hf;obtain⟨h3,h4⟩:=hg.row _ _ h1;rw[h2] at h3
 cases hd with
 | cons x1 x2=>
  cases x2
  cases x1 with
  | at_ hp=>
   obtain⟨s,e,hv⟩:=hp
   have hv':=List.cons.inj hv
   obtain⟨rfl,_⟩:=hv'
   have hsz:=shortB_ok hg hs
   rw[e] at hsz
   have hsz':s.size<=1024:=hsz
   have hc:Za3 (bl s)=x:=by
    have h9:=hg.cond _ (QI hx)
    have h8:ZI ρ [4,i]=Za3 (bl (ρ i).txt):=rfl
    rw[e] at h8
    exact h8.symm.trans h9
   have h3':ρ k= .q (Zbv (bl s)):=by
    rw[h3]
    unfold keyE
    split
    ·split
     ·show Zfy 38 [ρ i]=_
      rw[e];rfl
     ·show AV.q 0=_
      unfold Zbv
      rw[if_neg (by rw[hc];simp;omega)]
    ·show Zfy 38 [ρ i]=_
     rw[e];rfl
   have hb':=Nat.le_of_ble_eq_true hb
   refine .ret (by kernel_rfl) (cref03_Parse hS (s:=s) (by omega)) λS' v ⟨c0,ev,hv⟩=>?_
   rw[ev,hc]
   exact .tup (.cons (.agg (cR_mk h3' (by omega) hv)) (.cons (.int _ _) .nil))
 cases hr;cases hr;cases hr;cases hr;cases hr
theorem asRs_ok (hg:Yz T K base ρ bd) {k:Nat}:∀{n:Nat} {l:List (SV Ato)} {is:List Nat} {vs:List Value},asRs T n l=some is->YL (DS hT bd) G l vs->(∀i∈is,bd i<=k)->Gs G.S vs (is.map λi=>(ρ i).rat) k
 | 0,l,is,vs,h,hd,hk=>by
  unfold asRs at h
  split at h
  ·cases h
   rw[hd.nilI];rfl
  ·cases h
 | n +1,l,is,vs,h,hd,hk=>by
  unfold asRs at h
  split at h
  ·rename_i a b c r
   split at h
   ·rename_i i hi
    split at h
    ·rename_i js hjs
     cases h
     obtain⟨us,ws,rfl,h1,h2⟩:=YL.splitA (A:=[a,b,c]) hd
     obtain⟨cs,e,h3⟩:=Zgu hg hi (.agg h1)
     have e2:us=cs:=by
      have:=congrArg (λv=>match v with|Value.agg x=>x.toList|_=>[]) e
      simpa using this
     subst e2
     exact(h3.wide (hk i (by simp))).append (asRs_ok hg hjs h2 λj hj=>hk j (by simp[hj]))
    ·cases h
   ·cases h
  ·cases h
theorem nzR_ok (hg:Yz T K base ρ bd) {i:Nat} (h:nzR T i=true):(ρ i).rat.num≠0:=by
 unfold nzR at h;split at h;rename_i hk;split at h;rename_i b hb;have h1:=XU hg.cond hb
 cases b with
 |true=>cases h
 |false=>
  have h2:(if(ρ i).abs=0 then(1:Int) else 0)=0:=h1
  have h3:=AV.k2 (Zbm hg hk)
  rw[h3] at h2
  have h4:(if(ρ i).rat.num.natAbs=0 then(1:Int) else 0)=0:=h2
  split at h4
  ·cases h4
  ·omega
 cases h;cases h
theorem pRMake_ok (hg:Yz T K base ρ bd):YZ Tryz.prog (DS hT bd) 40 (pRMake T):=by
 intro args r hr G w vs hd hS;unfold pRMake at hr;split at hr;rename_i n y;split at hr;rename_i is his;split at hr;rename_i d hd4;split at hr;rename_i a b c;split at hr;rename_i hl;split at hr;rename_i hm;have hm':=mx_lim hg.km hm;have hmx:=mx_ok hg hl
 cases hd with
 | cons x1 x2=>
  cases x2 with
  | cons x3 x4=>
   cases x4
   cases x1 with
   | agg x1=>
    have h1:=asRs_ok hg his x1 (k:=mxC T [a,b,c,d]*K+mxD T [a,b,c,d]) (λi hi=>hmx i (by simp at hi ⊢;omega))
    obtain⟨c2,rfl,h2'⟩:=Zgu hg hd4 x3
    have h2:=h2'.wide (hmx d (by simp))
    split at hr
    ·rename_i hnz
     have hn:¬((ρ a).rat.num=0/\(ρ b).rat.num=0/\(ρ c).rat.num=0):=by
      simp only[Bool.or_eq_true] at hnz
      rcases hnz with(q|q)|q
      ·exact λz=>nzR_ok hg q z.1
      ·exact λz=>nzR_ok hg q z.2.1
      ·exact λz=>nzR_ok hg q z.2.2
     have hC:=cref05_Make hS (a0:=(ρ a).rat) (a1:=(ρ b).rat) (a2:=(ρ c).rat) (a3:=(ρ d).rat) h1 h2 (by omega) (by omega) hn
     split at hr
     ·rename_i i hi
      split at hr
      ·rename_i j hj
       split at hr
       ·rename_i k hk
        split at hr
        ·rename_i l hl2
         cases hr
         obtain⟨e0,f0⟩:=Zb1 hg hi
         obtain⟨e1,f1⟩:=Zb1 hg hj
         obtain⟨e2,f2⟩:=Zb1 hg hk
         obtain⟨e3,f3⟩:=Zb1 hg hl2
         refine .ret (by kernel_rfl) hC λS' v ⟨c0,ev,hF⟩=>?_
         rw[ev,Nat.max_self] at*
         exact .agg (cRs_mk (is:=[i,j,k,l]) (qs:=[_,_,_,_]) ⟨e0,by omega,e1,by omega,e2,by omega,e3,by omega,trivial⟩ hF)
        ·cases hr
       ·cases hr
      ·cases hr
     ·cases hr
    ·cases hr
 cases hr;cases hr;cases hr;cases hr;cases hr;cases hr
end
theorem ferr_3w (l:List Nat):Za3 l=0\/Za3 l=3\/Za3 l=12:=by
 rcases ferr_cases l with h|h|h|h;exact .inr (.inr h.2);exact .inr (.inl h.2.2);exact .inr (.inr h.2.2.2);exact .inl h.2.2.2
theorem waysF (ρ:Nat->AV) {t:Nat} {is:List Nat} (h:t=4):ZI ρ (t::is)=0\/ZI ρ (t::is)=3\/ZI ρ (t::is)=12:=by
 subst h;show semT 4 (is.map ρ)=0\/semT 4 (is.map ρ)=3\/semT 4 (is.map ρ)=12;unfold semT;split <;> first|omega|exact ferr_3w _|skip
 unfold semU;split <;> first|omega|exact .inl rfl
def symTab6 (T:Tb):List (Nat × PrF Ato):=(56,pRText T)::(33,pRParse T)::(40,pRMake T)::(11,pWorks)::(symTab4 T++symTabS T)
theorem symTab6_OK:TabOK symTab6:=by
 intro T K base ρ bd T0 hT hg p hp;simp only[symTab6,List.mem_cons,List.mem_append] at hp;rcases hp with rfl|rfl|rfl|rfl|hp|hp;exact pRText_ok hg;exact pRParse_ok hg;exact pRMake_ok hg;exact pWorks_ok;exact symTab4_OK hg p hp;exact symTabS_OK hg p hp
end
end Go.Cham
namespace Go.Cham
open Go Go.RowKit Go.Proofs
noncomputable section
def pBitsA (T:Tb):PrF Ato:=λl=>match l with
 |[.agg [.at_ (.a i)]]=>match limB T 500000000000 [i] with
  |true=>some (.at_ (.n i))
  |false=>none
 |_=>none
def pBitsG (T:Tb):PrF Ato:=λl=>match l with
 |[.at_ (.g i)]=>match limB T 500000000000 [i] with
  |true=>some (.at_ (.n i))
  |false=>none
 |_=>none
section
variable {T : Tb} {K : Nat} {base ρ : Nat → AV} {bd : Nat → Nat} {G : Gh} {T0 : Tb} {hT : Cs T0 ρ}
set_option maxRecDepth 100000 in
theorem pBitsA_ok (hg:Yz T K base ρ bd):YZ Tryz.prog (DS hT bd) 98 (pBitsA T):=by
 intro args r hr G w vs hd hS;unfold pBitsA at hr;split at hr;rename_i i;split at hr;cases hr
 cases hd with
 | cons x1 x2=>
  cases x2
  cases x1 with
  |agg hl=>
   obtain⟨us,vs',rfl,h1,h2⟩:=YL.runI hl
   cases h2.nilI
   rw[List.append_nil]
   have h1':Na G.S us (ρ i).abs (bd i):=h1
   refine .ret (by kernel_rfl) (YF hS h1') λS' v hv=>?_
   rw[hv]
   exact .at_ rfl
 cases hr;cases hr
set_option maxRecDepth 100000 in
theorem pBitsG_ok (hg:Yz T K base ρ bd):YZ Tryz.prog (DS hT bd) 43 (pBitsG T):=by
 intro args r hr G w vs hd hS;unfold pBitsG at hr;split at hr;rename_i i;split at hr;rename_i hl;cases hr;have hb:=Qx hg hl (bd i) (by simp)
 cases hd with
 | cons x1 x2=>
  cases x2
  cases x1 with
  |at_ hp=>
   obtain⟨v,hv,h1⟩:=hp
   cases hv
   refine .ret (by kernel_rfl) (cref01_Bits hS h1 (by omega)) λS' v hv=>?_
   rw[hv]
   exact .at_ rfl
 cases hr;cases hr
end
def symTab7 (T:Tb):List (Nat × PrF Ato):=(98,pBitsA T)::(43,pBitsG T)::symTab6 T
theorem symTab7_OK:TabOK symTab7:=by
 intro T K base ρ bd T0 hT hg p hp;simp only[symTab7,List.mem_cons] at hp;rcases hp with rfl|rfl|hp;exact pBitsA_ok hg;exact pBitsG_ok hg;exact symTab6_OK hg p hp
theorem bitlen_mono {a b:Nat} (h:a<=b):Zs a<=Zs b:=by
 unfold Zs;by_cases ha:a=0;rw[if_pos ha];exact Nat.zero_le _;rw[if_neg ha,if_neg (by omega)];exact Nat.succ_le_succ ((Nat.le_log2 (by omega)).2 (Nat.le_trans (Nat.log2_self_le ha) h))
theorem bitlen_max (a b:Nat):max ((Zs a:Nat):Int) ((Zs b:Nat):Int)=((Zs (max a b):Nat):Int):=by
 rcases Nat.le_total a b with h|h;rw[Nat.max_eq_right h];have:=bitlen_mono h;omega;rw[Nat.max_eq_left h];have:=bitlen_mono h;omega
theorem if_same {a b:Nat} (h:a=b):(if((Zs a:Nat):Int)=((Zs b:Nat):Int) then(1:Int) else 0)=1:=if_pos (by rw[h])
theorem if_max (a b:Nat) {c:Nat} (h:c=max a b):(if max ((Zs a:Nat):Int) ((Zs b:Nat):Int)=((Zs c:Nat):Int) then(1:Int) else 0)=1:=if_pos (by rw[h];exact bitlen_max a b)
theorem row_n {R:List Rw} {km:Nat} {base:Nat->AV} (ha:Qh R 0=true) {i:Nat} {r:Rw} (h:R[i]? =some r) {q:Nat} (hq:semK base (rho ⟨R,[],km⟩ base) r.key= .n q):(rho ⟨R,[],km⟩ base i).abs=q:=by rw[row_val ha h,hq];rfl
theorem row_z {R:List Rw} {km:Nat} {base:Nat->AV} (ha:Qh R 0=true) {i:Nat} {r:Rw} (h:R[i]? =some r) {q:Int} (hq:semK base (rho ⟨R,[],km⟩ base) r.key= .z q):(rho ⟨R,[],km⟩ base i).int=q:=by rw[row_val ha h,hq];rfl
theorem row_b {R:List Rw} {km:Nat} {base:Nat->AV} (ha:Qh R 0=true) {i:Nat} {r:Rw} (h:R[i]? =some r) {q:Rat} (hq:semK base (rho ⟨R,[],km⟩ base) r.key= .q q):(rho ⟨R,[],km⟩ base i).abs=q.num.natAbs:=by rw[row_val ha h,hq];rfl
end
end Go.Cham
namespace Go.Cham
open Go Go.RowKit
theorem nine {p:Prop} [Decidable p] (h:(if p then(1:Int) else 0)=0):¬p:=λe=>by rw[if_pos e] at h;cases h
end Go.Cham
namespace Go.Cham
open Go Go.RowKit
theorem nine1 {p:Prop} [Decidable p] (h:(if p then(1:Int) else 0)=1):p:=Classical.byContradiction λe=>by rw[if_neg e] at h;cases h
theorem abs1 {z:Int} (h:(if z.natAbs=0 then(1:Int) else 0)=1):z=0:=Int.natAbs_eq_zero.1 (nine1 h)
end Go.Cham
namespace Go.Cham
open Go Go.RowKit Go.Proofs
noncomputable section
def le_r:List Rw:=[⟨[3,0],0,0⟩,⟨[3,1],0,0⟩,⟨[3,2],0,0⟩,⟨[3,3],0,0⟩,⟨[3,4],0,0⟩,⟨[3,5],0,0⟩,⟨[3,6],0,0⟩,⟨[38,0],0,900⟩,⟨[38,1],0,900⟩,⟨[38,2],0,900⟩,⟨[38,3],0,900⟩,⟨[46,7,8,9,10,7],0,351808⟩,⟨[46,7,8,9,10,8],0,351808⟩,⟨[46,7,8,9,10,9],0,351808⟩,⟨[46,7,8,9,10,10],0,351808⟩,⟨[38,4],0,900⟩,⟨[38,5],0,900⟩,⟨[38,6],0,900⟩,⟨[4,0],0,64⟩,⟨[4,1],0,64⟩,⟨[17,18],0,64⟩,⟨[78,20,19],0,128⟩,⟨[43,11],0,351808⟩,⟨[43,12],0,351808⟩,⟨[43,13],0,351808⟩,⟨[43,14],0,351808⟩,⟨[13,11],0,351808⟩,⟨[12,26],0,351808⟩,⟨[13,12],0,351808⟩,⟨[12,28],0,351808⟩,⟨[52,27,29],0,703616⟩,⟨[13,13],0,351808⟩,⟨[12,31],0,351808⟩,⟨[52,30,32],0,1055424⟩,⟨[13,14],0,351808⟩,⟨[12,34],0,351808⟩,⟨[52,33,35],0,1407232⟩,⟨[52,11,12],0,703616⟩,⟨[52,37,13],0,1055424⟩,⟨[52,38,14],0,1407232⟩,⟨[30,11,15],0,352708⟩,⟨[6],0,351808⟩,⟨[22,41,40],0,704517⟩,⟨[30,12,16],0,352708⟩,⟨[22,42,43],0,1057226⟩,⟨[30,13,17],0,352708⟩,⟨[22,44,45],0,1409935⟩,⟨[26,46,14],0,1761744⟩,⟨[43,47],0,1761744⟩,⟨[22,40,43],0,705417⟩,⟨[22,49,45],0,1058126⟩,⟨[18,14],0,351808⟩,⟨[22,50,51],0,1409935⟩,⟨[43,52],0,1409935⟩,⟨[30,11,41],0,703616⟩,⟨[22,41,54],0,1055425⟩,⟨[30,12,41],0,703616⟩,⟨[22,55,56],0,1759042⟩,⟨[30,13,41],0,703616⟩,⟨[22,57,58],0,2462659⟩,⟨[26,59,14],0,2814468⟩,⟨[43,60],0,2814468⟩,⟨[30,11,21],0,351936⟩,⟨[30,12,21],0,351936⟩,⟨[22,62,63],0,703873⟩,⟨[30,13,21],0,351936⟩,⟨[22,64,65],0,1055810⟩,⟨[22,66,51],0,1407619⟩,⟨[43,67],0,1407619⟩,⟨[10,0,0],0,64⟩,⟨[10,1,0],0,64⟩]
def le_T (cs:CL):Tb:=⟨le_r,cs,100000000000⟩
def XI (cs:CL) (r:SV Ato):Prop:=Zfh symTab7 (le_T cs) 7 [.agg (cTs [0,1,2,3]),.agg (cTs [4,5,6])] r 900
def ZP (l:List ByteArray):Nat->AV:=rho (le_T []) (baseS l)
theorem le_s (l:List ByteArray) (i:Nat) {r:Rw} (h:le_r[i]? =some r) {q:Rat} (hq:semK (baseS l) (ZP l) r.key= .q q):(ZP l i).rat=q:=row_rat (R:=le_r) (km:=100000000000) (by kernel_rfl) h hq
theorem le_u (l:List ByteArray) (i:Nat) {r:Rw} (h:le_r[i]? =some r) {q:ByteArray} (hq:semK (baseS l) (ZP l) r.key= .s q):(ZP l i).txt=q:=row_txt (R:=le_r) (km:=100000000000) (by kernel_rfl) h hq
theorem le_n (l:List ByteArray) (i:Nat) {r:Rw} (h:le_r[i]? =some r) {q:Nat} (hq:semK (baseS l) (ZP l) r.key= .n q):(ZP l i).abs=q:=row_n (R:=le_r) (km:=100000000000) (by kernel_rfl) h hq
theorem le_z (l:List ByteArray) (i:Nat) {r:Rw} (h:le_r[i]? =some r) {q:Int} (hq:semK (baseS l) (ZP l) r.key= .z q):(ZP l i).int=q:=row_z (R:=le_r) (km:=100000000000) (by kernel_rfl) h hq
theorem le_b (l:List ByteArray) (i:Nat) {r:Rw} (h:le_r[i]? =some r) {q:Rat} (hq:semK (baseS l) (ZP l) r.key= .q q):(ZP l i).abs=q.num.natAbs:=row_b (R:=le_r) (km:=100000000000) (by kernel_rfl) h hq
set_option maxRecDepth 100000
def le_k0:CL:=([9,41,41,41],1)::([8,61,68],1)::([8,48,53],1)::([21,36,39],1)::([23,38,14,39],1)::([23,37,13,38],1)::([23,11,12,37],1)::([23,33,35,36],1)::([23,30,32,33],1)::([23,27,29,30],1)::([8,25,25],1)::([8,22,23,24,22,23,24],1)::([8,22,23,24,25,22,23,24,25],1)::[]
def le_k1:CL:=([12,0],1)::le_k0
theorem le_p78:XI le_k1 (.bool true):=λ_ _ _=>by kernel_rfl
def le_k2:CL:=([12,0],0)::le_k0
def le_k3:CL:=([12,1],1)::le_k2
theorem le_p77:XI le_k3 (.bool true):=λ_ _ _=>by kernel_rfl
def le_k4:CL:=([12,1],0)::le_k2
def le_k5:CL:=([12,2],1)::le_k4
theorem le_p76:XI le_k5 (.bool true):=λ_ _ _=>by kernel_rfl
def le_k6:CL:=([12,2],0)::le_k4
def le_k7:CL:=([12,3],1)::le_k6
theorem le_p75:XI le_k7 (.bool true):=λ_ _ _=>by kernel_rfl
def le_k8:CL:=([12,3],0)::le_k6
def le_k9:CL:=([12,4],1)::le_k8
theorem le_p74:XI le_k9 (.bool true):=λ_ _ _=>by kernel_rfl
def le_k10:CL:=([12,4],0)::le_k8
def le_k11:CL:=([12,5],1)::le_k10
theorem le_p73:XI le_k11 (.bool true):=λ_ _ _=>by kernel_rfl
def le_k12:CL:=([12,5],0)::le_k10
def le_k13:CL:=([12,6],1)::le_k12
theorem le_p72:XI le_k13 (.bool true):=λ_ _ _=>by kernel_rfl
def le_k14:CL:=([12,6],0)::le_k12
def le_k15:CL:=([4,0],3)::le_k14
theorem le_p70:XI le_k15 (.bool true):=λ_ _ _=>by kernel_rfl
def le_k16:CL:=([4,0],12)::le_k14
theorem le_p71:XI le_k16 (.bool true):=λ_ _ _=>by kernel_rfl
def le_k17:CL:=([4,0],0)::le_k14
def le_k18:CL:=([4,1],3)::le_k17
theorem le_p68:XI le_k18 (.bool true):=λ_ _ _=>by kernel_rfl
def le_k19:CL:=([4,1],12)::le_k17
theorem le_p69:XI le_k19 (.bool true):=λ_ _ _=>by kernel_rfl
def le_k20:CL:=([4,1],0)::le_k17
def le_k21:CL:=([4,2],3)::le_k20
theorem le_p66:XI le_k21 (.bool true):=λ_ _ _=>by kernel_rfl
def le_k22:CL:=([4,2],12)::le_k20
theorem le_p67:XI le_k22 (.bool true):=λ_ _ _=>by kernel_rfl
def le_k23:CL:=([4,2],0)::le_k20
def le_k24:CL:=([4,3],3)::le_k23
theorem le_p64:XI le_k24 (.bool true):=λ_ _ _=>by kernel_rfl
def le_k25:CL:=([4,3],12)::le_k23
theorem le_p65:XI le_k25 (.bool true):=λ_ _ _=>by kernel_rfl
def le_k26:CL:=([4,3],0)::le_k23
def le_k27:CL:=([19,9],1)::([19,8],1)::([19,7],1)::([9,7,8,9],1)::le_k26
theorem le_p63:XI le_k27 (.bool true):=λ_ _ _=>by kernel_rfl
def le_k28:CL:=([9,11,12,13],0)::([9,7,8,9],0)::le_k26
def le_k29:CL:=([19,7],0)::le_k28
def le_k30:CL:=([4,4],3)::le_k29
def le_k31:CL:=([1,67],0)::([1,60],0)::le_k30
theorem le_p17:XI le_k31 (.bool true):=λ_ _ _=>by kernel_rfl
def le_k32:CL:=([1,67],1)::([1,60],1)::le_k30
theorem le_p16:XI le_k32 (.bool true):=λ_ _ _=>by kernel_rfl
def le_k33:CL:=([1,67],(-1))::([1,60],(-1))::le_k30
theorem le_p15:XI le_k33 (.bool true):=λ_ _ _=>by kernel_rfl
def le_k34:CL:=([4,4],12)::le_k29
def le_k35:CL:=([1,67],0)::([1,60],0)::le_k34
theorem le_p20:XI le_k35 (.bool true):=λ_ _ _=>by kernel_rfl
def le_k36:CL:=([1,67],1)::([1,60],1)::le_k34
theorem le_p19:XI le_k36 (.bool true):=λ_ _ _=>by kernel_rfl
def le_k37:CL:=([1,67],(-1))::([1,60],(-1))::le_k34
theorem le_p18:XI le_k37 (.bool true):=λ_ _ _=>by kernel_rfl
def le_k38:CL:=([4,4],0)::le_k29
def le_k39:CL:=([4,5],3)::le_k38
def le_k40:CL:=([1,67],0)::([1,60],0)::le_k39
theorem le_p11:XI le_k40 (.bool true):=λ_ _ _=>by kernel_rfl
def le_k41:CL:=([1,67],1)::([1,60],1)::le_k39
theorem le_p10:XI le_k41 (.bool true):=λ_ _ _=>by kernel_rfl
def le_k42:CL:=([1,67],(-1))::([1,60],(-1))::le_k39
theorem le_p9:XI le_k42 (.bool true):=λ_ _ _=>by kernel_rfl
def le_k43:CL:=([4,5],12)::le_k38
def le_k44:CL:=([1,67],0)::([1,60],0)::le_k43
theorem le_p14:XI le_k44 (.bool true):=λ_ _ _=>by kernel_rfl
def le_k45:CL:=([1,67],1)::([1,60],1)::le_k43
theorem le_p13:XI le_k45 (.bool true):=λ_ _ _=>by kernel_rfl
def le_k46:CL:=([1,67],(-1))::([1,60],(-1))::le_k43
theorem le_p12:XI le_k46 (.bool true):=λ_ _ _=>by kernel_rfl
def le_k47:CL:=([4,5],0)::le_k38
def le_k48:CL:=([4,6],3)::le_k47
def le_k49:CL:=([1,67],0)::([1,60],0)::le_k48
theorem le_p5:XI le_k49 (.bool true):=λ_ _ _=>by kernel_rfl
def le_k50:CL:=([1,67],1)::([1,60],1)::le_k48
theorem le_p4:XI le_k50 (.bool true):=λ_ _ _=>by kernel_rfl
def le_k51:CL:=([1,67],(-1))::([1,60],(-1))::le_k48
theorem le_p3:XI le_k51 (.bool true):=λ_ _ _=>by kernel_rfl
def le_k52:CL:=([4,6],12)::le_k47
def le_k53:CL:=([1,67],0)::([1,60],0)::le_k52
theorem le_p8:XI le_k53 (.bool true):=λ_ _ _=>by kernel_rfl
def le_k54:CL:=([1,67],1)::([1,60],1)::le_k52
theorem le_p7:XI le_k54 (.bool true):=λ_ _ _=>by kernel_rfl
def le_k55:CL:=([1,67],(-1))::([1,60],(-1))::le_k52
theorem le_p6:XI le_k55 (.bool true):=λ_ _ _=>by kernel_rfl
def le_k56:CL:=([4,6],0)::le_k47
def le_k57:CL:=([1,52],0)::([1,47],0)::le_k56
theorem le_p2:XI le_k57 (.bool true):=λ_ _ _=>by kernel_rfl
def le_k58:CL:=([1,52],1)::([1,47],1)::le_k56
theorem le_p1:XI le_k58 (.bool true):=λ_ _ _=>by kernel_rfl
def le_k59:CL:=([1,52],(-1))::([1,47],(-1))::le_k56
theorem le_p0:XI le_k59 (.bool true):=λ_ _ _=>by kernel_rfl
def le_k60:CL:=([19,7],1)::le_k28
def le_k61:CL:=([19,9],0)::([19,8],1)::le_k60
def le_k62:CL:=([4,4],3)::le_k61
def le_k63:CL:=([1,67],0)::([1,60],0)::le_k62
theorem le_p59:XI le_k63 (.bool true):=λ_ _ _=>by kernel_rfl
def le_k64:CL:=([1,67],1)::([1,60],1)::le_k62
theorem le_p58:XI le_k64 (.bool true):=λ_ _ _=>by kernel_rfl
def le_k65:CL:=([1,67],(-1))::([1,60],(-1))::le_k62
theorem le_p57:XI le_k65 (.bool true):=λ_ _ _=>by kernel_rfl
def le_k66:CL:=([4,4],12)::le_k61
def le_k67:CL:=([1,67],0)::([1,60],0)::le_k66
theorem le_p62:XI le_k67 (.bool true):=λ_ _ _=>by kernel_rfl
def le_k68:CL:=([1,67],1)::([1,60],1)::le_k66
theorem le_p61:XI le_k68 (.bool true):=λ_ _ _=>by kernel_rfl
def le_k69:CL:=([1,67],(-1))::([1,60],(-1))::le_k66
theorem le_p60:XI le_k69 (.bool true):=λ_ _ _=>by kernel_rfl
def le_k70:CL:=([4,4],0)::le_k61
def le_k71:CL:=([4,5],3)::le_k70
def le_k72:CL:=([1,67],0)::([1,60],0)::le_k71
theorem le_p53:XI le_k72 (.bool true):=λ_ _ _=>by kernel_rfl
def le_k73:CL:=([1,67],1)::([1,60],1)::le_k71
theorem le_p52:XI le_k73 (.bool true):=λ_ _ _=>by kernel_rfl
def le_k74:CL:=([1,67],(-1))::([1,60],(-1))::le_k71
theorem le_p51:XI le_k74 (.bool true):=λ_ _ _=>by kernel_rfl
def le_k75:CL:=([4,5],12)::le_k70
def le_k76:CL:=([1,67],0)::([1,60],0)::le_k75
theorem le_p56:XI le_k76 (.bool true):=λ_ _ _=>by kernel_rfl
def le_k77:CL:=([1,67],1)::([1,60],1)::le_k75
theorem le_p55:XI le_k77 (.bool true):=λ_ _ _=>by kernel_rfl
def le_k78:CL:=([1,67],(-1))::([1,60],(-1))::le_k75
theorem le_p54:XI le_k78 (.bool true):=λ_ _ _=>by kernel_rfl
def le_k79:CL:=([4,5],0)::le_k70
def le_k80:CL:=([4,6],3)::le_k79
def le_k81:CL:=([1,67],0)::([1,60],0)::le_k80
theorem le_p47:XI le_k81 (.bool true):=λ_ _ _=>by kernel_rfl
def le_k82:CL:=([1,67],1)::([1,60],1)::le_k80
theorem le_p46:XI le_k82 (.bool true):=λ_ _ _=>by kernel_rfl
def le_k83:CL:=([1,67],(-1))::([1,60],(-1))::le_k80
theorem le_p45:XI le_k83 (.bool true):=λ_ _ _=>by kernel_rfl
def le_k84:CL:=([4,6],12)::le_k79
def le_k85:CL:=([1,67],0)::([1,60],0)::le_k84
theorem le_p50:XI le_k85 (.bool true):=λ_ _ _=>by kernel_rfl
def le_k86:CL:=([1,67],1)::([1,60],1)::le_k84
theorem le_p49:XI le_k86 (.bool true):=λ_ _ _=>by kernel_rfl
def le_k87:CL:=([1,67],(-1))::([1,60],(-1))::le_k84
theorem le_p48:XI le_k87 (.bool true):=λ_ _ _=>by kernel_rfl
def le_k88:CL:=([4,6],0)::le_k79
def le_k89:CL:=([1,52],0)::([1,47],0)::le_k88
theorem le_p44:XI le_k89 (.bool true):=λ_ _ _=>by kernel_rfl
def le_k90:CL:=([1,52],1)::([1,47],1)::le_k88
theorem le_p43:XI le_k90 (.bool true):=λ_ _ _=>by kernel_rfl
def le_k91:CL:=([1,52],(-1))::([1,47],(-1))::le_k88
theorem le_p42:XI le_k91 (.bool true):=λ_ _ _=>by kernel_rfl
def le_k92:CL:=([19,8],0)::le_k60
def le_k93:CL:=([4,4],3)::le_k92
def le_k94:CL:=([1,67],0)::([1,60],0)::le_k93
theorem le_p38:XI le_k94 (.bool true):=λ_ _ _=>by kernel_rfl
def le_k95:CL:=([1,67],1)::([1,60],1)::le_k93
theorem le_p37:XI le_k95 (.bool true):=λ_ _ _=>by kernel_rfl
def le_k96:CL:=([1,67],(-1))::([1,60],(-1))::le_k93
theorem le_p36:XI le_k96 (.bool true):=λ_ _ _=>by kernel_rfl
def le_k97:CL:=([4,4],12)::le_k92
def le_k98:CL:=([1,67],0)::([1,60],0)::le_k97
theorem le_p41:XI le_k98 (.bool true):=λ_ _ _=>by kernel_rfl
def le_k99:CL:=([1,67],1)::([1,60],1)::le_k97
theorem le_p40:XI le_k99 (.bool true):=λ_ _ _=>by kernel_rfl
def le_k100:CL:=([1,67],(-1))::([1,60],(-1))::le_k97
theorem le_p39:XI le_k100 (.bool true):=λ_ _ _=>by kernel_rfl
def le_k101:CL:=([4,4],0)::le_k92
def le_k102:CL:=([4,5],3)::le_k101
def le_k103:CL:=([1,67],0)::([1,60],0)::le_k102
theorem le_p32:XI le_k103 (.bool true):=λ_ _ _=>by kernel_rfl
def le_k104:CL:=([1,67],1)::([1,60],1)::le_k102
theorem le_p31:XI le_k104 (.bool true):=λ_ _ _=>by kernel_rfl
def le_k105:CL:=([1,67],(-1))::([1,60],(-1))::le_k102
theorem le_p30:XI le_k105 (.bool true):=λ_ _ _=>by kernel_rfl
def le_k106:CL:=([4,5],12)::le_k101
def le_k107:CL:=([1,67],0)::([1,60],0)::le_k106
theorem le_p35:XI le_k107 (.bool true):=λ_ _ _=>by kernel_rfl
def le_k108:CL:=([1,67],1)::([1,60],1)::le_k106
theorem le_p34:XI le_k108 (.bool true):=λ_ _ _=>by kernel_rfl
def le_k109:CL:=([1,67],(-1))::([1,60],(-1))::le_k106
theorem le_p33:XI le_k109 (.bool true):=λ_ _ _=>by kernel_rfl
def le_k110:CL:=([4,5],0)::le_k101
def le_k111:CL:=([4,6],3)::le_k110
def le_k112:CL:=([1,67],0)::([1,60],0)::le_k111
theorem le_p26:XI le_k112 (.bool true):=λ_ _ _=>by kernel_rfl
def le_k113:CL:=([1,67],1)::([1,60],1)::le_k111
theorem le_p25:XI le_k113 (.bool true):=λ_ _ _=>by kernel_rfl
def le_k114:CL:=([1,67],(-1))::([1,60],(-1))::le_k111
theorem le_p24:XI le_k114 (.bool true):=λ_ _ _=>by kernel_rfl
def le_k115:CL:=([4,6],12)::le_k110
def le_k116:CL:=([1,67],0)::([1,60],0)::le_k115
theorem le_p29:XI le_k116 (.bool true):=λ_ _ _=>by kernel_rfl
def le_k117:CL:=([1,67],1)::([1,60],1)::le_k115
theorem le_p28:XI le_k117 (.bool true):=λ_ _ _=>by kernel_rfl
def le_k118:CL:=([1,67],(-1))::([1,60],(-1))::le_k115
theorem le_p27:XI le_k118 (.bool true):=λ_ _ _=>by kernel_rfl
def le_k119:CL:=([4,6],0)::le_k110
def le_k120:CL:=([1,52],0)::([1,47],0)::le_k119
theorem le_p23:XI le_k120 (.bool true):=λ_ _ _=>by kernel_rfl
def le_k121:CL:=([1,52],1)::([1,47],1)::le_k119
theorem le_p22:XI le_k121 (.bool true):=λ_ _ _=>by kernel_rfl
def le_k122:CL:=([1,52],(-1))::([1,47],(-1))::le_k119
theorem le_p21:XI le_k122 (.bool true):=λ_ _ _=>by kernel_rfl
theorem le_law {S:Sh} {w:World} (hS:ZU S w) (l:List ByteArray):
    Calls Tryz.prog 7 [(.agg ([(.string (tx l 0)),(.string (tx l 1)),(.string (tx l 2)),(.string (tx l 3))]:List Value).toArray),(.agg ([(.string (tx l 4)),(.string (tx l 5)),(.string (tx l 6))]:List Value).toArray)].toArray w (Ret S w (λS v=>v= .bool true)):=by
 have leaf:=λcs hc (h:XI cs (.bool true))=>sym_ground symTab7_OK (K:=0) (base:=baseS l) (by kernel_rfl) (Nat.zero_le _) (by kernel_rfl) hS (λ_ _=>(.cons (.agg (cTs_mk (is:=[0,1,2,3]) (ss:=[tx l 0,tx l 1,tx l 2,tx l 3]) ⟨by kernel_rfl,by kernel_rfl,by kernel_rfl,by kernel_rfl,trivial⟩)) (.cons (.agg (cTs_mk (is:=[4,5,6]) (ss:=[tx l 4,tx l 5,tx l 6]) ⟨by kernel_rfl,by kernel_rfl,by kernel_rfl,trivial⟩)) .nil))) cs hc (r:=.bool true) h (u:=.bool true) rfl;have r21:(ZP l 21).rat=0:=by kernel_rfl
 have r41:(ZP l 41).rat=0:=by kernel_rfl
 have r40:=le_s l 40 rfl rfl;have r42:=le_s l 42 rfl rfl;have r43:=le_s l 43 rfl rfl;have r44:=le_s l 44 rfl rfl;have r45:=le_s l 45 rfl rfl;have r46:=le_s l 46 rfl rfl;have r47:=le_s l 47 rfl rfl;have r49:=le_s l 49 rfl rfl;have r50:=le_s l 50 rfl rfl;have r51:=le_s l 51 rfl rfl;have r52:=le_s l 52 rfl rfl;have r48:=le_u l 48 rfl rfl;have r53:=le_u l 53 rfl rfl;have f47:(ZP l 47).rat=(ZP l 52).rat:=by rw[r47,r46,r44,r42,r41,r52,r50,r49,r40,r43,r45,r51];simp only[Rat.zero_add,Rat.sub_eq_add_neg]
 have t48:ZI (ZP l) [8,48,53]=1:=(by kernel_rfl:ZI (ZP l) [8,48,53]=(if [(ZP l 48).txt]=[(ZP l 53).txt] then(1:Int) else 0)).trans (by rw[r48,r53,f47];exact if_pos rfl);have g52:ZI (ZP l) [1,52]=ZI (ZP l) [1,47]:=(by kernel_rfl:ZI (ZP l) [1,52]=Yy ((ZP l 52).rat).num).trans (by rw[<-f47];exact(by kernel_rfl:ZI (ZP l) [1,47]=Yy ((ZP l 47).rat).num).symm);have r54:=le_s l 54 rfl rfl;have r55:=le_s l 55 rfl rfl;have r56:=le_s l 56 rfl rfl;have r57:=le_s l 57 rfl rfl;have r58:=le_s l 58 rfl rfl;have r59:=le_s l 59 rfl rfl;have r60:=le_s l 60 rfl rfl;have r62:=le_s l 62 rfl rfl;have r63:=le_s l 63 rfl rfl;have r64:=le_s l 64 rfl rfl;have r65:=le_s l 65 rfl rfl;have r66:=le_s l 66 rfl rfl;have r67:=le_s l 67 rfl rfl;have r61:=le_u l 61 rfl rfl;have r68:=le_u l 68 rfl rfl;have f60:(ZP l 60).rat=(ZP l 67).rat:=by rw[r60,r59,r57,r55,r54,r56,r58,r41,r67,r66,r64,r62,r63,r65,r21,r51];simp only[Rat.zero_add,Rat.sub_eq_add_neg]
 have t61:ZI (ZP l) [8,61,68]=1:=(by kernel_rfl:ZI (ZP l) [8,61,68]=(if [(ZP l 61).txt]=[(ZP l 68).txt] then(1:Int) else 0)).trans (by rw[r61,r68,f60];exact if_pos rfl);have g67:ZI (ZP l) [1,67]=ZI (ZP l) [1,60]:=(by kernel_rfl:ZI (ZP l) [1,67]=Yy ((ZP l 67).rat).num).trans (by rw[<-f60];exact(by kernel_rfl:ZI (ZP l) [1,60]=Yy ((ZP l 60).rat).num).symm);have r11:=le_s l 11 rfl rfl;have r12:=le_s l 12 rfl rfl;have r13:=le_s l 13 rfl rfl;have r14:=le_s l 14 rfl rfl;have n0:ZI (ZP l) [9,7,8,9]=0->¬((ZP l 7).rat.num=0/\(ZP l 8).rat.num=0/\(ZP l 9).rat.num=0):=λh=>nine ((by kernel_rfl:ZI (ZP l) [9,7,8,9]=(if((ZP l 7).rat).num=0/\((ZP l 8).rat).num=0/\((ZP l 9).rat).num=0 then(1:Int) else 0)).symm.trans h);have n1:ZI (ZP l) [9,7,8,9]=1->(ZP l 7).rat.num=0/\(ZP l 8).rat.num=0/\(ZP l 9).rat.num=0:=λh=>nine1 ((by kernel_rfl:ZI (ZP l) [9,7,8,9]=(if((ZP l 7).rat).num=0/\((ZP l 8).rat).num=0/\((ZP l 9).rat).num=0 then(1:Int) else 0)).symm.trans h);have n2:ZI (ZP l) [9,7,8,9]=0->ZI (ZP l) [9,11,12,13]=0:=λh=>(by kernel_rfl:ZI (ZP l) [9,11,12,13]=(if((ZP l 11).rat).num=0/\((ZP l 12).rat).num=0/\((ZP l 13).rat).num=0 then(1:Int) else 0)).trans (by rw[r11,r12,r13];exact if_neg (nz3.2 (pn_nz (nz3.1 (n0 h)))));have z0:ZI (ZP l) [19,7]=1->(ZP l 7).rat.num=0:=λh=>abs1 ((by kernel_rfl:ZI (ZP l) [19,7]=(if(ZP l 7).rat.num.natAbs=0 then(1:Int) else 0)).symm.trans h);have z1:ZI (ZP l) [19,8]=1->(ZP l 8).rat.num=0:=λh=>abs1 ((by kernel_rfl:ZI (ZP l) [19,8]=(if(ZP l 8).rat.num.natAbs=0 then(1:Int) else 0)).symm.trans h);have y0:(ZP l 7).rat.num=0->ZI (ZP l) [19,7]=1:=λh=>(by kernel_rfl:ZI (ZP l) [19,7]=(if(ZP l 7).rat.num.natAbs=0 then(1:Int) else 0)).trans (by rw[h];rfl);have y1:(ZP l 8).rat.num=0->ZI (ZP l) [19,8]=1:=λh=>(by kernel_rfl:ZI (ZP l) [19,8]=(if(ZP l 8).rat.num.natAbs=0 then(1:Int) else 0)).trans (by rw[h];rfl);have y2:(ZP l 9).rat.num=0->ZI (ZP l) [19,9]=1:=λh=>(by kernel_rfl:ZI (ZP l) [19,9]=(if(ZP l 9).rat.num.natAbs=0 then(1:Int) else 0)).trans (by rw[h];rfl);have y3:¬(ZP l 9).rat.num=0->ZI (ZP l) [19,9]=0:=λh=>(by kernel_rfl:ZI (ZP l) [19,9]=(if(ZP l 9).rat.num.natAbs=0 then(1:Int) else 0)).trans (if_neg (λg=>h (Int.natAbs_eq_zero.1 g)));have n30:=le_n l 30 rfl rfl;have n33:=le_n l 33 rfl rfl;have n36:=le_n l 36 rfl rfl;have n37:=le_n l 37 rfl rfl;have n38:=le_n l 38 rfl rfl;have n39:=le_n l 39 rfl rfl;have b0:(ZP l 27).abs=(ZP l 11).abs:=by rw[le_n l 27 rfl rfl,le_z l 26 rfl rfl,r11,le_b l 11 rfl rfl]
 have b1:(ZP l 29).abs=(ZP l 12).abs:=by rw[le_n l 29 rfl rfl,le_z l 28 rfl rfl,r12,le_b l 12 rfl rfl]
 have b2:(ZP l 32).abs=(ZP l 13).abs:=by rw[le_n l 32 rfl rfl,le_z l 31 rfl rfl,r13,le_b l 13 rfl rfl]
 have b3:(ZP l 35).abs=(ZP l 14).abs:=by rw[le_n l 35 rfl rfl,le_z l 34 rfl rfl,r14,le_b l 14 rfl rfl]
 have s21:ZI (ZP l) [21,36,39]=1:=(by kernel_rfl:ZI (ZP l) [21,36,39]=(if((Zs (ZP l 36).abs:Nat):Int)=((Zs (ZP l 39).abs:Nat):Int) then(1:Int) else 0)).trans (if_same (by rw[n36,n33,n30,n39,n38,n37,b0,b1,b2,b3]));have h0:ZI (ZP l) [8,22,23,24,25,22,23,24,25]=1:=(by kernel_rfl:ZI (ZP l) [8,22,23,24,25,22,23,24,25]=(if [(ZP l 22).txt,(ZP l 23).txt,(ZP l 24).txt,(ZP l 25).txt]=[(ZP l 22).txt,(ZP l 23).txt,(ZP l 24).txt,(ZP l 25).txt] then(1:Int) else 0)).trans (if_pos rfl);have h1:ZI (ZP l) [8,22,23,24,22,23,24]=1:=(by kernel_rfl:ZI (ZP l) [8,22,23,24,22,23,24]=(if [(ZP l 22).txt,(ZP l 23).txt,(ZP l 24).txt]=[(ZP l 22).txt,(ZP l 23).txt,(ZP l 24).txt] then(1:Int) else 0)).trans (if_pos rfl);have h2:ZI (ZP l) [8,25,25]=1:=(by kernel_rfl:ZI (ZP l) [8,25,25]=(if [(ZP l 25).txt]=[(ZP l 25).txt] then(1:Int) else 0)).trans (if_pos rfl);have h3:ZI (ZP l) [23,27,29,30]=1:=(by kernel_rfl:ZI (ZP l) [23,27,29,30]=(if max ((Zs (ZP l 27).abs:Nat):Int) ((Zs (ZP l 29).abs:Nat):Int)=((Zs (ZP l 30).abs:Nat):Int) then(1:Int) else 0)).trans (if_max _ _ n30);have h4:ZI (ZP l) [23,30,32,33]=1:=(by kernel_rfl:ZI (ZP l) [23,30,32,33]=(if max ((Zs (ZP l 30).abs:Nat):Int) ((Zs (ZP l 32).abs:Nat):Int)=((Zs (ZP l 33).abs:Nat):Int) then(1:Int) else 0)).trans (if_max _ _ n33);have h5:ZI (ZP l) [23,33,35,36]=1:=(by kernel_rfl:ZI (ZP l) [23,33,35,36]=(if max ((Zs (ZP l 33).abs:Nat):Int) ((Zs (ZP l 35).abs:Nat):Int)=((Zs (ZP l 36).abs:Nat):Int) then(1:Int) else 0)).trans (if_max _ _ n36);have h6:ZI (ZP l) [23,11,12,37]=1:=(by kernel_rfl:ZI (ZP l) [23,11,12,37]=(if max ((Zs (ZP l 11).abs:Nat):Int) ((Zs (ZP l 12).abs:Nat):Int)=((Zs (ZP l 37).abs:Nat):Int) then(1:Int) else 0)).trans (if_max _ _ n37);have h7:ZI (ZP l) [23,37,13,38]=1:=(by kernel_rfl:ZI (ZP l) [23,37,13,38]=(if max ((Zs (ZP l 37).abs:Nat):Int) ((Zs (ZP l 13).abs:Nat):Int)=((Zs (ZP l 38).abs:Nat):Int) then(1:Int) else 0)).trans (if_max _ _ n38);have h8:ZI (ZP l) [23,38,14,39]=1:=(by kernel_rfl:ZI (ZP l) [23,38,14,39]=(if max ((Zs (ZP l 38).abs:Nat):Int) ((Zs (ZP l 14).abs:Nat):Int)=((Zs (ZP l 39).abs:Nat):Int) then(1:Int) else 0)).trans (if_max _ _ n39);have h9:ZI (ZP l) [21,36,39]=1:=s21;have h10:ZI (ZP l) [8,48,53]=1:=t48;have h11:ZI (ZP l) [8,61,68]=1:=t61;have h12:ZI (ZP l) [9,41,41,41]=1:=by kernel_rfl
 have H0:Csl (ZP l) le_k0:=.cons h12 (.cons h11 (.cons h10 (.cons h9 (.cons h8 (.cons h7 (.cons h6 (.cons h5 (.cons h4 (.cons h3 (.cons h2 (.cons h1 (.cons h0 .nil))))))))))));rcases Zf1 (ZP l) (t:=12) (is:=[0]) (by decide) with h13|h13;rotate_left
 exact leaf le_k1 (.cons h13 H0) le_p78;have H2:Csl (ZP l) le_k2:=.cons h13 H0;rcases Zf1 (ZP l) (t:=12) (is:=[1]) (by decide) with h14|h14;rotate_left
 exact leaf le_k3 (.cons h14 H2) le_p77;have H4:Csl (ZP l) le_k4:=.cons h14 H2;rcases Zf1 (ZP l) (t:=12) (is:=[2]) (by decide) with h15|h15;rotate_left
 exact leaf le_k5 (.cons h15 H4) le_p76;have H6:Csl (ZP l) le_k6:=.cons h15 H4;rcases Zf1 (ZP l) (t:=12) (is:=[3]) (by decide) with h16|h16;rotate_left
 exact leaf le_k7 (.cons h16 H6) le_p75;have H8:Csl (ZP l) le_k8:=.cons h16 H6;rcases Zf1 (ZP l) (t:=12) (is:=[4]) (by decide) with h17|h17;rotate_left
 exact leaf le_k9 (.cons h17 H8) le_p74;have H10:Csl (ZP l) le_k10:=.cons h17 H8;rcases Zf1 (ZP l) (t:=12) (is:=[5]) (by decide) with h18|h18;rotate_left
 exact leaf le_k11 (.cons h18 H10) le_p73;have H12:Csl (ZP l) le_k12:=.cons h18 H10;rcases Zf1 (ZP l) (t:=12) (is:=[6]) (by decide) with h19|h19;rotate_left
 exact leaf le_k13 (.cons h19 H12) le_p72;have H14:Csl (ZP l) le_k14:=.cons h19 H12;rcases waysF (ZP l) (t:=4) (is:=[0]) (by decide) with h20|h20|h20;rotate_left
 exact leaf le_k15 (.cons h20 H14) le_p70;exact leaf le_k16 (.cons h20 H14) le_p71;have H17:Csl (ZP l) le_k17:=.cons h20 H14;rcases waysF (ZP l) (t:=4) (is:=[1]) (by decide) with h21|h21|h21;rotate_left
 exact leaf le_k18 (.cons h21 H17) le_p68;exact leaf le_k19 (.cons h21 H17) le_p69;have H20:Csl (ZP l) le_k20:=.cons h21 H17;rcases waysF (ZP l) (t:=4) (is:=[2]) (by decide) with h22|h22|h22;rotate_left
 exact leaf le_k21 (.cons h22 H20) le_p66;exact leaf le_k22 (.cons h22 H20) le_p67;have H23:Csl (ZP l) le_k23:=.cons h22 H20;rcases waysF (ZP l) (t:=4) (is:=[3]) (by decide) with h23|h23|h23;rotate_left
 exact leaf le_k24 (.cons h23 H23) le_p64;exact leaf le_k25 (.cons h23 H23) le_p65;have H26:Csl (ZP l) le_k26:=.cons h23 H23;rcases Zf1 (ZP l) (t:=9) (is:=[7,8,9]) (by decide) with h24|h24;rotate_left
 have h25:ZI (ZP l) [19,7]=1:=y0 (n1 h24).1;have h26:ZI (ZP l) [19,8]=1:=y1 (n1 h24).2.1;have h27:ZI (ZP l) [19,9]=1:=y2 (n1 h24).2.2;exact leaf le_k27 (.cons h27 (.cons h26 (.cons h25 (.cons h24 H26)))) le_p63;have h28:ZI (ZP l) [9,11,12,13]=0:=n2 h24;have H28:Csl (ZP l) le_k28:=.cons h28 (.cons h24 H26);rcases Zf1 (ZP l) (t:=19) (is:=[7]) (by decide) with h29|h29
 · have H29:Csl (ZP l) le_k29:=.cons h29 H28
   rcases waysF (ZP l) (t:=4) (is:=[4]) (by decide) with h30|h30|h30;rotate_left
   · have H30:Csl (ZP l) le_k30:=.cons h30 H29
     rcases XX (ZP l) (t:=1) (is:=[60]) (by decide) with h31|h31|h31;rotate_left
     · have h32:ZI (ZP l) [1,67]=0:=g67.trans h31
       exact leaf le_k31 (.cons h32 (.cons h31 H30)) le_p17
     · have h33:ZI (ZP l) [1,67]=1:=g67.trans h31
       exact leaf le_k32 (.cons h33 (.cons h31 H30)) le_p16
     have h34:ZI (ZP l) [1,67]= -1:=g67.trans h31
     exact leaf le_k33 (.cons h34 (.cons h31 H30)) le_p15
   · have H34:Csl (ZP l) le_k34:=.cons h30 H29
     rcases XX (ZP l) (t:=1) (is:=[60]) (by decide) with h35|h35|h35;rotate_left
     · have h36:ZI (ZP l) [1,67]=0:=g67.trans h35
       exact leaf le_k35 (.cons h36 (.cons h35 H34)) le_p20
     · have h37:ZI (ZP l) [1,67]=1:=g67.trans h35
       exact leaf le_k36 (.cons h37 (.cons h35 H34)) le_p19
     have h38:ZI (ZP l) [1,67]= -1:=g67.trans h35
     exact leaf le_k37 (.cons h38 (.cons h35 H34)) le_p18
   have H38:Csl (ZP l) le_k38:=.cons h30 H29
   rcases waysF (ZP l) (t:=4) (is:=[5]) (by decide) with h39|h39|h39;rotate_left
   · have H39:Csl (ZP l) le_k39:=.cons h39 H38
     rcases XX (ZP l) (t:=1) (is:=[60]) (by decide) with h40|h40|h40;rotate_left
     · have h41:ZI (ZP l) [1,67]=0:=g67.trans h40
       exact leaf le_k40 (.cons h41 (.cons h40 H39)) le_p11
     · have h42:ZI (ZP l) [1,67]=1:=g67.trans h40
       exact leaf le_k41 (.cons h42 (.cons h40 H39)) le_p10
     have h43:ZI (ZP l) [1,67]= -1:=g67.trans h40
     exact leaf le_k42 (.cons h43 (.cons h40 H39)) le_p9
   · have H43:Csl (ZP l) le_k43:=.cons h39 H38
     rcases XX (ZP l) (t:=1) (is:=[60]) (by decide) with h44|h44|h44;rotate_left
     · have h45:ZI (ZP l) [1,67]=0:=g67.trans h44
       exact leaf le_k44 (.cons h45 (.cons h44 H43)) le_p14
     · have h46:ZI (ZP l) [1,67]=1:=g67.trans h44
       exact leaf le_k45 (.cons h46 (.cons h44 H43)) le_p13
     have h47:ZI (ZP l) [1,67]= -1:=g67.trans h44
     exact leaf le_k46 (.cons h47 (.cons h44 H43)) le_p12
   have H47:Csl (ZP l) le_k47:=.cons h39 H38
   rcases waysF (ZP l) (t:=4) (is:=[6]) (by decide) with h48|h48|h48;rotate_left
   · have H48:Csl (ZP l) le_k48:=.cons h48 H47
     rcases XX (ZP l) (t:=1) (is:=[60]) (by decide) with h49|h49|h49;rotate_left
     · have h50:ZI (ZP l) [1,67]=0:=g67.trans h49
       exact leaf le_k49 (.cons h50 (.cons h49 H48)) le_p5
     · have h51:ZI (ZP l) [1,67]=1:=g67.trans h49
       exact leaf le_k50 (.cons h51 (.cons h49 H48)) le_p4
     have h52:ZI (ZP l) [1,67]= -1:=g67.trans h49
     exact leaf le_k51 (.cons h52 (.cons h49 H48)) le_p3
   · have H52:Csl (ZP l) le_k52:=.cons h48 H47
     rcases XX (ZP l) (t:=1) (is:=[60]) (by decide) with h53|h53|h53;rotate_left
     · have h54:ZI (ZP l) [1,67]=0:=g67.trans h53
       exact leaf le_k53 (.cons h54 (.cons h53 H52)) le_p8
     · have h55:ZI (ZP l) [1,67]=1:=g67.trans h53
       exact leaf le_k54 (.cons h55 (.cons h53 H52)) le_p7
     have h56:ZI (ZP l) [1,67]= -1:=g67.trans h53
     exact leaf le_k55 (.cons h56 (.cons h53 H52)) le_p6
   have H56:Csl (ZP l) le_k56:=.cons h48 H47
   rcases XX (ZP l) (t:=1) (is:=[47]) (by decide) with h57|h57|h57;rotate_left
   · have h58:ZI (ZP l) [1,52]=0:=g52.trans h57
     exact leaf le_k57 (.cons h58 (.cons h57 H56)) le_p2
   · have h59:ZI (ZP l) [1,52]=1:=g52.trans h57
     exact leaf le_k58 (.cons h59 (.cons h57 H56)) le_p1
   have h60:ZI (ZP l) [1,52]= -1:=g52.trans h57
   exact leaf le_k59 (.cons h60 (.cons h57 H56)) le_p0
 have H60:Csl (ZP l) le_k60:=.cons h29 H28;rcases Zf1 (ZP l) (t:=19) (is:=[8]) (by decide) with h61|h61;rotate_left
 · have h62:ZI (ZP l) [19,9]=0:=y3 λg=>n0 h24 ⟨z0 h29,z1 h61,g⟩
   have H61:Csl (ZP l) le_k61:=.cons h62 (.cons h61 H60)
   rcases waysF (ZP l) (t:=4) (is:=[4]) (by decide) with h63|h63|h63;rotate_left
   · have H62:Csl (ZP l) le_k62:=.cons h63 H61
     rcases XX (ZP l) (t:=1) (is:=[60]) (by decide) with h64|h64|h64;rotate_left
     · have h65:ZI (ZP l) [1,67]=0:=g67.trans h64
       exact leaf le_k63 (.cons h65 (.cons h64 H62)) le_p59
     · have h66:ZI (ZP l) [1,67]=1:=g67.trans h64
       exact leaf le_k64 (.cons h66 (.cons h64 H62)) le_p58
     have h67:ZI (ZP l) [1,67]= -1:=g67.trans h64
     exact leaf le_k65 (.cons h67 (.cons h64 H62)) le_p57
   · have H66:Csl (ZP l) le_k66:=.cons h63 H61
     rcases XX (ZP l) (t:=1) (is:=[60]) (by decide) with h68|h68|h68;rotate_left
     · have h69:ZI (ZP l) [1,67]=0:=g67.trans h68
       exact leaf le_k67 (.cons h69 (.cons h68 H66)) le_p62
     · have h70:ZI (ZP l) [1,67]=1:=g67.trans h68
       exact leaf le_k68 (.cons h70 (.cons h68 H66)) le_p61
     have h71:ZI (ZP l) [1,67]= -1:=g67.trans h68
     exact leaf le_k69 (.cons h71 (.cons h68 H66)) le_p60
   have H70:Csl (ZP l) le_k70:=.cons h63 H61
   rcases waysF (ZP l) (t:=4) (is:=[5]) (by decide) with h72|h72|h72;rotate_left
   · have H71:Csl (ZP l) le_k71:=.cons h72 H70
     rcases XX (ZP l) (t:=1) (is:=[60]) (by decide) with h73|h73|h73;rotate_left
     · have h74:ZI (ZP l) [1,67]=0:=g67.trans h73
       exact leaf le_k72 (.cons h74 (.cons h73 H71)) le_p53
     · have h75:ZI (ZP l) [1,67]=1:=g67.trans h73
       exact leaf le_k73 (.cons h75 (.cons h73 H71)) le_p52
     have h76:ZI (ZP l) [1,67]= -1:=g67.trans h73
     exact leaf le_k74 (.cons h76 (.cons h73 H71)) le_p51
   · have H75:Csl (ZP l) le_k75:=.cons h72 H70
     rcases XX (ZP l) (t:=1) (is:=[60]) (by decide) with h77|h77|h77;rotate_left
     · have h78:ZI (ZP l) [1,67]=0:=g67.trans h77
       exact leaf le_k76 (.cons h78 (.cons h77 H75)) le_p56
     · have h79:ZI (ZP l) [1,67]=1:=g67.trans h77
       exact leaf le_k77 (.cons h79 (.cons h77 H75)) le_p55
     have h80:ZI (ZP l) [1,67]= -1:=g67.trans h77
     exact leaf le_k78 (.cons h80 (.cons h77 H75)) le_p54
   have H79:Csl (ZP l) le_k79:=.cons h72 H70
   rcases waysF (ZP l) (t:=4) (is:=[6]) (by decide) with h81|h81|h81;rotate_left
   · have H80:Csl (ZP l) le_k80:=.cons h81 H79
     rcases XX (ZP l) (t:=1) (is:=[60]) (by decide) with h82|h82|h82;rotate_left
     · have h83:ZI (ZP l) [1,67]=0:=g67.trans h82
       exact leaf le_k81 (.cons h83 (.cons h82 H80)) le_p47
     · have h84:ZI (ZP l) [1,67]=1:=g67.trans h82
       exact leaf le_k82 (.cons h84 (.cons h82 H80)) le_p46
     have h85:ZI (ZP l) [1,67]= -1:=g67.trans h82
     exact leaf le_k83 (.cons h85 (.cons h82 H80)) le_p45
   · have H84:Csl (ZP l) le_k84:=.cons h81 H79
     rcases XX (ZP l) (t:=1) (is:=[60]) (by decide) with h86|h86|h86;rotate_left
     · have h87:ZI (ZP l) [1,67]=0:=g67.trans h86
       exact leaf le_k85 (.cons h87 (.cons h86 H84)) le_p50
     · have h88:ZI (ZP l) [1,67]=1:=g67.trans h86
       exact leaf le_k86 (.cons h88 (.cons h86 H84)) le_p49
     have h89:ZI (ZP l) [1,67]= -1:=g67.trans h86
     exact leaf le_k87 (.cons h89 (.cons h86 H84)) le_p48
   have H88:Csl (ZP l) le_k88:=.cons h81 H79
   rcases XX (ZP l) (t:=1) (is:=[47]) (by decide) with h90|h90|h90;rotate_left
   · have h91:ZI (ZP l) [1,52]=0:=g52.trans h90
     exact leaf le_k89 (.cons h91 (.cons h90 H88)) le_p44
   · have h92:ZI (ZP l) [1,52]=1:=g52.trans h90
     exact leaf le_k90 (.cons h92 (.cons h90 H88)) le_p43
   have h93:ZI (ZP l) [1,52]= -1:=g52.trans h90
   exact leaf le_k91 (.cons h93 (.cons h90 H88)) le_p42
 have H92:Csl (ZP l) le_k92:=.cons h61 H60;rcases waysF (ZP l) (t:=4) (is:=[4]) (by decide) with h94|h94|h94;rotate_left
 · have H93:Csl (ZP l) le_k93:=.cons h94 H92
   rcases XX (ZP l) (t:=1) (is:=[60]) (by decide) with h95|h95|h95;rotate_left
   · have h96:ZI (ZP l) [1,67]=0:=g67.trans h95
     exact leaf le_k94 (.cons h96 (.cons h95 H93)) le_p38
   · have h97:ZI (ZP l) [1,67]=1:=g67.trans h95
     exact leaf le_k95 (.cons h97 (.cons h95 H93)) le_p37
   have h98:ZI (ZP l) [1,67]= -1:=g67.trans h95
   exact leaf le_k96 (.cons h98 (.cons h95 H93)) le_p36
 · have H97:Csl (ZP l) le_k97:=.cons h94 H92
   rcases XX (ZP l) (t:=1) (is:=[60]) (by decide) with h99|h99|h99;rotate_left
   · have h100:ZI (ZP l) [1,67]=0:=g67.trans h99
     exact leaf le_k98 (.cons h100 (.cons h99 H97)) le_p41
   · have h101:ZI (ZP l) [1,67]=1:=g67.trans h99
     exact leaf le_k99 (.cons h101 (.cons h99 H97)) le_p40
   have h102:ZI (ZP l) [1,67]= -1:=g67.trans h99
   exact leaf le_k100 (.cons h102 (.cons h99 H97)) le_p39
 have H101:Csl (ZP l) le_k101:=.cons h94 H92;rcases waysF (ZP l) (t:=4) (is:=[5]) (by decide) with h103|h103|h103;rotate_left
 · have H102:Csl (ZP l) le_k102:=.cons h103 H101
   rcases XX (ZP l) (t:=1) (is:=[60]) (by decide) with h104|h104|h104;rotate_left
   · have h105:ZI (ZP l) [1,67]=0:=g67.trans h104
     exact leaf le_k103 (.cons h105 (.cons h104 H102)) le_p32
   · have h106:ZI (ZP l) [1,67]=1:=g67.trans h104
     exact leaf le_k104 (.cons h106 (.cons h104 H102)) le_p31
   have h107:ZI (ZP l) [1,67]= -1:=g67.trans h104
   exact leaf le_k105 (.cons h107 (.cons h104 H102)) le_p30
 · have H106:Csl (ZP l) le_k106:=.cons h103 H101
   rcases XX (ZP l) (t:=1) (is:=[60]) (by decide) with h108|h108|h108;rotate_left
   · have h109:ZI (ZP l) [1,67]=0:=g67.trans h108
     exact leaf le_k107 (.cons h109 (.cons h108 H106)) le_p35
   · have h110:ZI (ZP l) [1,67]=1:=g67.trans h108
     exact leaf le_k108 (.cons h110 (.cons h108 H106)) le_p34
   have h111:ZI (ZP l) [1,67]= -1:=g67.trans h108
   exact leaf le_k109 (.cons h111 (.cons h108 H106)) le_p33
 have H110:Csl (ZP l) le_k110:=.cons h103 H101;rcases waysF (ZP l) (t:=4) (is:=[6]) (by decide) with h112|h112|h112;rotate_left
 · have H111:Csl (ZP l) le_k111:=.cons h112 H110
   rcases XX (ZP l) (t:=1) (is:=[60]) (by decide) with h113|h113|h113;rotate_left
   · have h114:ZI (ZP l) [1,67]=0:=g67.trans h113
     exact leaf le_k112 (.cons h114 (.cons h113 H111)) le_p26
   · have h115:ZI (ZP l) [1,67]=1:=g67.trans h113
     exact leaf le_k113 (.cons h115 (.cons h113 H111)) le_p25
   have h116:ZI (ZP l) [1,67]= -1:=g67.trans h113
   exact leaf le_k114 (.cons h116 (.cons h113 H111)) le_p24
 · have H115:Csl (ZP l) le_k115:=.cons h112 H110
   rcases XX (ZP l) (t:=1) (is:=[60]) (by decide) with h117|h117|h117;rotate_left
   · have h118:ZI (ZP l) [1,67]=0:=g67.trans h117
     exact leaf le_k116 (.cons h118 (.cons h117 H115)) le_p29
   · have h119:ZI (ZP l) [1,67]=1:=g67.trans h117
     exact leaf le_k117 (.cons h119 (.cons h117 H115)) le_p28
   have h120:ZI (ZP l) [1,67]= -1:=g67.trans h117
   exact leaf le_k118 (.cons h120 (.cons h117 H115)) le_p27
 have H119:Csl (ZP l) le_k119:=.cons h112 H110;rcases XX (ZP l) (t:=1) (is:=[47]) (by decide) with h121|h121|h121;rotate_left
 have h122:ZI (ZP l) [1,52]=0:=g52.trans h121;exact leaf le_k120 (.cons h122 (.cons h121 H119)) le_p23;have h123:ZI (ZP l) [1,52]=1:=g52.trans h121;exact leaf le_k121 (.cons h123 (.cons h121 H119)) le_p22;have h124:ZI (ZP l) [1,52]= -1:=g52.trans h121;exact leaf le_k122 (.cons h124 (.cons h121 H119)) le_p21
theorem claw05_PlaneReads {S:Sh} {w:World} (hS:ZU S w) {x0 x1 x2 x3 x4 x5 x6:ByteArray}:
    Calls Tryz.prog 7 [(.agg ([(.string x0),(.string x1),(.string x2),(.string x3)]:List Value).toArray),(.agg ([(.string x4),(.string x5),(.string x6)]:List Value).toArray)].toArray w (Ret S w (λS v=>v= .bool true)):=le_law hS [x0,x1,x2,x3,x4,x5,x6]
end
end Go.Cham
namespace Go.Cham
open Go Go.RowKit Go.ChangeShapes Go.WideShapes Go.ChangeAt Go.Joins Go.Deep
section
variable {H : Type} {enc : TypeId × Value → H} {P : Program}
theorem open_strs4 {W:World} {base b0:Nat} {r:Reach} {spare:Nat->Bool} {held:Bool} {t ts:TypeId} {f0 f1 f2 f3:Field} {v:Value} {d:DataW H} {p:List MemPlace} (hs:P.underlying t=some (.struct #[f0,f1,f2,f3])) (hone:oneCellFields P #[f0,f1,f2,f3]=true) (hC:P.cellsOf t=4)
    (hts:P.underlying ts=some .string) (h0:f0.type=ts) (h1:f1.type=ts) (h2:f2.type=ts) (h3:f3.type=ts) (hv:Value.okWide P W r b0 t v) (h:DataW.Trod enc P W base spare held t v d p):
    ∃s0 s1 s2 s3:ByteArray,v= .agg ([(.string s0),(.string s1),(.string s2),(.string s3)]:List Value).toArray/\p=[]/\∀(W':World) (base':Nat) (sp:Nat->Bool) (hd:Bool),DataW.Trod enc P W' base' sp hd t v d []:=by
 obtain⟨v0,v1,v2,v3,y0,y1,y2,y3,n,rfl,rfl,rfl,t0,t1,t2,t3⟩:=open_agg4 hs hone hC hv h;obtain⟨s0,e0,rfl,z0⟩:=DataW.trod_string (by rw[h0];exact hts) t0;obtain⟨s1,e1,rfl,z1⟩:=DataW.trod_string (by rw[h1];exact hts) t1;obtain⟨s2,e2,rfl,z2⟩:=DataW.trod_string (by rw[h2];exact hts) t2;obtain⟨s3,e3,rfl,z3⟩:=DataW.trod_string (by rw[h3];exact hts) t3;cases e0;cases e1;cases e2;cases e3;exact⟨s0,s1,s2,s3,rfl,rfl,λW' base' sp hd=>shut_agg4 (y0:=(_,[])) (y1:=(_,[])) (y2:=(_,[])) (y3:=(_,[])) hs hone hC ⟨1,by simp[DataW.trod,h0,hts,z0]⟩ ⟨1,by simp[DataW.trod,h1,hts,z1]⟩ ⟨1,by simp[DataW.trod,h2,hts,z2]⟩ ⟨1,by simp[DataW.trod,h3,hts,z3]⟩⟩
theorem open_strs3 {W:World} {base b0:Nat} {r:Reach} {spare:Nat->Bool} {held:Bool} {t ts:TypeId} {f0 f1 f2:Field} {v:Value} {d:DataW H} {p:List MemPlace} (hs:P.underlying t=some (.struct #[f0,f1,f2])) (hone:oneCellFields P #[f0,f1,f2]=true) (hC:P.cellsOf t=3)
    (hts:P.underlying ts=some .string) (h0:f0.type=ts) (h1:f1.type=ts) (h2:f2.type=ts) (hv:Value.okWide P W r b0 t v) (h:DataW.Trod enc P W base spare held t v d p):
    ∃s0 s1 s2:ByteArray,v= .agg ([(.string s0),(.string s1),(.string s2)]:List Value).toArray/\p=[]/\∀(W':World) (base':Nat) (sp:Nat->Bool) (hd:Bool),DataW.Trod enc P W' base' sp hd t v d []:=by
 obtain⟨v0,v1,v2,y0,y1,y2,n,rfl,rfl,rfl,t0,t1,t2⟩:=open_agg3 hs hone hC hv h;obtain⟨s0,e0,rfl,z0⟩:=DataW.trod_string (by rw[h0];exact hts) t0;obtain⟨s1,e1,rfl,z1⟩:=DataW.trod_string (by rw[h1];exact hts) t1;obtain⟨s2,e2,rfl,z2⟩:=DataW.trod_string (by rw[h2];exact hts) t2;cases e0;cases e1;cases e2;exact⟨s0,s1,s2,rfl,rfl,λW' base' sp hd=>shut_agg3 (y0:=(_,[])) (y1:=(_,[])) (y2:=(_,[])) hs hone hC ⟨1,by simp[DataW.trod,h0,hts,z0]⟩ ⟨1,by simp[DataW.trod,h1,hts,z1]⟩ ⟨1,by simp[DataW.trod,h2,hts,z2]⟩⟩
theorem post_kept {f:Func} {s:ChangeSpec} {apart fresh handsOn:Bool} {W W':World} {args:Array Value} {v:Value} {ds gs:List (DataW H)} (hW:DataW.Whole enc P f.params.toList s.vars apart W args.toList ds gs [])
    (hres:∀(b:Nat) (sp:Nat->Bool) (hd:Bool),DataW.TrodAll enc P W' b sp hd f.resultTypes.toList (v.resultList f.resultTypes.size) (s.fn H (ds++gs)).results [])
    (hargs:∀sp:Nat->Bool,DataW.TrodAll enc P W' 0 sp true f.params.toList args.toList (s.fn H (ds++gs)).args [])
    (hvars:∀sp:Nat->Bool,DataW.TrodVars enc P W' sp s.vars (s.fn H (ds++gs)).vars []) (hb:Below W.heap.size W W'):
    s.post enc P f apart fresh handsOn false W args v W':=
  ⟨ds,gs,[],[],[],[],hW,hres _ _ _,hargs _,hvars _,Below.frame hb _,λe=>by cases e⟩
end
end Go.Cham
