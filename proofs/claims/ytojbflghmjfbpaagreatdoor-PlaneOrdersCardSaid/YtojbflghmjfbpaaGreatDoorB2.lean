/- YtojbflghmjfbpaaGreatDoorB2, a part of the proof that the claim's law answers true for every input. No condition beyond the statements' own. -/
import Derived.Test.YtojbflghmjfbpaaGreatDoorB1
import Derived.Test.YtojbflghmjfbpaaGreatDoorProg
set_option maxRecDepth 100000
noncomputable section
namespace Go.Cham
open Go Go.RowKit Go.Proofs Tryz
theorem XW(q:Rat):q*(q.den:Rat)=(q.num:Rat):=by
 have h:=Rat.mkRat_self q;have h0:(q.den:Rat)≠0:=by
  intro z;have:q.den=0:=by exact_mod_cast z
  exact q.den_nz this
 conv=>lhs;lhs;rw[<-h]
 rw[Rat.mkRat_eq_div];grind
def lcmf(n:Nat)(q:Rat):Nat:=n*(q.den/Nat.gcd n q.den)
theorem lcmf_eq(n:Nat)(q:Rat):lcmf n q=Nat.lcm n q.den:=by
 unfold lcmf Nat.lcm;rw[Nat.mul_div_assoc _ (Nat.gcd_dvd_right _ _)]
theorem lcmf_pos{n:Nat}{q:Rat}(h:n≠0):lcmf n q≠0:=by
 rw[lcmf_eq];exact Nat.lcm_ne_zero h q.den_nz
theorem Zc9(n:Nat)(q:Rat):n ∣ lcmf n q:=by rw[lcmf_eq];exact Nat.dvd_lcm_left _ _
theorem Zfy(n:Nat)(q:Rat):q.den ∣ lcmf n q:=by rw[lcmf_eq];exact Nat.dvd_lcm_right _ _
def pL(a b c d:Rat):Nat:=lcmf (lcmf (lcmf (lcmf 1 a) b) c) d
def pI(n:Nat)(q:Rat):Int:=q.num*((n/q.den:Nat):Int)
def pG(a b c d:Rat):Nat:=Nat.gcd (Nat.gcd (Nat.gcd (Nat.gcd 0 (pI (pL a b c d) a).natAbs) (pI (pL a b c d) b).natAbs) (pI (pL a b c d) c).natAbs) (pI (pL a b c d) d).natAbs
def sgnI(z:Int):Int:=if z<0 then -1 else 1
def pS(a b c:Int):Int:=if a≠0 then sgnI a else if b≠0 then sgnI b else sgnI c
def quoN(z:Int)(n:Nat):Int:=if z<0 then -((z.natAbs/n:Nat):Int) else((z.natAbs/n:Nat):Int)
def pnI(a b c d q:Rat):Int:=pS a.num b.num c.num*quoN (pI (pL a b c d) q) (pG a b c d)
def pn(a b c d q:Rat):Rat:=((pnI a b c d q:Int):Rat)
theorem pL_pos(a b c d:Rat):pL a b c d≠0:=lcmf_pos (lcmf_pos<|lcmf_pos<|lcmf_pos (by decide))
theorem pL_a(a b c d:Rat):a.den ∣ pL a b c d:=Nat.dvd_trans (Zfy 1 a) (Nat.dvd_trans (Zc9 _ b)<|Nat.dvd_trans (Zc9 _ c)<|Zc9 _ d)
theorem pL_b(a b c d:Rat):b.den ∣ pL a b c d:=Nat.dvd_trans (Zfy _ b) (Nat.dvd_trans (Zc9 _ c)<|Zc9 _ d)
theorem pL_c(a b c d:Rat):c.den ∣ pL a b c d:=Nat.dvd_trans (Zfy _ c) (Zc9 _ d)
theorem pL_d(a b c d:Rat):d.den ∣ pL a b c d:=Zfy _ d
theorem pI_cast{n:Nat}{q:Rat}(h:q.den ∣ n):((pI n q:Int):Rat)=q*(n:Rat):=by
 obtain⟨k,rfl⟩:=h;unfold pI;rw[Nat.mul_div_cancel_left _ q.den_pos];have h1:((q.den*k:Nat):Rat)=(q.den:Rat)*(k:Rat):=Rat.natCast_mul _ _;have h2:((q.num*((k:Nat):Int):Int):Rat)=(q.num:Rat)*(k:Rat):=Rat.intCast_mul _ _;rw[h1,h2,<-Rat.mul_assoc,XW]
theorem pI_num{n:Nat}{q:Rat}(h:q.den ∣ n):(q*(n:Rat)).num=pI n q/\(q*(n:Rat)).den=1:=by
 rw[<-pI_cast h];exact⟨rfl,rfl⟩
theorem Zfa{n:Nat}{q:Rat}(h:q.den ∣ n)(hn:n≠0):pI n q=0↔q.num=0:=by
 unfold pI;constructor;intro e;rcases Int.mul_eq_zero.1 e with e|e;exact e;exfalso;obtain⟨k,rfl⟩:=h;rw[Nat.mul_div_cancel_left _ q.den_pos] at e;have:k=0:=by omega
 subst this;exact hn (by simp);intro e;rw[e,Int.zero_mul]
theorem pI_sign{n:Nat}{q:Rat}(h:q.den ∣ n)(hn:n≠0):pI n q<0↔q.num<0:=by
 obtain⟨k,rfl⟩:=h;unfold pI;rw[Nat.mul_div_cancel_left _ q.den_pos];have hk:(0:Int)<(k:Int):=by rcases Nat.eq_zero_or_pos k with e|e;subst e;simp at hn;omega
 constructor;intro e;rcases Int.lt_or_le q.num 0 with h|h;exact h;have:=Int.mul_nonneg h (Int.le_of_lt hk);omega;intro e;exact Int.mul_neg_of_neg_of_pos e hk
theorem Zc6(a b c d:Rat):pG a b c d ∣ (pI (pL a b c d) a).natAbs/\pG a b c d ∣ (pI (pL a b c d) b).natAbs/\pG a b c d ∣ (pI (pL a b c d) c).natAbs/\pG a b c d ∣ (pI (pL a b c d) d).natAbs:=by
 unfold pG;generalize (pI (pL a b c d) a).natAbs=x,(pI (pL a b c d) b).natAbs=y,(pI (pL a b c d) c).natAbs=z,(pI (pL a b c d) d).natAbs=u;refine⟨?_,?_,?_,Nat.gcd_dvd_right _ _⟩;exact Nat.dvd_trans (Nat.gcd_dvd_left _ _)<|Nat.dvd_trans (Nat.gcd_dvd_left _ _)<|Nat.dvd_trans (Nat.gcd_dvd_left _ _)<|Nat.gcd_dvd_right _ _;exact Nat.dvd_trans (Nat.gcd_dvd_left _ _)<|Nat.dvd_trans (Nat.gcd_dvd_left _ _)<|Nat.gcd_dvd_right _ _;exact Nat.dvd_trans (Nat.gcd_dvd_left _ _)<|Nat.gcd_dvd_right _ _
theorem pG_pos{a b c d:Rat}(h:¬(a.num=0/\b.num=0/\c.num=0)):pG a b c d≠0:=by
 intro e;obtain⟨h1,h2,h3,_⟩:=Zc6 a b c d;rw[e] at h1 h2 h3;have z:=@Nat.eq_zero_of_zero_dvd;exact h ⟨(Zfa (pL_a a b c d)<|pL_pos a b c d).1 (Int.natAbs_eq_zero.1<|z h1),(Zfa (pL_b a b c d)<|pL_pos a b c d).1 (Int.natAbs_eq_zero.1<|z h2),(Zfa (pL_c a b c d)<|pL_pos a b c d).1 (Int.natAbs_eq_zero.1<|z h3)⟩
theorem Zfu{z:Int}{n:Nat}(h:n ∣ z.natAbs):quoN z n*(n:Int)=z:=by
 obtain⟨k,hk⟩:=h;unfold quoN;rcases Nat.eq_zero_or_pos n with e|e;subst e;have:z=0:=by omega
 subst this;simp;rw[hk,Nat.mul_div_cancel_left _ e];have h1:((k:Nat):Int)*(n:Int)=((n*k:Nat):Int):=by rw[Nat.mul_comm];simp
 split;rw[Int.neg_mul,h1,<-hk];omega;rw[h1,<-hk];omega
theorem quoN_abs{z:Int}{n:Nat}:(quoN z n).natAbs=z.natAbs/n:=by
 unfold quoN;split;rw[Int.natAbs_neg,Int.natAbs_natCast];rw[Int.natAbs_natCast]
theorem quoN_neg{z:Int}{n:Nat}(h:n ∣ z.natAbs)(hn:n≠0):quoN z n<0↔z<0:=by
 have e:=Zfu h;have hp:(0:Int)<(n:Int):=by omega
 constructor;intro hq;have:=Int.mul_neg_of_neg_of_pos hq hp;omega;intro hz;rcases Int.lt_or_le (quoN z n) 0 with h|h;exact h;have:=Int.mul_nonneg h (Int.le_of_lt hp);omega
structure Prim(a b c d:Int):Prop where
  one:Nat.gcd (Nat.gcd (Nat.gcd a.natAbs b.natAbs) c.natAbs) d.natAbs=1
  nz:¬(a=0/\b=0/\c=0)
  pos:0<a\/a=0/\0<b\/a=0/\b=0/\0<c
theorem gcd4_mul(n a b c d:Nat):Nat.gcd (Nat.gcd (Nat.gcd (n*a) (n*b)) (n*c)) (n*d)=n*Nat.gcd (Nat.gcd (Nat.gcd a b) c) d:=by
 rw[Nat.gcd_mul_left,Nat.gcd_mul_left,Nat.gcd_mul_left]
theorem sgn_cases(z:Int):(sgnI z= -1/\z<0)\/(sgnI z=1/\0<=z):=by unfold sgnI;split <;> omega
theorem pS_cases(a b c:Int):pS a b c= -1\/pS a b c=1:=by
 unfold pS sgnI;by_cases h1:a≠0;rw[if_pos h1];by_cases h:a<0 <;> simp[h];rw[if_neg h1];by_cases h2:b≠0;rw[if_pos h2];by_cases h:b<0 <;> simp[h];rw[if_neg h2];by_cases h:c<0 <;> simp[h]
theorem natAbs_pS(a b c z:Int):(pS a b c*z).natAbs=z.natAbs:=by
 rcases pS_cases a b c with h|h <;> rw[h] <;> simp
theorem pn_prim{a b c d:Rat}(h:¬(a.num=0/\b.num=0/\c.num=0)):Prim (pnI a b c d a) (pnI a b c d b) (pnI a b c d c) (pnI a b c d d):=by
 have hG:=pG_pos (d:=d) h;obtain⟨h1,h2,h3,h4⟩:=Zc6 a b c d;have hL:=pL_pos a b c d;have s1:=quoN_neg h1 hG;have s2:=quoN_neg h2 hG;have s3:=quoN_neg h3 hG;have e1:=Zfu h1;have e2:=Zfu h2;have e3:=Zfu h3;have z1:=Zfa (pL_a a b c d) hL;have z2:=Zfa (pL_b a b c d) hL;have z3:=Zfa (pL_c a b c d) hL;have n1:=pI_sign (pL_a a b c d) hL;have n2:=pI_sign (pL_b a b c d) hL;have n3:=pI_sign (pL_c a b c d) hL;have q1:quoN (pI (pL a b c d) a) (pG a b c d)=0↔a.num=0:=by rw[<-z1];constructor;intro e;rw[e,Int.zero_mul] at e1;exact e1.symm;intro e;rw[e] at e1;rcases Int.mul_eq_zero.1 e1 with q|q;rw[e];exact q;omega
 have q2:quoN (pI (pL a b c d) b) (pG a b c d)=0↔b.num=0:=by rw[<-z2];constructor;intro e;rw[e,Int.zero_mul] at e2;exact e2.symm;intro e;rw[e] at e2;rcases Int.mul_eq_zero.1 e2 with q|q;rw[e];exact q;omega
 have q3:quoN (pI (pL a b c d) c) (pG a b c d)=0↔c.num=0:=by rw[<-z3];constructor;intro e;rw[e,Int.zero_mul] at e3;exact e3.symm;intro e;rw[e] at e3;rcases Int.mul_eq_zero.1 e3 with q|q;rw[e];exact q;omega
 refine⟨?_,?_,?_⟩;unfold pnI;simp only[natAbs_pS,quoN_abs];have hg:pG a b c d*Nat.gcd (Nat.gcd (Nat.gcd ((pI (pL a b c d) a).natAbs/pG a b c d) ((pI (pL a b c d) b).natAbs/pG a b c d)) ((pI (pL a b c d) c).natAbs/pG a b c d)) ((pI (pL a b c d) d).natAbs/pG a b c d)=pG a b c d*1:=by
  rw[<-gcd4_mul,Nat.mul_div_cancel' h1,Nat.mul_div_cancel' h2,Nat.mul_div_cancel' h3,Nat.mul_div_cancel' h4,Nat.mul_one];conv=>rhs;unfold pG
  rw[Nat.gcd_zero_left]
 exact Nat.eq_of_mul_eq_mul_left (by omega) hg;rintro⟨r1,r2,r3⟩;unfold pnI at r1 r2 r3;have key:∀z:Int,pS a.num b.num c.num*z=0->z=0:=λz hz=>by rcases pS_cases a.num b.num c.num with e|e <;> rw[e] at hz <;> omega
 exact h ⟨q1.1 (key _ r1),q2.1 (key _ r2),q3.1 (key _ r3)⟩;unfold pnI;generalize quoN (pI (pL a b c d) a) (pG a b c d)=x at*;generalize quoN (pI (pL a b c d) b) (pG a b c d)=y at*;generalize quoN (pI (pL a b c d) c) (pG a b c d)=z at*;have n1':=s1.trans n1;have n2':=s2.trans n2;have n3':=s3.trans n3;unfold pS;by_cases ha:a.num=0;rw[if_neg (by simpa using ha)];have hx:=q1.2 ha;subst hx;by_cases hb:b.num=0;rw[if_neg (by simpa using hb)];have hy:=q2.2 hb;subst hy;have hc:c.num≠0:=λe=>h ⟨ha,hb,e⟩;have hz:z≠0:=λe=>hc<|q3.1 e;right;right;refine⟨by simp,by simp,?_⟩;rcases sgn_cases c.num with⟨e,f⟩|⟨e,f⟩ <;> rw[e] <;> omega;rw[if_pos (by simpa using hb)];have hy:y≠0:=λe=>hb<|q2.1 e;right;left;refine⟨by simp,?_⟩;rcases sgn_cases b.num with⟨e,f⟩|⟨e,f⟩ <;> rw[e] <;> omega;rw[if_pos (by simpa using ha)];have hx:x≠0:=λe=>ha<|q1.1 e;left;rcases sgn_cases a.num with⟨e,f⟩|⟨e,f⟩ <;> rw[e] <;> omega
def pF(a b c d:Rat):Rat:=(pS a.num b.num c.num:Rat)*(pL a b c d:Rat)/(pG a b c d:Rat)
theorem pn_eq{a b c d q:Rat}(h:¬(a.num=0/\b.num=0/\c.num=0))(hq:q.den ∣ pL a b c d)(hg:pG a b c d ∣ (pI (pL a b c d) q).natAbs):pn a b c d q=pF a b c d*q:=by
 have hG:=pG_pos (d:=d) h;have e:=Zfu hg;have e2:((quoN (pI (pL a b c d) q) (pG a b c d):Int):Rat)*(pG a b c d:Rat)=q*(pL a b c d:Rat):=by rw[<-pI_cast hq,<-e,Rat.intCast_mul];rw[show((quoN (quoN (pI (pL a b c d) q) (pG a b c d)*((pG a b c d:Nat):Int)) (pG a b c d):Int):Rat)=((quoN (pI (pL a b c d) q) (pG a b c d):Int):Rat) by rw[e]];rfl
 have hG':(pG a b c d:Rat)≠0:=by intro z;exact hG (by exact_mod_cast z)
 unfold pn pnI pF;rw[Rat.intCast_mul];generalize ((quoN (pI (pL a b c d) q) (pG a b c d):Int):Rat)=x at*;generalize (pG a b c d:Rat)=g at*;generalize (pL a b c d:Rat)=r at*;generalize ((pS a.num b.num c.num:Int):Rat)=s;grind
theorem num0{q:Rat}:q.num=0↔q=0:=⟨λh=>Rat.num_eq_zero.mp h,λh=>by rw[h];rfl⟩
theorem nz3{a b c:Rat}:¬(a.num=0/\b.num=0/\c.num=0)↔¬(a=0/\b=0/\c=0):=by rw[num0,num0,num0]
theorem pn_nz{a b c d:Rat}(h:¬(a=0/\b=0/\c=0)):¬(pn a b c d a=0/\pn a b c d b=0/\pn a b c d c=0):=by
 have p:=pn_prim (d:=d) (nz3.2 h);rintro⟨r1,r2,r3⟩;unfold pn at r1 r2 r3;exact p.nz ⟨by exact_mod_cast r1,by exact_mod_cast r2,by exact_mod_cast r3⟩
theorem ten19:10^19=10000000000000000000:=by decide
theorem pow19_split{i:Nat}(hi:i<=19):10^19=10^i*10^(19-i):=by rw[<-Nat.pow_add];congr 1;omega
theorem text_split{V i:Nat}(hi:i<=19):V/10^i=V/10000000000000000000*10^(19-i)+V%10000000000000000000/10^i:=by
 have h:=Nat.div_add_mod V 10000000000000000000;have hp:=pow19_split hi;rw[ten19] at hp;have hpos:0<10^i:=Nat.pow_pos (by decide);conv=>lhs;rw[<-h,hp,Nat.mul_assoc,Nat.add_comm,Nat.add_mul_div_left _ _ hpos]
 rw[<-hp,Nat.mul_comm (10^(19-i)),Nat.add_comm]
theorem text_dig{V i:Nat}(hi:i<19):V/10^i%10=V%10000000000000000000/10^i%10:=by
 rw[text_split (Nat.le_of_lt hi)];have e:10^(19-i)=10*10^(18-i):=by rw[show 19-i=(18-i)+1 by omega,Nat.pow_succ,Nat.mul_comm]
 rw[e,<-Nat.mul_assoc,Nat.mul_comm _ 10,Nat.mul_assoc,Nat.mul_add_mod]
theorem text_nz{V i:Nat}(hi:i<=19)(h:0<V/10000000000000000000\/0<V%10000000000000000000/10^i):V/10^i≠0:=by
 rw[text_split hi];have:0<10^(19-i):=Nat.pow_pos (by decide);rcases h with h|h;exact Nat.ne_of_gt<|Nat.lt_of_lt_of_le (Nat.mul_pos h this)<|Nat.le_add_right _ _;exact Nat.ne_of_gt<|Nat.lt_of_lt_of_le h<|Nat.le_add_left _ _
theorem Zao(a m i:Nat):a/10^(m+i)=a/10^m/10^i:=by rw[Nat.pow_add,Nat.div_div_eq_div_mul]
theorem text_out{a m i V rr:Nat}{o:List Nat}(hV:V=a/10^m)(hi:i<19)(ho:o=((ZL 10 a).take (m+i)).map (· +48))(hr:rr=V%10000000000000000000/10^i)(h:0<V/10000000000000000000\/0<rr):
    o++[48+rr%10]=((ZL 10 a).take (m+(i+1))).map (· +48):=by
 subst ho hr;have hz:a/10^(m+i)≠0:=by rw[Zao,<-hV];exact text_nz (by omega) h
 rw[show m+(i+1)=(m+i)+1 by omega,Zgl (by decide) _ _ hz,List.map_append,Zao,<-hV,List.map_cons,List.map_nil,text_dig (V:=V) hi,Nat.add_comm 48]
theorem text_rr{V i:Nat}:V%10000000000000000000/10^i/10=V%10000000000000000000/10^(i+1):=by rw[Nat.div_div_eq_div_mul,<-Nat.pow_succ]
theorem Zhf{a m i V:Nat}(hV:V=a/10^m)(hi:i<=19)(h:i=19\/(V/10000000000000000000=0/\V%10000000000000000000/10^i=0)):V/10000000000000000000=a/10^(m+i):=by
 rw[Zao,<-hV,text_split hi];rcases h with h|⟨h1,h2⟩;subst h;have:V%10000000000000000000/10^19=0:=Nat.div_eq_of_lt (by rw[ten19];exact Nat.mod_lt _ (by decide));rw[this];simp;rw[h1,h2];simp
theorem text_done{a m:Nat}{o:List Nat}(ha:a≠0)(h:a/10^m=0)(ho:o=((ZL 10 a).take m).map (· +48)):o=(ZL 10 a).map (· +48)/\0<o.length:=by
 rw[Zh0 (by decide) h] at ho;refine⟨ho,?_⟩;rw[ho,List.length_map,Zay (by decide) ha];simp
theorem text_fin{a:Nat}{o us:List Nat}(ha:a≠0)(ho:o=(ZL 10 a).map (· +48))(h:us=o.reverse):Xb us=txt a:=by
 unfold txt decs;rw[if_neg ha,h,ho]
theorem val_pos{d:List Nat}(hz:d.getLast? ≠some 0)(h:0<d.length):0<val W64 d:=by
 have h1:=digs_val (B:=W64) (by decide) d;rcases Nat.eq_zero_or_pos (val W64 d) with e|e;exfalso;have:=Zfp (B:=W64) (by decide) d (by intro e;subst e;simp at h) hz;have:0<W64^(d.length-1):=Nat.pow_pos (by decide);omega;exact e
theorem Zhl{ds:List Nat}{n:Nat}(hn:n<=ds.length)(h:n=0\/ds.getD (n-1) 0≠0):(ds.take n).getLast? ≠some 0:=by
 rcases Nat.eq_zero_or_pos n with e|e;subst e;simp;rcases h with h|h;omega;rw[List.getLast?_eq_getElem?];have hl:(ds.take n).length=n:=by simp;omega
 rw[hl,List.getElem?_take,if_pos (by omega)];rw[List.getD_eq_getElem?_getD,List.getElem?_eq_getElem (by omega)] at h;rw[List.getElem?_eq_getElem (by omega)];simpa using h
theorem lt_take{ds:List Nat}{n B:Nat}(h:∀e∈ds,e<B):∀e∈ds.take n,e<B:=λe he=>h e<|List.mem_of_mem_take he
structure Zid(o us:List Nat)(i:Nat):Prop where
  len:us.length=o.length
  get:∀k,k<o.length->us.getD k 0=if k<i\/o.length<=k+i then o.getD (o.length-1-k) 0 else o.getD k 0
theorem Zid.start(o:List Nat):Zid o o 0:=⟨rfl,λk hk=>by rw[if_neg (by omega)]⟩
theorem Zid.step{o us:List Nat}{i j:Nat}(h:Zid o us i)(hj:j+i+1=o.length)(hi:i<j):Zid o ((us.set i<|us.getD j 0).set j (us.getD i 0)) (i+1):=by
 refine⟨by simp[h.len],λk hk=>?_⟩;have e1:us.getD j 0=o.getD j 0:=by rw[h.get j (by omega),if_neg (by omega)]
 have e2:us.getD i 0=o.getD i 0:=by rw[h.get i (by omega),if_neg (by omega)]
 rw[e1,e2];by_cases hkj:k=j;subst hkj;rw[if_pos (by omega),YZ (by rw[List.length_set,h.len];omega)];congr 1;omega;rw[XM (by omega)];by_cases hki:k=i;subst hki;rw[if_pos (by omega),YZ (by rw[h.len];omega)];congr 1;omega;rw[XM (by omega),h.get k hk];by_cases hc:k<i\/o.length<=k+i;rw[if_pos hc,if_pos (by omega)];rw[if_neg hc,if_neg (by omega)]
theorem Zid.done{o us:List Nat}{i j:Nat}(h:Zid o us i)(hj:j+i+1=o.length)(hi:¬i<j)(hij:i<=j+1):us=o.reverse:=by
 apply List.ext_getElem (by simp[h.len]);intro k h1 h2;have hk:k<o.length:=by rw[<-h.len];exact h1
 have hg:=h.get k hk;rw[List.getD_eq_getElem?_getD,List.getElem?_eq_getElem h1] at hg;simp only[Option.getD_some] at hg;rw[hg,List.getElem_reverse];have hget:∀q,q<o.length->o.getD q 0=o[q]! :=λq hq=>by simp[List.getD_eq_getElem?_getD,List.getElem?_eq_getElem hq,hq]
 split;rw[hget _ (by omega)];simp[show o.length-1-k<o.length by omega];have:k=o.length-1-k:=by omega
 rw[hget k hk];simp only[hk,getElem!_pos];congr 1
theorem Gw.retake{b rest len cap n}{d ds:List Nat}(h:Gw (Option.some (b,rest)) len cap 1 (YD d))(hl:ds.length=d.length)(hn:n<=len):Gw (Option.some (b,YD (ds.drop n)++rest)) n cap 1 (YD<|ds.take n):=by
 have h1:=h.hl;have h2:=h.hs _ rfl;have h3:=h.hc;rw[ZN] at h1;simp only[List.length_append,ZN] at h2;refine⟨by rw[ZN,List.length_take];omega,by omega,by simp,λx hx=>?_⟩;cases hx;simp only[List.length_append,ZN,List.length_take,List.length_drop];omega
theorem digs_nil{B n:Nat}(hB:2<=B)(h:(ZL B n).length=0):n=0:=by
 have:=ZX hB n;rw[List.length_eq_zero_iff.1 h] at this;exact this.symm
theorem digs10_len{a k:Nat}(h:a<=2^k):(ZL 10 a).length<=k+1:=by
 have:=Zar h;unfold decs at this;split at this;rename_i e;rw[e,Xe];simp;simpa using this
theorem text_pos{ds:List Nat}{n V:Nat}(hn:n<=ds.length)(hz:n=0\/ds.getD (n-1) 0≠0)(h0:0<n)(hv:val W64 (ds.take n)=val W64 ds)(hV:val W64 ds=V):0<V:=by
 rw[<-hV,<-hv];exact val_pos (Zhl hn hz) (by simp;omega)
theorem text_zero{ds:List Nat}{n V:Nat}(h0:¬ 0<n)(hv:val W64 (ds.take n)=val W64 ds)(hV:val W64 ds=V):V=0:=by
 rw[<-hV,<-hv,show n=0 by omega];rfl
section
section
variable{P:Program}{a:Act}{w:World}{n:Nat}{l:List (Nat × Value)}{K:Value->World->Prop}
variable{d:Option Tmp}{ty:TypeId}{pos:String}{af:Array Edge}{g0:Option (Nat × Bool)}
theorem YO{t:TypeId}{x y:Operand}{kd:IntKind}{i:Int}{s:ByteArray}{j:Nat}(hx:ev l x=some (.string s))(hy:ev l y=some (.int kd i))(ht:P.underlying t=some .string)(hj:i=(j:Int))(h:j<s.size)(k:K (.int .u8 (((bl s).getD j 0:Nat):Int)) w)(a:Act)(hL:ZD a n l):YL P ⟨d,.index t x y,ty,pos,af,g0⟩ a w K:=by
 rw[<-bl_getD s j h] at k;refine Cu hL<|Zhy (c:=s.data.toList.getD j 0) hx hy ht ?_ ?_ k;first|omega|(constructor <;> omega)
 exact str_at ⟨h,hj⟩
end
theorem Zbh{s:ByteArray}(h:¬s=(⟨#[]⟩:ByteArray)):0<s.size:=by
 rcases Nat.eq_zero_or_pos s.size with e|e;exfalso;apply h;apply bl_inj;rw[List.length_eq_zero_iff.1 (show(bl s).length=0 by rw[YK];exact e)];rfl;exact e
theorem Zai{s:ByteArray}(h:s=(⟨#[]⟩:ByteArray)):¬wd (bl s):=by subst h;exact λh=>h.1 rfl
theorem XX{l:List Nat}(h1:1<l.length)(h:l.getD 0 0=48):¬wd l:=λhw=>by rcases hw.2.2 with q|q <;> omega
theorem Zhk{l:List Nat}{i:Nat}(hi:i<l.length)(h:l.getD i 0<48\/57<l.getD i 0):¬wd l:=λhw=>by
  have:=hw.2.1 (l.getD i 0) (by rw[List.getD_eq_getElem?_getD,List.getElem?_eq_getElem hi];simp)
  omega
theorem wd_of{l:List Nat}{i:Nat}(h0:0<l.length)(h48:l.length=1\/l.getD 0 0≠48)(hi:l.length<=i)(h:∀k,k<i->48<=l.getD k 0/\l.getD k 0<=57):wd l:=by
 refine⟨by intro e;subst e;simp at h0,λc hc=>?_,h48⟩;obtain⟨k,hk,rfl⟩:=List.getElem_of_mem hc;have:=h k (by omega);rw[List.getD_eq_getElem?_getD,List.getElem?_eq_getElem hk] at this;simpa using this
theorem dig_step{l:List Nat}{i:Nat}(h:∀k,k<i->48<=l.getD k 0/\l.getD k 0<=57)(hi:¬(l.getD i 0<48)/\¬(57<l.getD i 0)):∀k,k<i+1->48<=l.getD k 0/\l.getD k 0<=57:=λk hk=>by
  rcases Nat.lt_or_ge k i with q|q
  · exact h k q
  · have:k=i:=by omega
    subst this;omega
theorem pval_append(l m:List Nat):Xw (l++m)=Xw l*10^m.length+Xw m:=by
 unfold Xw;rw[List.reverse_append,List.map_append,Zbr,List.length_map,List.length_reverse];rw[Nat.mul_comm,Nat.add_comm]
theorem Zgh{l:List Nat}{i:Nat}(h:i<l.length):Xw (l.take (i+1))=10*Xw (l.take i)+(l.getD i 0-48):=by
 rw[List.take_succ_eq_append_getElem h,pval_snoc,List.getD_eq_getElem?_getD,List.getElem?_eq_getElem h];rfl
theorem pval_take_lt{l:List Nat}{i:Nat}(h:∀c∈l,48<=c/\c<=57):Xw (l.take i)<10^i:=by
 have h1:=pval_lt (l:=l.take i) (λc hc=>h c<|List.mem_of_mem_take hc);refine Nat.lt_of_lt_of_le h1<|Nat.pow_le_pow_right (by decide) ?_;rw[List.length_take];omega
theorem digit_at{l:List Nat}{i:Nat}(h:∀c∈l,48<=c/\c<=57)(hi:i<l.length):48<=l.getD i 0/\l.getD i 0<=57:=by
 refine h _ ?_;rw[List.getD_eq_getElem?_getD,List.getElem?_eq_getElem hi];simp
theorem pow10_le{i:Nat}(h:i<=19):10^i<=10000000000000000000:=by rw[<-ten19];exact Nat.pow_le_pow_right (by decide) h
structure ByInv(d us:List Nat)(y c0 i c:Nat):Prop where
  len:us.length=d.length
  lt:∀e∈us,e<18446744073709551616
  sum:val W64 (us.take i)+W64^i*c=val W64 (d.take i)*y+c0
  rest:∀k,i<=k->us.getD k 0=d.getD k 0
  cb:c<y
theorem ByInv.start{d:List Nat}{y c0:Nat}(h:∀e∈d,e<18446744073709551616)(hc:c0<y):ByInv d d y c0 0 c0:=⟨rfl,h,by simp[val],λ_ _=>rfl,hc⟩
theorem by_sum{A B T X x y c c' o c0:Nat}(h:A+T*c=B*y+c0)(hx:o+X*c'=x*y+c):A+T*o+T*X*c'=(B+T*x)*y+c0:=by
 have e:=congrArg (T* ·) hx;simp only[Nat.mul_add] at e;rw[Nat.add_mul,Nat.mul_assoc T x y,Nat.mul_assoc T X c'];omega
theorem ByInv.step{d us:List Nat}{y c0 i c o c':Nat}(h:ByInv d us y c0 i c)(hi:i<d.length)(hy:y<18446744073709551616)(ho:o=(us.getD i 0*y%18446744073709551616+c+0)%18446744073709551616)(hc:c'=us.getD i 0*y/18446744073709551616+(us.getD i 0*y%18446744073709551616+c+0)/18446744073709551616):ByInv d (us.set i o) y c0 (i+1) c':=by
 have hx:us.getD i 0<18446744073709551616:=ZT h.lt (by decide) _;have hsum:o+18446744073709551616*c'=us.getD i 0*y+c:=by omega
 refine⟨by simp[h.len],Zct h.lt (by omega),?_,λk hk=>?_,?_⟩;rw[Xi _ _ _ (by rw[List.length_set,h.len];omega),Zfs,YZ (by rw[h.len];omega),Xi _ _ _ hi,<-h.rest i (Nat.le_refl _),Nat.pow_succ];exact by_sum h.sum hsum;rw[XM (by omega)];exact h.rest k (by omega);have h1:us.getD i 0*y<=18446744073709551615*y:=Nat.mul_le_mul_right _ (by omega);have h2:=h.cb;omega
theorem by_lt{x y c:Nat}(hx:x<18446744073709551616)(hc:c<y):x*y/18446744073709551616+(x*y%18446744073709551616+c+0)/18446744073709551616<y:=by
 have h1:x*y<=18446744073709551615*y:=Nat.mul_le_mul_right _ (by omega);omega
theorem ByInv.done{d us:List Nat}{y c0 i c:Nat}(h:ByInv d us y c0 i c)(hi:d.length<=i)(hi2:i=d.length):val W64 us+W64^us.length*c=val W64 d*y+c0:=by
 have hs:=h.sum;rw[List.take_of_length_le (by rw[h.len];omega),List.take_of_length_le hi] at hs;rw[h.len,<-hi2];exact hs
theorem val_snoc(ds:List Nat)(c:Nat):val W64 (ds++[c])=val W64 ds+W64^ds.length*c:=by rw[Zbr];simp[val]
theorem lt_snoc{ds:List Nat}{c B:Nat}(h:∀e∈ds,e<B)(hc:c<B):∀e∈ds++[c],e<B:=by
 intro e he;rcases List.mem_append.1 he with q|q;exact h e q;simp at q;omega
theorem parse_next{l t:List Nat}{k n V c:Nat}(ht:t=l.drop k)(hV:V=Xw (l.take k))(hn:n<=t.length)(hc:c=Xw (t.take n)):V*10^n+c=Xw (l.take (k+n)):=by
 have e:l.take (k+n)=l.take k++t.take n:=by rw[ht,List.take_add]
 rw[e,pval_append,<-hV,<-hc];congr 2;rw[List.length_take];congr 1;omega
theorem Gw.same{g:Option (Nat × List Value)}{len cap:Nat}{d ds:List Nat}(h:Gw g len cap 1 (YD d))(hl:ds.length=d.length):Gw g len cap 1 (YD ds):=by
 have h1:=h.hl;rw[ZN] at h1;refine⟨by rw[ZN];omega,h.hc,h.hn,λx hx=>?_⟩;have:=h.hs x hx;simp only[List.length_append,ZN] at this ⊢;omega
end
section
theorem u32s_get0{ds:List Nat}{rest:List Value}{j:Nat}(h:j<ds.length):(YN ds++rest)[j]? =some (.int .u32 ((ds.getD j 0:Nat):Int)):=by
 have:=XH (ds:=ds) (pre:=[]) (rest:=rest) h;simpa using this
theorem Gn.rek{S:Sh}{c:Value}{n k k':Nat}(h:Gn S c n k)(hk:n<=2^k'):Gn S c n k':=⟨hk,h.2⟩
theorem Gn.toE{S:Sh}{c:Value}{n m k:Nat}(h:Gn S c n k)(e:n=m):Gn S c m k:=e▸h
theorem Zaq{n:Nat}(h:(ZL W16 n).length=0):n=0:=digs_nil (by decide) h
theorem Qu{n:Nat}(h:0<(ZL W16 n).length):n≠0:=by rintro rfl;rw[Xe] at h;simp at h
theorem Qv{n k:Nat}(h:n<=2^k):(ZL W16 n).length<=k/16+1:=by
 refine Zap (by decide)<|Nat.lt_of_le_of_lt h ?_;have e:W16^(k/16+1)=2^(16*(k/16+1)):=by rw[Nat.pow_mul]
 rw[e];exact Nat.pow_lt_pow_right (by decide) (by omega)
theorem val16_pred{n:Nat}{ds:List Nat}(h0:0<n)(hn:n<=ds.length)(h:ds.getD (n-1) 0=0):val W16 (ds.take (n-1))=val W16 (ds.take n):=Zds h0 hn h
theorem Gn.cut{S:Sh}{p:Option Addr}{len cap n k:Nat}{ds:List Nat}(h:Gd S p len cap ds)(hn:n<=len)(hz:n=0\/ds.getD (n-1) 0≠0)(hv:val W16 (ds.take n)=val W16 ds)(hk:val W16 ds<=2^k):Gn S (.slice p n cap) (val W16 ds) k:=by
 have hl:=h.hlen;refine Gn.ofGd (ds:=ds.take n) ⟨by rw[List.length_take];omega,by have:=h.hcap;omega,by have:=h.hbig;omega,λd hd=>h.hlt d<|List.mem_of_mem_take hd,λh0=>?_⟩ (Zhl (by omega) hz) hv.symm hk;obtain⟨b,off,pre,rest,e,r,q⟩:=h.row (by omega);refine⟨b,off,pre,YN (ds.drop n)++rest,e,?_,q⟩;rw[show pre++YN (ds.take n)++(YN (ds.drop n)++rest)=pre++YN ds++rest from by rw[List.append_assoc,<-u32s_split,List.append_assoc]];exact r
theorem bitlen_digs16{n:Nat}(h0:n≠0):ZC n=16*((ZL W16 n).length-1)+ZC ((ZL W16 n).getD ((ZL W16 n).length-1) 0):=by
 have hd:=Zfm (B:=W16) (by decide) h0;have hne:ZL W16 n≠[]:=by intro e';have:=ZX (B:=W16) (by decide) n;rw[e'] at this;exact h0 this.symm
 have hl:0<(ZL W16 n).length:=List.length_pos_iff.2 hne;have hv:=XQ W16 (ZL W16 n) ((ZL W16 n).length-1) (by omega);rw[ZX (by decide),YC (by omega),show(ZL W16 n).length-1+1=(ZL W16 n).length by omega,List.drop_length] at hv;simp only[val,Nat.mul_zero,Nat.add_zero] at hv;have ht:=Ze1 (B:=W16) (by decide) (Zee (by decide) n) ((ZL W16 n).length-1) (by omega);generalize (ZL W16 n).getD ((ZL W16 n).length-1) 0=t at*;generalize (ZL W16 n).length-1=m at*;obtain⟨h1,h2⟩:=Zcj hd;have hp:=Zdk hd;have e64:W16^m=2^(16*m):=by rw[Nat.pow_mul]
 rw[e64] at hv ht
 have:=Zei (n:=n) (k:=16*m+(ZC t-1)) (by
   rw[Nat.pow_add,hv]
   exact Nat.le_trans (Nat.mul_le_mul_left _ h1) (by omega)) (by
   rw[show 16*m+(ZC t-1)+1=16*m+ZC t by omega,Nat.pow_add,hv]
   have:2^(16*m)*t+2^(16*m)<=2^(16*m)*2^ZC t:=by
     rw[<-Nat.mul_succ];exact Nat.mul_le_mul_left _ h2
   omega)
 rw[this];omega
theorem bitlen_half{d:Nat}(h:0<d):ZC d=ZC (d/2)+1:=by
 obtain⟨h1,h2⟩:=Zcj (n:=d) (by omega);rcases Nat.eq_zero_or_pos (d/2) with e|e;have:d=1:=by omega
 subst this;rfl;obtain⟨h3,h4⟩:=Zcj (n:=d/2) (by omega);have hp:=Zdk (n:=d/2) (by omega);have e1:2^ZC (d/2)=2^(ZC (d/2)-1)*2:=by rw[<-Nat.pow_succ];congr 1;omega
 have e2:2^(ZC (d/2)+1)=2^ZC (d/2)*2:=Nat.pow_succ _ _;exact Zei (k:=ZC (d/2)) (by omega) (by omega)
theorem of_sum{V i r:Nat}:V+W16^i*(r%65536)+W16^(i+1)*(r/65536)=V+W16^i*r:=by
 rw[Nat.pow_succ,Nat.mul_assoc,Nat.add_assoc,<-Nat.mul_add];congr 2;exact Nat.mod_add_div r 65536
theorem of_le{i r n:Nat}(h:r*W16^i<=n):r/65536*W16^(i+1)<=n:=by
 refine Nat.le_trans ?_ h;rw[Nat.pow_succ,Nat.mul_comm (W16^i),<-Nat.mul_assoc];exact Nat.mul_le_mul_right _<|Nat.div_mul_le_self r 65536
theorem of_len{i r n:Nat}(h:r*W16^i<=n)(h0:0<r)(hn:n<18446744073709551616):i<=4:=by
 rcases Nat.lt_or_ge 4 i with q|q;exfalso;have h1:W16^4<=W16^i:=Nat.pow_le_pow_right (by decide) (by omega);have h2:W16^4=18446744073709551616:=by decide
 have h3:=Nat.mul_le_mul_right (W16^i) h0;omega;exact q
theorem of_len2{us:List Nat}{i r n:Nat}(hz:us.getLast? ≠some 0\/0<r)(hv:val W16 us+W16^i*r=n)(hi:us.length=i)(hlt:∀e∈us,e<65536)(hn:n<18446744073709551616):i<=5:=by
 rcases Nat.lt_or_ge 5 i with q|q;exfalso;have h1:W16^5<=W16^(i-1):=Nat.pow_le_pow_right (by decide) (by omega);have h2:W16^5=18446744073709551616*65536:=by decide
 have h4:W16^(i-1)<=W16^i:=Nat.pow_le_pow_right (by decide) (by omega);rcases hz with h|h;have:=Zfp (B:=W16) (by decide) us (by intro e;subst e;simp at hi;omega) h;rw[hi] at this;omega;have h3:=Nat.mul_le_mul_left (W16^i) h;omega;exact q
theorem digs16_mono{a b:Nat}(h:b<=a):(ZL W16 b).length<=(ZL W16 a).length:=Zap (by decide) (Nat.lt_of_le_of_lt h<|lt_digs_pow (by decide) a)
structure Add16(x y us:List Nat)(i c:Nat):Prop where
  len:us.length=i
  lt:∀e∈us,e<65536
  c1:c<=1
  sum:val W16 us+W16^i*c=val W16 (x.take i)+val W16 (y.take i)
theorem Add16.start{x y:List Nat}:Add16 x y [] 0 0:=⟨rfl,by simp,by omega,by simp[val]⟩
theorem take16(ds:List Nat)(i:Nat):val W16 (ds.take (i+1))=val W16 (ds.take i)+W16^i*ds.getD i 0:=by
 rcases Nat.lt_or_ge i ds.length with h|h;exact Xi _ _ _ h;rw[List.take_of_length_le (by omega),List.take_of_length_le h,Za0 h];simp
theorem val16_snoc(ds:List Nat)(c:Nat):val W16 (ds++[c])=val W16 ds+W16^ds.length*c:=by rw[Zbr];simp[val]
theorem add16_sum{A T c X Y x y o c':Nat}(h:A+T*c=X+Y)(hx:o+65536*c'=c+x+y):(A+T*o)+T*65536*c'=(X+T*x)+(Y+T*y):=by
 have e:=congrArg (T* ·) hx;simp only[Nat.mul_add] at e;rw[Nat.mul_assoc T 65536 c'];omega
theorem Add16.step{x y us:List Nat}{i c:Nat}(h:Add16 x y us i c)(hx:∀e∈x,e<65536)(hy:∀e∈y,e<65536){s:Nat}(hs:s=c+x.getD i 0+y.getD i 0):Add16 x y (us++[s%65536]) (i+1) (s/65536):=by
 have h1:=ZT hx (by decide) i;have h2:=ZT hy (by decide) i;have h3:=h.c1;refine⟨by rw[List.length_append,h.len];rfl,lt_snoc h.lt (Nat.mod_lt _ (by decide)),by omega,?_⟩;rw[val16_snoc,h.len,take16,take16,Nat.pow_succ];exact add16_sum h.sum (by omega)
theorem Add16.done{x y us:List Nat}{i:Nat}(h:Add16 x y us i 0)(hx:x.length<=i)(hy:y.length<=i):val W16 us=val W16 x+val W16 y:=by
 have:=h.sum;rw[List.take_of_length_le hx,List.take_of_length_le hy] at this;simpa using this
structure Sub16(x y us:List Nat)(i c:Nat):Prop where
  len:us.length=i
  lt:∀e∈us,e<65536
  c1:c<=1
  sum:val W16 us+val W16 (y.take i)=val W16 (x.take i)+W16^i*c
theorem Sub16.start{x y:List Nat}:Sub16 x y [] 0 0:=⟨rfl,by simp,by omega,by simp[val]⟩
theorem sub16_sum{A T c X Y x y o c':Nat}(h:A+Y=X+T*c)(hx:o+y+c=x+65536*c'):(A+T*o)+(Y+T*y)=(X+T*x)+T*65536*c':=by
 have e:=congrArg (T* ·) hx;simp only[Nat.mul_add] at e;rw[Nat.mul_assoc T 65536 c'];omega
theorem Sub16.step{x y us:List Nat}{i c:Nat}(h:Sub16 x y us i c)(hx:∀e∈x,e<65536)(hy:∀e∈y,e<65536){s:Nat}(hs:s=x.getD i 0+65536-c-y.getD i 0):Sub16 x y (us++[s%65536]) (i+1) (1-s/65536):=by
 have h1:=ZT hx (by decide) i;have h2:=ZT hy (by decide) i;have h3:=h.c1;refine⟨by rw[List.length_append,h.len];rfl,lt_snoc h.lt (Nat.mod_lt _ (by decide)),by omega,?_⟩;rw[val16_snoc,h.len,take16,take16,Nat.pow_succ];exact sub16_sum h.sum (by omega)
theorem Sub16.done{x y us:List Nat}{i c:Nat}(h:Sub16 x y us i c)(hx:x.length=i)(hle:val W16 y<=val W16 x)(hy:y.length<=i):val W16 us=val W16 x-val W16 y:=by
 have hs:=h.sum;rw[List.take_of_length_le hy,List.take_of_length_le (show x.length<=i by omega)] at hs;have hl:=Zhc (B:=W16) (by decide) us h.lt;rw[h.len] at hl;exact borrow0 hs hl hle h.c1
structure Mul16(x y us:List Nat)(i j c:Nat):Prop where
  len:us.length=x.length+y.length
  lt:∀e∈us,e<65536
  cb:c<65536
  sum:val W16 us+W16^(i+j)*c=val W16 (x.take i)*val W16 y+W16^i*(x.getD i 0*val W16 (y.take j))
  zero:∀k,i+j<=k->i+y.length<=k->us.getD k 0=0
  last:y.length<j->c=0
theorem Mul16.start{x y:List Nat}{n:Nat}(hn:n=x.length+y.length):Mul16 x y (List.replicate n 0) 0 0 0:=
  ⟨by simp[hn],by simp,by decide,by rw[val_rep0];simp[val],λk _ _=>rep_getD _ _,λh=>by omega⟩
theorem mul16_sum{A A' T c R Q x yj Y c' o u:Nat}(h1:A'+T*u=A+T*o)(h2:A+T*c=R+Q*(x*Y))(h3:o+65536*c'=u+c+x*yj){P:Nat}(hT:T=Q*P):A'+T*65536*c'=R+Q*(x*(Y+P*yj)):=by
 have e:=congrArg (T* ·) h3;simp only[Nat.mul_add] at e;rw[Nat.mul_assoc T 65536 c'];have e2:T*(x*yj)=Q*(x*(P*yj)):=by rw[hT];simp only[Nat.mul_assoc,Nat.mul_left_comm,Nat.mul_comm]
 rw[Nat.mul_add x,Nat.mul_add Q];omega
theorem mul16_le{x y:Nat}(hx:x<65536)(hy:y<65536):x*y<=4294836225:=by
 have:=Nat.mul_le_mul (Nat.le_of_lt_succ hx) (Nat.le_of_lt_succ hy);omega
theorem Mul16.step{x y us:List Nat}{i j c m s:Nat}(h:Mul16 x y us i j c)(hx:∀e∈x,e<65536)(hy:∀e∈y,e<65536)(hm:m=i+j)(hi:i<x.length)(hj:j<=y.length)(hs:s=us.getD m 0+c+x.getD i 0*y.getD j 0):Mul16 x y (us.set m (s%65536)) i (j+1) (s/65536):=by
 subst hm;have hx1:=ZT hx (by decide) i;have hy1:=ZT hy (by decide) j;have hu1:=ZT h.lt (by decide) (i+j);have hp:=mul16_le hx1 hy1;have hc:=h.cb;have hv:=Zgs W16 us (i+j) (s%65536);rcases Nat.lt_or_ge (i+j) us.length with hlt|hge;have hv:=hv hlt;refine⟨by simp[h.len],Zct h.lt (Nat.mod_lt _ (by decide)),by omega,?_,λk h1 h2=>?_,λhl=>?_⟩;rw[show i+(j+1)=(i+j)+1 by omega,Nat.pow_succ,take16];exact mul16_sum hv h.sum (by omega)<|Nat.pow_add _ _ _;rw[XM (by omega)];exact h.zero k (by omega) h2;have hjj:j=y.length:=by omega
 have h0:us.getD (i+j) 0=0:=h.zero _ (Nat.le_refl _) (by omega);have h1:y.getD j 0=0:=Za0 (by omega);rw[hs,h0,h1];simp;exact hc;exfalso;have:=h.len;omega
theorem Mul16.next{x y us:List Nat}{i j:Nat}(h:Mul16 x y us i j 0)(hj:y.length<=j)(hj2:j<=y.length+1)(hi:i<x.length):Mul16 x y us (i+1) 0 0:=by
 refine⟨h.len,h.lt,by decide,?_,λk h1 h2=>h.zero k (by omega) (by omega),λh=>by omega⟩;have:=h.sum;rw[List.take_of_length_le hj] at this;simp only[Nat.mul_zero,Nat.add_zero,List.take_zero,val] at this ⊢;rw[this,take16,Nat.add_mul,Nat.mul_assoc]
theorem Mul16.done{x y us:List Nat}{i:Nat}(h:Mul16 x y us i 0 0)(hi:x.length<=i):val W16 us=val W16 x*val W16 y:=by
 have:=h.sum;rw[List.take_of_length_le hi] at this;simpa [val] using this
theorem cmpN_le{a b:Nat}:Zcy a b<=0↔a<=b:=by
 unfold Zcy;split;constructor <;> omega;split <;> constructor <;> omega
structure Div16(x qs:List Nat)(b kk r:Nat):Prop where
  len:qs.length=x.length
  lt:∀e∈qs,e<65536
  le:kk<=x.length
  sum:val W16 (x.drop kk)=val W16 (qs.drop kk)*b+r
  rb:r<b
  low:∀k,k<kk->qs.getD k 0=0
theorem Div16.start{x:List Nat}{n b:Nat}(hb:0<b)(hn:n=x.length):Div16 x (List.replicate n 0) b n 0:=
  ⟨by simp[hn],by simp,by omega,by rw[hn,List.drop_length,List.drop_eq_nil_of_le (by simp)];simp[val],hb,λk _=>rep_getD _ _⟩
theorem Div16.top{x qs:List Nat}{b kk r:Nat}(h:Div16 x qs b kk r)(hx:∀e∈x,e<65536):x.getD (kk-1) 0+65536*r<65536*b:=by
 have h1:=ZT hx (by decide) (kk-1);have h2:=h.rb;omega
theorem div16_sum{X Q x q r b r':Nat}(h:X=Q*b+r)(h2:x+65536*r=q*b+r'):x+65536*X=(q+65536*Q)*b+r':=by
 rw[h,Nat.add_mul,Nat.mul_assoc 65536 Q b];omega
theorem Div16.step{x qs:List Nat}{b kk r q:Nat}(h:Div16 x qs b kk r)(hk:0<kk)(hq:q<65536)(h1:q*b<=x.getD (kk-1) 0+65536*r)(h2:x.getD (kk-1) 0+65536*r<(q+1)*b):
    Div16 x (qs.set (kk-1) q) b (kk-1) (x.getD (kk-1) 0+65536*r-q*b):=by
 have hl:=h.le;have hlen:=h.len;refine⟨by simp[h.len],Zct h.lt hq,by omega,?_,by rw[Nat.add_mul] at h2;omega,λk hk'=>?_⟩;rw[YC (ds:=x) (by omega),YC (ds:=qs.set (kk-1) q) (by rw[List.length_set];omega),YZ (by omega),show kk-1+1=kk by omega,List.drop_set_of_lt (by omega)];exact div16_sum h.sum (by omega);rw[XM (by omega)];exact h.low k (by omega)
theorem Div16.done{x qs:List Nat}{b r:Nat}(h:Div16 x qs b 0 r):val W16 qs=val W16 x/b/\r=val W16 x%b:=by
 have hs:=h.sum;simp only[List.drop_zero] at hs;have hb:=h.rb;constructor;rw[hs,Nat.mul_comm,Nat.mul_add_div (by omega),Nat.div_eq_of_lt hb];omega;rw[hs,Nat.mul_comm,Nat.mul_add_mod,Nat.mod_eq_of_lt hb]
structure Half(r b lo hi:Nat):Prop where
  le:lo*b<=r
  lt:r<hi*b
  top:hi<=65536
theorem Half.lt'{r b lo hi:Nat}(h:Half r b lo hi):lo<hi:=Nat.lt_of_mul_lt_mul_right (Nat.lt_of_le_of_lt h.le h.lt)
theorem Half.start{r b:Nat}(h:r<65536*b):Half r b 0 65536:=⟨by omega,h,Nat.le_refl _⟩
theorem val16_cons(d:Nat)(r:List Nat):val W16 (d::r)=d+65536*val W16 r:=rfl
theorem val16_app1(d n:Nat):val W16 ([d]++ZL W16 n)=d+65536*n:=by rw[List.singleton_append,val16_cons,ZX (by decide)]
theorem pow16_le{a b kb:Nat}(h:a<65536*b)(hb:b<=2^kb):a<=2^(kb+16):=by rw[Nat.pow_add];omega
theorem val_drop_le(ds:List Nat)(n:Nat):val W16 (ds.drop n)<=val W16 ds:=by
 rcases Nat.lt_or_ge n ds.length with h|h;have hv:=XQ W16 ds n (by omega);have:1<=W16^n:=Nat.pow_pos (by decide);have:=Nat.mul_le_mul_right (val W16<|ds.drop n) this;omega;rw[List.drop_eq_nil_of_le h];exact Nat.zero_le _
theorem small_step{ds:List Nat}{kk:Nat}(h0:0<kk)(h:kk<=ds.length):val W16 (ds.drop (kk-1))=val W16 (ds.drop kk)*65536+ds.getD (kk-1) 0:=by
 rw[YC (by omega),show kk-1+1=kk by omega,val16_cons];omega
theorem one16{a:Nat}(h1:(ZL W16 a).length=1)(h2:(ZL W16 a).getD 0 0=1):a=1:=by
 have:=ZX (B:=W16) (by decide) a
 match e:ZL W16 a,h1 with
 |[d],_=>rw[e] at h2 this;simp at h2;subst h2;simpa [val] using this.symm
theorem one16'{a:Nat}(h:(ZL W16 a).length≠1\/(ZL W16 a).getD 0 0≠1):a≠1:=by
 rintro rfl;have:ZL W16 1=[1]:=by rw[Zay (by decide) (by decide),show(1:Nat)/W16=0 from by decide,Xe];rfl
 rw[this] at h;simp at h
theorem tx_split{p V i:Nat}(hi:i<=p):V/10^i=V/10^p*10^(p-i)+V%10^p/10^i:=by
 have h:=Nat.div_add_mod V (10^p);have hp:10^p=10^i*10^(p-i):=by rw[<-Nat.pow_add];congr 1;omega
 have hpos:0<10^i:=Nat.pow_pos (by decide);conv=>lhs;rw[<-h]
 rw[show 10^p*(V/10^p)=10^i*(10^(p-i)*(V/10^p)) from by rw[<-Nat.mul_assoc,<-hp],Nat.add_comm,Nat.add_mul_div_left _ _ hpos,Nat.mul_comm (10^(p-i)),Nat.add_comm]
theorem tx_dig{p V i:Nat}(hi:i<p):V/10^i%10=V%10^p/10^i%10:=by
 rw[tx_split (Nat.le_of_lt hi)];have e:10^(p-i)=10*10^(p-i-1):=by rw[show p-i=(p-i-1)+1 by omega,Nat.pow_succ,Nat.mul_comm];rfl
 rw[e,<-Nat.mul_assoc,Nat.mul_comm _ 10,Nat.mul_assoc,Nat.mul_add_mod]
theorem tx_nz{p V i:Nat}(hi:i<=p)(h:0<V/10^p\/0<V%10^p/10^i):V/10^i≠0:=by
 rw[tx_split hi];have:0<10^(p-i):=Nat.pow_pos (by decide);rcases h with h|h;exact Nat.ne_of_gt<|Nat.lt_of_lt_of_le (Nat.mul_pos h this)<|Nat.le_add_right _ _;exact Nat.ne_of_gt<|Nat.lt_of_lt_of_le h<|Nat.le_add_left _ _
def tl(a m:Nat):List Nat:=(((ZL 10 a).take m).map (· +48)).reverse
theorem tl_step{a m i V d:Nat}(hV:V=a/10^m)(hi:i<4)(hd:d=V%10000/10^i)(h:0<V/10000\/0<d):[48+d%10]++tl a (m+i)=tl a (m+(i+1)):=by
 subst hd;have hz:a/10^(m+i)≠0:=by rw[Zao,<-hV];exact tx_nz (p:=4) (by omega) h
 unfold tl;rw[show m+(i+1)=(m+i)+1 by omega,Zgl (by decide) _ _ hz,List.map_append,List.reverse_append,Zao,<-hV,List.map_cons,List.map_nil,tx_dig (p:=4) (V:=V) hi,Nat.add_comm 48];rfl
theorem tl_next{a m i V:Nat}(hV:V=a/10^m)(hi:i<=4)(h:i=4\/(V/10000=0/\V%10000/10^i=0)):V/10000=a/10^(m+i):=by
 rw[Zao,<-hV,tx_split (p:=4) hi];rcases h with h|⟨h1,h2⟩;subst h;have:V%10^4/10^4=0:=Nat.div_eq_of_lt (Nat.mod_lt _ (by decide));rw[this];simp;rw[show 10^4=10000 from rfl,h1,h2];simp
theorem tl_rr{V i:Nat}:V%10000/10^i/10=V%10000/10^(i+1):=by rw[Nat.div_div_eq_div_mul,<-Nat.pow_succ]
theorem tl_done{a m:Nat}(ha:a≠0)(h:a/10^m=0):tl a m=decs a:=by
 unfold tl decs;rw[Zh0 (by decide) h,if_neg ha]
theorem tl_len(a m:Nat):(tl a m).length<=(ZL 10 a).length:=by unfold tl;simp;omega
theorem bl_one{d:Nat}(h:d<256):bl (Xb [d])=[d]:=Qr (by simp;exact h)
section
variable{P:Program}{a:Act}{w:World}{n:Nat}{l:List (Nat × Value)}{K:Value->World->Prop}
variable{d:Option Tmp}{ty:TypeId}{pos:String}{af:Array Edge}{g0:Option (Nat × Bool)}
theorem does_appendGn{x y:Operand}{t:TypeId}{len cap q k0:Nat}{c:Value}{g:Option (Nat × List Value)}{ds:List Nat}{S0 S:Sh}{w0:World}{H:Own}(hx:ev l x=Option.some (.slice (gp g) len cap))(hy:ev l y=Option.some c)(ht:P.underlying t=Option.some (.slice tU32))(hZ:Yy P tU32=Option.some 1)(hB:Qb P tU32=Option.some 4)(hz:XT P tU32=Option.some (.int .u32 0))(hG:Gw g len cap 1 (YN ds))(hR:Run S0 w0 S (YH g tU32 (YN ds)++H) w)(hd:Gn S c q k0)(hlim:len+(ZL W16 q).length<=1099511627776)(k:∀g' cap' w',Gw g' (len+(ZL W16 q).length) cap' 1 (YN (ds++ZL W16 q))->Run S0 w0 S (YH g' tU32 (YN (ds++ZL W16 q))++H) w'->K (.slice (gp g') (len+(ZL W16 q).length) cap') w')(a:Act)(hL:ZD a n l):YL P ⟨d,.call ⟨.builtin .append,#[x,y],#[t,t]⟩,ty,pos,af,g0⟩ a w K:=by
 obtain⟨_,p,len2,cap2,rfl,h⟩:=hd.open;have hl:=h.hlen;subst hl;exact Cu hL<|does_appendGd hx hy ht hZ hB hz hG hR h hlim k
end
theorem ofBl_size1(d:Nat):(Xb [d]).size=1:=rfl
theorem lt_app16{x n:Nat}(h:x<65536):∀e∈[x]++ZL W16 n,e<65536:=by
 intro e he;rcases List.mem_append.1 he with q|q;simp at q;omega;exact Zee (by decide) n e q
end
def sI(mi:Bool)(a:Nat):Int:=if mi=true then -(a:Int) else a
def Yu(z:Int):Int:=if z=0 then 0 else if z<0 then -1 else 1
def cmpZ(a b:Int):Int:=if a<b then -1 else if b<a then 1 else 0
def Yp(a b:Rat):Int:=if a<b then -1 else if b<a then 1 else 0
theorem Yh{z:Int}:Yu z=0↔z=0:=by
 unfold Yu;split;simp_all;split <;> simp_all
theorem Zaw{z:Int}:Yu z<0↔z<0:=by
 unfold Yu;split;omega;split <;> omega
theorem sgnZ_pos{z:Int}:0<Yu z↔0<z:=by
 unfold Yu;split;omega;split <;> omega
theorem sgnZ_cases(z:Int):Yu z= -1\/Yu z=0\/Yu z=1:=by
 unfold Yu;split;simp;split <;> simp
theorem bitlen_one{n:Nat}:ZC n=1↔n=1:=by
 unfold ZC;split;omega;rename_i h;constructor;intro e;have h1:n.log2=0:=by omega
 have:=(Nat.log2_lt (n:=n) (k:=1) h).1 (by omega);omega;intro e;subst e;rfl
theorem bitlen_gt1{n:Nat}:1<ZC n↔1<n:=by
 have h0:=@Qw n;have h1:=@bitlen_one n;omega
theorem sI_abs(mi:Bool)(a:Nat):(sI mi a).natAbs=a:=by unfold sI;cases mi <;> simp
theorem mul_sI{a b:Int}:sI (decide (¬(decide (a<0))=(decide (b<0)))) (a.natAbs*b.natAbs)=a*b:=by
 unfold sI;rcases Int.lt_or_le a 0 with ha|ha <;> rcases Int.lt_or_le b 0 with hb|hb;have e:a*b=(-a)*(-b):=by rw[Int.neg_mul_neg]
 rw[e];simp only[ha,hb,decide_true,not_true_eq_false,decide_false,Bool.false_eq_true,if_false];rw[Int.natCast_mul];congr 1 <;> omega;simp only[ha,show ¬b<0 by omega,decide_true,decide_false];simp only[Bool.true_eq_false,not_false_eq_true,decide_true,if_true];rw[Int.natCast_mul,<-Int.neg_mul];congr 1 <;> omega;simp only[hb,show ¬a<0 by omega,decide_true,decide_false];simp only[Bool.false_eq_true,not_false_eq_true,decide_true,if_true];rw[Int.natCast_mul,<-Int.mul_neg];congr 1 <;> omega;simp only[show ¬a<0 by omega,show ¬b<0 by omega,decide_false,not_true_eq_false,Bool.false_eq_true,if_false];rw[Int.natCast_mul];congr 1 <;> omega
theorem add_sI{a b:Int}(h:(decide (a<0))=(decide (b<0))):sI (decide (a<0)) (a.natAbs+b.natAbs)=a+b:=by
 rw[decide_eq_decide] at h;unfold sI;by_cases ha:a<0;rw[if_pos (decide_eq_true ha)];have:=h.1 ha;omega;rw[if_neg (by simpa using ha)];have:¬b<0:=λq=>ha<|h.2 q;omega
theorem dif_sI{a b:Int}(h:¬(decide (a<0))=(decide (b<0)))(hl:b.natAbs<=a.natAbs):sI (decide (a<0)) (a.natAbs-b.natAbs)=a+b:=by
 rw[decide_eq_decide] at h;unfold sI;by_cases ha:a<0;rw[if_pos (decide_eq_true ha)];have:¬b<0:=λq=>h ⟨λ_=>q,λ_=>ha⟩;omega;rw[if_neg (by simpa using ha)];have:b<0:=by rcases Int.lt_or_le b 0 with q|q;exact q;exact absurd ⟨λp=>absurd p ha,λp=>by omega⟩ h
 omega
theorem neg_sI{a:Int}:sI (!(decide (a<0))) a.natAbs= -a:=by
 unfold sI;by_cases ha:a<0;simp[ha];omega;simp[ha];omega
theorem cmpZ_nn{a b:Int}(ha:¬a<0)(hb:¬b<0):Zcy a.natAbs b.natAbs=cmpZ a b:=by unfold Zcy cmpZ;repeat' split <;> omega
theorem cmpZ_np{a b:Int}(ha:a<0)(hb:¬b<0):cmpZ a b= -1:=by unfold cmpZ;rw[if_pos (by omega)]
theorem cmpZ_pn{a b:Int}(ha:¬a<0)(hb:b<0):cmpZ a b=1:=by unfold cmpZ;rw[if_neg (by omega),if_pos (by omega)]
theorem cmpZ_neg{a b:Int}(ha:a<0)(hb:b<0):Zcy b.natAbs a.natAbs=cmpZ a b:=by unfold Zcy cmpZ;repeat' split <;> omega
theorem den_ne{q:Rat}:(q.den:Rat)≠0:=by
 intro z;have:q.den=0:=by exact_mod_cast z
 exact q.den_nz this
theorem mkRat_rat(q:Rat):mkRat q.num q.den=q:=Rat.mkRat_self q
theorem mkRat_one(z:Int):mkRat z 1=(z:Rat):=by
 rw[Rat.mkRat_eq_div];have:((1:Nat):Rat)=1:=rfl;rw[this];grind
theorem Qn{a b:Rat}:mkRat (a.num*(b.den:Int)+b.num*(a.den:Int)) (a.den*b.den)=a+b:=by
 rw[Rat.mkRat_eq_div];have ha:=XW a;have hb:=XW b;have h1:((a.num*(b.den:Int)+b.num*(a.den:Int):Int):Rat)=(a.num:Rat)*(b.den:Rat)+(b.num:Rat)*(a.den:Rat):=by rw[Rat.intCast_add,Rat.intCast_mul,Rat.intCast_mul];rfl
 have h2:((a.den*b.den:Nat):Rat)=(a.den:Rat)*(b.den:Rat):=Rat.natCast_mul _ _;rw[h1,h2,<-ha,<-hb];have h3:=@den_ne a;have h4:=@den_ne b;grind
theorem mkRat_sub{a b:Rat}:mkRat (a.num*(b.den:Int)-b.num*(a.den:Int)) (a.den*b.den)=a-b:=by
 rw[Rat.mkRat_eq_div];have ha:=XW a;have hb:=XW b;have h1:((a.num*(b.den:Int)-b.num*(a.den:Int):Int):Rat)=(a.num:Rat)*(b.den:Rat)-(b.num:Rat)*(a.den:Rat):=by rw[Rat.intCast_sub,Rat.intCast_mul,Rat.intCast_mul];rfl
 have h2:((a.den*b.den:Nat):Rat)=(a.den:Rat)*(b.den:Rat):=Rat.natCast_mul _ _;rw[h1,h2,<-ha,<-hb];have h3:=@den_ne a;have h4:=@den_ne b;grind
theorem Zcc{a b:Rat}:mkRat (a.num*b.num) (a.den*b.den)=a*b:=by
 rw[Rat.mkRat_eq_div];have ha:=XW a;have hb:=XW b;have h1:((a.num*b.num:Int):Rat)=(a.num:Rat)*(b.num:Rat):=Rat.intCast_mul _ _;have h2:((a.den*b.den:Nat):Rat)=(a.den:Rat)*(b.den:Rat):=Rat.natCast_mul _ _;rw[h1,h2,<-ha,<-hb];have h3:=@den_ne a;have h4:=@den_ne b;grind
theorem Zcd{a b:Rat}(hb0:b.num≠0):mkRat (a.num*Yu b.num*(b.den:Int)) (a.den*b.num.natAbs)=a/b:=by
 rw[Rat.mkRat_eq_div];have ha:=XW a;have hb:=XW b;have h1:((a.num*Yu b.num*(b.den:Int):Int):Rat)=(a.num:Rat)*((Yu b.num:Int):Rat)*(b.den:Rat):=by rw[Rat.intCast_mul,Rat.intCast_mul];rfl
 have h2:((a.den*b.num.natAbs:Nat):Rat)=(a.den:Rat)*((b.num.natAbs:Nat):Rat):=Rat.natCast_mul _ _;have h5:((b.num.natAbs:Nat):Rat)=((Yu b.num:Int):Rat)*(b.num:Rat):=by
  rw[<-Rat.intCast_mul];have:((b.num.natAbs:Nat):Int)=Yu b.num*b.num:=by unfold Yu;split;omega;split <;> omega
  rw[<-this];rfl
 have h6:((Yu b.num:Int):Rat)*((Yu b.num:Int):Rat)=1:=by
  rw[<-Rat.intCast_mul];have:Yu b.num*Yu b.num=1:=by unfold Yu;rw[if_neg hb0];split <;> rfl
  rw[this];rfl
 have h7:(b.num:Rat)≠0:=by intro z;exact hb0 (by exact_mod_cast z)
 rw[h1,h2,h5];have h3:=@den_ne a;have h4:=@den_ne b;have hb':b≠0:=by intro e;subst e;exact hb0 rfl
 have h8:((Yu b.num:Int):Rat)≠0:=by intro e;rw[e] at h6;simp at h6
 rw[<-ha,<-hb];generalize ((Yu b.num:Int):Rat)=s at*;grind
theorem mkRat_num0{z:Int}{d:Nat}(hd:0<d)(h:¬ 1<z.natAbs.gcd d):(mkRat z d).num=z/\(mkRat z d).den=d:=by
 have hg:z.natAbs.gcd d=1:=by have:=Nat.gcd_pos_of_pos_right z.natAbs hd;omega
 exact⟨mkRat_num1 (by omega) hg,mkRat_den1 (by omega) hg⟩
theorem sI_div{z:Int}{g:Nat}(h:g ∣ z.natAbs)(mi:Bool)(hm:mi=true↔z<0):sI mi (z.natAbs/g)=z/(g:Int):=by
 obtain⟨k,hk⟩:=h;unfold sI;rcases Nat.eq_zero_or_pos g with e|e;subst e;simp;rw[hk,Nat.mul_div_cancel_left _ e]
 cases mi with
 | true=>
   have hz:=hm.1 rfl
   have:z=(g:Int)*(-(k:Int)):=by
     rw[Int.mul_neg,<-Int.natCast_mul,<-hk];omega
   rw[this,Int.mul_ediv_cancel_left _ (by omega)];rfl
 | false=>
   have hz:¬z<0:=λq=>by have:=hm.2 q;cases this
   have:z=(g:Int)*(k:Int):=by
     rw[<-Int.natCast_mul,<-hk];omega
   rw[this,Int.mul_ediv_cancel_left _ (by omega)];rfl
theorem Zc8{z:Int}{d:Nat}(hd:0<d)(mi:Bool)(hm:mi=true↔z<0):sI mi (z.natAbs/z.natAbs.gcd d)=(mkRat z d).num:=by
 rw[mkRat_num _ _ (by omega),sI_div (Nat.gcd_dvd_left _ _) mi hm]
theorem Zfw{z:Int}{d:Nat}(hd:0<d):d/z.natAbs.gcd d=(mkRat z d).den:=(mkRat_den _ _ (by omega)).symm
theorem Xz{z:Int}{d k:Nat}(hd:0<d)(h:d<=2^k):(mkRat z d).den<=2^k:=by
 rw[mkRat_den _ _ (by omega)];exact Nat.le_trans (Nat.div_le_self _ _) h
theorem Xy{z:Int}{d k:Nat}(hd:0<d)(h:z.natAbs<=2^k):(mkRat z d).num.natAbs<=2^k:=by
 rw[<-Zc8 hd (decide (z<0)) (by simp),sI_abs];exact Nat.le_trans (Nat.div_le_self _ _) h
theorem In.le{S:Sh}{cs:List Value}{z:Int}{k:Nat}(h:In S cs z k):z.natAbs<=2^k:=by
 obtain⟨us,_,hn⟩:=h.abs;exact hn.1
theorem In.rek{S:Sh}{cs:List Value}{z:Int}{k k':Nat}(h:In S cs z k)(hk:z.natAbs<=2^k'):In S cs z k':=by
 obtain⟨a,b,c,d,e,f,g,i,j⟩:=h;refine⟨a,b,c,d,e,f,?_,i,j⟩;rw[i] at hk;cases a <;> simpa using hk
theorem Na.rek{S:Sh}{cs:List Value}{n k k':Nat}(h:Na S cs n k)(hk:n<=2^k'):Na S cs n k':=⟨hk,h.2⟩
theorem In.cases{S:Sh}{cs:List Value}{z:Int}{k:Nat}(h:In S cs z k):(∃c1 c2 m,cs=[.bool true,c1,c2]/\Na S [c1,c2] m k/\z= -(m:Int)/\0<m)\/(∃c1 c2 m,cs=[.bool false,c1,c2]/\Na S [c1,c2] m k/\z=(m:Int)):=by
 obtain⟨neg,c1,c2,m,e,hn,hm,hz,h0⟩:=h
 cases neg with
 | true=>
   refine .inl ⟨c1,c2,m,e,⟨hm,c1,c2,rfl,hn⟩,by simpa using hz,?_⟩
   rcases Nat.eq_zero_or_pos m with q|q
   · have:=h0 q;cases this
   · exact q
 |false=>exact .inr ⟨c1,c2,m,e,⟨hm,c1,c2,rfl,hn⟩,by simpa using hz⟩
theorem Na.toR{S:Sh}{cs:List Value}{n m k k':Nat}(h:Na S cs n k)(e:n=m)(hk:m<=2^k'):Na S cs m k':=by subst e;exact⟨hk,h.2⟩
theorem In.toR{S:Sh}{cs:List Value}{z y:Int}{k k':Nat}(h:In S cs z k)(e:z=y)(hk:y.natAbs<=2^k'):In S cs y k':=by subst e;exact h.rek hk
theorem Gn.toR{S:Sh}{c:Value}{n m k k':Nat}(h:Gn S c n k)(e:n=m)(hk:m<=2^k'):Gn S c m k':=by subst e;exact⟨hk,h.2⟩
theorem u64_wrap_neg{n:Int}(h0:n<0)(h1: -9223372036854775808<=n):IntKind.u64.wrap n=n+18446744073709551616:=by
 have:IntKind.u64.wrap n=n%18446744073709551616:=by simp[IntKind.wrap,IntKind.bits,IntKind.signed]
 rw[this];omega
theorem u64_wrap_neg2{n:Int}(h0:n<0)(h1: -9223372036854775808<=n):IntKind.u64.wrap (0-(n+18446744073709551616))=((n.natAbs:Nat):Int):=by
 have:IntKind.u64.wrap (0-(n+18446744073709551616))=(0-(n+18446744073709551616))%18446744073709551616:=by simp[IntKind.wrap,IntKind.bits,IntKind.signed]
 rw[this];omega
theorem den_one{q:Rat}(h:q.den-1=0):q.den=1:=by have:=q.den_pos;omega
theorem Zfv{q:Rat}(h:q.den=1):(q.num:Rat)=q:=by
 have:=mkRat_rat q;rw[h,mkRat_one] at this;exact this
theorem cast_add'{a b:Rat}(ha:a.den=1)(hb:b.den=1):((a.num+b.num:Int):Rat)=a+b:=by rw[Rat.intCast_add,Zfv ha,Zfv hb]
theorem cast_sub'{a b:Rat}(ha:a.den=1)(hb:b.den=1):((a.num-b.num:Int):Rat)=a-b:=by rw[Rat.intCast_sub,Zfv ha,Zfv hb]
theorem cast_mul'{a b:Rat}(ha:a.den=1)(hb:b.den=1):((a.num*b.num:Int):Rat)=a*b:=by rw[Rat.intCast_mul,Zfv ha,Zfv hb]
theorem cmpQ_den{a b:Rat}:cmpZ (a.num*(b.den:Int)) (b.num*(a.den:Int))=Yp a b:=by
 unfold cmpZ Yp;simp only[Rat.lt_iff]
theorem cmpQ_int{a b:Rat}(ha:a.den=1)(hb:b.den=1):cmpZ a.num b.num=Yp a b:=by
 rw[<-cmpQ_den,ha,hb];simp
theorem Zd1(a:Rat):(-a).num= -a.num/\(-a).den=a.den:=⟨rfl,rfl⟩
theorem Fs.ofInt{S:Sh}{cs:List Value}{z:Int}{k:Nat}(h:In S cs z k):Fs S (cs++[.int .u64 0,.slice none 0 0]) [(z:Rat)] k:=
  Fs.mk (q:=(z:Rat)) h (Na.zero S k) Nat.one_le_two_pow
theorem Fs.ofParts{S:Sh}{us vs:List Value}{z:Int}{n k k' K:Nat}{q:Rat}(h1:In S us z k)(h2:Na S vs n k')(e1:z=q.num)(e2:n=q.den-1)(b1:q.num.natAbs<=2^K)(b2:q.den<=2^K):Fs S (us++vs) [q] K:=by
 subst e1 e2;exact Fs.mk (h1.rek b1) (h2.rek (by omega)) b2
theorem ztxt_neg{a:Int}(h:a<0):(⟨#[45]⟩:ByteArray)++txt a.natAbs=Xb (Zgb a):=by
 unfold Zgb txt;rw[if_pos h,<-Zc2];rfl
theorem ztxt_nn{a:Int}(h:¬a<0):txt a.natAbs=Xb (Zgb a):=by
 unfold Zgb txt;rw[if_neg h];rfl
theorem rtxt_int{q:Rat}(h:q.den=1):Xb (Zgb q.num)=Xb (rtxt q):=by unfold rtxt;rw[if_pos h,List.append_nil]
theorem rtxt_frac{q:Rat}(h:¬q.den=1):Xb (Zgb q.num)++(⟨#[47]⟩:ByteArray)++txt q.den=Xb (rtxt q):=by
 unfold rtxt txt;rw[if_neg h,show(⟨#[47]⟩:ByteArray)=Xb [47] from rfl,Zc2,Zc2,List.append_assoc];rfl
theorem Zfc(l:List Nat):(Xb l).size=l.length:=by unfold Xb;show(List.map UInt8.ofNat l).toArray.size=_;simp
theorem ztxt_len{z:Int}{k:Nat}(h:z.natAbs<=2^k):(Zgb z).length<=k+2:=by
 unfold Zgb;have:=Zar h;rw[List.length_append];split <;> simp <;> omega
theorem ret_of_below{P:Program}{f:FuncId}{args:Array Value}{S:Sh}{w:World}{v:Value}(hS:ZV S w)(h:Calls P f args w λe w'=>e= .returned v/\Below w.heap.size w w'/\w.drawn<=w'.drawn):Calls P f args w (Ret S w (λ_ u=>u=v)):=by
 refine Calls.mono h λe w' ⟨h1,h2,h3⟩=>⟨v,S,h1,⟨Sh.le.refl S,λb o hb=>?_,λb o hb=>.inl ⟨o,hb⟩,h2,h3⟩,rfl⟩;rw[h2.block b (ZV.lt hS hb)];exact hS b o hb
def trimD(s:ByteArray):ByteArray:=⟨(Lib.trimS s.data.toList [48,49,50,51,52,53,54,55,56,57]).toArray⟩
theorem dig_mem{x:UInt8}:([48,49,50,51,52,53,54,55,56,57]:List UInt8).contains x=true↔48<=x.toNat/\x.toNat<=57:=by
 revert x;have key:∀n:Nat,n<256->(([48,49,50,51,52,53,54,55,56,57]:List UInt8).contains (UInt8.ofNat n)=true↔48<=n/\n<=57):=by decide+kernel
 intro x;have:=key x.toNat x.toNat_lt;simpa using this
theorem Zhv{α:Type}{p:α->Bool}{l:List α}:l.dropWhile p=[]↔∀x∈l,p x=true:=by
 induction l with
 |nil=>simp
 | cons a r ih=>
   rw[List.dropWhile_cons]
   split
   · rename_i h;rw[ih];simp[h]
   · rename_i h;simp[h]
theorem mem_of_trimRight{l cs:List UInt8}{x:UInt8}(h:∀y∈Lib.trimRightS l cs,cs.contains y=true)(hx:x∈l):cs.contains x=true:=by
 unfold Lib.trimRightS at h;rcases Classical.em (l.reverse.dropWhile (cs.contains ·)=[]) with e|e;exact Zhv.1 e x (by simpa using hx);exfalso
 match e2:l.reverse.dropWhile (cs.contains ·),e with
 | a ::r,_=>
   have h1:¬cs.contains a=true:=by
     have:=List.head_dropWhile_not (cs.contains ·) (l:=l.reverse) (by rw[e2];simp)
     simp only[e2,List.head_cons] at this
     rw[this];simp
   exact h1<|h a (by rw[e2];simp)
theorem trimD_nil{s:ByteArray}:trimD s=(⟨#[]⟩:ByteArray)↔∀c∈bl s,48<=c/\c<=57:=by
 have e1:trimD s=(⟨#[]⟩:ByteArray)↔Lib.trimS s.data.toList [48,49,50,51,52,53,54,55,56,57]=[]:=by unfold trimD;constructor;intro h;have:=congrArg (λx:ByteArray=>x.data.toList) h;simpa using this;intro h;rw[h]
 rw[e1];unfold Lib.trimS Lib.trimLeftS;rw[Zhv];constructor;intro h c hc;unfold bl at hc;obtain⟨x,hx,rfl⟩:=List.mem_map.1 hc;exact dig_mem.1<|mem_of_trimRight h hx;intro h x hx;refine dig_mem.2<|h x.toNat<|List.mem_map.2 ⟨x,?_,rfl⟩;unfold Lib.trimRightS at hx;rw[List.mem_reverse] at hx;have:=(List.dropWhile_sublist _).subset hx;simpa using this
def tpre(s:ByteArray):ByteArray:=if(bl s).getD 0 0=45 then Xb ((bl s).drop 1) else s
theorem u8_toNat_45{x:UInt8}:x.toNat=45↔x=45:=by
 constructor;intro h;apply UInt8.toNat_inj.1;simpa using h;intro h;subst h;rfl
theorem tpre_lib(s:ByteArray):(⟨(Lib.trimPrefix s.data.toList [45]).toArray⟩:ByteArray)=tpre s:=by
 unfold Lib.trimPrefix Lib.hasPrefix tpre;have e:bl s=s.data.toList.map UInt8.toNat:=rfl
 cases h:s.data.toList with
 | nil=>
   rw[e,h]
   simp
   apply ByteArray.ext
   rw[<-Array.toArray_toList (xs:=s.data),h]
 | cons x r=>
   rw[e,h]
   simp only[List.map_cons,List.getD_cons_zero,List.drop_succ_cons,List.drop_zero,List.isPrefixOf,Bool.and_true,List.length_singleton,beq_iff_eq]
   by_cases hx:x=45
   · subst hx
     simp only[↓reduceIte]
     rw[if_pos (by rfl)]
     unfold Xb
     rw[List.map_map]
     have:(UInt8.ofNat ∘ UInt8.toNat)=id:=by funext x;simp
     rw[this,List.map_id]
   · rw[if_neg (λq=>hx q.symm),if_neg (λq=>hx<|u8_toNat_45.1 q)]
     apply ByteArray.ext
     rw[<-Array.toArray_toList (xs:=s.data),h]
theorem bl_drop1(s:ByteArray):bl (Xb<|(bl s).drop 1)=(bl s).drop 1:=Qr (λc hc=>bl_lt s c<|List.mem_of_mem_drop hc)
theorem bl_tpre(s:ByteArray):bl (tpre s)=if(bl s).getD 0 0=45 then(bl s).drop 1 else bl s:=by
 unfold tpre;split;exact bl_drop1 s;rfl
def Zho(l:List Nat):Int:=if Zev l=true then((Zae l).length:Int) else -1
theorem idx47_lib(s:ByteArray):Lib.indexByte s.data.toList 47=Zho (bl s):=by
 show _=Zho (s.data.toList.map UInt8.toNat)
 induction s.data.toList with
 |nil=>rfl
 | cons x r ih=>
   have hx:(x==47)=decide (x.toNat=47):=by
     by_cases h:x=47
     · subst h;rfl
     · have:x.toNat≠47:=λq=>h (by apply UInt8.toNat_inj.1;simpa using q)
       simp[h,this]
   unfold Lib.indexByte
   rw[hx,ih]
   unfold Zho Zev Zae
   simp only[List.map_cons,Zci]
   by_cases h:x.toNat=47
   · simp[h]
   · simp only[h,decide_false,Bool.false_eq_true,if_false]
     cases (Zci<|r.map UInt8.toNat).2.2 with
     |false=>simp
     | true=>
       simp only[if_true,List.length_cons]
       rw[if_neg (by simp)]
       rfl
theorem Zef{l:List Nat}(h:∀c∈l,c<256):(∀c∈(Zci l).1,c<256)/\(∀c∈(Zci l).2.1,c<256):=by
 have hb:=(QZ l).2
 cases ht:(Zci l).2.2 with
 | true=>
   rw[ht] at hb
   simp only[if_true] at hb
   exact⟨λc hc=>h c (by rw[hb];simp[hc]),λc hc=>h c (by rw[hb];simp[hc])⟩
 | false=>
   rw[ht] at hb
   simp only[Bool.false_eq_true,if_false,List.append_nil] at hb
   refine⟨λc hc=>h c (by rw[hb];exact hc),?_⟩
   have:(Zci l).2.1=[]:=by
     have hno:47∉l:=by rw[hb];exact(QZ l).1
     rw[cutl_no hno]
   rw[this];simp
theorem idx47_neg{l:List Nat}(h:¬ 0<=Zho l):Zev l=false/\Zae l=l/\(Zci l).2.1=[]:=by
 unfold Zho at h
 cases ht:Zev l with
 |true=>rw[ht] at h;simp at h
 | false=>
   have hb:=(QZ l).2
   have ht':(Zci l).2.2=false:=ht
   rw[ht'] at hb
   simp only[Bool.false_eq_true,if_false,List.append_nil] at hb
   have hno:47∉l:=by rw[hb];exact(QZ l).1
   exact⟨rfl,hb.symm,by rw[cutl_no hno]⟩
theorem Zhn{l:List Nat}(h:0<=Zho l):Zev l=true/\Zho l=((Zae l).length:Int)/\l=Zae l++47::(Zci l).2.1:=by
 unfold Zho at h ⊢
 cases ht:Zev l with
 |false=>rw[ht] at h;simp at h
 | true=>
   have hb:=(QZ l).2
   have ht':(Zci l).2.2=true:=ht
   rw[ht'] at hb
   exact⟨rfl,by simp,by simpa [Zae] using hb⟩
theorem cut_left{s:ByteArray}{n:Nat}(h:bl s=Zae (bl s)++47::(Zci<|bl s).2.1)(hn:n=(Zae<|bl s).length):s.extract 0 n=Xb (Zae<|bl s):=by
 apply bl_inj;rw[Zb3,Qr (l:=Zae (bl s)) (Zef<|bl_lt s).1,List.drop_zero,hn];exact(congrArg (List.take _) h).trans List.take_left
theorem cut_right{s:ByteArray}{n:Nat}(h:bl s=Zae (bl s)++47::(Zci<|bl s).2.1)(hn:n=(Zae<|bl s).length+1):s.extract n s.size=Xb (Zci<|bl s).2.1:=by
 apply bl_inj;rw[Zb3,Qr (Zef<|bl_lt s).2,List.take_of_length_le (by rw[YK];omega),hn];have h':bl s=(Zae (bl s)++[47])++(Zci<|bl s).2.1:=by rw[List.append_assoc];exact h
 have hl:(Zae<|bl s).length+1=(Zae (bl s)++[47]).length:=by simp
 rw[hl];exact(congrArg (List.drop _) h').trans List.drop_left
theorem Zgu{S:Sh}{w:World}(hS:ZV S w){s sep:ByteArray}(hsep:sep=⟨#[45]⟩):Calls prog 95 [.string s,.string sep].toArray w (Ret S w (λ_ v=>v= .string (tpre s))):=by
 subst hsep;rw[<-tpre_lib];exact Zb7 hS<|Tryz.strings_TrimPrefix s ⟨#[45]⟩ w
theorem strings_TrimR{S:Sh}{w:World}(hS:ZV S w){s sep:ByteArray}(hsep:sep=⟨#[48,49,50,51,52,53,54,55,56,57]⟩)(hs:s.size<=9223372036854775807):Calls prog 149 [.string s,.string sep].toArray w (Ret S w (λ_ v=>v= .string (trimD s))):=by
 subst hsep;exact ret_of_below hS<|Tryz.strings_Trim_digits s w hs
theorem Zhh{S:Sh}{w:World}(hS:ZV S w){s sep:ByteArray}(hsep:sep=⟨#[47]⟩):Calls prog 169 [.string s,.string sep].toArray w (Ret S w (λ_ v=>v= .int .i64 (Zho<|bl s))):=by
 subst hsep;rw[<-idx47_lib];exact Zb7 hS<|Tryz.stringslite_Index_one s 47 w
theorem fsize_tpre{s nm:ByteArray}(h:bl nm=Zae (bl s)):bl (tpre nm)=QD (bl s):=by
 rw[bl_tpre,h];unfold QD Zdq;by_cases q:(Zae<|bl s).getD 0 0=45 <;> simp only[q,if_true,if_false,decide_true,decide_false,Bool.false_eq_true]
theorem Zfh{s nm sz:ByteArray}(h:bl nm=Zae (bl s))(h2:bl sz=QD (bl s)):((sz.size:Nat):Int)<((nm.size:Nat):Int)↔Zdq (bl s)=true:=by
 rw[<-YK,<-YK,h,h2];unfold QD
 cases hm:Zdq (bl s) with
 |false=>simp
 | true=>
   have:(Zae<|bl s).length≠0:=by
     intro e
     rw[List.length_eq_zero_iff] at e
     unfold Zdq at hm
     rw[e] at hm
     simp at hm
   simp only[if_true,List.length_drop,iff_true]
   omega
theorem str48{sz:ByteArray}:sz=(⟨#[48]⟩:ByteArray)↔bl sz=[48]:=⟨λh=>by rw[h];rfl,λh=>bl_inj (by rw[h];rfl)⟩
theorem fden_not{s:ByteArray}(h:¬Zev (bl s)=true):QI (bl s)=[49]:=by unfold QI;rw[if_neg h]
theorem fden_two{s:ByteArray}(h:Zev (bl s)=true):QI (bl s)=(Zci<|bl s).2.1:=by unfold QI;rw[if_pos h]
theorem cutl_len(l:List Nat):(Zae l).length<=l.length/\(Zci l).2.1.length<=l.length:=by
 have hb:=(QZ l).2;have hl:=congrArg List.length hb
 cases ht:(Zci l).2.2 with
 |true=>rw[ht] at hl;simp only[List.length_append,if_true,List.length_cons] at hl;exact⟨by unfold Zae;omega,by omega⟩
 | false=>
   rw[ht] at hl
   simp only[Bool.false_eq_true,if_false,List.append_nil] at hl
   have hno:47∉l:=by
     have h1:=(QZ l).1
     have h2:=(QZ l).2
     rw[ht] at h2
     simp only[Bool.false_eq_true,if_false,List.append_nil] at h2
     rwa [<-h2] at h1
   have:(Zci l).2.1=[]:=by rw[cutl_no hno]
   exact⟨by unfold Zae;omega,by rw[this];simp⟩
theorem fsize_len(l:List Nat):(QD l).length<=l.length:=by
 have:=(cutl_len l).1;unfold QD;split;rw[List.length_drop];omega;exact this
theorem fden_len(l:List Nat):(QI l).length<=l.length+1:=by
 have:=(cutl_len l).2;unfold QI;split;omega;simp
theorem dig_wd{l:List Nat}{n:Nat}(h0:0<n)(h:∀c∈l,48<=c/\c<=57)(h1:n=l.length/\(l.length=1\/¬l.getD 0 0=48)):wd l:=⟨by intro e;subst e;have:=h1.1;simp at this;omega,h,h1.2⟩
theorem fraw_sI(l:List Nat):fraw l=sI (Zdq l) (Xw<|QD l):=rfl
theorem Zcw{l:List Nat}(h:Zew l):YP l=12/\Yz l=0:=by
 have e:YP l=12:=by unfold YP;rw[if_pos h]
 exact⟨e,fval_bad (by rw[e];decide)⟩
theorem Za5{l:List Nat}(h:¬Zew l)(h2:QA l):YP l=3/\Yz l=0:=by
 have e:YP l=3:=by unfold YP;rw[if_neg h,if_pos h2]
 exact⟨e,fval_bad (by rw[e];decide)⟩
theorem Zd8{l:List Nat}(h:¬Zew l)(h2:¬QA l)(h3:fred l):YP l=12/\Yz l=0:=by
 have e:YP l=12:=by unfold YP;rw[if_neg h,if_neg h2,if_pos h3]
 exact⟨e,fval_bad (by rw[e];decide)⟩
theorem ferr_ok{l:List Nat}(h:¬Zew l)(h2:¬QA l)(h3:¬fred l):YP l=0/\Yz l=mkRat (sI (Zdq l)<|Xw<|QD l) (Xw<|QI l):=by
 have e:YP l=0:=by unfold YP;rw[if_neg h,if_neg h2,if_neg h3]
 exact⟨e,by rw[fval_ok e,fraw_sI]⟩
theorem fval_bdB{k:Nat}(hB:∀l:List Nat,(∀c∈l,48<=c/\c<=57)->l.length<=256->Xw l<=2^k)(l:List Nat):(Yz l).num.natAbs<=2^k/\(Yz l).den<=2^k:=by
 by_cases h:YP l=0;rcases ferr_cases l with h1|h1|h1|h1;omega;omega;omega;have hb:=h1.1;have hl:=h1.2.1;simp only[Zew,not_or,Classical.not_not,not_and] at hb;simp only[QA,not_or,Nat.not_lt] at hl;have hd:=Zf7 h1.1 h1.2.2.1;rw[fval_ok h];exact⟨Xy (by omega) (by rw[Zhr];exact hB _ hb.1.2.1 hl.1),Xz (by omega) (hB _ hb.2.1.2.1 hl.2)⟩;rw[fval_bad h];exact⟨Nat.zero_le _,Nat.one_le_two_pow⟩
theorem Xc:∀l:List Nat,(Yz l).num.natAbs<=2^900/\(Yz l).den<=2^900:=fval_bdB (k:=900) (λ_ h hl=>pval_le h hl)
theorem Fs.num_le{S:Sh}{cs:List Value}{q:Rat}{k:Nat}(h:Fs S cs [q] k):q.num.natAbs<=2^k:=by
 obtain⟨us,_,hi⟩:=h.num;exact hi.le
theorem Fs.toR{S:Sh}{cs:List Value}{p q:Rat}{k k':Nat}(h:Fs S cs [p] k)(e:[p]=[q])(hk:q.num.natAbs<=2^k'/\q.den<=2^k'):Fs S cs [q] k':=by
 have e':p=q:=by simpa using e
 subst e';obtain⟨a,b,c,d,e,rfl,h1,h2,_⟩:=h.one;exact Fr.fs ⟨a,b,c,d,e,rfl,h1.rek hk.1,h2.rek (by omega),hk.2⟩
theorem Zet{a b:Rat}{ka kb:Nat}(h1:a.num.natAbs<=2^ka)(h2:a.den<=2^ka)(h3:b.num.natAbs<=2^kb)(h4:b.den<=2^kb):(a+b).num.natAbs<=2^(ka+kb+1)/\(a+b).den<=2^(ka+kb+1):=by
 rw[<-Qn];have hd:=Nat.mul_pos a.den_pos b.den_pos;have e:2^(ka+kb+1)=2^ka*2^kb+2^ka*2^kb:=by rw[Nat.pow_succ,Nat.pow_add];omega
 have p1:=Nat.mul_le_mul h1 h4;have p2:=Nat.mul_le_mul h3 h2;have p3:=Nat.mul_le_mul h2 h4;rw[Nat.mul_comm (2^kb)] at p2;refine⟨Xy hd ?_,Xz hd (by omega)⟩;have q1:=Int.natAbs_mul a.num (b.den:Int);have q2:=Int.natAbs_mul b.num (a.den:Int);rw[Int.natAbs_natCast] at q1 q2;have q3:=Int.natAbs_add_le (a.num*(b.den:Int)) (b.num*(a.den:Int));omega
theorem sub_bd{a b:Rat}{ka kb:Nat}(h1:a.num.natAbs<=2^ka)(h2:a.den<=2^ka)(h3:b.num.natAbs<=2^kb)(h4:b.den<=2^kb):(a-b).num.natAbs<=2^(ka+kb+1)/\(a-b).den<=2^(ka+kb+1):=by
 rw[Rat.sub_eq_add_neg];exact Zet h1 h2 (by rw[(Zd1 b).1,Int.natAbs_neg];exact h3) h4
theorem mul_bd{a b:Rat}{ka kb:Nat}(h1:a.num.natAbs<=2^ka)(h2:a.den<=2^ka)(h3:b.num.natAbs<=2^kb)(h4:b.den<=2^kb):(a*b).num.natAbs<=2^(ka+kb)/\(a*b).den<=2^(ka+kb):=by
 rw[<-Zcc,Nat.pow_add];have hd:=Nat.mul_pos a.den_pos b.den_pos;have p1:=Nat.mul_le_mul h1 h3;have p3:=Nat.mul_le_mul h2 h4;rw[<-Nat.pow_add] at p1 p3 ⊢;exact⟨Xy hd (by rw[Int.natAbs_mul];exact p1),Xz hd p3⟩
theorem div_bd{a b:Rat}{ka kb:Nat}(h1:a.num.natAbs<=2^ka)(h2:a.den<=2^ka)(h3:b.num.natAbs<=2^kb)(h4:b.den<=2^kb)(h0:b.num≠0):(a/b).num.natAbs<=2^(ka+kb)/\(a/b).den<=2^(ka+kb):=by
 rw[<-Zcd h0];have hd:=Nat.mul_pos a.den_pos (show 0<b.num.natAbs by omega);have p1:=Nat.mul_le_mul h1 h4;have p3:=Nat.mul_le_mul h2 h3;rw[<-Nat.pow_add] at p1 p3;refine⟨Xy hd ?_,Xz hd p3⟩;rw[Int.natAbs_mul,Int.natAbs_mul,Int.natAbs_natCast];have:(Yu b.num).natAbs=1:=by rcases sgnZ_cases b.num with e|e|e;rw[e];rfl;exact absurd (Yh.1 e) h0;rw[e];rfl
 rw[this,Nat.mul_one];exact p1
theorem mkRat_quo{a b:Int}(h:b≠0):mkRat (if b<0 then -a else a) b.natAbs=(a:Rat)/(b:Rat):=by
 rw[Rat.mkRat_eq_div];have hb:(b:Rat)≠0:=by intro z;exact h (by exact_mod_cast z)
 split;have e:((b.natAbs:Nat):Rat)= -(b:Rat):=by
  have:((b.natAbs:Nat):Int)= -b:=by omega
  rw[<-Rat.intCast_neg,<-this];rfl
 rw[e,Rat.intCast_neg];grind;have e:((b.natAbs:Nat):Rat)=(b:Rat):=by
  have:((b.natAbs:Nat):Int)=b:=by omega
  rw[<-Rat.intCast_natCast,this]
 rw[e]
theorem quo_bd{a b:Int}{ka kb:Nat}(h1:a.natAbs<=2^ka)(h2:b.natAbs<=2^kb)(h:b≠0):((a:Rat)/(b:Rat)).num.natAbs<=2^(ka+kb)/\((a:Rat)/(b:Rat)).den<=2^(ka+kb):=by
 rw[<-mkRat_quo h];have hd:0<b.natAbs:=by omega
 refine⟨Xy hd ?_,Xz hd (Nat.le_trans h2<|YT (by omega))⟩;refine Nat.le_trans ?_<|Nat.le_trans h1<|YT (by omega);split <;> omega
section
section
variable{P:Program}{a:Act}{w:World}{n:Nat}{l:List (Nat × Value)}{K:Value->World->Prop}
variable{d:Option Tmp}{ty:TypeId}{pos:String}{af:Array Edge}{g0:Option (Nat × Bool)}
theorem Zer{t e:TypeId}{m sz:Nat}{z:Value}{ps:Array (Nat × Operand)}{vs:List (Nat × List Value)}{cs:List Value}{S0 S:Sh}{w0:World}{H:Own}(ht:P.underlying t=some (.slice e))(hZ:Yy P e=some sz)(hz:XT P e=some z)(hp:PartsA sz l (m*sz) ps.toList vs)(us:List (List Value))(h1:vs=Zaa 0 us)(h2:us.flatten.length=m*sz)(hcs:us.flatten=cs)(hlim:m*sz<=16777216)(hR:Run S0 w0 S H w)(k:∀b S' w',S.le S'->Row S' b e cs->Run S0 w0 S' H w'->K (.slice (some ⟨b,0,none⟩) m m) w')(a:Act)(hL:ZD a n l):YL P ⟨d,.buildSlice t m ps,ty,pos,af,g0⟩ a w K:=by
 refine Cu hL<|Yf ht hZ hz hp us h1 h2 hcs hlim hR λb w' r=>?_;obtain⟨S',l1,r1,r2⟩:=r.freeze;exact k b S' w' l1 r1 r2
end
def Is(S:Sh):List Value->List Int->Nat->Prop
  |cs,[],_=>cs=[]
  |cs,q::r,k=>∃us vs,cs=us++vs/\In S us q k/\Is S vs r k
theorem Is.up{S S':Sh}{k:Nat}(l:S.le S'):∀{qs:List Int} {cs:List Value},Is S cs qs k->Is S' cs qs k
  |[],_,h=>h
  |_::_,_,⟨us,vs,e,h1,h2⟩=>⟨us,vs,e,h1.up l,Is.up l h2⟩
theorem Is.wide{S:Sh}{k k':Nat}(hk:k<=k'):∀{qs:List Int} {cs:List Value},Is S cs qs k->Is S cs qs k'
  |[],_,h=>h
  |_::_,_,⟨us,vs,e,h1,h2⟩=>⟨us,vs,e,h1.wide hk,Is.wide hk h2⟩
theorem Is.len{S:Sh}{k:Nat}:∀{qs:List Int} {cs:List Value},Is S cs qs k->cs.length=3*qs.length
  |[],_,h=>by simp[show _=[] from h]
  |_::_,_,⟨us,vs,e,h1,h2⟩=>by rw[e,List.length_append,h1.len,Is.len h2,List.length_cons];omega
theorem Is.ones{S:Sh}{k:Nat}:∀{qs:List Int} {cs:List Value},Is S cs qs k->∀u∈cs,one u=true
  |[],_,h=>by simp[show _=[] from h]
  | _::_,_,⟨us,vs,e,h1,h2⟩=>by
    subst e
    intro u hu
    rcases List.mem_append.1 hu with h|h
    · exact h1.ones u h
    · exact Is.ones h2 u h
theorem Is.one{S:Sh}{cs:List Value}{q:Int}{k:Nat}(h:Is S cs [q] k):In S cs q k:=by
 obtain⟨us,vs,e,h1,h2⟩:=h;have:vs=[]:=h2;subst this;simpa [e] using h1
theorem Is.append{S:Sh}{k:Nat}:∀{qs rs:List Int} {cs us:List Value},Is S cs qs k->Is S us rs k->Is S (cs++us) (qs++rs) k
  |[],_,_,_,h,h'=>by rw[show _=[] from h];simpa using h'
  |_::_,_,_,_,⟨us,vs,e,h1,h2⟩,h'=>⟨us,_,by rw[e,List.append_assoc],h1,Is.append h2 h'⟩
theorem Is.drop{S:Sh}{k:Nat}:∀{qs:List Int} {cs:List Value} (i:Nat),Is S cs qs k->Is S (cs.drop (3*i)) (qs.drop i) k
  |_,_,0,h=>by simpa using h
  |[],_,i+1,h=>by rw[show _=[] from h];rfl
  | _::r,_,i+1,⟨us,vs,e,h1,h2⟩=>by
    subst e
    rw[show 3*(i+1)=us.length+3*i by rw[h1.len];omega,List.drop_length_add_append]
    exact Is.drop i h2
theorem Is.take{S:Sh}{k:Nat}:∀{qs:List Int} {cs:List Value} (i:Nat),Is S cs qs k->Is S (cs.take (3*i)) (qs.take i) k
  |_,_,0,h=>by simp[Is]
  |[],_,i+1,h=>by rw[show _=[] from h];rfl
  | _::r,_,i+1,⟨us,vs,e,h1,h2⟩=>by
    subst e
    rw[show 3*(i+1)=us.length+3*i by rw[h1.len];omega,List.take_length_add_append]
    exact⟨us,_,rfl,h1,Is.take i h2⟩
theorem Is.part{S:Sh}{qs:List Int}{cs:List Value}{k:Nat}(i j:Nat)(h:Is S cs qs k):∃us,(cs.drop (3*i)).take (3*j)=us/\Is S us ((qs.drop i).take j) k:=⟨_,rfl,(h.drop i).take j⟩
theorem Is.set{S:Sh}{qs:List Int}{cs us:List Value}{q:Int}{k:Nat}(i:Nat)(h:Is S cs qs k)(h':Is S us [q] k)(hi:i<qs.length):∃vs,QU cs (3*i) us=vs/\Is S vs (qs.set i q) k:=by
 refine⟨_,rfl,?_⟩;unfold QU;rw[h'.len];have h1:=(h.take i).append h';have h2:=h1.append (h.drop (i+1));have e1:3*i+3*[q].length=3*(i+1):=by simp;omega
 rw[e1];have e2:qs.take i++[q]++qs.drop (i+1)=qs.set i q:=by rw[List.set_eq_take_append_cons_drop,if_pos hi];simp
 rw[<-e2];exact h2
theorem In.is{S:Sh}{cs:List Value}{q:Int}{k:Nat}(h:In S cs q k):Is S cs [q] k:=⟨cs,[],by simp,h,rfl⟩
theorem Is.at{S:Sh}{zs:List Int}{cs:List Value}{k:Nat}(i:Nat){z:Int}(h:Is S cs zs k)(hz:zs[i]? =some z):∃us,(cs.drop (3*i)).take 3=us/\In S us z k:=by
 obtain⟨us,e,h1⟩:=h.part i 1;refine⟨us,e,?_⟩;have:(zs.drop i).take 1=[z]:=by
  have hi:i<zs.length:=by rcases Nat.lt_or_ge i zs.length with q|q;exact q;rw[List.getElem?_eq_none q] at hz;cases hz
  rw[List.drop_eq_getElem_cons hi];rw[List.getElem?_eq_getElem hi] at hz;simp at hz;simp[hz]
 rw[this] at h1;exact h1.one
theorem Is.zero4(S:Sh)(k:Nat):Is S [.bool false,.int .u64 0,.slice none 0 0,.bool false,.int .u64 0,.slice none 0 0,.bool false,.int .u64 0,.slice none 0 0,.bool false,.int .u64 0,.slice none 0 0] [0,0,0,0] k:=
  ((In.zero S k).is.append ((In.zero S k).is.append ((In.zero S k).is.append (In.zero S k).is)))
theorem Is.to{S:Sh}{cs:List Value}{qs qs':List Int}{k k':Nat}(h:Is S cs qs k)(e:qs=qs')(hk:k<=k'):Is S cs qs' k':=e▸h.wide hk
theorem Fs.zero3(S:Sh)(k:Nat):Fs S [.bool false,.int .u64 0,.slice none 0 0,.int .u64 0,.slice none 0 0,.bool false,.int .u64 0,.slice none 0 0,.int .u64 0,.slice none 0 0,.bool false,.int .u64 0,.slice none 0 0,.int .u64 0,.slice none 0 0] [0,0,0] k:=
  (Fs.zero S k).append ((Fs.zero S k).append (Fs.zero S k))
theorem Fs.zero4(S:Sh)(k:Nat):Fs S [.bool false,.int .u64 0,.slice none 0 0,.int .u64 0,.slice none 0 0,.bool false,.int .u64 0,.slice none 0 0,.int .u64 0,.slice none 0 0,.bool false,.int .u64 0,.slice none 0 0,.int .u64 0,.slice none 0 0,.bool false,.int .u64 0,.slice none 0 0,.int .u64 0,.slice none 0 0] [0,0,0,0] k:=
  (Fs.zero S k).append (Fs.zero3 S k)
def verr(x y z:List Nat):Int:=if YP x≠0 then YP x else if YP y≠0 then YP y else YP z
theorem Run.sub{S0 S:Sh}{w0 w:World}{H H':Own}(h:Run S0 w0 S H w)(hs:H'.Sublist H):Run S0 w0 S H' w:=⟨h.ext,λx hx=>h.own x<|hs.subset hx,List.Sublist.nodup (List.Sublist.map _ hs) h.nodup⟩
end
section
section
variable{P:Program}{a:Act}{w:World}{n:Nat}{l:List (Nat × Value)}{K:Value->World->Prop}
variable{d:Option Tmp}{ty:TypeId}{pos:String}{af:Array Edge}{g0:Option (Nat × Bool)}
end
def QS(x y z u:Int):Int:=if x≠0 then x else if y≠0 then y else if z≠0 then z else u
theorem lex4_0{x y z u:Int}(h:x≠0):x=QS x y z u:=(if_pos h).symm
theorem lex4_1{x y z u:Int}(h:x=0)(h1:y≠0):y=QS x y z u:=by unfold QS;rw[if_neg (by omega),if_pos h1]
theorem lex4_2{x y z u:Int}(h:x=0)(h1:y=0)(h2:z≠0):z=QS x y z u:=by unfold QS;rw[if_neg (by omega),if_neg (by omega),if_pos h2]
theorem lex4_3{x y z u:Int}(h:x=0)(h1:y=0)(h2:z=0):u=QS x y z u:=by unfold QS;rw[if_neg (by omega),if_neg (by omega),if_neg (by omega)]
def Zbv(x y z u:List Nat):Int:=if YP x≠0 then YP x else if YP y≠0 then YP y else if YP z≠0 then YP z else if YP u≠0 then YP u else if(Yz x).num=0/\(Yz y).num=0/\(Yz z).num=0 then 2 else 0
theorem perr_0{x y z u:List Nat}(h:¬YP x=0):Zbv x y z u=YP x:=if_pos h
theorem perr_1{x y z u:List Nat}(h:YP x=0)(h2:¬YP y=0):Zbv x y z u=YP y:=by unfold Zbv;rw[if_neg (by simpa using h),if_pos h2]
theorem perr_2{x y z u:List Nat}(h:YP x=0)(h2:YP y=0)(h3:¬YP z=0):Zbv x y z u=YP z:=by unfold Zbv;rw[if_neg (by simpa using h),if_neg (by simpa using h2),if_pos h3]
theorem perr_3{x y z u:List Nat}(h:YP x=0)(h2:YP y=0)(h3:YP z=0)(h4:¬YP u=0):Zbv x y z u=YP u:=by unfold Zbv;rw[if_neg (by simpa using h),if_neg (by simpa using h2),if_neg (by simpa using h3),if_pos h4]
theorem perr_4{x y z u:List Nat}(h:YP x=0)(h2:YP y=0)(h3:YP z=0)(h4:YP u=0)(h5:(Yz x).num=0/\(Yz y).num=0/\(Yz z).num=0):Zbv x y z u=2:=by unfold Zbv;rw[if_neg (by simpa using h),if_neg (by simpa using h2),if_neg (by simpa using h3),if_neg (by simpa using h4),if_pos h5]
theorem perr_5{x y z u:List Nat}(h:YP x=0)(h2:YP y=0)(h3:YP z=0)(h4:YP u=0)(h5:¬((Yz x).num=0/\(Yz y).num=0/\(Yz z).num=0)):Zbv x y z u=0:=by unfold Zbv;rw[if_neg (by simpa using h),if_neg (by simpa using h2),if_neg (by simpa using h3),if_neg (by simpa using h4),if_neg h5]
end
def pvA(x y z u:List Nat):Rat:=if Zbv x y z u=0 then pn (Yz x) (Yz y) (Yz z) (Yz u) (Yz x) else 0
def pvB(x y z u:List Nat):Rat:=if Zbv x y z u=0 then pn (Yz x) (Yz y) (Yz z) (Yz u) (Yz y) else 0
def pvC(x y z u:List Nat):Rat:=if Zbv x y z u=0 then pn (Yz x) (Yz y) (Yz z) (Yz u) (Yz z) else 0
def pvD(x y z u:List Nat):Rat:=if Zbv x y z u=0 then pn (Yz x) (Yz y) (Yz z) (Yz u) (Yz u) else 0
def vvA(x y z:List Nat):Rat:=if verr x y z=0 then Yz x else 0
def vvB(x y z:List Nat):Rat:=if verr x y z=0 then Yz y else 0
def vvC(x y z:List Nat):Rat:=if verr x y z=0 then Yz z else 0
inductive AV where
  |n (a:Nat)
  |z (a:Int)
  |q (a:Rat)
  |s (a:ByteArray)
def AV.neg:AV->Bool
  | .z a=>decide (a<0)
  | .q r=>decide (r.num<0)
  |_=>false
def AV.abs:AV->Nat
  | .n a=>a
  | .z a=>a.natAbs
  | .q r=>r.num.natAbs
  |_=>0
def AV.dn:AV->Nat
  | .q r=>r.den-1
  |_=>0
def AV.kind:AV->Nat
  | .n _=>0
  | .z _=>1
  | .q _=>2
  | .s _=>3
def AV.nat:AV->Nat
  | .n a=>a
  |_=>0
def AV.int:AV->Int
  | .z a=>a
  |_=>0
def AV.rat:AV->Rat
  | .q a=>a
  |_=>0
def AV.txt:AV->ByteArray
  | .s a=>a
  |_=>⟨#[]⟩
def AV.of(k:Nat):AV:=match k with
  |0=>.n 0
  |1=>.z 0
  |2=>.q 0
  |_=>.s ⟨#[]⟩
theorem AV.k0{x:AV}(h:x.kind=0):x= .n x.nat:=by cases x <;> first|rfl|cases h
theorem AV.k1{x:AV}(h:x.kind=1):x= .z x.int:=by cases x <;> first|rfl|cases h
theorem AV.k2{x:AV}(h:x.kind=2):x= .q x.rat:=by cases x <;> first|rfl|cases h
theorem AV.k3{x:AV}(h:x.kind=3):x= .s x.txt:=by cases x <;> first|rfl|cases h
def semX(o:Nat)(l:List AV):AV:=match o,l with
  |43,[x]=>.s (Xb<|rtxt x.rat)
  |46,[a,b,c,d,q]=>.q (pn a.rat b.rat c.rat d.rat q.rat)
  |50,[x,y,z,u]=>.q (pvA (bl x.txt) (bl y.txt) (bl z.txt)<|bl u.txt)
  |54,[x,y,z,u]=>.q (pvB (bl x.txt) (bl y.txt) (bl z.txt)<|bl u.txt)
  |58,[x,y,z,u]=>.q (pvC (bl x.txt) (bl y.txt) (bl z.txt)<|bl u.txt)
  |62,[x,y,z,u]=>.q (pvD (bl x.txt) (bl y.txt) (bl z.txt)<|bl u.txt)
  |66,[x,y,z]=>.q (vvA (bl x.txt) (bl y.txt)<|bl z.txt)
  |70,[x,y,z]=>.q (vvB (bl x.txt) (bl y.txt)<|bl z.txt)
  |44,[x]=>.n (x.rat.den-1)
  |45,[x]=>.z (-(x.nat:Int))
  |48,[x,y]=>.n (x.nat-y.nat)
  |78,[x,y]=>.q (mkRat x.int y.nat)
  |52,[x,y]=>.n (max x.abs y.abs)
  |74,[x,y,z]=>.q (vvC (bl x.txt) (bl y.txt)<|bl z.txt)
  |o,_=>.of (o%4)
def Zg9(o:Nat)(l:List AV):AV:=match o,l with
  |12,[x]=>.n x.int.natAbs
  |13,[x]=>.z x.rat.num
  |16,[x]=>.n x.rat.den
  |20,[x]=>.n x.rat.num.natAbs
  |24,[x,y]=>.n (x.nat*y.nat)
  |28,[x,y]=>.n (Nat.gcd x.nat y.nat)
  |32,[x,y]=>.n (x.nat/y.nat)
  |36,[x,y]=>.n (x.nat+y.nat)
  |40,[x,y]=>.n (x.nat%y.nat)
  |17,[x]=>.z x.nat
  |21,[x,y]=>.z (sI x.neg y.nat)
  |25,[x]=>.z (-x.int)
  |29,[x,y]=>.z (x.int+y.int)
  |33,[x,y]=>.z (x.int-y.int)
  |37,[x,y]=>.z (x.int*y.int)
  |14,[x]=>.q (x.int:Rat)
  |18,[x]=>.q (-x.rat)
  |22,[x,y]=>.q (x.rat+y.rat)
  |26,[x,y]=>.q (x.rat-y.rat)
  |30,[x,y]=>.q (x.rat*y.rat)
  |34,[x,y]=>.q (x.rat/y.rat)
  |38,[x]=>.q (Yz<|bl x.txt)
  |42,[x,y]=>.q ((x.int:Rat)/(y.int:Rat))
  |o,l=>semX o l
def semK(base f:Nat->AV)(key:List Nat):AV:=match key with
  |[0,i]=>.n (base i).nat
  |[1,i]=>.z (base i).int
  |[2,i]=>.q (base i).rat
  |[3,i]=>.s (base i).txt
  |[4,a]=>.n a
  |[5]=>.z 0
  |[6]=>.q 0
  |[9,a,s]=>.z (if s=0 then(a:Int) else -(a:Int))
  |[10,a,s]=>.q (if s=0 then((a:Int):Rat) else((-(a:Int):Int):Rat))
  |o::is=>Zg9 o (is.map f)
  |[]=>.n 0
structure Rw where
  key:List Nat
  c:Nat
  d:Nat
abbrev CL:=List (List Nat × Int)
structure Tb where
  rows:List Rw
  conds:List (List Nat × Int)
  km:Nat
def opOf(key:List Nat):Nat:=match key with
  |[]=>0
  |o::_=>o
theorem AV.of_kind(k:Nat)(h:k<4):(AV.of k).kind=k:=by
 match k,h with
 |0,_=>rfl
 |1,_=>rfl
 |2,_=>rfl
 |3,_=>rfl
theorem semX_kind(o:Nat)(l:List AV):(semX o l).kind=o%4:=by
 unfold semX;split;all_goals first|rfl|skip
 exact AV.of_kind _<|Nat.mod_lt _ (by omega)
theorem semL_kind(o:Nat)(l:List AV):(Zg9 o l).kind=o%4:=by
 unfold Zg9;split;all_goals first|rfl|skip
 exact semX_kind _ _
theorem semK_kind(base f:Nat->AV)(key:List Nat):(semK base f key).kind=opOf key%4:=by
 unfold semK;split;all_goals first|rfl|exact semL_kind _ _|simp[AV.kind,opOf]
def eqN(l:List Nat):List Nat->Bool:=List.rec (λm=>List.rec true (λ_ _ _=>false) m) (λa _ ih m=>List.rec false (λb r _=>Bool.rec false (ih r)<|Nat.beq a b) m) l
theorem eqN_eq:∀{l m:List Nat},eqN l m=true->l=m
  |[],[],_=>rfl
  |[],_::_,h=>by cases h
  |_::_,[],h=>by cases h
  | a ::l,b::m,h=>by
    have h':(Bool.rec false (eqN l m) (Nat.beq a b):Bool)=true:=h
    cases hb:Nat.beq a b with
    |false=>rw[hb] at h';cases h'
    | true=>
      rw[hb] at h'
      rw[YY] at hb
      rw[hb,eqN_eq h']
def findGo(key:List Nat)(rows:List Rw):Nat->Option Nat:=List.rec (λ_=>none) (λr _ ih i=>Bool.rec (ih<|Nat.succ i) (some i)<|eqN r.key key) rows
def Zgn(key:List Nat)(l:List (List Nat × Int)):Option Int:=List.rec none (λc _ ih=>Bool.rec ih (some c.2)<|eqN c.1 key) l
theorem Zab{key:List Nat}{x:Int}:∀{l:List (List Nat × Int)},Zgn key l=some x->(key,x)∈l
  |[],h=>by cases h
  | c ::r,h=>by
    have h':(Bool.rec (Zgn key r) (some c.2) (eqN c.1 key):Option Int)=some x:=h
    cases he:eqN c.1 key with
    |false=>rw[he] at h';exact List.mem_cons_of_mem _ (Zab h')
    | true=>
      rw[he] at h'
      simp only[Option.some.injEq] at h'
      rw[<-eqN_eq he,<-h']
      exact List.mem_cons_self ..
def txtsEq(l:List AV):Int:=if(l.take (l.length/2)).map AV.txt=(l.drop (l.length/2)).map AV.txt then 1 else 0
def semU(t:Nat)(l:List AV):Int:=match t,l with
  |7,[x,y,z,u]=>Zbv (bl x.txt) (bl y.txt) (bl z.txt) (bl u.txt)
  |8,l=>txtsEq l
  |9,[x,y,z]=>if x.rat.num=0/\y.rat.num=0/\z.rat.num=0 then 1 else 0
  |10,[a,b,c,d,e,f,g,h]=>QS (Yp a.rat e.rat) (Yp b.rat f.rat) (Yp c.rat g.rat) (Yp d.rat h.rat)
  |11,[x,y,z]=>verr (bl x.txt) (bl y.txt) (bl z.txt)
  |12,[x]=>if 1024<x.txt.size then 1 else 0
  |16,[x]=>(ZC x.nat:Nat)
  |17,[x,y]=>cmpZ x.int y.int
  |20,[x]=>if x.nat=1 then 1 else 0
  |19,[x]=>if x.abs=0 then 1 else 0
  |18,[x,y]=>if y.nat<=x.nat then 1 else 0
  |21,[x,y]=>if((ZC x.abs:Nat):Int)=((ZC y.abs:Nat):Int) then 1 else 0
  |22,[x,y]=>if((ZC x.abs:Nat):Int)<=((ZC y.abs:Nat):Int) then 1 else 0
  |23,[x,y,z]=>if max ((ZC x.abs:Nat):Int) ((ZC y.abs:Nat):Int)=((ZC z.abs:Nat):Int) then 1 else 0
  |15,[x,y,z,u]=>if [x.txt,y.txt,z.txt,u.txt]=[Xb [48],Xb [48],Xb [49],Xb [48]] then 1 else 0
  |_,_=>0
def semT(t:Nat)(l:List AV):Int:=match t,l with
  |1,[x]=>Yu x.rat.num
  |2,[x,y]=>Yp x.rat y.rat
  |3,[x]=>Yu x.int
  |4,[x]=>YP (bl x.txt)
  |5,[x]=>if x.nat=0 then 1 else 0
  |6,[x,y]=>Zcy x.nat y.nat
  |t,l=>semU t l
def ZI(ρ:Nat->AV)(key:List Nat):Int:=match key with
  |[]=>0
  |t::is=>semT t<|is.map ρ
def Cs(T:Tb)(ρ:Nat->AV):Prop:=∀c∈T.conds,ZI ρ c.1=c.2
def Csl(ρ:Nat->AV):List (List Nat × Int)->Prop
  |[]=>True
  |c::r=>ZI ρ c.1=c.2/\Csl ρ r
theorem Csl.nil{ρ:Nat->AV}:Csl ρ []:=trivial
theorem Csl.cons{ρ:Nat->AV}{k:List Nat}{v:Int}{l:List (List Nat × Int)}(h:ZI ρ k=v)(hl:Csl ρ l):Csl ρ ((k,v)::l):=⟨h,hl⟩
theorem Csl.all{ρ:Nat->AV}:∀{l:List (List Nat × Int)},Csl ρ l->∀c∈l,ZI ρ c.1=c.2
  |[],_,c,h=>by cases h
  | d::r,h,c,hc=>by
    rcases List.mem_cons.1 hc with rfl|hc
    · exact h.1
    · exact Csl.all h.2 c hc
theorem tr{α:Type}{a b c:α}(h:a=c)(e:a=b:=by kernel_rfl):b=c:=e.symm.trans h
section
section
inductive Ato where
  |s (i:Nat)
  |a (i:Nat)
  |d (i:Nat)
  |t (i:Nat)
  |l (i:Nat)
  |g (i:Nat)
  |h (i:Nat)
  |m (i:Nat)
  |n (i:Nat)
def Zez(T:Tb)(key:List Nat):Option Bool:=match Zgn key T.conds with
  | some x=>match x with
    | .ofNat n=>match n with
      |0=>some false
      |1=>some true
      |_=>none
    |_=>none
  |none=>none
theorem Qh{T:Tb}{ρ:Nat->AV}(hT:Cs T ρ){key:List Nat}{b:Bool}(h:Zez T key=some b):ZI ρ key=if b then 1 else 0:=by
 unfold Zez at h;split at h;rename_i x hx;have h1:=hT _ (Zab hx);split at h;split at h;cases h;exact h1;cases h;exact h1;cases h;cases h;cases h
def namesT(l:List (TC Ato)):Option (List Nat):=List.rec (some []) (λc _ ih=>match c with
  | .at_ (.t i)=>match ih with
    |some is=>some (i::is)
    |none=>none
  |_=>none) l
def teqD(T:Tb)(l m:List (TC Ato)):Option Bool:=match namesT l with
  | some is=>match namesT m with
    | some js=>match Nat.beq is.length js.length with
      |true=>Zez T (8::(appL is js))
      |false=>none
    | none=>match m with
      | [.k [48],.k [48],.k [49],.k [48]]=>match is with
        |[a,b,c,d]=>Zez T [15,a,b,c,d]
        |_=>none
      |_=>none
  |none=>none
def predS(ρ:Nat->AV)(bd:Nat->Nat)(x:Ato)(S:Sh)(cs:List Value):Prop:=match x with
    | .s i=>cs=[.bool (ρ i).neg]
    | .a i=>Na S cs (ρ i).abs (bd i)
    | .d i=>Na S cs (ρ i).dn (bd i)/\(ρ i).dn+1<=2^bd i
    | .t i=>∃s,ρ i= .s s/\cs=[.string s]
    | .l i=>∃s,ρ i= .s s/\cs=[.int .i64 s.size]
    | .g i=>∃v,cs=[v]/\Gn S v (ρ i).abs (bd i)
    | .h i=>∃v,cs=[v]/\Gn S v ((ρ i).dn+1) (bd i)
    | .m i=>∃n:Nat,cs=[.int .i64 n]/\(n=0↔(ρ i).abs=0)
    | .n i=>cs=[.int .i64 (ZC (ρ i).abs)]
theorem namesT_ok{ρ:Nat->AV}{bd:Nat->Nat}{S:Sh}:∀{l:List (TC Ato)} {is:List Nat} {us:List ByteArray},namesT l=some is->TxtL (predS ρ bd) S l us->us=is.map λi=>(ρ i).txt
  | [],is,us,h,hu=>by
    have h':some []=some is:=h
    cases h'
    cases us with
    |nil=>rfl
    |cons u r=>exact hu.elim
  | .k s::l,is,us,h,hu=>by cases (show(none:Option (List Nat))=some is from h)
  | .at_ (.s i)::l,is,us,h,hu=>by cases (show(none:Option (List Nat))=some is from h)
  | .at_ (.a i)::l,is,us,h,hu=>by cases (show(none:Option (List Nat))=some is from h)
  | .at_ (.d i)::l,is,us,h,hu=>by cases (show(none:Option (List Nat))=some is from h)
  | .at_ (.l i)::l,is,us,h,hu=>by cases (show(none:Option (List Nat))=some is from h)
  | .at_ (.g i)::l,is,us,h,hu=>by cases (show(none:Option (List Nat))=some is from h)
  | .at_ (.h i)::l,is,us,h,hu=>by cases (show(none:Option (List Nat))=some is from h)
  | .at_ (.m i)::l,is,us,h,hu=>by cases (show(none:Option (List Nat))=some is from h)
  | .at_ (.n i)::l,is,us,h,hu=>by cases (show(none:Option (List Nat))=some is from h)
  | .at_ (.t i)::l,is,us,h,hu=>by
    have h':(match namesT l with
      |some is=>some (i::is)
      |none=>none)=some is:=h
    cases hn:namesT l with
    |none=>rw[hn] at h';cases h'
    | some js=>
      rw[hn] at h'
      cases h'
      cases us with
      |nil=>exact hu.elim
      | cons u r=>
        obtain⟨⟨s,e,hv⟩,h2⟩:=hu
        simp only[List.cons.injEq,Value.string.injEq,and_true] at hv
        subst hv
        rw[List.map_cons,<-namesT_ok hn h2,e]
        rfl
theorem Zff{p:Prop}[Decidable p]{b:Bool}(h:(if p then(1:Int) else 0)=if b then 1 else 0):decide p=b:=by
 by_cases hp:p;cases b;rw[if_pos hp] at h;cases h;simp[hp];cases b;simp[hp];rw[if_neg hp] at h;cases h
theorem teqD_ok{T:Tb}{ρ:Nat->AV}{bd:Nat->Nat}(hT:Cs T ρ){l m:List (TC Ato)}{r:Bool}{S:Sh}{us vs:List ByteArray}(h:teqD T l m=some r)(h1:TxtL (predS ρ bd) S l us)(h2:TxtL (predS ρ bd) S m vs):decide (us=vs)=r:=by
 unfold teqD at h;split at h;rename_i is his;have e1:=namesT_ok his h1;split at h;rename_i js hjs;have e2:=namesT_ok hjs h2;split at h;rename_i hn;rw[YY] at hn;have h3:=Qh hT h;rw[Zbe] at h3;have h4:txtsEq ((is++js).map ρ)=if r then 1 else 0:=h3;unfold txtsEq at h4;have e3:((is++js).map ρ).length/2=(is.map ρ).length:=by simp;omega
 rw[e3,List.map_append,List.take_left,List.drop_left,List.map_map,List.map_map] at h4;rw[e1,e2];exact Zff h4;cases h;split at h;split at h;rename_i a b c d;have h3:(if [(ρ a).txt,(ρ b).txt,(ρ c).txt,(ρ d).txt]=[Xb [48],Xb [48],Xb [49],Xb [48]] then(1:Int) else 0)=if r then 1 else 0:=Qh hT h
 have e2:vs=[Xb [48],Xb [48],Xb [49],Xb [48]]:=by
   match vs,h2 with
   | [v0,v1,v2,v3],h2=>
     obtain⟨q0,q1,q2,q3,_⟩:=h2
     rw[q0,q1,q2,q3]
 rw[e1,e2];exact Zff h3;cases h;cases h;cases h
def DS{T : Tb}{ρ:Nat->AV}(hT:Cs T ρ)(bd:Nat->Nat):Dom Ato where
  size:=λx=>match x with
    | .s _=>1
    | .a _=>2
    | .d _=>2
    | .t _=>1
    | .l _=>1
    | .g _=>1
    | .h _=>1
    | .m _=>1
    | .n _=>1
  pred:=predS ρ bd
  up:=λ{x S S' cs} l h=>by
    cases x with
    |s i=>exact h
    |a i=>exact Na.up h l
    |d i=>exact⟨h.1.up l,h.2⟩
    |t i=>exact h
    |l i=>exact h
    |g i=>obtain⟨v,e,h⟩:=h;exact⟨v,e,h.up l⟩
    |h i=>obtain⟨v,e,h⟩:=h;exact⟨v,e,h.up l⟩
    |m i=>exact h
    |n i=>exact h
  len:=λ{x S cs} h=>by
    cases x with
    |s i=>have h':cs=[.bool (ρ i).neg]:=h;rw[h'];rfl
    |a i=>exact Na.len h
    |d i=>exact h.1.len
    |t i=>obtain⟨s,_,rfl⟩:=h;rfl
    |l i=>obtain⟨s,_,rfl⟩:=h;rfl
    |g i=>obtain⟨v,rfl,_⟩:=h;rfl
    |h i=>obtain⟨v,rfl,_⟩:=h;rfl
    |m i=>obtain⟨v,rfl,_⟩:=h;rfl
    |n i=>cases h;rfl
  ones:=λ{x S cs} h=>by
    cases x with
    |s i=>have h':cs=[.bool (ρ i).neg]:=h;rw[h'];intro u hu;simp at hu;subst hu;rfl
    |a i=>exact Na.ones h
    |d i=>exact h.1.ones
    |t i=>obtain⟨s,_,rfl⟩:=h;intro u hu;simp at hu;subst hu;rfl
    |l i=>obtain⟨s,_,rfl⟩:=h;intro u hu;simp at hu;subst hu;rfl
    |g i=>obtain⟨v,rfl,h⟩:=h;intro u hu;simp at hu;subst hu;exact h.one
    |h i=>obtain⟨v,rfl,h⟩:=h;intro u hu;simp at hu;subst hu;exact h.one
    |m i=>obtain⟨v,rfl,h⟩:=h;intro u hu;simp at hu;subst hu;rfl
    |n i=>cases h;intro u hu;simp at hu;subst hu;rfl
  txt:=λx=>match x with
    | .t _=>true
    |_=>false
  txt_ok:=λ{x S cs} h hp=>by
    cases x with
    |t i=>obtain⟨s,_,rfl⟩:=hp;exact⟨s,rfl⟩
    |s i=>cases h
    |a i=>cases h
    |d i=>cases h
    |l i=>cases h
    |g i=>cases h
    |h i=>cases h
    |m i=>cases h
    |n i=>cases h
  teq:=λl m=>teqD T l m
  teq_ok:=λh h1 h2=>teqD_ok (bd:=bd) hT h h1 h2
  tlen:=λx=>match x with
    | .t i=>some (.l i)
    |_=>none
  tlen_ok:=λ{x y S v} h hp=>by
    split at h
    · rename_i i
      cases h
      obtain⟨s,e,h1⟩:=hp
      simp only[List.cons.injEq,and_true] at h1
      exact⟨s,h1,s,e,rfl⟩
    · cases h
  slen:=λx=>match x with
    | .g i=>some (.m i)
    |_=>none
  slen_ok:=λ{x y S v} h hp=>by
    split at h
    · rename_i i
      cases h
      obtain⟨v',e,hg⟩:=hp
      simp only[List.cons.injEq,and_true] at e
      subst e
      obtain⟨_,p,len,cap,rfl,hd⟩:=hg.open
      refine⟨p,len,cap,rfl,len,rfl,?_⟩
      have hl:=hd.hlen
      constructor
      · intro h0
        exact digs_nil (by decide) (hl.trans h0)
      · intro h0
        rw[h0,Xe] at hl
        exact hl.symm
    · cases h
  ieq :=λx j=>match x with
    | .m i=>match j with
      | .ofNat c=>match Nat.beq c 0 with
        |true=>Zez T [19,i]
        |false=>none
      |_=>none
    |_=>none
  ieq_ok := λ{x j r S v} h hp=>by
    split at h
    · rename_i i
      split at h
      · rename_i c
        split at h
        · rename_i hc
          rw[YY] at hc
          subst hc
          obtain⟨n,h1,hn⟩:=hp
          simp only[List.cons.injEq,and_true] at h1
          refine⟨_,h1,?_⟩
          have h3:(if(ρ i).abs=0 then(1:Int) else 0)=if r then 1 else 0:=Qh hT h
          rw[<-Zff h3]
          by_cases q:(ρ i).abs=0
          · simp[q,hn.2 q]
          · have:¬n=0:=λz=>q (hn.1 z)
            simp[q,this]
        · cases h
      · cases h
    · cases h
  igt :=λx j=>match x with
    | .l i=>match j with
      | .ofNat c=>match Nat.beq c 1024 with
        |true=>Zez T [12,i]
        |false=>none
      |_=>none
    | .m i=>match j with
      | .ofNat c=>match Nat.beq c 0 with
        | true=>match Zez T [19,i] with
          |some b=>some (!b)
          |none=>none
        |false=>none
      |_=>none
    |_=>none
  igt_ok := λ{x j r S v} h hp=>by
    split at h
    · rename_i i
      split at h
      · rename_i c
        split at h
        · rename_i hc
          rw[YY] at hc
          subst hc
          obtain⟨s,e,h1⟩:=hp
          simp only[List.cons.injEq,and_true] at h1
          refine⟨_,h1,?_⟩
          have h3:(if 1024<(ρ i).txt.size then(1:Int) else 0)=if r then 1 else 0:=Qh hT h
          rw[e] at h3
          have h4:(if 1024<s.size then(1:Int) else 0)=if r then 1 else 0:=h3
          by_cases e:1024<s.size
          · cases r <;> simp[e] at h4 ⊢;omega
          · cases r <;> simp[e] at h4 ⊢;omega
        · cases h
      · cases h
    · rename_i i
      split at h
      · rename_i c
        split at h
        · rename_i hc
          rw[YY] at hc
          subst hc
          obtain⟨n,h1,hn⟩:=hp
          simp only[List.cons.injEq,and_true] at h1
          refine⟨_,h1,?_⟩
          split at h
          · rename_i b hb
            cases h
            have h3:(if(ρ i).abs=0 then(1:Int) else 0)=if b then 1 else 0:=Qh hT hb
            rw[<-Zff h3]
            by_cases q:(ρ i).abs=0
            · simp[q,hn.2 q]
            · have:¬n=0:=λz=>q (hn.1 z)
              simp[q];omega
          · cases h
        · cases h
      · cases h
    · cases h
  ibin:=λo x y=>match x with
    | .n i=>match y with
      | .n j=>Zez T [match o with|true=>22|false=>21,i,j]
      |_=>none
    |_=>none
  ibin_ok:=λ{o x y r S v u} h hp hq=>by
    split at h
    · split at h
      · rename_i i _ j
        cases hp
        cases hq
        refine⟨_,_,rfl,rfl,?_⟩
        cases o with
        |true=>exact Zff (show(if((ZC (ρ i).abs:Nat):Int)<=((ZC (ρ j).abs:Nat):Int) then(1:Int) else 0)=if r then 1 else 0 from Qh hT h)
        |false=>exact Zff (show(if((ZC (ρ i).abs:Nat):Int)=((ZC (ρ j).abs:Nat):Int) then(1:Int) else 0)=if r then 1 else 0 from Qh hT h)
      · cases h
    · cases h
  imx :=λx y=>match x with
    | .n i=>match y with
      | .n j=>match findGo [52,i,j] T.rows 0 with
        | some k=>match Zez T [23,i,j,k] with
          | some b=>match b with
            |true=>some (.n k)
            |false=>none
          |none=>none
        |none=>none
      |_=>none
    |_=>none
  imx_ok := λ{x y z S v u} h hp hq=>by
    split at h
    · split at h
      · rename_i i _ j
        split at h
        · split at h
          · rename_i k _ _ b hb
            cases b with
            | true=>
              cases h
              cases hp
              cases hq
              have h1:(if max ((ZC (ρ i).abs:Nat):Int) ((ZC (ρ j).abs:Nat):Int)=((ZC (ρ k).abs:Nat):Int) then(1:Int) else 0)=1:=Qh hT hb
              refine⟨_,_,rfl,rfl,?_⟩
              show [_]=[Value.int .i64 ((ZC (ρ k).abs:Nat):Int)]
              by_cases q:max ((ZC (ρ i).abs:Nat):Int) ((ZC (ρ j).abs:Nat):Int)=((ZC (ρ k).abs:Nat):Int)
              · rw[q]
              · rw[if_neg q] at h1;cases h1
            |false=>cases h
          · cases h
        · cases h
      · cases h
    · cases h
  imz:=λx=>match x with
    | .n _=>true
    |_=>false
  imz_ok:=λ{x S v} h hp=>by
    split at h
    · cases hp;exact⟨_,rfl⟩
    · cases h
variable{ρ:Nat->AV}{bd:Nat->Nat}{G:Gh}{T0:Tb}{hT:Cs T0 ρ}
def Rp(S:Sh)(x:AV)(k:Nat)(v:Value):Prop:=match x with
  | .n a=>∃cs,v= .agg cs.toArray/\Na S cs a k
  | .z a=>∃cs,v= .agg cs.toArray/\In S cs a k
  | .q a=>∃cs,v= .agg cs.toArray/\Fs S cs [a] k
  | .s a=>v= .string a
def cN(i:Nat):List (SV Ato):=[.at_ (.a i)]
def cZ(i:Nat):List (SV Ato):=[.at_ (.s i),.at_ (.a i)]
def cQ(i:Nat):List (SV Ato):=[.at_ (.s i),.at_ (.a i),.at_ (.d i)]
theorem In.split{S:Sh}{cs:List Value}{z:Int}{k:Nat}(h:In S cs z k):∃us,cs= .bool (decide (z<0))::us/\Na S us z.natAbs k:=by
 have h1:=h.sign;obtain⟨us,e,h2⟩:=h.abs;have h3:=h.len
 match cs,h3 with
 | [a,b,c],_=>
   simp at h1 e
   subst h1 e
   exact⟨_,rfl,h2⟩
theorem In.join{S:Sh}{us:List Value}{z:Int}{k:Nat}(h:Na S us z.natAbs k):In S (.bool (decide (z<0))::us) z k:=by
 refine In.mk h ?_ λh0=>?_;by_cases hz:z<0;simp[hz];omega;simp[hz];omega;simp;omega
theorem Fs.split{S:Sh}{cs:List Value}{q:Rat}{k:Nat}(h:Fs S cs [q] k):∃us vs,cs= .bool (decide (q.num<0))::us++vs/\Na S us q.num.natAbs k/\Na S vs (q.den-1) k/\q.den<=2^k:=by
 obtain⟨c0,c1,c2,c3,c4,rfl,h1,h2,h3⟩:=h.one;obtain⟨us,e,h4⟩:=h1.split;simp at e;obtain⟨rfl,rfl⟩:=e;exact⟨_,_,rfl,h4,h2,h3⟩
theorem Fs.join{S:Sh}{us vs:List Value}{q:Rat}{k:Nat}(h1:Na S us q.num.natAbs k)(h2:Na S vs (q.den-1) k)(h3:q.den<=2^k):Fs S (.bool (decide (q.num<0))::us++vs) [q] k:=
  Fs.mk (In.join h1) h2 h3
theorem YW.runs{a:Ato}{us:List Value}{cs:List (SV Ato)}{vs vs':List Value}(h:(DS hT bd).pred a G.S us)(hs:YW (DS hT bd) G cs vs')(e:vs=us++vs'):YW (DS hT bd) G (.at_ a::cs) vs:=e▸.run h hs
theorem YW.runI{a:Ato}{cs:List (SV Ato)}{vs:List Value}(h:YW (DS hT bd) G (.at_ a::cs) vs):∃us vs',vs=us++vs'/\(DS hT bd).pred a G.S us/\YW (DS hT bd) G cs vs':=by
 cases h with
 |one h ho hn hs=>exact absurd rfl (hn _)
 |run h hs=>exact⟨_,_,rfl,h,hs⟩
theorem cN_mk{i k a:Nat}{cs us:List Value}{r:List (SV Ato)}(e:ρ i= .n a)(h:Na G.S cs a k)(hk:k<=bd i)(hr:YW (DS hT bd) G r us):YW (DS hT bd) G (cN i++r) (cs++us):=
  .run (D:=DS hT bd) (show Na G.S cs (ρ i).abs (bd i) by rw[e];exact h.wide hk) hr
theorem cZ_mk{i k:Nat}{a:Int}{cs us:List Value}{r:List (SV Ato)}(e:ρ i= .z a)(h:In G.S cs a k)(hk:k<=bd i)(hr:YW (DS hT bd) G r us):YW (DS hT bd) G (cZ i++r) (cs++us):=by
 obtain⟨us',rfl,h1⟩:=h.split;refine .runs (us:=[.bool (decide (a<0))]) (show _=[Value.bool (ρ i).neg] by rw[e];rfl) (.runs (us:=us') (show Na G.S us' (ρ i).abs (bd i) by rw[e];exact h1.wide hk) hr rfl) (by simp)
theorem cQ_mk{i k:Nat}{a:Rat}{cs us:List Value}{r:List (SV Ato)}(e:ρ i= .q a)(h:Fs G.S cs [a] k)(hk:k<=bd i)(hr:YW (DS hT bd) G r us):YW (DS hT bd) G (cQ i++r) (cs++us):=by
 obtain⟨us',vs',rfl,h1,h2,h3⟩:=h.split
 refine .runs (us:=[.bool (decide (a.num<0))]) (show _=[Value.bool (ρ i).neg] by rw[e];rfl) (.runs (us:=us') (show Na G.S us' (ρ i).abs (bd i) by rw[e];exact h1.wide hk) (.runs (us:=vs') (show Na G.S vs' (ρ i).dn (bd i)/\(ρ i).dn+1<=2^bd i by
   rw[e]
   refine⟨h2.wide hk,Nat.le_trans ?_ (YT hk)⟩
   show a.den-1+1<=2^k
   have:=a.den_pos
   omega) hr rfl) rfl) (by simp)
theorem cN_of{i a:Nat}{vs:List Value}{r:List (SV Ato)}(e:ρ i= .n a)(h:YW (DS hT bd) G (cN i++r) vs):∃cs us,vs=cs++us/\Na G.S cs a (bd i)/\YW (DS hT bd) G r us:=by
 obtain⟨us,vs',rfl,h1,h2⟩:=YW.runI h;have h1':Na G.S us (ρ i).abs (bd i):=h1;rw[e] at h1';exact⟨_,_,rfl,h1',h2⟩
theorem cZ_of{i:Nat}{a:Int}{vs:List Value}{r:List (SV Ato)}(e:ρ i= .z a)(h:YW (DS hT bd) G (cZ i++r) vs):∃cs us,vs=cs++us/\In G.S cs a (bd i)/\YW (DS hT bd) G r us:=by
 obtain⟨u1,v1,rfl,h1,h2⟩:=YW.runI h;obtain⟨u2,v2,rfl,h3,h4⟩:=YW.runI h2;have h1':u1=[Value.bool (ρ i).neg]:=h1;have h3':Na G.S u2 (ρ i).abs (bd i):=h3;rw[e] at h1' h3';subst h1';exact⟨_::u2,v2,rfl,In.join h3',h4⟩
theorem cQ_of{i:Nat}{a:Rat}{vs:List Value}{r:List (SV Ato)}(e:ρ i= .q a)(h:YW (DS hT bd) G (cQ i++r) vs):∃cs us,vs=cs++us/\Fs G.S cs [a] (bd i)/\YW (DS hT bd) G r us:=by
 obtain⟨u1,v1,rfl,h1,h2⟩:=YW.runI h;obtain⟨u2,v2,rfl,h3,h4⟩:=YW.runI h2;obtain⟨u3,v3,rfl,h5,h6⟩:=YW.runI h4;have h1':u1=[Value.bool (ρ i).neg]:=h1;have h3':Na G.S u2 (ρ i).abs (bd i):=h3;have h5':Na G.S u3 (ρ i).dn (bd i)/\(ρ i).dn+1<=2^bd i:=h5;rw[e] at h1' h3' h5';subst h1';refine⟨_::u2++u3,v3,by simp[AV.neg],Fs.join h3' h5'.1 ?_,h6⟩;have:=h5'.2;show a.den<=2^bd i;have h7:AV.dn (.q a)=a.den-1:=rfl;omega
end
end
def ext(f:Nat->AV)(n:Nat)(x:AV):Nat->AV:=λj=>if j=n then x else f j
def avs(base:Nat->AV):List Rw->Nat->(Nat->AV)->Nat->AV
  |[],_,f=>f
  |r::rs,n,f=>avs base rs (n+1)<|ext f n<|semK base f r.key
def rho(T:Tb)(base:Nat->AV):Nat->AV:=avs base T.rows 0 λ_=>.n 0
theorem avs_lt{base:Nat->AV}:∀{rs:List Rw} {n:Nat} {f:Nat->AV} {j:Nat},j<n->avs base rs n f j=f j
  |[],_,_,_,_=>rfl
  | r::rs,n,f,j,h=>by
    simp only[avs]
    rw[avs_lt (Nat.lt_succ_of_lt h)]
    simp[ext,Nat.ne_of_lt h]
def aheadR(n:Nat)(r:Rw):Bool:=match r.key with
  |[]=>true
  |o::is=>Nat.ble o 10||is.all λi=>Nat.ble (Nat.succ i) n
def Zek:List Rw->Nat->Bool
  |[],_=>true
  |r::rs,n=>aheadR n r&&Zek rs (n+1)
theorem semK_congr{base f g:Nat->AV}{n:Nat}{r:Rw}(h:aheadR n r=true)(hfg:∀j,j<n->f j=g j):semK base f r.key=semK base g r.key:=by
 unfold aheadR at h;unfold semK;split <;> first|rfl|skip
 rename_i o is h0 h1 h2 h3 h4 h5 h6 h7 h8 hk;rw[hk] at h;simp only[Bool.or_eq_true] at h;rcases h with h|h;have:=Nat.le_of_ble_eq_true h;have e:∀l l':List AV,o<=10->Zg9 o l=Zg9 o l':=by
  intro l l' ho;have h9:∀l,Zg9 o l= .of (o%4):=by
   intro l;unfold Zg9;split <;> first|omega|skip
   unfold semX;split <;> first|rfl|omega
  rw[h9,h9]
 exact e _ _ this;congr 1;refine List.map_congr_left λj hj=>hfg j ?_;have:=List.all_eq_true.1 h j hj;exact Nat.le_of_ble_eq_true this
theorem avs_at{base:Nat->AV}:∀{rs:List Rw} {n:Nat} {f:Nat->AV} {i:Nat} {r:Rw},Zek rs n=true->rs[i]? =some r->avs base rs n f (n+i)=semK base (avs base rs n f) r.key
  |[],_,_,_,_,_,h=>by simp at h
  | r0::rs,n,f,i,r,ha,h=>by
    simp only[Zek,Bool.and_eq_true] at ha
    cases i with
    | zero=>
      simp at h
      subst h
      rw[Nat.add_zero]
      have e:avs base (r0::rs) n f n=semK base f r0.key:=by
        simp only[avs]
        rw[avs_lt (Nat.lt_succ_self n)]
        simp[ext]
      rw[e]
      exact semK_congr ha.1 λj hj=>(avs_lt hj).symm
    | succ i=>
      simp at h
      have:=avs_at (base:=base) (f:=ext f n (semK base f r0.key)) ha.2 h
      simp only[avs]
      rw[show n+(i+1)=n+1+i by omega]
      exact this
section
def rwTr(rows:List Rw):Nat->Tr Rw:=List.rec (λ_=>.nil) (λr _ ih n=>(ih<|Nat.succ n).put n (some r)) rows
theorem rwTr_at:∀{rows:List Rw} {n i:Nat} {r:Rw},(rwTr rows n).at i=some r->∃j,i=n+j/\rows[j]? =some r
  | [],n,i,r,h=>by
    have h':(Tr.nil:Tr Rw).at i=some r:=h
    unfold Tr.at at h'
    rw[Tr.get_nil] at h'
    cases h'
  | r0::rs,n,i,r,h=>by
    have h':((rwTr rs (n+1)).put n (some r0)).at i=some r:=h
    rw[Tr.at_put_if] at h'
    split at h'
    · rename_i e
      exact⟨0,by omega,by simpa using h'⟩
    · obtain⟨j,e,h2⟩:=rwTr_at h'
      exact⟨j+1,by omega,by simpa using h2⟩
def Zco(T:Tb)(i:Nat):Option Rw:=(rwTr T.rows 0).at i
theorem rowAt_mem{T:Tb}{i:Nat}{r:Rw}(h:Zco T i=some r):T.rows[i]? =some r:=by
 obtain⟨j,e,h2⟩:=rwTr_at h;rw[e,Nat.zero_add];exact h2
def Zd7(T:Tb)(key:List Nat):Option (Nat × Rw):=match findGo key T.rows 0 with
  | some k=>match Zco T k with
    | some r=>match eqN r.key key with
      |true=>some (k,r)
      |false=>none
    |none=>none
  |none=>none
theorem XI{T:Tb}{key:List Nat}{k:Nat}{r:Rw}(h:Zd7 T key=some (k,r)):Zco T k=some r/\r.key=key:=by
 unfold Zd7 at h;split at h;split at h;rename_i r' hr;split at h;rename_i he;cases h;exact⟨hr,eqN_eq he⟩;cases h;cases h;cases h
structure YG(T:Tb)(K:Nat)(base ρ:Nat->AV)(bd:Nat->Nat):Prop where
  row:∀i r,Zco T i=some r->ρ i=semK base ρ r.key/\bd i=r.c*K+r.d
  km:K<=T.km
  cond:Cs T ρ
def Zej(T:Tb)(K:Nat)(i:Nat):Nat:=match Zco T i with
  |some r=>r.c*K+r.d
  |none=>0
theorem YG.mk'{T:Tb}{K:Nat}{base:Nat->AV}(ha:Zek T.rows 0=true)(hk:K<=T.km)(hc:Cs T (rho T base)):YG T K base (rho T base) (Zej T K) where
  row i r h:=by
    refine⟨?_,by unfold Zej;rw[h]⟩
    have:=avs_at (base:=base) (f:=λ_=>.n 0) ha (rowAt_mem h)
    rw[Nat.zero_add] at this
    exact this
  km:=hk
  cond:=hc
def isK(T:Tb)(i k:Nat):Bool:=match Zco T i with
  |some r=>Nat.beq (Nat.mod (opOf r.key) 4) k
  |none=>false
def leB(a b:Rw):Bool:=Nat.ble a.c b.c&&Nat.ble a.d b.d
def viaR(T:Tb)(i o:Nat):Option Nat:=match Zco T i with
  | some r=>match Zd7 T [o,i] with
    | some (k,r')=>match leB r r' with
      |true=>some k
      |false=>none
    |none=>none
  |none=>none
theorem semK_op{base f:Nat->AV}{o:Nat}{is:List Nat}(ho:10<o):semK base f (o::is)=Zg9 o (is.map f):=by
 match o,ho with
 |n+11,_=>rfl
section
variable{T:Tb}{K:Nat}{base ρ:Nat->AV}{bd:Nat->Nat}{G:Gh}
theorem Zce(hg:YG T K base ρ bd){i k:Nat}(h:isK T i k=true):(ρ i).kind=k:=by
 unfold isK at h;split at h;rename_i r hr;rw[YY] at h;rw[(hg.row i r hr).1,semK_kind];exact h;cases h
theorem leB_ok{a b:Rw}(h:leB a b=true)(K:Nat):a.c*K+a.d<=b.c*K+b.d:=by
 unfold leB at h;simp only[Bool.and_eq_true] at h;have h1:=Nat.le_of_ble_eq_true h.1;have h2:=Nat.le_of_ble_eq_true h.2;exact Nat.add_le_add (Nat.mul_le_mul_right _ h1) h2
theorem viaR_ok(hg:YG T K base ρ bd){i o k:Nat}(h:viaR T i o=some k)(ho:10<o):ρ k=Zg9 o [ρ i]/\bd i<=bd k:=by
 unfold viaR at h;split at h;rename_i r hr;split at h;rename_i k' r' hf;split at h;rename_i hl;cases h;obtain⟨h1,h2⟩:=XI hf;obtain⟨h3,h4⟩:=hg.row _ _ h1;refine⟨?_,by rw[h4,(hg.row _ _ hr).2];exact leB_ok hl K⟩;rw[h3,h2,semK_op ho];rfl;cases h;cases h;cases h
end
end
section
def asN'(T:Tb)(l:List (SV Ato)):Option Nat:=match l with
  | [.at_ (.a i)]=>match isK T i 0 with
    |true=>some i
    | false=>match isK T i 1 with
      |true=>viaR T i 12
      | false=>match isK T i 2 with
        |true=>viaR T i 20
        |false=>none
  | [.at_ (.d i)]=>match isK T i 2 with
    |true=>viaR T i 44
    |false=>none
  | [.int .u64 (.ofNat a),.sl none 0 0]=>match Nat.ble a 18446744073709551615 with
    | true=>match Zd7 T [4,a] with
      | some (k,r)=>match Nat.ble 64 r.d with
        |true=>some k
        |false=>none
      |none=>none
    |false=>none
  |_=>none
def asZ'(T:Tb)(l:List (SV Ato)):Option Nat:=match l with
  | [.at_ (.s i),.at_ (.a j)]=>match Nat.beq i j with
    | true=>match isK T i 1 with
      |true=>some i
      | false=>match isK T i 2 with
        |true=>viaR T i 13
        |false=>none
    |false=>none
  | [.bool false,.int .u64 (.ofNat 0),.sl none 0 0]=>match Zd7 T [5] with
    |some (k,_)=>some k
    |none=>none
  |_=>none
def asQ'(T:Tb)(l:List (SV Ato)):Option Nat:=match l with
  | [.at_ (.s i),.at_ (.a j),.at_ (.d k)]=>match Nat.beq i j with
    | true=>match Nat.beq i k with
      | true=>match isK T i 2 with
        |true=>some i
        |false=>none
      |false=>none
    |false=>none
  | [.bool false,.int .u64 (.ofNat 0),.sl none 0 0,.int .u64 (.ofNat 0),.sl none 0 0]=>match Zd7 T [6] with
    |some (k,_)=>some k
    |none=>none
  |_=>none
def asA(T:Tb)(k:Nat)(x:SV Ato):Option Nat:=match x with
  | .agg l=>match k with
    |0=>asN' T l
    |1=>asZ' T l
    |2=>asQ' T l
    |_=>none
  | .at_ a=>match a with
    | .t i=>match Nat.beq k 3 with
      | true=>match isK T i 3 with
        |true=>some i
        |false=>none
      |false=>none
    |_=>none
  |_=>none
section
variable{T:Tb}{K:Nat}{base ρ:Nat->AV}{bd:Nat->Nat}{G:Gh}{T0:Tb}{hT:Cs T0 ρ}
theorem YW.nilI{D:Dom Ato}{vs:List Value}(h:YW D G [] vs):vs=[]:=by cases h;rfl
theorem asN_ok(hg:YG T K base ρ bd){l:List (SV Ato)}{i:Nat}{vs:List Value}(h:asN' T l=some i)(hd:YW (DS hT bd) G l vs):Rp G.S (ρ i) (bd i) (.agg vs.toArray):=by
 unfold asN' at h;split at h;rename_i j;obtain⟨us,vs',rfl,h1,h2⟩:=YW.runI hd;have:=h2.nilI;subst this;rw[List.append_nil];have h1':Na G.S us (ρ j).abs (bd j):=h1;split at h;rename_i hk;cases h;have e:=AV.k0 (Zce hg hk);rw[e] at h1' ⊢;exact⟨_,rfl,h1'⟩;split at h;rename_i hk;obtain⟨e2,hb⟩:=viaR_ok hg h (by decide);have e:=AV.k1 (Zce hg hk);rw[e] at h1';rw[e2];exact⟨_,rfl,h1'.wide hb⟩;split at h;rename_i hk;obtain⟨e2,hb⟩:=viaR_ok hg h (by decide);have e:=AV.k2 (Zce hg hk);rw[e] at h1';rw[e2];exact⟨_,rfl,h1'.wide hb⟩;cases h;rename_i j;obtain⟨us,vs',rfl,h1,h2⟩:=YW.runI hd;have:=h2.nilI;subst this;rw[List.append_nil];have h1':Na G.S us (ρ j).dn (bd j)/\(ρ j).dn+1<=2^bd j:=h1;split at h;rename_i hk;obtain⟨e2,hb⟩:=viaR_ok hg h (by decide);have e:=AV.k2 (Zce hg hk);rw[e] at h1';rw[e2];exact⟨_,rfl,h1'.1.wide hb⟩;cases h;rename_i a;split at h;rename_i ha;split at h;rename_i k r hf;split at h;rename_i hd2;cases h;obtain⟨h1,h2⟩:=XI hf;obtain⟨h3,h4⟩:=hg.row _ _ h1;have ha':=Nat.le_of_ble_eq_true ha;have hd2':=Nat.le_of_ble_eq_true hd2;rw[h3,h2,h4]
 cases hd with
 | one x1 _ _ x2=>
   cases x1
   cases x2 with
   | one x3 _ _ x4=>
     cases x3
     cases x4
     refine⟨_,rfl,?_,_,_,rfl,.small _ (by omega)⟩
     have h64:(2:Nat)^64<=2^(r.c*K+r.d):=YT (by omega)
     have:(2:Nat)^64=18446744073709551616:=by decide
     omega
 cases h;cases h;cases h;cases h
theorem asZ_ok(hg:YG T K base ρ bd){l:List (SV Ato)}{i:Nat}{vs:List Value}(h:asZ' T l=some i)(hd:YW (DS hT bd) G l vs):Rp G.S (ρ i) (bd i) (.agg vs.toArray):=by
 unfold asZ' at h;split at h;rename_i i' j;split at h;rename_i hij;rw[YY] at hij;subst hij;split at h;rename_i hk;cases h;have e:=AV.k1 (Zce hg hk);obtain⟨cs,us,rfl,h1,h2⟩:=cZ_of (r:=[]) e hd;have:=h2.nilI;subst this;rw[List.append_nil,e];exact⟨_,rfl,h1⟩;split at h;rename_i hk;obtain⟨e2,hb⟩:=viaR_ok hg h (by decide);have e:=AV.k2 (Zce hg hk);obtain⟨u1,v1,rfl,h1,h2⟩:=YW.runI hd;obtain⟨u2,v2,rfl,h3,h4⟩:=YW.runI h2;have:=h4.nilI;subst this;have h1':u1=[Value.bool (ρ i').neg]:=h1;have h3':Na G.S u2 (ρ i').abs (bd i'):=h3;rw[e] at h1' h3';subst h1';rw[e2,List.append_nil];exact⟨_,rfl,(In.join h3').wide hb⟩;cases h;cases h;split at h;rename_i k r hf;cases h;obtain⟨h1,h2⟩:=XI hf;rw[(hg.row _ _ h1).1,h2]
 cases hd with
 | one x1 _ _ x2=>
   cases x1
   cases x2 with
   | one x3 _ _ x4=>
     cases x3
     cases x4 with
     | one x5 _ _ x6=>
       cases x5
       cases x6
       exact⟨_,rfl,In.zero _ _⟩
 cases h;cases h
theorem asQ_ok(hg:YG T K base ρ bd){l:List (SV Ato)}{i:Nat}{vs:List Value}(h:asQ' T l=some i)(hd:YW (DS hT bd) G l vs):Rp G.S (ρ i) (bd i) (.agg vs.toArray):=by
 unfold asQ' at h;split at h;rename_i i' j k;split at h;rename_i hij;rw[YY] at hij;subst hij;split at h;rename_i hik;rw[YY] at hik;subst hik;split at h;rename_i hk;cases h;have e:=AV.k2 (Zce hg hk);obtain⟨cs,us,rfl,h1,h2⟩:=cQ_of (r:=[]) e hd;have:=h2.nilI;subst this;rw[List.append_nil,e];exact⟨_,rfl,h1⟩;cases h;cases h;cases h;split at h;rename_i k r hf;cases h;obtain⟨h1,h2⟩:=XI hf;rw[(hg.row _ _ h1).1,h2]
 cases hd with
 | one x1 _ _ x2=>
   cases x1
   cases x2 with
   | one x3 _ _ x4=>
     cases x3
     cases x4 with
     | one x5 _ _ x6=>
       cases x5
       cases x6 with
       | one x7 _ _ x8=>
         cases x7
         cases x8 with
         | one x9 _ _ x10=>
           cases x9
           cases x10
           exact⟨_,rfl,Fs.zero _ _⟩
 cases h;cases h
theorem asA_ok(hg:YG T K base ρ bd){k i:Nat}{x:SV Ato}{v:Value}(h:asA T k x=some i)(hd:Den (DS hT bd) G x v):Rp G.S (ρ i) (bd i) v:=by
 unfold asA at h;split at h
 cases hd with
 | agg hl=>
   split at h
   · exact asN_ok hg h hl
   · exact asZ_ok hg h hl
   · exact asQ_ok hg h hl
   · cases h
 split at h;rename_i j;split at h;split at h;rename_i hk;cases h
 cases hd with
 | at_ hp=>
   obtain⟨s,e,hc⟩:=hp
   rw[e]
   have:v= .string s:=by simpa using hc
   exact this
 cases h;cases h;cases h;cases h
end
end
section
def getA(T:Tb)(kds:List Nat):List (SV Ato)->Option (List Nat):=List.rec (λl=>match l with
    |[]=>some []
    |_=>none) (λk _ ih l=>match l with
    | x ::r=>match asA T k x with
      | some i=>match isK T i k with
        | true=>match ih r with
          |some is=>some (i::is)
          |none=>none
        |false=>none
      |none=>none
    |[]=>none) kds
def Reps(S:Sh):List Nat->List AV->List Nat->List Value->Prop
  |[],[],[],[]=>True
  |kd::kds,x::xs,k::ks,v::vs=>x.kind=kd/\Rp S x k v/\Reps S kds xs ks vs
  |_,_,_,_=>False
def limB(T:Tb)(lim:Nat)(is:List Nat):Bool:=is.all λi=>match Zco T i with
  |some r=>Nat.ble (Nat.add (Nat.mul r.c T.km) r.d) lim
  |none=>false
def sumC(T:Tb)(is:List Nat):Nat:=List.rec 0 (λi _ s=>match Zco T i with
  |some r=>Nat.add r.c s
  |none=>s) is
def sumD(T:Tb)(is:List Nat):Nat:=List.rec 0 (λi _ s=>match Zco T i with
  |some r=>Nat.add r.d s
  |none=>s) is
def sumB(T:Tb)(e:Nat)(is:List Nat)(r:Rw):Bool:=Nat.ble (sumC T is) r.c&&Nat.ble (Nat.add (sumD T is) e) r.d
def resV(kd k:Nat):SV Ato:=match kd with
  |0=>.agg (cN k)
  |1=>.agg (cZ k)
  |2=>.agg (cQ k)
  |_=>.at_ (.t k)
def opV(T:Tb)(op lim e:Nat)(is:List Nat):Option (SV Ato):=match limB T lim is with
  | true=>match Zd7 T (op::is) with
    | some (k,r)=>match sumB T e is r with
      |true=>some (resV (Nat.mod op 4) k)
      |false=>none
    |none=>none
  |false=>none
def tstV(T:Tb)(t lim:Nat)(is:List Nat):Option Int:=match limB T lim is with
  |true=>Zgn (t::is) T.conds
  |false=>none
def pO(T:Tb)(kds:List Nat)(op lim e:Nat):PrF Ato:=λl=>match getA T kds l with
  |some is=>opV T op lim e is
  |none=>none
def pT(T:Tb)(kds:List Nat)(t lim:Nat):PrF Ato:=λl=>match getA T kds l with
  | some is=>match tstV T t lim is with
    |some x=>some (.int .i64 x)
    |none=>none
  |none=>none
section
variable{T:Tb}{K:Nat}{base ρ:Nat->AV}{bd:Nat->Nat}{G:Gh}{T0:Tb}{hT:Cs T0 ρ}
theorem Zaj(hg:YG T K base ρ bd):∀{kds:List Nat} {l:List (SV Ato)} {is:List Nat} {vs:List Value},getA T kds l=some is->QB (DS hT bd) G l vs->Reps G.S kds (is.map ρ) (is.map bd) vs
  | [],l,is,vs,h,hd=>by
    cases l with
    | nil=>
      have h':some []=some is:=h
      cases h'
      cases hd
      trivial
    |cons x r=>cases (show(none:Option (List Nat))=some is from h)
  | k ::kds,l,is,vs,h,hd=>by
    cases l with
    |nil=>cases (show(none:Option (List Nat))=some is from h)
    | cons x r=>
      have h':(match asA T k x with
        | some i=>match isK T i k with
          | true=>match getA T kds r with
            |some is=>some (i::is)
            |none=>none
          |false=>none
        |none=>none)=some is:=h
      split at h'
      · rename_i i hi
        split at h'
        · rename_i hk
          split at h'
          · rename_i is' his
            cases h'
            cases hd with
            |cons h1 h2=>exact⟨Zce hg hk,asA_ok hg hi h1,Zaj hg his h2⟩
          · cases h'
        · cases h'
      · cases h'
theorem QV(hg:YG T K base ρ bd){lim:Nat}{is:List Nat}(h:limB T lim is=true):∀k∈is.map bd,k<=lim:=by
 intro k hk;obtain⟨i,hi,rfl⟩:=List.mem_map.1 hk;have:=List.all_eq_true.1 h i hi;split at this;rename_i r hr;have h1:=Nat.le_of_ble_eq_true this;rw[(hg.row i r hr).2];exact Nat.le_trans (Nat.add_le_add_right (Nat.mul_le_mul_left _ hg.km) _) h1;cases this
theorem sum_ok(hg:YG T K base ρ bd){lim:Nat}:∀{is:List Nat},limB T lim is=true->(is.map bd).sum=sumC T is*K+sumD T is
  |[],_=>by simp[sumC,sumD]
  | i ::is,h=>by
    have h1:(limB T lim [i]&&limB T lim is)=true:=by simpa [limB] using h
    simp only[Bool.and_eq_true] at h1
    have ih:=sum_ok hg h1.2
    have h2:(match Zco T i with
      |some r=>Nat.ble (Nat.add (Nat.mul r.c T.km) r.d) lim
      |none=>false)=true:=by simpa [limB] using h1.1
    split at h2
    · rename_i r hr
      have e1:sumC T (i::is)=r.c+sumC T is:=by
        show(match Zco T i with
          |some r=>Nat.add r.c (sumC T is)
          |none=>sumC T is)=_
        rw[hr];rfl
      have e2:sumD T (i::is)=r.d+sumD T is:=by
        show(match Zco T i with
          |some r=>Nat.add r.d (sumD T is)
          |none=>sumD T is)=_
        rw[hr];rfl
      rw[List.map_cons,List.sum_cons,ih,e1,e2,(hg.row i r hr).2,Nat.add_mul]
      omega
    · cases h2
theorem Xm{S:Sh}{blk:Nat->Option (Nat × Nat)}{kd k:Nat}{v:Value}(hk:(ρ k).kind=kd)(h:Rp S (ρ k) (bd k) v):Den (DS hT bd) ⟨S,blk⟩ (resV kd k) v:=by
 cases hx:ρ k with
 | n a=>
   rw[hx] at hk h
   subst hk
   obtain⟨cs,rfl,h1⟩:=h
   have:=cN_mk (hT:=hT) (bd:=bd) (G:=⟨S,blk⟩) hx h1 (Nat.le_refl _) .nil
   have q:=Den.agg this
   simp only[List.append_nil] at q
   exact q
 | z a=>
   rw[hx] at hk h
   subst hk
   obtain⟨cs,rfl,h1⟩:=h
   have:=cZ_mk (hT:=hT) (bd:=bd) (G:=⟨S,blk⟩) hx h1 (Nat.le_refl _) .nil
   have q:=Den.agg this
   simp only[List.append_nil] at q
   exact q
 | q a=>
   rw[hx] at hk h
   subst hk
   obtain⟨cs,rfl,h1⟩:=h
   have:=cQ_mk (hT:=hT) (bd:=bd) (G:=⟨S,blk⟩) hx h1 (Nat.le_refl _) .nil
   have q:=Den.agg this
   simp only[List.append_nil] at q
   exact q
 | s a=>
   rw[hx] at hk h
   subst hk
   have h':v= .string a:=h
   subst h'
   exact .at_ ⟨a,hx,rfl⟩
theorem Zfb(hg:YG T K base ρ bd){op lim e:Nat}{is:List Nat}{r:SV Ato}(h:opV T op lim e is=some r)(ho:10<op):
    ∃k,r=resV (op%4) k/\(ρ k).kind=op%4/\ρ k=Zg9 op (is.map ρ)/\(∀k∈is.map bd,k<=lim)/\(is.map bd).sum+e<=bd k:=by
 unfold opV at h;split at h;rename_i hl;split at h;rename_i k r' hf;split at h;rename_i hs;simp only[Option.some.injEq] at h;obtain⟨h1,h2⟩:=XI hf;obtain⟨h3,h4⟩:=hg.row _ _ h1;rw[h2,semK_op ho] at h3;refine⟨k,h.symm,by rw[h3];exact semL_kind _ _,h3,QV hg hl,?_⟩;unfold sumB at hs;simp only[Bool.and_eq_true] at hs;have a1:=Nat.le_of_ble_eq_true hs.1;have a2:=Nat.le_of_ble_eq_true hs.2;rw[sum_ok hg hl,h4,Nat.add_assoc];exact Nat.add_le_add (Nat.mul_le_mul_right _ a1) a2;cases h;cases h;cases h
theorem tstV_ok(hg:YG T K base ρ bd){t lim:Nat}{is:List Nat}{x:Int}(h:tstV T t lim is=some x):semT t (is.map ρ)=x/\(∀k∈is.map bd,k<=lim):=by
 unfold tstV at h;split at h;rename_i hl;exact⟨hg.cond _ (Zab h),QV hg hl⟩;cases h
theorem pO_ok(hg:YG T K base ρ bd){P:Program}{f:FuncId}{kds:List Nat}{op lim e:Nat}(he:ZR P f=true)(ho:10<op)(h:∀S w vs xs ks k,ZV S w->Reps S kds xs ks vs->(∀k∈ks,k<=lim)->ks.sum+e<=k->Calls P f vs.toArray w (Ret S w λS' v=>Rp S' (Zg9 op xs) k v)):Xq P (DS hT bd) f (pO T kds op lim e):=by
 intro args r hr G w vs hd hS;unfold pO at hr;split at hr;rename_i is his;obtain⟨k,rfl,h1,h2,h3,h4⟩:=Zfb hg hr ho;refine .ret he (h _ _ _ _ _ (bd k) hS (Zaj hg his hd) h3 h4) λS' v hv=>?_;rw[<-h2] at hv;exact Xm h1 hv;cases hr
theorem pT_ok(hg:YG T K base ρ bd){P:Program}{f:FuncId}{kds:List Nat}{t lim:Nat}(he:ZR P f=true)(h:∀S w vs xs ks,ZV S w->Reps S kds xs ks vs->(∀k∈ks,k<=lim)->Calls P f vs.toArray w (Ret S w λ_ v=>v= .int .i64 (semT t xs))):Xq P (DS hT bd) f (pT T kds t lim):=by
 intro args r hr G w vs hd hS;unfold pT at hr;split at hr;rename_i is his;split at hr;rename_i x hx;cases hr;obtain⟨h1,h2⟩:=tstV_ok hg hx;refine .ret he (h _ _ _ _ _ hS (Zaj hg his hd) h2) λS' v hv=>?_;rw[hv,h1];exact .int _ _;cases hr;cases hr
theorem Reps.cons{S:Sh}{kd:Nat}{kds:List Nat}{xs:List AV}{ks:List Nat}{vs:List Value}(h:Reps S (kd::kds) xs ks vs):∃x xs' k ks' v vs',xs=x::xs'/\ks=k::ks'/\vs=v::vs'/\x.kind=kd/\Rp S x k v/\Reps S kds xs' ks' vs':=by
 cases xs with
 |nil=>simp[Reps] at h
 | cons x xs=>cases ks with
   |nil=>simp[Reps] at h
   | cons k ks=>cases vs with
     |nil=>simp[Reps] at h
     |cons v vs=>exact⟨x,xs,k,ks,v,vs,rfl,rfl,rfl,h.1,h.2.1,h.2.2⟩
theorem Reps.nilI{S:Sh}{xs:List AV}{ks:List Nat}{vs:List Value}(h:Reps S [] xs ks vs):xs=[]/\ks=[]/\vs=[]:=by
 cases xs <;> cases ks <;> cases vs <;> simp_all [Reps]
theorem Reps.one{S:Sh}{kd:Nat}{xs:List AV}{ks:List Nat}{vs:List Value}(h:Reps S [kd] xs ks vs):∃x k v,xs=[x]/\ks=[k]/\vs=[v]/\x.kind=kd/\Rp S x k v:=by
 obtain⟨x,xs',k,ks',v,vs',rfl,rfl,rfl,h1,h2,h3⟩:=h.cons;obtain⟨rfl,rfl,rfl⟩:=h3.nilI;exact⟨x,k,v,rfl,rfl,rfl,h1,h2⟩
theorem Reps.two{S:Sh}{kd kd':Nat}{xs:List AV}{ks:List Nat}{vs:List Value}(h:Reps S [kd,kd'] xs ks vs):∃x k v x' k' v',xs=[x,x']/\ks=[k,k']/\vs=[v,v']/\x.kind=kd/\Rp S x k v/\x'.kind=kd'/\Rp S x' k' v':=by
 obtain⟨x,xs',k,ks',v,vs',rfl,rfl,rfl,h1,h2,h3⟩:=h.cons;obtain⟨x',k',v',rfl,rfl,rfl,h4,h5⟩:=h3.one;exact⟨x,k,v,x',k',v',rfl,rfl,rfl,h1,h2,h4,h5⟩
theorem Rp.q{S:Sh}{x:AV}{k:Nat}{v:Value}(hk:x.kind=2)(h:Rp S x k v):∃cs,v= .agg cs.toArray/\Fs S cs [x.rat] k:=by rw[AV.k2 hk] at h;exact h
theorem Rp.z{S:Sh}{x:AV}{k:Nat}{v:Value}(hk:x.kind=1)(h:Rp S x k v):∃cs,v= .agg cs.toArray/\In S cs x.int k:=by rw[AV.k1 hk] at h;exact h
theorem Rp.n{S:Sh}{x:AV}{k:Nat}{v:Value}(hk:x.kind=0)(h:Rp S x k v):∃cs,v= .agg cs.toArray/\Na S cs x.nat k:=by rw[AV.k0 hk] at h;exact h
theorem Rp.s{S:Sh}{x:AV}{k:Nat}{v:Value}(hk:x.kind=3)(h:Rp S x k v):v= .string x.txt:=by rw[AV.k3 hk] at h;exact h
end
end
theorem nat_Of{S:Sh}{w:World}(hS:ZV S w){n:Nat}(hn:n<18446744073709551616):Calls prog 76 [(.int .u64 ((n:Nat):Int))].toArray w (Ret S w (λS v=>∃(c0:List Value),v= .agg c0.toArray/\Na S c0 n 64)):=by
 refine cbd hS (n:=5) func76 rfl λ_ L0 R0=>wA<|sO L0 rfl<|ZK (cs:=zN1) ZZ R0 rfl λb1 _ R1=>SW<|Sm rfl λ_ L2=>?_;have h1:Na S [(.int .u64 (n:Int)),(.slice none 0 0)] n (64):=Na.ofLow hn;exact sO L2 rfl<|ZH (cs:=[(.int .u64 (n:Int)),(.slice none 0 0)]) ZZ Qx (.cons rfl Yt rfl (by decide) .nil) (by rfl)<|Sz rfl<|Zm rfl rfl R1 Zp h1.len rfl h1.ones λ_ R2 _ L4=>sn<|wp_ret<|rt L4 (Res.aggW rfl ZM Zp (R2.has<|List.Mem.head _) h1.len Res.nil)<|⟨_,_,rfl,R2.ext,⟨_,rfl,(h1.to rfl (by omega))⟩⟩
theorem Xx{S:Sh}{w:World}(hS:ZV S w){c_a:List Value}{a:Nat}{k_a:Nat}(h_a:Na S c_a a k_a):Calls prog 140 [(.agg (c_a:List Value).toArray)].toArray w (Ret S w (λS v=>∃(p0:Option Addr)(len0:Nat)(cap0:Nat),v= .slice p0 len0 cap0/\(ZL W64 a).length=len0/\len0<=cap0/\len0<=281474976710656/\Dg S p0 len0 cap0 (ZL W64 a))):=by
 refine cbd hS (n:=14) func140 rfl λ_ L0 R0=>?_;obtain⟨hb_a,⟨hs_a,rfl⟩|⟨hw_a,lo_a,bb_a,len_a,cap_a,rest_a,hlo_a,rfl,rw_a,hd_a,h2_a⟩⟩:=h_a.open;refine wA<|sO L0 rfl<|ZW (cs:=[(.int .u64 (a:Int)),(.slice none 0 0)]) rfl R0 rfl λb1 _ _ l1 r1 R1=>Sa rfl<|SVv<|So rfl<|Zg (off':=1) rfl ZS rfl<|So rfl<|Zk rfl Xf (R1.row r1) rfl<|So rfl<|does_neqNil rfl rfl underlying30<|SF rfl λ_ L5=>wp_skip<|Zc<|wp_seq<|wA<|sO L5 rfl<|Zg (off':=0) rfl Yt rfl<|So rfl<|Zk rfl YB (R1.row r1) rfl λ_ L7=>?_;by_cases t1:(a:Int)=(0:Int);exact sO L7 rfl<|cT t1 (ZP rfl rfl)<|kP [1,2,10] rfl<|ST rfl<|WA<|Sa rfl λ_ L10=>sn<|wp_ret<|Zt<|rt L10 (.tmp rfl Res.nil)<|⟨_,_,rfl,R1.ext,⟨_,_,_,rfl,(by rw[show a=0 by omega,Xe];rfl),(Nat.le_refl _),(by omega),(by rw[show a=0 by omega,Xe];exact Dg.nil)⟩⟩;refine sO L7 rfl<|cF t1 (ZP rfl rfl)<|kP [1,2,10] rfl<|SF rfl λ_ L12=>wp_skip<|Zc<|wA<|sO L12 rfl<|Zg (off':=0) rfl Yt rfl<|So rfl<|Zk rfl YB (R1.row r1) rfl<|So rfl<|Yf (cs:=(YD [a]++[])) underlying30 ZG Zah (.cons rfl rfl (by decide) .nil) [[(.int .u64 (a:Int))]] rfl rfl (by rfl) (by decide) R1 λb2 _ R2=>Sa rfl<|kP [2] rfl λ_ L17=>sn ?_;obtain⟨S2,l2,r2,R3⟩:=(R2).freeze;have hd1:Dg S2 (some ⟨b2,0,none⟩) 1 1 ([a]):=⟨by first|(simp;done)|(simp;omega)|omega,by omega,by omega,by simp;omega,λ_=>⟨_,_,rfl,r2⟩⟩;exact wp_ret<|rt L17 (.tmp rfl Res.nil)<|⟨_,_,rfl,R3.ext,⟨_,_,_,rfl,(by rw[digs_small (by omega) (by omega)];rfl),(Nat.le_refl _),(by omega),(hd1.cast (digs_small (by omega) (by omega)).symm)⟩⟩;have hl_a:=hd_a.hlen;have hc_a:=hd_a.hcap;have hg_a:=hd_a.hbig;have hW_a:18446744073709551616<=a:=hw_a;exact wA<|sO L0 rfl<|ZW (cs:=[(.int .u64 (lo_a:Int)),(.slice (some ⟨bb_a,0,none⟩) len_a cap_a)]) rfl R0 rfl λb3 _ _ l3 r3 R4=>Sa rfl<|SVv<|So rfl<|Zg (off':=1) rfl ZS rfl<|So rfl<|Zk rfl Xf (R4.row r3) rfl<|So rfl<|does_neqNil rfl rfl underlying30<|ST rfl<|WA<|So rfl<|Zg (off':=1) rfl ZS rfl<|So rfl<|Zk rfl Xf (R4.row r3) rfl<|Sa rfl λ_ L25=>sn<|wp_ret<|Zt<|rt (L25.kp [1,2] rfl) (.tmp rfl Res.nil)<|⟨_,_,rfl,R4.ext,⟨_,_,_,rfl,(hd_a.up l3).hlen,(hd_a.up l3).hcap,(hd_a.up l3).hbig,(hd_a.up l3)⟩⟩
theorem Zd2{S:Sh}{w:World}(hS:ZV S w){p_d:Option Addr}{len_d cap_d:Nat}{d:List Nat}(hd_d:Dg S p_d len_d cap_d d){k:Nat}(hk:val W64 d<=2^k):Calls prog 135 [(.slice p_d len_d cap_d)].toArray w (Ret S w (λS v=>∃(c0:List Value),v= .agg c0.toArray/\Na S c0 (val W64 d) k)):=by
 refine cbd hS (n:=33) func135 rfl λ_ L0 R0=>?_;have hl_d:=hd_d.hlen;have hc_d:=hd_d.hcap;have hg_d:=hd_d.hbig;refine wA<|sO L0 rfl<|ZK (cs:=zN1) ZZ R0 rfl λb1 _ R1=>SW<|Sm rfl<|So rfl<|Zz rfl underlying30<|Sa rfl λ_ L4=>sn<|wp_seq<|wp_block<|ZJ (λm ac ww=>∃(S':Sh)(n:Nat),S.le S'/\ZD ac 33 [(0,(.slice p_d len_d cap_d)),(2,(.pointer (some ⟨b1,0,none⟩))),(3,(.int .i64 ((n:Nat):Int)))]/\Run S w S' [(b1,32,zN1)] ww/\(n<=len_d)/\(val W64 (d.take n)=val W64 d)/\m=n) len_d ⟨S,len_d,Sh.le.refl _,(L4.kp [3,2,0] rfl),R1,(by omega),(by rw[List.take_of_length_le (by omega)]),rfl⟩ ?_;rintro m_1 ac1 _ ⟨S1,n,l1,L5,R2,hn,hv,m1⟩;refine wp_seq<|wA<|sm L5 rfl λ_ L6=>?_;by_cases t1:(0:Int)<(n:Int);refine sO L6 rfl<|cT t1 (ZF rfl rfl)<|Sm rfl<|Sn rfl<|Zd rfl<|Sn rfl<|Zd rfl<|Sn rfl<|ZO rfl rfl Xd λ_ L11=>?_;obtain⟨b2,rest_1,rfl,r1⟩:=(hd_d.up l1).row (by omega);refine sN L11 rfl<|Zr (n-1) rfl rfl underlying30 ZG (by omega) (by omega)<|Sn rfl<|Zk (v:=(.int .u64 ((d.getD (n-1) 0:Nat):Int))) rfl YB (R2.row r1) (by rw[Nat.zero_add];exact Yj (by omega)) λ_ L13=>?_;by_cases t2:((d.getD (n-1) 0:Nat):Int)=(0:Int);exact sN L13 rfl<|cT t2 (ZP rfl rfl)<|So rfl<|Ze rfl rfl<|ST rfl λ_ L15=>wp_skip<|Zc<|wp_block<|Za<|sm L15 rfl<|So rfl<|ZO rfl rfl Xd<|Sa rfl λ_ L18=>Ya<|Zx<|Zc<|⟨(n-1),(by omega),S1,(n-1),l1,(((L18.ri 3 (((n-1):Nat):Int) rfl).a L18).kp [3,2,0] rfl),R2,(by omega),(by rw[<-hv];exact Zds (by omega) (by omega) (by omega)),rfl⟩;refine sN L13 rfl<|cF t2 (ZP rfl rfl)<|So rfl<|Ze rfl rfl<|SF rfl λ_ L21=>wp_exit<|Zo<|Zo<|Yl<|Zc<|wp_seq<|wA<|sm L21 rfl<|kP [0,2,3,18] rfl λ_ L23=>sn<|wp_block<|wp_seq<|Za ?_;have t3:¬((n:Int)=(0:Int)):=by omega
 refine sO L23 rfl<|cF t3 (ZP rfl rfl)<|Sa rfl<|SF rfl λ_ L25=>wp_seq<|Za ?_;by_cases t4:(n:Int)=(1:Int);refine sO L25 rfl<|cT t4 (ZP rfl rfl)<|Sa rfl<|ST rfl<|WA<|Sm rfl<|So rfl<|Zr 0 rfl rfl underlying30 ZG (by omega) (by omega)<|So rfl<|Zk (v:=(.int .u64 ((d.getD 0 0:Nat):Int))) rfl YB (R2.row r1) (by rw[Nat.zero_add];exact Yj (by omega)) λ_ L30=>?_;have h1:Na S1 [(.int .u64 ((d.getD 0 0:Nat):Int)),(.slice none 0 0)] (val W64 d) (k):=by(have e:val W64 d=d.getD 0 0:=(by rw[<-hv,show n=1 by omega];exact val_one (by omega)));rw[e];exact Na.ofLowK (ZT hd_d.hlt (by decide) 0) (by rw[<-e];exact hk)
 exact sO L30 rfl<|ZH (cs:=[(.int .u64 ((d.getD 0 0:Nat):Int)),(.slice none 0 0)]) ZZ Qx (.cons rfl Yt rfl (by decide) .nil) (by rfl)<|Sz rfl<|Zm rfl rfl R2 Zp h1.len rfl h1.ones λ_ R3 _ L32=>sn<|wp_ret<|YE<|Zt<|rt (L32.kp [0,2,3] rfl) (Res.aggW rfl ZM Zp (R3.has<|List.Mem.head _) h1.len Res.nil)<|⟨_,_,rfl,R3.ext,⟨_,rfl,(h1.to rfl (by omega))⟩⟩;refine sO L25 rfl<|cF t4 (ZP rfl rfl)<|Sa rfl<|SF rfl λ_ L35=>wp_skip<|Zx<|Zc<|wA<|sm L35 rfl<|Sm rfl<|Sm rfl<|So rfl<|does_slice3 (i:=n) (j:=n) rfl rfl rfl underlying30 ZG (by omega) (by omega) λ_ L39=>?_;have h2:Na S1 [(.int .u64 (0:Int)),(.slice (some ⟨b2,0,none⟩) n n)] (val W64 d) (k):=Na.cut r1 (by omega) (by omega) (by omega) hd_d.hlt (by omega) hv hk;exact sO L39 rfl<|ZH (cs:=[(.int .u64 (0:Int)),(.slice (some ⟨b2,0,none⟩) n n)]) ZZ Qx (.cons rfl ZS rfl (by decide) .nil) (by rfl)<|Sz rfl<|Zm rfl rfl R2 Zp h2.len rfl h2.ones λ_ R4 _ L41=>sn<|wp_ret<|rt (L41.kp [2] rfl) (Res.aggW rfl ZM Zp (R4.has<|List.Mem.head _) h2.len Res.nil)<|⟨_,_,rfl,R4.ext,⟨_,rfl,(h2.to rfl (by omega))⟩⟩;refine sO L6 rfl<|cF t1 (ZF rfl rfl)<|Sm rfl<|Sf rfl<|Sf rfl<|Sf rfl<|Sf rfl<|Sf rfl<|Sf rfl<|So rfl<|Ze rfl rfl<|kP [0,2,3,6,7,8,15] rfl<|SF rfl λ_ L52=>wp_exit<|Zo<|Zo<|Yl<|Zc<|wp_seq<|wA<|sm L52 rfl λ_ L53=>sn<|wp_block<|wp_seq<|Za ?_;have t5:(n:Int)=(0:Int):=by omega
 refine sO L53 rfl<|cT t5 (ZP rfl rfl)<|Sa rfl<|kP [0,2,3,18,19] rfl<|ST rfl λ_ L56=>wp_seq<|Za ?_;have h3:Na S1 zN1 (val W64 d) (k):=by rw[show val W64 d=0 from by rw[<-hv,show n=0 by omega];rfl];exact Na.zero _ _
 exact sO L56 rfl<|ZH (cs:=zN1) ZZ Qx .nil (by rfl)<|Sz rfl<|Zm rfl rfl R2 Zp h3.len rfl h3.ones λ_ R5 _ L58=>sn<|wp_ret<|YE<|Zt<|rt L58 (Res.aggW rfl ZM Zp (R5.has<|List.Mem.head _) h3.len Res.nil)<|⟨_,_,rfl,R5.ext,⟨_,rfl,(h3.to rfl (by omega))⟩⟩
theorem YU{S:Sh}{w:World}(hS:ZV S w){c_a:List Value}{a:Nat}{k_a:Nat}(h_a:Na S c_a a k_a):Calls prog 98 [(.agg (c_a:List Value).toArray)].toArray w (Ret S w (λS v=>v= .int .i64 ((ZC a:Nat):Int))):=by
 refine cbd hS (n:=24) func98 rfl λ_ L0 R0=>?_;have hbl:=bitlen_le (k:=64) (n:=(ZL W64 a).getD ((ZL W64 a).length-1) 0) (Nat.le_of_lt<|ZT (Zee (B:=W64) (by decide) _) (by decide) _);obtain⟨hb_a,⟨hs_a,rfl⟩|⟨hw_a,lo_a,bb_a,len_a,cap_a,rest_a,hlo_a,rfl,rw_a,hd_a,h2_a⟩⟩:=h_a.open;refine wA<|sO L0 rfl<|ZW (cs:=[(.int .u64 (a:Int)),(.slice none 0 0)]) rfl R0 rfl λb1 _ _ l1 r1 R1=>Sa rfl<|SVv<|So rfl<|Zg (off':=1) rfl ZS rfl<|So rfl<|Zk rfl Xf (R1.row r1) rfl<|So rfl<|Yc rfl rfl underlying30<|ST rfl<|WA<|So rfl<|Zg (off':=0) rfl Yt rfl<|So rfl<|Zk rfl YB (R1.row r1) rfl<|So rfl<|Zi rfl ent_150 (bits_Len64R R1.holds (x:=a) hs_a) λv_1 _ _ x1 v1=>?_;have R2:=R1.call x1;obtain rfl:=v1;intro _ L8;exact sa L8 rfl λ_ L9=>sn<|wp_ret<|Zt<|rt (L9.kp [1,2] rfl) (.tmp rfl Res.nil)<|⟨_,_,rfl,R2.ext,rfl⟩;have hl_a:=hd_a.hlen;have hc_a:=hd_a.hcap;have hg_a:=hd_a.hbig;have hW_a:18446744073709551616<=a:=hw_a;refine wA<|sO L0 rfl<|ZW (cs:=[(.int .u64 (lo_a:Int)),(.slice (some ⟨bb_a,0,none⟩) len_a cap_a)]) rfl R0 rfl λb2 _ _ l3 r2 R3=>Sa rfl<|SVv<|So rfl<|Zg (off':=1) rfl ZS rfl<|So rfl<|Zk rfl Xf (R3.row r2) rfl<|So rfl<|Yc rfl rfl underlying30<|SF rfl λ_ L15=>wp_skip<|Zc<|wp_seq ?_;have L16:=(L15.kp [1,2] rfl);refine Zw (E0:=[]) (H0:=[]) (n:=24) mixed 14 [] (λk=>0) (Zcn [.is (.pointer (some ⟨b2,1,none⟩)),.is (.slice (some ⟨bb_a,0,none⟩) len_a cap_a),.is (.int .i64 (len_a:Int)),.is (.int .i64 ((len_a:Int)-(1:Int))),.is (.int .i64 ((64:Int)*((len_a:Int)-(1:Int)))),.is (.pointer (some ⟨b2,1,none⟩)),.is (.slice (some ⟨bb_a,0,none⟩) len_a cap_a),.is (.pointer (some ⟨b2,1,none⟩)),.is (.slice (some ⟨bb_a,0,none⟩) len_a cap_a),.is (.int .i64 (len_a:Int)),.is (.int .i64 ((len_a:Int)-(1:Int))),.is (.pointer (some ⟨bb_a,(0+(len_a-1)),none⟩)),.is (.int .u64 (((ZL W64 a).getD (len_a-1) 0:Nat):Int)),.is (.int .i64 ((ZC ((ZL W64 a).getD (len_a-1) 0):Nat):Int))]) L16 R3 (by simp) (by simp) (by rfl) (by rfl) (by simp) (ZU ?_) ?_;refine(Ak ?_ ?_<|Al ?_ ?_ ?_ ?_<|Am ?_ ?_ ?_ ?_ ?_ ?_ ?_ ?_ trivial);exact dK [] rfl λA=>Zg (off':=1) rfl ZS rfl<|A.same rfl;exact dK [0] rfl λA=>Zk rfl Xf (A.run.row<|r2.up A.le) rfl<|A.same rfl;exact dK [1] rfl λA=>Zz rfl underlying30<|A.same rfl;exact dK [2] rfl λA=>ZO (z:=((len_a:Int)-(1:Int))) rfl rfl Xd<|A.same rfl;exact dK [3] rfl λA=>XL (z:=((64:Int)*((len_a:Int)-(1:Int)))) rfl rfl Xd<|A.same rfl;exact dK [] rfl λA=>Zg (off':=1) rfl ZS rfl<|A.same rfl;exact dK [5] rfl λA=>Zk rfl Xf (A.run.row<|r2.up A.le) rfl<|A.same rfl;exact dK [] rfl λA=>Zg (off':=1) rfl ZS rfl<|A.same rfl;exact dK [7] rfl λA=>Zk rfl Xf (A.run.row<|r2.up A.le) rfl<|A.same rfl;exact dK [8] rfl λA=>Zz rfl underlying30<|A.same rfl;exact dK [9] rfl λA=>ZO (z:=((len_a:Int)-(1:Int))) rfl rfl Xd<|A.same rfl;exact dK [6,10] rfl λA=>Zr (len_a-1) rfl rfl underlying30 ZG (by omega) (by omega)<|A.same rfl;exact dK [11] rfl λA=>Zk (v:=(.int .u64 (((ZL W64 a).getD (len_a-1) 0:Nat):Int))) rfl YB (A.run.row<|rw_a.up<|l3.trans A.le) (by rw[Nat.zero_add];exact Yj (by omega))<|A.same rfl;exact dK [12] rfl λA=>Zi rfl ent_150 (bits_Len64R A.run.holds (x:=((ZL W64 a).getD (len_a-1) 0))<|ZT (Zee (B:=W64) (by decide) _) (by decide) _) λv_2 _ _ x2 v2=>(A.post x2.le (A.run.call x2) v2);intro S19 _ _ w19 l5 E1 R5 n1 L31 K1;have L33:=L31.dr K1 [4,13] rfl;have R6:Run _ _ S19 [] w19:=Yb R5 n1 [] (by simp) (by simp);rw[hl_a] at hbl;exact sO L33 rfl<|Zy rfl rfl Xd<|Sa rfl λ_ L35=>sn<|wp_ret<|rt L35 (.tmp rfl Res.nil)<|⟨_,_,rfl,R6.ext,(by have e:=bitlen_digs hw_a;rw[hl_a] at e;exact Zdb (by omega))⟩
theorem nat_Cmp{S:Sh}{w:World}(hS:ZV S w){c_a:List Value}{a:Nat}{k_a:Nat}(h_a:Na S c_a a k_a){c_b:List Value}{b:Nat}{k_b:Nat}(h_b:Na S c_b b k_b):Calls prog 133 [(.agg (c_a:List Value).toArray),(.agg (c_b:List Value).toArray)].toArray w (Ret S w (λS v=>v= .int .i64 (Zcy a b))):=by
 refine cbd hS (n:=49) func133 rfl λ_ L0 R0=>wA<|sO L0 rfl<|ZW (cs:=c_a) rfl R0 rfl λb1 _ _ l1 r1 R1=>So rfl<|ZW (cs:=c_b) rfl R1 rfl λb2 _ _ l2 r2 R2=>Sa rfl λ_ L3=>sn<|wp_seq ?_;have L4:=(L3.kp [2,3,4] rfl);refine Zw (E0:=[]) (H0:=[]) (n:=49) mixed 3 [] (λk=>0) (Zcn [.is (.agg (c_a:List Value).toArray),.sat (λS v=>∃(p0:Option Addr)(len0:Nat)(cap0:Nat),v= .slice p0 len0 cap0/\(ZL W64 a).length=len0/\len0<=cap0/\len0<=281474976710656/\Dg S p0 len0 cap0 (ZL W64 a)) (λ_ _ _ l ⟨p0,n0,m0,e,g0,f0,j0,h0⟩=>⟨p0,n0,m0,e,g0,f0,j0,h0.up l⟩),.is (.agg (c_b:List Value).toArray)]) L4 R2 (by simp) (by simp) (by rfl) (by rfl) (by simp) (ZU ?_) ?_;refine(An ?_<|Ak ?_ ?_ trivial);exact dK [] rfl λA=>ZA rfl ZM Zp (A.run.row<|r1.up<|l2.trans A.le) h_a.len<|A.same rfl;exact dK [0] rfl λA=>Zi rfl Zfj (Xx A.run.holds<|h_a.up<|l1.trans<|l2.trans A.le) λv_1 _ _ x1 v1=>(A.post x1.le (A.run.call x1) v1);exact dK [] rfl λA=>ZA rfl ZM Zp (A.run.row<|r2.up A.le) h_b.len<|A.same rfl;intro S7 _ _ w7 l4 E1 R4 n1 L8 K1;obtain⟨_,e2,p1,len1,cap1,rfl,y1,z1,hg1,hd1⟩:=K1 1 (by decide);have L9:=L8.add e2;clear L8;have L10:=L9.dr K1 [2] rfl;have R5:Run _ _ S7 [] w7:=Yb R4 n1 [] (by simp) (by simp);refine sO L10 rfl<|Zi rfl Zfj (Xx R5.holds<|h_b.up<|l1.trans<|l2.trans l4) λv_2 S8 _ x2 v2=>?_;have R6:=R5.call x2;have l5:=x2.le;obtain⟨p2,len2,cap2,rfl,y2,z2,hg2,hd2⟩:=v2;intro _ L11;refine sa L11 rfl<|Sa rfl<|kP [4,5,6] rfl<|SVv<|Sm rfl<|So rfl<|Zz rfl underlying30<|Sm rfl<|So rfl<|Zz rfl underlying30 λ_ L18=>?_;by_cases t1:¬(len1:Int)=(len2:Int);refine sO L18 rfl<|cT t1 (Yn rfl rfl)<|ST rfl λ_ L19=>wp_seq<|wA<|sm L19 rfl<|So rfl<|Zz rfl underlying30<|Sm rfl<|So rfl<|Zz rfl underlying30 λ_ L23=>?_;by_cases t2:(len1:Int)<(len2:Int);exact sO L23 rfl<|cT t2 (Zs rfl rfl)<|kP [4,5,6,21] rfl<|ST rfl<|WA<|Sa rfl λ_ L26=>sn<|wp_ret<|Zt<|Zt<|rt L26 (.tmp rfl Res.nil)<|⟨_,_,rfl,R6.ext,(by rw[cmpN_lt (Zcg (B:=W64) (by decide) (by omega))];rfl)⟩;exact sO L23 rfl<|cF t2 (Zs rfl rfl)<|kP [4,5,6,21] rfl<|SF rfl λ_ L28=>wp_skip<|Zc<|wA<|sa L28 rfl λ_ L29=>sn<|wp_ret<|Zt<|rt L29 (.tmp rfl Res.nil)<|⟨_,_,rfl,R6.ext,(by rw[cmpN_gt (Zcg (B:=W64) (by decide) (by omega))];rfl)⟩;refine sO L18 rfl<|cF t1 (Yn rfl rfl)<|SF rfl λ_ L30=>wp_skip<|Zc<|wp_seq<|wA<|sm L30 rfl<|So rfl<|Zz rfl underlying30<|So rfl<|ZO rfl rfl Xd<|Sa rfl<|kP [4,5,6,7] rfl λ_ L35=>sn<|wp_block<|ZJ (λm ac ww=>∃(S':Sh)(k:Nat),S8.le S'/\ZD ac 49 [(4,(.int .i64 (0:Int))),(5,(.slice p1 len1 cap1)),(6,(.slice p2 len2 cap2)),(7,(.int .i64 (((k:Nat):Int)-(1:Int))))]/\Run S w S' [] ww/\(k<=(ZL W64 a).length)/\((ZL W64 a).drop k=(ZL W64 b).drop k)/\m=k) ((ZL W64 a).length) ⟨S8,((ZL W64 a).length),Sh.le.refl _,(((L35.ri 7 (((((ZL W64 a).length):Nat):Int)-(1:Int)) rfl).a L35).kp [7,6,5,4] rfl),R6,(by omega),(by rw[List.drop_eq_nil_of_le (by omega),List.drop_eq_nil_of_le (by omega)]),rfl⟩ ?_;rintro m_1 ac1 _ ⟨_,k,l6,L36,R7,hk,hd,m1⟩;refine wp_seq<|wA<|sm L36 rfl λ_ L38=>?_;by_cases t3:(0:Int)<=((k:Int)-(1:Int));refine sO L38 rfl<|cT t3 (YI rfl rfl)<|ST rfl λ_ L39=>wp_skip<|Zc<|wp_seq<|wp_block<|wp_block<|wp_seq ?_;obtain⟨b3,rest_1,rfl,r3⟩:=(hd1.up<|l5.trans l6).row (by omega);obtain⟨b4,rest_2,rfl,r4⟩:=(hd2.up l6).row (by omega);have L40:=(L39.kp [4,5,6,7,25,26] rfl);refine Zw (E0:=[]) (H0:=[]) (n:=49) mixed 8 [] (λk=>0) (Zcn [.is (.slice (some ⟨b3,0,none⟩) len1 cap1),.is (.int .i64 ((k:Int)-(1:Int))),.is (.pointer (some ⟨b3,(0+(k-1)),none⟩)),.is (.int .u64 (((ZL W64 a).getD (k-1) 0:Nat):Int)),.is (.slice (some ⟨b4,0,none⟩) len2 cap2),.is (.int .i64 ((k:Int)-(1:Int))),.is (.pointer (some ⟨b4,(0+(k-1)),none⟩)),.is (.int .u64 (((ZL W64 b).getD (k-1) 0:Nat):Int))]) L40 R7 (by simp) (by simp) (by rfl) (by rfl) (by simp) (ZU ?_) ?_;refine(Am ?_ ?_ ?_ ?_ ?_ ?_ ?_ ?_ trivial);exact dm [] rfl;exact dm [] rfl;exact dK [0,1] rfl λA=>Zr (k-1) rfl rfl underlying30 ZG (by omega) (by omega)<|A.same rfl;exact dK [2] rfl λA=>Zk (v:=(.int .u64 (((ZL W64 a).getD (k-1) 0:Nat):Int))) rfl YB (A.run.row<|r3.up A.le) (by rw[Nat.zero_add];exact Yj (by omega))<|A.same rfl;exact dm [] rfl;exact dm [] rfl;exact dK [4,5] rfl λA=>Zr (k-1) rfl rfl underlying30 ZG (by omega) (by omega)<|A.same rfl;exact dK [6] rfl λA=>Zk (v:=(.int .u64 (((ZL W64 b).getD (k-1) 0:Nat):Int))) rfl YB (A.run.row<|r4.up A.le) (by rw[Nat.zero_add];exact Yj (by omega))<|A.same rfl;intro S18 _ _ w18 l7 E2 R8 n2 L49 K2;have L57:=L49.dr K2 [0,1,2,3,4,5,6,7] rfl;have R9:Run _ _ S18 [] w18:=Yb R8 n2 [] (by simp) (by simp);by_cases t4:(((ZL W64 a).getD (k-1) 0:Nat):Int)<(((ZL W64 b).getD (k-1) 0:Nat):Int);exact sO L57 rfl<|cT t4 (Zs rfl rfl)<|Sa rfl<|ST rfl<|WA<|Sa rfl λ_ L60=>sn<|wp_ret<|YE<|YE<|Zt<|Zt<|YE<|Zt<|rt L60 (.tmp rfl Res.nil)<|⟨_,_,rfl,R9.ext,(by rw[cmpN_lt (Zed (B:=W64) (n:=k-1) (by decide) (by omega) (by omega) (by rw[show k-1+1=k by omega];first|exact hd|exact hd.symm) (by omega))];rfl)⟩;refine sO L57 rfl<|cF t4 (Zs rfl rfl)<|Sa rfl<|SF rfl λ_ L62=>wp_seq ?_;have L63:=(L62.kp [4,5,6,7,25,26,30,31,32,33,34,35,36,37,38,29] rfl);refine Zw (E0:=[]) (H0:=[]) (n:=49) mixed 8 [] (λk=>0) (Zcn [.is (.slice (some ⟨b3,0,none⟩) len1 cap1),.is (.int .i64 ((k:Int)-(1:Int))),.is (.pointer (some ⟨b3,(0+(k-1)),none⟩)),.is (.int .u64 (((ZL W64 a).getD (k-1) 0:Nat):Int)),.is (.slice (some ⟨b4,0,none⟩) len2 cap2),.is (.int .i64 ((k:Int)-(1:Int))),.is (.pointer (some ⟨b4,(0+(k-1)),none⟩)),.is (.int .u64 (((ZL W64 b).getD (k-1) 0:Nat):Int))]) L63 R9 (by simp) (by simp) (by rfl) (by rfl) (by simp) (ZU ?_) ?_;refine(Am ?_ ?_ ?_ ?_ ?_ ?_ ?_ ?_ trivial);exact dm [] rfl;exact dm [] rfl;exact dK [0,1] rfl λA=>Zr (k-1) rfl rfl underlying30 ZG (by omega) (by omega)<|A.same rfl;exact dK [2] rfl λA=>Zk (v:=(.int .u64 (((ZL W64 a).getD (k-1) 0:Nat):Int))) rfl YB (A.run.row<|r3.up<|l7.trans A.le) (by rw[Nat.zero_add];exact Yj (by omega))<|A.same rfl;exact dm [] rfl;exact dm [] rfl;exact dK [4,5] rfl λA=>Zr (k-1) rfl rfl underlying30 ZG (by omega) (by omega)<|A.same rfl;exact dK [6] rfl λA=>Zk (v:=(.int .u64 (((ZL W64 b).getD (k-1) 0:Nat):Int))) rfl YB (A.run.row<|r4.up<|l7.trans A.le) (by rw[Nat.zero_add];exact Yj (by omega))<|A.same rfl;intro S27 _ _ w27 l8 E3 R10 n3 L72 K3;have L80:=L72.dr K3 [0,1,2,3,4,5,6,7] rfl;have R11:Run _ _ S27 [] w27:=Yb R10 n3 [] (by simp) (by simp);by_cases t5:(((ZL W64 b).getD (k-1) 0:Nat):Int)<(((ZL W64 a).getD (k-1) 0:Nat):Int);exact sO L80 rfl<|cT t5 (ZF rfl rfl)<|Sa rfl<|ST rfl<|WA<|Sa rfl λ_ L83=>sn<|wp_ret<|YE<|YE<|Zt<|Zt<|YE<|Zt<|rt L83 (.tmp rfl Res.nil)<|⟨_,_,rfl,R11.ext,(by rw[cmpN_gt (Zed (B:=W64) (n:=k-1) (by decide) (by omega) (by omega) (by rw[show k-1+1=k by omega];first|exact hd|exact hd.symm) (by omega))];rfl)⟩;exact sO L80 rfl<|cF t5 (ZF rfl rfl)<|Sa rfl<|SF rfl λ_ L85=>wp_skip<|Zx<|Zx<|Zc<|Za<|sm L85 rfl<|So rfl<|ZO rfl rfl Xd<|Sa rfl λ_ L88=>sn<|⟨(k-1),(by omega),S27,(k-1),(l6.trans<|l7.trans l8),(((L88.ri 7 ((((k-1):Nat):Int)-(1:Int)) rfl).a L88).kp [7,6,5,4] rfl),R11,(by omega),(by exact drop_step (by omega) (by omega) (by rw[show k-1+1=k by omega];exact hd) (by omega)),rfl⟩;exact sO L38 rfl<|cF t3 (YI rfl rfl)<|SF rfl λ_ L90=>wp_exit<|Zo<|Zo<|Yl<|Zc<|wA<|sa L90 rfl λ_ L91=>sn<|wp_ret<|rt (L91.kp [4] rfl) (.tmp rfl Res.nil)<|⟨_,_,rfl,R7.ext,(by rw[cmpN_eq (digs_inj (B:=W64) (by decide) (by rw[show k=0 by omega] at hd;exact hd))];rfl)⟩
theorem nat_Add{S:Sh}{w:World}(hS:ZV S w){c_a:List Value}{a:Nat}{k_a:Nat}(h_a:Na S c_a a k_a){c_b:List Value}{b:Nat}{k_b:Nat}(h_b:Na S c_b b k_b)(hlim:k_a<=1099511627776)(hlim2:k_b<=1099511627776):Calls prog 137 [(.agg (c_a:List Value).toArray),(.agg (c_b:List Value).toArray)].toArray w (Ret S w (λS v=>∃(c0:List Value),v= .agg c0.toArray/\Na S c0 (a+b) (k_a+k_b+1))):=by
 refine cbd hS (n:=86) func137 rfl λ_ L0 R0=>?_;have hla:=Qp h_a.1;have hlb:=Qp h_b.1;refine wA<|sO L0 rfl<|ZW (cs:=c_a) rfl R0 rfl λb1 _ _ l1 r1 R1=>So rfl<|ZW (cs:=c_b) rfl R1 rfl λb2 S2 _ l2 r2 R2=>So rfl<|ZK (cs:=zN1) ZZ R2 rfl λb3 _ R3 _ L3=>sn<|wp_scope_straight<|Xr (λac ww=>∃(S':Sh),S2.le S'/\ZD ac 86 [(2,(.pointer (some ⟨b1,0,none⟩))),(3,(.pointer (some ⟨b2,0,none⟩))),(4,(.pointer (some ⟨b3,0,none⟩)))]/\Run S w S' [(b3,32,zN1)] ww) ?_ ?_;rintro ac1 _ ⟨_,l3,L4,R4⟩;refine wp_seq ?_;have L5:=(L4.kp [2,3,4] rfl);refine Zw (E0:=[]) (H0:=[(b3,32,zN1)]) (n:=86) mixed 3 [] (λk=>0) (Zcn [.is (.agg (c_a:List Value).toArray),.sat (λS v=>∃(p0:Option Addr)(len0:Nat)(cap0:Nat),v= .slice p0 len0 cap0/\(ZL W64 a).length=len0/\len0<=cap0/\len0<=281474976710656/\Dg S p0 len0 cap0 (ZL W64 a)) (λ_ _ _ l ⟨p0,n0,m0,e,g0,f0,j0,h0⟩=>⟨p0,n0,m0,e,g0,f0,j0,h0.up l⟩),.is (.agg (c_b:List Value).toArray)]) L5 R4 (by simp) (by simp) (by rfl) (by rfl) (by simp) (ZU ?_) ?_;refine(An ?_<|Ak ?_ ?_ trivial);exact dK [] rfl λA=>ZA rfl ZM Zp (A.run.row<|r1.up<|l2.trans<|l3.trans A.le) h_a.len<|A.same rfl;exact dK [0] rfl λA=>Zi rfl Zfj (Xx A.run.holds<|h_a.up<|l1.trans<|l2.trans<|l3.trans A.le) λv_1 _ _ x1 v1=>(A.post x1.le (A.run.call x1) v1);exact dK [] rfl λA=>ZA rfl ZM Zp (A.run.row<|r2.up<|l3.trans A.le) h_b.len<|A.same rfl;intro S8 _ _ w9 l5 E1 R6 n1 L9 K1;obtain⟨_,e2,p1,len1,cap1,rfl,y1,z1,hg1,hd1⟩:=K1 1 (by decide);have L10:=L9.add e2;clear L9;have L11:=L10.dr K1 [2] rfl;have R7:Run _ _ S8 [(b3,32,zN1)] w9:=Yb R6 n1 [] (by simp) (by simp);refine sO L11 rfl<|Zi rfl Zfj (Xx R7.holds<|h_b.up<|l1.trans<|l2.trans<|l3.trans l5) λv_2 S9 _ x2 v2=>?_;have R8:=R7.call x2;have l6:=x2.le;obtain⟨p2,len2,cap2,rfl,y2,z2,hg2,hd2⟩:=v2;intro _ L12;refine sa L12 rfl<|Sa rfl<|kP [4,7,8] rfl λ_ L15=>sn<|Xr (λac ww=>∃(S':Sh)(p_x:Option Addr)(len_x:Nat)(cap_x:Nat)(x:List Nat)(p_y:Option Addr)(len_y:Nat)(cap_y:Nat)(y:List Nat),S9.le S'/\ZD ac 86 [(4,(.pointer (some ⟨b3,0,none⟩))),(7,(.slice p_x len_x cap_x)),(8,(.slice p_y len_y cap_y))]/\Run S w S' [(b3,32,zN1)] ww/\(Dg S' p_x len_x cap_x x)/\(Dg S' p_y len_y cap_y y)/\(val W64 x+val W64 y=a+b)/\(len_y<=len_x)/\(len_x<=17179869185)) ?_ ?_;rintro ac2 _ ⟨S10,p_x,len_x,cap_x,x,p_y,len_y,cap_y,y,l7,L16,R9,hd_x,hd_y,hxy,hyx,hxk⟩;have hl_x:=hd_x.hlen;have hc_x:=hd_x.hcap;have hg_x:=hd_x.hbig;have hl_y:=hd_y.hlen;have hc_y:=hd_y.hcap;have hg_y:=hd_y.hbig;refine wA<|sm L16 rfl<|So rfl<|Zz rfl underlying30<|So rfl<|Zy rfl rfl Xd<|So rfl<|XB (m:=(len_x+1)) (c:=(len_x+1)) (by first|rfl|(simp[ev,Zad];omega)) (by first|rfl|(simp[ev,Zad];omega)) underlying30 Zah rfl ZG Zbp (by omega) (by omega) (by omega) R9 λb4 _ R10 _ L20=>?_;rw[Zfq] at R10;refine sa L20 rfl<|SW<|Sm rfl<|Sm rfl<|So rfl<|does_copyDg (m:=(len_x+1)) (us:=(List.replicate (len_x+1) 0)) rfl rfl underlying30 ZG R10 hd_x (by simp) (by omega) λ_ R11=>kP [4,8,9] rfl<|SW<|Sa rfl λ_ L26=>sn<|wp_seq<|wp_label<|Zc<|wp_seq<|wA<|sm L26 rfl<|So rfl<|Zz rfl underlying30<|Sm rfl λ_ L29=>sn<|wp_block ?_;have hxl:=hd_x.hlt;have hyl:=hd_y.hlt;have hst:Zgr x y (x++(List.replicate (len_x+1) 0).drop len_x) 0 0:=by rw[show(x++(List.replicate (len_x+1) 0).drop len_x)=x++[0] from by rw[List.drop_replicate,show len_x+1-len_x=1 by omega];rfl];exact Zgr.start hxl
 refine ZJ (λm ac ww=>∃(S':Sh)(us:List Nat)(i:Nat)(c:Nat),S10.le S'/\ZD ac 86 [(4,(.pointer (some ⟨b3,0,none⟩))),(8,(.slice p_y len_y cap_y)),(9,(.slice (some ⟨b4,0,none⟩) (len_x+1) (len_x+1))),(10,(.int .u64 ((c:Nat):Int))),(56,(.int .i64 (((len_x+1):Nat):Int))),(57,(.int .i64 ((i:Nat):Int)))]/\Run S w S' [(b4,29,(YD us++[])),(b3,32,zN1)] ww/\(Zgr x y us i c)/\m=(x).length+1-i) (x.length+1-0) ⟨S10,(x++(List.replicate (len_x+1) 0).drop len_x),0,0,Sh.le.refl _,(((L29.ri 10 ((0:Nat):Int) rfl).a ((L29.ri 57 ((0:Nat):Int) rfl).a L29)).kp [57,56,10,9,8,4] rfl),(Yd<|Yd R11),hst,rfl⟩ ?_;rintro m_1 ac3 _ ⟨S11,us,i,c,l8,L30,R12,hI,m1⟩;refine wp_seq<|Za ?_;have hIl:=hI.len;have hIe:=hI.le;have hIc:=hI.c1;by_cases t1:(i:Int)<(((len_x+1):Nat):Int);have hIl:=hI.len;have hIe:=hI.le;have hIc:=hI.c1;refine sO L30 rfl<|cT t1 (Zs rfl rfl) λ_ L33=>sn<|wp_seq<|Zl L33 rfl rfl<|wp_skip<|Zc<|wp_seq<|wp_block<|wA<|sm L33 rfl<|Sa rfl<|SW<|Sa rfl<|SVv<|Sm rfl<|Sm rfl<|So rfl<|Zz rfl underlying30 λ_ L39=>?_;by_cases t2:(i:Int)<(len_y:Int);refine sO L39 rfl<|cT t2 (Zs rfl rfl)<|ST rfl λ_ L40=>Za<|sm L40 rfl<|Sm rfl λ_ L42=>?_;obtain⟨b5,rest_1,rfl,r3⟩:=(hd_y.up l8).row (by omega);exact sO L42 rfl<|Zr i rfl rfl underlying30 ZG (by omega) (by omega)<|So rfl<|Zk (v:=(.int .u64 ((y.getD i 0:Nat):Int))) rfl YB (R12.row r3) (by rw[Nat.zero_add];exact Yj (by omega))<|Sa rfl<|SX<|Sm rfl<|Sm rfl<|Sm rfl<|Sm rfl<|So rfl<|Zr i rfl rfl underlying30 ZG (by omega) (by omega)<|So rfl<|Zk (v:=(.int .u64 ((us.getD i 0:Nat):Int))) rfl YB (R12.has<|List.Mem.head _) (by rw[Nat.zero_add];exact Yj (by omega))<|Sm rfl<|Sm rfl λ_ L53=>so L53 rfl<|Xh (x:=(us.getD i 0)) (y:=(y.getD i 0)) (c:=c) L53 rfl (by omega)<|Sm rfl<|So rfl<|Zj rfl rfl<|So rfl<|Zj rfl rfl<|So rfl<|Zr i rfl rfl underlying30 ZG (by omega) (by omega)<|Sz rfl<|Yo (cs':=(YD (us.set i (((us.getD i 0)+(y.getD i 0)+c)%18446744073709551616))++[])) rfl rfl R12 ZG rfl (by simp only[List.length_append,ZN];omega) (by rw[Nat.zero_add];exact Xs (by omega)) λ_ R13=>Sa rfl<|SY<|So rfl<|Zy rfl rfl Xd<|Sm rfl λ_ L62=>sn<|⟨x.length+1-(i+1),(by omega),S11,(us.set i (((us.getD i 0)+(y.getD i 0)+c)%18446744073709551616)),(i+1),(((us.getD i 0)+(y.getD i 0)+c)/18446744073709551616),l8,(((L62.ri 10 (((((us.getD i 0)+(y.getD i 0)+c)/18446744073709551616):Nat):Int) rfl).a ((L62.ri 57 (((i+1):Nat):Int) rfl).a L62)).kp [57,56,10,9,8,4] rfl),(Yd<|Yd R13),(by first|exact hI.step hyl (by omega)|(have q:=hI.step hyl (by omega);rw[Za0 (y:=y) (i:=i) (by omega)] at q;exact q)),rfl⟩;refine sO L39 rfl<|cF t2 (Zs rfl rfl)<|SF rfl<|WA<|Sm rfl λ_ L66=>?_;by_cases t3:(c:Int)=(0:Int);refine sO L66 rfl<|cT t3 (ZP rfl rfl)<|ST rfl λ_ L67=>wp_exit<|Zo<|Zgz rfl<|Zo<|Zo<|Yl<|Zc<|wA<|sm L67 rfl λ_ L68=>?_;obtain⟨S12,l9,r4,R14⟩:=(R12).freeze;have hd3:Dg S12 (some ⟨b4,0,none⟩) (len_x+1) (len_x+1) us:=⟨by first|rfl|omega,by omega,by omega,hI.lt,λ_=>⟨_,_,rfl,r4⟩⟩;refine sO L68 rfl<|Zi rfl Zd9 (Zd2 R14.holds (k:=(k_a+k_b+1)) hd3 (by rw[hI.done hxl hyl (by omega) (by omega),hxy];exact sum_pow h_a.1 h_b.1)) λv_3 _ _ x3 v3=>?_;have R15:=R14.call x3;obtain⟨cs_1,rfl,h1⟩:=v3;intro _ L69;exact sZ L69 rfl<|Zm rfl rfl R15 Zp h1.len rfl h1.ones λ_ R16 _ L70=>(sn<|wp_ret<|Za2<|rt (L70.kp [4] rfl) (Res.aggW rfl ZM Zp (R16.has<|List.Mem.head _) h1.len Res.nil)<|⟨_,_,rfl,R16.ext,⟨_,rfl,(h1.to (by rw[hI.done hxl hyl (by omega) (by omega)];exact hxy) (by omega))⟩⟩);exact sO L66 rfl<|cF t3 (ZP rfl rfl)<|SF rfl λ_ L72=>wp_skip<|Zc<|Za<|sm L72 rfl<|Sm rfl<|Sm rfl<|Sm rfl<|So rfl<|Zr i rfl rfl underlying30 ZG (by omega) (by omega)<|So rfl<|Zk (v:=(.int .u64 ((us.getD i 0:Nat):Int))) rfl YB (R12.has<|List.Mem.head _) (by rw[Nat.zero_add];exact Yj (by omega))<|Sm rfl<|Sm rfl λ_ L80=>so L80 rfl<|Xh (x:=(us.getD i 0)) (y:=0) (c:=c) L80 rfl (by omega)<|Sm rfl<|So rfl<|Zj rfl rfl<|So rfl<|Zj rfl rfl<|So rfl<|Zr i rfl rfl underlying30 ZG (by omega) (by omega)<|Sz rfl<|Yo (cs':=(YD (us.set i (((us.getD i 0)+0+c)%18446744073709551616))++[])) rfl rfl R12 ZG rfl (by simp only[List.length_append,ZN];omega) (by rw[Nat.zero_add];exact Xs (by omega)) λ_ R17=>Sa rfl<|SY<|So rfl<|Zy rfl rfl Xd<|Sm rfl λ_ L89=>sn<|⟨x.length+1-(i+1),(by omega),S11,(us.set i (((us.getD i 0)+0+c)%18446744073709551616)),(i+1),(((us.getD i 0)+0+c)/18446744073709551616),l8,(((L89.ri 10 (((((us.getD i 0)+0+c)/18446744073709551616):Nat):Int) rfl).a ((L89.ri 57 (((i+1):Nat):Int) rfl).a L89)).kp [57,56,10,9,8,4] rfl),(Yd<|Yd R17),(by first|exact hI.step hyl (by omega)|(have q:=hI.step hyl (by omega);rw[Za0 (y:=y) (i:=i) (by omega)] at q;exact q)),rfl⟩;have hIl:=hI.len;have hIe:=hI.le;have hIc:=hI.c1;refine sO L30 rfl<|cF t1 (Zs rfl rfl) λ_ L92=>sn<|wp_seq<|Zh L92 rfl rfl<|wp_exit<|Zo<|Zo<|Yl<|Zc<|wA<|sm L92 rfl λ_ L93=>?_;obtain⟨S14,l11,r5,R18⟩:=(R12).freeze;have hd4:Dg S14 (some ⟨b4,0,none⟩) (len_x+1) (len_x+1) us:=⟨by first|rfl|omega,by omega,by omega,hI.lt,λ_=>⟨_,_,rfl,r5⟩⟩;refine sO L93 rfl<|Zi rfl Zd9 (Zd2 R18.holds (k:=(k_a+k_b+1)) hd4 (by rw[hI.done hxl hyl (by omega) (by omega),hxy];exact sum_pow h_a.1 h_b.1)) λv_4 _ _ x4 v4=>?_;have R19:=R18.call x4;obtain⟨c2,rfl,h2⟩:=v4;intro _ L94;exact sZ L94 rfl<|Zm rfl rfl R19 Zp h2.len rfl h2.ones λ_ R20 _ L95=>(sn<|wp_ret<|Za2<|rt (L95.kp [4] rfl) (Res.aggW rfl ZM Zp (R20.has<|List.Mem.head _) h2.len Res.nil)<|⟨_,_,rfl,R20.ext,⟨_,rfl,(h2.to (by rw[hI.done hxl hyl (by omega) (by omega)];exact hxy) (by omega))⟩⟩);skip;refine wA<|sm L15 rfl<|So rfl<|Zz rfl underlying30<|Sm rfl<|So rfl<|Zz rfl underlying30 λ_ L100=>?_;by_cases t4:(len1:Int)<(len2:Int);exact sO L100 rfl<|cT t4 (Zs rfl rfl)<|ST rfl λ_ L101=>Za<|sm L101 rfl<|Sm rfl<|Sa rfl<|Sa rfl λ_ L105=>sn<|⟨S9,p2,len2,cap2,(ZL W64 b),p1,len1,cap1,(ZL W64 a),Sh.le.refl _,((L105.kp [4,7,8] rfl).kp [8,7,4] rfl),R8,hd2,(hd1.up l6),(by simp only[ZX (show 2<=W64 by decide)];try omega),(by omega),(by omega)⟩;exact sO L100 rfl<|cF t4 (Zs rfl rfl)<|SF rfl λ_ L107=>wp_skip<|Zc<|⟨S9,p1,len1,cap1,(ZL W64 a),p2,len2,cap2,(ZL W64 b),Sh.le.refl _,(L107.kp [8,7,4] rfl),R8,(hd1.up l6),hd2,(by simp only[ZX (show 2<=W64 by decide)];try omega),(by omega),(by omega)⟩;skip;obtain⟨hb_a,⟨hs_a,rfl⟩|⟨hw_a,lo_a,bb_a,len_a,cap_a,rest_a,hlo_a,rfl,rw_a,hd_a,h2_a⟩⟩:=h_a.open;obtain⟨hb_b,⟨hs_b,rfl⟩|⟨hw_b,lo_b,bb_b,len_b,cap_b,rest_b,hlo_b,rfl,rw_b,hd_b,h2_b⟩⟩:=h_b.open;refine wA<|sO L3 rfl<|Zg (off':=1) rfl ZS rfl<|So rfl<|Zk rfl Xf (R3.row<|r1.up l2) rfl<|So rfl<|Yc rfl rfl underlying30<|Sm rfl<|Sn rfl<|Zg (off':=1) rfl ZS rfl<|Sn rfl<|Zk rfl Xf (R3.row r2) rfl<|Sn rfl<|Yc rfl rfl underlying30<|So rfl<|Ze rfl rfl<|kP [2,3,4,20] rfl<|ST rfl<|WA<|So rfl<|Zg (off':=0) rfl Yt rfl<|So rfl<|Zk rfl YB (R3.row<|r1.up l2) rfl<|So rfl<|Zg (off':=0) rfl Yt rfl<|So rfl<|Zk rfl YB (R3.row r2) rfl λ_ L120=>so L120 rfl<|Xh (x:=a) (y:=b) (c:=0) L120 rfl (by omega)<|Sm rfl<|So rfl<|Zj rfl rfl<|So rfl<|Zj rfl rfl<|Sa rfl<|Sa rfl<|kP [2,3,4,5,6] rfl<|SVv<|Sm rfl λ_ L128=>?_;by_cases t5:(((a+b+0)/18446744073709551616:Nat):Int)=(0:Int);refine sO L128 rfl<|cT t5 (ZP rfl rfl)<|ST rfl<|WA<|Sm rfl λ_ L130=>?_;have h3:Na S2 [(.int .u64 (((a+b+0)%18446744073709551616:Nat):Int)),(.slice none 0 0)] (a+b) (k_a+k_b+1):=Na.ofLowE (by omega) (by omega) (sum_pow hb_a hb_b);exact sO L130 rfl<|ZH (cs:=[(.int .u64 (((a+b+0)%18446744073709551616:Nat):Int)),(.slice none 0 0)]) ZZ Qx (.cons rfl Yt rfl (by decide) .nil) (by rfl)<|Sz rfl<|Zm rfl rfl R3 Zp h3.len rfl h3.ones λ_ R21 _ L132=>sn<|wp_ret<|Zt<|Zt<|Za2<|rt L132 (Res.aggW rfl ZM Zp (R21.has<|List.Mem.head _) h3.len Res.nil)<|⟨_,_,rfl,R21.ext,⟨_,rfl,(h3.to rfl (by omega))⟩⟩;refine sO L128 rfl<|cF t5 (ZP rfl rfl)<|SF rfl λ_ L133=>wp_skip<|Zc<|wA<|sm L133 rfl<|Sm rfl<|So rfl<|Yf (cs:=(YD [((a+b+0)%18446744073709551616),((a+b+0)/18446744073709551616)]++[])) underlying30 ZG Zah (.cons rfl rfl (by decide) (.cons rfl rfl (by decide) .nil)) [[(.int .u64 (((a+b+0)%18446744073709551616:Nat):Int))],[(.int .u64 (((a+b+0)/18446744073709551616:Nat):Int))]] rfl rfl (by rfl) (by decide) R3 λb6 _ R22 _ L136=>?_;obtain⟨S16,l13,r6,R23⟩:=(R22).freeze;have hd5:Dg S16 (some ⟨b6,0,none⟩) 2 2 ([((a+b+0)%18446744073709551616),((a+b+0)/18446744073709551616)]):=⟨by first|rfl|omega,by omega,by omega,by simp;omega,λ_=>⟨_,_,rfl,r6⟩⟩;have h4:Na S16 [(.int .u64 (0:Int)),(.slice (some ⟨b6,0,none⟩) 2 2)] (a+b) (k_a+k_b+1):=Na.ofDg (lo:=0) (by decide) hd5 (by omega) (by simp;omega) (by simp only[val,W64];omega) (sum_pow hb_a hb_b);exact sO L136 rfl<|ZH (cs:=[(.int .u64 (0:Int)),(.slice (some ⟨b6,0,none⟩) 2 2)]) ZZ Qx (.cons rfl ZS rfl (by decide) .nil) (by rfl)<|Sz rfl<|Zm rfl rfl R23 Zp h4.len rfl h4.ones λ_ R24 _ L138=>sn<|wp_ret<|Zt<|Za2<|rt (L138.kp [2,3,4] rfl) (Res.aggW rfl ZM Zp (R24.has<|List.Mem.head _) h4.len Res.nil)<|⟨_,_,rfl,R24.ext,⟨_,rfl,(h4.to rfl (by omega))⟩⟩;have hl_b:=hd_b.hlen;have hc_b:=hd_b.hcap;have hg_b:=hd_b.hbig;have hW_b:18446744073709551616<=b:=hw_b;exact wA<|sO L3 rfl<|Zg (off':=1) rfl ZS rfl<|So rfl<|Zk rfl Xf (R3.row<|r1.up l2) rfl<|So rfl<|Yc rfl rfl underlying30<|Sm rfl<|Sn rfl<|Zg (off':=1) rfl ZS rfl<|Sn rfl<|Zk rfl Xf (R3.row r2) rfl<|Sn rfl<|Yc rfl rfl underlying30<|So rfl<|Ze rfl rfl<|kP [2,3,4,20] rfl<|SF rfl λ_ L148=>wp_skip<|Zc<|⟨S2,Sh.le.refl _,(L148.kp [4,3,2] rfl),R3⟩;have hl_a:=hd_a.hlen;have hc_a:=hd_a.hcap;have hg_a:=hd_a.hbig;have hW_a:18446744073709551616<=a:=hw_a;obtain⟨hb_b,⟨hs_b,rfl⟩|⟨hw_b,lo_b,bb_b,len_b,cap_b,rest_b,hlo_b,rfl,rw_b,hd_b,h2_b⟩⟩:=h_b.open;exact wA<|sO L3 rfl<|Zg (off':=1) rfl ZS rfl<|So rfl<|Zk rfl Xf (R3.row<|r1.up l2) rfl<|So rfl<|Yc rfl rfl underlying30<|Sm rfl<|Sf rfl<|Sf rfl<|Sf rfl<|So rfl<|Ze rfl rfl<|kP [2,3,4,20] rfl<|SF rfl λ_ L157=>wp_skip<|Zc<|⟨S2,Sh.le.refl _,(L157.kp [4,3,2] rfl),R3⟩;have hl_b:=hd_b.hlen;have hc_b:=hd_b.hcap;have hg_b:=hd_b.hbig;have hW_b:18446744073709551616<=b:=hw_b;exact wA<|sO L3 rfl<|Zg (off':=1) rfl ZS rfl<|So rfl<|Zk rfl Xf (R3.row<|r1.up l2) rfl<|So rfl<|Yc rfl rfl underlying30<|Sm rfl<|Sf rfl<|Sf rfl<|Sf rfl<|So rfl<|Ze rfl rfl<|kP [2,3,4,20] rfl<|SF rfl λ_ L166=>wp_skip<|Zc<|⟨S2,Sh.le.refl _,(L166.kp [4,3,2] rfl),R3⟩
theorem nat_Sub{S:Sh}{w:World}(hS:ZV S w){c_a:List Value}{a:Nat}{k_a:Nat}(h_a:Na S c_a a k_a){c_b:List Value}{b:Nat}{k_b:Nat}(h_b:Na S c_b b k_b)(hlim:k_a<=1099511627776):Calls prog 145 [(.agg (c_a:List Value).toArray),(.agg (c_b:List Value).toArray)].toArray w (Ret S w (λS v=>((a<b)/\∃(c0:List Value),v= .tuple [.agg c0.toArray,.int .i64 10].toArray/\Na S c0 0 0)\/((b<=a)/\∃(c0:List Value),v= .tuple [.agg c0.toArray,.int .i64 0].toArray/\Na S c0 (a-b) k_a))):=by
 refine cbd hS (n:=66) func145 rfl λ_ L0 R0=>?_;have hla:=Qp h_a.1;have hcmp:=@cmpN_neg a b;refine wA<|sO L0 rfl<|ZW (cs:=c_a) rfl R0 rfl λb1 _ _ l1 r1 R1=>So rfl<|ZW (cs:=c_b) rfl R1 rfl λb2 _ _ l2 r2 R2=>So rfl<|ZK (cs:=zN1) ZZ R2 rfl λb3 _ R3=>Sa rfl λ_ L4=>sn<|wp_scope_straight<|wp_seq<|wA<|sO L4 rfl<|ZA rfl ZM Zp (R3.row<|r1.up l2) h_a.len<|So rfl<|ZA rfl ZM Zp (R3.row r2) h_b.len<|So rfl<|Zi rfl ent_133 (nat_Cmp R3.holds (h_a.up<|l1.trans l2)<|h_b.up<|l1.trans l2) λv_1 S3 _ x1 v1=>?_;have R4:=R3.call x1;have l3:=x1.le;obtain rfl:=v1;intro _ L7;by_cases t1:(Zcy a b)<(0:Int);refine sO L7 rfl<|cT t1 (Zs rfl rfl)<|kP [2,3,4,5,14] rfl<|ST rfl λ_ L9=>wp_seq<|Za ?_;have h1:Na S3 zN1 0 (0):=Na.zero _ _;exact sO L9 rfl<|ZH (cs:=zN1) ZZ Qx .nil (by rfl)<|Sz rfl<|Zm rfl rfl R4 Zp h1.len rfl h1.ones λ_ R5=>Sa rfl λ_ L12=>sn<|wp_ret<|Zt<|Za2<|rt L12 (Res.aggW rfl ZM Zp (R5.has<|List.Mem.head _) h1.len<|.tmp rfl Res.nil)<|⟨_,_,rfl,R5.ext,(Or.inl ⟨by first|assumption|omega|(simp_all;done),⟨_,rfl,(h1.to rfl (by omega))⟩⟩)⟩;refine sO L7 rfl<|cF t1 (Zs rfl rfl)<|kP [2,3,4,5,14] rfl<|SF rfl λ_ L14=>wp_skip<|Zc<|wp_seq<|wp_seq ?_;obtain⟨hb_a,⟨hs_a,rfl⟩|⟨hw_a,lo_a,bb_a,len_a,cap_a,rest_a,hlo_a,rfl,rw_a,hd_a,h2_a⟩⟩:=h_a.open;refine Za<|sO L14 rfl<|Zg (off':=1) rfl ZS rfl<|So rfl<|Zk rfl Xf (R4.row<|r1.up<|l2.trans l3) rfl<|So rfl<|Yc rfl rfl underlying30<|ST rfl λ_ L17=>wp_seq ?_;obtain⟨hb_b,⟨hs_b,rfl⟩|⟨hw_b,lo_b,bb_b,len_b,cap_b,rest_b,hlo_b,rfl,rw_b,hd_b,h2_b⟩⟩:=h_b.open;refine Za<|sO L17 rfl<|Zg (off':=0) rfl Yt rfl<|So rfl<|Zk rfl YB (R4.row<|r1.up<|l2.trans l3) rfl<|So rfl<|Zg (off':=0) rfl Yt rfl<|So rfl<|Zk rfl YB (R4.row<|r2.up l3) rfl λ_ L21=>?_;have hba:((a-b:Nat):Int)=(a:Int)-(b:Int):=by omega
 refine sO L21 rfl<|ZO rfl rfl Zav λ_ L22=>?_;have h2:Na S3 [(.int .u64 ((a:Int)-(b:Int))),(.slice none 0 0)] (a-b) (k_a):=by rw[show(a:Int)-(b:Int)=((a-b:Nat):Int) by omega];exact Na.ofLowE rfl (by omega) (Nat.le_trans (Nat.sub_le _ _) hb_a)
 exact sO L22 rfl<|ZH (cs:=[(.int .u64 ((a:Int)-(b:Int))),(.slice none 0 0)]) ZZ Qx (.cons rfl Yt rfl (by decide) .nil) (by rfl)<|Sz rfl<|Zm rfl rfl R4 Zp h2.len rfl h2.ones λ_ R6=>Sa rfl λ_ L25=>sn<|wp_ret<|Zt<|Za2<|rt (L25.kp [2,3,4,5] rfl) (Res.aggW rfl ZM Zp (R6.has<|List.Mem.head _) h2.len<|.tmp rfl Res.nil)<|⟨_,_,rfl,R6.ext,(Or.inr ⟨by first|assumption|omega|(simp_all;done),⟨_,rfl,(h2.to rfl (by omega))⟩⟩)⟩;have hl_b:=hd_b.hlen;have hc_b:=hd_b.hcap;have hg_b:=hd_b.hbig;have hW_b:18446744073709551616<=b:=hw_b;exfalso;omega;have hl_a:=hd_a.hlen;have hc_a:=hd_a.hcap;have hg_a:=hd_a.hbig;have hW_a:18446744073709551616<=a:=hw_a;refine Za<|sO L14 rfl<|Zg (off':=1) rfl ZS rfl<|So rfl<|Zk rfl Xf (R4.row<|r1.up<|l2.trans l3) rfl<|So rfl<|Yc rfl rfl underlying30<|SF rfl λ_ L29=>wp_skip<|Zc<|wp_seq ?_;have hmono:=Zh1 (show b<=a by omega);refine Za<|sO L29 rfl<|Zg (off':=1) rfl ZS rfl<|So rfl<|Zk rfl Xf (R4.row<|r1.up<|l2.trans l3) rfl<|So rfl<|Zz rfl underlying30<|So rfl<|XB (m:=len_a) (c:=len_a) (by first|rfl|(simp[ev,Zad];omega)) (by first|rfl|(simp[ev,Zad];omega)) underlying30 Zah rfl ZG Zbp (by omega) (by omega) (by omega) R4 λb4 _ R7 _ L33=>?_;rw[Zfq] at R7;refine sa L33 rfl<|kP [2,3,4,5,6] rfl<|SW<|Sm rfl<|So rfl<|Zg (off':=1) rfl ZS rfl<|So rfl<|Zk rfl Xf (R7.row<|r1.up<|l2.trans l3) rfl<|So rfl<|does_copyDg (m:=(len_a)) (us:=(List.replicate len_a 0)) rfl rfl underlying30 ZG R7 (hd_a.up<|l1.trans<|l2.trans l3) (by simp) (by omega) λ_ R8=>kP [3,4,5,6] rfl<|SW<|So rfl<|ZA rfl ZM Zp (R8.row<|r2.up l3) h_b.len<|So rfl<|Zi rfl Zfj (Xx R8.holds<|h_b.up<|l1.trans<|l2.trans l3) λv_2 S4 _ x2 v2=>?_;have R9:=R8.call x2;have l4:=x2.le;obtain⟨p1,len1,cap1,rfl,y1,z1,hg1,hd1⟩:=v2;intro _ L42;refine sa L42 rfl<|Sa rfl λ_ L44=>sn<|wp_seq<|wp_label<|Zc<|wp_seq<|wA<|sm L44 rfl<|So rfl<|Zz rfl underlying30<|Sm rfl λ_ L47=>sn<|wp_block ?_;have hxl:=(hd_a.up<|l1.trans<|l2.trans<|l3.trans l4).hlt;have hyl:=hd1.hlt;have hst:Zgp (ZL W64 a) (ZL W64 b) ((ZL W64 a)++(List.replicate len_a 0).drop len_a) 0 0:=by rw[show((ZL W64 a)++(List.replicate len_a 0).drop len_a)=(ZL W64 a) from by rw[List.drop_replicate,show len_a-len_a=0 by omega];simp];exact Zgp.start hxl
 refine ZJ (λm ac ww=>∃(S':Sh)(us:List Nat)(i:Nat)(c:Nat),S4.le S'/\ZD ac 66 [(4,(.pointer (some ⟨b3,0,none⟩))),(5,(.int .i64 (0:Int))),(6,(.slice (some ⟨b4,0,none⟩) len_a len_a)),(7,(.slice p1 len1 cap1)),(8,(.int .u64 ((c:Nat):Int))),(36,(.int .i64 (((len_a):Nat):Int))),(37,(.int .i64 ((i:Nat):Int)))]/\Run S w S' [(b4,29,(YD us++[])),(b3,32,zN1)] ww/\(Zgp (ZL W64 a) (ZL W64 b) us i c)/\m=(ZL W64 a).length-i) ((ZL W64 a).length-0) ⟨S4,((ZL W64 a)++(List.replicate len_a 0).drop len_a),0,0,Sh.le.refl _,(((L47.ri 8 ((0:Nat):Int) rfl).a ((L47.ri 37 ((0:Nat):Int) rfl).a L47)).kp [37,36,8,7,6,5,4] rfl),(Yd<|Yd R9),hst,rfl⟩ ?_;rintro m_1 ac1 _ ⟨S5,us,i,c,l5,L48,R10,hI,m1⟩;refine wp_seq<|Za ?_;have hIl:=hI.len;have hIe:=hI.le;have hIc:=hI.c1;by_cases t2:(i:Int)<(((len_a):Nat):Int);have hIl:=hI.len;have hIe:=hI.le;have hIc:=hI.c1;refine sO L48 rfl<|cT t2 (Zs rfl rfl) λ_ L51=>sn<|wp_seq<|Zl L51 rfl rfl<|wp_skip<|Zc<|wp_seq<|wp_block<|wA<|sm L51 rfl<|Sa rfl<|SW<|Sa rfl<|SVv<|Sm rfl<|Sm rfl<|So rfl<|Zz rfl underlying30 λ_ L57=>?_;by_cases t3:(i:Int)<(len1:Int);refine sO L57 rfl<|cT t3 (Zs rfl rfl)<|ST rfl λ_ L58=>Za<|sm L58 rfl<|Sm rfl λ_ L60=>?_;obtain⟨b5,rest_1,rfl,r3⟩:=(hd1.up l5).row (by omega);exact sO L60 rfl<|Zr i rfl rfl underlying30 ZG (by omega) (by omega)<|So rfl<|Zk (v:=(.int .u64 (((ZL W64 b).getD i 0:Nat):Int))) rfl YB (R10.row r3) (by rw[Nat.zero_add];exact Yj (by omega))<|Sa rfl<|SX<|Sm rfl<|Sm rfl<|Sm rfl<|Sm rfl<|So rfl<|Zr i rfl rfl underlying30 ZG (by omega) (by omega)<|So rfl<|Zk (v:=(.int .u64 ((us.getD i 0:Nat):Int))) rfl YB (R10.has<|List.Mem.head _) (by rw[Nat.zero_add];exact Yj (by omega))<|Sm rfl<|Sm rfl λ_ L71=>so L71 rfl<|Zf8 (x:=(us.getD i 0)) (y:=((ZL W64 b).getD i 0)) (c:=c) L71 rfl (by omega)<|Sm rfl<|So rfl<|Zj rfl rfl<|So rfl<|Zj rfl rfl<|So rfl<|Zr i rfl rfl underlying30 ZG (by omega) (by omega)<|Sz rfl<|Yo (cs':=(YD (us.set i (((us.getD i 0)+18446744073709551616-((ZL W64 b).getD i 0)-c)%18446744073709551616))++[])) rfl rfl R10 ZG rfl (by simp only[List.length_append,ZN];omega) (by rw[Nat.zero_add];exact Xs (by omega)) λ_ R11=>Sa rfl<|SY<|So rfl<|Zy rfl rfl Xd<|Sm rfl λ_ L80=>sn<|⟨(ZL W64 a).length-(i+1),(by omega),S5,(us.set i (((us.getD i 0)+18446744073709551616-((ZL W64 b).getD i 0)-c)%18446744073709551616)),(i+1),(if(us.getD i 0)<((ZL W64 b).getD i 0)+c then 1 else 0),l5,(((L80.ri 8 (((if(us.getD i 0)<((ZL W64 b).getD i 0)+c then 1 else 0):Nat):Int) rfl).a ((L80.ri 37 (((i+1):Nat):Int) rfl).a L80)).kp [37,36,8,7,6,5,4] rfl),(Yd<|Yd R11),(by first|exact hI.step hxl hyl (by omega)|(have q:=hI.step hxl hyl (by omega);rw[Za0 (y:=(ZL W64 b)) (i:=i) (by omega)] at q;exact q)),rfl⟩;refine sO L57 rfl<|cF t3 (Zs rfl rfl)<|SF rfl<|WA<|Sm rfl λ_ L84=>?_;by_cases t4:(c:Int)=(0:Int);refine sO L84 rfl<|cT t4 (ZP rfl rfl)<|ST rfl λ_ L85=>wp_exit<|Zo<|Zgz rfl<|Zo<|Zo<|Yl<|Zc<|wA<|sm L85 rfl λ_ L86=>?_;obtain⟨S6,l6,r4,R12⟩:=(R10).freeze;have hd2:Dg S6 (some ⟨b4,0,none⟩) len_a len_a us:=⟨by first|rfl|omega,by omega,by omega,hI.lt,λ_=>⟨_,_,rfl,r4⟩⟩;refine sO L86 rfl<|Zi rfl Zd9 (Zd2 R12.holds (k:=k_a) hd2 (by rw[hI.done hyl (by simp only[ZX (show 2<=W64 by decide)];omega) (by omega) (by omega)];simp only[ZX (show 2<=W64 by decide)];exact Nat.le_trans (Nat.sub_le _ _) h_a.1)) λv_3 _ _ x3 v3=>?_;have R13:=R12.call x3;obtain⟨cs_1,rfl,h3⟩:=v3;intro _ L87;exact sZ L87 rfl<|Zm rfl rfl R13 Zp h3.len rfl h3.ones λ_ R14=>Sa rfl λ_ L89=>sn<|wp_ret<|Za2<|rt (L89.kp [4,5] rfl) (Res.aggW rfl ZM Zp (R14.has<|List.Mem.head _) h3.len<|.tmp rfl Res.nil)<|⟨_,_,rfl,R14.ext,(Or.inr ⟨by first|assumption|omega|(simp_all;done),⟨_,rfl,(h3.to (by rw[hI.done hyl (by simp only[ZX (show 2<=W64 by decide)];omega) (by omega) (by omega)];simp only[ZX (show 2<=W64 by decide)]) (by omega))⟩⟩)⟩;exact sO L84 rfl<|cF t4 (ZP rfl rfl)<|SF rfl λ_ L91=>wp_skip<|Zc<|Za<|sm L91 rfl<|Sm rfl<|Sm rfl<|Sm rfl<|So rfl<|Zr i rfl rfl underlying30 ZG (by omega) (by omega)<|So rfl<|Zk (v:=(.int .u64 ((us.getD i 0:Nat):Int))) rfl YB (R10.has<|List.Mem.head _) (by rw[Nat.zero_add];exact Yj (by omega))<|Sm rfl<|Sm rfl λ_ L99=>so L99 rfl<|Zf8 (x:=(us.getD i 0)) (y:=0) (c:=c) L99 rfl (by omega)<|Sm rfl<|So rfl<|Zj rfl rfl<|So rfl<|Zj rfl rfl<|So rfl<|Zr i rfl rfl underlying30 ZG (by omega) (by omega)<|Sz rfl<|Yo (cs':=(YD (us.set i (((us.getD i 0)+18446744073709551616-0-c)%18446744073709551616))++[])) rfl rfl R10 ZG rfl (by simp only[List.length_append,ZN];omega) (by rw[Nat.zero_add];exact Xs (by omega)) λ_ R15=>Sa rfl<|SY<|So rfl<|Zy rfl rfl Xd<|Sm rfl λ_ L108=>sn<|⟨(ZL W64 a).length-(i+1),(by omega),S5,(us.set i (((us.getD i 0)+18446744073709551616-0-c)%18446744073709551616)),(i+1),(if(us.getD i 0)<0+c then 1 else 0),l5,(((L108.ri 8 (((if(us.getD i 0)<0+c then 1 else 0):Nat):Int) rfl).a ((L108.ri 37 (((i+1):Nat):Int) rfl).a L108)).kp [37,36,8,7,6,5,4] rfl),(Yd<|Yd R15),(by first|exact hI.step hxl hyl (by omega)|(have q:=hI.step hxl hyl (by omega);rw[Za0 (y:=(ZL W64 b)) (i:=i) (by omega)] at q;exact q)),rfl⟩;have hIl:=hI.len;have hIe:=hI.le;have hIc:=hI.c1;refine sO L48 rfl<|cF t2 (Zs rfl rfl) λ_ L111=>sn<|wp_seq<|Zh L111 rfl rfl<|wp_exit<|Zo<|Zo<|Yl<|Zc<|wA<|sm L111 rfl λ_ L112=>?_;obtain⟨S8,l8,r5,R16⟩:=(R10).freeze;have hd3:Dg S8 (some ⟨b4,0,none⟩) len_a len_a us:=⟨by first|rfl|omega,by omega,by omega,hI.lt,λ_=>⟨_,_,rfl,r5⟩⟩;refine sO L112 rfl<|Zi rfl Zd9 (Zd2 R16.holds (k:=k_a) hd3 (by rw[hI.done hyl (by simp only[ZX (show 2<=W64 by decide)];omega) (by omega) (by omega)];simp only[ZX (show 2<=W64 by decide)];exact Nat.le_trans (Nat.sub_le _ _) h_a.1)) λv_4 _ _ x4 v4=>?_;have R17:=R16.call x4;obtain⟨c2,rfl,h4⟩:=v4;intro _ L113;exact sZ L113 rfl<|Zm rfl rfl R17 Zp h4.len rfl h4.ones λ_ R18=>Sa rfl λ_ L115=>sn<|wp_ret<|Za2<|rt (L115.kp [4,5] rfl) (Res.aggW rfl ZM Zp (R18.has<|List.Mem.head _) h4.len<|.tmp rfl Res.nil)<|⟨_,_,rfl,R18.ext,(Or.inr ⟨by first|assumption|omega|(simp_all;done),⟨_,rfl,(h4.to (by rw[hI.done hyl (by simp only[ZX (show 2<=W64 by decide)];omega) (by omega) (by omega)];simp only[ZX (show 2<=W64 by decide)]) (by omega))⟩⟩)⟩
theorem nat_Mul{S:Sh}{w:World}(hS:ZV S w){c_a:List Value}{a:Nat}{k_a:Nat}(h_a:Na S c_a a k_a){c_b:List Value}{b:Nat}{k_b:Nat}(h_b:Na S c_b b k_b)(hlim:k_a<=1099511627776)(hlim2:k_b<=1099511627776):Calls prog 80 [(.agg (c_a:List Value).toArray),(.agg (c_b:List Value).toArray)].toArray w (Ret S w (λS v=>∃(c0:List Value),v= .agg c0.toArray/\Na S c0 (a*b) (k_a+k_b))):=by
 refine cbd hS (n:=111) func80 rfl λ_ L0 R0=>?_;have hla:=Qp h_a.1;have hlb:=Qp h_b.1;refine wA (sO L0 rfl<|ZW (cs:=c_a) rfl R0 rfl λb1 _ _ l1 r1 R1=>So rfl<|ZW (cs:=c_b) rfl R1 rfl λb2 S2 _ l2 r2 R2=>So rfl<|ZK (cs:=zN1) ZZ R2 rfl λb3 _ R3 _ L3=>sn<|Xr (λac ww=>∃(S':Sh),S2.le S'/\ZD ac 111 [(2,(.pointer (some ⟨b1,0,none⟩))),(3,(.pointer (some ⟨b2,0,none⟩))),(4,(.pointer (some ⟨b3,0,none⟩)))]/\Run S w S' [(b3,32,zN1)] ww) ?_ ?_)
 ·rintro ac1 _ ⟨_,l3,L4,R4⟩
  refine wp_seq ?_
  have L5:=(L4.kp [2,3,4] rfl)
  refine Zw (E0:=[]) (H0:=[(b3,32,zN1)]) (n:=111) mixed 3 [] (λk=>0) (Zcn [
    .is (.agg (c_a:List Value).toArray),
    .sat (λS v=>∃(p0:Option Addr)(len0:Nat)(cap0:Nat),v= .slice p0 len0 cap0/\(ZL W64 a).length=len0/\len0<=cap0/\len0<=281474976710656/\Dg S p0 len0 cap0 (ZL W64 a)) (λ_ _ _ l ⟨p0,n0,m0,e,g0,f0,j0,h0⟩=>⟨p0,n0,m0,e,g0,f0,j0,h0.up l⟩),
    .is (.agg (c_b:List Value).toArray)]) L5 R4 (by simp) (by simp) (by rfl) (by rfl) (by simp) (ZU ?_) ?_
  ·refine(An ?_<|Ak ?_ ?_ trivial)
   ·exact dK [] rfl λA=>ZA rfl ZM Zp (A.run.row<|r1.up<|l2.trans<|l3.trans A.le) h_a.len (A.same rfl)
   ·refine Zb rfl (λ_ _ _ _ _ A2=>?_)
    obtain⟨_,e1,rfl⟩:=A2.known 0 rfl
    exact Cu (A2.live.add e1) (Zi rfl Zfj (Xx A2.run.holds<|h_a.up<|l1.trans<|l2.trans<|l3.trans A2.le) λv_1 _ _ x1 v1=>(A2.post x1.le (A2.run.call x1) v1))
   ·exact dK [] rfl λA=>ZA rfl ZM Zp (A.run.row<|r2.up<|l3.trans A.le) h_b.len (A.same rfl)
  ·intro S8 _ _ w9 l5 E1 R6 n1 L9 K1
   obtain⟨_,e2,p1,len1,cap1,rfl,y1,z1,hg1,hd1⟩:=K1 1 (by decide)
   have L10:=L9.add e2;clear L9
   obtain⟨_,e3,rfl⟩:=K1 2 (by decide)
   have L11:=L10.add e3;clear L10
   have R7:Run _ _ S8 [(b3,32,zN1)] w9:=Yb R6 n1 [] (by simp) (by simp)
   refine sO L11 rfl (Zi rfl Zfj (Xx R7.holds<|h_b.up<|l1.trans<|l2.trans<|l3.trans l5) λv_2 S9 _ x2 v2=>?_)
   have R8:=R7.call x2;have l6:=x2.le
   obtain⟨p2,len2,cap2,rfl,y2,z2,hg2,hd2⟩:=v2
   intro _ L12
   refine sa L12 rfl (Sa rfl λ_ L14=>?_)
   have L15:=(L14.kp [4,7,8] rfl);clear L14
   refine sW (sm L15 rfl ?_)
   intro _ L16
   refine sO L16 rfl (Zz rfl underlying30<|Sm rfl<|So rfl<|Zz rfl underlying30<|So rfl<|Zy rfl rfl Xd<|So rfl<|XB (m:=(len1+len2)) (c:=(len1+len2)) (by first|rfl|(simp[ev,Zad];omega)) (by first|rfl|(simp[ev,Zad];omega)) underlying30 Zah rfl ZG Zbp (by omega) (by omega) (by omega) R8 λb4 _ R9 _ L21=>?_)
   rw[Zfq] at R9
   refine sa L21 rfl λ_ L22=>?_
   have L23:=(L22.kp [4,7,8,9] rfl);clear L22
   refine sV (sm L23 rfl ?_)
   intro _ L24
   refine sO L24 rfl (Zz rfl underlying30<|Sm rfl λ_ L26=>sn<|wp_block ?_)
   have hxl:=(hd1.up l6).hlt;have hyl:=hd2.hlt
   refine ZJ (λm ac ww=>∃(S':Sh)(us:List Nat)(i:Nat),S9.le S'/\ZD ac 111 [(4,(.pointer (some ⟨b3,0,none⟩))),(7,(.slice p1 len1 cap1)),(8,(.slice p2 len2 cap2)),(9,(.slice (some ⟨b4,0,none⟩) (len1+len2) (len1+len2))),(51,(.int .i64 ((len1:Nat):Int))),(52,(.int .i64 ((i:Nat):Int)))]/\Run S w S' [(b4,29,(YD us++[])),(b3,32,zN1)] ww/\(MulIn (ZL W64 a) (ZL W64 b) us i 0 0)/\(i<=(ZL W64 a).length)/\m=(ZL W64 a).length-i)
    ((ZL W64 a).length-0) ⟨S9,(List.replicate (len1+len2) 0),0,Sh.le.refl _,(((L26.ri 52 ((0:Nat):Int) rfl).a L26).kp [52,51,9,8,7,4] rfl),(Yd<|Yd R9),(by exact MulIn.start (by omega)),(by omega),rfl⟩ ?_
   rintro m_1 ac2 _ ⟨S10,us,i,l7,L27,R10,hI,hi,m1⟩
   refine wp_seq (Za ?_)
   by_cases t1:(i:Int)<(len1:Int)
   ·refine sO L27 rfl (cT t1 (Zs rfl rfl) λ_ L29=>sn<|wp_seq<|Zl L29 rfl rfl<|wp_skip<|Zc<|wp_seq<|wp_block<|wp_seq ?_)
    have hIl:=hI.len
    refine Za (sm L29 rfl ?_)
    intro _ L30
    refine sa L30 rfl (SW<|Sa rfl<|SVv<|Sm rfl λ_ L33=>?_)
    refine sO L33 rfl (Zz rfl underlying30<|Sm rfl λ_ L35=>sn<|wp_block ?_)
    refine ZJ (λm ac ww=>∃(S':Sh)(vs:List Nat)(j:Nat)(c:Nat),S10.le S'/\ZD ac 111 [(4,(.pointer (some ⟨b3,0,none⟩))),(7,(.slice p1 len1 cap1)),(8,(.slice p2 len2 cap2)),(9,(.slice (some ⟨b4,0,none⟩) (len1+len2) (len1+len2))),(51,(.int .i64 ((len1:Nat):Int))),(52,(.int .i64 ((i:Nat):Int))),(53,(.bool true)),(54,(.int .i64 ((i:Nat):Int))),(10,(.int .i64 ((i:Nat):Int))),(11,(.int .u64 ((c:Nat):Int))),(55,(.slice p2 len2 cap2)),(56,(.int .i64 ((len2:Nat):Int))),(57,(.int .i64 ((j:Nat):Int)))]/\Run S w S' [(b4,29,(YD vs++[])),(b3,32,zN1)] ww/\(MulIn (ZL W64 a) (ZL W64 b) vs i j c)/\(j<=(ZL W64 b).length)/\m=(ZL W64 b).length-j)
     ((ZL W64 b).length-0) ⟨S10,us,0,0,Sh.le.refl _,(((L35.ri 11 ((0:Nat):Int) rfl).a ((L35.ri 57 ((0:Nat):Int) rfl).a L35)).kp [57,56,55,11,10,54,53,52,51,9,8,7,4] rfl),(Yd<|Yd R10),hI,(by omega),rfl⟩ ?_
    rintro m_2 ac3 _ ⟨S11,vs,j,c,l8,L36,R11,hJ,hj,m2⟩
    refine wp_seq (Za ?_)
    by_cases t2:(j:Int)<(len2:Int)
    ·refine sO L36 rfl (cT t2 (Zs rfl rfl) λ_ L39=>sn<|wp_seq<|Zl L39 rfl rfl<|wp_skip<|Zc<|wp_seq<|wp_block<|wp_seq ?_)
     have hJl:=hJ.len;have hJc:=hJ.c1
     obtain⟨hm1,hm2,hm3⟩:=mul_step (x:=(ZL W64 a).getD i 0) (y:=(ZL W64 b).getD j 0) (c:=c) (u:=vs.getD (i+j) 0) (ZT hxl (by decide) _) (ZT hyl (by decide) _) hJ.c1 (ZT hJ.lt (by decide) _)
     refine Za (sm L39 rfl ?_)
     intro _ L40
     refine sa L40 rfl λ_ L41=>sn (wp_seq ?_)
     obtain⟨b5,rest_1,rfl,r3⟩:=(hd1.up<|l6.trans<|l7.trans l8).row (by omega)
     obtain⟨b6,rest_2,rfl,r4⟩:=(hd2.up<|l7.trans l8).row (by omega)
     have L42:=(L41.kp [4,7,8,9,51,52,53,54,10,11,55,56,57,58,59,12] rfl)
     refine Zw (E0:=[]) (H0:=[(b4,29,(YD vs++[])),(b3,32,zN1)]) (n:=111) mixed 13 [] (λk=>0) (Zcn [
       .is (.slice (some ⟨b5,0,none⟩) len1 cap1),
       .is (.int .i64 (i:Int)),
       .is (.pointer (some ⟨b5,(0+(i)),none⟩)),
       .is (.int .u64 (((ZL W64 a).getD i 0:Nat):Int)),
       .is (.slice (some ⟨b6,0,none⟩) len2 cap2),
       .is (.int .i64 (j:Int)),
       .is (.pointer (some ⟨b6,(0+(j)),none⟩)),
       .is (.int .u64 (((ZL W64 b).getD j 0:Nat):Int)),
       .is (.tuple [.int .u64 ((((ZL W64 a).getD i 0)*((ZL W64 b).getD j 0)/18446744073709551616:Nat):Int),.int .u64 ((((ZL W64 a).getD i 0)*((ZL W64 b).getD j 0)%18446744073709551616:Nat):Int)].toArray),
       .is (.tuple [(.int .u64 ((((ZL W64 a).getD i 0)*((ZL W64 b).getD j 0)/18446744073709551616:Nat):Int)),(.int .u64 ((((ZL W64 a).getD i 0)*((ZL W64 b).getD j 0)%18446744073709551616:Nat):Int))].toArray),
       .is (.int .u64 ((((ZL W64 a).getD i 0)*((ZL W64 b).getD j 0)/18446744073709551616:Nat):Int)),
       .is (.int .u64 ((((ZL W64 a).getD i 0)*((ZL W64 b).getD j 0)%18446744073709551616:Nat):Int)),
       .is (.int .u64 ((((ZL W64 a).getD i 0)*((ZL W64 b).getD j 0)/18446744073709551616:Nat):Int))]) L42 R11 (by simp) (by simp) (by rfl) (by rfl) (by simp) (ZU ?_) ?_
     ·refine(An ?_<|Al ?_ ?_ ?_ ?_<|Am ?_ ?_ ?_ ?_ ?_ ?_ ?_ ?_ trivial)
      ·exact dm [] rfl
      ·exact dm [] rfl
      ·refine Zb rfl (λ_ _ _ _ _ A6=>?_)
       obtain⟨_,e7,rfl⟩:=A6.known 0 rfl
       obtain⟨_,e8,rfl⟩:=A6.known 1 rfl
       exact Cu ((A6.live.add e7).add e8) (Zr i rfl rfl underlying30 ZG (by omega) (by omega)<|A6.same rfl)
      ·refine Zb rfl (λ_ _ _ _ _ A7=>?_)
       obtain⟨_,e9,rfl⟩:=A7.known 2 rfl
       exact Cu (A7.live.add e9) (Zk (v:=(.int .u64 (((ZL W64 a).getD i 0:Nat):Int))) rfl YB (A7.run.row<|r3.up A7.le) (by rw[Nat.zero_add];exact Yj (by omega))<|A7.same rfl)
      ·exact dm [] rfl
      ·exact dm [] rfl
      ·refine Zb rfl (λ_ _ _ _ _ A10=>?_)
       obtain⟨_,e10,rfl⟩:=A10.known 4 rfl
       obtain⟨_,e11,rfl⟩:=A10.known 5 rfl
       exact Cu ((A10.live.add e10).add e11) (Zr j rfl rfl underlying30 ZG (by omega) (by omega)<|A10.same rfl)
      ·refine Zb rfl (λ_ _ _ _ _ A11=>?_)
       obtain⟨_,e12,rfl⟩:=A11.known 6 rfl
       exact Cu (A11.live.add e12) (Zk (v:=(.int .u64 (((ZL W64 b).getD j 0:Nat):Int))) rfl YB (A11.run.row<|r4.up A11.le) (by rw[Nat.zero_add];exact Yj (by omega))<|A11.same rfl)
      ·refine Zb rfl (λ_ _ _ _ _ A12=>?_)
       obtain⟨_,e13,rfl⟩:=A12.known 3 rfl
       obtain⟨_,e14,rfl⟩:=A12.known 7 rfl
       exact Cu ((A12.live.add e13).add e14) (Zi rfl ent_139 (Zat A12.run.holds (x:=((ZL W64 a).getD i 0)) (y:=((ZL W64 b).getD j 0)) (ZT hxl (by decide) _)<|ZT hyl (by decide) _) λv_3 _ _ x3 v3=>(A12.post x3.le (A12.run.call x3) v3))
      ·refine Zb rfl (λ_ _ _ _ _ A13=>?_)
       obtain⟨_,e15,rfl⟩:=A13.known 8 rfl
       exact Cu (A13.live.add e15) (Zd rfl<|A13.same rfl)
      ·refine Zb rfl (λ_ _ _ _ _ A14=>?_)
       obtain⟨_,e16,rfl⟩:=A14.known 9 rfl
       exact Cu (A14.live.add e16) (Zj rfl rfl<|A14.same rfl)
      ·refine Zb rfl (λ_ _ _ _ _ A15=>?_)
       obtain⟨_,e17,rfl⟩:=A15.known 9 rfl
       exact Cu (A15.live.add e17) (Zj rfl rfl<|A15.same rfl)
      ·refine Zb rfl (λ_ _ _ _ _ A16=>?_)
       obtain⟨_,e18,rfl⟩:=A16.known 10 rfl
       exact Cu (A16.live.add e18) (QM rfl<|A16.same rfl)
     ·intro S26 _ _ w28 l10 E2 R13 n2 L56 K2
      obtain⟨_,e19,rfl⟩:=K2 0 (by decide)
      have L57:=L56.add e19;clear L56
      obtain⟨_,e20,rfl⟩:=K2 1 (by decide)
      have L58:=L57.add e20;clear L57
      obtain⟨_,e21,rfl⟩:=K2 2 (by decide)
      have L59:=L58.add e21;clear L58
      obtain⟨_,e22,rfl⟩:=K2 3 (by decide)
      have L60:=L59.add e22;clear L59
      obtain⟨_,e23,rfl⟩:=K2 4 (by decide)
      have L61:=L60.add e23;clear L60
      obtain⟨_,e24,rfl⟩:=K2 5 (by decide)
      have L62:=L61.add e24;clear L61
      obtain⟨_,e25,rfl⟩:=K2 6 (by decide)
      have L63:=L62.add e25;clear L62
      obtain⟨_,e26,rfl⟩:=K2 7 (by decide)
      have L64:=L63.add e26;clear L63
      obtain⟨_,e27,rfl⟩:=K2 8 (by decide)
      have L65:=L64.add e27;clear L64
      obtain⟨_,e28,rfl⟩:=K2 9 (by decide)
      have L66:=L65.add e28;clear L65
      obtain⟨_,e29,rfl⟩:=K2 10 (by decide)
      have L67:=L66.add e29;clear L66
      obtain⟨_,e30,rfl⟩:=K2 11 (by decide)
      have L68:=L67.add e30;clear L67
      obtain⟨_,e31,rfl⟩:=K2 12 (by decide)
      have L69:=L68.add e31;clear L68
      have R14:Run _ _ S26 [(b4,29,(YD vs++[])),(b3,32,zN1)] w28:=Yb R13 n2 [] (by simp) (by simp)
      refine sa L69 rfl (SW<|Sa rfl<|SW<|Sm rfl<|Sm rfl λ_ L73=>?_)
      refine so L73 rfl (Xh (x:=(((ZL W64 a).getD i 0)*((ZL W64 b).getD j 0)%18446744073709551616)) (y:=c) (c:=0) L73 rfl (by omega)<|Sm rfl<|So rfl<|Zj rfl rfl<|So rfl<|Zj rfl rfl<|Sa rfl<|Sa rfl λ_ L79=>sn ?_)
      refine wA (sm L79 rfl ?_)
      intro _ L80
      refine sm L80 rfl (So rfl<|Zy rfl rfl Zav<|Sa rfl<|SW<|Sm rfl<|Sm rfl λ_ L85=>?_)
      refine sm L85 rfl (So rfl<|Zy rfl rfl Xd<|Sm rfl<|Sm rfl<|Sm rfl<|So rfl<|Zy rfl rfl Xd<|So rfl<|Zr (i+j) rfl rfl underlying30 ZG (by omega) (by omega) λ_ L92=>?_)
      refine sO L92 rfl (Zk (v:=(.int .u64 ((vs.getD (i+j) 0:Nat):Int))) rfl YB (R14.has<|List.Mem.head _) (by rw[Nat.zero_add];exact Yj (by omega))<|Sm rfl λ_ L94=>so L94 rfl<|Xh (x:=(vs.getD (i+j) 0)) (y:=(((((ZL W64 a).getD i 0)*((ZL W64 b).getD j 0)%18446744073709551616)+c+0)%18446744073709551616)) (c:=0) L94 rfl (by omega)<|Sm rfl<|So rfl<|Zj rfl rfl<|So rfl<|Zj rfl rfl<|So rfl<|Zr (i+j) rfl rfl underlying30 ZG (by omega) (by omega) λ_ L99=>?_)
      refine sZ L99 rfl (Yo (cs':=(YD (vs.set (i+j) (((vs.getD (i+j) 0)+(((((ZL W64 a).getD i 0)*((ZL W64 b).getD j 0)%18446744073709551616)+c+0)%18446744073709551616)+0)%18446744073709551616))++[])) rfl rfl R14 ZG rfl (by simp only[List.length_append,ZN];omega) (by rw[Nat.zero_add];exact Xs (by omega)) λ_ R15=>Sa rfl<|SX<|Sm rfl<|Sm rfl<|So rfl<|Zy rfl rfl Zav<|Sa rfl λ_ L105=>?_)
      refine sY (sO L105 rfl<|Zy rfl rfl Xd ?_)
      intro _ L106
      exact sm L106 rfl λ_ L107=>sn (⟨(ZL W64 b).length-(j+1),(by omega),S26,(vs.set (i+j) (((vs.getD (i+j) 0)+(((((ZL W64 a).getD i 0)*((ZL W64 b).getD j 0)%18446744073709551616)+c+0)%18446744073709551616)+0)%18446744073709551616)),(j+1),(((((ZL W64 a).getD i 0)*((ZL W64 b).getD j 0)/18446744073709551616)+(((((ZL W64 a).getD i 0)*((ZL W64 b).getD j 0)%18446744073709551616)+c+0)/18446744073709551616))+(((vs.getD (i+j) 0)+(((((ZL W64 a).getD i 0)*((ZL W64 b).getD j 0)%18446744073709551616)+c+0)%18446744073709551616)+0)/18446744073709551616)),(l8.trans l10),(((L107.ri 11 (((((((ZL W64 a).getD i 0)*((ZL W64 b).getD j 0)/18446744073709551616)+(((((ZL W64 a).getD i 0)*((ZL W64 b).getD j 0)%18446744073709551616)+c+0)/18446744073709551616))+(((vs.getD (i+j) 0)+(((((ZL W64 a).getD i 0)*((ZL W64 b).getD j 0)%18446744073709551616)+c+0)%18446744073709551616)+0)/18446744073709551616)):Nat):Int) rfl).a ((L107.ri 57 (((j+1):Nat):Int) rfl).a L107)).kp [57,56,55,11,10,54,53,52,51,9,8,7,4] rfl),(Yd<|Yd R15),(by exact hJ.step rfl hxl hyl (by omega) (by omega) (by omega) hm2 hm3),(by omega),rfl⟩)
    ·refine sO L36 rfl (cF t2 (Zs rfl rfl) λ_ L110=>sn<|wp_seq<|Zh L110 rfl rfl<|wp_exit<|Zo<|Zo<|Yl<|Zc ?_)
     have hJl:=hJ.len;have hJc:=hJ.c1
     refine Za (sm L110 rfl ?_)
     intro _ L111
     refine sm L111 rfl (Sm rfl<|So rfl<|Zz rfl underlying30<|So rfl<|Zy rfl rfl Xd<|Sm rfl<|So rfl<|Zr (i+len2) rfl rfl underlying30 ZG (by omega) (by omega)<|Sz rfl<|Yo (cs':=(YD (vs.set (i+len2) c)++[])) rfl rfl R11 ZG rfl (by simp only[List.length_append,ZN];omega) (by rw[Nat.zero_add];exact Xs (by omega)) λ_ R16 _ L118=>?_)
     refine sY (sO L118 rfl<|Zy rfl rfl Xd ?_)
     intro _ L119
     exact sm L119 rfl λ_ L120=>sn (⟨(ZL W64 a).length-(i+1),(by omega),S11,(vs.set (i+len2) c),(i+1),(l7.trans l8),(((L120.ri 52 (((i+1):Nat):Int) rfl).a L120).kp [52,51,9,8,7,4] rfl),(Yd<|Yd R16),(by exact hJ.next (by omega) (by omega) (by omega) (by omega)),(by omega),rfl⟩)
   ·refine sO L27 rfl (cF t1 (Zs rfl rfl) λ_ L122=>sn<|wp_seq<|Zh L122 rfl rfl<|wp_exit<|Zo<|Zo<|Yl<|Zc<|wA<|sm L122 rfl λ_ L123=>?_)
    obtain⟨S27,l11,r5,R17⟩:=(R10).freeze
    have hd3:Dg S27 (some ⟨b4,0,none⟩) (len1+len2) (len1+len2) us:=⟨by first|rfl|(have:=hI.len;omega)|omega,by omega,by omega,hI.lt,λ_=>⟨_,_,rfl,r5⟩⟩
    refine sO L123 rfl (Zi rfl Zd9 (Zd2 R17.holds (k:=(k_a+k_b)) hd3 (by rw[hI.done (by omega)];simp only[ZX (show 2<=W64 by decide)];exact prod_pow h_a.1 h_b.1)) λv_4 _ _ x4 v4=>?_)
    have R18:=R17.call x4
    obtain⟨cs_1,rfl,h1⟩:=v4
    intro _ L124
    exact sZ L124 rfl (Zm rfl rfl R18 Zp h1.len rfl h1.ones λ_ R19 _ L125=>(sn<|wp_ret<|rt (L125.kp [4] rfl) (Res.aggW rfl ZM Zp (R19.has<|List.Mem.head _) h1.len Res.nil)<|⟨_,_,rfl,R19.ext,⟨_,rfl,(h1.to (by rw[hI.done (by omega)];simp only[ZX (show 2<=W64 by decide)]) (by omega))⟩⟩))
 skip;obtain⟨hb_a,⟨hs_a,rfl⟩|⟨hw_a,lo_a,bb_a,len_a,cap_a,rest_a,hlo_a,rfl,rw_a,hd_a,h2_a⟩⟩:=h_a.open;obtain⟨hb_b,⟨hs_b,rfl⟩|⟨hw_b,lo_b,bb_b,len_b,cap_b,rest_b,hlo_b,rfl,rw_b,hd_b,h2_b⟩⟩:=h_b.open;refine wA<|sO L3 rfl<|Zg (off':=1) rfl ZS rfl<|So rfl<|Zk rfl Xf (R3.row<|r1.up l2) rfl<|So rfl<|Yc rfl rfl underlying30<|Sm rfl<|Sn rfl<|Zg (off':=1) rfl ZS rfl<|Sn rfl<|Zk rfl Xf (R3.row r2) rfl<|Sn rfl<|Yc rfl rfl underlying30<|So rfl<|Ze rfl rfl<|kP [2,3,4,23] rfl<|ST rfl<|WA<|So rfl<|Zg (off':=0) rfl Yt rfl<|So rfl<|Zk rfl YB (R3.row<|r1.up l2) rfl<|So rfl<|Zg (off':=0) rfl Yt rfl<|So rfl<|Zk rfl YB (R3.row r2) rfl<|So rfl<|Zi rfl ent_139 (Zat R3.holds (x:=a) (y:=b) hs_a hs_b) λv_5 S29 _ x5 v5=>?_;have R20:=R3.call x5;obtain rfl:=v5;intro _ L140;refine sm L140 rfl<|So rfl<|Zj rfl rfl<|So rfl<|Zj rfl rfl<|Sa rfl<|Sa rfl<|kP [2,3,4,5,6] rfl λ_ L146=>sn<|wp_seq<|wp_seq ?_;have hab:a*b<=18446744073709551615*18446744073709551615:=Nat.mul_le_mul (by omega) (by omega);refine Za<|sm L146 rfl λ_ L147=>?_;by_cases t3:((a*b/18446744073709551616:Nat):Int)=(0:Int);refine sO L147 rfl<|cT t3 (ZP rfl rfl)<|ST rfl<|WA<|Sm rfl λ_ L149=>?_;have h2:Na S29 [(.int .u64 ((a*b%18446744073709551616:Nat):Int)),(.slice none 0 0)] (a*b) (k_a+k_b):=Na.ofLowE (by omega) (by omega) (prod_pow hb_a hb_b);exact sO L149 rfl<|ZH (cs:=[(.int .u64 ((a*b%18446744073709551616:Nat):Int)),(.slice none 0 0)]) ZZ Qx (.cons rfl Yt rfl (by decide) .nil) (by rfl)<|Sz rfl<|Zm rfl rfl R20 Zp h2.len rfl h2.ones λ_ R21 _ L151=>sn<|wp_ret<|Zt<|Zt<|rt L151 (Res.aggW rfl ZM Zp (R21.has<|List.Mem.head _) h2.len Res.nil)<|⟨_,_,rfl,R21.ext,⟨_,rfl,(h2.to rfl (by omega))⟩⟩;refine sO L147 rfl<|cF t3 (ZP rfl rfl)<|SF rfl λ_ L152=>wp_skip<|Zc<|wA<|sm L152 rfl<|Sm rfl<|So rfl<|Yf (cs:=(YD [(a*b%18446744073709551616),(a*b/18446744073709551616)]++[])) underlying30 ZG Zah (.cons rfl rfl (by decide) (.cons rfl rfl (by decide) .nil)) [[(.int .u64 ((a*b%18446744073709551616:Nat):Int))],[(.int .u64 ((a*b/18446744073709551616:Nat):Int))]] rfl rfl (by rfl) (by decide) R20 λb7 _ R22 _ L155=>?_;obtain⟨S30,l14,r6,R23⟩:=(R22).freeze;have hd4:Dg S30 (some ⟨b7,0,none⟩) 2 2 ([(a*b%18446744073709551616),(a*b/18446744073709551616)]):=⟨by first|rfl|(have:=hI.len;omega)|omega,by omega,by omega,by simp;omega,λ_=>⟨_,_,rfl,r6⟩⟩;have h3:Na S30 [(.int .u64 (0:Int)),(.slice (some ⟨b7,0,none⟩) 2 2)] (a*b) (k_a+k_b):=Na.ofDg (lo:=0) (by decide) hd4 (by omega) (by simp;omega) (by simp only[val,W64];omega) (prod_pow hb_a hb_b);exact sO L155 rfl<|ZH (cs:=[(.int .u64 (0:Int)),(.slice (some ⟨b7,0,none⟩) 2 2)]) ZZ Qx (.cons rfl ZS rfl (by decide) .nil) (by rfl)<|Sz rfl<|Zm rfl rfl R23 Zp h3.len rfl h3.ones λ_ R24 _ L157=>sn<|wp_ret<|Zt<|rt (L157.kp [2,3,4] rfl) (Res.aggW rfl ZM Zp (R24.has<|List.Mem.head _) h3.len Res.nil)<|⟨_,_,rfl,R24.ext,⟨_,rfl,(h3.to rfl (by omega))⟩⟩;have hl_b:=hd_b.hlen;have hc_b:=hd_b.hcap;have hg_b:=hd_b.hbig;have hW_b:18446744073709551616<=b:=hw_b;exact wA<|sO L3 rfl<|Zg (off':=1) rfl ZS rfl<|So rfl<|Zk rfl Xf (R3.row<|r1.up l2) rfl<|So rfl<|Yc rfl rfl underlying30<|Sm rfl<|Sn rfl<|Zg (off':=1) rfl ZS rfl<|Sn rfl<|Zk rfl Xf (R3.row r2) rfl<|Sn rfl<|Yc rfl rfl underlying30<|So rfl<|Ze rfl rfl<|kP [2,3,4,23] rfl<|SF rfl λ_ L167=>wp_skip<|Zc<|⟨S2,Sh.le.refl _,(L167.kp [4,3,2] rfl),R3⟩;have hl_a:=hd_a.hlen;have hc_a:=hd_a.hcap;have hg_a:=hd_a.hbig;have hW_a:18446744073709551616<=a:=hw_a;obtain⟨hb_b,⟨hs_b,rfl⟩|⟨hw_b,lo_b,bb_b,len_b,cap_b,rest_b,hlo_b,rfl,rw_b,hd_b,h2_b⟩⟩:=h_b.open;exact wA<|sO L3 rfl<|Zg (off':=1) rfl ZS rfl<|So rfl<|Zk rfl Xf (R3.row<|r1.up l2) rfl<|So rfl<|Yc rfl rfl underlying30<|Sm rfl<|Sf rfl<|Sf rfl<|Sf rfl<|So rfl<|Ze rfl rfl<|kP [2,3,4,23] rfl<|SF rfl λ_ L176=>wp_skip<|Zc<|⟨S2,Sh.le.refl _,(L176.kp [4,3,2] rfl),R3⟩;have hl_b:=hd_b.hlen;have hc_b:=hd_b.hcap;have hg_b:=hd_b.hbig;have hW_b:18446744073709551616<=b:=hw_b;exact wA<|sO L3 rfl<|Zg (off':=1) rfl ZS rfl<|So rfl<|Zk rfl Xf (R3.row<|r1.up l2) rfl<|So rfl<|Yc rfl rfl underlying30<|Sm rfl<|Sf rfl<|Sf rfl<|Sf rfl<|So rfl<|Ze rfl rfl<|kP [2,3,4,23] rfl<|SF rfl λ_ L185=>wp_skip<|Zc<|⟨S2,Sh.le.refl _,(L185.kp [4,3,2] rfl),R3⟩
theorem Zbm{S:Sh}{w:World}(hS:ZV S w){x:Nat}(hx:x<18446744073709551616):Calls prog 162 [.int .u64 ((x:Nat):Int)].toArray w (Ret S w (λ_ v=>v= .int .i64 ((64-ZC x:Nat):Int))):=by
 have h:=Zge hS hx;have e:(64-((ZC x:Nat):Int))=((64-ZC x:Nat):Int):=by have:=Zg6 hx;omega
 rw[e] at h;exact h
theorem Zfe{S:Sh}{w:World}(hS:ZV S w){h:Nat}{lo:Nat}{y:Nat}(hh:h<y)(hl:lo<18446744073709551616)(hy:y<18446744073709551616):Calls prog 161 [(.int .u64 ((h:Nat):Int)),(.int .u64 ((lo:Nat):Int)),(.int .u64 ((y:Nat):Int))].toArray w (Ret S w (λS v=>v= .tuple [.int .u64 (((h*18446744073709551616+lo)/y:Nat):Int),.int .u64 (((h*18446744073709551616+lo)%y:Nat):Int)].toArray)):=by
 refine cbd hS (n:=135) func161 rfl λ_ L0 R0=>?_;have hbl:=Zg6 hy;refine wA<|sa L0 rfl<|Sa rfl<|SVv<|Sm rfl λ_ L3=>?_;have t1:¬((y:Int)=(0:Int)):=by omega
 refine sO L3 rfl<|cF t1 (ZP rfl rfl)<|SF rfl λ_ L4=>wp_skip<|Zc<|wp_seq<|wA<|sm L4 rfl<|Sm rfl λ_ L6=>?_;have t2:¬((y:Int)<=(h:Int)):=by omega
 refine sO L6 rfl<|cF t2 (QX rfl rfl)<|SF rfl λ_ L7=>wp_skip<|Zc<|wp_seq<|wA<|sm L7 rfl λ_ L8=>?_;by_cases t3:(h:Int)=(0:Int);refine sO L8 rfl<|cT t3 (ZP rfl rfl)<|kP [0,1,2,6,7,27] rfl<|ST rfl λ_ L10=>wp_seq ?_;have L11:=(L10.kp [0,1,2,7] rfl);refine Zw (E0:=[]) (H0:=[]) (n:=135) mixed 7 [] (λk=>0) (Zcn [.is (.int .u64 (lo:Int)),.is (.int .u64 (y:Int)),.is (.int .u64 ((lo:Int)/(y:Int))),.is (.int .u64 (lo:Int)),.is (.int .u64 (y:Int)),.is (.int .u64 ((lo:Int)%(y:Int))),.is (.int .u64 ((lo:Int)/(y:Int)))]) L11 R0 (by simp) (by simp) (by rfl) (by rfl) (by simp) (ZU ?_) ?_;refine(An ?_<|Ak ?_ ?_<|Al ?_ ?_ ?_ ?_ trivial);exact dm [] rfl;exact dm [] rfl;exact dK [0,1] rfl λA=>XK (z:=((lo:Int)/(y:Int))) rfl rfl (by omega) (Za3 (k:=.u64) (by omega) (by omega) (show _<=(18446744073709551615:Int) by omega))<|A.same rfl;exact dm [] rfl;exact dm [] rfl;exact dK [3,4] rfl λA=>XZ (z:=((lo:Int)%(y:Int))) rfl rfl (by omega) (Zb8 (by omega))<|A.same rfl;exact dK [2] rfl λA=>QM rfl<|A.same rfl;intro S8 _ _ w8 l1 E1 R1 n1 L19 K1;have L21:=L19.dr K1 [5,6] rfl;have R2:Run _ _ S8 [] w8:=Yb R1 n1 [] (by simp) (by simp);exact sa L21 rfl λ_ L22=>sn<|wp_ret<|Zt<|rt L22 (.tmp rfl (.tmp rfl Res.nil))<|⟨_,_,rfl,R2.ext,(by exact int_eq2 (by rw[show h=0 by omega,Nat.zero_mul,Nat.zero_add];simp) (by rw[show h=0 by omega,Nat.zero_mul,Nat.zero_add];simp))⟩;refine sO L8 rfl<|cF t3 (ZP rfl rfl)<|kP [0,1,2,6,7,27] rfl<|SF rfl λ_ L24=>wp_skip<|Zc<|wA<|sm L24 rfl<|So rfl<|Zi rfl ent_162 (Zbm R0.holds (x:=y) hy) λv_1 S9 _ x1 v1=>?_;have R3:=R0.call x1;obtain rfl:=v1;intro _ L26;refine sO L26 rfl<|Yv (z:=((64-ZC y:Nat):Int)) rfl rfl underlying194 Zav<|Sa rfl<|SW<|Sm rfl<|Sm rfl<|So rfl<|Zdg (i:=y) (s:=(64-ZC y)) rfl rfl (by omega)<|Sa rfl<|kP [0,1,2,6,7,8] rfl<|SW<|Sm rfl<|So rfl<|Zam (i:=(y*2^(64-ZC y)%18446744073709551616)) (s:=32) rfl rfl (by omega)<|Sa rfl<|SW<|Sm rfl<|So rfl<|does_and32 (i:=(y*2^(64-ZC y)%18446744073709551616)) rfl rfl (by omega)<|Sa rfl<|SW<|Sm rfl<|Sm rfl<|So rfl<|Zdg (i:=h) (s:=(64-ZC y)) rfl rfl (by omega)<|Sm rfl<|Sm rfl<|So rfl<|ZO (z:=((64-(64-ZC y):Nat):Int)) rfl rfl (u64_to (by omega) (by omega))<|So rfl<|Zam (i:=lo) (s:=(64-(64-ZC y))) rfl rfl (by omega)<|So rfl<|Zhx (i:=(h*2^(64-ZC y)%18446744073709551616)) (j:=(lo/2^(64-(64-ZC y)))) (z:=(h*2^(64-ZC y)%18446744073709551616) |||(lo/2^(64-(64-ZC y)))) rfl rfl (by omega) (by exact Nat.lt_of_le_of_lt (Nat.div_le_self _ _) hl) rfl<|Sa rfl<|kP [1,2,6,7,8,9,10,11] rfl<|SW<|Sm rfl<|Sm rfl<|So rfl<|Zdg (i:=lo) (s:=(64-ZC y)) rfl rfl (by omega)<|Sa rfl<|SW<|Sm rfl<|So rfl<|Zam (i:=(lo*2^(64-ZC y)%18446744073709551616)) (s:=32) rfl rfl (by omega)<|Sa rfl<|kP [2,6,7,8,9,10,11,12,13] rfl λ_ L57=>sn<|Xr (λac ww=>∃(S':Sh)(Y:Nat)(s:Nat)(v:Nat)(wl:Nat)(u:Nat)(z1:Nat)(z0:Nat),S9.le S'/\ZD ac 135 [(6,(.int .u64 (0:Int))),(7,(.int .u64 (0:Int))),(2,(.int .u64 ((Y:Nat):Int))),(8,(.int .u64 ((s:Nat):Int))),(9,(.int .u64 ((v:Nat):Int))),(10,(.int .u64 ((wl:Nat):Int))),(11,(.int .u64 ((u:Nat):Int))),(13,(.int .u64 ((z1:Nat):Int))),(14,(.int .u64 ((z0:Nat):Int)))]/\Run S w S' [] ww/\(Norm h lo y s Y v wl u z1 z0)) ?_ ?_;rintro ac1 _ ⟨S10,Y,s,v,wl,u,z1,z0,l3,L58,R4,N⟩;have hs:=N.hs;have hY2:=N.hY2;have hvw:=N.hv;have hw:=N.hw;have hv2:=N.hv2;have hz_z1:=N.hz1;have hz_z0:=N.hz0;have hu2:=N.hu2;have hu_u:u<v*4294967296+wl:=by omega
 refine Xr (λac ww=>∃(S':Sh)(qa:Nat),S10.le S'/\ZD ac 135 [(6,(.int .u64 (0:Int))),(7,(.int .u64 (0:Int))),(2,(.int .u64 ((Y:Nat):Int))),(8,(.int .u64 ((s:Nat):Int))),(9,(.int .u64 ((v:Nat):Int))),(10,(.int .u64 ((wl:Nat):Int))),(11,(.int .u64 ((u:Nat):Int))),(13,(.int .u64 ((z1:Nat):Int))),(14,(.int .u64 ((z0:Nat):Int))),(15,(.int .u64 ((qa:Nat):Int)))]/\Run S w S' [] ww/\(qa=u/v)) ?_ ?_;rintro ac2 _ ⟨S11,qa,l4,L59,R5,hqa0⟩;obtain⟨hqa3,hqa4⟩:=mod_hint hqa0 (by omega);refine Xr (λac ww=>∃(S':Sh)(qa':Nat)(ra':Nat),S11.le S'/\ZD ac 135 [(6,(.int .u64 (0:Int))),(7,(.int .u64 (0:Int))),(2,(.int .u64 ((Y:Nat):Int))),(8,(.int .u64 ((s:Nat):Int))),(9,(.int .u64 ((v:Nat):Int))),(10,(.int .u64 ((wl:Nat):Int))),(11,(.int .u64 ((u:Nat):Int))),(13,(.int .u64 ((z1:Nat):Int))),(14,(.int .u64 ((z0:Nat):Int))),(15,(.int .u64 ((qa':Nat):Int))),(16,(.int .u64 ((ra':Nat):Int)))]/\Run S w S' [] ww/\(qa'*v+ra'=u)/\(ra'<v)) ?_ ?_;rintro ac3 _ ⟨S12,qa',ra',l5,L60,R6,hqa'1,hqa'2⟩;refine Xr (λac ww=>∃(S':Sh)(qb:Nat),S12.le S'/\ZD ac 135 [(6,(.int .u64 (0:Int))),(7,(.int .u64 (0:Int))),(2,(.int .u64 ((Y:Nat):Int))),(8,(.int .u64 ((s:Nat):Int))),(9,(.int .u64 ((v:Nat):Int))),(10,(.int .u64 ((wl:Nat):Int))),(11,(.int .u64 ((u:Nat):Int))),(13,(.int .u64 ((z1:Nat):Int))),(14,(.int .u64 ((z0:Nat):Int))),(15,(.int .u64 ((qb:Nat):Int)))]/\Run S w S' [] ww/\(qb*(v*4294967296+wl)<=u*4294967296+z1)/\(u*4294967296+z1<(qb+1)*(v*4294967296+wl))) ?_ ?_;rintro ac4 _ ⟨S13,qb,l6,L61,R7,hqb1,hqb2⟩;rw[<-hvw] at hqb1 hqb2;have hqb5:=dq_lt hqb1 hz_z1 (by omega);rw[Nat.add_mul,Nat.one_mul] at hqb2;refine Xr (λac ww=>∃(S':Sh)(ub:Nat),S13.le S'/\ZD ac 135 [(6,(.int .u64 (0:Int))),(7,(.int .u64 (0:Int))),(2,(.int .u64 ((Y:Nat):Int))),(8,(.int .u64 ((s:Nat):Int))),(9,(.int .u64 ((v:Nat):Int))),(10,(.int .u64 ((wl:Nat):Int))),(14,(.int .u64 ((z0:Nat):Int))),(15,(.int .u64 ((qb:Nat):Int))),(17,(.int .u64 ((ub:Nat):Int)))]/\Run S w S' [] ww/\(ub+qb*Y=u*4294967296+z1)) ?_ ?_;rintro ac5 _ ⟨S14,ub,l7,L62,R8,hub⟩;have hubY:ub<Y:=by omega
 have hu_ub:ub<v*4294967296+wl:=by omega
 refine Xr (λac ww=>∃(S':Sh)(qc:Nat),S14.le S'/\ZD ac 135 [(6,(.int .u64 (0:Int))),(7,(.int .u64 (0:Int))),(2,(.int .u64 ((Y:Nat):Int))),(8,(.int .u64 ((s:Nat):Int))),(9,(.int .u64 ((v:Nat):Int))),(10,(.int .u64 ((wl:Nat):Int))),(14,(.int .u64 ((z0:Nat):Int))),(15,(.int .u64 ((qb:Nat):Int))),(17,(.int .u64 ((ub:Nat):Int))),(18,(.int .u64 ((qc:Nat):Int)))]/\Run S w S' [] ww/\(qc=ub/v)) ?_ ?_;rintro ac6 _ ⟨S15,qc,l8,L63,R9,hqc0⟩;obtain⟨hqc3,hqc4⟩:=mod_hint hqc0 (by omega);refine Xr (λac ww=>∃(S':Sh)(qc':Nat)(rc':Nat),S15.le S'/\ZD ac 135 [(6,(.int .u64 (0:Int))),(7,(.int .u64 (0:Int))),(2,(.int .u64 ((Y:Nat):Int))),(8,(.int .u64 ((s:Nat):Int))),(9,(.int .u64 ((v:Nat):Int))),(10,(.int .u64 ((wl:Nat):Int))),(14,(.int .u64 ((z0:Nat):Int))),(15,(.int .u64 ((qb:Nat):Int))),(17,(.int .u64 ((ub:Nat):Int))),(18,(.int .u64 ((qc':Nat):Int))),(16,(.int .u64 ((rc':Nat):Int)))]/\Run S w S' [] ww/\(qc'*v+rc'=ub)/\(rc'<v)) ?_ ?_;rintro ac7 _ ⟨S16,qc',rc',l9,L64,R10,hqc'1,hqc'2⟩;refine Xr (λac ww=>∃(S':Sh)(qd:Nat),S16.le S'/\ZD ac 135 [(6,(.int .u64 (0:Int))),(7,(.int .u64 (0:Int))),(2,(.int .u64 ((Y:Nat):Int))),(8,(.int .u64 ((s:Nat):Int))),(14,(.int .u64 ((z0:Nat):Int))),(15,(.int .u64 ((qb:Nat):Int))),(17,(.int .u64 ((ub:Nat):Int))),(18,(.int .u64 ((qd:Nat):Int)))]/\Run S w S' [] ww/\(qd*(v*4294967296+wl)<=ub*4294967296+z0)/\(ub*4294967296+z0<(qd+1)*(v*4294967296+wl))) ?_ ?_;rintro ac8 _ ⟨_,qd,l10,L65,R11,hqd1,hqd2⟩;rw[<-hvw] at hqd1 hqd2;have hqd5:=dq_lt hqd1 hz_z0 (by omega);rw[Nat.add_mul,Nat.one_mul] at hqd2;refine wA<|sm L65 rfl<|So rfl<|XL rfl rfl Zav<|Sm rfl<|So rfl<|Zy rfl rfl Zav<|Sm rfl<|So rfl<|XL (z:=((ub*4294967296%18446744073709551616:Nat):Int)) rfl rfl (Zhe (x:=ub) (y:=4294967296))<|Sm rfl<|So rfl<|Zy (z:=((((ub*4294967296%18446744073709551616)+z0)%18446744073709551616:Nat):Int)) rfl rfl (u64_wrapA (x:=(ub*4294967296%18446744073709551616)) (y:=z0))<|Sm rfl<|Sm rfl<|So rfl<|XL (z:=((qd*Y%18446744073709551616:Nat):Int)) rfl rfl (Zhe (x:=qd) (y:=Y))<|So rfl<|ZO (z:=((((((ub*4294967296%18446744073709551616)+z0)%18446744073709551616)+18446744073709551616-(qd*Y%18446744073709551616))%18446744073709551616:Nat):Int)) rfl rfl (u64_wrapS (x:=(((ub*4294967296%18446744073709551616)+z0)%18446744073709551616)) (y:=(qd*Y%18446744073709551616)) (by omega))<|Sm rfl<|So rfl<|Zam (i:=(((((ub*4294967296%18446744073709551616)+z0)%18446744073709551616)+18446744073709551616-(qd*Y%18446744073709551616))%18446744073709551616)) (s:=s) rfl rfl (by omega)<|Sa rfl<|Sa rfl λ_ L81=>sn<|wp_ret<|rt (L81.kp [6,7] rfl) (.tmp rfl (.tmp rfl Res.nil)) ?_;have hub0:=norm_u21 hqd1 hqd2 (by omega);obtain⟨hq_,hr_⟩:=div64_done N hub hub0 (by omega) (by omega);exact⟨_,_,rfl,R11.ext,(by rw[<-hq_,<-hr_];exact int_eq2 (by omega) rfl)⟩;skip;refine wp_block<|ZJ (λm ac ww=>∃(S':Sh)(q2:Nat)(r2:Nat),S16.le S'/\ZD ac 135 [(6,(.int .u64 (0:Int))),(7,(.int .u64 (0:Int))),(2,(.int .u64 ((Y:Nat):Int))),(8,(.int .u64 ((s:Nat):Int))),(9,(.int .u64 ((v:Nat):Int))),(10,(.int .u64 ((wl:Nat):Int))),(14,(.int .u64 ((z0:Nat):Int))),(15,(.int .u64 ((qb:Nat):Int))),(17,(.int .u64 ((ub:Nat):Int))),(18,(.int .u64 ((q2:Nat):Int))),(16,(.int .u64 ((r2:Nat):Int)))]/\Run S w S' [] ww/\(q2*v+r2=ub)/\(r2<4294967296)/\(ub*4294967296+z0<(q2+1)*(v*4294967296+wl))/\(q2<=4294967297)/\m=q2) qc' ⟨S16,qc',rc',Sh.le.refl _,(L64.kp [16,18,17,15,14,10,9,8,2,7,6] rfl),R10,hqc'1,(by omega),(by exact dq_init hqc'1 hqc'2 hz_z0),(by exact dq_small hqc'1 hu_ub hw hv2),rfl⟩ ?_;rintro m_1 ac9 _ ⟨S18,q2,r2,l11,L83,R12,hE,hEr,hEu,hEk,m1⟩;refine wp_seq<|wp_seq ?_;have hqw:q2<4294967296->q2*wl<=4294967295*4294967295:=λh=>Nat.mul_le_mul (by omega) (by omega);refine Za<|sm L83 rfl λ_ L84=>?_;by_cases t4:(4294967296:Int)<=(q2:Int);refine sO L84 rfl<|cT t4 (YI rfl rfl)<|Sm rfl<|Sf rfl<|Sf rfl<|Sf rfl<|Sf rfl<|Sf rfl<|Sf rfl<|Sf rfl<|Sf rfl<|So rfl<|Ze rfl rfl<|kP [6,7,2,8,9,10,14,15,17,18,16,102,103,104,113] rfl<|ST rfl λ_ L96=>wp_skip<|Zc<|wp_block<|wp_seq ?_;have hor:4294967296<=q2\/r2*4294967296+z0<q2*wl:=by omega
 obtain⟨hE0,hE',hEu'⟩:=dq_step hE hz_z0 hu_ub hor;refine Za<|sm L96 rfl<|So rfl<|ZO rfl rfl Zav<|Sa rfl<|SW<|Sm rfl<|Sm rfl<|So rfl<|Zy rfl rfl Zav<|Sa rfl<|SW<|Sm rfl λ_ L104=>?_;by_cases t5:(4294967296:Int)<=((r2:Int)+(v:Int));exact sO L104 rfl<|cT t5 (YI rfl rfl)<|ST rfl λ_ L105=>wp_exit<|Zgz rfl<|Zo<|Yl<|Zc<|⟨S18,(q2-1),l11,(((L105.ri 18 (((q2-1):Nat):Int) rfl (by first|omega|simp)).a L105).kp [18,17,15,14,8,2,7,6] rfl),R12,(by first|exact QW hE' hw (by omega) (by omega)|exact Zcf hE (by omega)),(by first|exact hEu'|exact hEu)⟩;exact sO L104 rfl<|cF t5 (YI rfl rfl)<|SF rfl λ_ L107=>wp_skip<|Zx<|Zc<|⟨(q2-1),(by omega),S18,(q2-1),(r2+v),l11,(((L107.ri 18 (((q2-1):Nat):Int) rfl (by first|omega|simp)).a ((L107.ri 16 (((r2+v):Nat):Int) rfl (by first|omega|simp)).a L107)).kp [16,18,17,15,14,10,9,8,2,7,6] rfl),R12,hE',(by omega),hEu',(by omega),rfl⟩;refine sO L84 rfl<|cF t4 (YI rfl rfl)<|Sm rfl<|Sn rfl<|Zd rfl<|Sn rfl<|Zd rfl<|Sn rfl<|XL rfl rfl Zav<|Sn rfl<|Zd rfl<|Sn rfl<|XL rfl rfl Zav<|Sn rfl<|Zd rfl<|Sn rfl<|Zy rfl rfl Zav λ_ L118=>?_;by_cases t6:(((4294967296:Int)*(r2:Int))+(z0:Int))<((q2:Int)*(wl:Int));refine sN L118 rfl<|cT t6 (ZF rfl rfl)<|So rfl<|Ze rfl rfl<|ST rfl λ_ L120=>wp_skip<|Zc<|wp_block<|wp_seq ?_;have hor:4294967296<=q2\/r2*4294967296+z0<q2*wl:=by omega
 obtain⟨hE0,hE',hEu'⟩:=dq_step hE hz_z0 hu_ub hor;refine Za<|sm L120 rfl<|So rfl<|ZO rfl rfl Zav<|Sa rfl<|SW<|Sm rfl<|Sm rfl<|So rfl<|Zy rfl rfl Zav<|Sa rfl<|SW<|Sm rfl λ_ L128=>?_;by_cases t7:(4294967296:Int)<=((r2:Int)+(v:Int));exact sO L128 rfl<|cT t7 (YI rfl rfl)<|ST rfl λ_ L129=>wp_exit<|Zgz rfl<|Zo<|Yl<|Zc<|⟨S18,(q2-1),l11,(((L129.ri 18 (((q2-1):Nat):Int) rfl (by first|omega|simp)).a L129).kp [18,17,15,14,8,2,7,6] rfl),R12,(by first|exact QW hE' hw (by omega) (by omega)|exact Zcf hE (by omega)),(by first|exact hEu'|exact hEu)⟩;exact sO L128 rfl<|cF t7 (YI rfl rfl)<|SF rfl λ_ L131=>wp_skip<|Zx<|Zc<|⟨(q2-1),(by omega),S18,(q2-1),(r2+v),l11,(((L131.ri 18 (((q2-1):Nat):Int) rfl (by first|omega|simp)).a ((L131.ri 16 (((r2+v):Nat):Int) rfl (by first|omega|simp)).a L131)).kp [16,18,17,15,14,10,9,8,2,7,6] rfl),R12,hE',(by omega),hEu',(by omega),rfl⟩;exact sN L118 rfl<|cF t6 (ZF rfl rfl)<|So rfl<|Ze rfl rfl<|SF rfl λ_ L135=>wp_exit<|Zo<|Zo<|Yl<|Zc<|⟨S18,q2,l11,(L135.kp [18,17,15,14,8,2,7,6] rfl),R12,(by first|exact QW hE' hw (by omega) (by omega)|exact Zcf hE (by omega)),(by first|exact hEu'|exact hEu)⟩;skip;exact Za<|sm L63 rfl<|Sm rfl<|Sm rfl<|So rfl<|XL rfl rfl Zav<|So rfl<|ZO rfl rfl Zav<|Sa rfl<|kP [6,7,2,8,9,10,14,15,17,18,16] rfl λ_ L142=>sn<|⟨S15,qc,(ub-(qc*v)),Sh.le.refl _,(((L142.ri 16 (((ub-(qc*v)):Nat):Int) rfl (by first|omega|simp)).a L142).kp [16,18,17,15,14,10,9,8,2,7,6] rfl),R9,(by omega),(by omega)⟩;skip;exact Za<|sm L62 rfl<|Sm rfl<|So rfl<|XK (z:=((ub:Int)/(v:Int))) rfl rfl (by omega) (Za3 (k:=.u64) (by omega) (by omega) (show _<=(18446744073709551615:Int) by omega))<|Sa rfl λ_ L147=>sn<|⟨S14,(ub/v),Sh.le.refl _,(((L147.ri 18 (((ub/v):Nat):Int) rfl (by first|omega|simp)).a L147).kp [18,17,15,14,10,9,8,2,7,6] rfl),R8,(by rfl)⟩;skip;exact Za<|sm L61 rfl<|So rfl<|XL (z:=((u*4294967296%18446744073709551616:Nat):Int)) rfl rfl (Zhe (x:=u) (y:=4294967296))<|Sm rfl<|So rfl<|Zy (z:=((((u*4294967296%18446744073709551616)+z1)%18446744073709551616:Nat):Int)) rfl rfl (u64_wrapA (x:=(u*4294967296%18446744073709551616)) (y:=z1))<|Sm rfl<|Sm rfl<|So rfl<|XL (z:=((qb*Y%18446744073709551616:Nat):Int)) rfl rfl (Zhe (x:=qb) (y:=Y))<|So rfl<|ZO (z:=((((((u*4294967296%18446744073709551616)+z1)%18446744073709551616)+18446744073709551616-(qb*Y%18446744073709551616))%18446744073709551616:Nat):Int)) rfl rfl (u64_wrapS (x:=(((u*4294967296%18446744073709551616)+z1)%18446744073709551616)) (y:=(qb*Y%18446744073709551616)) (by omega))<|Sa rfl<|kP [6,7,2,8,9,10,14,15,17] rfl λ_ L158=>sn<|⟨S13,(((((u*4294967296%18446744073709551616)+z1)%18446744073709551616)+18446744073709551616-(qb*Y%18446744073709551616))%18446744073709551616),Sh.le.refl _,(((L158.ri 17 (((((((u*4294967296%18446744073709551616)+z1)%18446744073709551616)+18446744073709551616-(qb*Y%18446744073709551616))%18446744073709551616):Nat):Int) rfl (by first|omega|simp)).a L158).kp [17,15,14,10,9,8,2,7,6] rfl),R7,(by exact norm_u21 hqb1 hqb2 (by omega))⟩;skip;refine wp_block<|ZJ (λm ac ww=>∃(S':Sh)(q1:Nat)(r1:Nat),S12.le S'/\ZD ac 135 [(6,(.int .u64 (0:Int))),(7,(.int .u64 (0:Int))),(2,(.int .u64 ((Y:Nat):Int))),(8,(.int .u64 ((s:Nat):Int))),(9,(.int .u64 ((v:Nat):Int))),(10,(.int .u64 ((wl:Nat):Int))),(11,(.int .u64 ((u:Nat):Int))),(13,(.int .u64 ((z1:Nat):Int))),(14,(.int .u64 ((z0:Nat):Int))),(15,(.int .u64 ((q1:Nat):Int))),(16,(.int .u64 ((r1:Nat):Int)))]/\Run S w S' [] ww/\(q1*v+r1=u)/\(r1<4294967296)/\(u*4294967296+z1<(q1+1)*(v*4294967296+wl))/\(q1<=4294967297)/\m=q1) qa' ⟨S12,qa',ra',Sh.le.refl _,(L60.kp [16,15,14,13,11,10,9,8,2,7,6] rfl),R6,hqa'1,(by omega),(by exact dq_init hqa'1 hqa'2 hz_z1),(by exact dq_small hqa'1 hu_u hw hv2),rfl⟩ ?_;rintro m_2 ac10 _ ⟨S19,q1,r1,l12,L160,R13,hD,hDr,hDu,hDk,m2⟩;refine wp_seq<|wp_seq ?_;have hqw:q1<4294967296->q1*wl<=4294967295*4294967295:=λh=>Nat.mul_le_mul (by omega) (by omega);refine Za<|sm L160 rfl λ_ L161=>?_;by_cases t8:(4294967296:Int)<=(q1:Int);refine sO L161 rfl<|cT t8 (YI rfl rfl)<|Sm rfl<|Sf rfl<|Sf rfl<|Sf rfl<|Sf rfl<|Sf rfl<|Sf rfl<|Sf rfl<|Sf rfl<|So rfl<|Ze rfl rfl<|kP [6,7,2,8,9,10,11,13,14,15,16,67,68,69,78] rfl<|ST rfl λ_ L173=>wp_skip<|Zc<|wp_block<|wp_seq ?_;have hor:4294967296<=q1\/r1*4294967296+z1<q1*wl:=by omega
 obtain⟨hD0,hD',hDu'⟩:=dq_step hD hz_z1 hu_u hor;refine Za<|sm L173 rfl<|So rfl<|ZO rfl rfl Zav<|Sa rfl<|SW<|Sm rfl<|Sm rfl<|So rfl<|Zy rfl rfl Zav<|Sa rfl<|SW<|Sm rfl λ_ L181=>?_;by_cases t9:(4294967296:Int)<=((r1:Int)+(v:Int));exact sO L181 rfl<|cT t9 (YI rfl rfl)<|ST rfl λ_ L182=>wp_exit<|Zgz rfl<|Zo<|Yl<|Zc<|⟨S19,(q1-1),l12,(((L182.ri 15 (((q1-1):Nat):Int) rfl (by first|omega|simp)).a L182).kp [15,14,13,11,10,9,8,2,7,6] rfl),R13,(by first|exact QW hD' hw (by omega) (by omega)|exact Zcf hD (by omega)),(by first|exact hDu'|exact hDu)⟩;exact sO L181 rfl<|cF t9 (YI rfl rfl)<|SF rfl λ_ L184=>wp_skip<|Zx<|Zc<|⟨(q1-1),(by omega),S19,(q1-1),(r1+v),l12,(((L184.ri 15 (((q1-1):Nat):Int) rfl (by first|omega|simp)).a ((L184.ri 16 (((r1+v):Nat):Int) rfl (by first|omega|simp)).a L184)).kp [16,15,14,13,11,10,9,8,2,7,6] rfl),R13,hD',(by omega),hDu',(by omega),rfl⟩;refine sO L161 rfl<|cF t8 (YI rfl rfl)<|Sm rfl<|Sn rfl<|Zd rfl<|Sn rfl<|Zd rfl<|Sn rfl<|XL rfl rfl Zav<|Sn rfl<|Zd rfl<|Sn rfl<|XL rfl rfl Zav<|Sn rfl<|Zd rfl<|Sn rfl<|Zy rfl rfl Zav λ_ L195=>?_;by_cases t10:(((4294967296:Int)*(r1:Int))+(z1:Int))<((q1:Int)*(wl:Int));refine sN L195 rfl<|cT t10 (ZF rfl rfl)<|So rfl<|Ze rfl rfl<|ST rfl λ_ L197=>wp_skip<|Zc<|wp_block<|wp_seq ?_;have hor:4294967296<=q1\/r1*4294967296+z1<q1*wl:=by omega
 obtain⟨hD0,hD',hDu'⟩:=dq_step hD hz_z1 hu_u hor;refine Za<|sm L197 rfl<|So rfl<|ZO rfl rfl Zav<|Sa rfl<|SW<|Sm rfl<|Sm rfl<|So rfl<|Zy rfl rfl Zav<|Sa rfl<|SW<|Sm rfl λ_ L205=>?_;by_cases t11:(4294967296:Int)<=((r1:Int)+(v:Int));exact sO L205 rfl<|cT t11 (YI rfl rfl)<|ST rfl λ_ L206=>wp_exit<|Zgz rfl<|Zo<|Yl<|Zc<|⟨S19,(q1-1),l12,(((L206.ri 15 (((q1-1):Nat):Int) rfl (by first|omega|simp)).a L206).kp [15,14,13,11,10,9,8,2,7,6] rfl),R13,(by first|exact QW hD' hw (by omega) (by omega)|exact Zcf hD (by omega)),(by first|exact hDu'|exact hDu)⟩;exact sO L205 rfl<|cF t11 (YI rfl rfl)<|SF rfl λ_ L208=>wp_skip<|Zx<|Zc<|⟨(q1-1),(by omega),S19,(q1-1),(r1+v),l12,(((L208.ri 15 (((q1-1):Nat):Int) rfl (by first|omega|simp)).a ((L208.ri 16 (((r1+v):Nat):Int) rfl (by first|omega|simp)).a L208)).kp [16,15,14,13,11,10,9,8,2,7,6] rfl),R13,hD',(by omega),hDu',(by omega),rfl⟩;exact sN L195 rfl<|cF t10 (ZF rfl rfl)<|So rfl<|Ze rfl rfl<|SF rfl λ_ L212=>wp_exit<|Zo<|Zo<|Yl<|Zc<|⟨S19,q1,l12,(L212.kp [15,14,13,11,10,9,8,2,7,6] rfl),R13,(by first|exact QW hD' hw (by omega) (by omega)|exact Zcf hD (by omega)),(by first|exact hDu'|exact hDu)⟩;skip;exact Za<|sm L59 rfl<|Sm rfl<|Sm rfl<|So rfl<|XL rfl rfl Zav<|So rfl<|ZO rfl rfl Zav<|Sa rfl<|kP [6,7,2,8,9,10,11,13,14,15,16] rfl λ_ L219=>sn<|⟨S11,qa,(u-(qa*v)),Sh.le.refl _,(((L219.ri 16 (((u-(qa*v)):Nat):Int) rfl (by first|omega|simp)).a L219).kp [16,15,14,13,11,10,9,8,2,7,6] rfl),R5,(by omega),(by omega)⟩;skip;exact Za<|sm L58 rfl<|Sm rfl<|So rfl<|XK (z:=((u:Int)/(v:Int))) rfl rfl (by omega) (Za3 (k:=.u64) (by omega) (by omega) (show _<=(18446744073709551615:Int) by omega))<|Sa rfl λ_ L224=>sn<|⟨S10,(u/v),Sh.le.refl _,(((L224.ri 15 (((u/v):Nat):Int) rfl (by first|omega|simp)).a L224).kp [15,14,13,11,10,9,8,2,7,6] rfl),R4,(by rfl)⟩;skip;refine Za<|sm L57 rfl<|So rfl<|does_and32 (i:=(lo*2^(64-ZC y)%18446744073709551616)) rfl rfl (by omega)<|Sa rfl λ_ L228=>sn ?_;have L229:=L228.ri 2 (((y*2^(64-ZC y)%18446744073709551616):Nat):Int) rfl (by first|omega|simp);have L230:=L228.ri 8 (((64-ZC y):Nat):Int) rfl (by first|omega|simp);have L231:=L228.ri 9 ((((y*2^(64-ZC y)%18446744073709551616)/2^32):Nat):Int) rfl (by first|omega|simp);have L232:=L228.ri 10 ((((y*2^(64-ZC y)%18446744073709551616)%4294967296):Nat):Int) rfl (by first|omega|simp);exact⟨S9,(y*2^(64-ZC y)%18446744073709551616),(64-ZC y),((y*2^(64-ZC y)%18446744073709551616)/2^32),((y*2^(64-ZC y)%18446744073709551616)%4294967296),((h*2^(64-ZC y)%18446744073709551616) |||(lo/2^(64-(64-ZC y)))),((lo*2^(64-ZC y)%18446744073709551616)/2^32),((lo*2^(64-ZC y)%18446744073709551616)%4294967296),Sh.le.refl _,((L229.a<|L230.a<|L231.a<|L232.a<|(L228.ri 11 ((((h*2^(64-ZC y)%18446744073709551616) |||(lo/2^(64-(64-ZC y)))):Nat):Int) rfl (by first|omega|simp)).a ((L228.ri 13 ((((lo*2^(64-ZC y)%18446744073709551616)/2^32):Nat):Int) rfl (by first|omega|simp)).a ((L228.ri 14 ((((lo*2^(64-ZC y)%18446744073709551616)%4294967296):Nat):Int) rfl (by first|omega|simp)).a L228))).kp [14,13,11,10,9,8,2,7,6] rfl),R3,(by exact norm_start hy hh hl)⟩
theorem nat_guess{S:Sh}{w:World}(hS:ZV S w){x:Nat}{y:Nat}{z:Nat}{vh:Nat}{wl:Nat}(hxv:x<=vh)(hv0:0<vh)(hv:vh<18446744073709551616)(hy:y<18446744073709551616)(hz:z<18446744073709551616)(hw:wl<18446744073709551616):Calls prog 164 [(.int .u64 ((x:Nat):Int)),(.int .u64 ((y:Nat):Int)),(.int .u64 ((z:Nat):Int)),(.int .u64 ((vh:Nat):Int)),(.int .u64 ((wl:Nat):Int))].toArray w (Ret S w (λS v=>∃g,v= .int .u64 ((g:Nat):Int)/\g<18446744073709551616/\g*(vh*18446744073709551616+wl)<=(x*18446744073709551616+y)*18446744073709551616+z/\((x*18446744073709551616+y)*18446744073709551616+z<(g+1)*(vh*18446744073709551616+wl)\/g=18446744073709551615))):=by
 refine cbd hS (n:=67) func164 rfl λ_ L0 R0=>wA<|sa L0 rfl<|SW<|Sa rfl<|Sa rfl<|SVv<|Sm rfl<|Sm rfl λ_ L5=>?_;by_cases t1:(x:Int)<(vh:Int);refine sO L5 rfl<|cT t1 (Zs rfl rfl)<|ST rfl λ_ L6=>Za<|sm L6 rfl<|Sm rfl<|Sm rfl<|So rfl<|Zi rfl ent_161 (Zfe R0.holds (h:=x) (lo:=y) (y:=vh) (by omega) hy (by omega)) λv_1 S1 _ x1 v1=>?_;have R1:=R0.call x1;obtain rfl:=v1;intro _ L10;refine sm L10 rfl<|So rfl<|Zj rfl rfl<|So rfl<|Zj rfl rfl<|Sa rfl<|Sa rfl<|kP [2,3,4,10,11,12] rfl λ_ L16=>sn<|wp_block<|ZJ (λm ac ww=>∃(S':Sh)(d:Nat)(r:Nat),S1.le S'/\ZD ac 67 [(2,(.int .u64 ((z:Nat):Int))),(3,(.int .u64 ((vh:Nat):Int))),(4,(.int .u64 ((wl:Nat):Int))),(10,(.int .u64 (0:Int))),(11,(.int .u64 ((d:Nat):Int))),(12,(.int .u64 ((r:Nat):Int)))]/\Run S w S' [] ww/\(d*vh+r=x*18446744073709551616+y)/\(r<18446744073709551616)/\(d<18446744073709551616)/\((x*18446744073709551616+y)*18446744073709551616+z<(d+1)*(vh*18446744073709551616+wl)\/d=18446744073709551615)/\m=d) ((x*18446744073709551616+y)/vh) ⟨S1,((x*18446744073709551616+y)/vh),((x*18446744073709551616+y)%vh),Sh.le.refl _,(((L16.ri 11 ((((x*18446744073709551616+y)/vh):Nat):Int) rfl).a ((L16.ri 12 ((((x*18446744073709551616+y)%vh):Nat):Int) rfl).a L16)).kp [12,11,10,4,3,2] rfl),R1,(by first|exact Nat.div_add_mod' _ _|omega),(by first|exact Nat.lt_trans (Nat.mod_lt _ (by omega)) hv|omega),(by first|exact Nat.div_lt_of_lt_mul (by omega)|omega),(by first|exact Or.inr rfl|exact Or.inl<|dq_init (Nat.div_add_mod' _ _) (Nat.mod_lt _ (by omega)) hz),rfl⟩ ?_;rintro m_1 ac1 _ ⟨_,d,r,l2,L17,R2,hD,hr,hdl,hu,m1⟩;refine wp_block<|wA<|sm L17 rfl<|Sm rfl<|So rfl<|Zi rfl ent_139 (Zat R2.holds (x:=d) (y:=wl) hdl (by omega)) λv_2 S3 _ x2 v2=>?_;have R3:=R2.call x2;have l3:=x2.le;obtain rfl:=v2;intro _ L22;refine sm L22 rfl<|So rfl<|Zj rfl rfl<|So rfl<|Zj rfl rfl<|Sa rfl<|Sa rfl<|SVv<|Sm rfl<|Sm rfl λ_ L29=>?_;by_cases t2:((d*wl/18446744073709551616:Nat):Int)<(r:Int);exact sO L29 rfl<|cT t2 (Zs rfl rfl)<|Sm rfl<|Sf rfl<|Sf rfl<|Sf rfl<|Sf rfl λ_ L35=>ZY L35 rfl rfl rfl rfl rfl λ_ L36=>ZY L36 rfl rfl rfl rfl rfl λ_ L37=>ZY L37 rfl rfl rfl rfl rfl<|Sf rfl<|So rfl<|Ze rfl rfl<|kP [2,3,4,10,11,12,37,38,39,36,40,41,14,15,42,43,44,45,54] rfl<|ST rfl<|WA<|Sm rfl<|Sa rfl λ_ L43=>sn<|wp_ret<|Zt<|YE<|Zt<|YE<|rt L43 (.tmp rfl Res.nil)<|⟨_,_,rfl,R3.ext,⟨d,rfl,(by omega),(by exact Zcf hD (by omega)),hu⟩⟩;refine sO L29 rfl<|cF t2 (Zs rfl rfl)<|Sm rfl<|Sn rfl<|Zd rfl<|Sn rfl<|Zd rfl λ_ L47=>?_;by_cases t3:((d*wl/18446744073709551616:Nat):Int)=(r:Int);refine sN L47 rfl<|cT t3 (ZP rfl rfl)<|Sn rfl<|Zd rfl<|Sn rfl<|Zd rfl<|Sn rfl<|Zd rfl λ_ L51=>?_;by_cases t4:((d*wl%18446744073709551616:Nat):Int)<=(z:Int);exact sN L51 rfl<|cT t4 (QX rfl rfl)<|Sn rfl<|Ze rfl rfl<|So rfl<|Ze rfl rfl<|ST rfl<|WA<|Sm rfl<|Sa rfl λ_ L56=>sn<|wp_ret<|Zt<|YE<|Zt<|YE<|rt L56 (.tmp rfl Res.nil)<|⟨_,_,rfl,R3.ext,⟨d,rfl,(by omega),(by exact Zcf hD (by omega)),hu⟩⟩;refine sN L51 rfl<|cF t4 (QX rfl rfl)<|Sn rfl<|Ze rfl rfl<|So rfl<|Ze rfl rfl<|SF rfl λ_ L59=>wp_skip<|Zc<|wp_seq ?_;have hor:r*18446744073709551616+z<d*wl:=by omega
 obtain⟨hd0,hD',hu'⟩:=dq_step2 hD hor;refine Za<|sm L59 rfl<|So rfl<|ZO rfl rfl Zav<|Sa rfl<|SW<|Sa rfl<|SW<|Sm rfl<|Sm rfl λ_ L65=>so L65 rfl<|Xh (x:=r) (y:=vh) (c:=0) L65 rfl (by omega)<|Sm rfl<|So rfl<|Zj rfl rfl<|So rfl<|Zj rfl rfl<|Sa rfl<|Sa rfl<|SW<|Sm rfl λ_ L72=>?_;by_cases t5:¬(((r+vh+0)/18446744073709551616:Nat):Int)=(0:Int);exact sO L72 rfl<|cT t5 (Yn rfl rfl)<|ST rfl<|WA<|Sm rfl<|Sa rfl λ_ L75=>sn<|wp_ret<|YE<|Zt<|YE<|rt L75 (.tmp rfl Res.nil)<|⟨_,_,rfl,R3.ext,⟨(d-1),(by exact Zdb (by omega)),(by omega),(by exact QW hD' hw (by omega) (by omega)),(by exact Or.inl hu')⟩⟩;exact sO L72 rfl<|cF t5 (Yn rfl rfl)<|SF rfl λ_ L76=>wp_skip<|Zx<|Zc<|⟨(d-1),(by omega),S3,(d-1),((r+vh+0)%18446744073709551616),(l2.trans l3),(((L76.ri 11 (((d-1):Nat):Int) rfl).a ((L76.ri 12 ((((r+vh+0)%18446744073709551616):Nat):Int) rfl).a L76)).kp [12,11,10,4,3,2] rfl),R3,(by rw[show(r+vh+0)%18446744073709551616=r+vh by omega];exact hD'),(by omega),(by omega),(by exact Or.inl hu'),rfl⟩;refine sN L47 rfl<|cF t3 (ZP rfl rfl)<|Sn rfl<|Zd rfl<|Sf rfl<|Sf rfl<|Sf rfl<|Sn rfl<|Ze rfl rfl<|So rfl<|Ze rfl rfl<|SF rfl λ_ L85=>wp_skip<|Zc<|wp_seq ?_;have hor:r*18446744073709551616+z<d*wl:=by omega
 obtain⟨hd0,hD',hu'⟩:=dq_step2 hD hor;refine Za<|sm L85 rfl<|So rfl<|ZO rfl rfl Zav<|Sa rfl<|SW<|Sa rfl<|SW<|Sm rfl<|Sm rfl λ_ L91=>so L91 rfl<|Xh (x:=r) (y:=vh) (c:=0) L91 rfl (by omega)<|Sm rfl<|So rfl<|Zj rfl rfl<|So rfl<|Zj rfl rfl<|Sa rfl<|Sa rfl<|SW<|Sm rfl λ_ L98=>?_;by_cases t6:¬(((r+vh+0)/18446744073709551616:Nat):Int)=(0:Int);exact sO L98 rfl<|cT t6 (Yn rfl rfl)<|ST rfl<|WA<|Sm rfl<|Sa rfl λ_ L101=>sn<|wp_ret<|YE<|Zt<|YE<|rt L101 (.tmp rfl Res.nil)<|⟨_,_,rfl,R3.ext,⟨(d-1),(by exact Zdb (by omega)),(by omega),(by exact QW hD' hw (by omega) (by omega)),(by exact Or.inl hu')⟩⟩;exact sO L98 rfl<|cF t6 (Yn rfl rfl)<|SF rfl λ_ L102=>wp_skip<|Zx<|Zc<|⟨(d-1),(by omega),S3,(d-1),((r+vh+0)%18446744073709551616),(l2.trans l3),(((L102.ri 11 (((d-1):Nat):Int) rfl).a ((L102.ri 12 ((((r+vh+0)%18446744073709551616):Nat):Int) rfl).a L102)).kp [12,11,10,4,3,2] rfl),R3,(by rw[show(r+vh+0)%18446744073709551616=r+vh by omega];exact hD'),(by omega),(by omega),(by exact Or.inl hu'),rfl⟩;refine sO L5 rfl<|cF t1 (Zs rfl rfl)<|SF rfl<|WA<|Sa rfl<|SW<|Sm rfl<|Sm rfl λ_ L108=>so L108 rfl<|Xh (x:=y) (y:=vh) (c:=0) L108 rfl (by omega)<|Sm rfl<|So rfl<|Zj rfl rfl<|So rfl<|Zj rfl rfl<|Sa rfl<|Sa rfl<|kP [2,3,4,10,11,12,13] rfl<|SW<|Sm rfl λ_ L116=>?_;by_cases t7:¬(((y+vh+0)/18446744073709551616:Nat):Int)=(0:Int);exact sO L116 rfl<|cT t7 (Yn rfl rfl)<|ST rfl<|WA<|Sm rfl<|Sa rfl λ_ L119=>sn<|wp_ret<|Zt<|rt L119 (.tmp rfl Res.nil)<|⟨_,_,rfl,R0.ext,⟨18446744073709551615,rfl,(by omega),(by exact QW (K:=18446744073709551616) (r:=y+vh) (by omega) (by omega) (by omega) (by omega)),(by exact Or.inr rfl)⟩⟩;refine sO L116 rfl<|cF t7 (Yn rfl rfl)<|SF rfl λ_ L120=>wp_skip<|Zc<|wp_block<|ZJ (λm ac ww=>∃(S':Sh)(d:Nat)(r:Nat),S.le S'/\ZD ac 67 [(2,(.int .u64 ((z:Nat):Int))),(3,(.int .u64 ((vh:Nat):Int))),(4,(.int .u64 ((wl:Nat):Int))),(10,(.int .u64 (0:Int))),(11,(.int .u64 ((d:Nat):Int))),(12,(.int .u64 ((r:Nat):Int)))]/\Run S w S' [] ww/\(d*vh+r=x*18446744073709551616+y)/\(r<18446744073709551616)/\(d<18446744073709551616)/\((x*18446744073709551616+y)*18446744073709551616+z<(d+1)*(vh*18446744073709551616+wl)\/d=18446744073709551615)/\m=d) 18446744073709551615 ⟨S,18446744073709551615,((y+vh+0)%18446744073709551616),Sh.le.refl _,(((L120.ri 11 ((18446744073709551615:Nat):Int) rfl).a ((L120.ri 12 ((((y+vh+0)%18446744073709551616):Nat):Int) rfl).a L120)).kp [12,11,10,4,3,2] rfl),R0,(by first|exact Nat.div_add_mod' _ _|omega),(by first|exact Nat.lt_trans (Nat.mod_lt _ (by omega)) hv|omega),(by first|exact Nat.div_lt_of_lt_mul (by omega)|omega),(by first|exact Or.inr rfl|exact Or.inl<|dq_init (Nat.div_add_mod' _ _) (Nat.mod_lt _ (by omega)) hz),rfl⟩ ?_;rintro m_2 ac2 _ ⟨_,d,r,l4,L121,R4,hD,hr,hdl,hu,m2⟩;refine wp_block<|wA<|sm L121 rfl<|Sm rfl<|So rfl<|Zi rfl ent_139 (Zat R4.holds (x:=d) (y:=wl) hdl (by omega)) λv_3 S5 _ x3 v3=>?_;have R5:=R4.call x3;have l5:=x3.le;obtain rfl:=v3;intro _ L126;refine sm L126 rfl<|So rfl<|Zj rfl rfl<|So rfl<|Zj rfl rfl<|Sa rfl<|Sa rfl<|SVv<|Sm rfl<|Sm rfl λ_ L133=>?_;by_cases t8:((d*wl/18446744073709551616:Nat):Int)<(r:Int);exact sO L133 rfl<|cT t8 (Zs rfl rfl)<|Sm rfl<|Sf rfl<|Sf rfl<|Sf rfl<|Sf rfl λ_ L139=>ZY L139 rfl rfl rfl rfl rfl λ_ L140=>ZY L140 rfl rfl rfl rfl rfl λ_ L141=>ZY L141 rfl rfl rfl rfl rfl<|Sf rfl<|So rfl<|Ze rfl rfl<|kP [2,3,4,10,11,12,37,38,39,36,40,41,14,15,42,43,44,45,54] rfl<|ST rfl<|WA<|Sm rfl<|Sa rfl λ_ L147=>sn<|wp_ret<|Zt<|YE<|Zt<|YE<|rt L147 (.tmp rfl Res.nil)<|⟨_,_,rfl,R5.ext,⟨d,rfl,(by omega),(by exact Zcf hD (by omega)),hu⟩⟩;refine sO L133 rfl<|cF t8 (Zs rfl rfl)<|Sm rfl<|Sn rfl<|Zd rfl<|Sn rfl<|Zd rfl λ_ L151=>?_;by_cases t9:((d*wl/18446744073709551616:Nat):Int)=(r:Int);refine sN L151 rfl<|cT t9 (ZP rfl rfl)<|Sn rfl<|Zd rfl<|Sn rfl<|Zd rfl<|Sn rfl<|Zd rfl λ_ L155=>?_;by_cases t10:((d*wl%18446744073709551616:Nat):Int)<=(z:Int);exact sN L155 rfl<|cT t10 (QX rfl rfl)<|Sn rfl<|Ze rfl rfl<|So rfl<|Ze rfl rfl<|ST rfl<|WA<|Sm rfl<|Sa rfl λ_ L160=>sn<|wp_ret<|Zt<|YE<|Zt<|YE<|rt L160 (.tmp rfl Res.nil)<|⟨_,_,rfl,R5.ext,⟨d,rfl,(by omega),(by exact Zcf hD (by omega)),hu⟩⟩;refine sN L155 rfl<|cF t10 (QX rfl rfl)<|Sn rfl<|Ze rfl rfl<|So rfl<|Ze rfl rfl<|SF rfl λ_ L163=>wp_skip<|Zc<|wp_seq ?_;have hor:r*18446744073709551616+z<d*wl:=by omega
 obtain⟨hd0,hD',hu'⟩:=dq_step2 hD hor;refine Za<|sm L163 rfl<|So rfl<|ZO rfl rfl Zav<|Sa rfl<|SW<|Sa rfl<|SW<|Sm rfl<|Sm rfl λ_ L169=>so L169 rfl<|Xh (x:=r) (y:=vh) (c:=0) L169 rfl (by omega)<|Sm rfl<|So rfl<|Zj rfl rfl<|So rfl<|Zj rfl rfl<|Sa rfl<|Sa rfl<|SW<|Sm rfl λ_ L176=>?_;by_cases t11:¬(((r+vh+0)/18446744073709551616:Nat):Int)=(0:Int);exact sO L176 rfl<|cT t11 (Yn rfl rfl)<|ST rfl<|WA<|Sm rfl<|Sa rfl λ_ L179=>sn<|wp_ret<|YE<|Zt<|YE<|rt L179 (.tmp rfl Res.nil)<|⟨_,_,rfl,R5.ext,⟨(d-1),(by exact Zdb (by omega)),(by omega),(by exact QW hD' hw (by omega) (by omega)),(by exact Or.inl hu')⟩⟩;exact sO L176 rfl<|cF t11 (Yn rfl rfl)<|SF rfl λ_ L180=>wp_skip<|Zx<|Zc<|⟨(d-1),(by omega),S5,(d-1),((r+vh+0)%18446744073709551616),(l4.trans l5),(((L180.ri 11 (((d-1):Nat):Int) rfl).a ((L180.ri 12 ((((r+vh+0)%18446744073709551616):Nat):Int) rfl).a L180)).kp [12,11,10,4,3,2] rfl),R5,(by rw[show(r+vh+0)%18446744073709551616=r+vh by omega];exact hD'),(by omega),(by omega),(by exact Or.inl hu'),rfl⟩;refine sN L151 rfl<|cF t9 (ZP rfl rfl)<|Sn rfl<|Zd rfl<|Sf rfl<|Sf rfl<|Sf rfl<|Sn rfl<|Ze rfl rfl<|So rfl<|Ze rfl rfl<|SF rfl λ_ L189=>wp_skip<|Zc<|wp_seq ?_;have hor:r*18446744073709551616+z<d*wl:=by omega
 obtain⟨hd0,hD',hu'⟩:=dq_step2 hD hor;refine Za<|sm L189 rfl<|So rfl<|ZO rfl rfl Zav<|Sa rfl<|SW<|Sa rfl<|SW<|Sm rfl<|Sm rfl λ_ L195=>so L195 rfl<|Xh (x:=r) (y:=vh) (c:=0) L195 rfl (by omega)<|Sm rfl<|So rfl<|Zj rfl rfl<|So rfl<|Zj rfl rfl<|Sa rfl<|Sa rfl<|SW<|Sm rfl λ_ L202=>?_;by_cases t12:¬(((r+vh+0)/18446744073709551616:Nat):Int)=(0:Int);exact sO L202 rfl<|cT t12 (Yn rfl rfl)<|ST rfl<|WA<|Sm rfl<|Sa rfl λ_ L205=>sn<|wp_ret<|YE<|Zt<|YE<|rt L205 (.tmp rfl Res.nil)<|⟨_,_,rfl,R5.ext,⟨(d-1),(by exact Zdb (by omega)),(by omega),(by exact QW hD' hw (by omega) (by omega)),(by exact Or.inl hu')⟩⟩;exact sO L202 rfl<|cF t12 (Yn rfl rfl)<|SF rfl λ_ L206=>wp_skip<|Zx<|Zc<|⟨(d-1),(by omega),S5,(d-1),((r+vh+0)%18446744073709551616),(l4.trans l5),(((L206.ri 11 (((d-1):Nat):Int) rfl).a ((L206.ri 12 ((((r+vh+0)%18446744073709551616):Nat):Int) rfl).a L206)).kp [12,11,10,4,3,2] rfl),R5,(by rw[show(r+vh+0)%18446744073709551616=r+vh by omega];exact hD'),(by omega),(by omega),(by exact Or.inl hu'),rfl⟩
theorem nat_up{S:Sh}{w:World}(hS:ZV S w){p_d:Option Addr}{len_d cap_d:Nat}{d:List Nat}(hd_d:Dg S p_d len_d cap_d d){n:Nat}{sz:Nat}(hn:n<64)(hm:len_d<=sz)(hm2:sz<=1099511627776):Calls prog 163 [(.slice p_d len_d cap_d),(.int .i64 ((n:Nat):Int)),(.int .i64 ((sz:Nat):Int))].toArray w (RetN S w (λS v H=>∃(b:Nat)(ds:List Nat),H=[(b,tU64,YD ds++[])]/\v= .slice (some ⟨b,0,none⟩) sz (sz)/\ds.length=sz/\(∀e∈ds,e<18446744073709551616)/\val W64 ds+W64^sz*cr d n sz=val W64 d*2^n)):=by
 refine cbd hS (n:=57) func163 rfl λ_ L0 R0=>?_;have hl_d:=hd_d.hlen;have hc_d:=hd_d.hcap;have hg_d:=hd_d.hbig;refine wA<|sa L0 rfl<|SW<|Sm rfl<|So rfl<|XB (m:=sz) (c:=sz) (by first|rfl|(simp[ev,Zad];omega)) (by first|rfl|(simp[ev,Zad];omega)) underlying30 Zah rfl ZG Zbp (by omega) (by omega) (by omega) R0 λb1 _ R1 _ L3=>?_;rw[Zfq] at R1;refine sa L3 rfl<|SVv<|Sm rfl<|So rfl<|Zz rfl underlying30<|Sm rfl λ_ L7=>sn<|wp_block<|ZJ (λm ac ww=>∃(S':Sh)(us:List Nat)(i:Nat),S.le S'/\ZD ac 57 [(0,(.slice p_d len_d cap_d)),(1,(.int .i64 ((n:Nat):Int))),(6,(.slice none 0 0)),(7,(.slice (some ⟨b1,0,none⟩) sz sz)),(12,(.int .i64 (((sz):Nat):Int))),(13,(.int .i64 ((i:Nat):Int)))]/\Run S w S' [(b1,29,(YD us++[]))] ww/\(Zic d us n sz i)/\m=sz-i) (sz-0) ⟨S,(List.replicate sz 0),0,Sh.le.refl _,(((L7.ri 13 ((0:Nat):Int) rfl).a L7).kp [13,12,7,6,1,0] rfl),R1,Zic.start,rfl⟩ ?_;rintro m_1 ac1 _ ⟨S1,us,i,l1,L8,R2,hI,m1⟩;refine wp_seq<|Za ?_;by_cases t1:(i:Int)<(((sz):Nat):Int);refine sO L8 rfl<|cT t1 (Zs rfl rfl) λ_ L10=>sn<|wp_seq<|Zl L10 rfl rfl<|wp_skip<|Zc<|wp_seq<|wp_block<|wp_seq ?_;have hIl:=hI.len;have hIe:=hI.le;refine Za<|sm L10 rfl<|Sa rfl<|SVv<|Sm rfl<|Sm rfl<|So rfl<|Zz rfl underlying30 λ_ L15=>?_;by_cases t2:(i:Int)<(len_d:Int);refine sO L15 rfl<|cT t2 (Zs rfl rfl)<|ST rfl λ_ L16=>Za<|sm L16 rfl<|Sm rfl<|Sm rfl<|Sm rfl λ_ L20=>?_;obtain⟨b2,rest_1,rfl,r1⟩:=(hd_d.up l1).row (by omega);refine sO L20 rfl<|Zr i rfl rfl underlying30 ZG (by omega) (by omega)<|So rfl<|Zk (v:=(.int .u64 ((d.getD i 0:Nat):Int))) rfl YB (R2.row r1) (by rw[Nat.zero_add];exact Yj (by omega))<|Sm rfl<|So rfl<|Zdg (i:=(d.getD i 0)) (s:=n) rfl rfl (by omega)<|So rfl<|Zr i rfl rfl underlying30 ZG (by omega) (by omega)<|Sz rfl<|Yo (cs':=(YD (us.set i ((d.getD i 0)*2^n%18446744073709551616))++[])) rfl rfl R2 ZG rfl (by simp only[List.length_append,ZN];omega) (by rw[Nat.zero_add];exact Xs (by omega)) λ_ R3=>SW<|Sm rfl λ_ L27=>?_;by_cases t3:(0:Int)<(i:Int);refine sO L27 rfl<|cT t3 (ZF rfl rfl)<|Sm rfl<|Sn rfl<|Zd rfl<|Sn rfl<|Zd rfl<|Sn rfl<|Zz rfl underlying30 λ_ L32=>?_;have t4:(i:Int)<=(len_d:Int):=by omega
 refine sN L32 rfl<|cT t4 (QX rfl rfl)<|So rfl<|Ze rfl rfl<|Sm rfl<|Sn rfl<|Zd rfl λ_ L36=>?_;by_cases t5:(0:Int)<(n:Int);refine sN L36 rfl<|cT t5 (ZF rfl rfl)<|So rfl<|Ze rfl rfl λ_ L38=>sn<|Zl L38 rfl rfl ?_;have L39:=(L38.kp [0,1,6,7,12,13,14,15,8,16,17,18,19,20,21,22,23,24,25,26,27,28,29,30,31,32,33,34,35,36,37,38,39,40] rfl);refine Zw (E0:=[]) (H0:=[(b1,29,(YD (us.set i ((d.getD i 0)*2^n%18446744073709551616))++[]))]) (n:=57) mixed 12 [] (λk=>0) (Zcn [.is (.slice (some ⟨b1,0,none⟩) sz sz),.is (.int .i64 (i:Int)),.is (.pointer (some ⟨b1,(0+(i)),none⟩)),.is (.int .u64 (((us.set i ((d.getD i 0)*2^n%18446744073709551616)).getD i 0:Nat):Int)),.is (.slice (some ⟨b2,0,none⟩) len_d cap_d),.is (.int .i64 (i:Int)),.is (.int .i64 ((i:Int)-(1:Int))),.is (.pointer (some ⟨b2,(0+(i-1)),none⟩)),.is (.int .u64 ((d.getD (i-1) 0:Nat):Int)),.is (.int .i64 (n:Int)),.is (.int .i64 ((64-n:Nat):Int)),.is (.int .u64 (((d.getD (i-1) 0)/2^(64-n):Nat):Int))]) L39 R3 (by simp) (by simp) (by rfl) (by rfl) (by simp) (ZU ?_) ?_;refine(Al ?_ ?_ ?_ ?_<|Am ?_ ?_ ?_ ?_ ?_ ?_ ?_ ?_ trivial);exact dm [] rfl;exact dm [] rfl;exact dK [0,1] rfl λA=>Zr i rfl rfl underlying30 ZG (by omega) (by omega)<|A.same rfl;exact dK [2] rfl λA=>Zk (v:=(.int .u64 (((us.set i ((d.getD i 0)*2^n%18446744073709551616)).getD i 0:Nat):Int))) rfl YB (A.run.has<|List.mem_append_right _<|List.Mem.head _) (by rw[Nat.zero_add];exact Yj (by first|omega|(simp only[List.length_set];omega)))<|A.same rfl;exact dm [] rfl;exact dm [] rfl;exact dK [5] rfl λA=>ZO (z:=((i:Int)-(1:Int))) rfl rfl Xd<|A.same rfl;exact dK [4,6] rfl λA=>Zr (i-1) rfl rfl underlying30 ZG (by omega) (by omega)<|A.same rfl;exact dK [7] rfl λA=>Zk (v:=(.int .u64 ((d.getD (i-1) 0:Nat):Int))) rfl YB (A.run.row<|r1.up A.le) (by rw[Nat.zero_add];exact Yj (by omega))<|A.same rfl;exact dm [] rfl;exact dK [9] rfl λA=>ZO (z:=((64-n:Nat):Int)) rfl rfl (i64_to (by omega) (by omega))<|A.same rfl;exact dK [8,10] rfl λA=>Zam (i:=(d.getD (i-1) 0)) (s:=(64-n)) rfl rfl (by omega)<|A.same rfl;intro S14 _ _ w16 l2 E1 R4 n1 L52 K1;have L64:=L52.dr K1 [0,1,2,3,4,5,6,7,8,9,10,11] rfl;have R5:Run _ _ S14 [(b1,29,(YD (us.set i ((d.getD i 0)*2^n%18446744073709551616))++[]))] w16:=Yb R4 n1 [] (by simp) (by simp);exact sO L64 rfl<|Zhx (i:=((us.set i ((d.getD i 0)*2^n%18446744073709551616)).getD i 0)) (j:=((d.getD (i-1) 0)/2^(64-n))) (z:=d.getD i 0*2^n%18446744073709551616+cr d n i) rfl rfl (by first|exact ZT (Zct hI.lt<|Nat.mod_lt _ (by decide)) (by decide) _|exact ZT hI.lt (by decide) _) (by exact Nat.lt_of_le_of_lt (Nat.div_le_self _ _)<|ZT hd_d.hlt (by decide) _) (by first|exact up_or1 hn hd_d.hlt (by omega) (by omega)|exact up_or0 hI (by omega) (by omega))<|So rfl<|Zr i rfl rfl underlying30 ZG (by omega) (by omega)<|Sz rfl<|Yo (cs':=(YD ((us.set i ((d.getD i 0)*2^n%18446744073709551616)).set i (d.getD i 0*2^n%18446744073709551616+cr d n i))++[])) rfl rfl R5 ZG rfl (by simp only[List.length_append,ZN];first|omega|(simp only[List.length_set];omega)) (by rw[Nat.zero_add];exact Xs (by first|omega|(simp only[List.length_set];omega))) λ_ R6=>SY<|So rfl<|Zy rfl rfl Xd<|Sm rfl λ_ L69=>sn<|⟨sz-(i+1),(by omega),S14,((us.set i ((d.getD i 0)*2^n%18446744073709551616)).set i (d.getD i 0*2^n%18446744073709551616+cr d n i)),(i+1),(l1.trans l2),(((L69.ri 13 (((i+1):Nat):Int) rfl).a L69).kp [13,12,7,6,1,0] rfl),R6,(by first|exact hI.step' hn hd_d.hlt (by omega) rfl|exact hI.step' hn hd_d.hlt (by omega) List.set_set|exact hI.step' hn hd_d.hlt (by omega) (List.set_set ..)|exact hI.step' hn hd_d.hlt (by omega) (Zdu hd_d.hlt (by omega))|exact hI.step' hn hd_d.hlt (by omega)<|Zdv hI (by omega) hd_d.hlt (by omega) (by omega)),rfl⟩;exact sN L36 rfl<|cF t5 (ZF rfl rfl)<|So rfl<|Ze rfl rfl<|SF rfl λ_ L72=>wp_skip<|Zx<|Zc<|Za<|sO L72 rfl<|Zy rfl rfl Xd<|Sm rfl λ_ L74=>sn<|⟨sz-(i+1),(by omega),S1,(us.set i ((d.getD i 0)*2^n%18446744073709551616)),(i+1),l1,(((L74.ri 13 (((i+1):Nat):Int) rfl).a L74).kp [13,12,7,6,1,0] rfl),R3,(by first|exact hI.step' hn hd_d.hlt (by omega) rfl|exact hI.step' hn hd_d.hlt (by omega) List.set_set|exact hI.step' hn hd_d.hlt (by omega) (List.set_set ..)|exact hI.step' hn hd_d.hlt (by omega) (Zdu hd_d.hlt (by omega))|exact hI.step' hn hd_d.hlt (by omega)<|Zdv hI (by omega) hd_d.hlt (by omega) (by omega)),rfl⟩;exact sO L27 rfl<|cF t3 (ZF rfl rfl)<|Sm rfl<|Sf rfl<|Sf rfl<|Sf rfl<|Sf rfl<|So rfl<|Ze rfl rfl<|Sm rfl<|Sf rfl<|Sf rfl<|So rfl<|Ze rfl rfl<|kP [0,1,6,7,12,13,14,15,8,16,17,18,19,20,21,22,23,24,25,26,27,28,29,30,31,36,37,40] rfl<|SF rfl λ_ L87=>wp_skip<|Zx<|Zc<|Za<|sO L87 rfl<|Zy rfl rfl Xd<|Sm rfl λ_ L89=>sn<|⟨sz-(i+1),(by omega),S1,(us.set i ((d.getD i 0)*2^n%18446744073709551616)),(i+1),l1,(((L89.ri 13 (((i+1):Nat):Int) rfl).a L89).kp [13,12,7,6,1,0] rfl),R3,(by first|exact hI.step' hn hd_d.hlt (by omega) rfl|exact hI.step' hn hd_d.hlt (by omega) List.set_set|exact hI.step' hn hd_d.hlt (by omega) (List.set_set ..)|exact hI.step' hn hd_d.hlt (by omega) (Zdu hd_d.hlt (by omega))|exact hI.step' hn hd_d.hlt (by omega)<|Zdv hI (by omega) hd_d.hlt (by omega) (by omega)),rfl⟩;refine sO L15 rfl<|cF t2 (Zs rfl rfl)<|SF rfl λ_ L91=>wp_skip<|Zc<|wA<|sm L91 rfl λ_ L92=>?_;by_cases t6:(0:Int)<(i:Int);refine sO L92 rfl<|cT t6 (ZF rfl rfl)<|Sm rfl<|Sn rfl<|Zd rfl<|Sn rfl<|Zd rfl<|Sn rfl<|Zz rfl underlying30 λ_ L97=>?_;by_cases t7:(i:Int)<=(len_d:Int);refine sN L97 rfl<|cT t7 (QX rfl rfl)<|So rfl<|Ze rfl rfl<|Sm rfl<|Sn rfl<|Zd rfl λ_ L101=>?_;by_cases t8:(0:Int)<(n:Int);refine sN L101 rfl<|cT t8 (ZF rfl rfl)<|So rfl<|Ze rfl rfl λ_ L103=>sn<|Zl L103 rfl rfl ?_;obtain⟨b3,rest_2,rfl,r2⟩:=(hd_d.up l1).row (by omega);have L104:=(L103.kp [0,1,6,7,12,13,14,15,8,16,17,18,19,29,30,31,32,33,34,35,36,37,38,39,40] rfl);refine Zw (E0:=[]) (H0:=[(b1,29,(YD us++[]))]) (n:=57) mixed 12 [] (λk=>0) (Zcn [.is (.slice (some ⟨b1,0,none⟩) sz sz),.is (.int .i64 (i:Int)),.is (.pointer (some ⟨b1,(0+(i)),none⟩)),.is (.int .u64 ((us.getD i 0:Nat):Int)),.is (.slice (some ⟨b3,0,none⟩) len_d cap_d),.is (.int .i64 (i:Int)),.is (.int .i64 ((i:Int)-(1:Int))),.is (.pointer (some ⟨b3,(0+(i-1)),none⟩)),.is (.int .u64 ((d.getD (i-1) 0:Nat):Int)),.is (.int .i64 (n:Int)),.is (.int .i64 ((64-n:Nat):Int)),.is (.int .u64 (((d.getD (i-1) 0)/2^(64-n):Nat):Int))]) L104 R2 (by simp) (by simp) (by rfl) (by rfl) (by simp) (ZU ?_) ?_;refine(Al ?_ ?_ ?_ ?_<|Am ?_ ?_ ?_ ?_ ?_ ?_ ?_ ?_ trivial);exact dm [] rfl;exact dm [] rfl;exact dK [0,1] rfl λA=>Zr i rfl rfl underlying30 ZG (by omega) (by omega)<|A.same rfl;exact dK [2] rfl λA=>Zk (v:=(.int .u64 ((us.getD i 0:Nat):Int))) rfl YB (A.run.has<|List.mem_append_right _<|List.Mem.head _) (by rw[Nat.zero_add];exact Yj (by first|omega|(simp only[List.length_set];omega)))<|A.same rfl;exact dm [] rfl;exact dm [] rfl;exact dK [5] rfl λA=>ZO (z:=((i:Int)-(1:Int))) rfl rfl Xd<|A.same rfl;exact dK [4,6] rfl λA=>Zr (i-1) rfl rfl underlying30 ZG (by omega) (by omega)<|A.same rfl;exact dK [7] rfl λA=>Zk (v:=(.int .u64 ((d.getD (i-1) 0:Nat):Int))) rfl YB (A.run.row<|r2.up A.le) (by rw[Nat.zero_add];exact Yj (by omega))<|A.same rfl;exact dm [] rfl;exact dK [9] rfl λA=>ZO (z:=((64-n:Nat):Int)) rfl rfl (i64_to (by omega) (by omega))<|A.same rfl;exact dK [8,10] rfl λA=>Zam (i:=(d.getD (i-1) 0)) (s:=(64-n)) rfl rfl (by omega)<|A.same rfl;intro S27 _ _ w30 l3 E2 R7 n2 L117 K2;have L129:=L117.dr K2 [0,1,2,3,4,5,6,7,8,9,10,11] rfl;have R8:Run _ _ S27 [(b1,29,(YD us++[]))] w30:=Yb R7 n2 [] (by simp) (by simp);exact sO L129 rfl<|Zhx (i:=(us.getD i 0)) (j:=((d.getD (i-1) 0)/2^(64-n))) (z:=d.getD i 0*2^n%18446744073709551616+cr d n i) rfl rfl (by first|exact ZT (Zct hI.lt<|Nat.mod_lt _ (by decide)) (by decide) _|exact ZT hI.lt (by decide) _) (by exact Nat.lt_of_le_of_lt (Nat.div_le_self _ _)<|ZT hd_d.hlt (by decide) _) (by first|exact up_or1 hn hd_d.hlt (by omega) (by omega)|exact up_or0 hI (by omega) (by omega))<|So rfl<|Zr i rfl rfl underlying30 ZG (by omega) (by omega)<|Sz rfl<|Yo (cs':=(YD (us.set i (d.getD i 0*2^n%18446744073709551616+cr d n i))++[])) rfl rfl R8 ZG rfl (by simp only[List.length_append,ZN];first|omega|(simp only[List.length_set];omega)) (by rw[Nat.zero_add];exact Xs (by first|omega|(simp only[List.length_set];omega))) λ_ R9=>SY<|So rfl<|Zy rfl rfl Xd<|Sm rfl λ_ L134=>sn<|⟨sz-(i+1),(by omega),S27,(us.set i (d.getD i 0*2^n%18446744073709551616+cr d n i)),(i+1),(l1.trans l3),(((L134.ri 13 (((i+1):Nat):Int) rfl).a L134).kp [13,12,7,6,1,0] rfl),R9,(by first|exact hI.step' hn hd_d.hlt (by omega) rfl|exact hI.step' hn hd_d.hlt (by omega) List.set_set|exact hI.step' hn hd_d.hlt (by omega) (List.set_set ..)|exact hI.step' hn hd_d.hlt (by omega) (Zdu hd_d.hlt (by omega))|exact hI.step' hn hd_d.hlt (by omega)<|Zdv hI (by omega) hd_d.hlt (by omega) (by omega)),rfl⟩;exact sN L101 rfl<|cF t8 (ZF rfl rfl)<|So rfl<|Ze rfl rfl<|SF rfl λ_ L137=>wp_skip<|Zx<|Zc<|Za<|sO L137 rfl<|Zy rfl rfl Xd<|Sm rfl λ_ L139=>sn<|⟨sz-(i+1),(by omega),S1,us,(i+1),l1,(((L139.ri 13 (((i+1):Nat):Int) rfl).a L139).kp [13,12,7,6,1,0] rfl),R2,(by first|exact hI.step' hn hd_d.hlt (by omega) rfl|exact hI.step' hn hd_d.hlt (by omega) List.set_set|exact hI.step' hn hd_d.hlt (by omega) (List.set_set ..)|exact hI.step' hn hd_d.hlt (by omega) (Zdu hd_d.hlt (by omega))|exact hI.step' hn hd_d.hlt (by omega)<|Zdv hI (by omega) hd_d.hlt (by omega) (by omega)),rfl⟩;exact sN L97 rfl<|cF t7 (QX rfl rfl)<|So rfl<|Ze rfl rfl<|Sm rfl<|Sf rfl<|Sf rfl<|So rfl<|Ze rfl rfl<|SF rfl λ_ L146=>wp_skip<|Zx<|Zc<|Za<|sO L146 rfl<|Zy rfl rfl Xd<|Sm rfl λ_ L148=>sn<|⟨sz-(i+1),(by omega),S1,us,(i+1),l1,(((L148.ri 13 (((i+1):Nat):Int) rfl).a L148).kp [13,12,7,6,1,0] rfl),R2,(by first|exact hI.step' hn hd_d.hlt (by omega) rfl|exact hI.step' hn hd_d.hlt (by omega) List.set_set|exact hI.step' hn hd_d.hlt (by omega) (List.set_set ..)|exact hI.step' hn hd_d.hlt (by omega) (Zdu hd_d.hlt (by omega))|exact hI.step' hn hd_d.hlt (by omega)<|Zdv hI (by omega) hd_d.hlt (by omega) (by omega)),rfl⟩;exact sO L92 rfl<|cF t6 (ZF rfl rfl)<|Sm rfl<|Sf rfl<|Sf rfl<|Sf rfl<|Sf rfl<|So rfl<|Ze rfl rfl<|Sm rfl<|Sf rfl<|Sf rfl<|So rfl<|Ze rfl rfl<|kP [0,1,6,7,12,13,14,15,8,16,17,18,19,29,30,31,36,37,40] rfl<|SF rfl λ_ L161=>wp_skip<|Zx<|Zc<|Za<|sO L161 rfl<|Zy rfl rfl Xd<|Sm rfl λ_ L163=>sn<|⟨sz-(i+1),(by omega),S1,us,(i+1),l1,(((L163.ri 13 (((i+1):Nat):Int) rfl).a L163).kp [13,12,7,6,1,0] rfl),R2,(by first|exact hI.step' hn hd_d.hlt (by omega) rfl|exact hI.step' hn hd_d.hlt (by omega) List.set_set|exact hI.step' hn hd_d.hlt (by omega) (List.set_set ..)|exact hI.step' hn hd_d.hlt (by omega) (Zdu hd_d.hlt (by omega))|exact hI.step' hn hd_d.hlt (by omega)<|Zdv hI (by omega) hd_d.hlt (by omega) (by omega)),rfl⟩;refine sO L8 rfl<|cF t1 (Zs rfl rfl) λ_ L165=>sn<|wp_seq<|Zh L165 rfl rfl<|wp_exit<|Zo<|Zo<|Yl<|Zc<|wp_seq ?_;have hIl:=hI.len;have hIe:=hI.le;exact Za<|sm L165 rfl<|Sa rfl λ_ L167=>sn<|wp_ret<|rt (L167.kp [6] rfl) (.tmp rfl Res.nil)<|⟨_,S1,_,rfl,R2,b1,us,rfl,by rfl,by exact hI.len,by exact hI.lt,by exact hI.done (by omega) (by omega)⟩
theorem nat_down{S:Sh}{w:World}(hS:ZV S w){p_d:Option Addr}{len_d cap_d:Nat}{d:List Nat}(hd_d:Dg S p_d len_d cap_d d){n:Nat}{k:Nat}(hn:n<64)(hk:val W64 d/2^n<=2^k)(hm2:len_d<=1099511627776):Calls prog 167 [(.slice p_d len_d cap_d),(.int .i64 ((n:Nat):Int))].toArray w (Ret S w (λS v=>∃(c0:List Value),v= .agg c0.toArray/\Na S c0 (val W64 d/2^n) k)):=by
 refine cbd hS (n:=50) func167 rfl λ_ L0 R0=>?_;have hl_d:=hd_d.hlen;have hc_d:=hd_d.hcap;have hg_d:=hd_d.hbig;refine wA<|sO L0 rfl<|ZK (cs:=zN1) ZZ R0 rfl λb1 _ R1=>SW<|Sm rfl<|So rfl<|Zz rfl underlying30<|So rfl<|XB (m:=len_d) (c:=len_d) (by first|rfl|(simp[ev,Zad];omega)) (by first|rfl|(simp[ev,Zad];omega)) underlying30 Zah rfl ZG Zbp (by omega) (by omega) (by omega) R1 λb2 _ R2 _ L4=>?_;rw[Zfq] at R2;refine sa L4 rfl<|SVv<|Sm rfl<|So rfl<|Zz rfl underlying30<|Sm rfl λ_ L8=>sn<|wp_block<|ZJ (λm ac ww=>∃(S':Sh)(us:List Nat)(i:Nat),S.le S'/\ZD ac 50 [(0,(.slice p_d len_d cap_d)),(1,(.int .i64 ((n:Nat):Int))),(4,(.pointer (some ⟨b1,0,none⟩))),(5,(.slice (some ⟨b2,0,none⟩) len_d len_d)),(11,(.int .i64 ((len_d:Nat):Int))),(12,(.int .i64 ((i:Nat):Int)))]/\Run S w S' [(b2,29,(YD us++[])),(b1,32,zN1)] ww/\(Zeo d us n i)/\m=d.length-i) (d.length-0) ⟨S,(List.replicate len_d 0),0,Sh.le.refl _,(((L8.ri 12 ((0:Nat):Int) rfl).a L8).kp [12,11,5,4,1,0] rfl),(Yd<|Yd R2),(by rw[<-hl_d];exact Zeo.start),rfl⟩ ?_;rintro m_1 ac1 _ ⟨S1,us,i,l1,L9,R3,hI,m1⟩;refine wp_seq<|Za ?_;by_cases t1:(i:Int)<(len_d:Int);refine sO L9 rfl<|cT t1 (Zs rfl rfl) λ_ L11=>sn<|wp_seq<|Zl L11 rfl rfl<|wp_skip<|Zc<|wp_seq<|wp_block<|wp_seq ?_;have hIl:=hI.len;have hIe:=hI.le;refine Za<|sm L11 rfl<|Sa rfl<|SW<|Sm rfl<|Sm rfl<|Sm rfl<|Sm rfl λ_ L17=>?_;obtain⟨b3,rest_1,rfl,r1⟩:=(hd_d.up l1).row (by omega);refine sO L17 rfl<|Zr i rfl rfl underlying30 ZG (by omega) (by omega)<|So rfl<|Zk (v:=(.int .u64 ((d.getD i 0:Nat):Int))) rfl YB (R3.row r1) (by rw[Nat.zero_add];exact Yj (by omega))<|Sm rfl<|So rfl<|Zam (i:=(d.getD i 0)) (s:=n) rfl rfl (by omega)<|So rfl<|Zr i rfl rfl underlying30 ZG (by omega) (by omega)<|Sz rfl<|Yo (cs':=(YD (us.set i ((d.getD i 0)/2^n))++[])) rfl rfl R3 ZG rfl (by simp only[List.length_append,ZN];omega) (by rw[Nat.zero_add];exact Xs (by omega)) λ_ R4=>SW<|Sm rfl<|So rfl<|Zy rfl rfl Xd<|Sm rfl<|So rfl<|Zz rfl underlying30 λ_ L27=>?_;by_cases t2:((i:Int)+(1:Int))<(len_d:Int);refine sO L27 rfl<|cT t2 (Zs rfl rfl)<|Sm rfl<|Sn rfl<|Zd rfl λ_ L30=>?_;by_cases t3:(0:Int)<(n:Int);refine sN L30 rfl<|cT t3 (ZF rfl rfl)<|So rfl<|Ze rfl rfl λ_ L32=>sn<|Zl L32 rfl rfl ?_;have L33:=(L32.kp [0,1,4,5,11,12,13,14,6,15,16,17,18,19,20,21,22,23,24,25,26,27,28,29,30,31,32] rfl);refine Zw (E0:=[]) (H0:=[(b2,29,(YD (us.set i ((d.getD i 0)/2^n))++[])),(b1,32,zN1)]) (n:=50) mixed 12 [] (λk=>0) (Zcn [.is (.slice (some ⟨b2,0,none⟩) len_d len_d),.is (.int .i64 (i:Int)),.is (.pointer (some ⟨b2,(0+(i)),none⟩)),.is (.int .u64 (((us.set i ((d.getD i 0)/2^n)).getD i 0:Nat):Int)),.is (.slice (some ⟨b3,0,none⟩) len_d cap_d),.is (.int .i64 (i:Int)),.is (.int .i64 ((i:Int)+(1:Int))),.is (.pointer (some ⟨b3,(0+(i+1)),none⟩)),.is (.int .u64 ((d.getD (i+1) 0:Nat):Int)),.is (.int .i64 (n:Int)),.is (.int .i64 ((64-n:Nat):Int)),.is (.int .u64 (((d.getD (i+1) 0)*2^(64-n)%18446744073709551616:Nat):Int))]) L33 R4 (by simp) (by simp) (by rfl) (by rfl) (by simp) (ZU ?_) ?_;refine(Al ?_ ?_ ?_ ?_<|Am ?_ ?_ ?_ ?_ ?_ ?_ ?_ ?_ trivial);exact dm [] rfl;exact dm [] rfl;exact dK [0,1] rfl λA=>Zr i rfl rfl underlying30 ZG (by omega) (by omega)<|A.same rfl;exact dK [2] rfl λA=>Zk (v:=(.int .u64 (((us.set i ((d.getD i 0)/2^n)).getD i 0:Nat):Int))) rfl YB (A.run.has<|List.mem_append_right _<|List.Mem.head _) (by rw[Nat.zero_add];exact Yj (by first|omega|(simp only[List.length_set];omega)))<|A.same rfl;exact dm [] rfl;exact dm [] rfl;exact dK [5] rfl λA=>Zy (z:=((i:Int)+(1:Int))) rfl rfl Xd<|A.same rfl;exact dK [4,6] rfl λA=>Zr (i+1) rfl rfl underlying30 ZG (by omega) (by omega)<|A.same rfl;exact dK [7] rfl λA=>Zk (v:=(.int .u64 ((d.getD (i+1) 0:Nat):Int))) rfl YB (A.run.row<|r1.up A.le) (by rw[Nat.zero_add];exact Yj (by omega))<|A.same rfl;exact dm [] rfl;exact dK [9] rfl λA=>ZO (z:=((64-n:Nat):Int)) rfl rfl (i64_to (by omega) (by omega))<|A.same rfl;exact dK [8,10] rfl λA=>Zdg (i:=(d.getD (i+1) 0)) (s:=(64-n)) rfl rfl (by omega)<|A.same rfl;intro S14 _ _ w17 l2 E1 R5 n1 L46 K1;have L58:=L46.dr K1 [0,1,2,3,4,5,6,7,8,9,10,11] rfl;have R6:Run _ _ S14 [(b2,29,(YD (us.set i ((d.getD i 0)/2^n))++[])),(b1,32,zN1)] w17:=Yb R5 n1 [] (by simp) (by simp);exact sO L58 rfl<|Zhx (i:=((us.set i ((d.getD i 0)/2^n)).getD i 0)) (j:=((d.getD (i+1) 0)*2^(64-n)%18446744073709551616)) (z:=d.getD i 0/2^n+2^(64-n)*(d.getD (i+1) 0%2^n)) rfl rfl (by exact ZT (Zct hI.lt<|Nat.lt_of_le_of_lt (Nat.div_le_self _ _)<|ZT hd_d.hlt (by decide) _) (by decide) _) (by exact Nat.mod_lt _ (by decide)) (by exact down_or1 hn hd_d.hlt (by omega))<|So rfl<|Zr i rfl rfl underlying30 ZG (by omega) (by omega)<|Sz rfl<|Yo (cs':=(YD ((us.set i ((d.getD i 0)/2^n)).set i (d.getD i 0/2^n+2^(64-n)*(d.getD (i+1) 0%2^n)))++[])) rfl rfl R6 ZG rfl (by simp only[List.length_append,ZN];first|omega|(simp only[List.length_set];omega)) (by rw[Nat.zero_add];exact Xs (by first|omega|(simp only[List.length_set];omega))) λ_ R7=>SY<|So rfl<|Zy rfl rfl Xd<|Sm rfl λ_ L63=>sn<|⟨d.length-(i+1),(by omega),S14,((us.set i ((d.getD i 0)/2^n)).set i (d.getD i 0/2^n+2^(64-n)*(d.getD (i+1) 0%2^n))),(i+1),(l1.trans l2),(((L63.ri 12 (((i+1):Nat):Int) rfl).a L63).kp [12,11,5,4,1,0] rfl),(Yd<|Yd R7),(by first|exact hI.step hn hd_d.hlt (by omega) List.set_set|exact hI.step hn hd_d.hlt (by omega) (List.set_set ..)|exact hI.step hn hd_d.hlt (by omega)<|down_case0 (by omega)),rfl⟩;exact sN L30 rfl<|cF t3 (ZF rfl rfl)<|So rfl<|Ze rfl rfl<|SF rfl λ_ L66=>wp_skip<|Zx<|Zc<|Za<|sO L66 rfl<|Zy rfl rfl Xd<|Sm rfl λ_ L68=>sn<|⟨d.length-(i+1),(by omega),S1,(us.set i ((d.getD i 0)/2^n)),(i+1),l1,(((L68.ri 12 (((i+1):Nat):Int) rfl).a L68).kp [12,11,5,4,1,0] rfl),(Yd<|Yd R4),(by first|exact hI.step hn hd_d.hlt (by omega) List.set_set|exact hI.step hn hd_d.hlt (by omega) (List.set_set ..)|exact hI.step hn hd_d.hlt (by omega)<|down_case0 (by omega)),rfl⟩;exact sO L27 rfl<|cF t2 (Zs rfl rfl)<|Sm rfl<|Sf rfl<|Sf rfl<|So rfl<|Ze rfl rfl<|SF rfl λ_ L74=>wp_skip<|Zx<|Zc<|Za<|sO L74 rfl<|Zy rfl rfl Xd<|Sm rfl λ_ L76=>sn<|⟨d.length-(i+1),(by omega),S1,(us.set i ((d.getD i 0)/2^n)),(i+1),l1,(((L76.ri 12 (((i+1):Nat):Int) rfl).a L76).kp [12,11,5,4,1,0] rfl),(Yd<|Yd R4),(by first|exact hI.step hn hd_d.hlt (by omega) List.set_set|exact hI.step hn hd_d.hlt (by omega) (List.set_set ..)|exact hI.step hn hd_d.hlt (by omega)<|down_case0 (by omega)),rfl⟩;refine sO L9 rfl<|cF t1 (Zs rfl rfl) λ_ L78=>sn<|wp_seq<|Zh L78 rfl rfl<|wp_exit<|Zo<|Zo<|Yl<|Zc<|wp_seq ?_;have hIl:=hI.len;have hIe:=hI.le;refine Za<|sm L78 rfl λ_ L79=>?_;obtain⟨S15,l3,r2,R8⟩:=(R3).freeze;have hd1:Dg S15 (some ⟨b2,0,none⟩) len_d len_d us:=⟨by first|rfl|omega,by omega,by omega,hI.lt,λ_=>⟨_,_,rfl,r2⟩⟩;refine sO L79 rfl<|Zi rfl Zd9 (Zd2 R8.holds (k:=k) hd1 (by rw[hI.done (by omega)];exact hk)) λv_1 _ _ x1 v1=>?_;have R9:=R8.call x1;obtain⟨c1,rfl,h1⟩:=v1;intro _ L80;exact sZ L80 rfl<|Zm rfl rfl R9 Zp h1.len rfl h1.ones λ_ R10 _ L81=>(sn<|wp_ret<|rt (L81.kp [4] rfl) (Res.aggW rfl ZM Zp (R10.has<|List.Mem.head _) h1.len Res.nil)<|⟨_,_,rfl,R10.ext,⟨_,rfl,(h1.to (by exact hI.done (by omega)) (by omega))⟩⟩)
theorem nat_short{S0 S:Sh}{w0 w:World}{H0:Own}{b_d off_d len_d cap_d:Nat}{d:List Nat}{rest_d:List Value}{dv:Nat}(R0:Run S0 w0 S ((b_d,29,(YD d++rest_d))::H0) w)(h0:0<dv)(hdv:dv<18446744073709551616)(hoff:off_d=0)(hlen:len_d=d.length)(hlt:∀e∈d,e<18446744073709551616)(hbig:len_d<=281474976710656):Calls prog 134 [(.slice (some ⟨b_d,off_d,none⟩) len_d cap_d),(.int .u64 ((dv:Nat):Int))].toArray w (RetO S0 w0 S b_d 29 rest_d H0 (λS v ds=>v= .int .u64 ((val W64 d%dv:Nat):Int)/\ds.length=d.length/\(∀e∈ds,e<18446744073709551616)/\val W64 ds=val W64 d/dv)):=by
 refine ZB (n:=28) func134 rfl rfl λac0 L0=>wA<|sa L0 rfl<|SW<|Sa rfl<|SVv<|Sm rfl<|So rfl<|Zz rfl underlying30<|So rfl<|ZO rfl rfl Xd<|Sa rfl λ_ L6=>sn<|wp_block<|ZJ (λm ac ww=>∃(S':Sh)(us:List Nat)(k:Nat)(r:Nat),S.le S'/\ZD ac 28 [(0,(.slice (some ⟨b_d,off_d,none⟩) len_d cap_d)),(1,(.int .u64 ((dv:Nat):Int))),(4,(.int .u64 (0:Int))),(5,(.int .u64 ((r:Nat):Int))),(6,(.int .i64 (((k:Nat):Int)-(1:Int))))]/\Run S0 w0 S' ((b_d,29,(YD us++rest_d))::H0) ww/\(Zbq d us dv k r)/\m=k) d.length ⟨S,d,d.length,0,Sh.le.refl _,(((L6.ri 5 ((0:Nat):Int) rfl).a ((L6.ri 6 (((d.length:Nat):Int)-(1:Int)) rfl).a L6)).kp [6,5,4,1,0] rfl),R0,(by exact Zbq.start hlt h0),rfl⟩ ?_;rintro m_1 ac1 _ ⟨S1,us,k,r,l1,L7,R1,hI,m1⟩;refine wp_seq<|wA<|sm L7 rfl λ_ L10=>?_;by_cases t1:(0:Int)<=((k:Int)-(1:Int));refine sO L10 rfl<|cT t1 (YI rfl rfl)<|ST rfl λ_ L11=>wp_skip<|Zc<|wp_seq<|wp_block ?_;have hIe:=hI.le;have hIl:=hI.len;have hIr:=hI.hr;refine Za<|sm L11 rfl<|Sm rfl<|Sm rfl<|Sm rfl<|Sm rfl<|So rfl<|Zr (k-1) rfl rfl underlying30 ZG (by omega) (by omega)<|So rfl<|Zk (v:=(.int .u64 ((us.getD (off_d+(k-1)) 0:Nat):Int))) rfl YB (R1.has<|List.Mem.head _) (Yj (by omega))<|Sm rfl<|So rfl<|Zi rfl ent_161 (Zfe R1.holds (h:=r) (lo:=(us.getD (off_d+(k-1)) 0)) (y:=dv) (by omega) (ZT hI.lt (by decide) _) (by omega)) λv_1 S2 _ x1 v1=>?_;have R2:=R1.call x1;have l2:=x1.le;obtain rfl:=v1;intro _ L20;exact sm L20 rfl<|So rfl<|Zj rfl rfl<|So rfl<|Zj rfl rfl<|So rfl<|Zr (k-1) rfl rfl underlying30 ZG (by omega) (by omega)<|Sz rfl<|Yo (cs':=(YD (us.set (off_d+(k-1)) ((r*18446744073709551616+(us.getD (off_d+(k-1)) 0))/dv))++rest_d)) rfl rfl R2 ZG rfl (by simp only[List.length_append,ZN];omega) (by exact Xs (by omega)) λ_ R3=>Sa rfl<|SY<|Sm rfl<|So rfl<|ZO rfl rfl Xd<|Sa rfl λ_ L29=>sn<|⟨(k-1),(by omega),S2,(us.set (off_d+(k-1)) ((r*18446744073709551616+(us.getD (off_d+(k-1)) 0))/dv)),(k-1),((r*18446744073709551616+(us.getD (off_d+(k-1)) 0))%dv),(l1.trans l2),(((L29.ri 5 ((((r*18446744073709551616+(us.getD (off_d+(k-1)) 0))%dv):Nat):Int) rfl).a ((L29.ri 6 ((((k-1):Nat):Int)-(1:Int)) rfl).a L29)).kp [6,5,4,1,0] rfl),R3,(by exact hI.step (by omega) (by omega) rfl rfl hlt),rfl⟩;refine sO L10 rfl<|cF t1 (YI rfl rfl)<|SF rfl λ_ L32=>wp_exit<|Zo<|Zo<|Yl<|Zc<|wA<|sm L32 rfl<|Sa rfl λ_ L34=>sn<|wp_ret<|rt (L34.kp [4] rfl) (.tmp rfl Res.nil) ?_;have hIe:=hI.le;obtain rfl:k=0:=by omega
 obtain⟨hq_,hr_⟩:=hI.done;exact⟨_,S1,us,rfl,l1,R1,⟨by rw[<-hr_];rfl,by exact hI.len,by exact hI.lt,by exact hq_⟩⟩
theorem nat_away{S0 S:Sh}{w0 w:World}{H0:Own}{b_p off_p len_p cap_p:Nat}{p:List Nat}{rest_p:List Value}{p_u:Option Addr}{len_u cap_u:Nat}{u:List Nat}(hd_u:Dg S p_u len_u cap_u u){d:Nat}(R0:Run S0 w0 S ((b_p,29,(YD p++rest_p))::H0) w)(hlt:∀e∈p,e<18446744073709551616)(hfit:off_p+len_p<=p.length)(hul:len_u<len_p)(hd:d<18446744073709551616)(hlp:len_p<=1099511627777):Calls prog 165 [(.slice (some ⟨b_p,off_p,none⟩) len_p cap_p),(.slice p_u len_u cap_u),(.int .u64 ((d:Nat):Int))].toArray w (RetO S0 w0 S b_p 29 rest_p H0 (λS v ds=>∃(bw:Nat),v= .bool (decide<|bw≠0)/\ds.length=p.length/\(∀e∈ds,e<18446744073709551616)/\bw<=1/\val W64 ds+W64^off_p*(val W64 u*d)=val W64 p+W64^(off_p+len_p)*bw/\(∀j,j<off_p\/off_p+len_p<=j->ds.getD j 0=p.getD j 0))):=by
 refine ZB (n:=56) func165 rfl rfl λac0 L0=>?_;have hl_u:=hd_u.hlen;have hc_u:=hd_u.hcap;have hg_u:=hd_u.hbig;refine wA<|sa L0 rfl<|SW<|Sa rfl<|Sa rfl<|SVv<|Sm rfl<|So rfl<|Zz rfl underlying30<|Sm rfl λ_ L6=>sn<|wp_block ?_;have L8:=L6.ri 7 ((0:Nat):Int) rfl;refine ZJ (λm ac ww=>∃(S':Sh)(us:List Nat)(i:Nat)(c:Nat)(bo:Nat),S.le S'/\ZD ac 56 [(0,(.slice (some ⟨b_p,off_p,none⟩) len_p cap_p)),(1,(.slice p_u len_u cap_u)),(2,(.int .u64 ((d:Nat):Int))),(6,(.bool false)),(7,(.int .u64 ((c:Nat):Int))),(8,(.int .u64 ((bo:Nat):Int))),(14,(.int .i64 ((len_p:Nat):Int))),(15,(.int .i64 ((i:Nat):Int)))]/\Run S0 w0 S' ((b_p,29,(YD us++rest_p))::H0) ww/\(Zg8 p u us off_p d i c bo)/\(i<=len_p)/\m=len_p-i) (len_p-0) ⟨S,p,0,0,0,Sh.le.refl _,((L8.a<|(L6.ri 8 ((0:Nat):Int) rfl).a ((L6.ri 15 ((0:Nat):Int) rfl).a L6)).kp [15,14,8,7,6,2,1,0] rfl),R0,(by exact Zg8.start hlt),(by omega),rfl⟩ ?_;rintro m_1 ac1 _ ⟨S1,us,i,c,bo,l1,L7,R1,hI,hi,m1⟩;refine wp_seq<|Za ?_;by_cases t1:(i:Int)<(len_p:Int);refine sO L7 rfl<|cT t1 (Zs rfl rfl) λ_ L11=>sn<|wp_seq<|Zl L11 rfl rfl<|wp_skip<|Zc<|wp_seq<|wp_block<|wp_seq ?_;have hms:=(mul_step (x:=u.getD i 0) (y:=d) (c:=c) (u:=0) (ZT hd_u.hlt (by decide) _) hd hI.hc (by decide)).1;have hIl:=hI.len;have hIb:=hI.hb;have hIc:=hI.hc;refine Za<|sm L11 rfl<|Sa rfl<|SW<|Sa rfl<|Sa rfl<|Sa rfl<|SVv<|Sm rfl<|Sm rfl<|So rfl<|Zz rfl underlying30 λ_ L19=>?_;by_cases t2:(i:Int)<(len_u:Int);refine sO L19 rfl<|cT t2 (Zs rfl rfl)<|ST rfl λ_ L20=>Za<|sm L20 rfl<|Sm rfl λ_ L22=>?_;obtain⟨b1,rest_1,rfl,r1⟩:=(hd_u.up l1).row (by omega);refine sO L22 rfl<|Zr i rfl rfl underlying30 ZG (by omega) (by omega)<|So rfl<|Zk (v:=(.int .u64 ((u.getD i 0:Nat):Int))) rfl YB (R1.row r1) (by rw[Nat.zero_add];exact Yj (by omega))<|Sm rfl<|So rfl<|Zi rfl ent_139 (Zat R1.holds (x:=(u.getD i 0)) (y:=d) (ZT hd_u.hlt (by decide) _) hd) λv_1 S2 _ x1 v1=>?_;have R2:=R1.call x1;have l2:=x1.le;obtain rfl:=v1;intro _ L26;exact sm L26 rfl<|So rfl<|Zj rfl rfl<|So rfl<|Zj rfl rfl<|Sa rfl<|Sa rfl<|SW<|Sm rfl<|Sm rfl λ_ L33=>so L33 rfl<|Xh (x:=((u.getD i 0)*d%18446744073709551616)) (y:=c) (c:=0) L33 rfl (by omega)<|Sm rfl<|So rfl<|Zj rfl rfl<|So rfl<|Zj rfl rfl<|Sa rfl<|Sa rfl<|SW<|Sm rfl<|Sm rfl<|So rfl<|Zy rfl rfl Zav<|Sa rfl<|SX<|Sm rfl<|Sm rfl<|Sm rfl<|Sm rfl<|So rfl<|Zr i rfl rfl underlying30 ZG (by omega) (by omega)<|So rfl<|Zk (v:=(.int .u64 ((us.getD (off_p+(i)) 0:Nat):Int))) rfl YB (R2.has<|List.Mem.head _) (Yj (by omega))<|Sm rfl<|Sm rfl λ_ L51=>so L51 rfl<|Zf8 (x:=(us.getD (off_p+(i)) 0)) (y:=((((u.getD i 0)*d%18446744073709551616)+c+0)%18446744073709551616)) (c:=bo) L51 rfl (by omega)<|Sm rfl<|So rfl<|Zj rfl rfl<|So rfl<|Zj rfl rfl<|So rfl<|Zr i rfl rfl underlying30 ZG (by omega) (by omega)<|Sz rfl<|Yo (cs':=(YD (us.set (off_p+(i)) (((us.getD (off_p+(i)) 0)+18446744073709551616-((((u.getD i 0)*d%18446744073709551616)+c+0)%18446744073709551616)-bo)%18446744073709551616))++rest_p)) rfl rfl R2 ZG rfl (by simp only[List.length_append,ZN];omega) (by exact Xs (by omega)) λ_ R3=>Sa rfl<|SY<|So rfl<|Zy rfl rfl Xd<|Sm rfl λ_ L60=>sn<|⟨len_p-(i+1),(by omega),S2,(us.set (off_p+(i)) (((us.getD (off_p+(i)) 0)+18446744073709551616-((((u.getD i 0)*d%18446744073709551616)+c+0)%18446744073709551616)-bo)%18446744073709551616)),(i+1),(((u.getD i 0)*d/18446744073709551616)+((((u.getD i 0)*d%18446744073709551616)+c+0)/18446744073709551616)),(if(us.getD (off_p+(i)) 0)<((((u.getD i 0)*d%18446744073709551616)+c+0)%18446744073709551616)+bo then 1 else 0),(l1.trans l2),(((L60.ri 7 (((((u.getD i 0)*d/18446744073709551616)+((((u.getD i 0)*d%18446744073709551616)+c+0)/18446744073709551616)):Nat):Int) rfl).a ((L60.ri 8 (((if(us.getD (off_p+(i)) 0)<((((u.getD i 0)*d%18446744073709551616)+c+0)%18446744073709551616)+bo then 1 else 0):Nat):Int) rfl).a ((L60.ri 15 (((i+1):Nat):Int) rfl).a L60))).kp [15,14,8,7,6,2,1,0] rfl),R3,(by first|(obtain⟨hs1,hs2⟩:=sub_step (x:=us.getD (off_p+(i)) 0) (l:=(u.getD i 0*d%18446744073709551616+c+0)%18446744073709551616) (b:=bo) (ZT hI.lt (by decide) _) (Nat.mod_lt _ (by decide)) hI.hb;exact hI.step rfl (by omega) (Nat.mod_lt _ (by decide)) (by omega) hs2 (by omega) hs1 (λ_=>by omega))|(obtain⟨hs1,hs2⟩:=sub_step (x:=us.getD (off_p+(i)) 0) (l:=(0+c+0)%18446744073709551616) (b:=bo) (ZT hI.lt (by decide) _) (Nat.mod_lt _ (by decide)) hI.hb;exact hI.step rfl (by omega) (Nat.mod_lt _ (by decide)) (by omega) hs2 (by rw[Za0 (y:=u) (i:=i) (by omega)];omega) hs1 (λ_=>by omega))),(by omega),rfl⟩;exact sO L19 rfl<|cF t2 (Zs rfl rfl)<|SF rfl λ_ L64=>wp_skip<|Zc<|wA<|sm L64 rfl<|Sm rfl λ_ L66=>so L66 rfl<|Xh (x:=0) (y:=c) (c:=0) L66 rfl (by omega)<|Sm rfl<|So rfl<|Zj rfl rfl<|So rfl<|Zj rfl rfl<|Sa rfl<|Sa rfl<|SW<|Sm rfl<|Sm rfl<|So rfl<|Zy rfl rfl Zav<|Sa rfl<|SX<|Sm rfl<|Sm rfl<|Sm rfl<|Sm rfl<|So rfl<|Zr i rfl rfl underlying30 ZG (by omega) (by omega)<|So rfl<|Zk (v:=(.int .u64 ((us.getD (off_p+(i)) 0:Nat):Int))) rfl YB (R1.has<|List.Mem.head _) (Yj (by omega))<|Sm rfl<|Sm rfl λ_ L84=>so L84 rfl<|Zf8 (x:=(us.getD (off_p+(i)) 0)) (y:=((0+c+0)%18446744073709551616)) (c:=bo) L84 rfl (by omega)<|Sm rfl<|So rfl<|Zj rfl rfl<|So rfl<|Zj rfl rfl<|So rfl<|Zr i rfl rfl underlying30 ZG (by omega) (by omega)<|Sz rfl<|Yo (cs':=(YD (us.set (off_p+(i)) (((us.getD (off_p+(i)) 0)+18446744073709551616-((0+c+0)%18446744073709551616)-bo)%18446744073709551616))++rest_p)) rfl rfl R1 ZG rfl (by simp only[List.length_append,ZN];omega) (by exact Xs (by omega)) λ_ R4=>Sa rfl<|SY<|So rfl<|Zy rfl rfl Xd<|Sm rfl λ_ L93=>sn<|⟨len_p-(i+1),(by omega),S1,(us.set (off_p+(i)) (((us.getD (off_p+(i)) 0)+18446744073709551616-((0+c+0)%18446744073709551616)-bo)%18446744073709551616)),(i+1),(0+((0+c+0)/18446744073709551616)),(if(us.getD (off_p+(i)) 0)<((0+c+0)%18446744073709551616)+bo then 1 else 0),l1,(((L93.ri 7 (((0+((0+c+0)/18446744073709551616)):Nat):Int) rfl).a ((L93.ri 8 (((if(us.getD (off_p+(i)) 0)<((0+c+0)%18446744073709551616)+bo then 1 else 0):Nat):Int) rfl).a ((L93.ri 15 (((i+1):Nat):Int) rfl).a L93))).kp [15,14,8,7,6,2,1,0] rfl),R4,(by first|(obtain⟨hs1,hs2⟩:=sub_step (x:=us.getD (off_p+(i)) 0) (l:=(u.getD i 0*d%18446744073709551616+c+0)%18446744073709551616) (b:=bo) (ZT hI.lt (by decide) _) (Nat.mod_lt _ (by decide)) hI.hb;exact hI.step rfl (by omega) (Nat.mod_lt _ (by decide)) (by omega) hs2 (by omega) hs1 (λ_=>by omega))|(obtain⟨hs1,hs2⟩:=sub_step (x:=us.getD (off_p+(i)) 0) (l:=(0+c+0)%18446744073709551616) (b:=bo) (ZT hI.lt (by decide) _) (Nat.mod_lt _ (by decide)) hI.hb;exact hI.step rfl (by omega) (Nat.mod_lt _ (by decide)) (by omega) hs2 (by rw[Za0 (y:=u) (i:=i) (by omega)];omega) hs1 (λ_=>by omega))),(by omega),rfl⟩;refine sO L7 rfl<|cF t1 (Zs rfl rfl) λ_ L97=>sn<|wp_seq<|Zh L97 rfl rfl<|wp_exit<|Zo<|Zo<|Yl<|Zc<|wA<|sm L97 rfl λ_ L98=>?_;by_cases t3:¬(bo:Int)=(0:Int);refine sO L98 rfl<|cT t3 (Yn rfl rfl)<|Sa rfl λ_ L100=>sn<|wp_ret<|rt (L100.kp [6] rfl) (.tmp rfl Res.nil) ?_;obtain rfl:i=len_p:=by omega
 have hc0:=hI.cz (by omega);have hs:=hI.sum;rw[hc0,Nat.zero_add,List.take_of_length_le (by omega)] at hs;exact⟨_,S1,us,rfl,l1,R1,⟨bo,by first|exact congrArg Value.bool (decide_eq_true (by omega)).symm|exact congrArg Value.bool (decide_eq_false (by omega)).symm,by exact hI.len,by exact hI.lt,by exact hI.hb,by exact hs,by exact hI.out⟩⟩;refine sO L98 rfl<|cF t3 (Yn rfl rfl)<|Sa rfl λ_ L103=>sn<|wp_ret<|rt (L103.kp [6] rfl) (.tmp rfl Res.nil) ?_;obtain rfl:i=len_p:=by omega
 have hc0:=hI.cz (by omega);have hs:=hI.sum;rw[hc0,Nat.zero_add,List.take_of_length_le (by omega)] at hs;exact⟨_,S1,us,rfl,l1,R1,⟨bo,by first|exact congrArg Value.bool (decide_eq_true (by omega)).symm|exact congrArg Value.bool (decide_eq_false (by omega)).symm,by exact hI.len,by exact hI.lt,by exact hI.hb,by exact hs,by exact hI.out⟩⟩
theorem nat_back{S0 S:Sh}{w0 w:World}{H0:Own}{b_p off_p len_p cap_p:Nat}{p:List Nat}{rest_p:List Value}{p_u:Option Addr}{len_u cap_u:Nat}{u:List Nat}(hd_u:Dg S p_u len_u cap_u u)(R0:Run S0 w0 S ((b_p,29,(YD p++rest_p))::H0) w)(hlt:∀e∈p,e<18446744073709551616)(hfit:off_p+len_p<=p.length)(hul:len_u<len_p)(hlp:len_p<=1099511627777):Calls prog 166 [(.slice (some ⟨b_p,off_p,none⟩) len_p cap_p),(.slice p_u len_u cap_u)].toArray w (RetO S0 w0 S b_p 29 rest_p H0 (λS v ds=>∃(cy:Nat),v= .tuple #[]/\ds.length=p.length/\(∀e∈ds,e<18446744073709551616)/\cy<=1/\val W64 ds+W64^(off_p+len_p)*cy=val W64 p+W64^off_p*val W64 u/\(∀j,j<off_p\/off_p+len_p<=j->ds.getD j 0=p.getD j 0))):=by
 refine ZB (n:=34) func166 rfl rfl λac0 L0=>?_;have hl_u:=hd_u.hlen;have hc_u:=hd_u.hcap;have hg_u:=hd_u.hbig;refine wA<|sa L0 rfl<|SW<|Sm rfl<|So rfl<|Zz rfl underlying30<|Sm rfl λ_ L4=>sn<|wp_block<|ZJ (λm ac ww=>∃(S':Sh)(us:List Nat)(i:Nat)(c:Nat),S.le S'/\ZD ac 34 [(0,(.slice (some ⟨b_p,off_p,none⟩) len_p cap_p)),(1,(.slice p_u len_u cap_u)),(4,(.int .u64 ((c:Nat):Int))),(8,(.int .i64 ((len_p:Nat):Int))),(9,(.int .i64 ((i:Nat):Int)))]/\Run S0 w0 S' ((b_p,29,(YD us++rest_p))::H0) ww/\(Zg7 p u us off_p i c)/\(i<=len_p)/\m=len_p-i) (len_p-0) ⟨S,p,0,0,Sh.le.refl _,(((L4.ri 4 ((0:Nat):Int) rfl).a ((L4.ri 9 ((0:Nat):Int) rfl).a L4)).kp [9,8,4,1,0] rfl),R0,(by exact Zg7.start hlt),(by omega),rfl⟩ ?_;rintro m_1 ac1 _ ⟨S1,us,i,c,l1,L5,R1,hI,hi,m1⟩;refine wp_seq<|Za ?_;by_cases t1:(i:Int)<(len_p:Int);refine sO L5 rfl<|cT t1 (Zs rfl rfl) λ_ L8=>sn<|wp_seq<|Zl L8 rfl rfl<|wp_skip<|Zc<|wp_seq<|wp_block<|wp_seq ?_;have hIl:=hI.len;have hIc:=hI.hc;have hx1:=ZT hI.lt (show 0<18446744073709551616 by decide) (off_p+(i));have hx2:=ZT hd_u.hlt (show 0<18446744073709551616 by decide) i;refine Za<|sm L8 rfl<|Sa rfl<|SW<|Sa rfl<|SVv<|Sm rfl<|Sm rfl<|So rfl<|Zz rfl underlying30 λ_ L14=>?_;by_cases t2:(i:Int)<(len_u:Int);refine sO L14 rfl<|cT t2 (Zs rfl rfl)<|ST rfl λ_ L15=>Za<|sm L15 rfl<|Sm rfl λ_ L17=>?_;obtain⟨b1,rest_1,rfl,r1⟩:=(hd_u.up l1).row (by omega);exact sO L17 rfl<|Zr i rfl rfl underlying30 ZG (by omega) (by omega)<|So rfl<|Zk (v:=(.int .u64 ((u.getD i 0:Nat):Int))) rfl YB (R1.row r1) (by rw[Nat.zero_add];exact Yj (by omega))<|Sa rfl<|SX<|Sm rfl<|Sm rfl<|Sm rfl<|Sm rfl<|So rfl<|Zr i rfl rfl underlying30 ZG (by omega) (by omega)<|So rfl<|Zk (v:=(.int .u64 ((us.getD (off_p+(i)) 0:Nat):Int))) rfl YB (R1.has<|List.Mem.head _) (Yj (by omega))<|Sm rfl<|Sm rfl λ_ L28=>so L28 rfl<|Xh (x:=(us.getD (off_p+(i)) 0)) (y:=(u.getD i 0)) (c:=c) L28 rfl (by omega)<|Sm rfl<|So rfl<|Zj rfl rfl<|So rfl<|Zj rfl rfl<|So rfl<|Zr i rfl rfl underlying30 ZG (by omega) (by omega)<|Sz rfl<|Yo (cs':=(YD (us.set (off_p+(i)) (((us.getD (off_p+(i)) 0)+(u.getD i 0)+c)%18446744073709551616))++rest_p)) rfl rfl R1 ZG rfl (by simp only[List.length_append,ZN];omega) (by exact Xs (by omega)) λ_ R2=>Sa rfl<|SY<|So rfl<|Zy rfl rfl Xd<|Sm rfl λ_ L37=>sn<|⟨len_p-(i+1),(by omega),S1,(us.set (off_p+(i)) (((us.getD (off_p+(i)) 0)+(u.getD i 0)+c)%18446744073709551616)),(i+1),(((us.getD (off_p+(i)) 0)+(u.getD i 0)+c)/18446744073709551616),l1,(((L37.ri 4 (((((us.getD (off_p+(i)) 0)+(u.getD i 0)+c)/18446744073709551616):Nat):Int) rfl).a ((L37.ri 9 (((i+1):Nat):Int) rfl).a L37)).kp [9,8,4,1,0] rfl),R2,(by first|exact hI.step rfl (by omega) (Nat.mod_lt _ (by decide)) (by omega) (by omega)|exact hI.step rfl (by omega) (Nat.mod_lt _ (by decide)) (by omega) (by rw[Za0 (y:=u) (i:=i) (by omega)];omega)),(by omega),rfl⟩;exact sO L14 rfl<|cF t2 (Zs rfl rfl)<|SF rfl λ_ L40=>wp_skip<|Zc<|Za<|sm L40 rfl<|Sm rfl<|Sm rfl<|Sm rfl<|So rfl<|Zr i rfl rfl underlying30 ZG (by omega) (by omega)<|So rfl<|Zk (v:=(.int .u64 ((us.getD (off_p+(i)) 0:Nat):Int))) rfl YB (R1.has<|List.Mem.head _) (Yj (by omega))<|Sm rfl<|Sm rfl λ_ L48=>so L48 rfl<|Xh (x:=(us.getD (off_p+(i)) 0)) (y:=0) (c:=c) L48 rfl (by omega)<|Sm rfl<|So rfl<|Zj rfl rfl<|So rfl<|Zj rfl rfl<|So rfl<|Zr i rfl rfl underlying30 ZG (by omega) (by omega)<|Sz rfl<|Yo (cs':=(YD (us.set (off_p+(i)) (((us.getD (off_p+(i)) 0)+0+c)%18446744073709551616))++rest_p)) rfl rfl R1 ZG rfl (by simp only[List.length_append,ZN];omega) (by exact Xs (by omega)) λ_ R3=>Sa rfl<|SY<|So rfl<|Zy rfl rfl Xd<|Sm rfl λ_ L57=>sn<|⟨len_p-(i+1),(by omega),S1,(us.set (off_p+(i)) (((us.getD (off_p+(i)) 0)+0+c)%18446744073709551616)),(i+1),(((us.getD (off_p+(i)) 0)+0+c)/18446744073709551616),l1,(((L57.ri 4 (((((us.getD (off_p+(i)) 0)+0+c)/18446744073709551616):Nat):Int) rfl).a ((L57.ri 9 (((i+1):Nat):Int) rfl).a L57)).kp [9,8,4,1,0] rfl),R3,(by first|exact hI.step rfl (by omega) (Nat.mod_lt _ (by decide)) (by omega) (by omega)|exact hI.step rfl (by omega) (Nat.mod_lt _ (by decide)) (by omega) (by rw[Za0 (y:=u) (i:=i) (by omega)];omega)),(by omega),rfl⟩;refine sO L5 rfl<|cF t1 (Zs rfl rfl) λ_ L60=>sn<|wp_seq<|Zh L60 rfl rfl<|wp_exit<|Zo<|Zo<|Yl<|body_end (rs:=Tryz.f166.results.toList) L60 rfl Res.nil ?_;obtain rfl:i=len_p:=by omega
 have hs:=hI.sum;rw[List.take_of_length_le (by omega)] at hs;exact⟨_,S1,us,rfl,l1,R1,⟨c,by rfl,by exact hI.len,by exact hI.lt,by exact hI.hc,by exact hs,by exact hI.out⟩⟩
theorem nat_long{S:Sh}{w:World}(hS:ZV S w){p_da:Option Addr}{len_da cap_da:Nat}{da:List Nat}(hd_da:Dg S p_da len_da cap_da da){p_db:Option Addr}{len_db cap_db:Nat}{db:List Nat}(hd_db:Dg S p_db len_db cap_db db){kb:Nat}(h2:2<=len_db)(hn:db.getD (len_db-1) 0≠0)(hba:len_db<=len_da)(hla:len_da<=34359738368)(hk:val W64 da<=2^kb):Calls prog 136 [(.slice p_da len_da cap_da),(.slice p_db len_db cap_db)].toArray w (Ret S w (λS v=>∃(c0:List Value)(c1:List Value),v= .tuple [.agg c0.toArray,.agg c1.toArray].toArray/\Na S c0 (val W64 da/val W64 db) (kb)/\Na S c1 (val W64 da%val W64 db) kb)):=by
 refine cbd hS (n:=100) func136 rfl λ_ L0 R0=>?_;have hl_db:=hd_db.hlen;have hc_db:=hd_db.hcap;have hg_db:=hd_db.hbig;have hl_da:=hd_da.hlen;have hc_da:=hd_da.hcap;have hg_da:=hd_da.hbig;refine wA (sO L0 rfl<|ZK (cs:=zN1) ZZ R0 rfl λb1 _ R1=>So rfl<|ZK (cs:=zN1) ZZ R1 rfl λb2 _ R2 _ L2=>sn<|Xr (λac ww=>∃(S':Sh)(s:Nat),S.le S'/\ZD ac 100 [(0,(.slice p_da len_da cap_da)),(1,(.slice p_db len_db cap_db)),(4,(.pointer (some ⟨b1,0,none⟩))),(5,(.pointer (some ⟨b2,0,none⟩))),(6,(.int .i64 ((len_db:Nat):Int))),(7,(.int .i64 ((s:Nat):Int)))]/\Run S w S' [(b2,32,zN1),(b1,32,zN1)] ww/\(s<64)/\(db.getD (len_db-1) 0*2^s<18446744073709551616)) ?_ ?_)
 ·rintro ac1 _ ⟨_,s,l1,L3,R3,hs,htop⟩
  refine wA (sm L3 rfl ?_)
  intro _ L4
  refine sm L4 rfl (Sm rfl<|So rfl<|XN rfl ent_163 (nat_up R3.holds (n:=s) (sz:=len_db) (hd_db.up l1) hs (by omega) (by omega)) ?_)
  rintro _ _ ⟨v1,_,_,rfl,R4,b3,ds1,rfl,rfl,ho1,ho2,ho3⟩
  refine⟨_,rfl,?_⟩
  have R5:=R3.callN R4;have l2:=R4.ext.le
  have hvlen:=ho1;have hvlt0:=ho2;have hvsum:=ho3
  intro _ L7
  refine sa L7 rfl λ_ L8=>?_
  have L9:=(L8.kp [0,4,5,6,7,8] rfl);clear L8
  refine sn (wp_seq ?_)
  obtain⟨S3,l3,r1,R6⟩:=(R5).freeze
  have hd_1:Dg S3 (some ⟨b3,0,none⟩) len_db len_db ds1:=⟨by first|rfl|omega,by omega,by omega,hvlt0,λ_=>⟨_,_,rfl,r1⟩⟩
  have hv0:W64^len_db*cr db s len_db=0:=by rw[cr_top hs htop];exact Nat.mul_zero _
  have hvv:val W64 ds1=val W64 db*2^s:=by rw[<-hvsum,hv0];rfl
  refine Za (sm L9 rfl ?_)
  intro _ L10
  refine sm L10 rfl (Sm rfl<|So rfl<|Zz rfl underlying30<|So rfl<|Zy rfl rfl Xd<|So rfl<|XN rfl ent_163 (nat_up R6.holds (n:=s) (sz:=(len_da+1)) (hd_da.up<|l1.trans<|l2.trans l3) hs (by omega) (by omega)) ?_)
  rintro _ _ ⟨v2,S4,_,rfl,R7,b4,ds2,rfl,rfl,ho4,ho5,ho6⟩
  refine⟨_,rfl,?_⟩
  have R8:=R6.callN R7;have l4:=R7.ext.le
  have hulen:=ho4;have hult:=ho5;have husum:=ho6
  intro _ L15
  refine sa L15 rfl λ_ L16=>?_
  have L17:=(L16.kp [4,5,6,7,8,9] rfl);clear L16
  refine sn ?_
  refine Xr (λac ww=>∃(S':Sh)(mm:Nat),S4.le S'/\ZD ac 100 [(4,(.pointer (some ⟨b1,0,none⟩))),(5,(.pointer (some ⟨b2,0,none⟩))),(6,(.int .i64 ((len_db:Nat):Int))),(7,(.int .i64 ((s:Nat):Int))),(8,(.slice (some ⟨b3,0,none⟩) len_db len_db)),(9,(.slice (some ⟨b4,0,none⟩) (len_da+1) (len_da+1))),(10,(.int .i64 ((mm:Nat):Int)))]/\Run S w S' [(b4,29,(YD ds2++[])),(b2,32,zN1),(b1,32,zN1)] ww/\(mm+len_db=len_da+1)) ?_ ?_
  ·rintro ac2 _ ⟨S5,mm,l5,L18,R9,hmm⟩
   have hu0:W64^(len_da+1)*cr da s (len_da+1)=0:=by(have e:cr da s (len_da+1)=0:=by(unfold cr;rw[if_neg (by omega),Za0 (by omega)];exact Nat.zero_div _));rw[e];exact Nat.mul_zero _
   have huu:val W64 ds2=val W64 da*2^s:=by rw[<-husum,hu0];rfl
   refine wA (sm L18 rfl ?_)
   intro _ L19
   refine sO L19 rfl (XB (m:=mm) (c:=mm) (by first|rfl|(simp[ev,Zad];omega)) (by first|rfl|(simp[ev,Zad];omega)) underlying30 Zah rfl ZG Zbp (by omega) (by omega) (by omega) R9 λb5 _ R10 _ L20=>?_)
   rw[Zfq] at R10
   refine sa L20 rfl (SVv<|Sm rfl<|So rfl<|ZO rfl rfl Xd<|Sa rfl λ_ L24=>?_)
   have L25:=(L24.kp [4,5,6,7,8,9,11,12] rfl);clear L24
   refine sn (wp_block ?_)
   obtain⟨hst,hVn,hvtop⟩:=long_start hs hl_da hl_db h2 hba hd_da.hlt hn hvv hvlen (hd_1.up<|l4.trans l5).hlt huu hulen hult hmm
   have hvlt:=(hd_1.up<|l4.trans l5).hlt
   obtain⟨vl,hVe,hvl⟩:=top2 hvlen h2 hvlt
   refine ZJ (λm ac ww=>∃(S':Sh)(us:List Nat)(os:List Nat)(kk:Nat),S5.le S'/\ZD ac 100 [(4,(.pointer (some ⟨b1,0,none⟩))),(5,(.pointer (some ⟨b2,0,none⟩))),(6,(.int .i64 ((len_db:Nat):Int))),(7,(.int .i64 ((s:Nat):Int))),(8,(.slice (some ⟨b3,0,none⟩) len_db len_db)),(9,(.slice (some ⟨b4,0,none⟩) (len_da+1) (len_da+1))),(11,(.slice (some ⟨b5,0,none⟩) mm mm)),(12,(.int .i64 (((kk:Nat):Int)-(1:Int))))]/\Run S w S' [(b5,29,(YD os++[])),(b4,29,(YD us++[])),(b2,32,zN1),(b1,32,zN1)] ww/\(Zbf (val W64 ds1) ds2 us os len_db kk)/\(os.length=mm)/\m=kk)
    mm ⟨S5,ds2,(List.replicate mm 0),mm,Sh.le.refl _,(L25.kp [12,11,9,8,7,6,5,4] rfl),(Zdd<|Zdd<|Zdd<|Zdd R10),hst,(by simp),rfl⟩ ?_
   rintro m_1 ac3 _ ⟨_,us,os,kk,l6,L26,R11,hI,hol,m1⟩
   refine wp_seq (wA<|sm L26 rfl ?_)
   intro _ L27
   by_cases t1:(0:Int)<=((kk:Int)-(1:Int))
   ·refine sO L27 rfl (cT t1 (YI rfl rfl)<|ST rfl λ_ L28=>wp_skip<|Zc<|wp_seq<|wp_block<|wp_seq ?_)
    have hle0:=hI.le;have hlo0:=hI.lo;have hlu0:=hI.lu
    refine Za (sm L28 rfl ?_)
    intro _ L29
    refine sm L29 rfl (Sm rfl<|Sm rfl<|So rfl<|Zy rfl rfl Xd<|So rfl<|Zy rfl rfl Xd<|Sm rfl<|Sm rfl λ_ L36=>?_)
    refine sO L36 rfl (Zy rfl rfl Xd<|So rfl<|Zy rfl rfl Xd λ_ L38=>so L38 rfl<|does_sliceFull (h:=(kk-1)) (i:=(((kk-1)+len_db)+1)) (off':=(kk-1)) (len':=(len_db+1)) L38 rfl rfl rfl rfl underlying30 ZG (by omega) (by omega) (by omega) (by omega) (by omega) (by omega) (by omega)<|Sa rfl λ_ L40=>sn<|wp_seq ?_)
    have hlo:=hI.lo;have hle:=hI.le;have hlu:=hI.lu
    obtain⟨P,low,pl,hT⟩:=hI.top (by omega) h2 hVn
    have hxv:=knuth_x hT.eP hVe hvl (ZT hvlt (by decide) _) hT.hP
    have hN:val W64 us<W64^((kk-1)+(len_db+1)):=by(have q:=pow_V hVn hI.bd;rwa [show kk+len_db=(kk-1)+(len_db+1) by omega] at q)
    have L41:=(L40.kp [4,5,6,7,8,9,11,12,42,43,46,47,48,49,50,51,52,53,54,55,56,13] rfl)
    refine Zw (E0:=[]) (H0:=[(b5,29,(YD os++[])),(b4,29,(YD us++[])),(b2,32,zN1),(b1,32,zN1)]) (n:=100) mixed 24 [] (λk=>0) (Zcn [
      .is (.slice (some ⟨b4,(kk-1),none⟩) (len_db+1) (len_db+1)),
      .is (.int .i64 (len_db:Int)),
      .is (.pointer (some ⟨b4,((kk-1)+(len_db)),none⟩)),
      .is (.int .u64 ((us.getD ((kk-1)+(len_db)) 0:Nat):Int)),
      .is (.slice (some ⟨b4,(kk-1),none⟩) (len_db+1) (len_db+1)),
      .is (.int .i64 (len_db:Int)),
      .is (.int .i64 ((len_db:Int)-(1:Int))),
      .is (.pointer (some ⟨b4,((kk-1)+(len_db-1)),none⟩)),
      .is (.int .u64 ((us.getD ((kk-1)+(len_db-1)) 0:Nat):Int)),
      .is (.slice (some ⟨b4,(kk-1),none⟩) (len_db+1) (len_db+1)),
      .is (.int .i64 (len_db:Int)),
      .is (.int .i64 ((len_db:Int)-(2:Int))),
      .is (.pointer (some ⟨b4,((kk-1)+(len_db-2)),none⟩)),
      .is (.int .u64 ((us.getD ((kk-1)+(len_db-2)) 0:Nat):Int)),
      .is (.slice (some ⟨b3,0,none⟩) len_db len_db),
      .is (.int .i64 (len_db:Int)),
      .is (.int .i64 ((len_db:Int)-(1:Int))),
      .is (.pointer (some ⟨b3,(0+(len_db-1)),none⟩)),
      .is (.int .u64 ((ds1.getD (len_db-1) 0:Nat):Int)),
      .is (.slice (some ⟨b3,0,none⟩) len_db len_db),
      .is (.int .i64 (len_db:Int)),
      .is (.int .i64 ((len_db:Int)-(2:Int))),
      .is (.pointer (some ⟨b3,(0+(len_db-2)),none⟩)),
      .is (.int .u64 ((ds1.getD (len_db-2) 0:Nat):Int))]) L41 R11 (by simp) (by simp) (by rfl) (by rfl) (by simp) (ZU ?_) ?_
    ·refine(Am ?_ ?_ ?_ ?_ ?_ ?_ ?_ ?_<|Am ?_ ?_ ?_ ?_ ?_ ?_ ?_ ?_<|Am ?_ ?_ ?_ ?_ ?_ ?_ ?_ ?_ trivial)
     ·exact dm [] rfl
     ·exact dm [] rfl
     ·refine Zb rfl (λ_ _ _ _ _ A3=>?_)
      obtain⟨_,e1,rfl⟩:=A3.known 0 rfl
      obtain⟨_,e2,rfl⟩:=A3.known 1 rfl
      exact Cu ((A3.live.add e1).add e2) (Zr len_db rfl rfl underlying30 ZG (by omega) (by omega)<|A3.same rfl)
     ·refine Zb rfl (λ_ _ _ _ _ A4=>?_)
      obtain⟨_,e3,rfl⟩:=A4.known 2 rfl
      exact Cu (A4.live.add e3) (Zk (v:=(.int .u64 ((us.getD ((kk-1)+(len_db)) 0:Nat):Int))) rfl YB (A4.run.has<|List.mem_append_right _<|List.Mem.tail _<|List.Mem.head _) (Yj (by omega))<|A4.same rfl)
     ·exact dm [] rfl
     ·exact dm [] rfl
     ·refine Zb rfl (λ_ _ _ _ _ A7=>?_)
      obtain⟨_,e4,rfl⟩:=A7.known 5 rfl
      exact Cu (A7.live.add e4) (ZO (z:=((len_db:Int)-(1:Int))) rfl rfl Xd<|A7.same rfl)
     ·refine Zb rfl (λ_ _ _ _ _ A8=>?_)
      obtain⟨_,e5,rfl⟩:=A8.known 4 rfl
      obtain⟨_,e6,rfl⟩:=A8.known 6 rfl
      exact Cu ((A8.live.add e5).add e6) (Zr (len_db-1) rfl rfl underlying30 ZG (by omega) (by omega)<|A8.same rfl)
     ·refine Zb rfl (λ_ _ _ _ _ A9=>?_)
      obtain⟨_,e7,rfl⟩:=A9.known 7 rfl
      exact Cu (A9.live.add e7) (Zk (v:=(.int .u64 ((us.getD ((kk-1)+(len_db-1)) 0:Nat):Int))) rfl YB (A9.run.has<|List.mem_append_right _<|List.Mem.tail _<|List.Mem.head _) (Yj (by omega))<|A9.same rfl)
     ·exact dm [] rfl
     ·exact dm [] rfl
     ·refine Zb rfl (λ_ _ _ _ _ A12=>?_)
      obtain⟨_,e8,rfl⟩:=A12.known 10 rfl
      exact Cu (A12.live.add e8) (ZO (z:=((len_db:Int)-(2:Int))) rfl rfl Xd<|A12.same rfl)
     ·refine Zb rfl (λ_ _ _ _ _ A13=>?_)
      obtain⟨_,e9,rfl⟩:=A13.known 9 rfl
      obtain⟨_,e10,rfl⟩:=A13.known 11 rfl
      exact Cu ((A13.live.add e9).add e10) (Zr (len_db-2) rfl rfl underlying30 ZG (by omega) (by omega)<|A13.same rfl)
     ·refine Zb rfl (λ_ _ _ _ _ A14=>?_)
      obtain⟨_,e11,rfl⟩:=A14.known 12 rfl
      exact Cu (A14.live.add e11) (Zk (v:=(.int .u64 ((us.getD ((kk-1)+(len_db-2)) 0:Nat):Int))) rfl YB (A14.run.has<|List.mem_append_right _<|List.Mem.tail _<|List.Mem.head _) (Yj (by omega))<|A14.same rfl)
     ·exact dm [] rfl
     ·exact dm [] rfl
     ·refine Zb rfl (λ_ _ _ _ _ A17=>?_)
      obtain⟨_,e12,rfl⟩:=A17.known 15 rfl
      exact Cu (A17.live.add e12) (ZO (z:=((len_db:Int)-(1:Int))) rfl rfl Xd<|A17.same rfl)
     ·refine Zb rfl (λ_ _ _ _ _ A18=>?_)
      obtain⟨_,e13,rfl⟩:=A18.known 14 rfl
      obtain⟨_,e14,rfl⟩:=A18.known 16 rfl
      exact Cu ((A18.live.add e13).add e14) (Zr (len_db-1) rfl rfl underlying30 ZG (by omega) (by omega)<|A18.same rfl)
     ·refine Zb rfl (λ_ _ _ _ _ A19=>?_)
      obtain⟨_,e15,rfl⟩:=A19.known 17 rfl
      exact Cu (A19.live.add e15) (Zk (v:=(.int .u64 ((ds1.getD (len_db-1) 0:Nat):Int))) rfl YB (A19.run.row<|r1.up<|l4.trans<|l5.trans<|l6.trans A19.le) (by rw[Nat.zero_add];exact Yj (by omega))<|A19.same rfl)
     ·exact dm [] rfl
     ·exact dm [] rfl
     ·refine Zb rfl (λ_ _ _ _ _ A22=>?_)
      obtain⟨_,e16,rfl⟩:=A22.known 20 rfl
      exact Cu (A22.live.add e16) (ZO (z:=((len_db:Int)-(2:Int))) rfl rfl Xd<|A22.same rfl)
     ·refine Zb rfl (λ_ _ _ _ _ A23=>?_)
      obtain⟨_,e17,rfl⟩:=A23.known 19 rfl
      obtain⟨_,e18,rfl⟩:=A23.known 21 rfl
      exact Cu ((A23.live.add e17).add e18) (Zr (len_db-2) rfl rfl underlying30 ZG (by omega) (by omega)<|A23.same rfl)
     ·refine Zb rfl (λ_ _ _ _ _ A24=>?_)
      obtain⟨_,e19,rfl⟩:=A24.known 22 rfl
      exact Cu (A24.live.add e19) (Zk (v:=(.int .u64 ((ds1.getD (len_db-2) 0:Nat):Int))) rfl YB (A24.run.row<|r1.up<|l4.trans<|l5.trans<|l6.trans A24.le) (by rw[Nat.zero_add];exact Yj (by omega))<|A24.same rfl)
    ·intro S31 _ _ w33 l7 E1 R12 n1 L66 K1
     obtain⟨_,e20,rfl⟩:=K1 0 (by decide)
     have L67:=L66.add e20;clear L66
     obtain⟨_,e21,rfl⟩:=K1 1 (by decide)
     have L68:=L67.add e21;clear L67
     obtain⟨_,e22,rfl⟩:=K1 2 (by decide)
     have L69:=L68.add e22;clear L68
     obtain⟨_,e23,rfl⟩:=K1 3 (by decide)
     have L70:=L69.add e23;clear L69
     obtain⟨_,e24,rfl⟩:=K1 4 (by decide)
     have L71:=L70.add e24;clear L70
     obtain⟨_,e25,rfl⟩:=K1 5 (by decide)
     have L72:=L71.add e25;clear L71
     obtain⟨_,e26,rfl⟩:=K1 6 (by decide)
     have L73:=L72.add e26;clear L72
     obtain⟨_,e27,rfl⟩:=K1 7 (by decide)
     have L74:=L73.add e27;clear L73
     obtain⟨_,e28,rfl⟩:=K1 8 (by decide)
     have L75:=L74.add e28;clear L74
     obtain⟨_,e29,rfl⟩:=K1 9 (by decide)
     have L76:=L75.add e29;clear L75
     obtain⟨_,e30,rfl⟩:=K1 10 (by decide)
     have L77:=L76.add e30;clear L76
     obtain⟨_,e31,rfl⟩:=K1 11 (by decide)
     have L78:=L77.add e31;clear L77
     obtain⟨_,e32,rfl⟩:=K1 12 (by decide)
     have L79:=L78.add e32;clear L78
     obtain⟨_,e33,rfl⟩:=K1 13 (by decide)
     have L80:=L79.add e33;clear L79
     obtain⟨_,e34,rfl⟩:=K1 14 (by decide)
     have L81:=L80.add e34;clear L80
     obtain⟨_,e35,rfl⟩:=K1 15 (by decide)
     have L82:=L81.add e35;clear L81
     obtain⟨_,e36,rfl⟩:=K1 16 (by decide)
     have L83:=L82.add e36;clear L82
     obtain⟨_,e37,rfl⟩:=K1 17 (by decide)
     have L84:=L83.add e37;clear L83
     obtain⟨_,e38,rfl⟩:=K1 18 (by decide)
     have L85:=L84.add e38;clear L84
     obtain⟨_,e39,rfl⟩:=K1 19 (by decide)
     have L86:=L85.add e39;clear L85
     obtain⟨_,e40,rfl⟩:=K1 20 (by decide)
     have L87:=L86.add e40;clear L86
     obtain⟨_,e41,rfl⟩:=K1 21 (by decide)
     have L88:=L87.add e41;clear L87
     obtain⟨_,e42,rfl⟩:=K1 22 (by decide)
     have L89:=L88.add e42;clear L88
     obtain⟨_,e43,rfl⟩:=K1 23 (by decide)
     have L90:=L89.add e43;clear L89
     have R13:Run _ _ S31 [(b5,29,(YD os++[])),(b4,29,(YD us++[])),(b2,32,zN1),(b1,32,zN1)] w33:=Yb R12 n1 [] (by simp) (by simp)
     refine sO L90 rfl (Zi rfl ent_164 (nat_guess R13.holds (x:=(us.getD ((kk-1)+(len_db)) 0)) (y:=(us.getD ((kk-1)+(len_db-1)) 0)) (z:=(us.getD ((kk-1)+(len_db-2)) 0)) (vh:=(ds1.getD (len_db-1) 0)) (wl:=(ds1.getD (len_db-2) 0)) hxv hvtop (ZT hvlt (by decide) _) (ZT hI.ltu (by decide) _) (ZT hI.ltu (by decide) _)<|ZT hvlt (by decide) _) λv_3 _ _ x3 v3=>?_)
     have R14:=R13.call x3;have l8:=x3.le
     obtain⟨g1,rfl,hg_1,hg2,hg_3⟩:=v3
     intro _ L91
     refine sa L91 rfl λ_ L92=>sn (wp_seq<|wp_seq ?_)
     obtain⟨hgl,hg1,hg3⟩:=guess_or hg_1 hg2 hg_3
     refine Za (sm L92 rfl ?_)
     intro _ L93
     refine sm L93 rfl (Sm rfl<|So rfl<|XN rfl ent_165 (nat_away (d:=g1) (hd_1.up<|l4.trans<|l5.trans<|l6.trans<|l7.trans l8) (Yd R14) hI.ltu (by omega) (by omega) hgl (by omega)) ?_)
     rintro _ _ ⟨v_4,S33,ds3,rfl,l9,R15,v4⟩
     refine⟨v_4,rfl,?_⟩
     obtain⟨bw1,rfl,ho7,ho8,ho9,ho10,ho11⟩:=v4
     have hl1:=ho7;have ht1:=ho8;have hbw:=ho9
     obtain⟨hkn1,hkn2⟩:=knuth hT.eP hT.hpl hVe hvl (K:=18446744073709551616) (by omega) hT.hP hgl hg1 hg3
     have hw0:bw1=0->val W64 us=val W64 ds3+W64^(kk-1)*(val W64 ds1*g1)/\val W64 ds3<W64^(kk-1)*val W64 ds1:=λe=>by(have q:=ho10;rw[e] at q;exact long0 hT.e hT.hlow q hkn1)
     have hw1:bw1=1->val W64 ds3+W64^(kk-1)*(val W64 ds1*g1)=val W64 us+W64^((kk-1)+(len_db+1)):=λe=>by(have q:=ho10;rw[e,Nat.mul_one] at q;exact q)
     have hwt:val W64 ds3<W64^((kk-1)+(len_db+1)):=top_lt' hN ho7 (by omega) (λj hj=>ho11 j<|Or.inr hj) ho8
     by_cases hbo:bw1≠0
     ·rw[decide_eq_true hbo]
      intro _ L96
      refine sT L96 rfl (wp_seq ?_)
      have hwe:=hw1 (by omega)
      have hgp:=long_pos hwe hwt
      refine Za (sm L96 rfl ?_)
      intro _ L97
      refine sO L97 rfl (ZO (z:=((g1-1:Nat):Int)) rfl rfl (u64_to (by omega) (by omega))<|Sa rfl<|SX<|Sm rfl<|Sm rfl<|So rfl<|XN rfl ent_166 (nat_back (hd_1.up<|l4.trans<|l5.trans<|l6.trans<|l7.trans<|l8.trans l9) R15 ht1 (by omega) (by omega) (by omega)) ?_)
      rintro _ _ ⟨v_5,S34,ds4,rfl,l10,R16,v5⟩
      refine⟨v_5,rfl,?_⟩
      obtain⟨cy1,rfl,ho12,ho13,ho14,ho15,ho16⟩:=v5
      have hwt2:val W64 ds4<W64^((kk-1)+(len_db+1)):=top_lt' hwt ho12 (by omega) (λj hj=>ho16 j<|Or.inr hj) ho13
      obtain⟨_,hS_e,hS_b⟩:=long1 hT.e hwe hwt hkn2 ho15 hwt2 ho14
      have hl_u:=ho12.trans hl1;have ht_u:=ho13;have hdg:g1-1<18446744073709551616:=by omega
      intro _ L102
      refine sX (sm L102 rfl ?_)
      intro _ L103
      refine sm L103 rfl (Sm rfl<|So rfl<|Zr (kk-1) rfl rfl underlying30 ZG (by omega) (by omega)<|Sz rfl<|Yo (cs':=(YD (os.set (kk-1) (g1-1))++[])) rfl rfl (Yd R16) ZG rfl (by simp only[List.length_append,ZN];omega) (by rw[Nat.zero_add];exact Xs (by omega)) λ_ R17=>SY<|Sm rfl<|So rfl<|ZO rfl rfl Xd λ_ L109=>?_)
      exact sa L109 rfl λ_ L110=>sn (⟨(kk-1),(by omega),S34,ds4,(os.set (kk-1) (g1-1)),(kk-1),(l6.trans<|l7.trans<|l8.trans<|l9.trans l10),(((L110.ri 12 ((((kk-1):Nat):Int)-(1:Int)) rfl).a L110).kp [12,11,9,8,7,6,5,4] rfl),(Zdd<|Zdd<|Zdd<|Zdd R17),(by exact hI.next (by omega) hl_u ht_u hdg hS_e hS_b),(by rw[List.length_set];exact hol),rfl⟩)
     ·rw[decide_eq_false hbo]
      intro _ L112
      refine sF L112 rfl (wp_skip<|Zc ?_)
      obtain⟨hS_e,hS_b⟩:=hw0 (by omega)
      have hl_u:=hl1;have ht_u:=ht1;have hdg:=hgl
      refine Za (sm L112 rfl ?_)
      intro _ L113
      refine sm L113 rfl (Sm rfl<|So rfl<|Zr (kk-1) rfl rfl underlying30 ZG (by omega) (by omega)<|Sz rfl<|Yo (cs':=(YD (os.set (kk-1) g1)++[])) rfl rfl (Yd R15) ZG rfl (by simp only[List.length_append,ZN];omega) (by rw[Nat.zero_add];exact Xs (by omega)) λ_ R18=>SY<|Sm rfl<|So rfl<|ZO rfl rfl Xd λ_ L119=>?_)
      exact sa L119 rfl λ_ L120=>sn (⟨(kk-1),(by omega),S33,ds3,(os.set (kk-1) g1),(kk-1),(l6.trans<|l7.trans<|l8.trans l9),(((L120.ri 12 ((((kk-1):Nat):Int)-(1:Int)) rfl).a L120).kp [12,11,9,8,7,6,5,4] rfl),(Zdd<|Zdd<|Zdd<|Zdd R18),(by exact hI.next (by omega) hl_u ht_u hdg hS_e hS_b),(by rw[List.length_set];exact hol),rfl⟩)
   ·refine sO L27 rfl (cF t1 (YI rfl rfl)<|SF rfl λ_ L122=>wp_exit<|Zo<|Zo<|Yl<|Zc<|wp_seq ?_)
    have hlu0:=hI.lu
    obtain rfl:kk=0:=by omega
    obtain⟨hd1,hd2⟩:=hI.done
    obtain⟨hq_,hr_⟩:=long_done (b:=val W64 db) (by have q:=val_top hl_db (by omega) hn;exact Nat.lt_of_lt_of_le (Nat.pow_pos (by decide)) q) (Nat.two_pow_pos s) huu (by rw[<-hvv];exact hd1) (by rw[<-hvv];exact hd2)
    refine Za (sm L122 rfl ?_)
    intro _ L123
    obtain⟨S35,l11,r2,R19⟩:=(R11).freeze
    have hd_2:Dg S35 (some ⟨b5,0,none⟩) mm mm os:=⟨by first|rfl|omega,by omega,by omega,hI.lto,λ_=>⟨_,_,rfl,r2⟩⟩
    refine sO L123 rfl (Zi rfl Zd9 (Zd2 R19.holds (k:=kb) hd_2 (by rw[hq_];exact Nat.le_trans (Nat.div_le_self _ _) hk)) λv_6 _ _ x6 v6=>?_)
    have R20:=R19.call x6
    obtain⟨cs_1,rfl,h1⟩:=v6
    intro _ L124
    refine sm L124 rfl (Sm rfl λ_ L126=>?_)
    obtain⟨S37,l13,r3,R21⟩:=(R20).freeze
    have hd3:Dg S37 (some ⟨b4,0,none⟩) (len_da+1) (len_da+1) us:=⟨by first|rfl|omega,by omega,by omega,hI.ltu,λ_=>⟨_,_,rfl,r3⟩⟩
    refine sO L126 rfl (Zi rfl ent_167 (nat_down R21.holds (n:=s) (k:=kb) hd3 hs (by rw[hr_];exact Nat.le_trans (Nat.mod_le _ _) hk) (by omega)) λv_7 _ _ x7 v7=>?_)
    have R22:=R21.call x7;have l14:=x7.le
    obtain⟨c2,rfl,h_2⟩:=v7
    intro _ L127
    exact sZ L127 rfl (Zm rfl rfl (Yd R22) Zp h1.len rfl h1.ones λ_ R23 _ L128=>(sZ L128 rfl<|Zm rfl rfl (Yd R23) Zp h_2.len rfl h_2.ones λ_ R24 _ L129=>(sn<|wp_ret<|rt (L129.kp [4,5] rfl) (Res.aggW rfl ZM Zp (R24.has<|List.Mem.tail _<|List.Mem.head _) h1.len<|Res.aggW rfl ZM Zp (R24.has<|List.Mem.head _) h_2.len Res.nil)<|⟨_,_,rfl,R24.ext,⟨_,_,rfl,((h1.up<|l13.trans l14).to hq_ (by omega)),(h_2.to hr_ (by omega))⟩⟩)))
  ·skip
   refine Za (sm L17 rfl ?_)
   intro _ L131
   exact sO L131 rfl (Zz rfl underlying30<|Sm rfl<|So rfl<|ZO rfl rfl Xd<|Sa rfl λ_ L135=>sn<|⟨S4,((len_da+1)-len_db),Sh.le.refl _,(((L135.ri 10 ((((len_da+1)-len_db):Nat):Int) rfl).a L135).kp [10,9,8,7,6,5,4] rfl),(XO<|XO<|XO R8),(by omega)⟩)
 skip;refine Za<|sm L2 rfl<|So rfl<|Zz rfl underlying30<|Sm rfl<|Sm rfl<|So rfl<|Zz rfl underlying30<|So rfl<|ZO rfl rfl Xd λ_ L142=>?_;obtain⟨b6,rest_1,rfl,r4⟩:=hd_db.row (by omega);refine sO L142 rfl<|Zr (len_db-1) rfl rfl underlying30 ZG (by omega) (by omega)<|So rfl<|Zk (v:=(.int .u64 ((db.getD (len_db-1) 0:Nat):Int))) rfl YB (R2.row r4) (by rw[Nat.zero_add];exact Yj (by omega))<|So rfl<|Zi rfl ent_162 (Zbm R2.holds (x:=(db.getD (len_db-1) 0))<|ZT hd_db.hlt (by decide) _) λv_8 S39 _ x8 v8=>?_;have R25:=R2.call x8;have l15:=x8.le;obtain rfl:=v8;intro _ L145;exact sa L145 rfl<|Sa rfl<|kP [0,1,4,5,6,7] rfl λ_ L148=>sn<|⟨S39,(64-ZC (db.getD (len_db-1) 0)),l15,(((L148.ri 7 (((64-ZC (db.getD (len_db-1) 0)):Nat):Int) rfl).a L148).kp [7,6,5,4,1,0] rfl),(Yd<|Yd R25),(by exact(lz hn<|ZT hd_db.hlt (by decide) _).1),(by exact(lz hn<|ZT hd_db.hlt (by decide) _).2)⟩
theorem nat_Div{S:Sh}{w:World}(hS:ZV S w){c_a:List Value}{a:Nat}{k_a:Nat}(h_a:Na S c_a a k_a){c_b:List Value}{b:Nat}{k_b:Nat}(h_b:Na S c_b b k_b)(hlim:k_a<=1099511627776):Calls prog 77 [(.agg (c_a:List Value).toArray),(.agg (c_b:List Value).toArray)].toArray w (Ret S w (λS v=>((b=0)/\∃(c0:List Value)(c1:List Value),v= .tuple [.agg c0.toArray,.agg c1.toArray,.int .i64 11].toArray/\Na S c0 0 (0)/\Na S c1 0 0)\/((b≠0)/\∃(c0:List Value)(c1:List Value),v= .tuple [.agg c0.toArray,.agg c1.toArray,.int .i64 0].toArray/\Na S c0 (a/b) (k_a)/\Na S c1 (a%b) k_a))):=by
 refine cbd hS (n:=63) func77 rfl λ_ L0 R0=>?_;have hbz:=@Qw b;have hcmp:=@cmpN_neg a b;have hla:=Qp h_a.1;refine wA<|sO L0 rfl<|ZW (cs:=c_a) rfl R0 rfl λb1 _ _ l1 r1 R1=>So rfl<|ZW (cs:=c_b) rfl R1 rfl λb2 _ _ l2 r2 R2=>So rfl<|ZK (cs:=zN1) ZZ R2 rfl λb3 _ R3=>So rfl<|ZK (cs:=zN1) ZZ R3 rfl λb4 _ R4=>Sa rfl λ_ L5=>sn<|wp_seq<|wp_block<|wA<|sO L5 rfl<|ZA rfl ZM Zp (R4.row r2) h_b.len<|So rfl<|Zi rfl Zgk (YU R4.holds<|h_b.up<|l1.trans l2) λv_1 S3 _ x1 v1=>?_;have R5:=R4.call x1;have l3:=x1.le;obtain rfl:=v1;intro _ L7;by_cases t1:((ZC b:Nat):Int)=(0:Int);refine sO L7 rfl<|cT t1 (ZP rfl rfl)<|Sa rfl<|kP [2,3,4,5,6,9] rfl<|ST rfl λ_ L10=>wp_seq<|Za ?_;have h1:Na S3 zN1 0 (0):=Na.zero _ _;refine sO L10 rfl<|ZH (cs:=zN1) ZZ Qx .nil (by rfl) λ_ L11=>?_;have h2:Na S3 zN1 0 (0):=Na.zero _ _;exact sO L11 rfl<|ZH (cs:=zN1) ZZ Qx .nil (by rfl)<|Sz rfl<|Zm rfl rfl (Yd R5) Zp h1.len rfl h1.ones λ_ R6=>Sz rfl<|Zm rfl rfl (Yd R6) Zp h2.len rfl h2.ones λ_ R7=>Sa rfl λ_ L15=>sn<|wp_ret<|YE<|Zt<|rt L15 (Res.aggW rfl ZM Zp (R7.has<|List.Mem.tail _<|List.Mem.head _) h1.len<|Res.aggW rfl ZM Zp (R7.has<|List.Mem.head _) h2.len<|.tmp rfl Res.nil)<|⟨_,_,rfl,R7.ext,(Or.inl ⟨by omega,⟨_,_,rfl,(h1.to rfl (by omega)),(h2.to rfl (by omega))⟩⟩)⟩;refine sO L7 rfl<|cF t1 (ZP rfl rfl)<|Sa rfl<|kP [2,3,4,5,6,9] rfl<|SF rfl<|WA<|So rfl<|ZA rfl ZM Zp (R5.row<|r1.up<|l2.trans l3) h_a.len<|So rfl<|ZA rfl ZM Zp (R5.row<|r2.up l3) h_b.len<|So rfl<|Zi rfl ent_133 (nat_Cmp R5.holds (h_a.up<|l1.trans<|l2.trans l3)<|h_b.up<|l1.trans<|l2.trans l3) λv_2 _ _ x2 v2=>?_;have R8:=R5.call x2;have l4:=x2.le;obtain rfl:=v2;intro _ L21;by_cases t2:(Zcy a b)<(0:Int);refine sO L21 rfl<|cT t2 (Zs rfl rfl)<|Sa rfl<|kP [2,3,4,5,6,15] rfl<|ST rfl λ_ L24=>wp_seq ?_;have L25:=(L24.kp [2,3,4,5,6] rfl);refine Zw (E0:=[(1000,b3,32,zN1,false)]) (H0:=[(b4,32,zN1)]) (n:=63) mixed 3 [] (λk=>if k=1000 then 2 else 0) (Zcn [(kvNa 0 0),.is (.agg (c_a:List Value).toArray),.stored 1000 32 (λS cs=>Na S cs 0 0) (λ_ _ _ l h=>h.up l)]) L25 (Yd R8) (by simp) (by simp) (by rfl) (by rfl) (by simp) (ZU ?_) ?_;refine(An ?_<|Ak ?_ ?_ trivial);refine Zb rfl (λ_ S5 _ _ _ A1=>?_);have h3:Na S5 zN1 0 (0):=Na.zero _ _;exact Cu A1.live<|ZH (cs:=zN1) ZZ Qx .nil (by rfl)<|A1.same ⟨_,rfl,h3⟩;exact dK [] rfl λA=>ZA rfl ZM Zp (A.run.row<|r1.up<|l2.trans<|l3.trans<|l4.trans A.le) h_a.len<|A.same rfl;refine Zb rfl (λ_ _ _ _ _ A3=>?_);obtain⟨_,e1,cs_1,rfl,h4⟩:=A3.known 0 rfl;obtain⟨c2,q1,m1,z1,_⟩:=A3.le0 _ _ _ _ _ (List.Mem.head _);exact Zal A3 (A3.live.add e1) rfl rfl m1 rfl Zp (z1.trans rfl) h4.len h4.ones rfl h4;intro S8 _ _ w12 l5 E1 R9 n1 L29 K1;have L30:=L29.dr K1 [1] rfl;obtain⟨b5,c3,m2,h5⟩:=K1 2 (by decide);obtain⟨c4,q2,m3,_,_⟩:=E1 _ _ _ _ _ (List.Mem.head _);obtain⟨hbe1,rfl⟩:=Zgy n1 m2 m3;obtain rfl:=hbe1.symm;have R10:Run _ _ S8 [(b3,32,c3),(b4,32,zN1)] w12:=Yb R9 n1 [(1000,b3,32,c3,true)] (by simp) (List.forall_mem_cons.2 ⟨m2,(by simp)⟩);exact sZ L30 rfl<|Zm rfl rfl (Yd R10) Zp h_a.len rfl h_a.ones λ_ R11=>Sa rfl λ_ L32=>sn<|wp_ret<|YE<|Zt<|rt L32 (Res.aggW rfl ZM Zp (R11.has<|List.Mem.tail _<|List.Mem.head _) h5.len<|Res.aggW rfl ZM Zp (R11.has<|List.Mem.head _) h_a.len<|.tmp rfl Res.nil)<|⟨_,_,rfl,R11.ext,(Or.inr ⟨by omega,⟨_,_,rfl,(h5.to (by exact(Nat.div_eq_of_lt (by omega)).symm) (by omega)),((h_a.up<|l1.trans<|l2.trans<|l3.trans<|l4.trans l5).to (by exact(Nat.mod_eq_of_lt (by omega)).symm) (by omega))⟩⟩)⟩;refine sO L21 rfl<|cF t2 (Zs rfl rfl)<|Sa rfl<|kP [2,3,4,5,6,15] rfl<|SF rfl λ_ L35=>wp_seq ?_;obtain⟨hb_a,⟨hs_a,rfl⟩|⟨hw_a,lo_a,bb_a,len_a,cap_a,rest_a,hlo_a,rfl,rw_a,hd_a,h2_a⟩⟩:=h_a.open;refine Za<|sO L35 rfl<|Zg (off':=1) rfl ZS rfl<|So rfl<|Zk rfl Xf (R8.row<|r1.up<|l2.trans<|l3.trans l4) rfl<|So rfl<|Yc rfl rfl underlying30<|Sa rfl<|ST rfl λ_ L39=>wp_seq ?_;obtain⟨hb_b,⟨hs_b,rfl⟩|⟨hw_b,lo_b,bb_b,len_b,cap_b,rest_b,hlo_b,rfl,rw_b,hd_b,h2_b⟩⟩:=h_b.open;have L40:=(L39.kp [2,3,4,5,6] rfl);refine Zw (E0:=[(1000,b3,32,zN1,false)]) (H0:=[(b4,32,zN1)]) (n:=63) mixed 13 [] (λk=>if k=1000 then 12 else 0) (Zcn [.is (.pointer (some ⟨b1,0,none⟩)),.is (.int .u64 (a:Int)),.is (.pointer (some ⟨b2,0,none⟩)),.is (.int .u64 (b:Int)),.is (.int .u64 ((a:Int)/(b:Int))),(kvNa (a/b) k_a),.is (.pointer (some ⟨b1,0,none⟩)),.is (.int .u64 (a:Int)),.is (.pointer (some ⟨b2,0,none⟩)),.is (.int .u64 (b:Int)),.is (.int .u64 ((a:Int)%(b:Int))),(kvNa (a%b) k_a),.stored 1000 32 (λS cs=>Na S cs (a/b) k_a) (λ_ _ _ l h=>h.up l)]) L40 (Yd R8) (by simp) (by simp) (by rfl) (by rfl) (by simp) (ZU ?_) ?_;refine(An ?_<|Al ?_ ?_ ?_ ?_<|Am ?_ ?_ ?_ ?_ ?_ ?_ ?_ ?_ trivial);exact dK [] rfl λA=>Zg (off':=0) rfl Yt rfl<|A.same rfl;exact dK [0] rfl λA=>Zk rfl YB (A.run.row<|r1.up<|l2.trans<|l3.trans<|l4.trans A.le) rfl<|A.same rfl;exact dK [] rfl λA=>Zg (off':=0) rfl Yt rfl<|A.same rfl;exact dK [2] rfl λA=>Zk rfl YB (A.run.row<|r2.up<|l3.trans<|l4.trans A.le) rfl<|A.same rfl;exact dK [1,3] rfl λA=>XK (z:=((a:Int)/(b:Int))) rfl rfl (by omega) (Za3 (k:=.u64) (by omega) (by omega) (show _<=(18446744073709551615:Int) by omega))<|A.same rfl;refine Zb rfl (λ_ S14 _ _ _ A9=>?_);obtain⟨_,e7,rfl⟩:=A9.known 4 rfl;have h6:Na S14 [(.int .u64 ((a:Int)/(b:Int))),(.slice none 0 0)] (a/b) (k_a):=by rw[<-Int.natCast_ediv];exact Na.ofLowK (Nat.lt_of_le_of_lt (Nat.div_le_self _ _) hs_a) (Nat.le_trans (Nat.div_le_self _ _) hb_a)
 exact Cu (A9.live.add e7)<|ZH (cs:=[(.int .u64 ((a:Int)/(b:Int))),(.slice none 0 0)]) ZZ Qx (.cons rfl Yt rfl (by decide) .nil) (by rfl)<|A9.same ⟨_,rfl,h6⟩;exact dK [] rfl λA=>Zg (off':=0) rfl Yt rfl<|A.same rfl;exact dK [6] rfl λA=>Zk rfl YB (A.run.row<|r1.up<|l2.trans<|l3.trans<|l4.trans A.le) rfl<|A.same rfl;exact dK [] rfl λA=>Zg (off':=0) rfl Yt rfl<|A.same rfl;exact dK [8] rfl λA=>Zk rfl YB (A.run.row<|r2.up<|l3.trans<|l4.trans A.le) rfl<|A.same rfl;exact dK [7,9] rfl λA=>XZ (z:=((a:Int)%(b:Int))) rfl rfl (by omega) (Zb8 (by omega))<|A.same rfl;refine Zb rfl (λ_ S20 _ _ _ A15=>?_);obtain⟨_,e12,rfl⟩:=A15.known 10 rfl;have h7:Na S20 [(.int .u64 ((a:Int)%(b:Int))),(.slice none 0 0)] (a%b) (k_a):=by rw[<-Int.natCast_emod];exact Na.ofLowK (Nat.lt_of_le_of_lt (Nat.mod_le _ _) hs_a) (Nat.le_trans (Nat.mod_le _ _) hb_a)
 exact Cu (A15.live.add e12)<|ZH (cs:=[(.int .u64 ((a:Int)%(b:Int))),(.slice none 0 0)]) ZZ Qx (.cons rfl Yt rfl (by decide) .nil) (by rfl)<|A15.same ⟨_,rfl,h7⟩;refine Zb rfl (λ_ _ _ _ _ A16=>?_);obtain⟨_,e13,c5,rfl,h8⟩:=A16.known 5 rfl;obtain⟨c6,q3,m4,z2,_⟩:=A16.le0 _ _ _ _ _ (List.Mem.head _);exact Zal A16 (A16.live.add e13) rfl rfl m4 rfl Zp (z2.trans rfl) h8.len h8.ones rfl h8;intro S22 _ _ w27 l6 E2 R12 n2 L54 K2;obtain⟨_,e14,c7,rfl,h9⟩:=K2 11 (by decide);have L55:=L54.add e14;clear L54;obtain⟨b6,c8,m5,h10⟩:=K2 12 (by decide);obtain⟨c9,q4,m6,_,_⟩:=E2 _ _ _ _ _ (List.Mem.head _);obtain⟨hbe2,rfl⟩:=Zgy n2 m5 m6;obtain rfl:=hbe2.symm;have R13:Run _ _ S22 [(b3,32,c8),(b4,32,zN1)] w27:=Yb R12 n2 [(1000,b3,32,c8,true)] (by simp) (List.forall_mem_cons.2 ⟨m5,(by simp)⟩);exact sZ L55 rfl<|Zm rfl rfl (Yd R13) Zp h9.len rfl h9.ones λ_ R14=>Sa rfl λ_ L57=>sn<|wp_ret<|YE<|Zt<|rt L57 (Res.aggW rfl ZM Zp (R14.has<|List.Mem.tail _<|List.Mem.head _) h10.len<|Res.aggW rfl ZM Zp (R14.has<|List.Mem.head _) h9.len<|.tmp rfl Res.nil)<|⟨_,_,rfl,R14.ext,(Or.inr ⟨by omega,⟨_,_,rfl,(h10.to rfl (by omega)),(h9.to rfl (by omega))⟩⟩)⟩;have hl_b:=hd_b.hlen;have hc_b:=hd_b.hcap;have hg_b:=hd_b.hbig;have hW_b:18446744073709551616<=b:=hw_b;exfalso;omega;have hl_a:=hd_a.hlen;have hc_a:=hd_a.hcap;have hg_a:=hd_a.hbig;have hW_a:18446744073709551616<=a:=hw_a;refine Za<|sO L35 rfl<|Zg (off':=1) rfl ZS rfl<|So rfl<|Zk rfl Xf (R8.row<|r1.up<|l2.trans<|l3.trans l4) rfl<|So rfl<|Yc rfl rfl underlying30<|Sa rfl<|SF rfl λ_ L61=>wp_seq ?_;obtain⟨hb_b,⟨hs_b,rfl⟩|⟨hw_b,lo_b,bb_b,len_b,cap_b,rest_b,hlo_b,rfl,rw_b,hd_b,h2_b⟩⟩:=h_b.open;refine Za<|sO L61 rfl<|Zg (off':=1) rfl ZS rfl<|So rfl<|Zk rfl Xf (R8.row<|r2.up<|l3.trans l4) rfl<|So rfl<|Yc rfl rfl underlying30<|Sa rfl<|kP [2,3,4,5,6,38] rfl<|ST rfl<|WA<|So rfl<|Zg (off':=1) rfl ZS rfl<|So rfl<|Zk rfl Xf (R8.row<|r1.up<|l2.trans<|l3.trans l4) rfl<|So rfl<|does_appendNil rfl rfl underlying30 ZG Zbp Zah rfl R8 (hd_a.up<|l1.trans<|l2.trans<|l3.trans l4) (by omega) (by omega) λb7 cap1 rest_1 _ hle1 R15=>Sa rfl<|SW<|Sm rfl<|So rfl<|Zg (off':=0) rfl Yt rfl<|So rfl<|Zk rfl YB (R15.row<|r2.up<|l3.trans l4) rfl<|So rfl<|XN rfl ent_134 (nat_short (dv:=b) R15 (by omega) (by omega) (by omega) (by omega) hd_a.hlt (by omega)) ?_;rintro _ _ ⟨v_3,_,ds1,rfl,l7,R16,v3⟩;refine⟨v_3,rfl,?_⟩;obtain⟨rfl,ho1,ho2,ho3⟩:=v3;have hsl:=ho1;have hsx:=ho2;have hsq:=ho3;intro _ L74;refine sa L74 rfl<|kP [2,3,4,5,6,7,8] rfl<|SW<|Sm rfl λ_ L77=>?_;obtain⟨S24,l8,r3,R17⟩:=(R16).freeze;have hd1:Dg S24 (some ⟨b7,0,none⟩) len_a cap1 ds1:=⟨by first|rfl|omega,by omega,by omega,hsx,λ_=>⟨_,_,rfl,r3⟩⟩;refine sO L77 rfl<|Zi rfl Zd9 (Zd2 R17.holds (k:=k_a) hd1 (by rw[hsq,ZX (by decide)];exact Nat.le_trans (Nat.div_le_self _ _) h_a.1)) λv_4 S25 _ x4 v4=>?_;have R18:=R17.call x4;obtain⟨c10,rfl,h11⟩:=v4;intro _ L78;refine sm L78 rfl λ_ L79=>?_;have h12:Na S25 [(.int .u64 ((val W64 (ZL W64 a)%b:Nat):Int)),(.slice none 0 0)] (a%b) (k_a):=by rw[ZX (by decide)];exact Na.ofLowK (Nat.lt_trans (Nat.mod_lt _ (by omega)) hs_b) (Nat.le_trans (Nat.mod_le _ _) hb_a)
 exact sO L79 rfl<|ZH (cs:=[(.int .u64 ((val W64 (ZL W64 a)%b:Nat):Int)),(.slice none 0 0)]) ZZ Qx (.cons rfl Yt rfl (by decide) .nil) (by rfl)<|Sz rfl<|Zm rfl rfl (Yd R18) Zp h11.len rfl h11.ones λ_ R19=>Sz rfl<|Zm rfl rfl (Yd R19) Zp h12.len rfl h12.ones λ_ R20=>Sa rfl λ_ L83=>sn<|wp_ret<|YE<|Zt<|rt (L83.kp [2,3,4,5,6] rfl) (Res.aggW rfl ZM Zp (R20.has<|List.Mem.tail _<|List.Mem.head _) h11.len<|Res.aggW rfl ZM Zp (R20.has<|List.Mem.head _) h12.len<|.tmp rfl Res.nil)<|⟨_,_,rfl,R20.ext,(Or.inr ⟨by omega,⟨_,_,rfl,(h11.to (by rw[hsq,ZX (by decide)]) (by omega)),(h12.to rfl (by omega))⟩⟩)⟩;have hl_b:=hd_b.hlen;have hc_b:=hd_b.hcap;have hg_b:=hd_b.hbig;have hW_b:18446744073709551616<=b:=hw_b;refine Za<|sO L61 rfl<|Zg (off':=1) rfl ZS rfl<|So rfl<|Zk rfl Xf (R8.row<|r2.up<|l3.trans l4) rfl<|So rfl<|Yc rfl rfl underlying30<|Sa rfl<|kP [2,3,4,5,6,38] rfl<|SF rfl λ_ L89=>wp_skip<|Zx<|Zc<|wA<|sO L89 rfl<|Zg (off':=1) rfl ZS rfl<|So rfl<|Zk rfl Xf (R8.row<|r1.up<|l2.trans<|l3.trans l4) rfl<|So rfl<|Zg (off':=1) rfl ZS rfl<|So rfl<|Zk rfl Xf (R8.row<|r2.up<|l3.trans l4) rfl<|So rfl<|Zi rfl ent_136 (nat_long R8.holds (kb:=k_a) (hd_a.up<|l1.trans<|l2.trans<|l3.trans l4) (hd_b.up<|l1.trans<|l2.trans<|l3.trans l4) h2_b (by rw[<-hl_b];exact Zfm (by decide) (by omega)) (by have q:=Zh1 (show b<=a by omega);omega) (by omega) (by rw[ZX (by decide)];exact h_a.1)) λv_5 _ _ x5 v5=>?_;have R21:=R8.call x5;obtain⟨c11,c12,rfl,h13,h14⟩:=v5;intro _ L94;refine sm L94 rfl<|So rfl<|Zj rfl rfl<|So rfl<|Zj rfl rfl<|Sz rfl<|Zm rfl rfl (Yd R21) Zp h13.len rfl h13.ones λ_ R22=>Sz rfl<|Zm rfl rfl (Yd R22) Zp h14.len rfl h14.ones λ_ R23 _ L99=>sn<|wp_seq ?_;have L101:=((L99.kp [4,5,6] rfl).kp [4,5,6] rfl);refine Zw (E0:=[(1000,b3,32,c11,false)]) (H0:=[(b4,32,c12)]) (n:=63) mixed 3 [] (λk=>if k=1000 then 2 else 0) (Zcn [.is (.agg (c11:List Value).toArray),.is (.agg (c12:List Value).toArray),.stored 1000 32 (λS cs=>Na S cs (val W64 (ZL W64 a)/val W64 (ZL W64 b)) k_a) (λ_ _ _ l h=>h.up l)]) L101 (Yd R23) (by simp) (by simp) (by rfl) (by rfl) (by simp) (ZU ?_) ?_;refine(An ?_<|Ak ?_ ?_ trivial);exact dK [] rfl λA=>ZA rfl ZM Zp (A.has0 (List.Mem.head _) (by rfl)) h13.len<|A.same rfl;exact dK [] rfl λA=>ZA rfl ZM Zp (A.run.has<|List.mem_append_right _<|List.Mem.head _) h14.len<|A.same rfl;refine Zb rfl (λ_ _ _ _ _ A19=>?_);obtain⟨_,e15,rfl⟩:=A19.known 0 rfl;obtain⟨c13,q5,m7,z3,_⟩:=A19.le0 _ _ _ _ _ (List.Mem.head _);exact Zal A19 (A19.live.add e15) rfl rfl m7 rfl Zp (z3.trans h13.len) h13.len h13.ones rfl<|h13.up A19.le;intro S30 _ _ w40 l11 E3 R24 n3 L105 K3;have L106:=L105.dr K3 [1] rfl;obtain⟨b8,c14,m8,h15⟩:=K3 2 (by decide);obtain⟨c15,q6,m9,_,_⟩:=E3 _ _ _ _ _ (List.Mem.head _);obtain⟨hbe3,rfl⟩:=Zgy n3 m8 m9;obtain rfl:=hbe3.symm;have R25:Run _ _ S30 [(b3,32,c14),(b4,32,c12)] w40:=Yb R24 n3 [(1000,b3,32,c14,true)] (by simp) (List.forall_mem_cons.2 ⟨m8,(by simp)⟩);exact sZ L106 rfl<|Zm rfl rfl (Yd R25) Zp h14.len h14.len h14.ones λ_ R26=>Sa rfl λ_ L108=>sn<|wp_ret<|rt L108 (Res.aggW rfl ZM Zp (R26.has<|List.Mem.tail _<|List.Mem.head _) h15.len<|Res.aggW rfl ZM Zp (R26.has<|List.Mem.head _) h14.len<|.tmp rfl Res.nil)<|⟨_,_,rfl,R26.ext,(Or.inr ⟨by omega,⟨_,_,rfl,(h15.to (by simp only[ZX (show 2<=W64 by decide)]) (by omega)),((h14.up l11).to (by simp only[ZX (show 2<=W64 by decide)]) (by omega))⟩⟩)⟩
end Go.Cham
