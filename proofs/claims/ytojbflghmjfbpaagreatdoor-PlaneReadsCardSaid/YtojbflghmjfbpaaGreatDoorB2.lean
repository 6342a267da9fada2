/- YtojbflghmjfbpaaGreatDoorB2, a part of the proof that the claim's law answers true for every input, made small by program from the texts of this repo's wip/. No condition beyond those that the statements bear. -/
import Derived.Test.YtojbflghmjfbpaaGreatDoorB1
namespace Go.Cham
open Go Go.RowKit Go.Proofs
theorem ret_of_below {P:Program} {f:FuncId} {args:Array Value} {S:Sh} {w:World} {v:Value} (hS:ZU S w) (h:Calls P f args w λe w'=>e= .returned v/\Below w.heap.size w w'):Calls P f args w (Ret S w (λ_ u=>u=v)):=by
 refine Calls.mono h λe w' ⟨h1,h2⟩=>⟨v,S,h1,⟨Sh.le.refl S,λb o hb=>?_,λb o hb=>.inl ⟨o,hb⟩,h2⟩,rfl⟩;rw[h2.block b (ZU.lt hS hb)];exact hS b o hb
def trimD (s:ByteArray):ByteArray:=⟨(Lib.trimS s.data.toList [48,49,50,51,52,53,54,55,56,57]).toArray⟩
theorem dig_mem {x:UInt8}:([48,49,50,51,52,53,54,55,56,57]:List UInt8).contains x=true↔48<=x.toNat/\x.toNat<=57:=by
 revert x;have key:∀n:Nat,n<256->(([48,49,50,51,52,53,54,55,56,57]:List UInt8).contains (UInt8.ofNat n)=true↔48<=n/\n<=57):=by decide+kernel
 intro x;have:=key x.toNat x.toNat_lt;simpa using this
theorem Zgk {α:Type} {p:α->Bool} {l:List α}:l.dropWhile p=[]↔∀x∈l,p x=true:=by
 induction l with
 |nil=>simp
 | cons a r ih=>
   rw[List.dropWhile_cons]
   split
   · rename_i h;rw[ih];simp[h]
   · rename_i h;simp[h]
theorem mem_of_trimRight {l cs:List UInt8} {x:UInt8} (h:∀y∈Lib.trimRightS l cs,cs.contains y=true) (hx:x∈l):cs.contains x=true:=by
 unfold Lib.trimRightS at h;rcases Classical.em (l.reverse.dropWhile (cs.contains ·)=[]) with e|e;exact Zgk.1 e x (by simpa using hx);exfalso
 match e2:l.reverse.dropWhile (cs.contains ·),e with
 | a ::r,_=>
   have h1:¬cs.contains a=true:=by
     have:=List.head_dropWhile_not (cs.contains ·) (l:=l.reverse) (by rw[e2];simp)
     simp only[e2,List.head_cons] at this
     rw[this];simp
   exact h1 (h a (by rw[e2];simp))
theorem trimD_nil {s:ByteArray}:trimD s=(⟨#[]⟩:ByteArray)↔∀c∈bl s,48<=c/\c<=57:=by
 have e1:trimD s=(⟨#[]⟩:ByteArray)↔Lib.trimS s.data.toList [48,49,50,51,52,53,54,55,56,57]=[]:=by unfold trimD;constructor;intro h;have:=congrArg (λx:ByteArray=>x.data.toList) h;simpa using this;intro h;rw[h]
 rw[e1];unfold Lib.trimS Lib.trimLeftS;rw[Zgk];constructor;intro h c hc;unfold bl at hc;obtain⟨x,hx,rfl⟩:=List.mem_map.1 hc;exact dig_mem.1 (mem_of_trimRight h hx);intro h x hx;refine dig_mem.2 (h x.toNat (List.mem_map.2 ⟨x,?_,rfl⟩));unfold Lib.trimRightS at hx;rw[List.mem_reverse] at hx;have:=(List.dropWhile_sublist _).subset hx;simpa using this
def tpre (s:ByteArray):ByteArray:=if(bl s).getD 0 0=45 then YV ((bl s).drop 1) else s
theorem u8_toNat_45 {x:UInt8}:x.toNat=45↔x=45:=by
 constructor;intro h;apply UInt8.toNat_inj.1;simpa using h;intro h;subst h;rfl
theorem tpre_lib (s:ByteArray):(⟨(Lib.trimPrefix s.data.toList [45]).toArray⟩:ByteArray)=tpre s:=by
 unfold Lib.trimPrefix Lib.hasPrefix tpre;have e:bl s=s.data.toList.map UInt8.toNat:=rfl
 cases h:s.data.toList with
 | nil=>
   rw[e,h]
   simp
   apply ByteArray.ext
   rw[<-Array.toArray_toList (xs:=s.data),h]
 | cons x r=>
   rw[e,h]
   simp only[List.map_cons,List.getD_cons_zero,List.drop_succ_cons,List.drop_zero,List.isPrefixOf,Bool.and_true,List.length_singleton,beq_iff_eq]
   by_cases hx:x=45
   · subst hx
     simp only[↓reduceIte]
     rw[if_pos (by rfl)]
     unfold YV
     rw[List.map_map]
     have:(UInt8.ofNat ∘ UInt8.toNat)=id:=by funext x;simp
     rw[this,List.map_id]
   · rw[if_neg (λq=>hx q.symm),if_neg (λq=>hx (u8_toNat_45.1 q))]
     apply ByteArray.ext
     rw[<-Array.toArray_toList (xs:=s.data),h]
theorem bl_drop1 (s:ByteArray):bl (YV ((bl s).drop 1))=(bl s).drop 1:=Qd (λc hc=>bl_lt s c (List.mem_of_mem_drop hc))
theorem bl_tpre (s:ByteArray):bl (tpre s)=if(bl s).getD 0 0=45 then(bl s).drop 1 else bl s:=by
 unfold tpre;split;exact bl_drop1 s;rfl
def Zge (l:List Nat):Int:=if Zdr l=true then((QM l).length:Int) else -1
theorem idx47_lib (s:ByteArray):Lib.indexByte s.data.toList 47=Zge (bl s):=by
 show _=Zge (s.data.toList.map UInt8.toNat)
 induction s.data.toList with
 |nil=>rfl
 | cons x r ih=>
   have hx:(x == 47)=decide (x.toNat=47):=by
     by_cases h:x=47
     · subst h;rfl
     · have:x.toNat≠47:=λq=>h (by apply UInt8.toNat_inj.1;simpa using q)
       simp[h,this]
   unfold Lib.indexByte
   rw[hx,ih]
   unfold Zge Zdr QM
   simp only[List.map_cons,Zbr]
   by_cases h:x.toNat=47
   · simp[h]
   · simp only[h,decide_false,Bool.false_eq_true,if_false]
     cases (Zbr (r.map UInt8.toNat)).2.2 with
     |false=>simp
     | true=>
       simp only[if_true,List.length_cons]
       rw[if_neg (by simp)]
       rfl
theorem Zdd {l:List Nat} (h:∀c∈l,c<256):(∀c∈(Zbr l).1,c<256)/\(∀c∈(Zbr l).2.1,c<256):=by
 have hb:=(QH l).2
 cases ht:(Zbr l).2.2 with
 | true=>
   rw[ht] at hb
   simp only[if_true] at hb
   exact⟨λc hc=>h c (by rw[hb];simp[hc]),λc hc=>h c (by rw[hb];simp[hc])⟩
 | false=>
   rw[ht] at hb
   simp only[Bool.false_eq_true,if_false,List.append_nil] at hb
   refine⟨λc hc=>h c (by rw[hb];exact hc),?_⟩
   have:(Zbr l).2.1=[]:=by
     have hno:47∉l:=by rw[hb];exact(QH l).1
     rw[cutl_no hno]
   rw[this];simp
theorem idx47_neg {l:List Nat} (h:¬ 0<=Zge l):Zdr l=false/\QM l=l/\(Zbr l).2.1=[]:=by
 unfold Zge at h
 cases ht:Zdr l with
 |true=>rw[ht] at h;simp at h
 | false=>
   have hb:=(QH l).2
   have ht':(Zbr l).2.2=false:=ht
   rw[ht'] at hb
   simp only[Bool.false_eq_true,if_false,List.append_nil] at hb
   have hno:47∉l:=by rw[hb];exact(QH l).1
   exact⟨rfl,hb.symm,by rw[cutl_no hno]⟩
theorem Zgd {l:List Nat} (h:0<=Zge l):Zdr l=true/\Zge l=((QM l).length:Int)/\l=QM l++47::(Zbr l).2.1:=by
 unfold Zge at h ⊢
 cases ht:Zdr l with
 |false=>rw[ht] at h;simp at h
 | true=>
   have hb:=(QH l).2
   have ht':(Zbr l).2.2=true:=ht
   rw[ht'] at hb
   exact⟨rfl,by simp,by simpa [QM] using hb⟩
theorem cut_left {s:ByteArray} {n:Nat} (h:bl s=QM (bl s)++47::(Zbr (bl s)).2.1) (hn:n=(QM (bl s)).length):s.extract 0 n=YV (QM (bl s)):=by
 apply bl_inj;rw[Zbf,Qd (l:=QM (bl s)) (Zdd (bl_lt s)).1,List.drop_zero,hn];exact(congrArg (List.take _) h).trans (List.take_left)
theorem cut_right {s:ByteArray} {n:Nat} (h:bl s=QM (bl s)++47::(Zbr (bl s)).2.1) (hn:n=(QM (bl s)).length+1):s.extract n s.size=YV (Zbr (bl s)).2.1:=by
 apply bl_inj;rw[Zbf,Qd (Zdd (bl_lt s)).2,List.take_of_length_le (by rw[YD];omega),hn];have h':bl s=(QM (bl s)++[47])++(Zbr (bl s)).2.1:=by rw[List.append_assoc];exact h
 have hl:(QM (bl s)).length+1=(QM (bl s)++[47]).length:=by simp
 rw[hl];exact(congrArg (List.drop _) h').trans List.drop_left
theorem Zfk {S:Sh} {w:World} (hS:ZU S w) {s sep:ByteArray} (hsep:sep=⟨#[45]⟩):Calls Tryz.prog 95 [.string s,.string sep].toArray w (Ret S w (λ_ v=>v= .string (tpre s))):=by
 subst hsep;rw[<-tpre_lib];exact Zbg hS (Tryz.strings_TrimPrefix s ⟨#[45]⟩ w)
theorem strings_TrimR {S:Sh} {w:World} (hS:ZU S w) {s sep:ByteArray} (hsep:sep=⟨#[48,49,50,51,52,53,54,55,56,57]⟩) (hs:s.size<=9223372036854775807):Calls Tryz.prog 149 [.string s,.string sep].toArray w (Ret S w (λ_ v=>v= .string (trimD s))):=by
 subst hsep;exact ret_of_below hS (Tryz.strings_Trim_digits s w hs)
theorem Zf7 {S:Sh} {w:World} (hS:ZU S w) {s sep:ByteArray} (hsep:sep=⟨#[47]⟩):Calls Tryz.prog 169 [.string s,.string sep].toArray w (Ret S w (λ_ v=>v= .int .i64 (Zge (bl s)))):=by
 subst hsep;rw[<-idx47_lib];exact Zbg hS (Tryz.stringslite_Index_one s 47 w)
theorem fsize_tpre {s nm:ByteArray} (h:bl nm=QM (bl s)):bl (tpre nm)=Qo (bl s):=by
 rw[bl_tpre,h];unfold Qo Zcp;by_cases q:(QM (bl s)).getD 0 0=45 <;> simp only[q,if_true,if_false,decide_true,decide_false,Bool.false_eq_true]
theorem Zd9 {s nm sz:ByteArray} (h:bl nm=QM (bl s)) (h2:bl sz=Qo (bl s)):((sz.size:Nat):Int)<((nm.size:Nat):Int)↔Zcp (bl s)=true:=by
 rw[<-YD,<-YD,h,h2];unfold Qo
 cases hm:Zcp (bl s) with
 |false=>simp
 | true=>
   have:(QM (bl s)).length≠0:=by
     intro e
     rw[List.length_eq_zero_iff] at e
     unfold Zcp at hm
     rw[e] at hm
     simp at hm
   simp only[if_true,List.length_drop,iff_true]
   omega
theorem str48 {sz:ByteArray}:sz=(⟨#[48]⟩:ByteArray)↔bl sz=[48]:=⟨λh=>by rw[h];rfl,λh=>bl_inj (by rw[h];rfl)⟩
theorem fden_not {s:ByteArray} (h:¬Zdr (bl s)=true):Qr (bl s)=[49]:=by unfold Qr;rw[if_neg h]
theorem fden_two {s:ByteArray} (h:Zdr (bl s)=true):Qr (bl s)=(Zbr (bl s)).2.1:=by unfold Qr;rw[if_pos h]
theorem cutl_len (l:List Nat):(QM l).length<=l.length/\(Zbr l).2.1.length<=l.length:=by
 have hb:=(QH l).2;have hl:=congrArg List.length hb
 cases ht:(Zbr l).2.2 with
 |true=>rw[ht] at hl;simp only[List.length_append,if_true,List.length_cons] at hl;exact⟨by unfold QM;omega,by omega⟩
 | false=>
   rw[ht] at hl
   simp only[Bool.false_eq_true,if_false,List.append_nil] at hl
   have hno:47∉l:=by
     have h1:=(QH l).1
     have h2:=(QH l).2
     rw[ht] at h2
     simp only[Bool.false_eq_true,if_false,List.append_nil] at h2
     rwa [<-h2] at h1
   have:(Zbr l).2.1=[]:=by rw[cutl_no hno]
   exact⟨by unfold QM;omega,by rw[this];simp⟩
theorem fsize_len (l:List Nat):(Qo l).length<=l.length:=by
 have:=(cutl_len l).1;unfold Qo;split;rw[List.length_drop];omega;exact this
theorem fden_len (l:List Nat):(Qr l).length<=l.length+1:=by
 have:=(cutl_len l).2;unfold Qr;split;omega;simp
theorem dig_wd {l:List Nat} {n:Nat} (h0:0<n) (h:∀c∈l,48<=c/\c<=57) (h1:n=l.length/\(l.length=1\/¬l.getD 0 0=48)):wd l:=⟨by intro e;subst e;have:=h1.1;simp at this;omega,h,h1.2⟩
theorem fraw_sI (l:List Nat):fraw l=sI (Zcp l) (Xi (Qo l)):=rfl
theorem Zb3 {l:List Nat} (h:Zds l):Za3 l=12/\Zbv l=0:=by
 have e:Za3 l=12:=by unfold Za3;rw[if_pos h]
 exact⟨e,fval_bad (by rw[e];decide)⟩
theorem Zan {l:List Nat} (h:¬Zds l) (h2:Ql l):Za3 l=3/\Zbv l=0:=by
 have e:Za3 l=3:=by unfold Za3;rw[if_neg h,if_pos h2]
 exact⟨e,fval_bad (by rw[e];decide)⟩
theorem Zc6 {l:List Nat} (h:¬Zds l) (h2:¬Ql l) (h3:fred l):Za3 l=12/\Zbv l=0:=by
 have e:Za3 l=12:=by unfold Za3;rw[if_neg h,if_neg h2,if_pos h3]
 exact⟨e,fval_bad (by rw[e];decide)⟩
theorem ferr_ok {l:List Nat} (h:¬Zds l) (h2:¬Ql l) (h3:¬fred l):Za3 l=0/\Zbv l=mkRat (sI (Zcp l) (Xi (Qo l))) (Xi (Qr l)):=by
 have e:Za3 l=0:=by unfold Za3;rw[if_neg h,if_neg h2,if_neg h3]
 exact⟨e,by rw[fval_ok e,fraw_sI]⟩
theorem fval_bdB {k:Nat} (hB:∀l:List Nat,(∀c∈l,48<=c/\c<=57)->l.length<=256->Xi l<=2^k) (l:List Nat):(Zbv l).num.natAbs<=2^k/\(Zbv l).den<=2^k:=by
 by_cases h:Za3 l=0;rcases ferr_cases l with h1|h1|h1|h1;omega;omega;omega;have hb:=h1.1;have hl:=h1.2.1;simp only[Zds,not_or,Classical.not_not,not_and] at hb;simp only[Ql,not_or,Nat.not_lt] at hl;have hd:=Ze0 h1.1 h1.2.2.1;rw[fval_ok h];exact⟨Xk (by omega) (by rw[Zgg];exact hB _ hb.1.2.1 hl.1),Xl (by omega) (hB _ hb.2.1.2.1 hl.2)⟩;rw[fval_bad h];exact⟨Nat.zero_le _,Nat.one_le_two_pow⟩
theorem YQ:∀l:List Nat,(Zbv l).num.natAbs<=2^900/\(Zbv l).den<=2^900:=fval_bdB (k:=900) (λ_ h hl=>pval_le h hl)
theorem Fs.num_le {S:Sh} {cs:List Value} {q:Rat} {k:Nat} (h:Fs S cs [q] k):q.num.natAbs<=2^k:=by
 obtain⟨us,_,hi⟩:=h.num;exact hi.le
theorem Fs.toR {S:Sh} {cs:List Value} {p q:Rat} {k k':Nat} (h:Fs S cs [p] k) (e:[p]=[q]) (hk:q.num.natAbs<=2^k'/\q.den<=2^k'):Fs S cs [q] k':=by
 have e':p=q:=by simpa using e
 subst e';obtain⟨a,b,c,d,e,rfl,h1,h2,_⟩:=h.one;exact Fr.fs ⟨a,b,c,d,e,rfl,h1.rek hk.1,h2.rek (by omega),hk.2⟩
theorem Zdq {a b:Rat} {ka kb:Nat} (h1:a.num.natAbs<=2^ka) (h2:a.den<=2^ka) (h3:b.num.natAbs<=2^kb) (h4:b.den<=2^kb):(a+b).num.natAbs<=2^(ka+kb+1)/\(a+b).den<=2^(ka+kb+1):=by
 rw[<-Qa];have hd:=Nat.mul_pos a.den_pos b.den_pos;have e:2^(ka+kb+1)=2^ka*2^kb+2^ka*2^kb:=by rw[Nat.pow_succ,Nat.pow_add];omega
 have p1:=Nat.mul_le_mul h1 h4;have p2:=Nat.mul_le_mul h3 h2;have p3:=Nat.mul_le_mul h2 h4;rw[Nat.mul_comm (2^kb)] at p2;refine⟨Xk hd ?_,Xl hd (by omega)⟩;have q1:=Int.natAbs_mul a.num (b.den:Int);have q2:=Int.natAbs_mul b.num (a.den:Int);rw[Int.natAbs_natCast] at q1 q2;have q3:=Int.natAbs_add_le (a.num*(b.den:Int)) (b.num*(a.den:Int));omega
theorem sub_bd {a b:Rat} {ka kb:Nat} (h1:a.num.natAbs<=2^ka) (h2:a.den<=2^ka) (h3:b.num.natAbs<=2^kb) (h4:b.den<=2^kb):(a - b).num.natAbs<=2^(ka+kb+1)/\(a - b).den<=2^(ka+kb+1):=by
 rw[Rat.sub_eq_add_neg];exact Zdq h1 h2 (by rw[(Zcz b).1,Int.natAbs_neg];exact h3) h4
theorem mul_bd {a b:Rat} {ka kb:Nat} (h1:a.num.natAbs<=2^ka) (h2:a.den<=2^ka) (h3:b.num.natAbs<=2^kb) (h4:b.den<=2^kb):(a*b).num.natAbs<=2^(ka+kb)/\(a*b).den<=2^(ka+kb):=by
 rw[<-Zbk,Nat.pow_add];have hd:=Nat.mul_pos a.den_pos b.den_pos;have p1:=Nat.mul_le_mul h1 h3;have p3:=Nat.mul_le_mul h2 h4;rw[<-Nat.pow_add] at p1 p3 ⊢;exact⟨Xk hd (by rw[Int.natAbs_mul];exact p1),Xl hd p3⟩
theorem div_bd {a b:Rat} {ka kb:Nat} (h1:a.num.natAbs<=2^ka) (h2:a.den<=2^ka) (h3:b.num.natAbs<=2^kb) (h4:b.den<=2^kb) (h0:b.num≠0):(a / b).num.natAbs<=2^(ka+kb)/\(a / b).den<=2^(ka+kb):=by
 rw[<-Zbl h0];have hd:=Nat.mul_pos a.den_pos (show 0<b.num.natAbs by omega);have p1:=Nat.mul_le_mul h1 h4;have p3:=Nat.mul_le_mul h2 h3;rw[<-Nat.pow_add] at p1 p3;refine⟨Xk hd ?_,Xl hd p3⟩;rw[Int.natAbs_mul,Int.natAbs_mul,Int.natAbs_natCast];have:(Yy b.num).natAbs=1:=by rcases sgnZ_cases b.num with e|e|e;rw[e];rfl;exact absurd (Yf.1 e) h0;rw[e];rfl
 rw[this,Nat.mul_one];exact p1
theorem mkRat_quo {a b:Int} (h:b≠0):mkRat (if b<0 then -a else a) b.natAbs=(a:Rat) / (b:Rat):=by
 rw[Rat.mkRat_eq_div];have hb:(b:Rat)≠0:=by intro z;exact h (by exact_mod_cast z)
 split;have e:((b.natAbs:Nat):Rat)= -(b:Rat):=by
  have:((b.natAbs:Nat):Int)= -b:=by omega
  rw[<-Rat.intCast_neg,<-this];rfl
 rw[e,Rat.intCast_neg];grind;have e:((b.natAbs:Nat):Rat)=(b:Rat):=by
  have:((b.natAbs:Nat):Int)=b:=by omega
  rw[<-Rat.intCast_natCast,this]
 rw[e]
theorem quo_bd {a b:Int} {ka kb:Nat} (h1:a.natAbs<=2^ka) (h2:b.natAbs<=2^kb) (h:b≠0):((a:Rat) / (b:Rat)).num.natAbs<=2^(ka+kb)/\((a:Rat) / (b:Rat)).den<=2^(ka+kb):=by
 rw[<-mkRat_quo h];have hd:0<b.natAbs:=by omega
 refine⟨Xk hd ?_,Xl hd (Nat.le_trans h2 (YK (by omega)))⟩;refine Nat.le_trans ?_ (Nat.le_trans h1 (YK (by omega)));split <;> omega
end Go.Cham
namespace Go.Cham
open Go Go.RowKit
section
variable {P : Program} {a : Act} {w : World} {n : Nat} {l : List (Nat × Value)} {K : Value → World → Prop}
variable {d : Option Tmp} {ty : TypeId} {pos : String} {af : Array Edge} {g0 : Option (Nat × Bool)}
end
def Is (S:Sh):List Value->List Int->Nat->Prop
  |cs,[],_=>cs=[]
  |cs,q::r,k=>∃us vs,cs=us++vs/\In S us q k/\Is S vs r k
theorem Is.up {S S':Sh} {k:Nat} (l:S.le S'):∀{qs:List Int} {cs:List Value},Is S cs qs k->Is S' cs qs k
  |[],_,h=>h
  |_::_,_,⟨us,vs,e,h1,h2⟩=>⟨us,vs,e,h1.up l,Is.up l h2⟩
theorem Is.wide {S:Sh} {k k':Nat} (hk:k<=k'):∀{qs:List Int} {cs:List Value},Is S cs qs k->Is S cs qs k'
  |[],_,h=>h
  |_::_,_,⟨us,vs,e,h1,h2⟩=>⟨us,vs,e,h1.wide hk,Is.wide hk h2⟩
theorem Is.len {S:Sh} {k:Nat}:∀{qs:List Int} {cs:List Value},Is S cs qs k->cs.length=3*qs.length
  |[],_,h=>by simp[show _=[] from h]
  |_::_,_,⟨us,vs,e,h1,h2⟩=>by rw[e,List.length_append,h1.len,Is.len h2,List.length_cons];omega
theorem Is.ones {S:Sh} {k:Nat}:∀{qs:List Int} {cs:List Value},Is S cs qs k->∀u∈cs,one u=true
  |[],_,h=>by simp[show _=[] from h]
  | _::_,_,⟨us,vs,e,h1,h2⟩=>by
    subst e
    intro u hu
    rcases List.mem_append.1 hu with h|h
    · exact h1.ones u h
    · exact Is.ones h2 u h
theorem Is.one {S:Sh} {cs:List Value} {q:Int} {k:Nat} (h:Is S cs [q] k):In S cs q k:=by
 obtain⟨us,vs,e,h1,h2⟩:=h;have:vs=[]:=h2;subst this;simpa [e] using h1
theorem Is.append {S:Sh} {k:Nat}:∀{qs rs:List Int} {cs us:List Value},Is S cs qs k->Is S us rs k->Is S (cs++us) (qs++rs) k
  |[],_,_,_,h,h'=>by rw[show _=[] from h];simpa using h'
  |_::_,_,_,_,⟨us,vs,e,h1,h2⟩,h'=>⟨us,_,by rw[e,List.append_assoc],h1,Is.append h2 h'⟩
theorem Is.drop {S:Sh} {k:Nat}:∀{qs:List Int} {cs:List Value} (i:Nat),Is S cs qs k->Is S (cs.drop (3*i)) (qs.drop i) k
  |_,_,0,h=>by simpa using h
  |[],_,i+1,h=>by rw[show _=[] from h];rfl
  | _::r,_,i+1,⟨us,vs,e,h1,h2⟩=>by
    subst e
    rw[show 3*(i+1)=us.length+3*i by rw[h1.len];omega,List.drop_length_add_append]
    exact Is.drop i h2
theorem Is.take {S:Sh} {k:Nat}:∀{qs:List Int} {cs:List Value} (i:Nat),Is S cs qs k->Is S (cs.take (3*i)) (qs.take i) k
  |_,_,0,h=>by simp[Is]
  |[],_,i+1,h=>by rw[show _=[] from h];rfl
  | _::r,_,i+1,⟨us,vs,e,h1,h2⟩=>by
    subst e
    rw[show 3*(i+1)=us.length+3*i by rw[h1.len];omega,List.take_length_add_append]
    exact⟨us,_,rfl,h1,Is.take i h2⟩
theorem Is.part {S:Sh} {qs:List Int} {cs:List Value} {k:Nat} (i j:Nat) (h:Is S cs qs k):∃us,(cs.drop (3*i)).take (3*j)=us/\Is S us ((qs.drop i).take j) k:=⟨_,rfl,(h.drop i).take j⟩
theorem Is.set {S:Sh} {qs:List Int} {cs us:List Value} {q:Int} {k:Nat} (i:Nat) (h:Is S cs qs k) (h':Is S us [q] k) (hi:i<qs.length):∃vs,QK cs (3*i) us=vs/\Is S vs (qs.set i q) k:=by
 refine⟨_,rfl,?_⟩;unfold QK;rw[h'.len];have h1:=(h.take i).append h';have h2:=h1.append (h.drop (i+1));have e1:3*i+3*[q].length=3*(i+1):=by simp;omega
 rw[e1];have e2:qs.take i++[q]++qs.drop (i+1)=qs.set i q:=by rw[List.set_eq_take_append_cons_drop,if_pos hi];simp
 rw[<-e2];exact h2
theorem In.is {S:Sh} {cs:List Value} {q:Int} {k:Nat} (h:In S cs q k):Is S cs [q] k:=⟨cs,[],by simp,h,rfl⟩
theorem Is.at {S:Sh} {zs:List Int} {cs:List Value} {k:Nat} (i:Nat) {z:Int} (h:Is S cs zs k) (hz:zs[i]? =some z):∃us,(cs.drop (3*i)).take 3=us/\In S us z k:=by
 obtain⟨us,e,h1⟩:=h.part i 1;refine⟨us,e,?_⟩;have:(zs.drop i).take 1=[z]:=by
  have hi:i<zs.length:=by rcases Nat.lt_or_ge i zs.length with q|q;exact q;rw[List.getElem?_eq_none q] at hz;cases hz
  rw[List.drop_eq_getElem_cons hi];rw[List.getElem?_eq_getElem hi] at hz;simp at hz;simp[hz]
 rw[this] at h1;exact h1.one
theorem Is.zero4 (S:Sh) (k:Nat):Is S [.bool false,.int .u64 0,.slice none 0 0,.bool false,.int .u64 0,.slice none 0 0,.bool false,.int .u64 0,.slice none 0 0,.bool false,.int .u64 0,.slice none 0 0] [0,0,0,0] k:=
  ((In.zero S k).is.append ((In.zero S k).is.append ((In.zero S k).is.append (In.zero S k).is)))
theorem Is.to {S:Sh} {cs:List Value} {qs qs':List Int} {k k':Nat} (h:Is S cs qs k) (e:qs=qs') (hk:k<=k'):Is S cs qs' k':=e▸h.wide hk
theorem Fs.zero3 (S:Sh) (k:Nat):Fs S [.bool false,.int .u64 0,.slice none 0 0,.int .u64 0,.slice none 0 0,.bool false,.int .u64 0,.slice none 0 0,.int .u64 0,.slice none 0 0,.bool false,.int .u64 0,.slice none 0 0,.int .u64 0,.slice none 0 0] [0,0,0] k:=
  (Fs.zero S k).append ((Fs.zero S k).append (Fs.zero S k))
theorem Fs.zero4 (S:Sh) (k:Nat):Fs S [.bool false,.int .u64 0,.slice none 0 0,.int .u64 0,.slice none 0 0,.bool false,.int .u64 0,.slice none 0 0,.int .u64 0,.slice none 0 0,.bool false,.int .u64 0,.slice none 0 0,.int .u64 0,.slice none 0 0,.bool false,.int .u64 0,.slice none 0 0,.int .u64 0,.slice none 0 0] [0,0,0,0] k:=
  (Fs.zero S k).append (Fs.zero3 S k)
def verr (x y z:List Nat):Int:=if Za3 x≠0 then Za3 x else if Za3 y≠0 then Za3 y else Za3 z
theorem Run.sub {S0 S:Sh} {w0 w:World} {H H':Own} (h:Run S0 w0 S H w) (hs:H'.Sublist H):Run S0 w0 S H' w:=⟨h.ext,λx hx=>h.own x (hs.subset hx),List.Sublist.nodup (List.Sublist.map _ hs) h.nodup⟩
end Go.Cham
namespace Go.Cham
open Go Go.RowKit
section
variable {P : Program} {a : Act} {w : World} {n : Nat} {l : List (Nat × Value)} {K : Value → World → Prop}
variable {d : Option Tmp} {ty : TypeId} {pos : String} {af : Array Edge} {g0 : Option (Nat × Bool)}
end
def lex4 (x y z u:Int):Int:=if x≠0 then x else if y≠0 then y else if z≠0 then z else u
def perr (x y z u:List Nat):Int:=if Za3 x≠0 then Za3 x else if Za3 y≠0 then Za3 y else if Za3 z≠0 then Za3 z else if Za3 u≠0 then Za3 u else if(Zbv x).num=0/\(Zbv y).num=0/\(Zbv z).num=0 then 2 else 0
end Go.Cham
namespace Go.Cham
open Go Go.RowKit
def pvA (x y z u:List Nat):Rat:=if perr x y z u=0 then pn (Zbv x) (Zbv y) (Zbv z) (Zbv u) (Zbv x) else 0
def pvB (x y z u:List Nat):Rat:=if perr x y z u=0 then pn (Zbv x) (Zbv y) (Zbv z) (Zbv u) (Zbv y) else 0
def pvC (x y z u:List Nat):Rat:=if perr x y z u=0 then pn (Zbv x) (Zbv y) (Zbv z) (Zbv u) (Zbv z) else 0
def pvD (x y z u:List Nat):Rat:=if perr x y z u=0 then pn (Zbv x) (Zbv y) (Zbv z) (Zbv u) (Zbv u) else 0
def vvA (x y z:List Nat):Rat:=if verr x y z=0 then Zbv x else 0
def vvB (x y z:List Nat):Rat:=if verr x y z=0 then Zbv y else 0
def vvC (x y z:List Nat):Rat:=if verr x y z=0 then Zbv z else 0
inductive AV where
  |n (a:Nat)
  |z (a:Int)
  |q (a:Rat)
  |s (a:ByteArray)
def AV.neg:AV->Bool
  | .z a=>decide (a<0)
  | .q r=>decide (r.num<0)
  |_=>false
def AV.abs:AV->Nat
  | .n a=>a
  | .z a=>a.natAbs
  | .q r=>r.num.natAbs
  |_=>0
def AV.dn:AV->Nat
  | .q r=>r.den - 1
  |_=>0
def AV.kind:AV->Nat
  | .n _=>0
  | .z _=>1
  | .q _=>2
  | .s _=>3
def AV.nat:AV->Nat
  | .n a=>a
  |_=>0
def AV.int:AV->Int
  | .z a=>a
  |_=>0
def AV.rat:AV->Rat
  | .q a=>a
  |_=>0
def AV.txt:AV->ByteArray
  | .s a=>a
  |_=>⟨#[]⟩
def AV.of (k:Nat):AV:=match k with
  |0=>.n 0
  |1=>.z 0
  |2=>.q 0
  |_=>.s ⟨#[]⟩
theorem AV.k0 {x:AV} (h:x.kind=0):x= .n x.nat:=by cases x <;> first|rfl|cases h
theorem AV.k1 {x:AV} (h:x.kind=1):x= .z x.int:=by cases x <;> first|rfl|cases h
theorem AV.k2 {x:AV} (h:x.kind=2):x= .q x.rat:=by cases x <;> first|rfl|cases h
theorem AV.k3 {x:AV} (h:x.kind=3):x= .s x.txt:=by cases x <;> first|rfl|cases h
def semX (o:Nat) (l:List AV):AV:=match o,l with
  |43,[x]=>.s (YV (rtxt x.rat))
  |46,[a,b,c,d,q]=>.q (pn a.rat b.rat c.rat d.rat q.rat)
  |50,[x,y,z,u]=>.q (pvA (bl x.txt) (bl y.txt) (bl z.txt) (bl u.txt))
  |54,[x,y,z,u]=>.q (pvB (bl x.txt) (bl y.txt) (bl z.txt) (bl u.txt))
  |58,[x,y,z,u]=>.q (pvC (bl x.txt) (bl y.txt) (bl z.txt) (bl u.txt))
  |62,[x,y,z,u]=>.q (pvD (bl x.txt) (bl y.txt) (bl z.txt) (bl u.txt))
  |66,[x,y,z]=>.q (vvA (bl x.txt) (bl y.txt) (bl z.txt))
  |70,[x,y,z]=>.q (vvB (bl x.txt) (bl y.txt) (bl z.txt))
  |44,[x]=>.n (x.rat.den - 1)
  |45,[x]=>.z (-(x.nat:Int))
  |48,[x,y]=>.n (x.nat - y.nat)
  |78,[x,y]=>.q (mkRat x.int y.nat)
  |52,[x,y]=>.n (max x.abs y.abs)
  |74,[x,y,z]=>.q (vvC (bl x.txt) (bl y.txt) (bl z.txt))
  |o,_=>.of (o%4)
def Zfy (o:Nat) (l:List AV):AV:=match o,l with
  |12,[x]=>.n x.int.natAbs
  |13,[x]=>.z x.rat.num
  |16,[x]=>.n x.rat.den
  |20,[x]=>.n x.rat.num.natAbs
  |24,[x,y]=>.n (x.nat*y.nat)
  |28,[x,y]=>.n (Nat.gcd x.nat y.nat)
  |32,[x,y]=>.n (x.nat / y.nat)
  |36,[x,y]=>.n (x.nat+y.nat)
  |40,[x,y]=>.n (x.nat%y.nat)
  |17,[x]=>.z x.nat
  |21,[x,y]=>.z (sI x.neg y.nat)
  |25,[x]=>.z (-x.int)
  |29,[x,y]=>.z (x.int+y.int)
  |33,[x,y]=>.z (x.int - y.int)
  |37,[x,y]=>.z (x.int*y.int)
  |14,[x]=>.q (x.int:Rat)
  |18,[x]=>.q (-x.rat)
  |22,[x,y]=>.q (x.rat+y.rat)
  |26,[x,y]=>.q (x.rat - y.rat)
  |30,[x,y]=>.q (x.rat*y.rat)
  |34,[x,y]=>.q (x.rat / y.rat)
  |38,[x]=>.q (Zbv (bl x.txt))
  |42,[x,y]=>.q ((x.int:Rat) / (y.int:Rat))
  |o,l=>semX o l
def semK (base f:Nat->AV) (key:List Nat):AV:=match key with
  |[0,i]=>.n (base i).nat
  |[1,i]=>.z (base i).int
  |[2,i]=>.q (base i).rat
  |[3,i]=>.s (base i).txt
  |[4,a]=>.n a
  |[5]=>.z 0
  |[6]=>.q 0
  |[9,a,s]=>.z (if s=0 then(a:Int) else -(a:Int))
  |[10,a,s]=>.q (if s=0 then((a:Int):Rat) else((-(a:Int):Int):Rat))
  |o::is=>Zfy o (is.map f)
  |[]=>.n 0
structure Rw where
  key:List Nat
  c:Nat
  d:Nat
abbrev CL:=List (List Nat × Int)
structure Tb where
  rows:List Rw
  conds:List (List Nat × Int)
  km:Nat
def opOf (key:List Nat):Nat:=match key with
  |[]=>0
  |o::_=>o
theorem AV.of_kind (k:Nat) (h:k<4):(AV.of k).kind=k:=by
 match k,h with
 |0,_=>rfl
 |1,_=>rfl
 |2,_=>rfl
 |3,_=>rfl
theorem semX_kind (o:Nat) (l:List AV):(semX o l).kind=o%4:=by
 unfold semX;split;all_goals first|rfl|skip
 exact AV.of_kind _ (Nat.mod_lt _ (by omega))
theorem semL_kind (o:Nat) (l:List AV):(Zfy o l).kind=o%4:=by
 unfold Zfy;split;all_goals first|rfl|skip
 exact semX_kind _ _
theorem semK_kind (base f:Nat->AV) (key:List Nat):(semK base f key).kind=opOf key%4:=by
 unfold semK;split;all_goals first|rfl|exact semL_kind _ _|simp[AV.kind,opOf]
noncomputable section
def eqN (l:List Nat):List Nat->Bool:=List.rec (λm=>List.rec true (λ_ _ _=>false) m) (λa _ ih m=>List.rec false (λb r _=>Bool.rec false (ih r) (Nat.beq a b)) m) l
theorem eqN_eq:∀{l m:List Nat},eqN l m=true->l=m
  |[],[],_=>rfl
  |[],_::_,h=>by cases h
  |_::_,[],h=>by cases h
  | a ::l,b::m,h=>by
    have h':(Bool.rec false (eqN l m) (Nat.beq a b):Bool)=true:=h
    cases hb:Nat.beq a b with
    |false=>rw[hb] at h';cases h'
    | true=>
      rw[hb] at h'
      rw[YM] at hb
      rw[hb,eqN_eq h']
def findGo (key:List Nat) (rows:List Rw):Nat->Option Nat:=List.rec (λ_=>none) (λr _ ih i=>Bool.rec (ih (Nat.succ i)) (some i) (eqN r.key key)) rows
def Zff (key:List Nat) (l:List (List Nat × Int)):Option Int:=List.rec none (λc _ ih=>Bool.rec ih (some c.2) (eqN c.1 key)) l
theorem QI {key:List Nat} {x:Int}:∀{l:List (List Nat × Int)},Zff key l=some x->(key,x)∈l
  |[],h=>by cases h
  | c ::r,h=>by
    have h':(Bool.rec (Zff key r) (some c.2) (eqN c.1 key):Option Int)=some x:=h
    cases he:eqN c.1 key with
    |false=>rw[he] at h';exact List.mem_cons_of_mem _ (QI h')
    | true=>
      rw[he] at h'
      simp only[Option.some.injEq] at h'
      rw[<-eqN_eq he,<-h']
      exact List.mem_cons_self ..
def txtsEq (l:List AV):Int:=if(l.take (l.length / 2)).map AV.txt=(l.drop (l.length / 2)).map AV.txt then 1 else 0
def semU (t:Nat) (l:List AV):Int:=match t,l with
  |7,[x,y,z,u]=>perr (bl x.txt) (bl y.txt) (bl z.txt) (bl u.txt)
  |8,l=>txtsEq l
  |9,[x,y,z]=>if x.rat.num=0/\y.rat.num=0/\z.rat.num=0 then 1 else 0
  |10,[a,b,c,d,e,f,g,h]=>lex4 (cmpQ a.rat e.rat) (cmpQ b.rat f.rat) (cmpQ c.rat g.rat) (cmpQ d.rat h.rat)
  |11,[x,y,z]=>verr (bl x.txt) (bl y.txt) (bl z.txt)
  |12,[x]=>if 1024<x.txt.size then 1 else 0
  |16,[x]=>(Zs x.nat:Nat)
  |17,[x,y]=>cmpZ x.int y.int
  |20,[x]=>if x.nat=1 then 1 else 0
  |19,[x]=>if x.abs=0 then 1 else 0
  |18,[x,y]=>if y.nat<=x.nat then 1 else 0
  |21,[x,y]=>if((Zs x.abs:Nat):Int)=((Zs y.abs:Nat):Int) then 1 else 0
  |22,[x,y]=>if((Zs x.abs:Nat):Int)<=((Zs y.abs:Nat):Int) then 1 else 0
  |23,[x,y,z]=>if max ((Zs x.abs:Nat):Int) ((Zs y.abs:Nat):Int)=((Zs z.abs:Nat):Int) then 1 else 0
  |15,[x,y,z,u]=>if [x.txt,y.txt,z.txt,u.txt]=[YV [48],YV [48],YV [49],YV [48]] then 1 else 0
  |_,_=>0
def semT (t:Nat) (l:List AV):Int:=match t,l with
  |1,[x]=>Yy x.rat.num
  |2,[x,y]=>cmpQ x.rat y.rat
  |3,[x]=>Yy x.int
  |4,[x]=>Za3 (bl x.txt)
  |5,[x]=>if x.nat=0 then 1 else 0
  |6,[x,y]=>Zb4 x.nat y.nat
  |t,l=>semU t l
def ZI (ρ:Nat->AV) (key:List Nat):Int:=match key with
  |[]=>0
  |t::is=>semT t (is.map ρ)
def Cs (T:Tb) (ρ:Nat->AV):Prop:=∀c∈T.conds,ZI ρ c.1=c.2
def Csl (ρ:Nat->AV):List (List Nat × Int)->Prop
  |[]=>True
  |c::r=>ZI ρ c.1=c.2/\Csl ρ r
theorem Csl.nil {ρ:Nat->AV}:Csl ρ []:=trivial
theorem Csl.cons {ρ:Nat->AV} {k:List Nat} {v:Int} {l:List (List Nat × Int)} (h:ZI ρ k=v) (hl:Csl ρ l):Csl ρ ((k,v)::l):=⟨h,hl⟩
theorem Csl.all {ρ:Nat->AV}:∀{l:List (List Nat × Int)},Csl ρ l->∀c∈l,ZI ρ c.1=c.2
  |[],_,c,h=>by cases h
  | d::r,h,c,hc=>by
    rcases List.mem_cons.1 hc with rfl|hc
    · exact h.1
    · exact Csl.all h.2 c hc
end
end Go.Cham
namespace Go.Cham
open Go Go.RowKit
noncomputable section
inductive Ato where
  |s (i:Nat)
  |a (i:Nat)
  |d (i:Nat)
  |t (i:Nat)
  |l (i:Nat)
  |g (i:Nat)
  |h (i:Nat)
  |m (i:Nat)
  |n (i:Nat)
def Zdu (T:Tb) (key:List Nat):Option Bool:=match Zff key T.conds with
  | some x=>match x with
    | .ofNat n=>match n with
      |0=>some false
      |1=>some true
      |_=>none
    |_=>none
  |none=>none
theorem XU {T:Tb} {ρ:Nat->AV} (hT:Cs T ρ) {key:List Nat} {b:Bool} (h:Zdu T key=some b):ZI ρ key=if b then 1 else 0:=by
 unfold Zdu at h;split at h;rename_i x hx;have h1:=hT _ (QI hx);split at h;split at h;cases h;exact h1;cases h;exact h1;cases h;cases h;cases h
def namesT (l:List (TC Ato)):Option (List Nat):=List.rec (some []) (λc _ ih=>match c with
  | .at_ (.t i)=>match ih with
    |some is=>some (i::is)
    |none=>none
  |_=>none) l
def teqD (T:Tb) (l m:List (TC Ato)):Option Bool:=match namesT l with
  | some is=>match namesT m with
    | some js=>match Nat.beq is.length js.length with
      |true=>Zdu T (8::(appL is js))
      |false=>none
    | none=>match m with
      | [.k [48],.k [48],.k [49],.k [48]]=>match is with
        |[a,b,c,d]=>Zdu T [15,a,b,c,d]
        |_=>none
      |_=>none
  |none=>none
def predS (ρ:Nat->AV) (bd:Nat->Nat) (x:Ato) (S:Sh) (cs:List Value):Prop:=match x with
    | .s i=>cs=[.bool (ρ i).neg]
    | .a i=>Na S cs (ρ i).abs (bd i)
    | .d i=>Na S cs (ρ i).dn (bd i)/\(ρ i).dn+1<=2^bd i
    | .t i=>∃s,ρ i= .s s/\cs=[.string s]
    | .l i=>∃s,ρ i= .s s/\cs=[.int .i64 s.size]
    | .g i=>∃v,cs=[v]/\Gn S v (ρ i).abs (bd i)
    | .h i=>∃v,cs=[v]/\Gn S v ((ρ i).dn+1) (bd i)
    | .m i=>∃n:Nat,cs=[.int .i64 n]/\(n=0↔(ρ i).abs=0)
    | .n i=>cs=[.int .i64 (Zs (ρ i).abs)]
theorem namesT_ok {ρ:Nat->AV} {bd:Nat->Nat} {S:Sh}:∀{l:List (TC Ato)} {is:List Nat} {us:List ByteArray},namesT l=some is->TxtL (predS ρ bd) S l us->us=is.map λi=>(ρ i).txt
  | [],is,us,h,hu=>by
    have h':some []=some is:=h
    cases h'
    cases us with
    |nil=>rfl
    |cons u r=>exact hu.elim
  | .k s::l,is,us,h,hu=>by cases (show(none:Option (List Nat))=some is from h)
  | .at_ (.s i)::l,is,us,h,hu=>by cases (show(none:Option (List Nat))=some is from h)
  | .at_ (.a i)::l,is,us,h,hu=>by cases (show(none:Option (List Nat))=some is from h)
  | .at_ (.d i)::l,is,us,h,hu=>by cases (show(none:Option (List Nat))=some is from h)
  | .at_ (.l i)::l,is,us,h,hu=>by cases (show(none:Option (List Nat))=some is from h)
  | .at_ (.g i)::l,is,us,h,hu=>by cases (show(none:Option (List Nat))=some is from h)
  | .at_ (.h i)::l,is,us,h,hu=>by cases (show(none:Option (List Nat))=some is from h)
  | .at_ (.m i)::l,is,us,h,hu=>by cases (show(none:Option (List Nat))=some is from h)
  | .at_ (.n i)::l,is,us,h,hu=>by cases (show(none:Option (List Nat))=some is from h)
  | .at_ (.t i)::l,is,us,h,hu=>by
    have h':(match namesT l with
      |some is=>some (i::is)
      |none=>none)=some is:=h
    cases hn:namesT l with
    |none=>rw[hn] at h';cases h'
    | some js=>
      rw[hn] at h'
      cases h'
      cases us with
      |nil=>exact hu.elim
      | cons u r=>
        obtain⟨⟨s,e,hv⟩,h2⟩:=hu
        simp only[List.cons.injEq,Value.string.injEq,and_true] at hv
        subst hv
        rw[List.map_cons,<-namesT_ok hn h2,e]
        rfl
theorem Zd7 {p:Prop} [Decidable p] {b:Bool} (h:(if p then(1:Int) else 0)=if b then 1 else 0):decide p=b:=by
 by_cases hp:p;cases b;rw[if_pos hp] at h;cases h;simp[hp];cases b;simp[hp];rw[if_neg hp] at h;cases h
theorem teqD_ok {T:Tb} {ρ:Nat->AV} {bd:Nat->Nat} (hT:Cs T ρ) {l m:List (TC Ato)} {r:Bool} {S:Sh} {us vs:List ByteArray} (h:teqD T l m=some r) (h1:TxtL (predS ρ bd) S l us) (h2:TxtL (predS ρ bd) S m vs):decide (us=vs)=r:=by
 unfold teqD at h;split at h;rename_i is his;have e1:=namesT_ok his h1;split at h;rename_i js hjs;have e2:=namesT_ok hjs h2;split at h;rename_i hn;rw[YM] at hn;have h3:=XU hT h;rw[Zat] at h3;have h4:txtsEq ((is++js).map ρ)=if r then 1 else 0:=h3;unfold txtsEq at h4;have e3:((is++js).map ρ).length / 2=(is.map ρ).length:=by simp;omega
 rw[e3,List.map_append,List.take_left,List.drop_left,List.map_map,List.map_map] at h4;rw[e1,e2];exact Zd7 h4;cases h;split at h;split at h;rename_i a b c d;have h3:(if [(ρ a).txt,(ρ b).txt,(ρ c).txt,(ρ d).txt]=[YV [48],YV [48],YV [49],YV [48]] then(1:Int) else 0)=if r then 1 else 0:=XU hT h
 have e2:vs=[YV [48],YV [48],YV [49],YV [48]]:=by
   match vs,h2 with
   | [v0,v1,v2,v3],h2=>
     obtain⟨q0,q1,q2,q3,_⟩:=h2
     rw[q0,q1,q2,q3]
 rw[e1,e2];exact Zd7 h3;cases h;cases h;cases h
def DS {T : Tb} {ρ:Nat->AV} (hT:Cs T ρ) (bd:Nat->Nat):Dom Ato where
  size:=λx=>match x with
    | .s _=>1
    | .a _=>2
    | .d _=>2
    | .t _=>1
    | .l _=>1
    | .g _=>1
    | .h _=>1
    | .m _=>1
    | .n _=>1
  pred:=predS ρ bd
  up:=λ{x S S' cs} l h=>by
    cases x with
    |s i=>exact h
    |a i=>exact Na.up h l
    |d i=>exact⟨h.1.up l,h.2⟩
    |t i=>exact h
    |l i=>exact h
    |g i=>obtain⟨v,e,h⟩:=h;exact⟨v,e,h.up l⟩
    |h i=>obtain⟨v,e,h⟩:=h;exact⟨v,e,h.up l⟩
    |m i=>exact h
    |n i=>exact h
  len:=λ{x S cs} h=>by
    cases x with
    |s i=>have h':cs=[.bool (ρ i).neg]:=h;rw[h'];rfl
    |a i=>exact Na.len h
    |d i=>exact h.1.len
    |t i=>obtain⟨s,_,rfl⟩:=h;rfl
    |l i=>obtain⟨s,_,rfl⟩:=h;rfl
    |g i=>obtain⟨v,rfl,_⟩:=h;rfl
    |h i=>obtain⟨v,rfl,_⟩:=h;rfl
    |m i=>obtain⟨v,rfl,_⟩:=h;rfl
    |n i=>cases h;rfl
  ones:=λ{x S cs} h=>by
    cases x with
    |s i=>have h':cs=[.bool (ρ i).neg]:=h;rw[h'];intro u hu;simp at hu;subst hu;rfl
    |a i=>exact Na.ones h
    |d i=>exact h.1.ones
    |t i=>obtain⟨s,_,rfl⟩:=h;intro u hu;simp at hu;subst hu;rfl
    |l i=>obtain⟨s,_,rfl⟩:=h;intro u hu;simp at hu;subst hu;rfl
    |g i=>obtain⟨v,rfl,h⟩:=h;intro u hu;simp at hu;subst hu;exact h.one
    |h i=>obtain⟨v,rfl,h⟩:=h;intro u hu;simp at hu;subst hu;exact h.one
    |m i=>obtain⟨v,rfl,h⟩:=h;intro u hu;simp at hu;subst hu;rfl
    |n i=>cases h;intro u hu;simp at hu;subst hu;rfl
  txt:=λx=>match x with
    | .t _=>true
    |_=>false
  txt_ok:=λ{x S cs} h hp=>by
    cases x with
    |t i=>obtain⟨s,_,rfl⟩:=hp;exact⟨s,rfl⟩
    |s i=>cases h
    |a i=>cases h
    |d i=>cases h
    |l i=>cases h
    |g i=>cases h
    |h i=>cases h
    |m i=>cases h
    |n i=>cases h
  teq:=λl m=>teqD T l m
  teq_ok:=λh h1 h2=>teqD_ok (bd:=bd) hT h h1 h2
  tlen:=λx=>match x with
    | .t i=>some (.l i)
    |_=>none
  tlen_ok:=λ{x y S v} h hp=>by
    split at h
    · rename_i i
      cases h
      obtain⟨s,e,h1⟩:=hp
      simp only[List.cons.injEq,and_true] at h1
      exact⟨s,h1,s,e,rfl⟩
    · cases h
  slen:=λx=>match x with
    | .g i=>some (.m i)
    |_=>none
  slen_ok:=λ{x y S v} h hp=>by
    split at h
    · rename_i i
      cases h
      obtain⟨v',e,hg⟩:=hp
      simp only[List.cons.injEq,and_true] at e
      subst e
      obtain⟨_,p,len,cap,rfl,hd⟩:=hg.open
      refine⟨p,len,cap,rfl,len,rfl,?_⟩
      have hl:=hd.hlen
      constructor
      · intro h0
        exact digs_nil (by decide) (hl.trans h0)
      · intro h0
        rw[h0,YR] at hl
        exact hl.symm
    · cases h
  ieq :=λx j=>match x with
    | .m i=>match j with
      | .ofNat c=>match Nat.beq c 0 with
        |true=>Zdu T [19,i]
        |false=>none
      |_=>none
    |_=>none
  ieq_ok := λ{x j r S v} h hp=>by
    split at h
    · rename_i i
      split at h
      · rename_i c
        split at h
        · rename_i hc
          rw[YM] at hc
          subst hc
          obtain⟨n,h1,hn⟩:=hp
          simp only[List.cons.injEq,and_true] at h1
          refine⟨_,h1,?_⟩
          have h3:(if(ρ i).abs=0 then(1:Int) else 0)=if r then 1 else 0:=XU hT h
          rw[<-Zd7 h3]
          by_cases q:(ρ i).abs=0
          · simp[q,hn.2 q]
          · have:¬n=0:=λz=>q (hn.1 z)
            simp[q,this]
        · cases h
      · cases h
    · cases h
  igt :=λx j=>match x with
    | .l i=>match j with
      | .ofNat c=>match Nat.beq c 1024 with
        |true=>Zdu T [12,i]
        |false=>none
      |_=>none
    | .m i=>match j with
      | .ofNat c=>match Nat.beq c 0 with
        | true=>match Zdu T [19,i] with
          |some b=>some (!b)
          |none=>none
        |false=>none
      |_=>none
    |_=>none
  igt_ok := λ{x j r S v} h hp=>by
    split at h
    · rename_i i
      split at h
      · rename_i c
        split at h
        · rename_i hc
          rw[YM] at hc
          subst hc
          obtain⟨s,e,h1⟩:=hp
          simp only[List.cons.injEq,and_true] at h1
          refine⟨_,h1,?_⟩
          have h3:(if 1024<(ρ i).txt.size then(1:Int) else 0)=if r then 1 else 0:=XU hT h
          rw[e] at h3
          have h4:(if 1024<s.size then(1:Int) else 0)=if r then 1 else 0:=h3
          by_cases e:1024<s.size
          · cases r <;> simp[e] at h4 ⊢;omega
          · cases r <;> simp[e] at h4 ⊢;omega
        · cases h
      · cases h
    · rename_i i
      split at h
      · rename_i c
        split at h
        · rename_i hc
          rw[YM] at hc
          subst hc
          obtain⟨n,h1,hn⟩:=hp
          simp only[List.cons.injEq,and_true] at h1
          refine⟨_,h1,?_⟩
          split at h
          · rename_i b hb
            cases h
            have h3:(if(ρ i).abs=0 then(1:Int) else 0)=if b then 1 else 0:=XU hT hb
            rw[<-Zd7 h3]
            by_cases q:(ρ i).abs=0
            · simp[q,hn.2 q]
            · have:¬n=0:=λz=>q (hn.1 z)
              simp[q];omega
          · cases h
        · cases h
      · cases h
    · cases h
  ibin:=λo x y=>match x with
    | .n i=>match y with
      | .n j=>Zdu T [match o with|true=>22|false=>21,i,j]
      |_=>none
    |_=>none
  ibin_ok:=λ{o x y r S v u} h hp hq=>by
    split at h
    · split at h
      · rename_i i _ j
        cases hp
        cases hq
        refine⟨_,_,rfl,rfl,?_⟩
        cases o with
        |true=>exact Zd7 (show(if((Zs (ρ i).abs:Nat):Int)<=((Zs (ρ j).abs:Nat):Int) then(1:Int) else 0)=if r then 1 else 0 from XU hT h)
        |false=>exact Zd7 (show(if((Zs (ρ i).abs:Nat):Int)=((Zs (ρ j).abs:Nat):Int) then(1:Int) else 0)=if r then 1 else 0 from XU hT h)
      · cases h
    · cases h
  imx :=λx y=>match x with
    | .n i=>match y with
      | .n j=>match findGo [52,i,j] T.rows 0 with
        | some k=>match Zdu T [23,i,j,k] with
          | some b=>match b with
            |true=>some (.n k)
            |false=>none
          |none=>none
        |none=>none
      |_=>none
    |_=>none
  imx_ok := λ{x y z S v u} h hp hq=>by
    split at h
    · split at h
      · rename_i i _ j
        split at h
        · split at h
          · rename_i k _ _ b hb
            cases b with
            | true=>
              cases h
              cases hp
              cases hq
              have h1:(if max ((Zs (ρ i).abs:Nat):Int) ((Zs (ρ j).abs:Nat):Int)=((Zs (ρ k).abs:Nat):Int) then(1:Int) else 0)=1:=XU hT hb
              refine⟨_,_,rfl,rfl,?_⟩
              show [_]=[Value.int .i64 ((Zs (ρ k).abs:Nat):Int)]
              by_cases q:max ((Zs (ρ i).abs:Nat):Int) ((Zs (ρ j).abs:Nat):Int)=((Zs (ρ k).abs:Nat):Int)
              · rw[q]
              · rw[if_neg q] at h1;cases h1
            |false=>cases h
          · cases h
        · cases h
      · cases h
    · cases h
  imz:=λx=>match x with
    | .n _=>true
    |_=>false
  imz_ok:=λ{x S v} h hp=>by
    split at h
    · cases hp;exact⟨_,rfl⟩
    · cases h
variable {ρ : Nat → AV} {bd : Nat → Nat} {G : Gh} {T0 : Tb} {hT : Cs T0 ρ}
def Rp (S:Sh) (x:AV) (k:Nat) (v:Value):Prop:=match x with
  | .n a=>∃cs,v= .agg cs.toArray/\Na S cs a k
  | .z a=>∃cs,v= .agg cs.toArray/\In S cs a k
  | .q a=>∃cs,v= .agg cs.toArray/\Fs S cs [a] k
  | .s a=>v= .string a
def cN (i:Nat):List (SV Ato):=[.at_ (.a i)]
def cZ (i:Nat):List (SV Ato):=[.at_ (.s i),.at_ (.a i)]
def cQ (i:Nat):List (SV Ato):=[.at_ (.s i),.at_ (.a i),.at_ (.d i)]
theorem In.split {S:Sh} {cs:List Value} {z:Int} {k:Nat} (h:In S cs z k):∃us,cs= .bool (decide (z<0))::us/\Na S us z.natAbs k:=by
 have h1:=h.sign;obtain⟨us,e,h2⟩:=h.abs;have h3:=h.len
 match cs,h3 with
 | [a,b,c],_=>
   simp at h1 e
   subst h1 e
   exact⟨_,rfl,h2⟩
theorem In.join {S:Sh} {us:List Value} {z:Int} {k:Nat} (h:Na S us z.natAbs k):In S (.bool (decide (z<0))::us) z k:=by
 refine In.mk h ?_ λh0=>?_;by_cases hz:z<0;simp[hz];omega;simp[hz];omega;simp;omega
theorem Fs.split {S:Sh} {cs:List Value} {q:Rat} {k:Nat} (h:Fs S cs [q] k):∃us vs,cs= .bool (decide (q.num<0))::us++vs/\Na S us q.num.natAbs k/\Na S vs (q.den - 1) k/\q.den<=2^k:=by
 obtain⟨c0,c1,c2,c3,c4,rfl,h1,h2,h3⟩:=h.one;obtain⟨us,e,h4⟩:=h1.split;simp at e;obtain⟨rfl,rfl⟩:=e;exact⟨_,_,rfl,h4,h2,h3⟩
theorem Fs.join {S:Sh} {us vs:List Value} {q:Rat} {k:Nat} (h1:Na S us q.num.natAbs k) (h2:Na S vs (q.den - 1) k) (h3:q.den<=2^k):Fs S (.bool (decide (q.num<0))::us++vs) [q] k:=
  Fs.mk (In.join h1) h2 h3
theorem YL.runs {a:Ato} {us:List Value} {cs:List (SV Ato)} {vs vs':List Value} (h:(DS hT bd).pred a G.S us) (hs:YL (DS hT bd) G cs vs') (e:vs=us++vs'):YL (DS hT bd) G (.at_ a::cs) vs:=e▸.run h hs
theorem YL.runI {a:Ato} {cs:List (SV Ato)} {vs:List Value} (h:YL (DS hT bd) G (.at_ a::cs) vs):∃us vs',vs=us++vs'/\(DS hT bd).pred a G.S us/\YL (DS hT bd) G cs vs':=by
 cases h with
 |one h ho hn hs=>exact absurd rfl (hn _)
 |run h hs=>exact⟨_,_,rfl,h,hs⟩
theorem cN_mk {i k a:Nat} {cs us:List Value} {r:List (SV Ato)} (e:ρ i= .n a) (h:Na G.S cs a k) (hk:k<=bd i) (hr:YL (DS hT bd) G r us):YL (DS hT bd) G (cN i++r) (cs++us):=
  .run (D:=DS hT bd) (show Na G.S cs (ρ i).abs (bd i) by rw[e];exact h.wide hk) hr
theorem cZ_mk {i k:Nat} {a:Int} {cs us:List Value} {r:List (SV Ato)} (e:ρ i= .z a) (h:In G.S cs a k) (hk:k<=bd i) (hr:YL (DS hT bd) G r us):YL (DS hT bd) G (cZ i++r) (cs++us):=by
 obtain⟨us',rfl,h1⟩:=h.split;refine .runs (us:=[.bool (decide (a<0))]) (show _=[Value.bool (ρ i).neg] by rw[e];rfl) (.runs (us:=us') (show Na G.S us' (ρ i).abs (bd i) by rw[e];exact h1.wide hk) hr rfl) (by simp)
theorem cQ_mk {i k:Nat} {a:Rat} {cs us:List Value} {r:List (SV Ato)} (e:ρ i= .q a) (h:Fs G.S cs [a] k) (hk:k<=bd i) (hr:YL (DS hT bd) G r us):YL (DS hT bd) G (cQ i++r) (cs++us):=by
 obtain⟨us',vs',rfl,h1,h2,h3⟩:=h.split
 refine .runs (us:=[.bool (decide (a.num<0))]) (show _=[Value.bool (ρ i).neg] by rw[e];rfl) (.runs (us:=us') (show Na G.S us' (ρ i).abs (bd i) by rw[e];exact h1.wide hk) (.runs (us:=vs') (show Na G.S vs' (ρ i).dn (bd i)/\(ρ i).dn+1<=2^bd i by
   rw[e]
   refine⟨h2.wide hk,Nat.le_trans ?_ (YK hk)⟩
   show a.den - 1+1<=2^k
   have:=a.den_pos
   omega) hr rfl) rfl) (by simp)
theorem cN_of {i a:Nat} {vs:List Value} {r:List (SV Ato)} (e:ρ i= .n a) (h:YL (DS hT bd) G (cN i++r) vs):∃cs us,vs=cs++us/\Na G.S cs a (bd i)/\YL (DS hT bd) G r us:=by
 obtain⟨us,vs',rfl,h1,h2⟩:=YL.runI h;have h1':Na G.S us (ρ i).abs (bd i):=h1;rw[e] at h1';exact⟨_,_,rfl,h1',h2⟩
theorem cZ_of {i:Nat} {a:Int} {vs:List Value} {r:List (SV Ato)} (e:ρ i= .z a) (h:YL (DS hT bd) G (cZ i++r) vs):∃cs us,vs=cs++us/\In G.S cs a (bd i)/\YL (DS hT bd) G r us:=by
 obtain⟨u1,v1,rfl,h1,h2⟩:=YL.runI h;obtain⟨u2,v2,rfl,h3,h4⟩:=YL.runI h2;have h1':u1=[Value.bool (ρ i).neg]:=h1;have h3':Na G.S u2 (ρ i).abs (bd i):=h3;rw[e] at h1' h3';subst h1';exact⟨_::u2,v2,rfl,In.join h3',h4⟩
theorem cQ_of {i:Nat} {a:Rat} {vs:List Value} {r:List (SV Ato)} (e:ρ i= .q a) (h:YL (DS hT bd) G (cQ i++r) vs):∃cs us,vs=cs++us/\Fs G.S cs [a] (bd i)/\YL (DS hT bd) G r us:=by
 obtain⟨u1,v1,rfl,h1,h2⟩:=YL.runI h;obtain⟨u2,v2,rfl,h3,h4⟩:=YL.runI h2;obtain⟨u3,v3,rfl,h5,h6⟩:=YL.runI h4;have h1':u1=[Value.bool (ρ i).neg]:=h1;have h3':Na G.S u2 (ρ i).abs (bd i):=h3;have h5':Na G.S u3 (ρ i).dn (bd i)/\(ρ i).dn+1<=2^bd i:=h5;rw[e] at h1' h3' h5';subst h1';refine⟨_::u2++u3,v3,by simp[AV.neg],Fs.join h3' h5'.1 ?_,h6⟩;have:=h5'.2;show a.den<=2^bd i;have h7:AV.dn (.q a)=a.den - 1:=rfl;omega
end
end Go.Cham
namespace Go.Cham
open Go Go.RowKit
def ext (f:Nat->AV) (n:Nat) (x:AV):Nat->AV:=λj=>if j=n then x else f j
def avs (base:Nat->AV):List Rw->Nat->(Nat->AV)->Nat->AV
  |[],_,f=>f
  |r::rs,n,f=>avs base rs (n+1) (ext f n (semK base f r.key))
def rho (T:Tb) (base:Nat->AV):Nat->AV:=avs base T.rows 0 λ_=>.n 0
theorem avs_lt {base:Nat->AV}:∀{rs:List Rw} {n:Nat} {f:Nat->AV} {j:Nat},j<n->avs base rs n f j=f j
  |[],_,_,_,_=>rfl
  | r::rs,n,f,j,h=>by
    simp only[avs]
    rw[avs_lt (Nat.lt_succ_of_lt h)]
    simp[ext,Nat.ne_of_lt h]
def aheadR (n:Nat) (r:Rw):Bool:=match r.key with
  |[]=>true
  |o::is=>Nat.ble o 10 || is.all λi=>Nat.ble (Nat.succ i) n
def Qh:List Rw->Nat->Bool
  |[],_=>true
  |r::rs,n=>aheadR n r && Qh rs (n+1)
theorem semK_congr {base f g:Nat->AV} {n:Nat} {r:Rw} (h:aheadR n r=true) (hfg:∀j,j<n->f j=g j):semK base f r.key=semK base g r.key:=by
 unfold aheadR at h;unfold semK;split <;> first|rfl|skip
 rename_i o is h0 h1 h2 h3 h4 h5 h6 h7 h8 hk;rw[hk] at h;simp only[Bool.or_eq_true] at h;rcases h with h|h;have:=Nat.le_of_ble_eq_true h;have e:∀l l':List AV,o<=10->Zfy o l=Zfy o l':=by
  intro l l' ho;have h9:∀l,Zfy o l= .of (o%4):=by
   intro l;unfold Zfy;split <;> first|omega|skip
   unfold semX;split <;> first|rfl|omega
  rw[h9,h9]
 exact e _ _ this;congr 1;refine List.map_congr_left λj hj=>hfg j ?_;have:=List.all_eq_true.1 h j hj;exact Nat.le_of_ble_eq_true this
theorem avs_at {base:Nat->AV}:∀{rs:List Rw} {n:Nat} {f:Nat->AV} {i:Nat} {r:Rw},Qh rs n=true->rs[i]? =some r->avs base rs n f (n+i)=semK base (avs base rs n f) r.key
  |[],_,_,_,_,_,h=>by simp at h
  | r0::rs,n,f,i,r,ha,h=>by
    simp only[Qh,Bool.and_eq_true] at ha
    cases i with
    | zero=>
      simp at h
      subst h
      rw[Nat.add_zero]
      have e:avs base (r0::rs) n f n=semK base f r0.key:=by
        simp only[avs]
        rw[avs_lt (Nat.lt_succ_self n)]
        simp[ext]
      rw[e]
      exact semK_congr ha.1 λj hj=>(avs_lt hj).symm
    | succ i=>
      simp at h
      have:=avs_at (base:=base) (f:=ext f n (semK base f r0.key)) ha.2 h
      simp only[avs]
      rw[show n+(i+1)=n+1+i by omega]
      exact this
end Go.Cham
namespace Go.Cham
open Go Go.RowKit
noncomputable section
def rwTr (rows:List Rw):Nat->Tr Rw:=List.rec (λ_=>.nil) (λr _ ih n=>(ih (Nat.succ n)).put n (some r)) rows
theorem rwTr_at:∀{rows:List Rw} {n i:Nat} {r:Rw},(rwTr rows n).at i=some r->∃j,i=n+j/\rows[j]? =some r
  | [],n,i,r,h=>by
    have h':(Tr.nil:Tr Rw).at i=some r:=h
    unfold Tr.at at h'
    rw[Tr.get_nil] at h'
    cases h'
  | r0::rs,n,i,r,h=>by
    have h':((rwTr rs (n+1)).put n (some r0)).at i=some r:=h
    rw[Tr.at_put_if] at h'
    split at h'
    · rename_i e
      exact⟨0,by omega,by simpa using h'⟩
    · obtain⟨j,e,h2⟩:=rwTr_at h'
      exact⟨j+1,by omega,by simpa using h2⟩
def Zbw (T:Tb) (i:Nat):Option Rw:=(rwTr T.rows 0).at i
theorem rowAt_mem {T:Tb} {i:Nat} {r:Rw} (h:Zbw T i=some r):T.rows[i]? =some r:=by
 obtain⟨j,e,h2⟩:=rwTr_at h;rw[e,Nat.zero_add];exact h2
def Zc5 (T:Tb) (key:List Nat):Option (Nat × Rw):=match findGo key T.rows 0 with
  | some k=>match Zbw T k with
    | some r=>match eqN r.key key with
      |true=>some (k,r)
      |false=>none
    |none=>none
  |none=>none
theorem Xw {T:Tb} {key:List Nat} {k:Nat} {r:Rw} (h:Zc5 T key=some (k,r)):Zbw T k=some r/\r.key=key:=by
 unfold Zc5 at h;split at h;split at h;rename_i r' hr;split at h;rename_i he;cases h;exact⟨hr,eqN_eq he⟩;cases h;cases h;cases h
structure Yz (T:Tb) (K:Nat) (base ρ:Nat->AV) (bd:Nat->Nat):Prop where
  row:∀i r,Zbw T i=some r->ρ i=semK base ρ r.key/\bd i=r.c*K+r.d
  km:K<=T.km
  cond:Cs T ρ
def Ze5 (T:Tb) (K:Nat) (i:Nat):Nat:=match Zbw T i with
  |some r=>r.c*K+r.d
  |none=>0
theorem Yz.mk' {T:Tb} {K:Nat} {base:Nat->AV} (ha:Qh T.rows 0=true) (hk:K<=T.km) (hc:Cs T (rho T base)):Yz T K base (rho T base) (Ze5 T K) where
  row i r h:=by
    refine⟨?_,by unfold Ze5;rw[h]⟩
    have:=avs_at (base:=base) (f:=λ_=>.n 0) ha (rowAt_mem h)
    rw[Nat.zero_add] at this
    exact this
  km:=hk
  cond:=hc
def isK (T:Tb) (i k:Nat):Bool:=match Zbw T i with
  |some r=>Nat.beq (Nat.mod (opOf r.key) 4) k
  |none=>false
def leB (a b:Rw):Bool:=Nat.ble a.c b.c && Nat.ble a.d b.d
def viaR (T:Tb) (i o:Nat):Option Nat:=match Zbw T i with
  | some r=>match Zc5 T [o,i] with
    | some (k,r')=>match leB r r' with
      |true=>some k
      |false=>none
    |none=>none
  |none=>none
theorem semK_op {base f:Nat->AV} {o:Nat} {is:List Nat} (ho:10<o):semK base f (o::is)=Zfy o (is.map f):=by
 match o,ho with
 |n+11,_=>rfl
section
variable {T : Tb} {K : Nat} {base ρ : Nat → AV} {bd : Nat → Nat} {G : Gh}
theorem Zbm (hg:Yz T K base ρ bd) {i k:Nat} (h:isK T i k=true):(ρ i).kind=k:=by
 unfold isK at h;split at h;rename_i r hr;rw[YM] at h;rw[(hg.row i r hr).1,semK_kind];exact h;cases h
theorem leB_ok {a b:Rw} (h:leB a b=true) (K:Nat):a.c*K+a.d<=b.c*K+b.d:=by
 unfold leB at h;simp only[Bool.and_eq_true] at h;have h1:=Nat.le_of_ble_eq_true h.1;have h2:=Nat.le_of_ble_eq_true h.2;exact Nat.add_le_add (Nat.mul_le_mul_right _ h1) h2
theorem viaR_ok (hg:Yz T K base ρ bd) {i o k:Nat} (h:viaR T i o=some k) (ho:10<o):ρ k=Zfy o [ρ i]/\bd i<=bd k:=by
 unfold viaR at h;split at h;rename_i r hr;split at h;rename_i k' r' hf;split at h;rename_i hl;cases h;obtain⟨h1,h2⟩:=Xw hf;obtain⟨h3,h4⟩:=hg.row _ _ h1;refine⟨?_,by rw[h4,(hg.row _ _ hr).2];exact leB_ok hl K⟩;rw[h3,h2,semK_op ho];rfl;cases h;cases h;cases h
end
end
end Go.Cham
namespace Go.Cham
open Go Go.RowKit
noncomputable section
def asN' (T:Tb) (l:List (SV Ato)):Option Nat:=match l with
  | [.at_ (.a i)]=>match isK T i 0 with
    |true=>some i
    | false=>match isK T i 1 with
      |true=>viaR T i 12
      | false=>match isK T i 2 with
        |true=>viaR T i 20
        |false=>none
  | [.at_ (.d i)]=>match isK T i 2 with
    |true=>viaR T i 44
    |false=>none
  | [.int .u64 (.ofNat a),.sl none 0 0]=>match Nat.ble a 18446744073709551615 with
    | true=>match Zc5 T [4,a] with
      | some (k,r)=>match Nat.ble 64 r.d with
        |true=>some k
        |false=>none
      |none=>none
    |false=>none
  |_=>none
def asZ' (T:Tb) (l:List (SV Ato)):Option Nat:=match l with
  | [.at_ (.s i),.at_ (.a j)]=>match Nat.beq i j with
    | true=>match isK T i 1 with
      |true=>some i
      | false=>match isK T i 2 with
        |true=>viaR T i 13
        |false=>none
    |false=>none
  | [.bool false,.int .u64 (.ofNat 0),.sl none 0 0]=>match Zc5 T [5] with
    |some (k,_)=>some k
    |none=>none
  |_=>none
def asQ' (T:Tb) (l:List (SV Ato)):Option Nat:=match l with
  | [.at_ (.s i),.at_ (.a j),.at_ (.d k)]=>match Nat.beq i j with
    | true=>match Nat.beq i k with
      | true=>match isK T i 2 with
        |true=>some i
        |false=>none
      |false=>none
    |false=>none
  | [.bool false,.int .u64 (.ofNat 0),.sl none 0 0,.int .u64 (.ofNat 0),.sl none 0 0]=>match Zc5 T [6] with
    |some (k,_)=>some k
    |none=>none
  |_=>none
def asA (T:Tb) (k:Nat) (x:SV Ato):Option Nat:=match x with
  | .agg l=>match k with
    |0=>asN' T l
    |1=>asZ' T l
    |2=>asQ' T l
    |_=>none
  | .at_ a=>match a with
    | .t i=>match Nat.beq k 3 with
      | true=>match isK T i 3 with
        |true=>some i
        |false=>none
      |false=>none
    |_=>none
  |_=>none
section
variable {T : Tb} {K : Nat} {base ρ : Nat → AV} {bd : Nat → Nat} {G : Gh} {T0 : Tb} {hT : Cs T0 ρ}
theorem YL.nilI {D:Dom Ato} {vs:List Value} (h:YL D G [] vs):vs=[]:=by cases h;rfl
theorem asN_ok (hg:Yz T K base ρ bd) {l:List (SV Ato)} {i:Nat} {vs:List Value} (h:asN' T l=some i) (hd:YL (DS hT bd) G l vs):Rp G.S (ρ i) (bd i) (.agg vs.toArray):=by
 unfold asN' at h;split at h;rename_i j;obtain⟨us,vs',rfl,h1,h2⟩:=YL.runI hd;have:=h2.nilI;subst this;rw[List.append_nil];have h1':Na G.S us (ρ j).abs (bd j):=h1;split at h;rename_i hk;cases h;have e:=AV.k0 (Zbm hg hk);rw[e] at h1' ⊢;exact⟨_,rfl,h1'⟩;split at h;rename_i hk;obtain⟨e2,hb⟩:=viaR_ok hg h (by decide);have e:=AV.k1 (Zbm hg hk);rw[e] at h1';rw[e2];exact⟨_,rfl,h1'.wide hb⟩;split at h;rename_i hk;obtain⟨e2,hb⟩:=viaR_ok hg h (by decide);have e:=AV.k2 (Zbm hg hk);rw[e] at h1';rw[e2];exact⟨_,rfl,h1'.wide hb⟩;cases h;rename_i j;obtain⟨us,vs',rfl,h1,h2⟩:=YL.runI hd;have:=h2.nilI;subst this;rw[List.append_nil];have h1':Na G.S us (ρ j).dn (bd j)/\(ρ j).dn+1<=2^bd j:=h1;split at h;rename_i hk;obtain⟨e2,hb⟩:=viaR_ok hg h (by decide);have e:=AV.k2 (Zbm hg hk);rw[e] at h1';rw[e2];exact⟨_,rfl,h1'.1.wide hb⟩;cases h;rename_i a;split at h;rename_i ha;split at h;rename_i k r hf;split at h;rename_i hd2;cases h;obtain⟨h1,h2⟩:=Xw hf;obtain⟨h3,h4⟩:=hg.row _ _ h1;have ha':=Nat.le_of_ble_eq_true ha;have hd2':=Nat.le_of_ble_eq_true hd2;rw[h3,h2,h4]
 cases hd with
 | one x1 _ _ x2=>
   cases x1
   cases x2 with
   | one x3 _ _ x4=>
     cases x3
     cases x4
     refine⟨_,rfl,?_,_,_,rfl,.small _ (by omega)⟩
     have h64:(2:Nat)^64<=2^(r.c*K+r.d):=YK (by omega)
     have:(2:Nat)^64=18446744073709551616:=by decide
     omega
 cases h;cases h;cases h;cases h
theorem asZ_ok (hg:Yz T K base ρ bd) {l:List (SV Ato)} {i:Nat} {vs:List Value} (h:asZ' T l=some i) (hd:YL (DS hT bd) G l vs):Rp G.S (ρ i) (bd i) (.agg vs.toArray):=by
 unfold asZ' at h;split at h;rename_i i' j;split at h;rename_i hij;rw[YM] at hij;subst hij;split at h;rename_i hk;cases h;have e:=AV.k1 (Zbm hg hk);obtain⟨cs,us,rfl,h1,h2⟩:=cZ_of (r:=[]) e hd;have:=h2.nilI;subst this;rw[List.append_nil,e];exact⟨_,rfl,h1⟩;split at h;rename_i hk;obtain⟨e2,hb⟩:=viaR_ok hg h (by decide);have e:=AV.k2 (Zbm hg hk);obtain⟨u1,v1,rfl,h1,h2⟩:=YL.runI hd;obtain⟨u2,v2,rfl,h3,h4⟩:=YL.runI h2;have:=h4.nilI;subst this;have h1':u1=[Value.bool (ρ i').neg]:=h1;have h3':Na G.S u2 (ρ i').abs (bd i'):=h3;rw[e] at h1' h3';subst h1';rw[e2,List.append_nil];exact⟨_,rfl,(In.join h3').wide hb⟩;cases h;cases h;split at h;rename_i k r hf;cases h;obtain⟨h1,h2⟩:=Xw hf;rw[(hg.row _ _ h1).1,h2]
 cases hd with
 | one x1 _ _ x2=>
   cases x1
   cases x2 with
   | one x3 _ _ x4=>
     cases x3
     cases x4 with
     | one x5 _ _ x6=>
       cases x5
       cases x6
       exact⟨_,rfl,In.zero _ _⟩
 cases h;cases h
theorem asQ_ok (hg:Yz T K base ρ bd) {l:List (SV Ato)} {i:Nat} {vs:List Value} (h:asQ' T l=some i) (hd:YL (DS hT bd) G l vs):Rp G.S (ρ i) (bd i) (.agg vs.toArray):=by
 unfold asQ' at h;split at h;rename_i i' j k;split at h;rename_i hij;rw[YM] at hij;subst hij;split at h;rename_i hik;rw[YM] at hik;subst hik;split at h;rename_i hk;cases h;have e:=AV.k2 (Zbm hg hk);obtain⟨cs,us,rfl,h1,h2⟩:=cQ_of (r:=[]) e hd;have:=h2.nilI;subst this;rw[List.append_nil,e];exact⟨_,rfl,h1⟩;cases h;cases h;cases h;split at h;rename_i k r hf;cases h;obtain⟨h1,h2⟩:=Xw hf;rw[(hg.row _ _ h1).1,h2]
 cases hd with
 | one x1 _ _ x2=>
   cases x1
   cases x2 with
   | one x3 _ _ x4=>
     cases x3
     cases x4 with
     | one x5 _ _ x6=>
       cases x5
       cases x6 with
       | one x7 _ _ x8=>
         cases x7
         cases x8 with
         | one x9 _ _ x10=>
           cases x9
           cases x10
           exact⟨_,rfl,Fs.zero _ _⟩
 cases h;cases h
theorem asA_ok (hg:Yz T K base ρ bd) {k i:Nat} {x:SV Ato} {v:Value} (h:asA T k x=some i) (hd:Den (DS hT bd) G x v):Rp G.S (ρ i) (bd i) v:=by
 unfold asA at h;split at h
 cases hd with
 | agg hl=>
   split at h
   · exact asN_ok hg h hl
   · exact asZ_ok hg h hl
   · exact asQ_ok hg h hl
   · cases h
 split at h;rename_i j;split at h;split at h;rename_i hk;cases h
 cases hd with
 | at_ hp=>
   obtain⟨s,e,hc⟩:=hp
   rw[e]
   have:v= .string s:=by simpa using hc
   exact this
 cases h;cases h;cases h;cases h
end
end
end Go.Cham
namespace Go.Cham
open Go Go.RowKit
noncomputable section
def getA (T:Tb) (kds:List Nat):List (SV Ato)->Option (List Nat):=List.rec (λl=>match l with
    |[]=>some []
    |_=>none) (λk _ ih l=>match l with
    | x ::r=>match asA T k x with
      | some i=>match isK T i k with
        | true=>match ih r with
          |some is=>some (i::is)
          |none=>none
        |false=>none
      |none=>none
    |[]=>none) kds
def Reps (S:Sh):List Nat->List AV->List Nat->List Value->Prop
  |[],[],[],[]=>True
  |kd::kds,x::xs,k::ks,v::vs=>x.kind=kd/\Rp S x k v/\Reps S kds xs ks vs
  |_,_,_,_=>False
def limB (T:Tb) (lim:Nat) (is:List Nat):Bool:=is.all λi=>match Zbw T i with
  |some r=>Nat.ble (Nat.add (Nat.mul r.c T.km) r.d) lim
  |none=>false
def sumC (T:Tb) (is:List Nat):Nat:=List.rec 0 (λi _ s=>match Zbw T i with
  |some r=>Nat.add r.c s
  |none=>s) is
def sumD (T:Tb) (is:List Nat):Nat:=List.rec 0 (λi _ s=>match Zbw T i with
  |some r=>Nat.add r.d s
  |none=>s) is
def sumB (T:Tb) (e:Nat) (is:List Nat) (r:Rw):Bool:=Nat.ble (sumC T is) r.c && Nat.ble (Nat.add (sumD T is) e) r.d
def resV (kd k:Nat):SV Ato:=match kd with
  |0=>.agg (cN k)
  |1=>.agg (cZ k)
  |2=>.agg (cQ k)
  |_=>.at_ (.t k)
def opV (T:Tb) (op lim e:Nat) (is:List Nat):Option (SV Ato):=match limB T lim is with
  | true=>match Zc5 T (op::is) with
    | some (k,r)=>match sumB T e is r with
      |true=>some (resV (Nat.mod op 4) k)
      |false=>none
    |none=>none
  |false=>none
def tstV (T:Tb) (t lim:Nat) (is:List Nat):Option Int:=match limB T lim is with
  |true=>Zff (t::is) T.conds
  |false=>none
def pO (T:Tb) (kds:List Nat) (op lim e:Nat):PrF Ato:=λl=>match getA T kds l with
  |some is=>opV T op lim e is
  |none=>none
def pT (T:Tb) (kds:List Nat) (t lim:Nat):PrF Ato:=λl=>match getA T kds l with
  | some is=>match tstV T t lim is with
    |some x=>some (.int .i64 x)
    |none=>none
  |none=>none
section
variable {T : Tb} {K : Nat} {base ρ : Nat → AV} {bd : Nat → Nat} {G : Gh} {T0 : Tb} {hT : Cs T0 ρ}
theorem QR (hg:Yz T K base ρ bd):∀{kds:List Nat} {l:List (SV Ato)} {is:List Nat} {vs:List Value},getA T kds l=some is->Qm (DS hT bd) G l vs->Reps G.S kds (is.map ρ) (is.map bd) vs
  | [],l,is,vs,h,hd=>by
    cases l with
    | nil=>
      have h':some []=some is:=h
      cases h'
      cases hd
      trivial
    |cons x r=>cases (show(none:Option (List Nat))=some is from h)
  | k ::kds,l,is,vs,h,hd=>by
    cases l with
    |nil=>cases (show(none:Option (List Nat))=some is from h)
    | cons x r=>
      have h':(match asA T k x with
        | some i=>match isK T i k with
          | true=>match getA T kds r with
            |some is=>some (i::is)
            |none=>none
          |false=>none
        |none=>none)=some is:=h
      split at h'
      · rename_i i hi
        split at h'
        · rename_i hk
          split at h'
          · rename_i is' his
            cases h'
            cases hd with
            |cons h1 h2=>exact⟨Zbm hg hk,asA_ok hg hi h1,QR hg his h2⟩
          · cases h'
        · cases h'
      · cases h'
theorem Qx (hg:Yz T K base ρ bd) {lim:Nat} {is:List Nat} (h:limB T lim is=true):∀k∈is.map bd,k<=lim:=by
 intro k hk;obtain⟨i,hi,rfl⟩:=List.mem_map.1 hk;have:=List.all_eq_true.1 h i hi;split at this;rename_i r hr;have h1:=Nat.le_of_ble_eq_true this;rw[(hg.row i r hr).2];exact Nat.le_trans (Nat.add_le_add_right (Nat.mul_le_mul_left _ hg.km) _) h1;cases this
theorem sum_ok (hg:Yz T K base ρ bd) {lim:Nat}:∀{is:List Nat},limB T lim is=true->(is.map bd).sum=sumC T is*K+sumD T is
  |[],_=>by simp[sumC,sumD]
  | i ::is,h=>by
    have h1:(limB T lim [i] && limB T lim is)=true:=by simpa [limB] using h
    simp only[Bool.and_eq_true] at h1
    have ih:=sum_ok hg h1.2
    have h2:(match Zbw T i with
      |some r=>Nat.ble (Nat.add (Nat.mul r.c T.km) r.d) lim
      |none=>false)=true:=by simpa [limB] using h1.1
    split at h2
    · rename_i r hr
      have e1:sumC T (i::is)=r.c+sumC T is:=by
        show(match Zbw T i with
          |some r=>Nat.add r.c (sumC T is)
          |none=>sumC T is)=_
        rw[hr];rfl
      have e2:sumD T (i::is)=r.d+sumD T is:=by
        show(match Zbw T i with
          |some r=>Nat.add r.d (sumD T is)
          |none=>sumD T is)=_
        rw[hr];rfl
      rw[List.map_cons,List.sum_cons,ih,e1,e2,(hg.row i r hr).2,Nat.add_mul]
      omega
    · cases h2
theorem Xa {S:Sh} {blk:Nat->Option (Nat × Nat)} {kd k:Nat} {v:Value} (hk:(ρ k).kind=kd) (h:Rp S (ρ k) (bd k) v):Den (DS hT bd) ⟨S,blk⟩ (resV kd k) v:=by
 cases hx:ρ k with
 | n a=>
   rw[hx] at hk h
   subst hk
   obtain⟨cs,rfl,h1⟩:=h
   have:=cN_mk (hT:=hT) (bd:=bd) (G:=⟨S,blk⟩) hx h1 (Nat.le_refl _) .nil
   have q:=Den.agg this
   simp only[List.append_nil] at q
   exact q
 | z a=>
   rw[hx] at hk h
   subst hk
   obtain⟨cs,rfl,h1⟩:=h
   have:=cZ_mk (hT:=hT) (bd:=bd) (G:=⟨S,blk⟩) hx h1 (Nat.le_refl _) .nil
   have q:=Den.agg this
   simp only[List.append_nil] at q
   exact q
 | q a=>
   rw[hx] at hk h
   subst hk
   obtain⟨cs,rfl,h1⟩:=h
   have:=cQ_mk (hT:=hT) (bd:=bd) (G:=⟨S,blk⟩) hx h1 (Nat.le_refl _) .nil
   have q:=Den.agg this
   simp only[List.append_nil] at q
   exact q
 | s a=>
   rw[hx] at hk h
   subst hk
   have h':v= .string a:=h
   subst h'
   exact .at_ ⟨a,hx,rfl⟩
theorem Zd3 (hg:Yz T K base ρ bd) {op lim e:Nat} {is:List Nat} {r:SV Ato} (h:opV T op lim e is=some r) (ho:10<op):
    ∃k,r=resV (op%4) k/\(ρ k).kind=op%4/\ρ k=Zfy op (is.map ρ)/\(∀k∈is.map bd,k<=lim)/\(is.map bd).sum+e<=bd k:=by
 unfold opV at h;split at h;rename_i hl;split at h;rename_i k r' hf;split at h;rename_i hs;simp only[Option.some.injEq] at h;obtain⟨h1,h2⟩:=Xw hf;obtain⟨h3,h4⟩:=hg.row _ _ h1;rw[h2,semK_op ho] at h3;refine⟨k,h.symm,by rw[h3];exact semL_kind _ _,h3,Qx hg hl,?_⟩;unfold sumB at hs;simp only[Bool.and_eq_true] at hs;have a1:=Nat.le_of_ble_eq_true hs.1;have a2:=Nat.le_of_ble_eq_true hs.2;rw[sum_ok hg hl,h4,Nat.add_assoc];exact Nat.add_le_add (Nat.mul_le_mul_right _ a1) a2;cases h;cases h;cases h
theorem tstV_ok (hg:Yz T K base ρ bd) {t lim:Nat} {is:List Nat} {x:Int} (h:tstV T t lim is=some x):semT t (is.map ρ)=x/\(∀k∈is.map bd,k<=lim):=by
 unfold tstV at h;split at h;rename_i hl;exact⟨hg.cond _ (QI h),Qx hg hl⟩;cases h
theorem pO_ok (hg:Yz T K base ρ bd) {P:Program} {f:FuncId} {kds:List Nat} {op lim e:Nat} (he:ZT P f=true) (ho:10<op)
    (h:∀S w vs xs ks k,ZU S w->Reps S kds xs ks vs->(∀k∈ks,k<=lim)->ks.sum+e<=k->Calls P f vs.toArray w (Ret S w λS' v=>Rp S' (Zfy op xs) k v)):YZ P (DS hT bd) f (pO T kds op lim e):=by
 intro args r hr G w vs hd hS;unfold pO at hr;split at hr;rename_i is his;obtain⟨k,rfl,h1,h2,h3,h4⟩:=Zd3 hg hr ho;refine .ret he (h _ _ _ _ _ (bd k) hS (QR hg his hd) h3 h4) λS' v hv=>?_;rw[<-h2] at hv;exact Xa h1 hv;cases hr
theorem pT_ok (hg:Yz T K base ρ bd) {P:Program} {f:FuncId} {kds:List Nat} {t lim:Nat} (he:ZT P f=true)
    (h:∀S w vs xs ks,ZU S w->Reps S kds xs ks vs->(∀k∈ks,k<=lim)->Calls P f vs.toArray w (Ret S w λ_ v=>v= .int .i64 (semT t xs))):YZ P (DS hT bd) f (pT T kds t lim):=by
 intro args r hr G w vs hd hS;unfold pT at hr;split at hr;rename_i is his;split at hr;rename_i x hx;cases hr;obtain⟨h1,h2⟩:=tstV_ok hg hx;refine .ret he (h _ _ _ _ _ hS (QR hg his hd) h2) λS' v hv=>?_;rw[hv,h1];exact .int _ _;cases hr;cases hr
theorem Reps.cons {S:Sh} {kd:Nat} {kds:List Nat} {xs:List AV} {ks:List Nat} {vs:List Value} (h:Reps S (kd::kds) xs ks vs):∃x xs' k ks' v vs',xs=x::xs'/\ks=k::ks'/\vs=v::vs'/\x.kind=kd/\Rp S x k v/\Reps S kds xs' ks' vs':=by
 cases xs with
 |nil=>simp[Reps] at h
 | cons x xs=>cases ks with
   |nil=>simp[Reps] at h
   | cons k ks=>cases vs with
     |nil=>simp[Reps] at h
     |cons v vs=>exact⟨x,xs,k,ks,v,vs,rfl,rfl,rfl,h.1,h.2.1,h.2.2⟩
theorem Reps.nilI {S:Sh} {xs:List AV} {ks:List Nat} {vs:List Value} (h:Reps S [] xs ks vs):xs=[]/\ks=[]/\vs=[]:=by
 cases xs <;> cases ks <;> cases vs <;> simp_all [Reps]
theorem Reps.one {S:Sh} {kd:Nat} {xs:List AV} {ks:List Nat} {vs:List Value} (h:Reps S [kd] xs ks vs):∃x k v,xs=[x]/\ks=[k]/\vs=[v]/\x.kind=kd/\Rp S x k v:=by
 obtain⟨x,xs',k,ks',v,vs',rfl,rfl,rfl,h1,h2,h3⟩:=h.cons;obtain⟨rfl,rfl,rfl⟩:=h3.nilI;exact⟨x,k,v,rfl,rfl,rfl,h1,h2⟩
theorem Reps.two {S:Sh} {kd kd':Nat} {xs:List AV} {ks:List Nat} {vs:List Value} (h:Reps S [kd,kd'] xs ks vs):∃x k v x' k' v',xs=[x,x']/\ks=[k,k']/\vs=[v,v']/\x.kind=kd/\Rp S x k v/\x'.kind=kd'/\Rp S x' k' v':=by
 obtain⟨x,xs',k,ks',v,vs',rfl,rfl,rfl,h1,h2,h3⟩:=h.cons;obtain⟨x',k',v',rfl,rfl,rfl,h4,h5⟩:=h3.one;exact⟨x,k,v,x',k',v',rfl,rfl,rfl,h1,h2,h4,h5⟩
theorem Rp.q {S:Sh} {x:AV} {k:Nat} {v:Value} (hk:x.kind=2) (h:Rp S x k v):∃cs,v= .agg cs.toArray/\Fs S cs [x.rat] k:=by rw[AV.k2 hk] at h;exact h
theorem Rp.z {S:Sh} {x:AV} {k:Nat} {v:Value} (hk:x.kind=1) (h:Rp S x k v):∃cs,v= .agg cs.toArray/\In S cs x.int k:=by rw[AV.k1 hk] at h;exact h
theorem Rp.n {S:Sh} {x:AV} {k:Nat} {v:Value} (hk:x.kind=0) (h:Rp S x k v):∃cs,v= .agg cs.toArray/\Na S cs x.nat k:=by rw[AV.k0 hk] at h;exact h
theorem Rp.s {S:Sh} {x:AV} {k:Nat} {v:Value} (hk:x.kind=3) (h:Rp S x k v):v= .string x.txt:=by rw[AV.k3 hk] at h;exact h
end
end
end Go.Cham
namespace Go.Cham
open Go Go.RowKit Go.Proofs
set_option maxRecDepth 20000 in
theorem nat_Of {S:Sh} {w:World} (hS:ZU S w) {n:Nat} (hn:n<18446744073709551616):Calls Tryz.prog 76 [(.int .u64 ((n:Nat):Int))].toArray w (Ret S w (λS v=>∃(c0:List Value),v= .agg c0.toArray/\Na S c0 (n) (64))):=by
 refine ZB (n:=5) Tryz.func76 rfl rfl ?_;intro ac0 L0;replace L0:ZL ac0 5 [(0,(.int .u64 (n:Int)))]:=L0;have R0:Run S w S [] w:=.start hS;refine wp_seq (Za (so L0 rfl (ZJ (cs:=zN1) ZZ R0 rfl ?_)));intro b1 _ R1 _ L1;refine sn (wp_seq (Za (sm L1 rfl ?_)));intro _ L2;have h1:Na S [(.int .u64 (n:Int)),(.slice none 0 0)] (n) (64):=Na.ofLow hn;exact so L2 rfl (ZG (cs:=[(.int .u64 (n:Int)),(.slice none 0 0)]) L2 ZZ Qi (.cons rfl Yl rfl (by decide) .nil) (by rfl) λ_ L3=>Zv L3 rfl rfl (Zl L3 rfl rfl R1 Zo h1.len rfl h1.ones λ_ R2 _ L4=>sn (wp_ret ((Zn (rs:=Tryz.f76.results.toList) L4 rfl (Res.aggW rfl ZK Zo (R2.has (List.Mem.head _)) h1.len Res.nil) (⟨_,_,rfl,R2.ext,⟨_,rfl,(h1.to rfl (by omega))⟩⟩))))))
set_option maxRecDepth 20000 in
theorem Xj {S:Sh} {w:World} (hS:ZU S w) {c_a:List Value} {a:Nat} {k_a:Nat} (h_a:Na S c_a (a) (k_a)):Calls Tryz.prog 140 [(.agg (c_a:List Value).toArray)].toArray w (Ret S w (λS v=>∃(p0:Option Addr) (len0:Nat) (cap0:Nat),v= .slice p0 len0 cap0/\(ZH W64 a).length=len0/\len0<=cap0/\len0<=281474976710656/\Dg S p0 len0 cap0 (ZH W64 a))):=by
 refine ZB (n:=14) Tryz.func140 rfl rfl ?_;intro ac0 L0;replace L0:ZL ac0 14 [(0,(.agg (c_a:List Value).toArray))]:=L0;have R0:Run S w S [] w:=.start hS;obtain⟨hb_a,⟨hs_a,rfl⟩|⟨hw_a,lo_a,bb_a,len_a,cap_a,rest_a,hlo_a,rfl,rw_a,hd_a,h2_a⟩⟩:=h_a.open;refine wp_seq (Za (so L0 rfl (ZW (cs:=[(.int .u64 (a:Int)),(.slice none 0 0)]) L0 rfl R0 rfl ?_)));intro b1 _ _ l1 r1 R1 _ L1;refine sa L1 rfl λ_ L2=>sn (wp_seq (wp_seq (Za (so L2 rfl (Zd (off':=1) L2 rfl ZR rfl λ_ L3=>so L3 rfl (Zj L3 rfl YS (R1.row r1) rfl λ_ L4=>so L4 rfl (does_neqNil L4 rfl rfl Tryz.underlying30 λ_ L5=>sn ?_)))))));refine Zi L5 rfl rfl (wp_skip ((Zb (wp_seq (wp_seq (Za (so L5 rfl (Zd (off':=0) L5 rfl Yl rfl ?_))))))));intro _ L6;refine so L6 rfl (Zj L6 rfl Yu (R1.row r1) rfl λ_ L7=>?_);by_cases t1:(a:Int)=(0:Int);refine so L7 rfl (bT t1 (λ_=>ZQ L7 rfl rfl) λ_ L8=>?_);have L9:=(L8.kp [1,2,10] rfl);clear L8;refine sn (Zm L9 rfl rfl (wp_seq (Za (sa L9 rfl ?_))));intro _ L10;exact sn (wp_ret ((Zt (Zn (rs:=Tryz.f140.results.toList) L10 rfl (.tmp rfl Res.nil) (⟨_,_,rfl,R1.ext,⟨_,_,_,rfl,(by rw[show a=0 by omega,YR];rfl),(Nat.le_refl _),(by omega),(by rw[show a=0 by omega,YR];exact Dg.nil)⟩⟩)))));refine so L7 rfl (bF t1 (λ_=>ZQ L7 rfl rfl) λ_ L11=>?_);have L12:=(L11.kp [1,2,10] rfl);clear L11;refine sn (Zi L12 rfl rfl (wp_skip ((Zb (wp_seq (Za (so L12 rfl (Zd (off':=0) L12 rfl Yl rfl ?_))))))));intro _ L13;refine so L13 rfl (Zj L13 rfl Yu (R1.row r1) rfl λ_ L14=>so L14 rfl (Yo (cs:=(Yw [a]++[])) L14 Tryz.underlying30 ZE QP (.cons rfl rfl (by decide) .nil) [[(.int .u64 (a:Int))]] rfl rfl (by rfl) (by decide) R1 λb2 _ R2 _ L15=>sa L15 rfl λ_ L16=>?_));have L17:=(L16.kp [2] rfl);clear L16;refine sn ?_;obtain⟨S2,l2,r2,R3⟩:=(R2).freeze;have hd1:Dg S2 (some ⟨b2,0,none⟩) 1 1 ([a]):=⟨by first|(simp;done)|(simp;omega)|omega,by omega,by omega,by simp;omega,λ_=>⟨_,_,rfl,r2⟩⟩;exact wp_ret ((Zn (rs:=Tryz.f140.results.toList) L17 rfl (.tmp rfl Res.nil) (⟨_,_,rfl,R3.ext,⟨_,_,_,rfl,(by rw[digs_small (by omega) (by omega)];rfl),(Nat.le_refl _),(by omega),(hd1.cast (digs_small (by omega) (by omega)).symm)⟩⟩)));have hl_a:=hd_a.hlen;have hc_a:=hd_a.hcap;have hg_a:=hd_a.hbig;have hW_a:18446744073709551616<=a:=hw_a;refine wp_seq (Za (so L0 rfl (ZW (cs:=[(.int .u64 (lo_a:Int)),(.slice (some ⟨bb_a,0,none⟩) len_a cap_a)]) L0 rfl R0 rfl ?_)));intro b3 _ _ l3 r3 R4 _ L18;refine sa L18 rfl λ_ L19=>sn (wp_seq (wp_seq (Za (so L19 rfl (Zd (off':=1) L19 rfl ZR rfl λ_ L20=>so L20 rfl (Zj L20 rfl YS (R4.row r3) rfl λ_ L21=>so L21 rfl (does_neqNil L21 rfl rfl Tryz.underlying30 λ_ L22=>sn ?_)))))));refine Zm L22 rfl rfl (wp_seq (Za (so L22 rfl (Zd (off':=1) L22 rfl ZR rfl ?_))));intro _ L23;exact so L23 rfl (Zj L23 rfl YS (R4.row r3) rfl λ_ L24=>sa L24 rfl λ_ L25=>sn (wp_ret ((Zt (Zn (rs:=Tryz.f140.results.toList) (L25.kp [1,2] rfl) rfl (.tmp rfl Res.nil) (⟨_,_,rfl,R4.ext,⟨_,_,_,rfl,(hd_a.up l3).hlen,(hd_a.up l3).hcap,(hd_a.up l3).hbig,(hd_a.up l3)⟩⟩))))))
set_option maxRecDepth 20000 in
theorem Zc0 {S:Sh} {w:World} (hS:ZU S w) {p_d:Option Addr} {len_d cap_d:Nat} {d:List Nat} (hd_d:Dg S p_d len_d cap_d d) {k:Nat} (hk:val W64 d<=2^k):Calls Tryz.prog 135 [(.slice p_d len_d cap_d)].toArray w (Ret S w (λS v=>∃(c0:List Value),v= .agg c0.toArray/\Na S c0 (val W64 d) (k))):=by
 refine ZB (n:=33) Tryz.func135 rfl rfl ?_;intro ac0 L0;replace L0:ZL ac0 33 [(0,(.slice p_d len_d cap_d))]:=L0;have R0:Run S w S [] w:=.start hS;have hl_d:=hd_d.hlen;have hc_d:=hd_d.hcap;have hg_d:=hd_d.hbig;refine wp_seq (Za (so L0 rfl (ZJ (cs:=zN1) ZZ R0 rfl ?_)));intro b1 _ R1 _ L1;refine sn (wp_seq (Za (sm L1 rfl ?_)));intro _ L2;refine so L2 rfl (ZC L2 rfl Tryz.underlying30 λ_ L3=>sa L3 rfl λ_ L4=>sn (wp_seq (wp_block ?_)));refine ZO (λm ac ww=>∃(S':Sh) (n:Nat),S.le S'/\ZL ac 33 [(0,(.slice p_d len_d cap_d)),(2,(.pointer (some ⟨b1,0,none⟩))),(3,(.int .i64 ((n:Nat):Int)))]/\Run S w S' [(b1,32,zN1)] ww/\(n<=len_d)/\(val W64 (d.take n)=val W64 d)/\m=n) (len_d) ⟨S,len_d,Sh.le.refl _,(L4.kp [3,2,0] rfl),R1,(by omega),(by rw[List.take_of_length_le (by omega)]),rfl⟩ ?_;rintro m_1 ac1 _ ⟨S1,n,l1,L5,R2,hn,hv,m1⟩;refine wp_seq (wp_seq (Za (sm L5 rfl ?_)));intro _ L6;by_cases t1:(0:Int)<(n:Int);refine so L6 rfl (bT t1 (λ_=>ZD L6 rfl rfl) λ_ L7=>sm L7 rfl λ_ L8=>son L8 rfl (Zf L8 rfl λ_ L9=>son L9 rfl (Zf L9 rfl λ_ L10=>son L10 rfl (ZN L10 rfl rfl Xr λ_ L11=>?_))));obtain⟨b2,rest_1,rfl,r1⟩:=(hd_d.up l1).row (by omega);refine son L11 rfl (Zp ((n - 1)) L11 rfl rfl Tryz.underlying30 ZE (by omega) (by omega) λ_ L12=>son L12 rfl (Zj (v:=(.int .u64 ((d.getD ((n - 1)) 0:Nat):Int))) L12 rfl Yu (R2.row r1) (by rw[Nat.zero_add];exact Yd (by omega)) λ_ L13=>?_));by_cases t2:((d.getD ((n - 1)) 0:Nat):Int)=(0:Int);refine son L13 rfl (bT t2 (λ_=>ZQ L13 rfl rfl) λ_ L14=>so L14 rfl (Ze L14 rfl rfl λ_ L15=>sn (Zm L15 rfl rfl (wp_skip ((Zb (wp_block (Za (sm L15 rfl λ_ L16=>so L16 rfl (ZN L16 rfl rfl Xr λ_ L17=>?_))))))))));exact sa L17 rfl λ_ L18=>Ye ((Zy (Zb (⟨(n - 1),(by omega),S1,(n - 1),l1,(((L18.ri 3 (((n - 1):Nat):Int) rfl).a L18).kp [3,2,0] rfl),R2,(by omega),(by rw[<-hv];exact Zcr (by omega) (by omega) (by omega)),rfl⟩))));refine son L13 rfl (bF t2 (λ_=>ZQ L13 rfl rfl) λ_ L20=>so L20 rfl (Ze L20 rfl rfl λ_ L21=>sn (Zi L21 rfl rfl (wp_exit ((Zq (Zq (Yx (Zb (wp_seq (wp_seq (Za (sm L21 rfl λ_ L22=>?_)))))))))))));have L23:=(L22.kp [0,2,3,18] rfl);clear L22;refine sn (wp_block (wp_seq (Za ?_)));have t3:¬((n:Int)=(0:Int)):=by omega
 refine so L23 rfl (bF t3 (λ_=>ZQ L23 rfl rfl) λ_ L24=>sa L24 rfl λ_ L25=>sn (Zi L25 rfl rfl (wp_seq (Za ?_))));by_cases t4:(n:Int)=(1:Int);refine so L25 rfl (bT t4 (λ_=>ZQ L25 rfl rfl) λ_ L26=>sa L26 rfl λ_ L27=>sn (Zm L27 rfl rfl (wp_seq (Za (sm L27 rfl λ_ L28=>so L28 rfl (Zp (0) L28 rfl rfl Tryz.underlying30 ZE (by omega) (by omega) λ_ L29=>so L29 rfl (Zj (v:=(.int .u64 ((d.getD (0) 0:Nat):Int))) L29 rfl Yu (R2.row r1) (by rw[Nat.zero_add];exact Yd (by omega)) λ_ L30=>?_)))))));have h1:Na S1 [(.int .u64 ((d.getD (0) 0:Nat):Int)),(.slice none 0 0)] (val W64 d) (k):=by(have e:val W64 d=d.getD 0 0:=(by rw[<-hv,show n=1 by omega];exact val_one (by omega)));rw[e];exact Na.ofLowK (ZS hd_d.hlt (by decide) 0) (by rw[<-e];exact hk)
 exact so L30 rfl (ZG (cs:=[(.int .u64 ((d.getD (0) 0:Nat):Int)),(.slice none 0 0)]) L30 ZZ Qi (.cons rfl Yl rfl (by decide) .nil) (by rfl) λ_ L31=>Zv L31 rfl rfl (Zl L31 rfl rfl R2 Zo h1.len rfl h1.ones λ_ R3 _ L32=>sn (wp_ret ((YC (Zt (Zn (rs:=Tryz.f135.results.toList) (L32.kp [0,2,3] rfl) rfl (Res.aggW rfl ZK Zo (R3.has (List.Mem.head _)) h1.len Res.nil) (⟨_,_,rfl,R3.ext,⟨_,rfl,(h1.to rfl (by omega))⟩⟩))))))));refine so L25 rfl (bF t4 (λ_=>ZQ L25 rfl rfl) λ_ L34=>sa L34 rfl λ_ L35=>sn (Zi L35 rfl rfl (wp_skip ((Zy (Zb (wp_seq (Za (sm L35 rfl λ_ L36=>sm L36 rfl λ_ L37=>?_)))))))));refine sm L37 rfl λ_ L38=>so L38 rfl (does_slice3 (i:=n) (j:=n) L38 rfl rfl rfl Tryz.underlying30 ZE (by omega) (by omega) λ_ L39=>?_);have h2:Na S1 [(.int .u64 (0:Int)),(.slice (some ⟨b2,0,none⟩) (n) (n))] (val W64 d) (k):=Na.cut r1 (by omega) (by omega) (by omega) hd_d.hlt (by omega) hv hk;exact so L39 rfl (ZG (cs:=[(.int .u64 (0:Int)),(.slice (some ⟨b2,0,none⟩) (n) (n))]) L39 ZZ Qi (.cons rfl ZR rfl (by decide) .nil) (by rfl) λ_ L40=>Zv L40 rfl rfl (Zl L40 rfl rfl R2 Zo h2.len rfl h2.ones λ_ R4 _ L41=>sn (wp_ret ((Zn (rs:=Tryz.f135.results.toList) (L41.kp [2] rfl) rfl (Res.aggW rfl ZK Zo (R4.has (List.Mem.head _)) h2.len Res.nil) (⟨_,_,rfl,R4.ext,⟨_,rfl,(h2.to rfl (by omega))⟩⟩))))));refine so L6 rfl (bF t1 (λ_=>ZD L6 rfl rfl) λ_ L43=>sm L43 rfl λ_ L44=>sof L44 rfl λ_ L45=>sof L45 rfl λ_ L46=>sof L46 rfl λ_ L47=>sof L47 rfl λ_ L48=>sof L48 rfl λ_ L49=>?_);refine sof L49 rfl λ_ L50=>so L50 rfl (Ze L50 rfl rfl λ_ L51=>?_);have L52:=(L51.kp [0,2,3,6,7,8,15] rfl);clear L51;refine sn (Zi L52 rfl rfl (wp_exit ((Zq (Zq (Yx (Zb (wp_seq (wp_seq (Za (sm L52 rfl ?_)))))))))));intro _ L53;refine sn (wp_block (wp_seq (Za ?_)));have t5:(n:Int)=(0:Int):=by omega
 refine so L53 rfl (bT t5 (λ_=>ZQ L53 rfl rfl) λ_ L54=>sa L54 rfl λ_ L55=>?_);have L56:=(L55.kp [0,2,3,18,19] rfl);clear L55;refine sn (Zm L56 rfl rfl (wp_seq (Za ?_)));have h3:Na S1 zN1 (val W64 d) (k):=by rw[show val W64 d=0 from by rw[<-hv,show n=0 by omega];rfl];exact Na.zero _ _
 exact so L56 rfl (ZG (cs:=zN1) L56 ZZ Qi .nil (by rfl) λ_ L57=>Zv L57 rfl rfl (Zl L57 rfl rfl R2 Zo h3.len rfl h3.ones λ_ R5 _ L58=>sn (wp_ret ((YC (Zt (Zn (rs:=Tryz.f135.results.toList) L58 rfl (Res.aggW rfl ZK Zo (R5.has (List.Mem.head _)) h3.len Res.nil) (⟨_,_,rfl,R5.ext,⟨_,rfl,(h3.to rfl (by omega))⟩⟩))))))))
end Go.Cham
namespace Go.Cham
open Go Go.RowKit Go.Proofs
set_option maxRecDepth 20000 in
theorem YF {S:Sh} {w:World} (hS:ZU S w) {c_a:List Value} {a:Nat} {k_a:Nat} (h_a:Na S c_a (a) (k_a)):Calls Tryz.prog 98 [(.agg (c_a:List Value).toArray)].toArray w (Ret S w (λS v=>v= .int .i64 (((Zs a:Nat):Int)))):=by
 refine ZB (n:=24) Tryz.func98 rfl rfl ?_;intro ac0 L0;replace L0:ZL ac0 24 [(0,(.agg (c_a:List Value).toArray))]:=L0;have R0:Run S w S [] w:=.start hS;have hbl:=bitlen_le (k:=64) (n:=(ZH W64 a).getD ((ZH W64 a).length - 1) 0) (Nat.le_of_lt (ZS (Zdc (B:=W64) (by decide) _) (by decide) _));obtain⟨hb_a,⟨hs_a,rfl⟩|⟨hw_a,lo_a,bb_a,len_a,cap_a,rest_a,hlo_a,rfl,rw_a,hd_a,h2_a⟩⟩:=h_a.open;refine wp_seq (Za (so L0 rfl (ZW (cs:=[(.int .u64 (a:Int)),(.slice none 0 0)]) L0 rfl R0 rfl ?_)));intro b1 _ _ l1 r1 R1 _ L1;refine sa L1 rfl λ_ L2=>sn (wp_seq (wp_seq (Za (so L2 rfl (Zd (off':=1) L2 rfl ZR rfl λ_ L3=>so L3 rfl (Zj L3 rfl YS (R1.row r1) rfl λ_ L4=>so L4 rfl (Ya L4 rfl rfl Tryz.underlying30 λ_ L5=>sn ?_)))))));refine Zm L5 rfl rfl (wp_seq (Za (so L5 rfl (Zd (off':=0) L5 rfl Yl rfl ?_))));intro _ L6;refine so L6 rfl (Zj L6 rfl Yu (R1.row r1) rfl λ_ L7=>so L7 rfl (Zh L7 rfl ent_150 (bits_Len64R R1.holds (x:=a) (hs_a)) λv_1 _ _ x1 v1=>?_));have R2:=R1.call x1;obtain rfl:=v1;intro _ L8;exact sa L8 rfl λ_ L9=>sn (wp_ret ((Zt (Zn (rs:=Tryz.f98.results.toList) (L9.kp [1,2] rfl) rfl (.tmp rfl Res.nil) (⟨_,_,rfl,R2.ext,rfl⟩)))));have hl_a:=hd_a.hlen;have hc_a:=hd_a.hcap;have hg_a:=hd_a.hbig;have hW_a:18446744073709551616<=a:=hw_a;refine wp_seq (Za (so L0 rfl (ZW (cs:=[(.int .u64 (lo_a:Int)),(.slice (some ⟨bb_a,0,none⟩) len_a cap_a)]) L0 rfl R0 rfl ?_)));intro b2 _ _ l3 r2 R3 _ L11;refine sa L11 rfl λ_ L12=>sn (wp_seq (wp_seq (Za (so L12 rfl (Zd (off':=1) L12 rfl ZR rfl λ_ L13=>so L13 rfl (Zj L13 rfl YS (R3.row r2) rfl λ_ L14=>so L14 rfl (Ya L14 rfl rfl Tryz.underlying30 λ_ L15=>sn ?_)))))));refine Zi L15 rfl rfl (wp_skip ((Zb (wp_seq ?_))));have L16:=(L15.kp [1,2] rfl);refine Zx (E0:=[]) (H0:=[]) (n:=24) mixed 14 [] (λk=>0) (Zdm [.is (.pointer (some ⟨b2,1,none⟩)),.is (.slice (some ⟨bb_a,0,none⟩) len_a cap_a),.is (.int .i64 (len_a:Int)),.is (.int .i64 ((len_a:Int) - (1:Int))),.is (.int .i64 ((64:Int)*((len_a:Int) - (1:Int)))),.is (.pointer (some ⟨b2,1,none⟩)),.is (.slice (some ⟨bb_a,0,none⟩) len_a cap_a),.is (.pointer (some ⟨b2,1,none⟩)),.is (.slice (some ⟨bb_a,0,none⟩) len_a cap_a),.is (.int .i64 (len_a:Int)),.is (.int .i64 ((len_a:Int) - (1:Int))),.is (.pointer (some ⟨bb_a,(0+((len_a - 1))),none⟩)),.is (.int .u64 (((ZH W64 a).getD ((len_a - 1)) 0:Nat):Int)),.is (.int .i64 (((Zs ((ZH W64 a).getD ((len_a - 1)) 0):Nat):Int)))]) L16 R3 (by simp) (by simp) (by rfl) (by rfl) (by simp) (ZY ?_) ?_;refine(An ?_ (An ?_ (An ?_ (An ?_ (An ?_ (An ?_ (An ?_ (An ?_ (An ?_ (An ?_ (An ?_ (An ?_ (An ?_ (An ?_ trivial))))))))))))));exact Zc rfl (λ_ _ _ _ _ A1=>(Zd (off':=1) A1.live rfl ZR rfl (A1.same rfl)));refine Zc rfl (λ_ _ _ _ _ A2=>?_);obtain⟨_,e1,rfl⟩:=A2.known 0 rfl;exact Zj (A2.live.add e1) rfl YS (A2.run.row (r2.up A2.le)) rfl (A2.same rfl);refine Zc rfl (λ_ _ _ _ _ A3=>?_);obtain⟨_,e2,rfl⟩:=A3.known 1 rfl;exact ZC (A3.live.add e2) rfl Tryz.underlying30 (A3.same rfl);refine Zc rfl (λ_ _ _ _ _ A4=>?_);obtain⟨_,e3,rfl⟩:=A4.known 2 rfl;exact ZN (z:=((len_a:Int) - (1:Int))) (A4.live.add e3) rfl rfl Xr (A4.same rfl);refine Zc rfl (λ_ _ _ _ _ A5=>?_);obtain⟨_,e4,rfl⟩:=A5.known 3 rfl;exact Xz (z:=((64:Int)*((len_a:Int) - (1:Int)))) (A5.live.add e4) rfl rfl Xr (A5.same rfl);exact Zc rfl (λ_ _ _ _ _ A6=>(Zd (off':=1) A6.live rfl ZR rfl (A6.same rfl)));refine Zc rfl (λ_ _ _ _ _ A7=>?_);obtain⟨_,e5,rfl⟩:=A7.known 5 rfl;exact Zj (A7.live.add e5) rfl YS (A7.run.row (r2.up A7.le)) rfl (A7.same rfl);exact Zc rfl (λ_ _ _ _ _ A8=>(Zd (off':=1) A8.live rfl ZR rfl (A8.same rfl)));refine Zc rfl (λ_ _ _ _ _ A9=>?_);obtain⟨_,e6,rfl⟩:=A9.known 7 rfl;exact Zj (A9.live.add e6) rfl YS (A9.run.row (r2.up A9.le)) rfl (A9.same rfl);refine Zc rfl (λ_ _ _ _ _ A10=>?_);obtain⟨_,e7,rfl⟩:=A10.known 8 rfl;exact ZC (A10.live.add e7) rfl Tryz.underlying30 (A10.same rfl);refine Zc rfl (λ_ _ _ _ _ A11=>?_);obtain⟨_,e8,rfl⟩:=A11.known 9 rfl;exact ZN (z:=((len_a:Int) - (1:Int))) (A11.live.add e8) rfl rfl Xr (A11.same rfl);refine Zc rfl (λ_ _ _ _ _ A12=>?_);obtain⟨_,e9,rfl⟩:=A12.known 6 rfl;obtain⟨_,e10,rfl⟩:=A12.known 10 rfl;exact Zp ((len_a - 1)) ((A12.live.add e9).add e10) rfl rfl Tryz.underlying30 ZE (by omega) (by omega) (A12.same rfl);refine Zc rfl (λ_ _ _ _ _ A13=>?_);obtain⟨_,e11,rfl⟩:=A13.known 11 rfl;exact Zj (v:=(.int .u64 (((ZH W64 a).getD ((len_a - 1)) 0:Nat):Int))) (A13.live.add e11) rfl Yu (A13.run.row (rw_a.up (l3.trans A13.le))) (by rw[Nat.zero_add];exact Yd (by omega)) (A13.same rfl);refine Zc rfl (λ_ _ _ _ _ A14=>?_);obtain⟨_,e12,rfl⟩:=A14.known 12 rfl;exact Zh (A14.live.add e12) rfl ent_150 (bits_Len64R A14.run.holds (x:=((ZH W64 a).getD ((len_a - 1)) 0)) (ZS (Zdc (B:=W64) (by decide) _) (by decide) _)) λv_2 _ _ x2 v2=>(A14.post x2.le (A14.run.call x2) v2);intro S19 _ _ w19 l5 E1 R5 n1 L31 K1;obtain⟨_,e13,rfl⟩:=K1 4 (by decide);have L32:=L31.add e13;clear L31;obtain⟨_,e14,rfl⟩:=K1 13 (by decide);have L33:=L32.add e14;clear L32;have R6:Run _ _ S19 [] w19:=Yh R5 n1 [] (by simp) (by simp);rw[hl_a] at hbl;exact so L33 rfl (Zz L33 rfl rfl Xr λ_ L34=>sa L34 rfl λ_ L35=>sn (wp_ret ((Zn (rs:=Tryz.f98.results.toList) L35 rfl (.tmp rfl Res.nil) (⟨_,_,rfl,R6.ext,(by have e:=bitlen_digs hw_a;rw[hl_a] at e;exact Zcf (by omega))⟩)))))
set_option maxRecDepth 20000 in
theorem nat_Cmp {S:Sh} {w:World} (hS:ZU S w) {c_a:List Value} {a:Nat} {k_a:Nat} (h_a:Na S c_a (a) (k_a)) {c_b:List Value} {b:Nat} {k_b:Nat} (h_b:Na S c_b (b) (k_b)):Calls Tryz.prog 133 [(.agg (c_a:List Value).toArray),(.agg (c_b:List Value).toArray)].toArray w (Ret S w (λS v=>v= .int .i64 (Zb4 a b))):=by
 refine ZB (n:=49) Tryz.func133 rfl rfl ?_;intro ac0 L0;replace L0:ZL ac0 49 [(0,(.agg (c_a:List Value).toArray)),(1,(.agg (c_b:List Value).toArray))]:=L0;have R0:Run S w S [] w:=.start hS;refine wp_seq (Za (so L0 rfl (ZW (cs:=c_a) L0 rfl R0 rfl ?_)));intro b1 _ _ l1 r1 R1 _ L1;refine so L1 rfl (ZW (cs:=c_b) L1 rfl R1 rfl λb2 _ _ l2 r2 R2 _ L2=>sa L2 rfl λ_ L3=>sn (wp_seq ?_));have L4:=(L3.kp [2,3,4] rfl);refine Zx (E0:=[]) (H0:=[]) (n:=49) mixed 3 [] (λk=>0) (Zdm [.is (.agg (c_a:List Value).toArray),.sat (λS v=>∃(p0:Option Addr) (len0:Nat) (cap0:Nat),v= .slice p0 len0 cap0/\(ZH W64 a).length=len0/\len0<=cap0/\len0<=281474976710656/\Dg S p0 len0 cap0 (ZH W64 a)) (λ_ _ _ l ⟨p0,n0,m0,e,g0,f0,j0,h0⟩=>⟨p0,n0,m0,e,g0,f0,j0,h0.up l⟩),.is (.agg (c_b:List Value).toArray)]) L4 R2 (by simp) (by simp) (by rfl) (by rfl) (by simp) (ZY ?_) ?_;refine(An ?_ (An ?_ (An ?_ trivial)));exact Zc rfl (λ_ _ _ _ _ A1=>(ZA A1.live rfl ZK Zo (A1.run.row (r1.up (l2.trans A1.le))) h_a.len (A1.same rfl)));refine Zc rfl (λ_ _ _ _ _ A2=>?_);obtain⟨_,e1,rfl⟩:=A2.known 0 rfl;exact Zh (A2.live.add e1) rfl Zeb (Xj A2.run.holds (h_a.up (l1.trans (l2.trans A2.le)))) λv_1 _ _ x1 v1=>(A2.post x1.le (A2.run.call x1) v1);exact Zc rfl (λ_ _ _ _ _ A3=>(ZA A3.live rfl ZK Zo (A3.run.row (r2.up A3.le)) h_b.len (A3.same rfl)));intro S7 _ _ w7 l4 E1 R4 n1 L8 K1;obtain⟨_,e2,p1,len1,cap1,rfl,y1,z1,hg1,hd1⟩:=K1 1 (by decide);have L9:=L8.add e2;clear L8;obtain⟨_,e3,rfl⟩:=K1 2 (by decide);have L10:=L9.add e3;clear L9;have R5:Run _ _ S7 [] w7:=Yh R4 n1 [] (by simp) (by simp);refine so L10 rfl (Zh L10 rfl Zeb (Xj R5.holds (h_b.up (l1.trans (l2.trans l4)))) λv_2 S8 _ x2 v2=>?_);have R6:=R5.call x2;have l5:=x2.le;obtain⟨p2,len2,cap2,rfl,y2,z2,hg2,hd2⟩:=v2;intro _ L11;refine sa L11 rfl λ_ L12=>sa L12 rfl λ_ L13=>?_;have L14:=(L13.kp [4,5,6] rfl);clear L13;refine sn (wp_seq (wp_seq (Za (sm L14 rfl ?_))));intro _ L15;refine so L15 rfl (ZC L15 rfl Tryz.underlying30 λ_ L16=>sm L16 rfl λ_ L17=>so L17 rfl (ZC L17 rfl Tryz.underlying30 λ_ L18=>?_));by_cases t1:¬(len1:Int)=(len2:Int);refine so L18 rfl (bT t1 (λ_=>Ym L18 rfl rfl) λ_ L19=>sn (Zm L19 rfl rfl (wp_seq (wp_seq (Za (sm L19 rfl λ_ L20=>so L20 rfl (ZC L20 rfl Tryz.underlying30 λ_ L21=>sm L21 rfl λ_ L22=>?_)))))));refine so L22 rfl (ZC L22 rfl Tryz.underlying30 λ_ L23=>?_);by_cases t2:(len1:Int)<(len2:Int);refine so L23 rfl (bT t2 (λ_=>Zu L23 rfl rfl) λ_ L24=>?_);have L25:=(L24.kp [4,5,6,21] rfl);clear L24;refine sn (Zm L25 rfl rfl (wp_seq (Za (sa L25 rfl ?_))));intro _ L26;exact sn (wp_ret ((Zt (Zt (Zn (rs:=Tryz.f133.results.toList) L26 rfl (.tmp rfl Res.nil) (⟨_,_,rfl,R6.ext,(by rw[cmpN_lt (Zbp (B:=W64) (by decide) (by omega))];rfl)⟩))))));refine so L23 rfl (bF t2 (λ_=>Zu L23 rfl rfl) λ_ L27=>?_);have L28:=(L27.kp [4,5,6,21] rfl);clear L27;refine sn (Zi L28 rfl rfl (wp_skip ((Zb (wp_seq (Za (sa L28 rfl ?_)))))));intro _ L29;exact sn (wp_ret ((Zt (Zn (rs:=Tryz.f133.results.toList) L29 rfl (.tmp rfl Res.nil) (⟨_,_,rfl,R6.ext,(by rw[cmpN_gt (Zbp (B:=W64) (by decide) (by omega))];rfl)⟩)))));refine so L18 rfl (bF t1 (λ_=>Ym L18 rfl rfl) λ_ L30=>sn (Zi L30 rfl rfl (wp_skip ((Zb (wp_seq (wp_seq (Za (sm L30 rfl λ_ L31=>so L31 rfl (ZC L31 rfl Tryz.underlying30 λ_ L32=>so L32 rfl (ZN L32 rfl rfl Xr λ_ L33=>?_)))))))))));refine sa L33 rfl λ_ L34=>?_;have L35:=(L34.kp [4,5,6,7] rfl);clear L34;refine sn (wp_block ?_);refine ZO (λm ac ww=>∃(S':Sh) (k:Nat),S8.le S'/\ZL ac 49 [(4,(.int .i64 (0:Int))),(5,(.slice p1 len1 cap1)),(6,(.slice p2 len2 cap2)),(7,(.int .i64 (((k:Nat):Int) - (1:Int))))]/\Run S w S' [] ww/\(k<=(ZH W64 a).length)/\((ZH W64 a).drop k=(ZH W64 b).drop k)/\m=k) (((ZH W64 a).length)) ⟨S8,((ZH W64 a).length),Sh.le.refl _,(((L35.ri 7 (((((ZH W64 a).length):Nat):Int) - (1:Int)) rfl).a L35).kp [7,6,5,4] rfl),R6,(by omega),(by rw[List.drop_eq_nil_of_le (by omega),List.drop_eq_nil_of_le (by omega)]),rfl⟩ ?_;rintro m_1 ac1 _ ⟨_,k,l6,L36,R7,hk,hd,m1⟩;refine wp_seq (wp_seq (Za (sm L36 rfl ?_)));intro _ L38;by_cases t3:(0:Int)<=((k:Int) - (1:Int));refine so L38 rfl (bT t3 (λ_=>YA L38 rfl rfl) λ_ L39=>sn (Zm L39 rfl rfl (wp_skip ((Zb (wp_seq (wp_block (wp_block (wp_seq ?_)))))))));obtain⟨b3,rest_1,rfl,r3⟩:=(hd1.up (l5.trans l6)).row (by omega);obtain⟨b4,rest_2,rfl,r4⟩:=(hd2.up l6).row (by omega);have L40:=(L39.kp [4,5,6,7,25,26] rfl);refine Zx (E0:=[]) (H0:=[]) (n:=49) mixed 8 [] (λk=>0) (Zdm [.is (.slice (some ⟨b3,0,none⟩) len1 cap1),.is (.int .i64 ((k:Int) - (1:Int))),.is (.pointer (some ⟨b3,(0+((k - 1))),none⟩)),.is (.int .u64 (((ZH W64 a).getD ((k - 1)) 0:Nat):Int)),.is (.slice (some ⟨b4,0,none⟩) len2 cap2),.is (.int .i64 ((k:Int) - (1:Int))),.is (.pointer (some ⟨b4,(0+((k - 1))),none⟩)),.is (.int .u64 (((ZH W64 b).getD ((k - 1)) 0:Nat):Int))]) L40 R7 (by simp) (by simp) (by rfl) (by rfl) (by simp) (ZY ?_) ?_;refine(An ?_ (An ?_ (An ?_ (An ?_ (An ?_ (An ?_ (An ?_ (An ?_ trivial))))))));exact Zc rfl (λ_ _ _ _ _ A4=>(Zf A4.live rfl (A4.same rfl)));exact Zc rfl (λ_ _ _ _ _ A5=>(Zf A5.live rfl (A5.same rfl)));refine Zc rfl (λ_ _ _ _ _ A6=>?_);obtain⟨_,e5,rfl⟩:=A6.known 0 rfl;obtain⟨_,e6,rfl⟩:=A6.known 1 rfl;exact Zp ((k - 1)) ((A6.live.add e5).add e6) rfl rfl Tryz.underlying30 ZE (by omega) (by omega) (A6.same rfl);refine Zc rfl (λ_ _ _ _ _ A7=>?_);obtain⟨_,e7,rfl⟩:=A7.known 2 rfl;exact Zj (v:=(.int .u64 (((ZH W64 a).getD ((k - 1)) 0:Nat):Int))) (A7.live.add e7) rfl Yu (A7.run.row (r3.up A7.le)) (by rw[Nat.zero_add];exact Yd (by omega)) (A7.same rfl);exact Zc rfl (λ_ _ _ _ _ A8=>(Zf A8.live rfl (A8.same rfl)));exact Zc rfl (λ_ _ _ _ _ A9=>(Zf A9.live rfl (A9.same rfl)));refine Zc rfl (λ_ _ _ _ _ A10=>?_);obtain⟨_,e8,rfl⟩:=A10.known 4 rfl;obtain⟨_,e9,rfl⟩:=A10.known 5 rfl;exact Zp ((k - 1)) ((A10.live.add e8).add e9) rfl rfl Tryz.underlying30 ZE (by omega) (by omega) (A10.same rfl);refine Zc rfl (λ_ _ _ _ _ A11=>?_);obtain⟨_,e10,rfl⟩:=A11.known 6 rfl;exact Zj (v:=(.int .u64 (((ZH W64 b).getD ((k - 1)) 0:Nat):Int))) (A11.live.add e10) rfl Yu (A11.run.row (r4.up A11.le)) (by rw[Nat.zero_add];exact Yd (by omega)) (A11.same rfl);intro S18 _ _ w18 l7 E2 R8 n2 L49 K2;obtain⟨_,e11,rfl⟩:=K2 0 (by decide);have L50:=L49.add e11;clear L49;obtain⟨_,e12,rfl⟩:=K2 1 (by decide);have L51:=L50.add e12;clear L50;obtain⟨_,e13,rfl⟩:=K2 2 (by decide);have L52:=L51.add e13;clear L51;obtain⟨_,e14,rfl⟩:=K2 3 (by decide);have L53:=L52.add e14;clear L52;obtain⟨_,e15,rfl⟩:=K2 4 (by decide);have L54:=L53.add e15;clear L53;obtain⟨_,e16,rfl⟩:=K2 5 (by decide);have L55:=L54.add e16;clear L54;obtain⟨_,e17,rfl⟩:=K2 6 (by decide);have L56:=L55.add e17;clear L55;obtain⟨_,e18,rfl⟩:=K2 7 (by decide);have L57:=L56.add e18;clear L56;have R9:Run _ _ S18 [] w18:=Yh R8 n2 [] (by simp) (by simp);by_cases t4:(((ZH W64 a).getD ((k - 1)) 0:Nat):Int)<(((ZH W64 b).getD ((k - 1)) 0:Nat):Int);exact so L57 rfl (bT t4 (λ_=>Zu L57 rfl rfl) λ_ L58=>sa L58 rfl λ_ L59=>sn (Zm L59 rfl rfl (wp_seq (Za (sa L59 rfl λ_ L60=>sn (wp_ret ((YC (YC (Zt (Zt (YC (Zt (Zn (rs:=Tryz.f133.results.toList) L60 rfl (.tmp rfl Res.nil) (⟨_,_,rfl,R9.ext,(by rw[cmpN_lt (Zdb (B:=W64) (n:=k - 1) (by decide) (by omega) (by omega) (by rw[show k - 1+1=k by omega];first|exact hd|exact hd.symm) (by omega))];rfl)⟩)))))))))))))));refine so L57 rfl (bF t4 (λ_=>Zu L57 rfl rfl) λ_ L61=>sa L61 rfl λ_ L62=>sn (Zi L62 rfl rfl (wp_seq ?_)));have L63:=(L62.kp [4,5,6,7,25,26,30,31,32,33,34,35,36,37,38,29] rfl);refine Zx (E0:=[]) (H0:=[]) (n:=49) mixed 8 [] (λk=>0) (Zdm [.is (.slice (some ⟨b3,0,none⟩) len1 cap1),.is (.int .i64 ((k:Int) - (1:Int))),.is (.pointer (some ⟨b3,(0+((k - 1))),none⟩)),.is (.int .u64 (((ZH W64 a).getD ((k - 1)) 0:Nat):Int)),.is (.slice (some ⟨b4,0,none⟩) len2 cap2),.is (.int .i64 ((k:Int) - (1:Int))),.is (.pointer (some ⟨b4,(0+((k - 1))),none⟩)),.is (.int .u64 (((ZH W64 b).getD ((k - 1)) 0:Nat):Int))]) L63 R9 (by simp) (by simp) (by rfl) (by rfl) (by simp) (ZY ?_) ?_;refine(An ?_ (An ?_ (An ?_ (An ?_ (An ?_ (An ?_ (An ?_ (An ?_ trivial))))))));exact Zc rfl (λ_ _ _ _ _ A12=>(Zf A12.live rfl (A12.same rfl)));exact Zc rfl (λ_ _ _ _ _ A13=>(Zf A13.live rfl (A13.same rfl)));refine Zc rfl (λ_ _ _ _ _ A14=>?_);obtain⟨_,e19,rfl⟩:=A14.known 0 rfl;obtain⟨_,e20,rfl⟩:=A14.known 1 rfl;exact Zp ((k - 1)) ((A14.live.add e19).add e20) rfl rfl Tryz.underlying30 ZE (by omega) (by omega) (A14.same rfl);refine Zc rfl (λ_ _ _ _ _ A15=>?_);obtain⟨_,e21,rfl⟩:=A15.known 2 rfl;exact Zj (v:=(.int .u64 (((ZH W64 a).getD ((k - 1)) 0:Nat):Int))) (A15.live.add e21) rfl Yu (A15.run.row (r3.up (l7.trans A15.le))) (by rw[Nat.zero_add];exact Yd (by omega)) (A15.same rfl);exact Zc rfl (λ_ _ _ _ _ A16=>(Zf A16.live rfl (A16.same rfl)));exact Zc rfl (λ_ _ _ _ _ A17=>(Zf A17.live rfl (A17.same rfl)));refine Zc rfl (λ_ _ _ _ _ A18=>?_);obtain⟨_,e22,rfl⟩:=A18.known 4 rfl;obtain⟨_,e23,rfl⟩:=A18.known 5 rfl;exact Zp ((k - 1)) ((A18.live.add e22).add e23) rfl rfl Tryz.underlying30 ZE (by omega) (by omega) (A18.same rfl);refine Zc rfl (λ_ _ _ _ _ A19=>?_);obtain⟨_,e24,rfl⟩:=A19.known 6 rfl;exact Zj (v:=(.int .u64 (((ZH W64 b).getD ((k - 1)) 0:Nat):Int))) (A19.live.add e24) rfl Yu (A19.run.row (r4.up (l7.trans A19.le))) (by rw[Nat.zero_add];exact Yd (by omega)) (A19.same rfl);intro S27 _ _ w27 l8 E3 R10 n3 L72 K3;obtain⟨_,e25,rfl⟩:=K3 0 (by decide);have L73:=L72.add e25;clear L72;obtain⟨_,e26,rfl⟩:=K3 1 (by decide);have L74:=L73.add e26;clear L73;obtain⟨_,e27,rfl⟩:=K3 2 (by decide);have L75:=L74.add e27;clear L74;obtain⟨_,e28,rfl⟩:=K3 3 (by decide);have L76:=L75.add e28;clear L75;obtain⟨_,e29,rfl⟩:=K3 4 (by decide);have L77:=L76.add e29;clear L76;obtain⟨_,e30,rfl⟩:=K3 5 (by decide);have L78:=L77.add e30;clear L77;obtain⟨_,e31,rfl⟩:=K3 6 (by decide);have L79:=L78.add e31;clear L78;obtain⟨_,e32,rfl⟩:=K3 7 (by decide);have L80:=L79.add e32;clear L79;have R11:Run _ _ S27 [] w27:=Yh R10 n3 [] (by simp) (by simp);by_cases t5:(((ZH W64 b).getD ((k - 1)) 0:Nat):Int)<(((ZH W64 a).getD ((k - 1)) 0:Nat):Int);exact so L80 rfl (bT t5 (λ_=>ZD L80 rfl rfl) λ_ L81=>sa L81 rfl λ_ L82=>sn (Zm L82 rfl rfl (wp_seq (Za (sa L82 rfl λ_ L83=>sn (wp_ret ((YC (YC (Zt (Zt (YC (Zt (Zn (rs:=Tryz.f133.results.toList) L83 rfl (.tmp rfl Res.nil) (⟨_,_,rfl,R11.ext,(by rw[cmpN_gt (Zdb (B:=W64) (n:=k - 1) (by decide) (by omega) (by omega) (by rw[show k - 1+1=k by omega];first|exact hd|exact hd.symm) (by omega))];rfl)⟩)))))))))))))));refine so L80 rfl (bF t5 (λ_=>ZD L80 rfl rfl) λ_ L84=>sa L84 rfl λ_ L85=>sn (Zi L85 rfl rfl (wp_skip ((Zy (Zy (Zb (Za (sm L85 rfl λ_ L86=>so L86 rfl (ZN L86 rfl rfl Xr λ_ L87=>sa L87 rfl λ_ L88=>?_))))))))));exact sn (⟨(k - 1),(by omega),S27,(k - 1),(l6.trans (l7.trans l8)),(((L88.ri 7 ((((k - 1):Nat):Int) - (1:Int)) rfl).a L88).kp [7,6,5,4] rfl),R11,(by omega),(by exact drop_step (by omega) (by omega) (by rw[show k - 1+1=k by omega];exact hd) (by omega)),rfl⟩);exact so L38 rfl (bF t3 (λ_=>YA L38 rfl rfl) λ_ L90=>sn (Zi L90 rfl rfl (wp_exit ((Zq (Zq (Yx (Zb (wp_seq (Za (sa L90 rfl λ_ L91=>sn (wp_ret ((Zn (rs:=Tryz.f133.results.toList) (L91.kp [4] rfl) rfl (.tmp rfl Res.nil) (⟨_,_,rfl,R7.ext,(by rw[cmpN_eq (digs_inj (B:=W64) (by decide) (by rw[show k=0 by omega] at hd;exact hd))];rfl)⟩)))))))))))))))
set_option maxRecDepth 20000 in
theorem nat_Add {S:Sh} {w:World} (hS:ZU S w) {c_a:List Value} {a:Nat} {k_a:Nat} (h_a:Na S c_a (a) (k_a)) {c_b:List Value} {b:Nat} {k_b:Nat} (h_b:Na S c_b (b) (k_b)) (hlim:k_a<=1099511627776) (hlim2:k_b<=1099511627776):Calls Tryz.prog 137 [(.agg (c_a:List Value).toArray),(.agg (c_b:List Value).toArray)].toArray w (Ret S w (λS v=>∃(c0:List Value),v= .agg c0.toArray/\Na S c0 (a+b) (k_a+k_b+1))):=by
 refine ZB (n:=86) Tryz.func137 rfl rfl ?_;intro ac0 L0;replace L0:ZL ac0 86 [(0,(.agg (c_a:List Value).toArray)),(1,(.agg (c_b:List Value).toArray))]:=L0;have R0:Run S w S [] w:=.start hS;have hla:=Qb h_a.1;have hlb:=Qb h_b.1;refine wp_seq (Za (so L0 rfl (ZW (cs:=c_a) L0 rfl R0 rfl ?_)));intro b1 _ _ l1 r1 R1 _ L1;refine so L1 rfl (ZW (cs:=c_b) L1 rfl R1 rfl λb2 S2 _ l2 r2 R2 _ L2=>so L2 rfl (ZJ (cs:=zN1) ZZ R2 rfl λb3 _ R3 _ L3=>sn (wp_scope_straight ?_)));refine Xf (λac ww=>∃(S':Sh),S2.le S'/\ZL ac 86 [(2,(.pointer (some ⟨b1,0,none⟩))),(3,(.pointer (some ⟨b2,0,none⟩))),(4,(.pointer (some ⟨b3,0,none⟩)))]/\Run S w S' [(b3,32,zN1)] ww) ?_ ?_;rintro ac1 _ ⟨_,l3,L4,R4⟩;refine wp_seq ?_;have L5:=(L4.kp [2,3,4] rfl);refine Zx (E0:=[]) (H0:=[(b3,32,zN1)]) (n:=86) mixed 3 [] (λk=>0) (Zdm [.is (.agg (c_a:List Value).toArray),.sat (λS v=>∃(p0:Option Addr) (len0:Nat) (cap0:Nat),v= .slice p0 len0 cap0/\(ZH W64 a).length=len0/\len0<=cap0/\len0<=281474976710656/\Dg S p0 len0 cap0 (ZH W64 a)) (λ_ _ _ l ⟨p0,n0,m0,e,g0,f0,j0,h0⟩=>⟨p0,n0,m0,e,g0,f0,j0,h0.up l⟩),.is (.agg (c_b:List Value).toArray)]) L5 R4 (by simp) (by simp) (by rfl) (by rfl) (by simp) (ZY ?_) ?_;refine(An ?_ (An ?_ (An ?_ trivial)));exact Zc rfl (λ_ _ _ _ _ A1=>(ZA A1.live rfl ZK Zo (A1.run.row (r1.up (l2.trans (l3.trans A1.le)))) h_a.len (A1.same rfl)));refine Zc rfl (λ_ _ _ _ _ A2=>?_);obtain⟨_,e1,rfl⟩:=A2.known 0 rfl;exact Zh (A2.live.add e1) rfl Zeb (Xj A2.run.holds (h_a.up (l1.trans (l2.trans (l3.trans A2.le))))) λv_1 _ _ x1 v1=>(A2.post x1.le (A2.run.call x1) v1);exact Zc rfl (λ_ _ _ _ _ A3=>(ZA A3.live rfl ZK Zo (A3.run.row (r2.up (l3.trans A3.le))) h_b.len (A3.same rfl)));intro S8 _ _ w9 l5 E1 R6 n1 L9 K1;obtain⟨_,e2,p1,len1,cap1,rfl,y1,z1,hg1,hd1⟩:=K1 1 (by decide);have L10:=L9.add e2;clear L9;obtain⟨_,e3,rfl⟩:=K1 2 (by decide);have L11:=L10.add e3;clear L10;have R7:Run _ _ S8 [(b3,32,zN1)] w9:=Yh R6 n1 [] (by simp) (by simp);refine so L11 rfl (Zh L11 rfl Zeb (Xj R7.holds (h_b.up (l1.trans (l2.trans (l3.trans l5))))) λv_2 S9 _ x2 v2=>?_);have R8:=R7.call x2;have l6:=x2.le;obtain⟨p2,len2,cap2,rfl,y2,z2,hg2,hd2⟩:=v2;intro _ L12;refine sa L12 rfl λ_ L13=>sa L13 rfl λ_ L14=>?_;have L15:=(L14.kp [4,7,8] rfl);clear L14;refine sn ?_;refine Xf (λac ww=>∃(S':Sh) (p_x:Option Addr) (len_x:Nat) (cap_x:Nat) (x:List Nat) (p_y:Option Addr) (len_y:Nat) (cap_y:Nat) (y:List Nat),S9.le S'/\ZL ac 86 [(4,(.pointer (some ⟨b3,0,none⟩))),(7,(.slice p_x len_x cap_x)),(8,(.slice p_y len_y cap_y))]/\Run S w S' [(b3,32,zN1)] ww/\(Dg S' p_x len_x cap_x x)/\(Dg S' p_y len_y cap_y y)/\(val W64 x+val W64 y=a+b)/\(len_y<=len_x)/\(len_x<=17179869185)) ?_ ?_;rintro ac2 _ ⟨S10,p_x,len_x,cap_x,x,p_y,len_y,cap_y,y,l7,L16,R9,hd_x,hd_y,hxy,hyx,hxk⟩;have hl_x:=hd_x.hlen;have hc_x:=hd_x.hcap;have hg_x:=hd_x.hbig;have hl_y:=hd_y.hlen;have hc_y:=hd_y.hcap;have hg_y:=hd_y.hbig;refine wp_seq (Za (sm L16 rfl ?_));intro _ L17;refine so L17 rfl (ZC L17 rfl Tryz.underlying30 λ_ L18=>so L18 rfl (Zz L18 rfl rfl Xr λ_ L19=>so L19 rfl (Xm (m:=(len_x+1)) (c:=(len_x+1)) L19 (by first|rfl|(simp[ev,Zal];omega)) (by first|rfl|(simp[ev,Zal];omega)) Tryz.underlying30 QP rfl ZE Za4 (by omega) (by omega) (by omega) R9 λb4 _ R10 _ L20=>?_)));rw[Zeh] at R10;refine sa L20 rfl λ_ L21=>sn (wp_seq (Za (sm L21 rfl λ_ L22=>sm L22 rfl λ_ L23=>so L23 rfl (does_copyDg (m:=((len_x+1))) (us:=(List.replicate ((len_x+1)) 0)) L23 rfl rfl Tryz.underlying30 ZE R10 hd_x (by simp) (by omega) λ_ R11 _ L24=>?_))));have L25:=(L24.kp [4,8,9] rfl);clear L24;refine sn (wp_seq (Za (sa L25 rfl ?_)));intro _ L26;refine sn (wp_seq (wp_label ((Zb (wp_seq (wp_seq (Za (sm L26 rfl ?_))))))));intro _ L27;refine so L27 rfl (ZC L27 rfl Tryz.underlying30 λ_ L28=>sm L28 rfl λ_ L29=>sn (wp_block ?_));have hxl:=hd_x.hlt;have hyl:=hd_y.hlt;have hst:Zfi x y (x++(List.replicate ((len_x+1)) 0).drop len_x) 0 0:=by rw[show(x++(List.replicate ((len_x+1)) 0).drop len_x)=x++[0] from by rw[List.drop_replicate,show len_x+1 - len_x=1 by omega];rfl];exact Zfi.start hxl
 refine ZO (λm ac ww=>∃(S':Sh) (us:List Nat) (i:Nat) (c:Nat),S10.le S'/\ZL ac 86 [(4,(.pointer (some ⟨b3,0,none⟩))),(8,(.slice p_y len_y cap_y)),(9,(.slice (some ⟨b4,0,none⟩) ((len_x+1)) ((len_x+1)))),(10,(.int .u64 ((c:Nat):Int))),(56,(.int .i64 ((((len_x+1)):Nat):Int))),(57,(.int .i64 ((i:Nat):Int)))]/\Run S w S' [(b4,29,(Yw us++[])),(b3,32,zN1)] ww/\(Zfi x y us i c)/\m=(x).length+1 - i) ((x).length+1 - 0) ⟨S10,(x++(List.replicate ((len_x+1)) 0).drop len_x),0,0,Sh.le.refl _,(((L29.ri 10 ((0:Nat):Int) rfl).a ((L29.ri 57 ((0:Nat):Int) rfl).a L29)).kp [57,56,10,9,8,4] rfl),(Yg (Yg R11)),(by exact hst),rfl⟩ ?_;rintro m_1 ac3 _ ⟨S11,us,i,c,l8,L30,R12,hI,m1⟩;refine wp_seq (Za ?_);have hIl:=hI.len;have hIe:=hI.le;have hIc:=hI.c1;by_cases t1:(i:Int)<((((len_x+1)):Nat):Int);have hIl:=hI.len;have hIe:=hI.le;have hIc:=hI.c1;refine so L30 rfl (bT t1 (λ_=>Zu L30 rfl rfl) λ_ L33=>sn (wp_seq (Zm L33 rfl rfl (wp_skip ((Zb (wp_seq (wp_block (wp_seq (Za (sm L33 rfl λ_ L34=>sa L34 rfl λ_ L35=>?_)))))))))));refine sn (wp_seq (Za (sa L35 rfl ?_)));intro _ L36;refine sn (wp_seq (wp_seq (Za (sm L36 rfl ?_))));intro _ L37;refine sm L37 rfl λ_ L38=>so L38 rfl (ZC L38 rfl Tryz.underlying30 λ_ L39=>?_);by_cases t2:(i:Int)<(len_y:Int);refine so L39 rfl (bT t2 (λ_=>Zu L39 rfl rfl) λ_ L40=>sn (Zm L40 rfl rfl (Za (sm L40 rfl λ_ L41=>sm L41 rfl λ_ L42=>?_))));obtain⟨b5,rest_1,rfl,r3⟩:=(hd_y.up l8).row (by omega);refine so L42 rfl (Zp (i) L42 rfl rfl Tryz.underlying30 ZE (by omega) (by omega) λ_ L43=>so L43 rfl (Zj (v:=(.int .u64 ((y.getD (i) 0:Nat):Int))) L43 rfl Yu (R12.row r3) (by rw[Nat.zero_add];exact Yd (by omega)) λ_ L44=>sa L44 rfl λ_ L45=>sn (Za (sm L45 rfl λ_ L46=>sm L46 rfl λ_ L47=>sm L47 rfl λ_ L48=>?_))));refine sm L48 rfl λ_ L49=>so L49 rfl (Zp (i) L49 rfl rfl Tryz.underlying30 ZE (by omega) (by omega) λ_ L50=>so L50 rfl (Zj (v:=(.int .u64 ((us.getD (i) 0:Nat):Int))) L50 rfl Yu (R12.has (List.Mem.head _)) (by rw[Nat.zero_add];exact Yd (by omega)) λ_ L51=>sm L51 rfl λ_ L52=>sm L52 rfl λ_ L53=>so L53 rfl (YU (x:=(us.getD (i) 0)) (y:=(y.getD (i) 0)) (c:=c) L53 rfl (by omega) λ_ L54=>sm L54 rfl λ_ L55=>?_)));refine so L55 rfl (Zk L55 rfl rfl λ_ L56=>so L56 rfl (Zk L56 rfl rfl λ_ L57=>so L57 rfl (Zp (i) L57 rfl rfl Tryz.underlying30 ZE (by omega) (by omega) λ_ L58=>Zv L58 rfl rfl (Yi (cs':=(Yw (us.set (i) ((((us.getD (i) 0)+(y.getD (i) 0)+c)%18446744073709551616)))++[])) L58 rfl rfl R12 ZE rfl (by simp only[List.length_append,ZM];omega) (by rw[Nat.zero_add];exact Xg (by omega)) λ_ R13 _ L59=>sa L59 rfl λ_ L60=>Ye ((Zy (Zb (Za (so L60 rfl (Zz L60 rfl rfl Xr λ_ L61=>?_))))))))));exact sm L61 rfl λ_ L62=>sn (⟨(x).length+1 - (i+1),(by omega),S11,(us.set (i) ((((us.getD (i) 0)+(y.getD (i) 0)+c)%18446744073709551616))),(i+1),(((us.getD (i) 0)+(y.getD (i) 0)+c) / 18446744073709551616),l8,(((L62.ri 10 (((((us.getD (i) 0)+(y.getD (i) 0)+c) / 18446744073709551616):Nat):Int) rfl).a ((L62.ri 57 (((i+1):Nat):Int) rfl).a L62)).kp [57,56,10,9,8,4] rfl),(Yg (Yg R13)),(by first|exact hI.step hyl (by omega)|(have q:=hI.step hyl (by omega);rw[Zah (y:=y) (i:=i) (by omega)] at q;exact q)),rfl⟩);refine so L39 rfl (bF t2 (λ_=>Zu L39 rfl rfl) λ_ L65=>sn (Zi L65 rfl rfl (wp_seq (Za (sm L65 rfl λ_ L66=>?_)))));by_cases t3:(c:Int)=(0:Int);refine so L66 rfl (bT t3 (λ_=>ZQ L66 rfl rfl) λ_ L67=>sn (Zm L67 rfl rfl (wp_exit ((Zq (in_miss rfl (Zq (Zq (Yx (Zb (wp_seq (Za (sm L67 rfl λ_ L68=>?_)))))))))))));obtain⟨S12,l9,r4,R14⟩:=(R12).freeze;have hd3:Dg S12 (some ⟨b4,0,none⟩) ((len_x+1)) ((len_x+1)) us:=⟨by first|rfl|omega,by omega,by omega,hI.lt,λ_=>⟨_,_,rfl,r4⟩⟩;refine so L68 rfl (Zh L68 rfl Zc7 (Zc0 R14.holds (k:=(k_a+k_b+1)) hd3 (by rw[hI.done hxl hyl (by omega) (by omega),hxy];exact sum_pow h_a.1 h_b.1)) λv_3 _ _ x3 v3=>?_);have R15:=R14.call x3;obtain⟨cs_1,rfl,h1⟩:=v3;intro _ L69;exact Zv L69 rfl rfl (Zl L69 rfl rfl R15 Zo h1.len rfl h1.ones λ_ R16 _ L70=>(sn (wp_ret ((Zaj (Zn (rs:=Tryz.f137.results.toList) (L70.kp [4] rfl) rfl (Res.aggW rfl ZK Zo (R16.has (List.Mem.head _)) h1.len Res.nil) (⟨_,_,rfl,R16.ext,⟨_,rfl,(h1.to (by rw[hI.done hxl hyl (by omega) (by omega)];exact hxy) (by omega))⟩⟩)))))));refine so L66 rfl (bF t3 (λ_=>ZQ L66 rfl rfl) λ_ L72=>sn (Zi L72 rfl rfl (wp_skip ((Zb (Za (sm L72 rfl λ_ L73=>sm L73 rfl λ_ L74=>sm L74 rfl λ_ L75=>sm L75 rfl λ_ L76=>?_)))))));refine so L76 rfl (Zp (i) L76 rfl rfl Tryz.underlying30 ZE (by omega) (by omega) λ_ L77=>so L77 rfl (Zj (v:=(.int .u64 ((us.getD (i) 0:Nat):Int))) L77 rfl Yu (R12.has (List.Mem.head _)) (by rw[Nat.zero_add];exact Yd (by omega)) λ_ L78=>sm L78 rfl λ_ L79=>sm L79 rfl λ_ L80=>so L80 rfl (YU (x:=(us.getD (i) 0)) (y:=0) (c:=c) L80 rfl (by omega) λ_ L81=>sm L81 rfl λ_ L82=>so L82 rfl (Zk L82 rfl rfl λ_ L83=>?_))));refine so L83 rfl (Zk L83 rfl rfl λ_ L84=>so L84 rfl (Zp (i) L84 rfl rfl Tryz.underlying30 ZE (by omega) (by omega) λ_ L85=>Zv L85 rfl rfl (Yi (cs':=(Yw (us.set (i) ((((us.getD (i) 0)+0+c)%18446744073709551616)))++[])) L85 rfl rfl R12 ZE rfl (by simp only[List.length_append,ZM];omega) (by rw[Nat.zero_add];exact Xg (by omega)) λ_ R17 _ L86=>sa L86 rfl λ_ L87=>Ye ((Zy (Zb (Za (so L87 rfl (Zz L87 rfl rfl Xr λ_ L88=>sm L88 rfl λ_ L89=>?_)))))))));exact sn (⟨(x).length+1 - (i+1),(by omega),S11,(us.set (i) ((((us.getD (i) 0)+0+c)%18446744073709551616))),(i+1),(((us.getD (i) 0)+0+c) / 18446744073709551616),l8,(((L89.ri 10 (((((us.getD (i) 0)+0+c) / 18446744073709551616):Nat):Int) rfl).a ((L89.ri 57 (((i+1):Nat):Int) rfl).a L89)).kp [57,56,10,9,8,4] rfl),(Yg (Yg R17)),(by first|exact hI.step hyl (by omega)|(have q:=hI.step hyl (by omega);rw[Zah (y:=y) (i:=i) (by omega)] at q;exact q)),rfl⟩);have hIl:=hI.len;have hIe:=hI.le;have hIc:=hI.c1;refine so L30 rfl (bF t1 (λ_=>Zu L30 rfl rfl) λ_ L92=>sn (wp_seq (Zi L92 rfl rfl (wp_exit ((Zq (Zq (Yx (Zb (wp_seq (Za (sm L92 rfl λ_ L93=>?_))))))))))));obtain⟨S14,l11,r5,R18⟩:=(R12).freeze;have hd4:Dg S14 (some ⟨b4,0,none⟩) ((len_x+1)) ((len_x+1)) us:=⟨by first|rfl|omega,by omega,by omega,hI.lt,λ_=>⟨_,_,rfl,r5⟩⟩;refine so L93 rfl (Zh L93 rfl Zc7 (Zc0 R18.holds (k:=(k_a+k_b+1)) hd4 (by rw[hI.done hxl hyl (by omega) (by omega),hxy];exact sum_pow h_a.1 h_b.1)) λv_4 _ _ x4 v4=>?_);have R19:=R18.call x4;obtain⟨c2,rfl,h2⟩:=v4;intro _ L94;exact Zv L94 rfl rfl (Zl L94 rfl rfl R19 Zo h2.len rfl h2.ones λ_ R20 _ L95=>(sn (wp_ret ((Zaj (Zn (rs:=Tryz.f137.results.toList) (L95.kp [4] rfl) rfl (Res.aggW rfl ZK Zo (R20.has (List.Mem.head _)) h2.len Res.nil) (⟨_,_,rfl,R20.ext,⟨_,rfl,(h2.to (by rw[hI.done hxl hyl (by omega) (by omega)];exact hxy) (by omega))⟩⟩)))))));skip;refine wp_seq (Za (sm L15 rfl ?_));intro _ L97;refine so L97 rfl (ZC L97 rfl Tryz.underlying30 λ_ L98=>sm L98 rfl λ_ L99=>so L99 rfl (ZC L99 rfl Tryz.underlying30 λ_ L100=>?_));by_cases t4:(len1:Int)<(len2:Int);refine so L100 rfl (bT t4 (λ_=>Zu L100 rfl rfl) λ_ L101=>sn (Zm L101 rfl rfl (Za (sm L101 rfl λ_ L102=>sm L102 rfl λ_ L103=>sa L103 rfl λ_ L104=>sa L104 rfl λ_ L105=>?_))));exact sn (⟨S9,p2,len2,cap2,(ZH W64 b),p1,len1,cap1,(ZH W64 a),Sh.le.refl _,((L105.kp [4,7,8] rfl).kp [8,7,4] rfl),R8,(by exact hd2),(by exact(hd1.up l6)),(by simp only[ZV (show 2<=W64 by decide)];try omega),(by omega),(by omega)⟩);exact so L100 rfl (bF t4 (λ_=>Zu L100 rfl rfl) λ_ L107=>sn (Zi L107 rfl rfl (wp_skip ((Zb (⟨S9,p1,len1,cap1,(ZH W64 a),p2,len2,cap2,(ZH W64 b),Sh.le.refl _,(L107.kp [8,7,4] rfl),R8,(by exact(hd1.up l6)),(by exact hd2),(by simp only[ZV (show 2<=W64 by decide)];try omega),(by omega),(by omega)⟩))))));skip;obtain⟨hb_a,⟨hs_a,rfl⟩|⟨hw_a,lo_a,bb_a,len_a,cap_a,rest_a,hlo_a,rfl,rw_a,hd_a,h2_a⟩⟩:=h_a.open;obtain⟨hb_b,⟨hs_b,rfl⟩|⟨hw_b,lo_b,bb_b,len_b,cap_b,rest_b,hlo_b,rfl,rw_b,hd_b,h2_b⟩⟩:=h_b.open;refine wp_seq (Za (so L3 rfl (Zd (off':=1) L3 rfl ZR rfl ?_)));intro _ L108;refine so L108 rfl (Zj L108 rfl YS (R3.row (r1.up l2)) rfl λ_ L109=>so L109 rfl (Ya L109 rfl rfl Tryz.underlying30 λ_ L110=>sm L110 rfl λ_ L111=>son L111 rfl (Zd (off':=1) L111 rfl ZR rfl λ_ L112=>son L112 rfl (Zj L112 rfl YS (R3.row r2) rfl λ_ L113=>son L113 rfl (Ya L113 rfl rfl Tryz.underlying30 λ_ L114=>so L114 rfl (Ze L114 rfl rfl λ_ L115=>?_))))));have L116:=(L115.kp [2,3,4,20] rfl);clear L115;refine sn (Zm L116 rfl rfl (wp_seq (Za (so L116 rfl (Zd (off':=0) L116 rfl Yl rfl ?_)))));intro _ L117;refine so L117 rfl (Zj L117 rfl Yu (R3.row (r1.up l2)) rfl λ_ L118=>so L118 rfl (Zd (off':=0) L118 rfl Yl rfl λ_ L119=>so L119 rfl (Zj L119 rfl Yu (R3.row r2) rfl λ_ L120=>so L120 rfl (YU (x:=a) (y:=b) (c:=0) L120 rfl (by omega) λ_ L121=>sm L121 rfl λ_ L122=>so L122 rfl (Zk L122 rfl rfl λ_ L123=>so L123 rfl (Zk L123 rfl rfl λ_ L124=>?_))))));refine sa L124 rfl λ_ L125=>sa L125 rfl λ_ L126=>?_;have L127:=(L126.kp [2,3,4,5,6] rfl);clear L126;refine sn (wp_seq (wp_seq (Za (sm L127 rfl ?_))));intro _ L128;by_cases t5:(((a+b+0) / 18446744073709551616:Nat):Int)=(0:Int);refine so L128 rfl (bT t5 (λ_=>ZQ L128 rfl rfl) λ_ L129=>sn (Zm L129 rfl rfl (wp_seq (Za (sm L129 rfl λ_ L130=>?_)))));have h3:Na S2 [(.int .u64 (((a+b+0)%18446744073709551616:Nat):Int)),(.slice none 0 0)] (a+b) (k_a+k_b+1):=Na.ofLowE (by omega) (by omega) (sum_pow hb_a hb_b);exact so L130 rfl (ZG (cs:=[(.int .u64 (((a+b+0)%18446744073709551616:Nat):Int)),(.slice none 0 0)]) L130 ZZ Qi (.cons rfl Yl rfl (by decide) .nil) (by rfl) λ_ L131=>Zv L131 rfl rfl (Zl L131 rfl rfl R3 Zo h3.len rfl h3.ones λ_ R21 _ L132=>sn (wp_ret ((Zt (Zt (Zaj (Zn (rs:=Tryz.f137.results.toList) L132 rfl (Res.aggW rfl ZK Zo (R21.has (List.Mem.head _)) h3.len Res.nil) (⟨_,_,rfl,R21.ext,⟨_,rfl,(h3.to rfl (by omega))⟩⟩)))))))));refine so L128 rfl (bF t5 (λ_=>ZQ L128 rfl rfl) λ_ L133=>sn (Zi L133 rfl rfl (wp_skip ((Zb (wp_seq (Za (sm L133 rfl λ_ L134=>sm L134 rfl λ_ L135=>so L135 rfl (Yo (cs:=(Yw [((a+b+0)%18446744073709551616),((a+b+0) / 18446744073709551616)]++[])) L135 Tryz.underlying30 ZE QP (.cons rfl rfl (by decide) (.cons rfl rfl (by decide) .nil)) [[(.int .u64 (((a+b+0)%18446744073709551616:Nat):Int))],[(.int .u64 (((a+b+0) / 18446744073709551616:Nat):Int))]] rfl rfl (by rfl) (by decide) R3 λb6 _ R22 _ L136=>?_)))))))));obtain⟨S16,l13,r6,R23⟩:=(R22).freeze;have hd5:Dg S16 (some ⟨b6,0,none⟩) 2 2 ([((a+b+0)%18446744073709551616),((a+b+0) / 18446744073709551616)]):=⟨by first|rfl|omega,by omega,by omega,by simp;omega,λ_=>⟨_,_,rfl,r6⟩⟩;have h4:Na S16 [(.int .u64 (0:Int)),(.slice (some ⟨b6,0,none⟩) 2 2)] (a+b) (k_a+k_b+1):=Na.ofDg (lo:=0) (by decide) hd5 (by omega) (by simp;omega) (by simp only[val,W64];omega) (sum_pow hb_a hb_b);exact so L136 rfl (ZG (cs:=[(.int .u64 (0:Int)),(.slice (some ⟨b6,0,none⟩) 2 2)]) L136 ZZ Qi (.cons rfl ZR rfl (by decide) .nil) (by rfl) λ_ L137=>Zv L137 rfl rfl (Zl L137 rfl rfl R23 Zo h4.len rfl h4.ones λ_ R24 _ L138=>sn (wp_ret ((Zt (Zaj (Zn (rs:=Tryz.f137.results.toList) (L138.kp [2,3,4] rfl) rfl (Res.aggW rfl ZK Zo (R24.has (List.Mem.head _)) h4.len Res.nil) (⟨_,_,rfl,R24.ext,⟨_,rfl,(h4.to rfl (by omega))⟩⟩))))))));have hl_b:=hd_b.hlen;have hc_b:=hd_b.hcap;have hg_b:=hd_b.hbig;have hW_b:18446744073709551616<=b:=hw_b;refine wp_seq (Za (so L3 rfl (Zd (off':=1) L3 rfl ZR rfl ?_)));intro _ L140;refine so L140 rfl (Zj L140 rfl YS (R3.row (r1.up l2)) rfl λ_ L141=>so L141 rfl (Ya L141 rfl rfl Tryz.underlying30 λ_ L142=>sm L142 rfl λ_ L143=>son L143 rfl (Zd (off':=1) L143 rfl ZR rfl λ_ L144=>son L144 rfl (Zj L144 rfl YS (R3.row r2) rfl λ_ L145=>son L145 rfl (Ya L145 rfl rfl Tryz.underlying30 λ_ L146=>so L146 rfl (Ze L146 rfl rfl λ_ L147=>?_))))));have L148:=(L147.kp [2,3,4,20] rfl);clear L147;exact sn (Zi L148 rfl rfl (wp_skip ((Zb (⟨S2,Sh.le.refl _,(L148.kp [4,3,2] rfl),R3⟩)))));have hl_a:=hd_a.hlen;have hc_a:=hd_a.hcap;have hg_a:=hd_a.hbig;have hW_a:18446744073709551616<=a:=hw_a;obtain⟨hb_b,⟨hs_b,rfl⟩|⟨hw_b,lo_b,bb_b,len_b,cap_b,rest_b,hlo_b,rfl,rw_b,hd_b,h2_b⟩⟩:=h_b.open;refine wp_seq (Za (so L3 rfl (Zd (off':=1) L3 rfl ZR rfl ?_)));intro _ L149;refine so L149 rfl (Zj L149 rfl YS (R3.row (r1.up l2)) rfl λ_ L150=>so L150 rfl (Ya L150 rfl rfl Tryz.underlying30 λ_ L151=>sm L151 rfl λ_ L152=>sof L152 rfl λ_ L153=>sof L153 rfl λ_ L154=>sof L154 rfl λ_ L155=>so L155 rfl (Ze L155 rfl rfl λ_ L156=>?_)));have L157:=(L156.kp [2,3,4,20] rfl);clear L156;exact sn (Zi L157 rfl rfl (wp_skip ((Zb (⟨S2,Sh.le.refl _,(L157.kp [4,3,2] rfl),R3⟩)))));have hl_b:=hd_b.hlen;have hc_b:=hd_b.hcap;have hg_b:=hd_b.hbig;have hW_b:18446744073709551616<=b:=hw_b;refine wp_seq (Za (so L3 rfl (Zd (off':=1) L3 rfl ZR rfl ?_)));intro _ L158;refine so L158 rfl (Zj L158 rfl YS (R3.row (r1.up l2)) rfl λ_ L159=>so L159 rfl (Ya L159 rfl rfl Tryz.underlying30 λ_ L160=>sm L160 rfl λ_ L161=>sof L161 rfl λ_ L162=>sof L162 rfl λ_ L163=>sof L163 rfl λ_ L164=>so L164 rfl (Ze L164 rfl rfl λ_ L165=>?_)));have L166:=(L165.kp [2,3,4,20] rfl);clear L165;exact sn (Zi L166 rfl rfl (wp_skip ((Zb (⟨S2,Sh.le.refl _,(L166.kp [4,3,2] rfl),R3⟩)))))
end Go.Cham
namespace Go.Cham
open Go Go.RowKit Go.Proofs
set_option maxRecDepth 20000 in
theorem nat_Sub {S:Sh} {w:World} (hS:ZU S w) {c_a:List Value} {a:Nat} {k_a:Nat} (h_a:Na S c_a (a) (k_a)) {c_b:List Value} {b:Nat} {k_b:Nat} (h_b:Na S c_b (b) (k_b)) (hlim:k_a<=1099511627776):Calls Tryz.prog 145 [(.agg (c_a:List Value).toArray),(.agg (c_b:List Value).toArray)].toArray w (Ret S w (λS v=>((a<b)/\∃(c0:List Value),v= .tuple [.agg c0.toArray,.int .i64 (10)].toArray/\Na S c0 (0) (0))\/((b<=a)/\∃(c0:List Value),v= .tuple [.agg c0.toArray,.int .i64 (0)].toArray/\Na S c0 (a - b) (k_a)))):=by
 refine ZB (n:=66) Tryz.func145 rfl rfl ?_;intro ac0 L0;replace L0:ZL ac0 66 [(0,(.agg (c_a:List Value).toArray)),(1,(.agg (c_b:List Value).toArray))]:=L0;have R0:Run S w S [] w:=.start hS;have hla:=Qb h_a.1;have hcmp:=@cmpN_neg a b;refine wp_seq (Za (so L0 rfl (ZW (cs:=c_a) L0 rfl R0 rfl ?_)));intro b1 _ _ l1 r1 R1 _ L1;refine so L1 rfl (ZW (cs:=c_b) L1 rfl R1 rfl λb2 _ _ l2 r2 R2 _ L2=>so L2 rfl (ZJ (cs:=zN1) ZZ R2 rfl λb3 _ R3 _ L3=>sa L3 rfl λ_ L4=>sn (wp_scope_straight (wp_seq (wp_seq (Za (so L4 rfl (ZA L4 rfl ZK Zo (R3.row (r1.up l2)) h_a.len λ_ L5=>?_))))))));refine so L5 rfl (ZA L5 rfl ZK Zo (R3.row r2) h_b.len λ_ L6=>so L6 rfl (Zh L6 rfl ent_133 (nat_Cmp R3.holds (h_a.up (l1.trans l2)) (h_b.up (l1.trans l2))) λv_1 S3 _ x1 v1=>?_));have R4:=R3.call x1;have l3:=x1.le;obtain rfl:=v1;intro _ L7;by_cases t1:(Zb4 a b)<(0:Int);refine so L7 rfl (bT t1 (λ_=>Zu L7 rfl rfl) λ_ L8=>?_);have L9:=(L8.kp [2,3,4,5,14] rfl);clear L8;refine sn (Zm L9 rfl rfl (wp_seq (Za ?_)));have h1:Na S3 zN1 (0) (0):=Na.zero _ _;exact so L9 rfl (ZG (cs:=zN1) L9 ZZ Qi .nil (by rfl) λ_ L10=>Zv L10 rfl rfl (Zl L10 rfl rfl R4 Zo h1.len rfl h1.ones λ_ R5 _ L11=>sa L11 rfl λ_ L12=>sn (wp_ret ((Zt (Zaj (Zn (rs:=Tryz.f145.results.toList) L12 rfl (Res.aggW rfl ZK Zo (R5.has (List.Mem.head _)) h1.len (.tmp rfl Res.nil)) (⟨_,_,rfl,R5.ext,(Or.inl ⟨by first|assumption|omega|(simp_all;done),⟨_,rfl,(h1.to rfl (by omega))⟩⟩)⟩))))))));refine so L7 rfl (bF t1 (λ_=>Zu L7 rfl rfl) λ_ L13=>?_);have L14:=(L13.kp [2,3,4,5,14] rfl);clear L13;refine sn (Zi L14 rfl rfl (wp_skip ((Zb (wp_seq (wp_seq ?_))))));obtain⟨hb_a,⟨hs_a,rfl⟩|⟨hw_a,lo_a,bb_a,len_a,cap_a,rest_a,hlo_a,rfl,rw_a,hd_a,h2_a⟩⟩:=h_a.open;refine Za (so L14 rfl (Zd (off':=1) L14 rfl ZR rfl ?_));intro _ L15;refine so L15 rfl (Zj L15 rfl YS (R4.row (r1.up (l2.trans l3))) rfl λ_ L16=>so L16 rfl (Ya L16 rfl rfl Tryz.underlying30 λ_ L17=>sn (Zm L17 rfl rfl (wp_seq ?_))));obtain⟨hb_b,⟨hs_b,rfl⟩|⟨hw_b,lo_b,bb_b,len_b,cap_b,rest_b,hlo_b,rfl,rw_b,hd_b,h2_b⟩⟩:=h_b.open;refine Za (so L17 rfl (Zd (off':=0) L17 rfl Yl rfl ?_));intro _ L18;refine so L18 rfl (Zj L18 rfl Yu (R4.row (r1.up (l2.trans l3))) rfl λ_ L19=>so L19 rfl (Zd (off':=0) L19 rfl Yl rfl λ_ L20=>so L20 rfl (Zj L20 rfl Yu (R4.row (r2.up l3)) rfl λ_ L21=>?_)));have hba:((a - b:Nat):Int)=(a:Int) - (b:Int):=by omega
 refine so L21 rfl (ZN L21 rfl rfl Zae λ_ L22=>?_);have h2:Na S3 [(.int .u64 ((a:Int) - (b:Int))),(.slice none 0 0)] (a - b) (k_a):=by rw[show(a:Int) - (b:Int)=((a - b:Nat):Int) by omega];exact Na.ofLowE rfl (by omega) (Nat.le_trans (Nat.sub_le _ _) hb_a)
 exact so L22 rfl (ZG (cs:=[(.int .u64 ((a:Int) - (b:Int))),(.slice none 0 0)]) L22 ZZ Qi (.cons rfl Yl rfl (by decide) .nil) (by rfl) λ_ L23=>Zv L23 rfl rfl (Zl L23 rfl rfl R4 Zo h2.len rfl h2.ones λ_ R6 _ L24=>sa L24 rfl λ_ L25=>sn (wp_ret ((Zt (Zaj (Zn (rs:=Tryz.f145.results.toList) (L25.kp [2,3,4,5] rfl) rfl (Res.aggW rfl ZK Zo (R6.has (List.Mem.head _)) h2.len (.tmp rfl Res.nil)) (⟨_,_,rfl,R6.ext,(Or.inr ⟨by first|assumption|omega|(simp_all;done),⟨_,rfl,(h2.to rfl (by omega))⟩⟩)⟩))))))));have hl_b:=hd_b.hlen;have hc_b:=hd_b.hcap;have hg_b:=hd_b.hbig;have hW_b:18446744073709551616<=b:=hw_b;exfalso;omega;have hl_a:=hd_a.hlen;have hc_a:=hd_a.hcap;have hg_a:=hd_a.hbig;have hW_a:18446744073709551616<=a:=hw_a;refine Za (so L14 rfl (Zd (off':=1) L14 rfl ZR rfl ?_));intro _ L27;refine so L27 rfl (Zj L27 rfl YS (R4.row (r1.up (l2.trans l3))) rfl λ_ L28=>so L28 rfl (Ya L28 rfl rfl Tryz.underlying30 λ_ L29=>sn (Zi L29 rfl rfl (wp_skip ((Zb (wp_seq ?_)))))));have hmono:=Zgp (show b<=a by omega);refine Za (so L29 rfl (Zd (off':=1) L29 rfl ZR rfl ?_));intro _ L30;refine so L30 rfl (Zj L30 rfl YS (R4.row (r1.up (l2.trans l3))) rfl λ_ L31=>so L31 rfl (ZC L31 rfl Tryz.underlying30 λ_ L32=>so L32 rfl (Xm (m:=len_a) (c:=len_a) L32 (by first|rfl|(simp[ev,Zal];omega)) (by first|rfl|(simp[ev,Zal];omega)) Tryz.underlying30 QP rfl ZE Za4 (by omega) (by omega) (by omega) R4 λb4 _ R7 _ L33=>?_)));rw[Zeh] at R7;refine sa L33 rfl λ_ L34=>?_;have L35:=(L34.kp [2,3,4,5,6] rfl);clear L34;refine sn (wp_seq (Za (sm L35 rfl ?_)));intro _ L36;refine so L36 rfl (Zd (off':=1) L36 rfl ZR rfl λ_ L37=>so L37 rfl (Zj L37 rfl YS (R7.row (r1.up (l2.trans l3))) rfl λ_ L38=>so L38 rfl (does_copyDg (m:=(len_a)) (us:=(List.replicate (len_a) 0)) L38 rfl rfl Tryz.underlying30 ZE R7 (hd_a.up (l1.trans (l2.trans l3))) (by simp) (by omega) λ_ R8 _ L39=>?_)));have L40:=(L39.kp [3,4,5,6] rfl);clear L39;refine sn (wp_seq (Za (so L40 rfl (ZA L40 rfl ZK Zo (R8.row (r2.up l3)) h_b.len ?_))));intro _ L41;refine so L41 rfl (Zh L41 rfl Zeb (Xj R8.holds (h_b.up (l1.trans (l2.trans l3)))) λv_2 S4 _ x2 v2=>?_);have R9:=R8.call x2;have l4:=x2.le;obtain⟨p1,len1,cap1,rfl,y1,z1,hg1,hd1⟩:=v2;intro _ L42;refine sa L42 rfl λ_ L43=>sa L43 rfl λ_ L44=>sn (wp_seq (wp_label ((Zb (wp_seq (wp_seq (Za (sm L44 rfl λ_ L45=>so L45 rfl (ZC L45 rfl Tryz.underlying30 λ_ L46=>?_)))))))));refine sm L46 rfl λ_ L47=>sn (wp_block ?_);have hxl:=(hd_a.up (l1.trans (l2.trans (l3.trans l4)))).hlt;have hyl:=hd1.hlt;have hst:Zfg (ZH W64 a) (ZH W64 b) ((ZH W64 a)++(List.replicate (len_a) 0).drop len_a) 0 0:=by rw[show((ZH W64 a)++(List.replicate (len_a) 0).drop len_a)=(ZH W64 a) from by rw[List.drop_replicate,show len_a - len_a=0 by omega];simp];exact Zfg.start hxl
 refine ZO (λm ac ww=>∃(S':Sh) (us:List Nat) (i:Nat) (c:Nat),S4.le S'/\ZL ac 66 [(4,(.pointer (some ⟨b3,0,none⟩))),(5,(.int .i64 (0:Int))),(6,(.slice (some ⟨b4,0,none⟩) (len_a) (len_a))),(7,(.slice p1 len1 cap1)),(8,(.int .u64 ((c:Nat):Int))),(36,(.int .i64 (((len_a):Nat):Int))),(37,(.int .i64 ((i:Nat):Int)))]/\Run S w S' [(b4,29,(Yw us++[])),(b3,32,zN1)] ww/\(Zfg (ZH W64 a) (ZH W64 b) us i c)/\m=((ZH W64 a)).length - i) (((ZH W64 a)).length - 0) ⟨S4,((ZH W64 a)++(List.replicate (len_a) 0).drop len_a),0,0,Sh.le.refl _,(((L47.ri 8 ((0:Nat):Int) rfl).a ((L47.ri 37 ((0:Nat):Int) rfl).a L47)).kp [37,36,8,7,6,5,4] rfl),(Yg (Yg R9)),(by exact hst),rfl⟩ ?_;rintro m_1 ac1 _ ⟨S5,us,i,c,l5,L48,R10,hI,m1⟩;refine wp_seq (Za ?_);have hIl:=hI.len;have hIe:=hI.le;have hIc:=hI.c1;by_cases t2:(i:Int)<(((len_a):Nat):Int);have hIl:=hI.len;have hIe:=hI.le;have hIc:=hI.c1;refine so L48 rfl (bT t2 (λ_=>Zu L48 rfl rfl) λ_ L51=>sn (wp_seq (Zm L51 rfl rfl (wp_skip ((Zb (wp_seq (wp_block (wp_seq (Za (sm L51 rfl λ_ L52=>sa L52 rfl λ_ L53=>?_)))))))))));refine sn (wp_seq (Za (sa L53 rfl ?_)));intro _ L54;refine sn (wp_seq (wp_seq (Za (sm L54 rfl ?_))));intro _ L55;refine sm L55 rfl λ_ L56=>so L56 rfl (ZC L56 rfl Tryz.underlying30 λ_ L57=>?_);by_cases t3:(i:Int)<(len1:Int);refine so L57 rfl (bT t3 (λ_=>Zu L57 rfl rfl) λ_ L58=>sn (Zm L58 rfl rfl (Za (sm L58 rfl λ_ L59=>sm L59 rfl λ_ L60=>?_))));obtain⟨b5,rest_1,rfl,r3⟩:=(hd1.up l5).row (by omega);refine so L60 rfl (Zp (i) L60 rfl rfl Tryz.underlying30 ZE (by omega) (by omega) λ_ L61=>so L61 rfl (Zj (v:=(.int .u64 (((ZH W64 b).getD (i) 0:Nat):Int))) L61 rfl Yu (R10.row r3) (by rw[Nat.zero_add];exact Yd (by omega)) λ_ L62=>sa L62 rfl λ_ L63=>sn (Za (sm L63 rfl λ_ L64=>sm L64 rfl λ_ L65=>sm L65 rfl λ_ L66=>?_))));refine sm L66 rfl λ_ L67=>so L67 rfl (Zp (i) L67 rfl rfl Tryz.underlying30 ZE (by omega) (by omega) λ_ L68=>so L68 rfl (Zj (v:=(.int .u64 ((us.getD (i) 0:Nat):Int))) L68 rfl Yu (R10.has (List.Mem.head _)) (by rw[Nat.zero_add];exact Yd (by omega)) λ_ L69=>sm L69 rfl λ_ L70=>sm L70 rfl λ_ L71=>so L71 rfl (Ze1 (x:=(us.getD (i) 0)) (y:=((ZH W64 b).getD (i) 0)) (c:=c) L71 rfl (by omega) λ_ L72=>sm L72 rfl λ_ L73=>?_)));refine so L73 rfl (Zk L73 rfl rfl λ_ L74=>so L74 rfl (Zk L74 rfl rfl λ_ L75=>so L75 rfl (Zp (i) L75 rfl rfl Tryz.underlying30 ZE (by omega) (by omega) λ_ L76=>Zv L76 rfl rfl (Yi (cs':=(Yw (us.set (i) ((((us.getD (i) 0)+18446744073709551616 - ((ZH W64 b).getD (i) 0) - c)%18446744073709551616)))++[])) L76 rfl rfl R10 ZE rfl (by simp only[List.length_append,ZM];omega) (by rw[Nat.zero_add];exact Xg (by omega)) λ_ R11 _ L77=>sa L77 rfl λ_ L78=>Ye ((Zy (Zb (Za (so L78 rfl (Zz L78 rfl rfl Xr λ_ L79=>?_))))))))));exact sm L79 rfl λ_ L80=>sn (⟨((ZH W64 a)).length - (i+1),(by omega),S5,(us.set (i) ((((us.getD (i) 0)+18446744073709551616 - ((ZH W64 b).getD (i) 0) - c)%18446744073709551616))),(i+1),(if(us.getD (i) 0)<((ZH W64 b).getD (i) 0)+c then 1 else 0),l5,(((L80.ri 8 (((if(us.getD (i) 0)<((ZH W64 b).getD (i) 0)+c then 1 else 0):Nat):Int) rfl).a ((L80.ri 37 (((i+1):Nat):Int) rfl).a L80)).kp [37,36,8,7,6,5,4] rfl),(Yg (Yg R11)),(by first|exact hI.step hxl hyl (by omega)|(have q:=hI.step hxl hyl (by omega);rw[Zah (y:=(ZH W64 b)) (i:=i) (by omega)] at q;exact q)),rfl⟩);refine so L57 rfl (bF t3 (λ_=>Zu L57 rfl rfl) λ_ L83=>sn (Zi L83 rfl rfl (wp_seq (Za (sm L83 rfl λ_ L84=>?_)))));by_cases t4:(c:Int)=(0:Int);refine so L84 rfl (bT t4 (λ_=>ZQ L84 rfl rfl) λ_ L85=>sn (Zm L85 rfl rfl (wp_exit ((Zq (in_miss rfl (Zq (Zq (Yx (Zb (wp_seq (Za (sm L85 rfl λ_ L86=>?_)))))))))))));obtain⟨S6,l6,r4,R12⟩:=(R10).freeze;have hd2:Dg S6 (some ⟨b4,0,none⟩) (len_a) (len_a) us:=⟨by first|rfl|omega,by omega,by omega,hI.lt,λ_=>⟨_,_,rfl,r4⟩⟩;refine so L86 rfl (Zh L86 rfl Zc7 (Zc0 R12.holds (k:=k_a) hd2 (by rw[hI.done hyl (by simp only[ZV (show 2<=W64 by decide)];omega) (by omega) (by omega)];simp only[ZV (show 2<=W64 by decide)];exact Nat.le_trans (Nat.sub_le _ _) h_a.1)) λv_3 _ _ x3 v3=>?_);have R13:=R12.call x3;obtain⟨cs_1,rfl,h3⟩:=v3;intro _ L87;exact Zv L87 rfl rfl (Zl L87 rfl rfl R13 Zo h3.len rfl h3.ones λ_ R14 _ L88=>sa L88 rfl λ_ L89=>sn (wp_ret ((Zaj (Zn (rs:=Tryz.f145.results.toList) (L89.kp [4,5] rfl) rfl (Res.aggW rfl ZK Zo (R14.has (List.Mem.head _)) h3.len (.tmp rfl Res.nil)) (⟨_,_,rfl,R14.ext,(Or.inr ⟨by first|assumption|omega|(simp_all;done),⟨_,rfl,(h3.to (by rw[hI.done hyl (by simp only[ZV (show 2<=W64 by decide)];omega) (by omega) (by omega)];simp only[ZV (show 2<=W64 by decide)]) (by omega))⟩⟩)⟩))))));refine so L84 rfl (bF t4 (λ_=>ZQ L84 rfl rfl) λ_ L91=>sn (Zi L91 rfl rfl (wp_skip ((Zb (Za (sm L91 rfl λ_ L92=>sm L92 rfl λ_ L93=>sm L93 rfl λ_ L94=>sm L94 rfl λ_ L95=>?_)))))));refine so L95 rfl (Zp (i) L95 rfl rfl Tryz.underlying30 ZE (by omega) (by omega) λ_ L96=>so L96 rfl (Zj (v:=(.int .u64 ((us.getD (i) 0:Nat):Int))) L96 rfl Yu (R10.has (List.Mem.head _)) (by rw[Nat.zero_add];exact Yd (by omega)) λ_ L97=>sm L97 rfl λ_ L98=>sm L98 rfl λ_ L99=>so L99 rfl (Ze1 (x:=(us.getD (i) 0)) (y:=0) (c:=c) L99 rfl (by omega) λ_ L100=>sm L100 rfl λ_ L101=>so L101 rfl (Zk L101 rfl rfl λ_ L102=>?_))));refine so L102 rfl (Zk L102 rfl rfl λ_ L103=>so L103 rfl (Zp (i) L103 rfl rfl Tryz.underlying30 ZE (by omega) (by omega) λ_ L104=>Zv L104 rfl rfl (Yi (cs':=(Yw (us.set (i) ((((us.getD (i) 0)+18446744073709551616 - 0 - c)%18446744073709551616)))++[])) L104 rfl rfl R10 ZE rfl (by simp only[List.length_append,ZM];omega) (by rw[Nat.zero_add];exact Xg (by omega)) λ_ R15 _ L105=>sa L105 rfl λ_ L106=>Ye ((Zy (Zb (Za (so L106 rfl (Zz L106 rfl rfl Xr λ_ L107=>sm L107 rfl λ_ L108=>?_)))))))));exact sn (⟨((ZH W64 a)).length - (i+1),(by omega),S5,(us.set (i) ((((us.getD (i) 0)+18446744073709551616 - 0 - c)%18446744073709551616))),(i+1),(if(us.getD (i) 0)<0+c then 1 else 0),l5,(((L108.ri 8 (((if(us.getD (i) 0)<0+c then 1 else 0):Nat):Int) rfl).a ((L108.ri 37 (((i+1):Nat):Int) rfl).a L108)).kp [37,36,8,7,6,5,4] rfl),(Yg (Yg R15)),(by first|exact hI.step hxl hyl (by omega)|(have q:=hI.step hxl hyl (by omega);rw[Zah (y:=(ZH W64 b)) (i:=i) (by omega)] at q;exact q)),rfl⟩);have hIl:=hI.len;have hIe:=hI.le;have hIc:=hI.c1;refine so L48 rfl (bF t2 (λ_=>Zu L48 rfl rfl) λ_ L111=>sn (wp_seq (Zi L111 rfl rfl (wp_exit ((Zq (Zq (Yx (Zb (wp_seq (Za (sm L111 rfl λ_ L112=>?_))))))))))));obtain⟨S8,l8,r5,R16⟩:=(R10).freeze;have hd3:Dg S8 (some ⟨b4,0,none⟩) (len_a) (len_a) us:=⟨by first|rfl|omega,by omega,by omega,hI.lt,λ_=>⟨_,_,rfl,r5⟩⟩;refine so L112 rfl (Zh L112 rfl Zc7 (Zc0 R16.holds (k:=k_a) hd3 (by rw[hI.done hyl (by simp only[ZV (show 2<=W64 by decide)];omega) (by omega) (by omega)];simp only[ZV (show 2<=W64 by decide)];exact Nat.le_trans (Nat.sub_le _ _) h_a.1)) λv_4 _ _ x4 v4=>?_);have R17:=R16.call x4;obtain⟨c2,rfl,h4⟩:=v4;intro _ L113;exact Zv L113 rfl rfl (Zl L113 rfl rfl R17 Zo h4.len rfl h4.ones λ_ R18 _ L114=>sa L114 rfl λ_ L115=>sn (wp_ret ((Zaj (Zn (rs:=Tryz.f145.results.toList) (L115.kp [4,5] rfl) rfl (Res.aggW rfl ZK Zo (R18.has (List.Mem.head _)) h4.len (.tmp rfl Res.nil)) (⟨_,_,rfl,R18.ext,(Or.inr ⟨by first|assumption|omega|(simp_all;done),⟨_,rfl,(h4.to (by rw[hI.done hyl (by simp only[ZV (show 2<=W64 by decide)];omega) (by omega) (by omega)];simp only[ZV (show 2<=W64 by decide)]) (by omega))⟩⟩)⟩))))))
set_option maxRecDepth 20000 in
theorem nat_Mul {S:Sh} {w:World} (hS:ZU S w) {c_a:List Value} {a:Nat} {k_a:Nat} (h_a:Na S c_a (a) (k_a)) {c_b:List Value} {b:Nat} {k_b:Nat} (h_b:Na S c_b (b) (k_b)) (hlim:k_a<=1099511627776) (hlim2:k_b<=1099511627776):Calls Tryz.prog 80 [(.agg (c_a:List Value).toArray),(.agg (c_b:List Value).toArray)].toArray w (Ret S w (λS v=>∃(c0:List Value),v= .agg c0.toArray/\Na S c0 (a*b) (k_a+k_b))):=by
 refine ZB (n:=111) Tryz.func80 rfl rfl ?_;intro ac0 L0;replace L0:ZL ac0 111 [(0,(.agg (c_a:List Value).toArray)),(1,(.agg (c_b:List Value).toArray))]:=L0;have R0:Run S w S [] w:=.start hS;have hla:=Qb h_a.1;have hlb:=Qb h_b.1;refine wp_seq (Za (so L0 rfl (ZW (cs:=c_a) L0 rfl R0 rfl ?_)));intro b1 _ _ l1 r1 R1 _ L1;refine so L1 rfl (ZW (cs:=c_b) L1 rfl R1 rfl λb2 S2 _ l2 r2 R2 _ L2=>so L2 rfl (ZJ (cs:=zN1) ZZ R2 rfl λb3 _ R3 _ L3=>sn ?_));refine Xf (λac ww=>∃(S':Sh),S2.le S'/\ZL ac 111 [(2,(.pointer (some ⟨b1,0,none⟩))),(3,(.pointer (some ⟨b2,0,none⟩))),(4,(.pointer (some ⟨b3,0,none⟩)))]/\Run S w S' [(b3,32,zN1)] ww) ?_ ?_
 ·rintro ac1 _ ⟨_,l3,L4,R4⟩
  refine wp_seq ?_
  have L5:=(L4.kp [2,3,4] rfl)
  refine Zx (E0:=[]) (H0:=[(b3,32,zN1)]) (n:=111) mixed 3 [] (λk=>0) (Zdm [
    .is (.agg (c_a:List Value).toArray),
    .sat (λS v=>∃(p0:Option Addr) (len0:Nat) (cap0:Nat),v= .slice p0 len0 cap0/\(ZH W64 a).length=len0/\len0<=cap0/\len0<=281474976710656/\Dg S p0 len0 cap0 (ZH W64 a)) (λ_ _ _ l ⟨p0,n0,m0,e,g0,f0,j0,h0⟩=>⟨p0,n0,m0,e,g0,f0,j0,h0.up l⟩),
    .is (.agg (c_b:List Value).toArray)]) L5 R4 (by simp) (by simp) (by rfl) (by rfl) (by simp) (ZY ?_) ?_
  ·refine(An ?_ (An ?_ (An ?_ trivial)))
   ·exact Zc rfl (λ_ _ _ _ _ A1=>(ZA A1.live rfl ZK Zo (A1.run.row (r1.up (l2.trans (l3.trans A1.le)))) h_a.len (A1.same rfl)))
   ·refine Zc rfl (λ_ _ _ _ _ A2=>?_)
    obtain⟨_,e1,rfl⟩:=A2.known 0 rfl
    exact Zh (A2.live.add e1) rfl Zeb (Xj A2.run.holds (h_a.up (l1.trans (l2.trans (l3.trans A2.le))))) λv_1 _ _ x1 v1=>(A2.post x1.le (A2.run.call x1) v1)
   ·exact Zc rfl (λ_ _ _ _ _ A3=>(ZA A3.live rfl ZK Zo (A3.run.row (r2.up (l3.trans A3.le))) h_b.len (A3.same rfl)))
  ·intro S8 _ _ w9 l5 E1 R6 n1 L9 K1
   obtain⟨_,e2,p1,len1,cap1,rfl,y1,z1,hg1,hd1⟩:=K1 1 (by decide)
   have L10:=L9.add e2;clear L9
   obtain⟨_,e3,rfl⟩:=K1 2 (by decide)
   have L11:=L10.add e3;clear L10
   have R7:Run _ _ S8 [(b3,32,zN1)] w9:=Yh R6 n1 [] (by simp) (by simp)
   refine so L11 rfl (Zh L11 rfl Zeb (Xj R7.holds (h_b.up (l1.trans (l2.trans (l3.trans l5))))) λv_2 S9 _ x2 v2=>?_)
   have R8:=R7.call x2;have l6:=x2.le
   obtain⟨p2,len2,cap2,rfl,y2,z2,hg2,hd2⟩:=v2
   intro _ L12
   refine sa L12 rfl λ_ L13=>sa L13 rfl λ_ L14=>?_
   have L15:=(L14.kp [4,7,8] rfl);clear L14
   refine sn (wp_seq (Za (sm L15 rfl ?_)))
   intro _ L16
   refine so L16 rfl (ZC L16 rfl Tryz.underlying30 λ_ L17=>sm L17 rfl λ_ L18=>so L18 rfl (ZC L18 rfl Tryz.underlying30 λ_ L19=>so L19 rfl (Zz L19 rfl rfl Xr λ_ L20=>so L20 rfl (Xm (m:=(len1+len2)) (c:=(len1+len2)) L20 (by first|rfl|(simp[ev,Zal];omega)) (by first|rfl|(simp[ev,Zal];omega)) Tryz.underlying30 QP rfl ZE Za4 (by omega) (by omega) (by omega) R8 λb4 _ R9 _ L21=>?_))))
   rw[Zeh] at R9
   refine sa L21 rfl λ_ L22=>?_
   have L23:=(L22.kp [4,7,8,9] rfl);clear L22
   refine sn (wp_seq (wp_seq (Za (sm L23 rfl ?_))))
   intro _ L24
   refine so L24 rfl (ZC L24 rfl Tryz.underlying30 λ_ L25=>sm L25 rfl λ_ L26=>sn (wp_block ?_))
   have hxl:=(hd1.up l6).hlt;have hyl:=hd2.hlt
   refine ZO (λm ac ww=>∃(S':Sh) (us:List Nat) (i:Nat),S9.le S'/\ZL ac 111 [(4,(.pointer (some ⟨b3,0,none⟩))),(7,(.slice p1 len1 cap1)),(8,(.slice p2 len2 cap2)),(9,(.slice (some ⟨b4,0,none⟩) ((len1+len2)) ((len1+len2)))),(51,(.int .i64 ((len1:Nat):Int))),(52,(.int .i64 ((i:Nat):Int)))]/\Run S w S' [(b4,29,(Yw us++[])),(b3,32,zN1)] ww/\(MulIn (ZH W64 a) (ZH W64 b) us i 0 0)/\(i<=((ZH W64 a)).length)/\m=((ZH W64 a)).length - i)
    (((ZH W64 a)).length - 0) ⟨S9,(List.replicate ((len1+len2)) 0),0,Sh.le.refl _,(((L26.ri 52 ((0:Nat):Int) rfl).a L26).kp [52,51,9,8,7,4] rfl),(Yg (Yg R9)),(by exact MulIn.start (by omega)),(by omega),rfl⟩ ?_
   rintro m_1 ac2 _ ⟨S10,us,i,l7,L27,R10,hI,hi,m1⟩
   refine wp_seq (Za ?_)
   by_cases t1:(i:Int)<(len1:Int)
   ·refine so L27 rfl (bT t1 (λ_=>Zu L27 rfl rfl) λ_ L29=>sn (wp_seq (Zm L29 rfl rfl (wp_skip ((Zb (wp_seq (wp_block (wp_seq ?_)))))))))
    have hIl:=hI.len
    refine Za (sm L29 rfl ?_)
    intro _ L30
    refine sa L30 rfl λ_ L31=>sn (wp_seq (Za (sa L31 rfl λ_ L32=>sn (wp_seq (wp_seq (Za (sm L32 rfl λ_ L33=>?_)))))))
    refine so L33 rfl (ZC L33 rfl Tryz.underlying30 λ_ L34=>sm L34 rfl λ_ L35=>sn (wp_block ?_))
    refine ZO (λm ac ww=>∃(S':Sh) (vs:List Nat) (j:Nat) (c:Nat),S10.le S'/\ZL ac 111 [(4,(.pointer (some ⟨b3,0,none⟩))),(7,(.slice p1 len1 cap1)),(8,(.slice p2 len2 cap2)),(9,(.slice (some ⟨b4,0,none⟩) ((len1+len2)) ((len1+len2)))),(51,(.int .i64 ((len1:Nat):Int))),(52,(.int .i64 ((i:Nat):Int))),(53,(.bool true)),(54,(.int .i64 ((i:Nat):Int))),(10,(.int .i64 ((i:Nat):Int))),(11,(.int .u64 ((c:Nat):Int))),(55,(.slice p2 len2 cap2)),(56,(.int .i64 ((len2:Nat):Int))),(57,(.int .i64 ((j:Nat):Int)))]/\Run S w S' [(b4,29,(Yw vs++[])),(b3,32,zN1)] ww/\(MulIn (ZH W64 a) (ZH W64 b) vs i j c)/\(j<=((ZH W64 b)).length)/\m=((ZH W64 b)).length - j)
     (((ZH W64 b)).length - 0) ⟨S10,us,0,0,Sh.le.refl _,(((L35.ri 11 ((0:Nat):Int) rfl).a ((L35.ri 57 ((0:Nat):Int) rfl).a L35)).kp [57,56,55,11,10,54,53,52,51,9,8,7,4] rfl),(Yg (Yg R10)),(by exact hI),(by omega),rfl⟩ ?_
    rintro m_2 ac3 _ ⟨S11,vs,j,c,l8,L36,R11,hJ,hj,m2⟩
    refine wp_seq (Za ?_)
    by_cases t2:(j:Int)<(len2:Int)
    ·refine so L36 rfl (bT t2 (λ_=>Zu L36 rfl rfl) λ_ L39=>sn (wp_seq (Zm L39 rfl rfl (wp_skip ((Zb (wp_seq (wp_block (wp_seq ?_)))))))))
     have hJl:=hJ.len;have hJc:=hJ.c1
     obtain⟨hm1,hm2,hm3⟩:=mul_step (x:=(ZH W64 a).getD i 0) (y:=(ZH W64 b).getD j 0) (c:=c) (u:=vs.getD (i+j) 0) (ZS hxl (by decide) _) (ZS hyl (by decide) _) hJ.c1 (ZS hJ.lt (by decide) _)
     refine Za (sm L39 rfl ?_)
     intro _ L40
     refine sa L40 rfl λ_ L41=>sn (wp_seq ?_)
     obtain⟨b5,rest_1,rfl,r3⟩:=(hd1.up (l6.trans (l7.trans l8))).row (by omega)
     obtain⟨b6,rest_2,rfl,r4⟩:=(hd2.up (l7.trans l8)).row (by omega)
     have L42:=(L41.kp [4,7,8,9,51,52,53,54,10,11,55,56,57,58,59,12] rfl)
     refine Zx (E0:=[]) (H0:=[(b4,29,(Yw vs++[])),(b3,32,zN1)]) (n:=111) mixed 13 [] (λk=>0) (Zdm [
       .is (.slice (some ⟨b5,0,none⟩) len1 cap1),
       .is (.int .i64 (i:Int)),
       .is (.pointer (some ⟨b5,(0+(i)),none⟩)),
       .is (.int .u64 (((ZH W64 a).getD (i) 0:Nat):Int)),
       .is (.slice (some ⟨b6,0,none⟩) len2 cap2),
       .is (.int .i64 (j:Int)),
       .is (.pointer (some ⟨b6,(0+(j)),none⟩)),
       .is (.int .u64 (((ZH W64 b).getD (j) 0:Nat):Int)),
       .is (.tuple [.int .u64 (((((ZH W64 a).getD (i) 0)*((ZH W64 b).getD (j) 0) / 18446744073709551616:Nat):Int)),.int .u64 (((((ZH W64 a).getD (i) 0)*((ZH W64 b).getD (j) 0)%18446744073709551616:Nat):Int))].toArray),
       .is (.tuple [(.int .u64 ((((ZH W64 a).getD (i) 0)*((ZH W64 b).getD (j) 0) / 18446744073709551616:Nat):Int)),(.int .u64 ((((ZH W64 a).getD (i) 0)*((ZH W64 b).getD (j) 0)%18446744073709551616:Nat):Int))].toArray),
       .is (.int .u64 ((((ZH W64 a).getD (i) 0)*((ZH W64 b).getD (j) 0) / 18446744073709551616:Nat):Int)),
       .is (.int .u64 ((((ZH W64 a).getD (i) 0)*((ZH W64 b).getD (j) 0)%18446744073709551616:Nat):Int)),
       .is (.int .u64 ((((ZH W64 a).getD (i) 0)*((ZH W64 b).getD (j) 0) / 18446744073709551616:Nat):Int))]) L42 R11 (by simp) (by simp) (by rfl) (by rfl) (by simp) (ZY ?_) ?_
     ·refine(An ?_ (An ?_ (An ?_ (An ?_ (An ?_ (An ?_ (An ?_ (An ?_ (An ?_ (An ?_ (An ?_ (An ?_ (An ?_ trivial)))))))))))))
      ·exact Zc rfl (λ_ _ _ _ _ A4=>(Zf A4.live rfl (A4.same rfl)))
      ·exact Zc rfl (λ_ _ _ _ _ A5=>(Zf A5.live rfl (A5.same rfl)))
      ·refine Zc rfl (λ_ _ _ _ _ A6=>?_)
       obtain⟨_,e7,rfl⟩:=A6.known 0 rfl
       obtain⟨_,e8,rfl⟩:=A6.known 1 rfl
       exact Zp (i) ((A6.live.add e7).add e8) rfl rfl Tryz.underlying30 ZE (by omega) (by omega) (A6.same rfl)
      ·refine Zc rfl (λ_ _ _ _ _ A7=>?_)
       obtain⟨_,e9,rfl⟩:=A7.known 2 rfl
       exact Zj (v:=(.int .u64 (((ZH W64 a).getD (i) 0:Nat):Int))) (A7.live.add e9) rfl Yu (A7.run.row (r3.up A7.le)) (by rw[Nat.zero_add];exact Yd (by omega)) (A7.same rfl)
      ·exact Zc rfl (λ_ _ _ _ _ A8=>(Zf A8.live rfl (A8.same rfl)))
      ·exact Zc rfl (λ_ _ _ _ _ A9=>(Zf A9.live rfl (A9.same rfl)))
      ·refine Zc rfl (λ_ _ _ _ _ A10=>?_)
       obtain⟨_,e10,rfl⟩:=A10.known 4 rfl
       obtain⟨_,e11,rfl⟩:=A10.known 5 rfl
       exact Zp (j) ((A10.live.add e10).add e11) rfl rfl Tryz.underlying30 ZE (by omega) (by omega) (A10.same rfl)
      ·refine Zc rfl (λ_ _ _ _ _ A11=>?_)
       obtain⟨_,e12,rfl⟩:=A11.known 6 rfl
       exact Zj (v:=(.int .u64 (((ZH W64 b).getD (j) 0:Nat):Int))) (A11.live.add e12) rfl Yu (A11.run.row (r4.up A11.le)) (by rw[Nat.zero_add];exact Yd (by omega)) (A11.same rfl)
      ·refine Zc rfl (λ_ _ _ _ _ A12=>?_)
       obtain⟨_,e13,rfl⟩:=A12.known 3 rfl
       obtain⟨_,e14,rfl⟩:=A12.known 7 rfl
       exact Zh ((A12.live.add e13).add e14) rfl ent_139 (Zac A12.run.holds (x:=((ZH W64 a).getD (i) 0)) (y:=((ZH W64 b).getD (j) 0)) (ZS hxl (by decide) _) (ZS hyl (by decide) _)) λv_3 _ _ x3 v3=>(A12.post x3.le (A12.run.call x3) v3)
      ·refine Zc rfl (λ_ _ _ _ _ A13=>?_)
       obtain⟨_,e15,rfl⟩:=A13.known 8 rfl
       exact Zf (A13.live.add e15) rfl (A13.same rfl)
      ·refine Zc rfl (λ_ _ _ _ _ A14=>?_)
       obtain⟨_,e16,rfl⟩:=A14.known 9 rfl
       exact Zk (A14.live.add e16) rfl rfl (A14.same rfl)
      ·refine Zc rfl (λ_ _ _ _ _ A15=>?_)
       obtain⟨_,e17,rfl⟩:=A15.known 9 rfl
       exact Zk (A15.live.add e17) rfl rfl (A15.same rfl)
      ·refine Zc rfl (λ_ _ _ _ _ A16=>?_)
       obtain⟨_,e18,rfl⟩:=A16.known 10 rfl
       exact Qy (A16.live.add e18) rfl (A16.same rfl)
     ·intro S26 _ _ w28 l10 E2 R13 n2 L56 K2
      obtain⟨_,e19,rfl⟩:=K2 0 (by decide)
      have L57:=L56.add e19;clear L56
      obtain⟨_,e20,rfl⟩:=K2 1 (by decide)
      have L58:=L57.add e20;clear L57
      obtain⟨_,e21,rfl⟩:=K2 2 (by decide)
      have L59:=L58.add e21;clear L58
      obtain⟨_,e22,rfl⟩:=K2 3 (by decide)
      have L60:=L59.add e22;clear L59
      obtain⟨_,e23,rfl⟩:=K2 4 (by decide)
      have L61:=L60.add e23;clear L60
      obtain⟨_,e24,rfl⟩:=K2 5 (by decide)
      have L62:=L61.add e24;clear L61
      obtain⟨_,e25,rfl⟩:=K2 6 (by decide)
      have L63:=L62.add e25;clear L62
      obtain⟨_,e26,rfl⟩:=K2 7 (by decide)
      have L64:=L63.add e26;clear L63
      obtain⟨_,e27,rfl⟩:=K2 8 (by decide)
      have L65:=L64.add e27;clear L64
      obtain⟨_,e28,rfl⟩:=K2 9 (by decide)
      have L66:=L65.add e28;clear L65
      obtain⟨_,e29,rfl⟩:=K2 10 (by decide)
      have L67:=L66.add e29;clear L66
      obtain⟨_,e30,rfl⟩:=K2 11 (by decide)
      have L68:=L67.add e30;clear L67
      obtain⟨_,e31,rfl⟩:=K2 12 (by decide)
      have L69:=L68.add e31;clear L68
      have R14:Run _ _ S26 [(b4,29,(Yw vs++[])),(b3,32,zN1)] w28:=Yh R13 n2 [] (by simp) (by simp)
      refine sa L69 rfl λ_ L70=>sn (wp_seq (Za (sa L70 rfl λ_ L71=>sn (wp_seq (Za (sm L71 rfl λ_ L72=>sm L72 rfl λ_ L73=>?_))))))
      refine so L73 rfl (YU (x:=(((ZH W64 a).getD (i) 0)*((ZH W64 b).getD (j) 0)%18446744073709551616)) (y:=c) (c:=0) L73 rfl (by omega) λ_ L74=>sm L74 rfl λ_ L75=>so L75 rfl (Zk L75 rfl rfl λ_ L76=>so L76 rfl (Zk L76 rfl rfl λ_ L77=>sa L77 rfl λ_ L78=>sa L78 rfl λ_ L79=>sn ?_)))
      refine wp_seq (Za (sm L79 rfl ?_))
      intro _ L80
      refine sm L80 rfl λ_ L81=>so L81 rfl (Zz L81 rfl rfl Zae λ_ L82=>sa L82 rfl λ_ L83=>sn (wp_seq (Za (sm L83 rfl λ_ L84=>sm L84 rfl λ_ L85=>?_))))
      refine sm L85 rfl λ_ L86=>so L86 rfl (Zz L86 rfl rfl Xr λ_ L87=>sm L87 rfl λ_ L88=>sm L88 rfl λ_ L89=>sm L89 rfl λ_ L90=>so L90 rfl (Zz L90 rfl rfl Xr λ_ L91=>so L91 rfl (Zp ((i+j)) L91 rfl rfl Tryz.underlying30 ZE (by omega) (by omega) λ_ L92=>?_)))
      refine so L92 rfl (Zj (v:=(.int .u64 ((vs.getD ((i+j)) 0:Nat):Int))) L92 rfl Yu (R14.has (List.Mem.head _)) (by rw[Nat.zero_add];exact Yd (by omega)) λ_ L93=>sm L93 rfl λ_ L94=>so L94 rfl (YU (x:=(vs.getD ((i+j)) 0)) (y:=(((((ZH W64 a).getD (i) 0)*((ZH W64 b).getD (j) 0)%18446744073709551616)+c+0)%18446744073709551616)) (c:=0) L94 rfl (by omega) λ_ L95=>sm L95 rfl λ_ L96=>so L96 rfl (Zk L96 rfl rfl λ_ L97=>so L97 rfl (Zk L97 rfl rfl λ_ L98=>so L98 rfl (Zp ((i+j)) L98 rfl rfl Tryz.underlying30 ZE (by omega) (by omega) λ_ L99=>?_)))))
      refine Zv L99 rfl rfl (Yi (cs':=(Yw (vs.set ((i+j)) ((((vs.getD ((i+j)) 0)+(((((ZH W64 a).getD (i) 0)*((ZH W64 b).getD (j) 0)%18446744073709551616)+c+0)%18446744073709551616)+0)%18446744073709551616)))++[])) L99 rfl rfl R14 ZE rfl (by simp only[List.length_append,ZM];omega) (by rw[Nat.zero_add];exact Xg (by omega)) λ_ R15 _ L100=>sa L100 rfl λ_ L101=>sn (Za (sm L101 rfl λ_ L102=>sm L102 rfl λ_ L103=>so L103 rfl (Zz L103 rfl rfl Zae λ_ L104=>sa L104 rfl λ_ L105=>?_))))
      refine Ye ((Zy (Zb (Za (so L105 rfl (Zz L105 rfl rfl Xr ?_))))))
      intro _ L106
      exact sm L106 rfl λ_ L107=>sn (⟨((ZH W64 b)).length - (j+1),(by omega),S26,(vs.set ((i+j)) ((((vs.getD ((i+j)) 0)+(((((ZH W64 a).getD (i) 0)*((ZH W64 b).getD (j) 0)%18446744073709551616)+c+0)%18446744073709551616)+0)%18446744073709551616))),(j+1),(((((ZH W64 a).getD (i) 0)*((ZH W64 b).getD (j) 0) / 18446744073709551616)+(((((ZH W64 a).getD (i) 0)*((ZH W64 b).getD (j) 0)%18446744073709551616)+c+0) / 18446744073709551616))+(((vs.getD ((i+j)) 0)+(((((ZH W64 a).getD (i) 0)*((ZH W64 b).getD (j) 0)%18446744073709551616)+c+0)%18446744073709551616)+0) / 18446744073709551616)),(l8.trans l10),(((L107.ri 11 (((((((ZH W64 a).getD (i) 0)*((ZH W64 b).getD (j) 0) / 18446744073709551616)+(((((ZH W64 a).getD (i) 0)*((ZH W64 b).getD (j) 0)%18446744073709551616)+c+0) / 18446744073709551616))+(((vs.getD ((i+j)) 0)+(((((ZH W64 a).getD (i) 0)*((ZH W64 b).getD (j) 0)%18446744073709551616)+c+0)%18446744073709551616)+0) / 18446744073709551616)):Nat):Int) rfl).a ((L107.ri 57 (((j+1):Nat):Int) rfl).a L107)).kp [57,56,55,11,10,54,53,52,51,9,8,7,4] rfl),(Yg (Yg R15)),(by exact hJ.step rfl hxl hyl (by omega) (by omega) (by omega) hm2 hm3),(by omega),rfl⟩)
    ·refine so L36 rfl (bF t2 (λ_=>Zu L36 rfl rfl) λ_ L110=>sn (wp_seq (Zi L110 rfl rfl (wp_exit ((Zq (Zq (Yx (Zb ?_)))))))))
     have hJl:=hJ.len;have hJc:=hJ.c1
     refine Za (sm L110 rfl ?_)
     intro _ L111
     refine sm L111 rfl λ_ L112=>sm L112 rfl λ_ L113=>so L113 rfl (ZC L113 rfl Tryz.underlying30 λ_ L114=>so L114 rfl (Zz L114 rfl rfl Xr λ_ L115=>sm L115 rfl λ_ L116=>so L116 rfl (Zp ((i+len2)) L116 rfl rfl Tryz.underlying30 ZE (by omega) (by omega) λ_ L117=>Zv L117 rfl rfl (Yi (cs':=(Yw (vs.set ((i+len2)) (c))++[])) L117 rfl rfl R11 ZE rfl (by simp only[List.length_append,ZM];omega) (by rw[Nat.zero_add];exact Xg (by omega)) λ_ R16 _ L118=>?_))))
     refine Ye ((Zy (Zb (Za (so L118 rfl (Zz L118 rfl rfl Xr ?_))))))
     intro _ L119
     exact sm L119 rfl λ_ L120=>sn (⟨((ZH W64 a)).length - (i+1),(by omega),S11,(vs.set ((i+len2)) (c)),(i+1),(l7.trans l8),(((L120.ri 52 (((i+1):Nat):Int) rfl).a L120).kp [52,51,9,8,7,4] rfl),(Yg (Yg R16)),(by exact hJ.next (by omega) (by omega) (by omega) (by omega)),(by omega),rfl⟩)
   ·refine so L27 rfl (bF t1 (λ_=>Zu L27 rfl rfl) λ_ L122=>sn (wp_seq (Zi L122 rfl rfl (wp_exit ((Zq (Zq (Yx (Zb (wp_seq (Za (sm L122 rfl λ_ L123=>?_))))))))))))
    obtain⟨S27,l11,r5,R17⟩:=(R10).freeze
    have hd3:Dg S27 (some ⟨b4,0,none⟩) ((len1+len2)) ((len1+len2)) us:=⟨by first|rfl|(have:=hI.len;omega)|omega,by omega,by omega,hI.lt,λ_=>⟨_,_,rfl,r5⟩⟩
    refine so L123 rfl (Zh L123 rfl Zc7 (Zc0 R17.holds (k:=(k_a+k_b)) hd3 (by rw[hI.done (by omega)];simp only[ZV (show 2<=W64 by decide)];exact prod_pow h_a.1 h_b.1)) λv_4 _ _ x4 v4=>?_)
    have R18:=R17.call x4
    obtain⟨cs_1,rfl,h1⟩:=v4
    intro _ L124
    exact Zv L124 rfl rfl (Zl L124 rfl rfl R18 Zo h1.len rfl h1.ones λ_ R19 _ L125=>(sn (wp_ret ((Zn (rs:=Tryz.f80.results.toList) (L125.kp [4] rfl) rfl (Res.aggW rfl ZK Zo (R19.has (List.Mem.head _)) h1.len Res.nil) (⟨_,_,rfl,R19.ext,⟨_,rfl,(h1.to (by rw[hI.done (by omega)];simp only[ZV (show 2<=W64 by decide)]) (by omega))⟩⟩))))))
 skip;obtain⟨hb_a,⟨hs_a,rfl⟩|⟨hw_a,lo_a,bb_a,len_a,cap_a,rest_a,hlo_a,rfl,rw_a,hd_a,h2_a⟩⟩:=h_a.open;obtain⟨hb_b,⟨hs_b,rfl⟩|⟨hw_b,lo_b,bb_b,len_b,cap_b,rest_b,hlo_b,rfl,rw_b,hd_b,h2_b⟩⟩:=h_b.open;refine wp_seq (Za (so L3 rfl (Zd (off':=1) L3 rfl ZR rfl ?_)));intro _ L127;refine so L127 rfl (Zj L127 rfl YS (R3.row (r1.up l2)) rfl λ_ L128=>so L128 rfl (Ya L128 rfl rfl Tryz.underlying30 λ_ L129=>sm L129 rfl λ_ L130=>son L130 rfl (Zd (off':=1) L130 rfl ZR rfl λ_ L131=>son L131 rfl (Zj L131 rfl YS (R3.row r2) rfl λ_ L132=>son L132 rfl (Ya L132 rfl rfl Tryz.underlying30 λ_ L133=>so L133 rfl (Ze L133 rfl rfl λ_ L134=>?_))))));have L135:=(L134.kp [2,3,4,23] rfl);clear L134;refine sn (Zm L135 rfl rfl (wp_seq (Za (so L135 rfl (Zd (off':=0) L135 rfl Yl rfl ?_)))));intro _ L136;refine so L136 rfl (Zj L136 rfl Yu (R3.row (r1.up l2)) rfl λ_ L137=>so L137 rfl (Zd (off':=0) L137 rfl Yl rfl λ_ L138=>so L138 rfl (Zj L138 rfl Yu (R3.row r2) rfl λ_ L139=>so L139 rfl (Zh L139 rfl ent_139 (Zac R3.holds (x:=a) (y:=b) (hs_a) (hs_b)) λv_5 S29 _ x5 v5=>?_))));have R20:=R3.call x5;obtain rfl:=v5;intro _ L140;refine sm L140 rfl λ_ L141=>so L141 rfl (Zk L141 rfl rfl λ_ L142=>so L142 rfl (Zk L142 rfl rfl λ_ L143=>sa L143 rfl λ_ L144=>sa L144 rfl λ_ L145=>?_));have L146:=(L145.kp [2,3,4,5,6] rfl);clear L145;refine sn (wp_seq (wp_seq ?_));have hab:a*b<=18446744073709551615*18446744073709551615:=Nat.mul_le_mul (by omega) (by omega);refine Za (sm L146 rfl ?_);intro _ L147;by_cases t3:((a*b / 18446744073709551616:Nat):Int)=(0:Int);refine so L147 rfl (bT t3 (λ_=>ZQ L147 rfl rfl) λ_ L148=>sn (Zm L148 rfl rfl (wp_seq (Za (sm L148 rfl λ_ L149=>?_)))));have h2:Na S29 [(.int .u64 ((a*b%18446744073709551616:Nat):Int)),(.slice none 0 0)] (a*b) (k_a+k_b):=Na.ofLowE (by omega) (by omega) (prod_pow hb_a hb_b);exact so L149 rfl (ZG (cs:=[(.int .u64 ((a*b%18446744073709551616:Nat):Int)),(.slice none 0 0)]) L149 ZZ Qi (.cons rfl Yl rfl (by decide) .nil) (by rfl) λ_ L150=>Zv L150 rfl rfl (Zl L150 rfl rfl R20 Zo h2.len rfl h2.ones λ_ R21 _ L151=>sn (wp_ret ((Zt (Zt (Zn (rs:=Tryz.f80.results.toList) L151 rfl (Res.aggW rfl ZK Zo (R21.has (List.Mem.head _)) h2.len Res.nil) (⟨_,_,rfl,R21.ext,⟨_,rfl,(h2.to rfl (by omega))⟩⟩))))))));refine so L147 rfl (bF t3 (λ_=>ZQ L147 rfl rfl) λ_ L152=>sn (Zi L152 rfl rfl (wp_skip ((Zb (wp_seq (Za (sm L152 rfl λ_ L153=>sm L153 rfl λ_ L154=>so L154 rfl (Yo (cs:=(Yw [(a*b%18446744073709551616),(a*b / 18446744073709551616)]++[])) L154 Tryz.underlying30 ZE QP (.cons rfl rfl (by decide) (.cons rfl rfl (by decide) .nil)) [[(.int .u64 ((a*b%18446744073709551616:Nat):Int))],[(.int .u64 ((a*b / 18446744073709551616:Nat):Int))]] rfl rfl (by rfl) (by decide) R20 λb7 _ R22 _ L155=>?_)))))))));obtain⟨S30,l14,r6,R23⟩:=(R22).freeze;have hd4:Dg S30 (some ⟨b7,0,none⟩) 2 2 ([(a*b%18446744073709551616),(a*b / 18446744073709551616)]):=⟨by first|rfl|(have:=hI.len;omega)|omega,by omega,by omega,by simp;omega,λ_=>⟨_,_,rfl,r6⟩⟩;have h3:Na S30 [(.int .u64 (0:Int)),(.slice (some ⟨b7,0,none⟩) 2 2)] (a*b) (k_a+k_b):=Na.ofDg (lo:=0) (by decide) hd4 (by omega) (by simp;omega) (by simp only[val,W64];omega) (prod_pow hb_a hb_b);exact so L155 rfl (ZG (cs:=[(.int .u64 (0:Int)),(.slice (some ⟨b7,0,none⟩) 2 2)]) L155 ZZ Qi (.cons rfl ZR rfl (by decide) .nil) (by rfl) λ_ L156=>Zv L156 rfl rfl (Zl L156 rfl rfl R23 Zo h3.len rfl h3.ones λ_ R24 _ L157=>sn (wp_ret ((Zt (Zn (rs:=Tryz.f80.results.toList) (L157.kp [2,3,4] rfl) rfl (Res.aggW rfl ZK Zo (R24.has (List.Mem.head _)) h3.len Res.nil) (⟨_,_,rfl,R24.ext,⟨_,rfl,(h3.to rfl (by omega))⟩⟩)))))));have hl_b:=hd_b.hlen;have hc_b:=hd_b.hcap;have hg_b:=hd_b.hbig;have hW_b:18446744073709551616<=b:=hw_b;refine wp_seq (Za (so L3 rfl (Zd (off':=1) L3 rfl ZR rfl ?_)));intro _ L159;refine so L159 rfl (Zj L159 rfl YS (R3.row (r1.up l2)) rfl λ_ L160=>so L160 rfl (Ya L160 rfl rfl Tryz.underlying30 λ_ L161=>sm L161 rfl λ_ L162=>son L162 rfl (Zd (off':=1) L162 rfl ZR rfl λ_ L163=>son L163 rfl (Zj L163 rfl YS (R3.row r2) rfl λ_ L164=>son L164 rfl (Ya L164 rfl rfl Tryz.underlying30 λ_ L165=>so L165 rfl (Ze L165 rfl rfl λ_ L166=>?_))))));have L167:=(L166.kp [2,3,4,23] rfl);clear L166;exact sn (Zi L167 rfl rfl (wp_skip ((Zb (⟨S2,Sh.le.refl _,(L167.kp [4,3,2] rfl),R3⟩)))));have hl_a:=hd_a.hlen;have hc_a:=hd_a.hcap;have hg_a:=hd_a.hbig;have hW_a:18446744073709551616<=a:=hw_a;obtain⟨hb_b,⟨hs_b,rfl⟩|⟨hw_b,lo_b,bb_b,len_b,cap_b,rest_b,hlo_b,rfl,rw_b,hd_b,h2_b⟩⟩:=h_b.open;refine wp_seq (Za (so L3 rfl (Zd (off':=1) L3 rfl ZR rfl ?_)));intro _ L168;refine so L168 rfl (Zj L168 rfl YS (R3.row (r1.up l2)) rfl λ_ L169=>so L169 rfl (Ya L169 rfl rfl Tryz.underlying30 λ_ L170=>sm L170 rfl λ_ L171=>sof L171 rfl λ_ L172=>sof L172 rfl λ_ L173=>sof L173 rfl λ_ L174=>so L174 rfl (Ze L174 rfl rfl λ_ L175=>?_)));have L176:=(L175.kp [2,3,4,23] rfl);clear L175;exact sn (Zi L176 rfl rfl (wp_skip ((Zb (⟨S2,Sh.le.refl _,(L176.kp [4,3,2] rfl),R3⟩)))));have hl_b:=hd_b.hlen;have hc_b:=hd_b.hcap;have hg_b:=hd_b.hbig;have hW_b:18446744073709551616<=b:=hw_b;refine wp_seq (Za (so L3 rfl (Zd (off':=1) L3 rfl ZR rfl ?_)));intro _ L177;refine so L177 rfl (Zj L177 rfl YS (R3.row (r1.up l2)) rfl λ_ L178=>so L178 rfl (Ya L178 rfl rfl Tryz.underlying30 λ_ L179=>sm L179 rfl λ_ L180=>sof L180 rfl λ_ L181=>sof L181 rfl λ_ L182=>sof L182 rfl λ_ L183=>so L183 rfl (Ze L183 rfl rfl λ_ L184=>?_)));have L185:=(L184.kp [2,3,4,23] rfl);clear L184;exact sn (Zi L185 rfl rfl (wp_skip ((Zb (⟨S2,Sh.le.refl _,(L185.kp [4,3,2] rfl),R3⟩)))))
end Go.Cham
namespace Go.Cham
open Go Go.RowKit Go.Proofs
theorem Za1 {S:Sh} {w:World} (hS:ZU S w) {x:Nat} (hx:x<18446744073709551616):Calls Tryz.prog 162 [.int .u64 ((x:Nat):Int)].toArray w (Ret S w (λ_ v=>v= .int .i64 ((64 - Zs x:Nat):Int))):=by
 have h:=Ze7 hS hx;have e:(64 - ((Zs x:Nat):Int))=((64 - Zs x:Nat):Int):=by have:=Zfv hx;omega
 rw[e] at h;exact h
set_option maxRecDepth 20000 in
theorem Zd6 {S:Sh} {w:World} (hS:ZU S w) {h:Nat} {lo:Nat} {y:Nat} (hh:h<y) (hl:lo<18446744073709551616) (hy:y<18446744073709551616):Calls Tryz.prog 161 [(.int .u64 ((h:Nat):Int)),(.int .u64 ((lo:Nat):Int)),(.int .u64 ((y:Nat):Int))].toArray w (Ret S w (λS v=>v= .tuple [.int .u64 ((((h*18446744073709551616+lo) / y:Nat):Int)),.int .u64 ((((h*18446744073709551616+lo)%y:Nat):Int))].toArray)):=by
 refine ZB (n:=135) Tryz.func161 rfl rfl ?_;intro ac0 L0;replace L0:ZL ac0 135 [(0,(.int .u64 (h:Int))),(1,(.int .u64 (lo:Int))),(2,(.int .u64 (y:Int)))]:=L0;have R0:Run S w S [] w:=.start hS;have hbl:=Zfv hy;refine wp_seq (Za (sa L0 rfl ?_));intro _ L1;refine sa L1 rfl λ_ L2=>sn (wp_seq (wp_seq (Za (sm L2 rfl λ_ L3=>?_))));have t1:¬((y:Int)=(0:Int)):=by omega
 refine so L3 rfl (bF t1 (λ_=>ZQ L3 rfl rfl) λ_ L4=>sn (Zi L4 rfl rfl (wp_skip ((Zb (wp_seq (wp_seq (Za (sm L4 rfl λ_ L5=>sm L5 rfl λ_ L6=>?_)))))))));have t2:¬((y:Int)<=(h:Int)):=by omega
 refine so L6 rfl (bF t2 (λ_=>QG L6 rfl rfl) λ_ L7=>sn (Zi L7 rfl rfl (wp_skip ((Zb (wp_seq (wp_seq (Za (sm L7 rfl λ_ L8=>?_)))))))));by_cases t3:(h:Int)=(0:Int);refine so L8 rfl (bT t3 (λ_=>ZQ L8 rfl rfl) λ_ L9=>?_);have L10:=(L9.kp [0,1,2,6,7,27] rfl);clear L9;refine sn (Zm L10 rfl rfl (wp_seq ?_));have L11:=(L10.kp [0,1,2,7] rfl);refine Zx (E0:=[]) (H0:=[]) (n:=135) mixed 7 [] (λk=>0) (Zdm [.is (.int .u64 (lo:Int)),.is (.int .u64 (y:Int)),.is (.int .u64 ((lo:Int) / (y:Int))),.is (.int .u64 (lo:Int)),.is (.int .u64 (y:Int)),.is (.int .u64 ((lo:Int)%(y:Int))),.is (.int .u64 ((lo:Int) / (y:Int)))]) L11 R0 (by simp) (by simp) (by rfl) (by rfl) (by simp) (ZY ?_) ?_;refine(An ?_ (An ?_ (An ?_ (An ?_ (An ?_ (An ?_ (An ?_ trivial)))))));exact Zc rfl (λ_ _ _ _ _ A1=>(Zf A1.live rfl (A1.same rfl)));exact Zc rfl (λ_ _ _ _ _ A2=>(Zf A2.live rfl (A2.same rfl)));refine Zc rfl (λ_ _ _ _ _ A3=>?_);obtain⟨_,e1,rfl⟩:=A3.known 0 rfl;obtain⟨_,e2,rfl⟩:=A3.known 1 rfl;exact Xy (z:=((lo:Int) / (y:Int))) ((A3.live.add e1).add e2) rfl rfl (by omega) (Zak (k:=.u64) (by omega) (by omega) (show _<=(18446744073709551615:Int) by omega)) (A3.same rfl);exact Zc rfl (λ_ _ _ _ _ A4=>(Zf A4.live rfl (A4.same rfl)));exact Zc rfl (λ_ _ _ _ _ A5=>(Zf A5.live rfl (A5.same rfl)));refine Zc rfl (λ_ _ _ _ _ A6=>?_);obtain⟨_,e3,rfl⟩:=A6.known 3 rfl;obtain⟨_,e4,rfl⟩:=A6.known 4 rfl;exact XO (z:=((lo:Int)%(y:Int))) ((A6.live.add e3).add e4) rfl rfl (by omega) (Zbh (by omega)) (A6.same rfl);refine Zc rfl (λ_ _ _ _ _ A7=>?_);obtain⟨_,e5,rfl⟩:=A7.known 2 rfl;exact Qy (A7.live.add e5) rfl (A7.same rfl);intro S8 _ _ w8 l1 E1 R1 n1 L19 K1;obtain⟨_,e6,rfl⟩:=K1 5 (by decide);have L20:=L19.add e6;clear L19;obtain⟨_,e7,rfl⟩:=K1 6 (by decide);have L21:=L20.add e7;clear L20;have R2:Run _ _ S8 [] w8:=Yh R1 n1 [] (by simp) (by simp);exact sa L21 rfl λ_ L22=>sn (wp_ret ((Zt (Zn (rs:=Tryz.f161.results.toList) L22 rfl (.tmp rfl (.tmp rfl Res.nil)) (⟨_,_,rfl,R2.ext,(by exact int_eq2 (by rw[show h=0 by omega,Nat.zero_mul,Nat.zero_add];simp) (by rw[show h=0 by omega,Nat.zero_mul,Nat.zero_add];simp))⟩)))));refine so L8 rfl (bF t3 (λ_=>ZQ L8 rfl rfl) λ_ L23=>?_);have L24:=(L23.kp [0,1,2,6,7,27] rfl);clear L23;refine sn (Zi L24 rfl rfl (wp_skip ((Zb (wp_seq (Za (sm L24 rfl ?_)))))));intro _ L25;refine so L25 rfl (Zh L25 rfl ent_162 (Za1 R0.holds (x:=y) (hy)) λv_1 S9 _ x1 v1=>?_);have R3:=R0.call x1;obtain rfl:=v1;intro _ L26;refine so L26 rfl (Yn (z:=(((64 - Zs y:Nat):Int))) L26 rfl rfl Tryz.underlying194 Zae λ_ L27=>sa L27 rfl λ_ L28=>sn (wp_seq (Za (sm L28 rfl λ_ L29=>sm L29 rfl λ_ L30=>so L30 rfl (Zci (i:=y) (s:=((64 - Zs y))) L30 rfl rfl (by omega) λ_ L31=>?_)))));refine sa L31 rfl λ_ L32=>?_;have L33:=(L32.kp [0,1,2,6,7,8] rfl);clear L32;refine sn (wp_seq (Za (sm L33 rfl ?_)));intro _ L34;refine so L34 rfl (QU (i:=(y*2^((64 - Zs y))%18446744073709551616)) (s:=32) L34 rfl rfl (by omega) λ_ L35=>sa L35 rfl λ_ L36=>sn (wp_seq (Za (sm L36 rfl λ_ L37=>so L37 rfl (does_and32 (i:=(y*2^((64 - Zs y))%18446744073709551616)) L37 rfl rfl (by omega) λ_ L38=>sa L38 rfl λ_ L39=>?_)))));refine sn (wp_seq (Za (sm L39 rfl ?_)));intro _ L40;refine sm L40 rfl λ_ L41=>so L41 rfl (Zci (i:=h) (s:=((64 - Zs y))) L41 rfl rfl (by omega) λ_ L42=>sm L42 rfl λ_ L43=>sm L43 rfl λ_ L44=>so L44 rfl (ZN (z:=((64 - (64 - Zs y):Nat):Int)) L44 rfl rfl (u64_to (by omega) (by omega)) λ_ L45=>so L45 rfl (QU (i:=lo) (s:=(64 - (64 - Zs y))) L45 rfl rfl (by omega) λ_ L46=>so L46 rfl (Zgl (i:=(h*2^((64 - Zs y))%18446744073709551616)) (j:=(lo / 2^(64 - (64 - Zs y)))) (z:=(h*2^((64 - Zs y))%18446744073709551616) |||(lo / 2^(64 - (64 - Zs y)))) L46 rfl rfl (by omega) (by exact Nat.lt_of_le_of_lt (Nat.div_le_self _ _) hl) rfl λ_ L47=>?_))));refine sa L47 rfl λ_ L48=>?_;have L49:=(L48.kp [1,2,6,7,8,9,10,11] rfl);clear L48;refine sn (wp_seq (Za (sm L49 rfl ?_)));intro _ L50;refine sm L50 rfl λ_ L51=>so L51 rfl (Zci (i:=lo) (s:=((64 - Zs y))) L51 rfl rfl (by omega) λ_ L52=>sa L52 rfl λ_ L53=>sn (wp_seq (Za (sm L53 rfl λ_ L54=>so L54 rfl (QU (i:=(lo*2^((64 - Zs y))%18446744073709551616)) (s:=32) L54 rfl rfl (by omega) λ_ L55=>?_)))));refine sa L55 rfl λ_ L56=>?_;have L57:=(L56.kp [2,6,7,8,9,10,11,12,13] rfl);clear L56;refine sn ?_;refine Xf (λac ww=>∃(S':Sh) (Y:Nat) (s:Nat) (v:Nat) (wl:Nat) (u:Nat) (z1:Nat) (z0:Nat),S9.le S'/\ZL ac 135 [(6,(.int .u64 (0:Int))),(7,(.int .u64 (0:Int))),(2,(.int .u64 ((Y:Nat):Int))),(8,(.int .u64 ((s:Nat):Int))),(9,(.int .u64 ((v:Nat):Int))),(10,(.int .u64 ((wl:Nat):Int))),(11,(.int .u64 ((u:Nat):Int))),(13,(.int .u64 ((z1:Nat):Int))),(14,(.int .u64 ((z0:Nat):Int)))]/\Run S w S' [] ww/\(Norm h lo y s Y v wl u z1 z0)) ?_ ?_;rintro ac1 _ ⟨S10,Y,s,v,wl,u,z1,z0,l3,L58,R4,N⟩;have hs:=N.hs;have hY2:=N.hY2;have hvw:=N.hv;have hw:=N.hw;have hv2:=N.hv2;have hz_z1:=N.hz1;have hz_z0:=N.hz0;have hu2:=N.hu2;have hu_u:u<v*4294967296+wl:=by omega
 refine Xf (λac ww=>∃(S':Sh) (qa:Nat),S10.le S'/\ZL ac 135 [(6,(.int .u64 (0:Int))),(7,(.int .u64 (0:Int))),(2,(.int .u64 ((Y:Nat):Int))),(8,(.int .u64 ((s:Nat):Int))),(9,(.int .u64 ((v:Nat):Int))),(10,(.int .u64 ((wl:Nat):Int))),(11,(.int .u64 ((u:Nat):Int))),(13,(.int .u64 ((z1:Nat):Int))),(14,(.int .u64 ((z0:Nat):Int))),(15,(.int .u64 ((qa:Nat):Int)))]/\Run S w S' [] ww/\(qa=u / v)) ?_ ?_;rintro ac2 _ ⟨S11,qa,l4,L59,R5,hqa0⟩;obtain⟨hqa3,hqa4⟩:=mod_hint hqa0 (by omega);refine Xf (λac ww=>∃(S':Sh) (qa':Nat) (ra':Nat),S11.le S'/\ZL ac 135 [(6,(.int .u64 (0:Int))),(7,(.int .u64 (0:Int))),(2,(.int .u64 ((Y:Nat):Int))),(8,(.int .u64 ((s:Nat):Int))),(9,(.int .u64 ((v:Nat):Int))),(10,(.int .u64 ((wl:Nat):Int))),(11,(.int .u64 ((u:Nat):Int))),(13,(.int .u64 ((z1:Nat):Int))),(14,(.int .u64 ((z0:Nat):Int))),(15,(.int .u64 ((qa':Nat):Int))),(16,(.int .u64 ((ra':Nat):Int)))]/\Run S w S' [] ww/\(qa'*v+ra'=u)/\(ra'<v)) ?_ ?_;rintro ac3 _ ⟨S12,qa',ra',l5,L60,R6,hqa'1,hqa'2⟩;refine Xf (λac ww=>∃(S':Sh) (qb:Nat),S12.le S'/\ZL ac 135 [(6,(.int .u64 (0:Int))),(7,(.int .u64 (0:Int))),(2,(.int .u64 ((Y:Nat):Int))),(8,(.int .u64 ((s:Nat):Int))),(9,(.int .u64 ((v:Nat):Int))),(10,(.int .u64 ((wl:Nat):Int))),(11,(.int .u64 ((u:Nat):Int))),(13,(.int .u64 ((z1:Nat):Int))),(14,(.int .u64 ((z0:Nat):Int))),(15,(.int .u64 ((qb:Nat):Int)))]/\Run S w S' [] ww/\(qb*(v*4294967296+wl)<=u*4294967296+z1)/\(u*4294967296+z1<(qb+1)*(v*4294967296+wl))) ?_ ?_;rintro ac4 _ ⟨S13,qb,l6,L61,R7,hqb1,hqb2⟩;rw[<-hvw] at hqb1 hqb2;have hqb5:=dq_lt hqb1 hz_z1 (by omega);rw[Nat.add_mul,Nat.one_mul] at hqb2;refine Xf (λac ww=>∃(S':Sh) (ub:Nat),S13.le S'/\ZL ac 135 [(6,(.int .u64 (0:Int))),(7,(.int .u64 (0:Int))),(2,(.int .u64 ((Y:Nat):Int))),(8,(.int .u64 ((s:Nat):Int))),(9,(.int .u64 ((v:Nat):Int))),(10,(.int .u64 ((wl:Nat):Int))),(14,(.int .u64 ((z0:Nat):Int))),(15,(.int .u64 ((qb:Nat):Int))),(17,(.int .u64 ((ub:Nat):Int)))]/\Run S w S' [] ww/\(ub+qb*Y=u*4294967296+z1)) ?_ ?_;rintro ac5 _ ⟨S14,ub,l7,L62,R8,hub⟩;have hubY:ub<Y:=by omega
 have hu_ub:ub<v*4294967296+wl:=by omega
 refine Xf (λac ww=>∃(S':Sh) (qc:Nat),S14.le S'/\ZL ac 135 [(6,(.int .u64 (0:Int))),(7,(.int .u64 (0:Int))),(2,(.int .u64 ((Y:Nat):Int))),(8,(.int .u64 ((s:Nat):Int))),(9,(.int .u64 ((v:Nat):Int))),(10,(.int .u64 ((wl:Nat):Int))),(14,(.int .u64 ((z0:Nat):Int))),(15,(.int .u64 ((qb:Nat):Int))),(17,(.int .u64 ((ub:Nat):Int))),(18,(.int .u64 ((qc:Nat):Int)))]/\Run S w S' [] ww/\(qc=ub / v)) ?_ ?_;rintro ac6 _ ⟨S15,qc,l8,L63,R9,hqc0⟩;obtain⟨hqc3,hqc4⟩:=mod_hint hqc0 (by omega);refine Xf (λac ww=>∃(S':Sh) (qc':Nat) (rc':Nat),S15.le S'/\ZL ac 135 [(6,(.int .u64 (0:Int))),(7,(.int .u64 (0:Int))),(2,(.int .u64 ((Y:Nat):Int))),(8,(.int .u64 ((s:Nat):Int))),(9,(.int .u64 ((v:Nat):Int))),(10,(.int .u64 ((wl:Nat):Int))),(14,(.int .u64 ((z0:Nat):Int))),(15,(.int .u64 ((qb:Nat):Int))),(17,(.int .u64 ((ub:Nat):Int))),(18,(.int .u64 ((qc':Nat):Int))),(16,(.int .u64 ((rc':Nat):Int)))]/\Run S w S' [] ww/\(qc'*v+rc'=ub)/\(rc'<v)) ?_ ?_;rintro ac7 _ ⟨S16,qc',rc',l9,L64,R10,hqc'1,hqc'2⟩;refine Xf (λac ww=>∃(S':Sh) (qd:Nat),S16.le S'/\ZL ac 135 [(6,(.int .u64 (0:Int))),(7,(.int .u64 (0:Int))),(2,(.int .u64 ((Y:Nat):Int))),(8,(.int .u64 ((s:Nat):Int))),(14,(.int .u64 ((z0:Nat):Int))),(15,(.int .u64 ((qb:Nat):Int))),(17,(.int .u64 ((ub:Nat):Int))),(18,(.int .u64 ((qd:Nat):Int)))]/\Run S w S' [] ww/\(qd*(v*4294967296+wl)<=ub*4294967296+z0)/\(ub*4294967296+z0<(qd+1)*(v*4294967296+wl))) ?_ ?_;rintro ac8 _ ⟨_,qd,l10,L65,R11,hqd1,hqd2⟩;rw[<-hvw] at hqd1 hqd2;have hqd5:=dq_lt hqd1 hz_z0 (by omega);rw[Nat.add_mul,Nat.one_mul] at hqd2;refine wp_seq (Za (sm L65 rfl ?_));intro _ L66;refine so L66 rfl (Xz L66 rfl rfl Zae λ_ L67=>sm L67 rfl λ_ L68=>so L68 rfl (Zz L68 rfl rfl Zae λ_ L69=>sm L69 rfl λ_ L70=>so L70 rfl (Xz (z:=((ub*4294967296%18446744073709551616:Nat):Int)) L70 rfl rfl (Zf4 (x:=ub) (y:=4294967296)) λ_ L71=>sm L71 rfl λ_ L72=>so L72 rfl (Zz (z:=((((ub*4294967296%18446744073709551616)+z0)%18446744073709551616:Nat):Int)) L72 rfl rfl (u64_wrapA (x:=(ub*4294967296%18446744073709551616)) (y:=z0)) λ_ L73=>?_))));refine sm L73 rfl λ_ L74=>sm L74 rfl λ_ L75=>so L75 rfl (Xz (z:=((qd*Y%18446744073709551616:Nat):Int)) L75 rfl rfl (Zf4 (x:=qd) (y:=Y)) λ_ L76=>so L76 rfl (ZN (z:=((((((ub*4294967296%18446744073709551616)+z0)%18446744073709551616)+18446744073709551616 - (qd*Y%18446744073709551616))%18446744073709551616:Nat):Int)) L76 rfl rfl (u64_wrapS (x:=(((ub*4294967296%18446744073709551616)+z0)%18446744073709551616)) (y:=(qd*Y%18446744073709551616)) (by omega)) λ_ L77=>sm L77 rfl λ_ L78=>so L78 rfl (QU (i:=(((((ub*4294967296%18446744073709551616)+z0)%18446744073709551616)+18446744073709551616 - (qd*Y%18446744073709551616))%18446744073709551616)) (s:=s) L78 rfl rfl (by omega) λ_ L79=>sa L79 rfl λ_ L80=>?_)));refine sa L80 rfl λ_ L81=>sn (wp_ret ((Zn (rs:=Tryz.f161.results.toList) (L81.kp [6,7] rfl) rfl (.tmp rfl (.tmp rfl Res.nil)) ?_)));have hub0:=norm_u21 hqd1 hqd2 (by omega);obtain⟨hq_,hr_⟩:=div64_done N hub hub0 (by omega) (by omega);exact⟨_,_,rfl,R11.ext,(by rw[<-hq_,<-hr_];exact int_eq2 (by omega) rfl)⟩;skip;refine wp_block ?_;refine ZO (λm ac ww=>∃(S':Sh) (q2:Nat) (r2:Nat),S16.le S'/\ZL ac 135 [(6,(.int .u64 (0:Int))),(7,(.int .u64 (0:Int))),(2,(.int .u64 ((Y:Nat):Int))),(8,(.int .u64 ((s:Nat):Int))),(9,(.int .u64 ((v:Nat):Int))),(10,(.int .u64 ((wl:Nat):Int))),(14,(.int .u64 ((z0:Nat):Int))),(15,(.int .u64 ((qb:Nat):Int))),(17,(.int .u64 ((ub:Nat):Int))),(18,(.int .u64 ((q2:Nat):Int))),(16,(.int .u64 ((r2:Nat):Int)))]/\Run S w S' [] ww/\(q2*v+r2=ub)/\(r2<4294967296)/\(ub*4294967296+z0<(q2+1)*(v*4294967296+wl))/\(q2<=4294967297)/\m=q2) (qc') ⟨S16,qc',rc',Sh.le.refl _,(L64.kp [16,18,17,15,14,10,9,8,2,7,6] rfl),R10,(by exact hqc'1),(by omega),(by exact dq_init hqc'1 hqc'2 hz_z0),(by exact dq_small hqc'1 hu_ub hw hv2),rfl⟩ ?_;rintro m_1 ac9 _ ⟨S18,q2,r2,l11,L83,R12,hE,hEr,hEu,hEk,m1⟩;refine wp_seq (wp_seq ?_);have hqw:q2<4294967296->q2*wl<=4294967295*4294967295:=λh=>Nat.mul_le_mul (by omega) (by omega);refine Za (sm L83 rfl ?_);intro _ L84;by_cases t4:(4294967296:Int)<=(q2:Int);refine so L84 rfl (bT t4 (λ_=>YA L84 rfl rfl) λ_ L85=>sm L85 rfl λ_ L86=>sof L86 rfl λ_ L87=>sof L87 rfl λ_ L88=>sof L88 rfl λ_ L89=>sof L89 rfl λ_ L90=>sof L90 rfl λ_ L91=>?_);refine sof L91 rfl λ_ L92=>sof L92 rfl λ_ L93=>sof L93 rfl λ_ L94=>so L94 rfl (Ze L94 rfl rfl λ_ L95=>?_);have L96:=(L95.kp [6,7,2,8,9,10,14,15,17,18,16,102,103,104,113] rfl);clear L95;refine sn (Zm L96 rfl rfl (wp_skip ((Zb (wp_block (wp_seq ?_))))));have hor:4294967296<=q2\/r2*4294967296+z0<q2*wl:=by omega
 obtain⟨hE0,hE',hEu'⟩:=dq_step hE hz_z0 hu_ub hor;refine Za (sm L96 rfl ?_);intro _ L97;refine so L97 rfl (ZN L97 rfl rfl Zae λ_ L98=>sa L98 rfl λ_ L99=>sn (wp_seq (Za (sm L99 rfl λ_ L100=>sm L100 rfl λ_ L101=>so L101 rfl (Zz L101 rfl rfl Zae λ_ L102=>?_)))));refine sa L102 rfl λ_ L103=>sn (wp_seq (Za (sm L103 rfl λ_ L104=>?_)));by_cases t5:(4294967296:Int)<=((r2:Int)+(v:Int));exact so L104 rfl (bT t5 (λ_=>YA L104 rfl rfl) λ_ L105=>sn (Zm L105 rfl rfl (wp_exit ((in_miss rfl (Zq (Yx (Zb (⟨S18,(q2 - 1),l11,(((L105.ri 18 (((q2 - 1):Nat):Int) rfl (by first|omega|simp)).a L105).kp [18,17,15,14,8,2,7,6] rfl),R12,(by first|exact QF hE' hw (by omega) (by omega)|exact Zbn hE (by omega)),(by first|exact hEu'|exact hEu)⟩)))))))));exact so L104 rfl (bF t5 (λ_=>YA L104 rfl rfl) λ_ L107=>sn (Zi L107 rfl rfl (wp_skip ((Zy (Zb (⟨(q2 - 1),(by omega),S18,(q2 - 1),(r2+v),l11,(((L107.ri 18 (((q2 - 1):Nat):Int) rfl (by first|omega|simp)).a ((L107.ri 16 (((r2+v):Nat):Int) rfl (by first|omega|simp)).a L107)).kp [16,18,17,15,14,10,9,8,2,7,6] rfl),R12,(by exact hE'),(by omega),(by exact hEu'),(by omega),rfl⟩)))))));refine so L84 rfl (bF t4 (λ_=>YA L84 rfl rfl) λ_ L110=>sm L110 rfl λ_ L111=>son L111 rfl (Zf L111 rfl λ_ L112=>son L112 rfl (Zf L112 rfl λ_ L113=>son L113 rfl (Xz L113 rfl rfl Zae λ_ L114=>son L114 rfl (Zf L114 rfl λ_ L115=>son L115 rfl (Xz L115 rfl rfl Zae λ_ L116=>?_))))));refine son L116 rfl (Zf L116 rfl λ_ L117=>son L117 rfl (Zz L117 rfl rfl Zae λ_ L118=>?_));by_cases t6:(((4294967296:Int)*(r2:Int))+(z0:Int))<((q2:Int)*(wl:Int));refine son L118 rfl (bT t6 (λ_=>ZD L118 rfl rfl) λ_ L119=>so L119 rfl (Ze L119 rfl rfl λ_ L120=>sn (Zm L120 rfl rfl (wp_skip ((Zb (wp_block (wp_seq ?_))))))));have hor:4294967296<=q2\/r2*4294967296+z0<q2*wl:=by omega
 obtain⟨hE0,hE',hEu'⟩:=dq_step hE hz_z0 hu_ub hor;refine Za (sm L120 rfl ?_);intro _ L121;refine so L121 rfl (ZN L121 rfl rfl Zae λ_ L122=>sa L122 rfl λ_ L123=>sn (wp_seq (Za (sm L123 rfl λ_ L124=>sm L124 rfl λ_ L125=>so L125 rfl (Zz L125 rfl rfl Zae λ_ L126=>?_)))));refine sa L126 rfl λ_ L127=>sn (wp_seq (Za (sm L127 rfl λ_ L128=>?_)));by_cases t7:(4294967296:Int)<=((r2:Int)+(v:Int));exact so L128 rfl (bT t7 (λ_=>YA L128 rfl rfl) λ_ L129=>sn (Zm L129 rfl rfl (wp_exit ((in_miss rfl (Zq (Yx (Zb (⟨S18,(q2 - 1),l11,(((L129.ri 18 (((q2 - 1):Nat):Int) rfl (by first|omega|simp)).a L129).kp [18,17,15,14,8,2,7,6] rfl),R12,(by first|exact QF hE' hw (by omega) (by omega)|exact Zbn hE (by omega)),(by first|exact hEu'|exact hEu)⟩)))))))));exact so L128 rfl (bF t7 (λ_=>YA L128 rfl rfl) λ_ L131=>sn (Zi L131 rfl rfl (wp_skip ((Zy (Zb (⟨(q2 - 1),(by omega),S18,(q2 - 1),(r2+v),l11,(((L131.ri 18 (((q2 - 1):Nat):Int) rfl (by first|omega|simp)).a ((L131.ri 16 (((r2+v):Nat):Int) rfl (by first|omega|simp)).a L131)).kp [16,18,17,15,14,10,9,8,2,7,6] rfl),R12,(by exact hE'),(by omega),(by exact hEu'),(by omega),rfl⟩)))))));exact son L118 rfl (bF t6 (λ_=>ZD L118 rfl rfl) λ_ L134=>so L134 rfl (Ze L134 rfl rfl λ_ L135=>sn (Zi L135 rfl rfl (wp_exit ((Zq (Zq (Yx (Zb (⟨S18,q2,l11,(L135.kp [18,17,15,14,8,2,7,6] rfl),R12,(by first|exact QF hE' hw (by omega) (by omega)|exact Zbn hE (by omega)),(by first|exact hEu'|exact hEu)⟩))))))))));skip;refine Za (sm L63 rfl ?_);intro _ L136;refine sm L136 rfl λ_ L137=>sm L137 rfl λ_ L138=>so L138 rfl (Xz L138 rfl rfl Zae λ_ L139=>so L139 rfl (ZN L139 rfl rfl Zae λ_ L140=>sa L140 rfl λ_ L141=>?_));have L142:=(L141.kp [6,7,2,8,9,10,14,15,17,18,16] rfl);clear L141;exact sn (⟨S15,qc,(ub - (qc*v)),Sh.le.refl _,(((L142.ri 16 (((ub - (qc*v)):Nat):Int) rfl (by first|omega|simp)).a L142).kp [16,18,17,15,14,10,9,8,2,7,6] rfl),R9,(by omega),(by omega)⟩);skip;refine Za (sm L62 rfl ?_);intro _ L144;exact sm L144 rfl λ_ L145=>so L145 rfl (Xy (z:=((ub:Int) / (v:Int))) L145 rfl rfl (by omega) (Zak (k:=.u64) (by omega) (by omega) (show _<=(18446744073709551615:Int) by omega)) λ_ L146=>sa L146 rfl λ_ L147=>sn (⟨S14,(ub / v),Sh.le.refl _,(((L147.ri 18 (((ub / v):Nat):Int) rfl (by first|omega|simp)).a L147).kp [18,17,15,14,10,9,8,2,7,6] rfl),R8,(by rfl)⟩));skip;refine Za (sm L61 rfl ?_);intro _ L149;refine so L149 rfl (Xz (z:=((u*4294967296%18446744073709551616:Nat):Int)) L149 rfl rfl (Zf4 (x:=u) (y:=4294967296)) λ_ L150=>sm L150 rfl λ_ L151=>so L151 rfl (Zz (z:=((((u*4294967296%18446744073709551616)+z1)%18446744073709551616:Nat):Int)) L151 rfl rfl (u64_wrapA (x:=(u*4294967296%18446744073709551616)) (y:=z1)) λ_ L152=>sm L152 rfl λ_ L153=>sm L153 rfl λ_ L154=>so L154 rfl (Xz (z:=((qb*Y%18446744073709551616:Nat):Int)) L154 rfl rfl (Zf4 (x:=qb) (y:=Y)) λ_ L155=>so L155 rfl (ZN (z:=((((((u*4294967296%18446744073709551616)+z1)%18446744073709551616)+18446744073709551616 - (qb*Y%18446744073709551616))%18446744073709551616:Nat):Int)) L155 rfl rfl (u64_wrapS (x:=(((u*4294967296%18446744073709551616)+z1)%18446744073709551616)) (y:=(qb*Y%18446744073709551616)) (by omega)) λ_ L156=>?_))));refine sa L156 rfl λ_ L157=>?_;have L158:=(L157.kp [6,7,2,8,9,10,14,15,17] rfl);clear L157;exact sn (⟨S13,(((((u*4294967296%18446744073709551616)+z1)%18446744073709551616)+18446744073709551616 - (qb*Y%18446744073709551616))%18446744073709551616),Sh.le.refl _,(((L158.ri 17 (((((((u*4294967296%18446744073709551616)+z1)%18446744073709551616)+18446744073709551616 - (qb*Y%18446744073709551616))%18446744073709551616):Nat):Int) rfl (by first|omega|simp)).a L158).kp [17,15,14,10,9,8,2,7,6] rfl),R7,(by exact norm_u21 hqb1 hqb2 (by omega))⟩);skip;refine wp_block ?_;refine ZO (λm ac ww=>∃(S':Sh) (q1:Nat) (r1:Nat),S12.le S'/\ZL ac 135 [(6,(.int .u64 (0:Int))),(7,(.int .u64 (0:Int))),(2,(.int .u64 ((Y:Nat):Int))),(8,(.int .u64 ((s:Nat):Int))),(9,(.int .u64 ((v:Nat):Int))),(10,(.int .u64 ((wl:Nat):Int))),(11,(.int .u64 ((u:Nat):Int))),(13,(.int .u64 ((z1:Nat):Int))),(14,(.int .u64 ((z0:Nat):Int))),(15,(.int .u64 ((q1:Nat):Int))),(16,(.int .u64 ((r1:Nat):Int)))]/\Run S w S' [] ww/\(q1*v+r1=u)/\(r1<4294967296)/\(u*4294967296+z1<(q1+1)*(v*4294967296+wl))/\(q1<=4294967297)/\m=q1) (qa') ⟨S12,qa',ra',Sh.le.refl _,(L60.kp [16,15,14,13,11,10,9,8,2,7,6] rfl),R6,(by exact hqa'1),(by omega),(by exact dq_init hqa'1 hqa'2 hz_z1),(by exact dq_small hqa'1 hu_u hw hv2),rfl⟩ ?_;rintro m_2 ac10 _ ⟨S19,q1,r1,l12,L160,R13,hD,hDr,hDu,hDk,m2⟩;refine wp_seq (wp_seq ?_);have hqw:q1<4294967296->q1*wl<=4294967295*4294967295:=λh=>Nat.mul_le_mul (by omega) (by omega);refine Za (sm L160 rfl ?_);intro _ L161;by_cases t8:(4294967296:Int)<=(q1:Int);refine so L161 rfl (bT t8 (λ_=>YA L161 rfl rfl) λ_ L162=>sm L162 rfl λ_ L163=>sof L163 rfl λ_ L164=>sof L164 rfl λ_ L165=>sof L165 rfl λ_ L166=>sof L166 rfl λ_ L167=>sof L167 rfl λ_ L168=>?_);refine sof L168 rfl λ_ L169=>sof L169 rfl λ_ L170=>sof L170 rfl λ_ L171=>so L171 rfl (Ze L171 rfl rfl λ_ L172=>?_);have L173:=(L172.kp [6,7,2,8,9,10,11,13,14,15,16,67,68,69,78] rfl);clear L172;refine sn (Zm L173 rfl rfl (wp_skip ((Zb (wp_block (wp_seq ?_))))));have hor:4294967296<=q1\/r1*4294967296+z1<q1*wl:=by omega
 obtain⟨hD0,hD',hDu'⟩:=dq_step hD hz_z1 hu_u hor;refine Za (sm L173 rfl ?_);intro _ L174;refine so L174 rfl (ZN L174 rfl rfl Zae λ_ L175=>sa L175 rfl λ_ L176=>sn (wp_seq (Za (sm L176 rfl λ_ L177=>sm L177 rfl λ_ L178=>so L178 rfl (Zz L178 rfl rfl Zae λ_ L179=>?_)))));refine sa L179 rfl λ_ L180=>sn (wp_seq (Za (sm L180 rfl λ_ L181=>?_)));by_cases t9:(4294967296:Int)<=((r1:Int)+(v:Int));exact so L181 rfl (bT t9 (λ_=>YA L181 rfl rfl) λ_ L182=>sn (Zm L182 rfl rfl (wp_exit ((in_miss rfl (Zq (Yx (Zb (⟨S19,(q1 - 1),l12,(((L182.ri 15 (((q1 - 1):Nat):Int) rfl (by first|omega|simp)).a L182).kp [15,14,13,11,10,9,8,2,7,6] rfl),R13,(by first|exact QF hD' hw (by omega) (by omega)|exact Zbn hD (by omega)),(by first|exact hDu'|exact hDu)⟩)))))))));exact so L181 rfl (bF t9 (λ_=>YA L181 rfl rfl) λ_ L184=>sn (Zi L184 rfl rfl (wp_skip ((Zy (Zb (⟨(q1 - 1),(by omega),S19,(q1 - 1),(r1+v),l12,(((L184.ri 15 (((q1 - 1):Nat):Int) rfl (by first|omega|simp)).a ((L184.ri 16 (((r1+v):Nat):Int) rfl (by first|omega|simp)).a L184)).kp [16,15,14,13,11,10,9,8,2,7,6] rfl),R13,(by exact hD'),(by omega),(by exact hDu'),(by omega),rfl⟩)))))));refine so L161 rfl (bF t8 (λ_=>YA L161 rfl rfl) λ_ L187=>sm L187 rfl λ_ L188=>son L188 rfl (Zf L188 rfl λ_ L189=>son L189 rfl (Zf L189 rfl λ_ L190=>son L190 rfl (Xz L190 rfl rfl Zae λ_ L191=>son L191 rfl (Zf L191 rfl λ_ L192=>son L192 rfl (Xz L192 rfl rfl Zae λ_ L193=>?_))))));refine son L193 rfl (Zf L193 rfl λ_ L194=>son L194 rfl (Zz L194 rfl rfl Zae λ_ L195=>?_));by_cases t10:(((4294967296:Int)*(r1:Int))+(z1:Int))<((q1:Int)*(wl:Int));refine son L195 rfl (bT t10 (λ_=>ZD L195 rfl rfl) λ_ L196=>so L196 rfl (Ze L196 rfl rfl λ_ L197=>sn (Zm L197 rfl rfl (wp_skip ((Zb (wp_block (wp_seq ?_))))))));have hor:4294967296<=q1\/r1*4294967296+z1<q1*wl:=by omega
 obtain⟨hD0,hD',hDu'⟩:=dq_step hD hz_z1 hu_u hor;refine Za (sm L197 rfl ?_);intro _ L198;refine so L198 rfl (ZN L198 rfl rfl Zae λ_ L199=>sa L199 rfl λ_ L200=>sn (wp_seq (Za (sm L200 rfl λ_ L201=>sm L201 rfl λ_ L202=>so L202 rfl (Zz L202 rfl rfl Zae λ_ L203=>?_)))));refine sa L203 rfl λ_ L204=>sn (wp_seq (Za (sm L204 rfl λ_ L205=>?_)));by_cases t11:(4294967296:Int)<=((r1:Int)+(v:Int));exact so L205 rfl (bT t11 (λ_=>YA L205 rfl rfl) λ_ L206=>sn (Zm L206 rfl rfl (wp_exit ((in_miss rfl (Zq (Yx (Zb (⟨S19,(q1 - 1),l12,(((L206.ri 15 (((q1 - 1):Nat):Int) rfl (by first|omega|simp)).a L206).kp [15,14,13,11,10,9,8,2,7,6] rfl),R13,(by first|exact QF hD' hw (by omega) (by omega)|exact Zbn hD (by omega)),(by first|exact hDu'|exact hDu)⟩)))))))));exact so L205 rfl (bF t11 (λ_=>YA L205 rfl rfl) λ_ L208=>sn (Zi L208 rfl rfl (wp_skip ((Zy (Zb (⟨(q1 - 1),(by omega),S19,(q1 - 1),(r1+v),l12,(((L208.ri 15 (((q1 - 1):Nat):Int) rfl (by first|omega|simp)).a ((L208.ri 16 (((r1+v):Nat):Int) rfl (by first|omega|simp)).a L208)).kp [16,15,14,13,11,10,9,8,2,7,6] rfl),R13,(by exact hD'),(by omega),(by exact hDu'),(by omega),rfl⟩)))))));exact son L195 rfl (bF t10 (λ_=>ZD L195 rfl rfl) λ_ L211=>so L211 rfl (Ze L211 rfl rfl λ_ L212=>sn (Zi L212 rfl rfl (wp_exit ((Zq (Zq (Yx (Zb (⟨S19,q1,l12,(L212.kp [15,14,13,11,10,9,8,2,7,6] rfl),R13,(by first|exact QF hD' hw (by omega) (by omega)|exact Zbn hD (by omega)),(by first|exact hDu'|exact hDu)⟩))))))))));skip;refine Za (sm L59 rfl ?_);intro _ L213;refine sm L213 rfl λ_ L214=>sm L214 rfl λ_ L215=>so L215 rfl (Xz L215 rfl rfl Zae λ_ L216=>so L216 rfl (ZN L216 rfl rfl Zae λ_ L217=>sa L217 rfl λ_ L218=>?_));have L219:=(L218.kp [6,7,2,8,9,10,11,13,14,15,16] rfl);clear L218;exact sn (⟨S11,qa,(u - (qa*v)),Sh.le.refl _,(((L219.ri 16 (((u - (qa*v)):Nat):Int) rfl (by first|omega|simp)).a L219).kp [16,15,14,13,11,10,9,8,2,7,6] rfl),R5,(by omega),(by omega)⟩);skip;refine Za (sm L58 rfl ?_);intro _ L221;exact sm L221 rfl λ_ L222=>so L222 rfl (Xy (z:=((u:Int) / (v:Int))) L222 rfl rfl (by omega) (Zak (k:=.u64) (by omega) (by omega) (show _<=(18446744073709551615:Int) by omega)) λ_ L223=>sa L223 rfl λ_ L224=>sn (⟨S10,(u / v),Sh.le.refl _,(((L224.ri 15 (((u / v):Nat):Int) rfl (by first|omega|simp)).a L224).kp [15,14,13,11,10,9,8,2,7,6] rfl),R4,(by rfl)⟩));skip;refine Za (sm L57 rfl ?_);intro _ L226;refine so L226 rfl (does_and32 (i:=(lo*2^((64 - Zs y))%18446744073709551616)) L226 rfl rfl (by omega) λ_ L227=>sa L227 rfl λ_ L228=>sn ?_);have L229:=L228.ri 2 (((y*2^((64 - Zs y))%18446744073709551616):Nat):Int) rfl (by first|omega|simp);have L230:=L228.ri 8 ((((64 - Zs y)):Nat):Int) rfl (by first|omega|simp);have L231:=L228.ri 9 ((((y*2^((64 - Zs y))%18446744073709551616) / 2^32):Nat):Int) rfl (by first|omega|simp);have L232:=L228.ri 10 ((((y*2^((64 - Zs y))%18446744073709551616)%4294967296):Nat):Int) rfl (by first|omega|simp);exact⟨S9,(y*2^((64 - Zs y))%18446744073709551616),((64 - Zs y)),((y*2^((64 - Zs y))%18446744073709551616) / 2^32),((y*2^((64 - Zs y))%18446744073709551616)%4294967296),((h*2^((64 - Zs y))%18446744073709551616) |||(lo / 2^(64 - (64 - Zs y)))),((lo*2^((64 - Zs y))%18446744073709551616) / 2^32),((lo*2^((64 - Zs y))%18446744073709551616)%4294967296),Sh.le.refl _,((L229.a (L230.a (L231.a (L232.a ((L228.ri 11 ((((h*2^((64 - Zs y))%18446744073709551616) |||(lo / 2^(64 - (64 - Zs y)))):Nat):Int) rfl (by first|omega|simp)).a ((L228.ri 13 ((((lo*2^((64 - Zs y))%18446744073709551616) / 2^32):Nat):Int) rfl (by first|omega|simp)).a ((L228.ri 14 ((((lo*2^((64 - Zs y))%18446744073709551616)%4294967296):Nat):Int) rfl (by first|omega|simp)).a L228))))))).kp [14,13,11,10,9,8,2,7,6] rfl),R3,(by exact norm_start hy hh hl)⟩
end Go.Cham
namespace Go.Cham
open Go Go.RowKit Go.Proofs
set_option maxRecDepth 20000 in
theorem nat_guess {S:Sh} {w:World} (hS:ZU S w) {x:Nat} {y:Nat} {z:Nat} {vh:Nat} {wl:Nat} (hxv:x<=vh) (hv0:0<vh) (hv:vh<18446744073709551616) (hy:y<18446744073709551616) (hz:z<18446744073709551616) (hw:wl<18446744073709551616):Calls Tryz.prog 164 [(.int .u64 ((x:Nat):Int)),(.int .u64 ((y:Nat):Int)),(.int .u64 ((z:Nat):Int)),(.int .u64 ((vh:Nat):Int)),(.int .u64 ((wl:Nat):Int))].toArray w (Ret S w (λS v=>∃g,v= .int .u64 ((g:Nat):Int)/\g<18446744073709551616/\g*(vh*18446744073709551616+wl)<=(x*18446744073709551616+y)*18446744073709551616+z/\((x*18446744073709551616+y)*18446744073709551616+z<(g+1)*(vh*18446744073709551616+wl)\/g=18446744073709551615))):=by
 refine ZB (n:=67) Tryz.func164 rfl rfl ?_;intro ac0 L0;replace L0:ZL ac0 67 [(0,(.int .u64 (x:Int))),(1,(.int .u64 (y:Int))),(2,(.int .u64 (z:Int))),(3,(.int .u64 (vh:Int))),(4,(.int .u64 (wl:Int)))]:=L0;have R0:Run S w S [] w:=.start hS;refine wp_seq (Za (sa L0 rfl ?_));intro _ L1;refine sn (wp_seq (Za (sa L1 rfl ?_)));intro _ L2;refine sa L2 rfl λ_ L3=>sn (wp_seq (wp_seq (Za (sm L3 rfl λ_ L4=>sm L4 rfl λ_ L5=>?_))));by_cases t1:(x:Int)<(vh:Int);refine so L5 rfl (bT t1 (λ_=>Zu L5 rfl rfl) λ_ L6=>sn (Zm L6 rfl rfl (Za (sm L6 rfl λ_ L7=>sm L7 rfl λ_ L8=>sm L8 rfl λ_ L9=>so L9 rfl (Zh L9 rfl ent_161 (Zd6 R0.holds (h:=x) (lo:=y) (y:=vh) (by omega) (hy) (by omega)) λv_1 S1 _ x1 v1=>?_)))));have R1:=R0.call x1;obtain rfl:=v1;intro _ L10;refine sm L10 rfl λ_ L11=>so L11 rfl (Zk L11 rfl rfl λ_ L12=>so L12 rfl (Zk L12 rfl rfl λ_ L13=>sa L13 rfl λ_ L14=>sa L14 rfl λ_ L15=>?_));have L16:=(L15.kp [2,3,4,10,11,12] rfl);clear L15;refine sn (wp_block ?_);refine ZO (λm ac ww=>∃(S':Sh) (d:Nat) (r:Nat),S1.le S'/\ZL ac 67 [(2,(.int .u64 ((z:Nat):Int))),(3,(.int .u64 ((vh:Nat):Int))),(4,(.int .u64 ((wl:Nat):Int))),(10,(.int .u64 (0:Int))),(11,(.int .u64 ((d:Nat):Int))),(12,(.int .u64 ((r:Nat):Int)))]/\Run S w S' [] ww/\(d*vh+r=x*18446744073709551616+y)/\(r<18446744073709551616)/\(d<18446744073709551616)/\((x*18446744073709551616+y)*18446744073709551616+z<(d+1)*(vh*18446744073709551616+wl)\/d=18446744073709551615)/\m=d) (((x*18446744073709551616+y) / vh)) ⟨S1,((x*18446744073709551616+y) / vh),((x*18446744073709551616+y)%vh),Sh.le.refl _,(((L16.ri 11 ((((x*18446744073709551616+y) / vh):Nat):Int) rfl).a ((L16.ri 12 ((((x*18446744073709551616+y)%vh):Nat):Int) rfl).a L16)).kp [12,11,10,4,3,2] rfl),R1,(by first|exact Nat.div_add_mod' _ _|omega),(by first|exact Nat.lt_trans (Nat.mod_lt _ (by omega)) hv|omega),(by first|exact Nat.div_lt_of_lt_mul (by omega)|omega),(by first|exact Or.inr rfl|exact Or.inl (dq_init (Nat.div_add_mod' _ _) (Nat.mod_lt _ (by omega)) hz)),rfl⟩ ?_;rintro m_1 ac1 _ ⟨_,d,r,l2,L17,R2,hD,hr,hdl,hu,m1⟩;refine wp_block (wp_seq (Za (sm L17 rfl ?_)));intro _ L20;refine sm L20 rfl λ_ L21=>so L21 rfl (Zh L21 rfl ent_139 (Zac R2.holds (x:=d) (y:=wl) (hdl) (by omega)) λv_2 S3 _ x2 v2=>?_);have R3:=R2.call x2;have l3:=x2.le;obtain rfl:=v2;intro _ L22;refine sm L22 rfl λ_ L23=>so L23 rfl (Zk L23 rfl rfl λ_ L24=>so L24 rfl (Zk L24 rfl rfl λ_ L25=>sa L25 rfl λ_ L26=>sa L26 rfl λ_ L27=>sn (wp_seq (wp_seq ?_))));refine Za (sm L27 rfl ?_);intro _ L28;refine sm L28 rfl λ_ L29=>?_;by_cases t2:((d*wl / 18446744073709551616:Nat):Int)<(r:Int);refine so L29 rfl (bT t2 (λ_=>Zu L29 rfl rfl) λ_ L30=>sm L30 rfl λ_ L31=>sof L31 rfl λ_ L32=>sof L32 rfl λ_ L33=>sof L33 rfl λ_ L34=>sof L34 rfl λ_ L35=>ZX L35 rfl rfl rfl rfl rfl λ_ L36=>?_);refine ZX L36 rfl rfl rfl rfl rfl ?_;intro _ L37;refine ZX L37 rfl rfl rfl rfl rfl ?_;intro _ L38;refine sof L38 rfl λ_ L39=>so L39 rfl (Ze L39 rfl rfl λ_ L40=>?_);have L41:=(L40.kp [2,3,4,10,11,12,37,38,39,36,40,41,14,15,42,43,44,45,54] rfl);clear L40;refine sn (Zm L41 rfl rfl (wp_seq (Za (sm L41 rfl ?_))));intro _ L42;exact sa L42 rfl λ_ L43=>sn (wp_ret ((Zt (YC (Zt (YC (Zn (rs:=Tryz.f164.results.toList) L43 rfl (.tmp rfl Res.nil) (⟨_,_,rfl,R3.ext,⟨d,rfl,(by omega),(by exact Zbn hD (by omega)),(by exact hu)⟩⟩))))))));refine so L29 rfl (bF t2 (λ_=>Zu L29 rfl rfl) λ_ L44=>sm L44 rfl λ_ L45=>son L45 rfl (Zf L45 rfl λ_ L46=>son L46 rfl (Zf L46 rfl λ_ L47=>?_)));by_cases t3:((d*wl / 18446744073709551616:Nat):Int)=(r:Int);refine son L47 rfl (bT t3 (λ_=>ZQ L47 rfl rfl) λ_ L48=>son L48 rfl (Zf L48 rfl λ_ L49=>son L49 rfl (Zf L49 rfl λ_ L50=>son L50 rfl (Zf L50 rfl λ_ L51=>?_))));by_cases t4:((d*wl%18446744073709551616:Nat):Int)<=(z:Int);refine son L51 rfl (bT t4 (λ_=>QG L51 rfl rfl) λ_ L52=>son L52 rfl (Ze L52 rfl rfl λ_ L53=>so L53 rfl (Ze L53 rfl rfl λ_ L54=>sn (Zm L54 rfl rfl (wp_seq (Za (sm L54 rfl λ_ L55=>sa L55 rfl λ_ L56=>?_)))))));exact sn (wp_ret ((Zt (YC (Zt (YC (Zn (rs:=Tryz.f164.results.toList) L56 rfl (.tmp rfl Res.nil) (⟨_,_,rfl,R3.ext,⟨d,rfl,(by omega),(by exact Zbn hD (by omega)),(by exact hu)⟩⟩))))))));refine son L51 rfl (bF t4 (λ_=>QG L51 rfl rfl) λ_ L57=>son L57 rfl (Ze L57 rfl rfl λ_ L58=>so L58 rfl (Ze L58 rfl rfl λ_ L59=>sn (Zi L59 rfl rfl (wp_skip ((Zb (wp_seq ?_))))))));have hor:r*18446744073709551616+z<d*wl:=by omega
 obtain⟨hd0,hD',hu'⟩:=dq_step2 hD hor;refine Za (sm L59 rfl ?_);intro _ L60;refine so L60 rfl (ZN L60 rfl rfl Zae λ_ L61=>sa L61 rfl λ_ L62=>sn (wp_seq (Za (sa L62 rfl λ_ L63=>sn (wp_seq (Za (sm L63 rfl λ_ L64=>?_)))))));refine sm L64 rfl λ_ L65=>so L65 rfl (YU (x:=r) (y:=vh) (c:=0) L65 rfl (by omega) λ_ L66=>sm L66 rfl λ_ L67=>so L67 rfl (Zk L67 rfl rfl λ_ L68=>so L68 rfl (Zk L68 rfl rfl λ_ L69=>sa L69 rfl λ_ L70=>sa L70 rfl λ_ L71=>?_)));refine sn (wp_seq (Za (sm L71 rfl ?_)));intro _ L72;by_cases t5:¬(((r+vh+0) / 18446744073709551616:Nat):Int)=(0:Int);exact so L72 rfl (bT t5 (λ_=>Ym L72 rfl rfl) λ_ L73=>sn (Zm L73 rfl rfl (wp_seq (Za (sm L73 rfl λ_ L74=>sa L74 rfl λ_ L75=>sn (wp_ret ((YC (Zt (YC (Zn (rs:=Tryz.f164.results.toList) L75 rfl (.tmp rfl Res.nil) (⟨_,_,rfl,R3.ext,⟨(d - 1),(by exact Zcf (by omega)),(by omega),(by exact QF hD' hw (by omega) (by omega)),(by exact Or.inl hu')⟩⟩))))))))))));exact so L72 rfl (bF t5 (λ_=>Ym L72 rfl rfl) λ_ L76=>sn (Zi L76 rfl rfl (wp_skip ((Zy (Zb (⟨(d - 1),(by omega),S3,(d - 1),((r+vh+0)%18446744073709551616),(l2.trans l3),(((L76.ri 11 (((d - 1):Nat):Int) rfl).a ((L76.ri 12 ((((r+vh+0)%18446744073709551616):Nat):Int) rfl).a L76)).kp [12,11,10,4,3,2] rfl),R3,(by rw[show(r+vh+0)%18446744073709551616=r+vh by omega];exact hD'),(by omega),(by omega),(by exact Or.inl hu'),rfl⟩)))))));refine son L47 rfl (bF t3 (λ_=>ZQ L47 rfl rfl) λ_ L79=>son L79 rfl (Zf L79 rfl λ_ L80=>sof L80 rfl λ_ L81=>sof L81 rfl λ_ L82=>sof L82 rfl λ_ L83=>son L83 rfl (Ze L83 rfl rfl λ_ L84=>so L84 rfl (Ze L84 rfl rfl λ_ L85=>?_))));refine sn (Zi L85 rfl rfl (wp_skip ((Zb (wp_seq ?_)))));have hor:r*18446744073709551616+z<d*wl:=by omega
 obtain⟨hd0,hD',hu'⟩:=dq_step2 hD hor;refine Za (sm L85 rfl ?_);intro _ L86;refine so L86 rfl (ZN L86 rfl rfl Zae λ_ L87=>sa L87 rfl λ_ L88=>sn (wp_seq (Za (sa L88 rfl λ_ L89=>sn (wp_seq (Za (sm L89 rfl λ_ L90=>?_)))))));refine sm L90 rfl λ_ L91=>so L91 rfl (YU (x:=r) (y:=vh) (c:=0) L91 rfl (by omega) λ_ L92=>sm L92 rfl λ_ L93=>so L93 rfl (Zk L93 rfl rfl λ_ L94=>so L94 rfl (Zk L94 rfl rfl λ_ L95=>sa L95 rfl λ_ L96=>sa L96 rfl λ_ L97=>?_)));refine sn (wp_seq (Za (sm L97 rfl ?_)));intro _ L98;by_cases t6:¬(((r+vh+0) / 18446744073709551616:Nat):Int)=(0:Int);exact so L98 rfl (bT t6 (λ_=>Ym L98 rfl rfl) λ_ L99=>sn (Zm L99 rfl rfl (wp_seq (Za (sm L99 rfl λ_ L100=>sa L100 rfl λ_ L101=>sn (wp_ret ((YC (Zt (YC (Zn (rs:=Tryz.f164.results.toList) L101 rfl (.tmp rfl Res.nil) (⟨_,_,rfl,R3.ext,⟨(d - 1),(by exact Zcf (by omega)),(by omega),(by exact QF hD' hw (by omega) (by omega)),(by exact Or.inl hu')⟩⟩))))))))))));exact so L98 rfl (bF t6 (λ_=>Ym L98 rfl rfl) λ_ L102=>sn (Zi L102 rfl rfl (wp_skip ((Zy (Zb (⟨(d - 1),(by omega),S3,(d - 1),((r+vh+0)%18446744073709551616),(l2.trans l3),(((L102.ri 11 (((d - 1):Nat):Int) rfl).a ((L102.ri 12 ((((r+vh+0)%18446744073709551616):Nat):Int) rfl).a L102)).kp [12,11,10,4,3,2] rfl),R3,(by rw[show(r+vh+0)%18446744073709551616=r+vh by omega];exact hD'),(by omega),(by omega),(by exact Or.inl hu'),rfl⟩)))))));refine so L5 rfl (bF t1 (λ_=>Zu L5 rfl rfl) λ_ L105=>sn (Zi L105 rfl rfl (wp_seq (Za (sa L105 rfl λ_ L106=>sn (wp_seq (Za (sm L106 rfl λ_ L107=>?_))))))));refine sm L107 rfl λ_ L108=>so L108 rfl (YU (x:=y) (y:=vh) (c:=0) L108 rfl (by omega) λ_ L109=>sm L109 rfl λ_ L110=>so L110 rfl (Zk L110 rfl rfl λ_ L111=>so L111 rfl (Zk L111 rfl rfl λ_ L112=>sa L112 rfl λ_ L113=>sa L113 rfl λ_ L114=>?_)));have L115:=(L114.kp [2,3,4,10,11,12,13] rfl);clear L114;refine sn (wp_seq (Za (sm L115 rfl ?_)));intro _ L116;by_cases t7:¬(((y+vh+0) / 18446744073709551616:Nat):Int)=(0:Int);exact so L116 rfl (bT t7 (λ_=>Ym L116 rfl rfl) λ_ L117=>sn (Zm L117 rfl rfl (wp_seq (Za (sm L117 rfl λ_ L118=>sa L118 rfl λ_ L119=>sn (wp_ret ((Zt (Zn (rs:=Tryz.f164.results.toList) L119 rfl (.tmp rfl Res.nil) (⟨_,_,rfl,R0.ext,⟨18446744073709551615,rfl,(by omega),(by exact QF (K:=18446744073709551616) (r:=y+vh) (by omega) (by omega) (by omega) (by omega)),(by exact Or.inr rfl)⟩⟩))))))))));refine so L116 rfl (bF t7 (λ_=>Ym L116 rfl rfl) λ_ L120=>sn (Zi L120 rfl rfl (wp_skip ((Zb (wp_block ?_))))));refine ZO (λm ac ww=>∃(S':Sh) (d:Nat) (r:Nat),S.le S'/\ZL ac 67 [(2,(.int .u64 ((z:Nat):Int))),(3,(.int .u64 ((vh:Nat):Int))),(4,(.int .u64 ((wl:Nat):Int))),(10,(.int .u64 (0:Int))),(11,(.int .u64 ((d:Nat):Int))),(12,(.int .u64 ((r:Nat):Int)))]/\Run S w S' [] ww/\(d*vh+r=x*18446744073709551616+y)/\(r<18446744073709551616)/\(d<18446744073709551616)/\((x*18446744073709551616+y)*18446744073709551616+z<(d+1)*(vh*18446744073709551616+wl)\/d=18446744073709551615)/\m=d) (18446744073709551615) ⟨S,18446744073709551615,((y+vh+0)%18446744073709551616),Sh.le.refl _,(((L120.ri 11 ((18446744073709551615:Nat):Int) rfl).a ((L120.ri 12 ((((y+vh+0)%18446744073709551616):Nat):Int) rfl).a L120)).kp [12,11,10,4,3,2] rfl),R0,(by first|exact Nat.div_add_mod' _ _|omega),(by first|exact Nat.lt_trans (Nat.mod_lt _ (by omega)) hv|omega),(by first|exact Nat.div_lt_of_lt_mul (by omega)|omega),(by first|exact Or.inr rfl|exact Or.inl (dq_init (Nat.div_add_mod' _ _) (Nat.mod_lt _ (by omega)) hz)),rfl⟩ ?_;rintro m_2 ac2 _ ⟨_,d,r,l4,L121,R4,hD,hr,hdl,hu,m2⟩;refine wp_block (wp_seq (Za (sm L121 rfl ?_)));intro _ L124;refine sm L124 rfl λ_ L125=>so L125 rfl (Zh L125 rfl ent_139 (Zac R4.holds (x:=d) (y:=wl) (hdl) (by omega)) λv_3 S5 _ x3 v3=>?_);have R5:=R4.call x3;have l5:=x3.le;obtain rfl:=v3;intro _ L126;refine sm L126 rfl λ_ L127=>so L127 rfl (Zk L127 rfl rfl λ_ L128=>so L128 rfl (Zk L128 rfl rfl λ_ L129=>sa L129 rfl λ_ L130=>sa L130 rfl λ_ L131=>sn (wp_seq (wp_seq ?_))));refine Za (sm L131 rfl ?_);intro _ L132;refine sm L132 rfl λ_ L133=>?_;by_cases t8:((d*wl / 18446744073709551616:Nat):Int)<(r:Int);refine so L133 rfl (bT t8 (λ_=>Zu L133 rfl rfl) λ_ L134=>sm L134 rfl λ_ L135=>sof L135 rfl λ_ L136=>sof L136 rfl λ_ L137=>sof L137 rfl λ_ L138=>sof L138 rfl λ_ L139=>ZX L139 rfl rfl rfl rfl rfl λ_ L140=>?_);refine ZX L140 rfl rfl rfl rfl rfl ?_;intro _ L141;refine ZX L141 rfl rfl rfl rfl rfl ?_;intro _ L142;refine sof L142 rfl λ_ L143=>so L143 rfl (Ze L143 rfl rfl λ_ L144=>?_);have L145:=(L144.kp [2,3,4,10,11,12,37,38,39,36,40,41,14,15,42,43,44,45,54] rfl);clear L144;refine sn (Zm L145 rfl rfl (wp_seq (Za (sm L145 rfl ?_))));intro _ L146;exact sa L146 rfl λ_ L147=>sn (wp_ret ((Zt (YC (Zt (YC (Zn (rs:=Tryz.f164.results.toList) L147 rfl (.tmp rfl Res.nil) (⟨_,_,rfl,R5.ext,⟨d,rfl,(by omega),(by exact Zbn hD (by omega)),(by exact hu)⟩⟩))))))));refine so L133 rfl (bF t8 (λ_=>Zu L133 rfl rfl) λ_ L148=>sm L148 rfl λ_ L149=>son L149 rfl (Zf L149 rfl λ_ L150=>son L150 rfl (Zf L150 rfl λ_ L151=>?_)));by_cases t9:((d*wl / 18446744073709551616:Nat):Int)=(r:Int);refine son L151 rfl (bT t9 (λ_=>ZQ L151 rfl rfl) λ_ L152=>son L152 rfl (Zf L152 rfl λ_ L153=>son L153 rfl (Zf L153 rfl λ_ L154=>son L154 rfl (Zf L154 rfl λ_ L155=>?_))));by_cases t10:((d*wl%18446744073709551616:Nat):Int)<=(z:Int);refine son L155 rfl (bT t10 (λ_=>QG L155 rfl rfl) λ_ L156=>son L156 rfl (Ze L156 rfl rfl λ_ L157=>so L157 rfl (Ze L157 rfl rfl λ_ L158=>sn (Zm L158 rfl rfl (wp_seq (Za (sm L158 rfl λ_ L159=>sa L159 rfl λ_ L160=>?_)))))));exact sn (wp_ret ((Zt (YC (Zt (YC (Zn (rs:=Tryz.f164.results.toList) L160 rfl (.tmp rfl Res.nil) (⟨_,_,rfl,R5.ext,⟨d,rfl,(by omega),(by exact Zbn hD (by omega)),(by exact hu)⟩⟩))))))));refine son L155 rfl (bF t10 (λ_=>QG L155 rfl rfl) λ_ L161=>son L161 rfl (Ze L161 rfl rfl λ_ L162=>so L162 rfl (Ze L162 rfl rfl λ_ L163=>sn (Zi L163 rfl rfl (wp_skip ((Zb (wp_seq ?_))))))));have hor:r*18446744073709551616+z<d*wl:=by omega
 obtain⟨hd0,hD',hu'⟩:=dq_step2 hD hor;refine Za (sm L163 rfl ?_);intro _ L164;refine so L164 rfl (ZN L164 rfl rfl Zae λ_ L165=>sa L165 rfl λ_ L166=>sn (wp_seq (Za (sa L166 rfl λ_ L167=>sn (wp_seq (Za (sm L167 rfl λ_ L168=>?_)))))));refine sm L168 rfl λ_ L169=>so L169 rfl (YU (x:=r) (y:=vh) (c:=0) L169 rfl (by omega) λ_ L170=>sm L170 rfl λ_ L171=>so L171 rfl (Zk L171 rfl rfl λ_ L172=>so L172 rfl (Zk L172 rfl rfl λ_ L173=>sa L173 rfl λ_ L174=>sa L174 rfl λ_ L175=>?_)));refine sn (wp_seq (Za (sm L175 rfl ?_)));intro _ L176;by_cases t11:¬(((r+vh+0) / 18446744073709551616:Nat):Int)=(0:Int);exact so L176 rfl (bT t11 (λ_=>Ym L176 rfl rfl) λ_ L177=>sn (Zm L177 rfl rfl (wp_seq (Za (sm L177 rfl λ_ L178=>sa L178 rfl λ_ L179=>sn (wp_ret ((YC (Zt (YC (Zn (rs:=Tryz.f164.results.toList) L179 rfl (.tmp rfl Res.nil) (⟨_,_,rfl,R5.ext,⟨(d - 1),(by exact Zcf (by omega)),(by omega),(by exact QF hD' hw (by omega) (by omega)),(by exact Or.inl hu')⟩⟩))))))))))));exact so L176 rfl (bF t11 (λ_=>Ym L176 rfl rfl) λ_ L180=>sn (Zi L180 rfl rfl (wp_skip ((Zy (Zb (⟨(d - 1),(by omega),S5,(d - 1),((r+vh+0)%18446744073709551616),(l4.trans l5),(((L180.ri 11 (((d - 1):Nat):Int) rfl).a ((L180.ri 12 ((((r+vh+0)%18446744073709551616):Nat):Int) rfl).a L180)).kp [12,11,10,4,3,2] rfl),R5,(by rw[show(r+vh+0)%18446744073709551616=r+vh by omega];exact hD'),(by omega),(by omega),(by exact Or.inl hu'),rfl⟩)))))));refine son L151 rfl (bF t9 (λ_=>ZQ L151 rfl rfl) λ_ L183=>son L183 rfl (Zf L183 rfl λ_ L184=>sof L184 rfl λ_ L185=>sof L185 rfl λ_ L186=>sof L186 rfl λ_ L187=>son L187 rfl (Ze L187 rfl rfl λ_ L188=>so L188 rfl (Ze L188 rfl rfl λ_ L189=>?_))));refine sn (Zi L189 rfl rfl (wp_skip ((Zb (wp_seq ?_)))));have hor:r*18446744073709551616+z<d*wl:=by omega
 obtain⟨hd0,hD',hu'⟩:=dq_step2 hD hor;refine Za (sm L189 rfl ?_);intro _ L190;refine so L190 rfl (ZN L190 rfl rfl Zae λ_ L191=>sa L191 rfl λ_ L192=>sn (wp_seq (Za (sa L192 rfl λ_ L193=>sn (wp_seq (Za (sm L193 rfl λ_ L194=>?_)))))));refine sm L194 rfl λ_ L195=>so L195 rfl (YU (x:=r) (y:=vh) (c:=0) L195 rfl (by omega) λ_ L196=>sm L196 rfl λ_ L197=>so L197 rfl (Zk L197 rfl rfl λ_ L198=>so L198 rfl (Zk L198 rfl rfl λ_ L199=>sa L199 rfl λ_ L200=>sa L200 rfl λ_ L201=>?_)));refine sn (wp_seq (Za (sm L201 rfl ?_)));intro _ L202;by_cases t12:¬(((r+vh+0) / 18446744073709551616:Nat):Int)=(0:Int);exact so L202 rfl (bT t12 (λ_=>Ym L202 rfl rfl) λ_ L203=>sn (Zm L203 rfl rfl (wp_seq (Za (sm L203 rfl λ_ L204=>sa L204 rfl λ_ L205=>sn (wp_ret ((YC (Zt (YC (Zn (rs:=Tryz.f164.results.toList) L205 rfl (.tmp rfl Res.nil) (⟨_,_,rfl,R5.ext,⟨(d - 1),(by exact Zcf (by omega)),(by omega),(by exact QF hD' hw (by omega) (by omega)),(by exact Or.inl hu')⟩⟩))))))))))));exact so L202 rfl (bF t12 (λ_=>Ym L202 rfl rfl) λ_ L206=>sn (Zi L206 rfl rfl (wp_skip ((Zy (Zb (⟨(d - 1),(by omega),S5,(d - 1),((r+vh+0)%18446744073709551616),(l4.trans l5),(((L206.ri 11 (((d - 1):Nat):Int) rfl).a ((L206.ri 12 ((((r+vh+0)%18446744073709551616):Nat):Int) rfl).a L206)).kp [12,11,10,4,3,2] rfl),R5,(by rw[show(r+vh+0)%18446744073709551616=r+vh by omega];exact hD'),(by omega),(by omega),(by exact Or.inl hu'),rfl⟩)))))))
set_option maxRecDepth 20000 in
theorem nat_up {S:Sh} {w:World} (hS:ZU S w) {p_d:Option Addr} {len_d cap_d:Nat} {d:List Nat} (hd_d:Dg S p_d len_d cap_d d) {n:Nat} {sz:Nat} (hn:n<64) (hm:len_d<=sz) (hm2:sz<=1099511627776):Calls Tryz.prog 163 [(.slice p_d len_d cap_d),(.int .i64 ((n:Nat):Int)),(.int .i64 ((sz:Nat):Int))].toArray w (RetN S w (λS v H=>∃(b:Nat) (ds:List Nat),H=[(b,tU64,Yw ds++[])]/\v= .slice (some ⟨b,0,none⟩) (sz) (sz)/\ds.length=sz/\(∀e∈ds,e<18446744073709551616)/\val W64 ds+W64^sz*cr d n sz=val W64 d*2^n)):=by
 refine ZB (n:=57) Tryz.func163 rfl rfl ?_;intro ac0 L0;replace L0:ZL ac0 57 [(0,(.slice p_d len_d cap_d)),(1,(.int .i64 (n:Int))),(2,(.int .i64 (sz:Int)))]:=L0;have R0:Run S w S [] w:=.start hS;have hl_d:=hd_d.hlen;have hc_d:=hd_d.hcap;have hg_d:=hd_d.hbig;refine wp_seq (Za (sa L0 rfl ?_));intro _ L1;refine sn (wp_seq (Za (sm L1 rfl ?_)));intro _ L2;refine so L2 rfl (Xm (m:=sz) (c:=sz) L2 (by first|rfl|(simp[ev,Zal];omega)) (by first|rfl|(simp[ev,Zal];omega)) Tryz.underlying30 QP rfl ZE Za4 (by omega) (by omega) (by omega) R0 λb1 _ R1 _ L3=>?_);rw[Zeh] at R1;refine sa L3 rfl λ_ L4=>sn (wp_seq (wp_seq (Za (sm L4 rfl λ_ L5=>so L5 rfl (ZC L5 rfl Tryz.underlying30 λ_ L6=>sm L6 rfl λ_ L7=>sn ?_)))));refine wp_block ?_;refine ZO (λm ac ww=>∃(S':Sh) (us:List Nat) (i:Nat),S.le S'/\ZL ac 57 [(0,(.slice p_d len_d cap_d)),(1,(.int .i64 ((n:Nat):Int))),(6,(.slice none 0 0)),(7,(.slice (some ⟨b1,0,none⟩) (sz) (sz))),(12,(.int .i64 (((sz):Nat):Int))),(13,(.int .i64 ((i:Nat):Int)))]/\Run S w S' [(b1,29,(Yw us++[]))] ww/\(Zgx d us n sz i)/\m=sz - i) (sz - 0) ⟨S,(List.replicate (sz) 0),0,Sh.le.refl _,(((L7.ri 13 ((0:Nat):Int) rfl).a L7).kp [13,12,7,6,1,0] rfl),R1,(by exact Zgx.start),rfl⟩ ?_;rintro m_1 ac1 _ ⟨S1,us,i,l1,L8,R2,hI,m1⟩;refine wp_seq (Za ?_);by_cases t1:(i:Int)<(((sz):Nat):Int);refine so L8 rfl (bT t1 (λ_=>Zu L8 rfl rfl) λ_ L10=>sn (wp_seq (Zm L10 rfl rfl (wp_skip ((Zb (wp_seq (wp_block (wp_seq ?_)))))))));have hIl:=hI.len;have hIe:=hI.le;refine Za (sm L10 rfl ?_);intro _ L11;refine sa L11 rfl λ_ L12=>sn (wp_seq (wp_seq (Za (sm L12 rfl λ_ L13=>sm L13 rfl λ_ L14=>so L14 rfl (ZC L14 rfl Tryz.underlying30 λ_ L15=>?_)))));by_cases t2:(i:Int)<(len_d:Int);refine so L15 rfl (bT t2 (λ_=>Zu L15 rfl rfl) λ_ L16=>sn (Zm L16 rfl rfl (Za (sm L16 rfl λ_ L17=>sm L17 rfl λ_ L18=>sm L18 rfl λ_ L19=>sm L19 rfl λ_ L20=>?_))));obtain⟨b2,rest_1,rfl,r1⟩:=(hd_d.up l1).row (by omega);refine so L20 rfl (Zp (i) L20 rfl rfl Tryz.underlying30 ZE (by omega) (by omega) λ_ L21=>so L21 rfl (Zj (v:=(.int .u64 ((d.getD (i) 0:Nat):Int))) L21 rfl Yu (R2.row r1) (by rw[Nat.zero_add];exact Yd (by omega)) λ_ L22=>sm L22 rfl λ_ L23=>so L23 rfl (Zci (i:=(d.getD (i) 0)) (s:=n) L23 rfl rfl (by omega) λ_ L24=>so L24 rfl (Zp (i) L24 rfl rfl Tryz.underlying30 ZE (by omega) (by omega) λ_ L25=>Zv L25 rfl rfl (Yi (cs':=(Yw (us.set (i) (((d.getD (i) 0)*2^n%18446744073709551616)))++[])) L25 rfl rfl R2 ZE rfl (by simp only[List.length_append,ZM];omega) (by rw[Nat.zero_add];exact Xg (by omega)) λ_ R3 _ L26=>sn ?_)))));refine wp_seq (Za (sm L26 rfl ?_));intro _ L27;by_cases t3:(0:Int)<(i:Int);refine so L27 rfl (bT t3 (λ_=>ZD L27 rfl rfl) λ_ L28=>sm L28 rfl λ_ L29=>son L29 rfl (Zf L29 rfl λ_ L30=>son L30 rfl (Zf L30 rfl λ_ L31=>son L31 rfl (ZC L31 rfl Tryz.underlying30 λ_ L32=>?_))));have t4:(i:Int)<=(len_d:Int):=by omega
 refine son L32 rfl (bT t4 (λ_=>QG L32 rfl rfl) λ_ L33=>so L33 rfl (Ze L33 rfl rfl λ_ L34=>sm L34 rfl λ_ L35=>son L35 rfl (Zf L35 rfl λ_ L36=>?_)));by_cases t5:(0:Int)<(n:Int);refine son L36 rfl (bT t5 (λ_=>ZD L36 rfl rfl) λ_ L37=>so L37 rfl (Ze L37 rfl rfl λ_ L38=>sn (Zm L38 rfl rfl ?_)));have L39:=(L38.kp [0,1,6,7,12,13,14,15,8,16,17,18,19,20,21,22,23,24,25,26,27,28,29,30,31,32,33,34,35,36,37,38,39,40] rfl);refine Zx (E0:=[]) (H0:=[(b1,29,(Yw (us.set (i) (((d.getD (i) 0)*2^n%18446744073709551616)))++[]))]) (n:=57) mixed 12 [] (λk=>0) (Zdm [.is (.slice (some ⟨b1,0,none⟩) (sz) (sz)),.is (.int .i64 (i:Int)),.is (.pointer (some ⟨b1,(0+(i)),none⟩)),.is (.int .u64 (((us.set (i) (((d.getD (i) 0)*2^n%18446744073709551616))).getD (i) 0:Nat):Int)),.is (.slice (some ⟨b2,0,none⟩) len_d cap_d),.is (.int .i64 (i:Int)),.is (.int .i64 ((i:Int) - (1:Int))),.is (.pointer (some ⟨b2,(0+((i - 1))),none⟩)),.is (.int .u64 ((d.getD ((i - 1)) 0:Nat):Int)),.is (.int .i64 (n:Int)),.is (.int .i64 ((64 - n:Nat):Int)),.is (.int .u64 (((d.getD ((i - 1)) 0) / 2^(64 - n):Nat):Int))]) L39 R3 (by simp) (by simp) (by rfl) (by rfl) (by simp) (ZY ?_) ?_;refine(An ?_ (An ?_ (An ?_ (An ?_ (An ?_ (An ?_ (An ?_ (An ?_ (An ?_ (An ?_ (An ?_ (An ?_ trivial))))))))))));exact Zc rfl (λ_ _ _ _ _ A1=>(Zf A1.live rfl (A1.same rfl)));exact Zc rfl (λ_ _ _ _ _ A2=>(Zf A2.live rfl (A2.same rfl)));refine Zc rfl (λ_ _ _ _ _ A3=>?_);obtain⟨_,e2,rfl⟩:=A3.known 0 rfl;obtain⟨_,e3,rfl⟩:=A3.known 1 rfl;exact Zp (i) ((A3.live.add e2).add e3) rfl rfl Tryz.underlying30 ZE (by omega) (by omega) (A3.same rfl);refine Zc rfl (λ_ _ _ _ _ A4=>?_);obtain⟨_,e4,rfl⟩:=A4.known 2 rfl;exact Zj (v:=(.int .u64 (((us.set (i) (((d.getD (i) 0)*2^n%18446744073709551616))).getD (i) 0:Nat):Int))) (A4.live.add e4) rfl Yu (A4.run.has (List.mem_append_right _ (List.Mem.head _))) (by rw[Nat.zero_add];exact Yd (by first|omega|(simp only[List.length_set];omega))) (A4.same rfl);exact Zc rfl (λ_ _ _ _ _ A5=>(Zf A5.live rfl (A5.same rfl)));exact Zc rfl (λ_ _ _ _ _ A6=>(Zf A6.live rfl (A6.same rfl)));refine Zc rfl (λ_ _ _ _ _ A7=>?_);obtain⟨_,e5,rfl⟩:=A7.known 5 rfl;exact ZN (z:=((i:Int) - (1:Int))) (A7.live.add e5) rfl rfl Xr (A7.same rfl);refine Zc rfl (λ_ _ _ _ _ A8=>?_);obtain⟨_,e6,rfl⟩:=A8.known 4 rfl;obtain⟨_,e7,rfl⟩:=A8.known 6 rfl;exact Zp ((i - 1)) ((A8.live.add e6).add e7) rfl rfl Tryz.underlying30 ZE (by omega) (by omega) (A8.same rfl);refine Zc rfl (λ_ _ _ _ _ A9=>?_);obtain⟨_,e8,rfl⟩:=A9.known 7 rfl;exact Zj (v:=(.int .u64 ((d.getD ((i - 1)) 0:Nat):Int))) (A9.live.add e8) rfl Yu (A9.run.row (r1.up A9.le)) (by rw[Nat.zero_add];exact Yd (by omega)) (A9.same rfl);exact Zc rfl (λ_ _ _ _ _ A10=>(Zf A10.live rfl (A10.same rfl)));refine Zc rfl (λ_ _ _ _ _ A11=>?_);obtain⟨_,e9,rfl⟩:=A11.known 9 rfl;exact ZN (z:=((64 - n:Nat):Int)) (A11.live.add e9) rfl rfl (i64_to (by omega) (by omega)) (A11.same rfl);refine Zc rfl (λ_ _ _ _ _ A12=>?_);obtain⟨_,e10,rfl⟩:=A12.known 8 rfl;obtain⟨_,e11,rfl⟩:=A12.known 10 rfl;exact QU (i:=(d.getD ((i - 1)) 0)) (s:=(64 - n)) ((A12.live.add e10).add e11) rfl rfl (by omega) (A12.same rfl);intro S14 _ _ w16 l2 E1 R4 n1 L52 K1;obtain⟨_,e12,rfl⟩:=K1 0 (by decide);have L53:=L52.add e12;clear L52;obtain⟨_,e13,rfl⟩:=K1 1 (by decide);have L54:=L53.add e13;clear L53;obtain⟨_,e14,rfl⟩:=K1 2 (by decide);have L55:=L54.add e14;clear L54;obtain⟨_,e15,rfl⟩:=K1 3 (by decide);have L56:=L55.add e15;clear L55;obtain⟨_,e16,rfl⟩:=K1 4 (by decide);have L57:=L56.add e16;clear L56;obtain⟨_,e17,rfl⟩:=K1 5 (by decide);have L58:=L57.add e17;clear L57;obtain⟨_,e18,rfl⟩:=K1 6 (by decide);have L59:=L58.add e18;clear L58;obtain⟨_,e19,rfl⟩:=K1 7 (by decide);have L60:=L59.add e19;clear L59;obtain⟨_,e20,rfl⟩:=K1 8 (by decide);have L61:=L60.add e20;clear L60;obtain⟨_,e21,rfl⟩:=K1 9 (by decide);have L62:=L61.add e21;clear L61;obtain⟨_,e22,rfl⟩:=K1 10 (by decide);have L63:=L62.add e22;clear L62;obtain⟨_,e23,rfl⟩:=K1 11 (by decide);have L64:=L63.add e23;clear L63;have R5:Run _ _ S14 [(b1,29,(Yw (us.set (i) (((d.getD (i) 0)*2^n%18446744073709551616)))++[]))] w16:=Yh R4 n1 [] (by simp) (by simp);refine so L64 rfl (Zgl (i:=((us.set (i) (((d.getD (i) 0)*2^n%18446744073709551616))).getD (i) 0)) (j:=((d.getD ((i - 1)) 0) / 2^(64 - n))) (z:=d.getD i 0*2^n%18446744073709551616+cr d n i) L64 rfl rfl (by first|exact ZS (Zb0 hI.lt (Nat.mod_lt _ (by decide))) (by decide) _|exact ZS hI.lt (by decide) _) (by exact Nat.lt_of_le_of_lt (Nat.div_le_self _ _) (ZS hd_d.hlt (by decide) _)) (by first|exact up_or1 hn hd_d.hlt (by omega) (by omega)|exact up_or0 hI (by omega) (by omega)) λ_ L65=>so L65 rfl (Zp (i) L65 rfl rfl Tryz.underlying30 ZE (by omega) (by omega) λ_ L66=>Zv L66 rfl rfl (Yi (cs':=(Yw ((us.set (i) (((d.getD (i) 0)*2^n%18446744073709551616))).set (i) ((d.getD i 0*2^n%18446744073709551616+cr d n i)))++[])) L66 rfl rfl R5 ZE rfl (by simp only[List.length_append,ZM];first|omega|(simp only[List.length_set];omega)) (by rw[Nat.zero_add];exact Xg (by first|omega|(simp only[List.length_set];omega))) λ_ R6 _ L67=>Ye ((Zy (Zb (Za (so L67 rfl (Zz L67 rfl rfl Xr λ_ L68=>sm L68 rfl λ_ L69=>sn ?_)))))))));exact⟨sz - (i+1),(by omega),S14,((us.set (i) (((d.getD (i) 0)*2^n%18446744073709551616))).set (i) ((d.getD i 0*2^n%18446744073709551616+cr d n i))),(i+1),(l1.trans l2),(((L69.ri 13 (((i+1):Nat):Int) rfl).a L69).kp [13,12,7,6,1,0] rfl),R6,(by first|exact hI.step' hn hd_d.hlt (by omega) rfl|exact hI.step' hn hd_d.hlt (by omega) List.set_set|exact hI.step' hn hd_d.hlt (by omega) (List.set_set ..)|exact hI.step' hn hd_d.hlt (by omega) (Zct hd_d.hlt (by omega))|exact hI.step' hn hd_d.hlt (by omega) (Zcu hI (by omega) hd_d.hlt (by omega) (by omega))),rfl⟩;refine son L36 rfl (bF t5 (λ_=>ZD L36 rfl rfl) λ_ L71=>so L71 rfl (Ze L71 rfl rfl λ_ L72=>sn (Zi L72 rfl rfl (wp_skip ((Zy (Zb (Za (so L72 rfl (Zz L72 rfl rfl Xr λ_ L73=>sm L73 rfl λ_ L74=>sn ?_))))))))));exact⟨sz - (i+1),(by omega),S1,(us.set (i) (((d.getD (i) 0)*2^n%18446744073709551616))),(i+1),l1,(((L74.ri 13 (((i+1):Nat):Int) rfl).a L74).kp [13,12,7,6,1,0] rfl),R3,(by first|exact hI.step' hn hd_d.hlt (by omega) rfl|exact hI.step' hn hd_d.hlt (by omega) List.set_set|exact hI.step' hn hd_d.hlt (by omega) (List.set_set ..)|exact hI.step' hn hd_d.hlt (by omega) (Zct hd_d.hlt (by omega))|exact hI.step' hn hd_d.hlt (by omega) (Zcu hI (by omega) hd_d.hlt (by omega) (by omega))),rfl⟩;refine so L27 rfl (bF t3 (λ_=>ZD L27 rfl rfl) λ_ L76=>sm L76 rfl λ_ L77=>sof L77 rfl λ_ L78=>sof L78 rfl λ_ L79=>sof L79 rfl λ_ L80=>sof L80 rfl λ_ L81=>so L81 rfl (Ze L81 rfl rfl λ_ L82=>?_));refine sm L82 rfl λ_ L83=>sof L83 rfl λ_ L84=>sof L84 rfl λ_ L85=>so L85 rfl (Ze L85 rfl rfl λ_ L86=>?_);have L87:=(L86.kp [0,1,6,7,12,13,14,15,8,16,17,18,19,20,21,22,23,24,25,26,27,28,29,30,31,36,37,40] rfl);clear L86;refine sn (Zi L87 rfl rfl (wp_skip ((Zy (Zb (Za (so L87 rfl (Zz L87 rfl rfl Xr ?_))))))));intro _ L88;exact sm L88 rfl λ_ L89=>sn (⟨sz - (i+1),(by omega),S1,(us.set (i) (((d.getD (i) 0)*2^n%18446744073709551616))),(i+1),l1,(((L89.ri 13 (((i+1):Nat):Int) rfl).a L89).kp [13,12,7,6,1,0] rfl),R3,(by first|exact hI.step' hn hd_d.hlt (by omega) rfl|exact hI.step' hn hd_d.hlt (by omega) List.set_set|exact hI.step' hn hd_d.hlt (by omega) (List.set_set ..)|exact hI.step' hn hd_d.hlt (by omega) (Zct hd_d.hlt (by omega))|exact hI.step' hn hd_d.hlt (by omega) (Zcu hI (by omega) hd_d.hlt (by omega) (by omega))),rfl⟩);refine so L15 rfl (bF t2 (λ_=>Zu L15 rfl rfl) λ_ L91=>sn (Zi L91 rfl rfl (wp_skip ((Zb (wp_seq (Za (sm L91 rfl λ_ L92=>?_))))))));by_cases t6:(0:Int)<(i:Int);refine so L92 rfl (bT t6 (λ_=>ZD L92 rfl rfl) λ_ L93=>sm L93 rfl λ_ L94=>son L94 rfl (Zf L94 rfl λ_ L95=>son L95 rfl (Zf L95 rfl λ_ L96=>son L96 rfl (ZC L96 rfl Tryz.underlying30 λ_ L97=>?_))));by_cases t7:(i:Int)<=(len_d:Int);refine son L97 rfl (bT t7 (λ_=>QG L97 rfl rfl) λ_ L98=>so L98 rfl (Ze L98 rfl rfl λ_ L99=>sm L99 rfl λ_ L100=>son L100 rfl (Zf L100 rfl λ_ L101=>?_)));by_cases t8:(0:Int)<(n:Int);refine son L101 rfl (bT t8 (λ_=>ZD L101 rfl rfl) λ_ L102=>so L102 rfl (Ze L102 rfl rfl λ_ L103=>sn (Zm L103 rfl rfl ?_)));obtain⟨b3,rest_2,rfl,r2⟩:=(hd_d.up l1).row (by omega);have L104:=(L103.kp [0,1,6,7,12,13,14,15,8,16,17,18,19,29,30,31,32,33,34,35,36,37,38,39,40] rfl);refine Zx (E0:=[]) (H0:=[(b1,29,(Yw us++[]))]) (n:=57) mixed 12 [] (λk=>0) (Zdm [.is (.slice (some ⟨b1,0,none⟩) (sz) (sz)),.is (.int .i64 (i:Int)),.is (.pointer (some ⟨b1,(0+(i)),none⟩)),.is (.int .u64 ((us.getD (i) 0:Nat):Int)),.is (.slice (some ⟨b3,0,none⟩) len_d cap_d),.is (.int .i64 (i:Int)),.is (.int .i64 ((i:Int) - (1:Int))),.is (.pointer (some ⟨b3,(0+((i - 1))),none⟩)),.is (.int .u64 ((d.getD ((i - 1)) 0:Nat):Int)),.is (.int .i64 (n:Int)),.is (.int .i64 ((64 - n:Nat):Int)),.is (.int .u64 (((d.getD ((i - 1)) 0) / 2^(64 - n):Nat):Int))]) L104 R2 (by simp) (by simp) (by rfl) (by rfl) (by simp) (ZY ?_) ?_;refine(An ?_ (An ?_ (An ?_ (An ?_ (An ?_ (An ?_ (An ?_ (An ?_ (An ?_ (An ?_ (An ?_ (An ?_ trivial))))))))))));exact Zc rfl (λ_ _ _ _ _ A13=>(Zf A13.live rfl (A13.same rfl)));exact Zc rfl (λ_ _ _ _ _ A14=>(Zf A14.live rfl (A14.same rfl)));refine Zc rfl (λ_ _ _ _ _ A15=>?_);obtain⟨_,e27,rfl⟩:=A15.known 0 rfl;obtain⟨_,e28,rfl⟩:=A15.known 1 rfl;exact Zp (i) ((A15.live.add e27).add e28) rfl rfl Tryz.underlying30 ZE (by omega) (by omega) (A15.same rfl);refine Zc rfl (λ_ _ _ _ _ A16=>?_);obtain⟨_,e29,rfl⟩:=A16.known 2 rfl;exact Zj (v:=(.int .u64 ((us.getD (i) 0:Nat):Int))) (A16.live.add e29) rfl Yu (A16.run.has (List.mem_append_right _ (List.Mem.head _))) (by rw[Nat.zero_add];exact Yd (by first|omega|(simp only[List.length_set];omega))) (A16.same rfl);exact Zc rfl (λ_ _ _ _ _ A17=>(Zf A17.live rfl (A17.same rfl)));exact Zc rfl (λ_ _ _ _ _ A18=>(Zf A18.live rfl (A18.same rfl)));refine Zc rfl (λ_ _ _ _ _ A19=>?_);obtain⟨_,e30,rfl⟩:=A19.known 5 rfl;exact ZN (z:=((i:Int) - (1:Int))) (A19.live.add e30) rfl rfl Xr (A19.same rfl);refine Zc rfl (λ_ _ _ _ _ A20=>?_);obtain⟨_,e31,rfl⟩:=A20.known 4 rfl;obtain⟨_,e32,rfl⟩:=A20.known 6 rfl;exact Zp ((i - 1)) ((A20.live.add e31).add e32) rfl rfl Tryz.underlying30 ZE (by omega) (by omega) (A20.same rfl);refine Zc rfl (λ_ _ _ _ _ A21=>?_);obtain⟨_,e33,rfl⟩:=A21.known 7 rfl;exact Zj (v:=(.int .u64 ((d.getD ((i - 1)) 0:Nat):Int))) (A21.live.add e33) rfl Yu (A21.run.row (r2.up A21.le)) (by rw[Nat.zero_add];exact Yd (by omega)) (A21.same rfl);exact Zc rfl (λ_ _ _ _ _ A22=>(Zf A22.live rfl (A22.same rfl)));refine Zc rfl (λ_ _ _ _ _ A23=>?_);obtain⟨_,e34,rfl⟩:=A23.known 9 rfl;exact ZN (z:=((64 - n:Nat):Int)) (A23.live.add e34) rfl rfl (i64_to (by omega) (by omega)) (A23.same rfl);refine Zc rfl (λ_ _ _ _ _ A24=>?_);obtain⟨_,e35,rfl⟩:=A24.known 8 rfl;obtain⟨_,e36,rfl⟩:=A24.known 10 rfl;exact QU (i:=(d.getD ((i - 1)) 0)) (s:=(64 - n)) ((A24.live.add e35).add e36) rfl rfl (by omega) (A24.same rfl);intro S27 _ _ w30 l3 E2 R7 n2 L117 K2;obtain⟨_,e37,rfl⟩:=K2 0 (by decide);have L118:=L117.add e37;clear L117;obtain⟨_,e38,rfl⟩:=K2 1 (by decide);have L119:=L118.add e38;clear L118;obtain⟨_,e39,rfl⟩:=K2 2 (by decide);have L120:=L119.add e39;clear L119;obtain⟨_,e40,rfl⟩:=K2 3 (by decide);have L121:=L120.add e40;clear L120;obtain⟨_,e41,rfl⟩:=K2 4 (by decide);have L122:=L121.add e41;clear L121;obtain⟨_,e42,rfl⟩:=K2 5 (by decide);have L123:=L122.add e42;clear L122;obtain⟨_,e43,rfl⟩:=K2 6 (by decide);have L124:=L123.add e43;clear L123;obtain⟨_,e44,rfl⟩:=K2 7 (by decide);have L125:=L124.add e44;clear L124;obtain⟨_,e45,rfl⟩:=K2 8 (by decide);have L126:=L125.add e45;clear L125;obtain⟨_,e46,rfl⟩:=K2 9 (by decide);have L127:=L126.add e46;clear L126;obtain⟨_,e47,rfl⟩:=K2 10 (by decide);have L128:=L127.add e47;clear L127;obtain⟨_,e48,rfl⟩:=K2 11 (by decide);have L129:=L128.add e48;clear L128;have R8:Run _ _ S27 [(b1,29,(Yw us++[]))] w30:=Yh R7 n2 [] (by simp) (by simp);refine so L129 rfl (Zgl (i:=(us.getD (i) 0)) (j:=((d.getD ((i - 1)) 0) / 2^(64 - n))) (z:=d.getD i 0*2^n%18446744073709551616+cr d n i) L129 rfl rfl (by first|exact ZS (Zb0 hI.lt (Nat.mod_lt _ (by decide))) (by decide) _|exact ZS hI.lt (by decide) _) (by exact Nat.lt_of_le_of_lt (Nat.div_le_self _ _) (ZS hd_d.hlt (by decide) _)) (by first|exact up_or1 hn hd_d.hlt (by omega) (by omega)|exact up_or0 hI (by omega) (by omega)) λ_ L130=>so L130 rfl (Zp (i) L130 rfl rfl Tryz.underlying30 ZE (by omega) (by omega) λ_ L131=>Zv L131 rfl rfl (Yi (cs':=(Yw (us.set (i) ((d.getD i 0*2^n%18446744073709551616+cr d n i)))++[])) L131 rfl rfl R8 ZE rfl (by simp only[List.length_append,ZM];first|omega|(simp only[List.length_set];omega)) (by rw[Nat.zero_add];exact Xg (by first|omega|(simp only[List.length_set];omega))) λ_ R9 _ L132=>Ye ((Zy (Zb (Za (so L132 rfl (Zz L132 rfl rfl Xr λ_ L133=>sm L133 rfl λ_ L134=>sn ?_)))))))));exact⟨sz - (i+1),(by omega),S27,(us.set (i) ((d.getD i 0*2^n%18446744073709551616+cr d n i))),(i+1),(l1.trans l3),(((L134.ri 13 (((i+1):Nat):Int) rfl).a L134).kp [13,12,7,6,1,0] rfl),R9,(by first|exact hI.step' hn hd_d.hlt (by omega) rfl|exact hI.step' hn hd_d.hlt (by omega) List.set_set|exact hI.step' hn hd_d.hlt (by omega) (List.set_set ..)|exact hI.step' hn hd_d.hlt (by omega) (Zct hd_d.hlt (by omega))|exact hI.step' hn hd_d.hlt (by omega) (Zcu hI (by omega) hd_d.hlt (by omega) (by omega))),rfl⟩;refine son L101 rfl (bF t8 (λ_=>ZD L101 rfl rfl) λ_ L136=>so L136 rfl (Ze L136 rfl rfl λ_ L137=>sn (Zi L137 rfl rfl (wp_skip ((Zy (Zb (Za (so L137 rfl (Zz L137 rfl rfl Xr λ_ L138=>sm L138 rfl λ_ L139=>sn ?_))))))))));exact⟨sz - (i+1),(by omega),S1,us,(i+1),l1,(((L139.ri 13 (((i+1):Nat):Int) rfl).a L139).kp [13,12,7,6,1,0] rfl),R2,(by first|exact hI.step' hn hd_d.hlt (by omega) rfl|exact hI.step' hn hd_d.hlt (by omega) List.set_set|exact hI.step' hn hd_d.hlt (by omega) (List.set_set ..)|exact hI.step' hn hd_d.hlt (by omega) (Zct hd_d.hlt (by omega))|exact hI.step' hn hd_d.hlt (by omega) (Zcu hI (by omega) hd_d.hlt (by omega) (by omega))),rfl⟩;refine son L97 rfl (bF t7 (λ_=>QG L97 rfl rfl) λ_ L141=>so L141 rfl (Ze L141 rfl rfl λ_ L142=>sm L142 rfl λ_ L143=>sof L143 rfl λ_ L144=>sof L144 rfl λ_ L145=>so L145 rfl (Ze L145 rfl rfl λ_ L146=>sn ?_)));refine Zi L146 rfl rfl (wp_skip ((Zy (Zb (Za (so L146 rfl (Zz L146 rfl rfl Xr ?_)))))));intro _ L147;exact sm L147 rfl λ_ L148=>sn (⟨sz - (i+1),(by omega),S1,us,(i+1),l1,(((L148.ri 13 (((i+1):Nat):Int) rfl).a L148).kp [13,12,7,6,1,0] rfl),R2,(by first|exact hI.step' hn hd_d.hlt (by omega) rfl|exact hI.step' hn hd_d.hlt (by omega) List.set_set|exact hI.step' hn hd_d.hlt (by omega) (List.set_set ..)|exact hI.step' hn hd_d.hlt (by omega) (Zct hd_d.hlt (by omega))|exact hI.step' hn hd_d.hlt (by omega) (Zcu hI (by omega) hd_d.hlt (by omega) (by omega))),rfl⟩);refine so L92 rfl (bF t6 (λ_=>ZD L92 rfl rfl) λ_ L150=>sm L150 rfl λ_ L151=>sof L151 rfl λ_ L152=>sof L152 rfl λ_ L153=>sof L153 rfl λ_ L154=>sof L154 rfl λ_ L155=>so L155 rfl (Ze L155 rfl rfl λ_ L156=>?_));refine sm L156 rfl λ_ L157=>sof L157 rfl λ_ L158=>sof L158 rfl λ_ L159=>so L159 rfl (Ze L159 rfl rfl λ_ L160=>?_);have L161:=(L160.kp [0,1,6,7,12,13,14,15,8,16,17,18,19,29,30,31,36,37,40] rfl);clear L160;refine sn (Zi L161 rfl rfl (wp_skip ((Zy (Zb (Za (so L161 rfl (Zz L161 rfl rfl Xr ?_))))))));intro _ L162;exact sm L162 rfl λ_ L163=>sn (⟨sz - (i+1),(by omega),S1,us,(i+1),l1,(((L163.ri 13 (((i+1):Nat):Int) rfl).a L163).kp [13,12,7,6,1,0] rfl),R2,(by first|exact hI.step' hn hd_d.hlt (by omega) rfl|exact hI.step' hn hd_d.hlt (by omega) List.set_set|exact hI.step' hn hd_d.hlt (by omega) (List.set_set ..)|exact hI.step' hn hd_d.hlt (by omega) (Zct hd_d.hlt (by omega))|exact hI.step' hn hd_d.hlt (by omega) (Zcu hI (by omega) hd_d.hlt (by omega) (by omega))),rfl⟩);refine so L8 rfl (bF t1 (λ_=>Zu L8 rfl rfl) λ_ L165=>sn (wp_seq (Zi L165 rfl rfl (wp_exit ((Zq (Zq (Yx (Zb (wp_seq ?_))))))))));have hIl:=hI.len;have hIe:=hI.le;refine Za (sm L165 rfl ?_);intro _ L166;exact sa L166 rfl λ_ L167=>sn (wp_ret ((Zn (rs:=Tryz.f163.results.toList) (L167.kp [6] rfl) rfl (.tmp rfl Res.nil) (⟨_,S1,_,rfl,R2,b1,us,rfl,by rfl,by exact hI.len,by exact hI.lt,by exact hI.done (by omega) (by omega)⟩))))
set_option maxRecDepth 20000 in
theorem nat_down {S:Sh} {w:World} (hS:ZU S w) {p_d:Option Addr} {len_d cap_d:Nat} {d:List Nat} (hd_d:Dg S p_d len_d cap_d d) {n:Nat} {k:Nat} (hn:n<64) (hk:val W64 d / 2^n<=2^k) (hm2:len_d<=1099511627776):Calls Tryz.prog 167 [(.slice p_d len_d cap_d),(.int .i64 ((n:Nat):Int))].toArray w (Ret S w (λS v=>∃(c0:List Value),v= .agg c0.toArray/\Na S c0 (val W64 d / 2^n) (k))):=by
 refine ZB (n:=50) Tryz.func167 rfl rfl ?_;intro ac0 L0;replace L0:ZL ac0 50 [(0,(.slice p_d len_d cap_d)),(1,(.int .i64 (n:Int)))]:=L0;have R0:Run S w S [] w:=.start hS;have hl_d:=hd_d.hlen;have hc_d:=hd_d.hcap;have hg_d:=hd_d.hbig;refine wp_seq (Za (so L0 rfl (ZJ (cs:=zN1) ZZ R0 rfl ?_)));intro b1 _ R1 _ L1;refine sn (wp_seq (Za (sm L1 rfl ?_)));intro _ L2;refine so L2 rfl (ZC L2 rfl Tryz.underlying30 λ_ L3=>so L3 rfl (Xm (m:=len_d) (c:=len_d) L3 (by first|rfl|(simp[ev,Zal];omega)) (by first|rfl|(simp[ev,Zal];omega)) Tryz.underlying30 QP rfl ZE Za4 (by omega) (by omega) (by omega) R1 λb2 _ R2 _ L4=>?_));rw[Zeh] at R2;refine sa L4 rfl λ_ L5=>sn (wp_seq (wp_seq (Za (sm L5 rfl λ_ L6=>so L6 rfl (ZC L6 rfl Tryz.underlying30 λ_ L7=>sm L7 rfl λ_ L8=>sn ?_)))));refine wp_block ?_;refine ZO (λm ac ww=>∃(S':Sh) (us:List Nat) (i:Nat),S.le S'/\ZL ac 50 [(0,(.slice p_d len_d cap_d)),(1,(.int .i64 ((n:Nat):Int))),(4,(.pointer (some ⟨b1,0,none⟩))),(5,(.slice (some ⟨b2,0,none⟩) (len_d) (len_d))),(11,(.int .i64 ((len_d:Nat):Int))),(12,(.int .i64 ((i:Nat):Int)))]/\Run S w S' [(b2,29,(Yw us++[])),(b1,32,zN1)] ww/\(Zdk d us n i)/\m=d.length - i) (d.length - 0) ⟨S,(List.replicate (len_d) 0),0,Sh.le.refl _,(((L8.ri 12 ((0:Nat):Int) rfl).a L8).kp [12,11,5,4,1,0] rfl),(Yg (Yg R2)),(by rw[<-hl_d];exact Zdk.start),rfl⟩ ?_;rintro m_1 ac1 _ ⟨S1,us,i,l1,L9,R3,hI,m1⟩;refine wp_seq (Za ?_);by_cases t1:(i:Int)<(len_d:Int);refine so L9 rfl (bT t1 (λ_=>Zu L9 rfl rfl) λ_ L11=>sn (wp_seq (Zm L11 rfl rfl (wp_skip ((Zb (wp_seq (wp_block (wp_seq ?_)))))))));have hIl:=hI.len;have hIe:=hI.le;refine Za (sm L11 rfl ?_);intro _ L12;refine sa L12 rfl λ_ L13=>sn (wp_seq (Za (sm L13 rfl λ_ L14=>sm L14 rfl λ_ L15=>sm L15 rfl λ_ L16=>sm L16 rfl λ_ L17=>?_)));obtain⟨b3,rest_1,rfl,r1⟩:=(hd_d.up l1).row (by omega);refine so L17 rfl (Zp (i) L17 rfl rfl Tryz.underlying30 ZE (by omega) (by omega) λ_ L18=>so L18 rfl (Zj (v:=(.int .u64 ((d.getD (i) 0:Nat):Int))) L18 rfl Yu (R3.row r1) (by rw[Nat.zero_add];exact Yd (by omega)) λ_ L19=>sm L19 rfl λ_ L20=>so L20 rfl (QU (i:=(d.getD (i) 0)) (s:=n) L20 rfl rfl (by omega) λ_ L21=>so L21 rfl (Zp (i) L21 rfl rfl Tryz.underlying30 ZE (by omega) (by omega) λ_ L22=>Zv L22 rfl rfl (Yi (cs':=(Yw (us.set (i) (((d.getD (i) 0) / 2^n)))++[])) L22 rfl rfl R3 ZE rfl (by simp only[List.length_append,ZM];omega) (by rw[Nat.zero_add];exact Xg (by omega)) λ_ R4 _ L23=>sn ?_)))));refine wp_seq (Za (sm L23 rfl ?_));intro _ L24;refine so L24 rfl (Zz L24 rfl rfl Xr λ_ L25=>sm L25 rfl λ_ L26=>so L26 rfl (ZC L26 rfl Tryz.underlying30 λ_ L27=>?_));by_cases t2:((i:Int)+(1:Int))<(len_d:Int);refine so L27 rfl (bT t2 (λ_=>Zu L27 rfl rfl) λ_ L28=>sm L28 rfl λ_ L29=>son L29 rfl (Zf L29 rfl λ_ L30=>?_));by_cases t3:(0:Int)<(n:Int);refine son L30 rfl (bT t3 (λ_=>ZD L30 rfl rfl) λ_ L31=>so L31 rfl (Ze L31 rfl rfl λ_ L32=>sn (Zm L32 rfl rfl ?_)));have L33:=(L32.kp [0,1,4,5,11,12,13,14,6,15,16,17,18,19,20,21,22,23,24,25,26,27,28,29,30,31,32] rfl);refine Zx (E0:=[]) (H0:=[(b2,29,(Yw (us.set (i) (((d.getD (i) 0) / 2^n)))++[])),(b1,32,zN1)]) (n:=50) mixed 12 [] (λk=>0) (Zdm [.is (.slice (some ⟨b2,0,none⟩) (len_d) (len_d)),.is (.int .i64 (i:Int)),.is (.pointer (some ⟨b2,(0+(i)),none⟩)),.is (.int .u64 (((us.set (i) (((d.getD (i) 0) / 2^n))).getD (i) 0:Nat):Int)),.is (.slice (some ⟨b3,0,none⟩) len_d cap_d),.is (.int .i64 (i:Int)),.is (.int .i64 ((i:Int)+(1:Int))),.is (.pointer (some ⟨b3,(0+((i+1))),none⟩)),.is (.int .u64 ((d.getD ((i+1)) 0:Nat):Int)),.is (.int .i64 (n:Int)),.is (.int .i64 ((64 - n:Nat):Int)),.is (.int .u64 (((d.getD ((i+1)) 0)*2^(64 - n)%18446744073709551616:Nat):Int))]) L33 R4 (by simp) (by simp) (by rfl) (by rfl) (by simp) (ZY ?_) ?_;refine(An ?_ (An ?_ (An ?_ (An ?_ (An ?_ (An ?_ (An ?_ (An ?_ (An ?_ (An ?_ (An ?_ (An ?_ trivial))))))))))));exact Zc rfl (λ_ _ _ _ _ A1=>(Zf A1.live rfl (A1.same rfl)));exact Zc rfl (λ_ _ _ _ _ A2=>(Zf A2.live rfl (A2.same rfl)));refine Zc rfl (λ_ _ _ _ _ A3=>?_);obtain⟨_,e2,rfl⟩:=A3.known 0 rfl;obtain⟨_,e3,rfl⟩:=A3.known 1 rfl;exact Zp (i) ((A3.live.add e2).add e3) rfl rfl Tryz.underlying30 ZE (by omega) (by omega) (A3.same rfl);refine Zc rfl (λ_ _ _ _ _ A4=>?_);obtain⟨_,e4,rfl⟩:=A4.known 2 rfl;exact Zj (v:=(.int .u64 (((us.set (i) (((d.getD (i) 0) / 2^n))).getD (i) 0:Nat):Int))) (A4.live.add e4) rfl Yu (A4.run.has (List.mem_append_right _ (List.Mem.head _))) (by rw[Nat.zero_add];exact Yd (by first|omega|(simp only[List.length_set];omega))) (A4.same rfl);exact Zc rfl (λ_ _ _ _ _ A5=>(Zf A5.live rfl (A5.same rfl)));exact Zc rfl (λ_ _ _ _ _ A6=>(Zf A6.live rfl (A6.same rfl)));refine Zc rfl (λ_ _ _ _ _ A7=>?_);obtain⟨_,e5,rfl⟩:=A7.known 5 rfl;exact Zz (z:=((i:Int)+(1:Int))) (A7.live.add e5) rfl rfl Xr (A7.same rfl);refine Zc rfl (λ_ _ _ _ _ A8=>?_);obtain⟨_,e6,rfl⟩:=A8.known 4 rfl;obtain⟨_,e7,rfl⟩:=A8.known 6 rfl;exact Zp ((i+1)) ((A8.live.add e6).add e7) rfl rfl Tryz.underlying30 ZE (by omega) (by omega) (A8.same rfl);refine Zc rfl (λ_ _ _ _ _ A9=>?_);obtain⟨_,e8,rfl⟩:=A9.known 7 rfl;exact Zj (v:=(.int .u64 ((d.getD ((i+1)) 0:Nat):Int))) (A9.live.add e8) rfl Yu (A9.run.row (r1.up A9.le)) (by rw[Nat.zero_add];exact Yd (by omega)) (A9.same rfl);exact Zc rfl (λ_ _ _ _ _ A10=>(Zf A10.live rfl (A10.same rfl)));refine Zc rfl (λ_ _ _ _ _ A11=>?_);obtain⟨_,e9,rfl⟩:=A11.known 9 rfl;exact ZN (z:=((64 - n:Nat):Int)) (A11.live.add e9) rfl rfl (i64_to (by omega) (by omega)) (A11.same rfl);refine Zc rfl (λ_ _ _ _ _ A12=>?_);obtain⟨_,e10,rfl⟩:=A12.known 8 rfl;obtain⟨_,e11,rfl⟩:=A12.known 10 rfl;exact Zci (i:=(d.getD ((i+1)) 0)) (s:=(64 - n)) ((A12.live.add e10).add e11) rfl rfl (by omega) (A12.same rfl);intro S14 _ _ w17 l2 E1 R5 n1 L46 K1;obtain⟨_,e12,rfl⟩:=K1 0 (by decide);have L47:=L46.add e12;clear L46;obtain⟨_,e13,rfl⟩:=K1 1 (by decide);have L48:=L47.add e13;clear L47;obtain⟨_,e14,rfl⟩:=K1 2 (by decide);have L49:=L48.add e14;clear L48;obtain⟨_,e15,rfl⟩:=K1 3 (by decide);have L50:=L49.add e15;clear L49;obtain⟨_,e16,rfl⟩:=K1 4 (by decide);have L51:=L50.add e16;clear L50;obtain⟨_,e17,rfl⟩:=K1 5 (by decide);have L52:=L51.add e17;clear L51;obtain⟨_,e18,rfl⟩:=K1 6 (by decide);have L53:=L52.add e18;clear L52;obtain⟨_,e19,rfl⟩:=K1 7 (by decide);have L54:=L53.add e19;clear L53;obtain⟨_,e20,rfl⟩:=K1 8 (by decide);have L55:=L54.add e20;clear L54;obtain⟨_,e21,rfl⟩:=K1 9 (by decide);have L56:=L55.add e21;clear L55;obtain⟨_,e22,rfl⟩:=K1 10 (by decide);have L57:=L56.add e22;clear L56;obtain⟨_,e23,rfl⟩:=K1 11 (by decide);have L58:=L57.add e23;clear L57;have R6:Run _ _ S14 [(b2,29,(Yw (us.set (i) (((d.getD (i) 0) / 2^n)))++[])),(b1,32,zN1)] w17:=Yh R5 n1 [] (by simp) (by simp);refine so L58 rfl (Zgl (i:=((us.set (i) (((d.getD (i) 0) / 2^n))).getD (i) 0)) (j:=((d.getD ((i+1)) 0)*2^(64 - n)%18446744073709551616)) (z:=d.getD i 0 / 2^n+2^(64 - n)*(d.getD (i+1) 0%2^n)) L58 rfl rfl (by exact ZS (Zb0 hI.lt (Nat.lt_of_le_of_lt (Nat.div_le_self _ _) (ZS hd_d.hlt (by decide) _))) (by decide) _) (by exact Nat.mod_lt _ (by decide)) (by exact down_or1 hn hd_d.hlt (by omega)) λ_ L59=>so L59 rfl (Zp (i) L59 rfl rfl Tryz.underlying30 ZE (by omega) (by omega) λ_ L60=>Zv L60 rfl rfl (Yi (cs':=(Yw ((us.set (i) (((d.getD (i) 0) / 2^n))).set (i) ((d.getD i 0 / 2^n+2^(64 - n)*(d.getD (i+1) 0%2^n))))++[])) L60 rfl rfl R6 ZE rfl (by simp only[List.length_append,ZM];first|omega|(simp only[List.length_set];omega)) (by rw[Nat.zero_add];exact Xg (by first|omega|(simp only[List.length_set];omega))) λ_ R7 _ L61=>Ye ((Zy (Zb (Za (so L61 rfl (Zz L61 rfl rfl Xr λ_ L62=>sm L62 rfl λ_ L63=>sn ?_)))))))));exact⟨d.length - (i+1),(by omega),S14,((us.set (i) (((d.getD (i) 0) / 2^n))).set (i) ((d.getD i 0 / 2^n+2^(64 - n)*(d.getD (i+1) 0%2^n)))),(i+1),(l1.trans l2),(((L63.ri 12 (((i+1):Nat):Int) rfl).a L63).kp [12,11,5,4,1,0] rfl),(Yg (Yg R7)),(by first|exact hI.step hn hd_d.hlt (by omega) List.set_set|exact hI.step hn hd_d.hlt (by omega) (List.set_set ..)|exact hI.step hn hd_d.hlt (by omega) (down_case0 (by omega))),rfl⟩;refine son L30 rfl (bF t3 (λ_=>ZD L30 rfl rfl) λ_ L65=>so L65 rfl (Ze L65 rfl rfl λ_ L66=>sn (Zi L66 rfl rfl (wp_skip ((Zy (Zb (Za (so L66 rfl (Zz L66 rfl rfl Xr λ_ L67=>sm L67 rfl λ_ L68=>sn ?_))))))))));exact⟨d.length - (i+1),(by omega),S1,(us.set (i) (((d.getD (i) 0) / 2^n))),(i+1),l1,(((L68.ri 12 (((i+1):Nat):Int) rfl).a L68).kp [12,11,5,4,1,0] rfl),(Yg (Yg R4)),(by first|exact hI.step hn hd_d.hlt (by omega) List.set_set|exact hI.step hn hd_d.hlt (by omega) (List.set_set ..)|exact hI.step hn hd_d.hlt (by omega) (down_case0 (by omega))),rfl⟩;refine so L27 rfl (bF t2 (λ_=>Zu L27 rfl rfl) λ_ L70=>sm L70 rfl λ_ L71=>sof L71 rfl λ_ L72=>sof L72 rfl λ_ L73=>so L73 rfl (Ze L73 rfl rfl λ_ L74=>sn (Zi L74 rfl rfl (wp_skip ((Zy (Zb ?_)))))));refine Za (so L74 rfl (Zz L74 rfl rfl Xr ?_));intro _ L75;exact sm L75 rfl λ_ L76=>sn (⟨d.length - (i+1),(by omega),S1,(us.set (i) (((d.getD (i) 0) / 2^n))),(i+1),l1,(((L76.ri 12 (((i+1):Nat):Int) rfl).a L76).kp [12,11,5,4,1,0] rfl),(Yg (Yg R4)),(by first|exact hI.step hn hd_d.hlt (by omega) List.set_set|exact hI.step hn hd_d.hlt (by omega) (List.set_set ..)|exact hI.step hn hd_d.hlt (by omega) (down_case0 (by omega))),rfl⟩);refine so L9 rfl (bF t1 (λ_=>Zu L9 rfl rfl) λ_ L78=>sn (wp_seq (Zi L78 rfl rfl (wp_exit ((Zq (Zq (Yx (Zb (wp_seq ?_))))))))));have hIl:=hI.len;have hIe:=hI.le;refine Za (sm L78 rfl ?_);intro _ L79;obtain⟨S15,l3,r2,R8⟩:=(R3).freeze;have hd1:Dg S15 (some ⟨b2,0,none⟩) (len_d) (len_d) us:=⟨by first|rfl|omega,by omega,by omega,hI.lt,λ_=>⟨_,_,rfl,r2⟩⟩;refine so L79 rfl (Zh L79 rfl Zc7 (Zc0 R8.holds (k:=k) hd1 (by rw[hI.done (by omega)];exact hk)) λv_1 _ _ x1 v1=>?_);have R9:=R8.call x1;obtain⟨c1,rfl,h1⟩:=v1;intro _ L80;exact Zv L80 rfl rfl (Zl L80 rfl rfl R9 Zo h1.len rfl h1.ones λ_ R10 _ L81=>(sn (wp_ret ((Zn (rs:=Tryz.f167.results.toList) (L81.kp [4] rfl) rfl (Res.aggW rfl ZK Zo (R10.has (List.Mem.head _)) h1.len Res.nil) (⟨_,_,rfl,R10.ext,⟨_,rfl,(h1.to (by exact hI.done (by omega)) (by omega))⟩⟩))))))
end Go.Cham
namespace Go.Cham
open Go Go.RowKit Go.Proofs
set_option maxRecDepth 20000 in
theorem nat_short {S0 S:Sh} {w0 w:World} {H0:Own} {b_d off_d len_d cap_d:Nat} {d:List Nat} {rest_d:List Value} {dv:Nat} (R0:Run S0 w0 S ((b_d,29,(Yw d++rest_d))::H0) w) (h0:0<dv) (hdv:dv<18446744073709551616) (hoff:off_d=0) (hlen:len_d=d.length) (hlt:∀e∈d,e<18446744073709551616) (hbig:len_d<=281474976710656):Calls Tryz.prog 134 [(.slice (some ⟨b_d,off_d,none⟩) len_d cap_d),(.int .u64 ((dv:Nat):Int))].toArray w (RetO S0 w0 S b_d 29 rest_d H0 (λS v ds=>v= .int .u64 (((val W64 d%dv:Nat):Int))/\ds.length=d.length/\(∀e∈ds,e<18446744073709551616)/\val W64 ds=val W64 d / dv)):=by
 refine ZB (n:=28) Tryz.func134 rfl rfl ?_;intro ac0 L0;replace L0:ZL ac0 28 [(0,(.slice (some ⟨b_d,off_d,none⟩) len_d cap_d)),(1,(.int .u64 (dv:Int)))]:=L0;refine wp_seq (Za (sa L0 rfl ?_));intro _ L1;refine sn (wp_seq (Za (sa L1 rfl ?_)));intro _ L2;refine sn (wp_seq (wp_seq (Za (sm L2 rfl ?_))));intro _ L3;refine so L3 rfl (ZC L3 rfl Tryz.underlying30 λ_ L4=>so L4 rfl (ZN L4 rfl rfl Xr λ_ L5=>sa L5 rfl λ_ L6=>sn (wp_block ?_)));refine ZO (λm ac ww=>∃(S':Sh) (us:List Nat) (k:Nat) (r:Nat),S.le S'/\ZL ac 28 [(0,(.slice (some ⟨b_d,off_d,none⟩) len_d cap_d)),(1,(.int .u64 ((dv:Nat):Int))),(4,(.int .u64 (0:Int))),(5,(.int .u64 ((r:Nat):Int))),(6,(.int .i64 (((k:Nat):Int) - (1:Int))))]/\Run S0 w0 S' ((b_d,29,(Yw us++rest_d))::H0) ww/\(Za5 d us dv k r)/\m=k) (d.length) ⟨S,d,d.length,0,Sh.le.refl _,(((L6.ri 5 ((0:Nat):Int) rfl).a ((L6.ri 6 (((d.length:Nat):Int) - (1:Int)) rfl).a L6)).kp [6,5,4,1,0] rfl),R0,(by exact Za5.start hlt h0),rfl⟩ ?_;rintro m_1 ac1 _ ⟨S1,us,k,r,l1,L7,R1,hI,m1⟩;refine wp_seq (wp_seq (Za (sm L7 rfl ?_)));intro _ L10;by_cases t1:(0:Int)<=((k:Int) - (1:Int));refine so L10 rfl (bT t1 (λ_=>YA L10 rfl rfl) λ_ L11=>sn (Zm L11 rfl rfl (wp_skip ((Zb (wp_seq (wp_block ?_)))))));have hIe:=hI.le;have hIl:=hI.len;have hIr:=hI.hr;refine Za (sm L11 rfl ?_);intro _ L12;refine sm L12 rfl λ_ L13=>sm L13 rfl λ_ L14=>sm L14 rfl λ_ L15=>sm L15 rfl λ_ L16=>so L16 rfl (Zp ((k - 1)) L16 rfl rfl Tryz.underlying30 ZE (by omega) (by omega) λ_ L17=>so L17 rfl (Zj (v:=(.int .u64 ((us.getD (off_d+((k - 1))) 0:Nat):Int))) L17 rfl Yu (R1.has (List.Mem.head _)) (Yd (by omega)) λ_ L18=>sm L18 rfl λ_ L19=>?_));refine so L19 rfl (Zh L19 rfl ent_161 (Zd6 R1.holds (h:=r) (lo:=(us.getD (off_d+((k - 1))) 0)) (y:=dv) (by omega) (ZS hI.lt (by decide) _) (by omega)) λv_1 S2 _ x1 v1=>?_);have R2:=R1.call x1;have l2:=x1.le;obtain rfl:=v1;intro _ L20;refine sm L20 rfl λ_ L21=>so L21 rfl (Zk L21 rfl rfl λ_ L22=>so L22 rfl (Zk L22 rfl rfl λ_ L23=>so L23 rfl (Zp ((k - 1)) L23 rfl rfl Tryz.underlying30 ZE (by omega) (by omega) λ_ L24=>Zv L24 rfl rfl (Yi (cs':=(Yw (us.set (off_d+((k - 1))) (((r*18446744073709551616+(us.getD (off_d+((k - 1))) 0)) / dv)))++rest_d)) L24 rfl rfl R2 ZE rfl (by simp only[List.length_append,ZM];omega) (by exact Xg (by omega)) λ_ R3 _ L25=>sa L25 rfl λ_ L26=>Ye ((Zy (Zb ?_)))))));refine Za (sm L26 rfl ?_);intro _ L27;exact so L27 rfl (ZN L27 rfl rfl Xr λ_ L28=>sa L28 rfl λ_ L29=>sn (⟨(k - 1),(by omega),S2,(us.set (off_d+((k - 1))) (((r*18446744073709551616+(us.getD (off_d+((k - 1))) 0)) / dv))),(k - 1),((r*18446744073709551616+(us.getD (off_d+((k - 1))) 0))%dv),(l1.trans l2),(((L29.ri 5 ((((r*18446744073709551616+(us.getD (off_d+((k - 1))) 0))%dv):Nat):Int) rfl).a ((L29.ri 6 ((((k - 1):Nat):Int) - (1:Int)) rfl).a L29)).kp [6,5,4,1,0] rfl),R3,(by exact hI.step (by omega) (by omega) rfl rfl hlt),rfl⟩));refine so L10 rfl (bF t1 (λ_=>YA L10 rfl rfl) λ_ L32=>sn (Zi L32 rfl rfl (wp_exit ((Zq (Zq (Yx (Zb (wp_seq (Za (sm L32 rfl λ_ L33=>sa L33 rfl λ_ L34=>sn (wp_ret ((Zn (rs:=Tryz.f134.results.toList) (L34.kp [4] rfl) rfl (.tmp rfl Res.nil) ?_))))))))))))));have hIe:=hI.le;obtain rfl:k=0:=by omega
 obtain⟨hq_,hr_⟩:=hI.done;exact⟨_,S1,us,rfl,l1,R1,⟨by rw[<-hr_];rfl,by exact hI.len,by exact hI.lt,by exact hq_⟩⟩
set_option maxRecDepth 20000 in
theorem nat_away {S0 S:Sh} {w0 w:World} {H0:Own} {b_p off_p len_p cap_p:Nat} {p:List Nat} {rest_p:List Value} {p_u:Option Addr} {len_u cap_u:Nat} {u:List Nat} (hd_u:Dg S p_u len_u cap_u u) {d:Nat} (R0:Run S0 w0 S ((b_p,29,(Yw p++rest_p))::H0) w) (hlt:∀e∈p,e<18446744073709551616) (hfit:off_p+len_p<=p.length) (hul:len_u<len_p) (hd:d<18446744073709551616) (hlp:len_p<=1099511627777):Calls Tryz.prog 165 [(.slice (some ⟨b_p,off_p,none⟩) len_p cap_p),(.slice p_u len_u cap_u),(.int .u64 ((d:Nat):Int))].toArray w (RetO S0 w0 S b_p 29 rest_p H0 (λS v ds=>∃(bw:Nat),v= .bool (decide (bw≠0))/\ds.length=p.length/\(∀e∈ds,e<18446744073709551616)/\bw<=1/\val W64 ds+W64^off_p*(val W64 u*d)=val W64 p+W64^(off_p+len_p)*bw/\(∀j,j<off_p\/off_p+len_p<=j->ds.getD j 0=p.getD j 0))):=by
 refine ZB (n:=56) Tryz.func165 rfl rfl ?_;intro ac0 L0;replace L0:ZL ac0 56 [(0,(.slice (some ⟨b_p,off_p,none⟩) len_p cap_p)),(1,(.slice p_u len_u cap_u)),(2,(.int .u64 (d:Int)))]:=L0;have hl_u:=hd_u.hlen;have hc_u:=hd_u.hcap;have hg_u:=hd_u.hbig;refine wp_seq (Za (sa L0 rfl ?_));intro _ L1;refine sn (wp_seq (Za (sa L1 rfl ?_)));intro _ L2;refine sa L2 rfl λ_ L3=>sn (wp_seq (wp_seq (Za (sm L3 rfl λ_ L4=>so L4 rfl (ZC L4 rfl Tryz.underlying30 λ_ L5=>sm L5 rfl λ_ L6=>sn ?_)))));refine wp_block ?_;have L8:=L6.ri 7 ((0:Nat):Int) rfl;refine ZO (λm ac ww=>∃(S':Sh) (us:List Nat) (i:Nat) (c:Nat) (bo:Nat),S.le S'/\ZL ac 56 [(0,(.slice (some ⟨b_p,off_p,none⟩) len_p cap_p)),(1,(.slice p_u len_u cap_u)),(2,(.int .u64 ((d:Nat):Int))),(6,(.bool false)),(7,(.int .u64 ((c:Nat):Int))),(8,(.int .u64 ((bo:Nat):Int))),(14,(.int .i64 ((len_p:Nat):Int))),(15,(.int .i64 ((i:Nat):Int)))]/\Run S0 w0 S' ((b_p,29,(Yw us++rest_p))::H0) ww/\(Zfx p u us off_p d i c bo)/\(i<=len_p)/\m=len_p - i) (len_p - 0) ⟨S,p,0,0,0,Sh.le.refl _,((L8.a ((L6.ri 8 ((0:Nat):Int) rfl).a ((L6.ri 15 ((0:Nat):Int) rfl).a L6))).kp [15,14,8,7,6,2,1,0] rfl),R0,(by exact Zfx.start hlt),(by omega),rfl⟩ ?_;rintro m_1 ac1 _ ⟨S1,us,i,c,bo,l1,L7,R1,hI,hi,m1⟩;refine wp_seq (Za ?_);by_cases t1:(i:Int)<(len_p:Int);refine so L7 rfl (bT t1 (λ_=>Zu L7 rfl rfl) λ_ L11=>sn (wp_seq (Zm L11 rfl rfl (wp_skip ((Zb (wp_seq (wp_block (wp_seq ?_)))))))));have hms:=(mul_step (x:=u.getD i 0) (y:=d) (c:=c) (u:=0) (ZS hd_u.hlt (by decide) _) hd hI.hc (by decide)).1;have hIl:=hI.len;have hIb:=hI.hb;have hIc:=hI.hc;refine Za (sm L11 rfl ?_);intro _ L12;refine sa L12 rfl λ_ L13=>sn (wp_seq (Za (sa L13 rfl λ_ L14=>sa L14 rfl λ_ L15=>sa L15 rfl λ_ L16=>sn (wp_seq ?_))));refine wp_seq (Za (sm L16 rfl ?_));intro _ L17;refine sm L17 rfl λ_ L18=>so L18 rfl (ZC L18 rfl Tryz.underlying30 λ_ L19=>?_);by_cases t2:(i:Int)<(len_u:Int);refine so L19 rfl (bT t2 (λ_=>Zu L19 rfl rfl) λ_ L20=>sn (Zm L20 rfl rfl (Za (sm L20 rfl λ_ L21=>sm L21 rfl λ_ L22=>?_))));obtain⟨b1,rest_1,rfl,r1⟩:=(hd_u.up l1).row (by omega);refine so L22 rfl (Zp (i) L22 rfl rfl Tryz.underlying30 ZE (by omega) (by omega) λ_ L23=>so L23 rfl (Zj (v:=(.int .u64 ((u.getD (i) 0:Nat):Int))) L23 rfl Yu (R1.row r1) (by rw[Nat.zero_add];exact Yd (by omega)) λ_ L24=>sm L24 rfl λ_ L25=>so L25 rfl (Zh L25 rfl ent_139 (Zac R1.holds (x:=(u.getD (i) 0)) (y:=d) (ZS hd_u.hlt (by decide) _) (hd)) λv_1 S2 _ x1 v1=>?_)));have R2:=R1.call x1;have l2:=x1.le;obtain rfl:=v1;intro _ L26;refine sm L26 rfl λ_ L27=>so L27 rfl (Zk L27 rfl rfl λ_ L28=>so L28 rfl (Zk L28 rfl rfl λ_ L29=>sa L29 rfl λ_ L30=>sa L30 rfl λ_ L31=>sn (wp_seq (Za ?_))));refine sm L31 rfl λ_ L32=>sm L32 rfl λ_ L33=>so L33 rfl (YU (x:=((u.getD (i) 0)*d%18446744073709551616)) (y:=c) (c:=0) L33 rfl (by omega) λ_ L34=>sm L34 rfl λ_ L35=>so L35 rfl (Zk L35 rfl rfl λ_ L36=>so L36 rfl (Zk L36 rfl rfl λ_ L37=>sa L37 rfl λ_ L38=>?_)));refine sa L38 rfl λ_ L39=>sn (wp_seq (Za (sm L39 rfl λ_ L40=>sm L40 rfl λ_ L41=>so L41 rfl (Zz L41 rfl rfl Zae λ_ L42=>sa L42 rfl λ_ L43=>?_))));refine sn (Za (sm L43 rfl ?_));intro _ L44;refine sm L44 rfl λ_ L45=>sm L45 rfl λ_ L46=>sm L46 rfl λ_ L47=>so L47 rfl (Zp (i) L47 rfl rfl Tryz.underlying30 ZE (by omega) (by omega) λ_ L48=>so L48 rfl (Zj (v:=(.int .u64 ((us.getD (off_p+(i)) 0:Nat):Int))) L48 rfl Yu (R2.has (List.Mem.head _)) (Yd (by omega)) λ_ L49=>sm L49 rfl λ_ L50=>sm L50 rfl λ_ L51=>?_));refine so L51 rfl (Ze1 (x:=(us.getD (off_p+(i)) 0)) (y:=((((u.getD (i) 0)*d%18446744073709551616)+c+0)%18446744073709551616)) (c:=bo) L51 rfl (by omega) λ_ L52=>sm L52 rfl λ_ L53=>so L53 rfl (Zk L53 rfl rfl λ_ L54=>so L54 rfl (Zk L54 rfl rfl λ_ L55=>so L55 rfl (Zp (i) L55 rfl rfl Tryz.underlying30 ZE (by omega) (by omega) λ_ L56=>Zv L56 rfl rfl (Yi (cs':=(Yw (us.set (off_p+(i)) ((((us.getD (off_p+(i)) 0)+18446744073709551616 - ((((u.getD (i) 0)*d%18446744073709551616)+c+0)%18446744073709551616) - bo)%18446744073709551616)))++rest_p)) L56 rfl rfl R2 ZE rfl (by simp only[List.length_append,ZM];omega) (by exact Xg (by omega)) λ_ R3 _ L57=>sa L57 rfl λ_ L58=>?_)))));refine Ye ((Zy (Zb (Za (so L58 rfl (Zz L58 rfl rfl Xr ?_))))));intro _ L59;exact sm L59 rfl λ_ L60=>sn (⟨len_p - (i+1),(by omega),S2,(us.set (off_p+(i)) ((((us.getD (off_p+(i)) 0)+18446744073709551616 - ((((u.getD (i) 0)*d%18446744073709551616)+c+0)%18446744073709551616) - bo)%18446744073709551616))),(i+1),(((u.getD (i) 0)*d / 18446744073709551616)+((((u.getD (i) 0)*d%18446744073709551616)+c+0) / 18446744073709551616)),(if(us.getD (off_p+(i)) 0)<((((u.getD (i) 0)*d%18446744073709551616)+c+0)%18446744073709551616)+bo then 1 else 0),(l1.trans l2),(((L60.ri 7 (((((u.getD (i) 0)*d / 18446744073709551616)+((((u.getD (i) 0)*d%18446744073709551616)+c+0) / 18446744073709551616)):Nat):Int) rfl).a ((L60.ri 8 (((if(us.getD (off_p+(i)) 0)<((((u.getD (i) 0)*d%18446744073709551616)+c+0)%18446744073709551616)+bo then 1 else 0):Nat):Int) rfl).a ((L60.ri 15 (((i+1):Nat):Int) rfl).a L60))).kp [15,14,8,7,6,2,1,0] rfl),R3,(by first|(obtain⟨hs1,hs2⟩:=sub_step (x:=us.getD (off_p+(i)) 0) (l:=(u.getD (i) 0*d%18446744073709551616+c+0)%18446744073709551616) (b:=bo) (ZS hI.lt (by decide) _) (Nat.mod_lt _ (by decide)) hI.hb;exact hI.step rfl (by omega) (Nat.mod_lt _ (by decide)) (by omega) hs2 (by omega) hs1 (λ_=>by omega))|(obtain⟨hs1,hs2⟩:=sub_step (x:=us.getD (off_p+(i)) 0) (l:=(0+c+0)%18446744073709551616) (b:=bo) (ZS hI.lt (by decide) _) (Nat.mod_lt _ (by decide)) hI.hb;exact hI.step rfl (by omega) (Nat.mod_lt _ (by decide)) (by omega) hs2 (by rw[Zah (y:=u) (i:=i) (by omega)];omega) hs1 (λ_=>by omega))),(by omega),rfl⟩);refine so L19 rfl (bF t2 (λ_=>Zu L19 rfl rfl) λ_ L64=>sn (Zi L64 rfl rfl (wp_skip ((Zb (wp_seq (Za (sm L64 rfl λ_ L65=>sm L65 rfl λ_ L66=>so L66 rfl (YU (x:=0) (y:=c) (c:=0) L66 rfl (by omega) λ_ L67=>?_)))))))));refine sm L67 rfl λ_ L68=>so L68 rfl (Zk L68 rfl rfl λ_ L69=>so L69 rfl (Zk L69 rfl rfl λ_ L70=>sa L70 rfl λ_ L71=>sa L71 rfl λ_ L72=>sn (wp_seq (Za ?_))));refine sm L72 rfl λ_ L73=>sm L73 rfl λ_ L74=>so L74 rfl (Zz L74 rfl rfl Zae λ_ L75=>sa L75 rfl λ_ L76=>sn (Za (sm L76 rfl λ_ L77=>sm L77 rfl λ_ L78=>?_)));refine sm L78 rfl λ_ L79=>sm L79 rfl λ_ L80=>so L80 rfl (Zp (i) L80 rfl rfl Tryz.underlying30 ZE (by omega) (by omega) λ_ L81=>so L81 rfl (Zj (v:=(.int .u64 ((us.getD (off_p+(i)) 0:Nat):Int))) L81 rfl Yu (R1.has (List.Mem.head _)) (Yd (by omega)) λ_ L82=>sm L82 rfl λ_ L83=>sm L83 rfl λ_ L84=>so L84 rfl (Ze1 (x:=(us.getD (off_p+(i)) 0)) (y:=((0+c+0)%18446744073709551616)) (c:=bo) L84 rfl (by omega) λ_ L85=>?_)));refine sm L85 rfl λ_ L86=>so L86 rfl (Zk L86 rfl rfl λ_ L87=>so L87 rfl (Zk L87 rfl rfl λ_ L88=>so L88 rfl (Zp (i) L88 rfl rfl Tryz.underlying30 ZE (by omega) (by omega) λ_ L89=>Zv L89 rfl rfl (Yi (cs':=(Yw (us.set (off_p+(i)) ((((us.getD (off_p+(i)) 0)+18446744073709551616 - ((0+c+0)%18446744073709551616) - bo)%18446744073709551616)))++rest_p)) L89 rfl rfl R1 ZE rfl (by simp only[List.length_append,ZM];omega) (by exact Xg (by omega)) λ_ R4 _ L90=>sa L90 rfl λ_ L91=>Ye ((Zy (Zb ?_)))))));refine Za (so L91 rfl (Zz L91 rfl rfl Xr ?_));intro _ L92;exact sm L92 rfl λ_ L93=>sn (⟨len_p - (i+1),(by omega),S1,(us.set (off_p+(i)) ((((us.getD (off_p+(i)) 0)+18446744073709551616 - ((0+c+0)%18446744073709551616) - bo)%18446744073709551616))),(i+1),(0+((0+c+0) / 18446744073709551616)),(if(us.getD (off_p+(i)) 0)<((0+c+0)%18446744073709551616)+bo then 1 else 0),l1,(((L93.ri 7 (((0+((0+c+0) / 18446744073709551616)):Nat):Int) rfl).a ((L93.ri 8 (((if(us.getD (off_p+(i)) 0)<((0+c+0)%18446744073709551616)+bo then 1 else 0):Nat):Int) rfl).a ((L93.ri 15 (((i+1):Nat):Int) rfl).a L93))).kp [15,14,8,7,6,2,1,0] rfl),R4,(by first|(obtain⟨hs1,hs2⟩:=sub_step (x:=us.getD (off_p+(i)) 0) (l:=(u.getD (i) 0*d%18446744073709551616+c+0)%18446744073709551616) (b:=bo) (ZS hI.lt (by decide) _) (Nat.mod_lt _ (by decide)) hI.hb;exact hI.step rfl (by omega) (Nat.mod_lt _ (by decide)) (by omega) hs2 (by omega) hs1 (λ_=>by omega))|(obtain⟨hs1,hs2⟩:=sub_step (x:=us.getD (off_p+(i)) 0) (l:=(0+c+0)%18446744073709551616) (b:=bo) (ZS hI.lt (by decide) _) (Nat.mod_lt _ (by decide)) hI.hb;exact hI.step rfl (by omega) (Nat.mod_lt _ (by decide)) (by omega) hs2 (by rw[Zah (y:=u) (i:=i) (by omega)];omega) hs1 (λ_=>by omega))),(by omega),rfl⟩);refine so L7 rfl (bF t1 (λ_=>Zu L7 rfl rfl) λ_ L97=>sn (wp_seq (Zi L97 rfl rfl (wp_exit ((Zq (Zq (Yx (Zb (wp_seq (Za (sm L97 rfl λ_ L98=>?_))))))))))));by_cases t3:¬(bo:Int)=(0:Int);refine so L98 rfl (bT t3 (λ_=>Ym L98 rfl rfl) λ_ L99=>sa L99 rfl λ_ L100=>sn (wp_ret ((Zn (rs:=Tryz.f165.results.toList) (L100.kp [6] rfl) rfl (.tmp rfl Res.nil) ?_))));obtain rfl:i=len_p:=by omega
 have hc0:=hI.cz (by omega);have hs:=hI.sum;rw[hc0,Nat.zero_add,List.take_of_length_le (by omega)] at hs;exact⟨_,S1,us,rfl,l1,R1,⟨bo,by first|exact congrArg Value.bool (decide_eq_true (by omega)).symm|exact congrArg Value.bool (decide_eq_false (by omega)).symm,by exact hI.len,by exact hI.lt,by exact hI.hb,by exact hs,by exact hI.out⟩⟩;refine so L98 rfl (bF t3 (λ_=>Ym L98 rfl rfl) λ_ L102=>sa L102 rfl λ_ L103=>sn (wp_ret ((Zn (rs:=Tryz.f165.results.toList) (L103.kp [6] rfl) rfl (.tmp rfl Res.nil) ?_))));obtain rfl:i=len_p:=by omega
 have hc0:=hI.cz (by omega);have hs:=hI.sum;rw[hc0,Nat.zero_add,List.take_of_length_le (by omega)] at hs;exact⟨_,S1,us,rfl,l1,R1,⟨bo,by first|exact congrArg Value.bool (decide_eq_true (by omega)).symm|exact congrArg Value.bool (decide_eq_false (by omega)).symm,by exact hI.len,by exact hI.lt,by exact hI.hb,by exact hs,by exact hI.out⟩⟩
set_option maxRecDepth 20000 in
theorem nat_back {S0 S:Sh} {w0 w:World} {H0:Own} {b_p off_p len_p cap_p:Nat} {p:List Nat} {rest_p:List Value} {p_u:Option Addr} {len_u cap_u:Nat} {u:List Nat} (hd_u:Dg S p_u len_u cap_u u) (R0:Run S0 w0 S ((b_p,29,(Yw p++rest_p))::H0) w) (hlt:∀e∈p,e<18446744073709551616) (hfit:off_p+len_p<=p.length) (hul:len_u<len_p) (hlp:len_p<=1099511627777):Calls Tryz.prog 166 [(.slice (some ⟨b_p,off_p,none⟩) len_p cap_p),(.slice p_u len_u cap_u)].toArray w (RetO S0 w0 S b_p 29 rest_p H0 (λS v ds=>∃(cy:Nat),v= .tuple #[]/\ds.length=p.length/\(∀e∈ds,e<18446744073709551616)/\cy<=1/\val W64 ds+W64^(off_p+len_p)*cy=val W64 p+W64^off_p*val W64 u/\(∀j,j<off_p\/off_p+len_p<=j->ds.getD j 0=p.getD j 0))):=by
 refine ZB (n:=34) Tryz.func166 rfl rfl ?_;intro ac0 L0;replace L0:ZL ac0 34 [(0,(.slice (some ⟨b_p,off_p,none⟩) len_p cap_p)),(1,(.slice p_u len_u cap_u))]:=L0;have hl_u:=hd_u.hlen;have hc_u:=hd_u.hcap;have hg_u:=hd_u.hbig;refine wp_seq (Za (sa L0 rfl ?_));intro _ L1;refine sn (wp_seq (Za (sm L1 rfl ?_)));intro _ L2;refine so L2 rfl (ZC L2 rfl Tryz.underlying30 λ_ L3=>sm L3 rfl λ_ L4=>sn (wp_block ?_));refine ZO (λm ac ww=>∃(S':Sh) (us:List Nat) (i:Nat) (c:Nat),S.le S'/\ZL ac 34 [(0,(.slice (some ⟨b_p,off_p,none⟩) len_p cap_p)),(1,(.slice p_u len_u cap_u)),(4,(.int .u64 ((c:Nat):Int))),(8,(.int .i64 ((len_p:Nat):Int))),(9,(.int .i64 ((i:Nat):Int)))]/\Run S0 w0 S' ((b_p,29,(Yw us++rest_p))::H0) ww/\(Zfw p u us off_p i c)/\(i<=len_p)/\m=len_p - i) (len_p - 0) ⟨S,p,0,0,Sh.le.refl _,(((L4.ri 4 ((0:Nat):Int) rfl).a ((L4.ri 9 ((0:Nat):Int) rfl).a L4)).kp [9,8,4,1,0] rfl),R0,(by exact Zfw.start hlt),(by omega),rfl⟩ ?_;rintro m_1 ac1 _ ⟨S1,us,i,c,l1,L5,R1,hI,hi,m1⟩;refine wp_seq (Za ?_);by_cases t1:(i:Int)<(len_p:Int);refine so L5 rfl (bT t1 (λ_=>Zu L5 rfl rfl) λ_ L8=>sn (wp_seq (Zm L8 rfl rfl (wp_skip ((Zb (wp_seq (wp_block (wp_seq ?_)))))))));have hIl:=hI.len;have hIc:=hI.hc;have hx1:=ZS hI.lt (show 0<18446744073709551616 by decide) (off_p+(i));have hx2:=ZS hd_u.hlt (show 0<18446744073709551616 by decide) i;refine Za (sm L8 rfl ?_);intro _ L9;refine sa L9 rfl λ_ L10=>sn (wp_seq (Za (sa L10 rfl λ_ L11=>sn (wp_seq (wp_seq (Za (sm L11 rfl λ_ L12=>?_)))))));refine sm L12 rfl λ_ L13=>so L13 rfl (ZC L13 rfl Tryz.underlying30 λ_ L14=>?_);by_cases t2:(i:Int)<(len_u:Int);refine so L14 rfl (bT t2 (λ_=>Zu L14 rfl rfl) λ_ L15=>sn (Zm L15 rfl rfl (Za (sm L15 rfl λ_ L16=>sm L16 rfl λ_ L17=>?_))));obtain⟨b1,rest_1,rfl,r1⟩:=(hd_u.up l1).row (by omega);refine so L17 rfl (Zp (i) L17 rfl rfl Tryz.underlying30 ZE (by omega) (by omega) λ_ L18=>so L18 rfl (Zj (v:=(.int .u64 ((u.getD (i) 0:Nat):Int))) L18 rfl Yu (R1.row r1) (by rw[Nat.zero_add];exact Yd (by omega)) λ_ L19=>sa L19 rfl λ_ L20=>sn (Za (sm L20 rfl λ_ L21=>sm L21 rfl λ_ L22=>sm L22 rfl λ_ L23=>?_))));refine sm L23 rfl λ_ L24=>so L24 rfl (Zp (i) L24 rfl rfl Tryz.underlying30 ZE (by omega) (by omega) λ_ L25=>so L25 rfl (Zj (v:=(.int .u64 ((us.getD (off_p+(i)) 0:Nat):Int))) L25 rfl Yu (R1.has (List.Mem.head _)) (Yd (by omega)) λ_ L26=>sm L26 rfl λ_ L27=>sm L27 rfl λ_ L28=>so L28 rfl (YU (x:=(us.getD (off_p+(i)) 0)) (y:=(u.getD (i) 0)) (c:=c) L28 rfl (by omega) λ_ L29=>sm L29 rfl λ_ L30=>?_)));refine so L30 rfl (Zk L30 rfl rfl λ_ L31=>so L31 rfl (Zk L31 rfl rfl λ_ L32=>so L32 rfl (Zp (i) L32 rfl rfl Tryz.underlying30 ZE (by omega) (by omega) λ_ L33=>Zv L33 rfl rfl (Yi (cs':=(Yw (us.set (off_p+(i)) ((((us.getD (off_p+(i)) 0)+(u.getD (i) 0)+c)%18446744073709551616)))++rest_p)) L33 rfl rfl R1 ZE rfl (by simp only[List.length_append,ZM];omega) (by exact Xg (by omega)) λ_ R2 _ L34=>sa L34 rfl λ_ L35=>Ye ((Zy (Zb (Za (so L35 rfl (Zz L35 rfl rfl Xr λ_ L36=>?_))))))))));exact sm L36 rfl λ_ L37=>sn (⟨len_p - (i+1),(by omega),S1,(us.set (off_p+(i)) ((((us.getD (off_p+(i)) 0)+(u.getD (i) 0)+c)%18446744073709551616))),(i+1),(((us.getD (off_p+(i)) 0)+(u.getD (i) 0)+c) / 18446744073709551616),l1,(((L37.ri 4 (((((us.getD (off_p+(i)) 0)+(u.getD (i) 0)+c) / 18446744073709551616):Nat):Int) rfl).a ((L37.ri 9 (((i+1):Nat):Int) rfl).a L37)).kp [9,8,4,1,0] rfl),R2,(by first|exact hI.step rfl (by omega) (Nat.mod_lt _ (by decide)) (by omega) (by omega)|exact hI.step rfl (by omega) (Nat.mod_lt _ (by decide)) (by omega) (by rw[Zah (y:=u) (i:=i) (by omega)];omega)),(by omega),rfl⟩);refine so L14 rfl (bF t2 (λ_=>Zu L14 rfl rfl) λ_ L40=>sn (Zi L40 rfl rfl (wp_skip ((Zb (Za (sm L40 rfl λ_ L41=>sm L41 rfl λ_ L42=>sm L42 rfl λ_ L43=>sm L43 rfl λ_ L44=>?_)))))));refine so L44 rfl (Zp (i) L44 rfl rfl Tryz.underlying30 ZE (by omega) (by omega) λ_ L45=>so L45 rfl (Zj (v:=(.int .u64 ((us.getD (off_p+(i)) 0:Nat):Int))) L45 rfl Yu (R1.has (List.Mem.head _)) (Yd (by omega)) λ_ L46=>sm L46 rfl λ_ L47=>sm L47 rfl λ_ L48=>so L48 rfl (YU (x:=(us.getD (off_p+(i)) 0)) (y:=0) (c:=c) L48 rfl (by omega) λ_ L49=>sm L49 rfl λ_ L50=>so L50 rfl (Zk L50 rfl rfl λ_ L51=>?_))));refine so L51 rfl (Zk L51 rfl rfl λ_ L52=>so L52 rfl (Zp (i) L52 rfl rfl Tryz.underlying30 ZE (by omega) (by omega) λ_ L53=>Zv L53 rfl rfl (Yi (cs':=(Yw (us.set (off_p+(i)) ((((us.getD (off_p+(i)) 0)+0+c)%18446744073709551616)))++rest_p)) L53 rfl rfl R1 ZE rfl (by simp only[List.length_append,ZM];omega) (by exact Xg (by omega)) λ_ R3 _ L54=>sa L54 rfl λ_ L55=>Ye ((Zy (Zb (Za (so L55 rfl (Zz L55 rfl rfl Xr λ_ L56=>sm L56 rfl λ_ L57=>?_)))))))));exact sn (⟨len_p - (i+1),(by omega),S1,(us.set (off_p+(i)) ((((us.getD (off_p+(i)) 0)+0+c)%18446744073709551616))),(i+1),(((us.getD (off_p+(i)) 0)+0+c) / 18446744073709551616),l1,(((L57.ri 4 (((((us.getD (off_p+(i)) 0)+0+c) / 18446744073709551616):Nat):Int) rfl).a ((L57.ri 9 (((i+1):Nat):Int) rfl).a L57)).kp [9,8,4,1,0] rfl),R3,(by first|exact hI.step rfl (by omega) (Nat.mod_lt _ (by decide)) (by omega) (by omega)|exact hI.step rfl (by omega) (Nat.mod_lt _ (by decide)) (by omega) (by rw[Zah (y:=u) (i:=i) (by omega)];omega)),(by omega),rfl⟩);refine so L5 rfl (bF t1 (λ_=>Zu L5 rfl rfl) λ_ L60=>sn (wp_seq (Zi L60 rfl rfl (wp_exit ((Zq (Zq (Yx (body_end (rs:=Tryz.f166.results.toList) L60 rfl Res.nil ?_)))))))));obtain rfl:i=len_p:=by omega
 have hs:=hI.sum;rw[List.take_of_length_le (by omega)] at hs;exact⟨_,S1,us,rfl,l1,R1,⟨c,by rfl,by exact hI.len,by exact hI.lt,by exact hI.hc,by exact hs,by exact hI.out⟩⟩
end Go.Cham
namespace Go.Cham
open Go Go.RowKit Go.Proofs
set_option maxRecDepth 20000 in
theorem nat_long {S:Sh} {w:World} (hS:ZU S w) {p_da:Option Addr} {len_da cap_da:Nat} {da:List Nat} (hd_da:Dg S p_da len_da cap_da da) {p_db:Option Addr} {len_db cap_db:Nat} {db:List Nat} (hd_db:Dg S p_db len_db cap_db db) {kb:Nat} (h2:2<=len_db) (hn:db.getD (len_db - 1) 0≠0) (hba:len_db<=len_da) (hla:len_da<=34359738368) (hk:val W64 da<=2^kb):Calls Tryz.prog 136 [(.slice p_da len_da cap_da),(.slice p_db len_db cap_db)].toArray w (Ret S w (λS v=>∃(c0:List Value) (c1:List Value),v= .tuple [.agg c0.toArray,.agg c1.toArray].toArray/\Na S c0 (val W64 da / val W64 db) (kb)/\Na S c1 (val W64 da%val W64 db) (kb))):=by
 refine ZB (n:=100) Tryz.func136 rfl rfl ?_;intro ac0 L0;replace L0:ZL ac0 100 [(0,(.slice p_da len_da cap_da)),(1,(.slice p_db len_db cap_db))]:=L0;have R0:Run S w S [] w:=.start hS;have hl_db:=hd_db.hlen;have hc_db:=hd_db.hcap;have hg_db:=hd_db.hbig;have hl_da:=hd_da.hlen;have hc_da:=hd_da.hcap;have hg_da:=hd_da.hbig;refine wp_seq (Za (so L0 rfl (ZJ (cs:=zN1) ZZ R0 rfl ?_)));intro b1 _ R1 _ L1;refine so L1 rfl (ZJ (cs:=zN1) ZZ R1 rfl λb2 _ R2 _ L2=>sn ?_);refine Xf (λac ww=>∃(S':Sh) (s:Nat),S.le S'/\ZL ac 100 [(0,(.slice p_da len_da cap_da)),(1,(.slice p_db len_db cap_db)),(4,(.pointer (some ⟨b1,0,none⟩))),(5,(.pointer (some ⟨b2,0,none⟩))),(6,(.int .i64 ((len_db:Nat):Int))),(7,(.int .i64 ((s:Nat):Int)))]/\Run S w S' [(b2,32,zN1),(b1,32,zN1)] ww/\(s<64)/\(db.getD (len_db - 1) 0*2^s<18446744073709551616)) ?_ ?_
 ·rintro ac1 _ ⟨_,s,l1,L3,R3,hs,htop⟩
  refine wp_seq (Za (sm L3 rfl ?_))
  intro _ L4
  refine sm L4 rfl λ_ L5=>sm L5 rfl λ_ L6=>so L6 rfl (QW L6 rfl ent_163 (nat_up R3.holds (n:=s) (sz:=len_db) (hd_db.up l1) (hs) (by omega) (by omega)) ?_)
  rintro _ _ ⟨v1,_,_,rfl,R4,b3,ds1,rfl,rfl,ho1,ho2,ho3⟩
  refine⟨_,rfl,?_⟩
  have R5:=R3.callN R4;have l2:=R4.ext.le
  have hvlen:=ho1;have hvlt0:=ho2;have hvsum:=ho3
  intro _ L7
  refine sa L7 rfl λ_ L8=>?_
  have L9:=(L8.kp [0,4,5,6,7,8] rfl);clear L8
  refine sn (wp_seq ?_)
  obtain⟨S3,l3,r1,R6⟩:=(R5).freeze
  have hd_1:Dg S3 (some ⟨b3,0,none⟩) len_db len_db ds1:=⟨by first|rfl|omega,by omega,by omega,hvlt0,λ_=>⟨_,_,rfl,r1⟩⟩
  have hv0:W64^len_db*cr db s len_db=0:=by rw[cr_top hs htop];exact Nat.mul_zero _
  have hvv:val W64 ds1=val W64 db*2^s:=by rw[<-hvsum,hv0];rfl
  refine Za (sm L9 rfl ?_)
  intro _ L10
  refine sm L10 rfl λ_ L11=>sm L11 rfl λ_ L12=>so L12 rfl (ZC L12 rfl Tryz.underlying30 λ_ L13=>so L13 rfl (Zz L13 rfl rfl Xr λ_ L14=>so L14 rfl (QW L14 rfl ent_163 (nat_up R6.holds (n:=s) (sz:=(len_da+1)) (hd_da.up (l1.trans (l2.trans l3))) (hs) (by omega) (by omega)) ?_)))
  rintro _ _ ⟨v2,S4,_,rfl,R7,b4,ds2,rfl,rfl,ho4,ho5,ho6⟩
  refine⟨_,rfl,?_⟩
  have R8:=R6.callN R7;have l4:=R7.ext.le
  have hulen:=ho4;have hult:=ho5;have husum:=ho6
  intro _ L15
  refine sa L15 rfl λ_ L16=>?_
  have L17:=(L16.kp [4,5,6,7,8,9] rfl);clear L16
  refine sn ?_
  refine Xf (λac ww=>∃(S':Sh) (mm:Nat),S4.le S'/\ZL ac 100 [(4,(.pointer (some ⟨b1,0,none⟩))),(5,(.pointer (some ⟨b2,0,none⟩))),(6,(.int .i64 ((len_db:Nat):Int))),(7,(.int .i64 ((s:Nat):Int))),(8,(.slice (some ⟨b3,0,none⟩) len_db len_db)),(9,(.slice (some ⟨b4,0,none⟩) (len_da+1) (len_da+1))),(10,(.int .i64 ((mm:Nat):Int)))]/\Run S w S' [(b4,29,(Yw ds2++[])),(b2,32,zN1),(b1,32,zN1)] ww/\(mm+len_db=len_da+1)) ?_ ?_
  ·rintro ac2 _ ⟨S5,mm,l5,L18,R9,hmm⟩
   have hu0:W64^(len_da+1)*cr da s (len_da+1)=0:=by(have e:cr da s (len_da+1)=0:=by(unfold cr;rw[if_neg (by omega),Zah (by omega)];exact Nat.zero_div _));rw[e];exact Nat.mul_zero _
   have huu:val W64 ds2=val W64 da*2^s:=by rw[<-husum,hu0];rfl
   refine wp_seq (Za (sm L18 rfl ?_))
   intro _ L19
   refine so L19 rfl (Xm (m:=mm) (c:=mm) L19 (by first|rfl|(simp[ev,Zal];omega)) (by first|rfl|(simp[ev,Zal];omega)) Tryz.underlying30 QP rfl ZE Za4 (by omega) (by omega) (by omega) R9 λb5 _ R10 _ L20=>?_)
   rw[Zeh] at R10
   refine sa L20 rfl λ_ L21=>sn (wp_seq (wp_seq (Za (sm L21 rfl λ_ L22=>so L22 rfl (ZN L22 rfl rfl Xr λ_ L23=>sa L23 rfl λ_ L24=>?_)))))
   have L25:=(L24.kp [4,5,6,7,8,9,11,12] rfl);clear L24
   refine sn (wp_block ?_)
   obtain⟨hst,hVn,hvtop⟩:=long_start hs hl_da hl_db h2 hba hd_da.hlt hn hvv hvlen (hd_1.up (l4.trans l5)).hlt huu hulen hult hmm
   have hvlt:=(hd_1.up (l4.trans l5)).hlt
   obtain⟨vl,hVe,hvl⟩:=top2 hvlen h2 hvlt
   refine ZO (λm ac ww=>∃(S':Sh) (us:List Nat) (os:List Nat) (kk:Nat),S5.le S'/\ZL ac 100 [(4,(.pointer (some ⟨b1,0,none⟩))),(5,(.pointer (some ⟨b2,0,none⟩))),(6,(.int .i64 ((len_db:Nat):Int))),(7,(.int .i64 ((s:Nat):Int))),(8,(.slice (some ⟨b3,0,none⟩) len_db len_db)),(9,(.slice (some ⟨b4,0,none⟩) (len_da+1) (len_da+1))),(11,(.slice (some ⟨b5,0,none⟩) (mm) (mm))),(12,(.int .i64 (((kk:Nat):Int) - (1:Int))))]/\Run S w S' [(b5,29,(Yw os++[])),(b4,29,(Yw us++[])),(b2,32,zN1),(b1,32,zN1)] ww/\(Zau (val W64 ds1) ds2 us os len_db kk)/\(os.length=mm)/\m=kk)
    (mm) ⟨S5,ds2,(List.replicate (mm) 0),mm,Sh.le.refl _,(L25.kp [12,11,9,8,7,6,5,4] rfl),(Zcg (Zcg (Zcg (Zcg R10)))),(by exact hst),(by simp),rfl⟩ ?_
   rintro m_1 ac3 _ ⟨_,us,os,kk,l6,L26,R11,hI,hol,m1⟩
   refine wp_seq (wp_seq (Za (sm L26 rfl ?_)))
   intro _ L27
   by_cases t1:(0:Int)<=((kk:Int) - (1:Int))
   ·refine so L27 rfl (bT t1 (λ_=>YA L27 rfl rfl) λ_ L28=>sn (Zm L28 rfl rfl (wp_skip ((Zb (wp_seq (wp_block (wp_seq ?_))))))))
    have hle0:=hI.le;have hlo0:=hI.lo;have hlu0:=hI.lu
    refine Za (sm L28 rfl ?_)
    intro _ L29
    refine sm L29 rfl λ_ L30=>sm L30 rfl λ_ L31=>sm L31 rfl λ_ L32=>so L32 rfl (Zz L32 rfl rfl Xr λ_ L33=>so L33 rfl (Zz L33 rfl rfl Xr λ_ L34=>sm L34 rfl λ_ L35=>sm L35 rfl λ_ L36=>?_))
    refine so L36 rfl (Zz L36 rfl rfl Xr λ_ L37=>so L37 rfl (Zz L37 rfl rfl Xr λ_ L38=>so L38 rfl (does_sliceFull (h:=(kk - 1)) (i:=(((kk - 1)+len_db)+1)) (off':=((kk - 1))) (len':=(len_db+1)) L38 rfl rfl rfl rfl Tryz.underlying30 ZE (by omega) (by omega) (by omega) (by omega) (by omega) (by omega) (by omega) λ_ L39=>sa L39 rfl λ_ L40=>sn (wp_seq ?_))))
    have hlo:=hI.lo;have hle:=hI.le;have hlu:=hI.lu
    obtain⟨P,low,pl,hT⟩:=hI.top (by omega) h2 hVn
    have hxv:=knuth_x hT.eP hVe hvl (ZS hvlt (by decide) _) hT.hP
    have hN:val W64 us<W64^((kk - 1)+(len_db+1)):=by(have q:=pow_V hVn hI.bd;rwa [show kk+len_db=(kk - 1)+(len_db+1) by omega] at q)
    have L41:=(L40.kp [4,5,6,7,8,9,11,12,42,43,46,47,48,49,50,51,52,53,54,55,56,13] rfl)
    refine Zx (E0:=[]) (H0:=[(b5,29,(Yw os++[])),(b4,29,(Yw us++[])),(b2,32,zN1),(b1,32,zN1)]) (n:=100) mixed 24 [] (λk=>0) (Zdm [
      .is (.slice (some ⟨b4,((kk - 1)),none⟩) (len_db+1) (len_db+1)),
      .is (.int .i64 (len_db:Int)),
      .is (.pointer (some ⟨b4,(((kk - 1))+(len_db)),none⟩)),
      .is (.int .u64 ((us.getD (((kk - 1))+(len_db)) 0:Nat):Int)),
      .is (.slice (some ⟨b4,((kk - 1)),none⟩) (len_db+1) (len_db+1)),
      .is (.int .i64 (len_db:Int)),
      .is (.int .i64 ((len_db:Int) - (1:Int))),
      .is (.pointer (some ⟨b4,(((kk - 1))+((len_db - 1))),none⟩)),
      .is (.int .u64 ((us.getD (((kk - 1))+((len_db - 1))) 0:Nat):Int)),
      .is (.slice (some ⟨b4,((kk - 1)),none⟩) (len_db+1) (len_db+1)),
      .is (.int .i64 (len_db:Int)),
      .is (.int .i64 ((len_db:Int) - (2:Int))),
      .is (.pointer (some ⟨b4,(((kk - 1))+((len_db - 2))),none⟩)),
      .is (.int .u64 ((us.getD (((kk - 1))+((len_db - 2))) 0:Nat):Int)),
      .is (.slice (some ⟨b3,0,none⟩) len_db len_db),
      .is (.int .i64 (len_db:Int)),
      .is (.int .i64 ((len_db:Int) - (1:Int))),
      .is (.pointer (some ⟨b3,(0+((len_db - 1))),none⟩)),
      .is (.int .u64 ((ds1.getD ((len_db - 1)) 0:Nat):Int)),
      .is (.slice (some ⟨b3,0,none⟩) len_db len_db),
      .is (.int .i64 (len_db:Int)),
      .is (.int .i64 ((len_db:Int) - (2:Int))),
      .is (.pointer (some ⟨b3,(0+((len_db - 2))),none⟩)),
      .is (.int .u64 ((ds1.getD ((len_db - 2)) 0:Nat):Int))]) L41 R11 (by simp) (by simp) (by rfl) (by rfl) (by simp) (ZY ?_) ?_
    ·refine(An ?_ (An ?_ (An ?_ (An ?_ (An ?_ (An ?_ (An ?_ (An ?_ (An ?_ (An ?_ (An ?_ (An ?_ (An ?_ (An ?_ (An ?_ (An ?_ (An ?_ (An ?_ (An ?_ (An ?_ (An ?_ (An ?_ (An ?_ (An ?_ trivial))))))))))))))))))))))))
     ·exact Zc rfl (λ_ _ _ _ _ A1=>(Zf A1.live rfl (A1.same rfl)))
     ·exact Zc rfl (λ_ _ _ _ _ A2=>(Zf A2.live rfl (A2.same rfl)))
     ·refine Zc rfl (λ_ _ _ _ _ A3=>?_)
      obtain⟨_,e1,rfl⟩:=A3.known 0 rfl
      obtain⟨_,e2,rfl⟩:=A3.known 1 rfl
      exact Zp (len_db) ((A3.live.add e1).add e2) rfl rfl Tryz.underlying30 ZE (by omega) (by omega) (A3.same rfl)
     ·refine Zc rfl (λ_ _ _ _ _ A4=>?_)
      obtain⟨_,e3,rfl⟩:=A4.known 2 rfl
      exact Zj (v:=(.int .u64 ((us.getD (((kk - 1))+(len_db)) 0:Nat):Int))) (A4.live.add e3) rfl Yu (A4.run.has (List.mem_append_right _ (List.Mem.tail _ (List.Mem.head _)))) (Yd (by omega)) (A4.same rfl)
     ·exact Zc rfl (λ_ _ _ _ _ A5=>(Zf A5.live rfl (A5.same rfl)))
     ·exact Zc rfl (λ_ _ _ _ _ A6=>(Zf A6.live rfl (A6.same rfl)))
     ·refine Zc rfl (λ_ _ _ _ _ A7=>?_)
      obtain⟨_,e4,rfl⟩:=A7.known 5 rfl
      exact ZN (z:=((len_db:Int) - (1:Int))) (A7.live.add e4) rfl rfl Xr (A7.same rfl)
     ·refine Zc rfl (λ_ _ _ _ _ A8=>?_)
      obtain⟨_,e5,rfl⟩:=A8.known 4 rfl
      obtain⟨_,e6,rfl⟩:=A8.known 6 rfl
      exact Zp ((len_db - 1)) ((A8.live.add e5).add e6) rfl rfl Tryz.underlying30 ZE (by omega) (by omega) (A8.same rfl)
     ·refine Zc rfl (λ_ _ _ _ _ A9=>?_)
      obtain⟨_,e7,rfl⟩:=A9.known 7 rfl
      exact Zj (v:=(.int .u64 ((us.getD (((kk - 1))+((len_db - 1))) 0:Nat):Int))) (A9.live.add e7) rfl Yu (A9.run.has (List.mem_append_right _ (List.Mem.tail _ (List.Mem.head _)))) (Yd (by omega)) (A9.same rfl)
     ·exact Zc rfl (λ_ _ _ _ _ A10=>(Zf A10.live rfl (A10.same rfl)))
     ·exact Zc rfl (λ_ _ _ _ _ A11=>(Zf A11.live rfl (A11.same rfl)))
     ·refine Zc rfl (λ_ _ _ _ _ A12=>?_)
      obtain⟨_,e8,rfl⟩:=A12.known 10 rfl
      exact ZN (z:=((len_db:Int) - (2:Int))) (A12.live.add e8) rfl rfl Xr (A12.same rfl)
     ·refine Zc rfl (λ_ _ _ _ _ A13=>?_)
      obtain⟨_,e9,rfl⟩:=A13.known 9 rfl
      obtain⟨_,e10,rfl⟩:=A13.known 11 rfl
      exact Zp ((len_db - 2)) ((A13.live.add e9).add e10) rfl rfl Tryz.underlying30 ZE (by omega) (by omega) (A13.same rfl)
     ·refine Zc rfl (λ_ _ _ _ _ A14=>?_)
      obtain⟨_,e11,rfl⟩:=A14.known 12 rfl
      exact Zj (v:=(.int .u64 ((us.getD (((kk - 1))+((len_db - 2))) 0:Nat):Int))) (A14.live.add e11) rfl Yu (A14.run.has (List.mem_append_right _ (List.Mem.tail _ (List.Mem.head _)))) (Yd (by omega)) (A14.same rfl)
     ·exact Zc rfl (λ_ _ _ _ _ A15=>(Zf A15.live rfl (A15.same rfl)))
     ·exact Zc rfl (λ_ _ _ _ _ A16=>(Zf A16.live rfl (A16.same rfl)))
     ·refine Zc rfl (λ_ _ _ _ _ A17=>?_)
      obtain⟨_,e12,rfl⟩:=A17.known 15 rfl
      exact ZN (z:=((len_db:Int) - (1:Int))) (A17.live.add e12) rfl rfl Xr (A17.same rfl)
     ·refine Zc rfl (λ_ _ _ _ _ A18=>?_)
      obtain⟨_,e13,rfl⟩:=A18.known 14 rfl
      obtain⟨_,e14,rfl⟩:=A18.known 16 rfl
      exact Zp ((len_db - 1)) ((A18.live.add e13).add e14) rfl rfl Tryz.underlying30 ZE (by omega) (by omega) (A18.same rfl)
     ·refine Zc rfl (λ_ _ _ _ _ A19=>?_)
      obtain⟨_,e15,rfl⟩:=A19.known 17 rfl
      exact Zj (v:=(.int .u64 ((ds1.getD ((len_db - 1)) 0:Nat):Int))) (A19.live.add e15) rfl Yu (A19.run.row (r1.up (l4.trans (l5.trans (l6.trans A19.le))))) (by rw[Nat.zero_add];exact Yd (by omega)) (A19.same rfl)
     ·exact Zc rfl (λ_ _ _ _ _ A20=>(Zf A20.live rfl (A20.same rfl)))
     ·exact Zc rfl (λ_ _ _ _ _ A21=>(Zf A21.live rfl (A21.same rfl)))
     ·refine Zc rfl (λ_ _ _ _ _ A22=>?_)
      obtain⟨_,e16,rfl⟩:=A22.known 20 rfl
      exact ZN (z:=((len_db:Int) - (2:Int))) (A22.live.add e16) rfl rfl Xr (A22.same rfl)
     ·refine Zc rfl (λ_ _ _ _ _ A23=>?_)
      obtain⟨_,e17,rfl⟩:=A23.known 19 rfl
      obtain⟨_,e18,rfl⟩:=A23.known 21 rfl
      exact Zp ((len_db - 2)) ((A23.live.add e17).add e18) rfl rfl Tryz.underlying30 ZE (by omega) (by omega) (A23.same rfl)
     ·refine Zc rfl (λ_ _ _ _ _ A24=>?_)
      obtain⟨_,e19,rfl⟩:=A24.known 22 rfl
      exact Zj (v:=(.int .u64 ((ds1.getD ((len_db - 2)) 0:Nat):Int))) (A24.live.add e19) rfl Yu (A24.run.row (r1.up (l4.trans (l5.trans (l6.trans A24.le))))) (by rw[Nat.zero_add];exact Yd (by omega)) (A24.same rfl)
    ·intro S31 _ _ w33 l7 E1 R12 n1 L66 K1
     obtain⟨_,e20,rfl⟩:=K1 0 (by decide)
     have L67:=L66.add e20;clear L66
     obtain⟨_,e21,rfl⟩:=K1 1 (by decide)
     have L68:=L67.add e21;clear L67
     obtain⟨_,e22,rfl⟩:=K1 2 (by decide)
     have L69:=L68.add e22;clear L68
     obtain⟨_,e23,rfl⟩:=K1 3 (by decide)
     have L70:=L69.add e23;clear L69
     obtain⟨_,e24,rfl⟩:=K1 4 (by decide)
     have L71:=L70.add e24;clear L70
     obtain⟨_,e25,rfl⟩:=K1 5 (by decide)
     have L72:=L71.add e25;clear L71
     obtain⟨_,e26,rfl⟩:=K1 6 (by decide)
     have L73:=L72.add e26;clear L72
     obtain⟨_,e27,rfl⟩:=K1 7 (by decide)
     have L74:=L73.add e27;clear L73
     obtain⟨_,e28,rfl⟩:=K1 8 (by decide)
     have L75:=L74.add e28;clear L74
     obtain⟨_,e29,rfl⟩:=K1 9 (by decide)
     have L76:=L75.add e29;clear L75
     obtain⟨_,e30,rfl⟩:=K1 10 (by decide)
     have L77:=L76.add e30;clear L76
     obtain⟨_,e31,rfl⟩:=K1 11 (by decide)
     have L78:=L77.add e31;clear L77
     obtain⟨_,e32,rfl⟩:=K1 12 (by decide)
     have L79:=L78.add e32;clear L78
     obtain⟨_,e33,rfl⟩:=K1 13 (by decide)
     have L80:=L79.add e33;clear L79
     obtain⟨_,e34,rfl⟩:=K1 14 (by decide)
     have L81:=L80.add e34;clear L80
     obtain⟨_,e35,rfl⟩:=K1 15 (by decide)
     have L82:=L81.add e35;clear L81
     obtain⟨_,e36,rfl⟩:=K1 16 (by decide)
     have L83:=L82.add e36;clear L82
     obtain⟨_,e37,rfl⟩:=K1 17 (by decide)
     have L84:=L83.add e37;clear L83
     obtain⟨_,e38,rfl⟩:=K1 18 (by decide)
     have L85:=L84.add e38;clear L84
     obtain⟨_,e39,rfl⟩:=K1 19 (by decide)
     have L86:=L85.add e39;clear L85
     obtain⟨_,e40,rfl⟩:=K1 20 (by decide)
     have L87:=L86.add e40;clear L86
     obtain⟨_,e41,rfl⟩:=K1 21 (by decide)
     have L88:=L87.add e41;clear L87
     obtain⟨_,e42,rfl⟩:=K1 22 (by decide)
     have L89:=L88.add e42;clear L88
     obtain⟨_,e43,rfl⟩:=K1 23 (by decide)
     have L90:=L89.add e43;clear L89
     have R13:Run _ _ S31 [(b5,29,(Yw os++[])),(b4,29,(Yw us++[])),(b2,32,zN1),(b1,32,zN1)] w33:=Yh R12 n1 [] (by simp) (by simp)
     refine so L90 rfl (Zh L90 rfl ent_164 (nat_guess R13.holds (x:=(us.getD (((kk - 1))+(len_db)) 0)) (y:=(us.getD (((kk - 1))+((len_db - 1))) 0)) (z:=(us.getD (((kk - 1))+((len_db - 2))) 0)) (vh:=(ds1.getD ((len_db - 1)) 0)) (wl:=(ds1.getD ((len_db - 2)) 0)) (hxv) (hvtop) (ZS hvlt (by decide) _) (ZS hI.ltu (by decide) _) (ZS hI.ltu (by decide) _) (ZS hvlt (by decide) _)) λv_3 _ _ x3 v3=>?_)
     have R14:=R13.call x3;have l8:=x3.le
     obtain⟨g1,rfl,hg_1,hg2,hg_3⟩:=v3
     intro _ L91
     refine sa L91 rfl λ_ L92=>sn (wp_seq (wp_seq ?_))
     obtain⟨hgl,hg1,hg3⟩:=guess_or hg_1 hg2 hg_3
     refine Za (sm L92 rfl ?_)
     intro _ L93
     refine sm L93 rfl λ_ L94=>sm L94 rfl λ_ L95=>so L95 rfl (QW L95 rfl ent_165 (nat_away (d:=g1) (hd_1.up (l4.trans (l5.trans (l6.trans (l7.trans l8))))) (by exact(Yg R14)) (hI.ltu) (by omega) (by omega) (hgl) (by omega)) ?_)
     rintro _ _ ⟨v_4,S33,ds3,rfl,l9,R15,v4⟩
     refine⟨v_4,rfl,?_⟩
     obtain⟨bw1,rfl,ho7,ho8,ho9,ho10,ho11⟩:=v4
     have hl1:=ho7;have ht1:=ho8;have hbw:=ho9
     obtain⟨hkn1,hkn2⟩:=knuth hT.eP hT.hpl hVe hvl (K:=18446744073709551616) (by omega) hT.hP hgl hg1 hg3
     have hw0:bw1=0->val W64 us=val W64 ds3+W64^(kk - 1)*(val W64 ds1*g1)/\val W64 ds3<W64^(kk - 1)*val W64 ds1:=λe=>by(have q:=ho10;rw[e] at q;exact long0 hT.e hT.hlow q hkn1)
     have hw1:bw1=1->val W64 ds3+W64^(kk - 1)*(val W64 ds1*g1)=val W64 us+W64^((kk - 1)+(len_db+1)):=λe=>by(have q:=ho10;rw[e,Nat.mul_one] at q;exact q)
     have hwt:val W64 ds3<W64^((kk - 1)+(len_db+1)):=top_lt' hN ho7 (by omega) (λj hj=>ho11 j (Or.inr hj)) ho8
     by_cases hbo:bw1≠0
     ·rw[decide_eq_true hbo]
      intro _ L96
      refine sn (Zm L96 rfl rfl (wp_seq ?_))
      have hwe:=hw1 (by omega)
      have hgp:=long_pos hwe hwt
      refine Za (sm L96 rfl ?_)
      intro _ L97
      refine so L97 rfl (ZN (z:=((g1 - 1:Nat):Int)) L97 rfl rfl (u64_to (by omega) (by omega)) λ_ L98=>sa L98 rfl λ_ L99=>sn (Za (sm L99 rfl λ_ L100=>sm L100 rfl λ_ L101=>so L101 rfl (QW L101 rfl ent_166 (nat_back (hd_1.up (l4.trans (l5.trans (l6.trans (l7.trans (l8.trans l9)))))) (by exact R15) (ht1) (by omega) (by omega) (by omega)) ?_))))
      rintro _ _ ⟨v_5,S34,ds4,rfl,l10,R16,v5⟩
      refine⟨v_5,rfl,?_⟩
      obtain⟨cy1,rfl,ho12,ho13,ho14,ho15,ho16⟩:=v5
      have hwt2:val W64 ds4<W64^((kk - 1)+(len_db+1)):=top_lt' hwt ho12 (by omega) (λj hj=>ho16 j (Or.inr hj)) ho13
      obtain⟨_,hS_e,hS_b⟩:=long1 hT.e hwe hwt hkn2 ho15 hwt2 ho14
      have hl_u:=ho12.trans hl1;have ht_u:=ho13;have hdg:g1 - 1<18446744073709551616:=by omega
      intro _ L102
      refine sn (Za (sm L102 rfl ?_))
      intro _ L103
      refine sm L103 rfl λ_ L104=>sm L104 rfl λ_ L105=>so L105 rfl (Zp ((kk - 1)) L105 rfl rfl Tryz.underlying30 ZE (by omega) (by omega) λ_ L106=>Zv L106 rfl rfl (Yi (cs':=(Yw (os.set ((kk - 1)) ((g1 - 1)))++[])) L106 rfl rfl (Yg R16) ZE rfl (by simp only[List.length_append,ZM];omega) (by rw[Nat.zero_add];exact Xg (by omega)) λ_ R17 _ L107=>Ye ((Zy (Zb (Za (sm L107 rfl λ_ L108=>so L108 rfl (ZN L108 rfl rfl Xr λ_ L109=>?_))))))))
      exact sa L109 rfl λ_ L110=>sn (⟨(kk - 1),(by omega),S34,ds4,(os.set ((kk - 1)) ((g1 - 1))),(kk - 1),(l6.trans (l7.trans (l8.trans (l9.trans l10)))),(((L110.ri 12 ((((kk - 1):Nat):Int) - (1:Int)) rfl).a L110).kp [12,11,9,8,7,6,5,4] rfl),(Zcg (Zcg (Zcg (Zcg R17)))),(by exact hI.next (by omega) hl_u ht_u hdg hS_e hS_b),(by rw[List.length_set];exact hol),rfl⟩)
     ·rw[decide_eq_false hbo]
      intro _ L112
      refine sn (Zi L112 rfl rfl (wp_skip ((Zb ?_))))
      obtain⟨hS_e,hS_b⟩:=hw0 (by omega)
      have hl_u:=hl1;have ht_u:=ht1;have hdg:=hgl
      refine Za (sm L112 rfl ?_)
      intro _ L113
      refine sm L113 rfl λ_ L114=>sm L114 rfl λ_ L115=>so L115 rfl (Zp ((kk - 1)) L115 rfl rfl Tryz.underlying30 ZE (by omega) (by omega) λ_ L116=>Zv L116 rfl rfl (Yi (cs':=(Yw (os.set ((kk - 1)) (g1))++[])) L116 rfl rfl (Yg R15) ZE rfl (by simp only[List.length_append,ZM];omega) (by rw[Nat.zero_add];exact Xg (by omega)) λ_ R18 _ L117=>Ye ((Zy (Zb (Za (sm L117 rfl λ_ L118=>so L118 rfl (ZN L118 rfl rfl Xr λ_ L119=>?_))))))))
      exact sa L119 rfl λ_ L120=>sn (⟨(kk - 1),(by omega),S33,ds3,(os.set ((kk - 1)) (g1)),(kk - 1),(l6.trans (l7.trans (l8.trans l9))),(((L120.ri 12 ((((kk - 1):Nat):Int) - (1:Int)) rfl).a L120).kp [12,11,9,8,7,6,5,4] rfl),(Zcg (Zcg (Zcg (Zcg R18)))),(by exact hI.next (by omega) hl_u ht_u hdg hS_e hS_b),(by rw[List.length_set];exact hol),rfl⟩)
   ·refine so L27 rfl (bF t1 (λ_=>YA L27 rfl rfl) λ_ L122=>sn (Zi L122 rfl rfl (wp_exit ((Zq (Zq (Yx (Zb (wp_seq ?_)))))))))
    have hlu0:=hI.lu
    obtain rfl:kk=0:=by omega
    obtain⟨hd1,hd2⟩:=hI.done
    obtain⟨hq_,hr_⟩:=long_done (b:=val W64 db) (by have q:=val_top hl_db (by omega) hn;exact Nat.lt_of_lt_of_le (Nat.pow_pos (by decide)) q) (Nat.two_pow_pos s) huu (by rw[<-hvv];exact hd1) (by rw[<-hvv];exact hd2)
    refine Za (sm L122 rfl ?_)
    intro _ L123
    obtain⟨S35,l11,r2,R19⟩:=(R11).freeze
    have hd_2:Dg S35 (some ⟨b5,0,none⟩) (mm) (mm) os:=⟨by first|rfl|omega,by omega,by omega,hI.lto,λ_=>⟨_,_,rfl,r2⟩⟩
    refine so L123 rfl (Zh L123 rfl Zc7 (Zc0 R19.holds (k:=kb) hd_2 (by rw[hq_];exact Nat.le_trans (Nat.div_le_self _ _) hk)) λv_6 _ _ x6 v6=>?_)
    have R20:=R19.call x6
    obtain⟨cs_1,rfl,h1⟩:=v6
    intro _ L124
    refine sm L124 rfl λ_ L125=>sm L125 rfl λ_ L126=>?_
    obtain⟨S37,l13,r3,R21⟩:=(R20).freeze
    have hd3:Dg S37 (some ⟨b4,0,none⟩) (len_da+1) (len_da+1) us:=⟨by first|rfl|omega,by omega,by omega,hI.ltu,λ_=>⟨_,_,rfl,r3⟩⟩
    refine so L126 rfl (Zh L126 rfl ent_167 (nat_down R21.holds (n:=s) (k:=kb) hd3 (hs) (by rw[hr_];exact Nat.le_trans (Nat.mod_le _ _) hk) (by omega)) λv_7 _ _ x7 v7=>?_)
    have R22:=R21.call x7;have l14:=x7.le
    obtain⟨c2,rfl,h_2⟩:=v7
    intro _ L127
    exact Zv L127 rfl rfl (Zl L127 rfl rfl (Yg R22) Zo h1.len rfl h1.ones λ_ R23 _ L128=>(Zv L128 rfl rfl (Zl L128 rfl rfl (Yg R23) Zo h_2.len rfl h_2.ones λ_ R24 _ L129=>(sn (wp_ret ((Zn (rs:=Tryz.f136.results.toList) (L129.kp [4,5] rfl) rfl (Res.aggW rfl ZK Zo (R24.has (List.Mem.tail _ (List.Mem.head _))) h1.len (Res.aggW rfl ZK Zo (R24.has (List.Mem.head _)) h_2.len Res.nil)) (⟨_,_,rfl,R24.ext,⟨_,_,rfl,((h1.up (l13.trans l14)).to (by exact hq_) (by omega)),(h_2.to (by exact hr_) (by omega))⟩⟩))))))))
  ·skip
   refine Za (sm L17 rfl ?_)
   intro _ L131
   exact so L131 rfl (ZC L131 rfl Tryz.underlying30 λ_ L132=>sm L132 rfl λ_ L133=>so L133 rfl (ZN L133 rfl rfl Xr λ_ L134=>sa L134 rfl λ_ L135=>sn (⟨S4,((len_da+1) - len_db),Sh.le.refl _,(((L135.ri 10 ((((len_da+1) - len_db):Nat):Int) rfl).a L135).kp [10,9,8,7,6,5,4] rfl),(XC (XC (XC R8))),(by omega)⟩)))
 skip;refine Za (sm L2 rfl ?_);intro _ L137;refine so L137 rfl (ZC L137 rfl Tryz.underlying30 λ_ L138=>sm L138 rfl λ_ L139=>sm L139 rfl λ_ L140=>so L140 rfl (ZC L140 rfl Tryz.underlying30 λ_ L141=>so L141 rfl (ZN L141 rfl rfl Xr λ_ L142=>?_)));obtain⟨b6,rest_1,rfl,r4⟩:=hd_db.row (by omega);refine so L142 rfl (Zp ((len_db - 1)) L142 rfl rfl Tryz.underlying30 ZE (by omega) (by omega) λ_ L143=>so L143 rfl (Zj (v:=(.int .u64 ((db.getD ((len_db - 1)) 0:Nat):Int))) L143 rfl Yu (R2.row r4) (by rw[Nat.zero_add];exact Yd (by omega)) λ_ L144=>so L144 rfl (Zh L144 rfl ent_162 (Za1 R2.holds (x:=(db.getD ((len_db - 1)) 0)) (ZS hd_db.hlt (by decide) _)) λv_8 S39 _ x8 v8=>?_)));have R25:=R2.call x8;have l15:=x8.le;obtain rfl:=v8;intro _ L145;refine sa L145 rfl λ_ L146=>sa L146 rfl λ_ L147=>?_;have L148:=(L147.kp [0,1,4,5,6,7] rfl);clear L147;exact sn (⟨S39,(64 - Zs (db.getD ((len_db - 1)) 0)),l15,(((L148.ri 7 (((64 - Zs (db.getD ((len_db - 1)) 0)):Nat):Int) rfl).a L148).kp [7,6,5,4,1,0] rfl),(Yg (Yg R25)),(by exact(lz hn (ZS hd_db.hlt (by decide) _)).1),(by exact(lz hn (ZS hd_db.hlt (by decide) _)).2)⟩)
end Go.Cham
namespace Go.Cham
open Go Go.RowKit Go.Proofs
set_option maxRecDepth 20000 in
theorem nat_Div {S:Sh} {w:World} (hS:ZU S w) {c_a:List Value} {a:Nat} {k_a:Nat} (h_a:Na S c_a (a) (k_a)) {c_b:List Value} {b:Nat} {k_b:Nat} (h_b:Na S c_b (b) (k_b)) (hlim:k_a<=1099511627776):Calls Tryz.prog 77 [(.agg (c_a:List Value).toArray),(.agg (c_b:List Value).toArray)].toArray w (Ret S w (λS v=>((b=0)/\∃(c0:List Value) (c1:List Value),v= .tuple [.agg c0.toArray,.agg c1.toArray,.int .i64 (11)].toArray/\Na S c0 (0) (0)/\Na S c1 (0) (0))\/((b≠0)/\∃(c0:List Value) (c1:List Value),v= .tuple [.agg c0.toArray,.agg c1.toArray,.int .i64 (0)].toArray/\Na S c0 (a / b) (k_a)/\Na S c1 (a%b) (k_a)))):=by
 refine ZB (n:=63) Tryz.func77 rfl rfl ?_;intro ac0 L0;replace L0:ZL ac0 63 [(0,(.agg (c_a:List Value).toArray)),(1,(.agg (c_b:List Value).toArray))]:=L0;have R0:Run S w S [] w:=.start hS;have hbz:=@Qg b;have hcmp:=@cmpN_neg a b;have hla:=Qb h_a.1;refine wp_seq (Za (so L0 rfl (ZW (cs:=c_a) L0 rfl R0 rfl ?_)));intro b1 _ _ l1 r1 R1 _ L1;refine so L1 rfl (ZW (cs:=c_b) L1 rfl R1 rfl λb2 _ _ l2 r2 R2 _ L2=>so L2 rfl (ZJ (cs:=zN1) ZZ R2 rfl λb3 _ R3 _ L3=>so L3 rfl (ZJ (cs:=zN1) ZZ R3 rfl λb4 _ R4 _ L4=>sa L4 rfl λ_ L5=>sn (wp_seq (wp_block (wp_seq (Za ?_)))))));refine so L5 rfl (ZA L5 rfl ZK Zo (R4.row r2) h_b.len λ_ L6=>so L6 rfl (Zh L6 rfl Zfc (YF R4.holds (h_b.up (l1.trans l2))) λv_1 S3 _ x1 v1=>?_));have R5:=R4.call x1;have l3:=x1.le;obtain rfl:=v1;intro _ L7;by_cases t1:((Zs b:Nat):Int)=(0:Int);refine so L7 rfl (bT t1 (λ_=>ZQ L7 rfl rfl) λ_ L8=>sa L8 rfl λ_ L9=>?_);have L10:=(L9.kp [2,3,4,5,6,9] rfl);clear L9;refine sn (Zm L10 rfl rfl (wp_seq (Za ?_)));have h1:Na S3 zN1 (0) (0):=Na.zero _ _;refine so L10 rfl (ZG (cs:=zN1) L10 ZZ Qi .nil (by rfl) λ_ L11=>?_);have h2:Na S3 zN1 (0) (0):=Na.zero _ _;exact so L11 rfl (ZG (cs:=zN1) L11 ZZ Qi .nil (by rfl) λ_ L12=>Zv L12 rfl rfl (Zl L12 rfl rfl (Yg R5) Zo h1.len rfl h1.ones λ_ R6 _ L13=>Zv L13 rfl rfl (Zl L13 rfl rfl (Yg R6) Zo h2.len rfl h2.ones λ_ R7 _ L14=>sa L14 rfl λ_ L15=>sn (wp_ret ((YC (Zt (Zn (rs:=Tryz.f77.results.toList) L15 rfl (Res.aggW rfl ZK Zo (R7.has (List.Mem.tail _ (List.Mem.head _))) h1.len (Res.aggW rfl ZK Zo (R7.has (List.Mem.head _)) h2.len (.tmp rfl Res.nil))) (⟨_,_,rfl,R7.ext,(Or.inl ⟨by omega,⟨_,_,rfl,(h1.to rfl (by omega)),(h2.to rfl (by omega))⟩⟩)⟩)))))))));refine so L7 rfl (bF t1 (λ_=>ZQ L7 rfl rfl) λ_ L16=>sa L16 rfl λ_ L17=>?_);have L18:=(L17.kp [2,3,4,5,6,9] rfl);clear L17;refine sn (Zi L18 rfl rfl (wp_seq (Za (so L18 rfl (ZA L18 rfl ZK Zo (R5.row (r1.up (l2.trans l3))) h_a.len ?_)))));intro _ L19;refine so L19 rfl (ZA L19 rfl ZK Zo (R5.row (r2.up l3)) h_b.len λ_ L20=>so L20 rfl (Zh L20 rfl ent_133 (nat_Cmp R5.holds (h_a.up (l1.trans (l2.trans l3))) (h_b.up (l1.trans (l2.trans l3)))) λv_2 _ _ x2 v2=>?_));have R8:=R5.call x2;have l4:=x2.le;obtain rfl:=v2;intro _ L21;by_cases t2:(Zb4 a b)<(0:Int);refine so L21 rfl (bT t2 (λ_=>Zu L21 rfl rfl) λ_ L22=>sa L22 rfl λ_ L23=>?_);have L24:=(L23.kp [2,3,4,5,6,15] rfl);clear L23;refine sn (Zm L24 rfl rfl (wp_seq ?_));have L25:=(L24.kp [2,3,4,5,6] rfl);refine Zx (E0:=[(1000,b3,32,zN1,false)]) (H0:=[(b4,32,zN1)]) (n:=63) mixed 3 [] (λk=>if k=1000 then 2 else 0) (Zdm [(kvNa (0) (0)),.is (.agg (c_a:List Value).toArray),.stored 1000 32 (λS cs=>Na S cs (0) (0)) (λ_ _ _ l h=>h.up l)]) L25 (Yg R8) (by simp) (by simp) (by rfl) (by rfl) (by simp) (ZY ?_) ?_;refine(An ?_ (An ?_ (An ?_ trivial)));refine Zc rfl (λ_ S5 _ _ _ A1=>?_);have h3:Na S5 zN1 (0) (0):=Na.zero _ _;exact ZG (cs:=zN1) A1.live ZZ Qi .nil (by rfl) (A1.same ⟨_,rfl,h3⟩);exact Zc rfl (λ_ _ _ _ _ A2=>(ZA A2.live rfl ZK Zo (A2.run.row (r1.up (l2.trans (l3.trans (l4.trans A2.le))))) h_a.len (A2.same rfl)));refine Zc rfl (λ_ _ _ _ _ A3=>?_);obtain⟨_,e1,cs_1,rfl,h4⟩:=A3.known 0 rfl;obtain⟨c2,q1,m1,z1,_⟩:=A3.le0 _ _ _ _ _ (List.Mem.head _);exact QT A3 (A3.live.add e1) rfl rfl m1 rfl Zo (z1.trans rfl) h4.len h4.ones rfl h4;intro S8 _ _ w12 l5 E1 R9 n1 L29 K1;obtain⟨_,e2,rfl⟩:=K1 1 (by decide);have L30:=L29.add e2;clear L29;obtain⟨b5,c3,m2,h5⟩:=K1 2 (by decide);obtain⟨c4,q2,m3,_,_⟩:=E1 _ _ _ _ _ (List.Mem.head _);obtain⟨hbe1,rfl⟩:=Zfo n1 m2 m3;obtain rfl:=hbe1.symm;have R10:Run _ _ S8 [(b3,32,c3),(b4,32,zN1)] w12:=Yh R9 n1 [(1000,b3,32,c3,true)] (by simp) (List.forall_mem_cons.2 ⟨m2,(by simp)⟩);exact Zv L30 rfl rfl (Zl L30 rfl rfl (Yg R10) Zo h_a.len rfl h_a.ones λ_ R11 _ L31=>sa L31 rfl λ_ L32=>sn (wp_ret ((YC (Zt (Zn (rs:=Tryz.f77.results.toList) L32 rfl (Res.aggW rfl ZK Zo (R11.has (List.Mem.tail _ (List.Mem.head _))) h5.len (Res.aggW rfl ZK Zo (R11.has (List.Mem.head _)) h_a.len (.tmp rfl Res.nil))) (⟨_,_,rfl,R11.ext,(Or.inr ⟨by omega,⟨_,_,rfl,(h5.to (by exact(Nat.div_eq_of_lt (by omega)).symm) (by omega)),((h_a.up (l1.trans (l2.trans (l3.trans (l4.trans l5))))).to (by exact(Nat.mod_eq_of_lt (by omega)).symm) (by omega))⟩⟩)⟩)))))));refine so L21 rfl (bF t2 (λ_=>Zu L21 rfl rfl) λ_ L33=>sa L33 rfl λ_ L34=>?_);have L35:=(L34.kp [2,3,4,5,6,15] rfl);clear L34;refine sn (Zi L35 rfl rfl (wp_seq ?_));obtain⟨hb_a,⟨hs_a,rfl⟩|⟨hw_a,lo_a,bb_a,len_a,cap_a,rest_a,hlo_a,rfl,rw_a,hd_a,h2_a⟩⟩:=h_a.open;refine Za (so L35 rfl (Zd (off':=1) L35 rfl ZR rfl ?_));intro _ L36;refine so L36 rfl (Zj L36 rfl YS (R8.row (r1.up (l2.trans (l3.trans l4)))) rfl λ_ L37=>so L37 rfl (Ya L37 rfl rfl Tryz.underlying30 λ_ L38=>sa L38 rfl λ_ L39=>sn (Zm L39 rfl rfl (wp_seq ?_))));obtain⟨hb_b,⟨hs_b,rfl⟩|⟨hw_b,lo_b,bb_b,len_b,cap_b,rest_b,hlo_b,rfl,rw_b,hd_b,h2_b⟩⟩:=h_b.open;have L40:=(L39.kp [2,3,4,5,6] rfl);refine Zx (E0:=[(1000,b3,32,zN1,false)]) (H0:=[(b4,32,zN1)]) (n:=63) mixed 13 [] (λk=>if k=1000 then 12 else 0) (Zdm [.is (.pointer (some ⟨b1,0,none⟩)),.is (.int .u64 (a:Int)),.is (.pointer (some ⟨b2,0,none⟩)),.is (.int .u64 (b:Int)),.is (.int .u64 ((a:Int) / (b:Int))),(kvNa (a / b) (k_a)),.is (.pointer (some ⟨b1,0,none⟩)),.is (.int .u64 (a:Int)),.is (.pointer (some ⟨b2,0,none⟩)),.is (.int .u64 (b:Int)),.is (.int .u64 ((a:Int)%(b:Int))),(kvNa (a%b) (k_a)),.stored 1000 32 (λS cs=>Na S cs (a / b) (k_a)) (λ_ _ _ l h=>h.up l)]) L40 (Yg R8) (by simp) (by simp) (by rfl) (by rfl) (by simp) (ZY ?_) ?_;refine(An ?_ (An ?_ (An ?_ (An ?_ (An ?_ (An ?_ (An ?_ (An ?_ (An ?_ (An ?_ (An ?_ (An ?_ (An ?_ trivial)))))))))))));exact Zc rfl (λ_ _ _ _ _ A4=>(Zd (off':=0) A4.live rfl Yl rfl (A4.same rfl)));refine Zc rfl (λ_ _ _ _ _ A5=>?_);obtain⟨_,e3,rfl⟩:=A5.known 0 rfl;exact Zj (A5.live.add e3) rfl Yu (A5.run.row (r1.up (l2.trans (l3.trans (l4.trans A5.le))))) rfl (A5.same rfl);exact Zc rfl (λ_ _ _ _ _ A6=>(Zd (off':=0) A6.live rfl Yl rfl (A6.same rfl)));refine Zc rfl (λ_ _ _ _ _ A7=>?_);obtain⟨_,e4,rfl⟩:=A7.known 2 rfl;exact Zj (A7.live.add e4) rfl Yu (A7.run.row (r2.up (l3.trans (l4.trans A7.le)))) rfl (A7.same rfl);refine Zc rfl (λ_ _ _ _ _ A8=>?_);obtain⟨_,e5,rfl⟩:=A8.known 1 rfl;obtain⟨_,e6,rfl⟩:=A8.known 3 rfl;exact Xy (z:=((a:Int) / (b:Int))) ((A8.live.add e5).add e6) rfl rfl (by omega) (Zak (k:=.u64) (by omega) (by omega) (show _<=(18446744073709551615:Int) by omega)) (A8.same rfl);refine Zc rfl (λ_ S14 _ _ _ A9=>?_);obtain⟨_,e7,rfl⟩:=A9.known 4 rfl;have h6:Na S14 [(.int .u64 ((a:Int) / (b:Int))),(.slice none 0 0)] (a / b) (k_a):=by rw[<-Int.natCast_ediv];exact Na.ofLowK (Nat.lt_of_le_of_lt (Nat.div_le_self _ _) hs_a) (Nat.le_trans (Nat.div_le_self _ _) hb_a)
 exact ZG (cs:=[(.int .u64 ((a:Int) / (b:Int))),(.slice none 0 0)]) (A9.live.add e7) ZZ Qi (.cons rfl Yl rfl (by decide) .nil) (by rfl) (A9.same ⟨_,rfl,h6⟩);exact Zc rfl (λ_ _ _ _ _ A10=>(Zd (off':=0) A10.live rfl Yl rfl (A10.same rfl)));refine Zc rfl (λ_ _ _ _ _ A11=>?_);obtain⟨_,e8,rfl⟩:=A11.known 6 rfl;exact Zj (A11.live.add e8) rfl Yu (A11.run.row (r1.up (l2.trans (l3.trans (l4.trans A11.le))))) rfl (A11.same rfl);exact Zc rfl (λ_ _ _ _ _ A12=>(Zd (off':=0) A12.live rfl Yl rfl (A12.same rfl)));refine Zc rfl (λ_ _ _ _ _ A13=>?_);obtain⟨_,e9,rfl⟩:=A13.known 8 rfl;exact Zj (A13.live.add e9) rfl Yu (A13.run.row (r2.up (l3.trans (l4.trans A13.le)))) rfl (A13.same rfl);refine Zc rfl (λ_ _ _ _ _ A14=>?_);obtain⟨_,e10,rfl⟩:=A14.known 7 rfl;obtain⟨_,e11,rfl⟩:=A14.known 9 rfl;exact XO (z:=((a:Int)%(b:Int))) ((A14.live.add e10).add e11) rfl rfl (by omega) (Zbh (by omega)) (A14.same rfl);refine Zc rfl (λ_ S20 _ _ _ A15=>?_);obtain⟨_,e12,rfl⟩:=A15.known 10 rfl;have h7:Na S20 [(.int .u64 ((a:Int)%(b:Int))),(.slice none 0 0)] (a%b) (k_a):=by rw[<-Int.natCast_emod];exact Na.ofLowK (Nat.lt_of_le_of_lt (Nat.mod_le _ _) hs_a) (Nat.le_trans (Nat.mod_le _ _) hb_a)
 exact ZG (cs:=[(.int .u64 ((a:Int)%(b:Int))),(.slice none 0 0)]) (A15.live.add e12) ZZ Qi (.cons rfl Yl rfl (by decide) .nil) (by rfl) (A15.same ⟨_,rfl,h7⟩);refine Zc rfl (λ_ _ _ _ _ A16=>?_);obtain⟨_,e13,c5,rfl,h8⟩:=A16.known 5 rfl;obtain⟨c6,q3,m4,z2,_⟩:=A16.le0 _ _ _ _ _ (List.Mem.head _);exact QT A16 (A16.live.add e13) rfl rfl m4 rfl Zo (z2.trans rfl) h8.len h8.ones rfl h8;intro S22 _ _ w27 l6 E2 R12 n2 L54 K2;obtain⟨_,e14,c7,rfl,h9⟩:=K2 11 (by decide);have L55:=L54.add e14;clear L54;obtain⟨b6,c8,m5,h10⟩:=K2 12 (by decide);obtain⟨c9,q4,m6,_,_⟩:=E2 _ _ _ _ _ (List.Mem.head _);obtain⟨hbe2,rfl⟩:=Zfo n2 m5 m6;obtain rfl:=hbe2.symm;have R13:Run _ _ S22 [(b3,32,c8),(b4,32,zN1)] w27:=Yh R12 n2 [(1000,b3,32,c8,true)] (by simp) (List.forall_mem_cons.2 ⟨m5,(by simp)⟩);exact Zv L55 rfl rfl (Zl L55 rfl rfl (Yg R13) Zo h9.len rfl h9.ones λ_ R14 _ L56=>sa L56 rfl λ_ L57=>sn (wp_ret ((YC (Zt (Zn (rs:=Tryz.f77.results.toList) L57 rfl (Res.aggW rfl ZK Zo (R14.has (List.Mem.tail _ (List.Mem.head _))) h10.len (Res.aggW rfl ZK Zo (R14.has (List.Mem.head _)) h9.len (.tmp rfl Res.nil))) (⟨_,_,rfl,R14.ext,(Or.inr ⟨by omega,⟨_,_,rfl,(h10.to rfl (by omega)),(h9.to rfl (by omega))⟩⟩)⟩)))))));have hl_b:=hd_b.hlen;have hc_b:=hd_b.hcap;have hg_b:=hd_b.hbig;have hW_b:18446744073709551616<=b:=hw_b;exfalso;omega;have hl_a:=hd_a.hlen;have hc_a:=hd_a.hcap;have hg_a:=hd_a.hbig;have hW_a:18446744073709551616<=a:=hw_a;refine Za (so L35 rfl (Zd (off':=1) L35 rfl ZR rfl ?_));intro _ L58;refine so L58 rfl (Zj L58 rfl YS (R8.row (r1.up (l2.trans (l3.trans l4)))) rfl λ_ L59=>so L59 rfl (Ya L59 rfl rfl Tryz.underlying30 λ_ L60=>sa L60 rfl λ_ L61=>sn (Zi L61 rfl rfl (wp_seq ?_))));obtain⟨hb_b,⟨hs_b,rfl⟩|⟨hw_b,lo_b,bb_b,len_b,cap_b,rest_b,hlo_b,rfl,rw_b,hd_b,h2_b⟩⟩:=h_b.open;refine Za (so L61 rfl (Zd (off':=1) L61 rfl ZR rfl ?_));intro _ L62;refine so L62 rfl (Zj L62 rfl YS (R8.row (r2.up (l3.trans l4))) rfl λ_ L63=>so L63 rfl (Ya L63 rfl rfl Tryz.underlying30 λ_ L64=>sa L64 rfl λ_ L65=>?_));have L66:=(L65.kp [2,3,4,5,6,38] rfl);clear L65;refine sn (Zm L66 rfl rfl (wp_seq (Za (so L66 rfl (Zd (off':=1) L66 rfl ZR rfl ?_)))));intro _ L67;refine so L67 rfl (Zj L67 rfl YS (R8.row (r1.up (l2.trans (l3.trans l4)))) rfl λ_ L68=>so L68 rfl (does_appendNil L68 rfl rfl Tryz.underlying30 ZE Za4 QP rfl R8 (hd_a.up (l1.trans (l2.trans (l3.trans l4)))) (by omega) (by omega) λb7 cap1 rest_1 _ hle1 R15 _ L69=>sa L69 rfl λ_ L70=>sn (wp_seq (Za (sm L70 rfl λ_ L71=>so L71 rfl (Zd (off':=0) L71 rfl Yl rfl λ_ L72=>?_))))));refine so L72 rfl (Zj L72 rfl Yu (R15.row (r2.up (l3.trans l4))) rfl λ_ L73=>so L73 rfl (QW L73 rfl ent_134 (nat_short (dv:=b) (by exact R15) (by omega) (by omega) (by omega) (by omega) (hd_a.hlt) (by omega)) ?_));rintro _ _ ⟨v_3,_,ds1,rfl,l7,R16,v3⟩;refine⟨v_3,rfl,?_⟩;obtain⟨rfl,ho1,ho2,ho3⟩:=v3;have hsl:=ho1;have hsx:=ho2;have hsq:=ho3;intro _ L74;refine sa L74 rfl λ_ L75=>?_;have L76:=(L75.kp [2,3,4,5,6,7,8] rfl);clear L75;refine sn (wp_seq (Za (sm L76 rfl ?_)));intro _ L77;obtain⟨S24,l8,r3,R17⟩:=(R16).freeze;have hd1:Dg S24 (some ⟨b7,0,none⟩) len_a cap1 ds1:=⟨by first|rfl|omega,by omega,by omega,hsx,λ_=>⟨_,_,rfl,r3⟩⟩;refine so L77 rfl (Zh L77 rfl Zc7 (Zc0 R17.holds (k:=k_a) hd1 (by rw[hsq,ZV (by decide)];exact Nat.le_trans (Nat.div_le_self _ _) h_a.1)) λv_4 S25 _ x4 v4=>?_);have R18:=R17.call x4;obtain⟨c10,rfl,h11⟩:=v4;intro _ L78;refine sm L78 rfl λ_ L79=>?_;have h12:Na S25 [(.int .u64 ((val W64 (ZH W64 a)%b:Nat):Int)),(.slice none 0 0)] (a%b) (k_a):=by rw[ZV (by decide)];exact Na.ofLowK (Nat.lt_trans (Nat.mod_lt _ (by omega)) hs_b) (Nat.le_trans (Nat.mod_le _ _) hb_a)
 exact so L79 rfl (ZG (cs:=[(.int .u64 ((val W64 (ZH W64 a)%b:Nat):Int)),(.slice none 0 0)]) L79 ZZ Qi (.cons rfl Yl rfl (by decide) .nil) (by rfl) λ_ L80=>Zv L80 rfl rfl (Zl L80 rfl rfl (Yg R18) Zo h11.len rfl h11.ones λ_ R19 _ L81=>Zv L81 rfl rfl (Zl L81 rfl rfl (Yg R19) Zo h12.len rfl h12.ones λ_ R20 _ L82=>sa L82 rfl λ_ L83=>sn (wp_ret ((YC (Zt (Zn (rs:=Tryz.f77.results.toList) (L83.kp [2,3,4,5,6] rfl) rfl (Res.aggW rfl ZK Zo (R20.has (List.Mem.tail _ (List.Mem.head _))) h11.len (Res.aggW rfl ZK Zo (R20.has (List.Mem.head _)) h12.len (.tmp rfl Res.nil))) (⟨_,_,rfl,R20.ext,(Or.inr ⟨by omega,⟨_,_,rfl,(h11.to (by rw[hsq,ZV (by decide)]) (by omega)),(h12.to rfl (by omega))⟩⟩)⟩)))))))));have hl_b:=hd_b.hlen;have hc_b:=hd_b.hcap;have hg_b:=hd_b.hbig;have hW_b:18446744073709551616<=b:=hw_b;refine Za (so L61 rfl (Zd (off':=1) L61 rfl ZR rfl ?_));intro _ L85;refine so L85 rfl (Zj L85 rfl YS (R8.row (r2.up (l3.trans l4))) rfl λ_ L86=>so L86 rfl (Ya L86 rfl rfl Tryz.underlying30 λ_ L87=>sa L87 rfl λ_ L88=>?_));have L89:=(L88.kp [2,3,4,5,6,38] rfl);clear L88;refine sn (Zi L89 rfl rfl (wp_skip ((Zy (Zb (wp_seq (Za (so L89 rfl (Zd (off':=1) L89 rfl ZR rfl ?_)))))))));intro _ L90;refine so L90 rfl (Zj L90 rfl YS (R8.row (r1.up (l2.trans (l3.trans l4)))) rfl λ_ L91=>so L91 rfl (Zd (off':=1) L91 rfl ZR rfl λ_ L92=>so L92 rfl (Zj L92 rfl YS (R8.row (r2.up (l3.trans l4))) rfl λ_ L93=>so L93 rfl (Zh L93 rfl ent_136 (nat_long R8.holds (kb:=k_a) (hd_a.up (l1.trans (l2.trans (l3.trans l4)))) (hd_b.up (l1.trans (l2.trans (l3.trans l4)))) (h2_b) (by rw[<-hl_b];exact Zee (by decide) (by omega)) (by have q:=Zgp (show b<=a by omega);omega) (by omega) (by rw[ZV (by decide)];exact h_a.1)) λv_5 _ _ x5 v5=>?_))));have R21:=R8.call x5;obtain⟨c11,c12,rfl,h13,h14⟩:=v5;intro _ L94;refine sm L94 rfl λ_ L95=>so L95 rfl (Zk L95 rfl rfl λ_ L96=>so L96 rfl (Zk L96 rfl rfl λ_ L97=>Zv L97 rfl rfl (Zl L97 rfl rfl (Yg R21) Zo h13.len rfl h13.ones λ_ R22 _ L98=>Zv L98 rfl rfl (Zl L98 rfl rfl (Yg R22) Zo h14.len rfl h14.ones λ_ R23 _ L99=>sn (wp_seq ?_)))));have L101:=((L99.kp [4,5,6] rfl).kp [4,5,6] rfl);refine Zx (E0:=[(1000,b3,32,c11,false)]) (H0:=[(b4,32,c12)]) (n:=63) mixed 3 [] (λk=>if k=1000 then 2 else 0) (Zdm [.is (.agg (c11:List Value).toArray),.is (.agg (c12:List Value).toArray),.stored 1000 32 (λS cs=>Na S cs (val W64 (ZH W64 a) / val W64 (ZH W64 b)) (k_a)) (λ_ _ _ l h=>h.up l)]) L101 (Yg R23) (by simp) (by simp) (by rfl) (by rfl) (by simp) (ZY ?_) ?_;refine(An ?_ (An ?_ (An ?_ trivial)));exact Zc rfl (λ_ _ _ _ _ A17=>(ZA A17.live rfl ZK Zo (A17.has0 (List.Mem.head _) (by rfl)) h13.len (A17.same rfl)));exact Zc rfl (λ_ _ _ _ _ A18=>(ZA A18.live rfl ZK Zo (A18.run.has (List.mem_append_right _ (List.Mem.head _))) h14.len (A18.same rfl)));refine Zc rfl (λ_ _ _ _ _ A19=>?_);obtain⟨_,e15,rfl⟩:=A19.known 0 rfl;obtain⟨c13,q5,m7,z3,_⟩:=A19.le0 _ _ _ _ _ (List.Mem.head _);exact QT A19 (A19.live.add e15) rfl rfl m7 rfl Zo (z3.trans h13.len) h13.len h13.ones rfl (h13.up A19.le);intro S30 _ _ w40 l11 E3 R24 n3 L105 K3;obtain⟨_,e16,rfl⟩:=K3 1 (by decide);have L106:=L105.add e16;clear L105;obtain⟨b8,c14,m8,h15⟩:=K3 2 (by decide);obtain⟨c15,q6,m9,_,_⟩:=E3 _ _ _ _ _ (List.Mem.head _);obtain⟨hbe3,rfl⟩:=Zfo n3 m8 m9;obtain rfl:=hbe3.symm;have R25:Run _ _ S30 [(b3,32,c14),(b4,32,c12)] w40:=Yh R24 n3 [(1000,b3,32,c14,true)] (by simp) (List.forall_mem_cons.2 ⟨m8,(by simp)⟩);exact Zv L106 rfl rfl (Zl L106 rfl rfl (Yg R25) Zo h14.len h14.len h14.ones λ_ R26 _ L107=>sa L107 rfl λ_ L108=>sn (wp_ret ((Zn (rs:=Tryz.f77.results.toList) L108 rfl (Res.aggW rfl ZK Zo (R26.has (List.Mem.tail _ (List.Mem.head _))) h15.len (Res.aggW rfl ZK Zo (R26.has (List.Mem.head _)) h14.len (.tmp rfl Res.nil))) (⟨_,_,rfl,R26.ext,(Or.inr ⟨by omega,⟨_,_,rfl,(h15.to (by simp only[ZV (show 2<=W64 by decide)]) (by omega)),((h14.up l11).to (by simp only[ZV (show 2<=W64 by decide)]) (by omega))⟩⟩)⟩)))))
end Go.Cham
