/- YtojbflghmjfbpaaGreatDoorB1, a part of the proof that the claim's law answers true for every input. No condition beyond the statements' own. -/
import Derived.Test.YtojbflghmjfbpaaGreatDoorB0
import Derived.Lib.BitFns
import Derived.Lib.ItoaNum
import Derived.Test.YtojbflghmjfbpaaGreatDoorProg
import Derived.KernelRfl
import Derived.Shelf.Small.Bits
import Derived.Shelf.Bits.Mul64
import Derived.Shelf.Strings.Prefix
import Derived.Shelf.Strings.Search2
import Derived.Shelf.Strings.SlTrimAscii
import Derived.Laws.Append
import Derived.Laws.BytesString
import Derived.Shelf.GgSortFunc.InsertionK
import Derived.Scope
import Derived.LoopN
set_option maxRecDepth 100000
noncomputable section
namespace Go.Cham
open Go Go.RowKit Go.Proofs Tryz
section
section
variable{α:Type}{D:Dom α}{G:Gh}
variable{P:Program}{d:Option Tmp}{ty:TypeId}{pos:String}{af:Array Edge}{g:Option (Nat × Bool)}{a:Act}{w:World}{E:Tr (SV α)}{V:Hp α}{n:Nat}
def putRows{β:Type}(rows:List β)(i:Nat)(R:List β)(m:Nat):List β:=appL (takeL rows i) (appL R<|dropL rows<|Nat.add i m)
theorem Zaz.putRows{sz i m:Nat}{rows R:List (List<|SV α)}{cs vs:List Value}(h:Zaz D G sz rows cs)(hR:Zaz D G sz R vs)(hl:vs.length=m*sz):Zaz D G sz (Cham.putRows rows i R m) (QU cs (i*sz) vs):=by
 unfold Cham.putRows QU;rw[Zbe,Zbe,takeL_eq,dropL_eq,hl,<-Nat.add_mul,List.append_assoc];exact(h.take i).append (hR.append<|h.drop (i+m))
structure ElT(P:Program)(t e:TypeId)(sz by_:Nat)(z:Value):Prop where
  ht:P.underlying t=some (.slice e)
  hs:Yy P e=some sz
  hz:XT P e=some z
  hb:Qb P e=some by_
  h1:z.cells.size=sz
def elT(P:Program)(D:Dom α)(t:TypeId):Option (TypeId × Nat × Nat):=match P.underlying t with
  | some (.slice e)=>match Yy P e with
    | some sz=>match XT P e with
      | some z=>match Qb P e with
        | some by_=>match (absL z.cells.toList:Option (List<|SV α)) with
          | some L=>match Nat.beq (lsz D L) sz with
            |true=>some (e,sz,by_)
            |false=>none
          |none=>none
        |none=>none
      |none=>none
    |none=>none
  |_=>none
theorem elT_ok{t e:TypeId}{sz by_:Nat}(G:Gh)(h:elT P D t=some (e,sz,by_)):∃z,ElT P t e sz by_ z:=by
 unfold elT at h;split at h;rename_i e' ht;split at h;rename_i sz' hs;split at h;rename_i z hz;split at h;rename_i b' hb;split at h;rename_i L hL;split at h;rename_i hl;simp only[Option.some.injEq,Prod.mk.injEq] at h;obtain⟨rfl,rfl,rfl⟩:=h;rw[YY] at hl;have:=(Zel D G hL).len;exact⟨z,ht,hs,hz,hb,by simpa [hl] using this⟩;cases h;cases h;cases h;cases h;cases h;cases h
theorem Zdl{t:TypeId}{ox oy:Operand}{w':World}{K:Value->World->Prop}{v:Value}(hrun:(Builtin.append_ #[t,t] ty #[a.eval ox,a.eval oy]).run P w= .ok v w')(k:K v w'):YL P ⟨d,.call ⟨.builtin .append,#[ox,oy],#[t,t]⟩,ty,pos,af,g⟩ a w K:=by
 refine Zv (v:=v) (w':=w') ?_ k;rw[XA];simp only[List.map_toArray,List.map_cons,List.map_nil];show Sem.run P (do let v <-Builtin.append_ #[t,t] ty #[a.eval ox,a.eval oy];(pure (Next.value v):Sem Next)) w=_;rw[Zf hrun];rfl
theorem Zgw{t e:TypeId}{len cap cap2 sz:Nat}{p p2:Option Addr}(ht:P.underlying t=some (.slice e))(hZ:Yy P e=some sz)(hle:len<=cap):
    (Builtin.append_ #[t,t] ty #[.slice p len cap,.slice p2 0 cap2]).run P w= .ok (.slice p len cap) w:=by
 simp only[Builtin.append_,List.getElem?_toArray,List.getElem?_cons_zero,List.getElem?_cons_succ];rw[Zf (Zq ht)];simp only[];rw[Zf (Ym hZ)];rw[Zf (Zq ht)];simp only[ZE,Bool.false_eq_true,if_false];rw[Zf (w':=w) (a:=0) rfl];rw[if_pos (by omega)];simp only[Bool.not_false,if_true]
 rw[Zf (w':=w) (a:=(#[]:Array Value)) (by
   cases p2 with
   |none=>rfl
   |some q=>exact run_firstCells_some (P:=P) w sz 0 q 0 cap2 [] (by simp) (by simp))]
 cases p with
 |none=>rfl
 |some q=>rfl
theorem RepF.drew{I:Nat->Prop}(h:Qf D G I V w):Qf D G I V w.drew:=⟨h.holds,h.obj,h.inj⟩
theorem Fra.drew{G':Gh}{w':World}{wr:Nat->Prop}{n n':Nat}(h:Fra G w.drew G' w' wr n n'):Fra G w G' w' wr n n':=⟨h.le,h.os,h.tape,h.output,h.size,Nat.le_trans (Nat.le_succ _) h.drawn,h.blk,h.gS,h.gb⟩
theorem grow_ok{t e:TypeId}{ox oy:Operand}{sz by_ len m:Nat}{z:Value}{R:List (List<|SV α)}{rd:List Nat}(hT:ElT P t e sz by_ z)(hlim:(len+m)*(by_+1)<=140737488355328)(hm:0<m)(h:∀I,(∀i∈rd,I i)->Qf D G I V w->∃vs olds news p cap p2 cap2,a.eval ox= .slice p len cap/\a.eval oy= .slice (some p2) m cap2/\vs=olds++news/\Zaz D G sz R vs/\olds.length=len*sz/\news.length=m*sz/\
      (∀j v,news[j]? =some v->w.cell? (p2.add j)=some v)/\cap<len+m/\((p=none/\len=0/\cap=0)\/∃q,p=some q/\∀j v,olds[j]? =some v->w.cell? (q.add j)=some v)):
    MOK P D G V n ⟨d,.call ⟨.builtin .append,#[ox,oy],#[t,t]⟩,ty,pos,af,g⟩ a w (outN V n (.cells e sz R true) (.gsl n 0 (len+m) 0) rd):=by
 intro I h1 h2 hR hf K hk;obtain⟨vs,olds,news,p,cap,p2,cap2,ex,ey,rfl,hden,hlo,hln,hnews,hcap,hp⟩:=h I h1 hR;obtain⟨i,hi,hs,hz',hb⟩:=Zdc hT.hs hT.hb hT.hz;rw[Nat.mul_add,Nat.mul_one] at hlim;have hfn:G.blk n=none:=hf n (Nat.le_refl _) (Nat.lt_succ_self _);have hge:=grownCap_ge w (len+m) cap e;obtain⟨rest,hrest⟩:∃rest,Builtin.zeroCells z.cells (grownCap w (len+m) cap e-(len+m))=(rest:List Value).toArray:=⟨_,(Array.toArray_toList).symm⟩;have hrl:rest.length=(grownCap w (len+m) cap e-(len+m))*sz:=by have:=congrArg Array.size hrest;simp[Builtin.zeroCells,hT.h1] at this;omega
 have hlen:(olds++news).length=(len+m)*sz:=by rw[List.length_append,hlo,hln,Nat.add_mul]
 obtain⟨e1,e2⟩:=new_blk (o:=.cells e sz R true) (u:=.cells (olds++news++rest).toArray e (0,0)) (wr:=λi=>i∈([]:List Nat)) hR.drew hfn (grownCap w (len+m) cap e) (λG' hle=>.grow (hden.up hle) (by
   rw[hlen,hrl,<-Nat.add_mul]
   congr 1
   omega))
 refine Zdl (w':=XS w.drew (.cells (olds++news++rest).toArray e (0,0))) (v:=.slice (some ⟨w.heap.size,0,none⟩) (len+m) (grownCap w (len+m) cap e)) ?_<|hk _ _ _ e1.drew (λc hc=>?_) e2;rw[ex,ey];rcases hp with⟨rfl,rfl,rfl⟩|⟨q,rfl,holds⟩;have ho:olds=[]:=by simpa using hlo
 subst ho;have hrun:=run_append_nil (P:=P) (w:=w) t ty e i z hT.ht hi hz' p2 m cap2 news (by rw[hs];exact hln) hnews hm (by omega) (by rw[hb];rw[Nat.zero_add] at hlim;omega);simp only[Nat.zero_add,List.nil_append] at hrest ⊢;refine hrun.trans ?_;rw[hrest];congr 2;simp;have hrun:=run_append_grow (P:=P) (w:=w) t ty e i z hT.ht hi hz' q len cap olds (by rw[hs];exact hlo) holds p2 m cap2 news (by rw[hs];exact hln) hnews hcap (by omega) (growslice_fits hcap (by rw[hb];omega));refine hrun.trans ?_;rw[hrest];congr 2;simp;simp[outN] at hc;subst hc;have hb:=Den.gsl (D:=D) (G:=G.add n w.heap.size (grownCap w (len+m) cap e)) (i:=n) (off:=0) (len:=len+m) (d:=0) (b:=w.heap.size) (c:=grownCap w (len+m) cap e) (if_pos rfl) (by omega);simpa using hb
def appIn(V:Hp α)(n lim id len m sz:Nat)(R2:List (List<|SV α))(rd:List Nat)(r:SV α):Option (Out α):=match Nat.ble lim id with
  | true=>match V.at id with
    | some (.cells T sz2 rows gr)=>match Nat.beq sz2 sz with
      | true=>match Nat.ble (Nat.add len m) (lenL rows) with
        |true=>some (outW V n id (.cells T sz (putRows rows len R2 m) gr) (some r) rd)
        |false=>none
      |false=>none
    |_=>none
  |false=>none
theorem appIn_ok{t e:TypeId}{ox oy:Operand}{lim id len m sz by_:Nat}{z:Value}{R2:List (List<|SV α)}{rd:List Nat}{r y:SV α}{o:Out α}(h:appIn V n lim id len m sz R2 rd r=some o)(hT:ElT P t e sz by_ z)(he:elems V sz y=some (R2,m,rd))(hy:At1 D G a oy y)(hm:0<m)(hx:∀b c,G.blk id=some (b,c)->∃cap,a.eval ox= .slice (some ⟨b,0,none⟩) len cap/\(∀T rows gr,V.at id=some (.cells T sz rows gr)->(gr=true->rows.length<=c)->len+m<=rows.length->len+m<=cap/\Den D G r (.slice (some ⟨b,0,none⟩) (len+m) cap)))(hsz:0<sz):
    Zem V n o/\(∀i∈o.wr,lim<=i)/\MOK P D G V n ⟨d,.call ⟨.builtin .append,#[ox,oy],#[t,t]⟩,ty,pos,af,g⟩ a w o:=by
 unfold appIn at h;split at h;rename_i hlim;have hlim':=Nat.le_of_ble_eq_true hlim;split at h;rename_i T sz2 rows gr hv;split at h;rename_i hs2;rw[YY] at hs2;subst hs2;split at h;rename_i hfit;have hfit':len+m<=rows.length:=by have:=Nat.le_of_ble_eq_true hfit;rwa [Zd3] at this
 cases h;refine⟨outW_ok hv _ _ _,λi hi=>by simp[outW] at hi;subst hi;exact hlim',?_⟩;intro I h1 h2 hR hf K hk;have hi:I id:=h2 _ (by simp[outW]);obtain⟨b,c,cs,slack,e1,e2,e3,e4,e5,e6⟩:=hR.cells hi hv;obtain⟨cap,ex,hcap0⟩:=hx b c e1;obtain⟨vs,q,cap2,ey,hvl,hvd,hq⟩:=Zeb he hy.den h1 hR;obtain⟨ad,rfl,hnews⟩:=hq.resolve_left (by omega);obtain⟨i,hii,hs,hz',hb⟩:=Zdc hT.hs hT.hb hT.hz;have hlen:=e4.len;have hle:len*sz2+m*sz2<=cs.length:=by rw[hlen,<-Nat.add_mul];exact Nat.mul_le_mul_right _ hfit'
 have hcc:gr=true->rows.length<=c:=by
  intro hg;have h6:=e6 hg;have:rows.length*sz2<=c*sz2:=by rw[<-hlen];omega
  exact Nat.le_of_mul_le_mul_right this hsz
 obtain⟨hcap,hr⟩:=hcap0 T rows gr hv hcc hfit'
 obtain⟨w',f1,f2⟩:=Zdz (P:=P) (w:=w) t ty e i hT.ht hii b T len cap (cs++slack) e3 (a.eval oy) m vs (by rw[ey];rfl) (by
   rw[ey]
   exact run_firstCells_some (P:=P) w i.size m ad m cap2 vs (by rw[hs];exact hvl) hnews) hcap (by rw[hs,hvl,List.length_append];omega) hvd.flat.ones
 rw[hs,over_app (by rw[hvl];exact hle)] at f2
 have hnew:DenO D G c (.cells T sz2 (putRows rows len R2 m) gr) (.cells (QU cs (len*sz2) vs++slack).toArray T (0,0)):=by
   have h7:=e4.putRows (i:=len) hvd hvl
   cases gr with
   | false=>
     have:=e5 rfl
     subst this
     rw[List.append_nil]
     exact .cells h7
   | true=>
     refine .grow h7 ?_
     rw[Qm _ _ _ (by rw[hvl];exact hle)]
     exact e6 rfl
 obtain⟨g1,g2⟩:=wr_blk hR hi hv e1 hnew f2 (n:=n) (n':=n) (λ_=>trivial) (Nat.le_refl n);refine Zdl (w':=w') (v:=.slice (some ⟨b,0,none⟩) (len+m) cap) ?_<|hk _ w' G g1 (λc' hc=>?_) g2;rw[ex];exact f1;simp[outW] at hc;subst hc;exact hr;cases h;cases h;cases h;cases h
def appK(V :Hp α)(n lim id len m sz:Nat)(e:TypeId)(R2:List (List<|SV α))(rd:List Nat):Option (Out α):=match Nat.ble lim id with
  | true => match V.at id with
    | some (.cells T sz2 rows true)=>match Nat.beq sz2 sz with
      | true=>match Nat.beq len (lenL rows) with
        | true=>match Nat.beq T e with
          | true=>match Nat.ble (Nat.succ id) n with
            |true=>some ⟨some (.gsl n 0 (Nat.add len m) 0),(V.put id none).put n (some<|.cells e sz (appL rows R2) true),Nat.succ n,rd,[id]⟩
            |false=>none
          |false=>none
        |false=>none
      |false=>none
    |_=>none
  |false=>none
theorem appK_ok{t e:TypeId}{ox oy:Operand}{lim id len m sz by_:Nat}{z:Value}{R2:List (List<|SV α)}{rd:List Nat}{y:SV α}{o:Out α}(h:appK V n lim id len m sz e R2 rd=some o)(hT:ElT P t e sz by_ z)(he:elems V sz y=some (R2,m,rd))(hy:At1 D G a oy y)(hm:0<m)(hlim:(len+m)*(by_+1)<=140737488355328)(hx:At1 D G a ox (.gsl id 0 len 0))(hsz:0<sz):
    Zem V n o/\(∀i∈o.wr,lim<=i)/\MOK P D G V n ⟨d,.call ⟨.builtin .append,#[ox,oy],#[t,t]⟩,ty,pos,af,g⟩ a w o:=by
 unfold appK at h;split at h;rename_i hl;have hl':=Nat.le_of_ble_eq_true hl;split at h;rename_i T sz2 rows hv;split at h;rename_i hs2;rw[YY] at hs2;subst hs2;split at h;rename_i hlen;rw[YY,Zd3] at hlen;split at h;rename_i hTe;rw[YY] at hTe;subst hTe;split at h;rename_i hidn;have hidn':id<n:=Nat.le_of_ble_eq_true hidn;simp only[Option.some.injEq,Zbe] at h;subst h;refine⟨⟨Nat.le_succ _,λi hi hi2=>?_,λi hi=>by simp at hi;subst hi;exact⟨_,hv⟩⟩,λi hi=>by simp at hi;subst hi;exact hl',?_⟩;show((V.put id none).put n _).at i=V.at i;rw[Tr.at_put_ne,Tr.at_put_ne];intro x;subst x;exact hi (by simp);intro x;subst x;exact hi2 ⟨Nat.le_refl _,Nat.lt_succ_self _⟩;intro I h1 h2 hR hf K hk;have hi:I id:=h2 _ (by simp);have hfn:G.blk n=none:=hf n (Nat.le_refl _) (Nat.lt_succ_self _);obtain⟨b,c,cs,slack,e1,e2,e3,e4,e5,e6⟩:=hR.cells hi hv;obtain⟨vs,q,cap2,ey,hvl,hvd,hq⟩:=Zeb he hy.den h1 hR;obtain⟨ad,rfl,hnews⟩:=hq.resolve_left (by omega);obtain⟨b',c',hb',hd0,hev⟩:=hx.gsl;rw[e1] at hb';cases hb';have ex:a.eval ox= .slice (some ⟨b,0,none⟩) len (c-0):=by have:=hx.ex;rw[hev] at this;simpa using this.symm
 rw[Nat.sub_zero] at ex;have hcs:cs.length=len*sz2:=by rw[e4.len,hlen]
 have hsl:=e6 rfl;have hcell:=e3.cells (o:=0) (k:=cs.length) (vs:=cs) (by simp);rcases Nat.lt_or_ge c (len+m) with hg|hg
 have hmok:=grow_ok (G:=G) (V:=V) (n:=n) (d:=d) (ty:=ty) (pos:=pos) (af:=af) (g:=g) (a:=a) (w:=w) (D:=D) (ox:=ox) (oy:=oy) (R:=rows++R2) (rd:=id::rd) hT hlim hm (λI' hI' hR'=>by
   refine⟨cs++vs,cs,vs,some ⟨b,0,none⟩,c,ad,cap2,ex,ey,rfl,e4.append hvd,hcs,hvl,hnews,hg,.inr ⟨_,rfl,hcell⟩⟩)
 refine hmok I (λi hi'=>?_) (λi hi'=>by simp[outN] at hi') hR hf K (λv w' G' f1 f2 f3=>hk v w' G' (f1.mono (λi hi'=>by simp[outN] at hi') (Nat.le_refl _)<|Nat.le_refl _) f2 ⟨f3.holds,λj o' hj hvj=>?_,λj k o1 o2 b1 c1 c2 hj hk' hvj hvk hb1 hb2=>?_⟩);simp[outN] at hi';rcases hi' with rfl|hi';exact hi;exact h1 i hi';have hjn:j=n:=by rcases hj with hj|hj;simp at hj;subst hj;have hvj':((V.put j none).put n (some<|.cells T sz2 (rows++R2) true)).at j=some o':=hvj;rw[Tr.at_put_ne _ _ (by omega),Tr.at_put] at hvj';cases hvj';have:=hj.1;have:=hj.2;simp only at*;omega
 subst hjn;refine f3.obj j o' (.inr ⟨Nat.le_refl _,Nat.lt_succ_self _⟩) ?_;have hvj':((V.put id none).put j (some<|.cells T sz2 (rows++R2) true)).at j=some o':=hvj;rw[Tr.at_put] at hvj';show(V.put j<|some<|.cells T sz2 (rows++R2) true).at j=some o';rw[Tr.at_put];exact hvj';have key:∀j o',(j∈[id]\/(n<=j/\j<Nat.succ n))->((V.put id none).put n (some<|.cells T sz2 (rows++R2) true)).at j=some o'->j=n:=by intro j o' hj hvj;rcases hj with hj|hj;simp at hj;subst hj;rw[Tr.at_put_ne _ _ (by omega),Tr.at_put] at hvj;cases hvj;omega
 have k1:=key j o1 hj hvj;have k2:=key k o2 hk' hvk;omega;obtain⟨i,hii,hs,hz',hb⟩:=Zdc hT.hs hT.hb hT.hz;have hms:(len+m)*sz2<=c*sz2:=Nat.mul_le_mul_right _ hg;rw[Nat.add_mul] at hms
 obtain⟨w',f1,f2⟩:=Zdz (P:=P) (w:=w) t ty T i hT.ht hii b T len c (cs++slack) e3 (a.eval oy) m vs (by rw[ey];rfl) (by
   rw[ey]
   exact run_firstCells_some (P:=P) w i.size m ad m cap2 vs (by rw[hs];exact hvl) hnews) hg (by rw[hs,hvl,List.length_append];omega) hvd.flat.ones
 have ec:QU (cs++slack) (len*i.size) vs=cs++vs++slack.drop (m*sz2):=by unfold QU;rw[hs,<-hcs,hvl,List.take_left,List.drop_length_add_append]
 rw[ec] at f2;have hlt:=(Array.getElem?_eq_some_iff.1 e3).1;have hle:=G.add_le (b:=b) (c:=c) hfn;have hbn:(G.add n b c).blk n=some (b,c):=if_pos rfl;refine Zdl (w':=w') (v:=.slice (some ⟨b,0,none⟩) (len+m) c) (by rw[ex];exact f1)<|hk _ w' (G.add n b c) ?_ (λc' hc=>?_) ?_;subst f2;refine⟨hle,rfl,rfl,rfl,by simp,Nat.le_refl _,λb2 hb2 hne=>?_,λ_ _ h=>.inl h,λj x hx=>?_⟩;show(w.heap.setIfInBounds b _)[b2]? =_;rw[Array.getElem?_setIfInBounds_ne];intro x;subst x;exact hne ⟨id,c,by simp,e1⟩;by_cases hj:j=n;subst hj;rw[hbn] at hx;cases hx;exact .inr ⟨⟨Nat.le_refl _,Nat.lt_succ_self _⟩,.inr ⟨id,c,by simp,e1⟩⟩;left;have:(G.add n b c).blk j=G.blk j:=if_neg hj;rw[<-this];exact hx;simp at hc;subst hc;have:=Den.gsl (D:=D) (G:=G.add n b c) (i:=n) (off:=0) (len:=len+m) (d:=0) hbn (by omega);simpa using this;have key:∀j o',(j∈[id]\/(n<=j/\j<Nat.succ n))->((V.put id none).put n (some<|.cells T sz2 (rows++R2) true)).at j=some o'->j=n/\o'= .cells T sz2 (rows++R2) true:=by
  intro j o' hj hvj;rcases hj with hj|hj;simp at hj;subst hj;rw[Tr.at_put_ne _ _ (by omega),Tr.at_put] at hvj;cases hvj;have hj':j=n:=by omega
  subst hj';rw[Tr.at_put] at hvj;exact⟨rfl,by simpa using hvj.symm⟩
 refine⟨λb2 o2 hb2=>?_,λj o' hj hvj=>?_,λj k o1 o2 b1 c1 c2 hj hk' hvj hvk _ _=>?_⟩;subst f2;show(w.heap.setIfInBounds b _)[b2]? =_;rw[Array.getElem?_setIfInBounds_ne];exact hR.holds _ _ hb2;intro x;subst x;have hb2':G.S b=some o2:=hb2;rw[e2] at hb2';cases hb2';obtain⟨rfl,rfl⟩:=key j o' hj hvj;refine⟨b,c,_,hbn,e2,?_,DenO.grow (slack:=slack.drop (m*sz2)) ((e4.append hvd).up hle) (by simp[List.length_append,List.length_drop,hcs,hvl];omega)⟩;subst f2;show(w.heap.setIfInBounds b _)[b]? =_;rw[Array.getElem?_setIfInBounds_self,if_pos hlt];have k1:=(key j o1 hj hvj).1;have k2:=(key k o2 hk' hvk).1;omega;cases h;cases h;cases h;cases h;cases h;cases h
end
end
section
theorem Na.ofLow{S:Sh}{n:Nat}(h:n<18446744073709551616):Na S [.int .u64 (n:Int),.slice none 0 0] n 64:=⟨by omega,_,_,rfl,.small n h⟩
theorem Na.ofLowK{S:Sh}{n k:Nat}(h:n<18446744073709551616)(hk:n<=2^k):Na S [.int .u64 (n:Int),.slice none 0 0] n k:=⟨hk,_,_,rfl,.small n h⟩
theorem Na.ofRow{S:Sh}{b len cap lo n k:Nat}{ds:List Nat}{rest:List Value}(hlo:lo<18446744073709551616)(r:Row S b tU64 (YD ds++rest))(hl:ds.length=len)(h2:2<=len)(hs:len<=281474976710656)(hc:len<=cap)(hd:∀d∈ds,d<18446744073709551616)(hz:ds.getLast? ≠some 0)(hn:val W64 ds=n)(hk:n<=2^k):Na S [.int .u64 (lo:Int),.slice (some ⟨b,0,none⟩) len cap] n k:=⟨hk,_,_,rfl,by rw[<-hn];exact .big lo b len cap ds rest hlo r hl h2 hs hc hd hz⟩
theorem Na.ofLowE{S:Sh}{n m k:Nat}(e:m=n)(h:n<18446744073709551616)(hk:n<=2^k):Na S [.int .u64 (m:Int),.slice none 0 0] n k:=by subst e;exact Na.ofLowK h hk
theorem Na.ofDg{S:Sh}{p:Option Addr}{len cap lo n k:Nat}{ds:List Nat}(hlo:lo<18446744073709551616)(h:Dg S p len cap ds)(h2:2<=len)(hz:ds.getLast? ≠some 0)(hn:val W64 ds=n)(hk:n<=2^k):Na S [.int .u64 (lo:Int),.slice p len cap] n k:=by
 obtain⟨b,rest,rfl,r⟩:=h.row (by omega);exact Na.ofRow hlo r h.hlen h2 h.hbig h.hcap h.hlt hz hn hk
theorem Zdb{k:IntKind}{x y:Int}(h:x=y):pack [.int k x]= .int k y:=by subst h;rfl
theorem Zfp{B:Nat}(hB:0<B):∀ds:List Nat,ds≠[]->ds.getLast? ≠some 0->B^(ds.length-1)<=val B ds:=by
 intro ds
 induction ds with
 |nil=>intro h;exact absurd rfl h
 | cons d r ih=>
   intro _ h
   cases r with
   |nil=>simp at h;simp[val];omega
   | cons y s=>
     have h1:=ih (by simp) (by simpa using h)
     have h2:val B (d::y::s)=d+B*val B (y::s):=rfl
     have h3:B*B^((y::s).length-1)<=B*val B (y::s):=Nat.mul_le_mul_left B h1
     have h4:B^((d::y::s).length-1)=B*B^((y::s).length-1):=by
       simp only[List.length_cons,Nat.add_sub_cancel]
       rw[Nat.pow_succ,Nat.mul_comm]
     omega
theorem val_ge{ds:List Nat}(h2:2<=ds.length)(hz:ds.getLast? ≠some 0):W64<=val W64 ds:=by
 have h:=Zfp (B:=W64) (by decide) ds (by intro e;rw[e] at h2;simp at h2) hz;have:W64^1<=W64^(ds.length-1):=Nat.pow_le_pow_right (by decide) (by omega);simp only[Nat.pow_one] at this;omega
theorem Na.open{S:Sh}{cs:List Value}{n k:Nat}(h:Na S cs n k):n<=2^k/\((n<18446744073709551616/\cs=[.int .u64 (n:Int),.slice none 0 0])\/
    (W64<=n/\∃(lo b len cap:Nat)(rest:List Value),lo<18446744073709551616/\cs=[.int .u64 (lo:Int),.slice (some ⟨b,0,none⟩) len cap]/\Row S b tU64 (YD (ZL W64 n)++rest)/\Dg S (some ⟨b,0,none⟩) len cap (ZL W64 n)/\2<=len)):=by
 obtain⟨hk,c0,c1,rfl,hc⟩:=h;refine⟨hk,?_⟩
 cases hc with
 |small _ h=>exact .inl ⟨h,rfl⟩
 | big lo b len cap ds rest h hr hlen h2 hs hc hd hl=>
   have e:ZL W64 (val W64 ds)=ds:=digs_val (by decide) ds hd hl
   refine .inr ⟨val_ge (by omega) hl,lo,b,len,cap,rest,h,rfl,by rw[e];exact hr,?_,h2⟩
   rw[e]
   exact⟨hlen,hc,hs,hd,λ_=>⟨b,rest,rfl,hr⟩⟩
theorem str_at{s:ByteArray}{i:Int}{j:Nat}(h:j<s.size/\i=(j:Int)):s.data.toList[i.toNat]? =some (s.data.toList.getD j 0):=by
 obtain⟨h,rfl⟩:=h;simp only[Int.toNat_natCast];rw[List.getElem?_eq_getElem (by simpa using h),List.getD_eq_getElem?_getD,List.getElem?_eq_getElem (by simpa using h)];rfl
theorem Zbr(B:Nat)(ds es:List Nat):val B (ds++es)=val B ds+B^ds.length*val B es:=by
 induction ds with
 |nil=>simp[val]
 |cons d r ih=>simp only[List.cons_append,val,ih,List.length_cons,Nat.pow_succ,Nat.mul_add,Nat.add_assoc];rw[<-Nat.mul_assoc,Nat.mul_comm B (B^r.length)]
theorem Xi(B:Nat)(ds:List Nat)(n:Nat)(h:n<ds.length):val B (ds.take (n+1))=val B (ds.take n)+B^n*ds.getD n 0:=by
 rw[List.take_succ_eq_append_getElem h,Zbr];have:(ds.take n).length=n:=by simp;omega
 rw[this,List.getD_eq_getElem?_getD,List.getElem?_eq_getElem h];simp[val]
theorem Zhc{B:Nat}(hB:0<B):∀(ds:List Nat),(∀d∈ds,d<B)->val B ds<B^ds.length:=by
 intro ds
 induction ds with
 |nil=>intro _;simp[val]
 | cons d r ih=>
   intro h
   have h1:=ih (λx hx=>h x (by simp[hx]))
   have h2:=h d (by simp)
   simp only[val,List.length_cons,Nat.pow_succ]
   calc d+B*val B r<B+B*val B r:=by omega
     _=B*(val B r+1):=by rw[Nat.mul_add];omega
     _<=B*B^r.length:=Nat.mul_le_mul_left _ h1
     _=B^r.length*B:=Nat.mul_comm _ _
theorem digs_small{n:Nat}(h0:n≠0)(h:n<18446744073709551616):ZL W64 n=[n]:=by
 rw[Zay (by decide) h0,Nat.mod_eq_of_lt h,Nat.div_eq_of_lt h,Xe]
theorem Dg.cast{S:Sh}{p:Option Addr}{len cap:Nat}{ds es:List Nat}(h:Dg S p len cap ds)(e:ds=es):Dg S p len cap es:=e▸h
def ZC(n:Nat):Nat:=if n=0 then 0 else Nat.log2 n+1
theorem Zds{B n:Nat}{ds:List Nat}(h0:0<n)(hn:n<=ds.length)(h:ds.getD (n-1) 0=0):val B (ds.take (n-1))=val B (ds.take n):=by
 have:=Xi B ds (n-1) (by omega);rw[show n-1+1=n by omega,h,Nat.mul_zero,Nat.add_zero] at this;exact this.symm
theorem val_one{B:Nat}{ds:List Nat}(h:0<ds.length):val B (ds.take 1)=ds.getD 0 0:=by
 have:=Xi B ds 0 h;simpa [val] using this
theorem Na.cut{S:Sh}{b n m k:Nat}{ds:List Nat}{rest:List Value}(r:Row S b tU64 (YD ds++rest))(hn:n<=ds.length)(h2:2<=n)(hs:n<=281474976710656)(hd:∀d∈ds,d<18446744073709551616)(hz:¬ds.getD (n-1) 0=0)(hv:val W64 (ds.take n)=m)(hk:m<=2^k):
    Na S [.int .u64 (0:Int),.slice (some ⟨b,0,none⟩) n n] m k:=by
 refine Na.ofRow (lo:=0) (ds:=ds.take n) (rest:=YD (ds.drop n)++rest) (by omega) ?_ (by simp;omega) h2 hs (Nat.le_refl _) (λd h=>hd d<|List.mem_of_mem_take h) ?_ hv hk;rw[<-List.append_assoc];have:YD (ds.take n)++YD (ds.drop n)=YD ds:=by simp only[YD,<-List.map_append,List.take_append_drop]
 rw[this];exact r;rw[List.getLast?_eq_getElem?];have hl:(ds.take n).length=n:=by simp;omega
 rw[hl,List.getElem?_take,if_pos (by omega),List.getElem?_eq_getElem (by omega)];rw[List.getD_eq_getElem?_getD,List.getElem?_eq_getElem (by omega)] at hz;simpa using hz
def Zcy(a b:Nat):Int:=if a<b then -1 else if b<a then 1 else 0
theorem Zfm{B n:Nat}(hB:2<=B)(hn:n≠0):(ZL B n).getD ((ZL B n).length-1) 0≠0:=by
 intro e;have h1:=digs_last hB n;have h2:ZL B n≠[]:=by intro e';have:=ZX hB n;rw[e'] at this;exact hn this.symm
 have hl:0<(ZL B n).length:=List.length_pos_iff.2 h2;apply h1;rw[List.getLast?_eq_getElem?];rw[List.getD_eq_getElem?_getD] at e;rw[List.getElem?_eq_getElem (by omega)] at e ⊢;simpa using e
theorem digs_pow_le{B n:Nat}(hB:2<=B)(hn:n≠0):B^((ZL B n).length-1)<=n:=by
 have h2:ZL B n≠[]:=by intro e';have:=ZX hB n;rw[e'] at this;exact hn this.symm
 have:=Zfp (B:=B) (by omega) (ZL B n) h2 (digs_last hB n);rwa [ZX hB n] at this
theorem lt_digs_pow{B:Nat}(hB:2<=B)(n:Nat):n<B^(ZL B n).length:=by
 have:=Zhc (B:=B) (by omega) (ZL B n) (Zee hB n);rwa [ZX hB n] at this
theorem Zcg{B a b:Nat}(hB:2<=B)(h:(ZL B a).length<(ZL B b).length):a<b:=by
 have hb:b≠0:=by intro e;rw[e,Xe] at h;simp at h
 have h1:=lt_digs_pow hB a;have h2:=digs_pow_le hB hb;have h3:B^(ZL B a).length<=B^((ZL B b).length-1):=Nat.pow_le_pow_right (by omega) (by omega);omega
theorem XQ(B:Nat)(ds:List Nat)(n:Nat)(h:n<=ds.length):val B ds=val B (ds.take n)+B^n*val B (ds.drop n):=by
 have:=Zbr B (ds.take n) (ds.drop n);rw[List.take_append_drop,show(ds.take n).length=n by simp;omega] at this;exact this
theorem Ze1{B:Nat}(hB:2<=B){ds:List Nat}(h:∀d∈ds,d<B)(n:Nat)(hn:n<=ds.length):val B (ds.take n)<B^n:=by
 have:=Zhc (B:=B) (by omega) (ds.take n) (λd hd=>h d<|List.mem_of_mem_take hd);rwa [show(ds.take n).length=n by simp;omega] at this
theorem YC{ds:List Nat}{n:Nat}(h:n<ds.length):ds.drop n=ds.getD n 0::ds.drop (n+1):=by
 rw[List.drop_eq_getElem_cons h,List.getD_eq_getElem?_getD,List.getElem?_eq_getElem h];rfl
theorem top_lt{B:Nat}(hB:2<=B){x y:List Nat}{n:Nat}(hx:∀d∈x,d<B)(hl:x.length=y.length)(hn:n<x.length)(e:x.drop (n+1)=y.drop (n+1))(h:x.getD n 0<y.getD n 0):val B x<val B y:=by
 have h1:=XQ B x n (by omega);have h2:=XQ B y n (by omega);rw[YC hn] at h1;rw[YC (by omega)] at h2;have h3:=Ze1 hB hx n (by omega);simp only[val] at h1 h2;rw[e] at h1;have h4:B^n*(x.getD n 0+B*val B (y.drop (n+1)))+B^n<=B^n*(y.getD n 0+B*val B (y.drop (n+1))):=by rw[<-Nat.mul_succ];exact Nat.mul_le_mul_left _ (by omega)
 omega
theorem drop_step{x y:List Nat}{n:Nat}(hl:x.length=y.length)(hn:n<x.length)(e:x.drop (n+1)=y.drop (n+1))(h:x.getD n 0=y.getD n 0):x.drop n=y.drop n:=by
 rw[YC hn,YC (ds:=y) (by omega),h,e]
theorem bitLen_eq{x:Nat}(h:x<18446744073709551616):Lib.bitLen x=ZC x:=by
 unfold ZC;split;rename_i e;subst e;rfl;rename_i hx;obtain⟨h1,h2,h3⟩:=Lib.bitLenAux_bounds 64 x (by simpa using h) hx;have:Nat.log2 x=Lib.bitLenAux 64 x-1:=by rw[Nat.log2_eq_iff hx];refine⟨h2,?_⟩;rw[show Lib.bitLenAux 64 x-1+1=Lib.bitLenAux 64 x by omega];exact h3
 unfold Lib.bitLen;omega
theorem bitlen_le{n k:Nat}(h:n<=2^k):ZC n<=k+1:=by
 unfold ZC;split;omega;rename_i hn;have:=(Nat.log2_lt hn).2 (show n<2^(k+1) by rw[Nat.pow_succ];have:=Nat.one_le_two_pow (n:=k);omega);omega
theorem Zdk{n:Nat}(h:n≠0):0<ZC n:=by unfold ZC;rw[if_neg h];omega
theorem bitlen_zero:ZC 0=0:=rfl
theorem Zcj{n:Nat}(hn:n≠0):2^(ZC n-1)<=n/\n<2^ZC n:=by
 unfold ZC;rw[if_neg hn];exact⟨Nat.log2_self_le hn,Nat.lt_log2_self⟩
theorem Zei{n k:Nat}(h1:2^k<=n)(h2:n<2^(k+1)):ZC n=k+1:=by
 have hn:n≠0:=by have:=Nat.one_le_two_pow (n:=k);omega
 unfold ZC;rw[if_neg hn,(Nat.log2_eq_iff hn).2 ⟨h1,h2⟩]
theorem bitlen_digs{n :Nat}(hn:W64<=n):ZC n=64*((ZL W64 n).length-1)+ZC ((ZL W64 n).getD ((ZL W64 n).length-1) 0):=by
 have h0 : n ≠ 0 := by have:0<W64:=by decide
                       omega
 have hd:=Zfm (B:=W64) (by decide) h0;have hne:ZL W64 n≠[]:=by intro e';have:=ZX (B:=W64) (by decide) n;rw[e'] at this;exact h0 this.symm
 have hl:0<(ZL W64 n).length:=List.length_pos_iff.2 hne;have hv:=XQ W64 (ZL W64 n) ((ZL W64 n).length-1) (by omega);rw[ZX (by decide),YC (by omega),show(ZL W64 n).length-1+1=(ZL W64 n).length by omega,List.drop_length] at hv;simp only[val,Nat.mul_zero,Nat.add_zero] at hv;have ht:=Ze1 (B:=W64) (by decide) (Zee (by decide) n) ((ZL W64 n).length-1) (by omega);generalize (ZL W64 n).getD ((ZL W64 n).length-1) 0=t at*;generalize (ZL W64 n).length-1=m at*;obtain⟨h1,h2⟩:=Zcj hd;have hp:=Zdk hd;have e64:W64^m=2^(64*m):=by rw[Nat.pow_mul]
 rw[e64] at hv ht
 have:=Zei (n:=n) (k:=64*m+(ZC t-1)) (by
   rw[Nat.pow_add,hv]
   exact Nat.le_trans (Nat.mul_le_mul_left _ h1) (by omega)) (by
   rw[show 64*m+(ZC t-1)+1=64*m+ZC t by omega,Nat.pow_add,hv]
   have:2^(64*m)*t+2^(64*m)<=2^(64*m)*2^ZC t:=by
     rw[<-Nat.mul_succ];exact Nat.mul_le_mul_left _ h2
   omega)
 rw[this];omega
theorem cmpN_lt{a b:Nat}(h:a<b):Zcy a b= -1:=by unfold Zcy;rw[if_pos h]
theorem cmpN_gt{a b:Nat}(h:b<a):Zcy a b=1:=by unfold Zcy;rw[if_neg (by omega),if_pos h]
theorem cmpN_eq{a b:Nat}(h:a=b):Zcy a b=0:=by unfold Zcy;rw[if_neg (by omega),if_neg (by omega)]
theorem Zed{B a b n:Nat}(hB:2<=B)(hl:(ZL B a).length=(ZL B b).length)(hn:n<(ZL B a).length)(e:(ZL B a).drop (n+1)=(ZL B b).drop (n+1))(h:(ZL B a).getD n 0<(ZL B b).getD n 0):a<b:=by
 have:=top_lt hB (Zee hB a) hl hn e h;rwa [ZX hB,ZX hB] at this
theorem digs_inj{B a b:Nat}(hB:2<=B)(h:ZL B a=ZL B b):a=b:=by
 have:=congrArg (val B) h;rwa [ZX hB,ZX hB] at this
structure Zgr(x y us:List Nat)(i c:Nat):Prop where
  len:us.length=x.length+1
  le:i<=x.length+1
  c1:c<=1
  sum:val W64 (us.take i)+W64^i*c=val W64 (x.take i)+val W64 (y.take i)
  rest:us.drop i=(x++[0]).drop i
  lt:∀d∈us,d<18446744073709551616
theorem Xj(ds:List Nat)(i:Nat):val W64 (ds.take (i+1))=val W64 (ds.take i)+W64^i*ds.getD i 0:=by
 rcases Nat.lt_or_ge i ds.length with h|h;exact Xi W64 ds i h;rw[List.take_of_length_le (by omega),List.take_of_length_le h,List.getD_eq_getElem?_getD,List.getElem?_eq_none h];simp
theorem Zgr.start{x y:List Nat}(hx:∀d∈x,d<18446744073709551616):Zgr x y (x++[0]) 0 0:=
  ⟨by simp,by omega,by omega,by simp[val],by simp,λd hd=>by rcases List.mem_append.1 hd with h|h;exact hx d h;simp at h;omega⟩
theorem Zfs{us:List Nat}{i d:Nat}:(us.set i d).take i=us.take i:=by rw[List.take_set_of_le (by omega)]
theorem YZ{us:List Nat}{i d:Nat}(h:i<us.length):(us.set i d).getD i 0=d:=by
 rw[List.getD_eq_getElem?_getD,List.getElem?_set_self h];rfl
theorem Zgr.step{x y us:List Nat}{i c:Nat}(h:Zgr x y us i c)(hy:∀d∈y,d<18446744073709551616)(hi:i<x.length+1):
    Zgr x y (us.set i ((us.getD i 0+y.getD i 0+c)%18446744073709551616)) (i+1) ((us.getD i 0+y.getD i 0+c)/18446744073709551616):=by
 have hu:us.getD i 0=(x++[0]).getD i 0:=by have e:=h.rest;rw[YC (by rw[h.len];exact hi),YC (ds:=x++[0]) (by simp;exact hi)] at e;exact(List.cons.inj e).1
 have hx0:(x++[0]).getD i 0=x.getD i 0:=by
  rcases Nat.lt_or_ge i x.length with hlt|hge;rw[List.getD_eq_getElem?_getD,List.getD_eq_getElem?_getD,List.getElem?_append_left hlt];have:i=x.length:=by omega
  subst this;simp[List.getD_eq_getElem?_getD]
 refine⟨by simp[h.len],by omega,?_,?_,?_,?_⟩;have h1:=ZT h.lt (by decide) i;have h2:=ZT hy (by decide) i;have h3:=h.c1;omega;rw[Xj (us.set _ _),Xj x,Xj y,Zfs,YZ (by rw[h.len];exact hi)];rw[hu,hx0,Nat.pow_succ];have hs:=h.sum;generalize val W64 (us.take i)=A at*;generalize val W64 (x.take i)=X at*;generalize val W64 (y.take i)=Y at*;generalize x.getD i 0=p at*;generalize y.getD i 0=q at*;have hd:=Nat.mod_add_div (p+q+c) W64;have:W64^i*((p+q+c)%18446744073709551616)+W64^i*W64*((p+q+c)/18446744073709551616)=W64^i*p+W64^i*q+W64^i*c:=by rw[Nat.mul_assoc,<-Nat.mul_add,<-Nat.mul_add,<-Nat.mul_add];exact congrArg (W64^i* ·) hd
 omega;rw[List.drop_set_of_lt (by omega)];have e:=h.rest;rw[YC (by rw[h.len];exact hi),YC (ds:=x++[0]) (by simp;exact hi)] at e;exact(List.cons.inj e).2;intro d hd;rcases List.mem_or_eq_of_mem_set hd with hd|rfl;exact h.lt d hd;exact Nat.mod_lt _ (by omega)
theorem carry0{A P c X Y Z Z2:Nat}(h:A+P*c=X+Y)(hx:X<Z)(hy:Y<Z2)(hz:Z2<=Z)(hp:Z*2<=P)(hc:c<=1):A=X+Y:=by
 match c,hc with
 |0,_=>omega
 |1,_=>omega
theorem pow_two_le(n:Nat):W64^n*2<=W64^(n+1):=by rw[Nat.pow_succ];exact Nat.mul_le_mul_left _ (by decide)
theorem Zgr.done{x y us:List Nat}{i c:Nat}(h:Zgr x y us i c)(hx:∀d∈x,d<18446744073709551616)(hy:∀d∈y,d<18446744073709551616)(hl:y.length<=x.length)(he:i=x.length+1\/(y.length<=i/\c=0)):
    val W64 us=val W64 x+val W64 y:=by
 rcases he with rfl|⟨h1,rfl⟩;have hs:=h.sum;rw[List.take_of_length_le (by rw[h.len];exact Nat.le_refl _),List.take_of_length_le (Nat.le_succ _),List.take_of_length_le (Nat.le_succ_of_le hl)] at hs;exact carry0 hs (Zhc (by decide) x hx) (Zhc (by decide) y hy) (Nat.pow_le_pow_right (by decide) hl) (pow_two_le _) h.c1;have hs:=h.sum;rw[Nat.mul_zero,Nat.add_zero,List.take_of_length_le (l:=y) h1] at hs;have hu:=XQ W64 us i (by rw[h.len];exact h.le);rw[h.rest] at hu;have hx2:val W64 (x++[0])=val W64 x:=by rw[Zbr];simp[val]
 have hv:=XQ W64 (x++[0]) i (by simp;exact h.le);have hp:val W64 ((x++[0]).take i)=val W64 (x.take i):=by rcases Nat.lt_or_ge x.length i with hh|hh;rw[List.take_of_length_le (by simp;omega),List.take_of_length_le (by omega),hx2];rw[List.take_append_of_le_length hh]
 omega
structure Zgp(x y us:List Nat)(i c:Nat):Prop where
  len:us.length=x.length
  le:i<=x.length
  c1:c<=1
  sum:val W64 (us.take i)+val W64 (y.take i)=val W64 (x.take i)+W64^i*c
  rest:us.drop i=x.drop i
  lt:∀d∈us,d<18446744073709551616
theorem Zgp.start{x y:List Nat}(hx:∀d∈x,d<18446744073709551616):Zgp x y x 0 0:=⟨rfl,by omega,by omega,by simp[val],by simp,hx⟩
theorem Zgp.step{x y us:List Nat}{i c:Nat}(h:Zgp x y us i c)(hx:∀d∈x,d<18446744073709551616)(hy:∀d∈y,d<18446744073709551616)(hi:i<x.length):
    Zgp x y (us.set i ((us.getD i 0+18446744073709551616-y.getD i 0-c)%18446744073709551616)) (i+1) (if us.getD i 0<y.getD i 0+c then 1 else 0):=by
 have hu:us.getD i 0=x.getD i 0:=by have e:=h.rest;rw[YC (by rw[h.len];exact hi),YC hi] at e;exact(List.cons.inj e).1
 have h1:=ZT hx (by decide) i;have h2:=ZT hy (by decide) i;have h3:=h.c1;refine⟨by simp[h.len],by omega,by split <;> omega,?_,?_,?_⟩;rw[Xj (us.set _ _),Xj x,Xj y,Zfs,YZ (by rw[h.len];exact hi)];rw[hu,Nat.pow_succ];have hs:=h.sum;generalize val W64 (us.take i)=A at*;generalize val W64 (x.take i)=X at*;generalize val W64 (y.take i)=Y at*;generalize x.getD i 0=p at*;generalize y.getD i 0=q at*;have hd:(p+18446744073709551616-q-c)%18446744073709551616+q+c=p+W64*(if p<q+c then 1 else 0):=by simp only[W64];split <;> omega
 have:W64^i*((p+18446744073709551616-q-c)%18446744073709551616)+W64^i*q+W64^i*c=W64^i*p+W64^i*W64*(if p<q+c then 1 else 0):=by rw[Nat.mul_assoc,<-Nat.mul_add,<-Nat.mul_add,<-Nat.mul_add];exact congrArg (W64^i* ·) hd
 omega;rw[List.drop_set_of_lt (by omega)];have e:=h.rest;rw[YC (by rw[h.len];exact hi),YC hi] at e;exact(List.cons.inj e).2;intro d hd;rcases List.mem_or_eq_of_mem_set hd with hd|rfl;exact h.lt d hd;exact Nat.mod_lt _ (by omega)
theorem borrow0{A P c X Y:Nat}(h:A+Y=X+P*c)(ha:A<P)(hv:Y<=X)(hc:c<=1):A=X-Y:=by
 match c,hc with
 |0,_=>omega
 |1,_=>omega
theorem Zgp.done{x y us:List Nat}{i c:Nat}(h:Zgp x y us i c)(hy:∀d∈y,d<18446744073709551616)(hv:val W64 y<=val W64 x)(hl:y.length<=x.length)(he:i=x.length\/(y.length<=i/\c=0)):
    val W64 us=val W64 x-val W64 y:=by
 have hs:=h.sum;rcases he with rfl|⟨h1,rfl⟩;rw[List.take_of_length_le (by rw[h.len];omega),List.take_of_length_le (by omega),List.take_of_length_le (by omega)] at hs;have a:=Zhc (B:=W64) (by decide) us h.lt;rw[h.len] at a;exact borrow0 hs a hv h.c1;rw[Nat.mul_zero,Nat.add_zero,List.take_of_length_le (l:=y) h1] at hs;have hu:=XQ W64 us i (by rw[h.len];exact h.le);rw[h.rest] at hu;have hw:=XQ W64 x i h.le;omega
section
variable{P:Program}{a:Act}{w:World}{n:Nat}{l:List (Nat × Value)}{K:Value->World->Prop}
variable{d:Option Tmp}{ty:TypeId}{pos:String}{af:Array Edge}{g:Option (Nat × Bool)}
theorem does_copyDg{x y:Operand}{t t2 e:TypeId}{b m cap len cap2:Nat}{p:Option Addr}{us ds:List Nat}{rest:List Value}{S0 S:Sh}{w0:World}{H:Own}(hx:ev l x=some (.slice (some ⟨b,0,none⟩) m cap))(hy:ev l y=some (.slice p len cap2))(ht:P.underlying t=some (.slice e))(hZ:Yy P e=some 1)(hR:Run S0 w0 S ((b,tU64,YD us++rest)::H) w)(hD:Dg S p len cap2 ds)(hu:us.length=m)(hlm:len<=m)(k:∀w',Run S0 w0 S ((b,tU64,YD (ds++us.drop len)++rest)::H) w'->K (.int .i64 len) w')(a:Act)(hL:ZD a n l):YL P ⟨d,.call ⟨.builtin .copy,#[x,y],#[t,t2]⟩,ty,pos,af,g⟩ a w K:=by
 have hcells:(Builtin.firstCells 1 len<|.slice p len cap2).run P w= .ok (YD ds).toArray w:=by
   rcases Nat.eq_zero_or_pos len with h0|h0
   · subst h0
     have:ds=[]:=List.eq_nil_of_length_eq_zero hD.hlen
     subst this
     cases p with
     |none=>rfl
     |some ad=>rfl
   · obtain⟨b2,rest2,rfl,r⟩:=hD.row h0
     simp only[Builtin.firstCells,Nat.mul_one]
     refine Zdy (hR.row r) ?_ (by rw[ZN];exact hD.hlen)
     rw[List.drop_zero,List.take_append_of_le_length (by rw[ZN,hD.hlen];exact Nat.le_refl _),List.take_of_length_le (by rw[ZN,hD.hlen];exact Nat.le_refl _)]
 obtain⟨w',h1,h2⟩:=Zax (P:=P) (YD ds) 0 0 (YD us++rest) w (hR.has List.mem_cons_self) (by rw[List.length_append,ZN,ZN,hu,hD.hlen];omega) (by
   intro v hv
   obtain⟨q,_,rfl⟩:=List.mem_map.1 hv
   rfl)
 have hov:QU (YD us++rest) (0+0) (YD ds)=YD (ds++us.drop len)++rest:=by simp only[QU,Nat.add_zero,Nat.zero_add,List.take_zero,List.nil_append];rw[List.drop_append_of_le_length (by rw[ZN,ZN,hu,hD.hlen];exact hlm)];simp only[YD,List.map_append,List.map_drop,List.append_assoc,List.length_map,hD.hlen]
 rw[hov] at h2;refine Zv (v:=.int .i64 len) (w':=w') ?_<|k w'<|hR.store _ h2;rw[XA];simp only[List.map_toArray,List.map_cons,List.map_nil,hL.ev hx,hL.ev hy,builtin,Builtin.copy_,List.getElem?_toArray,List.getElem?_cons_zero,List.getElem?_cons_succ];rw[Zf (w':=w') (a:=(.int .i64 len:Value))];rfl;rw[Zf (Zq ht)];simp only[];have hmin:Nat.min len m=len:=Nat.min_eq_left hlm;simp only[Builtin.lenOf,ZE];rw[Zf (Ym hZ),hmin,Zf hcells];simp only[];rw[Zf h1];rfl
end
theorem Za0{y:List Nat}{i:Nat}(h:y.length<=i):y.getD i 0=0:=by rw[List.getD_eq_getElem?_getD,List.getElem?_eq_none h];rfl
theorem Qp{n k:Nat}(h:n<=2^k):(ZL W64 n).length<=k/64+1:=by
 refine Zap (by decide)<|Nat.lt_of_le_of_lt h ?_;rw[show W64=2^64 from rfl,<-Nat.pow_mul];exact Nat.pow_lt_pow_right (by decide) (by omega)
theorem sum_pow{a b k l:Nat}(ha:a<=2^k)(hb:b<=2^l):a+b<=2^(k+l+1):=by
 have h1:2^k<=2^(k+l):=Nat.pow_le_pow_right (by omega) (by omega);have h2:2^l<=2^(k+l):=Nat.pow_le_pow_right (by omega) (by omega);rw[Nat.pow_succ];omega
theorem prod_pow{a b k l:Nat}(ha:a<=2^k)(hb:b<=2^l):a*b<=2^(k+l):=by rw[Nat.pow_add];exact Nat.mul_le_mul ha hb
end
theorem cmpN_neg{a b:Nat}:Zcy a b<0↔a<b:=by
 unfold Zcy;split;simp;omega;split <;> simp <;> omega
theorem Zgs(B:Nat):∀(us:List Nat)(k d:Nat),k<us.length->val B (us.set k d)+B^k*us.getD k 0=val B us+B^k*d
  |[],_,_,h=>by simp at h
  |u::r,0,d,_=>by simp[val];omega
  | u::r,k+1,d,h=>by
    have ih:=Zgs B r k d (by simpa using h)
    simp only[List.set_cons_succ,val,List.getD_cons_succ,Nat.pow_succ,Nat.mul_comm _ B,Nat.mul_assoc]
    rw[Nat.add_assoc,<-Nat.mul_add,ih,Nat.mul_add,Nat.add_assoc]
theorem mul_step{x y c u:Nat}(hx:x<18446744073709551616)(hy:y<18446744073709551616)(hc:c<18446744073709551616)(hu:u<18446744073709551616):
    x*y/18446744073709551616+(x*y%18446744073709551616+c+0)/18446744073709551616<18446744073709551616/\
    x*y/18446744073709551616+(x*y%18446744073709551616+c+0)/18446744073709551616+(u+(x*y%18446744073709551616+c+0)%18446744073709551616+0)/18446744073709551616<18446744073709551616/\
    (u+(x*y%18446744073709551616+c+0)%18446744073709551616+0)%18446744073709551616+18446744073709551616*(x*y/18446744073709551616+(x*y%18446744073709551616+c+0)/18446744073709551616+(u+(x*y%18446744073709551616+c+0)%18446744073709551616+0)/18446744073709551616)=x*y+c+u:=by
 have h:x*y<=18446744073709551615*18446744073709551615:=Nat.mul_le_mul (by omega) (by omega);generalize x*y=p at h ⊢;omega
structure MulIn(x y us:List Nat)(i j c:Nat):Prop where
  len:us.length=x.length+y.length
  c1:c<18446744073709551616
  lt:∀d∈us,d<18446744073709551616
  zero:∀m,i+y.length<=m->us.getD m 0=0
  sum:val W64 us+W64^(i+j)*c=val W64 (x.take i)*val W64 y+W64^i*(x.getD i 0*val W64 (y.take j))
theorem val_rep0(B n:Nat):val B (List.replicate n 0)=0:=by induction n <;> simp_all [val,List.replicate_succ]
theorem MulIn.start{x y:List Nat}{n:Nat}(hn:n=x.length+y.length):MulIn x y (List.replicate n 0) 0 0 0:=
  ⟨by simp[hn],by decide,by simp,by intro m _;simp[List.getD_eq_getElem?_getD,List.getElem?_replicate];split <;> simp,by simp[val_rep0,val]⟩
theorem XM{us:List Nat}{k m d:Nat}(h:k≠m):(us.set k d).getD m 0=us.getD m 0:=by
 rw[List.getD_eq_getElem?_getD,List.getD_eq_getElem?_getD,List.getElem?_set_ne h]
theorem Zct{us:List Nat}{k d B:Nat}(h:∀e∈us,e<B)(hd:d<B):∀e∈us.set k d,e<B:=by
 intro e he;rcases List.mem_or_eq_of_mem_set he with h1|h1;exact h e h1;omega
theorem mul_sum{V V' P Q R T T' u d c c' x y Y:Nat}(h1:V'+P*u=V+P*d)(h2:V+P*c=R+Q*(x*Y))(h3:d+T*c'=x*y+c+u)(hP:P*T=T*P)(hq:P=Q*T'):V'+(P*T)*c'=R+Q*(x*(Y+T'*y)):=by
 have e1:(P*T)*c'=P*(T*c'):=Nat.mul_assoc _ _ _;have e2:P*(d+T*c')=P*(x*y+c+u):=by rw[h3]
 have e3:Q*(x*(Y+T'*y))=Q*(x*Y)+P*(x*y):=by rw[hq];rw[Nat.mul_add,Nat.mul_add];congr 1;simp only[Nat.mul_assoc,Nat.mul_left_comm,Nat.mul_comm]
 simp only[Nat.mul_add] at e2;omega
theorem MulIn.step{x y us:List Nat}{i j c m:Nat}(h:MulIn x y us i j c)(hm:m=i+j)(hx:∀d∈x,d<18446744073709551616)(hy:∀d∈y,d<18446744073709551616)(hi:i<x.length)(hj:j<y.length){d c':Nat}(h1:d<18446744073709551616)(h2:c'<18446744073709551616)(h3:d+18446744073709551616*c'=x.getD i 0*y.getD j 0+c+us.getD m 0):MulIn x y (us.set m d) i (j+1) c':=by
 subst hm;refine⟨by rw[List.length_set];exact h.len,h2,Zct h.lt h1,λk hk=>by rw[XM (by omega)];exact h.zero k hk,?_⟩;have hv:=Zgs W64 us (i+j) d (by rw[h.len];omega);have hs:=h.sum;have h3':d+W64*c'=x.getD i 0*y.getD j 0+c+us.getD (i+j) 0:=h3;have hp:W64^(i+j)=W64^i*W64^j:=Nat.pow_add _ _ _;have hq:W64^(i+(j+1))=W64^(i+j)*W64:=Nat.pow_succ _ _;rw[Xi W64 y j hj,hq];exact mul_sum (T:=W64) hv hs h3' (Nat.mul_comm _ _) hp
theorem mul_nx{V V' P R Q x Y c W x2:Nat}(h1:V'+P*0=V+P*c)(h2:V+P*c=R*Y+Q*(x*Y)):V'+0=(R+Q*x)*Y+W*(x2*0):=by
 rw[Nat.mul_zero,Nat.add_zero] at h1;rw[Nat.mul_zero,Nat.mul_zero,Nat.add_zero,Nat.add_zero,h1,h2,Nat.add_mul,Nat.mul_assoc Q]
theorem MulIn.next{x y us:List Nat}{i j c m:Nat}(h:MulIn x y us i j c)(hj:¬j<y.length)(hj2:j<=y.length)(hi:i<x.length)(hm:m=i+y.length):MulIn x y (us.set m c) (i+1) 0 0:=by
 obtain rfl:j=y.length:=by omega
 subst hm;refine⟨by rw[List.length_set];exact h.len,by decide,Zct h.lt h.c1,λk hk=>by rw[XM (by omega)];exact h.zero k (by omega),?_⟩;have hv:=Zgs W64 us (i+y.length) c (by rw[h.len];omega);have hs:=h.sum;rw[h.zero _ (Nat.le_refl _)] at hv;rw[List.take_length] at hs;have h0:val W64 (y.take 0)=0:=by rw[List.take_zero];rfl
 rw[Xi W64 x i hi,h0,Nat.mul_zero];exact mul_nx hv hs
theorem MulIn.done{x y us:List Nat}{i:Nat}(h:MulIn x y us i 0 0)(hi:¬i<x.length):val W64 us=val W64 x*val W64 y:=by
 have h0:val W64 (y.take 0)=0:=by rw[List.take_zero];rfl
 have hl:x.take i=x:=List.take_of_length_le (Nat.le_of_not_lt hi);have hs:=h.sum;rw[h0,hl,Nat.mul_zero,Nat.mul_zero,Nat.mul_zero,Nat.add_zero,Nat.add_zero] at hs;exact hs
theorem Zh1{a b:Nat}(h:b<=a):(ZL W64 b).length<=(ZL W64 a).length:=by
 rcases Nat.lt_or_ge (ZL W64 a).length (ZL W64 b).length with h2|h2;have:=Zcg (B:=W64) (by decide) h2;omega;exact h2
section
def RetO(S0:Sh)(w0:World)(S:Sh)(b:Nat)(T:TypeId)(rest:List Value)(H:Own)(V:Sh->Value->List Nat->Prop):Ending->World->Prop:=
  λe w'=>∃v S' ds,e= .returned v/\S.le S'/\Run S0 w0 S' ((b,T,YD ds++rest)::H) w'/\V S' v ds
def RetN(S:Sh)(w:World)(V:Sh->Value->Own->Prop):Ending->World->Prop:=
  λe w'=>∃v S' H,e= .returned v/\Run S w S' H w'/\V S' v H
theorem Run.callN{S0 S S':Sh}{w0 w w':World}{H H':Own}(h:Run S0 w0 S H w)(k:Run S w S' H' w'):Run S0 w0 S' (H'++H) w':=by
 have hc:=h.call k.ext;refine⟨hc.ext,λx hx=>?_,?_⟩;rcases List.mem_append.1 hx with hx|hx;obtain⟨a,b,c⟩:=k.own x hx;exact⟨a,b,Nat.le_trans h.ext.below.size c⟩;exact hc.own x hx;rw[List.map_append,List.nodup_append];refine⟨k.nodup,hc.nodup,λa ha b hb=>?_⟩;obtain⟨x,hx,rfl⟩:=List.mem_map.1 ha;obtain⟨y,hy,rfl⟩:=List.mem_map.1 hb;have h1:=(k.own x hx).2.2;have h2:=h.lt hy;omega
theorem Zhd(x:Nat):IntKind.u64.wrap (x:Int)=((x%18446744073709551616:Nat):Int):=by
 have:IntKind.u64.wrap (x:Int)=(x:Int)%18446744073709551616:=by simp[IntKind.wrap,IntKind.bits,IntKind.signed]
 rw[this];omega
theorem u64_wrapS{x y:Nat}(hy:y<=18446744073709551616):IntKind.u64.wrap ((x:Int)-(y:Int))=(((x+18446744073709551616-y)%18446744073709551616:Nat):Int):=by
 have:IntKind.u64.wrap ((x:Int)-(y:Int))=((x:Int)-(y:Int))%18446744073709551616:=by simp[IntKind.wrap,IntKind.bits,IntKind.signed]
 rw[this];omega
theorem Zhe{x y:Nat}:IntKind.u64.wrap ((x:Int)*(y:Int))=((x*y%18446744073709551616:Nat):Int):=by
 rw[<-Int.natCast_mul];exact Zhd _
theorem u64_wrapA{x y:Nat}:IntKind.u64.wrap ((x:Int)+(y:Int))=(((x+y)%18446744073709551616:Nat):Int):=by
 rw[<-Int.natCast_add];exact Zhd _
section
variable{P:Program}{a:Act}{w:World}{n:Nat}{l:List (Nat × Value)}{K:Value->World->Prop}
variable{d:Option Tmp}{ty:TypeId}{pos:String}{af:Array Edge}{g:Option (Nat × Bool)}
theorem Zdg{t u:TypeId}{x y:Operand}{i s:Nat}{ky:IntKind}(hx:ev l x=some (.int .u64 (i:Int)))(hy:ev l y=some (.int ky (s:Int)))(hs:s<=64)(k:K (.int .u64 ((i*2^s%18446744073709551616:Nat):Int)) w)(a:Act)(hL:ZD a n l):YL P ⟨d,.binOp .shl t x y u,ty,pos,af,g⟩ a w K:=by
 refine Zv (v:=.int .u64 ((i*2^s%18446744073709551616:Nat):Int)) (by
   rw[Yi,hL.ev hx,hL.ev hy,YR]
   simp only[ZE,binOp]
   rw[shift_shl .u64 ky _ _ (by omega) (by simp only[IntKind.bits];omega)]
   have e:(i:Int)*2^(s:Int).toNat=((i*2^s:Nat):Int):=by simp
   rw[e,Zhd];rfl) k
theorem Zam{t u:TypeId}{x y:Operand}{i s:Nat}{ky:IntKind}(hx:ev l x=some (.int .u64 (i:Int)))(hy:ev l y=some (.int ky (s:Int)))(hs:s<=64)(k:K (.int .u64 ((i/2^s:Nat):Int)) w)(a:Act)(hL:ZD a n l):YL P ⟨d,.binOp .shr t x y u,ty,pos,af,g⟩ a w K:=by
 refine Zv (v:=.int .u64 ((i/2^s:Nat):Int)) (by
   rw[Yi,hL.ev hx,hL.ev hy,YR]
   simp only[ZE,binOp]
   rw[shift_shr .u64 ky _ _ (by omega) (by simp only[IntKind.bits];omega)]
   have e:(i:Int)/2^(s:Int).toNat=((i/2^s:Nat):Int):=by simp
   rw[e];rfl) k
theorem bits64(f:BitVec 64->BitVec 64->BitVec 64)(x y z:Nat)(h:(f (BitVec.ofInt 64 x)<|BitVec.ofInt 64 y).toNat=z)(hz:z<18446744073709551616):IntKind.u64.wrap ((f (BitVec.ofInt 64 x)<|BitVec.ofInt 64 y).toNat:Int)=(z:Int):=by
 rw[h,Zhd];omega
theorem Zhx{t u:TypeId}{x y:Operand}{i j z:Nat}(hx:ev l x=some (.int .u64 (i:Int)))(hy:ev l y=some (.int .u64 (j:Int)))(hi:i<18446744073709551616)(hj:j<18446744073709551616)(hz:i |||j=z)(k:K (.int .u64 (z:Int)) w)(a:Act)(hL:ZD a n l):YL P ⟨d,.binOp .or t x y u,ty,pos,af,g⟩ a w K:=by
 subst hz;have hlt:i |||j<2^64:=Nat.or_lt_two_pow hi hj
 refine Zv (v:=.int .u64 ((i |||j:Nat):Int)) (by
   rw[Yi,hL.ev hx,hL.ev hy,YR]
   simp only[ZE,binOp,ne_eq,not_true,if_false]
   rw[intBits_or]
   have e:bits .or .u64 (i:Int) (j:Int)=((i |||j:Nat):Int):=by
     refine bits64 (λa b=>a |||b) i j _ ?_ hlt
     simp only[BitVec.toNat_or,BitVec.ofInt_natCast,BitVec.toNat_ofNat]
     rw[Nat.mod_eq_of_lt (by omega),Nat.mod_eq_of_lt (by omega)]
   rw[e];rfl) k
theorem does_and32{t u:TypeId}{x y:Operand}{i:Nat}(hx:ev l x=some (.int .u64 (i:Int)))(hy:ev l y=some (.int .u64 4294967295))(hi:i<18446744073709551616)(k:K (.int .u64 ((i%4294967296:Nat):Int)) w)(a:Act)(hL:ZD a n l):YL P ⟨d,.binOp .and t x y u,ty,pos,af,g⟩ a w K:=by
 refine Zv (v:=.int .u64 ((i%4294967296:Nat):Int)) (by
   rw[Yi,hL.ev hx,hL.ev hy,YR]
   simp only[ZE,binOp,ne_eq,not_true,if_false]
   rw[intBits_and]
   have e:bits .and .u64 (i:Int) 4294967295=((i%4294967296:Nat):Int):=by
     refine bits64 (λa b=>a &&& b) i 4294967295 _ ?_ (by omega)
     simp only[BitVec.toNat_and,BitVec.ofInt_natCast,BitVec.toNat_ofNat]
     rw[Nat.mod_eq_of_lt (by omega),show 4294967295%2^64=2^32-1 from rfl,Nat.and_two_pow_sub_one_eq_mod]
   rw[e];rfl) k
end
theorem or_sum{a b i:Nat}(h:b<2^i):(2^i*a) |||b=2^i*a+b:=(Nat.two_pow_add_eq_or_of_lt h a).symm
theorem dq_init{K v w u z q r:Nat}(hq:q*v+r=u)(hr:r<v)(hz:z<K):u*K+z<(q+1)*(v*K+w):=by
 have e:(q+1)*(v*K+w)=(q*v)*K+q*w+v*K+w:=by rw[Nat.add_mul,Nat.mul_add,Nat.one_mul,Nat.mul_assoc];omega
 have e2:u*K=(q*v)*K+r*K:=by rw[<-hq,Nat.add_mul]
 have e3:(r+1)*K<=v*K:=Nat.mul_le_mul_right K hr;rw[Nat.add_mul,Nat.one_mul] at e3;omega
theorem dq_step{K v w u z q r:Nat}(hq:q*v+r=u)(hz:z<K)(hu:u<v*K+w)(h:K<=q\/r*K+z<q*w):0<q/\(q-1)*v+(r+v)=u/\u*K+z<(q-1+1)*(v*K+w):=by
 have h0:0<q:=by
  rcases h with h|h;have:0<K:=by omega
  omega;rcases Nat.eq_zero_or_pos q with e|e;subst e;simp at h;exact e
 obtain⟨p,rfl⟩:∃p,q=p+1:=⟨q-1,by omega⟩;refine⟨h0,?_,?_⟩;rw[Nat.add_sub_cancel,<-hq,Nat.add_mul];omega;rw[Nat.add_sub_cancel];have e:(p+1)*(v*K+w)=((p+1)*v)*K+(p+1)*w:=by rw[Nat.mul_add,Nat.mul_assoc]
 have e2:u*K=((p+1)*v)*K+r*K:=by rw[<-hq,Nat.add_mul]
 rcases h with h|h;have h1:K*(u+1)<=(p+1)*(v*K+w):=Nat.mul_le_mul h hu;rw[Nat.mul_add,Nat.mul_one,Nat.mul_comm] at h1;omega;omega
theorem Zcf{K v w u z q r:Nat}(hq:q*v+r=u)(h:q*w<=r*K+z):q*(v*K+w)<=u*K+z:=by
 have e:q*(v*K+w)=(q*v)*K+q*w:=by rw[Nat.mul_add,Nat.mul_assoc]
 have e2:u*K=(q*v)*K+r*K:=by rw[<-hq,Nat.add_mul]
 omega
theorem QW{K v w u z q r:Nat}(hq:q*v+r=u)(hw:w<K)(hr:K<=r)(hk:q<=K):q*(v*K+w)<=u*K+z:=by
 refine Zcf hq ?_;have h1:q*w<=K*K:=Nat.mul_le_mul hk (Nat.le_of_lt hw);have h2:K*K<=r*K:=Nat.mul_le_mul_right K hr;omega
structure Norm(h lo y s Y v w u z1 z0:Nat):Prop where
  hs:s<64
  hY:Y=y*2^s
  hY2:Y<18446744073709551616
  hv:Y=v*4294967296+w
  hw:w<4294967296
  hv2:2147483648<=v
  hu:u*18446744073709551616+(z1*4294967296+z0)=(h*18446744073709551616+lo)*2^s
  hz1:z1<4294967296
  hz0:z0<4294967296
  hu2:u<Y
theorem QT{s:Nat}(hs:s<=64):2^s*2^(64-s)=18446744073709551616:=by
 rw[<-Nat.pow_add,show s+(64-s)=64 by omega]
theorem norm_start{h lo y:Nat}(hy:y<18446744073709551616)(hh:h<y)(hl:lo<18446744073709551616):
    Norm h lo y (64-ZC y) (y*2^(64-ZC y)%18446744073709551616) (y*2^(64-ZC y)%18446744073709551616/2^32) (y*2^(64-ZC y)%18446744073709551616%4294967296)
      ((h*2^(64-ZC y)%18446744073709551616) |||(lo/2^(64-(64-ZC y)))) (lo*2^(64-ZC y)%18446744073709551616/2^32) (lo*2^(64-ZC y)%18446744073709551616%4294967296):=by
 have hb:=Zcj (n:=y) (by omega);have hb1:ZC y<=64:=by rcases Nat.lt_or_ge 64 (ZC y) with h1|h1;have:2^64<=2^(ZC y-1):=Nat.pow_le_pow_right (by decide) (by omega);have e:(2:Nat)^64=18446744073709551616:=rfl;omega;exact h1
 have hb0:=Zdk (n:=y) (by omega);generalize hs:64-ZC y=s;have hs2:ZC y=64-s:=by omega
 rw[hs2] at hb;have hs3:s<64:=by omega
 clear hb0 hb1 hs hs2;have hps:=QT (s:=s) (by omega);have hp63:2^s*2^(64-s-1)=9223372036854775808:=by rw[<-Nat.pow_add,show s+(64-s-1)=63 by omega]
 have hY1:y*2^s<18446744073709551616:=by rw[<-hps,Nat.mul_comm];exact Nat.mul_lt_mul_of_pos_left hb.2 (Nat.two_pow_pos s)
 have hY0:9223372036854775808<=y*2^s:=by rw[<-hp63,Nat.mul_comm];exact Nat.mul_le_mul_right _ hb.1
 have hh1:h*2^s+2^s<=y*2^s:=by rw[<-Nat.succ_mul];exact Nat.mul_le_mul_right _ hh
 have hp0:0<2^s:=Nat.two_pow_pos s;have e1:h*2^s%18446744073709551616=2^s*h:=by rw[Nat.mod_eq_of_lt (by omega),Nat.mul_comm]
 have hlo:lo/2^(64-s)<2^s:=by rw[Nat.div_lt_iff_lt_mul (Nat.two_pow_pos _),hps];exact hl
 rw[e1,or_sum hlo,Nat.mod_eq_of_lt hY1];have e3:(lo*2^s)/18446744073709551616=lo/2^(64-s):=by rw[<-hps,Nat.mul_comm lo,Nat.mul_div_mul_left _ _ hp0]
 have e5:(2:Nat)^32=4294967296:=rfl;have e6:=Nat.div_add_mod (lo*2^s) 18446744073709551616;rw[e3] at e6;have hm:=Nat.mod_lt (lo*2^s) (show 18446744073709551616 > 0 by decide);have e7:(2^s*h+lo/2^(64-s))*18446744073709551616+lo*2^s%18446744073709551616=(h*18446744073709551616+lo)*2^s:=by
  rw[Nat.add_mul,Nat.add_mul];have:h*18446744073709551616*2^s=2^s*h*18446744073709551616:=by rw[Nat.mul_assoc,Nat.mul_comm 18446744073709551616,<-Nat.mul_assoc,Nat.mul_comm h]
  omega
 have e8:2^s*h=h*2^s:=Nat.mul_comm _ _;generalize lo*2^s%18446744073709551616=m at*;generalize lo/2^(64-s)=c at*;generalize hYv:y*2^s=Y at*;rw[e5];refine⟨hs3,hYv.symm▸rfl,by omega,by omega,by omega,by omega,?_,by omega,by omega,by omega⟩;rw[<-e7];omega
theorem norm_u21{A B u1 Y:Nat}(h1:B<=A+u1)(h2:A+u1<B+Y)(hY:Y<=18446744073709551616):((A%18446744073709551616+u1)%18446744073709551616+18446744073709551616-B%18446744073709551616)%18446744073709551616+B=A+u1:=by omega
theorem div_fin{m q y p r0:Nat}(e:m*p=r0+q*y*p)(hp:0<p)(hr:r0<y*p)(hy:0<y):q=m/y/\r0/p=m%y:=by
 have hmq:q*y<=m:=by rcases Nat.lt_or_ge m (q*y) with h|h;have:=Nat.mul_le_mul_right p h;rw[Nat.succ_mul] at this;omega;exact h
 have hr0:r0=(m-q*y)*p:=by rw[Nat.sub_mul];omega
 have hlt:m-q*y<y:=by rw[hr0] at hr;exact Nat.lt_of_mul_lt_mul_right hr
 have hm:m=q*y+(m-q*y):=by omega
 generalize m-q*y=t at*;subst hm;constructor;rw[Nat.mul_comm q y,Nat.mul_add_div (by omega),Nat.div_eq_of_lt hlt];rfl;rw[hr0,Nat.mul_div_cancel _ hp,Nat.mul_comm q y,Nat.mul_add_mod,Nat.mod_eq_of_lt hlt]
theorem div64_done{h lo y s Y v w u z1 z0 q1 q0 r1 r0:Nat}(N:Norm h lo y s Y v w u z1 z0)(h1:r1+q1*Y=u*4294967296+z1)(h0:r0+q0*Y=r1*4294967296+z0)(hr:r0<Y)(hy:0<y):
    q1*4294967296+q0=(h*18446744073709551616+lo)/y/\r0/2^s=(h*18446744073709551616+lo)%y:=by
 have e:(h*18446744073709551616+lo)*2^s=r0+(q1*4294967296+q0)*Y:=by rw[<-N.hu,Nat.add_mul,Nat.mul_right_comm];omega
 have hp:0<2^s:=Nat.two_pow_pos s;rw[N.hY] at e hr;rw[<-Nat.mul_assoc] at e;exact div_fin e hp hr hy
theorem dq_small{v w u q r:Nat}(hq:q*v+r=u)(hu:u<v*4294967296+w)(hw:w<4294967296)(hv:2147483648<=v):q<=4294967297:=by
 rcases Nat.lt_or_ge 4294967297 q with h|h;have:=Nat.mul_le_mul_right v h;simp only[Nat.succ_eq_add_one] at this;omega;exact h
theorem dq_lt{K Y u z q:Nat}(h:q*Y<=u*K+z)(hz:z<K)(hu:u<Y):q<K:=by
 rcases Nat.lt_or_ge q K with h1|h1;exact h1;have h2:=Nat.mul_le_mul h1 (Nat.succ_le_of_lt hu);rw[Nat.succ_eq_add_one,Nat.mul_add,Nat.mul_one,Nat.mul_comm K] at h2;have h3:q*(u+1)<=q*Y:=Nat.mul_le_mul_left q hu;have h4:K*(u+1)<=q*Y:=Nat.le_trans (Nat.mul_le_mul_right _ h1) h3;rw[Nat.mul_add,Nat.mul_one,Nat.mul_comm K] at h4;omega
theorem int_eq2{k k':IntKind}{x y x' y':Int}(h:x=x')(h':y=y'):pack [.int k x,.int k' y]= .tuple [.int k x',.int k' y'].toArray:=by subst h h';rfl
theorem Zg6{y:Nat}(h:y<18446744073709551616):ZC y<=64:=by
 by_cases h0:y=0;subst h0;rw[bitlen_zero];omega;have hb:=Zcj h0;rcases Nat.lt_or_ge 64 (ZC y) with h1|h1;have:2^64<=2^(ZC y-1):=Nat.pow_le_pow_right (by decide) (by omega);have e:(2:Nat)^64=18446744073709551616:=rfl;omega;exact h1
theorem mod_hint{u v q:Nat}(hq:q=u/v)(hv:0<v):q*v<=u/\u<q*v+v:=by
 have h1:=Nat.div_add_mod u v;have h2:=Nat.mod_lt u hv;rw[<-hq,Nat.mul_comm] at h1;omega
theorem dq_step2{K v w u z q r:Nat}(hq:q*v+r=u)(h:r*K+z<q*w):0<q/\(q-1)*v+(r+v)=u/\u*K+z<(q-1+1)*(v*K+w):=by
 have h0:0<q:=by rcases Nat.eq_zero_or_pos q with e|e;subst e;simp at h;exact e
 obtain⟨p,rfl⟩:∃p,q=p+1:=⟨q-1,by omega⟩;refine⟨h0,?_,?_⟩;rw[Nat.add_sub_cancel,<-hq,Nat.add_mul];omega;rw[Nat.add_sub_cancel];have e:(p+1)*(v*K+w)=((p+1)*v)*K+(p+1)*w:=by rw[Nat.mul_add,Nat.mul_assoc]
 have e2:u*K=((p+1)*v)*K+r*K:=by rw[<-hq,Nat.add_mul]
 omega
def cr(d:List Nat)(n i:Nat):Nat:=if i=0 then 0 else d.getD (i-1) 0/2^(64-n)
structure Zic(d us:List Nat)(n m i:Nat):Prop where
  len:us.length=m
  le:i<=m
  sum:val W64 (us.take i)+W64^i*cr d n i=val W64 (d.take i)*2^n
  rest:us.drop i=List.replicate (m-i) 0
  lt:∀e∈us,e<18446744073709551616
theorem Zic.start{d:List Nat}{n m:Nat}:Zic d (List.replicate m 0) n m 0:=⟨by simp,by omega,by simp[val,cr],by simp,by simp⟩
theorem shl_parts{x n:Nat}(hn:n<64):x*2^n=x*2^n%18446744073709551616+18446744073709551616*(x/2^(64-n)):=by
 have h1:=QT (s:=n) (by omega);have h2:x*2^n/18446744073709551616=x/2^(64-n):=by rw[<-h1,Nat.mul_comm x,Nat.mul_div_mul_left _ _ (Nat.two_pow_pos n)]
 have h3:=Nat.div_add_mod (x*2^n) 18446744073709551616;rw[h2] at h3;omega
theorem shl_mult{x n:Nat}(hn:n<64):x*2^n%18446744073709551616=2^n*(x%2^(64-n)):=by
 have h1:=QT (s:=n) (by omega);rw[<-h1,Nat.mul_comm x,Nat.mul_mod_mul_left]
theorem up_or{x c n:Nat}(hn:n<64)(hc:c<2^n):(x*2^n%18446744073709551616) |||c=x*2^n%18446744073709551616+c:=by rw[shl_mult hn,or_sum hc]
theorem cr_lt{d:List Nat}{n i:Nat}(hn:n<64)(hd:∀e∈d,e<18446744073709551616):cr d n i<2^n:=by
 unfold cr;split;exact Nat.two_pow_pos n;rw[Nat.div_lt_iff_lt_mul (Nat.two_pow_pos _),QT (by omega)];exact ZT hd (by decide) _
theorem add_pow_lt{x n c:Nat}(hn:n<64)(hc:c<2^n):x*2^n%18446744073709551616+c<18446744073709551616:=by
 have h:=Nat.or_lt_two_pow (x:=x*2^n%18446744073709551616) (y:=c) (n:=64) (Nat.mod_lt _ (by decide)) (Nat.lt_of_lt_of_le hc<|Nat.pow_le_pow_right (by decide) (by omega));rw[up_or hn hc] at h;exact h
theorem up_sum{V P c X N o x c':Nat}(h:V+P*c=X*N)(hx:x*N+c=o+18446744073709551616*c'):(V+P*o)+P*18446744073709551616*c'=(X+P*x)*N:=by
 have e1:P*(x*N+c)=P*(o+18446744073709551616*c'):=by rw[hx]
 rw[Nat.mul_add,Nat.mul_add] at e1;rw[Nat.add_mul,<-h,Nat.mul_assoc P x N,Nat.mul_assoc P];omega
theorem Zic.step{d us:List Nat}{n m i o:Nat}(h:Zic d us n m i)(hn:n<64)(hd:∀e∈d,e<18446744073709551616)(hi:i<m)(ho:o=d.getD i 0*2^n%18446744073709551616+cr d n i):Zic d (us.set i o) n m (i+1):=by
 have hc:=cr_lt (i:=i) hn hd;have hol:o<18446744073709551616:=by rw[ho];exact add_pow_lt hn hc
 have hlen:i<us.length:=by rw[h.len];exact hi
 have hle:=hi;have hr:=h.rest;refine⟨by rw[List.length_set];exact h.len,hle,?_,?_,Zct h.lt hol⟩;have hs:=h.sum;have e1:val W64 ((us.set i o).take (i+1))=val W64 (us.take i)+W64^i*o:=by rw[Xi W64 _ i (by rw[List.length_set];exact hlen),Zfs,YZ hlen]
 have e2:val W64 (d.take (i+1))=val W64 (d.take i)+W64^i*d.getD i 0:=Xj d i;have e3:cr d n (i+1)=d.getD i 0/2^(64-n):=by unfold cr;rw[if_neg (by omega),Nat.add_sub_cancel]
 have e4:W64^(i+1)=W64^i*W64:=Nat.pow_succ _ _;rw[e1,e2,e3,e4];refine up_sum hs ?_;rw[ho];have:=shl_parts (x:=d.getD i 0) hn;omega;have h1:(us.set i o).drop (i+1)=us.drop (i+1):=by rw[List.drop_set_of_lt (by omega)]
 have h2:us.drop (i+1)=(us.drop i).drop 1:=by rw[List.drop_drop]
 rw[h1,h2,hr,List.drop_replicate];congr 1
theorem Zic.done{d us:List Nat}{n m i:Nat}(h:Zic d us n m i)(hi:¬i<m)(hm:d.length<=m):val W64 us+W64^m*cr d n m=val W64 d*2^n:=by
 have hle:=h.le;obtain rfl:i=m:=by omega
 have hs:=h.sum;rw[List.take_of_length_le (by rw[h.len];exact Nat.le_refl _),List.take_of_length_le hm] at hs;exact hs
end
theorem ZY{P:Program}{Q:Exit->Act->World->Prop}{ops:Array Oper}{o:Oper}{rest:List Oper}{a:Act}{w:World}{n:Nat}{l:List (Nat × Value)}{d j e:Nat}{b:Bool}(hL:ZD a n l)(hg:o.guard=some (j,b))(hj:(ops[j]?).bind (·.dst)=some e)(he:Zad l e=some undef)(hd:o.dst=some d)(hn:Nat.blt d n=true)(h:∀a',ZD a' n ((d,undef)::l)->YA P ops Q rest a' w):YA P ops Q (o::rest) a w:=by
 simp only[YA];rw[if_neg (by simp[Region.wanted,hg,yielded,hj,hL.at_ e _ he,undef])];rw[hd];exact h _<|hL.put (by simpa [Nat.blt_eq] using hn) undef
theorem cr0{d:List Nat}{n i:Nat}(hd:∀e∈d,e<18446744073709551616)(h:¬(0<i/\i<=d.length/\0<n)):cr d n i=0:=by
 unfold cr;by_cases h0:i=0;rw[if_pos h0];rw[if_neg h0];by_cases h1:d.length<i;rw[Za0 (by omega),Nat.zero_div];have:n=0:=by omega
 subst this;exact Nat.div_eq_of_lt<|ZT hd (by decide) _
theorem up_or1{d us:List Nat}{n i:Nat}(hn:n<64)(hd:∀e∈d,e<18446744073709551616)(hi:i<us.length)(h0:0<i):
    (us.set i (d.getD i 0*2^n%18446744073709551616)).getD i 0 |||d.getD (i-1) 0/2^(64-n)=d.getD i 0*2^n%18446744073709551616+cr d n i:=by
 have hc:=cr_lt (i:=i) hn hd;have e:d.getD (i-1) 0/2^(64-n)=cr d n i:=by unfold cr;rw[if_neg (by omega)]
 rw[YZ hi,e,up_or hn hc]
theorem up_or0{d us:List Nat}{n m i:Nat}(h:Zic d us n m i)(hd:d.length<=i)(h0:0<i):
    us.getD i 0 |||d.getD (i-1) 0/2^(64-n)=d.getD i 0*2^n%18446744073709551616+cr d n i:=by
 have e:d.getD (i-1) 0/2^(64-n)=cr d n i:=by unfold cr;rw[if_neg (by omega)]
 have e2:us.getD i 0=0:=by
  have h1:us.getD i 0=(us.drop i).getD 0 0:=by simp[List.getD_eq_getElem?_getD]
  rw[h1,h.rest];simp[List.getD_eq_getElem?_getD,List.getElem?_replicate];split <;> simp
 rw[e,e2,Za0 hd,Nat.zero_mul,Nat.zero_mod,Nat.zero_add,Nat.zero_or]
theorem Zic.step'{d us us':List Nat}{n m i:Nat}(h:Zic d us n m i)(hn:n<64)(hd:∀e∈d,e<18446744073709551616)(hi:i<m)(e:us'=us.set i (d.getD i 0*2^n%18446744073709551616+cr d n i)):Zic d us' n m (i+1):=by
 subst e;exact h.step hn hd hi rfl
theorem Zdu{d us:List Nat}{n i:Nat}(hd:∀e∈d,e<18446744073709551616)(h:¬(0<i/\i<=d.length/\0<n)):us.set i (d.getD i 0*2^n%18446744073709551616)=us.set i (d.getD i 0*2^n%18446744073709551616+cr d n i):=by rw[cr0 hd h];rfl
theorem Zdv{d us:List Nat}{n m i:Nat}(hI:Zic d us n m i)(hi:i<m)(hd:∀e∈d,e<18446744073709551616)(hl:d.length<=i)(h:¬(0<i/\i<=d.length/\0<n)):us=us.set i (d.getD i 0*2^n%18446744073709551616+cr d n i):=by
 rw[cr0 hd h,Za0 hl,Nat.zero_mul,Nat.zero_mod];have hlen:i<us.length:=by rw[hI.len];exact hi
 have h1:us.getD i 0=0:=by
  have h1:us.getD i 0=(us.drop i).getD 0 0:=by simp[List.getD_eq_getElem?_getD]
  rw[h1,hI.rest];simp[List.getD_eq_getElem?_getD,List.getElem?_replicate];split <;> simp
 rw[List.getD_eq_getElem?_getD,List.getElem?_eq_getElem hlen] at h1;simp only[Option.getD_some] at h1;apply List.ext_getElem;simp;intro k hk hk';rw[List.getElem_set];split;rename_i e;subst e;exact h1;rfl
structure Zeo(d us:List Nat)(n i:Nat):Prop where
  len:us.length=d.length
  le:i<=d.length
  sum:2^n*val W64 (us.take i)+d.getD 0 0%2^n=val W64 (d.take i)+W64^i*(d.getD i 0%2^n)
  lt:∀e∈us,e<18446744073709551616
theorem Zeo.start{d:List Nat}{n:Nat}:Zeo d (List.replicate d.length 0) n 0:=⟨by simp,by omega,by simp[val],by simp⟩
theorem div_pow_lt{x n:Nat}(hn:n<=64)(hx:x<18446744073709551616):x/2^n<2^(64-n):=by
 rw[Nat.div_lt_iff_lt_mul (Nat.two_pow_pos _),Nat.mul_comm,QT hn];exact hx
theorem down_mult{x n:Nat}(hn:n<=64):x*2^(64-n)%18446744073709551616=2^(64-n)*(x%2^n):=by
 have h1:=QT (s:=n) hn;rw[<-h1,Nat.mul_comm (2^n),Nat.mul_comm x,Nat.mul_mod_mul_left]
theorem down_or{x y n:Nat}(hn:n<=64)(hx:x<18446744073709551616):(x/2^n) |||(y*2^(64-n)%18446744073709551616)=x/2^n+2^(64-n)*(y%2^n):=by
 rw[down_mult hn,Nat.or_comm,or_sum (div_pow_lt hn hx),Nat.add_comm]
theorem down_sum{N V D P a b c o M x T:Nat}(h:N*V+a=D+P*b)(ho:o=x+T*c)(hx:N*x+b=M)(hT:N*T=18446744073709551616):N*(V+P*o)+a=(D+P*M)+P*18446744073709551616*c:=by
 have e1:P*(N*x+b)=P*M:=by rw[hx]
 have e2:N*(T*c)=18446744073709551616*c:=by rw[<-Nat.mul_assoc,hT]
 have e3:N*(P*o)=P*(N*x)+P*(N*(T*c)):=by rw[ho,<-Nat.mul_add,<-Nat.mul_add,Nat.mul_left_comm]
 rw[Nat.mul_add] at e1;rw[Nat.mul_add,e3,e2,Nat.mul_assoc P 18446744073709551616 c];omega
theorem Zeo.step{d us us':List Nat}{n i:Nat}(h:Zeo d us n i)(hn:n<64)(hd:∀e∈d,e<18446744073709551616)(hi:i<d.length)(e:us'=us.set i (d.getD i 0/2^n+2^(64-n)*(d.getD (i+1) 0%2^n))):Zeo d us' n (i+1):=by
 subst e;have hlen:i<us.length:=by rw[h.len];exact hi
 have hle:=hi;have hol:d.getD i 0/2^n+2^(64-n)*(d.getD (i+1) 0%2^n)<18446744073709551616:=by rw[<-down_or (by omega) (ZT hd (by decide) i)];exact Nat.or_lt_two_pow (n:=64) (Nat.lt_of_le_of_lt (Nat.div_le_self _ _)<|ZT hd (by decide) i) (Nat.mod_lt _ (by decide))
 refine⟨by rw[List.length_set];exact h.len,hle,?_,Zct h.lt hol⟩;have hs:=h.sum;have hp:W64^(i+1)=W64^i*18446744073709551616:=Nat.pow_succ _ _;rw[Xi W64 _ i (by rw[List.length_set];exact hlen),Zfs,YZ hlen,Xj d i,hp];exact down_sum hs rfl (Nat.div_add_mod _ _)<|QT (by omega)
theorem down_case0{d us:List Nat}{n i:Nat}(h:¬(i+1<d.length/\0<n)):us.set i (d.getD i 0/2^n)=us.set i (d.getD i 0/2^n+2^(64-n)*(d.getD (i+1) 0%2^n)):=by
 have:d.getD (i+1) 0%2^n=0:=by
  by_cases h1:i+1<d.length;obtain rfl:n=0:=by omega
  exact Nat.mod_one _;rw[Za0 (by omega),Nat.zero_mod]
 rw[this];rfl
theorem down_or1{d us:List Nat}{n i:Nat}(hn:n<64)(hd:∀e∈d,e<18446744073709551616)(hi:i<us.length):
    (us.set i (d.getD i 0/2^n)).getD i 0 |||(d.getD (i+1) 0*2^(64-n)%18446744073709551616)=d.getD i 0/2^n+2^(64-n)*(d.getD (i+1) 0%2^n):=by
 rw[YZ hi,down_or (by omega) (ZT hd (by decide) i)]
theorem Zeo.done{d us:List Nat}{n i:Nat}(h:Zeo d us n i)(hi:¬i<d.length):val W64 us=val W64 d/2^n:=by
 have hle:=h.le;obtain rfl:i=d.length:=by omega
 have hs:=h.sum;rw[List.take_of_length_le (by rw[h.len];exact Nat.le_refl _),List.take_of_length_le (Nat.le_refl _),Za0 (Nat.le_refl _),Nat.zero_mod,Nat.mul_zero,Nat.add_zero] at hs;have hp:=Nat.two_pow_pos n;rw[<-hs,Nat.mul_add_div hp,Nat.div_eq_of_lt (Nat.mod_lt _ hp)];rfl
structure Zg8(p v us:List Nat)(o d i c b:Nat):Prop where
  len:us.length=p.length
  lt:∀e∈us,e<18446744073709551616
  hc:c<18446744073709551616
  hb:b<=1
  cz:v.length<i->c=0
  sum:val W64 us+W64^o*(val W64 (v.take i)*d)=val W64 p+W64^(o+i)*(c+b)
  out:∀m,m<o\/o+i<=m->us.getD m 0=p.getD m 0
theorem Zg8.start{p v:List Nat}{o d:Nat}(h:∀e∈p,e<18446744073709551616):Zg8 p v p o d 0 0 0:=⟨rfl,h,by decide,by decide,λ_=>rfl,by simp[val],λ_ _=>rfl⟩
theorem away_sum{A A' P u u' O X d C c b x l c' b' Y:Nat}(h1:A'+P*u=A+P*u')(h2:A+O*(X*d)=Y+P*(c+b))(h3:x*d+c=l+18446744073709551616*c')(h4:u'+l+b=u+18446744073709551616*b')(hP:P=O*C):
    A'+O*((X+C*x)*d)=Y+P*18446744073709551616*(c'+b'):=by
 have e1:P*(x*d+c)=P*(l+18446744073709551616*c'):=by rw[h3]
 have e2:P*(u'+l+b)=P*(u+18446744073709551616*b'):=by rw[h4]
 have e3:O*((X+C*x)*d)=O*(X*d)+P*(x*d):=by rw[hP,Nat.add_mul,Nat.mul_add,Nat.mul_assoc,Nat.mul_assoc]
 have e4:P*18446744073709551616*(c'+b')=P*(18446744073709551616*c')+P*(18446744073709551616*b'):=by rw[Nat.mul_assoc,Nat.mul_add,Nat.mul_add]
 rw[Nat.mul_add] at h2 e1 e2;rw[Nat.mul_add] at e1 e2;rw[Nat.mul_add] at e2;rw[e3,e4];omega
theorem Zg8.step{p v us:List Nat}{o d i c b m:Nat}(h:Zg8 p v us o d i c b)(hm:m=o+i)(hi:o+i<p.length){l c' u' b':Nat}(h1:u'<18446744073709551616)(h2:c'<18446744073709551616)(h3:b'<=1)(h4:v.getD i 0*d+c=l+18446744073709551616*c')(h5:u'+l+b=us.getD m 0+18446744073709551616*b')(h6:v.length<i+1->c'=0):Zg8 p v (us.set m u') o d (i+1) c' b':=by
 subst hm;refine⟨by rw[List.length_set];exact h.len,Zct h.lt h1,h2,h3,h6,?_,λk hk=>by rw[XM (by omega)];exact h.out k (by omega)⟩;have hv:=Zgs W64 us (o+i) u' (by rw[h.len];exact hi);have hs:=h.sum;have hp:W64^(o+(i+1))=W64^(o+i)*18446744073709551616:=Nat.pow_succ _ _;have hq:W64^(o+i)=W64^o*W64^i:=Nat.pow_add _ _ _;rw[Xj v i,hp];exact away_sum hv hs h4 h5 hq
structure Zg7(p v us:List Nat)(o i c:Nat):Prop where
  len:us.length=p.length
  lt:∀e∈us,e<18446744073709551616
  hc:c<=1
  sum:val W64 us+W64^(o+i)*c=val W64 p+W64^o*val W64 (v.take i)
  out:∀m,m<o\/o+i<=m->us.getD m 0=p.getD m 0
theorem Zg7.start{p v:List Nat}{o:Nat}(h:∀e∈p,e<18446744073709551616):Zg7 p v p o 0 0:=⟨rfl,h,by decide,by simp[val],λ_ _=>rfl⟩
theorem back_sum{A A' P u u' O X C c x c' Y:Nat}(h1:A'+P*u=A+P*u')(h2:A+P*c=Y+O*X)(h3:u'+18446744073709551616*c'=u+x+c)(hP:P=O*C):A'+P*18446744073709551616*c'=Y+O*(X+C*x):=by
 have e1:P*(u'+18446744073709551616*c')=P*(u+x+c):=by rw[h3]
 have e3:O*(X+C*x)=O*X+P*x:=by rw[hP,Nat.mul_add,Nat.mul_assoc]
 rw[Nat.mul_add,Nat.mul_add,Nat.mul_add] at e1;rw[e3,Nat.mul_assoc];omega
theorem Zg7.step{p v us:List Nat}{o i c m:Nat}(h:Zg7 p v us o i c)(hm:m=o+i)(hi:o+i<p.length){u' c':Nat}(h1:u'<18446744073709551616)(h2:c'<=1)(h3:u'+18446744073709551616*c'=us.getD m 0+v.getD i 0+c):Zg7 p v (us.set m u') o (i+1) c':=by
 subst hm;refine⟨by rw[List.length_set];exact h.len,Zct h.lt h1,h2,?_,λk hk=>by rw[XM (by omega)];exact h.out k (by omega)⟩;have hv:=Zgs W64 us (o+i) u' (by rw[h.len];exact hi);have hs:=h.sum;have hp:W64^(o+(i+1))=W64^(o+i)*18446744073709551616:=Nat.pow_succ _ _;have hq:W64^(o+i)=W64^o*W64^i:=Nat.pow_add _ _ _;rw[Xj v i,hp];exact back_sum hv hs h3 hq
structure Zbq(d us:List Nat)(dv k r:Nat):Prop where
  len:us.length=d.length
  le:k<=d.length
  lt:∀e∈us,e<18446744073709551616
  hr:r<dv
  low:us.take k=d.take k
  sum:val W64 (d.drop k)=val W64 (us.drop k)*dv+r
theorem Zbq.start{d:List Nat}{dv:Nat}(h:∀e∈d,e<18446744073709551616)(h0:0<dv):Zbq d d dv d.length 0:=⟨rfl,Nat.le_refl _,h,h0,rfl,by simp[val]⟩
theorem short_sum{D U dv r x q r':Nat}(h:D=U*dv+r)(hq:q=(r*18446744073709551616+x)/dv)(hr:r'=(r*18446744073709551616+x)%dv):x+18446744073709551616*D=(q+18446744073709551616*U)*dv+r':=by
 have h1:=Nat.div_add_mod (r*18446744073709551616+x) dv;rw[<-hq,<-hr,Nat.mul_comm] at h1;rw[h,Nat.add_mul,Nat.mul_add,Nat.mul_assoc];omega
theorem Zbq.step{d us:List Nat}{dv k r j:Nat}(h:Zbq d us dv k r)(hj:j=k-1)(hk:0<k){q r':Nat}(hq:q=(r*18446744073709551616+us.getD j 0)/dv)(hr:r'=(r*18446744073709551616+us.getD j 0)%dv)(hd:∀e∈d,e<18446744073709551616):Zbq d (us.set j q) dv (k-1) r':=by
 subst hj;have hle:=h.le;have hlen:k-1<us.length:=by rw[h.len];omega
 have e1:us.getD (k-1) 0=d.getD (k-1) 0:=by
  have h1:(us.take k).getD (k-1) 0=us.getD (k-1) 0:=by simp[List.getD_eq_getElem?_getD,List.getElem?_take,show k-1<k by omega]
  have h2:(d.take k).getD (k-1) 0=d.getD (k-1) 0:=by simp[List.getD_eq_getElem?_getD,List.getElem?_take,show k-1<k by omega]
  rw[<-h1,<-h2,h.low]
 have hdv:0<dv:=by have:=h.hr;omega
 have hql:q<18446744073709551616:=by rw[hq];refine Nat.div_lt_of_lt_mul ?_;have h1:=h.hr;have h2:=ZT h.lt (show 0<18446744073709551616 by decide) (k-1);have h3:(r+1)*18446744073709551616<=dv*18446744073709551616:=Nat.mul_le_mul_right _ h1;omega
 refine⟨by rw[List.length_set];exact h.len,by omega,Zct h.lt hql,by rw[hr];exact Nat.mod_lt _ hdv,?_,?_⟩;rw[Zfs];have h1:us.take (k-1)=(us.take k).take (k-1):=by rw[List.take_take,Nat.min_eq_left (by omega)]
 have h2:d.take (k-1)=(d.take k).take (k-1):=by rw[List.take_take,Nat.min_eq_left (by omega)]
 rw[h1,h2,h.low];have h1:(us.set (k-1) q).drop (k-1)=q::us.drop k:=by rw[YC (by rw[List.length_set];exact hlen),YZ hlen,show k-1+1=k by omega,List.drop_set_of_lt (by omega)]
 have h2:d.drop (k-1)=d.getD (k-1) 0::d.drop k:=by rw[YC (by omega),show k-1+1=k by omega]
 rw[h1,h2];simp only[val];rw[e1] at hq hr;exact short_sum h.sum hq hr
theorem Zbq.done{d us:List Nat}{dv r:Nat}(h:Zbq d us dv 0 r):val W64 us=val W64 d/dv/\r=val W64 d%dv:=by
 have hs:=h.sum;have hr:=h.hr;rw[List.drop_zero,List.drop_zero] at hs;rw[hs,Nat.mul_comm];constructor;rw[Nat.mul_add_div (by omega),Nat.div_eq_of_lt hr];rfl;rw[Nat.mul_add_mod,Nat.mod_eq_of_lt hr]
theorem sub_step{x l b:Nat}(hx:x<18446744073709551616)(hl:l<18446744073709551616)(hb:b<=1):(x+18446744073709551616-l-b)%18446744073709551616+l+b=x+18446744073709551616*(if x<l+b then 1 else 0)/\(if x<l+b then 1 else 0)<=1:=by
 split <;> omega
theorem YB:Zgf prog 29=some false:=by kernel_rfl
theorem Xf:Zgf prog 30=some false:=by kernel_rfl
theorem ZM:Zgf prog 32=some true:=by kernel_rfl
theorem ZG:Yy prog 29=some 1:=by kernel_rfl
theorem Zp:Yy prog 32=some 2:=by kernel_rfl
theorem Zbp:Qb prog 29=some 8:=by kernel_rfl
theorem Zah:XT prog 29=some (.int .u64 (0:Int)):=by kernel_rfl
theorem ZZ:XT prog 32=some (.agg ([(.int .u64 (0:Int)),(.slice none 0 0)]:List Value).toArray):=by kernel_rfl
theorem Yt:Zaf prog 32 0=some (0,29,1):=by kernel_rfl
theorem ZS:Zaf prog 32 1=some (1,30,1):=by kernel_rfl
theorem Qx:Zdx prog 32=true:=by kernel_rfl
theorem mixed:prog.follows .mixedOrders=true:=by kernel_rfl
theorem ent_77:ZR prog 77=true:=by kernel_rfl
theorem Zgk:ZR prog 98=true:=by kernel_rfl
theorem ent_133:ZR prog 133=true:=by kernel_rfl
theorem ent_134:ZR prog 134=true:=by kernel_rfl
theorem Zd9:ZR prog 135=true:=by kernel_rfl
theorem ent_136:ZR prog 136=true:=by kernel_rfl
theorem ent_139:ZR prog 139=true:=by kernel_rfl
theorem Zfj:ZR prog 140=true:=by kernel_rfl
theorem ent_150:ZR prog 150=true:=by kernel_rfl
theorem ent_161:ZR prog 161=true:=by kernel_rfl
theorem ent_162:ZR prog 162=true:=by kernel_rfl
theorem ent_163:ZR prog 163=true:=by kernel_rfl
theorem ent_164:ZR prog 164=true:=by kernel_rfl
theorem ent_165:ZR prog 165=true:=by kernel_rfl
theorem ent_166:ZR prog 166=true:=by kernel_rfl
theorem ent_167:ZR prog 167=true:=by kernel_rfl
end Go.Cham
namespace Go.Proofs
open Go.Shelf
def Tryz.lays160_ren:Go.Shelf.Ren:=⟨λ|160=>149|232=>172|231=>171|227=>173|234=>175|233=>174|236=>177|235=>176|228=>191|271=>194|151=>193|197=>192|120=>204|152=>203|260=>202|137=>206|119=>207|224=>189|225=>188|217=>187|266=>200|n=>n,λ|9=>9|4=>4|3=>3|5=>5|117=>207|116=>206|0=>0|124=>210|21=>21|105=>225|46=>194|119=>240|139=>243|138=>242|n=>n,λ|3=>3|4=>4|n=>n⟩
theorem Tryz.lays160:Go.Proofs.Lays.n160 prog Tryz.lays160_ren:={
  mixed:=by kernel_rfl
  f119:=func207.trans (congrArg some (by kernel_rfl))
  f120:=func204.trans (congrArg some (by kernel_rfl))
  f137:=func206.trans (congrArg some (by kernel_rfl))
  f151:=func193.trans (congrArg some (by kernel_rfl))
  f152:=func203.trans (congrArg some (by kernel_rfl))
  f160:=func149.trans (congrArg some (by kernel_rfl))
  f197:=func192.trans (congrArg some (by kernel_rfl))
  f217:=func187.trans (congrArg some (by kernel_rfl))
  f224:=func189.trans (congrArg some (by kernel_rfl))
  f225:=func188.trans (congrArg some (by kernel_rfl))
  f227:=func173.trans (congrArg some (by kernel_rfl))
  f228:=func191.trans (congrArg some (by kernel_rfl))
  f231:=func171.trans (congrArg some (by kernel_rfl))
  f232:=func172.trans (congrArg some (by kernel_rfl))
  f233:=func174.trans (congrArg some (by kernel_rfl))
  f234:=func175.trans (congrArg some (by kernel_rfl))
  f235:=func176.trans (congrArg some (by kernel_rfl))
  f236:=func177.trans (congrArg some (by kernel_rfl))
  f260:=func202.trans (congrArg some (by kernel_rfl))
  f266:=func200.trans (congrArg some (by kernel_rfl))
  f271:=func194.trans (congrArg some (by kernel_rfl))
  t0:=underlying0
  a0:=Tryz.isAgg0
  z0:=Tryz.sizeOf0
  v0:=Tryz.zeroValue0
  t3:=underlying3
  a3:=Tryz.isAgg3
  z3:=Tryz.sizeOf3
  v3:=Tryz.zeroValue3
  t4:=underlying4
  a4:=Tryz.isAgg4
  z4:=Tryz.sizeOf4
  v4:=Tryz.zeroValue4
  t5:=underlying5
  a5:=Tryz.isAgg5
  z5:=Tryz.sizeOf5
  v5:=Tryz.zeroValue5
  t9:=underlying9
  a9:=Tryz.isAgg9
  z9:=Tryz.sizeOf9
  v9:=Tryz.zeroValue9
  t21:=underlying21
  a21:=Tryz.isAgg21
  z21:=Tryz.sizeOf21
  v21:=Tryz.zeroValue21
  t46:=underlying194
  a46:=Tryz.isAgg194
  z46:=Tryz.sizeOf194
  v46:=Tryz.zeroValue194
  t105:=underlying225
  a105:=Tryz.isAgg225
  z105:=Tryz.sizeOf225
  v105:=Tryz.zeroValue225
  t116:=underlying206
  a116:=Tryz.isAgg206
  z116:=Tryz.sizeOf206
  t117:=underlying207
  a117:=Tryz.isAgg207
  z117:=Tryz.sizeOf207
  v117:=Tryz.zeroValue207
  t119:=underlying240
  a119:=Tryz.isAgg240
  z119:=Tryz.sizeOf240
  t124:=underlying210
  a124:=Tryz.isAgg210
  z124:=Tryz.sizeOf210
  v124:=Tryz.zeroValue210
  t138:=underlying242
  a138:=Tryz.isAgg242
  z138:=Tryz.sizeOf242
  v138:=Tryz.zeroValue242
  t139:=underlying243
  a139:=Tryz.isAgg243
  z139:=Tryz.sizeOf243
  v139:=Tryz.zeroValue243
  g3:=by kernel_rfl
  g4:=by kernel_rfl}
def Tryz.lays134_ren:Go.Shelf.Ren:=⟨λ|134=>162|129=>150|n=>n,λ|53=>29|3=>3|4=>4|46=>194|5=>5|9=>9|n=>n,λ|n=>n⟩
theorem Tryz.lays134:Go.Proofs.Lays.n134 prog Tryz.lays134_ren:={
  mixed:=by kernel_rfl
  f129:=func150.trans (congrArg some (by kernel_rfl))
  f134:=func162.trans (congrArg some (by kernel_rfl))
  t3:=underlying3
  a3:=Tryz.isAgg3
  z3:=Tryz.sizeOf3
  v3:=Tryz.zeroValue3
  t4:=underlying4
  a4:=Tryz.isAgg4
  z4:=Tryz.sizeOf4
  v4:=Tryz.zeroValue4
  t5:=underlying5
  a5:=Tryz.isAgg5
  z5:=Tryz.sizeOf5
  v5:=Tryz.zeroValue5
  t9:=underlying9
  a9:=Tryz.isAgg9
  z9:=Tryz.sizeOf9
  v9:=Tryz.zeroValue9
  t46:=underlying194
  a46:=Tryz.isAgg194
  z46:=Tryz.sizeOf194
  v46:=Tryz.zeroValue194
  t53:=underlying29
  a53:=Tryz.isAgg29
  z53:=Tryz.sizeOf29
  v53:=Tryz.zeroValue29}
theorem Tryz.bits_LeadingZeros64(x:Int)(w:World)(h0:0<=x)(h1:x<=18446744073709551615):
    Calls prog 162 #[.int .u64 x] w λe w'=>e= .returned (.int .i64 (64-(Lib.bitLen x.toNat:Int)))/\w'=w:=Any.bits_LeadingZeros64 Tryz.lays134 x w h0 h1
def Tryz.lays129_ren:Go.Shelf.Ren:=⟨λ|129=>150|n=>n,λ|53=>29|3=>3|4=>4|46=>194|5=>5|9=>9|n=>n,λ|n=>n⟩
theorem Tryz.lays129:Go.Proofs.Lays.n129 prog Tryz.lays129_ren:={
  mixed:=by kernel_rfl
  f129:=func150.trans (congrArg some (by kernel_rfl))
  t3:=underlying3
  a3:=Tryz.isAgg3
  z3:=Tryz.sizeOf3
  v3:=Tryz.zeroValue3
  t4:=underlying4
  a4:=Tryz.isAgg4
  z4:=Tryz.sizeOf4
  v4:=Tryz.zeroValue4
  t5:=underlying5
  a5:=Tryz.isAgg5
  z5:=Tryz.sizeOf5
  v5:=Tryz.zeroValue5
  t9:=underlying9
  a9:=Tryz.isAgg9
  z9:=Tryz.sizeOf9
  v9:=Tryz.zeroValue9
  t46:=underlying194
  a46:=Tryz.isAgg194
  z46:=Tryz.sizeOf194
  v46:=Tryz.zeroValue194
  t53:=underlying29
  a53:=Tryz.isAgg29
  z53:=Tryz.sizeOf29
  v53:=Tryz.zeroValue29}
theorem Tryz.bits_Len64(x:Int)(w:World)(h0:0<=x)(h1:x<=18446744073709551615):
    Calls prog 150 #[.int .u64 x] w λe w'=>e= .returned (.int .i64 (Lib.bitLen x.toNat))/\w'=w:=Any.bits_Len64 Tryz.lays129 x w h0 h1
def Tryz.lays219_ren:Go.Shelf.Ren:=⟨λ|219=>169|217=>187|225=>188|224=>189|267=>190|266=>200|314=>201|n=>n,λ|9=>9|3=>3|4=>4|5=>5|46=>194|146=>234|51=>163|n=>n,λ|1=>2|n=>n⟩
theorem Tryz.lays219:Go.Proofs.Lays.n219 prog Tryz.lays219_ren:={
  mixed:=by kernel_rfl
  f217:=func187.trans (congrArg some (by kernel_rfl))
  f219:=func169.trans (congrArg some (by kernel_rfl))
  f224:=func189.trans (congrArg some (by kernel_rfl))
  f225:=func188.trans (congrArg some (by kernel_rfl))
  f266:=func200.trans (congrArg some (by kernel_rfl))
  f267:=func190.trans (congrArg some (by kernel_rfl))
  f314:=func201.trans (congrArg some (by kernel_rfl))
  t3:=underlying3
  a3:=Tryz.isAgg3
  z3:=Tryz.sizeOf3
  v3:=Tryz.zeroValue3
  t4:=underlying4
  a4:=Tryz.isAgg4
  z4:=Tryz.sizeOf4
  v4:=Tryz.zeroValue4
  t5:=underlying5
  a5:=Tryz.isAgg5
  z5:=Tryz.sizeOf5
  v5:=Tryz.zeroValue5
  t9:=underlying9
  a9:=Tryz.isAgg9
  z9:=Tryz.sizeOf9
  v9:=Tryz.zeroValue9
  t46:=underlying194
  a46:=Tryz.isAgg194
  z46:=Tryz.sizeOf194
  v46:=Tryz.zeroValue194
  t51:=underlying163
  a51:=Tryz.isAgg163
  z51:=Tryz.sizeOf163
  v51:=Tryz.zeroValue163
  t146:=underlying234
  a146:=Tryz.isAgg234
  z146:=Tryz.sizeOf234
  v146:=Tryz.zeroValue234
  g1:=by kernel_rfl}
theorem Tryz.stringslite_Index_one(s:ByteArray)(c:UInt8)(w:World):
    Calls prog 169 #[.string s,.string ⟨#[c]⟩] w λe w'=>e= .returned (.int .i64 (Lib.indexByte s.data.toList c))/\w'=w:=Any.stringslite_Index_one Tryz.lays219 s c w
def Tryz.lays101_ren:Go.Shelf.Ren:=⟨λ|101=>95|208=>148|206=>170|n=>n,λ|9=>9|4=>4|3=>3|n=>n,λ|n=>n⟩
theorem Tryz.lays101:Go.Proofs.Lays.n101 prog Tryz.lays101_ren:={
  mixed:=by kernel_rfl
  f101:=func95.trans (congrArg some (by kernel_rfl))
  f206:=func170.trans (congrArg some (by kernel_rfl))
  f208:=func148.trans (congrArg some (by kernel_rfl))
  t3:=underlying3
  a3:=Tryz.isAgg3
  z3:=Tryz.sizeOf3
  v3:=Tryz.zeroValue3
  t4:=underlying4
  a4:=Tryz.isAgg4
  z4:=Tryz.sizeOf4
  v4:=Tryz.zeroValue4
  t9:=underlying9
  a9:=Tryz.isAgg9
  z9:=Tryz.sizeOf9
  v9:=Tryz.zeroValue9}
theorem Tryz.strings_TrimPrefix(s p:ByteArray)(w:World):
    Calls prog 95 #[.string s,.string p] w λe w'=>e= .returned (.string ⟨(Lib.trimPrefix s.data.toList p.data.toList).toArray⟩)/\w'=w:=Any.strings_TrimPrefix Tryz.lays101 s p w
def Tryz.lays264_ren:Go.Shelf.Ren:=⟨λ|264=>139|n=>n,λ|53=>29|46=>194|n=>n,λ|n=>n⟩
theorem Tryz.lays264:Go.Proofs.Lays.n264 prog Tryz.lays264_ren:={
  mixed:=by kernel_rfl
  f264:=func139.trans (congrArg some (by kernel_rfl))
  t46:=underlying194
  a46:=Tryz.isAgg194
  z46:=Tryz.sizeOf194
  v46:=Tryz.zeroValue194
  t53:=underlying29
  a53:=Tryz.isAgg29
  z53:=Tryz.sizeOf29
  v53:=Tryz.zeroValue29}
theorem Tryz.bits_Mul64(x y:Nat)(hx:x<18446744073709551616)(hy:y<18446744073709551616)(w:World):
    Calls prog 139 #[.int .u64 x,.int .u64 y] w λe w'=>e= .returned (.tuple #[.int .u64 ((x*y/18446744073709551616:Nat):Int),.int .u64 ((x*y%18446744073709551616:Nat):Int)])/\w'=w:=Any.bits_Mul64 Tryz.lays264 x y hx hy w
open Go.RowKit Go.Lib in
theorem Tryz.strings_Trim_digits(s:ByteArray)(w:World)(hs:s.size<=9223372036854775807):
    Calls prog 149 #[.string s,.string ⟨#[48,49,50,51,52,53,54,55,56,57]⟩] w λe w'=>e= .returned (.string ⟨(Lib.trimS s.data.toList [48,49,50,51,52,53,54,55,56,57]).toArray⟩)/\Below w.heap.size w w'/\w.drawn<=w'.drawn:=by
 by_cases hs0:s.size=0;refine(Any.strings_Trim_empty Tryz.lays160 s ⟨#[48,49,50,51,52,53,54,55,56,57]⟩ w<|.inl hs0).mono λe w' ⟨h1,h2⟩=>⟨?_,h2▸Below.refl _ _,h2▸Nat.le_refl _⟩;have hl:s.data.toList=[]:=List.eq_nil_of_length_eq_zero (by rw[<-Lib.size_eq];exact hs0);rw[h1,hl];congr 2;rw[<-Lib.mk_data s,hl];rfl;have h116:=zero_of_info (P:=prog) (t:=Tryz.lays160_ren.t 116) (v:=.agg (Array.replicate 256<|.bool false)) (n:=256) (by kernel_rfl);refine(Any.strings_Trim_set Tryz.lays160 h116.1 h116.2 s ⟨#[48,49,50,51,52,53,54,55,56,57]⟩ w (by decide) (by omega) hs (by decide)<|ascii_of_all (by decide)).mono λe w' ⟨h1,h2⟩=>⟨h1,?_⟩;obtain⟨q,rfl⟩:=h2;exact⟨(((Below.refl _ _).alloc (Nat.le_refl _) _).alloc (by simp) _).trans ⟨rfl,rfl,rfl,Nat.le_refl _,λ_ _=>rfl⟩,Nat.le_add_right _ _⟩
end Go.Proofs
namespace Go.Cham
open Go Go.RowKit Go.Proofs Tryz
section
theorem run_add64_0(x y:Nat)(w:World):(callFunc 141 #[.int .u64 (x:Int),.int .u64 (y:Int),.int .u64 (0:Int)]).run prog w=
    .ok (.value (.tuple #[.int .u64 (((x+y+0)%18446744073709551616:Nat):Int),.int .u64 (((x+y+0)/18446744073709551616:Nat):Int)])) w:=by kernel_rfl
theorem run_add64_1(x y:Nat)(w:World):(callFunc 141 #[.int .u64 (x:Int),.int .u64 (y:Int),.int .u64 (1:Int)]).run prog w=
    .ok (.value (.tuple #[.int .u64 (((x+y+1)%18446744073709551616:Nat):Int),.int .u64 (((x+y+1)/18446744073709551616:Nat):Int)])) w:=by kernel_rfl
theorem run_sub64_0(x y:Nat)(w:World):(callFunc 168 #[.int .u64 (x:Int),.int .u64 (y:Int),.int .u64 (0:Int)]).run prog w=
    .ok (.value (.tuple #[.int .u64 (((x+18446744073709551616-y-0)%18446744073709551616:Nat):Int),.int .u64 ((if x<y+0 then 1 else 0:Nat):Int)])) w:=by kernel_rfl
theorem run_sub64_1(x y:Nat)(w:World):(callFunc 168 #[.int .u64 (x:Int),.int .u64 (y:Int),.int .u64 (1:Int)]).run prog w=
    .ok (.value (.tuple #[.int .u64 (((x+18446744073709551616-y-1)%18446744073709551616:Nat):Int),.int .u64 ((if x<y+1 then 1 else 0:Nat):Int)])) w:=by kernel_rfl
def add64V(x y c:Nat):Value:=.tuple [.int .u64 (((x+y+c)%18446744073709551616:Nat):Int),.int .u64 (((x+y+c)/18446744073709551616:Nat):Int)].toArray
def sub64V(x y c:Nat):Value:=.tuple [.int .u64 (((x+18446744073709551616-y-c)%18446744073709551616:Nat):Int),.int .u64 ((if x<y+c then 1 else 0:Nat):Int)].toArray
theorem run_add64(x y c:Nat)(hc:c<=1)(w:World):(callFunc 141 [.int .u64 (x:Int),.int .u64 (y:Int),.int .u64 (c:Int)].toArray).run prog w= .ok (.value (add64V x y c)) w:=by
 unfold add64V
 match c,hc with
 |0,_=>exact run_add64_0 x y w
 |1,_=>exact run_add64_1 x y w
theorem run_sub64(x y c:Nat)(hc:c<=1)(w:World):(callFunc 168 [.int .u64 (x:Int),.int .u64 (y:Int),.int .u64 (c:Int)].toArray).run prog w= .ok (.value (sub64V x y c)) w:=by
 unfold sub64V
 match c,hc with
 |0,_=>exact run_sub64_0 x y w
 |1,_=>exact run_sub64_1 x y w
section
variable{a:Act}{w:World}{n:Nat}{l:List (Nat × Value)}{K:Value->World->Prop}
variable{d:Option Tmp}{ty:TypeId}{pos:String}{af:Array Edge}{g:Option (Nat × Bool)}
theorem exec_callX{P:Program}{f:FuncId}{xs:Array Operand}{ts:Array TypeId}{vs:List Value}{v:Value}(hL:ZD a n l)(hv:evs l xs.toList=some vs)(h:(callFunc f vs.toArray).run P w= .ok (.value v) w):
    (execOp a.eval ⟨d,.call ⟨.value (.func f),xs,ts⟩,ty,pos,af,g⟩).run P w= .ok (.value v) w:=by
 have e1:xs.map a.eval=vs.toArray:=by rw[<-hL.evs hv,<-Array.toList_map]
 simp only[execOp,resolve,e1,Act.eval,Deferred.ofValue,ZE,invoke];simpa using h
theorem does_callX{P:Program}{f:FuncId}{xs:Array Operand}{ts:Array TypeId}{vs:List Value}{v:Value}(hL:ZD a n l)(hv:evs l xs.toList=some vs)(h:(callFunc f vs.toArray).run P w= .ok (.value v) w)(k:K v w):
    YL P ⟨d,.call ⟨.value (.func f),xs,ts⟩,ty,pos,af,g⟩ a w K:=Zv (exec_callX hL hv h) k
theorem Xh{xs:Array Operand}{ts:Array TypeId}{x y c:Nat}(hL:ZD a n l)(hv:evs l xs.toList=some [.int .u64 (x:Int),.int .u64 (y:Int),.int .u64 (c:Int)])(hc:c<=1)(k:K (add64V x y c) w):YL prog ⟨d,.call ⟨.value (.func 141),xs,ts⟩,ty,pos,af,g⟩ a w K:=
  does_callX hL hv (run_add64 x y c hc w) k
theorem Zf8{xs:Array Operand}{ts:Array TypeId}{x y c:Nat}(hL:ZD a n l)(hv:evs l xs.toList=some [.int .u64 (x:Int),.int .u64 (y:Int),.int .u64 (c:Int)])(hc:c<=1)(k:K (sub64V x y c) w):YL prog ⟨d,.call ⟨.value (.func 168),xs,ts⟩,ty,pos,af,g⟩ a w K:=
  does_callX hL hv (run_sub64 x y c hc w) k
end
theorem Zb7{P:Program}{f:FuncId}{args:Array Value}{S:Sh}{w:World}{v:Value}(hS:ZV S w)(h:Calls P f args w λe w'=>e= .returned v/\w'=w):Calls P f args w (Ret S w (λ_ u=>u=v)):=
  h.mono λe w' ⟨he,hw⟩=>⟨v,S,he,by subst hw;exact .refl hS,rfl⟩
theorem Ext.drewN{S:Sh}{w:World}(hS:ZV S w)(n:Nat):Ext S w S (w.drewN n):=
  ⟨.refl S,hS,λ_ o hb=>.inl ⟨o,hb⟩,⟨rfl,rfl,rfl,Nat.le_refl _,λ_ _=>rfl⟩,Nat.le_add_right _ _⟩
theorem bits_Len64R{S:Sh}{w:World}(hS:ZV S w){x:Nat}(hx:x<18446744073709551616):Calls prog 150 [.int .u64 ((x:Nat):Int)].toArray w (Ret S w (λ_ v=>v= .int .i64 ((ZC x:Nat):Int))):=by
 have:=Tryz.bits_Len64 (x:Int) w (by omega) (by omega);rw[Int.toNat_natCast,bitLen_eq hx] at this;exact Zb7 hS this
theorem Zge{S:Sh}{w:World}(hS:ZV S w){x:Nat}(hx:x<18446744073709551616):Calls prog 162 [.int .u64 ((x:Nat):Int)].toArray w (Ret S w (λ_ v=>v= .int .i64 (64-((ZC x:Nat):Int)))):=by
 have:=Tryz.bits_LeadingZeros64 (x:Int) w (by omega) (by omega);rw[Int.toNat_natCast,bitLen_eq hx] at this;exact Zb7 hS this
theorem Zat{S:Sh}{w:World}(hS:ZV S w){x y:Nat}(hx:x<18446744073709551616)(hy:y<18446744073709551616):Calls prog 139 [.int .u64 ((x:Nat):Int),.int .u64 ((y:Nat):Int)].toArray w
    (Ret S w (λ_ v=>v= .tuple [.int .u64 ((x*y/18446744073709551616:Nat):Int),.int .u64 ((x*y%18446744073709551616:Nat):Int)].toArray)):=
  Zb7 hS (Tryz.bits_Mul64 x y hx hy w)
end
section
section
variable{P:Program}{a:Act}{w:World}{n:Nat}{l:List (Nat × Value)}{K:Value->World->Prop}
variable{d:Option Tmp}{ty:TypeId}{pos:String}{af:Array Edge}{g:Option (Nat × Bool)}
theorem does_appendNil{x y:Operand}{t e:TypeId}{len cap2:Nat}{p:Option Addr}{ds:List Nat}{S0 S:Sh}{w0:World}{H:Own}(hx:ev l x=some (.slice none 0 0))(hy:ev l y=some (.slice p len cap2))(ht:P.underlying t=some (.slice e))(hZ:Yy P e=some 1)(hB:Qb P e=some 8)(hz:XT P e=some (.int .u64 0))(he:e=tU64)(hR:Run S0 w0 S H w)(hD:Dg S p len cap2 ds)(h0:0<len)(hlim:len<=1099511627776)(k:∀b cap rest w',len<=cap->Run S0 w0 S ((b,tU64,YD ds++rest)::H) w'->K (.slice (some ⟨b,0,none⟩) len cap) w')(a:Act)(hL:ZD a n l):YL P ⟨d,.call ⟨.builtin .append,#[x,y],#[t,t]⟩,ty,pos,af,g⟩ a w K:=by
 subst he
 obtain⟨i,hi,hs,hz',hb⟩:∃i,P.info? tU64=some i/\i.size=1/\i.zero=some (.int .u64 0)/\i.bytes=8:=by
   unfold Yy at hZ
   unfold Qb at hB
   unfold XT at hz
   cases hi:P.info? tU64 with
   |none=>rw[hi] at hZ;simp at hZ
   |some i=>rw[hi] at hZ hB hz;exact⟨i,rfl,by simpa using hZ,by simpa using hz,by simpa using hB⟩
 obtain⟨b2,rest2,rfl,r⟩:=hD.row h0
 have hrun:=run_append_nil (P:=P) w t ty tU64 i (.int .u64 0) ht hi hz' ⟨b2,0,none⟩ len cap2 (YD ds) (by rw[ZN,hs,Nat.mul_one];exact hD.hlen) (λj v hv=>by
     have hc:=(hR.row r).cell j
     have e1:(⟨b2,0,none⟩:Addr).add j=⟨b2,j,none⟩:=by rw[Addr.add_lit,Nat.zero_add]
     rw [e1, hc, List.getElem?_append_left (by rcases Nat.lt_or_ge j (YD ds).length with h|h
                                               · exact h
                                               · rw[List.getElem?_eq_none h] at hv;cases hv)]
     exact hv) h0 (by omega) (by rw[hb];omega)
 have hge:=grownCap_ge w len 0 tU64;generalize grownCap w len 0 tU64=cap at hrun hge;have hR1:Run S0 w0 S H w.drew:=hR.call (Ext.drewN hR.holds 1);obtain⟨rest,hrest⟩:∃rest,(Builtin.zeroCells (Value.int .u64 0).cells (cap-len))=(rest:List Value).toArray:=⟨_,(Array.toArray_toList).symm⟩;have hR2:=hR1.newOwn tU64 (YD ds++rest);have ec:((YD ds).toArray++Builtin.zeroCells (Value.int .u64 0).cells (cap-len))=(YD ds++rest).toArray:=by rw[hrest];simp
 rw[ec] at hrun;refine Zv (v:=.slice (some ⟨w.heap.size,0,none⟩) len cap) (w':=XS w.drew (.cells (YD ds++rest).toArray tU64)) ?_<|k _ _ _ _ hge hR2;rw[XA];simp only[List.map_toArray,List.map_cons,List.map_nil,hL.ev hx,hL.ev hy];show Sem.run P (do let v <-Builtin.append_ #[t,t] ty #[.slice none 0 0,.slice (some ⟨b2,0,none⟩) len cap2];(pure (Next.value v):Sem Next)) w=_;rw[Zf hrun];rfl
end
theorem does_sliceFull{P:Program}{a:Act}{w:World}{n:Nat}{l:List (Nat × Value)}{K:Value->World->Prop}{d:Option Tmp}{ty:TypeId}{pos:String}{af:Array Edge}{g:Option (Nat × Bool)}{t e:TypeId}{x u y z:Operand}{b off len cap h i off' len':Nat}{k0 k1 k2:IntKind}{vh vi vj:Int}(hL:ZD a n l)(hx:ev l x=some (.slice (some ⟨b,off,none⟩) len cap))(hu:ev l u=some (.int k0 vh))(hy:ev l y=some (.int k1 vi))(hz:ev l z=some (.int k2 vj))(ht:P.underlying t=some (.slice e))(hZ:Yy P e=some 1)(eh:vh=(h:Int))(ei:vi=(i:Int))(ej:vj=(i:Int))(h1:h<i)(h2:i<=cap)(eo:off+h=off')(el:i-h=len')(k:K (.slice (some ⟨b,off',none⟩) len' len') w):YL P ⟨d,.slice t x (some u) (some y) (some z),ty,pos,af,g⟩ a w K:=by
 subst eh ei ej eo el;refine Zv (v:=.slice (some ⟨b,off+h,none⟩) (i-h) (i-h)) ?_ k;simp only[execOp,hL.ev hx,Option.map_some,hL.ev hu,hL.ev hy,hL.ev hz,Instr.sliceAt];rw[Zf (w':=w) (a:=(.slice (some ⟨b,off+h,none⟩) (i-h) (i-h):Value))];rfl;rw[Zf (Zq ht)];simp only[Instr.slice];rw[Zf (Zq ht)];simp only[Instr.sliceBounds]
 rw[Zf (w':=w) (a:=(h,i,i)) (by
   rw[Zf (Ye rfl h2),Zf (Ye rfl<|Nat.le_refl _),Zf (Ye rfl<|Nat.le_of_lt h1)];rfl)]
 simp only[];rw[Zf (Ym hZ)];simp only[Nat.mul_one];rw[if_neg (by omega)];simp only[Option.map_some,Qk];rfl
theorem knuth{R T D P V pl vl g K:Nat}(hP:P=T*R+pl)(hpl:pl<R)(hV:V=D*R+vl)(hvl:vl<R)(hD:K<=D)(hPV:P<K*V)(hg:g<K)(h1:g*D<=T)(h2:T<(g+1)*D\/g+1=K):P<(g+1)*V/\g*V<=P+V:=by
 constructor;rcases h2 with h2|h2;have e1:(T+1)*R<=((g+1)*D)*R:=Nat.mul_le_mul_right R h2;have e2:(g+1)*V=((g+1)*D)*R+(g+1)*vl:=by rw[hV,Nat.mul_add,Nat.mul_assoc]
 rw[Nat.add_mul,Nat.one_mul] at e1;omega;rw[h2];exact hPV;have e1:g*D*R<=T*R:=Nat.mul_le_mul_right R h1;have e2:g*V=g*D*R+g*vl:=by rw[hV,Nat.mul_add,Nat.mul_assoc]
 have e3:g*vl<=D*R:=Nat.mul_le_mul (by omega) (by omega);omega
theorem knuth_x{R x y z v wl P V pl vl K:Nat}(hP:P=((x*K+y)*K+z)*R+pl)(hV:V=(v*K+wl)*R+vl)(hvl:vl<R)(hw:wl<K)(hPV:P<K*V):x<=v:=by
 rcases Nat.lt_or_ge v x with h|h;exfalso;have h1:V<=(v+1)*K*R:=by have:(v*K+wl+1)*R<=((v+1)*K)*R:=Nat.mul_le_mul_right R (by rw[Nat.add_mul,Nat.one_mul];omega);rw[Nat.add_mul (v*K+wl) 1 R,Nat.one_mul] at this;omega
 have h2:K*V<=K*((v+1)*K*R):=Nat.mul_le_mul_left K h1
 have h3:((v+1)*K*K)*R<=((x*K+y)*K+z)*R:=Nat.mul_le_mul_right R (by
   have:(v+1)*K<=x*K:=Nat.mul_le_mul_right K h
   have:=Nat.mul_le_mul_right K this
   rw[Nat.add_mul (x*K) y K]
   omega)
 have h4:K*((v+1)*K*R)=(v+1)*K*K*R:=by rw[<-Nat.mul_assoc,Nat.mul_comm K,Nat.mul_assoc ((v+1)*K) K R]
 omega;exact h
structure Zbf(V:Nat)(u0 us os:List Nat)(n k:Nat):Prop where
  lu:us.length=u0.length
  lo:us.length=os.length+n
  ltu:∀e∈us,e<18446744073709551616
  lto:∀e∈os,e<18446744073709551616
  le:k<=os.length
  sum:val W64 u0=val W64 us+val W64 os*V
  bd:val W64 us<W64^k*V
  z:∀j,j<k->os.getD j 0=0
theorem rep_getD(m j:Nat):(List.replicate m 0).getD j 0=0:=by simp[List.getD_eq_getElem?_getD,List.getElem?_replicate];split <;> simp
theorem Zbf.start{V n m:Nat}{u0:List Nat}(hm:u0.length=m+n)(hl:∀e∈u0,e<18446744073709551616)(hb:val W64 u0<W64^m*V):Zbf V u0 u0 (List.replicate m 0) n m:=
  ⟨rfl,by rw[List.length_replicate];exact hm,hl,by simp,by simp,by rw[val_rep0,Nat.zero_mul];rfl,hb,λj _=>rep_getD m j⟩
theorem drop_val0{us:List Nat}{N:Nat}(h:val W64 us<W64^N)(hN:N<=us.length):val W64 (us.drop N)=0:=by
 have h1:=XQ W64 us N hN;rcases Nat.eq_zero_or_pos (val W64<|us.drop N) with h2|h2;exact h2;have h3:W64^N*1<=W64^N*val W64 (us.drop N):=Nat.mul_le_mul_left _ h2;rw[Nat.mul_one] at h3;generalize W64^N*val W64 (us.drop N)=A at*;generalize W64^N=B at*;omega
theorem pow_V{V n k:Nat}(hV:V<W64^n){x:Nat}(hx:x<W64^k*V):x<W64^(k+n):=by
 rw[Nat.pow_add];exact Nat.lt_of_lt_of_le hx<|Nat.mul_le_mul_left _<|Nat.le_of_lt hV
structure LongTop(V:Nat)(us:List Nat)(n k P low pl:Nat):Prop where
  e:val W64 us=low+W64^(k-1)*P
  hlow:low<W64^(k-1)
  hP:P<18446744073709551616*V
  eP:P=((us.getD (k-1+n) 0*18446744073709551616+us.getD (k-1+(n-1)) 0)*18446744073709551616+us.getD (k-1+(n-2)) 0)*W64^(n-2)+pl
  hpl:pl<W64^(n-2)
theorem Zdt(d:Nat)(r:List Nat):val W64 (d::r)=d+18446744073709551616*val W64 r:=rfl
theorem top_arith{pl R x y z M:Nat}:pl+R*(z+M*(y+M*(x+M*0)))=((x*M+y)*M+z)*R+pl:=by
 rw[Nat.mul_zero,Nat.add_zero,Nat.mul_comm M x,Nat.add_comm y,Nat.mul_comm M (x*M+y),Nat.add_comm z,Nat.mul_comm R,Nat.add_comm]
theorem Zbf.top{V n k:Nat}{u0 us os:List Nat}(h:Zbf V u0 us os n k)(hk:0<k)(hn:2<=n)(hV:V<W64^n):∃P low pl,LongTop V us n k P low pl:=by
 have hle:=h.le;have hlo:=h.lo;have hj:k-1+n<us.length:=by omega
 have e1:=XQ W64 us (k-1) (by omega);have hb:=h.bd;have hbig:val W64 us<W64^(k-1+n+1):=by have:=pow_V hV hb;rwa [show k+n=k-1+n+1 by omega] at this
 have hz:=drop_val0 hbig hj;have e2:=XQ W64 (us.drop (k-1)) (n-2) (by rw[List.length_drop];omega);rw[List.drop_drop] at e2;have d0:us.drop (k-1+(n-2))=us.getD (k-1+(n-2)) 0::us.getD (k-1+(n-1)) 0::us.getD (k-1+n) 0::us.drop (k-1+n+1):=by rw[YC (n:=k-1+(n-2)) (by omega),show k-1+(n-2)+1=k-1+(n-1) by omega,YC (n:=k-1+(n-1)) (by omega),show k-1+(n-1)+1=k-1+n by omega,YC (n:=k-1+n) (by omega)]
 rw[d0,Zdt,Zdt,Zdt,hz,top_arith] at e2;have hl1:=Ze1 (B:=W64) (by decide) h.ltu (k-1) (by omega);have hl2:=Ze1 (B:=W64) (ds:=us.drop (k-1)) (by decide) (λe he=>h.ltu e<|List.mem_of_mem_drop he) (n-2) (by rw[List.length_drop];omega);refine⟨val W64 (us.drop (k-1)),val W64 (us.take (k-1)),_,e1,hl1,?_,e2,hl2⟩;have e4:W64^k=W64^(k-1)*18446744073709551616:=by have:W64^(k-1+1)=W64^(k-1)*18446744073709551616:=Nat.pow_succ _ _;rwa [show k-1+1=k by omega] at this
 rw[e4,Nat.mul_assoc] at hb;have h5:W64^(k-1)*val W64 (us.drop (k-1))<W64^(k-1)*(18446744073709551616*V):=Nat.lt_of_le_of_lt (by rw[e1];exact Nat.le_add_left _ _) hb;exact Nat.lt_of_mul_lt_mul_left h5
theorem same_drop{us vs:List Nat}{N:Nat}(hl:us.length=vs.length)(h:∀m,N<=m->us.getD m 0=vs.getD m 0):us.drop N=vs.drop N:=by
 apply List.ext_getElem;simp[hl];intro i h1 h2;rw[List.getElem_drop,List.getElem_drop];have h3:N+i<us.length:=by simp at h1;omega
 have h4:N+i<vs.length:=by omega
 have h5:=h (N+i) (by omega);rw[List.getD_eq_getElem?_getD,List.getD_eq_getElem?_getD,List.getElem?_eq_getElem h3,List.getElem?_eq_getElem h4] at h5;simpa using h5
theorem top_lt'{us vs:List Nat}{N:Nat}(hv:val W64 vs<W64^N)(hl:us.length=vs.length)(hN:N<=us.length)(h:∀m,N<=m->us.getD m 0=vs.getD m 0)(ht:∀e∈us,e<18446744073709551616):val W64 us<W64^N:=by
 have e:=XQ W64 us N hN;rw[same_drop hl h,drop_val0 hv (by omega),Nat.mul_zero,Nat.add_zero] at e;rw[e];exact Ze1 (by decide) ht N hN
theorem long0{A A1 O V P low g N:Nat}(hA:A=low+O*P)(hlow:low<O)(h1:A1+O*(V*g)=A+N*0)(h2:P<(g+1)*V):A=A1+O*(V*g)/\A1<O*V:=by
 have e1:O*(P+1)<=O*((g+1)*V):=Nat.mul_le_mul_left O h2;have e2:O*((g+1)*V)=O*(V*g)+O*V:=by rw[Nat.add_mul,Nat.one_mul,Nat.mul_add,Nat.mul_comm g V]
 rw[Nat.mul_add,Nat.mul_one] at e1;rw[Nat.mul_zero,Nat.add_zero] at h1;omega
theorem long1{A A1 A2 O V P low g N cy:Nat}(hA:A=low+O*P)(h1:A1+O*(V*g)=A+N)(hA1:A1<N)(h2:g*V<=P+V)(h3:A2+N*cy=A1+O*V)(hA2:A2<N)(hcy:cy<=1):
    0<g/\A=A2+O*(V*(g-1))/\A2<O*V:=by
 have h0:0<g:=by rcases Nat.eq_zero_or_pos g with e|e;subst e;rw[Nat.mul_zero,Nat.mul_zero] at h1;omega;exact e
 obtain⟨p,rfl⟩:∃p,g=p+1:=⟨g-1,by omega⟩;rw[Nat.add_sub_cancel];have e0:p*V<=P:=by rw[Nat.add_mul,Nat.one_mul] at h2;omega
 have e1:O*(p*V)<=O*P:=Nat.mul_le_mul_left O e0;have e2:O*(V*(p+1))=O*(V*p)+O*V:=by rw[Nat.mul_add V,Nat.mul_one,Nat.mul_add]
 rw[Nat.mul_comm p V] at e1;have hc:cy=1:=by
  rcases Nat.lt_or_ge 0 cy with h|h;omega;have:cy=0:=by omega
  subst this;rw[Nat.mul_zero] at h3;omega
 subst hc;rw[Nat.mul_one] at h3;refine⟨h0,?_,?_⟩ <;> omega
theorem Zbf.next{V n k dg:Nat}{u0 us us' os:List Nat}(h:Zbf V u0 us os n k)(hk:0<k)(hl:us'.length=us.length)(ht:∀e∈us',e<18446744073709551616)(hdg:dg<18446744073709551616)(he:val W64 us=val W64 us'+W64^(k-1)*(V*dg))(hb:val W64 us'<W64^(k-1)*V):Zbf V u0 us' (os.set (k-1) dg) n (k-1):=by
 have hle:=h.le;refine⟨by rw[hl];exact h.lu,by rw[hl,List.length_set];exact h.lo,ht,Zct h.lto hdg,by rw[List.length_set];omega,?_,hb,λj hj=>by rw[XM (by omega)];exact h.z j (by omega)⟩;have hv:=Zgs W64 os (k-1) dg (by omega);rw[h.z (k-1) (by omega),Nat.mul_zero,Nat.add_zero] at hv;rw[h.sum,he,hv,Nat.add_mul,Nat.mul_assoc,Nat.mul_comm dg V,Nat.add_assoc,Nat.add_comm (W64^(k-1)*(V*dg))]
theorem Zbf.done{V n:Nat}{u0 us os:List Nat}(h:Zbf V u0 us os n 0):val W64 u0=val W64 us+val W64 os*V/\val W64 us<V:=by
 refine⟨h.sum,?_⟩;have:=h.bd;rwa [Nat.pow_zero,Nat.one_mul] at this
theorem long_done{a b p U R Q:Nat}(hb:0<b)(hp:0<p)(hU:U=a*p)(hs:U=R+Q*(b*p))(hR:R<b*p):Q=a/b/\R/p=a%b:=by
 refine div_fin (p:=p) ?_ hp hR hb;rw[<-hU,hs,Nat.mul_assoc]
theorem long_pos{A A1 O V g N:Nat}(h1:A1+O*(V*g)=A+N)(h2:A1<N):0<g:=by
 rcases Nat.eq_zero_or_pos g with e|e;subst e;rw[Nat.mul_zero,Nat.mul_zero] at h1;omega;exact e
theorem Qw{n:Nat}:ZC n=0↔n=0:=by
 unfold ZC;split;rename_i h;simp[h];rename_i h;constructor;intro h2;omega;intro h2;exact absurd h2 h
theorem lz{y:Nat}(h0:y≠0)(hy:y<18446744073709551616):64-ZC y<64/\y*2^(64-ZC y)<18446744073709551616:=by
 have hb:=Zcj h0;have h1:=Zg6 hy;have h2:=Zdk h0;refine⟨by omega,?_⟩;have hps:=QT (s:=64-ZC y) (by omega);rw[show 64-(64-ZC y)=ZC y by omega] at hps;rw[<-hps,Nat.mul_comm];exact Nat.mul_lt_mul_of_pos_left hb.2<|Nat.two_pow_pos _
theorem cr_top{d:List Nat}{s n:Nat}(hs:s<64)(h:d.getD (n-1) 0*2^s<18446744073709551616):cr d s n=0:=by
 unfold cr;split;rfl;refine Nat.div_eq_of_lt ?_;have hps:=QT (s:=s) (by omega);rw[<-hps,Nat.mul_comm] at h;exact Nat.lt_of_mul_lt_mul_left h
theorem top2{ds:List Nat}{n:Nat}(hl:ds.length=n)(hn:2<=n)(ht:∀e∈ds,e<18446744073709551616):∃vl,val W64 ds=(ds.getD (n-1) 0*18446744073709551616+ds.getD (n-2) 0)*W64^(n-2)+vl/\vl<W64^(n-2):=by
 have e2:=XQ W64 ds (n-2) (by omega);have d0:ds.drop (n-2)=ds.getD (n-2) 0::ds.getD (n-1) 0::ds.drop n:=by rw[YC (n:=n-2) (by omega),show n-2+1=n-1 by omega,YC (n:=n-1) (by omega),show n-1+1=n by omega]
 have d1:ds.drop n=[]:=List.drop_eq_nil_of_le (by omega);have hz:val W64 ([]:List Nat)=0:=rfl;rw[d0,d1,Zdt,Zdt,hz,Nat.mul_zero,Nat.add_zero] at e2;refine⟨_,?_,Ze1 (B:=W64) (by decide) ht (n-2) (by omega)⟩;rw[e2,Nat.mul_comm (W64^(n-2)),Nat.mul_comm 18446744073709551616,Nat.add_comm (ds.getD (n-2) 0),Nat.add_comm]
theorem val_top{ds:List Nat}{n:Nat}(hl:ds.length=n)(hn:1<=n)(ht:ds.getD (n-1) 0≠0):W64^(n-1)<=val W64 ds:=by
 have e:=XQ W64 ds (n-1) (by omega);rw[YC (n:=n-1) (by omega),Zdt,Nat.mul_add] at e;have h1:W64^(n-1)*1<=W64^(n-1)*ds.getD (n-1) 0:=Nat.mul_le_mul_left _ (Nat.pos_of_ne_zero ht);rw[Nat.mul_one] at h1;rw[e];refine Nat.le_trans h1 ?_;rw[<-Nat.add_assoc];exact Nat.le_trans (Nat.le_add_left _ _)<|Nat.le_add_right _ _
theorem top_of_val{ds:List Nat}{n:Nat}(hl:ds.length=n)(hn:1<=n)(ht:∀e∈ds,e<18446744073709551616)(hv:W64^(n-1)<=val W64 ds):0<ds.getD (n-1) 0:=by
 rcases Nat.eq_zero_or_pos (ds.getD (n-1) 0) with h|h;exfalso;have e:=XQ W64 ds (n-1) (by omega);have d1:ds.drop n=[]:=List.drop_eq_nil_of_le (by omega);have hz:val W64 ([]:List Nat)=0:=rfl;rw[YC (n:=n-1) (by omega),show n-1+1=n by omega,d1,Zdt,hz,h,Nat.mul_zero,Nat.add_zero] at e;have:=Ze1 (B:=W64) (by decide) ht (n-1) (by omega);rw[<-e] at this;exact absurd hv<|Nat.not_le_of_lt this;exact h
theorem long_start{da db vs u0:List Nat}{s la lb mm:Nat}(hs:s<64)(hla:da.length=la)(hlb:db.length=lb)(h2:2<=lb)(hba:lb<=la)(hta:∀e∈da,e<18446744073709551616)(hn:db.getD (lb-1) 0≠0)(hv:val W64 vs=val W64 db*2^s)(hvl:vs.length=lb)(hvt:∀e∈vs,e<18446744073709551616)(hu:val W64 u0=val W64 da*2^s)(hul:u0.length=la+1)(hut:∀e∈u0,e<18446744073709551616)(hm:mm+lb=la+1):
    Zbf (val W64 vs) u0 u0 (List.replicate mm 0) lb mm/\val W64 vs<W64^lb/\0<vs.getD (lb-1) 0:=by
 have hVn:val W64 vs<W64^lb:=by rw[<-hvl];exact Zhc (by decide) vs hvt
 have hVb:W64^(lb-1)*2^s<=val W64 vs:=by rw[hv];exact Nat.mul_le_mul_right _ (val_top hlb (by omega) hn)
 have hVt:W64^(lb-1)<=val W64 vs:=Nat.le_trans (Nat.le_mul_of_pos_right _<|Nat.two_pow_pos s) hVb;refine⟨Zbf.start (by omega) hut ?_,hVn,top_of_val hvl (by omega) hvt hVt⟩;have h1:val W64 da<W64^la:=by rw[<-hla];exact Zhc (by decide) da hta
 have h3:W64^la=W64^mm*W64^(lb-1):=by rw[<-Nat.pow_add,show mm+(lb-1)=la by omega]
 rw[hu];refine Nat.lt_of_lt_of_le (Nat.mul_lt_mul_of_pos_right h1<|Nat.two_pow_pos s) ?_;rw[h3,Nat.mul_assoc];exact Nat.mul_le_mul_left _ hVb
theorem guess_or{g T D:Nat}(h1:g<18446744073709551616)(h2:g*D<=T)(h3:T<(g+1)*D\/g=18446744073709551615):g<18446744073709551616/\g*D<=T/\(T<(g+1)*D\/g+1=18446744073709551616):=⟨h1,h2,h3.imp_right (by omega)⟩
end
section
def YH(g:Option (Nat × List Value))(T:TypeId)(cs:List Value):Own:=match g with|none=>[]|some x=>[(x.1,T,cs++x.2)]
def gp(g:Option (Nat × List Value)):Option Addr:=match g with|none=>none|some x=>some ⟨x.1,0,none⟩
structure Gw(g:Option (Nat × List Value))(len cap sz:Nat)(cs:List Value):Prop where
  hl:cs.length=len*sz
  hc:len<=cap
  hn:g=none->cap=0
  hs:∀x,g=some x->(cs++x.2).length=cap*sz
theorem Gw.nil(sz:Nat):Gw none 0 0 sz []:=⟨by simp,Nat.le_refl _,λ_=>rfl,by simp⟩
theorem Gw.own{b len sz:Nat}{cs:List Value}(h:cs.length=len*sz):Gw (some (b,[])) len len sz cs:=⟨h,Nat.le_refl _,by simp,by simpa using h⟩
section
variable{P:Program}{a:Act}{w:World}{n:Nat}{l:List (Nat × Value)}{K:Value->World->Prop}
variable{d:Option Tmp}{ty:TypeId}{pos:String}{af:Array Edge}{g0:Option (Nat × Bool)}
theorem Zfl{x y:Operand}{t e:TypeId}{len cap m cap2 sz by_ b2 o2:Nat}{T2:TypeId}{z:Value}{g:Option (Nat × List Value)}{cs cs2 vs:List Value}{S0 S:Sh}{w0:World}{H:Own}(hx:ev l x=some (.slice (gp g) len cap))(hy:ev l y=some (.slice (some ⟨b2,o2,none⟩) m cap2))(ht:P.underlying t=some (.slice e))(hZ:Yy P e=some sz)(hB:Qb P e=some by_)(hz:XT P e=some z)(hzs:z.cells.size=sz)(hG:Gw g len cap sz cs)(hR:Run S0 w0 S (YH g e cs++H) w)(hv:Has w b2 T2 cs2)(hvs:(cs2.drop o2).take (m*sz)=vs)(hvl:vs.length=m*sz)(ho:∀v∈vs,one v=true)(h0:0<m)(hlim:(len+m)*by_<=140737488355328)(hlim2:len+m<=140737488355328)(k1:∀b' rest' cap' w',Gw (some (b',rest')) (len+m) cap' sz (cs++vs)->Run S0 w0 S ((b',e,cs++vs++rest')::(YH g e cs++H)) w'->K (.slice (some ⟨b',0,none⟩) (len+m) cap') w')(k2:∀b rest rest' w',g=some (b,rest)->Gw (some (b,rest')) (len+m) cap sz (cs++vs)->Run S0 w0 S ((b,e,cs++vs++rest')::H) w'->K (.slice (some ⟨b,0,none⟩) (len+m) cap) w')(a:Act)(hL:ZD a n l):YL P ⟨d,.call ⟨.builtin .append,#[x,y],#[t,t]⟩,ty,pos,af,g0⟩ a w K:=by
 obtain⟨i,hi,hs,hz',hb⟩:=Zdc hZ hB hz;have hnews:=hv.cells hvs;have fin:∀(v:Value)(w':World),(Builtin.append_ #[t,t] ty #[.slice (gp g) len cap,.slice (some ⟨b2,o2,none⟩) m cap2]).run P w= .ok v w'->K v w'->YL P ⟨d,.call ⟨.builtin .append,#[x,y],#[t,t]⟩,ty,pos,af,g0⟩ a w K:=by intro v w' hrun hk;refine Zv (v:=v) (w':=w') ?_ hk;rw[XA];simp only[List.map_toArray,List.map_cons,List.map_nil,hL.ev hx,hL.ev hy];show Sem.run P (do let v <-Builtin.append_ #[t,t] ty #[.slice (gp g) len cap,.slice (some ⟨b2,o2,none⟩) m cap2];(pure (Next.value v):Sem Next)) w=_;rw[Zf hrun];rfl
 rcases Nat.lt_or_ge cap (len+m) with hg|hg;have hR1:Run S0 w0 S (YH g e cs++H) w.drew:=hR.call (Ext.drewN hR.holds 1);have hge:=grownCap_ge w (len+m) cap e;have hfit:Builtin.nextslicecap (len+m) cap*i.bytes<=281474976710656:=growslice_fits hg (by rw[hb];exact hlim);obtain⟨rest,hrest⟩:∃rest,Builtin.zeroCells z.cells (grownCap w (len+m) cap e-(len+m))=(rest:List Value).toArray:=⟨_,(Array.toArray_toList).symm⟩;have hrl:rest.length=(grownCap w (len+m) cap e-(len+m))*sz:=by have:=congrArg Array.size hrest;simp[Builtin.zeroCells,hzs] at this;omega
 have hcs:(cs++vs).length=(len+m)*sz:=by rw[List.length_append,hG.hl,hvl,Nat.add_mul]
 have hR2:=(hR1.newOwn e (cs++vs++rest));refine fin (.slice (some ⟨w.heap.size,0,none⟩) (len+m) (grownCap w (len+m) cap e)) (XS w.drew<|.cells (cs++vs++rest).toArray e) ?_ (k1 w.heap.size rest _ _ ⟨hcs,hge,by simp,?_⟩ hR2)
 cases g with
 | none=>
   have hc0:=hG.hn rfl
   have hl0:len=0:=by have:=hG.hc;omega
   subst hc0 hl0
   have hcs0:cs=[]:=by have:=hG.hl;simpa using this
   subst hcs0
   have hrun:=run_append_nil (P:=P) (w:=w) t ty e i z ht hi hz' ⟨b2,o2,none⟩ m cap2 vs (by rw[hs];exact hvl) hnews h0 (by omega) (by rw[hb];rw[Nat.zero_add] at hlim;omega)
   simp only[Nat.zero_add,List.nil_append] at hrest ⊢
   refine hrun.trans ?_
   rw[hrest]
   congr 2
   simp
 | some q=>
   have hh:Has w q.1 e (cs++q.2):=hR.has (by simp[YH])
   have hrun:=run_append_grow (P:=P) (w:=w) t ty e i z ht hi hz' ⟨q.1,0,none⟩ len cap cs (by rw[hs];exact hG.hl) (hh.cells (o:=0) (k:=cs.length) (by simp)) ⟨b2,o2,none⟩ m cap2 vs (by rw[hs];exact hvl) hnews hg (by omega) hfit
   refine hrun.trans ?_
   rw[hrest]
   congr 2
   simp
 intro x hx;simp only[Option.some.injEq] at hx;subst hx;rw[List.length_append,hcs,hrl,<-Nat.add_mul];congr 1;omega
 cases g with
 |none=>have:=hG.hn rfl;omega
 | some q=>
   obtain⟨b,rest⟩:=q
   have hl:(cs++rest).length=cap*sz:=hG.hs _ rfl
   have hh:Has w b e (cs++rest):=hR.has (by simp[YH])
   have hrl:m*sz<=rest.length:=by
     rw[List.length_append,hG.hl] at hl
     have:(len+m)*sz<=cap*sz:=Nat.mul_le_mul_right _ hg
     rw[Nat.add_mul] at this
     omega
   obtain⟨w',h1,h2⟩:=Zdz (P:=P) (w:=w) t ty e i ht hi b e len cap (cs++rest) hh (.slice (some ⟨b2,o2,none⟩) m cap2) m vs rfl (by
     have:=run_firstCells_some (P:=P) w i.size m ⟨b2,o2,none⟩ m cap2 vs (by rw[hs];exact hvl) hnews
     exact this) hg (by rw[hs,<-hG.hl,hvl,List.length_append];omega) ho
   have ec:QU (cs++rest) (len*i.size) vs=cs++vs++rest.drop (m*sz):=by
     unfold QU
     rw[hs,<-hG.hl,hvl,List.take_left,List.drop_length_add_append]
   rw[ec] at h2
   have hR':Run S0 w0 S ((b,e,cs++rest)::H) w:=by simpa [YH] using hR
   have hR2:=hR'.store (cs++vs++rest.drop (m*sz)) h2
   refine fin _ _ h1 (k2 b rest (rest.drop (m*sz)) w' rfl ⟨by rw[List.length_append,hG.hl,hvl,Nat.add_mul],hg,by simp,?_⟩ hR2)
   intro x hx
   simp only[Option.some.injEq] at hx
   subst hx
   rw[List.length_append] at hl ⊢
   simp only[List.length_append,List.length_drop]
   omega
end
theorem Run.mid{S0 S:Sh}{w0 w:World}(H1:Own)(H2:Own){H3:Own}(h:Run S0 w0 S (H1++(H2++H3)) w):Run S0 w0 S (H1++H3) w:=by
 have hn:=h.nodup;refine⟨h.ext,λx hx=>h.own x ?_,?_⟩;rcases List.mem_append.1 hx with q|q;exact List.mem_append_left _ q;exact List.mem_append_right _<|List.mem_append_right _ q;refine List.Sublist.nodup (List.Sublist.map _ ?_) hn;exact List.Sublist.append_left (List.sublist_append_right _ _) _
section
variable{P:Program}{a:Act}{w:World}{n:Nat}{l:List (Nat × Value)}{K:Value->World->Prop}
variable{d:Option Tmp}{ty:TypeId}{pos:String}{af:Array Edge}{g0:Option (Nat × Bool)}
theorem Xl{x y:Operand}{t e:TypeId}{len cap m cap2 sz by_ b2 o2:Nat}{T2:TypeId}{z:Value}{g:Option (Nat × List Value)}{cs cs2 vs:List Value}{S0 S:Sh}{w0:World}{H:Own}(hx:ev l x=some (.slice (gp g) len cap))(hy:ev l y=some (.slice (some ⟨b2,o2,none⟩) m cap2))(ht:P.underlying t=some (.slice e))(hZ:Yy P e=some sz)(hB:Qb P e=some by_)(hz:XT P e=some z)(hzs:z.cells.size=sz)(hG:Gw g len cap sz cs)(hR:Run S0 w0 S (YH g e cs++H) w)(hv:Has w b2 T2 cs2)(hvs:(cs2.drop o2).take (m*sz)=vs)(hvl:vs.length=m*sz)(ho:∀v∈vs,one v=true)(h0:0<m)(hlim:(len+m)*by_<=140737488355328)(hlim2:len+m<=140737488355328)(k:∀g' cap' w',Gw g' (len+m) cap' sz (cs++vs)->Run S0 w0 S (YH g' e (cs++vs)++H) w'->K (.slice (gp g') (len+m) cap') w')(a:Act)(hL:ZD a n l):YL P ⟨d,.call ⟨.builtin .append,#[x,y],#[t,t]⟩,ty,pos,af,g0⟩ a w K:=
  Cu hL (Zfl hx hy ht hZ hB hz hzs hG hR hv hvs hvl ho h0 hlim hlim2 (λb' rest' cap' w' h1 h2=>k (some (b',rest')) cap' w' h1 (by simpa [YH] using Run.mid [(b',e,cs++vs++rest')] (YH g e cs) h2)) (λb rest rest' w' _ h1 h2=>k (some (b,rest')) cap w' h1 (by simpa [YH] using h2)))
end
theorem Run.freezeG{S0 S:Sh}{w0 w:World}(H1:Own){H:Own}{g:Option (Nat × List Value)}{T:TypeId}{cs:List Value}(h:Run S0 w0 S (H1++(YH g T cs++H)) w):
    ∃S',S.le S'/\(∀x,g=some x->Row S' x.1 T (cs++x.2))/\Run S0 w0 S' (H1++H) w:=by
 cases g with
 |none=>exact⟨S,Sh.le.refl S,by simp,by simpa [YH] using h⟩
 | some x=>
   have h':Run S0 w0 S ((x.1,T,cs++x.2)::(H1++H)) w:=h.perm (by simp[YH])
   obtain⟨S',h1,h2,h3⟩:=h'.freeze
   exact⟨S',h1,λy hy=>by cases hy;exact h2,h3⟩
theorem Gw.some{g:Option (Nat × List Value)}{len cap sz:Nat}{cs:List Value}(h:Gw g len cap sz cs)(h0:0<len):∃b rest,g=some (b,rest):=by
 cases g with
 |none=>have:=h.hn rfl;have:=h.hc;omega
 |some x=>exact⟨x.1,x.2,rfl⟩
def u8s(ds:List Nat):List Value:=ds.map λd:Nat=>.int .u8 (d:Int)
theorem u8s_get{ds:List Nat}{rest:List Value}{j:Nat}(h:j<ds.length):(u8s ds++rest)[j]? =some (.int .u8 ((ds.getD j 0:Nat):Int)):=by
 rw[List.getElem?_append_left (by simpa [u8s] using h)];simp[u8s,List.getElem?_eq_getElem h,List.getD_eq_getElem?_getD]
theorem u8s_set{ds:List Nat}{rest:List Value}{j d:Nat}(h:j<ds.length):(u8s ds++rest).set j (.int .u8 (d:Int))=u8s (ds.set j d)++rest:=by
 rw[List.set_append_left _ _ (by simpa [u8s] using h)];simp[u8s,List.map_set]
theorem Zbs(ds:List Nat):(u8s ds).length=ds.length:=by simp[u8s]
theorem u8s_ones(ds:List Nat):∀v∈u8s ds,one v=true:=by intro v hv;obtain⟨d,_,rfl⟩:=List.mem_map.1 hv;rfl
theorem Zc3(ds:List Nat):∀v∈YN ds,one v=true:=by intro v hv;obtain⟨d,_,rfl⟩:=List.mem_map.1 hv;rfl
theorem u64s_ones(ds:List Nat):∀v∈YD ds,one v=true:=by intro v hv;obtain⟨d,_,rfl⟩:=List.mem_map.1 hv;rfl
theorem Ql(ds es:List Nat):YN ds++YN es=YN (ds++es):=by simp[YN]
theorem u8s_append(ds es:List Nat):u8s ds++u8s es=u8s (ds++es):=by simp[u8s]
theorem Zdw(ds es:List Nat):YD ds++YD es=YD (ds++es):=by simp[YD]
theorem u64s_split(n:Nat)(ds:List Nat)(rest:List Value):YD ds++rest=YD (ds.take n)++(YD (ds.drop n)++rest):=by rw[<-List.append_assoc,Zdw,List.take_append_drop]
theorem u32s_split(n:Nat)(ds:List Nat)(rest:List Value):YN ds++rest=YN (ds.take n)++(YN (ds.drop n)++rest):=by rw[<-List.append_assoc,Ql,List.take_append_drop]
theorem Gw.dg{S:Sh}{g:Option (Nat × List Value)}{len cap:Nat}{ds:List Nat}(h:Gw g len cap 1 (YD ds))(hr:∀x,g=Option.some x->Row S x.1 tU64 (YD ds++x.2))(hb:len<=281474976710656)(hlt:∀d∈ds,d<18446744073709551616):Dg S (gp g) len cap ds:=by
 have hl:=h.hl;rw[ZN,Nat.mul_one] at hl;refine⟨hl,h.hc,hb,hlt,λh0=>?_⟩;obtain⟨b,rest,e⟩:=h.some h0;exact⟨b,rest,by rw[e];rfl,hr _ e⟩
theorem Gw.gd{S:Sh}{g:Option (Nat × List Value)}{len cap:Nat}{ds:List Nat}(h:Gw g len cap 1 (YN ds))(hr:∀x,g=Option.some x->Row S x.1 tU32 (YN ds++x.2))(hb:len<=281474976710656)(hlt:∀d∈ds,d<65536):Gd S (gp g) len cap ds:=by
 have hl:=h.hl;rw[XU,Nat.mul_one] at hl;refine⟨hl,h.hc,hb,hlt,λh0=>?_⟩;obtain⟨b,rest,e⟩:=h.some h0;exact⟨b,0,[],rest,by rw[e];rfl,by simpa using hr _ e,rfl⟩
theorem Zhp{S0 S:Sh}{w0 w:World}(H1:Own){H:Own}{b:Nat}{rest:List Value}{T:TypeId}{cs:List Value}(h:Run S0 w0 S ((b,T,cs++rest)::(H1++H)) w):Run S0 w0 S (H1++(YH (Option.some (b,rest)) T cs++H)) w:=
  h.perm (by simp[YH,List.perm_middle.symm])
theorem gown_out{S0 S:Sh}{w0 w:World}(H1:Own){H:Own}{b:Nat}{rest:List Value}{T:TypeId}{cs:List Value}(h:Run S0 w0 S (H1++(YH (Option.some (b,rest)) T cs++H)) w):Run S0 w0 S ((b,T,cs++rest)::(H1++H)) w:=
  h.perm (by simp[YH])
theorem gown_swap{S0 S:Sh}{w0 w:World}(H1:Own){H2 H3 H:Own}(h:Run S0 w0 S (H1++(H2++(H3++H))) w):Run S0 w0 S (H1++(H3++(H2++H))) w:=
  h.perm (List.Perm.append_left _ (by rw[<-List.append_assoc,<-List.append_assoc];exact List.Perm.append_right _ List.perm_append_comm))
theorem YQ{S0 S:Sh}{w0 w:World}(H1:Own){H2 H:Own}(h:Run S0 w0 S (H1++(H2++H)) w):Run S0 w0 S (H2++(H1++H)) w:=
  h.perm (by rw[<-List.append_assoc,<-List.append_assoc];exact List.Perm.append_right _ List.perm_append_comm)
section
variable{P:Program}{a:Act}{w:World}{n:Nat}{l:List (Nat × Value)}{K:Value->World->Prop}
variable{d:Option Tmp}{ty:TypeId}{pos:String}{af:Array Edge}{g0:Option (Nat × Bool)}
theorem Zcx{x y:Operand}{t e:TypeId}{len cap cap2 sz:Nat}{p p2:Option Addr}(hx:ev l x=Option.some (.slice p len cap))(hy:ev l y=Option.some (.slice p2 0 cap2))(ht:P.underlying t=Option.some (.slice e))(hZ:Yy P e=Option.some sz)(hle:len<=cap)(k:K (.slice p len cap) w)(a:Act)(hL:ZD a n l):YL P ⟨d,.call ⟨.builtin .append,#[x,y],#[t,t]⟩,ty,pos,af,g0⟩ a w K:=by
 refine Zv (v:=.slice p len cap) (w':=w) ?_ k;rw[XA];simp only[List.map_toArray,List.map_cons,List.map_nil,hL.ev hx,hL.ev hy]
 have hrun:(Builtin.append_ #[t,t] ty #[.slice p len cap,.slice p2 0 cap2]).run P w= .ok (.slice p len cap) w:=by
   simp only[Builtin.append_,List.getElem?_toArray,List.getElem?_cons_zero,List.getElem?_cons_succ]
   rw[Zf (Zq ht)]
   simp only[]
   rw[Zf (Ym hZ)]
   rw[Zf (Zq ht)]
   simp only[ZE,Bool.false_eq_true,if_false]
   rw[Zf (w':=w) (a:=0) rfl]
   rw[if_pos (by omega)]
   simp only[Bool.not_false,if_true]
   rw[Zf (w':=w) (a:=(#[]:Array Value)) (by
     cases p2 with
     |none=>rfl
     |some q=>exact run_firstCells_some (P:=P) w sz 0 q 0 cap2 [] (by simp) (by simp))]
   cases p with
   |none=>rfl
   |some q=>rfl
 show Sem.run P (do let v <-Builtin.append_ #[t,t] ty #[.slice p len cap,.slice p2 0 cap2];(pure (Next.value v):Sem Next)) w=_;rw[Zf hrun];rfl
theorem does_appendD{x y:Operand}{t:TypeId}{len cap m cap2:Nat}{p2:Option Addr}{g:Option (Nat × List Value)}{ds es:List Nat}{S0 S:Sh}{w0:World}{H:Own}(hx:ev l x=Option.some (.slice (gp g) len cap))(hy:ev l y=Option.some (.slice p2 m cap2))(ht:P.underlying t=Option.some (.slice tU64))(hZ:Yy P tU64=Option.some 1)(hB:Qb P tU64=Option.some 8)(hz:XT P tU64=Option.some (.int .u64 0))(hG:Gw g len cap 1 (YD ds))(hR:Run S0 w0 S (YH g tU64 (YD ds)++H) w)(hd:Dg S p2 m cap2 es)(hlim:len+m<=1099511627776)(k:∀g' cap' w',Gw g' (len+m) cap' 1 (YD (ds++es))->Run S0 w0 S (YH g' tU64 (YD (ds++es))++H) w'->K (.slice (gp g') (len+m) cap') w')(a:Act)(hL:ZD a n l):YL P ⟨d,.call ⟨.builtin .append,#[x,y],#[t,t]⟩,ty,pos,af,g0⟩ a w K:=by
 rcases Nat.eq_zero_or_pos m with e|h0;subst e;have he:es=[]:=List.length_eq_zero_iff.1 hd.hlen;subst he;refine Cu hL<|Zcx hx hy ht hZ hG.hc ?_;have:=k g cap w (by simpa using hG) (by simpa using hR);simpa using this;obtain⟨b2,rest2,rfl,r⟩:=hd.row h0;refine Cu hL<|Xl hx hy ht hZ hB hz rfl hG hR (hR.row r) (vs:=YD es) ?_ (by rw[ZN,hd.hlen,Nat.mul_one]) (u64s_ones es) h0 (by omega) (by omega) λg' cap' w' h1 h2=>k g' cap' w' (by rw[<-Zdw];exact h1) (by rw[<-Zdw];exact h2);rw[List.drop_zero,Nat.mul_one,<-hd.hlen,<-ZN es,List.take_left]
theorem does_appendGd{x y:Operand}{t:TypeId}{len cap m cap2:Nat}{p2:Option Addr}{g:Option (Nat × List Value)}{ds es:List Nat}{S0 S:Sh}{w0:World}{H:Own}(hx:ev l x=Option.some (.slice (gp g) len cap))(hy:ev l y=Option.some (.slice p2 m cap2))(ht:P.underlying t=Option.some (.slice tU32))(hZ:Yy P tU32=Option.some 1)(hB:Qb P tU32=Option.some 4)(hz:XT P tU32=Option.some (.int .u32 0))(hG:Gw g len cap 1 (YN ds))(hR:Run S0 w0 S (YH g tU32 (YN ds)++H) w)(hd:Gd S p2 m cap2 es)(hlim:len+m<=1099511627776)(k:∀g' cap' w',Gw g' (len+m) cap' 1 (YN (ds++es))->Run S0 w0 S (YH g' tU32 (YN (ds++es))++H) w'->K (.slice (gp g') (len+m) cap') w')(a:Act)(hL:ZD a n l):YL P ⟨d,.call ⟨.builtin .append,#[x,y],#[t,t]⟩,ty,pos,af,g0⟩ a w K:=by
 rcases Nat.eq_zero_or_pos m with e|h0;subst e;have he:es=[]:=List.length_eq_zero_iff.1 hd.hlen;subst he;refine Cu hL<|Zcx hx hy ht hZ hG.hc ?_;have:=k g cap w (by simpa using hG) (by simpa using hR);simpa using this;obtain⟨b2,off2,pre2,rest2,rfl,r,hp⟩:=hd.row h0;refine Cu hL<|Xl hx hy ht hZ hB hz rfl hG hR (hR.row r) (vs:=YN es) ?_ (by rw[XU,hd.hlen,Nat.mul_one]) (Zc3 es) h0 (by omega) (by omega) λg' cap' w' h1 h2=>k g' cap' w' (by rw[<-Ql];exact h1) (by rw[<-Ql];exact h2);rw[<-hp,List.append_assoc,List.drop_left,Nat.mul_one,<-hd.hlen,<-XU es,List.take_left]
end
section
variable{P:Program}{a:Act}{w:World}{n:Nat}{l:List (Nat × Value)}{K:Value->World->Prop}
variable{d:Option Tmp}{ty:TypeId}{pos:String}{af:Array Edge}{g0:Option (Nat × Bool)}
theorem Zdh{x:Operand}{t e:TypeId}{c:Value}{S:Sh}{m k0:Nat}(hx:ev l x=Option.some c)(ht:P.underlying t=Option.some (.slice e))(h:Gn S c m k0)(k:K (.int .i64 (((ZL W16 m).length:Nat):Int)) w)(a:Act)(hL:ZD a n l):
    YL P ⟨d,.call ⟨.builtin .len,#[x],#[t]⟩,ty,pos,af,g0⟩ a w K:=by
 obtain⟨_,p,len,cap,rfl,hd⟩:=h.open;rw[hd.hlen] at k;exact Cu hL<|Zz hx ht k
end
theorem foldl_push(ds:List Nat)(s:ByteArray):(ds.map λd:Nat=>(d:Int)).foldl (λr n=>r.push<|UInt8.ofNat n.toNat) s=s++⟨(ds.map UInt8.ofNat).toArray⟩:=by
 induction ds generalizing s with
 |nil=>apply ByteArray.ext;simp
 | cons d r ih=>
   simp only[List.map_cons,List.foldl_cons]
   rw[ih]
   apply ByteArray.ext
   simp
section
variable{P:Program}{a:Act}{w:World}{n:Nat}{l:List (Nat × Value)}{K:Value->World->Prop}
variable{d:Option Tmp}{ty:TypeId}{pos:String}{af:Array Edge}{g0:Option (Nat × Bool)}
theorem Zec{x:Operand}{t u e:TypeId}{b m cap:Nat}{T:TypeId}{ds:List Nat}{rest:List Value}(hx:ev l x=Option.some (.slice (Option.some ⟨b,0,none⟩) m cap))(hs:P.underlying t=Option.some (.slice e))(he:P.underlying e=Option.some (.int .u8))(hd:P.underlying u=Option.some .string)(h:Has w b T (u8s ds++rest))(hm:ds.length=m)(k:K (.string ⟨(ds.map UInt8.ofNat).toArray⟩) w)(a:Act)(hL:ZD a n l):YL P ⟨d,.convert t u x,ty,pos,af,g0⟩ a w K:=by
 subst hm;refine Zv (v:=.string ⟨(ds.map UInt8.ofNat).toArray⟩) (w':=w) ?_ k;have hl:(loadCells ⟨b,0,none⟩ ds.length).run P w= .ok ((ds.map λd:Nat=>(d:Int)).map (Value.int .u8)).toArray w:=by have:=Zdy (P:=P) h (off:=0) (n:=ds.length) (vs:=u8s ds) (by rw[List.drop_zero,<-Zbs ds,List.take_left]) (Zbs ds);rw[this];unfold u8s;rw[List.map_map];rfl
 have hrun:(convert t u<|.slice (Option.some ⟨b,0,none⟩) ds.length cap).run P w= .ok (.string ⟨(ds.map UInt8.ofNat).toArray⟩) w:=by rw[run_convert_bytes_string w t u e _ _ _ hs he hd,run_bytesToString w _ _ _ _ hl,foldl_push];rw[show(ByteArray.empty++(⟨(ds.map UInt8.ofNat).toArray⟩:ByteArray))=⟨(ds.map UInt8.ofNat).toArray⟩ from by apply ByteArray.ext;simp]
 simp only[execOp,hL.ev hx];show Sem.run P (do let v <-convert t u (.slice (Option.some ⟨b,0,none⟩) ds.length cap);(pure (Next.value v):Sem Next)) w=_;rw[Zf hrun];rfl
end
end
section
section
variable{V:Type}{Q:Type}
def cel(xs:List (List V × Q)):List V:=(xs.map (·.1)).flatten
theorem Zc1(xs ys:List (List V × Q)):cel (xs++ys)=cel xs++cel ys:=by simp[cel]
theorem cel_one(x:List V × Q):cel [x]=x.1:=by simp[cel]
theorem Zbd{n:Nat}:∀{xs:List (List V × Q)},(∀x∈xs,x.1.length=n)->(cel xs).length=xs.length*n
  |[],_=>by simp[cel]
  | x::r,h=>by
    have h1:=Zbd (xs:=r) λy hy=>h y (List.mem_cons_of_mem _ hy)
    have h2:=h x List.mem_cons_self
    show(x.1++cel r).length=_
    rw[List.length_append,h1,h2,List.length_cons,Nat.add_mul];omega
theorem cel_split{xs:List (List V × Q)}{i:Nat}{x:List V × Q}(h:xs[i]? =some x):xs=xs.take i++x::xs.drop (i+1):=by
 obtain⟨hi,rfl⟩:=List.getElem?_eq_some_iff.1 h;simp
theorem cel_at{n:Nat}{xs:List (List V × Q)}{i:Nat}{x:List V × Q}(rest:List V)(hl:∀x∈xs,x.1.length=n)(h:xs[i]? =some x):((cel xs++rest).drop (i*n)).take n=x.1:=by
 have hi:=(List.getElem?_eq_some_iff.1 h).1;have hx:=hl x (List.mem_of_getElem? h);have ht:(cel<|xs.take i).length=i*n:=by rw[Zbd (n:=n) λy hy=>hl y<|List.mem_of_mem_take hy,List.length_take,Nat.min_eq_left (Nat.le_of_lt hi)]
 have e:cel xs++rest=cel (xs.take i)++(x.1++(cel (xs.drop (i+1))++rest)):=by
  conv=>lhs;rw[cel_split h,Zc1]
  show cel (xs.take i)++(x.1++cel (xs.drop (i+1)))++rest=_;simp[List.append_assoc]
 rw[e,<-ht,List.drop_left,<-hx,List.take_left]
theorem cel_take{n i:Nat}{xs:List (List V × Q)}(hl:∀x∈xs,x.1.length=n)(hi:i<=xs.length):(cel xs).take (i*n)=cel (xs.take i):=by
 have e:cel xs=cel (xs.take i)++cel (xs.drop i):=by rw[<-Zc1,List.take_append_drop]
 have ht:(cel<|xs.take i).length=i*n:=by rw[Zbd (n:=n) λy hy=>hl y<|List.mem_of_mem_take hy,List.length_take,Nat.min_eq_left hi]
 rw[e,<-ht,List.take_left]
theorem cel_drop{n i:Nat}{xs:List (List V × Q)}(hl:∀x∈xs,x.1.length=n)(hi:i<=xs.length):(cel xs).drop (i*n)=cel (xs.drop i):=by
 have e:cel xs=cel (xs.take i)++cel (xs.drop i):=by rw[<-Zc1,List.take_append_drop]
 have ht:(cel<|xs.take i).length=i*n:=by rw[Zbd (n:=n) λy hy=>hl y<|List.mem_of_mem_take hy,List.length_take,Nat.min_eq_left hi]
 rw[e,<-ht,List.drop_left]
def ovr(cs:List V)(o:Nat)(us:List V):List V:=cs.take o++us++cs.drop (o+us.length)
theorem cel_set{n:Nat}{xs:List (List V × Q)}{i:Nat}(x:List V × Q)(rest:List V)(hl:∀x∈xs,x.1.length=n)(hx:x.1.length=n)(hi:i<xs.length):ovr (cel xs++rest) (i*n) x.1=cel (xs.set i x)++rest:=by
 have hlen:=Zbd hl;have hb:i*n+n<=(cel xs).length:=by rw[hlen];have:=Nat.mul_le_mul_right n (show i+1<=xs.length from hi);rw[Nat.add_mul,Nat.one_mul] at this;exact this
 have e2:(cel xs).drop (i*n+n)=cel (xs.drop (i+1)):=by have:=cel_drop (n:=n) (i:=i+1) hl hi;rwa [Nat.add_mul,Nat.one_mul] at this
 unfold ovr;rw[List.take_append_of_le_length (by omega),hx,List.drop_append_of_le_length (by omega),cel_take hl (Nat.le_of_lt hi),e2,List.set_eq_take_append_cons_drop,if_pos hi,Zc1];show cel (xs.take i)++x.1++(cel (xs.drop (i+1))++rest)=cel (xs.take i)++(x.1++cel (xs.drop (i+1)))++rest;simp[List.append_assoc]
theorem asc_unique{lt:Q->Q->Prop}(irr:∀x,¬lt x x)(tr:∀x y z,lt x y->lt y z->lt x z):∀{xs ys:List Q},xs.Pairwise lt->ys.Pairwise lt->(∀x,x∈xs↔x∈ys)->xs=ys
  |[],[],_,_,_=>rfl
  |[],y::r,_,_,h=>by have:=(h y).2 List.mem_cons_self;cases this
  |x::r,[],_,_,h=>by have:=(h x).1 List.mem_cons_self;cases this
  | x ::r,y::s,hx,hy,h=>by
    have hx':=List.pairwise_cons.1 hx
    have hy':=List.pairwise_cons.1 hy
    have e:x=y:=by
      rcases List.mem_cons.1 ((h x).1 List.mem_cons_self) with e|e
      · exact e
      · rcases List.mem_cons.1 ((h y).2 List.mem_cons_self) with f|f
        · exact f.symm
        · exact absurd (tr _ _ _ (hy'.1 x e)<|hx'.1 y f) (irr _)
    subst e
    congr 1
    refine asc_unique irr tr hx'.2 hy'.2 λz=>⟨λhz=>?_,λhz=>?_⟩
    · rcases List.mem_cons.1 ((h z).1 (List.mem_cons_of_mem _ hz)) with e|e
      · subst e;exact absurd (hx'.1 _ hz) (irr _)
      · exact e
    · rcases List.mem_cons.1 ((h z).2 (List.mem_cons_of_mem _ hz)) with e|e
      · subst e;exact absurd (hy'.1 _ hz) (irr _)
      · exact e
end
end
section
section
variable{P:Program}{a:Act}{w:World}{n:Nat}{l:List (Nat × Value)}{K:Value->World->Prop}
variable{d:Option Tmp}{ty:TypeId}{pos:String}{af:Array Edge}{g:Option (Nat × Bool)}
theorem does_clear{t e:TypeId}{x:Operand}{b off len cap sz:Nat}{T:TypeId}{z:Value}{cs cs':List Value}{S0 S:Sh}{w0:World}{H:Own}(hx:ev l x=some (.slice (some ⟨b,off,none⟩) len cap))(ht:P.underlying t=some (.slice e))(hZ:Yy P e=some sz)(hB:∃by_,Qb P e=some by_)(hz:XT P e=some z)(hzs:z.cells.size=sz)(h0:0<sz)(ho:∀u∈z.cells.toList,one u=true)(hl:0<len)(hR:Run S0 w0 S ((b,T,cs)::H) w)(hfit:off+len*sz<=cs.length)(hcs:QU cs off (List.replicate len z.cells.toList).flatten=cs')(k:∀w',Run S0 w0 S ((b,T,cs')::H) w'->K (.tuple #[]) w')(a:Act)(hL:ZD a n l):YL P ⟨d,.call ⟨.builtin .clear,#[x],#[t]⟩,ty,pos,af,g⟩ a w K:=by
 obtain⟨by_,hB⟩:=hB;obtain⟨i,hi,hs,hz',hb⟩:=Zdc hZ hB hz;have hnl:((List.replicate len z.cells.toList).flatten:List Value).length=len*sz:=by simp[hzs]
 have hones:∀u∈(List.replicate len z.cells.toList).flatten,one u=true:=by intro u hu;obtain⟨m,hm,hu⟩:=List.mem_flatten.1 hu;rw[(List.mem_replicate.1 hm).2] at hu;exact ho u hu
 obtain⟨w',f1,f2⟩:=Zax (P:=P) (List.replicate len z.cells.toList).flatten off 0 cs w (hR.own _ List.mem_cons_self).1 (by rw[hnl];exact hfit) hones;refine Zv (v:=.tuple #[]) (w':=w') ?_<|k w'<|hR.store cs' (by rw[<-hcs];exact f2);rw[XA];simp only[List.map_toArray,List.map_cons,List.map_nil,hL.ev hx];have hrun:(Builtin.clear_ #[t] ty #[.slice (some ⟨b,off,none⟩) len cap]).run P w= .ok (.tuple #[]) w':=by
  simp only[Builtin.clear_,List.getElem?_toArray,List.getElem?_cons_zero];rw[Zf (Zq ht)];obtain⟨k,rfl⟩:∃k,len=k+1:=⟨len-1,by omega⟩;simp only[];have ez:(Builtin.zeroCells z.cells (k+1)).toList=(List.replicate (k+1) z.cells.toList).flatten:=by have:=zeros_eq z sz (k+1) hzs h0;unfold Builtin.zeroCells;rw[hzs] at this ⊢;rw[this]
  refine(Zf<|Xu hz).trans ?_;rw[ez];refine(Zf f1).trans ?_;rfl
 show Sem.run P (do let v <-Builtin.clear_ #[t] ty #[.slice (some ⟨b,off,none⟩) len cap];(pure (Next.value v):Sem Next)) w=_;rw[Zf hrun];rfl
end
end
section
open Go.Sort
theorem Ext.grow{S:Sh}{w:World}(hS:ZV S w)(n:Nat)(os:Array Obj):Ext S w S (Sort.grow (w.drewN n) os):=by
 refine⟨.refl S,λb o hb=>?_,λb o hb=>.inl ⟨o,hb⟩,⟨rfl,rfl,rfl,?_,λk hk=>?_⟩,Nat.le_add_right _ _⟩;have:=ZV.lt hS hb;show(w.heap++os)[b]? =_;rw[Array.getElem?_append_left this];exact hS b o hb;show w.heap.size<=(w.heap++os).size;simp;show(w.heap++os)[k]? =_;rw[Array.getElem?_append_left hk]
theorem Ext.grown{S S':Sh}{w w':World}(h:Ext S w S' w'):∃q os,w'=Sort.grow (w.drewN q) os:=by
 refine⟨w'.drawn-w.drawn,w'.heap.extract w.heap.size w'.heap.size,?_⟩;have hh:w'.heap=w.heap++w'.heap.extract w.heap.size w'.heap.size:=by apply Array.ext_getElem?;intro k;rcases Nat.lt_or_ge k w.heap.size with hk|hk;rw[Array.getElem?_append_left hk];exact h.below.block k hk;rw[Array.getElem?_append_right hk,Array.getElem?_extract];have:=h.below.size;split;rw[show w.heap.size+(k-w.heap.size)=k by omega];rw[Array.getElem?_eq_none (by omega)]
 have hd:=h.drawn;have h1:=h.below.os;have h2:=h.below.tape;have h3:=h.below.output;cases w';cases w;simp only[Sort.grow,World.drewN] at*;subst h1 h2 h3;simp only[World.mk.injEq];refine⟨hh,trivial,by omega,trivial,trivial⟩
section
variable{α:Type}[Inhabited α]{enc:α->List Value}{k:Nat}
theorem flatK_toList(hk:∀x,(enc x).length=k)(d:Array α):(flatK enc k d).toList=cel (d.toList.map λx=>(enc x,())):=by
 have hl:∀x∈d.toList.map (λx=>(enc x,())),x.1.length=k:=by intro x hx;obtain⟨y,_,rfl⟩:=List.mem_map.1 hx;exact hk y
 have hlen:(cel<|d.toList.map λx=>(enc x,())).length=d.size*k:=by rw[Zbd hl];simp
 apply List.ext_getElem?;intro t;rcases Nat.lt_or_ge t (d.size*k) with ht|ht;have k0:0<k:=Nat.pos_of_ne_zero λe=>by subst e;simp at ht
 have hi:t/k<d.size:=(Nat.div_lt_iff_lt_mul k0).2 ht;have e1:(flatK enc k d).toList[t]? =some ((enc d[t/k]!)[t%k]!):=by rw[<-get_flatK enc k d t ht,Array.getElem?_toList,getElem!_pos _ t (by simpa using ht)];exact Array.getElem?_eq_getElem _
 have hx:(d.toList.map λx=>(enc x,()))[t/k]? =some (enc d[t/k]!,()):=by rw[List.getElem?_map,Array.getElem?_toList,Array.getElem?_eq_getElem hi,getElem!_pos d (t/k) hi];rfl
 have h9:=cel_at (rest:=[]) hl hx;rw[List.append_nil] at h9;replace h9:((cel<|d.toList.map λx=>(enc x,())).drop (t/k*k)).take k=enc d[t/k]! :=h9;have hm:t%k<k:=Nat.mod_lt _ k0;rw[e1];have h8:(cel<|d.toList.map λx=>(enc x,()))[t]? =(enc d[t/k]!)[t%k]? :=by rw[<-h9,List.getElem?_take,if_pos hm,List.getElem?_drop];congr 1;have:=Nat.div_add_mod t k;rw[Nat.mul_comm];omega
 rw[h8,getElem!_pos _ (t%k) (by rw[hk];exact hm)];exact(List.getElem?_eq_getElem _).symm;rw[List.getElem?_eq_none (by simpa using ht),List.getElem?_eq_none (by rw[hlen];exact ht)]
theorem sort_own{w:World}{b:Nat}{T:TypeId}{d d':Array α}{rest:List Value}(hk:∀x,(enc x).length=k)(hs:d'.size=d.size)(n:Nat)(os:Array Obj)(h:w.heap[b]? =some (.cells ((flatK enc k d).toList++rest).toArray T (0,0))):
    sortWorldK enc k w b 0 n d' os=Sort.grow (({w with heap:=w.heap.setIfInBounds b (.cells ((flatK enc k d').toList++rest).toArray T (0,0))}:World).drewN n) os:=by
 unfold sortWorldK;congr 1;unfold putRowK putRow mapBlock Sort.ahead World.drewN;simp only[World.mk.injEq,and_true];obtain⟨hlt,hb⟩:=Array.getElem?_eq_some_iff.1 h;apply Array.ext_getElem?;intro j;rw[Array.getElem?_modify,Array.getElem?_setIfInBounds];by_cases e:b=j;subst e;rw[if_pos rfl,if_pos rfl,if_pos hlt,h];show some (onCells _<|.cells _ T (0,0))=_;simp only[onCells,Option.some.injEq,Obj.cells.injEq,and_true];apply Array.ext_getElem?;intro t;unfold putCells;have hsz:(flatK enc k d').size=(flatK enc k d).size:=by simp[hs]
 rw[Array.getElem?_mapIdx,List.getElem?_toArray,List.getElem?_toArray];rcases Nat.lt_or_ge t (flatK enc k d').size with ht|ht;have ht2:t<(flatK enc k d).size:=hsz▸ht;rw[List.getElem?_append_left (by simpa using ht2),List.getElem?_append_left (by simpa using ht),Array.getElem?_toList,Array.getElem?_toList,Array.getElem?_eq_getElem (hsz▸ht),Array.getElem?_eq_getElem ht];simp only[Option.map_some,Nat.zero_le,Nat.zero_add,true_and,ht,if_true,Nat.sub_zero,id];rw[getElem!_pos _ t ht];have ht2:(flatK enc k d).size<=t:=hsz▸ht;rw[List.getElem?_append_right (by simpa using ht2),List.getElem?_append_right (by simpa using ht)];simp only[Array.length_toList,hsz]
 cases rest[t-(flatK enc k d).size]? with
 |none=>rfl
 |some v=>simp only[Option.map_some,Nat.zero_le,Nat.zero_add,true_and];rw[if_neg (by omega)]
 rw[if_neg e,if_neg e]
theorem Run.sorted{S0 S:Sh}{w0 w:World}{H:Own}{b:Nat}{T:TypeId}{d d':Array α}{rest:List Value}(hk:∀x,(enc x).length=k)(hs:d'.size=d.size)(n:Nat)(os:Array Obj)(h:Run S0 w0 S ((b,T,(flatK enc k d).toList++rest)::H) w):Run S0 w0 S ((b,T,(flatK enc k d').toList++rest)::H) (sortWorldK enc k w b 0 n d' os):=by
 rw[sort_own hk hs n os (h.own _ List.mem_cons_self).1];have h1:=h.store ((flatK enc k d').toList++rest) rfl;exact h1.call<|.grow h1.ext.holds n os
theorem Run.holdsK{S0 S:Sh}{w0 w:World}{H:Own}{b:Nat}{T:TypeId}{d:Array α}{rest:List Value}(h:Run S0 w0 S ((b,T,(flatK enc k d).toList++rest)::H) w):HoldsK enc k w b 0 d:=by
 intro j hj;have hb:=(h.own _ List.mem_cons_self).1;have hj':j<(flatK enc k d).toList.length:=by simpa using hj
 constructor;unfold World.cell?;simp only[hb,Nat.zero_add];simp only[Option.isSome_none,Bool.false_eq_true,if_false,List.getElem?_toArray];rw[List.getElem?_append_left hj',Array.getElem?_toList,Array.getElem?_eq_getElem hj,getElem!_pos _ j hj];rfl;unfold World.frozen?;simp only[hb];simp
theorem Run.holdsS{S0 S:Sh}{w0 w:World}{H:Own}{b:Nat}{T:TypeId}{d d':Array α}{rest:List Value}(hk:∀x,(enc x).length=k)(hs:d'.size=d.size)(n:Nat)(os:Array Obj)(h:Run S0 w0 S ((b,T,(flatK enc k d).toList++rest)::H) w):ZV S (sortWorldK enc k w b 0 n d' os):=(h.sorted hk hs n os).ext.holds
end
end
section
structure P4 where
  a:Rat
  b:Rat
  c:Rat
  d:Rat
def P4.ok(p:P4):Prop:=¬(p.a.num=0/\p.b.num=0/\p.c.num=0)
abbrev El:=List Value × P4
def dEl:El:=([],⟨0,0,0,0⟩)
def Els(n:Nat)(xs:List El):Prop:=∀x∈xs,x.1.length=n/\∀u∈x.1,one u=true
def Hs(S:Sh)(xs:List El):Prop:=∀x∈xs,Fs S x.1 [x.2.a,x.2.b,x.2.c,x.2.d] 351808/\x.2.ok
def Ks(S:Sh)(xs:List El):Prop:=∀x∈xs,Gs S x.1 [x.2.a,x.2.b,x.2.c,x.2.d] 351808/\x.2.ok
theorem Hs.up{S S':Sh}{xs:List El}(h:Hs S xs)(l:S.le S'):Hs S' xs:=λx hx=>⟨(h x hx).1.up l,(h x hx).2⟩
theorem Ks.up{S S':Sh}{xs:List El}(h:Ks S xs)(l:S.le S'):Ks S' xs:=λx hx=>⟨(h x hx).1.up l,(h x hx).2⟩
theorem Hs.els{S:Sh}{xs:List El}(h:Hs S xs):Els 20 xs:=λx hx=>⟨(h x hx).1.len,(h x hx).1.ones⟩
theorem Ks.els{S:Sh}{xs:List El}(h:Ks S xs):Els 12 xs:=λx hx=>⟨(h x hx).1.len,(h x hx).1.ones⟩
theorem Zbn{xs:List El}{i:Nat}(hi:i<xs.length):xs.getD i dEl∈xs:=by
 rw[List.getD_eq_getElem?_getD,List.getElem?_eq_getElem hi];exact List.getElem_mem hi
theorem getD_some{xs:List El}{i:Nat}(hi:i<xs.length):xs[i]? =some (xs.getD i dEl):=by
 rw[List.getD_eq_getElem?_getD,List.getElem?_eq_getElem hi];rfl
theorem Hs.at{S:Sh}{xs:List El}(h:Hs S xs){i:Nat}(hi:i<xs.length):Fs S (xs.getD i dEl).1 [(xs.getD i dEl).2.a,(xs.getD i dEl).2.b,(xs.getD i dEl).2.c,(xs.getD i dEl).2.d] 351808:=(h _<|Zbn hi).1
theorem Ks.at{S:Sh}{xs:List El}(h:Ks S xs){i:Nat}(hi:i<xs.length):Gs S (xs.getD i dEl).1 [(xs.getD i dEl).2.a,(xs.getD i dEl).2.b,(xs.getD i dEl).2.c,(xs.getD i dEl).2.d] 351808:=(h _<|Zbn hi).1
theorem Hs.ok{S:Sh}{xs:List El}(h:Hs S xs){i:Nat}(hi:i<xs.length):(xs.getD i dEl).2.ok:=(h _<|Zbn hi).2
theorem Ks.ok{S:Sh}{xs:List El}(h:Ks S xs){i:Nat}(hi:i<xs.length):(xs.getD i dEl).2.ok:=(h _<|Zbn hi).2
abbrev pls(xs:List El):List Value:=cel xs
abbrev dps(xs:List El):List Value:=cel xs
theorem XJ{n:Nat}{xs:List El}(h:Els n xs){i:Nat}(hi:i<xs.length):(xs.getD i dEl).1.length=n:=(h _<|Zbn hi).1
theorem el_ones{n:Nat}{xs:List El}(h:Els n xs){i:Nat}(hi:i<xs.length):∀u∈(xs.getD i dEl).1,one u=true:=(h _<|Zbn hi).2
theorem Zcp{n:Nat}{xs:List El}{rest:List Value}(h:Els n xs){i:Nat}(hi:i<xs.length):((cel xs++rest).drop (0+i*n)).take n=(xs.getD i dEl).1:=by
 rw[Nat.zero_add];exact cel_at rest (λx hx=>(h x hx).1)<|getD_some hi
theorem Els.set{n:Nat}{xs:List El}(h:Els n xs){x:El}(hx:x.1.length=n)(ho:∀u∈x.1,one u=true)(i:Nat):Els n (xs.set i x):=λy hy=>by
  rcases List.mem_or_eq_of_mem_set hy with q|q
  · exact h y q
  · rw[q];exact⟨hx,ho⟩
section
variable{P:Program}{a:Act}{w:World}{n:Nat}{l:List (Nat × Value)}{K:Value->World->Prop}
variable{d:Option Tmp}{ty:TypeId}{pos:String}{af:Array Edge}{g:Option (Nat × Bool)}
theorem Yk{t e:TypeId}{x y:Operand}{b off len cap sz:Nat}{kd:IntKind}{i:Int}(j jj:Nat)(hx:ev l x=some (.slice (some ⟨b,off,none⟩) len cap))(hy:ev l y=some (.int kd i))(ht:P.underlying t=some (.slice e))(hZ:Yy P e=some sz)(hj:i=(j:Int))(h1:j<len)(ho:off+j*sz=0+jj*sz)(k:K (.pointer (some ⟨b,0+jj*sz,none⟩)) w)(a:Act)(hL:ZD a n l):YL P ⟨d,.indexAddr t x y,ty,pos,af,g⟩ a w K:=
  Cu hL (does_indexSn j hx hy ht hZ hj h1 ho k)
theorem does_storeE{t:TypeId}{x y:Operand}{b j sz:Nat}{T:TypeId}{xs:List El}{rest us:List Value}{S0 S:Sh}{w0:World}{H:Own}(q:P4)(hx:ev l x=some (.pointer (some ⟨b,0+j*sz,none⟩)))(hy:ev l y=some (.agg us.toArray))(hR:Run S0 w0 S ((b,T,cel xs++rest)::H) w)(hZ:Yy P t=some sz)(hE:Els sz xs)(hu:us.length=sz)(ho:∀u∈us,one u=true)(hj:j<xs.length)(k:∀w',Run S0 w0 S ((b,T,cel (xs.set j (us,q))++rest)::H) w'->K undef w')(a:Act)(hL:ZD a n l):YL P ⟨d,.store t x y,ty,pos,af,g⟩ a w K:=by
 have hlen:=Zbd (n:=sz) λx hx=>(hE x hx).1;have hb:j*sz+sz<=(cel xs).length:=by rw[hlen];have:=Nat.mul_le_mul_right sz (show j+1<=xs.length from hj);rwa [Nat.add_mul,Nat.one_mul] at this
 have hc:(Value.agg us.toArray).cells.toList=us:=by simp[Value.cells]
 have hz:(Value.agg us.toArray).cells.size=sz:=by simp[Value.cells,hu]
 refine Cu hL<|Zdf (cs':=cel (xs.set j (us,q))++rest) hx hy hR (by rw[hZ,hz]) (by rw[hz,List.length_append];omega) (by rw[hc];exact ho) ?_ k;rw[hc,Nat.zero_add];exact cel_set (us,q) rest (λx hx=>(hE x hx).1) hu hj
theorem does_sliceLo{t e:TypeId}{x y:Operand}{b off len cap i sz:Nat}{k1:IntKind}(hx:ev l x=some (.slice (some ⟨b,off,none⟩) len cap))(hy:ev l y=some (.int k1 i))(ht:P.underlying t=some (.slice e))(hZ:Yy P e=some sz)(h1:i<=len)(h2:len<=cap)(h3:i<cap)(k:K (.slice (some ⟨b,off+i*sz,none⟩) (len-i) (cap-i)) w)(a:Act)(hL:ZD a n l):YL P ⟨d,.slice t x (some y) none none,ty,pos,af,g⟩ a w K:=by
 refine Zv (v:=.slice (some ⟨b,off+i*sz,none⟩) (len-i) (cap-i)) ?_ k;simp only[execOp,hL.ev hx,Option.map_none,Option.map_some,hL.ev hy,Instr.sliceAt];rw[Zf (w':=w) (a:=(.slice (some ⟨b,off+i*sz,none⟩) (len-i) (cap-i):Value))];rfl;rw[Zf (Zq ht)];simp only[Instr.slice];rw[Zf (Zq ht)];simp only[Instr.sliceBounds]
 rw[Zf (w':=w) (a:=(i,len,cap)) (by
   rw[ZE,ZE,Zf (Ye rfl h1)];rfl)]
 simp only[];rw[Zf (Ym hZ)];rw[if_neg (by omega)];simp only[Option.map_some,Addr.add];by_cases hq:i*sz=0;rw[if_pos hq,hq];rfl;rw[if_neg hq];rfl
end
def RetE(S0:Sh)(w0:World)(S:Sh)(b:Nat)(T:TypeId)(rest:List Value)(H:Own)(V:Sh->Value->List El->Prop):Ending->World->Prop:=
  λe w'=>∃v S' ds,e= .returned v/\S.le S'/\Run S0 w0 S' ((b,T,cel ds++rest)::H) w'/\V S' v ds
end
section
section
variable{Q:Type}
structure Rows3(c:Q->Q->Int):Prop where
  anti:∀p q,c p q=0-c q p
  zero:∀p q,c p q=0↔p=q
  trans:∀p q r,c p q<=0->c q r<=0->c p r<=0
variable{c:Q->Q->Int}
theorem Rows3.lt_trans(h:Rows3 c){p q r:Q}(h1:c p q<0)(h2:c q r<0):c p r<0:=by
 have h3:=h.trans p q r (by omega) (by omega);rcases Int.lt_or_eq_of_le h3 with h4|h4;exact h4;have e:=(h.zero p r).1 h4;subst e;have:=h.anti p q;omega
theorem Rows3.irr(h:Rows3 c)(p:Q):¬c p p<0:=by have:=(h.zero p p).2 rfl;omega
theorem snoc_ind{p:List Q->Prop}(h0:p [])(h1:∀r y,p r->p (r++[y]))(xs:List Q):p xs:=by
 have key:∀ys:List Q,p ys.reverse:=by
   intro ys
   induction ys with
   |nil=>exact h0
   |cons y r ih=>rw[List.reverse_cons];exact h1 _ _ ih
 have:=key xs.reverse;rwa [List.reverse_reverse] at this
section
variable[DecidableEq Q]
def dd(xs:List Q):List Q:=xs.foldl (λa y=>if a.getLast? =some y then a else a++[y]) []
theorem dd_snoc(xs:List Q)(y:Q):dd (xs++[y])=if(dd xs).getLast? =some y then dd xs else dd xs++[y]:=by
 unfold dd;rw[List.foldl_append];rfl
theorem dd_last(xs:List Q):(dd xs).getLast? =xs.getLast? :=by
 refine snoc_ind (p:=λxs=>(dd xs).getLast? =xs.getLast?) rfl (λr y ih=>?_) xs;rw[dd_snoc,List.getLast?_append];split;rename_i h;rw[h];rfl;rw[List.getLast?_append];rfl
theorem dd_mem(xs:List Q)(x:Q):x∈dd xs↔x∈xs:=by
 refine snoc_ind (p:=λxs=>x∈dd xs↔x∈xs) Iff.rfl (λr y ih=>?_) xs;rw[dd_snoc];split;rename_i h;rw[List.mem_append,<-ih];refine⟨.inl,λq=>q.elim id λq=>?_⟩;rw[List.mem_singleton.1 q];exact List.mem_of_getLast? h;rw[List.mem_append,List.mem_append,ih]
theorem dd_asc(h:Rows3 c){xs:List Q}(hs:xs.Pairwise λp q=>c p q<=0):(dd xs).Pairwise λp q=>c p q<0:=by
 revert hs;refine snoc_ind (p:=λxs=>xs.Pairwise (λp q=>c p q<=0)->(dd xs).Pairwise λp q=>c p q<0) (λ_=>List.Pairwise.nil) (λr y ih hs=>?_) xs;have hs':=List.pairwise_append.1 hs;rw[dd_snoc];split;exact ih hs'.1;rename_i hn;refine List.pairwise_append.2 ⟨ih hs'.1,List.pairwise_singleton _ _,λp hp q hq=>?_⟩;rw[List.mem_singleton.1 hq];have hle:=hs'.2.2 p ((dd_mem r p).1 hp) y (by simp);rcases Int.lt_or_eq_of_le hle with h4|h4;exact h4;have e:=(h.zero p y).1 h4;subst e;have hmem:=(dd_mem r p).1 hp;have hlast:(dd r).getLast? ≠none:=by intro q;rw[List.getLast?_eq_none_iff] at q;rw[q] at hp;cases hp
 obtain⟨z,hz⟩:=Option.ne_none_iff_exists'.1 hlast;have hz2:=hz;rw[dd_last] at hz2;have hzr:=List.mem_of_getLast? hz2;have h5:=hs'.2.2 z hzr p (by simp);have h6:c p z<=0:=by
  obtain⟨s,rfl⟩:∃s,r=s++[z]:=by
   refine⟨r.dropLast,?_⟩;have hne:r≠[]:=by intro q;rw[q] at hmem;cases hmem
   rw[List.getLast?_eq_some_getLast hne] at hz2;rw[<-Option.some.inj hz2];exact(List.dropLast_concat_getLast hne).symm
  have hs3:=List.pairwise_append.1 hs'.1;rcases List.mem_append.1 hmem with q|q;exact hs3.2.2 p q z (by simp);rw[List.mem_singleton.1 q,(h.zero z z).2 rfl];omega
 have h7:=h.anti p z;have e2:=(h.zero z p).1 (by omega);subst e2;exact absurd hz hn
end
theorem ins_asc(h:Rows3 c){xs:List Q}{x:Q}{k:Nat}(hs:xs.Pairwise λp q=>c p q<0)(hlo:∀p∈xs.take k,c p x<0)(hhi:∀p,xs[k]? =some p->0<c p x):(xs.take k++x::xs.drop k).Pairwise λp q=>c p q<0:=by
 have hs':(xs.take k++xs.drop k).Pairwise λp q=>c p q<0:=by rw[List.take_append_drop];exact hs
 have h3:=List.pairwise_append.1 hs'
 have hx:∀p∈xs.drop k,c x p<0:=by
   intro p hp
   cases hd:xs.drop k with
   |nil=>rw[hd] at hp;cases hp
   | cons y r=>
     have hy:xs[k]? =some y:=by
       have:=congrArg (λl=>l[0]?) hd
       simpa using this
     have h4:=hhi y hy
     have h5:=h.anti x y
     have hxy:c x y<0:=by omega
     rw[hd] at hp
     rcases List.mem_cons.1 hp with e|e
     · rw[e];exact hxy
     · have h6:=h3.2.1
       rw[hd] at h6
       exact h.lt_trans hxy ((List.pairwise_cons.1 h6).1 p e)
 refine List.pairwise_append.2 ⟨h3.1,List.pairwise_cons.2 ⟨hx,h3.2.1⟩,λp hp q hq=>?_⟩;rcases List.mem_cons.1 hq with e|e;rw[e];exact hlo p hp;exact h3.2.2 p hp q e
theorem ins_mem{xs:List Q}{x:Q}{k:Nat}(y:Q):y∈xs.take k++x::xs.drop k↔y∈xs\/y=x:=by
 conv=>rhs;rw[<-List.take_append_drop k xs]
 simp only[List.mem_append,List.mem_cons];constructor;rintro(h|h|h);exact .inl (.inl h);exact .inr h;exact .inl (.inr h);rintro((h|h)|h);exact .inl h;exact .inr (.inr h);exact .inr (.inl h)
end
end
section
instance:DecidableEq P4:=λ_ _=>Classical.propDecidable _
abbrev XE(xs:List El):List P4:=xs.map (·.2)
theorem Qc{xs:List El}{i:Nat}(hi:i<xs.length):XE (xs.take (i+1))=XE (xs.take i)++[(xs.getD i dEl).2]:=by
 unfold XE;rw[List.take_add_one,getD_some hi];simp
theorem nums_last{xs:List El}{i:Nat}(h1:1<=i)(hi:i<=xs.length):(XE<|xs.take i).getLast? =some (xs.getD (i-1) dEl).2:=by
 obtain⟨j,rfl⟩:∃j,i=j+1:=⟨i-1,by omega⟩;rw[Qc (by omega),List.getLast?_append];rfl
theorem dd_short{Q:Type}[DecidableEq Q]{xs:List Q}(h:xs.length<2):dd xs=xs:=by
 match xs,h with
 |[],_=>rfl
 |[x],_=>rfl
theorem dd_take1(s:List El):dd (XE<|s.take 1)=XE (s.take 1):=dd_short (by unfold XE;rw[List.length_map,List.length_take];omega)
theorem dd_ne{s:List El}{i:Nat}(h1:1<=i)(hi:i<s.length)(hne:¬(s.getD i dEl).2=(s.getD (i-1) dEl).2):dd (XE<|s.take (i+1))=dd (XE<|s.take i)++[(s.getD i dEl).2]:=by
 rw[Qc hi,dd_snoc,dd_last,nums_last h1 (by omega),if_neg];intro e;exact hne (Option.some.inj e).symm
theorem dd_eq{s:List El}{i:Nat}(h1:1<=i)(hi:i<s.length)(he:(s.getD i dEl).2=(s.getD (i-1) dEl).2):dd (XE<|s.take (i+1))=dd (XE<|s.take i):=by
 rw[Qc hi,dd_snoc,dd_last,nums_last h1 (by omega),if_pos (by rw[he])]
theorem cp_keep{s ys:List El}{q:Nat}{x:El}(h:∀j,q<=j->ys.getD j dEl=s.getD j dEl):∀j,q+1<=j->(ys.set q x).getD j dEl=s.getD j dEl:=by
 intro j hj;rw[<-h j (by omega),List.getD_eq_getElem?_getD,List.getD_eq_getElem?_getD,List.getElem?_set_ne (by omega)]
theorem nums_set{ys:List El}{q:Nat}{x:El}(hq:q<ys.length):XE ((ys.set q x).take (q+1))=XE (ys.take q)++[x.2]:=by
 unfold XE;rw[List.take_add_one,List.getElem?_set_self hq,List.take_set_of_le (Nat.le_refl q)];simp
theorem Hs.setD{S:Sh}{ys:List El}(h:Hs S ys){q j:Nat}(hj:j<ys.length):Hs S (ys.set q<|ys.getD j dEl):=λx hx=>by
  rcases List.mem_or_eq_of_mem_set hx with e|e
  · exact h x e
  · rw[e];exact h _<|Zbn hj
def zEl:El:=([.bool false,.int .u64 0,.slice none 0 0,.int .u64 0,.slice none 0 0,.bool false,.int .u64 0,.slice none 0 0,.int .u64 0,.slice none 0 0,.bool false,.int .u64 0,.slice none 0 0,.int .u64 0,.slice none 0 0,.bool false,.int .u64 0,.slice none 0 0,.int .u64 0,.slice none 0 0],⟨0,0,0,0⟩)
def clr(ys:List El)(q:Nat):List El:=ys.take q++List.replicate (ys.length-q) zEl
theorem clr_len{ys:List El}{q:Nat}(h:q<=ys.length):(clr ys q).length=ys.length:=by unfold clr;rw[List.length_append,List.length_take,List.length_replicate];omega
theorem clr_take{ys:List El}{q:Nat}(h:q<=ys.length):(clr ys q).take q=ys.take q:=by unfold clr;rw[List.take_append_of_le_length (by rw[List.length_take];omega),List.take_of_length_le (by rw[List.length_take];omega)]
theorem Za9:zEl.1.length=20/\∀u∈zEl.1,one u=true:=⟨rfl,by decide⟩
theorem clr_els{ys:List El}{q:Nat}(h:Els 20 ys):Els 20 (clr ys q):=λx hx=>by
  unfold clr at hx
  rcases List.mem_append.1 hx with e|e
  · exact h x (List.mem_of_mem_take e)
  · rw[(List.mem_replicate.1 e).2];exact Za9
theorem clr_hs{S:Sh}{ys:List El}{q:Nat}(h:Hs S ys)(hq:q<=ys.length):Hs S ((clr ys q).take q):=λx hx=>by
  rw[clr_take hq] at hx;exact h x<|List.mem_of_mem_take hx
def Compacted(b cap:Nat)(s:List El)(S:Sh)(v:Value)(ds:List El):Prop:=
  ∃m,v= .slice (some ⟨b,0,none⟩) m cap/\m<=s.length/\ds.length=s.length/\Els 20 ds/\Hs S (ds.take m)/\XE (ds.take m)=dd (XE s)
section
variable{P:Program}{a:Act}{w:World}{n:Nat}{l:List (Nat × Value)}{K:Value->World->Prop}
variable{d:Option Tmp}{ty:TypeId}{pos:String}{af:Array Edge}{g:Option (Nat × Bool)}
theorem rep_cel(x:El):∀k,(List.replicate k x.1).flatten=cel (List.replicate k x)
  |0=>rfl
  | k+1=>by
    rw[List.replicate_succ,List.replicate_succ,List.flatten_cons,rep_cel x k];rfl
theorem does_clearE{t e:TypeId}{x:Operand}{b len cap by_:Nat}{T:TypeId}{z:Value}{ys:List El}{rest:List Value}{S0 S:Sh}{w0:World}{H:Own}(q:Nat)(hx:ev l x=some (.slice (some ⟨b,0+q*20,none⟩) len cap))(ht:P.underlying t=some (.slice e))(hZ:Yy P e=some 20)(hB:Qb P e=some by_)(hz:XT P e=some z)(hR:Run S0 w0 S ((b,T,cel ys++rest)::H) w)(hE:Els 20 ys)(hzz:z.cells.toList=zEl.1)(hl:len=ys.length-q)(h0:q<ys.length)(k:∀w',Run S0 w0 S ((b,T,cel (clr ys q)++rest)::H) w'->K (.tuple #[]) w')(a:Act)(hL:ZD a n l):YL P ⟨d,.call ⟨.builtin .clear,#[x],#[t]⟩,ty,pos,af,g⟩ a w K:=by
 have hlen:=Zbd (n:=20) λx hx=>(hE x hx).1;have hfit:0+q*20+len*20<=(cel ys++rest).length:=by rw[List.length_append,hlen];omega
 have hzs:z.cells.size=20:=by have:=congrArg List.length hzz;simpa [zEl] using this
 refine Cu hL<|does_clear hx ht hZ ⟨_,hB⟩ hz hzs (by omega) (by rw[hzz];exact Za9.2) (by omega) hR hfit ?_ k;have hnl:((List.replicate len z.cells.toList).flatten:List Value).length=len*20:=by simp[hzs]
 unfold QU;rw[hnl,hzz,rep_cel,List.take_append_of_le_length (by omega),Nat.zero_add,cel_take (λx hx=>(hE x hx).1) (by omega),show q*20+len*20=(cel ys).length by omega,List.drop_left,hl];unfold clr;rw[Zc1]
end
end
section
section
variable{P:Program}{S0:Sh}{w0:World}{H0:Own}{E0:QH}{st:Nat->Nat}{ops:Array Oper}{V:Nat->KV}{n:Nat}{l:List (Nat × Value)}{lz:Olds}{S1:Sh}{i:Nat}{o:Oper}
theorem does_storeRA{done:Nat->Bool}{S:Sh}{E:QH}{a:Act}{w:World}{t:TypeId}{x y:Operand}{b k off:Nat}{T:TypeId}{cs cs':List Value}{v:Value}{l':List (Nat × Value)}{R:Sh->List Value->Prop}{hR:∀S S' cs,S.le S'->R S cs->R S' cs}{ty:TypeId}{pos:String}{af:Array Edge}{g:Option (Nat × Bool)}(h:At S0 w0 H0 E0 st ops V n l lz S1 i ⟨none,.store t x y,ty,pos,af,g⟩ done S E a w)(hL:ZD a n l')(hx:ev l' x=some (.pointer (some ⟨b,off,none⟩)))(hy:ev l' y=some v)(hE0:(k,b,T,cs,false)∈E0)(hst:st k=i)(hZ:Yy P t=some 1)(ho:one v=true)(hvc:v.cells.toList=[v])(hoff:off<cs.length)(hcs:cs.set off v=cs')(hV:V i= .stored k T R hR)(hr:R S cs'):
    YL P ⟨none,.store t x y,ty,pos,af,g⟩ a w (Post S0 w0 H0 st V i ⟨none,.store t x y,ty,pos,af,g⟩ done S E):=by
 obtain⟨cs0,s,hE,_,_,hf⟩:=h.le0 _ _ _ _ _ hE0
 have hs:s=false:=by
   cases s with
   |false=>rfl
   | true=>
     have:=h.inv.sealed _ hE rfl
     simp only[hst,h.not] at this
     cases this
 subst hs;have hc0:=hf rfl;subst hc0;obtain⟨E1,E2,rfl⟩:=List.append_of_mem hE;have hfront:=h.run.perm Zca;have hlen:cs'.length=cs0.length:=by rw[<-hcs];simp
 have hvs:v.cells.size=1:=by have:=congrArg List.length hvc;simpa using this
 refine Cu hL<|Zdf (cs':=cs') hx hy hfront (by rw[hZ,hvs]) (by rw[hvs];show off+1<=cs0.length;omega) (λu hu=>by rw[hvc] at hu;simp at hu;rw[hu];exact ho) ?_ λw' r=>?_;rw[hvc,<-hcs];unfold QU;rw[List.set_eq_take_append_cons_drop,if_pos hoff];simp;refine⟨S,E1++(k,b,T,cs',true)::E2,.refl S,?_,⟨r.perm (Zca (x:=(k,b,T,cs',true)) (E1:=E1) (E2:=E2) (H:=H0)).symm,?_,?_,?_⟩,?_⟩;intro i' b' T' cs' s' hm;rcases List.mem_append.1 hm with hm|hm;exact⟨cs',s',List.mem_append_left _ hm,rfl,λe=>⟨rfl,e⟩,λ_=>rfl⟩;rcases List.mem_cons.1 hm with hm|hm;simp only[Prod.mk.injEq] at hm;obtain⟨rfl,rfl,rfl,rfl,rfl⟩:=hm;exact⟨_,true,by simp,hlen,(λe=>by cases e),λe=>by cases e⟩;exact⟨cs',s',List.mem_append_right _ (List.mem_cons_of_mem _ hm),rfl,λe=>⟨rfl,e⟩,λ_=>rfl⟩;have:=h.inv.nodup;simpa using this;intro z hz hlt;rcases List.mem_append.1 hz with hz|hz;simp[h.inv.made z (by simp[hz]) hlt];rcases List.mem_cons.1 hz with rfl|hz;have:=h.inv.made _ hE hlt;simpa using Or.inl this;simp[h.inv.made z (by simp[hz]) hlt];intro z hz hs;rcases List.mem_append.1 hz with hz|hz;simp[h.inv.sealed z (by simp[hz]) hs];rcases List.mem_cons.1 hz with rfl|hz;simp[hst];simp[h.inv.sealed z (by simp[hz]) hs];rw[hV];exact⟨b,cs',by simp,hr⟩
end
end
section
section
variable{P:Program}{S0:Sh}{w0:World}{H0:Own}{E0:QH}{st:Nat->Nat}{ops:Array Oper}{V:Nat->KV}{n:Nat}{l:List (Nat × Value)}{lz:Olds}{S1:Sh}{i:Nat}
def Grew(e:TypeId)(len sz:Nat)(cs:List Value)(v:Value)(_:Nat)(b:Nat)(T:TypeId)(cells:List Value):Prop:=T=e/\∃rest cap,cells=cs++rest/\v= .slice (some ⟨b,0,none⟩) len cap/\Gw (some (b,rest)) len cap sz cs
theorem RInv.put{S0:Sh}{w0:World}{H0:Own}{st:Nat->Nat}{done:Nat->Bool}{S:Sh}{E:QH}{w w':World}(h:RInv S0 w0 H0 st done S E w){i b:Nat}{T:TypeId}{cs:List Value}(r:Run S0 w0 S (QH.own ((i,b,T,cs,true)::E)++H0) w')(hn:done i=false)(hi:i<1000)(hs:st i=i):
    RInv S0 w0 H0 st (λk=>done k||k==i) S ((i,b,T,cs,true)::E) w':=by
 refine⟨r,?_,?_,?_⟩;simp only[List.map_cons,List.nodup_cons];refine⟨λhm=>?_,h.nodup⟩;obtain⟨x,hx,e⟩:=List.mem_map.1 hm;have:=h.made x hx (by omega);rw[e,hn] at this;cases this;intro x hx hlt;rcases List.mem_cons.1 hx with rfl|hx;simp;simp[h.made x hx hlt];intro x hx hq;rcases List.mem_cons.1 hx with rfl|hx;simp[hs];simp[h.sealed x hx hq]
theorem QH.le_cons(E:QH)(x:Nat × Nat × TypeId × List Value × Bool):E.le (x::E):=λ_ _ _ cs' s hm=>⟨cs',s,List.mem_cons_of_mem _ hm,rfl,λe=>⟨rfl,e⟩,λ_=>rfl⟩
theorem does_appendR{done:Nat->Bool}{S:Sh}{E:QH}{a:Act}{w:World}{t e T2:TypeId}{x y:Operand}{g:Option (Nat × List Value)}{cs vs:List Value}{len cap cap2 sz by_ b2:Nat}{z:Value}{l':List (Nat × Value)}{d:Option Tmp}{ty:TypeId}{pos:String}{af:Array Edge}{g0:Option (Nat × Bool)}(h:At S0 w0 H0 E0 st ops V n l lz S1 i ⟨d,.call ⟨.builtin .append,#[x,y],#[t,t]⟩,ty,pos,af,g0⟩ done S E a w)(hL:ZD a n l')(hx:ev l' x=some (.slice (gp g) len cap))(hy:ev l' y=some (.slice (some ⟨b2,0,none⟩) 1 cap2))(ht:P.underlying t=some (.slice e))(hZ:Yy P e=some sz)(hB:Qb P e=some by_)(hz:XT P e=some z)(hzs:z.cells.size=sz)(hG:Gw g len cap sz cs)(hE0:∀q,g=some q->(1000,q.1,e,cs++q.2,false)∈E0)(hst:st 1000=i)(hsi:st i=i)(hi:i<1000)(hv:Row S b2 T2 vs)(hvl:vs.length=sz)(ho:∀v∈vs,one v=true)(hlim:(len+1)*by_<=140737488355328)(hlim2:len+1<=140737488355328)(hd:d.isSome=true)(hV:V i= .grew (Grew e (len+1) sz (cs++vs))):
    YL P ⟨d,.call ⟨.builtin .append,#[x,y],#[t,t]⟩,ty,pos,af,g0⟩ a w (Post S0 w0 H0 st V i ⟨d,.call ⟨.builtin .append,#[x,y],#[t,t]⟩,ty,pos,af,g0⟩ done S E):=by
 have hvs:(vs.drop 0).take (1*sz)=vs:=by rw[List.drop_zero,List.take_of_length_le (by omega)]
 have hvl1:vs.length=1*sz:=by omega
 cases g with
 | none=>
   have hR:Run S0 w0 S (YH none e cs++(E.own++H0)) w:=h.run
   refine Cu hL (Zfl (g:=none) (T2:=T2) hx hy ht hZ hB hz hzs hG hR (h.run.row hv) hvs hvl1 ho (by omega) hlim hlim2 (λb' rest' cap' w' h1 r=>?_) (λb rest rest' w' hg _ _=>by cases hg))
   refine⟨S,(i,b',e,cs++vs++rest',true)::E,.refl S,QH.le_cons _ _,h.inv.put r h.not hi hsi,?_⟩
   rw[hV]
   simp only[hd,if_true]
   exact⟨i,b',e,_,List.mem_cons_self,rfl,rest',cap',rfl,rfl,h1⟩
 | some q=>
   obtain⟨b,rest⟩:=q
   obtain⟨cs0,s,hE,_,_,hf⟩:=h.le0 _ _ _ _ _ (hE0 _ rfl)
   have hs:s=false:=by
     cases s with
     |false=>rfl
     | true=>
       have:=h.inv.sealed _ hE rfl
       simp only[hst,h.not] at this
       cases this
   subst hs
   have hc0:=hf rfl
   subst hc0
   obtain⟨E1,E2,rfl⟩:=List.append_of_mem hE
   have hfront:=h.run.perm Zca
   have hR:Run S0 w0 S (YH (some (b,rest)) e cs++(QH.own (E1++E2)++H0)) w:=by simpa [YH] using hfront
   refine Cu hL (Zfl (g:=some (b,rest)) (T2:=T2) hx hy ht hZ hB hz hzs hG hR (h.run.row hv) hvs hvl1 ho (by omega) hlim hlim2 (λb' rest' cap' w' h1 r=>?_) (λb2 rest2 rest' w' hg h1 r=>?_))
   · have r2:Run S0 w0 S (QH.own ((i,b',e,cs++vs++rest',true)::(E1++(1000,b,e,cs++rest,false)::E2))++H0) w':=by
       refine Run.perm r ?_
       show List.Perm ((b',e,cs++vs++rest')::(YH (some (b,rest)) e cs++(QH.own (E1++E2)++H0))) ((b',e,cs++vs++rest')::(QH.own (E1++(1000,b,e,cs++rest,false)::E2)++H0))
       exact List.Perm.cons _ (Zca (x:=(1000,b,e,cs++rest,false)) (E1:=E1) (E2:=E2) (H:=H0)).symm
     refine⟨S,_,.refl S,QH.le_cons _ _,h.inv.put r2 h.not hi hsi,?_⟩
     rw[hV]
     simp only[hd,if_true]
     exact⟨i,b',e,_,List.mem_cons_self,rfl,rest',cap',rfl,rfl,h1⟩
   · cases hg
     have hlen:(cs++vs++rest').length=(cs++rest).length:=by rw[h1.hs _ rfl,hG.hs _ rfl]
     refine⟨S,E1++(1000,b,e,cs++vs++rest',true)::E2,.refl S,?_,⟨r.perm (Zca (x:=(1000,b,e,cs++vs++rest',true)) (E1:=E1) (E2:=E2) (H:=H0)).symm,?_,?_,?_⟩,?_⟩
     · intro i' b' T' cs' s' hm
       rcases List.mem_append.1 hm with hm|hm
       · exact⟨cs',s',List.mem_append_left _ hm,rfl,λe=>⟨rfl,e⟩,λ_=>rfl⟩
       · rcases List.mem_cons.1 hm with hm|hm
         · simp only[Prod.mk.injEq] at hm
           obtain⟨rfl,rfl,rfl,rfl,rfl⟩:=hm
           exact⟨_,true,by simp,hlen,(λe=>by cases e),λe=>by cases e⟩
         · exact⟨cs',s',List.mem_append_right _ (List.mem_cons_of_mem _ hm),rfl,λe=>⟨rfl,e⟩,λ_=>rfl⟩
     · have:=h.inv.nodup;simpa using this
     · intro z hz hlt
       rcases List.mem_append.1 hz with hz|hz
       · simp[h.inv.made z (by simp[hz]) hlt]
       · rcases List.mem_cons.1 hz with rfl|hz
         · have:=h.inv.made _ hE hlt
           simpa using Or.inl this
         · simp[h.inv.made z (by simp[hz]) hlt]
     · intro z hz hq
       rcases List.mem_append.1 hz with hz|hz
       · simp[h.inv.sealed z (by simp[hz]) hq]
       · rcases List.mem_cons.1 hz with rfl|hz
         · simp[hst]
         · simp[h.inv.sealed z (by simp[hz]) hq]
     · rw[hV]
       simp only[hd,if_true]
       exact⟨1000,b,e,_,by simp,rfl,rest',cap,rfl,rfl,h1⟩
end
end
section
def Zgq(w:World)(sz:Nat)(p:Option Addr)(m:Nat)(ys:List El):Prop:=m=ys.length/\(0<m->∃b o T cs,p=some ⟨b,o,none⟩/\Has w b T cs/\(cs.drop o).take (m*sz)=cel ys)
theorem Els.take{n:Nat}{xs:List El}(h:Els n xs)(k:Nat):Els n (xs.take k):=λx hx=>h x<|List.mem_of_mem_take hx
theorem Els.drop{n:Nat}{xs:List El}(h:Els n xs)(k:Nat):Els n (xs.drop k):=λx hx=>h x<|List.mem_of_mem_drop hx
theorem Els.append{n:Nat}{xs ys:List El}(h:Els n xs)(h':Els n ys):Els n (xs++ys):=λx hx=>(List.mem_append.1 hx).elim (h x) (h' x)
theorem Hs.append{S:Sh}{xs ys:List El}(h:Hs S xs)(h':Hs S ys):Hs S (xs++ys):=λx hx=>(List.mem_append.1 hx).elim (h x) (h' x)
theorem Ks.append{S:Sh}{xs ys:List El}(h:Ks S xs)(h':Ks S ys):Ks S (xs++ys):=λx hx=>(List.mem_append.1 hx).elim (h x) (h' x)
theorem Ks.take{S:Sh}{xs:List El}(h:Ks S xs)(k:Nat):Ks S (xs.take k):=λx hx=>h x<|List.mem_of_mem_take hx
theorem Ks.drop{S:Sh}{xs:List El}(h:Ks S xs)(k:Nat):Ks S (xs.drop k):=λx hx=>h x<|List.mem_of_mem_drop hx
theorem Zgq.pre{w:World}{sz b k:Nat}{T:TypeId}{xs:List El}{rest:List Value}(hw:Has w b T (cel xs++rest))(hE:Els sz xs)(hk:k<=xs.length):Zgq w sz (some ⟨b,0,none⟩) k (xs.take k):=by
 refine⟨by rw[List.length_take];omega,λ_=>⟨b,0,T,_,rfl,hw,?_⟩⟩;have hlen:=Zbd (n:=sz) λx hx=>(hE x hx).1;have hb:k*sz<=(cel xs).length:=by rw[hlen];exact Nat.mul_le_mul_right sz hk
 rw[List.drop_zero,List.take_append_of_le_length hb,cel_take (λx hx=>(hE x hx).1) hk]
theorem Zgq.post{w:World}{sz b k:Nat}{T:TypeId}{xs:List El}{rest:List Value}(hw:Has w b T (cel xs++rest))(hE:Els sz xs)(hk:k<=xs.length):Zgq w sz (some ⟨b,0+k*sz,none⟩) (xs.length-k) (xs.drop k):=by
 refine⟨by rw[List.length_drop],λ_=>⟨b,0+k*sz,T,_,rfl,hw,?_⟩⟩;have hlen:=Zbd (n:=sz) λx hx=>(hE x hx).1;have hb:k*sz<=(cel xs).length:=by rw[hlen];exact Nat.mul_le_mul_right sz hk
 have hd:=Zbd (n:=sz) (xs:=xs.drop k) λx hx=>(hE.drop k x hx).1;rw[List.length_drop] at hd;rw[Nat.zero_add,List.drop_append_of_le_length hb,cel_drop (λx hx=>(hE x hx).1) hk,<-hd,List.take_left]
theorem Zgq.nil{w:World}{sz:Nat}{p:Option Addr}:Zgq w sz p 0 []:=⟨rfl,λh=>by omega⟩
section
variable{P:Program}{a:Act}{w:World}{n:Nat}{l:List (Nat × Value)}{K:Value->World->Prop}
variable{d:Option Tmp}{ty:TypeId}{pos:String}{af:Array Edge}{g0:Option (Nat × Bool)}
theorem XC{x y:Operand}{t e:TypeId}{len cap m cap2 sz by_:Nat}{z:Value}{g:Option (Nat × List Value)}{p:Option Addr}{xs ys:List El}{S0 S:Sh}{w0:World}{H:Own}(hx:ev l x=some (.slice (gp g) len cap))(hy:ev l y=some (.slice p m cap2))(ht:P.underlying t=some (.slice e))(hZ:Yy P e=some sz)(hB:Qb P e=some by_)(hz:XT P e=some z)(hzs:z.cells.size=sz)(hG:Gw g len cap sz (cel xs))(hR:Run S0 w0 S (YH g e (cel xs)++H) w)(hP:Zgq w sz p m ys)(hE:Els sz ys)(hlim:(len+m)*by_<=140737488355328)(hlim2:len+m<=140737488355328)(k:∀g' cap' w',Gw g' (len+m) cap' sz (cel (xs++ys))->Run S0 w0 S (YH g' e (cel (xs++ys))++H) w'->K (.slice (gp g') (len+m) cap') w')(a:Act)(hL:ZD a n l):YL P ⟨d,.call ⟨.builtin .append,#[x,y],#[t,t]⟩,ty,pos,af,g0⟩ a w K:=by
 obtain⟨hm,hp⟩:=hP;rcases Nat.eq_zero_or_pos m with h0|h0;subst h0;have hy0:ys=[]:=List.eq_nil_of_length_eq_zero hm.symm;subst hy0;refine Cu hL<|Zcx hx hy ht hZ hG.hc ?_;have:=k g cap w (by rw[List.append_nil];exact hG) (by rw[List.append_nil];exact hR);exact this;obtain⟨b,o,T,cs,rfl,hw,hc⟩:=hp h0;have hl:=Zbd (n:=sz) λx hx=>(hE x hx).1;refine Cu hL<|Xl hx hy ht hZ hB hz hzs hG hR hw hc (by rw[hl,hm]) ?_ h0 hlim hlim2 λg' cap' w' h1 h2=>k g' cap' w' (by rw[Zc1];exact h1) (by rw[Zc1];exact h2);intro v hv;unfold cel at hv;obtain⟨c,hc,hv⟩:=List.mem_flatten.1 hv;obtain⟨q,hq,rfl⟩:=List.mem_map.1 hc;exact(hE q hq).2 v hv
theorem Zbc{t e:TypeId}{x:Operand}{sz:Nat}{z:Value}{us:List Value}{S0 S:Sh}{w0:World}{H:Own}(q:P4)(hx:ev l x=some (.agg us.toArray))(ht:P.underlying t=some (.slice e))(hZ:Yy P e=some sz)(hz:XT P e=some z)(hu:us.length=sz)(hs:0<sz)(hlim:sz<=16777216)(hR:Run S0 w0 S H w)(k:∀b w',Run S0 w0 S ((b,e,cel [(us,q)]++[])::H) w'->K (.slice (some ⟨b,0,none⟩) 1 1) w')(a:Act)(hL:ZD a n l):YL P ⟨d,.buildSlice t 1 #[(0,x)],ty,pos,af,g0⟩ a w K:=by
 refine Cu hL<|Yf (cs:=cel [(us,q)]++[]) ht hZ hz (.cons hx hu (by omega) .nil) [us] (by simp[Zaa,Value.cells]) (by simp[hu]) (by simp[cel]) (by omega) hR k
end
theorem Zgq.all{w:World}{sz b:Nat}{T:TypeId}{xs:List El}{rest:List Value}(hw:Has w b T (cel xs++rest))(hE:Els sz xs):Zgq w sz (some ⟨b,0,none⟩) xs.length xs:=by
 have:=Zgq.pre hw hE (Nat.le_refl _);rwa [List.take_length] at this
end
section
def Fz(S:Sh)(p:Option Addr)(len cap:Nat)(T:TypeId)(xs:List El):Prop:=len=xs.length/\len<=cap/\(0<len->∃b rest,p=some ⟨b,0,none⟩/\Row S b T (cel xs++rest))
theorem Fz.up{S S':Sh}{p:Option Addr}{len cap:Nat}{T:TypeId}{xs:List El}(h:Fz S p len cap T xs)(l:S.le S'):Fz S' p len cap T xs:=⟨h.1,h.2.1,λh0=>let⟨b,rest,e,r⟩:=h.2.2 h0;⟨b,rest,e,r.up l⟩⟩
theorem Fz.row{S:Sh}{p:Option Addr}{len cap:Nat}{T:TypeId}{xs:List El}(h:Fz S p len cap T xs)(h0:0<len):∃b rest,p=some ⟨b,0,none⟩/\Row S b T (cel xs++rest):=h.2.2 h0
theorem Fz.hl{S:Sh}{p:Option Addr}{len cap:Nat}{T:TypeId}{xs:List El}(h:Fz S p len cap T xs):len=xs.length:=h.1
theorem Fz.hc{S:Sh}{p:Option Addr}{len cap:Nat}{T:TypeId}{xs:List El}(h:Fz S p len cap T xs):len<=cap:=h.2.1
theorem Fz.nil(S:Sh)(T:TypeId):Fz S none 0 0 T []:=⟨rfl,Nat.le_refl _,λh=>by omega⟩
theorem Fz.pre{S:Sh}{p:Option Addr}{len cap:Nat}{T:TypeId}{xs:List El}(h:Fz S p len cap T xs){k:Nat}(hk:k<=len):Fz S p k cap T (xs.take k):=by
 refine⟨by rw[List.length_take,<-h.hl];omega,Nat.le_trans hk h.hc,λh0=>?_⟩;obtain⟨b,rest,e,r⟩:=h.row (by omega);refine⟨b,cel (xs.drop k)++rest,e,?_⟩;rw[<-List.append_assoc,<-Zc1,List.take_append_drop];exact r
theorem Run.freezeF{S0 S:Sh}{w0 w:World}(H1:Own){H:Own}{g:Option (Nat × List Value)}{T:TypeId}{xs:List El}{len cap sz:Nat}(h:Run S0 w0 S (H1++(YH g T (cel xs)++H)) w)(hG:Gw g len cap sz (cel xs))(hl:len=xs.length):
    ∃S',S.le S'/\Fz S' (gp g) len cap T xs/\Run S0 w0 S' (H1++H) w:=by
 obtain⟨S',l,r,hR⟩:=h.freezeG H1;refine⟨S',l,⟨hl,hG.hc,λh0=>?_⟩,hR⟩;obtain⟨b,rest,rfl⟩:=hG.some h0;exact⟨b,rest,rfl,r _ rfl⟩
theorem Zgq.preF{S0 S:Sh}{w0 w:World}{H:Own}{p:Option Addr}{len cap sz k:Nat}{T:TypeId}{xs:List El}(hF:Fz S p len cap T xs)(hR:Run S0 w0 S H w)(hE:Els sz xs)(hk:k<=len):Zgq w sz p k (xs.take k):=by
 refine⟨by rw[List.length_take,<-hF.hl];omega,λh0=>?_⟩;obtain⟨b,rest,rfl,r⟩:=hF.row (by omega);exact(Zgq.pre (hR.row r) hE (by rw[<-hF.hl];exact hk)).2 h0
theorem Zgq.allF{S0 S:Sh}{w0 w:World}{H:Own}{p:Option Addr}{len cap sz:Nat}{T:TypeId}{xs:List El}(hF:Fz S p len cap T xs)(hR:Run S0 w0 S H w)(hE:Els sz xs):Zgq w sz p len xs:=by
 have:=Zgq.preF hF hR hE (Nat.le_refl len);rwa [hF.hl,List.take_length,<-hF.hl] at this
def slo(p:Option Addr)(k sz cap:Nat):Option Addr:=if cap=k then p else p.map (·.add (k*sz))
theorem Zgq.postF{S0 S:Sh}{w0 w:World}{H:Own}{p:Option Addr}{len cap sz k:Nat}{T:TypeId}{xs:List El}(hF:Fz S p len cap T xs)(hR:Run S0 w0 S H w)(hE:Els sz xs)(hk:k<=len):Zgq w sz (slo p k sz cap) (len-k) (xs.drop k):=by
 refine⟨by rw[List.length_drop,hF.hl],λh0=>?_⟩;obtain⟨b,rest,rfl,r⟩:=hF.row (by omega);have e:slo (some ⟨b,0,none⟩) k sz cap=some ⟨b,0+k*sz,none⟩:=by have:=hF.hc;unfold slo;rw[if_neg (by omega)];simp only[Option.map_some,Addr.add];by_cases hq:k*sz=0;rw[if_pos hq,hq];rw[if_neg hq]
 rw[e];have:=(Zgq.post (hR.row r) hE (show k<=xs.length by rw[<-hF.hl];exact hk)).2 (by rw[<-hF.hl];exact h0);rwa [<-hF.hl] at this
section
variable{P:Program}{a:Act}{w:World}{n:Nat}{l:List (Nat × Value)}{K:Value->World->Prop}
variable{d:Option Tmp}{ty:TypeId}{pos:String}{af:Array Edge}{g0:Option (Nat × Bool)}
theorem Zhw{t e:TypeId}{x y:Operand}{p:Option Addr}{len cap i sz:Nat}{k1:IntKind}(hx:ev l x=some (.slice p len cap))(hy:ev l y=some (.int k1 i))(ht:P.underlying t=some (.slice e))(hZ:Yy P e=some sz)(h1:i<=len)(k:K (.slice (slo p i sz cap) (len-i) (cap-i)) w)(a:Act)(hL:ZD a n l):YL P ⟨d,.slice t x (some y) none none,ty,pos,af,g0⟩ a w K:=by
 refine Zv (v:=.slice (slo p i sz cap) (len-i) (cap-i)) ?_ k;simp only[execOp,hL.ev hx,Option.map_none,Option.map_some,hL.ev hy,Instr.sliceAt];rw[Zf (w':=w) (a:=(.slice (slo p i sz cap) (len-i) (cap-i):Value))];rfl;rw[Zf (Zq ht)];simp only[Instr.slice];rw[Zf (Zq ht)];simp only[Instr.sliceBounds]
 rw[Zf (w':=w) (a:=(i,len,cap)) (by
   rw[ZE,ZE,Zf (Ye rfl h1)];rfl)]
 simp only[];rw[Zf (Ym hZ)];unfold slo;by_cases h3:cap=i;rw[if_pos h3]
 cases p with
 |none=>rfl
 |some q=>rfl
 rw[if_neg h3]
 cases p with
 |none=>rfl
 |some q=>rfl
end
end
section
section
variable{α:Type}{D:Dom α}{G:Gh}
variable{P:Program}{d:Option Tmp}{ty:TypeId}{pos:String}{af:Array Edge}{g:Option (Nat × Bool)}{a:Act}{w:World}{E:Tr (SV α)}{V:Hp α}{n:Nat}
def app0(V:Hp α)(n:Nat)(x:SV α)(rd:List Nat):Option (Out α):=match x with
  | .sl p len cap=>match Nat.ble len cap with
    |true=>some (outR V n (.sl p len cap) rd)
    |false=>none
  | .gsl id off len d=>some (outR V n (.gsl id off len d) rd)
  |_=>none
def app1(P :Program)(D:Dom α)(V:Hp α)(n lim:Nat)(e:TypeId)(sz by_:Nat)(R2:List (List<|SV α))(m:Nat)(rd:List Nat)(x:SV α):Option (Out α):=match x with
  | .sl none len cap=>match Nat.beq len 0 with
    | true=>match Nat.beq cap 0 with
      | true=>match Nat.ble (Nat.mul (Nat.add 0 m)<|Nat.succ by_) 140737488355328 with
        |true=>some (outN V n (.cells e sz R2 true) (.gsl n 0 (0+m) 0) rd)
        |false=>none
      |false=>none
    |false=>none
  | .sl (some p) len cap=>match Nat.ble (Nat.add len m) cap with
    | true=>match Nat.beq p.2 0 with
      |true=>appIn V n lim p.1 len m sz R2 rd (.sl (some p) (Nat.add len m) cap)
      |false=>none
    | false=>match Nat.ble (Nat.mul (Nat.add len m)<|Nat.succ by_) 140737488355328 with
      | true=>match elems V sz (.sl (some p) len cap) with
        | some (R1,l1,rd1)=>match Nat.beq l1 len with
          |true=>some (outN V n (.cells e sz (appL R1 R2) true) (.gsl n 0 (len+m) 0) (rd1++rd))
          |false=>none
        |none=>none
      |false=>none
  | .gsl id off len d=>match Nat.beq off 0 with
    | true=>match Nat.beq d 0 with
      | true=>match V.at id with
        | some (.cells _ _ rows true)=>match Nat.ble (Nat.add len m) (lenL rows) with
          |true=>appIn V n lim id len m sz R2 rd (.gsl id 0 (Nat.add len m) 0)
          | false=>match Nat.ble (Nat.mul (Nat.add len m)<|Nat.succ by_) 140737488355328 with
            |true=>appK V n lim id len m sz e R2 rd
            |false=>none
        |_=>none
      |false=>none
    |false=>none
  |_=>none
def appendE(P:Program)(D:Dom α)(V:Hp α)(n lim:Nat)(t:TypeId)(x y:SV α):Option (Out α):=match elT P D t with
  | some (e,sz,by_)=>match Nat.ble 1 sz with
    | true=>match elems V sz y with
      | some (R2,m,rd)=>match m with
        |0=>app0 V n x rd
        |k+1=>app1 P D V n lim e sz by_ R2 (k+1) rd x
      |none=>none
    |false=>none
  |none=>none
theorem app1_ok{t e:TypeId}{ox oy:Operand}{lim m sz by_:Nat}{z:Value}{R2:List (List<|SV α)}{rd:List Nat}{x y:SV α}{o:Out α}(h:app1 P D V n lim e sz by_ R2 m rd x=some o)(hT:ElT P t e sz by_ z)(he:elems V sz y=some (R2,m,rd))(hy:At1 D G a oy y)(hm:0<m)(hx:At1 D G a ox x)(hsz:0<sz):Zem V n o/\(∀i∈o.wr,lim<=i)/\MOK P D G V n ⟨d,.call ⟨.builtin .append,#[ox,oy],#[t,t]⟩,ty,pos,af,g⟩ a w o:=by
 have eval_of:∀v,ev (full a) ox=some v->a.eval ox=v:=λv hv=>by have:=hx.ex;rw[hv] at this;simpa using this.symm
 unfold app1 at h;split at h;rename_i len cap;split at h;rename_i h1;split at h;rename_i h2;split at h;rename_i h3;cases h;rw[YY] at h1 h2;subst h1 h2;refine⟨Zgx _ _ _ _ _,λi hi=>by simp[outN] at hi,grow_ok hT (Nat.le_of_ble_eq_true h3) hm λI hI hR=>?_⟩;obtain⟨vs,q,cap2,ey,hvl,hvd,hq⟩:=Zeb he hy.den hI hR;obtain⟨ad,rfl,hnews⟩:=hq.resolve_left (by omega);exact⟨vs,[],vs,none,0,ad,cap2,eval_of _ hx.slN,ey,rfl,hvd,by simp,hvl,hnews,by omega,.inl ⟨rfl,rfl,rfl⟩⟩;cases h;cases h;cases h;rename_i p len cap;split at h;rename_i h1;have h1':len+m<=cap:=Nat.le_of_ble_eq_true h1;split at h;rename_i h2;rw[YY] at h2;refine appIn_ok h hT he hy hm (λb c hb=>?_) hsz;obtain⟨b',c',hb',hev⟩:=hx.sl;rw[hb] at hb';cases hb';rw[h2] at hev;refine⟨cap,eval_of _ hev,λ_ _ _ _ _ _=>⟨h1',?_⟩⟩;have:=Den.sl (D:=D) (G:=G) (i:=p.1) (off:=p.2) (len:=len+m) (cap:=cap) hb;rw[h2] at this;have e:(p.1,0)=p:=by rw[<-h2]
 rw[e] at this;exact this;cases h;rename_i h1;have h1':cap<len+m:=by rcases Nat.lt_or_ge cap (len+m) with h2|h2;exact h2;have:=Nat.ble_eq_true_of_le h2;have h3:Nat.ble (Nat.add len m) cap=true:=this;rw[h3] at h1;cases h1
 split at h;rename_i h2;split at h;rename_i R1 l1 rd1 h3;split at h;rename_i h4;rw[YY] at h4;subst h4;simp only[Option.some.injEq,Zbe] at h;subst h;refine⟨Zgx _ _ _ _ _,λi hi=>by simp[outN] at hi,grow_ok hT (Nat.le_of_ble_eq_true h2) hm λI hI hR=>?_⟩;obtain⟨vs,q,cap2,ey,hvl,hvd,hq⟩:=Zeb he hy.den (λi hi=>hI i (by simp[hi])) hR;obtain⟨ad,rfl,hnews⟩:=hq.resolve_left (by omega);obtain⟨us,q1,cap1,e1,hul,hud,hq1⟩:=Zeb h3 hx.den (λi hi=>hI i (by simp[hi])) hR;have hcap1:cap1=cap:=by obtain⟨b',c',hb',hev⟩:=hx.sl;have:=eval_of _ hev;rw[e1] at this;simpa using congrArg (λv=>match v with|Value.slice _ _ c=>c|_=>0) this
 subst hcap1;rcases hq1 with h0|⟨ad1,rfl,holds⟩;subst h0;have hu0:us=[]:=by simpa using hul
 subst hu0;obtain⟨b',c',hb',hev⟩:=hx.sl;have:=eval_of _ hev;rw[e1] at this;exact⟨[]++vs,[],vs,q1,cap1,ad,cap2,e1,ey,rfl,hud.append hvd,hul,hvl,hnews,h1',.inr ⟨⟨b',p.2,none⟩,by simpa using congrArg (λv=>match v with|Value.slice q _ _=>q|_=>none) this,by simp⟩⟩;exact⟨us++vs,us,vs,_,cap1,ad,cap2,e1,ey,rfl,hud.append hvd,hul,hvl,hnews,h1',.inr ⟨ad1,rfl,holds⟩⟩;cases h;cases h;cases h;rename_i id off len dd;split at h;rename_i h1;rw[YY] at h1;subst h1;split at h;rename_i h2;rw[YY] at h2;subst h2;split at h;rename_i T sz0 rows hv;split at h;rename_i h3;refine appIn_ok h hT he hy hm (λb c hb=>?_) hsz;obtain⟨b',c',hb',hd0,hev⟩:=hx.gsl;rw[hb] at hb';cases hb';rw[Nat.sub_zero] at hev;have h3':len+m<=rows.length:=by have:=Nat.le_of_ble_eq_true h3;rwa [Zd3] at this
 refine⟨c,eval_of _ hev,λT' rows' gr hv' hc hl=>?_⟩;rw[hv] at hv';cases hv';have hc':=hc rfl;refine⟨by omega,?_⟩;have:=Den.gsl (D:=D) (G:=G) (i:=id) (off:=0) (len:=len+m) (d:=0) hb (by omega);simpa using this;split at h;rename_i h4;exact appK_ok h hT he hy hm (Nat.le_of_ble_eq_true h4) hx hsz;cases h;cases h;cases h;cases h;cases h
theorem append_ok{t:TypeId}{ox oy:Operand}{lim:Nat}{x y:SV α}{o:Out α}(h:appendE P D V n lim t x y=some o)(hx:At1 D G a ox x)(hy:At1 D G a oy y):
    Zem V n o/\(∀i∈o.wr,lim<=i)/\MOK P D G V n ⟨d,.call ⟨.builtin .append,#[ox,oy],#[t,t]⟩,ty,pos,af,g⟩ a w o:=by
 unfold appendE at h;split at h;rename_i e sz by_ hel;obtain⟨z,hT⟩:=elT_ok G hel;split at h;rename_i h1;have hsz:0<sz:=Nat.le_of_ble_eq_true h1;split at h;rename_i R2 m rd he;split at h;unfold app0 at h;split at h;rename_i p len cap;split at h;rename_i hle;cases h;refine⟨outR_ok _ _ _ _,λi hi=>by simp[outR] at hi,read_ok λI hI hR K hk=>?_⟩;obtain⟨vs,q,cap2,ey,hvl,hvd,hq⟩:=Zeb he hy.den hI hR;have hden:=hx.den;refine Zdl (w':=w) ?_<|hk _ hden;rw[ey];generalize a.eval ox=u at*
 cases hden with
 |slN=>exact Zgw hT.ht hT.hs (Nat.le_of_ble_eq_true hle)
 |sl _=>exact Zgw hT.ht hT.hs (Nat.le_of_ble_eq_true hle)
 cases h;cases h;refine⟨outR_ok _ _ _ _,λi hi=>by simp[outR] at hi,read_ok λI hI hR K hk=>?_⟩;obtain⟨vs,q,cap2,ey,hvl,hvd,hq⟩:=Zeb he hy.den hI hR;have hden:=hx.den;refine Zdl (w':=w) ?_<|hk _ hden;rw[ey];generalize a.eval ox=u at*
 cases hden with
 |gsl _ hd=>exact Zgw hT.ht hT.hs (by omega)
 cases h;exact app1_ok h hT he hy (Nat.succ_pos _) hx hsz;cases h;cases h;cases h
end
end
section
section
variable{α:Type}{D:Dom α}{G:Gh}
def toP(V:Hp α)(n:Nat)(o:Option (SV α)):Option (Out α):=match o with
  |some c=>some (outP V n c)
  |none=>none
def pickE(E:Tr (SV α))(c x y:Operand):Option (SV α):=match evS E c with
  |some (.bool true)=>evS E x
  |some (.bool false)=>evS E y
  |_=>none
def bin1(P:Program)(D:Dom α)(E:Tr (SV α))(op:BinOp)(t:TypeId)(x y:Operand):Option (SV α):=match evS E x with
  | some u=>match evS E y with
    |some v=>binE P D op t x y u v
    |none=>none
  |none=>none
def un1(f:SV α->Option (SV α))(E:Tr (SV α))(x:Operand):Option (SV α):=match evS E x with
  |some u=>f u
  |none=>none
def two1(f:SV α->SV α->Option (SV α))(E:Tr (SV α))(x y:Operand):Option (SV α):=match evS E x with
  | some u=>match evS E y with
    |some v=>f u v
    |none=>none
  |none=>none
def unO(f:SV α->Option (Out α))(E:Tr (SV α))(x:Operand):Option (Out α):=match evS E x with
  |some u=>f u
  |none=>none
def twoO(f:SV α->SV α->Option (Out α))(E:Tr (SV α))(x y:Operand):Option (Out α):=match evS E x with
  | some u=>match evS E y with
    |some v=>f u v
    |none=>none
  |none=>none
def convO(P:Program)(V:Hp α)(n:Nat)(s t:TypeId)(u:SV α):Option (Out α):=match convE P s t u with
  |some c=>some (outP V n c)
  |none=>none
def Zga(P:Program)(D:Dom α)(lim:Nat)(E:Tr (SV α))(V:Hp α)(n:Nat)(b:Builtin)(xs:List Operand)(ts:List TypeId):Option (Out α):=match xs with
  | [x]=>match ts with
    | [t]=>match b with
      | .len=>toP V n (un1 (lenE P D t) E x)
      |_=>none
    |_=>none
  | [x, y]=>match b with
    | .max=>toP V n (two1 (mmE D true) E x y)
    | .min=>toP V n (two1 (mmE D false) E x y)
    | .append=>match ts with
      | [t,u]=>match Nat.beq t u with
        |true=>twoO (appendE P D V n lim t) E x y
        |false=>none
      |_=>none
    |_=>none
  |_=>none
inductive OpC (α:Type):Type where
  |p (f:Tr (SV α)->Option (SV α))
  |m (f:Nat->Tr (SV α)->Hp α->Nat->Option (Out α))
  |c (fo:Operand) (xs:List Operand)
  |no
def Zh8(P:Program)(D:Dom α)(b:Builtin)(xs:List Operand)(ts:List TypeId):OpC α:=match xs with
  | [x]=>match ts with
    | [t]=>match b with
      | .len=>.p (λE=>un1 (lenE P D t) E x)
      |_=>.no
    |_=>.no
  | [x, y]=>match b with
    | .max=>.p (λE=>two1 (mmE D true) E x y)
    | .min=>.p (λE=>two1 (mmE D false) E x y)
    | .append=>match ts with
      | [t,u]=>match Nat.beq t u with
        |true=>.m (λlim E V n=>twoO (appendE P D V n lim t) E x y)
        |false=>.no
      |_=>.no
    |_=>.no
  |_=>.no
def opC(P:Program)(D:Dom α)(q:Op):OpC α:=match q with
  | .move x=>.p (λE=>evS E x)
  | .assign x=>.p (λE=>evS E x)
  | .pick c x y=>.p (λE=>pickE E c x y)
  | .alloc T=>.m (λ_ _ V n=>allocE P D V n T)
  | .box T x=>.m (λ_ E V n=>unO (boxE D V n T) E x)
  | .build t ps=>.p (λE=>buildE P D E t ps.toList)
  | .buildSlice t m ps=>.m (λ_ E V n=>Zas P D E V n t m ps.toList)
  | .load t x=>.m (λ_ E V n=>unO (loadE P D V n t) E x)
  | .store t x y=>.m (λlim E V n=>twoO (storeE P D V n lim t) E x y)
  | .nilCheck x=>.p (λE=>un1 nilCkE E x)
  | .binOp op t x y _=>.p (λE=>bin1 P D E op t x y)
  | .unOp op _ x=>.p (λE=>un1 (unE P op) E x)
  | .convert s t x=>.m (λ_ E V n=>unO (convO P V n s t) E x)
  | .makeFunc fn fs cs=>.p (λE=>makeFuncE E fn fs.toList cs.toList)
  | .makeSlice t x y=>.m (λ_ E V n=>twoO (Zbw P D V n t) E x y)
  | .slice t x lo hi mx=>.p (λE=>un1 (λu=>sliceE P E t u lo hi mx) E x)
  | .fieldAddr s x i=>.p (λE=>un1 (λu=>fieldAddrE P s u i) E x)
  | .field s x i=>.p (λE=>un1 (λu=>fieldE P D s u i) E x)
  | .indexAddr t x y=>.p (λE=>two1 (indexAddrE P t) E x y)
  | .index t x y=>.p (λE=>two1 (indexE P D t) E x y)
  | .extract x i=>.p (λE=>un1 (λu=>extractE u i) E x)
  | .call c=>match c.callee with
    | .builtin b=>Zh8 P D b c.args.toList c.argTypes.toList
    | .value fo=>.c fo c.args.toList
    |_=>.no
  |_=>.no
def runC(lim:Nat)(E:Tr (SV α))(V:Hp α)(n:Nat)(q:OpC α):Option (Out α):=match q with
  | .p f=>toP V n (f E)
  | .m f=>f lim E V n
  |_=>none
def opE(P:Program)(D:Dom α)(lim:Nat)(E:Tr (SV α))(V:Hp α)(n:Nat)(q:Op):Option (Out α):=runC lim E V n (opC P D q)
variable{P:Program}{d:Option Tmp}{ty:TypeId}{pos:String}{af:Array Edge}{g:Option (Nat × Bool)}{a:Act}{w:World}{E:Tr (SV α)}{V:Hp α}{n:Nat}
def OpOK(P:Program)(D:Dom α)(G:Gh)(V:Hp α)(n lim:Nat)(q:Oper)(a:Act)(w:World)(o:Out α):Prop:=Zem V n o/\(∀i∈o.wr,lim<=i)/\MOK P D G V n q a w o
theorem Zac{lim:Nat}{q:Oper}{c:Option (SV α)}{o:Out α}(h:toP V n c=some o)(k:∀c',c=some c'->POK P D G q a w c'):OpOK P D G V n lim q a w o:=by
 unfold toP at h;split at h;rename_i c';cases h;exact⟨outP_ok _ _ _,λi hi=>by simp[outP] at hi,(k c' rfl).mok⟩;cases h
theorem un1_ok{f:SV α->Option (SV α)}{x:Operand}{c:SV α}{xs:List Operand}(h:un1 f E x=some c)(ho:Has1 D G a E xs)(hx:x∈xs):∃u,f u=some c/\At1 D G a x u:=by
 unfold un1 at h;split at h;rename_i u hu;exact⟨u,h,ho.at_ x hx u hu⟩;cases h
theorem two1_ok{f:SV α->SV α->Option (SV α)}{x y:Operand}{c:SV α}{xs:List Operand}(h:two1 f E x y=some c)(ho:Has1 D G a E xs)(hx:x∈xs)(hy:y∈xs):∃u v,f u v=some c/\At1 D G a x u/\At1 D G a y v:=by
 unfold two1 at h;split at h;rename_i u hu;split at h;rename_i v hv;exact⟨u,v,h,ho.at_ x hx u hu,ho.at_ y hy v hv⟩;cases h;cases h
theorem unO_ok{f:SV α->Option (Out α)}{x:Operand}{c:Out α}{xs:List Operand}(h:unO f E x=some c)(ho:Has1 D G a E xs)(hx:x∈xs):∃u,f u=some c/\At1 D G a x u:=by
 unfold unO at h;split at h;rename_i u hu;exact⟨u,h,ho.at_ x hx u hu⟩;cases h
theorem twoO_ok{f:SV α->SV α->Option (Out α)}{x y:Operand}{c:Out α}{xs:List Operand}(h:twoO f E x y=some c)(ho:Has1 D G a E xs)(hx:x∈xs)(hy:y∈xs):∃u v,f u v=some c/\At1 D G a x u/\At1 D G a y v:=by
 unfold twoO at h;split at h;rename_i u hu;split at h;rename_i v hv;exact⟨u,v,h,ho.at_ x hx u hu,ho.at_ y hy v hv⟩;cases h;cases h
theorem OpOK.of{lim:Nat}{q:Oper}{o:Out α}(h:Zem V n o/\MOK P D G V n q a w o)(hw:o.wr=[]):OpOK P D G V n lim q a w o:=⟨h.1,λi hi=>by simp[hw] at hi,h.2⟩
theorem builtinE_ok{lim:Nat}{b:Builtin}{xs:Array Operand}{ts:Array TypeId}{o:Out α}(h:Zga P D lim E V n b xs.toList ts.toList=some o)(ho:Has1 D G a E xs.toList):OpOK P D G V n lim ⟨d,.call ⟨.builtin b,xs,ts⟩,ty,pos,af,g⟩ a w o:=by
 obtain⟨xs⟩:=xs;obtain⟨ts⟩:=ts;unfold Zga at h;simp only at h ho;split at h;split at h;split at h;refine Zac h λc hc=>?_;obtain⟨u,h1,h2⟩:=un1_ok hc ho (by simp);exact len_ok h1 ho.defers h2;cases h;cases h;split at h;refine Zac h λc hc=>?_;obtain⟨u,v,h1,h2,h3⟩:=two1_ok hc ho (by simp) (by simp);exact max_ok h1 ho.defers h2 h3;refine Zac h λc hc=>?_;obtain⟨u,v,h1,h2,h3⟩:=two1_ok hc ho (by simp) (by simp);exact min_ok h1 ho.defers h2 h3;split at h;split at h;rename_i htu;rw[YY] at htu;subst htu;obtain⟨u,v,h1,h2,h3⟩:=twoO_ok h ho (by simp) (by simp);exact append_ok h1 h2 h3;cases h;cases h;cases h;cases h
theorem builtinC_eq(P:Program)(D:Dom α)(lim:Nat)(E:Tr (SV α))(V:Hp α)(n:Nat)(b:Builtin)(xs:List Operand)(ts:List TypeId){o:Out α}(h:runC lim E V n (Zh8 P D b xs ts)=some o):Zga P D lim E V n b xs ts=some o:=by
 unfold Zh8 at h;unfold Zga;repeat' split at h
 all_goals first|(cases h;done)|exact h|(rename_i h1;simp only[h1];exact h)
theorem opE_ok{lim:Nat}{q:Op}{o:Out α}(h:opE P D lim E V n q=some o)(ho:Has1 D G a E q.operands.toList):OpOK P D G V n lim ⟨d,q,ty,pos,af,g⟩ a w o:=by
 have hd:=ho.defers;unfold opE at h
 cases q with
 | move x=>
   simp only[opC,runC] at h
   exact Zac h λc hc=>move_ok hd (ho.at_ _ (by simp[Op.operands]) c hc)
 | assign x=>
   simp only[opC,runC] at h
   exact Zac h λc hc=>assign_ok hd (ho.at_ _ (by simp[Op.operands]) c hc)
 | pick c x y=>
   simp only[opC,runC] at h
   refine Zac h λc hc=>?_
   unfold pickE at hc
   split at hc
   · rename_i h1
     exact pick_ok (b:=true) hd (ho.at_ _ (by simp[Op.operands]) _ h1) (ho.at_ _ (by simp[Op.operands]) c hc)
   · rename_i h1
     exact pick_ok (b:=false) hd (ho.at_ _ (by simp[Op.operands]) _ h1) (ho.at_ _ (by simp[Op.operands]) c hc)
   · cases hc
 | alloc T=>
   simp only[opC,runC] at h
   refine OpOK.of (alloc_ok h) ?_
   unfold allocE at h
   split at h
   · split at h
     · cases h;rfl
     · cases h
   · cases h
 | box T x=>
   simp only[opC,runC] at h
   obtain⟨u,h1,h2⟩:=unO_ok h ho (by simp[Op.operands])
   refine OpOK.of (box_ok h1 h2) ?_
   unfold boxE at h1
   split at h1
   · cases h1;rfl
   · cases h1
 | build t ps=>
   simp only[opC,runC] at h
   exact Zac h λc hc=>build_ok hc (ho.sub (by simp[Op.operands]))
 | buildSlice t m ps=>
   simp only[opC,runC] at h
   refine OpOK.of (buildSlice_ok h<|ho.sub (by simp[Op.operands])) ?_
   unfold Zas at h
   repeat' split at h
   all_goals first|(cases h;done)|(cases h;rfl)
 | load t x=>
   simp only[opC,runC] at h
   obtain⟨u,h1,h2⟩:=unO_ok h ho (by simp[Op.operands])
   refine OpOK.of (load_ok h1 hd h2) ?_
   unfold loadE at h1
   repeat' split at h1
   all_goals first|(cases h1;done)|(cases h1;rfl)
 | store t x y=>
   simp only[opC,runC] at h
   obtain⟨u,v,h1,h2,h3⟩:=twoO_ok h ho (by simp[Op.operands]) (by simp[Op.operands])
   exact store_ok h1 h2 h3
 | nilCheck x=>
   simp only[opC,runC] at h
   refine Zac h λc hc=>?_
   obtain⟨u,h1,h2⟩:=un1_ok hc ho (by simp[Op.operands])
   exact nilCkE_ok h1 h2
 | binOp op t x y u=>
   simp only[opC,runC] at h
   refine Zac h λc hc=>?_
   unfold bin1 at hc
   split at hc
   · rename_i u hu
     split at hc
     · rename_i v hv
       exact binE_ok hc hd (ho.at_ _ (by simp[Op.operands]) u hu) (ho.at_ _ (by simp[Op.operands]) v hv)
     · cases hc
   · cases hc
 | unOp op t x=>
   simp only[opC,runC] at h
   refine Zac h λc hc=>?_
   obtain⟨u,h1,h2⟩:=un1_ok hc ho (by simp[Op.operands])
   exact unE_ok h1 hd h2
 | convert s t x=>
   simp only[opC,runC] at h
   obtain⟨u,h1,h2⟩:=unO_ok h ho (by simp[Op.operands])
   unfold convO at h1
   split at h1
   · rename_i c hc
     exact Zac (c:=some c) h1 λc' hc'=>by cases hc';exact convE_ok hc h2
   · cases h1
 | makeFunc fn fs cs=>
   simp only[opC,runC] at h
   exact Zac h λc hc=>makeFunc_ok hc (ho.sub (by intro y hy;simp[Op.operands];exact .inl (by simpa using hy))) (ho.sub (by intro y hy;simp[Op.operands];exact .inr (by simpa using hy)))
 | makeSlice t x y=>
   simp only[opC,runC] at h
   obtain⟨u,v,h1,h2,h3⟩:=twoO_ok h ho (by simp[Op.operands]) (by simp[Op.operands])
   refine OpOK.of (makeSlice_ok h1 h2 h3) ?_
   unfold Zbw at h1
   repeat' split at h1
   all_goals first|(cases h1;done)|(cases h1;rfl)
 | slice t x lo hi mx=>
   simp only[opC,runC] at h
   refine Zac h λc hc=>?_
   obtain⟨u,h1,h2⟩:=un1_ok hc ho (by simp[Op.operands])
   exact slice_ok h1 h2 (λy hy c hc=>ho.at_ y (by simp[Op.operands,hy]) c hc) (λy hy c hc=>ho.at_ y (by simp[Op.operands,hy]) c hc) (λy hy c hc=>ho.at_ y (by simp[Op.operands,hy]) c hc)
 | fieldAddr s x i=>
   simp only[opC,runC] at h
   refine Zac h λc hc=>?_
   obtain⟨u,h1,h2⟩:=un1_ok hc ho (by simp[Op.operands])
   exact fieldAddr_ok h1 hd h2
 | field s x i=>
   simp only[opC,runC] at h
   refine Zac h λc hc=>?_
   obtain⟨u,h1,h2⟩:=un1_ok hc ho (by simp[Op.operands])
   exact field_ok h1 hd h2
 | indexAddr t x y=>
   simp only[opC,runC] at h
   refine Zac h λc hc=>?_
   obtain⟨u,v,h1,h2,h3⟩:=two1_ok hc ho (by simp[Op.operands]) (by simp[Op.operands])
   exact indexAddr_ok h1 hd h2 h3
 | index t x y=>
   simp only[opC,runC] at h
   refine Zac h λc hc=>?_
   obtain⟨u,v,h1,h2,h3⟩:=two1_ok hc ho (by simp[Op.operands]) (by simp[Op.operands])
   exact index_ok h1 hd h2 h3
 | extract x i=>
   simp only[opC,runC] at h
   refine Zac h λc hc=>?_
   obtain⟨u,h1,h2⟩:=un1_ok hc ho (by simp[Op.operands])
   exact extract_ok h1 hd h2
 | call c=>
   simp only[opC,runC] at h
   obtain⟨callee,xs,ts⟩:=c
   cases callee with
   |value fo=>cases h
   |invoke r mth=>cases h
   |builtin b=>exact builtinE_ok (builtinC_eq P D lim E V n b _ _ h) (ho.sub (by intro y hy;simp[Op.operands,Call.operands];simpa using hy))
 |_=>cases h
end
end
section
section
variable{α:Type}{D:Dom α}{P:Program}{E:Tr (SV α)}{V:Hp α}{n lim:Nat}{o:Out α}
def StO(V:Hp α)(n lim:Nat)(o:Out α):Prop:=Zem V n o/\∀i∈o.wr,lim<=i
theorem stP{c:SV α}:StO V n lim (outP V n c):=⟨outP_ok _ _ _,λi hi=>by simp[outP] at hi⟩
theorem stN{ob:Ob α}{c:SV α}{rd:List Nat}:StO V n lim (outN V n ob c rd):=⟨Zgx _ _ _ _ _,λi hi=>by simp[outN] at hi⟩
theorem stR{c:SV α}{rd:List Nat}:StO V n lim (outR V n c rd):=⟨outR_ok _ _ _ _,λi hi=>by simp[outR] at hi⟩
theorem stW{i:Nat}{o0 ob:Ob α}{r:Option (SV α)}{rd:List Nat}(hl:Nat.ble lim i=true)(hv:V.at i=some o0):StO V n lim (outW V n i ob r rd):=⟨outW_ok hv _ _ _,λj hj=>by simp[outW] at hj;subst hj;exact Nat.le_of_ble_eq_true hl⟩
theorem st_toP{c:Option (SV α)}(h:toP V n c=some o):StO V n lim o:=by
 unfold toP at h;split at h;cases h;exact stP;cases h
theorem st_alloc{T:TypeId}(h:allocE P D V n T=some o):StO V n lim o:=by
 unfold allocE at h;repeat' split at h
 all_goals first|(cases h;done)|(cases h;exact stN)
theorem st_box{T:TypeId}{x:SV α}(h:boxE D V n T x=some o):StO V n lim o:=by
 unfold boxE at h;repeat' split at h
 all_goals first|(cases h;done)|(cases h;exact stN)
theorem st_buildSlice{t:TypeId}{m:Nat}{ps:List (Nat × Operand)}(h:Zas P D E V n t m ps=some o):StO V n lim o:=by
 unfold Zas at h;repeat' split at h
 all_goals first|(cases h;done)|(cases h;exact stN)
theorem st_makeSlice{t:TypeId}{x y:SV α}(h:Zbw P D V n t x y=some o):StO V n lim o:=by
 unfold Zbw at h;repeat' split at h
 all_goals first|(cases h;done)|(cases h;exact stN)
theorem st_load{t:TypeId}{x:SV α}(h:loadE P D V n t x=some o):StO V n lim o:=by
 unfold loadE at h;repeat' split at h
 all_goals first|(cases h;done)|(cases h;exact stR)
theorem st_store{t:TypeId}{x y:SV α}(h:storeE P D V n lim t x y=some o):StO V n lim o:=by
 unfold storeE at h;split at h
 · split at h
   · rename_i hl
     split at h
     · rename_i hv
       repeat' split at h
       all_goals first|(cases h;done)|(cases h;exact stW hl hv)
     · cases h
   · cases h
 cases h
theorem st_conv{t u:TypeId}{x:SV α}(h:convO P V n t u x=some o):StO V n lim o:=by
 unfold convO at h;split at h;cases h;exact stP;cases h
theorem st_appIn{id len m sz:Nat}{R2:List (List<|SV α)}{rd:List Nat}{r:SV α}(h:appIn V n lim id len m sz R2 rd r=some o):StO V n lim o:=by
 unfold appIn at h;split at h
 · rename_i hl
   split at h
   · rename_i hv
     repeat' split at h
     all_goals first|(cases h;done)|(cases h;exact stW hl hv)
   · cases h
 cases h
theorem st_appK{id len m sz:Nat}{e:TypeId}{R2:List (List<|SV α)}{rd:List Nat}(h:appK V n lim id len m sz e R2 rd=some o):StO V n lim o:=by
 unfold appK at h;split at h
 · rename_i hl
   split at h
   · rename_i hv
     repeat' split at h
     all_goals first|(cases h;done)|skip
     cases h
     refine⟨⟨Nat.le_succ _,λi hi hi2=>?_,λi hi=>by simp at hi;subst hi;exact⟨_,hv⟩⟩,λi hi=>by simp at hi;subst hi;exact Nat.le_of_ble_eq_true hl⟩
     show((V.put id none).put n _).at i=V.at i
     rw[Tr.at_put_ne,Tr.at_put_ne]
     · intro x;subst x;exact hi (by simp)
     · intro x;subst x;exact hi2 ⟨Nat.le_refl _,Nat.lt_succ_self _⟩
   · cases h
 cases h
theorem st_append{t:TypeId}{x y:SV α}(h:appendE P D V n lim t x y=some o):StO V n lim o:=by
 unfold appendE at h;repeat' split at h
 all_goals first|(cases h;done)|skip
 · unfold app0 at h
   repeat' split at h
   all_goals first|(cases h;done)|(cases h;exact stR)
 · unfold app1 at h
   repeat' split at h
   all_goals first|(cases h;done)|exact st_appIn h|exact st_appK h|(cases h;exact stN)
theorem st_unO{f:SV α->Option (Out α)}{x:Operand}(h:unO f E x=some o)(k:∀u,f u=some o->StO V n lim o):StO V n lim o:=by
 unfold unO at h;split at h;exact k _ h;cases h
theorem st_twoO{f:SV α->SV α->Option (Out α)}{x y:Operand}(h:twoO f E x y=some o)(k:∀u v,f u v=some o->StO V n lim o):StO V n lim o:=by
 unfold twoO at h;split at h;split at h;exact k _ _ h;cases h;cases h
theorem st_builtin{b:Builtin}{xs:List Operand}{ts:List TypeId}(h:Zga P D lim E V n b xs ts=some o):StO V n lim o:=by
 unfold Zga at h;repeat' split at h
 all_goals first|(cases h;done)|exact st_toP h|exact st_twoO h λu v h=>st_append h
theorem st_op{q:Op}(h:opE P D lim E V n q=some o):StO V n lim o:=by
 unfold opE at h;cases q <;> (try simp only[opC,runC] at h)
 all_goals first
   |exact st_toP h
   |exact st_alloc h
   |exact st_unO h λu h=>st_box h
   |exact st_buildSlice h
   |exact st_unO h λu h=>st_load h
   |exact st_twoO h λu v h=>st_store h
   |exact st_unO h λu h=>st_conv h
   |exact st_twoO h λu v h=>st_makeSlice h
   |(cases h;done)
   |skip
 rename_i c;obtain⟨callee,xs,ts⟩:=c
 cases callee with
 |value fo=>cases h
 |invoke r mth=>cases h
 |builtin b=>exact st_builtin<|builtinC_eq P D lim E V n b _ _ h
end
end
section
section
variable{α:Type}{D:Dom α}{G:Gh}{P:Program}
def Zcl(P:Program)(f:FuncId)(vs:List Value)(w:World)(K:Value->World->Prop):Prop:=
  (ZR P f=true/\Calls P f vs.toArray w λe w'=>∃v,e= .returned v/\K v w')\/∃v w',(callFunc f vs.toArray).run P w= .ok (.value v) w'/\K v w'
theorem Zcl.mono{f:FuncId}{vs:List Value}{w:World}{K K':Value->World->Prop}(h:Zcl P f vs w K)(k:∀v w',K v w'->K' v w'):Zcl P f vs w K':=by
 rcases h with⟨h1,h2⟩|⟨v,w',h1,h2⟩;exact .inl ⟨h1,Calls.mono h2 λe w' ⟨v,he,hv⟩=>⟨v,he,k v w' hv⟩⟩;exact .inr ⟨v,w',h1,k v w' h2⟩
theorem does_callV{a:Act}{w:World}{n:Nat}{l:List (Nat × Value)}{K:Value->World->Prop}{d:Option Tmp}{ty:TypeId}{pos:String}{af:Array Edge}{g:Option (Nat × Bool)}{fo:Operand}{xs:Array Operand}{ts:Array TypeId}{f:FuncId}{vs fs cs:List Value}(hL:ZD a n l)(hf:ev l fo=some (.func (.func f) fs.toArray cs.toArray))(hv:evs l xs.toList=some vs)(h:Zcl P f (fs++(vs++cs)) w K):YL P ⟨d,.call ⟨.value fo,xs,ts⟩,ty,pos,af,g⟩ a w K:=by
 rw[<-List.append_assoc] at h;rcases h with⟨h1,h2⟩|⟨v,w',h1,h2⟩;exact Cu hL<|does_callR hf hv h1 h2 λe w' he=>he;refine Zv (v:=v) (w':=w') ?_ h2;have e1:xs.map a.eval=vs.toArray:=by rw[<-hL.evs hv,<-Array.toList_map]
 simp only[execOp,resolve,hL.ev hf,e1,Deferred.ofValue,ZE,invoke];rw[<-h1];congr 2;simp
structure CR(α:Type) where
  r:SV α
  V:Hp α
  n:Nat
abbrev Za8(α:Type):=Nat->FuncId->List (SV α)->Hp α->Nat->Option (CR α)
structure Stat(lim:Nat)(V:Hp α)(n:Nat)(V':Hp α)(n':Nat):Prop where
  le:n<=n'
  old:∀i,i<lim->V'.at i=V.at i
  dom:∀i,n'<=i->V'.at i=none
theorem Stat.trans{lim n n' n'':Nat}{V V' V'':Hp α}(h:Stat lim V n V' n')(k:Stat lim V' n' V'' n''):Stat lim V n V'' n'':=⟨Nat.le_trans h.le k.le,λi hi=>(k.old i hi).trans (h.old i hi),k.dom⟩
abbrev Lw(lim n':Nat):Nat->Prop:=λi=>lim<=i/\i<n'
abbrev All:Nat->Prop:=λ_=>True
def Zen(G:Gh)(n n':Nat):Prop:=∀i,n<=i->i<n'->G.blk i=none
def Zep(P:Program)(D:Dom α)(cf:Za8 α):Prop:=∀lim f args V n o,cf lim f args V n=some o->lim<=n->(∀i,n<=i->V.at i=none)->
  Stat lim V n o.V o.n/\∀G w vs,QB D G args vs->Qf D G All V w->Zen G n o.n->
    Zcl P f vs w λv w'=>∃G',Fra G w G' w' (Lw lim o.n) n o.n/\Den D G' o.r v/\Qf D G' All o.V w'
def callE(cf:Za8 α)(lim:Nat)(E:Tr (SV α))(V:Hp α)(n:Nat)(fo:Operand)(xs:List Operand):Option (Out α):=match evS E fo with
  | some (.fn f fs cs)=>match evSs E xs with
    | some vs=>match cf lim f (appL fs<|appL vs cs) V n with
      |some o=>some ⟨some o.r,o.V,o.n,[],[]⟩
      |none=>none
    |none=>none
  |_=>none
def doC(cf:Za8 α)(lim:Nat)(E:Tr (SV α))(V:Hp α)(n:Nat)(q:OpC α):Option (Out α):=match q with
  | .p f=>toP V n (f E)
  | .m f=>f lim E V n
  | .c fo xs=>callE cf lim E V n fo xs
  | .no=>none
def doE(P:Program)(D:Dom α)(cf:Za8 α)(lim:Nat)(E:Tr (SV α))(V:Hp α)(n:Nat)(q:Op):Option (Out α):=doC cf lim E V n (opC P D q)
theorem doE_cases{cf:Za8 α}{lim:Nat}{E:Tr (SV α)}{V:Hp α}{n:Nat}{q:Op}{o:Out α}(h:doE P D cf lim E V n q=some o):
    (∃fo xs ts,q= .call ⟨.value fo,xs,ts⟩/\callE cf lim E V n fo xs.toList=some o)\/((∀fo xs ts,q≠.call ⟨.value fo,xs,ts⟩)/\opE P D lim E V n q=some o):=by
 have key:(∀fo xs,opC P D q≠.c fo xs)->opE P D lim E V n q=some o:=by
   intro hn
   unfold doE doC at h
   unfold opE runC
   cases hq:opC P D q with
   |p f=>rw[hq] at h;exact h
   |m f=>rw[hq] at h;exact h
   |c fo xs=>exact absurd hq (hn fo xs)
   |no=>rw[hq] at h;cases h
 have bu:∀(b:Builtin)(xs:List Operand)(ts:List TypeId) fo ys,Zh8 P D b xs ts≠.c fo ys:=by
  intro b xs ts fo ys;unfold Zh8;repeat' split
  all_goals simp
 cases q with
 | call c=>
   obtain⟨callee,xs,ts⟩:=c
   cases callee with
   |value fo=>exact .inl ⟨fo,xs,ts,rfl,h⟩
   |invoke r mth=>exact .inr ⟨λ_ _ _=>by simp,key λ_ _=>by simp[opC]⟩
   |builtin b=>exact .inr ⟨λ_ _ _=>by simp,key λfo ys=>by simp only[opC];exact bu b _ _ fo ys⟩
 |_=>exact .inr ⟨λ_ _ _=>by simp,key λ_ _=>by simp[opC]⟩
theorem QB.append{cs ds:List (SV α)}{vs us:List Value}(h:QB D G cs vs)(k:QB D G ds us):QB D G (cs++ds) (vs++us):=by
 induction cs generalizing vs with
 |nil=>cases h;exact k
 |cons x r ih=>cases h with|cons h hs=>exact .cons h (ih hs)
structure Good(D:Dom α)(lim:Nat)(n:Nat)(o:Out α)(G:Gh)(w:World)(v:Value)(w':World)(G':Gh):Prop where
  fr:Fra G w G' w' (Lw lim o.n) n o.n
  den:∀c,o.r=some c->Den D G' c v
  rep:Qf D G' All o.V w'
def DoOK(P:Program)(D:Dom α)(lim:Nat)(E:Tr (SV α))(V:Hp α)(n:Nat)(q:Op)(o:Out α):Prop:=
  Stat lim V n o.V o.n/\∀(d:Option Tmp)(ty:TypeId)(pos:String)(af:Array Edge)(g:Option (Nat × Bool)) G a w,Has1 D G a E q.operands.toList->Qf D G All V w->Zen G n o.n->
    ∀K:Value->World->Prop,(∀v w' G',Good D lim n o G w v w' G'->K v w')->YL P ⟨d,q,ty,pos,af,g⟩ a w K
theorem Tr.lt{V:Hp α}{n i:Nat}{x:Ob α}(hd:∀i,n<=i->V.at i=none)(h:V.at i=some x):i<n:=by
 rcases Nat.lt_or_ge i n with h1|h1;exact h1;rw[hd i h1] at h;cases h
theorem opE_do{lim:Nat}{E:Tr (SV α)}{V:Hp α}{n:Nat}{q:Op}{o:Out α}(h:opE P D lim E V n q=some o)(hl:lim<=n)(hd:∀i,n<=i->V.at i=none):DoOK P D lim E V n q o:=by
 obtain⟨h1,h2⟩:=st_op h;refine⟨⟨h1.le,λi hi=>h1.ag i (λx=>by have:=h2 i x;omega) (by omega),λi hi=>?_⟩,λd ty pos af g G a w hH hR hf K hk=>?_⟩;rw[h1.ag i (λx=>?_) (by omega)];exact hd i<|Nat.le_trans h1.le hi;obtain⟨y,hy⟩:=h1.wr i x;have:=Tr.lt hd hy;have:=h1.le;omega;obtain⟨_,_,h3⟩:=opE_ok (P:=P) (d:=d) (ty:=ty) (pos:=pos) (af:=af) (g:=g) (w:=w) h hH;refine h3 All (λ_ _=>trivial) (λ_ _=>trivial) hR hf K λv w' G' f1 f2 f3=>hk v w' G' ⟨?_,f2,?_⟩;refine f1.mono (λi hi=>⟨h2 i hi,?_⟩) (Nat.le_refl _)<|Nat.le_refl _;obtain⟨y,hy⟩:=h1.wr i hi;have:=Tr.lt hd hy;have:=h1.le;omega;have:=hR.step f1 (λ_ _=>trivial) h1.wr (λi=>h1.ag i) f3 hf;exact this.sub λ_ _=>.inl trivial
theorem doE_do{cf:Za8 α}(hc:Zep P D cf){lim:Nat}{E:Tr (SV α)}{V:Hp α}{n:Nat}{q:Op}{o:Out α}(h:doE P D cf lim E V n q=some o)(hl:lim<=n)(hd:∀i,n<=i->V.at i=none):DoOK P D lim E V n q o:=by
 rcases doE_cases h with⟨fo,xs,ts,rfl,h'⟩|⟨_,h'⟩;have h:=h';refine id ?_;unfold callE at h;split at h;rename_i f fs cs hf;split at h;rename_i vs hvs;split at h;rename_i r hr;cases h;rw[Zbe,Zbe] at hr;obtain⟨h1,h2⟩:=hc lim f _ V n r hr hl hd;refine⟨h1,λd ty pos af g G a w hH hR hfr K hk=>?_⟩;have hfo:=hH.at_ fo (by simp[Op.operands,Call.operands]) _ hf;have hxs:=(hH.sub (ys:=xs.toList) (λy hy=>by simp[Op.operands,Call.operands];exact .inr (by simpa using hy))).many hvs;have hden:=hfo.den;have hex:=hfo.ex;generalize a.eval fo=u at hden hex
 cases hden with
 | @fn _ _ _ us ws hu hw=>
   refine does_callV (ZD.full hH.defers) hex hxs.1 ?_
   refine(h2 G w _ (hu.append<|hxs.2.append hw) hR hfr).mono λv w' ⟨G',k1,k2,k3⟩=>hk v w' G' ⟨k1,λc hc=>by cases hc;exact k2,k3⟩
 cases h;cases h;cases h;exact opE_do h' hl hd
structure R3(α:Type) where
  E:Tr (SV α)
  V:Hp α
  n:Nat
def Zbk(nt:Nat)(E:Tr (SV α))(d:Option Tmp)(r:Option (SV α))(V:Hp α)(n:Nat):Option (R3 α):=match d with
  |none=>some ⟨E,V,n⟩
  | some t=>match Nat.blt t nt with
    |true=>some ⟨E.put t r,V,n⟩
    |false=>none
def Zfg(ops:Array Oper)(E:Tr (SV α))(g:Option (Nat × Bool)):Option Bool:=match g with
  |none=>some true
  | some p=>match (ops[p.1]?).bind (·.dst) with
    | some e=>match E.at e with
      | some (.bool b)=>match p.2 with
        |true=>some b
        |false=>some (!b)
      |some (.tup _)=>some false
      |_=>none
    |none=>none
def stepE(P:Program)(D:Dom α)(cf:Za8 α)(lim nt:Nat)(ops:Array Oper)(E:Tr (SV α))(V:Hp α)(n:Nat)(o:Oper):Option (R3 α):=match Zfg ops E o.guard with
  | some true=>match doE P D cf lim E V n o.op with
    |some r=>Zbk nt E o.dst r.r r.V r.n
    |none=>none
  |some false=>Zbk nt E o.dst (some<|.tup []) V n
  |none=>none
def seqE(P:Program)(D:Dom α)(cf:Za8 α)(lim nt:Nat)(ops:Array Oper)(l:List Oper):Tr (SV α)->Hp α->Nat->Option (R3 α):=
  List.rec (λE V n=>some ⟨E,V,n⟩) (λo _ ih E V n=>Option.rec none (λs=>ih s.E s.V s.n)<|stepE P D cf lim nt ops E V n o) l
theorem seqE_nil{cf:Za8 α}{lim nt:Nat}{ops:Array Oper}(E:Tr (SV α))(V:Hp α)(n:Nat):seqE P D cf lim nt ops [] E V n=some ⟨E,V,n⟩:=rfl
theorem seqE_cons{cf:Za8 α}{lim nt:Nat}{ops:Array Oper}(o:Oper)(r:List Oper)(E:Tr (SV α))(V:Hp α)(n:Nat):seqE P D cf lim nt ops (o::r) E V n=match stepE P D cf lim nt ops E V n o with
    |some s=>seqE P D cf lim nt ops r s.E s.V s.n
    |none=>none:=by
 show Option.rec (motive:=λ_=>Option<|R3 α) none (λs=>seqE P D cf lim nt ops r s.E s.V s.n) (stepE P D cf lim nt ops E V n o)=_;cases stepE P D cf lim nt ops E V n o <;> rfl
theorem guardE_ok{nt:Nat}{a:Act}{E:Tr (SV α)}{ops:Array Oper}{o:Oper}{b:Bool}(hL:Za7 D G nt a E)(h:Zfg ops E o.guard=some b):Region.wanted o (yielded ops a.tmps)=b:=by
 unfold Zfg at h;unfold Region.wanted;split at h;rename_i hg;rw[hg];simpa using h;rename_i p hg;rw[hg];split at h;rename_i e he;split at h;rename_i c hc;obtain⟨v,h1,h2⟩:=hL.at_ e _ hc;cases h2;simp only[yielded,he,h1,Option.bind_some];split at h <;> rename_i hp <;> simp only[Option.some.injEq] at h <;> subst h <;> rw[hp] <;> cases c <;> rfl;rename_i L hc;obtain⟨v,h1,h2⟩:=hL.at_ e _ hc;cases h2;cases h;simp[yielded,he,h1];cases h;cases h
structure Zfo(D:Dom α)(lim nt:Nat)(n:Nat)(s:R3 α)(G:Gh)(w:World)(a':Act)(w':World)(G':Gh):Prop where
  fr:Fra G w G' w' (Lw lim s.n) n s.n
  live:Za7 D G' nt a' s.E
  rep:Qf D G' All s.V w'
theorem QC{nt:Nat}{E:Tr (SV α)}{d:Option Tmp}{r:Option (SV α)}{V:Hp α}{n:Nat}{s:R3 α}(h:Zbk nt E d r V n=some s):s.V=V/\s.n=n:=by
 unfold Zbk at h;split at h;cases h;exact⟨rfl,rfl⟩;split at h;cases h;exact⟨rfl,rfl⟩;cases h
theorem putDst_live{nt:Nat}{E:Tr (SV α)}{d:Option Tmp}{r:Option (SV α)}{V:Hp α}{n:Nat}{s:R3 α}{a:Act}{v:Value}(h:Zbk nt E d r V n=some s)(hL:Za7 D G nt a E)(hv:∀c,r=some c->Den D G c v):Za7 D G nt (a.put d v) s.E:=by
 unfold Zbk at h;split at h;cases h;exact hL;split at h;rename_i hb;cases h;exact hL.put hb hv;cases h
theorem stepE_stat{cf:Za8 α}(hc:Zep P D cf){lim nt n:Nat}{ops:Array Oper}{E:Tr (SV α)}{V:Hp α}{o:Oper}{s:R3 α}(h:stepE P D cf lim nt ops E V n o=some s)(hl:lim<=n)(hd:∀i,n<=i->V.at i=none):Stat lim V n s.V s.n:=by
 unfold stepE at h;split at h;split at h;rename_i r hr;obtain⟨e1,e2⟩:=QC h;rw[e1,e2];exact(doE_do hc hr hl hd).1;cases h;obtain⟨e1,e2⟩:=QC h;rw[e1,e2];exact⟨Nat.le_refl _,λ_ _=>rfl,hd⟩;cases h
theorem seqE_ok{cf:Za8 α}(hc:Zep P D cf){lim nt:Nat}{ops:Array Oper}:∀(l:List Oper)(E:Tr (SV α))(V:Hp α)(n:Nat)(s:R3 α),seqE P D cf lim nt ops l E V n=some s->lim<=n->(∀i,n<=i->V.at i=none)->
    Stat lim V n s.V s.n/\∀G a w,Za7 D G nt a E->Qf D G All V w->Zen G n s.n->∀Q:Exit->Act->World->Prop,(∀a' w' G',Zfo D lim nt n s G w a' w' G'->Q .normal a' w')->YA P ops Q l a w
  | [],E,V,n,s,h,hl,hd=>by
    rw[seqE_nil] at h;cases h
    exact⟨⟨Nat.le_refl _,λ_ _=>rfl,hd⟩,λG a w hL hR hf Q hq=>hq a w G ⟨.refl _ _ _ _ _,hL,hR⟩⟩
  | o :: r, E,V,n,s,h,hl,hd=>by
    rw[seqE_cons] at h
    split at h
    · rename_i m hm
      have hst:=stepE_stat hc hm hl hd
      obtain⟨h1,h2⟩:=seqE_ok hc r m.E m.V m.n s h (Nat.le_trans hl hst.le) hst.dom
      refine⟨hst.trans h1,λG a w hL hR hf Q hq=>?_⟩
      have hf1:Zen G n m.n:=λi a b=>hf i a (Nat.lt_of_lt_of_le b h1.le)
      have next:∀(a':Act)(w':World)(G':Gh),Za7 D G' nt a' m.E->Qf D G' All m.V w'->Fra G w G' w' (Lw lim m.n) n m.n->YA P ops Q r a' w':=by
        intro a' w' G' hL' hR' hF
        refine h2 G' a' w' hL' hR' (λi x y=>?_) Q λa2 w2 G2 hg=>hq a2 w2 G2 ⟨?_,hg.live,hg.rep⟩
        · cases hb:G'.blk i with
          |none=>rfl
          | some z=>
            rcases hF.gb i z hb with h5|⟨h5,_⟩
            · rw[hf i (Nat.le_trans hst.le x) y] at h5;cases h5
            · omega
        · exact hF.trans hg.fr (λi hi=>⟨hi.1,Nat.lt_of_lt_of_le hi.2 h1.le⟩) (λi hi=>hi) hst.le h1.le
      simp only[YA]
      unfold stepE at hm
      split at hm
      · rename_i hg
        rw[guardE_ok hL hg]
        split at hm
        · rename_i out hout
          left
          obtain⟨dst,q,ty,pos,af,gd⟩:=o
          refine(doE_do hc hout hl hd).2 dst ty pos af gd G a w (hL.has1 _) hR ?_ (λv w'=>YA P ops Q r (a.put dst v) w') ?_ _ _ (λv w' hk=>hk)
          · obtain⟨e1,e2⟩:=QC hm
            rw[<-e2];exact hf1
          · intro v w' G' hgood
            obtain⟨e1,e2⟩:=QC hm
            refine next _ w' G' (putDst_live hm (hL.up hgood.fr.le) hgood.den) (by rw[e1];exact hgood.rep) (by rw[e2];exact hgood.fr)
        · cases hm
      · rename_i hg
        rw[guardE_ok hL hg]
        simp only[Bool.false_eq_true,if_false]
        obtain⟨e1,e2⟩:=QC hm
        exact next _ w G (putDst_live hm hL (λc hc=>by cases hc;exact .tup .nil)) (by rw[e1];exact hR) (by rw[e2];exact .refl _ _ _ _ _)
      · cases hm
    · cases h
end
end
theorem all_listed{ops:Array Oper}{listed:Array Bool}(hb:Zh9 ops=true)(hs:listed.size=ops.size)(hn:Region.ready .any ops listed=[]):∀i,i<ops.size->listed.getD i false=true:=by
 intro i hi
 cases h:listed.getD i false with
 |true=>rfl
 | false=>
   have hi':i<listed.size:=by omega
   refine absurd hn (Zcb hb hs hi ?_)
   simp only[Array.getD_eq_getD_getElem?,Array.getElem?_eq_getElem hi',Option.getD_some] at h
   rw[Array.getElem?_eq_getElem hi',h]
theorem any_gen{P:Program}{ops:Array Oper}{Q:Exit->Act->World->Prop}(hb:Zh9 ops=true)(Inv:(Nat->Bool)->Act->World->Prop)(hstep:∀done a w i o,Inv done a w->ops[i]? =some o->done i=false->(∀j∈XP ops i,done j=true)->(∀j,done j=true->∀k∈XP ops j,done k=true)->
      if Region.wanted o (yielded ops a.tmps) then YL P o a w (λv w'=>Inv (λk=>done k||k==i) (a.put o.dst v) w') else Inv (λk=>done k||k==i) (a.put o.dst undef) w)(hfin:∀done a w,Inv done a w->(∀i,i<ops.size->done i=true)->Q .normal a w):
    ∀(fuel:Nat)(listed:Array Bool)(a:Act)(w:World),listed.size=ops.size->Closed ops listed->(listed.toList.filter (! ·)).length<=fuel->Inv (λk=>listed.getD k false) a w->wpAny P .any ops Q fuel listed a w:=by
 intro fuel
 induction fuel with
 | zero=>
   intro listed a w hs hc hf hI
   have hall:∀i,i<ops.size->listed.getD i false=true:=λi hi=>by
     have hi':i<listed.size:=by omega
     have:listed[i]'hi'=true:=by
       cases hbb:listed[i]'hi' with
       |true=>rfl
       | false=>
         have hm:false∈listed.toList.filter (! ·):=List.mem_filter.2 ⟨by rw[<-hbb];simp,rfl⟩
         have:=List.length_pos_of_mem hm
         omega
     simp[Array.getD_eq_getD_getElem?,Array.getElem?_eq_getElem hi',this]
   refine⟨?_,hfin _ a w hI hall⟩
   cases hr:Region.ready .any ops listed with
   |nil=>rfl
   | cons x xs=>
     obtain⟨o,_,hlt,hno,_⟩:=Zfd (ops:=ops) (listed:=listed) (i:=x) (by rw[hr];simp)
     have h1:=hall x hlt
     have hx:x<listed.size:=by omega
     simp only[Array.getD_eq_getD_getElem?,Array.getElem?_eq_getElem hx,Option.getD_some] at h1 hno
     rw[h1] at hno;cases hno
 | succ fuel ih=>
   intro listed a w hs hc hf hI
   refine⟨λhn=>hfin _ a w hI<|all_listed hb hs hn,λi hi=>?_⟩
   obtain⟨o,ho,hlt,hno,hdi⟩:=Zfd hi
   have hil:i<listed.size:=by omega
   have hlb:listed.getD i false=false:=by
     simp only[Array.getD_eq_getD_getElem?,Array.getElem?_eq_getElem hil,Option.getD_some] at hno ⊢
     exact hno
   have hdi':∀j∈XP ops i,listed.getD j false=true:=by simpa [XP,ho] using hdi
   have hlb':listed.toList[i]? =some false:=by
     simp only[Array.getD_eq_getD_getElem?,Array.getElem?_eq_getElem hil,Option.getD_some] at hlb
     simp[hil,hlb]
   have hcount:((listed.setIfInBounds i true).toList.filter (! ·)).length<=fuel:=by
     have:=count_set listed.toList i hlb'
     rw[Array.toList_setIfInBounds]
     omega
   have hst:=hstep _ a w i o hI ho hlb hdi' (λj hj k hk=>hc j hj k hk)
   have hfun:(λk=>(listed.setIfInBounds i true).getD k false)=(λk=>listed.getD k false||k==i):=funext (Zd4 listed hil)
   have next:∀(a':Act)(w':World),Inv (λk=>listed.getD k false||k==i) a' w'->wpAny P .any ops Q fuel (listed.setIfInBounds i true) a' w':=λa' w' hI'=>
     ih _ a' w' (by simp[hs]) (closed_set hc hil hdi') hcount (by rw[hfun];exact hI')
   show wpOp P ops Q i _ a w
   unfold wpOp
   simp only[ho]
   split
   · rename_i hw
     rw[if_pos hw] at hst
     exact .inl (hst _ _ λv w' h=>next _ w' h)
   · rename_i hw
     rw[if_neg hw] at hst
     exact next _ w hst
def last(p:Nat->Bool):Nat->Nat
  |0=>0
  |m+1=>if p m then m+1 else last p m
theorem last_le(p:Nat->Bool):∀m,last p m<=m
  |0=>Nat.le_refl _
  | m+1=>by
    unfold last
    split
    · exact Nat.le_refl _
    · have:=last_le p m;omega
theorem last_none(p:Nat->Bool):∀m i,last p m<=i->i<m->p i=false
  |0,i,_,h=>by omega
  | m +1,i,h1,h2=>by
    unfold last at h1
    split at h1
    · omega
    · rename_i hp
      by_cases e:i=m
      · subst e;simpa using hp
      · exact last_none p m i h1 (by omega)
theorem last_eq{p:Nat->Bool}{m i:Nat}(hi:i<m)(hp:p i=true)(h:∀j,i<j->j<m->p j=false):last p m=i+1:=by
 induction m with
 |zero=>omega
 | succ m ih=>
   unfold last
   split
   · rename_i hm
     by_cases e:i=m
     · omega
     · have:=h m (by omega) (by omega);rw[this] at hm;cases hm
   · rename_i hm
     have:i≠m:=λe=>by subst e;exact hm hp
     exact ih (by omega) λj h1 h2=>h j h1 (by omega)
theorem last_congr{p q:Nat->Bool}{m:Nat}(h:∀j,j<m->p j=q j):last p m=last q m:=by
 induction m with
 |zero=>rfl
 | succ m ih=>
   unfold last
   rw[h m (by omega),ih λj hj=>h j (by omega)]
theorem Zfz{β:Type}{f:Nat->β}{t:Nat->Bool}{m:Nat}(hf:∀j,j<m->t j=false->f (j+1)=f j){p:Nat->Bool}{i:Nat}(hi:i<=m)(hp:∀j,j<m->p j=(t j&&decide (j<i))):f (last p m)=f i:=by
 have hle:last p m<=i:=by
   rcases Nat.lt_or_ge i (last p m) with h|h
   · have hpos:∃j,last p m=j+1:=⟨last p m-1,by omega⟩
     obtain⟨j,hj⟩:=hpos
     have h1:=last_le p m
     have hpj:p j=true:=by
       have key:∀m,∀j,last p m=j+1->p j=true:=by
         intro m
         induction m with
         |zero=>intro j h;simp[last] at h
         | succ m ih=>
           intro j h
           unfold last at h
           split at h
           · have:j=m:=by omega
             subst this;assumption
           · exact ih j h
       exact key m j hj
     rw[hp j (by omega)] at hpj
     simp at hpj
     omega
   · exact h
 have key:∀d,last p m+d<=i->f (last p m+d)=f (last p m):=by
   intro d
   induction d with
   |zero=>intro _;rfl
   | succ d ih=>
     intro h
     rw[show last p m+(d+1)=(last p m+d)+1 by omega,hf _ (by omega) ?_]
     · exact ih (by omega)
     · have h1:=last_none p m (last p m+d) (by omega) (by omega)
       rw[hp _ (by omega)] at h1
       simp only[Bool.and_eq_false_iff,decide_eq_false_iff_not] at h1
       rcases h1 with h1|h1
       · exact h1
       · omega
 have:=key (i-last p m) (by omega);rw[show last p m+(i-last p m)=i by omega] at this;exact this.symm
section
section
variable{α:Type}{D:Dom α}{P:Program}
def Zbl(q:Op):Bool:=match q with
  | .call c=>match c.callee with
    | .value _=>true
    |_=>false
  |_=>false
def limQ(lim n:Nat)(q:Op):Nat:=match Zbl q with
  |true=>n
  |false=>lim
theorem doE_small{cf:Za8 α}(hc:Zep P D cf){lim:Nat}{E:Tr (SV α)}{V:Hp α}{n:Nat}{q:Op}{o:Out α}(h:doE P D cf (limQ lim n q) E V n q=some o)(hd:∀i,n<=i->V.at i=none):
    Zem V n o/\(∀i∈o.wr,lim<=i)/\∀(d:Option Tmp)(ty:TypeId)(pos:String)(af:Array Edge)(g:Option (Nat × Bool)) G a w (I:Nat->Prop),Has1 D G a E q.operands.toList->(∀i∈o.rd,I i)->(∀i∈o.wr,I i)->
      (Zbl q=true->∀i x,V.at i=some x->I i)->Qf D G I V w->Zen G n o.n->
      ∀K:Value->World->Prop,(∀v w' G',Fra G w G' w' (· ∈o.wr) n o.n->(∀c,o.r=some c->Den D G' c v)->Qf D G' (λi=>i∈o.wr\/(n<=i/\i<o.n)) o.V w'->K v w')->YL P ⟨d,q,ty,pos,af,g⟩ a w K:=by
 have hop:∀lim,opE P D lim E V n q=some o->Zem V n o/\(∀i∈o.wr,lim<=i)/\∀(d:Option Tmp)(ty:TypeId)(pos:String)(af:Array Edge)(g:Option (Nat × Bool)) G a w (I:Nat->Prop),Has1 D G a E q.operands.toList->(∀i∈o.rd,I i)->(∀i∈o.wr,I i)->
     (Zbl q=true->∀i x,V.at i=some x->I i)->Qf D G I V w->Zen G n o.n->
     ∀K:Value->World->Prop,(∀v w' G',Fra G w G' w' (· ∈o.wr) n o.n->(∀c,o.r=some c->Den D G' c v)->Qf D G' (λi=>i∈o.wr\/(n<=i/\i<o.n)) o.V w'->K v w')->YL P ⟨d,q,ty,pos,af,g⟩ a w K:=by
   intro lim h
   obtain⟨h1,h2⟩:=st_op h
   refine⟨h1,h2,λd ty pos af g G a w I hH hr hw _ hR hf K hk=>?_⟩
   obtain⟨_,_,h3⟩:=opE_ok (P:=P) (d:=d) (ty:=ty) (pos:=pos) (af:=af) (g:=g) (w:=w) h hH
   exact h3 I hr hw hR hf K hk
 rcases doE_cases h with⟨fo,xs,ts,rfl,h'⟩|⟨hne,h'⟩;have h:callE cf n E V n fo xs.toList=some o:=h';refine id ?_;unfold callE at h;split at h;rename_i f fs cs hf;split at h;rename_i vs hvs;split at h;rename_i r hr;cases h;rw[Zbe,Zbe] at hr;obtain⟨h1,h2⟩:=hc n f _ V n r hr (Nat.le_refl _) hd;refine⟨⟨h1.le,λi _ hi=>?_,λi hi=>by simp at hi⟩,λi hi=>by simp at hi,λd ty pos af g G a w I hH _ _ hI hR hfr K hk=>?_⟩;rcases Nat.lt_or_ge i n with h3|h3;exact h1.old i h3;simp only[not_and,Nat.not_lt] at hi;rw[h1.dom i (hi h3),hd i h3];have hfo:=hH.at_ fo (by simp[Op.operands,Call.operands]) _ hf;have hxs:=(hH.sub (ys:=xs.toList) (λy hy=>by simp[Op.operands,Call.operands];exact .inr (by simpa using hy))).many hvs;have hden:=hfo.den;have hex:=hfo.ex;have hRA:Qf D G All V w:=⟨hR.holds,λi o _ hv=>hR.obj i o (hI rfl i o hv) hv,λi j o o' b c c' _ _ hv hv'=>hR.inj i j o o' b c c' (hI rfl i o hv) (hI rfl j o' hv') hv hv'⟩;generalize a.eval fo=u at hden hex
 cases hden with
 | @fn _ _ _ us ws hu hw=>
   refine does_callV (ZD.full hH.defers) hex hxs.1 ?_
   refine(h2 G w _ (hu.append<|hxs.2.append hw) hRA hfr).mono λv w' ⟨G',k1,k2,k3⟩=>hk v w' G' ⟨k1.le,k1.os,k1.tape,k1.output,k1.size,k1.drawn,λb hb _=>k1.blk b hb ?_,k1.gS,λi x hx=>(k1.gb i x hx).imp id λ⟨p,q⟩=>⟨p,.inl ?_⟩⟩ (λc hc=>by cases hc;exact k2) (k3.sub λ_ _=>trivial)
   · rintro⟨i,c,⟨hi1,hi2⟩,hb2⟩
     rw[hfr i hi1 hi2] at hb2;cases hb2
   · rcases q with q|⟨j,c,⟨hj1,hj2⟩,hb2⟩
     · exact q
     · rw[hfr j hj1 hj2] at hb2;cases hb2
 cases h;cases h;cases h
 have:limQ lim n q=lim:=by
   unfold limQ Zbl
   cases q with
   | call c=>
     obtain⟨callee,xs,ts⟩:=c
     cases callee with
     |value fo=>exact absurd rfl (hne fo xs ts)
     |_=>rfl
   |_=>rfl
 rw[this] at h';exact hop lim h'
inductive Anc (ops:Array Oper) (i:Nat):Nat->Prop where
  |dep {j:Nat} (h:i∈XP ops j):Anc ops i j
  |step {j k:Nat} (hk:k∈XP ops j) (h:Anc ops i k):Anc ops i j
theorem anc_done{ops:Array Oper}{done:Nat->Bool}(hcl:∀j,done j=true->∀k∈XP ops j,done k=true){i j:Nat}(h:Anc ops i j)(hj:∀k∈XP ops j,done k=true):done i=true:=by
 induction h with
 |dep h=>exact hj i h
 |step hk _ ih=>exact ih<|hcl _<|hj _ hk
def maskOf(T:Tr Nat)(l:List Nat):Nat:=List.rec 0 (λk _ ih=>Nat.lor (Nat.lor (Nat.shiftLeft 1 k)<|Option.rec 0 (λx=>x)<|T.at k) ih) l
def maskF(ops:Array Oper)(m:Nat):Tr Nat:=Nat.rec .nil (λj T=>T.put j<|some<|maskOf T<|XP ops j) m
def masks(ops:Array Oper):Tr Nat:=maskF ops ops.size
def ancB(ops:Array Oper)(i j:Nat):Bool:=match (masks ops).at j with
  |some m=>Nat.testBit m i
  |none=>false
theorem maskOf_bit(T:Tr Nat)(i:Nat):∀l:List Nat,(maskOf T l).testBit i=true->∃k∈l,i=k\/∃x,T.at k=some x/\x.testBit i=true
  |[],h=>by simp[maskOf] at h
  | k ::r,h=>by
    have h':((((1<<<k) |||(Option.rec 0 (λx=>x) (T.at k):Nat)) |||maskOf T r):Nat).testBit i=true:=h
    rw[Nat.testBit_or,Nat.testBit_or,Bool.or_eq_true,Bool.or_eq_true] at h'
    rcases h' with(h1|h1)|h1
    · rw[Nat.one_shiftLeft,Nat.testBit_two_pow] at h1
      exact⟨k,by simp,.inl (by have:=of_decide_eq_true h1;omega)⟩
    · refine⟨k,by simp,.inr ?_⟩
      cases hk:T.at k with
      |none=>rw[hk] at h1;simp at h1
      |some x=>rw[hk] at h1;exact⟨x,rfl,h1⟩
    · obtain⟨q,hq,h2⟩:=maskOf_bit T i r h1
      exact⟨q,by simp[hq],h2⟩
theorem maskF_ok(ops:Array Oper)(i:Nat):∀(m j x:Nat),(maskF ops m).at j=some x->x.testBit i=true->Anc ops i j
  | 0,j,x,h,_=>by
    have h':(Tr.nil:Tr Nat).at j=some x:=h
    unfold Tr.at at h'
    rw[Tr.get_nil] at h'
    cases h'
  | m +1,j,x,h,hb=>by
    have h':((maskF ops m).put m (some<|maskOf (maskF ops m)<|XP ops m)).at j=some x:=h
    rw[Tr.at_put_if] at h'
    split at h'
    · rename_i e
      subst e
      cases h'
      obtain⟨k,hk,h2⟩:=maskOf_bit _ _ _ hb
      rcases h2 with rfl|⟨y,hy,h3⟩
      · exact .dep hk
      · exact .step hk (maskF_ok ops i j k y hy h3)
    · exact maskF_ok ops i m j x h' hb
theorem ancB_ok{ops:Array Oper}{i j:Nat}(h:ancB ops i j=true):Anc ops i j:=by
 unfold ancB at h;split at h;rename_i m hm;exact maskF_ok ops i _ j m hm h;cases h
def tmpsOf:List Operand->List Nat
  |[]=>[]
  | .tmp t::r=>t::tmpsOf r
  |_::r=>tmpsOf r
def guardSlot(ops:Array Oper)(g:Option (Nat × Bool)):Option Nat:=match g with
  |none=>none
  |some p=>(ops[p.1]?).bind (·.dst)
def opsL:Op->List Operand
  | .alloc _| .ready _| .waits _=>[]
  | .move x| .assign x| .box _ x| .load _ x| .nilCheck x| .unOp _ _ x| .convert _ _ x| .sliceToArrayPointer _ x| .makeInterface _ x
  | .makeChan _ x| .fieldAddr _ x _| .field _ x _| .range _ x| .next x _| .entry x| .typeAssert x _ _ _| .extract x _| .panic x| .recv _ x _=>[x]
  | .pick c a b=>[c,a,b]
  | .build _ ps| .buildSlice _ _ ps=>ps.toList.map (·.2)
  | .store _ a v| .binOp _ _ a v _| .makeSlice _ a v| .indexAddr _ a v| .index _ a v| .lookup _ a v _| .mapEntry _ a v| .send a v=>[a,v]
  | .makeFunc _ first captured=>first.toList++captured.toList
  | .makeMap _ r=>r.toList
  | .slice _ x l h m=>x::(l.toList++(h.toList++m.toList))
  | .mapUpdate _ m k v| .entryStore _ m k v| .insert _ m k v=>[m,k,v]
  | .call c=>(match c.callee with| .value f=>[f]| .invoke r _=>[r]| .builtin _=>[])++c.args.toList
  | .go c| .defer c=>c.operands.toList
  | .select cs b=>(Op.select cs b).operands.toList
theorem opsL_mem{q:Op}{x:Operand}(h:x∈q.operands.toList):x∈opsL q:=by
 cases q with
 | call c=>
   obtain⟨callee,xs,ts⟩:=c
   cases callee <;> simpa [Op.operands,Call.operands,opsL] using h
 |go c=>exact h
 |defer c=>exact h
 |select cs b=>exact h
 | slice t x l hh m=>
   simp only[Op.operands,Array.toList_append,List.mem_append] at h
   simp only[opsL,List.mem_cons,List.mem_append]
   rcases h with((h|h)|h)|h
   · exact .inl (by simpa using h)
   · exact .inr (.inl (by simpa using h))
   · exact .inr (.inr (.inl (by simpa using h)))
   · exact .inr (.inr (.inr (by simpa using h)))
 |_=>first|(simp[Op.operands] at h;done)|simpa [Op.operands,opsL] using h
def looksE(ops:Array Oper)(o:Oper):List Nat:=match guardSlot ops o.guard with
  |some e=>e::tmpsOf (opsL o.op)
  |none=>tmpsOf<|opsL o.op
def memN(l:List Nat)(x:Nat):Bool:=List.rec false (λy _ ih=>Bool.rec ih true<|Nat.beq y x) l
theorem Qj{l:List Nat}{x:Nat}:memN l x=true↔x∈l:=by
 induction l with
 |nil=>exact⟨λh=>(by cases h),λh=>(by simp at h)⟩
 | cons y r ih=>
   have:memN (y::r) x=Bool.rec (motive:=λ_=>Bool) (memN r x) true (Nat.beq y x):=rfl
   rw[this]
   cases hb:Nat.beq y x with
   |true=>rw[YY] at hb;subst hb;simp
   | false=>
     have hne:¬x=y:=λe=>by subst e;simp at hb
     simp only[List.mem_cons,hne,false_or]
     exact ih
def wtab(l:List Oper):Nat->Tr (List Nat)->Tr (List Nat):=List.rec (λ_ T=>T) (λo _ ih i T=>ih (Nat.succ i) (match o.dst with
  |some d=>T.put d (some (i::Option.rec [] (λx=>x) (T.at d)))
  |none=>T)) l
def ordB(ops:Array Oper)(i j:Nat):Bool:=match Nat.ble (Nat.succ i) j with
  |true=>ancB ops i j
  | false=>match Nat.ble (Nat.succ j) i with
    |true=>ancB ops j i
    |false=>true
def slotOK1(ops:Array Oper)(T:Tr (List Nat))(j t:Nat):Bool:=match T.at t with
  |some l=>l.all λi=>ordB ops i j
  |none=>true
def slotsOK(ops:Array Oper):Bool:=(List.range ops.size).all λj=>match ops[j]? with
  |some o=>(looksE ops o).all (slotOK1 ops (wtab ops.toList 0 .nil) j)&&(match o.dst with|some d=>slotOK1 ops (wtab ops.toList 0 .nil) j d|none=>true)
  |none=>false
theorem wtab_ok:∀(l:List Oper)(i:Nat)(T:Tr (List Nat))(t j:Nat),((∃x,T.at t=some x/\j∈x)\/∃o,i<=j/\l[j-i]? =some o/\o.dst=some t)->∃x,(wtab l i T).at t=some x/\j∈x
  | [],i,T,t,j,h=>by
    rcases h with h|⟨o,_,h,_⟩
    · exact h
    · simp at h
  | o ::r,i,T,t,j,h=>by
    show ∃x,(wtab r (i+1) _).at t=some x/\j∈x
    refine wtab_ok r (i+1) _ t j ?_
    rcases h with⟨x,h1,h2⟩|⟨o',h1,h2,h3⟩
    · left
      split
      · rename_i d hd
        rw[Tr.at_put_if]
        split
        · rename_i e
          subst e
          rw[h1]
          exact⟨_,rfl,by simp[h2]⟩
        · exact⟨x,h1,h2⟩
      · exact⟨x,h1,h2⟩
    · by_cases e:j=i
      · subst e
        simp at h2
        subst h2
        left
        rw[h3]
        simp only
        rw[Tr.at_put]
        exact⟨_,rfl,by simp⟩
      · right
        refine⟨o',by omega,?_,h3⟩
        rw[show j-i=(j-(i+1))+1 by omega,List.getElem?_cons_succ] at h2
        exact h2
structure Rec where
  i:Nat
  lo:Nat
  hi:Nat
  rd:List Nat
  wr:List Nat
  call:Bool
def Rec.loud(r:Rec):Bool:=r.call||!r.rd.isEmpty||!r.wr.isEmpty||!(Nat.beq r.lo r.hi)
def disjL(a b:List Nat):Bool:=a.all λx=> !(memN b x)
def noneIn(lo hi:Nat)(l:List Nat):Bool:=l.all λx=> !(Nat.ble lo x&&Nat.ble (Nat.succ x) hi)
def apartR(a b:Rec):Bool:=disjL a.wr (b.rd++b.wr)&&disjL a.rd b.wr&&noneIn a.lo a.hi (b.rd++b.wr)&&(!b.call||(a.wr.isEmpty&&Nat.beq a.lo a.hi))&&(!a.call||b.wr.isEmpty)
def touchy(r:Rec):Bool:= !r.wr.isEmpty||!(Nat.beq r.lo r.hi)
def pairR(ops:Array Oper)(a b:Rec):Bool:=match Nat.ble (Nat.succ a.i) b.i with
  | true=>match ancB ops a.i b.i with
    |true=>true
    |false=>apartR a b
  |false=>true
def pairsR(ops:Array Oper)(l:List Rec):Bool:=l.all λa=>match touchy a with
  |true=>l.all λb=>pairR ops a b&&pairR ops b a
  |false=>true
def recAdd(r:Rec)(l:List Rec):List Rec:=match r.loud with
  |true=>r::l
  |false=>l
def draw1(P:Program)(D:Dom α)(cf:Za8 α)(lim nt:Nat)(ops:Array Oper)(o:Oper)(ih:Nat->Tr (SV α)->Hp α->Nat->List Rec->Option (R3 α × List Rec))(i:Nat)(E:Tr (SV α))(V:Hp α)(n:Nat)(l:List Rec):Option (R3 α × List Rec):=match Zfg ops E o.guard with
    | some true=>match doE P D cf (limQ lim n o.op) E V n o.op with
      | some out=>match out.rd.all λx=>Nat.ble (Nat.succ x) n with
        | true=>match Zbk nt E o.dst out.r out.V out.n with
          |some s=>ih (Nat.succ i) s.E s.V s.n (recAdd ⟨i,n,out.n,out.rd,out.wr,Zbl o.op⟩ l)
          |none=>none
        |false=>none
      |none=>none
    | some false=>match Zbk nt E o.dst (some<|.tup []) V n with
      |some s=>ih (Nat.succ i) s.E s.V s.n l
      |none=>none
    |none=>none
def drawGo(P:Program)(D:Dom α)(cf:Za8 α)(lim nt:Nat)(ops:Array Oper)(r:List Oper):Nat->Tr (SV α)->Hp α->Nat->List Rec->Option (R3 α × List Rec):=
  List.rec (λ_ E V n l=>some (⟨E,V,n⟩,l)) (λo _ ih i E V n l=>draw1 P D cf lim nt ops o ih i E V n l) r
theorem drawGo_nil{cf:Za8 α}{lim nt:Nat}{ops:Array Oper}(i:Nat)(E:Tr (SV α))(V:Hp α)(n:Nat)(l:List Rec):drawGo P D cf lim nt ops [] i E V n l=some (⟨E,V,n⟩,l):=rfl
theorem drawGo_cons{cf:Za8 α}{lim nt:Nat}{ops:Array Oper}(o:Oper)(r:List Oper)(i:Nat)(E:Tr (SV α))(V:Hp α)(n:Nat)(l:List Rec):drawGo P D cf lim nt ops (o::r) i E V n l=draw1 P D cf lim nt ops o (drawGo P D cf lim nt ops r) i E V n l:=rfl
def drawE(P:Program)(D:Dom α)(cf:Za8 α)(lim nt:Nat)(ops:Array Oper)(E:Tr (SV α))(V:Hp α)(n:Nat):Option (R3 α):=match Zh9 ops&&slotsOK ops with
  | true=>match drawGo P D cf lim nt ops ops.toList 0 E V n [] with
    | some (s,l)=>match pairsR ops l with
      |true=>some s
      |false=>none
    |none=>none
  |false=>none
structure StepAt(P:Program)(D:Dom α)(cf:Za8 α)(lim nt:Nat)(ops:Array Oper)(l:List Rec)(st:Nat->R3 α)(oc:Nat->Option (Out α))(i:Nat)(o:Oper):Prop where
  on:∀out,oc i=some out->Zfg ops (st i).E o.guard=some true/\doE P D cf (limQ lim (st i).n o.op) (st i).E (st i).V (st i).n o.op=some out/\Zbk nt (st i).E o.dst out.r out.V out.n=some (st (i+1))/\
    (∀x∈out.rd,x<(st i).n)/\((⟨i,(st i).n,out.n,out.rd,out.wr,Zbl o.op⟩:Rec).loud=true->(⟨i,(st i).n,out.n,out.rd,out.wr,Zbl o.op⟩:Rec)∈l)
  off:oc i=none->Zfg ops (st i).E o.guard=some false/\Zbk nt (st i).E o.dst (some<|.tup []) (st i).V (st i).n=some (st (i+1))
theorem drawGo_ok{cf:Za8 α}{lim nt:Nat}{ops:Array Oper}:∀(r:List Oper)(k:Nat)(E:Tr (SV α))(V:Hp α)(n:Nat)(l:List Rec)(s:R3 α)(l':List Rec),drawGo P D cf lim nt ops r k E V n l=some (s,l')->r=ops.toList.drop k->k<=ops.size->
    ∃(st:Nat->R3 α)(oc:Nat->Option (Out α)),st k=⟨E,V,n⟩/\st ops.size=s/\(∀x∈l,x∈l')/\∀i,k<=i->i<ops.size->∃o,ops[i]? =some o/\StepAt P D cf lim nt ops l' st oc i o
  | [],k,E,V,n,l,s,l',h,hr,hk=>by
    rw[drawGo_nil] at h;cases h
    have:ops.size<=k:=by
      have:=congrArg List.length hr
      simp at this;omega
    have e:k=ops.size:=by omega
    exact⟨λ_=>⟨E,V,n⟩,λ_=>none,rfl,rfl,λx hx=>hx,λi h1 h2=>by omega⟩
  | o :: r, k, E, V,n,l,s,l',h,hr,hk=>by
    have hlt:k<ops.size:=by
      have:=congrArg List.length hr
      simp at this;omega
    have hlt':k<ops.toList.length:=by simpa using hlt
    rw[List.drop_eq_getElem_cons hlt'] at hr
    simp only[List.cons.injEq] at hr
    obtain⟨ho,hr⟩:=hr
    have hok:ops[k]? =some o:=by
      rw[ho];simp[hlt]
    rw[drawGo_cons] at h;unfold draw1 at h
    split at h
    · rename_i hg
      split at h
      · rename_i out hout
        split at h
        · rename_i hrd
          split at h
          · rename_i m hm
            obtain⟨st,oc,h1,h2,h3,h4⟩:=drawGo_ok r (k+1) m.E m.V m.n _ s l' h hr (by omega)
            refine⟨λj=>if j=k then⟨E,V,n⟩ else st j,λj=>if j=k then some out else oc j,if_pos rfl,?_,λx hx=>h3 x ?_,λi hi1 hi2=>?_⟩
            · show(if ops.size=k then _ else st ops.size)=s
              rw[if_neg (by omega)];exact h2
            · unfold recAdd;split
              · exact List.mem_cons_of_mem _ hx
              · exact hx
            · by_cases e:i=k
              · subst e
                refine⟨o,hok,⟨λout' ho'=>?_,λho'=>?_⟩⟩
                · simp only[if_pos] at ho'
                  cases ho'
                  simp only[if_pos]
                  rw[if_neg (by omega)]
                  refine⟨hg,hout,by rw[hm,h1],λx hx=>?_,λhl=>h3 _ ?_⟩
                  · have:=List.all_eq_true.1 hrd x hx
                    exact Nat.le_of_ble_eq_true this
                  · unfold recAdd
                    rw[hl]
                    exact List.mem_cons_self
                · simp at ho'
              · obtain⟨o',ho',hs⟩:=h4 i (by omega) hi2
                refine⟨o',ho',⟨λout' hx=>?_,λhx=>?_⟩⟩
                · simp only[if_neg e] at hx ⊢
                  rw[if_neg (by omega)]
                  exact hs.on out' hx
                · simp only[if_neg e] at hx ⊢
                  rw[if_neg (by omega)]
                  exact hs.off hx
          · cases h
        · cases h
      · cases h
    · rename_i hg
      split at h
      · rename_i m hm
        obtain⟨st,oc,h1,h2,h3,h4⟩:=drawGo_ok r (k+1) m.E m.V m.n _ s l' h hr (by omega)
        refine⟨λj=>if j=k then⟨E,V,n⟩ else st j,λj=>if j=k then none else oc j,if_pos rfl,?_,h3,λi hi1 hi2=>?_⟩
        · show(if ops.size=k then _ else st ops.size)=s
          rw[if_neg (by omega)];exact h2
        · by_cases e:i=k
          · subst e
            refine⟨o,hok,⟨λout' ho'=>?_,λho'=>?_⟩⟩
            · simp at ho'
            · simp only[if_pos]
              rw[if_neg (by omega)]
              exact⟨hg,by rw[hm,h1]⟩
          · obtain⟨o',ho',hs⟩:=h4 i (by omega) hi2
            refine⟨o',ho',⟨λout' hx=>?_,λhx=>?_⟩⟩
            · simp only[if_neg e] at hx ⊢
              rw[if_neg (by omega)]
              exact hs.on out' hx
            · simp only[if_neg e] at hx ⊢
              rw[if_neg (by omega)]
              exact hs.off hx
      · cases h
    · cases h
end
end
section
section
variable{α:Type}{D:Dom α}{P:Program}{cf:Za8 α}{lim nt:Nat}{ops:Array Oper}
def Qi(st:Nat->R3 α)(oc:Nat->Option (Out α))(i x:Nat):Bool:=match oc i with
  |some out=>memN out.wr x||(Nat.ble (st i).n x&&Nat.ble (Nat.succ x) (st (i+1)).n)
  |none=>false
def dstB(ops:Array Oper)(i t:Nat):Bool:=match ops[i]? with
  | some o=>match o.dst with
    |some d=>Nat.beq d t
    |none=>false
  |none=>false
theorem putDst_ne{E:Tr (SV α)}{d:Option Tmp}{r:Option (SV α)}{V:Hp α}{n:Nat}{s:R3 α}{t:Nat}(h:Zbk nt E d r V n=some s)(ht:d≠some t):s.E.at t=E.at t:=by
 unfold Zbk at h;split at h;cases h;rfl;rename_i e;split at h;cases h;exact Tr.at_put_ne _ _ (λx=>ht (by rw[x]));cases h
theorem putDst_at{E:Tr (SV α)}{d:Nat}{r:Option (SV α)}{V:Hp α}{n:Nat}{s:R3 α}(h:Zbk nt E (some d) r V n=some s):s.E.at d=r/\d<nt:=by
 unfold Zbk at h;split at h;rename_i e;cases e;rename_i e;cases e;split at h;rename_i hb;cases h;exact⟨Tr.at_put _ _ _,Nat.le_of_ble_eq_true hb⟩;cases h
structure Ev0(P:Program)(D:Dom α)(cf:Za8 α)(lim nt:Nat)(ops:Array Oper)(st:Nat->R3 α)(oc:Nat->Option (Out α)):Prop where
  back:Zh9 ops=true
  slots:slotsOK ops=true
  dom:∀i,i<=ops.size->∀x,(st i).n<=x->(st i).V.at x=none
  le:∀i,i<ops.size->(st i).n<=(st (i+1)).n
  same:∀i,i<ops.size->∀x,Qi st oc i x=false->(st (i+1)).V.at x=(st i).V.at x
  wr:∀i,i<ops.size->∀out,oc i=some out->∀x∈out.wr,lim<=x/\∃o,(st i).V.at x=some o
  same0:∀i,i<ops.size->oc i=none->(st (i+1)).V=(st i).V/\(st (i+1)).n=(st i).n
  slotNe:∀i,i<ops.size->∀t,dstB ops i t=false->(st (i+1)).E.at t=(st i).E.at t
  step:∀i,i<ops.size->∃o,ops[i]? =some o/\(oc i=none->Zfg ops (st i).E o.guard=some false/\Zbk nt (st i).E o.dst (some<|.tup []) (st i).V (st i).n=some (st (i+1)))/\
    ∀ out,oc i=some out->Zfg ops (st i).E o.guard=some true/\Zbk nt (st i).E o.dst out.r out.V out.n=some (st (i+1))/\doE P D cf (limQ lim (st i).n o.op) (st i).E (st i).V (st i).n o.op=some out/\
      ∀x,(x∈out.rd\/x∈out.wr\/(Zbl o.op=true/\∃y,(st i).V.at x=some y))->∀j,j<ops.size->j≠i->Qi st oc j x=true->(j<i->Anc ops j i)/\(i<j->Anc ops i j)
theorem ev0_of(hc:Zep P D cf){st:Nat->R3 α}{oc:Nat->Option (Out α)}{l:List Rec}(hb:Zh9 ops=true)(hs:slotsOK ops=true)(hp:pairsR ops l=true)(hd:∀x,(st 0).n<=x->(st 0).V.at x=none)(h:∀i,i<ops.size->∃o,ops[i]? =some o/\StepAt P D cf lim nt ops l st oc i o):Ev0 P D cf lim nt ops st oc:=by
 have one:∀i,i<ops.size->(∀x,(st i).n<=x->(st i).V.at x=none)->(st i).n<=(st (i+1)).n/\(∀x,Qi st oc i x=false->(st (i+1)).V.at x=(st i).V.at x)/\(∀out,oc i=some out->∀x∈out.wr,lim<=x/\∃o,(st i).V.at x=some o)/\
     (∀x,(st (i+1)).n<=x->(st (i+1)).V.at x=none)/\(oc i=none->(st (i+1)).V=(st i).V/\(st (i+1)).n=(st i).n):=by
   intro i hi hdi
   obtain⟨o,ho,hst⟩:=h i hi
   cases hoc:oc i with
   | none=>
     obtain⟨_,h2⟩:=hst.off hoc
     obtain⟨e1,e2⟩:=QC h2
     exact⟨by rw[e2];exact Nat.le_refl _,λx _=>(by rw[e1]),λout hx=>(by cases hx),λx hx=>(by rw[e1];exact hdi x (by rw[<-e2];exact hx)),λ_=>⟨e1,e2⟩⟩
   | some out=>
     obtain⟨_,h2,h3,h4,h5⟩:=hst.on out hoc
     obtain⟨e1,e2⟩:=QC h3
     obtain⟨k1,k2,_⟩:=doE_small hc h2 hdi
     have hle:=k1.le
     refine⟨by rw[e2];exact hle,λx hx=>?_,λout' hx x hxw=>?_,λx hx=>?_,λhx=>(by cases hx)⟩
     · rw[e1]
       simp only[Qi,hoc,Bool.or_eq_false_iff] at hx
       refine k1.ag x (λhm=>?_) (λhm=>?_)
       · have:=Qj.2 hm
         rw[this] at hx;cases hx.1
       · have h7:Nat.ble (st i).n x=true:=Nat.ble_eq_true_of_le hm.1
         have h8:Nat.ble (Nat.succ x) (st (i+1)).n=true:=Nat.ble_eq_true_of_le (by rw[e2];exact hm.2)
         rw[h7,h8] at hx;cases hx.2
     · cases hx
       exact⟨k2 x hxw,k1.wr x hxw⟩
     · rw[e1]
       rw[e2] at hx
       rw[k1.ag x (λhm=>?_) (by omega)]
       · exact hdi x (by omega)
       · obtain⟨y,hy⟩:=k1.wr x hm
         have:=Tr.lt hdi hy
         omega
 have hdom:∀i,i<=ops.size->∀x,(st i).n<=x->(st i).V.at x=none:=by
   intro i
   induction i with
   |zero=>intro _;exact hd
   |succ i ih=>intro hi;exact(one i (by omega)<|ih (by omega)).2.2.2.1
 have hmono:∀d i,i+d<=ops.size->(st i).n<=(st (i+d)).n:=by
   intro d
   induction d with
   |zero=>intro i _;exact Nat.le_refl _
   | succ d ih=>
     intro i hi
     exact Nat.le_trans (ih i (by omega)) (one (i+d) (by omega)<|hdom _ (by omega)).1
 refine⟨hb,hs,hdom,λi hi=>(one i hi<|hdom i (by omega)).1,λi hi=>(one i hi<|hdom i (by omega)).2.1,λi hi=>(one i hi<|hdom i (by omega)).2.2.1,λi hi=>(one i hi<|hdom i (by omega)).2.2.2.2,λi hi t ht=>?_,λi hi=>?_⟩;obtain⟨o,ho,hst⟩:=h i hi;have hne:o.dst≠some t:=by intro e;simp[dstB,ho,e] at ht
 cases hoc:oc i with
 |none=>exact putDst_ne (hst.off hoc).2 hne
 |some out=>exact putDst_ne (hst.on out hoc).2.2.1 hne
 obtain⟨o,ho,hst⟩:=h i hi;refine⟨o,ho,hst.off,λout hoc=>?_⟩;obtain⟨h1,h2,h3,h4,h5⟩:=hst.on out hoc;obtain⟨e1,e2⟩:=QC h3;refine⟨h1,h3,h2,λx hx j hj hji ht=>?_⟩;obtain⟨oj,hoj,hstj⟩:=h j hj;unfold Qi at ht;split at ht;rename_i outj hocj;obtain⟨_,j2,j3,_,j5⟩:=hstj.on outj hocj;obtain⟨f1,f2⟩:=QC j3
 have hlj:(⟨j,(st j).n,outj.n,outj.rd,outj.wr,Zbl oj.op⟩:Rec).loud=true:=by
   simp only[Bool.or_eq_true,Bool.and_eq_true] at ht
   simp only[Rec.loud]
   rcases ht with ht|⟨ht1,ht2⟩
   · have:=Qj.1 ht
     cases hw:outj.wr with
     |nil=>rw[hw] at this;simp at this
     |cons a b=>simp
   · have a1:=Nat.le_of_ble_eq_true ht1
     have a2:=Nat.le_of_ble_eq_true ht2
     rw[f2] at a2
     have:Nat.beq (st j).n outj.n=false:=by
       cases hbb:Nat.beq (st j).n outj.n with
       |false=>rfl
       |true=>rw[YY] at hbb;omega
     rw[this];simp
 have hli:(⟨i,(st i).n,out.n,out.rd,out.wr,Zbl o.op⟩:Rec).loud=true:=by
   simp only[Rec.loud]
   rcases hx with hx|hx|⟨hx,_⟩
   · cases hw:out.rd with
     |nil=>rw[hw] at hx;simp at hx
     |cons a b=>simp
   · cases hw:out.wr with
     |nil=>rw[hw] at hx;simp at hx
     |cons a b=>simp
   · rw[hx];simp
 have m1:=h5 hli;have m2:=j5 hlj
 have htj:touchy (⟨j,(st j).n,outj.n,outj.rd,outj.wr,Zbl oj.op⟩:Rec)=true:=by
   simp only[Bool.or_eq_true,Bool.and_eq_true] at ht
   simp only[touchy]
   rcases ht with ht|⟨ht1,ht2⟩
   · have:=Qj.1 ht
     cases hw:outj.wr with
     |nil=>rw[hw] at this;simp at this
     |cons a b=>simp
   · have a1:=Nat.le_of_ble_eq_true ht1
     have a2:=Nat.le_of_ble_eq_true ht2
     rw[f2] at a2
     have:Nat.beq (st j).n outj.n=false:=by
       cases hbb:Nat.beq (st j).n outj.n with
       |false=>rfl
       |true=>rw[YY] at hbb;omega
     rw[this];simp
 have hpp:pairR ops (⟨j,(st j).n,outj.n,outj.rd,outj.wr,Zbl oj.op⟩:Rec) (⟨i,(st i).n,out.n,out.rd,out.wr,Zbl o.op⟩:Rec)=true/\pairR ops (⟨i,(st i).n,out.n,out.rd,out.wr,Zbl o.op⟩:Rec) (⟨j,(st j).n,outj.n,outj.rd,outj.wr,Zbl oj.op⟩:Rec)=true:=by have:=List.all_eq_true.1 hp _ m2;rw[htj] at this;have:=List.all_eq_true.1 this _ m1;simpa only[Bool.and_eq_true] using this
 have hxn:x<(st i).n:=by rcases hx with hx|hx|⟨_,y,hy⟩;exact h4 x hx;obtain⟨y,hy⟩:=(one i hi<|hdom i (by omega)).2.2.1 out hoc x hx |>.2;exact Tr.lt (hdom i (by omega)) hy;exact Tr.lt (hdom i (by omega)) hy
 simp only[Bool.or_eq_true,Bool.and_eq_true] at ht;refine⟨λhlt=>?_,λhlt=>?_⟩;have hq:=hpp.1;unfold pairR at hq;have hb1:Nat.ble (Nat.succ j) i=true:=Nat.ble_eq_true_of_le hlt;simp only[hb1] at hq
 cases ha:ancB ops j i with
 |true=>exact ancB_ok ha
 | false=>
   exfalso
   rw[ha] at hq
   simp only[apartR,Bool.and_eq_true] at hq
   obtain⟨⟨⟨⟨q1,q2⟩,q3⟩,q4⟩,q5⟩:=hq
   rcases hx with hx|hx|⟨hx,_⟩
   · rcases ht with ht|⟨t1,t2⟩
     · have:=List.all_eq_true.1 q1 x (Qj.1 ht)
       have h9:memN (out.rd++out.wr) x=true:=Qj.2 (List.mem_append_left _ hx)
       rw[h9] at this;cases this
     · have:=List.all_eq_true.1 q3 x (List.mem_append_left _ hx)
       rw[f2] at t2
       rw[t1,t2] at this;cases this
   · rcases ht with ht|⟨t1,t2⟩
     · have:=List.all_eq_true.1 q1 x (Qj.1 ht)
       have h9:memN (out.rd++out.wr) x=true:=Qj.2 (List.mem_append_right _ hx)
       rw[h9] at this;cases this
     · have:=List.all_eq_true.1 q3 x (List.mem_append_right _ hx)
       rw[f2] at t2
       rw[t1,t2] at this;cases this
   · rw[hx] at q4
     simp only[Bool.not_true,Bool.false_or,Bool.and_eq_true,YY] at q4
     rcases ht with ht|⟨t1,t2⟩
     · have:=Qj.1 ht
       have q6:=List.isEmpty_iff.1 q4.1
       rw[q6] at this;simp at this
     · rw[f2] at t2
       have a1:=Nat.le_of_ble_eq_true t1
       have a2:=Nat.le_of_ble_eq_true t2
       have q7:=q4.2
       omega
 have hq:=hpp.2;unfold pairR at hq;have hb1:Nat.ble (Nat.succ i) j=true:=Nat.ble_eq_true_of_le hlt;simp only[hb1] at hq
 cases ha:ancB ops i j with
 |true=>exact ancB_ok ha
 | false=>
   exfalso
   rw[ha] at hq
   simp only[apartR,Bool.and_eq_true] at hq
   obtain⟨⟨⟨⟨q1,q2⟩,q3⟩,q4⟩,q5⟩:=hq
   rcases ht with ht|⟨t1,t2⟩
   · have hxw:=Qj.1 ht
     rcases hx with hx|hx|⟨hx,_⟩
     · have:=List.all_eq_true.1 q2 x hx
       rw[ht] at this;cases this
     · have:=List.all_eq_true.1 q1 x hx
       have h9:memN (outj.rd++outj.wr) x=true:=Qj.2 (List.mem_append_right _ hxw)
       rw[h9] at this;cases this
     · rw[hx] at q5
       simp only[Bool.not_true,Bool.false_or] at q5
       have q6:=List.isEmpty_iff.1 q5
       rw[q6] at hxw;simp at hxw
   · have a1:=Nat.le_of_ble_eq_true t1
     have:=hmono (j-i) i (by omega)
     rw[show i+(j-i)=j by omega] at this
     omega
 cases ht
end
end
section
section
variable{α:Type}{D:Dom α}{P:Program}{cf:Za8 α}{lim nt:Nat}{ops:Array Oper}
theorem Fra.comp{G G' G'':Gh}{w w' w'':World}{wr:Nat->Prop}{wr2:Nat->Prop}{n n' m m':Nat}(h:Fra G w G' w' wr n n')(k:Fra G' w' G'' w'' wr2 m m')(h2:∀i,wr2 i->wr i)(l1:n<=m)(l2:m'<=n'):Fra G w G'' w'' wr n n':=by
 have k':Fra G' w' G'' w'' wr n n':=k.mono h2 l1 l2;have back:∀j c b,wr j->G'.blk j=some (b,c)->b<w.heap.size->∃i c,wr i/\G.blk i=some (b,c):=by intro j c b hj hb hlt;rcases h.gb j _ hb with h3|⟨_,h3|⟨i,c',h3,h4⟩⟩;exact⟨j,c,hj,h3⟩;simp at h3;omega;exact⟨i,c',h3,h4⟩
 refine⟨h.le.trans k'.le,k'.os.trans h.os,k'.tape.trans h.tape,k'.output.trans h.output,Nat.le_trans h.size k'.size,Nat.le_trans h.drawn k'.drawn,λb hb hn=>?_,λb o hb=>?_,λi x hx=>?_⟩;rw[k'.blk b (Nat.lt_of_lt_of_le hb h.size) (λ⟨i,c,x,y⟩=>hn<|back i c b x y hb)];exact h.blk b hb hn;rcases k'.gS b o hb with h3|h3;exact h.gS b o h3;exact .inr (Nat.le_trans h.size h3);rcases k'.gb i x hx with h3|⟨h3,h4⟩;exact h.gb i x h3;refine .inr ⟨h3,?_⟩;rcases h4 with h4|⟨j,c,h4,h5⟩;exact .inl (Nat.le_trans h.size h4);rcases Nat.lt_or_ge x.1 w.heap.size with h6|h6;exact .inr (back j c x.1 h4 h5 h6);exact .inl h6
theorem guardE_ok'{G:Gh}{a:Act}{E:Tr (SV α)}{o:Oper}{b:Bool}(hL:∀e,guardSlot ops o.guard=some e->∀c,E.at e=some c->∃v,a.tmps[e]? =some v/\Den D G c v)(h:Zfg ops E o.guard=some b):Region.wanted o (yielded ops a.tmps)=b:=by
 unfold Zfg at h;unfold Region.wanted;split at h;rename_i hg;rw[hg];simpa using h;rename_i p hg;rw[hg];split at h;rename_i e he;split at h;rename_i c hc;obtain⟨v,h1,h2⟩:=hL e (by rw[hg];exact he) _ hc;cases h2;simp only[yielded,he,h1,Option.bind_some];split at h <;> rename_i hp <;> simp only[Option.some.injEq] at h <;> subst h <;> rw[hp] <;> cases c <;> rfl;rename_i L hc;obtain⟨v,h1,h2⟩:=hL e (by rw[hg];exact he) _ hc;cases h2;simp only[Option.some.injEq] at h;subst h;simp[yielded,he,h1];cases h;cases h
theorem tmpsOf_mem{t:Nat}:∀{xs:List Operand},Operand.tmp t∈xs->t∈tmpsOf xs
  |[],h=>by simp at h
  | x ::r,h=>by
    rcases List.mem_cons.1 h with h|h
    · subst h;simp[tmpsOf]
    · have:=tmpsOf_mem h
      cases x <;> simp[tmpsOf,this]
theorem dstB_iff{i t:Nat}{o:Oper}(ho:ops[i]? =some o):dstB ops i t=true↔o.dst=some t:=by
 unfold dstB;rw[ho];dsimp only
 cases o.dst with
 |none=>simp
 |some d=>simp
theorem slot_cmp(hs:slotsOK ops=true){i j t:Nat}{o:Oper}(ho:ops[i]? =some o)(ht:t∈looksE ops o\/o.dst=some t)(hj:dstB ops j t=true)(hi:i<ops.size)(hjm:j<ops.size):(j<i->Anc ops j i)/\(i<j->Anc ops i j):=by
 obtain⟨oj,hoj⟩:∃oj,ops[j]? =some oj:=⟨ops[j],by simp[hjm]⟩;have hdj:=(dstB_iff hoj).1 hj;obtain⟨l,hl,hjl⟩:=wtab_ok ops.toList 0 .nil t j (.inr ⟨oj,Nat.zero_le _,by simpa using hoj,hdj⟩);have h1:=List.all_eq_true.1 hs i (by simpa using hi);simp only[ho,Bool.and_eq_true] at h1;have h2:slotOK1 ops (wtab ops.toList 0 .nil) i t=true:=by rcases ht with ht|ht;exact List.all_eq_true.1 h1.1 t ht;have:=h1.2;rw[ht] at this;exact this
 unfold slotOK1 at h2;rw[hl] at h2;have h3:=List.all_eq_true.1 h2 j hjl;unfold ordB at h3;refine⟨λhlt=>?_,λhlt=>?_⟩;have:Nat.ble (Nat.succ j) i=true:=Nat.ble_eq_true_of_le hlt;rw[this] at h3;exact ancB_ok h3
 have e1:Nat.ble (Nat.succ j) i=false:=by
   cases hb:Nat.ble (Nat.succ j) i with
   |false=>rfl
   |true=>have:=Nat.le_of_ble_eq_true hb;omega
 have e2:Nat.ble (Nat.succ i) j=true:=Nat.ble_eq_true_of_le hlt;rw[e1,e2] at h3;exact ancB_ok h3
def verS(ops:Array Oper)(done:Nat->Bool)(t:Nat):Nat:=last (λi=>done i&&dstB ops i t) ops.size
def verM(ops:Array Oper)(st:Nat->R3 α)(oc:Nat->Option (Out α))(done:Nat->Bool)(x:Nat):Nat:=last (λi=>done i&&Qi st oc i x) ops.size
structure DInv(D:Dom α)(nt lim:Nat)(ops:Array Oper)(st:Nat->R3 α)(oc:Nat->Option (Out α))(G0:Gh)(w0:World)(done:Nat->Bool)(a:Act)(w:World)(G:Gh):Prop where
  fr:Fra G0 w0 G w (Lw lim (st ops.size).n) (st 0).n (st ops.size).n
  defers:a.defers=[]
  size:a.tmps.size=nt
  live:∀t c,(st<|verS ops done t).E.at t=some c->∃v,a.tmps[t]? =some v/\Den D G c v
  rep:RepF D G All (λx=>(st<|verM ops st oc done x).V.at x) w
  fresh:∀i,i<ops.size->done i=false->∀x,(st i).n<=x->x<(st (i+1)).n->G.blk x=none
theorem draw_any(hc:Zep P D cf){st:Nat->R3 α}{oc:Nat->Option (Out α)}(h0:Ev0 P D cf lim nt ops st oc){G0:Gh}{a0:Act}{w0:World}(hL0:Za7 D G0 nt a0 (st 0).E)(hR0:Qf D G0 All (st 0).V w0)(hf0:Zen G0 (st 0).n (st ops.size).n){Q:Exit->Act->World->Prop}(hq:∀a' w' G',Fra G0 w0 G' w' (Lw lim (st ops.size).n) (st 0).n (st ops.size).n->Za7 D G' nt a' (st ops.size).E->Qf D G' All (st ops.size).V w'->Q .normal a' w'):
    wpAny P .any ops Q ops.size (Array.replicate ops.size false) a0 w0:=by
 have hmono:∀d i,i+d<=ops.size->(st i).n<=(st (i+d)).n:=by
   intro d
   induction d with
   |zero=>intro i _;exact Nat.le_refl _
   | succ d ih=>
     intro i hi
     exact Nat.le_trans (ih i (by omega)) (h0.le (i+d) (by omega))
 have hmo:∀i j,i<=j->j<=ops.size->(st i).n<=(st j).n:=λi j h1 h2=>by have:=hmono (j-i) i (by omega);rwa [show i+(j-i)=j by omega] at this
 have lastF:∀(p:Nat->Bool)(m:Nat),(∀i,i<m->p i=false)->last p m=0:=by
   intro p m
   induction m with
   |zero=>intro _;rfl
   | succ m ih=>
     intro h
     unfold last
     rw[h m (by omega)]
     exact ih λi hi=>h i (by omega)
 refine any_gen h0.back (λdone a w=>∃G,DInv D nt lim ops st oc G0 w0 done a w G) ?_ ?_ ops.size _ a0 w0 (by simp) ?_ (by simp) ⟨G0,.refl _ _ _ _ _,hL0.defers,hL0.size,λt c ht=>?_,hR0.same λx _=>?_,λi hi _ x hx1 hx2=>hf0 x ?_ ?_⟩;intro done a w i o ⟨G,hI⟩ ho hdi hdeps hcl;have hi:i<ops.size:=by rcases Nat.lt_or_ge i ops.size with h|h;exact h;rw[Array.getElem?_eq_none h] at ho;cases ho
 obtain⟨o',ho',hoff,hon⟩:=h0.step i hi;rw[ho] at ho';cases ho'
 have cmp:∀j,j≠i->((j<i->Anc ops j i)/\(i<j->Anc ops i j))->done j=decide (j<i):=by
   intro j hji ⟨c1,c2⟩
   rcases Nat.lt_or_ge j i with h|h
   · rw[anc_done hcl (c1 h) hdeps]
     simp[h]
   · have hlt:i<j:=by omega
     cases hdj:done j with
     |false=>simp;omega
     | true=>
       have:=anc_done hcl (c2 hlt) (hcl j hdj)
       rw[hdi] at this;cases this
 have slotE:∀t,(t∈looksE ops o\/o.dst=some t)->∀j,j<ops.size->(done j&&dstB ops j t)=(dstB ops j t&&decide (j<i)):=by
   intro t ht j hj
   cases hb:dstB ops j t with
   |false=>simp
   | true=>
     by_cases e:j=i
     · subst e;simp[hdi]
     · rw[cmp j e (slot_cmp h0.slots ho ht hb hi hj)];simp
 have slotV:∀t,t∈looksE ops o->(st<|verS ops done t).E.at t=(st i).E.at t:=λt ht=>
   Zfz (f:=λk=>(st k).E.at t) (t:=λk=>dstB ops k t) (λj hj hb=>h0.slotNe j hj t hb) (Nat.le_of_lt hi) (slotE t<|.inl ht)
 have liveI:∀t,t∈looksE ops o->∀c,(st i).E.at t=some c->∃v,a.tmps[t]? =some v/\Den D G c v:=λt ht c hcc=>hI.live t c (by rw[slotV t ht];exact hcc);have hgd:∀b,Zfg ops (st i).E o.guard=some b->Region.wanted o (yielded ops a.tmps)=b:=λb hb=>guardE_ok' (G:=G) (λe he c hcc=>liveI e (by unfold looksE;rw[he];simp) c hcc) hb
 have hsame:∀t,o.dst≠some t->verS ops (λk=>done k||k==i) t=verS ops done t:=by
   intro t ht
   refine last_congr λj hj=>?_
   by_cases e:j=i
   · subst e
     have:dstB ops j t=false:=by
       cases hb:dstB ops j t with
       |false=>rfl
       |true=>exact absurd ((dstB_iff ho).1 hb) ht
     dsimp only
     rw[this];simp
   · have:(j==i)=false:=by simpa using e
     dsimp only
     rw[this];simp
 have hown:∀t,o.dst=some t->verS ops (λk=>done k||k==i) t=i+1:=by
  intro t ht;refine last_eq hi ?_ λj h1 h2=>?_;have:=(dstB_iff ho).2 ht;dsimp only;rw[this];simp;have h3:=slotE t (.inr ht) j h2;have:(j==i)=false:=by simp;omega
  dsimp only;rw[this,Bool.or_false,h3];simp;omega
 have liveP:∀(G':Gh)(v:Value)(r:Option (SV α)),G.le G'->(∀t,o.dst=some t->(st (i+1)).E.at t=r/\t<nt)->(∀c,r=some c->Den D G' c v)->∀t c,(st<|verS ops (λk=>done k||k==i) t).E.at t=some c->∃u,(a.put o.dst v).tmps[t]? =some u/\Den D G' c u:=by
   intro G' v r hle hr hv t c ht
   by_cases e:o.dst=some t
   · rw[hown t e] at ht
     obtain⟨h1,h2⟩:=hr t e
     rw[h1] at ht
     rw[e]
     exact⟨v,by simp[Act.put,hI.size,h2],hv c ht⟩
   · rw[hsame t e] at ht
     obtain⟨u,h1,h2⟩:=hI.live t c ht
     refine⟨u,?_,h2.up hle⟩
     cases hd:o.dst with
     |none=>exact h1
     | some d=>
       simp only[Act.put]
       rw[Array.getElem?_setIfInBounds_ne]
       · exact h1
       · intro x;subst x;exact e hd
 have szP:∀v,(a.put o.dst v).tmps.size=nt:=by
   intro v
   cases o.dst with
   |none=>exact hI.size
   |some d=>simp[Act.put,hI.size]
 have dfP:∀v,(a.put o.dst v).defers=[]:=by intro v;cases o.dst <;> exact hI.defers
 cases hoc:oc i with
 | none=>
   obtain⟨g1,g2⟩:=hoff hoc
   rw[hgd _ g1]
   simp only[Bool.false_eq_true,if_false]
   have ht0:∀x,Qi st oc i x=false:=λx=>by unfold Qi;rw[hoc]
   refine⟨G,hI.fr,dfP _,szP _,liveP G undef (some<|.tup []) (.refl G) (λt ht=>?_) (λc hcc=>by cases hcc;exact .tup .nil),hI.rep.same λx _=>?_,λj hj hdj x hx1 hx2=>hI.fresh j hj ?_ x hx1 hx2⟩
   · rw[ht] at g2;exact putDst_at g2
   · have:verM ops st oc (λk=>done k||k==i) x=verM ops st oc done x:=by
       refine last_congr λj hj=>?_
       by_cases e:j=i
       · subst e;dsimp only;rw[ht0 x];simp
       · have:(j==i)=false:=by simpa using e
         dsimp only
         rw[this];simp
     show(st<|verM ops st oc (λk=>done k||k==i) x).V.at x=_
     rw[this]
   · simp only[Bool.or_eq_false_iff] at hdj
     exact hdj.1
 | some out=>
   obtain⟨g1,g2,g3,g4⟩:=hon out hoc
   rw[hgd _ g1]
   simp only[if_true]
   obtain⟨e1,e2⟩:=QC g2
   obtain⟨k1,k2,k3⟩:=doE_small hc g3 (h0.dom i (by omega))
   let I:Nat->Prop:=λx=>x∈out.rd\/x∈out.wr\/(Zbl o.op=true/\∃y,(st i).V.at x=some y)
   have memE:∀x,I x->∀j,j<ops.size->(done j&&Qi st oc j x)=(Qi st oc j x&&decide (j<i)):=by
     intro x hx j hj
     cases hb:Qi st oc j x with
     |false=>simp
     | true=>
       by_cases e:j=i
       · subst e;simp[hdi]
       · rw[cmp j e (g4 x hx j hj e hb)];simp
   have memV:∀x,I x->(st<|verM ops st oc done x).V.at x=(st i).V.at x:=λx hx=>
     Zfz (f:=λk=>(st k).V.at x) (t:=λk=>Qi st oc k x) (λj hj hb=>h0.same j hj x hb) (Nat.le_of_lt hi) (memE x hx)
   have hRI:Qf D G I (st i).V w:=(hI.rep.sub (J:=I) λ_ _=>trivial).same λx hx=>(memV x hx).symm
   have hfr:Zen G (st i).n out.n:=λx hx1 hx2=>hI.fresh i hi hdi x hx1 (by rw[e2];exact hx2)
   have hH:Has1 D G a (st i).E o.op.operands.toList:=by
     refine⟨hI.defers,λx hx c hcc=>?_⟩
     cases x with
     | tmp t=>
       have htl:t∈looksE ops o:=by
         have:=tmpsOf_mem (opsL_mem hx)
         unfold looksE
         split
         · exact List.mem_cons_of_mem _ this
         · exact this
       obtain⟨v,h1,h2⟩:=liveI t htl c hcc
       have hlt:t<a.tmps.size:=by
         rcases Nat.lt_or_ge t a.tmps.size with h|h
         · exact h
         · rw[Array.getElem?_eq_none h] at h1;cases h1
       refine⟨?_,?_⟩
       · show Zad (full a) t=_
         rw[look_full,if_pos hlt];rfl
       · simp only[Act.eval,Array.getD_eq_getD_getElem?,h1,Option.getD_some]
         exact h2
     |const v=>exact⟨rfl,Zib D G hcc⟩
     |global g=>cases hcc
     | func f=>
       simp only[evS,Option.some.injEq] at hcc
       subst hcc
       exact⟨rfl,.fn .nil .nil⟩
   obtain⟨dst,q,ty,pos,af,gd⟩:=o
   refine k3 dst ty pos af gd G a w I hH (λx hx=>.inl hx) (λx hx=>.inr (.inl hx)) (λhcall x y hy=>.inr (.inr ⟨hcall,y,hy⟩)) hRI hfr _ λv w' G' f1 f2 f3=>?_
   have hlt:∀x,x∈out.wr->x<(st i).n:=λx hx=>by
     obtain⟨y,hy⟩:=k1.wr x hx
     exact Tr.lt (h0.dom i (by omega)) hy
   have hNi:(st (i+1)).n<=(st ops.size).n:=hmo _ _ (by omega) (Nat.le_refl _)
   have touchI:∀x,Qi st oc i x=true↔(x∈out.wr\/((st i).n<=x/\x<out.n)):=by
     intro x
     unfold Qi
     rw[hoc]
     simp only[Bool.or_eq_true,Bool.and_eq_true]
     constructor
     · rintro(h|⟨h1,h2⟩)
       · exact .inl (Qj.1 h)
       · exact .inr ⟨Nat.le_of_ble_eq_true h1,by have:=Nat.le_of_ble_eq_true h2;omega⟩
     · rintro(h|⟨h1,h2⟩)
       · exact .inl (Qj.2 h)
       · exact .inr ⟨Nat.ble_eq_true_of_le h1,Nat.ble_eq_true_of_le (by omega)⟩
   have late : ∀x,Qi st oc i x=true->∀j,i<j->j<ops.size->(done j&&Qi st oc j x)=false:=by
     intro x hx j h1 h2
     cases hb:Qi st oc j x with
     |false=>simp
     | true=>
       simp only[Bool.and_true]
       rcases(touchI x).1 hx with h|⟨h3,h4⟩
       · have:=memE x (.inr (.inl h)) j h2
         rw[hb] at this
         simp only[Bool.and_true,Bool.true_and] at this
         rw[this];simp;omega
       ·
         obtain⟨oj,hoj,hoffj,honj⟩:=h0.step j h2
         unfold Qi at hb
         split at hb
         · rename_i outj hocj
           simp only[Bool.or_eq_true,Bool.and_eq_true] at hb
           rcases hb with hb|⟨hb1,hb2⟩
           · obtain⟨_,_,_,j4⟩:=honj outj hocj
             have:=(j4 x (.inr (.inl (Qj.1 hb))) i hi (by omega) hx).1 h1
             cases hdj:done j with
             |false=>rfl
             | true=>
               have:=anc_done hcl this (hcl j hdj)
               rw[hdi] at this;cases this
           · have h5:=Nat.le_of_ble_eq_true hb1
             have h6:=hmo (i+1) j (by omega) (by omega)
             omega
         · cases hb
   have verI:∀x,Qi st oc i x=true->verM ops st oc (λk=>done k||k==i) x=i+1:=by
     intro x hx
     refine last_eq hi (by dsimp only;rw[hx];simp) λj h1 h2=>?_
     have:(j==i)=false:=by simp;omega
     dsimp only
     rw[this,Bool.or_false]
     exact late x hx j h1 h2
   have verO:∀x,Qi st oc i x=false->verM ops st oc (λk=>done k||k==i) x=verM ops st oc done x:=by
     intro x hx
     refine last_congr λj hj=>?_
     by_cases e:j=i
     · subst e;dsimp only;rw[hx];simp
     · have:(j==i)=false:=by simpa using e
       dsimp only
       rw[this];simp
   refine⟨G',hI.fr.comp f1 (λx hx=>⟨k2 x hx,?_⟩) (hmo 0 i (by omega) (by omega)) (by omega),dfP _,szP _,liveP G' v out.r f1.le (λt ht=>?_) f2,?_,λj hj hdj x hx1 hx2=>?_⟩
   · have:=hlt x hx
     have:=hmo i ops.size (by omega) (Nat.le_refl _)
     omega
   · have ht':dst=some t:=ht
     rw[ht'] at g2;exact putDst_at g2
   · have:=hI.rep.step (V':=λx=>(st<|verM ops st oc (λk=>done k||k==i) x).V.at x) f1 (λ_ _=>trivial) (λx hx=>?_) (λx hx1 hx2=>?_) (f3.same λx hx=>?_) hfr
     · exact this.sub λ_ _=>.inl trivial
     · obtain⟨y,hy⟩:=k1.wr x hx
       exact⟨y,by rw[memV x (.inr (.inl hx))];exact hy⟩
     · have:Qi st oc i x=false:=by
         cases hb:Qi st oc i x with
         |false=>rfl
         | true=>
           rcases(touchI x).1 hb with h|h
           · exact absurd h hx1
           · exact absurd h hx2
       show(st<|verM ops st oc (λk=>done k||k==i) x).V.at x=_
       rw[verO x this]
     · show(st<|verM ops st oc (λk=>done k||k==i) x).V.at x=_
       rw[verI x ((touchI x).2 hx),e1]
   · simp only[Bool.or_eq_false_iff] at hdj
     have hji:j≠i:=by simpa using hdj.2
     have hold:=hI.fresh j hj hdj.1 x hx1 hx2
     cases hb:G'.blk x with
     |none=>rfl
     | some z=>
       rcases f1.gb x z hb with h|⟨⟨h1,h2⟩,_⟩
       · rw[hold] at h;cases h
       · rcases Nat.lt_or_ge j i with h3|h3
         · have:=hmo (j+1) i (by omega) (by omega)
           omega
         · have:=hmo (i+1) j (by omega) (by omega)
           omega
 intro done a w ⟨G,hI⟩ hall
 have allS:∀t,(st<|verS ops done t).E.at t=(st ops.size).E.at t:=λt=>
   Zfz (f:=λk=>(st k).E.at t) (t:=λk=>dstB ops k t) (λj hj hb=>h0.slotNe j hj t hb) (Nat.le_refl _) λj hj=>by rw[hall j hj];simp[hj]
 have allM:∀x,(st<|verM ops st oc done x).V.at x=(st ops.size).V.at x:=λx=>
   Zfz (f:=λk=>(st k).V.at x) (t:=λk=>Qi st oc k x) (λj hj hb=>h0.same j hj x hb) (Nat.le_refl _) λj hj=>by rw[hall j hj];simp[hj]
 exact hq a w G hI.fr ⟨hI.defers,hI.size,λt c ht=>hI.live t c (by rw[allS];exact ht)⟩<|hI.rep.same λx _=>(allM x).symm;intro i h;rw[Zf0] at h;cases h;have:verS ops (λk=>(Array.replicate ops.size false).getD k false) t=0:=lastF _ _ λi _=>by dsimp only;rw[Zf0];simp
 rw[this] at ht;exact hL0.at_ t c ht;have:verM ops st oc (λk=>(Array.replicate ops.size false).getD k false) x=0:=lastF _ _ λi _=>by dsimp only;rw[Zf0];simp
 show(st<|verM ops st oc _ x).V.at x=_;rw[this];have:=hmo 0 i (by omega) (by omega);omega;have:=hmo (i+1) ops.size (by omega) (Nat.le_refl _);omega
theorem drawE_ok(hc:Zep P D cf)(hmo:P.follows .mixedOrders=true){E:Tr (SV α)}{V:Hp α}{n:Nat}{s:R3 α}(h:drawE P D cf lim nt ops E V n=some s)(hl:lim<=n)(hd:∀i,n<=i->V.at i=none):
    Stat lim V n s.V s.n/\∀(id:Nat) G a w,Za7 D G nt a E->Qf D G All V w->Zen G n s.n->∀Q:Exit->Act->World->Prop,(∀a' w' G',Zfo D lim nt n s G w a' w' G'->Q .normal a' w')->(Code.region id ops true).wp P Q a w:=by
 unfold drawE at h;split at h;rename_i hbs;simp only[Bool.and_eq_true] at hbs;split at h;rename_i s' l hgo;split at h;rename_i hp;simp only[Option.some.injEq] at h;subst h;obtain⟨st,oc,e0,em,_,hst⟩:=drawGo_ok ops.toList 0 E V n [] s' l hgo (by simp) (Nat.zero_le _);have h0:Ev0 P D cf lim nt ops st oc:=ev0_of hc hbs.1 hbs.2 hp (by rw[e0];exact hd) λi hi=>hst i (Nat.zero_le _) hi
 have hle:∀d,d<=ops.size->n<=(st d).n/\∀x,x<lim->(st d).V.at x=V.at x:=by
   intro d
   induction d with
   |zero=>intro _;rw[e0];exact⟨Nat.le_refl _,λ_ _=>rfl⟩
   | succ d ih=>
     intro hd'
     obtain⟨i1,i2⟩:=ih (by omega)
     refine⟨Nat.le_trans i1 (h0.le d (by omega)),λx hx=>?_⟩
     rw[h0.same d (by omega) x,i2 x hx]
     unfold Qi
     split
     · rename_i out hoc
       simp only[Bool.or_eq_false_iff,Bool.and_eq_false_iff]
       refine⟨?_,.inl ?_⟩
       · cases hb:memN out.wr x with
         |false=>rfl
         | true=>
           have:=(h0.wr d (by omega) out hoc x<|Qj.1 hb).1
           omega
       · cases hb:Nat.ble (st d).n x with
         |false=>rfl
         |true=>have:=Nat.le_of_ble_eq_true hb;omega
     · rfl
 have hm:=hle ops.size (Nat.le_refl _);have hdm:=h0.dom ops.size (Nat.le_refl _);rw[em] at hm hdm;refine⟨⟨hm.1,hm.2,hdm⟩,λid G a w hL hR hf Q hq=>wp_region_any hmo ?_⟩;have hFw:∀{G':Gh} {w':World} {wr:Nat->Prop} {n n':Nat},Fra G {w with drawn:=w.drawn+1} G' w' wr n n'->Fra G w G' w' wr n n':=λh=>⟨h.le,h.os,h.tape,h.output,h.size,Nat.le_trans (Nat.le_succ _) h.drawn,h.blk,h.gS,h.gb⟩;refine draw_any hc h0 (G0:=G) (a0:=a) (w0:={w with drawn:=w.drawn+1}) (by rw[e0];exact hL) (by rw[e0];exact⟨hR.holds,hR.obj,hR.inj⟩) (by rw[e0,em];exact hf) λa' w' G' f1 f2 f3=>hq a' w' G' ?_;rw[e0,em] at f1;rw[em] at f2 f3;exact⟨hFw f1,f2,f3⟩;cases h;cases h;cases h
end
end
section
inductive Ex where
  |norm
  |exit (i:Nat)
  |ret
def Ex.to:Ex->Exit
  | .norm=>.normal
  | .exit i=>.exit i
  | .ret=>.ret
section
variable{α:Type}{D:Dom α}{P:Program}
structure R4(α:Type) where
  ex:Ex
  s:R3 α
abbrev RunF(α:Type):=Nat->Nat->Code->Tr (SV α)->Hp α->Nat->Option (R4 α)
def wrapR(o:Option (R3 α)):Option (R4 α):=match o with
  |some s=>some ⟨.norm,s⟩
  |none=>none
def runSeq(rec:RunF α)(lim nt:Nat)(b:Code)(r:R4 α):Option (R4 α):=match r.ex with
  | .norm=>rec lim nt b r.s.E r.s.V r.s.n
  |_=>some r
def runBlk(id:Nat)(r:R4 α):Option (R4 α):=match r.ex with
  | .exit j=>match Nat.beq j id with
    |true=>some ⟨.norm,r.s⟩
    |false=>some r
  |_=>some r
def runS(P:Program)(D:Dom α)(cf:Za8 α)(rec:RunF α):RunF α:=λlim nt c E V n=>match c with
  | .skip=>some ⟨.norm,⟨E,V,n⟩⟩
  | .label _=>some ⟨.norm,⟨E,V,n⟩⟩
  | .region _ ops draw=>match draw with
    |false=>wrapR (seqE P D cf lim nt ops ops.toList E V n)
    |true=>wrapR (drawE P D cf lim nt ops E V n)
  | .seq a b=>match rec lim nt a E V n with
    |some r=>runSeq rec lim nt b r
    |none=>none
  | .cond c x y=>match evS E c with
    |some (.bool true)=>rec lim nt x E V n
    |some (.bool false)=>rec lim nt y E V n
    |_=>none
  | .block id b=>match rec lim nt b E V n with
    |some r=>runBlk id r
    |none=>none
  | .loop b=>match rec lim nt b E V n with
    |some r=>runSeq rec lim nt (.loop b) r
    |none=>none
  | .exit id=>some ⟨.exit id,⟨E,V,n⟩⟩
  | .ret=>some ⟨.ret,⟨E,V,n⟩⟩
  | .scope b=>rec lim nt b E V n
  |_=>none
def Lands(P:Program)(D:Dom α)(lim nt:Nat)(E:Tr (SV α))(V:Hp α)(n:Nat)(r:R4 α)(W:(Exit->Act->World->Prop)->Act->World->Prop):Prop:=
  ∀G a w,Za7 D G nt a E->Qf D G All V w->Zen G n r.s.n->∀Q:Exit->Act->World->Prop,(∀a' w' G',Zfo D lim nt n r.s G w a' w' G'->Q r.ex.to a' w')->W Q a w
def RunOK(P:Program)(D:Dom α)(rec:RunF α):Prop:=∀lim nt c E V n r,rec lim nt c E V n=some r->lim<=n->(∀i,n<=i->V.at i=none)->
  Stat lim V n r.s.V r.s.n/\Lands P D lim nt E V n r (λQ=>c.wp P Q)/\∀b,c= .loop b->∃N,Lands P D lim nt E V n r (λQ=>Code.rounds P b Q N)
theorem Zfo.refl{lim nt n:Nat}{E:Tr (SV α)}{V:Hp α}{G:Gh}{a:Act}{w:World}(hL:Za7 D G nt a E)(hR:Qf D G All V w):Zfo D lim nt n ⟨E,V,n⟩ G w a w G:=⟨.refl _ _ _ _ _,hL,hR⟩
theorem Zfo.trans{lim nt n:Nat}{s s':R3 α}{G G' G'':Gh}{w w' w'':World}{a' a'':Act}(h:Zfo D lim nt n s G w a' w' G')(k:Zfo D lim nt s.n s' G' w' a'' w'' G'')(l1:n<=s.n)(l2:s.n<=s'.n):Zfo D lim nt n s' G w a'' w'' G'':=
  ⟨h.fr.trans k.fr (λi hi=>⟨hi.1,Nat.lt_of_lt_of_le hi.2 l2⟩) (λ_ hi=>hi) l1 l2,k.live,k.rep⟩
theorem Zfo.fresh{lim nt n n':Nat}{s:R3 α}{G G':Gh}{w w':World}{a':Act}(h:Zfo D lim nt n s G w a' w' G')(hf:Zen G n n')(hn:n<=s.n):Zen G' s.n n':=by
 intro i h1 h2
 cases hb:G'.blk i with
 |none=>rfl
 | some z=>
   rcases h.fr.gb i z hb with h5|⟨h5,_⟩
   · rw[hf i (Nat.le_trans hn h1) h2] at h5;cases h5
   · omega
theorem Zen.sub{G:Gh}{n n' m:Nat}(h:Zen G n n')(hm:m<=n'):Zen G n m:=λi h1 h2=>h i h1<|Nat.lt_of_lt_of_le h2 hm
theorem cond_ev{nt:Nat}{G:Gh}{a:Act}{E:Tr (SV α)}{c:Operand}{b:Bool}(hL:Za7 D G nt a E)(h:evS E c=some (.bool b)):a.eval c= .bool b:=by
 have:=hL.ops [c] c (by simp) _ h;generalize a.eval c=p at*;cases this;rfl
theorem seqRun{lim nt n:Nat}{V:Hp α}{rec:RunF α}(hrec:RunOK P D rec){r:R4 α}{b:Code}{o:R4 α}(h:runSeq rec lim nt b r=some o)(h1:Stat lim V n r.s.V r.s.n)(hl:lim<=n):
    Stat lim V n o.s.V o.s.n/\r.s.n<=o.s.n/\∀G w,Zen G n o.s.n->∀Q:Exit->Act->World->Prop,(∀a' w' G',Zfo D lim nt n o.s G w a' w' G'->Q o.ex.to a' w')->
      (∀a' w' G',Zfo D lim nt n r.s G w a' w' G'->Exit.then (b.wp P Q) Q r.ex.to a' w')/\∀bb,b= .loop bb->∃N,∀G w,Zen G n o.s.n->∀Q:Exit->Act->World->Prop,(∀a' w' G',Zfo D lim nt n o.s G w a' w' G'->Q o.ex.to a' w')->∀a' w' G',Zfo D lim nt n r.s G w a' w' G'->Exit.then (Code.rounds P bb Q N) Q r.ex.to a' w':=by
 unfold runSeq at h
 cases hex:r.ex with
 | norm=>
   simp only[hex] at h
   obtain⟨k1,k2,k3⟩:=hrec lim nt b _ _ _ o h (Nat.le_trans hl h1.le) h1.dom
   refine⟨h1.trans k1,k1.le,λG w hf Q hq=>⟨λa' w' G' hg=>?_,λbb hb=>?_⟩⟩
   · exact k2 G' a' w' hg.live hg.rep (hg.fresh hf h1.le) Q λa2 w2 G2 hg2=>hq a2 w2 G2 (hg.trans hg2 h1.le k1.le)
   · obtain⟨N,hN⟩:=k3 bb hb
     exact⟨N,λG w hf Q hq a' w' G' hg=>hN G' a' w' hg.live hg.rep (hg.fresh hf h1.le) Q λa2 w2 G2 hg2=>hq a2 w2 G2<|hg.trans hg2 h1.le k1.le⟩
 | exit j=>
   simp only[hex,Option.some.injEq] at h
   subst h
   refine⟨h1,Nat.le_refl _,λG w hf Q hq=>⟨λa' w' G' hg=>?_,λbb hb=>⟨0,λG w hf Q hq a' w' G' hg=>?_⟩⟩⟩
   · have:=hq a' w' G' hg
     rw[hex] at this;exact this
   · have:=hq a' w' G' hg
     rw[hex] at this;exact this
 | ret=>
   simp only[hex,Option.some.injEq] at h
   subst h
   refine⟨h1,Nat.le_refl _,λG w hf Q hq=>⟨λa' w' G' hg=>?_,λbb hb=>⟨0,λG w hf Q hq a' w' G' hg=>?_⟩⟩⟩
   · have:=hq a' w' G' hg
     rw[hex] at this;exact this
   · have:=hq a' w' G' hg
     rw[hex] at this;exact this
theorem runS_ok(hmo:P.follows .mixedOrders=true){cf:Za8 α}(hc:Zep P D cf){rec:RunF α}(hrec:RunOK P D rec):RunOK P D (runS P D cf rec):=by
 intro lim nt c E V n r h hl hd;unfold runS at h;have stay:Stat lim V n V n:=⟨Nat.le_refl _,λ_ _=>rfl,hd⟩
 cases c with
 | skip=>
   cases h
   exact⟨stay,λG a w hL hR hf Q hq=>wp_skip<|hq a w G<|.refl hL hR,λb hb=>by cases hb⟩
 | label l=>
   cases h
   exact⟨stay,λG a w hL hR hf Q hq=>wp_label<|hq a w G<|.refl hL hR,λb hb=>by cases hb⟩
 | exit id=>
   cases h
   exact⟨stay,λG a w hL hR hf Q hq=>wp_exit<|hq a w G<|.refl hL hR,λb hb=>by cases hb⟩
 | ret=>
   cases h
   exact⟨stay,λG a w hL hR hf Q hq=>wp_ret<|hq a w G<|.refl hL hR,λb hb=>by cases hb⟩
 | region id ops draw=>
   simp only at h
   cases draw with
   | false=>
     simp only[wrapR] at h
     split at h
     · rename_i s hs
       cases h
       obtain⟨h1,h2⟩:=seqE_ok hc ops.toList E V n s hs hl hd
       exact⟨h1,λG a w hL hR hf Q hq=>Za<|h2 G a w hL hR hf Q hq,λb hb=>by cases hb⟩
     · cases h
   | true=>
     simp only[wrapR] at h
     split at h
     · rename_i s hs
       cases h
       obtain⟨h1,h2⟩:=drawE_ok hc hmo hs hl hd
       exact⟨h1,λG a w hL hR hf Q hq=>h2 id G a w hL hR hf Q hq,λb hb=>by cases hb⟩
     · cases h
 | seq x y=>
   simp only at h
   split at h
   · rename_i r1 hr1
     obtain⟨h1,h2,_⟩:=hrec lim nt x E V n r1 hr1 hl hd
     obtain⟨k1,k2,k3⟩:=seqRun (D:=D) (V:=V) (n:=n) hrec h h1 hl
     exact⟨k1,λG a w hL hR hf Q hq=>wp_seq<|h2 G a w hL hR (hf.sub k2) _ (k3 G w hf Q hq).1,λb hb=>by cases hb⟩
   · cases h
 | cond c x y=>
   simp only at h
   split at h
   · rename_i hcc
     obtain⟨h1,h2,_⟩:=hrec lim nt x E V n r h hl hd
     exact⟨h1,λG a w hL hR hf Q hq=>wp_cond_true (cond_ev hL hcc)<|h2 G a w hL hR hf Q hq,λb hb=>by cases hb⟩
   · rename_i hcc
     obtain⟨h1,h2,_⟩:=hrec lim nt y E V n r h hl hd
     exact⟨h1,λG a w hL hR hf Q hq=>wp_cond_false (cond_ev hL hcc)<|h2 G a w hL hR hf Q hq,λb hb=>by cases hb⟩
   · cases h
 | block id b=>
   simp only at h
   split at h
   · rename_i r1 hr1
     obtain⟨h1,h2,_⟩:=hrec lim nt b E V n r1 hr1 hl hd
     unfold runBlk at h
     have same:∀(hs:r.s=r1.s),(∀(Q:Exit->Act->World->Prop) a' w',Q r.ex.to a' w'->Exit.inBlock id Q r1.ex.to a' w')->Stat lim V n r.s.V r.s.n/\Lands P D lim nt E V n r (λQ=>(Code.block id b).wp P Q)/\∀b',Code.block id b= .loop b'->∃N,Lands P D lim nt E V n r (λQ=>Code.rounds P b' Q N):=by
       intro hs hx
       refine⟨by rw[hs];exact h1,λG a w hL hR hf Q hq=>wp_block<|h2 G a w hL hR (by rw[<-hs];exact hf) _ λa' w' G' hg=>hx Q a' w'<|hq a' w' G' (by rw[hs];exact hg),λb' hb=>by cases hb⟩
     cases hex:r1.ex with
     | exit j=>
       simp only[hex] at h
       split at h
       · rename_i hj
         rw[YY] at hj
         subst hj
         cases h
         exact same rfl λQ a' w' hq=>by simpa [hex,Ex.to,Exit.inBlock] using hq
       · rename_i hj
         have hj':j≠id:=λe=>by
           subst e
           have:Nat.beq j j=true:=by simp
           rw[this] at hj;cases hj
         cases h
         exact same rfl λQ a' w' hq=>by simpa [hex,Ex.to,Exit.inBlock,hj'] using hq
     | norm=>
       simp only[hex,Option.some.injEq] at h;subst h
       exact same rfl λQ a' w' hq=>by rw[hex] at hq ⊢;exact hq
     | ret=>
       simp only[hex,Option.some.injEq] at h;subst h
       exact same rfl λQ a' w' hq=>by rw[hex] at hq ⊢;exact hq
   · cases h
 | loop b=>
   simp only at h
   split at h
   · rename_i r1 hr1
     obtain⟨h1,h2,_⟩:=hrec lim nt b E V n r1 hr1 hl hd
     obtain⟨k1,k2,k3⟩:=seqRun (D:=D) (V:=V) (n:=n) hrec h h1 hl
     have hN:∃N,Lands P D lim nt E V n r (λQ=>Code.rounds P b Q N):=by
       obtain⟨N,hN⟩:∃N,∀G w,Zen G n r.s.n->∀Q:Exit->Act->World->Prop,(∀a' w' G',Zfo D lim nt n r.s G w a' w' G'->Q r.ex.to a' w')->∀a' w' G',Zfo D lim nt n r1.s G w a' w' G'->Exit.then (Code.rounds P b Q N) Q r1.ex.to a' w':=by
         have:=(k3 ⟨λ_=>none,λ_=>none⟩ default (λ_ _ _=>rfl) (λ_ _ _=>True) (λ_ _ _ _=>trivial)).2 b rfl
         exact this
       exact⟨N+1,λG a w hL hR hf Q hq=>h2 G a w hL hR (hf.sub k2) _<|hN G w hf Q hq⟩
     refine⟨k1,?_,λb' hb=>?_⟩
     · obtain⟨N,hN⟩:=hN
       exact λG a w hL hR hf Q hq=>wp_loop_rounds N (hN G a w hL hR hf Q hq)
     · cases hb
       exact hN
   · cases h
 | scope b=>
   simp only at h
   obtain⟨h1,h2,_⟩:=hrec lim nt b E V n r h hl hd
   refine⟨h1,λG a w hL hR hf Q hq=>wp_scope_straight<|h2 G a w hL hR hf _ λa' w' G' hg=>?_,λb hb=>by cases hb⟩
   have:=hq a' w' G' hg
   cases hex:r.ex <;> rw[hex] at this <;> exact this
 |goto l=>cases h
 |rangeFunc f ps x y=>cases h
 |refuse s=>cases h
def argsE(l:List (SV α)):Nat->Tr (SV α)->Tr (SV α):=List.rec (λ_ E=>E) (λv _ ih i E=>ih (Nat.succ i)<|E.put i<|some v) l
theorem argsE_at:∀(l:List (SV α))(i:Nat)(E:Tr (SV α))(t:Nat),(argsE l i E).at t=if i<=t/\t<i+l.length then l[t-i]? else E.at t
  |[],i,E,t=>by rw[if_neg (by simp only[List.length_nil];omega)];rfl
  | v ::r,i,E,t=>by
    show(argsE r (i+1)<|E.put i<|some v).at t=_
    rw[argsE_at r (i+1) _ t]
    by_cases h:i+1<=t/\t<i+1+r.length
    · rw[if_pos h,if_pos (by simp only[List.length_cons];omega),show t-i=(t-(i+1))+1 by omega,List.getElem?_cons_succ]
    · rw[if_neg h,Tr.at_put_if]
      by_cases h2:t=i
      · subst h2
        rw[if_pos rfl,if_pos (by simp only[List.length_cons];omega)]
        simp
      · rw[if_neg h2,if_neg (by simp only[List.length_cons];omega)]
theorem Za7.start{G:Gh}{args:List (SV α)}{vs:List Value}(h:QB D G args vs)(k:Nat):Za7 D G (vs.length+k) {tmps:=vs.toArray++Array.replicate k undef,defers:=[]} (argsE args 0 .nil):=by
 refine⟨rfl,by simp,λt c ht=>?_⟩;rw[argsE_at] at ht;split at ht;rename_i hlt;rw[Nat.sub_zero] at ht;obtain⟨v,h1,h2⟩:=h.get ht;refine⟨v,?_,h2⟩;obtain⟨h3,_⟩:=List.getElem?_eq_some_iff.1 h1;rw[Array.getElem?_append_left (by simpa using h3)];simpa using h1;unfold Tr.at at ht;rw[Tr.get_nil] at ht;cases ht
def resE(P : Program)(D:Dom α)(V:Hp α)(E:Tr (SV α)):List ResultVar->Option (List<|SV α)
  |[]=>some []
  | .tmp t::r=>match E.at t with
    | some v=>match resE P D V E r with
      |some vs=>some (v::vs)
      |none=>none
    |none=>none
  | .cell t T ::r=>match E.at t with
    | some (.ptr (some p))=>match V.at p.1 with
      | some (.cells _ sz rows _)=>match Zgf P T with
        | some true=>match Yy P T with
          | some m=>match cellsAt D sz rows p.2 m with
            | some C=>match resE P D V E r with
              |some vs=>some (.agg C::vs)
              |none=>none
            |none=>none
          |none=>none
        | some false=>match cellsAt D sz rows p.2 1 with
          | some C=>match mkVal D false C with
            | some c=>match resE P D V E r with
              |some vs=>some (c::vs)
              |none=>none
            |none=>none
          |none=>none
        |none=>none
      |_=>none
    |_=>none
theorem resE_ok{G:Gh}{nt:Nat}{a:Act}{w:World}{V:Hp α}{E:Tr (SV α)}(hL:Za7 D G nt a E)(hR:Qf D G All V w):∀{rs:List ResultVar} {cs:List (SV α)},resE P D V E rs=some cs->∃vs,Res P (full a) w rs vs/\QB D G cs vs
  |[],cs,h=>by simp[resE] at h;subst h;exact⟨[],.nil,.nil⟩
  | .tmp t::r,cs,h=>by
    simp only[resE] at h
    split at h
    · rename_i v hv
      split at h
      · rename_i vs hvs
        cases h
        obtain⟨us,h1,h2⟩:=resE_ok hL hR hvs
        have h3:=(hL.has1 [.tmp t]).at_ (.tmp t) (by simp) v hv
        exact⟨_::us,.tmp h3.ex h1,.cons h3.den h2⟩
      · cases h
    · cases h
  | .cell t T ::r,cs,h=>by
    simp only[resE] at h
    split at h
    · rename_i p hv
      have h3:=(hL.has1 [.tmp t]).at_ (.tmp t) (by simp) _ hv
      obtain⟨b,c,hb,hev⟩:=h3.ptr
      split at h
      · rename_i T' sz rows gr hob
        obtain⟨b',c',cs',slack,e1,e2,e3,e4,e5,e6⟩:=hR.cells (i:=p.1) trivial hob
        rw[hb] at e1
        cases e1
        split at h
        · rename_i hA
          split at h
          · rename_i m hm
            split at h
            · rename_i C hC
              split at h
              · rename_i vs hvs
                cases h
                obtain⟨us,h1,h2⟩:=resE_ok hL hR hvs
                obtain⟨xs,x1,x2,x3⟩:=Zeg hC e4
                exact⟨_::us,.agg hev hA hm e3 (Zhg x1 x2) x2 h1,.cons (.agg x3) h2⟩
              · cases h
            · cases h
          · cases h
        · rename_i hA
          split at h
          · rename_i C hC
            split at h
            · rename_i cc hcc
              split at h
              · rename_i vs hvs
                cases h
                obtain⟨us,h1,h2⟩:=resE_ok hL hR hvs
                obtain⟨xs,x1,x2,x3⟩:=Zeg hC e4
                obtain⟨v,rfl,hvd⟩:=mkVal_one hcc x3
                have x4:=Zhg (slack:=slack) x1 x2
                have x5:=congrArg (λl=>l[0]?) x4
                exact⟨v::us,.one hev hA e3 (by simpa [List.getElem?_take,List.getElem?_drop] using x5) h1,.cons hvd h2⟩
              · cases h
            · cases h
          · cases h
        · cases h
      · cases h
    · cases h
def packE:List (SV α)->SV α
  |[v]=>v
  |vs=>.tup vs
theorem packE_den{G:Gh}{cs:List (SV α)}{vs:List Value}(h:QB D G cs vs):Den D G (packE cs) (pack vs):=by
 cases h with
 |nil=>exact .tup .nil
 | cons h1 h2=>cases h2 with
   |nil=>exact h1
   |cons h3 h4=>exact .tup (.cons h1 (.cons h3 h4))
def PrimOK(P:Program)(D:Dom α)(prim:FuncId->List (SV α)->Option (SV α)):Prop:=
  ∀f args r,prim f args=some r->∀G w vs,QB D G args vs->ZV G.S w->Zcl P f vs w λv w'=>∃S',Ext G.S w S' w'/\Den D ⟨S',G.blk⟩ r v
def callB(P:Program)(D:Dom α)(prim:FuncId->List (SV α)->Option (SV α))(rec:RunF α):Za8 α:=λlim f args V n=>match prim f args with
  |some r=>some ⟨r,V,n⟩
  | none => match P.funcs[f]? with
    | some fn =>match fn.body with
      | some c=>match ZR P f with
        | true=>match Nat.ble (lenL args) fn.ntmps with
          | true=>match rec lim fn.ntmps c (argsE args 0 .nil) V n with
            | some r=>match r.ex with
              | .exit _=>none
              | _=>match resE P D r.s.V r.s.E fn.results.toList with
                |some vs=>some ⟨packE vs,r.s.V,r.s.n⟩
                |none=>none
            |none=>none
          |false=>none
        |false=>none
      |none=>none
    |none=>none
theorem QB.len{G:Gh}{cs:List (SV α)}{vs:List Value}(h:QB D G cs vs):vs.length=cs.length:=by
 induction cs generalizing vs with
 |nil=>cases h;rfl
 |cons x r ih=>cases h with|cons h hs=>simp[ih hs]
theorem callB_ok{prim:FuncId->List (SV α)->Option (SV α)}(hp:PrimOK P D prim){rec:RunF α}(hrec:RunOK P D rec):Zep P D (callB P D prim rec):=by
 intro lim f args V n o h hl hd;unfold callB at h;split at h;rename_i r hr;cases h;refine⟨⟨Nat.le_refl _,λ_ _=>rfl,hd⟩,λG w vs hv hR hf=>(hp f args r hr G w vs hv hR.holds).mono λv w' ⟨S',hx,hden⟩=>?_⟩;have hsz:=hx.below.size;refine⟨⟨S',G.blk⟩,⟨⟨hx.le,λ_ _ h=>h⟩,hx.below.os,hx.below.tape,hx.below.output,hsz,hx.drawn,λb hb _=>hx.below.block b hb,λb o hb=>?_,λi x hx=>.inl hx⟩,hden,⟨hx.holds,λi o hi hv=>?_,hR.inj⟩⟩;rcases hx.fresh b o hb with⟨o',h1⟩|h1;have h2:=hx.le b o' h1;have hb':S' b=some o:=hb;rw[hb'] at h2;cases h2;exact .inl h1;exact .inr h1;obtain⟨b,c,u,h1,h2,h3,h4⟩:=hR.obj i o hi hv;have hlt:=(Array.getElem?_eq_some_iff.1 h3).1;refine⟨b,c,u,h1,?_,?_,h4.up (show G.le ⟨S',G.blk⟩ from⟨hx.le,λ_ _ h=>h⟩)⟩
 cases hs:S' b with
 |none=>exact hs
 | some x=>
   rcases hx.fresh b x hs with⟨o',h5⟩|h5
   · rw[h2] at h5;cases h5
   · omega
 rw[hx.below.block b hlt];exact h3;split at h;rename_i fn hfn;split at h;rename_i c hb;split at h;rename_i hent;split at h;rename_i hnt;split at h;rename_i r hr;obtain⟨h1,h2,_⟩:=hrec lim fn.ntmps c _ V n r hr hl hd
 have fin:∀vs,resE P D r.s.V r.s.E fn.results.toList=some vs->(r.ex= .norm\/r.ex= .ret)->Stat lim V n r.s.V r.s.n/\∀G w us,QB D G args us->Qf D G All V w->Zen G n r.s.n->
     Zcl P f us w λv w'=>∃G',Fra G w G' w' (Lw lim r.s.n) n r.s.n/\Den D G' (packE vs) v/\Qf D G' All r.s.V w':=by
   intro vs hvs hex
   refine⟨h1,λG w us hus hR hf=>.inl ⟨hent,?_⟩⟩
   have hlen:=hus.len
   have hnt':=Nat.le_of_ble_eq_true hnt
   rw[Zd3] at hnt'
   have hn:us.length+(fn.ntmps-us.length)=fn.ntmps:=by omega
   refine calls_of_wp hfn hb ?_
   have hst:=Za7.start hus (fn.ntmps-us.length)
   rw[hn] at hst
   refine h2 G _ w (by simpa using hst) hR hf _ λa' w' G' hg=>?_
   obtain⟨ws,k1,k2⟩:=resE_ok hg.live hg.rep hvs
   have hbody:∀e,(e=Exit.normal\/e=Exit.ret)->bodyPost P fn (λe w'=>∃v,e= .returned v/\∃G',Fra G w G' w' (Lw lim r.s.n) n r.s.n/\Den D G' (packE vs) v/\Qf D G' All r.s.V w') e a' w':=by
     intro e he
     have hres:=Zn (P:=P) (fn:=fn) (R:=λe w'=>∃v,e= .returned v/\∃G',Fra G w G' w' (Lw lim r.s.n) n r.s.n/\Den D G' (packE vs) v/\Qf D G' All r.s.V w') (ZD.full hg.live.defers) (rs:=fn.results.toList) (by simp) k1 ⟨_,rfl,G',hg.fr,packE_den k2,hg.rep⟩
     rcases he with rfl|rfl
     · exact hres
     · exact hres
   rcases hex with hex|hex <;> rw[hex]
   · exact hbody _ (.inl rfl)
   · exact hbody _ (.inr rfl)
 cases hex:r.ex with
 |exit j=>rw[hex] at h;cases h
 | norm=>
   simp only[hex] at h
   split at h
   · rename_i vs hvs
     cases h
     exact fin vs hvs (.inl hex)
   · cases h
 | ret=>
   simp only[hex] at h
   split at h
   · rename_i vs hvs
     cases h
     exact fin vs hvs (.inr hex)
   · cases h
 cases h;cases h;cases h;cases h;cases h
def runN(P:Program)(D:Dom α)(prim:FuncId->List (SV α)->Option (SV α))(k:Nat):RunF α:=Nat.rec (λ_ _ _ _ _ _=>none) (λ_ ih=>runS P D (callB P D prim ih) ih) k
theorem runN_ok(hmo:P.follows .mixedOrders=true){prim:FuncId->List (SV α)->Option (SV α)}(hp:PrimOK P D prim):∀k,RunOK P D (runN P D prim k)
  |0=>λlim nt c E V n r h=>by cases h
  |k+1=>runS_ok hmo (callB_ok hp<|runN_ok hmo hp k)<|runN_ok hmo hp k
theorem ev_call(hmo:P.follows .mixedOrders=true){prim:FuncId->List (SV α)->Option (SV α)}(hp:PrimOK P D prim){k f:Nat}{args:List (SV α)}{o:CR α}(h:callB P D prim (runN P D prim k) 0 f args .nil 0=some o){S:Sh}{w:World}{vs:List Value}(hS:ZV S w)(hd:QB D ⟨S,λ_=>none⟩ args vs):Zcl P f vs w λv w'=>∃S' blk',Ext S w S' w'/\Den D ⟨S',blk'⟩ o.r v:=by
 have hnil:∀i,(Tr.nil:Hp α).at i=none:=λi=>Tr.get_nil _;obtain⟨_,h2⟩:=callB_ok hp (runN_ok hmo hp k) 0 f args .nil 0 o h (Nat.le_refl _) (λi _=>hnil i);refine(h2 ⟨S,λ_=>none⟩ w vs hd ⟨hS,λi o _ hv=>(by rw[hnil] at hv;cases hv),λi j o o' b c c' _ _ hv=>(by rw[hnil] at hv;cases hv)⟩ (λ_ _ _=>rfl)).mono λv w' ⟨G',hf,hden,hrep⟩=>⟨G'.S,G'.blk,⟨hf.le.S,hrep.holds,λb o hb=>?_,⟨hf.os,hf.tape,hf.output,hf.size,λb hb=>hf.blk b hb (λ⟨i,c,_,hx⟩=>(by cases hx))⟩,hf.drawn⟩,hden⟩;rcases hf.gS b o hb with h3|h3;exact .inl ⟨o,h3⟩;exact .inr h3
end
end
theorem Zc2(l m:List Nat):Xb l++Xb m=Xb (l++m):=by
 unfold Xb;apply ByteArray.ext;simp
def wd(l:List Nat):Prop:=l≠[]/\(∀c∈l,48<=c/\c<=57)/\(l.length=1\/l.getD 0 0≠48)
instance(l:List Nat):Decidable (wd l):=by unfold wd;infer_instance
def Xw(l:List Nat):Nat:=val 10 (l.reverse.map (· - 48))
def decs(n:Nat):List Nat:=if n=0 then [48] else((ZL 10 n).map (· +48)).reverse
def txt(n:Nat):ByteArray:=Xb (decs n)
theorem pval_snoc(l:List Nat)(c:Nat):Xw (l++[c])=10*Xw l+(c-48):=by
 unfold Xw;rw[List.reverse_append];simp only[List.reverse_cons,List.reverse_nil,List.nil_append,List.singleton_append,List.map_cons,val];omega
theorem decs_dig(n:Nat):∀c∈decs n,48<=c/\c<=57:=by
 unfold decs;split;simp;intro c hc;rw[List.mem_reverse,List.mem_map] at hc;obtain⟨d,hd,rfl⟩:=hc;have:=Zee (B:=10) (by decide) n d hd;omega
theorem decs_lt(n:Nat):∀c∈decs n,c<256:=λc hc=>by have:=decs_dig n c hc;omega
theorem bl_txt(n:Nat):bl (txt n)=decs n:=Qr (decs_lt n)
theorem map_sub_add(l:List Nat):(l.map (· +48)).map (· - 48)=l:=by
 rw[List.map_map];have:((λx:Nat=>x-48) ∘ (λx:Nat=>x+48))=id:=by funext x;simp
 rw[this,List.map_id]
theorem pval_decs(n:Nat):Xw (decs n)=n:=by
 unfold Xw decs;split;subst n;rfl;rw[List.reverse_reverse,map_sub_add,ZX (by decide)]
theorem Zch{l:List Nat}(h:wd l):decs (Xw l)=l:=by
 obtain⟨h1,h2,h3⟩:=h;have hd:∀d∈l.reverse.map (· - 48),d<10:=by intro d hd;obtain⟨c,hc,rfl⟩:=List.mem_map.1 hd;have:=h2 c (by simpa using hc);show c-48<10;omega
 have hback:(l.reverse.map (· - 48)).map (· +48)=l.reverse:=by
   rw[List.map_map]
   have key:∀r:List Nat,(∀c∈r,48<=c)->r.map ((λx:Nat=>x+48) ∘ (λx:Nat=>x-48))=r:=by
     intro r
     induction r with
     |nil=>simp
     | cons x r ih=>
       intro hh
       have:=hh x (by simp)
       rw[List.map_cons,ih (λc hc=>hh c (by simp[hc]))]
       congr 1
       show x-48+48=x
       omega
   exact key _ (λc hc=>(h2 c (by simpa using hc)).1)
 by_cases h0:l=[48];subst h0;rfl
 have hlast:(l.reverse.map (· - 48)).getLast? ≠some 0:=by
   rw[List.getLast?_map,List.getLast?_reverse]
   cases l with
   |nil=>exact absurd rfl h1
   | cons x r=>
     simp only[List.head?_cons,Option.map_some,ne_eq,Option.some.injEq]
     have hx:=h2 x (by simp)
     rcases h3 with h3|h3
     · have:r=[]:=by simpa using h3
       subst this
       intro e
       have:x=48:=by omega
       exact h0 (by rw[this])
     · simp at h3
       omega
 have hv:=digs_val (B:=10) (by decide) _ hd hlast;have hne:Xw l≠0:=by intro e;unfold Xw at e;rw[e,Xe] at hv;have:=congrArg List.length hv;simp at this;exact h1 (List.length_eq_zero_iff.1 this.symm)
 unfold decs;rw[if_neg hne];unfold Xw;rw[hv,hback,List.reverse_reverse]
theorem decs_inj{m n:Nat}(h:decs m=decs n):m=n:=by rw[<-pval_decs m,h,pval_decs]
theorem pval_lt{l:List Nat}(h:∀c∈l,48<=c/\c<=57):Xw l<10^l.length:=by
 have:=Zhc (B:=10) (by decide) (l.reverse.map (· - 48)) (λd hd=>by
   obtain⟨c,hc,rfl⟩:=List.mem_map.1 hd
   have:=h c (by simpa using hc)
   show c-48<10
   omega)
 simpa [Xw] using this
theorem tenpow{m k j:Nat}(h1:m<=3*j)(h2:10*j<=k):10^m<=2^k:=by
 have e1:10^m<=10^(3*j):=Nat.pow_le_pow_right (by decide) h1;have e2:(10^3)^j<=(2^10)^j:=Nat.pow_le_pow_left (by decide) j;have e3:2^(10*j)<=2^k:=Nat.pow_le_pow_right (by decide) h2;rw[<-Nat.pow_mul,<-Nat.pow_mul] at e2;exact Nat.le_trans e1<|Nat.le_trans e2 e3
theorem ten256:10^256<=2^900:=tenpow (m:=256) (k:=900) (j:=86) (by decide) (by decide)
theorem pval_le{l:List Nat}(h:∀c∈l,48<=c/\c<=57)(hl:l.length<=256):Xw l<=2^900:=
  Nat.le_trans (Nat.le_of_lt<|pval_lt h) (Nat.le_trans (Nat.pow_le_pow_right (by decide) hl) ten256)
theorem Zar{n k:Nat}(h:n<=2^k):(decs n).length<=k+1:=by
 unfold decs;split;simp;rw[List.length_reverse,List.length_map];refine Zap (by decide) (Nat.lt_of_le_of_lt h ?_)
 calc 2^k<2^(k+1):=Nat.pow_lt_pow_right (by decide) (by omega)
   _<=10^(k+1):=Nat.pow_le_pow_left (by decide) _
theorem Zfr(n:Nat):(txt n).size=(decs n).length:=by rw[<-YK,bl_txt]
theorem Zgl{B:Nat}(hB:2<=B):∀(m n:Nat),n/B^m≠0->(ZL B n).take (m+1)=(ZL B n).take m++[n/B^m%B]:=by
 intro m
 induction m with
 | zero=>
   intro n h
   have hn:n≠0:=by simpa using h
   rw[Zay hB hn];simp
 | succ m ih=>
   intro n h
   have hn:n≠0:=by intro e;subst e;simp at h
   have e:n/B^(m+1)=n/B/B^m:=by rw[Nat.pow_succ,Nat.mul_comm,Nat.div_div_eq_div_mul]
   rw[Zay hB hn,List.take_succ_cons,ih (n/B) (by rw[<-e];exact h),List.take_succ_cons,e]
   rfl
theorem Zh0{B:Nat}(hB:2<=B){m n:Nat}(h:n/B^m=0):(ZL B n).take m=ZL B n:=by
 refine List.take_of_length_le<|Zap hB ?_;rcases Nat.div_eq_zero_iff.1 h with h|h;have:=Nat.pow_pos (n:=m) (show 0<B by omega);omega;exact h
section
def DN:Dom Nat where
  size:=λ_=>2
  pred:=λa S cs=>∃k,Na S cs a k
  up:=λl ⟨k,h⟩=>⟨k,h.up l⟩
  len:=λ⟨_,h⟩=>h.len
  ones:=λ⟨_,h⟩=>h.ones
  txt:=λ_=>false
  txt_ok:=λh=>by cases h
  teq:=λ_ _=>none
  teq_ok:=λh=>by cases h
  tlen:=λ_=>none
  tlen_ok:=λh=>by cases h
  slen:=λ_=>none
  slen_ok:=λh=>by cases h
  ieq:=λ_ _=>none
  ieq_ok:=λh=>by cases h
  igt:=λ_ _=>none
  igt_ok:=λh=>by cases h
  ibin:=λ_ _ _=>none
  ibin_ok:=λh=>by cases h
  imx:=λ_ _=>none
  imx_ok:=λh=>by cases h
  imz:=λ_=>false
  imz_ok:=λh=>by cases h
def mkTab{β:Type}(l:List (Nat × β)):Tr β:=List.rec .nil (λp _ ih=>ih.put p.1<|some p.2) l
theorem mkTab_mem{β:Type}{f:Nat}{g:β}:∀{l:List (Nat × β)},(mkTab l).at f=some g->(f,g)∈l
  | [],h=>by
    have h':(Tr.nil:Tr β).at f=some g:=h
    unfold Tr.at at h'
    rw[Tr.get_nil] at h'
    cases h'
  | p ::r,h=>by
    have h':((mkTab r).put p.1 (some p.2)).at f=some g:=h
    rw[Tr.at_put_if] at h'
    split at h'
    · rename_i e
      simp only[Option.some.injEq] at h'
      rw[e,<-h'];simp
    · exact List.mem_cons_of_mem _<|mkTab_mem h'
section
variable{α:Type}
abbrev PrF(α:Type):=List (SV α)->Option (SV α)
def primOf(T:Tr (PrF α))(f:FuncId)(args:List (SV α)):Option (SV α):=Option.rec none (λg=>g args) (T.at f)
def Xq(P:Program)(D:Dom α)(f:FuncId)(g:PrF α):Prop:=∀args r,g args=some r->∀G w vs,QB D G args vs->ZV G.S w->Zcl P f vs w λv w'=>∃S',Ext G.S w S' w'/\Den D ⟨S',G.blk⟩ r v
theorem primOf_ok{P:Program}{D:Dom α}{l:List (Nat × PrF α)}(h:∀p∈l,Xq P D p.1 p.2):PrimOK P D (primOf<|mkTab l):=by
 intro f args r hr;unfold primOf at hr
 cases hT:(mkTab l).at f with
 |none=>rw[hT] at hr;cases hr
 | some g=>
   rw[hT] at hr
   exact h (f,g) (mkTab_mem hT) args r hr
theorem Zcl.ret{P:Program}{f:FuncId}{vs:List Value}{S:Sh}{w:World}{V:Sh->Value->Prop}{D:Dom α}{r:SV α}{blk:Nat->Option (Nat × Nat)}(he:ZR P f=true)(h:Calls P f vs.toArray w (Ret S w V))(k:∀S' v,V S' v->Den D ⟨S',blk⟩ r v):
    Zcl P f vs w λv w'=>∃S',Ext S w S' w'/\Den D ⟨S',blk⟩ r v:=
  .inl ⟨he,Calls.mono h λe w' ⟨v,S',h1,h2,h3⟩=>⟨v,h1,S',h2,k S' v h3⟩⟩
theorem Zcl.toRet{P:Program}{f:FuncId}{vs:List Value}{S:Sh}{w:World}{D:Dom α}{r:SV α}(he:ZR P f=true)(h:Zcl P f vs w λv w'=>∃S' blk',Ext S w S' w'/\Den D ⟨S',blk'⟩ r v):Calls P f vs.toArray w (Ret S w λS' v=>∃blk',Den D ⟨S',blk'⟩ r v):=by
 rcases h with⟨_,h⟩|⟨v,w',h,_⟩;exact Calls.mono h λe w' ⟨v,h1,S',blk',h2,h3⟩=>⟨v,S',h1,h2,blk',h3⟩;rw[Ze9 he] at h;cases h
end
def asN(x:SV Nat):Option Nat:=match x with
  | .agg l=>match l with
    |[.at_ a]=>some a
    | [.int .u64 (.ofNat a),.sl none 0 0]=>match Nat.ble a 18446744073709551615 with
      |true=>some a
      |false=>none
    |_=>none
  |_=>none
def bigOf(k:Nat):Nat:=Nat.pow 2 k
def fitN(x:SV Nat):Option Nat:=match asN x with
  | some a=>match Nat.ble a (bigOf 100000) with
    |true=>some a
    |false=>none
  |none=>none
def nv(a:Nat):SV Nat:=.agg [.at_ a]
theorem Zgi{S:Sh}{cs:List Value}{a k:Nat}{blk:Nat->Option (Nat × Nat)}(h:Na S cs a k):Den DN ⟨S,blk⟩ (nv a) (.agg cs.toArray):=by
 refine .agg ?_;have:=YW.run (D:=DN) (G:=⟨S,blk⟩) (a:=a) (us:=cs) ⟨k,h⟩ .nil;simpa using this
theorem ble_big{a k:Nat}(h:Nat.ble a (bigOf k)=true):a<=2^k:=Nat.le_of_ble_eq_true h
theorem fitN_den{G:Gh}{x:SV Nat}{v:Value}{a:Nat}(h:fitN x=some a)(hd:Den DN G x v):∃cs,v= .agg cs.toArray/\Na G.S cs a 100000:=by
 unfold fitN at h;split at h;rename_i a' ha;split at h;rename_i hb;cases h;have hb':=ble_big hb;unfold asN at ha;split at ha
 cases hd with
 | agg hl=>
   split at ha
   · cases ha
     cases hl with
     | run h1 h2=>
       cases h2
       obtain⟨k,hk⟩:=h1
       exact⟨_,rfl,by rw[List.append_nil];exact⟨hb',hk.2⟩⟩
     |one _ _ hn _=>exact absurd rfl (hn _)
   · split at ha
     · rename_i hle
       cases ha
       have hle':=Nat.le_of_ble_eq_true hle
       cases hl with
       | one h1 _ _ h2=>
         cases h1
         cases h2 with
         | one h3 _ _ h4=>
           cases h3
           cases h4
           exact⟨_,rfl,hb',_,_,rfl,.small _ (by omega)⟩
     · cases ha
   · cases ha
 cases ha;cases h;cases h
def pN1(g:Nat->SV Nat):PrF Nat:=λl=>match l with
  | [x]=>match fitN x with
    |some a=>some (g a)
    |none=>none
  |_=>none
def pN2(g:Nat->Nat->SV Nat):PrF Nat:=λl=>match l with
  | [x,y]=>match fitN x with
    | some a=>match fitN y with
      |some b=>some (g a b)
      |none=>none
    |none=>none
  |_=>none
theorem pN1_ok{P:Program}{f:FuncId}{g:Nat->SV Nat}(he:ZR P f=true)(h:∀(S:Sh)(w:World)(c:List Value)(a:Nat),ZV S w->Na S c a 100000->∃V,Calls P f [.agg c.toArray].toArray w (Ret S w V)/\∀blk S' v,V S' v->Den DN ⟨S',blk⟩ (g a) v):Xq P DN f (pN1 g):=by
 intro args r hr G w vs hd hS;unfold pN1 at hr;split at hr;split at hr;rename_i a ha;cases hr
 cases hd with
 | cons h1 h2=>
   cases h2
   obtain⟨c,rfl,hc⟩:=fitN_den ha h1
   obtain⟨V,hV,hk⟩:=h G.S w c a hS hc
   exact .ret he hV λS' v hv=>hk _ S' v hv
 cases hr;cases hr
theorem pN2_ok{P:Program}{f:FuncId}{g:Nat->Nat->SV Nat}(he:ZR P f=true)(h:∀(S:Sh)(w:World)(c d:List Value)(a b:Nat),ZV S w->Na S c a 100000->Na S d b 100000->∃V,Calls P f [.agg c.toArray,.agg d.toArray].toArray w (Ret S w V)/\∀blk S' v,V S' v->Den DN ⟨S',blk⟩ (g a b) v):Xq P DN f (pN2 g):=by
 intro args r hr G w vs hd hS;unfold pN2 at hr;split at hr;split at hr;rename_i a ha;split at hr;rename_i b hb;cases hr
 cases hd with
 | cons h1 h2=>
   cases h2 with
   | cons h3 h4=>
     cases h4
     obtain⟨c,rfl,hc⟩:=fitN_den ha h1
     obtain⟨d,rfl,hd⟩:=fitN_den hb h3
     obtain⟨V,hV,hk⟩:=h G.S w c d a b hS hc hd
     exact .ret he hV λS' v hv=>hk _ S' v hv
 cases hr;cases hr;cases hr
def cmpB(a b:Nat):Int:=match Nat.ble (Nat.succ a) b with
  |true=> -1
  | false=>match Nat.ble (Nat.succ b) a with
    |true=>1
    |false=>0
theorem cmpB_eq(a b:Nat):cmpB a b=Zcy a b:=by
 unfold cmpB Zcy;by_cases h:a<b;rw[Nat.ble_eq_true_of_le h,if_pos h]
 have h1:Nat.ble (Nat.succ a) b=false:=by
   cases hb:Nat.ble (Nat.succ a) b with
   |false=>rfl
   |true=>exact absurd (Nat.le_of_ble_eq_true hb) h
 rw[h1,if_neg h];by_cases h2:b<a;rw[Nat.ble_eq_true_of_le h2,if_pos h2]
 have h3:Nat.ble (Nat.succ b) a=false:=by
   cases hb:Nat.ble (Nat.succ b) a with
   |false=>rfl
   |true=>exact absurd (Nat.le_of_ble_eq_true hb) h2
 rw[h3,if_neg h2]
def bitB(a:Nat):Nat:=match Nat.beq a 0 with
  |true=>0
  |false=>Nat.succ<|Nat.log2 a
theorem bitB_eq(a:Nat):bitB a=ZC a:=by
 unfold bitB ZC;by_cases h:a=0;subst h;rfl;rw[if_neg h]
 have:Nat.beq a 0=false:=by
   cases hb:Nat.beq a 0 with
   |false=>rfl
   |true=>rw[YY] at hb;exact absurd hb h
 rw[this]
def decF(f:Nat):Nat->List Nat->List Nat:=Nat.rec (λ_ l=>l) (λ_ ih n l=>Bool.rec (ih (Nat.div n 10) (Nat.add 48 (Nat.mod n 10)::l)) l<|Nat.beq n 0) f
def decB(n:Nat):List Nat:=match Nat.beq n 0 with
  |true=>[48]
  |false=>decF n n []
theorem decF_eq:∀(f n:Nat)(l:List Nat),n<=f->decF f n l=((ZL 10 n).map (· +48)).reverse++l
  | 0,n,l,h=>by
    have:n=0:=by omega
    subst this
    rw[ZL];rfl
  | f + 1,n,l,h=>by
    have e:decF (f+1) n l=Bool.rec (motive:=λ_=>List Nat) (decF f (Nat.div n 10) (Nat.add 48 (Nat.mod n 10)::l)) l (Nat.beq n 0):=rfl
    rw[e]
    by_cases h0:n=0
    · subst h0;rw[ZL];rfl
    · have hb:Nat.beq n 0=false:=by
        cases hb:Nat.beq n 0 with
        |false=>rfl
        |true=>rw[YY] at hb;exact absurd hb h0
      rw[hb]
      show decF f (n/10) ((48+n%10)::l)=_
      rw[decF_eq f (n/10) _ (by omega)]
      conv=>rhs;rw[ZL]
      rw[dif_pos ⟨by omega,h0⟩]
      simp[List.append_assoc,Nat.add_comm]
theorem decB_eq(n:Nat):decB n=decs n:=by
 unfold decB decs;by_cases h:n=0;subst h;rfl;rw[if_neg h]
 have hb:Nat.beq n 0=false:=by
   cases hb:Nat.beq n 0 with
   |false=>rfl
   |true=>rw[YY] at hb;exact absurd hb h
 rw[hb];show decF n n []=_;rw[decF_eq n n [] (Nat.le_refl _),List.append_nil]
end
theorem mkRat_num(a:Int)(d:Nat)(hd:d≠0):(mkRat a d).num=a/(a.natAbs.gcd d:Nat):=by
 unfold mkRat;rw[dif_neg hd,Rat.normalize_eq]
theorem mkRat_den(a:Int)(d:Nat)(hd:d≠0):(mkRat a d).den=d/a.natAbs.gcd d:=by
 unfold mkRat;rw[dif_neg hd,Rat.normalize_eq]
theorem mkRat_num1{a:Int}{d:Nat}(hd:d≠0)(h:a.natAbs.gcd d=1):(mkRat a d).num=a:=by
 rw[mkRat_num a d hd,h];simp
theorem mkRat_den1{a:Int}{d:Nat}(hd:d≠0)(h:a.natAbs.gcd d=1):(mkRat a d).den=d:=by
 rw[mkRat_den a d hd,h];simp
def Zgb(z:Int):List Nat:=(if z<0 then [45] else [])++decs z.natAbs
def rtxt(q:Rat):List Nat:=Zgb q.num++if q.den=1 then [] else 47::decs q.den
theorem ztxt_lt(z:Int):∀c∈Zgb z,c<256:=by
 intro c hc;unfold Zgb at hc;rcases List.mem_append.1 hc with h|h;split at h;simp at h;omega;simp at h;exact decs_lt _ c h
theorem rtxt_lt(q:Rat):∀c∈rtxt q,c<256:=by
 intro c hc;unfold rtxt at hc;rcases List.mem_append.1 hc with h|h;exact ztxt_lt _ c h;split at h;simp at h;rcases List.mem_cons.1 h with h|h;omega;exact decs_lt _ c h
def Zci:List Nat->List Nat × List Nat × Bool
  |[]=>([],[],false)
  |c::r=>if c=47 then([],r,true) else(c::(Zci r).1,(Zci r).2.1,(Zci r).2.2)
theorem cutl_no{l:List Nat}(h:47∉l):Zci l=(l,[],false):=by
 induction l with
 |nil=>rfl
 | cons c r ih=>
   simp only[List.mem_cons,not_or] at h
   unfold Zci
   rw[if_neg (by omega),ih h.2]
theorem cutl_yes{a b:List Nat}(h:47∉a):Zci (a++47::b)=(a,b,true):=by
 induction a with
 |nil=>simp[Zci]
 | cons c r ih=>
   simp only[List.mem_cons,not_or] at h
   rw[List.cons_append]
   unfold Zci
   rw[if_neg (by omega),ih h.2]
theorem QZ(l:List Nat):47∉(Zci l).1/\l=(Zci l).1++(if(Zci l).2.2 then 47::(Zci l).2.1 else []):=by
 induction l with
 |nil=>simp[Zci]
 | cons c r ih=>
   unfold Zci
   split
   · rename_i h;subst h;simp
   · rename_i h
     refine⟨?_,?_⟩
     · simp only[List.mem_cons,not_or];exact⟨by omega,ih.1⟩
     · simp only[List.cons_append,List.cons.injEq,true_and];exact ih.2
theorem wd_no47{l:List Nat}(h:wd l):47∉l:=λhm=>by have:=h.2.1 47 hm;omega
def Zae(l:List Nat):List Nat:=(Zci l).1
def Zdq(l:List Nat):Bool:=decide ((Zae l).getD 0 0=45)
def QD(l:List Nat):List Nat:=if Zdq l then(Zae l).drop 1 else Zae l
def Zev(l:List Nat):Bool:=(Zci l).2.2
def QI(l:List Nat):List Nat:=if Zev l then(Zci l).2.1 else [49]
def Zew(l:List Nat):Prop:=¬wd (QD l)\/¬wd (QI l)\/(Zdq l=true/\QD l=[48])
instance(l:List Nat):Decidable (Zew l):=by unfold Zew;infer_instance
def QA(l:List Nat):Prop:=256<(QD l).length\/256<(QI l).length
instance(l:List Nat):Decidable (QA l):=by unfold QA;infer_instance
def fred(l:List Nat):Prop:=Zev l=true/\(Xw (QI l)<2\/Nat.gcd (Xw<|QD l) (Xw<|QI l)≠1)
instance(l:List Nat):Decidable (fred l):=by unfold fred;infer_instance
def fraw(l:List Nat):Int:=if Zdq l then -(Xw (QD l):Int) else Xw (QD l)
def YP(l:List Nat):Int:=if Zew l then 12 else if QA l then 3 else if fred l then 12 else 0
def Yz(l:List Nat):Rat:=if YP l=0 then mkRat (fraw l) (Xw<|QI l) else 0
theorem Zhr(l:List Nat):(fraw l).natAbs=Xw (QD l):=by unfold fraw;split <;> simp
theorem fraw_neg{l:List Nat}(h:¬Zew l):fraw l<0↔Zdq l=true:=by
 simp only[Zew,not_or,Classical.not_not,not_and] at h;unfold fraw
 cases hm:Zdq l with
 |false=>simp
 | true=>
   simp only[↓reduceIte,iff_true]
   have h3:=h.2.2 hm
   have:Xw (QD l)≠0:=by
     intro e
     have q:=Zch h.1
     rw[e] at q
     exact h3 (by rw[<-q];rfl)
   omega
theorem ferr_cases(l:List Nat):(Zew l/\YP l=12)\/(¬Zew l/\QA l/\YP l=3)\/(¬Zew l/\¬QA l/\fred l/\YP l=12)\/(¬Zew l/\¬QA l/\¬fred l/\YP l=0):=by
 unfold YP;by_cases h1:Zew l;simp[h1];by_cases h2:QA l;simp[h1,h2];by_cases h3:fred l <;> simp[h1,h2,h3]
theorem fval_bad{l:List Nat}(h:YP l≠0):Yz l=0:=if_neg h
theorem fval_ok{l:List Nat}(h:YP l=0):Yz l=mkRat (fraw l) (Xw<|QI l):=if_pos h
theorem Zhj:Xw [49]=1:=by decide
theorem Zf7{l:List Nat}(h:¬Zew l)(h2:¬fred l):Xw (QI l)≠0:=by
 unfold QI
 cases ht:Zev l with
 |false=>simp[Zhj]
 | true=>
   simp only[fred,ht,true_and,not_or] at h2
   have:QI l=(Zci l).2.1:=by unfold QI;simp[ht]
   rw[this] at h2
   simp only[↓reduceIte]
   omega
theorem fgcd{l:List Nat}(h2:¬fred l):Nat.gcd (Xw<|QD l) (Xw<|QI l)=1:=by
 cases ht:Zev l with
 |false=>unfold QI;simp[ht,Zhj]
 | true=>
   simp only[fred,ht,true_and,not_or,Classical.not_not] at h2
   exact h2.2
theorem f_parts(l:List Nat):l=(if Zdq l then [45] else [])++QD l++(if Zev l then 47::QI l else []):=by
 have h:=(QZ l).2
 have e:(Zci l).1=(if Zdq l then [45] else [])++QD l:=by
   unfold QD Zdq
   show Zae l=_
   by_cases hm:(Zae l).getD 0 0=45
   · simp only[hm,decide_true,↓reduceIte]
     cases hn:Zae l with
     |nil=>rw[hn] at hm;simp at hm
     |cons c r=>rw[hn] at hm;simp at hm;subst hm;rfl
   · rw[decide_eq_false hm];rfl
 rw[e] at h;unfold QI
 cases ht:Zev l with
 | false=>
   have ht':(Zci l).2.2=false:=ht
   rw[ht'] at h
   simpa using h
 | true=>
   have ht':(Zci l).2.2=true:=ht
   rw[ht'] at h
   simpa using h
theorem rtxt_low{l:List Nat}(h:¬Zew l)(h2:¬fred l):rtxt (mkRat (fraw l)<|Xw<|QI l)=l:=by
 have hd:=Zf7 h h2;have hg:(fraw l).natAbs.gcd (Xw<|QI l)=1:=by rw[Zhr];exact fgcd h2
 unfold rtxt Zgb;rw[mkRat_num1 hd hg,mkRat_den1 hd hg,Zhr];have hb:=h;simp only[Zew,not_or,Classical.not_not,not_and] at h;rw[Zch h.1,Zch h.2.1];have hp:=f_parts l
 have e1:(if fraw l<0 then [45] else([]:List Nat))=if Zdq l then [45] else []:=by
   cases hm:Zdq l with
   |false=>rw[if_neg (by rw[fraw_neg hb,hm];simp)];rfl
   |true=>rw[if_pos (by rw[fraw_neg hb,hm])];rfl
 rw[e1]
 have e2:(if Xw (QI l)=1 then [] else 47::QI l)=if Zev l then 47::QI l else []:=by
   cases ht:Zev l with
   | false=>
     have:QI l=[49]:=by unfold QI;simp[ht]
     rw[this,Zhj];rfl
   | true=>
     have:Xw (QI l)≠1:=by
       intro e
       exact h2 ⟨ht,.inl (by omega)⟩
     rw[if_neg this];rfl
 rw[e2];exact hp.symm
theorem ztxt_no47(z:Int):47∉Zgb z:=by
 intro h;unfold Zgb at h;rcases List.mem_append.1 h with h|h;split at h <;> simp at h;have:=decs_dig _ _ h;omega
theorem ztxt_inj{a b:Int}(h:Zgb a=Zgb b):a=b:=by
 unfold Zgb at h;have key:∀{m n:Nat},45::decs m≠decs n:=by intro m n e;have:=decs_dig n 45 (by rw[<-e];simp);omega
 split at h <;> split at h;simp only[List.singleton_append,List.cons.injEq,true_and] at h;have:=decs_inj h;omega;exact absurd h (by simpa using key);exact absurd h.symm (by simpa using key);simp only[List.nil_append] at h;have:=decs_inj h;omega
theorem rtxt_cut(q:Rat):Zci (rtxt q)=(Zgb q.num,if q.den=1 then [] else decs q.den,decide (q.den≠1)):=by
 unfold rtxt;split;rename_i h;rw[List.append_nil,cutl_no (ztxt_no47 _)];simp[h];rename_i h;rw[cutl_yes (ztxt_no47 _)];simp[h]
theorem rtxt_raw{l:List Nat}(h:¬Zew l)(h1:Zev l=true->Xw (QI l)≠0/\Xw (QI l)≠1):rtxt (mkRat (fraw l)<|Xw<|QI l)=l↔¬fred l:=by
 constructor;intro e hr;have ht:=hr.1;have hd:=h1 ht;have hg:Nat.gcd (Xw<|QD l) (Xw<|QI l)≠1:=by rcases hr.2 with q|q;omega;exact q
 have hc:=congrArg Zci e;rw[rtxt_cut] at hc;have hp:=f_parts l;have hn47:47∉(if Zdq l then [45] else [])++QD l:=by have hw:=h;simp only[Zew,not_or,Classical.not_not,not_and] at hw;intro hm;rcases List.mem_append.1 hm with q|q;split at q <;> simp at q;exact wd_no47 hw.1 q
 have hcl:Zci l=((if Zdq l then [45] else [])++QD l,QI l,true):=by
  conv=>lhs;rw[hp]
  rw[ht];exact cutl_yes hn47
 rw[hcl] at hc;simp only[Prod.mk.injEq] at hc;have hw:=h;simp only[Zew,not_or,Classical.not_not,not_and] at hw
 have hz:Zgb (mkRat (fraw l)<|Xw<|QI l).num=Zgb (fraw l):=by
   rw[hc.1]
   unfold Zgb
   rw[Zhr,Zch hw.1]
   congr 1
   cases hm:Zdq l with
   |false=>rw[if_neg (show ¬(fraw l<0) by rw[fraw_neg h,hm];simp)];rfl
   |true=>rw[if_pos (show fraw l<0 by rw[fraw_neg h,hm])];rfl
 have hnum:=ztxt_inj hz;have hden:(mkRat (fraw l)<|Xw<|QI l).den=Xw (QI l):=by
  have q:=hc.2.2;have q1:(mkRat (fraw l)<|Xw<|QI l).den≠1:=by simpa using q
  have q2:=hc.2.1;rw[if_neg q1] at q2;exact(pval_decs _).symm.trans (congrArg Xw q2)
 have hred:=(mkRat (fraw l)<|Xw<|QI l).reduced;rw[hnum,hden] at hred;unfold Nat.Coprime at hred;rw[Zhr] at hred;exact hg hred;exact rtxt_low h
end Go.Cham
