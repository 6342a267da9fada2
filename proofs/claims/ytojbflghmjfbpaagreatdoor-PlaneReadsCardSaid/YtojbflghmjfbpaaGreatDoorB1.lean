/- YtojbflghmjfbpaaGreatDoorB1, a part of the proof that the claim's law answers true for every input, made small by program from the texts of this repo's wip/. No condition beyond those that the statements bear. -/
import Derived.Test.YtojbflghmjfbpaaGreatDoorB0
import Derived.Scope
import Derived.LoopN
import Derived.Lib.BitFns
import Derived.Lib.ItoaNum
import Derived.Test.YtojbflghmjfbpaaGreatDoorProg
import Derived.KernelRfl
import Derived.Shelf.Small.Bits
import Derived.Shelf.Bits.Mul64
import Derived.Shelf.Strings.Prefix
import Derived.Shelf.Strings.Search2
import Derived.Shelf.Strings.SlTrimAscii
import Derived.Laws.Append
import Derived.Laws.BytesString
namespace Go.Cham
open Go Go.RowKit
noncomputable section
variable {α : Type} {D : Dom α} {G : Gh}
variable {P : Program} {d : Option Tmp} {ty : TypeId} {pos : String} {af : Array Edge} {g : Option (Nat × Bool)} {a : Act} {w : World} {E : Tr (SV α)} {V : Hp α} {n : Nat}
def app0 (V:Hp α) (n:Nat) (x:SV α) (rd:List Nat):Option (Out α):=match x with
  | .sl p len cap=>match Nat.ble len cap with
    |true=>some (outR V n (.sl p len cap) rd)
    |false=>none
  | .gsl id off len d=>some (outR V n (.gsl id off len d) rd)
  |_=>none
def app1 (P :Program) (D:Dom α) (V:Hp α) (n lim:Nat) (e:TypeId) (sz by_:Nat) (R2:List (List (SV α))) (m:Nat) (rd:List Nat) (x:SV α):Option (Out α):=match x with
  | .sl none len cap=>match Nat.beq len 0 with
    | true=>match Nat.beq cap 0 with
      | true=>match Nat.ble (Nat.mul (Nat.add 0 m) (Nat.succ by_)) 140737488355328 with
        |true=>some (outN V n (.cells e sz R2 true) (.gsl n 0 (0+m) 0) rd)
        |false=>none
      |false=>none
    |false=>none
  | .sl (some p) len cap=>match Nat.ble (Nat.add len m) cap with
    | true=>match Nat.beq p.2 0 with
      |true=>appIn V n lim p.1 len m sz R2 rd (.sl (some p) (Nat.add len m) cap)
      |false=>none
    | false=>match Nat.ble (Nat.mul (Nat.add len m) (Nat.succ by_)) 140737488355328 with
      | true=>match elems V sz (.sl (some p) len cap) with
        | some (R1,l1,rd1)=>match Nat.beq l1 len with
          |true=>some (outN V n (.cells e sz (appL R1 R2) true) (.gsl n 0 (len+m) 0) (rd1++rd))
          |false=>none
        |none=>none
      |false=>none
  | .gsl id off len d=>match Nat.beq off 0 with
    | true=>match Nat.beq d 0 with
      | true=>match V.at id with
        | some (.cells _ _ rows true)=>match Nat.ble (Nat.add len m) (lenL rows) with
          |true=>appIn V n lim id len m sz R2 rd (.gsl id 0 (Nat.add len m) 0)
          | false=>match Nat.ble (Nat.mul (Nat.add len m) (Nat.succ by_)) 140737488355328 with
            |true=>appK V n lim id len m sz e R2 rd
            |false=>none
        |_=>none
      |false=>none
    |false=>none
  |_=>none
def appendE (P:Program) (D:Dom α) (V:Hp α) (n lim:Nat) (t:TypeId) (x y:SV α):Option (Out α):=match elT P D t with
  | some (e,sz,by_)=>match Nat.ble 1 sz with
    | true=>match elems V sz y with
      | some (R2,m,rd)=>match m with
        |0=>app0 V n x rd
        |k+1=>app1 P D V n lim e sz by_ R2 (k+1) rd x
      |none=>none
    |false=>none
  |none=>none
theorem app1_ok {t e:TypeId} {ox oy:Operand} {lim m sz by_:Nat} {z:Value} {R2:List (List (SV α))} {rd:List Nat} {x y:SV α} {o:Out α} (h:app1 P D V n lim e sz by_ R2 m rd x=some o) (hT:ElT P t e sz by_ z) (he:elems V sz y=some (R2,m,rd)) (hy:At1 D G a oy y) (hm:0<m)
    (hx:At1 D G a ox x) (hsz:0<sz):Zdh V n o/\(∀i∈o.wr,lim<=i)/\MOK P D G V n ⟨d,.call ⟨.builtin .append,#[ox,oy],#[t,t]⟩,ty,pos,af,g⟩ a w o:=by
 have eval_of:∀v,ev (full a) ox=some v->a.eval ox=v:=λv hv=>by have:=hx.ex;rw[hv] at this;simpa using this.symm
 unfold app1 at h;split at h;rename_i len cap;split at h;rename_i h1;split at h;rename_i h2;split at h;rename_i h3;cases h;rw[YM] at h1 h2;subst h1 h2;refine⟨Zfn _ _ _ _ _,λi hi=>by simp[outN] at hi,grow_ok hT (Nat.le_of_ble_eq_true h3) hm λI hI hR=>?_⟩;obtain⟨vs,q,cap2,ey,hvl,hvd,hq⟩:=Zc9 he hy.den hI hR;obtain⟨ad,rfl,hnews⟩:=hq.resolve_left (by omega);exact⟨vs,[],vs,none,0,ad,cap2,eval_of _ hx.slN,ey,rfl,hvd,by simp,hvl,hnews,by omega,.inl ⟨rfl,rfl,rfl⟩⟩;cases h;cases h;cases h;rename_i p len cap;split at h;rename_i h1;have h1':len+m<=cap:=Nat.le_of_ble_eq_true h1;split at h;rename_i h2;rw[YM] at h2;refine appIn_ok h hT he hy hm (λb c hb=>?_) hsz;obtain⟨b',c',hb',hev⟩:=hx.sl;rw[hb] at hb';cases hb';rw[h2] at hev;refine⟨cap,eval_of _ hev,λ_ _ _ _ _ _=>⟨h1',?_⟩⟩;have:=Den.sl (D:=D) (G:=G) (i:=p.1) (off:=p.2) (len:=len+m) (cap:=cap) hb;rw[h2] at this;have e:(p.1,0)=p:=by rw[<-h2]
 rw[e] at this;exact this;cases h;rename_i h1;have h1':cap<len+m:=by rcases Nat.lt_or_ge cap (len+m) with h2|h2;exact h2;have:=Nat.ble_eq_true_of_le h2;have h3:Nat.ble (Nat.add len m) cap=true:=this;rw[h3] at h1;cases h1
 split at h;rename_i h2;split at h;rename_i R1 l1 rd1 h3;split at h;rename_i h4;rw[YM] at h4;subst h4;simp only[Option.some.injEq,Zat] at h;subst h;refine⟨Zfn _ _ _ _ _,λi hi=>by simp[outN] at hi,grow_ok hT (Nat.le_of_ble_eq_true h2) hm λI hI hR=>?_⟩;obtain⟨vs,q,cap2,ey,hvl,hvd,hq⟩:=Zc9 he hy.den (λi hi=>hI i (by simp[hi])) hR;obtain⟨ad,rfl,hnews⟩:=hq.resolve_left (by omega);obtain⟨us,q1,cap1,e1,hul,hud,hq1⟩:=Zc9 h3 hx.den (λi hi=>hI i (by simp[hi])) hR;have hcap1:cap1=cap:=by obtain⟨b',c',hb',hev⟩:=hx.sl;have:=eval_of _ hev;rw[e1] at this;simpa using congrArg (λv=>match v with|Value.slice _ _ c=>c|_=>0) this
 subst hcap1;rcases hq1 with h0|⟨ad1,rfl,holds⟩;subst h0;have hu0:us=[]:=by simpa using hul
 subst hu0;obtain⟨b',c',hb',hev⟩:=hx.sl;have:=eval_of _ hev;rw[e1] at this;exact⟨[]++vs,[],vs,q1,cap1,ad,cap2,e1,ey,rfl,hud.append hvd,hul,hvl,hnews,h1',.inr ⟨⟨b',p.2,none⟩,by simpa using congrArg (λv=>match v with|Value.slice q _ _=>q|_=>none) this,by simp⟩⟩;exact⟨us++vs,us,vs,_,cap1,ad,cap2,e1,ey,rfl,hud.append hvd,hul,hvl,hnews,h1',.inr ⟨ad1,rfl,holds⟩⟩;cases h;cases h;cases h;rename_i id off len dd;split at h;rename_i h1;rw[YM] at h1;subst h1;split at h;rename_i h2;rw[YM] at h2;subst h2;split at h;rename_i T sz0 rows hv;split at h;rename_i h3;refine appIn_ok h hT he hy hm (λb c hb=>?_) hsz;obtain⟨b',c',hb',hd0,hev⟩:=hx.gsl;rw[hb] at hb';cases hb';rw[Nat.sub_zero] at hev;have h3':len+m<=rows.length:=by have:=Nat.le_of_ble_eq_true h3;rwa [Zc1] at this
 refine⟨c,eval_of _ hev,λT' rows' gr hv' hc hl=>?_⟩;rw[hv] at hv';cases hv';have hc':=hc rfl;refine⟨by omega,?_⟩;have:=Den.gsl (D:=D) (G:=G) (i:=id) (off:=0) (len:=len+m) (d:=0) hb (by omega);simpa using this;split at h;rename_i h4;exact appK_ok h hT he hy hm (Nat.le_of_ble_eq_true h4) hx hsz;cases h;cases h;cases h;cases h;cases h
theorem append_ok {t:TypeId} {ox oy:Operand} {lim:Nat} {x y:SV α} {o:Out α} (h:appendE P D V n lim t x y=some o) (hx:At1 D G a ox x) (hy:At1 D G a oy y):
    Zdh V n o/\(∀i∈o.wr,lim<=i)/\MOK P D G V n ⟨d,.call ⟨.builtin .append,#[ox,oy],#[t,t]⟩,ty,pos,af,g⟩ a w o:=by
 unfold appendE at h;split at h;rename_i e sz by_ hel;obtain⟨z,hT⟩:=elT_ok G hel;split at h;rename_i h1;have hsz:0<sz:=Nat.le_of_ble_eq_true h1;split at h;rename_i R2 m rd he;split at h;unfold app0 at h;split at h;rename_i p len cap;split at h;rename_i hle;cases h;refine⟨outR_ok _ _ _ _,λi hi=>by simp[outR] at hi,read_ok λI hI hR K hk=>?_⟩;obtain⟨vs,q,cap2,ey,hvl,hvd,hq⟩:=Zc9 he hy.den hI hR;have hden:=hx.den;refine Zcn (w':=w) ?_ (hk _ hden);rw[ey];generalize a.eval ox=u at*
 cases hden with
 |slN=>exact Zfm hT.ht hT.hs (Nat.le_of_ble_eq_true hle)
 |sl _=>exact Zfm hT.ht hT.hs (Nat.le_of_ble_eq_true hle)
 cases h;cases h;refine⟨outR_ok _ _ _ _,λi hi=>by simp[outR] at hi,read_ok λI hI hR K hk=>?_⟩;obtain⟨vs,q,cap2,ey,hvl,hvd,hq⟩:=Zc9 he hy.den hI hR;have hden:=hx.den;refine Zcn (w':=w) ?_ (hk _ hden);rw[ey];generalize a.eval ox=u at*
 cases hden with
 |gsl _ hd=>exact Zfm hT.ht hT.hs (by omega)
 cases h;exact app1_ok h hT he hy (Nat.succ_pos _) hx hsz;cases h;cases h;cases h
end
end Go.Cham
namespace Go.Cham
open Go Go.RowKit
noncomputable section
variable {α : Type} {D : Dom α} {G : Gh}
def toP (V:Hp α) (n:Nat) (o:Option (SV α)):Option (Out α):=match o with
  |some c=>some (outP V n c)
  |none=>none
def pickE (E:Tr (SV α)) (c x y:Operand):Option (SV α):=match evS E c with
  |some (.bool true)=>evS E x
  |some (.bool false)=>evS E y
  |_=>none
def bin1 (P:Program) (D:Dom α) (E:Tr (SV α)) (op:BinOp) (t:TypeId) (x y:Operand):Option (SV α):=match evS E x with
  | some u=>match evS E y with
    |some v=>binE P D op t x y u v
    |none=>none
  |none=>none
def un1 (f:SV α->Option (SV α)) (E:Tr (SV α)) (x:Operand):Option (SV α):=match evS E x with
  |some u=>f u
  |none=>none
def two1 (f:SV α->SV α->Option (SV α)) (E:Tr (SV α)) (x y:Operand):Option (SV α):=match evS E x with
  | some u=>match evS E y with
    |some v=>f u v
    |none=>none
  |none=>none
def unO (f:SV α->Option (Out α)) (E:Tr (SV α)) (x:Operand):Option (Out α):=match evS E x with
  |some u=>f u
  |none=>none
def twoO (f:SV α->SV α->Option (Out α)) (E:Tr (SV α)) (x y:Operand):Option (Out α):=match evS E x with
  | some u=>match evS E y with
    |some v=>f u v
    |none=>none
  |none=>none
def convO (P:Program) (V:Hp α) (n:Nat) (s t:TypeId) (u:SV α):Option (Out α):=match convE P s t u with
  |some c=>some (outP V n c)
  |none=>none
def Ze4 (P:Program) (D:Dom α) (lim:Nat) (E:Tr (SV α)) (V:Hp α) (n:Nat) (b:Builtin) (xs:List Operand) (ts:List TypeId):Option (Out α):=match xs with
  | [x]=>match ts with
    | [t]=>match b with
      | .len=>toP V n (un1 (lenE P D t) E x)
      |_=>none
    |_=>none
  | [x, y]=>match b with
    | .max=>toP V n (two1 (mmE D true) E x y)
    | .min=>toP V n (two1 (mmE D false) E x y)
    | .append=>match ts with
      | [t,u]=>match Nat.beq t u with
        |true=>twoO (appendE P D V n lim t) E x y
        |false=>none
      |_=>none
    |_=>none
  |_=>none
inductive OpC (α:Type):Type where
  |p (f:Tr (SV α)->Option (SV α))
  |m (f:Nat->Tr (SV α)->Hp α->Nat->Option (Out α))
  |c (fo:Operand) (xs:List Operand)
  |no
def Zgs (P:Program) (D:Dom α) (b:Builtin) (xs:List Operand) (ts:List TypeId):OpC α:=match xs with
  | [x]=>match ts with
    | [t]=>match b with
      | .len=>.p (λE=>un1 (lenE P D t) E x)
      |_=>.no
    |_=>.no
  | [x, y]=>match b with
    | .max=>.p (λE=>two1 (mmE D true) E x y)
    | .min=>.p (λE=>two1 (mmE D false) E x y)
    | .append=>match ts with
      | [t,u]=>match Nat.beq t u with
        |true=>.m (λlim E V n=>twoO (appendE P D V n lim t) E x y)
        |false=>.no
      |_=>.no
    |_=>.no
  |_=>.no
def opC (P:Program) (D:Dom α) (q:Op):OpC α:=match q with
  | .move x=>.p (λE=>evS E x)
  | .assign x=>.p (λE=>evS E x)
  | .pick c x y=>.p (λE=>pickE E c x y)
  | .alloc T=>.m (λ_ _ V n=>allocE P D V n T)
  | .box T x=>.m (λ_ E V n=>unO (boxE D V n T) E x)
  | .build t ps=>.p (λE=>buildE P D E t ps.toList)
  | .buildSlice t m ps=>.m (λ_ E V n=>Zab P D E V n t m ps.toList)
  | .load t x=>.m (λ_ E V n=>unO (loadE P D V n t) E x)
  | .store t x y=>.m (λlim E V n=>twoO (storeE P D V n lim t) E x y)
  | .nilCheck x=>.p (λE=>un1 nilCkE E x)
  | .binOp op t x y _=>.p (λE=>bin1 P D E op t x y)
  | .unOp op _ x=>.p (λE=>un1 (unE P op) E x)
  | .convert s t x=>.m (λ_ E V n=>unO (convO P V n s t) E x)
  | .makeFunc fn fs cs=>.p (λE=>makeFuncE E fn fs.toList cs.toList)
  | .makeSlice t x y=>.m (λ_ E V n=>twoO (Za9 P D V n t) E x y)
  | .slice t x lo hi mx=>.p (λE=>un1 (λu=>sliceE P E t u lo hi mx) E x)
  | .fieldAddr s x i=>.p (λE=>un1 (λu=>fieldAddrE P s u i) E x)
  | .field s x i=>.p (λE=>un1 (λu=>fieldE P D s u i) E x)
  | .indexAddr t x y=>.p (λE=>two1 (indexAddrE P t) E x y)
  | .index t x y=>.p (λE=>two1 (indexE P D t) E x y)
  | .extract x i=>.p (λE=>un1 (λu=>extractE u i) E x)
  | .call c=>match c.callee with
    | .builtin b=>Zgs P D b c.args.toList c.argTypes.toList
    | .value fo=>.c fo c.args.toList
    |_=>.no
  |_=>.no
def runC (lim:Nat) (E:Tr (SV α)) (V:Hp α) (n:Nat) (q:OpC α):Option (Out α):=match q with
  | .p f=>toP V n (f E)
  | .m f=>f lim E V n
  |_=>none
def opE (P:Program) (D:Dom α) (lim:Nat) (E:Tr (SV α)) (V:Hp α) (n:Nat) (q:Op):Option (Out α):=runC lim E V n (opC P D q)
variable {P : Program} {d : Option Tmp} {ty : TypeId} {pos : String} {af : Array Edge} {g : Option (Nat × Bool)} {a : Act} {w : World} {E : Tr (SV α)} {V : Hp α} {n : Nat}
def OpOK (P:Program) (D:Dom α) (G:Gh) (V:Hp α) (n lim:Nat) (q:Oper) (a:Act) (w:World) (o:Out α):Prop:=Zdh V n o/\(∀i∈o.wr,lim<=i)/\MOK P D G V n q a w o
theorem QL {lim:Nat} {q:Oper} {c:Option (SV α)} {o:Out α} (h:toP V n c=some o) (k:∀c',c=some c'->POK P D G q a w c'):OpOK P D G V n lim q a w o:=by
 unfold toP at h;split at h;rename_i c';cases h;exact⟨outP_ok _ _ _,λi hi=>by simp[outP] at hi,(k c' rfl).mok⟩;cases h
theorem un1_ok {f:SV α->Option (SV α)} {x:Operand} {c:SV α} {xs:List Operand} (h:un1 f E x=some c) (ho:Has1 D G a E xs) (hx:x∈xs):∃u,f u=some c/\At1 D G a x u:=by
 unfold un1 at h;split at h;rename_i u hu;exact⟨u,h,ho.at_ x hx u hu⟩;cases h
theorem two1_ok {f:SV α->SV α->Option (SV α)} {x y:Operand} {c:SV α} {xs:List Operand} (h:two1 f E x y=some c) (ho:Has1 D G a E xs) (hx:x∈xs) (hy:y∈xs):∃u v,f u v=some c/\At1 D G a x u/\At1 D G a y v:=by
 unfold two1 at h;split at h;rename_i u hu;split at h;rename_i v hv;exact⟨u,v,h,ho.at_ x hx u hu,ho.at_ y hy v hv⟩;cases h;cases h
theorem unO_ok {f:SV α->Option (Out α)} {x:Operand} {c:Out α} {xs:List Operand} (h:unO f E x=some c) (ho:Has1 D G a E xs) (hx:x∈xs):∃u,f u=some c/\At1 D G a x u:=by
 unfold unO at h;split at h;rename_i u hu;exact⟨u,h,ho.at_ x hx u hu⟩;cases h
theorem twoO_ok {f:SV α->SV α->Option (Out α)} {x y:Operand} {c:Out α} {xs:List Operand} (h:twoO f E x y=some c) (ho:Has1 D G a E xs) (hx:x∈xs) (hy:y∈xs):∃u v,f u v=some c/\At1 D G a x u/\At1 D G a y v:=by
 unfold twoO at h;split at h;rename_i u hu;split at h;rename_i v hv;exact⟨u,v,h,ho.at_ x hx u hu,ho.at_ y hy v hv⟩;cases h;cases h
theorem OpOK.of {lim:Nat} {q:Oper} {o:Out α} (h:Zdh V n o/\MOK P D G V n q a w o) (hw:o.wr=[]):OpOK P D G V n lim q a w o:=⟨h.1,λi hi=>by simp[hw] at hi,h.2⟩
theorem builtinE_ok {lim:Nat} {b:Builtin} {xs:Array Operand} {ts:Array TypeId} {o:Out α} (h:Ze4 P D lim E V n b xs.toList ts.toList=some o) (ho:Has1 D G a E xs.toList):OpOK P D G V n lim ⟨d,.call ⟨.builtin b,xs,ts⟩,ty,pos,af,g⟩ a w o:=by
 obtain⟨xs⟩:=xs;obtain⟨ts⟩:=ts;unfold Ze4 at h;simp only at h ho;split at h;split at h;split at h;refine QL h λc hc=>?_;obtain⟨u,h1,h2⟩:=un1_ok hc ho (by simp);exact len_ok h1 ho.defers h2;cases h;cases h;split at h;refine QL h λc hc=>?_;obtain⟨u,v,h1,h2,h3⟩:=two1_ok hc ho (by simp) (by simp);exact max_ok h1 ho.defers h2 h3;refine QL h λc hc=>?_;obtain⟨u,v,h1,h2,h3⟩:=two1_ok hc ho (by simp) (by simp);exact min_ok h1 ho.defers h2 h3;split at h;split at h;rename_i htu;rw[YM] at htu;subst htu;obtain⟨u,v,h1,h2,h3⟩:=twoO_ok h ho (by simp) (by simp);exact append_ok h1 h2 h3;cases h;cases h;cases h;cases h
theorem builtinC_eq (P:Program) (D:Dom α) (lim:Nat) (E:Tr (SV α)) (V:Hp α) (n:Nat) (b:Builtin) (xs:List Operand) (ts:List TypeId) {o:Out α} (h:runC lim E V n (Zgs P D b xs ts)=some o):Ze4 P D lim E V n b xs ts=some o:=by
 unfold Zgs at h;unfold Ze4;repeat' split at h
 all_goals first|(cases h;done)|exact h|(rename_i h1;simp only[h1];exact h)
theorem opE_ok {lim:Nat} {q:Op} {o:Out α} (h:opE P D lim E V n q=some o) (ho:Has1 D G a E q.operands.toList):OpOK P D G V n lim ⟨d,q,ty,pos,af,g⟩ a w o:=by
 have hd:=ho.defers;unfold opE at h
 cases q with
 | move x=>
   simp only[opC,runC] at h
   exact QL h λc hc=>move_ok hd (ho.at_ _ (by simp[Op.operands]) c hc)
 | assign x=>
   simp only[opC,runC] at h
   exact QL h λc hc=>assign_ok hd (ho.at_ _ (by simp[Op.operands]) c hc)
 | pick c x y=>
   simp only[opC,runC] at h
   refine QL h λc hc=>?_
   unfold pickE at hc
   split at hc
   · rename_i h1
     exact pick_ok (b:=true) hd (ho.at_ _ (by simp[Op.operands]) _ h1) (ho.at_ _ (by simp[Op.operands]) c hc)
   · rename_i h1
     exact pick_ok (b:=false) hd (ho.at_ _ (by simp[Op.operands]) _ h1) (ho.at_ _ (by simp[Op.operands]) c hc)
   · cases hc
 | alloc T=>
   simp only[opC,runC] at h
   refine OpOK.of (alloc_ok h) ?_
   unfold allocE at h
   split at h
   · split at h
     · cases h;rfl
     · cases h
   · cases h
 | box T x=>
   simp only[opC,runC] at h
   obtain⟨u,h1,h2⟩:=unO_ok h ho (by simp[Op.operands])
   refine OpOK.of (box_ok h1 h2) ?_
   unfold boxE at h1
   split at h1
   · cases h1;rfl
   · cases h1
 | build t ps=>
   simp only[opC,runC] at h
   exact QL h λc hc=>build_ok hc (ho.sub (by simp[Op.operands]))
 | buildSlice t m ps=>
   simp only[opC,runC] at h
   refine OpOK.of (buildSlice_ok h (ho.sub (by simp[Op.operands]))) ?_
   unfold Zab at h
   repeat' split at h
   all_goals first|(cases h;done)|(cases h;rfl)
 | load t x=>
   simp only[opC,runC] at h
   obtain⟨u,h1,h2⟩:=unO_ok h ho (by simp[Op.operands])
   refine OpOK.of (load_ok h1 hd h2) ?_
   unfold loadE at h1
   repeat' split at h1
   all_goals first|(cases h1;done)|(cases h1;rfl)
 | store t x y=>
   simp only[opC,runC] at h
   obtain⟨u,v,h1,h2,h3⟩:=twoO_ok h ho (by simp[Op.operands]) (by simp[Op.operands])
   exact store_ok h1 h2 h3
 | nilCheck x=>
   simp only[opC,runC] at h
   refine QL h λc hc=>?_
   obtain⟨u,h1,h2⟩:=un1_ok hc ho (by simp[Op.operands])
   exact nilCkE_ok h1 h2
 | binOp op t x y u=>
   simp only[opC,runC] at h
   refine QL h λc hc=>?_
   unfold bin1 at hc
   split at hc
   · rename_i u hu
     split at hc
     · rename_i v hv
       exact binE_ok hc hd (ho.at_ _ (by simp[Op.operands]) u hu) (ho.at_ _ (by simp[Op.operands]) v hv)
     · cases hc
   · cases hc
 | unOp op t x=>
   simp only[opC,runC] at h
   refine QL h λc hc=>?_
   obtain⟨u,h1,h2⟩:=un1_ok hc ho (by simp[Op.operands])
   exact unE_ok h1 hd h2
 | convert s t x=>
   simp only[opC,runC] at h
   obtain⟨u,h1,h2⟩:=unO_ok h ho (by simp[Op.operands])
   unfold convO at h1
   split at h1
   · rename_i c hc
     exact QL (c:=some c) h1 λc' hc'=>by cases hc';exact convE_ok hc h2
   · cases h1
 | makeFunc fn fs cs=>
   simp only[opC,runC] at h
   exact QL h λc hc=>makeFunc_ok hc (ho.sub (by intro y hy;simp[Op.operands];exact .inl (by simpa using hy))) (ho.sub (by intro y hy;simp[Op.operands];exact .inr (by simpa using hy)))
 | makeSlice t x y=>
   simp only[opC,runC] at h
   obtain⟨u,v,h1,h2,h3⟩:=twoO_ok h ho (by simp[Op.operands]) (by simp[Op.operands])
   refine OpOK.of (makeSlice_ok h1 h2 h3) ?_
   unfold Za9 at h1
   repeat' split at h1
   all_goals first|(cases h1;done)|(cases h1;rfl)
 | slice t x lo hi mx=>
   simp only[opC,runC] at h
   refine QL h λc hc=>?_
   obtain⟨u,h1,h2⟩:=un1_ok hc ho (by simp[Op.operands])
   exact slice_ok h1 h2 (λy hy c hc=>ho.at_ y (by simp[Op.operands,hy]) c hc) (λy hy c hc=>ho.at_ y (by simp[Op.operands,hy]) c hc) (λy hy c hc=>ho.at_ y (by simp[Op.operands,hy]) c hc)
 | fieldAddr s x i=>
   simp only[opC,runC] at h
   refine QL h λc hc=>?_
   obtain⟨u,h1,h2⟩:=un1_ok hc ho (by simp[Op.operands])
   exact fieldAddr_ok h1 hd h2
 | field s x i=>
   simp only[opC,runC] at h
   refine QL h λc hc=>?_
   obtain⟨u,h1,h2⟩:=un1_ok hc ho (by simp[Op.operands])
   exact field_ok h1 hd h2
 | indexAddr t x y=>
   simp only[opC,runC] at h
   refine QL h λc hc=>?_
   obtain⟨u,v,h1,h2,h3⟩:=two1_ok hc ho (by simp[Op.operands]) (by simp[Op.operands])
   exact indexAddr_ok h1 hd h2 h3
 | index t x y=>
   simp only[opC,runC] at h
   refine QL h λc hc=>?_
   obtain⟨u,v,h1,h2,h3⟩:=two1_ok hc ho (by simp[Op.operands]) (by simp[Op.operands])
   exact index_ok h1 hd h2 h3
 | extract x i=>
   simp only[opC,runC] at h
   refine QL h λc hc=>?_
   obtain⟨u,h1,h2⟩:=un1_ok hc ho (by simp[Op.operands])
   exact extract_ok h1 hd h2
 | call c=>
   simp only[opC,runC] at h
   obtain⟨callee,xs,ts⟩:=c
   cases callee with
   |value fo=>cases h
   |invoke r mth=>cases h
   |builtin b=>exact builtinE_ok (builtinC_eq P D lim E V n b _ _ h) (ho.sub (by intro y hy;simp[Op.operands,Call.operands];simpa using hy))
 |_=>cases h
end
end Go.Cham
namespace Go.Cham
open Go Go.RowKit
noncomputable section
variable {α : Type} {D : Dom α} {P : Program} {E : Tr (SV α)} {V : Hp α} {n lim : Nat} {o : Out α}
def StO (V:Hp α) (n lim:Nat) (o:Out α):Prop:=Zdh V n o/\∀i∈o.wr,lim<=i
theorem stP {c:SV α}:StO V n lim (outP V n c):=⟨outP_ok _ _ _,λi hi=>by simp[outP] at hi⟩
theorem stN {ob:Ob α} {c:SV α} {rd:List Nat}:StO V n lim (outN V n ob c rd):=⟨Zfn _ _ _ _ _,λi hi=>by simp[outN] at hi⟩
theorem stR {c:SV α} {rd:List Nat}:StO V n lim (outR V n c rd):=⟨outR_ok _ _ _ _,λi hi=>by simp[outR] at hi⟩
theorem stW {i:Nat} {o0 ob:Ob α} {r:Option (SV α)} {rd:List Nat} (hl:Nat.ble lim i=true) (hv:V.at i=some o0):StO V n lim (outW V n i ob r rd):=⟨outW_ok hv _ _ _,λj hj=>by simp[outW] at hj;subst hj;exact Nat.le_of_ble_eq_true hl⟩
theorem st_toP {c:Option (SV α)} (h:toP V n c=some o):StO V n lim o:=by
 unfold toP at h;split at h;cases h;exact stP;cases h
theorem st_alloc {T:TypeId} (h:allocE P D V n T=some o):StO V n lim o:=by
 unfold allocE at h;repeat' split at h
 all_goals first|(cases h;done)|(cases h;exact stN)
theorem st_box {T:TypeId} {x:SV α} (h:boxE D V n T x=some o):StO V n lim o:=by
 unfold boxE at h;repeat' split at h
 all_goals first|(cases h;done)|(cases h;exact stN)
theorem st_buildSlice {t:TypeId} {m:Nat} {ps:List (Nat × Operand)} (h:Zab P D E V n t m ps=some o):StO V n lim o:=by
 unfold Zab at h;repeat' split at h
 all_goals first|(cases h;done)|(cases h;exact stN)
theorem st_makeSlice {t:TypeId} {x y:SV α} (h:Za9 P D V n t x y=some o):StO V n lim o:=by
 unfold Za9 at h;repeat' split at h
 all_goals first|(cases h;done)|(cases h;exact stN)
theorem st_load {t:TypeId} {x:SV α} (h:loadE P D V n t x=some o):StO V n lim o:=by
 unfold loadE at h;repeat' split at h
 all_goals first|(cases h;done)|(cases h;exact stR)
theorem st_store {t:TypeId} {x y:SV α} (h:storeE P D V n lim t x y=some o):StO V n lim o:=by
 unfold storeE at h;split at h
 · split at h
   · rename_i hl
     split at h
     · rename_i hv
       repeat' split at h
       all_goals first|(cases h;done)|(cases h;exact stW hl hv)
     · cases h
   · cases h
 cases h
theorem st_conv {t u:TypeId} {x:SV α} (h:convO P V n t u x=some o):StO V n lim o:=by
 unfold convO at h;split at h;cases h;exact stP;cases h
theorem st_appIn {id len m sz:Nat} {R2:List (List (SV α))} {rd:List Nat} {r:SV α} (h:appIn V n lim id len m sz R2 rd r=some o):StO V n lim o:=by
 unfold appIn at h;split at h
 · rename_i hl
   split at h
   · rename_i hv
     repeat' split at h
     all_goals first|(cases h;done)|(cases h;exact stW hl hv)
   · cases h
 cases h
theorem st_appK {id len m sz:Nat} {e:TypeId} {R2:List (List (SV α))} {rd:List Nat} (h:appK V n lim id len m sz e R2 rd=some o):StO V n lim o:=by
 unfold appK at h;split at h
 · rename_i hl
   split at h
   · rename_i hv
     repeat' split at h
     all_goals first|(cases h;done)|skip
     cases h
     refine⟨⟨Nat.le_succ _,λi hi hi2=>?_,λi hi=>by simp at hi;subst hi;exact⟨_,hv⟩⟩,λi hi=>by simp at hi;subst hi;exact Nat.le_of_ble_eq_true hl⟩
     show((V.put id none).put n _).at i=V.at i
     rw[Tr.at_put_ne,Tr.at_put_ne]
     · intro x;subst x;exact hi (by simp)
     · intro x;subst x;exact hi2 ⟨Nat.le_refl _,Nat.lt_succ_self _⟩
   · cases h
 cases h
theorem st_append {t:TypeId} {x y:SV α} (h:appendE P D V n lim t x y=some o):StO V n lim o:=by
 unfold appendE at h;repeat' split at h
 all_goals first|(cases h;done)|skip
 · unfold app0 at h
   repeat' split at h
   all_goals first|(cases h;done)|(cases h;exact stR)
 · unfold app1 at h
   repeat' split at h
   all_goals first|(cases h;done)|exact st_appIn h|exact st_appK h|(cases h;exact stN)
theorem st_unO {f:SV α->Option (Out α)} {x:Operand} (h:unO f E x=some o) (k:∀u,f u=some o->StO V n lim o):StO V n lim o:=by
 unfold unO at h;split at h;exact k _ h;cases h
theorem st_twoO {f:SV α->SV α->Option (Out α)} {x y:Operand} (h:twoO f E x y=some o) (k:∀u v,f u v=some o->StO V n lim o):StO V n lim o:=by
 unfold twoO at h;split at h;split at h;exact k _ _ h;cases h;cases h
theorem st_builtin {b:Builtin} {xs:List Operand} {ts:List TypeId} (h:Ze4 P D lim E V n b xs ts=some o):StO V n lim o:=by
 unfold Ze4 at h;repeat' split at h
 all_goals first|(cases h;done)|exact st_toP h|exact st_twoO h λu v h=>st_append h
theorem st_op {q:Op} (h:opE P D lim E V n q=some o):StO V n lim o:=by
 unfold opE at h;cases q <;> (try simp only[opC,runC] at h)
 all_goals first
   |exact st_toP h
   |exact st_alloc h
   |exact st_unO h λu h=>st_box h
   |exact st_buildSlice h
   |exact st_unO h λu h=>st_load h
   |exact st_twoO h λu v h=>st_store h
   |exact st_unO h λu h=>st_conv h
   |exact st_twoO h λu v h=>st_makeSlice h
   |(cases h;done)
   |skip
 rename_i c;obtain⟨callee,xs,ts⟩:=c
 cases callee with
 |value fo=>cases h
 |invoke r mth=>cases h
 |builtin b=>exact st_builtin (builtinC_eq P D lim E V n b _ _ h)
end
end Go.Cham
namespace Go.Cham
open Go Go.RowKit
noncomputable section
variable {α : Type} {D : Dom α} {G : Gh} {P : Program}
def Zbu (P:Program) (f:FuncId) (vs:List Value) (w:World) (K:Value->World->Prop):Prop:=
  (ZT P f=true/\Calls P f vs.toArray w λe w'=>∃v,e= .returned v/\K v w')\/∃v w',(callFunc f vs.toArray).run P w= .ok (.value v) w'/\K v w'
theorem Zbu.mono {f:FuncId} {vs:List Value} {w:World} {K K':Value->World->Prop} (h:Zbu P f vs w K) (k:∀v w',K v w'->K' v w'):Zbu P f vs w K':=by
 rcases h with⟨h1,h2⟩|⟨v,w',h1,h2⟩;exact .inl ⟨h1,Calls.mono h2 λe w' ⟨v,he,hv⟩=>⟨v,he,k v w' hv⟩⟩;exact .inr ⟨v,w',h1,k v w' h2⟩
theorem does_callV {a:Act} {w:World} {n:Nat} {l:List (Nat × Value)} {K:Value->World->Prop} {d:Option Tmp} {ty:TypeId} {pos:String} {af:Array Edge} {g:Option (Nat × Bool)} {fo:Operand} {xs:Array Operand} {ts:Array TypeId} {f:FuncId} {vs fs cs:List Value}
    (hL:ZL a n l) (hf:ev l fo=some (.func (.func f) fs.toArray cs.toArray)) (hv:evs l xs.toList=some vs) (h:Zbu P f (fs++(vs++cs)) w K):YY P ⟨d,.call ⟨.value fo,xs,ts⟩,ty,pos,af,g⟩ a w K:=by
 rw[<-List.append_assoc] at h;rcases h with⟨h1,h2⟩|⟨v,w',h1,h2⟩;exact does_callR hL hf hv h1 h2 λe w' he=>he;refine Zw (v:=v) (w':=w') ?_ h2;have e1:xs.map a.eval=vs.toArray:=by rw[<-hL.evs hv,<-Array.toList_map]
 simp only[execOp,resolve,hL.ev hf,e1,Deferred.ofValue,ZF,invoke];rw[<-h1];congr 2;simp
structure CR (α:Type) where
  r:SV α
  V:Hp α
  n:Nat
abbrev Zar (α:Type):=Nat->FuncId->List (SV α)->Hp α->Nat->Option (CR α)
structure Stat (lim:Nat) (V:Hp α) (n:Nat) (V':Hp α) (n':Nat):Prop where
  le:n<=n'
  old:∀i,i<lim->V'.at i=V.at i
  dom:∀i,n'<=i->V'.at i=none
theorem Stat.trans {lim n n' n'':Nat} {V V' V'':Hp α} (h:Stat lim V n V' n') (k:Stat lim V' n' V'' n''):Stat lim V n V'' n'':=⟨Nat.le_trans h.le k.le,λi hi=>(k.old i hi).trans (h.old i hi),k.dom⟩
abbrev Lw (lim n':Nat):Nat->Prop:=λi=>lim<=i/\i<n'
abbrev All:Nat->Prop:=λ_=>True
def Zdj (G:Gh) (n n':Nat):Prop:=∀i,n<=i->i<n'->G.blk i=none
def Zdl (P:Program) (D:Dom α) (cf:Zar α):Prop:=∀lim f args V n o,cf lim f args V n=some o->lim<=n->(∀i,n<=i->V.at i=none)->
  Stat lim V n o.V o.n/\∀G w vs,Qm D G args vs->XS D G All V w->Zdj G n o.n->
    Zbu P f vs w λv w'=>∃G',Fra G w G' w' (Lw lim o.n) n o.n/\Den D G' o.r v/\XS D G' All o.V w'
def callE (cf:Zar α) (lim:Nat) (E:Tr (SV α)) (V:Hp α) (n:Nat) (fo:Operand) (xs:List Operand):Option (Out α):=match evS E fo with
  | some (.fn f fs cs)=>match evSs E xs with
    | some vs=>match cf lim f (appL fs (appL vs cs)) V n with
      |some o=>some ⟨some o.r,o.V,o.n,[],[]⟩
      |none=>none
    |none=>none
  |_=>none
def doC (cf:Zar α) (lim:Nat) (E:Tr (SV α)) (V:Hp α) (n:Nat) (q:OpC α):Option (Out α):=match q with
  | .p f=>toP V n (f E)
  | .m f=>f lim E V n
  | .c fo xs=>callE cf lim E V n fo xs
  | .no=>none
def doE (P:Program) (D:Dom α) (cf:Zar α) (lim:Nat) (E:Tr (SV α)) (V:Hp α) (n:Nat) (q:Op):Option (Out α):=doC cf lim E V n (opC P D q)
theorem doE_cases {cf:Zar α} {lim:Nat} {E:Tr (SV α)} {V:Hp α} {n:Nat} {q:Op} {o:Out α} (h:doE P D cf lim E V n q=some o):
    (∃fo xs ts,q= .call ⟨.value fo,xs,ts⟩/\callE cf lim E V n fo xs.toList=some o)\/((∀fo xs ts,q≠.call ⟨.value fo,xs,ts⟩)/\opE P D lim E V n q=some o):=by
 have key:(∀fo xs,opC P D q≠.c fo xs)->opE P D lim E V n q=some o:=by
   intro hn
   unfold doE doC at h
   unfold opE runC
   cases hq:opC P D q with
   |p f=>rw[hq] at h;exact h
   |m f=>rw[hq] at h;exact h
   |c fo xs=>exact absurd hq (hn fo xs)
   |no=>rw[hq] at h;cases h
 have bu:∀(b:Builtin) (xs:List Operand) (ts:List TypeId) fo ys,Zgs P D b xs ts≠.c fo ys:=by
  intro b xs ts fo ys;unfold Zgs;repeat' split
  all_goals simp
 cases q with
 | call c=>
   obtain⟨callee,xs,ts⟩:=c
   cases callee with
   |value fo=>exact .inl ⟨fo,xs,ts,rfl,h⟩
   |invoke r mth=>exact .inr ⟨λ_ _ _=>by simp,key λ_ _=>by simp[opC]⟩
   |builtin b=>exact .inr ⟨λ_ _ _=>by simp,key λfo ys=>by simp only[opC];exact bu b _ _ fo ys⟩
 |_=>exact .inr ⟨λ_ _ _=>by simp,key λ_ _=>by simp[opC]⟩
theorem Qm.append {cs ds:List (SV α)} {vs us:List Value} (h:Qm D G cs vs) (k:Qm D G ds us):Qm D G (cs++ds) (vs++us):=by
 induction cs generalizing vs with
 |nil=>cases h;exact k
 |cons x r ih=>cases h with|cons h hs=>exact .cons h (ih hs)
structure Good (D:Dom α) (lim:Nat) (n:Nat) (o:Out α) (G:Gh) (w:World) (v:Value) (w':World) (G':Gh):Prop where
  fr:Fra G w G' w' (Lw lim o.n) n o.n
  den:∀c,o.r=some c->Den D G' c v
  rep:XS D G' All o.V w'
def DoOK (P:Program) (D:Dom α) (lim:Nat) (E:Tr (SV α)) (V:Hp α) (n:Nat) (q:Op) (o:Out α):Prop:=
  Stat lim V n o.V o.n/\∀(d:Option Tmp) (ty:TypeId) (pos:String) (af:Array Edge) (g:Option (Nat × Bool)) G a w,Has1 D G a E q.operands.toList->XS D G All V w->Zdj G n o.n->
    ∀K:Value->World->Prop,(∀v w' G',Good D lim n o G w v w' G'->K v w')->YY P ⟨d,q,ty,pos,af,g⟩ a w K
theorem Tr.lt {V:Hp α} {n i:Nat} {x:Ob α} (hd:∀i,n<=i->V.at i=none) (h:V.at i=some x):i<n:=by
 rcases Nat.lt_or_ge i n with h1|h1;exact h1;rw[hd i h1] at h;cases h
theorem opE_do {lim:Nat} {E:Tr (SV α)} {V:Hp α} {n:Nat} {q:Op} {o:Out α} (h:opE P D lim E V n q=some o) (hl:lim<=n) (hd:∀i,n<=i->V.at i=none):DoOK P D lim E V n q o:=by
 obtain⟨h1,h2⟩:=st_op h;refine⟨⟨h1.le,λi hi=>h1.ag i (λx=>by have:=h2 i x;omega) (by omega),λi hi=>?_⟩,λd ty pos af g G a w hH hR hf K hk=>?_⟩;rw[h1.ag i (λx=>?_) (by omega)];exact hd i (Nat.le_trans h1.le hi);obtain⟨y,hy⟩:=h1.wr i x;have:=Tr.lt hd hy;have:=h1.le;omega;obtain⟨_,_,h3⟩:=opE_ok (P:=P) (d:=d) (ty:=ty) (pos:=pos) (af:=af) (g:=g) (w:=w) h hH;refine h3 All (λ_ _=>trivial) (λ_ _=>trivial) hR hf K λv w' G' f1 f2 f3=>hk v w' G' ⟨?_,f2,?_⟩;refine f1.mono (λi hi=>⟨h2 i hi,?_⟩) (Nat.le_refl _) (Nat.le_refl _);obtain⟨y,hy⟩:=h1.wr i hi;have:=Tr.lt hd hy;have:=h1.le;omega;have:=hR.step f1 (λ_ _=>trivial) h1.wr (λi=>h1.ag i) f3 hf;exact this.sub λ_ _=>.inl trivial
theorem doE_do {cf:Zar α} (hc:Zdl P D cf) {lim:Nat} {E:Tr (SV α)} {V:Hp α} {n:Nat} {q:Op} {o:Out α} (h:doE P D cf lim E V n q=some o) (hl:lim<=n) (hd:∀i,n<=i->V.at i=none):DoOK P D lim E V n q o:=by
 rcases doE_cases h with⟨fo,xs,ts,rfl,h'⟩|⟨_,h'⟩;have h:=h';refine id ?_;unfold callE at h;split at h;rename_i f fs cs hf;split at h;rename_i vs hvs;split at h;rename_i r hr;cases h;rw[Zat,Zat] at hr;obtain⟨h1,h2⟩:=hc lim f _ V n r hr hl hd;refine⟨h1,λd ty pos af g G a w hH hR hfr K hk=>?_⟩;have hfo:=hH.at_ fo (by simp[Op.operands,Call.operands]) _ hf;have hxs:=(hH.sub (ys:=xs.toList) (λy hy=>by simp[Op.operands,Call.operands];exact .inr (by simpa using hy))).many hvs;have hden:=hfo.den;have hex:=hfo.ex;generalize a.eval fo=u at hden hex
 cases hden with
 | @fn _ _ _ us ws hu hw=>
   refine does_callV (ZL.full hH.defers) hex hxs.1 ?_
   refine(h2 G w _ (hu.append (hxs.2.append hw)) hR hfr).mono λv w' ⟨G',k1,k2,k3⟩=>hk v w' G' ⟨k1,λc hc=>by cases hc;exact k2,k3⟩
 cases h;cases h;cases h;exact opE_do h' hl hd
structure R3 (α:Type) where
  E:Tr (SV α)
  V:Hp α
  n:Nat
def Zay (nt:Nat) (E:Tr (SV α)) (d:Option Tmp) (r:Option (SV α)) (V:Hp α) (n:Nat):Option (R3 α):=match d with
  |none=>some ⟨E,V,n⟩
  | some t=>match Nat.blt t nt with
    |true=>some ⟨E.put t r,V,n⟩
    |false=>none
def Zd8 (ops:Array Oper) (E:Tr (SV α)) (g:Option (Nat × Bool)):Option Bool:=match g with
  |none=>some true
  | some p=>match (ops[p.1]?).bind (·.dst) with
    | some e=>match E.at e with
      | some (.bool b)=>match p.2 with
        |true=>some b
        |false=>some (!b)
      |some (.tup _)=>some false
      |_=>none
    |none=>none
def stepE (P:Program) (D:Dom α) (cf:Zar α) (lim nt:Nat) (ops:Array Oper) (E:Tr (SV α)) (V:Hp α) (n:Nat) (o:Oper):Option (R3 α):=match Zd8 ops E o.guard with
  | some true=>match doE P D cf lim E V n o.op with
    |some r=>Zay nt E o.dst r.r r.V r.n
    |none=>none
  |some false=>Zay nt E o.dst (some (.tup [])) V n
  |none=>none
def seqE (P:Program) (D:Dom α) (cf:Zar α) (lim nt:Nat) (ops:Array Oper) (l:List Oper):Tr (SV α)->Hp α->Nat->Option (R3 α):=
  List.rec (λE V n=>some ⟨E,V,n⟩) (λo _ ih E V n=>Option.rec none (λs=>ih s.E s.V s.n) (stepE P D cf lim nt ops E V n o)) l
theorem seqE_nil {cf:Zar α} {lim nt:Nat} {ops:Array Oper} (E:Tr (SV α)) (V:Hp α) (n:Nat):seqE P D cf lim nt ops [] E V n=some ⟨E,V,n⟩:=rfl
theorem seqE_cons {cf:Zar α} {lim nt:Nat} {ops:Array Oper} (o:Oper) (r:List Oper) (E:Tr (SV α)) (V:Hp α) (n:Nat):seqE P D cf lim nt ops (o::r) E V n=match stepE P D cf lim nt ops E V n o with
    |some s=>seqE P D cf lim nt ops r s.E s.V s.n
    |none=>none:=by
 show Option.rec (motive:=λ_=>Option (R3 α)) none (λs=>seqE P D cf lim nt ops r s.E s.V s.n) (stepE P D cf lim nt ops E V n o)=_;cases stepE P D cf lim nt ops E V n o <;> rfl
theorem guardE_ok {nt:Nat} {a:Act} {E:Tr (SV α)} {ops:Array Oper} {o:Oper} {b:Bool} (hL:Zaq D G nt a E) (h:Zd8 ops E o.guard=some b):Region.wanted o (yielded ops a.tmps)=b:=by
 unfold Zd8 at h;unfold Region.wanted;split at h;rename_i hg;rw[hg];simpa using h;rename_i p hg;rw[hg];split at h;rename_i e he;split at h;rename_i c hc;obtain⟨v,h1,h2⟩:=hL.at_ e _ hc;cases h2;simp only[yielded,he,h1,Option.bind_some];split at h <;> rename_i hp <;> simp only[Option.some.injEq] at h <;> subst h <;> rw[hp] <;> cases c <;> rfl;rename_i L hc;obtain⟨v,h1,h2⟩:=hL.at_ e _ hc;cases h2;cases h;simp[yielded,he,h1];cases h;cases h
structure Zef (D:Dom α) (lim nt:Nat) (n:Nat) (s:R3 α) (G:Gh) (w:World) (a':Act) (w':World) (G':Gh):Prop where
  fr:Fra G w G' w' (Lw lim s.n) n s.n
  live:Zaq D G' nt a' s.E
  rep:XS D G' All s.V w'
theorem Qn {nt:Nat} {E:Tr (SV α)} {d:Option Tmp} {r:Option (SV α)} {V:Hp α} {n:Nat} {s:R3 α} (h:Zay nt E d r V n=some s):s.V=V/\s.n=n:=by
 unfold Zay at h;split at h;cases h;exact⟨rfl,rfl⟩;split at h;cases h;exact⟨rfl,rfl⟩;cases h
theorem putDst_live {nt:Nat} {E:Tr (SV α)} {d:Option Tmp} {r:Option (SV α)} {V:Hp α} {n:Nat} {s:R3 α} {a:Act} {v:Value} (h:Zay nt E d r V n=some s) (hL:Zaq D G nt a E) (hv:∀c,r=some c->Den D G c v):Zaq D G nt (a.put d v) s.E:=by
 unfold Zay at h;split at h;cases h;exact hL;split at h;rename_i hb;cases h;exact hL.put hb hv;cases h
theorem stepE_stat {cf:Zar α} (hc:Zdl P D cf) {lim nt n:Nat} {ops:Array Oper} {E:Tr (SV α)} {V:Hp α} {o:Oper} {s:R3 α} (h:stepE P D cf lim nt ops E V n o=some s) (hl:lim<=n) (hd:∀i,n<=i->V.at i=none):Stat lim V n s.V s.n:=by
 unfold stepE at h;split at h;split at h;rename_i r hr;obtain⟨e1,e2⟩:=Qn h;rw[e1,e2];exact(doE_do hc hr hl hd).1;cases h;obtain⟨e1,e2⟩:=Qn h;rw[e1,e2];exact⟨Nat.le_refl _,λ_ _=>rfl,hd⟩;cases h
theorem seqE_ok {cf:Zar α} (hc:Zdl P D cf) {lim nt:Nat} {ops:Array Oper}:∀(l:List Oper) (E:Tr (SV α)) (V:Hp α) (n:Nat) (s:R3 α),seqE P D cf lim nt ops l E V n=some s->lim<=n->(∀i,n<=i->V.at i=none)->
    Stat lim V n s.V s.n/\∀G a w,Zaq D G nt a E->XS D G All V w->Zdj G n s.n->∀Q:Exit->Act->World->Prop,(∀a' w' G',Zef D lim nt n s G w a' w' G'->Q .normal a' w')->XE P ops Q l a w
  | [],E,V,n,s,h,hl,hd=>by
    rw[seqE_nil] at h;cases h
    exact⟨⟨Nat.le_refl _,λ_ _=>rfl,hd⟩,λG a w hL hR hf Q hq=>hq a w G ⟨.refl _ _ _ _ _,hL,hR⟩⟩
  | o :: r, E,V,n,s,h,hl,hd=>by
    rw[seqE_cons] at h
    split at h
    · rename_i m hm
      have hst:=stepE_stat hc hm hl hd
      obtain⟨h1,h2⟩:=seqE_ok hc r m.E m.V m.n s h (Nat.le_trans hl hst.le) hst.dom
      refine⟨hst.trans h1,λG a w hL hR hf Q hq=>?_⟩
      have hf1:Zdj G n m.n:=λi a b=>hf i a (Nat.lt_of_lt_of_le b h1.le)
      have next:∀(a':Act) (w':World) (G':Gh),Zaq D G' nt a' m.E->XS D G' All m.V w'->Fra G w G' w' (Lw lim m.n) n m.n->XE P ops Q r a' w':=by
        intro a' w' G' hL' hR' hF
        refine h2 G' a' w' hL' hR' (λi x y=>?_) Q λa2 w2 G2 hg=>hq a2 w2 G2 ⟨?_,hg.live,hg.rep⟩
        · cases hb:G'.blk i with
          |none=>rfl
          | some z=>
            rcases hF.gb i z hb with h5|⟨h5,_⟩
            · rw[hf i (Nat.le_trans hst.le x) y] at h5;cases h5
            · omega
        · exact hF.trans hg.fr (λi hi=>⟨hi.1,Nat.lt_of_lt_of_le hi.2 h1.le⟩) (λi hi=>hi) hst.le h1.le
      simp only[XE]
      unfold stepE at hm
      split at hm
      · rename_i hg
        rw[guardE_ok hL hg]
        split at hm
        · rename_i out hout
          left
          obtain⟨dst,q,ty,pos,af,gd⟩:=o
          refine(doE_do hc hout hl hd).2 dst ty pos af gd G a w (hL.has1 _) hR ?_ (λv w'=>XE P ops Q r (a.put dst v) w') ?_ _ _ (λv w' hk=>hk)
          · obtain⟨e1,e2⟩:=Qn hm
            rw[<-e2];exact hf1
          · intro v w' G' hgood
            obtain⟨e1,e2⟩:=Qn hm
            refine next _ w' G' (putDst_live hm (hL.up hgood.fr.le) hgood.den) (by rw[e1];exact hgood.rep) (by rw[e2];exact hgood.fr)
        · cases hm
      · rename_i hg
        rw[guardE_ok hL hg]
        simp only[Bool.false_eq_true,if_false]
        obtain⟨e1,e2⟩:=Qn hm
        exact next _ w G (putDst_live hm hL (λc hc=>by cases hc;exact .tup .nil)) (by rw[e1];exact hR) (by rw[e2];exact .refl _ _ _ _ _)
      · cases hm
    · cases h
end
end Go.Cham
namespace Go.Cham
open Go Go.RowKit
theorem all_listed {ops:Array Oper} {listed:Array Bool} (hb:Zgt ops=true) (hs:listed.size=ops.size) (hn:Region.ready .any ops listed=[]):∀i,i<ops.size->listed.getD i false=true:=by
 intro i hi
 cases h:listed.getD i false with
 |true=>rfl
 | false=>
   have hi':i<listed.size:=by omega
   refine absurd hn (Zbj hb hs hi ?_)
   simp only[Array.getD_eq_getD_getElem?,Array.getElem?_eq_getElem hi',Option.getD_some] at h
   rw[Array.getElem?_eq_getElem hi',h]
theorem any_gen {P:Program} {ops:Array Oper} {Q:Exit->Act->World->Prop} (hb:Zgt ops=true) (Inv:(Nat->Bool)->Act->World->Prop)
    (hstep:∀done a w i o,Inv done a w->ops[i]? =some o->done i=false->(∀j∈XD ops i,done j=true)->(∀j,done j=true->∀k∈XD ops j,done k=true)->
      if Region.wanted o (yielded ops a.tmps) then YY P o a w (λv w'=>Inv (λk=>done k || k == i) (a.put o.dst v) w') else Inv (λk=>done k || k == i) (a.put o.dst undef) w)
    (hfin:∀done a w,Inv done a w->(∀i,i<ops.size->done i=true)->Q .normal a w):
    ∀(fuel:Nat) (listed:Array Bool) (a:Act) (w:World),listed.size=ops.size->Closed ops listed->(listed.toList.filter (! ·)).length<=fuel->Inv (λk=>listed.getD k false) a w->wpAny P .any ops Q fuel listed a w:=by
 intro fuel
 induction fuel with
 | zero=>
   intro listed a w hs hc hf hI
   have hall:∀i,i<ops.size->listed.getD i false=true:=λi hi=>by
     have hi':i<listed.size:=by omega
     have:listed[i]'hi'=true:=by
       cases hbb:listed[i]'hi' with
       |true=>rfl
       | false=>
         have hm:false∈listed.toList.filter (! ·):=List.mem_filter.2 ⟨by rw[<-hbb];simp,rfl⟩
         have:=List.length_pos_of_mem hm
         omega
     simp[Array.getD_eq_getD_getElem?,Array.getElem?_eq_getElem hi',this]
   refine⟨?_,hfin _ a w hI hall⟩
   cases hr:Region.ready .any ops listed with
   |nil=>rfl
   | cons x xs=>
     obtain⟨o,_,hlt,hno,_⟩:=Zd5 (ops:=ops) (listed:=listed) (i:=x) (by rw[hr];simp)
     have h1:=hall x hlt
     have hx:x<listed.size:=by omega
     simp only[Array.getD_eq_getD_getElem?,Array.getElem?_eq_getElem hx,Option.getD_some] at h1 hno
     rw[h1] at hno;cases hno
 | succ fuel ih=>
   intro listed a w hs hc hf hI
   refine⟨λhn=>hfin _ a w hI (all_listed hb hs hn),λi hi=>?_⟩
   obtain⟨o,ho,hlt,hno,hdi⟩:=Zd5 hi
   have hil:i<listed.size:=by omega
   have hlb:listed.getD i false=false:=by
     simp only[Array.getD_eq_getD_getElem?,Array.getElem?_eq_getElem hil,Option.getD_some] at hno ⊢
     exact hno
   have hdi':∀j∈XD ops i,listed.getD j false=true:=by simpa [XD,ho] using hdi
   have hlb':listed.toList[i]? =some false:=by
     simp only[Array.getD_eq_getD_getElem?,Array.getElem?_eq_getElem hil,Option.getD_some] at hlb
     simp[hil,hlb]
   have hcount:((listed.setIfInBounds i true).toList.filter (! ·)).length<=fuel:=by
     have:=count_set listed.toList i hlb'
     rw[Array.toList_setIfInBounds]
     omega
   have hst:=hstep _ a w i o hI ho hlb hdi' (λj hj k hk=>hc j hj k hk)
   have hfun:(λk=>(listed.setIfInBounds i true).getD k false)=(λk=>listed.getD k false || k == i):=funext (Zc2 listed hil)
   have next:∀(a':Act) (w':World),Inv (λk=>listed.getD k false || k == i) a' w'->wpAny P .any ops Q fuel (listed.setIfInBounds i true) a' w':=λa' w' hI'=>
     ih _ a' w' (by simp[hs]) (closed_set hc hil hdi') hcount (by rw[hfun];exact hI')
   show wpOp P ops Q i _ a w
   unfold wpOp
   simp only[ho]
   split
   · rename_i hw
     rw[if_pos hw] at hst
     exact .inl (hst _ _ λv w' h=>next _ w' h)
   · rename_i hw
     rw[if_neg hw] at hst
     exact next _ w hst
def last (p:Nat->Bool):Nat->Nat
  |0=>0
  |m+1=>if p m then m+1 else last p m
theorem last_le (p:Nat->Bool):∀m,last p m<=m
  |0=>Nat.le_refl _
  | m+1=>by
    unfold last
    split
    · exact Nat.le_refl _
    · have:=last_le p m;omega
theorem last_none (p:Nat->Bool):∀m i,last p m<=i->i<m->p i=false
  |0,i,_,h=>by omega
  | m +1,i,h1,h2=>by
    unfold last at h1
    split at h1
    · omega
    · rename_i hp
      by_cases e:i=m
      · subst e;simpa using hp
      · exact last_none p m i h1 (by omega)
theorem last_eq {p:Nat->Bool} {m i:Nat} (hi:i<m) (hp:p i=true) (h:∀j,i<j->j<m->p j=false):last p m=i+1:=by
 induction m with
 |zero=>omega
 | succ m ih=>
   unfold last
   split
   · rename_i hm
     by_cases e:i=m
     · omega
     · have:=h m (by omega) (by omega);rw[this] at hm;cases hm
   · rename_i hm
     have:i≠m:=λe=>by subst e;exact hm hp
     exact ih (by omega) λj h1 h2=>h j h1 (by omega)
theorem last_congr {p q:Nat->Bool} {m:Nat} (h:∀j,j<m->p j=q j):last p m=last q m:=by
 induction m with
 |zero=>rfl
 | succ m ih=>
   unfold last
   rw[h m (by omega),ih λj hj=>h j (by omega)]
theorem Zer {β:Type} {f:Nat->β} {t:Nat->Bool} {m:Nat} (hf:∀j,j<m->t j=false->f (j+1)=f j) {p:Nat->Bool} {i:Nat} (hi:i<=m) (hp:∀j,j<m->p j=(t j && decide (j<i))):f (last p m)=f i:=by
 have hle:last p m<=i:=by
   rcases Nat.lt_or_ge i (last p m) with h|h
   · have hpos:∃j,last p m=j+1:=⟨last p m - 1,by omega⟩
     obtain⟨j,hj⟩:=hpos
     have h1:=last_le p m
     have hpj:p j=true:=by
       have key:∀m,∀j,last p m=j+1->p j=true:=by
         intro m
         induction m with
         |zero=>intro j h;simp[last] at h
         | succ m ih=>
           intro j h
           unfold last at h
           split at h
           · have:j=m:=by omega
             subst this;assumption
           · exact ih j h
       exact key m j hj
     rw[hp j (by omega)] at hpj
     simp at hpj
     omega
   · exact h
 have key:∀d,last p m+d<=i->f (last p m+d)=f (last p m):=by
   intro d
   induction d with
   |zero=>intro _;rfl
   | succ d ih=>
     intro h
     rw[show last p m+(d+1)=(last p m+d)+1 by omega,hf _ (by omega) ?_]
     · exact ih (by omega)
     · have h1:=last_none p m (last p m+d) (by omega) (by omega)
       rw[hp _ (by omega)] at h1
       simp only[Bool.and_eq_false_iff,decide_eq_false_iff_not] at h1
       rcases h1 with h1|h1
       · exact h1
       · omega
 have:=key (i - last p m) (by omega);rw[show last p m+(i - last p m)=i by omega] at this;exact this.symm
end Go.Cham
namespace Go.Cham
open Go Go.RowKit
noncomputable section
variable {α : Type} {D : Dom α} {P : Program}
def Zaz (q:Op):Bool:=match q with
  | .call c=>match c.callee with
    | .value _=>true
    |_=>false
  |_=>false
def limQ (lim n:Nat) (q:Op):Nat:=match Zaz q with
  |true=>n
  |false=>lim
theorem doE_small {cf:Zar α} (hc:Zdl P D cf) {lim:Nat} {E:Tr (SV α)} {V:Hp α} {n:Nat} {q:Op} {o:Out α} (h:doE P D cf (limQ lim n q) E V n q=some o) (hd:∀i,n<=i->V.at i=none):
    Zdh V n o/\(∀i∈o.wr,lim<=i)/\∀(d:Option Tmp) (ty:TypeId) (pos:String) (af:Array Edge) (g:Option (Nat × Bool)) G a w (I:Nat->Prop),Has1 D G a E q.operands.toList->(∀i∈o.rd,I i)->(∀i∈o.wr,I i)->
      (Zaz q=true->∀i x,V.at i=some x->I i)->XS D G I V w->Zdj G n o.n->
      ∀K:Value->World->Prop,(∀v w' G',Fra G w G' w' (· ∈o.wr) n o.n->(∀c,o.r=some c->Den D G' c v)->XS D G' (λi=>i∈o.wr\/(n<=i/\i<o.n)) o.V w'->K v w')->YY P ⟨d,q,ty,pos,af,g⟩ a w K:=by
 have hop:∀lim,opE P D lim E V n q=some o->Zdh V n o/\(∀i∈o.wr,lim<=i)/\∀(d:Option Tmp) (ty:TypeId) (pos:String) (af:Array Edge) (g:Option (Nat × Bool)) G a w (I:Nat->Prop),Has1 D G a E q.operands.toList->(∀i∈o.rd,I i)->(∀i∈o.wr,I i)->
     (Zaz q=true->∀i x,V.at i=some x->I i)->XS D G I V w->Zdj G n o.n->
     ∀K:Value->World->Prop,(∀v w' G',Fra G w G' w' (· ∈o.wr) n o.n->(∀c,o.r=some c->Den D G' c v)->XS D G' (λi=>i∈o.wr\/(n<=i/\i<o.n)) o.V w'->K v w')->YY P ⟨d,q,ty,pos,af,g⟩ a w K:=by
   intro lim h
   obtain⟨h1,h2⟩:=st_op h
   refine⟨h1,h2,λd ty pos af g G a w I hH hr hw _ hR hf K hk=>?_⟩
   obtain⟨_,_,h3⟩:=opE_ok (P:=P) (d:=d) (ty:=ty) (pos:=pos) (af:=af) (g:=g) (w:=w) h hH
   exact h3 I hr hw hR hf K hk
 rcases doE_cases h with⟨fo,xs,ts,rfl,h'⟩|⟨hne,h'⟩;have h:callE cf n E V n fo xs.toList=some o:=h';refine id ?_;unfold callE at h;split at h;rename_i f fs cs hf;split at h;rename_i vs hvs;split at h;rename_i r hr;cases h;rw[Zat,Zat] at hr;obtain⟨h1,h2⟩:=hc n f _ V n r hr (Nat.le_refl _) hd;refine⟨⟨h1.le,λi _ hi=>?_,λi hi=>by simp at hi⟩,λi hi=>by simp at hi,λd ty pos af g G a w I hH _ _ hI hR hfr K hk=>?_⟩;rcases Nat.lt_or_ge i n with h3|h3;exact h1.old i h3;simp only[not_and,Nat.not_lt] at hi;rw[h1.dom i (hi h3),hd i h3];have hfo:=hH.at_ fo (by simp[Op.operands,Call.operands]) _ hf;have hxs:=(hH.sub (ys:=xs.toList) (λy hy=>by simp[Op.operands,Call.operands];exact .inr (by simpa using hy))).many hvs;have hden:=hfo.den;have hex:=hfo.ex;have hRA:XS D G All V w:=⟨hR.holds,λi o _ hv=>hR.obj i o (hI rfl i o hv) hv,λi j o o' b c c' _ _ hv hv'=>hR.inj i j o o' b c c' (hI rfl i o hv) (hI rfl j o' hv') hv hv'⟩;generalize a.eval fo=u at hden hex
 cases hden with
 | @fn _ _ _ us ws hu hw=>
   refine does_callV (ZL.full hH.defers) hex hxs.1 ?_
   refine(h2 G w _ (hu.append (hxs.2.append hw)) hRA hfr).mono λv w' ⟨G',k1,k2,k3⟩=>hk v w' G' ⟨k1.le,k1.os,k1.tape,k1.output,k1.size,λb hb _=>k1.blk b hb ?_,k1.gS,λi x hx=>(k1.gb i x hx).imp id λ⟨p,q⟩=>⟨p,.inl ?_⟩⟩ (λc hc=>by cases hc;exact k2) (k3.sub λ_ _=>trivial)
   · rintro⟨i,c,⟨hi1,hi2⟩,hb2⟩
     rw[hfr i hi1 hi2] at hb2;cases hb2
   · rcases q with q|⟨j,c,⟨hj1,hj2⟩,hb2⟩
     · exact q
     · rw[hfr j hj1 hj2] at hb2;cases hb2
 cases h;cases h;cases h
 have:limQ lim n q=lim:=by
   unfold limQ Zaz
   cases q with
   | call c=>
     obtain⟨callee,xs,ts⟩:=c
     cases callee with
     |value fo=>exact absurd rfl (hne fo xs ts)
     |_=>rfl
   |_=>rfl
 rw[this] at h';exact hop lim h'
inductive Anc (ops:Array Oper) (i:Nat):Nat->Prop where
  |dep {j:Nat} (h:i∈XD ops j):Anc ops i j
  |step {j k:Nat} (hk:k∈XD ops j) (h:Anc ops i k):Anc ops i j
theorem anc_done {ops:Array Oper} {done:Nat->Bool} (hcl:∀j,done j=true->∀k∈XD ops j,done k=true) {i j:Nat} (h:Anc ops i j) (hj:∀k∈XD ops j,done k=true):done i=true:=by
 induction h with
 |dep h=>exact hj i h
 |step hk _ ih=>exact ih (hcl _ (hj _ hk))
def maskOf (T:Tr Nat) (l:List Nat):Nat:=List.rec 0 (λk _ ih=>Nat.lor (Nat.lor (Nat.shiftLeft 1 k) (Option.rec 0 (λx=>x) (T.at k))) ih) l
def maskF (ops:Array Oper) (m:Nat):Tr Nat:=Nat.rec .nil (λj T=>T.put j (some (maskOf T (XD ops j)))) m
def masks (ops:Array Oper):Tr Nat:=maskF ops ops.size
def ancB (ops:Array Oper) (i j:Nat):Bool:=match (masks ops).at j with
  |some m=>Nat.testBit m i
  |none=>false
theorem maskOf_bit (T:Tr Nat) (i:Nat):∀l:List Nat,(maskOf T l).testBit i=true->∃k∈l,i=k\/∃x,T.at k=some x/\x.testBit i=true
  |[],h=>by simp[maskOf] at h
  | k ::r,h=>by
    have h':((((1<<<k) |||(Option.rec 0 (λx=>x) (T.at k):Nat)) |||maskOf T r):Nat).testBit i=true:=h
    rw[Nat.testBit_or,Nat.testBit_or,Bool.or_eq_true,Bool.or_eq_true] at h'
    rcases h' with(h1|h1)|h1
    · rw[Nat.one_shiftLeft,Nat.testBit_two_pow] at h1
      exact⟨k,by simp,.inl (by have:=of_decide_eq_true h1;omega)⟩
    · refine⟨k,by simp,.inr ?_⟩
      cases hk:T.at k with
      |none=>rw[hk] at h1;simp at h1
      |some x=>rw[hk] at h1;exact⟨x,rfl,h1⟩
    · obtain⟨q,hq,h2⟩:=maskOf_bit T i r h1
      exact⟨q,by simp[hq],h2⟩
theorem maskF_ok (ops:Array Oper) (i:Nat):∀(m j x:Nat),(maskF ops m).at j=some x->x.testBit i=true->Anc ops i j
  | 0,j,x,h,_=>by
    have h':(Tr.nil:Tr Nat).at j=some x:=h
    unfold Tr.at at h'
    rw[Tr.get_nil] at h'
    cases h'
  | m +1,j,x,h,hb=>by
    have h':((maskF ops m).put m (some (maskOf (maskF ops m) (XD ops m)))).at j=some x:=h
    rw[Tr.at_put_if] at h'
    split at h'
    · rename_i e
      subst e
      cases h'
      obtain⟨k,hk,h2⟩:=maskOf_bit _ _ _ hb
      rcases h2 with rfl|⟨y,hy,h3⟩
      · exact .dep hk
      · exact .step hk (maskF_ok ops i j k y hy h3)
    · exact maskF_ok ops i m j x h' hb
theorem ancB_ok {ops:Array Oper} {i j:Nat} (h:ancB ops i j=true):Anc ops i j:=by
 unfold ancB at h;split at h;rename_i m hm;exact maskF_ok ops i _ j m hm h;cases h
def tmpsOf:List Operand->List Nat
  |[]=>[]
  | .tmp t::r=>t::tmpsOf r
  |_::r=>tmpsOf r
def guardSlot (ops:Array Oper) (g:Option (Nat × Bool)):Option Nat:=match g with
  |none=>none
  |some p=>(ops[p.1]?).bind (·.dst)
def opsL:Op->List Operand
  | .alloc _| .ready _| .waits _=>[]
  | .move x| .assign x| .box _ x| .load _ x| .nilCheck x| .unOp _ _ x| .convert _ _ x| .sliceToArrayPointer _ x| .makeInterface _ x
  | .makeChan _ x| .fieldAddr _ x _| .field _ x _| .range _ x| .next x _| .entry x| .typeAssert x _ _ _| .extract x _| .panic x| .recv _ x _=>[x]
  | .pick c a b=>[c,a,b]
  | .build _ ps| .buildSlice _ _ ps=>ps.toList.map (·.2)
  | .store _ a v| .binOp _ _ a v _| .makeSlice _ a v| .indexAddr _ a v| .index _ a v| .lookup _ a v _| .mapEntry _ a v| .send a v=>[a,v]
  | .makeFunc _ first captured=>first.toList++captured.toList
  | .makeMap _ r=>r.toList
  | .slice _ x l h m=>x::(l.toList++(h.toList++m.toList))
  | .mapUpdate _ m k v| .entryStore _ m k v| .insert _ m k v=>[m,k,v]
  | .call c=>(match c.callee with| .value f=>[f]| .invoke r _=>[r]| .builtin _=>[])++c.args.toList
  | .go c| .defer c=>c.operands.toList
  | .select cs b=>(Op.select cs b).operands.toList
theorem opsL_mem {q:Op} {x:Operand} (h:x∈q.operands.toList):x∈opsL q:=by
 cases q with
 | call c=>
   obtain⟨callee,xs,ts⟩:=c
   cases callee <;> simpa [Op.operands,Call.operands,opsL] using h
 |go c=>exact h
 |defer c=>exact h
 |select cs b=>exact h
 | slice t x l hh m=>
   simp only[Op.operands,Array.toList_append,List.mem_append] at h
   simp only[opsL,List.mem_cons,List.mem_append]
   rcases h with((h|h)|h)|h
   · exact .inl (by simpa using h)
   · exact .inr (.inl (by simpa using h))
   · exact .inr (.inr (.inl (by simpa using h)))
   · exact .inr (.inr (.inr (by simpa using h)))
 |_=>first|(simp[Op.operands] at h;done)|simpa [Op.operands,opsL] using h
def looksE (ops:Array Oper) (o:Oper):List Nat:=match guardSlot ops o.guard with
  |some e=>e::tmpsOf (opsL o.op)
  |none=>tmpsOf (opsL o.op)
def memN (l:List Nat) (x:Nat):Bool:=List.rec false (λy _ ih=>Bool.rec ih true (Nat.beq y x)) l
theorem XW {l:List Nat} {x:Nat}:memN l x=true↔x∈l:=by
 induction l with
 |nil=>exact⟨λh=>(by cases h),λh=>(by simp at h)⟩
 | cons y r ih=>
   have:memN (y::r) x=Bool.rec (motive:=λ_=>Bool) (memN r x) true (Nat.beq y x):=rfl
   rw[this]
   cases hb:Nat.beq y x with
   |true=>rw[YM] at hb;subst hb;simp
   | false=>
     have hne:¬x=y:=λe=>by subst e;simp at hb
     simp only[List.mem_cons,hne,false_or]
     exact ih
def wtab (l:List Oper):Nat->Tr (List Nat)->Tr (List Nat):=List.rec (λ_ T=>T) (λo _ ih i T=>ih (Nat.succ i) (match o.dst with
  |some d=>T.put d (some (i::Option.rec [] (λx=>x) (T.at d)))
  |none=>T)) l
def ordB (ops:Array Oper) (i j:Nat):Bool:=match Nat.ble (Nat.succ i) j with
  |true=>ancB ops i j
  | false=>match Nat.ble (Nat.succ j) i with
    |true=>ancB ops j i
    |false=>true
def slotOK1 (ops:Array Oper) (T:Tr (List Nat)) (j t:Nat):Bool:=match T.at t with
  |some l=>l.all λi=>ordB ops i j
  |none=>true
def slotsOK (ops:Array Oper):Bool:=(List.range ops.size).all λj=>match ops[j]? with
  |some o=>(looksE ops o).all (slotOK1 ops (wtab ops.toList 0 .nil) j) && (match o.dst with|some d=>slotOK1 ops (wtab ops.toList 0 .nil) j d|none=>true)
  |none=>false
theorem wtab_ok:∀(l:List Oper) (i:Nat) (T:Tr (List Nat)) (t j:Nat),((∃x,T.at t=some x/\j∈x)\/∃o,i<=j/\l[j - i]? =some o/\o.dst=some t)->∃x,(wtab l i T).at t=some x/\j∈x
  | [],i,T,t,j,h=>by
    rcases h with h|⟨o,_,h,_⟩
    · exact h
    · simp at h
  | o ::r,i,T,t,j,h=>by
    show ∃x,(wtab r (i+1) _).at t=some x/\j∈x
    refine wtab_ok r (i+1) _ t j ?_
    rcases h with⟨x,h1,h2⟩|⟨o',h1,h2,h3⟩
    · left
      split
      · rename_i d hd
        rw[Tr.at_put_if]
        split
        · rename_i e
          subst e
          rw[h1]
          exact⟨_,rfl,by simp[h2]⟩
        · exact⟨x,h1,h2⟩
      · exact⟨x,h1,h2⟩
    · by_cases e:j=i
      · subst e
        simp at h2
        subst h2
        left
        rw[h3]
        simp only
        rw[Tr.at_put]
        exact⟨_,rfl,by simp⟩
      · right
        refine⟨o',by omega,?_,h3⟩
        rw[show j - i=(j - (i+1))+1 by omega,List.getElem?_cons_succ] at h2
        exact h2
structure Rec where
  i:Nat
  lo:Nat
  hi:Nat
  rd:List Nat
  wr:List Nat
  call:Bool
def Rec.loud (r:Rec):Bool:=r.call || !r.rd.isEmpty || !r.wr.isEmpty || !(Nat.beq r.lo r.hi)
def disjL (a b:List Nat):Bool:=a.all λx=> !(memN b x)
def noneIn (lo hi:Nat) (l:List Nat):Bool:=l.all λx=> !(Nat.ble lo x && Nat.ble (Nat.succ x) hi)
def apartR (a b:Rec):Bool:=disjL a.wr (b.rd++b.wr) && disjL a.rd b.wr && noneIn a.lo a.hi (b.rd++b.wr) && (!b.call || (a.wr.isEmpty && Nat.beq a.lo a.hi)) && (!a.call || b.wr.isEmpty)
def touchy (r:Rec):Bool:= !r.wr.isEmpty || !(Nat.beq r.lo r.hi)
def pairR (ops:Array Oper) (a b:Rec):Bool:=match Nat.ble (Nat.succ a.i) b.i with
  | true=>match ancB ops a.i b.i with
    |true=>true
    |false=>apartR a b
  |false=>true
def pairsR (ops:Array Oper) (l:List Rec):Bool:=l.all λa=>match touchy a with
  |true=>l.all λb=>pairR ops a b && pairR ops b a
  |false=>true
def recAdd (r:Rec) (l:List Rec):List Rec:=match r.loud with
  |true=>r::l
  |false=>l
def draw1 (P:Program) (D:Dom α) (cf:Zar α) (lim nt:Nat) (ops:Array Oper) (o:Oper) (ih:Nat->Tr (SV α)->Hp α->Nat->List Rec->Option (R3 α × List Rec)) (i:Nat) (E:Tr (SV α)) (V:Hp α) (n:Nat) (l:List Rec):Option (R3 α × List Rec):=match Zd8 ops E o.guard with
    | some true=>match doE P D cf (limQ lim n o.op) E V n o.op with
      | some out=>match out.rd.all λx=>Nat.ble (Nat.succ x) n with
        | true=>match Zay nt E o.dst out.r out.V out.n with
          |some s=>ih (Nat.succ i) s.E s.V s.n (recAdd ⟨i,n,out.n,out.rd,out.wr,Zaz o.op⟩ l)
          |none=>none
        |false=>none
      |none=>none
    | some false=>match Zay nt E o.dst (some (.tup [])) V n with
      |some s=>ih (Nat.succ i) s.E s.V s.n l
      |none=>none
    |none=>none
def drawGo (P:Program) (D:Dom α) (cf:Zar α) (lim nt:Nat) (ops:Array Oper) (r:List Oper):Nat->Tr (SV α)->Hp α->Nat->List Rec->Option (R3 α × List Rec):=
  List.rec (λ_ E V n l=>some (⟨E,V,n⟩,l)) (λo _ ih i E V n l=>draw1 P D cf lim nt ops o ih i E V n l) r
theorem drawGo_nil {cf:Zar α} {lim nt:Nat} {ops:Array Oper} (i:Nat) (E:Tr (SV α)) (V:Hp α) (n:Nat) (l:List Rec):drawGo P D cf lim nt ops [] i E V n l=some (⟨E,V,n⟩,l):=rfl
theorem drawGo_cons {cf:Zar α} {lim nt:Nat} {ops:Array Oper} (o:Oper) (r:List Oper) (i:Nat) (E:Tr (SV α)) (V:Hp α) (n:Nat) (l:List Rec):drawGo P D cf lim nt ops (o::r) i E V n l=draw1 P D cf lim nt ops o (drawGo P D cf lim nt ops r) i E V n l:=rfl
def drawE (P:Program) (D:Dom α) (cf:Zar α) (lim nt:Nat) (ops:Array Oper) (E:Tr (SV α)) (V:Hp α) (n:Nat):Option (R3 α):=match Zgt ops && slotsOK ops with
  | true=>match drawGo P D cf lim nt ops ops.toList 0 E V n [] with
    | some (s,l)=>match pairsR ops l with
      |true=>some s
      |false=>none
    |none=>none
  |false=>none
structure StepAt (P:Program) (D:Dom α) (cf:Zar α) (lim nt:Nat) (ops:Array Oper) (l:List Rec) (st:Nat->R3 α) (oc:Nat->Option (Out α)) (i:Nat) (o:Oper):Prop where
  on:∀out,oc i=some out->Zd8 ops (st i).E o.guard=some true/\doE P D cf (limQ lim (st i).n o.op) (st i).E (st i).V (st i).n o.op=some out/\Zay nt (st i).E o.dst out.r out.V out.n=some (st (i+1))/\
    (∀x∈out.rd,x<(st i).n)/\((⟨i,(st i).n,out.n,out.rd,out.wr,Zaz o.op⟩:Rec).loud=true->(⟨i,(st i).n,out.n,out.rd,out.wr,Zaz o.op⟩:Rec)∈l)
  off:oc i=none->Zd8 ops (st i).E o.guard=some false/\Zay nt (st i).E o.dst (some (.tup [])) (st i).V (st i).n=some (st (i+1))
theorem drawGo_ok {cf:Zar α} {lim nt:Nat} {ops:Array Oper}:∀(r:List Oper) (k:Nat) (E:Tr (SV α)) (V:Hp α) (n:Nat) (l:List Rec) (s:R3 α) (l':List Rec),drawGo P D cf lim nt ops r k E V n l=some (s,l')->r=ops.toList.drop k->k<=ops.size->
    ∃(st:Nat->R3 α) (oc:Nat->Option (Out α)),st k=⟨E,V,n⟩/\st ops.size=s/\(∀x∈l,x∈l')/\∀i,k<=i->i<ops.size->∃o,ops[i]? =some o/\StepAt P D cf lim nt ops l' st oc i o
  | [],k,E,V,n,l,s,l',h,hr,hk=>by
    rw[drawGo_nil] at h;cases h
    have:ops.size<=k:=by
      have:=congrArg List.length hr
      simp at this;omega
    have e:k=ops.size:=by omega
    exact⟨λ_=>⟨E,V,n⟩,λ_=>none,rfl,rfl,λx hx=>hx,λi h1 h2=>by omega⟩
  | o :: r, k, E, V,n,l,s,l',h,hr,hk=>by
    have hlt:k<ops.size:=by
      have:=congrArg List.length hr
      simp at this;omega
    have hlt':k<ops.toList.length:=by simpa using hlt
    rw[List.drop_eq_getElem_cons hlt'] at hr
    simp only[List.cons.injEq] at hr
    obtain⟨ho,hr⟩:=hr
    have hok:ops[k]? =some o:=by
      rw[ho];simp[hlt]
    rw[drawGo_cons] at h;unfold draw1 at h
    split at h
    · rename_i hg
      split at h
      · rename_i out hout
        split at h
        · rename_i hrd
          split at h
          · rename_i m hm
            obtain⟨st,oc,h1,h2,h3,h4⟩:=drawGo_ok r (k+1) m.E m.V m.n _ s l' h hr (by omega)
            refine⟨λj=>if j=k then⟨E,V,n⟩ else st j,λj=>if j=k then some out else oc j,if_pos rfl,?_,λx hx=>h3 x ?_,λi hi1 hi2=>?_⟩
            · show(if ops.size=k then _ else st ops.size)=s
              rw[if_neg (by omega)];exact h2
            · unfold recAdd;split
              · exact List.mem_cons_of_mem _ hx
              · exact hx
            · by_cases e:i=k
              · subst e
                refine⟨o,hok,⟨λout' ho'=>?_,λho'=>?_⟩⟩
                · simp only[if_pos] at ho'
                  cases ho'
                  simp only[if_pos]
                  rw[if_neg (by omega)]
                  refine⟨hg,hout,by rw[hm,h1],λx hx=>?_,λhl=>h3 _ ?_⟩
                  · have:=List.all_eq_true.1 hrd x hx
                    exact Nat.le_of_ble_eq_true this
                  · unfold recAdd
                    rw[hl]
                    exact List.mem_cons_self
                · simp at ho'
              · obtain⟨o',ho',hs⟩:=h4 i (by omega) hi2
                refine⟨o',ho',⟨λout' hx=>?_,λhx=>?_⟩⟩
                · simp only[if_neg e] at hx ⊢
                  rw[if_neg (by omega)]
                  exact hs.on out' hx
                · simp only[if_neg e] at hx ⊢
                  rw[if_neg (by omega)]
                  exact hs.off hx
          · cases h
        · cases h
      · cases h
    · rename_i hg
      split at h
      · rename_i m hm
        obtain⟨st,oc,h1,h2,h3,h4⟩:=drawGo_ok r (k+1) m.E m.V m.n _ s l' h hr (by omega)
        refine⟨λj=>if j=k then⟨E,V,n⟩ else st j,λj=>if j=k then none else oc j,if_pos rfl,?_,h3,λi hi1 hi2=>?_⟩
        · show(if ops.size=k then _ else st ops.size)=s
          rw[if_neg (by omega)];exact h2
        · by_cases e:i=k
          · subst e
            refine⟨o,hok,⟨λout' ho'=>?_,λho'=>?_⟩⟩
            · simp at ho'
            · simp only[if_pos]
              rw[if_neg (by omega)]
              exact⟨hg,by rw[hm,h1]⟩
          · obtain⟨o',ho',hs⟩:=h4 i (by omega) hi2
            refine⟨o',ho',⟨λout' hx=>?_,λhx=>?_⟩⟩
            · simp only[if_neg e] at hx ⊢
              rw[if_neg (by omega)]
              exact hs.on out' hx
            · simp only[if_neg e] at hx ⊢
              rw[if_neg (by omega)]
              exact hs.off hx
      · cases h
    · cases h
end
end Go.Cham
namespace Go.Cham
open Go Go.RowKit
noncomputable section
variable {α : Type} {D : Dom α} {P : Program} {cf : Zar α} {lim nt : Nat} {ops : Array Oper}
def XV (st:Nat->R3 α) (oc:Nat->Option (Out α)) (i x:Nat):Bool:=match oc i with
  |some out=>memN out.wr x || (Nat.ble (st i).n x && Nat.ble (Nat.succ x) (st (i+1)).n)
  |none=>false
def dstB (ops:Array Oper) (i t:Nat):Bool:=match ops[i]? with
  | some o=>match o.dst with
    |some d=>Nat.beq d t
    |none=>false
  |none=>false
theorem putDst_ne {E:Tr (SV α)} {d:Option Tmp} {r:Option (SV α)} {V:Hp α} {n:Nat} {s:R3 α} {t:Nat} (h:Zay nt E d r V n=some s) (ht:d≠some t):s.E.at t=E.at t:=by
 unfold Zay at h;split at h;cases h;rfl;rename_i e;split at h;cases h;exact Tr.at_put_ne _ _ (λx=>ht (by rw[x]));cases h
theorem putDst_at {E:Tr (SV α)} {d:Nat} {r:Option (SV α)} {V:Hp α} {n:Nat} {s:R3 α} (h:Zay nt E (some d) r V n=some s):s.E.at d=r/\d<nt:=by
 unfold Zay at h;split at h;rename_i e;cases e;rename_i e;cases e;split at h;rename_i hb;cases h;exact⟨Tr.at_put _ _ _,Nat.le_of_ble_eq_true hb⟩;cases h
structure Ev0 (P:Program) (D:Dom α) (cf:Zar α) (lim nt:Nat) (ops:Array Oper) (st:Nat->R3 α) (oc:Nat->Option (Out α)):Prop where
  back:Zgt ops=true
  slots:slotsOK ops=true
  dom:∀i,i<=ops.size->∀x,(st i).n<=x->(st i).V.at x=none
  le:∀i,i<ops.size->(st i).n<=(st (i+1)).n
  same:∀i,i<ops.size->∀x,XV st oc i x=false->(st (i+1)).V.at x=(st i).V.at x
  wr:∀i,i<ops.size->∀out,oc i=some out->∀x∈out.wr,lim<=x/\∃o,(st i).V.at x=some o
  same0:∀i,i<ops.size->oc i=none->(st (i+1)).V=(st i).V/\(st (i+1)).n=(st i).n
  slotNe:∀i,i<ops.size->∀t,dstB ops i t=false->(st (i+1)).E.at t=(st i).E.at t
  step:∀i,i<ops.size->∃o,ops[i]? =some o/\(oc i=none->Zd8 ops (st i).E o.guard=some false/\Zay nt (st i).E o.dst (some (.tup [])) (st i).V (st i).n=some (st (i+1)))/\
    ∀ out,oc i=some out->Zd8 ops (st i).E o.guard=some true/\Zay nt (st i).E o.dst out.r out.V out.n=some (st (i+1))/\doE P D cf (limQ lim (st i).n o.op) (st i).E (st i).V (st i).n o.op=some out/\
      ∀x,(x∈out.rd\/x∈out.wr\/(Zaz o.op=true/\∃y,(st i).V.at x=some y))->∀j,j<ops.size->j≠i->XV st oc j x=true->(j<i->Anc ops j i)/\(i<j->Anc ops i j)
theorem ev0_of (hc:Zdl P D cf) {st:Nat->R3 α} {oc:Nat->Option (Out α)} {l:List Rec} (hb:Zgt ops=true) (hs:slotsOK ops=true) (hp:pairsR ops l=true) (hd:∀x,(st 0).n<=x->(st 0).V.at x=none)
    (h:∀i,i<ops.size->∃o,ops[i]? =some o/\StepAt P D cf lim nt ops l st oc i o):Ev0 P D cf lim nt ops st oc:=by
 have one:∀i,i<ops.size->(∀x,(st i).n<=x->(st i).V.at x=none)->(st i).n<=(st (i+1)).n/\(∀x,XV st oc i x=false->(st (i+1)).V.at x=(st i).V.at x)/\(∀out,oc i=some out->∀x∈out.wr,lim<=x/\∃o,(st i).V.at x=some o)/\
     (∀x,(st (i+1)).n<=x->(st (i+1)).V.at x=none)/\(oc i=none->(st (i+1)).V=(st i).V/\(st (i+1)).n=(st i).n):=by
   intro i hi hdi
   obtain⟨o,ho,hst⟩:=h i hi
   cases hoc:oc i with
   | none=>
     obtain⟨_,h2⟩:=hst.off hoc
     obtain⟨e1,e2⟩:=Qn h2
     exact⟨by rw[e2];exact Nat.le_refl _,λx _=>(by rw[e1]),λout hx=>(by cases hx),λx hx=>(by rw[e1];exact hdi x (by rw[<-e2];exact hx)),λ_=>⟨e1,e2⟩⟩
   | some out=>
     obtain⟨_,h2,h3,h4,h5⟩:=hst.on out hoc
     obtain⟨e1,e2⟩:=Qn h3
     obtain⟨k1,k2,_⟩:=doE_small hc h2 hdi
     have hle:=k1.le
     refine⟨by rw[e2];exact hle,λx hx=>?_,λout' hx x hxw=>?_,λx hx=>?_,λhx=>(by cases hx)⟩
     · rw[e1]
       simp only[XV,hoc,Bool.or_eq_false_iff] at hx
       refine k1.ag x (λhm=>?_) (λhm=>?_)
       · have:=XW.2 hm
         rw[this] at hx;cases hx.1
       · have h7:Nat.ble (st i).n x=true:=Nat.ble_eq_true_of_le hm.1
         have h8:Nat.ble (Nat.succ x) (st (i+1)).n=true:=Nat.ble_eq_true_of_le (by rw[e2];exact hm.2)
         rw[h7,h8] at hx;cases hx.2
     · cases hx
       exact⟨k2 x hxw,k1.wr x hxw⟩
     · rw[e1]
       rw[e2] at hx
       rw[k1.ag x (λhm=>?_) (by omega)]
       · exact hdi x (by omega)
       · obtain⟨y,hy⟩:=k1.wr x hm
         have:=Tr.lt hdi hy
         omega
 have hdom:∀i,i<=ops.size->∀x,(st i).n<=x->(st i).V.at x=none:=by
   intro i
   induction i with
   |zero=>intro _;exact hd
   |succ i ih=>intro hi;exact(one i (by omega) (ih (by omega))).2.2.2.1
 have hmono:∀d i,i+d<=ops.size->(st i).n<=(st (i+d)).n:=by
   intro d
   induction d with
   |zero=>intro i _;exact Nat.le_refl _
   | succ d ih=>
     intro i hi
     exact Nat.le_trans (ih i (by omega)) (one (i+d) (by omega) (hdom _ (by omega))).1
 refine⟨hb,hs,hdom,λi hi=>(one i hi (hdom i (by omega))).1,λi hi=>(one i hi (hdom i (by omega))).2.1,λi hi=>(one i hi (hdom i (by omega))).2.2.1,λi hi=>(one i hi (hdom i (by omega))).2.2.2.2,λi hi t ht=>?_,λi hi=>?_⟩;obtain⟨o,ho,hst⟩:=h i hi;have hne:o.dst≠some t:=by intro e;simp[dstB,ho,e] at ht
 cases hoc:oc i with
 |none=>exact putDst_ne (hst.off hoc).2 hne
 |some out=>exact putDst_ne (hst.on out hoc).2.2.1 hne
 obtain⟨o,ho,hst⟩:=h i hi;refine⟨o,ho,hst.off,λout hoc=>?_⟩;obtain⟨h1,h2,h3,h4,h5⟩:=hst.on out hoc;obtain⟨e1,e2⟩:=Qn h3;refine⟨h1,h3,h2,λx hx j hj hji ht=>?_⟩;obtain⟨oj,hoj,hstj⟩:=h j hj;unfold XV at ht;split at ht;rename_i outj hocj;obtain⟨_,j2,j3,_,j5⟩:=hstj.on outj hocj;obtain⟨f1,f2⟩:=Qn j3
 have hlj:(⟨j,(st j).n,outj.n,outj.rd,outj.wr,Zaz oj.op⟩:Rec).loud=true:=by
   simp only[Bool.or_eq_true,Bool.and_eq_true] at ht
   simp only[Rec.loud]
   rcases ht with ht|⟨ht1,ht2⟩
   · have:=XW.1 ht
     cases hw:outj.wr with
     |nil=>rw[hw] at this;simp at this
     |cons a b=>simp
   · have a1:=Nat.le_of_ble_eq_true ht1
     have a2:=Nat.le_of_ble_eq_true ht2
     rw[f2] at a2
     have:Nat.beq (st j).n outj.n=false:=by
       cases hbb:Nat.beq (st j).n outj.n with
       |false=>rfl
       |true=>rw[YM] at hbb;omega
     rw[this];simp
 have hli:(⟨i,(st i).n,out.n,out.rd,out.wr,Zaz o.op⟩:Rec).loud=true:=by
   simp only[Rec.loud]
   rcases hx with hx|hx|⟨hx,_⟩
   · cases hw:out.rd with
     |nil=>rw[hw] at hx;simp at hx
     |cons a b=>simp
   · cases hw:out.wr with
     |nil=>rw[hw] at hx;simp at hx
     |cons a b=>simp
   · rw[hx];simp
 have m1:=h5 hli;have m2:=j5 hlj
 have htj:touchy (⟨j,(st j).n,outj.n,outj.rd,outj.wr,Zaz oj.op⟩:Rec)=true:=by
   simp only[Bool.or_eq_true,Bool.and_eq_true] at ht
   simp only[touchy]
   rcases ht with ht|⟨ht1,ht2⟩
   · have:=XW.1 ht
     cases hw:outj.wr with
     |nil=>rw[hw] at this;simp at this
     |cons a b=>simp
   · have a1:=Nat.le_of_ble_eq_true ht1
     have a2:=Nat.le_of_ble_eq_true ht2
     rw[f2] at a2
     have:Nat.beq (st j).n outj.n=false:=by
       cases hbb:Nat.beq (st j).n outj.n with
       |false=>rfl
       |true=>rw[YM] at hbb;omega
     rw[this];simp
 have hpp:pairR ops (⟨j,(st j).n,outj.n,outj.rd,outj.wr,Zaz oj.op⟩:Rec) (⟨i,(st i).n,out.n,out.rd,out.wr,Zaz o.op⟩:Rec)=true/\pairR ops (⟨i,(st i).n,out.n,out.rd,out.wr,Zaz o.op⟩:Rec) (⟨j,(st j).n,outj.n,outj.rd,outj.wr,Zaz oj.op⟩:Rec)=true:=by have:=List.all_eq_true.1 hp _ m2;rw[htj] at this;have:=List.all_eq_true.1 this _ m1;simpa only[Bool.and_eq_true] using this
 have hxn:x<(st i).n:=by rcases hx with hx|hx|⟨_,y,hy⟩;exact h4 x hx;obtain⟨y,hy⟩:=(one i hi (hdom i (by omega))).2.2.1 out hoc x hx |>.2;exact Tr.lt (hdom i (by omega)) hy;exact Tr.lt (hdom i (by omega)) hy
 simp only[Bool.or_eq_true,Bool.and_eq_true] at ht;refine⟨λhlt=>?_,λhlt=>?_⟩;have hq:=hpp.1;unfold pairR at hq;have hb1:Nat.ble (Nat.succ j) i=true:=Nat.ble_eq_true_of_le hlt;simp only[hb1] at hq
 cases ha:ancB ops j i with
 |true=>exact ancB_ok ha
 | false=>
   exfalso
   rw[ha] at hq
   simp only[apartR,Bool.and_eq_true] at hq
   obtain⟨⟨⟨⟨q1,q2⟩,q3⟩,q4⟩,q5⟩:=hq
   rcases hx with hx|hx|⟨hx,_⟩
   · rcases ht with ht|⟨t1,t2⟩
     · have:=List.all_eq_true.1 q1 x (XW.1 ht)
       have h9:memN (out.rd++out.wr) x=true:=XW.2 (List.mem_append_left _ hx)
       rw[h9] at this;cases this
     · have:=List.all_eq_true.1 q3 x (List.mem_append_left _ hx)
       rw[f2] at t2
       rw[t1,t2] at this;cases this
   · rcases ht with ht|⟨t1,t2⟩
     · have:=List.all_eq_true.1 q1 x (XW.1 ht)
       have h9:memN (out.rd++out.wr) x=true:=XW.2 (List.mem_append_right _ hx)
       rw[h9] at this;cases this
     · have:=List.all_eq_true.1 q3 x (List.mem_append_right _ hx)
       rw[f2] at t2
       rw[t1,t2] at this;cases this
   · rw[hx] at q4
     simp only[Bool.not_true,Bool.false_or,Bool.and_eq_true,YM] at q4
     rcases ht with ht|⟨t1,t2⟩
     · have:=XW.1 ht
       have q6:=List.isEmpty_iff.1 q4.1
       rw[q6] at this;simp at this
     · rw[f2] at t2
       have a1:=Nat.le_of_ble_eq_true t1
       have a2:=Nat.le_of_ble_eq_true t2
       have q7:=q4.2
       omega
 have hq:=hpp.2;unfold pairR at hq;have hb1:Nat.ble (Nat.succ i) j=true:=Nat.ble_eq_true_of_le hlt;simp only[hb1] at hq
 cases ha:ancB ops i j with
 |true=>exact ancB_ok ha
 | false=>
   exfalso
   rw[ha] at hq
   simp only[apartR,Bool.and_eq_true] at hq
   obtain⟨⟨⟨⟨q1,q2⟩,q3⟩,q4⟩,q5⟩:=hq
   rcases ht with ht|⟨t1,t2⟩
   · have hxw:=XW.1 ht
     rcases hx with hx|hx|⟨hx,_⟩
     · have:=List.all_eq_true.1 q2 x hx
       rw[ht] at this;cases this
     · have:=List.all_eq_true.1 q1 x hx
       have h9:memN (outj.rd++outj.wr) x=true:=XW.2 (List.mem_append_right _ hxw)
       rw[h9] at this;cases this
     · rw[hx] at q5
       simp only[Bool.not_true,Bool.false_or] at q5
       have q6:=List.isEmpty_iff.1 q5
       rw[q6] at hxw;simp at hxw
   · have a1:=Nat.le_of_ble_eq_true t1
     have:=hmono (j - i) i (by omega)
     rw[show i+(j - i)=j by omega] at this
     omega
 cases ht
end
end Go.Cham
namespace Go.Cham
open Go Go.RowKit
noncomputable section
variable {α : Type} {D : Dom α} {P : Program} {cf : Zar α} {lim nt : Nat} {ops : Array Oper}
theorem Fra.comp {G G' G'':Gh} {w w' w'':World} {wr:Nat->Prop} {wr2:Nat->Prop} {n n' m m':Nat} (h:Fra G w G' w' wr n n') (k:Fra G' w' G'' w'' wr2 m m') (h2:∀i,wr2 i->wr i) (l1:n<=m) (l2:m'<=n'):Fra G w G'' w'' wr n n':=by
 have k':Fra G' w' G'' w'' wr n n':=k.mono h2 l1 l2;have back:∀j c b,wr j->G'.blk j=some (b,c)->b<w.heap.size->∃i c,wr i/\G.blk i=some (b,c):=by intro j c b hj hb hlt;rcases h.gb j _ hb with h3|⟨_,h3|⟨i,c',h3,h4⟩⟩;exact⟨j,c,hj,h3⟩;simp at h3;omega;exact⟨i,c',h3,h4⟩
 refine⟨h.le.trans k'.le,k'.os.trans h.os,k'.tape.trans h.tape,k'.output.trans h.output,Nat.le_trans h.size k'.size,λb hb hn=>?_,λb o hb=>?_,λi x hx=>?_⟩;rw[k'.blk b (Nat.lt_of_lt_of_le hb h.size) (λ⟨i,c,x,y⟩=>hn (back i c b x y hb))];exact h.blk b hb hn;rcases k'.gS b o hb with h3|h3;exact h.gS b o h3;exact .inr (Nat.le_trans h.size h3);rcases k'.gb i x hx with h3|⟨h3,h4⟩;exact h.gb i x h3;refine .inr ⟨h3,?_⟩;rcases h4 with h4|⟨j,c,h4,h5⟩;exact .inl (Nat.le_trans h.size h4);rcases Nat.lt_or_ge x.1 w.heap.size with h6|h6;exact .inr (back j c x.1 h4 h5 h6);exact .inl h6
theorem guardE_ok' {G:Gh} {a:Act} {E:Tr (SV α)} {o:Oper} {b:Bool} (hL:∀e,guardSlot ops o.guard=some e->∀c,E.at e=some c->∃v,a.tmps[e]? =some v/\Den D G c v) (h:Zd8 ops E o.guard=some b):Region.wanted o (yielded ops a.tmps)=b:=by
 unfold Zd8 at h;unfold Region.wanted;split at h;rename_i hg;rw[hg];simpa using h;rename_i p hg;rw[hg];split at h;rename_i e he;split at h;rename_i c hc;obtain⟨v,h1,h2⟩:=hL e (by rw[hg];exact he) _ hc;cases h2;simp only[yielded,he,h1,Option.bind_some];split at h <;> rename_i hp <;> simp only[Option.some.injEq] at h <;> subst h <;> rw[hp] <;> cases c <;> rfl;rename_i L hc;obtain⟨v,h1,h2⟩:=hL e (by rw[hg];exact he) _ hc;cases h2;simp only[Option.some.injEq] at h;subst h;simp[yielded,he,h1];cases h;cases h
theorem tmpsOf_mem {t:Nat}:∀{xs:List Operand},Operand.tmp t∈xs->t∈tmpsOf xs
  |[],h=>by simp at h
  | x ::r,h=>by
    rcases List.mem_cons.1 h with h|h
    · subst h;simp[tmpsOf]
    · have:=tmpsOf_mem h
      cases x <;> simp[tmpsOf,this]
theorem dstB_iff {i t:Nat} {o:Oper} (ho:ops[i]? =some o):dstB ops i t=true↔o.dst=some t:=by
 unfold dstB;rw[ho];dsimp only
 cases o.dst with
 |none=>simp
 |some d=>simp
theorem slot_cmp (hs:slotsOK ops=true) {i j t:Nat} {o:Oper} (ho:ops[i]? =some o) (ht:t∈looksE ops o\/o.dst=some t) (hj:dstB ops j t=true) (hi:i<ops.size) (hjm:j<ops.size):(j<i->Anc ops j i)/\(i<j->Anc ops i j):=by
 obtain⟨oj,hoj⟩:∃oj,ops[j]? =some oj:=⟨ops[j],by simp[hjm]⟩;have hdj:=(dstB_iff hoj).1 hj;obtain⟨l,hl,hjl⟩:=wtab_ok ops.toList 0 .nil t j (.inr ⟨oj,Nat.zero_le _,by simpa using hoj,hdj⟩);have h1:=List.all_eq_true.1 hs i (by simpa using hi);simp only[ho,Bool.and_eq_true] at h1;have h2:slotOK1 ops (wtab ops.toList 0 .nil) i t=true:=by rcases ht with ht|ht;exact List.all_eq_true.1 h1.1 t ht;have:=h1.2;rw[ht] at this;exact this
 unfold slotOK1 at h2;rw[hl] at h2;have h3:=List.all_eq_true.1 h2 j hjl;unfold ordB at h3;refine⟨λhlt=>?_,λhlt=>?_⟩;have:Nat.ble (Nat.succ j) i=true:=Nat.ble_eq_true_of_le hlt;rw[this] at h3;exact ancB_ok h3
 have e1:Nat.ble (Nat.succ j) i=false:=by
   cases hb:Nat.ble (Nat.succ j) i with
   |false=>rfl
   |true=>have:=Nat.le_of_ble_eq_true hb;omega
 have e2:Nat.ble (Nat.succ i) j=true:=Nat.ble_eq_true_of_le hlt;rw[e1,e2] at h3;exact ancB_ok h3
def verS (ops:Array Oper) (done:Nat->Bool) (t:Nat):Nat:=last (λi=>done i && dstB ops i t) ops.size
def verM (ops:Array Oper) (st:Nat->R3 α) (oc:Nat->Option (Out α)) (done:Nat->Bool) (x:Nat):Nat:=last (λi=>done i && XV st oc i x) ops.size
structure DInv (D:Dom α) (nt lim:Nat) (ops:Array Oper) (st:Nat->R3 α) (oc:Nat->Option (Out α)) (G0:Gh) (w0:World) (done:Nat->Bool) (a:Act) (w:World) (G:Gh):Prop where
  fr:Fra G0 w0 G w (Lw lim (st ops.size).n) (st 0).n (st ops.size).n
  defers:a.defers=[]
  size:a.tmps.size=nt
  live:∀t c,(st (verS ops done t)).E.at t=some c->∃v,a.tmps[t]? =some v/\Den D G c v
  rep:RepF D G All (λx=>(st (verM ops st oc done x)).V.at x) w
  fresh:∀i,i<ops.size->done i=false->∀x,(st i).n<=x->x<(st (i+1)).n->G.blk x=none
theorem draw_any (hc:Zdl P D cf) {st:Nat->R3 α} {oc:Nat->Option (Out α)} (h0:Ev0 P D cf lim nt ops st oc) {G0:Gh} {a0:Act} {w0:World} (hL0:Zaq D G0 nt a0 (st 0).E) (hR0:XS D G0 All (st 0).V w0) (hf0:Zdj G0 (st 0).n (st ops.size).n)
    {Q:Exit->Act->World->Prop} (hq:∀a' w' G',Fra G0 w0 G' w' (Lw lim (st ops.size).n) (st 0).n (st ops.size).n->Zaq D G' nt a' (st ops.size).E->XS D G' All (st ops.size).V w'->Q .normal a' w'):
    wpAny P .any ops Q ops.size (Array.replicate ops.size false) a0 w0:=by
 have hmono:∀d i,i+d<=ops.size->(st i).n<=(st (i+d)).n:=by
   intro d
   induction d with
   |zero=>intro i _;exact Nat.le_refl _
   | succ d ih=>
     intro i hi
     exact Nat.le_trans (ih i (by omega)) (h0.le (i+d) (by omega))
 have hmo:∀i j,i<=j->j<=ops.size->(st i).n<=(st j).n:=λi j h1 h2=>by have:=hmono (j - i) i (by omega);rwa [show i+(j - i)=j by omega] at this
 have lastF:∀(p:Nat->Bool) (m:Nat),(∀i,i<m->p i=false)->last p m=0:=by
   intro p m
   induction m with
   |zero=>intro _;rfl
   | succ m ih=>
     intro h
     unfold last
     rw[h m (by omega)]
     exact ih λi hi=>h i (by omega)
 refine any_gen h0.back (λdone a w=>∃G,DInv D nt lim ops st oc G0 w0 done a w G) ?_ ?_ ops.size _ a0 w0 (by simp) ?_ (by simp) ⟨G0,.refl _ _ _ _ _,hL0.defers,hL0.size,λt c ht=>?_,hR0.same λx _=>?_,λi hi _ x hx1 hx2=>hf0 x ?_ ?_⟩;intro done a w i o ⟨G,hI⟩ ho hdi hdeps hcl;have hi:i<ops.size:=by rcases Nat.lt_or_ge i ops.size with h|h;exact h;rw[Array.getElem?_eq_none h] at ho;cases ho
 obtain⟨o',ho',hoff,hon⟩:=h0.step i hi;rw[ho] at ho';cases ho'
 have cmp:∀j,j≠i->((j<i->Anc ops j i)/\(i<j->Anc ops i j))->done j=decide (j<i):=by
   intro j hji ⟨c1,c2⟩
   rcases Nat.lt_or_ge j i with h|h
   · rw[anc_done hcl (c1 h) hdeps]
     simp[h]
   · have hlt:i<j:=by omega
     cases hdj:done j with
     |false=>simp;omega
     | true=>
       have:=anc_done hcl (c2 hlt) (hcl j hdj)
       rw[hdi] at this;cases this
 have slotE:∀t,(t∈looksE ops o\/o.dst=some t)->∀j,j<ops.size->(done j && dstB ops j t)=(dstB ops j t && decide (j<i)):=by
   intro t ht j hj
   cases hb:dstB ops j t with
   |false=>simp
   | true=>
     by_cases e:j=i
     · subst e;simp[hdi]
     · rw[cmp j e (slot_cmp h0.slots ho ht hb hi hj)];simp
 have slotV:∀t,t∈looksE ops o->(st (verS ops done t)).E.at t=(st i).E.at t:=λt ht=>
   Zer (f:=λk=>(st k).E.at t) (t:=λk=>dstB ops k t) (λj hj hb=>h0.slotNe j hj t hb) (Nat.le_of_lt hi) (slotE t (.inl ht))
 have liveI:∀t,t∈looksE ops o->∀c,(st i).E.at t=some c->∃v,a.tmps[t]? =some v/\Den D G c v:=λt ht c hcc=>hI.live t c (by rw[slotV t ht];exact hcc);have hgd:∀b,Zd8 ops (st i).E o.guard=some b->Region.wanted o (yielded ops a.tmps)=b:=λb hb=>guardE_ok' (G:=G) (λe he c hcc=>liveI e (by unfold looksE;rw[he];simp) c hcc) hb
 have hsame:∀t,o.dst≠some t->verS ops (λk=>done k || k == i) t=verS ops done t:=by
   intro t ht
   refine last_congr λj hj=>?_
   by_cases e:j=i
   · subst e
     have:dstB ops j t=false:=by
       cases hb:dstB ops j t with
       |false=>rfl
       |true=>exact absurd ((dstB_iff ho).1 hb) ht
     dsimp only
     rw[this];simp
   · have:(j == i)=false:=by simpa using e
     dsimp only
     rw[this];simp
 have hown:∀t,o.dst=some t->verS ops (λk=>done k || k == i) t=i+1:=by
  intro t ht;refine last_eq hi ?_ λj h1 h2=>?_;have:=(dstB_iff ho).2 ht;dsimp only;rw[this];simp;have h3:=slotE t (.inr ht) j h2;have:(j == i)=false:=by simp;omega
  dsimp only;rw[this,Bool.or_false,h3];simp;omega
 have liveP:∀(G':Gh) (v:Value) (r:Option (SV α)),G.le G'->(∀t,o.dst=some t->(st (i+1)).E.at t=r/\t<nt)->(∀c,r=some c->Den D G' c v)->∀t c,(st (verS ops (λk=>done k || k == i) t)).E.at t=some c->∃u,(a.put o.dst v).tmps[t]? =some u/\Den D G' c u:=by
   intro G' v r hle hr hv t c ht
   by_cases e:o.dst=some t
   · rw[hown t e] at ht
     obtain⟨h1,h2⟩:=hr t e
     rw[h1] at ht
     rw[e]
     exact⟨v,by simp[Act.put,hI.size,h2],hv c ht⟩
   · rw[hsame t e] at ht
     obtain⟨u,h1,h2⟩:=hI.live t c ht
     refine⟨u,?_,h2.up hle⟩
     cases hd:o.dst with
     |none=>exact h1
     | some d=>
       simp only[Act.put]
       rw[Array.getElem?_setIfInBounds_ne]
       · exact h1
       · intro x;subst x;exact e hd
 have szP:∀v,(a.put o.dst v).tmps.size=nt:=by
   intro v
   cases o.dst with
   |none=>exact hI.size
   |some d=>simp[Act.put,hI.size]
 have dfP:∀v,(a.put o.dst v).defers=[]:=by intro v;cases o.dst <;> exact hI.defers
 cases hoc:oc i with
 | none=>
   obtain⟨g1,g2⟩:=hoff hoc
   rw[hgd _ g1]
   simp only[Bool.false_eq_true,if_false]
   have ht0:∀x,XV st oc i x=false:=λx=>by unfold XV;rw[hoc]
   refine⟨G,hI.fr,dfP _,szP _,liveP G undef (some (.tup [])) (.refl G) (λt ht=>?_) (λc hcc=>by cases hcc;exact .tup .nil),hI.rep.same λx _=>?_,λj hj hdj x hx1 hx2=>hI.fresh j hj ?_ x hx1 hx2⟩
   · rw[ht] at g2;exact putDst_at g2
   · have:verM ops st oc (λk=>done k || k == i) x=verM ops st oc done x:=by
       refine last_congr λj hj=>?_
       by_cases e:j=i
       · subst e;dsimp only;rw[ht0 x];simp
       · have:(j == i)=false:=by simpa using e
         dsimp only
         rw[this];simp
     show(st (verM ops st oc (λk=>done k || k == i) x)).V.at x=_
     rw[this]
   · simp only[Bool.or_eq_false_iff] at hdj
     exact hdj.1
 | some out=>
   obtain⟨g1,g2,g3,g4⟩:=hon out hoc
   rw[hgd _ g1]
   simp only[if_true]
   obtain⟨e1,e2⟩:=Qn g2
   obtain⟨k1,k2,k3⟩:=doE_small hc g3 (h0.dom i (by omega))
   let I:Nat->Prop:=λx=>x∈out.rd\/x∈out.wr\/(Zaz o.op=true/\∃y,(st i).V.at x=some y)
   have memE:∀x,I x->∀j,j<ops.size->(done j && XV st oc j x)=(XV st oc j x && decide (j<i)):=by
     intro x hx j hj
     cases hb:XV st oc j x with
     |false=>simp
     | true=>
       by_cases e:j=i
       · subst e;simp[hdi]
       · rw[cmp j e (g4 x hx j hj e hb)];simp
   have memV:∀x,I x->(st (verM ops st oc done x)).V.at x=(st i).V.at x:=λx hx=>
     Zer (f:=λk=>(st k).V.at x) (t:=λk=>XV st oc k x) (λj hj hb=>h0.same j hj x hb) (Nat.le_of_lt hi) (memE x hx)
   have hRI:XS D G I (st i).V w:=(hI.rep.sub (J:=I) λ_ _=>trivial).same λx hx=>(memV x hx).symm
   have hfr:Zdj G (st i).n out.n:=λx hx1 hx2=>hI.fresh i hi hdi x hx1 (by rw[e2];exact hx2)
   have hH:Has1 D G a (st i).E o.op.operands.toList:=by
     refine⟨hI.defers,λx hx c hcc=>?_⟩
     cases x with
     | tmp t=>
       have htl:t∈looksE ops o:=by
         have:=tmpsOf_mem (opsL_mem hx)
         unfold looksE
         split
         · exact List.mem_cons_of_mem _ this
         · exact this
       obtain⟨v,h1,h2⟩:=liveI t htl c hcc
       have hlt:t<a.tmps.size:=by
         rcases Nat.lt_or_ge t a.tmps.size with h|h
         · exact h
         · rw[Array.getElem?_eq_none h] at h1;cases h1
       refine⟨?_,?_⟩
       · show Zal (full a) t=_
         rw[look_full,if_pos hlt];rfl
       · simp only[Act.eval,Array.getD_eq_getD_getElem?,h1,Option.getD_some]
         exact h2
     |const v=>exact⟨rfl,Zgw D G hcc⟩
     |global g=>cases hcc
     | func f=>
       simp only[evS,Option.some.injEq] at hcc
       subst hcc
       exact⟨rfl,.fn .nil .nil⟩
   obtain⟨dst,q,ty,pos,af,gd⟩:=o
   refine k3 dst ty pos af gd G a w I hH (λx hx=>.inl hx) (λx hx=>.inr (.inl hx)) (λhcall x y hy=>.inr (.inr ⟨hcall,y,hy⟩)) hRI hfr _ λv w' G' f1 f2 f3=>?_
   have hlt:∀x,x∈out.wr->x<(st i).n:=λx hx=>by
     obtain⟨y,hy⟩:=k1.wr x hx
     exact Tr.lt (h0.dom i (by omega)) hy
   have hNi:(st (i+1)).n<=(st ops.size).n:=hmo _ _ (by omega) (Nat.le_refl _)
   have touchI:∀x,XV st oc i x=true↔(x∈out.wr\/((st i).n<=x/\x<out.n)):=by
     intro x
     unfold XV
     rw[hoc]
     simp only[Bool.or_eq_true,Bool.and_eq_true]
     constructor
     · rintro(h|⟨h1,h2⟩)
       · exact .inl (XW.1 h)
       · exact .inr ⟨Nat.le_of_ble_eq_true h1,by have:=Nat.le_of_ble_eq_true h2;omega⟩
     · rintro(h|⟨h1,h2⟩)
       · exact .inl (XW.2 h)
       · exact .inr ⟨Nat.ble_eq_true_of_le h1,Nat.ble_eq_true_of_le (by omega)⟩
   have late : ∀x,XV st oc i x=true->∀j,i<j->j<ops.size->(done j && XV st oc j x)=false:=by
     intro x hx j h1 h2
     cases hb:XV st oc j x with
     |false=>simp
     | true=>
       simp only[Bool.and_true]
       rcases(touchI x).1 hx with h|⟨h3,h4⟩
       · have:=memE x (.inr (.inl h)) j h2
         rw[hb] at this
         simp only[Bool.and_true,Bool.true_and] at this
         rw[this];simp;omega
       ·
         obtain⟨oj,hoj,hoffj,honj⟩:=h0.step j h2
         unfold XV at hb
         split at hb
         · rename_i outj hocj
           simp only[Bool.or_eq_true,Bool.and_eq_true] at hb
           rcases hb with hb|⟨hb1,hb2⟩
           · obtain⟨_,_,_,j4⟩:=honj outj hocj
             have:=(j4 x (.inr (.inl (XW.1 hb))) i hi (by omega) hx).1 h1
             cases hdj:done j with
             |false=>rfl
             | true=>
               have:=anc_done hcl this (hcl j hdj)
               rw[hdi] at this;cases this
           · have h5:=Nat.le_of_ble_eq_true hb1
             have h6:=hmo (i+1) j (by omega) (by omega)
             omega
         · cases hb
   have verI:∀x,XV st oc i x=true->verM ops st oc (λk=>done k || k == i) x=i+1:=by
     intro x hx
     refine last_eq hi (by dsimp only;rw[hx];simp) λj h1 h2=>?_
     have:(j == i)=false:=by simp;omega
     dsimp only
     rw[this,Bool.or_false]
     exact late x hx j h1 h2
   have verO:∀x,XV st oc i x=false->verM ops st oc (λk=>done k || k == i) x=verM ops st oc done x:=by
     intro x hx
     refine last_congr λj hj=>?_
     by_cases e:j=i
     · subst e;dsimp only;rw[hx];simp
     · have:(j == i)=false:=by simpa using e
       dsimp only
       rw[this];simp
   refine⟨G',hI.fr.comp f1 (λx hx=>⟨k2 x hx,?_⟩) (hmo 0 i (by omega) (by omega)) (by omega),dfP _,szP _,liveP G' v out.r f1.le (λt ht=>?_) f2,?_,λj hj hdj x hx1 hx2=>?_⟩
   · have:=hlt x hx
     have:=hmo i ops.size (by omega) (Nat.le_refl _)
     omega
   · have ht':dst=some t:=ht
     rw[ht'] at g2;exact putDst_at g2
   · have:=hI.rep.step (V':=λx=>(st (verM ops st oc (λk=>done k || k == i) x)).V.at x) f1 (λ_ _=>trivial) (λx hx=>?_) (λx hx1 hx2=>?_) (f3.same λx hx=>?_) hfr
     · exact this.sub λ_ _=>.inl trivial
     · obtain⟨y,hy⟩:=k1.wr x hx
       exact⟨y,by rw[memV x (.inr (.inl hx))];exact hy⟩
     · have:XV st oc i x=false:=by
         cases hb:XV st oc i x with
         |false=>rfl
         | true=>
           rcases(touchI x).1 hb with h|h
           · exact absurd h hx1
           · exact absurd h hx2
       show(st (verM ops st oc (λk=>done k || k == i) x)).V.at x=_
       rw[verO x this]
     · show(st (verM ops st oc (λk=>done k || k == i) x)).V.at x=_
       rw[verI x ((touchI x).2 hx),e1]
   · simp only[Bool.or_eq_false_iff] at hdj
     have hji:j≠i:=by simpa using hdj.2
     have hold:=hI.fresh j hj hdj.1 x hx1 hx2
     cases hb:G'.blk x with
     |none=>rfl
     | some z=>
       rcases f1.gb x z hb with h|⟨⟨h1,h2⟩,_⟩
       · rw[hold] at h;cases h
       · rcases Nat.lt_or_ge j i with h3|h3
         · have:=hmo (j+1) i (by omega) (by omega)
           omega
         · have:=hmo (i+1) j (by omega) (by omega)
           omega
 intro done a w ⟨G,hI⟩ hall
 have allS:∀t,(st (verS ops done t)).E.at t=(st ops.size).E.at t:=λt=>
   Zer (f:=λk=>(st k).E.at t) (t:=λk=>dstB ops k t) (λj hj hb=>h0.slotNe j hj t hb) (Nat.le_refl _) λj hj=>by rw[hall j hj];simp[hj]
 have allM:∀x,(st (verM ops st oc done x)).V.at x=(st ops.size).V.at x:=λx=>
   Zer (f:=λk=>(st k).V.at x) (t:=λk=>XV st oc k x) (λj hj hb=>h0.same j hj x hb) (Nat.le_refl _) λj hj=>by rw[hall j hj];simp[hj]
 exact hq a w G hI.fr ⟨hI.defers,hI.size,λt c ht=>hI.live t c (by rw[allS];exact ht)⟩ (hI.rep.same λx _=>(allM x).symm);intro i h;rw[Zet] at h;cases h;have:verS ops (λk=>(Array.replicate ops.size false).getD k false) t=0:=lastF _ _ λi _=>by dsimp only;rw[Zet];simp
 rw[this] at ht;exact hL0.at_ t c ht;have:verM ops st oc (λk=>(Array.replicate ops.size false).getD k false) x=0:=lastF _ _ λi _=>by dsimp only;rw[Zet];simp
 show(st (verM ops st oc _ x)).V.at x=_;rw[this];have:=hmo 0 i (by omega) (by omega);omega;have:=hmo (i+1) ops.size (by omega) (Nat.le_refl _);omega
theorem drawE_ok (hc:Zdl P D cf) (hmo:P.follows .mixedOrders=true) {E:Tr (SV α)} {V:Hp α} {n:Nat} {s:R3 α} (h:drawE P D cf lim nt ops E V n=some s) (hl:lim<=n) (hd:∀i,n<=i->V.at i=none):
    Stat lim V n s.V s.n/\∀(id:Nat) G a w,Zaq D G nt a E->XS D G All V w->Zdj G n s.n->∀Q:Exit->Act->World->Prop,(∀a' w' G',Zef D lim nt n s G w a' w' G'->Q .normal a' w')->(Code.region id ops true).wp P Q a w:=by
 unfold drawE at h;split at h;rename_i hbs;simp only[Bool.and_eq_true] at hbs;split at h;rename_i s' l hgo;split at h;rename_i hp;simp only[Option.some.injEq] at h;subst h;obtain⟨st,oc,e0,em,_,hst⟩:=drawGo_ok ops.toList 0 E V n [] s' l hgo (by simp) (Nat.zero_le _);have h0:Ev0 P D cf lim nt ops st oc:=ev0_of hc hbs.1 hbs.2 hp (by rw[e0];exact hd) λi hi=>hst i (Nat.zero_le _) hi
 have hle:∀d,d<=ops.size->n<=(st d).n/\∀x,x<lim->(st d).V.at x=V.at x:=by
   intro d
   induction d with
   |zero=>intro _;rw[e0];exact⟨Nat.le_refl _,λ_ _=>rfl⟩
   | succ d ih=>
     intro hd'
     obtain⟨i1,i2⟩:=ih (by omega)
     refine⟨Nat.le_trans i1 (h0.le d (by omega)),λx hx=>?_⟩
     rw[h0.same d (by omega) x,i2 x hx]
     unfold XV
     split
     · rename_i out hoc
       simp only[Bool.or_eq_false_iff,Bool.and_eq_false_iff]
       refine⟨?_,.inl ?_⟩
       · cases hb:memN out.wr x with
         |false=>rfl
         | true=>
           have:=(h0.wr d (by omega) out hoc x (XW.1 hb)).1
           omega
       · cases hb:Nat.ble (st d).n x with
         |false=>rfl
         |true=>have:=Nat.le_of_ble_eq_true hb;omega
     · rfl
 have hm:=hle ops.size (Nat.le_refl _);have hdm:=h0.dom ops.size (Nat.le_refl _);rw[em] at hm hdm;refine⟨⟨hm.1,hm.2,hdm⟩,λid G a w hL hR hf Q hq=>wp_region_any hmo ?_⟩;have hFw:∀{G':Gh} {w':World} {wr:Nat->Prop} {n n':Nat},Fra G {w with drawn:=w.drawn+1} G' w' wr n n'->Fra G w G' w' wr n n':=λh=>⟨h.le,h.os,h.tape,h.output,h.size,h.blk,h.gS,h.gb⟩;refine draw_any hc h0 (G0:=G) (a0:=a) (w0:={w with drawn:=w.drawn+1}) (by rw[e0];exact hL) (by rw[e0];exact⟨hR.holds,hR.obj,hR.inj⟩) (by rw[e0,em];exact hf) λa' w' G' f1 f2 f3=>hq a' w' G' ?_;rw[e0,em] at f1;rw[em] at f2 f3;exact⟨hFw f1,f2,f3⟩;cases h;cases h;cases h
end
end Go.Cham
namespace Go.Cham
open Go Go.RowKit
inductive Ex where
  |norm
  |exit (i:Nat)
  |ret
def Ex.to:Ex->Exit
  | .norm=>.normal
  | .exit i=>.exit i
  | .ret=>.ret
noncomputable section
variable {α : Type} {D : Dom α} {P : Program}
structure R4 (α:Type) where
  ex:Ex
  s:R3 α
abbrev RunF (α:Type):=Nat->Nat->Code->Tr (SV α)->Hp α->Nat->Option (R4 α)
def wrapR (o:Option (R3 α)):Option (R4 α):=match o with
  |some s=>some ⟨.norm,s⟩
  |none=>none
def runSeq (rec:RunF α) (lim nt:Nat) (b:Code) (r:R4 α):Option (R4 α):=match r.ex with
  | .norm=>rec lim nt b r.s.E r.s.V r.s.n
  |_=>some r
def runBlk (id:Nat) (r:R4 α):Option (R4 α):=match r.ex with
  | .exit j=>match Nat.beq j id with
    |true=>some ⟨.norm,r.s⟩
    |false=>some r
  |_=>some r
def runS (P:Program) (D:Dom α) (cf:Zar α) (rec:RunF α):RunF α:=λlim nt c E V n=>match c with
  | .skip=>some ⟨.norm,⟨E,V,n⟩⟩
  | .label _=>some ⟨.norm,⟨E,V,n⟩⟩
  | .region _ ops draw=>match draw with
    |false=>wrapR (seqE P D cf lim nt ops ops.toList E V n)
    |true=>wrapR (drawE P D cf lim nt ops E V n)
  | .seq a b=>match rec lim nt a E V n with
    |some r=>runSeq rec lim nt b r
    |none=>none
  | .cond c x y=>match evS E c with
    |some (.bool true)=>rec lim nt x E V n
    |some (.bool false)=>rec lim nt y E V n
    |_=>none
  | .block id b=>match rec lim nt b E V n with
    |some r=>runBlk id r
    |none=>none
  | .loop b=>match rec lim nt b E V n with
    |some r=>runSeq rec lim nt (.loop b) r
    |none=>none
  | .exit id=>some ⟨.exit id,⟨E,V,n⟩⟩
  | .ret=>some ⟨.ret,⟨E,V,n⟩⟩
  | .scope b=>rec lim nt b E V n
  |_=>none
def Lands (P:Program) (D:Dom α) (lim nt:Nat) (E:Tr (SV α)) (V:Hp α) (n:Nat) (r:R4 α) (W:(Exit->Act->World->Prop)->Act->World->Prop):Prop:=
  ∀G a w,Zaq D G nt a E->XS D G All V w->Zdj G n r.s.n->∀Q:Exit->Act->World->Prop,(∀a' w' G',Zef D lim nt n r.s G w a' w' G'->Q r.ex.to a' w')->W Q a w
def RunOK (P:Program) (D:Dom α) (rec:RunF α):Prop:=∀lim nt c E V n r,rec lim nt c E V n=some r->lim<=n->(∀i,n<=i->V.at i=none)->
  Stat lim V n r.s.V r.s.n/\Lands P D lim nt E V n r (λQ=>c.wp P Q)/\∀b,c= .loop b->∃N,Lands P D lim nt E V n r (λQ=>Code.rounds P b Q N)
theorem Zef.refl {lim nt n:Nat} {E:Tr (SV α)} {V:Hp α} {G:Gh} {a:Act} {w:World} (hL:Zaq D G nt a E) (hR:XS D G All V w):Zef D lim nt n ⟨E,V,n⟩ G w a w G:=⟨.refl _ _ _ _ _,hL,hR⟩
theorem Zef.trans {lim nt n:Nat} {s s':R3 α} {G G' G'':Gh} {w w' w'':World} {a' a'':Act} (h:Zef D lim nt n s G w a' w' G') (k:Zef D lim nt s.n s' G' w' a'' w'' G'') (l1:n<=s.n) (l2:s.n<=s'.n):Zef D lim nt n s' G w a'' w'' G'':=
  ⟨h.fr.trans k.fr (λi hi=>⟨hi.1,Nat.lt_of_lt_of_le hi.2 l2⟩) (λ_ hi=>hi) l1 l2,k.live,k.rep⟩
theorem Zef.fresh {lim nt n n':Nat} {s:R3 α} {G G':Gh} {w w':World} {a':Act} (h:Zef D lim nt n s G w a' w' G') (hf:Zdj G n n') (hn:n<=s.n):Zdj G' s.n n':=by
 intro i h1 h2
 cases hb:G'.blk i with
 |none=>rfl
 | some z=>
   rcases h.fr.gb i z hb with h5|⟨h5,_⟩
   · rw[hf i (Nat.le_trans hn h1) h2] at h5;cases h5
   · omega
theorem Zdj.sub {G:Gh} {n n' m:Nat} (h:Zdj G n n') (hm:m<=n'):Zdj G n m:=λi h1 h2=>h i h1 (Nat.lt_of_lt_of_le h2 hm)
theorem cond_ev {nt:Nat} {G:Gh} {a:Act} {E:Tr (SV α)} {c:Operand} {b:Bool} (hL:Zaq D G nt a E) (h:evS E c=some (.bool b)):a.eval c= .bool b:=by
 have:=hL.ops [c] c (by simp) _ h;generalize a.eval c=p at*;cases this;rfl
theorem seqRun {lim nt n:Nat} {V:Hp α} {rec:RunF α} (hrec:RunOK P D rec) {r:R4 α} {b:Code} {o:R4 α} (h:runSeq rec lim nt b r=some o) (h1:Stat lim V n r.s.V r.s.n) (hl:lim<=n):
    Stat lim V n o.s.V o.s.n/\r.s.n<=o.s.n/\∀G w,Zdj G n o.s.n->∀Q:Exit->Act->World->Prop,(∀a' w' G',Zef D lim nt n o.s G w a' w' G'->Q o.ex.to a' w')->
      (∀a' w' G',Zef D lim nt n r.s G w a' w' G'->Exit.then (b.wp P Q) Q r.ex.to a' w')/\∀bb,b= .loop bb->∃N,∀G w,Zdj G n o.s.n->∀Q:Exit->Act->World->Prop,(∀a' w' G',Zef D lim nt n o.s G w a' w' G'->Q o.ex.to a' w')->∀a' w' G',Zef D lim nt n r.s G w a' w' G'->Exit.then (Code.rounds P bb Q N) Q r.ex.to a' w':=by
 unfold runSeq at h
 cases hex:r.ex with
 | norm=>
   simp only[hex] at h
   obtain⟨k1,k2,k3⟩:=hrec lim nt b _ _ _ o h (Nat.le_trans hl h1.le) h1.dom
   refine⟨h1.trans k1,k1.le,λG w hf Q hq=>⟨λa' w' G' hg=>?_,λbb hb=>?_⟩⟩
   · exact k2 G' a' w' hg.live hg.rep (hg.fresh hf h1.le) Q λa2 w2 G2 hg2=>hq a2 w2 G2 (hg.trans hg2 h1.le k1.le)
   · obtain⟨N,hN⟩:=k3 bb hb
     exact⟨N,λG w hf Q hq a' w' G' hg=>hN G' a' w' hg.live hg.rep (hg.fresh hf h1.le) Q λa2 w2 G2 hg2=>hq a2 w2 G2 (hg.trans hg2 h1.le k1.le)⟩
 | exit j=>
   simp only[hex,Option.some.injEq] at h
   subst h
   refine⟨h1,Nat.le_refl _,λG w hf Q hq=>⟨λa' w' G' hg=>?_,λbb hb=>⟨0,λG w hf Q hq a' w' G' hg=>?_⟩⟩⟩
   · have:=hq a' w' G' hg
     rw[hex] at this;exact this
   · have:=hq a' w' G' hg
     rw[hex] at this;exact this
 | ret=>
   simp only[hex,Option.some.injEq] at h
   subst h
   refine⟨h1,Nat.le_refl _,λG w hf Q hq=>⟨λa' w' G' hg=>?_,λbb hb=>⟨0,λG w hf Q hq a' w' G' hg=>?_⟩⟩⟩
   · have:=hq a' w' G' hg
     rw[hex] at this;exact this
   · have:=hq a' w' G' hg
     rw[hex] at this;exact this
theorem runS_ok (hmo:P.follows .mixedOrders=true) {cf:Zar α} (hc:Zdl P D cf) {rec:RunF α} (hrec:RunOK P D rec):RunOK P D (runS P D cf rec):=by
 intro lim nt c E V n r h hl hd;unfold runS at h;have stay:Stat lim V n V n:=⟨Nat.le_refl _,λ_ _=>rfl,hd⟩
 cases c with
 | skip=>
   cases h
   exact⟨stay,λG a w hL hR hf Q hq=>wp_skip (hq a w G (.refl hL hR)),λb hb=>by cases hb⟩
 | label l=>
   cases h
   exact⟨stay,λG a w hL hR hf Q hq=>wp_label (hq a w G (.refl hL hR)),λb hb=>by cases hb⟩
 | exit id=>
   cases h
   exact⟨stay,λG a w hL hR hf Q hq=>wp_exit (hq a w G (.refl hL hR)),λb hb=>by cases hb⟩
 | ret=>
   cases h
   exact⟨stay,λG a w hL hR hf Q hq=>wp_ret (hq a w G (.refl hL hR)),λb hb=>by cases hb⟩
 | region id ops draw=>
   simp only at h
   cases draw with
   | false=>
     simp only[wrapR] at h
     split at h
     · rename_i s hs
       cases h
       obtain⟨h1,h2⟩:=seqE_ok hc ops.toList E V n s hs hl hd
       exact⟨h1,λG a w hL hR hf Q hq=>Za (h2 G a w hL hR hf Q hq),λb hb=>by cases hb⟩
     · cases h
   | true=>
     simp only[wrapR] at h
     split at h
     · rename_i s hs
       cases h
       obtain⟨h1,h2⟩:=drawE_ok hc hmo hs hl hd
       exact⟨h1,λG a w hL hR hf Q hq=>h2 id G a w hL hR hf Q hq,λb hb=>by cases hb⟩
     · cases h
 | seq x y=>
   simp only at h
   split at h
   · rename_i r1 hr1
     obtain⟨h1,h2,_⟩:=hrec lim nt x E V n r1 hr1 hl hd
     obtain⟨k1,k2,k3⟩:=seqRun (D:=D) (V:=V) (n:=n) hrec h h1 hl
     exact⟨k1,λG a w hL hR hf Q hq=>wp_seq (h2 G a w hL hR (hf.sub k2) _ (k3 G w hf Q hq).1),λb hb=>by cases hb⟩
   · cases h
 | cond c x y=>
   simp only at h
   split at h
   · rename_i hcc
     obtain⟨h1,h2,_⟩:=hrec lim nt x E V n r h hl hd
     exact⟨h1,λG a w hL hR hf Q hq=>wp_cond_true (cond_ev hL hcc) (h2 G a w hL hR hf Q hq),λb hb=>by cases hb⟩
   · rename_i hcc
     obtain⟨h1,h2,_⟩:=hrec lim nt y E V n r h hl hd
     exact⟨h1,λG a w hL hR hf Q hq=>wp_cond_false (cond_ev hL hcc) (h2 G a w hL hR hf Q hq),λb hb=>by cases hb⟩
   · cases h
 | block id b=>
   simp only at h
   split at h
   · rename_i r1 hr1
     obtain⟨h1,h2,_⟩:=hrec lim nt b E V n r1 hr1 hl hd
     unfold runBlk at h
     have same:∀(hs:r.s=r1.s),(∀(Q:Exit->Act->World->Prop) a' w',Q r.ex.to a' w'->Exit.inBlock id Q r1.ex.to a' w')->Stat lim V n r.s.V r.s.n/\Lands P D lim nt E V n r (λQ=>(Code.block id b).wp P Q)/\∀b',Code.block id b= .loop b'->∃N,Lands P D lim nt E V n r (λQ=>Code.rounds P b' Q N):=by
       intro hs hx
       refine⟨by rw[hs];exact h1,λG a w hL hR hf Q hq=>wp_block (h2 G a w hL hR (by rw[<-hs];exact hf) _ λa' w' G' hg=>hx Q a' w' (hq a' w' G' (by rw[hs];exact hg))),λb' hb=>by cases hb⟩
     cases hex:r1.ex with
     | exit j=>
       simp only[hex] at h
       split at h
       · rename_i hj
         rw[YM] at hj
         subst hj
         cases h
         exact same rfl λQ a' w' hq=>by simpa [hex,Ex.to,Exit.inBlock] using hq
       · rename_i hj
         have hj':j≠id:=λe=>by
           subst e
           have:Nat.beq j j=true:=by simp
           rw[this] at hj;cases hj
         cases h
         exact same rfl λQ a' w' hq=>by simpa [hex,Ex.to,Exit.inBlock,hj'] using hq
     | norm=>
       simp only[hex,Option.some.injEq] at h;subst h
       exact same rfl λQ a' w' hq=>by rw[hex] at hq ⊢;exact hq
     | ret=>
       simp only[hex,Option.some.injEq] at h;subst h
       exact same rfl λQ a' w' hq=>by rw[hex] at hq ⊢;exact hq
   · cases h
 | loop b=>
   simp only at h
   split at h
   · rename_i r1 hr1
     obtain⟨h1,h2,_⟩:=hrec lim nt b E V n r1 hr1 hl hd
     obtain⟨k1,k2,k3⟩:=seqRun (D:=D) (V:=V) (n:=n) hrec h h1 hl
     have hN:∃N,Lands P D lim nt E V n r (λQ=>Code.rounds P b Q N):=by
       obtain⟨N,hN⟩:∃N,∀G w,Zdj G n r.s.n->∀Q:Exit->Act->World->Prop,(∀a' w' G',Zef D lim nt n r.s G w a' w' G'->Q r.ex.to a' w')->∀a' w' G',Zef D lim nt n r1.s G w a' w' G'->Exit.then (Code.rounds P b Q N) Q r1.ex.to a' w':=by
         have:=(k3 ⟨λ_=>none,λ_=>none⟩ default (λ_ _ _=>rfl) (λ_ _ _=>True) (λ_ _ _ _=>trivial)).2 b rfl
         exact this
       exact⟨N+1,λG a w hL hR hf Q hq=>h2 G a w hL hR (hf.sub k2) _ (hN G w hf Q hq)⟩
     refine⟨k1,?_,λb' hb=>?_⟩
     · obtain⟨N,hN⟩:=hN
       exact λG a w hL hR hf Q hq=>wp_loop_rounds N (hN G a w hL hR hf Q hq)
     · cases hb
       exact hN
   · cases h
 | scope b=>
   simp only at h
   obtain⟨h1,h2,_⟩:=hrec lim nt b E V n r h hl hd
   refine⟨h1,λG a w hL hR hf Q hq=>wp_scope_straight (h2 G a w hL hR hf _ λa' w' G' hg=>?_),λb hb=>by cases hb⟩
   have:=hq a' w' G' hg
   cases hex:r.ex <;> rw[hex] at this <;> exact this
 |goto l=>cases h
 |rangeFunc f ps x y=>cases h
 |refuse s=>cases h
def argsE (l:List (SV α)):Nat->Tr (SV α)->Tr (SV α):=List.rec (λ_ E=>E) (λv _ ih i E=>ih (Nat.succ i) (E.put i (some v))) l
theorem argsE_at:∀(l:List (SV α)) (i:Nat) (E:Tr (SV α)) (t:Nat),(argsE l i E).at t=if i<=t/\t<i+l.length then l[t - i]? else E.at t
  |[],i,E,t=>by rw[if_neg (by simp only[List.length_nil];omega)];rfl
  | v ::r,i,E,t=>by
    show(argsE r (i+1) (E.put i (some v))).at t=_
    rw[argsE_at r (i+1) _ t]
    by_cases h:i+1<=t/\t<i+1+r.length
    · rw[if_pos h,if_pos (by simp only[List.length_cons];omega),show t - i=(t - (i+1))+1 by omega,List.getElem?_cons_succ]
    · rw[if_neg h,Tr.at_put_if]
      by_cases h2:t=i
      · subst h2
        rw[if_pos rfl,if_pos (by simp only[List.length_cons];omega)]
        simp
      · rw[if_neg h2,if_neg (by simp only[List.length_cons];omega)]
theorem Zaq.start {G:Gh} {args:List (SV α)} {vs:List Value} (h:Qm D G args vs) (k:Nat):Zaq D G (vs.length+k) {tmps:=vs.toArray++Array.replicate k undef,defers:=[]} (argsE args 0 .nil):=by
 refine⟨rfl,by simp,λt c ht=>?_⟩;rw[argsE_at] at ht;split at ht;rename_i hlt;rw[Nat.sub_zero] at ht;obtain⟨v,h1,h2⟩:=h.get ht;refine⟨v,?_,h2⟩;obtain⟨h3,_⟩:=List.getElem?_eq_some_iff.1 h1;rw[Array.getElem?_append_left (by simpa using h3)];simpa using h1;unfold Tr.at at ht;rw[Tr.get_nil] at ht;cases ht
def resE (P : Program) (D:Dom α) (V:Hp α) (E:Tr (SV α)):List ResultVar->Option (List (SV α))
  |[]=>some []
  | .tmp t::r=>match E.at t with
    | some v=>match resE P D V E r with
      |some vs=>some (v::vs)
      |none=>none
    |none=>none
  | .cell t T ::r=>match E.at t with
    | some (.ptr (some p))=>match V.at p.1 with
      | some (.cells _ sz rows _)=>match Zgv P T with
        | some true=>match YE P T with
          | some m=>match cellsAt D sz rows p.2 m with
            | some C=>match resE P D V E r with
              |some vs=>some (.agg C::vs)
              |none=>none
            |none=>none
          |none=>none
        | some false=>match cellsAt D sz rows p.2 1 with
          | some C=>match mkVal D false C with
            | some c=>match resE P D V E r with
              |some vs=>some (c::vs)
              |none=>none
            |none=>none
          |none=>none
        |none=>none
      |_=>none
    |_=>none
theorem resE_ok {G:Gh} {nt:Nat} {a:Act} {w:World} {V:Hp α} {E:Tr (SV α)} (hL:Zaq D G nt a E) (hR:XS D G All V w):∀{rs:List ResultVar} {cs:List (SV α)},resE P D V E rs=some cs->∃vs,Res P (full a) w rs vs/\Qm D G cs vs
  |[],cs,h=>by simp[resE] at h;subst h;exact⟨[],.nil,.nil⟩
  | .tmp t::r,cs,h=>by
    simp only[resE] at h
    split at h
    · rename_i v hv
      split at h
      · rename_i vs hvs
        cases h
        obtain⟨us,h1,h2⟩:=resE_ok hL hR hvs
        have h3:=(hL.has1 [.tmp t]).at_ (.tmp t) (by simp) v hv
        exact⟨_::us,.tmp h3.ex h1,.cons h3.den h2⟩
      · cases h
    · cases h
  | .cell t T ::r,cs,h=>by
    simp only[resE] at h
    split at h
    · rename_i p hv
      have h3:=(hL.has1 [.tmp t]).at_ (.tmp t) (by simp) _ hv
      obtain⟨b,c,hb,hev⟩:=h3.ptr
      split at h
      · rename_i T' sz rows gr hob
        obtain⟨b',c',cs',slack,e1,e2,e3,e4,e5,e6⟩:=hR.cells (i:=p.1) trivial hob
        rw[hb] at e1
        cases e1
        split at h
        · rename_i hA
          split at h
          · rename_i m hm
            split at h
            · rename_i C hC
              split at h
              · rename_i vs hvs
                cases h
                obtain⟨us,h1,h2⟩:=resE_ok hL hR hvs
                obtain⟨xs,x1,x2,x3⟩:=Zde hC e4
                exact⟨_::us,.agg hev hA hm e3 (Zf6 x1 x2) x2 h1,.cons (.agg x3) h2⟩
              · cases h
            · cases h
          · cases h
        · rename_i hA
          split at h
          · rename_i C hC
            split at h
            · rename_i cc hcc
              split at h
              · rename_i vs hvs
                cases h
                obtain⟨us,h1,h2⟩:=resE_ok hL hR hvs
                obtain⟨xs,x1,x2,x3⟩:=Zde hC e4
                obtain⟨v,rfl,hvd⟩:=mkVal_one hcc x3
                have x4:=Zf6 (slack:=slack) x1 x2
                have x5:=congrArg (λl=>l[0]?) x4
                exact⟨v::us,.one hev hA e3 (by simpa [List.getElem?_take,List.getElem?_drop] using x5) h1,.cons hvd h2⟩
              · cases h
            · cases h
          · cases h
        · cases h
      · cases h
    · cases h
def packE:List (SV α)->SV α
  |[v]=>v
  |vs=>.tup vs
theorem packE_den {G:Gh} {cs:List (SV α)} {vs:List Value} (h:Qm D G cs vs):Den D G (packE cs) (pack vs):=by
 cases h with
 |nil=>exact .tup .nil
 | cons h1 h2=>cases h2 with
   |nil=>exact h1
   |cons h3 h4=>exact .tup (.cons h1 (.cons h3 h4))
def PrimOK (P:Program) (D:Dom α) (prim:FuncId->List (SV α)->Option (SV α)):Prop:=
  ∀f args r,prim f args=some r->∀G w vs,Qm D G args vs->ZU G.S w->Zbu P f vs w λv w'=>∃S',Ext G.S w S' w'/\Den D ⟨S',G.blk⟩ r v
def callB (P:Program) (D:Dom α) (prim:FuncId->List (SV α)->Option (SV α)) (rec:RunF α):Zar α:=λlim f args V n=>match prim f args with
  |some r=>some ⟨r,V,n⟩
  | none => match P.funcs[f]? with
    | some fn =>match fn.body with
      | some c=>match ZT P f with
        | true=>match Nat.ble (lenL args) fn.ntmps with
          | true=>match rec lim fn.ntmps c (argsE args 0 .nil) V n with
            | some r=>match r.ex with
              | .exit _=>none
              | _=>match resE P D r.s.V r.s.E fn.results.toList with
                |some vs=>some ⟨packE vs,r.s.V,r.s.n⟩
                |none=>none
            |none=>none
          |false=>none
        |false=>none
      |none=>none
    |none=>none
theorem Qm.len {G:Gh} {cs:List (SV α)} {vs:List Value} (h:Qm D G cs vs):vs.length=cs.length:=by
 induction cs generalizing vs with
 |nil=>cases h;rfl
 |cons x r ih=>cases h with|cons h hs=>simp[ih hs]
theorem callB_ok {prim:FuncId->List (SV α)->Option (SV α)} (hp:PrimOK P D prim) {rec:RunF α} (hrec:RunOK P D rec):Zdl P D (callB P D prim rec):=by
 intro lim f args V n o h hl hd;unfold callB at h;split at h;rename_i r hr;cases h;refine⟨⟨Nat.le_refl _,λ_ _=>rfl,hd⟩,λG w vs hv hR hf=>(hp f args r hr G w vs hv hR.holds).mono λv w' ⟨S',hx,hden⟩=>?_⟩;have hsz:=hx.below.size;refine⟨⟨S',G.blk⟩,⟨⟨hx.le,λ_ _ h=>h⟩,hx.below.os,hx.below.tape,hx.below.output,hsz,λb hb _=>hx.below.block b hb,λb o hb=>?_,λi x hx=>.inl hx⟩,hden,⟨hx.holds,λi o hi hv=>?_,hR.inj⟩⟩;rcases hx.fresh b o hb with⟨o',h1⟩|h1;have h2:=hx.le b o' h1;have hb':S' b=some o:=hb;rw[hb'] at h2;cases h2;exact .inl h1;exact .inr h1;obtain⟨b,c,u,h1,h2,h3,h4⟩:=hR.obj i o hi hv;have hlt:=(Array.getElem?_eq_some_iff.1 h3).1;refine⟨b,c,u,h1,?_,?_,h4.up (show G.le ⟨S',G.blk⟩ from⟨hx.le,λ_ _ h=>h⟩)⟩
 cases hs:S' b with
 |none=>exact hs
 | some x=>
   rcases hx.fresh b x hs with⟨o',h5⟩|h5
   · rw[h2] at h5;cases h5
   · omega
 rw[hx.below.block b hlt];exact h3;split at h;rename_i fn hfn;split at h;rename_i c hb;split at h;rename_i hent;split at h;rename_i hnt;split at h;rename_i r hr;obtain⟨h1,h2,_⟩:=hrec lim fn.ntmps c _ V n r hr hl hd
 have fin:∀vs,resE P D r.s.V r.s.E fn.results.toList=some vs->(r.ex= .norm\/r.ex= .ret)->Stat lim V n r.s.V r.s.n/\∀G w us,Qm D G args us->XS D G All V w->Zdj G n r.s.n->
     Zbu P f us w λv w'=>∃G',Fra G w G' w' (Lw lim r.s.n) n r.s.n/\Den D G' (packE vs) v/\XS D G' All r.s.V w':=by
   intro vs hvs hex
   refine⟨h1,λG w us hus hR hf=>.inl ⟨hent,?_⟩⟩
   have hlen:=hus.len
   have hnt':=Nat.le_of_ble_eq_true hnt
   rw[Zc1] at hnt'
   have hn:us.length+(fn.ntmps - us.length)=fn.ntmps:=by omega
   refine calls_of_wp hfn hb ?_
   have hst:=Zaq.start hus (fn.ntmps - us.length)
   rw[hn] at hst
   refine h2 G _ w (by simpa using hst) hR hf _ λa' w' G' hg=>?_
   obtain⟨ws,k1,k2⟩:=resE_ok hg.live hg.rep hvs
   have hbody:∀e,(e=Exit.normal\/e=Exit.ret)->bodyPost P fn (λe w'=>∃v,e= .returned v/\∃G',Fra G w G' w' (Lw lim r.s.n) n r.s.n/\Den D G' (packE vs) v/\XS D G' All r.s.V w') e a' w':=by
     intro e he
     have hres:=Zn (P:=P) (fn:=fn) (R:=λe w'=>∃v,e= .returned v/\∃G',Fra G w G' w' (Lw lim r.s.n) n r.s.n/\Den D G' (packE vs) v/\XS D G' All r.s.V w') (ZL.full hg.live.defers) (rs:=fn.results.toList) (by simp) k1 ⟨_,rfl,G',hg.fr,packE_den k2,hg.rep⟩
     rcases he with rfl|rfl
     · exact hres
     · exact hres
   rcases hex with hex|hex <;> rw[hex]
   · exact hbody _ (.inl rfl)
   · exact hbody _ (.inr rfl)
 cases hex:r.ex with
 |exit j=>rw[hex] at h;cases h
 | norm=>
   simp only[hex] at h
   split at h
   · rename_i vs hvs
     cases h
     exact fin vs hvs (.inl hex)
   · cases h
 | ret=>
   simp only[hex] at h
   split at h
   · rename_i vs hvs
     cases h
     exact fin vs hvs (.inr hex)
   · cases h
 cases h;cases h;cases h;cases h;cases h
def runN (P:Program) (D:Dom α) (prim:FuncId->List (SV α)->Option (SV α)) (k:Nat):RunF α:=Nat.rec (λ_ _ _ _ _ _=>none) (λ_ ih=>runS P D (callB P D prim ih) ih) k
theorem runN_ok (hmo:P.follows .mixedOrders=true) {prim:FuncId->List (SV α)->Option (SV α)} (hp:PrimOK P D prim):∀k,RunOK P D (runN P D prim k)
  |0=>λlim nt c E V n r h=>by cases h
  |k+1=>runS_ok hmo (callB_ok hp (runN_ok hmo hp k)) (runN_ok hmo hp k)
theorem ev_call (hmo:P.follows .mixedOrders=true) {prim:FuncId->List (SV α)->Option (SV α)} (hp:PrimOK P D prim) {k f:Nat} {args:List (SV α)} {o:CR α} (h:callB P D prim (runN P D prim k) 0 f args .nil 0=some o) {S:Sh} {w:World} {vs:List Value} (hS:ZU S w)
    (hd:Qm D ⟨S,λ_=>none⟩ args vs):Zbu P f vs w λv w'=>∃S' blk',Ext S w S' w'/\Den D ⟨S',blk'⟩ o.r v:=by
 have hnil:∀i,(Tr.nil:Hp α).at i=none:=λi=>Tr.get_nil _;obtain⟨_,h2⟩:=callB_ok hp (runN_ok hmo hp k) 0 f args .nil 0 o h (Nat.le_refl _) (λi _=>hnil i);refine(h2 ⟨S,λ_=>none⟩ w vs hd ⟨hS,λi o _ hv=>(by rw[hnil] at hv;cases hv),λi j o o' b c c' _ _ hv=>(by rw[hnil] at hv;cases hv)⟩ (λ_ _ _=>rfl)).mono λv w' ⟨G',hf,hden,hrep⟩=>⟨G'.S,G'.blk,⟨hf.le.S,hrep.holds,λb o hb=>?_,⟨hf.os,hf.tape,hf.output,hf.size,λb hb=>hf.blk b hb (λ⟨i,c,_,hx⟩=>(by cases hx))⟩⟩,hden⟩;rcases hf.gS b o hb with h3|h3;exact .inl ⟨o,h3⟩;exact .inr h3
end
end Go.Cham
namespace Go.Cham
open Go Go.RowKit
theorem Na.ofLow {S:Sh} {n:Nat} (h:n<18446744073709551616):Na S [.int .u64 (n:Int),.slice none 0 0] n 64:=⟨by omega,_,_,rfl,.small n h⟩
theorem Na.ofLowK {S:Sh} {n k:Nat} (h:n<18446744073709551616) (hk:n<=2^k):Na S [.int .u64 (n:Int),.slice none 0 0] n k:=⟨hk,_,_,rfl,.small n h⟩
theorem Na.ofRow {S:Sh} {b len cap lo n k:Nat} {ds:List Nat} {rest:List Value} (hlo:lo<18446744073709551616) (r:Row S b tU64 (Yw ds++rest)) (hl:ds.length=len) (h2:2<=len) (hs:len<=281474976710656) (hc:len<=cap) (hd:∀d∈ds,d<18446744073709551616)
    (hz:ds.getLast? ≠some 0) (hn:val W64 ds=n) (hk:n<=2^k):Na S [.int .u64 (lo:Int),.slice (some ⟨b,0,none⟩) len cap] n k:=⟨hk,_,_,rfl,by rw[<-hn];exact .big lo b len cap ds rest hlo r hl h2 hs hc hd hz⟩
theorem Na.ofLowE {S:Sh} {n m k:Nat} (e:m=n) (h:n<18446744073709551616) (hk:n<=2^k):Na S [.int .u64 (m:Int),.slice none 0 0] n k:=by subst e;exact Na.ofLowK h hk
theorem Na.ofDg {S:Sh} {p:Option Addr} {len cap lo n k:Nat} {ds:List Nat} (hlo:lo<18446744073709551616) (h:Dg S p len cap ds) (h2:2<=len) (hz:ds.getLast? ≠some 0) (hn:val W64 ds=n) (hk:n<=2^k):Na S [.int .u64 (lo:Int),.slice p len cap] n k:=by
 obtain⟨b,rest,rfl,r⟩:=h.row (by omega);exact Na.ofRow hlo r h.hlen h2 h.hbig h.hcap h.hlt hz hn hk
theorem Zcf {k:IntKind} {x y:Int} (h:x=y):pack [.int k x]= .int k y:=by subst h;rfl
theorem Zeg {B:Nat} (hB:0<B):∀ds:List Nat,ds≠[]->ds.getLast? ≠some 0->B^(ds.length - 1)<=val B ds:=by
 intro ds
 induction ds with
 |nil=>intro h;exact absurd rfl h
 | cons d r ih=>
   intro _ h
   cases r with
   |nil=>simp at h;simp[val];omega
   | cons y s=>
     have h1:=ih (by simp) (by simpa using h)
     have h2:val B (d::y::s)=d+B*val B (y::s):=rfl
     have h3:B*B^((y::s).length - 1)<=B*val B (y::s):=Nat.mul_le_mul_left B h1
     have h4:B^((d::y::s).length - 1)=B*B^((y::s).length - 1):=by
       simp only[List.length_cons,Nat.add_sub_cancel]
       rw[Nat.pow_succ,Nat.mul_comm]
     omega
theorem val_ge {ds:List Nat} (h2:2<=ds.length) (hz:ds.getLast? ≠some 0):W64<=val W64 ds:=by
 have h:=Zeg (B:=W64) (by decide) ds (by intro e;rw[e] at h2;simp at h2) hz;have:W64^1<=W64^(ds.length - 1):=Nat.pow_le_pow_right (by decide) (by omega);simp only[Nat.pow_one] at this;omega
theorem Na.open {S:Sh} {cs:List Value} {n k:Nat} (h:Na S cs n k):n<=2^k/\((n<18446744073709551616/\cs=[.int .u64 (n:Int),.slice none 0 0])\/
    (W64<=n/\∃(lo b len cap:Nat) (rest:List Value),lo<18446744073709551616/\cs=[.int .u64 (lo:Int),.slice (some ⟨b,0,none⟩) len cap]/\Row S b tU64 (Yw (ZH W64 n)++rest)/\Dg S (some ⟨b,0,none⟩) len cap (ZH W64 n)/\2<=len)):=by
 obtain⟨hk,c0,c1,rfl,hc⟩:=h;refine⟨hk,?_⟩
 cases hc with
 |small _ h=>exact .inl ⟨h,rfl⟩
 | big lo b len cap ds rest h hr hlen h2 hs hc hd hl=>
   have e:ZH W64 (val W64 ds)=ds:=digs_val (by decide) ds hd hl
   refine .inr ⟨val_ge (by omega) hl,lo,b,len,cap,rest,h,rfl,by rw[e];exact hr,?_,h2⟩
   rw[e]
   exact⟨hlen,hc,hs,hd,λ_=>⟨b,rest,rfl,hr⟩⟩
theorem str_at {s:ByteArray} {i:Int} {j:Nat} (h:j<s.size/\i=(j:Int)):s.data.toList[i.toNat]? =some (s.data.toList.getD j 0):=by
 obtain⟨h,rfl⟩:=h;simp only[Int.toNat_natCast];rw[List.getElem?_eq_getElem (by simpa using h),List.getD_eq_getElem?_getD,List.getElem?_eq_getElem (by simpa using h)];rfl
theorem Za6 (B:Nat) (ds es:List Nat):val B (ds++es)=val B ds+B^ds.length*val B es:=by
 induction ds with
 |nil=>simp[val]
 |cons d r ih=>simp only[List.cons_append,val,ih,List.length_cons,Nat.pow_succ,Nat.mul_add,Nat.add_assoc];rw[<-Nat.mul_assoc,Nat.mul_comm B (B^r.length)]
theorem YW (B:Nat) (ds:List Nat) (n:Nat) (h:n<ds.length):val B (ds.take (n+1))=val B (ds.take n)+B^n*ds.getD n 0:=by
 rw[List.take_succ_eq_append_getElem h,Za6];have:(ds.take n).length=n:=by simp;omega
 rw[this,List.getD_eq_getElem?_getD,List.getElem?_eq_getElem h];simp[val]
theorem Zf2 {B:Nat} (hB:0<B):∀(ds:List Nat),(∀d∈ds,d<B)->val B ds<B^ds.length:=by
 intro ds
 induction ds with
 |nil=>intro _;simp[val]
 | cons d r ih=>
   intro h
   have h1:=ih (λx hx=>h x (by simp[hx]))
   have h2:=h d (by simp)
   simp only[val,List.length_cons,Nat.pow_succ]
   calc d+B*val B r<B+B*val B r:=by omega
     _=B*(val B r+1):=by rw[Nat.mul_add];omega
     _<=B*B^r.length:=Nat.mul_le_mul_left _ h1
     _=B^r.length*B:=Nat.mul_comm _ _
theorem digs_small {n:Nat} (h0:n≠0) (h:n<18446744073709551616):ZH W64 n=[n]:=by
 rw[Zaf (by decide) h0,Nat.mod_eq_of_lt h,Nat.div_eq_of_lt h,YR]
theorem Dg.cast {S:Sh} {p:Option Addr} {len cap:Nat} {ds es:List Nat} (h:Dg S p len cap ds) (e:ds=es):Dg S p len cap es:=e▸h
def Zs (n:Nat):Nat:=if n=0 then 0 else Nat.log2 n+1
theorem Zcr {B n:Nat} {ds:List Nat} (h0:0<n) (hn:n<=ds.length) (h:ds.getD (n - 1) 0=0):val B (ds.take (n - 1))=val B (ds.take n):=by
 have:=YW B ds (n - 1) (by omega);rw[show n - 1+1=n by omega,h,Nat.mul_zero,Nat.add_zero] at this;exact this.symm
theorem val_one {B:Nat} {ds:List Nat} (h:0<ds.length):val B (ds.take 1)=ds.getD 0 0:=by
 have:=YW B ds 0 h;simpa [val] using this
theorem Na.cut {S:Sh} {b n m k:Nat} {ds:List Nat} {rest:List Value} (r:Row S b tU64 (Yw ds++rest)) (hn:n<=ds.length) (h2:2<=n) (hs:n<=281474976710656) (hd:∀d∈ds,d<18446744073709551616) (hz:¬ds.getD (n - 1) 0=0) (hv:val W64 (ds.take n)=m) (hk:m<=2^k):
    Na S [.int .u64 (0:Int),.slice (some ⟨b,0,none⟩) n n] m k:=by
 refine Na.ofRow (lo:=0) (ds:=ds.take n) (rest:=Yw (ds.drop n)++rest) (by omega) ?_ (by simp;omega) h2 hs (Nat.le_refl _) (λd h=>hd d (List.mem_of_mem_take h)) ?_ hv hk;rw[<-List.append_assoc];have:Yw (ds.take n)++Yw (ds.drop n)=Yw ds:=by simp only[Yw,<-List.map_append,List.take_append_drop]
 rw[this];exact r;rw[List.getLast?_eq_getElem?];have hl:(ds.take n).length=n:=by simp;omega
 rw[hl,List.getElem?_take,if_pos (by omega),List.getElem?_eq_getElem (by omega)];rw[List.getD_eq_getElem?_getD,List.getElem?_eq_getElem (by omega)] at hz;simpa using hz
def Zb4 (a b:Nat):Int:=if a<b then -1 else if b<a then 1 else 0
theorem Zee {B n:Nat} (hB:2<=B) (hn:n≠0):(ZH B n).getD ((ZH B n).length - 1) 0≠0:=by
 intro e;have h1:=digs_last hB n;have h2:ZH B n≠[]:=by intro e';have:=ZV hB n;rw[e'] at this;exact hn this.symm
 have hl:0<(ZH B n).length:=List.length_pos_iff.2 h2;apply h1;rw[List.getLast?_eq_getElem?];rw[List.getD_eq_getElem?_getD] at e;rw[List.getElem?_eq_getElem (by omega)] at e ⊢;simpa using e
theorem digs_pow_le {B n:Nat} (hB:2<=B) (hn:n≠0):B^((ZH B n).length - 1)<=n:=by
 have h2:ZH B n≠[]:=by intro e';have:=ZV hB n;rw[e'] at this;exact hn this.symm
 have:=Zeg (B:=B) (by omega) (ZH B n) h2 (digs_last hB n);rwa [ZV hB n] at this
theorem lt_digs_pow {B:Nat} (hB:2<=B) (n:Nat):n<B^(ZH B n).length:=by
 have:=Zf2 (B:=B) (by omega) (ZH B n) (Zdc hB n);rwa [ZV hB n] at this
theorem Zbp {B a b:Nat} (hB:2<=B) (h:(ZH B a).length<(ZH B b).length):a<b:=by
 have hb:b≠0:=by intro e;rw[e,YR] at h;simp at h
 have h1:=lt_digs_pow hB a;have h2:=digs_pow_le hB hb;have h3:B^(ZH B a).length<=B^((ZH B b).length - 1):=Nat.pow_le_pow_right (by omega) (by omega);omega
theorem XF (B:Nat) (ds:List Nat) (n:Nat) (h:n<=ds.length):val B ds=val B (ds.take n)+B^n*val B (ds.drop n):=by
 have:=Za6 B (ds.take n) (ds.drop n);rw[List.take_append_drop,show(ds.take n).length=n by simp;omega] at this;exact this
theorem Zdw {B:Nat} (hB:2<=B) {ds:List Nat} (h:∀d∈ds,d<B) (n:Nat) (hn:n<=ds.length):val B (ds.take n)<B^n:=by
 have:=Zf2 (B:=B) (by omega) (ds.take n) (λd hd=>h d (List.mem_of_mem_take hd));rwa [show(ds.take n).length=n by simp;omega] at this
theorem Yv {ds:List Nat} {n:Nat} (h:n<ds.length):ds.drop n=ds.getD n 0::ds.drop (n+1):=by
 rw[List.drop_eq_getElem_cons h,List.getD_eq_getElem?_getD,List.getElem?_eq_getElem h];rfl
theorem top_lt {B:Nat} (hB:2<=B) {x y:List Nat} {n:Nat} (hx:∀d∈x,d<B) (hl:x.length=y.length) (hn:n<x.length) (e:x.drop (n+1)=y.drop (n+1)) (h:x.getD n 0<y.getD n 0):val B x<val B y:=by
 have h1:=XF B x n (by omega);have h2:=XF B y n (by omega);rw[Yv hn] at h1;rw[Yv (by omega)] at h2;have h3:=Zdw hB hx n (by omega);simp only[val] at h1 h2;rw[e] at h1;have h4:B^n*(x.getD n 0+B*val B (y.drop (n+1)))+B^n<=B^n*(y.getD n 0+B*val B (y.drop (n+1))):=by rw[<-Nat.mul_succ];exact Nat.mul_le_mul_left _ (by omega)
 omega
theorem drop_step {x y:List Nat} {n:Nat} (hl:x.length=y.length) (hn:n<x.length) (e:x.drop (n+1)=y.drop (n+1)) (h:x.getD n 0=y.getD n 0):x.drop n=y.drop n:=by
 rw[Yv hn,Yv (ds:=y) (by omega),h,e]
theorem bitLen_eq {x:Nat} (h:x<18446744073709551616):Lib.bitLen x=Zs x:=by
 unfold Zs;split;rename_i e;subst e;rfl;rename_i hx;obtain⟨h1,h2,h3⟩:=Lib.bitLenAux_bounds 64 x (by simpa using h) hx;have:Nat.log2 x=Lib.bitLenAux 64 x - 1:=by rw[Nat.log2_eq_iff hx];refine⟨h2,?_⟩;rw[show Lib.bitLenAux 64 x - 1+1=Lib.bitLenAux 64 x by omega];exact h3
 unfold Lib.bitLen;omega
theorem bitlen_le {n k:Nat} (h:n<=2^k):Zs n<=k+1:=by
 unfold Zs;split;omega;rename_i hn;have:=(Nat.log2_lt hn).2 (show n<2^(k+1) by rw[Nat.pow_succ];have:=Nat.one_le_two_pow (n:=k);omega);omega
theorem Zcm {n:Nat} (h:n≠0):0<Zs n:=by unfold Zs;rw[if_neg h];omega
theorem bitlen_zero:Zs 0=0:=rfl
theorem Zbs {n:Nat} (hn:n≠0):2^(Zs n - 1)<=n/\n<2^Zs n:=by
 unfold Zs;rw[if_neg hn];exact⟨Nat.log2_self_le hn,Nat.lt_log2_self⟩
theorem Zdf {n k:Nat} (h1:2^k<=n) (h2:n<2^(k+1)):Zs n=k+1:=by
 have hn:n≠0:=by have:=Nat.one_le_two_pow (n:=k);omega
 unfold Zs;rw[if_neg hn,(Nat.log2_eq_iff hn).2 ⟨h1,h2⟩]
theorem bitlen_digs {n :Nat} (hn:W64<=n):Zs n=64*((ZH W64 n).length - 1)+Zs ((ZH W64 n).getD ((ZH W64 n).length - 1) 0):=by
 have h0 : n ≠ 0 := by have:0<W64:=by decide
                       omega
 have hd:=Zee (B:=W64) (by decide) h0;have hne:ZH W64 n≠[]:=by intro e';have:=ZV (B:=W64) (by decide) n;rw[e'] at this;exact h0 this.symm
 have hl:0<(ZH W64 n).length:=List.length_pos_iff.2 hne;have hv:=XF W64 (ZH W64 n) ((ZH W64 n).length - 1) (by omega);rw[ZV (by decide),Yv (by omega),show(ZH W64 n).length - 1+1=(ZH W64 n).length by omega,List.drop_length] at hv;simp only[val,Nat.mul_zero,Nat.add_zero] at hv;have ht:=Zdw (B:=W64) (by decide) (Zdc (by decide) n) ((ZH W64 n).length - 1) (by omega);generalize (ZH W64 n).getD ((ZH W64 n).length - 1) 0=t at*;generalize (ZH W64 n).length - 1=m at*;obtain⟨h1,h2⟩:=Zbs hd;have hp:=Zcm hd;have e64:W64^m=2^(64*m):=by rw[Nat.pow_mul]
 rw[e64] at hv ht
 have:=Zdf (n:=n) (k:=64*m+(Zs t - 1)) (by
   rw[Nat.pow_add,hv]
   exact Nat.le_trans (Nat.mul_le_mul_left _ h1) (by omega)) (by
   rw[show 64*m+(Zs t - 1)+1=64*m+Zs t by omega,Nat.pow_add,hv]
   have:2^(64*m)*t+2^(64*m)<=2^(64*m)*2^Zs t:=by
     rw[<-Nat.mul_succ];exact Nat.mul_le_mul_left _ h2
   omega)
 rw[this];omega
theorem cmpN_lt {a b:Nat} (h:a<b):Zb4 a b= -1:=by unfold Zb4;rw[if_pos h]
theorem cmpN_gt {a b:Nat} (h:b<a):Zb4 a b=1:=by unfold Zb4;rw[if_neg (by omega),if_pos h]
theorem cmpN_eq {a b:Nat} (h:a=b):Zb4 a b=0:=by unfold Zb4;rw[if_neg (by omega),if_neg (by omega)]
theorem Zdb {B a b n:Nat} (hB:2<=B) (hl:(ZH B a).length=(ZH B b).length) (hn:n<(ZH B a).length) (e:(ZH B a).drop (n+1)=(ZH B b).drop (n+1)) (h:(ZH B a).getD n 0<(ZH B b).getD n 0):a<b:=by
 have:=top_lt hB (Zdc hB a) hl hn e h;rwa [ZV hB,ZV hB] at this
theorem digs_inj {B a b:Nat} (hB:2<=B) (h:ZH B a=ZH B b):a=b:=by
 have:=congrArg (val B) h;rwa [ZV hB,ZV hB] at this
structure Zfi (x y us:List Nat) (i c:Nat):Prop where
  len:us.length=x.length+1
  le:i<=x.length+1
  c1:c<=1
  sum:val W64 (us.take i)+W64^i*c=val W64 (x.take i)+val W64 (y.take i)
  rest:us.drop i=(x++[0]).drop i
  lt:∀d∈us,d<18446744073709551616
theorem YX (ds:List Nat) (i:Nat):val W64 (ds.take (i+1))=val W64 (ds.take i)+W64^i*ds.getD i 0:=by
 rcases Nat.lt_or_ge i ds.length with h|h;exact YW W64 ds i h;rw[List.take_of_length_le (by omega),List.take_of_length_le h,List.getD_eq_getElem?_getD,List.getElem?_eq_none h];simp
theorem Zfi.start {x y:List Nat} (hx:∀d∈x,d<18446744073709551616):Zfi x y (x++[0]) 0 0:=
  ⟨by simp,by omega,by omega,by simp[val],by simp,λd hd=>by rcases List.mem_append.1 hd with h|h;exact hx d h;simp at h;omega⟩
theorem Zej {us:List Nat} {i d:Nat}:(us.set i d).take i=us.take i:=by rw[List.take_set_of_le (by omega)]
theorem YN {us:List Nat} {i d:Nat} (h:i<us.length):(us.set i d).getD i 0=d:=by
 rw[List.getD_eq_getElem?_getD,List.getElem?_set_self h];rfl
theorem Zfi.step {x y us:List Nat} {i c:Nat} (h:Zfi x y us i c) (hy:∀d∈y,d<18446744073709551616) (hi:i<x.length+1):
    Zfi x y (us.set i ((us.getD i 0+y.getD i 0+c)%18446744073709551616)) (i+1) ((us.getD i 0+y.getD i 0+c) / 18446744073709551616):=by
 have hu:us.getD i 0=(x++[0]).getD i 0:=by have e:=h.rest;rw[Yv (by rw[h.len];exact hi),Yv (ds:=x++[0]) (by simp;exact hi)] at e;exact(List.cons.inj e).1
 have hx0:(x++[0]).getD i 0=x.getD i 0:=by
  rcases Nat.lt_or_ge i x.length with hlt|hge;rw[List.getD_eq_getElem?_getD,List.getD_eq_getElem?_getD,List.getElem?_append_left hlt];have:i=x.length:=by omega
  subst this;simp[List.getD_eq_getElem?_getD]
 refine⟨by simp[h.len],by omega,?_,?_,?_,?_⟩;have h1:=ZS h.lt (by decide) i;have h2:=ZS hy (by decide) i;have h3:=h.c1;omega;rw[YX (us.set _ _),YX x,YX y,Zej,YN (by rw[h.len];exact hi)];rw[hu,hx0,Nat.pow_succ];have hs:=h.sum;generalize val W64 (us.take i)=A at*;generalize val W64 (x.take i)=X at*;generalize val W64 (y.take i)=Y at*;generalize x.getD i 0=p at*;generalize y.getD i 0=q at*;have hd:=Nat.mod_add_div (p+q+c) W64;have:W64^i*((p+q+c)%18446744073709551616)+W64^i*W64*((p+q+c) / 18446744073709551616)=W64^i*p+W64^i*q+W64^i*c:=by rw[Nat.mul_assoc,<-Nat.mul_add,<-Nat.mul_add,<-Nat.mul_add];exact congrArg (W64^i* ·) hd
 omega;rw[List.drop_set_of_lt (by omega)];have e:=h.rest;rw[Yv (by rw[h.len];exact hi),Yv (ds:=x++[0]) (by simp;exact hi)] at e;exact(List.cons.inj e).2;intro d hd;rcases List.mem_or_eq_of_mem_set hd with hd|rfl;exact h.lt d hd;exact Nat.mod_lt _ (by omega)
theorem carry0 {A P c X Y Z Z2:Nat} (h:A+P*c=X+Y) (hx:X<Z) (hy:Y<Z2) (hz:Z2<=Z) (hp:Z*2<=P) (hc:c<=1):A=X+Y:=by
 match c,hc with
 |0,_=>omega
 |1,_=>omega
theorem pow_two_le (n:Nat):W64^n*2<=W64^(n+1):=by rw[Nat.pow_succ];exact Nat.mul_le_mul_left _ (by decide)
theorem Zfi.done {x y us:List Nat} {i c:Nat} (h:Zfi x y us i c) (hx:∀d∈x,d<18446744073709551616) (hy:∀d∈y,d<18446744073709551616) (hl:y.length<=x.length) (he:i=x.length+1\/(y.length<=i/\c=0)):
    val W64 us=val W64 x+val W64 y:=by
 rcases he with rfl|⟨h1,rfl⟩;have hs:=h.sum;rw[List.take_of_length_le (by rw[h.len];exact Nat.le_refl _),List.take_of_length_le (Nat.le_succ _),List.take_of_length_le (Nat.le_succ_of_le hl)] at hs;exact carry0 hs (Zf2 (by decide) x hx) (Zf2 (by decide) y hy) (Nat.pow_le_pow_right (by decide) hl) (pow_two_le _) h.c1;have hs:=h.sum;rw[Nat.mul_zero,Nat.add_zero,List.take_of_length_le (l:=y) h1] at hs;have hu:=XF W64 us i (by rw[h.len];exact h.le);rw[h.rest] at hu;have hx2:val W64 (x++[0])=val W64 x:=by rw[Za6];simp[val]
 have hv:=XF W64 (x++[0]) i (by simp;exact h.le);have hp:val W64 ((x++[0]).take i)=val W64 (x.take i):=by rcases Nat.lt_or_ge x.length i with hh|hh;rw[List.take_of_length_le (by simp;omega),List.take_of_length_le (by omega),hx2];rw[List.take_append_of_le_length hh]
 omega
structure Zfg (x y us:List Nat) (i c:Nat):Prop where
  len:us.length=x.length
  le:i<=x.length
  c1:c<=1
  sum:val W64 (us.take i)+val W64 (y.take i)=val W64 (x.take i)+W64^i*c
  rest:us.drop i=x.drop i
  lt:∀d∈us,d<18446744073709551616
theorem Zfg.start {x y:List Nat} (hx:∀d∈x,d<18446744073709551616):Zfg x y x 0 0:=⟨rfl,by omega,by omega,by simp[val],by simp,hx⟩
theorem Zfg.step {x y us:List Nat} {i c:Nat} (h:Zfg x y us i c) (hx:∀d∈x,d<18446744073709551616) (hy:∀d∈y,d<18446744073709551616) (hi:i<x.length):
    Zfg x y (us.set i ((us.getD i 0+18446744073709551616 - y.getD i 0 - c)%18446744073709551616)) (i+1) (if us.getD i 0<y.getD i 0+c then 1 else 0):=by
 have hu:us.getD i 0=x.getD i 0:=by have e:=h.rest;rw[Yv (by rw[h.len];exact hi),Yv hi] at e;exact(List.cons.inj e).1
 have h1:=ZS hx (by decide) i;have h2:=ZS hy (by decide) i;have h3:=h.c1;refine⟨by simp[h.len],by omega,by split <;> omega,?_,?_,?_⟩;rw[YX (us.set _ _),YX x,YX y,Zej,YN (by rw[h.len];exact hi)];rw[hu,Nat.pow_succ];have hs:=h.sum;generalize val W64 (us.take i)=A at*;generalize val W64 (x.take i)=X at*;generalize val W64 (y.take i)=Y at*;generalize x.getD i 0=p at*;generalize y.getD i 0=q at*;have hd:(p+18446744073709551616 - q - c)%18446744073709551616+q+c=p+W64*(if p<q+c then 1 else 0):=by simp only[W64];split <;> omega
 have:W64^i*((p+18446744073709551616 - q - c)%18446744073709551616)+W64^i*q+W64^i*c=W64^i*p+W64^i*W64*(if p<q+c then 1 else 0):=by rw[Nat.mul_assoc,<-Nat.mul_add,<-Nat.mul_add,<-Nat.mul_add];exact congrArg (W64^i* ·) hd
 omega;rw[List.drop_set_of_lt (by omega)];have e:=h.rest;rw[Yv (by rw[h.len];exact hi),Yv hi] at e;exact(List.cons.inj e).2;intro d hd;rcases List.mem_or_eq_of_mem_set hd with hd|rfl;exact h.lt d hd;exact Nat.mod_lt _ (by omega)
theorem borrow0 {A P c X Y:Nat} (h:A+Y=X+P*c) (ha:A<P) (hv:Y<=X) (hc:c<=1):A=X - Y:=by
 match c,hc with
 |0,_=>omega
 |1,_=>omega
theorem Zfg.done {x y us:List Nat} {i c:Nat} (h:Zfg x y us i c) (hy:∀d∈y,d<18446744073709551616) (hv:val W64 y<=val W64 x) (hl:y.length<=x.length) (he:i=x.length\/(y.length<=i/\c=0)):
    val W64 us=val W64 x - val W64 y:=by
 have hs:=h.sum;rcases he with rfl|⟨h1,rfl⟩;rw[List.take_of_length_le (by rw[h.len];omega),List.take_of_length_le (by omega),List.take_of_length_le (by omega)] at hs;have a:=Zf2 (B:=W64) (by decide) us h.lt;rw[h.len] at a;exact borrow0 hs a hv h.c1;rw[Nat.mul_zero,Nat.add_zero,List.take_of_length_le (l:=y) h1] at hs;have hu:=XF W64 us i (by rw[h.len];exact h.le);rw[h.rest] at hu;have hw:=XF W64 x i h.le;omega
section
variable {P : Program} {a : Act} {w : World} {n : Nat} {l : List (Nat × Value)} {K : Value → World → Prop}
variable {d : Option Tmp} {ty : TypeId} {pos : String} {af : Array Edge} {g : Option (Nat × Bool)}
theorem does_copyDg {x y:Operand} {t t2 e:TypeId} {b m cap len cap2:Nat} {p:Option Addr} {us ds:List Nat} {rest:List Value} {S0 S:Sh} {w0:World} {H:Own} (hL:ZL a n l) (hx:ev l x=some (.slice (some ⟨b,0,none⟩) m cap)) (hy:ev l y=some (.slice p len cap2))
    (ht:P.underlying t=some (.slice e)) (hZ:YE P e=some 1) (hR:Run S0 w0 S ((b,tU64,Yw us++rest)::H) w) (hD:Dg S p len cap2 ds) (hu:us.length=m) (hlm:len<=m)
    (k:∀w',Run S0 w0 S ((b,tU64,Yw (ds++us.drop len)++rest)::H) w'->K (.int .i64 len) w'):YY P ⟨d,.call ⟨.builtin .copy,#[x,y],#[t,t2]⟩,ty,pos,af,g⟩ a w K:=by
 have hcells:(Builtin.firstCells 1 len (.slice p len cap2)).run P w= .ok (Yw ds).toArray w:=by
   rcases Nat.eq_zero_or_pos len with h0|h0
   · subst h0
     have:ds=[]:=List.eq_nil_of_length_eq_zero hD.hlen
     subst this
     cases p with
     |none=>rfl
     |some ad=>rfl
   · obtain⟨b2,rest2,rfl,r⟩:=hD.row h0
     simp only[Builtin.firstCells,Nat.mul_one]
     refine Zcw (hR.row r) ?_ (by rw[ZM];exact hD.hlen)
     rw[List.drop_zero,List.take_append_of_le_length (by rw[ZM,hD.hlen];exact Nat.le_refl _),List.take_of_length_le (by rw[ZM,hD.hlen];exact Nat.le_refl _)]
 obtain⟨w',h1,h2⟩:=Zb5 (P:=P) (Yw ds) 0 0 (Yw us++rest) w (hR.has List.mem_cons_self) (by rw[List.length_append,ZM,ZM,hu,hD.hlen];omega) (by
   intro v hv
   obtain⟨q,_,rfl⟩:=List.mem_map.1 hv
   rfl)
 have hov:QK (Yw us++rest) (0+0) (Yw ds)=Yw (ds++us.drop len)++rest:=by simp only[QK,Nat.add_zero,Nat.zero_add,List.take_zero,List.nil_append];rw[List.drop_append_of_le_length (by rw[ZM,ZM,hu,hD.hlen];exact hlm)];simp only[Yw,List.map_append,List.map_drop,List.append_assoc,List.length_map,hD.hlen]
 rw[hov] at h2;refine Zw (v:=.int .i64 len) (w':=w') ?_ (k w' (hR.store _ h2));rw[Xx];simp only[List.map_toArray,List.map_cons,List.map_nil,hL.ev hx,hL.ev hy,builtin,Builtin.copy_,List.getElem?_toArray,List.getElem?_cons_zero,List.getElem?_cons_succ];rw[Zg (w':=w') (a:=(.int .i64 len:Value))];rfl;rw[Zg (Zr ht)];simp only[];have hmin:Nat.min len m=len:=Nat.min_eq_left hlm;simp only[Builtin.lenOf,ZF];rw[Zg (Ys hZ),hmin,Zg hcells];simp only[];rw[Zg h1];rfl
end
theorem Zah {y:List Nat} {i:Nat} (h:y.length<=i):y.getD i 0=0:=by rw[List.getD_eq_getElem?_getD,List.getElem?_eq_none h];rfl
theorem Qb {n k:Nat} (h:n<=2^k):(ZH W64 n).length<=k / 64+1:=by
 refine QY (by decide) (Nat.lt_of_le_of_lt h ?_);rw[show W64=2^64 from rfl,<-Nat.pow_mul];exact Nat.pow_lt_pow_right (by decide) (by omega)
theorem sum_pow {a b k l:Nat} (ha:a<=2^k) (hb:b<=2^l):a+b<=2^(k+l+1):=by
 have h1:2^k<=2^(k+l):=Nat.pow_le_pow_right (by omega) (by omega);have h2:2^l<=2^(k+l):=Nat.pow_le_pow_right (by omega) (by omega);rw[Nat.pow_succ];omega
theorem prod_pow {a b k l:Nat} (ha:a<=2^k) (hb:b<=2^l):a*b<=2^(k+l):=by rw[Nat.pow_add];exact Nat.mul_le_mul ha hb
end Go.Cham
namespace Go.Cham
open Go Go.RowKit
theorem cmpN_neg {a b:Nat}:Zb4 a b<0↔a<b:=by
 unfold Zb4;split;simp;omega;split <;> simp <;> omega
theorem Zfj (B:Nat):∀(us:List Nat) (k d:Nat),k<us.length->val B (us.set k d)+B^k*us.getD k 0=val B us+B^k*d
  |[],_,_,h=>by simp at h
  |u::r,0,d,_=>by simp[val];omega
  | u::r,k+1,d,h=>by
    have ih:=Zfj B r k d (by simpa using h)
    simp only[List.set_cons_succ,val,List.getD_cons_succ,Nat.pow_succ,Nat.mul_comm _ B,Nat.mul_assoc]
    rw[Nat.add_assoc,<-Nat.mul_add,ih,Nat.mul_add,Nat.add_assoc]
theorem mul_step {x y c u:Nat} (hx:x<18446744073709551616) (hy:y<18446744073709551616) (hc:c<18446744073709551616) (hu:u<18446744073709551616):
    x*y / 18446744073709551616+(x*y%18446744073709551616+c+0) / 18446744073709551616<18446744073709551616/\
    x*y / 18446744073709551616+(x*y%18446744073709551616+c+0) / 18446744073709551616+(u+(x*y%18446744073709551616+c+0)%18446744073709551616+0) / 18446744073709551616<18446744073709551616/\
    (u+(x*y%18446744073709551616+c+0)%18446744073709551616+0)%18446744073709551616+18446744073709551616*(x*y / 18446744073709551616+(x*y%18446744073709551616+c+0) / 18446744073709551616+(u+(x*y%18446744073709551616+c+0)%18446744073709551616+0) / 18446744073709551616)=x*y+c+u:=by
 have h:x*y<=18446744073709551615*18446744073709551615:=Nat.mul_le_mul (by omega) (by omega);generalize x*y=p at h ⊢;omega
structure MulIn (x y us:List Nat) (i j c:Nat):Prop where
  len:us.length=x.length+y.length
  c1:c<18446744073709551616
  lt:∀d∈us,d<18446744073709551616
  zero:∀m,i+y.length<=m->us.getD m 0=0
  sum:val W64 us+W64^(i+j)*c=val W64 (x.take i)*val W64 y+W64^i*(x.getD i 0*val W64 (y.take j))
theorem val_rep0 (B n:Nat):val B (List.replicate n 0)=0:=by induction n <;> simp_all [val,List.replicate_succ]
theorem MulIn.start {x y:List Nat} {n:Nat} (hn:n=x.length+y.length):MulIn x y (List.replicate n 0) 0 0 0:=
  ⟨by simp[hn],by decide,by simp,by intro m _;simp[List.getD_eq_getElem?_getD,List.getElem?_replicate];split <;> simp,by simp[val_rep0,val]⟩
theorem XB {us:List Nat} {k m d:Nat} (h:k≠m):(us.set k d).getD m 0=us.getD m 0:=by
 rw[List.getD_eq_getElem?_getD,List.getD_eq_getElem?_getD,List.getElem?_set_ne h]
theorem Zb0 {us:List Nat} {k d B:Nat} (h:∀e∈us,e<B) (hd:d<B):∀e∈us.set k d,e<B:=by
 intro e he;rcases List.mem_or_eq_of_mem_set he with h1|h1;exact h e h1;omega
theorem mul_sum {V V' P Q R T T' u d c c' x y Y:Nat} (h1:V'+P*u=V+P*d) (h2:V+P*c=R+Q*(x*Y)) (h3:d+T*c'=x*y+c+u) (hP:P*T=T*P) (hq:P=Q*T'):V'+(P*T)*c'=R+Q*(x*(Y+T'*y)):=by
 have e1:(P*T)*c'=P*(T*c'):=Nat.mul_assoc _ _ _;have e2:P*(d+T*c')=P*(x*y+c+u):=by rw[h3]
 have e3:Q*(x*(Y+T'*y))=Q*(x*Y)+P*(x*y):=by rw[hq];rw[Nat.mul_add,Nat.mul_add];congr 1;simp only[Nat.mul_assoc,Nat.mul_left_comm,Nat.mul_comm]
 simp only[Nat.mul_add] at e2;omega
theorem MulIn.step {x y us:List Nat} {i j c m:Nat} (h:MulIn x y us i j c) (hm:m=i+j) (hx:∀d∈x,d<18446744073709551616) (hy:∀d∈y,d<18446744073709551616) (hi:i<x.length) (hj:j<y.length) {d c':Nat} (h1:d<18446744073709551616) (h2:c'<18446744073709551616)
    (h3:d+18446744073709551616*c'=x.getD i 0*y.getD j 0+c+us.getD m 0):MulIn x y (us.set m d) i (j+1) c':=by
 subst hm;refine⟨by rw[List.length_set];exact h.len,h2,Zb0 h.lt h1,λk hk=>by rw[XB (by omega)];exact h.zero k hk,?_⟩;have hv:=Zfj W64 us (i+j) d (by rw[h.len];omega);have hs:=h.sum;have h3':d+W64*c'=x.getD i 0*y.getD j 0+c+us.getD (i+j) 0:=h3;have hp:W64^(i+j)=W64^i*W64^j:=Nat.pow_add _ _ _;have hq:W64^(i+(j+1))=W64^(i+j)*W64:=Nat.pow_succ _ _;rw[YW W64 y j hj,hq];exact mul_sum (T:=W64) hv hs h3' (Nat.mul_comm _ _) hp
theorem mul_nx {V V' P R Q x Y c W x2:Nat} (h1:V'+P*0=V+P*c) (h2:V+P*c=R*Y+Q*(x*Y)):V'+0=(R+Q*x)*Y+W*(x2*0):=by
 rw[Nat.mul_zero,Nat.add_zero] at h1;rw[Nat.mul_zero,Nat.mul_zero,Nat.add_zero,Nat.add_zero,h1,h2,Nat.add_mul,Nat.mul_assoc Q]
theorem MulIn.next {x y us:List Nat} {i j c m:Nat} (h:MulIn x y us i j c) (hj:¬j<y.length) (hj2:j<=y.length) (hi:i<x.length) (hm:m=i+y.length):MulIn x y (us.set m c) (i+1) 0 0:=by
 obtain rfl:j=y.length:=by omega
 subst hm;refine⟨by rw[List.length_set];exact h.len,by decide,Zb0 h.lt h.c1,λk hk=>by rw[XB (by omega)];exact h.zero k (by omega),?_⟩;have hv:=Zfj W64 us (i+y.length) c (by rw[h.len];omega);have hs:=h.sum;rw[h.zero _ (Nat.le_refl _)] at hv;rw[List.take_length] at hs;have h0:val W64 (y.take 0)=0:=by rw[List.take_zero];rfl
 rw[YW W64 x i hi,h0,Nat.mul_zero];exact mul_nx hv hs
theorem MulIn.done {x y us:List Nat} {i:Nat} (h:MulIn x y us i 0 0) (hi:¬i<x.length):val W64 us=val W64 x*val W64 y:=by
 have h0:val W64 (y.take 0)=0:=by rw[List.take_zero];rfl
 have hl:x.take i=x:=List.take_of_length_le (Nat.le_of_not_lt hi);have hs:=h.sum;rw[h0,hl,Nat.mul_zero,Nat.mul_zero,Nat.mul_zero,Nat.add_zero,Nat.add_zero] at hs;exact hs
theorem Zgp {a b:Nat} (h:b<=a):(ZH W64 b).length<=(ZH W64 a).length:=by
 rcases Nat.lt_or_ge (ZH W64 a).length (ZH W64 b).length with h2|h2;have:=Zbp (B:=W64) (by decide) h2;omega;exact h2
end Go.Cham
namespace Go.Cham
open Go
theorem Zb7 (l m:List Nat):YV l++YV m=YV (l++m):=by
 unfold YV;apply ByteArray.ext;simp
def wd (l:List Nat):Prop:=l≠[]/\(∀c∈l,48<=c/\c<=57)/\(l.length=1\/l.getD 0 0≠48)
instance (l:List Nat):Decidable (wd l):=by unfold wd;infer_instance
def Xi (l:List Nat):Nat:=val 10 (l.reverse.map (· - 48))
def decs (n:Nat):List Nat:=if n=0 then [48] else((ZH 10 n).map (· +48)).reverse
def txt (n:Nat):ByteArray:=YV (decs n)
theorem pval_snoc (l:List Nat) (c:Nat):Xi (l++[c])=10*Xi l+(c - 48):=by
 unfold Xi;rw[List.reverse_append];simp only[List.reverse_cons,List.reverse_nil,List.nil_append,List.singleton_append,List.map_cons,val];omega
theorem decs_dig (n:Nat):∀c∈decs n,48<=c/\c<=57:=by
 unfold decs;split;simp;intro c hc;rw[List.mem_reverse,List.mem_map] at hc;obtain⟨d,hd,rfl⟩:=hc;have:=Zdc (B:=10) (by decide) n d hd;omega
theorem decs_lt (n:Nat):∀c∈decs n,c<256:=λc hc=>by have:=decs_dig n c hc;omega
theorem bl_txt (n:Nat):bl (txt n)=decs n:=Qd (decs_lt n)
theorem map_sub_add (l:List Nat):(l.map (· +48)).map (· - 48)=l:=by
 rw[List.map_map];have:((λx:Nat=>x - 48) ∘ (λx:Nat=>x+48))=id:=by funext x;simp
 rw[this,List.map_id]
theorem pval_decs (n:Nat):Xi (decs n)=n:=by
 unfold Xi decs;split;subst n;rfl;rw[List.reverse_reverse,map_sub_add,ZV (by decide)]
theorem Zbq {l:List Nat} (h:wd l):decs (Xi l)=l:=by
 obtain⟨h1,h2,h3⟩:=h;have hd:∀d∈l.reverse.map (· - 48),d<10:=by intro d hd;obtain⟨c,hc,rfl⟩:=List.mem_map.1 hd;have:=h2 c (by simpa using hc);show c - 48<10;omega
 have hback:(l.reverse.map (· - 48)).map (· +48)=l.reverse:=by
   rw[List.map_map]
   have key:∀r:List Nat,(∀c∈r,48<=c)->r.map ((λx:Nat=>x+48) ∘ (λx:Nat=>x - 48))=r:=by
     intro r
     induction r with
     |nil=>simp
     | cons x r ih=>
       intro hh
       have:=hh x (by simp)
       rw[List.map_cons,ih (λc hc=>hh c (by simp[hc]))]
       congr 1
       show x - 48+48=x
       omega
   exact key _ (λc hc=>(h2 c (by simpa using hc)).1)
 by_cases h0:l=[48];subst h0;rfl
 have hlast:(l.reverse.map (· - 48)).getLast? ≠some 0:=by
   rw[List.getLast?_map,List.getLast?_reverse]
   cases l with
   |nil=>exact absurd rfl h1
   | cons x r=>
     simp only[List.head?_cons,Option.map_some,ne_eq,Option.some.injEq]
     have hx:=h2 x (by simp)
     rcases h3 with h3|h3
     · have:r=[]:=by simpa using h3
       subst this
       intro e
       have:x=48:=by omega
       exact h0 (by rw[this])
     · simp at h3
       omega
 have hv:=digs_val (B:=10) (by decide) _ hd hlast;have hne:Xi l≠0:=by intro e;unfold Xi at e;rw[e,YR] at hv;have:=congrArg List.length hv;simp at this;exact h1 (List.length_eq_zero_iff.1 this.symm)
 unfold decs;rw[if_neg hne];unfold Xi;rw[hv,hback,List.reverse_reverse]
theorem decs_inj {m n:Nat} (h:decs m=decs n):m=n:=by rw[<-pval_decs m,h,pval_decs]
theorem pval_lt {l:List Nat} (h:∀c∈l,48<=c/\c<=57):Xi l<10^l.length:=by
 have:=Zf2 (B:=10) (by decide) (l.reverse.map (· - 48)) (λd hd=>by
   obtain⟨c,hc,rfl⟩:=List.mem_map.1 hd
   have:=h c (by simpa using hc)
   show c - 48<10
   omega)
 simpa [Xi] using this
theorem tenpow {m k j:Nat} (h1:m<=3*j) (h2:10*j<=k):10^m<=2^k:=by
 have e1:10^m<=10^(3*j):=Nat.pow_le_pow_right (by decide) h1;have e2:(10^3)^j<=(2^10)^j:=Nat.pow_le_pow_left (by decide) j;have e3:2^(10*j)<=2^k:=Nat.pow_le_pow_right (by decide) h2;rw[<-Nat.pow_mul,<-Nat.pow_mul] at e2;exact Nat.le_trans e1 (Nat.le_trans e2 e3)
theorem ten256:10^256<=2^900:=tenpow (m:=256) (k:=900) (j:=86) (by decide) (by decide)
theorem pval_le {l:List Nat} (h:∀c∈l,48<=c/\c<=57) (hl:l.length<=256):Xi l<=2^900:=
  Nat.le_trans (Nat.le_of_lt (pval_lt h)) (Nat.le_trans (Nat.pow_le_pow_right (by decide) hl) ten256)
theorem Zaa {n k:Nat} (h:n<=2^k):(decs n).length<=k+1:=by
 unfold decs;split;simp;rw[List.length_reverse,List.length_map];refine QY (by decide) (Nat.lt_of_le_of_lt h ?_)
 calc 2^k<2^(k+1):=Nat.pow_lt_pow_right (by decide) (by omega)
   _<=10^(k+1):=Nat.pow_le_pow_left (by decide) _
theorem Zei (n:Nat):(txt n).size=(decs n).length:=by rw[<-YD,bl_txt]
theorem Zfd {B:Nat} (hB:2<=B):∀(m n:Nat),n / B^m≠0->(ZH B n).take (m+1)=(ZH B n).take m++[n / B^m%B]:=by
 intro m
 induction m with
 | zero=>
   intro n h
   have hn:n≠0:=by simpa using h
   rw[Zaf hB hn];simp
 | succ m ih=>
   intro n h
   have hn:n≠0:=by intro e;subst e;simp at h
   have e:n / B^(m+1)=n / B / B^m:=by rw[Nat.pow_succ,Nat.mul_comm,Nat.div_div_eq_div_mul]
   rw[Zaf hB hn,List.take_succ_cons,ih (n / B) (by rw[<-e];exact h),List.take_succ_cons,e]
   rfl
theorem Zgo {B:Nat} (hB:2<=B) {m n:Nat} (h:n / B^m=0):(ZH B n).take m=ZH B n:=by
 refine List.take_of_length_le (QY hB ?_);rcases Nat.div_eq_zero_iff.1 h with h|h;have:=Nat.pow_pos (n:=m) (show 0<B by omega);omega;exact h
end Go.Cham
namespace Go.Cham
open Go Go.RowKit
def DN:Dom Nat where
  size:=λ_=>2
  pred:=λa S cs=>∃k,Na S cs a k
  up:=λl ⟨k,h⟩=>⟨k,h.up l⟩
  len:=λ⟨_,h⟩=>h.len
  ones:=λ⟨_,h⟩=>h.ones
  txt:=λ_=>false
  txt_ok:=λh=>by cases h
  teq:=λ_ _=>none
  teq_ok:=λh=>by cases h
  tlen:=λ_=>none
  tlen_ok:=λh=>by cases h
  slen:=λ_=>none
  slen_ok:=λh=>by cases h
  ieq:=λ_ _=>none
  ieq_ok:=λh=>by cases h
  igt:=λ_ _=>none
  igt_ok:=λh=>by cases h
  ibin:=λ_ _ _=>none
  ibin_ok:=λh=>by cases h
  imx:=λ_ _=>none
  imx_ok:=λh=>by cases h
  imz:=λ_=>false
  imz_ok:=λh=>by cases h
noncomputable section
def mkTab {β:Type} (l:List (Nat × β)):Tr β:=List.rec .nil (λp _ ih=>ih.put p.1 (some p.2)) l
theorem mkTab_mem {β:Type} {f:Nat} {g:β}:∀{l:List (Nat × β)},(mkTab l).at f=some g->(f,g)∈l
  | [],h=>by
    have h':(Tr.nil:Tr β).at f=some g:=h
    unfold Tr.at at h'
    rw[Tr.get_nil] at h'
    cases h'
  | p ::r,h=>by
    have h':((mkTab r).put p.1 (some p.2)).at f=some g:=h
    rw[Tr.at_put_if] at h'
    split at h'
    · rename_i e
      simp only[Option.some.injEq] at h'
      rw[e,<-h'];simp
    · exact List.mem_cons_of_mem _ (mkTab_mem h')
section
variable {α : Type}
abbrev PrF (α:Type):=List (SV α)->Option (SV α)
def primOf (T:Tr (PrF α)) (f:FuncId) (args:List (SV α)):Option (SV α):=Option.rec none (λg=>g args) (T.at f)
def YZ (P:Program) (D:Dom α) (f:FuncId) (g:PrF α):Prop:=∀args r,g args=some r->∀G w vs,Qm D G args vs->ZU G.S w->Zbu P f vs w λv w'=>∃S',Ext G.S w S' w'/\Den D ⟨S',G.blk⟩ r v
theorem primOf_ok {P:Program} {D:Dom α} {l:List (Nat × PrF α)} (h:∀p∈l,YZ P D p.1 p.2):PrimOK P D (primOf (mkTab l)):=by
 intro f args r hr;unfold primOf at hr
 cases hT:(mkTab l).at f with
 |none=>rw[hT] at hr;cases hr
 | some g=>
   rw[hT] at hr
   exact h (f,g) (mkTab_mem hT) args r hr
theorem Zbu.ret {P:Program} {f:FuncId} {vs:List Value} {S:Sh} {w:World} {V:Sh->Value->Prop} {D:Dom α} {r:SV α} {blk:Nat->Option (Nat × Nat)} (he:ZT P f=true) (h:Calls P f vs.toArray w (Ret S w V)) (k:∀S' v,V S' v->Den D ⟨S',blk⟩ r v):
    Zbu P f vs w λv w'=>∃S',Ext S w S' w'/\Den D ⟨S',blk⟩ r v:=
  .inl ⟨he,Calls.mono h λe w' ⟨v,S',h1,h2,h3⟩=>⟨v,h1,S',h2,k S' v h3⟩⟩
theorem Zbu.toRet {P:Program} {f:FuncId} {vs:List Value} {S:Sh} {w:World} {D:Dom α} {r:SV α} (he:ZT P f=true) (h:Zbu P f vs w λv w'=>∃S' blk',Ext S w S' w'/\Den D ⟨S',blk'⟩ r v):Calls P f vs.toArray w (Ret S w λS' v=>∃blk',Den D ⟨S',blk'⟩ r v):=by
 rcases h with⟨_,h⟩|⟨v,w',h,_⟩;exact Calls.mono h λe w' ⟨v,h1,S',blk',h2,h3⟩=>⟨v,S',h1,h2,blk',h3⟩;rw[run_callFunc he] at h;cases h
end
def asN (x:SV Nat):Option Nat:=match x with
  | .agg l=>match l with
    |[.at_ a]=>some a
    | [.int .u64 (.ofNat a),.sl none 0 0]=>match Nat.ble a 18446744073709551615 with
      |true=>some a
      |false=>none
    |_=>none
  |_=>none
def bigOf (k:Nat):Nat:=Nat.pow 2 k
def fitN (x:SV Nat):Option Nat:=match asN x with
  | some a=>match Nat.ble a (bigOf 100000) with
    |true=>some a
    |false=>none
  |none=>none
def nv (a:Nat):SV Nat:=.agg [.at_ a]
theorem Zfa {S:Sh} {cs:List Value} {a k:Nat} {blk:Nat->Option (Nat × Nat)} (h:Na S cs a k):Den DN ⟨S,blk⟩ (nv a) (.agg cs.toArray):=by
 refine .agg ?_;have:=YL.run (D:=DN) (G:=⟨S,blk⟩) (a:=a) (us:=cs) ⟨k,h⟩ .nil;simpa using this
theorem ble_big {a k:Nat} (h:Nat.ble a (bigOf k)=true):a<=2^k:=Nat.le_of_ble_eq_true h
theorem fitN_den {G:Gh} {x:SV Nat} {v:Value} {a:Nat} (h:fitN x=some a) (hd:Den DN G x v):∃cs,v= .agg cs.toArray/\Na G.S cs a 100000:=by
 unfold fitN at h;split at h;rename_i a' ha;split at h;rename_i hb;cases h;have hb':=ble_big hb;unfold asN at ha;split at ha
 cases hd with
 | agg hl=>
   split at ha
   · cases ha
     cases hl with
     | run h1 h2=>
       cases h2
       obtain⟨k,hk⟩:=h1
       exact⟨_,rfl,by rw[List.append_nil];exact⟨hb',hk.2⟩⟩
     |one _ _ hn _=>exact absurd rfl (hn _)
   · split at ha
     · rename_i hle
       cases ha
       have hle':=Nat.le_of_ble_eq_true hle
       cases hl with
       | one h1 _ _ h2=>
         cases h1
         cases h2 with
         | one h3 _ _ h4=>
           cases h3
           cases h4
           exact⟨_,rfl,hb',_,_,rfl,.small _ (by omega)⟩
     · cases ha
   · cases ha
 cases ha;cases h;cases h
def pN1 (g:Nat->SV Nat):PrF Nat:=λl=>match l with
  | [x]=>match fitN x with
    |some a=>some (g a)
    |none=>none
  |_=>none
def pN2 (g:Nat->Nat->SV Nat):PrF Nat:=λl=>match l with
  | [x,y]=>match fitN x with
    | some a=>match fitN y with
      |some b=>some (g a b)
      |none=>none
    |none=>none
  |_=>none
theorem pN1_ok {P:Program} {f:FuncId} {g:Nat->SV Nat} (he:ZT P f=true) (h:∀(S:Sh) (w:World) (c:List Value) (a:Nat),ZU S w->Na S c a 100000->∃V,Calls P f [.agg c.toArray].toArray w (Ret S w V)/\∀blk S' v,V S' v->Den DN ⟨S',blk⟩ (g a) v):YZ P DN f (pN1 g):=by
 intro args r hr G w vs hd hS;unfold pN1 at hr;split at hr;split at hr;rename_i a ha;cases hr
 cases hd with
 | cons h1 h2=>
   cases h2
   obtain⟨c,rfl,hc⟩:=fitN_den ha h1
   obtain⟨V,hV,hk⟩:=h G.S w c a hS hc
   exact .ret he hV λS' v hv=>hk _ S' v hv
 cases hr;cases hr
theorem pN2_ok {P:Program} {f:FuncId} {g:Nat->Nat->SV Nat} (he:ZT P f=true) (h:∀(S:Sh) (w:World) (c d:List Value) (a b:Nat),ZU S w->Na S c a 100000->Na S d b 100000->∃V,Calls P f [.agg c.toArray,.agg d.toArray].toArray w (Ret S w V)/\∀blk S' v,V S' v->Den DN ⟨S',blk⟩ (g a b) v):YZ P DN f (pN2 g):=by
 intro args r hr G w vs hd hS;unfold pN2 at hr;split at hr;split at hr;rename_i a ha;split at hr;rename_i b hb;cases hr
 cases hd with
 | cons h1 h2=>
   cases h2 with
   | cons h3 h4=>
     cases h4
     obtain⟨c,rfl,hc⟩:=fitN_den ha h1
     obtain⟨d,rfl,hd⟩:=fitN_den hb h3
     obtain⟨V,hV,hk⟩:=h G.S w c d a b hS hc hd
     exact .ret he hV λS' v hv=>hk _ S' v hv
 cases hr;cases hr;cases hr
def cmpB (a b:Nat):Int:=match Nat.ble (Nat.succ a) b with
  |true=> -1
  | false=>match Nat.ble (Nat.succ b) a with
    |true=>1
    |false=>0
theorem cmpB_eq (a b:Nat):cmpB a b=Zb4 a b:=by
 unfold cmpB Zb4;by_cases h:a<b;rw[Nat.ble_eq_true_of_le h,if_pos h]
 have h1:Nat.ble (Nat.succ a) b=false:=by
   cases hb:Nat.ble (Nat.succ a) b with
   |false=>rfl
   |true=>exact absurd (Nat.le_of_ble_eq_true hb) h
 rw[h1,if_neg h];by_cases h2:b<a;rw[Nat.ble_eq_true_of_le h2,if_pos h2]
 have h3:Nat.ble (Nat.succ b) a=false:=by
   cases hb:Nat.ble (Nat.succ b) a with
   |false=>rfl
   |true=>exact absurd (Nat.le_of_ble_eq_true hb) h2
 rw[h3,if_neg h2]
def bitB (a:Nat):Nat:=match Nat.beq a 0 with
  |true=>0
  |false=>Nat.succ (Nat.log2 a)
theorem bitB_eq (a:Nat):bitB a=Zs a:=by
 unfold bitB Zs;by_cases h:a=0;subst h;rfl;rw[if_neg h]
 have:Nat.beq a 0=false:=by
   cases hb:Nat.beq a 0 with
   |false=>rfl
   |true=>rw[YM] at hb;exact absurd hb h
 rw[this]
def decF (f:Nat):Nat->List Nat->List Nat:=Nat.rec (λ_ l=>l) (λ_ ih n l=>Bool.rec (ih (Nat.div n 10) (Nat.add 48 (Nat.mod n 10)::l)) l (Nat.beq n 0)) f
def decB (n:Nat):List Nat:=match Nat.beq n 0 with
  |true=>[48]
  |false=>decF n n []
theorem decF_eq:∀(f n:Nat) (l:List Nat),n<=f->decF f n l=((ZH 10 n).map (· +48)).reverse++l
  | 0,n,l,h=>by
    have:n=0:=by omega
    subst this
    rw[ZH];rfl
  | f + 1,n,l,h=>by
    have e:decF (f+1) n l=Bool.rec (motive:=λ_=>List Nat) (decF f (Nat.div n 10) (Nat.add 48 (Nat.mod n 10)::l)) l (Nat.beq n 0):=rfl
    rw[e]
    by_cases h0:n=0
    · subst h0;rw[ZH];rfl
    · have hb:Nat.beq n 0=false:=by
        cases hb:Nat.beq n 0 with
        |false=>rfl
        |true=>rw[YM] at hb;exact absurd hb h0
      rw[hb]
      show decF f (n / 10) ((48+n%10)::l)=_
      rw[decF_eq f (n / 10) _ (by omega)]
      conv=>rhs;rw[ZH]
      rw[dif_pos ⟨by omega,h0⟩]
      simp[List.append_assoc,Nat.add_comm]
theorem decB_eq (n:Nat):decB n=decs n:=by
 unfold decB decs;by_cases h:n=0;subst h;rfl;rw[if_neg h]
 have hb:Nat.beq n 0=false:=by
   cases hb:Nat.beq n 0 with
   |false=>rfl
   |true=>rw[YM] at hb;exact absurd hb h
 rw[hb];show decF n n []=_;rw[decF_eq n n [] (Nat.le_refl _),List.append_nil]
end
end Go.Cham
namespace Go.Cham
open Go Go.RowKit
def RetO (S0:Sh) (w0:World) (S:Sh) (b:Nat) (T:TypeId) (rest:List Value) (H:Own) (V:Sh->Value->List Nat->Prop):Ending->World->Prop:=
  λe w'=>∃v S' ds,e= .returned v/\S.le S'/\Run S0 w0 S' ((b,T,Yw ds++rest)::H) w'/\V S' v ds
def RetN (S:Sh) (w:World) (V:Sh->Value->Own->Prop):Ending->World->Prop:=
  λe w'=>∃v S' H,e= .returned v/\Run S w S' H w'/\V S' v H
theorem Run.callN {S0 S S':Sh} {w0 w w':World} {H H':Own} (h:Run S0 w0 S H w) (k:Run S w S' H' w'):Run S0 w0 S' (H'++H) w':=by
 have hc:=h.call k.ext;refine⟨hc.ext,λx hx=>?_,?_⟩;rcases List.mem_append.1 hx with hx|hx;obtain⟨a,b,c⟩:=k.own x hx;exact⟨a,b,Nat.le_trans h.ext.below.size c⟩;exact hc.own x hx;rw[List.map_append,List.nodup_append];refine⟨k.nodup,hc.nodup,λa ha b hb=>?_⟩;obtain⟨x,hx,rfl⟩:=List.mem_map.1 ha;obtain⟨y,hy,rfl⟩:=List.mem_map.1 hb;have h1:=(k.own x hx).2.2;have h2:=h.lt hy;omega
theorem Zf3 (x:Nat):IntKind.u64.wrap (x:Int)=((x%18446744073709551616:Nat):Int):=by
 have:IntKind.u64.wrap (x:Int)=(x:Int)%18446744073709551616:=by simp[IntKind.wrap,IntKind.bits,IntKind.signed]
 rw[this];omega
theorem u64_wrapS {x y:Nat} (hy:y<=18446744073709551616):IntKind.u64.wrap ((x:Int) - (y:Int))=(((x+18446744073709551616 - y)%18446744073709551616:Nat):Int):=by
 have:IntKind.u64.wrap ((x:Int) - (y:Int))=((x:Int) - (y:Int))%18446744073709551616:=by simp[IntKind.wrap,IntKind.bits,IntKind.signed]
 rw[this];omega
theorem Zf4 {x y:Nat}:IntKind.u64.wrap ((x:Int)*(y:Int))=((x*y%18446744073709551616:Nat):Int):=by
 rw[<-Int.natCast_mul];exact Zf3 _
theorem u64_wrapA {x y:Nat}:IntKind.u64.wrap ((x:Int)+(y:Int))=(((x+y)%18446744073709551616:Nat):Int):=by
 rw[<-Int.natCast_add];exact Zf3 _
section
variable {P : Program} {a : Act} {w : World} {n : Nat} {l : List (Nat × Value)} {K : Value → World → Prop}
variable {d : Option Tmp} {ty : TypeId} {pos : String} {af : Array Edge} {g : Option (Nat × Bool)}
theorem Zci {t u:TypeId} {x y:Operand} {i s:Nat} {ky:IntKind} (hL:ZL a n l) (hx:ev l x=some (.int .u64 (i:Int))) (hy:ev l y=some (.int ky (s:Int))) (hs:s<=64) (k:K (.int .u64 ((i*2^s%18446744073709551616:Nat):Int)) w):YY P ⟨d,.binOp .shl t x y u,ty,pos,af,g⟩ a w K:=by
 refine Zw (v:=.int .u64 ((i*2^s%18446744073709551616:Nat):Int)) (by
   rw[Yc,hL.ev hx,hL.ev hy,YI]
   simp only[ZF,binOp]
   rw[shift_shl .u64 ky _ _ (by omega) (by simp only[IntKind.bits];omega)]
   have e:(i:Int)*2^(s:Int).toNat=((i*2^s:Nat):Int):=by simp
   rw[e,Zf3];rfl) k
theorem QU {t u:TypeId} {x y:Operand} {i s:Nat} {ky:IntKind} (hL:ZL a n l) (hx:ev l x=some (.int .u64 (i:Int))) (hy:ev l y=some (.int ky (s:Int))) (hs:s<=64) (k:K (.int .u64 ((i / 2^s:Nat):Int)) w):YY P ⟨d,.binOp .shr t x y u,ty,pos,af,g⟩ a w K:=by
 refine Zw (v:=.int .u64 ((i / 2^s:Nat):Int)) (by
   rw[Yc,hL.ev hx,hL.ev hy,YI]
   simp only[ZF,binOp]
   rw[shift_shr .u64 ky _ _ (by omega) (by simp only[IntKind.bits];omega)]
   have e:(i:Int) / 2^(s:Int).toNat=((i / 2^s:Nat):Int):=by simp
   rw[e];rfl) k
theorem bits64 (f:BitVec 64->BitVec 64->BitVec 64) (x y z:Nat) (h:(f (BitVec.ofInt 64 x) (BitVec.ofInt 64 y)).toNat=z) (hz:z<18446744073709551616):IntKind.u64.wrap ((f (BitVec.ofInt 64 x) (BitVec.ofInt 64 y)).toNat:Int)=(z:Int):=by
 rw[h,Zf3];omega
theorem Zgl {t u:TypeId} {x y:Operand} {i j z:Nat} (hL:ZL a n l) (hx:ev l x=some (.int .u64 (i:Int))) (hy:ev l y=some (.int .u64 (j:Int))) (hi:i<18446744073709551616) (hj:j<18446744073709551616) (hz:i |||j=z) (k:K (.int .u64 (z:Int)) w):YY P ⟨d,.binOp .or t x y u,ty,pos,af,g⟩ a w K:=by
 subst hz;have hlt:i |||j<2^64:=Nat.or_lt_two_pow hi hj
 refine Zw (v:=.int .u64 ((i |||j:Nat):Int)) (by
   rw[Yc,hL.ev hx,hL.ev hy,YI]
   simp only[ZF,binOp,ne_eq,not_true,if_false]
   rw[intBits_or]
   have e:bits .or .u64 (i:Int) (j:Int)=((i |||j:Nat):Int):=by
     refine bits64 (λa b=>a |||b) i j _ ?_ hlt
     simp only[BitVec.toNat_or,BitVec.ofInt_natCast,BitVec.toNat_ofNat]
     rw[Nat.mod_eq_of_lt (by omega),Nat.mod_eq_of_lt (by omega)]
   rw[e];rfl) k
theorem does_and32 {t u:TypeId} {x y:Operand} {i:Nat} (hL:ZL a n l) (hx:ev l x=some (.int .u64 (i:Int))) (hy:ev l y=some (.int .u64 4294967295)) (hi:i<18446744073709551616) (k:K (.int .u64 ((i%4294967296:Nat):Int)) w):YY P ⟨d,.binOp .and t x y u,ty,pos,af,g⟩ a w K:=by
 refine Zw (v:=.int .u64 ((i%4294967296:Nat):Int)) (by
   rw[Yc,hL.ev hx,hL.ev hy,YI]
   simp only[ZF,binOp,ne_eq,not_true,if_false]
   rw[intBits_and]
   have e:bits .and .u64 (i:Int) 4294967295=((i%4294967296:Nat):Int):=by
     refine bits64 (λa b=>a &&& b) i 4294967295 _ ?_ (by omega)
     simp only[BitVec.toNat_and,BitVec.ofInt_natCast,BitVec.toNat_ofNat]
     rw[Nat.mod_eq_of_lt (by omega),show 4294967295%2^64=2^32 - 1 from rfl,Nat.and_two_pow_sub_one_eq_mod]
   rw[e];rfl) k
end
theorem or_sum {a b i:Nat} (h:b<2^i):(2^i*a) |||b=2^i*a+b:=(Nat.two_pow_add_eq_or_of_lt h a).symm
theorem dq_init {K v w u z q r:Nat} (hq:q*v+r=u) (hr:r<v) (hz:z<K):u*K+z<(q+1)*(v*K+w):=by
 have e:(q+1)*(v*K+w)=(q*v)*K+q*w+v*K+w:=by rw[Nat.add_mul,Nat.mul_add,Nat.one_mul,Nat.mul_assoc];omega
 have e2:u*K=(q*v)*K+r*K:=by rw[<-hq,Nat.add_mul]
 have e3:(r+1)*K<=v*K:=Nat.mul_le_mul_right K hr;rw[Nat.add_mul,Nat.one_mul] at e3;omega
theorem dq_step {K v w u z q r:Nat} (hq:q*v+r=u) (hz:z<K) (hu:u<v*K+w) (h:K<=q\/r*K+z<q*w):0<q/\(q - 1)*v+(r+v)=u/\u*K+z<(q - 1+1)*(v*K+w):=by
 have h0:0<q:=by
  rcases h with h|h;have:0<K:=by omega
  omega;rcases Nat.eq_zero_or_pos q with e|e;subst e;simp at h;exact e
 obtain⟨p,rfl⟩:∃p,q=p+1:=⟨q - 1,by omega⟩;refine⟨h0,?_,?_⟩;rw[Nat.add_sub_cancel,<-hq,Nat.add_mul];omega;rw[Nat.add_sub_cancel];have e:(p+1)*(v*K+w)=((p+1)*v)*K+(p+1)*w:=by rw[Nat.mul_add,Nat.mul_assoc]
 have e2:u*K=((p+1)*v)*K+r*K:=by rw[<-hq,Nat.add_mul]
 rcases h with h|h;have h1:K*(u+1)<=(p+1)*(v*K+w):=Nat.mul_le_mul h hu;rw[Nat.mul_add,Nat.mul_one,Nat.mul_comm] at h1;omega;omega
theorem Zbn {K v w u z q r:Nat} (hq:q*v+r=u) (h:q*w<=r*K+z):q*(v*K+w)<=u*K+z:=by
 have e:q*(v*K+w)=(q*v)*K+q*w:=by rw[Nat.mul_add,Nat.mul_assoc]
 have e2:u*K=(q*v)*K+r*K:=by rw[<-hq,Nat.add_mul]
 omega
theorem QF {K v w u z q r:Nat} (hq:q*v+r=u) (hw:w<K) (hr:K<=r) (hk:q<=K):q*(v*K+w)<=u*K+z:=by
 refine Zbn hq ?_;have h1:q*w<=K*K:=Nat.mul_le_mul hk (Nat.le_of_lt hw);have h2:K*K<=r*K:=Nat.mul_le_mul_right K hr;omega
structure Norm (h lo y s Y v w u z1 z0:Nat):Prop where
  hs:s<64
  hY:Y=y*2^s
  hY2:Y<18446744073709551616
  hv:Y=v*4294967296+w
  hw:w<4294967296
  hv2:2147483648<=v
  hu:u*18446744073709551616+(z1*4294967296+z0)=(h*18446744073709551616+lo)*2^s
  hz1:z1<4294967296
  hz0:z0<4294967296
  hu2:u<Y
theorem QE {s:Nat} (hs:s<=64):2^s*2^(64 - s)=18446744073709551616:=by
 rw[<-Nat.pow_add,show s+(64 - s)=64 by omega]
theorem norm_start {h lo y:Nat} (hy:y<18446744073709551616) (hh:h<y) (hl:lo<18446744073709551616):
    Norm h lo y (64 - Zs y) (y*2^(64 - Zs y)%18446744073709551616) (y*2^(64 - Zs y)%18446744073709551616 / 2^32) (y*2^(64 - Zs y)%18446744073709551616%4294967296)
      ((h*2^(64 - Zs y)%18446744073709551616) |||(lo / 2^(64 - (64 - Zs y)))) (lo*2^(64 - Zs y)%18446744073709551616 / 2^32) (lo*2^(64 - Zs y)%18446744073709551616%4294967296):=by
 have hb:=Zbs (n:=y) (by omega);have hb1:Zs y<=64:=by rcases Nat.lt_or_ge 64 (Zs y) with h1|h1;have:2^64<=2^(Zs y - 1):=Nat.pow_le_pow_right (by decide) (by omega);have e:(2:Nat)^64=18446744073709551616:=rfl;omega;exact h1
 have hb0:=Zcm (n:=y) (by omega);generalize hs:64 - Zs y=s;have hs2:Zs y=64 - s:=by omega
 rw[hs2] at hb;have hs3:s<64:=by omega
 clear hb0 hb1 hs hs2;have hps:=QE (s:=s) (by omega);have hp63:2^s*2^(64 - s - 1)=9223372036854775808:=by rw[<-Nat.pow_add,show s+(64 - s - 1)=63 by omega]
 have hY1:y*2^s<18446744073709551616:=by rw[<-hps,Nat.mul_comm];exact Nat.mul_lt_mul_of_pos_left hb.2 (Nat.two_pow_pos s)
 have hY0:9223372036854775808<=y*2^s:=by rw[<-hp63,Nat.mul_comm];exact Nat.mul_le_mul_right _ hb.1
 have hh1:h*2^s+2^s<=y*2^s:=by rw[<-Nat.succ_mul];exact Nat.mul_le_mul_right _ hh
 have hp0:0<2^s:=Nat.two_pow_pos s;have e1:h*2^s%18446744073709551616=2^s*h:=by rw[Nat.mod_eq_of_lt (by omega),Nat.mul_comm]
 have hlo:lo / 2^(64 - s)<2^s:=by rw[Nat.div_lt_iff_lt_mul (Nat.two_pow_pos _),hps];exact hl
 rw[e1,or_sum hlo,Nat.mod_eq_of_lt hY1];have e3:(lo*2^s) / 18446744073709551616=lo / 2^(64 - s):=by rw[<-hps,Nat.mul_comm lo,Nat.mul_div_mul_left _ _ hp0]
 have e5:(2:Nat)^32=4294967296:=rfl;have e6:=Nat.div_add_mod (lo*2^s) 18446744073709551616;rw[e3] at e6;have hm:=Nat.mod_lt (lo*2^s) (show 18446744073709551616 > 0 by decide);have e7:(2^s*h+lo / 2^(64 - s))*18446744073709551616+lo*2^s%18446744073709551616=(h*18446744073709551616+lo)*2^s:=by
  rw[Nat.add_mul,Nat.add_mul];have:h*18446744073709551616*2^s=2^s*h*18446744073709551616:=by rw[Nat.mul_assoc,Nat.mul_comm 18446744073709551616,<-Nat.mul_assoc,Nat.mul_comm h]
  omega
 have e8:2^s*h=h*2^s:=Nat.mul_comm _ _;generalize lo*2^s%18446744073709551616=m at*;generalize lo / 2^(64 - s)=c at*;generalize hYv:y*2^s=Y at*;rw[e5];refine⟨hs3,hYv.symm▸rfl,by omega,by omega,by omega,by omega,?_,by omega,by omega,by omega⟩;rw[<-e7];omega
theorem norm_u21 {A B u1 Y:Nat} (h1:B<=A+u1) (h2:A+u1<B+Y) (hY:Y<=18446744073709551616):((A%18446744073709551616+u1)%18446744073709551616+18446744073709551616 - B%18446744073709551616)%18446744073709551616+B=A+u1:=by omega
theorem div_fin {m q y p r0:Nat} (e:m*p=r0+q*y*p) (hp:0<p) (hr:r0<y*p) (hy:0<y):q=m / y/\r0 / p=m%y:=by
 have hmq:q*y<=m:=by rcases Nat.lt_or_ge m (q*y) with h|h;have:=Nat.mul_le_mul_right p h;rw[Nat.succ_mul] at this;omega;exact h
 have hr0:r0=(m - q*y)*p:=by rw[Nat.sub_mul];omega
 have hlt:m - q*y<y:=by rw[hr0] at hr;exact Nat.lt_of_mul_lt_mul_right hr
 have hm:m=q*y+(m - q*y):=by omega
 generalize m - q*y=t at*;subst hm;constructor;rw[Nat.mul_comm q y,Nat.mul_add_div (by omega),Nat.div_eq_of_lt hlt];rfl;rw[hr0,Nat.mul_div_cancel _ hp,Nat.mul_comm q y,Nat.mul_add_mod,Nat.mod_eq_of_lt hlt]
theorem div64_done {h lo y s Y v w u z1 z0 q1 q0 r1 r0:Nat} (N:Norm h lo y s Y v w u z1 z0) (h1:r1+q1*Y=u*4294967296+z1) (h0:r0+q0*Y=r1*4294967296+z0) (hr:r0<Y) (hy:0<y):
    q1*4294967296+q0=(h*18446744073709551616+lo) / y/\r0 / 2^s=(h*18446744073709551616+lo)%y:=by
 have e:(h*18446744073709551616+lo)*2^s=r0+(q1*4294967296+q0)*Y:=by rw[<-N.hu,Nat.add_mul,Nat.mul_right_comm];omega
 have hp:0<2^s:=Nat.two_pow_pos s;rw[N.hY] at e hr;rw[<-Nat.mul_assoc] at e;exact div_fin e hp hr hy
theorem dq_small {v w u q r:Nat} (hq:q*v+r=u) (hu:u<v*4294967296+w) (hw:w<4294967296) (hv:2147483648<=v):q<=4294967297:=by
 rcases Nat.lt_or_ge 4294967297 q with h|h;have:=Nat.mul_le_mul_right v h;simp only[Nat.succ_eq_add_one] at this;omega;exact h
theorem dq_lt {K Y u z q:Nat} (h:q*Y<=u*K+z) (hz:z<K) (hu:u<Y):q<K:=by
 rcases Nat.lt_or_ge q K with h1|h1;exact h1;have h2:=Nat.mul_le_mul h1 (Nat.succ_le_of_lt hu);rw[Nat.succ_eq_add_one,Nat.mul_add,Nat.mul_one,Nat.mul_comm K] at h2;have h3:q*(u+1)<=q*Y:=Nat.mul_le_mul_left q hu;have h4:K*(u+1)<=q*Y:=Nat.le_trans (Nat.mul_le_mul_right _ h1) h3;rw[Nat.mul_add,Nat.mul_one,Nat.mul_comm K] at h4;omega
theorem int_eq2 {k k':IntKind} {x y x' y':Int} (h:x=x') (h':y=y'):pack [.int k x,.int k' y]= .tuple [.int k x',.int k' y'].toArray:=by subst h h';rfl
theorem Zfv {y:Nat} (h:y<18446744073709551616):Zs y<=64:=by
 by_cases h0:y=0;subst h0;rw[bitlen_zero];omega;have hb:=Zbs h0;rcases Nat.lt_or_ge 64 (Zs y) with h1|h1;have:2^64<=2^(Zs y - 1):=Nat.pow_le_pow_right (by decide) (by omega);have e:(2:Nat)^64=18446744073709551616:=rfl;omega;exact h1
theorem mod_hint {u v q:Nat} (hq:q=u / v) (hv:0<v):q*v<=u/\u<q*v+v:=by
 have h1:=Nat.div_add_mod u v;have h2:=Nat.mod_lt u hv;rw[<-hq,Nat.mul_comm] at h1;omega
theorem dq_step2 {K v w u z q r:Nat} (hq:q*v+r=u) (h:r*K+z<q*w):0<q/\(q - 1)*v+(r+v)=u/\u*K+z<(q - 1+1)*(v*K+w):=by
 have h0:0<q:=by rcases Nat.eq_zero_or_pos q with e|e;subst e;simp at h;exact e
 obtain⟨p,rfl⟩:∃p,q=p+1:=⟨q - 1,by omega⟩;refine⟨h0,?_,?_⟩;rw[Nat.add_sub_cancel,<-hq,Nat.add_mul];omega;rw[Nat.add_sub_cancel];have e:(p+1)*(v*K+w)=((p+1)*v)*K+(p+1)*w:=by rw[Nat.mul_add,Nat.mul_assoc]
 have e2:u*K=((p+1)*v)*K+r*K:=by rw[<-hq,Nat.add_mul]
 omega
def cr (d:List Nat) (n i:Nat):Nat:=if i=0 then 0 else d.getD (i - 1) 0 / 2^(64 - n)
structure Zgx (d us:List Nat) (n m i:Nat):Prop where
  len:us.length=m
  le:i<=m
  sum:val W64 (us.take i)+W64^i*cr d n i=val W64 (d.take i)*2^n
  rest:us.drop i=List.replicate (m - i) 0
  lt:∀e∈us,e<18446744073709551616
theorem Zgx.start {d:List Nat} {n m:Nat}:Zgx d (List.replicate m 0) n m 0:=⟨by simp,by omega,by simp[val,cr],by simp,by simp⟩
theorem shl_parts {x n:Nat} (hn:n<64):x*2^n=x*2^n%18446744073709551616+18446744073709551616*(x / 2^(64 - n)):=by
 have h1:=QE (s:=n) (by omega);have h2:x*2^n / 18446744073709551616=x / 2^(64 - n):=by rw[<-h1,Nat.mul_comm x,Nat.mul_div_mul_left _ _ (Nat.two_pow_pos n)]
 have h3:=Nat.div_add_mod (x*2^n) 18446744073709551616;rw[h2] at h3;omega
theorem shl_mult {x n:Nat} (hn:n<64):x*2^n%18446744073709551616=2^n*(x%2^(64 - n)):=by
 have h1:=QE (s:=n) (by omega);rw[<-h1,Nat.mul_comm x,Nat.mul_mod_mul_left]
theorem up_or {x c n:Nat} (hn:n<64) (hc:c<2^n):(x*2^n%18446744073709551616) |||c=x*2^n%18446744073709551616+c:=by rw[shl_mult hn,or_sum hc]
theorem cr_lt {d:List Nat} {n i:Nat} (hn:n<64) (hd:∀e∈d,e<18446744073709551616):cr d n i<2^n:=by
 unfold cr;split;exact Nat.two_pow_pos n;rw[Nat.div_lt_iff_lt_mul (Nat.two_pow_pos _),QE (by omega)];exact ZS hd (by decide) _
theorem add_pow_lt {x n c:Nat} (hn:n<64) (hc:c<2^n):x*2^n%18446744073709551616+c<18446744073709551616:=by
 have h:=Nat.or_lt_two_pow (x:=x*2^n%18446744073709551616) (y:=c) (n:=64) (Nat.mod_lt _ (by decide)) (Nat.lt_of_lt_of_le hc (Nat.pow_le_pow_right (by decide) (by omega)));rw[up_or hn hc] at h;exact h
theorem up_sum {V P c X N o x c':Nat} (h:V+P*c=X*N) (hx:x*N+c=o+18446744073709551616*c'):(V+P*o)+P*18446744073709551616*c'=(X+P*x)*N:=by
 have e1:P*(x*N+c)=P*(o+18446744073709551616*c'):=by rw[hx]
 rw[Nat.mul_add,Nat.mul_add] at e1;rw[Nat.add_mul,<-h,Nat.mul_assoc P x N,Nat.mul_assoc P];omega
theorem Zgx.step {d us:List Nat} {n m i o:Nat} (h:Zgx d us n m i) (hn:n<64) (hd:∀e∈d,e<18446744073709551616) (hi:i<m) (ho:o=d.getD i 0*2^n%18446744073709551616+cr d n i):Zgx d (us.set i o) n m (i+1):=by
 have hc:=cr_lt (i:=i) hn hd;have hol:o<18446744073709551616:=by rw[ho];exact add_pow_lt hn hc
 have hlen:i<us.length:=by rw[h.len];exact hi
 have hle:=hi;have hr:=h.rest;refine⟨by rw[List.length_set];exact h.len,hle,?_,?_,Zb0 h.lt hol⟩;have hs:=h.sum;have e1:val W64 ((us.set i o).take (i+1))=val W64 (us.take i)+W64^i*o:=by rw[YW W64 _ i (by rw[List.length_set];exact hlen),Zej,YN hlen]
 have e2:val W64 (d.take (i+1))=val W64 (d.take i)+W64^i*d.getD i 0:=YX d i;have e3:cr d n (i+1)=d.getD i 0 / 2^(64 - n):=by unfold cr;rw[if_neg (by omega),Nat.add_sub_cancel]
 have e4:W64^(i+1)=W64^i*W64:=Nat.pow_succ _ _;rw[e1,e2,e3,e4];refine up_sum hs ?_;rw[ho];have:=shl_parts (x:=d.getD i 0) hn;omega;have h1:(us.set i o).drop (i+1)=us.drop (i+1):=by rw[List.drop_set_of_lt (by omega)]
 have h2:us.drop (i+1)=(us.drop i).drop 1:=by rw[List.drop_drop]
 rw[h1,h2,hr,List.drop_replicate];congr 1
theorem Zgx.done {d us:List Nat} {n m i:Nat} (h:Zgx d us n m i) (hi:¬i<m) (hm:d.length<=m):val W64 us+W64^m*cr d n m=val W64 d*2^n:=by
 have hle:=h.le;obtain rfl:i=m:=by omega
 have hs:=h.sum;rw[List.take_of_length_le (by rw[h.len];exact Nat.le_refl _),List.take_of_length_le hm] at hs;exact hs
end Go.Cham
namespace Go.Cham
open Go Go.RowKit
theorem ZX {P:Program} {Q:Exit->Act->World->Prop} {ops:Array Oper} {o:Oper} {rest:List Oper} {a:Act} {w:World} {n:Nat} {l:List (Nat × Value)} {d j e:Nat} {b:Bool} (hL:ZL a n l) (hg:o.guard=some (j,b)) (hj:(ops[j]?).bind (·.dst)=some e) (he:Zal l e=some undef) (hd:o.dst=some d)
    (hn:Nat.blt d n=true) (h:∀a',ZL a' n ((d,undef)::l)->XE P ops Q rest a' w):XE P ops Q (o::rest) a w:=by
 simp only[XE];rw[if_neg (by simp[Region.wanted,hg,yielded,hj,hL.at_ e _ he,undef])];rw[hd];exact h _ (hL.put (by simpa [Nat.blt_eq] using hn) undef)
theorem cr0 {d:List Nat} {n i:Nat} (hd:∀e∈d,e<18446744073709551616) (h:¬(0<i/\i<=d.length/\0<n)):cr d n i=0:=by
 unfold cr;by_cases h0:i=0;rw[if_pos h0];rw[if_neg h0];by_cases h1:d.length<i;rw[Zah (by omega),Nat.zero_div];have:n=0:=by omega
 subst this;exact Nat.div_eq_of_lt (ZS hd (by decide) _)
theorem up_or1 {d us:List Nat} {n i:Nat} (hn:n<64) (hd:∀e∈d,e<18446744073709551616) (hi:i<us.length) (h0:0<i):
    (us.set i (d.getD i 0*2^n%18446744073709551616)).getD i 0 |||d.getD (i - 1) 0 / 2^(64 - n)=d.getD i 0*2^n%18446744073709551616+cr d n i:=by
 have hc:=cr_lt (i:=i) hn hd;have e:d.getD (i - 1) 0 / 2^(64 - n)=cr d n i:=by unfold cr;rw[if_neg (by omega)]
 rw[YN hi,e,up_or hn hc]
theorem up_or0 {d us:List Nat} {n m i:Nat} (h:Zgx d us n m i) (hd:d.length<=i) (h0:0<i):
    us.getD i 0 |||d.getD (i - 1) 0 / 2^(64 - n)=d.getD i 0*2^n%18446744073709551616+cr d n i:=by
 have e:d.getD (i - 1) 0 / 2^(64 - n)=cr d n i:=by unfold cr;rw[if_neg (by omega)]
 have e2:us.getD i 0=0:=by
  have h1:us.getD i 0=(us.drop i).getD 0 0:=by simp[List.getD_eq_getElem?_getD]
  rw[h1,h.rest];simp[List.getD_eq_getElem?_getD,List.getElem?_replicate];split <;> simp
 rw[e,e2,Zah hd,Nat.zero_mul,Nat.zero_mod,Nat.zero_add,Nat.zero_or]
theorem Zgx.step' {d us us':List Nat} {n m i:Nat} (h:Zgx d us n m i) (hn:n<64) (hd:∀e∈d,e<18446744073709551616) (hi:i<m) (e:us'=us.set i (d.getD i 0*2^n%18446744073709551616+cr d n i)):Zgx d us' n m (i+1):=by
 subst e;exact h.step hn hd hi rfl
theorem Zct {d us:List Nat} {n i:Nat} (hd:∀e∈d,e<18446744073709551616) (h:¬(0<i/\i<=d.length/\0<n)):us.set i (d.getD i 0*2^n%18446744073709551616)=us.set i (d.getD i 0*2^n%18446744073709551616+cr d n i):=by rw[cr0 hd h];rfl
theorem Zcu {d us:List Nat} {n m i:Nat} (hI:Zgx d us n m i) (hi:i<m) (hd:∀e∈d,e<18446744073709551616) (hl:d.length<=i) (h:¬(0<i/\i<=d.length/\0<n)):us=us.set i (d.getD i 0*2^n%18446744073709551616+cr d n i):=by
 rw[cr0 hd h,Zah hl,Nat.zero_mul,Nat.zero_mod];have hlen:i<us.length:=by rw[hI.len];exact hi
 have h1:us.getD i 0=0:=by
  have h1:us.getD i 0=(us.drop i).getD 0 0:=by simp[List.getD_eq_getElem?_getD]
  rw[h1,hI.rest];simp[List.getD_eq_getElem?_getD,List.getElem?_replicate];split <;> simp
 rw[List.getD_eq_getElem?_getD,List.getElem?_eq_getElem hlen] at h1;simp only[Option.getD_some] at h1;apply List.ext_getElem;simp;intro k hk hk';rw[List.getElem_set];split;rename_i e;subst e;exact h1;rfl
structure Zdk (d us:List Nat) (n i:Nat):Prop where
  len:us.length=d.length
  le:i<=d.length
  sum:2^n*val W64 (us.take i)+d.getD 0 0%2^n=val W64 (d.take i)+W64^i*(d.getD i 0%2^n)
  lt:∀e∈us,e<18446744073709551616
theorem Zdk.start {d:List Nat} {n:Nat}:Zdk d (List.replicate d.length 0) n 0:=⟨by simp,by omega,by simp[val],by simp⟩
theorem div_pow_lt {x n:Nat} (hn:n<=64) (hx:x<18446744073709551616):x / 2^n<2^(64 - n):=by
 rw[Nat.div_lt_iff_lt_mul (Nat.two_pow_pos _),Nat.mul_comm,QE hn];exact hx
theorem down_mult {x n:Nat} (hn:n<=64):x*2^(64 - n)%18446744073709551616=2^(64 - n)*(x%2^n):=by
 have h1:=QE (s:=n) hn;rw[<-h1,Nat.mul_comm (2^n),Nat.mul_comm x,Nat.mul_mod_mul_left]
theorem down_or {x y n:Nat} (hn:n<=64) (hx:x<18446744073709551616):(x / 2^n) |||(y*2^(64 - n)%18446744073709551616)=x / 2^n+2^(64 - n)*(y%2^n):=by
 rw[down_mult hn,Nat.or_comm,or_sum (div_pow_lt hn hx),Nat.add_comm]
theorem down_sum {N V D P a b c o M x T:Nat} (h:N*V+a=D+P*b) (ho:o=x+T*c) (hx:N*x+b=M) (hT:N*T=18446744073709551616):N*(V+P*o)+a=(D+P*M)+P*18446744073709551616*c:=by
 have e1:P*(N*x+b)=P*M:=by rw[hx]
 have e2:N*(T*c)=18446744073709551616*c:=by rw[<-Nat.mul_assoc,hT]
 have e3:N*(P*o)=P*(N*x)+P*(N*(T*c)):=by rw[ho,<-Nat.mul_add,<-Nat.mul_add,Nat.mul_left_comm]
 rw[Nat.mul_add] at e1;rw[Nat.mul_add,e3,e2,Nat.mul_assoc P 18446744073709551616 c];omega
theorem Zdk.step {d us us':List Nat} {n i:Nat} (h:Zdk d us n i) (hn:n<64) (hd:∀e∈d,e<18446744073709551616) (hi:i<d.length) (e:us'=us.set i (d.getD i 0 / 2^n+2^(64 - n)*(d.getD (i+1) 0%2^n))):Zdk d us' n (i+1):=by
 subst e;have hlen:i<us.length:=by rw[h.len];exact hi
 have hle:=hi;have hol:d.getD i 0 / 2^n+2^(64 - n)*(d.getD (i+1) 0%2^n)<18446744073709551616:=by rw[<-down_or (by omega) (ZS hd (by decide) i)];exact Nat.or_lt_two_pow (n:=64) (Nat.lt_of_le_of_lt (Nat.div_le_self _ _) (ZS hd (by decide) i)) (Nat.mod_lt _ (by decide))
 refine⟨by rw[List.length_set];exact h.len,hle,?_,Zb0 h.lt hol⟩;have hs:=h.sum;have hp:W64^(i+1)=W64^i*18446744073709551616:=Nat.pow_succ _ _;rw[YW W64 _ i (by rw[List.length_set];exact hlen),Zej,YN hlen,YX d i,hp];exact down_sum hs rfl (Nat.div_add_mod _ _) (QE (by omega))
theorem down_case0 {d us:List Nat} {n i:Nat} (h:¬(i+1<d.length/\0<n)):us.set i (d.getD i 0 / 2^n)=us.set i (d.getD i 0 / 2^n+2^(64 - n)*(d.getD (i+1) 0%2^n)):=by
 have:d.getD (i+1) 0%2^n=0:=by
  by_cases h1:i+1<d.length;obtain rfl:n=0:=by omega
  exact Nat.mod_one _;rw[Zah (by omega),Nat.zero_mod]
 rw[this];rfl
theorem down_or1 {d us:List Nat} {n i:Nat} (hn:n<64) (hd:∀e∈d,e<18446744073709551616) (hi:i<us.length):
    (us.set i (d.getD i 0 / 2^n)).getD i 0 |||(d.getD (i+1) 0*2^(64 - n)%18446744073709551616)=d.getD i 0 / 2^n+2^(64 - n)*(d.getD (i+1) 0%2^n):=by
 rw[YN hi,down_or (by omega) (ZS hd (by decide) i)]
theorem Zdk.done {d us:List Nat} {n i:Nat} (h:Zdk d us n i) (hi:¬i<d.length):val W64 us=val W64 d / 2^n:=by
 have hle:=h.le;obtain rfl:i=d.length:=by omega
 have hs:=h.sum;rw[List.take_of_length_le (by rw[h.len];exact Nat.le_refl _),List.take_of_length_le (Nat.le_refl _),Zah (Nat.le_refl _),Nat.zero_mod,Nat.mul_zero,Nat.add_zero] at hs;have hp:=Nat.two_pow_pos n;rw[<-hs,Nat.mul_add_div hp,Nat.div_eq_of_lt (Nat.mod_lt _ hp)];rfl
structure Zfx (p v us:List Nat) (o d i c b:Nat):Prop where
  len:us.length=p.length
  lt:∀e∈us,e<18446744073709551616
  hc:c<18446744073709551616
  hb:b<=1
  cz:v.length<i->c=0
  sum:val W64 us+W64^o*(val W64 (v.take i)*d)=val W64 p+W64^(o+i)*(c+b)
  out:∀m,m<o\/o+i<=m->us.getD m 0=p.getD m 0
theorem Zfx.start {p v:List Nat} {o d:Nat} (h:∀e∈p,e<18446744073709551616):Zfx p v p o d 0 0 0:=⟨rfl,h,by decide,by decide,λ_=>rfl,by simp[val],λ_ _=>rfl⟩
theorem away_sum {A A' P u u' O X d C c b x l c' b' Y:Nat} (h1:A'+P*u=A+P*u') (h2:A+O*(X*d)=Y+P*(c+b)) (h3:x*d+c=l+18446744073709551616*c') (h4:u'+l+b=u+18446744073709551616*b') (hP:P=O*C):
    A'+O*((X+C*x)*d)=Y+P*18446744073709551616*(c'+b'):=by
 have e1:P*(x*d+c)=P*(l+18446744073709551616*c'):=by rw[h3]
 have e2:P*(u'+l+b)=P*(u+18446744073709551616*b'):=by rw[h4]
 have e3:O*((X+C*x)*d)=O*(X*d)+P*(x*d):=by rw[hP,Nat.add_mul,Nat.mul_add,Nat.mul_assoc,Nat.mul_assoc]
 have e4:P*18446744073709551616*(c'+b')=P*(18446744073709551616*c')+P*(18446744073709551616*b'):=by rw[Nat.mul_assoc,Nat.mul_add,Nat.mul_add]
 rw[Nat.mul_add] at h2 e1 e2;rw[Nat.mul_add] at e1 e2;rw[Nat.mul_add] at e2;rw[e3,e4];omega
theorem Zfx.step {p v us:List Nat} {o d i c b m:Nat} (h:Zfx p v us o d i c b) (hm:m=o+i) (hi:o+i<p.length) {l c' u' b':Nat} (h1:u'<18446744073709551616) (h2:c'<18446744073709551616) (h3:b'<=1)
    (h4:v.getD i 0*d+c=l+18446744073709551616*c') (h5:u'+l+b=us.getD m 0+18446744073709551616*b') (h6:v.length<i+1->c'=0):Zfx p v (us.set m u') o d (i+1) c' b':=by
 subst hm;refine⟨by rw[List.length_set];exact h.len,Zb0 h.lt h1,h2,h3,h6,?_,λk hk=>by rw[XB (by omega)];exact h.out k (by omega)⟩;have hv:=Zfj W64 us (o+i) u' (by rw[h.len];exact hi);have hs:=h.sum;have hp:W64^(o+(i+1))=W64^(o+i)*18446744073709551616:=Nat.pow_succ _ _;have hq:W64^(o+i)=W64^o*W64^i:=Nat.pow_add _ _ _;rw[YX v i,hp];exact away_sum hv hs h4 h5 hq
structure Zfw (p v us:List Nat) (o i c:Nat):Prop where
  len:us.length=p.length
  lt:∀e∈us,e<18446744073709551616
  hc:c<=1
  sum:val W64 us+W64^(o+i)*c=val W64 p+W64^o*val W64 (v.take i)
  out:∀m,m<o\/o+i<=m->us.getD m 0=p.getD m 0
theorem Zfw.start {p v:List Nat} {o:Nat} (h:∀e∈p,e<18446744073709551616):Zfw p v p o 0 0:=⟨rfl,h,by decide,by simp[val],λ_ _=>rfl⟩
theorem back_sum {A A' P u u' O X C c x c' Y:Nat} (h1:A'+P*u=A+P*u') (h2:A+P*c=Y+O*X) (h3:u'+18446744073709551616*c'=u+x+c) (hP:P=O*C):A'+P*18446744073709551616*c'=Y+O*(X+C*x):=by
 have e1:P*(u'+18446744073709551616*c')=P*(u+x+c):=by rw[h3]
 have e3:O*(X+C*x)=O*X+P*x:=by rw[hP,Nat.mul_add,Nat.mul_assoc]
 rw[Nat.mul_add,Nat.mul_add,Nat.mul_add] at e1;rw[e3,Nat.mul_assoc];omega
theorem Zfw.step {p v us:List Nat} {o i c m:Nat} (h:Zfw p v us o i c) (hm:m=o+i) (hi:o+i<p.length) {u' c':Nat} (h1:u'<18446744073709551616) (h2:c'<=1) (h3:u'+18446744073709551616*c'=us.getD m 0+v.getD i 0+c):Zfw p v (us.set m u') o (i+1) c':=by
 subst hm;refine⟨by rw[List.length_set];exact h.len,Zb0 h.lt h1,h2,?_,λk hk=>by rw[XB (by omega)];exact h.out k (by omega)⟩;have hv:=Zfj W64 us (o+i) u' (by rw[h.len];exact hi);have hs:=h.sum;have hp:W64^(o+(i+1))=W64^(o+i)*18446744073709551616:=Nat.pow_succ _ _;have hq:W64^(o+i)=W64^o*W64^i:=Nat.pow_add _ _ _;rw[YX v i,hp];exact back_sum hv hs h3 hq
structure Za5 (d us:List Nat) (dv k r:Nat):Prop where
  len:us.length=d.length
  le:k<=d.length
  lt:∀e∈us,e<18446744073709551616
  hr:r<dv
  low:us.take k=d.take k
  sum:val W64 (d.drop k)=val W64 (us.drop k)*dv+r
theorem Za5.start {d:List Nat} {dv:Nat} (h:∀e∈d,e<18446744073709551616) (h0:0<dv):Za5 d d dv d.length 0:=⟨rfl,Nat.le_refl _,h,h0,rfl,by simp[val]⟩
theorem short_sum {D U dv r x q r':Nat} (h:D=U*dv+r) (hq:q=(r*18446744073709551616+x) / dv) (hr:r'=(r*18446744073709551616+x)%dv):x+18446744073709551616*D=(q+18446744073709551616*U)*dv+r':=by
 have h1:=Nat.div_add_mod (r*18446744073709551616+x) dv;rw[<-hq,<-hr,Nat.mul_comm] at h1;rw[h,Nat.add_mul,Nat.mul_add,Nat.mul_assoc];omega
theorem Za5.step {d us:List Nat} {dv k r j:Nat} (h:Za5 d us dv k r) (hj:j=k - 1) (hk:0<k) {q r':Nat} (hq:q=(r*18446744073709551616+us.getD j 0) / dv) (hr:r'=(r*18446744073709551616+us.getD j 0)%dv) (hd:∀e∈d,e<18446744073709551616):Za5 d (us.set j q) dv (k - 1) r':=by
 subst hj;have hle:=h.le;have hlen:k - 1<us.length:=by rw[h.len];omega
 have e1:us.getD (k - 1) 0=d.getD (k - 1) 0:=by
  have h1:(us.take k).getD (k - 1) 0=us.getD (k - 1) 0:=by simp[List.getD_eq_getElem?_getD,List.getElem?_take,show k - 1<k by omega]
  have h2:(d.take k).getD (k - 1) 0=d.getD (k - 1) 0:=by simp[List.getD_eq_getElem?_getD,List.getElem?_take,show k - 1<k by omega]
  rw[<-h1,<-h2,h.low]
 have hdv:0<dv:=by have:=h.hr;omega
 have hql:q<18446744073709551616:=by rw[hq];refine Nat.div_lt_of_lt_mul ?_;have h1:=h.hr;have h2:=ZS h.lt (show 0<18446744073709551616 by decide) (k - 1);have h3:(r+1)*18446744073709551616<=dv*18446744073709551616:=Nat.mul_le_mul_right _ h1;omega
 refine⟨by rw[List.length_set];exact h.len,by omega,Zb0 h.lt hql,by rw[hr];exact Nat.mod_lt _ hdv,?_,?_⟩;rw[Zej];have h1:us.take (k - 1)=(us.take k).take (k - 1):=by rw[List.take_take,Nat.min_eq_left (by omega)]
 have h2:d.take (k - 1)=(d.take k).take (k - 1):=by rw[List.take_take,Nat.min_eq_left (by omega)]
 rw[h1,h2,h.low];have h1:(us.set (k - 1) q).drop (k - 1)=q::us.drop k:=by rw[Yv (by rw[List.length_set];exact hlen),YN hlen,show k - 1+1=k by omega,List.drop_set_of_lt (by omega)]
 have h2:d.drop (k - 1)=d.getD (k - 1) 0::d.drop k:=by rw[Yv (by omega),show k - 1+1=k by omega]
 rw[h1,h2];simp only[val];rw[e1] at hq hr;exact short_sum h.sum hq hr
theorem Za5.done {d us:List Nat} {dv r:Nat} (h:Za5 d us dv 0 r):val W64 us=val W64 d / dv/\r=val W64 d%dv:=by
 have hs:=h.sum;have hr:=h.hr;rw[List.drop_zero,List.drop_zero] at hs;rw[hs,Nat.mul_comm];constructor;rw[Nat.mul_add_div (by omega),Nat.div_eq_of_lt hr];rfl;rw[Nat.mul_add_mod,Nat.mod_eq_of_lt hr]
theorem sub_step {x l b:Nat} (hx:x<18446744073709551616) (hl:l<18446744073709551616) (hb:b<=1):(x+18446744073709551616 - l - b)%18446744073709551616+l+b=x+18446744073709551616*(if x<l+b then 1 else 0)/\(if x<l+b then 1 else 0)<=1:=by
 split <;> omega
end Go.Cham
namespace Go.Cham
open Go Go.RowKit Go.Proofs
theorem Yu:Zgv Tryz.prog 29=some false:=by kernel_rfl
theorem YS:Zgv Tryz.prog 30=some false:=by kernel_rfl
theorem ZK:Zgv Tryz.prog 32=some true:=by kernel_rfl
theorem ZE:YE Tryz.prog 29=some 1:=by kernel_rfl
theorem Zo:YE Tryz.prog 32=some 2:=by kernel_rfl
theorem Za4:Zap Tryz.prog 29=some 8:=by kernel_rfl
theorem QP:QJ Tryz.prog 29=some (.int .u64 (0:Int)):=by kernel_rfl
theorem ZZ:QJ Tryz.prog 32=some (.agg ([(.int .u64 (0:Int)),(.slice none 0 0)]:List Value).toArray):=by kernel_rfl
theorem Yl:QN Tryz.prog 32 0=some (0,29,1):=by kernel_rfl
theorem ZR:QN Tryz.prog 32 1=some (1,30,1):=by kernel_rfl
theorem Qi:Zek Tryz.prog 32=true:=by kernel_rfl
theorem mixed:Tryz.prog.follows .mixedOrders=true:=by kernel_rfl
theorem ent_77:ZT Tryz.prog 77=true:=by kernel_rfl
theorem Zfc:ZT Tryz.prog 98=true:=by kernel_rfl
theorem ent_133:ZT Tryz.prog 133=true:=by kernel_rfl
theorem ent_134:ZT Tryz.prog 134=true:=by kernel_rfl
theorem Zc7:ZT Tryz.prog 135=true:=by kernel_rfl
theorem ent_136:ZT Tryz.prog 136=true:=by kernel_rfl
theorem ent_139:ZT Tryz.prog 139=true:=by kernel_rfl
theorem Zeb:ZT Tryz.prog 140=true:=by kernel_rfl
theorem ent_150:ZT Tryz.prog 150=true:=by kernel_rfl
theorem ent_161:ZT Tryz.prog 161=true:=by kernel_rfl
theorem ent_162:ZT Tryz.prog 162=true:=by kernel_rfl
theorem ent_163:ZT Tryz.prog 163=true:=by kernel_rfl
theorem ent_164:ZT Tryz.prog 164=true:=by kernel_rfl
theorem ent_165:ZT Tryz.prog 165=true:=by kernel_rfl
theorem ent_166:ZT Tryz.prog 166=true:=by kernel_rfl
theorem ent_167:ZT Tryz.prog 167=true:=by kernel_rfl
end Go.Cham
namespace Go.Proofs
open Go.Shelf
def Tryz.lays160_ren:Go.Shelf.Ren:=⟨λ|160=>149|232=>172|231=>171|227=>173|234=>175|233=>174|236=>177|235=>176|228=>191|271=>194|151=>193|197=>192|120=>204|152=>203|260=>202|137=>206|119=>207|224=>189|225=>188|217=>187|266=>200|n=>n,λ|9=>9|4=>4|3=>3|5=>5|117=>207|116=>206|0=>0|124=>210|21=>21|105=>225|46=>194|119=>240|139=>243|138=>242|n=>n,λ|3=>3|4=>4|n=>n⟩
theorem Tryz.lays160:Go.Proofs.Lays.n160 Tryz.prog Tryz.lays160_ren:={
  mixed:=by kernel_rfl
  f119:=Tryz.func207.trans (congrArg some (by kernel_rfl))
  f120:=Tryz.func204.trans (congrArg some (by kernel_rfl))
  f137:=Tryz.func206.trans (congrArg some (by kernel_rfl))
  f151:=Tryz.func193.trans (congrArg some (by kernel_rfl))
  f152:=Tryz.func203.trans (congrArg some (by kernel_rfl))
  f160:=Tryz.func149.trans (congrArg some (by kernel_rfl))
  f197:=Tryz.func192.trans (congrArg some (by kernel_rfl))
  f217:=Tryz.func187.trans (congrArg some (by kernel_rfl))
  f224:=Tryz.func189.trans (congrArg some (by kernel_rfl))
  f225:=Tryz.func188.trans (congrArg some (by kernel_rfl))
  f227:=Tryz.func173.trans (congrArg some (by kernel_rfl))
  f228:=Tryz.func191.trans (congrArg some (by kernel_rfl))
  f231:=Tryz.func171.trans (congrArg some (by kernel_rfl))
  f232:=Tryz.func172.trans (congrArg some (by kernel_rfl))
  f233:=Tryz.func174.trans (congrArg some (by kernel_rfl))
  f234:=Tryz.func175.trans (congrArg some (by kernel_rfl))
  f235:=Tryz.func176.trans (congrArg some (by kernel_rfl))
  f236:=Tryz.func177.trans (congrArg some (by kernel_rfl))
  f260:=Tryz.func202.trans (congrArg some (by kernel_rfl))
  f266:=Tryz.func200.trans (congrArg some (by kernel_rfl))
  f271:=Tryz.func194.trans (congrArg some (by kernel_rfl))
  t0:=Tryz.underlying0
  a0:=Tryz.isAgg0
  z0:=Tryz.sizeOf0
  v0:=Tryz.zeroValue0
  t3:=Tryz.underlying3
  a3:=Tryz.isAgg3
  z3:=Tryz.sizeOf3
  v3:=Tryz.zeroValue3
  t4:=Tryz.underlying4
  a4:=Tryz.isAgg4
  z4:=Tryz.sizeOf4
  v4:=Tryz.zeroValue4
  t5:=Tryz.underlying5
  a5:=Tryz.isAgg5
  z5:=Tryz.sizeOf5
  v5:=Tryz.zeroValue5
  t9:=Tryz.underlying9
  a9:=Tryz.isAgg9
  z9:=Tryz.sizeOf9
  v9:=Tryz.zeroValue9
  t21:=Tryz.underlying21
  a21:=Tryz.isAgg21
  z21:=Tryz.sizeOf21
  v21:=Tryz.zeroValue21
  t46:=Tryz.underlying194
  a46:=Tryz.isAgg194
  z46:=Tryz.sizeOf194
  v46:=Tryz.zeroValue194
  t105:=Tryz.underlying225
  a105:=Tryz.isAgg225
  z105:=Tryz.sizeOf225
  v105:=Tryz.zeroValue225
  t116:=Tryz.underlying206
  a116:=Tryz.isAgg206
  z116:=Tryz.sizeOf206
  t117:=Tryz.underlying207
  a117:=Tryz.isAgg207
  z117:=Tryz.sizeOf207
  v117:=Tryz.zeroValue207
  t119:=Tryz.underlying240
  a119:=Tryz.isAgg240
  z119:=Tryz.sizeOf240
  t124:=Tryz.underlying210
  a124:=Tryz.isAgg210
  z124:=Tryz.sizeOf210
  v124:=Tryz.zeroValue210
  t138:=Tryz.underlying242
  a138:=Tryz.isAgg242
  z138:=Tryz.sizeOf242
  v138:=Tryz.zeroValue242
  t139:=Tryz.underlying243
  a139:=Tryz.isAgg243
  z139:=Tryz.sizeOf243
  v139:=Tryz.zeroValue243
  g3:=by kernel_rfl
  g4:=by kernel_rfl}
def Tryz.lays134_ren:Go.Shelf.Ren:=⟨λ|134=>162|129=>150|n=>n,λ|53=>29|3=>3|4=>4|46=>194|5=>5|9=>9|n=>n,λ|n=>n⟩
theorem Tryz.lays134:Go.Proofs.Lays.n134 Tryz.prog Tryz.lays134_ren:={
  mixed:=by kernel_rfl
  f129:=Tryz.func150.trans (congrArg some (by kernel_rfl))
  f134:=Tryz.func162.trans (congrArg some (by kernel_rfl))
  t3:=Tryz.underlying3
  a3:=Tryz.isAgg3
  z3:=Tryz.sizeOf3
  v3:=Tryz.zeroValue3
  t4:=Tryz.underlying4
  a4:=Tryz.isAgg4
  z4:=Tryz.sizeOf4
  v4:=Tryz.zeroValue4
  t5:=Tryz.underlying5
  a5:=Tryz.isAgg5
  z5:=Tryz.sizeOf5
  v5:=Tryz.zeroValue5
  t9:=Tryz.underlying9
  a9:=Tryz.isAgg9
  z9:=Tryz.sizeOf9
  v9:=Tryz.zeroValue9
  t46:=Tryz.underlying194
  a46:=Tryz.isAgg194
  z46:=Tryz.sizeOf194
  v46:=Tryz.zeroValue194
  t53:=Tryz.underlying29
  a53:=Tryz.isAgg29
  z53:=Tryz.sizeOf29
  v53:=Tryz.zeroValue29}
theorem Tryz.bits_LeadingZeros64 (x:Int) (w:World) (h0:0<=x) (h1:x<=18446744073709551615):
    Calls Tryz.prog 162 #[.int .u64 x] w λe w'=>e= .returned (.int .i64 (64 - (Lib.bitLen x.toNat:Int)))/\w'=w:=Any.bits_LeadingZeros64 Tryz.lays134 x w h0 h1
def Tryz.lays129_ren:Go.Shelf.Ren:=⟨λ|129=>150|n=>n,λ|53=>29|3=>3|4=>4|46=>194|5=>5|9=>9|n=>n,λ|n=>n⟩
theorem Tryz.lays129:Go.Proofs.Lays.n129 Tryz.prog Tryz.lays129_ren:={
  mixed:=by kernel_rfl
  f129:=Tryz.func150.trans (congrArg some (by kernel_rfl))
  t3:=Tryz.underlying3
  a3:=Tryz.isAgg3
  z3:=Tryz.sizeOf3
  v3:=Tryz.zeroValue3
  t4:=Tryz.underlying4
  a4:=Tryz.isAgg4
  z4:=Tryz.sizeOf4
  v4:=Tryz.zeroValue4
  t5:=Tryz.underlying5
  a5:=Tryz.isAgg5
  z5:=Tryz.sizeOf5
  v5:=Tryz.zeroValue5
  t9:=Tryz.underlying9
  a9:=Tryz.isAgg9
  z9:=Tryz.sizeOf9
  v9:=Tryz.zeroValue9
  t46:=Tryz.underlying194
  a46:=Tryz.isAgg194
  z46:=Tryz.sizeOf194
  v46:=Tryz.zeroValue194
  t53:=Tryz.underlying29
  a53:=Tryz.isAgg29
  z53:=Tryz.sizeOf29
  v53:=Tryz.zeroValue29}
theorem Tryz.bits_Len64 (x:Int) (w:World) (h0:0<=x) (h1:x<=18446744073709551615):
    Calls Tryz.prog 150 #[.int .u64 x] w λe w'=>e= .returned (.int .i64 (Lib.bitLen x.toNat))/\w'=w:=Any.bits_Len64 Tryz.lays129 x w h0 h1
def Tryz.lays219_ren:Go.Shelf.Ren:=⟨λ|219=>169|217=>187|225=>188|224=>189|267=>190|266=>200|314=>201|n=>n,λ|9=>9|3=>3|4=>4|5=>5|46=>194|146=>234|51=>163|n=>n,λ|1=>2|n=>n⟩
theorem Tryz.lays219:Go.Proofs.Lays.n219 Tryz.prog Tryz.lays219_ren:={
  mixed:=by kernel_rfl
  f217:=Tryz.func187.trans (congrArg some (by kernel_rfl))
  f219:=Tryz.func169.trans (congrArg some (by kernel_rfl))
  f224:=Tryz.func189.trans (congrArg some (by kernel_rfl))
  f225:=Tryz.func188.trans (congrArg some (by kernel_rfl))
  f266:=Tryz.func200.trans (congrArg some (by kernel_rfl))
  f267:=Tryz.func190.trans (congrArg some (by kernel_rfl))
  f314:=Tryz.func201.trans (congrArg some (by kernel_rfl))
  t3:=Tryz.underlying3
  a3:=Tryz.isAgg3
  z3:=Tryz.sizeOf3
  v3:=Tryz.zeroValue3
  t4:=Tryz.underlying4
  a4:=Tryz.isAgg4
  z4:=Tryz.sizeOf4
  v4:=Tryz.zeroValue4
  t5:=Tryz.underlying5
  a5:=Tryz.isAgg5
  z5:=Tryz.sizeOf5
  v5:=Tryz.zeroValue5
  t9:=Tryz.underlying9
  a9:=Tryz.isAgg9
  z9:=Tryz.sizeOf9
  v9:=Tryz.zeroValue9
  t46:=Tryz.underlying194
  a46:=Tryz.isAgg194
  z46:=Tryz.sizeOf194
  v46:=Tryz.zeroValue194
  t51:=Tryz.underlying163
  a51:=Tryz.isAgg163
  z51:=Tryz.sizeOf163
  v51:=Tryz.zeroValue163
  t146:=Tryz.underlying234
  a146:=Tryz.isAgg234
  z146:=Tryz.sizeOf234
  v146:=Tryz.zeroValue234
  g1:=by kernel_rfl}
theorem Tryz.stringslite_Index_one (s:ByteArray) (c:UInt8) (w:World):
    Calls Tryz.prog 169 #[.string s,.string ⟨#[c]⟩] w λe w'=>e= .returned (.int .i64 (Lib.indexByte s.data.toList c))/\w'=w:=Any.stringslite_Index_one Tryz.lays219 s c w
def Tryz.lays101_ren:Go.Shelf.Ren:=⟨λ|101=>95|208=>148|206=>170|n=>n,λ|9=>9|4=>4|3=>3|n=>n,λ|n=>n⟩
theorem Tryz.lays101:Go.Proofs.Lays.n101 Tryz.prog Tryz.lays101_ren:={
  mixed:=by kernel_rfl
  f101:=Tryz.func95.trans (congrArg some (by kernel_rfl))
  f206:=Tryz.func170.trans (congrArg some (by kernel_rfl))
  f208:=Tryz.func148.trans (congrArg some (by kernel_rfl))
  t3:=Tryz.underlying3
  a3:=Tryz.isAgg3
  z3:=Tryz.sizeOf3
  v3:=Tryz.zeroValue3
  t4:=Tryz.underlying4
  a4:=Tryz.isAgg4
  z4:=Tryz.sizeOf4
  v4:=Tryz.zeroValue4
  t9:=Tryz.underlying9
  a9:=Tryz.isAgg9
  z9:=Tryz.sizeOf9
  v9:=Tryz.zeroValue9}
theorem Tryz.strings_TrimPrefix (s p:ByteArray) (w:World):
    Calls Tryz.prog 95 #[.string s,.string p] w λe w'=>e= .returned (.string ⟨(Lib.trimPrefix s.data.toList p.data.toList).toArray⟩)/\w'=w:=Any.strings_TrimPrefix Tryz.lays101 s p w
def Tryz.lays264_ren:Go.Shelf.Ren:=⟨λ|264=>139|n=>n,λ|53=>29|46=>194|n=>n,λ|n=>n⟩
theorem Tryz.lays264:Go.Proofs.Lays.n264 Tryz.prog Tryz.lays264_ren:={
  mixed:=by kernel_rfl
  f264:=Tryz.func139.trans (congrArg some (by kernel_rfl))
  t46:=Tryz.underlying194
  a46:=Tryz.isAgg194
  z46:=Tryz.sizeOf194
  v46:=Tryz.zeroValue194
  t53:=Tryz.underlying29
  a53:=Tryz.isAgg29
  z53:=Tryz.sizeOf29
  v53:=Tryz.zeroValue29}
theorem Tryz.bits_Mul64 (x y:Nat) (hx:x<18446744073709551616) (hy:y<18446744073709551616) (w:World):
    Calls Tryz.prog 139 #[.int .u64 x,.int .u64 y] w λe w'=>e= .returned (.tuple #[.int .u64 ((x*y / 18446744073709551616:Nat):Int),.int .u64 ((x*y%18446744073709551616:Nat):Int)])/\w'=w:=Any.bits_Mul64 Tryz.lays264 x y hx hy w
open Go.RowKit Go.Lib in
theorem Tryz.strings_Trim_digits (s:ByteArray) (w:World) (hs:s.size<=9223372036854775807):
    Calls Tryz.prog 149 #[.string s,.string ⟨#[48,49,50,51,52,53,54,55,56,57]⟩] w λe w'=>e= .returned (.string ⟨(Lib.trimS s.data.toList [48,49,50,51,52,53,54,55,56,57]).toArray⟩)/\Below w.heap.size w w':=
  Any.strings_Trim_laid Tryz.lays160 (by kernel_rfl) s ⟨#[48,49,50,51,52,53,54,55,56,57]⟩ w hs (by decide) (ascii_of_all (by decide))
end Go.Proofs
namespace Go.Cham
open Go Go.RowKit Go.Proofs
theorem run_add64_0 (x y:Nat) (w:World):(callFunc 141 #[.int .u64 (x:Int),.int .u64 (y:Int),.int .u64 (0:Int)]).run Tryz.prog w=
    .ok (.value (.tuple #[.int .u64 (((x+y+0)%18446744073709551616:Nat):Int),.int .u64 (((x+y+0) / 18446744073709551616:Nat):Int)])) w:=by kernel_rfl
theorem run_add64_1 (x y:Nat) (w:World):(callFunc 141 #[.int .u64 (x:Int),.int .u64 (y:Int),.int .u64 (1:Int)]).run Tryz.prog w=
    .ok (.value (.tuple #[.int .u64 (((x+y+1)%18446744073709551616:Nat):Int),.int .u64 (((x+y+1) / 18446744073709551616:Nat):Int)])) w:=by kernel_rfl
theorem run_sub64_0 (x y:Nat) (w:World):(callFunc 168 #[.int .u64 (x:Int),.int .u64 (y:Int),.int .u64 (0:Int)]).run Tryz.prog w=
    .ok (.value (.tuple #[.int .u64 (((x+18446744073709551616 - y - 0)%18446744073709551616:Nat):Int),.int .u64 ((if x<y+0 then 1 else 0:Nat):Int)])) w:=by kernel_rfl
theorem run_sub64_1 (x y:Nat) (w:World):(callFunc 168 #[.int .u64 (x:Int),.int .u64 (y:Int),.int .u64 (1:Int)]).run Tryz.prog w=
    .ok (.value (.tuple #[.int .u64 (((x+18446744073709551616 - y - 1)%18446744073709551616:Nat):Int),.int .u64 ((if x<y+1 then 1 else 0:Nat):Int)])) w:=by kernel_rfl
def add64V (x y c:Nat):Value:=.tuple [.int .u64 (((x+y+c)%18446744073709551616:Nat):Int),.int .u64 (((x+y+c) / 18446744073709551616:Nat):Int)].toArray
def sub64V (x y c:Nat):Value:=.tuple [.int .u64 (((x+18446744073709551616 - y - c)%18446744073709551616:Nat):Int),.int .u64 ((if x<y+c then 1 else 0:Nat):Int)].toArray
theorem run_add64 (x y c:Nat) (hc:c<=1) (w:World):(callFunc 141 [.int .u64 (x:Int),.int .u64 (y:Int),.int .u64 (c:Int)].toArray).run Tryz.prog w= .ok (.value (add64V x y c)) w:=by
 unfold add64V
 match c,hc with
 |0,_=>exact run_add64_0 x y w
 |1,_=>exact run_add64_1 x y w
theorem run_sub64 (x y c:Nat) (hc:c<=1) (w:World):(callFunc 168 [.int .u64 (x:Int),.int .u64 (y:Int),.int .u64 (c:Int)].toArray).run Tryz.prog w= .ok (.value (sub64V x y c)) w:=by
 unfold sub64V
 match c,hc with
 |0,_=>exact run_sub64_0 x y w
 |1,_=>exact run_sub64_1 x y w
section
variable {a : Act} {w : World} {n : Nat} {l : List (Nat × Value)} {K : Value → World → Prop}
variable {d : Option Tmp} {ty : TypeId} {pos : String} {af : Array Edge} {g : Option (Nat × Bool)}
theorem exec_callX {P:Program} {f:FuncId} {xs:Array Operand} {ts:Array TypeId} {vs:List Value} {v:Value} (hL:ZL a n l) (hv:evs l xs.toList=some vs) (h:(callFunc f vs.toArray).run P w= .ok (.value v) w):
    (execOp a.eval ⟨d,.call ⟨.value (.func f),xs,ts⟩,ty,pos,af,g⟩).run P w= .ok (.value v) w:=by
 have e1:xs.map a.eval=vs.toArray:=by rw[<-hL.evs hv,<-Array.toList_map]
 simp only[execOp,resolve,e1,Act.eval,Deferred.ofValue,ZF,invoke];simpa using h
theorem does_callX {P:Program} {f:FuncId} {xs:Array Operand} {ts:Array TypeId} {vs:List Value} {v:Value} (hL:ZL a n l) (hv:evs l xs.toList=some vs) (h:(callFunc f vs.toArray).run P w= .ok (.value v) w) (k:K v w):
    YY P ⟨d,.call ⟨.value (.func f),xs,ts⟩,ty,pos,af,g⟩ a w K:=Zw (exec_callX hL hv h) k
set_option maxRecDepth 100000 in
theorem YU {xs:Array Operand} {ts:Array TypeId} {x y c:Nat} (hL:ZL a n l) (hv:evs l xs.toList=some [.int .u64 (x:Int),.int .u64 (y:Int),.int .u64 (c:Int)]) (hc:c<=1)
    (k:K (add64V x y c) w):YY Tryz.prog ⟨d,.call ⟨.value (.func 141),xs,ts⟩,ty,pos,af,g⟩ a w K:=
  does_callX hL hv (run_add64 x y c hc w) k
set_option maxRecDepth 100000 in
theorem Ze1 {xs:Array Operand} {ts:Array TypeId} {x y c:Nat} (hL:ZL a n l) (hv:evs l xs.toList=some [.int .u64 (x:Int),.int .u64 (y:Int),.int .u64 (c:Int)]) (hc:c<=1)
    (k:K (sub64V x y c) w):YY Tryz.prog ⟨d,.call ⟨.value (.func 168),xs,ts⟩,ty,pos,af,g⟩ a w K:=
  does_callX hL hv (run_sub64 x y c hc w) k
end
theorem Zbg {P:Program} {f:FuncId} {args:Array Value} {S:Sh} {w:World} {v:Value} (hS:ZU S w) (h:Calls P f args w λe w'=>e= .returned v/\w'=w):Calls P f args w (Ret S w (λ_ u=>u=v)):=
  h.mono λe w' ⟨he,hw⟩=>⟨v,S,he,by subst hw;exact .refl hS,rfl⟩
theorem Ext.drewN {S:Sh} {w:World} (hS:ZU S w) (n:Nat):Ext S w S (w.drewN n):=
  ⟨.refl S,hS,λ_ o hb=>.inl ⟨o,hb⟩,⟨rfl,rfl,rfl,Nat.le_refl _,λ_ _=>rfl⟩⟩
theorem bits_Len64R {S:Sh} {w:World} (hS:ZU S w) {x:Nat} (hx:x<18446744073709551616):Calls Tryz.prog 150 [.int .u64 ((x:Nat):Int)].toArray w (Ret S w (λ_ v=>v= .int .i64 ((Zs x:Nat):Int))):=by
 have:=Tryz.bits_Len64 (x:Int) w (by omega) (by omega);rw[Int.toNat_natCast,bitLen_eq hx] at this;exact Zbg hS this
theorem Ze7 {S:Sh} {w:World} (hS:ZU S w) {x:Nat} (hx:x<18446744073709551616):Calls Tryz.prog 162 [.int .u64 ((x:Nat):Int)].toArray w (Ret S w (λ_ v=>v= .int .i64 (64 - ((Zs x:Nat):Int)))):=by
 have:=Tryz.bits_LeadingZeros64 (x:Int) w (by omega) (by omega);rw[Int.toNat_natCast,bitLen_eq hx] at this;exact Zbg hS this
theorem Zac {S:Sh} {w:World} (hS:ZU S w) {x y:Nat} (hx:x<18446744073709551616) (hy:y<18446744073709551616):Calls Tryz.prog 139 [.int .u64 ((x:Nat):Int),.int .u64 ((y:Nat):Int)].toArray w
    (Ret S w (λ_ v=>v= .tuple [.int .u64 ((x*y / 18446744073709551616:Nat):Int),.int .u64 ((x*y%18446744073709551616:Nat):Int)].toArray)):=
  Zbg hS (Tryz.bits_Mul64 x y hx hy w)
end Go.Cham
namespace Go.Cham
open Go Go.RowKit
section
variable {P : Program} {a : Act} {w : World} {n : Nat} {l : List (Nat × Value)} {K : Value → World → Prop}
variable {d : Option Tmp} {ty : TypeId} {pos : String} {af : Array Edge} {g : Option (Nat × Bool)}
theorem does_appendNil {x y:Operand} {t e:TypeId} {len cap2:Nat} {p:Option Addr} {ds:List Nat} {S0 S:Sh} {w0:World} {H:Own} (hL:ZL a n l) (hx:ev l x=some (.slice none 0 0)) (hy:ev l y=some (.slice p len cap2))
    (ht:P.underlying t=some (.slice e)) (hZ:YE P e=some 1) (hB:Zap P e=some 8) (hz:QJ P e=some (.int .u64 0)) (he:e=tU64) (hR:Run S0 w0 S H w) (hD:Dg S p len cap2 ds) (h0:0<len) (hlim:len<=1099511627776)
    (k:∀b cap rest w',len<=cap->Run S0 w0 S ((b,tU64,Yw ds++rest)::H) w'->K (.slice (some ⟨b,0,none⟩) len cap) w'):YY P ⟨d,.call ⟨.builtin .append,#[x,y],#[t,t]⟩,ty,pos,af,g⟩ a w K:=by
 subst he
 obtain⟨i,hi,hs,hz',hb⟩:∃i,P.info? tU64=some i/\i.size=1/\i.zero=some (.int .u64 0)/\i.bytes=8:=by
   unfold YE at hZ
   unfold Zap at hB
   unfold QJ at hz
   cases hi:P.info? tU64 with
   |none=>rw[hi] at hZ;simp at hZ
   |some i=>rw[hi] at hZ hB hz;exact⟨i,rfl,by simpa using hZ,by simpa using hz,by simpa using hB⟩
 obtain⟨b2,rest2,rfl,r⟩:=hD.row h0
 have hrun:=run_append_nil (P:=P) w t ty tU64 i (.int .u64 0) ht hi hz' ⟨b2,0,none⟩ len cap2 (Yw ds) (by rw[ZM,hs,Nat.mul_one];exact hD.hlen) (λj v hv=>by
     have hc:=(hR.row r).cell j
     have e1:(⟨b2,0,none⟩:Addr).add j=⟨b2,j,none⟩:=by rw[Addr.add_lit,Nat.zero_add]
     rw [e1, hc, List.getElem?_append_left (by rcases Nat.lt_or_ge j (Yw ds).length with h|h
                                               · exact h
                                               · rw[List.getElem?_eq_none h] at hv;cases hv)]
     exact hv) h0 (by omega) (by rw[hb];omega)
 have hge:=grownCap_ge w len 0 tU64;generalize grownCap w len 0 tU64=cap at hrun hge;have hR1:Run S0 w0 S H w.drew:=hR.call (Ext.drewN hR.holds 1);obtain⟨rest,hrest⟩:∃rest,(Builtin.zeroCells (Value.int .u64 0).cells (cap - len))=(rest:List Value).toArray:=⟨_,(Array.toArray_toList).symm⟩;have hR2:=hR1.newOwn tU64 (Yw ds++rest);have ec:((Yw ds).toArray++Builtin.zeroCells (Value.int .u64 0).cells (cap - len))=(Yw ds++rest).toArray:=by rw[hrest];simp
 rw[ec] at hrun;refine Zw (v:=.slice (some ⟨w.heap.size,0,none⟩) len cap) (w':=XH w.drew (.cells (Yw ds++rest).toArray tU64)) ?_ (k _ _ _ _ hge hR2);rw[Xx];simp only[List.map_toArray,List.map_cons,List.map_nil,hL.ev hx,hL.ev hy];show Sem.run P (do let v <-Builtin.append_ #[t,t] ty #[.slice none 0 0,.slice (some ⟨b2,0,none⟩) len cap2];(pure (Next.value v):Sem Next)) w=_;rw[Zg hrun];rfl
end
theorem does_sliceFull {P:Program} {a:Act} {w:World} {n:Nat} {l:List (Nat × Value)} {K:Value->World->Prop} {d:Option Tmp} {ty:TypeId} {pos:String} {af:Array Edge} {g:Option (Nat × Bool)}
    {t e:TypeId} {x u y z:Operand} {b off len cap h i off' len':Nat} {k0 k1 k2:IntKind} {vh vi vj:Int} (hL:ZL a n l) (hx:ev l x=some (.slice (some ⟨b,off,none⟩) len cap)) (hu:ev l u=some (.int k0 vh)) (hy:ev l y=some (.int k1 vi)) (hz:ev l z=some (.int k2 vj)) (ht:P.underlying t=some (.slice e)) (hZ:YE P e=some 1)
    (eh:vh=(h:Int)) (ei:vi=(i:Int)) (ej:vj=(i:Int)) (h1:h<i) (h2:i<=cap) (eo:off+h=off') (el:i - h=len') (k:K (.slice (some ⟨b,off',none⟩) len' len') w):YY P ⟨d,.slice t x (some u) (some y) (some z),ty,pos,af,g⟩ a w K:=by
 subst eh ei ej eo el;refine Zw (v:=.slice (some ⟨b,off+h,none⟩) (i - h) (i - h)) ?_ k;simp only[execOp,hL.ev hx,Option.map_some,hL.ev hu,hL.ev hy,hL.ev hz,Instr.sliceAt];rw[Zg (w':=w) (a:=(.slice (some ⟨b,off+h,none⟩) (i - h) (i - h):Value))];rfl;rw[Zg (Zr ht)];simp only[Instr.slice];rw[Zg (Zr ht)];simp only[Instr.sliceBounds]
 rw[Zg (w':=w) (a:=(h,i,i)) (by
   rw[Zg (Yq rfl h2),Zg (Yq rfl (Nat.le_refl _)),Zg (Yq rfl (Nat.le_of_lt h1))];rfl)]
 simp only[];rw[Zg (Ys hZ)];simp only[Nat.mul_one];rw[if_neg (by omega)];simp only[Option.map_some,Qu];rfl
theorem knuth {R T D P V pl vl g K:Nat} (hP:P=T*R+pl) (hpl:pl<R) (hV:V=D*R+vl) (hvl:vl<R) (hD:K<=D) (hPV:P<K*V) (hg:g<K) (h1:g*D<=T) (h2:T<(g+1)*D\/g+1=K):P<(g+1)*V/\g*V<=P+V:=by
 constructor;rcases h2 with h2|h2;have e1:(T+1)*R<=((g+1)*D)*R:=Nat.mul_le_mul_right R h2;have e2:(g+1)*V=((g+1)*D)*R+(g+1)*vl:=by rw[hV,Nat.mul_add,Nat.mul_assoc]
 rw[Nat.add_mul,Nat.one_mul] at e1;omega;rw[h2];exact hPV;have e1:g*D*R<=T*R:=Nat.mul_le_mul_right R h1;have e2:g*V=g*D*R+g*vl:=by rw[hV,Nat.mul_add,Nat.mul_assoc]
 have e3:g*vl<=D*R:=Nat.mul_le_mul (by omega) (by omega);omega
theorem knuth_x {R x y z v wl P V pl vl K:Nat} (hP:P=((x*K+y)*K+z)*R+pl) (hV:V=(v*K+wl)*R+vl) (hvl:vl<R) (hw:wl<K) (hPV:P<K*V):x<=v:=by
 rcases Nat.lt_or_ge v x with h|h;exfalso;have h1:V<=(v+1)*K*R:=by have:(v*K+wl+1)*R<=((v+1)*K)*R:=Nat.mul_le_mul_right R (by rw[Nat.add_mul,Nat.one_mul];omega);rw[Nat.add_mul (v*K+wl) 1 R,Nat.one_mul] at this;omega
 have h2:K*V<=K*((v+1)*K*R):=Nat.mul_le_mul_left K h1
 have h3:((v+1)*K*K)*R<=((x*K+y)*K+z)*R:=Nat.mul_le_mul_right R (by
   have:(v+1)*K<=x*K:=Nat.mul_le_mul_right K h
   have:=Nat.mul_le_mul_right K this
   rw[Nat.add_mul (x*K) y K]
   omega)
 have h4:K*((v+1)*K*R)=(v+1)*K*K*R:=by rw[<-Nat.mul_assoc,Nat.mul_comm K,Nat.mul_assoc ((v+1)*K) K R]
 omega;exact h
structure Zau (V:Nat) (u0 us os:List Nat) (n k:Nat):Prop where
  lu:us.length=u0.length
  lo:us.length=os.length+n
  ltu:∀e∈us,e<18446744073709551616
  lto:∀e∈os,e<18446744073709551616
  le:k<=os.length
  sum:val W64 u0=val W64 us+val W64 os*V
  bd:val W64 us<W64^k*V
  z:∀j,j<k->os.getD j 0=0
theorem rep_getD (m j:Nat):(List.replicate m 0).getD j 0=0:=by simp[List.getD_eq_getElem?_getD,List.getElem?_replicate];split <;> simp
theorem Zau.start {V n m:Nat} {u0:List Nat} (hm:u0.length=m+n) (hl:∀e∈u0,e<18446744073709551616) (hb:val W64 u0<W64^m*V):Zau V u0 u0 (List.replicate m 0) n m:=
  ⟨rfl,by rw[List.length_replicate];exact hm,hl,by simp,by simp,by rw[val_rep0,Nat.zero_mul];rfl,hb,λj _=>rep_getD m j⟩
theorem drop_val0 {us:List Nat} {N:Nat} (h:val W64 us<W64^N) (hN:N<=us.length):val W64 (us.drop N)=0:=by
 have h1:=XF W64 us N hN;rcases Nat.eq_zero_or_pos (val W64 (us.drop N)) with h2|h2;exact h2;have h3:W64^N*1<=W64^N*val W64 (us.drop N):=Nat.mul_le_mul_left _ h2;rw[Nat.mul_one] at h3;generalize W64^N*val W64 (us.drop N)=A at*;generalize W64^N=B at*;omega
theorem pow_V {V n k:Nat} (hV:V<W64^n) {x:Nat} (hx:x<W64^k*V):x<W64^(k+n):=by
 rw[Nat.pow_add];exact Nat.lt_of_lt_of_le hx (Nat.mul_le_mul_left _ (Nat.le_of_lt hV))
structure LongTop (V:Nat) (us:List Nat) (n k P low pl:Nat):Prop where
  e:val W64 us=low+W64^(k - 1)*P
  hlow:low<W64^(k - 1)
  hP:P<18446744073709551616*V
  eP:P=((us.getD (k - 1+n) 0*18446744073709551616+us.getD (k - 1+(n - 1)) 0)*18446744073709551616+us.getD (k - 1+(n - 2)) 0)*W64^(n - 2)+pl
  hpl:pl<W64^(n - 2)
theorem Zcs (d:Nat) (r:List Nat):val W64 (d::r)=d+18446744073709551616*val W64 r:=rfl
theorem top_arith {pl R x y z M:Nat}:pl+R*(z+M*(y+M*(x+M*0)))=((x*M+y)*M+z)*R+pl:=by
 rw[Nat.mul_zero,Nat.add_zero,Nat.mul_comm M x,Nat.add_comm y,Nat.mul_comm M (x*M+y),Nat.add_comm z,Nat.mul_comm R,Nat.add_comm]
theorem Zau.top {V n k:Nat} {u0 us os:List Nat} (h:Zau V u0 us os n k) (hk:0<k) (hn:2<=n) (hV:V<W64^n):∃P low pl,LongTop V us n k P low pl:=by
 have hle:=h.le;have hlo:=h.lo;have hj:k - 1+n<us.length:=by omega
 have e1:=XF W64 us (k - 1) (by omega);have hb:=h.bd;have hbig:val W64 us<W64^(k - 1+n+1):=by have:=pow_V hV hb;rwa [show k+n=k - 1+n+1 by omega] at this
 have hz:=drop_val0 hbig hj;have e2:=XF W64 (us.drop (k - 1)) (n - 2) (by rw[List.length_drop];omega);rw[List.drop_drop] at e2;have d0:us.drop (k - 1+(n - 2))=us.getD (k - 1+(n - 2)) 0::us.getD (k - 1+(n - 1)) 0::us.getD (k - 1+n) 0::us.drop (k - 1+n+1):=by rw[Yv (n:=k - 1+(n - 2)) (by omega),show k - 1+(n - 2)+1=k - 1+(n - 1) by omega,Yv (n:=k - 1+(n - 1)) (by omega),show k - 1+(n - 1)+1=k - 1+n by omega,Yv (n:=k - 1+n) (by omega)]
 rw[d0,Zcs,Zcs,Zcs,hz,top_arith] at e2;have hl1:=Zdw (B:=W64) (by decide) h.ltu (k - 1) (by omega);have hl2:=Zdw (B:=W64) (ds:=us.drop (k - 1)) (by decide) (λe he=>h.ltu e (List.mem_of_mem_drop he)) (n - 2) (by rw[List.length_drop];omega);refine⟨val W64 (us.drop (k - 1)),val W64 (us.take (k - 1)),_,e1,hl1,?_,e2,hl2⟩;have e4:W64^k=W64^(k - 1)*18446744073709551616:=by have:W64^(k - 1+1)=W64^(k - 1)*18446744073709551616:=Nat.pow_succ _ _;rwa [show k - 1+1=k by omega] at this
 rw[e4,Nat.mul_assoc] at hb;have h5:W64^(k - 1)*val W64 (us.drop (k - 1))<W64^(k - 1)*(18446744073709551616*V):=Nat.lt_of_le_of_lt (by rw[e1];exact Nat.le_add_left _ _) hb;exact Nat.lt_of_mul_lt_mul_left h5
theorem same_drop {us vs:List Nat} {N:Nat} (hl:us.length=vs.length) (h:∀m,N<=m->us.getD m 0=vs.getD m 0):us.drop N=vs.drop N:=by
 apply List.ext_getElem;simp[hl];intro i h1 h2;rw[List.getElem_drop,List.getElem_drop];have h3:N+i<us.length:=by simp at h1;omega
 have h4:N+i<vs.length:=by omega
 have h5:=h (N+i) (by omega);rw[List.getD_eq_getElem?_getD,List.getD_eq_getElem?_getD,List.getElem?_eq_getElem h3,List.getElem?_eq_getElem h4] at h5;simpa using h5
theorem top_lt' {us vs:List Nat} {N:Nat} (hv:val W64 vs<W64^N) (hl:us.length=vs.length) (hN:N<=us.length) (h:∀m,N<=m->us.getD m 0=vs.getD m 0) (ht:∀e∈us,e<18446744073709551616):val W64 us<W64^N:=by
 have e:=XF W64 us N hN;rw[same_drop hl h,drop_val0 hv (by omega),Nat.mul_zero,Nat.add_zero] at e;rw[e];exact Zdw (by decide) ht N hN
theorem long0 {A A1 O V P low g N:Nat} (hA:A=low+O*P) (hlow:low<O) (h1:A1+O*(V*g)=A+N*0) (h2:P<(g+1)*V):A=A1+O*(V*g)/\A1<O*V:=by
 have e1:O*(P+1)<=O*((g+1)*V):=Nat.mul_le_mul_left O h2;have e2:O*((g+1)*V)=O*(V*g)+O*V:=by rw[Nat.add_mul,Nat.one_mul,Nat.mul_add,Nat.mul_comm g V]
 rw[Nat.mul_add,Nat.mul_one] at e1;rw[Nat.mul_zero,Nat.add_zero] at h1;omega
theorem long1 {A A1 A2 O V P low g N cy:Nat} (hA:A=low+O*P) (h1:A1+O*(V*g)=A+N) (hA1:A1<N) (h2:g*V<=P+V) (h3:A2+N*cy=A1+O*V) (hA2:A2<N) (hcy:cy<=1):
    0<g/\A=A2+O*(V*(g - 1))/\A2<O*V:=by
 have h0:0<g:=by rcases Nat.eq_zero_or_pos g with e|e;subst e;rw[Nat.mul_zero,Nat.mul_zero] at h1;omega;exact e
 obtain⟨p,rfl⟩:∃p,g=p+1:=⟨g - 1,by omega⟩;rw[Nat.add_sub_cancel];have e0:p*V<=P:=by rw[Nat.add_mul,Nat.one_mul] at h2;omega
 have e1:O*(p*V)<=O*P:=Nat.mul_le_mul_left O e0;have e2:O*(V*(p+1))=O*(V*p)+O*V:=by rw[Nat.mul_add V,Nat.mul_one,Nat.mul_add]
 rw[Nat.mul_comm p V] at e1;have hc:cy=1:=by
  rcases Nat.lt_or_ge 0 cy with h|h;omega;have:cy=0:=by omega
  subst this;rw[Nat.mul_zero] at h3;omega
 subst hc;rw[Nat.mul_one] at h3;refine⟨h0,?_,?_⟩ <;> omega
theorem Zau.next {V n k dg:Nat} {u0 us us' os:List Nat} (h:Zau V u0 us os n k) (hk:0<k) (hl:us'.length=us.length) (ht:∀e∈us',e<18446744073709551616) (hdg:dg<18446744073709551616)
    (he:val W64 us=val W64 us'+W64^(k - 1)*(V*dg)) (hb:val W64 us'<W64^(k - 1)*V):Zau V u0 us' (os.set (k - 1) dg) n (k - 1):=by
 have hle:=h.le;refine⟨by rw[hl];exact h.lu,by rw[hl,List.length_set];exact h.lo,ht,Zb0 h.lto hdg,by rw[List.length_set];omega,?_,hb,λj hj=>by rw[XB (by omega)];exact h.z j (by omega)⟩;have hv:=Zfj W64 os (k - 1) dg (by omega);rw[h.z (k - 1) (by omega),Nat.mul_zero,Nat.add_zero] at hv;rw[h.sum,he,hv,Nat.add_mul,Nat.mul_assoc,Nat.mul_comm dg V,Nat.add_assoc,Nat.add_comm (W64^(k - 1)*(V*dg))]
theorem Zau.done {V n:Nat} {u0 us os:List Nat} (h:Zau V u0 us os n 0):val W64 u0=val W64 us+val W64 os*V/\val W64 us<V:=by
 refine⟨h.sum,?_⟩;have:=h.bd;rwa [Nat.pow_zero,Nat.one_mul] at this
theorem long_done {a b p U R Q:Nat} (hb:0<b) (hp:0<p) (hU:U=a*p) (hs:U=R+Q*(b*p)) (hR:R<b*p):Q=a / b/\R / p=a%b:=by
 refine div_fin (p:=p) ?_ hp hR hb;rw[<-hU,hs,Nat.mul_assoc]
theorem long_pos {A A1 O V g N:Nat} (h1:A1+O*(V*g)=A+N) (h2:A1<N):0<g:=by
 rcases Nat.eq_zero_or_pos g with e|e;subst e;rw[Nat.mul_zero,Nat.mul_zero] at h1;omega;exact e
theorem Qg {n:Nat}:Zs n=0↔n=0:=by
 unfold Zs;split;rename_i h;simp[h];rename_i h;constructor;intro h2;omega;intro h2;exact absurd h2 h
theorem lz {y:Nat} (h0:y≠0) (hy:y<18446744073709551616):64 - Zs y<64/\y*2^(64 - Zs y)<18446744073709551616:=by
 have hb:=Zbs h0;have h1:=Zfv hy;have h2:=Zcm h0;refine⟨by omega,?_⟩;have hps:=QE (s:=64 - Zs y) (by omega);rw[show 64 - (64 - Zs y)=Zs y by omega] at hps;rw[<-hps,Nat.mul_comm];exact Nat.mul_lt_mul_of_pos_left hb.2 (Nat.two_pow_pos _)
theorem cr_top {d:List Nat} {s n:Nat} (hs:s<64) (h:d.getD (n - 1) 0*2^s<18446744073709551616):cr d s n=0:=by
 unfold cr;split;rfl;refine Nat.div_eq_of_lt ?_;have hps:=QE (s:=s) (by omega);rw[<-hps,Nat.mul_comm] at h;exact Nat.lt_of_mul_lt_mul_left h
theorem top2 {ds:List Nat} {n:Nat} (hl:ds.length=n) (hn:2<=n) (ht:∀e∈ds,e<18446744073709551616):∃vl,val W64 ds=(ds.getD (n - 1) 0*18446744073709551616+ds.getD (n - 2) 0)*W64^(n - 2)+vl/\vl<W64^(n - 2):=by
 have e2:=XF W64 ds (n - 2) (by omega);have d0:ds.drop (n - 2)=ds.getD (n - 2) 0::ds.getD (n - 1) 0::ds.drop n:=by rw[Yv (n:=n - 2) (by omega),show n - 2+1=n - 1 by omega,Yv (n:=n - 1) (by omega),show n - 1+1=n by omega]
 have d1:ds.drop n=[]:=List.drop_eq_nil_of_le (by omega);have hz:val W64 ([]:List Nat)=0:=rfl;rw[d0,d1,Zcs,Zcs,hz,Nat.mul_zero,Nat.add_zero] at e2;refine⟨_,?_,Zdw (B:=W64) (by decide) ht (n - 2) (by omega)⟩;rw[e2,Nat.mul_comm (W64^(n - 2)),Nat.mul_comm 18446744073709551616,Nat.add_comm (ds.getD (n - 2) 0),Nat.add_comm]
theorem val_top {ds:List Nat} {n:Nat} (hl:ds.length=n) (hn:1<=n) (ht:ds.getD (n - 1) 0≠0):W64^(n - 1)<=val W64 ds:=by
 have e:=XF W64 ds (n - 1) (by omega);rw[Yv (n:=n - 1) (by omega),Zcs,Nat.mul_add] at e;have h1:W64^(n - 1)*1<=W64^(n - 1)*ds.getD (n - 1) 0:=Nat.mul_le_mul_left _ (Nat.pos_of_ne_zero ht);rw[Nat.mul_one] at h1;rw[e];refine Nat.le_trans h1 ?_;rw[<-Nat.add_assoc];exact Nat.le_trans (Nat.le_add_left _ _) (Nat.le_add_right _ _)
theorem top_of_val {ds:List Nat} {n:Nat} (hl:ds.length=n) (hn:1<=n) (ht:∀e∈ds,e<18446744073709551616) (hv:W64^(n - 1)<=val W64 ds):0<ds.getD (n - 1) 0:=by
 rcases Nat.eq_zero_or_pos (ds.getD (n - 1) 0) with h|h;exfalso;have e:=XF W64 ds (n - 1) (by omega);have d1:ds.drop n=[]:=List.drop_eq_nil_of_le (by omega);have hz:val W64 ([]:List Nat)=0:=rfl;rw[Yv (n:=n - 1) (by omega),show n - 1+1=n by omega,d1,Zcs,hz,h,Nat.mul_zero,Nat.add_zero] at e;have:=Zdw (B:=W64) (by decide) ht (n - 1) (by omega);rw[<-e] at this;exact absurd hv (Nat.not_le_of_lt this);exact h
theorem long_start {da db vs u0:List Nat} {s la lb mm:Nat} (hs:s<64) (hla:da.length=la) (hlb:db.length=lb) (h2:2<=lb) (hba:lb<=la) (hta:∀e∈da,e<18446744073709551616) (hn:db.getD (lb - 1) 0≠0)
    (hv:val W64 vs=val W64 db*2^s) (hvl:vs.length=lb) (hvt:∀e∈vs,e<18446744073709551616) (hu:val W64 u0=val W64 da*2^s) (hul:u0.length=la+1) (hut:∀e∈u0,e<18446744073709551616) (hm:mm+lb=la+1):
    Zau (val W64 vs) u0 u0 (List.replicate mm 0) lb mm/\val W64 vs<W64^lb/\0<vs.getD (lb - 1) 0:=by
 have hVn:val W64 vs<W64^lb:=by rw[<-hvl];exact Zf2 (by decide) vs hvt
 have hVb:W64^(lb - 1)*2^s<=val W64 vs:=by rw[hv];exact Nat.mul_le_mul_right _ (val_top hlb (by omega) hn)
 have hVt:W64^(lb - 1)<=val W64 vs:=Nat.le_trans (Nat.le_mul_of_pos_right _ (Nat.two_pow_pos s)) hVb;refine⟨Zau.start (by omega) hut ?_,hVn,top_of_val hvl (by omega) hvt hVt⟩;have h1:val W64 da<W64^la:=by rw[<-hla];exact Zf2 (by decide) da hta
 have h3:W64^la=W64^mm*W64^(lb - 1):=by rw[<-Nat.pow_add,show mm+(lb - 1)=la by omega]
 rw[hu];refine Nat.lt_of_lt_of_le (Nat.mul_lt_mul_of_pos_right h1 (Nat.two_pow_pos s)) ?_;rw[h3,Nat.mul_assoc];exact Nat.mul_le_mul_left _ hVb
theorem guess_or {g T D:Nat} (h1:g<18446744073709551616) (h2:g*D<=T) (h3:T<(g+1)*D\/g=18446744073709551615):g<18446744073709551616/\g*D<=T/\(T<(g+1)*D\/g+1=18446744073709551616):=⟨h1,h2,h3.imp_right (by omega)⟩
end Go.Cham
namespace Go.Cham
open Go Go.RowKit
def Xs (g:Option (Nat × List Value)) (T:TypeId) (cs:List Value):Own:=match g with|none=>[]|some x=>[(x.1,T,cs++x.2)]
def gp (g:Option (Nat × List Value)):Option Addr:=match g with|none=>none|some x=>some ⟨x.1,0,none⟩
structure Gw (g:Option (Nat × List Value)) (len cap sz:Nat) (cs:List Value):Prop where
  hl:cs.length=len*sz
  hc:len<=cap
  hn:g=none->cap=0
  hs:∀x,g=some x->(cs++x.2).length=cap*sz
theorem Gw.nil (sz:Nat):Gw none 0 0 sz []:=⟨by simp,Nat.le_refl _,λ_=>rfl,by simp⟩
theorem Gw.own {b len sz:Nat} {cs:List Value} (h:cs.length=len*sz):Gw (some (b,[])) len len sz cs:=⟨h,Nat.le_refl _,by simp,by simpa using h⟩
section
variable {P : Program} {a : Act} {w : World} {n : Nat} {l : List (Nat × Value)} {K : Value → World → Prop}
variable {d : Option Tmp} {ty : TypeId} {pos : String} {af : Array Edge} {g0 : Option (Nat × Bool)}
theorem Xn {x y:Operand} {t e:TypeId} {len cap m cap2 sz by_ b2 o2:Nat} {T2:TypeId} {z:Value} {g:Option (Nat × List Value)} {cs cs2 vs:List Value} {S0 S:Sh} {w0:World} {H:Own} (hL:ZL a n l)
    (hx:ev l x=some (.slice (gp g) len cap)) (hy:ev l y=some (.slice (some ⟨b2,o2,none⟩) m cap2))
    (ht:P.underlying t=some (.slice e)) (hZ:YE P e=some sz) (hB:Zap P e=some by_) (hz:QJ P e=some z) (hzs:z.cells.size=sz) (hG:Gw g len cap sz cs) (hR:Run S0 w0 S (Xs g e cs++H) w)
    (hv:Has w b2 T2 cs2) (hvs:(cs2.drop o2).take (m*sz)=vs) (hvl:vs.length=m*sz) (ho:∀v∈vs,one v=true) (h0:0<m) (hlim:(len+m)*by_<=140737488355328) (hlim2:len+m<=140737488355328)
    (k:∀g' cap' w',Gw g' (len+m) cap' sz (cs++vs)->Run S0 w0 S (Xs g' e (cs++vs)++H) w'->K (.slice (gp g') (len+m) cap') w'):YY P ⟨d,.call ⟨.builtin .append,#[x,y],#[t,t]⟩,ty,pos,af,g0⟩ a w K:=by
 obtain⟨i,hi,hs,hz',hb⟩:=Zes hZ hB hz;have hnews:=hv.cells hvs;have fin:∀(v:Value) (w':World),(Builtin.append_ #[t,t] ty #[.slice (gp g) len cap,.slice (some ⟨b2,o2,none⟩) m cap2]).run P w= .ok v w'->K v w'->YY P ⟨d,.call ⟨.builtin .append,#[x,y],#[t,t]⟩,ty,pos,af,g0⟩ a w K:=by intro v w' hrun hk;refine Zw (v:=v) (w':=w') ?_ hk;rw[Xx];simp only[List.map_toArray,List.map_cons,List.map_nil,hL.ev hx,hL.ev hy];show Sem.run P (do let v <-Builtin.append_ #[t,t] ty #[.slice (gp g) len cap,.slice (some ⟨b2,o2,none⟩) m cap2];(pure (Next.value v):Sem Next)) w=_;rw[Zg hrun];rfl
 rcases Nat.lt_or_ge cap (len+m) with hg|hg;have hR1:Run S0 w0 S (Xs g e cs++H) w.drew:=hR.call (Ext.drewN hR.holds 1);have hge:=grownCap_ge w (len+m) cap e;have hfit:Builtin.nextslicecap (len+m) cap*i.bytes<=281474976710656:=growslice_fits hg (by rw[hb];exact hlim);obtain⟨rest,hrest⟩:∃rest,Builtin.zeroCells z.cells (grownCap w (len+m) cap e - (len+m))=(rest:List Value).toArray:=⟨_,(Array.toArray_toList).symm⟩;have hrl:rest.length=(grownCap w (len+m) cap e - (len+m))*sz:=by have:=congrArg Array.size hrest;simp[Builtin.zeroCells,hzs] at this;omega
 have hcs:(cs++vs).length=(len+m)*sz:=by rw[List.length_append,hG.hl,hvl,Nat.add_mul]
 have hR2:=(hR1.newOwn e (cs++vs++rest));have hdrop:∀{H':Own} {w':World} {x:Nat × TypeId × List Value},Run S0 w0 S (x::(Xs g e cs++H')) w'->Run S0 w0 S (x::H') w':=by
  intro H' w' x hr;have hn:=hr.nodup
  refine⟨hr.ext,λy hy=>hr.own y (by
    rcases List.mem_cons.1 hy with h|h
    · simp[h]
    · simp[h]),?_⟩
  refine List.Sublist.nodup (List.Sublist.map _ ?_) hn;exact List.Sublist.cons_cons _ (List.sublist_append_right _ _)
 have hR3:=hdrop hR2;refine fin (.slice (some ⟨w.heap.size,0,none⟩) (len+m) (grownCap w (len+m) cap e)) (XH w.drew (.cells (cs++vs++rest).toArray e)) ?_ (k (some (w.heap.size,rest)) _ _ ⟨hcs,hge,by simp,?_⟩ ?_)
 cases g with
 | none=>
   have hc0:=hG.hn rfl
   have hl0:len=0:=by have:=hG.hc;omega
   subst hc0 hl0
   have hcs0:cs=[]:=by have:=hG.hl;simpa using this
   subst hcs0
   have hrun:=run_append_nil (P:=P) (w:=w) t ty e i z ht hi hz' ⟨b2,o2,none⟩ m cap2 vs (by rw[hs];exact hvl) hnews h0 (by omega) (by rw[hb];rw[Nat.zero_add] at hlim;omega)
   simp only[Nat.zero_add,List.nil_append] at hrest ⊢
   refine hrun.trans ?_
   rw[hrest]
   congr 2
   simp
 | some q=>
   have hh:Has w q.1 e (cs++q.2):=hR.has (by simp[Xs])
   have hrun:=run_append_grow (P:=P) (w:=w) t ty e i z ht hi hz' ⟨q.1,0,none⟩ len cap cs (by rw[hs];exact hG.hl) (hh.cells (o:=0) (k:=cs.length) (by simp)) ⟨b2,o2,none⟩ m cap2 vs (by rw[hs];exact hvl) hnews hg (by omega) hfit
   refine hrun.trans ?_
   rw[hrest]
   congr 2
   simp
 intro x hx;simp only[Option.some.injEq] at hx;subst hx;rw[List.length_append,hcs,hrl,<-Nat.add_mul];congr 1;omega;simpa [Xs] using hR3
 cases g with
 |none=>have:=hG.hn rfl;omega
 | some q=>
   obtain⟨b,rest⟩:=q
   have hl:(cs++rest).length=cap*sz:=hG.hs _ rfl
   have hh:Has w b e (cs++rest):=hR.has (by simp[Xs])
   have hrl:m*sz<=rest.length:=by
     rw[List.length_append,hG.hl] at hl
     have:(len+m)*sz<=cap*sz:=Nat.mul_le_mul_right _ hg
     rw[Nat.add_mul] at this
     omega
   obtain⟨w',h1,h2⟩:=Zcx (P:=P) (w:=w) t ty e i ht hi b e len cap (cs++rest) hh (.slice (some ⟨b2,o2,none⟩) m cap2) m vs rfl (by
     have:=run_firstCells_some (P:=P) w i.size m ⟨b2,o2,none⟩ m cap2 vs (by rw[hs];exact hvl) hnews
     exact this) hg (by rw[hs,<-hG.hl,hvl,List.length_append];omega) ho
   have ec:QK (cs++rest) (len*i.size) vs=cs++vs++rest.drop (m*sz):=by
     unfold QK
     rw[hs,<-hG.hl,hvl,List.take_left,List.drop_length_add_append]
   rw[ec] at h2
   have hR':Run S0 w0 S ((b,e,cs++rest)::H) w:=by simpa [Xs] using hR
   have hR2:=hR'.store (cs++vs++rest.drop (m*sz)) h2
   refine fin _ _ h1 (k (some (b,rest.drop (m*sz))) cap w' ⟨by rw[List.length_append,hG.hl,hvl,Nat.add_mul],hg,by simp,?_⟩ (by simpa [Xs] using hR2))
   intro x hx
   simp only[Option.some.injEq] at hx
   subst hx
   rw[List.length_append] at hl ⊢
   simp only[List.length_append,List.length_drop]
   omega
end
theorem Run.mid {S0 S:Sh} {w0 w:World} (H1:Own) (H2:Own) {H3:Own} (h:Run S0 w0 S (H1++(H2++H3)) w):Run S0 w0 S (H1++H3) w:=by
 have hn:=h.nodup;refine⟨h.ext,λx hx=>h.own x ?_,?_⟩;rcases List.mem_append.1 hx with q|q;exact List.mem_append_left _ q;exact List.mem_append_right _ (List.mem_append_right _ q);refine List.Sublist.nodup (List.Sublist.map _ ?_) hn;exact List.Sublist.append_left (List.sublist_append_right _ _) _
theorem Run.freezeG {S0 S:Sh} {w0 w:World} (H1:Own) {H:Own} {g:Option (Nat × List Value)} {T:TypeId} {cs:List Value} (h:Run S0 w0 S (H1++(Xs g T cs++H)) w):
    ∃S',S.le S'/\(∀x,g=some x->Row S' x.1 T (cs++x.2))/\Run S0 w0 S' (H1++H) w:=by
 cases g with
 |none=>exact⟨S,Sh.le.refl S,by simp,by simpa [Xs] using h⟩
 | some x=>
   have h':Run S0 w0 S ((x.1,T,cs++x.2)::(H1++H)) w:=h.perm (by simp[Xs])
   obtain⟨S',h1,h2,h3⟩:=h'.freeze
   exact⟨S',h1,λy hy=>by cases hy;exact h2,h3⟩
theorem Gw.some {g:Option (Nat × List Value)} {len cap sz:Nat} {cs:List Value} (h:Gw g len cap sz cs) (h0:0<len):∃b rest,g=some (b,rest):=by
 cases g with
 |none=>have:=h.hn rfl;have:=h.hc;omega
 |some x=>exact⟨x.1,x.2,rfl⟩
def u8s (ds:List Nat):List Value:=ds.map λd:Nat=>.int .u8 (d:Int)
theorem u8s_get {ds:List Nat} {rest:List Value} {j:Nat} (h:j<ds.length):(u8s ds++rest)[j]? =some (.int .u8 ((ds.getD j 0:Nat):Int)):=by
 rw[List.getElem?_append_left (by simpa [u8s] using h)];simp[u8s,List.getElem?_eq_getElem h,List.getD_eq_getElem?_getD]
theorem u8s_set {ds:List Nat} {rest:List Value} {j d:Nat} (h:j<ds.length):(u8s ds++rest).set j (.int .u8 (d:Int))=u8s (ds.set j d)++rest:=by
 rw[List.set_append_left _ _ (by simpa [u8s] using h)];simp[u8s,List.map_set]
theorem Za7 (ds:List Nat):(u8s ds).length=ds.length:=by simp[u8s]
theorem u8s_ones (ds:List Nat):∀v∈u8s ds,one v=true:=by intro v hv;obtain⟨d,_,rfl⟩:=List.mem_map.1 hv;rfl
theorem Zb8 (ds:List Nat):∀v∈YG ds,one v=true:=by intro v hv;obtain⟨d,_,rfl⟩:=List.mem_map.1 hv;rfl
theorem u64s_ones (ds:List Nat):∀v∈Yw ds,one v=true:=by intro v hv;obtain⟨d,_,rfl⟩:=List.mem_map.1 hv;rfl
theorem XY (ds es:List Nat):YG ds++YG es=YG (ds++es):=by simp[YG]
theorem u8s_append (ds es:List Nat):u8s ds++u8s es=u8s (ds++es):=by simp[u8s]
theorem Zcv (ds es:List Nat):Yw ds++Yw es=Yw (ds++es):=by simp[Yw]
theorem u64s_split (n:Nat) (ds:List Nat) (rest:List Value):Yw ds++rest=Yw (ds.take n)++(Yw (ds.drop n)++rest):=by rw[<-List.append_assoc,Zcv,List.take_append_drop]
theorem u32s_split (n:Nat) (ds:List Nat) (rest:List Value):YG ds++rest=YG (ds.take n)++(YG (ds.drop n)++rest):=by rw[<-List.append_assoc,XY,List.take_append_drop]
theorem Gw.dg {S:Sh} {g:Option (Nat × List Value)} {len cap:Nat} {ds:List Nat} (h:Gw g len cap 1 (Yw ds)) (hr:∀x,g=Option.some x->Row S x.1 tU64 (Yw ds++x.2)) (hb:len<=281474976710656) (hlt:∀d∈ds,d<18446744073709551616):Dg S (gp g) len cap ds:=by
 have hl:=h.hl;rw[ZM,Nat.mul_one] at hl;refine⟨hl,h.hc,hb,hlt,λh0=>?_⟩;obtain⟨b,rest,e⟩:=h.some h0;exact⟨b,rest,by rw[e];rfl,hr _ e⟩
theorem Gw.gd {S:Sh} {g:Option (Nat × List Value)} {len cap:Nat} {ds:List Nat} (h:Gw g len cap 1 (YG ds)) (hr:∀x,g=Option.some x->Row S x.1 tU32 (YG ds++x.2)) (hb:len<=281474976710656) (hlt:∀d∈ds,d<65536):Gd S (gp g) len cap ds:=by
 have hl:=h.hl;rw[XJ,Nat.mul_one] at hl;refine⟨hl,h.hc,hb,hlt,λh0=>?_⟩;obtain⟨b,rest,e⟩:=h.some h0;exact⟨b,0,[],rest,by rw[e];rfl,by simpa using hr _ e,rfl⟩
theorem gown_own {S0 S:Sh} {w0 w:World} (H1:Own) {H:Own} {b:Nat} {rest:List Value} {T:TypeId} {cs:List Value} (h:Run S0 w0 S ((b,T,cs++rest)::(H1++H)) w):Run S0 w0 S (H1++(Xs (Option.some (b,rest)) T cs++H)) w:=
  h.perm (by simp[Xs,List.perm_middle.symm])
theorem gown_out {S0 S:Sh} {w0 w:World} (H1:Own) {H:Own} {b:Nat} {rest:List Value} {T:TypeId} {cs:List Value} (h:Run S0 w0 S (H1++(Xs (Option.some (b,rest)) T cs++H)) w):Run S0 w0 S ((b,T,cs++rest)::(H1++H)) w:=
  h.perm (by simp[Xs])
theorem gown_swap {S0 S:Sh} {w0 w:World} (H1:Own) {H2 H3 H:Own} (h:Run S0 w0 S (H1++(H2++(H3++H))) w):Run S0 w0 S (H1++(H3++(H2++H))) w:=
  h.perm (List.Perm.append_left _ (by rw[<-List.append_assoc,<-List.append_assoc];exact List.Perm.append_right _ List.perm_append_comm))
theorem XQ {S0 S:Sh} {w0 w:World} (H1:Own) {H2 H:Own} (h:Run S0 w0 S (H1++(H2++H)) w):Run S0 w0 S (H2++(H1++H)) w:=
  h.perm (by rw[<-List.append_assoc,<-List.append_assoc];exact List.Perm.append_right _ List.perm_append_comm)
section
variable {P : Program} {a : Act} {w : World} {n : Nat} {l : List (Nat × Value)} {K : Value → World → Prop}
variable {d : Option Tmp} {ty : TypeId} {pos : String} {af : Array Edge} {g0 : Option (Nat × Bool)}
theorem does_append0 {x y:Operand} {t e:TypeId} {len cap cap2 sz:Nat} {p p2:Option Addr} (hL:ZL a n l)
    (hx:ev l x=Option.some (.slice p len cap)) (hy:ev l y=Option.some (.slice p2 0 cap2)) (ht:P.underlying t=Option.some (.slice e)) (hZ:YE P e=Option.some sz) (hle:len<=cap)
    (k:K (.slice p len cap) w):YY P ⟨d,.call ⟨.builtin .append,#[x,y],#[t,t]⟩,ty,pos,af,g0⟩ a w K:=by
 refine Zw (v:=.slice p len cap) (w':=w) ?_ k;rw[Xx];simp only[List.map_toArray,List.map_cons,List.map_nil,hL.ev hx,hL.ev hy]
 have hrun:(Builtin.append_ #[t,t] ty #[.slice p len cap,.slice p2 0 cap2]).run P w= .ok (.slice p len cap) w:=by
   simp only[Builtin.append_,List.getElem?_toArray,List.getElem?_cons_zero,List.getElem?_cons_succ]
   rw[Zg (Zr ht)]
   simp only[]
   rw[Zg (Ys hZ)]
   rw[Zg (Zr ht)]
   simp only[ZF,Bool.false_eq_true,if_false]
   rw[Zg (w':=w) (a:=0) rfl]
   rw[if_pos (by omega)]
   simp only[Bool.not_false,if_true]
   rw[Zg (w':=w) (a:=(#[]:Array Value)) (by
     cases p2 with
     |none=>rfl
     |some q=>exact run_firstCells_some (P:=P) w sz 0 q 0 cap2 [] (by simp) (by simp))]
   cases p with
   |none=>rfl
   |some q=>rfl
 show Sem.run P (do let v <-Builtin.append_ #[t,t] ty #[.slice p len cap,.slice p2 0 cap2];(pure (Next.value v):Sem Next)) w=_;rw[Zg hrun];rfl
theorem does_appendD {x y:Operand} {t:TypeId} {len cap m cap2:Nat} {p2:Option Addr} {g:Option (Nat × List Value)} {ds es:List Nat} {S0 S:Sh} {w0:World} {H:Own} (hL:ZL a n l)
    (hx:ev l x=Option.some (.slice (gp g) len cap)) (hy:ev l y=Option.some (.slice p2 m cap2))
    (ht:P.underlying t=Option.some (.slice tU64)) (hZ:YE P tU64=Option.some 1) (hB:Zap P tU64=Option.some 8) (hz:QJ P tU64=Option.some (.int .u64 0)) (hG:Gw g len cap 1 (Yw ds)) (hR:Run S0 w0 S (Xs g tU64 (Yw ds)++H) w)
    (hd:Dg S p2 m cap2 es) (hlim:len+m<=1099511627776)
    (k:∀g' cap' w',Gw g' (len+m) cap' 1 (Yw (ds++es))->Run S0 w0 S (Xs g' tU64 (Yw (ds++es))++H) w'->K (.slice (gp g') (len+m) cap') w'):YY P ⟨d,.call ⟨.builtin .append,#[x,y],#[t,t]⟩,ty,pos,af,g0⟩ a w K:=by
 rcases Nat.eq_zero_or_pos m with e|h0;subst e;have he:es=[]:=List.length_eq_zero_iff.1 hd.hlen;subst he;refine does_append0 hL hx hy ht hZ hG.hc ?_;have:=k g cap w (by simpa using hG) (by simpa using hR);simpa using this;obtain⟨b2,rest2,rfl,r⟩:=hd.row h0;refine Xn hL hx hy ht hZ hB hz rfl hG hR (hR.row r) (vs:=Yw es) ?_ (by rw[ZM,hd.hlen,Nat.mul_one]) (u64s_ones es) h0 (by omega) (by omega) λg' cap' w' h1 h2=>k g' cap' w' (by rw[<-Zcv];exact h1) (by rw[<-Zcv];exact h2);rw[List.drop_zero,Nat.mul_one,<-hd.hlen,<-ZM es,List.take_left]
theorem does_appendGd {x y:Operand} {t:TypeId} {len cap m cap2:Nat} {p2:Option Addr} {g:Option (Nat × List Value)} {ds es:List Nat} {S0 S:Sh} {w0:World} {H:Own} (hL:ZL a n l)
    (hx:ev l x=Option.some (.slice (gp g) len cap)) (hy:ev l y=Option.some (.slice p2 m cap2))
    (ht:P.underlying t=Option.some (.slice tU32)) (hZ:YE P tU32=Option.some 1) (hB:Zap P tU32=Option.some 4) (hz:QJ P tU32=Option.some (.int .u32 0)) (hG:Gw g len cap 1 (YG ds)) (hR:Run S0 w0 S (Xs g tU32 (YG ds)++H) w)
    (hd:Gd S p2 m cap2 es) (hlim:len+m<=1099511627776)
    (k:∀g' cap' w',Gw g' (len+m) cap' 1 (YG (ds++es))->Run S0 w0 S (Xs g' tU32 (YG (ds++es))++H) w'->K (.slice (gp g') (len+m) cap') w'):YY P ⟨d,.call ⟨.builtin .append,#[x,y],#[t,t]⟩,ty,pos,af,g0⟩ a w K:=by
 rcases Nat.eq_zero_or_pos m with e|h0;subst e;have he:es=[]:=List.length_eq_zero_iff.1 hd.hlen;subst he;refine does_append0 hL hx hy ht hZ hG.hc ?_;have:=k g cap w (by simpa using hG) (by simpa using hR);simpa using this;obtain⟨b2,off2,pre2,rest2,rfl,r,hp⟩:=hd.row h0;refine Xn hL hx hy ht hZ hB hz rfl hG hR (hR.row r) (vs:=YG es) ?_ (by rw[XJ,hd.hlen,Nat.mul_one]) (Zb8 es) h0 (by omega) (by omega) λg' cap' w' h1 h2=>k g' cap' w' (by rw[<-XY];exact h1) (by rw[<-XY];exact h2);rw[<-hp,List.append_assoc,List.drop_left,Nat.mul_one,<-hd.hlen,<-XJ es,List.take_left]
end
section
variable {P : Program} {a : Act} {w : World} {n : Nat} {l : List (Nat × Value)} {K : Value → World → Prop}
variable {d : Option Tmp} {ty : TypeId} {pos : String} {af : Array Edge} {g0 : Option (Nat × Bool)}
theorem Zcj {x:Operand} {t e:TypeId} {c:Value} {S:Sh} {m k0:Nat} (hL:ZL a n l) (hx:ev l x=Option.some c) (ht:P.underlying t=Option.some (.slice e)) (h:Gn S c m k0) (k:K (.int .i64 (((ZH W16 m).length:Nat):Int)) w):
    YY P ⟨d,.call ⟨.builtin .len,#[x],#[t]⟩,ty,pos,af,g0⟩ a w K:=by
 obtain⟨_,p,len,cap,rfl,hd⟩:=h.open;rw[hd.hlen] at k;exact ZC hL hx ht k
end
theorem foldl_push (ds:List Nat) (s:ByteArray):(ds.map λd:Nat=>(d:Int)).foldl (λr n=>r.push (UInt8.ofNat n.toNat)) s=s++⟨(ds.map UInt8.ofNat).toArray⟩:=by
 induction ds generalizing s with
 |nil=>apply ByteArray.ext;simp
 | cons d r ih=>
   simp only[List.map_cons,List.foldl_cons]
   rw[ih]
   apply ByteArray.ext
   simp
section
variable {P : Program} {a : Act} {w : World} {n : Nat} {l : List (Nat × Value)} {K : Value → World → Prop}
variable {d : Option Tmp} {ty : TypeId} {pos : String} {af : Array Edge} {g0 : Option (Nat × Bool)}
theorem Zda {x:Operand} {t u e:TypeId} {b m cap:Nat} {T:TypeId} {ds:List Nat} {rest:List Value} (hL:ZL a n l) (hx:ev l x=Option.some (.slice (Option.some ⟨b,0,none⟩) m cap)) (hs:P.underlying t=Option.some (.slice e)) (he:P.underlying e=Option.some (.int .u8)) (hd:P.underlying u=Option.some .string)
    (h:Has w b T (u8s ds++rest)) (hm:ds.length=m) (k:K (.string ⟨(ds.map UInt8.ofNat).toArray⟩) w):YY P ⟨d,.convert t u x,ty,pos,af,g0⟩ a w K:=by
 subst hm;refine Zw (v:=.string ⟨(ds.map UInt8.ofNat).toArray⟩) (w':=w) ?_ k;have hl:(loadCells ⟨b,0,none⟩ ds.length).run P w= .ok ((ds.map λd:Nat=>(d:Int)).map (Value.int .u8)).toArray w:=by have:=Zcw (P:=P) h (off:=0) (n:=ds.length) (vs:=u8s ds) (by rw[List.drop_zero,<-Za7 ds,List.take_left]) (Za7 ds);rw[this];unfold u8s;rw[List.map_map];rfl
 have hrun:(convert t u (.slice (Option.some ⟨b,0,none⟩) ds.length cap)).run P w= .ok (.string ⟨(ds.map UInt8.ofNat).toArray⟩) w:=by rw[run_convert_bytes_string w t u e _ _ _ hs he hd,run_bytesToString w _ _ _ _ hl,foldl_push];rw[show(ByteArray.empty++(⟨(ds.map UInt8.ofNat).toArray⟩:ByteArray))=⟨(ds.map UInt8.ofNat).toArray⟩ from by apply ByteArray.ext;simp]
 simp only[execOp,hL.ev hx];show Sem.run P (do let v <-convert t u (.slice (Option.some ⟨b,0,none⟩) ds.length cap);(pure (Next.value v):Sem Next)) w=_;rw[Zg hrun];rfl
end
end Go.Cham
namespace Go.Cham
open Go Go.RowKit
section
variable {P : Program} {S0 : Sh} {w0 : World} {H0 : Own} {E0 : Zbt} {st : Nat → Nat} {ops : Array Oper} {V : Nat → KV} {n : Nat} {l : List (Nat × Value)} {lz : Olds} {S1 : Sh} {i : Nat} {o : Oper}
theorem does_storeRA {done:Nat->Bool} {S:Sh} {E:Zbt} {a:Act} {w:World} {t:TypeId} {x y:Operand} {b k off:Nat} {T:TypeId} {cs cs':List Value} {v:Value} {l':List (Nat × Value)} {R:Sh->List Value->Prop} {hR:∀S S' cs,S.le S'->R S cs->R S' cs}
    {ty:TypeId} {pos:String} {af:Array Edge} {g:Option (Nat × Bool)}
    (h:At S0 w0 H0 E0 st ops V n l lz S1 i ⟨none,.store t x y,ty,pos,af,g⟩ done S E a w) (hL:ZL a n l') (hx:ev l' x=some (.pointer (some ⟨b,off,none⟩))) (hy:ev l' y=some v) (hE0:(k,b,T,cs,false)∈E0) (hst:st k=i)
    (hZ:YE P t=some 1) (ho:one v=true) (hvc:v.cells.toList=[v]) (hoff:off<cs.length) (hcs:cs.set off v=cs') (hV:V i= .stored k T R hR) (hr:R S cs'):
    YY P ⟨none,.store t x y,ty,pos,af,g⟩ a w (Post S0 w0 H0 st V i ⟨none,.store t x y,ty,pos,af,g⟩ done S E):=by
 obtain⟨cs0,s,hE,_,_,hf⟩:=h.le0 _ _ _ _ _ hE0
 have hs:s=false:=by
   cases s with
   |false=>rfl
   | true=>
     have:=h.inv.sealed _ hE rfl
     simp only[hst,h.not] at this
     cases this
 subst hs;have hc0:=hf rfl;subst hc0;obtain⟨E1,E2,rfl⟩:=List.append_of_mem hE;have hfront:=h.run.perm Zf9;have hlen:cs'.length=cs0.length:=by rw[<-hcs];simp
 have hvs:v.cells.size=1:=by have:=congrArg List.length hvc;simpa using this
 refine Ze2 (cs':=cs') hL hx hy hfront (by rw[hZ,hvs]) (by rw[hvs];show off+1<=cs0.length;omega) (λu hu=>by rw[hvc] at hu;simp at hu;rw[hu];exact ho) ?_ λw' r=>?_;rw[hvc,<-hcs];unfold QK;rw[List.set_eq_take_append_cons_drop,if_pos hoff];simp;refine⟨S,E1++(k,b,T,cs',true)::E2,.refl S,?_,⟨r.perm (Zf9 (x:=(k,b,T,cs',true)) (E1:=E1) (E2:=E2) (H:=H0)).symm,?_,?_,?_⟩,?_⟩;intro i' b' T' cs' s' hm;rcases List.mem_append.1 hm with hm|hm;exact⟨cs',s',List.mem_append_left _ hm,rfl,λe=>⟨rfl,e⟩,λ_=>rfl⟩;rcases List.mem_cons.1 hm with hm|hm;simp only[Prod.mk.injEq] at hm;obtain⟨rfl,rfl,rfl,rfl,rfl⟩:=hm;exact⟨_,true,by simp,hlen,(λe=>by cases e),λe=>by cases e⟩;exact⟨cs',s',List.mem_append_right _ (List.mem_cons_of_mem _ hm),rfl,λe=>⟨rfl,e⟩,λ_=>rfl⟩;have:=h.inv.nodup;simpa using this;intro z hz hlt;rcases List.mem_append.1 hz with hz|hz;simp[h.inv.made z (by simp[hz]) hlt];rcases List.mem_cons.1 hz with rfl|hz;have:=h.inv.made _ hE hlt;simpa using Or.inl this;simp[h.inv.made z (by simp[hz]) hlt];intro z hz hs;rcases List.mem_append.1 hz with hz|hz;simp[h.inv.sealed z (by simp[hz]) hs];rcases List.mem_cons.1 hz with rfl|hz;simp[hst];simp[h.inv.sealed z (by simp[hz]) hs];rw[hV];exact⟨b,cs',by simp,hr⟩
end
end Go.Cham
namespace Go.Cham
open Go
theorem mkRat_num (a:Int) (d:Nat) (hd:d≠0):(mkRat a d).num=a / (a.natAbs.gcd d:Nat):=by
 unfold mkRat;rw[dif_neg hd,Rat.normalize_eq]
theorem mkRat_den (a:Int) (d:Nat) (hd:d≠0):(mkRat a d).den=d / a.natAbs.gcd d:=by
 unfold mkRat;rw[dif_neg hd,Rat.normalize_eq]
theorem mkRat_num1 {a:Int} {d:Nat} (hd:d≠0) (h:a.natAbs.gcd d=1):(mkRat a d).num=a:=by
 rw[mkRat_num a d hd,h];simp
theorem mkRat_den1 {a:Int} {d:Nat} (hd:d≠0) (h:a.natAbs.gcd d=1):(mkRat a d).den=d:=by
 rw[mkRat_den a d hd,h];simp
def Ze6 (z:Int):List Nat:=(if z<0 then [45] else [])++decs z.natAbs
def rtxt (q:Rat):List Nat:=Ze6 q.num++if q.den=1 then [] else 47::decs q.den
theorem ztxt_lt (z:Int):∀c∈Ze6 z,c<256:=by
 intro c hc;unfold Ze6 at hc;rcases List.mem_append.1 hc with h|h;split at h;simp at h;omega;simp at h;exact decs_lt _ c h
theorem rtxt_lt (q:Rat):∀c∈rtxt q,c<256:=by
 intro c hc;unfold rtxt at hc;rcases List.mem_append.1 hc with h|h;exact ztxt_lt _ c h;split at h;simp at h;rcases List.mem_cons.1 h with h|h;omega;exact decs_lt _ c h
def Zbr:List Nat->List Nat × List Nat × Bool
  |[]=>([],[],false)
  |c::r=>if c=47 then([],r,true) else(c::(Zbr r).1,(Zbr r).2.1,(Zbr r).2.2)
theorem cutl_no {l:List Nat} (h:47∉l):Zbr l=(l,[],false):=by
 induction l with
 |nil=>rfl
 | cons c r ih=>
   simp only[List.mem_cons,not_or] at h
   unfold Zbr
   rw[if_neg (by omega),ih h.2]
theorem cutl_yes {a b:List Nat} (h:47∉a):Zbr (a++47::b)=(a,b,true):=by
 induction a with
 |nil=>simp[Zbr]
 | cons c r ih=>
   simp only[List.mem_cons,not_or] at h
   rw[List.cons_append]
   unfold Zbr
   rw[if_neg (by omega),ih h.2]
theorem QH (l:List Nat):47∉(Zbr l).1/\l=(Zbr l).1++(if(Zbr l).2.2 then 47::(Zbr l).2.1 else []):=by
 induction l with
 |nil=>simp[Zbr]
 | cons c r ih=>
   unfold Zbr
   split
   · rename_i h;subst h;simp
   · rename_i h
     refine⟨?_,?_⟩
     · simp only[List.mem_cons,not_or];exact⟨by omega,ih.1⟩
     · simp only[List.cons_append,List.cons.injEq,true_and];exact ih.2
theorem wd_no47 {l:List Nat} (h:wd l):47∉l:=λhm=>by have:=h.2.1 47 hm;omega
def QM (l:List Nat):List Nat:=(Zbr l).1
def Zcp (l:List Nat):Bool:=decide ((QM l).getD 0 0=45)
def Qo (l:List Nat):List Nat:=if Zcp l then(QM l).drop 1 else QM l
def Zdr (l:List Nat):Bool:=(Zbr l).2.2
def Qr (l:List Nat):List Nat:=if Zdr l then(Zbr l).2.1 else [49]
def Zds (l:List Nat):Prop:=¬wd (Qo l)\/¬wd (Qr l)\/(Zcp l=true/\Qo l=[48])
instance (l:List Nat):Decidable (Zds l):=by unfold Zds;infer_instance
def Ql (l:List Nat):Prop:=256<(Qo l).length\/256<(Qr l).length
instance (l:List Nat):Decidable (Ql l):=by unfold Ql;infer_instance
def fred (l:List Nat):Prop:=Zdr l=true/\(Xi (Qr l)<2\/Nat.gcd (Xi (Qo l)) (Xi (Qr l))≠1)
instance (l:List Nat):Decidable (fred l):=by unfold fred;infer_instance
def fraw (l:List Nat):Int:=if Zcp l then -(Xi (Qo l):Int) else Xi (Qo l)
def Za3 (l:List Nat):Int:=if Zds l then 12 else if Ql l then 3 else if fred l then 12 else 0
def Zbv (l:List Nat):Rat:=if Za3 l=0 then mkRat (fraw l) (Xi (Qr l)) else 0
theorem Zgg (l:List Nat):(fraw l).natAbs=Xi (Qo l):=by unfold fraw;split <;> simp
theorem fraw_neg {l:List Nat} (h:¬Zds l):fraw l<0↔Zcp l=true:=by
 simp only[Zds,not_or,Classical.not_not,not_and] at h;unfold fraw
 cases hm:Zcp l with
 |false=>simp
 | true=>
   simp only[↓reduceIte,iff_true]
   have h3:=h.2.2 hm
   have:Xi (Qo l)≠0:=by
     intro e
     have q:=Zbq h.1
     rw[e] at q
     exact h3 (by rw[<-q];rfl)
   omega
theorem ferr_cases (l:List Nat):(Zds l/\Za3 l=12)\/(¬Zds l/\Ql l/\Za3 l=3)\/(¬Zds l/\¬Ql l/\fred l/\Za3 l=12)\/(¬Zds l/\¬Ql l/\¬fred l/\Za3 l=0):=by
 unfold Za3;by_cases h1:Zds l;simp[h1];by_cases h2:Ql l;simp[h1,h2];by_cases h3:fred l <;> simp[h1,h2,h3]
theorem fval_bad {l:List Nat} (h:Za3 l≠0):Zbv l=0:=if_neg h
theorem fval_ok {l:List Nat} (h:Za3 l=0):Zbv l=mkRat (fraw l) (Xi (Qr l)):=if_pos h
theorem Zga:Xi [49]=1:=by decide
theorem Ze0 {l:List Nat} (h:¬Zds l) (h2:¬fred l):Xi (Qr l)≠0:=by
 unfold Qr
 cases ht:Zdr l with
 |false=>simp[Zga]
 | true=>
   simp only[fred,ht,true_and,not_or] at h2
   have:Qr l=(Zbr l).2.1:=by unfold Qr;simp[ht]
   rw[this] at h2
   simp only[↓reduceIte]
   omega
theorem fgcd {l:List Nat} (h2:¬fred l):Nat.gcd (Xi (Qo l)) (Xi (Qr l))=1:=by
 cases ht:Zdr l with
 |false=>unfold Qr;simp[ht,Zga]
 | true=>
   simp only[fred,ht,true_and,not_or,Classical.not_not] at h2
   exact h2.2
theorem f_parts (l:List Nat):l=(if Zcp l then [45] else [])++Qo l++(if Zdr l then 47::Qr l else []):=by
 have h:=(QH l).2
 have e:(Zbr l).1=(if Zcp l then [45] else [])++Qo l:=by
   unfold Qo Zcp
   show QM l=_
   by_cases hm:(QM l).getD 0 0=45
   · simp only[hm,decide_true,↓reduceIte]
     cases hn:QM l with
     |nil=>rw[hn] at hm;simp at hm
     |cons c r=>rw[hn] at hm;simp at hm;subst hm;rfl
   · rw[decide_eq_false hm];rfl
 rw[e] at h;unfold Qr
 cases ht:Zdr l with
 | false=>
   have ht':(Zbr l).2.2=false:=ht
   rw[ht'] at h
   simpa using h
 | true=>
   have ht':(Zbr l).2.2=true:=ht
   rw[ht'] at h
   simpa using h
theorem rtxt_low {l:List Nat} (h:¬Zds l) (h2:¬fred l):rtxt (mkRat (fraw l) (Xi (Qr l)))=l:=by
 have hd:=Ze0 h h2;have hg:(fraw l).natAbs.gcd (Xi (Qr l))=1:=by rw[Zgg];exact fgcd h2
 unfold rtxt Ze6;rw[mkRat_num1 hd hg,mkRat_den1 hd hg,Zgg];have hb:=h;simp only[Zds,not_or,Classical.not_not,not_and] at h;rw[Zbq h.1,Zbq h.2.1];have hp:=f_parts l
 have e1:(if fraw l<0 then [45] else([]:List Nat))=if Zcp l then [45] else []:=by
   cases hm:Zcp l with
   |false=>rw[if_neg (by rw[fraw_neg hb,hm];simp)];rfl
   |true=>rw[if_pos (by rw[fraw_neg hb,hm])];rfl
 rw[e1]
 have e2:(if Xi (Qr l)=1 then [] else 47::Qr l)=if Zdr l then 47::Qr l else []:=by
   cases ht:Zdr l with
   | false=>
     have:Qr l=[49]:=by unfold Qr;simp[ht]
     rw[this,Zga];rfl
   | true=>
     have:Xi (Qr l)≠1:=by
       intro e
       exact h2 ⟨ht,.inl (by omega)⟩
     rw[if_neg this];rfl
 rw[e2];exact hp.symm
theorem ztxt_no47 (z:Int):47∉Ze6 z:=by
 intro h;unfold Ze6 at h;rcases List.mem_append.1 h with h|h;split at h <;> simp at h;have:=decs_dig _ _ h;omega
theorem ztxt_inj {a b:Int} (h:Ze6 a=Ze6 b):a=b:=by
 unfold Ze6 at h;have key:∀{m n:Nat},45::decs m≠decs n:=by intro m n e;have:=decs_dig n 45 (by rw[<-e];simp);omega
 split at h <;> split at h;simp only[List.singleton_append,List.cons.injEq,true_and] at h;have:=decs_inj h;omega;exact absurd h (by simpa using key);exact absurd h.symm (by simpa using key);simp only[List.nil_append] at h;have:=decs_inj h;omega
theorem rtxt_cut (q:Rat):Zbr (rtxt q)=(Ze6 q.num,if q.den=1 then [] else decs q.den,decide (q.den≠1)):=by
 unfold rtxt;split;rename_i h;rw[List.append_nil,cutl_no (ztxt_no47 _)];simp[h];rename_i h;rw[cutl_yes (ztxt_no47 _)];simp[h]
theorem rtxt_raw {l:List Nat} (h:¬Zds l) (h1:Zdr l=true->Xi (Qr l)≠0/\Xi (Qr l)≠1):rtxt (mkRat (fraw l) (Xi (Qr l)))=l↔¬fred l:=by
 constructor;intro e hr;have ht:=hr.1;have hd:=h1 ht;have hg:Nat.gcd (Xi (Qo l)) (Xi (Qr l))≠1:=by rcases hr.2 with q|q;omega;exact q
 have hc:=congrArg Zbr e;rw[rtxt_cut] at hc;have hp:=f_parts l;have hn47:47∉(if Zcp l then [45] else [])++Qo l:=by have hw:=h;simp only[Zds,not_or,Classical.not_not,not_and] at hw;intro hm;rcases List.mem_append.1 hm with q|q;split at q <;> simp at q;exact wd_no47 hw.1 q
 have hcl:Zbr l=((if Zcp l then [45] else [])++Qo l,Qr l,true):=by
  conv=>lhs;rw[hp]
  rw[ht];exact cutl_yes hn47
 rw[hcl] at hc;simp only[Prod.mk.injEq] at hc;have hw:=h;simp only[Zds,not_or,Classical.not_not,not_and] at hw
 have hz:Ze6 (mkRat (fraw l) (Xi (Qr l))).num=Ze6 (fraw l):=by
   rw[hc.1]
   unfold Ze6
   rw[Zgg,Zbq hw.1]
   congr 1
   cases hm:Zcp l with
   |false=>rw[if_neg (show ¬(fraw l<0) by rw[fraw_neg h,hm];simp)];rfl
   |true=>rw[if_pos (show fraw l<0 by rw[fraw_neg h,hm])];rfl
 have hnum:=ztxt_inj hz;have hden:(mkRat (fraw l) (Xi (Qr l))).den=Xi (Qr l):=by
  have q:=hc.2.2;have q1:(mkRat (fraw l) (Xi (Qr l))).den≠1:=by simpa using q
  have q2:=hc.2.1;rw[if_neg q1] at q2;exact(pval_decs _).symm.trans (congrArg Xi q2)
 have hred:=(mkRat (fraw l) (Xi (Qr l))).reduced;rw[hnum,hden] at hred;unfold Nat.Coprime at hred;rw[Zgg] at hred;exact hg hred;exact rtxt_low h
end Go.Cham
namespace Go.Cham
open Go
theorem XL (q:Rat):q*(q.den:Rat)=(q.num:Rat):=by
 have h:=Rat.mkRat_self q;have h0:(q.den:Rat)≠0:=by
  intro z;have:q.den=0:=by exact_mod_cast z
  exact q.den_nz this
 conv=>lhs;lhs;rw[<-h]
 rw[Rat.mkRat_eq_div];grind
def lcmf (n:Nat) (q:Rat):Nat:=n*(q.den / Nat.gcd n q.den)
theorem lcmf_eq (n:Nat) (q:Rat):lcmf n q=Nat.lcm n q.den:=by
 unfold lcmf Nat.lcm;rw[Nat.mul_div_assoc _ (Nat.gcd_dvd_right _ _)]
theorem lcmf_pos {n:Nat} {q:Rat} (h:n≠0):lcmf n q≠0:=by
 rw[lcmf_eq];exact Nat.lcm_ne_zero h q.den_nz
theorem Zcd (n:Nat) (q:Rat):n ∣ lcmf n q:=by rw[lcmf_eq];exact Nat.dvd_lcm_left _ _
theorem Zeq (n:Nat) (q:Rat):q.den ∣ lcmf n q:=by rw[lcmf_eq];exact Nat.dvd_lcm_right _ _
def pL (a b c d:Rat):Nat:=lcmf (lcmf (lcmf (lcmf 1 a) b) c) d
def pI (n:Nat) (q:Rat):Int:=q.num*((n / q.den:Nat):Int)
def pG (a b c d:Rat):Nat:=Nat.gcd (Nat.gcd (Nat.gcd (Nat.gcd 0 (pI (pL a b c d) a).natAbs) (pI (pL a b c d) b).natAbs) (pI (pL a b c d) c).natAbs) (pI (pL a b c d) d).natAbs
def sgnI (z:Int):Int:=if z<0 then -1 else 1
def pS (a b c:Int):Int:=if a≠0 then sgnI a else if b≠0 then sgnI b else sgnI c
def quoN (z:Int) (n:Nat):Int:=if z<0 then -((z.natAbs / n:Nat):Int) else((z.natAbs / n:Nat):Int)
def pnI (a b c d q:Rat):Int:=pS a.num b.num c.num*quoN (pI (pL a b c d) q) (pG a b c d)
def pn (a b c d q:Rat):Rat:=((pnI a b c d q:Int):Rat)
theorem pL_pos (a b c d:Rat):pL a b c d≠0:=lcmf_pos (lcmf_pos (lcmf_pos (lcmf_pos (by decide))))
theorem pL_a (a b c d:Rat):a.den ∣ pL a b c d:=Nat.dvd_trans (Zeq 1 a) (Nat.dvd_trans (Zcd _ b) (Nat.dvd_trans (Zcd _ c) (Zcd _ d)))
theorem pL_b (a b c d:Rat):b.den ∣ pL a b c d:=Nat.dvd_trans (Zeq _ b) (Nat.dvd_trans (Zcd _ c) (Zcd _ d))
theorem pL_c (a b c d:Rat):c.den ∣ pL a b c d:=Nat.dvd_trans (Zeq _ c) (Zcd _ d)
theorem pL_d (a b c d:Rat):d.den ∣ pL a b c d:=Zeq _ d
theorem pI_cast {n:Nat} {q:Rat} (h:q.den ∣ n):((pI n q:Int):Rat)=q*(n:Rat):=by
 obtain⟨k,rfl⟩:=h;unfold pI;rw[Nat.mul_div_cancel_left _ q.den_pos];have h1:((q.den*k:Nat):Rat)=(q.den:Rat)*(k:Rat):=Rat.natCast_mul _ _;have h2:((q.num*((k:Nat):Int):Int):Rat)=(q.num:Rat)*(k:Rat):=Rat.intCast_mul _ _;rw[h1,h2,<-Rat.mul_assoc,XL]
theorem pI_num {n:Nat} {q:Rat} (h:q.den ∣ n):(q*(n:Rat)).num=pI n q/\(q*(n:Rat)).den=1:=by
 rw[<-pI_cast h];exact⟨rfl,rfl⟩
theorem Zd2 {n:Nat} {q:Rat} (h:q.den ∣ n) (hn:n≠0):pI n q=0↔q.num=0:=by
 unfold pI;constructor;intro e;rcases Int.mul_eq_zero.1 e with e|e;exact e;exfalso;obtain⟨k,rfl⟩:=h;rw[Nat.mul_div_cancel_left _ q.den_pos] at e;have:k=0:=by omega
 subst this;exact hn (by simp);intro e;rw[e,Int.zero_mul]
theorem pI_sign {n:Nat} {q:Rat} (h:q.den ∣ n) (hn:n≠0):pI n q<0↔q.num<0:=by
 obtain⟨k,rfl⟩:=h;unfold pI;rw[Nat.mul_div_cancel_left _ q.den_pos];have hk:(0:Int)<(k:Int):=by rcases Nat.eq_zero_or_pos k with e|e;subst e;simp at hn;omega
 constructor;intro e;rcases Int.lt_or_le q.num 0 with h|h;exact h;have:=Int.mul_nonneg h (Int.le_of_lt hk);omega;intro e;exact Int.mul_neg_of_neg_of_pos e hk
theorem Zca (a b c d:Rat):pG a b c d ∣ (pI (pL a b c d) a).natAbs/\pG a b c d ∣ (pI (pL a b c d) b).natAbs/\pG a b c d ∣ (pI (pL a b c d) c).natAbs/\pG a b c d ∣ (pI (pL a b c d) d).natAbs:=by
 unfold pG;generalize (pI (pL a b c d) a).natAbs=x,(pI (pL a b c d) b).natAbs=y,(pI (pL a b c d) c).natAbs=z,(pI (pL a b c d) d).natAbs=u;refine⟨?_,?_,?_,Nat.gcd_dvd_right _ _⟩;exact Nat.dvd_trans (Nat.gcd_dvd_left _ _) (Nat.dvd_trans (Nat.gcd_dvd_left _ _) (Nat.dvd_trans (Nat.gcd_dvd_left _ _) (Nat.gcd_dvd_right _ _)));exact Nat.dvd_trans (Nat.gcd_dvd_left _ _) (Nat.dvd_trans (Nat.gcd_dvd_left _ _) (Nat.gcd_dvd_right _ _));exact Nat.dvd_trans (Nat.gcd_dvd_left _ _) (Nat.gcd_dvd_right _ _)
theorem pG_pos {a b c d:Rat} (h:¬(a.num=0/\b.num=0/\c.num=0)):pG a b c d≠0:=by
 intro e;obtain⟨h1,h2,h3,_⟩:=Zca a b c d;rw[e] at h1 h2 h3;have z:=@Nat.eq_zero_of_zero_dvd;exact h ⟨(Zd2 (pL_a a b c d) (pL_pos a b c d)).1 (Int.natAbs_eq_zero.1 (z h1)),(Zd2 (pL_b a b c d) (pL_pos a b c d)).1 (Int.natAbs_eq_zero.1 (z h2)),(Zd2 (pL_c a b c d) (pL_pos a b c d)).1 (Int.natAbs_eq_zero.1 (z h3))⟩
theorem Zem {z:Int} {n:Nat} (h:n ∣ z.natAbs):quoN z n*(n:Int)=z:=by
 obtain⟨k,hk⟩:=h;unfold quoN;rcases Nat.eq_zero_or_pos n with e|e;subst e;have:z=0:=by omega
 subst this;simp;rw[hk,Nat.mul_div_cancel_left _ e];have h1:((k:Nat):Int)*(n:Int)=((n*k:Nat):Int):=by rw[Nat.mul_comm];simp
 split;rw[Int.neg_mul,h1,<-hk];omega;rw[h1,<-hk];omega
theorem quoN_abs {z:Int} {n:Nat}:(quoN z n).natAbs=z.natAbs / n:=by
 unfold quoN;split;rw[Int.natAbs_neg,Int.natAbs_natCast];rw[Int.natAbs_natCast]
theorem quoN_neg {z:Int} {n:Nat} (h:n ∣ z.natAbs) (hn:n≠0):quoN z n<0↔z<0:=by
 have e:=Zem h;have hp:(0:Int)<(n:Int):=by omega
 constructor;intro hq;have:=Int.mul_neg_of_neg_of_pos hq hp;omega;intro hz;rcases Int.lt_or_le (quoN z n) 0 with h|h;exact h;have:=Int.mul_nonneg h (Int.le_of_lt hp);omega
structure Prim (a b c d:Int):Prop where
  one:Nat.gcd (Nat.gcd (Nat.gcd a.natAbs b.natAbs) c.natAbs) d.natAbs=1
  nz:¬(a=0/\b=0/\c=0)
  pos:0<a\/a=0/\0<b\/a=0/\b=0/\0<c
theorem gcd4_mul (n a b c d:Nat):Nat.gcd (Nat.gcd (Nat.gcd (n*a) (n*b)) (n*c)) (n*d)=n*Nat.gcd (Nat.gcd (Nat.gcd a b) c) d:=by
 rw[Nat.gcd_mul_left,Nat.gcd_mul_left,Nat.gcd_mul_left]
theorem sgn_cases (z:Int):(sgnI z= -1/\z<0)\/(sgnI z=1/\0<=z):=by unfold sgnI;split <;> omega
theorem pS_cases (a b c:Int):pS a b c= -1\/pS a b c=1:=by
 unfold pS sgnI;by_cases h1:a≠0;rw[if_pos h1];by_cases h:a<0 <;> simp[h];rw[if_neg h1];by_cases h2:b≠0;rw[if_pos h2];by_cases h:b<0 <;> simp[h];rw[if_neg h2];by_cases h:c<0 <;> simp[h]
theorem natAbs_pS (a b c z:Int):(pS a b c*z).natAbs=z.natAbs:=by
 rcases pS_cases a b c with h|h <;> rw[h] <;> simp
theorem pn_prim {a b c d:Rat} (h:¬(a.num=0/\b.num=0/\c.num=0)):Prim (pnI a b c d a) (pnI a b c d b) (pnI a b c d c) (pnI a b c d d):=by
 have hG:=pG_pos (d:=d) h;obtain⟨h1,h2,h3,h4⟩:=Zca a b c d;have hL:=pL_pos a b c d;have s1:=quoN_neg h1 hG;have s2:=quoN_neg h2 hG;have s3:=quoN_neg h3 hG;have e1:=Zem h1;have e2:=Zem h2;have e3:=Zem h3;have z1:=Zd2 (pL_a a b c d) hL;have z2:=Zd2 (pL_b a b c d) hL;have z3:=Zd2 (pL_c a b c d) hL;have n1:=pI_sign (pL_a a b c d) hL;have n2:=pI_sign (pL_b a b c d) hL;have n3:=pI_sign (pL_c a b c d) hL;have q1:quoN (pI (pL a b c d) a) (pG a b c d)=0↔a.num=0:=by rw[<-z1];constructor;intro e;rw[e,Int.zero_mul] at e1;exact e1.symm;intro e;rw[e] at e1;rcases Int.mul_eq_zero.1 e1 with q|q;rw[e];exact q;omega
 have q2:quoN (pI (pL a b c d) b) (pG a b c d)=0↔b.num=0:=by rw[<-z2];constructor;intro e;rw[e,Int.zero_mul] at e2;exact e2.symm;intro e;rw[e] at e2;rcases Int.mul_eq_zero.1 e2 with q|q;rw[e];exact q;omega
 have q3:quoN (pI (pL a b c d) c) (pG a b c d)=0↔c.num=0:=by rw[<-z3];constructor;intro e;rw[e,Int.zero_mul] at e3;exact e3.symm;intro e;rw[e] at e3;rcases Int.mul_eq_zero.1 e3 with q|q;rw[e];exact q;omega
 refine⟨?_,?_,?_⟩;unfold pnI;simp only[natAbs_pS,quoN_abs];have hg:pG a b c d*Nat.gcd (Nat.gcd (Nat.gcd ((pI (pL a b c d) a).natAbs / pG a b c d) ((pI (pL a b c d) b).natAbs / pG a b c d)) ((pI (pL a b c d) c).natAbs / pG a b c d)) ((pI (pL a b c d) d).natAbs / pG a b c d)=pG a b c d*1:=by
  rw[<-gcd4_mul,Nat.mul_div_cancel' h1,Nat.mul_div_cancel' h2,Nat.mul_div_cancel' h3,Nat.mul_div_cancel' h4,Nat.mul_one];conv=>rhs;unfold pG
  rw[Nat.gcd_zero_left]
 exact Nat.eq_of_mul_eq_mul_left (by omega) hg;rintro⟨r1,r2,r3⟩;unfold pnI at r1 r2 r3;have key:∀z:Int,pS a.num b.num c.num*z=0->z=0:=λz hz=>by rcases pS_cases a.num b.num c.num with e|e <;> rw[e] at hz <;> omega
 exact h ⟨q1.1 (key _ r1),q2.1 (key _ r2),q3.1 (key _ r3)⟩;unfold pnI;generalize quoN (pI (pL a b c d) a) (pG a b c d)=x at*;generalize quoN (pI (pL a b c d) b) (pG a b c d)=y at*;generalize quoN (pI (pL a b c d) c) (pG a b c d)=z at*;have n1':=s1.trans n1;have n2':=s2.trans n2;have n3':=s3.trans n3;unfold pS;by_cases ha:a.num=0;rw[if_neg (by simpa using ha)];have hx:=q1.2 ha;subst hx;by_cases hb:b.num=0;rw[if_neg (by simpa using hb)];have hy:=q2.2 hb;subst hy;have hc:c.num≠0:=λe=>h ⟨ha,hb,e⟩;have hz:z≠0:=λe=>hc (q3.1 e);right;right;refine⟨by simp,by simp,?_⟩;rcases sgn_cases c.num with⟨e,f⟩|⟨e,f⟩ <;> rw[e] <;> omega;rw[if_pos (by simpa using hb)];have hy:y≠0:=λe=>hb (q2.1 e);right;left;refine⟨by simp,?_⟩;rcases sgn_cases b.num with⟨e,f⟩|⟨e,f⟩ <;> rw[e] <;> omega;rw[if_pos (by simpa using ha)];have hx:x≠0:=λe=>ha (q1.1 e);left;rcases sgn_cases a.num with⟨e,f⟩|⟨e,f⟩ <;> rw[e] <;> omega
def pF (a b c d:Rat):Rat:=(pS a.num b.num c.num:Rat)*(pL a b c d:Rat) / (pG a b c d:Rat)
theorem pn_eq {a b c d q:Rat} (h:¬(a.num=0/\b.num=0/\c.num=0)) (hq:q.den ∣ pL a b c d) (hg:pG a b c d ∣ (pI (pL a b c d) q).natAbs):pn a b c d q=pF a b c d*q:=by
 have hG:=pG_pos (d:=d) h;have e:=Zem hg;have e2:((quoN (pI (pL a b c d) q) (pG a b c d):Int):Rat)*(pG a b c d:Rat)=q*(pL a b c d:Rat):=by rw[<-pI_cast hq,<-e,Rat.intCast_mul];rw[show((quoN (quoN (pI (pL a b c d) q) (pG a b c d)*((pG a b c d:Nat):Int)) (pG a b c d):Int):Rat)=((quoN (pI (pL a b c d) q) (pG a b c d):Int):Rat) by rw[e]];rfl
 have hG':(pG a b c d:Rat)≠0:=by intro z;exact hG (by exact_mod_cast z)
 unfold pn pnI pF;rw[Rat.intCast_mul];generalize ((quoN (pI (pL a b c d) q) (pG a b c d):Int):Rat)=x at*;generalize (pG a b c d:Rat)=g at*;generalize (pL a b c d:Rat)=r at*;generalize ((pS a.num b.num c.num:Int):Rat)=s;grind
theorem num0 {q:Rat}:q.num=0↔q=0:=⟨λh=>Rat.num_eq_zero.mp h,λh=>by rw[h];rfl⟩
theorem nz3 {a b c:Rat}:¬(a.num=0/\b.num=0/\c.num=0)↔¬(a=0/\b=0/\c=0):=by rw[num0,num0,num0]
theorem pn_nz {a b c d:Rat} (h:¬(a=0/\b=0/\c=0)):¬(pn a b c d a=0/\pn a b c d b=0/\pn a b c d c=0):=by
 have p:=pn_prim (d:=d) (nz3.2 h);rintro⟨r1,r2,r3⟩;unfold pn at r1 r2 r3;exact p.nz ⟨by exact_mod_cast r1,by exact_mod_cast r2,by exact_mod_cast r3⟩
end Go.Cham
namespace Go.Cham
open Go
theorem ten19:10^19=10000000000000000000:=by decide
theorem pow19_split {i:Nat} (hi:i<=19):10^19=10^i*10^(19 - i):=by rw[<-Nat.pow_add];congr 1;omega
theorem text_split {V i:Nat} (hi:i<=19):V / 10^i=V / 10000000000000000000*10^(19 - i)+V%10000000000000000000 / 10^i:=by
 have h:=Nat.div_add_mod V 10000000000000000000;have hp:=pow19_split hi;rw[ten19] at hp;have hpos:0<10^i:=Nat.pow_pos (by decide);conv=>lhs;rw[<-h,hp,Nat.mul_assoc,Nat.add_comm,Nat.add_mul_div_left _ _ hpos]
 rw[<-hp,Nat.mul_comm (10^(19 - i)),Nat.add_comm]
theorem text_dig {V i:Nat} (hi:i<19):V / 10^i%10=V%10000000000000000000 / 10^i%10:=by
 rw[text_split (Nat.le_of_lt hi)];have e:10^(19 - i)=10*10^(18 - i):=by rw[show 19 - i=(18 - i)+1 by omega,Nat.pow_succ,Nat.mul_comm]
 rw[e,<-Nat.mul_assoc,Nat.mul_comm _ 10,Nat.mul_assoc,Nat.mul_add_mod]
theorem text_nz {V i:Nat} (hi:i<=19) (h:0<V / 10000000000000000000\/0<V%10000000000000000000 / 10^i):V / 10^i≠0:=by
 rw[text_split hi];have:0<10^(19 - i):=Nat.pow_pos (by decide);rcases h with h|h;exact Nat.ne_of_gt (Nat.lt_of_lt_of_le (Nat.mul_pos h this) (Nat.le_add_right _ _));exact Nat.ne_of_gt (Nat.lt_of_lt_of_le h (Nat.le_add_left _ _))
theorem QX (a m i:Nat):a / 10^(m+i)=a / 10^m / 10^i:=by rw[Nat.pow_add,Nat.div_div_eq_div_mul]
theorem text_out {a m i V rr:Nat} {o:List Nat} (hV:V=a / 10^m) (hi:i<19) (ho:o=((ZH 10 a).take (m+i)).map (· +48)) (hr:rr=V%10000000000000000000 / 10^i) (h:0<V / 10000000000000000000\/0<rr):
    o++[48+rr%10]=((ZH 10 a).take (m+(i+1))).map (· +48):=by
 subst ho hr;have hz:a / 10^(m+i)≠0:=by rw[QX,<-hV];exact text_nz (by omega) h
 rw[show m+(i+1)=(m+i)+1 by omega,Zfd (by decide) _ _ hz,List.map_append,QX,<-hV,List.map_cons,List.map_nil,text_dig (V:=V) hi,Nat.add_comm 48]
theorem text_rr {V i:Nat}:V%10000000000000000000 / 10^i / 10=V%10000000000000000000 / 10^(i+1):=by rw[Nat.div_div_eq_div_mul,<-Nat.pow_succ]
theorem Zf5 {a m i V:Nat} (hV:V=a / 10^m) (hi:i<=19) (h:i=19\/(V / 10000000000000000000=0/\V%10000000000000000000 / 10^i=0)):V / 10000000000000000000=a / 10^(m+i):=by
 rw[QX,<-hV,text_split hi];rcases h with h|⟨h1,h2⟩;subst h;have:V%10000000000000000000 / 10^19=0:=Nat.div_eq_of_lt (by rw[ten19];exact Nat.mod_lt _ (by decide));rw[this];simp;rw[h1,h2];simp
theorem text_done {a m:Nat} {o:List Nat} (ha:a≠0) (h:a / 10^m=0) (ho:o=((ZH 10 a).take m).map (· +48)):o=(ZH 10 a).map (· +48)/\0<o.length:=by
 rw[Zgo (by decide) h] at ho;refine⟨ho,?_⟩;rw[ho,List.length_map,Zaf (by decide) ha];simp
theorem text_fin {a:Nat} {o us:List Nat} (ha:a≠0) (ho:o=(ZH 10 a).map (· +48)) (h:us=o.reverse):YV us=txt a:=by
 unfold txt decs;rw[if_neg ha,h,ho]
theorem val_pos {d:List Nat} (hz:d.getLast? ≠some 0) (h:0<d.length):0<val W64 d:=by
 have h1:=digs_val (B:=W64) (by decide) d;rcases Nat.eq_zero_or_pos (val W64 d) with e|e;exfalso;have:=Zeg (B:=W64) (by decide) d (by intro e;subst e;simp at h) hz;have:0<W64^(d.length - 1):=Nat.pow_pos (by decide);omega;exact e
theorem Zgc {ds:List Nat} {n:Nat} (hn:n<=ds.length) (h:n=0\/ds.getD (n - 1) 0≠0):(ds.take n).getLast? ≠some 0:=by
 rcases Nat.eq_zero_or_pos n with e|e;subst e;simp;rcases h with h|h;omega;rw[List.getLast?_eq_getElem?];have hl:(ds.take n).length=n:=by simp;omega
 rw[hl,List.getElem?_take,if_pos (by omega)];rw[List.getD_eq_getElem?_getD,List.getElem?_eq_getElem (by omega)] at h;rw[List.getElem?_eq_getElem (by omega)];simpa using h
theorem lt_take {ds:List Nat} {n B:Nat} (h:∀e∈ds,e<B):∀e∈ds.take n,e<B:=λe he=>h e (List.mem_of_mem_take he)
structure Zgy (o us:List Nat) (i:Nat):Prop where
  len:us.length=o.length
  get:∀k,k<o.length->us.getD k 0=if k<i\/o.length<=k+i then o.getD (o.length - 1 - k) 0 else o.getD k 0
theorem Zgy.start (o:List Nat):Zgy o o 0:=⟨rfl,λk hk=>by rw[if_neg (by omega)]⟩
theorem Zgy.step {o us:List Nat} {i j:Nat} (h:Zgy o us i) (hj:j+i+1=o.length) (hi:i<j):Zgy o ((us.set i (us.getD j 0)).set j (us.getD i 0)) (i+1):=by
 refine⟨by simp[h.len],λk hk=>?_⟩;have e1:us.getD j 0=o.getD j 0:=by rw[h.get j (by omega),if_neg (by omega)]
 have e2:us.getD i 0=o.getD i 0:=by rw[h.get i (by omega),if_neg (by omega)]
 rw[e1,e2];by_cases hkj:k=j;subst hkj;rw[if_pos (by omega),YN (by rw[List.length_set,h.len];omega)];congr 1;omega;rw[XB (by omega)];by_cases hki:k=i;subst hki;rw[if_pos (by omega),YN (by rw[h.len];omega)];congr 1;omega;rw[XB (by omega),h.get k hk];by_cases hc:k<i\/o.length<=k+i;rw[if_pos hc,if_pos (by omega)];rw[if_neg hc,if_neg (by omega)]
theorem Zgy.done {o us:List Nat} {i j:Nat} (h:Zgy o us i) (hj:j+i+1=o.length) (hi:¬i<j) (hij:i<=j+1):us=o.reverse:=by
 apply List.ext_getElem (by simp[h.len]);intro k h1 h2;have hk:k<o.length:=by rw[<-h.len];exact h1
 have hg:=h.get k hk;rw[List.getD_eq_getElem?_getD,List.getElem?_eq_getElem h1] at hg;simp only[Option.getD_some] at hg;rw[hg,List.getElem_reverse];have hget:∀q,q<o.length->o.getD q 0=o[q]! :=λq hq=>by simp[List.getD_eq_getElem?_getD,List.getElem?_eq_getElem hq,hq]
 split;rw[hget _ (by omega)];simp[show o.length - 1 - k<o.length by omega];have:k=o.length - 1 - k:=by omega
 rw[hget k hk];simp only[hk,getElem!_pos];congr 1
theorem Gw.retake {b rest len cap n} {d ds:List Nat} (h:Gw (Option.some (b,rest)) len cap 1 (Yw d)) (hl:ds.length=d.length) (hn:n<=len):Gw (Option.some (b,Yw (ds.drop n)++rest)) n cap 1 (Yw (ds.take n)):=by
 have h1:=h.hl;have h2:=h.hs _ rfl;have h3:=h.hc;rw[ZM] at h1;simp only[List.length_append,ZM] at h2;refine⟨by rw[ZM,List.length_take];omega,by omega,by simp,λx hx=>?_⟩;cases hx;simp only[List.length_append,ZM,List.length_take,List.length_drop];omega
theorem digs_nil {B n:Nat} (hB:2<=B) (h:(ZH B n).length=0):n=0:=by
 have:=ZV hB n;rw[List.length_eq_zero_iff.1 h] at this;exact this.symm
theorem digs10_len {a k:Nat} (h:a<=2^k):(ZH 10 a).length<=k+1:=by
 have:=Zaa h;unfold decs at this;split at this;rename_i e;rw[e,YR];simp;simpa using this
theorem text_pos {ds:List Nat} {n V:Nat} (hn:n<=ds.length) (hz:n=0\/ds.getD (n - 1) 0≠0) (h0:0<n) (hv:val W64 (ds.take n)=val W64 ds) (hV:val W64 ds=V):0<V:=by
 rw[<-hV,<-hv];exact val_pos (Zgc hn hz) (by simp;omega)
theorem text_zero {ds:List Nat} {n V:Nat} (h0:¬ 0<n) (hv:val W64 (ds.take n)=val W64 ds) (hV:val W64 ds=V):V=0:=by
 rw[<-hV,<-hv,show n=0 by omega];rfl
end Go.Cham
namespace Go.Cham
open Go Go.RowKit
section
variable {P : Program} {a : Act} {w : World} {n : Nat} {l : List (Nat × Value)} {K : Value → World → Prop}
variable {d : Option Tmp} {ty : TypeId} {pos : String} {af : Array Edge} {g0 : Option (Nat × Bool)}
theorem YH {t:TypeId} {x y:Operand} {kd:IntKind} {i:Int} {s:ByteArray} {j:Nat} (hL:ZL a n l) (hx:ev l x=some (.string s)) (hy:ev l y=some (.int kd i))
    (ht:P.underlying t=some .string) (hj:i=(j:Int)) (h:j<s.size) (k:K (.int .u8 (((bl s).getD j 0:Nat):Int)) w):YY P ⟨d,.index t x y,ty,pos,af,g0⟩ a w K:=by
 rw[<-bl_getD s j h] at k;refine Zgm (c:=s.data.toList.getD j 0) hL hx hy ht ?_ ?_ k;first|omega|(constructor <;> omega)
 exact str_at ⟨h,hj⟩
end
theorem Zav {s:ByteArray} (h:¬s=(⟨#[]⟩:ByteArray)):0<s.size:=by
 rcases Nat.eq_zero_or_pos s.size with e|e;exfalso;apply h;apply bl_inj;rw[List.length_eq_zero_iff.1 (show(bl s).length=0 by rw[YD];exact e)];rfl;exact e
theorem QQ {s:ByteArray} (h:s=(⟨#[]⟩:ByteArray)):¬wd (bl s):=by subst h;exact λh=>h.1 rfl
theorem XM {l:List Nat} (h1:1<l.length) (h:l.getD 0 0=48):¬wd l:=λhw=>by rcases hw.2.2 with q|q <;> omega
theorem Zgb {l:List Nat} {i:Nat} (hi:i<l.length) (h:l.getD i 0<48\/57<l.getD i 0):¬wd l:=λhw=>by
  have:=hw.2.1 (l.getD i 0) (by rw[List.getD_eq_getElem?_getD,List.getElem?_eq_getElem hi];simp)
  omega
theorem wd_of {l:List Nat} {i:Nat} (h0:0<l.length) (h48:l.length=1\/l.getD 0 0≠48) (hi:l.length<=i) (h:∀k,k<i->48<=l.getD k 0/\l.getD k 0<=57):wd l:=by
 refine⟨by intro e;subst e;simp at h0,λc hc=>?_,h48⟩;obtain⟨k,hk,rfl⟩:=List.getElem_of_mem hc;have:=h k (by omega);rw[List.getD_eq_getElem?_getD,List.getElem?_eq_getElem hk] at this;simpa using this
theorem dig_step {l:List Nat} {i:Nat} (h:∀k,k<i->48<=l.getD k 0/\l.getD k 0<=57) (hi:¬(l.getD i 0<48)/\¬(57<l.getD i 0)):∀k,k<i+1->48<=l.getD k 0/\l.getD k 0<=57:=λk hk=>by
  rcases Nat.lt_or_ge k i with q|q
  · exact h k q
  · have:k=i:=by omega
    subst this;omega
theorem pval_append (l m:List Nat):Xi (l++m)=Xi l*10^m.length+Xi m:=by
 unfold Xi;rw[List.reverse_append,List.map_append,Za6,List.length_map,List.length_reverse];rw[Nat.mul_comm,Nat.add_comm]
theorem Ze9 {l:List Nat} {i:Nat} (h:i<l.length):Xi (l.take (i+1))=10*Xi (l.take i)+(l.getD i 0 - 48):=by
 rw[List.take_succ_eq_append_getElem h,pval_snoc,List.getD_eq_getElem?_getD,List.getElem?_eq_getElem h];rfl
theorem pval_take_lt {l:List Nat} {i:Nat} (h:∀c∈l,48<=c/\c<=57):Xi (l.take i)<10^i:=by
 have h1:=pval_lt (l:=l.take i) (λc hc=>h c (List.mem_of_mem_take hc));refine Nat.lt_of_lt_of_le h1 (Nat.pow_le_pow_right (by decide) ?_);rw[List.length_take];omega
theorem digit_at {l:List Nat} {i:Nat} (h:∀c∈l,48<=c/\c<=57) (hi:i<l.length):48<=l.getD i 0/\l.getD i 0<=57:=by
 refine h _ ?_;rw[List.getD_eq_getElem?_getD,List.getElem?_eq_getElem hi];simp
theorem pow10_le {i:Nat} (h:i<=19):10^i<=10000000000000000000:=by rw[<-ten19];exact Nat.pow_le_pow_right (by decide) h
structure ByInv (d us:List Nat) (y c0 i c:Nat):Prop where
  len:us.length=d.length
  lt:∀e∈us,e<18446744073709551616
  sum:val W64 (us.take i)+W64^i*c=val W64 (d.take i)*y+c0
  rest:∀k,i<=k->us.getD k 0=d.getD k 0
  cb:c<y
theorem ByInv.start {d:List Nat} {y c0:Nat} (h:∀e∈d,e<18446744073709551616) (hc:c0<y):ByInv d d y c0 0 c0:=⟨rfl,h,by simp[val],λ_ _=>rfl,hc⟩
theorem by_sum {A B T X x y c c' o c0:Nat} (h:A+T*c=B*y+c0) (hx:o+X*c'=x*y+c):A+T*o+T*X*c'=(B+T*x)*y+c0:=by
 have e:=congrArg (T* ·) hx;simp only[Nat.mul_add] at e;rw[Nat.add_mul,Nat.mul_assoc T x y,Nat.mul_assoc T X c'];omega
theorem ByInv.step {d us:List Nat} {y c0 i c o c':Nat} (h:ByInv d us y c0 i c) (hi:i<d.length) (hy:y<18446744073709551616)
    (ho:o=(us.getD i 0*y%18446744073709551616+c+0)%18446744073709551616) (hc:c'=us.getD i 0*y / 18446744073709551616+(us.getD i 0*y%18446744073709551616+c+0) / 18446744073709551616):ByInv d (us.set i o) y c0 (i+1) c':=by
 have hx:us.getD i 0<18446744073709551616:=ZS h.lt (by decide) _;have hsum:o+18446744073709551616*c'=us.getD i 0*y+c:=by omega
 refine⟨by simp[h.len],Zb0 h.lt (by omega),?_,λk hk=>?_,?_⟩;rw[YW _ _ _ (by rw[List.length_set,h.len];omega),Zej,YN (by rw[h.len];omega),YW _ _ _ hi,<-h.rest i (Nat.le_refl _),Nat.pow_succ];exact by_sum h.sum hsum;rw[XB (by omega)];exact h.rest k (by omega);have h1:us.getD i 0*y<=18446744073709551615*y:=Nat.mul_le_mul_right _ (by omega);have h2:=h.cb;omega
theorem by_lt {x y c:Nat} (hx:x<18446744073709551616) (hc:c<y):x*y / 18446744073709551616+(x*y%18446744073709551616+c+0) / 18446744073709551616<y:=by
 have h1:x*y<=18446744073709551615*y:=Nat.mul_le_mul_right _ (by omega);omega
theorem ByInv.done {d us:List Nat} {y c0 i c:Nat} (h:ByInv d us y c0 i c) (hi:d.length<=i) (hi2:i=d.length):val W64 us+W64^us.length*c=val W64 d*y+c0:=by
 have hs:=h.sum;rw[List.take_of_length_le (by rw[h.len];omega),List.take_of_length_le hi] at hs;rw[h.len,<-hi2];exact hs
theorem val_snoc (ds:List Nat) (c:Nat):val W64 (ds++[c])=val W64 ds+W64^ds.length*c:=by rw[Za6];simp[val]
theorem lt_snoc {ds:List Nat} {c B:Nat} (h:∀e∈ds,e<B) (hc:c<B):∀e∈ds++[c],e<B:=by
 intro e he;rcases List.mem_append.1 he with q|q;exact h e q;simp at q;omega
theorem parse_next {l t:List Nat} {k n V c:Nat} (ht:t=l.drop k) (hV:V=Xi (l.take k)) (hn:n<=t.length) (hc:c=Xi (t.take n)):V*10^n+c=Xi (l.take (k+n)):=by
 have e:l.take (k+n)=l.take k++t.take n:=by rw[ht,List.take_add]
 rw[e,pval_append,<-hV,<-hc];congr 2;rw[List.length_take];congr 1;omega
theorem Gw.same {g:Option (Nat × List Value)} {len cap:Nat} {d ds:List Nat} (h:Gw g len cap 1 (Yw d)) (hl:ds.length=d.length):Gw g len cap 1 (Yw ds):=by
 have h1:=h.hl;rw[ZM] at h1;refine⟨by rw[ZM];omega,h.hc,h.hn,λx hx=>?_⟩;have:=h.hs x hx;simp only[List.length_append,ZM] at this ⊢;omega
end Go.Cham
namespace Go.Cham
open Go
theorem u32s_get0 {ds:List Nat} {rest:List Value} {j:Nat} (h:j<ds.length):(YG ds++rest)[j]? =some (.int .u32 ((ds.getD j 0:Nat):Int)):=by
 have:=Xu (ds:=ds) (pre:=[]) (rest:=rest) h;simpa using this
theorem Gn.rek {S:Sh} {c:Value} {n k k':Nat} (h:Gn S c n k) (hk:n<=2^k'):Gn S c n k':=⟨hk,h.2⟩
theorem Gn.toE {S:Sh} {c:Value} {n m k:Nat} (h:Gn S c n k) (e:n=m):Gn S c m k:=e▸h
theorem QZ {n:Nat} (h:(ZH W16 n).length=0):n=0:=digs_nil (by decide) h
theorem Qe {n:Nat} (h:0<(ZH W16 n).length):n≠0:=by rintro rfl;rw[YR] at h;simp at h
theorem Qf {n k:Nat} (h:n<=2^k):(ZH W16 n).length<=k / 16+1:=by
 refine QY (by decide) (Nat.lt_of_le_of_lt h ?_);have e:W16^(k / 16+1)=2^(16*(k / 16+1)):=by rw[Nat.pow_mul]
 rw[e];exact Nat.pow_lt_pow_right (by decide) (by omega)
theorem val16_pred {n:Nat} {ds:List Nat} (h0:0<n) (hn:n<=ds.length) (h:ds.getD (n - 1) 0=0):val W16 (ds.take (n - 1))=val W16 (ds.take n):=Zcr h0 hn h
theorem Gn.cut {S:Sh} {p:Option Addr} {len cap n k:Nat} {ds:List Nat} (h:Gd S p len cap ds) (hn:n<=len) (hz:n=0\/ds.getD (n - 1) 0≠0) (hv:val W16 (ds.take n)=val W16 ds) (hk:val W16 ds<=2^k):Gn S (.slice p n cap) (val W16 ds) k:=by
 have hl:=h.hlen;refine Gn.ofGd (ds:=ds.take n) ⟨by rw[List.length_take];omega,by have:=h.hcap;omega,by have:=h.hbig;omega,λd hd=>h.hlt d (List.mem_of_mem_take hd),λh0=>?_⟩ (Zgc (by omega) hz) hv.symm hk;obtain⟨b,off,pre,rest,e,r,q⟩:=h.row (by omega);refine⟨b,off,pre,YG (ds.drop n)++rest,e,?_,q⟩;rw[show pre++YG (ds.take n)++(YG (ds.drop n)++rest)=pre++YG ds++rest from by rw[List.append_assoc,<-u32s_split,List.append_assoc]];exact r
theorem bitlen_digs16 {n:Nat} (h0:n≠0):Zs n=16*((ZH W16 n).length - 1)+Zs ((ZH W16 n).getD ((ZH W16 n).length - 1) 0):=by
 have hd:=Zee (B:=W16) (by decide) h0;have hne:ZH W16 n≠[]:=by intro e';have:=ZV (B:=W16) (by decide) n;rw[e'] at this;exact h0 this.symm
 have hl:0<(ZH W16 n).length:=List.length_pos_iff.2 hne;have hv:=XF W16 (ZH W16 n) ((ZH W16 n).length - 1) (by omega);rw[ZV (by decide),Yv (by omega),show(ZH W16 n).length - 1+1=(ZH W16 n).length by omega,List.drop_length] at hv;simp only[val,Nat.mul_zero,Nat.add_zero] at hv;have ht:=Zdw (B:=W16) (by decide) (Zdc (by decide) n) ((ZH W16 n).length - 1) (by omega);generalize (ZH W16 n).getD ((ZH W16 n).length - 1) 0=t at*;generalize (ZH W16 n).length - 1=m at*;obtain⟨h1,h2⟩:=Zbs hd;have hp:=Zcm hd;have e64:W16^m=2^(16*m):=by rw[Nat.pow_mul]
 rw[e64] at hv ht
 have:=Zdf (n:=n) (k:=16*m+(Zs t - 1)) (by
   rw[Nat.pow_add,hv]
   exact Nat.le_trans (Nat.mul_le_mul_left _ h1) (by omega)) (by
   rw[show 16*m+(Zs t - 1)+1=16*m+Zs t by omega,Nat.pow_add,hv]
   have:2^(16*m)*t+2^(16*m)<=2^(16*m)*2^Zs t:=by
     rw[<-Nat.mul_succ];exact Nat.mul_le_mul_left _ h2
   omega)
 rw[this];omega
theorem bitlen_half {d:Nat} (h:0<d):Zs d=Zs (d / 2)+1:=by
 obtain⟨h1,h2⟩:=Zbs (n:=d) (by omega);rcases Nat.eq_zero_or_pos (d / 2) with e|e;have:d=1:=by omega
 subst this;rfl;obtain⟨h3,h4⟩:=Zbs (n:=d / 2) (by omega);have hp:=Zcm (n:=d / 2) (by omega);have e1:2^Zs (d / 2)=2^(Zs (d / 2) - 1)*2:=by rw[<-Nat.pow_succ];congr 1;omega
 have e2:2^(Zs (d / 2)+1)=2^Zs (d / 2)*2:=Nat.pow_succ _ _;exact Zdf (k:=Zs (d / 2)) (by omega) (by omega)
theorem of_sum {V i r:Nat}:V+W16^i*(r%65536)+W16^(i+1)*(r / 65536)=V+W16^i*r:=by
 rw[Nat.pow_succ,Nat.mul_assoc,Nat.add_assoc,<-Nat.mul_add];congr 2;exact Nat.mod_add_div r 65536
theorem of_le {i r n:Nat} (h:r*W16^i<=n):r / 65536*W16^(i+1)<=n:=by
 refine Nat.le_trans ?_ h;rw[Nat.pow_succ,Nat.mul_comm (W16^i),<-Nat.mul_assoc];exact Nat.mul_le_mul_right _ (Nat.div_mul_le_self r 65536)
theorem of_len {i r n:Nat} (h:r*W16^i<=n) (h0:0<r) (hn:n<18446744073709551616):i<=4:=by
 rcases Nat.lt_or_ge 4 i with q|q;exfalso;have h1:W16^4<=W16^i:=Nat.pow_le_pow_right (by decide) (by omega);have h2:W16^4=18446744073709551616:=by decide
 have h3:=Nat.mul_le_mul_right (W16^i) h0;omega;exact q
theorem of_len2 {us:List Nat} {i r n:Nat} (hz:us.getLast? ≠some 0\/0<r) (hv:val W16 us+W16^i*r=n) (hi:us.length=i) (hlt:∀e∈us,e<65536) (hn:n<18446744073709551616):i<=5:=by
 rcases Nat.lt_or_ge 5 i with q|q;exfalso;have h1:W16^5<=W16^(i - 1):=Nat.pow_le_pow_right (by decide) (by omega);have h2:W16^5=18446744073709551616*65536:=by decide
 have h4:W16^(i - 1)<=W16^i:=Nat.pow_le_pow_right (by decide) (by omega);rcases hz with h|h;have:=Zeg (B:=W16) (by decide) us (by intro e;subst e;simp at hi;omega) h;rw[hi] at this;omega;have h3:=Nat.mul_le_mul_left (W16^i) h;omega;exact q
theorem digs16_mono {a b:Nat} (h:b<=a):(ZH W16 b).length<=(ZH W16 a).length:=QY (by decide) (Nat.lt_of_le_of_lt h (lt_digs_pow (by decide) a))
structure Add16 (x y us:List Nat) (i c:Nat):Prop where
  len:us.length=i
  lt:∀e∈us,e<65536
  c1:c<=1
  sum:val W16 us+W16^i*c=val W16 (x.take i)+val W16 (y.take i)
theorem Add16.start {x y:List Nat}:Add16 x y [] 0 0:=⟨rfl,by simp,by omega,by simp[val]⟩
theorem take16 (ds:List Nat) (i:Nat):val W16 (ds.take (i+1))=val W16 (ds.take i)+W16^i*ds.getD i 0:=by
 rcases Nat.lt_or_ge i ds.length with h|h;exact YW _ _ _ h;rw[List.take_of_length_le (by omega),List.take_of_length_le h,Zah h];simp
theorem val16_snoc (ds:List Nat) (c:Nat):val W16 (ds++[c])=val W16 ds+W16^ds.length*c:=by rw[Za6];simp[val]
theorem add16_sum {A T c X Y x y o c':Nat} (h:A+T*c=X+Y) (hx:o+65536*c'=c+x+y):(A+T*o)+T*65536*c'=(X+T*x)+(Y+T*y):=by
 have e:=congrArg (T* ·) hx;simp only[Nat.mul_add] at e;rw[Nat.mul_assoc T 65536 c'];omega
theorem Add16.step {x y us:List Nat} {i c:Nat} (h:Add16 x y us i c) (hx:∀e∈x,e<65536) (hy:∀e∈y,e<65536) {s:Nat} (hs:s=c+x.getD i 0+y.getD i 0):Add16 x y (us++[s%65536]) (i+1) (s / 65536):=by
 have h1:=ZS hx (by decide) i;have h2:=ZS hy (by decide) i;have h3:=h.c1;refine⟨by rw[List.length_append,h.len];rfl,lt_snoc h.lt (Nat.mod_lt _ (by decide)),by omega,?_⟩;rw[val16_snoc,h.len,take16,take16,Nat.pow_succ];exact add16_sum h.sum (by omega)
theorem Add16.done {x y us:List Nat} {i:Nat} (h:Add16 x y us i 0) (hx:x.length<=i) (hy:y.length<=i):val W16 us=val W16 x+val W16 y:=by
 have:=h.sum;rw[List.take_of_length_le hx,List.take_of_length_le hy] at this;simpa using this
structure Sub16 (x y us:List Nat) (i c:Nat):Prop where
  len:us.length=i
  lt:∀e∈us,e<65536
  c1:c<=1
  sum:val W16 us+val W16 (y.take i)=val W16 (x.take i)+W16^i*c
theorem Sub16.start {x y:List Nat}:Sub16 x y [] 0 0:=⟨rfl,by simp,by omega,by simp[val]⟩
theorem sub16_sum {A T c X Y x y o c':Nat} (h:A+Y=X+T*c) (hx:o+y+c=x+65536*c'):(A+T*o)+(Y+T*y)=(X+T*x)+T*65536*c':=by
 have e:=congrArg (T* ·) hx;simp only[Nat.mul_add] at e;rw[Nat.mul_assoc T 65536 c'];omega
theorem Sub16.step {x y us:List Nat} {i c:Nat} (h:Sub16 x y us i c) (hx:∀e∈x,e<65536) (hy:∀e∈y,e<65536) {s:Nat} (hs:s=x.getD i 0+65536 - c - y.getD i 0):Sub16 x y (us++[s%65536]) (i+1) (1 - s / 65536):=by
 have h1:=ZS hx (by decide) i;have h2:=ZS hy (by decide) i;have h3:=h.c1;refine⟨by rw[List.length_append,h.len];rfl,lt_snoc h.lt (Nat.mod_lt _ (by decide)),by omega,?_⟩;rw[val16_snoc,h.len,take16,take16,Nat.pow_succ];exact sub16_sum h.sum (by omega)
theorem Sub16.done {x y us:List Nat} {i c:Nat} (h:Sub16 x y us i c) (hx:x.length=i) (hle:val W16 y<=val W16 x) (hy:y.length<=i):val W16 us=val W16 x - val W16 y:=by
 have hs:=h.sum;rw[List.take_of_length_le hy,List.take_of_length_le (show x.length<=i by omega)] at hs;have hl:=Zf2 (B:=W16) (by decide) us h.lt;rw[h.len] at hl;exact borrow0 hs hl hle h.c1
structure Mul16 (x y us:List Nat) (i j c:Nat):Prop where
  len:us.length=x.length+y.length
  lt:∀e∈us,e<65536
  cb:c<65536
  sum:val W16 us+W16^(i+j)*c=val W16 (x.take i)*val W16 y+W16^i*(x.getD i 0*val W16 (y.take j))
  zero:∀k,i+j<=k->i+y.length<=k->us.getD k 0=0
  last:y.length<j->c=0
theorem Mul16.start {x y:List Nat} {n:Nat} (hn:n=x.length+y.length):Mul16 x y (List.replicate n 0) 0 0 0:=
  ⟨by simp[hn],by simp,by decide,by rw[val_rep0];simp[val],λk _ _=>rep_getD _ _,λh=>by omega⟩
theorem mul16_sum {A A' T c R Q x yj Y c' o u:Nat} (h1:A'+T*u=A+T*o) (h2:A+T*c=R+Q*(x*Y)) (h3:o+65536*c'=u+c+x*yj) {P:Nat} (hT:T=Q*P):A'+T*65536*c'=R+Q*(x*(Y+P*yj)):=by
 have e:=congrArg (T* ·) h3;simp only[Nat.mul_add] at e;rw[Nat.mul_assoc T 65536 c'];have e2:T*(x*yj)=Q*(x*(P*yj)):=by rw[hT];simp only[Nat.mul_assoc,Nat.mul_left_comm,Nat.mul_comm]
 rw[Nat.mul_add x,Nat.mul_add Q];omega
theorem mul16_le {x y:Nat} (hx:x<65536) (hy:y<65536):x*y<=4294836225:=by
 have:=Nat.mul_le_mul (Nat.le_of_lt_succ hx) (Nat.le_of_lt_succ hy);omega
theorem Mul16.step {x y us:List Nat} {i j c m s:Nat} (h:Mul16 x y us i j c) (hx:∀e∈x,e<65536) (hy:∀e∈y,e<65536) (hm:m=i+j) (hi:i<x.length) (hj:j<=y.length)
    (hs:s=us.getD m 0+c+x.getD i 0*y.getD j 0):Mul16 x y (us.set m (s%65536)) i (j+1) (s / 65536):=by
 subst hm;have hx1:=ZS hx (by decide) i;have hy1:=ZS hy (by decide) j;have hu1:=ZS h.lt (by decide) (i+j);have hp:=mul16_le hx1 hy1;have hc:=h.cb;have hv:=Zfj W16 us (i+j) (s%65536);rcases Nat.lt_or_ge (i+j) us.length with hlt|hge;have hv:=hv hlt;refine⟨by simp[h.len],Zb0 h.lt (Nat.mod_lt _ (by decide)),by omega,?_,λk h1 h2=>?_,λhl=>?_⟩;rw[show i+(j+1)=(i+j)+1 by omega,Nat.pow_succ,take16];exact mul16_sum hv h.sum (by omega) (Nat.pow_add _ _ _);rw[XB (by omega)];exact h.zero k (by omega) h2;have hjj:j=y.length:=by omega
 have h0:us.getD (i+j) 0=0:=h.zero _ (Nat.le_refl _) (by omega);have h1:y.getD j 0=0:=Zah (by omega);rw[hs,h0,h1];simp;exact hc;exfalso;have:=h.len;omega
theorem Mul16.next {x y us:List Nat} {i j:Nat} (h:Mul16 x y us i j 0) (hj:y.length<=j) (hj2:j<=y.length+1) (hi:i<x.length):Mul16 x y us (i+1) 0 0:=by
 refine⟨h.len,h.lt,by decide,?_,λk h1 h2=>h.zero k (by omega) (by omega),λh=>by omega⟩;have:=h.sum;rw[List.take_of_length_le hj] at this;simp only[Nat.mul_zero,Nat.add_zero,List.take_zero,val] at this ⊢;rw[this,take16,Nat.add_mul,Nat.mul_assoc]
theorem Mul16.done {x y us:List Nat} {i:Nat} (h:Mul16 x y us i 0 0) (hi:x.length<=i):val W16 us=val W16 x*val W16 y:=by
 have:=h.sum;rw[List.take_of_length_le hi] at this;simpa [val] using this
theorem cmpN_le {a b:Nat}:Zb4 a b<=0↔a<=b:=by
 unfold Zb4;split;constructor <;> omega;split <;> constructor <;> omega
structure Div16 (x qs:List Nat) (b kk r:Nat):Prop where
  len:qs.length=x.length
  lt:∀e∈qs,e<65536
  le:kk<=x.length
  sum:val W16 (x.drop kk)=val W16 (qs.drop kk)*b+r
  rb:r<b
  low:∀k,k<kk->qs.getD k 0=0
theorem Div16.start {x:List Nat} {n b:Nat} (hb:0<b) (hn:n=x.length):Div16 x (List.replicate n 0) b n 0:=
  ⟨by simp[hn],by simp,by omega,by rw[hn,List.drop_length,List.drop_eq_nil_of_le (by simp)];simp[val],hb,λk _=>rep_getD _ _⟩
theorem Div16.top {x qs:List Nat} {b kk r:Nat} (h:Div16 x qs b kk r) (hx:∀e∈x,e<65536):x.getD (kk - 1) 0+65536*r<65536*b:=by
 have h1:=ZS hx (by decide) (kk - 1);have h2:=h.rb;omega
theorem div16_sum {X Q x q r b r':Nat} (h:X=Q*b+r) (h2:x+65536*r=q*b+r'):x+65536*X=(q+65536*Q)*b+r':=by
 rw[h,Nat.add_mul,Nat.mul_assoc 65536 Q b];omega
theorem Div16.step {x qs:List Nat} {b kk r q:Nat} (h:Div16 x qs b kk r) (hk:0<kk) (hq:q<65536) (h1:q*b<=x.getD (kk - 1) 0+65536*r) (h2:x.getD (kk - 1) 0+65536*r<(q+1)*b):
    Div16 x (qs.set (kk - 1) q) b (kk - 1) (x.getD (kk - 1) 0+65536*r - q*b):=by
 have hl:=h.le;have hlen:=h.len;refine⟨by simp[h.len],Zb0 h.lt hq,by omega,?_,by rw[Nat.add_mul] at h2;omega,λk hk'=>?_⟩;rw[Yv (ds:=x) (by omega),Yv (ds:=qs.set (kk - 1) q) (by rw[List.length_set];omega),YN (by omega),show kk - 1+1=kk by omega,List.drop_set_of_lt (by omega)];exact div16_sum h.sum (by omega);rw[XB (by omega)];exact h.low k (by omega)
theorem Div16.done {x qs:List Nat} {b r:Nat} (h:Div16 x qs b 0 r):val W16 qs=val W16 x / b/\r=val W16 x%b:=by
 have hs:=h.sum;simp only[List.drop_zero] at hs;have hb:=h.rb;constructor;rw[hs,Nat.mul_comm,Nat.mul_add_div (by omega),Nat.div_eq_of_lt hb];omega;rw[hs,Nat.mul_comm,Nat.mul_add_mod,Nat.mod_eq_of_lt hb]
structure Half (r b lo hi:Nat):Prop where
  le:lo*b<=r
  lt:r<hi*b
  top:hi<=65536
theorem Half.lt' {r b lo hi:Nat} (h:Half r b lo hi):lo<hi:=Nat.lt_of_mul_lt_mul_right (Nat.lt_of_le_of_lt h.le h.lt)
theorem Half.start {r b:Nat} (h:r<65536*b):Half r b 0 65536:=⟨by omega,h,Nat.le_refl _⟩
theorem val16_cons (d:Nat) (r:List Nat):val W16 (d::r)=d+65536*val W16 r:=rfl
theorem val16_app1 (d n:Nat):val W16 ([d]++ZH W16 n)=d+65536*n:=by rw[List.singleton_append,val16_cons,ZV (by decide)]
theorem pow16_le {a b kb:Nat} (h:a<65536*b) (hb:b<=2^kb):a<=2^(kb+16):=by rw[Nat.pow_add];omega
theorem val_drop_le (ds:List Nat) (n:Nat):val W16 (ds.drop n)<=val W16 ds:=by
 rcases Nat.lt_or_ge n ds.length with h|h;have hv:=XF W16 ds n (by omega);have:1<=W16^n:=Nat.pow_pos (by decide);have:=Nat.mul_le_mul_right (val W16 (ds.drop n)) this;omega;rw[List.drop_eq_nil_of_le h];exact Nat.zero_le _
theorem small_step {ds:List Nat} {kk:Nat} (h0:0<kk) (h:kk<=ds.length):val W16 (ds.drop (kk - 1))=val W16 (ds.drop kk)*65536+ds.getD (kk - 1) 0:=by
 rw[Yv (by omega),show kk - 1+1=kk by omega,val16_cons];omega
theorem one16 {a:Nat} (h1:(ZH W16 a).length=1) (h2:(ZH W16 a).getD 0 0=1):a=1:=by
 have:=ZV (B:=W16) (by decide) a
 match e:ZH W16 a,h1 with
 |[d],_=>rw[e] at h2 this;simp at h2;subst h2;simpa [val] using this.symm
theorem one16' {a:Nat} (h:(ZH W16 a).length≠1\/(ZH W16 a).getD 0 0≠1):a≠1:=by
 rintro rfl;have:ZH W16 1=[1]:=by rw[Zaf (by decide) (by decide),show(1:Nat) / W16=0 from by decide,YR];rfl
 rw[this] at h;simp at h
theorem tx_split {p V i:Nat} (hi:i<=p):V / 10^i=V / 10^p*10^(p - i)+V%10^p / 10^i:=by
 have h:=Nat.div_add_mod V (10^p);have hp:10^p=10^i*10^(p - i):=by rw[<-Nat.pow_add];congr 1;omega
 have hpos:0<10^i:=Nat.pow_pos (by decide);conv=>lhs;rw[<-h]
 rw[show 10^p*(V / 10^p)=10^i*(10^(p - i)*(V / 10^p)) from by rw[<-Nat.mul_assoc,<-hp],Nat.add_comm,Nat.add_mul_div_left _ _ hpos,Nat.mul_comm (10^(p - i)),Nat.add_comm]
theorem tx_dig {p V i:Nat} (hi:i<p):V / 10^i%10=V%10^p / 10^i%10:=by
 rw[tx_split (Nat.le_of_lt hi)];have e:10^(p - i)=10*10^(p - i - 1):=by rw[show p - i=(p - i - 1)+1 by omega,Nat.pow_succ,Nat.mul_comm];rfl
 rw[e,<-Nat.mul_assoc,Nat.mul_comm _ 10,Nat.mul_assoc,Nat.mul_add_mod]
theorem tx_nz {p V i:Nat} (hi:i<=p) (h:0<V / 10^p\/0<V%10^p / 10^i):V / 10^i≠0:=by
 rw[tx_split hi];have:0<10^(p - i):=Nat.pow_pos (by decide);rcases h with h|h;exact Nat.ne_of_gt (Nat.lt_of_lt_of_le (Nat.mul_pos h this) (Nat.le_add_right _ _));exact Nat.ne_of_gt (Nat.lt_of_lt_of_le h (Nat.le_add_left _ _))
def tl (a m:Nat):List Nat:=(((ZH 10 a).take m).map (· +48)).reverse
theorem tl_step {a m i V d:Nat} (hV:V=a / 10^m) (hi:i<4) (hd:d=V%10000 / 10^i) (h:0<V / 10000\/0<d):[48+d%10]++tl a (m+i)=tl a (m+(i+1)):=by
 subst hd;have hz:a / 10^(m+i)≠0:=by rw[QX,<-hV];exact tx_nz (p:=4) (by omega) h
 unfold tl;rw[show m+(i+1)=(m+i)+1 by omega,Zfd (by decide) _ _ hz,List.map_append,List.reverse_append,QX,<-hV,List.map_cons,List.map_nil,tx_dig (p:=4) (V:=V) hi,Nat.add_comm 48];rfl
theorem tl_next {a m i V:Nat} (hV:V=a / 10^m) (hi:i<=4) (h:i=4\/(V / 10000=0/\V%10000 / 10^i=0)):V / 10000=a / 10^(m+i):=by
 rw[QX,<-hV,tx_split (p:=4) hi];rcases h with h|⟨h1,h2⟩;subst h;have:V%10^4 / 10^4=0:=Nat.div_eq_of_lt (Nat.mod_lt _ (by decide));rw[this];simp;rw[show 10^4=10000 from rfl,h1,h2];simp
theorem tl_rr {V i:Nat}:V%10000 / 10^i / 10=V%10000 / 10^(i+1):=by rw[Nat.div_div_eq_div_mul,<-Nat.pow_succ]
theorem tl_done {a m:Nat} (ha:a≠0) (h:a / 10^m=0):tl a m=decs a:=by
 unfold tl decs;rw[Zgo (by decide) h,if_neg ha]
theorem tl_len (a m:Nat):(tl a m).length<=(ZH 10 a).length:=by unfold tl;simp;omega
theorem bl_one {d:Nat} (h:d<256):bl (YV [d])=[d]:=Qd (by simp;exact h)
section
open Go.RowKit
variable {P : Program} {a : Act} {w : World} {n : Nat} {l : List (Nat × Value)} {K : Value → World → Prop}
variable {d : Option Tmp} {ty : TypeId} {pos : String} {af : Array Edge} {g0 : Option (Nat × Bool)}
theorem does_appendGn {x y:Operand} {t:TypeId} {len cap q k0:Nat} {c:Value} {g:Option (Nat × List Value)} {ds:List Nat} {S0 S:Sh} {w0:World} {H:Own} (hL:ZL a n l)
    (hx:ev l x=Option.some (.slice (gp g) len cap)) (hy:ev l y=Option.some c)
    (ht:P.underlying t=Option.some (.slice tU32)) (hZ:YE P tU32=Option.some 1) (hB:Zap P tU32=Option.some 4) (hz:QJ P tU32=Option.some (.int .u32 0)) (hG:Gw g len cap 1 (YG ds)) (hR:Run S0 w0 S (Xs g tU32 (YG ds)++H) w)
    (hd:Gn S c q k0) (hlim:len+(ZH W16 q).length<=1099511627776)
    (k:∀g' cap' w',Gw g' (len+(ZH W16 q).length) cap' 1 (YG (ds++ZH W16 q))->Run S0 w0 S (Xs g' tU32 (YG (ds++ZH W16 q))++H) w'->K (.slice (gp g') (len+(ZH W16 q).length) cap') w'):YY P ⟨d,.call ⟨.builtin .append,#[x,y],#[t,t]⟩,ty,pos,af,g0⟩ a w K:=by
 obtain⟨_,p,len2,cap2,rfl,h⟩:=hd.open;have hl:=h.hlen;subst hl;exact does_appendGd hL hx hy ht hZ hB hz hG hR h hlim k
end
theorem ofBl_size1 (d:Nat):(YV [d]).size=1:=rfl
theorem lt_app16 {x n:Nat} (h:x<65536):∀e∈[x]++ZH W16 n,e<65536:=by
 intro e he;rcases List.mem_append.1 he with q|q;simp at q;omega;exact Zdc (by decide) n e q
end Go.Cham
namespace Go.Cham
open Go
def sI (mi:Bool) (a:Nat):Int:=if mi=true then -(a:Int) else a
def Yy (z:Int):Int:=if z=0 then 0 else if z<0 then -1 else 1
def cmpZ (a b:Int):Int:=if a<b then -1 else if b<a then 1 else 0
def cmpQ (a b:Rat):Int:=if a<b then -1 else if b<a then 1 else 0
theorem Yf {z:Int}:Yy z=0↔z=0:=by
 unfold Yy;split;simp_all;split <;> simp_all
theorem Za2 {z:Int}:Yy z<0↔z<0:=by
 unfold Yy;split;omega;split <;> omega
theorem sgnZ_cases (z:Int):Yy z= -1\/Yy z=0\/Yy z=1:=by
 unfold Yy;split;simp;split <;> simp
theorem bitlen_one {n:Nat}:Zs n=1↔n=1:=by
 unfold Zs;split;omega;rename_i h;constructor;intro e;have h1:n.log2=0:=by omega
 have:=(Nat.log2_lt (n:=n) (k:=1) h).1 (by omega);omega;intro e;subst e;rfl
theorem bitlen_gt1 {n:Nat}:1<Zs n↔1<n:=by
 have h0:=@Qg n;have h1:=@bitlen_one n;omega
theorem sI_abs (mi:Bool) (a:Nat):(sI mi a).natAbs=a:=by unfold sI;cases mi <;> simp
theorem mul_sI {a b:Int}:sI (decide (¬(decide (a<0))=(decide (b<0)))) (a.natAbs*b.natAbs)=a*b:=by
 unfold sI;rcases Int.lt_or_le a 0 with ha|ha <;> rcases Int.lt_or_le b 0 with hb|hb;have e:a*b=(-a)*(-b):=by rw[Int.neg_mul_neg]
 rw[e];simp only[ha,hb,decide_true,not_true_eq_false,decide_false,Bool.false_eq_true,if_false];rw[Int.natCast_mul];congr 1 <;> omega;simp only[ha,show ¬b<0 by omega,decide_true,decide_false];simp only[Bool.true_eq_false,not_false_eq_true,decide_true,if_true];rw[Int.natCast_mul,<-Int.neg_mul];congr 1 <;> omega;simp only[hb,show ¬a<0 by omega,decide_true,decide_false];simp only[Bool.false_eq_true,not_false_eq_true,decide_true,if_true];rw[Int.natCast_mul,<-Int.mul_neg];congr 1 <;> omega;simp only[show ¬a<0 by omega,show ¬b<0 by omega,decide_false,not_true_eq_false,Bool.false_eq_true,if_false];rw[Int.natCast_mul];congr 1 <;> omega
theorem add_sI {a b:Int} (h:(decide (a<0))=(decide (b<0))):sI (decide (a<0)) (a.natAbs+b.natAbs)=a+b:=by
 rw[decide_eq_decide] at h;unfold sI;by_cases ha:a<0;rw[if_pos (decide_eq_true ha)];have:=h.1 ha;omega;rw[if_neg (by simpa using ha)];have:¬b<0:=λq=>ha (h.2 q);omega
theorem dif_sI {a b:Int} (h:¬(decide (a<0))=(decide (b<0))) (hl:b.natAbs<=a.natAbs):sI (decide (a<0)) (a.natAbs - b.natAbs)=a+b:=by
 rw[decide_eq_decide] at h;unfold sI;by_cases ha:a<0;rw[if_pos (decide_eq_true ha)];have:¬b<0:=λq=>h ⟨λ_=>q,λ_=>ha⟩;omega;rw[if_neg (by simpa using ha)];have:b<0:=by rcases Int.lt_or_le b 0 with q|q;exact q;exact absurd ⟨λp=>absurd p ha,λp=>by omega⟩ h
 omega
theorem neg_sI {a:Int}:sI (!(decide (a<0))) a.natAbs= -a:=by
 unfold sI;by_cases ha:a<0;simp[ha];omega;simp[ha];omega
theorem cmpZ_nn {a b:Int} (ha:¬a<0) (hb:¬b<0):Zb4 a.natAbs b.natAbs=cmpZ a b:=by unfold Zb4 cmpZ;repeat' split <;> omega
theorem cmpZ_np {a b:Int} (ha:a<0) (hb:¬b<0):cmpZ a b= -1:=by unfold cmpZ;rw[if_pos (by omega)]
theorem cmpZ_pn {a b:Int} (ha:¬a<0) (hb:b<0):cmpZ a b=1:=by unfold cmpZ;rw[if_neg (by omega),if_pos (by omega)]
theorem cmpZ_neg {a b:Int} (ha:a<0) (hb:b<0):Zb4 b.natAbs a.natAbs=cmpZ a b:=by unfold Zb4 cmpZ;repeat' split <;> omega
theorem den_ne {q:Rat}:(q.den:Rat)≠0:=by
 intro z;have:q.den=0:=by exact_mod_cast z
 exact q.den_nz this
theorem mkRat_rat (q:Rat):mkRat q.num q.den=q:=Rat.mkRat_self q
theorem mkRat_one (z:Int):mkRat z 1=(z:Rat):=by
 rw[Rat.mkRat_eq_div];have:((1:Nat):Rat)=1:=rfl;rw[this];grind
theorem Qa {a b:Rat}:mkRat (a.num*(b.den:Int)+b.num*(a.den:Int)) (a.den*b.den)=a+b:=by
 rw[Rat.mkRat_eq_div];have ha:=XL a;have hb:=XL b;have h1:((a.num*(b.den:Int)+b.num*(a.den:Int):Int):Rat)=(a.num:Rat)*(b.den:Rat)+(b.num:Rat)*(a.den:Rat):=by rw[Rat.intCast_add,Rat.intCast_mul,Rat.intCast_mul];rfl
 have h2:((a.den*b.den:Nat):Rat)=(a.den:Rat)*(b.den:Rat):=Rat.natCast_mul _ _;rw[h1,h2,<-ha,<-hb];have h3:=@den_ne a;have h4:=@den_ne b;grind
theorem mkRat_sub {a b:Rat}:mkRat (a.num*(b.den:Int) - b.num*(a.den:Int)) (a.den*b.den)=a - b:=by
 rw[Rat.mkRat_eq_div];have ha:=XL a;have hb:=XL b;have h1:((a.num*(b.den:Int) - b.num*(a.den:Int):Int):Rat)=(a.num:Rat)*(b.den:Rat) - (b.num:Rat)*(a.den:Rat):=by rw[Rat.intCast_sub,Rat.intCast_mul,Rat.intCast_mul];rfl
 have h2:((a.den*b.den:Nat):Rat)=(a.den:Rat)*(b.den:Rat):=Rat.natCast_mul _ _;rw[h1,h2,<-ha,<-hb];have h3:=@den_ne a;have h4:=@den_ne b;grind
theorem Zbk {a b:Rat}:mkRat (a.num*b.num) (a.den*b.den)=a*b:=by
 rw[Rat.mkRat_eq_div];have ha:=XL a;have hb:=XL b;have h1:((a.num*b.num:Int):Rat)=(a.num:Rat)*(b.num:Rat):=Rat.intCast_mul _ _;have h2:((a.den*b.den:Nat):Rat)=(a.den:Rat)*(b.den:Rat):=Rat.natCast_mul _ _;rw[h1,h2,<-ha,<-hb];have h3:=@den_ne a;have h4:=@den_ne b;grind
theorem Zbl {a b:Rat} (hb0:b.num≠0):mkRat (a.num*Yy b.num*(b.den:Int)) (a.den*b.num.natAbs)=a / b:=by
 rw[Rat.mkRat_eq_div];have ha:=XL a;have hb:=XL b;have h1:((a.num*Yy b.num*(b.den:Int):Int):Rat)=(a.num:Rat)*((Yy b.num:Int):Rat)*(b.den:Rat):=by rw[Rat.intCast_mul,Rat.intCast_mul];rfl
 have h2:((a.den*b.num.natAbs:Nat):Rat)=(a.den:Rat)*((b.num.natAbs:Nat):Rat):=Rat.natCast_mul _ _;have h5:((b.num.natAbs:Nat):Rat)=((Yy b.num:Int):Rat)*(b.num:Rat):=by
  rw[<-Rat.intCast_mul];have:((b.num.natAbs:Nat):Int)=Yy b.num*b.num:=by unfold Yy;split;omega;split <;> omega
  rw[<-this];rfl
 have h6:((Yy b.num:Int):Rat)*((Yy b.num:Int):Rat)=1:=by
  rw[<-Rat.intCast_mul];have:Yy b.num*Yy b.num=1:=by unfold Yy;rw[if_neg hb0];split <;> rfl
  rw[this];rfl
 have h7:(b.num:Rat)≠0:=by intro z;exact hb0 (by exact_mod_cast z)
 rw[h1,h2,h5];have h3:=@den_ne a;have h4:=@den_ne b;have hb':b≠0:=by intro e;subst e;exact hb0 rfl
 have h8:((Yy b.num:Int):Rat)≠0:=by intro e;rw[e] at h6;simp at h6
 rw[<-ha,<-hb];generalize ((Yy b.num:Int):Rat)=s at*;grind
theorem mkRat_num0 {z:Int} {d:Nat} (hd:0<d) (h:¬ 1<z.natAbs.gcd d):(mkRat z d).num=z/\(mkRat z d).den=d:=by
 have hg:z.natAbs.gcd d=1:=by have:=Nat.gcd_pos_of_pos_right z.natAbs hd;omega
 exact⟨mkRat_num1 (by omega) hg,mkRat_den1 (by omega) hg⟩
theorem sI_div {z:Int} {g:Nat} (h:g ∣ z.natAbs) (mi:Bool) (hm:mi=true↔z<0):sI mi (z.natAbs / g)=z / (g:Int):=by
 obtain⟨k,hk⟩:=h;unfold sI;rcases Nat.eq_zero_or_pos g with e|e;subst e;simp;rw[hk,Nat.mul_div_cancel_left _ e]
 cases mi with
 | true=>
   have hz:=hm.1 rfl
   have:z=(g:Int)*(-(k:Int)):=by
     rw[Int.mul_neg,<-Int.natCast_mul,<-hk];omega
   rw[this,Int.mul_ediv_cancel_left _ (by omega)];rfl
 | false=>
   have hz:¬z<0:=λq=>by have:=hm.2 q;cases this
   have:z=(g:Int)*(k:Int):=by
     rw[<-Int.natCast_mul,<-hk];omega
   rw[this,Int.mul_ediv_cancel_left _ (by omega)];rfl
theorem Zcc {z:Int} {d:Nat} (hd:0<d) (mi:Bool) (hm:mi=true↔z<0):sI mi (z.natAbs / z.natAbs.gcd d)=(mkRat z d).num:=by
 rw[mkRat_num _ _ (by omega),sI_div (Nat.gcd_dvd_left _ _) mi hm]
theorem Zeo {z:Int} {d:Nat} (hd:0<d):d / z.natAbs.gcd d=(mkRat z d).den:=(mkRat_den _ _ (by omega)).symm
theorem Xl {z:Int} {d k:Nat} (hd:0<d) (h:d<=2^k):(mkRat z d).den<=2^k:=by
 rw[mkRat_den _ _ (by omega)];exact Nat.le_trans (Nat.div_le_self _ _) h
theorem Xk {z:Int} {d k:Nat} (hd:0<d) (h:z.natAbs<=2^k):(mkRat z d).num.natAbs<=2^k:=by
 rw[<-Zcc hd (decide (z<0)) (by simp),sI_abs];exact Nat.le_trans (Nat.div_le_self _ _) h
theorem In.le {S:Sh} {cs:List Value} {z:Int} {k:Nat} (h:In S cs z k):z.natAbs<=2^k:=by
 obtain⟨us,_,hn⟩:=h.abs;exact hn.1
theorem In.rek {S:Sh} {cs:List Value} {z:Int} {k k':Nat} (h:In S cs z k) (hk:z.natAbs<=2^k'):In S cs z k':=by
 obtain⟨a,b,c,d,e,f,g,i,j⟩:=h;refine⟨a,b,c,d,e,f,?_,i,j⟩;rw[i] at hk;cases a <;> simpa using hk
theorem Na.rek {S:Sh} {cs:List Value} {n k k':Nat} (h:Na S cs n k) (hk:n<=2^k'):Na S cs n k':=⟨hk,h.2⟩
theorem In.cases {S:Sh} {cs:List Value} {z:Int} {k:Nat} (h:In S cs z k):(∃c1 c2 m,cs=[.bool true,c1,c2]/\Na S [c1,c2] m k/\z= -(m:Int)/\0<m)\/(∃c1 c2 m,cs=[.bool false,c1,c2]/\Na S [c1,c2] m k/\z=(m:Int)):=by
 obtain⟨neg,c1,c2,m,e,hn,hm,hz,h0⟩:=h
 cases neg with
 | true=>
   refine .inl ⟨c1,c2,m,e,⟨hm,c1,c2,rfl,hn⟩,by simpa using hz,?_⟩
   rcases Nat.eq_zero_or_pos m with q|q
   · have:=h0 q;cases this
   · exact q
 |false=>exact .inr ⟨c1,c2,m,e,⟨hm,c1,c2,rfl,hn⟩,by simpa using hz⟩
theorem Na.toR {S:Sh} {cs:List Value} {n m k k':Nat} (h:Na S cs n k) (e:n=m) (hk:m<=2^k'):Na S cs m k':=by subst e;exact⟨hk,h.2⟩
theorem In.toR {S:Sh} {cs:List Value} {z y:Int} {k k':Nat} (h:In S cs z k) (e:z=y) (hk:y.natAbs<=2^k'):In S cs y k':=by subst e;exact h.rek hk
theorem Gn.toR {S:Sh} {c:Value} {n m k k':Nat} (h:Gn S c n k) (e:n=m) (hk:m<=2^k'):Gn S c m k':=by subst e;exact⟨hk,h.2⟩
theorem u64_wrap_neg {n:Int} (h0:n<0) (h1: -9223372036854775808<=n):IntKind.u64.wrap n=n+18446744073709551616:=by
 have:IntKind.u64.wrap n=n%18446744073709551616:=by simp[IntKind.wrap,IntKind.bits,IntKind.signed]
 rw[this];omega
theorem u64_wrap_neg2 {n:Int} (h0:n<0) (h1: -9223372036854775808<=n):IntKind.u64.wrap (0 - (n+18446744073709551616))=((n.natAbs:Nat):Int):=by
 have:IntKind.u64.wrap (0 - (n+18446744073709551616))=(0 - (n+18446744073709551616))%18446744073709551616:=by simp[IntKind.wrap,IntKind.bits,IntKind.signed]
 rw[this];omega
theorem den_one {q:Rat} (h:q.den - 1=0):q.den=1:=by have:=q.den_pos;omega
theorem Zen {q:Rat} (h:q.den=1):(q.num:Rat)=q:=by
 have:=mkRat_rat q;rw[h,mkRat_one] at this;exact this
theorem cast_add' {a b:Rat} (ha:a.den=1) (hb:b.den=1):((a.num+b.num:Int):Rat)=a+b:=by rw[Rat.intCast_add,Zen ha,Zen hb]
theorem cast_sub' {a b:Rat} (ha:a.den=1) (hb:b.den=1):((a.num - b.num:Int):Rat)=a - b:=by rw[Rat.intCast_sub,Zen ha,Zen hb]
theorem cast_mul' {a b:Rat} (ha:a.den=1) (hb:b.den=1):((a.num*b.num:Int):Rat)=a*b:=by rw[Rat.intCast_mul,Zen ha,Zen hb]
theorem cmpQ_den {a b:Rat}:cmpZ (a.num*(b.den:Int)) (b.num*(a.den:Int))=cmpQ a b:=by
 unfold cmpZ cmpQ;simp only[Rat.lt_iff]
theorem cmpQ_int {a b:Rat} (ha:a.den=1) (hb:b.den=1):cmpZ a.num b.num=cmpQ a b:=by
 rw[<-cmpQ_den,ha,hb];simp
theorem Zcz (a:Rat):(-a).num= -a.num/\(-a).den=a.den:=⟨rfl,rfl⟩
theorem Fs.ofInt {S:Sh} {cs:List Value} {z:Int} {k:Nat} (h:In S cs z k):Fs S (cs++[.int .u64 0,.slice none 0 0]) [(z:Rat)] k:=
  Fs.mk (q:=(z:Rat)) h (Na.zero S k) Nat.one_le_two_pow
theorem Fs.ofParts {S:Sh} {us vs:List Value} {z:Int} {n k k' K:Nat} {q:Rat} (h1:In S us z k) (h2:Na S vs n k') (e1:z=q.num) (e2:n=q.den - 1) (b1:q.num.natAbs<=2^K) (b2:q.den<=2^K):Fs S (us++vs) [q] K:=by
 subst e1 e2;exact Fs.mk (h1.rek b1) (h2.rek (by omega)) b2
theorem ztxt_neg {a:Int} (h:a<0):(⟨#[45]⟩:ByteArray)++txt a.natAbs=YV (Ze6 a):=by
 unfold Ze6 txt;rw[if_pos h,<-Zb7];rfl
theorem ztxt_nn {a:Int} (h:¬a<0):txt a.natAbs=YV (Ze6 a):=by
 unfold Ze6 txt;rw[if_neg h];rfl
theorem rtxt_int {q:Rat} (h:q.den=1):YV (Ze6 q.num)=YV (rtxt q):=by unfold rtxt;rw[if_pos h,List.append_nil]
theorem rtxt_frac {q:Rat} (h:¬q.den=1):YV (Ze6 q.num)++(⟨#[47]⟩:ByteArray)++txt q.den=YV (rtxt q):=by
 unfold rtxt txt;rw[if_neg h,show(⟨#[47]⟩:ByteArray)=YV [47] from rfl,Zb7,Zb7,List.append_assoc];rfl
theorem Zd4 (l:List Nat):(YV l).size=l.length:=by unfold YV;show(List.map UInt8.ofNat l).toArray.size=_;simp
theorem ztxt_len {z:Int} {k:Nat} (h:z.natAbs<=2^k):(Ze6 z).length<=k+2:=by
 unfold Ze6;have:=Zaa h;rw[List.length_append];split <;> simp <;> omega
end Go.Cham
