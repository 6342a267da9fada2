/- YtojbflghmjfbpaaGreatDoorB3, a part of the proof that the claim's law answers true for every input. No condition beyond the statements' own. -/
import Derived.Test.YtojbflghmjfbpaaGreatDoorB2
import Derived.Test.YtojbflghmjfbpaaGreatDoorProg
import Derived.KernelRfl
set_option maxRecDepth 100000
noncomputable section
namespace Go.Cham
open Go Go.RowKit Go.Proofs Tryz
theorem nat_Gcd{S:Sh}{w:World}(hS:ZV S w){c_a:List Value}{a:Nat}{k_a:Nat}(h_a:Na S c_a a k_a){c_b:List Value}{b:Nat}{k_b:Nat}(h_b:Na S c_b b k_b)(hlim:k_a+k_b<=1099511627776):Calls prog 79 [(.agg (c_a:List Value).toArray),(.agg (c_b:List Value).toArray)].toArray w (Ret S w (λS v=>∃(c0:List Value),v= .agg c0.toArray/\Na S c0 (Nat.gcd a b) (k_a+k_b))):=by
 refine cbd hS (n:=43) func79 rfl λ_ L0 R0=>wA<|sO L0 rfl<|Zhz (cs:=c_a) rfl R0 rfl λb1 _ R1=>So rfl<|Zhz (cs:=c_b) rfl R1 rfl λb2 _ R2=>So rfl<|ZK (cs:=zN1) ZZ R2 rfl λb3 _ R3 _ L3=>sn<|wp_seq<|wp_block<|ZJ (λm ac ww=>∃(S':Sh)(x:Nat)(y:Nat)(c_x:List Value)(c_y:List Value),S.le S'/\ZD ac 43 [(2,(.pointer (some ⟨b1,0,none⟩))),(3,(.pointer (some ⟨b2,0,none⟩))),(4,(.pointer (some ⟨b3,0,none⟩)))]/\Run S w S' [(b3,32,zN1),(b2,32,c_y),(b1,32,c_x)] ww/\(Na S' c_x x (k_a+k_b))/\(Na S' c_y y (k_a+k_b))/\(Nat.gcd x y=Nat.gcd a b)/\m=y) b ⟨S,a,b,c_a,c_b,Sh.le.refl _,(L3.kp [4,3,2] rfl),(XO<|XO<|XO R3),(by exact h_a.to rfl (by omega)),(by exact h_b.to rfl (by omega)),(by rfl),rfl⟩ ?_;rintro m_1 ac1 _ ⟨_,x,y,c_x,c_y,l1,L4,R4,h_x,h_y,hg,m1⟩;refine wp_seq<|wp_seq ?_;have hbz:=@Qw y;refine Za<|sO L4 rfl<|ZA rfl ZM Zp (R4.has<|List.Mem.tail _<|List.Mem.head _) h_y.len<|So rfl<|Zi rfl Zgk (YU R4.holds h_y) λv_1 _ _ x1 v1=>?_;have R5:=R4.call x1;have l2:=x1.le;obtain rfl:=v1;intro _ L6;by_cases t1:(0:Int)<((ZC y:Nat):Int);refine sO L6 rfl<|cT t1 (ZF rfl rfl)<|ST rfl λ_ L7=>wp_skip<|Zc<|wp_block<|wp_seq<|wp_seq ?_;obtain⟨hb_x,⟨hs_x,rfl⟩|⟨hw_x,lo_x,bb_x,len_x,cap_x,rest_x,hlo_x,rfl,rw_x,hd_x,h2_x⟩⟩:=h_x.open;obtain⟨hb_y,⟨hs_y,rfl⟩|⟨hw_y,lo_y,bb_y,len_y,cap_y,rest_y,hlo_y,rfl,rw_y,hd_y,h2_y⟩⟩:=h_y.open;refine Za<|sO L7 rfl<|Zg (off':=1) rfl ZS rfl<|So rfl<|Zk rfl Xf (R5.has<|List.Mem.tail _<|List.Mem.tail _<|List.Mem.head _) rfl<|So rfl<|Yc rfl rfl underlying30<|Sm rfl<|Sn rfl<|Zg (off':=1) rfl ZS rfl<|Sn rfl<|Zk rfl Xf (R5.has<|List.Mem.tail _<|List.Mem.head _) rfl<|Sn rfl<|Yc rfl rfl underlying30<|So rfl<|Ze rfl rfl<|ST rfl λ_ L15=>wp_seq ?_;have L16:=(L15.kp [2,3,4,10,11,12,13,14,15,16,17,18,19,20] rfl);refine Zw (E0:=[]) (H0:=[(b3,32,zN1),(b2,32,[(.int .u64 (y:Int)),(.slice none 0 0)]),(b1,32,[(.int .u64 (x:Int)),(.slice none 0 0)])]) (n:=43) mixed 5 [] (λk=>0) (Zcn [.is (.pointer (some ⟨b1,0,none⟩)),.is (.int .u64 (x:Int)),.is (.pointer (some ⟨b2,0,none⟩)),.is (.int .u64 (y:Int)),.is (.int .u64 (x:Int))]) L16 R5 (by simp) (by simp) (by rfl) (by rfl) (by simp) (ZU ?_) ?_;refine(An ?_<|Al ?_ ?_ ?_ ?_ trivial);exact dK [] rfl λA=>Zg (off':=0) rfl Yt rfl<|A.same rfl;exact dK [0] rfl λA=>Zk rfl YB (A.run.has<|List.mem_append_right _<|List.Mem.tail _<|List.Mem.tail _<|List.Mem.head _) rfl<|A.same rfl;exact dK [] rfl λA=>Zg (off':=0) rfl Yt rfl<|A.same rfl;exact dK [2] rfl λA=>Zk rfl YB (A.run.has<|List.mem_append_right _<|List.Mem.tail _<|List.Mem.head _) rfl<|A.same rfl;exact dK [1] rfl λA=>QM rfl<|A.same rfl;intro S8 _ _ w11 l3 E1 R6 n1 L22 K1;have L27:=L22.dr K1 [0,1,2,3,4] rfl;have R7:Run _ _ S8 [(b3,32,zN1),(b2,32,[(.int .u64 (y:Int)),(.slice none 0 0)]),(b1,32,[(.int .u64 (x:Int)),(.slice none 0 0)])] w11:=Yb R6 n1 [] (by simp) (by simp);refine sa L27 rfl λ_ L28=>sn<|wp_seq<|wp_block<|ZJ (λm ac ww=>∃(S':Sh)(p:Nat)(q:Nat),S8.le S'/\ZD ac 43 [(2,(.pointer (some ⟨b1,0,none⟩))),(3,(.pointer (some ⟨b2,0,none⟩))),(4,(.pointer (some ⟨b3,0,none⟩))),(10,(.agg ([(.int .u64 ((y:Nat):Int)),(.slice none 0 0)]:List Value).toArray)),(11,(.int .i64 ((ZC y:Nat):Int))),(12,(.bool true)),(13,(.pointer (some ⟨b1,1,none⟩))),(14,(.slice none 0 0)),(15,(.bool true)),(16,(.bool true)),(17,(.pointer (some ⟨b2,1,none⟩))),(18,(.slice none 0 0)),(19,(.bool true)),(20,(.bool true)),(21,(.pointer (some ⟨b1,0,none⟩))),(22,(.int .u64 ((x:Nat):Int))),(23,(.pointer (some ⟨b2,0,none⟩))),(24,(.int .u64 ((y:Nat):Int))),(5,(.int .u64 ((p:Nat):Int))),(6,(.int .u64 ((q:Nat):Int)))]/\Run S w S' [(b3,32,zN1),(b2,32,[(.int .u64 ((y:Nat):Int)),(.slice none 0 0)]),(b1,32,[(.int .u64 ((x:Nat):Int)),(.slice none 0 0)])] ww/\(p<18446744073709551616)/\(q<18446744073709551616)/\(Nat.gcd p q=Nat.gcd x y)/\m=q) y ⟨S8,x,y,Sh.le.refl _,(L28.kp [6,5,24,23,22,21,20,19,18,17,16,15,14,13,12,11,10,4,3,2] rfl),(XO<|XO<|XO R7),(by omega),(by omega),(by rfl),rfl⟩ ?_;rintro m_2 ac2 _ ⟨S9,p,q,l4,L29,R8,hp,hq,hpq,m2⟩;refine wp_seq<|wA<|sm L29 rfl λ_ L30=>?_;by_cases t2:(0:Int)<(q:Int);refine sO L30 rfl<|cT t2 (ZF rfl rfl)<|ST rfl λ_ L31=>wp_skip<|Zc<|wp_block ?_;have L32:=(L31.kp [2,3,4,10,11,12,13,14,15,16,17,18,19,20,21,22,23,24,6,25,26] rfl);refine Zw (E0:=[]) (H0:=[(b3,32,zN1),(b2,32,[(.int .u64 (y:Int)),(.slice none 0 0)]),(b1,32,[(.int .u64 (x:Int)),(.slice none 0 0)])]) (n:=43) mixed 5 [(5,(.int .u64 (p:Int)),4)] (λk=>0) (Zcn [.is (.int .u64 (q:Int)),.is (.int .u64 (p:Int)),.is (.int .u64 (q:Int)),.is (.int .u64 ((p:Int)%(q:Int))),.is (.int .u64 (q:Int))]) L32 R8 (by simp) (by simp) (by rfl) (by rfl) (List.forall_mem_cons.2 ⟨L31.at_ 5 _ rfl,(by simp)⟩) (ZU ?_) ?_;refine(An ?_<|Al ?_ ?_ ?_ ?_ trivial);exact dm [] rfl;exact Zb rfl (λ_ _ _ _ _ A7=>(Cu (A7.live.add<|A7.old (List.Mem.head _) (by rfl))<|Zd rfl<|A7.same rfl));exact dm [] rfl;exact dK [1,2] rfl λA=>XZ (z:=((p:Int)%(q:Int))) rfl rfl (by omega) (Zb8 (by omega))<|A.same rfl;exact dK [0] rfl λA=>QM rfl<|A.same rfl;intro S15 _ _ w18 l5 E2 R9 n2 L38 K2;have L43:=L38.dr K2 [0,1,2,3,4] rfl;have R10:Run _ _ S15 [(b3,32,zN1),(b2,32,[(.int .u64 (y:Int)),(.slice none 0 0)]),(b1,32,[(.int .u64 (x:Int)),(.slice none 0 0)])] w18:=Yb R9 n2 [] (by simp) (by simp);exact sa L43 rfl λ_ L44=>Ya<|Zx<|Zc<|⟨(p%q),(by have qm:=Nat.mod_lt p (show q > 0 by omega);omega),S15,q,(p%q),(l4.trans l5),(((L44.ri 6 (((p%q):Nat):Int) rfl (by first|omega|simp)).a L44).kp [6,5,24,23,22,21,20,19,18,17,16,15,14,13,12,11,10,4,3,2] rfl),(XO<|XO<|XO R10),(by omega),(by exact Nat.lt_of_le_of_lt (Nat.mod_le _ _) hp),(by rw[<-hpq,Nat.gcd_comm p q,Nat.gcd_rec q p,Nat.gcd_comm]),rfl⟩;refine sO L30 rfl<|cF t2 (ZF rfl rfl)<|SF rfl λ_ L46=>wp_exit<|Zo<|Zo<|Yl<|Zc<|wp_seq ?_;have hpg:p=Nat.gcd x y:=by rw[<-hpq,show q=0 by omega,Nat.gcd_zero_right]
 refine Za<|sm L46 rfl λ_ L47=>?_;have h1:Na S9 [(.int .u64 (p:Int)),(.slice none 0 0)] p (k_a+k_b):=Na.ofLowK hp (by rw[hpg];exact Nat.le_trans (Nat.gcd_le_right _ (by omega)) hb_y);exact sO L47 rfl<|ZH (cs:=[(.int .u64 (p:Int)),(.slice none 0 0)]) ZZ Qx (.cons rfl Yt rfl (by decide) .nil) (by rfl)<|Sz rfl<|Zm rfl rfl R8 Zp h1.len rfl h1.ones λ_ R11 _ L49=>sn<|wp_ret<|Zt<|YE<|Zt<|YE<|Zt<|rt L49 (Res.aggW rfl ZM Zp (R11.has<|List.Mem.head _) h1.len Res.nil)<|⟨_,_,rfl,R11.ext,⟨_,rfl,(h1.to (by rw[hpg];exact hg) (by omega))⟩⟩;have hl_y:=hd_y.hlen;have hc_y:=hd_y.hcap;have hg_y:=hd_y.hbig;have hW_y:18446744073709551616<=y:=hw_y;refine Za<|sO L7 rfl<|Zg (off':=1) rfl ZS rfl<|So rfl<|Zk rfl Xf (R5.has<|List.Mem.tail _<|List.Mem.tail _<|List.Mem.head _) rfl<|So rfl<|Yc rfl rfl underlying30<|Sm rfl<|Sn rfl<|Zg (off':=1) rfl ZS rfl<|Sn rfl<|Zk rfl Xf (R5.has<|List.Mem.tail _<|List.Mem.head _) rfl<|Sn rfl<|Yc rfl rfl underlying30<|So rfl<|Ze rfl rfl<|SF rfl λ_ L57=>wp_skip<|Zc<|wA<|sO L57 rfl<|ZA rfl ZM Zp (R5.has<|List.Mem.tail _<|List.Mem.tail _<|List.Mem.head _) h_x.len<|So rfl<|ZA rfl ZM Zp (R5.has<|List.Mem.tail _<|List.Mem.head _) h_y.len<|So rfl<|Zi rfl ent_77 (nat_Div R5.holds (h_x.up l2) (h_y.up l2) (by omega)) λv_2 _ _ x2 v2=>?_;have R12:=R5.call x2;have l6:=x2.le;rcases v2 with⟨t3,c1,c2,rfl,h2,h3⟩|⟨t4,c3,c4,rfl,h4,h5⟩;omega;intro _ L60;refine sm L60 rfl<|So rfl<|Zj rfl rfl<|So rfl<|Zj rfl rfl<|So rfl<|Zj rfl rfl<|So rfl<|ZK (cs:=zN1) ZZ R12 rfl λb4 _ R13=>So rfl<|ZK (cs:=zN1) ZZ R13 rfl λb5 _ R14=>Sz rfl<|Zm rfl rfl (Yd R14) Zp h4.len rfl h4.ones λ_ R15=>Sz rfl<|Zm rfl rfl (Yd R15) Zp h5.len rfl h5.ones λ_ R16=>Sa rfl λ_ L69=>sn ?_;have L70:=(L69.kp [2,3,4,10,11,12,13,14,15,16,17,18,19,20,34,35,36,33,37,38,39,7,8] rfl);refine Zw (E0:=[(1000,b1,32,[(.int .u64 (x:Int)),(.slice none 0 0)],false)]) (H0:=[(b5,32,c4),(b4,32,c3),(b3,32,zN1),(b2,32,[(.int .u64 (lo_y:Int)),(.slice (some ⟨bb_y,0,none⟩) len_y cap_y)])]) (n:=43) mixed 3 [] (λk=>if k=1000 then 2 else 0) (Zcn [.is (.agg ([(.int .u64 (lo_y:Int)),(.slice (some ⟨bb_y,0,none⟩) len_y cap_y)]:List Value).toArray),.is (.agg (c4:List Value).toArray),.stored 1000 32 (λS cs=>Na S cs y (k_a+k_b)) (λ_ _ _ l h=>h.up l)]) L70 (Zhq R16) (by simp) (by simp) (by rfl) (by rfl) (by simp) (ZU ?_) ?_;refine(An ?_<|Ak ?_ ?_ trivial);exact dK [] rfl λA=>ZA rfl ZM Zp (A.run.has<|List.mem_append_right _<|List.Mem.tail _<|List.Mem.tail _<|List.Mem.tail _<|List.Mem.head _) h_y.len<|A.same rfl;exact dK [] rfl λA=>ZA rfl ZM Zp (A.run.has<|List.mem_append_right _<|List.Mem.head _) h5.len<|A.same rfl;refine Zb rfl (λ_ _ _ _ _ A13=>?_);obtain⟨_,e18,rfl⟩:=A13.known 0 rfl;obtain⟨c5,q1,m3,z1,_⟩:=A13.le0 _ _ _ _ _ (List.Mem.head _);exact Zal A13 (A13.live.add e18) rfl rfl m3 rfl Zp (z1.trans h_x.len) h_y.len h_y.ones rfl<|h_y.up<|l2.trans<|l6.trans A13.le;intro S20 _ _ w28 l7 E3 R17 n3 L74 K3;have L76:=L74.dr K3 [0,1] rfl;obtain⟨b6,c6,m4,h6⟩:=K3 2 (by decide);obtain⟨c7,q2,m5,_,_⟩:=E3 _ _ _ _ _ (List.Mem.head _);obtain⟨hbe1,rfl⟩:=Zgy n3 m4 m5;obtain rfl:=hbe1.symm;have R18:Run _ _ S20 [(b1,32,c6),(b5,32,c4),(b4,32,c3),(b3,32,zN1),(b2,32,[(.int .u64 (lo_y:Int)),(.slice (some ⟨bb_y,0,none⟩) len_y cap_y)])] w28:=Yb R17 n3 [(1000,b1,32,c6,true)] (by simp) (List.forall_mem_cons.2 ⟨m4,(by simp)⟩);exact sZ L76 rfl<|Zm rfl rfl (Zhq R18) Zp h5.len h_y.len h5.ones λ_ R19 _ L77=>(Ya<|Zx<|Zc<|⟨(x%y),(by have qm:=Nat.mod_lt x (show y > 0 by omega);omega),S20,y,(x%y),c6,c4,(l1.trans<|l2.trans<|l6.trans l7),(L77.kp [4,3,2] rfl),(Run.init [(b3,32,zN1),(b2,32,c4),(b1,32,c6)]<|Zhq<|Yd<|Yd R19),(by exact h6.to rfl (by omega)),(by exact(h5.up l7).to rfl (by omega)),(by rw[<-hg,Nat.gcd_comm x y,Nat.gcd_rec y x,Nat.gcd_comm]),rfl⟩);have hl_x:=hd_x.hlen;have hc_x:=hd_x.hcap;have hg_x:=hd_x.hbig;have hW_x:18446744073709551616<=x:=hw_x;obtain⟨hb_y,⟨hs_y,rfl⟩|⟨hw_y,lo_y,bb_y,len_y,cap_y,rest_y,hlo_y,rfl,rw_y,hd_y,h2_y⟩⟩:=h_y.open;refine Za<|sO L7 rfl<|Zg (off':=1) rfl ZS rfl<|So rfl<|Zk rfl Xf (R5.has<|List.Mem.tail _<|List.Mem.tail _<|List.Mem.head _) rfl<|So rfl<|Yc rfl rfl underlying30<|Sm rfl<|Sf rfl<|Sf rfl<|Sf rfl<|So rfl<|Ze rfl rfl<|SF rfl λ_ L85=>wp_skip<|Zc<|wA<|sO L85 rfl<|ZA rfl ZM Zp (R5.has<|List.Mem.tail _<|List.Mem.tail _<|List.Mem.head _) h_x.len<|So rfl<|ZA rfl ZM Zp (R5.has<|List.Mem.tail _<|List.Mem.head _) h_y.len<|So rfl<|Zi rfl ent_77 (nat_Div R5.holds (h_x.up l2) (h_y.up l2) (by omega)) λv_3 _ _ x3 v3=>?_;have R20:=R5.call x3;have l8:=x3.le;rcases v3 with⟨t5,c8,c9,rfl,h7,h8⟩|⟨t6,c10,c11,rfl,h9,h10⟩;omega;intro _ L88;refine sm L88 rfl<|So rfl<|Zj rfl rfl<|So rfl<|Zj rfl rfl<|So rfl<|Zj rfl rfl<|So rfl<|ZK (cs:=zN1) ZZ R20 rfl λb7 _ R21=>So rfl<|ZK (cs:=zN1) ZZ R21 rfl λb8 _ R22=>Sz rfl<|Zm rfl rfl (Yd R22) Zp h9.len rfl h9.ones λ_ R23=>Sz rfl<|Zm rfl rfl (Yd R23) Zp h10.len rfl h10.ones λ_ R24=>Sa rfl λ_ L97=>sn ?_;have L98:=(L97.kp [2,3,4,10,11,12,13,14,15,16,20,34,35,36,33,37,38,39,7,8] rfl);refine Zw (E0:=[(1000,b1,32,[(.int .u64 (lo_x:Int)),(.slice (some ⟨bb_x,0,none⟩) len_x cap_x)],false)]) (H0:=[(b8,32,c11),(b7,32,c10),(b3,32,zN1),(b2,32,[(.int .u64 (y:Int)),(.slice none 0 0)])]) (n:=43) mixed 3 [] (λk=>if k=1000 then 2 else 0) (Zcn [.is (.agg ([(.int .u64 (y:Int)),(.slice none 0 0)]:List Value).toArray),.is (.agg (c11:List Value).toArray),.stored 1000 32 (λS cs=>Na S cs y (k_a+k_b)) (λ_ _ _ l h=>h.up l)]) L98 (Zhq R24) (by simp) (by simp) (by rfl) (by rfl) (by simp) (ZU ?_) ?_;refine(An ?_<|Ak ?_ ?_ trivial);exact dK [] rfl λA=>ZA rfl ZM Zp (A.run.has<|List.mem_append_right _<|List.Mem.tail _<|List.Mem.tail _<|List.Mem.tail _<|List.Mem.head _) h_y.len<|A.same rfl;exact dK [] rfl λA=>ZA rfl ZM Zp (A.run.has<|List.mem_append_right _<|List.Mem.head _) h10.len<|A.same rfl;refine Zb rfl (λ_ _ _ _ _ A16=>?_);obtain⟨_,e21,rfl⟩:=A16.known 0 rfl;obtain⟨c12,q3,m6,z2,_⟩:=A16.le0 _ _ _ _ _ (List.Mem.head _);exact Zal A16 (A16.live.add e21) rfl rfl m6 rfl Zp (z2.trans h_x.len) h_y.len h_y.ones rfl<|h_y.up<|l2.trans<|l8.trans A16.le;intro S25 _ _ w38 l9 E4 R25 n4 L102 K4;have L104:=L102.dr K4 [0,1] rfl;obtain⟨b9,c13,m7,h11⟩:=K4 2 (by decide);obtain⟨c14,q4,m8,_,_⟩:=E4 _ _ _ _ _ (List.Mem.head _);obtain⟨hbe2,rfl⟩:=Zgy n4 m7 m8;obtain rfl:=hbe2.symm;have R26:Run _ _ S25 [(b1,32,c13),(b8,32,c11),(b7,32,c10),(b3,32,zN1),(b2,32,[(.int .u64 (y:Int)),(.slice none 0 0)])] w38:=Yb R25 n4 [(1000,b1,32,c13,true)] (by simp) (List.forall_mem_cons.2 ⟨m7,(by simp)⟩);exact sZ L104 rfl<|Zm rfl rfl (Zhq R26) Zp h10.len h_y.len h10.ones λ_ R27 _ L105=>(Ya<|Zx<|Zc<|⟨(x%y),(by have qm:=Nat.mod_lt x (show y > 0 by omega);omega),S25,y,(x%y),c13,c11,(l1.trans<|l2.trans<|l8.trans l9),(L105.kp [4,3,2] rfl),(Run.init [(b3,32,zN1),(b2,32,c11),(b1,32,c13)]<|Zhq<|Yd<|Yd R27),(by exact h11.to rfl (by omega)),(by exact(h10.up l9).to rfl (by omega)),(by rw[<-hg,Nat.gcd_comm x y,Nat.gcd_rec y x,Nat.gcd_comm]),rfl⟩);have hl_y:=hd_y.hlen;have hc_y:=hd_y.hcap;have hg_y:=hd_y.hbig;have hW_y:18446744073709551616<=y:=hw_y;refine Za<|sO L7 rfl<|Zg (off':=1) rfl ZS rfl<|So rfl<|Zk rfl Xf (R5.has<|List.Mem.tail _<|List.Mem.tail _<|List.Mem.head _) rfl<|So rfl<|Yc rfl rfl underlying30<|Sm rfl<|Sf rfl<|Sf rfl<|Sf rfl<|So rfl<|Ze rfl rfl<|SF rfl λ_ L113=>wp_skip<|Zc<|wA<|sO L113 rfl<|ZA rfl ZM Zp (R5.has<|List.Mem.tail _<|List.Mem.tail _<|List.Mem.head _) h_x.len<|So rfl<|ZA rfl ZM Zp (R5.has<|List.Mem.tail _<|List.Mem.head _) h_y.len<|So rfl<|Zi rfl ent_77 (nat_Div R5.holds (h_x.up l2) (h_y.up l2) (by omega)) λv_4 _ _ x4 v4=>?_;have R28:=R5.call x4;have l10:=x4.le;rcases v4 with⟨t7,c15,c16,rfl,h12,h13⟩|⟨t8,c17,c18,rfl,h14,h15⟩;omega;intro _ L116;refine sm L116 rfl<|So rfl<|Zj rfl rfl<|So rfl<|Zj rfl rfl<|So rfl<|Zj rfl rfl<|So rfl<|ZK (cs:=zN1) ZZ R28 rfl λb10 _ R29=>So rfl<|ZK (cs:=zN1) ZZ R29 rfl λb11 _ R30=>Sz rfl<|Zm rfl rfl (Yd R30) Zp h14.len rfl h14.ones λ_ R31=>Sz rfl<|Zm rfl rfl (Yd R31) Zp h15.len rfl h15.ones λ_ R32=>Sa rfl λ_ L125=>sn ?_;have L126:=(L125.kp [2,3,4,10,11,12,13,14,15,16,20,34,35,36,33,37,38,39,7,8] rfl);refine Zw (E0:=[(1000,b1,32,[(.int .u64 (lo_x:Int)),(.slice (some ⟨bb_x,0,none⟩) len_x cap_x)],false)]) (H0:=[(b11,32,c18),(b10,32,c17),(b3,32,zN1),(b2,32,[(.int .u64 (lo_y:Int)),(.slice (some ⟨bb_y,0,none⟩) len_y cap_y)])]) (n:=43) mixed 3 [] (λk=>if k=1000 then 2 else 0) (Zcn [.is (.agg ([(.int .u64 (lo_y:Int)),(.slice (some ⟨bb_y,0,none⟩) len_y cap_y)]:List Value).toArray),.is (.agg (c18:List Value).toArray),.stored 1000 32 (λS cs=>Na S cs y (k_a+k_b)) (λ_ _ _ l h=>h.up l)]) L126 (Zhq R32) (by simp) (by simp) (by rfl) (by rfl) (by simp) (ZU ?_) ?_;refine(An ?_<|Ak ?_ ?_ trivial);exact dK [] rfl λA=>ZA rfl ZM Zp (A.run.has<|List.mem_append_right _<|List.Mem.tail _<|List.Mem.tail _<|List.Mem.tail _<|List.Mem.head _) h_y.len<|A.same rfl;exact dK [] rfl λA=>ZA rfl ZM Zp (A.run.has<|List.mem_append_right _<|List.Mem.head _) h15.len<|A.same rfl;refine Zb rfl (λ_ _ _ _ _ A19=>?_);obtain⟨_,e24,rfl⟩:=A19.known 0 rfl;obtain⟨c19,q5,m9,z3,_⟩:=A19.le0 _ _ _ _ _ (List.Mem.head _);exact Zal A19 (A19.live.add e24) rfl rfl m9 rfl Zp (z3.trans h_x.len) h_y.len h_y.ones rfl<|h_y.up<|l2.trans<|l10.trans A19.le;intro S30 _ _ w48 l11 E5 R33 n5 L130 K5;have L132:=L130.dr K5 [0,1] rfl;obtain⟨b12,c20,m10,h16⟩:=K5 2 (by decide);obtain⟨c21,q6,m11,_,_⟩:=E5 _ _ _ _ _ (List.Mem.head _);obtain⟨hbe3,rfl⟩:=Zgy n5 m10 m11;obtain rfl:=hbe3.symm;have R34:Run _ _ S30 [(b1,32,c20),(b11,32,c18),(b10,32,c17),(b3,32,zN1),(b2,32,[(.int .u64 (lo_y:Int)),(.slice (some ⟨bb_y,0,none⟩) len_y cap_y)])] w48:=Yb R33 n5 [(1000,b1,32,c20,true)] (by simp) (List.forall_mem_cons.2 ⟨m10,(by simp)⟩);exact sZ L132 rfl<|Zm rfl rfl (Zhq R34) Zp h15.len h_y.len h15.ones λ_ R35 _ L133=>(Ya<|Zx<|Zc<|⟨(x%y),(by have qm:=Nat.mod_lt x (show y > 0 by omega);omega),S30,y,(x%y),c20,c18,(l1.trans<|l2.trans<|l10.trans l11),(L133.kp [4,3,2] rfl),(Run.init [(b3,32,zN1),(b2,32,c18),(b1,32,c20)]<|Zhq<|Yd<|Yd R35),(by exact h16.to rfl (by omega)),(by exact(h15.up l11).to rfl (by omega)),(by rw[<-hg,Nat.gcd_comm x y,Nat.gcd_rec y x,Nat.gcd_comm]),rfl⟩);refine sO L6 rfl<|cF t1 (ZF rfl rfl)<|SF rfl λ_ L134=>wp_exit<|Zo<|Zo<|Yl<|Zc<|wA<|sO L134 rfl<|ZA rfl ZM Zp (R5.has<|List.Mem.tail _<|List.Mem.tail _<|List.Mem.head _) h_x.len<|Sz rfl<|Zm rfl rfl R5 Zp h_x.len rfl h_x.ones λ_ R36 _ L136=>sn<|wp_ret<|rt (L136.kp [4] rfl) (Res.aggW rfl ZM Zp (R36.has<|List.Mem.head _) h_x.len Res.nil) ?_;exact⟨_,_,rfl,R36.ext,⟨_,rfl,((h_x.up l2).to (by rw[<-hg,show y=0 by omega,Nat.gcd_zero_right]) (by omega))⟩⟩
theorem agg_5:Zgf prog 5=some false:=by kernel_rfl
theorem Zeq:Yy prog 5=some 1:=by kernel_rfl
theorem bytes_5:Qb prog 5=some 1:=by kernel_rfl
theorem zero_5:XT prog 5=some (.int .u8 (0:Int)):=by kernel_rfl
theorem Zcv{S:Sh}{w:World}(hS:ZV S w){c_a:List Value}{a:Nat}{k_a:Nat}(h_a:Na S c_a a k_a)(hlim:k_a<=1099511627776):Calls prog 118 [(.agg (c_a:List Value).toArray)].toArray w (Ret S w (λS v=>v= .string (txt a))):=by
 refine cbd hS (n:=85) func118 rfl λ_ L0 R0=>?_;have hdl:=digs10_len h_a.1;have hla:=Qp h_a.1;refine wA<|sO L0 rfl<|ZW (cs:=c_a) rfl R0 rfl λb1 _ _ l1 r1 R1=>Sa rfl<|SW<|So rfl<|ZA rfl ZM Zp (R1.row r1) h_a.len<|So rfl<|Zi rfl Zfj (Xx R1.holds<|h_a.up l1) λv_1 S2 w2 x1 v1=>?_;have R2:=R1.call x1;obtain⟨p1,len1,cap1,rfl,y1,z1,hg1,hd1⟩:=v1;intro _ L4;have R3:Run S w S2 (YH none 29 (YD [])++[]) w2:=R2;refine sO L4 rfl<|does_appendD (g:=none) (ds:=[]) (H:=[]) rfl rfl underlying30 ZG Zbp Zah (Gw.nil 1) R3 hd1 (by omega) λg1 cap2 w3 hG1 R4=>Sa rfl<|kP [2,3] rfl<|SVv<|Sm rfl<|So rfl<|Zz rfl underlying30 λ_ L9=>?_;by_cases t1:(((0+len1):Nat):Int)=(0:Int);exact sO L9 rfl<|cT t1 (ZP rfl rfl)<|ST rfl<|WA<|Sa rfl λ_ L11=>sn<|wp_ret<|Zt<|rt L11 (.tmp rfl Res.nil)<|⟨_,_,rfl,R4.ext,(by(have e:a=0:=digs_nil (B:=W64) (by decide) (by omega));subst e;rfl)⟩;refine sO L9 rfl<|cF t1 (ZP rfl rfl)<|SF rfl λ_ L12=>wp_skip<|Zc<|wp_seq ?_;have ha:a≠0:=λe=>by simp[e,Xe] at y1;omega
 refine Za<|sa L12 rfl λ_ L13=>sn<|wp_seq<|wp_block ?_;have R5:Run S w S2 (YH g1 29 (YD ([]++(ZL W64 a)))++(YH none 5 (u8s [])++[])) w3:=R4;refine ZJ (λm ac ww=>∃(S':Sh)(mm:Nat)(g_dd:Option (Nat × List Value))(len_dd:Nat)(cap_dd:Nat)(dd:List Nat)(g_out:Option (Nat × List Value))(len_out:Nat)(cap_out:Nat)(out:List Nat),S2.le S'/\ZD ac 85 [(2,(.string (⟨#[]⟩:ByteArray))),(3,(.slice (gp g_dd) len_dd cap_dd)),(4,(.slice (gp g_out) len_out cap_out))]/\Run S w S' (YH g_dd 29 (YD dd)++(YH g_out 5 (u8s out)++[])) ww/\(Gw g_out len_out cap_out 1<|u8s out)/\(Gw g_dd len_dd cap_dd 1<|YD dd)/\(∀e∈dd,e<18446744073709551616)/\(dd.getLast? ≠some 0)/\(val W64 dd=a/10^mm)/\(out=((ZL 10 a).take mm).map (· +48))/\(len_dd<=1099511627777)/\m=val W64 dd) (val W64 ([]++(ZL W64 a))) ⟨S2,0,g1,(0+len1),cap2,([]++(ZL W64 a)),none,0,0,[],Sh.le.refl _,(L13.kp [4,3,2] rfl),R5,(Gw.nil 1),hG1,(by exact Zee (by decide) _),(by exact digs_last (by decide) _),(by rw[List.nil_append,ZX (by decide)];simp),(by simp),(by omega),rfl⟩ ?_;rintro m_1 ac1 w4 ⟨S3,mm,g_dd,len_dd,cap_dd,dd,g_out,len_out,cap_out,out,l3,L14,R6,hG_out,hG_dd,hd,hz,hv,ho,hb,m1⟩;have hl_dd:=hG_dd.hl;rw[ZN,Nat.mul_one] at hl_dd;have hc_dd:=hG_dd.hc;have hl_out:=hG_out.hl;rw[Zbs,Nat.mul_one] at hl_out;have hc_out:=hG_out.hc;refine wp_seq<|wA<|sm L14 rfl<|So rfl<|Zz rfl underlying30 λ_ L16=>?_;by_cases t2:(0:Int)<(len_dd:Int);refine sO L16 rfl<|cT t2 (ZF rfl rfl)<|ST rfl λ_ L17=>wp_skip<|Zc<|wp_block<|wp_seq ?_;obtain⟨b2,rest_1,rfl⟩:=hG_dd.some (by omega);have R7:Run S w S3 ((b2,29,(YD dd++rest_1))::(YH g_out 5 (u8s out)++[])) w4:=gown_out [] (H:=(YH g_out 5 (u8s out)++[])) R6;refine Za<|sm L17 rfl<|So rfl<|XN rfl ent_134 (nat_short (dv:=10000000000000000000) R7 (by omega) (by omega) (by omega) (by omega) hd (by omega)) ?_;rintro _ _ ⟨v_2,S4,ds1,rfl,l4,R8,v2⟩;refine⟨v_2,rfl,?_⟩;obtain⟨rfl,ho1,ho_2,ho3⟩:=v2;have hsl:=ho1;have hsl1:=ho_2;have hsl2:=ho3;intro _ L19;refine sa L19 rfl λ_ L20=>sn<|Xr (λac ww=>∃(S':Sh)(n2:Nat),S4.le S'/\ZD ac 85 [(2,(.string (⟨#[]⟩:ByteArray))),(4,(.slice (gp g_out) len_out cap_out)),(15,(.slice (some ⟨b2,0,none⟩) len_dd cap_dd)),(16,(.int .i64 ((len_dd:Nat):Int))),(17,(.bool true)),(18,(.slice (some ⟨b2,0,none⟩) len_dd cap_dd)),(19,(.int .u64 ((val W64 dd%10000000000000000000:Nat):Int))),(5,(.int .u64 ((val W64 dd%10000000000000000000:Nat):Int))),(3,(.slice (some ⟨b2,0,none⟩) n2 cap_dd))]/\Run S w S' ((b2,29,(YD ds1++rest_1))::(YH g_out 5 (u8s out)++[])) ww/\(n2<=len_dd)/\(val W64 (ds1.take n2)=val W64 ds1)/\(n2=0\/ds1.getD (n2-1) 0≠0)) ?_ ?_;rintro ac2 _ ⟨S5,n2,l5,L21,R9,hn2,hv2,hz2⟩;refine wA (sa L21 rfl λ_ L22=>sn (wp_block (ZJ (λm ac ww=>∃(S':Sh)(i:Nat)(rr:Nat)(g_o2:Option (Nat × List Value))(len_o2:Nat)(cap_o2:Nat)(o2:List Nat),S5.le S'/\ZD ac 85 [(2,(.string (⟨#[]⟩:ByteArray))),(4,(.slice (gp g_o2) len_o2 cap_o2)),(15,(.slice (some ⟨b2,0,none⟩) len_dd cap_dd)),(16,(.int .i64 ((len_dd:Nat):Int))),(17,(.bool true)),(18,(.slice (some ⟨b2,0,none⟩) len_dd cap_dd)),(19,(.int .u64 ((val W64 dd%10000000000000000000:Nat):Int))),(5,(.int .u64 ((rr:Nat):Int))),(3,(.slice (some ⟨b2,0,none⟩) n2 cap_dd)),(6,(.int .i64 ((i:Nat):Int)))]/\Run S w S' ((b2,29,(YD ds1++rest_1))::(YH g_o2 5 (u8s o2)++[])) ww/\(Gw g_o2 len_o2 cap_o2 1<|u8s o2)/\(i<=19)/\(rr=val W64 dd%10000000000000000000/10^i)/\(o2=((ZL 10 a).take (mm+i)).map (· +48))/\m=19-i) (19-0) ⟨S5,0,(val W64 dd%10000000000000000000),g_out,len_out,cap_out,out,Sh.le.refl _,(((L22.ri 5 (((val W64 dd%10000000000000000000):Nat):Int) rfl).a ((L22.ri 6 ((0:Nat):Int) rfl).a L22)).kp [6,3,5,19,18,17,16,15,4,2] rfl),R9,hG_out,(by omega),(by simp),ho,rfl⟩ ?_)));rintro m_2 ac3 w7 ⟨S6,i,rr,g_o2,len_o2,cap_o2,o2,l6,L23,R10,hG_o2,hi,hr,ho2,m2⟩;have hl_o2:=hG_o2.hl;rw[Zbs,Nat.mul_one] at hl_o2;have hc_o2:=hG_o2.hc;refine wp_seq<|wA<|sm L23 rfl λ_ L26=>?_;by_cases t3:(i:Int)<(19:Int);refine sO L26 rfl<|cT t3 (Zs rfl rfl)<|Sm rfl<|Sn rfl<|Zd rfl<|Sn rfl<|Zz rfl underlying30 λ_ L30=>?_;by_cases t4:(0:Int)<(n2:Int);refine sN L30 rfl<|cT t4 (ZF rfl rfl)<|Sn rfl<|Zd rfl<|Sf rfl<|Sf rfl<|Sn rfl<|Ze rfl rfl<|So rfl<|Ze rfl rfl<|ST rfl λ_ L36=>wp_skip<|Zc<|wp_seq<|wp_block<|wp_seq ?_;have hrl:rr<10000000000000000000:=by rw[hr];exact Nat.lt_of_le_of_lt (Nat.div_le_self _ _) (Nat.mod_lt _ (by decide))
 have hol:o2.length<=(ZL 10 a).length:=by rw[ho2,List.length_map,List.length_take];omega
 refine Za<|sm L36 rfl<|Sm rfl<|So rfl<|XZ (z:=((rr:Int)%(10:Int))) rfl rfl (by omega) (Zb8 (by omega))<|So rfl<|Zy rfl rfl Zav<|So rfl<|Yv (z:=((48:Int)+((rr:Int)%(10:Int)))) rfl rfl underlying5 u8i<|So rfl<|Yf (cs:=(u8s [(48+(rr%10))]++[])) underlying189 Zeq zero_5 (.cons rfl rfl (by decide) .nil) [[(.int .u8 ((48:Int)+((rr:Int)%(10:Int))))]] rfl rfl (by rfl) (by decide) R10 λb3 _ R11=>So rfl<|Xl (g:=g_o2) (cs:=(u8s o2)) (vs:=(u8s [(48+(rr%10))])) (H:=[(b3,5,(u8s [(48+(rr%10))]++[])),(b2,29,(YD ds1++rest_1))]++[]) rfl rfl underlying189 Zeq bytes_5 zero_5 rfl hG_o2 (YQ [(b3,5,(u8s [(48+(rr%10))]++[])),(b2,29,(YD ds1++rest_1))] (H2:=YH g_o2 5 (u8s o2)) (H:=[]) R11) (R11.has<|List.Mem.head _) rfl rfl (u8s_ones _) (by omega) (by omega) (by omega) λg2 cap3 w9 hG2 R12 _ L43=>?_;rw[u8s_append] at hG2 R12;have R13:Run S w S6 ((b3,5,(u8s [(48+(rr%10))]++[]))::(b2,29,(YD ds1++rest_1))::(YH g2 5 (u8s (o2++[(48+(rr%10))]))++[])) w9:=YQ (YH g2 5<|u8s (o2++[(48+(rr%10))])) (H2:=[(b3,5,(u8s [(48+(rr%10))]++[])),(b2,29,(YD ds1++rest_1))]) (H:=[]) R12;exact sa L43 rfl<|SX<|Sm rfl<|So rfl<|XK (z:=((rr:Int)/(10:Int))) rfl rfl (by omega) (Za3 (k:=.u64) (by omega) (by omega) (show _<=(18446744073709551615:Int) by omega))<|Sa rfl<|SY<|Sm rfl<|So rfl<|Zy rfl rfl Xd<|Sa rfl λ_ L50=>sn<|⟨19-(i+1),(by omega),S6,(i+1),(rr/10),g2,(len_o2+1),cap3,(o2++[(48+(rr%10))]),l6,(((L50.ri 5 (((rr/10):Nat):Int) rfl).a ((L50.ri 6 (((i+1):Nat):Int) rfl).a L50)).kp [6,3,5,19,18,17,16,15,4,2] rfl),(Run.mid [(b2,29,(YD ds1++rest_1))] [(b3,5,(u8s [(48+(rr%10))]++[]))]<|Yd R13),hG2,(by omega),(by rw[hr];exact text_rr),(by first|exact text_out hv (by omega) ho2 hr (Or.inr (by omega))|exact text_out hv (by omega) ho2 hr<|Or.inl<|text_pos (by omega) hz2 (by omega) hv2 hsl2),rfl⟩;refine sN L30 rfl<|cF t4 (ZF rfl rfl)<|Sn rfl<|Zd rfl<|Sn rfl<|Zd rfl λ_ L55=>?_;by_cases t5:(0:Int)<(rr:Int);refine sN L55 rfl<|cT t5 (ZF rfl rfl)<|Sn rfl<|Ze rfl rfl<|So rfl<|Ze rfl rfl<|ST rfl λ_ L58=>wp_skip<|Zc<|wp_seq<|wp_block<|wp_seq ?_;have hrl:rr<10000000000000000000:=by rw[hr];exact Nat.lt_of_le_of_lt (Nat.div_le_self _ _) (Nat.mod_lt _ (by decide))
 have hol:o2.length<=(ZL 10 a).length:=by rw[ho2,List.length_map,List.length_take];omega
 refine Za<|sm L58 rfl<|Sm rfl<|So rfl<|XZ (z:=((rr:Int)%(10:Int))) rfl rfl (by omega) (Zb8 (by omega))<|So rfl<|Zy rfl rfl Zav<|So rfl<|Yv (z:=((48:Int)+((rr:Int)%(10:Int)))) rfl rfl underlying5 u8i<|So rfl<|Yf (cs:=(u8s [(48+(rr%10))]++[])) underlying189 Zeq zero_5 (.cons rfl rfl (by decide) .nil) [[(.int .u8 ((48:Int)+((rr:Int)%(10:Int))))]] rfl rfl (by rfl) (by decide) R10 λb4 _ R14=>So rfl<|Xl (g:=g_o2) (cs:=(u8s o2)) (vs:=(u8s [(48+(rr%10))])) (H:=[(b4,5,(u8s [(48+(rr%10))]++[])),(b2,29,(YD ds1++rest_1))]++[]) rfl rfl underlying189 Zeq bytes_5 zero_5 rfl hG_o2 (YQ [(b4,5,(u8s [(48+(rr%10))]++[])),(b2,29,(YD ds1++rest_1))] (H2:=YH g_o2 5 (u8s o2)) (H:=[]) R14) (R14.has<|List.Mem.head _) rfl rfl (u8s_ones _) (by omega) (by omega) (by omega) λg3 cap4 w11 hG3 R15 _ L65=>?_;rw[u8s_append] at hG3 R15;have R16:Run S w S6 ((b4,5,(u8s [(48+(rr%10))]++[]))::(b2,29,(YD ds1++rest_1))::(YH g3 5 (u8s (o2++[(48+(rr%10))]))++[])) w11:=YQ (YH g3 5<|u8s (o2++[(48+(rr%10))])) (H2:=[(b4,5,(u8s [(48+(rr%10))]++[])),(b2,29,(YD ds1++rest_1))]) (H:=[]) R15;exact sa L65 rfl<|SX<|Sm rfl<|So rfl<|XK (z:=((rr:Int)/(10:Int))) rfl rfl (by omega) (Za3 (k:=.u64) (by omega) (by omega) (show _<=(18446744073709551615:Int) by omega))<|Sa rfl<|SY<|Sm rfl<|So rfl<|Zy rfl rfl Xd<|Sa rfl λ_ L72=>sn<|⟨19-(i+1),(by omega),S6,(i+1),(rr/10),g3,(len_o2+1),cap4,(o2++[(48+(rr%10))]),l6,(((L72.ri 5 (((rr/10):Nat):Int) rfl).a ((L72.ri 6 (((i+1):Nat):Int) rfl).a L72)).kp [6,3,5,19,18,17,16,15,4,2] rfl),(Run.mid [(b2,29,(YD ds1++rest_1))] [(b4,5,(u8s [(48+(rr%10))]++[]))]<|Yd R16),hG3,(by omega),(by rw[hr];exact text_rr),(by first|exact text_out hv (by omega) ho2 hr (Or.inr (by omega))|exact text_out hv (by omega) ho2 hr<|Or.inl<|text_pos (by omega) hz2 (by omega) hv2 hsl2),rfl⟩;refine sN L55 rfl<|cF t5 (ZF rfl rfl)<|Sn rfl<|Ze rfl rfl<|So rfl<|Ze rfl rfl<|SF rfl λ_ L77=>wp_exit<|Zo<|Zo<|Yl<|Zx<|Zc ?_;have hq1:=R10;rw[u64s_split n2] at hq1;have hG4:=Gw.retake (n:=n2) (ds:=ds1) hG_dd (by omega) (by omega);have R17:Run S w S6 (YH (some (b2,YD (ds1.drop n2)++rest_1)) 29 (YD<|ds1.take n2)++(YH g_o2 5 (u8s o2)++[])) w7:=Zhp [] (H:=(YH g_o2 5 (u8s o2)++[])) hq1;exact⟨val W64 (ds1.take n2),(by rw[hv2,hsl2];exact Nat.lt_of_lt_of_eq (Nat.div_lt_self (val_pos hz (by omega)) (show 1<10000000000000000000 by decide)) (by omega)),S6,(mm+i),(some (b2,YD (ds1.drop n2)++rest_1)),n2,cap_dd,(ds1.take n2),g_o2,len_o2,cap_o2,o2,(l3.trans<|l4.trans<|l5.trans l6),(L77.kp [4,3,2] rfl),R17,hG_o2,hG4,(by exact lt_take hsl1),(by exact Zhl (by omega) hz2),(by rw[hv2,hsl2];first|exact Zhf hv (by omega) (Or.inl (by omega))|exact Zhf hv (by omega)<|Or.inr ⟨text_zero (by omega) hv2 hsl2,by omega⟩),ho2,(by omega),rfl⟩;refine sO L26 rfl<|cF t3 (Zs rfl rfl)<|Sm rfl<|Sf rfl<|Sf rfl<|Sf rfl<|Sf rfl λ_ L83=>ZY L83 rfl rfl rfl rfl rfl λ_ L84=>ZY L84 rfl rfl rfl rfl rfl<|Sf rfl<|So rfl<|Ze rfl rfl<|kP [2,4,15,16,17,18,19,5,3,6,37,38,39,47] rfl<|SF rfl λ_ L88=>wp_exit<|Zo<|Zo<|Yl<|Zx<|Zc ?_;have hq2:=R10;rw[u64s_split n2] at hq2;have hG5:=Gw.retake (n:=n2) (ds:=ds1) hG_dd (by omega) (by omega);have R18:Run S w S6 (YH (some (b2,YD (ds1.drop n2)++rest_1)) 29 (YD<|ds1.take n2)++(YH g_o2 5 (u8s o2)++[])) w7:=Zhp [] (H:=(YH g_o2 5 (u8s o2)++[])) hq2;exact⟨val W64 (ds1.take n2),(by rw[hv2,hsl2];exact Nat.lt_of_lt_of_eq (Nat.div_lt_self (val_pos hz (by omega)) (show 1<10000000000000000000 by decide)) (by omega)),S6,(mm+i),(some (b2,YD (ds1.drop n2)++rest_1)),n2,cap_dd,(ds1.take n2),g_o2,len_o2,cap_o2,o2,(l3.trans<|l4.trans<|l5.trans l6),(L88.kp [4,3,2] rfl),R18,hG_o2,hG5,(by exact lt_take hsl1),(by exact Zhl (by omega) hz2),(by rw[hv2,hsl2];first|exact Zhf hv (by omega) (Or.inl (by omega))|exact Zhf hv (by omega)<|Or.inr ⟨text_zero (by omega) hv2 hsl2,by omega⟩),ho2,(by omega),rfl⟩;skip;refine wp_block<|ZJ (λm ac ww=>∃(S':Sh)(n2:Nat),S4.le S'/\ZD ac 85 [(2,(.string (⟨#[]⟩:ByteArray))),(3,(.slice (some ⟨b2,0,none⟩) n2 cap_dd)),(4,(.slice (gp g_out) len_out cap_out)),(15,(.slice (some ⟨b2,0,none⟩) len_dd cap_dd)),(16,(.int .i64 ((len_dd:Nat):Int))),(17,(.bool true)),(18,(.slice (some ⟨b2,0,none⟩) len_dd cap_dd)),(19,(.int .u64 ((val W64 dd%10000000000000000000:Nat):Int))),(5,(.int .u64 ((val W64 dd%10000000000000000000:Nat):Int)))]/\Run S w S' ((b2,29,(YD ds1++rest_1))::(YH g_out 5 (u8s out)++[])) ww/\(n2<=len_dd)/\(val W64 (ds1.take n2)=val W64 ds1)/\m=n2) len_dd ⟨S4,len_dd,Sh.le.refl _,(L20.kp [5,19,18,17,16,15,4,3,2] rfl),R8,(by omega),(by rw[List.take_of_length_le (by omega)]),rfl⟩ ?_;rintro m_3 ac4 _ ⟨S7,n2,l7,L89,R19,hn2,hv2,m3⟩;refine wp_seq<|wA<|sm L89 rfl<|So rfl<|Zz rfl underlying30 λ_ L91=>?_;by_cases t6:(0:Int)<(n2:Int);refine sO L91 rfl<|cT t6 (ZF rfl rfl)<|Sm rfl<|Sn rfl<|Zd rfl<|Sn rfl<|Zd rfl<|Sn rfl<|Zz rfl underlying30<|Sn rfl<|ZO rfl rfl Xd<|Sn rfl<|Zr (n2-1) rfl rfl underlying30 ZG (by omega) (by omega)<|Sn rfl<|Zk (v:=(.int .u64 ((ds1.getD (n2-1) 0:Nat):Int))) rfl YB (R19.has<|List.Mem.head _) (by rw[Nat.zero_add];exact Yj (by omega)) λ_ L99=>?_;by_cases t7:((ds1.getD (n2-1) 0:Nat):Int)=(0:Int);exact sN L99 rfl<|cT t7 (ZP rfl rfl)<|So rfl<|Ze rfl rfl<|ST rfl λ_ L101=>wp_skip<|Zc<|wp_block<|Za<|sm L101 rfl<|Sm rfl<|So rfl<|Zz rfl underlying30<|So rfl<|ZO (z:=((n2-1:Nat):Int)) rfl rfl (i64_to (by omega) (by omega))<|So rfl<|Qo (i:=(n2-1)) rfl rfl underlying30 ZG (by omega)<|Sa rfl λ_ L107=>Ya<|Zx<|Zc<|⟨(n2-1),(by omega),S7,(n2-1),l7,(L107.kp [5,19,18,17,16,15,4,3,2] rfl),R19,(by omega),(by rw[<-hv2];exact Zds (by omega) (by omega) (by omega)),rfl⟩;exact sN L99 rfl<|cF t7 (ZP rfl rfl)<|So rfl<|Ze rfl rfl<|SF rfl λ_ L109=>wp_exit<|Zo<|Zo<|Yl<|Zc<|⟨S7,n2,l7,(L109.kp [3,5,19,18,17,16,15,4,2] rfl),R19,(by omega),hv2,(by omega)⟩;exact sO L91 rfl<|cF t6 (ZF rfl rfl)<|Sm rfl<|Sf rfl<|Sf rfl<|Sf rfl<|Sf rfl<|Sf rfl<|Sf rfl<|Sf rfl<|So rfl<|Ze rfl rfl<|kP [2,3,4,15,16,17,18,19,5,20,21,22,23,31] rfl<|SF rfl λ_ L120=>wp_exit<|Zo<|Zo<|Yl<|Zc<|⟨S7,n2,l7,(L120.kp [3,5,19,18,17,16,15,4,2] rfl),R19,(by omega),hv2,(by omega)⟩;refine sO L16 rfl<|cF t2 (ZF rfl rfl)<|SF rfl λ_ L121=>wp_exit<|Zo<|Zo<|Yl<|Zc<|wp_seq<|wp_seq ?_;have hdd:dd=[]:=List.length_eq_zero_iff.1 (by omega);obtain⟨hod,hop⟩:=text_done ha (by rw[<-hv,hdd];rfl) ho;have hol:out.length=(ZL 10 a).length:=by rw[hod,List.length_map]
 have R20:Run S w S3 (YH g_out 5 (u8s out)++(YH g_dd 29 (YD dd)++[])) w4:=gown_swap [] R6;obtain⟨b5,rest_2,rfl⟩:=hG_out.some (by omega);have R21:Run S w S3 ((b5,5,(u8s out++rest_2))::(YH g_dd 29 (YD dd)++[])) w4:=gown_out [] (H:=(YH g_dd 29 (YD dd)++[])) R20;refine Za<|sm L121 rfl<|So rfl<|Zz rfl underlying189<|So rfl<|ZO rfl rfl Xd<|Sa rfl<|Sa rfl<|kP [2,4,7,8] rfl λ_ L127=>sn<|wp_block<|ZJ (λm ac ww=>∃(S':Sh)(us:List Nat)(i:Nat)(j:Nat),S3.le S'/\ZD ac 85 [(2,(.string (⟨#[]⟩:ByteArray))),(4,(.slice (some ⟨b5,0,none⟩) len_out cap_out)),(7,(.int .i64 ((i:Nat):Int))),(8,(.int .i64 ((j:Nat):Int)))]/\Run S w S' ((b5,5,(u8s us++rest_2))::(YH g_dd 29 (YD dd)++[])) ww/\(Zid out us i)/\(j+i+1=len_out)/\(i<=j+1)/\m=j) (len_out-1) ⟨S3,out,0,(len_out-1),Sh.le.refl _,(((L127.ri 7 ((0:Nat):Int) rfl).a ((L127.ri 8 (((len_out-1):Nat):Int) rfl).a L127)).kp [8,7,4,2] rfl),R21,(by exact Zid.start _),(by omega),(by omega),rfl⟩ ?_;rintro m_4 ac5 _ ⟨_,us,i,j,l8,L128,R22,hI,hj,hij,m4⟩;refine wp_seq<|wp_seq ?_;have hIl:=hI.len;refine Za<|sm L128 rfl<|Sm rfl λ_ L132=>?_;by_cases t8:(i:Int)<(j:Int);refine sO L132 rfl<|cT t8 (Zs rfl rfl)<|ST rfl λ_ L133=>wp_skip<|Zc<|wp_seq<|wp_block ?_;have L134:=(L133.kp [2,4,7,8,62,63,64] rfl);refine Zw (E0:=[(1000,b5,5,(u8s us++rest_2),false)]) (H0:=(YH g_dd 29 (YD dd)++[])) (n:=85) mixed 14 [] (λk=>if k=1000 then 13 else 0) (Zcn [.is (.slice (some ⟨b5,0,none⟩) len_out cap_out),.is (.int .i64 (i:Int)),.is (.slice (some ⟨b5,0,none⟩) len_out cap_out),.is (.int .i64 (j:Int)),.is (.slice (some ⟨b5,0,none⟩) len_out cap_out),.is (.int .i64 (j:Int)),.is (.pointer (some ⟨b5,(0+(j)),none⟩)),.is (.int .u8 ((us.getD j 0:Nat):Int)),.is (.slice (some ⟨b5,0,none⟩) len_out cap_out),.is (.int .i64 (i:Int)),.is (.pointer (some ⟨b5,(0+(i)),none⟩)),.is (.int .u8 ((us.getD i 0:Nat):Int)),.is (.pointer (some ⟨b5,(0+(i)),none⟩)),.stored 1000 5 (λ_ cs=>cs=(u8s (us.set i<|us.getD j 0)++rest_2)) (λ_ _ _ _ h=>h)]) L134 R22 (by simp) (by simp) (by rfl) (by rfl) (by simp) (ZU ?_) ?_;refine(Ak ?_ ?_<|Al ?_ ?_ ?_ ?_<|Am ?_ ?_ ?_ ?_ ?_ ?_ ?_ ?_ trivial);exact dm [] rfl;exact dm [] rfl;exact dm [] rfl;exact dm [] rfl;exact dm [] rfl;exact dm [] rfl;exact dK [4,5] rfl λA=>Zr j rfl rfl underlying189 Zeq (by omega) (by omega)<|A.same rfl;exact dK [6] rfl λA=>Zk (v:=(.int .u8 ((us.getD j 0:Nat):Int))) rfl agg_5 (A.has0 (List.Mem.head _) (by rfl)) (by rw[Nat.zero_add];exact u8s_get (by omega))<|A.same rfl;exact dm [] rfl;exact dm [] rfl;exact dK [8,9] rfl λA=>Zr i rfl rfl underlying189 Zeq (by omega) (by omega)<|A.same rfl;exact dK [10] rfl λA=>Zk (v:=(.int .u8 ((us.getD i 0:Nat):Int))) rfl agg_5 (A.has0 (List.Mem.head _) (by rfl)) (by rw[Nat.zero_add];exact u8s_get (by omega))<|A.same rfl;exact dK [0,1] rfl λA=>Zr i rfl rfl underlying189 Zeq (by omega) (by omega)<|A.same rfl;exact Zb rfl λ_ _ _ _ _ A14=>does_storeRA A14 (A14.kn [7,12] rfl) rfl rfl (List.Mem.head _) rfl Zeq rfl rfl (by simp only[List.length_append,Zbs];omega) (by rw[Nat.zero_add];exact u8s_set (by omega)) rfl rfl;intro S23 _ _ w28 l9 E1 R23 n1 L149 K1;have L162:=L149.dr K1 [0,1,2,3,4,5,6,7,8,9,10,11,12] rfl;obtain⟨b6,c1,m5,rfl⟩:=K1 13 (by decide);obtain⟨c2,q1,m6,_,_⟩:=E1 _ _ _ _ _ (List.Mem.head _);obtain⟨hbe1,rfl⟩:=Zgy n1 m5 m6;obtain rfl:=hbe1.symm;have R24:Run _ _ S23 ((b5,5,(u8s (us.set i<|us.getD j 0)++rest_2))::(YH g_dd 29 (YD dd)++[])) w28:=Yb R23 n1 [(1000,b5,5,(u8s (us.set i<|us.getD j 0)++rest_2),true)] (by simp) (List.forall_mem_cons.2 ⟨m5,(by simp)⟩);exact sO L162 rfl<|Zr j rfl rfl underlying189 Zeq (by omega) (by omega)<|Sz rfl<|Yo (cs':=(u8s ((us.set i<|us.getD j 0).set j (us.getD i 0))++rest_2)) rfl rfl R24 Zeq rfl (by simp only[List.length_append,Zbs];simp only[List.length_set];omega) (by rw[Nat.zero_add];exact u8s_set (by simp only[List.length_set];omega)) λ_ R25=>SY<|Sm rfl<|So rfl<|Zy rfl rfl Xd<|Sm rfl<|So rfl<|ZO rfl rfl Xd<|Sa rfl<|Sa rfl λ_ L170=>sn<|⟨(j-1),(by omega),S23,((us.set i<|us.getD j 0).set j (us.getD i 0)),(i+1),(j-1),(l8.trans l9),(((L170.ri 7 (((i+1):Nat):Int) rfl).a ((L170.ri 8 (((j-1):Nat):Int) rfl).a L170)).kp [8,7,4,2] rfl),R25,(by exact hI.step (by omega) (by omega)),(by omega),(by omega),rfl⟩;exact sO L132 rfl<|cF t8 (Zs rfl rfl)<|SF rfl λ_ L173=>wp_exit<|Zo<|Zo<|Yl<|Zc<|wA<|sm L173 rfl<|So rfl<|Zec (ds:=us) rfl underlying189 underlying5 underlying9 (R22.has<|List.Mem.head _) (by(have q:=hI.len;omega))<|Sa rfl λ_ L176=>sn<|wp_ret<|rt (L176.kp [2] rfl) (.tmp rfl Res.nil)<|⟨_,_,rfl,R22.ext,(by exact congrArg Value.string<|text_fin ha hod<|hI.done (j:=j) (by omega) (by omega) (by omega))⟩
theorem Zc7{S:Sh}{w:World}(hS:ZV S w){s:ByteArray}(hlim:s.size<=1099511627776):Calls prog 97 [(.string s)].toArray w (Ret S w (λS v=>((¬wd (bl s))/\∃(c0:List Value),v= .tuple [.agg c0.toArray,.int .i64 12].toArray/\Na S c0 0 0)\/((wd (bl s)/\256<s.size)/\∃(c0:List Value),v= .tuple [.agg c0.toArray,.int .i64 3].toArray/\Na S c0 0 0)\/((wd (bl s)/\s.size<=256)/\∃(c0:List Value),v= .tuple [.agg c0.toArray,.int .i64 0].toArray/\Na S c0 (Xw<|bl s) 900))):=by
 refine cbd hS (n:=109) func97 rfl λ_ L0 R0=>?_;have hbs:=YK s;refine wA<|sO L0 rfl<|ZK (cs:=zN1) ZZ R0 rfl λb1 _ R1=>Sa rfl λ_ L2=>sn<|Xr (λac ww=>∃(S':Sh),S.le S'/\ZD ac 109 [(0,(.string s)),(2,(.pointer (some ⟨b1,0,none⟩))),(3,(.int .i64 (0:Int)))]/\Run S w S' [(b1,32,zN1)] ww/\(0<s.size)/\((bl s).length=1\/(bl s).getD 0 0≠48)) ?_ ?_;rintro ac1 _ ⟨S1,l1,L3,R2,hne,h48⟩;refine wp_seq<|wA<|sm L3 rfl<|So rfl<|Yr rfl underlying9<|Sm rfl λ_ L6=>sn<|wp_block<|ZJ (λm ac ww=>∃(S':Sh)(i:Nat),S1.le S'/\ZD ac 109 [(0,(.string s)),(2,(.pointer (some ⟨b1,0,none⟩))),(3,(.int .i64 (0:Int))),(28,(.int .i64 ((s.size:Nat):Int))),(29,(.int .i64 ((i:Nat):Int)))]/\Run S w S' [(b1,32,zN1)] ww/\(i<=s.size)/\(∀k,k<i->48<=(bl s).getD k 0/\(bl s).getD k 0<=57)/\m=s.size-i) (s.size-0) ⟨S1,0,Sh.le.refl _,(((L6.ri 29 ((0:Nat):Int) rfl).a L6).kp [29,28,3,2,0] rfl),R2,(by omega),(by intro k hk;omega),rfl⟩ ?_;rintro m_1 ac2 w3 ⟨S2,i,l2,L7,R3,hi,hdg,m1⟩;refine wp_seq<|Za ?_;by_cases t1:(i:Int)<((s.size:Nat):Int);refine sO L7 rfl<|cT t1 (Zs rfl rfl) λ_ L9=>sn<|wp_seq<|Zl L9 rfl rfl<|wp_skip<|Zc<|wp_seq<|wp_block<|wA<|sm L9 rfl<|Sa rfl<|SW<|Sm rfl<|Sm rfl<|So rfl<|YO (j:=i) rfl rfl underlying9 (by omega) (by omega) λ_ L14=>?_;by_cases t2:(((bl s).getD i 0:Nat):Int)<(48:Int);refine sO L14 rfl<|cT t2 (Zs rfl rfl)<|Sm rfl<|Sf rfl<|Sf rfl<|Sf rfl<|Sf rfl<|So rfl<|Ze rfl rfl<|ST rfl λ_ L21=>wp_seq<|Za ?_;have h1:Na S2 zN1 0 (0):=Na.zero _ _;exact sO L21 rfl<|ZH (cs:=zN1) ZZ Qx .nil (by rfl)<|Sz rfl<|Zm rfl rfl R3 Zp h1.len rfl h1.ones λ_ R4=>Sa rfl λ_ L24=>sn<|wp_ret<|YE<|Zt<|Zt<|YE<|Zt<|rt L24 (Res.aggW rfl ZM Zp (R4.has<|List.Mem.head _) h1.len<|.tmp rfl Res.nil)<|⟨_,_,rfl,R4.ext,(Or.inl ⟨by exact Zhk (i:=i) (by omega) (by omega),⟨_,rfl,(h1.to rfl (by omega))⟩⟩)⟩;refine sO L14 rfl<|cF t2 (Zs rfl rfl)<|Sm rfl<|Sn rfl<|Zd rfl<|Sn rfl<|Zd rfl<|Sn rfl<|YO (j:=i) rfl rfl underlying9 (by omega) (by omega) λ_ L29=>?_;by_cases t3:(57:Int)<(((bl s).getD i 0:Nat):Int);refine sN L29 rfl<|cT t3 (ZF rfl rfl)<|So rfl<|Ze rfl rfl<|ST rfl λ_ L31=>wp_seq<|Za ?_;have h2:Na S2 zN1 0 (0):=Na.zero _ _;exact sO L31 rfl<|ZH (cs:=zN1) ZZ Qx .nil (by rfl)<|Sz rfl<|Zm rfl rfl R3 Zp h2.len rfl h2.ones λ_ R5=>Sa rfl λ_ L34=>sn<|wp_ret<|YE<|Zt<|Zt<|YE<|Zt<|rt L34 (Res.aggW rfl ZM Zp (R5.has<|List.Mem.head _) h2.len<|.tmp rfl Res.nil)<|⟨_,_,rfl,R5.ext,(Or.inl ⟨by exact Zhk (i:=i) (by omega) (by omega),⟨_,rfl,(h2.to rfl (by omega))⟩⟩)⟩;exact sN L29 rfl<|cF t3 (ZF rfl rfl)<|So rfl<|Ze rfl rfl<|SF rfl λ_ L36=>wp_skip<|Zx<|Zc<|Za<|sO L36 rfl<|Zy rfl rfl Xd<|Sm rfl λ_ L38=>sn<|⟨s.size-(i+1),(by omega),S2,(i+1),l2,(((L38.ri 29 (((i+1):Nat):Int) rfl).a L38).kp [29,28,3,2,0] rfl),R3,(by omega),(by exact dig_step hdg ⟨by omega,by omega⟩),rfl⟩;refine sO L7 rfl<|cF t1 (Zs rfl rfl) λ_ L40=>sn<|wp_seq<|Zh L40 rfl rfl<|wp_exit<|Zo<|Zo<|Yl<|Zc<|wp_seq<|wp_seq ?_;have hwd:wd (bl s):=wd_of (i:=i) (by omega) h48 (by omega) hdg;refine Za<|sm L40 rfl<|So rfl<|Yr rfl underlying9 λ_ L42=>?_;by_cases t4:(256:Int)<((s.size:Nat):Int);refine sO L42 rfl<|cT t4 (ZF rfl rfl)<|kP [0,2,3,46] rfl<|ST rfl λ_ L44=>wp_seq<|Za ?_;have h3:Na S2 zN1 0 (0):=Na.zero _ _;exact sO L44 rfl<|ZH (cs:=zN1) ZZ Qx .nil (by rfl)<|Sz rfl<|Zm rfl rfl R3 Zp h3.len rfl h3.ones λ_ R6=>Sa rfl λ_ L47=>sn<|wp_ret<|Zt<|rt L47 (Res.aggW rfl ZM Zp (R6.has<|List.Mem.head _) h3.len<|.tmp rfl Res.nil)<|⟨_,_,rfl,R6.ext,(Or.inr<|Or.inl ⟨by exact⟨hwd,by omega⟩,⟨_,rfl,(h3.to rfl (by omega))⟩⟩)⟩;refine sO L42 rfl<|cF t4 (ZF rfl rfl)<|kP [0,2,3,46] rfl<|SF rfl λ_ L49=>wp_skip<|Zc<|wA<|sa L49 rfl λ_ L50=>sn<|wp_seq<|wp_block ?_;have R7:Run S w S2 ((b1,32,zN1)::(YH none 29 (YD [])++[])) w3:=R3;refine ZJ (λm ac ww=>∃(S':Sh)(t:ByteArray)(kk:Nat)(g_dd:Option (Nat × List Value))(len_dd:Nat)(cap_dd:Nat)(dd:List Nat),S2.le S'/\ZD ac 109 [(0,(.string t)),(2,(.pointer (some ⟨b1,0,none⟩))),(3,(.int .i64 (0:Int))),(5,(.slice (gp g_dd) len_dd cap_dd))]/\Run S w S' ((b1,32,zN1)::(YH g_dd 29 (YD dd)++[])) ww/\(Gw g_dd len_dd cap_dd 1<|YD dd)/\(∀e∈dd,e<18446744073709551616)/\(bl t=(bl s).drop kk)/\(val W64 dd=Xw ((bl s).take kk))/\(len_dd<=kk)/\(kk+t.size=s.size)/\m=t.size) s.size ⟨S2,s,0,none,0,0,[],Sh.le.refl _,(L50.kp [5,3,2,0] rfl),R7,(Gw.nil 1),(by simp),(by simp),(by rfl),(by omega),(by omega),rfl⟩ ?_;rintro m_2 ac3 w7 ⟨S3,t,kk,g_dd,len_dd,cap_dd,dd,l3,L51,R8,hG_dd,hd,ht,hv,hb,hkk,m2⟩;have hl_dd:=hG_dd.hl;rw[ZN,Nat.mul_one] at hl_dd;have hc_dd:=hG_dd.hc;refine wp_seq<|wA<|sm L51 rfl<|So rfl<|Yr rfl underlying9 λ_ L53=>?_;by_cases t5:(0:Int)<((t.size:Nat):Int);refine sO L53 rfl<|cT t5 (ZF rfl rfl)<|ST rfl λ_ L54=>wp_skip<|Zc<|wp_block<|wp_seq ?_;have hbt:=YK t;have hdt:∀c∈bl t,48<=c/\c<=57:=λc hc=>hwd.2.1 c<|List.mem_of_mem_drop (by rw[<-ht];exact hc);refine Za<|sm L54 rfl<|So rfl<|Yr rfl underlying9<|So rfl<|ZO rfl rfl Xd<|So rfl<|XZ (z:=((((t.size:Nat):Int)-(1:Int))%(19:Int))) rfl rfl (by omega) (Zb8 (by omega))<|So rfl<|Zy (z:=(((t.size-1)%19+1:Nat):Int)) rfl rfl (i64_to (by omega) (by omega))<|Sa rfl<|SW<|Sa rfl<|Sa rfl λ_ L62=>sn<|Xr (λac ww=>∃(S':Sh)(c0:Nat)(yy:Nat),S3.le S'/\ZD ac 109 [(0,(.string t)),(2,(.pointer (some ⟨b1,0,none⟩))),(3,(.int .i64 (0:Int))),(5,(.slice (gp g_dd) len_dd cap_dd)),(48,(.string t)),(49,(.int .i64 ((t.size:Nat):Int))),(50,(.bool true)),(51,(.string t)),(52,(.int .i64 ((t.size:Nat):Int))),(53,(.int .i64 (((t.size:Nat):Int)-(1:Int)))),(54,(.int .i64 ((((t.size:Nat):Int)-(1:Int))%(19:Int)))),(55,(.int .i64 (((t.size-1)%19+1:Nat):Int))),(6,(.int .i64 (((t.size-1)%19+1:Nat):Int))),(7,(.int .u64 ((c0:Nat):Int))),(8,(.int .u64 ((yy:Nat):Int)))]/\Run S w S' ((b1,32,zN1)::(YH g_dd 29 (YD dd)++[])) ww/\(c0=Xw ((bl t).take ((t.size-1)%19+1)))/\(yy=10^((t.size-1)%19+1))) ?_ ?_;rintro ac4 _ ⟨S4,c0,yy,l4,L63,R9,hc0,hyy⟩;refine wp_seq<|wp_seq ?_;have hpl:=pow10_le (show(t.size-1)%19+1<=19 by omega);refine Za<|sm L63 rfl<|So rfl<|Zz rfl underlying30<|Sm rfl λ_ L66=>sn<|wp_block<|ZJ (λm ac ww=>∃(S':Sh)(i:Nat)(cc:Nat)(g_us:Option (Nat × List Value))(len_us:Nat)(cap_us:Nat)(us:List Nat),S4.le S'/\ZD ac 109 [(0,(.string t)),(2,(.pointer (some ⟨b1,0,none⟩))),(3,(.int .i64 (0:Int))),(5,(.slice (gp g_us) len_us cap_us)),(48,(.string t)),(49,(.int .i64 ((t.size:Nat):Int))),(50,(.bool true)),(51,(.string t)),(52,(.int .i64 ((t.size:Nat):Int))),(53,(.int .i64 (((t.size:Nat):Int)-(1:Int)))),(54,(.int .i64 ((((t.size:Nat):Int)-(1:Int))%(19:Int)))),(55,(.int .i64 (((t.size-1)%19+1:Nat):Int))),(6,(.int .i64 (((t.size-1)%19+1:Nat):Int))),(7,(.int .u64 ((cc:Nat):Int))),(8,(.int .u64 ((yy:Nat):Int))),(71,(.slice (gp g_dd) len_dd cap_dd)),(72,(.int .i64 ((len_dd:Nat):Int))),(73,(.int .i64 ((i:Nat):Int)))]/\Run S w S' ((b1,32,zN1)::(YH g_us 29 (YD us)++[])) ww/\(Gw g_us len_us cap_us 1<|YD us)/\(ByInv dd us yy c0 i cc)/\(i<=len_dd)/\(len_us=len_dd)/\m=len_dd-i) (len_dd-0) ⟨S4,0,c0,g_dd,len_dd,cap_dd,dd,Sh.le.refl _,(((L66.ri 73 ((0:Nat):Int) rfl).a L66).kp [73,72,71,8,7,6,55,54,53,52,51,50,49,48,5,3,2,0] rfl),R9,hG_dd,(by exact ByInv.start hd (by rw[hc0,hyy];exact pval_take_lt hdt)),(by omega),(by omega),rfl⟩ ?_;rintro m_3 ac5 w9 ⟨S5,i,cc,g_us,len_us,cap_us,us,l5,L67,R10,hG_us,hI,hi,hlu,m3⟩;have hl_us:=hG_us.hl;rw[ZN,Nat.mul_one] at hl_us;have hc_us:=hG_us.hc;refine wp_seq<|Za ?_;by_cases t6:(i:Int)<(len_dd:Int);refine sO L67 rfl<|cT t6 (Zs rfl rfl) λ_ L69=>sn<|wp_seq<|Zl L69 rfl rfl<|wp_skip<|Zc<|wp_seq<|wp_block<|wA<|sm L69 rfl<|Sa rfl λ_ L71=>sn<|wp_seq ?_;have hIc:=hI.cb;have hIn:=hI.len;refine Za<|sm L71 rfl<|Sm rfl λ_ L73=>?_;obtain⟨b2,rest_1,rfl⟩:=hG_us.some (by omega);have R11:Run S w S5 [(b2,29,(YD us++rest_1)),(b1,32,zN1)] w9:=gown_out [(b1,32,zN1)] (H:=[]) R10;refine sO L73 rfl<|Zr i rfl rfl underlying30 ZG (by omega) (by omega)<|So rfl<|Zk (v:=(.int .u64 ((us.getD i 0:Nat):Int))) rfl YB (R11.has<|List.Mem.head _) (by rw[Nat.zero_add];exact Yj (by omega))<|Sm rfl<|So rfl<|Zi rfl ent_139 (Zat R11.holds (x:=(us.getD i 0)) (y:=yy) (ZT hI.lt (by decide) _) (by omega)) λv_1 S6 _ x1 v1=>?_;have R12:=R11.call x1;have l6:=x1.le;obtain rfl:=v1;intro _ L77;refine sm L77 rfl<|So rfl<|Zj rfl rfl<|So rfl<|Zj rfl rfl<|Sa rfl<|Sa rfl<|SW<|Sa rfl<|SW<|Sm rfl<|Sm rfl<|Sm rfl<|Sm rfl λ_ L87=>so L87 rfl<|Xh (x:=((us.getD i 0)*yy%18446744073709551616)) (y:=cc) (c:=0) L87 rfl (by omega)<|Sm rfl<|So rfl<|Zj rfl rfl<|So rfl<|Zj rfl rfl<|So rfl<|Zr i rfl rfl underlying30 ZG (by omega) (by omega)<|Sz rfl<|Yo (cs':=(YD (us.set i ((((us.getD i 0)*yy%18446744073709551616)+cc+0)%18446744073709551616))++rest_1)) rfl rfl R12 ZG rfl (by simp only[List.length_append,ZN];omega) (by rw[Nat.zero_add];exact Xs (by omega)) λw11 R13=>Sa rfl λ_ L94=>sn ?_;have hbl:=by_lt (ZT hI.lt (by decide) i) hI.cb;refine Za<|sm L94 rfl<|Sm rfl<|So rfl<|Zy rfl rfl Zav<|Sa rfl<|SY<|So rfl<|Zy rfl rfl Xd<|Sm rfl λ_ L100=>sn ?_;have hG1:=Gw.same (ds:=(us.set i ((((us.getD i 0)*yy%18446744073709551616)+cc+0)%18446744073709551616))) hG_us (by simp);have R14:Run S w S6 ((b1,32,zN1)::(YH (some (b2,rest_1)) 29 (YD<|us.set i ((((us.getD i 0)*yy%18446744073709551616)+cc+0)%18446744073709551616))++[])) w11:=Zhp [(b1,32,zN1)] (H:=[]) R13;exact⟨len_dd-(i+1),(by omega),S6,(i+1),(((us.getD i 0)*yy/18446744073709551616)+((((us.getD i 0)*yy%18446744073709551616)+cc+0)/18446744073709551616)),(some (b2,rest_1)),len_us,cap_us,(us.set i ((((us.getD i 0)*yy%18446744073709551616)+cc+0)%18446744073709551616)),(l5.trans l6),(((L100.ri 7 (((((us.getD i 0)*yy/18446744073709551616)+((((us.getD i 0)*yy%18446744073709551616)+cc+0)/18446744073709551616)):Nat):Int) rfl).a ((L100.ri 73 (((i+1):Nat):Int) rfl).a L100)).kp [73,72,71,8,7,6,55,54,53,52,51,50,49,48,5,3,2,0] rfl),R14,hG1,(by exact hI.step (by omega) (by omega) (by rfl) (by rfl)),(by omega),(by omega),rfl⟩;refine sO L67 rfl<|cF t6 (Zs rfl rfl) λ_ L103=>sn<|wp_seq<|Zh L103 rfl rfl<|wp_exit<|Zo<|Zo<|Yl<|Zc<|wp_seq<|wp_seq ?_;have hIc:=hI.cb;have hIl:=hI.lt;have hIn:=hI.len;refine Za<|sm L103 rfl λ_ L104=>?_;by_cases t7:(0:Int)<(cc:Int);refine sO L104 rfl<|cT t7 (ZF rfl rfl)<|ST rfl λ_ L105=>Za<|sm L105 rfl<|Sm rfl<|So rfl<|Yf (cs:=(YD [cc]++[])) underlying30 ZG Zah (.cons rfl rfl (by decide) .nil) [[(.int .u64 (cc:Int))]] rfl rfl (by rfl) (by decide) R10 λb3 _ R15=>So rfl<|Xl (g:=g_us) (cs:=(YD us)) (vs:=(YD [cc])) (H:=[(b3,29,(YD [cc]++[])),(b1,32,zN1)]++[]) rfl rfl underlying30 ZG Zbp Zah rfl hG_us (YQ [(b3,29,(YD [cc]++[])),(b1,32,zN1)] (H2:=YH g_us 29 (YD us)) (H:=[]) R15) (R15.has<|List.Mem.head _) rfl rfl (u64s_ones _) (by omega) (by omega) (by omega) λg1 cap1 w13 hG2 R16 _ L109=>?_;rw[Zdw] at hG2 R16;have R17:Run S w S5 ((b3,29,(YD [cc]++[]))::(b1,32,zN1)::(YH g1 29 (YD (us++[cc]))++[])) w13:=YQ (YH g1 29<|YD (us++[cc])) (H2:=[(b3,29,(YD [cc]++[])),(b1,32,zN1)]) (H:=[]) R16;exact sa L109 rfl<|SX<|Sm rfl<|Sm rfl<|So rfl<|XY (i:=((t.size-1)%19+1)) (j:=t.size) (z:=(t.extract ((t.size-1)%19+1) t.size)) rfl underlying9 ⟨_,rfl⟩ rfl (by omega) (by omega) rfl<|Sa rfl λ_ L114=>Ya<|Zx<|Zc<|⟨(t.extract ((t.size-1)%19+1) t.size).size,(by rw[ByteArray.size_extract];omega),S5,(t.extract ((t.size-1)%19+1) t.size),(kk+((t.size-1)%19+1)),g1,(len_us+1),cap1,(us++[cc]),(l3.trans<|l4.trans l5),(L114.kp [5,3,2,0] rfl),(Run.mid [(b1,32,zN1)] [(b3,29,(YD [cc]++[]))]<|Yd R17),hG2,(by first|exact lt_snoc hIl (by omega)|exact hIl),(by rw[Zb3,ht,List.take_of_length_le (by rw[<-ht,YK];omega),List.drop_drop]),(by have q:=parse_next ht hv (by rw[YK];omega) hc0;have r:=hI.done (by omega) (by omega);rw[<-hyy] at q;first|(rw[val_snoc,<-q];exact r)|(rw[<-q,<-r,show cc=0 by omega];simp)),(by omega),(by rw[ByteArray.size_extract];omega),rfl⟩;exact sO L104 rfl<|cF t7 (ZF rfl rfl)<|SF rfl λ_ L115=>wp_skip<|Zc<|Za<|sm L115 rfl<|Sm rfl<|So rfl<|XY (i:=((t.size-1)%19+1)) (j:=t.size) (z:=(t.extract ((t.size-1)%19+1) t.size)) rfl underlying9 ⟨_,rfl⟩ rfl (by omega) (by omega) rfl<|Sa rfl λ_ L119=>Ya<|Zx<|Zc<|⟨(t.extract ((t.size-1)%19+1) t.size).size,(by rw[ByteArray.size_extract];omega),S5,(t.extract ((t.size-1)%19+1) t.size),(kk+((t.size-1)%19+1)),g_us,len_us,cap_us,us,(l3.trans<|l4.trans l5),(L119.kp [5,3,2,0] rfl),R10,hG_us,(by first|exact lt_snoc hIl (by omega)|exact hIl),(by rw[Zb3,ht,List.take_of_length_le (by rw[<-ht,YK];omega),List.drop_drop]),(by have q:=parse_next ht hv (by rw[YK];omega) hc0;have r:=hI.done (by omega) (by omega);rw[<-hyy] at q;first|(rw[val_snoc,<-q];exact r)|(rw[<-q,<-r,show cc=0 by omega];simp)),(by omega),(by rw[ByteArray.size_extract];omega),rfl⟩;skip;refine wA<|sm L62 rfl<|Sm rfl λ_ L121=>sn<|wp_block ?_;have L123:=L121.ri 7 ((0:Nat):Int) rfl;refine ZJ (λm ac ww=>∃(S':Sh)(i:Nat)(cc:Nat)(yy:Nat),S3.le S'/\ZD ac 109 [(0,(.string t)),(2,(.pointer (some ⟨b1,0,none⟩))),(3,(.int .i64 (0:Int))),(5,(.slice (gp g_dd) len_dd cap_dd)),(48,(.string t)),(49,(.int .i64 ((t.size:Nat):Int))),(50,(.bool true)),(51,(.string t)),(52,(.int .i64 ((t.size:Nat):Int))),(53,(.int .i64 (((t.size:Nat):Int)-(1:Int)))),(54,(.int .i64 ((((t.size:Nat):Int)-(1:Int))%(19:Int)))),(55,(.int .i64 (((t.size-1)%19+1:Nat):Int))),(6,(.int .i64 (((t.size-1)%19+1:Nat):Int))),(7,(.int .u64 ((cc:Nat):Int))),(8,(.int .u64 ((yy:Nat):Int))),(56,(.int .i64 (((t.size-1)%19+1:Nat):Int))),(57,(.int .i64 ((i:Nat):Int)))]/\Run S w S' ((b1,32,zN1)::(YH g_dd 29 (YD dd)++[])) ww/\(i<=(t.size-1)%19+1)/\(cc=Xw ((bl t).take i))/\(yy=10^i)/\m=(t.size-1)%19+1-i) ((t.size-1)%19+1-0) ⟨S3,0,0,1,Sh.le.refl _,((L123.a<|(L121.ri 8 ((1:Nat):Int) rfl).a ((L121.ri 57 ((0:Nat):Int) rfl).a L121)).kp [57,56,8,7,6,55,54,53,52,51,50,49,48,5,3,2,0] rfl),R8,(by omega),(by rfl),(by rfl),rfl⟩ ?_;rintro m_4 ac6 _ ⟨S7,i,cc,yy,l7,L122,R18,hi,hcc,hyy,m4⟩;refine wp_seq<|Za ?_;by_cases t8:(i:Int)<(((t.size-1)%19+1:Nat):Int);refine sO L122 rfl<|cT t8 (Zs rfl rfl) λ_ L126=>sn<|wp_seq<|Zl L126 rfl rfl<|wp_skip<|Zc<|wp_seq<|wp_block<|wA<|sm L126 rfl<|Sa rfl λ_ L128=>sn ?_;have hdi:=digit_at hdt (show i<(bl t).length by omega);have hpl:=pow10_le (show i+1<=19 by omega);rw[Nat.pow_succ] at hpl;have hcl:cc<10^i:=by rw[hcc];exact pval_take_lt hdt
 exact Za<|sm L128 rfl<|So rfl<|XL rfl rfl Zav<|Sm rfl<|Sm rfl<|So rfl<|YO (j:=i) rfl rfl underlying9 (by omega) (by omega)<|So rfl<|ZO rfl rfl u8i<|So rfl<|Yv (z:=((((bl t).getD i 0:Nat):Int)-(48:Int))) rfl rfl underlying29 Zav<|So rfl<|Zy rfl rfl Zav<|Sm rfl<|So rfl<|XL rfl rfl Zav<|Sa rfl<|Sa rfl<|SY<|So rfl<|Zy rfl rfl Xd<|Sm rfl λ_ L142=>sn<|⟨(t.size-1)%19+1-(i+1),(by omega),S7,(i+1),(10*cc+((bl t).getD i 0-48)),(10*yy),l7,(((L142.ri 7 (((10*cc+((bl t).getD i 0-48)):Nat):Int) rfl).a ((L142.ri 8 (((10*yy):Nat):Int) rfl).a ((L142.ri 57 (((i+1):Nat):Int) rfl).a L142))).kp [57,56,8,7,6,55,54,53,52,51,50,49,48,5,3,2,0] rfl),R18,(by omega),(by rw[hcc,Zgh (by rw[YK];omega)]),(by rw[hyy,Nat.pow_succ,Nat.mul_comm]),rfl⟩;exact sO L122 rfl<|cF t8 (Zs rfl rfl) λ_ L146=>sn<|wp_seq<|Zh L146 rfl rfl<|wp_exit<|Zo<|Zo<|Yl<|Zc<|⟨S7,cc,yy,l7,(L146.kp [8,7,6,55,54,53,52,51,50,49,48,5,3,2,0] rfl),R18,(by rw[hcc];congr 2;omega),(by rw[hyy];congr 1;omega)⟩;refine sO L53 rfl<|cF t5 (ZF rfl rfl)<|SF rfl λ_ L147=>wp_exit<|Zo<|Zo<|Yl<|Zc<|wp_seq ?_;have hall:kk=s.size:=by omega
 refine Za<|sm L147 rfl λ_ L148=>?_;obtain⟨S8,l8,r1,R19⟩:=Run.freezeG [(b1,32,zN1)] (H:=[]) R8;have R20:Run S w S8 [(b1,32,zN1)] w7:=R19;have hd1:=hG_dd.dg (S:=S8) r1 (by omega) hd;refine sO L148 rfl<|Zi rfl Zd9 (Zd2 R20.holds (k:=900) hd1 (by rw[hv];exact pval_le (λc hc=>hwd.2.1 c<|List.mem_of_mem_take hc) (by rw[List.length_take];omega))) λv_2 _ _ x2 v2=>?_;have R21:=R20.call x2;obtain⟨c1,rfl,h4⟩:=v2;intro _ L149;exact sZ L149 rfl<|Zm rfl rfl R21 Zp h4.len rfl h4.ones λ_ R22=>Sa rfl λ_ L151=>sn<|wp_ret<|rt (L151.kp [2,3] rfl) (Res.aggW rfl ZM Zp (R22.has<|List.Mem.head _) h4.len<|.tmp rfl Res.nil)<|⟨_,_,rfl,R22.ext,(Or.inr<|Or.inr ⟨by exact⟨hwd,by omega⟩,⟨_,rfl,(h4.to (by rw[hv,hall,List.take_of_length_le (by omega)]) (by omega))⟩⟩)⟩;skip;refine wA<|sm L2 rfl λ_ L153=>?_;by_cases t9:s=(⟨#[]⟩:ByteArray);refine sO L153 rfl<|cT t9 (Xa rfl rfl)<|Sm rfl<|Sf rfl<|Sf rfl<|Sf rfl<|Sf rfl λ_ L159=>ZY L159 rfl rfl rfl rfl rfl λ_ L160=>ZY L160 rfl rfl rfl rfl rfl λ_ L161=>ZY L161 rfl rfl rfl rfl rfl<|Sf rfl<|So rfl<|Ze rfl rfl<|kP [0,2,3,25] rfl<|ST rfl λ_ L165=>wp_seq<|Za ?_;have h5:Na S zN1 0 (0):=Na.zero _ _;exact sO L165 rfl<|ZH (cs:=zN1) ZZ Qx .nil (by rfl)<|Sz rfl<|Zm rfl rfl R1 Zp h5.len rfl h5.ones λ_ R23=>Sa rfl λ_ L168=>sn<|wp_ret<|Zt<|rt L168 (Res.aggW rfl ZM Zp (R23.has<|List.Mem.head _) h5.len<|.tmp rfl Res.nil)<|⟨_,_,rfl,R23.ext,(Or.inl ⟨by first|exact Zai (by assumption)|exact XX (by omega) (by omega),⟨_,rfl,(h5.to rfl (by omega))⟩⟩)⟩;refine sO L153 rfl<|cF t9 (Xa rfl rfl)<|Sm rfl<|Sn rfl<|Zd rfl<|Sn rfl<|Yr rfl underlying9 λ_ L172=>?_;by_cases t10:(1:Int)<((s.size:Nat):Int);refine sN L172 rfl<|cT t10 (ZF rfl rfl)<|Sn rfl<|Zd rfl<|Sn rfl<|Zd rfl<|Sn rfl<|YO (j:=0) rfl rfl underlying9 (by omega) (by omega) λ_ L176=>?_;by_cases t11:(((bl s).getD 0 0:Nat):Int)=(48:Int);refine sN L176 rfl<|cT t11 (ZP rfl rfl)<|Sn rfl<|Ze rfl rfl<|So rfl<|Ze rfl rfl<|kP [0,2,3,25] rfl<|ST rfl λ_ L180=>wp_seq<|Za ?_;have h6:Na S zN1 0 (0):=Na.zero _ _;exact sO L180 rfl<|ZH (cs:=zN1) ZZ Qx .nil (by rfl)<|Sz rfl<|Zm rfl rfl R1 Zp h6.len rfl h6.ones λ_ R24=>Sa rfl λ_ L183=>sn<|wp_ret<|Zt<|rt L183 (Res.aggW rfl ZM Zp (R24.has<|List.Mem.head _) h6.len<|.tmp rfl Res.nil)<|⟨_,_,rfl,R24.ext,(Or.inl ⟨by first|exact Zai (by assumption)|exact XX (by omega) (by omega),⟨_,rfl,(h6.to rfl (by omega))⟩⟩)⟩;exact sN L176 rfl<|cF t11 (ZP rfl rfl)<|Sn rfl<|Ze rfl rfl<|So rfl<|Ze rfl rfl<|kP [0,2,3,25] rfl<|SF rfl λ_ L187=>wp_skip<|Zc<|⟨S,Sh.le.refl _,(L187.kp [3,2,0] rfl),R1,(by exact Zbh (by assumption)),(by have q:=YK s;have q2:=Zbh (by assumption);omega)⟩;exact sN L172 rfl<|cF t10 (ZF rfl rfl)<|Sn rfl<|Zd rfl<|Sf rfl<|Sf rfl<|Sf rfl<|Sn rfl<|Ze rfl rfl<|So rfl<|Ze rfl rfl<|kP [0,2,3,25] rfl<|SF rfl λ_ L195=>wp_skip<|Zc<|⟨S,Sh.le.refl _,(L195.kp [3,2,0] rfl),R1,(by exact Zbh (by assumption)),(by have q:=YK s;have q2:=Zbh (by assumption);omega)⟩
theorem Qe:Zgf prog 163=some false:=by kernel_rfl
theorem Yg:Yy prog 163=some 1:=by kernel_rfl
theorem Za6:Qb prog 163=some 4:=by kernel_rfl
theorem Qg:XT prog 163=some (.int .u32 (0:Int)):=by kernel_rfl
theorem ent_106:ZR prog 106=true:=by kernel_rfl
theorem Zea:ZR prog 107=true:=by kernel_rfl
theorem ent_109:ZR prog 109=true:=by kernel_rfl
theorem ent_152:ZR prog 152=true:=by kernel_rfl
theorem ent_153:ZR prog 153=true:=by kernel_rfl
theorem ent_154:ZR prog 154=true:=by kernel_rfl
theorem ent_155:ZR prog 155=true:=by kernel_rfl
theorem ent_156:ZR prog 156=true:=by kernel_rfl
theorem QE{S:Sh}{w:World}(hS:ZV S w){n:Nat}(hn:n<18446744073709551616):Calls prog 107 [(.int .u64 ((n:Nat):Int))].toArray w (Ret S w (λS v=>∃(c0:Value),v=c0/\Gn S c0 n 64)):=by
 refine cbd hS (n:=15) func107 rfl λ_ L0 R0=>wA<|sa L0 rfl<|SW<|Sa rfl λ_ L2=>sn<|wp_seq<|wp_block ?_;have R1:Run S w S (YH none 163 (YN [])++[]) w:=R0;refine ZJ (λm ac ww=>∃(S':Sh)(r:Nat)(i:Nat)(g_us:Option (Nat × List Value))(len_us:Nat)(cap_us:Nat)(us:List Nat),S.le S'/\ZD ac 15 [(0,(.int .u64 ((r:Nat):Int))),(2,(.slice none 0 0)),(3,(.slice (gp g_us) len_us cap_us))]/\Run S w S' (YH g_us 163 (YN us)++[]) ww/\(Gw g_us len_us cap_us 1<|YN us)/\(val W16 us+W16^i*r=n)/\(us.length=i)/\(∀e∈us,e<65536)/\(us.getLast? ≠some 0\/0<r)/\(r*W16^i<=n)/\(r<=n)/\m=r) n ⟨S,n,0,none,0,0,[],Sh.le.refl _,(L2.kp [3,2,0] rfl),R1,(Gw.nil 1),(by simp[val]),(by rfl),(by simp),(by left;simp),(by simp),(by omega),rfl⟩ ?_;rintro m_1 ac1 w1 ⟨S1,r,i,g_us,len_us,cap_us,us,l1,L3,R2,hG_us,hv,hi,hlt,hz,hr,hrn,m1⟩;have hl_us:=hG_us.hl;rw[XU,Nat.mul_one] at hl_us;have hc_us:=hG_us.hc;refine wp_seq<|wA<|sm L3 rfl λ_ L4=>?_;by_cases t1:(0:Int)<(r:Int);refine sO L4 rfl<|cT t1 (ZF rfl rfl)<|ST rfl λ_ L5=>wp_skip<|Zc<|wp_block<|wp_seq ?_;have hol:=of_len hr (by omega) hn;refine Za<|sm L5 rfl<|Sm rfl<|So rfl<|XZ (z:=((r:Int)%(65536:Int))) rfl rfl (by omega) (Zb8 (by omega))<|So rfl<|Yv (z:=((r:Int)%(65536:Int))) rfl rfl underlying163 u32i<|So rfl<|Yf (cs:=(YN [(r%65536)]++[])) underlying44 Yg Qg (.cons rfl rfl (by decide) .nil) [[(.int .u32 ((r:Int)%(65536:Int)))]] rfl rfl (by rfl) (by decide) R2 λb1 _ R3=>So rfl<|Xl (g:=g_us) (cs:=(YN us)) (vs:=(YN [(r%65536)])) (H:=[(b1,163,(YN [(r%65536)]++[]))]++[]) rfl rfl underlying44 Yg Za6 Qg rfl hG_us (YQ [(b1,163,(YN [(r%65536)]++[]))] (H2:=YH g_us 163 (YN us)) (H:=[]) R3) (R3.has<|List.Mem.head _) rfl rfl (Zc3 _) (by omega) (by omega) (by omega) λg1 cap1 w3 hG1 R4 _ L11=>?_;rw[Ql] at hG1 R4;have R5:Run S w S1 ((b1,163,(YN [(r%65536)]++[]))::(YH g1 163 (YN (us++[(r%65536)]))++[])) w3:=YQ (YH g1 163<|YN (us++[(r%65536)])) (H2:=[(b1,163,(YN [(r%65536)]++[]))]) (H:=[]) R4;exact sa L11 rfl<|SX<|Sm rfl<|So rfl<|XK (z:=((r:Int)/(65536:Int))) rfl rfl (by omega) (Za3 (k:=.u64) (by omega) (by omega) (show _<=(18446744073709551615:Int) by omega))<|Sa rfl λ_ L15=>Ya<|Zx<|Zc<|⟨(r/65536),(by omega),S1,(r/65536),(i+1),g1,(len_us+1),cap1,(us++[(r%65536)]),l1,(((L15.ri 0 (((r/65536):Nat):Int) rfl).a L15).kp [3,2,0] rfl),(Run.mid [] [(b1,163,(YN [(r%65536)]++[]))] R5),hG1,(by rw[<-hv,val16_snoc,hi];exact of_sum),(by rw[List.length_append,hi];rfl),(by exact lt_snoc hlt (by omega)),(by rw[List.getLast?_append];simp;omega),(by exact of_le hr),(by omega),rfl⟩;refine sO L4 rfl<|cF t1 (ZF rfl rfl)<|SF rfl λ_ L17=>wp_exit<|Zo<|Zo<|Yl<|Zc<|wA<|sm L17 rfl<|Sa rfl<|kP [2] rfl λ_ L20=>sn ?_;obtain⟨S2,l2,r1,R6⟩:=Run.freezeG [] (H:=[]) R2;have R7:Run S w S2 [] w1:=R6;have hd1:=hG_us.gd (S:=S2) r1 (by(have hl2:=of_len2 hz hv hi hlt hn;omega)) hlt;exact wp_ret<|rt L20 (.tmp rfl Res.nil)<|⟨_,_,rfl,R7.ext,⟨_,rfl,(Gn.ofGd hd1 (by rcases hz with h|h;exact h;omega) (by rw[<-hv,show r=0 by omega];simp) (by omega))⟩⟩
theorem Zdi{S:Sh}{w:World}(hS:ZV S w){p_d:Option Addr}{len_d cap_d:Nat}{d:List Nat}(hd_d:Gd S p_d len_d cap_d d){k:Nat}(hk:val W16 d<=2^k):Calls prog 153 [(.slice p_d len_d cap_d)].toArray w (Ret S w (λS v=>∃(c0:Value),v=c0/\Gn S c0 (val W16 d) k)):=by
 refine cbd hS (n:=21) func153 rfl λ_ L0 R0=>?_;have hl_d:=hd_d.hlen;have hc_d:=hd_d.hcap;have hg_d:=hd_d.hbig;refine wA<|sa L0 rfl<|SW<|Sm rfl<|So rfl<|Zz rfl underlying44<|Sa rfl λ_ L4=>sn<|wp_seq<|wp_block<|ZJ (λm ac ww=>∃(S':Sh)(n:Nat),S.le S'/\ZD ac 21 [(0,(.slice p_d len_d cap_d)),(2,(.slice none 0 0)),(3,(.int .i64 ((n:Nat):Int)))]/\Run S w S' [] ww/\(n<=len_d)/\(val W16 (d.take n)=val W16 d)/\m=n) len_d ⟨S,len_d,Sh.le.refl _,(L4.kp [3,2,0] rfl),R0,(by omega),(by rw[List.take_of_length_le (by omega)]),rfl⟩ ?_;rintro m_1 ac1 _ ⟨S1,n,l1,L5,R1,hn,hv,m1⟩;refine wp_seq<|wA<|sm L5 rfl λ_ L6=>?_;by_cases t1:(0:Int)<(n:Int);refine sO L6 rfl<|cT t1 (ZF rfl rfl)<|Sm rfl<|Sn rfl<|Zd rfl<|Sn rfl<|Zd rfl<|Sn rfl<|ZO rfl rfl Xd λ_ L11=>?_;obtain⟨b1,off1,pre1,rest_1,rfl,r1,pl1⟩:=(hd_d.up l1).row (by omega);refine sN L11 rfl<|Zr (n-1) rfl rfl underlying44 Yg (by omega) (by omega)<|Sn rfl<|Zk (v:=(.int .u32 ((d.getD (n-1) 0:Nat):Int))) rfl Qe (R1.row r1) (by rw[<-pl1];exact XH (by omega)) λ_ L13=>?_;by_cases t2:((d.getD (n-1) 0:Nat):Int)=(0:Int);exact sN L13 rfl<|cT t2 (ZP rfl rfl)<|So rfl<|Ze rfl rfl<|ST rfl λ_ L15=>wp_skip<|Zc<|wp_block<|Za<|sm L15 rfl<|So rfl<|ZO rfl rfl Xd<|Sa rfl λ_ L18=>Ya<|Zx<|Zc<|⟨(n-1),(by omega),S1,(n-1),l1,(((L18.ri 3 (((n-1):Nat):Int) rfl).a L18).kp [3,2,0] rfl),R1,(by omega),(by rw[<-hv];exact val16_pred (by omega) (by omega) (by omega)),rfl⟩;exact sN L13 rfl<|cF t2 (ZP rfl rfl)<|So rfl<|Ze rfl rfl<|SF rfl λ_ L21=>wp_exit<|Zo<|Zo<|Yl<|Zc<|wA<|sm L21 rfl<|Sm rfl<|So rfl<|Qo (i:=n) rfl rfl underlying44 Yg (by omega)<|Sa rfl λ_ L25=>sn<|wp_ret<|rt (L25.kp [2] rfl) (.tmp rfl Res.nil)<|⟨_,_,rfl,R1.ext,⟨_,rfl,(Gn.cut (hd_d.up l1) hn (by omega) hv hk)⟩⟩;exact sO L6 rfl<|cF t1 (ZF rfl rfl)<|Sm rfl<|Sf rfl<|Sf rfl<|Sf rfl<|Sf rfl<|Sf rfl<|Sf rfl<|So rfl<|Ze rfl rfl<|kP [0,2,3,6,7,8,15] rfl<|SF rfl λ_ L36=>wp_exit<|Zo<|Zo<|Yl<|Zc<|wA<|sm L36 rfl<|Sm rfl<|So rfl<|Qo (i:=n) rfl rfl underlying44 Yg (by omega)<|Sa rfl λ_ L40=>sn<|wp_ret<|rt (L40.kp [2] rfl) (.tmp rfl Res.nil)<|⟨_,_,rfl,R1.ext,⟨_,rfl,(Gn.cut (hd_d.up l1) hn (by omega) hv hk)⟩⟩
theorem cref01_Bits{S:Sh}{w:World}(hS:ZV S w){c_a:Value}{a k_a:Nat}(h_a:Gn S c_a a k_a)(hlim:k_a<=1099511627776):Calls prog 43 [c_a].toArray w (Ret S w (λS v=>v= .int .i64 ((ZC a:Nat):Int))):=by
 refine cbd hS (n:=25) func43 rfl λ_ L0 R0=>?_;obtain⟨hb_a,p_a,len_a,cap_a,rfl,hd_a⟩:=h_a.open;have hl_a:=hd_a.hlen;have hc_a:=hd_a.hcap;have hg_a:=hd_a.hbig;have hla:=Qv hb_a;have hd0:=ZT hd_a.hlt (show 0<65536 by decide) (len_a-1);refine wA<|sa L0 rfl<|SVv<|Sm rfl<|So rfl<|Zz rfl underlying44 λ_ L3=>?_;by_cases t1:(len_a:Int)=(0:Int);exact sO L3 rfl<|cT t1 (ZP rfl rfl)<|ST rfl<|WA<|Sa rfl λ_ L5=>sn<|wp_ret<|Zt<|rt L5 (.tmp rfl Res.nil)<|⟨_,_,rfl,R0.ext,(by rw[Zaq (by omega:(ZL W16 a).length=0)];rfl)⟩;refine sO L3 rfl<|cF t1 (ZP rfl rfl)<|SF rfl λ_ L6=>wp_skip<|Zc<|wA<|sm L6 rfl<|So rfl<|Zz rfl underlying44<|So rfl<|ZO rfl rfl Xd<|So rfl<|XL rfl rfl Xd<|Sa rfl<|kP [0,2,3] rfl λ_ L12=>sn<|wp_seq<|wp_seq ?_;have hbt:=bitlen_le (k:=16) (n:=(ZL W16 a).getD (len_a-1) 0) (by omega);refine Za<|sm L12 rfl<|Sm rfl<|So rfl<|Zz rfl underlying44<|So rfl<|ZO rfl rfl Xd λ_ L16=>?_;obtain⟨b1,off1,pre1,rest_1,rfl,r1,pl1⟩:=hd_a.row (by omega);refine sO L16 rfl<|Zr (len_a-1) rfl rfl underlying44 Yg (by omega) (by omega)<|So rfl<|Zk (v:=(.int .u32 (((ZL W16 a).getD (len_a-1) 0:Nat):Int))) rfl Qe (R0.row r1) (by rw[<-pl1];exact XH (by omega))<|Sa rfl<|kP [2,3,4] rfl λ_ L20=>sn<|wp_block<|ZJ (λm ac ww=>∃(S':Sh)(n:Nat)(d:Nat),S.le S'/\ZD ac 25 [(2,(.int .i64 (0:Int))),(3,(.int .i64 ((n:Nat):Int))),(4,(.int .u32 ((d:Nat):Int)))]/\Run S w S' [] ww/\(n+ZC d=16*(len_a-1)+ZC ((ZL W16 a).getD (len_a-1) 0))/\(d<65536)/\m=d) ((ZL W16 a).getD (len_a-1) 0) ⟨S,(16*(len_a-1)),((ZL W16 a).getD (len_a-1) 0),Sh.le.refl _,(((L20.ri 3 (((16*(len_a-1)):Nat):Int) rfl).a ((L20.ri 4 ((((ZL W16 a).getD (len_a-1) 0):Nat):Int) rfl).a L20)).kp [4,3,2] rfl),R0,(by omega),(by omega),rfl⟩ ?_;rintro m_1 ac1 _ ⟨S1,n,d,l1,L21,R1,hn,hd,m1⟩;refine wp_seq<|wp_seq ?_;have hbb:=bitlen_le (k:=16) (n:=d) (by omega);refine Za<|sm L21 rfl λ_ L24=>?_;by_cases t2:(0:Int)<(d:Int);exact sO L24 rfl<|cT t2 (ZF rfl rfl)<|ST rfl λ_ L25=>wp_skip<|Zc<|wp_seq<|wp_block<|Za<|sm L25 rfl<|So rfl<|Zy rfl rfl Xd<|Sa rfl<|SY<|Sm rfl<|So rfl<|XK (z:=((d:Int)/(2:Int))) rfl rfl (by omega) (Za3 (k:=.u32) (by omega) (by omega) (show _<=(4294967295:Int) by omega))<|Sa rfl λ_ L31=>sn<|⟨(d/2),(by omega),S1,(n+1),(d/2),l1,(((L31.ri 3 (((n+1):Nat):Int) rfl).a ((L31.ri 4 (((d/2):Nat):Int) rfl).a L31)).kp [4,3,2] rfl),R1,(by have q:=bitlen_half (d:=d) (by omega);omega),(by omega),rfl⟩;refine sO L24 rfl<|cF t2 (ZF rfl rfl)<|SF rfl λ_ L34=>wp_exit<|Zo<|Zo<|Yl<|Zc<|wA<|sm L34 rfl<|Sa rfl λ_ L36=>sn<|wp_ret<|rt (L36.kp [2] rfl) (.tmp rfl Res.nil) ?_;exact⟨_,_,rfl,R1.ext,(by exact Zdb (by(have q:=bitlen_digs16 (Qu (by omega:0<(ZL W16 a).length)));rw[hl_a] at q;rw[q];(have q2:ZC d=0:=(by rw[show d=0 by omega];rfl));omega))⟩
theorem cref01_Cmp{S:Sh}{w:World}(hS:ZV S w){c_a:Value}{a k_a:Nat}(h_a:Gn S c_a a k_a){c_b:Value}{b k_b:Nat}(h_b:Gn S c_b b k_b):Calls prog 154 [c_a,c_b].toArray w (Ret S w (λS v=>v= .int .i64 (Zcy a b))):=by
 refine cbd hS (n:=41) func154 rfl λ_ L0 R0=>?_;obtain⟨hb_a,p_a,len_a,cap_a,rfl,hd_a⟩:=h_a.open;have hl_a:=hd_a.hlen;have hc_a:=hd_a.hcap;have hg_a:=hd_a.hbig;obtain⟨hb_b,p_b,len_b,cap_b,rfl,hd_b⟩:=h_b.open;have hl_b:=hd_b.hlen;have hc_b:=hd_b.hcap;have hg_b:=hd_b.hbig;refine wA<|sa L0 rfl<|SVv<|Sm rfl<|So rfl<|Zz rfl underlying44<|Sm rfl<|So rfl<|Zz rfl underlying44 λ_ L5=>?_;by_cases t1:¬(len_a:Int)=(len_b:Int);refine sO L5 rfl<|cT t1 (Yn rfl rfl)<|ST rfl λ_ L6=>wp_seq<|wA<|sm L6 rfl<|So rfl<|Zz rfl underlying44<|Sm rfl<|So rfl<|Zz rfl underlying44 λ_ L10=>?_;by_cases t2:(len_a:Int)<(len_b:Int);exact sO L10 rfl<|cT t2 (Zs rfl rfl)<|kP [0,1,4,15] rfl<|ST rfl<|WA<|Sa rfl λ_ L13=>sn<|wp_ret<|Zt<|Zt<|rt L13 (.tmp rfl Res.nil)<|⟨_,_,rfl,R0.ext,(by rw[cmpN_lt (Zcg (B:=W16) (by decide) (by omega))];rfl)⟩;exact sO L10 rfl<|cF t2 (Zs rfl rfl)<|kP [0,1,4,15] rfl<|SF rfl λ_ L15=>wp_skip<|Zc<|wA<|sa L15 rfl λ_ L16=>sn<|wp_ret<|Zt<|rt L16 (.tmp rfl Res.nil)<|⟨_,_,rfl,R0.ext,(by rw[cmpN_gt (Zcg (B:=W16) (by decide) (by omega))];rfl)⟩;refine sO L5 rfl<|cF t1 (Yn rfl rfl)<|SF rfl λ_ L17=>wp_skip<|Zc<|wp_seq<|wA<|sm L17 rfl<|So rfl<|Zz rfl underlying44<|So rfl<|ZO rfl rfl Xd<|Sa rfl<|kP [0,1,4,5] rfl λ_ L22=>sn<|wp_block<|ZJ (λm ac ww=>∃(S':Sh)(k:Nat),S.le S'/\ZD ac 41 [(0,(.slice p_a len_a cap_a)),(1,(.slice p_b len_b cap_b)),(4,(.int .i64 (0:Int))),(5,(.int .i64 (((k:Nat):Int)-(1:Int))))]/\Run S w S' [] ww/\(k<=(ZL W16 a).length)/\((ZL W16 a).drop k=(ZL W16 b).drop k)/\m=k) ((ZL W16 a).length) ⟨S,((ZL W16 a).length),Sh.le.refl _,(((L22.ri 5 (((((ZL W16 a).length):Nat):Int)-(1:Int)) rfl).a L22).kp [5,4,1,0] rfl),R0,(by omega),(by rw[List.drop_eq_nil_of_le (by omega),List.drop_eq_nil_of_le (by omega)]),rfl⟩ ?_;rintro m_1 ac1 _ ⟨_,k,l1,L23,R1,hk,hd,m1⟩;refine wp_seq<|wA<|sm L23 rfl λ_ L25=>?_;by_cases t3:(0:Int)<=((k:Int)-(1:Int));refine sO L25 rfl<|cT t3 (YI rfl rfl)<|ST rfl λ_ L26=>wp_skip<|Zc<|wp_seq<|wp_block<|wp_seq<|wp_seq ?_;obtain⟨b1,off1,pre1,rest_1,rfl,r1,pl1⟩:=(hd_a.up l1).row (by omega);obtain⟨b2,off2,pre2,rest_2,rfl,r2,pl2⟩:=(hd_b.up l1).row (by omega);have L27:=(L26.kp [0,1,4,5,19,20] rfl);refine Zw (E0:=[]) (H0:=[]) (n:=41) mixed 8 [] (λk=>0) (Zcn [.is (.slice (some ⟨b1,off1,none⟩) len_a cap_a),.is (.int .i64 ((k:Int)-(1:Int))),.is (.pointer (some ⟨b1,(off1+(k-1)),none⟩)),.is (.int .u32 (((ZL W16 a).getD (k-1) 0:Nat):Int)),.is (.slice (some ⟨b2,off2,none⟩) len_b cap_b),.is (.int .i64 ((k:Int)-(1:Int))),.is (.pointer (some ⟨b2,(off2+(k-1)),none⟩)),.is (.int .u32 (((ZL W16 b).getD (k-1) 0:Nat):Int))]) L27 R1 (by simp) (by simp) (by rfl) (by rfl) (by simp) (ZU ?_) ?_;refine(Am ?_ ?_ ?_ ?_ ?_ ?_ ?_ ?_ trivial);exact dm [] rfl;exact dm [] rfl;exact dK [0,1] rfl λA=>Zr (k-1) rfl rfl underlying44 Yg (by omega) (by omega)<|A.same rfl;exact dK [2] rfl λA=>Zk (v:=(.int .u32 (((ZL W16 a).getD (k-1) 0:Nat):Int))) rfl Qe (A.run.row<|r1.up A.le) (by rw[<-pl1];exact XH (by omega))<|A.same rfl;exact dm [] rfl;exact dm [] rfl;exact dK [4,5] rfl λA=>Zr (k-1) rfl rfl underlying44 Yg (by omega) (by omega)<|A.same rfl;exact dK [6] rfl λA=>Zk (v:=(.int .u32 (((ZL W16 b).getD (k-1) 0:Nat):Int))) rfl Qe (A.run.row<|r2.up A.le) (by rw[<-pl2];exact XH (by omega))<|A.same rfl;intro S10 _ _ w10 l2 E1 R2 n1 L36 K1;have L44:=L36.dr K1 [0,1,2,3,4,5,6,7] rfl;have R3:Run _ _ S10 [] w10:=Yb R2 n1 [] (by simp) (by simp);by_cases t4:(((ZL W16 a).getD (k-1) 0:Nat):Int)<(((ZL W16 b).getD (k-1) 0:Nat):Int);exact sO L44 rfl<|cT t4 (Zs rfl rfl)<|ST rfl<|WA<|Sa rfl λ_ L46=>sn<|wp_ret<|Zt<|YE<|Zt<|Zt<|YE<|Zt<|rt L46 (.tmp rfl Res.nil)<|⟨_,_,rfl,R3.ext,(by rw[cmpN_lt (Zed (B:=W16) (n:=k-1) (by decide) (by omega) (by omega) (by rw[show k-1+1=k by omega];first|exact hd|exact hd.symm) (by omega))];rfl)⟩;refine sO L44 rfl<|cF t4 (Zs rfl rfl)<|SF rfl λ_ L47=>wp_skip<|Zc<|wp_seq ?_;have L48:=(L47.kp [0,1,4,5,19,20,23,24,25,26,27,28,29,30,31] rfl);refine Zw (E0:=[]) (H0:=[]) (n:=41) mixed 8 [] (λk=>0) (Zcn [.is (.slice (some ⟨b1,off1,none⟩) len_a cap_a),.is (.int .i64 ((k:Int)-(1:Int))),.is (.pointer (some ⟨b1,(off1+(k-1)),none⟩)),.is (.int .u32 (((ZL W16 a).getD (k-1) 0:Nat):Int)),.is (.slice (some ⟨b2,off2,none⟩) len_b cap_b),.is (.int .i64 ((k:Int)-(1:Int))),.is (.pointer (some ⟨b2,(off2+(k-1)),none⟩)),.is (.int .u32 (((ZL W16 b).getD (k-1) 0:Nat):Int))]) L48 R3 (by simp) (by simp) (by rfl) (by rfl) (by simp) (ZU ?_) ?_;refine(Am ?_ ?_ ?_ ?_ ?_ ?_ ?_ ?_ trivial);exact dm [] rfl;exact dm [] rfl;exact dK [0,1] rfl λA=>Zr (k-1) rfl rfl underlying44 Yg (by omega) (by omega)<|A.same rfl;exact dK [2] rfl λA=>Zk (v:=(.int .u32 (((ZL W16 a).getD (k-1) 0:Nat):Int))) rfl Qe (A.run.row<|r1.up<|l2.trans A.le) (by rw[<-pl1];exact XH (by omega))<|A.same rfl;exact dm [] rfl;exact dm [] rfl;exact dK [4,5] rfl λA=>Zr (k-1) rfl rfl underlying44 Yg (by omega) (by omega)<|A.same rfl;exact dK [6] rfl λA=>Zk (v:=(.int .u32 (((ZL W16 b).getD (k-1) 0:Nat):Int))) rfl Qe (A.run.row<|r2.up<|l2.trans A.le) (by rw[<-pl2];exact XH (by omega))<|A.same rfl;intro S19 _ _ w19 l3 E2 R4 n2 L57 K2;have L65:=L57.dr K2 [0,1,2,3,4,5,6,7] rfl;have R5:Run _ _ S19 [] w19:=Yb R4 n2 [] (by simp) (by simp);by_cases t5:(((ZL W16 b).getD (k-1) 0:Nat):Int)<(((ZL W16 a).getD (k-1) 0:Nat):Int);exact sO L65 rfl<|cT t5 (ZF rfl rfl)<|ST rfl<|WA<|Sa rfl λ_ L67=>sn<|wp_ret<|YE<|Zt<|Zt<|YE<|Zt<|rt L67 (.tmp rfl Res.nil)<|⟨_,_,rfl,R5.ext,(by rw[cmpN_gt (Zed (B:=W16) (n:=k-1) (by decide) (by omega) (by omega) (by rw[show k-1+1=k by omega];first|exact hd|exact hd.symm) (by omega))];rfl)⟩;exact sO L65 rfl<|cF t5 (ZF rfl rfl)<|SF rfl λ_ L68=>wp_skip<|Zx<|Zc<|Za<|sm L68 rfl<|So rfl<|ZO rfl rfl Xd<|Sa rfl λ_ L71=>sn<|⟨(k-1),(by omega),S19,(k-1),(l1.trans<|l2.trans l3),(((L71.ri 5 ((((k-1):Nat):Int)-(1:Int)) rfl).a L71).kp [5,4,1,0] rfl),R5,(by omega),(by exact drop_step (by omega) (by omega) (by rw[show k-1+1=k by omega];exact hd) (by omega)),rfl⟩;exact sO L25 rfl<|cF t3 (YI rfl rfl)<|SF rfl λ_ L73=>wp_exit<|Zo<|Zo<|Yl<|Zc<|wA<|sa L73 rfl λ_ L74=>sn<|wp_ret<|rt (L74.kp [4] rfl) (.tmp rfl Res.nil)<|⟨_,_,rfl,R1.ext,(by rw[cmpN_eq (digs_inj (B:=W16) (by decide) (by rw[show k=0 by omega] at hd;exact hd))];rfl)⟩
theorem cref01_Digits{S:Sh}{w:World}(hS:ZV S w){s:ByteArray}(hlim:s.size<=1099511627776):Calls prog 100 [(.string s)].toArray w (Ret S w (λS v=>((wd<|bl s)/\v= .bool true)\/((¬(wd<|bl s))/\v= .bool false))):=by
 refine cbd hS (n:=33) func100 rfl λ_ L0 R0=>?_;have hbs:=YK s;refine wA<|sa L0 rfl λ_ L1=>sn<|Xr (λac ww=>∃(S':Sh),S.le S'/\ZD ac 33 [(0,(.string s)),(2,(.bool false))]/\Run S w S' [] ww/\(0<s.size)/\((bl s).length=1\/(bl s).getD 0 0≠48)) ?_ ?_;rintro ac1 _ ⟨S1,l1,L2,R1,hne,h48⟩;refine wp_seq<|wA<|sa L2 rfl λ_ L3=>sn<|wp_block<|ZJ (λm ac ww=>∃(S':Sh)(i:Nat),S1.le S'/\ZD ac 33 [(0,(.string s)),(2,(.bool false)),(3,(.int .i64 ((i:Nat):Int)))]/\Run S w S' [] ww/\(i<=s.size)/\(∀k,k<i->48<=(bl s).getD k 0/\(bl s).getD k 0<=57)/\m=s.size-i) (s.size-0) ⟨S1,0,Sh.le.refl _,(((L3.ri 3 ((0:Nat):Int) rfl).a L3).kp [3,2,0] rfl),R1,(by omega),(by intro k hk;omega),rfl⟩ ?_;rintro m_1 ac2 _ ⟨S2,i,l2,L4,R2,hi,hdg,m1⟩;refine wp_seq<|wA<|sm L4 rfl<|Sm rfl<|So rfl<|Yr rfl underlying9 λ_ L8=>?_;by_cases t1:(i:Int)<((s.size:Nat):Int);refine sO L8 rfl<|cT t1 (Zs rfl rfl)<|ST rfl λ_ L9=>wp_skip<|Zc<|wp_seq<|wp_block<|wA<|sm L9 rfl<|Sm rfl<|So rfl<|YO (j:=i) rfl rfl underlying9 (by omega) (by omega) λ_ L12=>?_;by_cases t2:(((bl s).getD i 0:Nat):Int)<(48:Int);exact sO L12 rfl<|cT t2 (Zs rfl rfl)<|Sm rfl<|Sf rfl<|Sf rfl<|Sf rfl<|Sf rfl<|So rfl<|Ze rfl rfl<|ST rfl<|WA<|Sa rfl λ_ L20=>sn<|wp_ret<|YE<|Zt<|Zt<|YE<|Zt<|rt L20 (.tmp rfl Res.nil)<|⟨_,_,rfl,R2.ext,(Or.inr ⟨by exact Zhk (i:=i) (by omega) (by omega),rfl⟩)⟩;refine sO L12 rfl<|cF t2 (Zs rfl rfl)<|Sm rfl<|Sn rfl<|Zd rfl<|Sn rfl<|Zd rfl<|Sn rfl<|YO (j:=i) rfl rfl underlying9 (by omega) (by omega) λ_ L25=>?_;by_cases t3:(57:Int)<(((bl s).getD i 0:Nat):Int);exact sN L25 rfl<|cT t3 (ZF rfl rfl)<|So rfl<|Ze rfl rfl<|ST rfl<|WA<|Sa rfl λ_ L28=>sn<|wp_ret<|YE<|Zt<|Zt<|YE<|Zt<|rt L28 (.tmp rfl Res.nil)<|⟨_,_,rfl,R2.ext,(Or.inr ⟨by exact Zhk (i:=i) (by omega) (by omega),rfl⟩)⟩;exact sN L25 rfl<|cF t3 (ZF rfl rfl)<|So rfl<|Ze rfl rfl<|SF rfl λ_ L30=>wp_skip<|Zx<|Zc<|Za<|sm L30 rfl<|So rfl<|Zy rfl rfl Xd<|Sa rfl λ_ L33=>sn<|⟨s.size-(i+1),(by omega),S2,(i+1),l2,(((L33.ri 3 (((i+1):Nat):Int) rfl).a L33).kp [3,2,0] rfl),R2,(by omega),(by exact dig_step hdg ⟨by omega,by omega⟩),rfl⟩;exact sO L8 rfl<|cF t1 (Zs rfl rfl)<|SF rfl λ_ L35=>wp_exit<|Zo<|Zo<|Yl<|Zc<|wA<|sa L35 rfl λ_ L36=>sn<|wp_ret<|rt (L36.kp [2] rfl) (.tmp rfl Res.nil)<|⟨_,_,rfl,R2.ext,(Or.inl ⟨by exact wd_of (i:=i) (by omega) h48 (by omega) hdg,rfl⟩)⟩;skip;refine wA<|sm L1 rfl<|So rfl<|Yr rfl underlying9 λ_ L39=>?_;by_cases t4:((s.size:Nat):Int)=(0:Int);exact sO L39 rfl<|cT t4 (ZP rfl rfl)<|Sm rfl<|Sf rfl<|Sf rfl<|Sf rfl<|Sf rfl λ_ L45=>ZY L45 rfl rfl rfl rfl rfl λ_ L46=>ZY L46 rfl rfl rfl rfl rfl λ_ L47=>ZY L47 rfl rfl rfl rfl rfl<|Sf rfl<|So rfl<|Ze rfl rfl<|kP [0,2,16] rfl<|ST rfl<|WA<|Sa rfl λ_ L52=>sn<|wp_ret<|Zt<|rt L52 (.tmp rfl Res.nil)<|⟨_,_,rfl,R0.ext,(Or.inr ⟨by first|exact XX (by omega) (by omega)|exact λq=>q.1<|List.length_eq_zero_iff.1 (by omega),rfl⟩)⟩;refine sO L39 rfl<|cF t4 (ZP rfl rfl)<|Sm rfl<|Sn rfl<|Zd rfl<|Sn rfl<|Yr rfl underlying9 λ_ L56=>?_;by_cases t5:(1:Int)<((s.size:Nat):Int);refine sN L56 rfl<|cT t5 (ZF rfl rfl)<|Sn rfl<|Zd rfl<|Sn rfl<|Zd rfl<|Sn rfl<|YO (j:=0) rfl rfl underlying9 (by omega) (by omega) λ_ L60=>?_;by_cases t6:(((bl s).getD 0 0:Nat):Int)=(48:Int);exact sN L60 rfl<|cT t6 (ZP rfl rfl)<|Sn rfl<|Ze rfl rfl<|So rfl<|Ze rfl rfl<|kP [0,2,16] rfl<|ST rfl<|WA<|Sa rfl λ_ L65=>sn<|wp_ret<|Zt<|rt L65 (.tmp rfl Res.nil)<|⟨_,_,rfl,R0.ext,(Or.inr ⟨by first|exact XX (by omega) (by omega)|exact λq=>q.1<|List.length_eq_zero_iff.1 (by omega),rfl⟩)⟩;exact sN L60 rfl<|cF t6 (ZP rfl rfl)<|Sn rfl<|Ze rfl rfl<|So rfl<|Ze rfl rfl<|kP [0,2,16] rfl<|SF rfl λ_ L69=>wp_skip<|Zc<|⟨S,Sh.le.refl _,(L69.kp [2,0] rfl),R0,(by omega),(by omega)⟩;exact sN L56 rfl<|cF t5 (ZF rfl rfl)<|Sn rfl<|Zd rfl<|Sf rfl<|Sf rfl<|Sf rfl<|Sn rfl<|Ze rfl rfl<|So rfl<|Ze rfl rfl<|kP [0,2,16] rfl<|SF rfl λ_ L77=>wp_skip<|Zc<|⟨S,Sh.le.refl _,(L77.kp [2,0] rfl),R0,(by omega),(by omega)⟩
theorem cref01_One{S:Sh}{w:World}(hS:ZV S w){c_a:Value}{a k_a:Nat}(h_a:Gn S c_a a k_a):Calls prog 120 [c_a].toArray w (Ret S w (λS v=>((a=1)/\v= .bool true)\/((¬(a=1))/\v= .bool false))):=by
 refine cbd hS (n:=12) func120 rfl λ_ L0 R0=>?_;obtain⟨hb_a,p_a,len_a,cap_a,rfl,hd_a⟩:=h_a.open;have hl_a:=hd_a.hlen;have hc_a:=hd_a.hcap;have hg_a:=hd_a.hbig;refine wA<|sa L0 rfl<|SW<|Sm rfl<|So rfl<|Zz rfl underlying44 λ_ L3=>?_;by_cases t1:(len_a:Int)=(1:Int);refine sO L3 rfl<|cT t1 (ZP rfl rfl)<|Sm rfl<|Sn rfl<|Zd rfl λ_ L6=>?_;obtain⟨b1,off1,pre1,rest_1,rfl,r1,pl1⟩:=hd_a.row (by omega);refine sN L6 rfl<|Zr 0 rfl rfl underlying44 Yg (by omega) (by omega)<|Sn rfl<|Zk (v:=(.int .u32 (((ZL W16 a).getD 0 0:Nat):Int))) rfl Qe (R0.row r1) (by rw[<-pl1];exact XH (by omega)) λ_ L8=>?_;by_cases t2:(((ZL W16 a).getD 0 0:Nat):Int)=(1:Int);exact sN L8 rfl<|cT t2 (ZP rfl rfl)<|So rfl<|Ze rfl rfl<|Sa rfl λ_ L11=>sn<|wp_ret<|rt (L11.kp [2] rfl) (.tmp rfl Res.nil)<|⟨_,_,rfl,R0.ext,(Or.inl ⟨by first|exact one16 (by omega) (by omega)|exact one16' (by omega),rfl⟩)⟩;exact sN L8 rfl<|cF t2 (ZP rfl rfl)<|So rfl<|Ze rfl rfl<|Sa rfl λ_ L15=>sn<|wp_ret<|rt (L15.kp [2] rfl) (.tmp rfl Res.nil)<|⟨_,_,rfl,R0.ext,(Or.inr ⟨by first|exact one16 (by omega) (by omega)|exact one16' (by omega),rfl⟩)⟩;exact sO L3 rfl<|cF t1 (ZP rfl rfl)<|Sm rfl<|Sf rfl<|Sf rfl<|Sf rfl<|Sf rfl<|So rfl<|Ze rfl rfl<|Sa rfl λ_ L24=>sn<|wp_ret<|rt (L24.kp [2] rfl) (.tmp rfl Res.nil)<|⟨_,_,rfl,R0.ext,(Or.inr ⟨by first|exact one16 (by omega) (by omega)|exact one16' (by omega),rfl⟩)⟩
theorem cref01_Small{S:Sh}{w:World}(hS:ZV S w){c_a:Value}{a k_a:Nat}(h_a:Gn S c_a a k_a)(hs:a<18446744073709551616):Calls prog 156 [c_a].toArray w (Ret S w (λS v=>v= .tuple [.int .u64 ((a:Nat):Int),.bool true].toArray)):=by
 refine cbd hS (n:=25) func156 rfl λ_ L0 R0=>?_;obtain⟨hb_a,p_a,len_a,cap_a,rfl,hd_a⟩:=h_a.open;have hl_a:=hd_a.hlen;have hc_a:=hd_a.hcap;have hg_a:=hd_a.hbig;have hla:=Zap (B:=W16) (k:=4) (by decide) (show a<W16^4 from hs);refine wA<|sa L0 rfl<|Sa rfl<|SVv<|Sm rfl<|So rfl<|Zz rfl underlying44 λ_ L4=>?_;by_cases t1:(4:Int)<(len_a:Int);exact sO L4 rfl<|cT t1 (ZF rfl rfl)<|ST rfl<|WA<|Sa rfl<|Sa rfl λ_ L7=>sn<|wp_ret<|Zt<|rt L7 (.tmp rfl (.tmp rfl Res.nil))<|⟨_,_,rfl,R0.ext,(by omega)⟩;refine sO L4 rfl<|cF t1 (ZF rfl rfl)<|SF rfl λ_ L8=>wp_skip<|Zc<|wA<|sa L8 rfl<|SVv<|Sm rfl<|So rfl<|Zz rfl underlying44<|So rfl<|ZO rfl rfl Xd<|Sa rfl<|kP [0,2,3,4,5] rfl λ_ L14=>sn<|wp_block<|ZJ (λm ac ww=>∃(S':Sh)(k:Nat)(n:Nat),S.le S'/\ZD ac 25 [(0,(.slice p_a len_a cap_a)),(2,(.int .u64 (0:Int))),(3,(.bool false)),(4,(.int .u64 ((n:Nat):Int))),(5,(.int .i64 (((k:Nat):Int)-(1:Int))))]/\Run S w S' [] ww/\(k<=len_a)/\(n=val W16 ((ZL W16 a).drop k))/\m=k) len_a ⟨S,len_a,0,Sh.le.refl _,(((L14.ri 4 ((0:Nat):Int) rfl).a L14).kp [5,4,3,2,0] rfl),R0,(by omega),(by rw[List.drop_eq_nil_of_le (by omega)];rfl),rfl⟩ ?_;rintro m_1 ac1 _ ⟨S1,k,n,l1,L15,R1,hk,hn,m1⟩;refine wp_seq<|wA<|sm L15 rfl λ_ L17=>?_;by_cases t2:(0:Int)<=((k:Int)-(1:Int));refine sO L17 rfl<|cT t2 (YI rfl rfl)<|ST rfl λ_ L18=>wp_skip<|Zc<|wp_seq<|wp_block ?_;have hsm:=small_step (ds:=ZL W16 a) (kk:=k) (by omega) (by omega);have hdl:=val_drop_le (ZL W16 a) (k-1);rw[ZX (by decide)] at hdl;refine Za<|sm L18 rfl<|So rfl<|XL rfl rfl Zav<|Sm rfl<|Sm rfl λ_ L22=>?_;obtain⟨b1,off1,pre1,rest_1,rfl,r1,pl1⟩:=(hd_a.up l1).row (by omega);exact sO L22 rfl<|Zr (k-1) rfl rfl underlying44 Yg (by omega) (by omega)<|So rfl<|Zk (v:=(.int .u32 (((ZL W16 a).getD (k-1) 0:Nat):Int))) rfl Qe (R1.row r1) (by rw[<-pl1];exact XH (by omega))<|So rfl<|Yv (z:=(((ZL W16 a).getD (k-1) 0:Nat):Int)) rfl rfl underlying29 Zav<|So rfl<|Zy rfl rfl Zav<|Sa rfl<|SY<|Sm rfl<|So rfl<|ZO rfl rfl Xd<|Sa rfl λ_ L30=>sn<|⟨(k-1),(by omega),S1,(k-1),(n*65536+(ZL W16 a).getD (k-1) 0),l1,(((L30.ri 4 (((n*65536+(ZL W16 a).getD (k-1) 0):Nat):Int) rfl).a ((L30.ri 5 ((((k-1):Nat):Int)-(1:Int)) rfl).a L30)).kp [5,4,3,2,0] rfl),R1,(by omega),(by rw[small_step (by omega) (by omega),<-hn]),rfl⟩;exact sO L17 rfl<|cF t2 (YI rfl rfl)<|SF rfl λ_ L33=>wp_exit<|Zo<|Zo<|Yl<|Zc<|wA<|sm L33 rfl<|Sa rfl<|Sa rfl λ_ L36=>sn<|wp_ret<|rt (L36.kp [2,3] rfl) (.tmp rfl (.tmp rfl Res.nil))<|⟨_,_,rfl,R1.ext,(by(have q:n=a:=(by rw[hn,show k=0 by omega,List.drop_zero,ZX (by decide)]));subst q;rfl)⟩
theorem cref01_Add{S:Sh}{w:World}(hS:ZV S w){c_a:Value}{a k_a:Nat}(h_a:Gn S c_a a k_a){c_b:Value}{b k_b:Nat}(h_b:Gn S c_b b k_b)(hlim:k_a<=1099511627776)(hlim2:k_b<=1099511627776):Calls prog 152 [c_a,c_b].toArray w (Ret S w (λS v=>∃(c0:Value),v=c0/\Gn S c0 (a+b) (k_a+k_b+1))):=by
 refine cbd hS (n:=55) func152 rfl λ_ L0 R0=>?_;obtain⟨hb_a,p_a,len_a,cap_a,rfl,hd_a⟩:=h_a.open;have hl_a:=hd_a.hlen;have hc_a:=hd_a.hcap;have hg_a:=hd_a.hbig;obtain⟨hb_b,p_b,len_b,cap_b,rfl,hd_b⟩:=h_b.open;have hl_b:=hd_b.hlen;have hc_b:=hd_b.hcap;have hg_b:=hd_b.hbig;have hla:=Qv hb_a;have hlb:=Qv hb_b;refine wA<|sa L0 rfl<|SW<|Sa rfl<|SW<|Sa rfl<|SVv<|Sa rfl λ_ L4=>sn<|wp_block ?_;have R1:Run S w S (YH none 163 (YN [])++[]) w:=R0;refine ZJ (λm ac ww=>∃(S':Sh)(i:Nat)(c:Nat)(g_us:Option (Nat × List Value))(len_us:Nat)(cap_us:Nat)(us:List Nat),S.le S'/\ZD ac 55 [(0,(.slice p_a len_a cap_a)),(1,(.slice p_b len_b cap_b)),(4,(.slice none 0 0)),(5,(.slice (gp g_us) len_us cap_us)),(6,(.int .u32 ((c:Nat):Int))),(7,(.int .i64 ((i:Nat):Int)))]/\Run S w S' (YH g_us 163 (YN us)++[]) ww/\(Gw g_us len_us cap_us 1<|YN us)/\(Add16 (ZL W16 a) (ZL W16 b) us i c)/\(i<=len_a+len_b+1)/\(i<=len_a+len_b\/c=0)/\m=len_a+len_b+1-i) (len_a+len_b+1-0) ⟨S,0,0,none,0,0,[],Sh.le.refl _,(((L4.ri 6 ((0:Nat):Int) rfl).a ((L4.ri 7 ((0:Nat):Int) rfl).a L4)).kp [7,6,5,4,1,0] rfl),R1,(Gw.nil 1),Add16.start,(by omega),(by omega),rfl⟩ ?_;rintro m_1 ac1 w1 ⟨S1,i,c,g_us,len_us,cap_us,us,l1,L5,R2,hG_us,hI,hi,hc,m1⟩;have hl_us:=hG_us.hl;rw[XU,Nat.mul_one] at hl_us;have hc_us:=hG_us.hc;refine wp_seq<|wA<|sm L5 rfl<|Sm rfl<|So rfl<|Zz rfl underlying44 λ_ L10=>?_;by_cases t1:(i:Int)<(len_a:Int);refine sO L10 rfl<|cT t1 (Zs rfl rfl)<|Sm rfl<|Sf rfl<|Sf rfl<|Sf rfl<|Sf rfl<|So rfl<|Ze rfl rfl<|Sm rfl<|Sf rfl<|Sf rfl<|So rfl<|Ze rfl rfl<|kP [0,1,4,5,6,7,9,10,11,12,13,18,19,22] rfl<|ST rfl λ_ L22=>wp_skip<|Zc<|wp_seq<|wp_block<|wp_seq ?_;have hIc:=hI.c1;have hIl:=hI.len;have hxa:=ZT hd_a.hlt (show 0<65536 by decide) i;have hxb:=ZT hd_b.hlt (show 0<65536 by decide) i;have hya:=@Za0 (ZL W16 a) i;have hyb:=@Za0 (ZL W16 b) i;refine Za<|sm L22 rfl<|Sa rfl λ_ L24=>sn<|Xr (λac ww=>∃(S':Sh)(s1:Nat),S1.le S'/\ZD ac 55 [(0,(.slice p_a len_a cap_a)),(1,(.slice p_b len_b cap_b)),(4,(.slice none 0 0)),(5,(.slice (gp g_us) len_us cap_us)),(6,(.int .u32 ((c:Nat):Int))),(7,(.int .i64 ((i:Nat):Int))),(9,(.int .i64 ((i:Nat):Int))),(10,(.slice p_a len_a cap_a)),(11,(.int .i64 ((len_a:Nat):Int))),(12,(.bool true)),(13,(.bool true)),(18,(.bool true)),(19,(.bool true)),(22,(.bool true)),(25,(.int .u32 ((c:Nat):Int))),(8,(.int .u32 ((s1:Nat):Int)))]/\Run S w S' (YH g_us 163 (YN us)++[]) ww/\(s1=c+(ZL W16 a).getD i 0)) ?_ ?_;rintro ac2 _ ⟨S2,s1,l2,L25,R3,hs1⟩;refine Xr (λac ww=>∃(S':Sh)(s2:Nat),S2.le S'/\ZD ac 55 [(0,(.slice p_a len_a cap_a)),(1,(.slice p_b len_b cap_b)),(4,(.slice none 0 0)),(5,(.slice (gp g_us) len_us cap_us)),(6,(.int .u32 ((c:Nat):Int))),(7,(.int .i64 ((i:Nat):Int))),(9,(.int .i64 ((i:Nat):Int))),(10,(.slice p_a len_a cap_a)),(11,(.int .i64 ((len_a:Nat):Int))),(12,(.bool true)),(13,(.bool true)),(18,(.bool true)),(19,(.bool true)),(22,(.bool true)),(25,(.int .u32 ((c:Nat):Int))),(8,(.int .u32 ((s2:Nat):Int)))]/\Run S w S' (YH g_us 163 (YN us)++[]) ww/\(s2=c+(ZL W16 a).getD i 0+(ZL W16 b).getD i 0)) ?_ ?_;rintro ac3 _ ⟨S3,s2,l3,L26,R4,hs2⟩;refine wA<|sm L26 rfl<|Sm rfl<|So rfl<|XZ (z:=((s2:Int)%(65536:Int))) rfl rfl (by omega) (Zb8 (by omega))<|So rfl<|Yf (cs:=(YN [(s2%65536)]++[])) underlying44 Yg Qg (.cons rfl rfl (by decide) .nil) [[(.int .u32 ((s2:Int)%(65536:Int)))]] rfl rfl (by rfl) (by decide) R4 λb1 _ R5=>So rfl<|Xl (g:=g_us) (cs:=(YN us)) (vs:=(YN [(s2%65536)])) (H:=[(b1,163,(YN [(s2%65536)]++[]))]++[]) rfl rfl underlying44 Yg Za6 Qg rfl hG_us (YQ [(b1,163,(YN [(s2%65536)]++[]))] (H2:=YH g_us 163 (YN us)) (H:=[]) R5) (R5.has<|List.Mem.head _) rfl rfl (Zc3 _) (by omega) (by omega) (by omega) λg1 cap1 w5 hG1 R6 _ L31=>?_;rw[Ql] at hG1 R6;have R7:Run S w S3 ((b1,163,(YN [(s2%65536)]++[]))::(YH g1 163 (YN (us++[(s2%65536)]))++[])) w5:=YQ (YH g1 163<|YN (us++[(s2%65536)])) (H2:=[(b1,163,(YN [(s2%65536)]++[]))]) (H:=[]) R6;exact sa L31 rfl<|SX<|Sm rfl<|So rfl<|XK (z:=((s2:Int)/(65536:Int))) rfl rfl (by omega) (Za3 (k:=.u32) (by omega) (by omega) (show _<=(4294967295:Int) by omega))<|Sa rfl<|SY<|Sm rfl<|So rfl<|Zy rfl rfl Xd<|Sa rfl λ_ L38=>sn<|⟨len_a+len_b+1-(i+1),(by omega),S3,(i+1),(s2/65536),g1,(len_us+1),cap1,(us++[(s2%65536)]),(l1.trans<|l2.trans l3),(((L38.ri 6 (((s2/65536):Nat):Int) rfl).a ((L38.ri 7 (((i+1):Nat):Int) rfl).a L38)).kp [7,6,5,4,1,0] rfl),(Run.mid [] [(b1,163,(YN [(s2%65536)]++[]))] R7),hG1,(by exact hI.step hd_a.hlt hd_b.hlt hs2),(by omega),(by omega),rfl⟩;skip;refine wA<|sm L25 rfl<|Sm rfl<|So rfl<|Zz rfl underlying44 λ_ L43=>?_;by_cases t2:(i:Int)<(len_b:Int);refine sO L43 rfl<|cT t2 (Zs rfl rfl)<|ST rfl λ_ L44=>Za<|sm L44 rfl<|Sm rfl<|Sm rfl λ_ L47=>?_;obtain⟨b2,off1,pre1,rest_1,rfl,r1,pl1⟩:=(hd_b.up<|l1.trans l2).row (by omega);exact sO L47 rfl<|Zr i rfl rfl underlying44 Yg (by omega) (by omega)<|So rfl<|Zk (v:=(.int .u32 (((ZL W16 b).getD i 0:Nat):Int))) rfl Qe (R3.row r1) (by rw[<-pl1];exact XH (by omega))<|So rfl<|Zy rfl rfl u32i<|Sa rfl λ_ L51=>sn<|⟨S2,(s1+((ZL W16 b).getD i 0)),Sh.le.refl _,(((L51.ri 8 (((s1+((ZL W16 b).getD i 0)):Nat):Int) rfl).a L51).kp [8,25,22,19,18,13,12,11,10,9,7,6,5,4,1,0] rfl),R3,(by omega)⟩;exact sO L43 rfl<|cF t2 (Zs rfl rfl)<|SF rfl λ_ L53=>wp_skip<|Zc<|⟨S2,s1,Sh.le.refl _,(L53.kp [8,25,22,19,18,13,12,11,10,9,7,6,5,4,1,0] rfl),R3,(by omega)⟩;skip;refine wA<|sm L24 rfl<|Sm rfl<|So rfl<|Zz rfl underlying44<|So rfl<|cT t1 (Zs rfl rfl)<|ST rfl λ_ L57=>Za<|sm L57 rfl<|Sm rfl<|Sm rfl λ_ L60=>?_;obtain⟨b3,off2,pre2,rest_2,rfl,r2,pl2⟩:=(hd_a.up l1).row (by omega);exact sO L60 rfl<|Zr i rfl rfl underlying44 Yg (by omega) (by omega)<|So rfl<|Zk (v:=(.int .u32 (((ZL W16 a).getD i 0:Nat):Int))) rfl Qe (R2.row r2) (by rw[<-pl2];exact XH (by omega))<|So rfl<|Zy rfl rfl u32i<|Sa rfl λ_ L64=>sn<|⟨S1,(c+((ZL W16 a).getD i 0)),Sh.le.refl _,(((L64.ri 8 (((c+((ZL W16 a).getD i 0)):Nat):Int) rfl).a L64).kp [8,25,22,19,18,13,12,11,10,9,7,6,5,4,1,0] rfl),R2,(by omega)⟩;refine sO L10 rfl<|cF t1 (Zs rfl rfl)<|Sm rfl<|Sn rfl<|Zd rfl<|Sn rfl<|Zd rfl<|Sn rfl<|Zz rfl underlying44 λ_ L70=>?_;by_cases t3:(i:Int)<(len_b:Int);refine sN L70 rfl<|cT t3 (Zs rfl rfl)<|So rfl<|Ze rfl rfl<|Sm rfl<|Sf rfl<|Sf rfl<|So rfl<|Ze rfl rfl<|ST rfl λ_ L76=>wp_skip<|Zc<|wp_seq<|wp_block<|wp_seq ?_;have hIc:=hI.c1;have hIl:=hI.len;have hxa:=ZT hd_a.hlt (show 0<65536 by decide) i;have hxb:=ZT hd_b.hlt (show 0<65536 by decide) i;have hya:=@Za0 (ZL W16 a) i;have hyb:=@Za0 (ZL W16 b) i;refine Za<|sm L76 rfl<|Sa rfl λ_ L78=>sn<|Xr (λac ww=>∃(S':Sh)(s1:Nat),S1.le S'/\ZD ac 55 [(0,(.slice p_a len_a cap_a)),(1,(.slice p_b len_b cap_b)),(4,(.slice none 0 0)),(5,(.slice (gp g_us) len_us cap_us)),(6,(.int .u32 ((c:Nat):Int))),(7,(.int .i64 ((i:Nat):Int))),(9,(.int .i64 ((i:Nat):Int))),(10,(.slice p_a len_a cap_a)),(11,(.int .i64 ((len_a:Nat):Int))),(12,(.bool false)),(13,(.bool false)),(14,(.int .i64 ((i:Nat):Int))),(15,(.slice p_b len_b cap_b)),(16,(.int .i64 ((len_b:Nat):Int))),(17,(.bool true)),(18,(.bool true)),(19,(.bool true)),(22,(.bool true)),(25,(.int .u32 ((c:Nat):Int))),(8,(.int .u32 ((s1:Nat):Int)))]/\Run S w S' (YH g_us 163 (YN us)++[]) ww/\(s1=c+(ZL W16 a).getD i 0)) ?_ ?_;rintro ac4 _ ⟨S4,s1,l4,L79,R8,hs1⟩;refine Xr (λac ww=>∃(S':Sh)(s2:Nat),S4.le S'/\ZD ac 55 [(0,(.slice p_a len_a cap_a)),(1,(.slice p_b len_b cap_b)),(4,(.slice none 0 0)),(5,(.slice (gp g_us) len_us cap_us)),(6,(.int .u32 ((c:Nat):Int))),(7,(.int .i64 ((i:Nat):Int))),(9,(.int .i64 ((i:Nat):Int))),(10,(.slice p_a len_a cap_a)),(11,(.int .i64 ((len_a:Nat):Int))),(12,(.bool false)),(13,(.bool false)),(14,(.int .i64 ((i:Nat):Int))),(15,(.slice p_b len_b cap_b)),(16,(.int .i64 ((len_b:Nat):Int))),(17,(.bool true)),(18,(.bool true)),(19,(.bool true)),(22,(.bool true)),(25,(.int .u32 ((c:Nat):Int))),(8,(.int .u32 ((s2:Nat):Int)))]/\Run S w S' (YH g_us 163 (YN us)++[]) ww/\(s2=c+(ZL W16 a).getD i 0+(ZL W16 b).getD i 0)) ?_ ?_;rintro ac5 _ ⟨S5,s2,l5,L80,R9,hs2⟩;refine wA<|sm L80 rfl<|Sm rfl<|So rfl<|XZ (z:=((s2:Int)%(65536:Int))) rfl rfl (by omega) (Zb8 (by omega))<|So rfl<|Yf (cs:=(YN [(s2%65536)]++[])) underlying44 Yg Qg (.cons rfl rfl (by decide) .nil) [[(.int .u32 ((s2:Int)%(65536:Int)))]] rfl rfl (by rfl) (by decide) R9 λb4 _ R10=>So rfl<|Xl (g:=g_us) (cs:=(YN us)) (vs:=(YN [(s2%65536)])) (H:=[(b4,163,(YN [(s2%65536)]++[]))]++[]) rfl rfl underlying44 Yg Za6 Qg rfl hG_us (YQ [(b4,163,(YN [(s2%65536)]++[]))] (H2:=YH g_us 163 (YN us)) (H:=[]) R10) (R10.has<|List.Mem.head _) rfl rfl (Zc3 _) (by omega) (by omega) (by omega) λg2 cap2 w9 hG2 R11 _ L85=>?_;rw[Ql] at hG2 R11;have R12:Run S w S5 ((b4,163,(YN [(s2%65536)]++[]))::(YH g2 163 (YN (us++[(s2%65536)]))++[])) w9:=YQ (YH g2 163<|YN (us++[(s2%65536)])) (H2:=[(b4,163,(YN [(s2%65536)]++[]))]) (H:=[]) R11;exact sa L85 rfl<|SX<|Sm rfl<|So rfl<|XK (z:=((s2:Int)/(65536:Int))) rfl rfl (by omega) (Za3 (k:=.u32) (by omega) (by omega) (show _<=(4294967295:Int) by omega))<|Sa rfl<|SY<|Sm rfl<|So rfl<|Zy rfl rfl Xd<|Sa rfl λ_ L92=>sn<|⟨len_a+len_b+1-(i+1),(by omega),S5,(i+1),(s2/65536),g2,(len_us+1),cap2,(us++[(s2%65536)]),(l1.trans<|l4.trans l5),(((L92.ri 6 (((s2/65536):Nat):Int) rfl).a ((L92.ri 7 (((i+1):Nat):Int) rfl).a L92)).kp [7,6,5,4,1,0] rfl),(Run.mid [] [(b4,163,(YN [(s2%65536)]++[]))] R12),hG2,(by exact hI.step hd_a.hlt hd_b.hlt hs2),(by omega),(by omega),rfl⟩;skip;refine wA<|sm L79 rfl<|Sm rfl<|So rfl<|Zz rfl underlying44<|So rfl<|cT t3 (Zs rfl rfl)<|ST rfl λ_ L98=>Za<|sm L98 rfl<|Sm rfl<|Sm rfl λ_ L101=>?_;obtain⟨b5,off3,pre3,rest_3,rfl,r3,pl3⟩:=(hd_b.up<|l1.trans l4).row (by omega);exact sO L101 rfl<|Zr i rfl rfl underlying44 Yg (by omega) (by omega)<|So rfl<|Zk (v:=(.int .u32 (((ZL W16 b).getD i 0:Nat):Int))) rfl Qe (R8.row r3) (by rw[<-pl3];exact XH (by omega))<|So rfl<|Zy rfl rfl u32i<|Sa rfl λ_ L105=>sn<|⟨S4,(s1+((ZL W16 b).getD i 0)),Sh.le.refl _,(((L105.ri 8 (((s1+((ZL W16 b).getD i 0)):Nat):Int) rfl).a L105).kp [8,25,22,19,18,17,16,15,14,13,12,11,10,9,7,6,5,4,1,0] rfl),R8,(by omega)⟩;skip;exact wA<|sm L78 rfl<|Sm rfl<|So rfl<|Zz rfl underlying44<|So rfl<|cF t1 (Zs rfl rfl)<|SF rfl λ_ L110=>wp_skip<|Zc<|⟨S1,c,Sh.le.refl _,(L110.kp [8,25,22,19,18,17,16,15,14,13,12,11,10,9,7,6,5,4,1,0] rfl),R2,(by omega)⟩;refine sN L70 rfl<|cF t3 (Zs rfl rfl)<|So rfl<|Ze rfl rfl<|Sm rfl<|Sn rfl<|Zd rfl λ_ L114=>?_;by_cases t4:(0:Int)<(c:Int);refine sN L114 rfl<|cT t4 (ZF rfl rfl)<|So rfl<|Ze rfl rfl<|ST rfl λ_ L116=>wp_skip<|Zc<|wp_seq<|wp_block<|wp_seq ?_;have hIc:=hI.c1;have hIl:=hI.len;have hxa:=ZT hd_a.hlt (show 0<65536 by decide) i;have hxb:=ZT hd_b.hlt (show 0<65536 by decide) i;have hya:=@Za0 (ZL W16 a) i;have hyb:=@Za0 (ZL W16 b) i;refine Za<|sm L116 rfl<|Sa rfl λ_ L118=>sn<|Xr (λac ww=>∃(S':Sh)(s1:Nat),S1.le S'/\ZD ac 55 [(0,(.slice p_a len_a cap_a)),(1,(.slice p_b len_b cap_b)),(4,(.slice none 0 0)),(5,(.slice (gp g_us) len_us cap_us)),(6,(.int .u32 ((c:Nat):Int))),(7,(.int .i64 ((i:Nat):Int))),(9,(.int .i64 ((i:Nat):Int))),(10,(.slice p_a len_a cap_a)),(11,(.int .i64 ((len_a:Nat):Int))),(12,(.bool false)),(13,(.bool false)),(14,(.int .i64 ((i:Nat):Int))),(15,(.slice p_b len_b cap_b)),(16,(.int .i64 ((len_b:Nat):Int))),(17,(.bool false)),(18,(.bool false)),(19,(.bool false)),(20,(.int .u32 ((c:Nat):Int))),(21,(.bool true)),(22,(.bool true)),(25,(.int .u32 ((c:Nat):Int))),(8,(.int .u32 ((s1:Nat):Int)))]/\Run S w S' (YH g_us 163 (YN us)++[]) ww/\(s1=c+(ZL W16 a).getD i 0)) ?_ ?_;rintro ac6 _ ⟨S6,s1,l6,L119,R13,hs1⟩;refine Xr (λac ww=>∃(S':Sh)(s2:Nat),S6.le S'/\ZD ac 55 [(0,(.slice p_a len_a cap_a)),(1,(.slice p_b len_b cap_b)),(4,(.slice none 0 0)),(5,(.slice (gp g_us) len_us cap_us)),(6,(.int .u32 ((c:Nat):Int))),(7,(.int .i64 ((i:Nat):Int))),(9,(.int .i64 ((i:Nat):Int))),(10,(.slice p_a len_a cap_a)),(11,(.int .i64 ((len_a:Nat):Int))),(12,(.bool false)),(13,(.bool false)),(14,(.int .i64 ((i:Nat):Int))),(15,(.slice p_b len_b cap_b)),(16,(.int .i64 ((len_b:Nat):Int))),(17,(.bool false)),(18,(.bool false)),(19,(.bool false)),(20,(.int .u32 ((c:Nat):Int))),(21,(.bool true)),(22,(.bool true)),(25,(.int .u32 ((c:Nat):Int))),(8,(.int .u32 ((s2:Nat):Int)))]/\Run S w S' (YH g_us 163 (YN us)++[]) ww/\(s2=c+(ZL W16 a).getD i 0+(ZL W16 b).getD i 0)) ?_ ?_;rintro ac7 _ ⟨S7,s2,l7,L120,R14,hs2⟩;refine wA<|sm L120 rfl<|Sm rfl<|So rfl<|XZ (z:=((s2:Int)%(65536:Int))) rfl rfl (by omega) (Zb8 (by omega))<|So rfl<|Yf (cs:=(YN [(s2%65536)]++[])) underlying44 Yg Qg (.cons rfl rfl (by decide) .nil) [[(.int .u32 ((s2:Int)%(65536:Int)))]] rfl rfl (by rfl) (by decide) R14 λb6 _ R15=>So rfl<|Xl (g:=g_us) (cs:=(YN us)) (vs:=(YN [(s2%65536)])) (H:=[(b6,163,(YN [(s2%65536)]++[]))]++[]) rfl rfl underlying44 Yg Za6 Qg rfl hG_us (YQ [(b6,163,(YN [(s2%65536)]++[]))] (H2:=YH g_us 163 (YN us)) (H:=[]) R15) (R15.has<|List.Mem.head _) rfl rfl (Zc3 _) (by omega) (by omega) (by omega) λg3 cap3 w13 hG3 R16 _ L125=>?_;rw[Ql] at hG3 R16;have R17:Run S w S7 ((b6,163,(YN [(s2%65536)]++[]))::(YH g3 163 (YN (us++[(s2%65536)]))++[])) w13:=YQ (YH g3 163<|YN (us++[(s2%65536)])) (H2:=[(b6,163,(YN [(s2%65536)]++[]))]) (H:=[]) R16;exact sa L125 rfl<|SX<|Sm rfl<|So rfl<|XK (z:=((s2:Int)/(65536:Int))) rfl rfl (by omega) (Za3 (k:=.u32) (by omega) (by omega) (show _<=(4294967295:Int) by omega))<|Sa rfl<|SY<|Sm rfl<|So rfl<|Zy rfl rfl Xd<|Sa rfl λ_ L132=>sn<|⟨len_a+len_b+1-(i+1),(by omega),S7,(i+1),(s2/65536),g3,(len_us+1),cap3,(us++[(s2%65536)]),(l1.trans<|l6.trans l7),(((L132.ri 6 (((s2/65536):Nat):Int) rfl).a ((L132.ri 7 (((i+1):Nat):Int) rfl).a L132)).kp [7,6,5,4,1,0] rfl),(Run.mid [] [(b6,163,(YN [(s2%65536)]++[]))] R17),hG3,(by exact hI.step hd_a.hlt hd_b.hlt hs2),(by omega),(by omega),rfl⟩;skip;exact wA<|sm L119 rfl<|Sm rfl<|So rfl<|Zz rfl underlying44<|So rfl<|cF t3 (Zs rfl rfl)<|SF rfl λ_ L138=>wp_skip<|Zc<|⟨S6,s1,Sh.le.refl _,(L138.kp [8,25,22,21,20,19,18,17,16,15,14,13,12,11,10,9,7,6,5,4,1,0] rfl),R13,(by omega)⟩;skip;exact wA<|sm L118 rfl<|Sm rfl<|So rfl<|Zz rfl underlying44<|So rfl<|cF t1 (Zs rfl rfl)<|SF rfl λ_ L142=>wp_skip<|Zc<|⟨S1,c,Sh.le.refl _,(L142.kp [8,25,22,21,20,19,18,17,16,15,14,13,12,11,10,9,7,6,5,4,1,0] rfl),R2,(by omega)⟩;refine sN L114 rfl<|cF t4 (ZF rfl rfl)<|So rfl<|Ze rfl rfl<|SF rfl λ_ L144=>wp_exit<|Zo<|Zo<|Yl<|Zc<|wp_seq ?_;obtain rfl:c=0:=by omega
 have hsum:=hI.done (by omega) (by omega);rw[ZX (by decide),ZX (by decide)] at hsum;have hIl:=hI.len;refine Za<|sm L144 rfl λ_ L145=>?_;obtain⟨S8,l8,r4,R18⟩:=Run.freezeG [] (H:=[]) R2;have R19:Run S w S8 [] w1:=R18;have hd1:=hG_us.gd (S:=S8) r4 (by omega) hI.lt;refine sO L145 rfl<|Zi rfl ent_153 (Zdi R19.holds (k:=(k_a+k_b+1)) hd1 (by rw[hsum];exact sum_pow hb_a hb_b)) λv_1 _ _ x1 v1=>?_;have R20:=R19.call x1;obtain⟨c_1,e12,h1⟩:=v1;obtain rfl:=e12.symm;intro _ L146;exact sa L146 rfl λ_ L147=>sn<|wp_ret<|rt (L147.kp [4] rfl) (.tmp rfl Res.nil)<|⟨_,_,rfl,R20.ext,⟨_,rfl,(h1.to hsum (by omega))⟩⟩
theorem cref01_Sub{S:Sh}{w:World}(hS:ZV S w){c_a:Value}{a k_a:Nat}(h_a:Gn S c_a a k_a){c_b:Value}{b k_b:Nat}(h_b:Gn S c_b b k_b)(hle:b<=a)(hlim:k_a<=1099511627776)(hlim2:k_b<=1099511627776):Calls prog 155 [c_a,c_b].toArray w (Ret S w (λS v=>∃(c0:Value),v=c0/\Gn S c0 (a-b) k_a)):=by
 refine cbd hS (n:=42) func155 rfl λ_ L0 R0=>?_;obtain⟨hb_a,p_a,len_a,cap_a,rfl,hd_a⟩:=h_a.open;have hl_a:=hd_a.hlen;have hc_a:=hd_a.hcap;have hg_a:=hd_a.hbig;obtain⟨hb_b,p_b,len_b,cap_b,rfl,hd_b⟩:=h_b.open;have hl_b:=hd_b.hlen;have hc_b:=hd_b.hcap;have hg_b:=hd_b.hbig;have hla:=Qv hb_a;have hlb:=Qv hb_b;have hmono:=digs16_mono hle;refine wA<|sa L0 rfl<|SW<|Sa rfl<|SW<|Sa rfl<|SVv<|Sa rfl λ_ L4=>sn<|wp_block ?_;have R1:Run S w S (YH none 163 (YN [])++[]) w:=R0;refine ZJ (λm ac ww=>∃(S':Sh)(i:Nat)(c:Nat)(g_us:Option (Nat × List Value))(len_us:Nat)(cap_us:Nat)(us:List Nat),S.le S'/\ZD ac 42 [(0,(.slice p_a len_a cap_a)),(1,(.slice p_b len_b cap_b)),(4,(.slice none 0 0)),(5,(.slice (gp g_us) len_us cap_us)),(6,(.int .u32 ((c:Nat):Int))),(7,(.int .i64 ((i:Nat):Int)))]/\Run S w S' (YH g_us 163 (YN us)++[]) ww/\(Gw g_us len_us cap_us 1<|YN us)/\(Sub16 (ZL W16 a) (ZL W16 b) us i c)/\(i<=len_a)/\m=len_a-i) (len_a-0) ⟨S,0,0,none,0,0,[],Sh.le.refl _,(((L4.ri 6 ((0:Nat):Int) rfl).a ((L4.ri 7 ((0:Nat):Int) rfl).a L4)).kp [7,6,5,4,1,0] rfl),R1,(Gw.nil 1),Sub16.start,(by omega),rfl⟩ ?_;rintro m_1 ac1 w1 ⟨S1,i,c,g_us,len_us,cap_us,us,l1,L5,R2,hG_us,hI,hi,m1⟩;have hl_us:=hG_us.hl;rw[XU,Nat.mul_one] at hl_us;have hc_us:=hG_us.hc;refine wp_seq<|wA<|sm L5 rfl<|Sm rfl<|So rfl<|Zz rfl underlying44 λ_ L10=>?_;by_cases t1:(i:Int)<(len_a:Int);refine sO L10 rfl<|cT t1 (Zs rfl rfl)<|ST rfl λ_ L11=>wp_skip<|Zc<|wp_seq<|wp_block<|wp_seq ?_;have hIc:=hI.c1;have hIl:=hI.len;have hxa:=ZT hd_a.hlt (show 0<65536 by decide) i;have hxb:=ZT hd_b.hlt (show 0<65536 by decide) i;have hya:=@Za0 (ZL W16 a) i;have hyb:=@Za0 (ZL W16 b) i;refine Za<|sm L11 rfl<|Sm rfl λ_ L13=>?_;obtain⟨b1,off1,pre1,rest_1,rfl,r1,pl1⟩:=(hd_a.up l1).row (by omega);refine sO L13 rfl<|Zr i rfl rfl underlying44 Yg (by omega) (by omega)<|So rfl<|Zk (v:=(.int .u32 (((ZL W16 a).getD i 0:Nat):Int))) rfl Qe (R2.row r1) (by rw[<-pl1];exact XH (by omega))<|So rfl<|Zy rfl rfl u32i<|Sm rfl<|So rfl<|ZO rfl rfl u32i<|Sa rfl λ_ L19=>sn<|Xr (λac ww=>∃(S':Sh)(s2:Nat),S1.le S'/\ZD ac 42 [(0,(.slice (some ⟨b1,off1,none⟩) len_a cap_a)),(1,(.slice p_b len_b cap_b)),(4,(.slice none 0 0)),(5,(.slice (gp g_us) len_us cap_us)),(6,(.int .u32 ((c:Nat):Int))),(7,(.int .i64 ((i:Nat):Int))),(9,(.int .i64 ((i:Nat):Int))),(10,(.slice (some ⟨b1,off1,none⟩) len_a cap_a)),(11,(.int .i64 ((len_a:Nat):Int))),(12,(.bool true)),(15,(.slice (some ⟨b1,off1,none⟩) len_a cap_a)),(16,(.int .i64 ((i:Nat):Int))),(17,(.pointer (some ⟨b1,(off1+(i)),none⟩))),(18,(.int .u32 (((ZL W16 a).getD i 0:Nat):Int))),(19,(.int .u32 ((((ZL W16 a).getD i 0:Nat):Int)+(65536:Int)))),(20,(.int .u32 ((c:Nat):Int))),(21,(.int .u32 (((((ZL W16 a).getD i 0:Nat):Int)+(65536:Int))-((c:Nat):Int)))),(8,(.int .u32 ((s2:Nat):Int)))]/\Run S w S' (YH g_us 163 (YN us)++[]) ww/\(s2=(ZL W16 a).getD i 0+65536-c-(ZL W16 b).getD i 0)) ?_ ?_;rintro ac2 _ ⟨S2,s2,l2,L20,R3,hs2⟩;refine wA<|sm L20 rfl<|Sm rfl<|So rfl<|XZ (z:=((s2:Int)%(65536:Int))) rfl rfl (by omega) (Zb8 (by omega))<|So rfl<|Yf (cs:=(YN [(s2%65536)]++[])) underlying44 Yg Qg (.cons rfl rfl (by decide) .nil) [[(.int .u32 ((s2:Int)%(65536:Int)))]] rfl rfl (by rfl) (by decide) R3 λb2 _ R4=>So rfl<|Xl (g:=g_us) (cs:=(YN us)) (vs:=(YN [(s2%65536)])) (H:=[(b2,163,(YN [(s2%65536)]++[]))]++[]) rfl rfl underlying44 Yg Za6 Qg rfl hG_us (YQ [(b2,163,(YN [(s2%65536)]++[]))] (H2:=YH g_us 163 (YN us)) (H:=[]) R4) (R4.has<|List.Mem.head _) rfl rfl (Zc3 _) (by omega) (by omega) (by omega) λg1 cap1 w4 hG1 R5 _ L25=>?_;rw[Ql] at hG1 R5;have R6:Run S w S2 ((b2,163,(YN [(s2%65536)]++[]))::(YH g1 163 (YN (us++[(s2%65536)]))++[])) w4:=YQ (YH g1 163<|YN (us++[(s2%65536)])) (H2:=[(b2,163,(YN [(s2%65536)]++[]))]) (H:=[]) R5;exact sa L25 rfl<|SX<|Sm rfl<|So rfl<|XK (z:=((s2:Int)/(65536:Int))) rfl rfl (by omega) (Za3 (k:=.u32) (by omega) (by omega) (show _<=(4294967295:Int) by omega))<|So rfl<|ZO (z:=((1-s2/65536:Nat):Int)) rfl rfl (u32_to (by omega) (by omega))<|Sa rfl<|SY<|Sm rfl<|So rfl<|Zy rfl rfl Xd<|Sa rfl λ_ L33=>sn<|⟨len_a-(i+1),(by omega),S2,(i+1),(1-s2/65536),g1,(len_us+1),cap1,(us++[(s2%65536)]),(l1.trans l2),(((L33.ri 6 (((1-s2/65536):Nat):Int) rfl).a ((L33.ri 7 (((i+1):Nat):Int) rfl).a L33)).kp [7,6,5,4,1,0] rfl),(Run.mid [] [(b2,163,(YN [(s2%65536)]++[]))] R6),hG1,(by exact hI.step hd_a.hlt hd_b.hlt hs2),(by omega),rfl⟩;skip;refine wA<|sm L19 rfl<|Sm rfl<|So rfl<|Zz rfl underlying44 λ_ L38=>?_;by_cases t2:(i:Int)<(len_b:Int);refine sO L38 rfl<|cT t2 (Zs rfl rfl)<|ST rfl λ_ L39=>Za<|sm L39 rfl<|Sm rfl<|Sm rfl λ_ L42=>?_;obtain⟨b3,off2,pre2,rest_2,rfl,r2,pl2⟩:=(hd_b.up l1).row (by omega);exact sO L42 rfl<|Zr i rfl rfl underlying44 Yg (by omega) (by omega)<|So rfl<|Zk (v:=(.int .u32 (((ZL W16 b).getD i 0:Nat):Int))) rfl Qe (R2.row r2) (by rw[<-pl2];exact XH (by omega))<|So rfl<|ZO rfl rfl u32i<|Sa rfl λ_ L46=>sn<|⟨S1,(((((ZL W16 a).getD i 0)+65536)-c)-((ZL W16 b).getD i 0)),Sh.le.refl _,(((L46.ri 8 (((((((ZL W16 a).getD i 0)+65536)-c)-((ZL W16 b).getD i 0)):Nat):Int) rfl).a L46).kp [8,21,20,19,18,17,16,15,12,11,10,9,7,6,5,4,1,0] rfl),R2,(by omega)⟩;exact sO L38 rfl<|cF t2 (Zs rfl rfl)<|SF rfl λ_ L48=>wp_skip<|Zc<|⟨S1,((((ZL W16 a).getD i 0)+65536)-c),Sh.le.refl _,(((L48.ri 8 ((((((ZL W16 a).getD i 0)+65536)-c):Nat):Int) rfl).a L48).kp [8,21,20,19,18,17,16,15,12,11,10,9,7,6,5,4,1,0] rfl),R2,(by omega)⟩;refine sO L10 rfl<|cF t1 (Zs rfl rfl)<|SF rfl λ_ L50=>wp_exit<|Zo<|Zo<|Yl<|Zc<|wp_seq ?_;have hsum:=hI.done (by omega) (by rw[ZX (by decide),ZX (by decide)];exact hle) (by omega);rw[ZX (by decide),ZX (by decide)] at hsum;have hIl:=hI.len;refine Za<|sm L50 rfl λ_ L51=>?_;obtain⟨S3,l3,r3,R7⟩:=Run.freezeG [] (H:=[]) R2;have R8:Run S w S3 [] w1:=R7;have hd1:=hG_us.gd (S:=S3) r3 (by omega) hI.lt;refine sO L51 rfl<|Zi rfl ent_153 (Zdi R8.holds (k:=k_a) hd1 (by rw[hsum];exact Nat.le_trans (Nat.sub_le _ _) hb_a)) λv_1 _ _ x1 v1=>?_;have R9:=R8.call x1;obtain⟨c_1,e7,h1⟩:=v1;obtain rfl:=e7.symm;intro _ L52;exact sa L52 rfl λ_ L53=>sn<|wp_ret<|rt (L53.kp [4] rfl) (.tmp rfl Res.nil)<|⟨_,_,rfl,R9.ext,⟨_,rfl,(h1.to hsum (by omega))⟩⟩
theorem Zf9{S:Sh}{w:World}(hS:ZV S w){c_a:Value}{a k_a:Nat}(h_a:Gn S c_a a k_a){c_b:Value}{b k_b:Nat}(h_b:Gn S c_b b k_b)(hlim:k_a<=1099511627776)(hlim2:k_b<=1099511627776):Calls prog 106 [c_a,c_b].toArray w (Ret S w (λS v=>∃(c0:Value),v=c0/\Gn S c0 (a*b) (k_a+k_b))):=by
 refine cbd hS (n:=70) func106 rfl λ_ L0 R0=>?_;obtain⟨hb_a,p_a,len_a,cap_a,rfl,hd_a⟩:=h_a.open;have hl_a:=hd_a.hlen;have hc_a:=hd_a.hcap;have hg_a:=hd_a.hbig;obtain⟨hb_b,p_b,len_b,cap_b,rfl,hd_b⟩:=h_b.open;have hl_b:=hd_b.hlen;have hc_b:=hd_b.hcap;have hg_b:=hd_b.hbig;have hla:=Qv hb_a;have hlb:=Qv hb_b;refine wA<|sa L0 rfl<|SW<|Sm rfl<|So rfl<|Zz rfl underlying44<|Sm rfl<|So rfl<|Zz rfl underlying44<|So rfl<|Zy rfl rfl Xd<|So rfl<|XB (m:=(len_a+len_b)) (c:=(len_a+len_b)) (by first|rfl|(simp[ev,Zad];omega)) (by first|rfl|(simp[ev,Zad];omega)) underlying44 Qg rfl Yg Za6 (by omega) (by omega) (by omega) R0 λb1 _ R1 _ L7=>?_;rw[u32s_rep] at R1;refine sa L7 rfl<|kP [0,1,4,5] rfl<|SVv<|Sa rfl λ_ L10=>sn<|wp_block<|ZJ (λm ac ww=>∃(S':Sh)(us:List Nat)(i:Nat),S.le S'/\ZD ac 70 [(0,(.slice p_a len_a cap_a)),(1,(.slice p_b len_b cap_b)),(4,(.slice none 0 0)),(5,(.slice (some ⟨b1,0,none⟩) (len_a+len_b) (len_a+len_b))),(6,(.int .i64 ((i:Nat):Int)))]/\Run S w S' [(b1,163,(YN us++[]))] ww/\(Mul16 (ZL W16 a) (ZL W16 b) us i 0 0)/\(i<=len_a)/\m=len_a-i) (len_a-0) ⟨S,(List.replicate (len_a+len_b) 0),0,Sh.le.refl _,(((L10.ri 6 ((0:Nat):Int) rfl).a L10).kp [6,5,4,1,0] rfl),R1,(by exact Mul16.start (by omega)),(by omega),rfl⟩ ?_;rintro m_1 ac1 _ ⟨S1,us,i,l1,L11,R2,hI,hi,m1⟩;refine wp_seq<|wA<|sm L11 rfl<|Sm rfl<|So rfl<|Zz rfl underlying44 λ_ L15=>?_;by_cases t1:(i:Int)<(len_a:Int)
 ·refine sO L15 rfl (cT t1 (Zs rfl rfl)<|ST rfl λ_ L16=>wp_skip<|Zc<|wp_seq<|wp_block<|wA<|sa L16 rfl λ_ L17=>sn<|wp_seq ?_)
  refine Za (sa L17 rfl ?_)
  intro _ L18
  refine sn (wp_block ?_)
  refine ZJ (λm ac ww=>∃(S':Sh)(us2:List Nat)(j:Nat)(c:Nat),S1.le S'/\ZD ac 70 [(0,(.slice p_a len_a cap_a)),(1,(.slice p_b len_b cap_b)),(4,(.slice none 0 0)),(5,(.slice (some ⟨b1,0,none⟩) (len_a+len_b) (len_a+len_b))),(6,(.int .i64 ((i:Nat):Int))),(16,(.int .i64 ((i:Nat):Int))),(17,(.slice p_a len_a cap_a)),(18,(.int .i64 ((len_a:Nat):Int))),(19,(.bool true)),(7,(.int .u64 ((c:Nat):Int))),(8,(.int .i64 ((j:Nat):Int)))]/\Run S w S' [(b1,163,(YN us2++[]))] ww/\(Mul16 (ZL W16 a) (ZL W16 b) us2 i j c)/\(j<=len_b+1)/\(j<=len_b\/c=0)/\m=len_b+1-j)
   (len_b+1-0) ⟨S1,us,0,0,Sh.le.refl _,(((L18.ri 7 ((0:Nat):Int) rfl).a ((L18.ri 8 ((0:Nat):Int) rfl).a L18)).kp [8,7,19,18,17,16,6,5,4,1,0] rfl),R2,hI,(by omega),(by omega),rfl⟩ ?_
  rintro m_2 ac2 _ ⟨S2,us2,j,c,l2,L19,R3,hJ,hj,hjc,m2⟩
  refine wp_seq (wA<|sm L19 rfl ?_)
  intro _ L22
  refine sm L22 rfl (So rfl<|Zz rfl underlying44 λ_ L24=>?_)
  by_cases t2:(j:Int)<(len_b:Int)
  ·refine sO L24 rfl (cT t2 (Zs rfl rfl)<|Sm rfl<|Sf rfl<|Sf rfl<|So rfl<|Ze rfl rfl<|ST rfl λ_ L29=>wp_skip<|Zc ?_)
   refine wp_seq (wp_block<|wp_seq ?_)
   have hJl:=hJ.len;have hJc:=hJ.cb
   have hxa:=ZT hd_a.hlt (show 0<65536 by decide) i
   have hxb:=ZT hd_b.hlt (show 0<65536 by decide) j
   have hxu:=ZT hJ.lt (show 0<65536 by decide) (i+j)
   have hxp:=mul16_le hxa hxb
   refine Za (sm L29 rfl ?_)
   intro _ L30
   refine sm L30 rfl (Sm rfl<|So rfl<|Zy rfl rfl Xd<|So rfl<|Zr (i+j) rfl rfl underlying44 Yg (by omega) (by omega)<|So rfl<|Zk (v:=(.int .u32 ((us2.getD (i+j) 0:Nat):Int))) rfl Qe (R3.has<|List.Mem.head _) (by rw[Nat.zero_add];exact u32s_get0 (by omega))<|So rfl<|Yv (z:=((us2.getD (i+j) 0:Nat):Int)) rfl rfl underlying29 Zav<|Sm rfl λ_ L37=>?_)
   refine sO L37 rfl (Zy rfl rfl Zav<|Sa rfl λ_ L39=>sn ?_)
   refine Xr (λac ww=>∃(S':Sh)(s2:Nat),S2.le S'/\ZD ac 70 [(0,(.slice p_a len_a cap_a)),(1,(.slice p_b len_b cap_b)),(4,(.slice none 0 0)),(5,(.slice (some ⟨b1,0,none⟩) (len_a+len_b) (len_a+len_b))),(6,(.int .i64 ((i:Nat):Int))),(16,(.int .i64 ((i:Nat):Int))),(17,(.slice p_a len_a cap_a)),(18,(.int .i64 ((len_a:Nat):Int))),(19,(.bool true)),(7,(.int .u64 ((c:Nat):Int))),(8,(.int .i64 ((j:Nat):Int))),(22,(.int .i64 ((j:Nat):Int))),(23,(.slice p_b len_b cap_b)),(24,(.int .i64 ((len_b:Nat):Int))),(25,(.bool true)),(26,(.bool true)),(29,(.bool true)),(32,(.slice (some ⟨b1,0,none⟩) (len_a+len_b) (len_a+len_b))),(33,(.int .i64 ((i:Nat):Int))),(34,(.int .i64 ((j:Nat):Int))),(35,(.int .i64 (((i:Nat):Int)+((j:Nat):Int)))),(36,(.pointer (some ⟨b1,(0+(i+j)),none⟩))),(37,(.int .u32 ((us2.getD (i+j) 0:Nat):Int))),(38,(.int .u64 ((us2.getD (i+j) 0:Nat):Int))),(39,(.int .u64 ((c:Nat):Int))),(40,(.int .u64 (((us2.getD (i+j) 0:Nat):Int)+((c:Nat):Int)))),(9,(.int .u64 ((s2:Nat):Int)))]/\Run S w S' [(b1,163,(YN us2++[]))] ww/\(s2=us2.getD (i+j) 0+c+(ZL W16 a).getD i 0*(ZL W16 b).getD j 0)) ?_ ?_
   ·rintro ac3 _ ⟨S3,s2,l3,L40,R4,hs2⟩
    refine wA (sm L40 rfl ?_)
    intro _ L41
    refine sm L41 rfl (Sm rfl<|So rfl<|Zy rfl rfl Xd<|Sm rfl<|So rfl<|XZ (z:=((s2:Int)%(65536:Int))) rfl rfl (by omega) (Zb8 (by omega))<|So rfl<|Yv (z:=((s2:Int)%(65536:Int))) rfl rfl underlying163 u32i<|So rfl<|Zr (i+j) rfl rfl underlying44 Yg (by omega) (by omega) λ_ L48=>?_)
    refine sZ L48 rfl (Yo (cs':=(YN (us2.set (i+j) (s2%65536))++[])) rfl rfl R4 Yg rfl (by simp only[List.length_append,XU];omega) (by rw[Nat.zero_add];exact u32s_set (by omega)) λ_ R5=>SX<|Sm rfl<|So rfl<|XK (z:=((s2:Int)/(65536:Int))) rfl rfl (by omega) (Za3 (k:=.u64) (by omega) (by omega) (show _<=(18446744073709551615:Int) by omega))<|Sa rfl<|SY<|Sm rfl λ_ L53=>?_)
    exact sO L53 rfl (Zy rfl rfl Xd<|Sa rfl λ_ L55=>sn<|⟨len_b+1-(j+1),(by omega),S3,(us2.set (i+j) (s2%65536)),(j+1),(s2/65536),(l2.trans l3),(((L55.ri 7 (((s2/65536):Nat):Int) rfl).a ((L55.ri 8 (((j+1):Nat):Int) rfl).a L55)).kp [8,7,19,18,17,16,6,5,4,1,0] rfl),R5,(by exact hJ.step hd_a.hlt hd_b.hlt rfl (by omega) (by omega) hs2),(by omega),(by have q:=(hJ.step hd_a.hlt hd_b.hlt rfl (by omega) (by omega) hs2).last;rcases Nat.lt_or_ge len_b (j+1) with q1|q1;exact Or.inr<|q (by omega);exact Or.inl q1),rfl⟩)
   ·skip
    refine wA (sm L39 rfl ?_)
    intro _ L58
    refine sm L58 rfl (So rfl<|Zz rfl underlying44<|So rfl<|cT t2 (Zs rfl rfl) λ_ L61=>sn<|Zl L61 rfl rfl ?_)
    obtain⟨b2,off1,pre1,rest_1,rfl,r1,pl1⟩:=(hd_a.up<|l1.trans l2).row (by omega)
    obtain⟨b3,off2,pre2,rest_2,rfl,r2,pl2⟩:=(hd_b.up<|l1.trans l2).row (by omega)
    have L62:=(L61.kp [0,1,4,5,6,16,17,18,19,7,8,22,23,24,25,26,29,32,33,34,35,36,37,38,39,40,9,41,42,43,44] rfl)
    refine Zw (E0:=[]) (H0:=[(b1,163,(YN us2++[]))]) (n:=70) mixed 12 [] (λk=>0) (Zcn [
      .is (.int .u64 (((us2.getD (i+j) 0:Nat):Int)+(c:Int))),
      .is (.slice (some ⟨b2,off1,none⟩) len_a cap_a),
      .is (.int .i64 (i:Int)),
      .is (.pointer (some ⟨b2,(off1+(i)),none⟩)),
      .is (.int .u32 (((ZL W16 a).getD i 0:Nat):Int)),
      .is (.int .u64 (((ZL W16 a).getD i 0:Nat):Int)),
      .is (.slice (some ⟨b3,off2,none⟩) len_b cap_b),
      .is (.int .i64 (j:Int)),
      .is (.pointer (some ⟨b3,(off2+(j)),none⟩)),
      .is (.int .u32 (((ZL W16 b).getD j 0:Nat):Int)),
      .is (.int .u64 (((ZL W16 b).getD j 0:Nat):Int)),
      .is (.int .u64 ((((ZL W16 a).getD i 0:Nat):Int)*(((ZL W16 b).getD j 0:Nat):Int)))]) L62 R3 (by simp) (by simp) (by rfl) (by rfl) (by simp) (ZU ?_) ?_
    ·refine(Al ?_ ?_ ?_ ?_<|Am ?_ ?_ ?_ ?_ ?_ ?_ ?_ ?_ trivial)
     ·exact dm [] rfl
     ·exact dm [] rfl
     ·exact dm [] rfl
     ·refine Zb rfl (λ_ _ _ _ _ A4=>?_)
      obtain⟨_,e6,rfl⟩:=A4.known 1 rfl
      obtain⟨_,e7,rfl⟩:=A4.known 2 rfl
      exact Cu ((A4.live.add e6).add e7) (Zr i rfl rfl underlying44 Yg (by omega) (by omega)<|A4.same rfl)
     ·refine Zb rfl (λ_ _ _ _ _ A5=>?_)
      obtain⟨_,e8,rfl⟩:=A5.known 3 rfl
      exact Cu (A5.live.add e8) (Zk (v:=(.int .u32 (((ZL W16 a).getD i 0:Nat):Int))) rfl Qe (A5.run.row<|r1.up A5.le) (by rw[<-pl1];exact XH (by omega))<|A5.same rfl)
     ·refine Zb rfl (λ_ _ _ _ _ A6=>?_)
      obtain⟨_,e9,rfl⟩:=A6.known 4 rfl
      exact Cu (A6.live.add e9) (Yv (z:=(((ZL W16 a).getD i 0:Nat):Int)) rfl rfl underlying29 Zav<|A6.same rfl)
     ·exact dm [] rfl
     ·exact dm [] rfl
     ·refine Zb rfl (λ_ _ _ _ _ A9=>?_)
      obtain⟨_,e10,rfl⟩:=A9.known 6 rfl
      obtain⟨_,e11,rfl⟩:=A9.known 7 rfl
      exact Cu ((A9.live.add e10).add e11) (Zr j rfl rfl underlying44 Yg (by omega) (by omega)<|A9.same rfl)
     ·refine Zb rfl (λ_ _ _ _ _ A10=>?_)
      obtain⟨_,e12,rfl⟩:=A10.known 8 rfl
      exact Cu (A10.live.add e12) (Zk (v:=(.int .u32 (((ZL W16 b).getD j 0:Nat):Int))) rfl Qe (A10.run.row<|r2.up A10.le) (by rw[<-pl2];exact XH (by omega))<|A10.same rfl)
     ·refine Zb rfl (λ_ _ _ _ _ A11=>?_)
      obtain⟨_,e13,rfl⟩:=A11.known 9 rfl
      exact Cu (A11.live.add e13) (Yv (z:=(((ZL W16 b).getD j 0:Nat):Int)) rfl rfl underlying29 Zav<|A11.same rfl)
     ·refine Zb rfl (λ_ _ _ _ _ A12=>?_)
      obtain⟨_,e14,rfl⟩:=A12.known 5 rfl
      obtain⟨_,e15,rfl⟩:=A12.known 10 rfl
      exact Cu ((A12.live.add e14).add e15) (XL (z:=((((ZL W16 a).getD i 0:Nat):Int)*(((ZL W16 b).getD j 0:Nat):Int))) rfl rfl Zav<|A12.same rfl)
    ·intro S16 _ _ w18 l4 E1 R6 n1 L75 K1
     obtain⟨_,e16,rfl⟩:=K1 0 (by decide)
     have L76:=L75.add e16;clear L75
     obtain⟨_,e17,rfl⟩:=K1 1 (by decide)
     have L77:=L76.add e17;clear L76
     obtain⟨_,e18,rfl⟩:=K1 2 (by decide)
     have L78:=L77.add e18;clear L77
     obtain⟨_,e19,rfl⟩:=K1 3 (by decide)
     have L79:=L78.add e19;clear L78
     obtain⟨_,e20,rfl⟩:=K1 4 (by decide)
     have L80:=L79.add e20;clear L79
     obtain⟨_,e21,rfl⟩:=K1 5 (by decide)
     have L81:=L80.add e21;clear L80
     obtain⟨_,e22,rfl⟩:=K1 6 (by decide)
     have L82:=L81.add e22;clear L81
     obtain⟨_,e23,rfl⟩:=K1 7 (by decide)
     have L83:=L82.add e23;clear L82
     obtain⟨_,e24,rfl⟩:=K1 8 (by decide)
     have L84:=L83.add e24;clear L83
     obtain⟨_,e25,rfl⟩:=K1 9 (by decide)
     have L85:=L84.add e25;clear L84
     obtain⟨_,e26,rfl⟩:=K1 10 (by decide)
     have L86:=L85.add e26;clear L85
     obtain⟨_,e27,rfl⟩:=K1 11 (by decide)
     have L87:=L86.add e27;clear L86
     have R7:Run _ _ S16 [(b1,163,(YN us2++[]))] w18:=Yb R6 n1 [] (by simp) (by simp)
     exact sO L87 rfl (Zy rfl rfl Zav<|Sa rfl λ_ L89=>sn<|⟨S16,(((us2.getD (i+j) 0)+c)+(((ZL W16 a).getD i 0)*((ZL W16 b).getD j 0))),l4,(((L89.ri 9 (((((us2.getD (i+j) 0)+c)+(((ZL W16 a).getD i 0)*((ZL W16 b).getD j 0))):Nat):Int) rfl).a L89).kp [9,40,39,38,37,36,35,34,33,32,29,26,25,24,23,22,8,7,19,18,17,16,6,5,4,1,0] rfl),R7,(by first|omega|(rw[Za0 (y:=(ZL W16 b)) (i:=j) (by omega)];omega))⟩)
  ·refine sO L24 rfl (cF t2 (Zs rfl rfl)<|Sm rfl<|Sn rfl<|Zd rfl λ_ L93=>?_)
   by_cases t3:(0:Int)<(c:Int)
   ·refine sN L93 rfl (cT t3 (ZF rfl rfl)<|So rfl<|Ze rfl rfl<|ST rfl λ_ L95=>wp_skip<|Zc<|wp_seq<|wp_block<|wp_seq ?_)
    have hJl:=hJ.len;have hJc:=hJ.cb
    have hxa:=ZT hd_a.hlt (show 0<65536 by decide) i
    have hxb:=ZT hd_b.hlt (show 0<65536 by decide) j
    have hxu:=ZT hJ.lt (show 0<65536 by decide) (i+j)
    have hxp:=mul16_le hxa hxb
    refine Za (sm L95 rfl ?_)
    intro _ L96
    refine sm L96 rfl (Sm rfl<|So rfl<|Zy rfl rfl Xd<|So rfl<|Zr (i+j) rfl rfl underlying44 Yg (by omega) (by omega)<|So rfl<|Zk (v:=(.int .u32 ((us2.getD (i+j) 0:Nat):Int))) rfl Qe (R3.has<|List.Mem.head _) (by rw[Nat.zero_add];exact u32s_get0 (by omega))<|So rfl<|Yv (z:=((us2.getD (i+j) 0:Nat):Int)) rfl rfl underlying29 Zav<|Sm rfl λ_ L103=>?_)
    refine sO L103 rfl (Zy rfl rfl Zav<|Sa rfl λ_ L105=>sn ?_)
    refine Xr (λac ww=>∃(S':Sh)(s2:Nat),S2.le S'/\ZD ac 70 [(0,(.slice p_a len_a cap_a)),(1,(.slice p_b len_b cap_b)),(4,(.slice none 0 0)),(5,(.slice (some ⟨b1,0,none⟩) (len_a+len_b) (len_a+len_b))),(6,(.int .i64 ((i:Nat):Int))),(16,(.int .i64 ((i:Nat):Int))),(17,(.slice p_a len_a cap_a)),(18,(.int .i64 ((len_a:Nat):Int))),(19,(.bool true)),(7,(.int .u64 ((c:Nat):Int))),(8,(.int .i64 ((j:Nat):Int))),(22,(.int .i64 ((j:Nat):Int))),(23,(.slice p_b len_b cap_b)),(24,(.int .i64 ((len_b:Nat):Int))),(25,(.bool false)),(26,(.bool false)),(27,(.int .u64 ((c:Nat):Int))),(28,(.bool true)),(29,(.bool true)),(32,(.slice (some ⟨b1,0,none⟩) (len_a+len_b) (len_a+len_b))),(33,(.int .i64 ((i:Nat):Int))),(34,(.int .i64 ((j:Nat):Int))),(35,(.int .i64 (((i:Nat):Int)+((j:Nat):Int)))),(36,(.pointer (some ⟨b1,(0+(i+j)),none⟩))),(37,(.int .u32 ((us2.getD (i+j) 0:Nat):Int))),(38,(.int .u64 ((us2.getD (i+j) 0:Nat):Int))),(39,(.int .u64 ((c:Nat):Int))),(40,(.int .u64 (((us2.getD (i+j) 0:Nat):Int)+((c:Nat):Int)))),(9,(.int .u64 ((s2:Nat):Int)))]/\Run S w S' [(b1,163,(YN us2++[]))] ww/\(s2=us2.getD (i+j) 0+c+(ZL W16 a).getD i 0*(ZL W16 b).getD j 0)) ?_ ?_
    ·rintro ac4 _ ⟨S17,s2,l5,L106,R8,hs2⟩
     refine wA (sm L106 rfl ?_)
     intro _ L107
     refine sm L107 rfl (Sm rfl<|So rfl<|Zy rfl rfl Xd<|Sm rfl<|So rfl<|XZ (z:=((s2:Int)%(65536:Int))) rfl rfl (by omega) (Zb8 (by omega))<|So rfl<|Yv (z:=((s2:Int)%(65536:Int))) rfl rfl underlying163 u32i<|So rfl<|Zr (i+j) rfl rfl underlying44 Yg (by omega) (by omega) λ_ L114=>?_)
     refine sZ L114 rfl (Yo (cs':=(YN (us2.set (i+j) (s2%65536))++[])) rfl rfl R8 Yg rfl (by simp only[List.length_append,XU];omega) (by rw[Nat.zero_add];exact u32s_set (by omega)) λ_ R9=>SX<|Sm rfl<|So rfl<|XK (z:=((s2:Int)/(65536:Int))) rfl rfl (by omega) (Za3 (k:=.u64) (by omega) (by omega) (show _<=(18446744073709551615:Int) by omega))<|Sa rfl<|SY<|Sm rfl λ_ L119=>?_)
     exact sO L119 rfl (Zy rfl rfl Xd<|Sa rfl λ_ L121=>sn<|⟨len_b+1-(j+1),(by omega),S17,(us2.set (i+j) (s2%65536)),(j+1),(s2/65536),(l2.trans l5),(((L121.ri 7 (((s2/65536):Nat):Int) rfl).a ((L121.ri 8 (((j+1):Nat):Int) rfl).a L121)).kp [8,7,19,18,17,16,6,5,4,1,0] rfl),R9,(by exact hJ.step hd_a.hlt hd_b.hlt rfl (by omega) (by omega) hs2),(by omega),(by have q:=(hJ.step hd_a.hlt hd_b.hlt rfl (by omega) (by omega) hs2).last;rcases Nat.lt_or_ge len_b (j+1) with q1|q1;exact Or.inr<|q (by omega);exact Or.inl q1),rfl⟩)
    ·skip
     refine wA (sm L105 rfl ?_)
     intro _ L124
     exact sm L124 rfl (So rfl<|Zz rfl underlying44<|So rfl<|cF t2 (Zs rfl rfl)<|SF rfl λ_ L127=>wp_skip<|Zc<|⟨S2,((us2.getD (i+j) 0)+c),Sh.le.refl _,(((L127.ri 9 ((((us2.getD (i+j) 0)+c):Nat):Int) rfl).a L127).kp [9,40,39,38,37,36,35,34,33,32,29,28,27,26,25,24,23,22,8,7,19,18,17,16,6,5,4,1,0] rfl),R3,(by first|omega|(rw[Za0 (y:=(ZL W16 b)) (i:=j) (by omega)];omega))⟩)
   ·refine sN L93 rfl (cF t3 (ZF rfl rfl)<|So rfl<|Ze rfl rfl<|SF rfl λ_ L130=>wp_exit<|Zo<|Zo<|Yl<|Zx<|Zc<|Za<|sm L130 rfl<|So rfl<|Zy rfl rfl Xd<|Sa rfl λ_ L133=>?_)
    refine sn ?_
    have hc0:c=0:=by omega
    subst hc0
    exact⟨len_a-(i+1),(by omega),S2,us2,(i+1),(l1.trans l2),(((L133.ri 6 (((i+1):Nat):Int) rfl).a L133).kp [6,5,4,1,0] rfl),R3,(by exact hJ.next (by omega) (by omega) (by omega)),(by omega),rfl⟩
 refine sO L15 rfl<|cF t1 (Zs rfl rfl)<|SF rfl λ_ L135=>wp_exit<|Zo<|Zo<|Yl<|Zc<|wp_seq ?_;have hsum:=hI.done (by omega);rw[ZX (by decide),ZX (by decide)] at hsum;have hIl:=hI.len;refine Za<|sm L135 rfl λ_ L136=>?_;obtain⟨S18,l6,r3,R10⟩:=(R2).freeze;have hd1:Gd S18 (some ⟨b1,0,none⟩) (len_a+len_b) (len_a+len_b) us:=⟨by omega,by omega,by omega,by exact hI.lt,λ_=>⟨_,0,[],[],rfl,r3,rfl⟩⟩;refine sO L136 rfl<|Zi rfl ent_153 (Zdi R10.holds (k:=(k_a+k_b)) hd1 (by rw[hsum];exact prod_pow hb_a hb_b)) λv_1 _ _ x1 v1=>?_;have R11:=R10.call x1;obtain⟨c1,e33,h1⟩:=v1;obtain rfl:=e33.symm;intro _ L137;exact sa L137 rfl λ_ L138=>sn<|wp_ret<|rt (L138.kp [4] rfl) (.tmp rfl Res.nil)<|⟨_,_,rfl,R11.ext,⟨_,rfl,(h1.to hsum (by omega))⟩⟩
theorem cref01_Div{S:Sh}{w:World}(hS:ZV S w){c_a:Value}{a k_a:Nat}(h_a:Gn S c_a a k_a){c_b:Value}{b k_b:Nat}(h_b:Gn S c_b b k_b)(hb0:0<b)(hlim:k_a<=1099511627776)(hlim2:k_b<=1099511000000):Calls prog 109 [c_a,c_b].toArray w (Ret S w (λS v=>∃(c0:Value)(c1:Value),v= .tuple [c0,c1].toArray/\Gn S c0 (a/b) (k_a)/\Gn S c1 (a%b) k_b)):=by
 refine cbd hS (n:=63) func109 rfl λ_ L0 R0=>?_;obtain⟨hb_a,p_a,len_a,cap_a,rfl,hd_a⟩:=h_a.open;have hl_a:=hd_a.hlen;have hc_a:=hd_a.hcap;have hg_a:=hd_a.hbig;have hla:=Qv hb_a;refine wA<|sa L0 rfl<|Sa rfl<|SW<|Sm rfl<|So rfl<|Zz rfl underlying44<|So rfl<|XB (m:=len_a) (c:=len_a) (by first|rfl|(simp[ev,Zad];omega)) (by first|rfl|(simp[ev,Zad];omega)) underlying44 Qg rfl Yg Za6 (by omega) (by omega) (by omega) R0 λb1 _ R1 _ L5=>?_;rw[u32s_rep] at R1;refine sa L5 rfl<|SW<|Sa rfl<|SVv<|Sm rfl<|So rfl<|Zz rfl underlying44<|So rfl<|ZO rfl rfl Xd<|Sa rfl<|kP [0,1,4,5,6,7,8] rfl λ_ L12=>sn<|wp_block<|ZJ (λm ac ww=>∃(S':Sh)(qs:List Nat)(kk:Nat)(c_r:Value)(r:Nat),S.le S'/\ZD ac 63 [(0,(.slice p_a len_a cap_a)),(1,c_b),(4,(.slice none 0 0)),(5,(.slice none 0 0)),(6,(.slice (some ⟨b1,0,none⟩) len_a len_a)),(7,c_r),(8,(.int .i64 (((kk:Nat):Int)-(1:Int))))]/\Run S w S' [(b1,163,(YN qs++[]))] ww/\(Gn S' c_r r k_b)/\(Div16 (ZL W16 a) qs b kk r)/\(kk<=len_a)/\m=kk) len_a ⟨S,(List.replicate len_a 0),len_a,(.slice none 0 0),0,Sh.le.refl _,(L12.kp [8,7,6,5,4,1,0] rfl),R1,(by exact Gn.nil _ _),(by exact Div16.start hb0 (by omega)),(by omega),rfl⟩ ?_;rintro m_1 ac1 _ ⟨S1,qs,kk,c_r,r,l1,L13,R2,h_r,hD,hk,m1⟩;refine wp_seq<|wA<|sm L13 rfl λ_ L14=>?_;by_cases t1:(0:Int)<=((kk:Int)-(1:Int));refine sO L14 rfl<|cT t1 (YI rfl rfl)<|ST rfl λ_ L15=>wp_skip<|Zc<|wp_seq<|wp_block<|wp_seq ?_;have hDt:=hD.top hd_a.hlt;have hDl:=hD.len;have hxa:=ZT hd_a.hlt (show 0<65536 by decide) (kk-1);have hlr:=Qv h_r.1;refine Za<|sm L15 rfl<|Sm rfl λ_ L17=>?_;obtain⟨b2,off1,pre1,rest_1,rfl,r1,pl1⟩:=(hd_a.up l1).row (by omega);refine sO L17 rfl<|Zr (kk-1) rfl rfl underlying44 Yg (by omega) (by omega)<|So rfl<|Zk (v:=(.int .u32 (((ZL W16 a).getD (kk-1) 0:Nat):Int))) rfl Qe (R2.row r1) (by rw[<-pl1];exact XH (by omega))<|So rfl<|Yf (cs:=(YN [((ZL W16 a).getD (kk-1) 0)]++[])) underlying44 Yg Qg (.cons rfl rfl (by decide) .nil) [[(.int .u32 (((ZL W16 a).getD (kk-1) 0:Nat):Int))]] rfl rfl (by rfl) (by decide) R2 λb3 w3 R3=>Sm rfl λ_ L21=>?_;have R4:Run S w S1 ((b1,163,(YN qs++[]))::(YH (some (b3,[])) 163 (YN [((ZL W16 a).getD (kk-1) 0)])++[])) w3:=Zhp [(b1,163,(YN qs++[]))] (H:=[]) R3;refine sO L21 rfl<|does_appendGn (g:=(some (b3,[]))) (ds:=[((ZL W16 a).getD (kk-1) 0)]) (H:=[(b1,163,(YN qs++[]))]++[]) rfl rfl underlying44 Yg Za6 Qg (Gw.own (by simp[YN])) (YQ [(b1,163,(YN qs++[]))] (H2:=YH (some (b3,[])) 163 (YN [((ZL W16 a).getD (kk-1) 0)])) (H:=[]) R4) h_r (by omega) λg1 cap1 w4 hG1 R5 _ L22=>?_;have R6:Run S w S1 ((b1,163,(YN qs++[]))::(YH g1 163 (YN ([((ZL W16 a).getD (kk-1) 0)]++(ZL W16 r)))++[])) w4:=YQ (YH g1 163<|YN ([((ZL W16 a).getD (kk-1) 0)]++(ZL W16 r))) (H2:=[(b1,163,(YN qs++[]))]) (H:=[]) R5;obtain⟨S2,l2,r2,R7⟩:=Run.freezeG [(b1,163,(YN qs++[]))] (H:=[]) R6;have R8:Run S w S2 [(b1,163,(YN qs++[]))] w4:=R7;have hd1:=hG1.gd (S:=S2) r2 (by omega) (by exact lt_app16 hxa);refine sO L22 rfl<|Zi rfl ent_153 (Zdi R8.holds (k:=(k_b+16)) hd1 (by rw[val16_app1];exact pow16_le hDt h_b.1)) λv_1 S3 _ x1 v1=>?_;have R9:=R8.call x1;have l3:=x1.le;obtain⟨c_1,e1,h1⟩:=v1;obtain rfl:=e1.symm;intro _ L23;refine sa L23 rfl λ_ L24=>sn<|wp_seq ?_;have h2:Gn S3 c_1 ((ZL W16 a).getD (kk-1) 0+65536*r) (k_b+16):=h1.toE (by exact val16_app1 _ _);refine Za<|sa L24 rfl<|SW<|Sa rfl λ_ L26=>sn<|wp_seq<|wp_block<|ZJ (λm ac ww=>∃(S':Sh)(lo:Nat)(hi:Nat),S3.le S'/\ZD ac 63 [(0,(.slice (some ⟨b2,off1,none⟩) len_a cap_a)),(1,c_b),(4,(.slice none 0 0)),(5,(.slice none 0 0)),(6,(.slice (some ⟨b1,0,none⟩) len_a len_a)),(7,c_1),(8,(.int .i64 (((kk:Nat):Int)-(1:Int)))),(19,(.int .i64 (((kk:Nat):Int)-(1:Int)))),(20,(.bool true)),(23,(.slice (some ⟨b2,off1,none⟩) len_a cap_a)),(24,(.int .i64 (((kk:Nat):Int)-(1:Int)))),(25,(.pointer (some ⟨b2,(off1+(kk-1)),none⟩))),(26,(.int .u32 (((ZL W16 a).getD (kk-1) 0:Nat):Int))),(27,(.slice (some ⟨b3,0,none⟩) 1 1)),(28,c_r),(29,(.slice (gp g1) (1+(ZL W16 r).length) cap1)),(30,c_1),(9,(.int .u64 ((lo:Nat):Int))),(10,(.int .u64 ((hi:Nat):Int)))]/\Run S w S' [(b1,163,(YN qs++[]))] ww/\(Half ((ZL W16 a).getD (kk-1) 0+65536*r) b lo hi)/\m=hi-lo) (65536-0) ⟨S3,0,65536,Sh.le.refl _,(((L26.ri 9 ((0:Nat):Int) rfl).a ((L26.ri 10 ((65536:Nat):Int) rfl).a L26)).kp [10,9,30,29,28,27,26,25,24,23,20,19,8,7,6,5,4,1,0] rfl),R9,(by exact Half.start<|hD.top hd_a.hlt),rfl⟩ ?_;rintro m_2 ac2 _ ⟨_,lo,hi,l4,L27,R10,hH,m2⟩;refine wp_seq<|wp_seq ?_;have hHl:=hH.lt';have hHt:=hH.top;refine Za<|sm L27 rfl<|Sm rfl<|So rfl<|ZO rfl rfl Zav λ_ L32=>?_;by_cases t2:(1:Int)<((hi:Int)-(lo:Int));refine sO L32 rfl<|cT t2 (ZF rfl rfl)<|ST rfl λ_ L33=>wp_skip<|Zc<|wp_block<|wA<|sm L33 rfl<|Sm rfl<|So rfl<|Zy rfl rfl Zav<|So rfl<|XK (z:=(((lo:Int)+(hi:Int))/(2:Int))) rfl rfl (by omega) (Za3 (k:=.u64) (by omega) (by omega) (show _<=(18446744073709551615:Int) by omega))<|Sa rfl<|SW<|Sm rfl<|So rfl<|Zi rfl Zea (QE R10.holds (n:=((lo+hi)/2)) (by omega)) λv_2 _ _ x2 v2=>?_;have R11:=R10.call x2;have l5:=x2.le;obtain⟨c2,e4,h3⟩:=v2;obtain rfl:=e4.symm;intro _ L40;refine sm L40 rfl<|So rfl<|Zi rfl ent_106 (Zf9 R11.holds h3 (h_b.up<|l1.trans<|l2.trans<|l3.trans<|l4.trans l5) (by omega) (by omega)) λv_3 _ _ x3 v3=>?_;have R12:=R11.call x3;have l6:=x3.le;obtain⟨c3,e5,h4⟩:=v3;obtain rfl:=e5.symm;intro _ L42;refine sa L42 rfl<|SW<|Sm rfl<|Sm rfl<|So rfl<|Zi rfl ent_154 (cref01_Cmp R12.holds h4<|h2.up<|l4.trans<|l5.trans l6) λv_4 S7 _ x4 v4=>?_;have R13:=R12.call x4;have l7:=x4.le;obtain rfl:=v4;intro _ L46;by_cases t3:(Zcy (((lo+hi)/2)*b) ((ZL W16 a).getD (kk-1) 0+65536*r))<=(0:Int);exact sO L46 rfl<|cT t3 (QX rfl rfl)<|ST rfl λ_ L47=>Za<|sm L47 rfl<|Sa rfl λ_ L49=>Ya<|Zx<|Zc<|⟨hi-((lo+hi)/2),(by omega),S7,((lo+hi)/2),hi,(l4.trans<|l5.trans<|l6.trans l7),(((L49.ri 9 ((((lo+hi)/2):Nat):Int) rfl).a L49).kp [10,9,30,29,28,27,26,25,24,23,20,19,8,7,6,5,4,1,0] rfl),R13,(by first|exact⟨cmpN_le.1 (by assumption),hH.lt,hH.top⟩|exact⟨hH.le,Nat.lt_of_not_le (λq=>absurd (cmpN_le.2 q) (by assumption)),by omega⟩),rfl⟩;exact sO L46 rfl<|cF t3 (QX rfl rfl)<|SF rfl λ_ L51=>Za<|sm L51 rfl<|Sa rfl λ_ L53=>Ya<|Zx<|Zc<|⟨((lo+hi)/2)-lo,(by omega),S7,lo,((lo+hi)/2),(l4.trans<|l5.trans<|l6.trans l7),(((L53.ri 10 ((((lo+hi)/2):Nat):Int) rfl).a L53).kp [10,9,30,29,28,27,26,25,24,23,20,19,8,7,6,5,4,1,0] rfl),R13,(by first|exact⟨cmpN_le.1 (by assumption),hH.lt,hH.top⟩|exact⟨hH.le,Nat.lt_of_not_le (λq=>absurd (cmpN_le.2 q) (by assumption)),by omega⟩),rfl⟩;refine sO L32 rfl<|cF t2 (ZF rfl rfl)<|SF rfl λ_ L55=>wp_exit<|Zo<|Zo<|Yl<|Zc<|wA<|sm L55 rfl<|Sm rfl<|Sm rfl<|So rfl<|Yv (z:=(lo:Int)) rfl rfl underlying163 u32i<|So rfl<|Zr (kk-1) rfl rfl underlying44 Yg (by omega) (by omega)<|Sz rfl<|Yo (cs':=(YN (qs.set (kk-1) lo)++[])) rfl rfl R10 Yg rfl (by simp only[List.length_append,XU];omega) (by rw[Nat.zero_add];exact u32s_set (by omega)) λ_ R14=>SX<|Sm rfl<|Sm rfl<|So rfl<|Zi rfl Zea (QE R14.holds (n:=lo) (by omega)) λv_5 _ _ x5 v5=>?_;have R15:=R14.call x5;have l8:=x5.le;obtain⟨c4,e8,h5⟩:=v5;obtain rfl:=e8.symm;intro _ L64;refine sm L64 rfl<|So rfl<|Zi rfl ent_106 (Zf9 R15.holds h5 (h_b.up<|l1.trans<|l2.trans<|l3.trans<|l4.trans l8) (by omega) (by omega)) λv_6 _ _ x6 v6=>?_;have R16:=R15.call x6;have l9:=x6.le;obtain⟨c5,e9,h6⟩:=v6;obtain rfl:=e9.symm;intro _ L66;refine sO L66 rfl<|Zi rfl ent_155 (cref01_Sub R16.holds (h2.up<|l4.trans<|l8.trans l9) h6 hH.le (by omega) (by omega)) λv_7 S10 _ x7 v7=>?_;have R17:=R16.call x7;have l10:=x7.le;obtain⟨c6,e10,h7⟩:=v7;obtain rfl:=e10.symm;intro _ L67;refine sa L67 rfl<|SY<|Sm rfl<|So rfl<|ZO rfl rfl Xd<|Sa rfl λ_ L71=>sn ?_;have hDn:=hD.step (q:=lo) (by omega) (by omega) hH.le (by rw[show lo+1=hi by omega];exact hH.lt);exact⟨(kk-1),(by omega),S10,(qs.set (kk-1) lo),(kk-1),c6,(((ZL W16 a).getD (kk-1) 0+65536*r)-(lo*b)),(l1.trans<|l2.trans<|l3.trans<|l4.trans<|l8.trans<|l9.trans l10),(((L71.ri 8 ((((kk-1):Nat):Int)-(1:Int)) rfl).a L71).kp [8,7,6,5,4,1,0] rfl),R17,(by exact h7.rek (by exact Nat.le_trans (Nat.le_of_lt hDn.rb) h_b.1)),hDn,(by omega),rfl⟩;refine sO L14 rfl<|cF t1 (YI rfl rfl)<|SF rfl λ_ L73=>wp_exit<|Zo<|Zo<|Yl<|Zc<|wp_seq ?_;obtain rfl:kk=0:=by omega
 obtain⟨hq,hr⟩:=hD.done;rw[ZX (by decide)] at hq hr;have hDl:=hD.len;refine Za<|sm L73 rfl λ_ L74=>?_;obtain⟨S11,l11,r3,R18⟩:=(R2).freeze;have hd2:Gd S11 (some ⟨b1,0,none⟩) len_a len_a qs:=⟨by omega,by omega,by omega,by exact hD.lt,λ_=>⟨_,0,[],[],rfl,r3,rfl⟩⟩;refine sO L74 rfl<|Zi rfl ent_153 (Zdi R18.holds (k:=k_a) hd2 (by rw[hq];exact Nat.le_trans (Nat.div_le_self _ _) hb_a)) λv_8 _ _ x8 v8=>?_;have R19:=R18.call x8;have l12:=x8.le;obtain⟨c7,e12,h8⟩:=v8;obtain rfl:=e12.symm;intro _ L75;exact sm L75 rfl<|Sa rfl<|Sa rfl λ_ L78=>sn<|wp_ret<|rt (L78.kp [4,5] rfl) (.tmp rfl (.tmp rfl Res.nil))<|⟨_,_,rfl,R19.ext,⟨_,_,rfl,(h8.to hq (by omega)),((h_r.up<|l11.trans l12).to hr (by omega))⟩⟩
theorem cref01_Gcd{S:Sh}{w:World}(hS:ZV S w){c_a:Value}{a k_a:Nat}(h_a:Gn S c_a a k_a){c_b:Value}{b k_b:Nat}(h_b:Gn S c_b b k_b)(hlim:k_a+k_b<=1099511000000):Calls prog 108 [c_a,c_b].toArray w (Ret S w (λS v=>∃(c0:Value),v=c0/\Gn S c0 (Nat.gcd a b) (k_a+k_b))):=by
 refine cbd hS (n:=19) func108 rfl λ_ L0 R0=>wA<|sa L0 rfl λ_ L1=>sn<|wp_seq<|wp_block<|ZJ (λm ac ww=>∃(S':Sh)(c_x:Value)(x:Nat)(c_y:Value)(y:Nat),S.le S'/\ZD ac 19 [(0,c_x),(1,c_y),(4,(.slice none 0 0))]/\Run S w S' [] ww/\(Gn S' c_y y (k_a+k_b))/\(Gn S' c_x x (k_a+k_b))/\(Nat.gcd x y=Nat.gcd a b)/\m=y) b ⟨S,c_a,a,c_b,b,Sh.le.refl _,(L1.kp [4,1,0] rfl),R0,(by exact h_b.to rfl (by omega)),(by exact h_a.to rfl (by omega)),(by rfl),rfl⟩ ?_;rintro m_1 ac1 _ ⟨_,c_x,x,c_y,y,l1,L2,R1,h_y,h_x,hg,m1⟩;refine wp_seq<|wA<|sm L2 rfl<|So rfl<|Zdh rfl underlying44 h_y λ_ L4=>?_;by_cases t1:(0:Int)<(((ZL W16 y).length:Nat):Int);refine sO L4 rfl<|cT t1 (ZF rfl rfl)<|ST rfl λ_ L5=>wp_skip<|Zc<|wp_block<|wA<|sm L5 rfl<|Sm rfl<|So rfl<|Zi rfl ent_109 (cref01_Div R1.holds h_x h_y (Nat.pos_of_ne_zero<|Qu (by omega)) (by omega) (by omega)) λv_1 S2 _ x1 v1=>?_;have R2:=R1.call x1;have l2:=x1.le;obtain⟨c1,c2,rfl,h1,h2⟩:=v1;intro _ L8;exact sm L8 rfl<|So rfl<|Zj rfl rfl<|So rfl<|Zj rfl rfl<|Sa rfl<|Sa rfl<|SW<|Sm rfl<|Sa rfl<|SX<|Sm rfl<|Sa rfl λ_ L17=>Ya<|Zx<|Zc<|⟨(x%y),(by have qm:=Nat.mod_lt x (show y > 0 from Nat.pos_of_ne_zero (Qu (by omega)));omega),S2,c_y,y,c2,(x%y),(l1.trans l2),(L17.kp [4,1,0] rfl),R2,h2,(h_y.up l2),(by rw[<-hg,Nat.gcd_comm x y,Nat.gcd_rec y x,Nat.gcd_comm]),rfl⟩;refine sO L4 rfl<|cF t1 (ZF rfl rfl)<|SF rfl λ_ L18=>wp_exit<|Zo<|Zo<|Yl<|Zc<|wA<|sm L18 rfl<|Sa rfl λ_ L20=>sn<|wp_ret<|rt (L20.kp [4] rfl) (.tmp rfl Res.nil) ?_;exact⟨_,_,rfl,R1.ext,⟨_,rfl,(h_x.to (by rw[<-hg,show y=0 from Zaq (by omega),Nat.gcd_zero_right]) (by omega))⟩⟩
theorem Zg5{S:Sh}{w:World}(hS:ZV S w){c_a:Value}{a k_a:Nat}(h_a:Gn S c_a a k_a)(hlim:k_a<=1099511000000):Calls prog 121 [c_a].toArray w (Ret S w (λS v=>v= .string (txt a))):=by
 refine cbd hS (n:=51) func121 rfl λ_ L0 R0=>wA<|sa L0 rfl<|SVv<|Sm rfl<|So rfl<|Zdh rfl underlying44 h_a λ_ L3=>?_;by_cases t1:(((ZL W16 a).length:Nat):Int)=(0:Int);exact sO L3 rfl<|cT t1 (ZP rfl rfl)<|ST rfl<|WA<|Sa rfl λ_ L5=>sn<|wp_ret<|Zt<|rt L5 (.tmp rfl Res.nil)<|⟨_,_,rfl,R0.ext,(by(have e:a=0:=Zaq (by omega));subst e;rfl)⟩;refine sO L3 rfl<|cF t1 (ZP rfl rfl)<|SF rfl λ_ L6=>wp_skip<|Zc<|wA<|sa L6 rfl λ_ L7=>sn<|wp_seq<|wp_block<|ZJ (λm ac ww=>∃(S':Sh)(mm:Nat)(ss:ByteArray)(c_q:Value)(q:Nat),S.le S'/\ZD ac 51 [(0,c_q),(2,(.string (⟨#[]⟩:ByteArray))),(3,(.string ss))]/\Run S w S' [] ww/\(Gn S' c_q q k_a)/\(q=a/10^mm)/\(bl ss=tl a mm)/\m=q) a ⟨S,0,(⟨#[]⟩:ByteArray),c_a,a,Sh.le.refl _,(L7.kp [3,2,0] rfl),R0,h_a,(by simp),(by rfl),rfl⟩ ?_;rintro m_1 ac1 _ ⟨_,mm,ss,c_q,q,l1,L8,R1,h_q,hv,hs,m1⟩;refine wp_seq<|wA<|sm L8 rfl<|So rfl<|Zdh rfl underlying44 h_q λ_ L10=>?_;by_cases t2:(0:Int)<(((ZL W16 q).length:Nat):Int);refine sO L10 rfl<|cT t2 (ZF rfl rfl)<|ST rfl λ_ L11=>wp_skip<|Zc<|wp_block<|wA<|sm L11 rfl<|So rfl<|Zi rfl Zea (QE R1.holds (n:=10000) (by omega)) λv_1 _ _ x1 v1=>?_;have R2:=R1.call x1;have l2:=x1.le;obtain⟨c1,e1,h1⟩:=v1;obtain rfl:=e1.symm;intro _ L13;refine sO L13 rfl<|Zi rfl ent_109 (cref01_Div R2.holds (h_q.up l2) h1 (by omega) (by omega) (by omega)) λv_2 _ _ x2 v2=>?_;have R3:=R2.call x2;have l3:=x2.le;obtain⟨c2,c3,rfl,h2,h3⟩:=v2;intro _ L14;refine sm L14 rfl<|So rfl<|Zj rfl rfl<|So rfl<|Zj rfl rfl<|Sa rfl<|Sa rfl<|SW<|Sm rfl<|So rfl<|Zi rfl ent_156 (cref01_Small R3.holds h3 (by omega)) λv_3 S4 _ x3 v3=>?_;have R4:=R3.call x3;have l4:=x3.le;obtain rfl:=v3;intro _ L21;refine sm L21 rfl<|So rfl<|Zj rfl rfl<|So rfl<|Zj rfl rfl<|Sa rfl<|Sa rfl<|SVv<|Sa rfl λ_ L27=>sn<|wp_block<|ZJ (λm ac ww=>∃(S':Sh)(i:Nat)(d:Nat)(ss2:ByteArray),S4.le S'/\ZD ac 51 [(0,c_q),(2,(.string (⟨#[]⟩:ByteArray))),(3,(.string ss2)),(12,c_q),(13,(.int .i64 (((ZL W16 q).length:Nat):Int))),(14,(.bool true)),(16,c_q),(17,c1),(18,(.tuple [c2,c3].toArray)),(15,(.tuple [c2,c3].toArray)),(19,c2),(20,c3),(4,c2),(5,c3),(22,c3),(23,(.tuple [(.int .u64 (((q%10000):Nat):Int)),(.bool true)].toArray)),(21,(.tuple [(.int .u64 (((q%10000):Nat):Int)),(.bool true)].toArray)),(24,(.int .u64 (((q%10000):Nat):Int))),(25,(.bool true)),(6,(.int .u64 ((d:Nat):Int))),(8,(.int .i64 ((i:Nat):Int)))]/\Run S w S' [] ww/\(i<=4)/\(d=q%10000/10^i)/\(bl ss2=tl a (mm+i))/\(d<10000)/\m=4-i) (4-0) ⟨S4,0,(q%10000),ss,Sh.le.refl _,(((L27.ri 8 ((0:Nat):Int) rfl).a L27).kp [8,6,25,24,21,23,22,5,4,20,19,15,18,17,16,14,13,12,3,2,0] rfl),R4,(by omega),(by simp),hs,(by omega),rfl⟩ ?_;rintro m_2 ac2 _ ⟨S5,i,d,ss2,l5,L28,R5,hi,hd,hs2,hd2,m2⟩;refine wp_seq<|wA<|sm L28 rfl λ_ L30=>?_;by_cases t3:(i:Int)<(4:Int);refine sO L30 rfl<|cT t3 (Zs rfl rfl)<|Sm rfl<|Sn rfl<|Zd rfl<|Sn rfl<|Zdh rfl underlying44 (h2.up<|l4.trans l5) λ_ L34=>?_;by_cases t4:(0:Int)<(((ZL W16 (q/10000)).length:Nat):Int);refine sN L34 rfl<|cT t4 (ZF rfl rfl)<|Sn rfl<|Zd rfl<|Sf rfl<|Sf rfl<|Sn rfl<|Ze rfl rfl<|So rfl<|Ze rfl rfl<|ST rfl λ_ L40=>wp_skip<|Zc<|wp_seq<|wp_block<|wp_seq ?_;have hsz:ss2.size<=k_a+1:=by rw[<-YK,hs2];exact Nat.le_trans (tl_len _ _) (digs10_len h_a.1)
 have hs1:=ofBl_size1 (48+d%10);exact Za<|sm L40 rfl<|So rfl<|XZ (z:=((d:Int)%(10:Int))) rfl rfl (by omega) (Zb8 (by omega))<|So rfl<|Zy rfl rfl Zav<|So rfl<|Yv (z:=((48:Int)+((d:Int)%(10:Int)))) rfl rfl underlying5 u8i<|So rfl<|Yf (cs:=(u8s [(48+(d%10))]++[])) underlying189 Zeq zero_5 (.cons rfl rfl (by decide) .nil) [[(.int .u8 ((48:Int)+((d:Int)%(10:Int))))]] rfl rfl (by rfl) (by decide) R5 λb1 _ R6=>So rfl<|Zec (ds:=[(48+(d%10))]) rfl underlying189 underlying5 underlying9 (R6.has<|List.Mem.head _) (by rfl)<|Sm rfl<|So rfl<|Qa (z:=((Xb [(48+(d%10))])++ss2)) rfl rfl (by show 1+ss2.size<=9223372036854775807;omega) rfl<|Sa rfl<|SX<|Sm rfl<|So rfl<|XK (z:=((d:Int)/(10:Int))) rfl rfl (by omega) (Za3 (k:=.u64) (by omega) (by omega) (show _<=(18446744073709551615:Int) by omega))<|Sa rfl<|SY<|Sm rfl<|So rfl<|Zy rfl rfl Xd<|Sa rfl λ_ L55=>sn<|⟨4-(i+1),(by omega),S5,(i+1),(d/10),((Xb [(48+(d%10))])++ss2),l5,(((L55.ri 6 (((d/10):Nat):Int) rfl).a ((L55.ri 8 (((i+1):Nat):Int) rfl).a L55)).kp [8,6,25,24,21,23,22,5,4,20,19,15,18,17,16,14,13,12,3,2,0] rfl),(Run.init [] R6),(by omega),(by rw[hd];exact tl_rr),(by rw[bl_append,bl_one (by omega),hs2];first|exact tl_step hv (by omega) hd (Or.inr (by omega))|exact tl_step hv (by omega) hd<|Or.inl<|Nat.pos_of_ne_zero<|Qu (by omega)),(by omega),rfl⟩;refine sN L34 rfl<|cF t4 (ZF rfl rfl)<|Sn rfl<|Zd rfl<|Sn rfl<|Zd rfl λ_ L60=>?_;by_cases t5:(0:Int)<(d:Int);refine sN L60 rfl<|cT t5 (ZF rfl rfl)<|Sn rfl<|Ze rfl rfl<|So rfl<|Ze rfl rfl<|ST rfl λ_ L63=>wp_skip<|Zc<|wp_seq<|wp_block<|wp_seq ?_;have hsz:ss2.size<=k_a+1:=by rw[<-YK,hs2];exact Nat.le_trans (tl_len _ _) (digs10_len h_a.1)
 have hs1:=ofBl_size1 (48+d%10);exact Za<|sm L63 rfl<|So rfl<|XZ (z:=((d:Int)%(10:Int))) rfl rfl (by omega) (Zb8 (by omega))<|So rfl<|Zy rfl rfl Zav<|So rfl<|Yv (z:=((48:Int)+((d:Int)%(10:Int)))) rfl rfl underlying5 u8i<|So rfl<|Yf (cs:=(u8s [(48+(d%10))]++[])) underlying189 Zeq zero_5 (.cons rfl rfl (by decide) .nil) [[(.int .u8 ((48:Int)+((d:Int)%(10:Int))))]] rfl rfl (by rfl) (by decide) R5 λb2 _ R7=>So rfl<|Zec (ds:=[(48+(d%10))]) rfl underlying189 underlying5 underlying9 (R7.has<|List.Mem.head _) (by rfl)<|Sm rfl<|So rfl<|Qa (z:=((Xb [(48+(d%10))])++ss2)) rfl rfl (by show 1+ss2.size<=9223372036854775807;omega) rfl<|Sa rfl<|SX<|Sm rfl<|So rfl<|XK (z:=((d:Int)/(10:Int))) rfl rfl (by omega) (Za3 (k:=.u64) (by omega) (by omega) (show _<=(18446744073709551615:Int) by omega))<|Sa rfl<|SY<|Sm rfl<|So rfl<|Zy rfl rfl Xd<|Sa rfl λ_ L78=>sn<|⟨4-(i+1),(by omega),S5,(i+1),(d/10),((Xb [(48+(d%10))])++ss2),l5,(((L78.ri 6 (((d/10):Nat):Int) rfl).a ((L78.ri 8 (((i+1):Nat):Int) rfl).a L78)).kp [8,6,25,24,21,23,22,5,4,20,19,15,18,17,16,14,13,12,3,2,0] rfl),(Run.init [] R7),(by omega),(by rw[hd];exact tl_rr),(by rw[bl_append,bl_one (by omega),hs2];first|exact tl_step hv (by omega) hd (Or.inr (by omega))|exact tl_step hv (by omega) hd<|Or.inl<|Nat.pos_of_ne_zero<|Qu (by omega)),(by omega),rfl⟩;exact sN L60 rfl<|cF t5 (ZF rfl rfl)<|Sn rfl<|Ze rfl rfl<|So rfl<|Ze rfl rfl<|SF rfl λ_ L83=>wp_exit<|Zo<|Zo<|Yl<|Zc<|Za<|sm L83 rfl<|Sa rfl λ_ L85=>Ya<|Zx<|Zc<|⟨(q/10000),(by have qm:=Qu (n:=q) (by omega);omega),S5,(mm+i),ss2,c2,(q/10000),(l1.trans<|l2.trans<|l3.trans<|l4.trans l5),(L85.kp [3,2,0] rfl),R5,(h2.up<|l4.trans l5),(by first|exact tl_next hv (by omega) (Or.inl (by omega))|exact tl_next hv (by omega)<|Or.inr ⟨Zaq (by omega),by omega⟩),hs2,rfl⟩;exact sO L30 rfl<|cF t3 (Zs rfl rfl)<|Sm rfl<|Sf rfl<|Sf rfl<|Sf rfl<|Sf rfl λ_ L91=>ZY L91 rfl rfl rfl rfl rfl λ_ L92=>ZY L92 rfl rfl rfl rfl rfl<|Sf rfl<|So rfl<|Ze rfl rfl<|kP [0,2,3,12,13,14,16,17,18,15,19,20,4,5,22,23,21,24,25,6,8,26,27,28,36] rfl<|SF rfl λ_ L96=>wp_exit<|Zo<|Zo<|Yl<|Zc<|Za<|sm L96 rfl<|Sa rfl λ_ L98=>Ya<|Zx<|Zc<|⟨(q/10000),(by have qm:=Qu (n:=q) (by omega);omega),S5,(mm+i),ss2,c2,(q/10000),(l1.trans<|l2.trans<|l3.trans<|l4.trans l5),(L98.kp [3,2,0] rfl),R5,(h2.up<|l4.trans l5),(by first|exact tl_next hv (by omega) (Or.inl (by omega))|exact tl_next hv (by omega)<|Or.inr ⟨Zaq (by omega),by omega⟩),hs2,rfl⟩;refine sO L10 rfl<|cF t2 (ZF rfl rfl)<|SF rfl λ_ L99=>wp_exit<|Zo<|Zo<|Yl<|Zc<|wA<|sm L99 rfl<|Sa rfl λ_ L101=>sn<|wp_ret<|rt (L101.kp [2] rfl) (.tmp rfl Res.nil) ?_;exact⟨_,_,rfl,R1.ext,(by exact congrArg Value.string<|bl_inj (by rw[hs,bl_txt];exact tl_done (Qu (by omega)) (by rw[<-hv];exact Zaq (by omega))))⟩
theorem cref01_Parse{S:Sh}{w:World}(hS:ZV S w){s:ByteArray}(hw:wd (bl s))(hlen:s.size<=256):Calls prog 103 [(.string s)].toArray w (Ret S w (λS v=>∃(c0:Value),v=c0/\Gn S c0 (Xw<|bl s) 900)):=by
 refine cbd hS (n:=22) func103 rfl λ_ L0 R0=>?_;have hbs:=YK s;refine wA<|sa L0 rfl<|SW<|Sa rfl<|SVv<|Sa rfl λ_ L3=>sn<|wp_block<|ZJ (λm ac ww=>∃(S':Sh)(i:Nat)(c_vv:Value)(vv:Nat),S.le S'/\ZD ac 22 [(0,(.string s)),(2,(.slice none 0 0)),(3,c_vv),(4,(.int .i64 ((i:Nat):Int)))]/\Run S w S' [] ww/\(Gn S' c_vv vv 900)/\(i<=s.size)/\(vv=Xw ((bl s).take i))/\m=s.size-i) (s.size-0) ⟨S,0,(.slice none 0 0),0,Sh.le.refl _,(((L3.ri 4 ((0:Nat):Int) rfl).a L3).kp [4,3,2,0] rfl),R0,(by exact Gn.nil _ _),(by omega),(by rfl),rfl⟩ ?_;rintro m_1 ac1 _ ⟨_,i,c_vv,vv,l1,L4,R1,h_vv,hi,hv,m1⟩;refine wp_seq<|wA<|sm L4 rfl<|Sm rfl<|So rfl<|Yr rfl underlying9 λ_ L8=>?_;by_cases t1:(i:Int)<((s.size:Nat):Int);refine sO L8 rfl<|cT t1 (Zs rfl rfl)<|ST rfl λ_ L9=>wp_skip<|Zc<|wp_seq<|wp_block ?_;have hdi:=digit_at hw.2.1 (show i<(bl s).length by omega);have L10:=(L9.kp [0,2,3,4,5,6,7,8] rfl);refine Zw (E0:=[]) (H0:=[]) (n:=22) mixed 8 [] (λk=>0) (Zcn [.is c_vv,.sat (λS v=>∃(c0:Value),v=c0/\Gn S c0 10 64) (λ_ _ _ l ⟨c0,e,h0⟩=>⟨c0,e,h0.up l⟩),.sat (λS v=>∃(c0:Value),v=c0/\Gn S c0 (vv*10) (900+64)) (λ_ _ _ l ⟨c0,e,h0⟩=>⟨c0,e,h0.up l⟩),.is (.string s),.is (.int .i64 (i:Int)),.is (.int .u8 (((bl s).getD i 0:Nat):Int)),.is (.int .u8 (((bl s).getD i 0-48:Nat):Int)),.is (.int .u64 (((bl s).getD i 0-48:Nat):Int))]) L10 R1 (by simp) (by simp) (by rfl) (by rfl) (by simp) (ZU ?_) ?_;refine(Am ?_ ?_ ?_ ?_ ?_ ?_ ?_ ?_ trivial);exact dm [] rfl;exact dK [] rfl λA=>Zi rfl Zea (QE A.run.holds (n:=10) (by omega)) λv_1 _ _ x1 v1=>A.post x1.le (A.run.call x1) v1;refine Zb rfl (λ_ _ _ _ _ A3=>?_);obtain⟨_,e2,rfl⟩:=A3.known 0 rfl;obtain⟨c1,e3,_,rfl,h1⟩:=A3.known 1 rfl;exact Cu ((A3.live.add e2).add e3)<|Zi rfl ent_106 (Zf9 A3.run.holds (h_vv.up A3.le) h1 (by omega) (by omega)) λv_2 _ _ x2 v2=>(A3.post x2.le (A3.run.call x2) v2);exact dm [] rfl;exact dm [] rfl;exact dK [3,4] rfl λA=>YO (j:=i) rfl rfl underlying9 (by omega) (by omega)<|A.same rfl;exact dK [5] rfl λA=>ZO (z:=(((bl s).getD i 0-48:Nat):Int)) rfl rfl (u8_to (by omega) (by omega))<|A.same rfl;exact dK [6] rfl λA=>Yv (z:=(((bl s).getD i 0-48:Nat):Int)) rfl rfl underlying29 Zav<|A.same rfl;intro S12 _ _ w12 l4 E1 R4 n1 L19 K1;have L20:=L19.dr K1 [0] rfl;obtain⟨c2,e9,_,rfl,h2⟩:=K1 1 (by decide);have L21:=L20.add e9;clear L20;obtain⟨c3,e10,_,rfl,h3⟩:=K1 2 (by decide);have L22:=L21.add e10;clear L21;have L27:=L22.dr K1 [3,4,5,6,7] rfl;have R5:Run _ _ S12 [] w12:=Yb R4 n1 [] (by simp) (by simp);refine sO L27 rfl<|Zi rfl Zea (QE R5.holds (n:=((bl s).getD i 0-48)) (by omega)) λv_3 _ _ x3 v3=>?_;have R6:=R5.call x3;have l5:=x3.le;obtain⟨c4,e16,h4⟩:=v3;obtain rfl:=e16.symm;intro _ L28;refine sO L28 rfl<|Zi rfl ent_152 (cref01_Add R6.holds (h3.up l5) h4 (by omega) (by omega)) λv_4 S14 _ x4 v4=>?_;have R7:=R6.call x4;have l6:=x4.le;obtain⟨c5,e17,h5⟩:=v4;obtain rfl:=e17.symm;intro _ L29;refine sa L29 rfl<|SY<|Sm rfl<|So rfl<|Zy rfl rfl Xd<|Sa rfl λ_ L33=>sn ?_;have hv9:=Zgh (l:=bl s) (i:=i) (by omega);rw[<-hv,Nat.mul_comm] at hv9;exact⟨s.size-(i+1),(by omega),S14,(i+1),c5,((vv*10)+((bl s).getD i 0-48)),(l1.trans<|l4.trans<|l5.trans l6),(((L33.ri 4 (((i+1):Nat):Int) rfl).a L33).kp [4,3,2,0] rfl),R7,(by exact h5.rek (by rw[<-hv9];exact pval_le (λc hc=>hw.2.1 c<|List.mem_of_mem_take hc) (by rw[List.length_take];omega))),(by omega),hv9.symm,rfl⟩;refine sO L8 rfl<|cF t1 (Zs rfl rfl)<|SF rfl λ_ L35=>wp_exit<|Zo<|Zo<|Yl<|Zc<|wA<|sm L35 rfl<|Sa rfl λ_ L37=>sn<|wp_ret<|rt (L37.kp [2] rfl) (.tmp rfl Res.nil) ?_;exact⟨_,_,rfl,R1.ext,⟨_,rfl,(h_vv.to (by rw[hv,List.take_of_length_le (by omega)]) (by omega))⟩⟩
theorem Zcq:Zgf prog 4=some false:=by kernel_rfl
theorem QG:Zgf prog 34=some true:=by kernel_rfl
theorem YJ:Yy prog 34=some 3:=by kernel_rfl
theorem Zag:XT prog 34=some (.agg ([(.bool false),(.int .u64 (0:Int)),(.slice none 0 0)]:List Value).toArray):=by kernel_rfl
theorem Ys:Zaf prog 34 0=some (0,4,1):=by kernel_rfl
theorem Yx:Zaf prog 34 1=some (1,32,2):=by kernel_rfl
theorem sok_34:Zdx prog 34=true:=by kernel_rfl
theorem ent_76:ZR prog 76=true:=by kernel_rfl
theorem ent_80:ZR prog 80=true:=by kernel_rfl
theorem Zhu:ZR prog 82=true:=by kernel_rfl
theorem ent_85:ZR prog 85=true:=by kernel_rfl
theorem ent_89:ZR prog 89=true:=by kernel_rfl
theorem ent_118:ZR prog 118=true:=by kernel_rfl
theorem ent_137:ZR prog 137=true:=by kernel_rfl
theorem ent_145:ZR prog 145=true:=by kernel_rfl
theorem XG{S:Sh}{w:World}(hS:ZV S w){mi:Bool}{c_a:List Value}{a:Nat}{k_a:Nat}(h_a:Na S c_a a k_a):Calls prog 82 [(.bool mi),(.agg (c_a:List Value).toArray)].toArray w (Ret S w (λS v=>∃(c0:List Value),v= .agg c0.toArray/\In S c0 (sI mi a) k_a)):=by
 refine cbd hS (n:=13) func82 rfl λ_ L0 R0=>?_;have hbz:=@Qw a;obtain rfl|rfl:mi=true\/mi=false:=by cases mi <;> simp
 refine wA<|sO L0 rfl<|ZW (cs:=c_a) rfl R0 rfl λb1 _ _ l1 r1 R1=>So rfl<|ZK (cs:=zI1) Zag R1 rfl λb2 _ R2 _ L2=>sn<|wp_seq ?_;by_cases t1:(0:Int)<((ZC a:Nat):Int);have L3:=(L2.kp [0,3,4] rfl);refine Zw (E0:=[]) (H0:=[(b2,34,zI1)]) (n:=13) mixed 7 [] (λk=>0) (Zcn [.is (.bool true),.is (.bool true),.is (.agg (c_a:List Value).toArray),.is (.int .i64 ((ZC a:Nat):Int)),.is (.bool true),.is (.bool true),.is (.agg (c_a:List Value).toArray)]) L3 R2 (by simp) (by simp) (by rfl) (by rfl) (by simp) (ZU ?_) ?_;refine(An ?_<|Ak ?_ ?_<|Al ?_ ?_ ?_ ?_ trivial);exact dm [] rfl;exact dm [0] rfl;exact dko [] rfl λA=>ZA rfl ZM Zp (A.run.row<|r1.up A.le) h_a.len<|A.same rfl;exact dko [2] rfl λA=>Zi rfl Zgk (YU A.run.holds<|h_a.up<|l1.trans A.le) λv_1 _ _ x1 v1=>(A.post x1.le (A.run.call x1) v1);exact dko [3] rfl λA=>cB (b:=true) (decide_eq_true t1) (ZF rfl rfl)<|A.same rfl;exact dK [1,4] rfl λA=>Ze rfl rfl<|A.same rfl;exact dK [] rfl λA=>ZA rfl ZM Zp (A.run.row<|r1.up A.le) h_a.len<|A.same rfl;intro S10 _ _ w11 l3 E1 R4 n1 L11 K1;have L13:=L11.dr K1 [5,6] rfl;have R5:Run _ _ S10 [(b2,34,zI1)] w11:=Yb R4 n1 [] (by simp) (by simp);have h1:In S10 ([(.bool true)]++c_a) (sI true a) (k_a):=In.mk (h_a.up<|l1.trans l3) (by rfl) (by intro e;exfalso;omega);obtain⟨c1,e8⟩:∃cs:List Value,([(.bool true)]++c_a)=cs:=⟨_,rfl⟩;rw[e8] at h1;exact sO L13 rfl<|ZH (cs:=c1) Zag sok_34 (.cons rfl Ys rfl (by decide) (.cons rfl Yx h_a.len (by decide) .nil)) (by exact Zh2 [[(.bool true)],c_a] (by simp[Zaa,Value.cells,h_a.len]) (by simp[Value.cells,h_a.len]) (by rw[<-e8];simp))<|Sz rfl<|Zm rfl rfl R5 YJ h1.len rfl h1.ones λ_ R6 _ L15=>sn<|wp_ret<|rt (L15.kp [4] rfl) (Res.aggW rfl QG YJ (R6.has<|List.Mem.head _) h1.len Res.nil)<|⟨_,_,rfl,R6.ext,⟨_,rfl,(h1.to (by rfl) (by omega))⟩⟩;have L17:=(L2.kp [0,3,4] rfl);refine Zw (E0:=[]) (H0:=[(b2,34,zI1)]) (n:=13) mixed 7 [] (λk=>0) (Zcn [.is (.bool true),.is (.bool true),.is (.agg (c_a:List Value).toArray),.is (.int .i64 ((ZC a:Nat):Int)),.is (.bool false),.is (.bool false),.is (.agg (c_a:List Value).toArray)]) L17 R2 (by simp) (by simp) (by rfl) (by rfl) (by simp) (ZU ?_) ?_;refine(An ?_<|Ak ?_ ?_<|Al ?_ ?_ ?_ ?_ trivial);exact dm [] rfl;exact dm [0] rfl;exact dko [] rfl λA=>ZA rfl ZM Zp (A.run.row<|r1.up A.le) h_a.len<|A.same rfl;exact dko [2] rfl λA=>Zi rfl Zgk (YU A.run.holds<|h_a.up<|l1.trans A.le) λv_2 _ _ x2 v2=>(A.post x2.le (A.run.call x2) v2);exact dko [3] rfl λA=>cB (b:=false) (decide_eq_false t1) (ZF rfl rfl)<|A.same rfl;exact dK [1,4] rfl λA=>Ze rfl rfl<|A.same rfl;exact dK [] rfl λA=>ZA rfl ZM Zp (A.run.row<|r1.up A.le) h_a.len<|A.same rfl;intro S19 _ _ w21 l5 E2 R8 n2 L25 K2;have L27:=L25.dr K2 [5,6] rfl;have R9:Run _ _ S19 [(b2,34,zI1)] w21:=Yb R8 n2 [] (by simp) (by simp);have h2:In S19 ([(.bool false)]++c_a) (sI true a) (k_a):=In.mk (h_a.up<|l1.trans l5) (by(have e:a=0:=by omega);subst e;rfl) (by intro _;rfl);obtain⟨c2,e16⟩:∃cs:List Value,([(.bool false)]++c_a)=cs:=⟨_,rfl⟩;rw[e16] at h2;exact sO L27 rfl<|ZH (cs:=c2) Zag sok_34 (.cons rfl Ys rfl (by decide) (.cons rfl Yx h_a.len (by decide) .nil)) (by exact Zh2 [[(.bool false)],c_a] (by simp[Zaa,Value.cells,h_a.len]) (by simp[Value.cells,h_a.len]) (by rw[<-e16];simp))<|Sz rfl<|Zm rfl rfl R9 YJ h2.len rfl h2.ones λ_ R10 _ L29=>sn<|wp_ret<|rt (L29.kp [4] rfl) (Res.aggW rfl QG YJ (R10.has<|List.Mem.head _) h2.len Res.nil)<|⟨_,_,rfl,R10.ext,⟨_,rfl,(h2.to (by rfl) (by omega))⟩⟩;refine wA<|sO L0 rfl<|ZW (cs:=c_a) rfl R0 rfl λb3 _ _ l6 r2 R11=>So rfl<|ZK (cs:=zI1) Zag R11 rfl λb4 _ R12 _ L32=>sn<|wp_seq ?_;have L33:=(L32.kp [0,3,4] rfl);refine Zw (E0:=[]) (H0:=[(b4,34,zI1)]) (n:=13) mixed 7 [] (λk=>0) (Zcn [.is (.bool false),.is (.bool false),.is undef,.is undef,.is undef,.is (.bool false),.is (.agg (c_a:List Value).toArray)]) L33 R12 (by simp) (by simp) (by rfl) (by rfl) (by simp) (ZU ?_) ?_;refine(An ?_<|Ak ?_ ?_<|Al ?_ ?_ ?_ ?_ trivial);exact dm [] rfl;exact dm [0] rfl;exact step_off rfl rfl rfl rfl rfl rfl;exact step_off rfl rfl rfl rfl rfl rfl;exact step_off rfl rfl rfl rfl rfl rfl;exact dK [1,4] rfl λA=>Ze rfl rfl<|A.same rfl;exact dK [] rfl λA=>ZA rfl ZM Zp (A.run.row<|r2.up A.le) h_a.len<|A.same rfl;intro S25 _ _ w29 l7 E3 R13 n3 L38 K3;have L40:=L38.dr K3 [5,6] rfl;have R14:Run _ _ S25 [(b4,34,zI1)] w29:=Yb R13 n3 [] (by simp) (by simp);have h3:In S25 ([(.bool false)]++c_a) (sI false a) (k_a):=In.mk (h_a.up<|l6.trans l7) (by rfl) (by intro _;rfl);obtain⟨c3,e22⟩:∃cs:List Value,([(.bool false)]++c_a)=cs:=⟨_,rfl⟩;rw[e22] at h3;exact sO L40 rfl<|ZH (cs:=c3) Zag sok_34 (.cons rfl Ys rfl (by decide) (.cons rfl Yx h_a.len (by decide) .nil)) (by exact Zh2 [[(.bool false)],c_a] (by simp[Zaa,Value.cells,h_a.len]) (by simp[Value.cells,h_a.len]) (by rw[<-e22];simp))<|Sz rfl<|Zm rfl rfl R14 YJ h3.len rfl h3.ones λ_ R15 _ L42=>sn<|wp_ret<|rt (L42.kp [4] rfl) (Res.aggW rfl QG YJ (R15.has<|List.Mem.head _) h3.len Res.nil)<|⟨_,_,rfl,R15.ext,⟨_,rfl,(h3.to (by rfl) (by omega))⟩⟩
theorem whole_Of{S:Sh}{w:World}(hS:ZV S w){n:Int}(hn1: -9223372036854775808<=n)(hn2:n<=9223372036854775807):Calls prog 90 [(.int .i64 n)].toArray w (Ret S w (λS v=>∃(c0:List Value),v= .agg c0.toArray/\In S c0 n 64)):=by
 refine cbd hS (n:=14) func90 rfl λ_ L0 R0=>wA<|sO L0 rfl<|ZK (cs:=zI1) Zag R0 rfl λb1 _ R1=>SVv<|Sm rfl λ_ L2=>?_;by_cases t1:n<(0:Int);refine sO L2 rfl<|cT t1 (Zs rfl rfl)<|ST rfl<|WA<|Sm rfl<|So rfl<|Yv (z:=(n+18446744073709551616)) rfl rfl underlying29 (u64_wrap_neg (by omega) (by omega))<|So rfl<|does_neg (z:=((n.natAbs:Nat):Int)) rfl (u64_wrap_neg2 (by omega) (by omega))<|So rfl<|Zi rfl ent_76 (nat_Of R1.holds (n:=n.natAbs) (by omega)) λv_1 S1 _ x1 v1=>?_;have R2:=R1.call x1;obtain⟨c1,rfl,h1⟩:=v1;intro _ L7;have h2:In S1 ([(.bool true)]++c1) n (64):=In.mk (neg:=true) h1 (by show n= -((n.natAbs:Nat):Int);omega) (by intro e;exfalso;omega);obtain⟨c2,e1⟩:∃cs:List Value,([(.bool true)]++c1)=cs:=⟨_,rfl⟩;rw[e1] at h2;exact sO L7 rfl<|ZH (cs:=c2) Zag sok_34 (.cons rfl Ys rfl (by decide) (.cons rfl Yx h1.len (by decide) .nil)) (by exact Zh2 [[(.bool true)],c1] (by simp[Zaa,Value.cells,h1.len]) (by simp[Value.cells,h1.len]) (by rw[<-e1];simp))<|Sz rfl<|Zm rfl rfl R2 YJ h2.len rfl h2.ones λ_ R3 _ L9=>sn<|wp_ret<|Zt<|rt (L9.kp [0,2] rfl) (Res.aggW rfl QG YJ (R3.has<|List.Mem.head _) h2.len Res.nil)<|⟨_,_,rfl,R3.ext,⟨_,rfl,(h2.to rfl (by omega))⟩⟩;refine sO L2 rfl<|cF t1 (Zs rfl rfl)<|SF rfl λ_ L11=>wp_skip<|Zc<|wA<|sm L11 rfl<|So rfl<|Yv (z:=((n.natAbs:Nat):Int)) rfl rfl underlying29 (u64_to (by omega) (by omega))<|So rfl<|Zi rfl ent_76 (nat_Of R1.holds (n:=n.natAbs) (by omega)) λv_2 S2 _ x2 v2=>?_;have R4:=R1.call x2;obtain⟨c3,rfl,h3⟩:=v2;intro _ L14;have h4:In S2 ([(.bool false)]++c3) n (64):=In.mk (neg:=false) h3 (by show n=((n.natAbs:Nat):Int);omega) (by intro _;rfl);obtain⟨c4,e2⟩:∃cs:List Value,([(.bool false)]++c3)=cs:=⟨_,rfl⟩;rw[e2] at h4;exact sO L14 rfl<|ZH (cs:=c4) Zag sok_34 (.cons rfl Yx h3.len (by decide) .nil) (by rw[<-e2];simp[QU,Xv,Value.cells,h3.len])<|Sz rfl<|Zm rfl rfl R4 YJ h4.len rfl h4.ones λ_ R5 _ L16=>sn<|wp_ret<|rt (L16.kp [2] rfl) (Res.aggW rfl QG YJ (R5.has<|List.Mem.head _) h4.len Res.nil)<|⟨_,_,rfl,R5.ext,⟨_,rfl,(h4.to rfl (by omega))⟩⟩
theorem Zau{S:Sh}{w:World}(hS:ZV S w){c_a:List Value}{a:Int}{k_a:Nat}(h_a:In S c_a a k_a):Calls prog 84 [(.agg (c_a:List Value).toArray)].toArray w (Ret S w (λS v=>v= .int .i64 (Yu a))):=by
 refine cbd hS (n:=11) func84 rfl λ_ L0 R0=>?_;have hbz:=@Qw a.natAbs;refine wA<|sO L0 rfl<|ZW (cs:=c_a) rfl R0 rfl λb1 _ _ l1 r1 R1=>Sa rfl λ_ L2=>sn<|wp_seq<|wp_block<|wA<|sO L2 rfl<|Zg (off':=1) rfl Yx rfl λ_ L3=>?_;obtain⟨c1,e1,h1⟩:=(h_a.up l1).abs;refine sO L3 rfl<|ZQ rfl ZM Zp (R1.row r1) e1 h1.len<|So rfl<|Zi rfl Zgk (YU R1.holds h1) λv_1 _ _ x1 v1=>?_;have R2:=R1.call x1;have l2:=x1.le;obtain rfl:=v1;intro _ L5;by_cases t1:((ZC a.natAbs:Nat):Int)=(0:Int);exact sO L5 rfl<|cT t1 (ZP rfl rfl)<|Sa rfl<|kP [1,2,3] rfl<|ST rfl<|WA<|Sa rfl λ_ L9=>sn<|wp_ret<|YE<|Zt<|rt L9 (.tmp rfl Res.nil)<|⟨_,_,rfl,R2.ext,(by exact Zdb (by rw[show a=0 by omega];rfl))⟩;refine sO L5 rfl<|cF t1 (ZP rfl rfl)<|Sa rfl<|kP [1,2,3] rfl<|SF rfl<|WA<|So rfl<|Zg (off':=0) rfl Ys rfl<|So rfl<|Zk rfl Zcq (R2.row<|r1.up l2) h_a.sign<|Sa rfl λ_ L15=>sn ?_;by_cases t2:a<0;exact Zl L15 rfl (decide_eq_true t2)<|wA<|sa L15 rfl λ_ L16=>sn<|wp_ret<|YE<|Zt<|rt (L16.kp [2] rfl) (.tmp rfl Res.nil)<|⟨_,_,rfl,R2.ext,(by exact Zdb (by unfold Yu;rw[if_neg (by omega),if_pos (by assumption)]))⟩;exact Zh L15 rfl (decide_eq_false t2)<|wp_skip<|Zx<|Zc<|wA<|sa L15 rfl λ_ L18=>sn<|wp_ret<|rt (L18.kp [2] rfl) (.tmp rfl Res.nil)<|⟨_,_,rfl,R2.ext,(by exact Zdb (by unfold Yu;rw[if_neg (by omega),if_neg (by assumption)]))⟩
theorem Zdr{S:Sh}{w:World}(hS:ZV S w){c_a:List Value}{a:Int}{k_a:Nat}(h_a:In S c_a a k_a):Calls prog 113 [(.agg (c_a:List Value).toArray)].toArray w (Ret S w (λS v=>∃(c0:List Value),v= .agg c0.toArray/\Na S c0 a.natAbs k_a)):=by
 refine cbd hS (n:=5) func113 rfl λ_ L0 R0=>wA<|sO L0 rfl<|ZW (cs:=c_a) rfl R0 rfl λb1 _ _ l1 r1 R1=>So rfl<|ZK (cs:=zN1) ZZ R1 rfl λb2 _ R2=>SW<|So rfl<|Zg (off':=1) rfl Yx rfl λ_ L3=>?_;obtain⟨c1,e1,h1⟩:=(h_a.up l1).abs;exact sO L3 rfl<|ZQ rfl ZM Zp (R2.row r1) e1 h1.len<|Sz rfl<|Zm rfl rfl R2 Zp h1.len rfl h1.ones λ_ R3 _ L5=>sn<|wp_ret<|rt L5 (Res.aggW rfl ZM Zp (R3.has<|List.Mem.head _) h1.len Res.nil)<|⟨_,_,rfl,R3.ext,⟨_,rfl,(h1.to rfl (by omega))⟩⟩
theorem whole_Neg{S:Sh}{w:World}(hS:ZV S w){c_a:List Value}{a:Int}{k_a:Nat}(h_a:In S c_a a k_a):Calls prog 85 [(.agg (c_a:List Value).toArray)].toArray w (Ret S w (λS v=>∃(c0:List Value),v= .agg c0.toArray/\In S c0 (-a) k_a)):=by
 refine cbd hS (n:=9) func85 rfl λ_ L0 R0=>wA<|sO L0 rfl<|ZW (cs:=c_a) rfl R0 rfl λb1 _ _ l1 r1 R1=>So rfl<|ZK (cs:=zI1) Zag R1 rfl λb2 _ R2=>SW<|So rfl<|Zg (off':=0) rfl Ys rfl<|So rfl<|Zk rfl Zcq (R2.row r1) h_a.sign<|So rfl<|YM rfl rfl<|So rfl<|Zg (off':=1) rfl Yx rfl λ_ L6=>?_;obtain⟨c1,e1,h1⟩:=(h_a.up l1).abs;refine sO L6 rfl<|ZQ rfl ZM Zp (R2.row r1) e1 h1.len<|So rfl<|Zi rfl Zhu (XG R2.holds (mi:=(!(decide (a<0)))) h1) λv_1 _ _ x1 v1=>?_;have R3:=R2.call x1;obtain⟨c2,rfl,h2⟩:=v1;intro _ L8;exact sZ L8 rfl<|Zm rfl rfl R3 YJ h2.len rfl h2.ones λ_ R4 _ L9=>(sn<|wp_ret<|rt (L9.kp [2] rfl) (Res.aggW rfl QG YJ (R4.has<|List.Mem.head _) h2.len Res.nil)<|⟨_,_,rfl,R4.ext,⟨_,rfl,(h2.to neg_sI (by omega))⟩⟩)
theorem whole_Add{S:Sh}{w:World}(hS:ZV S w){c_a:List Value}{a:Int}{k_a:Nat}(h_a:In S c_a a k_a){c_b:List Value}{b:Int}{k_b:Nat}(h_b:In S c_b b k_b)(hlim:k_a<=1099511000000)(hlim2:k_b<=1099511000000):Calls prog 89 [(.agg (c_a:List Value).toArray),(.agg (c_b:List Value).toArray)].toArray w (Ret S w (λS v=>∃(c0:List Value),v= .agg c0.toArray/\In S c0 (a+b) (k_a+k_b+1))):=by
 refine cbd hS (n:=40) func89 rfl λ_ L0 R0=>?_;have hcmp:=@cmpN_neg a.natAbs b.natAbs;refine wA<|sO L0 rfl<|Zhz (cs:=c_a) rfl R0 rfl λb1 _ R1=>So rfl<|Zhz (cs:=c_b) rfl R1 rfl λb2 _ R2=>So rfl<|ZK (cs:=zI1) Zag R2 rfl λb3 _ R3=>SVv<|So rfl<|Zg (off':=0) rfl Ys rfl<|So rfl<|Zk rfl Zcq (R3.has<|List.Mem.tail _<|List.Mem.tail _<|List.Mem.head _) h_a.sign<|So rfl<|Zg (off':=0) rfl Ys rfl<|So rfl<|Zk rfl Zcq (R3.has<|List.Mem.tail _<|List.Mem.head _) h_b.sign<|So rfl<|does_eqlB rfl rfl underlying4<|kP [2,3,4,11] rfl λ_ L9=>sn ?_;by_cases t1:(decide (a<0))=(decide (b<0));refine Zl L9 rfl (decide_eq_true t1)<|wp_seq ?_;have L10:=(L9.kp [2,3,4] rfl);refine Zw (E0:=[]) (H0:=[(b3,34,zI1),(b2,34,c_b),(b1,34,c_a)]) (n:=40) mixed 7 [] (λk=>0) (Zcn [.is (.pointer (some ⟨b1,0,none⟩)),.is (.bool (decide (a<0))),.is (.pointer (some ⟨b1,1,none⟩)),(kvNa a.natAbs k_a),.is (.pointer (some ⟨b2,1,none⟩)),(kvNa b.natAbs k_b),(kvNa (a.natAbs+b.natAbs) (k_a+k_b+1))]) L10 R3 (by simp) (by simp) (by rfl) (by rfl) (by simp) (ZU ?_) ?_;refine(An ?_<|Ak ?_ ?_<|Al ?_ ?_ ?_ ?_ trivial);exact dK [] rfl λA=>Zg (off':=0) rfl Ys rfl<|A.same rfl;exact dK [0] rfl λA=>Zk rfl Zcq (A.run.has<|List.mem_append_right _<|List.Mem.tail _<|List.Mem.tail _<|List.Mem.head _) h_a.sign<|A.same rfl;exact dK [] rfl λA=>Zg (off':=1) rfl Yx rfl<|A.same rfl;refine Zb rfl (λ_ _ _ _ _ A4=>?_);obtain⟨_,e2,rfl⟩:=A4.known 2 rfl;obtain⟨c1,e3,h1⟩:=(h_a.up A4.le).abs;exact Cu (A4.live.add e2)<|ZQ rfl ZM Zp (A4.run.has<|List.mem_append_right _<|List.Mem.tail _<|List.Mem.tail _<|List.Mem.head _) e3 h1.len<|A4.same ⟨_,rfl,h1⟩;exact dK [] rfl λA=>Zg (off':=1) rfl Yx rfl<|A.same rfl;refine Zb rfl (λ_ _ _ _ _ A6=>?_);obtain⟨_,e4,rfl⟩:=A6.known 4 rfl;obtain⟨c2,e5,h2⟩:=(h_b.up A6.le).abs;exact Cu (A6.live.add e4)<|ZQ rfl ZM Zp (A6.run.has<|List.mem_append_right _<|List.Mem.tail _<|List.Mem.head _) e5 h2.len<|A6.same ⟨_,rfl,h2⟩;refine Zb rfl (λ_ _ _ _ _ A7=>?_);obtain⟨_,e6,c3,rfl,h3⟩:=A7.known 3 rfl;obtain⟨_,e7,c4,rfl,h4⟩:=A7.known 5 rfl;exact Cu ((A7.live.add e6).add e7)<|Zi rfl ent_137 (nat_Add A7.run.holds h3 h4 (by omega) (by omega)) λv_1 _ _ x1 v1=>(A7.post x1.le (A7.run.call x1) v1);intro S9 _ _ w12 l2 E1 R5 n1 L18 K1;have L19:=L18.dr K1 [1] rfl;obtain⟨_,e9,c5,rfl,h5⟩:=K1 6 (by decide);have L20:=L19.add e9;clear L19;have R6:Run _ _ S9 [(b3,34,zI1),(b2,34,c_b),(b1,34,c_a)] w12:=Yb R5 n1 [] (by simp) (by simp);refine sO L20 rfl<|Zi rfl Zhu (XG R6.holds (mi:=(decide (a<0))) h5) λv_2 _ _ x2 v2=>?_;have R7:=R6.call x2;obtain⟨c6,rfl,h6⟩:=v2;intro _ L21;exact sZ L21 rfl<|Zm rfl rfl R7 YJ h6.len rfl h6.ones λ_ R8 _ L22=>(sn<|wp_ret<|Zt<|rt L22 (Res.aggW rfl QG YJ (R8.has<|List.Mem.head _) h6.len Res.nil)<|⟨_,_,rfl,R8.ext,⟨_,rfl,(h6.to (by exact add_sI (by assumption)) (by omega))⟩⟩);refine Zh L9 rfl (decide_eq_false t1)<|wp_skip<|Zc<|wp_seq<|wA<|sO L9 rfl<|Zg (off':=1) rfl Yx rfl λ_ L23=>?_;obtain⟨c7,e10,h7⟩:=h_a.abs;refine sO L23 rfl<|ZQ rfl ZM Zp (R3.has<|List.Mem.tail _<|List.Mem.tail _<|List.Mem.head _) e10 h7.len<|So rfl<|Zg (off':=1) rfl Yx rfl λ_ L25=>?_;obtain⟨c8,e11,h8⟩:=h_b.abs;refine sO L25 rfl<|ZQ rfl ZM Zp (R3.has<|List.Mem.tail _<|List.Mem.head _) e11 h8.len<|So rfl<|Zi rfl ent_133 (nat_Cmp R3.holds h7 h8) λv_3 _ _ x3 v3=>?_;have R9:=R3.call x3;have l4:=x3.le;obtain rfl:=v3;intro _ L27;by_cases t2:(Zcy a.natAbs b.natAbs)<(0:Int);refine sO L27 rfl<|cT t2 (Zs rfl rfl)<|kP [2,3,4,25] rfl<|ST rfl λ_ L29=>Za<|sO L29 rfl<|ZA rfl QG YJ (R9.has<|List.Mem.tail _<|List.Mem.head _) h_b.len<|So rfl<|ZA rfl QG YJ (R9.has<|List.Mem.tail _<|List.Mem.tail _<|List.Mem.head _) h_a.len<|Sz rfl<|Zm rfl rfl (XO R9) YJ h_b.len h_a.len h_b.ones λ_ R10=>Sz rfl<|Zm rfl rfl (XO R10) YJ h_a.len h_b.len h_a.ones λ_ R11=>SW<|So rfl<|Zg (off':=1) rfl Yx rfl λ_ L34=>?_;obtain⟨c9,e12,h9⟩:=(h_b.up l4).abs;refine sO L34 rfl<|ZQ rfl ZM Zp (R11.has<|List.Mem.tail _<|List.Mem.head _) e12 h9.len<|So rfl<|Zg (off':=1) rfl Yx rfl λ_ L36=>?_;obtain⟨c10,e13,h10⟩:=(h_a.up l4).abs;refine sO L36 rfl<|ZQ rfl ZM Zp (R11.has<|List.Mem.head _) e13 h10.len<|So rfl<|Zi rfl ent_145 (nat_Sub R11.holds h9 h10 (by omega)) λv_4 _ _ x4 v4=>?_;have R12:=R11.call x4;rcases v4 with⟨t3,c11,rfl,h11⟩|⟨t4,c12,rfl,h12⟩;omega;intro _ L38;refine sm L38 rfl<|So rfl<|Zj rfl rfl<|So rfl<|Zj rfl rfl<|So rfl<|ZK (cs:=zN1) ZZ R12 rfl λb4 _ R13=>Sz rfl<|Zm rfl rfl R13 Zp h12.len rfl h12.ones λ_ R14=>Sa rfl<|kP [2,4,5] rfl<|SW<|So rfl<|Zg (off':=0) rfl Ys rfl<|So rfl<|Zk rfl Zcq (R14.has<|List.Mem.tail _<|List.Mem.tail _<|List.Mem.head _) h_b.sign<|So rfl<|ZA rfl ZM Zp (R14.has<|List.Mem.head _) h12.len<|So rfl<|Zi rfl Zhu (XG R14.holds (mi:=(decide (b<0))) h12) λv_5 _ _ x5 v5=>?_;have R15:=R14.call x5;obtain⟨c13,rfl,h13⟩:=v5;intro _ L49;exact sZ L49 rfl<|Zm rfl rfl (Zdd R15) YJ h13.len rfl h13.ones λ_ R16 _ L50=>(sn<|wp_ret<|rt (L50.kp [4] rfl) (Res.aggW rfl QG YJ (R16.has<|List.Mem.head _) h13.len Res.nil)<|⟨_,_,rfl,R16.ext,⟨_,rfl,(h13.to (by first|exact dif_sI (by assumption) (by omega)|(rw[Int.add_comm a b];exact dif_sI (λq=>absurd q.symm (by assumption)) (by omega))) (by omega))⟩⟩);refine sO L27 rfl<|cF t2 (Zs rfl rfl)<|kP [2,3,4,25] rfl<|SF rfl λ_ L53=>wp_skip<|Zc<|wA<|sO L53 rfl<|Zg (off':=1) rfl Yx rfl λ_ L54=>?_;obtain⟨c14,e14,h14⟩:=(h_a.up l4).abs;refine sO L54 rfl<|ZQ rfl ZM Zp (R9.has<|List.Mem.tail _<|List.Mem.tail _<|List.Mem.head _) e14 h14.len<|So rfl<|Zg (off':=1) rfl Yx rfl λ_ L56=>?_;obtain⟨c15,e15,h15⟩:=(h_b.up l4).abs;refine sO L56 rfl<|ZQ rfl ZM Zp (R9.has<|List.Mem.tail _<|List.Mem.head _) e15 h15.len<|So rfl<|Zi rfl ent_145 (nat_Sub R9.holds h14 h15 (by omega)) λv_6 _ _ x6 v6=>?_;have R17:=R9.call x6;rcases v6 with⟨t5,c16,rfl,h16⟩|⟨t6,c17,rfl,h17⟩;omega;intro _ L58;refine sm L58 rfl<|So rfl<|Zj rfl rfl<|So rfl<|Zj rfl rfl<|So rfl<|ZK (cs:=zN1) ZZ R17 rfl λb5 _ R18=>Sz rfl<|Zm rfl rfl R18 Zp h17.len rfl h17.ones λ_ R19=>Sa rfl<|kP [2,4,5] rfl<|SW<|So rfl<|Zg (off':=0) rfl Ys rfl<|So rfl<|Zk rfl Zcq (R19.has<|List.Mem.tail _<|List.Mem.tail _<|List.Mem.tail _<|List.Mem.head _) h_a.sign<|So rfl<|ZA rfl ZM Zp (R19.has<|List.Mem.head _) h17.len<|So rfl<|Zi rfl Zhu (XG R19.holds (mi:=(decide (a<0))) h17) λv_7 _ _ x7 v7=>?_;have R20:=R19.call x7;obtain⟨c18,rfl,h18⟩:=v7;intro _ L69;exact sZ L69 rfl<|Zm rfl rfl (Yd R20) YJ h18.len rfl h18.ones λ_ R21 _ L70=>(sn<|wp_ret<|rt (L70.kp [4] rfl) (Res.aggW rfl QG YJ (R21.has<|List.Mem.head _) h18.len Res.nil)<|⟨_,_,rfl,R21.ext,⟨_,rfl,(h18.to (by first|exact dif_sI (by assumption) (by omega)|(rw[Int.add_comm a b];exact dif_sI (λq=>absurd q.symm (by assumption)) (by omega))) (by omega))⟩⟩)
theorem whole_Sub{S:Sh}{w:World}(hS:ZV S w){c_a:List Value}{a:Int}{k_a:Nat}(h_a:In S c_a a k_a){c_b:List Value}{b:Int}{k_b:Nat}(h_b:In S c_b b k_b)(hlim:k_a<=1099511000000)(hlim2:k_b<=1099511000000):Calls prog 146 [(.agg (c_a:List Value).toArray),(.agg (c_b:List Value).toArray)].toArray w (Ret S w (λS v=>∃(c0:List Value),v= .agg c0.toArray/\In S c0 (a-b) (k_a+k_b+1))):=by
 refine cbd hS (n:=9) func146 rfl λ_ L0 R0=>wA<|sO L0 rfl<|ZW (cs:=c_a) rfl R0 rfl λb1 _ _ l1 r1 R1=>So rfl<|ZW (cs:=c_b) rfl R1 rfl λb2 _ _ l2 r2 R2=>So rfl<|ZK (cs:=zI1) Zag R2 rfl λb3 _ R3 _ L3=>sn<|wp_seq ?_;have L4:=(L3.kp [2,3,4] rfl);refine Zw (E0:=[]) (H0:=[(b3,34,zI1)]) (n:=9) mixed 3 [] (λk=>0) (Zcn [.is (.agg (c_a:List Value).toArray),.is (.agg (c_b:List Value).toArray),(kvIn (-b) k_b)]) L4 R3 (by simp) (by simp) (by rfl) (by rfl) (by simp) (ZU ?_) ?_;refine(An ?_<|Ak ?_ ?_ trivial);exact dK [] rfl λA=>ZA rfl QG YJ (A.run.row<|r1.up<|l2.trans A.le) h_a.len<|A.same rfl;exact dK [] rfl λA=>ZA rfl QG YJ (A.run.row<|r2.up A.le) h_b.len<|A.same rfl;exact dK [1] rfl λA=>Zi rfl ent_85 (whole_Neg A.run.holds<|h_b.up<|l1.trans<|l2.trans A.le) λv_1 _ _ x1 v1=>(A.post x1.le (A.run.call x1) v1);intro S7 _ _ w8 l4 E1 R5 n1 L8 K1;have L9:=L8.dr K1 [0] rfl;obtain⟨_,e3,c1,rfl,h1⟩:=K1 2 (by decide);have L10:=L9.add e3;clear L9;have R6:Run _ _ S7 [(b3,34,zI1)] w8:=Yb R5 n1 [] (by simp) (by simp);refine sO L10 rfl<|Zi rfl ent_89 (whole_Add R6.holds (h_a.up<|l1.trans<|l2.trans l4) h1 (by omega) (by omega)) λv_2 _ _ x2 v2=>?_;have R7:=R6.call x2;obtain⟨c2,rfl,h2⟩:=v2;intro _ L11;exact sZ L11 rfl<|Zm rfl rfl R7 YJ h2.len rfl h2.ones λ_ R8 _ L12=>(sn<|wp_ret<|rt (L12.kp [4] rfl) (Res.aggW rfl QG YJ (R8.has<|List.Mem.head _) h2.len Res.nil)<|⟨_,_,rfl,R8.ext,⟨_,rfl,(h2.to (by omega) (by omega))⟩⟩)
theorem whole_Mul{S:Sh}{w:World}(hS:ZV S w){c_a:List Value}{a:Int}{k_a:Nat}(h_a:In S c_a a k_a){c_b:List Value}{b:Int}{k_b:Nat}(h_b:In S c_b b k_b)(hlim:k_a<=1099511000000)(hlim2:k_b<=1099511000000):Calls prog 81 [(.agg (c_a:List Value).toArray),(.agg (c_b:List Value).toArray)].toArray w (Ret S w (λS v=>∃(c0:List Value),v= .agg c0.toArray/\In S c0 (a*b) (k_a+k_b))):=by
 refine cbd hS (n:=16) func81 rfl λ_ L0 R0=>wA<|sO L0 rfl<|ZW (cs:=c_a) rfl R0 rfl λb1 _ _ l1 r1 R1=>So rfl<|ZW (cs:=c_b) rfl R1 rfl λb2 _ _ l2 r2 R2=>So rfl<|ZK (cs:=zI1) Zag R2 rfl λb3 _ R3 _ L3=>sn<|wp_seq ?_;have L4:=(L3.kp [2,3,4] rfl);refine Zw (E0:=[]) (H0:=[(b3,34,zI1)]) (n:=16) mixed 10 [] (λk=>0) (Zcn [.is (.pointer (some ⟨b1,0,none⟩)),.is (.bool (decide (a<0))),.is (.pointer (some ⟨b2,0,none⟩)),.is (.bool (decide (b<0))),.is (.bool (decide (¬(decide (a<0))=(decide (b<0))))),.is (.pointer (some ⟨b1,1,none⟩)),(kvNa a.natAbs k_a),.is (.pointer (some ⟨b2,1,none⟩)),(kvNa b.natAbs k_b),(kvNa (a.natAbs*b.natAbs) (k_a+k_b))]) L4 R3 (by simp) (by simp) (by rfl) (by rfl) (by simp) (ZU ?_) ?_;refine(Ak ?_ ?_<|Am ?_ ?_ ?_ ?_ ?_ ?_ ?_ ?_ trivial);exact dK [] rfl λA=>Zg (off':=0) rfl Ys rfl<|A.same rfl;exact dK [0] rfl λA=>Zk rfl Zcq (A.run.row<|r1.up<|l2.trans A.le) h_a.sign<|A.same rfl;exact dK [] rfl λA=>Zg (off':=0) rfl Ys rfl<|A.same rfl;exact dK [2] rfl λA=>Zk rfl Zcq (A.run.row<|r2.up A.le) h_b.sign<|A.same rfl;exact dK [1,3] rfl λA=>does_neqB rfl rfl underlying4<|A.same rfl;exact dK [] rfl λA=>Zg (off':=1) rfl Yx rfl<|A.same rfl;refine Zb rfl (λ_ _ _ _ _ A7=>?_);obtain⟨_,e5,rfl⟩:=A7.known 5 rfl;obtain⟨c1,e6,h1⟩:=(h_a.up<|l1.trans<|l2.trans A7.le).abs;exact Cu (A7.live.add e5)<|ZQ rfl ZM Zp (A7.run.row<|r1.up<|l2.trans A7.le) e6 h1.len<|A7.same ⟨_,rfl,h1⟩;exact dK [] rfl λA=>Zg (off':=1) rfl Yx rfl<|A.same rfl;refine Zb rfl (λ_ _ _ _ _ A9=>?_);obtain⟨_,e7,rfl⟩:=A9.known 7 rfl;obtain⟨c2,e8,h2⟩:=(h_b.up<|l1.trans<|l2.trans A9.le).abs;exact Cu (A9.live.add e7)<|ZQ rfl ZM Zp (A9.run.row<|r2.up A9.le) e8 h2.len<|A9.same ⟨_,rfl,h2⟩;refine Zb rfl (λ_ _ _ _ _ A10=>?_);obtain⟨_,e9,c3,rfl,h3⟩:=A10.known 6 rfl;obtain⟨_,e10,c4,rfl,h4⟩:=A10.known 8 rfl;exact Cu ((A10.live.add e9).add e10)<|Zi rfl ent_80 (nat_Mul A10.run.holds h3 h4 (by omega) (by omega)) λv_1 _ _ x1 v1=>(A10.post x1.le (A10.run.call x1) v1);intro S14 _ _ w15 l4 E1 R5 n1 L15 K1;have L16:=L15.dr K1 [4] rfl;obtain⟨_,e12,c5,rfl,h5⟩:=K1 9 (by decide);have L17:=L16.add e12;clear L16;have R6:Run _ _ S14 [(b3,34,zI1)] w15:=Yb R5 n1 [] (by simp) (by simp);refine sO L17 rfl<|Zi rfl Zhu (XG R6.holds (mi:=(decide (¬(decide (a<0))=(decide (b<0))))) h5) λv_2 _ _ x2 v2=>?_;have R7:=R6.call x2;obtain⟨c6,rfl,h6⟩:=v2;intro _ L18;exact sZ L18 rfl<|Zm rfl rfl R7 YJ h6.len rfl h6.ones λ_ R8 _ L19=>(sn<|wp_ret<|rt (L19.kp [4] rfl) (Res.aggW rfl QG YJ (R8.has<|List.Mem.head _) h6.len Res.nil)<|⟨_,_,rfl,R8.ext,⟨_,rfl,(h6.to mul_sI (by omega))⟩⟩)
theorem whole_Cmp{S:Sh}{w:World}(hS:ZV S w){c_a:List Value}{a:Int}{k_a:Nat}(h_a:In S c_a a k_a){c_b:List Value}{b:Int}{k_b:Nat}(h_b:In S c_b b k_b):Calls prog 124 [(.agg (c_a:List Value).toArray),(.agg (c_b:List Value).toArray)].toArray w (Ret S w (λS v=>v= .int .i64 (cmpZ a b))):=by
 refine cbd hS (n:=28) func124 rfl λ_ L0 R0=>?_;rcases h_a.cases with⟨u_a,v_a,m_a,rfl,hn_a,hz_a,hp_a⟩|⟨u_a,v_a,m_a,rfl,hn_a,hz_a⟩;rcases h_b.cases with⟨u_b,v_b,m_b,rfl,hn_b,hz_b,hp_b⟩|⟨u_b,v_b,m_b,rfl,hn_b,hz_b⟩;refine wA<|sO L0 rfl<|ZW (cs:=[(.bool true),u_a,v_a]) rfl R0 rfl λb1 _ _ l1 r1 R1=>So rfl<|ZW (cs:=[(.bool true),u_b,v_b]) rfl R1 rfl λb2 _ _ l2 r2 R2=>Sa rfl λ_ L3=>sn<|wp_seq<|wp_block<|wA<|sO L3 rfl<|Zg (off':=0) rfl Ys rfl<|So rfl<|Zk rfl Zcq (R2.row<|r1.up l2) rfl<|Sm rfl<|Sn rfl<|Zg (off':=0) rfl Ys rfl<|Sn rfl<|Zk rfl Zcq (R2.row r2) rfl<|So rfl<|Ze rfl rfl<|Sa rfl<|kP [2,3,4,5] rfl<|ST rfl<|WA<|So rfl<|Zg (off':=1) rfl Yx rfl<|So rfl<|ZQ rfl ZM Zp (R2.row r2) (show _=[u_b,v_b] from rfl) rfl<|So rfl<|Zg (off':=1) rfl Yx rfl<|So rfl<|ZQ rfl ZM Zp (R2.row<|r1.up l2) (show _=[u_a,v_a] from rfl) rfl<|So rfl<|Zi rfl ent_133 (nat_Cmp R2.holds (hn_b.up<|l1.trans l2)<|hn_a.up<|l1.trans l2) λv_1 _ _ x1 v1=>?_;have R3:=R2.call x1;obtain rfl:=v1;intro _ L16;exact sa L16 rfl λ_ L17=>sn<|wp_ret<|YE<|Zt<|rt (L17.kp [2,3,4] rfl) (.tmp rfl Res.nil)<|⟨_,_,rfl,R3.ext,(by exact Zdb (by rw[<-cmpZ_neg (by omega) (by omega)];congr 1 <;> omega))⟩;exact wA<|sO L0 rfl<|ZW (cs:=[(.bool true),u_a,v_a]) rfl R0 rfl λb3 _ _ l4 r3 R4=>So rfl<|ZW (cs:=[(.bool false),u_b,v_b]) rfl R4 rfl λb4 _ _ l5 r4 R5=>Sa rfl λ_ L21=>sn<|wp_seq<|wp_block<|wA<|sO L21 rfl<|Zg (off':=0) rfl Ys rfl<|So rfl<|Zk rfl Zcq (R5.row<|r3.up l5) rfl<|Sm rfl<|Sn rfl<|Zg (off':=0) rfl Ys rfl<|Sn rfl<|Zk rfl Zcq (R5.row r4) rfl<|So rfl<|Ze rfl rfl<|Sa rfl<|kP [2,3,4,5] rfl<|SF rfl<|WA<|So rfl<|Zg (off':=0) rfl Ys rfl<|So rfl<|Zk rfl Zcq (R5.row<|r3.up l5) rfl<|Sa rfl<|ST rfl<|WA<|Sa rfl λ_ L33=>sn<|wp_ret<|YE<|Zt<|rt L33 (.tmp rfl Res.nil)<|⟨_,_,rfl,R5.ext,(by exact Zdb (cmpZ_np (by omega) (by omega)).symm)⟩;rcases h_b.cases with⟨u_b,v_b,m_b,rfl,hn_b,hz_b,hp_b⟩|⟨u_b,v_b,m_b,rfl,hn_b,hz_b⟩;exact wA<|sO L0 rfl<|ZW (cs:=[(.bool false),u_a,v_a]) rfl R0 rfl λb5 _ _ l6 r5 R6=>So rfl<|ZW (cs:=[(.bool true),u_b,v_b]) rfl R6 rfl λb6 _ _ l7 r6 R7=>Sa rfl λ_ L36=>sn<|wp_seq<|wp_block<|wA<|sO L36 rfl<|Zg (off':=0) rfl Ys rfl<|So rfl<|Zk rfl Zcq (R7.row<|r5.up l7) rfl<|Sm rfl<|Sf rfl<|Sf rfl<|So rfl<|Ze rfl rfl<|Sa rfl<|kP [2,3,4,5] rfl<|SF rfl<|WA<|So rfl<|Zg (off':=0) rfl Ys rfl<|So rfl<|Zk rfl Zcq (R7.row<|r5.up l7) rfl<|Sa rfl<|SF rfl<|WA<|So rfl<|Zg (off':=0) rfl Ys rfl<|So rfl<|Zk rfl Zcq (R7.row r6) rfl<|Sa rfl<|kP [2,3,4,20] rfl<|ST rfl<|WA<|Sa rfl λ_ L52=>sn<|wp_ret<|YE<|Zt<|rt L52 (.tmp rfl Res.nil)<|⟨_,_,rfl,R7.ext,(by exact Zdb (cmpZ_pn (by omega) (by omega)).symm)⟩;refine wA<|sO L0 rfl<|ZW (cs:=[(.bool false),u_a,v_a]) rfl R0 rfl λb7 _ _ l8 r7 R8=>So rfl<|ZW (cs:=[(.bool false),u_b,v_b]) rfl R8 rfl λb8 _ _ l9 r8 R9=>Sa rfl λ_ L55=>sn<|wp_seq<|wp_block<|wA<|sO L55 rfl<|Zg (off':=0) rfl Ys rfl<|So rfl<|Zk rfl Zcq (R9.row<|r7.up l9) rfl<|Sm rfl<|Sf rfl<|Sf rfl<|So rfl<|Ze rfl rfl<|Sa rfl<|kP [2,3,4,5] rfl<|SF rfl<|WA<|So rfl<|Zg (off':=0) rfl Ys rfl<|So rfl<|Zk rfl Zcq (R9.row<|r7.up l9) rfl<|Sa rfl<|SF rfl<|WA<|So rfl<|Zg (off':=0) rfl Ys rfl<|So rfl<|Zk rfl Zcq (R9.row r8) rfl<|Sa rfl<|kP [2,3,4,20] rfl<|SF rfl λ_ L70=>wp_skip<|Zx<|Zc<|wA<|sO L70 rfl<|Zg (off':=1) rfl Yx rfl<|So rfl<|ZQ rfl ZM Zp (R9.row<|r7.up l9) (show _=[u_a,v_a] from rfl) rfl<|So rfl<|Zg (off':=1) rfl Yx rfl<|So rfl<|ZQ rfl ZM Zp (R9.row r8) (show _=[u_b,v_b] from rfl) rfl<|So rfl<|Zi rfl ent_133 (nat_Cmp R9.holds (hn_a.up<|l8.trans l9)<|hn_b.up<|l8.trans l9) λv_2 _ _ x2 v2=>?_;have R10:=R9.call x2;obtain rfl:=v2;intro _ L75;exact sa L75 rfl λ_ L76=>sn<|wp_ret<|rt (L76.kp [4] rfl) (.tmp rfl Res.nil)<|⟨_,_,rfl,R10.ext,(by exact Zdb (by rw[<-cmpZ_nn (by omega) (by omega)];congr 1 <;> omega))⟩
theorem Zgg{S:Sh}{w:World}(hS:ZV S w){c_a:List Value}{a:Int}{k_a:Nat}(h_a:In S c_a a k_a)(hlim:k_a<=1099511000000):Calls prog 117 [(.agg (c_a:List Value).toArray)].toArray w (Ret S w (λS v=>v= .string (Xb<|Zgb a))):=by
 refine cbd hS (n:=12) func117 rfl λ_ L0 R0=>wA<|sO L0 rfl<|ZW (cs:=c_a) rfl R0 rfl λb1 _ _ l1 r1 R1=>Sa rfl<|SVv<|So rfl<|Zg (off':=0) rfl Ys rfl<|So rfl<|Zk rfl Zcq (R1.row r1) h_a.sign λ_ L4=>sn ?_;by_cases t1:a<0;refine Zl L4 rfl (decide_eq_true t1)<|wA<|sO L4 rfl<|Zg (off':=1) rfl Yx rfl λ_ L5=>?_;obtain⟨c1,e1,h1⟩:=(h_a.up l1).abs;refine sO L5 rfl<|ZQ rfl ZM Zp (R1.row r1) e1 h1.len<|So rfl<|Zi rfl ent_118 (Zcv R1.holds h1 (by omega)) λv_1 _ _ x1 v1=>?_;have R2:=R1.call x1;obtain rfl:=v1;intro _ L7;exact sO L7 rfl<|Qa (z:=((⟨#[45]⟩:ByteArray)++(txt a.natAbs))) rfl rfl (by rw[Zfr];have q:=Zar h_a.le;(show 1+_<=_);omega) rfl<|Sa rfl λ_ L9=>sn<|wp_ret<|Zt<|rt (L9.kp [1,2] rfl) (.tmp rfl Res.nil)<|⟨_,_,rfl,R2.ext,(by exact congrArg Value.string<|ztxt_neg (by assumption))⟩;refine Zh L4 rfl (decide_eq_false t1)<|wp_skip<|Zc<|wA<|sO L4 rfl<|Zg (off':=1) rfl Yx rfl λ_ L11=>?_;obtain⟨c2,e2,h2⟩:=(h_a.up l1).abs;refine sO L11 rfl<|ZQ rfl ZM Zp (R1.row r1) e2 h2.len<|So rfl<|Zi rfl ent_118 (Zcv R1.holds h2 (by omega)) λv_2 _ _ x2 v2=>?_;have R3:=R1.call x2;obtain rfl:=v2;intro _ L13;exact sa L13 rfl λ_ L14=>sn<|wp_ret<|rt (L14.kp [2] rfl) (.tmp rfl Res.nil)<|⟨_,_,rfl,R3.ext,(by exact congrArg Value.string<|ztxt_nn (by assumption))⟩
theorem Qy:Zgf prog 36=some true:=by kernel_rfl
theorem Yw:Yy prog 36=some 5:=by kernel_rfl
theorem XR:XT prog 36=some (.agg ([(.bool false),(.int .u64 (0:Int)),(.slice none 0 0),(.int .u64 (0:Int)),(.slice none 0 0)]:List Value).toArray):=by kernel_rfl
theorem Zb2:Zaf prog 36 0=some (0,34,3):=by kernel_rfl
theorem field_36_1:Zaf prog 36 1=some (3,32,2):=by kernel_rfl
theorem Za1:Zdx prog 36=true:=by kernel_rfl
theorem ent_78:ZR prog 78=true:=by kernel_rfl
theorem ent_79:ZR prog 79=true:=by kernel_rfl
theorem ent_84:ZR prog 84=true:=by kernel_rfl
theorem ent_90:ZR prog 90=true:=by kernel_rfl
theorem ent_138:ZR prog 138=true:=by kernel_rfl
theorem frac_one{S:Sh}{w:World}(hS:ZV S w):Calls prog 138 [].toArray w (Ret S w (λS v=>∃(c0:List Value),v= .agg c0.toArray/\Na S c0 1 64)):=by
 refine cbd hS (n:=2) func138 rfl λ_ L0 R0=>wA<|sO L0 rfl<|ZK (cs:=zN1) ZZ R0 rfl λb1 _ R1=>SW<|So rfl<|Zi rfl ent_76 (nat_Of R1.holds (n:=1) (by omega)) λv_1 _ _ x1 v1=>?_;have R2:=R1.call x1;obtain⟨c1,rfl,h1⟩:=v1;intro _ L2;exact sZ L2 rfl<|Zm rfl rfl R2 Zp h1.len rfl h1.ones λ_ R3 _ L3=>(sn<|wp_ret<|rt L3 (Res.aggW rfl ZM Zp (R3.has<|List.Mem.head _) h1.len Res.nil)<|⟨_,_,rfl,R3.ext,⟨_,rfl,(h1.to rfl (by omega))⟩⟩)
theorem frac_Of{S:Sh}{w:World}(hS:ZV S w){c_a:List Value}{a:Int}{k_a:Nat}(h_a:In S c_a a k_a):Calls prog 86 [(.agg (c_a:List Value).toArray)].toArray w (Ret S w (λS v=>∃(c0:List Value),v= .agg c0.toArray/\Fs S c0 [((a:Int):Rat)] k_a)):=by
 refine cbd hS (n:=5) func86 rfl λ_ L0 R0=>wA<|sO L0 rfl<|ZW (cs:=c_a) rfl R0 rfl λb1 S1 _ l1 r1 R1=>So rfl<|ZK (cs:=zF1) XR R1 rfl λb2 _ R2=>SW<|So rfl<|ZA rfl QG YJ (R2.row r1) h_a.len λ_ L3=>?_;have h1:Fs S1 (c_a++zN1) [((a:Int):Rat)] (k_a):=Fs.ofInt (h_a.up l1);obtain⟨c1,e1⟩:∃cs:List Value,(c_a++zN1)=cs:=⟨_,rfl⟩;rw[e1] at h1;exact sO L3 rfl<|ZH (cs:=c1) XR Za1 (.cons rfl Zb2 h_a.len (by decide) .nil) (by rw[<-e1];simp[QU,Xv,Value.cells,h_a.len])<|Sz rfl<|Zm rfl rfl R2 Yw h1.len rfl h1.ones λ_ R3 _ L5=>sn<|wp_ret<|rt L5 (Res.aggW rfl Qy Yw (R3.has<|List.Mem.head _) h1.len Res.nil)<|⟨_,_,rfl,R3.ext,⟨_,rfl,(h1.to rfl (by omega))⟩⟩
theorem frac_Int{S:Sh}{w:World}(hS:ZV S w){n:Int}(hn1: -9223372036854775808<=n)(hn2:n<=9223372036854775807):Calls prog 27 [(.int .i64 n)].toArray w (Ret S w (λS v=>∃(c0:List Value),v= .agg c0.toArray/\Fs S c0 [((n:Int):Rat)] 64)):=by
 refine cbd hS (n:=6) func27 rfl λ_ L0 R0=>wA<|sO L0 rfl<|ZK (cs:=zF1) XR R0 rfl λb1 _ R1=>SW<|Sm rfl<|So rfl<|Zi rfl ent_90 (whole_Of R1.holds (n:=n) (by omega) (by omega)) λv_1 S1 _ x1 v1=>?_;have R2:=R1.call x1;obtain⟨c1,rfl,h1⟩:=v1;intro _ L3;have h2:Fs S1 (c1++zN1) [((n:Int):Rat)] (64):=Fs.ofInt h1;obtain⟨c2,e1⟩:∃cs:List Value,(c1++zN1)=cs:=⟨_,rfl⟩;rw[e1] at h2;exact sO L3 rfl<|ZH (cs:=c2) XR Za1 (.cons rfl Zb2 h1.len (by decide) .nil) (by rw[<-e1];simp[QU,Xv,Value.cells,h1.len])<|Sz rfl<|Zm rfl rfl R2 Yw h2.len rfl h2.ones λ_ R3 _ L5=>sn<|wp_ret<|rt L5 (Res.aggW rfl Qy Yw (R3.has<|List.Mem.head _) h2.len Res.nil)<|⟨_,_,rfl,R3.ext,⟨_,rfl,(h2.to rfl (by omega))⟩⟩
theorem frac_Frac_Num{S:Sh}{w:World}(hS:ZV S w){c_a:List Value}{a:Rat}{k_a:Nat}(h_a:Fs S c_a [a] k_a):Calls prog 66 [(.agg (c_a:List Value).toArray)].toArray w (Ret S w (λS v=>∃(c0:List Value),v= .agg c0.toArray/\In S c0 a.num k_a)):=by
 refine cbd hS (n:=5) func66 rfl λ_ L0 R0=>wA<|sO L0 rfl<|ZW (cs:=c_a) rfl R0 rfl λb1 _ _ l1 r1 R1=>So rfl<|ZK (cs:=zI1) Zag R1 rfl λb2 _ R2=>SW<|So rfl<|Zg (off':=0) rfl Zb2 rfl λ_ L3=>?_;obtain⟨c1,e1,h1⟩:=(h_a.up l1).num;exact sO L3 rfl<|ZQ rfl QG YJ (R2.row r1) e1 h1.len<|Sz rfl<|Zm rfl rfl R2 YJ h1.len rfl h1.ones λ_ R3 _ L5=>sn<|wp_ret<|rt L5 (Res.aggW rfl QG YJ (R3.has<|List.Mem.head _) h1.len Res.nil)<|⟨_,_,rfl,R3.ext,⟨_,rfl,(h1.to rfl (by omega))⟩⟩
theorem Zhs{S:Sh}{w:World}(hS:ZV S w){c_a:List Value}{a:Rat}{k_a:Nat}(h_a:Fs S c_a [a] k_a)(hlim:k_a<=1099511000000):Calls prog 78 [(.agg (c_a:List Value).toArray)].toArray w (Ret S w (λS v=>∃(c0:List Value),v= .agg c0.toArray/\Na S c0 a.den k_a)):=by
 refine cbd hS (n:=7) func78 rfl λ_ L0 R0=>wA<|sO L0 rfl<|ZW (cs:=c_a) rfl R0 rfl λb1 _ _ l1 r1 R1=>So rfl<|ZK (cs:=zN1) ZZ R1 rfl λb2 _ R2 _ L2=>sn<|wp_seq ?_;have L3:=(L2.kp [1,2] rfl);refine Zw (E0:=[]) (H0:=[(b2,32,zN1)]) (n:=7) mixed 3 [] (λk=>0) (Zcn [.is (.pointer (some ⟨b1,3,none⟩)),(kvNa (a.den-1) k_a),(kvNa 1 64)]) L3 R2 (by simp) (by simp) (by rfl) (by rfl) (by simp) (ZU ?_) ?_;refine(An ?_<|Ak ?_ ?_ trivial);exact dK [] rfl λA=>Zg (off':=3) rfl field_36_1 rfl<|A.same rfl;refine Zb rfl (λ_ _ _ _ _ A2=>?_);obtain⟨_,e1,rfl⟩:=A2.known 0 rfl;obtain⟨c1,e2,h1⟩:=(h_a.up<|l1.trans A2.le).less;exact Cu (A2.live.add e1)<|ZQ rfl ZM Zp (A2.run.row<|r1.up A2.le) e2 h1.len<|A2.same ⟨_,rfl,h1⟩;exact dK [] rfl λA=>Zi rfl ent_138 (frac_one A.run.holds) λv_1 _ _ x1 v1=>A.post x1.le (A.run.call x1) v1;intro S6 _ _ w7 l3 E1 R4 n1 L7 K1;obtain⟨_,e3,c2,rfl,h2⟩:=K1 1 (by decide);have L8:=L7.add e3;clear L7;obtain⟨_,e4,c3,rfl,h3⟩:=K1 2 (by decide);have L9:=L8.add e4;clear L8;have R5:Run _ _ S6 [(b2,32,zN1)] w7:=Yb R4 n1 [] (by simp) (by simp);refine sO L9 rfl<|Zi rfl ent_137 (nat_Add R5.holds h2 h3 (by omega) (by omega)) λv_2 _ _ x2 v2=>?_;have R6:=R5.call x2;obtain⟨c4,rfl,h4⟩:=v2;intro _ L10;exact sZ L10 rfl<|Zm rfl rfl R6 Zp h4.len rfl h4.ones λ_ R7 _ L11=>(sn<|wp_ret<|rt L11 (Res.aggW rfl ZM Zp (R7.has<|List.Mem.head _) h4.len Res.nil)<|⟨_,_,rfl,R7.ext,⟨_,rfl,(h4.toR (by have q:=a.den_pos;omega) h_a.den_le)⟩⟩)
theorem frac_Frac_Sign{S:Sh}{w:World}(hS:ZV S w){c_a:List Value}{a:Rat}{k_a:Nat}(h_a:Fs S c_a [a] k_a):Calls prog 45 [(.agg (c_a:List Value).toArray)].toArray w (Ret S w (λS v=>v= .int .i64 (Yu a.num))):=by
 refine cbd hS (n:=6) func45 rfl λ_ L0 R0=>wA<|sO L0 rfl<|ZW (cs:=c_a) rfl R0 rfl λb1 _ _ l1 r1 R1=>Sa rfl<|SW<|So rfl<|Zg (off':=0) rfl Zb2 rfl λ_ L3=>?_;obtain⟨c1,e1,h1⟩:=(h_a.up l1).num;refine sO L3 rfl<|ZQ rfl QG YJ (R1.row r1) e1 h1.len<|So rfl<|Zi rfl ent_84 (Zau R1.holds h1) λv_1 _ _ x1 v1=>?_;have R2:=R1.call x1;obtain rfl:=v1;intro _ L5;exact sa L5 rfl λ_ L6=>sn<|wp_ret<|rt (L6.kp [2] rfl) (.tmp rfl Res.nil)<|⟨_,_,rfl,R2.ext,rfl⟩
section
section
variable{T:Tb}{K:Nat}{base ρ:Nat->AV}{bd:Nat->Nat}{T0:Tb}{hT:Cs T0 ρ}{P:Program}{f:FuncId}{op lim e t:Nat}
theorem sum1{a e k:Nat}(h:[a].sum+e<=k):a+e<=k:=by simpa using h
theorem sum2{a b e k:Nat}(h:[a,b].sum+e<=k):a+b+e<=k:=by simpa using h
theorem pQQ(hg:YG T K base ρ bd)(he:ZR P f=true)(ho:10<op){F:Rat->Rat->Rat}(hs:∀x y,Zg9 op [x,y]= .q (F x.rat y.rat))(h:∀{S:Sh} {w:World} {c d:List Value} {a b:Rat} {k l:Nat},ZV S w->Fs S c [a] k->Fs S d [b] l->k<=lim->l<=lim->Calls P f [.agg c.toArray,.agg d.toArray].toArray w (Ret S w λS v=>∃c0:List Value,v= .agg c0.toArray/\Fs S c0 [F a b] (k+l+e))):Xq P (DS hT bd) f (pO T [2,2] op lim e):=by
 refine pO_ok hg he ho λS w vs xs ks k hS hr hl hk=>?_;obtain⟨x,k1,v,x',k2,v',rfl,rfl,rfl,h1,h2,h3,h4⟩:=hr.two;obtain⟨c,rfl,h5⟩:=h2.q h1;obtain⟨d,rfl,h6⟩:=h4.q h3;refine Calls.mono (h hS h5 h6 (hl _ (by simp))<|hl _ (by simp)) λe w' ⟨v,S',a1,a2,c0,a3,a4⟩=>⟨v,S',a1,a2,?_⟩;rw[hs];exact⟨c0,a3,a4.wide (sum2 hk)⟩
theorem pZZ(hg:YG T K base ρ bd)(he:ZR P f=true)(ho:10<op){F:Int->Int->Int}(hs:∀x y,Zg9 op [x,y]= .z (F x.int y.int))(h:∀{S:Sh} {w:World} {c d:List Value} {a b:Int} {k l:Nat},ZV S w->In S c a k->In S d b l->k<=lim->l<=lim->Calls P f [.agg c.toArray,.agg d.toArray].toArray w (Ret S w λS v=>∃c0:List Value,v= .agg c0.toArray/\In S c0 (F a b) (k+l+e))):Xq P (DS hT bd) f (pO T [1,1] op lim e):=by
 refine pO_ok hg he ho λS w vs xs ks k hS hr hl hk=>?_;obtain⟨x,k1,v,x',k2,v',rfl,rfl,rfl,h1,h2,h3,h4⟩:=hr.two;obtain⟨c,rfl,h5⟩:=h2.z h1;obtain⟨d,rfl,h6⟩:=h4.z h3;refine Calls.mono (h hS h5 h6 (hl _ (by simp))<|hl _ (by simp)) λe w' ⟨v,S',a1,a2,c0,a3,a4⟩=>⟨v,S',a1,a2,?_⟩;rw[hs];exact⟨c0,a3,a4.wide (sum2 hk)⟩
theorem pNN(hg:YG T K base ρ bd)(he:ZR P f=true)(ho:10<op){F:Nat->Nat->Nat}(hs:∀x y,Zg9 op [x,y]= .n (F x.nat y.nat))(h:∀{S:Sh} {w:World} {c d:List Value} {a b:Nat} {k l:Nat},ZV S w->Na S c a k->Na S d b l->k<=lim->l<=lim->Calls P f [.agg c.toArray,.agg d.toArray].toArray w (Ret S w λS v=>∃c0:List Value,v= .agg c0.toArray/\Na S c0 (F a b) (k+l+e))):Xq P (DS hT bd) f (pO T [0,0] op lim e):=by
 refine pO_ok hg he ho λS w vs xs ks k hS hr hl hk=>?_;obtain⟨x,k1,v,x',k2,v',rfl,rfl,rfl,h1,h2,h3,h4⟩:=hr.two;obtain⟨c,rfl,h5⟩:=h2.n h1;obtain⟨d,rfl,h6⟩:=h4.n h3;refine Calls.mono (h hS h5 h6 (hl _ (by simp))<|hl _ (by simp)) λe w' ⟨v,S',a1,a2,c0,a3,a4⟩=>⟨v,S',a1,a2,?_⟩;rw[hs];exact⟨c0,a3,a4.wide (sum2 hk)⟩
theorem pQz(hg:YG T K base ρ bd)(he:ZR P f=true)(ho:10<op){F:Rat->Int}(hs:∀x,Zg9 op [x]= .z (F x.rat))(h:∀{S:Sh} {w:World} {c:List Value} {a:Rat} {k:Nat},ZV S w->Fs S c [a] k->k<=lim->Calls P f [.agg c.toArray].toArray w (Ret S w λS v=>∃c0:List Value,v= .agg c0.toArray/\In S c0 (F a) (k+e))):Xq P (DS hT bd) f (pO T [2] op lim e):=by
 refine pO_ok hg he ho λS w vs xs ks k hS hr hl hk=>?_;obtain⟨x,k1,v,rfl,rfl,rfl,h1,h2⟩:=hr.one;obtain⟨c,rfl,h5⟩:=h2.q h1;refine Calls.mono (h hS h5<|hl _ (by simp)) λe w' ⟨v,S',a1,a2,c0,a3,a4⟩=>⟨v,S',a1,a2,?_⟩;rw[hs];exact⟨c0,a3,a4.wide (sum1 hk)⟩
theorem pQn(hg:YG T K base ρ bd)(he:ZR P f=true)(ho:10<op){F:Rat->Nat}(hs:∀x,Zg9 op [x]= .n (F x.rat))(h:∀{S:Sh} {w:World} {c:List Value} {a:Rat} {k:Nat},ZV S w->Fs S c [a] k->k<=lim->Calls P f [.agg c.toArray].toArray w (Ret S w λS v=>∃c0:List Value,v= .agg c0.toArray/\Na S c0 (F a) (k+e))):Xq P (DS hT bd) f (pO T [2] op lim e):=by
 refine pO_ok hg he ho λS w vs xs ks k hS hr hl hk=>?_;obtain⟨x,k1,v,rfl,rfl,rfl,h1,h2⟩:=hr.one;obtain⟨c,rfl,h5⟩:=h2.q h1;refine Calls.mono (h hS h5<|hl _ (by simp)) λe w' ⟨v,S',a1,a2,c0,a3,a4⟩=>⟨v,S',a1,a2,?_⟩;rw[hs];exact⟨c0,a3,a4.wide (sum1 hk)⟩
theorem pZq(hg:YG T K base ρ bd)(he:ZR P f=true)(ho:10<op){F:Int->Rat}(hs:∀x,Zg9 op [x]= .q (F x.int))(h:∀{S:Sh} {w:World} {c:List Value} {a:Int} {k:Nat},ZV S w->In S c a k->k<=lim->Calls P f [.agg c.toArray].toArray w (Ret S w λS v=>∃c0:List Value,v= .agg c0.toArray/\Fs S c0 [F a] (k+e))):Xq P (DS hT bd) f (pO T [1] op lim e):=by
 refine pO_ok hg he ho λS w vs xs ks k hS hr hl hk=>?_;obtain⟨x,k1,v,rfl,rfl,rfl,h1,h2⟩:=hr.one;obtain⟨c,rfl,h5⟩:=h2.z h1;refine Calls.mono (h hS h5<|hl _ (by simp)) λe w' ⟨v,S',a1,a2,c0,a3,a4⟩=>⟨v,S',a1,a2,?_⟩;rw[hs];exact⟨c0,a3,a4.wide (sum1 hk)⟩
theorem pZz(hg:YG T K base ρ bd)(he:ZR P f=true)(ho:10<op){F:Int->Int}(hs:∀x,Zg9 op [x]= .z (F x.int))(h:∀{S:Sh} {w:World} {c:List Value} {a:Int} {k:Nat},ZV S w->In S c a k->k<=lim->Calls P f [.agg c.toArray].toArray w (Ret S w λS v=>∃c0:List Value,v= .agg c0.toArray/\In S c0 (F a) (k+e))):Xq P (DS hT bd) f (pO T [1] op lim e):=by
 refine pO_ok hg he ho λS w vs xs ks k hS hr hl hk=>?_;obtain⟨x,k1,v,rfl,rfl,rfl,h1,h2⟩:=hr.one;obtain⟨c,rfl,h5⟩:=h2.z h1;refine Calls.mono (h hS h5<|hl _ (by simp)) λe w' ⟨v,S',a1,a2,c0,a3,a4⟩=>⟨v,S',a1,a2,?_⟩;rw[hs];exact⟨c0,a3,a4.wide (sum1 hk)⟩
theorem pZn(hg:YG T K base ρ bd)(he:ZR P f=true)(ho:10<op){F:Int->Nat}(hs:∀x,Zg9 op [x]= .n (F x.int))(h:∀{S:Sh} {w:World} {c:List Value} {a:Int} {k:Nat},ZV S w->In S c a k->k<=lim->Calls P f [.agg c.toArray].toArray w (Ret S w λS v=>∃c0:List Value,v= .agg c0.toArray/\Na S c0 (F a) (k+e))):Xq P (DS hT bd) f (pO T [1] op lim e):=by
 refine pO_ok hg he ho λS w vs xs ks k hS hr hl hk=>?_;obtain⟨x,k1,v,rfl,rfl,rfl,h1,h2⟩:=hr.one;obtain⟨c,rfl,h5⟩:=h2.z h1;refine Calls.mono (h hS h5<|hl _ (by simp)) λe w' ⟨v,S',a1,a2,c0,a3,a4⟩=>⟨v,S',a1,a2,?_⟩;rw[hs];exact⟨c0,a3,a4.wide (sum1 hk)⟩
end
end
section
def kV(T:Tb)(key:List Nat):Option Nat:=match Zd7 T key with
  | some (k,r)=>match Nat.ble 64 r.d with
    |true=>some k
    |false=>none
  |none=>none
def pConst(T:Tb)(o:Nat):PrF Ato:=λl=>match l with
  | [.int .i64 n]=>match n with
    | .ofNat a=>match Nat.ble a 9223372036854775807 with
      | true=>match kV T [o,a,0] with
        |some k=>some (resV (Nat.mod o 4) k)
        |none=>none
      |false=>none
    | .negSucc a=>match Nat.ble a 9223372036854775807 with
      | true=>match kV T [o,Nat.succ a,1] with
        |some k=>some (resV (Nat.mod o 4) k)
        |none=>none
      |false=>none
  |_=>none
def pNatOf(T:Tb):PrF Ato:=λl=>match l with
  | [.int .u64 (.ofNat a)]=>match Nat.ble a 18446744073709551615 with
    | true=>match kV T [4,a] with
      |some k=>some (resV 0 k)
      |none=>none
    |false=>none
  |_=>none
def pMakeW(T:Tb):PrF Ato:=λl=>match l with
  | [.bool false,x]=>match getA T [0] [x] with
    |some is=>opV T 17 10000000000000 0 is
    |none=>none
  | [.bool true,x]=>match getA T [0] [x] with
    |some is=>opV T 45 10000000000000 0 is
    |none=>none
  | [.at_ (.s i),x]=>match getA T [0] [x] with
    |some is=>opV T 21 10000000000000 0 (i::is)
    |none=>none
  |_=>none
def posGo(T:Tb):Nat->Nat->Bool
  |0,_=>false
  | n +1,i=>match Zco T i with
    | some r=>match r.key with
      |[4,a]=>Nat.ble 1 a
      |[16,_]=>true
      |[28,i,j]=>posGo T n i||posGo T n j
      |[24,i,j]=>posGo T n i&&posGo T n j
      |[36,i,j]=>posGo T n i||posGo T n j
      |_=>false
    |none=>false
def nzB(T:Tb)(j:Nat):Bool:=match posGo T 20 j with
  |true=>true
  | false=>match tstV T 5 10000000000000 [j] with
    |some (.ofNat 0)=>true
    |_=>false
def pNatDiv(T:Tb):PrF Ato:=λl=>match getA T [0,0] l with
  | some is=>match is with
    | [i, j]=>match nzB T j with
      | true=>match opV T 32 100000000000 0 [i,j] with
        | some x=>match opV T 40 100000000000 0 [i,j] with
          |some y=>some (.tup [x,y,.int .i64 0])
          |none=>none
        |none=>none
      |_=>none
    |_=>none
  |none=>none
def pDivQ(T:Tb):PrF Ato:=λl=>match getA T [2,2] l with
  | some is=>match is with
    | [i, j]=>match tstV T 1 100000000000 [j] with
      | some x=>match x with
        | .ofNat 0=>none
        | _=>match opV T 34 50000000000 0 [i,j] with
          |some y=>some (.tup [y,.int .i64 0])
          |none=>none
      |none=>none
    |_=>none
  |none=>none
def pMakeQ(T:Tb):PrF Ato:=λl=>match getA T [1,1] l with
  | some is=>match is with
    | [i, j]=>match tstV T 3 100000000000 [j] with
      | some x=>match x with
        | .ofNat 0=>none
        | _=>match opV T 42 50000000000 0 [i,j] with
          |some y=>some (.tup [y,.int .i64 0])
          |none=>none
      |none=>none
    |_=>none
  |none=>none
section
variable{T:Tb}{K:Nat}{base ρ:Nat->AV}{bd:Nat->Nat}{T0:Tb}{hT:Cs T0 ρ}
theorem kV_ok(hg:YG T K base ρ bd){key:List Nat}{k:Nat}(h:kV T key=some k):ρ k=semK base ρ key/\64<=bd k:=by
 unfold kV at h;split at h;rename_i k' r hf;split at h;rename_i hd;cases h;obtain⟨h1,h2⟩:=XI hf;obtain⟨h3,h4⟩:=hg.row _ _ h1;have:=Nat.le_of_ble_eq_true hd;exact⟨by rw[h3,h2],by rw[h4];omega⟩;cases h;cases h
theorem Zd0(hg:YG T K base ρ bd):∀{n i:Nat},posGo T n i=true->(ρ i).nat≠0
  |0,i,h=>by simp[posGo] at h
  | n + 1,i,h=>by
    unfold posGo at h
    split at h
    · rename_i r hr
      have h1:=(hg.row i r hr).1
      split at h
      · rename_i a hk
        rw[h1,hk]
        exact Nat.ne_of_gt (Nat.le_of_ble_eq_true h)
      · rename_i a hk
        rw[h1,hk]
        show(ρ a).rat.den≠0
        exact(ρ a).rat.den_nz
      · rename_i a b hk
        rw[h1,hk]
        show Nat.gcd (ρ a).nat (ρ b).nat≠0
        intro h0
        have h2:=Nat.gcd_eq_zero_iff.1 h0
        simp only[Bool.or_eq_true] at h
        rcases h with h|h
        · exact Zd0 hg h h2.1
        · exact Zd0 hg h h2.2
      · rename_i a b hk
        rw[h1,hk]
        show(ρ a).nat*(ρ b).nat≠0
        simp only[Bool.and_eq_true] at h
        exact Nat.mul_ne_zero (Zd0 hg h.1) (Zd0 hg h.2)
      · rename_i a b hk
        rw[h1,hk]
        show(ρ a).nat+(ρ b).nat≠0
        simp only[Bool.or_eq_true] at h
        rcases h with h|h
        · have:=Zd0 hg h;omega
        · have:=Zd0 hg h;omega
      · cases h
    · cases h
theorem nzB_ok(hg:YG T K base ρ bd){j:Nat}(h:nzB T j=true):(ρ j).nat≠0:=by
 unfold nzB at h;split at h;rename_i hp;exact Zd0 hg hp;split at h;rename_i ht;have h1:=(tstV_ok hg ht).1;intro h0;simp[semT,h0] at h1;cases h
theorem pNatOf_ok(hg:YG T K base ρ bd):Xq prog (DS hT bd) 76 (pNatOf T):=by
 intro args r hr G w vs hd hS;unfold pNatOf at hr;split at hr;rename_i a;split at hr;rename_i ha;split at hr;rename_i k hk;cases hr;obtain⟨h1,h2⟩:=kV_ok hg hk;have ha':=Nat.le_of_ble_eq_true ha
 cases hd with
 | cons x1 x2=>
   cases x2
   cases x1
   have hk1:ρ k= .n a:=h1
   refine .ret (by kernel_rfl) (nat_Of hS (n:=a) (by omega)) λS' v ⟨c0,e,hv⟩=>Xm (by rw[hk1];kernel_rfl) ?_
   rw[hk1]
   exact⟨c0,e,hv.wide h2⟩
 cases hr;cases hr;cases hr
theorem pInt_ok(hg:YG T K base ρ bd):Xq prog (DS hT bd) 27 (pConst T 10):=by
 intro args r hr G w vs hd hS;unfold pConst at hr;split at hr;rename_i n;split at hr;rename_i a;split at hr;rename_i ha;split at hr;rename_i k hk;cases hr;obtain⟨h1,h2⟩:=kV_ok hg hk;have ha':=Nat.le_of_ble_eq_true ha
 cases hd with
 | cons x1 x2=>
   cases x2
   cases x1
   have hk1:ρ k= .q ((a:Int):Rat):=by rw[h1];rfl
   refine .ret (by kernel_rfl) (frac_Int hS (n:=Int.ofNat a) (by simp only[Int.ofNat_eq_natCast];omega) (by simp only[Int.ofNat_eq_natCast];omega)) λS' v ⟨c0,e,hv⟩=>Xm (by rw[hk1];kernel_rfl) ?_
   rw[hk1]
   exact⟨c0,e,hv.wide h2⟩
 cases hr;cases hr;rename_i a;split at hr;rename_i ha;split at hr;rename_i k hk;cases hr;obtain⟨h1,h2⟩:=kV_ok hg hk;have ha':=Nat.le_of_ble_eq_true ha
 cases hd with
 | cons x1 x2=>
   cases x2
   cases x1
   have hk1:ρ k= .q ((Int.negSucc a:Int):Rat):=by rw[h1];rfl
   refine .ret (by kernel_rfl) (frac_Int hS (n:=Int.negSucc a) (by omega) (by omega)) λS' v ⟨c0,e,hv⟩=>Xm (by rw[hk1];kernel_rfl) ?_
   rw[hk1]
   exact⟨c0,e,hv.wide h2⟩
 cases hr;cases hr;cases hr
theorem pWOf_ok(hg:YG T K base ρ bd):Xq prog (DS hT bd) 90 (pConst T 9):=by
 intro args r hr G w vs hd hS;unfold pConst at hr;split at hr;rename_i n;split at hr;rename_i a;split at hr;rename_i ha;split at hr;rename_i k hk;cases hr;obtain⟨h1,h2⟩:=kV_ok hg hk;have ha':=Nat.le_of_ble_eq_true ha
 cases hd with
 | cons x1 x2=>
   cases x2
   cases x1
   have hk1:ρ k= .z (a:Int):=by rw[h1];rfl
   refine .ret (by kernel_rfl) (whole_Of hS (n:=Int.ofNat a) (by simp only[Int.ofNat_eq_natCast];omega) (by simp only[Int.ofNat_eq_natCast];omega)) λS' v ⟨c0,e,hv⟩=>Xm (by rw[hk1];kernel_rfl) ?_
   rw[hk1]
   exact⟨c0,e,hv.wide h2⟩
 cases hr;cases hr;rename_i a;split at hr;rename_i ha;split at hr;rename_i k hk;cases hr;obtain⟨h1,h2⟩:=kV_ok hg hk;have ha':=Nat.le_of_ble_eq_true ha
 cases hd with
 | cons x1 x2=>
   cases x2
   cases x1
   have hk1:ρ k= .z (Int.negSucc a):=by rw[h1];rfl
   refine .ret (by kernel_rfl) (whole_Of hS (n:=Int.negSucc a) (by omega) (by omega)) λS' v ⟨c0,e,hv⟩=>Xm (by rw[hk1];kernel_rfl) ?_
   rw[hk1]
   exact⟨c0,e,hv.wide h2⟩
 cases hr;cases hr;cases hr
theorem pMakeW_ok(hg:YG T K base ρ bd):Xq prog (DS hT bd) 82 (pMakeW T):=by
 intro args r hr G w vs hd hS;unfold pMakeW at hr;split at hr;rename_i x;split at hr;rename_i is his
 cases hd with
 | cons x1 x2=>
   cases x1
   obtain⟨k,rfl,h1,h2,h3,h4⟩:=Zfb hg hr (by decide)
   obtain⟨y,k1,v,e1,e2,rfl,h5,h6⟩:=(Zaj hg his x2).one
   obtain⟨c,rfl,h7⟩:=h6.n h5
   rw[e1] at h2
   rw[e2] at h4
   refine .ret (by kernel_rfl) (XG hS (mi:=false) h7) λS' v ⟨c0,e,hv⟩=>Xm h1 ?_
   rw[h2]
   exact⟨c0,e,hv.wide (sum1 h4)⟩
 cases hr;rename_i x;split at hr;rename_i is his
 cases hd with
 | cons x1 x2=>
   cases x1
   obtain⟨k,rfl,h1,h2,h3,h4⟩:=Zfb hg hr (by decide)
   obtain⟨y,k1,v,e1,e2,rfl,h5,h6⟩:=(Zaj hg his x2).one
   obtain⟨c,rfl,h7⟩:=h6.n h5
   rw[e1] at h2
   rw[e2] at h4
   refine .ret (by kernel_rfl) (XG hS (mi:=true) h7) λS' v ⟨c0,e,hv⟩=>Xm h1 ?_
   rw[h2]
   exact⟨c0,e,hv.wide (sum1 h4)⟩
 cases hr;rename_i i x;split at hr;rename_i is his
 cases hd with
 | cons x1 x2=>
   cases x1 with
   | at_ hp=>
     rename_i v1 v0
     have hp':v1=Value.bool (ρ i).neg:=by simpa [DS,predS] using hp
     subst hp'
     obtain⟨k,rfl,h1,h2,h3,h4⟩:=Zfb hg hr (by decide)
     obtain⟨y,k1,v,e1,e2,rfl,h5,h6⟩:=(Zaj hg his x2).one
     obtain⟨c,rfl,h7⟩:=h6.n h5
     rw[List.map_cons,e1] at h2
     rw[List.map_cons,e2] at h4
     have h8:=sum2 h4
     refine .ret (by kernel_rfl) (XG hS (mi:=(ρ i).neg) h7) λS' v ⟨c0,e,hv⟩=>Xm h1 ?_
     rw[h2]
     exact⟨c0,e,hv.wide (by omega)⟩
 cases hr;cases hr
end
end
abbrev TabF:=Tb->List (Nat × PrF Ato)
def TabOK(tab:TabF):Prop:=∀{T:Tb} {K:Nat} {base ρ:Nat->AV} {bd:Nat->Nat} {T0:Tb} {hT:Cs T0 ρ},YG T K base ρ bd->∀p∈tab T,Xq prog (DS hT bd) p.1 p.2
def Zdn(tab:TabF)(T:Tb)(f:Nat)(args:List (SV Ato))(r:SV Ato)(k:Nat):Prop:=∀(ρ:Nat->AV)(hT:Cs T ρ)(bd:Nat->Nat),(callB prog (DS hT bd) (primOf<|mkTab<|tab T) (runN prog (DS hT bd) (primOf<|mkTab<|tab T) k) 0 f args .nil 0).map (λo=>o.r)=some r
theorem sym_call{tab:TabF}(ht:TabOK tab){T:Tb}{K:Nat}{base:Nat->AV}{f k:Nat}{args:List (SV Ato)}{r:SV Ato}{vs:List Value}{S:Sh}{w:World}(ha:Zek T.rows 0=true)(hk:K<=T.km)(hc:Csl (rho T base) T.conds)(he:ZR prog f=true)(h:Zdn tab T f args r k)(hS:ZV S w)(hd:QB (DS (T:=T) (ρ:=rho T base) hc.all<|Zej T K) ⟨S,λ_=>none⟩ args vs):Calls prog f vs.toArray w (Ret S w λS' v=>∃blk,Den (DS (T:=T) (ρ:=rho T base) hc.all<|Zej T K) ⟨S',blk⟩ r v):=by
 obtain⟨o,ho,rfl⟩:=Option.map_eq_some_iff.1 (h (rho T base) hc.all<|Zej T K);exact Zcl.toRet he<|ev_call mixed (primOf_ok<|ht<|YG.mk' ha hk hc.all) ho hS hd
theorem le1(k:Nat):k<=1*k+0:=by omega
theorem YX{tab:TabF}(ht:TabOK tab){R:List Rw}{km K:Nat}{base:Nat->AV}{f k:Nat}{args:List (SV Ato)}{r:SV Ato}{vs:List Value}{S:Sh}{w:World}(ha:Zek R 0=true)(hk:K<=km)(he:ZR prog f=true)(hS:ZV S w)(hd:∀(cs:List (List Nat × Int))(hc:Csl (rho ⟨R,[],km⟩ base) cs),QB (DS (T:=⟨R,cs,km⟩) (ρ:=rho ⟨R,[],km⟩ base) hc.all<|Zej ⟨R,[],km⟩ K) ⟨S,λ_=>none⟩ args vs)(cs:List (List Nat × Int))(hc:Csl (rho ⟨R,[],km⟩ base) cs)(h:Zdn tab ⟨R,cs,km⟩ f args r k):Calls prog f vs.toArray w (Ret S w λS' v=>∃blk,Den (DS (T:=⟨R,cs,km⟩) (ρ:=rho ⟨R,[],km⟩ base) hc.all<|Zej ⟨R,[],km⟩ K) ⟨S',blk⟩ r v):=
  sym_call ht (T:=⟨R,cs,km⟩) (K:=K) (base:=base) ha hk hc he h hS (hd cs hc)
theorem Qt{tab:TabF}(ht:TabOK tab){R:List Rw}{km K:Nat}{base:Nat->AV}{f k:Nat}{args:List (SV Ato)}{vs:List Value}{S:Sh}{w:World}(ha:Zek R 0=true)(hk:K<=km)(he:ZR prog f=true)(hS:ZV S w)(hd:∀(cs:List (List Nat × Int))(hc:Csl (rho ⟨R,[],km⟩ base) cs),QB (DS (T:=⟨R,cs,km⟩) (ρ:=rho ⟨R,[],km⟩ base) hc.all<|Zej ⟨R,[],km⟩ K) ⟨S,λ_=>none⟩ args vs)(cs:List (List Nat × Int))(hc:Csl (rho ⟨R,[],km⟩ base) cs){r:SV Ato}(h:Zdn tab ⟨R,cs,km⟩ f args r k){u:Value}(hg:ground r=some u):Calls prog f vs.toArray w (Ret S w λ_ v=>v=u):=
  Calls.mono (YX ht ha hk he hS hd cs hc h) λe w' ⟨v,S',h1,h2,blk,h3⟩=>⟨v,S',h1,h2,(QO hg h3).symm▸rfl⟩
def Qs(ρ:Nat->AV)(bd:Nat->Nat)(k:Nat):List Nat->List Rat->Prop
  |[],[]=>True
  |i::is,q::qs=>ρ i= .q q/\k<=bd i/\Qs ρ bd k is qs
  |_,_=>False
def cQs:List Nat->List (SV Ato)
  |[]=>[]
  |i::is=>cQ i++cQs is
theorem QF{ρ:Nat->AV}{bd:Nat->Nat}{G:Gh}{T0:Tb}{hT:Cs T0 ρ}{k:Nat}:∀{is:List Nat} {qs:List Rat} {cs:List Value},Qs ρ bd k is qs->Fs G.S cs qs k->YW (DS hT bd) G (cQs is) cs
  |[],[],cs,_,h=>by rw[show cs=[] from h];exact .nil
  | i::is,q::qs,cs,hq,⟨us,vs,e,h1,h2⟩=>by
    rw[e]
    exact cQ_mk hq.1 h1.fs hq.2.1 (QF hq.2.2 h2)
  |[],_::_,_,hq,_=>hq.elim
  |_::_,[],_,hq,_=>hq.elim
def QsI(ρ:Nat->AV)(bd:Nat->Nat)(k:Nat):List Nat->List Rat->Prop
  |[],[]=>True
  |i::is,q::qs=>ρ i= .q q/\bd i<=k/\QsI ρ bd k is qs
  |_,_=>False
theorem Zcz{ρ:Nat->AV}{bd:Nat->Nat}{G:Gh}{T0:Tb}{hT:Cs T0 ρ}{k:Nat}:∀{is:List Nat} {qs:List Rat} {cs:List Value},QsI ρ bd k is qs->YW (DS hT bd) G (cQs is) cs->Fs G.S cs qs k
  |[],[],cs,_,h=>h.nilI
  | i::is,q::qs,cs,hq,h=>by
    obtain⟨us,vs,rfl,h1,h2⟩:=cQ_of hq.1 h
    have h3:=(h1.wide hq.2.1).append (Zcz hq.2.2 h2)
    simpa using h3
  |[],_::_,_,hq,_=>hq.elim
  |_::_,[],_,hq,_=>hq.elim
def cTs(is:List Nat):List (SV Ato):=is.map λi=>.at_ (.t i)
def TsE(ρ:Nat->AV):List Nat->List ByteArray->Prop
  |[],[]=>True
  |i::is,s::ss=>ρ i= .s s/\TsE ρ is ss
  |_,_=>False
theorem cTs_mk{ρ:Nat->AV}{bd:Nat->Nat}{G:Gh}{T0:Tb}{hT:Cs T0 ρ}:∀{is:List Nat} {ss:List ByteArray},TsE ρ is ss->YW (DS hT bd) G (cTs is) (ss.map Value.string)
  |[],[],_=>.nil
  | i::is,s::ss,h=>by
    have:=YW.run (D:=DS hT bd) (G:=G) (a:=.t i) (us:=[.string s]) ⟨s,h.1,rfl⟩ (cTs_mk h.2)
    exact this
  |[],_::_,h=>h.elim
  |_::_,[],h=>h.elim
def baseS(ss:List ByteArray):Nat->AV:=λi=>.s (ss.getD i ⟨#[]⟩)
def YV(qs:List Rat):Nat->AV:=λi=>.q (qs.getD i 0)
theorem lex4_3w(x y z u:Int)(h1:x= -1\/x=0\/x=1)(h2:y= -1\/y=0\/y=1)(h3:z= -1\/z=0\/z=1)(h4:u= -1\/u=0\/u=1):QS x y z u= -1\/QS x y z u=0\/QS x y z u=1:=by
 unfold QS;split;exact h1;split;exact h2;split;exact h3;exact h4
theorem cmpQ_3w(a b:Rat):Yp a b= -1\/Yp a b=0\/Yp a b=1:=by
 unfold Yp;split;exact .inl rfl;split;exact .inr (.inr rfl);exact .inr (.inl rfl)
theorem cmpN_3w(a b:Nat):Zcy a b= -1\/Zcy a b=0\/Zcy a b=1:=by
 unfold Zcy;split;exact .inl rfl;split;exact .inr (.inr rfl);exact .inr (.inl rfl)
theorem ite_2w(p:Prop)[Decidable p]:(if p then(1:Int) else 0)=0\/(if p then(1:Int) else 0)=1:=by
 split;exact .inr rfl;exact .inl rfl
theorem Zcm(ρ:Nat->AV){t:Nat}{is:List Nat}(h:t=1\/t=2\/t=3\/t=6\/t=10):ZI ρ (t::is)= -1\/ZI ρ (t::is)=0\/ZI ρ (t::is)=1:=by
 show semT t (is.map ρ)= -1\/semT t (is.map ρ)=0\/semT t (is.map ρ)=1;unfold semT;split <;> first|omega|exact sgnZ_cases _|exact cmpQ_3w _ _|exact cmpN_3w _ _|skip
 unfold semU;split <;> first|omega|exact lex4_3w _ _ _ _ (cmpQ_3w _ _) (cmpQ_3w _ _) (cmpQ_3w _ _) (cmpQ_3w _ _)|exact .inr (.inl rfl)
theorem Zgc(ρ:Nat->AV){t:Nat}{is:List Nat}(h:t=5\/t=8\/t=9\/t=12\/t=15\/t=18\/t=19\/t=20):ZI ρ (t::is)=0\/ZI ρ (t::is)=1:=by
 show semT t (is.map ρ)=0\/semT t (is.map ρ)=1;unfold semT;split <;> first|omega|exact ite_2w _|skip
 unfold semU;split <;> first|omega|exact ite_2w _|exact .inl rfl
theorem Zfi(l:List Nat):0<=YP l:=by
 unfold YP;split;decide;split;decide;split <;> decide
theorem perr_nn(x y z u:List Nat):0<=Zbv x y z u:=by
 unfold Zbv;split;exact Zfi _;split;exact Zfi _;split;exact Zfi _;split;exact Zfi _;split <;> decide
theorem verr_nn(x y z:List Nat):0<=verr x y z:=by
 unfold verr;split;exact Zfi _;split;exact Zfi _;exact Zfi _
theorem waysE(ρ:Nat->AV){t:Nat}{is:List Nat}(h:t=4\/t=7\/t=11\/t=16):ZI ρ (t::is)=0\/∃n,ZI ρ (t::is)=Int.ofNat (Nat.succ n):=by
 have h1:0<=ZI ρ (t::is):=by
  show 0<=semT t (is.map ρ);unfold semT;split <;> first|omega|exact Zfi _|skip
  unfold semU;split <;> first|omega|exact perr_nn _ _ _ _|exact verr_nn _ _ _|exact Int.natCast_nonneg _|exact Int.le_refl _
 generalize ZI ρ (t::is)=x at h1
 match x,h1 with
 | .ofNat 0,_=>exact .inl rfl
 | .ofNat (n+1),_=>exact .inr ⟨n,rfl⟩
theorem waysB(ρ:Nat->AV){t:Nat}{is:List Nat}(h:t=16):ZI ρ (t::is)=0\/ZI ρ (t::is)=1\/∃n,ZI ρ (t::is)=Int.ofNat (Nat.succ<|Nat.succ n):=by
 rcases waysE ρ (t:=t) (is:=is) (by omega) with h1|⟨n,h1⟩;exact .inl h1
 cases n with
 |zero=>exact .inr (.inl h1)
 |succ n=>exact .inr (.inr ⟨n,h1⟩)
section
def findL(T:Tb)(i:Nat)(key:List Nat):Option Nat:=match Zco T i with
  | some a=>match Zd7 T key with
    | some (k,r)=>match leB a r with
      |true=>some k
      |false=>none
    |none=>none
  |none=>none
def pDivL(T:Tb):PrF Ato:=λl=>match getA T [0,0] l with
  | some is=>match is with
    | [i, j]=>match nzB T j&&limB T 1099511000000 [i] with
      | true=>match findL T i [32,i,j] with
        | some k=>match findL T i [40,i,j] with
          |some l=>some (.tup [.agg (cN k),.agg (cN l),.int .i64 0])
          |none=>none
        |none=>none
      |false=>none
    |_=>none
  |none=>none
def pSubL(T:Tb):PrF Ato:=λl=>match getA T [0,0] l with
  | some is =>match is with
    | [i, j]=>match limB T 1099511000000 [i] with
      | true=>match Zez T [18,i,j] with
        | some b=>match b with
          | true=>match findL T i [48,i,j] with
            |some k=>some (.tup [.agg (cN k),.int .i64 0])
            |none=>none
          |false=>none
        |none=>none
      |false=>none
    |_=>none
  |none=>none
section
variable{T:Tb}{K:Nat}{base ρ:Nat->AV}{bd:Nat->Nat}{T0:Tb}{hT:Cs T0 ρ}
theorem Zf6(hg:YG T K base ρ bd){i k o:Nat}{is:List Nat}(ho:10<o)(h:findL T i (o::is)=some k):ρ k=Zg9 o (is.map ρ)/\bd i<=bd k:=by
 unfold findL at h;split at h;rename_i a ha;split at h;rename_i k' r hf;split at h;rename_i hl;cases h;obtain⟨h1,h2⟩:=XI hf;obtain⟨h3,h4⟩:=hg.row _ _ h1;refine⟨by rw[h3,h2,semK_op ho],?_⟩;rw[(hg.row _ _ ha).2,h4];exact leB_ok hl K;cases h;cases h;cases h
theorem pDivL_ok(hg:YG T K base ρ bd):Xq prog (DS hT bd) 77 (pDivL T):=by
 intro args r hr G w vs hd hS;unfold pDivL at hr;split at hr;rename_i is his;split at hr;rename_i i j;split at hr;rename_i ht;simp only[Bool.and_eq_true] at ht;split at hr;rename_i k hk;split at hr;rename_i l hl;cases hr;have hnz:=nzB_ok hg ht.1;have hlim:=QV hg ht.2 (bd i) (by simp);obtain⟨a1,a2⟩:=Zf6 hg (by decide) hk;obtain⟨b1,b2⟩:=Zf6 hg (by decide) hl;obtain⟨x,k1,v,x',k2,v',e1,e2,rfl,c1,c2,c3,c4⟩:=(Zaj hg his hd).two;simp only[List.map_cons,List.map_nil,List.cons.injEq,and_true] at e1 e2;obtain⟨rfl,rfl⟩:=e1;obtain⟨rfl,rfl⟩:=e2;obtain⟨c,rfl,h5⟩:=c2.n c1;obtain⟨d,rfl,h6⟩:=c4.n c3;refine .ret (by kernel_rfl) (nat_Div hS h5 h6 (by omega)) λS' v hv=>?_;rcases hv with⟨z,_⟩|⟨_,c0,c1,e,hv,hu⟩;exact absurd z hnz;rw[e];refine .tup (.cons (Xm (kd:=0) (by rw[a1];rfl) ?_) (.cons (Xm (kd:=0) (by rw[b1];rfl) ?_) (.cons (.int _ _) .nil)));rw[a1];exact⟨c0,rfl,hv.wide a2⟩;rw[b1];exact⟨c1,rfl,hu.wide b2⟩;cases hr;cases hr;cases hr;cases hr;cases hr
theorem pSubL_ok(hg:YG T K base ρ bd):Xq prog (DS hT bd) 145 (pSubL T):=by
 intro args r hr G w vs hd hS;unfold pSubL at hr;split at hr;rename_i is his;split at hr;rename_i i j;split at hr;rename_i hl;split at hr;rename_i b hb;split at hr;split at hr;rename_i k hk;cases hr;have hlim:=QV hg hl (bd i) (by simp);have hle:(if(ρ j).nat<=(ρ i).nat then(1:Int) else 0)=1:=Qh hg.cond hb;obtain⟨a1,a2⟩:=Zf6 hg (by decide) hk;obtain⟨x,k1,v,x',k2,v',e1,e2,rfl,c1,c2,c3,c4⟩:=(Zaj hg his hd).two;simp only[List.map_cons,List.map_nil,List.cons.injEq,and_true] at e1 e2;obtain⟨rfl,rfl⟩:=e1;obtain⟨rfl,rfl⟩:=e2;obtain⟨c,rfl,h5⟩:=c2.n c1;obtain⟨d,rfl,h6⟩:=c4.n c3;refine .ret (by kernel_rfl) (nat_Sub hS h5 h6 (by omega)) λS' v hv=>?_;rcases hv with⟨z,_⟩|⟨_,c0,e,hv⟩;rw[if_neg (by omega)] at hle;cases hle;rw[e];refine .tup (.cons (Xm (kd:=0) (by rw[a1];rfl) ?_) (.cons (.int _ _) .nil));rw[a1];exact⟨c0,rfl,hv.wide a2⟩;cases hr;cases hr;cases hr;cases hr;cases hr;cases hr
theorem parts_of{G:Gh}{i j K k:Nat}{z:Int}{n:Nat}{q:Rat}{vs:List Value}(e:ρ i= .z z)(e':ρ j= .n n)(h:YW (DS hT bd) G [.at_ (.s i),.at_ (.a i),.at_ (.a j)] vs)(e1:z=q.num)(e2:n=q.den-1)(b1:q.num.natAbs<=2^k)(b2:q.den<=2^k):Fs G.S vs [q] k:=by
 obtain⟨cs,us,rfl,h1,h2⟩:=cZ_of (r:=[.at_ (.a j)]) e h;obtain⟨cs',us',rfl,h3,h4⟩:=cN_of (r:=[]) e' h2;cases h4.nilI;rw[List.append_nil];exact Fs.ofParts h1 h3 e1 e2 b1 b2
theorem mixed_of{G:Gh}{i:Nat}{z:Int}{vs:List Value}(e:ρ i= .z z)(h:YW (DS hT bd) G [.at_ (.s i),.at_ (.a i),.int .u64 0,.sl none 0 0] vs):Fs G.S vs [(z:Rat)] (bd i):=by
 obtain⟨cs,us,rfl,h1,h2⟩:=cZ_of (r:=[.int .u64 0,.sl none 0 0]) e h
 cases h2 with
 | one x1 _ _ x2=>
   cases x1
   cases x2 with
   | one x3 _ _ x4=>
     cases x3
     cases x4
     exact Fs.ofInt h1
theorem cZ_mk1{G:Gh}{i k:Nat}{a:Int}{cs:List Value}(e:ρ i= .z a)(hk:k<=bd i)(h:In G.S cs a k):YW (DS hT bd) G [.at_ (.s i),.at_ (.a i)] cs:=by
 have:=cZ_mk (hT:=hT) e h hk .nil;simpa [cZ] using this
theorem cN_mk1{G:Gh}{i k:Nat}{a:Nat}{cs:List Value}(e:ρ i= .n a)(hk:k<=bd i)(h:Na G.S cs a k):YW (DS hT bd) G [.at_ (.a i)] cs:=by
 have:=cN_mk (hT:=hT) e h hk .nil;simpa [cN] using this
end
def baseN(l:List Nat):Nat->AV:=λi=>.n (l.getD i 0)
def baseZN(z:Int)(d:Nat):Nat->AV:=λi=>match i with
  |0=>.z z
  |_=>.n d
def symTabL(T:Tb):List (Nat × PrF Ato):=[
  (76,pNatOf T),(82,pMakeW T),(77,pDivL T),(145,pSubL T),
  (79,pO T [0,0] 28 549755000000 0),
  (98,pT T [0] 16 10000000000000),
  (113,pO T [1] 12 10000000000000 0),
  (84,pT T [1] 3 10000000000000)]
theorem symTabL_OK:TabOK symTabL:=by
 intro T K base ρ bd T0 hT hg p hp;simp only[symTabL,List.mem_cons,List.not_mem_nil,or_false] at hp;rcases hp with rfl|rfl|rfl|rfl|rfl|rfl|rfl|rfl;exact pNatOf_ok hg;exact pMakeW_ok hg;exact pDivL_ok hg;exact pSubL_ok hg;exact pNN hg (by kernel_rfl) (by decide) (λ_ _=>rfl) λhS h1 h2 h3 h4=>nat_Gcd hS h1 h2 (by omega);refine pT_ok hg (by kernel_rfl) λS w vs xs ks hS hr hl=>?_;obtain⟨x,k1,v,rfl,rfl,rfl,h1,h2⟩:=hr.one;obtain⟨c,rfl,h5⟩:=h2.n h1;exact YU hS h5;exact pZn hg (by kernel_rfl) (by decide) (λ_=>rfl) λhS h1 h2=>Zdr hS h1;refine pT_ok hg (by kernel_rfl) λS w vs xs ks hS hr hl=>?_;obtain⟨x,k1,v,rfl,rfl,rfl,h1,h2⟩:=hr.one;obtain⟨c,rfl,h5⟩:=h2.z h1;exact Zau hS h5
end
section
def asG(T:Tb)(x:SV Ato):Option Nat:=match x with
 | .at_ a=>match a with
  | .g i=>match isK T i 0 with
   |true=>some i
   |false=>match isK T i 2 with
    |true=>viaR T i 20
    |false=>none
  | .h i=>match isK T i 2 with
   |true=>viaR T i 16
   |false=>none
  |_=>none
 | .sl none 0 0=>match Zd7 T [4,0] with
  |some (k,_)=>some k
  |none=>none
 |_=>none
def opK(T:Tb)(op lim e:Nat)(is:List Nat):Option Nat:=match limB T lim is with
 | true=>match Zd7 T (op::is) with
  |some (k,r)=>match sumB T e is r with
   |true=>some k
   |false=>none
  |none=>none
 |false=>none
def pG2(T:Tb)(op lim e:Nat):PrF Ato:=λl=>match l with
 | [x,y]=>match asG T x with
  | some i=>match asG T y with
   |some j=>match opK T op lim e [i,j] with
    |some k=>some (.at_ (.g k))
    |none=>none
   |none=>none
  |none=>none
 |_=>none
def pGCmp(T:Tb):PrF Ato:=λl=>match l with
 | [x,y]=>match asG T x with
  | some i=>match asG T y with
   |some j=>match Zgn [6,i,j] T.conds with
    |some x=>some (.int .i64 x)
    |none=>none
   |none=>none
  |none=>none
 |_=>none
def pGBits(T:Tb):PrF Ato:=λl=>match l with
 | [x]=>match asG T x with
  | some i=>match limB T 1000000000000 [i] with
   |true=>match Zgn [16,i] T.conds with
    |some x=>some (.int .i64 x)
    |none=>none
   |false=>none
  |none=>none
 |_=>none
def pGOne(T:Tb):PrF Ato:=λl=>match l with
 | [x]=>match asG T x with
  |some i=>match Zez T [20,i] with
   |some b=>some (.bool b)
   |none=>none
  |none=>none
 |_=>none
def pGOf(T:Tb):PrF Ato:=λl=>match l with
 | [.int .u64 (.ofNat a)]=>match Nat.ble a 18446744073709551615 with
  |true=>match kV T [4,a] with
   |some k=>some (.at_ (.g k))
   |none=>none
  |false=>none
 |_=>none
def pGSub(T:Tb):PrF Ato:=λl=>match l with
 | [x, y]=>match asG T x with
  | some i=>match asG T y with
   | some j=>match limB T 1000000000000 [i,j] with
    | true=>match Zez T [18,i,j] with
     | some b=>match b with
      |true=>match findL T i [48,i,j] with
       |some k=>some (.at_ (.g k))
       |none=>none
      |false=>none
     |none=>none
    |false=>none
   |none=>none
  |none=>none
 |_=>none
def pGDiv(T:Tb):PrF Ato:=λl=>match l with
 | [x,y]=>match asG T x with
  | some i=>match asG T y with
   | some j=>match nzB T j&&limB T 1099511000000 [i,j] with
    | true=>match findL T i [32,i,j] with
     |some k=>match findL T j [40,i,j] with
      |some l=>some (.tup [.at_ (.g k),.at_ (.g l)])
      |none=>none
     |none=>none
    |false=>none
   |none=>none
  |none=>none
 |_=>none
section
variable{T:Tb}{K:Nat}{base ρ:Nat->AV}{bd:Nat->Nat}{G:Gh}{T0:Tb}{hT:Cs T0 ρ}
theorem Zes(hg:YG T K base ρ bd){x:SV Ato}{i:Nat}{v:Value}(h:asG T x=some i)(hd:Den (DS hT bd) G x v):Gn G.S v (ρ i).nat (bd i):=by
 unfold asG at h;split at h;rename_i a
 cases hd with
 | at_ hp=>
  split at h
  ·rename_i j
   obtain⟨u,e,hv⟩:=hp
   simp only[List.cons.injEq,and_true] at e
   subst e
   split at h
   ·rename_i hk
    cases h
    have e:=AV.k0 (Zce hg hk)
    rw[e] at hv ⊢
    exact hv
   ·split at h
    ·rename_i hk
     have e:=AV.k2 (Zce hg hk)
     obtain⟨e2,hb⟩:=viaR_ok hg h (by decide)
     rw[e] at hv
     rw[e2]
     exact hv.wide hb
    ·cases h
  ·rename_i j
   obtain⟨u,e,hv⟩:=hp
   simp only[List.cons.injEq,and_true] at e
   subst e
   split at h
   ·rename_i hk
    have e:=AV.k2 (Zce hg hk)
    obtain⟨e2,hb⟩:=viaR_ok hg h (by decide)
    rw[e] at hv
    rw[e2]
    refine(Gn.toE (m:=(ρ j).rat.den) hv ?_).wide hb
    show(ρ j).rat.den-1+1=(ρ j).rat.den
    have:=(ρ j).rat.den_pos
    omega
   ·cases h
  ·cases h
 split at h;rename_i k r hf;cases h;obtain⟨h1,h2⟩:=XI hf;rw[(hg.row _ _ h1).1,h2];cases hd;exact Gn.nil _ _;cases h;cases h
theorem opK_ok(hg:YG T K base ρ bd){op lim e k:Nat}{is:List Nat}(h:opK T op lim e is=some k)(ho:10<op):ρ k=Zg9 op (is.map ρ)/\(∀k∈is.map bd,k<=lim)/\(is.map bd).sum+e<=bd k:=by
 unfold opK at h;split at h;rename_i hl;split at h;rename_i k' r' hf;split at h;rename_i hs;cases h;obtain⟨h1,h2⟩:=XI hf;obtain⟨h3,h4⟩:=hg.row _ _ h1;rw[h2,semK_op ho] at h3;refine⟨h3,QV hg hl,?_⟩;unfold sumB at hs;simp only[Bool.and_eq_true] at hs;have a1:=Nat.le_of_ble_eq_true hs.1;have a2:=Nat.le_of_ble_eq_true hs.2;rw[sum_ok hg hl,h4,Nat.add_assoc];exact Nat.add_le_add (Nat.mul_le_mul_right _ a1) a2;cases h;cases h;cases h
theorem gres{S:Sh}{blk:Nat->Option (Nat × Nat)}{k n:Nat}{v:Value}(e:ρ k= .n n)(h:Gn S v n (bd k)):Den (DS hT bd) ⟨S,blk⟩ (.at_ (.g k)) v:=.at_ ⟨v,rfl,by rw[e];exact h⟩
theorem Qz{q:Rat}:q.num<0↔q<0:=by
 have h:=@Rat.num_nonneg q;constructor;intro h1;have:¬ 0<=q:=λz=>by have:=h.2 z;omega
 grind;intro h1;have:¬ 0<=q.num:=λz=>by have:=h.1 z;grind
 omega
theorem gden{i n k:Nat}{v:Value}(e:ρ i= .n n)(hk:k<=bd i)(h:Gn G.S v n k):Den (DS hT bd) G (.at_ (.g i)) v:=.at_ ⟨v,rfl,by rw[e];exact h.wide hk⟩
theorem gcells{i j x y:Nat}{b:Bool}{vs:List Value}(e:ρ i= .n x)(e':ρ j= .n y)(h:YW (DS hT bd) G [.bool b,.at_ (.g i),.at_ (.g j)] vs):∃c1 c2,vs=[.bool b,c1,c2]/\Gn G.S c1 x (bd i)/\Gn G.S c2 y (bd j):=by
 cases h with
 |one h1 _ _ h2=>
  cases h1
  obtain⟨us,vs',rfl,⟨v,rfl,h3⟩,h4⟩:=YW.runI h2
  obtain⟨us',vs'',rfl,⟨v',rfl,h5⟩,h6⟩:=YW.runI h4
  cases h6.nilI
  rw[e] at h3
  rw[e'] at h5
  exact⟨v,v',rfl,h3,h5⟩
theorem gcell0{i n:Nat}{b:Bool}{vs:List Value}(e:ρ i= .n n)(h:YW (DS hT bd) G [.bool b,.sl none 0 0,.at_ (.g i)] vs):∃c1,vs=[.bool b,.slice none 0 0,c1]/\Gn G.S c1 n (bd i):=by
 cases h with
 | one h1 _ _ h2=>
  cases h1
  cases h2 with
  |one h3 _ _ h4=>
   cases h3
   obtain⟨us',vs'',rfl,⟨v',rfl,h5⟩,h6⟩:=YW.runI h4
   cases h6.nilI
   rw[e] at h5
   exact⟨v',rfl,h5⟩
theorem pG2_ok(hg:YG T K base ρ bd){f op lim e:Nat}(he:ZR prog f=true)(ho:10<op){F:Nat->Nat->Nat}(hs:∀x y,Zg9 op [x,y]= .n (F x.nat y.nat))(h:∀{S:Sh} {w:World} {c d:Value} {a b:Nat} {k l:Nat},ZV S w->Gn S c a k->Gn S d b l->k<=lim->l<=lim->Calls prog f [c,d].toArray w (Ret S w λS v=>∃c0:Value,v=c0/\Gn S c0 (F a b) (k+l+e))):Xq prog (DS hT bd) f (pG2 T op lim e):=by
 intro args r hr G w vs hd hS;unfold pG2 at hr;split at hr;split at hr;rename_i i hi;split at hr;rename_i j hj;split at hr;rename_i k hk;cases hr;obtain⟨k1,k2,k3⟩:=opK_ok hg hk ho
 cases hd with
 | cons x1 x2=>
  cases x2 with
  |cons x3 x4=>
   cases x4
   have b1:=k2 (bd i) (by simp)
   have b2:=k2 (bd j) (by simp)
   simp only[List.map_cons,List.map_nil] at k1 k3
   rw[hs] at k1
   have b3:=sum2 k3
   refine .ret he (h hS (Zes hg hi x1) (Zes hg hj x3) b1 b2) λS' v ⟨c0,e,hv⟩=>?_
   subst e
   exact gres k1 (hv.wide (by omega))
 cases hr;cases hr;cases hr;cases hr
theorem pGCmp_ok(hg:YG T K base ρ bd):Xq prog (DS hT bd) 154 (pGCmp T):=by
 intro args r hr G w vs hd hS;unfold pGCmp at hr;split at hr;split at hr;rename_i i hi;split at hr;rename_i j hj;split at hr;rename_i x hx;cases hr;have hc:Zcy (ρ i).nat (ρ j).nat=x:=hg.cond _ (Zab hx)
 cases hd with
 | cons x1 x2=>
  cases x2 with
  |cons x3 x4=>
   cases x4
   refine .ret (by kernel_rfl) (cref01_Cmp hS (Zes hg hi x1)<|Zes hg hj x3) λS' v hv=>?_
   rw[hv,hc]
   exact .int _ _
 cases hr;cases hr;cases hr;cases hr
theorem pGBits_ok(hg:YG T K base ρ bd):Xq prog (DS hT bd) 43 (pGBits T):=by
 intro args r hr G w vs hd hS;unfold pGBits at hr;split at hr;split at hr;rename_i i hi;split at hr;rename_i hl;split at hr;rename_i x hx;cases hr;have hc:((ZC (ρ i).nat:Nat):Int)=x:=hg.cond _ (Zab hx);have hb:=QV hg hl (bd i) (by simp)
 cases hd with
 |cons x1 x2=>
  cases x2
  refine .ret (by kernel_rfl) (cref01_Bits hS (Zes hg hi x1) (by omega)) λS' v hv=>?_
  rw[hv,hc]
  exact .int _ _
 cases hr;cases hr;cases hr;cases hr
theorem pGOne_ok(hg:YG T K base ρ bd):Xq prog (DS hT bd) 120 (pGOne T):=by
 intro args r hr G w vs hd hS;unfold pGOne at hr;split at hr;split at hr;rename_i i hi;split at hr;rename_i b hb;cases hr;have hc:decide ((ρ i).nat=1)=b:=Zff (show(if(ρ i).nat=1 then(1:Int) else 0)=if b then 1 else 0 from Qh hg.cond hb)
 cases hd with
 |cons x1 x2=>
  cases x2
  refine .ret (by kernel_rfl) (cref01_One hS<|Zes hg hi x1) λS' v hv=>?_
  rcases hv with⟨h1,rfl⟩|⟨h1,rfl⟩
  ·rw[decide_eq_true h1] at hc;subst hc;exact .bool _
  ·rw[decide_eq_false h1] at hc;subst hc;exact .bool _
 cases hr;cases hr;cases hr
theorem pGOf_ok(hg:YG T K base ρ bd):Xq prog (DS hT bd) 107 (pGOf T):=by
 intro args r hr G w vs hd hS;unfold pGOf at hr;split at hr;rename_i a;split at hr;rename_i ha;split at hr;rename_i k hk;cases hr;obtain⟨h1,h2⟩:=kV_ok hg hk;have ha':=Nat.le_of_ble_eq_true ha
 cases hd with
 |cons x1 x2=>
  cases x2
  cases x1
  have hk1:ρ k= .n a:=h1
  refine .ret (by kernel_rfl) (QE hS (n:=a) (by omega)) λS' v ⟨c0,e,hv⟩=>?_
  subst e
  exact gres hk1 (hv.wide h2)
 cases hr;cases hr;cases hr
theorem pGSub_ok(hg:YG T K base ρ bd):Xq prog (DS hT bd) 155 (pGSub T):=by
 intro args r hr G w vs hd hS;unfold pGSub at hr;split at hr;split at hr;rename_i i hi;split at hr;rename_i j hj;split at hr;rename_i hl;split at hr;rename_i b hb;split at hr;split at hr;rename_i k hk;cases hr;have b1:=QV hg hl (bd i) (by simp);have b2:=QV hg hl (bd j) (by simp);have hle:(if(ρ j).nat<=(ρ i).nat then(1:Int) else 0)=1:=Qh hg.cond hb;obtain⟨a1,a2⟩:=Zf6 hg (by decide) hk
 cases hd with
 | cons x1 x2=>
  cases x2 with
  |cons x3 x4=>
   cases x4
   have hle':(ρ j).nat<=(ρ i).nat:=Classical.byContradiction λz=>by rw[if_neg z] at hle;cases hle
   refine .ret (by kernel_rfl) (cref01_Sub hS (Zes hg hi x1) (Zes hg hj x3) hle' (by omega) (by omega)) λS' v ⟨c0,e,hv⟩=>?_
   subst e
   exact gres a1 (hv.wide a2)
 cases hr;cases hr;cases hr;cases hr;cases hr;cases hr;cases hr
theorem pGDiv_ok(hg:YG T K base ρ bd):Xq prog (DS hT bd) 109 (pGDiv T):=by
 intro args r hr G w vs hd hS;unfold pGDiv at hr;split at hr;split at hr;rename_i i hi;split at hr;rename_i j hj;split at hr;rename_i ht;simp only[Bool.and_eq_true] at ht;split at hr;rename_i k hk;split at hr;rename_i l hl;cases hr;have hnz:=nzB_ok hg ht.1;have b1:=QV hg ht.2 (bd i) (by simp);have b2:=QV hg ht.2 (bd j) (by simp);obtain⟨a1,a2⟩:=Zf6 hg (by decide) hk;obtain⟨c1,c2⟩:=Zf6 hg (by decide) hl
 cases hd with
 | cons x1 x2=>
  cases x2 with
  |cons x3 x4=>
   cases x4
   refine .ret (by kernel_rfl) (cref01_Div hS (Zes hg hi x1) (Zes hg hj x3) (Nat.pos_of_ne_zero hnz) (by omega) (by omega)) λS' v hv=>?_
   obtain⟨c0,c1',e,hq,hr⟩:=hv
   rw[e]
   exact .tup (.cons (gres a1<|hq.wide a2) (.cons (gres c1<|hr.wide c2) .nil))
 cases hr;cases hr;cases hr;cases hr;cases hr;cases hr
end
def symTabG(T:Tb):List (Nat × PrF Ato):=[
 (107,pGOf T),(155,pGSub T),(109,pGDiv T),(154,pGCmp T),(43,pGBits T),(120,pGOne T),
 (152,pG2 T 36 1000000000000 1),
 (106,pG2 T 24 1000000000000 0),
 (108,pG2 T 28 540000000000 0)]
theorem symTabG_OK:TabOK symTabG:=by
 intro T K base ρ bd T0 hT hg p hp;simp only[symTabG,List.mem_cons,List.not_mem_nil,or_false] at hp;rcases hp with rfl|rfl|rfl|rfl|rfl|rfl|rfl|rfl|rfl;exact pGOf_ok hg;exact pGSub_ok hg;exact pGDiv_ok hg;exact pGCmp_ok hg;exact pGBits_ok hg;exact pGOne_ok hg;exact pG2_ok hg (by kernel_rfl) (by decide) (λ_ _=>rfl) λhS h1 h2 h3 h4=>cref01_Add hS h1 h2 (by omega) (by omega);exact pG2_ok hg (by kernel_rfl) (by decide) (λ_ _=>rfl) λhS h1 h2 h3 h4=>Zf9 hS h1 h2 (by omega) (by omega);exact pG2_ok hg (by kernel_rfl) (by decide) (λ_ _=>rfl) λhS h1 h2 h3 h4=>cref01_Gcd hS h1 h2 (by omega)
end
theorem sI_lt{b:Bool}{n:Nat}(h:n≠0):b=true↔sI b n<0:=by
 unfold sI;cases b <;> simp <;> omega
theorem sI_natAbs(b:Bool)(n:Nat):(sI b n).natAbs=n:=by
 unfold sI;cases b <;> simp
theorem gparts{S:Sh}{c1 c2:Value}{x y k k' K:Nat}{b:Bool}{n d:Nat}(hd:0<d)(hn:n≠0)(h1:Gn S c1 x k)(h2:Gn S c2 y k')(e1:x=n/Nat.gcd n d)(e2:y=d/Nat.gcd n d)(b1:n<=2^K)(b2:d<=2^K):Gs S [.bool b,c1,c2] [mkRat (sI b n) d] K:=by
 have hs:(sI b n).natAbs=n:=sI_natAbs b n;have e3:=Zc8 hd b (sI_lt (b:=b) hn);have e4:=Zfw (z:=sI b n) hd;rw[hs] at e3 e4;have q1:=Xy (z:=sI b n) hd (k:=K) (by rw[hs];exact b1);have q2:=Xz (z:=sI b n) hd (k:=K) b2;refine Gs.mk ?_ (h1.toR ?_ q1)<|h2.toR ?_ q2;have hg:=Nat.gcd_pos_of_pos_right n hd;have hx:n/Nat.gcd n d≠0:=Nat.ne_of_gt (Nat.div_pos (Nat.le_of_dvd (by omega)<|Nat.gcd_dvd_left n d) hg);have h5:b=true↔(mkRat (sI b n) d).num<0:=by rw[<-e3];exact sI_lt hx
 have h6:(mkRat (sI b n) d).num<0↔mkRat (sI b n) d<0:=Qz;cases b;exact(decide_eq_false λz=>by have:=h5.2 (h6.2 z);cases this).symm;exact(decide_eq_true<|h6.1<|h5.1 rfl).symm;rw[e1,<-e3,sI_natAbs];rw[e2,e4]
def rl0_r:List Rw:=[⟨[0,0],1,0⟩,⟨[0,1],1,0⟩,⟨[28,0,1],2,0⟩,⟨[32,0,2],1,0⟩,⟨[40,0,2],2,0⟩,⟨[32,1,2],1,0⟩,⟨[40,1,2],2,0⟩,⟨[4,1],0,64⟩]
def rl0_T(cs:CL):Tb:=⟨rl0_r,cs,540000000000⟩
def rl0_G(cs:CL)(r:SV Ato):Prop:=Zdn symTabG (rl0_T cs) 102 [.bool false,.at_ (.g 0),.at_ (.g 1)] r 100
def rl0_R(a0 a1:Nat):Nat->AV:=rho (rl0_T []) (baseN [a0,a1])
def rl0_k0:CL:=([19,0],1)::[]
theorem rl0_p1:rl0_G rl0_k0 (.agg [.bool false,.sl none 0 0,.at_ (.g 7)]):=λ_ _ _=>by kernel_rfl
def rl0_k1:CL:=([5,2],0)::([19,0],0)::[]
theorem rl0_p0:rl0_G rl0_k1 (.agg [.bool false,.at_ (.g 3),.at_ (.g 5)]):=λ_ _ _=>by kernel_rfl
theorem cref03_low0{S:Sh}{w:World}(hS:ZV S w){c_n c_d:Value}{a0 a1 k_n k_d:Nat}(h_n:Gn S c_n a0 k_n)(h_d:Gn S c_d a1 k_d)(hp:0<a1)(hlim:k_n<=540000000000)(hlim2:k_d<=540000000000):Calls prog 102 [(.bool false),c_n,c_d].toArray w (Ret S w (λS v=>∃(c0:List Value),v= .agg c0.toArray/\Gs S c0 [mkRat (sI false a0) a1] (k_n+k_d))):=by
 have leaf:=λcs hc {r} (h:rl0_G cs r)=>YX symTabG_OK (K:=max k_n k_d) (base:=baseN [a0,a1]) (by kernel_rfl) (by omega) (by kernel_rfl) hS (λ_ _=>.cons (.bool _) (.cons (gden (i:=0) (n:=a0) (k:=max k_n k_d) (by kernel_rfl) (le1 _)<|h_n.wide (by omega)) (.cons (gden (i:=1) (n:=a1) (k:=max k_n k_d) (by kernel_rfl) (le1 _)<|h_d.wide (by omega)) .nil))) cs hc h;have hgp:=Nat.gcd_pos_of_pos_right a0 hp;rcases Zgc (rl0_R a0 a1) (t:=19) (is:=[0]) (by decide) with h0|h0;rotate_left
 have H0:Csl (rl0_R a0 a1) rl0_k0:=.cons h0 .nil;have g0:(if a0=0 then(1:Int) else 0)=_:=tr h0;refine Calls.mono (leaf _ H0 rl0_p1) λe w' ⟨v,S',q1,q2,blk,q3⟩=>⟨v,S',q1,q2,?_⟩
 cases q3 with
 |agg h4=>
  have hz:a0=0:=Classical.byContradiction λz=>by rw[if_neg z] at g0;cases g0
  subst hz
  obtain⟨c1,rfl,h1⟩:=gcell0 (i:=7) (n:=1) (by kernel_rfl) h4
  refine⟨_,rfl,?_⟩
  have e0:mkRat (sI false 0) a1=0:=by rw[show sI false 0=0 from rfl];exact Rat.zero_mkRat _
  rw[e0]
  exact Gs.mk (by simp) (Gn.nil _ _) (h1.toR rfl Nat.one_le_two_pow)
 have h1:ZI (rl0_R a0 a1) [5,2]=0:=(by kernel_rfl:ZI (rl0_R a0 a1) [5,2]=(if(Nat.gcd a0 a1)=0 then(1:Int) else 0)).trans (if_neg (by omega));have H1:Csl (rl0_R a0 a1) rl0_k1:=.cons h1 (.cons h0 .nil);have g0:(if a0=0 then(1:Int) else 0)=_:=tr h0;refine Calls.mono (leaf _ H1 rl0_p0) λe w' ⟨v,S',q1,q2,blk,q3⟩=>⟨v,S',q1,q2,?_⟩
 cases q3 with
 |agg h4=>
  have hz:a0≠0:=λz=>by rw[if_pos z] at g0;cases g0
  obtain⟨c1,c2,rfl,h1,h2⟩:=gcells (i:=3) (j:=5) (x:=a0/Nat.gcd a0 a1) (y:=a1/Nat.gcd a0 a1) (by kernel_rfl) (by kernel_rfl) h4
  exact⟨_,rfl,gparts hp hz h1 h2 rfl rfl (Nat.le_trans h_n.1<|YT (by omega)) (Nat.le_trans h_d.1<|YT (by omega))⟩
def rl1_r:List Rw:=[⟨[0,0],1,0⟩,⟨[0,1],1,0⟩,⟨[28,0,1],2,0⟩,⟨[32,0,2],1,0⟩,⟨[40,0,2],2,0⟩,⟨[32,1,2],1,0⟩,⟨[40,1,2],2,0⟩,⟨[4,1],0,64⟩]
def rl1_T(cs:CL):Tb:=⟨rl1_r,cs,540000000000⟩
def rl1_G(cs:CL)(r:SV Ato):Prop:=Zdn symTabG (rl1_T cs) 102 [.bool true,.at_ (.g 0),.at_ (.g 1)] r 100
def rl1_R(a0 a1:Nat):Nat->AV:=rho (rl1_T []) (baseN [a0,a1])
def rl1_k0:CL:=([19,0],1)::[]
theorem rl1_p1:rl1_G rl1_k0 (.agg [.bool false,.sl none 0 0,.at_ (.g 7)]):=λ_ _ _=>by kernel_rfl
def rl1_k1:CL:=([5,2],0)::([19,0],0)::[]
theorem rl1_p0:rl1_G rl1_k1 (.agg [.bool true,.at_ (.g 3),.at_ (.g 5)]):=λ_ _ _=>by kernel_rfl
theorem cref03_low1{S:Sh}{w:World}(hS:ZV S w){c_n c_d:Value}{a0 a1 k_n k_d:Nat}(h_n:Gn S c_n a0 k_n)(h_d:Gn S c_d a1 k_d)(hp:0<a1)(hlim:k_n<=540000000000)(hlim2:k_d<=540000000000):Calls prog 102 [(.bool true),c_n,c_d].toArray w (Ret S w (λS v=>∃(c0:List Value),v= .agg c0.toArray/\Gs S c0 [mkRat (sI true a0) a1] (k_n+k_d))):=by
 have leaf:=λcs hc {r} (h:rl1_G cs r)=>YX symTabG_OK (K:=max k_n k_d) (base:=baseN [a0,a1]) (by kernel_rfl) (by omega) (by kernel_rfl) hS (λ_ _=>.cons (.bool _) (.cons (gden (i:=0) (n:=a0) (k:=max k_n k_d) (by kernel_rfl) (le1 _)<|h_n.wide (by omega)) (.cons (gden (i:=1) (n:=a1) (k:=max k_n k_d) (by kernel_rfl) (le1 _)<|h_d.wide (by omega)) .nil))) cs hc h;have hgp:=Nat.gcd_pos_of_pos_right a0 hp;rcases Zgc (rl1_R a0 a1) (t:=19) (is:=[0]) (by decide) with h0|h0;rotate_left
 have H0:Csl (rl1_R a0 a1) rl1_k0:=.cons h0 .nil;have g0:(if a0=0 then(1:Int) else 0)=_:=tr h0;refine Calls.mono (leaf _ H0 rl1_p1) λe w' ⟨v,S',q1,q2,blk,q3⟩=>⟨v,S',q1,q2,?_⟩
 cases q3 with
 |agg h4=>
  have hz:a0=0:=Classical.byContradiction λz=>by rw[if_neg z] at g0;cases g0
  subst hz
  obtain⟨c1,rfl,h1⟩:=gcell0 (i:=7) (n:=1) (by kernel_rfl) h4
  refine⟨_,rfl,?_⟩
  have e0:mkRat (sI true 0) a1=0:=by rw[show sI true 0=0 from rfl];exact Rat.zero_mkRat _
  rw[e0]
  exact Gs.mk (by simp) (Gn.nil _ _) (h1.toR rfl Nat.one_le_two_pow)
 have h1:ZI (rl1_R a0 a1) [5,2]=0:=(by kernel_rfl:ZI (rl1_R a0 a1) [5,2]=(if(Nat.gcd a0 a1)=0 then(1:Int) else 0)).trans (if_neg (by omega));have H1:Csl (rl1_R a0 a1) rl1_k1:=.cons h1 (.cons h0 .nil);have g0:(if a0=0 then(1:Int) else 0)=_:=tr h0;refine Calls.mono (leaf _ H1 rl1_p0) λe w' ⟨v,S',q1,q2,blk,q3⟩=>⟨v,S',q1,q2,?_⟩
 cases q3 with
 |agg h4=>
  have hz:a0≠0:=λz=>by rw[if_pos z] at g0;cases g0
  obtain⟨c1,c2,rfl,h1,h2⟩:=gcells (i:=3) (j:=5) (x:=a0/Nat.gcd a0 a1) (y:=a1/Nat.gcd a0 a1) (by kernel_rfl) (by kernel_rfl) h4
  exact⟨_,rfl,gparts hp hz h1 h2 rfl rfl (Nat.le_trans h_n.1<|YT (by omega)) (Nat.le_trans h_d.1<|YT (by omega))⟩
section
def cR(i:Nat):List (SV Ato):=[.at_ (.s i),.at_ (.g i),.at_ (.h i)]
def pRLow(T:Tb):PrF Ato:=λl=>match l with
 | [.bool b,x,y]=>match asG T x with
  | some i=>match asG T y with
   | some j=>match nzB T j&&limB T 540000000000 [i,j] with
    | true=>match Zd7 T [match b with
      |true=>45
      |false=>17,i] with
     | some (z,_)=>match Zd7 T [78,z,j] with
      |some (k,r)=>match sumB T 0 [i,j] r with
       |true=>some (.agg (cR k))
       |false=>none
      |none=>none
     |none=>none
    |false=>none
   |none=>none
  |none=>none
 |_=>none
section
variable{T:Tb}{K:Nat}{base ρ:Nat->AV}{bd:Nat->Nat}{G:Gh}{T0:Tb}{hT:Cs T0 ρ}
theorem neg_dec(q:Rat):decide (q<0)=decide (q.num<0):=by
 by_cases h:q<0;rw[decide_eq_true h,decide_eq_true (Qz.2 h)];rw[decide_eq_false h,decide_eq_false (λz=>h<|Qz.1 z)]
theorem cR_mk{i k:Nat}{q:Rat}{cs:List Value}(e:ρ i= .q q)(hk:k<=bd i)(h:Gs G.S cs [q] k):YW (DS hT bd) G (cR i) cs:=by
 obtain⟨c1,c2,rfl,h1,h2⟩:=h.open;refine .runs (us:=[.bool (decide (q<0))]) (show _=[Value.bool (ρ i).neg] by rw[e,neg_dec];rfl) (.runs (us:=[c1]) ⟨c1,rfl,by rw[e];exact h1.wide hk⟩ (.runs (us:=[c2]) ⟨c2,rfl,?_⟩ .nil rfl) rfl) rfl;rw[e];refine(Gn.toE h2 ?_).wide hk;show q.den=q.den-1+1;have:=q.den_pos;omega
theorem Zex{i:Nat}{q:Rat}{cs:List Value}(e:ρ i= .q q)(h:YW (DS hT bd) G (cR i) cs):Gs G.S cs [q] (bd i):=by
 obtain⟨us,vs,rfl,h1,h2⟩:=YW.runI h;obtain⟨us',vs',rfl,⟨c1,rfl,h3⟩,h4⟩:=YW.runI h2;obtain⟨us'',vs'',rfl,⟨c2,rfl,h5⟩,h6⟩:=YW.runI h4;cases h6.nilI;have h1':us=[Value.bool (ρ i).neg]:=h1;rw[e] at h1' h3 h5;subst h1';refine Gs.mk (neg_dec q).symm h3 (Gn.toE h5 ?_);show q.den-1+1=q.den;have:=q.den_pos;omega
theorem pRLow_ok(hg:YG T K base ρ bd):Xq prog (DS hT bd) 102 (pRLow T):=by
 intro args r hr G w vs hd hS;unfold pRLow at hr;split at hr;rename_i b x y;split at hr;rename_i i hi;split at hr;rename_i j hj;split at hr;rename_i ht;simp only[Bool.and_eq_true] at ht;split at hr;rename_i z rz hz;split at hr;rename_i k rk hk;split at hr;rename_i hs;cases hr;have hnz:=nzB_ok hg ht.1;have b1:=QV hg ht.2 (bd i) (by simp);have b2:=QV hg ht.2 (bd j) (by simp);obtain⟨f1,f2⟩:=XI hz;obtain⟨f3,_⟩:=hg.row _ _ f1;obtain⟨e1,e2⟩:=XI hk;obtain⟨e3,e4⟩:=hg.row _ _ e1;rw[f2] at f3;rw[e2,semK_op (by decide)] at e3;have hzv:ρ z= .z (sI b (ρ i).nat):=by rw[f3];cases b;rfl;rfl
 have hk':ρ k= .q (mkRat (sI b (ρ i).nat) (ρ j).nat):=by rw[e3];show Zg9 78 [ρ z,ρ j]=_;rw[hzv];rfl
 have hb:bd i+bd j<=bd k:=by unfold sumB at hs;simp only[Bool.and_eq_true] at hs;have a1:=Nat.le_of_ble_eq_true hs.1;have a2:=Nat.le_of_ble_eq_true hs.2;have a3:=sum_ok hg ht.2;simp only[List.map_cons,List.map_nil,List.sum_cons,List.sum_nil,Nat.add_zero] at a3;rw[a3,e4];exact Nat.add_le_add (Nat.mul_le_mul_right _ a1) a2
 cases hd with
 | cons x0 x1=>
  cases x0
  cases x1 with
  | cons x1 x2=>
   cases x2 with
   | cons x3 x4=>
    cases x4
    have hC:∀u u':Value,Gn G.S u (ρ i).nat (bd i)->Gn G.S u' (ρ j).nat (bd j)->Calls prog 102 [.bool b,u,u'].toArray w (Ret G.S w (λS v=>∃(c0:List Value),v= .agg c0.toArray/\Gs S c0 [mkRat (sI b (ρ i).nat) (ρ j).nat] (bd i+bd j))):=by
     intro u u' g1 g2
     cases b
     ·exact cref03_low0 hS g1 g2 (Nat.pos_of_ne_zero hnz) b1 b2
     ·exact cref03_low1 hS g1 g2 (Nat.pos_of_ne_zero hnz) b1 b2
    refine .ret (by kernel_rfl) (hC _ _ (Zes hg hi x1)<|Zes hg hj x3) λS' v ⟨c0,e,hv⟩=>?_
    rw[e]
    exact .agg (cR_mk hk' hb hv)
 cases hr;cases hr;cases hr;cases hr;cases hr;cases hr;cases hr
theorem gsgn{i k:Nat}{q:Rat}{b:Bool}{cs:List Value}(e:ρ i= .q q)(hk:k<=bd i)(h:Gs G.S cs [q] k)(hb:decide (q<0)=b):YW (DS hT bd) G [.bool b,.at_ (.g i),.at_ (.h i)] cs:=by
 obtain⟨c1,c2,rfl,h1,h2⟩:=h.open;rw[hb];refine .one (.bool b) rfl (λ_=>by simp) (.runs (us:=[c1]) ⟨c1,rfl,by rw[e];exact h1.wide hk⟩ (.runs (us:=[c2]) ⟨c2,rfl,?_⟩ .nil rfl) rfl);rw[e];refine(Gn.toE h2 ?_).wide hk;show q.den=q.den-1+1;have:=q.den_pos;omega
theorem gneg{i:Nat}{q:Rat}{b:Bool}{cs:List Value}(e:ρ i= .q q)(hb:b=decide (-q<0))(h:YW (DS hT bd) G [.bool b,.at_ (.g i),.at_ (.h i)] cs):Gs G.S cs [-q] (bd i):=by
 cases h with
 | one h1 _ _ h2=>
  cases h1
  obtain⟨us',vs',rfl,⟨c1,rfl,h3⟩,h4⟩:=YW.runI h2
  obtain⟨us'',vs'',rfl,⟨c2,rfl,h5⟩,h6⟩:=YW.runI h4
  cases h6.nilI
  rw[e] at h3 h5
  refine Gs.mk hb (Gn.toE h3 ?_) (Gn.toE h5 ?_)
  ·show q.num.natAbs=(-q).num.natAbs
   rw[(Zd1 q).1,Int.natAbs_neg]
  ·show q.den-1+1=(-q).den
   rw[(Zd1 q).2]
   have:=q.den_pos
   omega
end
theorem Gs.toR{S:Sh}{cs:List Value}{p q:Rat}{k k':Nat}(h:Gs S cs [p] k)(e:p=q)(hk:q.num.natAbs<=2^k'/\q.den<=2^k'):Gs S cs [q] k':=by
 subst e;obtain⟨c1,c2,rfl,h1,h2⟩:=h.open;exact Gs.mk rfl (h1.rek hk.1)<|h2.rek hk.2
theorem Gs.le{S:Sh}{cs:List Value}{q:Rat}{k:Nat}(h:Gs S cs [q] k):q.num.natAbs<=2^k/\q.den<=2^k:=by
 obtain⟨c1,c2,rfl,h1,h2⟩:=h.open;exact⟨h1.1,h2.1⟩
theorem numP{q:Rat}(h:¬q<0)(d:Nat):q.num*(d:Int)=((q.num.natAbs*d:Nat):Int):=by
 have:¬q.num<0:=λz=>h<|Qz.1 z;rw[Int.natCast_mul,show((q.num.natAbs:Nat):Int)=q.num by omega]
theorem numN{q:Rat}(h:q<0)(d:Nat):q.num*(d:Int)= -((q.num.natAbs*d:Nat):Int):=by
 have:q.num<0:=Qz.2 h;rw[Int.natCast_mul,show((q.num.natAbs:Nat):Int)= -q.num by omega,Int.neg_mul,Int.neg_neg]
theorem mulP{a b:Int}(h:(a<0/\b<0)\/(0<=a/\0<=b)):((a.natAbs*b.natAbs:Nat):Int)=a*b:=by
 have hp:0<=a*b:=by rcases h with h|h;have:=Int.mul_nonneg (show 0<= -a by omega) (show 0<= -b by omega);rwa [Int.neg_mul_neg] at this;exact Int.mul_nonneg h.1 h.2
 rw[<-Int.natAbs_mul];omega
theorem mulN{a b:Int}(h:(a<0/\0<=b)\/(0<=a/\b<0)):(-((a.natAbs*b.natAbs:Nat):Int))=a*b:=by
 have hp:0<= -(a*b):=by rcases h with h|h;have:=Int.mul_nonneg (show 0<= -a by omega) h.2;rwa [Int.neg_mul] at this;have:=Int.mul_nonneg h.1 (show 0<= -b by omega);rwa [Int.mul_neg] at this
 rw[<-Int.natAbs_mul];omega
theorem num_nn{q:Rat}(h:¬q<0):0<=q.num:=by
 have:¬q.num<0:=λz=>h<|Qz.1 z;omega
theorem QJ(a b:Nat):(Zcy a b= -1/\a<b)\/(Zcy a b=0/\a=b)\/(Zcy a b=1/\b<a):=by
 unfold Zcy;split;exact .inl ⟨rfl,by assumption⟩;split;exact .inr (.inr ⟨rfl,by assumption⟩);exact .inr (.inl ⟨rfl,by omega⟩)
def XV(T:Tb):List (Nat × PrF Ato):=(102,pRLow T)::symTabG T
theorem YS:TabOK XV:=by
 intro T K base ρ bd T0 hT hg p hp;simp only[XV,List.mem_cons] at hp;rcases hp with rfl|hp;exact pRLow_ok hg;exact symTabG_OK hg p hp
end
def rnn_r:List Rw:=[⟨[2,0],1,0⟩]
def rnn_T(cs:CL):Tb:=⟨rnn_r,cs,50000000000⟩
def rnn_G(cs:CL)(r:SV Ato):Prop:=Zdn XV (rnn_T cs) 112 [.agg [.bool true,.at_ (.g 0),.at_ (.h 0)]] r 100
def rnn_R(a0:Rat):Nat->AV:=rho (rnn_T []) (YV [a0])
theorem rnn_p0:rnn_G [] (.agg [.bool false,.at_ (.g 0),.at_ (.h 0)]):=λ_ _ _=>by kernel_rfl
def rnp_r:List Rw:=[⟨[2,0],1,0⟩]
def rnp_T(cs:CL):Tb:=⟨rnp_r,cs,50000000000⟩
def rnp_G(cs:CL)(r:SV Ato):Prop:=Zdn XV (rnp_T cs) 112 [.agg [.bool false,.at_ (.g 0),.at_ (.h 0)]] r 100
def rnp_R(a0:Rat):Nat->AV:=rho (rnp_T []) (YV [a0])
def rnp_k0:CL:=([19,0],1)::[]
theorem rnp_p1:rnp_G rnp_k0 (.agg [.bool false,.at_ (.g 0),.at_ (.h 0)]):=λ_ _ _=>by kernel_rfl
def rnp_k1:CL:=([19,0],0)::[]
theorem rnp_p0:rnp_G rnp_k1 (.agg [.bool true,.at_ (.g 0),.at_ (.h 0)]):=λ_ _ _=>by kernel_rfl
theorem cref03_Neg{S:Sh}{w:World}(hS:ZV S w){c_a:List Value}{a0:Rat}{k_a:Nat}(h_a:Gs S c_a [a0] k_a)(hlim_a:k_a<=50000000000):Calls prog 112 [(.agg (c_a:List Value).toArray)].toArray w (Ret S w (λS v=>∃(c0:List Value),v= .agg c0.toArray/\Gs S c0 [-a0] k_a)):=by
 by_cases ha:a0<0;have leaf:=λcs hc {r} (h:rnn_G cs r)=>YX YS (K:=k_a) (base:=YV [a0]) (by kernel_rfl) (by omega) (by kernel_rfl) hS (λ_ _=>(.cons (.agg (gsgn (i:=0) (q:=a0) (k:=k_a) (by kernel_rfl) (le1 _) (h_a.wide (by omega))<|decide_eq_true ha)) .nil)) cs hc h;refine Calls.mono (leaf _ (show Csl (rnn_R a0) [] from .nil) rnn_p0) λe w' ⟨v,S',q1,q2,blk,q3⟩=>⟨v,S',q1,q2,?_⟩
 cases q3 with
 |agg h4=>exact⟨_,rfl,(gneg (i:=0) (q:=a0) (by kernel_rfl) ((decide_eq_false (by grind)).symm) h4).toR rfl ⟨by rw[(Zd1 a0).1,Int.natAbs_neg];exact h_a.le.1,by rw[(Zd1 a0).2];exact h_a.le.2⟩⟩
 ·have leaf:=λcs hc {r} (h:rnp_G cs r)=>YX YS (K:=k_a) (base:=YV [a0]) (by kernel_rfl) (by omega) (by kernel_rfl) hS (λ_ _=>(.cons (.agg (gsgn (i:=0) (q:=a0) (k:=k_a) (by kernel_rfl) (le1 _) (h_a.wide (by omega))<|decide_eq_false ha)) .nil)) cs hc h
  rcases Zgc (rnp_R a0) (t:=19) (is:=[0]) (by decide) with h0|h0;rotate_left
  ·have H0:Csl (rnp_R a0) rnp_k0:=.cons h0 .nil
   have g0:(if a0.num.natAbs=0 then(1:Int) else 0)=_:=tr h0
   refine Calls.mono (leaf _ H0 rnp_p1) λe w' ⟨v,S',q1,q2,blk,q3⟩=>⟨v,S',q1,q2,?_⟩
   cases q3 with
   |agg h4=>exact⟨_,rfl,(gneg (i:=0) (q:=a0) (by kernel_rfl) ((decide_eq_false (by have hz:a0=0:=num0.1 (Int.natAbs_eq_zero.1<|Classical.byContradiction λz=>by rw[if_neg z] at g0;cases g0);grind)).symm) h4).toR rfl ⟨by rw[(Zd1 a0).1,Int.natAbs_neg];exact h_a.le.1,by rw[(Zd1 a0).2];exact h_a.le.2⟩⟩
  have H1:Csl (rnp_R a0) rnp_k1:=.cons h0 .nil
  have g0:(if a0.num.natAbs=0 then(1:Int) else 0)=_:=tr h0
  refine Calls.mono (leaf _ H1 rnp_p0) λe w' ⟨v,S',q1,q2,blk,q3⟩=>⟨v,S',q1,q2,?_⟩
  cases q3 with
  |agg h4=>exact⟨_,rfl,(gneg (i:=0) (q:=a0) (by kernel_rfl) ((decide_eq_true (by have hz:a0≠0:=(λz=>by rw[z] at g0;exact absurd g0 (by decide));grind)).symm) h4).toR rfl ⟨by rw[(Zd1 a0).1,Int.natAbs_neg];exact h_a.le.1,by rw[(Zd1 a0).2];exact h_a.le.2⟩⟩
def rsn_r:List Rw:=[⟨[2,0],1,0⟩]
def rsn_T(cs:CL):Tb:=⟨rsn_r,cs,50000000000⟩
def rsn_G(cs:CL)(r:SV Ato):Prop:=Zdn XV (rsn_T cs) 110 [.agg [.bool true,.at_ (.g 0),.at_ (.h 0)]] r 100
def rsn_R(a0:Rat):Nat->AV:=rho (rsn_T []) (YV [a0])
def rsn_k0:CL:=([19,0],0)::[]
theorem rsn_p0:rsn_G rsn_k0 (.int .i64 (-1)):=λ_ _ _=>by kernel_rfl
def rsp_r:List Rw:=[⟨[2,0],1,0⟩]
def rsp_T(cs:CL):Tb:=⟨rsp_r,cs,50000000000⟩
def rsp_G(cs:CL)(r:SV Ato):Prop:=Zdn XV (rsp_T cs) 110 [.agg [.bool false,.at_ (.g 0),.at_ (.h 0)]] r 100
def rsp_R(a0:Rat):Nat->AV:=rho (rsp_T []) (YV [a0])
def rsp_k0:CL:=([19,0],1)::[]
theorem rsp_p1:rsp_G rsp_k0 (.int .i64 0):=λ_ _ _=>by kernel_rfl
def rsp_k1:CL:=([19,0],0)::[]
theorem rsp_p0:rsp_G rsp_k1 (.int .i64 1):=λ_ _ _=>by kernel_rfl
theorem cref03_Sign{S:Sh}{w:World}(hS:ZV S w){c_a:List Value}{a0:Rat}{k_a:Nat}(h_a:Gs S c_a [a0] k_a)(hlim_a:k_a<=50000000000):Calls prog 110 [(.agg (c_a:List Value).toArray)].toArray w (Ret S w (λS v=>v= .int .i64 (Yu a0.num))):=by
 by_cases ha:a0<0;have leaf:=λcs hc {r} (h:rsn_G cs r)=>YX YS (K:=k_a) (base:=YV [a0]) (by kernel_rfl) (by omega) (by kernel_rfl) hS (λ_ _=>(.cons (.agg (gsgn (i:=0) (q:=a0) (k:=k_a) (by kernel_rfl) (le1 _) (h_a.wide (by omega))<|decide_eq_true ha)) .nil)) cs hc h;have h0:ZI (rsn_R a0) [19,0]=0:=(by kernel_rfl:ZI (rsn_R a0) [19,0]=(if a0.num.natAbs=0 then(1:Int) else 0)).trans (if_neg (by have:=Qz.2 ha;omega));have H0:Csl (rsn_R a0) rsn_k0:=.cons h0 .nil;have g0:(if a0.num.natAbs=0 then(1:Int) else 0)=_:=tr h0;have hz:a0.num≠0:=λz=>by rw[z] at g0;exact absurd g0 (by decide)
 have hs:Yu a0.num= -1:=by have:=Qz.2 ha;unfold Yu;rw[if_neg hz,if_pos (by omega)]
 exact Calls.mono (leaf _ H0 rsn_p0) λe w' ⟨v,S',q1,q2,blk,q3⟩=>⟨v,S',q1,q2,by cases q3;rw[hs]⟩
 ·have leaf:=λcs hc {r} (h:rsp_G cs r)=>YX YS (K:=k_a) (base:=YV [a0]) (by kernel_rfl) (by omega) (by kernel_rfl) hS (λ_ _=>(.cons (.agg (gsgn (i:=0) (q:=a0) (k:=k_a) (by kernel_rfl) (le1 _) (h_a.wide (by omega))<|decide_eq_false ha)) .nil)) cs hc h
  rcases Zgc (rsp_R a0) (t:=19) (is:=[0]) (by decide) with h0|h0;rotate_left
  ·have H0:Csl (rsp_R a0) rsp_k0:=.cons h0 .nil
   have g0:(if a0.num.natAbs=0 then(1:Int) else 0)=_:=tr h0
   have hz:a0.num=0:=Int.natAbs_eq_zero.1 (Classical.byContradiction λz=>by rw[if_neg z] at g0;cases g0)
   have hs:Yu a0.num=0:=by have:=num_nn ha;unfold Yu;rw[if_pos hz]
   exact Calls.mono (leaf _ H0 rsp_p1) λe w' ⟨v,S',q1,q2,blk,q3⟩=>⟨v,S',q1,q2,by cases q3;rw[hs]⟩
  have H1:Csl (rsp_R a0) rsp_k1:=.cons h0 .nil
  have g0:(if a0.num.natAbs=0 then(1:Int) else 0)=_:=tr h0
  have hz:a0.num≠0:=λz=>by rw[z] at g0;exact absurd g0 (by decide)
  have hs:Yu a0.num=1:=by have:=num_nn ha;unfold Yu;rw[if_neg hz,if_neg (by omega)]
  exact Calls.mono (leaf _ H1 rsp_p0) λe w' ⟨v,S',q1,q2,blk,q3⟩=>⟨v,S',q1,q2,by cases q3;rw[hs]⟩
def rann_r:List Rw:=[⟨[2,0],1,0⟩,⟨[2,1],1,0⟩,⟨[20,0],1,0⟩,⟨[16,1],1,0⟩,⟨[24,2,3],2,0⟩,⟨[20,1],1,0⟩,⟨[16,0],1,0⟩,⟨[24,5,6],2,0⟩,⟨[36,4,7],4,1⟩,⟨[24,6,3],2,0⟩,⟨[45,8],4,1⟩,⟨[78,10,9],6,1⟩]
def rann_T(cs:CL):Tb:=⟨rann_r,cs,50000000000⟩
def rann_G(cs:CL)(r:SV Ato):Prop:=Zdn XV (rann_T cs) 132 [.agg [.bool true,.at_ (.g 0),.at_ (.h 0)],.agg [.bool true,.at_ (.g 1),.at_ (.h 1)]] r 100
def rann_R(a0 a1:Rat):Nat->AV:=rho (rann_T []) (YV [a0,a1])
theorem rann_p0:rann_G [] (.agg [.at_ (.s 11),.at_ (.g 11),.at_ (.h 11)]):=λ_ _ _=>by kernel_rfl
def ranp_r:List Rw:=[⟨[2,0],1,0⟩,⟨[2,1],1,0⟩,⟨[20,0],1,0⟩,⟨[16,1],1,0⟩,⟨[24,2,3],2,0⟩,⟨[20,1],1,0⟩,⟨[16,0],1,0⟩,⟨[24,5,6],2,0⟩,⟨[48,7,4],2,0⟩,⟨[24,6,3],2,0⟩,⟨[17,8],2,0⟩,⟨[78,10,9],4,0⟩,⟨[48,4,7],2,0⟩,⟨[45,12],2,0⟩,⟨[78,13,9],4,0⟩]
def ranp_T(cs:CL):Tb:=⟨ranp_r,cs,50000000000⟩
def ranp_G(cs:CL)(r:SV Ato):Prop:=Zdn XV (ranp_T cs) 132 [.agg [.bool true,.at_ (.g 0),.at_ (.h 0)],.agg [.bool false,.at_ (.g 1),.at_ (.h 1)]] r 100
def Zbj(a0 a1:Rat):Nat->AV:=rho (ranp_T []) (YV [a0,a1])
def ranp_k0:CL:=([18,4,7],1)::([6,4,7],0)::[]
theorem ranp_p2:ranp_G ranp_k0 (.agg [.at_ (.s 14),.at_ (.g 14),.at_ (.h 14)]):=λ_ _ _=>by kernel_rfl
def ranp_k1:CL:=([18,4,7],1)::([6,4,7],1)::[]
theorem ranp_p1:ranp_G ranp_k1 (.agg [.at_ (.s 14),.at_ (.g 14),.at_ (.h 14)]):=λ_ _ _=>by kernel_rfl
def ranp_k2:CL:=([18,7,4],1)::([6,4,7],(-1))::[]
theorem ranp_p0:ranp_G ranp_k2 (.agg [.at_ (.s 11),.at_ (.g 11),.at_ (.h 11)]):=λ_ _ _=>by kernel_rfl
def rapn_r:List Rw:=[⟨[2,0],1,0⟩,⟨[2,1],1,0⟩,⟨[20,0],1,0⟩,⟨[16,1],1,0⟩,⟨[24,2,3],2,0⟩,⟨[20,1],1,0⟩,⟨[16,0],1,0⟩,⟨[24,5,6],2,0⟩,⟨[48,7,4],2,0⟩,⟨[24,6,3],2,0⟩,⟨[45,8],2,0⟩,⟨[78,10,9],4,0⟩,⟨[48,4,7],2,0⟩,⟨[17,12],2,0⟩,⟨[78,13,9],4,0⟩]
def rapn_T(cs:CL):Tb:=⟨rapn_r,cs,50000000000⟩
def rapn_G(cs:CL)(r:SV Ato):Prop:=Zdn XV (rapn_T cs) 132 [.agg [.bool false,.at_ (.g 0),.at_ (.h 0)],.agg [.bool true,.at_ (.g 1),.at_ (.h 1)]] r 100
def Zbi(a0 a1:Rat):Nat->AV:=rho (rapn_T []) (YV [a0,a1])
def rapn_k0:CL:=([18,4,7],1)::([6,4,7],0)::[]
theorem rapn_p2:rapn_G rapn_k0 (.agg [.at_ (.s 14),.at_ (.g 14),.at_ (.h 14)]):=λ_ _ _=>by kernel_rfl
def rapn_k1:CL:=([18,4,7],1)::([6,4,7],1)::[]
theorem rapn_p1:rapn_G rapn_k1 (.agg [.at_ (.s 14),.at_ (.g 14),.at_ (.h 14)]):=λ_ _ _=>by kernel_rfl
def rapn_k2:CL:=([18,7,4],1)::([6,4,7],(-1))::[]
theorem rapn_p0:rapn_G rapn_k2 (.agg [.at_ (.s 11),.at_ (.g 11),.at_ (.h 11)]):=λ_ _ _=>by kernel_rfl
def rapp_r:List Rw:=[⟨[2,0],1,0⟩,⟨[2,1],1,0⟩,⟨[20,0],1,0⟩,⟨[16,1],1,0⟩,⟨[24,2,3],2,0⟩,⟨[20,1],1,0⟩,⟨[16,0],1,0⟩,⟨[24,5,6],2,0⟩,⟨[36,4,7],4,1⟩,⟨[24,6,3],2,0⟩,⟨[17,8],4,1⟩,⟨[78,10,9],6,1⟩]
def rapp_T(cs:CL):Tb:=⟨rapp_r,cs,50000000000⟩
def rapp_G(cs:CL)(r:SV Ato):Prop:=Zdn XV (rapp_T cs) 132 [.agg [.bool false,.at_ (.g 0),.at_ (.h 0)],.agg [.bool false,.at_ (.g 1),.at_ (.h 1)]] r 100
def rapp_R(a0 a1:Rat):Nat->AV:=rho (rapp_T []) (YV [a0,a1])
theorem rapp_p0:rapp_G [] (.agg [.at_ (.s 11),.at_ (.g 11),.at_ (.h 11)]):=λ_ _ _=>by kernel_rfl
theorem cref03_Add{S:Sh}{w:World}(hS:ZV S w){c_a:List Value}{a0:Rat}{k_a:Nat}(h_a:Gs S c_a [a0] k_a){c_b:List Value}{a1:Rat}{k_b:Nat}(h_b:Gs S c_b [a1] k_b)(hlim_a:k_a<=50000000000)(hlim_b:k_b<=50000000000):Calls prog 132 [(.agg (c_a:List Value).toArray),(.agg (c_b:List Value).toArray)].toArray w (Ret S w (λS v=>∃(c0:List Value),v= .agg c0.toArray/\Gs S c0 [a0+a1] (k_a+k_b+1))):=by
 by_cases ha:a0<0
 ·by_cases hb:a1<0
  ·have leaf:=λcs hc {r} (h:rann_G cs r)=>YX YS (K:=max k_a k_b) (base:=YV [a0,a1]) (by kernel_rfl) (by omega) (by kernel_rfl) hS (λ_ _=>(.cons (.agg (gsgn (i:=0) (q:=a0) (k:=max k_a k_b) (by kernel_rfl) (le1 _) (h_a.wide (by omega))<|decide_eq_true ha)) (.cons (.agg (gsgn (i:=1) (q:=a1) (k:=max k_a k_b) (by kernel_rfl) (le1 _) (h_b.wide (by omega))<|decide_eq_true hb)) .nil))) cs hc h
   refine Calls.mono (leaf _ (show Csl (rann_R a0 a1) [] from .nil) rann_p0) λe w' ⟨v,S',q1,q2,blk,q3⟩=>⟨v,S',q1,q2,?_⟩
   cases q3 with
   |agg h4=>exact⟨_,rfl,(Zex (i:=11) (q:=(mkRat (-((((a0.num.natAbs*a1.den)+(a1.num.natAbs*a0.den)):Nat):Int)) (a0.den*a1.den))) (by kernel_rfl) h4).toR ((congrArg (λz=>mkRat z (a0.den*a1.den)) (by rw[numN ha a1.den,numN hb a0.den];omega)).trans Qn) (Zet h_a.le.1 h_a.le.2 h_b.le.1 h_b.le.2)⟩
  ·have leaf:=λcs hc {r} (h:ranp_G cs r)=>YX YS (K:=max k_a k_b) (base:=YV [a0,a1]) (by kernel_rfl) (by omega) (by kernel_rfl) hS (λ_ _=>(.cons (.agg (gsgn (i:=0) (q:=a0) (k:=max k_a k_b) (by kernel_rfl) (le1 _) (h_a.wide (by omega))<|decide_eq_true ha)) (.cons (.agg (gsgn (i:=1) (q:=a1) (k:=max k_a k_b) (by kernel_rfl) (le1 _) (h_b.wide (by omega))<|decide_eq_false hb)) .nil))) cs hc h
   rcases Zcm (Zbj a0 a1) (t:=6) (is:=[4,7]) (by decide) with h0|h0|h0;rotate_left
   ·have h1:ZI (Zbj a0 a1) [18,4,7]=1:=(by kernel_rfl:ZI (Zbj a0 a1) [18,4,7]=(if(a1.num.natAbs*a0.den)<=(a0.num.natAbs*a1.den) then(1:Int) else 0)).trans (if_pos (by have g:Zcy (a0.num.natAbs*a1.den) (a1.num.natAbs*a0.den)=_:=tr h0;have s:=QJ (a0.num.natAbs*a1.den) (a1.num.natAbs*a0.den);omega))
    have H0:Csl (Zbj a0 a1) ranp_k0:=.cons h1 (.cons h0 .nil)
    have g6:Zcy (a0.num.natAbs*a1.den) (a1.num.natAbs*a0.den)=_:=tr h0;have s6:=QJ (a0.num.natAbs*a1.den) (a1.num.natAbs*a0.den)
    refine Calls.mono (leaf _ H0 ranp_p2) λe w' ⟨v,S',q1,q2,blk,q3⟩=>⟨v,S',q1,q2,?_⟩
    cases q3 with
    |agg h4=>exact⟨_,rfl,(Zex (i:=14) (q:=(mkRat (-((((a0.num.natAbs*a1.den)-(a1.num.natAbs*a0.den)):Nat):Int)) (a0.den*a1.den))) (by kernel_rfl) h4).toR ((congrArg (λz=>mkRat z (a0.den*a1.den)) (by rw[numN ha a1.den,numP hb a0.den];omega)).trans Qn) (Zet h_a.le.1 h_a.le.2 h_b.le.1 h_b.le.2)⟩
   ·have h2:ZI (Zbj a0 a1) [18,4,7]=1:=(by kernel_rfl:ZI (Zbj a0 a1) [18,4,7]=(if(a1.num.natAbs*a0.den)<=(a0.num.natAbs*a1.den) then(1:Int) else 0)).trans (if_pos (by have g:Zcy (a0.num.natAbs*a1.den) (a1.num.natAbs*a0.den)=_:=tr h0;have s:=QJ (a0.num.natAbs*a1.den) (a1.num.natAbs*a0.den);omega))
    have H1:Csl (Zbj a0 a1) ranp_k1:=.cons h2 (.cons h0 .nil)
    have g6:Zcy (a0.num.natAbs*a1.den) (a1.num.natAbs*a0.den)=_:=tr h0;have s6:=QJ (a0.num.natAbs*a1.den) (a1.num.natAbs*a0.den)
    refine Calls.mono (leaf _ H1 ranp_p1) λe w' ⟨v,S',q1,q2,blk,q3⟩=>⟨v,S',q1,q2,?_⟩
    cases q3 with
    |agg h4=>exact⟨_,rfl,(Zex (i:=14) (q:=(mkRat (-((((a0.num.natAbs*a1.den)-(a1.num.natAbs*a0.den)):Nat):Int)) (a0.den*a1.den))) (by kernel_rfl) h4).toR ((congrArg (λz=>mkRat z (a0.den*a1.den)) (by rw[numN ha a1.den,numP hb a0.den];omega)).trans Qn) (Zet h_a.le.1 h_a.le.2 h_b.le.1 h_b.le.2)⟩
   have h3:ZI (Zbj a0 a1) [18,7,4]=1:=(by kernel_rfl:ZI (Zbj a0 a1) [18,7,4]=(if(a0.num.natAbs*a1.den)<=(a1.num.natAbs*a0.den) then(1:Int) else 0)).trans (if_pos (by have g:Zcy (a0.num.natAbs*a1.den) (a1.num.natAbs*a0.den)=_:=tr h0;have s:=QJ (a0.num.natAbs*a1.den) (a1.num.natAbs*a0.den);omega))
   have H2:Csl (Zbj a0 a1) ranp_k2:=.cons h3 (.cons h0 .nil)
   have g6:Zcy (a0.num.natAbs*a1.den) (a1.num.natAbs*a0.den)=_:=tr h0;have s6:=QJ (a0.num.natAbs*a1.den) (a1.num.natAbs*a0.den)
   refine Calls.mono (leaf _ H2 ranp_p0) λe w' ⟨v,S',q1,q2,blk,q3⟩=>⟨v,S',q1,q2,?_⟩
   cases q3 with
   |agg h4=>exact⟨_,rfl,(Zex (i:=11) (q:=(mkRat ((((a1.num.natAbs*a0.den)-(a0.num.natAbs*a1.den)):Nat):Int) (a0.den*a1.den))) (by kernel_rfl) h4).toR ((congrArg (λz=>mkRat z (a0.den*a1.den)) (by rw[numN ha a1.den,numP hb a0.den];omega)).trans Qn) (Zet h_a.le.1 h_a.le.2 h_b.le.1 h_b.le.2)⟩
 ·by_cases hb:a1<0
  ·have leaf:=λcs hc {r} (h:rapn_G cs r)=>YX YS (K:=max k_a k_b) (base:=YV [a0,a1]) (by kernel_rfl) (by omega) (by kernel_rfl) hS (λ_ _=>(.cons (.agg (gsgn (i:=0) (q:=a0) (k:=max k_a k_b) (by kernel_rfl) (le1 _) (h_a.wide (by omega))<|decide_eq_false ha)) (.cons (.agg (gsgn (i:=1) (q:=a1) (k:=max k_a k_b) (by kernel_rfl) (le1 _) (h_b.wide (by omega))<|decide_eq_true hb)) .nil))) cs hc h
   rcases Zcm (Zbi a0 a1) (t:=6) (is:=[4,7]) (by decide) with h0|h0|h0;rotate_left
   ·have h1:ZI (Zbi a0 a1) [18,4,7]=1:=(by kernel_rfl:ZI (Zbi a0 a1) [18,4,7]=(if(a1.num.natAbs*a0.den)<=(a0.num.natAbs*a1.den) then(1:Int) else 0)).trans (if_pos (by have g:Zcy (a0.num.natAbs*a1.den) (a1.num.natAbs*a0.den)=_:=tr h0;have s:=QJ (a0.num.natAbs*a1.den) (a1.num.natAbs*a0.den);omega))
    have H0:Csl (Zbi a0 a1) rapn_k0:=.cons h1 (.cons h0 .nil)
    have g6:Zcy (a0.num.natAbs*a1.den) (a1.num.natAbs*a0.den)=_:=tr h0;have s6:=QJ (a0.num.natAbs*a1.den) (a1.num.natAbs*a0.den)
    refine Calls.mono (leaf _ H0 rapn_p2) λe w' ⟨v,S',q1,q2,blk,q3⟩=>⟨v,S',q1,q2,?_⟩
    cases q3 with
    |agg h4=>exact⟨_,rfl,(Zex (i:=14) (q:=(mkRat ((((a0.num.natAbs*a1.den)-(a1.num.natAbs*a0.den)):Nat):Int) (a0.den*a1.den))) (by kernel_rfl) h4).toR ((congrArg (λz=>mkRat z (a0.den*a1.den)) (by rw[numP ha a1.den,numN hb a0.den];omega)).trans Qn) (Zet h_a.le.1 h_a.le.2 h_b.le.1 h_b.le.2)⟩
   ·have h2:ZI (Zbi a0 a1) [18,4,7]=1:=(by kernel_rfl:ZI (Zbi a0 a1) [18,4,7]=(if(a1.num.natAbs*a0.den)<=(a0.num.natAbs*a1.den) then(1:Int) else 0)).trans (if_pos (by have g:Zcy (a0.num.natAbs*a1.den) (a1.num.natAbs*a0.den)=_:=tr h0;have s:=QJ (a0.num.natAbs*a1.den) (a1.num.natAbs*a0.den);omega))
    have H1:Csl (Zbi a0 a1) rapn_k1:=.cons h2 (.cons h0 .nil)
    have g6:Zcy (a0.num.natAbs*a1.den) (a1.num.natAbs*a0.den)=_:=tr h0;have s6:=QJ (a0.num.natAbs*a1.den) (a1.num.natAbs*a0.den)
    refine Calls.mono (leaf _ H1 rapn_p1) λe w' ⟨v,S',q1,q2,blk,q3⟩=>⟨v,S',q1,q2,?_⟩
    cases q3 with
    |agg h4=>exact⟨_,rfl,(Zex (i:=14) (q:=(mkRat ((((a0.num.natAbs*a1.den)-(a1.num.natAbs*a0.den)):Nat):Int) (a0.den*a1.den))) (by kernel_rfl) h4).toR ((congrArg (λz=>mkRat z (a0.den*a1.den)) (by rw[numP ha a1.den,numN hb a0.den];omega)).trans Qn) (Zet h_a.le.1 h_a.le.2 h_b.le.1 h_b.le.2)⟩
   have h3:ZI (Zbi a0 a1) [18,7,4]=1:=(by kernel_rfl:ZI (Zbi a0 a1) [18,7,4]=(if(a0.num.natAbs*a1.den)<=(a1.num.natAbs*a0.den) then(1:Int) else 0)).trans (if_pos (by have g:Zcy (a0.num.natAbs*a1.den) (a1.num.natAbs*a0.den)=_:=tr h0;have s:=QJ (a0.num.natAbs*a1.den) (a1.num.natAbs*a0.den);omega))
   have H2:Csl (Zbi a0 a1) rapn_k2:=.cons h3 (.cons h0 .nil)
   have g6:Zcy (a0.num.natAbs*a1.den) (a1.num.natAbs*a0.den)=_:=tr h0;have s6:=QJ (a0.num.natAbs*a1.den) (a1.num.natAbs*a0.den)
   refine Calls.mono (leaf _ H2 rapn_p0) λe w' ⟨v,S',q1,q2,blk,q3⟩=>⟨v,S',q1,q2,?_⟩
   cases q3 with
   |agg h4=>exact⟨_,rfl,(Zex (i:=11) (q:=(mkRat (-((((a1.num.natAbs*a0.den)-(a0.num.natAbs*a1.den)):Nat):Int)) (a0.den*a1.den))) (by kernel_rfl) h4).toR ((congrArg (λz=>mkRat z (a0.den*a1.den)) (by rw[numP ha a1.den,numN hb a0.den];omega)).trans Qn) (Zet h_a.le.1 h_a.le.2 h_b.le.1 h_b.le.2)⟩
  ·have leaf:=λcs hc {r} (h:rapp_G cs r)=>YX YS (K:=max k_a k_b) (base:=YV [a0,a1]) (by kernel_rfl) (by omega) (by kernel_rfl) hS (λ_ _=>(.cons (.agg (gsgn (i:=0) (q:=a0) (k:=max k_a k_b) (by kernel_rfl) (le1 _) (h_a.wide (by omega))<|decide_eq_false ha)) (.cons (.agg (gsgn (i:=1) (q:=a1) (k:=max k_a k_b) (by kernel_rfl) (le1 _) (h_b.wide (by omega))<|decide_eq_false hb)) .nil))) cs hc h
   refine Calls.mono (leaf _ (show Csl (rapp_R a0 a1) [] from .nil) rapp_p0) λe w' ⟨v,S',q1,q2,blk,q3⟩=>⟨v,S',q1,q2,?_⟩
   cases q3 with
   |agg h4=>exact⟨_,rfl,(Zex (i:=11) (q:=(mkRat ((((a0.num.natAbs*a1.den)+(a1.num.natAbs*a0.den)):Nat):Int) (a0.den*a1.den))) (by kernel_rfl) h4).toR ((congrArg (λz=>mkRat z (a0.den*a1.den)) (by rw[numP ha a1.den,numP hb a0.den];omega)).trans Qn) (Zet h_a.le.1 h_a.le.2 h_b.le.1 h_b.le.2)⟩
def rmnn_r:List Rw:=[⟨[2,0],1,0⟩,⟨[2,1],1,0⟩,⟨[20,0],1,0⟩,⟨[20,1],1,0⟩,⟨[24,2,3],2,0⟩,⟨[16,0],1,0⟩,⟨[16,1],1,0⟩,⟨[24,5,6],2,0⟩,⟨[17,4],2,0⟩,⟨[78,8,7],4,0⟩]
def rmnn_T(cs:CL):Tb:=⟨rmnn_r,cs,50000000000⟩
def rmnn_G(cs:CL)(r:SV Ato):Prop:=Zdn XV (rmnn_T cs) 38 [.agg [.bool true,.at_ (.g 0),.at_ (.h 0)],.agg [.bool true,.at_ (.g 1),.at_ (.h 1)]] r 100
def rmnn_R(a0 a1:Rat):Nat->AV:=rho (rmnn_T []) (YV [a0,a1])
theorem rmnn_p0:rmnn_G [] (.agg [.at_ (.s 9),.at_ (.g 9),.at_ (.h 9)]):=λ_ _ _=>by kernel_rfl
def rmnp_r:List Rw:=[⟨[2,0],1,0⟩,⟨[2,1],1,0⟩,⟨[20,0],1,0⟩,⟨[20,1],1,0⟩,⟨[24,2,3],2,0⟩,⟨[16,0],1,0⟩,⟨[16,1],1,0⟩,⟨[24,5,6],2,0⟩,⟨[45,4],2,0⟩,⟨[78,8,7],4,0⟩]
def rmnp_T(cs:CL):Tb:=⟨rmnp_r,cs,50000000000⟩
def rmnp_G(cs:CL)(r:SV Ato):Prop:=Zdn XV (rmnp_T cs) 38 [.agg [.bool true,.at_ (.g 0),.at_ (.h 0)],.agg [.bool false,.at_ (.g 1),.at_ (.h 1)]] r 100
def rmnp_R(a0 a1:Rat):Nat->AV:=rho (rmnp_T []) (YV [a0,a1])
theorem rmnp_p0:rmnp_G [] (.agg [.at_ (.s 9),.at_ (.g 9),.at_ (.h 9)]):=λ_ _ _=>by kernel_rfl
def rmpn_r:List Rw:=[⟨[2,0],1,0⟩,⟨[2,1],1,0⟩,⟨[20,0],1,0⟩,⟨[20,1],1,0⟩,⟨[24,2,3],2,0⟩,⟨[16,0],1,0⟩,⟨[16,1],1,0⟩,⟨[24,5,6],2,0⟩,⟨[45,4],2,0⟩,⟨[78,8,7],4,0⟩]
def rmpn_T(cs:CL):Tb:=⟨rmpn_r,cs,50000000000⟩
def rmpn_G(cs:CL)(r:SV Ato):Prop:=Zdn XV (rmpn_T cs) 38 [.agg [.bool false,.at_ (.g 0),.at_ (.h 0)],.agg [.bool true,.at_ (.g 1),.at_ (.h 1)]] r 100
def rmpn_R(a0 a1:Rat):Nat->AV:=rho (rmpn_T []) (YV [a0,a1])
theorem rmpn_p0:rmpn_G [] (.agg [.at_ (.s 9),.at_ (.g 9),.at_ (.h 9)]):=λ_ _ _=>by kernel_rfl
def rmpp_r:List Rw:=[⟨[2,0],1,0⟩,⟨[2,1],1,0⟩,⟨[20,0],1,0⟩,⟨[20,1],1,0⟩,⟨[24,2,3],2,0⟩,⟨[16,0],1,0⟩,⟨[16,1],1,0⟩,⟨[24,5,6],2,0⟩,⟨[17,4],2,0⟩,⟨[78,8,7],4,0⟩]
def rmpp_T(cs:CL):Tb:=⟨rmpp_r,cs,50000000000⟩
def rmpp_G(cs:CL)(r:SV Ato):Prop:=Zdn XV (rmpp_T cs) 38 [.agg [.bool false,.at_ (.g 0),.at_ (.h 0)],.agg [.bool false,.at_ (.g 1),.at_ (.h 1)]] r 100
def rmpp_R(a0 a1:Rat):Nat->AV:=rho (rmpp_T []) (YV [a0,a1])
theorem rmpp_p0:rmpp_G [] (.agg [.at_ (.s 9),.at_ (.g 9),.at_ (.h 9)]):=λ_ _ _=>by kernel_rfl
theorem cref03_Mul{S:Sh}{w:World}(hS:ZV S w){c_a:List Value}{a0:Rat}{k_a:Nat}(h_a:Gs S c_a [a0] k_a){c_b:List Value}{a1:Rat}{k_b:Nat}(h_b:Gs S c_b [a1] k_b)(hlim_a:k_a<=50000000000)(hlim_b:k_b<=50000000000):Calls prog 38 [(.agg (c_a:List Value).toArray),(.agg (c_b:List Value).toArray)].toArray w (Ret S w (λS v=>∃(c0:List Value),v= .agg c0.toArray/\Gs S c0 [a0*a1] (k_a+k_b))):=by
 by_cases ha:a0<0;by_cases hb:a1<0;have leaf:=λcs hc {r} (h:rmnn_G cs r)=>YX YS (K:=max k_a k_b) (base:=YV [a0,a1]) (by kernel_rfl) (by omega) (by kernel_rfl) hS (λ_ _=>(.cons (.agg (gsgn (i:=0) (q:=a0) (k:=max k_a k_b) (by kernel_rfl) (le1 _) (h_a.wide (by omega))<|decide_eq_true ha)) (.cons (.agg (gsgn (i:=1) (q:=a1) (k:=max k_a k_b) (by kernel_rfl) (le1 _) (h_b.wide (by omega))<|decide_eq_true hb)) .nil))) cs hc h;refine Calls.mono (leaf _ (show Csl (rmnn_R a0 a1) [] from .nil) rmnn_p0) λe w' ⟨v,S',q1,q2,blk,q3⟩=>⟨v,S',q1,q2,?_⟩
 cases q3 with
 |agg h4=>exact⟨_,rfl,(Zex (i:=9) (q:=(mkRat (((a0.num.natAbs*(a1).num.natAbs):Nat):Int) (a0.den*a1.den))) (by kernel_rfl) h4).toR ((congrArg (λz=>mkRat z (a0.den*a1.den))<|mulP<|.inl ⟨(Qz.2 ha),(Qz.2 hb)⟩).trans Zcc) (mul_bd h_a.le.1 h_a.le.2 h_b.le.1 h_b.le.2)⟩
 have leaf:=λcs hc {r} (h:rmnp_G cs r)=>YX YS (K:=max k_a k_b) (base:=YV [a0,a1]) (by kernel_rfl) (by omega) (by kernel_rfl) hS (λ_ _=>(.cons (.agg (gsgn (i:=0) (q:=a0) (k:=max k_a k_b) (by kernel_rfl) (le1 _) (h_a.wide (by omega))<|decide_eq_true ha)) (.cons (.agg (gsgn (i:=1) (q:=a1) (k:=max k_a k_b) (by kernel_rfl) (le1 _) (h_b.wide (by omega))<|decide_eq_false hb)) .nil))) cs hc h;refine Calls.mono (leaf _ (show Csl (rmnp_R a0 a1) [] from .nil) rmnp_p0) λe w' ⟨v,S',q1,q2,blk,q3⟩=>⟨v,S',q1,q2,?_⟩
 cases q3 with
 |agg h4=>exact⟨_,rfl,(Zex (i:=9) (q:=(mkRat (-(((a0.num.natAbs*(a1).num.natAbs):Nat):Int)) (a0.den*a1.den))) (by kernel_rfl) h4).toR ((congrArg (λz=>mkRat z (a0.den*a1.den))<|mulN<|.inl ⟨(Qz.2 ha),(num_nn hb)⟩).trans Zcc) (mul_bd h_a.le.1 h_a.le.2 h_b.le.1 h_b.le.2)⟩
 by_cases hb:a1<0;have leaf:=λcs hc {r} (h:rmpn_G cs r)=>YX YS (K:=max k_a k_b) (base:=YV [a0,a1]) (by kernel_rfl) (by omega) (by kernel_rfl) hS (λ_ _=>(.cons (.agg (gsgn (i:=0) (q:=a0) (k:=max k_a k_b) (by kernel_rfl) (le1 _) (h_a.wide (by omega))<|decide_eq_false ha)) (.cons (.agg (gsgn (i:=1) (q:=a1) (k:=max k_a k_b) (by kernel_rfl) (le1 _) (h_b.wide (by omega))<|decide_eq_true hb)) .nil))) cs hc h;refine Calls.mono (leaf _ (show Csl (rmpn_R a0 a1) [] from .nil) rmpn_p0) λe w' ⟨v,S',q1,q2,blk,q3⟩=>⟨v,S',q1,q2,?_⟩
 cases q3 with
 |agg h4=>exact⟨_,rfl,(Zex (i:=9) (q:=(mkRat (-(((a0.num.natAbs*(a1).num.natAbs):Nat):Int)) (a0.den*a1.den))) (by kernel_rfl) h4).toR ((congrArg (λz=>mkRat z (a0.den*a1.den))<|mulN<|.inr ⟨(num_nn ha),(Qz.2 hb)⟩).trans Zcc) (mul_bd h_a.le.1 h_a.le.2 h_b.le.1 h_b.le.2)⟩
 have leaf:=λcs hc {r} (h:rmpp_G cs r)=>YX YS (K:=max k_a k_b) (base:=YV [a0,a1]) (by kernel_rfl) (by omega) (by kernel_rfl) hS (λ_ _=>(.cons (.agg (gsgn (i:=0) (q:=a0) (k:=max k_a k_b) (by kernel_rfl) (le1 _) (h_a.wide (by omega))<|decide_eq_false ha)) (.cons (.agg (gsgn (i:=1) (q:=a1) (k:=max k_a k_b) (by kernel_rfl) (le1 _) (h_b.wide (by omega))<|decide_eq_false hb)) .nil))) cs hc h;refine Calls.mono (leaf _ (show Csl (rmpp_R a0 a1) [] from .nil) rmpp_p0) λe w' ⟨v,S',q1,q2,blk,q3⟩=>⟨v,S',q1,q2,?_⟩
 cases q3 with
 |agg h4=>exact⟨_,rfl,(Zex (i:=9) (q:=(mkRat (((a0.num.natAbs*(a1).num.natAbs):Nat):Int) (a0.den*a1.den))) (by kernel_rfl) h4).toR ((congrArg (λz=>mkRat z (a0.den*a1.den))<|mulP<|.inr ⟨(num_nn ha),(num_nn hb)⟩).trans Zcc) (mul_bd h_a.le.1 h_a.le.2 h_b.le.1 h_b.le.2)⟩
def rdnn_r:List Rw:=[⟨[2,0],1,0⟩,⟨[2,1],1,0⟩,⟨[20,0],1,0⟩,⟨[16,1],1,0⟩,⟨[24,2,3],2,0⟩,⟨[16,0],1,0⟩,⟨[20,1],1,0⟩,⟨[24,5,6],2,0⟩,⟨[17,4],2,0⟩,⟨[78,8,7],4,0⟩]
def rdnn_T(cs:CL):Tb:=⟨rdnn_r,cs,50000000000⟩
def rdnn_G(cs:CL)(r:SV Ato):Prop:=Zdn XV (rdnn_T cs) 111 [.agg [.bool true,.at_ (.g 0),.at_ (.h 0)],.agg [.bool true,.at_ (.g 1),.at_ (.h 1)]] r 100
def rdnn_R(a0 a1:Rat):Nat->AV:=rho (rdnn_T []) (YV [a0,a1])
def rdnn_k0:CL:=([5,7],0)::[]
theorem rdnn_p0:rdnn_G rdnn_k0 (.agg [.at_ (.s 9),.at_ (.g 9),.at_ (.h 9)]):=λ_ _ _=>by kernel_rfl
def rdnp_r:List Rw:=[⟨[2,0],1,0⟩,⟨[2,1],1,0⟩,⟨[20,0],1,0⟩,⟨[16,1],1,0⟩,⟨[24,2,3],2,0⟩,⟨[16,0],1,0⟩,⟨[20,1],1,0⟩,⟨[24,5,6],2,0⟩,⟨[45,4],2,0⟩,⟨[78,8,7],4,0⟩]
def rdnp_T(cs:CL):Tb:=⟨rdnp_r,cs,50000000000⟩
def rdnp_G(cs:CL)(r:SV Ato):Prop:=Zdn XV (rdnp_T cs) 111 [.agg [.bool true,.at_ (.g 0),.at_ (.h 0)],.agg [.bool false,.at_ (.g 1),.at_ (.h 1)]] r 100
def rdnp_R(a0 a1:Rat):Nat->AV:=rho (rdnp_T []) (YV [a0,a1])
def rdnp_k0:CL:=([5,7],0)::[]
theorem rdnp_p0:rdnp_G rdnp_k0 (.agg [.at_ (.s 9),.at_ (.g 9),.at_ (.h 9)]):=λ_ _ _=>by kernel_rfl
def rdpn_r:List Rw:=[⟨[2,0],1,0⟩,⟨[2,1],1,0⟩,⟨[20,0],1,0⟩,⟨[16,1],1,0⟩,⟨[24,2,3],2,0⟩,⟨[16,0],1,0⟩,⟨[20,1],1,0⟩,⟨[24,5,6],2,0⟩,⟨[45,4],2,0⟩,⟨[78,8,7],4,0⟩]
def rdpn_T(cs:CL):Tb:=⟨rdpn_r,cs,50000000000⟩
def rdpn_G(cs:CL)(r:SV Ato):Prop:=Zdn XV (rdpn_T cs) 111 [.agg [.bool false,.at_ (.g 0),.at_ (.h 0)],.agg [.bool true,.at_ (.g 1),.at_ (.h 1)]] r 100
def rdpn_R(a0 a1:Rat):Nat->AV:=rho (rdpn_T []) (YV [a0,a1])
def rdpn_k0:CL:=([5,7],0)::[]
theorem rdpn_p0:rdpn_G rdpn_k0 (.agg [.at_ (.s 9),.at_ (.g 9),.at_ (.h 9)]):=λ_ _ _=>by kernel_rfl
def rdpp_r:List Rw:=[⟨[2,0],1,0⟩,⟨[2,1],1,0⟩,⟨[20,0],1,0⟩,⟨[16,1],1,0⟩,⟨[24,2,3],2,0⟩,⟨[16,0],1,0⟩,⟨[20,1],1,0⟩,⟨[24,5,6],2,0⟩,⟨[17,4],2,0⟩,⟨[78,8,7],4,0⟩]
def rdpp_T(cs:CL):Tb:=⟨rdpp_r,cs,50000000000⟩
def rdpp_G(cs:CL)(r:SV Ato):Prop:=Zdn XV (rdpp_T cs) 111 [.agg [.bool false,.at_ (.g 0),.at_ (.h 0)],.agg [.bool false,.at_ (.g 1),.at_ (.h 1)]] r 100
def rdpp_R(a0 a1:Rat):Nat->AV:=rho (rdpp_T []) (YV [a0,a1])
def rdpp_k0:CL:=([5,7],0)::[]
theorem rdpp_p0:rdpp_G rdpp_k0 (.agg [.at_ (.s 9),.at_ (.g 9),.at_ (.h 9)]):=λ_ _ _=>by kernel_rfl
theorem cref03_Div{S:Sh}{w:World}(hS:ZV S w){c_a:List Value}{a0:Rat}{k_a:Nat}(h_a:Gs S c_a [a0] k_a){c_b:List Value}{a1:Rat}{k_b:Nat}(h_b:Gs S c_b [a1] k_b)(hlim_a:k_a<=50000000000)(hlim_b:k_b<=50000000000)(hb0:a1≠0):Calls prog 111 [(.agg (c_a:List Value).toArray),(.agg (c_b:List Value).toArray)].toArray w (Ret S w (λS v=>∃(c0:List Value),v= .agg c0.toArray/\Gs S c0 [a0/a1] (k_a+k_b))):=by
 by_cases ha:a0<0;by_cases hb:a1<0;have leaf:=λcs hc {r} (h:rdnn_G cs r)=>YX YS (K:=max k_a k_b) (base:=YV [a0,a1]) (by kernel_rfl) (by omega) (by kernel_rfl) hS (λ_ _=>(.cons (.agg (gsgn (i:=0) (q:=a0) (k:=max k_a k_b) (by kernel_rfl) (le1 _) (h_a.wide (by omega))<|decide_eq_true ha)) (.cons (.agg (gsgn (i:=1) (q:=a1) (k:=max k_a k_b) (by kernel_rfl) (le1 _) (h_b.wide (by omega))<|decide_eq_true hb)) .nil))) cs hc h;have h0:ZI (rdnn_R a0 a1) [5,7]=0:=(by kernel_rfl:ZI (rdnn_R a0 a1) [5,7]=(if(a0.den*(a1).num.natAbs)=0 then(1:Int) else 0)).trans (if_neg<|Nat.mul_ne_zero a0.den_nz (λz=>hb0<|num0.1<|Int.natAbs_eq_zero.1 z));have H0:Csl (rdnn_R a0 a1) rdnn_k0:=.cons h0 .nil;refine Calls.mono (leaf _ H0 rdnn_p0) λe w' ⟨v,S',q1,q2,blk,q3⟩=>⟨v,S',q1,q2,?_⟩
 cases q3 with
 |agg h4=>exact⟨_,rfl,(Zex (i:=9) (q:=(mkRat (((a0.num.natAbs*a1.den):Nat):Int) (a0.den*(a1).num.natAbs))) (by kernel_rfl) h4).toR ((congrArg (λz=>mkRat z (a0.den*a1.num.natAbs)) (by rw[(show Yu a1.num= -1 by have:=Qz.2 hb;unfold Yu;rw[if_neg (by omega),if_pos (by omega)]),Int.mul_right_comm,numN ha a1.den];omega)).trans (Zcd (λz=>hb0<|num0.1 z))) (div_bd h_a.le.1 h_a.le.2 h_b.le.1 h_b.le.2 (λz=>hb0<|num0.1 z))⟩
 have leaf:=λcs hc {r} (h:rdnp_G cs r)=>YX YS (K:=max k_a k_b) (base:=YV [a0,a1]) (by kernel_rfl) (by omega) (by kernel_rfl) hS (λ_ _=>(.cons (.agg (gsgn (i:=0) (q:=a0) (k:=max k_a k_b) (by kernel_rfl) (le1 _) (h_a.wide (by omega))<|decide_eq_true ha)) (.cons (.agg (gsgn (i:=1) (q:=a1) (k:=max k_a k_b) (by kernel_rfl) (le1 _) (h_b.wide (by omega))<|decide_eq_false hb)) .nil))) cs hc h;have h0:ZI (rdnp_R a0 a1) [5,7]=0:=(by kernel_rfl:ZI (rdnp_R a0 a1) [5,7]=(if(a0.den*(a1).num.natAbs)=0 then(1:Int) else 0)).trans (if_neg<|Nat.mul_ne_zero a0.den_nz (λz=>hb0<|num0.1<|Int.natAbs_eq_zero.1 z));have H0:Csl (rdnp_R a0 a1) rdnp_k0:=.cons h0 .nil;refine Calls.mono (leaf _ H0 rdnp_p0) λe w' ⟨v,S',q1,q2,blk,q3⟩=>⟨v,S',q1,q2,?_⟩
 cases q3 with
 |agg h4=>exact⟨_,rfl,(Zex (i:=9) (q:=(mkRat (-(((a0.num.natAbs*a1.den):Nat):Int)) (a0.den*(a1).num.natAbs))) (by kernel_rfl) h4).toR ((congrArg (λz=>mkRat z (a0.den*a1.num.natAbs)) (by rw[(show Yu a1.num=1 by have:=num_nn hb;have:a1.num≠0:=λz=>hb0<|num0.1 z;unfold Yu;rw[if_neg (by omega),if_neg (by omega)]),Int.mul_right_comm,numN ha a1.den];omega)).trans (Zcd (λz=>hb0<|num0.1 z))) (div_bd h_a.le.1 h_a.le.2 h_b.le.1 h_b.le.2 (λz=>hb0<|num0.1 z))⟩
 by_cases hb:a1<0;have leaf:=λcs hc {r} (h:rdpn_G cs r)=>YX YS (K:=max k_a k_b) (base:=YV [a0,a1]) (by kernel_rfl) (by omega) (by kernel_rfl) hS (λ_ _=>(.cons (.agg (gsgn (i:=0) (q:=a0) (k:=max k_a k_b) (by kernel_rfl) (le1 _) (h_a.wide (by omega))<|decide_eq_false ha)) (.cons (.agg (gsgn (i:=1) (q:=a1) (k:=max k_a k_b) (by kernel_rfl) (le1 _) (h_b.wide (by omega))<|decide_eq_true hb)) .nil))) cs hc h;have h0:ZI (rdpn_R a0 a1) [5,7]=0:=(by kernel_rfl:ZI (rdpn_R a0 a1) [5,7]=(if(a0.den*(a1).num.natAbs)=0 then(1:Int) else 0)).trans (if_neg<|Nat.mul_ne_zero a0.den_nz (λz=>hb0<|num0.1<|Int.natAbs_eq_zero.1 z));have H0:Csl (rdpn_R a0 a1) rdpn_k0:=.cons h0 .nil;refine Calls.mono (leaf _ H0 rdpn_p0) λe w' ⟨v,S',q1,q2,blk,q3⟩=>⟨v,S',q1,q2,?_⟩
 cases q3 with
 |agg h4=>exact⟨_,rfl,(Zex (i:=9) (q:=(mkRat (-(((a0.num.natAbs*a1.den):Nat):Int)) (a0.den*(a1).num.natAbs))) (by kernel_rfl) h4).toR ((congrArg (λz=>mkRat z (a0.den*a1.num.natAbs)) (by rw[(show Yu a1.num= -1 by have:=Qz.2 hb;unfold Yu;rw[if_neg (by omega),if_pos (by omega)]),Int.mul_right_comm,numP ha a1.den];omega)).trans (Zcd (λz=>hb0<|num0.1 z))) (div_bd h_a.le.1 h_a.le.2 h_b.le.1 h_b.le.2 (λz=>hb0<|num0.1 z))⟩
 have leaf:=λcs hc {r} (h:rdpp_G cs r)=>YX YS (K:=max k_a k_b) (base:=YV [a0,a1]) (by kernel_rfl) (by omega) (by kernel_rfl) hS (λ_ _=>(.cons (.agg (gsgn (i:=0) (q:=a0) (k:=max k_a k_b) (by kernel_rfl) (le1 _) (h_a.wide (by omega))<|decide_eq_false ha)) (.cons (.agg (gsgn (i:=1) (q:=a1) (k:=max k_a k_b) (by kernel_rfl) (le1 _) (h_b.wide (by omega))<|decide_eq_false hb)) .nil))) cs hc h;have h0:ZI (rdpp_R a0 a1) [5,7]=0:=(by kernel_rfl:ZI (rdpp_R a0 a1) [5,7]=(if(a0.den*(a1).num.natAbs)=0 then(1:Int) else 0)).trans (if_neg<|Nat.mul_ne_zero a0.den_nz (λz=>hb0<|num0.1<|Int.natAbs_eq_zero.1 z));have H0:Csl (rdpp_R a0 a1) rdpp_k0:=.cons h0 .nil;refine Calls.mono (leaf _ H0 rdpp_p0) λe w' ⟨v,S',q1,q2,blk,q3⟩=>⟨v,S',q1,q2,?_⟩
 cases q3 with
 |agg h4=>exact⟨_,rfl,(Zex (i:=9) (q:=(mkRat (((a0.num.natAbs*a1.den):Nat):Int) (a0.den*(a1).num.natAbs))) (by kernel_rfl) h4).toR ((congrArg (λz=>mkRat z (a0.den*a1.num.natAbs)) (by rw[(show Yu a1.num=1 by have:=num_nn hb;have:a1.num≠0:=λz=>hb0<|num0.1 z;unfold Yu;rw[if_neg (by omega),if_neg (by omega)]),Int.mul_right_comm,numP ha a1.den];omega)).trans (Zcd (λz=>hb0<|num0.1 z))) (div_bd h_a.le.1 h_a.le.2 h_b.le.1 h_b.le.2 (λz=>hb0<|num0.1 z))⟩
section
def asR1(T:Tb)(l:List (SV Ato)):Option Nat:=match l with
 |[.at_ (.s i),.at_ (.g j),.at_ (.h k)]=>match Nat.beq i j&&Nat.beq i k&&isK T i 2 with
  |true=>some i
  |false=>none
 | [.bool false,.at_ (.g i),.at_ (.g j)]=>match isK T i 0 with
  | true=>match Zco T i with
   | some ri=>match Zco T j with
    | some rj=>match eqN rj.key [4,1] with
     | true=>match Zd7 T [17,i] with
      | some (z,_)=>match Zd7 T [14,z] with
       |some (q,rq)=>match leB ri rq with
        |true=>some q
        |false=>none
       |none=>none
      |none=>none
     |false=>none
    |none=>none
   |none=>none
  |false=>none
 |_=>none
def asR(T:Tb)(x:SV Ato):Option Nat:=match x with
 | .agg l=>asR1 T l
 |_=>none
def pR1(T:Tb)(op lim e:Nat):PrF Ato:=λl=>match l with
 | [x]=>match asR T x with
  |some i=>match opK T op lim e [i] with
   |some k=>some (.agg (cR k))
   |none=>none
  |none=>none
 |_=>none
def pR2(T:Tb)(op lim e:Nat):PrF Ato:=λl=>match l with
 | [x,y]=>match asR T x with
  | some i=>match asR T y with
   |some j=>match opK T op lim e [i,j] with
    |some k=>some (.agg (cR k))
    |none=>none
   |none=>none
  |none=>none
 |_=>none
def pRDiv(T:Tb):PrF Ato:=λl=>match l with
 | [x,y]=>match asR T x with
  | some i=>match asR T y with
   | some j=>match Zgn [1,j] T.conds with
    | some s=>match s with
     | .ofNat 0=>none
     |_=>match opK T 34 50000000000 0 [i,j] with
      |some k=>some (.agg (cR k))
      |none=>none
    |none=>none
   |none=>none
  |none=>none
 |_=>none
def pRSign(T:Tb):PrF Ato:=λl=>match l with
 | [x]=>match asR T x with
  | some i=>match limB T 50000000000 [i] with
   |true=>match Zgn [1,i] T.conds with
    |some s=>some (.int .i64 s)
    |none=>none
   |false=>none
  |none=>none
 |_=>none
section
variable{T:Tb}{K:Nat}{base ρ:Nat->AV}{bd:Nat->Nat}{G:Gh}{T0:Tb}{hT:Cs T0 ρ}
theorem Gs.whole{S:Sh}{c1 c2:Value}{n k k':Nat}(h1:Gn S c1 n k)(h2:Gn S c2 1 k'):Gs S [.bool false,c1,c2] [(((n:Nat):Int):Rat)] k:=by
 have e1:((n:Int):Rat).num=(n:Int):=rfl;have e2:((n:Int):Rat).den=1:=rfl;refine Gs.mk ?_ (Gn.toE h1 ?_)<|h2.toR e2.symm ?_;rw[neg_dec,e1];exact(decide_eq_false (by omega)).symm;rw[e1];rfl;rw[e2];exact Nat.one_le_two_pow
theorem Zia(hg:YG T K base ρ bd){x:SV Ato}{i:Nat}{v:Value}(h:asR T x=some i)(hd:Den (DS hT bd) G x v):∃cs,v= .agg cs.toArray/\Gs G.S cs [(ρ i).rat] (bd i):=by
 unfold asR at h;split at h
 cases hd with
 | agg hl =>
  refine⟨_,rfl,?_⟩
  unfold asR1 at h
  split at h
  ·rename_i a b c
   split at h
   ·rename_i hk
    simp only[Bool.and_eq_true] at hk
    obtain⟨⟨h1,h2⟩,h3⟩:=hk
    rw[YY] at h1 h2
    subst h1 h2
    cases h
    exact Zex (AV.k2<|Zce hg h3) hl
   ·cases h
  ·rename_i a b
   split at h
   ·rename_i hk
    split at h
    ·rename_i ri hri
     split at h
     ·rename_i rj hrj
      split at h
      ·rename_i hj
       split at h
       ·rename_i z rz hz
        split at h
        ·rename_i q rq hq
         split at h
         ·rename_i hle
          cases h
          have hb:ρ b= .n 1:=by
           rw[(hg.row _ _ hrj).1,eqN_eq hj];rfl
          obtain⟨c1,c2,rfl,g1,g2⟩:=gcells (AV.k0<|Zce hg hk) hb hl
          obtain⟨f1,f2⟩:=XI hz
          obtain⟨e1,e2⟩:=XI hq
          have hzv:ρ z= .z (((ρ a).nat:Nat):Int):=by rw[(hg.row _ _ f1).1,f2];rfl
          have hqv:ρ i= .q ((((ρ a).nat:Nat):Int):Rat):=by
           rw[(hg.row _ _ e1).1,e2]
           show Zg9 14 [ρ z]=_
           rw[hzv];rfl
          have hle':=leB_ok hle K
          rw[hqv,(hg.row _ _ e1).2]
          rw[(hg.row _ _ hri).2] at g1
          exact(Gs.whole g1 g2).wide hle'
         ·cases h
        ·cases h
       ·cases h
      ·cases h
     ·cases h
    ·cases h
   ·cases h
  ·cases h
 cases h
theorem pR1_ok(hg:YG T K base ρ bd){f op lim e:Nat}(he:ZR prog f=true)(ho:10<op){F:Rat->Rat}(hs:∀x,Zg9 op [x]= .q (F x.rat))(h:∀{S:Sh} {w:World} {c:List Value} {a:Rat} {k:Nat},ZV S w->Gs S c [a] k->k<=lim->Calls prog f [.agg c.toArray].toArray w (Ret S w λS v=>∃c0:List Value,v= .agg c0.toArray/\Gs S c0 [F a] (k+e))):Xq prog (DS hT bd) f (pR1 T op lim e):=by
 intro args r hr G w vs hd hS;unfold pR1 at hr;split at hr;split at hr;rename_i i hi;split at hr;rename_i k hk;cases hr;obtain⟨k1,k2,k3⟩:=opK_ok hg hk ho
 cases hd with
 |cons x1 x2=>
  cases x2
  obtain⟨c,rfl,h5⟩:=Zia hg hi x1
  have b1:=k2 (bd i) (by simp)
  simp only[List.map_cons,List.map_nil] at k1 k3
  rw[hs] at k1
  refine .ret he (h hS h5 b1) λS' v ⟨c0,e,hv⟩=>?_
  rw[e]
  exact .agg (cR_mk k1 (sum1 k3) hv)
 cases hr;cases hr;cases hr
theorem pR2_ok(hg:YG T K base ρ bd){f op lim e:Nat}(he:ZR prog f=true)(ho:10<op){F:Rat->Rat->Rat}(hs:∀x y,Zg9 op [x,y]= .q (F x.rat y.rat))(h:∀{S:Sh} {w:World} {c d:List Value} {a b:Rat} {k l:Nat},ZV S w->Gs S c [a] k->Gs S d [b] l->k<=lim->l<=lim->Calls prog f [.agg c.toArray,.agg d.toArray].toArray w (Ret S w λS v=>∃c0:List Value,v= .agg c0.toArray/\Gs S c0 [F a b] (k+l+e))):Xq prog (DS hT bd) f (pR2 T op lim e):=by
 intro args r hr G w vs hd hS;unfold pR2 at hr;split at hr;split at hr;rename_i i hi;split at hr;rename_i j hj;split at hr;rename_i k hk;cases hr;obtain⟨k1,k2,k3⟩:=opK_ok hg hk ho
 cases hd with
 | cons x1 x2=>
  cases x2 with
  |cons x3 x4=>
   cases x4
   obtain⟨c,rfl,h5⟩:=Zia hg hi x1
   obtain⟨d,rfl,h6⟩:=Zia hg hj x3
   have b1:=k2 (bd i) (by simp)
   have b2:=k2 (bd j) (by simp)
   simp only[List.map_cons,List.map_nil] at k1 k3
   rw[hs] at k1
   refine .ret he (h hS h5 h6 b1 b2) λS' v ⟨c0,e,hv⟩=>?_
   rw[e]
   exact .agg (cR_mk k1 (sum2 k3) hv)
 cases hr;cases hr;cases hr;cases hr
theorem pRDiv_ok(hg:YG T K base ρ bd):Xq prog (DS hT bd) 111 (pRDiv T):=by
 intro args r hr G w vs hd hS;unfold pRDiv at hr;split at hr;split at hr;rename_i i hi;split at hr;rename_i j hj;split at hr;rename_i s hs;split at hr;cases hr;rename_i hn0;split at hr;rename_i k hk;cases hr;obtain⟨k1,k2,k3⟩:=opK_ok hg hk (by decide);have hs':Yu (ρ j).rat.num=s:=hg.cond _ (Zab hs);have hb0:(ρ j).rat≠0:=λz=>hn0 (by rw[<-hs',z];rfl)
 cases hd with
 | cons x1 x2=>
  cases x2 with
  |cons x3 x4=>
   cases x4
   obtain⟨c,rfl,h5⟩:=Zia hg hi x1
   obtain⟨d,rfl,h6⟩:=Zia hg hj x3
   have b1:=k2 (bd i) (by simp)
   have b2:=k2 (bd j) (by simp)
   simp only[List.map_cons,List.map_nil] at k1 k3
   have b3:=sum2 k3
   refine .ret (by kernel_rfl) (cref03_Div hS h5 h6 b1 b2 hb0) λS' v ⟨c0,e,hv⟩=>?_
   rw[e]
   exact .agg (cR_mk k1 (by omega) hv)
 cases hr;cases hr;cases hr;cases hr;cases hr
theorem pRSign_ok(hg:YG T K base ρ bd):Xq prog (DS hT bd) 110 (pRSign T):=by
 intro args r hr G w vs hd hS;unfold pRSign at hr;split at hr;split at hr;rename_i i hi;split at hr;rename_i hl;split at hr;rename_i s hs;cases hr;have hs':Yu (ρ i).rat.num=s:=hg.cond _ (Zab hs);have b1:=QV hg hl (bd i) (by simp)
 cases hd with
 |cons x1 x2=>
  cases x2
  obtain⟨c,rfl,h5⟩:=Zia hg hi x1
  refine .ret (by kernel_rfl) (cref03_Sign hS h5 b1) λS' v hv=>?_
  rw[hv,hs']
  exact .int _ _
 cases hr;cases hr;cases hr;cases hr
end
def symTabS(T:Tb):List (Nat × PrF Ato):=[
 (110,pRSign T),(111,pRDiv T),
 (112,pR1 T 18 50000000000 0),
 (132,pR2 T 22 50000000000 1),
 (38,pR2 T 30 50000000000 0)]++XV T
theorem symTabS_OK:TabOK symTabS:=by
 intro T K base ρ bd T0 hT hg p hp;simp only[symTabS,List.cons_append,List.nil_append,List.mem_cons] at hp;rcases hp with rfl|rfl|rfl|rfl|rfl|hp;exact pRSign_ok hg;exact pRDiv_ok hg;exact pR1_ok hg (by kernel_rfl) (by decide) (λ_=>rfl) λhS h1 h2=>cref03_Neg hS h1 h2;exact pR2_ok hg (by kernel_rfl) (by decide) (λ_ _=>rfl) λhS h1 h2 h3 h4=>cref03_Add hS h1 h2 h3 h4;exact pR2_ok hg (by kernel_rfl) (by decide) (λ_ _=>rfl) λhS h1 h2 h3 h4=>cref03_Mul hS h1 h2 h3 h4;exact YS hg p hp
end
def fl_r:List Rw:=[⟨[1,0],1,0⟩,⟨[0,1],1,0⟩,⟨[12,0],1,0⟩,⟨[28,2,1],2,0⟩,⟨[4,1],0,64⟩,⟨[48,1,4],1,0⟩,⟨[32,2,3],1,0⟩,⟨[40,2,3],1,0⟩,⟨[45,6],1,0⟩,⟨[32,1,3],1,0⟩,⟨[40,1,3],1,0⟩,⟨[48,9,4],1,0⟩,⟨[17,6],1,0⟩]
def fl_T(cs:CL):Tb:=⟨fl_r,cs,549755000000⟩
def fl_G(cs:CL)(r:SV Ato):Prop:=Zdn symTabL (fl_T cs) 99 [.agg [.at_ (.s 0),.at_ (.a 0)],.agg [.at_ (.a 1)]] r 100
def Zha(a0:Int)(a1:Nat):Nat->AV:=rho (fl_T []) (baseZN a0 a1)
def fl_k0:CL:=([16,1],1)::[]
theorem fl_p0:fl_G fl_k0 (.agg [.at_ (.s 0),.at_ (.a 0),.int .u64 0,.sl none 0 0]):=λ_ _ _=>by kernel_rfl
def fl_k1(nh0:Nat):CL:=([16,1],.ofNat (.succ (.succ nh0)))::[]
def fl_k2(nh0:Nat):CL:=([18,1,4],1)::([16,3],1)::(fl_k1 nh0)
theorem fl_p1(nh0:Nat):fl_G (fl_k2 nh0) (.agg [.at_ (.s 0),.at_ (.a 0),.at_ (.a 5)]):=λ_ _ _=>by kernel_rfl
def fl_k3(nh0:Nat)(nh1:Nat):CL:=([18,9,4],1)::([5,3],0)::([16,3],.ofNat (.succ (.succ nh1)))::(fl_k1 nh0)
def fl_k4(nh0:Nat)(nh1:Nat):CL:=([3,0],0)::(fl_k3 nh0 nh1)
theorem fl_p4(nh0:Nat)(nh1:Nat):fl_G (fl_k4 nh0 nh1) (.agg [.at_ (.s 12),.at_ (.a 12),.at_ (.a 11)]):=λ_ _ _=>by kernel_rfl
def fl_k5(nh0:Nat)(nh1:Nat):CL:=([3,0],1)::(fl_k3 nh0 nh1)
theorem fl_p3(nh0:Nat)(nh1:Nat):fl_G (fl_k5 nh0 nh1) (.agg [.at_ (.s 12),.at_ (.a 12),.at_ (.a 11)]):=λ_ _ _=>by kernel_rfl
def fl_k6(nh0:Nat)(nh1:Nat):CL:=([3,0],(-1))::(fl_k3 nh0 nh1)
theorem fl_p2(nh0:Nat)(nh1:Nat):fl_G (fl_k6 nh0 nh1) (.agg [.at_ (.s 8),.at_ (.a 8),.at_ (.a 11)]):=λ_ _ _=>by kernel_rfl
theorem Zde{S:Sh}{w:World}(hS:ZV S w){c_z:List Value}{a0:Int}{k_z:Nat}(h_z:In S c_z a0 k_z){c_d:List Value}{a1:Nat}{k_d:Nat}(h_d:Na S c_d a1 k_d)(hp:0<a1)(hlim:k_z+k_d<=549755000000):Calls prog 99 [(.agg (c_z:List Value).toArray),(.agg (c_d:List Value).toArray)].toArray w (Ret S w (λS v=>∃(c0:List Value),v= .agg c0.toArray/\Fs S c0 [mkRat a0 a1] (k_z+k_d))):=by
 have leaf:=λcs hc {r} (h:fl_G cs r)=>YX symTabL_OK (K:=max k_z k_d) (base:=baseZN a0 a1) (by kernel_rfl) (by omega) (by kernel_rfl) hS (λ_ _=>.cons (.agg (cZ_mk1 (i:=0) (a:=a0) (k:=max k_z k_d) (by kernel_rfl) (le1 _)<|h_z.wide (by omega))) (.cons (.agg (cN_mk1 (i:=1) (a:=a1) (k:=max k_z k_d) (by kernel_rfl) (le1 _)<|h_d.wide (by omega))) .nil)) cs hc h;have hgp:=Nat.gcd_pos_of_pos_right a0.natAbs hp;have hdq:=Nat.div_pos (Nat.le_of_dvd hp<|Nat.gcd_dvd_right a0.natAbs a1) hgp;rcases waysB (Zha a0 a1) (t:=16) (is:=[1]) (by decide) with h0|h0|⟨nh0,h0⟩;exact absurd h0 (λz=>by have g:=Qw.1 (Int.ofNat.inj (tr z:((ZC a1:Nat):Int)=_));omega);have H0:Csl (Zha a0 a1) fl_k0:=.cons h0 .nil;have g0:((ZC a1:Nat):Int)=_:=tr h0;refine Calls.mono (leaf _ H0 fl_p0) λe w' ⟨v,S',q1,q2,blk,q3⟩=>⟨v,S',q1,q2,?_⟩
 cases q3 with
 |agg h4=>
  exact⟨_,rfl,(mixed_of (i:=0) (z:=a0) (by kernel_rfl) h4).to (by rw[show a1=1 by have:=@bitlen_one a1;omega,mkRat_one]) (show 1*max k_z k_d+0<=_ by omega)⟩
 have H1:Csl (Zha a0 a1) (fl_k1 nh0):=.cons h0 .nil;rcases waysB (Zha a0 a1) (t:=16) (is:=[3]) (by decide) with h1|h1|⟨nh1,h1⟩;exact absurd h1 (λz=>by have g:=Qw.1 (Int.ofNat.inj (tr z:((ZC (Nat.gcd a0.natAbs a1):Nat):Int)=_));omega);have h2:ZI (Zha a0 a1) [18,1,4]=1:=(by kernel_rfl:ZI (Zha a0 a1) [18,1,4]=(if 1<=a1 then(1:Int) else 0)).trans (if_pos (by first|omega|exact hdq));have H2:Csl (Zha a0 a1) (fl_k2 nh0):=.cons h2 (.cons h1 H1);have g0:((ZC a1:Nat):Int)=_:=tr h0;have g1:((ZC (Nat.gcd a0.natAbs a1):Nat):Int)=_:=tr h1;refine Calls.mono (leaf _ H2<|fl_p1 nh0) λe w' ⟨v,S',q1,q2,blk,q3⟩=>⟨v,S',q1,q2,?_⟩
 cases q3 with
 |agg h4=>
  exact⟨_,rfl,parts_of (i:=0) (j:=5) (K:=0) (z:=a0) (n:=(a1-1)) (by kernel_rfl) (by kernel_rfl) h4 ((mkRat_num0 hp (by have:=@bitlen_gt1 (Nat.gcd a0.natAbs a1);omega)).1.symm) (by rw[(mkRat_num0 hp (by have:=@bitlen_gt1 (Nat.gcd a0.natAbs a1);omega)).2]) (Nat.le_trans (Xy hp h_z.le)<|YT (by omega)) (Nat.le_trans (Xz hp h_d.1)<|YT (by omega))⟩
 have h3:ZI (Zha a0 a1) [5,3]=0:=(by kernel_rfl:ZI (Zha a0 a1) [5,3]=(if(Nat.gcd a0.natAbs a1)=0 then(1:Int) else 0)).trans (if_neg (by omega));have h4:ZI (Zha a0 a1) [18,9,4]=1:=(by kernel_rfl:ZI (Zha a0 a1) [18,9,4]=(if 1<=(a1/(Nat.gcd a0.natAbs a1)) then(1:Int) else 0)).trans (if_pos (by first|omega|exact hdq));have H3:Csl (Zha a0 a1) (fl_k3 nh0 nh1):=.cons h4 (.cons h3 (.cons h1 H1));rcases Zcm (Zha a0 a1) (t:=3) (is:=[0]) (by decide) with h5|h5|h5;rotate_left
 have H4:Csl (Zha a0 a1) (fl_k4 nh0 nh1):=.cons h5 H3;have g0:((ZC a1:Nat):Int)=_:=tr h0;have g1:((ZC (Nat.gcd a0.natAbs a1):Nat):Int)=_:=tr h1;have g2:Yu a0=_:=tr h5;refine Calls.mono (leaf _ H4<|fl_p4 nh0 nh1) λe w' ⟨v,S',q1,q2,blk,q3⟩=>⟨v,S',q1,q2,?_⟩
 cases q3 with
 |agg h4=>
  exact⟨_,rfl,parts_of (i:=12) (j:=11) (K:=0) (z:=(((a0.natAbs/(Nat.gcd a0.natAbs a1)):Nat):Int)) (n:=((a1/(Nat.gcd a0.natAbs a1))-1)) (by kernel_rfl) (by kernel_rfl) h4 (Zc8 hp false (by have:=@Zaw a0;simp;omega)) (by rw[Zfw hp]) (Nat.le_trans (Xy hp h_z.le)<|YT (by omega)) (Nat.le_trans (Xz hp h_d.1)<|YT (by omega))⟩
 have H5:Csl (Zha a0 a1) (fl_k5 nh0 nh1):=.cons h5 H3;have g0:((ZC a1:Nat):Int)=_:=tr h0;have g1:((ZC (Nat.gcd a0.natAbs a1):Nat):Int)=_:=tr h1;have g2:Yu a0=_:=tr h5;refine Calls.mono (leaf _ H5<|fl_p3 nh0 nh1) λe w' ⟨v,S',q1,q2,blk,q3⟩=>⟨v,S',q1,q2,?_⟩
 cases q3 with
 |agg h4=>
  exact⟨_,rfl,parts_of (i:=12) (j:=11) (K:=0) (z:=(((a0.natAbs/(Nat.gcd a0.natAbs a1)):Nat):Int)) (n:=((a1/(Nat.gcd a0.natAbs a1))-1)) (by kernel_rfl) (by kernel_rfl) h4 (Zc8 hp false (by have:=@Zaw a0;simp;omega)) (by rw[Zfw hp]) (Nat.le_trans (Xy hp h_z.le)<|YT (by omega)) (Nat.le_trans (Xz hp h_d.1)<|YT (by omega))⟩
 have H6:Csl (Zha a0 a1) (fl_k6 nh0 nh1):=.cons h5 H3;have g0:((ZC a1:Nat):Int)=_:=tr h0;have g1:((ZC (Nat.gcd a0.natAbs a1):Nat):Int)=_:=tr h1;have g2:Yu a0=_:=tr h5;refine Calls.mono (leaf _ H6<|fl_p2 nh0 nh1) λe w' ⟨v,S',q1,q2,blk,q3⟩=>⟨v,S',q1,q2,?_⟩
 cases q3 with
 |agg h4=>
  exact⟨_,rfl,parts_of (i:=8) (j:=11) (K:=0) (z:=(-(((a0.natAbs/(Nat.gcd a0.natAbs a1)):Nat):Int))) (n:=((a1/(Nat.gcd a0.natAbs a1))-1)) (by kernel_rfl) (by kernel_rfl) h4 (Zc8 hp true (by have:=@Zaw a0;simp;omega)) (by rw[Zfw hp]) (Nat.le_trans (Xy hp h_z.le)<|YT (by omega)) (Nat.le_trans (Xz hp h_d.1)<|YT (by omega))⟩
section
def pLow(T:Tb):PrF Ato:=λl=>match getA T [1,0] l with
  | some is=>match is with
    | [i,j]=>match nzB T j with
      |true=>opV T 78 270000000000 0 [i,j]
      |false=>none
    |_=>none
  |none=>none
section
variable{T:Tb}{K:Nat}{base ρ:Nat->AV}{bd:Nat->Nat}{T0:Tb}{hT:Cs T0 ρ}
theorem pLow_ok(hg:YG T K base ρ bd):Xq prog (DS hT bd) 99 (pLow T):=by
 intro args r hr G w vs hd hS;unfold pLow at hr;split at hr;rename_i is his;split at hr;rename_i i j;split at hr;rename_i hz;have hnz:=nzB_ok hg hz;obtain⟨x,k1,v,x',k2,v',e1,e2,rfl,a1,a2,a3,a4⟩:=(Zaj hg his hd).two;simp only[List.map_cons,List.map_nil,List.cons.injEq,and_true] at e1 e2;obtain⟨rfl,rfl⟩:=e1;obtain⟨rfl,rfl⟩:=e2;obtain⟨c,rfl,h5⟩:=a2.z a1;obtain⟨d,rfl,h6⟩:=a4.n a3;obtain⟨l,rfl,g1,g2,g3,g4⟩:=Zfb hg hr (by decide);have b1:=g3 (bd i) (by simp);have b2:=g3 (bd j) (by simp);simp only[List.map_cons,List.map_nil] at g2 g4;have b3:=sum2 g4;refine .ret (by kernel_rfl) (Zde hS h5 h6 (Nat.pos_of_ne_zero hnz) (by omega)) λS' v hv=>Xm g1 ?_;obtain⟨c0,e,hv⟩:=hv;rw[g2];exact⟨c0,e,hv.wide (by omega)⟩;cases hr;cases hr;cases hr
end
def baseZ(zs:List Int):Nat->AV:=λi=>.z (zs.getD i 0)
theorem bits0{q:Rat}(h:((ZC (q.den-1):Nat):Int)=0):q.den=1:=den_one (Qw.1 (by omega))
theorem Xo(q:Rat):q.den-1+1=q.den:=by have:=q.den_pos;omega
def Ze3(T:Tb):List (Nat × PrF Ato):=[
  (76,pNatOf T),(90,pConst T 9),(82,pMakeW T),(99,pLow T),
  (137,pO T [0,0] 36 500000000000 1),
  (80,pO T [0,0] 24 500000000000 0),
  (98,pT T [0] 16 500000000000),
  (81,pO T [1,1] 37 500000000000 0),
  (89,pO T [1,1] 29 500000000000 1),
  (146,pO T [1,1] 33 500000000000 1),
  (85,pO T [1] 25 500000000000 0),
  (113,pO T [1] 12 500000000000 0),
  (84,pT T [1] 3 500000000000),
  (124,pT T [1,1] 17 500000000000)]
theorem Zbu:TabOK Ze3:=by
 intro T K base ρ bd T0 hT hg p hp;simp only[Ze3,List.mem_cons,List.not_mem_nil,or_false] at hp;rcases hp with rfl|rfl|rfl|rfl|rfl|rfl|rfl|rfl|rfl|rfl|rfl|rfl|rfl|rfl;exact pNatOf_ok hg;exact pWOf_ok hg;exact pMakeW_ok hg;exact pLow_ok hg;exact pNN hg (by kernel_rfl) (by decide) (λ_ _=>rfl) λhS h1 h2 h3 h4=>nat_Add hS h1 h2 (by omega) (by omega);exact pNN hg (by kernel_rfl) (by decide) (λ_ _=>rfl) λhS h1 h2 h3 h4=>nat_Mul hS h1 h2 (by omega) (by omega);refine pT_ok hg (by kernel_rfl) λS w vs xs ks hS hr hl=>?_;obtain⟨x,k1,v,rfl,rfl,rfl,h1,h2⟩:=hr.one;obtain⟨c,rfl,h5⟩:=h2.n h1;exact YU hS h5;exact pZZ hg (by kernel_rfl) (by decide) (λ_ _=>rfl) λhS h1 h2 h3 h4=>whole_Mul hS h1 h2 (by omega) (by omega);exact pZZ hg (by kernel_rfl) (by decide) (λ_ _=>rfl) λhS h1 h2 h3 h4=>whole_Add hS h1 h2 (by omega) (by omega);exact pZZ hg (by kernel_rfl) (by decide) (λ_ _=>rfl) λhS h1 h2 h3 h4=>whole_Sub hS h1 h2 (by omega) (by omega);exact pZz hg (by kernel_rfl) (by decide) (λ_=>rfl) λhS h1 h2=>whole_Neg hS h1;exact pZn hg (by kernel_rfl) (by decide) (λ_=>rfl) λhS h1 h2=>Zdr hS h1;refine pT_ok hg (by kernel_rfl) λS w vs xs ks hS hr hl=>?_;obtain⟨x,k1,v,rfl,rfl,rfl,h1,h2⟩:=hr.one;obtain⟨c,rfl,h5⟩:=h2.z h1;exact Zau hS h5;refine pT_ok hg (by kernel_rfl) λS w vs xs ks hS hr hl=>?_;obtain⟨x,k1,v,x',k2,v',rfl,rfl,rfl,h1,h2,h3,h4⟩:=hr.two;obtain⟨c,rfl,h5⟩:=h2.z h1;obtain⟨d,rfl,h6⟩:=h4.z h3;exact whole_Cmp hS h5 h6
end
end Go.Cham
