/-
 Delivering packets one by one comes to an end.
-/
import Derived.Test.YtfealdecpglcnaaGreatA1
import Derived.Test.YtfealdecpglcnaaGreatN17
import Derived.Test.YtfealdecpglcnaaGreatX1
import Derived.Test.YtfealdecpglcnaaGreatN12
set_option linter.all false
namespace Go.D
def zmn{w:Aa}{n:Nat}{l:List Al}(h1:NA w=true)(h4:wt w≤n)(hn:n≤480000000)(hl:wt l≤1000):Ok (Bg w l) λr=>NA r=true∧wt r≤n+22600:=by
 obtain⟨r,hr,g1,m,g2⟩:=zis h1 (by omega) hl;refine⟨r,hr,g1,?_⟩;have h5:=XO g1;have h6:r.Notes=w.Notes:=by rw[g2]
 have h7:wt w.Notes≤wt w:=by simp only[cG];omega
 rw[h6]at h5;omega
def zwN{a0:Aa}{a1:List Al}(h:NA a0=true)(hn:wt a0≤300000)(hw:wt a1≤1000)(hl:∀x∈a1,tD x=true):Ok (Gt a0 a1) λr=>wt r≤8856000:=by
 have hL:=yB;have hla:=QB a1;unfold Gt;refine .cp (by omega) (.m (nA (by omega)) ?_);rw[h];refine .kf (.jt (λy3=> .cp (by omega) (.j (λy=>wt y.2≤8856000) (λy hy=> .s hy) λk10 IV=>?_)) λk4 bW=> .l (λx5:Int×Aa=>0≤x5.1∧x5.1≤(a1.length:Int)) (λx5=>((a1.length:Int) - x5.1).toNat) (λx5 hx k6 pW=> .c (λh1=>?_) λ_=>bW _) ⟨Int.le_refl _,Int.natCast_nonneg _⟩ (by simp only;omega))
 ·refine .l (λx:(List Al)×Int×Aa=>∃i:Nat,x.2.1=(i:Int)∧i≤60∧wt x.1≤1000+1000 *i∧(∀z∈x.1,tD z=true)∧NA x.2.2=true∧wt x.2.2≤300000+142600 *i) (λx=>(60 - x.2.1).toNat) (λx ⟨i,e1,e2,e3,e4,g,gz⟩ k12 kW=>?_) ⟨0,rfl,Nat.zero_le _,hw,hl,h,hn⟩ (by simp only;omega);have hlx:=QB x.1;refine .j (λy13=>y13=true→i<60∧i<x.1.length) (λy13 hy=> .c (λh1=>?_) λ_=>IV _ (by show wt x.2.2≤_;omega)) λk14 GV=> .c (λh1=>GV _ λh2=>⟨by have:=of_decide_eq_true h1;omega,by have:=of_decide_eq_true h2;omega⟩) λ_=>GV _ nofun;obtain⟨q1,q2⟩:=hy h1;have ei:fA .i64 x.2.1 1=((i+1:Nat):Int):=by rw[e1,DA (by omega) (by omega)];omega
  have hmu:(60 - fA .i64 x.2.1 1).toNat<(60 - x.2.1).toNat:=by rw[ei];omega
  have F:=tL g;refine .j (λy15=>wt y15.1≤1000+1000 *(i+1)∧(∀z∈y15.1,tD z=true)∧NA y15.2=true∧wt y15.2≤300000+142600 *(i+1)) (λy15 Q0=>kW _ ⟨i+1,ei,q1,Q0⟩ hmu) λk16 qW=> .h (by simp only[B,e1];omega) (.bg (by rw[e1];omega) λe17 he _=> .b (TU (by omega) F.2.2.2.2.2.1) λr18 hr=> .c (λ_=>qW _ ⟨by show wt x.1≤_;omega,e4,g,by show wt x.2.2≤_;omega⟩) λhp=> .h (by simp only[B,e1];omega) (.m he (.h (by simp only[B,e1];omega) (.m he ?_))));have hwz:=e4 _ (List.mem_of_getElem? he);have hp:=of_decide_eq_false hp;refine .b (zc9 g (by omega) (by omega) (by omega) (by simp only[N];simp only[tD,Bool.and_eq_true,decide_eq_true_eq]at hwz;omega)) λr21 E=> .b (zmn (n:=300000+142600 *i+120000) E.ok (by have:=E.sz;omega) (by omega) E.wl) λr22 IX=> .g (by have:=E.wl;omega) (qW _ ⟨?_,?_,IX.1,Nat.le_trans IX.2 (by rw[Nat.mul_succ];omega)⟩)
  ·show wt (x.1++r21.2)≤_
   rw[nS];have:=E.wl;omega
  ·intro z hz
   rcases List.mem_append.1 hz with h3|h3
   ·exact e4 z h3
   ·exact E.wires z h3
 ·have h1:=of_decide_eq_true h1;have ei:fA .i64 x5.1 1=x5.1+1:=DA (by omega) (by omega);refine .bm hx.1 h1 λe he _=>?_;rw[hl e he];exact .kf (pW _ ⟨by simp only[ei];omega,by simp only[ei];omega⟩ (by simp only[ei];omega))
end Go.D
namespace Go.D
def Pc.mono{α:Type}{x:Option α}{P Q:α→Prop}(h:Pc x P)(k:∀r,P r→Q r):Pc x Q:=λr hr=>k r (h r hr)
def zj3{m i:Nat}(hm:m<2^48)(hi:i<6):(xJ (m:Int) i).toNat=m / 256^i % 256:=by
 have e1:GB .i64 8 (i:Int)=((8 *i:Nat):Int):=by unfold GB;rw[FB (by omega) (by omega)];omega
 have e2:iE .i64 (m:Int) ((8 *i:Nat):Int)=((m / 256^i:Nat):Int):=by
  unfold iE;rw[show IntKind.bits .i64=64 from rfl,Int.toNat_natCast,Nat.min_eq_left (by omega),Int.fdiv_eq_ediv_of_nonneg _ (Int.pow_nonneg (by omega))];show(m:Int) / (((2:Nat):Int)^(8 *i))=_
  rw[←Int.natCast_pow,Nat.pow_mul];exact(Int.natCast_ediv _ _).symm
 have e3:m / 256^i<2^63:=by have:=Nat.div_le_self m (256^i);omega
 unfold xJ;rw[e1,e2,show(255:Int)=((255:Nat):Int)from rfl,zkL e3,show(255 % 2^64:Nat)=2^8 - 1 from rfl,Nat.and_two_pow_sub_one_eq_mod];have h:m / 256^i % 2^8<256:=Nat.mod_lt _ (by decide)
 have e4:IntKind.wrap .u8 ((m / 256^i % 2^8:Nat):Int)=((m / 256^i % 2^8:Nat):Int):=by
  generalize m / 256^i % 2^8=q at h;simp[IntKind.wrap,IntKind.bits,IntKind.signed];omega
 rw[e4,Int.toNat_natCast,UInt8.toNat_ofNat'];exact Nat.mod_eq_of_lt h
def zjF{m:Nat}(hm:m<2^48):∀(i a:Nat),i≤6→(a+1) *256^i≤281474976710656→(XD (m:Int) i).foldl (λn x=>fA .i64 (GB .i64 n 256) (IntKind.wrap .i64 ((x.toNat:Nat):Int))) (a:Int)=((a *256^i+m % 256^i:Nat):Int)
 | 0,a,_,_=>by simp[XD,Nat.mod_one]
 | i+1,a,hi,ha=>by
  have hp:0<256^i:=Nat.pow_pos (by decide)
  have ha2:(a *256+256) *256^i≤281474976710656:=by
   have h:=ha;rw[Nat.pow_succ, ←Nat.mul_assoc,Nat.mul_right_comm,Nat.add_mul,Nat.one_mul]at h;exact h
  have ha3:a *256+256≤281474976710656:=Nat.le_trans (Nat.le_mul_of_pos_right _ hp) ha2;have hb:m / 256^i % 256<256:=Nat.mod_lt _ (by decide);show(XD (m:Int) i).foldl _ (fA .i64 (GB .i64 (a:Int) 256) (IntKind.wrap .i64 (((xJ (m:Int) i).toNat:Nat):Int)))=_
  rw[zj3 hm (by omega),FB (by omega) (by omega)];have e:GB .i64 (a:Int) 256=((a *256:Nat):Int):=by unfold GB;rw[FB (by omega) (by omega)];omega
  rw[e,DA (by omega) (by omega),show((a *256:Nat):Int)+((m / 256^i % 256:Nat):Int)=((a *256+m / 256^i % 256:Nat):Int)by omega];rw[zjF hm i _ (by omega) (Nat.le_trans (Nat.mul_le_mul_right _ (by omega)) ha2)];congr 1;rw[Nat.pow_succ,Nat.mod_mul,Nat.add_mul,Nat.mul_comm (256^i) 256, ←Nat.mul_assoc,Nat.mul_comm (m / 256^i % 256)];omega
def zqn{n:Int}{i:Nat}(hi:i≤6)(h0:0≤n)(h1:n<(256:Int)^i):JF (XD n i)=n:=by
 obtain⟨m,rfl⟩:=Int.eq_ofNat_of_zero_le h0;have h1:m<256^i:=by rw[show(256:Int)=((256:Nat):Int)from rfl, ←Int.natCast_pow]at h1;omega
 have h2:(256:Nat)^i≤281474976710656:=Nat.pow_le_pow_right (n:=256) (by decide) hi;have:=zjF (m:=m) (by omega) i 0 hi (by omega);unfold JF;rw[show(0:Int)=((0:Nat):Int)from rfl,this,Nat.mod_eq_of_lt h1];omega
def zt3{b:List UInt8}{n:Int}{i:Nat}(hi:1≤i∧i≤6)(h0:0≤n)(h1:n<(256:Int)^i)(hb:b=XD n i):(FG b 0 (i:Int)).1=n:=by
 have hl:b.length=i:=by rw[hb];exact jI n i
 unfold FG;rw[decide_eq_false (by omega),decide_eq_false (by omega),decide_eq_false (by omega),decide_eq_false (by omega)];show JF ((b.drop (0:Int).toNat).take ((i:Nat):Int).toNat)=n
 rw[Int.toNat_natCast,show(0:Int).toNat=0 from rfl,List.drop_zero, ←hl,List.take_length,hb];exact zqn hi.2 h0 h1
def zsa{n:Int}(h0:0≤n)(h1:n<256):[UInt8.ofNat (IntKind.wrap .u8 n).toNat]=XD n 1:=by
 obtain⟨m,rfl⟩:=Int.eq_ofNat_of_zero_le h0;have e:IntKind.wrap .u8 (m:Int)=(m:Int):=by simp[IntKind.wrap,IntKind.bits,IntKind.signed];omega
 have e2:(UInt8.ofNat m).toNat=m:=by rw[UInt8.toNat_ofNat'];exact Nat.mod_eq_of_lt (by omega)
 rw[e,Int.toNat_natCast];show[_]=[xJ (m:Int) 0]
 congr 1;refine UInt8.toNat_inj.1 ?_;rw[e2,zj3 (by omega) (by omega),Nat.pow_zero,Nat.div_one,Nat.mod_eq_of_lt (by omega)]
def p1:(256:Int)^1=256:=by decide
def p4:(256:Int)^4=4294967296:=by decide
def p6:(256:Int)^6=281474976710656:=by decide
def tkA{a b:List UInt8}{n:Nat}{v:List UInt8×List UInt8}(h:a.length=n)(hv:Bl (a++b) (n:Int)=some v):v=(a,b):=by
 rw[zf9 (by omega) hv,Int.toNat_natCast, ←h,List.take_left,List.drop_left]
def zgE{a b:List UInt8}{n:Int}{i:Nat}{v:Int×List UInt8}(hi:1≤i∧i≤6)(h0:0≤n)(h1:n<(256:Int)^i)(ha:a=XD n i)(hv:Ca (a++b) (i:Int)=some v):v=(n,b):=by
 have hl:a.length=i:=by rw[ha];exact jI n i
 revert hv
 refine(?_:Pc _ (λv:Int×List UInt8=>v=(n,b))) v;unfold Ca;refine .b λr hr=>?_;obtain rfl:=tkA hl hr;refine .p λ_=> .s ?_;rw[zt3 hi h0 h1 ha]
def zbZ{f:Ab}{b:List UInt8}(h:TA f=true)(hs:nB f.Kind=true)(hb:Ax f=some b):b=XD f.Kind 1++(f.Sn++(XD f.Epoch 4++(XD f.Seq 6++(f.Tag++f.Body)))):=by
 have hk:=YA.1 hs
 revert hb
 refine(?_:Pc _ (λb:List UInt8=>b=_)) b;unfold Ax;refine .p λ_=>?_;rw[h,Bool.not_true,cond_false,beq_eq_false_iff_ne.2 (show f.Kind≠1 by omega),beq_eq_false_iff_ne.2 (show f.Kind≠2 by omega),beq_eq_false_iff_ne.2 (show f.Kind≠3 by omega),cond_false,cond_false,cond_false];refine .p λ_=> .p λ_=>?_;simp only[zc2];refine .p λ_=> .s ?_;rw[zas,zmv,zsa (by omega) (by omega)];simp only[List.nil_append,List.append_assoc]
def zgO{a:List UInt8}(h:(a.length:Int)=0):a=[]:=List.eq_nil_of_length_eq_zero (by omega)
def zgD{f:Ab}{b:List UInt8}(h:TA f=true)(hs:nB f.Kind=true)(hb:Ax f=some b):Pc (Cb b) λr=>r=(f,true):=by
 have e:=zbZ h hs hb;have R1:f.Body.length≤40:=(LC h).2.2.2.2.1;have hk:=YA.1 hs;have h':=h;unfold TA at h';rw[hs,cond_true]at h';simp only[Bool.and_eq_true,beq_iff_eq,YA]at h';obtain⟨⟨⟨⟨⟨⟨⟨⟨⟨a1,a2⟩,a3⟩,a4⟩,a5⟩,a6⟩,a7⟩,a8⟩,a9⟩,a10⟩:=h';obtain⟨kd,id,cn,sn,tk,ck,pf,ep,sq,bd,tg⟩:=f;simp only at hk a1 a2 a3 a4 a5 a6 a7 a8 a9 a10 e R1 hs;obtain rfl:=zgO a2;obtain rfl:=zgO a5;obtain rfl:=zgO a6;obtain rfl:=a1;obtain rfl:=a4;unfold Cb;refine .b λr1 h1=>?_;rw[e]at h1;obtain rfl:=zgE (i:=1) (by decide) (by omega) (by rw[p1];omega) rfl h1;simp only[aA];rw[beq_eq_false_iff_ne.2 (show kd≠1 by omega),beq_eq_false_iff_ne.2 (show kd≠2 by omega),beq_eq_false_iff_ne.2 (show kd≠3 by omega),hs];simp only[cond_false,cond_true];refine .b λr2 h2=>?_;obtain rfl:=tkA (n:=12) (by omega) h2;refine .b λr3 h3=>?_;obtain rfl:=zgE (i:=4) (by decide) a7.1 (by rw[p4];omega) rfl h3;refine .b λr4 h4=>?_;obtain rfl:=zgE (i:=6) (by decide) a8.1 (by rw[p6];omega) rfl h4;refine .b λr5 h5=>?_;obtain rfl:=tkA (n:=16) (by omega) h5;refine .b λr6 h6=>?_;have h6:=zf9 (by omega) h6;rw[List.take_of_length_le (by rw[show(41:Int).toNat=41 from rfl];show bd.length≤41;omega)]at h6;subst h6;refine .p λ_=>?_;rw[h,Bool.not_true,cond_false];refine .b λr7 h7=>?_;cases h7.symm.trans hb;refine .p λ_=>?_;rw[beq_self_eq_true];exact .s rfl
end Go.D
namespace Go.D
def KK(s b:List UInt8):List UInt8:=List.zipWith (λu v=>u^^^v) s b
def zud{s b:List UInt8}(h:s.length=b.length):(KK s b).length=b.length:=by unfold KK;rw[List.length_zipWith];omega
def zj0:∀{s b:List UInt8},s.length=b.length→KK s (KK s b)=b
 | [],[],_=>rfl
 | u :: s,v :: b,h=>by
  have:=zj0 (s:=s) (b:=b) (by simpa using h);unfold KK at this⊢;rw[List.zipWith_cons_cons,List.zipWith_cons_cons,this, ←UInt8.xor_assoc,UInt8.xor_self,UInt8.zero_xor]
def ztm{s b:List UInt8}{i:Nat}{u v:UInt8}(hs:s[i]?=some u)(hb:b[i]?=some v):KK (s.take (i+1)) (b.take (i+1))=KK (s.take i) (b.take i)++[u^^^v]:=by
 have h1:=(List.getElem?_eq_some_iff.1 hs);have h2:=(List.getElem?_eq_some_iff.1 hb);obtain⟨i1,rfl⟩:=h1;obtain⟨i2,rfl⟩:=h2;unfold KK;rw[←List.take_append_getElem i1, ←List.take_append_getElem i2,List.zipWith_append (by rw[List.length_take,List.length_take];omega)];rfl
def zs5{k h:List UInt8}{n:Nat}{s:List UInt8}(hk:k.length≤1048576)(hh:h.length≤100)(hn:n≤200)(hs:Eb k h (n:Int)=some s):s.length=n:=by
 obtain⟨q,hq,_,hl⟩:=zeK (a0:=k) (a1:=h) (a2:=(n:Int)) (by simp only[N];omega);have e:s=q:=(inferInstance:LA (Er k h (n:Int)) (Eb k h (n:Int))).h _ _ hs hq;subst e;have:=hl (by omega);omega
def zl2{k h b:List UInt8}(hk:k.length≤1048576)(hh:h.length≤100)(hb:b.length≤200):Pc (Ch k h b) λr=>∃s,Eb k h (b.length:Int)=some s∧s.length=b.length∧r=KK s b:=by
 unfold Ch;simp only[aA];rw[decide_eq_false (show ¬(b.length:Int)>200 by omega),decide_eq_false (show ¬(h.length:Int)>100 by omega),decide_eq_false (show ¬(k.length:Int)>1048576 by omega),cond_false,cond_false,cond_false];refine .b λs hs=>?_;have hl:=zs5 hk hh hb hs;refine Pc.l (λx=>∃i:Nat,x.2=(i:Int)∧i≤s.length∧x.1=KK (s.take i) (b.take i)) ⟨0,rfl,Nat.zero_le _,rfl⟩ (λx k' ⟨i,e1,e2,e3⟩ hk=>?_) _;rw[e1];refine .c (λhc=> .g λ_=>?_) λhc=> .s ⟨s,hs,hl,?_⟩
 ·rw[Int.toNat_natCast];refine .b λu hu=> .b λv hv=> .g λ_=>?_;have M1:b[i]?=some v:=by unfold jA at hv;rw[if_pos (by omega),Int.toNat_natCast]at hv;exact hv
  refine hk _ ⟨i+1,?_,?_,?_⟩
  ·simp only;rw[DA (by omega) (by omega)];omega
  ·have:=of_decide_eq_true hc;omega
  ·simp only;rw[ztm hu M1,e3,zkQ,Int.toNat_natCast,UInt8.ofNat_toNat]
 ·have:=of_decide_eq_false hc;rw[e3,show i=s.length by omega,List.take_length,List.take_of_length_le (by omega)]
def zu9{k h b c:List UInt8}(hk:k.length≤1048576)(hh:h.length≤100)(hb:b.length≤200)(hc:Ch k h b=some c):c.length=b.length∧Pc (Ch k h c) λr=>r=b:=by
 obtain⟨s,h1,h2,rfl⟩:=zl2 hk hh hb c hc;have hl:=zud h2;refine⟨hl,(zl2 hk hh (by omega)).mono λr ⟨s',g1,g2,g3⟩=>?_⟩;rw[hl]at g1;cases h1.symm.trans g1;rw[g3,zj0 h2]
structure dF(key:List UInt8)(role:Int)(sn:List UInt8)(ep seq kind:Int)(plain:List UInt8)(f:Ab):Prop where
 shape:f=⟨kind,0,[],sn,0,[],[],ep,seq,f.Body,f.Tag⟩
 ok:TA f=true
 seald:nB kind=true
 inp:Pc (Bq role f) λr=>r.length≠0
 opens:Pc (Fg key role f) λr=>r=(plain,true)
def zk3{role:Int}{sn:List UInt8}{ep seq:Int}:Pc (Cq role sn ep seq) λr=>r.length≤25:=by
 have l4:=(gG [] ep 4).1;have l6:=(gG [] seq 6).1;unfold Cq;simp only[aA,OO];have nil:Pc (some ([]:List UInt8)) λr=>r.length≤25:= .s (Nat.zero_le _);refine .c (λ_=>nil) λ_=> .c (λ_=>nil) λh=>?_
 have hn:sn.length=12:=by
  have h:mA sn=true:=by simpa using h
  unfold mA at h;have:=eq_of_beq h;omega
 have full:∀b,Pc (bif b then some []else(JB [] ep 4).bind λr3=>(JB [] seq 6).bind λr4=>(pt (wt [[UInt8.ofNat (IntKind.u8.wrap role).toNat],sn,r3,r4]≤bA) ([UInt8.ofNat (IntKind.u8.wrap role).toNat]++sn++r3++r4)).bind λr6=>some r6) λr=>r.length≤25:=λb=>by
  refine .c (λ_=>nil) λ_=> .p λ_=> .p λ_=> .p λ_=> .s ?_;simp only[List.length_append,List.length_cons,List.length_nil]at l4 l6⊢;omega
 exact .c (λ_=>nil) λ_=>full _
def zkq{role:Int}{f:Ab}(hr:GA role=true)(hf:TA f=true)(hs:nB f.Kind=true):Pc (Bq role f) λr=>∃h,Cq role f.Sn f.Epoch f.Seq=some h∧h.length≤25∧r=[UInt8.ofNat (116:Int).toNat]++h++[UInt8.ofNat (IntKind.wrap .u8 f.Kind:Int).toNat]++f.Body:=by
 unfold Bq;simp only[aA];rw[hr,hs,Bool.not_true,cond_false,cond_false];refine .p λ_=>?_;rw[hf,Bool.not_true,cond_false];refine .b λh hh=>?_;rw[OO];exact .p λ_=> .s ⟨h,hh,zk3 h hh,rfl⟩
def zfG{kind ep seq:Int}{sn body tag:List UInt8}(hs:nB kind=true)(h1:sn.length=12)(h2:eA ep 0 4294967295=true)(h3:eA seq 0 281474976710655=true)(h4:tE kind (body.length:Int)=true)(h5:tag.length=16):TA ⟨kind,0,[],sn,0,[],[],ep,seq,body,tag⟩=true:=by
 unfold TA;rw[hs,cond_true];simp only[h2,h3,h4,h1,h5,List.length_nil];decide
def zlN{k:List UInt8}{role:Int}{sn:List UInt8}{ep seq kind:Int}{plain:List UInt8}(hk:k.length=32)(hr:GA role=true)(hs:nB kind=true)(h1:sn.length=12)(h2:eA ep 0 4294967295=true)(h3:eA seq 0 281474976710655=true)
  (h4:tE kind (plain.length:Int)=true) (hp:plain.length≤40):Pc (Cj k role sn ep seq kind plain) λr=>r.2=true∧dF k role sn ep seq kind plain r.1:=by
 have hz:(List.replicate (16:Int).toNat (UInt8.ofNat (0:Int).toNat:UInt8)).length=16:=rfl;unfold Cj;refine .p λ_=> .p λ_=>?_;simp only[aA];rw[show((k.length:Int) !=32)=false by simp;omega,hr,hs,Bool.not_true,cond_false,cond_false,cond_false];refine .p λ_=>?_;rw[zfG hs h1 h2 h3 h4 hz,Bool.not_true,cond_false];refine .b λhd E9=> .b λc hc=> .b λti hti=> .b λt ht=> .s ⟨rfl,?_⟩;have hl:=zk3 hd E9;obtain⟨eY,hm⟩:=zu9 (by omega) (by omega) (by omega) hc;have h4':tE kind (c.length:Int)=true:=by rw[eY];exact h4
 obtain⟨g,g1,g2,rfl⟩:=zkq hr (zfG (tag:=List.replicate (16:Int).toNat (UInt8.ofNat (0:Int).toNat)) hs h1 h2 h3 h4' hz) hs ti hti;cases g1.symm.trans E9;have RZ:=zlV ht hk (by simp only[List.length_append,List.length_cons,List.length_nil];omega);have hf:=zfG (tag:=t) hs h1 h2 h3 h4' RZ;have oW:=zkq (f:=⟨kind,0,[],sn,0,[],[],ep,seq,c,t⟩) hr hf hs;refine⟨rfl,hf,hs,oW.mono λr ⟨g,_,_,e⟩=>by rw[e];simp,?_⟩;unfold Fg;refine .b λu hu=>?_;obtain⟨g',e1,_,rfl⟩:=oW u hu;cases e1.symm.trans E9;simp only[aA];rw[show((k.length:Int) !=32)=false by simp;omega,cond_false];refine .c (λh=>?_) λ_=>?_
 ·have:=eq_of_beq h;simp only[List.length_append,List.length_cons]at this;omega
 ·refine .b λt' K8=>?_;cases K8.symm.trans ht;refine .b λd hd'=>?_
  have hd':d=true:=by
   revert hd'
   refine(?_:Pc _ (λd:Bool=>d=true)) d;unfold Bn;simp only[aA];rw[show((t.length:Int)==16)=true by rw[RZ];rfl,cond_true];refine .b λx hx=> .s ?_;rw[(iT hx (by omega)).2 rfl];rfl
  subst hd';rw[Bool.not_true,cond_false];refine .b λhd2 h2'=>?_;cases h2'.symm.trans E9;exact .b λq hq=> .s (by rw[hm q hq])
def zr9{w:Ap}{n:Int}(hw:IC w=true)(hn:eA n 0 281474976710655=true)(ht:w.Top<n):Pc (Ct w n) λr=>r.2=true∧r.1.Top=n:=λr hr=>by
 obtain⟨q,hq,q1,_,q3,_⟩:=za0 (a1:=n) hw;cases hq.symm.trans hr;have hm:EI w n=true:=by unfold EI;rw[hn,decide_eq_true (show n>w.Top from ht)];rfl
 have h1:=q1.trans hm;have hn:=YA.1 hn;refine⟨h1,(q3 h1).top.trans ?_⟩;unfold AE;rw[Int.toNat_of_nonneg hn.1];split<;>omega
def zfB{e:Av}{role:Int}{sn:List UInt8}{seq kind:Int}{plain:List UInt8}{f:Ab}(he:cC e=true)(h:dF e.Key role sn e.N seq kind plain f)(hq:eA seq 0 281474976710655=true)(ht:e.Win.Top<seq):
  Pc (Dr e role f) λr=>∃w:Ap,w.Top=seq∧r=(⟨e.N,e.Key,e.Seq,w⟩,plain,0):=by
 have hE:=lT he;have hwin:IC e.Win=true:=by unfold cC at he;simp only[Bool.and_eq_true]at he;exact he.2
 have vZ:f.Epoch=e.N:=by rw[h.shape]
 have F9:f.Seq=seq:=by rw[h.shape]
 unfold Dr;refine .p λ_=>?_;simp only[aA];rw[he,Bool.not_true,cond_false];refine .b λti hti=>?_;have:=h.inp ti hti;rw[show((ti.length:Int)==0)=false by simp;intro h0;exact this (by rw[h0];rfl),cond_false,show(f.Epoch !=e.N)=false by rw[vZ];simp,cond_false,F9];refine .b λw hw=>?_;obtain⟨w1,w2⟩:=zr9 hwin hq ht w hw;rw[w1,Bool.not_true,cond_false];refine .b λu hu=>?_;obtain rfl:=h.opens u hu;rw[Bool.not_true,cond_false];exact .s ⟨w.1,w2,rfl⟩
def zsX{e:Av}{role:Int}{sn:List UInt8}{kind:Int}{plain:List UInt8}(he:cC e=true)(hr:GA role=true)(hs:nB kind=true)(h1:sn.length=12)(h4:tE kind (plain.length:Int)=true)(hp:plain.length≤40)
  (hq:e.Seq<281474976709656):Pc (Ck e role sn kind plain) λr=>∃f,dF e.Key role sn e.N e.Seq kind plain f∧r=(⟨e.N,e.Key,e.Seq+1,e.Win⟩,f,0):=by
 have hk:e.Key.length=32∧eA e.N 0 4294967295=true∧eA e.Seq 0 281474976710656=true:=by
  unfold cC at he;simp only[Bool.and_eq_true,beq_iff_eq]at he;exact⟨by omega,he.1.1.1,he.1.2⟩
 have hq0:=YA.1 hk.2.2;unfold Ck;refine .p λ_=>?_;rw[he,Bool.not_true,cond_false];refine .b λr NX=>?_;have e0:=(zlN (seq:=0) hk.1 hr hs h1 hk.2.1 (by decide) h4 hp r NX).1;simp only[aA];rw[e0,Bool.not_true,cond_false,decide_eq_false (show ¬e.Seq≥281474976709656 by omega)]
 have tail:Pc (cond (e.Seq==281474976710656) (some (e,(⟨0,0,[],[],0,[],[],0,0,[],[]⟩:Ab),(5:Int))) (Option.bind (Cj e.Key role sn e.N e.Seq kind plain) λr5=>some ((⟨e.N,e.Key,fA .i64 e.Seq 1,e.Win⟩:Av),r5.1,0)))
   λr=>∃f,dF e.Key role sn e.N e.Seq kind plain f∧r=(⟨e.N,e.Key,e.Seq+1,e.Win⟩,f,0):=by
  rw[beq_eq_false_iff_ne.2 (show e.Seq≠281474976710656 by omega),cond_false];refine .b λq YW=> .s ⟨q.1,(zlN hk.1 hr hs h1 hk.2.1 (YA.2 (by omega)) h4 hp q YW).2,?_⟩;rw[DA (by omega) (by omega)]
 exact .c (λ_=>tail) λ_=>tail
def Pc.q{α σ:Type}{Q:α→Prop}{h:σ→Option α}{f:(σ→Option α)→Option α}(R:σ→Prop)(a:∀y,R y→Pc (h y) Q)(e:∀k:σ→Option α,(∀y,R y→Pc (k y) Q)→Pc (f k) Q):Pc (aA h f) Q:=e h a
def Pc.e{α σ:Type}{Q:α→Prop}{h:σ→Option α}{f:(σ→Option α)→Option α}(v:σ)(a:Pc (h v) Q)(e:∀k:σ→Option α,Pc (k v) Q→Pc (f k) Q):Pc (aA h f) Q:=e h a
def vM{c:Aj}(h:rB c=true):GA c.Role=true∧c.Sn.length=12∧cC c.Cur=true∧(c.HasOld=true→cC c.Old=true∧c.Old.N=c.Cur.N - 1):=by
 have hc:=aT h;unfold rB at h;simp only[Bool.and_eq_true]at h;obtain⟨⟨⟨⟨h1,h2⟩,h3⟩,h4⟩,_⟩:=h;refine⟨h1,by unfold mA at h2;have:=eq_of_beq h2;omega,h3,λho=>?_⟩;unfold DG at h4;rw[ho,cond_true]at h4;simp only[Bool.and_eq_true,beq_iff_eq]at h4;have hn:eA c.Cur.N 0 4294967295=true:=by unfold cC at h3;simp only[Bool.and_eq_true]at h3;exact h3.1.1.1
 have hn:=YA.1 hn;refine⟨h4.1.1,?_⟩;rw[h4.1.2,RA (by omega) (by omega)]
def zeY{c:Aj}{kind:Int}{plain:List UInt8}(h:rB c=true)(hs:nB kind=true)(h4:tE kind (plain.length:Int)=true)(hp:plain.length≤40)(hq:c.Cur.Seq<281474976709656):
  Pc (Bh c kind plain) λr=>∃f,dF c.Cur.Key c.Role c.Sn c.Cur.N c.Cur.Seq kind plain f∧r=(⟨c.Role,c.Sn,⟨c.Cur.N,c.Cur.Key,c.Cur.Seq+1,c.Cur.Win⟩,c.Old,c.HasOld,c.Until,c.Next⟩,f,0):=by
 obtain⟨h1,h2,h3,_⟩:=vM h;unfold Bh;refine .p λ_=> .p λ_=>?_;rw[h,Bool.not_true,cond_false];refine .b λr hr=>?_;obtain⟨f,g,rfl⟩:=zsX h3 h1 hs h2 h4 hp hq r hr;exact .s ⟨f,g,rfl⟩
def zeU{c:Aj}{now seq kind:Int}{plain:List UInt8}{f:Ab}(h:rB c=true)(hn:eA now 0 1000000=true)(hf:dF c.Cur.Key (1 - c.Role) c.Sn c.Cur.N seq kind plain f)(hq:eA seq 0 281474976710655=true)(ht:c.Cur.Win.Top<seq):
  Pc (Ba c now f) λr=>∃(w:Ap) (u:Int),w.Top=seq∧r=(⟨c.Role,c.Sn,⟨c.Cur.N,c.Cur.Key,c.Cur.Seq,w⟩,c.Old,c.HasOld,u,c.Next⟩,plain,0):=by
 obtain⟨h1,h2,h3,h4⟩:=vM h;have vZ:f.Epoch=c.Cur.N:=by rw[hf.shape]
 have uZ:f.Sn=c.Sn:=by rw[hf.shape]
 have WW:f.Kind=kind:=by rw[hf.shape]
 have I0:oA .i64 1 c.Role=1 - c.Role:=by
  unfold GA at h1;simp only[Bool.or_eq_true,beq_iff_eq]at h1;exact RA (by omega) (by omega)
 have S3:eA c.Cur.N 0 4294967295=true:=by unfold cC at h3;simp only[Bool.and_eq_true]at h3;exact h3.1.1.1
 have S3:=YA.1 S3
 have N5:(decide ((c.Next.length:Int)>0)&&(c.Cur.N==fA .i64 c.Cur.N 1))=false:=by
  rw[DA (by omega) (by omega)];simp;omega
 have ho:(cond c.HasOld (f.Epoch==c.Old.N) false)=false:=by
  cases e:c.HasOld
  ·rfl
  ·rw[cond_true,vZ,(h4 e).2];simp;omega
 unfold Ba;refine .p λ_=>?_;refine .e false ?_ λk hk=> .p λ_=>?_
 ·dsimp only[cond_false];refine .e false ?_ λk hk=>?_
  ·refine .e (decide ((c.Next.length:Int)>0)&&(f.Epoch==fA .i64 c.Cur.N 1)) ?_ λk hk=>?_
   ·refine .e false ?_ λk hk=>?_
    ·dsimp only[cond_false];refine .e false ?_ λk hk=>?_
     ·dsimp only[cond_false];refine .e c.Cur ?_ λk hk=>hk;refine .e c.Cur ?_ λk hk=>?_
      ·rw[I0];refine .b λr hr=>?_;obtain⟨w,hw,rfl⟩:=zfB h3 hf hq ht r hr;rw[show((0:Int) !=0)=false from rfl,cond_false];refine .q (λy=>∃(w:Ap) (u:Int),w.Top=seq∧y=⟨c.Role,c.Sn,⟨c.Cur.N,c.Cur.Key,c.Cur.Seq,w⟩,c.Old,c.HasOld,u,c.Next⟩) (λy ⟨w,u,h5,h6⟩=> .s ⟨w,u,h5,by rw[h6]⟩) λk hk=>?_;rw[vZ,beq_self_eq_true,cond_true];refine .q (λ_=>True) (λy _=>?_) λk hk=> .c (λ_=>hk _ trivial) λ_=>hk _ trivial;refine .q (λy=>∃(w:Ap) (u:Int),w.Top=seq∧y=⟨c.Role,c.Sn,⟨c.Cur.N,c.Cur.Key,c.Cur.Seq,w⟩,c.Old,c.HasOld,u,c.Next⟩) (λy hy=>hk y hy) λk hk=> .c (λ_=>hk _ ⟨w,_,hw,rfl⟩) λ_=>hk _ ⟨w,_,hw,rfl⟩
      ·rw[vZ,N5];exact hk
     ·exact hk
    ·refine .b λd hd=>?_;rw[(iT hd (by rw[uZ];omega)).2 uZ,vZ,beq_self_eq_true];exact hk
   ·cases hd:decide ((c.Next.length:Int)>0)
    ·rw[hd]at hk;exact hk
    ·rw[hd]at hk;exact hk
  ·have e2:(bif c.HasOld then k (f.Epoch==c.Old.N)else k false)=k false:=by
    cases e:c.HasOld
    ·rfl
    ·rw[e,cond_true]at ho;rw[cond_true,ho]
   rw[e2];exact hk
 ·rw[h,hn,WW,hf.seald,Bool.not_true,cond_false,cond_false,cond_false];refine .p λ_=>?_;rw[hf.ok];exact hk
end Go.D
namespace Go.D
def zqj{c:Aj}{now seq kind:Int}{plain:List UInt8}{f:Ab}(h:rB c=true)(hn:eA now 0 1000000=true)(ho:c.HasOld=true)(hu:c.Until= -1)(hf:dF c.Old.Key (1 - c.Role) c.Sn c.Old.N seq kind plain f)(hq:eA seq 0 281474976710655=true)(ht:c.Old.Win.Top<seq):
  Pc (Ba c now f) λr=>∃w:Ap,w.Top=seq∧r=(⟨c.Role,c.Sn,c.Cur,⟨c.Old.N,c.Old.Key,c.Old.Seq,w⟩,c.HasOld,c.Until,c.Next⟩,plain,0):=by
 obtain⟨h1,h2,h3,h4⟩:=vM h;obtain⟨h5,h6⟩:=h4 ho;have vZ:f.Epoch=c.Old.N:=by rw[hf.shape]
 have uZ:f.Sn=c.Sn:=by rw[hf.shape]
 have WW:f.Kind=kind:=by rw[hf.shape]
 have I0:oA .i64 1 c.Role=1 - c.Role:=by
  unfold GA at h1;simp only[Bool.or_eq_true,beq_iff_eq]at h1;exact RA (by omega) (by omega)
 have S3:eA c.Cur.N 0 4294967295=true:=by unfold cC at h3;simp only[Bool.and_eq_true]at h3;exact h3.1.1.1
 have S3:=YA.1 S3;have hc:(f.Epoch==c.Cur.N)=false:=beq_eq_false_iff_ne.2 (by rw[vZ,h6];omega)
 have N5:(f.Epoch==fA .i64 c.Cur.N 1)=false:=by
  rw[DA (by omega) (by omega)];exact beq_eq_false_iff_ne.2 (by rw[vZ,h6];omega)
 unfold Ba;refine .p λ_=>?_;refine .e false ?_ λk hk=> .p λ_=>?_
 ·dsimp only[cond_false];refine .e true ?_ λk hk=>?_
  ·refine .e false ?_ λk hk=>?_
   ·refine .e false ?_ λk hk=>?_
    ·dsimp only[cond_false];refine .e false ?_ λk hk=>?_
     ·dsimp only[cond_false];refine .e c.Old ?_ λk hk=>hk;refine .e c.Old ?_ λk hk=>hk;rw[I0];refine .b λr hr=>?_;obtain⟨w,hw,rfl⟩:=zfB h5 hf hq ht r hr;rw[show((0:Int) !=0)=false from rfl,cond_false];refine .e (⟨c.Role,c.Sn,c.Cur,⟨c.Old.N,c.Old.Key,c.Old.Seq,w⟩,c.HasOld,c.Until,c.Next⟩:Aj) (.s ⟨w,hw,rfl⟩) λk hk=>?_;rw[hc,cond_false];exact .e (⟨c.Role,c.Sn,c.Cur,⟨c.Old.N,c.Old.Key,c.Old.Seq,w⟩,c.HasOld,c.Until,c.Next⟩:Aj) hk λk hk=>hk
     ·have e:(c.Until !=(-1))=false:=by rw[hu];rfl
      rw[e];exact hk
    ·refine .b λd hd=>?_;rw[(iT hd (by rw[uZ];omega)).2 uZ,hc];exact hk
   ·cases decide ((c.Next.length:Int)>0)
    ·exact hk
    ·rw[N5];exact hk
  ·have e:(bif c.HasOld then k (f.Epoch==c.Old.N)else k false)=k true:=by rw[ho,vZ,beq_self_eq_true];rfl
   rw[e];exact hk
 ·rw[h,hn,WW,hf.seald,Bool.not_true,cond_false,cond_false,cond_false];refine .p λ_=>?_;rw[hf.ok];exact hk
def zkJ{n:Int}{k:List UInt8}(hn:eA n 0 4294967295=true)(hk:k.length=32):Pc (Cl n k) λr=>cC r=true∧r.N=n∧r.Key=k∧r.Seq=0∧r.Win.Top= -1:=λr hr=>by
 obtain⟨q,hq,q1,q2,q3,q4⟩:=zbc (YA.1 hn) hk;cases hq.symm.trans hr;refine⟨q1,q2,q3,q4,?_⟩
 revert hr
 refine(?_:Pc _ (λr:Av=>r.Win.Top= -1)) r;unfold Cl;simp only[aA];rw[hn,Bool.not_true,cond_false,show((k.length:Int) !=32)=false by simp;omega,cond_false];exact .p λ_=> .b λw hw=> .s (by cases hw;rfl)
def zpJ{c:Aj}{now seq kind:Int}{plain:List UInt8}{f:Ab}(h:rB c=true)(hn:eA now 0 1000000=true)(hl:c.Next.length=32)(hm:c.Cur.N<4294967295)(hf:dF c.Next (1 - c.Role) c.Sn (c.Cur.N+1) seq kind plain f)(hq:eA seq 0 281474976710655=true):
  Pc (Ba c now f) λr=>∃w:Ap,w.Top=seq∧r=(⟨c.Role,c.Sn,⟨c.Cur.N+1,c.Next,0,w⟩,c.Cur,true,now+5,[]⟩,plain,0):=by
 obtain⟨h1,h2,h3,h4⟩:=vM h;have vZ:f.Epoch=c.Cur.N+1:=by rw[hf.shape]
 have uZ:f.Sn=c.Sn:=by rw[hf.shape]
 have WW:f.Kind=kind:=by rw[hf.shape]
 have I0:oA .i64 1 c.Role=1 - c.Role:=by
  unfold GA at h1;simp only[Bool.or_eq_true,beq_iff_eq]at h1;exact RA (by omega) (by omega)
 have S3:eA c.Cur.N 0 4294967295=true:=by unfold cC at h3;simp only[Bool.and_eq_true]at h3;exact h3.1.1.1
 have S3:=YA.1 S3;have I5:=YA.1 hn;have YW:=YA.1 hq;have ei:fA .i64 c.Cur.N 1=c.Cur.N+1:=DA (by omega) (by omega);have hc:(f.Epoch==c.Cur.N)=false:=beq_eq_false_iff_ne.2 (by rw[vZ];omega)
 have ho:∀k:Bool→Option (Aj×List UInt8×Int),(bif c.HasOld then k (f.Epoch==c.Old.N)else k false)=k false:=λk=>by
  cases e:c.HasOld
  ·rfl
  ·rw[cond_true,vZ,(h4 e).2,beq_eq_false_iff_ne.2 (show c.Cur.N+1≠c.Cur.N - 1 by omega)]
 unfold Ba;refine .p λ_=>?_;refine .e false ?_ λk hk=> .p λ_=>?_
 ·dsimp only[cond_false];refine .e false ?_ λk hk=>?_
  ·refine .e true ?_ λk hk=>?_
   ·refine .e false ?_ λk hk=>?_
    ·dsimp only[cond_false];refine .e false ?_ λk hk=>?_
     ·dsimp only[cond_false];refine .e c.Cur ?_ λk hk=>hk;refine .q (λe:Av=>cC e=true∧e.N=c.Cur.N+1∧e.Key=c.Next∧e.Seq=0∧e.Win.Top= -1) (λe ⟨q1,q2,q3,q4,q5⟩=>?_) λk hk=> .b λr hr=>hk _ (by rw[←ei];exact zkJ (by rw[ei];exact YA.2 (by omega)) hl r hr);rw[I0];refine .b λr hr=>?_;obtain⟨w,hw,rfl⟩:=zfB (e:=e) q1 (by rw[q2,q3];exact hf) hq (by omega) r hr;rw[show((0:Int) !=0)=false from rfl,cond_false,q2,q3,q4];refine .e (⟨c.Role,c.Sn,⟨c.Cur.N+1,c.Next,0,w⟩,c.Cur,true,now+5,[]⟩:Aj) (.s ⟨w,hw,rfl⟩) λk hk=>?_;rw[hc,cond_false];refine .e (⟨c.Role,c.Sn,⟨c.Cur.N+1,c.Next,0,w⟩,c.Cur,true,now+5,[]⟩:Aj) hk λk hk=>?_;rw[DA (a:=now) (b:=5) (by omega) (by omega)];exact hk
     ·exact hk
    ·refine .b λd hd=>?_;rw[(iT hd (by rw[uZ];omega)).2 uZ,hc];exact hk
   ·rw[decide_eq_true (by omega),vZ,ei,beq_self_eq_true];exact hk
  ·rw[ho];exact hk
 ·rw[h,hn,WW,hf.seald,Bool.not_true,cond_false,cond_false,cond_false];refine .p λ_=>?_;rw[hf.ok];exact hk
end Go.D
namespace Go.D
def zrY{p:Ai}{now:Int}:Pc (Cu p now) λr=>r.At=p.At∧r.Cands.length≤p.Cands.length∧∀c∈r.Cands,c∈p.Cands:=by
 have hL:=yB;unfold Cu;refine .p λhw=>?_;have hl:=QB p.Cands;simp only[N]at hw;simp only[aA];refine Pc.l (λx=>∃i:Nat,x.1=(i:Int)∧i≤p.Cands.length∧x.2.At=p.At∧x.2.Cands.length≤i∧∀c∈x.2.Cands,c∈p.Cands) ⟨0,rfl,Nat.zero_le _,rfl,Nat.le_refl _,λc h=>by cases h⟩ (λx k ⟨i,e1,e2,e3,e4,e5⟩ hk=>?_) _;refine .c (λhc=> .g λ_=> .b λe he=>?_) λ_=> .s ⟨e3,by omega,e5⟩;have hc:=of_decide_eq_true hc;have hi:fA .i64 x.1 1=((i+1:Nat):Int):=by rw[e1,DA (by omega) (by omega)];omega
 refine .c (λ_=> .g λ_=>hk _ ⟨i+1,hi,by omega,e3,?_,λc h=>?_⟩) λ_=>hk _ ⟨i+1,hi,by omega,e3,Nat.le_succ_of_le e4,e5⟩
 ·simp only[List.length_append,List.length_cons,List.length_nil];omega
 ·rcases List.mem_append.1 h with h | h
  ·exact e5 c h
  ·rw[List.mem_singleton.1 h];exact List.mem_of_getElem? he
def zw1{p:Ai}{a:Af}(h:∀c∈p.Cands,IA c.A a=false):uD p a= -1:=by
 unfold uD;refine zfe (uG.2 λi hi=>?_);unfold zG;rw[List.getElem?_eq_getElem hi];exact h _ (List.getElem_mem hi)
def zws{t a:Af}{l:List Aw}{c:Aw}(h:∀x∈l,IA x.A a=false)(hc:IA c.A a=true):uD ⟨t,l++[c]⟩ a=(l.length:Int):=by
 unfold uD;refine zbM (by simp) ?_ λi hi=>?_
 ·unfold zG;simp[hc]
 ·unfold zG;rw[List.getElem?_append_left hi,List.getElem?_eq_getElem hi];exact h _ (List.getElem_mem hi)
def zlJ{a b:Af}:cond (a.Host==b.Host) (cond (a.Port==b.Port) true false) false=IA a b:=by
 unfold IA;cases a.Host==b.Host<;>cases a.Port==b.Port<;>rfl
def ztP{p:Ai}{now:Int}{a:Af}{d:List UInt8}(hp:VB p=true)(hn:eA now 0 1000000=true)(ha:EA a=true)(hd:d.length=12)(h1:IA p.At a=false)(h2:∀c∈p.Cands,IA c.A a=false)(h3:p.Cands.length<3):
  Pc (Cv p now a d) λr=>r.2=true∧∃l,(∀x∈l,IA x.A a=false)∧r.1=⟨p.At,l++[⟨a,d,now+6⟩]⟩:=by
 have I5:=YA.1 hn;have t8:IA a p.At=false:=by rw[←h1];unfold IA;rw[Bool.eq_iff_iff];simp;omega
 unfold Cv;refine .e false ?_ λk hk=>?_
 ·dsimp only[cond_false];refine .b λq hq=>?_;obtain⟨q1,q2,q3⟩:=zrY q hq;refine .e false ?_ λk hk=> .p λ_=>?_
  ·dsimp only[cond_false];refine .p λ_=> .g λ_=> .s ⟨rfl,q.Cands,λx hx=>h2 x (q3 x hx),?_⟩;rw[q1,DA (by omega) (by omega)]
  ·rw[zw1 λc hc=>h2 c (q3 c hc),beq_eq_false_iff_ne.2 (show(q.Cands.length:Int)≠3 by omega)];exact hk
 ·rw[hp,hn,ha,show mA d=true by unfold mA;rw[hd];rfl];simp only[Bool.not_true,cond_false,zlJ,t8];exact hk
def zuI{p:Ai}{now:Int}{a:Af}{d:List UInt8}(h1:IA a p.At=true):Pc (Cv p now a d) λr=>r=(p,false):=by
 unfold Cv;refine .e true ?_ λk hk=>?_
 ·exact .p λ_=> .s rfl
 ·refine .c (λ_=>hk) λ_=> .c (λ_=>hk) λ_=> .c (λ_=>hk) λ_=> .c (λ_=>hk) λ_=>?_;simp only[zlJ,h1];exact hk
def zsK{t a:Af}{l:List Aw}{now u:Int}{d:List UInt8}(hp:VB ⟨t,l++[⟨a,d,u⟩]⟩=true)(hn:eA now 0 1000000=true)(h2:∀c∈l,IA c.A a=false)(hu:now≤u):
  Pc (Ei ⟨t,l++[⟨a,d,u⟩]⟩ now a d) λr=>r.2=true∧r.1.At=a:=by
 have hs:IA a a=true:=by unfold IA;simp
 have hi:jA (l++[(⟨a,d,u⟩:Aw)]) (l.length:Int)=some ⟨a,d,u⟩:=by unfold jA;simp
 unfold Ei;refine .p λ_=> .p λ_=>?_;rw[zws h2 hs];refine .e false ?_ λk hk=>?_
 ·exact .g λ_=> .g λ_=> .g λ_=> .s ⟨rfl,rfl⟩
 ·rw[hp,hn,decide_eq_false (show ¬(l.length:Int)<0 by omega),hi];simp only[Bool.not_true,cond_false,XA];refine .p λ_=>?_;rw[beq_self_eq_true,decide_eq_false (show ¬now>u by omega)];exact hk
def zsF{l:List Ak}{a:Af}{n:Int}(hl:pC l=true)(ha:EA a=true)(hn:17≤n∧n≤1000)(hc:LG l a=true):Pc (Fe l a n) λr=>pC r=true∧Pc (Bc r a) λm=>m≥3 *n:=λr hr=>by
 obtain⟨r',NX,hk⟩:=ze4 (a0:=l) (a1:=a) (a2:=n) hl;cases NX.symm.trans hr;refine⟨hk,?_⟩;have K:=HN.1 hl
 have yT:∀(i:Nat) (c:Ak),VA r a=(i:Int)→r[i]?=some c→3 *c.Got - c.Sent≥3 *n→Pc (Bc r a) λm=>m≥3 *n:=λi c e1 e2 e3=>by
  obtain⟨_,q2,q3⟩:=(HN.1 hk).el c (List.mem_of_getElem? e2);have hi:jA r (i:Int)=some c:=by unfold jA;rw[if_pos (by omega),Int.toNat_natCast];exact e2
  unfold Bc;refine .e false ?_ λk vW=>?_
  ·dsimp only[cond_false];rw[e1,hi];simp only[XA];refine .s ?_;rw[zdW q2,RA (by omega) (by omega)];exact e3
  ·rw[hk,e1,decide_eq_false (show ¬(i:Int)<0 by omega)];exact vW
 revert yT
 revert hr
 refine(?_:Pc _ (λr:List Ak=>(∀(i:Nat) (c:Ak),VA r a=(i:Int)→r[i]?=some c→3 *c.Got - c.Sent≥3 *n→Pc (Bc r a) λm=>m≥3 *n)→Pc (Bc r a) λm=>m≥3 *n)) r;unfold Fe;refine .p λ_=>?_;simp only[aA];rw[hl,ha,show eA n 0 1000000=true from YA.2 (by omega)];simp only[Bool.not_true,cond_false];unfold LG at hc;rw[hl,Bool.true_and]at hc
 rcases zkf l a with⟨e,ho⟩|⟨i,c,e,hi,hs⟩
 ·rw[e];rw[e,show decide ((-1:Int)<0)=true from rfl,cond_true]at hc;have hc:=of_decide_eq_true hc;rw[show decide ((-1:Int)≥0)=false from rfl,cond_false,decide_eq_true (show(l.length:Int)<8 by omega),cond_true];refine .g λ_=> .s λyT=>yT l.length ⟨a,n,0⟩ ?_ (by simp) (by simp only;omega);unfold VA;refine zbM (by simp) ?_ λj hj=>?_
  ·unfold uF;simp[qL]
  ·unfold uF;rw[List.getElem?_append_left hj,List.getElem?_eq_getElem hj];exact ho _ (List.getElem_mem hj)
 ·rw[e];rw[e,decide_eq_false (show ¬(i:Int)<0 by omega),cond_false,Int.toNat_natCast,hi,Option.any_some]at hc;have hc:=of_decide_eq_true hc;obtain⟨_,q2,q3⟩:=K.el c (List.mem_of_getElem? hi);obtain⟨PY,F4⟩:=List.getElem?_eq_some_iff.1 hi;rw[decide_eq_true (show(i:Int)≥0 by omega),cond_true,Int.toNat_natCast];refine .g λ_=>?_;rw[hi,XA];refine .g λ_=>?_;rw[XA];refine .s λyT=>yT i ⟨c.A,HD (fA .i64 c.Got n) 1000000,c.Sent⟩ ?_ (by rw[List.getElem?_set_self PY]) ?_
  ·refine Eq.trans ?_ e;unfold VA;rw[List.length_set];refine zi7 λj hj=>?_;unfold uF
   by_cases C5:i=j
   ·subst C5;rw[List.getElem?_set_self PY,hi];rfl
   ·rw[List.getElem?_set_ne C5]
  ·simp only;rw[DA (by omega) (by omega)];unfold HD;split<;>omega
end Go.D
namespace Go.D
def zf8{f:Ab}(h:TA f=true):wt f≤1000:=by
 have:=LC h;simp only[N];omega
def zbS{s:Ah}(h:TB s=true)(hd:s.Dead=false):rB s.C=true∧s.C.Role=1∧s.C.Sn=s.Sn∧VB s.P=true:=by
 unfold TB at h;rw[hd,cond_false]at h;simp only[Bool.and_eq_true,beq_iff_eq]at h;exact⟨h.2.1.1.1.1,h.2.1.1.1.2,h.2.1.1.2,h.2.1.2⟩
structure zdU(s:Ah)(Q:Aj→Prop)(now:Int)(a:Af)(f:Ab)(plain KB:List UInt8)(r:Ah×List Aq×List Ad×Bool):Prop where
 two:r.2.2.2=true
 all:∃(c:Aj) (l:List Aw) (g:Ab),Q c∧rB c=true∧(∀x∈l,IA x.A a=false)∧dF c.Cur.Key c.Role c.Sn c.Cur.N c.Cur.Seq 5 KB g∧r.2.1=[⟨a,g⟩]∧
  r.1=⟨s.Id,s.Cn,s.Sn,⟨c.Role,c.Sn,⟨c.Cur.N,c.Cur.Key,c.Cur.Seq+1,c.Cur.Win⟩,c.Old,c.HasOld,c.Until,c.Next⟩,⟨s.P.At,l++[⟨a,KB,now+6⟩]⟩,s.Tick,now,s.Dead⟩
 got:∃x∈r.2.2.1,x.Kind=6∧x.Sn=s.Sn∧x.Body=plain
def zs6{s:Ah}{Q:Aj→Prop}{now:Int}{a:Af}{f:Ab}{plain KB:List UInt8}(h:TB s=true)(hd:s.Dead=false)(hn:eA now 0 1000000=true)(ha:EA a=true)(hf:TA f=true)(WW:f.Kind=4)(hr:KB.length=12)
  (ho:Pc (Ba s.C now f) λr=>∃c,Q c∧c.Cur.Seq<281474976709656∧r=(c,plain,0)) (h1:IA s.P.At a=false) (h2:∀c∈s.P.Cands,IA c.A a=false) (h3:s.P.Cands.length<3):
  Pc (Cc s now a f KB) (zdU s Q now a f plain KB):=by
 obtain⟨p1,p2,p3,p4⟩:=zbS h hd;unfold Cc;refine .p λ_=>?_;refine .e false ?_ λk hk=> .p λ_=>?_
 ·dsimp only[cond_false];refine .b λr NX=>?_;obtain⟨c,q1,q2,rfl⟩:=ho r NX
  have hc:rB c=true:=by
   obtain⟨r,jW,k1,_⟩:=zaH (a1:=now) (a2:=f) p1 (zf8 hf);cases jW.symm.trans NX;exact k1
  rw[show((0:Int) !=0)=false from rfl,cond_false];refine .b λkey _=> .b λti _=> .b λtk _=>?_;refine .q (λy=>(∃x∈y.1,x.Kind=6∧x.Sn=s.Sn∧x.Body=plain)∧y.2.1=[]∧y.2.2=(⟨s.Id,s.Cn,s.Sn,c,s.P,s.Tick,now,s.Dead⟩:Ah)) (λy ⟨y1,y2,y3⟩=>?_) λk hk=>?_
  ·rw[y2,y3];refine .b λo E2=>?_;obtain⟨o1,l,o2,o3⟩:=ztP p4 hn ha hr h1 h2 h3 o E2;refine .b λg hg=>?_;obtain⟨g',g1,rfl⟩:=zeY hc (by decide) (by rw[hr];decide) (by omega) q2 g hg;refine .e false ?_ λk hk=>by rw[o1];exact hk
   dsimp only[cond_false];refine .g λ_=> .b λm _=> .g λ_=> .s ⟨rfl,⟨c,l,g',q1,hc,o2,g1,rfl,by rw[o3]⟩,?_⟩;obtain⟨x,x1,x2⟩:=y1;exact⟨x,List.mem_append_left _ x1,x2⟩
  ·rw[WW,show((4:Int)==4)=true from rfl,cond_true];refine .p λ_=> .g λ_=>hk _ ⟨⟨_,List.mem_append_right _ (.head _),rfl,rfl,rfl⟩,rfl,rfl⟩
 ·rw[h,hd,ha];exact hk
end Go.D
namespace Go.D
def zrv{s:Ah}{Q:Aj→Prop}{now u:Int}{t a:Af}{l:List Aw}{f:Ab}{d KB:List UInt8}(h:TB s=true)(hd:s.Dead=false)(hn:eA now 0 1000000=true)(ha:EA a=true)(hf:TA f=true)(WW:f.Kind=6)
  (hp:s.P=⟨t,l++[⟨a,d,u⟩]⟩) (h2:∀c∈l,IA c.A a=false) (hu:now≤u) (ho:Pc (Ba s.C now f) λr=>∃c,Q c∧r=(c,d,0)):
  Pc (Cc s now a f KB) λr=>r.2.1=[]∧(∃c p,Q c∧p.At=a∧r.1=⟨s.Id,s.Cn,s.Sn,c,p,s.Tick,now,s.Dead⟩)∧∃x∈r.2.2.1,x.Kind=9∧x.A=a∧x.Sn=s.Sn:=by
 obtain⟨p1,p2,p3,p4⟩:=zbS h hd;unfold Cc;refine .p λ_=>?_;refine .e false ?_ λk hk=> .p λ_=>?_
 ·dsimp only[cond_false];refine .b λr NX=>?_;obtain⟨c,q1,rfl⟩:=ho r NX;rw[show((0:Int) !=0)=false from rfl,cond_false];refine .b λkey _=> .b λti _=> .b λtk _=>?_;refine .q (λy=>(∃x∈y.1,x.Kind=9∧x.A=a∧x.Sn=s.Sn)∧y.2.1=[]∧∃p:Ai,p.At=a∧y.2.2=(⟨s.Id,s.Cn,s.Sn,c,p,s.Tick,now,s.Dead⟩:Ah)) (λy ⟨y1,y2,p,y3,y4⟩=>?_) λk hk=>?_
  ·rw[y2,y4];refine .b λo E2=>?_;obtain rfl:=zuI (p:=p) (qL.2 y3.symm) o E2;refine .b λg _=>?_;refine .e true ?_ λk hk=>hk;exact .s ⟨rfl,⟨c,p,q1,y3,rfl⟩,y1⟩
  ·rw[WW,show((6:Int)==4)=false from rfl,cond_false];refine .q (λy=>(∃x∈y.1,x.Kind=9∧x.A=a∧x.Sn=s.Sn)∧y.2.1=[]∧∃p:Ai,p.At=a∧y.2.2=(⟨s.Id,s.Cn,s.Sn,c,p,s.Tick,now,s.Dead⟩:Ah)) (λy hy=>hk _ hy) λk hk=>?_;rw[show((6:Int)==6)=true from rfl,cond_true];refine .b λw hw=>?_;rw[hp]at hw;obtain⟨w1,w2⟩:=zsK (by rw[←hp];exact p4) hn h2 hu w hw;refine .q (λy:List Ad×Ah=>(∃x∈y.1,x.Kind=9∧x.A=a∧x.Sn=s.Sn)∧y.2=(⟨s.Id,s.Cn,s.Sn,c,w.1,s.Tick,now,s.Dead⟩:Ah)) (λy ⟨y1,y2⟩=>hk _ ⟨y1,rfl,w.1,w2,y2⟩) λk hk=>?_;rw[w1,cond_true];exact .p λ_=> .g λ_=>hk _ ⟨⟨_,List.mem_append_right _ (.head _),rfl,rfl,rfl⟩,rfl⟩
 ·have e2:(bif s.Dead then k true else k (!EA a))=k false:=by rw[hd,ha];rfl
  rw[h,Bool.not_true,cond_false,e2];exact hk
def zvX{s:Ac}{a:Af}(h:Pc (Bc s.Cr a) λm=>m≥51):Pc (Ed s a 51) λr=>r=true:=by
 unfold Ed;refine .q (λy=>y=true) (λy hy=> .s hy) λk hk=> .b λr _=> .c (λ_=>hk _ rfl) λ_=> .b λm hm=>hk _ (decide_eq_true (h m hm))
def ztV{s:Ac}{e:Ah}{i:Nat}{Q:Aj→Prop}{now:Int}{a:Af}{f:Ab}{plain:List UInt8}(hs:wB s=true)(hN:s.D.N<10000)(hi:XB s.T f.Sn=(i:Int))(he:s.T.L[i]?=some e)(hd:e.Dead=false)(hn:eA now 0 1000000=true)(ha:EA a=true)
  (hf:TA f=true) (WW:f.Kind=4) (ho:Pc (Ba e.C now f) λr=>∃c,Q c∧c.Cur.Seq<281474976709656∧r=(c,plain,0)) (h1:IA e.P.At a=false) (h2:∀c∈e.P.Cands,IA c.A a=false) (h3:e.P.Cands.length<3)
  (pX:Pc (Bc s.Cr a) λm=>m≥51):
  Pc (Cw s now a f) λr=>∃KB q,KB.length=12∧zdU e Q now a f plain KB q∧r.2.1=q.2.1∧(∀x∈q.2.2.1,x∈r.2.2)∧r.1=⟨s.Psks,s.J,(uC s.D).1,⟨s.T.Cap,s.T.L.set i q.1⟩,s.Cr⟩:=by
 have S:=nE.1 hs;have hI:jA s.T.L (i:Int)=some e:=by unfold jA;rw[if_pos (by omega),Int.toNat_natCast];exact he
 obtain⟨ht,OX⟩:=RO hs hI;unfold Cw;refine .p λ_=>?_;rw[hi];refine .e false ?_ λk hk=>?_
 ·dsimp only[cond_false];refine .p λ_=> .b λm hm=>?_;obtain rfl:=zvX pX m hm;have hr:(uC s.D).2.length=12:=(SH s.D).2.2.2 S.dice (by omega);refine .e (uC s.D).2 ?_ λk hk=>hk;rw[hI];simp only[XA];refine .b λq hq=>?_;have A:=zs6 OX hd hn ha hf WW hr ho h1 h2 h3 q hq;refine .b λt K8=>?_
  have hR:BE e q.1:=by
   obtain⟨q',YW,k1,_⟩:=zaI (a1:=now) (a2:=a) (a3:=f) (a4:=(uC s.D).2) OX hf (by omega);cases YW.symm.trans hq;exact k1
  obtain rfl:=UR K8 ht hI hR;refine .q (λy:List Ad×Ac=>(∀x∈q.2.2.1,x∈y.1)∧y.2=⟨s.Psks,s.J,(uC s.D).1,⟨s.T.Cap,s.T.L.set i q.1⟩,s.Cr⟩) (λy ⟨y1,y2⟩=> .s ⟨(uC s.D).2,q,hr,A,rfl,y1,y2⟩) λk hk=>?_;rw[A.two,cond_true];refine .p λ_=> .p λ_=> .p λ_=> .g λ_=> .g λ_=>hk _ ⟨λx hx=>List.mem_append_left _ (List.mem_append_right _ hx),?_⟩;simp only[Int.toNat_natCast]
 ·rw[decide_eq_false (show ¬(i:Int)<0 by omega),cond_false,hI,XA,hd];exact hk
def zsd{s:Ac}{e:Ah}{i:Nat}{Q:Aj→Prop}{now u:Int}{t a:Af}{l:List Aw}{f:Ab}{d:List UInt8}(hs:wB s=true)(hi:XB s.T f.Sn=(i:Int))(he:s.T.L[i]?=some e)(hd:e.Dead=false)(hn:eA now 0 1000000=true)(ha:EA a=true)
  (hf:TA f=true) (WW:f.Kind=6) (hp:e.P=⟨t,l++[⟨a,d,u⟩]⟩) (h2:∀c∈l,IA c.A a=false) (hu:now≤u) (ho:Pc (Ba e.C now f) λr=>∃c,Q c∧r=(c,d,0)):
  Pc (Cw s now a f) λr=>r.2.1=[]∧(∃c p D,Q c∧p.At=a∧r.1=⟨s.Psks,s.J,D,⟨s.T.Cap,s.T.L.set i ⟨e.Id,e.Cn,e.Sn,c,p,e.Tick,now,e.Dead⟩⟩,s.Cr⟩)∧∃x∈r.2.2,x.Kind=9∧x.A=a∧x.Sn=e.Sn:=by
 have hI:jA s.T.L (i:Int)=some e:=by unfold jA;rw[if_pos (by omega),Int.toNat_natCast];exact he
 obtain⟨ht,OX⟩:=RO hs hI;unfold Cw;refine .p λ_=>?_;rw[hi];refine .e false ?_ λk hk=>?_
 ·dsimp only[cond_false];refine .p λ_=> .b λm hm=>?_;refine .q (λy=>y.length≤100) (λy hy=>?_) λk hk=> .c (λ_=>hk _ (Nat.zero_le _)) λ_=>hk _ (by have:=(SH s.D).2.1;omega);rw[hI];simp only[XA];refine .b λq hq=>?_;obtain⟨a1,⟨c,p,a2,a3,a4⟩,x,x1,x2⟩:=zrv OX hd hn ha hf WW hp h2 hu ho q hq;refine .b λt K8=>?_
  have hR:BE e q.1:=by
   obtain⟨q',YW,k1,_⟩:=zaI (a1:=now) (a2:=a) (a3:=f) (a4:=y) OX hf hy;cases YW.symm.trans hq;exact k1
  obtain rfl:=UR K8 ht hI hR;rw[a4];refine .q (λy:List Ad×Ac=>(∃x∈y.1,x.Kind=9∧x.A=a∧x.Sn=e.Sn)∧∃D,y.2=⟨s.Psks,s.J,D,⟨s.T.Cap,s.T.L.set i ⟨e.Id,e.Cn,e.Sn,c,p,e.Tick,now,e.Dead⟩⟩,s.Cr⟩) (λy ⟨y1,D,y2⟩=> .s ⟨a1,⟨c,p,D,a2,a3,y2⟩,y1⟩) λk hk=>?_;refine .c (λ_=> .p λ_=> .p λ_=> .p λ_=> .g λ_=> .g λ_=>hk _ ⟨⟨x,List.mem_append_left _ (List.mem_append_right _ x1),x2⟩,_,rfl⟩) λ_=>hk _ ⟨⟨x,x1,x2⟩,_,rfl⟩
 ·have e2:k e.Dead=k false:=by rw[hd]
  rw[decide_eq_false (show ¬(i:Int)<0 by omega),cond_false,hI,XA,e2];exact hk
end Go.D
namespace Go.D
def zvH{l:List Ak}{a:Af}{n:Int}(hl:pC l=true)(h:Pc (Bc l a) λm=>m≥n)(hn:1≤n):¬VA l a<0:=λhc=>by
 have e:Bc l a=some 0:=by
  unfold Bc;simp only[aA];rw[hl,decide_eq_true hc];rfl
 have:=h 0 e;omega
def ztU{l:List Ak}{a:Af}{n:Int}(hl:pC l=true)(h:Pc (Bc l a) λm=>m≥n)(hn:1≤n):Pc (Cz l a n) λr=>r.2=true:=by
 have hc:=zvH hl h hn;unfold Cz;refine .p λ_=> .e false ?_ λk hk=>?_
 ·exact .g λ_=> .b λ_ _=> .g λ_=> .b λ_ _=> .s rfl
 ·rw[hl,decide_eq_false hc,Bool.not_true,cond_false,cond_false];refine .b λm hm=>?_;rw[show eA n 0 m=true from YA.2 ⟨by omega,h m hm⟩];exact hk
def zv6{f:Ab}(hf:TA f=true)(hk:f.Kind=5):Pc (Cy f) λr=>r=51:=by
 unfold Cy;refine .b λb hb=> .s ?_;have hs:nB f.Kind=true:=by rw[hk];decide
 have hl:=zbZ hf hs hb;unfold TA at hf;rw[hs,cond_true]at hf;simp only[Bool.and_eq_true,beq_iff_eq,hk]at hf;obtain⟨⟨⟨⟨⟨⟨⟨⟨⟨a1,a2⟩,a3⟩,a4⟩,a5⟩,a6⟩,a7⟩,a8⟩,a9⟩,a10⟩:=hf
 have:(f.Body.length:Int)=12:=by
  unfold tE at a9;simpa using a9
 rw[hl];simp only[List.length_append,jI];omega
def zwt{f:Ab}{b:List UInt8}(hf:TA f=true)(hs:nB f.Kind=true)(hb:Ax f=some b):17≤(b.length:Int)∧(b.length:Int)≤1000:=by
 have hl:=zbZ hf hs hb;have h2:=(LC hf).2.2.2.2;have h3:=(LC hf).2.1;rw[hl];unfold TA at hf;rw[hs,cond_true]at hf;simp only[Bool.and_eq_true,beq_iff_eq]at hf;simp only[List.length_append,jI];omega
def zsG{s:Ac}{e:Ah}{i:Nat}{Q:Aj→Prop}{now:Int}{a:Af}{f:Ab}{plain b:List UInt8}(hs:wB s=true)(hN:s.D.N<10000)(hi:XB s.T f.Sn=(i:Int))(he:s.T.L[i]?=some e)(hd:e.Dead=false)(hn:eA now 0 1000000=true)(ha:EA a=true)
  (hf:TA f=true) (WW:f.Kind=4) (ho:Pc (Ba e.C now f) λr=>∃c,Q c∧c.Cur.Seq<281474976709656∧r=(c,plain,0)) (h1:IA e.P.At a=false) (h2:∀c∈e.P.Cands,IA c.A a=false) (h3:e.P.Cands.length<3)
  (hc:LG s.Cr a=true) (hb:Ax f=some b):
  Pc (Cd s now a b) λr=>∃KB q,KB.length=12∧zdU e Q now a f plain KB q∧r.2.1=q.2.1∧(∀x∈q.2.2.1,x∈r.2.2)∧r.1.T=⟨s.T.Cap,s.T.L.set i q.1⟩:=by
 have S:=nE.1 hs;have rY:nB f.Kind=true:=by rw[WW];decide
 have R1:=zwt hf rY hb;unfold Cd;refine .p λ_=> .e false ?_ λk hk=> .p λ_=>?_
 ·dsimp only[cond_false];refine .b λcr R5=>?_;obtain⟨k1,k2⟩:=zsF S.cr ha ⟨R1.1,R1.2⟩ hc cr R5;have k2:Pc (Bc cr a) λm=>m≥51:=k2.mono λm hm=>by omega
  refine .b λg hg=>?_;obtain rfl:=zgD hf rY hb g hg;refine .q (λy=>∃KB q,KB.length=12∧zdU e Q now a f plain KB q∧y.1=q.2.1∧(∀x∈q.2.2.1,x∈y.2.1)∧y.2.2.T=⟨s.T.Cap,s.T.L.set i q.1⟩∧y.2.2.Cr=cr) (λy ⟨KB,q,y1,y2,y3,y4,y5,y6⟩=>?_) λk hk=>?_
  ·obtain⟨c,l,g,_,_,_,g1,g2,g3⟩:=y2.all;have gk:g.Kind=5:=by rw[g1.shape]
   refine .q (λz=>z.1=[⟨a,g⟩]∧z.2.T=y.2.2.T) (λz ⟨z1,z2⟩=> .s ⟨KB,q,y1,y2,by rw[z1,g2],y4,by rw[z2,y5]⟩) λk hk=>?_;rw[y3,g2];refine Pc.l (λx=>(x.2.1=0∧x.1=[]∧x.2.2=y.2.2)∨(x.2.1=1∧x.1=[⟨a,g⟩]∧x.2.2.T=y.2.2.T)) (.inl ⟨rfl,rfl,rfl⟩) (λx k' hx vW=>?_) _
   rcases hx with⟨x1,x2,x3⟩|⟨x1,x2,x3⟩
   ·rw[x1,x2,x3];refine .c (λ_=>?_) λh=>absurd h (by simp);refine .q (λz=>z.1=[⟨a,g⟩]∧z.2.T=y.2.2.T) (λz ⟨z1,z2⟩=>vW _ (.inr ⟨DA (a:=0) (b:=1) (by omega) (by omega),z1,z2⟩)) λk'' hk''=> .g λ_=>?_;refine .b λo ho=>?_;cases ho;refine .b λt _=>?_;refine .q (λz:Ac=>z.T=y.2.2.T) (λz hz=> .g λ_=>hk'' _ ⟨rfl,hz⟩) λk3 CV=> .c (λ_=>?_) λ_=>CV _ rfl;refine .b λn I5=>?_;obtain rfl:=zv6 g1.ok gk n I5;refine .b λp hp=>?_;rw[y6]at hp;have:=ztU k1 k2 (by omega) p hp;rw[this];exact CV _ rfl
   ·rw[x1];exact .c (λh=>absurd h (by simp)) λ_=>hk _ ⟨x2,x3⟩
  ·rw[WW];simp only[Bool.not_true,cond_false,show((4:Int)==1)=false from rfl,show((4:Int)==3)=false from rfl,show nB 4=true from rfl,cond_true];simp only[aA];refine .b λr hr=>?_;obtain⟨KB,q,r1,r2,r3,r4,r5⟩:=ztV (s:=⟨s.Psks,s.J,s.D,s.T,cr⟩) (VH hs rfl S.jar S.dice S.tab k1 S.id) hN hi he hd hn ha hf WW ho h1 h2 h3 k2 r hr;exact hk _ ⟨KB,q,r1,r2,r3,r4,by rw[r5],by rw[r5]⟩
 ·rw[hs,hn,ha];exact hk
def zrI{s:Ac}{e:Ah}{i:Nat}{Q:Aj→Prop}{now u:Int}{t a:Af}{l:List Aw}{f:Ab}{d b:List UInt8}(hs:wB s=true)(hi:XB s.T f.Sn=(i:Int))(he:s.T.L[i]?=some e)(hd:e.Dead=false)(hn:eA now 0 1000000=true)(ha:EA a=true)
  (hf:TA f=true) (WW:f.Kind=6) (hp:e.P=⟨t,l++[⟨a,d,u⟩]⟩) (h2:∀c∈l,IA c.A a=false) (hu:now≤u) (ho:Pc (Ba e.C now f) λr=>∃c,Q c∧r=(c,d,0)) (hb:Ax f=some b):
  Pc (Cd s now a b) λr=>r.2.1=[]∧(∃c p,Q c∧p.At=a∧r.1.T=⟨s.T.Cap,s.T.L.set i ⟨e.Id,e.Cn,e.Sn,c,p,e.Tick,now,e.Dead⟩⟩)∧∃x∈r.2.2,x.Kind=9∧x.A=a∧x.Sn=e.Sn:=by
 have S:=nE.1 hs;have rY:nB f.Kind=true:=by rw[WW];decide
 unfold Cd;refine .p λ_=> .e false ?_ λk hk=> .p λ_=>?_
 ·dsimp only[cond_false];refine .b λcr R5=>?_
  have k1:pC cr=true:=by
   obtain⟨r',NX,hk⟩:=ze4 (a0:=s.Cr) (a1:=a) (a2:=(b.length:Int)) S.cr;cases NX.symm.trans R5;exact hk
  refine .b λg hg=>?_;obtain rfl:=zgD hf rY hb g hg;refine .q (λy=>y.1=[]∧(∃c p,Q c∧p.At=a∧y.2.2.T=⟨s.T.Cap,s.T.L.set i ⟨e.Id,e.Cn,e.Sn,c,p,e.Tick,now,e.Dead⟩⟩)∧∃x∈y.2.1,x.Kind=9∧x.A=a∧x.Sn=e.Sn) (λy ⟨y1,⟨c,p,y2,y3,y4⟩,y5⟩=>?_) λk hk=>?_
  ·refine .q (λz=>z.1=[]∧z.2.T=y.2.2.T) (λz ⟨z1,z2⟩=> .s ⟨z1,⟨c,p,y2,y3,by rw[z2,y4]⟩,y5⟩) λk hk=>?_;rw[y1];refine Pc.l (λx=>x.2.1=0∧x.1=[]∧x.2.2=y.2.2) ⟨rfl,rfl,rfl⟩ (λx k' ⟨x1,x2,x3⟩ vW=>?_) _;rw[x1,x2,x3];exact .c (λh=>absurd h (by simp)) λ_=>hk _ ⟨rfl,rfl⟩
  ·rw[WW];simp only[Bool.not_true,cond_false,show((6:Int)==1)=false from rfl,show((6:Int)==3)=false from rfl,show nB 6=true from rfl,cond_true];simp only[aA];refine .b λr hr=>?_;obtain⟨r1,⟨c,p,D,r2,r3,r4⟩,r5⟩:=zsd (s:=⟨s.Psks,s.J,s.D,s.T,cr⟩) (VH hs rfl S.jar S.dice S.tab k1 S.id) hi he hd hn ha hf WW hp h2 hu ho r hr;exact hk _ ⟨r1,⟨c,p,r2,r3,by rw[r4]⟩,r5⟩
 ·rw[hs,hn,ha];exact hk
def ztI{c:Ae}{Q:Aj→Prop}{now:Int}{f:Ab}{d:List UInt8}(hc:fB c=true)(mY:c.St=3)(hn:eA now 0 1000000=true)(hf:TA f=true)(WW:f.Kind=5)(hl:d.length=12)
  (ho:Pc (Ba c.C now f) λr=>∃h,Q h∧h.Cur.Seq<281474976709656∧r=(h,d,0)):
  Pc (Ej c now f) λr=>∃h g,Q h∧dF h.Cur.Key h.Role h.Sn h.Cur.N h.Cur.Seq 6 d g∧r.2.1=[g]∧r.1.C=⟨h.Role,h.Sn,⟨h.Cur.N,h.Cur.Key,h.Cur.Seq+1,h.Cur.Win⟩,h.Old,h.HasOld,h.Until,h.Next⟩∧r.1.At=c.At∧r.1.St=3∧r.1.Cn=c.Cn:=by
 have rY:nB f.Kind=true:=by rw[WW];decide
 have O5:rB c.C=true:=by
  unfold fB at hc;rw[mY]at hc;simp only[show((3:Int)==0)=false from rfl,show((3:Int)==1)=false from rfl,show((3:Int)==2)=false from rfl,cond_false,Bool.and_eq_true]at hc;exact hc.2.1.1.1.1.1.2
 unfold Ej;refine .e false ?_ λk hk=>?_
 ·dsimp only[cond_false];refine .e false ?_ λk hk=>?_
  ·dsimp only[cond_false];refine .e true ?_ λk hk=>?_
   ·dsimp only[cond_true];refine .b λr hr=> .s ?_
    revert hr
    refine(?_:Pc _ (λr:Ae×List Ab×List Ad=>∃h g,Q h∧dF h.Cur.Key h.Role h.Sn h.Cur.N h.Cur.Seq 6 d g∧r.2.1=[g]∧r.1.C=⟨h.Role,h.Sn,⟨h.Cur.N,h.Cur.Key,h.Cur.Seq+1,h.Cur.Win⟩,h.Old,h.HasOld,h.Until,h.Next⟩∧r.1.At=c.At∧r.1.St=3∧r.1.Cn=c.Cn)) r;unfold Ip;refine .p λ_=> .b λo E2=>?_;obtain⟨h,q1,q2,rfl⟩:=ho o E2
    have hh:rB h=true:=by
     obtain⟨r,jW,k1,_⟩:=zaH (a1:=now) (a2:=f) O5 (zf8 hf);cases jW.symm.trans E2;exact k1
    rw[show((0:Int) !=0)=false from rfl,cond_false];refine .b λ_ _=> .b λ_ _=> .b λ_ _=>?_;refine .q (λy=>y.2.At=c.At∧y.2.St=3∧y.2.Cn=c.Cn) (λy hy=>?_) λk hk=>?_
    ·refine .q (λy=>y.2.At=c.At∧y.2.St=3∧y.2.Cn=c.Cn) (λy hy=>?_) λk hk=> .c (λ_=> .p λ_=> .p λ_=> .g λ_=>hk _ hy) λ_=>hk _ hy;refine .q (λ_=>True) (λz _=>?_) λk hk=> .c (λ_=> .p λ_=> .g λ_=>hk _ trivial) λ_=>hk _ trivial;rw[WW,show((5:Int) !=5)=false from rfl,cond_false];refine .b λg hg=>?_;obtain⟨g',g1,rfl⟩:=zeY (plain:=d) hh (by decide) (by rw[hl];decide) (by omega) q2 g hg;rw[show((0:Int) !=0)=false from rfl,cond_false];exact .p λ_=> .b λ_ _=> .g λ_=> .s ⟨h,g',q1,g1,rfl,rfl,hy⟩
    ·rw[mY,show((3:Int)==2)=false from rfl,cond_false];exact hk _ ⟨rfl,rfl,rfl⟩
   ·rw[rY,mY];exact hk
  ·rw[WW];exact hk
 ·refine .p λ_=>?_;rw[hc,hn];refine .p λ_=>?_;rw[hf];exact hk
end Go.D
namespace Go.D
def Met(sn:List UInt8)(h k:Aj):Prop:=k.Role=0∧k.Sn=sn∧k.Cur.N=h.Cur.N∧k.Cur.Key=h.Cur.Key∧k.Cur.Win.Top=h.Cur.Seq∧h.Cur.Win.Top<k.Cur.Seq
def zdR(sn:List UInt8)(now:Int)(c:Aj)(h:Aj):Prop:=h.Role=1∧h.Sn=sn∧∀KB g,dF h.Cur.Key h.Role h.Sn h.Cur.N h.Cur.Seq 5 KB g→
 Pc (Ba c now g) λr=>∃k,Met sn h k∧k.Cur.Seq<281474976709656∧r=(k,KB,0)
def zfW{e:Av}(h:cC e=true):eA e.N 0 4294967295=true∧e.Key.length=32∧eA e.Seq 0 281474976710656=true∧IC e.Win=true:=by
 unfold cC at h;simp only[Bool.and_eq_true,beq_iff_eq]at h;exact⟨h.1.1.1,by omega,h.1.2,h.2⟩
def JK(c:Aj):Aj:=⟨c.Role,c.Sn,⟨c.Cur.N,c.Cur.Key,c.Cur.Seq+1,c.Cur.Win⟩,c.Old,c.HasOld,c.Until,c.Next⟩
def zte{c s:Aj}{sn:List UInt8}{now:Int}{plain:List UInt8}{f:Ab}(hc:rB c=true)(hs:rB s=true)(B9:rB (JK c)=true)(r0:c.Role=0)(r1:s.Role=1)(n0:c.Sn=sn)(n1:s.Sn=sn)(hn:eA now 0 1000000=true)(hk:AI c s=true)
  (q0:c.Cur.Seq≤281474976709556) (q1:s.Cur.Seq≤281474976709556) (hN:c.Cur.N≤4294967293) (hv:s.HasOld=true→s.Until= -1→s.Cur.Win.Top= -1) (hf:dF c.Cur.Key 0 sn c.Cur.N c.Cur.Seq 4 plain f):
  Pc (Ba s now f) λr=>∃h,zdR sn now (JK c) h∧h.Cur.Seq<281474976709656∧r=(h,plain,0):=by
 obtain⟨c1,c2,c3,c4⟩:=vM hc;obtain⟨s1,s2,s3,s4⟩:=vM hs;obtain⟨e1,e2,e3,e4⟩:=zfW c3;obtain⟨t1,t2,t3,t4⟩:=zfW s3;have e1':=YA.1 e1;have e3':=YA.1 e3;have t3':=YA.1 t3;have hq:eA c.Cur.Seq 0 281474976710655=true:=YA.2 (by omega);have F9:eA s.Cur.Seq 0 281474976710655=true:=YA.2 (by omega);unfold AI at hk;cases hb:(c.Cur.N==s.Cur.N&&c.Cur.Key==s.Cur.Key)
 ·rw[hb,cond_false,DA (a:=c.Cur.N) (b:=1) (by omega) (by omega)]at hk;simp only[Bool.and_eq_true,beq_iff_eq,decide_eq_true_eq]at hk;obtain⟨⟨⟨⟨⟨⟨k1,k2⟩,k3⟩,k4⟩,k5⟩,k6⟩,k7⟩:=hk;obtain⟨o1,o2⟩:=s4 k3;have hw:=hv k3 k4;refine(zqj hs hn k3 k4 (seq:=c.Cur.Seq) (kind:=4) (plain:=plain) (by rw[k5,r1,n1,o2,k1,show c.Cur.N+1 - 1=c.Cur.N by omega];exact hf) hq k6).mono λr ⟨w,w1,w2⟩=>?_;refine⟨⟨s.Role,s.Sn,s.Cur,⟨s.Old.N,s.Old.Key,s.Old.Seq,w⟩,s.HasOld,s.Until,s.Next⟩,⟨r1,n1,λKB g hg=>?_⟩,?_,w2⟩
  ·have:=zpJ (c:=JK c) (now:=now) (seq:=s.Cur.Seq) (kind:=5) (plain:=KB) (f:=g) B9 hn (by show c.Next.length=32;rw[k2];exact t2) (by show c.Cur.N<4294967295;omega)
    (by show dF c.Next (1 - c.Role) c.Sn (c.Cur.N+1) s.Cur.Seq 5 KB g;rw[k2,r0,n0, ←k1];simp only[r1,n1]at hg;exact hg) F9
   refine this.mono λr ⟨v,v1,v2⟩=>⟨⟨c.Role,c.Sn,⟨c.Cur.N+1,c.Next,0,v⟩,(JK c).Cur,true,now+5,[]⟩,⟨r0,n0,?_,k2,v1,?_⟩,?_,v2⟩
   ·exact k1.symm
   ·show s.Cur.Win.Top<0;omega
   ·show(0:Int)<281474976709656;omega
  ·show s.Cur.Seq<_;omega
 ·rw[hb,cond_true]at hk;simp only[Bool.and_eq_true,beq_iff_eq,decide_eq_true_eq]at hk hb;refine(zeU hs hn (seq:=c.Cur.Seq) (kind:=4) (plain:=plain) (f:=f) (by rw[r1,n1, ←hb.1, ←hb.2];exact hf) hq hk.2).mono λr ⟨w,u,w1,w2⟩=>?_;refine⟨⟨s.Role,s.Sn,⟨s.Cur.N,s.Cur.Key,s.Cur.Seq,w⟩,s.Old,s.HasOld,u,s.Next⟩,⟨r1,n1,λKB g hg=>?_⟩,?_,w2⟩
  ·have:=zeU (c:=JK c) (now:=now) (seq:=s.Cur.Seq) (kind:=5) (plain:=KB) (f:=g) B9 hn
    (by show dF c.Cur.Key (1 - c.Role) c.Sn c.Cur.N s.Cur.Seq 5 KB g;rw[r0,n0,hb.1,hb.2];simp only[r1,n1]at hg;exact hg) F9 hk.1
   refine this.mono λr ⟨v,u2,v1,v2⟩=>⟨⟨c.Role,c.Sn,⟨c.Cur.N,c.Cur.Key,c.Cur.Seq+1,v⟩,c.Old,c.HasOld,u2,c.Next⟩,⟨r0,n0,hb.1,hb.2,v1,?_⟩,?_,v2⟩
   ·show w.Top<c.Cur.Seq+1;omega
   ·show c.Cur.Seq+1<281474976709656;omega
  ·show s.Cur.Seq<_;omega
end Go.D
namespace Go.D
def zgp{a b:Af}{f:Ab}:Pc (Dm a b f) λr=>∃p,Ax f=some p∧r=⟨a,b,p⟩:=by
 unfold Dm;exact .b λp hp=> .s ⟨p,hp,rfl⟩
def zrw{o:Aq}:Pc (Bs [o]) λr=>∃p,Ax o.F=some p∧r=[⟨SB,o.To,p⟩]:=by
 unfold Bs;simp only[aA];refine Pc.l (λx=>(x.2=0∧x.1=[])∨(x.2=1∧∃p,Ax o.F=some p∧x.1=[⟨SB,o.To,p⟩])) (.inl ⟨rfl,rfl⟩) (λx k hx hk=>?_) _
 rcases hx with⟨x1,x2⟩|⟨x1,p,x2,x3⟩
 ·rw[x1,x2];refine .c (λ_=> .b λe he=>?_) λh=>absurd h (by simp);cases he;refine .b λw hw=> .g λ_=>?_;obtain⟨p,hp,rfl⟩:=zgp w hw;exact hk _ (.inr ⟨DA (a:=0) (b:=1) (by omega) (by omega),p,hp,rfl⟩)
 ·rw[x1,x3];exact .c (λh=>absurd h (by simp)) λ_=> .s ⟨p,x2,rfl⟩
def zp6{c:Ae}{f:Ab}:Pc (Br c [f]) λr=>∃p,Ax f=some p∧r=[⟨c.At,SB,p⟩]:=by
 unfold Br;simp only[aA];refine Pc.l (λx=>(x.2=0∧x.1=[])∨(x.2=1∧∃p,Ax f=some p∧x.1=[⟨c.At,SB,p⟩])) (.inl ⟨rfl,rfl⟩) (λx k hx hk=>?_) _
 rcases hx with⟨x1,x2⟩|⟨x1,p,x2,x3⟩
 ·rw[x1,x2];refine .c (λ_=> .b λe he=>?_) λh=>absurd h (by simp);cases he;refine .b λw hw=> .g λ_=>?_;obtain⟨p,hp,rfl⟩:=zgp w hw;exact hk _ (.inr ⟨DA (a:=0) (b:=1) (by omega) (by omega),p,hp,rfl⟩)
 ·rw[x1,x3];exact .c (λh=>absurd h (by simp)) λ_=> .s ⟨p,x2,rfl⟩
def zrj:Pc (Bs []) λr=>r=[]:=by
 unfold Bs;simp only[aA];refine Pc.l (λx=>x.2=0∧x.1=[]) ⟨rfl,rfl⟩ (λx k ⟨x1,x2⟩ hk=>?_) _;rw[x1,x2];exact .c (λh=>absurd h (by simp)) λ_=> .s rfl
def zkT{w:Aa}{l:List Al}:Pc (Bg w l) λr=>∃m,r=⟨w.Now,w.Clients,w.S,w.D,m,w.Known,w.Notes⟩:=by
 unfold Bg;refine .p λ_=>?_;simp only[aA];refine Pc.l (λx=>∃m,x.2=⟨w.Now,w.Clients,w.S,w.D,m,w.Known,w.Notes⟩) ⟨w.Seen,rfl⟩ (λx k ⟨m,hx⟩ hk=>?_) _;refine .c (λ_=> .b λ_ _=> .b λs _=>hk _ ⟨s,by rw[hx]⟩) λ_=> .s ⟨m,hx⟩
def zkZ{w:Aa}{a:Af}{b:List UInt8}(hw:NA w=true)(ha:EA a=true):Pc (Be w 0 a b) λr=>∃v l,Cd w.S w.Now a b=some v∧Bs v.2.1=some l∧r=(⟨w.Now,w.Clients,v.1,w.D,w.Seen,w.Known,w.Notes++v.2.2⟩,l):=by
 unfold Be;refine .p λ_=> .e false ?_ λk hk=> .p λ_=>?_
 ·dsimp only[cond_false];rw[show((0:Int)==0)=true from rfl,cond_true];exact .b λv hv=> .g λ_=> .b λl hl=> .s ⟨v,l,hv,hl,rfl⟩
 ·rw[hw,ha,show eA 0 0 2=true by decide];exact hk
def zvs{w:Aa}{a:Af}{b:List UInt8}{k:Nat}{c:Ae}{f:Ab}(hw:NA w=true)(ha:EA a=true)(hk:k≤1)(hc:w.Clients[k]?=some c)(hg:Pc (Cb b) λr=>r=(f,true)):
  Pc (Be w (k+1) a b) λr=>∃v l,Ej c w.Now f=some v∧Br v.1 v.2.1=some l∧r=(⟨w.Now,w.Clients.set k v.1,w.S,w.D,w.Seen,w.Known,w.Notes++v.2.2⟩,l):=by
 have ei:oA .i64 ((k:Int)+1) 1=(k:Int):=by rw[RA (by omega) (by omega)];omega
 unfold Be;refine .p λ_=> .e false ?_ λk' vW=> .p λ_=>?_
 ·dsimp only[cond_false];rw[beq_eq_false_iff_ne.2 (show(k:Int)+1≠0 by omega),cond_false];refine .b λg hg'=>?_;obtain rfl:=hg g hg';rw[Bool.not_true,cond_false,ei,show jA w.Clients (k:Int)=some c by unfold jA;rw[if_pos (by omega),Int.toNat_natCast];exact hc,XA,Int.toNat_natCast];refine .b λv hv=> .g λ_=> .b λ_ _=> .g λ_=> .b λl hl=> .s ⟨v,l,hv,hl,rfl⟩
 ·rw[hw,ha,show eA ((k:Int)+1) 0 2=true from YA.2 (by omega)];exact vW
end Go.D
namespace Go.D
def Pc.q0{α σ:Type}{Q:α→Prop}{h:σ→Option α}{f:(σ→Option α)→Option α}(a:∀y,Pc (h y) Q)(e:∀k:σ→Option α,(∀y,Pc (k y) Q)→Pc (f k) Q):Pc (aA h f) Q:=e h a
def VI(c:Aj):Prop:=c.HasOld=true→c.Until= -1→c.Cur.Win.Top= -1
def zap{c:Aj}(h:c.HasOld=false):VI c:=λq=>by rw[h]at q;exact nomatch q
def zvn{c:Aj}{now:Int}{f:Ab}(h:VI c):Pc (Ba c now f) λr=>VI r.1:=by
 unfold Ba;simp only[kA,lC];refine .p λ_=> .q (λy=>y=false→eA now 0 1000000=true) (λy2 lW=> .c (λ_=> .s h) λh2=>?_) λk3 CV=> .b λ_ _=> .c (λ_=>CV _ nofun) λ_=> .c (λ_=>CV _ nofun) λh1=> .c (λ_=>CV _ nofun) λ_=> .b λ_ _=>CV _ λ_=>nf h1;have hn:=YA.1 (lW h2);have hu:∀{d:Aj},d.Until=fA .i64 now 5→VI d:=λq _ q2=>by rw[q,DA (by omega) (by omega)]at q2;omega
 refine .q0 (λy6=> .q0 (λy8=> .q0 (λy10=> .c (λ_=> .s h) λ_=> .q0 (λy13=> .c (λ_=> .s h) λ_=> .q0 (λy15=> .q0 (λy17=> .b λr20 _=> .c (λ_=> .s h) λ_=> .q VI (λy21 hy=> .s hy) λk22 hk=> .c (λ_=> .q (λy=>y=false→¬(c.HasOld=true∧c.Until= -1)) (λy23 S0=> .q VI (λy25 hy=>hk _ hy) λk26 E1=> .c (λ_=>E1 _ (hu rfl)) λq=>E1 _ λq1 q2=>(S0 q ⟨q1,q2⟩).elim) λk24 LW=> .c (λ_=>LW _ λq1 q2=>beq_eq_false_iff_ne.1 q1 q2.2) λq=>LW _ λ_ q1=>by rw[q]at q1;exact nomatch q1.1) λ_=> .q VI (λy27 hy=>hk _ hy) λk28 KX=> .c (λ_=>KX _ h) λ_=>KX _ (hu rfl)) ?_) ?_) ?_) ?_) ?_) ?_
 all_goals
  intro k hk
  repeat' (first|exact hk _|refine Pc.c (λ_=>?_) λ_=>?_|refine Pc.b λ_ _=>?_)
def zrg{c:Aj}{now:Int}(h:VI c):Pc (Bv c now) VI:=by
 unfold Bv;simp only[kA];refine .p λ_=> .q0 (λy2=> .q VI (λy hy=> .s hy) λk hk=> .c (λ_=>hk _ (zap rfl)) λ_=>hk _ h) λk hk=>?_
 repeat' (first|exact hk _|refine Pc.c (λ_=>?_) λ_=>?_|refine Pc.b λ_ _=>?_)
def zrS{e:Av}{r:Int}{s:List UInt8}{k:Int}{b:List UInt8}:Pc (Ck e r s k b) λv=>v.1.Win=e.Win:=by
 unfold Ck;simp only[kA];exact .p λ_=> .c (λ_=> .s rfl) λ_=> .b λ_ _=> .c (λ_=> .s rfl) λ_=> .q0 (λy3=> .c (λ_=> .s rfl) λ_=> .c (λ_=> .s rfl) λ_=> .b λ_ _=> .s rfl) λk hk=> .c (λ_=>hk _) λ_=>hk _
def zgz{c:Aj}{k:Int}{b:List UInt8}(h:VI c):Pc (Bh c k b) λr=>VI r.1:=by
 unfold Bh;simp only[kA];refine .p λ_=> .b λ_ _=> .c (λ_=> .s h) λ_=> .b λr hr=> .s λq1 q2=>?_;show r.1.Win.Top= -1
 rw[zrS r hr];exact h q1 q2
def zwb{c:Aj}(h:VI c):Pc (Fh c) λr=>VI r.1:=by
 unfold Fh;simp only[kA,lC,LE];refine .p λ_=> .q (λy=>y=false→rB c=true∧c.Cur.N≠4294967295) (λy hy=> .c (λ_=> .s h) λq=> .p λhd=> .b λr hr=> .s λ_ _=>?_) λk hk=> .p λ_=> .c (λ_=>hk _ nofun) λh1=> .c (λ_=>hk _ nofun) λ_=>hk _ λq=>⟨nf h1,beq_eq_false_iff_ne.1 q⟩;obtain⟨q1,q2⟩:=hy q;obtain⟨e1,e2,_,_⟩:=zfW (vM q1).2.2.1;have e1:=YA.1 e1;have en:fA .i64 c.Cur.N 1=c.Cur.N+1:=DA (by omega) (by omega);exact(zkJ (YA.2 (by rw[en];omega)) (xL (by omega) (by decide)) r hr).2.2.2.2
def zlU{c:Aj}(h:VI c):Pc (Eh c) λr=>VI r.1:=by
 unfold Eh;simp only[kA];refine .q0 (λy=> .c (λ_=> .p λ_=> .s h) λ_=> .b λ_ _=> .b λr hr=> .s (zgz h r hr)) λk hk=>?_
 repeat' (first|exact hk _|refine Pc.c (λ_=>?_) λ_=>?_|refine Pc.b λ_ _=>?_)
def ziq{c:Aj}{n:Int}{b:List UInt8}(h:VI c):Pc (Fi c n b) λr=>VI r.1:=by
 unfold Fi;simp only[kA];refine .p λ_=> .q0 (λy2=> .c (λ_=> .s h) λ_=> .c (λ_=> .s h) λ_=> .b λr7 h7=> .q0 (λy8=> .c (λ_=> .s h) λ_=> .s (zwb h r7 h7)) ?_) ?_
 all_goals
  intro k hk
  repeat' (first|exact hk _|refine Pc.c (λ_=>?_) λ_=>?_|refine Pc.b λ_ _=>?_)
def zqV{s:Ah}{n:Int}{b:List UInt8}(h:VI s.C):Pc (Gk s n b) λr=>VI r.1.C:=by
 unfold Gk;exact .b λr1 h1=> .c (λ_=> .s h) λ_=> .q0 (λy2=> .b λr7 h7=> .c (λ_=> .s (ziq h r1 h1)) λ_=> .b λ_ _=> .g λ_=> .s (zlU (ziq h r1 h1) r7 h7)) λk hk=> .c (λ_=> .b λ_ _=> .b λ_ _=> .g λ_=>hk _) λ_=>hk _
def zrC{s:Ah}{now:Int}{a:Af}{f:Ab}{b:List UInt8}(h:VI s.C):Pc (Cc s now a f b) λr=>VI r.1.C:=by
 unfold Cc;simp only[kA];refine .p λ_=> .q0 (λy2=> .c (λ_=> .s h) λ_=> .b λr5 h5=> .c (λ_=> .s h) λ_=> .b λ_ _=> .b λ_ _=> .b λ_ _=>?_) ?_
 ·have h5:=zvn h r5 h5;refine .q (λy=>VI y.2.2.C) (λy9 hy=> .b λ_ _=> .b λr24 WZ=> .q0 (λy25=> .c (λ_=> .s hy) λ_=> .g λ_=> .b λ_ _=> .g λ_=> .s (zgz hy r24 WZ)) λk hk=> .c (λ_=>hk _) λ_=>hk _) λk10 IV=> .c (λ_=> .b λ_ _=> .g λ_=>IV _ h5) λ_=> .q (λy=>VI y.2.2.C) (λy13 hy=>IV _ hy) λk14 GV=> .c (λ_=> .b λr15 _=> .q (λy=>VI y.2.C) (λy hy=>GV _ hy) λk17 OW=> .c (λ_=> .b λ_ _=> .g λ_=>OW _ h5) λ_=>OW _ h5) λ_=> .q (λy=>VI y.2.2.C) (λy20 hy=>GV _ hy) λk21 mX=> .c (λ_=> .b λr22 yZ=> .g λ_=> .g λ_=>mX _ (zqV h5 r22 yZ)) λ_=>mX _ h5
 ·intro k hk
  repeat' (first|exact hk _|refine Pc.c (λ_=>?_) λ_=>?_|refine Pc.b λ_ _=>?_)
def zq9{s:Ah}{b:List UInt8}(h:VI s.C):Pc (Da s b) λr=>VI r.1.C:=by
 unfold Da;simp only[kA];exact .p λ_=> .q0 (λy2=> .c (λ_=> .s h) λ_=> .c (λ_=> .s h) λ_=> .b λr5 h5=> .c (λ_=> .s h) λ_=> .b λ_ _=> .b λ_ _=> .b λ_ _=> .s (zgz h r5 h5)) λk hk=> .b λ_ _=> .c (λ_=>hk _) λ_=>hk _
def zr1{s:Ah}(h:VI s.C):Pc (Dq s) λr=>VI r.1.C:=by
 unfold Dq;simp only[kA];exact .p λ_=> .q0 (λy2=> .c (λ_=> .s h) λ_=> .b λr5 h5=> .c (λ_=> .s h) λ_=> .b λ_ _=> .s (zlU h r5 h5)) λk hk=> .b λ_ _=> .c (λ_=>hk _) λ_=> .c (λ_=>hk _) λ_=>hk _
def zlM{s:Ah}(h:VI s.C):Pc (Em s) λr=>VI r.C:=by
 unfold Em;simp only[kA];exact .b λ_ _=> .c (λ_=> .p λ_=> .s h) λ_=> .b λ_ _=> .b λ_ _=> .s (zap rfl)
def zq7{s:Ah}{now:Int}(h:VI s.C):Pc (Gq s now) λr=>VI r.C:=by
 unfold Gq;simp only[kA];exact .p λ_=> .q0 (λy2=> .c (λ_=> .s h) λ_=> .c (λ_=> .b λr5 h5=> .s (zlM h r5 h5)) λ_=> .b λr6 h6=> .b λ_ _=> .s (zrg h r6 h6)) λk hk=> .b λ_ _=> .c (λ_=>hk _) λ_=> .c (λ_=>hk _) λ_=>hk _
def zr5{r:Int}{s k:List UInt8}:Pc (Ef r s k) VI:=by
 unfold Ef;exact .q0 (λy=> .c (λ_=> .s (zap rfl)) λ_=> .b λ_ _=> .b λ_ _=> .s (zap rfl)) λk hk=> .c (λ_=>hk _) λ_=> .c (λ_=>hk _) λ_=>hk _
def zrX{p:List UInt8}{n:Int}{a:Af}{f:Ab}:Pc (Dp p n a f) λr=>VI r.C:=by
 unfold Dp;refine .q0 (λy=> .c (λ_=> .s (zap rfl)) λ_=> .b λ_ _=> .b λ_ _=> .b λ_ _=> .b λ_ _=> .b λr8 h8=> .s (zr5 r8 h8)) λk hk=>?_
 repeat' (first|exact hk _|refine Pc.c (λ_=>?_) λ_=>?_|refine Pc.b λ_ _=>?_)
def SV(t:Ao):Prop:=∀e∈t.L,VI e.C
def zrJ{t:Ao}{s:Ah}(h:SV t)(hs:VI s.C):Pc (Bk t s) λr=>SV r.1:=by
 unfold Bk;simp only[kA];refine .p λ_=> .q0 (λy2=> .c (λ_=> .s h) λ_=> .b λ_ _=> .c (λ_=> .s h) λ_=> .q0 (λy7=> .c (λ_=> .s h) λ_=> .p λ_=> .g λ_=> .s λe he=>(List.mem_append.1 he).elim (h e) λq=>by rw[List.mem_singleton.1 q];exact hs) ?_) ?_
 all_goals
  intro k hk
  repeat' (first|exact hk _|refine Pc.c (λ_=>?_) λ_=>?_|refine Pc.b λ_ _=>?_)
def zbE{t:Ao}{i:Int}{s:Ah}(h:SV t)(hs:VI s.C):Pc (Bo t i s) λr=>SV r.1:=by
 unfold Bo;simp only[kA];refine .p λ_=> .q0 (λy2=> .c (λ_=> .s h) λ_=> .p λ_=> .g λ_=> .b λ_ _=> .b λ_ _=> .c (λ_=> .p λ_=> .s h) λ_=> .s λe he=>(List.mem_or_eq_of_mem_set he).elim (h e) λq=>by rw[q];exact hs) λk hk=>?_
 repeat' (first|exact hk _|refine Pc.c (λ_=>?_) λ_=>?_|refine Pc.b λ_ _=>?_)
def zrh{s:Ac}{n:Int}{a:Af}{f:Ab}(h:SV s.T):Pc (Gg s n a f) λr=>SV r.1.T:=by
 unfold Gg;refine .q0 (λy=> .c (λ_=> .s h) λ_=> .b λ_ _=> .b λ_ _=> .b λ_ _=> .b λ_ _=> .b λ_ _=> .b λ_ _=> .b λ_ _=> .s h) λk hk=>?_
 repeat' (first|exact hk _|refine Pc.c (λ_=>?_) λ_=>?_|refine Pc.b λ_ _=>?_)
def zpI{s:Ac}{n:Int}{a:Af}{f:Ab}(h:SV s.T):Pc (Gi s n a f) λr=>SV r.1.T:=by
 unfold Gi;refine .q0 (λy=> .c (λ_=> .s h) λ_=> .b λ_ _=> .q (λy=>SV y.2.2.T) (λy7 hy=> .b λ_ _=> .b λe22 yZ=> .q0 (λy23=> .c (λ_=> .s hy) λ_=> .b λr26 T5=> .b λr27 T3=> .g λ_=> .s (zbE hy (zr1 (hy e22 (MG yZ)) r26 T5) r27 T3)) ?_) λk8 eW=> .c (λ_=> .b λ_ _=> .b λr10 gW=> .b λr11 rW=> .c (λ_=> .s h) λ_=> .b λ_ _=> .b λ_ _=> .b λ_ _=> .b λ_ _=> .b λ_ _=> .b λ_ _=> .b λ_ _=> .b λ_ _=> .g λ_=>eW _ (zrJ h (zrX r10 gW) r11 rW)) λ_=>eW _ h) ?_
 all_goals
  intro k hk
  repeat' (first|exact hk _|refine Pc.c (λ_=>?_) λ_=>?_|refine Pc.b λ_ _=>?_)
def ztk{s:Ac}{n:Int}{a:Af}{f:Ab}(h:SV s.T):Pc (Cw s n a f) λr=>SV r.1.T:=by
 unfold Cw;refine .b λ_ _=> .q0 (λy=> .c (λ_=> .s h) λ_=> .b λ_ _=> .b λ_ _=> .q0 (λy7=> .b λe9 h9=> .b λr10 gW=> .b λr11 rW=>?_) ?_) ?_
 ·have ht:=zbE h (zrC (h e9 (MG h9)) r10 gW) r11 rW;exact .q (λy=>SV y.2.T) (λy hy=> .s hy) λk hk=> .c (λ_=> .b λ_ _=> .b λ_ _=> .b λ_ _=> .g λ_=> .g λ_=>hk _ ht) λ_=>hk _ ht
 all_goals
  intro k hk
  repeat' (first|exact hk _|refine Pc.c (λ_=>?_) λ_=>?_|refine Pc.b λ_ _=>?_)
def zp2{s:Ac}{n:Int}{a:Af}{b:List UInt8}(h:SV s.T):Pc (Cd s n a b) λr=>SV r.1.T:=by
 unfold Cd;simp only[kA];refine .p λ_=> .q0 (λy2=> .c (λ_=> .s h) λ_=> .b λr5 _=> .b λr6 _=> .q (λy=>SV y.2.2.T) (λy7 hy=> .q (λy=>SV y.2.T) (λy18 hy=> .s hy) λk19 fX=> .l (λx=>SV x.2.2.T) hy (λx k21 hx mX=> .c (λ_=> .q (λy=>SV y.2.T) (λy22 hy=>mX _ hy) λk23 lX=> .g λ_=> .b λe24 _=> .b λr25 _=> .q (λy=>SV y.T) (λy26 hy=> .g λ_=>lX _ hy) λk27 DW=> .c (λ_=> .b λ_ _=> .b λr29 _=> .c (λ_=>lX _ hx) λ_=>DW _ hx) λ_=>DW _ hx) λ_=>fX _ hx) _) λk8 eW=> .c (λ_=>eW _ h) λ_=> .q (λy=>SV y.2.2.T) (λy hy=>eW _ hy) λk10 IV=> .c (λ_=> .b λr11 rW=>IV _ (zrh (s:=⟨s.Psks,s.J,s.D,s.T,r5⟩) h r11 rW)) λ_=> .q (λy=>SV y.2.2.T) (λy hy=>IV _ hy) λk13 TV=> .c (λ_=> .b λr14 XX=>TV _ (zpI (s:=⟨s.Psks,s.J,s.D,s.T,r5⟩) h r14 XX)) λ_=> .q (λy=>SV y.2.2.T) (λy hy=>TV _ hy) λk16 qW=> .c (λ_=> .b λr17 IY=>qW _ (ztk (s:=⟨s.Psks,s.J,s.D,s.T,r5⟩) h r17 IY)) λ_=>qW _ h) λk hk=>?_
 repeat' (first|exact hk _|refine Pc.c (λ_=>?_) λ_=>?_|refine Pc.b λ_ _=>?_)
def zr0{t:Ao}{n:Int}(h:SV t):Pc (Gr t n) SV:=by
 unfold Gr;simp only[kA];refine .q0 (λy1=> .c (λ_=> .p λ_=> .s h) λ_=> .q SV (λy5 hy=> .s hy) λk6 pW=> .l (λx:Int×Ao=>SV x.2) (λe q=>(List.not_mem_nil q).elim) (λx k8 hx eW=> .c (λ_=> .b λe9 h9=> .b λr10 gW=> .q0 (λy11=> .q SV (λy13 hy=>eW _ hy) λk14 GV=> .c (λ_=> .g λ_=>GV _ λe he=>(List.mem_append.1 he).elim (hx e) λq=>by rw[List.mem_singleton.1 q];exact zq7 (h e9 (MG h9)) r10 gW) λ_=>GV _ hx) λk hk=> .c (λ_=>hk _) λ_=>hk _) λ_=>pW _ hx) _) λk hk=>?_
 repeat' (first|exact hk _|refine Pc.c (λ_=>?_) λ_=>?_|refine Pc.b λ_ _=>?_)
def zp1{s:Ac}{n:Int}(h:SV s.T):Pc (Gs s n) λr=>SV r.1.T:=by
 unfold Gs;simp only[kA];refine .p λ_=> .q0 (λy2=> .c (λ_=> .s h) λ_=> .b λr5 h5=> .q0 (λy6=> .s (zr0 h r5 h5)) λk7 CW=> .l (λ_=>True) trivial (λx k9 _ wX=> .c (λ_=> .b λ_ _=> .b λ_ _=> .q0 (λy12=> .q0 (λy15=>wX _ trivial) λk16 qW=> .c (λ_=> .b λ_ _=> .g λ_=>qW _) λ_=>qW _) λk13 TV=> .c (λ_=> .c (λ_=>TV _) λ_=> .g λ_=> .b λ_ _=>TV _) λ_=>TV _) λ_=>CW _) _) λk hk=>?_
 repeat' (first|exact hk _|refine Pc.c (λ_=>?_) λ_=>?_|refine Pc.b λ_ _=>?_)
def zp7{s:Ac}{n i:Int}{b:List UInt8}(h:SV s.T):Pc (Gm s n i b) λr=>SV r.1.T:=by
 unfold Gm;simp only[kA];refine .p λ_=> .q0 (λy2=> .c (λ_=> .s h) λ_=> .q0 (λy5=> .c (λ_=> .s h) λ_=> .b λe7 h7=> .b λr8 h8=> .c (λ_=> .s h) λ_=> .b λr9 h9=> .s (zbE h (zq9 (h e7 (MG h7)) r8 h8) r9 h9)) ?_) ?_
 all_goals
  intro k hk
  repeat' (first|exact hk _|refine Pc.c (λ_=>?_) λ_=>?_|refine Pc.b λ_ _=>?_)
def zpd{s:Ac}{i:Int}(h:SV s.T):Pc (Gn s i) λr=>SV r.1.T:=by
 unfold Gn;simp only[kA];refine .p λ_=> .b λ_ _=> .c (λ_=> .s h) λ_=> .q0 (λy3=> .c (λ_=> .s h) λ_=> .b λe6 h6=> .b λr7 h7=> .b λr8 h8=> .b λ_ _=> .s (zbE h (zlM (h e6 (MG h6)) r7 h7) r8 h8)) λk hk=>?_
 repeat' (first|exact hk _|refine Pc.c (λ_=>?_) λ_=>?_|refine Pc.b λ_ _=>?_)
def zjZ{n:Int}:SV (OE n):=by
 unfold OE;cases eA n 1 6<;>exact λ_ h=>nomatch h
def zvD{s:Ac}(h:SV s.T):Pc (Ek s) λr=>SV r.1.T:=by
 unfold Ek;simp only[kA];exact .p λ_=> .q0 (λy2=> .c (λ_=> .s h) λ_=> .b λ_ _=> .b λ_ _=> .b λ_ _=> .s zjZ) λk hk=> .b λ_ _=> .c (λ_=>hk _) λ_=>hk _
end Go.D
namespace Go.D
def zxu{c:Ae}{n:Int}:Pc (Ir c n) λr=>r.2.2.length≤1:=by
 unfold Ir;simp only[kA];exact .c (λ_=> .b λ_ _=> .b λ_ _=> .s (Nat.le_refl _)) λ_=> .p λ_=> .b λ_ _=> .b λ_ _=> .c (λ_=> .s (Nat.zero_le _)) λ_=> .q0 (λy6=> .b λ_ _=> .c (λ_=> .s (Nat.zero_le _)) λ_=> .b λ_ _=> .s (Nat.le_refl _)) λk hk=> .c (λ_=> .b λ_ _=>hk _) λ_=>hk _
def ztC{c:Ae}{n:Int}:Pc (Gp c n) λr=>r.2.2.length≤1:=by
 unfold Gp;simp only[kA];refine .p λ_=> .q0 (λy2=> .c (λ_=> .s (Nat.zero_le _)) λ_=> .c (λ_=> .b λv hv=> .s (zxu v hv)) λ_=> .b λ_ _=> .c (λ_=> .b λ_ _=> .b λ_ _=> .s (Nat.le_refl _)) λ_=> .q0 (λy10=> .c (λ_=> .b λ_ _=> .s (Nat.zero_le _)) λ_=> .c (λ_=> .p λ_=> .s (Nat.zero_le _)) λ_=> .s (Nat.zero_le _)) λk hk=> .c (λ_=>hk _) λ_=>hk _) λk hk=>?_
 repeat' (first|exact hk _|refine Pc.c (λ_=>?_) λ_=>?_|refine Pc.b λ_ _=>?_)
def SN(w v:Aa):Prop:=SV v.S.T∧v.Notes.length≤w.Notes.length+16
def yV{a0:Aa}{a1:Int}{a2:Af}{a3:List UInt8}(ha:NA a0=true)(hb:wt a3≤900000000)(h:SV a0.S.T):Pc (Be a0 a1 a2 a3) λr=>SN a0 r.1:=by
 unfold Be;simp only[kA,pE,aA];refine .p λ_=> .p λ_=>?_;rw[ha];have h0:SN a0 a0:=⟨h,Nat.le_add_right _ _⟩;cases eA a1 0 2
 ·exact .s h0
 cases EA a2
 ·exact .s h0
 simp only[Bool.not_true,cond_false];have O:=UB.1 ha;refine .c (λ_=> .b λv hv=> .g λ_=> .b λ_ _=> .s ⟨zp2 h v hv,?_⟩) λ_=> .b λf hf=> .c (λ_=> .s h0) λh5=> .b λc hc=> .b λv hv=> .g λ_=> .b λ_ _=> .g λ_=> .b λ_ _=> .s ⟨h,?_⟩
 ·obtain⟨q,hq,_,_,_,_,_,p⟩:=@zhJ a0.S a0.Now a2 a3 O.srv hb;cases hq.symm.trans hv;show(a0.Notes++v.2.2).length≤_
  rw[List.length_append];omega
 ·obtain⟨q,hq,_,hfo⟩:=@zey a3 hb;cases hq.symm.trans hf;obtain⟨q,hq,_,_,_,p,_⟩:=@zhK c a0.Now f.1 (zK ha (MG hc)) (hfo (nf h5)) O.now;cases hq.symm.trans hv;show(a0.Notes++v.2.2).length≤_
  rw[List.length_append];omega
def zt2{a0:Aa}(ha:NA a0=true)(hN:a0.Now≠1000000)(h:SV a0.S.T):Pc (Ds a0) λr=>SN a0 r.1:=by
 unfold Ds;simp only[kA,pE,aA];refine .p λ_=> .p λ_=>?_;rw[ha,beq_false_of_ne hN];have O:=UB.1 ha;have eY:=O.cl;simp only[Bool.not_true,cond_false];refine .l (λx:(List Al)×Int×Aa=>x.2.2.S=a0.S∧x.2.2.Clients.length=2∧∃i:Nat,x.2.1=(i:Int)∧i≤2∧x.2.2.Notes.length≤a0.Notes.length+i) ⟨rfl,eY,0,rfl,by omega,Nat.le_refl _⟩ (λx q ⟨g1,g2,i,g3,g4,g5⟩ hk=> .c (λFV=> .g λ_=> .b λc hc=> .b λv hv=> .g λ_=> .b λ_ _=> .g λ_=> .b λ_ _=> .g λ_=>hk _ ?_) λsX=> .b λu hu=> .g λ_=> .s ?_) _
 ·have FV:=of_decide_eq_true FV;have:=ztC v hv;refine⟨g1,by show(x.2.2.Clients.set _ v.1).length=2;rw[List.length_set];exact g2,i+1,by show fA .i64 x.2.1 1=_;rw[g3,DA (by omega) (by omega)];omega,by omega,?_⟩;show(x.2.2.Notes++v.2.2).length≤_
  rw[List.length_append];omega
 ·rw[g1]at hu;obtain⟨q,hq,_,_,_,p⟩:=@zhI a0.S x.2.2.Now O.srv;cases hq.symm.trans hu;refine⟨zp1 h u hu,?_⟩;show(x.2.2.Notes++u.2).length≤_
  rw[List.length_append];omega
def MF{a w:Aa}{l:List Al}{b:Bool}(h:SN a w):Pc (Option.bind (Bg w l) λr=>some (r,b)) λr=>SN a r.1:=
 .b λv hv=> .s (by obtain⟨m,rfl⟩:=zkT v hv;exact h)
def zxf{a0:Aa}{a1:Am}(ha:NA a0=true)(hn:wt a0≤400000000)(hw:wt a1≤300000)(he:xG a1=true)(hl:decide ((a0.Notes.length:Int)>500)=false)(h0:SV a0.S.T):Pc (Iv a0 a1) λr=>SN a0 r.1:=by
 have hp:∀{α:Type} (v:α),pt (wt a0≤bA) v=some v:=λ_=>nA (by have:=yB;omega);have hf:=sO he;have W:=UB.1 ha;have F:=tL ha;simp only[pP]at F
 have hX:∀x∈a0.Seen,wt x.B≤900000000:=λx hx=>by
  have h1:=W.seen;simp only[DD,Bool.and_eq_true,Bool.not_eq_true',List.any_eq_false]at h1;have:=h1.1 x hx;simp only[tD,Bool.and_eq_true,decide_eq_true_eq]at this;simp only[N];grind
 have hz:SN a0 a0:=⟨h0,Nat.le_add_right _ _⟩;have WY:∀{i:Nat} {c:Ae},a0.Clients[i]?=some c→fB c=true:=λhc=>zK ha (List.mem_of_getElem? hc);have hk:a1.Kind=1∨a1.Kind=2∨a1.Kind=3∨a1.Kind=4∨a1.Kind=5∨a1.Kind=6∨a1.Kind=7∨a1.Kind=8∨a1.Kind=9∨a1.Kind=10∨a1.Kind=11∨a1.Kind=12∨a1.Kind=13∨a1.Kind=14∨a1.Kind=15∨a1.Kind=16∨a1.Kind=17:=by omega
 unfold Iv Jm Jr Js Jq;simp only[kA,pE,yA,VD,OD,pJ]
 rcases hk with h|h|h|h|h|h|h|h|h|h|h|h|h|h|h|h|h
 all_goals simp only[h,hp,ha,he,hl,aA,Bool.not_true,Bool.not_false,cond_true,cond_false,Int.reduceBEq,beq_self_eq_true,ba,bs,bc,bn]
 ·refine .g λ_=> .b λc hc=> .p λ_=> .p λ_=> .g λ_=> .b λv hv=> .g λ_=> .b λ_ _=> .g λ_=> .b λ_ _=> .c (λ_=> .s hz) λ_=>MF ⟨h0,?_⟩;obtain⟨q,hq,_,_,_,p,_⟩:=@ze5 c a0.Now (uC a0.D).2 (WY hc) (by have:=(SH a0.D).2.1;omega);cases hq.symm.trans hv;simp only[List.length_append,List.length_cons,List.length_nil];omega
 ·refine .g λ_=> .b λc hc=> .b λv hv=> .g λ_=> .b λ_ _=> .g λ_=> .b λ_ _=> .c (λ_=> .s hz) λ_=>MF ⟨h0,?_⟩;obtain⟨q,hq,_,_,_,p,_⟩:=@zaE c a0.Now a1.B (WY hc) (by omega);cases hq.symm.trans hv;simp only[List.length_append];omega
 ·refine .b λv hv=> .g λ_=> .b λ_ _=> .c (λ_=> .s hz) λ_=>MF ⟨zp7 h0 v hv,?_⟩;obtain⟨q,hq,_,_,_,_,_,p⟩:=@zek a0.S a0.Now a1.I a1.B W.srv (by simp only[N];omega);cases hq.symm.trans hv;simp only[List.length_append];omega
 ·exact .b λv hv=> .c (λ_=> .s hz) λh1=>MF (zt2 ha (by simp only[Bool.not_eq_false']at h1;have:=of_decide_eq_true h1;omega) h0 v hv)
 ·exact .g λ_=> .b λc hc=> .b λv hv=> .g λ_=> .b λ_ _=> .g λ_=> .b λ_ _=>MF ⟨h0,by simp⟩
 ·refine .g λ_=> .b λc hc=> .b λv hv=> .g λ_=> .b λ_ _=> .g λ_=> .b λ_ _=> .c (λ_=> .s hz) λ_=>MF ⟨h0,?_⟩;obtain⟨q,hq,_,_,_,p,_⟩:=@zej c a0.Now (WY hc);cases hq.symm.trans hv;simp only[List.length_append];omega
 ·exact .c (λ_=> .s hz) λ_=> .c (λ_=> .n) λ_=> .b λx hx=> .p λ_=> .c (λ_=> .s hz) λ_=> .b λv hv=>MF (yV ha (hX x (MG hx)) h0 v hv)
 ·exact .c (λ_=> .s hz) λ_=> .c (λ_=> .n) λ_=> .b λx hx=> .p λ_=> .c (λ_=> .s hz) λ_=> .b λv hv=>MF (yV ha (hX x (MG hx)) h0 v hv)
 ·exact .c (λ_=> .s hz) λ_=> .c (λ_=> .n) λ_=> .b λx hx=> .p λ_=> .c (λ_=> .s hz) λ_=> .b λv hv=>MF (yV ha (hX x (MG hx)) h0 v hv)
 ·refine .c (λ_=> .s hz) λ_=> .c (λ_=> .n) λ_=> .b λx hx=> .p λ_=> .c (λ_=> .s hz) λ_=> .c (λ_=> .n) λ_=> .g λ_=> .b λ_ _=> .g λ_=> .b λ_ _=> .c (λ_=> .s hz) λ_=> .b λv hv=>MF (yV ha ?_ h0 v hv);have:=hX x (MG hx);simp only[N,List.length_set]at this⊢;exact this
 ·refine .b λu hu=> .b λv hv=> .c (λ_=> .s hz) λ_=>MF (yV ha ?_ h0 v hv);obtain⟨q,hq,p⟩:=@zeW a1.Ops a0.Seen a0.Known (by simp only[N]at hw⊢;omega) (by omega) (by omega);cases hq.symm.trans hu;simp only[N];omega
 ·refine .b λv hv=> .g λ_=> .b λ_ _=> .c (λ_=> .s hz) λ_=>MF ⟨zvD h0 v hv,?_⟩;obtain⟨q,hq,_,_,_,p⟩:=@ziP a0.S W.srv;cases hq.symm.trans hv;simp only[List.length_append];omega
 ·refine .g λ_=> .b λc hc=> .c (λ_=> .b λv hv=> .g λ_=> .b λ_ _=> .g λ_=> .b λ_ _=> .s hz) λ_=> .b λv hv=> .g λ_=> .b λ_ _=> .g λ_=> .b λ_ _=>MF ⟨h0,?_⟩;obtain⟨q,hq,_,_,_,p⟩:=@ze1 c (WY hc);cases hq.symm.trans hv;simp only[List.length_append];omega
 ·refine .b λv hv=> .g λ_=> .b λ_ _=> .c (λ_=> .s hz) λ_=>MF ⟨zpd h0 v hv,?_⟩;obtain⟨q,hq,_,_,_,p⟩:=@zhH a0.S a1.I W.srv;cases hq.symm.trans hv;simp only[List.length_append];omega
 ·exact .g λ_=> .b λ_ _=> .c (λ_=> .s hz) λ_=> .b λ_ _=> .g λ_=> .p λ_=> .g λ_=> .c (λ_=> .s hz) λ_=>MF ⟨h0,by simp⟩
 ·exact .c (λ_=> .s hz) λ_=> .g λ_=> .b λ_ _=> .c (λ_=> .s hz) λ_=> .g λ_=> .b λ_ _=> .b λ_ _=> .g λ_=> .p λ_=> .g λ_=> .c (λ_=> .s hz) λ_=>MF ⟨h0,by simp⟩
 ·exact .c (λ_=> .b λ_ _=>MF ⟨h0,by simp⟩) λ_=> .b λ_ _=>MF ⟨h0,by simp⟩
end Go.D
namespace Go.D
structure WV(n:Nat)(w:Aa):Prop where
 ok:NA w=true
 sv:SV w.S.T
 nl:w.Notes.length≤2+16 *n
def WV.sz{n:Nat}{w:Aa}(h:WV n w):wt w≤23000+2600 *n:=by
 have:=XO h.ok;have:=eE (UB.1 h.ok).notes;have:=h.nl;omega
def zwz{s a b:List UInt8}{m:Int}(hs:s.length=8)(ha:a.length=6)(hb:b.length=9)(hm:1≤m∧m≤3):WV 0 (kV s a b m):=by
 have hd:YB ⟨s,0⟩=true:=by
  simp only[YB,Bool.and_eq_true,YA];omega
 have hr:=SH ⟨s,0⟩;have ht:=zlu (n:=m) (by omega)
 have hS:wB (fD [a,b] s m)=true:=nE.2 ⟨by show 1≤2∧2≤9;omega,zlj (hr.2.2.2 hd (by show(0:Int)≠10000;omega)),hr.2.2.1 hd,ht,rfl,λx hx=>by
  rcases List.mem_cons.1 hx with h|h
  ·rw[h,JC,YA];omega
  ·rw[List.mem_singleton.1 h,JC,YA];omega,λe he=>by
   have he:e∈(OE m).L:=he;rw[ziK (by omega)]at he;cases he⟩
 have e:kV s a b m=wV s a b m:=by rw[kV,hS];rfl
 rw[e];exact⟨(zrT hS).1,zjZ,Nat.le_refl _⟩
def zpT{a0:As}(ha:zB a0):Ok (Iw a0) λr=>zB r.2∧WV 0 r.1:=by
 have hL:=yB;unfold Iw;refine .b (VK ha (by omega)) λr1 LV=> .b (VK LV.2 (by omega)) λr2 jW=> .b (VK jW.2 (by omega)) λr3 sW=> .b (KD sW.2) λr4 NV=> .m (nA (by simp only[FA];omega)) (.s ⟨NV.2.2.2,?_⟩);have:=NV.2.1 (by omega);exact zwz LV.1 jW.1 sW.1 (by rw[DA (by omega) (by omega)];omega)
def zo7{a0:As}(ha:zB a0):Ok (Jd a0 26) λr=>zB r.2∧WV 31 r.1:=by
 have hL:=yB;unfold Jd;refine .b (zpT ha) λr1 ⟨g1,g2⟩=> .b (KD g1) λr2 jW=>?_;have hr:=jW.2.1 (by omega);have e6:fA .i64 6 r2.1=6+r2.1:=DA (by omega) (by omega);refine .j (λy3=>zB y3.1∧WV 31 y3.2.2) (λy3 Y4=> .s Y4) λk4 bW=> .l (λx5:Int×As×Int×Aa=>zB x5.2.1∧∃n:Nat,0≤x5.1∧x5.1+n≤31∧WV n x5.2.2.2) (λx5=>x5.1.toNat) (λx5 ⟨PZ,n,nZ,aY,tZ⟩ k6 pW=> .c (λh1=>?_) λh1=>bW _ ⟨PZ,tZ.ok,tZ.sv,by show x5.2.2.2.Notes.length≤_;have:=tZ.nl;omega⟩) ⟨jW.2.2.2,0,by simp only[e6];omega,by simp only[e6];omega,g2⟩ (by simp only[e6];omega);have h1:=of_decide_eq_true h1;have hz:=tZ.sz;have UV:=tZ.nl;have F:=tL tZ.ok;have es:oA .i64 x5.1 1=x5.1 - 1:=RA (by omega) (by omega);refine .b (jQ PZ) λr7 IW=> .b (zpz IW (by omega) (by rw[(UB.1 tZ.ok).cl];omega)) λr8 RW=> .cp (by omega) (.j (λy10=>y10.1=true→WV (n+1) y10.2) (λy10 VX=> .j (λy13=>WV (n+1) y13.1) (λy13 CY=>pW _ ⟨RW.2,n+1,by simp only[es];omega,by simp only[es];omega,CY⟩ (by simp only[es];omega)) λk14 GV=> .c (λh2=>GV _ (VX h2)) λh2=>GV _ ⟨tZ.ok,tZ.sv,by show x5.2.2.2.Notes.length≤_;omega⟩) λk11 cW=> .c (λh4=>?_) λh4=>cW _ nofun);have hf:=sO h4;refine .b (zqQ (by omega) (by have:=F.1;have:=F.2.1;omega) F.2.2.2.2.2.1 (by omega) (by omega)).we λq ⟨_,hq⟩=>cW _ λh5=>?_;have hl:decide ((x5.2.2.2.Notes.length:Int)>500)=false:=decide_eq_false (by omega);obtain⟨v,hv,D⟩:=zpf (a0:=x5.2.2.2) (a1:=r8.1) (by omega) (by omega);have e:=zxw tZ.ok (by omega) (by omega) h4 hl v (cond q.1 q.2 x5.2.2.2,q.1) hv (by rw[hq];rfl);have h5:q.1=true:=h5;rw[h5]at e;have e1:v.1=q.2:=by rw[e];rfl
 have e2:v.2=true:=by rw[e]
 have hs:SN x5.2.2.2 v.1:=zxf tZ.ok (by omega) (by omega) h4 hl tZ.sv v hv;have Y1:=hs.2;rw[e1]at hs Y1;exact⟨by rw[←e1];exact(D.yes e2).2.2.2.1,hs.1,by show q.2.Notes.length≤_;omega⟩
def zoU{a0:List UInt8}(ha:a0.length≤1048576):Ok (Je a0) λr=>WV 31 r.1∧(1≤r.2.1∧r.2.1≤2)∧0≤r.2.2∧r.2.2≤29:=by
 unfold Je;refine .b (zqq ha) λr1 LV=> .b (zo7 LV) λr2 jW=> .b (KD jW.1) λr3 sW=> .b (KD sW.2.2.2) λr4 NV=> .s ⟨jW.2,?_⟩;have:=sW.2.1 (by omega);have:=NV.2.1 (by omega);rw[show fA .i64 1 r3.1=1+r3.1 from DA (by omega) (by omega)];show(1≤1+r3.1∧1+r3.1≤2)∧0≤r4.1∧r4.1≤29
 omega
end Go.D
namespace Go.D
def zjV{w:Aa}:PH w SB=0:=by
 unfold PH;rw[show IA SB SB=true from qL.2 rfl];rfl
def zvL{α:Type}:∀{l:List α},l.length=2→∃x y,l=[x,y]
 | [x,y],_=>⟨x,y,rfl⟩
def zuK{w:Aa}{a:Af}{k:Nat}{c:Ae}(hw:NA w=true)(hk:k≤1)(hc:w.Clients[k]?=some c)(GZ:c.At=a)(hh:IA a SB=false)(ho:∀j d,w.Clients[j]?=some d→j≠k→IA d.At a=false):PH w a=(k:Int)+1:=by
 have W:=UB.1 hw;have VW:=(W.ci k c hc).2.1;have hl:=W.cl;unfold PH;rw[hh,cond_false];obtain⟨x,y,e⟩:=zvL hl;have hs:IA c.At a=true:=qL.2 GZ;rw[e]at hc ho⊢;have k01:k=0∨k=1:=by omega
 rcases k01 with rfl|rfl
 ·have hc:x=c:=Option.some.inj hc;subst hc;rw[List.find?_cons_of_pos (p:=λc:Ae=>IA c.At a) hs];exact VW
 ·have hc:y=c:=Option.some.inj hc;subst hc;have h0:=ho 0 x rfl (by omega);rw[List.find?_cons_of_neg (by rw[h0];exact Bool.false_ne_true),List.find?_cons_of_pos (p:=λc:Ae=>IA c.At a) hs];exact VW
def zgs{f:Ab}{b:List UInt8}(hf:TA f=true)(hs:nB f.Kind=true)(hb:Ax f=some b):b.length≤200:=by
 have hl:=zbZ hf hs hb;have h2:=LC hf;rw[hl];simp only[List.length_append,jI];omega
def zjK{t:Ao}{i:Nat}{e d:Ah}{sn:List UInt8}(he:t.L[i]?=some e)(hd:d.Sn=e.Sn):XB ⟨t.Cap,t.L.set i d⟩ sn=XB t sn:=by
 obtain⟨hi,F4⟩:=List.getElem?_eq_some_iff.1 he;unfold XB;simp only[List.length_set];refine zi7 λj hj=>?_;unfold eF
 by_cases h:i=j
 ·subst h;simp only[List.getElem?_set_self hi,he,Option.any_some,hd]
 ·simp only[List.getElem?_set_ne h]
def ztd{w:Aa}{p:Int}{a:Af}{b:List UInt8}(hw:NA w=true)(hz:wt w≤450000000)(hb:b.length≤200):Pc (Be w p a b) λr=>NA r.1=true∧wt r.1≤wt w+100000∧wt r.2≤1000:=λr hr=>by
 obtain⟨q,hq,p1,_,p3,p4,_⟩:=@zi6 w p a b (by omega) (by simp only[N];omega);cases hq.symm.trans hr;exact⟨p1 hw,p3,p4⟩
def zuy{w:Aa}{l:List Al}(hw:NA w=true)(hz:wt w≤460000000)(hl:wt l≤1000):Pc (Bg w l) λr=>NA r=true∧wt r≤wt w+22600∧∃m,r=⟨w.Now,w.Clients,w.S,w.D,m,w.Known,w.Notes⟩:=λr hr=>by
 obtain⟨q,hq,q1,q2⟩:=zmn (n:=wt w) hw (Nat.le_refl _) (by omega) hl;cases hq.symm.trans hr;exact⟨q1,q2,zkT r hr⟩
structure zmH(w v:Aa)(n:Nat):Prop where
 ok:NA v=true
 sz:wt v≤wt w+n
 now:v.Now=w.Now
structure gN(w:Aa)(k i:Nat)(c:Ae)(e:Ah)(a:Af)(plain:List UInt8)(y:Aa):Prop where
 now:y.Now=w.Now
 ok:NA y=true
 fin:∃c' e' m,y.Clients[k]?=some c'∧c'.St=3∧c'.Cn=c.Cn∧c'.C.Sn=e.Sn∧y.S.T.L[i]?=some e'∧e'.Dead=false∧e'.Cn=e.Cn∧e'.Sn=e.Sn∧e'.P.At=a∧AI c'.C e'.C=true∧XB y.S.T e.Sn=(i:Int)∧y.Notes=w.Notes++m∧
  (∃x∈m,x.Kind=6∧x.Sn=e.Sn∧x.Body=plain)∧∃x∈m,x.Kind=9∧x.A=a∧x.Sn=e.Sn
def St1(w:Aa)(k i:Nat)(c:Ae)(e:Ah)(a:Af)(plain:List UInt8)(W:Al)(v:Aa):Prop:=∃KB d h l g p m,KB.length=12∧W=⟨SB,a,p⟩∧Ax g=some p∧zdR e.Sn w.Now c.C h∧rB h=true∧(∀x∈l,IA x.A a=false)∧dF h.Cur.Key h.Role h.Sn h.Cur.N h.Cur.Seq 5 KB g∧ d=(⟨e.Id,e.Cn,e.Sn,⟨h.Role,h.Sn,⟨h.Cur.N,h.Cur.Key,h.Cur.Seq+1,h.Cur.Win⟩,h.Old,h.HasOld,h.Until,h.Next⟩,⟨e.P.At,l++[⟨a,KB,w.Now+6⟩]⟩,e.Tick,w.Now,e.Dead⟩:Ah)∧ v.S.T=⟨w.S.T.Cap,w.S.T.L.set i d⟩∧v.Clients=w.Clients∧v.Notes=w.Notes++m∧∃x∈m,x.Kind=6∧x.Sn=e.Sn∧x.Body=plain
def zxv{w:Aa}(k:Nat){i:Nat}{c:Ae}{e:Ah}{a:Af}{f:Ab}{plain b:List UInt8}(hw:NA w=true)(ha:EA a=true)(hN:w.S.D.N<10000)(hi:XB w.S.T e.Sn=(i:Int))(he:w.S.T.L[i]?=some e)(hd:e.Dead=false)
  (hf:TA f=true) (WW:f.Kind=4) (uZ:f.Sn=e.Sn) (ho:Pc (Ba e.C w.Now f) λr=>∃h,zdR e.Sn w.Now c.C h∧h.Cur.Seq<281474976709656∧r=(h,plain,0)) (h1:IA e.P.At a=false) (h2:∀c∈e.P.Cands,IA c.A a=false) (h3:e.P.Cands.length<3)
  (hc:LG w.S.Cr a=true) (hb:Ax f=some b):Pc (Be w 0 a b) λr=>∃W,r.2=[W]∧St1 w k i c e a plain W r.1∧r.1.Now=w.Now:=by
 have O:=UB.1 hw;refine(zkZ hw ha).mono λr ⟨v,l,v1,v2,v3⟩=>?_;obtain⟨KB,q,q1,q2,q3,q4,q5⟩:=zsG O.srv hN (by rw[uZ];exact hi) he hd O.now ha hf WW ho h1 h2 h3 hc hb v v1;obtain⟨h,cl,g,g1,g2,g3,g4,g5,g6⟩:=q2.all;obtain⟨x,x1,x2⟩:=q2.got;rw[q3,g5]at v2;obtain⟨p,p1,rfl⟩:=zrw l v2;subst v3;exact⟨_,rfl,⟨KB,q.1,h,cl,g,p,v.2.2,q1,rfl,p1,g1,g2,g3,g4,g6,q5,rfl,rfl,x,q4 x x1,x2⟩,rfl⟩
def St2(w:Aa)(k i:Nat)(c:Ae)(e:Ah)(a:Af)(plain:List UInt8)(W:Al)(v:Aa):Prop:=∃KB d c' h r l g p m,W=⟨a,SB,p⟩∧Ax g=some p∧Met e.Sn h r∧(∀x∈l,IA x.A a=false)∧dF r.Cur.Key r.Role r.Sn r.Cur.N r.Cur.Seq 6 KB g∧r.Cur.Seq<281474976709656∧rB h=true∧h.Role=1∧h.Sn=e.Sn∧ d=(⟨e.Id,e.Cn,e.Sn,⟨h.Role,h.Sn,⟨h.Cur.N,h.Cur.Key,h.Cur.Seq+1,h.Cur.Win⟩,h.Old,h.HasOld,h.Until,h.Next⟩,⟨e.P.At,l++[⟨a,KB,w.Now+6⟩]⟩,e.Tick,w.Now,e.Dead⟩:Ah)∧ v.S.T=⟨w.S.T.Cap,w.S.T.L.set i d⟩∧v.Clients=w.Clients.set k c'∧c'.C=⟨r.Role,r.Sn,⟨r.Cur.N,r.Cur.Key,r.Cur.Seq+1,r.Cur.Win⟩,r.Old,r.HasOld,r.Until,r.Next⟩∧c'.St=3∧c'.Cn=c.Cn∧ v.Notes=w.Notes++m∧∃x∈m,x.Kind=6∧x.Sn=e.Sn∧x.Body=plain
def zxm{w v:Aa}{k i:Nat}{c:Ae}{e:Ah}{a:Af}{plain:List UInt8}{W:Al}(hv:NA v=true)(hn:v.Now=w.Now)(hk:k≤1)(hc:w.Clients[k]?=some c)(mY:c.St=3)(GZ:c.At=a)(h:St1 w k i c e a plain W v):
  W=⟨SB,a,W.B⟩∧W.B.length≤200∧Pc (Be v (k+1) SB W.B) λr=>∃W',r.2=[W']∧St2 w k i c e a plain W' r.1∧r.1.Now=w.Now:=by
 obtain⟨KB,d,h,l,g,p,m,q1,rfl,q3,q4,q5,q6,q7,q8,q9,q10,q11,x,x1,x2⟩:=h;have V:=UB.1 hv;have gk:g.Kind=5:=by rw[q7.shape]
 have hs:nB g.Kind=true:=by rw[gk];decide
 refine⟨rfl,zgs q7.ok hs q3,?_⟩;rw[←q10]at hc;refine(zvs hv (by decide) hk hc (zgD q7.ok hs q3)).mono λr ⟨o,t,o1,o2,o3⟩=>?_;obtain⟨n1,n2,n3⟩:=q4;have L8:=n3 KB g q7;rw[hn]at o1;obtain⟨r2,g2,a1,a2,a3,a4,a5,a6,a7⟩:=ztI (Q:=λr=>Met e.Sn h r∧r.Cur.Seq<281474976709656) (V.ci k c hc).1 mY (by rw[←hn];exact V.now) q7.ok gk q1 (L8.mono λr ⟨k',k1,k2,k3⟩=>⟨k',⟨k1,k2⟩,k2,k3⟩) o o1;rw[a3]at o2;obtain⟨p2,p3,rfl⟩:=zp6 t o2;subst o3;refine⟨_,rfl,⟨KB,d,o.1,h,r2,l,g2,p2,m++o.2.2,by rw[a5,GZ],p3,a1.1,q6,a2,a1.2,q5,n1,n2,q8,q9,by rw[q10],a4,a6,a7,?_,x,List.mem_append_left _ x1,x2⟩,hn⟩;rw[q11,List.append_assoc]
def zxr{w v:Aa}{k i:Nat}{c:Ae}{e:Ah}{a:Af}{plain:List UInt8}{W:Al}(hv:NA v=true)(hn:v.Now=w.Now)(ha:EA a=true)(hk:k<w.Clients.length)(hi:XB w.S.T e.Sn=(i:Int))(he:w.S.T.L[i]?=some e)(hd:e.Dead=false)(h:St2 w k i c e a plain W v):
  W=⟨a,SB,W.B⟩∧W.B.length≤200∧Pc (Be v 0 a W.B) λr=>r.2=[]∧(NA r.1=true→gN w k i c e a plain r.1):=by
 obtain⟨KB,d,c',h,r,l,g,p,m,rfl,q2,q3,q4,q5,q6,q7,q8,q9,q10,q11,q12,q13,q14,q15,q16,x,x1,x2⟩:=h;have V:=UB.1 hv;have gk:g.Kind=6:=by rw[q5.shape]
 have gs:g.Sn=e.Sn:=by rw[q5.shape];exact q3.2.1
 have hs:nB g.Kind=true:=by rw[gk];decide
 obtain⟨PY,_⟩:=List.getElem?_eq_some_iff.1 he;refine⟨rfl,zgs q5.ok hs q2,?_⟩;have hl:v.S.T.L[i]?=some d:=by rw[q11];exact List.getElem?_set_self PY
 have hdn:d.Sn=e.Sn:=by rw[q10]
 have hf:XB v.S.T g.Sn=(i:Int):=by rw[q11,gs,zjK he hdn];exact hi
 have hdd:d.Dead=false:=by rw[q10];exact hd
 have hI:jA v.S.T.L (i:Int)=some d:=by unfold jA;rw[if_pos (by omega),Int.toNat_natCast];exact hl
 have hso:=(RO V.srv hI).2;have O5:rB d.C=true:=(zbS hso hdd).1;obtain⟨m1,m2,m3,m4,m5,m6⟩:=q3
 have OV:Pc (Ba d.C v.Now g) λz=>∃u:Aj,(u.Cur.N=h.Cur.N∧u.Cur.Key=h.Cur.Key∧u.Cur.Seq=h.Cur.Seq+1∧u.Cur.Win.Top=r.Cur.Seq)∧z=(u,KB,0):=by
  refine(zeU (c:=d.C) (now:=v.Now) (seq:=r.Cur.Seq) (kind:=6) (plain:=KB) (f:=g) O5 V.now ?_ ?_ ?_).mono λz ⟨w1,u,w2,w3⟩=>⟨_,⟨?_,?_,?_,w2⟩,w3⟩
  ·rw[q10];show dF h.Cur.Key (1 - h.Role) h.Sn h.Cur.N r.Cur.Seq 6 KB g
   rw[q8,q9, ←m3, ←m4];rw[m1,m2]at q5;exact q5
  ·have uW:TA g=true:=q5.ok;have OX:g.Seq=r.Cur.Seq:=by rw[q5.shape]
   unfold TA at uW;rw[hs,cond_true,OX]at uW;simp only[Bool.and_eq_true]at uW;exact uW.1.1.2
  ·rw[q10];exact m6
  ·rw[q10]
  ·rw[q10]
  ·rw[q10]
 refine(zkZ hv ha).mono λz ⟨o,t,o1,o2,o3⟩=>?_;obtain⟨b1,⟨u,P,b2,b3,b4⟩,y,y1,y2⟩:=zrI (s:=v.S) (e:=d) (t:=e.P.At) (l:=l) (u:=w.Now+6) (d:=KB) V.srv hf hl hdd V.now ha q5.ok gk (by rw[q10]) q4 (by rw[hn];omega) OV q2 o o1;rw[b1]at o2;obtain rfl:=zrj t o2;subst o3;refine⟨rfl,λuW=>⟨hn,uW,c',⟨d.Id,d.Cn,d.Sn,u,P,d.Tick,v.Now,d.Dead⟩,m++o.2.2,?_,q14,q15,?_,?_,hdd,?_,hdn,b3,?_,?_,?_,⟨x,List.mem_append_left _ x1,x2⟩,y,List.mem_append_right _ y1,y2.1,y2.2.1,y2.2.2.trans hdn⟩⟩
 ·show v.Clients[k]?=some c'
  rw[q12];exact List.getElem?_set_self hk
 ·rw[q13];exact m2
 ·show o.1.T.L[i]?=_
  rw[b4,q11,List.set_set];exact List.getElem?_set_self PY
 ·show d.Cn=e.Cn
  rw[q10]
 ·unfold AI;rw[q13];show(bif r.Cur.N==u.Cur.N&&r.Cur.Key==u.Cur.Key then decide (r.Cur.Win.Top<u.Cur.Seq)&&decide (u.Cur.Win.Top<r.Cur.Seq+1)else _)=true
  rw[b2.1,b2.2.1,m3,m4,beq_self_eq_true,beq_self_eq_true,b2.2.2.1,b2.2.2.2,m5,decide_eq_true (by omega),decide_eq_true (by omega)];rfl
 ·show XB o.1.T e.Sn=_
  rw[b4];refine(zjK (d:=⟨d.Id,d.Cn,d.Sn,u,P,d.Tick,v.Now,d.Dead⟩) hl rfl).trans ?_;rw[←gs];exact hf
 ·show v.Notes++o.2.2=_
  rw[q16,List.append_assoc]
end Go.D
namespace Go.D
def seen(w:Aa)(m:List Al):Aa:=⟨w.Now,w.Clients,w.S,w.D,m,w.Known,w.Notes⟩
def zsw{w:Aa}{k i:Nat}{c:Ae}{e:Ah}{a:Af}{f:Ab}{plain b:List UInt8}(hw:NA w=true)(hz:wt w≤430000000)(hk:k≤1)(hc:w.Clients[k]?=some c)(mY:c.St=3)(GZ:c.At=a)(ha:EA a=true)(hh:IA a SB=false)
  (hot:∀j d,w.Clients[j]?=some d→j≠k→IA d.At a=false) (hN:w.S.D.N<10000) (hi:XB w.S.T e.Sn=(i:Int)) (he:w.S.T.L[i]?=some e) (hd:e.Dead=false)
  (hf:TA f=true) (WW:f.Kind=4) (uZ:f.Sn=e.Sn) (ho:Pc (Ba e.C w.Now f) λr=>∃h,zdR e.Sn w.Now c.C h∧h.Cur.Seq<281474976709656∧r=(h,plain,0)) (h1:IA e.P.At a=false) (h2:∀c∈e.P.Cands,IA c.A a=false) (h3:e.P.Cands.length<3)
  (R5:LG w.S.Cr a=true) (hb:Ax f=some b):Pc (Gt w [⟨a,SB,b⟩]) (gN w k i c e a plain):=by
 have O:=UB.1 hw;have rY:nB f.Kind=true:=by rw[WW];decide
 have z0:=zgs hf rY hb
 have M8:tD ⟨a,SB,b⟩=true:=by
  unfold tD;rw[ha,show EA SB=true by decide,decide_eq_true (show(b.length:Int)≤200 by omega)];rfl
 have L1:k<w.Clients.length:=(List.getElem?_eq_some_iff.1 hc).1;unfold Gt;refine .p λ_=> .p λ_=>?_;rw[hw,Bool.not_true,cond_false];refine .e (⟨0,[],(⟨[],(⟨[]⟩:Ay),(⟨[],0⟩:Ar),(⟨0,[]⟩:Ao),[]⟩:Ac),(⟨[],0⟩:Ar),[],[],[]⟩:Aa) ?_ λk4 bW=>?_
 ·refine .p λ_=>?_;refine .q (λy=>gN w k i c e a plain y.2) (λy hy=> .s hy) λk10 IV=>?_
  refine Pc.l (λx=>(x.2.1=0∧x.1=[⟨a,SB,b⟩]∧x.2.2=w)∨(x.2.1=1∧∃W,x.1=[⟨a,SB,b⟩,W]∧zmH w x.2.2 200000∧St1 w k i c e a plain W x.2.2)∨
   (x.2.1=2∧∃W V,x.1=[⟨a,SB,b⟩,W,V]∧zmH w x.2.2 400000∧St2 w k i c e a plain V x.2.2)∨(x.2.1=3∧x.1.length=3∧gN w k i c e a plain x.2.2)) (.inl ⟨rfl,rfl,rfl⟩) (λx k12 hx kW=>?_) _
  obtain⟨q,j,v⟩:=x
  have key:(∃(n:Nat) (W:Al) (p:Int),j=(n:Int)∧n<60∧q[n]?=some W∧NA v=true∧wt v≤440000000∧PH v W.To=p∧0≤p∧W.B.length≤200∧
    ∀r,Be v p W.From W.B=some r→NA r.1=true→∀m,NA (seen r.1 m)=true→wt (seen r.1 m)≤wt v+122600→Pc (k12 (q++r.2,((n+1:Nat):Int),seen r.1 m)) (gN w k i c e a plain))∨(¬j<(q.length:Int)∧gN w k i c e a plain v):=by
   rcases hx with⟨x1,x2,x3⟩|⟨x1,W,x2,x3,x4⟩|⟨x1,W,V,x2,x3,x4⟩|⟨x1,x2,x3⟩
   ·simp only at x1 x2 x3;subst x1 x2 x3;refine .inl ⟨0,⟨a,SB,b⟩,0,rfl,by omega,rfl,hw,by omega,zjV,by omega,z0,λr hr _ m hm hs=>kW _ (.inr (.inl ⟨rfl,?_⟩))⟩;obtain⟨W,w1,w2,w3⟩:=zxv k hw ha hN hi he hd hf WW uZ ho h1 h2 h3 R5 hb r hr;exact⟨W,by rw[w1];rfl,⟨hm,by show wt (seen r.1 m)≤_;omega,w3⟩,w2⟩
   ·simp only at x1 x2 x3 x4;subst x1 x2;obtain⟨s1,s2,s3⟩:=zxm x3.ok x3.now hk hc mY GZ x4;have eY:v.Clients=w.Clients:=by obtain⟨_,_,_,_,_,_,_,_,_,_,_,_,_,_,_,_,h,_⟩:=x4;exact h
    refine .inl ⟨1,W,(k:Int)+1,rfl,by omega,rfl,x3.ok,by have:=x3.sz;omega,?_,by omega,s2,λr hr _ m hm hs=>kW _ (.inr (.inr (.inl ⟨rfl,?_⟩)))⟩
    ·rw[s1];exact zuK (w:=v) x3.ok hk (by rw[eY];exact hc) GZ hh (by rw[eY];exact hot)
    ·rw[s1]at hr;obtain⟨W',w1,w2,w3⟩:=s3 r hr;exact⟨W,W',by rw[w1];rfl,⟨hm,by have:=x3.sz;show wt (seen r.1 m)≤_;omega,w3⟩,w2⟩
   ·simp only at x1 x2 x3 x4;subst x1 x2;obtain⟨s1,s2,s3⟩:=zxr x3.ok x3.now ha L1 hi he hd x4;refine .inl ⟨2,V,0,rfl,by omega,rfl,x3.ok,by have:=x3.sz;omega,by rw[s1];exact zjV,by omega,s2,λr hr uW m hm hs=>kW _ (.inr (.inr (.inr ⟨rfl,?_,?_⟩)))⟩
    ·rw[s1]at hr;rw[(s3 r hr).1];rfl
    ·rw[s1]at hr;obtain⟨g1,g2,g3⟩:=(s3 r hr).2 uW;exact⟨g1,hm,g3⟩
   ·exact .inr ⟨by simp only at x1 x2;omega,x3⟩
  rcases key with⟨n,W,p,rfl,y1,y2,y3,y4,y5,y6,y7,y8⟩|⟨y1,y2⟩
  ·have hq:q[((n:Nat):Int).toNat]?=some W:=by rw[Int.toNat_natCast];exact y2
   have UV:n<q.length:=(List.getElem?_eq_some_iff.1 y2).1;refine .q (λy=>y=true) (λy hy=>?_) λk14 GV=> .c (λ_=>GV _ (decide_eq_true (show(n:Int)<(q.length:Int)by omega))) λh=>absurd (of_decide_eq_false h) (by simp only;omega)
   ·subst hy;rw[cond_true];refine .q (λy:List Al×Aa=>Pc (k12 (y.1,((n+1:Nat):Int),y.2)) (gN w k i c e a plain)) (λy hy=>?_) λk16 qW=> .g λ_=>?_
    ·rw[DA (a:=(n:Int)) (b:=1) (by omega) (by omega)];exact hy
    ·rw[hq,XA];refine .p λ_=>?_;rw[y5,decide_eq_false (show ¬p<0 by omega),cond_false];refine .g λ_=>?_;rw[XA];refine .g λ_=>?_;rw[XA];refine .b λr hr=> .b λs hs=> .g λ_=>qW _ ?_;obtain⟨r1,r2,r3⟩:=ztd y3 (by omega) y7 r hr;obtain⟨s1,s2,m,s3⟩:=zuy r1 (by omega) r3 s hs;subst s3;exact y8 r hr r1 m s1 (by unfold seen;omega)
  ·refine .q (λy=>y=false) (λy hy=>?_) λk14 GV=> .c (λ_=>GV _ (decide_eq_false y1)) λ_=>GV _ rfl;subst hy;exact IV _ y2
 ·refine Pc.l (λx=>(x.1=0∨x.1=1)∧x.2=(⟨0,[],(⟨[],(⟨[]⟩:Ay),(⟨[],0⟩:Ar),(⟨0,[]⟩:Ao),[]⟩:Ac),(⟨[],0⟩:Ar),[],[],[]⟩:Aa)) ⟨.inl rfl,rfl⟩ (λx k6 ⟨hx,h0⟩ pW=>?_) _
  rcases hx with hx|hx
  ·rw[hx];refine .c (λ_=> .b λo ho=>?_) λh=>absurd h (by simp);cases ho;rw[M8];exact pW _ ⟨.inr (DA (a:=0) (b:=1) (by omega) (by omega)),h0⟩
  ·rw[hx];refine .c (λh=>absurd h (by simp)) λ_=>?_;rw[h0];exact bW
end Go.D
namespace Go.D
def any_some{α:Type}{o:Option α}{p:α→Bool}(h:o.any p=true):∃x,o=some x∧p x=true:=by
 cases o with
 | none=>exact nomatch h
 | some x=>exact⟨x,rfl,h⟩
def zu6{w:Aa}{c:Ae}{s:Ah}(h:GD w c=some s):c.St=3∧∃i:Nat,XB w.S.T c.C.Sn=(i:Int)∧w.S.T.L[i]?=some s∧s.Dead=false:=by
 unfold GD at h;cases hs:c.St==3
 ·rw[hs]at h;exact nomatch h
 ·rw[hs,cond_true]at h
  by_cases h0:0≤XB w.S.T c.C.Sn
  ·rw[if_pos h0]at h;cases hl:w.S.T.L[(XB w.S.T c.C.Sn).toNat]? with
   | none=>rw[hl]at h;exact nomatch h
   | some d=>
    rw[hl]at h;cases hd:d.Dead
    ·have:some d=some s:=by simpa[Option.filter,hd]using h
     cases this;exact⟨beq_iff_eq.1 hs,_,(Int.toNat_of_nonneg h0).symm,hl,hd⟩
    ·exact absurd h (by simp[Option.filter,hd])
  ·rw[if_neg h0]at h;exact nomatch h
def ztX{w:Aa}{c:Ae}{i:Nat}{s:Ah}(st:c.St=3)(fs:XB w.S.T c.C.Sn=(i:Int))(se:w.S.T.L[i]?=some s)(dd:s.Dead=false):GD w c=some s:=by
 unfold GD;rw[st,fs,if_pos (Int.natCast_nonneg i),Int.toNat_natCast,se];simp[Option.filter,dd]
structure Mv(w:Aa)(nm:Int)(a:Af)(k i:Nat)(c:Ae)(e:Ah):Prop where
 hk:k≤1
 nm:nm=k+1
 cl:w.Clients[k]?=some c
 st:c.St=3
 cn:c.Cn=e.Cn
 fs:XB w.S.T c.C.Sn=(i:Int)
 se:w.S.T.L[i]?=some e
 dd:e.Dead=false
 kf:AI c.C e.C=true
 rm:xT w c e=true
 mm:HO w a e=true
 ao:EA a=true
 hb:IA a SB=false
 ot:∀j d,w.Clients[j]?=some d→j≠k→IA d.At a=false
 dn:w.S.D.N<10000
def zwB{w:Aa}{nm:Int}{a:Af}(h:XM w nm a=true)(eY:w.Clients.length=2):∃k i c e,Mv w nm a k i c e:=by
 unfold XM vJ IH at h;simp only[Bool.and_eq_true,Bool.not_eq_true',decide_eq_true_eq]at h;obtain⟨⟨⟨⟨⟨⟨⟨⟨⟨hw,VW⟩,F1⟩,E5⟩,pX⟩,ao⟩,hb⟩,ot⟩,dn⟩,I1⟩:=h;obtain⟨c,hc,h1⟩:=any_some pX;obtain⟨e,he,h2⟩:=any_some h1;obtain⟨st,i,fs,se,dd⟩:=zu6 he
 have h3:(c.Cn==e.Cn&&AI c.C e.C)=true:=by
  rw[hc]at F1;have F1:((GD w c).all λs=>c.Cn==s.Cn&&AI c.C s.C)=true:=F1;rw[he]at F1;exact F1
 have h4:HO w a e=true:=by
  rw[hc]at I1;have I1:(GD w c).any (HO w a)=true:=I1;rw[he]at I1;exact I1
 obtain⟨h5,h6⟩:=Bool.and_eq_true_iff.1 h3;have VW:=YA.1 VW;refine⟨(nm - 1).toNat,i,c,e,⟨by omega,by omega,hc,st,beq_iff_eq.1 h5,fs,se,dd,h6,h2,h4,ao,hb,λj d hd hj=>?_,dn⟩⟩;have:j<w.Clients.length:=(List.getElem?_eq_some_iff.1 hd).1;have ej:(2 - nm).toNat=j:=by omega
 rw[ej,hd]at ot;exact ot
def zvZ{c:Ae}{a:Af}(hc:fB c=true)(ha:EA a=true):Pc (Bw c a) λr=>r=⟨c.Id,c.Psk,a,c.St,c.Cn,c.Fin,c.C,c.T,c.R,c.Last⟩:=by
 unfold Bw;simp only[kA,qD,aA];refine .p λ_=> .p λ_=>?_;rw[hc,ha];exact .s rfl
def zvq{c:Ae}{now:Int}{plain:List UInt8}(hc:fB c=true)(st:c.St=3)(hn:eA now 0 1000000=true)(hl:plain.length≤40)(h4:tE 4 (plain.length:Int)=true)(hq:c.C.Cur.Seq<281474976709656):
  Pc (Ec c now plain) λr=>∃f ns,dF c.C.Cur.Key c.C.Role c.C.Sn c.C.Cur.N c.C.Cur.Seq 4 plain f∧r=(⟨c.Id,c.Psk,c.At,c.St,c.Cn,c.Fin,JK c.C,c.T,c.R,c.Last⟩,[f],ns,0):=by
 have h1:=(HT hc st).1;have hs:(c.St !=3)=false:=by rw[st];rfl
 unfold Ec;simp only[kA,qD];refine .p λ_=> .q (λy=>y=false) (λy hy=>?_) λk hk=> .p λ_=>?_
 ·subst hy;refine .c (λh=>nomatch h) λ_=>?_;rw[hs];refine .c (λh=>nomatch h) λ_=> .b λr5 h5=>?_;obtain⟨f,hf,rfl⟩:=zeY h1 (by decide) h4 hl hq r5 h5;exact .c (λh=>absurd h (by simp)) λ_=> .b λ_ _=> .b λ_ _=> .b λ_ _=> .s ⟨f,_,hf,rfl⟩
 ·rw[hc,hn,decide_eq_false (show ¬(plain.length:Int)>40 by omega)];exact hk _ rfl
def zg4{a b:List UInt8}(ha:a.length≤bA)(hb:b.length≤bA):Gu a b=some (a==b):=by
 unfold Gu;rw[Nat.ble_eq_true_of_le ha,Nat.ble_eq_true_of_le hb];rfl
def zke{a:Af}:IA a a=true:=by unfold IA;simp
def zsY{w:Aa}{nm:Int}{a:Af}{k i:Nat}{c:Ae}{e:Ah}{f:Ab}{ns:List Ad}{plain b:List UInt8}(W:WV 31 w)(M:Mv w nm a k i c e)(S5:fB ⟨c.Id,c.Psk,a,c.St,c.Cn,c.Fin,JK c.C,c.T,c.R,c.Last⟩=true)
  (hns:WB ns) (UV:ns.length≤4) (hS:dF c.C.Cur.Key c.C.Role c.C.Sn c.C.Cur.N c.C.Cur.Seq 4 plain f) (hb:Ax f=some b) (x:Aa) (hx:x=⟨w.Now,w.Clients.set k ⟨c.Id,c.Psk,a,c.St,c.Cn,c.Fin,JK c.C,c.T,c.R,c.Last⟩,w.S,w.D,w.Seen,w.Known,w.Notes++ns⟩):
  NA x=true∧wt x≤110000∧Pc (Gt x [⟨a,SB,b⟩]) (gN x k i ⟨c.Id,c.Psk,a,c.St,c.Cn,c.Fin,JK c.C,c.T,c.R,c.Last⟩ e a plain):=by
 subst hx;have O:=UB.1 W.ok;have L1:k<w.Clients.length:=(List.getElem?_eq_some_iff.1 M.cl).1;have uW:=zb9 W.ok M.cl S5 rfl rfl hns;have hz:=XO uW;have hz2:=eE (UB.1 uW).notes;have hz3:=W.nl;rw[show(⟨w.Now,w.Clients.set k ⟨c.Id,c.Psk,a,c.St,c.Cn,c.Fin,JK c.C,c.T,c.R,c.Last⟩,w.S,w.D,w.Seen,w.Known,w.Notes++ns⟩:Aa).Notes.length=w.Notes.length+ns.length from List.length_append]at hz2;have HY:e.Sn=c.C.Sn:=zjH (by rw[M.fs];omega) (by rw[M.fs,Int.toNat_natCast];exact M.se);have WY:fB c=true:=zK W.ok (List.mem_of_getElem? M.cl);obtain⟨c1,c2,_⟩:=HT WY M.st;obtain⟨d1,_⟩:=HT S5 M.st;have OX:TB e=true:=(JE.1 (nE.1 O.srv).tab).el e (List.mem_of_getElem? M.se);obtain⟨s1,s2,s3,_⟩:=zbS OX M.dd;have rm:=M.rm;unfold xT at rm;simp only[Bool.and_eq_true,decide_eq_true_eq]at rm;obtain⟨⟨⟨⟨_,q0⟩,q1⟩,_⟩,qN⟩:=rm;have mm:=M.mm;unfold HO at mm;simp only[Bool.and_eq_true,decide_eq_true_eq]at mm;obtain⟨⟨⟨m1,m2⟩,m3⟩,m4⟩:=mm;refine⟨uW,by omega,?_⟩;refine zsw uW (by omega) M.hk (List.getElem?_set_self L1) M.st rfl M.ao M.hb (λj d hd hj=>?_) M.dn (by rw[HY];exact M.fs) M.se M.dd hS.ok (by rw[hS.shape]) (by rw[hS.shape];exact HY.symm) ?_ (nt m1) (λx hx=>?_) (by omega) m4 hb
 ·have hd:(w.Clients.set k _)[j]?=some d:=hd;rw[List.getElem?_set_ne (Ne.symm hj)]at hd;exact M.ot j d hd hj
 ·exact zte c1 s1 d1 c2 s2 HY.symm s3 O.now M.kf q0 q1 qN (W.sv e (List.mem_of_getElem? M.se)) (by rw[c2, ←HY]at hS;exact hS)
 ·obtain⟨j,hj⟩:=List.getElem?_of_mem hx;have:=uO m2 (List.getElem?_eq_some_iff.1 hj).1;unfold zG at this;rw[hj]at this;exact this
end Go.D
namespace Go.D
def ZQ.ok{x}(_:vA [.sl .byte] x):Ni x=some (zl0 (α:=List UInt8) x):=by
 have hL:=yB
 have:Ok (Ni x) λr=>r=true:=by
  unfold Ni;simp only[List.nil_append];refine .c (λ_=> .s rfl) λhb=>?_;have hb:List.length (α:=UInt8) x≤1048576:=by have:=of_decide_eq_false hb;omega
  refine .b (zoU hb) λd ⟨W,VW,hn⟩=>?_;obtain⟨w,nm,n⟩:=d;dsimp only at W VW hn⊢;have hz:=W.sz;have O:=UB.1 W.ok;generalize vC (fA .i64 1 n)=a;refine .m (nA (by omega)) (.j (λy=>y=false) (λy hy=>?_) λk hk=> .m (nA (by omega)) ?_)
  rotate_left
  ·rw[W.ok];exact .kf (.m (nA (by omega)) (hk _ (by rw[beq_self_eq_true];rfl)))
  subst hy;refine .kf ?_;cases hm:XM w nm a
  ·exact .kt (.s rfl)
  refine .kf ?_;obtain⟨k,i,c,e,M⟩:=zwB hm O.cl;have G4:=M.nm;have eY:=O.cl;have fZ:=M.hk;have ei:oA .i64 nm 1=(k:Int):=by rw[RA (by omega) (by omega)];omega
  simp only[ei,Int.toNat_natCast];have S5:fB c=true:=zK W.ok (List.mem_of_getElem? M.cl);have hws:=cG w;refine .g (by rw[SG];omega) (.h (by simp only[B];omega) (.m M.cl (.b (ziT S5).we λr9 ⟨⟨q1,q2⟩,tX⟩=>?_)));have e9:=zvZ S5 M.ao r9 tX;subst e9
  have hq:c.C.Cur.Seq<281474976709656:=by
   have rm:=M.rm;unfold xT at rm;simp only[Bool.and_eq_true,decide_eq_true_eq]at rm;omega
  refine .b (zaE q1 (by simp)).we λr11 ⟨⟨p1,p2,p3,p4,p5⟩,NW⟩=>?_;obtain⟨f,ns,hS,rfl⟩:=zvq q1 M.st O.now (by simp) (by decide) hq r11 NW;dsimp only at p1 p3 p4⊢;have D9:=eE p3;refine .h (by simp only[B];omega) (.m M.cl (.g (by rw[SG];omega) (.g (by omega) (.j (λy=>y=false) (λy hy=>?_) λk hk=> .kf (hk _ rfl)))));subst hy;have hfw:=zf8 hS.ok;refine .kf (.h rfl (.m rfl (.b (zev (by omega)).we λr18 ⟨⟨u1,u2,_⟩,xY⟩=>?_)));obtain⟨b,nX,rfl⟩:=zgp r18 xY;generalize M6:(⟨w.Now,w.Clients.set k _,w.S,w.D,w.Seen,w.Known,w.Notes++ns⟩:Aa)=x;obtain⟨hx,hxz,hG⟩:=zsY W M p1 p3 p4 hS nX x M6.symm;refine .b (zwN hx (by omega) (by simp only[N]at u1⊢;omega) λz hz=>by rw[List.mem_singleton.1 hz];exact u2 M.ao (by decide)).we λy ⟨hyz,hy⟩=>?_;have G:=hG y hy;obtain⟨c2,e2,m,g1,g2,g3,g4,g5,g6,g7,g8,g9,g10,g11,g12,⟨zq,hzq,gq⟩,zp,hzp,gp⟩:=G.fin;have HY:e.Sn=c.C.Sn:=zjH (by rw[M.fs];omega) (by rw[M.fs,Int.toNat_natCast];exact M.se);have rY:=(vM (HT S5 M.st).1).2.1;have hyw:=cG y;have hyT:wt y.S.T≤wt y.S:=by simp only[N];omega
  have e20:CC y.S.T c.C.Sn=some (i:Int):=by
   rw[←g11,HY];exact nA ⟨by omega,by simp only[N];omega⟩
  have eN:x.Notes=w.Notes++ns:=by rw[←M6]
  have DV:y.Notes.length=(w.Notes++ns).length+m.length:=by rw[g12,eN,List.length_append]
  refine .m e20 (.j (λy=>y=(true,true)) (λu hu=>?_) λk23 lX=> .l (λv:Bool×Bool×Int=>∃n:Nat,v.2.2=(((w.Notes++ns).length+n:Nat):Int)∧n≤m.length∧∀t<n,∀z,m[t]?=some z→(z.Kind=9∧z.A=a∧z.Sn=e.Sn→v.1=true)∧(z.Kind=6∧z.Sn=e.Sn∧z.Body=[1,2,3]→v.2.1=true)) (λv=>((y.Notes.length:Int) - v.2.2).toNat) (λv ⟨n,v1,v2,v3⟩ k25 hk25=> .c (λh1=>?_) λh1=>lX _ ?_) ⟨0,rfl,Nat.zero_le _,λt h=>nomatch h⟩ ?_)
  ·subst hu;refine .j (λy=>y=true) (λy hy=> .s hy) λk42 hk42=>?_;have PY:=(List.getElem?_eq_some_iff.1 g5).1;rw[decide_eq_true (show(i:Int)≥0 by omega)];refine .kt (.h (by rw[decide_eq_true (show(i:Int)<(y.S.T.L.length:Int) by omega)];rfl) (.m (by rw[Int.toNat_natCast];exact g5) ?_));rw[cS,g9,zke];refine .kt (.kt (.kt (.m (nA (by omega)) ?_)));rw[G.ok];refine .kt (.m (nA (by omega)) (hk42 _ ?_));unfold IH;rw[G.ok,YA.2 (by omega),show(nm - 1).toNat=k by omega,g1];show((GD y c2).all λs=>c2.Cn==s.Cn&&AI c2.C s.C)=true
   rw[ztX g2 (by rw[g4];exact g11) g5 g6];show(c2.Cn==e2.Cn&&AI c2.C e2.C)=true
   rw[g3,g7,g10,show(c.Cn==e.Cn)=true from beq_iff_eq.2 M.cn];rfl
  ·have h1:=of_decide_eq_true h1;have G4:n<m.length:=by omega
   have hz:y.Notes[v.2.2.toNat]?=some m[n]:=by
    rw[v1,Int.toNat_natCast,g12,eN,List.getElem?_append_right (by omega),Nat.add_sub_cancel_left];exact List.getElem?_eq_getElem G4
   have hi:(decide (0≤v.2.2)&&decide (v.2.2<(y.Notes.length:Int)))=true:=by simp only[B];omega
   have hzm:m[n]?=some m[n]:=List.getElem?_eq_getElem G4;have hzw:=zg1 hz;generalize m[n]=z at hz hzm hzw;simp only[KL,FA]at hzw;have:=QB y.Notes;have ea:fA .i64 v.2.2 1=v.2.2+1:=DA (by omega) (by omega);have no:∀{b:Bool} {p:Prop},b=false→(b=true→p):=λh q=>by rw[h]at q;exact nomatch q
   refine .j (λu=>(v.1=true→u=true)∧(z.Kind=9∧z.A=a∧z.Sn=e.Sn→u=true)) (λu hu=> .j (λo=>(v.2.1=true→o=true)∧(z.Kind=6∧z.Sn=e.Sn∧z.Body=[1,2,3]→o=true)) (λo ho=>hk25 _ ⟨n+1,by show fA .i64 v.2.2 1=_;rw[ea,v1];omega,G4,λt ht z' MX=>?_⟩ (by simp only[ea];omega)) λk34 uX=>?_) λk27 DW=>?_
   ·by_cases h:t<n
    ·exact⟨λq=>hu.1 ((v3 t h z' MX).1 q),λq=>ho.1 ((v3 t h z' MX).2 q)⟩
    ·have:t=n:=by omega
     subst this;cases hzm.symm.trans MX;exact⟨hu.2,ho.2⟩
   ·exact .c (λ_=>uX _ ⟨λ_=>rfl,λ_=>rfl⟩) λq0=> .h hi (.m hz (.c (λ_=> .h hi (.m hz (.m (zg4 (by omega) (by simp;omega)) (.c (λ_=> .h hi (.m hz (.m (zg4 (by omega) (by show c.C.Sn.length≤_;omega)) (uX _ ⟨no q0,λq=>beq_iff_eq.2 (q.2.1.trans HY)⟩)))) λq1=>uX _ ⟨no q0,λq=>absurd q.2.2 (beq_eq_false_iff_ne.1 q1)⟩)))) λq1=>uX _ ⟨no q0,λq=>absurd q.1 (beq_eq_false_iff_ne.1 q1)⟩))
   ·refine .c (λ_=>DW _ ⟨λ_=>rfl,λ_=>rfl⟩) λq0=> .h hi (.m hz (.c (λ_=> .h hi (.m hz ?_)) λq1=>DW _ ⟨no q0,λq=>absurd q.1 (beq_eq_false_iff_ne.1 q1)⟩));rw[cS];refine .c (λ_=> .h hi (.m hz (.m (zg4 (by omega) (by show c.C.Sn.length≤_;omega)) (DW _ ⟨no q0,λq=>beq_iff_eq.2 (q.2.2.trans HY)⟩)))) λq1=>DW _ ⟨no q0,λq=>?_⟩;rw[q.2.1,zke]at q1;exact nomatch q1
  ·have h1:=of_decide_eq_false h1;obtain⟨t,ht⟩:=List.getElem?_of_mem hzq;obtain⟨s,hs⟩:=List.getElem?_of_mem hzp;have D3:=(List.getElem?_eq_some_iff.1 ht).1;have Y1:=(List.getElem?_eq_some_iff.1 hs).1;show(v.1,v.2.1)=(true,true)
   rw[(v3 s (by omega) zp hs).1 gp,(v3 t (by omega) zq ht).2 gq]
  ·show((y.Notes.length:Int) - ((w.Notes++ns).length:Int)).toNat<2^64
   have:=QB y.Notes;omega
 obtain⟨r,h,rfl⟩:=this;exact h
end Go.D
