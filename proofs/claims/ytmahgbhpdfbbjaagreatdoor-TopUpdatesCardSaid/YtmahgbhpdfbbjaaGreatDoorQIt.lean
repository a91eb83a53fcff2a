import Derived.Test.YtmahgbhpdfbbjaaGreatDoorQPeDB
set_option linter.unusedVariables false
set_option linter.unusedSimpArgs false
namespace Go.Proofs.YtmahgbhpdfbbjaaGreatDoor
set_option maxRecDepth 100000
set_option maxHeartbeats 2000000
open Go.RowKit
theorem slz_alloc1(w:World)(b1:Bool)(s1:ByteArray)(T:TypeId):SlZ (w.alloc (.cells #[.bool b1,.string s1] T)) (some ⟨w.heap.size,0,none⟩) 1 1 [(b1,s1)]:=by
 have h:=Bx2.new w (.bool b1) (.string s1) T;refine⟨rfl,Nat.le_refl _,by omega,w.heap.size,0,fun _=>rfl,fun k z hk=>?_⟩
 match k,hk with
 | 0,hk=>cases hk;exact⟨h.c0,h.c1⟩
theorem pw_Exp(M O x:ByteArray)(bb:Bool)(bt:ByteArray)(hM:M.size≤8)(hO:O.size≤8)(hx:x.size≤1000)(hb:bt.size≤1000)(w:World):Calls Tryz.prog 38 #[gV M O,.string x,zV bb bt] w (Ret (prR M O [x] [(bb,bt)]) w):=by
 have HPR:=Hq (fun(A B:Option Addr) (w:World) (hl:SlN w A 1 1 [x]) (hz:SlZ w B 1 1 [(bb,bt)])=>pw_Product M O [x] [(bb,bt)] A B 1 1 1 1 hM hO (by intro s hs;simp only[List.mem_cons,List.mem_nil_iff,or_false]at hs;subst hs;exact hx) (by intro z hz;simp only[List.mem_cons,List.mem_nil_iff,or_false]at hz;subst hz;exact hb) (by omega) (by omega) w hl hz);obtain⟨rs,rc,hpr⟩:∃ s c,prR M O [x] [(bb,bt)]=.tuple #[.string s,.int .i64 c]:=by
  unfold prR;split
  · exact⟨_,_,rfl⟩
  · exact⟨_,_,rfl⟩
 rw[hpr]at HPR⊢;clear hM hO hx hb hpr;unfold gV zV at *;have hx0:=(Bx2.new w (.string M) (.string O) 24).next ((blr).alloc nlr (.cells #[.bool bb,.string bt] 74));have hy0:Bx2 ((w.alloc (.cells #[.string M,.string O] 24)).alloc (.cells #[.bool bb,.string bt] 74)) (w.heap.size+1) (.bool bb) (.string bt) 74:=by
  have:=Bx2.new (w.alloc (.cells #[.string M,.string O] 24)) (.bool bb) (.string bt) 74;rwa[World.size_alloc]at this
 have HB0:=Hq (((Below.refl w.heap.size w).alloc nlr (.cells #[.string M,.string O] 24)).alloc (by simp) (.cells #[.bool bb,.string bt] 74));obtain⟨W0,hW0⟩:=nm ((w.alloc (.cells #[.string M,.string O] 24)).alloc (.cells #[.bool bb,.string bt] 74));rw[hW0]at hx0 hy0 HB0;have hs1:=sln_alloc W0 [x] 22 (by simp);have hb1:Below W0.heap.size W0 (W0.alloc (.cells #[.string x] 22)):=(blr).alloc nlr _;have hs2:=slz_alloc1 (W0.alloc (.cells #[.string x] 22)) bb bt 74;have hb2:Below (W0.alloc (.cells #[.string x] 22)).heap.size (W0.alloc (.cells #[.string x] 22)) ((W0.alloc (.cells #[.string x] 22)).alloc (.cells #[.bool bb,.string bt] 74)):=(blr).alloc nlr _;have HPP:=Hq (HPR.out _ _ _ (SlN.kept hb2 nlr hs1) hs2);have HBB:=Hq (HB0.out.trans ((hb1.trans (hb2.mono hb1.size)).mono HB0.out.size));rw[World.size_alloc]at HPP;have c0:=hx0.c0;have c1:=hx0.c1;have hy1:=hy0.next hb1;have d0:=hy1.c0;have d1:=hy1.c1;clear hs1 hb1 hs2 hb2 hx0 hy0 hy1;go_enter Tryz.func38,Tryz.ntmps38;go_wp2_with fail;try rw[hW0]
 clear hW0;refine HPP.out.mono ?_;rintro e w1 ⟨rfl,hb⟩;have HB1:=bTr HBB hb;clear hb;go_wp2;go_ret2;exact⟨rfl,HB1.out⟩
structure Un (m x i:Nat):Prop where
 hm:1<m
 hx:x<m
 hi:i<m
 one:x * i%m=1
theorem Un.inv{m x i:Nat}(h:Un m x i):invN x m=i:=invN_of h.hi h.one
def EP(m x i K N:Nat):Nat:=x ^ K * i ^ N%m
theorem powc{m a b:Nat}(h:a%m=b%m)(n:Nat):a ^ n%m=b ^ n%m:=by
 rw[Nat.pow_mod,h,←Nat.pow_mod]
theorem EP_more{m x i:Nat}(h:Un m x i)(K N:Nat):∀ j,EP m x i (K+j) (N+j)=EP m x i K N
 | 0=>rfl
 | j+1=>by
  rw[←EP_more h K N j];unfold EP;have e:x ^ (K+(j+1)) * i ^ (N+(j+1))=x ^ (K+j) * i ^ (N+j) * (x * i):=by
   rw[←Nat.add_assoc,←Nat.add_assoc,Nat.pow_succ,Nat.pow_succ]
   grind
  rw[e,Nat.mul_mod,h.one,Nat.mul_one,Nat.mod_mod]
theorem EP_eq{m x i K N K' N':Nat}(h:Un m x i)(e:(K:Int) - N=K' - N'):EP m x i K N=EP m x i K' N':=by
 rcases Nat.le_total K K' with h1 | h1
 · have:=EP_more h K N (K' - K);rw[show K+(K' - K)=K' from by omega,show N+(K' - K)=N' from by omega]at this;exact this.symm
 · have:=EP_more h K' N' (K - K');rw[show K'+(K - K')=K from by omega,show N'+(K - K')=N from by omega]at this;exact this
def pz(m x:Nat)(z:Int):Nat:=baseN x (decide (z<0)) m ^ z.natAbs%m
theorem pz_EP{m x i:Nat}(h:Un m x i){z:Int}{K N:Nat}(e:z=(K:Int) - N):pz m x z=EP m x i K N:=by
 unfold pz baseN;by_cases hz:z<0
 · rw[decide_eq_true hz,if_pos rfl,h.inv,←EP_eq (K:=0) (N:=z.natAbs) h (by omega)];unfold EP;rw[Nat.pow_zero,Nat.one_mul]
 · rw[decide_eq_false hz,if_neg (by decide),←EP_eq (K:=z.natAbs) (N:=0) h (by omega)];unfold EP;rw[Nat.pow_zero,Nat.mul_one]
theorem int_parts(z:Int):∃ K N:Nat,z=(K:Int) - N:=⟨z.toNat,(-z).toNat,by omega⟩
theorem EP_lt{m x i K N:Nat}(h:Un m x i):EP m x i K N<m:=Nat.mod_lt _ (by have:=h.hm;omega)
theorem EP_un{m x i:Nat}(h:Un m x i)(K N:Nat):Un m (EP m x i K N) (EP m x i N K):=by
 refine⟨h.hm,EP_lt h,EP_lt h,?_⟩;have e:EP m x i K N * EP m x i N K%m=EP m x i (K+N) (N+K):=by
  unfold EP;rw[←Nat.mul_mod,Nat.pow_add,Nat.pow_add];congr 1
  grind
 rw[e,←EP_eq (K:=0) (N:=0) h (by omega)];unfold EP;rw[Nat.pow_zero,Nat.pow_zero];exact Nat.mod_eq_of_lt h.hm
theorem pz_un{m x i:Nat}(h:Un m x i)(z:Int):∃ j,Un m (pz m x z) j:=by
 obtain⟨K,N,e⟩:=int_parts z;rw[pz_EP h e];exact⟨_,EP_un h K N⟩
theorem pz_add{m x i:Nat}(h:Un m x i)(a b:Int):pz m x (a+b)=pz m x a * pz m x b%m:=by
 obtain⟨K,N,ea⟩:=int_parts a;obtain⟨K',N',eb⟩:=int_parts b;rw[pz_EP h ea,pz_EP h eb,pz_EP (K:=K+K') (N:=N+N') h (by omega)];unfold EP;rw[←Nat.mul_mod,Nat.pow_add,Nat.pow_add];congr 1
 grind
theorem pz_pow{m x i:Nat}(h:Un m x i)(a b:Int):pz m (pz m x a) b=pz m x (a * b):=by
 obtain⟨K,N,ea⟩:=int_parts a;obtain⟨K',N',eb⟩:=int_parts b;rw[pz_EP h ea,pz_EP (EP_un h K N) eb,pz_EP (K:=K * K'+N * N') (N:=N * K'+K * N') h (by rw[ea,eb];push_cast;grind)];unfold EP;rw[Nat.mul_mod,←Nat.pow_mod,←Nat.pow_mod,←Nat.mul_mod,Nat.mul_pow,Nat.mul_pow,Nat.pow_add,Nat.pow_add,←Nat.pow_mul,←Nat.pow_mul,←Nat.pow_mul,←Nat.pow_mul];congr 1
 grind
theorem pz_nat{m x n:Nat}:pz m x (n:Int)=x ^ n%m:=by
 unfold pz baseN;rw[decide_eq_false (by omega),if_neg (by decide),Int.natAbs_natCast]
theorem one_un{m:Nat}(hm:1<m):Un m 1 1:=⟨hm,hm,hm,by rw[Nat.mul_one];exact Nat.mod_eq_of_lt hm⟩
theorem pz_base1{m:Nat}(hm:1<m)(z:Int):pz m 1 z=1:=by
 obtain⟨K,N,e⟩:=int_parts z;rw[pz_EP (one_un hm) e];unfold EP;rw[Nat.one_pow,Nat.one_pow];exact Nat.mod_eq_of_lt hm
theorem bez(a b:Nat):∃ s t:Int,(a:Int) * s+b * t=(Nat.gcd a b:Nat):=by
 induction a,b using Nat.gcd.induction with
 | H0 n=>exact⟨0,1,by rw[Nat.gcd_zero_left];omega⟩
 | H1 m n h ih =>
  obtain⟨s,t,e⟩:=ih;refine⟨t - (n / m:Nat) * s,s,?_⟩;rw[Nat.gcd_rec,←e];have h1:(n:Int)=m * (n / m:Nat)+(n%m:Nat):=by exact_mod_cast (Nat.div_add_mod n m).symm
  generalize ((n / m:Nat):Int)=d at *;generalize ((n%m:Nat):Int)=r at *;rw[h1]
  grind
theorem un_of{m x:Nat}(hm:1<m)(hx:x<m)(hg:Nat.gcd x m=1):∃ i,Un m x i:=by
 obtain⟨s,t,e⟩:=bez x m;rw[hg]at e;have h1:=Int.emod_nonneg s (show (m:Int)≠0 by omega);have h2:=Int.emod_lt_of_pos s (show (0:Int)<(m:Int)by omega);exact⟨(s%m).toNat,hm,hx,by omega,ex_law (y:=t) hm e⟩
theorem un_gcd{m x i:Nat}(h:Un m x i):Nat.gcd x m=1:=by
 have h1:Nat.gcd x m ∣ 1:=by
  have hd1:=Nat.gcd_dvd_left x m;have hd2:=Nat.gcd_dvd_right x m;have h2:x * i=m * (x * i / m)+1:=(by have:=Nat.div_add_mod (x * i) m;rw[h.one]at this;exact this.symm);have h3:Nat.gcd x m ∣ m * (x * i / m)+1:=by rw[←h2];exact Nat.dvd_trans hd1 (Nat.dvd_mul_right x i)
  exact(Nat.dvd_add_right (Nat.dvd_trans hd2 (Nat.dvd_mul_right m _))).1 h3
 exact Nat.dvd_one.1 h1
theorem has_un{m o x:Nat}(hc:chkN m o=0)(h:hasN m o x=true):∃ i,Un m x i:=by
 obtain⟨h1,h2,h3⟩:=hasN_unit h hc;exact un_of h2 h1 h3
theorem has_ord{m o x:Nat}(ho:0<o)(h:hasN m o x=true):x ^ o%m=1:=by
 unfold hasN at h;have h:=of_decide_eq_true h;rw[if_neg (by omega)]at h;exact h.2.2
theorem has_of{m o x i:Nat}(hu:Un m x i)(hp:0<o→x ^ o%m=1):hasN m o x=true:=by
 unfold hasN;have hm:=hu.hm;have h0:0<x:=by
  rcases Nat.eq_zero_or_pos x with h | h
  · subst h;have:=hu.one;rw[Nat.zero_mul,Nat.zero_mod]at this;cases this
  · exact h
 refine decide_eq_true ⟨h0,hu.hx,?_⟩;split
 · exact un_gcd hu
 · exact hp (by omega)
theorem has_pz{m o x:Nat}(hc:chkN m o=0)(h:hasN m o x=true)(z:Int):hasN m o (pz m x z)=true:=by
 obtain⟨i,hu⟩:=has_un hc h;obtain⟨j,hj⟩:=pz_un hu z;refine has_of hj (fun ho=>?_);have h1:=has_ord ho h;rw[←pz_nat,pz_pow hu,Int.mul_comm,←pz_pow hu,pz_nat,h1,pz_base1 hu.hm]
theorem has_lt{m o x:Nat}(h:hasN m o x=true):x<m:=(of_decide_eq_true h).2.1
theorem cka_two{M O a b:ByteArray}{z1 z2:Bool×ByteArray}(h1:nvalid a=true)(h2:nvalid b=true)(h3:zvalid z1.1 z1.2=true)(h4:zvalid z2.1 z2.2=true)(h5:chkK M O=0)(h6:hasN (num M) (num O) (num a)=true)(h7:hasN (num M) (num O) (num b)=true):ckR M O [a,b] [z1,z2] true=0:=by
 unfold ckR;rw[if_neg (by simp[h1,h2]),if_neg (by simp[h3,h4]),if_pos h5,if_neg (by decide),if_neg (by simp[h6,h7])]
theorem cka_one{M O a:ByteArray}{z1:Bool×ByteArray}(h1:nvalid a=true)(h3:zvalid z1.1 z1.2=true)(h5:chkK M O=0)(h6:hasN (num M) (num O) (num a)=true):ckR M O [a] [z1] true=0:=by
 unfold ckR;rw[if_neg (by simp[h1]),if_neg (by simp[h3]),if_pos h5,if_neg (by decide),if_neg (by simp[h6])]
theorem pz_two(m x y:Nat)(v r:Int):baseN x (decide (v<0)) m ^ v.natAbs * baseN y (decide (r<0)) m ^ r.natAbs%m=pz m x v * pz m y r%m:=by
 unfold pz;rw[←Nat.mul_mod]
theorem wpList_append_none{P:Program}(w:World){ops:Array Oper}{rest:List Oper}{o:Oper}{a:Act}{Q:Exit→Act→World→Prop}(hg:o.guard=none)(s x:Operand)(t:TypeId)(hop:o.op=Op.call { callee:=Callee.builtin Builtin.append,args:=#[s,x],argTypes:=#[t,t] })
 (e:TypeId) (i:TypeInfo) (h1:P.underlying t=some (.slice e)) (h2:P.info? e=some i) (ao:Option Addr) (n cap:Nat) (hs:a.eval s=.slice ao n cap) (hle:n≤cap) (m:Nat) (hx:a.eval x=.slice none 0 m)
 (hK:wpList P ops Q rest (a.put o.dst (.slice ao n cap)) w):wpList P ops Q (o::rest) a w:=by
 refine wpList_plain hg fun K hK'=>?_;have hrun:(Builtin.append_ #[t,t] o.type #[.slice ao n cap,.slice none 0 m]).run P w=.ok (.slice ao n cap) w:=by
  cases ao<;>simp[Builtin.append_,run_underlying h1,sizeOf,typeInfo,h2,hle,storeCells,go_sem]
 unfold Oper.wp;simp[execOp,hop,resolve,invoke,builtin,hs,hx,hrun,Result.andThen];exact hK' _ _ hK
theorem wpList_append_sl(w0 w:World){ops:Array Oper}{rest:List Oper}{o:Oper}{a:Act}{Q:Exit→Act→World→Prop}(hg:o.guard=none)(s x:Operand)(hop:o.op=Op.call { callee:=Callee.builtin Builtin.append,args:=#[s,x],argTypes:=#[25,25] })
 (base:Nat) (v:Value) (n:Nat) (xs:List ByteArray) (hs:a.eval s=v) (hown:w.ownsRow base 22 1 v n (xs.map Value.string)) (A:Option Addr) (m c:Nat) (l:List ByteArray) (hx:a.eval x=.slice A m c) (hsl:SlN w A m c l) (hn:n+m≤4000000) (hb:Below base w0 w) (hbase:base≤w.heap.size)
 (hK:∀ v' w',w'.ownsRow base 22 1 v' (n+m) ((xs++l).map Value.string)→Below base w0 w'→base≤w'.heap.size→wpList Tryz.prog ops Q rest (a.put o.dst v') w'):wpList Tryz.prog ops Q (o::rest) a w:=by
 obtain⟨i0,hi,iz0,iz1,iz2⟩:=info_parts nat_info
 cases A with
 | none =>
  have h0:m=0:=by
   rcases Nat.eq_zero_or_pos m with h | h
   · exact h
   · obtain⟨b,o,e⟩:=hsl.head h;cases e
  have hl:l=[]:=List.length_eq_zero_iff.1 (by rw[hsl.1,h0]);subst h0 hl;obtain⟨A6,c6,hu6,hmc⟩:∃ A c,v=.slice A n c∧n≤c:=by
   rcases hown.2 with⟨h,h0⟩ | ⟨g,c,_,h,_,_,h2,_⟩
   · subst h0;exact⟨_,_,h,Nat.le_refl _⟩
   · exact⟨_,_,h,h2⟩
  refine wpList_append_none w hg s x 25 hop 22 i0 Tryz.underlying25 hi A6 n c6 (hs.trans hu6) hmc c hx ?_;have:=hK v w (by simpa using hown) hb hbase;rwa[hu6]at this
 | some ad =>
  refine wpList_append_own w hg s x 25 hop base 22 i0 _ 1 16 Tryz.underlying25 hi iz0 iz1 iz2 rfl (by decide) v n _ hs hown ad m c (l.map Value.string) hx (by rw[List.length_map,hsl.1,Nat.mul_one]) hsl.cells (strs_one _) (by unfold maxLen;omega) (by omega) hbase ?_;intro v' w' hown' hgrow _;have hb':=hb.grown hgrow hbase (fun k hk=>(hown.lt k hk).1);exact hK v' w' (by rw[List.map_append];exact hown') hb' (Nat.le_trans hbase hgrow.size)
inductive It where
 | mk (kind:Int) (nat text:ByteArray) (list:List It)
def It.kind:It→Int | .mk k _ _ _=>k
def It.nat:It→ByteArray | .mk _ n _ _=>n
def It.text:It→ByteArray | .mk _ _ t _=>t
def It.list:It→List It | .mk _ _ _ l=>l
def lenF:Nat→Nat→List UInt8
 | 0,_=>[]
 | k+1,n=>if n<128 then [UInt8.ofNat n]else UInt8.ofNat (n%128+128)::lenF k (n / 128)
def lenB(n:Nat):List UInt8:=lenF 10 n
mutual
def It.valid:It→Bool
 | .mk k n t l=>if k=0 then nvalid n&&(t.size==0&&l.isEmpty)else if k=1 then n.size==0&&l.isEmpty else if k=2 then Its.valid l&&(n.size==0&&t.size==0)else false
def Its.valid:List It→Bool
 | []=>true
 | x::l=>x.valid&&Its.valid l
end
mutual
def It.depth:It→Nat
 | .mk k _ _ l=>if k=2 then Its.depth l+1 else 0
def Its.depth:List It→Nat
 | []=>0
 | x::l=>max x.depth (Its.depth l)
end
mutual
def It.bytes:It→List UInt8
 | .mk k n t l=>UInt8.ofNat (k%256).toNat::(lenB (n.data.toList++(t.data.toList++Its.bytes l)).length++(n.data.toList++(t.data.toList++Its.bytes l)))
def Its.bytes:List It→List UInt8
 | []=>[]
 | x::l=>x.bytes++Its.bytes l
end
mutual
def It.weight:It→Nat
 | .mk _ n t l=>n.size+t.size+Its.weight l+11
def Its.weight:List It→Nat
 | []=>0
 | x::l=>x.weight+Its.weight l
end
mutual
def It.nodes:It→Nat
 | .mk _ _ _ l=>Its.nodes l+1
def Its.nodes:List It→Nat
 | []=>0
 | x::l=>x.nodes+Its.nodes l
end
theorem Its.valid_append(l m:List It):Its.valid (l++m)=(Its.valid l&&Its.valid m):=by
 induction l with
 | nil=>simp[Its.valid]
 | cons x l ih=>simp[Its.valid,ih,Bool.and_assoc]
theorem Its.depth_append(l m:List It):Its.depth (l++m)=max (Its.depth l) (Its.depth m):=by
 induction l with
 | nil=>simp[Its.depth]
 | cons x l ih=>simp[Its.depth,ih,Nat.max_assoc]
theorem Its.bytes_append(l m:List It):Its.bytes (l++m)=Its.bytes l++Its.bytes m:=by
 induction l with
 | nil=>simp[Its.bytes]
 | cons x l ih=>simp[Its.bytes,ih]
theorem Its.weight_append(l m:List It):Its.weight (l++m)=Its.weight l+Its.weight m:=by
 induction l with
 | nil=>simp[Its.weight]
 | cons x l ih=>simp[Its.weight,ih,Nat.add_assoc]
theorem lenF_length(k n:Nat):(lenF k n).length≤k:=by
 induction k generalizing n with
 | zero=>simp[lenF]
 | succ k ih =>
  unfold lenF;split
  · simp
  · have:=ih (n / 128);simp only[List.length_cons];omega
mutual
theorem It.bytes_le:∀ x:It,x.bytes.length≤x.weight
 | .mk k n t l=>by
  have h:=Its.bytes_le l;have h1:=lenF_length 10 (n.data.toList++(t.data.toList++Its.bytes l)).length;simp only[It.bytes,It.weight,List.length_cons,List.length_append,data_len,lenB]at *;omega
theorem Its.bytes_le:∀ l:List It,(Its.bytes l).length≤Its.weight l
 | []=>by simp[Its.bytes,Its.weight]
 | x::l=>by
  have h1:=It.bytes_le x;have h2:=Its.bytes_le l;simp only[Its.bytes,Its.weight,List.length_append];omega
end
mutual
theorem It.depth_le:∀ x:It,x.depth≤x.nodes
 | .mk k n t l=>by
  have h:=Its.depth_le l;simp only[It.depth,It.nodes];split<;>omega
theorem Its.depth_le:∀ l:List It,Its.depth l≤Its.nodes l
 | []=>by simp[Its.depth,Its.nodes]
 | x::l=>by
  have h1:=It.depth_le x;have h2:=Its.depth_le l;simp only[Its.depth,Its.nodes];omega
end
mutual
theorem It.nodes_le:∀ x:It,x.nodes≤x.weight
 | .mk k n t l=>by
  have h:=Its.nodes_le l;simp only[It.weight,It.nodes];omega
theorem Its.nodes_le:∀ l:List It,Its.nodes l≤Its.weight l
 | []=>by simp[Its.nodes,Its.weight]
 | x::l=>by
  have h1:=It.nodes_le x;have h2:=Its.nodes_le l;simp only[Its.weight,Its.nodes];omega
end
theorem It.nodes_pos(x:It):1≤x.nodes:=by cases x;simp[It.nodes]
theorem Its.length_le_nodes(l:List It):l.length≤Its.nodes l:=by
 induction l with
 | nil=>simp
 | cons x l ih=>have:=x.nodes_pos;simp only[Its.nodes,List.length_cons];omega
theorem Its.mem_nodes{l:List It}{x:It}(h:x∈l):x.nodes≤Its.nodes l:=by
 induction l with
 | nil=>cases h
 | cons y l ih =>
  simp only[Its.nodes];rcases List.mem_cons.1 h with rfl | h
  · omega
  · have:=ih h;omega
theorem Its.mem_weight{l:List It}{x:It}(h:x∈l):x.weight≤Its.weight l:=by
 induction l with
 | nil=>cases h
 | cons y l ih =>
  simp only[Its.weight];rcases List.mem_cons.1 h with rfl | h
  · omega
  · have:=ih h;omega
theorem It.length_lt(x:It):x.list.length+1≤x.nodes:=by
 cases x with
 | mk k n t l=>have:=Its.length_le_nodes l;simp only[It.list,It.nodes];omega
theorem It.child_nodes{x y:It}{k:Nat}(h:x.list[k]? =some y):y.nodes+1≤x.nodes:=by
 cases x with
 | mk k n t l=>have:=Its.mem_nodes (List.mem_of_getElem? h);simp only[It.nodes];simp only[It.list]at this;omega
mutual
def CellsAt(w:World)(ok:Nat→Prop):It→Nat→Nat→Prop
 | .mk k n t l,b,o=>w.cell? ⟨b,o,none⟩=some (.int .i64 k)∧w.cell? ⟨b,o+1,none⟩=some (.string n)∧w.cell? ⟨b,o+2,none⟩=some (.string t) ∧
  ∃ A len cap,w.cell? ⟨b,o+3,none⟩=some (.slice A len cap)∧l.length=len∧len≤cap∧cap≤9223372036854775807∧∃ b' o',(0<len→A=some ⟨b',o',none⟩∧ok b')∧RowAt w ok l b' o'
def RowAt(w:World)(ok:Nat→Prop):List It→Nat→Nat→Prop
 | [],_,_=>True
 | x::l,b,o=>CellsAt w ok x b o∧RowAt w ok l b (o+4)
end
def SlAt(w:World)(ok:Nat→Prop)(A:Option Addr)(len cap:Nat)(l:List It):Prop:=
 l.length=len∧len≤cap∧cap≤9223372036854775807∧∃ b o,(0<len→A=some ⟨b,o,none⟩∧ok b)∧RowAt w ok l b o
def ItAt(w:World)(ok:Nat→Prop)(v:Value)(x:It):Prop:=∃ A len cap,v=.agg #[.int .i64 x.kind,.string x.nat,.string x.text,.slice A len cap]∧SlAt w ok A len cap x.list
def Agree(ok:Nat→Prop)(w w':World):Prop:=∀ k,ok k→k<w.heap.size→w'.heap[k]? =w.heap[k]?
theorem Agree.of_below{B:Nat}{ok:Nat→Prop}{w w':World}(hb:Below B w w')(hB:w.heap.size≤B):Agree ok w w':=fun k _ h=>hb.block k (Nat.lt_of_lt_of_le h hB)
theorem Agree.trans{ok:Nat→Prop}{a b c:World}(h:Agree ok a b)(h':Agree ok b c)(hs:a.heap.size≤b.heap.size):Agree ok a c:=fun k h1 h2=>(h' k h1 (by omega)).trans (h k h1 h2)
theorem Agree.cell{ok:Nat→Prop}{w w':World}(h:Agree ok w w'){a:Addr}{v:Value}(hl:ok a.block)(hc:w.cell? a=some v):w'.cell? a=some v:=by
 rw[World.cell?_of_block (h a.block hl (World.block_lt_of_cell? w a hc))];exact hc
mutual
theorem CellsAt.keep{ok:Nat→Prop}{w w':World}(hb:Agree ok w w'):∀(x:It) (b o:Nat),ok b→CellsAt w ok x b o→CellsAt w' ok x b o
 | .mk k n t l,b,o,hl,⟨h0,h1,h2,A,len,cap,h3,h4,h5,h6,b',o',h7,h8⟩ =>
  ⟨hb.cell hl h0,hb.cell hl h1,hb.cell hl h2,A,len,cap,hb.cell hl h3,h4,h5,h6,b',o',h7,RowAt.keep hb l b' o' (fun h=>(h7 (by rw[←h4];exact List.length_pos_iff.2 h)).2) h8⟩
theorem RowAt.keep{ok:Nat→Prop}{w w':World}(hb:Agree ok w w'):∀(l:List It) (b o:Nat),(l≠[]→ok b)→RowAt w ok l b o→RowAt w' ok l b o
 | [],_,_,_,_=>trivial
 | x::l,b,o,hl,⟨h,h'⟩=>⟨CellsAt.keep hb x b o (hl (by simp)) h,RowAt.keep hb l b (o+4) (fun _=>hl (by simp)) h'⟩
end
mutual
theorem CellsAt.low{ok ok':Nat→Prop}{w:World}(hl:∀ b,ok b→ok' b):∀(x:It) (b o:Nat),CellsAt w ok x b o→CellsAt w ok' x b o
 | .mk k n t l,b,o,⟨h0,h1,h2,A,len,cap,h3,h4,h5,h6,b',o',h7,h8⟩ =>
  ⟨h0,h1,h2,A,len,cap,h3,h4,h5,h6,b',o',fun h=>⟨(h7 h).1,hl _ (h7 h).2⟩,RowAt.low hl l b' o' h8⟩
theorem RowAt.low{ok ok':Nat→Prop}{w:World}(hl:∀ b,ok b→ok' b):∀(l:List It) (b o:Nat),RowAt w ok l b o→RowAt w ok' l b o
 | [],_,_,_=>trivial
 | x::l,b,o,⟨h,h'⟩=>⟨CellsAt.low hl x b o h,RowAt.low hl l b (o+4) h'⟩
end
theorem SlAt.keep{ok:Nat→Prop}{w w':World}{A:Option Addr}{len cap:Nat}{l:List It}(h:SlAt w ok A len cap l)(hb:Agree ok w w'):SlAt w' ok A len cap l:=
 let ⟨h1,h2,h3,b,o,h4,h5⟩:=h
 ⟨h1,h2,h3,b,o,h4,RowAt.keep hb l b o (fun h=>(h4 (by rw[←h1];exact List.length_pos_iff.2 h)).2) h5⟩
theorem SlAt.low{ok ok':Nat→Prop}{w:World}{A:Option Addr}{len cap:Nat}{l:List It}(h:SlAt w ok A len cap l)(hl:∀ b,ok b→ok' b):SlAt w ok' A len cap l:=
 let ⟨h1,h2,h3,b,o,h4,h5⟩:=h
 ⟨h1,h2,h3,b,o,fun h=>⟨(h4 h).1,hl _ (h4 h).2⟩,RowAt.low hl l b o h5⟩
theorem SlAt.below{B:Nat}{ok:Nat→Prop}{w w':World}{A:Option Addr}{len cap:Nat}{l:List It}(h:SlAt w ok A len cap l)(hb:Below B w w')(hB:w.heap.size≤B):SlAt w' ok A len cap l:=h.keep (.of_below hb hB)
theorem ItAt.keep{ok:Nat→Prop}{w w':World}{v:Value}{x:It}(h:ItAt w ok v x)(hb:Agree ok w w'):ItAt w' ok v x:=
 let ⟨A,len,cap,h1,h2⟩:=h
 ⟨A,len,cap,h1,h2.keep hb⟩
theorem ItAt.low{ok ok':Nat→Prop}{w:World}{v:Value}{x:It}(h:ItAt w ok v x)(hl:∀ b,ok b→ok' b):ItAt w ok' v x:=
 let ⟨A,len,cap,h1,h2⟩:=h
 ⟨A,len,cap,h1,h2.low hl⟩
theorem ItAt.below{B:Nat}{ok:Nat→Prop}{w w':World}{v:Value}{x:It}(h:ItAt w ok v x)(hb:Below B w w')(hB:w.heap.size≤B):ItAt w' ok v x:=h.keep (.of_below hb hB)
theorem RowAt.get{w:World}{ok:Nat→Prop}:∀ {l:List It} {b o i:Nat} (h:RowAt w ok l b o) (hi:i<l.length),CellsAt w ok l[i] b (o+4 * i)
 | x::l,b,o,0,h,_=>h.1
 | x::l,b,o,i+1,h,hi=>by
  have:=RowAt.get (i:=i) h.2 (by simpa using hi);rw[show o+4 * (i+1)=o+4+4 * i from by omega];exact this
theorem CellsAt.open{w:World}{ok:Nat→Prop}{x:It}{b o:Nat}(h:CellsAt w ok x b o) :
 ∃ A len cap,w.cell? ⟨b,o,none⟩=some (.int .i64 x.kind)∧w.cell? ⟨b,o+1,none⟩=some (.string x.nat)∧w.cell? ⟨b,o+2,none⟩=some (.string x.text)∧w.cell? ⟨b,o+3,none⟩=some (.slice A len cap)∧SlAt w ok A len cap x.list:=by
 cases x with
 | mk k n t l =>
  obtain⟨h0,h1,h2,A,len,cap,h3,h4,h5,h6,b',o',h7,h8⟩:=h;exact⟨A,len,cap,h0,h1,h2,h3,h4,h5,h6,b',o',h7,h8⟩
theorem CellsAt.mk'{w:World}{ok:Nat→Prop}{x:It}{b o:Nat}{A:Option Addr}{len cap:Nat}(h0:w.cell? ⟨b,o,none⟩=some (.int .i64 x.kind))(h1:w.cell? ⟨b,o+1,none⟩=some (.string x.nat))
 (h2:w.cell? ⟨b,o+2,none⟩=some (.string x.text)) (h3:w.cell? ⟨b,o+3,none⟩=some (.slice A len cap)) (h4:SlAt w ok A len cap x.list):CellsAt w ok x b o:=by
 cases x with
 | mk k n t l =>
  obtain⟨h4,h5,h6,b',o',h7,h8⟩:=h4;exact⟨h0,h1,h2,A,len,cap,h3,h4,h5,h6,b',o',h7,h8⟩
theorem SlAt.get?{w:World}{ok:Nat→Prop}{b o len cap:Nat}{l:List It}{y:It}(h:SlAt w ok (some ⟨b,o,none⟩) len cap l)(i:Nat)(hi:l[i]? =some y):CellsAt w ok y b (o+i * 4):=by
 obtain⟨hj,rfl⟩:=List.getElem?_eq_some_iff.1 hi;obtain⟨h1,h2,h3,b',o',h4,h5⟩:=h;have:=(h4 (by omega)).1;simp only[Option.some.injEq,Addr.mk.injEq,and_true]at this;obtain⟨rfl,rfl⟩:=this;rw[Nat.mul_comm];exact h5.get hj
theorem SlAt.head{w:World}{ok:Nat→Prop}{A:Option Addr}{len cap:Nat}{l:List It}(h:SlAt w ok A len cap l)(h0:0<len):∃ b o,A=some ⟨b,o,none⟩:=by
 obtain⟨_,_,_,b,o,h4,_⟩:=h;exact⟨b,o,(h4 h0).1⟩
mutual
theorem CellsAt.bound{ok:Nat→Prop}{w:World}:∀(x:It) (b o:Nat),CellsAt w ok x b o→CellsAt w (fun c=>ok c∧c<w.heap.size) x b o
 | .mk k n t l,b,o,⟨h0,h1,h2,A,len,cap,h3,h4,h5,h6,b',o',h7,h8⟩ =>
  ⟨h0,h1,h2,A,len,cap,h3,h4,h5,h6,b',o',fun h=>⟨(h7 h).1,(h7 h).2,RowAt.lt l b' o' (List.length_pos_iff.1 (by omega)) h8⟩,RowAt.bound l b' o' h8⟩
theorem RowAt.bound{ok:Nat→Prop}{w:World}:∀(l:List It) (b o:Nat),RowAt w ok l b o→RowAt w (fun c=>ok c∧c<w.heap.size) l b o
 | [],_,_,_=>trivial
 | x::l,b,o,⟨h,h'⟩=>⟨CellsAt.bound x b o h,RowAt.bound l b (o+4) h'⟩
theorem RowAt.lt{ok:Nat→Prop}{w:World}:∀(l:List It) (b o:Nat),l≠[]→RowAt w ok l b o→b<w.heap.size
 | .mk _ _ _ _::_,b,o,_,⟨⟨h0,_⟩,_⟩=>World.block_lt_of_cell? w ⟨b,o,none⟩ h0
end
theorem SlAt.bound{w:World}{ok:Nat→Prop}{A:Option Addr}{len cap:Nat}{l:List It}(h:SlAt w ok A len cap l):SlAt w (fun c=>ok c∧c<w.heap.size) A len cap l:=
 let ⟨h1,h2,h3,b,o,h4,h5⟩:=h
 ⟨h1,h2,h3,b,o,fun h=>⟨(h4 h).1,(h4 h).2,RowAt.lt l b o (List.length_pos_iff.1 (by omega)) h5⟩,RowAt.bound l b o h5⟩
theorem SlAt.nil(w:World)(ok:Nat→Prop):SlAt w ok none 0 0 []:=⟨rfl,Nat.le_refl _,by omega,0,0,fun h=>absurd h (by omega),trivial⟩
def RowV(w:World)(ok:Nat→Prop):List Value→List It→Prop
 | [],[]=>True
 | k::n::t::s::vs,x::l=>k=.int .i64 x.kind∧n=.string x.nat∧t=.string x.text∧(∃ A len cap,s=.slice A len cap∧SlAt w ok A len cap x.list)∧RowV w ok vs l
 | _,_=>False
theorem RowV.keep{ok:Nat→Prop}{w w':World}(hb:Agree ok w w'):∀(vs:List Value) (l:List It),RowV w ok vs l→RowV w' ok vs l
 | [],[],_=>trivial
 | k::n::t::s::vs,x::l,⟨h1,h2,h3,⟨A,len,cap,h4,h5⟩,h6⟩=>⟨h1,h2,h3,⟨A,len,cap,h4,h5.keep hb⟩,RowV.keep hb vs l h6⟩
theorem RowV.low{ok ok':Nat→Prop}{w:World}(hl:∀ b,ok b→ok' b):∀(vs:List Value) (l:List It),RowV w ok vs l→RowV w ok' vs l
 | [],[],_=>trivial
 | k::n::t::s::vs,x::l,⟨h1,h2,h3,⟨A,len,cap,h4,h5⟩,h6⟩=>⟨h1,h2,h3,⟨A,len,cap,h4,h5.low hl⟩,RowV.low hl vs l h6⟩
theorem RowV.bound{ok:Nat→Prop}{w:World}:∀(vs:List Value) (l:List It),RowV w ok vs l→RowV w (fun c=>ok c∧c<w.heap.size) vs l
 | [],[],_=>trivial
 | k::n::t::s::vs,x::l,⟨h1,h2,h3,⟨A,len,cap,h4,h5⟩,h6⟩=>⟨h1,h2,h3,⟨A,len,cap,h4,h5.bound⟩,RowV.bound vs l h6⟩
theorem RowV.snoc{w:World}{ok:Nat→Prop}{x:It}{A:Option Addr}{len cap:Nat}(hs:SlAt w ok A len cap x.list):∀(vs:List Value) (l:List It),RowV w ok vs l →
 RowV w ok (vs++[.int .i64 x.kind,.string x.nat,.string x.text,.slice A len cap]) (l++[x])
 | [],[],_=>⟨rfl,rfl,rfl,⟨A,len,cap,rfl,hs⟩,trivial⟩
 | k::n::t::s::vs,y::l,⟨h1,h2,h3,h4,h6⟩=>⟨h1,h2,h3,h4,RowV.snoc hs vs l h6⟩
theorem RowV.length{w:World}{ok:Nat→Prop}:∀ {vs:List Value} {l:List It},RowV w ok vs l→vs.length=l.length * 4
 | [],[],_=>rfl
 | k::n::t::s::vs,x::l,⟨_,_,_,_,h⟩=>by have:=RowV.length h;simp only[List.length_cons];omega
theorem RowV.row{w:World}{ok:Nat→Prop}{b:Nat}:∀ {vs:List Value} {l:List It} {o:Nat},RowV w ok vs l→(∀ j u,vs[j]? =some u→w.cell? ⟨b,o+j,none⟩=some u)→RowAt w ok l b o
 | [],[],_,_,_=>trivial
 | k::n::t::s::vs,x::l,o,⟨h1,h2,h3,⟨A,len,cap,h4,h5⟩,h6⟩,hc=>by
  refine⟨CellsAt.mk' (A:=A) (len:=len) (cap:=cap) ?_ ?_ ?_ ?_ h5,RowV.row h6 fun j u hj=>?_⟩
  · rw[←h1];exact hc 0 k rfl
  · rw[←h2];exact hc 1 n rfl
  · rw[←h3];exact hc 2 t rfl
  · rw[←h4];exact hc 3 s rfl
  · rw[show o+4+j=o+(j+4)from by omega];exact hc (j+4) u hj
theorem RowV.slice{w:World}{ok:Nat→Prop}{base:Nat}{e:TypeId}{A:Option Addr}{len n cap:Nat}{vs:List Value}{l:List It}(h:RowV w ok vs l)(hown:w.ownsRow base e 4 (.slice A len cap) n vs)(hb:∀ g,(Value.slice A len cap).ownBlock=some g→ok g) :
 len=n∧SlAt w ok A n cap l:=by
 have hlen:=h.length;have h1:=hown.1;rcases hown.2 with⟨hv,h0⟩ | ⟨g,cap,cur,hv,hbg,hg,hn,hm,hs,ht⟩
 · simp only[Value.slice.injEq]at hv;obtain⟨rfl,rfl,rfl⟩:=hv;subst h0;have : l=[]:=List.length_eq_zero_iff.1 (by omega);subst this;exact⟨rfl,SlAt.nil w ok⟩
 · simp only[Value.slice.injEq]at hv;obtain⟨rfl,rfl,rfl⟩:=hv;refine⟨rfl,by omega,hn,hm,g,0,fun _=>⟨rfl,hb g rfl⟩,h.row fun j u hj=>?_⟩;have:=hown.cells (g:=g) rfl j u hj;rw[show (0:Nat)+j=j from by omega];unfold Addr.add at this;split at this
   · subst_vars;exact this
   · simpa using this
mutual
theorem CellsAt.vals{w:World}{ok:Nat→Prop}:∀(x:It) (b o:Nat),CellsAt w ok x b o→∃ A len cap,SlAt w ok A len cap x.list∧w.cell? ⟨b,o,none⟩=some (.int .i64 x.kind)∧w.cell? ⟨b,o+1,none⟩=some (.string x.nat)∧w.cell? ⟨b,o+2,none⟩=some (.string x.text)∧w.cell? ⟨b,o+3,none⟩=some (.slice A len cap)
 | x,b,o,h=>let ⟨A,len,cap,h0,h1,h2,h3,h4⟩:=h.open;⟨A,len,cap,h4,h0,h1,h2,h3⟩
theorem RowAt.vals{w:World}{ok:Nat→Prop}:∀(l:List It) (b o:Nat),RowAt w ok l b o→∃ vs,RowV w ok vs l∧(∀ j u,vs[j]? =some u→w.cell? ⟨b,o+j,none⟩=some u)∧∀ u∈vs,u.oneCell'=true
 | [],_,_,_=>⟨[],trivial,fun j u h=>by simp at h,fun u h=>by simp at h⟩
 | x::l,b,o,⟨h,h'⟩=>by
  obtain⟨A,len,cap,h4,h0,h1,h2,h3⟩:=CellsAt.vals x b o h;obtain⟨vs,hr,hc,ho⟩:=RowAt.vals l b (o+4) h';refine⟨.int .i64 x.kind::.string x.nat::.string x.text::.slice A len cap::vs,⟨rfl,rfl,rfl,⟨A,len,cap,rfl,h4⟩,hr⟩,fun j u hj=>?_,fun u hu=>?_⟩
  · match j,hj with
    | 0,hj=>rw[←Option.some.inj hj];exact h0
    | 1,hj=>rw[←Option.some.inj hj];exact h1
    | 2,hj=>rw[←Option.some.inj hj];exact h2
    | 3,hj=>rw[←Option.some.inj hj];exact h3
    | j+4,hj=>rw[show o+(j+4)=o+4+j from by omega];exact hc j u hj
  · simp only[List.mem_cons]at hu;rcases hu with rfl | rfl | rfl | rfl | hu
    · rfl
    · rfl
    · rfl
    · rfl
    · exact ho u hu
end
theorem take_snoc{α:Type}{l:List α}{k:Nat}{y:α}(h:l[k]? =some y):l.take (k+1)=l.take k++[y]:=by
 obtain⟨h1,rfl⟩:=List.getElem?_eq_some_iff.1 h;exact List.take_succ_eq_append_getElem h1
theorem Its.weight_take_le(l:List It)(k:Nat):Its.weight (l.take k)≤Its.weight l:=by
 have:=Its.weight_append (l.take k) (l.drop k);rw[List.take_append_drop]at this;omega
def RetIt(x:It)(w:World)(e:Ending)(w':World):Prop:=∃ v,e=.returned v∧ItAt w' (fun b=>w.heap.size≤b) v x∧Below w.heap.size w w'
end Go.Proofs.YtmahgbhpdfbbjaaGreatDoor
