import Derived.Test.YtppbcopnfankcaaGreatQOrd
set_option linter.unusedVariables false
set_option linter.unusedSimpArgs false
namespace Go.Proofs.YtppbcopnfankcaaGreat
open Go.RowKit
theorem zaf(b o j:Nat):(⟨b,o,none⟩:Addr).add j=⟨b,o+j,none⟩:=by unfold Addr.add;split<;>simp_all
def SlN(w:World)(A:Option Addr)(len cap:Nat)(l:List ByteArray):Prop:=
 l.length=len∧len≤cap∧cap≤9223372036854775807∧∃ b o,(0<len→A=some ⟨b,o,none⟩)∧∀ k s,l[k]? =some s→w.cell? ⟨b,o+k,none⟩=some (.string s)
theorem SlN.kept{B:Nat}{w w':World}(hb:Below B w w')(hB:w.heap.size≤B){A:Option Addr}{len cap:Nat}{l:List ByteArray}(h:SlN w A len cap l):SlN w' A len cap l:=
 let ⟨h1,h2,h3,b,o,h4,h5⟩:=h
 ⟨h1,h2,h3,b,o,h4,fun k e hk=>cell_kept hb hB (h5 k e hk)⟩
theorem SlN.head{w:World}{A:Option Addr}{len cap:Nat}{l:List ByteArray}(h:SlN w A len cap l)(h0:0<len):∃ b o,A=some ⟨b,o,none⟩:=
 let ⟨_,_,_,b,o,h4,_⟩:=h
 ⟨b,o,h4 h0⟩
theorem SlN.get?{w:World}{b o len cap:Nat}{l:List ByteArray}(h:SlN w (some ⟨b,o,none⟩) len cap l)(k:Nat){s:ByteArray}(hk:l[k]? =some s):w.cell? ⟨b,o+k,none⟩=some (.string s):=by
 obtain⟨h1,h2,h3,b',o',h4,h5⟩:=h;have hl:=(List.getElem?_eq_some_iff.1 hk).1;have:=h4 (by omega);simp only[Option.some.injEq,Addr.mk.injEq,and_true]at this;obtain⟨rfl,rfl⟩:=this;exact h5 k s hk
theorem SlN.cells{w:World}{ad:Addr}{len cap:Nat}{l:List ByteArray}(h:SlN w (some ad) len cap l):∀ j u,(l.map Value.string)[j]? =some u→w.cell? (ad.add j)=some u:=by
 intro j u hj;rw[List.getElem?_map,Option.map_eq_some_iff]at hj;obtain⟨s,hs,rfl⟩:=hj;have hlt:=(List.getElem?_eq_some_iff.1 hs).1;obtain⟨b,o,e⟩:=h.head (by have:=h.1;omega);cases e;rw[zaf];exact h.get? j hs
theorem SlN.of_owns{w:World}{base:Nat}{T:TypeId}{v:Value}{n:Nat}{l:List ByteArray}(h:w.ownsRow base T 1 v n (l.map Value.string)):l.length=n∧∃ A cap,v=.slice A n cap∧SlN w A n cap l:=by
 have hl:=h.1;rw[List.length_map]at hl;have hln:l.length=n:=by omega
 refine⟨hln,?_⟩;rcases h.2 with⟨hv,h0⟩ | ⟨g,cap,cur,hv,hb,hh,hc,hm,hs,ht⟩
 · subst h0;have : l=[]:=List.length_eq_zero_iff.1 hln;subst this;exact⟨none,0,hv,rfl,Nat.le_refl _,by omega,0,0,fun h=>by omega,fun k e h=>by simp at h⟩
 · refine⟨_,cap,hv,hln,hc,by unfold maxLen at hm;exact hm,g,0,fun _=>rfl,fun k s hk=>?_⟩;have hcell:=h.cells (g:=g) (by rw[hv];rfl) k (.string s) (by rw[List.getElem?_map,hk];rfl);rw[zaf]at hcell;exact hcell
theorem SlN.nil(w:World)(cap:Nat)(h:cap≤9223372036854775807)(A:Option Addr):SlN w A 0 cap []:=⟨rfl,Nat.zero_le _,h,0,0,fun h=>by omega,fun k e h=>by simp at h⟩
theorem zd4(l:List ByteArray):∀ u∈l.map Value.string,u.oneCell'=true:=by
 intro u h;obtain⟨s,_,rfl⟩:=List.mem_map.1 h;rfl
def zv4(T:TypeId)(size n:Nat)(vs:List Value)(w:World)(e:Ending)(w':World):Prop:=∃ v,e=.returned v∧w'.ownsRow w.heap.size T size v n vs∧Below w.heap.size w w'
def RetNs(l:List ByteArray)(k:IntKind)(f:Int)(w:World)(e:Ending)(w':World):Prop:=∃ A cap,e=.returned (.tuple #[.slice A l.length cap,.int k f])∧SlN w' A l.length cap l∧Below w.heap.size w w'
theorem RetNs.mk'{w w':World}{v:Value}{n B:Nat}{T:TypeId}{l:List ByteArray}{f:Int}(h:w'.ownsRow B T 1 v n (l.map Value.string))(hb:Below w.heap.size w w'):RetNs l .i64 f w (.returned (.tuple #[v,.int .i64 f])) w':=by
 obtain⟨hl,A,cap,rfl,hs⟩:=SlN.of_owns h;subst hl;exact⟨A,cap,rfl,hs,hb⟩
theorem ky:(Tryz.prog.info? 22).map (fun i=>(i.zero,i.size,i.bytes))=some (some (.string ⟨#[]⟩),1,16):=by kernel_rfl
theorem zbe{B:Nat}{w0 w:World}(h:Below B w0 w)(q:Nat):Below B w0 (w.drewN q):=h.trans ⟨rfl,rfl,rfl,Nat.le_refl _,fun _ _=>rfl⟩
theorem zfj{w:World}{B:Nat}{T:TypeId}{sz:Nat}{v:Value}{n:Nat}{xs:List Value}(h:w.ownsRow B T sz v n xs)(q:Nat):(w.drewN q).ownsRow B T sz v n xs:=by
 induction q generalizing w with
 | zero=>exact h
 | succ q ih=>exact ih h.drew
theorem jc(w:World)(l:List ByteArray)(T:TypeId)(h:l.length≤9223372036854775807:=by decide):SlN (w.alloc (.cells (l.map Value.string).toArray T)) (some ⟨w.heap.size,0,none⟩) l.length l.length l:=by
 refine⟨rfl,Nat.le_refl _,h,w.heap.size,0,fun _=>rfl,fun k s hk=>?_⟩;rw[World.cell?_alloc_at (hn:=rfl),Nat.zero_add];simp[hk]
theorem zky(w:World)(l:List ByteArray)(T:TypeId)(B:Nat)(hB:B≤w.heap.size)(h:l.length≤maxLen):(w.alloc (.cells (l.map Value.string).toArray T)).ownsRow B T 1 (.slice (some ⟨w.heap.size,0,none⟩) l.length l.length) l.length (l.map Value.string):=
 ⟨by simp,.inr ⟨w.heap.size,l.length,_,rfl,hB,heap_alloc_new w _,Nat.le_refl _,h,by simp,by rw[Nat.mul_one];exact List.take_of_length_le (by simp)⟩⟩
def RetB(B:Nat)(v:Value)(w:World)(e:Ending)(w':World):Prop:=e=.returned v∧Below B w w'
def nS(n:Nat):ByteArray:=bstr (encN n)
def num(s:ByteArray):Nat:=bnat s.data.toList
theorem za4(n:Nat):(nS n).data.toList=encN n:=jn _
theorem qx(n:Nat):(nS n).size=(encN n).length:=zm _
theorem zaa(n:Nat):num (nS n)=n:=by unfold num;rw[za4,y9]
theorem ze{n k:Nat}:(nS n).size≤k↔n<256 ^ k:=by rw[qx,jt]
theorem zkz{s:ByteArray}(h:zc s=true):zaz s.data.toList:=by
 unfold zc at h;simp only[Bool.and_eq_true,Bool.not_eq_true',beq_eq_false_iff_ne]at h;exact h.2
theorem zj{n:Nat}:zc (nS n)=true↔n<256 ^ 128:=by
 unfold zc;rw[za4,Bool.and_eq_true,decide_eq_true_eq,ze];constructor
 · exact fun h=>h.1
 · intro h;refine⟨h,?_⟩;have:=qp n;unfold zaz at this;simpa using this
theorem zu{s:ByteArray}(h:zc s=true):s=nS (num s):=by
 unfold nS num;rw[zc4 (zkz h),xd]
theorem zhp{s:ByteArray}(h:s.size≤128):num s<256 ^ 128:=by
 have h1:=zbd s.data.toList;rw[jb]at h1;exact Nat.lt_of_lt_of_le h1 (Nat.pow_le_pow_right (by omega) h)
theorem zmi(s:ByteArray):num s<256 ^ s.size:=by
 have h1:=zbd s.data.toList;rw[jb]at h1;exact h1
theorem je{s:ByteArray}(h:s.size≤8):num s<18446744073709551616:=by
 have h1:=zmi s;exact Nat.lt_of_lt_of_le h1 (Nat.le_trans (Nat.pow_le_pow_right (by omega) h) (by decide))
theorem qg:nS 0=⟨#[]⟩:=rfl
theorem zvv:nS 1=⟨#[1]⟩:=rfl
theorem zk{n:Nat}(h:n<18446744073709551616):(nS n).size≤8:=ze.2 (by rw[show (256:Nat) ^ 8=18446744073709551616 from by decide];exact h)
theorem zbl{n:Nat}:(nS n).size=0↔n=0:=by
 rw[qx,List.length_eq_zero_iff,zgb]
def dig(n i:Nat):Nat:=n / 256 ^ i%256
theorem xk(n i:Nat):dig n i<256:=Nat.mod_lt _ (by omega)
theorem zon:∀(i:Nat) (l:List UInt8),dig (bnat l) i=if h:i<l.length then(l[l.length - 1 - i]'(by omega)).toNat else 0:=by
 intro i
 induction i with
 | zero =>
  intro l;rcases List.eq_nil_or_concat l with rfl | ⟨l,x,rfl⟩
  · simp[dig,bnat]
  · rw[List.concat_eq_append];unfold dig;rw[za0,Nat.pow_zero,Nat.div_one,dif_pos (by simp)];have:=x.toNat_lt;simp only[List.length_append,List.length_singleton,Nat.add_sub_cancel,Nat.sub_zero];rw[List.getElem_append_right (by omega)];simp
 | succ i ih =>
  intro l;rcases List.eq_nil_or_concat l with rfl | ⟨l,x,rfl⟩
  · simp[dig,bnat]
  · rw[List.concat_eq_append];have hi:=ih l;unfold dig at *;have hx:=x.toNat_lt;rw[za0,Nat.pow_succ,Nat.mul_comm (256 ^ i),←Nat.div_div_eq_div_mul,show (bnat l * 256+x.toNat) / 256=bnat l from by omega,hi];by_cases h:i<l.length
    · rw[dif_pos h,dif_pos (by simp;omega)];congr 1;simp only[List.length_append,List.length_singleton];rw[List.getElem_append_left (by omega)];congr 1;omega
    · rw[dif_neg h,dif_neg (by simp;omega)]
theorem zu5(n i:Nat)(h:i<(encN n).length):((encN n)[(encN n).length - 1 - i]'(by omega)).toNat=dig n i:=by
 have:=zon i (encN n);rw[y9,dif_pos h]at this;exact this.symm
theorem zdl{n i:Nat}(h:(encN n).length≤i):dig n i=0:=by
 have:=zon i (encN n);rw[y9,dif_neg (by omega)]at this;exact this
theorem zod(n i:Nat):n / 256 ^ (i+1)=n / 256 ^ i / 256:=by rw[Nat.pow_succ,Nat.div_div_eq_div_mul]
def beN(n v:Nat):List UInt8:=(List.range n).map fun k=>UInt8.ofNat (v / 256 ^ (n - 1 - k)%256)
theorem qr(n v:Nat):(beN n v).length=n:=by simp[beN]
theorem zjx(n v k:Nat)(h:k<n):(beN n v)[k]? =some (UInt8.ofNat (v / 256 ^ (n - 1 - k)%256)):=by
 unfold beN;rw[List.getElem?_map,List.getElem?_range h];rfl
theorem zvh(n v:Nat):beN (n+1) v=beN n (v / 256)++[UInt8.ofNat (v%256)]:=by
 apply List.ext_getElem?;intro k;by_cases h:k<n
 · rw[zjx _ _ _ (by omega),List.getElem?_append_left (by rw[qr];exact h),zjx _ _ _ h];congr 2;rw[show n+1 - 1 - k=(n - 1 - k)+1 from by omega,Nat.pow_succ,Nat.mul_comm (256 ^ (n - 1 - k)),←Nat.div_div_eq_div_mul]
 · by_cases h2:k=n
   · subst h2;rw[zjx _ _ _ (by omega),List.getElem?_append_right (by rw[qr];exact Nat.le_refl _),qr];simp
   · rw[List.getElem?_eq_none (by rw[qr];omega),List.getElem?_eq_none (by rw[List.length_append,qr];simp;omega)]
theorem zoo:∀(n v:Nat),bnat (beN n v)=v%256 ^ n
 | 0,v=>by simp[beN,bnat,Nat.mod_one]
 | n+1,v=>by
  rw[zvh,za0,zoo n,j7,Nat.pow_succ,Nat.mul_comm (256 ^ n) 256,Nat.mod_mul,Nat.mul_comm];omega
theorem qi{n v:Nat}(h:v<256 ^ n):xc (beN n v)=encN v:=by rw[zd3,zoo,Nat.mod_eq_of_lt h]
theorem zos{a b c i:Nat}(h:(a+b) / 256 ^ i=a / 256 ^ i+b / 256 ^ i+c):(a+b) / 256 ^ (i+1)=a / 256 ^ (i+1)+b / 256 ^ (i+1)+(dig a i+dig b i+c) / 256∧dig (a+b) i=(dig a i+dig b i+c)%256:=by
 simp only[zod,dig,h];omega
theorem znc{a b c i:Nat}(hab:b≤a)(h:a / 256 ^ i=b / 256 ^ i+(a - b) / 256 ^ i+c)(hc:c≤1) :
 (dig b i+c≤dig a i→dig (a - b) i=dig a i - dig b i - c∧a / 256 ^ (i+1)=b / 256 ^ (i+1)+(a - b) / 256 ^ (i+1)+0) ∧
 (dig a i<dig b i+c→dig (a - b) i=dig a i+256 - dig b i - c∧a / 256 ^ (i+1)=b / 256 ^ (i+1)+(a - b) / 256 ^ (i+1)+1):=by
 simp only[zod,dig]at *;generalize (a - b) / 256 ^ i=d at *;generalize b / 256 ^ i=y at *;rw[h];constructor<;>intro h1<;>omega
set_option maxRecDepth 100000
set_option maxHeartbeats 1000000
theorem zml(n i k:Nat)(hk:k+1+i=(nS n).size)(h:k<(nS n).size):((nS n)[k]).toNat=dig n i:=by
 have hl:(nS n).size=(encN n).length:=qx n;have h1:=zu5 n i (by omega);rw[←h1];congr 1;have : (nS n)[k]=((nS n).data.toList)[k]'(by rw[jb];exact h):=rfl;rw[this];simp only[za4];congr 1;omega
theorem zm5(b:UInt8):wrap64 (b.toNat:Int)=(b.toNat:Int):=by have:=b.toNat_lt;simp[wrap64];omega
theorem js(n:Nat)(h:n<18446744073709551616):IntKind.u64.wrap (n:Int)=(n:Int):=by
 simp[IntKind.wrap,IntKind.bits,IntKind.signed];omega
theorem zg5(s:ByteArray)(i k d:Nat)(hk:k+1+i=s.size)(h:k<s.size)(hb:(s[k]).toNat=d)(hsz:s.size≤9223372036854775807)(w:World):Calls Tryz.prog 214 #[.string s,.int .i64 i] w (RetQ (.int .i64 d) w):=by
 have hix:((s.size:Int) - 1 - (i:Int))=(k:Int):=by omega
 have hlt:¬ ((s.size:Int)≤(i:Int)):=by omega
 have HB:=Hq hb;have HK:=Hq hk;clear hb hk;go_enter Tryz.func214,Tryz.ntmps214;go_wp2;go_ret;exact⟨by rw[←HB.out];exact zma (zm5 _),rfl⟩
theorem zd1(s:ByteArray)(i:Nat)(h:(s.size:Int)≤(i:Int))(w:World):Calls Tryz.prog 214 #[.string s,.int .i64 i] w (RetQ (.int .i64 0) w):=by
 go_enter Tryz.func214,Tryz.ntmps214;go_wp2;go_ret;exact⟨rfl,rfl⟩
theorem x9(n i:Nat)(hn:(nS n).size≤1000)(w:World):Calls Tryz.prog 214 #[.string (nS n),.int .i64 i] w (RetQ (.int .i64 (dig n i)) w):=by
 by_cases hi:i<(nS n).size
 · have hks:(nS n).size - 1 - i<(nS n).size:=by omega
   exact zg5 (nS n) i ((nS n).size - 1 - i) _ (by omega) hks (zml n i _ (by omega) hks) (by omega) w
 · rw[zdl (by rw[←qx];omega)];exact zd1 (nS n) i (by omega) w
theorem zme(s:ByteArray)(i k d:Nat)(hk:k+1+i=s.size)(h:k<s.size)(hb:(s[k]).toNat=d)(hsz:s.size≤9223372036854775807)(w:World):Calls Tryz.prog 201 #[.string s,.int .i64 i] w (RetQ (.int .i64 d) w):=by
 have hix:((s.size:Int) - 1 - (i:Int))=(k:Int):=by omega
 have hlt:¬ ((s.size:Int)≤(i:Int)):=by omega
 have HB:=Hq hb;have HK:=Hq hk;clear hb hk;go_enter Tryz.func201,Tryz.ntmps201;go_wp2;go_ret;exact⟨by rw[←HB.out];exact zma (zm5 _),rfl⟩
theorem ziv(s:ByteArray)(i:Nat)(h:(s.size:Int)≤(i:Int))(w:World):Calls Tryz.prog 201 #[.string s,.int .i64 i] w (RetQ (.int .i64 0) w):=by
 go_enter Tryz.func201,Tryz.ntmps201;go_wp2;go_ret;exact⟨rfl,rfl⟩
theorem zfg(n i:Nat)(hn:(nS n).size≤1000)(w:World):Calls Tryz.prog 201 #[.string (nS n),.int .i64 i] w (RetQ (.int .i64 (dig n i)) w):=by
 by_cases hi:i<(nS n).size
 · have hks:(nS n).size - 1 - i<(nS n).size:=by omega
   exact zme (nS n) i ((nS n).size - 1 - i) _ (by omega) hks (zml n i _ (by omega) hks) (by omega) w
 · rw[zdl (by rw[←qx];omega)];exact ziv (nS n) i (by omega) w
def fitR(n:Nat):Value:=if n<256 ^ 128 then .tuple #[.string (nS n),.int .i64 0]else .tuple #[.string ⟨#[]⟩,.int .i64 5]
theorem zln(n:Nat):∃ r1 r2,fitR n=.tuple #[r1,r2]:=by
 unfold fitR;split
 · exact⟨_,_,rfl⟩
 · exact⟨_,_,rfl⟩
theorem zmj(n:Nat)(hs:(nS n).size≤9223372036854775807)(w:World):Calls Tryz.prog 276 #[.string (nS n)] w (RetQ (fitR n) w):=by
 unfold fitR;by_cases h:n<256 ^ 128
 · rw[if_pos h];have h1:=ze.2 h;have h2:¬ (128<((nS n).size:Int)):=by omega
   obtain⟨s,hs'⟩:∃ s,nS n=s:=⟨_,rfl⟩;rw[hs']at h2⊢;clear hs' h1 h hs;go_enter Tryz.func276,Tryz.ntmps276;go_wp2;go_ret2;exact⟨rfl,rfl⟩
 · rw[if_neg h];have h2:128<((nS n).size:Int):=by
    rcases Nat.lt_or_ge 128 (nS n).size with h' | h'
    · omega
    · exact absurd (ze.1 h') h
   obtain⟨s,hs'⟩:∃ s,nS n=s:=⟨_,rfl⟩;rw[hs']at h2⊢;clear hs' h hs;go_enter Tryz.func276,Tryz.ntmps276;go_wp2;go_ret2;exact⟨rfl,rfl⟩
theorem zwq(n:Nat)(hs:(nS n).size≤9223372036854775807)(w:World):Calls Tryz.prog 268 #[.string (nS n)] w (RetQ (fitR n) w):=by
 unfold fitR;by_cases h:n<256 ^ 128
 · rw[if_pos h];have h1:=ze.2 h;have h2:¬ (128<((nS n).size:Int)):=by omega
   obtain⟨s,hs'⟩:∃ s,nS n=s:=⟨_,rfl⟩;rw[hs']at h2⊢;clear hs' h1 h hs;go_enter Tryz.func268,Tryz.ntmps268;go_wp2;go_ret2;exact⟨rfl,rfl⟩
 · rw[if_neg h];have h2:128<((nS n).size:Int):=by
    rcases Nat.lt_or_ge 128 (nS n).size with h' | h'
    · omega
    · exact absurd (ze.1 h') h
   obtain⟨s,hs'⟩:∃ s,nS n=s:=⟨_,rfl⟩;rw[hs']at h2⊢;clear hs' h hs;go_enter Tryz.func268,Tryz.ntmps268;go_wp2;go_ret2;exact⟨rfl,rfl⟩
def pre(s:ByteArray)(k:Nat):Nat:=bnat (s.data.toList.take k)
theorem znk(s:ByteArray)(k:Nat)(h:k<s.size):pre s (k+1)=pre s k * 256+(s[k]).toNat:=by
 unfold pre;have : s.data.toList.take (k+1)=s.data.toList.take k++[s[k]]:=by
  rw[List.take_succ_eq_append_getElem (by rw[jb];exact h)];rfl
 rw[this,za0]
theorem zrg(s:ByteArray):pre s s.size=num s:=by
 unfold pre num;rw[List.take_of_length_le (by rw[jb];exact Nat.le_refl _)]
theorem zym(s:ByteArray)(k:Nat):pre s k<256 ^ k:=by
 have h:=zbd (s.data.toList.take k);have h2:(s.data.toList.take k).length≤k:=List.length_take_le _ _;exact Nat.lt_of_lt_of_le h (Nat.pow_le_pow_right (by omega) h2)
theorem zvt{s:ByteArray}{k:Nat}(h:k<8):pre s k<72057594037927936:=
 Nat.lt_of_lt_of_le (zym s k) (Nat.le_trans (Nat.pow_le_pow_right (by omega) (show k≤7 by omega)) (by decide))
theorem ztf(n b:Nat)(hn:n<72057594037927936)(hb:b<256):bits .or .u64 ((n:Int) * 256) (IntKind.u64.wrap (b:Int))=((n * 256+b:Nat):Int):=by
 rw[js b (by omega),show (n:Int) * 256=((n * 256:Nat):Int)from by omega,u64_or_nat _ _ (by omega) (by omega),nat_join 8 (n * 256) b (by simp) (by omega)]
theorem zi5(s:ByteArray)(hv:zc s=true)(h8:s.size≤8)(w:World):Calls Tryz.prog 245 #[.string s] w (RetQ (.tuple #[.int .u64 (num s),.bool true]) w):=by
 have hne:¬ (8<(s.size:Int)):=by omega
 have HV:=Hq hv;clear hv;go_enter Tryz.func245,Tryz.ntmps245;go_wp2_with fail;refine(zh s (by omega) _).mono ?_;rintro e w1 ⟨rfl,rfl⟩;rw[HV.out];go_wp2
 go_loop [4,16] (fun n i=>∃ k:Nat,k≤s.size∧i=.int .i64 k∧n=.int .u64 (pre s k)) (fun _ i=>s.size - (intOf i).toNat)
 case atStart=>exact⟨0,Nat.zero_le _,rfl,rfl⟩
 case round =>
  obtain⟨k,hk,rfl,rfl⟩:=hrel;by_cases hlt:k<s.size
  · have hp:=zvt (s:=s) (k:=k) (by omega);have HP:=Hq (znk s k hlt);obtain⟨p,hpp⟩:=nm (pre s k);rw[hpp]at hp HP⊢;have hb:=(s[k]).toNat_lt;have hj:=ztf p (s[k]).toNat hp (by omega);have hp0:(p:Int)<72057594037927936:=by omega
    clear hpp hb;go_wp2;go_round;case rel=>exact⟨k+1,by omega,by go_num,by rw[HP.out];go_num⟩
    case measure=>simp[intOf];omega
  · obtain rfl:k=s.size:=by omega
    have HA:=Hq (zrg s);go_wp2;go_ret2;exact⟨by rw[←HA.out];rfl,rfl⟩
theorem zrd(s:ByteArray)(h8:s.size≤8)(w:World):Calls Tryz.prog 204 #[.string s] w (RetQ (.int .u64 (num s)) w):=by
 go_enter Tryz.func204,Tryz.ntmps204;go_wp2
 go_loop [3,4] (fun n i=>∃ k:Nat,k≤s.size∧i=.int .i64 k∧n=.int .u64 (pre s k)) (fun _ i=>s.size - (intOf i).toNat)
 case atStart=>exact⟨0,Nat.zero_le _,rfl,rfl⟩
 case round =>
  obtain⟨k,hk,rfl,rfl⟩:=hrel;by_cases hlt:k<s.size
  · have hp:=zvt (s:=s) (k:=k) (by omega);have HP:=Hq (znk s k hlt);obtain⟨p,hpp⟩:=nm (pre s k);rw[hpp]at hp HP⊢;have hb:=(s[k]).toNat_lt;have hw:=js (s[k]).toNat (by omega);have hp0:(p:Int)<72057594037927936:=by omega
    have hb0:((s[k]).toNat:Int)<256:=by omega
    clear hpp hb;go_wp2;go_round;case rel=>exact⟨k+1,by omega,by go_num,by rw[HP.out];go_num⟩
    case measure=>simp[intOf];omega
  · obtain rfl:k=s.size:=by omega
    have HA:=Hq (zrg s);go_wp2;go_ret;exact⟨by rw[←HA.out];rfl,rfl⟩
theorem ziw(s:ByteArray)(hv:zc s=true)(h8:s.size≤8)(w:World):Calls Tryz.prog 238 #[.string s] w (RetQ (.tuple #[.int .u64 (num s),.bool true]) w):=by
 have hne:¬ (8<(s.size:Int)):=by omega
 have HV:=Hq hv;clear hv;go_enter Tryz.func238,Tryz.ntmps238;go_wp2_with fail;refine(zo s (by omega) _).mono ?_;rintro e w1 ⟨rfl,rfl⟩;rw[HV.out];go_wp2_with fail;refine(zrd s h8 _).mono ?_;rintro e w1 ⟨rfl,rfl⟩;go_wp2;go_ret2;exact⟨rfl,rfl⟩
theorem zw{n:Nat}(h:n<18446744073709551616):zc (nS n)=true:=zj.2 (Nat.lt_of_lt_of_le h (Nat.le_trans (by decide) (Nat.pow_le_pow_right (n:=256) (by omega) (show 8≤128 by omega))))
theorem xu(n:Nat)(h:n<18446744073709551616)(w:World):Calls Tryz.prog 245 #[.string (nS n)] w (RetQ (.tuple #[.int .u64 n,.bool true]) w):=by
 have:=zi5 (nS n) (zw h) (zk h) w;rw[zaa]at this;exact this
theorem zb9(n:Nat)(h:n<18446744073709551616)(w:World):Calls Tryz.prog 238 #[.string (nS n)] w (RetQ (.tuple #[.int .u64 n,.bool true]) w):=by
 have:=ziw (nS n) (zw h) (zk h) w;rw[zaa]at this;exact this
theorem zcw(n:Nat)(h:n<18446744073709551616)(w:World):Calls Tryz.prog 204 #[.string (nS n)] w (RetQ (.int .u64 n) w):=by
 have:=zrd (nS n) (zk h) w;rw[zaa]at this;exact this
theorem xl(x y:Nat):ordB (nS x) (nS y)=cmpI x y:=by
 unfold ordB;rw[za4,za4,zho (qp _) (qp _),y9,y9]
theorem zg{n:Nat}(h:n<18446744073709551616):n<256 ^ 128:=zj.1 (zw h)
set_option maxRecDepth 100000
set_option maxHeartbeats 4000000
def zb(n:Nat):Array Value:=madeCells #[.int .u8 0] n
theorem zl1(n:Nat):(zb n).size=n:=size_madeCells _ _
theorem zwc:(Tryz.prog.info? 5).map (fun i=>(i.zero,i.size,i.bytes))=some (some (.int .u8 0),1,1):=by kernel_rfl
theorem xi(n:Nat)(hn:n≤281474976710656)(w:World):(Instr.makeSlice 130 (.int .i64 n) (.int .i64 n)).run Tryz.prog w=.ok (.slice (some ⟨w.heap.size,0,none⟩) n n) (w.alloc (.cells (zb n) 5)):=by
 obtain⟨i0,hi,hz0,hz1,hz2⟩:=info_parts zwc;have h:=run_make (P:=Tryz.prog) w 130 5 i0 (.int .u8 0) Tryz.underlying130 hi hz0 .i64 .i64 (n:Int) (n:Int) (by omega) (Int.le_refl _) (by rw[hz2];omega) (by omega);rw[h,hz1,Int.toNat_natCast,Nat.mul_one];rfl
def OutB(w:World)(B n i v:Nat):Prop:=∃ cur:Array Value,w.heap[B]? =some (.cells cur 5 (0,0))∧cur.size=n∧∀ j,j<i→cur[n - 1 - j]? =some (.int .u8 (dig v j))
theorem OutB.start{w:World}(n v:Nat):OutB (w.alloc (.cells (zb n) 5)) w.heap.size n 0 v:=⟨_,heap_alloc_new _ _,zl1 n,fun j h=>by omega⟩
theorem OutB.cell{w:World}{B n i v:Nat}(h:OutB w B n i v){k:Nat}(hk:k<n):∃ u,w.cell? ⟨B,k,none⟩=some u:=by
 obtain⟨cur,h1,h2,h3⟩:=h;exact⟨_,by rw[Lib.cell_of_heap h1];exact Array.getElem?_eq_getElem (by omega)⟩
theorem OutB.free{w:World}{B n i v:Nat}(h:OutB w B n i v)(k:Nat):w.frozen? ⟨B,k,none⟩=false:=by
 obtain⟨cur,h1,h2,h3⟩:=h;exact Lib.frozen_of_heap h1 k
theorem OutB.step{w:World}{B n i v k:Nat}(h:OutB w B n i v)(hk:k+1+i=n):OutB (w.setCell ⟨B,k,none⟩ (.int .u8 (dig v i))) B n (i+1) v:=by
 obtain⟨cur,h1,h2,h3⟩:=h;refine⟨_,zl h1 _,by rw[Array.size_setIfInBounds,h2],fun j hj=>?_⟩;rw[Array.getElem?_setIfInBounds];by_cases e:j=i
 · subst e;rw[if_pos (by omega),if_pos (by omega)]
 · rw[if_neg (by omega)];exact h3 j (by omega)
theorem OutB.bytes{w:World}{B n v:Nat}(h:OutB w B n n v)(hn:n≤9223372036854775807):BytesAt w (some ⟨B,0,none⟩) n n (beN n v):=by
 obtain⟨cur,h1,h2,h3⟩:=h;refine⟨qr n v,Nat.le_refl _,hn,fun _=>⟨B,0,rfl,fun k hk=>?_⟩⟩;rw[Nat.zero_add,Lib.cell_of_heap h1];have:=h3 (n - 1 - k) (by omega);rw[show n - 1 - (n - 1 - k)=k from by omega]at this;show cur[k]? =_;rw[this];unfold jv;rw[List.getD_eq_getElem?_getD,zjx n v k hk,Option.getD_some,j7];rfl
theorem OutB.lt{w:World}{B n i v:Nat}(h:OutB w B n i v):B<w.heap.size:=by
 obtain⟨cur,h1,_⟩:=h;exact zn h1
theorem zpk(n:Nat)(h:(nS n).size≤1000):(nS n).size≤9223372036854775807:=by omega
theorem zrq(x y:Nat)(hx:x<256 ^ 128)(hy:y<256 ^ 128)(w:World):Calls Tryz.prog 253 #[.string (nS x),.string (nS y)] w (Ret (fitR (x+y)) w):=by
 have hv1:=zj.2 hx;have hv2:=zj.2 hy;have hs1:=ze.2 hx;have hs2:=ze.2 hy;have HV1:=Hq hv1;have HV2:=Hq hv2;obtain⟨s,hs⟩:=nm (nS x);obtain⟨t,ht⟩:=nm (nS y);rw[hs]at hs1 HV1⊢;rw[ht]at hs2 HV2⊢;have HS:=Hq hs;have HT:=Hq ht;have HX:=Hq (show (nS x).size≤1000 from by rw[hs];omega);have HY:=Hq (show (nS y).size≤1000 from by rw[ht];omega);clear hv1 hv2 hs ht hx hy;obtain⟨m,hm⟩:∃ m:Nat,max (s.size:Int) (t.size:Int)=(m:Int):=⟨max s.size t.size,by omega⟩;have hm1:m≤128:=by omega
 have hmx:x<256 ^ m:=ze.1 (by rw[HS.out];omega);have hmy:y<256 ^ m:=ze.1 (by rw[HT.out];omega);have hxy:x+y<256 ^ (m+1):=by rw[Nat.pow_succ];omega
 have HXY:=Hq hxy;clear hmx hmy hxy;have hmk:=fun(w:World)=>xi (m+1) (by omega) w;simp only[Int.natCast_add,Int.natCast_one]at hmk;go_enter Tryz.func253,Tryz.ntmps253;go_wp2_with fail;refine(zh s (by omega) _).mono ?_;rintro e w1 ⟨rfl,rfl⟩;rw[HV1.out];go_wp2_with fail;refine(zh t (by omega) _).mono ?_;rintro e w1 ⟨rfl,rfl⟩;rw[HV2.out];go_wp2;clear hmk hm;go_loopw [8,27] (fun c i wr=>∃(k q:Nat),k≤m+1∧i=.int .i64 k∧c=.int .i64 q∧q≤1∧(x+y) / 256 ^ k=x / 256 ^ k+y / 256 ^ k+q∧OutB wr w.heap.size (m+1) k (x+y)∧Below w.heap.size w wr) (fun _ i _=>m+1 - (intOf i).toNat);case atStart=>exact⟨0,0,Nat.zero_le _,rfl,rfl,by omega,by simp,OutB.start _ _,(blr).alloc nlr _⟩
 case round =>
  obtain⟨k,q,hk,rfl,rfl,hq,hc,hO,hB⟩:=hrel;have HO:=Hq hO;have HB:=Hq hB;have HC:=Hq hc;clear hO hB hc;by_cases hlt:k<m+1
  · obtain⟨j,hj⟩:∃ j,j+k=m:=⟨m - k,by omega⟩;have hix:(m:Int) - (k:Int)=(j:Int):=by omega
    have hjm:j<m+1:=by omega
    obtain⟨u,hu⟩:=HO.out.cell hjm;have hf:=HO.out.free j;have hs3:=zos HC.out;have hd1:=xk x k;have hd2:=xk y k;obtain⟨d1,hd1e⟩:=nm (dig x k);obtain⟨d2,hd2e⟩:=nm (dig y k);rw[hd1e]at hs3 hd1;rw[hd2e]at hs3 hd2;have HD1:=Hq hd1e;have HD2:=Hq hd2e;have HS3:=Hq hs3;have HJ:=Hq hj;clear hs3 hd1e hd2e hj;go_wp2_with fail;rw[←HS.out];refine(x9 x k HX.out _).mono ?_;rintro e w1 ⟨rfl,rfl⟩;rw[HD1.out,HS.out];go_wp2_with fail;rw[←HT.out];refine(x9 y k HY.out _).mono ?_;rintro e w1 ⟨rfl,rfl⟩;rw[HD2.out,HT.out];go_wp2;refine⟨⟨k+1,(d1+d2+q) / 256,by omega,by go_num,by go_num,by omega,HS3.out.1,?_,HB.out.setCell (p:=⟨w.heap.size,j,none⟩) nlr _⟩,by simp[intOf];omega⟩;have h1:=HO.out.step (k:=j) (by have:=HJ.out;omega);rw[HS3.out.2]at h1;rw[show ((q:Int)+((d1:Int)+(d2:Int)))%256=(((d1+d2+q)%256:Nat):Int)from by omega];exact h1
  · obtain rfl:k=m+1:=by omega
    have hby:=HO.out.bytes (by omega)
    have HBY:=Hq hby
    clear hby
    go_wp2_with fail;refine(qw _ _ _ _ _ HBY.out).mono ?_;rintro e w1 ⟨rfl,rfl⟩;rw[qi HXY.out];go_wp2_with fail;refine(zmj (x+y) (zpk (x+y) (by have:=ze.2 HXY.out;omega)) _).mono ?_;rintro e w1 ⟨rfl,rfl⟩;obtain⟨r1,r2,hr⟩:=zln (x+y);rw[hr];have HR:=Hq hr;clear hr;go_wp2;go_ret2;exact⟨by rw[HR.out];rfl,HB.out⟩
theorem zeb(x y:Nat)(hs1:(nS x).size≤500)(hs2:(nS y).size≤500)(w:World):Calls Tryz.prog 206 #[.string (nS x),.string (nS y)] w (Ret (.string (nS (x+y))) w):=by
 obtain⟨s,hs⟩:=nm (nS x);obtain⟨t,ht⟩:=nm (nS y);rw[hs]at hs1⊢;rw[ht]at hs2⊢;have HS:=Hq hs;have HT:=Hq ht;have HX:=Hq (show (nS x).size≤1000 from by rw[hs];omega);have HY:=Hq (show (nS y).size≤1000 from by rw[ht];omega);clear hs ht;obtain⟨m,hm⟩:∃ m:Nat,max (s.size:Int) (t.size:Int)=(m:Int):=⟨max s.size t.size,by omega⟩;have hm1:m≤500:=by omega
 have hmx:x<256 ^ m:=ze.1 (by rw[HS.out];omega);have hmy:y<256 ^ m:=ze.1 (by rw[HT.out];omega);have hxy:x+y<256 ^ (m+1):=by rw[Nat.pow_succ];omega
 have HXY:=Hq hxy;clear hmx hmy hxy;have hmk:=fun(w:World)=>xi (m+1) (by omega) w;simp only[Int.natCast_add,Int.natCast_one]at hmk;go_enter Tryz.func206,Tryz.ntmps206;go_wp2;clear hmk hm;go_loopw [7,8] (fun c i wr=>∃(k q:Nat),k≤m+1∧i=.int .i64 k∧c=.int .i64 q∧q≤1∧(x+y) / 256 ^ k=x / 256 ^ k+y / 256 ^ k+q∧OutB wr w.heap.size (m+1) k (x+y)∧Below w.heap.size w wr) (fun _ i _=>m+1 - (intOf i).toNat);case atStart=>exact⟨0,0,Nat.zero_le _,rfl,rfl,by omega,by simp,OutB.start _ _,(blr).alloc nlr _⟩
 case round =>
  obtain⟨k,q,hk,rfl,rfl,hq,hc,hO,hB⟩:=hrel;have HO:=Hq hO;have HB:=Hq hB;have HC:=Hq hc;clear hO hB hc;by_cases hlt:k<m+1
  · obtain⟨j,hj⟩:∃ j,j+k=m:=⟨m - k,by omega⟩;have hix:(m:Int) - (k:Int)=(j:Int):=by omega
    have hjm:j<m+1:=by omega
    obtain⟨u,hu⟩:=HO.out.cell hjm;have hf:=HO.out.free j;have hs3:=zos HC.out;have hd1:=xk x k;have hd2:=xk y k;obtain⟨d1,hd1e⟩:=nm (dig x k);obtain⟨d2,hd2e⟩:=nm (dig y k);rw[hd1e]at hs3 hd1;rw[hd2e]at hs3 hd2;have HD1:=Hq hd1e;have HD2:=Hq hd2e;have HS3:=Hq hs3;have HJ:=Hq hj;clear hs3 hd1e hd2e hj;go_wp2_with fail;rw[←HS.out];refine(zfg x k HX.out _).mono ?_;rintro e w1 ⟨rfl,rfl⟩;rw[HD1.out,HS.out];go_wp2_with fail;rw[←HT.out];refine(zfg y k HY.out _).mono ?_;rintro e w1 ⟨rfl,rfl⟩;rw[HD2.out,HT.out];go_wp2;refine⟨⟨k+1,(d1+d2+q) / 256,by omega,by go_num,by go_num,by omega,HS3.out.1,?_,HB.out.setCell (p:=⟨w.heap.size,j,none⟩) nlr _⟩,by simp[intOf];omega⟩;have h1:=HO.out.step (k:=j) (by have:=HJ.out;omega);rw[HS3.out.2]at h1;exact h1
  · obtain rfl:k=m+1:=by omega
    have hby:=HO.out.bytes (by omega)
    have HBY:=Hq hby
    clear hby
    go_wp2_with fail;refine(zbu _ _ _ _ _ HBY.out).mono ?_;rintro e w1 ⟨rfl,rfl⟩;rw[qi HXY.out];go_wp2;go_ret;exact⟨rfl,HB.out⟩
theorem zud(x y:Nat)(hs1:(nS x).size≤500)(hxy:y≤x)(w:World):Calls Tryz.prog 215 #[.string (nS x),.string (nS y)] w (Ret (.string (nS (x - y))) w):=by
 have hle:(nS y).size≤(nS x).size:=by rw[qx,qx];exact zbg hxy
 obtain⟨s,hs⟩:=nm (nS x);obtain⟨t,ht⟩:=nm (nS y);rw[hs]at hs1 hle⊢;rw[ht]at hle⊢;have HS:=Hq hs;have HT:=Hq ht;have HX:=Hq (show (nS x).size≤1000 from by rw[hs];omega);have HY:=Hq (show (nS y).size≤1000 from by rw[ht];omega);clear hs ht;obtain⟨m,hm⟩:∃ m:Nat,s.size=m:=⟨_,rfl⟩;rw[hm]at hs1 hle;have hmx:x<256 ^ m:=ze.1 (by rw[HS.out,hm];exact Nat.le_refl _);have hxy2:x - y<256 ^ m:=by omega
 have HXY:=Hq hxy2;have HLE:=Hq hxy;clear hmx hxy2 hxy;have hmk:=fun(w:World)=>xi m (by omega) w;go_enter Tryz.func215,Tryz.ntmps215;go_wp2;have HM:=Hq hm;clear hmk hm;go_loopw [7,15] (fun c i wr=>∃(k q:Nat),k≤m∧i=.int .i64 k∧c=.int .i64 q∧q≤1∧x / 256 ^ k=y / 256 ^ k+(x - y) / 256 ^ k+q∧OutB wr w.heap.size m k (x - y)∧Below w.heap.size w wr) (fun _ i _=>m - (intOf i).toNat);case atStart=>exact⟨0,0,Nat.zero_le _,rfl,rfl,by omega,by have:=HLE.out;simp;omega,OutB.start _ _,(blr).alloc nlr _⟩
 case round =>
  obtain⟨k,q,hk,rfl,rfl,hq,hc,hO,hB⟩:=hrel;have HO:=Hq hO;have HB:=Hq hB;have HC:=Hq hc;clear hO hB hc;by_cases hlt:k<m
  · obtain⟨j,hj⟩:∃ j,j+k+1=m:=⟨m - k - 1,by omega⟩;have hix:(m:Int) - 1 - (k:Int)=(j:Int):=by omega
    have hjm:j<m:=by omega
    obtain⟨u,hu⟩:=HO.out.cell hjm;have hf:=HO.out.free j;have hs3:=znc HLE.out HC.out hq;have hd1:=xk x k;have hd2:=xk y k;obtain⟨d1,hd1e⟩:=nm (dig x k);obtain⟨d2,hd2e⟩:=nm (dig y k);rw[hd1e]at hs3 hd1;rw[hd2e]at hs3 hd2;have HD1:=Hq hd1e;have HD2:=Hq hd2e;have HS3:=Hq hs3;have HJ:=Hq hj;clear hs3 hd1e hd2e hj;by_cases hneg:d2+q≤d1;all_goals
     go_wp2_with fail;rw[←HS.out];refine(x9 x k HX.out _).mono ?_;rintro e w1 ⟨rfl,rfl⟩;rw[HD1.out,HS.out];go_wp2_with fail;rw[←HT.out];refine(x9 y k HY.out _).mono ?_;rintro e w1 ⟨rfl,rfl⟩;rw[HD2.out,HT.out];go_wp2
    · refine⟨⟨k+1,0,by omega,by go_num,by go_num,by omega,(HS3.out.1 hneg).2,?_,HB.out.setCell (p:=⟨w.heap.size,j,none⟩) nlr _⟩,by simp[intOf];omega⟩;have h1:=HO.out.step (k:=j) (by have:=HJ.out;omega);rw[(HS3.out.1 hneg).1]at h1;have e1:((d1:Int) - (d2:Int) - (q:Int))=((d1 - d2 - q:Nat):Int):=by omega
      first | rw[e1] | (rw[show ((d1:Int) - (d2:Int) - (q:Int))%256=((d1 - d2 - q:Nat):Int)from by omega])
      exact h1
    · refine⟨⟨k+1,1,by omega,by go_num,by go_num,by omega,(HS3.out.2 (by omega)).2,?_,HB.out.setCell (p:=⟨w.heap.size,j,none⟩) nlr _⟩,by simp[intOf];omega⟩;have h1:=HO.out.step (k:=j) (by have:=HJ.out;omega);rw[(HS3.out.2 (by omega)).1]at h1;have e1:((d1:Int) - (d2:Int) - (q:Int)+256)=((d1+256 - d2 - q:Nat):Int):=by omega
      first | rw[e1] | (rw[show ((d1:Int) - (d2:Int) - (q:Int)+256)%256=((d1+256 - d2 - q:Nat):Int)from by omega])
      exact h1
  · obtain rfl:k=m:=by omega
    have hby:=HO.out.bytes (by omega)
    have HBY:=Hq hby
    clear hby
    go_wp2_with fail;refine(qw _ _ _ _ _ HBY.out).mono ?_;rintro e w1 ⟨rfl,rfl⟩;rw[qi HXY.out];go_wp2;go_ret;exact⟨rfl,HB.out⟩
theorem zam(x y:Nat)(hs1:(nS x).size≤500)(hxy:y≤x)(w:World):Calls Tryz.prog 145 #[.string (nS x),.string (nS y)] w (Ret (.string (nS (x - y))) w):=by
 have hle:(nS y).size≤(nS x).size:=by rw[qx,qx];exact zbg hxy
 obtain⟨s,hs⟩:=nm (nS x);obtain⟨t,ht⟩:=nm (nS y);rw[hs]at hs1 hle⊢;rw[ht]at hle⊢;have HS:=Hq hs;have HT:=Hq ht;have HX:=Hq (show (nS x).size≤1000 from by rw[hs];omega);have HY:=Hq (show (nS y).size≤1000 from by rw[ht];omega);clear hs ht;obtain⟨m,hm⟩:∃ m:Nat,s.size=m:=⟨_,rfl⟩;rw[hm]at hs1 hle;have hmx:x<256 ^ m:=ze.1 (by rw[HS.out,hm];exact Nat.le_refl _);have hxy2:x - y<256 ^ m:=by omega
 have HXY:=Hq hxy2;have HLE:=Hq hxy;clear hmx hxy2 hxy;have hmk:=fun(w:World)=>xi m (by omega) w;go_enter Tryz.func145,Tryz.ntmps145;go_wp2;have HM:=Hq hm;clear hmk hm;go_loopw [7,8] (fun c i wr=>∃(k q:Nat),k≤m∧i=.int .i64 k∧c=.int .i64 q∧q≤1∧x / 256 ^ k=y / 256 ^ k+(x - y) / 256 ^ k+q∧OutB wr w.heap.size m k (x - y)∧Below w.heap.size w wr) (fun _ i _=>m - (intOf i).toNat);case atStart=>exact⟨0,0,Nat.zero_le _,rfl,rfl,by omega,by have:=HLE.out;simp;omega,OutB.start _ _,(blr).alloc nlr _⟩
 case round =>
  obtain⟨k,q,hk,rfl,rfl,hq,hc,hO,hB⟩:=hrel;have HO:=Hq hO;have HB:=Hq hB;have HC:=Hq hc;clear hO hB hc;by_cases hlt:k<m
  · obtain⟨j,hj⟩:∃ j,j+k+1=m:=⟨m - k - 1,by omega⟩;have hix:(m:Int) - 1 - (k:Int)=(j:Int):=by omega
    have hjm:j<m:=by omega
    obtain⟨u,hu⟩:=HO.out.cell hjm;have hf:=HO.out.free j;have hs3:=znc HLE.out HC.out hq;have hd1:=xk x k;have hd2:=xk y k;obtain⟨d1,hd1e⟩:=nm (dig x k);obtain⟨d2,hd2e⟩:=nm (dig y k);rw[hd1e]at hs3 hd1;rw[hd2e]at hs3 hd2;have HD1:=Hq hd1e;have HD2:=Hq hd2e;have HS3:=Hq hs3;have HJ:=Hq hj;clear hs3 hd1e hd2e hj;by_cases hneg:d2+q≤d1;all_goals
     go_wp2_with fail;rw[←HS.out];refine(zfg x k HX.out _).mono ?_;rintro e w1 ⟨rfl,rfl⟩;rw[HD1.out,HS.out];go_wp2_with fail;rw[←HT.out];refine(zfg y k HY.out _).mono ?_;rintro e w1 ⟨rfl,rfl⟩;rw[HD2.out,HT.out];go_wp2
    · refine⟨⟨k+1,0,by omega,by go_num,by go_num,by omega,(HS3.out.1 hneg).2,?_,HB.out.setCell (p:=⟨w.heap.size,j,none⟩) nlr _⟩,by simp[intOf];omega⟩;have h1:=HO.out.step (k:=j) (by have:=HJ.out;omega);rw[(HS3.out.1 hneg).1]at h1;have e1:((d1:Int) - (d2:Int) - (q:Int))=((d1 - d2 - q:Nat):Int):=by omega
      first | rw[e1] | (rw[show ((d1:Int) - (d2:Int) - (q:Int))%256=((d1 - d2 - q:Nat):Int)from by omega])
      exact h1
    · refine⟨⟨k+1,1,by omega,by go_num,by go_num,by omega,(HS3.out.2 (by omega)).2,?_,HB.out.setCell (p:=⟨w.heap.size,j,none⟩) nlr _⟩,by simp[intOf];omega⟩;have h1:=HO.out.step (k:=j) (by have:=HJ.out;omega);rw[(HS3.out.2 (by omega)).1]at h1;have e1:((d1:Int) - (d2:Int) - (q:Int)+256)=((d1+256 - d2 - q:Nat):Int):=by omega
      first | rw[e1] | (rw[show ((d1:Int) - (d2:Int) - (q:Int)+256)%256=((d1+256 - d2 - q:Nat):Int)from by omega])
      exact h1
  · obtain rfl:k=m:=by omega
    have hby:=HO.out.bytes (by omega)
    have HBY:=Hq hby
    clear hby
    go_wp2_with fail;refine(zbu _ _ _ _ _ HBY.out).mono ?_;rintro e w1 ⟨rfl,rfl⟩;rw[qi HXY.out];go_wp2;go_ret;exact⟨rfl,HB.out⟩
set_option maxRecDepth 100000
set_option maxHeartbeats 1000000
theorem jl{x y:Nat}(h:y≤x):0≤cmpI x y:=by
 unfold cmpI;rw[if_neg (by omega)];split<;>omega
theorem zk2(x y:Nat)(hx:x<256 ^ 128)(hy:y<256 ^ 128)(h:x<y)(w:World):Calls Tryz.prog 165 #[.string (nS x),.string (nS y)] w (RetQ (.tuple #[.string ⟨#[]⟩,.int .i64 2]) w):=by
 have hs1:=ze.2 hx;have hs2:=ze.2 hy;have HV1:=Hq (zj.2 hx);have HV2:=Hq (zj.2 hy);have HO:=Hq (xl x y);obtain⟨s,hs⟩:=nm (nS x);obtain⟨t,ht⟩:=nm (nS y);rw[hs]at hs1 HV1 HO⊢;rw[ht]at hs2 HV2 HO⊢;have HS:=Hq hs;have HT:=Hq ht;have HX:=Hq hx;have HY:=Hq hy;clear hs ht hx hy;go_enter Tryz.func165,Tryz.ntmps165;go_wp2_with fail;refine(zh s (by omega) _).mono ?_;rintro e w1 ⟨rfl,rfl⟩;rw[HV1.out];go_wp2_with fail;refine(zh t (by omega) _).mono ?_;rintro e w1 ⟨rfl,rfl⟩;rw[HV2.out];go_wp2_with fail;refine(ko s t (by omega) (by omega) _).mono ?_;rintro e w1 ⟨rfl,rfl⟩;rw[HO.out,qh h];go_wp2;go_ret2;exact⟨rfl,rfl⟩
theorem zao(x y:Nat)(hx:x<256 ^ 128)(hy:y<256 ^ 128)(h:y≤x)(w:World):Calls Tryz.prog 165 #[.string (nS x),.string (nS y)] w (Ret (.tuple #[.string (nS (x - y)),.int .i64 0]) w):=by
 have HG:=Hq (jl h);have hs1:=ze.2 hx;have hs2:=ze.2 hy;have HV1:=Hq (zj.2 hx);have HV2:=Hq (zj.2 hy);have HO:=Hq (xl x y);obtain⟨s,hs⟩:=nm (nS x);obtain⟨t,ht⟩:=nm (nS y);rw[hs]at hs1 HV1 HO⊢;rw[ht]at hs2 HV2 HO⊢;have HS:=Hq hs;have HT:=Hq ht;have HX:=Hq hx;have HY:=Hq hy;clear hs ht hx hy;go_enter Tryz.func165,Tryz.ntmps165;go_wp2_with fail;refine(zh s (by omega) _).mono ?_;rintro e w1 ⟨rfl,rfl⟩;rw[HV1.out];go_wp2_with fail;refine(zh t (by omega) _).mono ?_;rintro e w1 ⟨rfl,rfl⟩;rw[HV2.out];go_wp2_with fail;refine(ko s t (by omega) (by omega) _).mono ?_;rintro e w1 ⟨rfl,rfl⟩;rw[HO.out];have hg:=HG.out;obtain⟨c,hc⟩:=nm (cmpI x y);rw[hc]at hg⊢;clear hc HG;go_wp2_with fail;rw[←HS.out,←HT.out];refine(zud x y (by rw[HS.out];omega) h _).mono ?_;rintro e w1 ⟨rfl,hb⟩;have HB:=Hq hb;clear hb;go_wp2;go_ret2;exact⟨rfl,HB.out⟩
/-! Division at numbers below 2^64. -/
theorem zb2(x y:Nat)(hx:x<256 ^ 128)(hy:y<256 ^ 128)(h:x<y)(w:World):Calls Tryz.prog 216 #[.string (nS x),.string (nS y)] w (RetQ (.tuple #[.string (nS (x / y)),.string (nS (x%y))]) w):=by
 rw[Nat.div_eq_of_lt h,Nat.mod_eq_of_lt h,qg];have hs1:=ze.2 hx;have hs2:=ze.2 hy;have HV1:=Hq (zj.2 hx);have HV2:=Hq (zj.2 hy);have HO:=Hq (xl x y);obtain⟨s,hs⟩:=nm (nS x);obtain⟨t,ht⟩:=nm (nS y);rw[hs]at hs1 HV1 HO⊢;rw[ht]at hs2 HV2 HO⊢;have HS:=Hq hs;have HT:=Hq ht;have HX:=Hq hx;have HY:=Hq hy;clear hs ht hx hy;go_enter Tryz.func216,Tryz.ntmps216;go_wp2_with fail;refine(ko s t (by omega) (by omega) _).mono ?_;rintro e w1 ⟨rfl,rfl⟩;rw[HO.out,qh h];go_wp2;go_ret2;exact⟨rfl,rfl⟩
theorem zg4(x y:Nat)(hx8:x<18446744073709551616)(h:y≤x)(h0:0<y)(w:World):Calls Tryz.prog 216 #[.string (nS x),.string (nS y)] w (Ret (.tuple #[.string (nS (x / y)),.string (nS (x%y))]) w):=by
 have hy8:y<18446744073709551616:=by omega
 have HX8:=Hq hx8;have HY8:=Hq hy8;have hz1:=zk hx8;have hz2:=zk hy8;have hq8:x / y<18446744073709551616:=Nat.lt_of_le_of_lt (Nat.div_le_self x y) hx8;have hr8:x%y<18446744073709551616:=Nat.lt_trans (Nat.mod_lt x h0) hy8;have HQ8:=Hq hq8;have HR8:=Hq hr8;have HG:=Hq (jl h);have HO:=Hq (xl x y);have HN1:=Hq (xu x hx8);have HN2:=Hq (xu y hy8);obtain⟨s,hs⟩:=nm (nS x);obtain⟨t,ht⟩:=nm (nS y);rw[hs]at hz1 HO HN1⊢;rw[ht]at hz2 HO HN2⊢;clear hs ht hq8 hr8 hx8 hy8;have hy1:((y:Int)==0)=false:=beq_eq_false_iff_ne.2 (by omega);have hy2:(0:Int)<(y:Int):=by omega
 have hy3:¬ (y=0):=by omega
 have hwq:IntKind.u64.wrap ((x:Int) / (y:Int))=(x:Int) / (y:Int):=js (x / y) HQ8.out;have hwr:IntKind.u64.wrap ((x:Int)%(y:Int))=(x:Int)%(y:Int):=js (x%y) HR8.out;have hsz:¬ (8<(s.size:Int)):=by omega
 go_enter Tryz.func216,Tryz.ntmps216;go_wp2_with fail;refine(ko s t (by omega) (by omega) _).mono ?_;rintro e w1 ⟨rfl,rfl⟩;rw[HO.out];have hg:=HG.out;obtain⟨c,hc⟩:=nm (cmpI x y);rw[hc]at hg⊢;clear hc HG;go_wp2_with fail;refine(HN1.out _).mono ?_;rintro e w1 ⟨rfl,rfl⟩;go_wp2_with fail;refine(HN2.out _).mono ?_;rintro e w1 ⟨rfl,rfl⟩;go_wp2;refine za 10 (Below (w.drew).heap.size (w.drew)) (by kernel_rfl) ?_;refine qPs 0 9 blr ?_;refine qPs 1 8 blr ?_;refine qPs 2 7 blr ?_;refine qPs 4 6 blr ?_;refine qPs 5 5 blr ?_;refine qPs 6 4 blr ?_;refine oO 3 3 ?_;intro K3 hK3;go_wp2_with fail;refine(yz (x / y) HQ8.out _).mono ?_;rintro e w3 ⟨rfl,hb3⟩;have HB3:=Hq hb3;clear hb3;go_wp2;refine hK3 _ _ (by exact HB3.out) ?_;clear hK3;intro hS_6_3;refine oO 7 2 ?_;intro K7 hK7;go_wp2_with fail;refine(yz (x%y) HR8.out _).mono ?_;rintro e w7 ⟨rfl,hb7⟩;have HB7:=Hq hb7;clear hb7;go_wp2;refine hK7 _ _ (by exact Below.trans hS_6_3 (Below.mono HB7.out (Below.size hS_6_3))) ?_;clear hK7;intro hS_6_7;refine oO 8 1 ?_;intro K8 hK8;go_wp2;refine hK8 _ _ (by exact hS_6_7) ?_;clear hK8;intro hS_6_8;refine oO 9 0 ?_;intro K9 hK9;go_wp2;refine hK9 _ _ (by exact hS_6_8) ?_;clear hK9;intro hS_6_9;refine wDn ?_;have HX:=Hq hS_6_9;go_wp2;go_ret2;exact⟨rfl,(blr).drew.trans HX.out⟩
theorem zcd(x y:Nat)(hx:x<18446744073709551616)(hy:y<256 ^ 128)(h0:0<y)(w:World):Calls Tryz.prog 216 #[.string (nS x),.string (nS y)] w (Ret (.tuple #[.string (nS (x / y)),.string (nS (x%y))]) w):=by
 rcases Nat.lt_or_ge x y with h | h
 · exact(zb2 x y (zg hx) hy h w).mono fun e w' ⟨h1,h2⟩=>⟨h1,by rw[←h2];exact Below.refl _ _⟩
 · exact zg4 x y hx h h0 w
theorem zx{n:Nat}(h:0<n):(nS n).toList.isEmpty=false:=j4 (by have:=zbl (n:=n);omega)
theorem zap(x y:Nat)(hx8:x<18446744073709551616)(hy:y<256 ^ 128)(h0:0<y)(w:World):Calls Tryz.prog 166 #[.string (nS x),.string (nS y)] w (Ret (.tuple #[.string (nS (x / y)),.string (nS (x%y)),.int .i64 0]) w):=by
 have hx:=zg hx8;have HD:=Hq (zcd x y hx8 hy h0);have hem:=zx h0;have hs1:=ze.2 hx;have hs2:=ze.2 hy;have HV1:=Hq (zj.2 hx);have HV2:=Hq (zj.2 hy);obtain⟨s,hs⟩:=nm (nS x);obtain⟨t,ht⟩:=nm (nS y);rw[hs]at hs1 HV1 HD⊢;rw[ht]at hs2 HV2 hem HD⊢;clear hs ht hx hy hx8;go_enter Tryz.func166,Tryz.ntmps166;go_wp2_with fail;refine(zh s (by omega) _).mono ?_;rintro e w1 ⟨rfl,rfl⟩;rw[HV1.out];go_wp2_with fail;refine(zh t (by omega) _).mono ?_;rintro e w1 ⟨rfl,rfl⟩;rw[HV2.out];go_wp2_with fail;refine(HD.out _).mono ?_;rintro e w1 ⟨rfl,hb⟩;have HB:=Hq hb;clear hb;go_wp2;go_ret3;exact⟨rfl,HB.out⟩
/-! The reference: numbers of any length, bit by bit; those below 2^64 at once. -/
theorem zg2(x y:Nat)(hx8:x<18446744073709551616)(hy8:y<18446744073709551616)(h0:0<y)(w:World):Calls Tryz.prog 153 #[.string (nS x),.string (nS y)] w (Ret (.tuple #[.string (nS (x / y)),.string (nS (x%y))]) w):=by
 have HX8:=Hq hx8;have HY8:=Hq hy8;have hz1:=zk hx8;have hz2:=zk hy8;have hq8:x / y<18446744073709551616:=Nat.lt_of_le_of_lt (Nat.div_le_self x y) hx8;have hr8:x%y<18446744073709551616:=Nat.lt_trans (Nat.mod_lt x h0) hy8;have HQ8:=Hq hq8;have HR8:=Hq hr8;have HN1:=Hq (zcw x hx8);have HN2:=Hq (zcw y hy8);obtain⟨s,hs⟩:=nm (nS x);obtain⟨t,ht⟩:=nm (nS y);rw[hs]at hz1 HN1⊢;rw[ht]at hz2 HN2⊢;clear hs ht hq8 hr8 hx8 hy8;have hy1:((y:Int)==0)=false:=beq_eq_false_iff_ne.2 (by omega);have hy2:(0:Int)<(y:Int):=by omega
 have hy3:¬ (y=0):=by omega
 have hwq:IntKind.u64.wrap ((x:Int) / (y:Int))=(x:Int) / (y:Int):=js (x / y) HQ8.out;have hwr:IntKind.u64.wrap ((x:Int)%(y:Int))=(x:Int)%(y:Int):=js (x%y) HR8.out;have hsz1:(s.size:Int)≤8:=by omega
 have hsz2:(t.size:Int)≤8:=by omega
 go_enter Tryz.func153,Tryz.ntmps153;go_wp2_with fail;refine(HN1.out _).mono ?_;rintro e w1 ⟨rfl,rfl⟩;go_wp2_with fail;refine(HN2.out _).mono ?_;rintro e w1 ⟨rfl,rfl⟩;go_wp2;refine za 10 (Below (w.drew).heap.size (w.drew)) (by kernel_rfl) ?_;refine qPs 0 9 blr ?_;refine qPs 1 8 blr ?_;refine qPs 2 7 blr ?_;refine qPs 4 6 blr ?_;refine qPs 5 5 blr ?_;refine qPs 6 4 blr ?_;refine oO 3 3 ?_;intro K3 hK3;go_wp2_with fail;refine(zdq (x / y) HQ8.out _).mono ?_;rintro e w3 ⟨rfl,hb3⟩;have HB3:=Hq hb3;clear hb3;go_wp2;refine hK3 _ _ (by exact HB3.out) ?_;clear hK3;intro hS_3_3;refine oO 7 2 ?_;intro K7 hK7;go_wp2_with fail;refine(zdq (x%y) HR8.out _).mono ?_;rintro e w7 ⟨rfl,hb7⟩;have HB7:=Hq hb7;clear hb7;go_wp2;refine hK7 _ _ (by exact Below.trans hS_3_3 (Below.mono HB7.out (Below.size hS_3_3))) ?_;clear hK7;intro hS_3_7;refine oO 8 1 ?_;intro K8 hK8;go_wp2;refine hK8 _ _ (by exact hS_3_7) ?_;clear hK8;intro hS_3_8;refine oO 9 0 ?_;intro K9 hK9;go_wp2;refine hK9 _ _ (by exact hS_3_8) ?_;clear hK9;intro hS_3_9;refine wDn ?_;have HX:=Hq hS_3_9;go_wp2;go_ret2;exact⟨rfl,(blr).drew.trans HX.out⟩
end Go.Proofs.YtppbcopnfankcaaGreat
