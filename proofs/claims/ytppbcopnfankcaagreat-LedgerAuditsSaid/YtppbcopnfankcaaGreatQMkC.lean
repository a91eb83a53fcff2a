import Derived.Test.YtppbcopnfankcaaGreatQLsB
import Derived.Test.YtppbcopnfankcaaGreatQScT
set_option linter.unusedVariables false
set_option linter.unusedSimpArgs false
namespace Go.Proofs.YtppbcopnfankcaaGreat
set_option maxRecDepth 100000
set_option maxHeartbeats 4000000
open Go.RowKit Go.Lib
def ckH(M O G Y:ByteArray)(n:Int)(r a b:ByteArray):Int:=if n<0∨4096<n then 2 else if r.size≠32 then 3 else veK M O G Y a b (hdS n.toNat r)
def KHd(w W:World)(M O G Y:ByteArray)(n:Int)(r a b:ByteArray):Prop:=
 Bx4 W w.heap.size (.string M) (.string O) (.string G) (.string Y) 29∧Bx4 W (w.heap.size+1) (.int .i64 n) (.string r) (.string a) (.string b) 35∧Below w.heap.size w W
theorem KHd.new(w:World)(M O G Y:ByteArray)(n:Int)(r a b:ByteArray):KHd w ((w.alloc (.cells #[.string M,.string O,.string G,.string Y] 29)).alloc (.cells #[.int .i64 n,.string r,.string a,.string b] 35)) M O G Y n r a b:=by
 have h:=Bx4.new (w.alloc (.cells #[.string M,.string O,.string G,.string Y] 29)) (.int .i64 n) (.string r) (.string a) (.string b) 35;rw[World.size_alloc]at h;exact⟨(Bx4.new w _ _ _ _ _).next ((blr).alloc nlr _),h,((blr).alloc nlr _).alloc (by simp) _⟩
theorem KHd.next{w W W':World}{M O G Y:ByteArray}{n:Int}{r a b:ByteArray}(h:KHd w W M O G Y n r a b)(hb:Below W.heap.size W W'):KHd w W' M O G Y n r a b:=⟨h.1.next hb,h.2.1.next hb,h.2.2.trans (hb.mono h.2.2.size)⟩
theorem zwa{n:Nat}{r:ByteArray}(hn:n≤100000)(hr:r.size≤100):(hdS n r).size≤1000000:=zny n r
theorem zjf(M O G Y r a b:ByteArray)(n:Int)(hM:M.size≤8)(hO:O.size≤100)(hG:G.size≤1000)(hY:Y.size≤1000)(ha:a.size≤1000)(hbz:b.size≤1000)(hr:r.size≤100)(w:World) :
 Calls Tryz.prog 21 #[kV M O G Y,.agg #[.int .i64 n,.string r,.string a,.string b]] w (Ret (.int .i64 (ckH M O G Y n r a b)) w):=by
 have hx0:=KHd.new w M O G Y n r a b;obtain⟨W0,hW0⟩:=nm (((w.alloc (.cells #[.string M,.string O,.string G,.string Y] 29)).alloc (.cells #[.int .i64 n,.string r,.string a,.string b] 35)));rw[hW0]at hx0;have HX0:=Hq hx0;obtain⟨c0,c1,c2,c3⟩:=hx0.1.cells;obtain⟨d0,d1,d2,d3⟩:=hx0.2.1.cells;clear hx0;by_cases h0:n<0
 · have HR:=Hq (show ckH M O G Y n r a b=2 from by unfold ckH;rw[if_pos (Or.inl h0)]);unfold kV at *;go_enter Tryz.func21,Tryz.ntmps21;go_wp2;go_ret;exact⟨by rw[HR.out];rfl,by first | exact HX0.out.2.2 | (rw[←hW0]at HX0;exact HX0.out.2.2)⟩
 · by_cases h1:n > 4096
   · have HR:=Hq (show ckH M O G Y n r a b=2 from by unfold ckH;rw[if_pos (Or.inr h1)]);have h1:4096<n:=h1;unfold kV at *;go_enter Tryz.func21,Tryz.ntmps21;go_wp2;go_ret;exact⟨by rw[HR.out];rfl,by first | exact HX0.out.2.2 | (rw[←hW0]at HX0;exact HX0.out.2.2)⟩
   · have h1:¬ 4096<n:=h1;by_cases h2:r.size=32
     · have HR:=Hq (show ckH M O G Y n r a b=veK M O G Y a b (hdS n.toNat r)from by unfold ckH;rw[if_neg (by omega),if_neg (by omega)]);obtain⟨k,rfl⟩:∃ k:Nat,n=k:=⟨n.toNat,by omega⟩;rw[Int.toNat_natCast]at HR;have h3:((r.size:Int) != 32)=false:=by rw[h2];rfl
       have HH:=Hq (zpp k r a b (by omega) hr);have HV:=Hq (zke M O G Y a b (hdS k r) hM hO hG hY ha hbz (zwa (by omega) hr));unfold kV at *;clear h2 hr;go_enter Tryz.func21,Tryz.ntmps21;go_wp2_with fail;try rw[hW0]
       clear hW0;refine(HH.out _).mono ?_;rintro ev w1 ⟨rfl,hb⟩;have HX1:=Hq (HX0.out.next hb);clear hb c0 c1 c2 c3 d0 d1 d2 d3;obtain⟨c0,c1,c2,c3⟩:=HX1.out.1.cells;obtain⟨d0,d1,d2,d3⟩:=HX1.out.2.1.cells;go_wp2_with fail;refine(HV.out _).mono ?_;rintro ev w2 ⟨rfl,hb⟩;have HX2:=Hq (HX1.out.next hb);clear hb c0 c1 c2 c3 d0 d1 d2 d3;go_wp2;go_ret;exact⟨by rw[HR.out];rfl,HX2.out.2.2⟩
     · have HR:=Hq (show ckH M O G Y n r a b=3 from by unfold ckH;rw[if_neg (by omega),if_pos h2]);have h3:((r.size:Int) != 32)=true:=by rw[bne_iff_ne];omega
       unfold kV at *;go_enter Tryz.func21,Tryz.ntmps21;go_wp2;go_ret;exact⟨by rw[HR.out];rfl,by first | exact HX0.out.2.2 | (rw[←hW0]at HX0;exact HX0.out.2.2)⟩
set_option maxRecDepth 100000
open Go.RowKit
theorem SlN.takeK{w:World}{A:Option Addr}{n c:Nat}{l:List ByteArray}(h:SlN w A n c l)(k:Nat)(hk:k≤n):SlN w A k c (l.take k):=by
 obtain⟨h1,h2,h3,b,o,h4,h5⟩:=h;refine⟨by rw[List.length_take];omega,by omega,h3,b,o,fun h=>h4 (by omega),fun j s hj=>?_⟩;rw[List.getElem?_take]at hj;split at hj
 · exact h5 j s hj
 · cases hj
theorem SlN.dropK{w:World}{b o n c:Nat}{l:List ByteArray}(h:SlN w (some ⟨b,o,none⟩) n c l)(k:Nat)(hk:k<n):SlN w (some ⟨b,o+k,none⟩) (n - k) (c - k) (l.drop k):=by
 obtain⟨h1,h2,h3,b',o',h4,h5⟩:=h;have:=h4 (by omega);simp only[Option.some.injEq,Addr.mk.injEq,and_true]at this;obtain⟨rfl,rfl⟩:=this;refine⟨by rw[List.length_drop];omega,by omega,by omega,b,o+k,fun _=>rfl,fun j s hj=>?_⟩;rw[List.getElem?_drop]at hj;have:=h5 (k+j) s hj;rw[show o+(k+j)=o+k+j from by omega]at this;exact this
theorem zlh(s:ByteArray):((⟨#[0]⟩:ByteArray)++s).data.toList=0::s.data.toList:=by simp[ByteArray.data_append]
theorem zk0(a b:ByteArray):((⟨#[1]⟩:ByteArray)++a++b).data.toList=1::(a.data.toList++b.data.toList):=by simp[ByteArray.data_append]
theorem zyu(s:ByteArray)(hs:s.size≤100000000)(w:World):Calls Tryz.prog 44 #[.string s] w (Ret (.string (zpu s)) w):=by
 have HS:=Hq (zp0 (⟨#[0]⟩++s) (by rw[ByteArray.size_append];have : (⟨#[0]⟩:ByteArray).size=1:=rfl;omega) w);rw[zlh]at HS;go_enter Tryz.func44,Tryz.ntmps44;go_wp2_with fail;refine HS.out.mono ?_;rintro e w1 ⟨rfl,hb⟩;have HB:=Hq hb;clear hb;go_wp2;go_ret;exact⟨rfl,HB.out⟩
theorem zt1(s:ByteArray)(hs:s.size≤100000000)(w:World):Calls Tryz.prog 55 #[.string s] w (Ret (.string (zpu s)) w):=by
 have HS:=Hq (zfe (⟨#[0]⟩++s) (by rw[ByteArray.size_append];have : (⟨#[0]⟩:ByteArray).size=1:=rfl;omega) w);rw[zlh]at HS;go_enter Tryz.func55,Tryz.ntmps55;go_wp2_with fail;refine HS.out.mono ?_;rintro e w1 ⟨rfl,hb⟩;have HB:=Hq hb;clear hb;go_wp2;go_ret;exact⟨rfl,HB.out⟩
theorem zyt(a b:ByteArray)(ha:a.size≤100000000)(hb:b.size≤100000000)(w:World):Calls Tryz.prog 46 #[.string a,.string b] w (Ret (.string (zpj a b)) w):=by
 have HS:=Hq (zp0 (⟨#[1]⟩++a++b) (by rw[ByteArray.size_append,ByteArray.size_append];have : (⟨#[1]⟩:ByteArray).size=1:=rfl;omega) w);rw[zk0]at HS;go_enter Tryz.func46,Tryz.ntmps46;go_wp2_with fail;refine HS.out.mono ?_;rintro e w1 ⟨rfl,hb⟩;have HB:=Hq hb;clear hb;go_wp2;go_ret;exact⟨rfl,HB.out⟩
theorem zt0(a b:ByteArray)(ha:a.size≤100000000)(hb:b.size≤100000000)(w:World):Calls Tryz.prog 57 #[.string a,.string b] w (Ret (.string (zpj a b)) w):=by
 have HS:=Hq (zfe (⟨#[1]⟩++a++b) (by rw[ByteArray.size_append,ByteArray.size_append];have : (⟨#[1]⟩:ByteArray).size=1:=rfl;omega) w);rw[zk0]at HS;go_enter Tryz.func57,Tryz.ntmps57;go_wp2_with fail;refine HS.out.mono ?_;rintro e w1 ⟨rfl,hb⟩;have HB:=Hq hb;clear hb;go_wp2;go_ret;exact⟨rfl,HB.out⟩
set_option maxRecDepth 100000
set_option maxHeartbeats 1000000
theorem zrh{a:Nat}(h:2 ^ a<1000001):a<62:=by
 rcases Nat.lt_or_ge a 62 with c | c
 · exact c
 · have:=Nat.pow_le_pow_right (n:=2) (by omega) c;omega
theorem zyv(n:Nat)(h2:2≤n)(hn:n≤1000000)(w:World):Calls Tryz.prog 45 #[.int .i64 n] w (RetQ (.int .i64 (zah n)) w):=by
 go_enter Tryz.func45,Tryz.ntmps45;go_wp2
 go_loop [3,4] (fun k i=>∃ j p:Nat,p=2 ^ j∧p<n∧j<62∧k=.int .i64 p∧i=.int .i64 j) (fun k _=>n - (RowKit.intOf k).toNat)
 case atStart=>exact⟨0,1,rfl,by omega,by omega,rfl,rfl⟩
 case round =>
  obtain⟨j,p,hp,hlt,hj,rfl,rfl⟩:=hrel;have HP:=Hq hp;have hp0:1≤p:=by rw[hp];exact Nat.one_le_two_pow
  clear hp;by_cases hc:n≤2 * p
  · have HH:=Hq (show zah n=p from by rw[HP.out]at hlt hc⊢;exact znz hlt hc);have hc':(n:Int) - p≤p:=by omega
    go_wp2;go_ret;exact⟨by rw[HH.out];rfl,rfl⟩
  · have hc':¬ ((n:Int) - p≤p):=by omega
    have HN:=Hq (show p * 2=2 ^ (j+1)from by rw[HP.out,Nat.pow_succ]);have hj2:j+1<62:=zrh (by rw[←HN.out];omega);go_wp2;go_round;case rel=>exact⟨j+1,p * 2,HN.out,by omega,hj2,by go_num,by go_num⟩
    case measure=>simp[RowKit.intOf];omega
theorem zt2(n:Nat)(h2:2≤n)(hn:n≤1000000)(w:World):Calls Tryz.prog 56 #[.int .i64 n] w (RetQ (.int .i64 (zah n)) w):=by
 go_enter Tryz.func56,Tryz.ntmps56;go_wp2
 go_loop [3] (fun k=>∃ j p:Nat,p=2 ^ j∧p<n∧k=.int .i64 p) (fun k=>n - (RowKit.intOf k).toNat)
 case atStart=>exact⟨0,1,rfl,by omega,rfl⟩
 case round =>
  obtain⟨j,p,hp,hlt,rfl⟩:=hrel;have HP:=Hq hp;have hp0:1≤p:=by rw[hp];exact Nat.one_le_two_pow
  clear hp;by_cases hc:n≤2 * p
  · have HH:=Hq (show zah n=p from by rw[HP.out]at hlt hc⊢;exact znz hlt hc);have hc':¬ (2 * (p:Int)<n):=by omega
    go_wp2;go_ret;exact⟨by rw[HH.out];rfl,rfl⟩
  · have hc':2 * (p:Int)<n:=by omega
    have HN:=Hq (show 2 * p=2 ^ (j+1)from by rw[HP.out,Nat.pow_succ,Nat.mul_comm]);go_wp2;go_round;case rel=>exact⟨j+1,2 * p,HN.out,by omega,by go_num⟩
    case measure=>simp[RowKit.intOf];omega
end Go.Proofs.YtppbcopnfankcaaGreat
