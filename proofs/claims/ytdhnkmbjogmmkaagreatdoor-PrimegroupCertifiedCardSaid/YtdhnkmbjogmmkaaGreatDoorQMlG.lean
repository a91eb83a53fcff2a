import Derived.Test.YtdhnkmbjogmmkaaGreatDoorQMlB
set_option linter.unusedVariables false
set_option linter.unusedSimpArgs false
namespace Go.Proofs.YtdhnkmbjogmmkaaGreatDoor
set_option maxRecDepth 100000
set_option maxHeartbeats 4000000
open Go.RowKit
def zw(n:Nat):Array Value:=madeCells #[.int .u32 0] n
theorem zw_size(n:Nat):(zw n).size=n:=size_madeCells _ _
theorem u32_info:(Tryz.prog.info? 130).map (fun i=>(i.zero,i.size,i.bytes))=some (some (.int .u32 0),1,4):=by kernel_rfl
theorem make_u32s(n:Nat)(hn:n≤1000000)(w:World):(Instr.makeSlice 108 (.int .i64 n) (.int .i64 n)).run Tryz.prog w=.ok (.slice (some ⟨w.heap.size,0,none⟩) n n) (w.alloc (.cells (zw n) 130)):=by
 obtain⟨i0,hi,hz0,hz1,hz2⟩:=info_parts u32_info;have h:=run_make (P:=Tryz.prog) w 108 130 i0 (.int .u32 0) Tryz.underlying108 hi hz0 .i64 .i64 (n:Int) (n:Int) (by omega) (Int.le_refl _) (by rw[hz2];omega) (by omega);rw[h,hz1,Int.toNat_natCast,Nat.mul_one];rfl
theorem zw_get{n j:Nat}(h:j<n):(zw n)[j]? =some (.int .u32 0):=by
 unfold zw;rw[←Array.getElem?_toList,toList_madeCells_one,List.getElem?_replicate,if_pos h]
theorem RowU.start{w:World}(n:Nat):RowU (w.alloc (.cells (zw n) 130)) w.heap.size n (fun _=>0):=⟨_,heap_alloc_new _ _,zw_size n,fun j h=>zw_get h⟩
def RetU(v n:Nat)(w:World)(e:Ending)(w':World):Prop:=∃ h,e=.returned (.slice (some ⟨w.heap.size,0,none⟩) n n)∧RowU w' w.heap.size n h∧(∀ i,i<n→h i<bW)∧vW h n=v∧Below w.heap.size w w'
structure PdI (w wr:World) (n1 n2:Nat) (f g:Nat→Nat) (k:Nat) (h:Nat→Nat):Prop where
 row:RowU wr w.heap.size (n1+n2) h
 lt:∀ i,i<n1+n2→h i<bW
 v:vW h (k+n2)=vW f k * vW g n2
 z:∀ i,k+n2≤i→i<n1+n2→h i=0
 b:Below w.heap.size w wr
structure PdJ (w wr:World) (n1 n2:Nat) (f g:Nat→Nat) (k:Nat) (h0:Nat→Nat) (j:Nat) (h:Nat→Nat) (c:Nat):Prop where
 row:RowU wr w.heap.size (n1+n2) h
 lt:∀ i,i<n1+n2→h i<bW
 cb:c<bW
 off:∀ i,i<k∨k+j≤i→h i=h0 i
 v:vW h (k+j)+c * bW ^ (k+j)=vW h0 (k+j)+f k * vW g j * bW ^ k
 b:Below w.heap.size w wr
theorem PdI.start{w:World}(n1 n2:Nat)(f g:Nat→Nat):PdI w (w.alloc (.cells (zw (n1+n2)) 130)) n1 n2 f g 0 (fun _=>0):=
 ⟨RowU.start _,fun i _=>by decide,by rw[vW_zero (fun _ _=>rfl)];simp[vW],fun _ _ _=>rfl,(blr).alloc nlr _⟩
theorem PdI.inner{w wr:World}{n1 n2:Nat}{f g:Nat→Nat}{k:Nat}{h:Nat→Nat}(H:PdI w wr n1 n2 f g k h):PdJ w wr n1 n2 f g k h 0 h 0:=
 ⟨H.row,H.lt,by decide,fun _ _=>rfl,by simp[vW],H.b⟩
theorem PdJ.next{w wr:World}{n1 n2:Nat}{f g:Nat→Nat}{k:Nat}{h0:Nat→Nat}{j:Nat}{h:Nat→Nat}{c:Nat}(H:PdJ w wr n1 n2 f g k h0 j h c)(hk:k<n1)(hj:j<n2)(hf:f k<bW)(hg:g j<bW){t:Nat}(ht:t=f k * g j+h (k+j)+c) :
 PdJ w (wr.setCell ⟨w.heap.size,k+j,none⟩ (.int .u32 ((t%bW:Nat):Int))) n1 n2 f g k h0 (j+1) (upd h (k+j) (t%bW)) (t / bW):=by
 refine⟨H.row.set _,fun i hi=>?_,?_,fun i hi=>?_,?_,H.b.setCell (p:=⟨w.heap.size,k+j,none⟩) nlr _⟩
 · by_cases e:i=k+j
   · subst e;rw[upd_at];exact Nat.mod_lt _ (by decide)
   · rw[upd_off h e];exact H.lt i hi
 · have:=pr_fit hf hg (H.lt (k+j) (by omega)) H.cb;rw[←ht]at this;rw[Nat.div_lt_iff_lt_mul (by decide)];exact this
 · rw[upd_off h (show ¬ i=k+j by omega)];exact H.off i (by omega)
 · have e1:vW (upd h (k+j) (t%bW)) (k+(j+1))=vW h (k+j)+t%bW * bW ^ (k+j):=(by show vW _ (k+j)+upd h (k+j) (t%bW) (k+j) * bW ^ (k+j)=_;rw[upd_at,vW_upd_off nlr]);have e2:vW h0 (k+(j+1))=vW h0 (k+j)+h (k+j) * bW ^ (k+j):=by rw[H.off (k+j) (by omega)];rfl
   have e3:bW ^ (k+(j+1))=bW * bW ^ (k+j):=by rw[←Nat.add_assoc,Nat.pow_succ,Nat.mul_comm]
   have e4:vW g (j+1)=vW g j+g j * bW ^ j:=rfl;rw[e1,e2,e3,e4,pr_step (V:=vW h (k+j)) (W:=0) (P:=bW ^ (k+j)) ht];have h1:=H.v;have e5:f k * (g j * bW ^ (k+j))=f k * (g j * bW ^ j) * bW ^ k:=by rw[Nat.pow_add,Nat.mul_comm (bW ^ k),Nat.mul_assoc (f k),Nat.mul_assoc (g j)]
   rw[e5,Nat.mul_add,Nat.add_mul];omega
theorem PdJ.done{w wr:World}{n1 n2:Nat}{f g:Nat→Nat}{k:Nat}{h0 h:Nat→Nat}{c:Nat}(H0:PdI w wr n1 n2 f g k h0){wx:World}(H:PdJ w wx n1 n2 f g k h0 n2 h c)(hk:k<n1) :
 PdI w (wx.setCell ⟨w.heap.size,k+n2,none⟩ (.int .u32 (c:Int))) n1 n2 f g (k+1) (upd h (k+n2) c):=by
 refine⟨H.row.set _,fun i hi=>?_,?_,fun i h1 h2=>?_,H.b.setCell (p:=⟨w.heap.size,k+n2,none⟩) nlr _⟩
 · by_cases e:i=k+n2
   · subst e;rw[upd_at];exact H.cb
   · rw[upd_off h e];exact H.lt i hi
 · rw[show k+1+n2=k+n2+1 from by omega];show vW _ (k+n2)+upd h (k+n2) c (k+n2) * bW ^ (k+n2)=_;rw[upd_at,vW_upd_off nlr,H.v,H0.v];show _=(vW f k+f k * bW ^ k) * vW g n2;rw[Nat.add_mul,Nat.mul_right_comm]
 · rw[upd_off h (show ¬ i=k+n2 by omega),H.off i (by omega)];exact H0.z i (by omega) h2
theorem mod_product(A1:Option Addr)(n1 c1:Nat)(f:Nat→Nat)(A2:Option Addr)(n2 c2:Nat)(g:Nat→Nat)(w:World)(h1:SlU w A1 n1 c1 f)(h2:SlU w A2 n2 c2 g)(hn:n1+n2≤10000) :
 Calls Tryz.prog 78 #[.slice A1 n1 c1,.slice A2 n2 c2] w (RetU (vW f n1 * vW g n2) (n1+n2) w):=by
 have H1:=Hq h1;have H2:=Hq h2;have hc1:=h1.1;have hc2:=h1.2.1;have hc3:=h2.1;have hc4:=h2.2.1;have hmk:=fun(w:World)=>make_u32s (n1+n2) (by omega) w;simp only[Int.natCast_add]at hmk;clear h1 h2;go_enter Tryz.func78,Tryz.ntmps78;go_wp2;clear hmk;go_loopw [20] (fun i wr=>∃(k:Nat) (h:Nat→Nat),k≤n1∧i=.int .i64 k∧PdI w wr n1 n2 f g k h) (fun i _=>n1 - (intOf i).toNat);case atStart=>exact⟨0,_,Nat.zero_le _,rfl,PdI.start n1 n2 f g⟩
 case round =>
  obtain⟨k,h,hk,rfl,hP⟩:=hrel;have HP:=Hq hP;clear hP;by_cases hlt:k<n1
  · obtain⟨b,o,rfl,hx⟩:=(H1.out.kept HP.out.b nlr).cell hlt;have HF:=Hq (H1.out.2.2.1 k hlt);obtain⟨x,hxe⟩:∃ x,f k=x:=⟨_,rfl⟩;rw[hxe]at hx;have HXE:=Hq hxe;have hxl:x<bW:=by rw[←hxe];exact HF.out
    clear hxe;go_wp2;go_loopw [8,27] (fun c i wx=>∃(j cn:Nat) (h':Nat→Nat),j≤n2∧c=.int .u64 cn∧i=.int .i64 j∧PdJ w wx n1 n2 f g k h j h' cn) (fun _ i _=>n2 - (intOf i).toNat);case atStart=>exact⟨0,0,h,Nat.zero_le _,rfl,rfl,HP.out.inner⟩
    case round =>
     obtain⟨j,cn,h',hj,rfl,rfl,hQ⟩:=hrel;have HQ:=Hq hQ;clear hQ;by_cases hlt2:j<n2
     · obtain⟨b2,o2,rfl,hy⟩:=(H2.out.kept HQ.out.b nlr).cell hlt2;have HG:=Hq (H2.out.2.2.1 j hlt2);obtain⟨y,hye⟩:∃ y,g j=y:=⟨_,rfl⟩;rw[hye]at hy;have HYE:=Hq hye;have hyl:y<bW:=by rw[←hye];exact HG.out
       have ho:=HQ.out.row.cell (show k+j<n1+n2 by omega);have hfr:=HQ.out.row.free (k+j);have HOL:=Hq (HQ.out.lt (k+j) (by omega));obtain⟨z,hze⟩:∃ z,h' (k+j)=z:=⟨_,rfl⟩;rw[hze]at ho;have HZE:=Hq hze;have hcl:=HQ.out.cb;have hft:=pr_fit hxl hyl (show z<bW by rw[←hze];exact HOL.out) hcl;have hzl:z<bW:=by rw[←hze];exact HOL.out
       obtain⟨p,hp⟩:∃ p,x * y=p:=⟨_,rfl⟩;have hpi:(x:Int) * (y:Int)=(p:Int):=by rw[←hp];simp
       rw[hp]at hft;have HPE:=Hq hp;clear hye hze hp;unfold bW at hxl hyl hzl hcl;go_wp2;have e:((p:Int)+(z:Int)+(cn:Int))%4294967296=(((p+z+cn)%bW:Nat):Int):=by unfold bW;omega
       rw[e];refine⟨⟨j+1,(p+z+cn) / bW,_,by omega,congrArg (Value.int .u64) (by unfold bW;omega),by go_num,HQ.out.next hlt hlt2 HF.out HG.out (t:=p+z+cn) (by rw[HXE.out,HYE.out,HZE.out,HPE.out])⟩,by simp[intOf];omega⟩
     · obtain rfl:j=n2:=by omega
       have hfr:=HQ.out.row.free (k+j);have ho:=HQ.out.row.cell (show k+j<n1+j by omega);have hcl:=HQ.out.cb;unfold bW at hcl;clear hlt2;go_wp2;exact⟨⟨k+1,_,by omega,by go_num,PdJ.done HP.out HQ.out hlt⟩,by simp[intOf];omega⟩
  · obtain rfl:k=n1:=by omega
    clear hlt;go_wp2;go_ret;exact⟨h,by simp,HP.out.row,HP.out.lt,HP.out.v,HP.out.b⟩
set_option maxRecDepth 100000
set_option maxHeartbeats 4000000
theorem u32_32(n:Int)(h1:0≤n)(h2:n<2 ^ 32):IntKind.u32.wrap n=n:=by rw[IntKind.wrap_u32];omega
theorem u32_or_join{s H l:Nat}(hH:H%2 ^ s=0)(hl:l<2 ^ s)(h1:H<bW)(h2:l<bW):bits .or .u32 (H:Int) (l:Int)=((H+l:Nat):Int):=by
 rw[(bits_nat .u32 32 (by decide) u32_32 H l h1 h2).2,nat_join s H l hH hl]
theorem u32_or_join'{s H l:Nat}(hH:H%2 ^ s=0)(hl:l<2 ^ s)(h1:H<bW)(h2:l<bW):bits .or .u32 (l:Int) (H:Int)=((l+H:Nat):Int):=by
 rw[(bits_nat .u32 32 (by decide) u32_32 l H h2 h1).2,Nat.or_comm,nat_join s H l hH hl,Nat.add_comm]
structure ShI (w wr:World) (n s:Nat) (f:Nat→Nat) (k:Nat) (h:Nat→Nat):Prop where
 row:RowU wr w.heap.size (n+1) h
 lt:∀ i,i<n+1→h i<bW
 v:vW h (k+1)=vW f k * 2 ^ s
 t:h k<2 ^ s
 z:∀ i,k<i→h i=0
 b:Below w.heap.size w wr
theorem ShI.start{w:World}(n s:Nat)(f:Nat→Nat):ShI w (w.alloc (.cells (zw (n+1)) 130)) n s f 0 (fun _=>0):=
 ⟨RowU.start _,fun i _=>by decide,by simp[vW],Nat.pow_pos (by decide),fun _ _=>rfl,(blr).alloc nlr _⟩
theorem ShI.next{w wr:World}{n s:Nat}{f:Nat→Nat}{k:Nat}{h:Nat→Nat}(H:ShI w wr n s f k h)(hk:k<n)(hs:s≤31)(hf:f k<bW){a:Nat}(ha:a=h k+f k * 2 ^ s%bW) :
 ShI w ((wr.setCell ⟨w.heap.size,k,none⟩ (.int .u32 (a:Int))).setCell ⟨w.heap.size,k+1,none⟩ (.int .u32 ((f k * 2 ^ s / bW:Nat):Int))) n s f (k+1) (upd (upd h k a) (k+1) (f k * 2 ^ s / bW)):=by
 have hal:a<bW:=by rw[ha];exact sh_fit hs H.t (Nat.mod_lt _ (by decide)) (sh_low hs)
 have hh:=sh_high hf hs;refine⟨(H.row.set a).set _,fun i hi=>?_,?_,by rw[upd_at];exact hh,fun i hi=>?_,(H.b.setCell (p:=⟨w.heap.size,k,none⟩) nlr _).setCell (p:=⟨w.heap.size,k+1,none⟩) nlr _⟩
 · by_cases e:i=k+1
   · subst e;rw[upd_at];exact Nat.lt_of_lt_of_le hh (Nat.le_trans (Nat.pow_le_pow_right (by decide) hs) (by decide))
   · rw[upd_off _ e];by_cases e:i=k
     · subst e;rw[upd_at];exact hal
     · rw[upd_off _ e];exact H.lt i hi
 · have e1:vW (upd (upd h k a) (k+1) (f k * 2 ^ s / bW)) (k+1+1)=vW h k+a * bW ^ k+f k * 2 ^ s / bW * bW ^ (k+1):=(by show (vW _ k+upd (upd h k a) (k+1) _ k * bW ^ k)+upd (upd h k a) (k+1) (f k * 2 ^ s / bW) (k+1) * bW ^ (k+1)=_;rw[upd_at,upd_off (upd h k a) (show ¬ k=k+1 by omega),upd_at,vW_congr (g:=h) (fun i hi=>by rw[upd_off _ (show ¬ i=k+1 by omega),upd_off _ (show ¬ i=k by omega)])]);have h1:vW h k+h k * bW ^ k=vW f k * 2 ^ s:=H.v;have e2:vW f (k+1) * 2 ^ s=vW f k * 2 ^ s+f k * 2 ^ s * bW ^ k:=(by show (vW f k+f k * bW ^ k) * 2 ^ s=_;rw[Nat.add_mul,Nat.mul_right_comm]);have e3:f k * 2 ^ s * bW ^ k=f k * 2 ^ s%bW * bW ^ k+f k * 2 ^ s / bW * bW ^ (k+1):=(by have hd:=Nat.div_add_mod (f k * 2 ^ s) bW;rw[Nat.pow_succ,Nat.mul_comm (bW ^ k) bW,←Nat.mul_assoc,←Nat.add_mul];congr 1;rw[Nat.mul_comm _ bW];omega);rw[e1,e2,←h1,e3,ha,Nat.add_mul];omega
 · rw[upd_off _ (show ¬ i=k+1 by omega),upd_off _ (show ¬ i=k by omega)];exact H.z i (by omega)
theorem mod_shifted(A:Option Addr)(n c:Nat)(f:Nat→Nat)(s:Nat)(w:World)(h1:SlU w A n c f)(hn:n≤10000)(hs:s≤31) :
 Calls Tryz.prog 110 #[.slice A n c,.int .i64 s] w (RetU (vW f n * 2 ^ s) (n+1) w):=by
 have H1:=Hq h1;have hc1:=h1.1;have hc2:=h1.2.1;have hmk:=fun(w:World)=>make_u32s (n+1) (by omega) w;simp only[Int.natCast_add,Int.natCast_one]at hmk;clear h1;go_enter Tryz.func110,Tryz.ntmps110;go_wp2;clear hmk;go_loopw [15] (fun i wr=>∃(k:Nat) (h:Nat→Nat),k≤n∧i=.int .i64 k∧ShI w wr n s f k h) (fun i _=>n - (intOf i).toNat);case atStart=>exact⟨0,_,Nat.zero_le _,rfl,ShI.start n s f⟩
 case round =>
  obtain⟨k,h,hk,rfl,hP⟩:=hrel;have HP:=Hq hP;clear hP;by_cases hlt:k<n
  · obtain⟨b,o,rfl,hx⟩:=(H1.out.kept HP.out.b nlr).cell hlt;have hxl:=H1.out.2.2.1 k hlt;have HF:=Hq hxl;have ho:=HP.out.row.cell (show k<n+1 by omega);have hfr:=HP.out.row.free k;have ho2:=(HP.out.row.set (k:=k) (h k+f k * 2 ^ s%bW)).cell (show k+1<n+1 by omega);have hfr2:=(HP.out.row.set (k:=k) (h k+f k * 2 ^ s%bW)).free (k+1);have hor:=u32_or_join' (s:=s) (sh_low hs) HP.out.t (Nat.mod_lt _ (by decide)) (HP.out.lt k (by omega)) (H:=f k * 2 ^ s%bW) (l:=h k);have hp2:f k * 2 ^ s<18446744073709551616:=(by have h2:2 ^ s≤2 ^ 31:=Nat.pow_le_pow_right (by decide) hs;have h3:=Nat.mul_le_mul_left (f k) h2;unfold bW at hxl;omega);have hwr:IntKind.u64.wrap ((f k:Int) * 2 ^ s)=((f k * 2 ^ s:Nat):Int):=(by rw[IntKind.wrap_u64,show (f k:Int) * 2 ^ s=((f k * 2 ^ s:Nat):Int)from by simp];omega);obtain⟨x,hxe⟩:∃ x,f k=x:=⟨_,rfl⟩;rw[hxe]at hx hxl ho2 hfr2 hor hp2 hwr;obtain⟨t,hte⟩:∃ t,x * 2 ^ s=t:=⟨_,rfl⟩;rw[hte]at ho2 hfr2 hor hp2 hwr;obtain⟨lo,hlo⟩:∃ u,t%bW=u:=⟨_,rfl⟩;rw[hlo]at ho2 hfr2 hor;have hli:(t:Int)%4294967296=(lo:Int):=by rw[←hlo];unfold bW;omega
    have hll:lo<bW:=by rw[←hlo];exact Nat.mod_lt _ (by decide)
    have HXE:=Hq hxe;have HTE:=Hq hte;have HLO:=Hq hlo;have ho3:(wr.setCell ⟨w.heap.size,k,none⟩ (.int .u32 ((h k:Int)+(lo:Int)))).cell? ⟨w.heap.size,k+1,none⟩=some _:=ho2;have hfr3:(wr.setCell ⟨w.heap.size,k,none⟩ (.int .u32 ((h k:Int)+(lo:Int)))).frozen? ⟨w.heap.size,k+1,none⟩=false:=hfr2;unfold bW at hxl hll;clear hxe hte hlo ho2 hfr2;go_wp2;have hnx:=HP.out.next hlt hs HF.out rfl;rw[HXE.out,HTE.out,HLO.out]at hnx;rw[show (t:Int) / 4294967296=((t / bW:Nat):Int)from by unfold bW;omega];exact⟨⟨k+1,_,by omega,by go_num,hnx⟩,by simp[intOf];omega⟩
  · obtain rfl:k=n:=by omega
    clear hlt;go_wp2;go_ret;exact⟨h,by simp,HP.out.row,HP.out.lt,HP.out.v,HP.out.b⟩
structure DvT (U D P dl ul v1 v2 u2 top:Nat):Prop where
 hD:D=dl+(v1 * bW+v2) * P
 hdl:dl<P
 hU:U=ul+(top * bW+u2) * P
 hul:ul<P
 hUD:U<bW * D
 h1:0<v1
 l1:v1<bW
 l2:v2<bW
 lu:u2<bW
theorem DvT.pos{U D P dl ul v1 v2 u2 top:Nat}(h:DvT U D P dl ul v1 v2 u2 top):0<D:=by
 have:=h.hUD;rcases Nat.eq_zero_or_pos D with e | e
 · rw[e]at this;omega
 · exact e
theorem DvT.quo{U D P dl ul v1 v2 u2 top:Nat}(h:DvT U D P dl ul v1 v2 u2 top):U / D<bW:=by
 rw[Nat.div_lt_iff_lt_mul h.pos];exact h.hUD
theorem DvT.key{U D P dl ul v1 v2 u2 top:Nat}(h:DvT U D P dl ul v1 v2 u2 top):U / D * (v1 * bW+v2)≤top * bW+u2:=by
 have h1:=Nat.div_mul_le_self U D;have hP:0<P:=by have:=h.hdl;omega
 generalize U / D=Q at *;have h2:Q * (v1 * bW+v2) * P<(top * bW+u2+1) * P:=by
  have e:Q * D=Q * dl+Q * (v1 * bW+v2) * P:=by rw[h.hD,Nat.mul_add,Nat.mul_assoc]
  have h3:=h.hU;have h4:=h.hul;rw[Nat.add_mul];omega
 have:=Nat.lt_of_mul_lt_mul_right h2;omega
theorem DvT.start{U D P dl ul v1 v2 u2 top:Nat}(h:DvT U D P dl ul v1 v2 u2 top):U / D≤top / v1:=by
 rw[Nat.le_div_iff_mul_le h.h1];have h1:=h.key;have h2:=h.lu;rw[Nat.mul_add,←Nat.mul_assoc]at h1;have h3:U / D * v1 * bW<(top+1) * bW:=by rw[Nat.add_mul];omega
 have:=Nat.lt_of_mul_lt_mul_right h3;omega
theorem DvT.downA{U D P dl ul v1 v2 u2 top:Nat}(h:DvT U D P dl ul v1 v2 u2 top){q:Nat}(hq:bW≤q):U / D≤q - 1:=by have:=h.quo;omega
theorem DvT.downB{U D P dl ul v1 v2 u2 top:Nat}(h:DvT U D P dl ul v1 v2 u2 top){q r:Nat}(hq:q * v1+r=top)(hl:r * bW+u2<q * v2):U / D≤q - 1:=by
 have h1:=h.key;have e:top * bW+u2<q * (v1 * bW+v2):=(by rw[←hq,Nat.add_mul,Nat.mul_add,Nat.mul_assoc];omega);have h2:U / D * (v1 * bW+v2)<q * (v1 * bW+v2):=by omega
 have:=Nat.lt_of_mul_lt_mul_right h2;omega
theorem DvT.close{U D P dl ul v1 v2 u2 top:Nat}(h:DvT U D P dl ul v1 v2 u2 top){q:Nat}(hb:q<bW)(hq:q * (v1 * bW+v2)≤top * bW+u2):q≤U / D+1:=by
 have hP:0<P:=by have:=h.hdl;omega
 rcases Nat.lt_or_ge (U / D+1) q with hc | hc
 · have hD:=h.pos;have h1:U<(U / D+1) * D:=by rw[Nat.add_mul,Nat.one_mul];exact Nat.lt_div_mul_add hD
   have h2:(U / D+2) * D≤q * D:=Nat.mul_le_mul_right _ hc;rw[show U / D+2=U / D+1+1 from rfl,Nat.add_mul _ 1,Nat.one_mul]at h2;have e:q * D=q * dl+q * (v1 * bW+v2) * P:=by rw[h.hD,Nat.mul_add,Nat.mul_assoc]
   have h3:q * (v1 * bW+v2) * P≤(top * bW+u2) * P:=Nat.mul_le_mul_right _ hq;have h4:q * dl≤bW * P:=Nat.mul_le_mul (Nat.le_of_lt hb) (Nat.le_of_lt h.hdl);have h5:bW * P≤D:=(by rw[h.hD,Nat.add_mul];have : 1 * bW * P≤v1 * bW * P:=Nat.mul_le_mul_right _ (Nat.mul_le_mul_right _ h.h1);rw[Nat.one_mul]at this;omega);have h6:=h.hU;omega
 · exact hc
theorem DvT.stop{U D P dl ul v1 v2 u2 top:Nat}(h:DvT U D P dl ul v1 v2 u2 top){q r:Nat}(hq:q * v1+r=top)(hl:q * v2≤r * bW+u2):q * (v1 * bW+v2)≤top * bW+u2:=by
 rw[←hq,Nat.add_mul,Nat.mul_add,Nat.mul_assoc];omega
theorem DvT.brk{U D P dl ul v1 v2 u2 top:Nat}(h:DvT U D P dl ul v1 v2 u2 top)(ht:top<bW * v1+bW){q r:Nat}(hq:q * v1+r=top)(hr:bW≤r):q<bW∧q * v2≤r * bW+u2:=by
 have h1:q * v1<bW * v1:=by omega
 have h2:=Nat.lt_of_mul_lt_mul_right h1;refine⟨h2,?_⟩;have h3:q * v2≤bW * bW:=Nat.mul_le_mul (Nat.le_of_lt h2) (Nat.le_of_lt h.l2);have h4:bW * bW≤r * bW:=Nat.mul_le_mul_right _ hr;omega
theorem msW_step{x q d r b b2 P V1 V2 V3:Nat}(h:r+q * d+b=x+bW * b2)(ih:V1+q * V2=V3+b * P):(V1+r * P)+q * (V2+d * P)=(V3+x * P)+b2 * (bW * P):=by
 have e:r * P+q * d * P+b * P=x * P+bW * b2 * P:=by rw[←Nat.add_mul,←Nat.add_mul,h,Nat.add_mul]
 rw[Nat.mul_add,←Nat.mul_assoc,Nat.mul_comm b2,Nat.mul_right_comm bW P b2];omega
theorem abW_step{x d r c P V1 V2 V3:Nat}(h:x=c+(r+d))(ih:V1+c * P=V3+V2):(V1+x%bW * P)+x / bW * (bW * P)=(V3+r * P)+(V2+d * P):=by
 have h2:x%bW+bW * (x / bW)=c+(r+d):=by rw[←h];exact Nat.mod_add_div x bW
 have e:x%bW * P+x / bW * (bW * P)=c * P+(r * P+d * P):=(by rw[←Nat.mul_assoc,←Nat.add_mul,Nat.mul_comm (x / bW),h2,Nat.add_mul,Nat.add_mul]);omega
theorem ldW_round{f f':Nat→Nat}{A D n j L:Nat}(hf:∀ i,i<L→f i<bW)(hL:j+n<L)(hD:0<D)(hDn:D<bW ^ n)(hV:vW f L=A%(D * bW ^ (j+1)))(hlo:∀ k,k<j→f' k=f k)(hhi:∀ k,j+n<k→f' k=f k)
 (hw:vW (fun i=>f' (j+i)) (n+1)=vW (fun i=>f (j+i)) (n+1)%D):vW f' L=A%(D * bW ^ j):=by
 obtain⟨k,rfl⟩:∃ k,L=j+((n+1)+k):=⟨L - j - n - 1,by omega⟩;have hPj:0<bW ^ j:=Nat.pow_pos (by decide);have hlt:vW f (j+((n+1)+k))<bW ^ (j+(n+1)):=(by rw[hV];have h1:A%(D * bW ^ (j+1))<D * bW ^ (j+1):=Nat.mod_lt _ (Nat.mul_pos hD (Nat.pow_pos (by decide)));have h2:D * bW ^ (j+1)≤bW ^ n * bW ^ (j+1):=Nat.mul_le_mul_right _ (Nat.le_of_lt hDn);rw[←Nat.pow_add]at h2;rw[show j+(n+1)=n+(j+1)from by omega];omega);have hup:vW (fun i=>f (j+((n+1)+i))) k=0:=(by have h1:=vW_div (f:=f) (j:=j+(n+1)) (k:=k) (fun i hi=>hf i (by omega));rw[Nat.add_assoc,Nat.div_eq_of_lt hlt]at h1;rw[h1];exact vW_congr (fun i _=>congrArg f (by omega)));have hup':vW (fun i=>f' (j+((n+1)+i))) k=0:=by rw[←hup];exact vW_congr (fun i _=>hhi _ (by omega))
 have e1:vW f' (j+((n+1)+k))=vW f j+bW ^ j * (vW (fun i=>f (j+i)) (n+1)%D):=(by rw[vW_split,vW_split,hup',Nat.mul_zero,Nat.add_zero,hw,vW_congr hlo]);have e2:vW f (j+((n+1)+k))=vW f j+bW ^ j * vW (fun i=>f (j+i)) (n+1):=(by rw[vW_split,vW_split (fun i=>f (j+i)),hup,Nat.mul_zero,Nat.add_zero]);have hl:vW f j<bW ^ j:=vW_lt (fun i hi=>hf i (by omega));rw[e1];have e3:A%(D * bW ^ j)=(A%(D * bW ^ (j+1)))%(D * bW ^ j):=(by rw[Nat.pow_succ,←Nat.mul_assoc,Nat.mod_mul_right_mod]);rw[e3,←hV,e2];generalize vW (fun i=>f (j+i)) (n+1)=U;rw[Nat.mul_comm D,Nat.mod_mul,Nat.add_mul_mod_self_left,Nat.mod_eq_of_lt hl,Nat.add_mul_div_left _ _ hPj,Nat.div_eq_of_lt hl,Nat.zero_add]
theorem ldW_top{f:Nat→Nat}{A D n j L:Nat}(hf:∀ i,i<L→f i<bW)(hL:j+n<L)(hD:0<D)(hV:vW f L=A%(D * bW ^ (j+1))):vW (fun i=>f (j+i)) (n+1)<bW * D:=by
 obtain⟨k,rfl⟩:∃ k,L=j+((n+1)+k):=⟨L - j - n - 1,by omega⟩;have h1:A%(D * bW ^ (j+1))<D * bW ^ (j+1):=Nat.mod_lt _ (Nat.mul_pos hD (Nat.pow_pos (by decide)));have e:D * bW ^ (j+1)=bW ^ j * (bW * D):=by rw[Nat.pow_succ,Nat.mul_comm D,Nat.mul_assoc]
 rw[←hV,vW_split,vW_split (fun i=>f (j+i)),e]at h1;have h2:bW ^ j * vW (fun i=>f (j+i)) (n+1)<bW ^ j * (bW * D):=by
  have : bW ^ j * vW (fun i=>f (j+i)) (n+1)≤bW ^ j * (vW (fun i=>f (j+i)) (n+1)+bW ^ (n+1) * vW (fun i=>f (j+(n+1+i))) k):=Nat.mul_le_mul_left _ (Nat.le_add_right _ _);omega
 exact Nat.lt_of_mul_lt_mul_left h2
theorem DvT.of{u v:Nat→Nat}{m:Nat}(hu:∀ i,i<m+3→u i<bW)(hv:∀ i,i<m+2→v i<bW)(h1:0<v (m+1))(h:vW u (m+3)<bW * vW v (m+2)) :
 DvT (vW u (m+3)) (vW v (m+2)) (bW ^ m) (vW v m) (vW u m) (v (m+1)) (v m) (u m) (u (m+2) * bW+u (m+1)):=by
 refine⟨?_,vW_lt fun i hi=>hv i (by omega),?_,vW_lt fun i hi=>hu i (by omega),h,h1,hv _ (by omega),hv _ (by omega),hu _ (by omega)⟩
 · show vW v m+v m * bW ^ m+v (m+1) * bW ^ (m+1)=_;rw[Nat.pow_succ,Nat.add_mul,Nat.mul_comm (bW ^ m) bW,←Nat.mul_assoc];omega
 · show vW u m+u m * bW ^ m+u (m+1) * bW ^ (m+1)+u (m+2) * bW ^ (m+2)=_;rw[show bW ^ (m+2)=bW * bW * bW ^ m from by rw[Nat.pow_add,Nat.mul_comm,Nat.pow_two],show bW ^ (m+1)=bW * bW ^ m from by rw[Nat.pow_succ,Nat.mul_comm],Nat.add_mul (_ * bW),Nat.add_mul (u (m+2) * bW) _ bW,Nat.add_mul,←Nat.mul_assoc,←Nat.mul_assoc,←Nat.mul_assoc];omega
theorem DvT.top{u v:Nat→Nat}{m:Nat}(hu:∀ i,i<m+3→u i<bW)(hv:∀ i,i<m+2→v i<bW)(h:vW u (m+3)<bW * vW v (m+2)):u (m+2) * bW+u (m+1)<bW * v (m+1)+bW:=by
 have h1:vW v (m+2)<(v (m+1)+1) * bW ^ (m+1):=(by have:=vW_lt (f:=v) (n:=m+1) (fun i hi=>hv i (by omega));show vW v (m+1)+v (m+1) * bW ^ (m+1)<_;rw[Nat.add_mul];omega);have h2:u (m+2) * bW ^ (m+2)≤vW u (m+3):=Nat.le_add_left _ _;have h3:u (m+2) * bW ^ (m+2)<(v (m+1)+1) * bW ^ (m+2):=(by have h4:=Nat.mul_lt_mul_of_pos_left h1 (show 0<bW by decide);rw[show bW * ((v (m+1)+1) * bW ^ (m+1))=(v (m+1)+1) * bW ^ (m+2)from by rw[Nat.pow_succ bW (m+1),Nat.mul_left_comm,Nat.mul_comm bW]]at h4;omega);have h5:=Nat.lt_of_mul_lt_mul_right h3;have h6:=hu (m+1) (by omega);have h7:u (m+2) * bW≤v (m+1) * bW:=Nat.mul_le_mul_right _ (by omega);rw[Nat.mul_comm bW];omega
end Go.Proofs.YtdhnkmbjogmmkaaGreatDoor
