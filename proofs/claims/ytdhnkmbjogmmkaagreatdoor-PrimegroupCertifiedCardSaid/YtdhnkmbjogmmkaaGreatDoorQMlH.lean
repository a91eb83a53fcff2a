import Derived.Test.YtdhnkmbjogmmkaaGreatDoorQMlG
set_option linter.unusedVariables false
set_option linter.unusedSimpArgs false
namespace Go.Proofs.YtdhnkmbjogmmkaaGreatDoor
open Go.RowKit
structure LwS (w0 wr:World) (BV BU N L:Nat) (v f:Nat→Nat):Prop where
 rV:RowU wr BV N v
 rU:RowU wr BU L f
 lU:∀ p,p<L→f p<bW
 hB:Below w0.heap.size w0 wr
 h1:BV≠BU
 h3:w0.heap.size≤BU
theorem LwS.drew{w0 wr:World}{BV BU N L:Nat}{v f:Nat→Nat}(h:LwS w0 wr BV BU N L v f):LwS w0 wr.drew BV BU N L v f:=
 ⟨h.rV.heap rfl,h.rU.heap rfl,h.lU,h.hB.drew,h.h1,h.h3⟩
theorem LwS.setU{w0 wr:World}{BV BU N L:Nat}{v f:Nat→Nat}(h:LwS w0 wr BV BU N L v f){k x:Nat}(hx:x<bW):LwS w0 (wr.setCell ⟨BU,k,none⟩ (.int .u32 x)) BV BU N L v (upd f k x):=by
 refine⟨h.rV.heap (heap_setCell_other _ _ _ _ h.h1),h.rU.set x,fun p hp=>?_,h.hB.setCell (p:=⟨BU,k,none⟩) h.h3 _,h.h1,h.h3⟩;by_cases e:p=k
 · subst e;rw[upd_at];exact hx
 · rw[upd_off f e];exact h.lU p hp
theorem vW_updj(f:Nat→Nat)(j i x:Nat):vW (fun a=>upd f (j+i) x (j+a)) (i+1)=vW (fun a=>f (j+a)) i+x * bW ^ i:=by
 show vW (fun a=>upd f (j+i) x (j+a)) i+upd f (j+i) x (j+i) * bW ^ i=_;rw[upd_at,vW_congr (fun a ha=>upd_off f (show ¬ (j+a=j+i)by omega))]
structure MsW (n:Nat) (v:Nat→Nat) (q j:Nat) (f f':Nat→Nat) (i b:Nat):Prop where
 hi:i≤n
 hb:b<bW
 off:∀ p,(p<j∨j+i≤p)→f' p=f p
 eq:vW (fun a=>f' (j+a)) i+q * vW v i=vW (fun a=>f (j+a)) i+b * bW ^ i
theorem MsW.start{n:Nat}{v:Nat→Nat}{q j:Nat}(f:Nat→Nat):MsW n v q j f f 0 0:=⟨Nat.zero_le _,by decide,fun _ _=>rfl,by simp[vW]⟩
theorem MsW.next{n:Nat}{v:Nat→Nat}{q j:Nat}{f f':Nat→Nat}{i b:Nat}(h:MsW n v q j f f' i b)(hin:i<n)(hq:q<bW)(hv:∀ a,a<n→v a<bW)(hf':∀ a,a<i→f' (j+a)<bW){r b2:Nat}(hr:r<bW)(he:r+q * v i+b=f (j+i)+bW * b2) :
 MsW n v q j f (upd f' (j+i) r) (i+1) b2:=by
 have h3:=msW_step he h.eq;have e1:vW (fun a=>upd f' (j+i) r (j+a)) (i+1)+q * vW v (i+1)=vW (fun a=>f (j+a)) (i+1)+b2 * bW ^ (i+1):=(by rw[vW_updj,Nat.pow_succ,Nat.mul_comm (bW ^ i) bW];exact h3);refine⟨hin,?_,fun p hp=>?_,e1⟩
 · have h4:vW (fun a=>upd f' (j+i) r (j+a)) (i+1)<bW ^ (i+1):=vW_lt fun a ha=>by
    show upd f' (j+i) r (j+a)<bW;by_cases e:a=i
    · subst e;rw[upd_at];exact hr
    · rw[upd_off f' (by omega)];exact hf' a (by omega)
   have h5:vW v (i+1)<bW ^ (i+1):=vW_lt fun a ha=>hv a (by omega);have h6:q * vW v (i+1)≤(bW - 1) * bW ^ (i+1):=Nat.mul_le_mul (by omega) (Nat.le_of_lt h5);have h7:(bW - 1) * bW ^ (i+1)+bW ^ (i+1)=bW * bW ^ (i+1):=by
    have : (bW - 1+1) * bW ^ (i+1)=bW * bW ^ (i+1):=by rw[show bW - 1+1=bW from rfl]
    rw[Nat.add_mul,Nat.one_mul]at this;exact this
   have h8:b2 * bW ^ (i+1)<bW * bW ^ (i+1):=by omega
   exact Nat.lt_of_mul_lt_mul_right h8
 · rw[upd_off f' (by omega)];exact h.off p (by omega)
theorem ms_machine{x b pl ph:Nat}(hx:x<bW)(hb:b<bW)(hp:pl<bW)(hph:ph+1<bW):∃(r b2:Nat),r<bW∧((x:Int) - b - pl)%4294967296=(r:Int)∧(ph:Int) - ((x:Int) - b - pl) / 4294967296=(b2:Int)∧r+(ph * bW+pl)+b=x+bW * b2:=by
 unfold bW at *;refine⟨(x+8589934592 - b - pl)%4294967296,ph+2 - (x+8589934592 - b - pl) / 4294967296,by omega,by omega,by omega,by omega⟩
structure AbW (n:Nat) (v:Nat→Nat) (j:Nat) (f f':Nat→Nat) (i c:Nat):Prop where
 hi:i≤n
 hc:c≤1
 off:∀ p,(p<j∨j+i≤p)→f' p=f p
 eq:vW (fun a=>f' (j+a)) i+c * bW ^ i=vW (fun a=>f (j+a)) i+vW v i
theorem AbW.start{n:Nat}{v:Nat→Nat}{j:Nat}(f:Nat→Nat):AbW n v j f f 0 0:=⟨Nat.zero_le _,by decide,fun _ _=>rfl,by simp[vW]⟩
theorem AbW.next{n:Nat}{v:Nat→Nat}{j:Nat}{f f':Nat→Nat}{i c x:Nat}(h:AbW n v j f f' i c)(hin:i<n)(hf:f (j+i)<bW)(hv:v i<bW)(hx:x=c+(f (j+i)+v i)):AbW n v j f (upd f' (j+i) (x%bW)) (i+1) (x / bW):=by
 have h1:=h.hc;refine⟨hin,by unfold bW at *;omega,fun p hp=>?_,?_⟩
 · rw[upd_off f' (by omega)];exact h.off p (by omega)
 · have h3:=abW_step hx h.eq;rw[vW_updj,Nat.pow_succ,Nat.mul_comm (bW ^ i) bW];exact h3
theorem ms_last{n:Nat}{v:Nat→Nat}{q j:Nat}{f f':Nat→Nat}{b U D:Nat}(h:MsW n v q j f f' n b)(hf':∀ a,a<n→f' (j+a)<bW)(hU:vW (fun a=>f (j+a)) (n+1)=U)(hDv:vW v n=D)(hD:0<D)(hDn:D<bW ^ n)(hq:U / D≤q)(hq2:q≤U / D+1) :
 (b=f (j+n)∧vW (fun a=>f' (j+a)) n=U%D)∨(b=f (j+n)+1∧vW (fun a=>f' (j+a)) n+D=U%D+bW ^ n):=by
 have h1:=h.eq;rw[hDv]at h1;have h2:U=vW (fun a=>f (j+a)) n+f (j+n) * bW ^ n:=hU.symm;have h3:vW (fun a=>f' (j+a)) n<bW ^ n:=vW_lt hf';have h4:=Nat.mod_lt U hD;have h5:=Nat.div_add_mod U D;rw[Nat.mul_comm]at h5;have hP:0<bW ^ n:=bW_pos n;generalize vW (fun a=>f' (j+a)) n=V at *;generalize vW (fun a=>f (j+a)) n=W at *;generalize f (j+n)=u0 at *;generalize U%D=R at *;generalize U / D=Q at *;generalize bW ^ n=P at *;rcases Nat.eq_or_lt_of_le hq with e | e
 · left;subst e;have e1:V+u0 * P=R+b * P:=by omega
   have e2:(V+u0 * P) / P=u0:=by rw[Nat.add_mul_div_right _ _ hP,Nat.div_eq_of_lt h3,Nat.zero_add]
   have e3:(R+b * P) / P=b:=by rw[Nat.add_mul_div_right _ _ hP,Nat.div_eq_of_lt (by omega),Nat.zero_add]
   rw[e1,e3]at e2;subst e2;exact⟨rfl,by omega⟩
 · right;have e0:q=Q+1:=by omega
   subst e0;rw[Nat.add_mul,Nat.one_mul]at h1;have e1:V+D+u0 * P=R+b * P:=by omega
   rcases Nat.lt_or_ge u0 b with hl | hl
   · obtain⟨e,rfl⟩:∃ e,b=u0+e:=⟨b - u0,by omega⟩;rw[Nat.add_mul]at e1
     match e,hl with
     | 0,hl=>omega
     | 1,_=>exact⟨rfl,by omega⟩
     | k+2,_ =>
      rw[Nat.add_mul]at e1;omega
   · have : b * P≤u0 * P:=Nat.mul_le_mul_right _ hl;omega
theorem ab_last{n:Nat}{v:Nat→Nat}{j:Nat}{f f':Nat→Nat}{c D R:Nat}(h:AbW n v j f f' n c)(hf':∀ a,a<n→f' (j+a)<bW)(hDv:vW v n=D)(hR:R<bW ^ n)(h0:vW (fun a=>f (j+a)) n+D=R+bW ^ n):c=1∧vW (fun a=>f' (j+a)) n=R:=by
 have h1:=h.eq;rw[hDv,h0]at h1;have h3:vW (fun a=>f' (j+a)) n<bW ^ n:=vW_lt hf';have hc:=h.hc
 match c,hc with
 | 0,_=>omega
 | 1,_=>exact⟨rfl,by omega⟩
theorem win_done{f':Nat→Nat}{j n R:Nat}(h:vW (fun a=>f' (j+a)) n=R):vW (fun a=>upd f' (j+n) 0 (j+a)) (n+1)=R:=by rw[vW_updj,h,Nat.zero_mul,Nat.add_zero]
end Go.Proofs.YtdhnkmbjogmmkaaGreatDoor
