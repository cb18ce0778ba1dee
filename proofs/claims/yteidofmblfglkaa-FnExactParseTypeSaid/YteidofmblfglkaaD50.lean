/- The text of a mark. -/
import Derived.Test.YteidofmblfglkaaQe
import Derived.Test.YteidofmblfglkaaC5
set_option linter.unusedVariables false
set_option linter.unusedSimpArgs false
namespace Go.Q
theorem markText_loop(nf:Nat):∀(d m f e:Nat) (out:Str),m<10^d->m<=f->m<=9223372036854775806->out.length+d<=40->l14_ZI nf (d+1+e) (m:Int) out=some (109::mdig f m out):=by
 intro d
 induction d with
 |zero=>
  intro m f e out h hf _ ho
  have hm:m=0:=by simpa using h
  subst hm
  rw[show 0+1+e=e+1 by omega,l14_ZI_eq,br_neg (by simp),gg_pos (by simp only[List.length_cons,List.length_nil];omega)]
  cases f<;>simp[mdig]
 |succ d ih=>
  intro m f e out h hf hb ho
  by_cases hm:m=0
  ·subst hm
   rw[show d+1+1+e=(d+1+e)+1 by omega,l14_ZI_eq,br_neg (by simp),gg_pos (by simp only[List.length_cons,List.length_nil];omega)]
   cases f<;>simp[mdig]
  ·obtain⟨f,rfl⟩:∃f',f=f'+1:=⟨f-1,by omega⟩
   have hd:=dig_wrap m
   have hq:=quo_wrap (n:=m) (by omega)
   have hd':bytesOf [IntKind.u8.wrap (w64 ((48:Int)+w64 (Int.tmod (m:Int) 10)))]=[UInt8.ofNat (48+m % 10)]:=hd
   have hq':w64 (Int.tdiv (m:Int) 10)=((m/10:Nat):Int):=hq
   rw[show d+1+1+e=(d+1+e)+1 by omega,l14_ZI_eq,br_pos (by omega),gg_pos (by decide),hd',gg_pos (by simp only[List.length_cons,List.length_nil];omega),gg_pos (by decide),mark_eq,hq']
   rw[show([UInt8.ofNat (48+m % 10)]:Str)++out=UInt8.ofNat (48+m % 10)::out from rfl]
   rw[ih (m/10) f e _ (by rw[Nat.pow_succ]at h;omega) (by omega) (by omega) (by simp only[List.length_cons];omega)]
   simp only[mdig,if_neg hm]
theorem p_markText(nf:Nat)(k:Int)(hn:30<nf)(hk:k<=9223372036854775806):m_ZI nf k=some (mt k):=by
 rw[m_ZI_eq]
 by_cases h:k<=0
 ·rw[br_pos h,mt,if_pos h]
 ·rw[br_neg h,mark_eq,mt,if_neg h]
  obtain⟨n,rfl⟩:∃n:Nat,k=(n:Int):=⟨k.toNat,by omega⟩
  have:=markText_loop nf 20 n n (nf-21) [] (by omega) (Nat.le_refl _) (by omega) (by simp)
  rw[show 20+1+(nf-21)=nf by omega]at this
  rw[this,Int.toNat_natCast]
end Go.Q
