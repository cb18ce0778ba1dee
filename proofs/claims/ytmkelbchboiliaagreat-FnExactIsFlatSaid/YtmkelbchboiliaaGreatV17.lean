/- Normal queries: both sides find the same ones right. -/
import Derived.Test.YtmkelbchboiliaaGreatV15
import Derived.Test.YtmkelbchboiliaaGreatB26
set_option linter.unusedVariables false
set_option linter.unusedSimpArgs false
set_option maxHeartbeats 2000000
namespace Go.Q
def Agree(x y:Option Bool):Prop:=∃b,x=some b∧y=some b
def bo:Option Bool->Bool
 |some b=>b
 |none=>false
theorem base_is{t:Ty}(hv:nVal t=true)(h3:t.kind≠3)(h4:t.kind≠4)(h5:nHas 5 t=false):∃k,(k=1∨k=2)∧t=Ty.mk k [] []:=by
 have hf:=val_form hv
 have ha:=form_base hf h3 h4 h5
 rw[nForm_eq,if_neg h3]at hf
 simp only[Bool.and_eq_true,decide_eq_true_eq]at hf
 obtain⟨_,_,hl,hw⟩:=hf
 cases t with
 |mk k ls us=>
  simp only[Ty.args_mk,Ty.labels_mk,Ty.kind_mk]at*
  subst ha
  have hl2:ls=[]:=List.eq_nil_of_length_eq_zero hl
  subst hl2
  refine⟨k,?_,rfl⟩
  unfold want at hw
  by_cases hk:k=1∨k=2
  ·exact hk
  ·rw[if_neg hk,if_neg h4]at hw
   simp only[List.length_nil]at hw
   split at hw<;>omega
theorem agree_all(L1 L2:Nat->Int->Option Bool)(n nf:Nat)(ok:Nat->Bool)(b:Bool)
  (s1:∀m i,i<n->L1 (m+1) (i:Int)=if ok i=true then L1 m ((i+1:Nat):Int)else some false) (e1:∀m i,n<=i->L1 (m+1) (i:Int)=some true)
  (s2:∀m i,i<n->L2 (m+1) (i:Int)=if ok i=true then L2 m ((i+1:Nat):Int)else some false) (e2:∀m i,n<=i->L2 (m+1) (i:Int)=some b) (h:n<nf):
  L1 nf (0:Int)=some (allF ok 0 n)∧L2 nf (0:Int)=some (allF ok 0 n&&b):=by
 have a:=for_all L1 n ok (some true) (some false) 0 (fun m i _ hi=>s1 m i hi) e1 nf (by omega) (by omega)
 have c:=for_all L2 n ok (some b) (some false) 0 (fun m i _ hi=>s2 m i hi) e2 nf (by omega) (by omega)
 have e0:((0:Nat):Int)=(0:Int):=rfl
 rw[e0,show n-0=n by omega]at a c
 rw[a,c]
 cases allF ok 0 n<;>exact⟨rfl,rfl⟩
end Go.Q
