import PyProof.Rows.All
import Wide.All
import OpenK.AllK
import Wide.FinOn
import HandS.ForMost
import HandS.Wide
import KE.KStateDown
import Lean
import HandS.Head0
import HandS.Head1
import HandS.Head2
import HandS.HeadEnd
import HandS.HeadHook1
import HandS.HeadHook2
import PySem.Challenge.RW_ladderdays_k47_looks_fewest_and_next
import PyProof.EqAt
import PyProof.EqKinds
import PyProof.TupleKey
import HandS.Dict
import HandS.SetBool
import HandS.Conv
import HandS.SetFor
import KE.KeyNested
import HandS.Exc
import HandS.ExcIs
import HandS.ExcField
import HandS.Lambda
import HandS.SortInts
import HandS.WideBits
import HandS.IsInst
import HandS.TupAny
import HandS.Style
import HandS.Defaults
import PyProof.ReprLen
import HandS.Iter
import HandS.DictComp
import KE.KDictZip
import HandS.Set
import HandS.Strs
import PyProof.Rows.SetFrom
import PyProof.Rows.SortShellAny
import HandS.TryOnly
import HandS.Star
import HandS.Text
import HandS.Deep
import PyProof.SliceStr2
import KE.KRevSl
import HandS.Codes
import HandS.List
import HandS.TupLen
import HandS.DictTup
import KE.KDictDisplayH
import KE.LtSeq
import HandS.TupMul
import HandS.Zip
import KE.KExcSuper
import HandS.ExcOwn
import HandS.WordsExc
import PyProof.EvalArms
import KE.DataMinMax
import HandS.SortKw
import PyProof.Rows.ChunkLeaf
import HandS.Property
import KE.SortData
import HandS.MakeKwOnly
import HandS.More
import HandS.Words
open List renaming mem_cons_self→Kaa,mem_cons_of_mem→Kab,mem_append_left→Kac,length_cons→Kad,mem_singleton→Kae,map→Kaf,length_map→Kag,mem_cons→Kah,map_cons→Kai,replicate→Kak,nodup_append→Kal,mem_append→Kam,length_append→Kan,mem_append_right→Kao,foldl→Kaq,mem_of_getElem?→Kar,mem_map→Kas,getElem?_eq_getElem→Kau,flatten_cons→Kav,mem_flatten→Kaw,map_congr_left→Kax,map_append→Kaz,mem_map_of_mem→KaA,range→KaC,foldl_cons→KaD,append_nil→KaE,length_singleton→KaF,pairwise_cons→KaG,length_pos_iff→KaH,set_set→KaI,filter_cons_of_pos→KaJ,map_map→KaL,nodup_nil→KaO,nodup_cons→KaP,append_assoc→KaR,filter→KaS,filter_cons_of_neg→KaT,replicate_succ→KaW,not_mem_nil→KaX,getElem?_map→KaY,nil_append→Ka1,Sublist→Ka2,all_cons→Ka3,length_filter_le→Ka5,pairwise_append→Ka6,zip→Ka9,mem_filter→Kbb,length_take→Kbd,drop_eq_getElem_cons→Kbg,length_nil→Kbh,length_drop→Kbk,getElem?_cons_succ→Kbl,range_succ→Kbo,take_of_length_le→Kbp,drop_length→Kbr,all_eq_true→Kbs,mem_flatMap→Kbu,reverse→Kbw,eq_nil_or_concat→Kbx,sublist_append_right→Kby,size_toArray→Kbz,flatMap_cons→KbA,length_range→KbB,pairwise_map→KbC,map_inj_left→KbD,getElem?_range→KbF,mem_range→KbG,range_succ_eq_map→KbH,append_eq_nil_iff→KbI,all_map→KbL,concat_eq_append→KbO,Pairwise→KbQ,getD_eq_getElem?_getD→KbR,pairwise_iff_getElem→KbS,filter_eq_self→KbT,filter_sublist→KbU,pairwise_lt_range→KbY,filter_eq_nil_iff→KbZ,reverse_cons→Kb0,foldl_append→Kb2,all→Kb3,map_nil→Kb4,getElem?_eq_none→Kb5,getElem_map→Kb9,any_cons→Kcd,find?_cons→Kce,length→Kcg,length_zip→Kcj,getElem?_append_right→Kcm,flatMap→Kcn,set_cons_zero→Kco,set_cons_succ→Kcp,zip_cons_cons→Kcq,count→Kcs,length_eq_zero_iff→KcC,append_cancel_left→KcD,cons_append→KcE,mem_reverse→KcF,drop_eq_nil_of_le→KcG,sublist_cons_self→KcH,length_pos_of_mem→KcI,count_cons→KcJ,all_append→KcL,getD→KcN,filter_map→KcP,getElem?_set_ne→KcS,takeWhile→KcU,flatten_append→KcV,map_id→KcW,flatMap_append→KcY,takeWhile_cons→KcZ,map_eq_nil_iff→Kc0,length_flatMap→Kc1,length_reverse→Kc2,sum_cons→Kc3,take_nil→Kc8,ne_nil_of_mem→Kdb,cons_eq_cons→Kdd,map_id'→Kdh,getElem_mem→Kdl,append_inj'→Kdn
open Option renaming bind_some→Kaj,map_eq_some_iff→Kap,isSome→KaZ,getD→Kba,isSome_iff_exists→Kbj,not_isSome_iff_eq_none→Kcb,isSome_map→Kdc
open Nat renaming le_refl→Kat,le_trans→KaB,le_of_dvd→KaM,mul_div_cancel_left→KaQ,zero_le→KaV,dvd_trans→Ka0,lt_of_lt_of_le→Ka4,lt_or_ge→Kbc,gcd→Kbf,mul_comm→Kbi,lt_succ_self→Kbq,lt_of_le_of_lt→Kbv,eq_zero_or_pos→KbJ,dvd_refl→KbM,succ_mul→KbV,gcd_pos_of_pos_left→KbW,mod_lt→Kb1,mod_eq_of_lt→Kb8,min_eq_right→Kca,mul_le_mul_right→Kcc,mod_add_div→Kck,min_eq_left→Kcl,gcd_dvd_right→Kct,gcd_pos_of_pos_right→Kcv,lt_trichotomy→Kcw,add_sub_cancel_left→Kcx,div_pos→Kcz,mul_assoc→KcA,le_antisymm→KcM,div_le_self→KcO,gcd_comm→KcQ,zero_add→KcR,pow_le_pow_right→KcT,div_mul_le_self→KcX,add_assoc→Kc7,div_dvd_of_dvd→Kc9,div_mul_cancel→Kda,lcm→Kde,dvd_lcm_right→Kdf,ne_of_lt→Kdg,gcd_dvd_left→Kdi,div_eq_of_lt→Kdj,dvd_lcm_left→Kdm,gcd_rec→Kdo,Coprime→Kdp
open Int renaming toNat_natCast→Kay,eq_ofNat_of_zero_le→KaK,toNat→KaU,le_refl→Kbm,toNat_of_nonneg→Kbn,natCast_emod→Kbt,emod_lt_of_pos→KbK,natCast_mul→KbN,natAbs→KbP,emod_nonneg→KbX,mul_comm→Kb6,mul_le_mul_of_nonneg_right→Kb7,mul_ediv_cancel_left→Kcu,natCast_dvd_natCast→Kcy,mul_assoc→KcB,le_trans→KcK,natCast_ediv→Kdk
open Bool renaming and_eq_true_iff→KaN,and_eq_true→Ka7,false_ne_true→Ka8,or_eq_true_iff→Kbe,decide_eq_true→KbE,eq_iff_iff→Kci,true_and→Kc4,false_or→Kc5,and_true→Kc6
open Array renaming replicate→Kcf,length_toList→Kch,getElem?_replicate→Kcr
set_option Elab.async false
set_option linter.all false
set_option maxRecDepth 100000
theorem aL {α β:Type _}{x:Option α}{f:α->Option β}{b:β}(h:x.bind f=some b):∃a,x=some a/\f a=some b:=Option.bind_eq_some_iff.mp h
set_option maxHeartbeats 0
namespace wJ
open PySem PySem.Spec PyProof.Rows L2
def bI (i:Nat):Stmt:=PySem.Challenge.pw_ladderdays_k47_looks_fewest_and_next.main.body.getD i (.Pass ⟨0,0,0,0⟩)
abbrev So:Stmt:=bI 7
abbrev Z5:Stmt:=bI 8
abbrev Y0:Stmt:=bI 9
abbrev VL:Stmt:=bI 11
abbrev VS:Stmt:=bI 12
abbrev XG:Stmt:=bI 13
abbrev RI:Stmt:=bI 14
abbrev OE:Stmt:=bI 15
abbrev WU:Stmt:=bI 16
abbrev XC:Stmt:=bI 17
abbrev YU:Stmt:=bI 18
abbrev WJ:Stmt:=bI 19
abbrev Kx:Stmt:=bI 20
abbrev OX:Stmt:=bI 21
abbrev ZX:Stmt:=bI 22
abbrev YF:Stmt:=bI 24
abbrev W_:Stmt:=bI 26
abbrev Xb:Stmt:=bI 27
abbrev UY:Stmt:=bI 28
abbrev Um:Stmt:=bI 29
abbrev RY:Stmt:=bI 30
abbrev Xl:Stmt:=bI 31
abbrev V1:Stmt:=bI 32
abbrev OS:Stmt:=bI 33
abbrev Z1:Stmt:=bI 34
abbrev WS:Stmt:=bI 35
abbrev Wq:Stmt:=bI 36
abbrev V_:Stmt:=bI 37
abbrev Za:Stmt:=bI 38
abbrev Xu:Stmt:=bI 40
abbrev Y7:Stmt:=bI 41
abbrev Wh:Stmt:=bI 42
abbrev OU:Stmt:=bI 43
abbrev Zu:Stmt:=bI 44
abbrev Od:Stmt:=bI 45
abbrev Tq:Stmt:=bI 46
abbrev YS:Stmt:=bI 47
abbrev S8:Stmt:=bI 48
abbrev Xi:Stmt:=bI 49
abbrev Tz:Stmt:=bI 50
abbrev eqn:Stmt:=bI 51
abbrev S2:Stmt:=bI 52
abbrev WL:Stmt:=bI 53
abbrev Tn:Stmt:=bI 54
abbrev Ow:Stmt:=bI 55
abbrev Sv:Stmt:=bI 56
abbrev RB:Stmt:=bI 57
abbrev RL:Stmt:=bI 58
abbrev yo:Stmt:=bI 59
abbrev dP (n:Str)(s:Stmt):He.DefD:=⟨(n,none),n,n,defArgs s,defBody s,defScope s,[],[]⟩
def yL:He.DefD:=dP "always_rises" So
def BF:He.DefD:=dP "is_set" Z5
def xn:He.DefD:=dP "need_set" Y0
def A9:He.DefD:=dP "common_divisor" VL
def yO:He.DefD:=dP "common_multiple" VS
def Bb:He.DefD:=dP "prime_parts" XG
def Av:He.DefD:=dP "first_numbers" RI
def Ak:He.DefD:=dP "comes_again" OE
def Bk:He.DefD:=dP "least_length" WU
def yZ:He.DefD:=dP "least_way" XC
def Bs:He.DefD:=dP "least_row" YU
def Ba:He.DefD:=dP "first_of_row" WJ
def xo:He.DefD:=dP "set_row" Kx
def Ax:He.DefD:=dP "set_from" OX
def Bt:He.DefD:=dP "has_day" ZX
def yU:He.DefD:=dP "least_set" YF
def Bl:He.DefD:=dP "check_notes" W_
def Au:He.DefD:=dP "check_sets" Xb
def BZ:He.DefD:=dP "fits" UY
def Bv:He.DefD:=dP "fitting" Um
def Bm:He.DefD:=dP "fitting_sets" RY
def vg:He.DefD:=dP "unlike_of" Xl
def Aq:He.DefD:=dP "days_that_tell" V1
def yW:He.DefD:=dP "partings" OS
def Ft:He.DefD:=dP "parted" Z1
def yI:He.DefD:=dP "with_one_more" WS
def wR:He.DefD:=dP "fewest_looks" Wq
def Io:He.DefD:=dP "left_at_worst" V_
def q_:He.DefD:=dP "next_look" Za
def Kf:He.DefD:=dP "_law_di_sack" Xu
def cu:He.DefD:=dP "_law_di_pick" Y7
def Aj:He.DefD:=dP "_law_di_lengths" Wh
def yY:He.DefD:=dP "_law_di_set" OU
def vc:He.DefD:=dP "_law_di_has" Zu
def yP:He.DefD:=dP "_law_di_otherwise" Od
def yX:He.DefD:=dP "_law_di_sets" Tq
def yV:He.DefD:=dP "_law_di_many" YS
def yR:He.DefD:=dP "_law_di_far" S8
def Ao:He.DefD:=dP "_law_di_notes" Xi
def Ep:He.DefD:=dP "_law_di_fits" Tz
def Bw:He.DefD:=dP "_law_di_round" eqn
def Az:He.DefD:=dP "_law_di_rows" S2
def ve:He.DefD:=dP "_law_di_unlike" WL
def AA:He.DefD:=dP "_law_di_ways" Tn
def Am:He.DefD:=dP "_law_di_choices" Ow
def yQ:He.DefD:=dP "_law_di_tells" Sv
def w7:He.DefD:=dP "_law_di_first_looks" RB
def yK:He.DefD:=dP "_law_di_next_day" RL
def gM:He.DefD:=dP "law" yo
def fn:List He.DefD:=[yL,BF,xn,A9,yO,Bb,Av,Ak,Bk,yZ,Bs,Ba,xo,Ax,Bt,yU,Bl,Au,BZ,Bv,Bm,vg,Aq,yW,Ft,yI,wR,Io,q_,Kf,cu,Aj,yY,vc,yP,yX,yV,yR,Ao,Ep,Bw,Az,ve,AA,Am,yQ,w7,yK,gM]
def fa:List He.Fa:=[.glo "always_rises",.glo "is_set",.glo "need_set",.glo "common_divisor",.glo "common_multiple",.glo "prime_parts",.glo "first_numbers",.glo "comes_again",.glo "least_length",.glo "least_way",.glo "least_row",.glo "first_of_row",.glo "set_row",.glo "set_from",.glo "has_day",.glo "least_set",.glo "check_notes",.glo "check_sets",.glo "fits",.glo "fitting",.glo "fitting_sets",.glo "unlike_of",.glo "days_that_tell",.glo "partings",.glo "parted",.glo "with_one_more",.glo "fewest_looks",.glo "left_at_worst",.glo "next_look",.glo "_law_di_sack",.glo "_law_di_pick",.glo "_law_di_lengths",.glo "_law_di_set",.glo "_law_di_has",.glo "_law_di_otherwise",.glo "_law_di_sets",.glo "_law_di_many",.glo "_law_di_far",.glo "_law_di_notes",.glo "_law_di_fits",.glo "_law_di_round",.glo "_law_di_rows",.glo "_law_di_unlike",.glo "_law_di_ways",.glo "_law_di_choices",.glo "_law_di_tells",.glo "_law_di_first_looks",.glo "_law_di_next_day",.glo "law",.free "zip",.free "all",.free "len",.free "max",.free "range",.free "int",.free "enumerate",.free "tuple",.free "sorted",.free "min",.free "repr",.free "list",.free "isinstance",.free "abs"]
abbrev R:PySem.W.OpenRow:=PySem.W.OpenLaw.row PySem.Challenge.rw_ladderdays_k47_looks_fewest_and_next
abbrev hk:PySem.W.Hook:=He.hookD 2 fa fn
def ob (s:PySem.W.SharedT):He.AlD:=He.obsDG 2 fa fn (HandSHeadRun.getT s)
theorem QI (s:PySem.W.SharedT):ob s=hk.obs s.abs:=He.obsDG_eq (HandSHeadRun.getT_eq s)
theorem run (w:World):HandSHeadRun.RunEq R (PySem.W.view R.prog [59]) hk ob 5000 [("__name__" : PySem.Str),("copied" : PySem.Str),("DaysError" : PySem.Str),("InvalidSet" : PySem.Str),("InvalidNote" : PySem.Str),("always_rises" : PySem.Str),("is_set" : PySem.Str),("need_set" : PySem.Str),("common_divisor" : PySem.Str),("common_multiple" : PySem.Str),("prime_parts" : PySem.Str),("first_numbers" : PySem.Str),("comes_again" : PySem.Str),("least_length" : PySem.Str),("least_way" : PySem.Str),("least_row" : PySem.Str),("first_of_row" : PySem.Str),("set_row" : PySem.Str),("set_from" : PySem.Str),("has_day" : PySem.Str),("least_set" : PySem.Str),("check_notes" : PySem.Str),("check_sets" : PySem.Str),("fits" : PySem.Str),("fitting" : PySem.Str),("fitting_sets" : PySem.Str),("unlike_of" : PySem.Str),("days_that_tell" : PySem.Str),("partings" : PySem.Str),("parted" : PySem.Str),("with_one_more" : PySem.Str),("fewest_looks" : PySem.Str),("left_at_worst" : PySem.Str),("next_look" : PySem.Str),("_law_di_sack" : PySem.Str),("_law_di_pick" : PySem.Str),("_law_di_lengths" : PySem.Str),("_law_di_set" : PySem.Str),("_law_di_has" : PySem.Str),("_law_di_otherwise" : PySem.Str),("_law_di_sets" : PySem.Str),("_law_di_many" : PySem.Str),("_law_di_far" : PySem.Str),("_law_di_notes" : PySem.Str),("_law_di_fits" : PySem.Str),("_law_di_round" : PySem.Str),("_law_di_rows" : PySem.Str),("_law_di_unlike" : PySem.Str),("_law_di_ways" : PySem.Str),("_law_di_choices" : PySem.Str),("_law_di_tells" : PySem.Str),("_law_di_first_looks" : PySem.Str),("_law_di_next_day" : PySem.Str)] w:=by
 intro os
 kernel_rfl
end wJ
namespace Pu
open PySem PySem.Spec PyProof.Rows L2
/-- keys: tuples of numbers and of tuples of numbers -/
def Flat1 (k:NestedKey):Prop:=(∃i,k=.num i)∨∃ns:List Int,k=.tup (ns.map .num)
def lE (k:NestedKey):Prop:=∃ks,k=.tup ks/\∀x∈ks,Flat1 x
/-- bM hash of Q7 a key (there is no text in it) -/
def xJ:List NestedKey->List Int
 |[]=>[]
 |.num i::ks=>hashInt i::xJ ks
 |_::ks=>0::xJ ks
def Co:NestedKey->Int
 |.num i=>hashInt i
 |.tup ks=>reduceHash (Builtin.Tuple.tupleHashOf (xJ ks))
 |_=>0
def Cm:NestedKey->Int
 |.tup ks=>reduceHash (Builtin.Tuple.tupleHashOf (ks.map Co))
 |_=>0
theorem mJ (w:World):∀ns:List Int,NestedKey.hashes w (ns.map .num)=xJ (ns.map .num)
 |[]=>rfl
 |n::ns=>by
  rw [Kai]
  show NestedKey.hash w (.num n)::NestedKey.hashes w (ns.map .num)=_
  rw [mJ w ns]
  unfold NestedKey.hash
  rfl
theorem zy (w:World){k:NestedKey}(h:Flat1 k):NestedKey.hash w k=Co k:=by
 rcases h with⟨i,rfl⟩|⟨ns,rfl⟩
 ·unfold NestedKey.hash;rfl
 ·unfold NestedKey.hash
  rw [mJ];rfl
theorem jV (w:World):∀{ks:List NestedKey},(∀k∈ks,Flat1 k)->NestedKey.hashes w ks=ks.map Co
 |[],_=>rfl
 |k::ks,h=>by
  show NestedKey.hash w k::NestedKey.hashes w ks=_
  rw [zy w (h k Kaa),jV w λx hx=>h x (Kab _ hx)];rfl
theorem zx (w:World){k:NestedKey}(h:lE k):NestedKey.hash w k=Cm k:=by
 obtain⟨ks,rfl,h⟩:=h
 unfold NestedKey.hash
 rw [jV w h];rfl
theorem lW:∀ns:List Int,NestedKey.depthAll (ns.map .num)=0
 |[]=>rfl
 |n::ns=>by
  show max (NestedKey.depth (.num n)) (NestedKey.depthAll (ns.map .num))=0
  rw [lW ns]
  unfold NestedKey.depth
  rfl
theorem jP:∀{ks:List NestedKey},(∀k∈ks,Flat1 k)->NestedKey.depthAll ks<=1
 |[],_=>KaV _
 |k::ks,h=>by
  show max (NestedKey.depth k) (NestedKey.depthAll ks)<=1
  have h1:=jP λx hx=>h x (Kab k hx)
  have h2:NestedKey.depth k<=1:=by
   rcases h k Kaa with⟨i,rfl⟩|⟨ns,rfl⟩
   ·unfold NestedKey.depth;omega
   ·unfold NestedKey.depth
    rw [lW];omega
  omega
theorem vM {k:NestedKey}(h:lE k):NestedKey.depth k<=8:=by
 obtain⟨ks,rfl,h⟩:=h
 unfold NestedKey.depth
 have:=jP h
 omega
abbrev bW:=NestedKey×Addr×V
def kI (q:NestedKey×Addr×Value):DictEntry:=⟨Cm q.1,.ref q.2.1,q.2.2⟩
theorem gxy {P:Program}{w:World}{xs:List (NestedKey×Addr×Value)}(h:∀x∈xs,lE x.1):xs.map kI=xs.map (entryOfKey (nestedKind P w)):=Kax λx hx=>by
 show DictEntry.mk (Cm x.1) _ _=DictEntry.mk (NestedKey.hash w x.1) _ _
 rw [zx w (h x hx)]
def KX (p:bW)(q:NestedKey×Addr×Value):Prop:=p.1=q.1/\p.2.1=q.2.1/\RelV p.2.2 q.2.2
def JR (a:Addr)(ws:List bW)(h:Heap):Prop:=ws.length<=sizeLine/\(a == sysModules)=false/\∃xs,Paired KX ws xs/\∃o es ep,h.get? a=some o/\o.ExactDict/\o.data=.dict es ep/\es.toList=xs.map kI/\(xs.map (·.1)).Nodup
def bV (a:Addr)(ws:List bW):HO:=.ext (JR a ws)
def zW:V->Option Int
 |.int i=>some i
 |.bl b=>some (PpSet.b2 b)
 |_=>none
def lH (H:Hp)(k:NestedKey)(v:V):Prop:=(∃i,k=.num i/\zW v=some i)∨∃(a:Addr) (vs:List V) (ns:List Int),v=.ref a/\k=.tup (ns.map .num)/\Rd H a (.tup vs)/\vs.map zW=ns.map some
def dD (H:Hp)(k:NestedKey)(b:Addr):Prop:=∃(vs:List V) (ks:List NestedKey),k=.tup ks/\Rd H b (.tup vs)/\Paired (lH H) ks vs
theorem DB {H H':Hp}(s:Same H H'){b:Addr}{vs:List V}(e:Rd H b (.tup vs)):Rd H' b (.tup vs):=by
 rcases e with e|⟨o,e⟩
 ·exact .inl (s _ _ e)
 ·exact .inr ⟨o,s _ _ e⟩
theorem lH.mono {H H':Hp}(s:Same H H'){k:NestedKey}{v:V}(h:lH H k v):lH H' k v:=by
 rcases h with h|⟨a,vs,ns,h1,h2,h3,h4⟩
 ·exact .inl h
 ·exact .inr ⟨a,vs,ns,h1,h2,DB s h3,h4⟩
theorem dD.mono {H H':Hp}(s:Same H H'){k:NestedKey}{b:Addr}(h:dD H k b):dD H' k b:=by
 obtain⟨vs,ks,e,r,p⟩:=h
 refine⟨vs,ks,e,DB s r,?_⟩
 clear e r
 induction p with
 |nil=>exact .nil
 |cons h _ ih=>exact .cons (h.mono s) ih
theorem dD.FO {H:Hp}{k:NestedKey}{b:Addr}(h:dD H k b):lE k:=by
 obtain⟨vs,ks,rfl,r,p⟩:=h
 clear r
 refine⟨ks,rfl,?_⟩
 induction p with
 |nil=>exactλx hx=>nomatch hx
 |cons h _ ih=>
  intro x hx
  rcases Kah.mp hx with rfl|hx
  ·rcases h with⟨i,e,_⟩|⟨_,_,ns,_,e,_⟩
   ·exact .inl ⟨i,e⟩
   ·exact .inr ⟨ns,e⟩
  ·exact ih x hx
def dz (ws:List bW)(k:NestedKey):Option V:=(ws.find? λx=>decide (x.1=k)).map λx=>x.2.2
def fH (ws:List bW)(k:NestedKey)(b:Addr)(v:V):List bW:=if (dz ws k).isSome then ws.map (λp=>if p.1=k then (p.1,p.2.1,v) else p) else ws++[(k,b,v)]
theorem Er {p:bW}{ws:List bW}{k:NestedKey}:dz (p::ws) k=if p.1=k then some p.2.2 else dz ws k:=by
 unfold dz
 rw [Kce]
 by_cases c:p.1=k
 ·rw [if_pos c,decide_eq_true c];rfl
 ·rw [if_neg c,decide_eq_false c]
theorem Ed {k j:NestedKey}{b:Addr}{v:V}:∀ws:List bW,dz (fH ws k b v) j=if k=j then some v else dz ws j:=by
 have app:∀ws:List bW,dz (ws++[(k,b,v)]) j=if (dz ws j).isSome then dz ws j else if k=j then some v else none:=by
  intro ws
  induction ws with
  |nil=>rw [Ka1,Er];rfl
  |cons p ws ih=>
   rw [KcE,Er,Er,ih]
   by_cases c:p.1=j
   ·rw [if_pos c,if_pos c];rfl
   ·rw [if_neg c,if_neg c]
 have rep:∀ws:List bW,(dz ws k).isSome=true->dz (ws.map (λp=>if p.1=k then (p.1,p.2.1,v) else p)) j=if k=j then some v else dz ws j:=by
  intro ws
  induction ws with
  |nil=>intro h;exact absurd h Ka8
  |cons p ws ih=>
   intro h
   rw [Kai,Er,Er]
   by_cases c:p.1=k
   ·rw [if_pos c]
    by_cases d:k=j
    ·rw [if_pos (show p.1=j from c.trans d),if_pos d]
    ·rw [if_neg (show ¬p.1=j fromλz=>d (c.symm.trans z)),if_neg d,if_neg (λz=>d (c.symm.trans z))]
     by_cases i:(dz ws k).isSome=true
     ·rw [ih i,if_neg d]
     ·have:∀ws:List bW,¬(dz ws k).isSome=true->ws.map (λp=>if p.1=k then (p.1,p.2.1,v) else p)=ws:=by
       intro ws
       induction ws with
       |nil=>intro _;rfl
       |cons q ws ih2=>
        intro h
        rw [Er] at h
        by_cases c2:q.1=k
        ·rw [if_pos c2] at h;exact absurd rfl h
        ·rw [if_neg c2] at h
         rw [Kai,if_neg c2,ih2 h]
      rw [this ws i]
   ·rw [Er,if_neg c] at h
    rw [if_neg c,ih h]
    by_cases d:k=j
    ·rw [if_pos d,if_pos d,if_neg (λz=>c (z.trans d.symm))]
    ·rw [if_neg d,if_neg d]
 intro ws
 unfold fH
 by_cases c:(dz ws k).isSome=true
 ·rw [if_pos c,rep ws c]
 ·rw [if_neg c,app]
  by_cases d:k=j
  ·subst d
   rw [if_neg c,if_pos rfl,if_pos rfl]
  ·rw [if_neg d,if_neg d]
   cases dz ws j <;> rfl
theorem uE {k:NestedKey}{b:Addr}{v:V}(ws:List bW):(fH ws k b v).length<=ws.length+1:=by
 unfold fH
 split
 ·rw [Kag];omega
 ·rw [Kan];simp
theorem pO {H:Hp}{k:NestedKey}{b:Addr}{v:V}{ws:List bW}(h:∀p∈ws,dD H p.1 p.2.1)(hb:dD H k b):∀p∈fH ws k b v,dD H p.1 p.2.1:=by
 unfold fH
 split
 ·intro p hp
  obtain⟨q,hq,rfl⟩:=Kas.mp hp
  by_cases c:q.1=k
  ·rw [if_pos c];exact h q hq
  ·rw [if_neg c];exact h q hq
 ·intro p hp
  rcases Kam.mp hp with z|z
  ·exact h p z
  ·rw [Kae.mp z];exact hb
section
variable {ws:List bW}{xs:List (NestedKey×Addr×Value)}
theorem KX.val (r:Paired KX ws xs)(k:NestedKey):RelO (dz ws k) ((atKey xs k).map (·.2)):=by
 induction r with
 |nil=>exact True.intro
 |@cons p q ps qs h t ih=>
  obtain⟨h1,_,h2⟩:=h
  rw [Er]
  by_cases e:p.1=k
  ·have e':q.1=k:=h1.symm.trans e
   have b:atKey (q::qs) k=some q.2:=by simp [atKey,Kce,e']
   rw [if_pos e,b];exact h2
  ·have e':¬q.1=k:=λz=>e (h1.trans z)
   have b:atKey (q::qs) k=atKey qs k:=by simp [atKey,Kce,e']
   rw [if_neg e,b];exact ih
theorem KX.isSome (r:Paired KX ws xs)(k:NestedKey):(dz ws k).isSome=(atKey xs k).isSome:=by
 have q:=(KX.val r k).isSome_eq
 rw [Kdc] at q
 exact q
theorem KX.repl (r:Paired KX ws xs)(k:NestedKey){y:V}{u:Value}(ry:RelV y u):Paired KX (ws.map (λp=>if p.1=k then (p.1,p.2.1,y) else p)) (xs.map (putAt k u)):=by
 induction r with
 |nil=>exact .nil
 |@cons p q ps qs h t ih=>
  rw [Kai,Kai]
  refine .cons ?_ ih
  obtain⟨h1,h2,h3⟩:=h
  unfold putAt
  by_cases e:p.1=k
  ·rw [if_pos e,if_pos (h1.symm.trans e)];exact⟨h1,h2,ry⟩
  ·rw [if_neg e,if_neg (λz=>e (h1.trans z))];exact⟨h1,h2,h3⟩
theorem KX.put (r:Paired KX ws xs)(k:NestedKey){b:Addr}{y:V}{u:Value}(ry:RelV y u):Paired KX (fH ws k b y) (storedH xs k b u):=by
 unfold fH storedH
 rw [KX.isSome r k]
 by_cases q:(atKey xs k).isSome=true
 ·rw [if_pos q,if_pos q];exact KX.repl r k ry
 ·rw [if_neg q,if_neg q];exact Paired.snoc r ⟨rfl,rfl,ry⟩
theorem KX.all {Φ:NestedKey->Addr->Prop}(r:Paired KX ws xs)(h:∀p∈ws,Φ p.1 p.2.1):∀x∈xs,Φ x.1 x.2.1:=by
 induction r with
 |nil=>intro x hx;exact nomatch hx
 |@cons p q ps qs hq t ih=>
  intro x hx
  rcases Kah.mp hx with e|hx
  ·subst e
   rw [<-hq.1,<-hq.2.1]
   exact h p Kaa
  ·exact ih (λp hp=>h p (Kab _ hp)) x hx
end
theorem Df {P:Program}{w:World}{h:Heap}{v:V}{u:Value}{i:Int}(e:zW v=some i)(r:RelV v u):NestedIs h (.num i) u:=by
 cases v with
 |int j=>
  obtain⟨t',rfl⟩:=(show ∃t,_=Value.int j t from r)
  have:j=i:=Option.some.inj e
  subst this
  exact .int _ _
 |bl b=>
  obtain rfl:=(show _=Value.bool b from r)
  have:PpSet.b2 b=i:=Option.some.inj e
  subst this
  exact .bool (by cases b <;> rfl)
 |_=>cases e
theorem uu {P:Program}{w:World}{h:Heap}:∀{ks:List Int} {vs:List V} {us:List Value},vs.map zW=ks.map some->Vals vs us->NestedAll h (ks.map .num) us
 |[],[],_,_,r=>by cases r;exact .nil
 |[],_::_,_,e,_=>by cases e
 |_::_,[],_,e,_=>by cases e
 |k::ks,v::vs,_,e,r=>by
  rw [Kai,Kai] at e
  injection e with e1 e2
  cases r with
  |cons h t=>exact .cons (Df (P:=P) (w:=w) e1 h) (uu (P:=P) (w:=w) e2 t)
section
variable {P:Program}{w:World}{H:Hp}{h:Heap}{a b:Addr}{k:NestedKey}{ws:List bW}
theorem tup_is (ok:HOk P w H h){vs:List V}(e:Rd H b (.tup vs)){ks:List NestedKey}(q:∀us,Vals vs us->NestedAll h ks us):NestedIs h (.tup ks) (.ref b):=by
 obtain⟨_,its,rr,o,h1,h2,n,h3⟩:=(show ObjOk P w H h b (.tup vs) from rd_of ok e)
 exact .tup h1 h2 h3 (by simpa using q its rr)
theorem oX (ok:HOk P w H h):∀{ks:List NestedKey} {vs:List V} {us:List Value},Paired (lH H) ks vs->Vals vs us->NestedAll h ks us
 |_,_,_,.nil,r=>by cases r;exact .nil
 |_,_,_,.cons h1 t1,r=>by
  cases r with
  |cons h2 t2=>
   refine .cons ?_ (oX ok t1 t2)
   rcases h1 with⟨i,rfl,e⟩|⟨a,vs,ns,rfl,rfl,e,q⟩
   ·exact Df (P:=P) (w:=w) e h2
   ·obtain rfl:=(show _=Value.ref a from h2)
    exact tup_is ok e λus r=>uu (P:=P) (w:=w) q r
theorem PV (ok:HOk P w H h)(e:dD H k b):(nestedKind P w).is h k b:=by
 have f:=vM e.FO
 obtain⟨vs,ks,rfl,e,p⟩:=e
 exact⟨tup_is ok e λus r=>oX ok p r,f⟩
theorem PR (ok:HOk P w H h)(e:H a=some (bV a ws))(hk:∀p∈ws,dD H p.1 p.2.1):ws.length<=sizeLine/\(a == sysModules)=false/\∃xs,Paired KX ws xs/\h.DictOfH (nestedKind P w) a xs:=by
 obtain⟨⟨z,y,xs,r,o,es,ep,h1,h2,h3,h4,h5⟩,_,_⟩:=(show ObjOk P w H h a (.ext (JR a ws)) from ok a _ e)
 exact⟨z,y,xs,r,o,es,ep,h1,h2,h3,by rw [h4];exact gxy (KX.all (Φ:=λk _=>lE k) r λp hp=>(hk p hp).FO),KX.all (Φ:=λk b=>(nestedKind P w).is h k b) r λp hp=>PV ok (hk p hp),h5⟩
theorem JR.ok (x:JR a ws h):ObjOk P w H h a (bV a ws):=by
 refine⟨x,?_,λh1 h2 p k=>?_⟩
 ·obtain⟨_,_,_,_,o,_,_,e,_⟩:=x;exact⟨o,e⟩
 ·obtain⟨z,y,xs,r,o,es,ep,e,c⟩:=p
  exact⟨z,y,xs,r,o,es,ep,k _ e,c⟩
end
theorem Zl {P:Program}{w:World}{A:Around}(hu:A.units+65<cLine):(nestedKind P w).room A.in1:=by
 show A.units+1+8<cLine
 omega
def PN:TE:=λ_ H Q=>∀p,H p=none->Q (.ref p) (upd H p (bV p []))
def TZ (ty td:TE):TE:=λσ H Q=>ty σ H λy H1=>td σ H1 λx H2=>∃a b ws k,x=.ref a/\y=.ref b/\H2 a=some (bV a ws)/\(∀p∈ws,dD H2 p.1 p.2.1)/\dD H2 k b/\Q (.bl (!(dz ws k).isSome)) H2
def UQ (td ty:TE):TE:=λσ H Q=>td σ H λx H1=>ty σ H1 λy H2=>∃a b ws k v,x=.ref a/\y=.ref b/\H2 a=some (bV a ws)/\(∀p∈ws,dD H2 p.1 p.2.1)/\dD H2 k b/\dz ws k=some v/\Q v H2
def KU (td ty tv:TE):TS:=λD σ H=>tv σ H λv H1=>td σ H1 λx H2=>ty σ H2 λy H3=>∃a b ws k,x=.ref a/\y=.ref b/\H3 a=some (bV a ws)/\(∀p∈ws,dD H3 p.1 p.2.1)/\dD H3 k b/\ws.length<sizeLine/\D.nx σ (upd H3 a (bV a (fH ws k b v)))
section
variable {X:Cx}{o i e value:Expr}{pos pos' tpos:Pos}{td ty tv:TE}
theorem oK {P:Program}{w:World}{H:Hp}(h:Heap)(hb:sysModules<h.objs.size):ObjOk P w H (h.push { cls:=.type "dict",data:=.dict #[] }) h.objs.size (bV h.objs.size []):=
 JR.ok ⟨KaV _,beq_eq_false_iff_ne.mpr (Ne.symm (Kdg hb)),[],.nil,_,#[],0,Heap.get?_push_size _ rfl,⟨rfl,rfl,rfl⟩,rfl,rfl,KaO⟩
theorem TY:PE X (.Dict [] [] pos) PN:=⟨λpins s σ H Q I h=>
 wpAny_Dict_empty ⟨.ref s.heap.objs.size,_,I.laid (a:=s.heap.objs.size) (o:=bV s.heap.objs.size []) (t':=s.toks) (λ_ _ q=>Heap.get?_push_of_some _ q) (Kat _) (oK s.heap I.big),rfl,h _ (I.hok.fresh (Kat _))⟩⟩
theorem OZ (hu:X.A.units+65<cLine)(hi:PE X i ty)(ho:PE X o td):PC X .NotIn i o (TZ ty td):=by
 refine⟨λpins s σ H Q I h=>?_⟩
 refine thn (hi.run pins s σ H _ I h) λiv s1 ⟨y,H1,I1,ry,q1⟩=>thn (ho.run pins s1 σ H1 _ I1 q1) λu s2 ⟨x,H2,I2,rx,a,b,ws,k,ex,ey,e,hk,eb,q2⟩=>?_
 subst ex ey
 obtain rfl:u=Value.ref a:=rx
 obtain rfl:iv=Value.ref b:=ry
 obtain⟨z,hd,xs,rel,dd⟩:=PR I2.hok e hk
 refine wpAny_notIn_heap (Zl hu) (PV I2.hok eb) hd dd ?_
 rw [<-KX.isSome rel k]
 exact⟨.bl (!(dz ws k).isSome),H2,I2.tok _,rfl,q2⟩
theorem gxr (hu:X.A.units+65<cLine)(ho:PE X o td)(hi:PE X i ty)(hs:NoSl i):PE X (.Subscript o i pos) (UQ td ty):=by
 refine⟨λpins s σ H Q I h=>?_⟩
 refine subD_of PySem.F.slot_dict_getitem.lookup hs (thn (ho.run pins s σ H _ I h) λu s1 ⟨x,H1,I1,rx,q1⟩=>thn (hi.run pins s1 σ H1 _ I1 q1) λiv s2 ⟨y,H2,I2,ry,a,b,ws,k,v,ex,ey,e,hk,eb,l,q2⟩=>?_)
 subst ex ey
 obtain rfl:u=Value.ref a:=rx
 obtain rfl:iv=Value.ref b:=ry
 obtain⟨z,hd,xs,rel,dd⟩:=PR I2.hok e hk
 obtain⟨w',hw,rw'⟩:=RelO.some_of (v:=v) (o:=(atKey xs k).map (·.2)) (by rw [<-l];exact KX.val rel k)
 obtain⟨p,hp,hp2⟩:=Kap.mp hw
 refine⟨dd.typeIs,wpAny_getItem_heap (Zl hu) (PV I2.hok eb) dd hp ?_⟩
 rw [hp2]
 exact⟨v,H2,I2.tok _,rw',q2⟩
theorem Us (hu:X.A.units+65<cLine)(ho:PE X o td)(hi:PE X i ty)(hv:PE X value tv)(hs:swapsWith value (some (.Subscript o i pos')) pos.line X.env=pure false):
  PS X (.Assign [.Subscript o i pos'] value pos) (KU td ty tv):=by
 refine⟨λpins s σ H D I h=>?_⟩
 refine wpAny_Assign_Subscript (thn (hv.run pins s σ H _ I h) λr s1 ⟨v,H1,I1,rv,q1⟩=>thn (ho.run pins s1 σ H1 _ I1 q1) λu s2 ⟨x,H2,I2,rx,q2⟩=>thn (hi.run pins s2 σ H2 _ I2 q2) λiv s3 ⟨y,H3,I3,ry,a,b,ws,k,ex,ey,e,hk,eb,l,q3⟩=>?_) hs
 subst ex ey
 obtain rfl:u=Value.ref a:=rx
 obtain rfl:iv=Value.ref b:=ry
 obtain⟨z,hd,xs,rel,dd⟩:=PR I3.hok e hk
 have hz:xs.length<=sizeLine:=by rw [<-Paired.length rel];exact z
 have hl:(fH ws k b v).length<=sizeLine:=by have:=uE (k:=k) (b:=b) (v:=v) ws;omega
 refine wpAny_setItem_heap (hsz:=hz) (Zl hu) (PV I3.hok eb) dd λh' dd' hs=>?_
 obtain⟨q,es,ep,hq,h2,h3,h4,_,h5⟩:=dd'
 have fn:=KX.all (Φ:=λk _=>lE k) (KX.put rel k (b:=b) rv) λp hp=>(pO hk eb p hp).FO
 exact⟨σ,_,d_write I3 (by rw [e];exact True.intro) hs ⟨q,hq⟩ (JR.ok ⟨hl,hd,_,KX.put rel k rv,q,es,ep,hq,h2,h3,by rw [h4];exact (gxy fn).symm,h5⟩),q3⟩
end
/-- tuple(x) of a list: a new tuple,its object told -/
def Jj (K:PySem.W.Frag)(x:V)(H:Hp)(Q:VK):Prop:=
 ∃p xs,x=.ref p/\SqL K H p xs/\∀q o,H q=none->(o.cls=.type "tuple" /\ o.dict=none)->Q (.ref q) (upd H q (.frz o (.tup xs)))
theorem pN {X:Cx}{a:Expr}{ta:TE}{p pos:Pos}(hg:Gl X "tuple")(hm:X.mg "tuple" = none)(ha:PE X a ta)(na:starEach [a] X.env=(false,eval a X.env)::starEach [] X.env:=by rfl):
  PE X (.Call (.Name "tuple" p) [a] [] pos) (tThen ta (Jj X.K)):=by
 refine⟨λpins s σ H Q I h=>?_⟩
 refine Call_ (ld_blt I hg hm boot_tuple (PyProof.Rows.callWith_type1 (one_arg ha I h (λv s2 x H2 I2 r q=>?_) na) na))
 obtain⟨p,xs,rfl,hs,q⟩:=q
 obtain rfl:v=.ref p:=r
 obtain⟨its,rv,pl,hz⟩:=I2.list hs
 refine call_tuple_list pl.isList (λh' hk=>?_) (by rw [Kbz,<-rv.length];exact hz)
 have I1:Inv X pins σ H2 { s2 with heap:=h' }:=I2.kept (t':=s2.toks) hk
 have I3:Inv X pins σ (upd H2 h'.objs.size (.frz { cls:=.type "tuple",data:=.seq its.toArray } (.tup xs))) { s2 with heap:=h'.push { cls:=.type "tuple",data:=.seq its.toArray } }:=
  I1.laid (t':=s2.toks) (λb o e=>Heap.get?_push_of_some _ e) (Kat _) (show ObjOk X.prog X.w _ _ _ (.frz _ (.tup xs)) from ⟨Heap.get?_push_size _ rfl,hz,its,rv,IsTup.new _ _⟩)
 exact⟨.ref h'.objs.size,_,I3,rfl,q _ _ (I1.hok.fresh (Kat _)) ⟨rfl,rfl⟩⟩
/-- all(a tuple of truth values) -/
def Jt (K:PySem.W.Frag):List V->Hp->VK->Prop:=λvs H Q=>∃(a:Addr) (bs:List Bool),vs=[V.ref a]/\SqT K H a (bs.map V.bl)/\Q (.bl (bs.all id)) H
theorem Fw {X:Cx}(hc:X.calm=true):CallR X (.builtin "all") (Jt X.K):=by
 intro pins s σ H vs us Q I r h
 obtain⟨a,bs,rfl,hs,q⟩:=h
 obtain⟨its,rv,hl,_⟩:=I.tuple hs
 rw [Vals.ref1 r]
 have hb:=rv.bls
 have hlt:a<s.heap.objs.size:=by obtain⟨_,e,_⟩:=hl;exact Heap.lt_size e
 refine call_all_walk (iter_tuple hl ?_)
 refine⟨_,_,_,_,_,_,_,rfl,Walks.tuple (A:=X.A.in1) (I.ok.hd hc) _ a (Kdg hlt) its.toArray,⟨⟨_,Heap.get?_push_size _ rfl,rfl,rfl⟩,hl.keeps λ_ _ e=>Heap.get?_push_of_some _ e⟩,truth_bools hb,λh' tk hk=>?_⟩
 refine⟨.bl _,H,I.kept λb o eo=>hk b o (λhmem=>?_) (Heap.get?_push_of_some _ eo),?_,q⟩
 ·rcases Kah.mp hmem with e1|hmem
  ·exact absurd (e1 ▸ Heap.lt_size eo) (Nat.lt_irrefl _)
  ·cases hmem
 ·show Value.bool _=Value.bool _
  rw [<-L2.all_range,hb,Kbz,Kag]
/-- t.count(a truth value) of a plain tuple of truth values -/
def yr (to ty:TE):TE:=λσ H Q=>to σ H λx H1=>∃(a:Addr) (o:Obj) (bs:List Bool),x=.ref a/\H1 a=some (.frz o (.tup (bs.map V.bl)))/\(o.cls=.type "tuple" /\ o.dict=none) /\
 ty σ H1 λy H2=>∃c:Bool,y=.bl c/\H2 a=some (.frz o (.tup (bs.map V.bl)))/\Q (.int (bs.count c:Nat)) H2
theorem iI (c:Bool):∀{us:List Value} {bs:List Bool},us=bs.map Value.bool->us.countP (PpSet.isB c)=bs.count c
 |_,[],e=>by rw [e];rfl
 |_,b::bs,e=>by
  rw [e,Kai,List.countP_cons,KcJ,iI c (bs:=bs) rfl]
  rfl
theorem pM {X:Cx}{o e:Expr}{to ty:TE}{apos cpos:Pos}(ho:PE X o to)(he:PE X e ty)
  (hbase:attributeBase o "count" X.env (eval o X.env)=eval o X.env:=by rfl)
  (hfew:((backTo cpos (starEach [e] X.env)).all (λx=>!x.1) && (backToKw cpos (keywordEach [] X.env)).all (λx=>x.1.isSome)
   && decide ([e].length+([]:List Keyword).length+(if ([]:List Keyword).isEmpty then 0 else 1)<30))=true:=by rfl)
  (hline:(apos.endLine == cpos.line)=true:=by rfl) (na:starEach [e] X.env=(false,eval e X.env)::starEach [] X.env:=by rfl):
  PE X (.Call (.Attribute o "count" apos) [e] [] cpos) (yr to ty):=by
 refine⟨λpins s σ H Q I h=>?_⟩
 refine wpAny_Call_method_late hbase hfew hline rfl (thn (ho.run pins s σ H _ I h) λv s1 ⟨x,H1,I1,r1,a,ob,bs,ex,ha,hob,q1⟩=>?_)
 subst ex
 obtain rfl:v=.ref a:=r1
 obtain⟨h1,_⟩:=I1.hok a _ ha
 refine⟨"tuple", "tuple.count",PySem.F.plainAttrs_tuple,PySem.F.slot_tuple_count,PySem.F.type_tuple_count,⟨ob,h1,hob.1⟩,λb eb=>by cases eb;exact⟨ob,h1,hob.2⟩,?_⟩
 have hA:=(pa_cons he pa_nil na).run cpos pins s1 σ H1 (λvs H2=>match vs with|[y]=>∃c:Bool,y=.bl c/\H2 a=some (.frz ob (.tup (bs.map V.bl)))/\Q (.int (bs.count c:Nat)) H2|_=>False) I1 q1
 rw [na] at hA ⊢
 refine Calls.callWith_builtin (by rfl) (Calls.evalArgs_plain ?_)
 refine thn hA λus s2 ⟨vs,H2,I2,r2,q2⟩=>?_
 match vs,r2,q2 with
 |[y],r2,q2=>
  obtain⟨c,rfl,ha2,q3⟩:=q2
  obtain⟨u,rfl,ru⟩:=r2.one
  obtain rfl:u=.bool c:=ru
  obtain⟨h3,hz,its,rv,ob2,h4,hcl,n,hdat⟩:=I2.hok a _ ha2
  rw [h3] at h4
  obtain rfl:=Option.some.inj h4
  have hb:=rv.bls
  obtain⟨cls,dd,data,sl⟩:=ob
  simp only at hcl hdat hob
  subst hcl hdat
  refine call_meets PySem.F.slot_tuple_count ⟨_,h3,rfl⟩ PySem.F.entry_tuple_count (PySem.F.args_tuple_count_2 _ _)
   (SeqAt.tuple_countAt a its.toArray n dd sl (.bool c) (PpSet.isB c)) ⟨h3,λy hy=>?_,?_⟩
  ·have hy':y∈its:=by simpa using hy
   rw [hb] at hy'
   obtain⟨b,_,rfl⟩:=Kas.mp hy'
   exact SeqAt.EqAt.bool_bool b c
  ·refine⟨.int (bs.count c:Nat),H2,I2.tok _,⟨s2.toks,?_⟩,q3⟩
   show Value.int ((its.toArray.toList.countP (PpSet.isB c):Nat):Int) s2.toks=Value.int ((bs.count c:Nat):Int) s2.toks
   rw [show its.toArray.toList=its from rfl,iI c hb]
end Pu
namespace L2
open PySem PySem.Spec PyProof.Rows
/-- an error d8 is known to bM object -/
def ExO (o:Obj):HO:=.frz o (.ext λ_=>True)
/-- of a class,with its dict -/
def ExZ (cls:Value)(d:Option Addr)(o:Obj):Prop:=o.cls=cls/\o.dict=d/\∃vs,o.data=.fields vs
abbrev Cx.kept (X:Cx)(pn:List (Addr×Obj)):Cx:={ X with pn:=pn }
section
variable {X:Cx}{pins:List (Addr×Obj)}{σ:St}{H:Hp}{s:Shared}
theorem Cx.Ok.kept {X:Cx}(ok:X.Ok)(pn:List (Addr×Obj)):(X.kept pn).Ok:=
 ⟨ok.mod,ok.kind,ok.glob,ok.blt,ok.above,ok.inj,ok.has,ok.cab,ok.hd,ok.frames,ok.stk,ok.exf,ok.bs,ok.bsz,ok.noex,ok.exfs,ok.funs,ok.frf⟩
end
end L2
namespace Pu
open PySem L2
/-- bM tables of code objects,with bM names of bM code d8 Mn tell -/
class aZ where
 T:List (Addr×Str)
/-- no tables -/
instance (priority:=low) aqS:aZ:=⟨[]⟩
variable [aZ]
/-- what never changes once it is tracked -/
abbrev vD (o:HO):Prop:=∀ps,o≠.tbl ps
/-- Vg a table nor a code object -/
structure Plain (o:HO):Prop where
 st:∀ps,o≠.tbl ps
 nc:∀c q,o≠LamX.CodeO c q
theorem gxq {o:HO}(h:(match o with|.tbl _=>False|.ext _=>False|_=>True)):Plain o:=⟨λps z=>by subst z;exact h,λc q z=>by subst z;exact h⟩
theorem Ks {a:Addr}{ws:List bW}:Plain (bV a ws):=by
 refine⟨λps z=>(by unfold bV at z;cases z),λc q z=>?_⟩
 unfold bV LamX.CodeO at z
 have e:=HO.ext.inj z
 -- a heap of code objects alone
 have hg:∀b:Addr,b<c+1->({ objs:=Kcf (c+1) { cls:=.none,data:=.fields #[.none,.str q 0] } }:Heap).get? b=some { cls:=.none,data:=.fields #[.none,.str q 0] }:=λb hb=>by
  unfold Heap.get?
  have:(Kcf (c+1) ({ cls:=.none,data:=.fields #[.none,.str q 0] }:Obj))[b]? = some { cls:=.none,data:=.fields #[.none,.str q 0] }:=by
   rw [Kcr,if_pos hb]
  simp only [this]
 have e2:=congrFun e ({ objs:=Kcf (c+1) { cls:=.none,data:=.fields #[.none,.str q 0] } }:Heap)
 have h2:=e2.mpr ⟨_,_,0,hg c (Kbq _),rfl,rfl⟩
 obtain⟨_,_,xs,_,o,es,ep,h3,_,h4,_⟩:=h2
 have hl:a<c+1:=by
  rcases Kbc a (c+1) with y|y
  ·exact y
  ·exfalso
   unfold Heap.get? at h3
   have:(Kcf (c+1) ({ cls:=.none,data:=.fields #[.none,.str q 0] }:Obj))[a]? = none:=by
    rw [Kcr,if_neg (Nat.not_lt.mpr y)]
   simp only [this] at h3
   cases h3
 rw [hg a hl] at h3
 cases h3
 cases h4
theorem z8 {vs:List V}:Plain (.lst vs):=gxq trivial
/-- bM tables stand,and none is frozen -/
structure fB (F H:Hp):Prop where
 t:LamX.Tabs aZ.T H
 n:∀a ps,F a≠some (.tbl ps)
abbrev rR (H:Hp):Prop:=fB (λ_=>none) H
theorem fB.low {F H:Hp}(t:fB F H):rR H:=⟨t.t,λa ps z=>nomatch z⟩
theorem fB.back {F F' H:Hp}(t:fB F H)(h:∀a o,F' a=some o->F a=some o):fB F' H:=⟨t.t,λa ps z=>t.n a ps (h _ _ z)⟩
theorem fB.Ai {F H:Hp}{p:Addr}{o:HO}(t:fB F H)(h:vD o:=by intro ps z;cases z):fB (L2.upd F p o) H:=⟨t.t,λa ps z=>by
 by_cases e:a=p
 ·rw [e,upd_same] at z;exact h ps (Option.some.inj z)
 ·rw [upd_ne e] at z;exact t.n a ps z⟩
theorem uT {F H H':Hp}(t:fB F H)(h:∀b o,H b=some o->H' b=some o∨Plain o):fB F H':=⟨λp hp=>by
 obtain⟨ps,h1,h2,h3⟩:=t.t p hp
 rcases h _ _ h1 with z|z
 ·refine⟨ps,z,h2,λpos cv hc=>?_⟩
  obtain⟨c,e1,e2⟩:=h3 pos cv hc
  rcases h _ _ e2 with y|y
  ·exact⟨c,e1,y⟩
  ·exact absurd rfl (y.nc c p.2)
 ·exact absurd rfl (z.st ps),t.n⟩
theorem ZA {F H H':Hp}(t:fB F H)(h:∀b o,H b=some o->H' b=some o):fB F H':=uT t λb o e=>.inl (h b o e)
theorem YO {F H:Hp}{p:Addr}{o:HO}(t:fB F H)(np:H p=none):fB F (upd H p o):=ZA t λb u e=>by rw [upd_ne (ne_of_none e np)];exact e
theorem Es {F H:Hp}{p:Addr}{o o':HO}(t:fB F H)(e:H p=some o)(h:Plain o):fB F (upd H p o'):=uT t λb u eb=>by
 by_cases z:b=p
 ·subst z
  rw [e] at eb
  cases eb
  exact .inr h
 ·exact .inl (by rw [upd_ne z];exact eb)
theorem Uj {F H:Hp}{p:Addr}{vs:List V}{o':HO}(t:fB F H)(e:H p=some (.lst vs)):fB F (upd H p o'):=Es t e z8
abbrev aa:=Int×Int×Int
abbrev Vl:=PyData×Bool
mutual
def nd:PyData->Bool
 |.list xs=>gW xs
 |.tuple xs=>gW xs
 |.dict _=>false
 |_=>true
def gW:List PyData->Bool
 |[]=>true
 |x::xs=>nd x && gW xs
end
mutual
theorem pH:∀d:PyData,d.canLay0=true->nd d=true
 |.none,_=>rfl
 |.bool _,_=>rfl
 |.int _,_=>rfl
 |.str _,_=>rfl
 |.list xs,h=>by unfold nd;exact XA xs (by simpa [PyData.canLay0] using h)
 |.tuple xs,h=>by unfold nd;exact XA xs (by simpa [PyData.canLay0] using h)
 |.dict kvs,h=>by simp [PyData.canLay0] at h
theorem XA:∀ds:List PyData,PyData.canLayAll0 ds=true->gW ds=true
 |[],_=>rfl
 |x::xs,h=>by
  have h':x.canLay0=true/\PyData.canLayAll0 xs=true:=by simpa [PyData.canLayAll0] using h
  unfold gW
  rw [pH x h'.1,XA xs h'.2];rfl
end
theorem Fc {d:PyData}(h:SeqAt.shaped d=true):nd d=true:=pH d (SeqAt.canLay_of_shaped h)
/-- a dict with texts as keys,as data -/
abbrev Fy (b:Bool)(ks:List Str)(ds:List PyData):PyData:=.dict ((.bool b,.bool true)::(ks.map .str).zip ds)
abbrev IJ (ks:List Str)(ds:List PyData):PyData:=Fy true ks ds
def Jl:List Str->List V->Str->Option V
 |k::ks,v::vs,x=>if k=x then some v else Jl ks vs x
 |_,_,_=>none
structure N3 (b:Bool)(ws:List (Key×V))(ks:List Str)(vs:List V)(ds:List PyData):Prop where
 len:ks.length=vs.length
 lend:ks.length=ds.length
 le:ws.length<=ks.length
 int:∀i:Int,valV ws (.inl i)=none
 str:∀x:Str,valV ws (.inr x)=Jl ks vs x
 ord:b=false->ws.map (·.1)=ks.map Sum.inr
/-- an instance,as data: its RS address,its Ie names,what Mn hold -/
abbrev Cy (C:Addr)(nm:List Str)(ds:List PyData):PyData:=.dict [(.int (C:Nat),.list (nm.map .str)),(.none,.list ds)]
mutual
inductive Rp (F:Hp):V->PyData->List Addr->Prop
 |non:Rp F .non .none []
 |bl (b:Bool):Rp F (.bl b) (.bool b) []
 |int (i:Int):Rp F (.int i) (.int i) []
 |str (x:Str):Rp F (.str x) (.str x) []
 |lst {a:Addr} {xs:List V} {ds:List PyData} {as:List Addr}:F a=some (.lst xs)->az F xs ds as->Rp F (.ref a) (.list ds) (a::as)
 |tup {a:Addr} {xs:List V} {ds:List PyData} {as:List Addr}:F a=some (.tup xs)->az F xs ds as->Rp F (.ref a) (.tuple ds) as
 |tupP {a:Addr} {o:Obj} {xs:List V} {ds:List PyData} {as:List Addr}:F a=some (.frz o (.tup xs))->o.cls=.type "tuple" /\ o.dict=none->az F xs ds as->Rp F (.ref a) (.dict [(.list [],.tuple ds)]) as
 |qt {a C dx:Addr} {nm:List Str} {vs:List V} {ds:List PyData} {as:List Addr}:F a=some (.ins C dx (nm.zip vs))->nm.length=ds.length->az F vs ds as->Rp F (.ref a) (.dict [(.int (C:Nat),.list (nm.map .str)),(.none,.list ds)]) as
 |sS {a C dd:Addr} {nm:Str} {o:Obj} {v:V} {d:PyData} {as:List Addr}:F a=some (L2.ExO o)->L2.ExZ (.ref C) (some dd) o->F dd=some (.xd [(("value" : Str),v)])->Rp F v d as->Rp F (.ref a) (.dict [(.int (C:Nat),.str nm),(.none,d)]) as
 |sM {b:Bool} {a:Addr} {ws:List (Key×V)} {ks:List Str} {vs:List V} {ds:List PyData} {as:List Addr}:F a=some (.dK ws)->N3 b ws ks vs ds->az F vs ds as->Rp F (.ref a) (Fy b ks ds) as
inductive az (F:Hp):List V->List PyData->List Addr->Prop
 |nil:az F [] [] []
 |cons {v:V} {vs:List V} {d:PyData} {ds:List PyData} {as bs:List Addr}:Rp F v d as->az F vs ds bs->az F (v::vs) (d::ds) (as++bs)
end
section
variable {F F' H H':Hp}{v:V}{d:PyData}{as:List Addr}
mutual
theorem Rp.mono (e:Same F F'):∀{v:V} {d:PyData} {as:List Addr},Rp F v d as->Rp F' v d as
 |_,_,_,.non=>.non
 |_,_,_,.bl b=>.bl b
 |_,_,_,.int i=>.int i
 |_,_,_,.str x=>.str x
 |_,_,_,.lst h r=>.lst (e _ _ h) (az.mono e r)
 |_,_,_,.tup h r=>.tup (e _ _ h) (az.mono e r)
 |_,_,_,.tupP h c r=>.tupP (e _ _ h) c (az.mono e r)
 |_,_,_,.qt h c r=>.qt (e _ _ h) c (az.mono e r)
 |_,_,_,.sS h z k r=>.sS (e _ _ h) z (e _ _ k) (Rp.mono e r)
 |_,_,_,.sM h c r=>.sM (e _ _ h) c (az.mono e r)
theorem az.mono (e:Same F F'):∀{vs:List V} {ds:List PyData} {as:List Addr},az F vs ds as->az F' vs ds as
 |_,_,_,.nil=>.nil
 |_,_,_,.cons h r=>.cons (Rp.mono e h) (az.mono e r)
end
mutual
theorem Rp.dp {K:PySem.W.Frag}:∀{v:V} {d:PyData} {as:List Addr},Rp F v d as->nd d=true->Dp K F v d
 |_,_,_,.non,_=>.non
 |_,_,_,.bl b,_=>.bl b
 |_,_,_,.int i,_=>.int i
 |_,_,_,.str x,_=>.str x
 |_,_,_,.lst h r,n=>.lst (.inl (.inl h)) (az.dp r (by unfold nd at n;exact n))
 |_,_,_,.tup h r,n=>.tup (.inl (.inl h)) (az.dp r (by unfold nd at n;exact n))
 |_,_,_,.tupP h c r,n=>by unfold nd at n;cases n
 |_,_,_,.qt h c r,n=>by unfold nd at n;cases n
 |_,_,_,.sS h _ k r,n=>by unfold nd at n;cases n
 |_,_,_,.sM h c r,n=>by unfold nd at n;cases n
theorem az.dp {K:PySem.W.Frag}:∀{vs:List V} {ds:List PyData} {as:List Addr},az F vs ds as->gW ds=true->DpAll K F vs ds
 |_,_,_,.nil,_=>.nil
 |_,_,_,.cons h r,n=>by
  unfold gW at n
  obtain⟨n1,n2⟩:=KaN.mp n
  exact .cons (Rp.dp h n1) (az.dp r n2)
end
mutual
theorem Rp.dom:∀{v:V} {d:PyData} {as:List Addr},Rp F v d as->∀a∈as,∃xs,F a=some (.lst xs)
 |_,_,_,.non,_,h=>by cases h
 |_,_,_,.bl b,_,h=>by cases h
 |_,_,_,.int i,_,h=>by cases h
 |_,_,_,.str x,_,h=>by cases h
 |_,_,_,.lst (xs:=xs) h r,b,hb=>by
  rcases Kah.mp hb with e|e
  ·rw [e];exact⟨xs,h⟩
  ·exact az.dom r b e
 |_,_,_,.tup h r,b,hb=>az.dom r b hb
 |_,_,_,.tupP h _ r,b,hb=>az.dom r b hb
 |_,_,_,.qt h _ r,b,hb=>az.dom r b hb
 |_,_,_,.sS h _ _ r,b,hb=>Rp.dom r b hb
 |_,_,_,.sM h _ r,b,hb=>az.dom r b hb
theorem az.dom:∀{vs:List V} {ds:List PyData} {as:List Addr},az F vs ds as->∀a∈as,∃xs,F a=some (.lst xs)
 |_,_,_,.nil,_,h=>by cases h
 |_,_,_,.cons h r,b,hb=>by
  rcases Kam.mp hb with e|e
  ·exact Rp.dom h b e
  ·exact az.dom r b e
end
def del (F:Hp)(a:Addr):Hp:=λb=>if b=a then none else F b
theorem Nn {F:Hp}{a:Addr}:del F a a=none:=by unfold del;rw [if_pos rfl]
theorem zh {F:Hp}{a b:Addr}(h:b≠a):del F a b=F b:=by unfold del;rw [if_neg h]
mutual
theorem Rp.nG {a:Addr}{ys:List V}(ha:F a=some (.lst ys)):∀{v:V} {d:PyData} {as:List Addr},Rp F v d as->a∉as->Rp (del F a) v d as
 |_,_,_,.non,_=>.non
 |_,_,_,.bl b,_=>.bl b
 |_,_,_,.int i,_=>.int i
 |_,_,_,.str x,_=>.str x
 |_,_,_,.lst (a:=b) h r,hn=>.lst (by rw [zh (λe=>hn (by rw [e];exact Kaa))];exact h) (az.nG ha r λe=>hn (Kab _ e))
 |_,_,_,.tup (a:=b) h r,hn=>.tup (by rw [zh (λe=>by rw [e,ha] at h;cases h)];exact h) (az.nG ha r hn)
 |_,_,_,.tupP (a:=b) h c r,hn=>.tupP (by rw [zh (λe=>by rw [e,ha] at h;cases h)];exact h) c (az.nG ha r hn)
 |_,_,_,.qt (a:=b) h c r,hn=>.qt (by rw [zh (λe=>by rw [e,ha] at h;cases h)];exact h) c (az.nG ha r hn)
 |_,_,_,.sS (a:=b) (dd:=b2) h z k r,hn=>.sS (by rw [zh (λe=>by rw [e,ha] at h;unfold L2.ExO at h;cases h)];exact h) z (by rw [zh (λe=>by rw [e,ha] at k;cases k)];exact k) (Rp.nG ha r hn)
 |_,_,_,.sM (a:=b) h c r,hn=>.sM (by rw [zh (λe=>by rw [e,ha] at h;cases h)];exact h) c (az.nG ha r hn)
theorem az.nG {a:Addr}{ys:List V}(ha:F a=some (.lst ys)):∀{vs:List V} {ds:List PyData} {as:List Addr},az F vs ds as->a∉as->az (del F a) vs ds as
 |_,_,_,.nil,_=>.nil
 |_,_,_,.cons h r,hn=>.cons (Rp.nG ha h λe=>hn (Kac _ e)) (az.nG ha r λe=>hn (Kao _ e))
end
theorem az.len {vs:List V}{ds:List PyData}{as:List Addr}(h:az F vs ds as):vs.length=ds.length:=by
 induction ds generalizing vs as with
 |nil=>cases h;rfl
 |cons d ds ih=>
  cases h with
  |cons h r=>
   have z:=ih r
   rw [Kad,Kad,z]
theorem az.get {vs:List V}{ds:List PyData}{as:List Addr}{i:Nat}{d:PyData}(h:az F vs ds as)(e:ds[i]? = some d):∃v bs,vs[i]? = some v/\Rp F v d bs:=by
 induction ds generalizing vs as i with
 |nil=>cases e
 |cons c ds ih=>
  cases h with
  |cons h r=>
   cases i with
   |zero=>cases e;exact⟨_,_,rfl,h⟩
   |succ i=>
    obtain⟨w,bs,q1,q2⟩:=ih (i:=i) r e
    exact⟨w,bs,q1,q2⟩
theorem az.app {vs ws:List V}{ds es:List PyData}{as bs:List Addr}(h:az F vs ds as)(g:az F ws es bs):az F (vs++ws) (ds++es) (as++bs):=by
 induction ds generalizing vs as with
 |nil=>cases h;exact g
 |cons d ds ih=>
  cases h with
  |cons h r=>
   rw [KaR]
   exact .cons h (ih r)
theorem az.drop {vs:List V}{ds:List PyData}{as:List Addr}(h:az F vs ds as)(n:Nat):∃bs,az F (vs.drop n) (ds.drop n) bs/\bs.Sublist as:=by
 induction n generalizing vs ds as with
 |zero=>exact⟨as,h,Ka2.refl _⟩
 |succ n ih=>
  cases h with
  |nil=>exact⟨[],.nil,Ka2.refl _⟩
  |cons h r=>
   obtain⟨bs,q,z⟩:=ih r
   exact⟨bs,q,z.trans (Kby _ _)⟩
theorem az.take {vs:List V}{ds:List PyData}{as:List Addr}(h:az F vs ds as)(n:Nat):∃bs,az F (vs.take n) (ds.take n) bs/\bs.Sublist as:=by
 induction n generalizing vs ds as with
 |zero=>exact⟨[],.nil,List.nil_sublist _⟩
 |succ n ih=>
  cases h with
  |nil=>exact⟨[],.nil,Ka2.refl _⟩
  |cons h r=>
   obtain⟨bs,q,z⟩:=ih r
   exact⟨_,.cons h q,Ka2.append (Ka2.refl _) z⟩
theorem Rp.int_inv {i:Int}(h:Rp F v (.int i) as):v=.int i:=by cases h;rfl
theorem Rp.bool_inv {b:Bool}(h:Rp F v (.bool b) as):v=.bl b:=by cases h;rfl
theorem Rp.str_inv {b:Str}(h:Rp F v (.str b) as):v=.str b:=by cases h;rfl
theorem Rp.none_inv (h:Rp F v .none as):v=.non:=by cases h;rfl
theorem Rp.aP {ds:List PyData}(h:Rp F v (.list ds) as):∃a xs bs,v=.ref a/\F a=some (.lst xs)/\az F xs ds bs/\as=a::bs:=by
 cases h with
 |lst h r=>exact⟨_,_,_,rfl,h,r,rfl⟩
theorem Rp.cg {ds:List PyData}(h:Rp F v (.tuple ds) as):∃a xs,v=.ref a/\F a=some (.tup xs)/\az F xs ds as:=by
 cases h with
 |tup h r=>exact⟨_,_,rfl,h,r⟩
end
theorem az.ints {F:Hp}:∀{ns:List Int} {vs:List V} {as:List Addr},az F vs (ns.map .int) as->vs=ns.map V.int
 |[],_,_,h=>by cases h;rfl
 |n::ns,_,_,h=>by
  cases h with
  |cons h r=>rw [Rp.int_inv h,az.ints r];rfl
theorem az.qJ {F:Hp}:∀(ns:List Int),az F (ns.map V.int) (ns.map .int) []
 |[]=>.nil
 |n::ns=>.cons (as:=[]) (.int n) (az.qJ ns)
theorem az.bools {F:Hp}:∀{ns:List Bool} {vs:List V} {as:List Addr},az F vs (ns.map .bool) as->vs=ns.map V.bl
 |[],_,_,h=>by cases h;rfl
 |n::ns,_,_,h=>by
  cases h with
  |cons h r=>rw [Rp.bool_inv h,az.bools r];rfl
mutual
def aM:PyData->Bool
 |.none=>true
 |.bool _=>true
 |.int _=>true
 |.str _=>true
 |.list _=>false
 |.tuple xs=>fM xs
 |.dict _=>false
def fM:List PyData->Bool
 |[]=>true
 |x::xs=>aM x && fM xs
end
mutual
theorem Rp.aM {F:Hp}:∀{v:V} {d:PyData} {as:List Addr},Rp F v d as->aM d=true->as=[]
 |_,_,_,.non,_=>rfl
 |_,_,_,.bl b,_=>rfl
 |_,_,_,.int i,_=>rfl
 |_,_,_,.str x,_=>rfl
 |_,_,_,.lst h r,e=>by unfold Pu.aM at e;cases e
 |_,_,_,.tup h r,e=>az.aM r (by unfold Pu.aM at e;exact e)
 |_,_,_,.tupP h _ r,e=>by unfold Pu.aM at e;cases e
 |_,_,_,.qt h _ r,e=>by unfold Pu.aM at e;cases e
 |_,_,_,.sS h _ _ r,e=>by unfold Pu.aM at e;cases e
 |_,_,_,.sM h _ r,e=>by unfold Pu.aM at e;cases e
theorem az.aM {F:Hp}:∀{vs:List V} {ds:List PyData} {as:List Addr},az F vs ds as->fM ds=true->as=[]
 |_,_,_,.nil,_=>rfl
 |_,_,_,.cons h r,e=>by
  unfold fM at e
  obtain⟨e1,e2⟩:=KaN.mp e
  rw [Rp.aM h e1,az.aM r e2];rfl
end
inductive Slot where
 |emp
 |dat (d:PyData)
 |own (d:PyData)
 |aC (ds:List PyData) (o:Bool)
 |cI (f:List (Key×PyData))
 |bf
 |fix (v:V)
 |u6 (d:PyData)
 |ins (C:Addr) (nm:List Str) (ds:List PyData)
 |obj (C a:Addr) (nm:List Str) (ds:List PyData)
 |eJ (f:List (NestedKey×PyData))
 |eI (es:List (NestedKey×PyData×PyData))
 |g9 (es:List (NestedKey×PyData×PyData))
 |cB (es:List (NestedKey×PyData×PyData))
 |fn (f c:Addr) (q:Str)
 |uv (B:List Addr) (C a:Addr) (nm:List Str) (ds:List PyData)
 |tV (B:List Addr) (C:Addr) (nm:List Str) (ds:List PyData)
 |Jy (o:Option (Addr×Addr)) (ks:List Str) (ds:List PyData) (f:List (Str×PyData))
def BY:List (NestedKey×PyData)->NestedKey->Option PyData
 |[],_=>none
 |(k,d)::r,j=>if k=j then some d else BY r j
/-- what a dict holds,bM newest first -/
def cD:List (Key×PyData)->Key->Option PyData
 |[],_=>none
 |(k,d)::r,j=>if k=j then some d else cD r j
def dY (F:Hp):Option V->Option PyData->Prop
 |none,none=>True
 |some v,some d=>∃as,Rp F v d as
 |_,_=>False
theorem dY.mono {F F':Hp}(e:Same F F'):∀{x:Option V} {d:Option PyData},dY F x d->dY F' x d
 |none,none,_=>True.intro
 |some v,some d,h=>by obtain⟨as,h⟩:=h;exact⟨as,h.mono e⟩
 |none,some _,h=>h
 |some _,none,h=>h
/-- bM frozen heap,and bM lists at fp as Mn stand -/
def Jo (F H:Hp)(fp:List Addr):Hp:=λa=>if a∈fp then H a else F a
theorem NC {F H:Hp}{fp:List Addr}{a:Addr}(h:a∈fp):Jo F H fp a=H a:=if_pos h
theorem ya {F H:Hp}{fp:List Addr}{a:Addr}(h:a∉fp):Jo F H fp a=F a:=if_neg h
theorem Ut {F H F' H':Hp}{fp:List Addr}(s:Same F F')(h:∀a∈fp,∀o,H a=some o->H' a=some o):Same (Jo F H fp) (Jo F' H' fp):=λa o e=>by
 by_cases m:a∈fp
 ·rw [NC m] at e ⊢;exact h a m o e
 ·rw [ya m] at e ⊢;exact s a o e
/-- bM lists within never change as tables do -/
theorem Rp.stay {F H:Hp}{fp:List Addr}{v:V}{d:PyData}(r:Rp (Jo F H fp) v d fp){a:Addr}{o:HO}(m:a∈fp)(e:H a=some o):vD o:=by
 obtain⟨xs,hx⟩:=r.dom a m
 rw [NC m,e] at hx
 cases hx
 intro ps z;cases z
/-- an entry of a dict with tuples as keys: its key and its value as data -/
def gE (F:Hp)(p:bW)(e:NestedKey×PyData×PyData):Prop:=p.1=e.1/\dD F p.1 p.2.1/\(∃as,Rp F (.ref p.2.1) e.2.1 as)/\∃as,Rp F p.2.2 e.2.2 as
theorem gE.mono {F F':Hp}{p:bW}{e:NestedKey×PyData×PyData}(s:Same F F')(h:gE F p e):gE F' p e:=⟨h.1,h.2.1.mono s,h.2.2.1.imp λ_ r=>r.mono s,h.2.2.2.imp λ_ r=>r.mono s⟩
theorem Ku {F F':Hp}(s:Same F F'){ws:List bW}{es:List (NestedKey×PyData×PyData)}(h:Paired (gE F) ws es):Paired (gE F') ws es:=by
 induction h with
 |nil=>exact .nil
 |cons h _ ih=>exact .cons (h.mono s) ih
/-- an entry whose value is yf own -/
def iD (F:Hp)(as:List Addr)(p:bW)(e:NestedKey×PyData×PyData):Prop:=p.1=e.1/\dD F p.1 p.2.1/\(∃bs,Rp F (.ref p.2.1) e.2.1 bs)/\∃bs,Rp F p.2.2 e.2.2 bs/\bs.Nodup/\∀b∈bs,b∈as
theorem iD.mono {F F':Hp}{as as':List Addr}{p:bW}{e:NestedKey×PyData×PyData}(s:Same F F')(sa:∀a∈as,a∈as')(h:iD F as p e):iD F' as' p e:=⟨h.1,h.2.1.mono s,h.2.2.1.imp λ_ r=>r.mono s,h.2.2.2.imp λ_ r=>⟨r.1.mono s,r.2.1,λb m=>sa b (r.2.2 b m)⟩⟩
theorem iD.ent {F:Hp}{as:List Addr}{p:bW}{e:NestedKey×PyData×PyData}(h:iD F as p e):gE F p e:=⟨h.1,h.2.1,h.2.2.1,h.2.2.2.imp λ_ r=>r.1⟩
theorem gxi {F F':Hp}{as as':List Addr}(s:Same F F')(sa:∀a∈as,a∈as'){ws:List bW}{es:List (NestedKey×PyData×PyData)}(h:Paired (iD F as) ws es):Paired (iD F' as') ws es:=by
 induction h with
 |nil=>exact .nil
 |cons h _ ih=>exact .cons (h.mono s sa) ih
theorem M7 {F:Hp}{as:List Addr}{ws:List bW}{es:List (NestedKey×PyData×PyData)}(h:Paired (iD F as) ws es):Paired (gE F) ws es:=by
 induction h with
 |nil=>exact .nil
 |cons h _ ih=>exact .cons h.ent ih
/-- bM last name of a world -/
abbrev Rk:Str := "rows"
def xB (sk:Option Addr)(F H:Hp)(x:Option V)(sl:Slot)(fp:List Addr):Prop:=match sl with
 |.emp=>fp=[]
 |.dat d=>fp=[]/\∃v as,x=some v/\Rp F v d as
 |.own d=>∃v,x=some v/\Rp F v d fp
 |.aC ds o=>∃a vs as,x=some (.ref a)/\H a=some (.lst vs)/\F a=none/\az F vs ds as/\fp=a::(if o then as else [])
 |.cI f=>∃a ws,x=some (.ref a)/\H a=some (.dK ws)/\F a=none/\ws.length<=f.length/\(∀k:Key,dY F (valV ws k) (cD f k))/\fp=[a]
 |.eJ f=>∃a ws,x=some (.ref a)/\H a=some (bV a ws)/\F a=none/\(ws.length<=f.length/\∀p∈ws,dD F p.1 p.2.1)/\(∀k:NestedKey,dY F (dz ws k) (BY f k))/\fp=[a]
 |.g9 es=>fp=[]/\∃a od ws,x=some (.ref a)/\F a=some (.frz od (bV a ws))/\Paired (gE F) ws es
 |.eI es=>∃a ws,x=some (.ref a)/\H a=some (bV a ws)/\F a=none/\Paired (gE F) ws es/\fp=[a]
 |.cB es=>∃a ws as,x=some (.ref a)/\H a=some (bV a ws)/\F a=none/\Paired (iD F as) ws es/\(∀b∈as,∃xs,F b=some (.lst xs))/\fp=a::as
 |.bf=>fp=[]/\∃a,x=some (.ref a)/\sk=some a
 |.fix v=>fp=[]/\x=some v
 |.fn f c q=>fp=[]/\x=some (.ref f)/\F c=some (LamX.CodeO c q)
 |.u6 d=>∃v,x=some v/\Rp (Jo F H fp) v d fp/\∀a∈fp,F a=none
 |.ins C nm ds=>fp=[]/\∃a dx vs as,x=some (.ref a)/\F a=some (.ins C dx (nm.zip vs))/\nm.length=ds.length/\az F vs ds as
 |.obj C a nm ds=>∃dx vs as,x=some (.ref a)/\H a=some (.ins C dx (nm.zip vs))/\F a=none/\H dx=some (.own a)/\F dx=none/\nm.length=ds.length/\az F vs ds as/\fp=[a,dx]
 |.uv B C a nm ds=>∃dx vs as,x=some (.ref a)/\H a=some (.ins C dx (nm.zip vs))/\F a=none/\H dx=some (.own a)/\F dx=none/\nm.length=ds.length/\az F vs ds as/\(∀b∈B,F b≠none/\b∉as)/\fp=[a,dx]
 |.tV B C nm ds=>fp=[]/\∃a dx vs as,x=some (.ref a)/\F a=some (.ins C dx (nm.zip vs))/\nm.length=ds.length/\az F vs ds as/\∀b∈B,b∉as
 |.Jy o ks ds f=>∃a b ws vs as rs bs,x=some (.ref a)/\(∀p,o=some p->p=(a,b))/\H a=some (.dK ws)/\F a=none/\H b=some (.dK rs)/\F b=none/\N3 true ws (ks++[Rk]) (vs++[.ref b]) (ds++[.none])/\az F vs ds as/\rs.map (·.1)=f.map (λp=>Sum.inr p.1)/\az F (rs.map (·.2)) (f.map (·.2)) bs/\fp=[a,b]
inductive Slots (sk:Option Addr)(F H:Hp):List (Option V)->List Slot->List (List Addr)->Prop
 |nil:Slots sk F H [] [] []
 |cons {x:Option V} {xs:List (Option V)} {sl:Slot} {NY:List Slot} {fp:List Addr} {ak:List (List Addr)}:xB sk F H x sl fp->Slots sk F H xs NY ak->Slots sk F H (x::xs) (sl::NY) (fp::ak)
def kB (s:aa):List V:=[.int s.1,.int s.2.1,.int s.2.2]
structure bA (sk:Option Addr)(F H:Hp)(s:aa):Prop where
 at':∀a,sk=some a->H a=some (.lst (kB s))/\F a=none
 tab:fB F H
instance (sk:Option Addr)(F H:Hp)(s:aa):CoeFun (bA sk F H s) λ_=>∀a,sk=some a->H a=some (.lst (kB s))/\F a=none:=⟨bA.at'⟩
/-- an FH step -/
structure Step (sk:Option Addr)(F H F' H':Hp):Prop where
 sub:Same F F'
 sub':Same F' H'
 fr:∀(a:Addr) (o:HO) (_:sk≠some a) (_:H a=some o) (_:vD o:=by first|assumption|(intro ps z;cases z;done)|(intro ps z;unfold bV at z;cases z;done)),H' a=some o
 dm:∀a,H a≠none->H' a≠none
 new:∀a o,F' a=some o->F a=some o∨H a=none
/-- a step d8 Lw all as it is and may make NZ new -/
structure bw (F H F' H':Hp):Prop where
 sub:Same F F'
 sub':Same F' H'
 fr:∀(a:Addr) (o:HO) (_:(none:Option Addr)≠some a) (_:H a=some o),H' a=some o
 dm:∀a,H a≠none->H' a≠none
 new:∀a o,F' a=some o->F a=some o∨H a=none
 nt:(∀a ps,F a≠some (.tbl ps))->∀a ps,F' a≠some (.tbl ps)
theorem bw.any {sk:Option Addr}{F H F' H':Hp}(h:bw F H F' H'):Step sk F H F' H':=⟨h.sub,h.sub',λa o _ e _=>h.fr a o nofun e,h.dm,h.new⟩
theorem Step.refl {sk:Option Addr}{F H:Hp}(h:Same F H):Step sk F H F H:=⟨Same.refl _,h,λ_ _ _ h _=>h,λ_ h=>h,λ_ _ h=>.inl h⟩
theorem Step.trans {sk:Option Addr}{F H F1 H1 F2 H2:Hp}(a:Step sk F H F1 H1)(b:Step sk F1 H1 F2 H2):Step sk F H F2 H2:=by
 refine⟨a.sub.trans b.sub,b.sub',λx o hx h hs=>b.fr x o hx (a.fr x o hx h hs) hs,λx h=>b.dm x (a.dm x h),λx o h=>?_⟩
 rcases b.new x o h with h|h
 ·exact a.new x o h
 ·refine .inr ?_
  cases e:H x with
  |none=>rfl
  |some u=>exact absurd h (a.dm x (by rw [e];exact nofun))
/-- a new object -/
theorem Step.alloc {sk:Option Addr}{F H:Hp}{p:Addr}{o:HO}(h:Same F H)(np:H p=none):Step sk F H (upd F p o) (upd H p o):=by
 have nF:F p=none:=h.free np
 refine⟨λa u e=>?_,λa u e=>?_,λa u _ e _=>?_,λa e=>?_,λa u e=>?_⟩
 ·rw [upd_ne (ne_of_none e nF)];exact e
 ·by_cases q:a=p
  ·rw [q,upd_same] at e ⊢;exact e
  ·rw [upd_ne q] at e ⊢;exact h a u e
 ·rw [upd_ne (ne_of_none e np)];exact e
 ·by_cases q:a=p
  ·rw [q,upd_same];exact nofun
  ·rw [upd_ne q];exact e
 ·by_cases q:a=p
  ·rw [q];exact .inr np
  ·rw [upd_ne q] at e;exact .inl e
theorem bw.alloc {F H:Hp}{p:Addr}{o:HO}(h:Same F H)(np:H p=none)(ho:vD o:=by intro ps z;cases z):bw F H (upd F p o) (upd H p o):=
 let st:=Step.alloc (sk:=none) (o:=o) h np
 ⟨st.sub,st.sub',λa u _ e=>by rw [upd_ne (ne_of_none e np)];exact e,st.dm,st.new,λh a ps z=>by
  by_cases e:a=p
  ·rw [e,upd_same] at z;exact ho ps (Option.some.inj z)
  ·rw [upd_ne e] at z;exact h a ps z⟩
theorem bw.refl {F H:Hp}(h:Same F H):bw F H F H:=⟨Same.refl _,h,λ_ _ _ h=>h,λ_ h=>h,λ_ _ h=>.inl h,λh=>h⟩
theorem bw.trans {F H F1 H1 F2 H2:Hp}(a:bw F H F1 H1)(b:bw F1 H1 F2 H2):bw F H F2 H2:=
 let st:=(a.any (sk:=none)).trans b.any
 ⟨st.sub,st.sub',λx o hx h=>b.fr x o hx (a.fr x o hx h),st.dm,st.new,λh=>b.nt (a.nt h)⟩
theorem uO {F F':Hp}{b:Addr}(s:Same F F')(h:F b≠none):F' b≠none:=by
 cases q:F b with
 |none=>exact absurd q h
 |some o=>rw [s b o q];exact nofun
theorem xB.step {sk:Option Addr}{F H F' H':Hp}{x:Option V}{sl:Slot}{fp:List Addr}(st:Step sk F H F' H')(hs:∀a,sk=some a->a∉fp)(h:xB sk F H x sl fp):xB sk F' H' x sl fp:=by
 cases sl with
 |emp=>exact h
 |dat d=>obtain⟨e,v,as,e1,r⟩:=h;exact⟨e,v,as,e1,r.mono st.sub⟩
 |own d=>obtain⟨v,e1,r⟩:=h;exact⟨v,e1,r.mono st.sub⟩
 |aC ds o=>
  obtain⟨a,vs,as,e1,e2,e3,r,e4⟩:=h
  refine⟨a,vs,as,e1,st.fr a _ (λe=>hs a e (by rw [e4];exact Kaa)) e2,?_,r.mono st.sub,e4⟩
  cases q:F' a with
  |none=>rfl
  |some u=>
   rcases st.new a u q with z|z
   ·rw [e3] at z;cases z
   ·rw [e2] at z;cases z
 |eJ f=>
  obtain⟨a,ws,e1,e2,e3,e4,r,e5⟩:=h
  refine⟨a,ws,e1,st.fr a _ (λe=>hs a e (by rw [e5];exact Kaa)) e2,?_,⟨e4.1,λp hp=>(e4.2 p hp).mono st.sub⟩,λk=>(r k).mono st.sub,e5⟩
  cases q:F' a with
  |none=>rfl
  |some u=>
   rcases st.new a u q with z|z
   ·rw [e3] at z;cases z
   ·rw [e2] at z;cases z
 |g9 es=>obtain⟨e,a,od,ws,e1,e2,r⟩:=h;exact⟨e,a,od,ws,e1,st.sub _ _ e2,Ku st.sub r⟩
 |eI es=>
  obtain⟨a,ws,e1,e2,e3,r,e5⟩:=h
  refine⟨a,ws,e1,st.fr a _ (λe=>hs a e (by rw [e5];exact Kaa)) e2,?_,Ku st.sub r,e5⟩
  cases q:F' a with
  |none=>rfl
  |some u=>
   rcases st.new a u q with z|z
   ·rw [e3] at z;cases z
   ·rw [e2] at z;cases z
 |cB es=>
  obtain⟨a,ws,as,e1,e2,e3,r,e4,e5⟩:=h
  refine⟨a,ws,as,e1,st.fr a _ (λe=>hs a e (by rw [e5];exact Kaa)) e2,?_,gxi st.sub (λ_ m=>m) r,λb m=>(e4 b m).imp λ_ z=>st.sub _ _ z,e5⟩
  cases q:F' a with
  |none=>rfl
  |some u=>
   rcases st.new a u q with z|z
   ·rw [e3] at z;cases z
   ·rw [e2] at z;cases z
 |cI f=>
  obtain⟨a,ws,e1,e2,e3,e4,r,e5⟩:=h
  refine⟨a,ws,e1,st.fr a _ (λe=>hs a e (by rw [e5];exact Kaa)) e2,?_,e4,λk=>(r k).mono st.sub,e5⟩
  cases q:F' a with
  |none=>rfl
  |some u=>
   rcases st.new a u q with z|z
   ·rw [e3] at z;cases z
   ·rw [e2] at z;cases z
 |bf=>exact h
 |fix v=>exact h
 |fn f c q=>exact⟨h.1,h.2.1,st.sub _ _ h.2.2⟩
 |u6 d=>
  obtain⟨v,e1,r,e2⟩:=h
  refine⟨v,e1,r.mono (Ut st.sub λa m o e=>st.fr a o (λz=>hs a z m) e (r.stay m e)),λa m=>?_⟩
  cases q:F' a with
  |none=>rfl
  |some u=>
   rcases st.new a u q with z|z
   ·rw [e2 a m] at z;cases z
   ·obtain⟨xs,hx⟩:=r.dom a m
    rw [NC m,z] at hx;cases hx
 |ins C nm ds=>obtain⟨e,a,dx,vs,as,e1,e2,e3,r⟩:=h;exact⟨e,a,dx,vs,as,e1,st.sub _ _ e2,e3,r.mono st.sub⟩
 |obj C a nm ds=>
  obtain⟨dx,vs,as,e1,e2,e3,e4,e5,e6,r,e7⟩:=h
  have gone:∀{b:Addr} {o:HO},H b=some o->F b=none->F' b=none:=λ{b o} h1 h2=>by
   cases q:F' b with
   |none=>rfl
   |some u=>
    rcases st.new b u q with z|z
    ·rw [h2] at z;cases z
    ·rw [h1] at z;cases z
  exact⟨dx,vs,as,e1,st.fr a _ (λe=>hs a e (by rw [e7];exact Kaa)) e2,gone e2 e3,st.fr dx _ (λe=>hs dx e (by rw [e7];exact Kab _ Kaa)) e4,gone e4 e5,e6,r.mono st.sub,e7⟩
 |Jy o ks ds f=>
  obtain⟨a,b,ws,vs,as,rs,bs,e1,eo,e2,e3,e4,e5,e6,r,e7,e8,e9⟩:=h
  have gone:∀{b:Addr} {o:HO},H b=some o->F b=none->F' b=none:=λ{b o} h1 h2=>by
   cases q:F' b with
   |none=>rfl
   |some u=>
    rcases st.new b u q with z|z
    ·rw [h2] at z;cases z
    ·rw [h1] at z;cases z
  exact⟨a,b,ws,vs,as,rs,bs,e1,eo,st.fr a _ (λe=>hs a e (by rw [e9];exact Kaa)) e2,gone e2 e3,st.fr b _ (λe=>hs b e (by rw [e9];exact Kab _ Kaa)) e4,gone e4 e5,e6,r.mono st.sub,e7,e8.mono st.sub,e9⟩
 |tV B C nm ds=>obtain⟨e,a,dx,vs,as,e1,e2,e3,r,hB⟩:=h;exact⟨e,a,dx,vs,as,e1,st.sub _ _ e2,e3,r.mono st.sub,hB⟩
 |uv B C a nm ds=>
  obtain⟨dx,vs,as,e1,e2,e3,e4,e5,e6,r,hB,e7⟩:=h
  have gone:∀{b:Addr} {o:HO},H b=some o->F b=none->F' b=none:=λ{b o} h1 h2=>by
   cases q:F' b with
   |none=>rfl
   |some u=>
    rcases st.new b u q with z|z
    ·rw [h2] at z;cases z
    ·rw [h1] at z;cases z
  exact⟨dx,vs,as,e1,st.fr a _ (λe=>hs a e (by rw [e7];exact Kaa)) e2,gone e2 e3,st.fr dx _ (λe=>hs dx e (by rw [e7];exact Kab _ Kaa)) e4,gone e4 e5,e6,r.mono st.sub,λb m=>⟨uO st.sub (hB b m).1,(hB b m).2⟩,e7⟩
theorem Slots.step {sk:Option Addr}{F H F' H':Hp}{σ:List (Option V)}{ρ:List Slot}{ak:List (List Addr)}(st:Step sk F H F' H')(hs:∀a,sk=some a->a∉ak.flatten)(h:Slots sk F H σ ρ ak):Slots sk F' H' σ ρ ak:=by
 induction h with
 |nil=>exact .nil
 |cons h r ih=>
  refine .cons (h.step st λa e m=>hs a e ?_) (ih λa e m=>hs a e ?_)
  ·rw [Kav];exact Kac _ m
  ·rw [Kav];exact Kao _ m
theorem Slots.get {sk:Option Addr}{F H:Hp}{σ:List (Option V)}{ρ:List Slot}{ak:List (List Addr)}{i:Nat}{sl:Slot}(h:Slots sk F H σ ρ ak)(e:ρ[i]? = some sl):∃x fp,σ[i]? = some x/\ak[i]? = some fp/\xB sk F H x sl fp:=by
 induction h generalizing i with
 |nil=>cases e
 |cons h r ih=>
  cases i with
  |zero=>cases e;exact⟨_,_,rfl,rfl,h⟩
  |succ i=>exact ih e
theorem Slots.set {sk:Option Addr}{F H:Hp}{σ:List (Option V)}{ρ:List Slot}{ak:List (List Addr)}{i:Nat}{x:Option V}{sl:Slot}{fp:List Addr}(h:Slots sk F H σ ρ ak)(q:xB sk F H x sl fp):Slots sk F H (σ.set i x) (ρ.set i sl) (ak.set i fp):=by
 induction h generalizing i with
 |nil=>exact .nil
 |cons h r ih=>
  cases i with
  |zero=>exact .cons q r
  |succ i=>exact .cons h ih
theorem Slots.length {sk:Option Addr}{F H:Hp}{σ:List (Option V)}{ρ:List Slot}{ak:List (List Addr)}(h:Slots sk F H σ ρ ak):σ.length=ρ.length:=by
 induction h with
 |nil=>rfl
 |cons h r ih=>simp [ih]
theorem u7 {ak:List (List Addr)}{fp:List Addr}{i:Nat}(h:(fp++ak.flatten).Nodup):(ak.set i fp).flatten.Nodup/\∀a∈(ak.set i fp).flatten,a∈fp∨a∈ak.flatten:=by
 induction ak generalizing i with
 |nil=>exact⟨KaO,λa m=>by cases m⟩
 |cons x xs ih=>
  rw [Kav] at h
  cases i with
  |zero=>
   show ((fp::xs).flatten).Nodup/\_
   rw [Kav]
   refine⟨?_,λa m=>?_⟩
   ·exact h.sublist (Ka2.append (Ka2.refl _) (Kby _ _))
   ·rcases Kam.mp (show a∈fp++xs.flatten by simpa using m) with e|e
    ·exact .inl e
    ·exact .inr (by simp only [Kav,Kam];exact .inr e)
  |succ i=>
   have h1:(fp++xs.flatten).Nodup:=h.sublist (Ka2.append (Ka2.refl _) (Kby _ _))
   obtain⟨n1,n2⟩:=ih (i:=i) h1
   show ((x::xs.set i fp).flatten).Nodup/\_
   rw [Kav]
   have hx:(x++xs.flatten).Nodup:=(Kal.mp h).2.1
   have hd:=(Kal.mp h).2.2
   refine⟨Kal.mpr ⟨(Kal.mp hx).1,n1,λa ma b mb e=>?_⟩,λa m=>?_⟩
   ·subst e
    rcases n2 a mb with z|z
    ·exact hd a z a (Kac _ ma) rfl
    ·exact (Kal.mp hx).2.2 a ma a z rfl
   ·have m2:a∈x++(xs.set i fp).flatten:=by simpa using m
    rcases Kam.mp m2 with e|e
    ·exact .inr (by simp only [Kav,Kam];exact .inl e)
    ·rcases n2 a e with z|z
     ·exact .inl z
     ·exact .inr (by simp only [Kav,Kam];exact .inr z)
/-- what slot i holds goes out -/
theorem vm {ak:List (List Addr)}{fp:List Addr}{i:Nat}(h:ak.flatten.Nodup)(e:ak[i]? = some fp):(fp++(ak.set i []).flatten).Nodup/\∀a∈fp++(ak.set i []).flatten,a∈ak.flatten:=by
 induction ak generalizing i with
 |nil=>cases e
 |cons x xs ih=>
  rw [Kav] at h
  cases i with
  |zero=>
   have e2:x=fp:=Option.some.inj e
   subst e2
   show (x++([]::xs).flatten).Nodup/\∀a∈x++([]::xs).flatten,_
   rw [Kav,Kav,Ka1]
   exact⟨h,λa m=>m⟩
  |succ i=>
   have e':xs[i]? = some fp:=e
   have hx:=Kal.mp h
   obtain⟨n1,n2⟩:=ih hx.2.1 e'
   show (fp++(x::xs.set i []).flatten).Nodup/\∀a∈fp++(x::xs.set i []).flatten,_
   rw [Kav,Kav]
   have n3:=Kal.mp n1
   refine⟨Kal.mpr ⟨n3.1,Kal.mpr ⟨hx.1,n3.2.1,λa ma b mb z=>hx.2.2 a ma b (n2 b (Kao _ mb)) z⟩,λa ma b mb z=>?_⟩,λa m=>?_⟩
   ·rcases Kam.mp mb with q|q
    ·exact hx.2.2 b q a (n2 a (Kac _ ma)) z.symm
    ·exact n3.2.2 a ma b q z
   ·rcases Kam.mp m with q|q
    ·exact Kao _ (n2 a (Kac _ q))
    ·rcases Kam.mp q with q|q
     ·exact Kac _ q
     ·exact Kao _ (n2 a (Kao _ q))
end Pu
namespace Pu
variable [aZ]
open PySem L2
abbrev Frag:=PySem.W.Frag
abbrev HQ:=List Slot->aa->Option (Vl×aa)
theorem bA.keep {sk:Option Addr}{F H F' H':Hp}{s:aa}(h:bA sk F H s)(st:bw F H F' H'):bA sk F' H' s:=by
 refine⟨λa e=>?_,⟨(ZA h.tab λb o e=>st.fr b o nofun e).t,st.nt h.tab.n⟩⟩
 obtain⟨h1,h2⟩:=h a e
 refine⟨st.fr a _ nofun h1,?_⟩
 cases q:F' a with
 |none=>rfl
 |some u=>
  rcases st.new a u q with z|z
  ·rw [h2] at z;cases z
  ·rw [h1] at z;cases z
structure Pre (sk:Option Addr)(F H:Hp)(σ:L2.St)(ρ:List Slot)(ak:List (List Addr))(s:aa):Prop where
 sub:Same F H
 bh:bA sk F H s
 slots:Slots sk F H σ ρ ak
 jH:∀a,sk=some a->a∉ak.flatten
 dX:ak.flatten.Nodup
theorem Pre.next {sk:Option Addr}{F H F' H':Hp}{σ:L2.St}{ρ:List Slot}{ak:List (List Addr)}{s s':aa}(p:Pre sk F H σ ρ ak s)(st:Step sk F H F' H')(h:bA sk F' H' s'):Pre sk F' H' σ ρ ak s':=
 ⟨st.sub',h,p.slots.step st p.jH,p.jH,p.dX⟩
/-- what is known of a new value -/
def bS (b:Bool)(H:Hp)(as:List Addr):Prop:=b=true->as.Nodup/\∀a∈as,H a=none
theorem bS.nil {b:Bool}{H:Hp}:bS b H []:=λ_=>⟨KaO,λa m=>by cases m⟩
theorem bS.no {H:Hp}{as:List Addr}:bS false H as:=λh=>by cases h
theorem bS.back {b:Bool}{H H':Hp}{as:List Addr}(h:bS b H' as)(dm:∀a,H a≠none->H' a≠none):bS b H as:=λe=>by
 obtain⟨h1,h2⟩:=h e
 refine⟨h1,λa m=>?_⟩
 cases q:H a with
 |none=>rfl
 |some u=>exact absurd (h2 a m) (dm a (by rw [q];exact nofun))
def OkE (t:Frag->TE)(ev:HQ):Prop:=∀(K:Frag) {sk:Option Addr} {F H:Hp} {σ:L2.St} {ρ:List Slot} {ak:List (List Addr)} {s:aa} {vl:Vl} {s':aa} {Q:VK},Pre sk F H σ ρ ak s->ev ρ s=some (vl,s') ->
 (∀v F' H' as,Step sk F H F' H'->bA sk F' H' s'->Rp F' v vl.1 as->bS vl.2 H as->Q v H')->t K σ H Q
structure SE where
 t:Frag->TE
 ev:HQ
 ok:OkE t ev
def OkT (t:Frag->TT)(ev:List Slot->aa->Option (Bool×aa)):Prop:=∀(K:Frag) {sk:Option Addr} {F H:Hp} {σ:L2.St} {ρ:List Slot} {ak:List (List Addr)} {s:aa} {b:Bool} {s':aa} {Q:Bool->Hp->Prop},Pre sk F H σ ρ ak s->ev ρ s=some (b,s') ->
 (∀F' H',Step sk F H F' H'->bA sk F' H' s'->Q b H')->t K σ H Q
structure ST where
 t:Frag->TT
 ev:List Slot->aa->Option (Bool×aa)
 ok:OkT t ev
/-- a list of IY -/
def OkA (t:Frag->TA)(ev:List Slot->aa->Option (List Vl×aa)):Prop:=∀(K:Frag) {sk:Option Addr} {F H:Hp} {σ:L2.St} {ρ:List Slot} {ak:List (List Addr)} {s:aa} {gk:List Vl} {s':aa} {Q:List V->Hp->Prop},Pre sk F H σ ρ ak s->ev ρ s=some (gk,s') ->
 (∀vs F' H' as,Step sk F H F' H'->bA sk F' H' s'->az F' vs (gk.map (·.1)) as->bS (gk.all λz=>z.2 ||aM z.1) H as->Q vs H')->t K σ H Q
structure SA where
 t:Frag->TA
 ev:List Slot->aa->Option (List Vl×aa)
 ok:OkA t ev
def hjl (i:Nat):SE where
 t:=λ_=>tVar i
 ev:=λρ s=>match ρ[i]? with
  |some (.dat d)=>some ((d,false),s)
  |some (.own d)=>some ((d,false),s)
  |_=>none
 ok:=by
  intro K sk F H σ ρ ak s vl s' Q p h q
  dsimp only at h
  split at h
  ·rename_i d e
   cases h
   obtain⟨x,fp,e1,e2,z,v,as,e3,r⟩:=p.slots.get e
   exact⟨v,by rw [e1,e3],q v F H as (.refl p.sub) p.bh r .no⟩
  ·rename_i d e
   cases h
   obtain⟨x,fp,e1,e2,v,e3,r⟩:=p.slots.get e
   exact⟨v,by rw [e1,e3],q v F H fp (.refl p.sub) p.bh r .no⟩
  ·cases h
def SE.ab (i:Int):SE:=⟨λ_=>tC (.int i),λ_ s=>some ((.int i,true),s),by
 intro K sk F H σ ρ ak s vl s' Q p h q
 cases h
 exact q _ F H [] (.refl p.sub) p.bh (.int i) .nil⟩
def SE.bool (i:Bool):SE:=⟨λ_=>tC (.bl i),λ_ s=>some ((.bool i,true),s),by
 intro K sk F H σ ρ ak s vl s' Q p h q
 cases h
 exact q _ F H [] (.refl p.sub) p.bh (.bl i) .nil⟩
def SE.non:SE:=⟨λ_=>tC .non,λ_ s=>some ((.none,true),s),by
 intro K sk F H σ ρ ak s vl s' Q p h q
 cases h
 exact q _ F H [] (.refl p.sub) p.bh .non .nil⟩
def SE.str (x:Str):SE:=⟨λ_=>tC (.str x),λ_ s=>some ((.str x,true),s),by
 intro K sk F H σ ρ ak s vl s' Q p h q
 cases h
 exact q _ F H [] (.refl p.sub) p.bh (.str x) .nil⟩
def SA.nil:SA:=⟨λ_=>tNil,λ_ s=>some ([],s),by
 intro K sk F H σ ρ ak s vl s' Q p h q
 cases h
 exact q [] F H [] (.refl p.sub) p.bh .nil .nil⟩
theorem bS.app {b c:Bool}{d:PyData}{F1 F2 H H1:Hp}{v:V}{as bs:List Addr}(r:Rp F1 v d as)(s1:Same F1 H1)(h:bS b H as)(g:bS c H1 bs)(dm:∀a,H a≠none->H1 a≠none):bS ((b ||aM d) && c) H (as++bs):=λe=>by
 obtain⟨e1,e2⟩:=KaN.mp e
 obtain⟨g1,g2⟩:=g e2
 have h1:as.Nodup/\∀a∈as,H a=none:=by
  rcases Kbe.mp e1 with z|z
  ·exact h z
  ·rw [r.aM z];exact⟨KaO,λa m=>by cases m⟩
 have g3:=(bS.back g dm e2).2
 refine⟨Kal.mpr ⟨h1.1,g1,λa ma b mb z=>?_⟩,λa m=>?_⟩
 ·subst z
  obtain⟨xs,hx⟩:=r.dom a ma
  have:=g2 a mb
  rw [s1 a _ hx] at this
  cases this
 ·rcases Kam.mp m with z|z
  ·exact h1.2 a z
  ·exact g3 a z
def SA.cons (e:SE)(r:SA):SA where
 t:=λK=>tCons (e.t K) (r.t K)
 ev:=λρ s=>(e.ev ρ s).bind λx=>(r.ev ρ x.2).bind λy=>some (x.1::y.1,y.2)
 ok:=by
  intro K sk F H σ ρ ak s vl s' Q p h q
  obtain⟨⟨x,s1⟩,h1,h⟩:=aL h
  obtain⟨⟨y,s2⟩,h2,h⟩:=aL h
  cases h
  refine e.ok K p h1 λv F1 H1 as st1 k1 r1 f1=>?_
  refine r.ok K (p.next st1 k1) h2 λvs F2 H2 bs st2 k2 r2 f2=>?_
  refine q _ F2 H2 (as++bs) (st1.trans st2) k2 (.cons (r1.mono st2.sub) r2) ?_
  exact bS.app (F2:=F2) r1 st1.sub' f1 f2 st1.dm
def SE.tup (a:SA):SE where
 t:=λK=>tTup (a.t K)
 ev:=λρ s=>(a.ev ρ s).bind λx=>if x.1.length<=100000 then some ((.tuple (x.1.map (·.1)),x.1.all λz=>z.2 ||aM z.1),x.2) else none
 ok:=by
  intro K sk F H σ ρ ak s vl s' Q p h q
  obtain⟨⟨x,s1⟩,h1,h⟩:=aL h
  split at h
  ·rename_i hl
   cases h
   refine a.ok K p h1 λvs F1 H1 as st k r f=>⟨?_,λpp np=>?_⟩
   ·have:=r.len
    rw [Kag] at this
    rw [this]
    exact KaB hl (by decide)
   ·have sa:bw F1 H1 (upd F1 pp (.tup vs)) (upd H1 pp (.tup vs)):=.alloc st.sub' np
    exact q _ _ _ as (st.trans sa.any) (k.keep sa) (.tup upd_same (r.mono sa.sub)) f
  ·cases h
def SE.lst (a:SA):SE where
 t:=λK=>tLst (a.t K)
 ev:=λρ s=>(a.ev ρ s).bind λx=>if x.1.length<=100000 then some ((.list (x.1.map (·.1)),x.1.all λz=>z.2 ||aM z.1),x.2) else none
 ok:=by
  intro K sk F H σ ρ ak s vl s' Q p h q
  obtain⟨⟨x,s1⟩,h1,h⟩:=aL h
  split at h
  ·rename_i hl
   cases h
   refine a.ok K p h1 λvs F1 H1 as st k r f=>⟨?_,λpp np=>?_⟩
   ·have:=r.len
    rw [Kag] at this
    rw [this]
    exact KaB hl (by decide)
   ·have sa:bw F1 H1 (upd F1 pp (.lst vs)) (upd H1 pp (.lst vs)):=.alloc st.sub' np
    refine q _ _ _ (pp::as) (st.trans sa.any) (k.keep sa) (.lst upd_same (r.mono sa.sub)) λe=>?_
    obtain⟨f1,f2⟩:=f e
    refine⟨KaP.mpr ⟨λm=>?_,f1⟩,λb m=>?_⟩
    ·obtain⟨xs,hx⟩:=r.dom pp m
     have:=st.sub' _ _ hx
     rw [np] at this;cases this
    ·rcases Kah.mp m with z|z
     ·rw [z]
      cases hq:H pp with
      |none=>rfl
      |some u=>exact absurd np (st.dm pp (by rw [hq];exact nofun))
     ·exact f2 b z
  ·cases h
def gu (F H:Hp)(z:Vl)(Q:VK):Prop:=∀v F' H' cs,bw F H F' H'->Rp F' v z.1 cs->bS z.2 H cs->Q v H'
def N4 (r:Frag->R2)(f:PyData->PyData->Option Vl):Prop:=∀(K:Frag) {F H:Hp} {x y:V} {d e:PyData} {as bs:List Addr} {z:Vl} {Q:VK},Same F H->Rp F x d as->Rp F y e bs->f d e=some z->gu F H z Q->r K x y H Q
def Rn (r:Frag->List V->Hp->VK->Prop)(f:List PyData->Option Vl):Prop:=∀(K:Frag) {F H:Hp} {xs:List V} {ds:List PyData} {as:List Addr} {z:Vl} {Q:VK},Same F H->az F xs ds as->f ds=some z->gu F H z Q->r K xs H Q
def ji (r:Frag->R2)(f:PyData->PyData->Option Vl)(hr:N4 r f)(a b:SE):SE where
 t:=λK=>tOp (r K) (a.t K) (b.t K)
 ev:=λρ s=>(a.ev ρ s).bind λx=>(b.ev ρ x.2).bind λy=>(f x.1.1 y.1.1).bind λz=>some (z,y.2)
 ok:=by
  intro K sk F H σ ρ ak s vl s' Q p h q
  obtain⟨⟨x,s1⟩,h1,h⟩:=aL h
  obtain⟨⟨y,s2⟩,h2,h⟩:=aL h
  obtain⟨z,h3,h⟩:=aL h
  cases h
  refine a.ok K p h1 λv F1 H1 as st1 k1 r1 f1=>?_
  refine b.ok K (p.next st1 k1) h2 λw F2 H2 bs st2 k2 r2 f2=>?_
  refine hr K st2.sub' (r1.mono st2.sub) r2 h3 λv3 F3 H3 cs st3 r3 f3=>?_
  exact q _ F3 H3 cs ((st1.trans st2).trans st3.any) (k2.keep st3) r3 (f3.back λa h=>st2.dm a (st1.dm a h))
def rA (r:Frag->List V->Hp->VK->Prop)(f:List PyData->Option Vl)(hr:Rn r f)(a:SA):SE where
 t:=λK=>tCB (r K) (a.t K)
 ev:=λρ s=>(a.ev ρ s).bind λx=>(f (x.1.map (·.1))).bind λz=>some (z,x.2)
 ok:=by
  intro K sk F H σ ρ ak s vl s' Q p h q
  obtain⟨⟨x,s1⟩,h1,h⟩:=aL h
  obtain⟨z,h3,h⟩:=aL h
  cases h
  refine a.ok K p h1 λvs F1 H1 as st1 k1 r1 f1=>?_
  refine hr K st1.sub' r1 h3 λv3 F3 H3 cs st3 r3 f3=>?_
  exact q _ F3 H3 cs (st1.trans st3.any) (k1.keep st3) r3 (f3.back st1.dm)
def SE.un (r:V->Hp->VK->Prop)(f:PyData->Option Vl)(hr:∀{F H:Hp} {x:V} {d:PyData} {as:List Addr} {z:Vl} {Q:VK},Same F H->Rp F x d as->f d=some z->gu F H z Q->r x H Q)(a:SE):SE where
 t:=λK=>tUn r (a.t K)
 ev:=λρ s=>(a.ev ρ s).bind λx=>(f x.1.1).bind λz=>some (z,x.2)
 ok:=by
  intro K sk F H σ ρ ak s vl s' Q p h q
  obtain⟨⟨x,s1⟩,h1,h⟩:=aL h
  obtain⟨z,h3,h⟩:=aL h
  cases h
  refine a.ok K p h1 λv F1 H1 as st1 k1 r1 f1=>?_
  refine hr st1.sub' r1 h3 λv3 F3 H3 cs st3 r3 f3=>?_
  exact q _ F3 H3 cs (st1.trans st3.any) (k1.keep st3) r3 (f3.back st1.dm)
/-- a value without lists,no new object -/
theorem gu.here {F H:Hp}{z:Vl}{Q:VK}{v:V}{cs:List Addr}(q:gu F H z Q)(s:Same F H)(r:Rp F v z.1 cs)(f:bS z.2 H cs):Q v H:=q v F H cs (.refl s) r f
def fF (f:Int->Int->Option PyData):PyData->PyData->Option Vl
 |.int i,.int j=>(f i j).map λz=>(z,true)
 |_,_=>none
theorem gzn {f:Int->Int->Option PyData}{d e:PyData}{z:Vl}(h:fF f d e=some z):∃i j w,d=.int i/\e=.int j/\f i j=some w/\z=(w,true):=by
 unfold fF at h
 split at h
 ·rename_i i j
  obtain⟨w,h1,h2⟩:=Kap.mp h
  exact⟨i,j,w,rfl,rfl,h1,h2.symm⟩
 ·cases h
theorem Jd {g:Int->Int->Int}:N4 (λ_=>rI0 λi j=>.int (g i j)) (fF λi j=>some (.int (g i j))):=by
 intro K F H x y d e as bs z Q s r1 r2 h q
 obtain⟨i,j,w,rfl,rfl,h0,rfl⟩:=gzn h
 cases h0
 exact⟨i,j,r1.int_inv,r2.int_inv,q.here (z:=(.int (g i j),true)) s (.int _) .nil⟩
theorem xK {g:Int->Int->Bool}:N4 (λ_=>rI0 λi j=>.bl (g i j)) (fF λi j=>some (.bool (g i j))):=by
 intro K F H x y d e as bs z Q s r1 r2 h q
 obtain⟨i,j,w,rfl,rfl,h0,rfl⟩:=gzn h
 cases h0
 exact⟨i,j,r1.int_inv,r2.int_inv,q.here (z:=(.bool (g i j),true)) s (.bl _) .nil⟩
theorem xM {C:Int->Int->Prop}{g:Int->Int->Int}{c:Int->Int->Bool}(hc:∀i j,c i j=true->C i j):N4 (λ_=>rI C λi j=>.int (g i j)) (fF λi j=>if c i j=true then some (.int (g i j)) else none):=by
 intro K F H x y d e as bs z Q s r1 r2 h q
 obtain⟨i,j,w,rfl,rfl,h1,rfl⟩:=gzn h
 split at h1
 ·rename_i h0
  cases h1
  exact⟨i,j,r1.int_inv,r2.int_inv,hc _ _ h0,q.here (z:=(.int (g i j),true)) s (.int _) .nil⟩
 ·cases h1
def fL:SE->SE->SE:=ji _ _ (Jd (g:=λi j=>i+j))
def AR:SE->SE->SE:=ji _ _ (Jd (g:=λi j=>i-j))
def j_ (i j:Int):Bool:=decide (i.natAbs<18446744073709551616) ||decide (j.natAbs<18446744073709551616)
def xU:SE->SE->SE:=ji _ _ (xM (C:=CMul) (g:=λi j=>i*j) (c:=j_) (λi j h=>by
 unfold j_ at h
 rcases Kbe.mp h with h|h
 ·have:=of_decide_eq_true h
  exact .inl (by omega)
 ·have:=of_decide_eq_true h
  exact .inr (by omega)))
/-- a divisor above 0 and below 10 ** 60 -/
def oF (_ j:Int):Bool:=decide (0<j) && decide (j<1000000000000000000000000000000000000000000000000000000000000)
theorem hjc {i j:Int}(h:oF i j=true):CDivW i j:=by
 unfold oF at h
 obtain⟨h1,h2⟩:=KaN.mp h
 have h1:=of_decide_eq_true h1
 have h2:=of_decide_eq_true h2
 exact wide_div (b:=200) h1 (by omega) (by decide) (by decide)
def vp:SE->SE->SE:=ji _ _ (xM (C:=CDivW) (g:=λi j=>i / j) (c:=oF) (λi j h=>hjc h))
def o6:SE->SE->SE:=ji _ _ (xM (C:=λ_ j=>0<j) (g:=λi j=>i % j) (c:=λ_ j=>decide (0<j)) (λi j h=>of_decide_eq_true h))
def qw:SE->SE->SE:=ji _ _ (xK (g:=λi j=>decide (i<j)))
def SE.le:SE->SE->SE:=ji _ _ (xK (g:=λi j=>decide (i<=j)))
def GD:SE->SE->SE:=ji _ _ (xK (g:=λi j=>decide (j<i)))
def SE.ge:SE->SE->SE:=ji _ _ (xK (g:=λi j=>decide (j<=i)))
def NW:SE->SE:=SE.un (rU λi=>.int (-i)) (λd=>match d with|.int i=>some (.int (-i),true)|_=>none) (by
 intro F H x d as z Q s r h q
 split at h
 ·rename_i i
  cases h
  exact⟨i,r.int_inv,q.here (z:=(.int (-i),true)) s (.int _) .nil⟩
 ·cases h)
def Ew:PyData->PyData->Option Bool
 |.int i,.int j=>some (decide (i=j))
 |.bool a,.bool b=>some (a == b)
 |d,e=>if SeqAt.shaped d=true/\SeqAt.shaped e=true then some (PyData.eqv d e) else none
theorem BV {d e:PyData}{b:Bool}(h:Ew d e=some b):SeqAt.shaped d=true/\SeqAt.shaped e=true/\PyData.eqv d e=b:=by
 unfold Ew at h
 split at h
 ·rename_i i j
  cases h
  refine⟨by rfl,by rfl,?_⟩
  simp only [PyData.eqv]
  by_cases e:i=j <;> simp [e]
 ·rename_i i j
  cases h
  exact⟨by rfl,by rfl,by simp only [PyData.eqv]⟩
 ·split at h
  ·rename_i hh
   cases h
   exact⟨hh.1,hh.2,rfl⟩
  ·cases h
def fX:SE->SE->SE:=ji (λK=>rEqD K) (λd e=>(Ew d e).map λb=>(.bool b,true)) (by
 intro K F H x y d e as bs z Q s r1 r2 h q
 obtain⟨b,h0,rfl⟩:=Kap.mp h
 obtain⟨h1,h2,h3⟩:=BV h0
 subst h3
 exact⟨d,e,(r1.mono s).dp (Fc h1),(r2.mono s).dp (Fc h2),h1,h2,q.here (z:=(.bool _,true)) s (.bl _) .nil⟩)
def vy:SE->SE->SE:=ji (λK=>rNeD K) (λd e=>(Ew d e).map λb=>(.bool (!b),true)) (by
 intro K F H x y d e as bs z Q s r1 r2 h q
 obtain⟨b,h0,rfl⟩:=Kap.mp h
 obtain⟨h1,h2,h3⟩:=BV h0
 subst h3
 exact⟨d,e,(r1.mono s).dp (Fc h1),(r2.mono s).dp (Fc h2),h1,h2,q.here (z:=(.bool _,true)) s (.bl _) .nil⟩)
def AG:PyData->Bool
 |.none=>true
 |_=>false
theorem pq {F:Hp}{v:V}{d:PyData}{as:List Addr}(r:Rp F v d as):decide (v=.non)=AG d:=by
 cases r <;> simp [AG]
def SE.Lj:SE->SE->SE:=ji (λ_=>λx y H Q=>y=.non/\Q (.bl (decide (x=.non))) H) (λd e=>match e with|.none=>some (.bool (AG d),true)|_=>none) (by
 intro K F H x y d e as bs z Q s r1 r2 h q
 dsimp only at h
 split at h
 ·cases h
  refine⟨r2.none_inv,?_⟩
  rw [pq r1]
  exact q.here (z:=(.bool _,true)) s (.bl _) .nil
 ·cases h)
def SE.aqT:SE->SE->SE:=ji (λ_=>λx y H Q=>y=.non/\Q (.bl (!decide (x=.non))) H) (λd e=>match e with|.none=>some (.bool (!AG d),true)|_=>none) (by
 intro K F H x y d e as bs z Q s r1 r2 h q
 dsimp only at h
 split at h
 ·cases h
  refine⟨r2.none_inv,?_⟩
  rw [pq r1]
  exact q.here (z:=(.bool _,true)) s (.bl _) .nil
 ·cases h)
end Pu
namespace Pu
variable [aZ]
open PySem L2
theorem az.atI {F:Hp}{xs:List V}{ds:List PyData}{as:List Addr}{i:Int}{d:PyData}(r:az F xs ds as)(e:atI ds i=some d):∃v bs,L2.atI xs i=some v/\Rp F v d bs:=by
 unfold L2.atI at e ⊢
 rw [r.len]
 obtain⟨j,h1,h2⟩:=aL e
 obtain⟨v,bs,h3,h4⟩:=r.get h2
 exact⟨v,bs,by rw [h1];exact h3,h4⟩
def Va:PyData->PyData->Option Vl
 |.list ds,.int i=>(atI ds i).map λd=>(d,false)
 |.tuple ds,.int i=>(atI ds i).map λd=>(d,false)
 |_,_=>none
def cW:SE->SE->SE:=ji (λK=>rIx K) Va (by
 intro K F H x y d e as bs z Q s r1 r2 h q
 unfold Va at h
 split at h
 ·rename_i ds i
  obtain⟨w,h1,rfl⟩:=Kap.mp h
  obtain⟨a,xs,cs,rfl,ha,hr,rfl⟩:=r1.aP
  obtain⟨v,es,h3,h4⟩:=hr.atI h1
  exact .inl ⟨a,xs,i,v,rfl,r2.int_inv,.inl (.inl (s _ _ ha)),h3,q.here (z:=(w,false)) s h4 .no⟩
 ·rename_i ds i
  obtain⟨w,h1,rfl⟩:=Kap.mp h
  obtain⟨a,xs,rfl,ha,hr⟩:=r1.cg
  obtain⟨v,es,h3,h4⟩:=hr.atI h1
  exact .inr (.inl ⟨a,xs,i,v,rfl,r2.int_inv,.inl (.inl (s _ _ ha)),h3,q.here (z:=(w,false)) s h4 .no⟩)
 ·cases h)
/-- a new list -/
theorem gu.newL {F H:Hp}{ds:List PyData}{b:Bool}{Q:VK}{vs:List V}{as:List Addr}{p:Addr}(q:gu F H (.list ds,b) Q)(s:Same F H)(r:az F vs ds as)(np:H p=none)(f:b=true->as=[]):Q (.ref p) (upd H p (.lst vs)):=by
 have sa:bw F H (upd F p (.lst vs)) (upd H p (.lst vs)):=.alloc s np
 refine q _ _ _ (p::as) sa (.lst upd_same (r.mono sa.sub)) λe=>?_
 rw [f e]
 refine⟨by simp,λa m=>?_⟩
 have:a=p:=by simpa using m
 rw [this];exact np
theorem gu.C6 {F H:Hp}{ds:List PyData}{b:Bool}{Q:VK}{vs:List V}{as:List Addr}{p:Addr}(q:gu F H (.tuple ds,b) Q)(s:Same F H)(r:az F vs ds as)(np:H p=none)(f:b=true->as=[]):Q (.ref p) (upd H p (.tup vs)):=by
 have sa:bw F H (upd F p (.tup vs)) (upd H p (.tup vs)):=.alloc s np
 refine q _ _ _ as sa (.tup upd_same (r.mono sa.sub)) λe=>?_
 rw [f e]
 exact⟨KaO,λa m=>by cases m⟩
def fO (ds:List PyData)(lo hi:Option Int):List PyData:=(ds.drop (HT.sIx ds.length 0 lo)).take (HT.sIx ds.length ds.length hi-HT.sIx ds.length 0 lo)
theorem az.cut {F:Hp}{xs:List V}{ds:List PyData}{as:List Addr}(r:az F xs ds as)(lo hi:Option Int):∃bs,az F (cutV xs lo hi) (fO ds lo hi) bs:=by
 unfold cutV fO
 rw [r.len]
 obtain⟨bs,r1,_⟩:=r.drop (HT.sIx ds.length 0 lo)
 obtain⟨cs,r2,_⟩:=r1.take (HT.sIx ds.length ds.length hi-HT.sIx ds.length 0 lo)
 exact⟨cs,r2⟩
def OkO (t:Frag->TO)(ev:List Slot->aa->Option (Option Int×aa)):Prop:=∀(K:Frag) {sk:Option Addr} {F H:Hp} {σ:L2.St} {ρ:List Slot} {ak:List (List Addr)} {s:aa} {b:Option Int} {s':aa} {Q:Option Int->Hp->Prop},Pre sk F H σ ρ ak s->ev ρ s=some (b,s') ->
 (∀F' H',Step sk F H F' H'->bA sk F' H' s'->Q b H')->t K σ H Q
structure SO where
 t:Frag->TO
 ev:List Slot->aa->Option (Option Int×aa)
 ok:OkO t ev
def SO.no:SO:=⟨λ_=>tNoPart,λ_ s=>some (none,s),by
 intro K sk F H σ ρ ak s vl s' Q p h q
 cases h
 exact q F H (.refl p.sub) p.bh⟩
def SO.at (e:SE):SO where
 t:=λK=>tPart (e.t K)
 ev:=λρ s=>(e.ev ρ s).bind λx=>match x.1.1 with|.int i=>some (some i,x.2)|_=>none
 ok:=by
  intro K sk F H σ ρ ak s vl s' Q p h q
  obtain⟨⟨⟨x,b⟩,s1⟩,h1,h⟩:=aL h
  dsimp only at h
  split at h
  ·rename_i i
   cases h
   refine e.ok K p h1 λv F1 H1 as st1 k1 r1 f1=>?_
   exact⟨i,r1.int_inv,q F1 H1 st1 k1⟩
  ·cases h
def SE.slG (r:Frag->V->Option Int->Option Int->Hp->VK->Prop)(f:PyData->Option Int->Option Int->Option Vl)(hr:∀(K:Frag) {F H:Hp} {x:V} {d:PyData} {lo hi:Option Int} {as:List Addr} {z:Vl} {Q:VK},Same F H->Rp F x d as->f d lo hi=some z->gu F H z Q->r K x lo hi H Q)(a:SE)(lo hi:SO):SE where
 t:=λK=>tSl (r K) (a.t K) (lo.t K) (hi.t K)
 ev:=λρ s=>(a.ev ρ s).bind λx=>(lo.ev ρ x.2).bind λy=>(hi.ev ρ y.2).bind λw=>(f x.1.1 y.1 w.1).bind λz=>some (z,w.2)
 ok:=by
  intro K sk F H σ ρ ak s vl s' Q p h q
  obtain⟨⟨x,s1⟩,h1,h⟩:=aL h
  obtain⟨⟨y,s2⟩,h2,h⟩:=aL h
  obtain⟨⟨w,s3⟩,h3,h⟩:=aL h
  obtain⟨z,h4,h⟩:=aL h
  cases h
  refine a.ok K p h1 λv F1 H1 as st1 k1 r1 f1=>?_
  refine lo.ok K (p.next st1 k1) h2 λF2 H2 st2 k2=>?_
  refine hi.ok K ((p.next st1 k1).next st2 k2) h3 λF3 H3 st3 k3=>?_
  refine hr K st3.sub' ((r1.mono st2.sub).mono st3.sub) h4 λv4 F4 H4 cs uR r4 f4=>?_
  exact q _ F4 H4 cs (((st1.trans st2).trans st3).trans uR.any) (k3.keep uR) r4 (f4.back λa h=>st3.dm a (st2.dm a (st1.dm a h)))
def Vk (d:PyData)(lo hi:Option Int):Option Vl:=match d with
 |.list ds=>some (.list (fO ds lo hi),fM (fO ds lo hi))
 |_=>none
def EK:SE->SO->SO->SE:=SE.slG (λK=>rSlL K) Vk (by
 intro K F H x d lo hi as z Q s r h q
 unfold Vk at h
 split at h
 ·rename_i ds
  cases h
  obtain⟨a,xs,cs,rfl,ha,hr,rfl⟩:=r.aP
  obtain⟨bs,hc⟩:=hr.cut lo hi
  exact⟨a,xs,rfl,.inl (.inl (s _ _ ha)),λp np=>q.newL s hc np λe=>hc.aM e⟩
 ·cases h)
def HD (d:PyData)(lo hi:Option Int):Option Vl:=match d with
 |.tuple ds=>some (.tuple (fO ds lo hi),false)
 |_=>none
theorem sG {ds:List PyData}{lo hi:Option Int}(h:HT.sIx ds.length 0 lo=0/\HT.sIx ds.length ds.length hi=ds.length):fO ds lo hi=ds:=by
 unfold fO
 rw [h.1,h.2]
 simp
def SE.slT:SE->SO->SO->SE:=SE.slG (λK=>rSlA K) HD (by
 intro K F H x d lo hi as z Q s r h q
 unfold HD at h
 split at h
 ·rename_i ds
  cases h
  obtain⟨a,xs,rfl,ha,hr⟩:=r.cg
  obtain⟨bs,hc⟩:=hr.cut lo hi
  refine⟨a,xs,rfl,.inl (.inl (s _ _ ha)),λe=>?_,λ_ p np=>q.C6 s hc np nofun⟩
  rw [hr.len] at e
  have e2:=sG e
  refine q.here (z:=(.tuple (fO ds lo hi),false)) s ?_ .no (cs:=as)
  show Rp F (.ref a) (.tuple (fO ds lo hi)) as
  rw [e2];exact r
 ·cases h)
def GJ:List PyData->Option Vl
 |[.list ds]=>some (.int ds.length,true)
 |[.tuple ds]=>some (.int ds.length,true)
 |_=>none
def gR (a:SE):SE:=rA (λK xs H Q=>∃x n,xs=[x]/\LenV K x H n/\Q (.int (n:Nat)) H) GJ (by
 intro K F H xs ds as z Q s r h q
 unfold GJ at h
 split at h
 ·rename_i es
  cases h
  cases r with
  |cons r rr=>
   cases rr
   obtain⟨a,ys,cs,rfl,ha,hr,_⟩:=r.aP
   refine⟨_,ys.length,rfl,.inl ⟨ys,.inl (.inl (s _ _ ha)),rfl⟩,?_⟩
   rw [hr.len]
   exact q.here (z:=(.int es.length,true)) s (.int _) .nil
 ·rename_i es
  cases h
  cases r with
  |cons r rr=>
   cases rr
   obtain⟨a,ys,rfl,ha,hr⟩:=r.cg
   refine⟨_,ys.length,rfl,.inr ⟨ys,.inl (.inl (s _ _ ha)),rfl⟩,?_⟩
   rw [hr.len]
   exact q.here (z:=(.int es.length,true)) s (.int _) .nil
 ·cases h) (.cons a .nil)
def Fl:PyData->PyData->Option Vl
 |.list ds,.list es=>if ds.length+es.length<=100000 then some (.list (ds++es),fM (ds++es)) else none
 |_,_=>none
def AQ:SE->SE->SE:=ji (λ_=>rCat) Fl (by
 intro K F H x y d e as bs z Q s r1 r2 h q
 unfold Fl at h
 split at h
 ·rename_i ds es
  split at h
  ·rename_i hl
   cases h
   obtain⟨a,xs,cs,rfl,ha,hr,rfl⟩:=r1.aP
   obtain⟨b,ys,cs',rfl,hb,hr',rfl⟩:=r2.aP
   refine⟨a,b,xs,ys,rfl,rfl,s _ _ ha,s _ _ hb,?_,λp np=>q.newL s (hr.app hr') np λe=>(hr.app hr').aM e⟩
   rw [hr.len,hr'.len]
   exact KaB hl (by decide)
  ·cases h
 ·cases h)
def Hh:Nat->List PyData->List PyData
 |0,_=>[]
 |n+1,ds=>ds++Hh n ds
theorem az.rep {F:Hp}{xs:List V}{ds:List PyData}{as:List Addr}(r:az F xs ds as):∀n,∃bs,az F (Kak n xs).flatten (Hh n ds) bs
 |0=>⟨[],.nil⟩
 |n+1=>by
  obtain⟨bs,h⟩:=az.rep r n
  refine⟨as++bs,?_⟩
  rw [KaW,Kav]
  exact r.app h
def LX:PyData->PyData->Option Vl
 |.list ds,.int k=>if ds.length*k.toNat<=100000/\-100000<=k/\k<=100000 then some (.list (Hh k.toNat ds),fM (Hh k.toNat ds)) else none
 |_,_=>none
def SE.rep:SE->SE->SE:=ji (λ_=>rRep) LX (by
 intro K F H x y d e as bs z Q s r1 r2 h q
 unfold LX at h
 split at h
 ·rename_i ds k
  split at h
  ·rename_i hl
   cases h
   obtain⟨a,xs,cs,rfl,ha,hr,rfl⟩:=r1.aP
   obtain⟨bs,h2⟩:=hr.rep k.toNat
   refine⟨a,k,xs,rfl,r2.int_inv,s _ _ ha,by omega,by omega,?_,λp np=>q.newL s h2 np λe=>h2.aM e⟩
   rw [hr.len]
   exact KaB hl.1 (by decide)
  ·cases h
 ·cases h)
/-- tuple+tuple -/
def BA:PyData->PyData->Option Vl
 |.tuple ds,.tuple es=>if ds.length+es.length<=100000 then some (.tuple (ds++es),false) else none
 |_,_=>none
def SE.Kc:SE->SE->SE:=ji (λK=>rCatA K) BA (by
 intro K F H x y d e as bs z Q s r1 r2 h q
 unfold BA at h
 split at h
 ·rename_i ds es
  split at h
  ·rename_i hl
   cases h
   obtain⟨a,xs,rfl,ha,hr⟩:=r1.cg
   obtain⟨b,ys,rfl,hb,hr'⟩:=r2.cg
   refine⟨a,b,xs,ys,rfl,rfl,.inl (.inl (s _ _ ha)),.inl (.inl (s _ _ hb)),?_,λe=>?_,λ_ e=>?_,λ_ _ p np=>q.C6 s (hr.app hr') np nofun⟩
   ·rw [hr.len,hr'.len]
    exact KaB hl (by decide)
   ·subst e
    cases hr
    exact q.here (z:=(.tuple es,false)) s r2 .no
   ·subst e
    cases hr'
    refine q.here (z:=(.tuple (ds++[]),false)) s ?_ .no (cs:=as)
    show Rp F (.ref a) (.tuple (ds++[])) as
    rw [KaE];exact r1
  ·cases h
 ·cases h)
def cH:PyData->Bool
 |.none=>true
 |.bool _=>true
 |.int _=>true
 |.str _=>true
 |_=>false
theorem UN {F:Hp}{v:V}{d:PyData}{as:List Addr}(r:Rp F v d as)(h:cH d=true):flatV v=true:=by
 cases r <;> first|rfl|cases h
theorem gzd {F:Hp}{vs:List V}{ds:List PyData}{as:List Addr}(r:az F vs ds as)(h:ds.all cH=true):vs.all flatV=true:=by
 induction ds generalizing vs as with
 |nil=>cases r;rfl
 |cons d ds ih=>
  cases r with
  |cons r rr=>
   rw [Ka3,Ka7] at h ⊢
   exact⟨UN r h.1,ih rr h.2⟩
theorem FE {F:Hp}{v w:V}{d e:PyData}{as bs:List Addr}(r:Rp F v d as)(q:Rp F w e bs)(h:cH d=true)(h':cH e=true):eqV v w=PyData.eqv d e:=by
 cases r <;> cases q <;> first|(simp only [PyData.eqv,eqV];done)|cases h|cases h'
theorem hzc {F:Hp}{w:V}{e:PyData}{bs:List Addr}(q:Rp F w e bs)(h':cH e=true){vs:List V}{ds:List PyData}{as:List Addr}(r:az F vs ds as)(h:ds.all cH=true):inV w vs=ds.any λd=>PyData.eqv d e:=by
 unfold inV
 induction ds generalizing vs as with
 |nil=>cases r;rfl
 |cons d ds ih=>
  cases r with
  |cons r rr=>
   rw [Ka3,Ka7] at h
   rw [Kcd,Kcd,FE r q h.1 h',ih rr h.2]
def inF (neg:Bool):PyData->PyData->Option Vl
 |d,.list ds=>if cH d=true/\ds.all cH=true then some (.bool (if neg then !(ds.any λe=>PyData.eqv e d) else ds.any λe=>PyData.eqv e d),true) else none
 |d,.tuple ds=>if cH d=true/\ds.all cH=true then some (.bool (if neg then !(ds.any λe=>PyData.eqv e d) else ds.any λe=>PyData.eqv e d),true) else none
 |_,_=>none
def Ji (neg:Bool):SE->SE->SE:=ji (λK=>rIn K neg) (inF neg) (by
 intro K F H x y d e as bs z Q s r1 r2 h q
 unfold inF at h
 split at h
 ·rename_i ds
  split at h
  ·rename_i hh
   cases h
   obtain⟨a,xs,cs,rfl,ha,hr,rfl⟩:=r2.aP
   refine⟨a,xs,rfl,.inl (.inl (.inl (s _ _ ha))),UN r1 hh.1,gzd hr hh.2,?_⟩
   rw [hzc r1 hh.1 hr hh.2]
   exact q.here (z:=(.bool _,true)) s (.bl _) .nil
  ·cases h
 ·rename_i ds
  split at h
  ·rename_i hh
   cases h
   obtain⟨a,xs,rfl,ha,hr⟩:=r2.cg
   refine⟨a,xs,rfl,.inr (.inl (.inl (s _ _ ha))),UN r1 hh.1,gzd hr hh.2,?_⟩
   rw [hzc r1 hh.1 hr hh.2]
   exact q.here (z:=(.bool _,true)) s (.bl _) .nil
  ·cases h
 ·cases h)
def SE.abs (a:SE):SE:=rA (λ_ xs H Q=>∃i,xs=[.int i]/\Q (.int (if i<0 then -i else i)) H) (λds=>match ds with|[.int i]=>some (.int (if i<0 then -i else i),true)|_=>none) (by
 intro K F H xs ds as z Q s r h q
 dsimp only at h
 split at h
 ·rename_i i
  cases h
  cases r with
  |cons r rr=>
   cases rr
   rw [r.int_inv]
   exact⟨i,rfl,q.here (z:=(.int _,true)) s (.int _) .nil⟩
 ·cases h) (.cons a .nil)
def Cr (a b:SE):SE:=rA (λ_ xs H Q=>∃i j,xs=[.int i,.int j]/\Q (.int (if j > i then j else i)) H) (λds=>match ds with|[.int i,.int j]=>some (.int (max i j),true)|_=>none) (by
 intro K F H xs ds as z Q s r h q
 dsimp only at h
 split at h
 ·rename_i i j
  cases h
  cases r with
  |cons r rr=>
   cases rr with
   |cons r2 rr=>
    cases rr
    rw [r.int_inv,r2.int_inv]
    have e:(if j > i then j else i)=max i j:=by split <;> omega
    exact⟨i,j,rfl,by rw [e];exact q.here (z:=(.int _,true)) s (.int _) .nil⟩
 ·cases h) (.cons a (.cons b .nil))
def SE.ar (a b:SE):SE:=rA (λ_ xs H Q=>∃i j,xs=[.int i,.int j]/\Q (.int (if j<i then j else i)) H) (λds=>match ds with|[.int i,.int j]=>some (.int (min i j),true)|_=>none) (by
 intro K F H xs ds as z Q s r h q
 dsimp only at h
 split at h
 ·rename_i i j
  cases h
  cases r with
  |cons r rr=>
   cases rr with
   |cons r2 rr=>
    cases rr
    rw [r.int_inv,r2.int_inv]
    have e:(if j<i then j else i)=min i j:=by split <;> omega
    exact⟨i,j,rfl,by rw [e];exact q.here (z:=(.int _,true)) s (.int _) .nil⟩
 ·cases h) (.cons a (.cons b .nil))
def xR:List PyData->Option Vl
 |[.int i]=>some (.int i,true)
 |[.bool b]=>some (.int (if b then 1 else 0),true)
 |_=>none
def oZ (a:SE):SE:=rA (λ_ xs H Q=>(∃i,xs=[.int i]/\Q (.int i) H)∨∃k,xs=[.bl k]/\Q (.int (if k then 1 else 0)) H) xR (by
 intro K F H xs ds as z Q s r h q
 unfold xR at h
 split at h
 ·rename_i i
  cases h
  cases r with
  |cons r rr=>
   cases rr
   rw [r.int_inv]
   exact .inl ⟨i,rfl,q.here (z:=(.int _,true)) s (.int _) .nil⟩
 ·rename_i i
  cases h
  cases r with
  |cons r rr=>
   cases rr
   rw [r.bool_inv]
   exact .inr ⟨i,rfl,q.here (z:=(.int _,true)) s (.int _) .nil⟩
 ·cases h) (.cons a .nil)
def xC:List PyData->Option (List Int)
 |[]=>some []
 |.int i::r=>(xC r).map (i::·)
 |_=>none
theorem Kg:∀ns:List Int,xC (ns.map .int)=some ns
 |[]=>rfl
 |n::ns=>by simp [xC,Kg ns]
theorem ON:∀{ds:List PyData} {ns:List Int},xC ds=some ns->ds=ns.map .int
 |[],ns,h=>by cases h;rfl
 |d::ds,ns,h=>by
  unfold xC at h
  split at h
  ·rename_i e;cases e
  ·rename_i i r e
   cases e
   obtain⟨ms,h1,rfl⟩:=Kap.mp h
   rw [ON h1];rfl
  ·cases h
def AF:List PyData->Option (List Bool)
 |[]=>some []
 |.bool i::r=>(AF r).map (i::·)
 |_=>none
theorem OR:∀ns:List Bool,AF (ns.map .bool)=some ns
 |[]=>rfl
 |n::ns=>by simp [AF,OR ns]
theorem exc:∀{ds:List PyData} {ns:List Bool},AF ds=some ns->ds=ns.map .bool
 |[],ns,h=>by cases h;rfl
 |d::ds,ns,h=>by
  unfold AF at h
  split at h
  ·rename_i e;cases e
  ·rename_i i r e
   cases e
   obtain⟨ms,h1,rfl⟩:=Kap.mp h
   rw [exc h1];rfl
  ·cases h
def EA (f:List Int->Option Vl):List PyData->Option Vl
 |[.list ds]=>(xC ds).bind f
 |_=>none
theorem Tj {f:List Int->Option Vl}{F:Hp}{xs:List V}{ds:List PyData}{as:List Addr}{z:Vl}(r:az F xs ds as)(h:EA f ds=some z):∃a ns,xs=[.ref a]/\F a=some (.lst (ns.map V.int))/\f ns=some z:=by
 unfold EA at h
 split at h
 ·rename_i es
  obtain⟨ns,h1,h2⟩:=aL h
  cases r with
  |cons r rr=>
   cases rr
   obtain⟨a,ys,cs,rfl,ha,hr,_⟩:=r.aP
   rw [ON h1] at hr
   rw [hr.ints] at ha
   exact⟨a,ns,rfl,ha,h2⟩
 ·cases h
def SE.sum (a:SE):SE:=rA (λK=>rSum K) (EA λns=>some (.int ns.sum,true)) (by
 intro K F H xs ds as z Q s r h q
 obtain⟨a,ns,rfl,ha,h2⟩:=Tj r h
 cases h2
 exact⟨a,ns,rfl,.inl (.inl (s _ _ ha)),q.here (z:=(.int _,true)) s (.int _) .nil⟩) (.cons a .nil)
def qH:List Int->Int
 |[]=>0
 |[x]=>x
 |x::y::r=>max x (qH (y::r))
def jy:List Int->Int
 |[]=>0
 |[x]=>x
 |x::y::r=>min x (jy (y::r))
theorem x_:∀{ns:List Int} {y:Int},y∈ns->y<=qH ns
 |[x],y,h=>by simp at h;rw [h];exact Kbm _
 |x::z::r,y,h=>by
  show y<=max x (qH (z::r))
  rcases Kah.mp h with e|e
  ·omega
  ·have:=x_ e;omega
theorem uh:∀{ns:List Int},ns≠[]->qH ns∈ns
 |[x],_=>by show x∈[x];simp
 |x::z::r,_=>by
  show max x (qH (z::r))∈x::z::r
  have h:=uh (ns:=z::r) nofun
  by_cases e:x<=qH (z::r)
  ·rw [Int.max_eq_right e];exact Kab _ h
  ·rw [Int.max_eq_left (by omega)];exact Kaa
theorem ZP:∀{ns:List Int} {y:Int},y∈ns->jy ns<=y
 |[x],y,h=>by simp at h;rw [h];exact Kbm _
 |x::z::r,y,h=>by
  show min x (jy (z::r))<=y
  rcases Kah.mp h with e|e
  ·omega
  ·have:=ZP e;omega
theorem gzt:∀{ns:List Int},ns≠[]->jy ns∈ns
 |[x],_=>by show x∈[x];simp
 |x::z::r,_=>by
  show min x (jy (z::r))∈x::z::r
  have h:=gzt (ns:=z::r) nofun
  by_cases e:x<=jy (z::r)
  ·rw [Int.min_eq_left e];exact Kaa
  ·rw [Int.min_eq_right (by omega)];exact Kab _ h
def SE.aqO (a:SE):SE:=rA (λK=>rMax K) (EA λns=>if ns=[] then none else some (.int (qH ns),true)) (by
 intro K F H xs ds as z Q s r h q
 obtain⟨a,ns,rfl,ha,h2⟩:=Tj r h
 split at h2
 ·cases h2
 ·rename_i hn
  cases h2
  refine⟨a,ns,rfl,.inl (.inl (s _ _ ha)),KaH.mpr hn,λm h1 h2=>?_⟩
  have e:m=qH ns:=Int.le_antisymm (x_ h1) (h2 _ (uh hn))
  rw [e]
  exact q.here (z:=(.int _,true)) s (.int _) .nil) (.cons a .nil)
def SE.C0 (a:SE):SE:=rA (λK=>rMin K) (EA λns=>if ns=[] then none else some (.int (jy ns),true)) (by
 intro K F H xs ds as z Q s r h q
 obtain⟨a,ns,rfl,ha,h2⟩:=Tj r h
 split at h2
 ·cases h2
 ·rename_i hn
  cases h2
  refine⟨a,ns,rfl,.inl (.inl (s _ _ ha)),KaH.mpr hn,λm h1 h2=>?_⟩
  have e:m=jy ns:=Int.le_antisymm (h2 _ (gzt hn)) (ZP h1)
  rw [e]
  exact q.here (z:=(.int _,true)) s (.int _) .nil) (.cons a .nil)
def Nv (f:List Bool->Option Vl):List PyData->Option Vl
 |[.list ds]=>(AF ds).bind f
 |_=>none
theorem kr {f:List Bool->Option Vl}{F:Hp}{xs:List V}{ds:List PyData}{as:List Addr}{z:Vl}(r:az F xs ds as)(h:Nv f ds=some z):∃a ns,xs=[.ref a]/\F a=some (.lst (ns.map V.bl))/\f ns=some z:=by
 unfold Nv at h
 split at h
 ·rename_i es
  obtain⟨ns,h1,h2⟩:=aL h
  cases r with
  |cons r rr=>
   cases rr
   obtain⟨a,ys,cs,rfl,ha,hr,_⟩:=r.aP
   rw [exc h1] at hr
   rw [hr.bools] at ha
   exact⟨a,ns,rfl,ha,h2⟩
 ·cases h
def SE.all (a:SE):SE:=rA (λK=>rAll K) (Nv λns=>some (.bool (ns.all id),true)) (by
 intro K F H xs ds as z Q s r h q
 obtain⟨a,ns,rfl,ha,h2⟩:=kr r h
 cases h2
 exact⟨a,ns,rfl,.inl (.inl (s _ _ ha)),q.here (z:=(.bool _,true)) s (.bl _) .nil⟩) (.cons a .nil)
def SE.any (a:SE):SE:=rA (λK=>rAny K) (Nv λns=>some (.bool (ns.any id),true)) (by
 intro K F H xs ds as z Q s r h q
 obtain⟨a,ns,rfl,ha,h2⟩:=kr r h
 cases h2
 exact⟨a,ns,rfl,.inl (.inl (s _ _ ha)),q.here (z:=(.bool _,true)) s (.bl _) .nil⟩) (.cons a .nil)
/-- sorted,of ints -/
def insI (x:Int):List Int->List Int
 |[]=>[x]
 |y::r=>if x<=y then x::y::r else y::insI x r
def sortI:List Int->List Int
 |[]=>[]
 |x::r=>insI x (sortI r)
theorem TR (x:Int):∀r:List Int,(insI x r).Perm (x::r)
 |[]=>.refl _
 |y::r=>by
  unfold insI
  split
  ·exact .refl _
  ·exact ((TR x r).cons y).trans (.swap x y r)
theorem IA:∀r:List Int,(sortI r).Perm r
 |[]=>.refl _
 |x::r=>(TR x _).trans ((IA r).cons x)
theorem Xv (x:Int):∀{r:List Int},r.Pairwise (·<=·)->(insI x r).Pairwise (·<=·)
 |[],_=>by simp [insI]
 |y::r,h=>by
  unfold insI
  have h1:=KaG.mp h
  split
  ·rename_i hx
   refine KaG.mpr ⟨λz hz=>?_,h⟩
   rcases Kah.mp hz with e|e
   ·rw [e];exact hx
   ·exact KcK hx (h1.1 z e)
  ·rename_i hx
   refine KaG.mpr ⟨λz hz=>?_,Xv x h1.2⟩
   rcases Kah.mp ((TR x r).mem_iff.mp hz) with e|e
   ·rw [e];omega
   ·exact h1.1 z e
theorem Fj:∀r:List Int,(sortI r).Pairwise (·<=·)
 |[]=>.nil
 |x::r=>Xv x (Fj r)
theorem Sf:∀{xs ys:List Int},xs.Perm ys->xs.Pairwise (·<=·)->ys.Pairwise (·<=·)->xs=ys
 |[],ys,p,_,_=>by rw [p.nil_eq]
 |x::xs,[],p,_,_=>by exact absurd p.symm.nil_eq nofun
 |x::xs,y::ys,p,hx,hy=>by
  have h1:=KaG.mp hx
  have h2:=KaG.mp hy
  have e:x=y:=by
   have a:x∈y::ys:=p.mem_iff.mp Kaa
   have b:y∈x::xs:=p.mem_iff.mpr Kaa
   rcases Kah.mp a with e|e
   ·exact e
   ·rcases Kah.mp b with e'|e'
    ·exact e'.symm
    ·have:=h2.1 x e;have:=h1.1 y e';omega
  subst e
  rw [Sf (List.Perm.cons_inv p) h1.2 h2.2]
def NQ (a:SE):SE:=rA (λK=>rSortedI K) (EA λns=>some (.list ((sortI ns).map .int),true)) (by
 intro K F H xs ds as z Q s r h q
 obtain⟨a,ns,rfl,ha,h2⟩:=Tj r h
 cases h2
 refine⟨a,ns,rfl,.inl (.inl (s _ _ ha)),λns' p hp hs np=>?_⟩
 have e:ns'=sortI ns:=Sf (hp.trans (IA ns).symm) hs (Fj ns)
 rw [e]
 exact q.newL s (az.qJ _) np λ_=>rfl) (.cons a .nil)
/-- list(x),tuple(x) -/
def CP:List PyData->Option Vl
 |[.list ds]=>some (.list ds,fM ds)
 |[.tuple ds]=>some (.list ds,fM ds)
 |_=>none
def SE.ap (a:SE):SE:=rA (λK xs H Q=>∃p ys,xs=[.ref p]/\(SqL K H p ys∨SqT K H p ys)/\∀l,H l=none->Q (.ref l) (upd H l (.lst ys))) CP (by
 intro K F H xs ds as z Q s r h q
 unfold CP at h
 split at h
 ·rename_i es
  cases h
  cases r with
  |cons r rr=>
   cases rr
   obtain⟨a,ys,cs,rfl,ha,hr,_⟩:=r.aP
   exact⟨a,ys,rfl,.inl (.inl (.inl (s _ _ ha))),λl nl=>q.newL s hr nl λe=>hr.aM e⟩
 ·rename_i es
  cases h
  cases r with
  |cons r rr=>
   cases rr
   obtain⟨a,ys,rfl,ha,hr⟩:=r.cg
   exact⟨a,ys,rfl,.inr (.inl (.inl (s _ _ ha))),λl nl=>q.newL s hr nl λe=>hr.aM e⟩
 ·cases h) (.cons a .nil)
/-- divmod -/
def Wk:List PyData->Option Vl
 |[.int i,.int j]=>if oF i j=true then some (.tuple [.int (i / j),.int (i % j)],true) else none
 |_=>none
def SE.am (a b:SE):SE:=rA (λ_ xs H Q=>∃i j,xs=[.int i,.int j]/\CDivP i j/\∀p,H p=none->Q (.ref p) (upd H p (.tup [.int (i / j),.int (i % j)]))) Wk (by
 intro K F H xs ds as z Q s r h q
 unfold Wk at h
 split at h
 ·rename_i i j
  split at h
  ·rename_i hc
   cases h
   cases r with
   |cons r rr=>
    cases rr with
    |cons r2 rr=>
     cases rr
     rw [r.int_inv,r2.int_inv]
     refine⟨i,j,rfl,⟨(hjc hc).1,PyProof.noPylong_of_log2 (hjc hc).2⟩,λp np=>q.C6 s (as:=[]) ?_ np λ_=>rfl⟩
     exact .cons (as:=[]) (.int _) (.cons (as:=[]) (.int _) .nil)
  ·cases h
 ·cases h) (.cons a (.cons b .nil))
end Pu
namespace Pu
variable [aZ]
open PySem L2
def NJ (a b:SE):SE where
 t:=λK=>tAndV (a.t K) (b.t K)
 ev:=λρ s=>(a.ev ρ s).bind λx=>match x.1.1 with
  |.bool true=>b.ev ρ x.2
  |.bool false=>some ((.bool false,true),x.2)
  |_=>none
 ok:=by
  intro K sk F H σ ρ ak s vl s' Q p h q
  obtain⟨⟨⟨x,fl⟩,s1⟩,h1,h⟩:=aL h
  dsimp only at h
  refine a.ok K p h1 λv F1 H1 as st1 k1 r1 f1=>?_
  split at h
  ·refine⟨true,r1.bool_inv,?_⟩
   rw [if_pos rfl]
   exact b.ok K (p.next st1 k1) h λw F2 H2 bs st2 k2 r2 f2=>q w F2 H2 bs (st1.trans st2) k2 r2 (f2.back st1.dm)
  ·cases h
   refine⟨false,r1.bool_inv,?_⟩
   rw [if_neg Ka8]
   exact q _ F1 H1 [] st1 k1 (.bl _) .nil
  ·cases h
def SE.orV (a b:SE):SE where
 t:=λK=>tOrV (a.t K) (b.t K)
 ev:=λρ s=>(a.ev ρ s).bind λx=>match x.1.1 with
  |.bool false=>b.ev ρ x.2
  |.bool true=>some ((.bool true,true),x.2)
  |_=>none
 ok:=by
  intro K sk F H σ ρ ak s vl s' Q p h q
  obtain⟨⟨⟨x,fl⟩,s1⟩,h1,h⟩:=aL h
  dsimp only at h
  refine a.ok K p h1 λv F1 H1 as st1 k1 r1 f1=>?_
  split at h
  ·refine⟨false,r1.bool_inv,?_⟩
   rw [if_neg Ka8]
   exact b.ok K (p.next st1 k1) h λw F2 H2 bs st2 k2 r2 f2=>q w F2 H2 bs (st1.trans st2) k2 r2 (f2.back st1.dm)
  ·cases h
   refine⟨true,r1.bool_inv,?_⟩
   rw [if_pos rfl]
   exact q _ F1 H1 [] st1 k1 (.bl _) .nil
  ·cases h
def SE.aqU (a:SE):SE where
 t:=λK=>tNotV (a.t K)
 ev:=λρ s=>(a.ev ρ s).bind λx=>match x.1.1 with
  |.bool b=>some ((.bool (!b),true),x.2)
  |_=>none
 ok:=by
  intro K sk F H σ ρ ak s vl s' Q p h q
  obtain⟨⟨⟨x,fl⟩,s1⟩,h1,h⟩:=aL h
  dsimp only at h
  refine a.ok K p h1 λv F1 H1 as st1 k1 r1 f1=>?_
  split at h
  ·rename_i b
   cases h
   exact⟨b,r1.bool_inv,q _ F1 H1 [] st1 k1 (.bl _) .nil⟩
  ·cases h
def ST.ab (a:SE):ST where
 t:=λK=>tB (a.t K)
 ev:=λρ s=>(a.ev ρ s).bind λx=>match x.1.1 with
  |.bool b=>some (b,x.2)
  |_=>none
 ok:=by
  intro K sk F H σ ρ ak s vl s' Q p h q
  obtain⟨⟨⟨x,fl⟩,s1⟩,h1,h⟩:=aL h
  dsimp only at h
  refine a.ok K p h1 λv F1 H1 as st1 k1 r1 f1=>?_
  split at h
  ·rename_i b
   cases h
   exact⟨_,r1.bool_inv,q F1 H1 st1 k1⟩
  ·cases h
def cT:ST:=⟨λ_=>tYes,λ_ s=>some (true,s),by
 intro K sk F H σ ρ ak s vl s' Q p h q
 cases h
 exact q F H (.refl p.sub) p.bh⟩
def EJ (a b:ST):ST where
 t:=λK=>tAnd (a.t K) (b.t K)
 ev:=λρ s=>(a.ev ρ s).bind λx=>if x.1=true then b.ev ρ x.2 else some (false,x.2)
 ok:=by
  intro K sk F H σ ρ ak s vl s' Q p h q
  obtain⟨⟨x,s1⟩,h1,h⟩:=aL h
  dsimp only at h
  refine a.ok K p h1 λF1 H1 st1 k1=>?_
  split at h
  ·rename_i e
   rw [if_pos e]
   exact b.ok K (p.next st1 k1) h λF2 H2 st2 k2=>q F2 H2 (st1.trans st2) k2
  ·rename_i e
   cases h
   rw [if_neg e]
   exact q F1 H1 st1 k1
def CF (a b:ST):ST where
 t:=λK=>tOr (a.t K) (b.t K)
 ev:=λρ s=>(a.ev ρ s).bind λx=>if x.1=true then some (true,x.2) else b.ev ρ x.2
 ok:=by
  intro K sk F H σ ρ ak s vl s' Q p h q
  obtain⟨⟨x,s1⟩,h1,h⟩:=aL h
  dsimp only at h
  refine a.ok K p h1 λF1 H1 st1 k1=>?_
  split at h
  ·rename_i e
   cases h
   rw [if_pos e]
   exact q F1 H1 st1 k1
  ·rename_i e
   rw [if_neg e]
   exact b.ok K (p.next st1 k1) h λF2 H2 st2 k2=>q F2 H2 (st1.trans st2) k2
def ST.ac (a:ST):ST where
 t:=λK=>tNot (a.t K)
 ev:=λρ s=>(a.ev ρ s).bind λx=>some (!x.1,x.2)
 ok:=by
  intro K sk F H σ ρ ak s vl s' Q p h q
  obtain⟨⟨x,s1⟩,h1,h⟩:=aL h
  cases h
  exact a.ok K p h1 λF1 H1 st1 k1=>q F1 H1 st1 k1
def CD (c:ST)(a b:SE):SE where
 t:=λK=>tIf (c.t K) (a.t K) (b.t K)
 ev:=λρ s=>(c.ev ρ s).bind λx=>if x.1=true then a.ev ρ x.2 else b.ev ρ x.2
 ok:=by
  intro K sk F H σ ρ ak s vl s' Q p h q
  obtain⟨⟨x,s1⟩,h1,h⟩:=aL h
  dsimp only at h
  refine c.ok K p h1 λF1 H1 st1 k1=>?_
  split at h
  ·rename_i e
   rw [if_pos e]
   exact a.ok K (p.next st1 k1) h λw F2 H2 bs st2 k2 r2 f2=>q w F2 H2 bs (st1.trans st2) k2 r2 (f2.back st1.dm)
  ·rename_i e
   rw [if_neg e]
   exact b.ok K (p.next st1 k1) h λw F2 H2 bs st2 k2 r2 f2=>q w F2 H2 bs (st1.trans st2) k2 r2 (f2.back st1.dm)
abbrev Fn:=List Slot->aa->Option (Vl×aa)
def gG (args:List Slot):List (List Addr):=args.map λ_=>[]
theorem pL:∀args:List Slot,(gG args).flatten=[]
 |[]=>rfl
 |_::r=>by show ([]++(gG r).flatten)=[];rw [pL r];rfl
def bE (m:Fn):Sp:=λvs H Q _=>∃(sk:Option Addr) (F:Hp) (args:List Slot) (s:aa) (vl:Vl) (s':aa),Same F H/\bA sk F H s/\Slots sk F H (vs.map some) args (gG args)/\m args s=some (vl,s') /\
 ∀v F' H' as,Step sk F H F' H'->bA sk F' H' s'->Rp F' v vl.1 as->bS vl.2 H as->Q v H'
def OkR (t:Frag->TA)(ev:List Slot->aa->Option (List Slot×aa)):Prop:=∀(K:Frag) {sk:Option Addr} {F H:Hp} {σ:L2.St} {ρ:List Slot} {ak:List (List Addr)} {s:aa} {args:List Slot} {s':aa} {Q:List V->Hp->Prop},Pre sk F H σ ρ ak s->ev ρ s=some (args,s') ->
 (∀vs F' H',Step sk F H F' H'->bA sk F' H' s'->Slots sk F' H' (vs.map some) args (gG args)->Q vs H')->t K σ H Q
structure SR where
 t:Frag->TA
 ev:List Slot->aa->Option (List Slot×aa)
 ok:OkR t ev
def SR.nil:SR:=⟨λ_=>tNil,λ_ s=>some ([],s),by
 intro K sk F H σ ρ ak s vl s' Q p h q
 cases h
 exact q [] F H (.refl p.sub) p.bh .nil⟩
def SR.cons (e:SE)(r:SR):SR where
 t:=λK=>tCons (e.t K) (r.t K)
 ev:=λρ s=>(e.ev ρ s).bind λx=>(r.ev ρ x.2).bind λy=>some (.dat x.1.1::y.1,y.2)
 ok:=by
  intro K sk F H σ ρ ak s vl s' Q p h q
  obtain⟨⟨x,s1⟩,h1,h⟩:=aL h
  obtain⟨⟨y,s2⟩,h2,h⟩:=aL h
  cases h
  refine e.ok K p h1 λv F1 H1 as st1 k1 r1 f1=>?_
  refine r.ok K (p.next st1 k1) h2 λvs F2 H2 st2 k2 r2=>?_
  exact q _ F2 H2 (st1.trans st2) k2 (.cons ⟨rfl,v,as,rfl,r1.mono st2.sub⟩ r2)
def dM (i:Nat)(r:SR):SR where
 t:=λK=>tCons (tVar i) (r.t K)
 ev:=λρ s=>match ρ[i]? with
  |some .bf=>(r.ev ρ s).bind λy=>some (.bf::y.1,y.2)
  |_=>none
 ok:=by
  intro K sk F H σ ρ ak s vl s' Q p h q
  dsimp only at h
  split at h
  ·rename_i e
   obtain⟨⟨y,s2⟩,h2,h⟩:=aL h
   cases h
   obtain⟨x,fp,e1,e2,z,a,e3,e4⟩:=p.slots.get e
   refine⟨.ref a,by rw [e1,e3],?_⟩
   refine r.ok K p h2 λvs F2 H2 st2 k2 r2=>?_
   exact q _ F2 H2 st2 k2 (.cons ⟨rfl,a,rfl,e4⟩ r2)
  ·cases h
def SE.ac (m:Fn)(a:SR):SE where
 t:=λK=>tCall (bE m) [] E0 (a.t K)
 ev:=λρ s=>(a.ev ρ s).bind λx=>m x.1 x.2
 ok:=by
  intro K sk F H σ ρ ak s vl s' Q p h q
  obtain⟨⟨x,s1⟩,h1,h⟩:=aL h
  refine a.ok K p h1 λvs F1 H1 st1 k1 sl=>?_
  rw [KaE]
  refine⟨sk,F1,x,s1,vl,s',st1.sub',k1,sl,h,λv F2 H2 as st2 k2 r2 f2=>?_⟩
  exact q v F2 H2 as (st1.trans st2) k2 r2 (f2.back st1.dm)
def Yl (J:It)(F:Hp)(ds:List PyData):Prop:=∀F2 H2 i,Same F F2->Same F2 H2 ->
 (∀d,ds[i]? = some d->J.go i H2/\∀x H3,J.yld i H2 x H3->∃F3 as,bw F2 H2 F3 H3/\Rp F3 x d as)/\(ds.length<=i->J.stop i H2)
def OkI (t:Frag->TI)(ev:List Slot->aa->Option (List PyData×aa)):Prop:=∀(K:Frag) {sk:Option Addr} {F H:Hp} {σ:L2.St} {ρ:List Slot} {ak:List (List Addr)} {s:aa} {ds:List PyData} {s':aa} {R:It->Hp->Prop},Pre sk F H σ ρ ak s->ev ρ s=some (ds,s') ->
 (∀J F' H',Step sk F H F' H'->bA sk F' H' s'->Yl J F' ds->R J H')->t K σ H R
structure SI where
 t:Frag->TI
 ev:List Slot->aa->Option (List PyData×aa)
 ok:OkI t ev
def SI.list (e:SE):SI where
 t:=λK=>iList K (e.t K)
 ev:=λρ s=>(e.ev ρ s).bind λx=>match x.1.1 with|.list ds=>some (ds,x.2)|_=>none
 ok:=by
  intro K sk F H σ ρ ak s ds s' R p h q
  obtain⟨⟨⟨x,fl⟩,s1⟩,h1,h⟩:=aL h
  dsimp only at h
  split at h
  ·rename_i ds
   cases h
   refine e.ok K p h1 λv F1 H1 as st1 k1 r1 f1=>?_
   obtain⟨a,xs,cs,rfl,ha,hr,_⟩:=r1.aP
   refine⟨a,rfl,⟨xs,.inl (.inl (st1.sub' _ _ ha))⟩,q _ F1 H1 st1 k1 λF2 H2 i s1 s2=>⟨λd hd=>?_,λhl=>?_⟩⟩
   ·have hx:SqL K H2 a xs:=.inl (.inl (s2 _ _ (s1 _ _ ha)))
    obtain⟨v,bs,e1,e2⟩:=hr.get hd
    refine⟨⟨xs,v,hx,e1⟩,λx H3 hy=>?_⟩
    obtain⟨rfl,hy⟩:=hy
    have e3:=hy xs hx
    rw [e1] at e3
    cases e3
    exact⟨F2,bs,.refl s2,e2.mono s1⟩
   ·exact⟨xs,.inl (.inl (s2 _ _ (s1 _ _ ha))),by rw [hr.len];exact hl⟩
  ·cases h
/-- lo,lo+1,.. -/
def qi (lo:Int):Nat->List PyData
 |0=>[]
 |n+1=>.int lo::qi (lo+1) n
theorem YZ:∀(n:Nat) (lo:Int) (i:Nat),(qi lo n)[i]? = if i<n then some (.int (lo+i)) else none
 |0,lo,i=>by simp [qi]
 |n+1,lo,0=>by simp [qi]
 |n+1,lo,i+1=>by
  show (qi (lo+1) n)[i]? = _
  rw [YZ n]
  by_cases h:i<n
  ·rw [if_pos h,if_pos (by omega)]
   congr 2
   omega
  ·rw [if_neg h,if_neg (by omega)]
theorem ng:∀(n:Nat) (lo:Int),(qi lo n).length=n
 |0,_=>rfl
 |n+1,lo=>by show (qi (lo+1) n).length+1=n+1;rw [ng n]
theorem hzj {lo:Int}{n:Nat}{F:Hp}:Yl (Itr lo n) F (qi lo n):=λF2 H2 i s1 s2=>by
 refine⟨λd hd=>?_,λhl=>?_⟩
 ·rw [YZ] at hd
  split at hd
  ·rename_i hi
   cases hd
   refine⟨hi,λx H3 hy=>?_⟩
   obtain⟨rfl,rfl⟩:=hy
   exact⟨F2,[],.refl s2,.int _⟩
  ·cases hd
 ·rw [ng] at hl;exact hl
def nW (e:SE):SI where
 t:=λK=>iRng1 (tCons (e.t K) tNil)
 ev:=λρ s=>(e.ev ρ s).bind λx=>match x.1.1 with|.int j=>if -1000000<=j/\j<=1000000 then some (qi 0 j.toNat,x.2) else none|_=>none
 ok:=by
  intro K sk F H σ ρ ak s ds s' R p h q
  obtain⟨⟨⟨x,fl⟩,s1⟩,h1,h⟩:=aL h
  dsimp only at h
  split at h
  ·rename_i j
   split at h
   ·rename_i hb
    cases h
    refine e.ok K p h1 λv F1 H1 as st1 k1 r1 f1=>?_
    rw [r1.int_inv]
    exact⟨j,rfl,by omega,by omega,q _ F1 H1 st1 k1 hzj⟩
   ·cases h
  ·cases h
def izl (e e2:SE):SI where
 t:=λK=>iRng2 (tCons (e.t K) (tCons (e2.t K) tNil))
 ev:=λρ s=>(e.ev ρ s).bind λx=>(e2.ev ρ x.2).bind λy=>match x.1.1,y.1.1 with
  |.int i,.int j=>if (-1000000<=i/\i<=1000000)/\-1000000<=j/\j<=1000000 then some (qi i (j-i).toNat,y.2) else none
  |_,_=>none
 ok:=by
  intro K sk F H σ ρ ak s ds s' R p h q
  obtain⟨⟨⟨x,fl⟩,s1⟩,h1,g1⟩:=aL h
  obtain⟨⟨⟨y,YQ⟩,s2⟩,h2,g2⟩:=aL g1
  clear h g1
  dsimp only at g2
  split at g2
  ·rename_i i j
   split at g2
   ·rename_i hb
    cases g2
    refine e.ok K p h1 λv F1 H1 as st1 k1 r1 f1=>?_
    refine e2.ok K (p.next st1 k1) h2 λw F2 H2 bs st2 k2 r2 f2=>?_
    rw [r1.int_inv,r2.int_inv]
    exact⟨i,j,rfl,by omega,q _ F2 H2 (st1.trans st2) k2 hzj⟩
   ·cases g2
  ·cases g2
def fg:List PyData->List PyData->List PyData
 |d::ds,e::es=>.tuple [d,e]::fg ds es
 |_,_=>[]
theorem gzo:∀{ds es:List PyData} {i:Nat} {d:PyData},(fg ds es)[i]? = some d->∃a b,ds[i]? = some a/\es[i]? = some b/\d=.tuple [a,b]
 |[],_,_,_,h=>by simp [fg] at h
 |_::_,[],_,_,h=>by simp [fg] at h
 |a::ds,b::es,0,d,h=>by
  have e:PyData.tuple [a,b]=d:=Option.some.inj h
  exact⟨a,b,rfl,rfl,e.symm⟩
 |a::ds,b::es,i+1,d,h=>gzo (ds:=ds) (es:=es) (i:=i) h
theorem Z6:∀(ds es:List PyData),(fg ds es).length=min ds.length es.length
 |[],es=>by simp [fg]
 |_::_,[]=>by simp [fg]
 |_::ds,_::es=>by
  show (fg ds es).length+1=min (ds.length+1) (es.length+1)
  rw [Z6 ds es];omega
def SI.zip (e e2:SE):SI where
 t:=λK=>iZip K (tCons (e.t K) (tCons (e2.t K) tNil))
 ev:=λρ s=>(e.ev ρ s).bind λx=>(e2.ev ρ x.2).bind λy=>match x.1.1,y.1.1 with
  |.list ds,.list es=>some (fg ds es,y.2)
  |_,_=>none
 ok:=by
  intro K sk F H σ ρ ak s ds s' R p h q
  obtain⟨⟨⟨x,fl⟩,s1⟩,h1,h⟩:=aL h
  obtain⟨⟨⟨y,YQ⟩,s2⟩,h2,h⟩:=aL h
  dsimp only at h
  split at h
  ·rename_i ds es
   cases h
   refine e.ok K p h1 λv F1 H1 as st1 k1 r1 f1=>?_
   refine e2.ok K (p.next st1 k1) h2 λw F2 H2 bs st2 k2 r2 f2=>?_
   obtain⟨a,xs,cs,rfl,ha,hr,_⟩:=(r1.mono st2.sub).aP
   obtain⟨b,ys,cs',rfl,hb,hr',_⟩:=r2.aP
   refine⟨a,b,xs,ys,rfl,.inl (.inl (st2.sub' _ _ ha)),.inl (.inl (st2.sub' _ _ hb)),q _ F2 H2 (st1.trans st2) k2 λF3 H3 i s1 s2=>?_⟩
   have hx:SqL K H3 a xs:=.inl (.inl (s2 _ _ (s1 _ _ ha)))
   have hy:SqL K H3 b ys:=.inl (.inl (s2 _ _ (s1 _ _ hb)))
   refine⟨λd hd=>?_,λhl=>?_⟩
   ·obtain⟨d1,d2,g1,g2,rfl⟩:=gzo hd
    obtain⟨v1,b1,e1,q1⟩:=hr.get g1
    obtain⟨v2,b2,e2,q2⟩:=hr'.get g2
    refine⟨⟨xs,ys,v1,v2,hx,hy,e1,e2⟩,λx H4 hz=>?_⟩
    obtain⟨T,x1,x2,rfl,nT,rfl,z1,z2⟩:=hz
    have z1:=z1 _ hx
    have z2:=z2 _ hy
    rw [e1] at z1
    rw [e2] at z2
    cases z1
    cases z2
    have sa:bw F3 H3 (upd F3 T (.tup [v1,v2])) (upd H3 T (.tup [v1,v2])):=.alloc s2 nT
    exact⟨_,_,sa,.tup upd_same (.cons ((q1.mono s1).mono sa.sub) (.cons ((q2.mono s1).mono sa.sub) .nil))⟩
   ·refine⟨xs,ys,hx,hy,?_⟩
    rw [Z6] at hl
    rw [hr.len,hr'.len]
    omega
  ·cases h
def gO (i:Int):List PyData->List PyData
 |[]=>[]
 |d::ds=>.tuple [.int i,d]::gO (i+1) ds
theorem oM:∀{ds:List PyData} {k:Int} {i:Nat} {d:PyData},(gO k ds)[i]? = some d->∃a,ds[i]? = some a/\d=.tuple [.int (k+i),a]
 |[],_,_,_,h=>by simp [gO] at h
 |a::ds,k,0,d,h=>by
  have e:PyData.tuple [.int k,a]=d:=Option.some.inj h
  exact⟨a,rfl,by rw [<-e];simp⟩
 |a::ds,k,i+1,d,h=>by
  obtain⟨b,h1,h2⟩:=oM (ds:=ds) (k:=k+1) (i:=i) h
  refine⟨b,h1,?_⟩
  rw [h2]
  have:k+1+(i:Int)=k+((i+1:Nat):Int):=by omega
  rw [this]
theorem oN:∀(ds:List PyData) (k:Int),(gO k ds).length=ds.length
 |[],_=>rfl
 |_::ds,k=>by show (gO (k+1) ds).length+1=ds.length+1;rw [oN ds]
def Qv (e:SE):SI where
 t:=λK=>iEnum K (tCons (e.t K) tNil)
 ev:=λρ s=>(e.ev ρ s).bind λx=>match x.1.1 with
  |.list ds=>some (gO 0 ds,x.2)
  |_=>none
 ok:=by
  intro K sk F H σ ρ ak s ds s' R p h q
  obtain⟨⟨⟨x,fl⟩,s1⟩,h1,h⟩:=aL h
  dsimp only at h
  split at h
  ·rename_i ds
   cases h
   refine e.ok K p h1 λv F1 H1 as st1 k1 r1 f1=>?_
   obtain⟨a,xs,cs,rfl,ha,hr,_⟩:=r1.aP
   refine⟨a,xs,rfl,.inl (.inl (st1.sub' _ _ ha)),q _ F1 H1 st1 k1 λF3 H3 i s1 s2=>?_⟩
   have hx:SqL K H3 a xs:=.inl (.inl (s2 _ _ (s1 _ _ ha)))
   refine⟨λd hd=>?_,λhl=>?_⟩
   ·obtain⟨d1,g1,rfl⟩:=oM hd
    obtain⟨v1,b1,e1,q1⟩:=hr.get g1
    refine⟨⟨xs,v1,hx,e1⟩,λx H4 hz=>?_⟩
    obtain⟨T,x1,rfl,nT,rfl,z1⟩:=hz
    have z1:=z1 _ hx
    rw [e1] at z1
    cases z1
    have sa:bw F3 H3 (upd F3 T (.tup [.int i,v1])) (upd H3 T (.tup [.int i,v1])):=.alloc s2 nT
    refine⟨_,_,sa,.tup upd_same (.cons (as:=[]) ?_ (.cons ((q1.mono s1).mono sa.sub) .nil))⟩
    rw [Int.zero_add]
    exact .int _
   ·refine⟨xs,hx,?_⟩
    rw [oN] at hl
    rw [hr.len]
    exact hl
  ·cases h
def OkG (t:Frag->TG)(ix:List Nat)(ev:PyData->List Slot->Option (List Slot)):Prop:=∀(K:Frag) {sk:Option Addr} {F H:Hp} {σ:L2.St} {ρ:List Slot} {ak:List (List Addr)} {v:V} {d:PyData} {as:List Addr} {ρ':List Slot} {Q:L2.St->Hp->Prop},Same F H->Rp F v d as->Slots sk F H σ ρ ak->ev d ρ=some ρ' ->
 (∀σ' aH,Slots sk F H σ' ρ' aH->(∀a∈aH.flatten,a∈ak.flatten)->aH.flatten.Sublist ak.flatten->(∀vs:List Nat,(∀i∈ix,i∈vs)->wipe σ' vs=wipe σ vs)->Q σ' H)->t K v σ H Q
structure SG where
 t:Frag->TG
 ix:List Nat
 ev:PyData->List Slot->Option (List Slot)
 ok:OkG t ix ev
theorem gzq {σ:L2.St}{i:Nat}{x:Option V}:∀{vs:List Nat},i∈vs->wipe (σ.set i x) vs=wipe σ vs
 |v::vs,h=>by
  unfold wipe
  by_cases e:i∈vs
  ·rw [gzq e]
  ·have e2:i=v:=by
    rcases Kah.mp h with z|z
    ·exact z
    ·exact absurd z e
   subst e2
   have:∀(ws:List Nat) (τ:L2.St),i∉ws->(wipe (τ.set i x) ws).set i none=(wipe τ ws).set i none:=by
    intro ws
    induction ws with
    |nil=>intro τ _;show (τ.set i x).set i none=τ.set i none;rw [KaI]
    |cons w ws ih=>
     intro τ hw
     have n1:i≠w:=λz=>hw (by rw [z];exact Kaa)
     have n2:i∉ws:=λz=>hw (Kab _ z)
     unfold wipe
     rw [List.set_comm _ _ n1.symm,ih τ n2,List.set_comm _ _ n1]
   exact this vs σ e
theorem ou {ak:List (List Addr)}{i:Nat}:(ak.set i []).flatten.Sublist ak.flatten:=by
 induction ak generalizing i with
 |nil=>exact Ka2.refl _
 |cons x xs ih=>
  cases i with
  |zero=>
   show ([]++xs.flatten).Sublist (x++xs.flatten)
   rw [Ka1]
   exact Kby _ _
  |succ i=>
   show (x++(xs.set i []).flatten).Sublist (x++xs.flatten)
   exact Ka2.append (Ka2.refl _) ih
def aT (i:Nat):SG where
 t:=λ_=>gName i
 ix:=[i]
 ev:=λd ρ=>some (ρ.set i (.dat d))
 ok:=by
  intro K sk F H σ ρ ak v d as ρ' Q s r sl h q
  cases h
  refine q _ (ak.set i []) (sl.set ⟨rfl,v,as,rfl,r⟩) (λa m=>ou.mem m) ou λvs hv=>gzq (hv i (by simp))
def Vy (t:Frag->TGs)(ix:List Nat)(ev:List PyData->List Slot->Option (List Slot)):Prop:=∀(K:Frag) {sk:Option Addr} {F H:Hp} {σ:L2.St} {ρ:List Slot} {ak:List (List Addr)} {vs:List V} {ds:List PyData} {as:List Addr} {ρ':List Slot} {Q:L2.St->Hp->Prop},Same F H->az F vs ds as->Slots sk F H σ ρ ak->ev ds ρ=some ρ' ->
 (∀σ' aH,Slots sk F H σ' ρ' aH->(∀a∈aH.flatten,a∈ak.flatten)->aH.flatten.Sublist ak.flatten->(∀vs:List Nat,(∀i∈ix,i∈vs)->wipe σ' vs=wipe σ vs)->Q σ' H)->t K vs σ H Q
structure c9 where
 t:Frag->TGs
 n:Nat
 ix:List Nat
 ev:List PyData->List Slot->Option (List Slot)
 ok:Vy t ix ev
def c9.nil:c9 where
 t:=λ_=>gNil
 n:=0
 ix:=[]
 ev:=λds ρ=>match ds with|[]=>some ρ|_=>none
 ok:=by
  intro K sk F H σ ρ ak v d as ρ' Q s r sl h q
  dsimp only at h
  split at h
  ·cases h
   cases r
   exact⟨rfl,q _ ak sl (λa m=>m) (Ka2.refl _) λvs hv=>rfl⟩
  ·cases h
def c9.cons (g:SG)(r:c9):c9 where
 t:=λK=>gCons (g.t K) (r.t K)
 n:=r.n+1
 ix:=g.ix++r.ix
 ev:=λds ρ=>match ds with|d::ds=>(g.ev d ρ).bind λaB=>r.ev ds aB|_=>none
 ok:=by
  intro K sk F H σ ρ ak v d as ρ' Q s rr sl h q
  dsimp only at h
  split at h
  ·rename_i d ds
   obtain⟨aB,h1,h2⟩:=aL h
   cases rr with
   |cons r1 r2=>
    refine⟨_,_,rfl,g.ok K s r1 sl h1 λσ1 nQ Q2 m1 u1 w1=>?_⟩
    refine r.ok K s r2 Q2 h2 λσ2 fc sl2 m2 u2 w2=>?_
    refine q σ2 fc sl2 (λa m=>m1 a (m2 a m)) (u2.trans u1) λvs hv=>?_
    rw [w2 vs λi hi=>hv i (Kao _ hi),w1 vs λi hi=>hv i (Kac _ hi)]
  ·cases h
def SG.tup (g:c9):SG where
 t:=λK=>gTup K g.n (g.t K)
 ix:=g.ix
 ev:=λd ρ=>match d with|.tuple ds=>if ds.length=g.n then g.ev ds ρ else none|_=>none
 ok:=by
  intro K sk F H σ ρ ak v d as ρ' Q s r sl h q
  dsimp only at h
  split at h
  ·rename_i ds
   split at h
   ·rename_i hl
    obtain⟨a,xs,rfl,ha,hr⟩:=r.cg
    exact⟨a,xs,rfl,.inl (.inl (s _ _ ha)),by rw [hr.len];exact hl,g.ok K s hr sl h q⟩
   ·cases h
  ·cases h
end Pu
namespace Pu
variable [aZ]
open PySem L2
section
variable {sk:Option Addr}{F H:Hp}{σ:L2.St}{ρ:List Slot}{ak:List (List Addr)}
theorem Pj {α:Type}{l:List α}{i:Nat}{x:α}(h:l[i]? = some x):l.set i x=l:=by
 induction l generalizing i with
 |nil=>rfl
 |cons y l ih=>
  cases i with
  |zero=>cases h;rfl
  |succ i=>show y::l.set i x=y::l;rw [ih h]
/-- one more frozen object beside bM slots -/
theorem Slots.upd {a:Addr}{o:HO}(h:Slots sk F H σ ρ ak)(ha:a∉ak.flatten)(hF:F a=none):Slots sk (upd F a o) H σ ρ ak:=by
 have s1:Same F (L2.upd F a o):=λb u e=>by rw [upd_ne (ne_of_none e hF)];exact e
 induction h with
 |nil=>exact .nil
 |@cons x xs sl NY fp ak h r ih=>
  rw [Kav] at ha
  refine .cons ?_ (ih λm=>ha (Kao _ m))
  cases sl with
  |emp=>exact h
  |dat d=>obtain⟨e,v,as,e1,r⟩:=h;exact⟨e,v,as,e1,r.mono s1⟩
  |own d=>obtain⟨v,e1,r⟩:=h;exact⟨v,e1,r.mono s1⟩
  |aC ds o=>
   obtain⟨b,vs,as,e1,e2,e3,r,e4⟩:=h
   refine⟨b,vs,as,e1,e2,?_,r.mono s1,e4⟩
   rw [upd_ne (λz=>ha (Kac _ (by rw [e4,z];exact Kaa)))]
   exact e3
  |eJ f=>
   obtain⟨b,ws,e1,e2,e3,e4,r,e5⟩:=h
   refine⟨b,ws,e1,e2,?_,⟨e4.1,λp hp=>(e4.2 p hp).mono s1⟩,λk=>(r k).mono s1,e5⟩
   rw [upd_ne (λz=>ha (Kac _ (by rw [e5,z];exact Kaa)))]
   exact e3
  |g9 es=>obtain⟨e,a,od,ws,e1,e2,r⟩:=h;exact⟨e,a,od,ws,e1,s1 _ _ e2,Ku s1 r⟩
  |eI es=>
   obtain⟨b,ws,e1,e2,e3,r,e5⟩:=h
   refine⟨b,ws,e1,e2,?_,Ku s1 r,e5⟩
   rw [upd_ne (λz=>ha (Kac _ (by rw [e5,z];exact Kaa)))]
   exact e3
  |cB es=>
   obtain⟨b,ws,as,e1,e2,e3,r,e4,e5⟩:=h
   refine⟨b,ws,as,e1,e2,?_,gxi s1 (λ_ m=>m) r,λc m=>(e4 c m).imp λ_ z=>s1 _ _ z,e5⟩
   rw [upd_ne (λz=>ha (Kac _ (by rw [e5,z];exact Kaa)))]
   exact e3
  |cI f=>
   obtain⟨b,ws,e1,e2,e3,e4,r,e5⟩:=h
   refine⟨b,ws,e1,e2,?_,e4,λk=>(r k).mono s1,e5⟩
   rw [upd_ne (λz=>ha (Kac _ (by rw [e5,z];exact Kaa)))]
   exact e3
  |bf=>exact h
  |fix v=>exact h
  |fn f c q=>exact⟨h.1,h.2.1,s1 _ _ h.2.2⟩
  |u6 d=>
   obtain⟨v,e1,r,e2⟩:=h
   refine⟨v,e1,r.mono (Ut s1 λ_ _ _ e=>e),λb m=>?_⟩
   rw [upd_ne (λz=>ha (Kac _ (by rw [<-z];exact m)))]
   exact e2 b m
  |ins C nm ds=>obtain⟨e,b,dx,vs,as,e1,e2,e3,r⟩:=h;exact⟨e,b,dx,vs,as,e1,s1 _ _ e2,e3,r.mono s1⟩
  |obj C b nm ds=>
   obtain⟨dx,vs,as,e1,e2,e3,e4,e5,e6,r,e7⟩:=h
   refine⟨dx,vs,as,e1,e2,?_,e4,?_,e6,r.mono s1,e7⟩
   ·rw [upd_ne (λz=>ha (Kac _ (by rw [e7,z];exact Kaa)))];exact e3
   ·rw [upd_ne (λz=>ha (Kac _ (by rw [e7,z];exact Kab _ Kaa)))];exact e5
  |tV B C nm ds=>obtain⟨e,b,dx,vs,as,e1,e2,e3,r,hB⟩:=h;exact⟨e,b,dx,vs,as,e1,s1 _ _ e2,e3,r.mono s1,hB⟩
  |uv B C b nm ds=>
   obtain⟨dx,vs,as,e1,e2,e3,e4,e5,e6,r,hB,e7⟩:=h
   refine⟨dx,vs,as,e1,e2,?_,e4,?_,e6,r.mono s1,λc m=>⟨uO s1 (hB c m).1,(hB c m).2⟩,e7⟩
   ·rw [upd_ne (λz=>ha (Kac _ (by rw [e7,z];exact Kaa)))];exact e3
   ·rw [upd_ne (λz=>ha (Kac _ (by rw [e7,z];exact Kab _ Kaa)))];exact e5
  |Jy o ks ds f=>
   obtain⟨b,dx,ws,vs,as,rs,bs,e1,eo,e2,e3,e4,e5,e6,r,e7,e8,e9⟩:=h
   refine⟨b,dx,ws,vs,as,rs,bs,e1,eo,e2,?_,e4,?_,e6,r.mono s1,e7,e8.mono s1,e9⟩
   ·rw [upd_ne (λz=>ha (Kac _ (by rw [e9,z];exact Kaa)))];exact e3
   ·rw [upd_ne (λz=>ha (Kac _ (by rw [e9,z];exact Kab _ Kaa)))];exact e5
theorem Slots.q7 {a:Addr}{o:HO}(h:Slots sk F H σ ρ ak)(ha:a∉ak.flatten):Slots sk F (L2.upd H a o) σ ρ ak:=by
 induction h with
 |nil=>exact .nil
 |@cons x xs sl NY fp ak h r ih=>
  rw [Kav] at ha
  refine .cons ?_ (ih λm=>ha (Kao _ m))
  cases sl with
  |emp=>exact h
  |dat d=>exact h
  |own d=>exact h
  |aC ds o=>
   obtain⟨b,vs,as,e1,e2,e3,r,e4⟩:=h
   refine⟨b,vs,as,e1,?_,e3,r,e4⟩
   rw [upd_ne (λz=>ha (Kac _ (by rw [e4,z];exact Kaa)))]
   exact e2
  |eJ f=>
   obtain⟨b,ws,e1,e2,e3,e4,r,e5⟩:=h
   refine⟨b,ws,e1,?_,e3,e4,r,e5⟩
   rw [upd_ne (λz=>ha (Kac _ (by rw [e5,z];exact Kaa)))]
   exact e2
  |g9 es=>exact h
  |eI es=>
   obtain⟨b,ws,e1,e2,e3,r,e5⟩:=h
   refine⟨b,ws,e1,?_,e3,r,e5⟩
   rw [upd_ne (λz=>ha (Kac _ (by rw [e5,z];exact Kaa)))]
   exact e2
  |cB es=>
   obtain⟨b,ws,as,e1,e2,e3,r,e4,e5⟩:=h
   refine⟨b,ws,as,e1,?_,e3,r,e4,e5⟩
   rw [upd_ne (λz=>ha (Kac _ (by rw [e5,z];exact Kaa)))]
   exact e2
  |cI f=>
   obtain⟨b,ws,e1,e2,e3,e4,r,e5⟩:=h
   refine⟨b,ws,e1,?_,e3,e4,r,e5⟩
   rw [upd_ne (λz=>ha (Kac _ (by rw [e5,z];exact Kaa)))]
   exact e2
  |bf=>exact h
  |fix v=>exact h
  |fn f c q=>exact h
  |u6 d=>
   obtain⟨v,e1,r,e2⟩:=h
   refine⟨v,e1,r.mono (Ut (Same.refl _) λb m o e=>?_),e2⟩
   rw [upd_ne (λz=>ha (Kac _ (by rw [<-z];exact m)))]
   exact e
  |ins C nm ds=>exact h
  |obj C b nm ds=>
   obtain⟨dx,vs,as,e1,e2,e3,e4,e5,e6,r,e7⟩:=h
   refine⟨dx,vs,as,e1,?_,e3,?_,e5,e6,r,e7⟩
   ·rw [upd_ne (λz=>ha (Kac _ (by rw [e7,z];exact Kaa)))];exact e2
   ·rw [upd_ne (λz=>ha (Kac _ (by rw [e7,z];exact Kab _ Kaa)))];exact e4
  |tV B C nm ds=>exact h
  |uv B C b nm ds=>
   obtain⟨dx,vs,as,e1,e2,e3,e4,e5,e6,r,hB,e7⟩:=h
   refine⟨dx,vs,as,e1,?_,e3,?_,e5,e6,r,hB,e7⟩
   ·rw [upd_ne (λz=>ha (Kac _ (by rw [e7,z];exact Kaa)))];exact e2
   ·rw [upd_ne (λz=>ha (Kac _ (by rw [e7,z];exact Kab _ Kaa)))];exact e4
  |Jy o ks ds f=>
   obtain⟨b,dx,ws,vs,as,rs,bs,e1,eo,e2,e3,e4,e5,e6,r,e7,e8,e9⟩:=h
   refine⟨b,dx,ws,vs,as,rs,bs,e1,eo,?_,e3,?_,e5,e6,r,e7,e8,e9⟩
   ·rw [upd_ne (λz=>ha (Kac _ (by rw [e9,z];exact Kaa)))];exact e2
   ·rw [upd_ne (λz=>ha (Kac _ (by rw [e9,z];exact Kab _ Kaa)))];exact e4
/-- slot i without its content -/
theorem Slots.drop {i:Nat}(h:Slots sk F H σ ρ ak):Slots sk F H σ (ρ.set i .emp) (ak.set i []):=by
 induction h generalizing i with
 |nil=>exact .nil
 |cons h r ih=>
  cases i with
  |zero=>exact .cons rfl r
  |succ i=>exact .cons h ih
/-- slot i set anew -/
theorem Slots.fill {i:Nat}{x:Option V}{sl:Slot}{fp:List Addr}(h:Slots sk F H σ ρ ak)(hx:σ[i]? = some x)(q:xB sk F H x sl fp):Slots sk F H σ (ρ.set i sl) (ak.set i fp):=by
 have:=h.set (i:=i) q
 rwa [Pj hx] at this
end
def bq (ρ:List Slot):List Nat->List Slot
 |[]=>ρ
 |v::vs=>(bq ρ vs).set v .emp
theorem Slots.wipe {sk:Option Addr}{F H:Hp}{σ:L2.St}{ρ:List Slot}{ak:List (List Addr)}(h:Slots sk F H σ ρ ak):∀vs:List Nat,∃aH,Slots sk F H (wipe σ vs) (bq ρ vs) aH/\aH.flatten.Sublist ak.flatten
 |[]=>⟨ak,h,Ka2.refl _⟩
 |v::vs=>by
  obtain⟨f1,h1,h2⟩:=Slots.wipe h vs
  exact⟨f1.set v [],h1.set rfl,ou.trans h2⟩
theorem TU (σ:L2.St)(vs:List Nat):wipe (wipe σ vs) vs=wipe σ vs:=by
 have:∀ws:List Nat,(∀i∈ws,i∈vs)->wipe (wipe σ ws) vs=wipe σ vs:=by
  intro ws
  induction ws with
  |nil=>intro _;rfl
  |cons w ws ih=>
   intro h
   show wipe ((wipe σ ws).set w none) vs=wipe σ vs
   rw [gzq (h w Kaa),ih λi hi=>h i (Kab _ hi)]
 exact this vs λi hi=>hi
def fN (z:Vl):Bool:=z.2 ||aM z.1
def cy (g:PyData->List Slot->Option (List Slot))(tt:List Slot->aa->Option (Bool×aa))(e:HQ)(ρ:List Slot):List PyData->aa->Option (List Vl×aa)
 |[],s=>some ([],s)
 |d::ds,s=>(g d ρ).bind λaB=>(tt aB s).bind λb=>if b.1=true then (e aB b.2).bind λy=>(cy g tt e ρ ds y.2).bind λz=>some (y.1::z.1,z.2) else cy g tt e ρ ds b.2
/-- bM state of a comprehension -/
structure oh (sk:Option Addr)(F1 H1:Hp)(D:Addr)(ys:List Vl)(F H:Hp)(s:aa)(vs:List V)(as:List Addr):Prop where
 sub:Same F1 F
 sub':Same F H
 fr:∀(a:Addr) (o:HO) (_:sk≠some a) (_:H1 a=some o) (_:vD o:=by first|assumption|(intro ps z;cases z;done)),H a=some o
 dm:∀a,H1 a≠none->H a≠none
 new:∀a o,F a=some o->F1 a=some o∨H1 a=none
 bh:bA sk F H s
 hD:H D=some (.lst vs)
 fD:F D=none
 r:az F vs (ys.map (·.1)) as
 bT:bS (ys.all fN) H1 as
/-- one more aqA expression -/
theorem oh.step {sk:Option Addr}{F1 H1:Hp}{D:Addr}{ys:List Vl}{F H F' H':Hp}{s s':aa}{vs:List V}{as:List Addr}(L:oh sk F1 H1 D ys F H s vs as)(nD:sk≠some D)(st:Step sk F H F' H')(k:bA sk F' H' s'):oh sk F1 H1 D ys F' H' s' vs as:=by
 refine⟨L.sub.trans st.sub,st.sub',λa o h e hs=>st.fr a o h (L.fr a o h e hs) hs,λa h=>st.dm a (L.dm a h),λa o e=>?_,k,st.fr D _ nD L.hD,?_,L.r.mono st.sub,L.bT⟩
 ·rcases st.new a o e with z|z
  ·exact L.new a o z
  ·refine .inr ?_
   cases q:H1 a with
   |none=>rfl
   |some u=>exact absurd z (L.dm a (by rw [q];exact nofun))
 ·cases q:F' D with
  |none=>rfl
  |some u=>
   rcases st.new D u q with z|z
   ·rw [L.fD] at z;cases z
   ·rw [L.hD] at z;cases z
/-- bM new item is put in -/
theorem oh.put {sk:Option Addr}{F1 H1:Hp}{D:Addr}{ys:List Vl}{F H F' H':Hp}{s s':aa}{vs:List V}{as bs:List Addr}{y:Vl}{v:V}(L:oh sk F1 H1 D ys F H s vs as)(nD:sk≠some D)(hn:H1 D=none)(st:Step sk F H F' H')(k:bA sk F' H' s')(r:Rp F' v y.1 bs)(f:bS y.2 H bs):
  oh sk F1 H1 D (ys++[y]) F' (upd H' D (.lst (vs++[v]))) s' (vs++[v]) (as++bs):=by
 have M:=L.step nD st k
 refine⟨M.sub,λa o e=>?_,λa o h e hs=>?_,λa h=>?_,M.new,⟨λa e=>?_,Uj M.bh.tab M.hD⟩,upd_same,M.fD,?_,?_⟩
 ·rw [upd_ne (λz=>by rw [z,M.fD] at e;cases e)];exact M.sub' a o e
 ·rw [upd_ne (λz=>by rw [z,hn] at e;cases e)];exact M.fr a o h e
 ·rw [upd_ne (λz=>h (by rw [z];exact hn))];exact M.dm a h
 ·obtain⟨h1,h2⟩:=M.bh a e
  exact⟨by rw [upd_ne (λz=>nD (by rw [<-z];exact e))];exact h1,h2⟩
 ·rw [Kaz]
  have:=M.r.app (az.cons r .nil)
  simpa using this
 ·intro e
  rw [KcL,Ka7] at e
  have e2:fN y=true:=by simpa using e.2
  obtain⟨n1,n2⟩:=L.bT e.1
  have hb:bs.Nodup/\∀a∈bs,H a=none:=by
   unfold fN at e2
   rcases Kbe.mp e2 with z|z
   ·exact f z
   ·rw [r.aM z];exact⟨KaO,λa m=>by cases m⟩
  refine⟨Kal.mpr ⟨n1,hb.1,λa ma b mb z=>?_⟩,λa m=>?_⟩
  ·subst z
   obtain⟨xs,hx⟩:=L.r.dom a ma
   have z1:=L.sub' a _ hx
   rw [hb.2 a mb] at z1
   cases z1
  ·rcases Kam.mp m with z|z
   ·exact n2 a z
   ·cases q:H1 a with
    |none=>rfl
    |some u=>exact absurd (hb.2 a z) (L.dm a (by rw [q];exact nofun))
theorem oh.done {sk:Option Addr}{F1 H1:Hp}{D:Addr}{ys:List Vl}{F H:Hp}{s:aa}{vs:List V}{as:List Addr}(L:oh sk F1 H1 D ys F H s vs as)(nD:sk≠some D)(hn:H1 D=none):
  Step sk F1 H1 (upd F D (.lst vs)) H/\bA sk (upd F D (.lst vs)) H s/\Rp (upd F D (.lst vs)) (.ref D) (.list (ys.map (·.1))) (D::as)/\bS (ys.all fN) H1 (D::as):=by
 have s1:Same F (upd F D (.lst vs)):=λa o e=>by
  rw [upd_ne (λz=>by rw [z,L.fD] at e;cases e)];exact e
 refine⟨⟨L.sub.trans s1,λa o e=>?_,λa o x y z=>L.fr a o x y z,L.dm,λa o e=>?_⟩,⟨λa e=>?_,L.bh.tab.Ai⟩,.lst upd_same (L.r.mono s1),λe=>?_⟩
 ·by_cases q:a=D
  ·rw [q,upd_same] at e;rw [q,<-e];exact L.hD
  ·rw [upd_ne q] at e;exact L.sub' a o e
 ·by_cases q:a=D
  ·rw [q];exact .inr hn
  ·rw [upd_ne q] at e;exact L.new a o e
 ·obtain⟨h1,h2⟩:=L.bh a e
  exact⟨h1,by rw [upd_ne (λz=>nD (by rw [<-z];exact e))];exact h2⟩
 ·obtain⟨n1,n2⟩:=L.bT e
  refine⟨KaP.mpr ⟨λm=>?_,n1⟩,λa m=>?_⟩
  ·obtain⟨xs,hx⟩:=L.r.dom D m
   rw [L.fD] at hx;cases hx
  ·rcases Kah.mp m with z|z
   ·rw [z];exact hn
   ·exact n2 a z
theorem oh.start {sk:Option Addr}{F1 H1:Hp}{D:Addr}{s:aa}(sub:Same F1 H1)(k:bA sk F1 H1 s)(hn:H1 D=none):oh sk F1 H1 D [] F1 (upd H1 D (.lst [])) s [] []:=by
 refine⟨Same.refl _,λa o e=>?_,λa o h e _=>?_,λa h=>?_,λa o e=>.inl e,⟨λa e=>?_,YO k.tab hn⟩,upd_same,sub.free hn,.nil,.nil⟩
 ·have:=sub a o e
  rw [upd_ne (ne_of_none this hn)];exact this
 ·rw [upd_ne (ne_of_none e hn)];exact e
 ·rw [upd_ne (λz=>h (by rw [z];exact hn))];exact h
 ·obtain⟨h1,h2⟩:=k a e
  exact⟨by rw [upd_ne (ne_of_none h1 hn)];exact h1,h2⟩
theorem fJ {sk:Option Addr}{F H:Hp}{s:aa}{D:Addr}(k:bA sk F H s)(hn:H D=none):sk≠some D:=λe=>by
 have:=(k D e).1
 rw [hn] at this;cases this
/-- bM turns of a comprehension -/
theorem t9 {it:SI}{g:SG}{tt:ST}{e:SE}{vs:List Nat}(hv:∀i∈g.ix,i∈vs)(K:Frag){sk:Option Addr}{F H:Hp}{σ:L2.St}{ρ:List Slot}{ak:List (List Addr)}{s s1 s':aa}{ds:List PyData}{ys:List Vl}{Q:VK}(p:Pre sk F H σ ρ ak s)(h1:it.ev ρ s=some (ds,s1))(h2:cy g.ev tt.ev e.ev (bq ρ vs) ds s1=some (ys,s'))(hlen:ys.length<=100000)
  (q:∀F1 H1 D F2 H2 ws as,Step sk F H F1 H1->bA sk F1 H1 s1->H1 D=none->sk≠some D->oh sk F1 H1 D ys F2 H2 s' ws as->Q (.ref D) H2):tLc (it.t K) (g.t K) (tt.t K) (e.t K) vs σ H Q:=by
 refine it.ok K p h1 λJ F1 H1 st1 k1 yl D nD=>?_
 have P1:=p.next st1 k1
 have dH:sk≠some D:=fJ k1 nD
 refine⟨λi m H2=>∃F2 si done rest EM as2,m=(ds.drop i).length/\i<=ds.length/\oh sk F1 H1 D done F2 H2 si EM as2/\cy g.ev tt.ev e.ev (bq ρ vs) (ds.drop i) si=some (rest,s')/\done++rest=ys,
  ⟨ds.length,F1,s1,[],ys,[],[],by simp,KaV _,.start st1.sub' k1 nD,by simpa using h2,rfl⟩,λi m H2 hW=>?_⟩
 obtain⟨F2,si,done,rest,EM,as2,em,hi,L,hc,hys⟩:=hW
 by_cases hlt:i<ds.length
 ·have ed:ds.drop i=ds[i]::ds.drop (i+1):=Kbg hlt
  have eg:ds[i]? = some ds[i]:=Kau hlt
  rw [ed] at hc em
  obtain⟨go,yld⟩:=(yl F2 H2 i L.sub L.sub').1 _ eg
  unfold cy at hc
  obtain⟨aB,c1,hc⟩:=aL hc
  obtain⟨⟨b,sb⟩,c2,hc⟩:=aL hc
  dsimp only at hc
  refine .inr ⟨go,λH'=>∃F3 qX done' rest' Mu rV,oh sk F1 H1 D done' F3 H' qX Mu rV/\cy g.ev tt.ev e.ev (bq ρ vs) (ds.drop (i+1)) qX=some (rest',s')/\done'++rest'=ys,λH' hN=>?_,λx H3 hy=>?_⟩
  ·obtain⟨F3,qX,done',rest',Mu,rV,L3,c3,e3⟩:=hN
   exact⟨(ds.drop (i+1)).length,by rw [em];exact Kbq _,F3,qX,done',rest',Mu,rV,rfl,hlt,L3,c3,e3⟩
  ·obtain⟨F3,rV,sa,r3⟩:=yld x H3 hy
   have L3:=L.step dH sa.any (L.bh.keep sa)
   have NX:Slots sk F1 H1 σ ρ ak:=P1.slots
   have stp:Step sk F1 H1 F3 H3:=⟨L3.sub,L3.sub',λa o x y z=>L3.fr a o x y z,L3.dm,L3.new⟩
   have DW:=NX.step stp P1.jH
   obtain⟨fw,Mi,mw⟩:=DW.wipe vs
   refine g.ok K L3.sub' r3 Mi c1 λσ' aH sl' m' u' w'=>⟨?_,?_⟩
   ·rw [w' vs hv,TU]
   ·have P3:Pre sk F3 H3 σ' aB aH si:=⟨L3.sub',L3.bh,sl',λa ha ma=>P1.jH a ha (mw.mem (m' a ma)),P1.dX.sublist (u'.trans mw)⟩
    refine tt.ok K P3 c2 λF4 H4 uR k4=>?_
    have L4:=L3.step dH uR k4
    split at hc
    ·rename_i eb
     rw [if_pos eb]
     obtain⟨⟨y,sy⟩,c3,hc⟩:=aL hc
     obtain⟨⟨z,sz⟩,c4,hc⟩:=aL hc
     cases hc
     refine e.ok K (P3.next uR k4) c3 λv F5 H5 VE st5 k5 r5 f5=>?_
     have L5:=L4.put dH nD st5 k5 r5 f5
     refine⟨EM,st5.fr D _ dH L4.hD,?_,F5,sy,_,z,_,_,L5,c4,?_⟩
     ·have:=L.r.len
      rw [Kag] at this
      rw [this]
      have e2:done.length+(z.length+1)=ys.length:=by rw [<-hys];simp
      exact Ka4 (show done.length<100000 by omega) (by decide)
     ·rw [<-hys];simp
    ·rename_i eb
     rw [if_neg eb]
     exact⟨F4,sb,done,rest,EM,as2,L4,hc,hys⟩
 ·have e1:i=ds.length:=by omega
  subst e1
  rw [Kbr] at hc
  unfold cy at hc
  cases hc
  rw [KaE] at hys
  subst hys
  exact .inl ⟨(yl F2 H2 _ L.sub L.sub').2 (Kat _),q F1 H1 D F2 H2 EM as2 st1 k1 nD dH L⟩
def hxs (it:SI)(g:SG)(tt:ST)(e:SE)(vs:List Nat)(hv:∀i∈g.ix,i∈vs):SE where
 t:=λK=>tLc (it.t K) (g.t K) (tt.t K) (e.t K) vs
 ev:=λρ s=>(it.ev ρ s).bind λx=>(cy g.ev tt.ev e.ev (bq ρ vs) x.1 x.2).bind λy=>if y.1.length<=100000 then some ((.list (y.1.map (·.1)),y.1.all fN),y.2) else none
 ok:=by
  intro K sk F H σ ρ ak s vl s' Q p h q
  obtain⟨⟨ds,s1⟩,h1,g1⟩:=aL h
  obtain⟨⟨ys,s2⟩,h2,g2⟩:=aL g1
  clear h g1
  dsimp only at g2 h2
  split at g2
  case isFalse=>cases g2
  rename_i hlen
  cases g2
  refine t9 hv K p h1 h2 hlen λF1 H1 D F2 H2 ws as st1 k1 nD dH L=>?_
  obtain⟨d1,d2,d3,d4⟩:=L.done dH nD
  exact q _ _ H2 _ (st1.trans d1) d2 d3 (d4.back st1.dm)
def OkB (t:Frag->TE)(ev:List Slot->aa->Option ((List PyData×Bool)×aa)):Prop:=∀(K:Frag) {sk:Option Addr} {F H:Hp} {σ:L2.St} {ρ:List Slot} {ak:List (List Addr)} {s:aa} {ds:List PyData} {o:Bool} {s':aa} {Q:VK},Pre sk F H σ ρ ak s->ev ρ s=some ((ds,o),s') ->
 (∀a ws F' H' as,Step sk F H F' H'->bA sk F' H' s'->H a=none->F' a=none->H' a=some (.lst ws)->az F' ws ds as->a∉as->bS o H as->Q (.ref a) H')->t K σ H Q
structure SB where
 t:Frag->TE
 ev:List Slot->aa->Option ((List PyData×Bool)×aa)
 ok:OkB t ev
def SB.lc (it:SI)(g:SG)(tt:ST)(e:SE)(vs:List Nat)(hv:∀i∈g.ix,i∈vs):SB where
 t:=λK=>tLc (it.t K) (g.t K) (tt.t K) (e.t K) vs
 ev:=λρ s=>(it.ev ρ s).bind λx=>(cy g.ev tt.ev e.ev (bq ρ vs) x.1 x.2).bind λy=>if y.1.length<=100000 then some ((y.1.map (·.1),y.1.all fN),y.2) else none
 ok:=by
  intro K sk F H σ ρ ak s dd o s' Q p h q
  obtain⟨⟨ds,s1⟩,h1,g1⟩:=aL h
  obtain⟨⟨ys,s2⟩,h2,g2⟩:=aL g1
  clear h g1
  dsimp only at g2 h2
  split at g2
  case isFalse=>cases g2
  rename_i hlen
  cases g2
  refine t9 hv K p h1 h2 hlen λF1 H1 D F2 H2 ws as st1 k1 nD dH L=>?_
  refine q D ws F2 H2 as (st1.trans ⟨L.sub,L.sub',λa o x y z=>L.fr a o x y z,L.dm,L.new⟩) L.bh ?_ L.fD L.hD L.r ?_ (L.bT.back st1.dm)
  ·cases hq:H D with
   |none=>rfl
   |some u=>exact absurd nD (st1.dm D (by rw [hq];exact nofun))
  ·intro m
   obtain⟨xs,hx⟩:=L.r.dom D m
   rw [L.fD] at hx;cases hx
/-- a list of yf own -/
def SB.own (e:SE):SB where
 t:=e.t
 ev:=λρ s=>(e.ev ρ s).bind λx=>match x.1 with
  |(.list ds,true)=>some ((ds,true),x.2)
  |_=>none
 ok:=by
  intro K sk F H σ ρ ak s dd o s' Q p h q
  obtain⟨⟨x,s1⟩,h1,h2⟩:=aL h
  dsimp only at h2
  split at h2
  ·cases h2
   refine e.ok K p h1 λv F1 H1 as st k r f=>?_
   obtain⟨a,xs,cs,rfl,ha,hr,rfl⟩:=r.aP
   obtain⟨n1,n2⟩:=f rfl
   have ha0:H a=none:=n2 a Kaa
   have hFa:F a=none:=p.sub.free ha0
   have acs:a∉cs:=(KaP.mp n1).1
   have sD:Same (del F1 a) F1:=λb o e=>by
    by_cases z:b=a
    ·rw [z,Nn] at e;cases e
    ·rw [zh z] at e;exact e
   have sF:Same F (del F1 a):=λb o e=>by
    rw [zh (λz=>by rw [z,hFa] at e;cases e)];exact st.sub b o e
   refine q a xs (del F1 a) H1 cs ⟨sF,sD.trans st.sub',λa o x y z=>st.fr a o x y z,st.dm,λb o e=>st.new b o (sD b o e)⟩ ⟨λb e=>⟨(k b e).1,?_⟩,k.tab.back sD⟩ ha0 Nn (st.sub' _ _ ha) (hr.nG ha acs) acs λ_=>⟨(KaP.mp n1).2,λb m=>n2 b (Kab _ m)⟩
   by_cases z:b=a
   ·rw [z,Nn]
   ·rw [zh z];exact (k b e).2
  ·cases h2
theorem Pre.peek {sk:Option Addr}{F H:Hp}{σ:L2.St}{ρ:List Slot}{ak:List (List Addr)}{s:aa}{i:Nat}{ds:List PyData}{o:Bool}(p:Pre sk F H σ ρ ak s)(e:ρ[i]? = some (.aC ds o)):
  ∃a vs aH,H a=some (.lst vs)/\F a=none/\sk≠some a/\Pre sk (upd F a (.lst vs)) H σ (ρ.set i (.dat (.list ds))) aH s:=by
 obtain⟨x,fp,e1,e2,a,vs,as,rfl,hH,hF,r,rfl⟩:=p.slots.get e
 have fa:a∈ak.flatten:=Kaw.mpr ⟨_,Kar e2,Kaa⟩
 have dH:sk≠some a:=λz=>p.jH a z fa
 obtain⟨n1,n2⟩:=vm p.dX e2
 have n3:=Kal.mp n1
 have na:a∉(ak.set i []).flatten:=λm=>n3.2.2 a Kaa a m rfl
 have sF:Same F (upd F a (.lst vs)):=λb u e=>by rw [upd_ne (ne_of_none e hF)];exact e
 have sl:=(p.slots.drop (i:=i)).upd (a:=a) (o:=.lst vs) na hF
 have sl2:=sl.fill (sl:=.dat (.list ds)) e1 ⟨rfl,_,_,rfl,.lst upd_same (r.mono sF)⟩
 rw [KaI,KaI] at sl2
 refine⟨a,vs,ak.set i [],hH,hF,dH,λb u e=>?_,⟨λb e=>⟨(p.bh b e).1,?_⟩,p.bh.tab.Ai⟩,sl2,λb e m=>p.jH b e (ou.mem m),n3.2.1⟩
 ·by_cases z:b=a
  ·rw [z,upd_same] at e;rw [z,<-e];exact hH
  ·rw [upd_ne z] at e;exact p.sub b u e
 ·rw [upd_ne (λz=>dH (by rw [<-z];exact e))];exact (p.bh b e).2
theorem Step.Eb {sk:Option Addr}{F H F' H':Hp}{a:Addr}{vs:List V}{s:aa}(hF:F a=none)(dH:sk≠some a)(st:Step sk (upd F a (.lst vs)) H F' H')(k:bA sk F' H' s):Step sk F H (del F' a) H'/\bA sk (del F' a) H' s/\F' a=some (.lst vs):=by
 have sD:Same (del F' a) F':=λb o e=>by
  by_cases z:b=a
  ·rw [z,Nn] at e;cases e
  ·rw [zh z] at e;exact e
 refine⟨⟨λb u e=>?_,sD.trans st.sub',λa o x y z=>st.fr a o x y z,st.dm,λb u e=>?_⟩,⟨λb e=>⟨(k b e).1,?_⟩,k.tab.back sD⟩,st.sub a _ upd_same⟩
 ·have nb:b≠a:=ne_of_none e hF
  rw [zh nb]
  exact st.sub b u (by rw [upd_ne nb];exact e)
 ·by_cases z:b=a
  ·rw [z,Nn] at e;cases e
  ·rcases st.new b u (sD b u e) with q|q
   ·rw [upd_ne z] at q;exact .inl q
   ·exact .inr q
 ·by_cases z:b=a
  ·rw [z,Nn]
  ·rw [zh z];exact (k b e).2
def SE.al (i:Nat)(e:SE):SE where
 t:=e.t
 ev:=λρ s=>match ρ[i]? with
  |some (.aC ds _)=>(e.ev (ρ.set i (.dat (.list ds))) s).bind λx=>if fN x.1=true then some x else none
  |_=>none
 ok:=by
  intro K sk F H σ ρ ak s vl s' Q p h q
  dsimp only at h
  split at h
  ·rename_i ds o cz
   obtain⟨⟨x,s1⟩,h1,h2⟩:=aL h
   dsimp only at h2
   split at h2
   ·rename_i hown
    cases h2
    obtain⟨a,vs,aH,hH,hF,dH,pp⟩:=p.peek cz
    refine e.ok K pp h1 λv F1 H1 as st k r f=>?_
    obtain⟨u1,u2,u3⟩:=st.Eb hF dH k
    refine q v (del F1 a) H1 as u1 u2 (r.nG u3 λm=>?_) f
    unfold fN at hown
    rcases Kbe.mp hown with z|z
    ·have:=(f z).2 a m
     rw [hH] at this;cases this
    ·rw [r.aM z] at m;cases m
   ·cases h2
  ·cases h
def Qk (i:Nat)(e:ST):ST where
 t:=e.t
 ev:=λρ s=>match ρ[i]? with
  |some (.aC ds _)=>e.ev (ρ.set i (.dat (.list ds))) s
  |_=>none
 ok:=by
  intro K sk F H σ ρ ak s vl s' Q p h q
  dsimp only at h
  split at h
  ·rename_i ds o cz
   obtain⟨a,vs,aH,hH,hF,dH,pp⟩:=p.peek cz
   refine e.ok K pp h λF1 H1 st k=>?_
   obtain⟨u1,u2,u3⟩:=st.Eb hF dH k
   exact q (del F1 a) H1 u1 u2
  ·cases h
end Pu
namespace Pu
variable [aZ]
open PySem L2
inductive Out where
 |nx (ρ:List Slot) (s:aa)
 |ret (vl:Vl) (s:aa)
 |brk (ρ:List Slot) (s:aa)
 |cnt (ρ:List Slot) (s:aa)
structure Wd (sk:Option Addr)(F0 H0 F H:Hp)(σ:L2.St)(ρ:List Slot)(ak:List (List Addr))(s:aa):Prop where
 st:Step sk F0 H0 F H
 bh:bA sk F H s
 slots:Slots sk F H σ ρ ak
 dX:ak.flatten.Nodup
 bT:∀a∈ak.flatten,H0 a=none/\H a≠none/\sk≠some a
section
variable {sk:Option Addr}{F0 H0 F H F' H':Hp}{σ σ':L2.St}{ρ ρ':List Slot}{ak aH:List (List Addr)}{s s':aa}
theorem Wd.pre (w:Wd sk F0 H0 F H σ ρ ak s):Pre sk F H σ ρ ak s:=⟨w.st.sub',w.bh,w.slots,λa e m=>(w.bT a m).2.2 e,w.dX⟩
theorem Wd.next (w:Wd sk F0 H0 F H σ ρ ak s)(st:Step sk F H F' H')(k:bA sk F' H' s'):Wd sk F0 H0 F' H' σ ρ ak s':=
 ⟨w.st.trans st,k,w.slots.step st w.pre.jH,w.dX,λa m=>⟨(w.bT a m).1,st.dm a (w.bT a m).2.1,(w.bT a m).2.2⟩⟩
theorem Wd.jq (w:Wd sk F0 H0 F H σ ρ ak s){b:Bool}{as:List Addr}(f:bS b H as):bS b H0 as:=f.back w.st.dm
/-- slot i Zy data -/
theorem Wd.qV (w:Wd sk F0 H0 F H σ ρ ak s){i:Nat}{v:V}{d:PyData}{as:List Addr}(r:Rp F v d as):∃aH,Wd sk F0 H0 F H (σ.set i (some v)) (ρ.set i (.dat d)) aH s:=
 ⟨ak.set i [],w.st,w.bh,w.slots.set ⟨rfl,v,as,rfl,r⟩,w.dX.sublist ou,λa m=>w.bT a (ou.mem m)⟩
/-- slot i Zy what it owns: new addresses -/
theorem Wd.Me {Hb:Hp}(w:Wd sk F0 H0 F H σ ρ ak s){i:Nat}{v:V}{d:PyData}{as:List Addr}(r:Rp F v d as)(hn:as.Nodup)(hf:∀a∈as,Hb a=none)(h0:∀a,H0 a≠none->Hb a≠none)(hfp:∀a∈ak.flatten,Hb a≠none):∃aH,Wd sk F0 H0 F H (σ.set i (some v)) (ρ.set i (.own d)) aH s:=by
 have nd:(as++ak.flatten).Nodup:=Kal.mpr ⟨hn,w.dX,λa ma b mb z=>by subst z;exact hfp a mb (hf a ma)⟩
 obtain⟨n1,n2⟩:=u7 (i:=i) nd
 refine⟨ak.set i as,w.st,w.bh,w.slots.set ⟨v,rfl,r⟩,n1,λa m=>?_⟩
 rcases n2 a m with z|z
 ·obtain⟨xs,hx⟩:=r.dom a z
  have hx:=w.st.sub' _ _ hx
  refine⟨?_,by rw [hx];exact nofun,λe=>?_⟩
  ·cases q:H0 a with
   |none=>rfl
   |some u=>exact absurd (hf a z) (h0 a (by rw [q];exact nofun))
  ·obtain⟨xs,hy⟩:=r.dom a z
   rw [(w.bh a e).2] at hy
   cases hy
 ·exact w.bT a z
end
def jN (D:Ends)(sk:Option Addr)(F0 H0 F:Hp):Out->Prop
 |.nx ρ' s'=>∀F' H' σ' aH,Same F F'->Wd sk F0 H0 F' H' σ' ρ' aH s'->D.nx σ' H'
 |.brk ρ' s'=>∀F' H' σ' aH,Same F F'->Wd sk F0 H0 F' H' σ' ρ' aH s'->D.bk σ' H'
 |.cnt ρ' s'=>∀F' H' σ' aH,Same F F'->Wd sk F0 H0 F' H' σ' ρ' aH s'->D.ct σ' H'
 |.ret vl s'=>∀v F' H' as,Step sk F0 H0 F' H'->bA sk F' H' s'->Rp F' v vl.1 as->bS vl.2 H0 as->D.rt v H'
theorem jN.mono {D:Ends}{sk:Option Addr}{F0 H0 F F':Hp}{out:Out}(h:jN D sk F0 H0 F out)(e:Same F F'):jN D sk F0 H0 F' out:=by
 cases out with
 |nx ρ s=>exactλF2 H2 σ2 fc e2 w=>h F2 H2 σ2 fc (e.trans e2) w
 |brk ρ s=>exactλF2 H2 σ2 fc e2 w=>h F2 H2 σ2 fc (e.trans e2) w
 |cnt ρ s=>exactλF2 H2 σ2 fc e2 w=>h F2 H2 σ2 fc (e.trans e2) w
 |ret vl s=>exact h
abbrev AV:=List Slot->aa->Option Out
def OkS (t:Frag->TS)(ev:AV):Prop:=∀(K:Frag) {sk:Option Addr} {F0 H0 F H:Hp} {σ:L2.St} {ρ:List Slot} {ak:List (List Addr)} {s:aa} {out:Out} {D:Ends},Wd sk F0 H0 F H σ ρ ak s->ev ρ s=some out->jN D sk F0 H0 F out->t K D σ H
structure SS where
 t:Frag->TS
 ev:AV
 ok:OkS t ev
def SS.ac:SS:=⟨λ_=>tNext,λρ s=>some (.nx ρ s),by
 intro K sk F0 H0 F H σ ρ ak s out D w h q
 cases h
 exact q F H σ ak (Same.refl _) w⟩
def SS.brk:SS:=⟨λ_=>tBreak,λρ s=>some (.brk ρ s),by
 intro K sk F0 H0 F H σ ρ ak s out D w h q
 cases h
 exact q F H σ ak (Same.refl _) w⟩
def SS.cnt:SS:=⟨λ_=>tCont,λρ s=>some (.cnt ρ s),by
 intro K sk F0 H0 F H σ ρ ak s out D w h q
 cases h
 exact q F H σ ak (Same.refl _) w⟩
def Qx:SS:=⟨λ_=>tNever,λρ s=>none,by
 intro K sk F0 H0 F H σ ρ ak s out D w h q
 cases h⟩
def Ab (b:AV):Out->Option Out
 |.nx ρ s=>b ρ s
 |o=>some o
def SS.ab (a b:SS):SS where
 t:=λK=>tSeq (a.t K) (b.t K)
 ev:=λρ s=>(a.ev ρ s).bind λo=>Ab b.ev o
 ok:=by
  intro K sk F0 H0 F H σ ρ ak s out D w h q
  obtain⟨o,h1,h2⟩:=aL h
  refine a.ok K w h1 ?_
  cases o with
  |nx aB s1=>exactλF1 H1 σ1 nQ e1 w1=>b.ok K w1 h2 (q.mono e1)
  |brk aB s1=>cases h2;exact q
  |cnt aB s1=>cases h2;exact q
  |ret vl s1=>cases h2;exact q
def Jh (e:SE):SS where
 t:=λK=>tDrop (e.t K)
 ev:=λρ s=>(e.ev ρ s).bind λx=>some (.nx ρ x.2)
 ok:=by
  intro K sk F0 H0 F H σ ρ ak s out D w h q
  obtain⟨⟨x,s1⟩,h1,h2⟩:=aL h
  cases h2
  exact e.ok K w.pre h1 λv F1 H1 as st k r f=>q F1 H1 σ ak st.sub (w.next st k)
def SS.ag (e:SE):SS where
 t:=λK=>tRet (e.t K)
 ev:=λρ s=>(e.ev ρ s).bind λx=>some (.ret x.1 x.2)
 ok:=by
  intro K sk F0 H0 F H σ ρ ak s out D w h q
  obtain⟨⟨x,s1⟩,h1,h2⟩:=aL h
  cases h2
  exact e.ok K w.pre h1 λv F1 H1 as st k r f=>q v F1 H1 as (w.st.trans st) k r (w.jq f)
def SS.aqX:SS:=⟨λ_=>tRetN,λρ s=>some (.ret (.none,true) s),by
 intro K sk F0 H0 F H σ ρ ak s out D w h q
 cases h
 exact q _ F H [] w.st w.bh .non .nil⟩
def eM (c:ST)(a b:SS):SS where
 t:=λK=>tIfS (c.t K) (a.t K) (b.t K)
 ev:=λρ s=>(c.ev ρ s).bind λx=>if x.1=true then a.ev ρ x.2 else b.ev ρ x.2
 ok:=by
  intro K sk F0 H0 F H σ ρ ak s out D w h q
  obtain⟨⟨x,s1⟩,h1,h2⟩:=aL h
  dsimp only at h2
  refine c.ok K w.pre h1 λF1 H1 st k=>?_
  split at h2
  ·rename_i e
   rw [if_pos e]
   exact a.ok K (w.next st k) h2 (q.mono st.sub)
  ·rename_i e
   rw [if_neg e]
   exact b.ok K (w.next st k) h2 (q.mono st.sub)
def Ez (z:Vl):Slot:=if z.2=true then .own z.1 else .dat z.1
theorem Wd.yp {sk:Option Addr}{F0 H0 F H F1 H1:Hp}{σ:L2.St}{ρ:List Slot}{ak:List (List Addr)}{s s1:aa}(w:Wd sk F0 H0 F H σ ρ ak s)(st:Step sk F H F1 H1)(k:bA sk F1 H1 s1){i:Nat}{v:V}{z:Vl}{as:List Addr}(r:Rp F1 v z.1 as)(f:bS z.2 H as):
  ∃aH,Wd sk F0 H0 F1 H1 (σ.set i (some v)) (ρ.set i (Ez z)) aH s1:=by
 have w1:=w.next st k
 unfold Ez
 split
 ·rename_i e
  obtain⟨f1,f2⟩:=f e
  exact w1.Me (Hb:=H) r f1 f2 w.st.dm λa m=>(w.bT a m).2.1
 ·exact w1.qV r
def SS.set (i:Nat)(e:SE):SS where
 t:=λK=>tAsg (e.t K) (gName i)
 ev:=λρ s=>(e.ev ρ s).bind λx=>some (.nx (ρ.set i (Ez x.1)) x.2)
 ok:=by
  intro K sk F0 H0 F H σ ρ ak s out D w h q
  obtain⟨⟨x,s1⟩,h1,h2⟩:=aL h
  cases h2
  refine e.ok K w.pre h1 λv F1 H1 as st k r f=>?_
  obtain⟨aH,w'⟩:=w.yp (i:=i) st k r f
  exact q F1 H1 _ aH st.sub w'
def Gv (i:Nat)(e:SB):SS where
 t:=λK=>tAsg (e.t K) (gName i)
 ev:=λρ s=>(e.ev ρ s).bind λx=>some (.nx (ρ.set i (.aC x.1.1 x.1.2)) x.2)
 ok:=by
  intro K sk F0 H0 F H σ ρ ak s out D w h q
  obtain⟨⟨⟨ds,o⟩,s1⟩,h1,h2⟩:=aL h
  cases h2
  refine e.ok K w.pre h1 λa ws F1 H1 as st k ha v9 jU hr nas f=>?_
  have w1:=w.next st k
  have a0:H0 a=none:=by
   cases hq:H0 a with
   |none=>rfl
   |some u=>exact absurd ha (w.st.dm a (by rw [hq];exact nofun))
  have dH:sk≠some a:=fJ w.bh ha
  have nd:((a::(if o=true then as else []))++ak.flatten).Nodup:=by
   refine Kal.mpr ⟨?_,w.dX,λb mb c mc z=>?_⟩
   ·cases o with
    |true=>exact KaP.mpr ⟨nas,(f rfl).1⟩
    |false=>simp
   ·subst z
    rcases Kah.mp mb with y|y
    ·subst y;exact (w.bT b mc).2.1 ha
    ·cases o with
     |true=>exact (w.bT b mc).2.1 ((f rfl).2 b y)
     |false=>cases y
  obtain⟨m1,m2⟩:=u7 (i:=i) nd
  refine q F1 H1 _ (ak.set i (a::(if o=true then as else []))) st.sub ⟨w1.st,w1.bh,w1.slots.set ⟨a,ws,as,rfl,jU,v9,hr,rfl⟩,m1,λb m=>?_⟩
  rcases m2 b m with z|z
  ·rcases Kah.mp z with y|y
   ·subst y
    exact⟨a0,by rw [jU];exact nofun,dH⟩
   ·cases o with
    |true=>
     obtain⟨xs,hx⟩:=hr.dom b y
     refine⟨?_,by rw [st.sub' _ _ hx];exact nofun,λe=>?_⟩
     ·cases hq:H0 b with
      |none=>rfl
      |some u=>exact absurd ((f rfl).2 b y) (w.st.dm b (by rw [hq];exact nofun))
     ·rw [(k b e).2] at hx;cases hx
    |false=>cases y
  ·exact w1.bT b z
/-- a,b=e -/
def wg (g:SG)(e:SE):SS where
 t:=λK=>tAsg (e.t K) (g.t K)
 ev:=λρ s=>(e.ev ρ s).bind λx=>(g.ev x.1.1 ρ).bind λaB=>some (.nx aB x.2)
 ok:=by
  intro K sk F0 H0 F H σ ρ ak s out D w h q
  obtain⟨⟨x,s1⟩,h1,h2⟩:=aL h
  obtain⟨aB,h3,h4⟩:=aL h2
  cases h4
  refine e.ok K w.pre h1 λv F1 H1 as st k r f=>?_
  have w1:=w.next st k
  refine g.ok K w1.st.sub' r w1.slots h3 λσ' aH sl m u _=>?_
  exact q F1 H1 σ' aH st.sub ⟨w1.st,w1.bh,sl,w1.dX.sublist u,λa ha=>w1.bT a (m a ha)⟩
def Jw:List Nat->List V->L2.St->L2.St
 |i::r,v::vs,σ=>Jw r vs (σ.set i (some v))
 |_,_,σ=>σ
def OkP (t:Frag->TA)(ts:List Nat)(ev:List Slot->List Slot->aa->Option (List Slot×aa)):Prop:=∀(K:Frag) {sk:Option Addr} {F0 H0 F H:Hp} {σ p_:L2.St} {ρ cN je:List Slot} {ak cU:List (List Addr)} {s s':aa} {Q:List V->Hp->Prop},
 Pre sk F H σ ρ ak s->Wd sk F0 H0 F H p_ cN cU s->ev ρ cN s=some (je,s')->(∀vs F' H' Pp,Same F F'->Wd sk F0 H0 F' H' (Jw ts vs p_) je Pp s'->vs.length=ts.length->Q vs H')->t K σ H Q
structure SP where
 t:Frag->TA
 ts:List Nat
 ev:List Slot->List Slot->aa->Option (List Slot×aa)
 ok:OkP t ts ev
def SP.nil:SP:=⟨λ_=>tNil,[],λ_ cN s=>some (cN,s),by
 intro K sk F0 H0 F H σ p_ ρ cN je ak cU s s' Q p w h q
 cases h
 exact q [] F H cU (Same.refl _) w rfl⟩
def SP.cons (i:Nat)(e:SE)(r:SP):SP where
 t:=λK=>tCons (e.t K) (r.t K)
 ts:=i::r.ts
 ev:=λρ cN s=>(e.ev ρ s).bind λx=>r.ev ρ (cN.set i (Ez x.1)) x.2
 ok:=by
  intro K sk F0 H0 F H σ p_ ρ cN je ak cU s s' Q p w h q
  obtain⟨⟨x,s1⟩,h1,h2⟩:=aL h
  refine e.ok K p h1 λv F1 H1 as st k rr f=>?_
  obtain⟨fa,wa⟩:=w.yp (i:=i) st k rr f
  refine r.ok K (p.next st k) wa h2 λvs F2 H2 fv sF w2 hl=>?_
  exact q (v::vs) F2 H2 fv (st.sub.trans sF) w2 (by rw [Kad,Kad,hl])
theorem bw.raw {sk:Option Addr}{F H:Hp}{p:Addr}{o:HO}(h:Same F H)(np:H p=none):bw F H F (upd H p o):=by
 refine⟨Same.refl _,λa u e=>?_,λa u _ e=>?_,λa e=>?_,λa u e=>.inl e,λh=>h⟩
 ·have:=h a u e
  rw [upd_ne (ne_of_none this np)];exact this
 ·rw [upd_ne (ne_of_none e np)];exact e
 ·rw [upd_ne (λz=>e (by rw [z];exact np))];exact e
theorem Wd.LI {sk:Option Addr}{F0 H0 F H:Hp}{σ:L2.St}{ρ:List Slot}{ak:List (List Addr)}{s:aa}(w:Wd sk F0 H0 F H σ ρ ak s){i:Nat}{p:Addr}(np:H p=none):
  ∃aH,Wd sk F0 H0 F (upd H p (.lst [])) (σ.set i (some (.ref p))) (ρ.set i (.aC [] true)) aH s:=by
 have sr:bw F H F (upd H p (.lst [])):=.raw (sk:=sk) w.st.sub' np
 have w1:=w.next (sr.any (sk:=sk)) (w.bh.keep sr)
 have wq:H0 p=none:=by
  cases q:H0 p with
  |none=>rfl
  |some u=>exact absurd np (w.st.dm p (by rw [q];exact nofun))
 have nd:([p]++ak.flatten).Nodup:=Kal.mpr ⟨by simp,w.dX,λb mb c mc z=>by
  have:b=p:=by simpa using mb
  subst z
  exact (w.bT b mc).2.1 (by rw [this];exact np)⟩
 obtain⟨m1,m2⟩:=u7 (i:=i) nd
 refine⟨ak.set i [p],w1.st,w1.bh,w1.slots.set ⟨p,[],[],rfl,upd_same,w.st.sub'.free np,.nil,rfl⟩,m1,λb m=>?_⟩
 rcases m2 b m with z|z
 ·have:b=p:=by simpa using z
  subst this
  exact⟨wq,by rw [upd_same];exact nofun,fJ w.bh np⟩
 ·exact w1.bT b z
def Gx (i:Nat)(r:SP):SP where
 t:=λK=>tCons (tLst tNil) (r.t K)
 ts:=i::r.ts
 ev:=λρ cN s=>r.ev ρ (cN.set i (.aC [] true)) s
 ok:=by
  intro K sk F0 H0 F H σ p_ ρ cN je ak cU s s' Q p w h q
  refine⟨KaV _,λa na=>?_⟩
  obtain⟨fa,wa⟩:=w.LI (i:=i) na
  have sr:bw F H F (upd H a (.lst [])):=.raw (sk:=sk) w.st.sub' na
  refine r.ok K (p.next (sr.any (sk:=sk)) (p.bh.keep sr)) wa h λvs F2 H2 fv sF w2 hl=>?_
  exact q (.ref a::vs) F2 H2 fv sF w2 (by rw [Kad,Kad,hl])
def hxx (i j:Nat)(p:SP)(hp:p.ts=[i,j]):SS where
 t:=λK=>tPar i j (p.t K)
 ev:=λρ s=>(p.ev ρ ρ s).bind λx=>some (.nx x.1 x.2)
 ok:=by
  intro K sk F0 H0 F H σ ρ ak s out D w h q
  obtain⟨⟨x,s1⟩,h1,h2⟩:=aL h
  cases h2
  refine p.ok K w.pre w h1 λvs F1 H1 fv sF w1 hl=>?_
  rw [hp] at hl w1
  match vs,hl with
  |[v1,v2],_=>exact⟨v1,v2,rfl,q F1 H1 _ fv sF w1⟩
def U' (i j l:Nat)(p:SP)(hp:p.ts=[i,j,l]):SS where
 t:=λK=>tPar3 i j l (p.t K)
 ev:=λρ s=>(p.ev ρ ρ s).bind λx=>some (.nx x.1 x.2)
 ok:=by
  intro K sk F0 H0 F H σ ρ ak s out D w h q
  obtain⟨⟨x,s1⟩,h1,h2⟩:=aL h
  cases h2
  refine p.ok K w.pre w h1 λvs F1 H1 fv sF w1 hl=>?_
  rw [hp] at hl w1
  match vs,hl with
  |[v1,v2,v3],_=>exact⟨v1,v2,v3,rfl,q F1 H1 _ fv sF w1⟩
/-- x += e,of ints -/
def SS.al (i:Nat)(e:SE)(f:Int->Int->Int):SS where
 t:=λK=>tAug i (e.t K) (ipI f)
 ev:=λρ s=>match ρ[i]? with
  |some (.dat (.int a))=>(e.ev ρ s).bind λx=>match x.1.1 with|.int b=>some (.nx (ρ.set i (.dat (.int (f a b)))) x.2)|_=>none
  |some (.own (.int a))=>(e.ev ρ s).bind λx=>match x.1.1 with|.int b=>some (.nx (ρ.set i (.dat (.int (f a b)))) x.2)|_=>none
  |_=>none
 ok:=by
  intro K sk F0 H0 F H σ ρ ak s out D w h q
  have key:∀(a:Int) (v:V),σ[i]? = some (some v)->v=.int a->((e.ev ρ s).bind λx=>match x.1.1 with|.int b=>some (.nx (ρ.set i (.dat (.int (f a b)))) x.2)|_=>none)=some out->tAug i (e.t K) (ipI f) D σ H:=by
   intro a v e1 e2 h
   obtain⟨⟨⟨x,fl⟩,s1⟩,h1,h2⟩:=aL h
   dsimp only at h2
   split at h2
   ·rename_i b
    cases h2
    refine⟨v,e1,e.ok K w.pre h1 λv2 F1 H1 as st k r ff=>⟨a,b,e2,r.int_inv,?_⟩⟩
    obtain⟨fa,wa⟩:=(w.next st k).qV (i:=i) (Rp.int (F:=F1) (f a b))
    exact q F1 H1 _ fa st.sub wa
   ·cases h2
  dsimp only at h
  split at h
  ·rename_i a e
   obtain⟨x,fp,e1,e2,z,v,as,e3,r⟩:=w.slots.get e
   exact key a v (by rw [e1,e3]) r.int_inv h
  ·rename_i a e
   obtain⟨x,fp,e1,e2,v,e3,r⟩:=w.slots.get e
   exact key a v (by rw [e1,e3]) r.int_inv h
  ·cases h
end Pu
namespace Pu
variable [aZ]
open PySem L2
section
variable {sk:Option Addr}{F0 H0 F H:Hp}{σ:L2.St}{ρ:List Slot}{ak:List (List Addr)}{s:aa}
/-- bM Bu list at slot i changes -/
theorem Wd.grow {i:Nat}{a:Addr}{vs ws:List V}{es:List PyData}{as bs:List Addr}{o o':Bool}(w:Wd sk F0 H0 F H σ ρ ak s)(e1:σ[i]? = some (some (.ref a)))(e2:ak[i]? = some (a::(if o=true then as else [])))(hH:H a=some (.lst vs))(hF:F a=none)
  (r:az F ws es (as++bs)) (ho:o'=true->o=true/\bs.Nodup/\∀b∈bs,H0 b=none/\H b≠none/\sk≠some b/\b∉ak.flatten):∃aH,Wd sk F0 H0 F (L2.upd H a (.lst ws)) σ (ρ.set i (.aC es o')) aH s:=by
 have fa:a∈ak.flatten:=Kaw.mpr ⟨_,Kar e2,Kaa⟩
 obtain⟨a0,a1,a2⟩:=w.bT a fa
 obtain⟨n1,n2⟩:=vm w.dX e2
 have n3:=Kal.mp n1
 have na:a∉(ak.set i []).flatten:=λm=>n3.2.2 a Kaa a m rfl
 have st':Step sk F0 H0 F (L2.upd H a (.lst ws)):=by
  refine⟨w.st.sub,λb u e=>?_,λb u hb e hs=>?_,λb h=>?_,w.st.new⟩
  ·rw [upd_ne (λz=>by rw [z,hF] at e;cases e)];exact w.st.sub' b u e
  ·rw [upd_ne (λz=>by rw [z,a0] at e;cases e)];exact w.st.fr b u hb e
  ·by_cases z:b=a
   ·rw [z,upd_same];exact nofun
   ·rw [upd_ne z];exact w.st.dm b h
 have dj:bA sk F (L2.upd H a (.lst ws)) s:=⟨λb e=>⟨by rw [upd_ne (λz=>a2 (by rw [<-z];exact e))];exact (w.bh b e).1,(w.bh b e).2⟩,Uj w.bh.tab hH⟩
 have sl:=(w.slots.drop (i:=i)).q7 (a:=a) (o:=.lst ws) na
 have AL:∀b,H b≠none->L2.upd H a (.lst ws) b≠none:=λb h=>by
  by_cases z:b=a
  ·rw [z,upd_same];exact nofun
  ·rw [upd_ne z];exact h
 have fin:∀fp':List Addr,(fp'++(ak.set i []).flatten).Nodup->(∀b∈fp',H0 b=none/\H b≠none/\sk≠some b)->xB sk F (L2.upd H a (.lst ws)) (some (.ref a)) (.aC es o') fp'->∃aH,Wd sk F0 H0 F (L2.upd H a (.lst ws)) σ (ρ.set i (.aC es o')) aH s:=by
  intro fp' nd fr q
  obtain⟨m1,m2⟩:=u7 (i:=i) nd
  have sl2:=sl.fill e1 q
  rw [KaI,KaI] at sl2
  rw [KaI] at m1 m2
  refine⟨ak.set i fp',st',dj,sl2,m1,λb m=>?_⟩
  rcases m2 b m with z|z
  ·exact⟨(fr b z).1,AL b (fr b z).2.1,(fr b z).2.2⟩
  ·have:=w.bT b (ou.mem z)
   exact⟨this.1,AL b this.2.1,this.2.2⟩
 cases o' with
 |true=>
  obtain⟨rfl,b1,b2⟩:=ho rfl
  rw [if_pos rfl] at e2 n1 n2 n3
  refine fin (a::(as++bs)) ?_ ?_ ⟨a,ws,as++bs,rfl,upd_same,hF,r,by rw [if_pos rfl]⟩
  ·have:((a::as)++bs++(ak.set i []).flatten).Nodup:=by
    refine Kal.mpr ⟨Kal.mpr ⟨n3.1,b1,λx hx y hy z=>?_⟩,n3.2.1,λx hx y hy z=>?_⟩
    ·subst z
     exact (b2 x hy).2.2.2 (n2 x (Kac _ hx))
    ·subst z
     rcases Kam.mp hx with q|q
     ·exact n3.2.2 x q x hy rfl
     ·exact (b2 x q).2.2.2 (n2 x (Kao _ hy))
   exact this
  ·intro b hb
   rcases Kam.mp (show b∈(a::as)++bs from hb) with q|q
   ·exact w.bT b (n2 b (Kac _ q))
   ·exact⟨(b2 b q).1,(b2 b q).2.1,(b2 b q).2.2.1⟩
 |false=>
  refine fin [a] ?_ ?_ ⟨a,ws,as++bs,rfl,upd_same,hF,r,rfl⟩
  ·exact Kal.mpr ⟨by simp,n3.2.1,λx hx y hy z=>by
    have:x=a:=by simpa using hx
    subst this;subst z
    exact na hy⟩
  ·intro b hb
   have:b=a:=by simpa using hb
   subst this
   exact⟨a0,a1,a2⟩
end
def Cp (i:Nat)(e:SE):SS where
 t:=λK=>tDrop (tBM K "list" rAppend (tVar i) (tCons (e.t K) tNil))
 ev:=λρ s=>match ρ[i]? with
  |some (.aC ds o)=>(e.ev ρ s).bind λx=>if ds.length<100000 then some (.nx (ρ.set i (.aC (ds++[x.1.1]) (o && fN x.1))) x.2) else none
  |_=>none
 ok:=by
  intro K sk F0 H0 F H σ ρ ak s out D w h q
  dsimp only at h
  split at h
  ·rename_i ds o cz
   obtain⟨⟨x,s1⟩,h1,h2⟩:=aL h
   dsimp only at h2
   split at h2
   ·rename_i hl
    cases h2
    obtain⟨xv,fp,e1,e2,a,vs,as,rfl,hH,hF,r,rfl⟩:=w.slots.get cz
    refine⟨.ref a,e1,.inl ⟨rfl,vs,.inl (.inl hH)⟩,?_⟩
    refine e.ok K w.pre h1 λv F1 H1 bs st k rr f=>?_
    have fa:a∈ak.flatten:=Kaw.mpr ⟨_,Kar e2,Kaa⟩
    have dH:=(w.bT a fa).2.2
    have jU:H1 a=some (.lst vs):=st.fr a _ dH hH
    have v9:F1 a=none:=by
     cases z:F1 a with
     |none=>rfl
     |some u=>
      rcases st.new a u z with y|y
      ·rw [hF] at y;cases y
      ·rw [hH] at y;cases y
    refine⟨a,vs,v,rfl,rfl,jU,by rw [r.len];exact Ka4 hl (by decide),?_⟩
    have w1:=w.next st k
    have QT:az F1 (vs++[v]) (ds++[x.1]) (as++(bs++[])):=(r.mono st.sub).app (.cons rr .nil)
    rw [KaE] at QT
    obtain⟨aH,w2⟩:=w1.grow (o':=o && fN x) e1 e2 jU v9 QT λeo=>by
     obtain⟨O8,Td⟩:=KaN.mp eo
     refine⟨O8,?_⟩
     unfold fN at Td
     rcases Kbe.mp Td with z|z
     ·obtain⟨f1,f2⟩:=f z
      refine⟨f1,λb hb=>?_⟩
      obtain⟨xs,hx⟩:=rr.dom b hb
      refine⟨(w.jq f z).2 b hb,by rw [st.sub' _ _ hx];exact nofun,λe'=>?_,λm=>(w.bT b m).2.1 (f2 b hb)⟩
      rw [(k b e').2] at hx;cases hx
     ·rw [rr.aM z]
      exact⟨KaO,λb hb=>by cases hb⟩
    exact q F1 _ σ aH st.sub w2
   ·cases h2
  ·cases h
/-- xs.extend(e),of data without lists within -/
def SS.extend (i:Nat)(e:SE):SS where
 t:=λK=>tDrop (tBM K "list" rExtend (tVar i) (tCons (e.t K) tNil))
 ev:=λρ s=>match ρ[i]? with
  |some (.aC ds o)=>(e.ev ρ s).bind λx=>match x.1.1 with
   |.list es=>if ds.length+es.length<=100000 then some (.nx (ρ.set i (.aC (ds++es) (o && fM es))) x.2) else none
   |_=>none
  |_=>none
 ok:=by
  intro K sk F0 H0 F H σ ρ ak s out D w h q
  dsimp only at h
  split at h
  ·rename_i ds o cz
   obtain⟨⟨⟨x,fl⟩,s1⟩,h1,h2⟩:=aL h
   dsimp only at h2
   split at h2
   ·rename_i es
    split at h2
    ·rename_i hl
     cases h2
     obtain⟨xv,fp,e1,e2,a,vs,as,rfl,hH,hF,r,rfl⟩:=w.slots.get cz
     refine⟨.ref a,e1,.inl ⟨rfl,vs,.inl (.inl hH)⟩,?_⟩
     refine e.ok K w.pre h1 λv F1 H1 bs st k rr f=>?_
     have fa:a∈ak.flatten:=Kaw.mpr ⟨_,Kar e2,Kaa⟩
     have dH:=(w.bT a fa).2.2
     have jU:H1 a=some (.lst vs):=st.fr a _ dH hH
     have v9:F1 a=none:=by
      cases z:F1 a with
      |none=>rfl
      |some u=>
       rcases st.new a u z with y|y
       ·rw [hF] at y;cases y
       ·rw [hH] at y;cases y
     obtain⟨b,xs,cs,rfl,hb,hr,rfl⟩:=rr.aP
     refine⟨a,b,vs,xs,rfl,rfl,jU,st.sub' _ _ hb,by rw [r.len,hr.len];exact KaB hl (by decide),?_⟩
     have w1:=w.next st k
     obtain⟨aH,w2⟩:=w1.grow (o':=o && fM es) e1 e2 jU v9 ((r.mono st.sub).app hr) λeo=>by
      obtain⟨O8,Td⟩:=KaN.mp eo
      rw [hr.aM Td]
      exact⟨O8,KaO,λb hb=>by cases hb⟩
     exact q F1 _ σ aH st.sub w2
    ·cases h2
   ·cases h2
  ·cases h
def SE.CO (i:Nat):SE where
 t:=λK=>tCB (λxs H Q=>∃x n,xs=[x]/\LenV K x H n/\Q (.int (n:Nat)) H) (tCons (tVar i) tNil)
 ev:=λρ s=>match ρ[i]? with
  |some (.aC ds _)=>some ((.int ds.length,true),s)
  |_=>none
 ok:=by
  intro K sk F H σ ρ ak s vl s' Q p h q
  dsimp only at h
  split at h
  ·rename_i ds o e
   cases h
   obtain⟨x,fp,e1,e2,a,vs,as,rfl,hH,hF,r,rfl⟩:=p.slots.get e
   refine⟨.ref a,e1,.ref a,vs.length,rfl,.inl ⟨vs,.inl (.inl hH),rfl⟩,?_⟩
   rw [r.len]
   exact q _ F H [] (.refl p.sub) p.bh (.int _) .nil
  ·cases h
def SE.Qo (i:Nat)(e:SE):SE where
 t:=λK=>tOp (rIx K) (tVar i) (e.t K)
 ev:=λρ s=>match ρ[i]? with
  |some (.aC ds _)=>(e.ev ρ s).bind λx=>match x.1.1 with
   |.int k=>(atI ds k).map λd=>((d,false),x.2)
   |_=>none
  |_=>none
 ok:=by
  intro K sk F H σ ρ ak s vl s' Q p h q
  dsimp only at h
  split at h
  ·rename_i ds o cz
   obtain⟨⟨⟨x,fl⟩,s1⟩,h1,h2⟩:=aL h
   dsimp only at h2
   split at h2
   ·rename_i kk
    obtain⟨d,h3,h4⟩:=Kap.mp h2
    cases h4
    obtain⟨x,fp,e1,e2,a,vs,as,rfl,hH,hF,r,rfl⟩:=p.slots.get cz
    refine⟨.ref a,e1,?_⟩
    refine e.ok K p h1 λv F1 H1 bs st k rr f=>?_
    have fa:a∈ak.flatten:=Kaw.mpr ⟨_,Kar e2,Kaa⟩
    have jU:H1 a=some (.lst vs):=st.fr a _ (λz=>p.jH a z fa) hH
    obtain⟨v2,es,z1,z2⟩:=(r.mono st.sub).atI h3
    exact .inl ⟨a,vs,kk,v2,rfl,rr.int_inv,.inl (.inl jU),z1,q v2 F1 H1 es st k z2 .no⟩
   ·cases h2
  ·cases h
/-- xs != [] of a Bu list -/
def izm (i:Nat):SE where
 t:=λK=>tOp (rNeD K) (tVar i) (tLst tNil)
 ev:=λρ s=>match ρ[i]? with
  |some (.aC ds _)=>if SeqAt.shaped (.list ds)=true then some ((.bool (!ds.isEmpty),true),s) else none
  |_=>none
 ok:=by
  intro K sk F H σ ρ ak s vl s' Q p h q
  dsimp only at h
  split at h
  ·rename_i ds o cz
   split at h
   ·rename_i hs
    cases h
    obtain⟨x,fp,e1,e2,a,vs,as,rfl,hH,hF,r,rfl⟩:=p.slots.get cz
    refine⟨.ref a,e1,KaV _,λb nb=>?_⟩
    have sr:bw F H (L2.upd F b (.lst [])) (L2.upd H b (.lst [])):=.alloc p.sub nb
    have jU:L2.upd H b (.lst []) a=some (.lst vs):=sr.fr a _ nofun hH
    have hnd:gW ds=true:=by have:=Fc hs;unfold nd at this;exact this
    refine⟨.list ds,.list [],.lst (.inl (.inl jU)) (((r.mono sr.sub).mono sr.sub').dp hnd),.lst (.inl (.inl upd_same)) .nil,hs,by rfl,?_⟩
    have e:PyData.eqv (.list ds) (.list [])=ds.isEmpty:=by
     cases ds with
     |nil=>simp [PyData.eqv,PyData.eqvAll]
     |cons d ds=>simp [PyData.eqv,PyData.eqvAll]
    rw [e]
    exact q _ _ _ [] sr.any (p.bh.keep sr) (.bl _) .nil
   ·cases h
  ·cases h
def SS.frz (i:Nat)(b:SS):SS where
 t:=b.t
 ev:=λρ s=>match ρ[i]? with
  |some (.aC ds o)=>b.ev (ρ.set i (if o=true then .own (.list ds) else .dat (.list ds))) s
  |_=>none
 ok:=by
  intro K sk F0 H0 F H σ ρ ak s out D w h q
  dsimp only at h
  split at h
  ·rename_i ds o cz
   obtain⟨x,fp,e1,e2,a,vs,as,rfl,hH,hF,r,rfl⟩:=w.slots.get cz
   have fa:a∈ak.flatten:=Kaw.mpr ⟨_,Kar e2,Kaa⟩
   obtain⟨a0,a1,a2⟩:=w.bT a fa
   obtain⟨n1,n2⟩:=vm w.dX e2
   have n3:=Kal.mp n1
   have na:a∉(ak.set i []).flatten:=λm=>n3.2.2 a Kaa a m rfl
   have sF:Same F (L2.upd F a (.lst vs)):=λb u e=>by rw [upd_ne (ne_of_none e hF)];exact e
   have st':Step sk F0 H0 (L2.upd F a (.lst vs)) H:=by
    refine⟨w.st.sub.trans sF,λb u e=>?_,λa o x y z=>w.st.fr a o x y z,w.st.dm,λb u e=>?_⟩
    ·by_cases z:b=a
     ·rw [z,upd_same] at e;rw [z,<-e];exact hH
     ·rw [upd_ne z] at e;exact w.st.sub' b u e
    ·by_cases z:b=a
     ·rw [z];exact .inr a0
     ·rw [upd_ne z] at e;exact w.st.new b u e
   have dj:bA sk (L2.upd F a (.lst vs)) H s:=⟨λb e=>⟨(w.bh b e).1,by rw [upd_ne (λz=>a2 (by rw [<-z];exact e))];exact (w.bh b e).2⟩,w.bh.tab.Ai⟩
   have sl:=(w.slots.drop (i:=i)).upd (a:=a) (o:=.lst vs) na hF
   have rp:Rp (L2.upd F a (.lst vs)) (.ref a) (.list ds) (a::as):=.lst upd_same (r.mono sF)
   cases o with
   |true=>
    rw [if_pos rfl] at h e2 n1 n3
    have sl2:=sl.fill (sl:=.own (.list ds)) e1 ⟨_,rfl,rp⟩
    rw [KaI,KaI] at sl2
    have es:ak.set i (a::as)=ak:=Pj e2
    rw [es] at sl2
    exact b.ok K ⟨st',dj,sl2,w.dX,w.bT⟩ h (q.mono sF)
   |false=>
    rw [if_neg Ka8] at h
    have sl2:=sl.fill (sl:=.dat (.list ds)) e1 ⟨rfl,_,_,rfl,rp⟩
    rw [KaI,KaI] at sl2
    exact b.ok K ⟨st',dj,sl2,w.dX.sublist ou,λb m=>w.bT b (ou.mem m)⟩ h (q.mono sF)
  ·cases h
def forL (g:PyData->List Slot->Option (List Slot))(b:AV):List PyData->List Slot->aa->Option Out
 |[],ρ,s=>some (.nx ρ s)
 |d::ds,ρ,s=>(g d ρ).bind λaB=>(b aB s).bind λo=>match o with
  |.nx cY s2=>forL g b ds cY s2
  |.cnt cY s2=>forL g b ds cY s2
  |.brk cY s2=>some (.nx cY s2)
  |.ret v s2=>some (.ret v s2)
def iO (it:SI)(g:SG)(b:SS):SS where
 t:=λK=>tFor (it.t K) (g.t K) (b.t K)
 ev:=λρ s=>(it.ev ρ s).bind λx=>forL g.ev b.ev x.1 ρ x.2
 ok:=by
  intro K sk F0 H0 F H σ ρ ak s out D w h q
  obtain⟨⟨ds,s1⟩,h1,h2⟩:=aL h
  dsimp only at h2
  refine it.ok K w.pre h1 λJ F1 H1 st k yl=>?_
  refine⟨λi m σ H=>∃F2 cY fc s2,m=(ds.drop i).length/\i<=ds.length/\Same F1 F2/\Wd sk F0 H0 F2 H σ cY fc s2/\forL g.ev b.ev (ds.drop i) cY s2=some out,
   ⟨ds.length,F1,ρ,ak,s1,by simp,KaV _,Same.refl _,w.next st k,by simpa using h2⟩,λi m σ2 H2 hW=>?_⟩
  obtain⟨F2,cY,fc,s2,em,hi,sF,w2,hf⟩:=hW
  by_cases hlt:i<ds.length
  ·have ed:ds.drop i=ds[i]::ds.drop (i+1):=Kbg hlt
   have eg:ds[i]? = some ds[i]:=Kau hlt
   rw [ed] at hf em
   obtain⟨go,yld⟩:=(yl F2 H2 i sF w2.st.sub').1 _ eg
   unfold forL at hf
   obtain⟨ρ3,c1,hf⟩:=aL hf
   obtain⟨o,c2,hf⟩:=aL hf
   refine .inr ⟨go,λσ' H'=>∃F3 Vq KH s4,Same F1 F3/\Wd sk F0 H0 F3 H' σ' Vq KH s4/\forL g.ev b.ev (ds.drop (i+1)) Vq s4=some out,λσ' H' hN=>?_,λx H3 hy=>?_⟩
   ·obtain⟨F3,Vq,KH,s4,QU,w4,hf4⟩:=hN
    exact⟨(ds.drop (i+1)).length,by rw [em];exact Kbq _,F3,Vq,KH,s4,rfl,hlt,QU,w4,hf4⟩
   ·obtain⟨F3,rV,sa,r3⟩:=yld x H3 hy
    have w3:=w2.next sa.any (w2.bh.keep sa)
    refine g.ok K w3.st.sub' r3 w3.slots c1 λσ' aH sl' m' u' _=>?_
    have w4:Wd sk F0 H0 F3 H3 σ' ρ3 aH s2:=⟨w3.st,w3.bh,sl',w3.dX.sublist u',λa ha=>w3.bT a (m' a ha)⟩
    refine b.ok K w4 c2 ?_
    have Mb:Same F1 F3:=sF.trans sa.sub
    cases o with
    |nx AS s5=>exactλF5 H5 Jz iL e5 w5=>⟨F5,AS,iL,s5,Mb.trans e5,w5,hf⟩
    |cnt AS s5=>exactλF5 H5 Jz iL e5 w5=>⟨F5,AS,iL,s5,Mb.trans e5,w5,hf⟩
    |brk AS s5=>
     cases hf
     exactλF5 H5 Jz iL e5 w5=>q F5 H5 Jz iL ((st.sub.trans Mb).trans e5) w5
    |ret vl s5=>
     cases hf
     exact q
  ·have e1:i=ds.length:=by omega
   subst e1
   rw [Kbr] at hf
   unfold forL at hf
   cases hf
   exact .inl ⟨(yl F2 H2 _ sF w2.st.sub').2 (Kat _),q F2 H2 σ2 fc (st.sub.trans sF) w2⟩
def Ey (c:List Slot->aa->Option (Bool×aa))(b:AV):Nat->List Slot->aa->Option Out
 |0,_,_=>none
 |n+1,ρ,s=>(c ρ s).bind λx=>if x.1=true then (b ρ x.2).bind λo=>match o with
  |.nx cY s2=>Ey c b n cY s2
  |.cnt cY s2=>Ey c b n cY s2
  |.brk cY s2=>some (.nx cY s2)
  |.ret v s2=>some (.ret v s2)
  else some (.nx ρ x.2)
/-- a while of at most n turns -/
def ED (n:Nat)(c:ST)(b:SS):SS where
 t:=λK=>tWhile (c.t K) (b.t K)
 ev:=λρ s=>Ey c.ev b.ev n ρ s
 ok:=by
  intro K sk F0 H0 F H σ ρ ak s out D w h q
  refine⟨λm σ H=>∃F2 cY fc s2,Same F F2/\Wd sk F0 H0 F2 H σ cY fc s2/\Ey c.ev b.ev m cY s2=some out,⟨n,F,ρ,ak,s,Same.refl _,w,h⟩,λm σ2 H2 hW=>?_⟩
  obtain⟨F2,cY,fc,s2,sF,w2,hf⟩:=hW
  cases m with
  |zero=>unfold Ey at hf;cases hf
  |succ m=>
   unfold Ey at hf
   obtain⟨x,c1,hf⟩:=aL hf
   refine c.ok K w2.pre c1 λF3 H3 st3 k3=>?_
   have w3:=w2.next st3 k3
   split at hf
   ·rename_i e
    rw [if_pos e]
    obtain⟨o,c2,hf⟩:=aL hf
    refine⟨λσ' H'=>∃F5 AS iL s5,Same F F5/\Wd sk F0 H0 F5 H' σ' AS iL s5/\Ey c.ev b.ev m AS s5=some out,λσ' H' hN=>⟨m,Kbq m,hN⟩,?_⟩
    refine b.ok K w3 c2 ?_
    have QU:Same F F3:=sF.trans st3.sub
    cases o with
    |nx AS s5=>exactλF5 H5 Jz iL e5 w5=>⟨F5,AS,iL,s5,QU.trans e5,w5,hf⟩
    |cnt AS s5=>exactλF5 H5 Jz iL e5 w5=>⟨F5,AS,iL,s5,QU.trans e5,w5,hf⟩
    |brk AS s5=>
     cases hf
     exactλF5 H5 Jz iL e5 w5=>q F5 H5 Jz iL (QU.trans e5) w5
    |ret vl s5=>
     cases hf
     exact q
   ·rename_i e
    rw [if_neg e]
    cases hf
    exact q F3 H3 σ2 fc (sF.trans st3.sub) w3
end Pu
namespace Pu
variable [aZ]
open PySem PySem.Spec PyProof.Rows L2
def VA (t:Frag->TE)(ev:List Slot->aa->Option (Vl×List Slot×aa)):Prop:=∀(K:Frag) {sk:Option Addr} {F0 H0 F H:Hp} {σ:L2.St} {ρ ρ':List Slot} {ak:List (List Addr)} {s s':aa} {vl:Vl} {Q:VK},Wd sk F0 H0 F H σ ρ ak s->ev ρ s=some (vl,ρ',s') ->
 (∀v F' H' as aH,Same F F'->(∀a,H a≠none->H' a≠none)->Wd sk F0 H0 F' H' σ ρ' aH s'->(∀a∈aH.flatten,a∈ak.flatten)->Rp F' v vl.1 as->(vl.2=true->as.Nodup/\∀a∈as,H0 a=none/\a∉aH.flatten/\(a∈ak.flatten∨H a=none))->Q v H')->t K σ H Q
structure RE where
 t:Frag->TE
 ev:List Slot->aa->Option (Vl×List Slot×aa)
 ok:VA t ev
def Vz (t:Frag->TA)(ev:List Slot->aa->Option (List Vl×List Slot×aa)):Prop:=∀(K:Frag) {sk:Option Addr} {F0 H0 F H:Hp} {σ:L2.St} {ρ ρ':List Slot} {ak:List (List Addr)} {s s':aa} {gk:List Vl} {Q:List V->Hp->Prop},Wd sk F0 H0 F H σ ρ ak s->ev ρ s=some (gk,ρ',s') ->
 (∀vs F' H' as aH,Same F F'->(∀a,H a≠none->H' a≠none)->Wd sk F0 H0 F' H' σ ρ' aH s'->(∀a∈aH.flatten,a∈ak.flatten)->az F' vs (gk.map (·.1)) as->(gk.all fN=true->as.Nodup/\∀a∈as,H0 a=none/\a∉aH.flatten/\(a∈ak.flatten∨H a=none))->Q vs H')->t K σ H Q
structure RA where
 t:Frag->TA
 ev:List Slot->aa->Option (List Vl×List Slot×aa)
 ok:Vz t ev
def RE.e (e:SE):RE where
 t:=e.t
 ev:=λρ s=>(e.ev ρ s).bind λx=>some (x.1,ρ,x.2)
 ok:=by
  intro K sk F0 H0 F H σ ρ ρ' ak s s' vl Q w h q
  obtain⟨⟨x,s1⟩,h1,h2⟩:=aL h
  cases h2
  refine e.ok K w.pre h1 λv F1 H1 as st k r f=>?_
  refine q v F1 H1 as ak st.sub st.dm (w.next st k) (λa m=>m) r λe=>?_
  obtain⟨f1,f2⟩:=f e
  exact⟨f1,λa m=>⟨(w.jq f e).2 a m,λz=>(w.bT a z).2.1 (f2 a m),.inr (f2 a m)⟩⟩
def RE.mv (i:Nat):RE where
 t:=λ_=>tVar i
 ev:=λρ s=>match ρ[i]? with
  |some (.dat d)=>some ((d,false),ρ,s)
  |some (.own d)=>some ((d,true),ρ.set i (.dat d),s)
  |some (.aC ds o)=>some ((.list ds,o),ρ.set i (.dat (.list ds)),s)
  |_=>none
 ok:=by
  intro K sk F0 H0 F H σ ρ ρ' ak s s' vl Q w h q
  dsimp only at h
  split at h
  ·rename_i d e
   cases h
   obtain⟨x,fp,e1,e2,z,v,as,e3,r⟩:=w.slots.get e
   exact⟨v,by rw [e1,e3],q v F H as ak (Same.refl _) (λa h=>h) w (λa m=>m) r nofun⟩
  ·rename_i d e
   cases h
   obtain⟨x,fp,e1,e2,v,e3,r⟩:=w.slots.get e
   subst e3
   refine⟨v,e1,?_⟩
   obtain⟨n1,n2⟩:=vm w.dX e2
   have n3:=Kal.mp n1
   have sl:=w.slots.fill (i:=i) (sl:=.dat d) (fp:=[]) e1 ⟨rfl,v,fp,rfl,r⟩
   refine q v F H fp (ak.set i []) (Same.refl _) (λa h=>h) ⟨w.st,w.bh,sl,n3.2.1,λa m=>w.bT a (ou.mem m)⟩ (λa m=>ou.mem m) r λ_=>⟨n3.1,λa m=>?_⟩
   have:=w.bT a (n2 a (Kac _ m))
   exact⟨this.1,λz=>n3.2.2 a m a z rfl,.inl (n2 a (Kac _ m))⟩
  ·rename_i ds o cz
   cases h
   obtain⟨x,fp,e1,e2,a,vs,as,rfl,hH,hF,r,rfl⟩:=w.slots.get cz
   have fa:a∈ak.flatten:=Kaw.mpr ⟨_,Kar e2,Kaa⟩
   obtain⟨a0,a1,a2⟩:=w.bT a fa
   obtain⟨n1,n2⟩:=vm w.dX e2
   have n3:=Kal.mp n1
   have na:a∉(ak.set i []).flatten:=λm=>n3.2.2 a Kaa a m rfl
   have sF:Same F (L2.upd F a (.lst vs)):=λb u e=>by rw [upd_ne (ne_of_none e hF)];exact e
   have st':Step sk F0 H0 (L2.upd F a (.lst vs)) H:=by
    refine⟨w.st.sub.trans sF,λb u e=>?_,λa o x y z=>w.st.fr a o x y z,w.st.dm,λb u e=>?_⟩
    ·by_cases z:b=a
     ·rw [z,upd_same] at e;rw [z,<-e];exact hH
     ·rw [upd_ne z] at e;exact w.st.sub' b u e
    ·by_cases z:b=a
     ·rw [z];exact .inr a0
     ·rw [upd_ne z] at e;exact w.st.new b u e
   have dj:bA sk (L2.upd F a (.lst vs)) H s:=⟨λb e=>⟨(w.bh b e).1,by rw [upd_ne (λz=>a2 (by rw [<-z];exact e))];exact (w.bh b e).2⟩,w.bh.tab.Ai⟩
   have sl:=(w.slots.drop (i:=i)).upd (a:=a) (o:=.lst vs) na hF
   have rp:Rp (L2.upd F a (.lst vs)) (.ref a) (.list ds) (a::as):=.lst upd_same (r.mono sF)
   have sl2:=sl.fill (sl:=.dat (.list ds)) e1 ⟨rfl,_,_,rfl,rp⟩
   rw [KaI,KaI] at sl2
   refine⟨.ref a,e1,?_⟩
   refine q (.ref a) _ H (a::as) (ak.set i []) sF (λa h=>h) ⟨st',dj,sl2,n3.2.1,λb m=>w.bT b (ou.mem m)⟩ (λb m=>ou.mem m) rp λho=>?_
   have ho:o=true:=ho
   subst ho
   rw [if_pos rfl] at n3 n2
   refine⟨n3.1,λb m=>?_⟩
   have:=w.bT b (n2 b (Kac _ m))
   exact⟨this.1,λz=>n3.2.2 b m b z rfl,.inl (n2 b (Kac _ m))⟩
  ·cases h
def RA.nil:RA:=⟨λ_=>tNil,λρ s=>some ([],ρ,s),by
 intro K sk F0 H0 F H σ ρ ρ' ak s s' vl Q w h q
 cases h
 exact q [] F H [] ak (Same.refl _) (λa h=>h) w (λa m=>m) .nil λ_=>⟨KaO,λa m=>by cases m⟩⟩
def RA.cons (e:RE)(r:RA):RA where
 t:=λK=>tCons (e.t K) (r.t K)
 ev:=λρ s=>(e.ev ρ s).bind λx=>(r.ev x.2.1 x.2.2).bind λy=>some (x.1::y.1,y.2.1,y.2.2)
 ok:=by
  intro K sk F0 H0 F H σ ρ ρ' ak s s' vl Q w h q
  obtain⟨⟨x,aB,s1⟩,h1,h2⟩:=aL h
  obtain⟨⟨y,cY,s2⟩,h3,h4⟩:=aL h2
  cases h4
  refine e.ok K w h1 λv F1 H1 as nQ Vi d1 w1 m1 r1 o1=>?_
  refine r.ok K w1 h3 λvs F2 H2 bs fc Vj d2 w2 m2 r2 o2=>?_
  refine q (v::vs) F2 H2 (as++bs) fc (Vi.trans Vj) (λa h=>d2 a (d1 a h)) w2 (λa m=>m1 a (m2 a m)) (.cons (r1.mono Vj) r2) λeo=>?_
  rw [Ka3,Ka7] at eo
  obtain⟨b1,b2⟩:=o2 eo.2
  have a12:as.Nodup/\∀a∈as,H0 a=none/\a∉nQ.flatten/\(a∈ak.flatten∨H a=none):=by
   have e1:=eo.1
   unfold fN at e1
   rcases Kbe.mp e1 with z|z
   ·exact o1 z
   ·rw [r1.aM z];exact⟨KaO,λa m=>by cases m⟩
  obtain⟨a1,a2⟩:=a12
  refine⟨Kal.mpr ⟨a1,b1,λa ma b mb z=>?_⟩,λa m=>?_⟩
  ·subst z
   rcases (b2 a mb).2.2 with z|z
   ·exact (a2 a ma).2.1 z
   ·obtain⟨xs,hx⟩:=r1.dom a ma
    rw [w1.st.sub' _ _ hx] at z;cases z
  ·rcases Kam.mp m with z|z
   ·exact⟨(a2 a z).1,λq=>(a2 a z).2.1 (m2 a q),(a2 a z).2.2⟩
   ·refine⟨(b2 a z).1,(b2 a z).2.1,?_⟩
    rcases (b2 a z).2.2 with y|y
    ·exact .inl (m1 a y)
    ·refine .inr ?_
     cases hq:H a with
     |none=>rfl
     |some u=>exact absurd y (d1 a (by rw [hq];exact nofun))
def RE.tup (a:RA):RE where
 t:=λK=>tTup (a.t K)
 ev:=λρ s=>(a.ev ρ s).bind λx=>if x.1.length<=100000 then some ((.tuple (x.1.map (·.1)),x.1.all fN),x.2.1,x.2.2) else none
 ok:=by
  intro K sk F0 H0 F H σ ρ ρ' ak s s' vl Q w h q
  obtain⟨⟨x,aB,s1⟩,h1,h2⟩:=aL h
  dsimp only at h2
  split at h2
  ·rename_i hl
   cases h2
   refine a.ok K w h1 λvs F1 H1 as nQ Vi d1 w1 m1 r1 o1=>⟨?_,λpp np=>?_⟩
   ·have:=r1.len
    rw [Kag] at this
    rw [this]
    exact KaB hl (by decide)
   ·have sa:bw F1 H1 (L2.upd F1 pp (.tup vs)) (L2.upd H1 pp (.tup vs)):=.alloc w1.st.sub' np
    exact q _ _ _ as nQ (Vi.trans sa.sub) (λa h=>sa.dm a (d1 a h)) (w1.next sa.any (w1.bh.keep sa)) m1 (.tup upd_same (r1.mono sa.sub)) o1
  ·cases h2
def AM (e:RE):SS where
 t:=λK=>tRet (e.t K)
 ev:=λρ s=>(e.ev ρ s).bind λx=>some (.ret x.1 x.2.2)
 ok:=by
  intro K sk F0 H0 F H σ ρ ak s out D w h q
  obtain⟨⟨x,aB,s1⟩,h1,h2⟩:=aL h
  cases h2
  refine e.ok K w h1 λv F1 H1 as nQ Vi d1 w1 m1 r1 o1=>q v F1 H1 as w1.st w1.bh r1 λeo=>?_
  obtain⟨a1,a2⟩:=o1 eo
  exact⟨a1,λa m=>(a2 a m).1⟩
def fnOf (np nl:Nat)(b:SS):Fn:=λargs s=>if args.length=np then match b.ev (args++Kak nl .emp) s with
  |some (.ret vl s')=>some (vl,s')
  |some (.nx _ s')=>some ((.none,true),s')
  |_=>none
 else none
theorem Slots.more {sk:Option Addr}{F H:Hp}{σ:L2.St}{ρ:List Slot}{ak:List (List Addr)}(h:Slots sk F H σ ρ ak):∀n:Nat,Slots sk F H (σ++Kak n none) (ρ++Kak n .emp) (ak++Kak n [])
 |n=>by
  induction h with
  |nil=>
   show Slots sk F H (Kak n none) (Kak n .emp) (Kak n [])
   induction n with
   |zero=>exact .nil
   |succ n ih=>
    rw [KaW,KaW,KaW]
    exact .cons (show xB sk F H none .emp [] from rfl) ih
  |cons h r ih=>exact .cons h ih
theorem zm (l:List (List Addr))(n:Nat)(h:l.flatten=[]):(l++Kak n []).flatten=[]:=by
 rw [KcV,h,Ka1]
 induction n with
 |zero=>rfl
 |succ n ih=>rw [KaW,Kav,ih];rfl
abbrev cO (K:PySem.W.Frag)(x:Str)(st:Stmt)(f:Addr)(fd:FuncData):Prop:=FunD K x x (defArgs st) (defBody st) (defScope st) [] [] f fd
theorem DE {K:Frag}{np nl:Nat}{b:SS}{N:List Str}{vs:List V}{H:Hp}{Q:VK}{E:XK}(hN:N.length=np+nl)(h:bE (fnOf np nl b) vs H Q E):b.t K { nx:=λ_ H'=>Q .non H',rt:=Q } (L2.start N vs) H:=by
 obtain⟨sk,F,args,s,vl,s',sub,bh,sl,hm,q⟩:=h
 unfold fnOf at hm
 split at hm
 ·rename_i hl
  have hvl:vs.length=np:=by
   have:=sl.length
   rw [Kag] at this
   rw [this,hl]
  have hst:L2.start N vs=vs.map some++Kak nl none:=by
   unfold L2.start
   rw [hN,hvl]
   congr 2
   omega
  rw [hst]
  have sl2:=sl.more nl
  have fl:=zm (gG args) nl (pL args)
  have w:Wd sk F H F H (vs.map some++Kak nl none) (args++Kak nl .emp) (gG args++Kak nl []) s:=
   ⟨.refl sub,bh,sl2,by rw [fl];exact KaO,λa m=>by rw [fl] at m;cases m⟩
  split at hm
  ·rename_i vl2 s2 he
   cases hm
   exact b.ok K w he λv F' H' as st k r f=>q v F' H' as st k r f
  ·rename_i cY s2 he
   cases hm
   exact b.ok K w he λF' H' σ' aH sF w'=>q .non F' H' [] w'.st w'.bh .non .nil
  ·cases hm
 ·cases hm
theorem Lz {np nl:Nat}{b:SS}{ps:List Str}(hp:ps.length=np)(vs:List V)(H:Hp)(Q:VK)(E:XK)(h:bE (fnOf np nl b) vs H Q E):vs.length=ps.length:=by
 obtain⟨sk,F,args,s,vl,s',sub,bh,sl,hm,q⟩:=h
 unfold fnOf at hm
 split at hm
 ·rename_i hl
  have:=sl.length
  rw [Kag] at this
  rw [this,hl,hp]
 ·cases hm
/-- a def keeps bM promise of its VF J6 -/
theorem bN {P:Program}{w:World}{K:PySem.W.Frag}{mg:Str->Option Value}{base:Heap}{x:Str}{st:Stmt}{f:Addr}{fd:FuncData}{N ps:List Str}{k np nl:Nat}{b:SS}(F:cO K x st f fd)(S:FnScope N ps (defScope st))(hp:ps.length=np)(hN:N.length=np+nl)
  (Ko:∀(cdv:Value) (A:Around) (outer:List Env) (s:Shared) (H:Hp) (E:XK),Room k (A.deeper (envOfC x (defScope st) s.heap.objs.size f cdv))->∃t,PSs (cxOf CX0 P w K mg base N x (defScope st) f cdv A outer s H E).nox (defBody st) t/\t=b.t K):
  FnOk P w K mg base CX0 (k+1) f fd ps (bE (fnOf np nl b)):=
 F.ok S (Lz hp) λcdv A outer s H vs Q E hr h=>by
  obtain⟨t,ht,rfl⟩:=Ko cdv A outer s H E hr
  exact⟨b.t K,PSs.nox ht,DE hN h⟩
end Pu
namespace Pu
variable [aZ]
open PySem PySem.Spec PyProof.Rows L2
section
variable {X:Cx}{elt tg iter:Expr}{ifs:List Expr}{scope:Scope}{own:List (Str×Nat)}{pos:Pos}{wi:TI}
theorem jO (gS:SG)(tS:ST)(eS:SE)(own:List (Str×Nat))(hc:X.calm=true)(hN:X.N.Nodup)(hi:PI X tg iter wi)(ok:BlkOk X.N X.env.scope scope own)
  (hg:∀(s:Shared) (H:Hp) (C:Addr) (cl:List (Str×Addr)) (fp:List Addr),∃g,PG (X.blk s H scope (compEnvC scope cl C X.env) fp) tg g/\g=gS.t X.K)
  (ht:∀(s:Shared) (H:Hp) (C:Addr) (cl:List (Str×Addr)) (fp:List Addr),∃tt,PTs (X.blk s H scope (compEnvC scope cl C X.env) fp) ifs tt/\tt=tS.t X.K)
  (he:∀(s:Shared) (H:Hp) (C:Addr) (cl:List (Str×Addr)) (fp:List Addr),∃te,PE (X.blk s H scope (compEnvC scope cl C X.env) fp) elt te/\te=eS.t X.K) (hs:∀x,foldedSetIterable iter X.env x=pure x:=by intro _;rfl):
  PE X (.ListComp elt [⟨tg,iter,ifs,0⟩] scope pos) (tLc wi (gS.t X.K) (tS.t X.K) (eS.t X.K) (own.map (·.2))):=
 pe_lc hc hN hi ok (λa b c d e=>by obtain⟨_,h,rfl⟩:=hg a b c d e;exact h) (λa b c d e=>by obtain⟨_,h,rfl⟩:=ht a b c d e;exact h) (λa b c d e=>by obtain⟨_,h,rfl⟩:=he a b c d e;exact h) hs
theorem Ue {i:Nat}{y:Str}{py spos:Pos}(gS:SG)(tS:ST)(eS:SE)(own:List (Str×Nat))(hc:X.calm=true)(hN:X.N.Nodup)(hy:X.N[i]? = some y)(hyl:X.env.scope.names.lookup y=some .local)
  (hsw:swapsWith (.ListComp elt [⟨tg,iter,ifs,0⟩] scope pos) (some (.Name y py)) spos.line X.env=pure true) (hi:PI X tg iter wi) (ok:BlkOk X.N X.env.scope scope own)
  (hg:∀(s:Shared) (H:Hp) (C:Addr) (cl:List (Str×Addr)) (fp:List Addr),∃g,PG (X.blk s H scope (compEnvC scope cl C X.env) fp) tg g/\g=gS.t X.K)
  (ht:∀(s:Shared) (H:Hp) (C:Addr) (cl:List (Str×Addr)) (fp:List Addr),∃tt,PTs (X.blk s H scope (compEnvC scope cl C X.env) fp) ifs tt/\tt=tS.t X.K)
  (he:∀(s:Shared) (H:Hp) (C:Addr) (cl:List (Str×Addr)) (fp:List Addr),∃te,PE (X.blk s H scope (compEnvC scope cl C X.env) fp) elt te/\te=eS.t X.K) (hs:∀x,foldedSetIterable iter X.env x=pure x:=by intro _;rfl):
  PS X (.Assign [.Name y py] (.ListComp elt [⟨tg,iter,ifs,0⟩] scope pos) spos) (tAsg (tLc wi (gS.t X.K) (tS.t X.K) (eS.t X.K) (own.map (·.2))) (gName i)):=
 ps_setLc hc hN hy hyl hsw hi ok (λa b c d e=>by obtain⟨_,h,rfl⟩:=hg a b c d e;exact h) (λa b c d e=>by obtain⟨_,h,rfl⟩:=ht a b c d e;exact h) (λa b c d e=>by obtain⟨_,h,rfl⟩:=he a b c d e;exact h) hs
end
end Pu
namespace Pu
variable [aZ]
open PySem PySem.Spec PyProof.Rows L2
theorem uD (ws:List (Key×V))(k:Key)(v:V):(putK ws k v).length<=ws.length+1:=by
 unfold putK
 split
 ·rw [Kag];omega
 ·rw [Kan];exact Kat _
/-- bM key d8 a value is -/
def keyOf:PyData->Option Key
 |.int j=>some (.inl j)
 |.str x=>some (.inr x)
 |_=>none
theorem Rp.key {F:Hp}{v:V}{d:PyData}{as:List Addr}{k:Key}(r:Rp F v d as)(h:keyOf d=some k):v=kV k:=by
 unfold keyOf at h
 split at h
 ·cases h;exact r.int_inv
 ·cases h;exact r.str_inv
 ·cases h
theorem dY.put {F:Hp}{ws:List (Key×V)}{f:List (Key×PyData)}{k:Key}{v:V}{d:PyData}{as:List Addr}(h:∀j:Key,dY F (valV ws j) (cD f j))(r:Rp F v d as)(j:Key):dY F (valV (putK ws k v) j) (cD ((k,d)::f) j):=by
 rw [valV_put]
 show dY F _ (if k=j then some d else cD f j)
 by_cases e:k=j
 ·rw [if_pos e,if_pos (by rw [e])]
  exact⟨as,r⟩
 ·rw [if_neg e,if_neg (λz=>e z.symm)]
  exact h j
/-- x={} among bM targets -/
def Vc (i:Nat)(r:SP):SP where
 t:=λK=>tCons tDNewK (r.t K)
 ts:=i::r.ts
 ev:=λρ cN s=>r.ev ρ (cN.set i (.cI [])) s
 ok:=by
  intro K sk F0 H0 F H σ p_ ρ cN je ak cU s s' Q p w h q a na
  have sr:bw F H F (L2.upd H a (.dK [])):=.raw (sk:=sk) w.st.sub' na
  have w1:=w.next (sr.any (sk:=sk)) (w.bh.keep sr)
  have wq:H0 a=none:=by
   cases q:H0 a with
   |none=>rfl
   |some u=>exact absurd na (w.st.dm a (by rw [q];exact nofun))
  have nd:([a]++cU.flatten).Nodup:=Kal.mpr ⟨by simp,w.dX,λb mb c mc z=>by
   have:b=a:=by simpa using mb
   subst z
   exact (w.bT b mc).2.1 (by rw [this];exact na)⟩
  obtain⟨m1,m2⟩:=u7 (i:=i) nd
  have wa:Wd sk F0 H0 F (L2.upd H a (.dK [])) (p_.set i (some (.ref a))) (cN.set i (.cI [])) (cU.set i [a]) s:=by
   refine⟨w1.st,w1.bh,w1.slots.set ⟨a,[],rfl,upd_same,w.st.sub'.free na,Kat _,λk=>True.intro,rfl⟩,m1,λb m=>?_⟩
   rcases m2 b m with z|z
   ·have:b=a:=by simpa using z
    subst this
    exact⟨wq,by rw [upd_same];exact nofun,fJ w.bh na⟩
   ·exact w1.bT b z
  refine r.ok K (p.next (sr.any (sk:=sk)) (p.bh.keep sr)) wa h λvs F2 H2 fv sF w2 hl=>?_
  exact q (.ref a::vs) F2 H2 fv sF w2 (by rw [Kad,Kad,hl])
/-- x={} -/
def SS.am (i:Nat):SS where
 t:=λ_=>tAsg tDNewK (gName i)
 ev:=λρ s=>some (.nx (ρ.set i (.cI [])) s)
 ok:=by
  intro K sk F0 H0 F H σ ρ ak s out D w h q a na
  cases h
  have:=(Vc i SP.nil).ok K (Q:=λvs H'=>∃v,vs=[v]/\D.nx (σ.set i (some v)) H') w.pre w rfl λvs F1 H1 fv sF w1 hl=>by
   match vs,hl with
   |[v],_=>exact⟨v,rfl,q F1 H1 _ fv sF w1⟩
  obtain⟨v,e,z⟩:=this a na
  cases e
  exact z
theorem Wd.dput {sk:Option Addr}{F0 H0 F H:Hp}{σ:L2.St}{ρ:List Slot}{ak:List (List Addr)}{s:aa}{i:Nat}{a:Addr}{ws gn:List (Key×V)}{f:List (Key×PyData)}(w:Wd sk F0 H0 F H σ ρ ak s)(e1:σ[i]? = some (some (.ref a)))(e2:ak[i]? = some [a])(hF:F a=none)
  (hl:gn.length<=f.length) (r:∀k:Key,dY F (valV gn k) (cD f k)) {Rl:List (Key×V)} (hP:H a=some (.dK Rl)):Wd sk F0 H0 F (L2.upd H a (.dK gn)) σ (ρ.set i (.cI f)) ak s:=by
 have fa:a∈ak.flatten:=Kaw.mpr ⟨_,Kar e2,Kaa⟩
 obtain⟨a0,a1,a2⟩:=w.bT a fa
 obtain⟨n1,n2⟩:=vm w.dX e2
 have n3:=Kal.mp n1
 have na:a∉(ak.set i []).flatten:=λm=>n3.2.2 a Kaa a m rfl
 have st':Step sk F0 H0 F (L2.upd H a (.dK gn)):=by
  refine⟨w.st.sub,λb u e=>?_,λb u hb e hs=>?_,λb h=>?_,w.st.new⟩
  ·rw [upd_ne (λz=>by rw [z,hF] at e;cases e)];exact w.st.sub' b u e
  ·rw [upd_ne (λz=>by rw [z,a0] at e;cases e)];exact w.st.fr b u hb e
  ·by_cases z:b=a
   ·rw [z,upd_same];exact nofun
   ·rw [upd_ne z];exact w.st.dm b h
 have dj:bA sk F (L2.upd H a (.dK gn)) s:=⟨λb e=>⟨by rw [upd_ne (λz=>a2 (by rw [<-z];exact e))];exact (w.bh b e).1,(w.bh b e).2⟩,Es w.bh.tab hP (gxq trivial)⟩
 have sl:=(w.slots.drop (i:=i)).q7 (a:=a) (o:=.dK gn) na
 have sl2:=sl.fill (sl:=.cI f) (fp:=[a]) e1 ⟨a,gn,rfl,upd_same,hF,hl,r,rfl⟩
 rw [KaI,KaI,Pj e2] at sl2
 refine⟨st',dj,sl2,w.dX,λb m=>?_⟩
 have:=w.bT b m
 refine⟨this.1,?_,this.2.2⟩
 by_cases z:b=a
 ·rw [z,upd_same];exact nofun
 ·rw [upd_ne z];exact this.2.1
/-- d[k]=v -/
def ixs (i:Nat)(k v:SE):SS where
 t:=λK=>sDPut (tVar i) (k.t K) (v.t K)
 ev:=λρ s=>(v.ev ρ s).bind λx=>match ρ[i]? with
  |some (.cI f)=>(k.ev ρ x.2).bind λy=>match keyOf y.1.1 with
   |some j=>if f.length<100000 then some (.nx (ρ.set i (.cI ((j,x.1.1)::f))) y.2) else none
   |none=>none
  |_=>none
 ok:=by
  intro K sk F0 H0 F H σ ρ ak s out D w h q
  obtain⟨⟨x,s1⟩,h1,h2⟩:=aL h
  dsimp only at h2
  split at h2
  ·rename_i f cz
   obtain⟨⟨⟨y,fl⟩,s2⟩,h3,h4⟩:=aL h2
   dsimp only at h4
   split at h4
   ·rename_i j ej
    split at h4
    ·rename_i hl
     cases h4
     refine v.ok K w.pre h1 λvv F1 H1 as st1 k1 r1 f1=>?_
     have w1:=w.next st1 k1
     obtain⟨xv,fp,e1,e2,a,ws,rfl,hH,hF,AN,hr,rfl⟩:=w1.slots.get cz
     refine⟨.ref a,e1,?_⟩
     refine k.ok K w1.pre h3 λkv F2 H2 bs st2 k2 r2 f2=>?_
     have w2:=w1.next st2 k2
     obtain⟨xv2,YR,sP,Et,a2,pY,ez,h_,xH,zB,hr2,rfl⟩:=w2.slots.get cz
     rw [e1] at sP
     have KC:a2=a:=by
      have:=Option.some.inj sP
      subst this
      have:=Option.some.inj ez
      injection this with this
      exact this.symm
     subst KC
     have hkv:=r2.key ej
     subst hkv
     refine⟨a2,_,rfl,DPut.k (k:=j) h_ (Kbv zB (Ka4 hl (by decide))),?_⟩
     have w3:=w2.dput (ws:=pY) (gn:=putK pY j vv) (f:=(j,x.1)::f) e1 Et xH (KaB (uD _ _ _) (by show pY.length+1<=f.length+1;omega)) (dY.put hr2 (r1.mono st2.sub)) h_
     exact q F2 _ σ ak (st1.sub.trans st2.sub) w3
    ·cases h4
   ·cases h4
  ·cases h2
theorem T6 {F:Hp}{x:Option V}{d:PyData}(h:dY F x (some d)):∃v as,x=some v/\Rp F v d as:=by
 cases x with
 |none=>cases h
 |some v=>obtain⟨as,h⟩:=h;exact⟨v,as,rfl,h⟩
theorem z_ {F:Hp}{x:Option V}(h:dY F x none):x=none:=by
 cases x with
 |none=>rfl
 |some v=>cases h
/-- d[k] -/
def SE.OG (i:Nat)(k:SE):SE where
 t:=λK=>tDGet (tVar i) (k.t K)
 ev:=λρ s=>match ρ[i]? with
  |some (.cI f)=>(k.ev ρ s).bind λy=>match keyOf y.1.1 with
   |some j=>(cD f j).map λd=>((d,false),y.2)
   |none=>none
  |_=>none
 ok:=by
  intro K sk F H σ ρ ak s vl s' Q p h q
  dsimp only at h
  split at h
  ·rename_i f cz
   obtain⟨⟨⟨y,fl⟩,s2⟩,h3,h4⟩:=aL h
   dsimp only at h4
   split at h4
   ·rename_i j ej
    obtain⟨d,h5,h6⟩:=Kap.mp h4
    cases h6
    obtain⟨xv,fp,e1,e2,a,ws,rfl,hH,hF,AN,hr,rfl⟩:=p.slots.get cz
    refine⟨.ref a,e1,?_⟩
    refine k.ok K p h3 λkv F2 H2 bs st2 k2 r2 f2=>?_
    have hz:=hr j
    rw [h5] at hz
    obtain⟨v,as,hv,rv⟩:=T6 hz
    have fa:a∈ak.flatten:=Kaw.mpr ⟨_,Kar e2,Kaa⟩
    have h_:H2 a=some (.dK ws):=st2.fr a _ (λz=>p.jH a z fa) hH
    have hkv:=r2.key ej
    subst hkv
    refine⟨a,v,rfl,?_,q v F2 H2 as st2 k2 (rv.mono st2.sub) .no⟩
    rw [<-hv]
    exact DGet.k (k:=j) h_
   ·cases h4
  ·cases h
/-- d.get(k,x) -/
def Vd (i:Nat)(k x:SE):SE where
 t:=λK=>tDGet2 (tVar i) (k.t K) (x.t K)
 ev:=λρ s=>match ρ[i]? with
  |some (.cI f)=>(k.ev ρ s).bind λy=>match keyOf y.1.1 with
   |some j=>(x.ev ρ y.2).bind λz=>some (((cD f j).getD z.1.1,false),z.2)
   |none=>none
  |_=>none
 ok:=by
  intro K sk F H σ ρ ak s vl s' Q p h q
  dsimp only at h
  split at h
  ·rename_i f cz
   obtain⟨⟨⟨y,fl⟩,s2⟩,h3,h4⟩:=aL h
   dsimp only at h4
   split at h4
   ·rename_i j ej
    obtain⟨⟨z,s3⟩,h5,h6⟩:=aL h4
    cases h6
    obtain⟨xv,fp,e1,e2,a,ws,rfl,hH,hF,AN,hr,rfl⟩:=p.slots.get cz
    refine⟨.ref a,e1,a,rfl,.inl ⟨ws,.inl hH⟩,?_⟩
    refine k.ok K p h3 λkv F2 H2 bs st2 k2 r2 f2=>?_
    refine x.ok K (p.next st2 k2) h5 λxv F3 H3 cs st3 k3 r3 f3=>?_
    have fa:a∈ak.flatten:=Kaw.mpr ⟨_,Kar e2,Kaa⟩
    have hH3:H3 a=some (.dK ws):=st3.fr a _ (λz=>p.jH a z fa) (st2.fr a _ (λz=>p.jH a z fa) hH)
    have hkv:=r2.key ej
    subst hkv
    refine⟨_,DGet.k (k:=j) hH3,?_⟩
    have hz:=hr j
    cases hd:cD f j with
    |none=>
     rw [hd] at hz
     rw [z_ hz]
     refine q xv F3 H3 cs (st2.trans st3) k3 ?_ .no
     rw [hd];exact r3
    |some d=>
     rw [hd] at hz
     obtain⟨v,as,hv,rv⟩:=T6 hz
     rw [hv]
     refine q v F3 H3 as (st2.trans st3) k3 ?_ .no
     rw [hd];exact (rv.mono st2.sub).mono st3.sub
   ·cases h4
  ·cases h
def AU (i j:Int):Prop:=0<=j/\(Builtin.Int.intBits i:Int)*j<=2 ^ 27
theorem IX {X:Cx}:OpR X (binaryOp .Pow) (rI AU λi j=>.int (i ^ j.toNat)):=opI λ_ _ _ _ _ _ _ hc q=>pow_int hc.1 hc.2 q
def gb (i j:Int):Bool:=decide (0<=j) && decide (j<=1000) && decide (i.natAbs<2 ^ 1000)
theorem Hf {i j:Int}(h:gb i j=true):AU i j:=by
 unfold gb at h
 obtain⟨h0,h3⟩:=KaN.mp h
 obtain⟨h1,h2⟩:=KaN.mp h0
 have h1:=of_decide_eq_true h1
 have h2:=of_decide_eq_true h2
 have h3:=of_decide_eq_true h3
 refine⟨h1,?_⟩
 have hb:Builtin.Int.intBits i<=1001:=by
  unfold Builtin.Int.intBits
  split
  ·omega
  ·have:=PySem.Flt.log2_lt_of (show 0<1000 by decide) h3
   omega
 have:(Builtin.Int.intBits i:Int)*j<=1001*1000:=Int.mul_le_mul (by omega) h2 h1 (by decide)
 omega
def EI:SE->SE->SE:=ji _ _ (xM (C:=AU) (g:=λi j=>i ^ j.toNat) (c:=gb) (λi j h=>Hf h))
end Pu
namespace Pu
variable [aZ]
open PySem PySem.Spec PyProof.Rows L2
mutual
/-- plain data: ints below 10 ** 60,short texts,no dict -/
def small:PyData->Bool
 |.none=>true
 |.bool _=>true
 |.int i=>decide (i.natAbs<10 ^ 60)
 |.str x=>decide ((reprText x).length<=61)
 |.list xs=>AE xs
 |.tuple xs=>AE xs
 |.dict _=>false
def AE:List PyData->Bool
 |[]=>true
 |x::xs=>small x && AE xs
end
mutual
/-- at most so many signs -/
def cost:PyData->Nat
 |.list xs=>eqc xs+3
 |.tuple xs=>eqc xs+3
 |_=>61
def eqc:List PyData->Nat
 |[]=>0
 |x::xs=>cost x+2+eqc xs
end
mutual
theorem nq:∀d:PyData,small d=true->d.shown.length<=cost d
 |.none,_=>by simp only [PyData.shown,cost];decide
 |.bool b,_=>by cases b <;> (simp only [PyData.shown,cost];decide)
 |.int i,h=>by
  simp only [small] at h
  have e:=int_text_length_le10 (k:=60) (by decide) (of_decide_eq_true h)
  simp only [PyData.shown,cost]
  show (Str.ofString (toString i)).length<=61
  rw [PySem.ofString_length];exact e
 |.str x,h=>by
  simp only [small] at h
  simp only [PyData.shown,cost]
  exact of_decide_eq_true h
 |.list xs,h=>by
  simp only [small] at h
  simp only [PyData.shown,cost]
  have h1:=listText_len_le (PyData.shownAll xs)
  have h2:=Xy xs h
  have h3:=eqk xs
  omega
 |.tuple xs,h=>by
  simp only [small] at h
  simp only [PyData.shown,cost]
  have h1:=tupleText_len_le (PyData.shownAll xs)
  have h2:=Xy xs h
  have h3:=eqk xs
  omega
 |.dict kvs,h=>by simp only [small] at h;cases h
theorem Xy:∀xs:List PyData,AE xs=true->((PyData.shownAll xs).map (·.length)).sum+2*xs.length<=eqc xs
 |[],_=>by simp [PyData.shownAll,eqc]
 |x::xs,h=>by
  simp only [AE,Ka7] at h
  have h1:=nq x h.1
  have h2:=Xy xs h.2
  simp only [PyData.shownAll,eqc,Kai,Kc3,Kad]
  omega
theorem eqk:∀xs:List PyData,(PyData.shownAll xs).length=xs.length
 |[]=>by simp [PyData.shownAll]
 |x::xs=>by simp only [PyData.shownAll,Kad,eqk xs]
end
mutual
theorem nv:∀d:PyData,small d=true->d.showable=true/\d.hasDict=false
 |.none,_=>by simp [PyData.showable,PyData.hasDict]
 |.bool b,_=>by simp [PyData.showable,PyData.hasDict]
 |.int i,h=>by
  simp only [small] at h
  have h:=of_decide_eq_true h
  simp only [PyData.showable,PyData.hasDict,and_true,decide_eq_true_eq]
  exact log2_small (Ka4 h (by decide +kernel))
 |.str x,_=>by simp [PyData.showable,PyData.hasDict]
 |.list xs,h=>by simp only [small] at h;simp only [PyData.showable,PyData.hasDict];exact W5 xs h
 |.tuple xs,h=>by simp only [small] at h;simp only [PyData.showable,PyData.hasDict];exact W5 xs h
 |.dict kvs,h=>by simp only [small] at h;cases h
theorem W5:∀xs:List PyData,AE xs=true->PyData.showableAll xs=true/\PyData.hasDictAll xs=false
 |[],_=>by simp [PyData.showableAll,PyData.hasDictAll]
 |x::xs,h=>by
  simp only [AE,Ka7] at h
  obtain⟨a1,a2⟩:=nv x h.1
  obtain⟨b1,b2⟩:=W5 xs h.2
  simp [PyData.showableAll,PyData.hasDictAll,a1,a2,b1,b2]
end
def oA (d:PyData):Bool:=small d && decide (cost d<=1000000) && decide (d.depth<=60)
mutual
theorem kg:∀d:PyData,small d=true->nd d=true
 |.none,_=>rfl
 |.bool _,_=>rfl
 |.int _,_=>rfl
 |.str _,_=>rfl
 |.list xs,h=>by simp only [small] at h;unfold nd;exact W2 xs h
 |.tuple xs,h=>by simp only [small] at h;unfold nd;exact W2 xs h
 |.dict kvs,h=>by simp only [small] at h;cases h
theorem W2:∀xs:List PyData,AE xs=true->gW xs=true
 |[],_=>rfl
 |x::xs,h=>by
  simp only [AE,Ka7] at h
  unfold gW
  rw [kg x h.1,W2 xs h.2];rfl
end
theorem C2 {d:PyData}(h:oA d=true):nd d=true:=kg d (KaN.mp (KaN.mp h).1).1
def Dz (K:Frag):List V->Hp->VK->Prop:=λxs H Q=>∃x d,xs=[x]/\Dp K H x d/\oA d=true/\Q (.str d.shown) H
theorem M9 {X:Cx}(hG:X.A.guards=some [])(hu:X.A.units+64<cLine):CallR X (.builtin "repr") (Dz X.K):=by
 intro pins s σ H xs us Q I r h
 obtain⟨x,d,rfl,hd,ok,q⟩:=h
 unfold oA at ok
 obtain⟨ok1,ok2⟩:=KaN.mp ok
 obtain⟨ok3,ok4⟩:=KaN.mp ok1
 have cV:=of_decide_eq_true ok2
 have Qh:=of_decide_eq_true ok4
 obtain⟨sh,nd⟩:=nv d ok3
 have hlen:d.shown.length<=sizeLine:=KaB (KaB (nq d ok3) Qh) (by decide)
 obtain⟨u,rfl,rx⟩:=vals1 r
 obtain⟨as,rr⟩:=Dp.reads I d x u hd rx
 cases hd with
 |non=>
  cases (show u=Value.none from rx)
  refine PySem.P.repr_of_none ⟨.str _,H,I.tok _,⟨_,rfl⟩,?_⟩
  simpa only [PyData.shown] using q
 |bl b=>
  cases (show u=Value.bool b from rx)
  refine PySem.P.repr_of_bool ⟨.str _,H,I.tok _,⟨_,rfl⟩,?_⟩
  simpa only [PyData.shown] using q
 |int i=>
  obtain⟨t,rfl⟩:=rx
  refine PySem.P.repr_of_int ?_ ⟨.str _,H,I.tok _,⟨_,rfl⟩,?_⟩
  ·simpa [PyData.showable] using sh
  ·simpa only [PyData.shown] using q
 |str x=>
  obtain⟨t,rfl⟩:=rx
  refine PySem.P.repr_of_str (x:=x) ⟨.str _,H,I.tok _,⟨_,rfl⟩,?_⟩ ?_
  ·simpa only [PyData.shown] using q
  ·simpa only [PyData.shown] using hlen
 |@lst a xs ds e ee=>
  cases (show u=Value.ref a from rx)
  exact repr_of_reads' rr sh (PyData.noDict_hsm nd) hG (by omega) (λ_ _ e=>e) (λh' u tk hk=>⟨.str _,H,I.kept (t':=tk) hk,⟨_,rfl⟩,q⟩) hlen
 |@tup a xs ds e ee=>
  cases (show u=Value.ref a from rx)
  exact repr_of_reads' rr sh (PyData.noDict_hsm nd) hG (by omega) (λ_ _ e=>e) (λh' u tk hk=>⟨.str _,H,I.kept (t':=tk) hk,⟨_,rfl⟩,q⟩) hlen
def DF:List PyData->Option Vl
 |[d]=>if oA d=true then some (.str d.shown,true) else none
 |_=>none
def Je (a:SE):SE:=rA (λK=>Dz K) DF (by
 intro K F H xs ds as z Q s r h q
 unfold DF at h
 split at h
 ·rename_i d
  split at h
  ·rename_i ok
   cases h
   cases r with
   |cons r rr=>
    cases rr
    exact⟨_,d,rfl,(r.mono s).dp (C2 ok),ok,q.here (z:=(.str _,true)) s (.str _) .nil⟩
  ·cases h
 ·cases h) (.cons a .nil)
/-- texts Ot -/
def SE.GV:SE->SE->SE:=ji (λ_=>rNe) (λd e=>match d,e with|.str x,.str y=>some (.bool (!decide (x=y)),true)|_,_=>none) (by
 intro K F H x y d e as bs z Q s r1 r2 h q
 dsimp only at h
 split at h
 ·rename_i a b
  cases h
  rw [r1.str_inv,r2.str_inv]
  refine⟨rfl,?_⟩
  have e:decide (V.str a=V.str b)=decide (a=b):=by
   by_cases z:a=b
   ·subst z;simp
   ·rw [decide_eq_false z,decide_eq_false (λw=>z (V.str.inj w))]
  rw [e]
  exact q.here (z:=(.bool _,true)) s (.bl _) .nil
 ·cases h)
def SE.eqS:SE->SE->SE:=ji (λ_=>rEq) (λd e=>match d,e with|.str x,.str y=>some (.bool (decide (x=y)),true)|_,_=>none) (by
 intro K F H x y d e as bs z Q s r1 r2 h q
 dsimp only at h
 split at h
 ·rename_i a b
  cases h
  rw [r1.str_inv,r2.str_inv]
  refine⟨rfl,?_⟩
  have e:decide (V.str a=V.str b)=decide (a=b):=by
   by_cases z:a=b
   ·subst z;simp
   ·rw [decide_eq_false z,decide_eq_false (λw=>z (V.str.inj w))]
  rw [e]
  exact q.here (z:=(.bool _,true)) s (.bl _) .nil
 ·cases h)
def hxc:PyData->Bool
 |.list _=>true
 |_=>false
/-- xs[::-1] -/
def SE.rev (a:SE):SE where
 t:=λK=>tRevL K (a.t K)
 ev:=λρ s=>(a.ev ρ s).bind λx=>match x.1.1 with
  |.list ds=>some ((.list ds.reverse,fM ds.reverse),x.2)
  |_=>none
 ok:=by
  intro K sk F H σ ρ ak s vl s' Q p h q
  obtain⟨⟨⟨x,fl⟩,s1⟩,h1,h2⟩:=aL h
  dsimp only at h2
  split at h2
  ·rename_i ds
   cases h2
   refine a.ok K p h1 λv F1 H1 as st k r f=>?_
   obtain⟨b,xs,cs,rfl,ha,hr,hz⟩:=r.aP
   refine⟨b,xs,rfl,.inl (.inl (st.sub' _ _ ha)),λpp np=>?_⟩
   have aqJ:∃bs,az F1 xs.reverse ds.reverse bs:=by
    clear ha r f h h1 q hz
    induction ds generalizing xs cs with
    |nil=>cases hr;exact⟨[],.nil⟩
    |cons d ds ih=>
     cases hr with
     |cons r1 r2=>
      obtain⟨bs,h⟩:=ih _ _ r2
      rw [Kb0,Kb0]
      exact⟨_,h.app (.cons r1 .nil)⟩
   obtain⟨bs,hb⟩:=aqJ
   have sa:bw F1 H1 (L2.upd F1 pp (.lst xs.reverse)) (L2.upd H1 pp (.lst xs.reverse)):=.alloc st.sub' np
   refine q _ _ _ (pp::bs) (st.trans sa.any) (k.keep sa) (.lst upd_same (hb.mono sa.sub)) λe=>?_
   rw [hb.aM e]
   refine⟨by simp,λc m=>?_⟩
   have:c=pp:=by simpa using m
   subst this
   cases hq:H c with
   |none=>rfl
   |some u=>exact absurd np (st.dm c (by rw [hq];exact nofun))
  ·cases h2
/-- xs.clear() -/
def SS.clear (i:Nat):SS where
 t:=λK=>tDrop (tBM0 K "list" rClear (tVar i))
 ev:=λρ s=>match ρ[i]? with
  |some (.aC ds o)=>some (.nx (ρ.set i (.aC [] o)) s)
  |_=>none
 ok:=by
  intro K sk F0 H0 F H σ ρ ak s out D w h q
  dsimp only at h
  split at h
  ·rename_i ds o cz
   cases h
   obtain⟨xv,fp,e1,e2,a,vs,as,rfl,hH,hF,r,rfl⟩:=w.slots.get cz
   refine⟨.ref a,e1,.inl ⟨rfl,vs,.inl (.inl hH)⟩,a,vs,rfl,rfl,hH,?_⟩
   have fa:a∈ak.flatten:=Kaw.mpr ⟨_,Kar e2,Kaa⟩
   obtain⟨a0,a1,a2⟩:=w.bT a fa
   obtain⟨n1,n2⟩:=vm w.dX e2
   have n3:=Kal.mp n1
   have na:a∉(ak.set i []).flatten:=λm=>n3.2.2 a Kaa a m rfl
   have nd:([a]++(ak.set i []).flatten).Nodup:=Kal.mpr ⟨by simp,n3.2.1,λx hx y hy z=>by
    have:x=a:=by simpa using hx
    subst this;subst z
    exact na hy⟩
   obtain⟨m1,m2⟩:=u7 (i:=i) nd
   rw [KaI] at m1 m2
   have AL:∀b,H b≠none->L2.upd H a (.lst []) b≠none:=λb h=>by
    by_cases z:b=a
    ·rw [z,upd_same];exact nofun
    ·rw [upd_ne z];exact h
   have st':Step sk F0 H0 F (L2.upd H a (.lst [])):=by
    refine⟨w.st.sub,λb u e=>?_,λb u hb e hs=>?_,λb h=>AL b (w.st.dm b h),w.st.new⟩
    ·rw [upd_ne (λz=>by rw [z,hF] at e;cases e)];exact w.st.sub' b u e
    ·rw [upd_ne (λz=>by rw [z,a0] at e;cases e)];exact w.st.fr b u hb e
   have dj:bA sk F (L2.upd H a (.lst [])) s:=⟨λb e=>⟨by rw [upd_ne (λz=>a2 (by rw [<-z];exact e))];exact (w.bh b e).1,(w.bh b e).2⟩,Uj w.bh.tab hH⟩
   have sl:=((w.slots.drop (i:=i)).q7 (a:=a) (o:=.lst []) na).fill (sl:=.aC [] o) (fp:=[a]) e1 ⟨a,[],[],rfl,upd_same,hF,.nil,by cases o <;> rfl⟩
   rw [KaI,KaI] at sl
   refine q F _ σ (ak.set i [a]) (Same.refl _) ⟨st',dj,sl,m1,λb m=>?_⟩
   rcases m2 b m with z|z
   ·have:b=a:=by simpa using z
    subst this
    exact⟨a0,AL b a1,a2⟩
   ·have:=w.bT b (ou.mem z)
    exact⟨this.1,AL b this.2.1,this.2.2⟩
  ·cases h
end Pu
namespace Pu
variable [aZ]
open PySem PySem.Spec PyProof.Rows L2
structure EO (P:Program)(w:World)(K:Frag)(mg:Str->Option Value)(base:Heap)(k:Nat)(f:Addr)(fd:FuncData)(ps:List Str)(sp:Sp):Prop where
 len:∀vs H Q,sp vs H Q E0->vs.length=ps.length
 go:∀(A:Around) (outer:List Env) (s:Shared) (H:Hp) (args:Args) (us:List Value) (vs:List V) (Q:VK),A.guards=some []->Room k A->Env0 P w K mg base A outer s H->BindsTo s fd args (ps.zip us)->Vals vs us->sp vs H Q E0 ->
  codeAny (model P w) A (.call (.ref f) args) (CR CX0 outer P w H s Q E0) s
section
variable {P:Program}{w:World}{K:Frag}{mg:Str->Option Value}{base:Heap}{x:Str}{st:Stmt}{f:Addr}{fd:FuncData}{N ps:List Str}{k:Nat}{sp:Sp}
/-- a def by its body,in a quiet place -/
theorem EO.body (F:cO K x st f fd)(S:FnScope N ps (defScope st))(len:∀vs H Q,sp vs H Q E0->vs.length=ps.length)
  (hbody:∀(cdv:Value) (A:Around) (outer:List Env) (s:Shared) (H:Hp) (vs:List V) (Q:VK),A.guards=some []->Room k (A.deeper (envOfC x (defScope st) s.heap.objs.size f cdv))->sp vs H Q E0 ->
   ∃t,PSs (cxOf CX0 P w K mg base N x (defScope st) f cdv A outer s H E0) (defBody st) t/\t { nx:=λ_ H'=>Q .non H',rt:=Q } (L2.start N vs) H):
  EO P w K mg base (k+1) f fd ps sp:=by
 obtain⟨c0,c1,c2,c3,c4,c5,c6,cdv,c7,c8,e,lk,hcd,_,_⟩:=F.ex
 subst e
 refine⟨len,λA outer s H args us vs Q hG hr e0 hb hv hs=>?_⟩
 obtain⟨t,ht,hq⟩:=hbody cdv A outer s H vs Q hG (hr.deeper _) hs
 have EG:K.In s.heap:=e0.mod.kin.keeps λb o z=>(e0.bs b o z).1
 refine codeAny_call_function hr.depth (EG _ _ lk) rfl S.co S.gen rfl (PySem.W.codeRec_of EG hcd) (hb _ _ _ _ ?_)
 refine wpAny_newFunctionEnv_cells S.kind (λy hy=>?_) λenv he s1 ic=>?_
 ·have hp:=S.par y.1 (List.of_mem_zip hy).1
  exact hp.imp id λz=>⟨z,PySem.W.cellsFrom_some _ _ _ (.inl z)⟩
 ·subst he
  have lim:=(e0.mod.nolimit.keeps λb o z=>(e0.bs b o z).1).keeps ic.toInCall.keep
  refine⟨lim,codeAny_func ?_⟩
  have I0:=inv_start (CX:=CX0) (E:=E0) (cd:=cdv) (f:=f) (qual:=x) S hr.hd e0 (len _ _ _ hs) hv ic
  refine wpAny_mono (ht.run [] s1 _ H _ I0 hq) (λfl s' hz=>?_) λ_ _ z=>z
  cases fl with
  |brk=>exact hz.choose_spec.choose_spec.2.elim
  |cont=>exact hz.choose_spec.choose_spec.2.elim
  |next=>
   obtain⟨σ',H',J,z⟩:=hz
   exact⟨.non,H',J.os,J.bare,J.base,J.hok,rfl,z⟩
  |ret u=>
   obtain⟨v,σ',H',J,rv,z⟩:=hz
   exact⟨v,H',J.os,J.bare,J.base,J.hok,rv,z⟩
end
section
variable {X:Cx}{k:Nat}{f:Addr}{fd:FuncData}{ps ks:List Str}{sp:Sp}{x:Str}{p pos:Pos}{e:Expr}{es:List Expr}{kws:List Keyword}{t:TA}
theorem By {pins:List (Addr×Obj)}{σ:L2.St}{H:Hp}{s:Shared}{Q:VK}(I:Inv X pins σ H s)(r:Result)(s':Shared)(h:CR CX0 X.stack X.prog X.w H s Q E0 r s'):callEnd (EP X pins σ Q) X.xe r s':=by
 cases r with
 |error e=>exact h.elim
 |ok fl=>cases fl <;> first|exact I.after h|exact False.elim h
/-- f(k=v,..): all by keywords;g: in bM uz order -/
def tCallN (sp:Sp)(g:List V->List V)(t:TA):TE:=λσ H Q=>t σ H λzs H1=>sp (g zs) H1 Q E0
structure KwB (K:Frag)(fd:FuncData)(ps ks:List Str)(gV:List V->List V)(g:List Value->List Value):Prop where
 to:∀(s:Shared) (ws:List Value),(g ws).length=ps.length->BindsTo s fd ⟨[],ks.zip ws⟩ (ps.zip (g ws))
 rel:∀{zs:List V} {ws:List Value},Vals zs ws->Vals (gV zs) (g ws)
theorem pe_callN (F:FnOk X.prog X.w X.K X.mg X.base CX0 k f fd ps sp)(hr:Room k X.A)(hg:Gl X x)(hm:X.mg x=some (.ref f))(hk:PySem.W.keepIn X.K (.ref f)=true){gV:List V->List V}{g:List Value->List Value}(hb:KwB X.K fd ps ks gV g)
  (hkw:PK X kws t) (hall:(backToKw pos (keywordEach kws X.env)).all (·.1.isSome)=true:=by rfl) (hks:(backToKw pos (keywordEach kws X.env)).filterMap (·.1)=ks:=by rfl)
  (hdb:(x == ("__debug__" : Str))=false:=by decide) (hpl:((backTo pos (starEach [] X.env)).any (·.1) ||(backToKw pos (keywordEach kws X.env)).any (·.1.isNone))=false:=by rfl):
  PE X (.Call (.Name x p) [] kws pos) (tCallN sp gV t):=by
 constructor
 intro pins s σ H Q I h
 refine wpAny_Call_Name_kw (ld_glob I hg hm (PySem.W.callWith_KW0 (h₀:=X.base) I.ok.mod.kin hk hall ?_ hpl) hdb)
 refine thn (hkw.run pos pins s σ H _ I h) ?_
 rintro ws s1 ⟨zs,H1,I1,r,q⟩
 rw [hks]
 have hwl:(g ws).length=ps.length:=by rw [<-(hb.rel r).length];exact F.len _ _ _ _ q
 exact⟨I1.kIn,wpAny_call (codeAny_mono (F.run X.A X.stack s1 H1 ⟨[],ks.zip ws⟩ (g ws) (gV zs) Q E0 hr I1.env0 (hb.to s1 ws hwl) (hb.rel r) q) (By I1))⟩
end
/-- f(k=v,..) as a J6: bM values in bM written order,then put in bM uz order -/
def U9 (m:Fn)(gS:List Slot->List Slot)(gV:List V->List V)(hg:∀{sk:Option Addr} {F H:Hp} {vs:List V} {sl:List Slot},Slots sk F H (vs.map some) sl (gG sl)->Slots sk F H ((gV vs).map some) (gS sl) (gG (gS sl)))(a:SR):SE where
 t:=λK=>tCallN (bE m) gV (a.t K)
 ev:=λρ s=>(a.ev ρ s).bind λx=>m (gS x.1) x.2
 ok:=by
  intro K sk F H σ ρ ak s vl s' Q p h q
  obtain⟨⟨y,s1⟩,h1,h⟩:=aL h
  refine a.ok K p h1 λvs F1 H1 st1 k1 sl=>?_
  refine⟨sk,F1,gS y,s1,vl,s',st1.sub',k1,hg sl,h,λv F2 H2 as st2 k2 r2 f2=>?_⟩
  exact q v F2 H2 as (st1.trans st2) k2 r2 (f2.back st1.dm)
def HF {α:Type}:List α->List α
 |[a,b]=>[b,a]
 |_=>[]
theorem Ah {sk:Option Addr}{F H:Hp}{vs:List V}{sl:List Slot}(h:Slots sk F H (vs.map some) sl (gG sl)):Slots sk F H ((HF vs).map some) (HF sl) (gG (HF sl)):=by
 match vs,sl,h with
 |[],_,.nil=>exact .nil
 |[_],_,.cons _ .nil=>exact .nil
 |[_,_],_,.cons h1 (.cons h2 .nil)=>exact .cons h2 (.cons h1 .nil)
 |_::_::_::_,_,.cons _ (.cons _ (.cons _ _))=>exact .nil
theorem D4 {zs:List V}{ws:List Value}(h:Vals zs ws):Vals (HF zs) (HF ws):=by
 match zs,ws,h with
 |[],_,.nil=>exact .nil
 |[_],_,.cons _ .nil=>exact .nil
 |[_,_],_,.cons h1 (.cons h2 .nil)=>exact .cons h2 (.cons h1 .nil)
 |_::_::_::_,_,.cons _ (.cons _ (.cons _ _))=>exact .nil
def sw3 {α:Type}:List α->List α
 |[a,b,c]=>[c,b,a]
 |_=>[]
theorem cO.kw {K:Frag}{x:Str}{st:Stmt}{f:Addr}{fd:FuncData}{ps ks:List Str}{gV:List V->List V}{g:List Value->List Value}(F:cO K x st f fd)(hr:∀{zs:List V} {ws:List Value},Vals zs ws->Vals (gV zs) (g ws))
  (h:∀(kV doc pm:Value) (an:Option Addr) (cdv ct:Value) (ws:List Value),(g ws).length=ps.length->bindArgs (PySem.W.fnOf x x (defArgs st) (defBody st) (defScope st) .none kV doc pm an cdv ct) ⟨[],ks.zip ws⟩=pure (ps.zip (g ws))):KwB K fd ps ks gV g:=by
 obtain⟨c0,c1,dV,kV,doc,pm,an,cdv,ct,c8,e,lk,hcd,hD,hK⟩:=F.ex
 subst e
 rcases hD with⟨_,e⟩|⟨e,_⟩
 ·subst e
  exact⟨λs ws hl=>.of_eq (h kV doc pm an cdv ct ws hl),hr⟩
 ·exact absurd rfl e
end Pu
namespace Pu
open PySem PySem.Spec PyProof.Rows L2
/-- what is wanted behind it -/
def Good (h:Heap)(os:OsState)(r:Result)(s':Shared):Prop:=r=.ok (.ret (.bool true))/\OldK h s'.heap/\s'.os=os/\AllBare s'.gens
section
variable {P:Program}{w:World}{K:Frag}{mg mb:Str->Option Value}{k:Nat}{fa a:Addr}{fd:FuncData}{x:Str}{sp:Sp}{s1:Shared}{vs:List Value}{ns:List Int}
/-- bM tracked heap: nothing,or bM script alone -/
theorem t7 (T:Hp)(hT:∀b,T b=none∨(b=a/\∃o xs,T b=some (.frz o (.lst xs))))(hok:HOk P w T s1.heap)(hK:T a≠none->K.lookup a=none)
  (EG:K.In s1.heap) (hns:s1.heap.Ns mainGlobals mg) (hbn:s1.heap.Ns builtinsNs mb) (hbb:∀y:Str,y ≠ "__name__" -> mb y=bootBuiltins y) (hlim:s1.heap.NoLimit) (hg:s1.gens=#[])
  (ha:s1.heap.get? a=some { cls:=.type "list",data:=.seq vs.toArray }) (hr:Room k callerA)
  (F:∀base:Heap,K.In base->base.Ns mainGlobals mg->EO P w K mg base k fa fd [x] sp) (hbind:∀(s:Shared) (u:Value),BindsTo s fd ⟨[u],[]⟩ [(x,u)])
  (hsp:sp [.ref a] T (λv _=>v=.bl true) E0):codeAny (model P w) callerA (.call (.ref fa) ⟨[.ref a],[]⟩) (Good s1.heap s1.os) s1:=by
 have free:∀{b:Addr} {o:Obj} {es:Array DictEntry} {ep:Nat},s1.heap.get? b=some o->o.data=.dict es ep->T b=none:=by
  intro b o es ep e d
  rcases hT b with z|⟨rfl,_⟩
  ·exact z
  ·rw [ha] at e
   cases e
   cases d
 have G3:∀{b:Addr} {m:Str->Option Value},s1.heap.Ns b m->(hidT s1.heap T).Ns b m:=by
  rintro b m ⟨o,es,ep,e,d,r⟩
  exact⟨o,es,ep,hidT_get e (free e d),d,r⟩
 have in2:K.In (hidT s1.heap T):=by
  intro b o e
  refine hidT_get (EG b o e) ?_
  rcases hT b with z|⟨rfl,z⟩
  ·exact z
  ·obtain⟨o2,xs,z⟩:=z
   have:=hK (by rw [z];exact nofun)
   rw [this] at e
   cases e
 have aqM:(hidT s1.heap T).NoLimit:=by
  obtain⟨mc,h1,h2⟩:=hlim
  exact⟨mc,G3 h1,h2⟩
 have md:Mod K mg (hidT s1.heap T):=⟨in2,G3 hns,⟨mb,G3 hbn,hbb⟩,aqM⟩
 have e0:Env0 P w K mg (hidT s1.heap T) callerA [] s1 T:=by
  constructor
  ·rfl
  ·exact md
  ·exactλb o e=>of_hidT e
  ·exact Nat.le_of_eq (hidT_size _ _)
  ·exact trivial
  ·intro b hb;cases hb
  ·exact hok
  ·exact .of_eq hg
 refine codeAny_mono ((F _ in2 (G3 hns)).go callerA [] s1 T ⟨[.ref a],[]⟩ [.ref a] [.ref a] _ rfl hr e0 (hbind s1 (.ref a)) (.cons rfl .nil) hsp) ?_
 intro r s' h
 match r,h with
 |.ok (.ret u),⟨v,H',os,bare,un,aqI,rv,q⟩=>
  have q:v=.bl true:=q
  subst q
  have rv:u=Value.bool true:=rv
  subst rv
  refine⟨rfl,OldK.of_keep λb o e=>?_,os,bare⟩
  rcases hT b with z|⟨_,ob,xs,z⟩
  ·exact un.keep b o e z (λm=>by cases m) (λm=>by cases m)
  ·have g1:=(hok b _ z).1
   have g2:=(aqI b _ (un.frzs b ob _ z)).1
   rw [e] at g1
   rw [g2,g1]
theorem zJ (EG:K.In s1.heap)(hns:s1.heap.Ns mainGlobals mg)(hbn:s1.heap.Ns builtinsNs mb)(hbb:∀y:Str,y ≠ "__name__" -> mb y=bootBuiltins y)(hlim:s1.heap.NoLimit)(hg:s1.gens=#[])
  (ha:s1.heap.get? a=some { cls:=.type "list",data:=.seq vs.toArray }) (hi:IntsAre vs ns) (hl:ns.length<=sizeLine) (hr:Room k callerA)
  (F:∀base:Heap,K.In base->base.Ns mainGlobals mg->EO P w K mg base k fa fd [x] sp) (hbind:∀(s:Shared) (u:Value),BindsTo s fd ⟨[u],[]⟩ [(x,u)])
  (hsp:∀T:Hp,SqL K T a (ns.map V.int)->sp [.ref a] T (λv _=>v=.bl true) E0):codeAny (model P w) callerA (.call (.ref fa) ⟨[.ref a],[]⟩) (Good s1.heap s1.os) s1:=by
 have rv:=vals_ints hi
 have hlen:(ns.map V.int).length<=sizeLine:=by rw [Kag];exact hl
 cases hk:K.lookup a with
 |some o=>
  have e:=EG a o hk
  rw [ha] at e
  cases e
  refine t7 (λ_=>none) (λ_=>.inl rfl) (λb u z=>by cases z) (λz=>absurd rfl z) EG hns hbn hbb hlim hg ha hr F hbind (hsp _ (.inr ?_))
  refine⟨_,vs.toArray,_,hk,rfl,rfl,rfl,?_,?_⟩
  ·rw [Kbz,<-rv.length];exact hlen
  ·simpa using rv
 |none=>
  let T:Hp:=λb=>if b=a then some (.frz { cls:=.type "list",data:=.seq vs.toArray } (.lst (ns.map V.int))) else none
  have Ta:T a=some (.frz { cls:=.type "list",data:=.seq vs.toArray } (.lst (ns.map V.int))):=if_pos rfl
  have Tb:∀{b},b≠a->T b=none:=λh=>if_neg h
  refine t7 T (λb=>?_) (λb u z=>?_) (λ_=>hk) EG hns hbn hbb hlim hg ha hr F hbind (hsp T (.inl (.inr ⟨_,Ta⟩)))
  ·by_cases e:b=a
   ·subst e;exact .inr ⟨rfl,_,_,Ta⟩
   ·exact .inl (Tb e)
  ·by_cases e:b=a
   ·subst e
    rw [Ta] at z
    cases z
    exact⟨ha,hlen,vs,_,rv,ha⟩
   ·rw [Tb e] at z;cases z
end
/-- a law whose def is walked in a quiet place -/
theorem Ri {l:PySem.W.OpenLaw}{n k:Nat}{q:Program}{loose:List Str}{XP:(Str->Option Value)->Heap->Prop}{YP:World->Heap->Prop}{d:DefRec}{x:Str}(hn:l.most=some n)(hn2:n<=sizeLine)(hdf:d.params.defaults=[])(hr:Room k callerA)
  (F:∀(w:World) (mg:Str->Option Value) (fa:Addr) (h:Heap),YP w h->h.Ns mainGlobals mg->mg d.name=some (.ref fa) ->
   ∃(K:Frag) (fd:FuncData) (sp:Sp),K.In h/\(∀(s:Shared) (u:Value),BindsTo s fd ⟨[u],[]⟩ [(x,u)]) /\
    (∀(T:Hp) (a:Addr) (ns:List Int),ns.length<=n->SqL K T a (ns.map V.int)->sp [.ref a] T (λv _=>v=.bl true) E0) /\
    ∀base:Heap,K.In base->base.Ns mainGlobals mg->EO l.prog w K mg base k fa fd [x] sp):
  PySem.W.WalkO q loose XP YP l.row.toRowW d [] (λf vs=>PySem.call f vs):=by
 refine Att.attach_call hn hdf ?_
 intro w s0 s1 mg mb fa o pm cd doc a vs ns G Y ho hd hcd hmg hobj hints hlen hg
 obtain⟨K,fd,sp,EG,hb,hsp,hF⟩:=F w mg fa _ Y G.T.g hmg
 exact zJ EG G.T.g G.T.b G.T.builtins G.T.nolimit hg hobj hints (KaB hlen hn2) hr hF hb λT hS=>hsp T a ns hlen hS
variable [aZ]
def uN (s:aa):Int->Option Int
 |0=>some s.1
 |1=>some s.2.1
 |2=>some s.2.2
 |_=>none
theorem DU {s:aa}{j z:Int}(h:uN s j=some z):atI (kB s) j=some (.int z):=by
 unfold uN at h
 split at h
 ·cases h;rfl
 ·cases h;rfl
 ·cases h;rfl
 ·cases h
def nu (s:aa)(z:Int):Int->Option aa
 |0=>some (z,s.2.1,s.2.2)
 |1=>some (s.1,z,s.2.2)
 |2=>some (s.1,s.2.1,z)
 |_=>none
theorem DV {s s':aa}{j z:Int}(h:nu s z j=some s'):∃n,ixN (kB s).length j=some n/\(kB s).set n (.int z)=kB s':=by
 unfold nu at h
 split at h
 ·cases h;exact⟨0,rfl,rfl⟩
 ·cases h;exact⟨1,rfl,rfl⟩
 ·cases h;exact⟨2,rfl,rfl⟩
 ·cases h
def Ct (i:Nat)(j:Int):SE where
 t:=λK=>tOp (rIx K) (tVar i) (tC (.int j))
 ev:=λρ s=>match ρ[i]? with
  |some .bf=>(uN s j).map λz=>((.int z,true),s)
  |_=>none
 ok:=by
  intro K sk F H σ ρ ak s vl s' Q p h q
  dsimp only at h
  split at h
  ·rename_i e
   obtain⟨z,h1,h2⟩:=Kap.mp h
   cases h2
   obtain⟨x,fp,e1,e2,_,a,rfl,e4⟩:=p.slots.get e
   obtain⟨k1,k2⟩:=p.bh a e4
   exact⟨.ref a,e1,.inl ⟨a,_,j,_,rfl,rfl,.inl (.inl k1),DU h1,q _ F H [] (.refl p.sub) p.bh (.int _) .nil⟩⟩
  ·cases h
def Qw (i:Nat)(j:Int)(e:SE):SS where
 t:=λK=>tAsg (e.t K) (gSub (tVar i) (tC (.int j)) rSetL)
 ev:=λρ s=>(e.ev ρ s).bind λx=>match x.1.1,ρ[i]? with
  |.int z,some .bf=>(nu x.2 z j).map λs'=>.nx ρ s'
  |_,_=>none
 ok:=by
  intro K sk F0 H0 F H σ ρ ak s out D w h q
  obtain⟨⟨⟨x,fl⟩,s1⟩,h1,h2⟩:=aL h
  dsimp only at h2
  split at h2
  ·rename_i z cz
   obtain⟨s',h3,h4⟩:=Kap.mp h2
   cases h4
   refine e.ok K w.pre h1 λv F1 H1 as st k r f=>?_
   obtain⟨x,fp,e1,e2,_,a,rfl,e4⟩:=w.slots.get cz
   have hv:=r.int_inv
   subst hv
   obtain⟨k1,k2⟩:=k a e4
   obtain⟨n,p1,p2⟩:=DV h3
   refine⟨.ref a,e1,a,_,j,n,rfl,rfl,k1,p1,?_⟩
   rw [p2]
   have w1:=w.next st k
   have na:a∉ak.flatten:=λm=>(w.bT a m).2.2 e4
   have dmm:∀b,H1 b≠none->L2.upd H1 a (.lst (kB s')) b≠none:=λb hb=>by
    by_cases zz:b=a
    ·rw [zz,upd_same];exact nofun
    ·rw [upd_ne zz];exact hb
   refine q F1 _ σ ak st.sub ⟨⟨w1.st.sub,λb u e=>?_,λb u hb e hs=>?_,λb hb=>dmm b (w1.st.dm b hb),w1.st.new⟩,⟨λb e=>?_,Uj k.tab k1⟩,w1.slots.q7 na,w1.dX,λb m=>⟨(w1.bT b m).1,dmm b (w1.bT b m).2.1,(w1.bT b m).2.2⟩⟩
   ·rw [upd_ne (λzz=>by rw [zz,k2] at e;cases e)];exact w1.st.sub' b u e
   ·rw [upd_ne (λzz=>hb (by rw [zz];exact e4))];exact w1.st.fr b u hb e
   ·rw [e4] at e
    have ee:a=b:=Option.some.inj e
    subst ee
    exact⟨upd_same,k2⟩
  ·cases h2
/-- isinstance(x,list) -/
def iqk (e:SE):SE where
 t:=λK=>tCB (rIsi K) (tCons (e.t K) (tCons (tC (.ty "list")) tNil))
 ev:=λρ s=>(e.ev ρ s).bind λx=>match x.1.1 with
  |.dict _=>none
  |d=>some ((.bool (hxc d),true),x.2)
 ok:=by
  intro K sk F H σ ρ ak s vl s' Q p h q
  obtain⟨⟨⟨x,fl⟩,s1⟩,h1,h2⟩:=aL h
  dsimp only at h2
  refine e.ok K p h1 λv F1 H1 as st k r f=>?_
  cases r with
  |non=>
   cases h2
   exact⟨_,.ty "list",.type "NoneType",.type "list",false,rfl,.ty _,.base .non,kit_ty (by decide +kernel),q _ F1 H1 [] st k (.bl _) .nil⟩
  |bl b=>
   cases h2
   exact⟨_,.ty "list",.type "bool",.type "list",false,rfl,.ty _,.base (.bl b),kit_ty (by decide +kernel),q _ F1 H1 [] st k (.bl _) .nil⟩
  |int i=>
   cases h2
   exact⟨_,.ty "list",.type "int",.type "list",false,rfl,.ty _,.base (.int i),kit_ty (by decide +kernel),q _ F1 H1 [] st k (.bl _) .nil⟩
  |str y=>
   cases h2
   exact⟨_,.ty "list",.type "str",.type "list",false,rfl,.ty _,.base (.str y),kit_ty (by decide +kernel),q _ F1 H1 [] st k (.bl _) .nil⟩
  |lst ha hr=>
   cases h2
   exact⟨_,.ty "list",.type "list",.type "list",true,rfl,.ty _,.base (.lst (st.sub' _ _ ha)),kit_ty (by decide +kernel),q _ F1 H1 [] st k (.bl _) .nil⟩
  |tup ha hr=>
   cases h2
   exact⟨_,.ty "list",.type "tuple",.type "list",false,rfl,.ty _,.base (.tup (st.sub' _ _ ha)),kit_ty (by decide +kernel),q _ F1 H1 [] st k (.bl _) .nil⟩
  |tupP ha hc hr=>cases h2
  |qt ha hc hr=>cases h2
  |sS ha hc hk hr=>cases h2
  |sM ha hc hr=>cases h2
end Pu
namespace Pu
variable [aZ]
open PySem L2
section
variable {ρ:List Slot}{s:aa}{a b c:SE}{i j k:Nat}
@[simp] theorem hjj:(hjl i).ev ρ s=(match ρ[i]? with|some (.dat d)=>some ((d,false),s)|some (.own d)=>some ((d,false),s)|_=>none):=rfl
@[simp] theorem Cz {n:Int}:(SE.ab n).ev ρ s=some ((.int n,true),s):=rfl
@[simp] theorem E9 {n:Bool}:(SE.bool n).ev ρ s=some ((.bool n,true),s):=rfl
@[simp] theorem Dc:SE.non.ev ρ s=some ((.none,true),s):=rfl
@[simp] theorem UG:SA.nil.ev ρ s=some ([],s):=rfl
@[simp] theorem IT {r:SA}:(SA.cons a r).ev ρ s=(a.ev ρ s).bind λx=>(r.ev ρ x.2).bind λy=>some (x.1::y.1,y.2):=rfl
@[simp] theorem hxi {r:SA}:(SE.tup r).ev ρ s=(r.ev ρ s).bind λx=>if x.1.length<=100000 then some ((.tuple (x.1.map (·.1)),x.1.all λz=>z.2 ||aM z.1),x.2) else none:=rfl
@[simp] theorem CV {r:SA}:(SE.lst r).ev ρ s=(r.ev ρ s).bind λx=>if x.1.length<=100000 then some ((.list (x.1.map (·.1)),x.1.all λz=>z.2 ||aM z.1),x.2) else none:=rfl
@[simp] theorem Pq {f:Int->Int->Option PyData}{x y:Int}:fF f (.int x) (.int y)=(f x y).map λz=>(z,true):=rfl
@[simp] theorem JU:(fL a b).ev ρ s=(a.ev ρ s).bind λx=>(b.ev ρ x.2).bind λy=>(fF (λi j=>some (.int (i+j))) x.1.1 y.1.1).bind λz=>some (z,y.2):=rfl
@[simp] theorem Mj:(AR a b).ev ρ s=(a.ev ρ s).bind λx=>(b.ev ρ x.2).bind λy=>(fF (λi j=>some (.int (i-j))) x.1.1 y.1.1).bind λz=>some (z,y.2):=rfl
@[simp] theorem LC:(xU a b).ev ρ s=(a.ev ρ s).bind λx=>(b.ev ρ x.2).bind λy=>(fF (λi j=>if j_ i j=true then some (.int (i*j)) else none) x.1.1 y.1.1).bind λz=>some (z,y.2):=rfl
@[simp] theorem FL:(vp a b).ev ρ s=(a.ev ρ s).bind λx=>(b.ev ρ x.2).bind λy=>(fF (λi j=>if oF i j=true then some (.int (i / j)) else none) x.1.1 y.1.1).bind λz=>some (z,y.2):=rfl
@[simp] theorem LB:(o6 a b).ev ρ s=(a.ev ρ s).bind λx=>(b.ev ρ x.2).bind λy=>(fF (λi j=>if decide (0<j)=true then some (.int (i % j)) else none) x.1.1 y.1.1).bind λz=>some (z,y.2):=rfl
@[simp] theorem LQ:(EI a b).ev ρ s=(a.ev ρ s).bind λx=>(b.ev ρ x.2).bind λy=>(fF (λi j=>if gb i j=true then some (.int (i ^ j.toNat)) else none) x.1.1 y.1.1).bind λz=>some (z,y.2):=rfl
@[simp] theorem QD:(qw a b).ev ρ s=(a.ev ρ s).bind λx=>(b.ev ρ x.2).bind λy=>(fF (λi j=>some (.bool (decide (i<j)))) x.1.1 y.1.1).bind λz=>some (z,y.2):=rfl
@[simp] theorem QA:(SE.le a b).ev ρ s=(a.ev ρ s).bind λx=>(b.ev ρ x.2).bind λy=>(fF (λi j=>some (.bool (decide (i<=j)))) x.1.1 y.1.1).bind λz=>some (z,y.2):=rfl
@[simp] theorem PU:(GD a b).ev ρ s=(a.ev ρ s).bind λx=>(b.ev ρ x.2).bind λy=>(fF (λi j=>some (.bool (decide (j<i)))) x.1.1 y.1.1).bind λz=>some (z,y.2):=rfl
@[simp] theorem PD:(SE.ge a b).ev ρ s=(a.ev ρ s).bind λx=>(b.ev ρ x.2).bind λy=>(fF (λi j=>some (.bool (decide (j<=i)))) x.1.1 y.1.1).bind λz=>some (z,y.2):=rfl
@[simp] theorem C4:(NW a).ev ρ s=(a.ev ρ s).bind λx=>(match x.1.1 with|.int i=>some (.int (-i),true)|_=>none:Option Vl).bind λz=>some (z,x.2):=rfl
@[simp] theorem O9:(fX a b).ev ρ s=(a.ev ρ s).bind λx=>(b.ev ρ x.2).bind λy=>((Ew x.1.1 y.1.1).map λb=>(.bool b,true)).bind λz=>some (z,y.2):=rfl
@[simp] theorem QF:(vy a b).ev ρ s=(a.ev ρ s).bind λx=>(b.ev ρ x.2).bind λy=>((Ew x.1.1 y.1.1).map λb=>(.bool (!b),true)).bind λz=>some (z,y.2):=rfl
@[simp] theorem Ll:(SE.Lj a b).ev ρ s=(a.ev ρ s).bind λx=>(b.ev ρ x.2).bind λy=>(match y.1.1 with|.none=>some (.bool (AG x.1.1),true)|_=>none:Option Vl).bind λz=>some (z,y.2):=rfl
@[simp] theorem G0:(SE.aqT a b).ev ρ s=(a.ev ρ s).bind λx=>(b.ev ρ x.2).bind λy=>(match y.1.1 with|.none=>some (.bool (!AG x.1.1),true)|_=>none:Option Vl).bind λz=>some (z,y.2):=rfl
@[simp] theorem Qs:(cW a b).ev ρ s=(a.ev ρ s).bind λx=>(b.ev ρ x.2).bind λy=>(Va x.1.1 y.1.1).bind λz=>some (z,y.2):=rfl
@[simp] theorem LN:SO.no.ev ρ s=some (none,s):=rfl
@[simp] theorem Di:(SO.at a).ev ρ s=(a.ev ρ s).bind λx=>match x.1.1 with|.int i=>some (some i,x.2)|_=>none:=rfl
@[simp] theorem DZ {lo hi:SO}:(EK a lo hi).ev ρ s=(a.ev ρ s).bind λx=>(lo.ev ρ x.2).bind λy=>(hi.ev ρ y.2).bind λw=>(Vk x.1.1 y.1 w.1).bind λz=>some (z,w.2):=rfl
@[simp] theorem DY {lo hi:SO}:(SE.slT a lo hi).ev ρ s=(a.ev ρ s).bind λx=>(lo.ev ρ x.2).bind λy=>(hi.ev ρ y.2).bind λw=>(HD x.1.1 y.1 w.1).bind λz=>some (z,w.2):=rfl
@[simp] theorem Iz {r:Frag->List V->Hp->VK->Prop}{f:List PyData->Option Vl}{hr:Rn r f}{x:SA}:(rA r f hr x).ev ρ s=(x.ev ρ s).bind λx=>(f (x.1.map (·.1))).bind λz=>some (z,x.2):=rfl
@[simp] theorem Ly:(gR a).ev ρ s=((SA.cons a .nil).ev ρ s).bind λx=>(GJ (x.1.map (·.1))).bind λz=>some (z,x.2):=rfl
@[simp] theorem Kd:(AQ a b).ev ρ s=(a.ev ρ s).bind λx=>(b.ev ρ x.2).bind λy=>(Fl x.1.1 y.1.1).bind λz=>some (z,y.2):=rfl
@[simp] theorem Fo:(SE.Kc a b).ev ρ s=(a.ev ρ s).bind λx=>(b.ev ρ x.2).bind λy=>(BA x.1.1 y.1.1).bind λz=>some (z,y.2):=rfl
@[simp] theorem LY:(SE.rep a b).ev ρ s=(a.ev ρ s).bind λx=>(b.ev ρ x.2).bind λy=>(LX x.1.1 y.1.1).bind λz=>some (z,y.2):=rfl
@[simp] theorem Lh {neg:Bool}:(Ji neg a b).ev ρ s=(a.ev ρ s).bind λx=>(b.ev ρ x.2).bind λy=>(inF neg x.1.1 y.1.1).bind λz=>some (z,y.2):=rfl
@[simp] theorem JS:(SE.abs a).ev ρ s=((SA.cons a .nil).ev ρ s).bind λx=>(match (x.1.map (·.1):List PyData) with|[.int i]=>some (.int (if i<0 then -i else i),true)|_=>none:Option Vl).bind λz=>some (z,x.2):=rfl
@[simp] theorem GQ:(Cr a b).ev ρ s=((SA.cons a (.cons b .nil)).ev ρ s).bind λx=>(match (x.1.map (·.1):List PyData) with|[.int i,.int j]=>some (.int (max i j),true)|_=>none:Option Vl).bind λz=>some (z,x.2):=rfl
@[simp] theorem GS:(SE.ar a b).ev ρ s=((SA.cons a (.cons b .nil)).ev ρ s).bind λx=>(match (x.1.map (·.1):List PyData) with|[.int i,.int j]=>some (.int (min i j),true)|_=>none:Option Vl).bind λz=>some (z,x.2):=rfl
@[simp] theorem D7:(oZ a).ev ρ s=((SA.cons a .nil).ev ρ s).bind λx=>(xR (x.1.map (·.1))).bind λz=>some (z,x.2):=rfl
@[simp] theorem Ml:(SE.sum a).ev ρ s=((SA.cons a .nil).ev ρ s).bind λx=>(EA (λns=>some (.int ns.sum,true)) (x.1.map (·.1))).bind λz=>some (z,x.2):=rfl
@[simp] theorem GR:(SE.aqO a).ev ρ s=((SA.cons a .nil).ev ρ s).bind λx=>(EA (λns=>if ns=[] then none else some (.int (qH ns),true)) (x.1.map (·.1))).bind λz=>some (z,x.2):=rfl
@[simp] theorem GU:(SE.C0 a).ev ρ s=((SA.cons a .nil).ev ρ s).bind λx=>(EA (λns=>if ns=[] then none else some (.int (jy ns),true)) (x.1.map (·.1))).bind λz=>some (z,x.2):=rfl
@[simp] theorem JX:(SE.all a).ev ρ s=((SA.cons a .nil).ev ρ s).bind λx=>(Nv (λns=>some (.bool (ns.all id),true)) (x.1.map (·.1))).bind λz=>some (z,x.2):=rfl
@[simp] theorem JY:(SE.any a).ev ρ s=((SA.cons a .nil).ev ρ s).bind λx=>(Nv (λns=>some (.bool (ns.any id),true)) (x.1.map (·.1))).bind λz=>some (z,x.2):=rfl
@[simp] theorem Ae:(NQ a).ev ρ s=((SA.cons a .nil).ev ρ s).bind λx=>(EA (λns=>some (.list ((sortI ns).map .int),true)) (x.1.map (·.1))).bind λz=>some (z,x.2):=rfl
@[simp] theorem zN:(SE.ap a).ev ρ s=((SA.cons a .nil).ev ρ s).bind λx=>(CP (x.1.map (·.1))).bind λz=>some (z,x.2):=rfl
@[simp] theorem zf:(SE.am a b).ev ρ s=((SA.cons a (.cons b .nil)).ev ρ s).bind λx=>(Wk (x.1.map (·.1))).bind λz=>some (z,x.2):=rfl
@[simp] theorem hqc:(NJ a b).ev ρ s=(a.ev ρ s).bind λx=>match x.1.1 with|.bool true=>b.ev ρ x.2|.bool false=>some ((.bool false,true),x.2)|_=>none:=rfl
@[simp] theorem LP:(SE.orV a b).ev ρ s=(a.ev ρ s).bind λx=>match x.1.1 with|.bool false=>b.ev ρ x.2|.bool true=>some ((.bool true,true),x.2)|_=>none:=rfl
@[simp] theorem G1:(SE.aqU a).ev ρ s=(a.ev ρ s).bind λx=>match x.1.1 with|.bool b=>some ((.bool (!b),true),x.2)|_=>none:=rfl
@[simp] theorem Ef:(ST.ab a).ev ρ s=(a.ev ρ s).bind λx=>match x.1.1 with|.bool b=>some (b,x.2)|_=>none:=rfl
@[simp] theorem UU:cT.ev ρ s=some (true,s):=rfl
@[simp] theorem hjd {x y:ST}:(EJ x y).ev ρ s=(x.ev ρ s).bind λz=>if z.1=true then y.ev ρ z.2 else some (false,z.2):=rfl
@[simp] theorem hjh {x y:ST}:(CF x y).ev ρ s=(x.ev ρ s).bind λz=>if z.1=true then some (true,z.2) else y.ev ρ z.2:=rfl
@[simp] theorem yu {x:ST}:(ST.ac x).ev ρ s=(x.ev ρ s).bind λz=>some (!z.1,z.2):=rfl
@[simp] theorem P_ {x:ST}:(CD x a b).ev ρ s=(x.ev ρ s).bind λz=>if z.1=true then a.ev ρ z.2 else b.ev ρ z.2:=rfl
@[simp] theorem Hr:SR.nil.ev ρ s=some ([],s):=rfl
@[simp] theorem uG {r:SR}:(SR.cons a r).ev ρ s=(a.ev ρ s).bind λx=>(r.ev ρ x.2).bind λy=>some (.dat x.1.1::y.1,y.2):=rfl
@[simp] theorem DK {r:SR}:(dM i r).ev ρ s=match ρ[i]? with|some .bf=>(r.ev ρ s).bind λy=>some (.bf::y.1,y.2)|_=>none:=rfl
@[simp] theorem xq {m:Fn}{r:SR}:(SE.ac m r).ev ρ s=(r.ev ρ s).bind λx=>m x.1 x.2:=rfl
@[simp] theorem rZ {m:Fn}{gS:List Slot->List Slot}{gV:List V->List V}{hg}{r:SR}:(U9 m gS gV hg r).ev ρ s=(r.ev ρ s).bind λx=>m (gS x.1) x.2:=rfl
@[simp] theorem tU:(SI.list a).ev ρ s=(a.ev ρ s).bind λx=>match x.1.1 with|.list ds=>some (ds,x.2)|_=>none:=rfl
@[simp] theorem mL:(nW a).ev ρ s=(a.ev ρ s).bind λx=>match x.1.1 with|.int j=>if -1000000<=j/\j<=1000000 then some (qi 0 j.toNat,x.2) else none|_=>none:=rfl
@[simp] theorem mO:(izl a b).ev ρ s=(a.ev ρ s).bind λx=>(b.ev ρ x.2).bind λy=>match x.1.1,y.1.1 with|.int i,.int j=>if (-1000000<=i/\i<=1000000)/\-1000000<=j/\j<=1000000 then some (qi i (j-i).toNat,y.2) else none|_,_=>none:=rfl
@[simp] theorem xV:(SI.zip a b).ev ρ s=(a.ev ρ s).bind λx=>(b.ev ρ x.2).bind λy=>match x.1.1,y.1.1 with|.list ds,.list es=>some (fg ds es,y.2)|_,_=>none:=rfl
@[simp] theorem tT:(Qv a).ev ρ s=(a.ev ρ s).bind λx=>match x.1.1 with|.list ds=>some (gO 0 ds,x.2)|_=>none:=rfl
@[simp] theorem Ce {d:PyData}:(aT i).ev d ρ=some (ρ.set i (.dat d)):=rfl
@[simp] theorem Cg:c9.nil.ev [] ρ=some ρ:=rfl
@[simp] theorem zw {g:SG}{r:c9}{d:PyData}{ds:List PyData}:(c9.cons g r).ev (d::ds) ρ=(g.ev d ρ).bind λaB=>r.ev ds aB:=rfl
@[simp] theorem Gf {g:c9}{ds:List PyData}:(SG.tup g).ev (.tuple ds) ρ=if ds.length=g.n then g.ev ds ρ else none:=rfl
@[simp] theorem Ge:c9.nil.n=0:=rfl
@[simp] theorem Cf {g:SG}{r:c9}:(c9.cons g r).n=r.n+1:=rfl
@[simp] theorem xX {it:SI}{g:SG}{tt:ST}{vs:List Nat}{hv:∀i∈g.ix,i∈vs}:(hxs it g tt a vs hv).ev ρ s=(it.ev ρ s).bind λx=>(cy g.ev tt.ev a.ev (bq ρ vs) x.1 x.2).bind λy=>if y.1.length<=100000 then some ((.list (y.1.map (·.1)),y.1.all fN),y.2) else none:=rfl
@[simp] theorem J2 {it:SI}{g:SG}{tt:ST}{vs:List Nat}{hv:∀i∈g.ix,i∈vs}:(SB.lc it g tt a vs hv).ev ρ s=(it.ev ρ s).bind λx=>(cy g.ev tt.ev a.ev (bq ρ vs) x.1 x.2).bind λy=>if y.1.length<=100000 then some ((y.1.map (·.1),y.1.all fN),y.2) else none:=rfl
@[simp] theorem hxd:(SB.own a).ev ρ s=(a.ev ρ s).bind λx=>match x.1 with|(.list ds,true)=>some ((ds,true),x.2)|_=>none:=rfl
@[simp] theorem yT:(SE.al i a).ev ρ s=match ρ[i]? with|some (.aC ds _)=>(a.ev (ρ.set i (.dat (.list ds))) s).bind λx=>if fN x.1=true then some x else none|_=>none:=rfl
@[simp] theorem nB {x:ST}:(Qk i x).ev ρ s=match ρ[i]? with|some (.aC ds _)=>x.ev (ρ.set i (.dat (.list ds))) s|_=>none:=rfl
@[simp] theorem UD {n:Int}:(Ct i n).ev ρ s=match ρ[i]? with|some .bf=>(uN s n).map λz=>((.int z,true),s)|_=>none:=rfl
@[simp] theorem xY:(SE.CO i).ev ρ s=match ρ[i]? with|some (.aC ds _)=>some ((.int ds.length,true),s)|_=>none:=rfl
@[simp] theorem CB:(SE.Qo i a).ev ρ s=match ρ[i]? with|some (.aC ds _)=>((a.ev ρ s).bind λx=>match x.1.1 with|.int k=>(atI ds k).map λd=>((d,false),x.2)|_=>none)|_=>none:=rfl
@[simp] theorem pI:(izm i).ev ρ s=match ρ[i]? with|some (.aC ds _)=>if SeqAt.shaped (.list ds)=true then some ((.bool (!ds.isEmpty),true),s) else none|_=>none:=rfl
@[simp] theorem BJ:(SE.OG i a).ev ρ s=match ρ[i]? with|some (.cI f)=>((a.ev ρ s).bind λy=>match keyOf y.1.1 with|some j=>(cD f j).map λd=>((d,false),y.2)|none=>none)|_=>none:=rfl
@[simp] theorem sL:(Vd i a b).ev ρ s=match ρ[i]? with|some (.cI f)=>((a.ev ρ s).bind λy=>match keyOf y.1.1 with|some j=>((b.ev ρ y.2).bind λz=>some (((cD f j).getD z.1.1,false),z.2))|none=>none)|_=>none:=rfl
@[simp] theorem Hi:(Je a).ev ρ s=((SA.cons a .nil).ev ρ s).bind λx=>(DF (x.1.map (·.1))).bind λz=>some (z,x.2):=rfl
@[simp] theorem LH:(SE.GV a b).ev ρ s=(a.ev ρ s).bind λx=>(b.ev ρ x.2).bind λy=>(match x.1.1,y.1.1 with|.str x,.str y=>some (.bool (!decide (x=y)),true)|_,_=>none:Option Vl).bind λz=>some (z,y.2):=rfl
@[simp] theorem Kz:(SE.eqS a b).ev ρ s=(a.ev ρ s).bind λx=>(b.ev ρ x.2).bind λy=>(match x.1.1,y.1.1 with|.str x,.str y=>some (.bool (decide (x=y)),true)|_,_=>none:Option Vl).bind λz=>some (z,y.2):=rfl
@[simp] theorem DJ:(SE.rev a).ev ρ s=(a.ev ρ s).bind λx=>match x.1.1 with|.list ds=>some ((.list ds.reverse,fM ds.reverse),x.2)|_=>none:=rfl
@[simp] theorem o_:(iqk a).ev ρ s=(a.ev ρ s).bind λx=>match x.1.1 with|.dict _=>none|d=>some ((.bool (hxc d),true),x.2):=rfl
variable {x y:SS}
@[simp] theorem GY:SS.ac.ev ρ s=some (.nx ρ s):=rfl
@[simp] theorem C5:Qx.ev ρ s=none:=rfl
@[simp] theorem Jc:(SS.ab x y).ev ρ s=(x.ev ρ s).bind λo=>Ab y.ev o:=rfl
@[simp] theorem HA {f:AV}:Ab f (.nx ρ s)=f ρ s:=rfl
@[simp] theorem DP {f:AV}{v:Vl}:Ab f (.ret v s)=some (.ret v s):=rfl
@[simp] theorem DM {f:AV}:Ab f (.brk ρ s)=some (.brk ρ s):=rfl
@[simp] theorem DN {f:AV}:Ab f (.cnt ρ s)=some (.cnt ρ s):=rfl
@[simp] theorem xy:(Jh a).ev ρ s=(a.ev ρ s).bind λx=>some (.nx ρ x.2):=rfl
@[simp] theorem DH:(SS.ag a).ev ρ s=(a.ev ρ s).bind λx=>some (.ret x.1 x.2):=rfl
@[simp] theorem Hj:SS.aqX.ev ρ s=some (.ret (.none,true) s):=rfl
@[simp] theorem FY {t:ST}:(eM t x y).ev ρ s=(t.ev ρ s).bind λz=>if z.1=true then x.ev ρ z.2 else y.ev ρ z.2:=rfl
@[simp] theorem Mf:(SS.set i a).ev ρ s=(a.ev ρ s).bind λx=>some (.nx (ρ.set i (Ez x.1)) x.2):=rfl
@[simp] theorem uL {e:SB}:(Gv i e).ev ρ s=(e.ev ρ s).bind λx=>some (.nx (ρ.set i (.aC x.1.1 x.1.2)) x.2):=rfl
@[simp] theorem wX {g:SG}:(wg g a).ev ρ s=(a.ev ρ s).bind λx=>(g.ev x.1.1 ρ).bind λaB=>some (.nx aB x.2):=rfl
@[simp] theorem Dl {p:SP}{hp:p.ts=[i,j]}:(hxx i j p hp).ev ρ s=(p.ev ρ ρ s).bind λx=>some (.nx x.1 x.2):=rfl
@[simp] theorem yh {p:SP}{hp:p.ts=[i,j,k]}:(U' i j k p hp).ev ρ s=(p.ev ρ ρ s).bind λx=>some (.nx x.1 x.2):=rfl
@[simp] theorem G9 {cN:List Slot}:SP.nil.ev ρ cN s=some (cN,s):=rfl
@[simp] theorem Dm {cN:List Slot}{r:SP}:(SP.cons i a r).ev ρ cN s=(a.ev ρ s).bind λx=>r.ev ρ (cN.set i (Ez x.1)) x.2:=rfl
@[simp] theorem Ds {cN:List Slot}{r:SP}:(Gx i r).ev ρ cN s=r.ev ρ (cN.set i (.aC [] true)) s:=rfl
@[simp] theorem Dt {cN:List Slot}{r:SP}:(Vc i r).ev ρ cN s=r.ev ρ (cN.set i (.cI [])) s:=rfl
@[simp] theorem GW:(SS.am i).ev ρ s=some (.nx (ρ.set i (.cI [])) s):=rfl
@[simp] theorem xw:(ixs i a b).ev ρ s=(b.ev ρ s).bind λx=>match ρ[i]? with|some (.cI f)=>((a.ev ρ x.2).bind λy=>match keyOf y.1.1 with|some j=>if f.length<100000 then some (.nx (ρ.set i (.cI ((j,x.1.1)::f))) y.2) else none|none=>none)|_=>none:=rfl
@[simp] theorem Bh {f:Int->Int->Int}:(SS.al i a f).ev ρ s=match ρ[i]? with
  |some (.dat (.int n))=>((a.ev ρ s).bind λx=>match x.1.1 with|.int b=>some (.nx (ρ.set i (.dat (.int (f n b)))) x.2)|_=>none)
  |some (.own (.int n))=>((a.ev ρ s).bind λx=>match x.1.1 with|.int b=>some (.nx (ρ.set i (.dat (.int (f n b)))) x.2)|_=>none)
  |_=>none:=rfl
@[simp] theorem gzc:(Cp i a).ev ρ s=match ρ[i]? with|some (.aC ds o)=>(a.ev ρ s).bind λx=>if ds.length<100000 then some (.nx (ρ.set i (.aC (ds++[x.1.1]) (o && fN x.1))) x.2) else none|_=>none:=rfl
@[simp] theorem zj:(SS.extend i a).ev ρ s=match ρ[i]? with|some (.aC ds o)=>((a.ev ρ s).bind λx=>match x.1.1 with|.list es=>if ds.length+es.length<=100000 then some (.nx (ρ.set i (.aC (ds++es) (o && fM es))) x.2) else none|_=>none)|_=>none:=rfl
@[simp] theorem BD:(SS.clear i).ev ρ s=match ρ[i]? with|some (.aC ds o)=>some (.nx (ρ.set i (.aC [] o)) s)|_=>none:=rfl
@[simp] theorem KN:(SS.frz i x).ev ρ s=match ρ[i]? with|some (.aC ds o)=>x.ev (ρ.set i (if o=true then .own (.list ds) else .dat (.list ds))) s|_=>none:=rfl
@[simp] theorem P0 {it:SI}{g:SG}:(iO it g x).ev ρ s=(it.ev ρ s).bind λz=>forL g.ev x.ev z.1 ρ z.2:=rfl
@[simp] theorem pX {n:Nat}{t:ST}:(ED n t x).ev ρ s=Ey t.ev x.ev n ρ s:=rfl
@[simp] theorem Z4 {n:Int}:(Qw i n a).ev ρ s=(a.ev ρ s).bind λx=>match x.1.1,ρ[i]? with|.int z,some .bf=>(nu x.2 z n).map λs'=>.nx ρ s'|_,_=>none:=rfl
@[simp] theorem yj {e:RE}:(AM e).ev ρ s=(e.ev ρ s).bind λx=>some (.ret x.1 x.2.2):=rfl
@[simp] theorem QL:(RE.e a).ev ρ s=(a.ev ρ s).bind λx=>some (x.1,ρ,x.2):=rfl
@[simp] theorem Jq:(RE.mv i).ev ρ s=match ρ[i]? with|some (.dat d)=>some ((d,false),ρ,s)|some (.own d)=>some ((d,true),ρ.set i (.dat d),s)|some (.aC ds o)=>some ((.list ds,o),ρ.set i (.dat (.list ds)),s)|_=>none:=rfl
@[simp] theorem DA:RA.nil.ev ρ s=some ([],ρ,s):=rfl
@[simp] theorem z9 {e:RE}{r:RA}:(RA.cons e r).ev ρ s=(e.ev ρ s).bind λx=>(r.ev x.2.1 x.2.2).bind λy=>some (x.1::y.1,y.2.1,y.2.2):=rfl
@[simp] theorem Hy {r:RA}:(RE.tup r).ev ρ s=(r.ev ρ s).bind λx=>if x.1.length<=100000 then some ((.tuple (x.1.map (·.1)),x.1.all fN),x.2.1,x.2.2) else none:=rfl
@[simp] theorem hxb {np nl:Nat}{args:List Slot}:fnOf np nl x args s=if args.length=np then match x.ev (args++Kak nl .emp) s with|some (.ret vl s')=>some (vl,s')|some (.nx _ s')=>some ((.none,true),s')|_=>none else none:=rfl
end
@[simp] theorem oU (ns:List Int):(ns.map PyData.int).all cH=true:=by simp [cH]
@[simp] theorem Y_:∀ns:List Int,fM (ns.map PyData.int)=true
 |[]=>rfl
 |n::ns=>by simp [fM,aM,Y_ ns]
theorem any_ints (ns:List Int)(d:Int):((ns.map PyData.int).any λe=>PyData.eqv e (.int d))=decide (d∈ns):=by
 induction ns with
 |nil=>simp
 |cons n ns ih=>
  simp only [Kai,Kcd,ih,PyData.eqv,Kah]
  by_cases h:n=d
  ·simp [h]
  ·have h':¬d=n:=λz=>h z.symm
   simp [h,h']
@[simp] theorem xQ (ns:List Int)(d:Int):inF false (.int d) (.list (ns.map .int))=some (.bool (decide (d∈ns)),true):=by
 show (if cH (.int d)=true/\(ns.map PyData.int).all cH=true then some (PyData.bool ((ns.map PyData.int).any λe=>PyData.eqv e (.int d)),true) else none)=_
 rw [if_pos ⟨rfl,oU ns⟩,any_ints]
@[simp] theorem mX (ns:List Int)(d:Int):inF true (.int d) (.list (ns.map .int))=some (.bool (!decide (d∈ns)),true):=by
 show (if cH (.int d)=true/\(ns.map PyData.int).all cH=true then some (PyData.bool (!((ns.map PyData.int).any λe=>PyData.eqv e (.int d))),true) else none)=_
 rw [if_pos ⟨rfl,oU ns⟩,any_ints]
@[simp] theorem FD (i j:Int):Ew (.int i) (.int j)=some (decide (i=j)):=rfl
@[simp] theorem BU (i j:Bool):Ew (.bool i) (.bool j)=some (i == j):=rfl
theorem YY:∀(n:Nat) (lo:Int),qi lo n=(KaC n).map λ(k:Nat)=>PyData.int (lo+(k:Int))
 |0,_=>rfl
 |n+1,lo=>by
  rw [KbH,Kai,KaL]
  show PyData.int lo::qi (lo+1) n=_
  rw [YY n]
  refine Kdd.mpr ⟨by simp,Kax λk _=>?_⟩
  show PyData.int (lo+1+(k:Int))=PyData.int (lo+((k+1:Nat):Int))
  congr 1
  omega
end Pu
set_option maxHeartbeats 1000000
namespace Pu
open PySem L2
/-- data of this depth and this many signs at most,ints short,no strings -/
structure Nd (k c:Nat)(d:PyData):Prop where
 lay:d.canLay0=true
 dep:d.depth<=k
 sm:small d=true
 co:cost d<=c
theorem Nd.mono {k c k' c':Nat}{d:PyData}(h:Nd k c d)(hk:k<=k')(hc:c<=c'):Nd k' c' d:=⟨h.lay,KaB h.dep hk,h.sm,KaB h.co hc⟩
theorem Nd.int {i:Int}(h0:-10 ^ 59<=i)(h1:i<=10 ^ 59):Nd 0 61 (.int i):=⟨rfl,Kat _,by simp only [small];exact decide_eq_true (by omega),Kat _⟩
theorem Nd.bool (b:Bool):Nd 0 61 (.bool b):=⟨rfl,Kat _,rfl,Kat _⟩
theorem Nd.JW {k c:Nat}:∀{xs:List PyData},(∀x∈xs,Nd k c x)->PyData.canLayAll0 xs=true/\PyData.depthAll xs<=k/\AE xs=true/\eqc xs<=xs.length*(c+2)
 |[],_=>⟨rfl,KaV _,rfl,KaV _⟩
 |x::xs,h=>by
  obtain⟨a1,a2,a3,a4⟩:=Nd.JW λy hy=>h y (Kab _ hy)
  obtain⟨b1,b2,b3,b4⟩:=h x Kaa
  refine⟨by simp [PyData.canLayAll0,a1,b1],by simp only [PyData.depthAll];omega,by simp [AE,a3,b3],?_⟩
  simp only [eqc,Kad,Nat.add_mul]
  omega
theorem Nd.list {k c n:Nat}{xs:List PyData}(h:∀x∈xs,Nd k c x)(hn:xs.length<=n):Nd (k+1) (n*(c+2)+3) (.list xs):=by
 obtain⟨a1,a2,a3,a4⟩:=Nd.JW h
 have:=Kcc (c+2) hn
 exact⟨by simpa [PyData.canLay0] using a1,by simp only [PyData.depth];omega,by simpa [small] using a3,by simp only [cost];omega⟩
theorem Nd.tuple {k c n:Nat}{xs:List PyData}(h:∀x∈xs,Nd k c x)(hn:xs.length<=n):Nd (k+1) (n*(c+2)+3) (.tuple xs):=by
 obtain⟨a1,a2,a3,a4⟩:=Nd.JW h
 have:=Kcc (c+2) hn
 exact⟨by simpa [PyData.canLay0] using a1,by simp only [PyData.depth];omega,by simpa [small] using a3,by simp only [cost];omega⟩
theorem Nd.ints {ns:List Int}{n:Nat}(h:∀x∈ns,-10 ^ 59<=x/\x<=10 ^ 59)(hn:ns.length<=n):Nd 1 (n*63+3) (.list (ns.map .int)):=Nd.list (λx hx=>by
 obtain⟨y,hy,rfl⟩:=Kas.mp hx
 exact Nd.int (h y hy).1 (h y hy).2) (by simpa using hn)
theorem Nd.map {α:Type}{f:α->PyData}{xs:List α}{k c n:Nat}(h:∀x∈xs,Nd k c (f x))(hn:xs.length<=n):Nd (k+1) (n*(c+2)+3) (.list (xs.map f)):=Nd.list (λy hy=>by
 obtain⟨x,hx,rfl⟩:=Kas.mp hy
 exact h x hx) (by simpa using hn)
theorem Nd.shaped {k c:Nat}{d:PyData}(h:Nd k c d)(hk:k<=60):SeqAt.shaped d=true:=by
 unfold SeqAt.shaped
 rw [h.lay,decide_eq_true (show d.depth<=64 by have:=h.dep;omega)];rfl
theorem Nd.repr {k c:Nat}{d:PyData}(h:Nd k c d)(hk:k<=60)(hc:c<=1000000):oA d=true:=by
 unfold oA
 rw [h.sm,decide_eq_true (show d.depth<=60 by have:=h.dep;omega),decide_eq_true (show cost d<=1000000 by have:=h.co;omega)];rfl
end Pu
namespace Pu
variable [aZ]
open PySem PySem.Spec PyProof.Rows L2
def sC (ns:List Int)(r:Int):Int:=if r<(ns.length:Int) then (ns[r.toNat]?).getD 0 else 0
theorem Fp {ns:List Int}{r:Int}(r0:0<=r)(h:r<(ns.length:Int)):atI (ns.map V.int) r=some (.int (sC ns r)):=by
 have hl:r.toNat<ns.length:=by omega
 unfold atI ixN sC
 rw [if_pos r0,Kag,if_pos h,if_pos h]
 simp [hl]
def BB:SE:=CD (ST.ab (qw (hjl 1) (gR (hjl 0)))) (cW (hjl 0) (hjl 1)) (SE.ab 0)
theorem vH {K:Frag}{H:Hp}{a:Addr}{ns:List Int}{r:Int}(hs:SqL K H a (ns.map V.int))(r0:0<=r){σ:L2.St}(h0:σ[0]? = some (some (.ref a)))(h1:σ[1]? = some (some (.int r))){Q:VK}(q:Q (.int (sC ns r)) H):BB.t K σ H Q:=by
 unfold BB CD ST.ab
 refine⟨.int r,h1,.ref a,h0,.ref a,ns.length,rfl,.inl ⟨_,hs,by simp⟩,r,(ns.length:Int),rfl,rfl,_,rfl,?_⟩
 show if decide (r<(ns.length:Int))=true then _ else _
 by_cases h:r<(ns.length:Int)
 ·rw [decide_eq_true h,if_pos rfl]
  exact⟨.ref a,h0,.int r,h1,.inl ⟨a,_,r,_,rfl,rfl,hs,Fp r0 h,q⟩⟩
 ·rw [decide_eq_false h,if_neg Ka8]
  have e:sC ns r=0:=by unfold sC;rw [if_neg h]
  rw [e] at q
  exact q
/-- what stays stays,and bM tables are right -/
structure Kp (H H':Hp):Prop where
 at':∀b o,H b=some o->vD o->H' b=some o
 tab:rR H'
theorem D0 {K:Frag}{H H':Hp}{a:Addr}{xs:List V}(h:SqL K H a xs)(k:∀b o,H b=some o->vD o->H' b=some o):SqL K H' a xs:=by
 rcases h with (z|⟨o,z⟩)|z
 ·exact .inl (.inl (k _ _ z (λps z=>by cases z)))
 ·exact .inl (.inr ⟨o,k _ _ z (λps z=>by cases z)⟩)
 ·exact .inr z
/-- bM promise of a aq8 maker -/
def UT (K:Frag)(sf:List Int->Int->aa):Sp:=λvs H Q _=>∃(a:Addr) (ns:List Int) (r:Int),vs=[.ref a,.int r]/\SqL K H a (ns.map V.int)/\rR H/\(0<=r/\r<=1000)/\∀(p:Addr) (H':Hp),H p=none->Kp H H'->H' p=some (.lst (kB (sf ns r)))->Q (.ref p) H'
theorem ints3 {F:Hp}{xs:List V}{as:List Addr}{x y z:Int}(h:az F xs [.int x,.int y,.int z] as):xs=[.int x,.int y,.int z]:=by
 cases h with
 |cons h1 h=>cases h with
  |cons h2 h=>cases h with
   |cons h3 h=>
    cases h
    rw [h1.int_inv,h2.int_inv,h3.int_inv]
theorem LL {P:Program}{w:World}{K:PySem.W.Frag}{mg:Str->Option Value}{base:Heap}{x:Str}{st:Stmt}{f:Addr}{fd:FuncData}{N ps:List Str}{k:Nat}{b2:SS}{sf:List Int->Int->aa}(F:cO K x st f fd)(S:FnScope N ps (defScope st))(hp:ps.length=2)(hN:N.length=3)
  (hev:∀(ns:List Int) (r:Int) (x0:Slot),0<=r->r<=1000->b2.ev [x0,.dat (.int r),.dat (.int (sC ns r))] (0,0,0)=some (.ret (.list [.int (sf ns r).1,.int (sf ns r).2.1,.int (sf ns r).2.2],true) (0,0,0)))
  (Ko:∀(cdv:Value) (A:Around) (outer:List Env) (s:Shared) (H:Hp) (E:XK),Room k (A.deeper (envOfC x (defScope st) s.heap.objs.size f cdv))->∃t,PSs (cxOf CX0 P w K mg base N x (defScope st) f cdv A outer s H E).nox (defBody st) t/\t=(SS.ab (SS.set 2 BB) b2).t K):
  FnOk P w K mg base CX0 (k+1) f fd ps (UT K sf):=
 F.ok S (λvs H Q E h=>by obtain⟨a,ns,r,rfl,_⟩:=h;rw [hp];rfl) λcdv A outer s H vs Q E hr h=>by
  obtain⟨t,ht,rfl⟩:=Ko cdv A outer s H E hr
  obtain⟨a,ns,r,rfl,hs,hT,⟨r0,r1⟩,q⟩:=h
  refine⟨_,PSs.nox ht,?_⟩
  have hst:L2.start N [.ref a,.int r]=[some (.ref a),some (.int r),none]:=by
   unfold L2.start
   rw [hN];rfl
  rw [hst]
  refine vH hs r0 rfl rfl ?_
  show b2.t K _ [some (.ref a),some (.int r),some (.int (sC ns r))] H
  have wd:Wd none (λ_=>none) H (λ_=>none) H [some (.ref a),some (.int r),some (.int (sC ns r))] [.emp,.dat (.int r),.dat (.int (sC ns r))] [[],[],[]] (0,0,0):=by
   refine⟨.refl (λb o e=>by cases e),⟨λb e=>(by cases e),hT⟩,.cons rfl (.cons ⟨rfl,_,[],rfl,.int _⟩ (.cons ⟨rfl,_,[],rfl,.int _⟩ .nil)),KaO,λb m=>by cases m⟩
  refine b2.ok K wd (hev ns r .emp r0 r1) λv F' H' as st k rr ff=>?_
  obtain⟨p,xs,cs,rfl,ha,hr',rfl⟩:=rr.aP
  have e:=ints3 hr'
  subst e
  exact q p H' ((ff rfl).2 p Kaa) ⟨λb o e hst=>st.fr b o (λz=>by cases z) e hst,k.tab.low⟩ (st.sub' _ _ ha)
def hqk (n:Int):SE:=Cr (SE.ab 1) (SE.ar (SE.ab n) (gR (hjl 0)))
theorem uF {K:Frag}{H:Hp}{a:Addr}{ns:List Int}{n:Int}(hs:SqL K H a (ns.map V.int)){σ:L2.St}(h0:σ[0]? = some (some (.ref a))){Q:VK}(q:∀j:Int,1<=j->j<=max 1 n->Q (.int j) H):(hqk n).t K σ H Q:=by
 unfold hqk
 refine⟨.ref a,h0,.ref a,ns.length,rfl,.inl ⟨_,hs,by simp⟩,n,ns.length,rfl,1,_,rfl,q _ ?_ ?_⟩
 ·split <;> omega
 ·split <;> split <;> omega
/-- bM promise of a law -/
def yq (K:Frag)(n:Nat):Sp:=λvs H Q _=>∃(a:Addr) (ns:List Int),vs=[.ref a]/\ns.length<=n/\SqL K H a (ns.map V.int)/\rR H/\∀H',Q (.bl true) H'
def DL (K:Frag)(sf:List Int->Int->aa):TE:=tCall (UT K sf) [] E0 (tCons (tVar 0) (tCons (tVar 1) tNil))
end Pu
namespace Pu
variable [aZ]
open PySem PySem.Spec PyProof.Rows L2
def SE.av (p p':Int->Int->Bool)(a b c:SE):SE where
 t:=λK=>tChain (rI0 λi j=>.bl (p i j)) (rI0 λi j=>.bl (p' i j)) (a.t K) (b.t K) (c.t K)
 ev:=λρ s=>(a.ev ρ s).bind λx=>(b.ev ρ x.2).bind λy=>match x.1.1,y.1.1 with
  |.int i,.int j=>if p i j=true then (c.ev ρ y.2).bind λz=>match z.1.1 with|.int k=>some ((.bool (p' j k),true),z.2)|_=>none else some ((.bool false,true),y.2)
  |_,_=>none
 ok:=by
  intro K sk F H σ ρ ak s vl s' Q pr h q
  obtain⟨⟨⟨x,fx⟩,s1⟩,h1,g1⟩:=aL h
  obtain⟨⟨⟨y,fy⟩,s2⟩,h2,g2⟩:=aL g1
  clear h g1
  dsimp only at g2
  refine a.ok K pr h1 λv F1 H1 as st1 k1 r1 f1=>?_
  refine b.ok K (pr.next st1 k1) h2 λw F2 H2 bs st2 k2 r2 f2=>?_
  split at g2
  ·rename_i i j
   rw [r1.int_inv,r2.int_inv]
   refine⟨i,j,rfl,rfl,p i j,rfl,?_⟩
   split at g2
   ·rename_i e
    rw [if_pos e]
    obtain⟨⟨⟨z,fz⟩,s3⟩,h3,g3⟩:=aL g2
    clear g2
    dsimp only at g3
    refine c.ok K ((pr.next st1 k1).next st2 k2) h3 λu F3 H3 cs st3 k3 r3 f3=>?_
    split at g3
    ·rename_i k
     cases g3
     rw [r3.int_inv]
     exact⟨j,k,rfl,rfl,q _ F3 H3 [] ((st1.trans st2).trans st3) k3 (.bl _) .nil⟩
    ·cases g3
   ·rename_i e
    rw [if_neg e]
    cases g2
    exact q _ F2 H2 [] (st1.trans st2) k2 (.bl _) .nil
  ·cases g2
def fE (hi:Int):Nat->List PyData
 |0=>[]
 |n+1=>.int hi::fE (hi-1) n
theorem oG:∀(n:Nat) (hi:Int) (i:Nat),(fE hi n)[i]? = if i<n then some (.int (hi-i)) else none
 |0,hi,i=>by simp [fE]
 |n+1,hi,0=>by simp [fE]
 |n+1,hi,i+1=>by
  show (fE (hi-1) n)[i]? = _
  rw [oG n]
  by_cases h:i<n
  ·rw [if_pos h,if_pos (by omega)]
   congr 2
   omega
  ·rw [if_neg h,if_neg (by omega)]
theorem oH:∀(n:Nat) (hi:Int),(fE hi n).length=n
 |0,_=>rfl
 |n+1,hi=>by show (fE (hi-1) n).length+1=n+1;rw [oH n]
theorem oJ:∀(n:Nat) (hi:Int),fE hi n=(KaC n).map λ(k:Nat)=>PyData.int (hi-(k:Int))
 |0,_=>rfl
 |n+1,hi=>by
  rw [KbH,Kai,KaL]
  show PyData.int hi::fE (hi-1) n=_
  rw [oJ n]
  refine Kdd.mpr ⟨by simp,Kax λk _=>?_⟩
  show PyData.int (hi-1-(k:Int))=PyData.int (hi-((k+1:Nat):Int))
  congr 1
  omega
theorem HM {hi:Int}{n:Nat}{F:Hp}:Yl (Itc hi (-1) n) F (fE hi n):=λF2 H2 i s1 s2=>by
 refine⟨λd hd=>?_,λhl=>?_⟩
 ·rw [oG] at hd
  split at hd
  ·rename_i h
   cases hd
   refine⟨h,λx H3 hy=>?_⟩
   obtain⟨rfl,rfl⟩:=hy
   refine⟨F2,[],.refl s2,?_⟩
   have e:hi+(i:Int)*(-1)=hi-i:=by omega
   rw [e]
   exact .int _
  ·cases hd
 ·rw [oH] at hl;exact hl
def SI.down (e e2:SE):SI where
 t:=λK=>iRng3 (tCons (e.t K) (tCons (e2.t K) (tCons ((NW (SE.ab 1)).t K) tNil)))
 ev:=λρ s=>(e.ev ρ s).bind λx=>(e2.ev ρ x.2).bind λy=>match x.1.1,y.1.1 with
  |.int i,.int j=>if (-1000000<=i/\i<=1000000)/\-1000000<=j/\j<=1000000 then some (fE i (i-j).toNat,y.2) else none
  |_,_=>none
 ok:=by
  intro K sk F H σ ρ ak s ds s' R p h q
  obtain⟨⟨⟨x,fl⟩,s1⟩,h1,g1⟩:=aL h
  obtain⟨⟨⟨y,YQ⟩,s2⟩,h2,g2⟩:=aL g1
  clear h g1
  dsimp only at g2
  split at g2
  ·rename_i i j
   split at g2
   ·rename_i hb
    cases g2
    refine e.ok K p h1 λv F1 H1 as st1 k1 r1 f1=>?_
    refine e2.ok K (p.next st1 k1) h2 λw F2 H2 bs st2 k2 r2 f2=>?_
    rw [r1.int_inv,r2.int_inv]
    exact⟨1,rfl,i,j,-1,_,rfl,RgC.neg (by omega) (by omega) (by omega) (by omega),q _ F2 H2 (st1.trans st2) k2 HM⟩
   ·cases g2
  ·cases g2
end Pu
namespace Pu
variable [aZ]
open PySem PySem.Spec PyProof.Rows L2
section
variable {sk:Option Addr}{F H H':Hp}{σ:List (Option V)}{ρ:List Slot}{ak:List (List Addr)}
theorem Slots.dom (sub:Same F H)(h:Slots sk F H σ ρ ak):∀a∈ak.flatten,H a≠none:=by
 induction h with
 |nil=>intro a m;cases m
 |@cons x xs sl NY fp ak h r ih=>
  intro a m
  rw [Kav] at m
  rcases Kam.mp m with m|m
  ·have one:∀{v:V} {d:PyData} {as:List Addr},Rp F v d as->a∈as->H a≠none:=λr m=>by
    obtain⟨xs,hx⟩:=r.dom a m
    rw [sub _ _ hx];exact nofun
   cases sl with
   |emp=>rw [show fp=[] from h] at m;cases m
   |dat d=>rw [h.1] at m;cases m
   |own d=>obtain⟨v,_,hr⟩:=h;exact one hr m
   |aC ds o=>
    obtain⟨b,vs,as,_,h1,_,h3,rfl⟩:=h
    rcases Kah.mp m with z|z
    ·rw [z,h1];exact nofun
    ·split at z
     ·obtain⟨xs,hx⟩:=h3.dom a z
      rw [sub _ _ hx];exact nofun
     ·cases z
   |eJ f=>
    obtain⟨b,ws,_,h1,_,_,_,rfl⟩:=h
    rcases Kah.mp m with z|z
    ·rw [z,h1];exact nofun
    ·cases z
   |g9 es=>rw [h.1] at m;cases m
   |eI es=>
    obtain⟨b,ws,_,h1,_,_,rfl⟩:=h
    rcases Kah.mp m with z|z
    ·rw [z,h1];exact nofun
    ·cases z
   |cB es=>
    obtain⟨b,ws,as,_,h1,_,_,h4,rfl⟩:=h
    rcases Kah.mp m with z|z
    ·rw [z,h1];exact nofun
    ·obtain⟨xs,hx⟩:=h4 _ z
     rw [sub _ _ hx];exact nofun
   |cI f=>
    obtain⟨b,ws,_,h1,_,_,_,rfl⟩:=h
    rcases Kah.mp m with z|z
    ·rw [z,h1];exact nofun
    ·cases z
   |bf=>rw [h.1] at m;cases m
   |fix v=>rw [h.1] at m;cases m
   |fn f c q=>rw [h.1] at m;cases m
   |u6 d=>
    obtain⟨v,_,hr,_⟩:=h
    obtain⟨xs,hx⟩:=hr.dom a m
    rw [NC m] at hx
    rw [hx];exact nofun
   |ins C nm ds=>rw [h.1] at m;cases m
   |obj C b nm ds=>
    obtain⟨dx,vs,as,_,h1,_,h2,_,_,_,rfl⟩:=h
    simp only [Kah,KaX,or_false] at m
    rcases m with z|z
    ·rw [z,h1];exact nofun
    ·rw [z,h2];exact nofun
   |tV B C nm ds=>rw [h.1] at m;cases m
   |uv B C b nm ds=>
    obtain⟨dx,vs,as,_,h1,_,h2,_,_,_,_,rfl⟩:=h
    simp only [Kah,KaX,or_false] at m
    rcases m with z|z
    ·rw [z,h1];exact nofun
    ·rw [z,h2];exact nofun
   |Jy o ks ds f=>
    obtain⟨b,dx,ws,vs,as,rs,bs,_,_,h1,_,h2,_,_,_,_,_,rfl⟩:=h
    simp only [Kah,KaX,or_false] at m
    rcases m with z|z
    ·rw [z,h1];exact nofun
    ·rw [z,h2];exact nofun
  ·exact ih a m
theorem Slots.Kl (e:∀a∈ak.flatten,H' a=H a)(h:Slots sk F H σ ρ ak):Slots sk F H' σ ρ ak:=by
 induction h with
 |nil=>exact .nil
 |@cons x xs sl NY fp ak h r ih=>
  rw [Kav] at e
  refine .cons ?_ (ih λa m=>e a (Kao _ m))
  cases sl with
  |emp=>exact h
  |dat d=>exact h
  |own d=>exact h
  |aC ds o=>
   obtain⟨b,vs,as,h0,h1,h2,h3,rfl⟩:=h
   exact⟨b,vs,as,h0,by rw [e b (Kac _ Kaa)];exact h1,h2,h3,rfl⟩
  |eJ f=>
   obtain⟨b,ws,h0,h1,h2,h3,h4,rfl⟩:=h
   exact⟨b,ws,h0,by rw [e b (Kac _ Kaa)];exact h1,h2,h3,h4,rfl⟩
  |g9 es=>exact h
  |eI es=>
   obtain⟨b,ws,h0,h1,h2,h3,rfl⟩:=h
   exact⟨b,ws,h0,by rw [e b (Kac _ Kaa)];exact h1,h2,h3,rfl⟩
  |cB es=>
   obtain⟨b,ws,as,h0,h1,h2,h3,h4,rfl⟩:=h
   exact⟨b,ws,as,h0,by rw [e b (Kac _ Kaa)];exact h1,h2,h3,h4,rfl⟩
  |cI f=>
   obtain⟨b,ws,h0,h1,h2,h3,h4,rfl⟩:=h
   exact⟨b,ws,h0,by rw [e b (Kac _ Kaa)];exact h1,h2,h3,h4,rfl⟩
  |bf=>exact h
  |fix v=>exact h
  |fn f c q=>exact h
  |u6 d=>
   obtain⟨v,e1,r,e2⟩:=h
   exact⟨v,e1,r.mono (Ut (Same.refl _) λb m o z=>by rw [e b (Kac _ m)];exact z),e2⟩
  |ins C nm ds=>exact h
  |obj C b nm ds=>
   obtain⟨dx,vs,as,h0,h1,h2,h3,h4,h5,h6,rfl⟩:=h
   exact⟨dx,vs,as,h0,by rw [e b (Kac _ Kaa)];exact h1,h2,by rw [e dx (Kac _ (Kab _ Kaa))];exact h3,h4,h5,h6,rfl⟩
  |tV B C nm ds=>exact h
  |uv B C b nm ds=>
   obtain⟨dx,vs,as,h0,h1,h2,h3,h4,h5,h6,hB,rfl⟩:=h
   exact⟨dx,vs,as,h0,by rw [e b (Kac _ Kaa)];exact h1,h2,by rw [e dx (Kac _ (Kab _ Kaa))];exact h3,h4,h5,h6,hB,rfl⟩
  |Jy o ks ds f=>
   obtain⟨b,dx,ws,vs,as,rs,bs,h0,ho,h1,h2,h3,h4,h5,h6,h7,h8,rfl⟩:=h
   exact⟨b,dx,ws,vs,as,rs,bs,h0,ho,by rw [e b (Kac _ Kaa)];exact h1,h2,by rw [e dx (Kac _ (Kab _ Kaa))];exact h3,h4,h5,h6,h7,h8,rfl⟩
end
/-- bM heap without D -/
def less (H:Hp)(D:Addr):Hp:=λa=>if a=D then none else H a
theorem hxa {H:Hp}{D a:Addr}(h:a≠D):less H D a=H a:=if_neg h
theorem zL {H:Hp}{D:Addr}:less H D D=none:=if_pos rfl
theorem ZC {H:Hp}{D a:Addr}{o:HO}(h:less H D a=some o):a≠D/\H a=some o:=by
 by_cases e:a=D
 ·rw [e,zL] at h;cases h
 ·exact⟨e,by rw [hxa e] at h;exact h⟩
def BL (g:PyData->List Slot->Option (List Slot))(tt:List Slot->aa->Option (Bool×aa))(it1:List Slot->aa->Option (List PyData×aa))(g1:PyData->List Slot->Option (List Slot))(tt1:List Slot->aa->Option (Bool×aa))(e:HQ)(vs1:List Nat)(ρ:List Slot):List PyData->aa->Option (List Vl×aa)
 |[],s=>some ([],s)
 |d::ds,s=>(g d ρ).bind λaB=>(tt aB s).bind λb=>if b.1=true then (it1 aB b.2).bind λx=>(cy g1 tt1 e (bq aB vs1) x.1 x.2).bind λy=>(BL g tt it1 g1 tt1 e vs1 ρ ds y.2).bind λz=>some (y.1++z.1,z.2) else BL g tt it1 g1 tt1 e vs1 ρ ds b.2
theorem Step.put {sk:Option Addr}{F H F' H':Hp}{D:Addr}{o:HO}(st:Step sk F (less H D) F' H')(hF:F' D=none):Step sk F (less H D) F' (upd H' D o):=by
 refine⟨st.sub,λa u e=>?_,λa u h e hst=>?_,λa h=>?_,st.new⟩
 ·rw [upd_ne (λz=>by rw [z,hF] at e;cases e)];exact st.sub' a u e
 ·rw [upd_ne (ZC e).1];exact st.fr a u h e
 ·by_cases z:a=D
  ·rw [z,upd_same];exact nofun
  ·rw [upd_ne z];exact st.dm a h
/-- bM inner turns -/
theorem CK {it1:SI}{g1:SG}{tt1:ST}{e:SE}{vs1:List Nat}(hv:∀i∈g1.ix,i∈vs1)(K:Frag){sk:Option Addr}{F1 H1 F3 H3 F4 H4:Hp}{D:Addr}{σ2:L2.St}{aB:List Slot}{ak:List (List Addr)}{s4 s5 s6:aa}{done HP:List Vl}{ws:List V}{as:List Addr}{vo:List PyData}{Nx:Hp->Prop}(nD:H1 D=none)(dH:sk≠some D)
  (sl:Slots sk F3 (less H3 D) σ2 aB ak) (jH:∀a,sk=some a->a∉ak.flatten) (dX:ak.flatten.Nodup) (Q6:Same F3 (less H3 D)) (st:Step sk F3 (less H3 D) F4 H4) (L:oh sk F1 H1 D done F4 H4 s4 ws as) (h1:it1.ev aB s4=some (vo,s5)) (h2:cy g1.ev tt1.ev e.ev (bq aB vs1) vo s5=some (HP,s6)) (hlen:done.length+HP.length<=100000)
  (q:∀F H vs as,oh sk F1 H1 D (done++HP) F H s6 vs as->Nx H):
  it1.t K σ2 H4 λJ1 H4=>∃W1:Nat->Nat->Hp->Prop,(∃m,W1 0 m H4)/\∀j k H,W1 j k H ->
   (J1.stop j H/\Nx H)∨(J1.go j H/\∃Nx1:Hp->Prop,(∀H',Nx1 H'->∃k',k'<k/\W1 (j+1) k' H')/\∀x H',J1.yld j H x H'->g1.t K x (wipe σ2 vs1) H' λσ3 H5=>wipe σ3 vs1=wipe σ2 vs1/\tt1.t K σ3 H5 λb H6=>
    if b=true then e.t K σ3 H6 λy H7=>∃acc,H7 D=some (.lst acc)/\acc.length<sizeLine/\Nx1 (upd H7 D (.lst (acc++[y]))) else Nx1 H6):=by
 have aqW:Pre sk F4 H4 σ2 aB ak s4:=⟨L.sub',L.bh,sl.step st jH,jH,dX⟩
 refine it1.ok K aqW h1 λJ1 F5 H5 st5 k5 yl=>?_
 have L5:=L.step dH st5 k5
 refine⟨λj k H=>∃F6 sj dn rest Rh N9,k=(vo.drop j).length/\j<=vo.length/\Same F5 F6/\Step sk F3 (less H3 D) F6 H/\oh sk F1 H1 D (done++dn) F6 H sj Rh N9/\cy g1.ev tt1.ev e.ev (bq aB vs1) (vo.drop j) sj=some (rest,s6)/\dn++rest=HP,
  ⟨vo.length,F5,s5,[],HP,ws,as,by simp,KaV _,Same.refl _,st.trans st5,by rw [KaE];exact L5,by simpa using h2,rfl⟩,λj k H hW=>?_⟩
 obtain⟨F6,sj,dn,rest,Rh,N9,ek,hj,sF,stJ,L6,hc,hys⟩:=hW
 by_cases hlt:j<vo.length
 ·have ed:vo.drop j=vo[j]::vo.drop (j+1):=Kbg hlt
  have eg:vo[j]? = some vo[j]:=Kau hlt
  rw [ed] at hc ek
  obtain⟨go,yld⟩:=(yl F6 H j sF L6.sub').1 _ eg
  unfold cy at hc
  obtain⟨cY,c1,hc⟩:=aL hc
  obtain⟨⟨b,sb⟩,c2,hc⟩:=aL hc
  dsimp only at hc
  refine .inr ⟨go,λH'=>∃F7 qX Sz rest' vs7 Rq,Same F5 F7/\Step sk F3 (less H3 D) F7 H'/\oh sk F1 H1 D (done++Sz) F7 H' qX vs7 Rq/\cy g1.ev tt1.ev e.ev (bq aB vs1) (vo.drop (j+1)) qX=some (rest',s6)/\Sz++rest'=HP,λH' hN=>?_,λx H' hy=>?_⟩
  ·obtain⟨F7,qX,Sz,rest',vs7,Rq,a1,a2,a3,a4,a5⟩:=hN
   exact⟨(vo.drop (j+1)).length,by rw [ek];exact Kbq _,F7,qX,Sz,rest',vs7,Rq,rfl,hlt,a1,a2,a3,a4,a5⟩
  ·obtain⟨F7,Rq,sa,r7⟩:=yld x H' hy
   have L7:=L6.step dH sa.any (L6.bh.keep sa)
   have st7:=stJ.trans sa.any
   have sl7:=sl.step st7 jH
   obtain⟨fw,Mi,mw⟩:=sl7.wipe vs1
   refine g1.ok K L7.sub' r7 Mi c1 λσ' aH sl' m' u' w'=>⟨?_,?_⟩
   ·rw [w' vs1 hv,TU]
   ·have P7:Pre sk F7 H' σ' cY aH sj:=⟨L7.sub',L7.bh,sl',λa ha ma=>jH a ha (mw.mem (m' a ma)),dX.sublist (u'.trans mw)⟩
    refine tt1.ok K P7 c2 λF8 H8 N1 k8=>?_
    have L8:=L7.step dH N1 k8
    split at hc
    ·rename_i eb
     rw [if_pos eb]
     obtain⟨⟨y,sy⟩,c3,hc⟩:=aL hc
     obtain⟨⟨z,sz⟩,c4,hc⟩:=aL hc
     cases hc
     refine e.ok K (P7.next N1 k8) c3 λv F9 H9 as9 Q4 k9 r9 f9=>?_
     have L9:=L8.put dH nD Q4 k9 r9 f9
     refine⟨Rh,Q4.fr D _ dH L8.hD,?_,F9,sy,dn++[y],z,_,_,((sF.trans sa.sub).trans N1.sub).trans Q4.sub,((st7.trans N1).trans Q4).put (L8.step dH Q4 k9).fD,by rw [<-KaR];exact L9,c4,?_⟩
     ·have:=L6.r.len
      rw [Kag] at this
      rw [this]
      have e2:dn.length+(z.length+1)=HP.length:=by rw [<-hys];simp
      exact Ka4 (show (done++dn).length<100000 by rw [Kan];omega) (by decide)
     ·rw [<-hys];simp
    ·rename_i eb
     rw [if_neg eb]
     exact⟨F8,sb,dn,rest,Rh,N9,(sF.trans sa.sub).trans N1.sub,st7.trans N1,L8,hc,hys⟩
 ·have e1:j=vo.length:=by omega
  subst e1
  rw [Kbr] at hc
  unfold cy at hc
  cases hc
  rw [KaE] at hys
  subst hys
  exact .inl ⟨(yl F6 H _ sF L6.sub').2 (Kat _),q F6 H Rh N9 L6⟩
theorem zK {it:SI}{g:SG}{tt:ST}{it1:SI}{g1:SG}{tt1:ST}{e:SE}{vs vs1:List Nat}(hv:∀i∈g.ix,i∈vs)(hv1:∀i∈g1.ix,i∈vs1)(K:Frag){sk:Option Addr}{F H:Hp}{σ:L2.St}{ρ:List Slot}{ak:List (List Addr)}{s s1 s':aa}{ds:List PyData}{ys:List Vl}{Q:VK}(p:Pre sk F H σ ρ ak s)(h1:it.ev ρ s=some (ds,s1))(h2:BL g.ev tt.ev it1.ev g1.ev tt1.ev e.ev vs1 (bq ρ vs) ds s1=some (ys,s'))(hlen:ys.length<=100000)
  (q:∀F1 H1 D F2 H2 ws as,Step sk F H F1 H1->bA sk F1 H1 s1->H1 D=none->sk≠some D->oh sk F1 H1 D ys F2 H2 s' ws as->Q (.ref D) H2):tLc2 (it.t K) (g.t K) (tt.t K) (it1.t K) (g1.t K) (tt1.t K) (e.t K) vs vs1 σ H Q:=by
 refine it.ok K p h1 λJ F1 H1 st1 k1 yl D nD=>?_
 have P1:=p.next st1 k1
 have dH:sk≠some D:=fJ k1 nD
 refine⟨λi m H2=>∃F2 si done rest EM as2,m=(ds.drop i).length/\i<=ds.length/\oh sk F1 H1 D done F2 H2 si EM as2/\BL g.ev tt.ev it1.ev g1.ev tt1.ev e.ev vs1 (bq ρ vs) (ds.drop i) si=some (rest,s')/\done++rest=ys,
  ⟨ds.length,F1,s1,[],ys,[],[],by simp,KaV _,.start st1.sub' k1 nD,by simpa using h2,rfl⟩,λi m H2 hW=>?_⟩
 obtain⟨F2,si,done,rest,EM,as2,em,hi,L,hc,hys⟩:=hW
 by_cases hlt:i<ds.length
 ·have ed:ds.drop i=ds[i]::ds.drop (i+1):=Kbg hlt
  have eg:ds[i]? = some ds[i]:=Kau hlt
  rw [ed] at hc em
  obtain⟨go,yld⟩:=(yl F2 H2 i L.sub L.sub').1 _ eg
  unfold BL at hc
  obtain⟨aB,c1,hc⟩:=aL hc
  obtain⟨⟨b,sb⟩,c2,hc⟩:=aL hc
  dsimp only at hc
  refine .inr ⟨go,λH'=>∃F3 qX done' rest' Mu rV,oh sk F1 H1 D done' F3 H' qX Mu rV/\BL g.ev tt.ev it1.ev g1.ev tt1.ev e.ev vs1 (bq ρ vs) (ds.drop (i+1)) qX=some (rest',s')/\done'++rest'=ys,λH' hN=>?_,λx H3 hy=>?_⟩
  ·obtain⟨F3,qX,done',rest',Mu,rV,L3,c3,e3⟩:=hN
   exact⟨(ds.drop (i+1)).length,by rw [em];exact Kbq _,F3,qX,done',rest',Mu,rV,rfl,hlt,L3,c3,e3⟩
  ·obtain⟨F3,rV,sa,r3⟩:=yld x H3 hy
   have L3:=L.step dH sa.any (L.bh.keep sa)
   have NX:Slots sk F1 H1 σ ρ ak:=P1.slots
   have stp:Step sk F1 H1 F3 H3:=⟨L3.sub,L3.sub',λa o x y z=>L3.fr a o x y z,L3.dm,L3.new⟩
   have DW:=NX.step stp P1.jH
   obtain⟨fw,Mi,mw⟩:=DW.wipe vs
   refine g.ok K L3.sub' r3 Mi c1 λσ' aH sl' m' u' w'=>⟨?_,?_⟩
   ·rw [w' vs hv,TU]
   ·have Q0:∀a,sk=some a->a∉aH.flatten:=λa ha ma=>P1.jH a ha (mw.mem (m' a ma))
    have QH:aH.flatten.Nodup:=P1.dX.sublist (u'.trans mw)
    have P3:Pre sk F3 H3 σ' aB aH si:=⟨L3.sub',L3.bh,sl',Q0,QH⟩
    refine tt.ok K P3 c2 λF4 H4 uR k4=>?_
    have L4:=L3.step dH uR k4
    split at hc
    ·rename_i eb
     rw [if_pos eb]
     obtain⟨⟨vo,s5⟩,c3,hc⟩:=aL hc
     obtain⟨⟨HP,s6⟩,c4,hc⟩:=aL hc
     obtain⟨⟨z,sz⟩,c5,hc⟩:=aL hc
     cases hc
     have hD:∀a∈aH.flatten,less H3 D a=H3 a:=λa ma=>hxa λz=>by
      subst z
      exact (NX.dom P1.sub) a (mw.mem (m' a ma)) nD
     have Q6:Same F3 (less H3 D):=λa o ea=>by
      rw [hxa (λz=>by rw [z,L3.fD] at ea;cases ea)];exact L3.sub' a o ea
     have aq1:Step sk F3 (less H3 D) F4 H4:=⟨uR.sub,uR.sub',λa o h ea hst=>uR.fr a o h (ZC ea).2 hst,λa h=>by
      cases qa:less H3 D a with
      |none=>exact absurd qa h
      |some o=>exact uR.dm a (by rw [(ZC qa).2];exact nofun),λa o ea=>by
      rcases uR.new a o ea with z|z
      ·exact .inl z
      ·refine .inr ?_
       unfold less
       split
       ·rfl
       ·exact z⟩
     refine CK hv1 K nD dH (sl'.Kl hD) Q0 QH Q6 aq1 L4 c3 c4 ?_ λF5 H5 vs5 VE L5=>⟨F5,_,_,z,vs5,VE,L5,c5,?_⟩
     ·have:done.length+(HP.length+z.length)=ys.length:=by rw [<-hys];simp
      omega
     ·rw [<-hys,KaR]
    ·rename_i eb
     rw [if_neg eb]
     exact⟨F4,sb,done,rest,EM,as2,L4,hc,hys⟩
 ·have e1:i=ds.length:=by omega
  subst e1
  rw [Kbr] at hc
  unfold BL at hc
  cases hc
  rw [KaE] at hys
  subst hys
  exact .inl ⟨(yl F2 H2 _ L.sub L.sub').2 (Kat _),q F1 H1 D F2 H2 EM as2 st1 k1 nD dH L⟩
def SE.lc2 (it:SI)(g:SG)(tt:ST)(it1:SI)(g1:SG)(tt1:ST)(e:SE)(vs vs1:List Nat)(hv:∀i∈g.ix,i∈vs)(hv1:∀i∈g1.ix,i∈vs1):SE where
 t:=λK=>tLc2 (it.t K) (g.t K) (tt.t K) (it1.t K) (g1.t K) (tt1.t K) (e.t K) vs vs1
 ev:=λρ s=>(it.ev ρ s).bind λx=>(BL g.ev tt.ev it1.ev g1.ev tt1.ev e.ev vs1 (bq ρ vs) x.1 x.2).bind λy=>if y.1.length<=100000 then some ((.list (y.1.map (·.1)),y.1.all fN),y.2) else none
 ok:=by
  intro K sk F H σ ρ ak s vl s' Q p h q
  obtain⟨⟨ds,s1⟩,h1,g1⟩:=aL h
  obtain⟨⟨ys,s2⟩,h2,g2⟩:=aL g1
  clear h g1
  dsimp only at g2 h2
  split at g2
  case isFalse=>cases g2
  rename_i hlen
  cases g2
  refine zK hv hv1 K p h1 h2 hlen λF1 H1 D F2 H2 ws as st1 k1 nD dH L=>?_
  obtain⟨d1,d2,d3,d4⟩:=L.done dH nD
  exact q _ _ _ _ (st1.trans d1) d2 d3 (d4.back st1.dm)
section
variable {X:Cx}{elt tg iter tg1 iter1:Expr}{ifs ifs1:List Expr}{scope:Scope}{pos:Pos}{wi:TI}
theorem G7 (gS:SG)(tS:ST)(iS:SI)(gS1:SG)(tS1:ST)(eS:SE)(own:List (Str×Nat))(vs1:List Nat)(hc:X.calm=true)(hN:X.N.Nodup)(hi:PI X tg iter wi)(ok:BlkOk X.N X.env.scope scope own)(hv:∀i∈vs1,i∈own.map (·.2))
  (hg:∀(s:Shared) (H:Hp) (C:Addr) (cl:List (Str×Addr)) (fp:List Addr),∃g,PG (X.blk s H scope (compEnvC scope cl C X.env) fp) tg g/\g=gS.t X.K)
  (ht:∀(s:Shared) (H:Hp) (C:Addr) (cl:List (Str×Addr)) (fp:List Addr),∃tt,PTs (X.blk s H scope (compEnvC scope cl C X.env) fp) ifs tt/\tt=tS.t X.K)
  (hi1:∀(s:Shared) (H:Hp) (C:Addr) (cl:List (Str×Addr)) (fp:List Addr),∃ti,PI (X.blk s H scope (compEnvC scope cl C X.env) fp) tg1 iter1 ti/\ti=iS.t X.K)
  (hg1:∀(s:Shared) (H:Hp) (C:Addr) (cl:List (Str×Addr)) (fp:List Addr),∃g,PG (X.blk s H scope (compEnvC scope cl C X.env) fp) tg1 g/\g=gS1.t X.K)
  (ht1:∀(s:Shared) (H:Hp) (C:Addr) (cl:List (Str×Addr)) (fp:List Addr),∃tt,PTs (X.blk s H scope (compEnvC scope cl C X.env) fp) ifs1 tt/\tt=tS1.t X.K)
  (he:∀(s:Shared) (H:Hp) (C:Addr) (cl:List (Str×Addr)) (fp:List Addr),∃te,PE (X.blk s H scope (compEnvC scope cl C X.env) fp) elt te/\te=eS.t X.K) (hs:∀x,foldedSetIterable iter X.env x=pure x:=by intro _;rfl) (hs1:∀env x,foldedSetIterable iter1 env x=pure x:=by intro _ _;rfl):
  PE X (.ListComp elt [⟨tg,iter,ifs,0⟩,⟨tg1,iter1,ifs1,0⟩] scope pos) (tLc2 wi (gS.t X.K) (tS.t X.K) (iS.t X.K) (gS1.t X.K) (tS1.t X.K) (eS.t X.K) (own.map (·.2)) vs1):=
 pe_lc2 hc hN hi ok hv (λa b c d e=>by obtain⟨_,h,rfl⟩:=hg a b c d e;exact h) (λa b c d e=>by obtain⟨_,h,rfl⟩:=ht a b c d e;exact h) (λa b c d e=>by obtain⟨_,h,rfl⟩:=hi1 a b c d e;exact h) (λa b c d e=>by obtain⟨_,h,rfl⟩:=hg1 a b c d e;exact h) (λa b c d e=>by obtain⟨_,h,rfl⟩:=ht1 a b c d e;exact h) (λa b c d e=>by obtain⟨_,h,rfl⟩:=he a b c d e;exact h) hs hs1
end
end Pu
namespace Pu
variable [aZ]
open PySem PySem.Spec PyProof.Rows L2
theorem uH {F:Hp}:∀{x:Option V} {d:Option PyData},dY F x d->x.isSome=d.isSome
 |none,none,_=>rfl
 |some _,some _,_=>rfl
 |some _,none,h=>h.elim
 |none,some _,h=>h.elim
def NT (i:Nat)(k:SE):SE where
 t:=λK=>tDIn (k.t K) (tVar i)
 ev:=λρ s=>match ρ[i]? with
  |some (.cI f)=>(k.ev ρ s).bind λy=>match keyOf y.1.1 with
   |some j=>some ((.bool (cD f j).isSome,true),y.2)
   |none=>none
  |_=>none
 ok:=by
  intro K sk F H σ ρ ak s vl s' Q p h q
  dsimp only at h
  split at h
  ·rename_i f cz
   obtain⟨⟨⟨y,fl⟩,s2⟩,h3,h4⟩:=aL h
   dsimp only at h4
   split at h4
   ·rename_i j ej
    cases h4
    obtain⟨xv,fp,e1,e2,a,ws,rfl,hH,hF,AN,hr,rfl⟩:=p.slots.get cz
    refine k.ok K p h3 λkv F2 H2 bs st2 k2 r2 f2=>?_
    have fa:a∈ak.flatten:=Kaw.mpr ⟨_,Kar e2,Kaa⟩
    have h_:H2 a=some (.dK ws):=st2.fr a _ (λz=>p.jH a z fa) hH
    have hkv:=r2.key ej
    subst hkv
    refine⟨.ref a,e1,a,valV ws j,rfl,DGet.k (k:=j) h_,?_⟩
    rw [uH (hr j)]
    exact q _ F2 H2 [] st2 k2 (.bl _) .nil
   ·cases h4
  ·cases h
def dQ (g:PyData->List Slot->Option (List Slot))(tt:List Slot->aa->Option (Bool×aa))(ek ev:HQ)(ρ:List Slot):List PyData->List (Key×PyData)->aa->Option (List (Key×PyData)×aa)
 |[],f,s=>some (f,s)
 |d::ds,f,s=>(g d ρ).bind λaB=>(tt aB s).bind λb=>if b.1=true then (ek aB b.2).bind λx=>(ev aB x.2).bind λy=>match keyOf x.1.1 with
  |some j=>dQ g tt ek ev ρ ds ((j,y.1.1)::f) y.2
  |none=>none
  else dQ g tt ek ev ρ ds f b.2
theorem ZS {g:PyData->List Slot->Option (List Slot)}{tt:List Slot->aa->Option (Bool×aa)}{ek ev:HQ}{ρ:List Slot}:∀{ds:List PyData} {f f':List (Key×PyData)} {s s':aa},dQ g tt ek ev ρ ds f s=some (f',s')->f.length<=f'.length
 |[],f,f',s,s',h=>by unfold dQ at h;cases h;exact Kat _
 |d::ds,f,f',s,s',h=>by
  unfold dQ at h
  obtain⟨aB,c1,h⟩:=aL h
  obtain⟨⟨b,sb⟩,c2,h⟩:=aL h
  dsimp only at h
  split at h
  ·obtain⟨x,c3,h⟩:=aL h
   obtain⟨y,c4,h⟩:=aL h
   split at h
   ·have:=ZS h
    simp only [Kad] at this
    omega
   ·cases h
  ·exact ZS h
structure Ei (sk:Option Addr)(F1 H1:Hp)(D:Addr)(f:List (Key×PyData))(F H:Hp)(s:aa)(ws:List (Key×V)):Prop where
 st:Step sk F1 (less H1 D) F H
 bh:bA sk F H s
 hD:H D=some (.dK ws)
 fD:F D=none
 len:ws.length<=f.length
 rel:∀k:Key,dY F (valV ws k) (cD f k)
theorem Ei.step {sk:Option Addr}{F1 H1:Hp}{D:Addr}{f:List (Key×PyData)}{F H F' H':Hp}{s s':aa}{ws:List (Key×V)}(L:Ei sk F1 H1 D f F H s ws)(nD:sk≠some D)(st:Step sk F H F' H')(k:bA sk F' H' s'):Ei sk F1 H1 D f F' H' s' ws:=by
 refine⟨L.st.trans st,k,st.fr D _ nD L.hD,?_,L.len,λj=>(L.rel j).mono st.sub⟩
 cases q:F' D with
 |none=>rfl
 |some u=>
  rcases st.new D u q with z|z
  ·rw [L.fD] at z;cases z
  ·rw [L.hD] at z;cases z
theorem Ei.put {sk:Option Addr}{F1 H1:Hp}{D:Addr}{f:List (Key×PyData)}{F H:Hp}{s:aa}{ws:List (Key×V)}{j:Key}{v:V}{d:PyData}{as:List Addr}(L:Ei sk F1 H1 D f F H s ws)(nD:sk≠some D)(r:Rp F v d as):Ei sk F1 H1 D ((j,d)::f) F (upd H D (.dK (putK ws j v))) s (putK ws j v):=by
 refine⟨L.st.put L.fD,⟨λa e=>?_,Es L.bh.tab L.hD (gxq trivial)⟩,upd_same,L.fD,?_,dY.put L.rel r⟩
 ·obtain⟨h1,h2⟩:=L.bh a e
  exact⟨by rw [upd_ne (λz=>nD (by rw [<-z];exact e))];exact h1,h2⟩
 ·have:=uD ws j v
  have:=L.len
  simp only [Kad]
  omega
theorem BH {it:SI}{g:SG}{tt:ST}{ek e:SE}{vs:List Nat}(hv:∀i∈g.ix,i∈vs)(K:Frag){sk:Option Addr}{F H:Hp}{σ:L2.St}{ρ:List Slot}{ak:List (List Addr)}{s s1 s':aa}{ds:List PyData}{f:List (Key×PyData)}{Q:VK}(p:Pre sk F H σ ρ ak s)(h1:it.ev ρ s=some (ds,s1))(h2:dQ g.ev tt.ev ek.ev e.ev (bq ρ vs) ds [] s1=some (f,s'))(hlen:f.length<=100000)
  (q:∀F1 H1 D F2 H2 ws,Step sk F H F1 H1->H1 D=none->sk≠some D->Ei sk F1 H1 D f F2 H2 s' ws->Q (.ref D) H2):tDc (it.t K) (g.t K) (tt.t K) (ek.t K) (e.t K) vs σ H Q:=by
 refine it.ok K p h1 λJ F1 H1 st1 k1 yl D nD=>?_
 have P1:=p.next st1 k1
 have dH:sk≠some D:=fJ k1 nD
 have xD:less H1 D=H1:=by
  funext a
  unfold less
  split
  ·rename_i z;rw [z,nD]
  ·rfl
 have start:Ei sk F1 H1 D [] F1 (upd H1 D (.dK [])) s1 []:=by
  have fD:F1 D=none:=P1.sub.free nD
  have st0:Step sk F1 (less H1 D) F1 H1:=by rw [xD];exact .refl P1.sub
  refine⟨st0.put fD,⟨λa ea=>?_,YO k1.tab nD⟩,upd_same,fD,Kat _,λk=>True.intro⟩
  obtain⟨z1,z2⟩:=k1 a ea
  exact⟨by rw [upd_ne (ne_of_none z1 nD)];exact z1,z2⟩
 refine⟨λi m H2=>∃F2 si fi ws,m=(ds.drop i).length/\i<=ds.length/\Same F1 F2/\Ei sk F1 H1 D fi F2 H2 si ws/\dQ g.ev tt.ev ek.ev e.ev (bq ρ vs) (ds.drop i) fi si=some (f,s'),
  ⟨ds.length,F1,s1,[],[],by simp,KaV _,Same.refl _,start,by simpa using h2⟩,λi m H2 hW=>?_⟩
 obtain⟨F2,si,fi,ws,em,hi,sF,L,hc⟩:=hW
 by_cases hlt:i<ds.length
 ·have ed:ds.drop i=ds[i]::ds.drop (i+1):=Kbg hlt
  have eg:ds[i]? = some ds[i]:=Kau hlt
  have hfl:=ZS hc
  rw [ed] at hc em
  obtain⟨go,yld⟩:=(yl F2 H2 i sF L.st.sub').1 _ eg
  unfold dQ at hc
  obtain⟨aB,c1,hc⟩:=aL hc
  obtain⟨⟨b,sb⟩,c2,hc⟩:=aL hc
  dsimp only at hc
  refine .inr ⟨go,λH'=>∃F3 qX TQ gn,Same F1 F3/\Ei sk F1 H1 D TQ F3 H' qX gn/\dQ g.ev tt.ev ek.ev e.ev (bq ρ vs) (ds.drop (i+1)) TQ qX=some (f,s'),λH' hN=>?_,λx H3 hy=>?_⟩
  ·obtain⟨F3,qX,TQ,gn,a1,a2,a3⟩:=hN
   exact⟨(ds.drop (i+1)).length,by rw [em];exact Kbq _,F3,qX,TQ,gn,rfl,hlt,a1,a2,a3⟩
  ·obtain⟨F3,rV,sa,r3⟩:=yld x H3 hy
   have L3:=L.step dH sa.any (L.bh.keep sa)
   have NX:Slots sk F1 (less H1 D) σ ρ ak:=by rw [xD];exact P1.slots
   have DW:=NX.step L3.st P1.jH
   obtain⟨fw,Mi,mw⟩:=DW.wipe vs
   refine g.ok K L3.st.sub' r3 Mi c1 λσ' aH sl' m' u' w'=>⟨?_,?_⟩
   ·rw [w' vs hv,TU]
   ·have P3:Pre sk F3 H3 σ' aB aH si:=⟨L3.st.sub',L3.bh,sl',λa ha ma=>P1.jH a ha (mw.mem (m' a ma)),P1.dX.sublist (u'.trans mw)⟩
    refine tt.ok K P3 c2 λF4 H4 uR k4=>?_
    have L4:=L3.step dH uR k4
    have sF4:Same F1 F4:=(sF.trans sa.sub).trans uR.sub
    split at hc
    ·rename_i eb
     rw [if_pos eb]
     obtain⟨⟨⟨xk,fk⟩,sx⟩,c3,hd⟩:=aL hc
     obtain⟨⟨⟨yv,fv⟩,sy⟩,c4,he⟩:=aL hd
     clear hc hd
     dsimp only at he
     refine ek.ok K (P3.next uR k4) c3 λkv F5 H5 VE st5 k5 r5 f5=>?_
     have L5:=L4.step dH st5 k5
     refine e.ok K ((P3.next uR k4).next st5 k5) c4 λvv F6 H6 N9 st6 k6 r6 f6=>?_
     have L6:=L5.step dH st6 k6
     split at he
     ·rename_i j ej
      have hkv:=r5.key ej
      subst hkv
      refine⟨ws,j,rfl,L6.hD,?_,F6,sy,_,_,(sF4.trans st5.sub).trans st6.sub,L6.put (j:=j) dH r6,he⟩
      have:=L.len
      exact Kbv (show ws.length<=100000 by omega) (by decide)
     ·cases he
    ·rename_i eb
     rw [if_neg eb]
     exact⟨F4,sb,fi,ws,sF4,L4,hc⟩
 ·have e1:i=ds.length:=by omega
  subst e1
  rw [Kbr] at hc
  unfold dQ at hc
  cases hc
  exact .inl ⟨(yl F2 H2 _ sF L.st.sub').2 (Kat _),q F1 H1 D F2 H2 ws st1 nD dH L⟩
/-- x,..={k: v for ..},.. -/
def SP.dc (i:Nat)(it:SI)(g:SG)(tt:ST)(ek e:SE)(vs:List Nat)(hv:∀i∈g.ix,i∈vs)(r:SP):SP where
 t:=λK=>tCons (tDc (it.t K) (g.t K) (tt.t K) (ek.t K) (e.t K) vs) (r.t K)
 ts:=i::r.ts
 ev:=λρ cN s=>(it.ev ρ s).bind λx=>(dQ g.ev tt.ev ek.ev e.ev (bq ρ vs) x.1 [] x.2).bind λy=>if y.1.length<=100000 then r.ev ρ (cN.set i (.cI y.1)) y.2 else none
 ok:=by
  intro K sk F0 H0 F H σ p_ ρ cN je ak cU s s' Q p w h q
  obtain⟨⟨ds,s1⟩,h1,g1⟩:=aL h
  obtain⟨⟨f,s2⟩,h2,g2⟩:=aL g1
  clear h g1
  dsimp only at g2 h2
  split at g2
  case isFalse=>cases g2
  rename_i hlen
  refine BH hv K p h1 h2 hlen λF1 H1 a F2 H2 ws st1 na dH L=>?_
  have xD:less H1 a=H1:=by
   funext b
   unfold less
   split
   ·rename_i z;rw [z,na]
   ·rfl
  have st2:Step sk F1 H1 F2 H2:=by
   have:=L.st
   rw [xD] at this
   exact this
  have st:=st1.trans st2
  have w1:=w.next st L.bh
  have nH:H a=none:=by
   cases z:H a with
   |none=>rfl
   |some u=>exact absurd na (st1.dm a (by rw [z];exact nofun))
  have wq:H0 a=none:=by
   cases z:H0 a with
   |none=>rfl
   |some u=>exact absurd nH (w.st.dm a (by rw [z];exact nofun))
  have nd:([a]++cU.flatten).Nodup:=Kal.mpr ⟨by simp,w.dX,λb mb c mc z=>by
   have:b=a:=by simpa using mb
   subst z
   exact (w.bT b mc).2.1 (by rw [this];exact nH)⟩
  obtain⟨m1,m2⟩:=u7 (i:=i) nd
  have wa:Wd sk F0 H0 F2 H2 (p_.set i (some (.ref a))) (cN.set i (.cI f)) (cU.set i [a]) s2:=by
   refine⟨w1.st,w1.bh,w1.slots.set ⟨a,ws,rfl,L.hD,L.fD,L.len,L.rel,rfl⟩,m1,λb m=>?_⟩
   rcases m2 b m with z|z
   ·have:b=a:=by simpa using z
    subst this
    exact⟨wq,by rw [L.hD];exact nofun,dH⟩
   ·exact w1.bT b z
  refine r.ok K (p.next st L.bh) wa g2 λvs F3 H3 fv sF w2 hl=>?_
  exact q (.ref a::vs) F3 H3 fv (st.sub.trans sF) w2 (by rw [Kad,Kad,hl])
/-- x={k: v for ..} -/
def SS.QW (i:Nat)(it:SI)(g:SG)(tt:ST)(ek e:SE)(vs:List Nat)(hv:∀i∈g.ix,i∈vs):SS where
 t:=λK=>tAsg (tDc (it.t K) (g.t K) (tt.t K) (ek.t K) (e.t K) vs) (gName i)
 ev:=λρ s=>((SP.dc i it g tt ek e vs hv SP.nil).ev ρ ρ s).bind λx=>some (.nx x.1 x.2)
 ok:=by
  intro K sk F0 H0 F H σ ρ ak s out D w h q
  obtain⟨⟨aB,s1⟩,h1,h2⟩:=aL h
  cases h2
  have:=(SP.dc i it g tt ek e vs hv SP.nil).ok K (Q:=λvs H'=>D.nx (σ.set i vs.head?) H') w.pre w h1 λvs F1 H1 fv sF w1 hl=>by
   match vs,hl with
   |[v],_=>exact q F1 H1 _ fv sF w1
  exact this
end Pu
namespace Pu
variable [aZ]
open PySem PySem.Spec PyProof.Rows L2
section
variable {X:Cx}{kx vx tg iter:Expr}{ifs:List Expr}{scope:Scope}{pos:Pos}{wi:TI}
theorem Dr (gS:SG)(tS:ST)(kS eS:SE)(own:List (Str×Nat))(hc:X.calm=true)(hN:X.N.Nodup)(hi:PI X tg iter wi)(ok:BlkOk X.N X.env.scope scope own)
  (hg:∀(s:Shared) (H:Hp) (C:Addr) (cl:List (Str×Addr)) (fp:List Addr),∃g,PG (X.blk s H scope (compEnvC scope cl C X.env) fp) tg g/\g=gS.t X.K)
  (ht:∀(s:Shared) (H:Hp) (C:Addr) (cl:List (Str×Addr)) (fp:List Addr),∃tt,PTs (X.blk s H scope (compEnvC scope cl C X.env) fp) ifs tt/\tt=tS.t X.K)
  (hk:∀(s:Shared) (H:Hp) (C:Addr) (cl:List (Str×Addr)) (fp:List Addr),∃te,PE (X.blk s H scope (compEnvC scope cl C X.env) fp) kx te/\te=kS.t X.K)
  (he:∀(s:Shared) (H:Hp) (C:Addr) (cl:List (Str×Addr)) (fp:List Addr),∃te,PE (X.blk s H scope (compEnvC scope cl C X.env) fp) vx te/\te=eS.t X.K) (hs:∀x,foldedSetIterable iter X.env x=pure x:=by intro _;rfl):
  PE X (.DictComp kx vx [⟨tg,iter,ifs,0⟩] scope pos) (tDc wi (gS.t X.K) (tS.t X.K) (kS.t X.K) (eS.t X.K) (own.map (·.2))):=
 pe_dc hc hN hi ok (λa b c d e=>by obtain⟨_,h,rfl⟩:=hg a b c d e;exact h) (λa b c d e=>by obtain⟨_,h,rfl⟩:=ht a b c d e;exact h) (λa b c d e=>by obtain⟨_,h,rfl⟩:=hk a b c d e;exact h) (λa b c d e=>by obtain⟨_,h,rfl⟩:=he a b c d e;exact h) hs
end
/-- x,y=e1,e2 where a tuple is made -/
def SS.Be (i j:Nat)(p:SP)(hp:p.ts=[i,j]):SS where
 t:=λK=>tAsg (tTup (p.t K)) (gTup K 2 ((c9.cons (aT i) (c9.cons (aT j) c9.nil)).t K))
 ev:=λρ s=>(p.ev ρ ρ s).bind λx=>some (.nx x.1 x.2)
 ok:=by
  intro K sk F0 H0 F H σ ρ ak s out D w h q
  obtain⟨⟨x,s1⟩,h1,h2⟩:=aL h
  cases h2
  refine p.ok K w.pre w h1 λvs F1 H1 fv sF w1 hl=>?_
  rw [hp] at hl w1
  match vs,hl with
  |[v1,v2],_=>
   refine⟨by show 2<=sizeLine;decide,λa na=>⟨a,[v1,v2],rfl,.inl (.inl upd_same),rfl,?_⟩⟩
   have sr:bw F1 H1 F1 (L2.upd H1 a (.tup [v1,v2])):=.raw (sk:=sk) w1.st.sub' na
   have w2:=w1.next (sr.any (sk:=sk)) (w1.bh.keep sr)
   exact⟨v1,[v2],rfl,v2,[],rfl,rfl,q F1 _ _ fv sF w2⟩
section
variable {ρ:List Slot}{s:aa}{a b c:SE}{i j k:Nat}
@[simp] theorem BC {p p':Int->Int->Bool}:(SE.av p p' a b c).ev ρ s=(a.ev ρ s).bind λx=>(b.ev ρ x.2).bind λy=>match x.1.1,y.1.1 with
  |.int i,.int j=>if p i j=true then (c.ev ρ y.2).bind λz=>match z.1.1 with|.int k=>some ((.bool (p' j k),true),z.2)|_=>none else some ((.bool false,true),y.2)
  |_,_=>none:=rfl
@[simp] theorem tR:(SI.down a b).ev ρ s=(a.ev ρ s).bind λx=>(b.ev ρ x.2).bind λy=>match x.1.1,y.1.1 with|.int i,.int j=>if (-1000000<=i/\i<=1000000)/\-1000000<=j/\j<=1000000 then some (fE i (i-j).toNat,y.2) else none|_,_=>none:=rfl
@[simp] theorem CJ {it it1:SI}{g g1:SG}{tt tt1:ST}{vs vs1:List Nat}{hv:∀i∈g.ix,i∈vs}{hv1:∀i∈g1.ix,i∈vs1}:(SE.lc2 it g tt it1 g1 tt1 a vs vs1 hv hv1).ev ρ s=(it.ev ρ s).bind λx=>(BL g.ev tt.ev it1.ev g1.ev tt1.ev a.ev vs1 (bq ρ vs) x.1 x.2).bind λy=>if y.1.length<=100000 then some ((.list (y.1.map (·.1)),y.1.all fN),y.2) else none:=rfl
@[simp] theorem BI:(NT i a).ev ρ s=match ρ[i]? with|some (.cI f)=>((a.ev ρ s).bind λy=>match keyOf y.1.1 with|some j=>some ((.bool (cD f j).isSome,true),y.2)|none=>none)|_=>none:=rfl
@[simp] theorem Dq {cN:List Slot}{it:SI}{g:SG}{tt:ST}{vs:List Nat}{hv:∀i∈g.ix,i∈vs}{r:SP}:(SP.dc i it g tt a b vs hv r).ev ρ cN s=(it.ev ρ s).bind λx=>(dQ g.ev tt.ev a.ev b.ev (bq ρ vs) x.1 [] x.2).bind λy=>if y.1.length<=100000 then r.ev ρ (cN.set i (.cI y.1)) y.2 else none:=rfl
@[simp] theorem wY {p:SP}{hp:p.ts=[i,j]}:(SS.Be i j p hp).ev ρ s=(p.ev ρ ρ s).bind λx=>some (.nx x.1 x.2):=rfl
@[simp] theorem DQ {it:SI}{g:SG}{tt:ST}{vs:List Nat}{hv:∀i∈g.ix,i∈vs}:(SS.QW i it g tt a b vs hv).ev ρ s=((SP.dc i it g tt a b vs hv SP.nil).ev ρ ρ s).bind λx=>some (.nx x.1 x.2):=rfl
end
end Pu
namespace Pu
open PySem PySem.Spec PyProof.Rows PySem.W
open AutoSeq1 (wpAny_loadPart')
abbrev JD (h:Heap)(z TI TO:Addr)(f0:Value)(f:Bool):Prop:=
 h.get? z=some { cls:=.type "zip",dict:=none,data:=.fields #[f0,.bool f,.bool false,.ref TI,.ref TO],slots:=#[] }
def VC (f0:Value):Prop:=f0=.none∨∃T:Addr,f0=rawInt T
end Pu
namespace Pu
open PySem PySem.Spec PyProof.Rows PySem.W
open AutoSeq1 (wpAny_loadPart')
section
variable {prog:Program}{w:World}{A:Around}{E:Value->Shared->Prop}{s:Shared}
structure hzi (h:Heap)(z TI TO i1 i2 l1 l2:Addr)(k:Nat):Prop where
 z:∃f0 f,JD h z TI TO f0 f/\VC f0
 ti:IsPair h TI (.ref i1) (.ref i2)
 to:∃a b,IsPair h TO a b
 h1:h.IsListIter i1 l1 k
 h2:h.IsListIter i2 l2 k
theorem hzi.keep {h h':Heap}{z TI TO i1 i2 l1 l2:Addr}{k:Nat}(S:hzi h z TI TO i1 i2 l1 l2 k)(q:∀b∈[z,TI,TO,i1,i2],∀o,h.get? b=some o->h'.get? b=some o):hzi h' z TI TO i1 i2 l1 l2 k:=by
 obtain⟨⟨f0,f,hz,hf⟩,hTI,⟨a,b,hTO⟩,h1,h2⟩:=S
 exact⟨⟨f0,f,q z (by simp) _ hz,hf⟩,q TI (by simp) _ hTI,⟨a,b,q TO (by simp) _ hTO⟩,h1.at λo e=>q i1 (by simp) o e,h2.at λo e=>q i2 (by simp) o e⟩
end
end Pu
namespace Pu
open PySem L2
class Enc (α:Type) where
 enc:α->PyData
open Enc
structure T3 (α β γ:Type) where
 x:α
 y:β
 z:γ
deriving DecidableEq
structure T4 (α β γ δ:Type) where
 x:α
 y:β
 z:γ
 u:δ
deriving DecidableEq
structure T5 (α β γ δ ε:Type) where
 x:α
 y:β
 z:γ
 u:δ
 v:ε
deriving DecidableEq
instance [Inhabited α][Inhabited β][Inhabited γ]:Inhabited (T3 α β γ):=⟨⟨default,default,default⟩⟩
instance [Inhabited α][Inhabited β][Inhabited γ][Inhabited δ]:Inhabited (T4 α β γ δ):=⟨⟨default,default,default,default⟩⟩
instance [Inhabited α][Inhabited β][Inhabited γ][Inhabited δ][Inhabited ε]:Inhabited (T5 α β γ δ ε):=⟨⟨default,default,default,default,default⟩⟩
instance:Enc Int:=⟨.int⟩
instance:Enc Bool:=⟨.bool⟩
instance:Enc Unit:=⟨λ_=>.none⟩
instance:Enc Str:=⟨.str⟩
instance [Enc α]:Enc (List α):=⟨λxs=>.list (xs.map enc)⟩
instance [Enc α]:Enc (Option α):=⟨λo=>match o with|none=>.none|some x=>enc x⟩
instance [Enc α][Enc β]:Enc (α×β):=⟨λp=>.tuple [enc p.1,enc p.2]⟩
instance [Enc α][Enc β][Enc γ]:Enc (T3 α β γ):=⟨λp=>.tuple [enc p.x,enc p.y,enc p.z]⟩
instance [Enc α][Enc β][Enc γ][Enc δ]:Enc (T4 α β γ δ):=⟨λp=>.tuple [enc p.x,enc p.y,enc p.z,enc p.u]⟩
instance [Enc α][Enc β][Enc γ][Enc δ][Enc ε]:Enc (T5 α β γ δ ε):=⟨λp=>.tuple [enc p.x,enc p.y,enc p.z,enc p.u,enc p.v]⟩
/-- no list within -/
class Flat (α:Type) [Enc α]:Prop where
 fl:∀x:α,aM (enc x)=true
instance:Flat Int:=⟨λ_=>rfl⟩
instance:Flat Bool:=⟨λ_=>rfl⟩
instance:Flat Unit:=⟨λ_=>rfl⟩
instance:Flat Str:=⟨λ_=>rfl⟩
instance [Enc α][Flat α]:Flat (Option α):=⟨λo=>match o with|none=>rfl|some x=>Flat.fl x⟩
instance [Enc α][Enc β][Flat α][Flat β]:Flat (α×β):=⟨λp=>by
 show fM [enc p.1,enc p.2]=true
 simp [fM,Flat.fl]⟩
instance [Enc α][Enc β][Enc γ][Flat α][Flat β][Flat γ]:Flat (T3 α β γ):=⟨λp=>by
 show fM [enc p.x,enc p.y,enc p.z]=true
 simp [fM,Flat.fl]⟩
theorem hza [Enc α][Flat α]:∀xs:List α,fM (xs.map enc)=true
 |[]=>rfl
 |x::xs=>by simp [fM,Flat.fl,hza xs]
/-- data with == -/
class bF (α:Type) extends Enc α where
 dec:DecidableEq α
 dep:Nat
 lay:∀x:α,(enc x).canLay0=true
 cV:∀x:α,(enc x).depth<=dep
 eqv:∀x y:α,PyData.eqv (enc x) (enc y)=decide (x=y)
instance (priority:=50)[bF α]:DecidableEq α:=bF.dec
def hxj [bF α]:∀xs:List α,PyData.canLayAll0 (xs.map enc)=true
 |[]=>rfl
 |x::xs=>by simp [PyData.canLayAll0,bF.lay,hxj xs]
theorem hxk [bF α]:∀xs:List α,PyData.depthAll (xs.map enc)<=bF.dep α
 |[]=>KaV _
 |x::xs=>by
  have h1:=bF.cV x
  have h2:=hxk xs
  simp only [Kai,PyData.depthAll]
  omega
theorem hzh [bF α]:∀xs ys:List α,PyData.eqvAll (xs.map enc) (ys.map enc)=decide (xs=ys)
 |[],[]=>by simp [PyData.eqvAll]
 |[],y::ys=>by simp [PyData.eqvAll]
 |x::xs,[]=>by simp [PyData.eqvAll]
 |x::xs,y::ys=>by
  simp only [Kai,PyData.eqvAll,bF.eqv,hzh xs ys,List.cons.injEq]
  by_cases h1:x=y <;> by_cases h2:xs=ys <;> simp [h1,h2]
instance:bF Int where
 dec:=inferInstance
 dep:=0
 lay:=λ_=>rfl
 cV:=λ_=>Kat _
 eqv:=λx y=>by
  show PyData.eqv (.int x) (.int y)=_
  simp only [PyData.eqv]
  by_cases h:x=y <;> simp [h]
instance:bF Bool where
 dec:=inferInstance
 dep:=0
 lay:=λ_=>rfl
 cV:=λ_=>Kat _
 eqv:=λx y=>by
  cases x <;> cases y <;> rfl
instance [bF α]:bF (List α) where
 dec:=inferInstance
 dep:=bF.dep α+1
 lay:=λxs=>by
  show PyData.canLay0 (.list (xs.map enc))=true
  simpa [PyData.canLay0] using hxj xs
 cV:=λxs=>by
  show PyData.depth (.list (xs.map enc))<=_
  have:=hxk xs
  simp only [PyData.depth];omega
 eqv:=λxs ys=>by
  show PyData.eqv (.list (xs.map enc)) (.list (ys.map enc))=_
  simp only [PyData.eqv];exact hzh xs ys
instance [bF α][bF β]:bF (α×β) where
 dec:=inferInstance
 dep:=max (bF.dep α) (bF.dep β)+1
 lay:=λp=>by
  show PyData.canLay0 (.tuple [enc p.1,enc p.2])=true
  simp [PyData.canLay0,PyData.canLayAll0,bF.lay]
 cV:=λp=>by
  show PyData.depth (.tuple [enc p.1,enc p.2])<=_
  have h1:=bF.cV p.1
  have h2:=bF.cV p.2
  simp only [PyData.depth,PyData.depthAll];omega
 eqv:=λp q=>by
  show PyData.eqv (.tuple [enc p.1,enc p.2]) (.tuple [enc q.1,enc q.2])=_
  simp only [PyData.eqv,PyData.eqvAll,bF.eqv]
  obtain⟨a,b⟩:=p
  obtain⟨c,d⟩:=q
  by_cases h1:a=c <;> by_cases h2:b=d <;> simp [h1,h2]
instance [bF α][bF β][bF γ]:bF (T3 α β γ) where
 dec:=inferInstance
 dep:=max (max (bF.dep α) (bF.dep β)) (bF.dep γ)+1
 lay:=λp=>by
  show PyData.canLay0 (.tuple [enc p.x,enc p.y,enc p.z])=true
  simp [PyData.canLay0,PyData.canLayAll0,bF.lay]
 cV:=λp=>by
  show PyData.depth (.tuple [enc p.x,enc p.y,enc p.z])<=_
  have h1:=bF.cV p.x
  have h2:=bF.cV p.y
  have h3:=bF.cV p.z
  simp only [PyData.depth,PyData.depthAll];omega
 eqv:=λp q=>by
  show PyData.eqv (.tuple [enc p.x,enc p.y,enc p.z]) (.tuple [enc q.x,enc q.y,enc q.z])=_
  simp only [PyData.eqv,PyData.eqvAll,bF.eqv]
  obtain⟨a,b,e⟩:=p
  obtain⟨c,d,f⟩:=q
  by_cases h1:a=c <;> by_cases h2:b=d <;> by_cases h3:e=f <;> simp [h1,h2,h3]
instance [bF α][bF β][bF γ][bF δ]:bF (T4 α β γ δ) where
 dec:=inferInstance
 dep:=max (max (bF.dep α) (bF.dep β)) (max (bF.dep γ) (bF.dep δ))+1
 lay:=λp=>by
  show PyData.canLay0 (.tuple [enc p.x,enc p.y,enc p.z,enc p.u])=true
  simp [PyData.canLay0,PyData.canLayAll0,bF.lay]
 cV:=λp=>by
  show PyData.depth (.tuple [enc p.x,enc p.y,enc p.z,enc p.u])<=_
  have h1:=bF.cV p.x
  have h2:=bF.cV p.y
  have h3:=bF.cV p.z
  have h4:=bF.cV p.u
  simp only [PyData.depth,PyData.depthAll];omega
 eqv:=λp q=>by
  show PyData.eqv (.tuple [enc p.x,enc p.y,enc p.z,enc p.u]) (.tuple [enc q.x,enc q.y,enc q.z,enc q.u])=_
  simp only [PyData.eqv,PyData.eqvAll,bF.eqv]
  obtain⟨a,b,e,g⟩:=p
  obtain⟨c,d,f,h⟩:=q
  by_cases h1:a=c <;> by_cases h2:b=d <;> by_cases h3:e=f <;> by_cases h4:g=h <;> simp [h1,h2,h3,h4]
/-- never aq5 -/
class NN (α:Type) [Enc α]:Prop where
 nn:∀x:α,AG (enc x)=false
instance:NN Int:=⟨λ_=>rfl⟩
instance:NN Bool:=⟨λ_=>rfl⟩
instance:NN Str:=⟨λ_=>rfl⟩
instance [Enc α]:NN (List α):=⟨λ_=>rfl⟩
instance [Enc α][Enc β]:NN (α×β):=⟨λ_=>rfl⟩
instance [Enc α][Enc β][Enc γ]:NN (T3 α β γ):=⟨λ_=>rfl⟩
instance [Enc α][Enc β][Enc γ][Enc δ]:NN (T4 α β γ δ):=⟨λ_=>rfl⟩
theorem BW {d:PyData}(h:AG d=false):PyData.eqv .none d=false:=by cases d <;> first|rfl|(simp [AG] at h)
theorem BX {d:PyData}(h:AG d=false):PyData.eqv d .none=false:=by cases d <;> first|rfl|(simp [AG] at h)
instance [bF α][NN α]:bF (Option α) where
 dec:=inferInstance
 dep:=bF.dep α
 lay:=λo=>match o with|none=>rfl|some x=>bF.lay x
 cV:=λo=>match o with|none=>KaV _|some x=>bF.cV x
 eqv:=λo q=>match o,q with
  |none,none=>by simp [PyData.eqv,enc]
  |none,some y=>(BW (NN.nn y)).trans (by simp)
  |some x,none=>(BX (NN.nn x)).trans (by simp)
  |some x,some y=>(bF.eqv x y).trans (by simp)
theorem xE [bF α](x y:α)(hd:bF.dep α<=64):Ew (enc x) (enc y)=some (decide (x=y)):=by
 have sx:SeqAt.shaped (enc x)=true:=by
  unfold SeqAt.shaped
  rw [bF.lay,decide_eq_true (KaB (bF.cV x) hd)];rfl
 have sy:SeqAt.shaped (enc y)=true:=by
  unfold SeqAt.shaped
  rw [bF.lay,decide_eq_true (KaB (bF.cV y) hd)];rfl
 rw [<-bF.eqv x y]
 generalize enc x=d at sx
 generalize enc y=e at sy
 unfold Ew
 split
 ·rename_i i j
  simp only [PyData.eqv]
  by_cases h:i=j <;> simp [h]
 ·simp only [PyData.eqv]
 ·rw [if_pos ⟨sx,sy⟩]
variable [aZ]
def JE {α:Type}[Enc α](e:SE)(ρ:List Slot)(s:aa)(x:α)(s':aa)(w:Bool):Prop:=∃w',e.ev ρ s=some ((enc x,w'),s')/\(w=true->w'=true)
def JT (c:ST)(ρ:List Slot)(s:aa)(P:Prop)[Decidable P](s':aa):Prop:=c.ev ρ s=some (decide P,s')
def JI {α:Type}[Enc α](i:SI)(ρ:List Slot)(s:aa)(xs:List α)(s':aa):Prop:=i.ev ρ s=some (xs.map enc,s')
def JA (a:SA)(ρ:List Slot)(s:aa)(ds:List PyData)(s':aa)(w:Bool):Prop:=∃gk:List Vl,a.ev ρ s=some (gk,s')/\gk.map (·.1)=ds/\(w=true->(gk.all λz=>z.2 ||aM z.1)=true)
def JO (o:SO)(ρ:List Slot)(s:aa)(x:Option Int)(s':aa):Prop:=o.ev ρ s=some (x,s')
def JC (r:SR)(ρ:List Slot)(s:aa)(sl:List Slot)(s':aa):Prop:=r.ev ρ s=some (sl,s')
def JF {α:Type}[Enc α](m:Fn)(args:List Slot)(s:aa)(x:α)(s':aa)(w:Bool):Prop:=∃w',m args s=some ((enc x,w'),s')/\(w=true->w'=true)
section
variable {ρ:List Slot}{s s1 s2 s3:aa}{a b c:SE}{i j k:Nat}{w w1 w2:Bool}
theorem kO {α:Type}[Enc α]{x:α}(h:JE a ρ s x s1 w):JE a ρ s x s1 false:=by
 obtain⟨w',e,_⟩:=h
 exact⟨w',e,nofun⟩
theorem U_ {α:Type}[Enc α]{x y:α}(h:JE a ρ s x s1 w)(e:x=y):JE a ρ s y s1 w:=e ▸ h
theorem aj {α:Type}[Enc α]{x:α}(h:ρ[i]? = some (.dat (enc x))):JE (hjl i) ρ s x s false:=⟨false,by rw [hjj,h],nofun⟩
theorem NS {α:Type}[Enc α]{x:α}(h:ρ[i]? = some (.own (enc x))):JE (hjl i) ρ s x s false:=⟨false,by rw [hjj,h],nofun⟩
theorem JE.ab (n:Int):JE (SE.ab n) ρ s n s true:=⟨true,rfl,λ_=>rfl⟩
theorem JE.bool (n:Bool):JE (SE.bool n) ρ s n s true:=⟨true,rfl,λ_=>rfl⟩
theorem JE.Vh {α:Type}[Enc α]:JE SE.non ρ s (Option.none:Option α) s true:=⟨true,rfl,λ_=>rfl⟩
theorem JE.Qy {α:Type}[Enc α]{x:α}(h:JE a ρ s x s1 w):JE a ρ s (Option.some x) s1 w:=h
theorem JE.Ec {α:Type}[Enc α][Inhabited α]{x:Option α}(h:JE a ρ s x s1 w)(hx:x.isSome=true):JE a ρ s (x.getD default) s1 w:=by
 cases x with
 |none=>cases hx
 |some y=>exact h
theorem d7 {r:Frag->R2}{f:PyData->PyData->Option Vl}{hr:N4 r f}{d e:PyData}{wa wb:Bool}{z:Vl}(ha:a.ev ρ s=some ((d,wa),s1))(hb:b.ev ρ s1=some ((e,wb),s2))(hf:f d e=some z):(ji r f hr a b).ev ρ s=some (z,s2):=by
 show ((a.ev ρ s).bind λx=>(b.ev ρ x.2).bind λy=>(f x.1.1 y.1.1).bind λz=>some (z,y.2))=_
 rw [ha]
 simp only [Kaj]
 rw [hb]
 simp only [Kaj]
 rw [hf];rfl
theorem lQ {r:Frag->List V->Hp->VK->Prop}{f:List PyData->Option Vl}{hr:Rn r f}{d:PyData}{wa:Bool}{z:Vl}(ha:a.ev ρ s=some ((d,wa),s1))(hf:f [d]=some z):(rA r f hr (.cons a .nil)).ev ρ s=some (z,s1):=by
 rw [Iz,IT,ha]
 simp only [Kaj,UG,Kai,Kb4]
 rw [hf];rfl
theorem VG {r:Frag->List V->Hp->VK->Prop}{f:List PyData->Option Vl}{hr:Rn r f}{d e:PyData}{wa wb:Bool}{z:Vl}(ha:a.ev ρ s=some ((d,wa),s1))(hb:b.ev ρ s1=some ((e,wb),s2))(hf:f [d,e]=some z):(rA r f hr (.cons a (.cons b .nil))).ev ρ s=some (z,s2):=by
 rw [Iz,IT,ha]
 simp only [Kaj]
 rw [IT,hb]
 simp only [Kaj,UG,Kai,Kb4]
 rw [hf];rfl
section
variable {x y:Int}(ha:JE a ρ s x s1 w1)(hb:JE b ρ s1 y s2 w2)
include ha hb
theorem iB:JE (fL a b) ρ s (x+y) s2 true:=by
 obtain⟨_,ea,_⟩:=ha;obtain⟨_,eb,_⟩:=hb;exact⟨true,d7 ea eb rfl,λ_=>rfl⟩
theorem Gy:JE (AR a b) ρ s (x-y) s2 true:=by
 obtain⟨_,ea,_⟩:=ha;obtain⟨_,eb,_⟩:=hb;exact⟨true,d7 ea eb rfl,λ_=>rfl⟩
theorem GC (h:x.natAbs<18446744073709551616∨y.natAbs<18446744073709551616):JE (xU a b) ρ s (x*y) s2 true:=by
 obtain⟨_,ea,_⟩:=ha;obtain⟨_,eb,_⟩:=hb
 refine⟨true,d7 ea eb ?_,λ_=>rfl⟩
 show fF _ (.int x) (.int y)=_
 rw [Pq,if_pos (by unfold j_;rcases h with h|h <;> simp [h])];rfl
theorem AO (h:0<y/\y<1000000000000000000000000000000000000000000000000000000000000):JE (vp a b) ρ s (x / y) s2 true:=by
 obtain⟨_,ea,_⟩:=ha;obtain⟨_,eb,_⟩:=hb
 refine⟨true,d7 ea eb ?_,λ_=>rfl⟩
 show fF _ (.int x) (.int y)=_
 rw [Pq,if_pos (by unfold oF;simp [h.1,h.2])];rfl
theorem vt (h:0<y):JE (o6 a b) ρ s (x % y) s2 true:=by
 obtain⟨_,ea,_⟩:=ha;obtain⟨_,eb,_⟩:=hb
 refine⟨true,d7 ea eb ?_,λ_=>rfl⟩
 show fF _ (.int x) (.int y)=_
 rw [Pq,if_pos (decide_eq_true h)];rfl
theorem NK (h:gb x y=true):JE (EI a b) ρ s (x ^ y.toNat) s2 true:=by
 obtain⟨_,ea,_⟩:=ha;obtain⟨_,eb,_⟩:=hb
 refine⟨true,d7 ea eb ?_,λ_=>rfl⟩
 show fF _ (.int x) (.int y)=_
 rw [Pq,if_pos h];rfl
theorem xT:JE (qw a b) ρ s (decide (x<y)) s2 true:=by
 obtain⟨_,ea,_⟩:=ha;obtain⟨_,eb,_⟩:=hb;exact⟨true,d7 ea eb rfl,λ_=>rfl⟩
theorem JE.le:JE (SE.le a b) ρ s (decide (x<=y)) s2 true:=by
 obtain⟨_,ea,_⟩:=ha;obtain⟨_,eb,_⟩:=hb;exact⟨true,d7 ea eb rfl,λ_=>rfl⟩
theorem JE.gt:JE (GD a b) ρ s (decide (y<x)) s2 true:=by
 obtain⟨_,ea,_⟩:=ha;obtain⟨_,eb,_⟩:=hb;exact⟨true,d7 ea eb rfl,λ_=>rfl⟩
theorem Ln:JE (Cr a b) ρ s (max x y) s2 true:=by
 obtain⟨_,ea,_⟩:=ha;obtain⟨_,eb,_⟩:=hb;exact⟨true,VG ea eb rfl,λ_=>rfl⟩
end
theorem JE.neg {x:Int}(ha:JE a ρ s x s1 w):JE (NW a) ρ s (-x) s1 true:=by
 obtain⟨_,ea,_⟩:=ha
 exact⟨true,by rw [C4,ea];rfl,λ_=>rfl⟩
theorem JE.abs {x:Int}(ha:JE a ρ s x s1 w):JE (SE.abs a) ρ s (if x<0 then -x else x) s1 true:=by
 obtain⟨_,ea,_⟩:=ha;exact⟨true,lQ ea rfl,λ_=>rfl⟩
theorem EF {x:Int}(ha:JE a ρ s x s1 w):JE (oZ a) ρ s x s1 true:=by
 obtain⟨_,ea,_⟩:=ha;exact⟨true,lQ ea rfl,λ_=>rfl⟩
def b2i (b:Bool):Int:=if b=true then 1 else 0
theorem iql {x:Bool}(ha:JE a ρ s x s1 w):JE (oZ a) ρ s (b2i x) s1 true:=by
 obtain⟨_,ea,_⟩:=ha;exact⟨true,lQ ea (by cases x <;> rfl),λ_=>rfl⟩
section
variable {α:Type}[bF α]{x y:α}(ha:JE a ρ s x s1 w1)(hb:JE b ρ s1 y s2 w2)
include ha hb
theorem jW {inst:Decidable (x=y)}(hd:bF.dep α<=64:=by decide):JE (fX a b) ρ s (@decide (x=y) inst) s2 true:=by
 obtain⟨_,ea,_⟩:=ha;obtain⟨_,eb,_⟩:=hb
 have e:@decide (x=y) inst=@decide (x=y) (bF.dec x y):=by congr 1
 rw [e]
 exact⟨true,d7 ea eb (by rw [xE x y hd];rfl),λ_=>rfl⟩
theorem CA {inst:Decidable (x≠y)}(hd:bF.dep α<=64:=by decide):JE (vy a b) ρ s (@decide (x≠y) inst) s2 true:=by
 obtain⟨_,ea,_⟩:=ha;obtain⟨_,eb,_⟩:=hb
 have e:@decide (x≠y) inst=!@decide (x=y) (bF.dec x y):=by
  by_cases h:x=y <;> simp [h]
 rw [e]
 exact⟨true,d7 ea eb (by rw [xE x y hd];simp [enc]),λ_=>rfl⟩
end
theorem JE.Lj {α:Type}[Enc α][NN α]{x:Option α}(ha:JE a ρ s x s1 w):JE (SE.Lj a SE.non) ρ s (decide (x=Option.none)) s1 true:=by
 obtain⟨_,ea,_⟩:=ha
 refine⟨true,d7 ea (Dc) ?_,λ_=>rfl⟩
 cases x with
 |none=>rfl
 |some y=>show some (PyData.bool (AG (enc y)),true)=_;rw [NN.nn y];rfl
theorem JE.GV {x y:Str}(ha:JE a ρ s x s1 w1)(hb:JE b ρ s1 y s2 w2):JE (SE.GV a b) ρ s (decide (x≠y)) s2 true:=by
 obtain⟨_,ea,_⟩:=ha;obtain⟨_,eb,_⟩:=hb;exact⟨true,d7 ea eb (by simp [enc]),λ_=>rfl⟩
/-- what repr aq0 -/
def rep {α:Type}[Enc α](x:α):Str:=(enc x).shown
theorem NL {α:Type}[Enc α]{x:α}(ha:JE a ρ s x s1 w)(h:oA (enc x)=true):JE (Je a) ρ s (rep x) s1 true:=by
 obtain⟨_,ea,_⟩:=ha
 exact⟨true,lQ ea (by show (if oA (enc x)=true then _ else _)=_;rw [if_pos h];rfl),λ_=>rfl⟩
theorem zD {x:Bool}(ha:JE a ρ s x s1 w):JE a ρ s (decide (x=true)) s1 w:=by rw [KbE];exact ha
theorem JE.N7 {P Q:Prop}[Decidable P][Decidable Q](ha:JE a ρ s (decide P) s1 w1)(hb:P->JE b ρ s1 (decide Q) s1 w2):JE (NJ a b) ρ s (decide (P/\Q)) s1 false:=by
 obtain⟨_,ea,_⟩:=ha
 by_cases h:P
 ·obtain⟨w',eb,_⟩:=hb h
  refine⟨w',?_,nofun⟩
  rw [hqc,ea]
  simp only [Kaj]
  rw [show (enc (decide P))=PyData.bool true from by simp [h,enc]]
  show b.ev ρ s1=_
  rw [eb]
  simp [h]
 ·refine⟨true,?_,nofun⟩
  rw [hqc,ea]
  simp only [Kaj]
  rw [show (enc (decide P))=PyData.bool false from by simp [h,enc]]
  simp [h,enc]
theorem JT.ab {P:Prop}[Decidable P](h:JE a ρ s (decide P) s1 w):JT (ST.ab a) ρ s P s1:=by
 obtain⟨_,e,_⟩:=h
 unfold JT
 rw [Ef,e];rfl
theorem JT.yes:JT cT ρ s True s:=by unfold JT;rw [UU];simp
theorem JT.not {c:ST}{P:Prop}[Decidable P](h:JT c ρ s P s1):JT (ST.ac c) ρ s (¬P) s1:=by
 unfold JT at h ⊢
 rw [yu,h];simp
theorem NO {c d:ST}{P Q:Prop}[Decidable P][Decidable Q](h:JT c ρ s P s1)(g:P->JT d ρ s1 Q s1):JT (EJ c d) ρ s (P/\Q) s1:=by
 unfold JT at h g ⊢
 rw [hjd,h]
 by_cases p:P
 ·simp [p,g p]
 ·simp [p]
theorem JT.or {c d:ST}{P Q:Prop}[Decidable P][Decidable Q](h:JT c ρ s P s1)(g:¬P->JT d ρ s1 Q s1):JT (CF c d) ρ s (P∨Q) s1:=by
 unfold JT at h g ⊢
 rw [hjh,h]
 by_cases p:P
 ·simp [p]
 ·simp [p,g p]
theorem JT.VD {c d:ST}{P:Prop}[Decidable P]{v:Bool×aa}(h:JT c ρ s P s1)(g:P->JT d ρ s1 (v.1=true) v.2):JT (EJ c d) ρ s ((if P then v else (false,s1)).1=true) (if P then v else (false,s1)).2:=by
 unfold JT at h g ⊢
 rw [hjd,h]
 by_cases p:P
 ·have:=g p
  simp [p] at this ⊢
  exact this
 ·simp [p]
theorem JT.orS {c d:ST}{P:Prop}[Decidable P]{v:Bool×aa}(h:JT c ρ s P s1)(g:¬P->JT d ρ s1 (v.1=true) v.2):JT (CF c d) ρ s ((if P then (true,s1) else v).1=true) (if P then (true,s1) else v).2:=by
 unfold JT at h g ⊢
 rw [hjh,h]
 by_cases p:P
 ·simp [p]
 ·have:=g p
  simp [p] at this ⊢
  exact this
theorem JT.Rr {c:ST}{P:Prop}[Decidable P](h:JT c ρ s P s1):JT c ρ s (decide P=true) s1:=by
 unfold JT at h ⊢
 rw [h];simp
theorem JT.nm {c:ST}{v:Bool×aa}{b:Bool}{s2:aa}(h:JT c ρ s (v.1=true) v.2)(e:v=(b,s2)):JT c ρ s (b=true) s2:=by subst e;exact h
theorem dG {α:Type}[Enc α]{v:α×aa}{x:α}{s2:aa}(h:JE a ρ s v.1 v.2 w)(e:v=(x,s2)):JE a ρ s x s2 w:=by subst e;exact h
theorem JE.ite {α:Type}[Enc α]{c:ST}{P:Prop}[Decidable P]{x y:α}(hc:JT c ρ s P s1)(ha:P->JE a ρ s1 x s1 w)(hb:¬P->JE b ρ s1 y s1 w):JE (CD c a b) ρ s (if P then x else y) s1 w:=by
 unfold JT at hc
 by_cases h:P
 ·obtain⟨w',e,q⟩:=ha h
  exact⟨w',by rw [P_,hc];simp [h,e],q⟩
 ·obtain⟨w',e,q⟩:=hb h
  exact⟨w',by rw [P_,hc];simp [h,e],q⟩
theorem JE.Qn {α:Type}[Enc α]{c:ST}{P:Prop}[Decidable P]{x y:α×aa}(hc:JT c ρ s P s1)(ha:P->JE a ρ s1 x.1 x.2 w)(hb:¬P->JE b ρ s1 y.1 y.2 w):JE (CD c a b) ρ s (if P then x else y).1 (if P then x else y).2 w:=by
 unfold JT at hc
 by_cases h:P
 ·obtain⟨w',e,q⟩:=ha h
  exact⟨w',by rw [P_,hc];simp [h,e],q⟩
 ·obtain⟨w',e,q⟩:=hb h
  exact⟨w',by rw [P_,hc];simp [h,e],q⟩
end
end Pu
namespace Pu
variable [aZ]
open PySem L2 Enc
/-- xs[i] -/
def aq {α:Type}[Inhabited α](xs:List α)(i:Int):α:=(atI xs i).getD default
def cut {α:Type}(xs:List α)(lo hi:Option Int):List α:=(xs.drop (HT.sIx xs.length 0 lo)).take (HT.sIx xs.length xs.length hi-HT.sIx xs.length 0 lo)
def rng (lo hi:Int):List Int:=(KaC (hi-lo).toNat).map λ(k:Nat)=>lo+(k:Int)
def QS (hi lo:Int):List Int:=(KaC (hi-lo).toNat).map λ(k:Nat)=>hi-(k:Int)
def cf {α:Type}(k:Int):List α->List (Int×α)
 |[]=>[]
 |x::xs=>(k,x)::cf (k+1) xs
theorem sH {α:Type}(f:α->PyData)(xs:List α)(lo hi:Option Int):fO (xs.map f) lo hi=(cut xs lo hi).map f:=by
 unfold fO cut
 rw [Kag,<-List.map_drop,<-List.map_take]
theorem kA:∀(n:Nat) (lo:Int),qi lo n=(KaC n).map λ(k:Nat)=>PyData.int (lo+(k:Int)):=by
 intro n lo
 apply List.ext_getElem?
 intro i
 rw [YZ,KaY]
 by_cases h:i<n
 ·rw [if_pos h,KbF h];rfl
 ·rw [if_neg h,Kb5 (by simpa using h)];rfl
theorem lY {α:Type}[Enc α]:∀(xs:List α) (k:Int),gO k (xs.map enc)=(cf k xs).map enc
 |[],_=>rfl
 |x::xs,k=>by
  show PyData.tuple [.int k,enc x]::gO (k+1) (xs.map enc)=_
  rw [lY xs (k+1)];rfl
theorem pZ {α β:Type}[Enc α][Enc β]:∀(xs:List α) (ys:List β),fg (xs.map enc) (ys.map enc)=(xs.zip ys).map enc
 |[],ys=>by cases ys <;> rfl
 |x::xs,[]=>rfl
 |x::xs,y::ys=>by
  show PyData.tuple [enc x,enc y]::fg (xs.map enc) (ys.map enc)=_
  rw [pZ xs ys];rfl
theorem wZ {α:Type}(f:α->PyData)(xs:List α)(i:Int):atI (xs.map f) i=(atI xs i).map f:=by
 unfold L2.atI
 simp only [Kag,KaY]
 cases L2.ixN xs.length i <;> rfl
section
variable {ρ:List Slot}{s s1 s2 s3:aa}{a b c:SE}{i j k:Nat}{w w1 w2:Bool}
theorem JA.nil:JA SA.nil ρ s [] s true:=⟨[],rfl,rfl,λ_=>rfl⟩
theorem JA.cons {α:Type}[Enc α]{x:α}{r:SA}{ds:List PyData}(he:JE a ρ s x s1 true)(hr:JA r ρ s1 ds s2 w):JA (SA.cons a r) ρ s (enc x::ds) s2 w:=by
 obtain⟨w',e1,q1⟩:=he
 obtain⟨gk,e2,rfl,q2⟩:=hr
 exact⟨(enc x,w')::gk,by rw [IT,e1];simp [e2],rfl,λh=>by simp only [Ka3,q1 rfl,Bool.true_or,Kc4];exact q2 h⟩
theorem JA.iH {α:Type}[Enc α][Flat α]{x:α}{r:SA}{ds:List PyData}(he:JE a ρ s x s1 w1)(hr:JA r ρ s1 ds s2 w):JA (SA.cons a r) ρ s (enc x::ds) s2 w:=by
 obtain⟨w',e1,q1⟩:=he
 obtain⟨gk,e2,rfl,q2⟩:=hr
 exact⟨(enc x,w')::gk,by rw [IT,e1];simp [e2],rfl,λh=>by simp only [Ka3,Flat.fl,Bool.or_true,Kc4];exact q2 h⟩
theorem vq {α:Type}[Enc α]{x:α}{r:SA}{ds:List PyData}(he:JE a ρ s x s1 w1)(hr:JA r ρ s1 ds s2 w):JA (SA.cons a r) ρ s (enc x::ds) s2 false:=by
 obtain⟨w',e1,q1⟩:=he
 obtain⟨gk,e2,rfl,q2⟩:=hr
 exact⟨(enc x,w')::gk,by rw [IT,e1];simp [e2],rfl,nofun⟩
theorem JA.tup {r:SA}{ds:List PyData}(h:JA r ρ s ds s1 w)(hl:ds.length<=100000):∃w',(SE.tup r).ev ρ s=some ((.tuple ds,w'),s1)/\(w=true->w'=true):=by
 obtain⟨gk,e,rfl,q⟩:=h
 refine⟨_,?_,q⟩
 rw [hxi,e]
 simp only [Kaj]
 rw [if_pos (by simpa using hl)]
theorem JA.lst {r:SA}{ds:List PyData}(h:JA r ρ s ds s1 w)(hl:ds.length<=100000):∃w',(SE.lst r).ev ρ s=some ((.list ds,w'),s1)/\(w=true->w'=true):=by
 obtain⟨gk,e,rfl,q⟩:=h
 refine⟨_,?_,q⟩
 rw [CV,e]
 simp only [Kaj]
 rw [if_pos (by simpa using hl)]
theorem hxv {α β:Type}[Enc α][Enc β]{x:α}{y:β}{r:SA}(h:JA r ρ s [enc x,enc y] s1 w):JE (SE.tup r) ρ s ((x,y):α×β) s1 w:=h.tup (by simp)
theorem JE.HG {α β γ:Type}[Enc α][Enc β][Enc γ]{x:α}{y:β}{z:γ}{r:SA}(h:JA r ρ s [enc x,enc y,enc z] s1 w):JE (SE.tup r) ρ s (T3.mk x y z) s1 w:=h.tup (by simp)
theorem Qt {α β γ δ:Type}[Enc α][Enc β][Enc γ][Enc δ]{x:α}{y:β}{z:γ}{u:δ}{r:SA}(h:JA r ρ s [enc x,enc y,enc z,enc u] s1 w):JE (SE.tup r) ρ s (T4.mk x y z u) s1 w:=h.tup (by simp)
theorem JE.lst {α:Type}[Enc α]{xs:List α}{r:SA}(h:JA r ρ s (xs.map enc) s1 w)(hl:xs.length<=100000:=by decide):JE (SE.lst r) ρ s xs s1 w:=h.lst (by simpa using hl)
theorem Qq {ds:List PyData}{d:PyData}{n:Int}{wa:Bool}(ha:a.ev ρ s=some ((.tuple ds,wa),s1))(h:atI ds n=some d):∃w',(cW a (SE.ab n)).ev ρ s=some ((d,w'),s1):=by
 refine⟨false,d7 ha Cz ?_⟩
 show (L2.atI ds n).map _=_
 rw [h];rfl
theorem JE.p21 {α β:Type}[Enc α][Enc β]{p:α×β}(ha:JE a ρ s p s1 w):JE (cW a (SE.ab 0)) ρ s p.1 s1 false:=by
 obtain⟨_,e,_⟩:=ha;obtain⟨w',h⟩:=Qq (n:=0) e rfl;exact⟨w',h,nofun⟩
theorem JE.p22 {α β:Type}[Enc α][Enc β]{p:α×β}(ha:JE a ρ s p s1 w):JE (cW a (SE.ab 1)) ρ s p.2 s1 false:=by
 obtain⟨_,e,_⟩:=ha;obtain⟨w',h⟩:=Qq (n:=1) e rfl;exact⟨w',h,nofun⟩
section
variable {α β γ δ ε:Type}[Enc α][Enc β][Enc γ][Enc δ][Enc ε]
theorem JE.p42 {p:T4 α β γ δ}(ha:JE a ρ s p s1 w):JE (cW a (SE.ab 1)) ρ s p.y s1 false:=by
 obtain⟨_,e,_⟩:=ha;obtain⟨w',h⟩:=Qq (n:=1) e rfl;exact⟨w',h,nofun⟩
theorem JE.p43 {p:T4 α β γ δ}(ha:JE a ρ s p s1 w):JE (cW a (SE.ab 2)) ρ s p.z s1 false:=by
 obtain⟨_,e,_⟩:=ha;obtain⟨w',h⟩:=Qq (n:=2) e rfl;exact⟨w',h,nofun⟩
theorem JE.Q3 {p:T4 α β γ δ}(ha:JE a ρ s p s1 w):JE (SE.slT a (SO.at (SE.ab 1)) SO.no) ρ s (T3.mk p.y p.z p.u) s1 false:=by
 obtain⟨_,e,_⟩:=ha
 exact⟨false,by rw [DY,e];rfl,nofun⟩
end
theorem ZN {α:Type}[Inhabited α]{xs:List α}{i:Int}(h:-(xs.length:Int)<=i/\i<xs.length):atI xs i=some (aq xs i):=by
 have:(atI xs i).isSome=true:=by
  unfold L2.atI L2.ixN
  by_cases h0:0<=i
  ·rw [if_pos h0,if_pos h.2]
   have hl:i.toNat<xs.length:=by omega
   show (xs[i.toNat]?).isSome=true
   rw [Kau hl];rfl
  ·rw [if_neg (by omega),if_pos (by omega)]
   have hl:(i+xs.length).toNat<xs.length:=by omega
   show (xs[(i+xs.length).toNat]?).isSome=true
   rw [Kau hl];rfl
 unfold aq
 cases e:atI xs i with
 |none=>rw [e] at this;cases this
 |some y=>rfl
theorem iC {α:Type}[Enc α][Inhabited α]{xs:List α}{n:Int}(ha:JE a ρ s xs s1 w1)(hb:JE b ρ s1 n s2 w2)(h:-(xs.length:Int)<=n/\n<xs.length):JE (cW a b) ρ s (aq xs n) s2 false:=by
 obtain⟨_,ea,_⟩:=ha;obtain⟨_,eb,_⟩:=hb
 refine⟨false,d7 ea eb ?_,nofun⟩
 show (L2.atI (xs.map enc) n).map _=_
 rw [wZ,ZN h];rfl
theorem JE.Qo {α:Type}[Enc α][Inhabited α]{xs:List α}{n:Int}{o:Bool}(he:ρ[i]? = some (.aC (xs.map enc) o))(hb:JE b ρ s n s2 w2)(h:-(xs.length:Int)<=n/\n<xs.length):JE (SE.Qo i b) ρ s (aq xs n) s2 false:=by
 obtain⟨_,eb,_⟩:=hb
 refine⟨false,?_,nofun⟩
 rw [CB,he]
 show ((b.ev ρ s).bind _)=_
 rw [eb]
 show (L2.atI (xs.map enc) n).map _=_
 rw [wZ,ZN h];rfl
theorem JO.no:JO SO.no ρ s none s:=rfl
theorem JO.at {n:Int}(h:JE a ρ s n s1 w):JO (SO.at a) ρ s (some n) s1:=by
 obtain⟨_,e,_⟩:=h
 unfold JO
 rw [Di,e];rfl
theorem JE.sl {α:Type}[Enc α]{xs:List α}{lo hi:SO}{l h:Option Int}(ha:JE a ρ s xs s1 w1)(hl:JO lo ρ s1 l s2)(hh:JO hi ρ s2 h s3):JE (EK a lo hi) ρ s (cut xs l h) s3 false:=by
 obtain⟨_,ea,_⟩:=ha
 refine⟨fM ((cut xs l h).map enc),?_,nofun⟩
 rw [DZ,ea]
 simp only [Kaj]
 rw [hl]
 simp only [Kaj]
 rw [hh]
 simp only [Kaj]
 show (some (PyData.list (fO (xs.map enc) l h),fM (fO (xs.map enc) l h))).bind _=_
 rw [sH];rfl
theorem Lf {α:Type}[Enc α][Flat α]{xs:List α}{lo hi:SO}{l h:Option Int}(ha:JE a ρ s xs s1 w1)(hl:JO lo ρ s1 l s2)(hh:JO hi ρ s2 h s3):JE (EK a lo hi) ρ s (cut xs l h) s3 true:=by
 obtain⟨_,ea,_⟩:=ha
 refine⟨true,?_,λ_=>rfl⟩
 rw [DZ,ea]
 simp only [Kaj]
 rw [hl]
 simp only [Kaj]
 rw [hh]
 simp only [Kaj]
 show (some (PyData.list (fO (xs.map enc) l h),fM (fO (xs.map enc) l h))).bind _=_
 rw [sH,hza];rfl
theorem JE.rev {α:Type}[Enc α]{xs:List α}(ha:JE a ρ s xs s1 w1):JE (SE.rev a) ρ s xs.reverse s1 false:=by
 obtain⟨_,ea,_⟩:=ha
 refine⟨fM (xs.reverse.map enc),?_,nofun⟩
 rw [DJ,ea]
 show some ((PyData.list (xs.map enc).reverse,fM (xs.map enc).reverse),s1)=_
 rw [<-List.map_reverse];rfl
theorem lB {α:Type}[Enc α]{xs:List α}(ha:JE a ρ s xs s1 w1):JE (gR a) ρ s (xs.length:Int) s1 true:=by
 obtain⟨_,ea,_⟩:=ha
 refine⟨true,lQ ea ?_,λ_=>rfl⟩
 show some (PyData.int ((xs.map enc).length:Nat),true)=_
 rw [Kag];rfl
theorem JE.CO {α:Type}[Enc α]{xs:List α}{o:Bool}(he:ρ[i]? = some (.aC (xs.map enc) o)):JE (SE.CO i) ρ s (xs.length:Int) s true:=by
 refine⟨true,?_,λ_=>rfl⟩
 rw [xY,he]
 show some ((PyData.int ((xs.map enc).length:Nat),true),s)=_
 rw [Kag];rfl
theorem GB {α:Type}[Enc α][Flat α]{xs ys:List α}(ha:JE a ρ s xs s1 w1)(hb:JE b ρ s1 ys s2 w2)(h:xs.length+ys.length<=100000):JE (AQ a b) ρ s (xs++ys) s2 true:=by
 obtain⟨_,ea,_⟩:=ha;obtain⟨_,eb,_⟩:=hb
 refine⟨true,d7 ea eb ?_,λ_=>rfl⟩
 show (if (xs.map enc).length+(ys.map enc).length<=100000 then some (PyData.list (xs.map enc++ys.map enc),fM (xs.map enc++ys.map enc)) else none)=_
 rw [if_pos (by simpa using h),<-Kaz,hza];rfl
theorem JE.U7 {xs:List Int}{x:Int}(ha:JE a ρ s x s1 w1)(hb:JE b ρ s1 xs s2 w2):JE (Ji false a b) ρ s (decide (x∈xs)) s2 true:=by
 obtain⟨_,ea,_⟩:=ha;obtain⟨_,eb,_⟩:=hb
 exact⟨true,d7 ea eb (xQ xs x),λ_=>rfl⟩
theorem JE.LK {xs:List Int}{x:Int}(ha:JE a ρ s x s1 w1)(hb:JE b ρ s1 xs s2 w2):JE (Ji true a b) ρ s (decide (x∉xs)) s2 true:=by
 obtain⟨_,ea,_⟩:=ha;obtain⟨_,eb,_⟩:=hb
 exact⟨true,d7 ea eb ((mX xs x).trans (by simp [enc])),λ_=>rfl⟩
theorem JE.sum {xs:List Int}(ha:JE a ρ s xs s1 w1):JE (SE.sum a) ρ s xs.sum s1 true:=by
 obtain⟨_,ea,_⟩:=ha
 exact⟨true,lQ ea (by show (xC (xs.map PyData.int)).bind _=_;rw [Kg];rfl),λ_=>rfl⟩
theorem JE.C0 {xs:List Int}(ha:JE a ρ s xs s1 w1)(h:xs≠[]):JE (SE.C0 a) ρ s (jy xs) s1 true:=by
 obtain⟨_,ea,_⟩:=ha
 exact⟨true,lQ ea (by show (xC (xs.map PyData.int)).bind _=_;rw [Kg];simp [h];rfl),λ_=>rfl⟩
theorem JE.all {xs:List Bool}(ha:JE a ρ s xs s1 w1):JE (SE.all a) ρ s (xs.all id) s1 true:=by
 obtain⟨_,ea,_⟩:=ha
 exact⟨true,lQ ea (by show (AF (xs.map PyData.bool)).bind _=_;rw [OR];rfl),λ_=>rfl⟩
theorem JE.any {xs:List Bool}(ha:JE a ρ s xs s1 w1):JE (SE.any a) ρ s (xs.any id) s1 true:=by
 obtain⟨_,ea,_⟩:=ha
 exact⟨true,lQ ea (by show (AF (xs.map PyData.bool)).bind _=_;rw [OR];rfl),λ_=>rfl⟩
theorem ijm {xs:List Int}(ha:JE a ρ s xs s1 w1):JE (NQ a) ρ s (sortI xs) s1 true:=by
 obtain⟨_,ea,_⟩:=ha
 exact⟨true,lQ ea (by show (xC (xs.map PyData.int)).bind _=_;rw [Kg];rfl),λ_=>rfl⟩
theorem JE.GF {α:Type}[Enc α]{xs:List α}(ha:JE a ρ s xs s1 w1):JE (iqk a) ρ s true s1 true:=by
 obtain⟨_,ea,_⟩:=ha
 exact⟨true,by rw [o_,ea];rfl,λ_=>rfl⟩
theorem ijj {β:Type}[Enc β]{c:ST}{P:Prop}[Decidable P]{xs:List β}{o:Bool}(he:ρ[i]? = some (.aC (xs.map enc) o))(h:JT c (ρ.set i (.dat (enc xs))) s P s1):JT (Qk i c) ρ s P s1:=by
 unfold JT at h ⊢
 rw [nB,he];exact h
theorem JE.LG {α:Type}[bF α]{xs:List α}{o:Bool}(he:ρ[i]? = some (.aC (xs.map enc) o))(hd:bF.dep α<=63:=by decide):JE (izm i) ρ s (decide (xs≠[])) s true:=by
 refine⟨true,?_,λ_=>rfl⟩
 rw [pI,he]
 have sx:SeqAt.shaped (.list (xs.map enc))=true:=by
  unfold SeqAt.shaped
  have h1:(PyData.list (xs.map enc)).canLay0=true:=bF.lay xs
  have h2:(PyData.list (xs.map enc)).depth<=64:=KaB (bF.cV xs) (by show bF.dep α+1<=64;omega)
  rw [h1,decide_eq_true h2];rfl
 show (if SeqAt.shaped (.list (xs.map enc))=true then _ else _)=_
 rw [if_pos sx]
 cases xs <;> simp [enc]
theorem JI.list {α:Type}[Enc α]{xs:List α}(h:JE a ρ s xs s1 w):JI (SI.list a) ρ s xs s1:=by
 obtain⟨_,e,_⟩:=h
 unfold JI
 rw [tU,e];rfl
theorem rq {n:Int}(h:JE a ρ s n s1 w)(hn:-1000000<=n/\n<=1000000):JI (nW a) ρ s (rng 0 n) s1:=by
 obtain⟨_,e,_⟩:=h
 unfold JI
 rw [mL,e]
 show (if -1000000<=n/\n<=1000000 then some (qi 0 n.toNat,s1) else none)=_
 rw [if_pos hn,kA]
 unfold rng
 rw [KaL,Int.sub_zero];rfl
theorem JI.LV {m n:Int}(ha:JE a ρ s m s1 w1)(hb:JE b ρ s1 n s2 w2)(hn:(-1000000<=m/\m<=1000000)/\-1000000<=n/\n<=1000000):JI (izl a b) ρ s (rng m n) s2:=by
 obtain⟨_,ea,_⟩:=ha;obtain⟨_,eb,_⟩:=hb
 unfold JI
 rw [mO,ea]
 simp only [Kaj]
 rw [eb]
 show (if (-1000000<=m/\m<=1000000)/\-1000000<=n/\n<=1000000 then some (qi m (n-m).toNat,s2) else none)=_
 rw [if_pos hn,kA]
 unfold rng
 rw [KaL];rfl
theorem JI.down {m n:Int}(ha:JE a ρ s m s1 w1)(hb:JE b ρ s1 n s2 w2)(hn:(-1000000<=m/\m<=1000000)/\-1000000<=n/\n<=1000000):JI (SI.down a b) ρ s (QS m n) s2:=by
 obtain⟨_,ea,_⟩:=ha;obtain⟨_,eb,_⟩:=hb
 unfold JI
 rw [tR,ea]
 simp only [Kaj]
 rw [eb]
 show (if (-1000000<=m/\m<=1000000)/\-1000000<=n/\n<=1000000 then some (fE m (m-n).toNat,s2) else none)=_
 rw [if_pos hn,oJ]
 unfold QS
 rw [KaL];rfl
theorem JI.zip {α β:Type}[Enc α][Enc β]{xs:List α}{ys:List β}(ha:JE a ρ s xs s1 w1)(hb:JE b ρ s1 ys s2 w2):JI (SI.zip a b) ρ s (xs.zip ys) s2:=by
 obtain⟨_,ea,_⟩:=ha;obtain⟨_,eb,_⟩:=hb
 unfold JI
 rw [xV,ea]
 simp only [Kaj]
 rw [eb]
 show some (fg (xs.map enc) (ys.map enc),s2)=_
 rw [pZ]
theorem JI.ab {α:Type}[Enc α]{xs:List α}(ha:JE a ρ s xs s1 w1):JI (Qv a) ρ s (cf 0 xs) s1:=by
 obtain⟨_,ea,_⟩:=ha
 unfold JI
 rw [tT,ea]
 show some (gO 0 (xs.map enc),s1)=_
 rw [lY]
theorem JC.nil:JC SR.nil ρ s [] s:=rfl
theorem JC.cons {α:Type}[Enc α]{x:α}{r:SR}{sl:List Slot}(he:JE a ρ s x s1 w)(hr:JC r ρ s1 sl s2):JC (SR.cons a r) ρ s (.dat (enc x)::sl) s2:=by
 obtain⟨_,e,_⟩:=he
 unfold JC at hr ⊢
 rw [uG,e]
 simp [hr]
theorem d_ {r:SR}{sl:List Slot}(h:ρ[i]? = some .bf)(hr:JC r ρ s sl s2):JC (dM i r) ρ s (.bf::sl) s2:=by
 unfold JC at hr ⊢
 rw [DK,h]
 show ((r.ev ρ s).bind _)=_
 rw [hr];rfl
theorem JE.ac {α:Type}[Enc α]{m:Fn}{r:SR}{sl:List Slot}{x:α}(hr:JC r ρ s sl s1)(hm:JF m sl s1 x s2 w):JE (SE.ac m r) ρ s x s2 w:=by
 obtain⟨w',e,q⟩:=hm
 exact⟨w',by rw [xq,hr];exact e,q⟩
theorem JE.Iw {α:Type}[Enc α]{m:Fn}{gS:List Slot->List Slot}{gV:List V->List V}{hg}{r:SR}{sl:List Slot}{x:α}(hr:JC r ρ s sl s1)(hm:JF m (gS sl) s1 x s2 w):JE (U9 m gS gV hg r) ρ s x s2 w:=by
 obtain⟨w',e,q⟩:=hm
 exact⟨w',by rw [rZ,hr];exact e,q⟩
theorem UL {α β:Type}[Enc α][Enc β]{g:SG}{tt:ST}{e:SE}{R:α->List Slot}{P:α->Prop}[DecidablePred P]{f:α->β}:∀{xs:List α},(∀x∈xs,g.ev (enc x) ρ=some (R x))->(∀x∈xs,JT tt (R x) s (P x) s)->(∀x∈xs,P x->JE e (R x) s (f x) s w) ->
  ∃ys:List Vl,cy g.ev tt.ev e.ev ρ (xs.map enc) s=some (ys,s)/\ys.map (·.1)=((xs.filter λx=>decide (P x)).map f).map enc/\(w=true->ys.all fN=true)
 |[],_,_,_=>⟨[],rfl,rfl,λ_=>rfl⟩
 |x::xs,hg,ht,he=>by
  obtain⟨ys,i1,i2,i3⟩:=UL (xs:=xs) (λy hy=>hg y (Kab _ hy)) (λy hy=>ht y (Kab _ hy)) λy hy=>he y (Kab _ hy)
  have h1:=hg x Kaa
  have h2:=ht x Kaa
  unfold JT at h2
  rw [Kai]
  by_cases p:P x
  ·obtain⟨w',e1,q1⟩:=he x Kaa p
   refine⟨(enc (f x),w')::ys,?_,?_,?_⟩
   ·unfold cy
    rw [h1];simp only [Kaj]
    rw [h2];simp only [Kaj]
    rw [if_pos (decide_eq_true p),e1];simp only [Kaj]
    rw [i1];rfl
   ·rw [KaJ (by simpa using p),Kai,Kai,Kai,i2]
   ·intro hw
    rw [Ka3,i3 hw]
    simp [fN,q1 hw]
  ·refine⟨ys,?_,?_,i3⟩
   ·unfold cy
    rw [h1];simp only [Kaj]
    rw [h2];simp only [Kaj]
    rw [if_neg (by simpa using p),i1]
   ·rw [KaT (by simpa using p),i2]
theorem Ua {β:Type}[Enc β][Flat β]:∀{ys:List Vl} {zs:List β},ys.map (·.1)=zs.map enc->ys.all fN=true
 |[],_,_=>rfl
 |y::ys,[],h=>by cases h
 |y::ys,z::zs,h=>by
  rw [Kai,Kai] at h
  injection h with h1 h2
  rw [Ka3,Ua h2]
  simp [fN,h1,Flat.fl]
section
variable {α β:Type}[Enc α][Enc β]{it:SI}{g:SG}{tt:ST}{e:SE}{vs:List Nat}{hv:∀i∈g.ix,i∈vs}{xs:List α}{f:α->β}
theorem JE.lc {P:α->Prop}[DecidablePred P](R:α->List Slot)(hi:JI it ρ s xs s1)(hg:∀x,g.ev (enc x) (bq ρ vs)=some (R x))(ht:∀x∈xs,JT tt (R x) s1 (P x) s1)(he:∀x∈xs,P x->JE e (R x) s1 (f x) s1 w)(hl:(xs.filter λx=>decide (P x)).length<=100000):
  JE (hxs it g tt e vs hv) ρ s ((xs.filter λx=>decide (P x)).map f) s1 w:=by
 obtain⟨ys,c1,c2,c3⟩:=UL (g:=g) (w:=w) (λx _=>hg x) ht he
 have hlen:ys.length<=100000:=by
  have:=congrArg Kcg c2
  simp only [Kag] at this
  omega
 refine⟨ys.all fN,?_,c3⟩
 unfold JI at hi
 rw [xX,hi];simp only [Kaj]
 rw [c1];simp only [Kaj]
 rw [if_pos hlen,c2];rfl
theorem Li [Flat β]{P:α->Prop}[DecidablePred P](R:α->List Slot)(hi:JI it ρ s xs s1)(hg:∀x,g.ev (enc x) (bq ρ vs)=some (R x))(ht:∀x∈xs,JT tt (R x) s1 (P x) s1)(he:∀x∈xs,P x->JE e (R x) s1 (f x) s1 w)(hl:(xs.filter λx=>decide (P x)).length<=100000):
  JE (hxs it g tt e vs hv) ρ s ((xs.filter λx=>decide (P x)).map f) s1 true:=by
 obtain⟨ys,c1,c2,c3⟩:=UL (g:=g) (w:=w) (λx _=>hg x) ht he
 have hlen:ys.length<=100000:=by
  have:=congrArg Kcg c2
  simp only [Kag] at this
  omega
 refine⟨true,?_,λ_=>rfl⟩
 unfold JI at hi
 rw [xX,hi];simp only [Kaj]
 rw [c1];simp only [Kaj]
 rw [if_pos hlen,Ua c2,c2];rfl
theorem OH (xs:List α):xs.filter (λ_=>decide True)=xs:=KbT.mpr (by intros;rfl)
theorem NP (R:α->List Slot)(hi:JI it ρ s xs s1)(hg:∀x,g.ev (enc x) (bq ρ vs)=some (R x))(he:∀x∈xs,JE e (R x) s1 (f x) s1 w)(hl:xs.length<=100000):
  JE (hxs it g cT e vs hv) ρ s (xs.map f) s1 w:=by
 have:=JE.lc (P:=λ_=>True) (hv:=hv) R hi hg (λ_ _=>JT.yes) (λx hx _=>he x hx) (by rw [OH];exact hl)
 rwa [OH] at this
theorem hxz [Flat β](R:α->List Slot)(hi:JI it ρ s xs s1)(hg:∀x,g.ev (enc x) (bq ρ vs)=some (R x))(he:∀x∈xs,JE e (R x) s1 (f x) s1 w)(hl:xs.length<=100000):
  JE (hxs it g cT e vs hv) ρ s (xs.map f) s1 true:=by
 have:=Li (P:=λ_=>True) (hv:=hv) R hi hg (λ_ _=>JT.yes) (λx hx _=>he x hx) (by rw [OH];exact hl)
 rwa [OH] at this
theorem JE.lcI {P:α->Prop}[DecidablePred P](R:α->List Slot)(hi:JI it ρ s xs s1)(hg:∀x,g.ev (enc x) (bq ρ vs)=some (R x))(ht:∀x∈xs,JT tt (R x) s1 (P x) s1)(he:∀x∈xs,P x->JE e (R x) s1 x s1 w)(hl:(xs.filter λx=>decide (P x)).length<=100000):
  JE (hxs it g tt e vs hv) ρ s (xs.filter λx=>decide (P x)) s1 w:=by
 have:=JE.lc (f:=λx=>x) (hv:=hv) R hi hg ht he hl
 rwa [Kdh] at this
theorem U6 [Flat α]{P:α->Prop}[DecidablePred P](R:α->List Slot)(hi:JI it ρ s xs s1)(hg:∀x,g.ev (enc x) (bq ρ vs)=some (R x))(ht:∀x∈xs,JT tt (R x) s1 (P x) s1)(he:∀x∈xs,P x->JE e (R x) s1 x s1 w)(hl:(xs.filter λx=>decide (P x)).length<=100000):
  JE (hxs it g tt e vs hv) ρ s (xs.filter λx=>decide (P x)) s1 true:=by
 have:=Li (f:=λx=>x) (hv:=hv) R hi hg ht he hl
 rwa [Kdh] at this
end
/-- a comprehension d8 draws -/
def cC {α β:Type}(t:α->aa->Bool×aa)(f:α->aa->β×aa):List α->aa->List β×aa
 |[],s=>([],s)
 |x::xs,s=>if (t x s).1=true then ((f x (t x s).2).1::(cC t f xs (f x (t x s).2).2).1,(cC t f xs (f x (t x s).2).2).2) else cC t f xs (t x s).2
/-- all turns of a comprehension d8 draws are Su -/
def IZ {α β:Type}(t:α->aa->Bool×aa)(f:α->aa->β×aa)(dt df:α->aa->Prop):List α->aa->Prop
 |[],_=>True
 |x::xs,s=>dt x s/\if (t x s).1=true then df x (t x s).2/\IZ t f dt df xs (f x (t x s).2).2 else IZ t f dt df xs (t x s).2
theorem Z7 {α β:Type}[Enc α][Enc β]{g:SG}{tt:ST}{e:SE}{R:α->List Slot}{t:α->aa->Bool×aa}{f:α->aa->β×aa}{dt df:α->aa->Prop}(hg:∀x,g.ev (enc x) ρ=some (R x))(ht:∀x s,dt x s->JT tt (R x) s ((t x s).1=true) (t x s).2)(he:∀x s,df x s->JE e (R x) s (f x s).1 (f x s).2 w):∀{xs:List α} {s:aa},IZ t f dt df xs s ->
  ∃ys:List Vl,cy g.ev tt.ev e.ev ρ (xs.map enc) s=some (ys,(cC t f xs s).2)/\ys.map (·.1)=((cC t f xs s).1).map enc/\(w=true->ys.all fN=true)
 |[],s,_=>⟨[],rfl,rfl,λ_=>rfl⟩
 |x::xs,s,hd=>by
  obtain⟨d1,d2⟩:=hd
  have h2:=ht x s d1
  unfold JT at h2
  rw [KbE] at h2
  rw [Kai]
  by_cases p:(t x s).1=true
  ·rw [if_pos p] at d2
   obtain⟨w',e1,q1⟩:=he x _ d2.1
   obtain⟨ys,i1,i2,i3⟩:=Z7 hg ht he (xs:=xs) d2.2
   refine⟨(enc (f x (t x s).2).1,w')::ys,?_,?_,?_⟩
   ·unfold cy cC
    rw [hg x];simp only [Kaj]
    rw [h2];simp only [Kaj]
    rw [if_pos p,if_pos p,e1];simp only [Kaj]
    rw [i1];rfl
   ·unfold cC
    rw [if_pos p,Kai,i2];rfl
   ·intro hw
    rw [Ka3,i3 hw]
    simp [fN,q1 hw]
  ·rw [if_neg p] at d2
   obtain⟨ys,i1,i2,i3⟩:=Z7 hg ht he (xs:=xs) d2
   refine⟨ys,?_,?_,i3⟩
   ·unfold cy cC
    rw [hg x];simp only [Kaj]
    rw [h2];simp only [Kaj]
    rw [if_neg p,if_neg p,i1]
   ·unfold cC
    rw [if_neg p,i2]
section
variable {α β:Type}[Enc α][Enc β]{it:SI}{g:SG}{tt:ST}{e:SE}{vs:List Nat}{hv:∀i∈g.ix,i∈vs}{xs:List α}
theorem JE.Qz [Flat β]{t:α->aa->Bool×aa}{f:α->aa->β×aa}{dt df:α->aa->Prop}(R:α->List Slot)(hi:JI it ρ s xs s1)(hg:∀x,g.ev (enc x) (bq ρ vs)=some (R x))(ht:∀x s,dt x s->JT tt (R x) s ((t x s).1=true) (t x s).2)(he:∀x s,df x s->JE e (R x) s (f x s).1 (f x s).2 w)(hd:IZ t f dt df xs s1)(hl:(cC t f xs s1).1.length<=100000):
  JE (hxs it g tt e vs hv) ρ s (cC t f xs s1).1 (cC t f xs s1).2 true:=by
 obtain⟨ys,c1,c2,c3⟩:=Z7 (g:=g) (w:=w) hg ht he hd
 have hlen:ys.length<=100000:=by
  have:=congrArg Kcg c2
  simp only [Kag] at this
  omega
 refine⟨true,?_,λ_=>rfl⟩
 unfold JI at hi
 rw [xX,hi];simp only [Kaj]
 rw [c1];simp only [Kaj]
 rw [if_pos hlen,Ua c2,c2];rfl
end
end
end Pu
namespace Pu
variable [aZ]
open PySem L2 Enc
def cF (i:Nat)(e:SE):SS where
 t:=λK=>tAsg (e.t K) (gName i)
 ev:=λρ s=>(e.ev ρ s).bind λx=>some (.nx (ρ.set i (.dat x.1.1)) x.2)
 ok:=by
  intro K sk F0 H0 F H σ ρ ak s out D w h q
  obtain⟨⟨x,s1⟩,h1,h2⟩:=aL h
  cases h2
  refine e.ok K w.pre h1 λv F1 H1 as st k r f=>?_
  obtain⟨aH,w'⟩:=(w.next st k).qV (i:=i) r
  exact q F1 H1 _ aH st.sub w'
def kN (i:Nat)(e:SE)(r:SP):SP where
 t:=λK=>tCons (e.t K) (r.t K)
 ts:=i::r.ts
 ev:=λρ cN s=>(e.ev ρ s).bind λx=>r.ev ρ (cN.set i (.dat x.1.1)) x.2
 ok:=by
  intro K sk F0 H0 F H σ p_ ρ cN je ak cU s s' Q p w h q
  obtain⟨⟨x,s1⟩,h1,h2⟩:=aL h
  refine e.ok K p h1 λv F1 H1 as st k rr f=>?_
  obtain⟨fa,wa⟩:=(w.next st k).qV (i:=i) rr
  refine r.ok K (p.next st k) wa h2 λvs F2 H2 fv sF w2 hl=>?_
  exact q (v::vs) F2 H2 fv (st.sub.trans sF) w2 (by rw [Kad,Kad,hl])
theorem Wd.forget {sk:Option Addr}{F0 H0 F H:Hp}{σ:L2.St}{s:aa}:∀(is:List Nat) {ρ:List Slot} {ak:List (List Addr)},Wd sk F0 H0 F H σ ρ ak s->∃aH,Wd sk F0 H0 F H σ (bq ρ is) aH s
 |[],ρ,ak,w=>⟨ak,w⟩
 |i::is,ρ,ak,w=>by
  obtain⟨f1,w1⟩:=w.forget is
  exact⟨f1.set i [],w1.st,w1.bh,w1.slots.drop,w1.dX.sublist ou,λa m=>w1.bT a (ou.mem m)⟩
def Rj (is:List Nat):Out->Out
 |.nx ρ s=>.nx (bq ρ is) s
 |.ret v s=>.ret v s
 |.brk ρ s=>.brk (bq ρ is) s
 |.cnt ρ s=>.cnt (bq ρ is) s
/-- a,behind which some names are Nq -/
def dR (is:List Nat)(a:SS):SS where
 t:=a.t
 ev:=λρ s=>(a.ev ρ s).map (Rj is)
 ok:=by
  intro K sk F0 H0 F H σ ρ ak s out D w h q
  obtain⟨o,h1,rfl⟩:=Kap.mp h
  refine a.ok K w h1 ?_
  cases o with
  |nx ρ' s'=>
   intro F' H' σ' aH e w'
   obtain⟨f2,w2⟩:=w'.forget is
   exact q F' H' σ' f2 e w2
  |brk ρ' s'=>
   intro F' H' σ' aH e w'
   obtain⟨f2,w2⟩:=w'.forget is
   exact q F' H' σ' f2 e w2
  |cnt ρ' s'=>
   intro F' H' σ' aH e w'
   obtain⟨f2,w2⟩:=w'.forget is
   exact q F' H' σ' f2 e w2
  |ret v s'=>exact q
/-- a Bu list is done -/
def Cq (i:Nat)(b:SS):SS where
 t:=b.t
 ev:=λρ s=>match ρ[i]? with
  |some (.aC ds o)=>b.ev (ρ.set i (.dat (.list ds))) s
  |_=>none
 ok:=by
  intro K sk F0 H0 F H σ ρ ak s out D w h q
  dsimp only at h
  split at h
  ·rename_i ds o cz
   obtain⟨x,fp,e1,e2,a,vs,as,rfl,hH,hF,r,rfl⟩:=w.slots.get cz
   have fa:a∈ak.flatten:=Kaw.mpr ⟨_,Kar e2,Kaa⟩
   obtain⟨a0,a1,a2⟩:=w.bT a fa
   obtain⟨n1,n2⟩:=vm w.dX e2
   have n3:=Kal.mp n1
   have na:a∉(ak.set i []).flatten:=λm=>n3.2.2 a Kaa a m rfl
   have sF:Same F (L2.upd F a (.lst vs)):=λb u e=>by rw [upd_ne (ne_of_none e hF)];exact e
   have st':Step sk F0 H0 (L2.upd F a (.lst vs)) H:=by
    refine⟨w.st.sub.trans sF,λb u e=>?_,λa o x y z=>w.st.fr a o x y z,w.st.dm,λb u e=>?_⟩
    ·by_cases z:b=a
     ·rw [z,upd_same] at e;rw [z,<-e];exact hH
     ·rw [upd_ne z] at e;exact w.st.sub' b u e
    ·by_cases z:b=a
     ·rw [z];exact .inr a0
     ·rw [upd_ne z] at e;exact w.st.new b u e
   have dj:bA sk (L2.upd F a (.lst vs)) H s:=⟨λb e=>⟨(w.bh b e).1,by rw [upd_ne (λz=>a2 (by rw [<-z];exact e))];exact (w.bh b e).2⟩,w.bh.tab.Ai⟩
   have sl:=(w.slots.drop (i:=i)).upd (a:=a) (o:=.lst vs) na hF
   have rp:Rp (L2.upd F a (.lst vs)) (.ref a) (.list ds) (a::as):=.lst upd_same (r.mono sF)
   have sl2:=sl.fill (sl:=.dat (.list ds)) e1 ⟨rfl,_,_,rfl,rp⟩
   rw [KaI,KaI] at sl2
   exact b.ok K ⟨st',dj,sl2,w.dX.sublist ou,λb m=>w.bT b (ou.mem m)⟩ h (q.mono sF)
  ·cases h
/-- xs.append(e),of a list d8 FA not own what it holds -/
def K6 (i:Nat)(e:SE):SS where
 t:=λK=>tDrop (tBM K "list" rAppend (tVar i) (tCons (e.t K) tNil))
 ev:=λρ s=>match ρ[i]? with
  |some (.aC ds o)=>(e.ev ρ s).bind λx=>if ds.length<100000 then some (.nx (ρ.set i (.aC (ds++[x.1.1]) false)) x.2) else none
  |_=>none
 ok:=by
  intro K sk F0 H0 F H σ ρ ak s out D w h q
  dsimp only at h
  split at h
  ·rename_i ds o cz
   obtain⟨⟨x,s1⟩,h1,h2⟩:=aL h
   dsimp only at h2
   split at h2
   ·rename_i hl
    cases h2
    obtain⟨xv,fp,e1,e2,a,vs,as,rfl,hH,hF,r,rfl⟩:=w.slots.get cz
    refine⟨.ref a,e1,.inl ⟨rfl,vs,.inl (.inl hH)⟩,?_⟩
    refine e.ok K w.pre h1 λv F1 H1 bs st k rr f=>?_
    have fa:a∈ak.flatten:=Kaw.mpr ⟨_,Kar e2,Kaa⟩
    have dH:=(w.bT a fa).2.2
    have jU:H1 a=some (.lst vs):=st.fr a _ dH hH
    have v9:F1 a=none:=by
     cases z:F1 a with
     |none=>rfl
     |some u=>
      rcases st.new a u z with y|y
      ·rw [hF] at y;cases y
      ·rw [hH] at y;cases y
    refine⟨a,vs,v,rfl,rfl,jU,by rw [r.len];exact Ka4 hl (by decide),?_⟩
    have w1:=w.next st k
    have QT:az F1 (vs++[v]) (ds++[x.1]) (as++(bs++[])):=(r.mono st.sub).app (.cons rr .nil)
    rw [KaE] at QT
    obtain⟨aH,w2⟩:=w1.grow (o':=false) e1 e2 jU v9 QT λeo=>by cases eo
    exact q F1 _ σ aH st.sub w2
   ·cases h2
  ·cases h
def lt {α β:Type}(v:α)(f:α->β):β:=f v
def bu {α:Type}(v:α)(f:α->Prop):Prop:=f v
def a_ {α β:Type}(v:α×aa)(f:α->aa->β):β:=f v.1 v.2
def aW {α:Type}(v:α×aa)(f:α->aa->Prop):Prop:=f v.1 v.2
theorem bL {α:Type}{v p:α}{f:α->Prop}(h:bu v f)(e:p=v):f p:=e ▸ h
theorem dZ {α:Type}{v:α×aa}{x:α}{s:aa}{f:α->aa->Prop}(h:aW v f)(e:v=(x,s)):f x s:=by subst e;exact h
def lX {α σ β:Type}(v:α ⊕ σ)(f:α->β)(g:σ->β):β:=match v with
 |.inl r=>f r
 |.inr st=>g st
def bH {α σ:Type}(f:σ->α->σ)(d:σ->α->Prop):List α->σ->Prop
 |[],_=>True
 |x::xs,st=>d st x/\bH f d xs (f st x)
def forR {α σ ρ:Type}(f:σ->α->ρ ⊕ σ):List α->σ->ρ ⊕ σ
 |[],st=>.inr st
 |x::xs,st=>lX (f st x) .inl (forR f xs)
def iJ {α σ ρ:Type}(f:σ->α->ρ ⊕ σ)(d:σ->α->Prop):List α->σ->Prop
 |[],_=>True
 |x::xs,st=>d st x/\lX (f st x) (λ_=>True) (iJ f d xs)
def lA {σ:Type}(c:σ->Prop)[DecidablePred c](f:σ->σ):Nat->σ->σ
 |0,st=>st
 |n+1,st=>if c st then lA c f n (f st) else st
def vn {σ:Type}(c:σ->Prop)(f:σ->σ)(dc d:σ->Prop):Nat->σ->Prop
 |0,_=>False
 |n+1,st=>dc st/\(c st->d st/\vn c f dc d n (f st))
def JB (b:SS)(ρ:List Slot)(s:aa)(Φ:Out->Prop):Prop:=∃o,b.ev ρ s=some o/\Φ o
def JN (b:SS)(ρ:List Slot)(s:aa)(ρ':List Slot)(s':aa):Prop:=b.ev ρ s=some (.nx ρ' s')
def JP (p:SP)(ρ cN:List Slot)(s:aa)(ρ':List Slot)(s':aa):Prop:=p.ev ρ cN s=some (ρ',s')
def nO {α:Type}[Enc α](w:Bool)(s':aa)(x:α):Out->Prop:=λo=>∃w',o=.ret (enc x,w') s'/\(w=true->w'=true)
def A4 {α:Type}[Enc α](w:Bool)(p:α×aa):Out->Prop:=nO w p.2 p.1
def ES {σ:Type}(J:σ->List Slot)(s':aa)(x:σ):Out->Prop:=λo=>o=.nx (J x) s'
def HV {σ:Type}(J:σ->List Slot)(p:σ×aa):Out->Prop:=ES J p.2 p.1
def N6 {α σ:Type}[Enc α](w:Bool)(J:σ->List Slot)(s':aa)(x:α ⊕ σ):Out->Prop:=match x with
 |.inl r=>nO w s' r
 |.inr st=>ES J s' st
/-- a def d8 ends without return -/
def EN (s':aa)(_:Unit):Out->Prop:=λo=>∃ρ',o=.nx ρ' s'
def lG (Φ:Out->Prop):Prop:=∀o,Φ o->∃v s,o=.ret v s
section
variable {ρ aB cY:List Slot}{s s1 s2 s3:aa}{e e2:SE}{i j k:Nat}{w w1 w2:Bool}{a b A B rest:SS}{Φ:Out->Prop}{c:ST}{P:Prop}[Decidable P]
theorem NR {α:Type}[Enc α]{x:α}:lG (nO w s x):=λo ⟨w',h,_⟩=>⟨_,_,h⟩
theorem lG.ps {α:Type}[Enc α]{x:α×aa}:lG (A4 w x):=λo ⟨w',h,_⟩=>⟨_,_,h⟩
theorem aY {α β:Type}{Ψ:β->Out->Prop}{v:α}{f:α->β}(h:∀p,p=v->JB b ρ s (Ψ (f p))):JB b ρ s (Ψ (lt v f)):=h v rfl
theorem dJ {α β:Type}{Ψ:β->Out->Prop}{v:α×aa}{f:α->aa->β}(h:∀x s',v=(x,s')->JB b ρ s (Ψ (f x s'))):JB b ρ s (Ψ (a_ v f)):=h v.1 v.2 rfl
theorem JB.ab (ha:JN a ρ s aB s1)(hb:JB b aB s1 Φ):JB (SS.ab a b) ρ s Φ:=by
 obtain⟨o,h,q⟩:=hb
 refine⟨o,?_,q⟩
 unfold JN at ha
 rw [Jc,ha];exact h
theorem JB.ac (ha:JN a ρ s aB s1)(h:Φ (.nx aB s1)):JB a ρ s Φ:=⟨_,ha,h⟩
theorem JB.al (h:Φ (.nx ρ s)):JB SS.ac ρ s Φ:=⟨_,rfl,h⟩
theorem Cv (h:JB b ρ s Φ):JB (SS.ab SS.ac b) ρ s Φ:=h
theorem JB.never (h:False):JB Qx ρ s Φ:=h.elim
theorem JB.ag {α:Type}[Enc α]{x:α}(h:JE e ρ s x s1 w):JB (SS.ag e) ρ s (nO w s1 x):=by
 obtain⟨w',e1,q⟩:=h
 exact⟨_,by rw [DH,e1];rfl,w',rfl,q⟩
theorem Qj {α:Type}[Enc α]{x:α}(h:JE e ρ s x s1 w):JB (SS.ag e) ρ s (A4 w (x,s1)):=JB.ag h
theorem zF {β:Type}{Ψ:β->Out->Prop}{x y:β}(hc:JT c ρ s P s1)(hA:P->JB A ρ s1 (Ψ x))(hB:¬P->JB B ρ s1 (Ψ y)):JB (eM c A B) ρ s (Ψ (if P then x else y)):=by
 unfold JT at hc
 by_cases p:P
 ·obtain⟨o,h,q⟩:=hA p
  exact⟨o,by rw [FY,hc];simp [p,h],by rw [if_pos p];exact q⟩
 ·obtain⟨o,h,q⟩:=hB p
  exact⟨o,by rw [FY,hc];simp [p,h],by rw [if_neg p];exact q⟩
/-- if c: A,which returns;else B;then bM rest -/
theorem CC {β:Type}{Ψ:β->Out->Prop}{x y:β}(hc:JT c ρ s P s1)(hA:P->JB A ρ s1 (Ψ x))(hr:P->lG (Ψ x))(hB:¬P->JB (SS.ab B rest) ρ s1 (Ψ y)):JB (SS.ab (eM c A B) rest) ρ s (Ψ (if P then x else y)):=by
 unfold JT at hc
 by_cases p:P
 ·obtain⟨o,h,q⟩:=hA p
  obtain⟨v,s',rfl⟩:=hr p o q
  exact⟨.ret v s',by rw [Jc,FY,hc];simp [p,h],by rw [if_pos p];exact q⟩
 ·obtain⟨o,h,q⟩:=hB p
  rw [Jc] at h
  exact⟨o,by rw [Jc,FY,hc];simpa [p] using h,by rw [if_neg p];exact q⟩
/-- both ways go on -/
theorem JN.U1 {σ:Type}{J:σ->List Slot}{va vb p:σ}(hc:JT c ρ s P s1)(hA:P->JB A ρ s1 (ES J s1 va))(hB:¬P->JB B ρ s1 (ES J s1 vb))(e:p=if P then va else vb):JN (eM c A B) ρ s (J p) s1:=by
 unfold JT at hc
 unfold JN
 subst e
 by_cases p:P
 ·obtain⟨o,h,rfl⟩:=hA p
  rw [FY,hc];simp [p,h]
 ·obtain⟨o,h,rfl⟩:=hB p
  rw [FY,hc];simp [p,h]
theorem JN.K9 {σ:Type}{J:σ->List Slot}{va vb:σ×aa}{p:σ}(hc:JT c ρ s P s1)(hA:P->JB A ρ s1 (HV J va))(hB:¬P->JB B ρ s1 (HV J vb))(e:(if P then va else vb)=(p,s2)):JN (eM c A B) ρ s (J p) s2:=by
 unfold JT at hc
 unfold JN
 by_cases q:P
 ·obtain⟨o,h,rfl⟩:=hA q
  rw [if_pos q] at e
  subst e
  rw [FY,hc];simp [q,h]
 ·obtain⟨o,h,rfl⟩:=hB q
  rw [if_neg q] at e
  subst e
  rw [FY,hc];simp [q,h]
theorem JN.set {α:Type}[Enc α]{x:α}(h:JE e ρ s x s1 w):JN (cF i e) ρ s (ρ.set i (.dat (enc x))) s1:=by
 obtain⟨w',h,_⟩:=h
 show ((e.ev ρ s).bind λx=>some (Out.nx (ρ.set i (.dat x.1.1)) x.2))=_
 rw [h];rfl
theorem Qm {α:Type}[Enc α]{x:α}(h:JE e ρ s x s1 w):JN (Jh e) ρ s ρ s1:=by
 obtain⟨w',h,_⟩:=h
 unfold JN
 rw [xy,h];rfl
theorem zA {α:Type}[Enc α]{x:α}{g:SG}(h:JE e ρ s x s1 w)(hg:g.ev (enc x) ρ=some aB):JN (wg g e) ρ s aB s1:=by
 obtain⟨w',h,_⟩:=h
 unfold JN
 rw [wX,h]
 simp only [Kaj]
 rw [hg];rfl
theorem JN.aug {x y:Int}{f:Int->Int->Int}(hi:ρ[i]? = some (.dat (enc x)))(h:JE e ρ s y s1 w):JN (SS.al i e f) ρ s (ρ.set i (.dat (enc (f x y)))) s1:=by
 obtain⟨w',h,_⟩:=h
 unfold JN
 rw [Bh,hi]
 show ((e.ev ρ s).bind _)=_
 rw [h];rfl
theorem JP.nil:JP SP.nil ρ aB s aB s:=rfl
theorem JP.cons {α:Type}[Enc α]{x:α}{p:SP}(h:JE e ρ s x s1 w)(hp:JP p ρ (aB.set i (.dat (enc x))) s1 cY s2):JP (kN i e p) ρ aB s cY s2:=by
 obtain⟨w',h,_⟩:=h
 show ((e.ev ρ s).bind λx=>p.ev ρ (aB.set i (.dat x.1.1)) x.2)=_
 rw [h];exact hp
theorem Ql {p:SP}(hp:JP p ρ (aB.set i (.aC [] true)) s cY s2):JP (Gx i p) ρ aB s cY s2:=hp
theorem xS {p:SP}{hp:p.ts=[i,j]}(h:JP p ρ ρ s aB s1):JN (hxx i j p hp) ρ s aB s1:=by
 unfold JN;unfold JP at h
 rw [Dl,h];rfl
theorem JN.QJ {p:SP}{hp:p.ts=[i,j,k]}(h:JP p ρ ρ s aB s1):JN (U' i j k p hp) ρ s aB s1:=by
 unfold JN;unfold JP at h
 rw [yh,h];rfl
theorem JN.Be {p:SP}{hp:p.ts=[i,j]}(h:JP p ρ ρ s aB s1):JN (SS.Be i j p hp) ρ s aB s1:=by
 unfold JN;unfold JP at h
 rw [wY,h];rfl
theorem Ld {α:Type}[Enc α]{xs:List α}(h:JE e ρ s xs s1 true):JN (Gv i (SB.own e)) ρ s (ρ.set i (.aC (xs.map enc) true)) s1:=by
 obtain⟨w',h,q⟩:=h
 have:=q rfl
 subst this
 unfold JN
 rw [uL,hxd,h];rfl
theorem JN.append {α:Type}[Enc α]{x:α}{xs:List α}{o:Bool}(hi:ρ[i]? = some (.aC (xs.map enc) o))(h:JE e ρ s x s1 true)(hl:xs.length<100000):JN (Cp i e) ρ s (ρ.set i (.aC ((xs++[x]).map enc) o)) s1:=by
 obtain⟨w',h,q⟩:=h
 have:=q rfl
 subst this
 unfold JN
 rw [gzc,hi]
 show ((e.ev ρ s).bind _)=_
 rw [h]
 simp only [Kaj]
 rw [if_pos (by simpa using hl),Kaz]
 simp [fN]
theorem NH {α:Type}[Enc α][Flat α]{x:α}{xs:List α}{o:Bool}(hi:ρ[i]? = some (.aC (xs.map enc) o))(h:JE e ρ s x s1 w)(hl:xs.length<100000):JN (Cp i e) ρ s (ρ.set i (.aC ((xs++[x]).map enc) o)) s1:=by
 obtain⟨w',h,q⟩:=h
 unfold JN
 rw [gzc,hi]
 show ((e.ev ρ s).bind _)=_
 rw [h]
 simp only [Kaj]
 rw [if_pos (by simpa using hl),Kaz]
 simp [fN,Flat.fl]
theorem hxy {α:Type}[Enc α]{x:α}{xs:List α}{o:Bool}(hi:ρ[i]? = some (.aC (xs.map enc) o))(h:JE e ρ s x s1 w)(hl:xs.length<100000):JN (K6 i e) ρ s (ρ.set i (.aC ((xs++[x]).map enc) false)) s1:=by
 obtain⟨w',h,q⟩:=h
 show (match ρ[i]? with|some (.aC ds o)=>(e.ev ρ s).bind λx=>if ds.length<100000 then some (Out.nx (ρ.set i (.aC (ds++[x.1.1]) false)) x.2) else none|_=>none)=_
 rw [hi]
 show ((e.ev ρ s).bind _)=_
 rw [h]
 simp only [Kaj]
 rw [if_pos (by simpa using hl),Kaz]
 rfl
theorem JB.frz {α:Type}[Enc α]{xs:List α}{o:Bool}(hi:ρ[i]? = some (.aC (xs.map enc) o))(h:JB b (ρ.set i (.dat (enc xs))) s Φ):JB (Cq i b) ρ s Φ:=by
 obtain⟨o',h,q⟩:=h
 refine⟨o',?_,q⟩
 show (match ρ[i]? with|some (.aC ds o)=>b.ev (ρ.set i (.dat (.list ds))) s|_=>none)=_
 rw [hi];exact h
section
variable {α σ:Type}[Enc α]{it:SI}{g:SG}{xs:List α}
theorem B4 {J:σ->List Slot}{R:σ->α->List Slot}{f:σ->α->σ}{d:σ->α->Prop}(hg:∀st x,g.ev (enc x) (J st)=some (R st x))(hb:∀st x,d st x->JB b (R st x) s (ES J s (f st x))):∀{xs:List α} {st:σ},bH f d xs st->forL g.ev b.ev (xs.map enc) (J st) s=some (.nx (J (xs.foldl f st)) s)
 |[],st,_=>rfl
 |x::xs,st,h=>by
  obtain⟨h1,h2⟩:=h
  obtain⟨o,e,rfl⟩:=hb st x h1
  rw [Kai]
  unfold forL
  rw [hg];simp only [Kaj]
  rw [e]
  exact B4 hg hb h2
theorem tQ {J:σ->List Slot}{R:σ->α->List Slot}{f:σ->α->σ}{d:σ->α->Prop}{st p:σ}(hi:JI it ρ s xs s1)(e0:ρ=J st)(hg:∀st x,g.ev (enc x) (J st)=some (R st x))(hb:∀st x,d st x->JB b (R st x) s1 (ES J s1 (f st x)))(hd:bH f d xs st)(e:p=xs.foldl f st):JN (iO it g b) ρ s (J p) s1:=by
 unfold JN;unfold JI at hi
 rw [P0,hi]
 subst e0 e
 exact B4 hg hb hd
theorem B6 {J:σ->List Slot}{R:σ->α->List Slot}{f:σ×aa->α->σ×aa}{d:σ×aa->α->Prop}(hg:∀st x,g.ev (enc x) (J st)=some (R st x))(hb:∀st s x,d (st,s) x->JB b (R st x) s (HV J (f (st,s) x))):∀{xs:List α} {p:σ×aa},bH f d xs p->forL g.ev b.ev (xs.map enc) (J p.1) p.2=some (.nx (J (xs.foldl f p).1) (xs.foldl f p).2)
 |[],p,_=>rfl
 |x::xs,(st,s),h=>by
  obtain⟨h1,h2⟩:=h
  obtain⟨o,e,rfl⟩:=hb st s x h1
  rw [Kai]
  unfold forL
  rw [hg];simp only [Kaj]
  rw [e]
  exact B6 hg hb h2
theorem JN.KG {J:σ->List Slot}{R:σ->α->List Slot}{f:σ×aa->α->σ×aa}{d:σ×aa->α->Prop}{st p:σ}(hi:JI it ρ s xs s1)(e0:ρ=J st)(hg:∀st x,g.ev (enc x) (J st)=some (R st x))(hb:∀st s x,d (st,s) x->JB b (R st x) s (HV J (f (st,s) x)))(hd:bH f d xs (st,s1))(e:xs.foldl f (st,s1)=(p,s2)):JN (iO it g b) ρ s (J p) s2:=by
 unfold JN;unfold JI at hi
 rw [P0,hi]
 subst e0
 have:=B6 (p:=(st,s1)) hg hb hd
 rw [e] at this
 exact this
theorem B5 {γ:Type}[Enc γ]{J:σ->List Slot}{R:σ->α->List Slot}{f:σ->α->γ ⊕ σ}{d:σ->α->Prop}(hg:∀st x,g.ev (enc x) (J st)=some (R st x))(hb:∀st x,d st x->JB b (R st x) s (N6 w J s (f st x))):∀{xs:List α} {st:σ},iJ f d xs st->∃o,forL g.ev b.ev (xs.map enc) (J st) s=some o/\N6 w J s (forR f xs st) o
 |[],st,_=>⟨_,rfl,rfl⟩
 |x::xs,st,h=>by
  obtain⟨h1,h2⟩:=h
  obtain⟨o,e,q⟩:=hb st x h1
  rw [Kai]
  unfold forL forR
  rw [hg];simp only [Kaj]
  rw [e];simp only [Kaj]
  cases hf:f st x with
  |inl r=>
   rw [hf] at q
   obtain⟨w',rfl,q2⟩:=q
   exact⟨_,rfl,w',rfl,q2⟩
  |inr st'=>
   rw [hf] at q h2
   cases (show o=.nx (J st') s from q)
   exact B5 hg hb h2
/-- a loop d8 may return;then bM rest -/
theorem JB.am {β γ:Type}[Enc γ]{J:σ->List Slot}{R:σ->α->List Slot}{f:σ->α->γ ⊕ σ}{d:σ->α->Prop}{st:σ}{Ψ:β->Out->Prop}{inj:γ->β}{F:σ->β}(hi:JI it ρ s xs s1)(e0:ρ=J st)(hg:∀st x,g.ev (enc x) (J st)=some (R st x))(hb:∀st x,d st x->JB b (R st x) s1 (N6 w J s1 (f st x)))(hd:iJ f d xs st)
  (hr:∀r o,nO w s1 r o->Ψ (inj r) o) (hk:∀st',Pu.forR f xs st=.inr st'->JB rest (J st') s1 (Ψ (F st'))):JB (SS.ab (iO it g b) rest) ρ s (Ψ (lX (Pu.forR f xs st) inj F)):=by
 unfold JI at hi
 subst e0
 obtain⟨o,h,q⟩:=B5 hg hb hd
 cases hf:Pu.forR f xs st with
 |inl r=>
  rw [hf] at q
  have q0:=q
  obtain⟨w',rfl,q2⟩:=q
  refine⟨_,?_,hr r _ q0⟩
  rw [Jc,P0,hi];simp only [Kaj]
  rw [h];rfl
 |inr st'=>
  rw [hf] at q
  cases (show o=.nx (J st') s1 from q)
  obtain⟨o2,h2,q2⟩:=hk st' hf
  refine⟨o2,?_,q2⟩
  rw [Jc,P0,hi];simp only [Kaj]
  rw [h];exact h2
end
theorem uX {σ:Type}{J:σ->List Slot}{f:σ->σ}{C:σ->Prop}[DecidablePred C]{dc d:σ->Prop}(hc:∀st,dc st->JT c (J st) s (C st) s)(hb:∀st,d st->JB b (J st) s (ES J s (f st))):∀{n:Nat} {st:σ},vn C f dc d n st->Ey c.ev b.ev n (J st) s=some (.nx (J (lA C f n st)) s)
 |0,_,h=>h.elim
 |n+1,st,h=>by
  obtain⟨h1,h2⟩:=h
  have e1:=hc st h1
  unfold JT at e1
  unfold Ey lA
  rw [e1];simp only [Kaj]
  by_cases p:C st
  ·obtain⟨h3,h4⟩:=h2 p
   obtain⟨o,e2,rfl⟩:=hb st h3
   rw [if_pos (decide_eq_true p),if_pos p,e2]
   exact uX hc hb h4
  ·rw [if_neg (by simpa using p),if_neg p]
theorem K8 {σ:Type}{J:σ->List Slot}{f:σ->σ}{C:σ->Prop}[DecidablePred C]{dc d:σ->Prop}{n:Nat}{st p:σ}(e0:ρ=J st)(hc:∀st,dc st->JT c (J st) s (C st) s)(hb:∀st,d st->JB b (J st) s (ES J s (f st)))(hd:vn C f dc d n st)(e:p=lA C f n st):JN (ED n c b) ρ s (J p) s:=by
 unfold JN
 rw [pX]
 subst e0 e
 exact uX hc hb hd
theorem gi {α:Type}[Enc α]{np nl:Nat}{args:List Slot}{x:α}(hn:args.length=np)(h:JB b (args++Kak nl .emp) s (nO w s1 x)):JF (fnOf np nl b) args s x s1 w:=by
 obtain⟨o,h,w',rfl,q⟩:=h
 refine⟨w',?_,q⟩
 rw [hxb,if_pos hn,h]
theorem Lp {α:Type}[Enc α]{np nl:Nat}{args:List Slot}{x:α×aa}(hn:args.length=np)(h:JB b (args++Kak nl .emp) s (A4 w x)):JF (fnOf np nl b) args s x.1 x.2 w:=gi hn h
theorem JF.ofN {np nl:Nat}{args:List Slot}(hn:args.length=np)(h:JB b (args++Kak nl .emp) s (EN s1 ())):JF (fnOf np nl b) args s () s1 true:=by
 obtain⟨o,h,ρ',rfl⟩:=h
 refine⟨true,?_,λ_=>rfl⟩
 rw [hxb,if_pos hn,h];rfl
end
end Pu
namespace Pu
variable [aZ]
open PySem L2 Enc
def fuel:Nat:=1000000
instance:Enc PyData:=⟨λd=>d⟩
/-- what may be a key -/
class dN (κ:Type) [Enc κ] where
 key:κ->Key
 ok:∀x:κ,keyOf (Enc.enc x)=some (key x)
 inj:∀x y:κ,key x=key y->x=y
instance:dN Int:=⟨Sum.inl,λ_=>rfl,λ_ _ h=>Sum.inl.inj h⟩
def bQ {κ β:Type}[Enc κ][dN κ][Enc β](f:List (κ×β)):List (Key×PyData):=f.map λp=>(dN.key p.1,enc p.2)
def aN {κ β:Type}[DecidableEq κ]:List (κ×β)->κ->Option β
 |[],_=>none
 |(k,d)::r,j=>if k=j then some d else aN r j
theorem UI {κ β:Type}[Enc κ][dN κ][DecidableEq κ][Enc β]:∀(f:List (κ×β)) (j:κ),cD (bQ f) (dN.key j)=(aN f j).map enc
 |[],j=>rfl
 |(k,d)::r,j=>by
  show (if dN.key k=dN.key j then some (enc d) else cD (bQ r) (dN.key j))=_
  unfold aN
  by_cases h:k=j
  ·rw [if_pos h,if_pos (by rw [h])];rfl
  ·rw [if_neg h,if_neg (λz=>h (dN.inj _ _ z))];exact UI r j
def Vu {σ:Type}(is:List Nat)(J:σ->List Slot)(s':aa)(x:σ):Out->Prop:=λo=>Rj is o=.nx (J x) s'
def Vv {σ:Type}(is:List Nat)(J:σ->List Slot)(p:σ×aa):Out->Prop:=Vu is J p.2 p.1
def Vt {α σ:Type}[Enc α](w:Bool)(is:List Nat)(J:σ->List Slot)(s':aa)(x:α ⊕ σ):Out->Prop:=match x with
 |.inl r=>nO w s' r
 |.inr st=>Vu is J s' st
def MxS {α σ:Type}[Enc α](w:Bool)(J:σ->List Slot)(p:(α ⊕ σ)×aa):Out->Prop:=N6 w J p.2 p.1
def JK {α σ:Type}[Enc α](w:Bool)(is:List Nat)(J:σ->List Slot)(p:(α ⊕ σ)×aa):Out->Prop:=Vt w is J p.2 p.1
section
variable {ρ aB cY:List Slot}{s s1 s2 s3:aa}{e e2:SE}{i j k:Nat}{w w1 w2 o:Bool}{a b A B rest:SS}{Φ:Out->Prop}{c:ST}
theorem gB {α:Type}{xs:List α}{p:α->Bool}{n:Nat}(h:xs.length<=n):(xs.filter p).length<=n:=KaB (Ka5 _ _) h
theorem izq {α σ:Type}[Enc α]{is:List Nat}{J:σ->List Slot}{x:α}:lG (JK w is J (.inl x,s)):=λo ⟨w',h,_⟩=>⟨_,_,h⟩
theorem gQ {σ:Type}{J:σ->List Slot}{is:List Nat}{x:σ}(h:JB a ρ s (Vu is J s1 x)):JB (dR is a) ρ s (ES J s1 x):=by
 obtain⟨o,h,q⟩:=h
 exact⟨_,by show (a.ev ρ s).map _=_;rw [h];rfl,q⟩
theorem Gu {σ:Type}{J:σ->List Slot}{is:List Nat}{x:σ×aa}(h:JB a ρ s (Vv is J x)):JB (dR is a) ρ s (HV J x):=gQ h
theorem U8 {α σ:Type}[Enc α]{J:σ->List Slot}{is:List Nat}{x:α ⊕ σ}(h:JB a ρ s (Vt w is J s1 x)):JB (dR is a) ρ s (N6 w J s1 x):=by
 obtain⟨o,h,q⟩:=h
 refine⟨_,by show (a.ev ρ s).map _=_;rw [h];rfl,?_⟩
 cases x with
 |inl r=>
  obtain⟨w',rfl,q⟩:=q
  exact⟨w',rfl,q⟩
 |inr st=>exact q
theorem JB.HL {α σ:Type}[Enc α]{J:σ->List Slot}{is:List Nat}{x:(α ⊕ σ)×aa}(h:JB a ρ s (JK w is J x)):JB (dR is a) ρ s (MxS w J x):=U8 h
theorem JB.DG {α σ:Type}[Enc α]{is:List Nat}{J:σ->List Slot}{x:α}(h:JE e ρ s x s1 w):JB (SS.ag e) ρ s (Vt w is J s1 (.inl x)):=JB.ag h
theorem izk {α σ:Type}[Enc α]{is:List Nat}{J:σ->List Slot}{x:α}(h:JE e ρ s x s1 w):JB (SS.ag e) ρ s (JK w is J (.inl x,s1)):=JB.ag h
theorem JB.mv {α:Type}[Enc α]{xs:List α}(hi:ρ[i]? = some (.aC (xs.map enc) o))(hw:w=true->o=true:=by decide):JB (AM (RE.mv i)) ρ s (nO w s xs):=by
 refine⟨.ret (enc xs,o) s,?_,o,rfl,hw⟩
 rw [yj,Jq,hi];rfl
theorem JB.mvS {α:Type}[Enc α]{xs:List α}(hi:ρ[i]? = some (.aC (xs.map enc) o))(hw:w=true->o=true:=by decide):JB (AM (RE.mv i)) ρ s (A4 w (xs,s)):=JB.mv hi hw
theorem cX {α:Type}[Enc α]{x v:α}(h:JE e ρ s v s1 w)(hx:x=v):JN (cF i e) ρ s (ρ.set i (.dat (enc x))) s1:=hx ▸ JN.set h
theorem JN.Oa {x y v:Int}{f:Int->Int->Int}(hi:ρ[i]? = some (.dat (enc x)))(h:JE e ρ s y s1 w)(hx:v=f x y):JN (SS.al i e f) ρ s (ρ.set i (.dat (enc v))) s1:=hx ▸ JN.aug hi h
theorem JN.aC {α:Type}[Enc α]{x v:List α}(h:JN a ρ s (ρ.set i (.aC (v.map enc) o)) s1)(hx:x=v):JN a ρ s (ρ.set i (.aC (x.map enc) o)) s1:=hx ▸ h
theorem JN.cI {κ:Type}[Enc κ][dN κ]{α:Type}[Enc α]{x v:List (κ×α)}(h:JN a ρ s (ρ.set i (.cI (bQ v))) s1)(hx:x=v):JN a ρ s (ρ.set i (.cI (bQ x))) s1:=hx ▸ h
theorem JN.newD:JN (SS.am i) ρ s (ρ.set i (.cI [])) s:=rfl
theorem JN.dput {κ:Type}[Enc κ][dN κ]{α:Type}[Enc α]{f:List (κ×α)}{x:α}{j:κ}(hi:ρ[i]? = some (.cI (bQ f)))(hv:JE e ρ s x s1 w)(hk:JE e2 ρ s1 j s2 w1)(hl:f.length<100000):JN (ixs i e2 e) ρ s (ρ.set i (.cI (bQ ((j,x)::f)))) s2:=by
 obtain⟨_,hv,_⟩:=hv
 obtain⟨_,hk,_⟩:=hk
 unfold JN
 rw [xw,hv]
 simp only [Kaj]
 rw [hi]
 show ((e2.ev ρ s1).bind _)=_
 rw [hk]
 show (match keyOf (enc j) with|some j=>(if (bQ f).length<100000 then some (Out.nx (ρ.set i (.cI ((j,enc x)::bQ f))) s2) else none)|none=>none)=_
 rw [dN.ok]
 show (if (bQ f).length<100000 then _ else _)=_
 rw [if_pos (by unfold bQ;simpa using hl)];rfl
theorem JP.dat {α:Type}[Enc α]{x v:α}{p:SP}(hx:x=v)(h:JE e ρ s v s1 w)(hp:JP p ρ (aB.set i (.dat (enc x))) s1 cY s2):JP (kN i e p) ρ aB s cY s2:=JP.cons h (hx ▸ hp)
theorem JP.aqR {p:SP}(hp:JP p ρ (aB.set i (.cI [])) s cY s2):JP (Vc i p) ρ aB s cY s2:=hp
theorem xr {κ:Type}[Enc κ][dN κ]{α β:Type}[Enc α][Enc β]{g:SG}{ek ev:SE}{R:α->List Slot}{kf:α->κ}{vf:α->β}(hg:∀x,g.ev (enc x) ρ=some (R x)):∀{xs:List α} {f:List (κ×β)},(∀x∈xs,JE ek (R x) s (kf x) s w1)->(∀x∈xs,JE ev (R x) s (vf x) s w2)->dQ g.ev cT.ev ek.ev ev.ev ρ (xs.map enc) (bQ f) s=some (bQ ((xs.map λx=>(kf x,vf x)).reverse++f),s)
 |[],f,_,_=>rfl
 |x::xs,f,hk,hv=>by
  have ih:=xr hg (xs:=xs) (f:=(kf x,vf x)::f) (λy hy=>hk y (Kab _ hy)) (λy hy=>hv y (Kab _ hy))
  obtain⟨_,k1,_⟩:=hk x Kaa
  obtain⟨_,v1,_⟩:=hv x Kaa
  rw [Kai]
  unfold dQ
  rw [hg x];simp only [Kaj,UU,if_true]
  rw [k1];simp only [Kaj]
  rw [v1];simp only [Kaj,dN.ok]
  show dQ g.ev cT.ev ek.ev ev.ev ρ (xs.map enc) (bQ ((kf x,vf x)::f)) s=_
  rw [ih,Kai,Kb0,KaR];rfl
theorem JP.dc {κ:Type}[Enc κ][dN κ]{α β:Type}[Enc α][Enc β]{it:SI}{g:SG}{ek ev:SE}{vs:List Nat}{hv:∀i∈g.ix,i∈vs}{p:SP}{xs:List α}{kf:α->κ}{vf:α->β}{x:List (κ×β)}(hx:x=Kbw (xs.map λy=>(kf y,vf y)))(R:α->List Slot)(hi:JI it ρ s xs s1)(hg:∀x,g.ev (enc x) (bq ρ vs)=some (R x))(hk:∀x∈xs,JE ek (R x) s1 (kf x) s1 w1)(hv':∀x∈xs,JE ev (R x) s1 (vf x) s1 w2)(hl:xs.length<=100000)(hp:JP p ρ (aB.set i (.cI (bQ x))) s1 cY s2):JP (SP.dc i it g cT ek ev vs hv p) ρ aB s cY s2:=by
 unfold JP at hp ⊢
 unfold JI at hi
 rw [Dq,hi];simp only [Kaj]
 have:=xr (κ:=κ) (f:=[]) hg hk hv'
 rw [KaE] at this
 rw [show (dQ g.ev cT.ev ek.ev ev.ev (bq ρ vs) (xs.map enc) [] s1)=_ from this]
 simp only [Kaj]
 rw [if_pos (by unfold bQ;simpa using hl),<-hx]
 exact hp
theorem JE.din {κ:Type}[Enc κ][dN κ][DecidableEq κ]{β:Type}[Enc β]{f:List (κ×β)}{x:κ}(hi:ρ[i]? = some (.cI (bQ f)))(h:JE e ρ s x s1 w):JE (NT i e) ρ s (decide ((aN f x).isSome=true)) s1 true:=by
 obtain⟨_,h,_⟩:=h
 refine⟨true,?_,λ_=>rfl⟩
 rw [BI,hi]
 show ((e.ev ρ s).bind _)=_
 rw [h]
 show (match keyOf (enc x) with|some j=>some ((PyData.bool (cD (bQ f) j).isSome,true),s1)|none=>none)=_
 rw [dN.ok]
 show some ((PyData.bool (cD (bQ f) (dN.key x)).isSome,true),s1)=_
 rw [UI]
 cases aN f x <;> rfl
theorem JE.OG {κ:Type}[Enc κ][dN κ][DecidableEq κ]{β:Type}[Enc β][Inhabited β]{f:List (κ×β)}{x:κ}(hi:ρ[i]? = some (.cI (bQ f)))(h:JE e ρ s x s1 w)(hs:(aN f x).isSome=true):JE (SE.OG i e) ρ s ((aN f x).getD default) s1 false:=by
 obtain⟨_,h,_⟩:=h
 refine⟨false,?_,nofun⟩
 rw [BJ,hi]
 show ((e.ev ρ s).bind _)=_
 rw [h]
 show (match keyOf (enc x) with|some j=>(cD (bQ f) j).map (λd=>((d,false),s1))|none=>none)=_
 rw [dN.ok]
 show ((cD (bQ f) (dN.key x)).map _)=_
 rw [UI]
 cases hd:aN f x with
 |none=>rw [hd] at hs;cases hs
 |some y=>rfl
theorem JE.IK {κ:Type}[Enc κ][dN κ][DecidableEq κ]{β:Type}[Enc β]{f:List (κ×β)}{x:κ}{d:β}(hi:ρ[i]? = some (.cI (bQ f)))(h:JE e ρ s x s1 w)(h2:JE e2 ρ s1 d s2 w1):JE (Vd i e e2) ρ s ((aN f x).getD d) s2 false:=by
 obtain⟨_,h,_⟩:=h
 obtain⟨_,h2,_⟩:=h2
 refine⟨false,?_,nofun⟩
 rw [sL,hi]
 show ((e.ev ρ s).bind _)=_
 rw [h]
 show (match keyOf (enc x) with|some j=>(e2.ev ρ s1).bind (λz=>some (((cD (bQ f) j).getD z.1.1,false),z.2))|none=>none)=_
 rw [dN.ok]
 show ((e2.ev ρ s1).bind _)=_
 rw [h2]
 show some (((cD (bQ f) (dN.key x)).getD (enc d),false),s2)=_
 rw [UI]
 cases aN f x <;> rfl
theorem JE.a_ {α β:Type}[Enc β]{v:α×aa}{f:α->aa->β×aa}(h:∀x s',v=(x,s')->JE e ρ s (f x s').1 (f x s').2 w):JE e ρ s (a_ v f).1 (a_ v f).2 w:=h _ _ rfl
theorem JT.a_ {α:Type}{v:α×aa}{f:α->aa->Bool×aa}(h:∀x s',v=(x,s')->JT c ρ s ((f x s').1=true) (f x s').2):JT c ρ s ((a_ v f).1=true) (a_ v f).2:=h _ _ rfl
theorem JE.QY (hi:ρ[i]? = some .bf):JE (Ct i 0) ρ s s.1 s true:=⟨true,by rw [UD,hi];rfl,λ_=>rfl⟩
theorem JE.sk1 (hi:ρ[i]? = some .bf):JE (Ct i 1) ρ s s.2.1 s true:=⟨true,by rw [UD,hi];rfl,λ_=>rfl⟩
theorem JE.QZ (hi:ρ[i]? = some .bf):JE (Ct i 2) ρ s s.2.2 s true:=⟨true,by rw [UD,hi];rfl,λ_=>rfl⟩
theorem JN.QY {z:Int}{n:aa}(hi:ρ[i]? = some .bf)(h:JE e ρ s z s w)(hx:n=(z,s.2.1,s.2.2)):JN (Qw i 0 e) ρ s ρ n:=by
 obtain⟨_,h,_⟩:=h
 unfold JN
 rw [Z4,h,hx]
 show (match PyData.int z,ρ[i]? with|.int z,some .bf=>(nu s z 0).map λs'=>Out.nx ρ s'|_,_=>none)=_
 rw [hi];rfl
theorem JN.QZ {z:Int}{n:aa}(hi:ρ[i]? = some .bf)(h:JE e ρ s z s w)(hx:n=(s.1,s.2.1,z)):JN (Qw i 2 e) ρ s ρ n:=by
 obtain⟨_,h,_⟩:=h
 unfold JN
 rw [Z4,h,hx]
 show (match PyData.int z,ρ[i]? with|.int z,some .bf=>(nu s z 2).map λs'=>Out.nx ρ s'|_,_=>none)=_
 rw [hi];rfl
theorem JE.aqL {α β γ:Type}[Enc α][Enc β][Enc γ][Flat γ]{it it1:SI}{g g1:SG}{vs vs1:List Nat}{hv:∀i∈g.ix,i∈vs}{hv1:∀i∈g1.ix,i∈vs1}{xs:List α}{ys:α->List β}{f:α->β->γ}(R:α->List Slot)(R1:α->β->List Slot)(hi:JI it ρ s xs s1)(hg:∀x,g.ev (enc x) (bq ρ vs)=some (R x))(hg1:∀x y,g1.ev (enc y) (bq (R x) vs1)=some (R1 x y))(hi1:∀x∈xs,JI it1 (R x) s1 (ys x) s1)(he:∀x∈xs,∀y∈ys x,JE e (R1 x y) s1 (f x y) s1 w)(hl:(xs.flatMap λx=>(ys x).map (f x)).length<=100000):
  JE (SE.lc2 it g cT it1 g1 cT e vs vs1 hv hv1) ρ s (xs.flatMap λx=>(ys x).map (f x)) s1 true:=by
 have key:∀zs:List α,(∀x∈zs,x∈xs)->∃q:List Vl,BL g.ev cT.ev it1.ev g1.ev cT.ev e.ev vs1 (bq ρ vs) (zs.map enc) s1=some (q,s1)/\q.map (·.1)=(zs.flatMap λx=>(ys x).map (f x)).map enc:=by
  intro zs
  induction zs with
  |nil=>intro _;exact⟨[],rfl,rfl⟩
  |cons x zs ih=>
   intro hz
   obtain⟨q,q1,q2⟩:=ih λy hy=>hz y (Kab _ hy)
   have hx:=hz x Kaa
   obtain⟨p,p1,p2,_⟩:=UL (g:=g1) (ρ:=bq (R x) vs1) (s:=s1) (w:=w) (P:=λ_=>True) (R:=R1 x) (f:=f x) (xs:=ys x) (tt:=cT) (e:=e) (λy _=>hg1 x y) (λ_ _=>JT.yes) (λy hy _=>he x hx y hy)
   rw [OH] at p2
   refine⟨p++q,?_,?_⟩
   ·have h1:=hi1 x hx
    unfold JI at h1
    rw [Kai]
    unfold BL
    rw [hg x];simp only [Kaj,UU,if_true]
    rw [h1];simp only [Kaj]
    rw [p1];simp only [Kaj]
    rw [q1];rfl
   ·rw [Kaz,p2,q2,KbA,Kaz]
 obtain⟨q,q1,q2⟩:=key xs λ_ h=>h
 have hlen:q.length<=100000:=by
  have:=congrArg Kcg q2
  simp only [Kag] at this
  omega
 refine⟨true,?_,λ_=>rfl⟩
 unfold JI at hi
 rw [CJ,hi];simp only [Kaj]
 rw [q1];simp only [Kaj]
 rw [if_pos hlen,Ua q2,q2];rfl
end
end Pu
namespace Pu
open PySem PySem.Spec PyProof.Rows L2 PySem.W
end Pu
namespace Pu
open PySem PySem.Spec PyProof.Rows L2
section
variable {P:Program}{w:World}{A:Around}{R:Result->Shared->Prop}{I:Addr}{fp wr:List Addr}{G:Array GenState->Array GenState->Prop}{n:Nat}{Pv:Nat->Value->Prop}{St:Nat->Shared->Prop}
/-- some of bM first i numbers: a set of ints at most i many -/
def HW (w:World)(h:Heap)(a:Addr)(val:Nat->Int)(i:Nat):Prop:=∃S m,SetR w h a S m/\m<=i/\∀k,S k=true↔∃j,j<i/\val j=k
theorem HW.step {h:Heap}{a:Addr}{val:Nat->Int}{i:Nat}{S:Int->Bool}{m:Nat}(hm:m<=i)(hS:∀k,S k=true↔∃j,j<i/\val j=k)(r:SetR w h a (λj=>S j ||decide (j=val i)) (if S (val i)=true then m else m+1)):HW w h a val (i+1):=by
 refine⟨_,_,r,by split <;> omega,λk=>?_⟩
 rw [Bool.or_eq_true,hS,decide_eq_true_eq]
 constructor
 ·rintro (⟨j,hj,e⟩|e)
  ·exact⟨j,by omega,e⟩
  ·exact⟨i,by omega,e.symm⟩
 ·rintro⟨j,hj,e⟩
  by_cases hji:j=i
  ·subst hji;exact .inr e.symm
  ·exact .inl ⟨j,by omega,e⟩
end
end Pu
namespace L2
open PySem PySem.W PySem.Calls PyProof.Rows PySem.Spec
end L2
namespace Pu
open PySem PySem.Spec PyProof.Rows L2
end Pu
namespace Pu
variable [aZ]
open PySem L2 Enc
/-- from here on a Bu list FA not own what it holds -/
def Jg (i:Nat)(b:SS):SS where
 t:=b.t
 ev:=λρ s=>match ρ[i]? with
  |some (.aC ds o)=>b.ev (ρ.set i (.aC ds false)) s
  |_=>none
 ok:=by
  intro K sk F0 H0 F H σ ρ ak s out D w h q
  dsimp only at h
  split at h
  ·rename_i ds o cz
   obtain⟨x,fp,e1,e2,a,vs,as,rfl,hH,hF,r,rfl⟩:=w.slots.get cz
   obtain⟨aH,w2⟩:=w.grow (o':=false) (ws:=vs) (es:=ds) (bs:=[]) e1 e2 hH hF (by rw [KaE];exact r) (λeo=>by cases eo)
   have eH:L2.upd H a (.lst vs)=H:=by
    funext b
    by_cases z:b=a
    ·rw [z,upd_same,hH]
    ·rw [upd_ne z]
   rw [eH] at w2
   exact b.ok K w2 h q
  ·cases h
section
variable {ρ:List Slot}{s:aa}{i:Nat}{b:SS}{Φ:Out->Prop}
theorem Lo {α:Type}[Enc α]{xs:List α}{o:Bool}(hi:ρ[i]? = some (.aC (xs.map enc) o))(h:JB b (ρ.set i (.aC (xs.map enc) false)) s Φ):JB (Jg i b) ρ s Φ:=by
 obtain⟨o',h,q⟩:=h
 refine⟨o',?_,q⟩
 show (match ρ[i]? with|some (.aC ds o)=>b.ev (ρ.set i (.aC ds false)) s|_=>none)=_
 rw [hi];exact h
end
theorem JE.str {ρ:List Slot}{s:aa}(x:Str):JE (SE.str x) ρ s x s true:=⟨true,rfl,λ_=>rfl⟩
end Pu
namespace Pu
variable [aZ]
open PySem L2 Enc
/-- a,b,..=a list of d8 length -/
def SG.lst (g:c9):SG where
 t:=λK=>gLst K g.n (g.t K)
 ix:=g.ix
 ev:=λd ρ=>match d with|.list ds=>if ds.length=g.n then g.ev ds ρ else none|_=>none
 ok:=by
  intro K sk F H σ ρ ak v d as ρ' Q s r sl h q
  dsimp only at h
  split at h
  ·rename_i ds
   split at h
   ·rename_i hl
    cases r with
    |lst ha hr=>exact⟨_,_,rfl,.inl (.inl (s _ _ ha)),by rw [hr.len];exact hl,g.ok K s hr sl h q⟩
   ·cases h
  ·cases h
theorem AB {α:Type}[Inhabited α](xs:List α)(k:Nat):aq xs (k:Int)=(xs[k]?).getD default:=by
 unfold aq L2.atI L2.ixN
 rw [if_pos (by omega:(0:Int)<=(k:Int))]
 by_cases h:(k:Int)<(xs.length:Int)
 ·rw [if_pos h]
  simp
 ·rw [if_neg h,Kb5 (by omega)]
  rfl
end Pu
namespace Pu
variable [aZ]
open PySem L2 Enc
/-- nothing behind -/
theorem JB.Rg {a:SS}{ρ:List Slot}{s:aa}{Φ:Out->Prop}(h:JB (SS.ab a SS.ac) ρ s Φ):JB a ρ s Φ:=by
 obtain⟨o,e,q⟩:=h
 refine⟨o,?_,q⟩
 rw [Jc] at e
 cases ha:a.ev ρ s with
 |none=>rw [ha] at e;cases e
 |some x=>
  rw [ha] at e
  simp only [Kaj] at e
  cases x with
  |nx ρ' s'=>exact e
  |ret v s'=>exact e
  |brk ρ' s'=>exact e
  |cnt ρ' s'=>exact e
/-- one argument by its name -/
def Jx {α:Type}:List α->List α
 |[a]=>[a]
 |_=>[]
theorem Ag {sk:Option Addr}{F H:Hp}{vs:List V}{sl:List Slot}(h:Slots sk F H (vs.map some) sl (gG sl)):Slots sk F H ((Jx vs).map some) (Jx sl) (gG (Jx sl)):=by
 match vs,sl,h with
 |[],_,.nil=>exact .nil
 |[_],_,.cons h1 .nil=>exact .cons h1 .nil
 |_::_::_,_,.cons _ (.cons _ _)=>exact .nil
theorem D3 {zs:List V}{ws:List Value}(h:Vals zs ws):Vals (Jx zs) (Jx ws):=by
 match zs,ws,h with
 |[],_,.nil=>exact .nil
 |[_],_,.cons h1 .nil=>exact .cons h1 .nil
 |_::_::_,_,.cons _ (.cons _ _)=>exact .nil
end Pu
set_option exponentiation.threshold 200000
namespace Pu
open PySem L2 Enc
variable [aZ]
/-- tuple(a list) -/
def LU (K:Frag):List V->Hp->VK->Prop:=λxs H Q=>∃p ys,xs=[.ref p]/\((SqL K H p ys/\∀l,H l=none->Q (.ref l) (upd H l (.tup ys)))∨(SqT K H p ys/\Q (.ref p) H))
def SE.e_ (e:SE):SE where
 t:=λK=>tCB (LU K) (tCons (e.t K) tNil)
 ev:=λρ s=>(e.ev ρ s).bind λx=>match x.1.1 with
  |.list ds=>some ((.tuple ds,x.1.2),x.2)
  |_=>none
 ok:=by
  intro K sk F H σ ρ ak s vl s' Q p h q
  obtain⟨⟨⟨x,fl⟩,s1⟩,h1,h2⟩:=aL h
  dsimp only at h2
  split at h2
  ·rename_i ds
   cases h2
   refine e.ok K p h1 λv F1 H1 as st k r f=>?_
   obtain⟨a,ys,cs,rfl,ha,hr,rfl⟩:=r.aP
   refine⟨a,ys,rfl,.inl ⟨.inl (.inl (st.sub' _ _ ha)),λl hl=>?_⟩⟩
   have st2:Step sk F1 H1 (upd F1 l (.tup ys)) (upd H1 l (.tup ys)):=Step.alloc st.sub' hl
   refine q _ _ _ cs (st.trans st2) ?_ (.tup upd_same (hr.mono st2.sub)) λe1=>?_
   ·refine⟨λb eb=>?_,YO k.tab.Ai hl⟩
    obtain⟨k1,k2⟩:=k b eb
    have ne:b≠l:=λz=>by rw [z,hl] at k1;cases k1
    exact⟨by rw [upd_ne ne];exact k1,by rw [upd_ne ne];exact k2⟩
   ·obtain⟨f1,f2⟩:=f e1
    exact⟨(KaP.mp f1).2,λb hb=>f2 b (Kab _ hb)⟩
  ·cases h2
/-- for x in a tuple -/
def SI.tup (e:SE):SI where
 t:=λK=>iTup K (e.t K)
 ev:=λρ s=>(e.ev ρ s).bind λx=>match x.1.1 with|.tuple ds=>some (ds,x.2)|_=>none
 ok:=by
  intro K sk F H σ ρ ak s ds s' R p h q
  obtain⟨⟨⟨x,fl⟩,s1⟩,h1,h⟩:=aL h
  dsimp only at h
  split at h
  ·rename_i ds
   cases h
   refine e.ok K p h1 λv F1 H1 as st1 k1 r1 f1=>?_
   obtain⟨a,xs,rfl,ha,hr⟩:=r1.cg
   refine⟨a,rfl,⟨xs,.inl (.inl (st1.sub' _ _ ha))⟩,q _ F1 H1 st1 k1 λF2 H2 i s1 s2=>⟨λd hd=>?_,λhl=>?_⟩⟩
   ·have hx:SqT K H2 a xs:=.inl (.inl (s2 _ _ (s1 _ _ ha)))
    obtain⟨v,bs,e1,e2⟩:=hr.get hd
    refine⟨⟨xs,v,hx,e1⟩,λx H3 hy=>?_⟩
    obtain⟨rfl,hy⟩:=hy
    have e3:=hy xs hx
    rw [e1] at e3
    cases e3
    exact⟨F2,bs,.refl s2,e2.mono s1⟩
   ·exact⟨xs,.inl (.inl (s2 _ _ (s1 _ _ ha))),by rw [hr.len];exact hl⟩
  ·cases h
mutual
def dep:PyData->Nat
 |.list xs=>hqi xs+1
 |.tuple xs=>hqi xs+1
 |_=>0
def hqi:List PyData->Nat
 |[]=>0
 |x::xs=>max (dep x) (hqi xs)
end
end Pu
namespace Pu
open PySem L2 Enc
mutual
def rk:PyData->Int->PyData×Int
 |.list xs,k=>(.list ((nh xs k).1++[.int (nh xs k).2]),(nh xs k).2+1)
 |.tuple xs,k=>(.tuple (nh xs k).1,(nh xs k).2)
 |d,k=>(d,k)
def nh:List PyData->Int->List PyData×Int
 |[],k=>([],k)
 |x::xs,k=>((rk x k).1::(nh xs (rk x k).2).1,(nh xs (rk x k).2).2)
end
/-- only these addresses change -/
def Fr (H H':Hp)(bs:List Addr):Prop:=∀a o,a∉bs->H a=some o->H' a=some o
theorem Fr.refl {H:Hp}{bs:List Addr}:Fr H H bs:=λ_ _ _ h=>h
theorem Fr.trans {H H1 H2:Hp}{bs:List Addr}(h:Fr H H1 bs)(g:Fr H1 H2 bs):Fr H H2 bs:=λa o n e=>g a o n (h a o n e)
theorem Fr.more {H H1:Hp}{bs cs:List Addr}(h:Fr H H1 bs)(s:∀a∈bs,a∈cs):Fr H H1 cs:=λa o n e=>h a o (λm=>n (s a m)) e
theorem Fr.alloc {H:Hp}{p:Addr}{o:HO}{bs:List Addr}(np:H p=none):Fr H (upd H p o) bs:=λa u _ e=>by rw [upd_ne (ne_of_none e np)];exact e
theorem Fr.put {H:Hp}{p:Addr}{o:HO}{bs:List Addr}(m:p∈bs):Fr H (upd H p o) bs:=λa u n e=>by rw [upd_ne (λz=>n (by rw [z];exact m))];exact e
end Pu
namespace Pu
open PySem PySem.Spec PyProof.Rows L2 Enc
end Pu
namespace Pu
open PySem L2 Enc
end Pu
namespace Pu
variable [aZ]
open PySem PySem.Spec PyProof.Rows L2
def minus (F:Hp)(as:List Addr):Hp:=λa=>if a∈as then none else F a
theorem ZO {F:Hp}{as:List Addr}{a:Addr}(h:a∈as):minus F as a=none:=if_pos h
theorem T9 {F:Hp}{as:List Addr}{a:Addr}(h:a∉as):minus F as a=F a:=if_neg h
theorem wm {F:Hp}{as:List Addr}{a:Addr}{o:HO}(h:minus F as a=some o):a∉as/\F a=some o:=by
 by_cases m:a∈as
 ·rw [ZO m] at h;cases h
 ·rw [T9 m] at h;exact⟨m,h⟩
theorem exp {F:Hp}{as:List Addr}:Same (minus F as) F:=λa o e=>(wm e).2
section
variable {sk:Option Addr}{F0 H0 F H F1 H1:Hp}{σ:L2.St}{ρ ρ':List Slot}{ak:List (List Addr)}{s s1:aa}{i:Nat}{d:PyData}
/-- what is new is taken out of bM frozen heap -/
theorem Wd.fresh (w:Wd sk F0 H0 F H σ ρ ak s)(st:Step sk F H F1 H1)(k:bA sk F1 H1 s1){as:List Addr}(hn:∀a∈as,H a=none):Wd sk F0 H0 (minus F1 as) H1 σ ρ ak s1/\Same F (minus F1 as):=by
 have sF:Same F (minus F1 as):=λb u e=>by
  rw [T9 (λm=>by have:=w.st.sub' b u e;rw [hn b m] at this;cases this)];exact st.sub b u e
 refine⟨w.next ⟨sF,exp.trans st.sub',λa o x y z=>st.fr a o x y z,st.dm,λb u e=>st.new b u (exp b u e)⟩ ⟨λb e=>⟨(k b e).1,?_⟩,k.tab.back exp⟩,sF⟩
 by_cases m:b∈as
 ·exact ZO m
 ·rw [T9 m];exact (k b e).2
theorem zU {F1 H1:Hp}{as:List Addr}(s:Same F1 H1):Same F1 (Jo (minus F1 as) H1 as):=λb u e=>by
 by_cases m:b∈as
 ·rw [NC m];exact s b u e
 ·rw [ya m,T9 m];exact e
theorem Wd.Mc (w:Wd sk F0 H0 F H σ ρ ak s){x:L2.St}{v:V}{as:List Addr}(r:Rp (Jo F H as) v d as)(hn:as.Nodup)(hF:∀a∈as,F a=none)(hs:∀a∈as,sk≠some a)(h0:∀a∈as,H0 a=none)(hd:∀a∈as,a∉ak.flatten):∃aH,Wd sk F0 H0 F H (σ.set i (some v)) (ρ.set i (.u6 d)) aH s:=by
 have nd:(as++ak.flatten).Nodup:=Kal.mpr ⟨hn,w.dX,λa ma b mb z=>by subst z;exact hd a ma mb⟩
 obtain⟨n1,n2⟩:=u7 (i:=i) nd
 refine⟨ak.set i as,w.st,w.bh,w.slots.set ⟨v,rfl,r,hF⟩,n1,λa m=>?_⟩
 rcases n2 a m with z|z
 ·obtain⟨xs,hx⟩:=r.dom a z
  rw [NC z] at hx
  exact⟨h0 a z,by rw [hx];exact nofun,hs a z⟩
 ·exact w.bT a z
end
end Pu
namespace Pu
variable [aZ]
open PySem PySem.Spec PyProof.Rows L2 Enc
def OkV (t:Frag->TE)(ev:List Slot->aa->Option (Bool×List Slot×aa)):Prop:=∀(K:Frag) {sk:Option Addr} {F0 H0 F H:Hp} {σ:L2.St} {ρ ρ':List Slot} {ak:List (List Addr)} {s s':aa} {b:Bool} {Q:VK},Wd sk F0 H0 F H σ ρ ak s->ev ρ s=some (b,ρ',s') ->
 (∀F' H' aH,Same F F'->Wd sk F0 H0 F' H' σ ρ' aH s'->Q (.bl b) H')->t K σ H Q
structure RV where
 t:Frag->TE
 ev:List Slot->aa->Option (Bool×List Slot×aa)
 ok:OkV t ev
def OkM (t:Frag->TT)(ev:List Slot->aa->Option (Bool×List Slot×aa)):Prop:=∀(K:Frag) {sk:Option Addr} {F0 H0 F H:Hp} {σ:L2.St} {ρ ρ':List Slot} {ak:List (List Addr)} {s s':aa} {b:Bool} {Q:Bool->Hp->Prop},Wd sk F0 H0 F H σ ρ ak s->ev ρ s=some (b,ρ',s') ->
 (∀F' H' aH,Same F F'->Wd sk F0 H0 F' H' σ ρ' aH s'->Q b H')->t K σ H Q
structure RM where
 t:Frag->TT
 ev:List Slot->aa->Option (Bool×List Slot×aa)
 ok:OkM t ev
def RM.t' (c:ST):RM where
 t:=c.t
 ev:=λρ s=>(c.ev ρ s).bind λx=>some (x.1,ρ,x.2)
 ok:=by
  intro K sk F0 H0 F H σ ρ ρ' ak s s' b Q w h q
  obtain⟨⟨x,s1⟩,h1,h2⟩:=aL h
  cases h2
  exact c.ok K w.pre h1 λF1 H1 st k=>q F1 H1 ak st.sub (w.next st k)
def RM.v (c:RV):RM where
 t:=λK=>tB (c.t K)
 ev:=c.ev
 ok:=by
  intro K sk F0 H0 F H σ ρ ρ' ak s s' b Q w h q
  exact c.ok K w h λF1 H1 nQ sF w1=>⟨_,rfl,q F1 H1 nQ sF w1⟩
def JM (c:RM)(ρ:List Slot)(s:aa)(P:Prop)[Decidable P](aB:List Slot)(s':aa):Prop:=∃ρ',c.ev ρ s=some (decide P,ρ',s')/\(¬P->ρ'=aB)
section
variable {ρ aB cY ρ3:List Slot}{s s1 s2:aa}{i:Nat}{w:Bool}{e:SE}
theorem JM.t {c:ST}{P:Prop}[Decidable P](h:JT c ρ s P s1):JM (RM.t' c) ρ s P ρ s1:=by
 refine⟨ρ,?_,λ_=>rfl⟩
 show (c.ev ρ s).bind _=_
 unfold JT at h
 rw [h];rfl
def g7 {α:Type}[Enc α](e:RE)(ρ:List Slot)(s:aa)(x:α)(ρ':List Slot)(s':aa)(w:Bool):Prop:=∃w',e.ev ρ s=some ((enc x,w'),ρ',s')/\(w=true->w'=true)
def g6 (a:RA)(ρ:List Slot)(s:aa)(ds:List PyData)(ρ':List Slot)(s':aa)(w:Bool):Prop:=∃gk:List Vl,a.ev ρ s=some (gk,ρ',s')/\gk.map (·.1)=ds/\(w=true->gk.all fN=true)
theorem g7.se {α:Type}[Enc α]{x:α}(h:JE e ρ s x s1 w):g7 (RE.e e) ρ s x ρ s1 w:=by
 obtain⟨w',h1,h2⟩:=h
 exact⟨w',by show (e.ev ρ s).bind _=_;rw [h1];rfl,h2⟩
theorem g7.mvO {α:Type}[Enc α]{x:α}(hi:ρ[i]? = some (.own (enc x))):g7 (RE.mv i) ρ s x (ρ.set i (.dat (enc x))) s true:=by
 refine⟨true,?_,λ_=>rfl⟩
 show (match ρ[i]? with|some (.dat d)=>_|some (.own d)=>_|some (.aC ds o)=>_|_=>_)=_
 rw [hi]
theorem g6.nil:g6 RA.nil ρ s [] ρ s true:=⟨[],rfl,rfl,λ_=>rfl⟩
theorem g6.cons {α:Type}[Enc α]{x:α}{e:RE}{r:RA}{ds:List PyData}(h:g7 e ρ s x aB s1 true)(hr:g6 r aB s1 ds cY s2 w):g6 (RA.cons e r) ρ s (enc x::ds) cY s2 w:=by
 obtain⟨w',h1,h2⟩:=h
 obtain⟨gk,h3,h4,h5⟩:=hr
 refine⟨(enc x,w')::gk,?_,by rw [Kai,h4],λhw=>by rw [Ka3,h5 hw];unfold fN;rw [h2 rfl];rfl⟩
 show (e.ev ρ s).bind _=_
 rw [h1]
 show (r.ev aB s1).bind _=_
 rw [h3];rfl
theorem g6.iH {α:Type}[Enc α][Flat α]{x:α}{e:RE}{r:RA}{ds:List PyData}{w1:Bool}(h:g7 e ρ s x aB s1 w1)(hr:g6 r aB s1 ds cY s2 w):g6 (RA.cons e r) ρ s (enc x::ds) cY s2 w:=by
 obtain⟨w',h1,h2⟩:=h
 obtain⟨gk,h3,h4,h5⟩:=hr
 refine⟨(enc x,w')::gk,?_,by rw [Kai,h4],λhw=>by rw [Ka3,h5 hw];unfold fN;rw [Flat.fl];simp⟩
 show (e.ev ρ s).bind _=_
 rw [h1]
 show (r.ev aB s1).bind _=_
 rw [h3];rfl
theorem g6.tup {a:RA}{ds:List PyData}(h:g6 a ρ s ds aB s1 w)(hl:ds.length<=100000):∃w',(RE.tup a).ev ρ s=some ((.tuple ds,w'),aB,s1)/\(w=true->w'=true):=by
 obtain⟨gk,h1,h2,h3⟩:=h
 refine⟨gk.all fN,?_,h3⟩
 show (a.ev ρ s).bind _=_
 rw [h1]
 show (if gk.length<=100000 then _ else _)=_
 have:gk.length=ds.length:=by rw [<-h2,Kag]
 rw [if_pos (by omega),h2]
theorem g7.HG {α β γ:Type}[Enc α][Enc β][Enc γ]{x:α}{y:β}{z:γ}{a:RA}(h:g6 a ρ s [enc x,enc y,enc z] aB s1 w):g7 (RE.tup a) ρ s (T3.mk x y z) aB s1 w:=h.tup (by show 3<=_;decide)
theorem g7.Mp {α β γ δ:Type}[Enc α][Enc β][Enc γ][Enc δ]{x:α}{y:β}{z:γ}{u:δ}{a:RA}(h:g6 a ρ s [enc x,enc y,enc z,enc u] aB s1 w):g7 (RE.tup a) ρ s (T4.mk x y z u) aB s1 w:=h.tup (by show 4<=_;decide)
theorem U5 {α:Type}[Enc α]{x:α}{e:RE}(h:g7 e ρ s x aB s1 w):JB (AM e) ρ s (nO w s1 x):=by
 obtain⟨w',h1,h2⟩:=h
 exact⟨_,by show (e.ev ρ s).bind _=_;rw [h1];rfl,w',rfl,h2⟩
theorem JB.QN {α:Type}[Enc α]{x:α}{e:RE}(h:g7 e ρ s x aB s1 w):JB (AM e) ρ s (A4 w (x,s1)):=U5 h
theorem NV {α:Type}[Enc α]{x v:α}(h:JE e ρ s v s1 true)(hx:x=v):JN (SS.set i e) ρ s (ρ.set i (.own (enc x))) s1:=by
 subst hx
 obtain⟨w',h1,h2⟩:=h
 show (e.ev ρ s).bind _=_
 rw [h1]
 show some (Out.nx (ρ.set i (Ez (enc x,w'))) s1)=_
 rw [h2 rfl];rfl
end
end Pu
namespace Pu
variable [aZ]
open PySem PySem.Spec PyProof.Rows L2 Enc
def SP.Ou (i:Nat)(e:SE)(r:SP):SP where
 t:=λK=>tCons (e.t K) (r.t K)
 ts:=i::r.ts
 ev:=λρ cN s=>(e.ev ρ s).bind λx=>if fN x.1=true then r.ev ρ (cN.set i (.u6 x.1.1)) x.2 else none
 ok:=by
  intro K sk F0 H0 F H σ p_ ρ cN je ak cU s s' Q p w h q
  obtain⟨⟨x,s1⟩,h1,h2⟩:=aL h
  dsimp only at h2
  split at h2
  ·rename_i ho
   refine e.ok K p h1 λv F1 H1 as st k rr f=>?_
   have hf:as.Nodup/\∀a∈as,H a=none:=by
    unfold fN at ho
    rcases Kbe.mp ho with z|z
    ·exact f z
    ·rw [rr.aM z];exact⟨KaO,λa m=>by cases m⟩
   obtain⟨f1,f2⟩:=hf
   obtain⟨wv,sF⟩:=w.fresh st k f2
   obtain⟨fa,wa⟩:=wv.Mc (i:=i) (d:=x.1) (x:=σ) (rr.mono (zU st.sub')) f1 (λa m=>ZO m) (λa m e=>by have:=(w.bh a e).1;rw [f2 a m] at this;cases this) (λa m=>by
    cases z:H0 a with
    |none=>rfl
    |some o=>exact absurd (f2 a m) (w.st.dm a (by rw [z];exact nofun))) (λa m z=>(w.bT a z).2.1 (f2 a m))
   have p2:Pre sk (minus F1 as) H1 σ ρ ak s1:=p.next ⟨sF,exp.trans st.sub',λa o x y z=>st.fr a o x y z,st.dm,λb u e=>st.new b u (exp b u e)⟩ wv.bh
   refine r.ok K p2 wa h2 λvs F2 H2 fv Vj w2 hl=>?_
   exact q (v::vs) F2 H2 fv (sF.trans Vj) w2 (by rw [Kad,Kad,hl])
  ·cases h2
theorem JP.u6 {ρ aB cY:List Slot}{s s1 s2:aa}{i:Nat}{e:SE}{α:Type}[Enc α]{x v:α}{p:SP}(hx:x=v)(h:JE e ρ s v s1 true)(hp:JP p ρ (aB.set i (.u6 (enc x))) s1 cY s2):JP (SP.Ou i e p) ρ aB s cY s2:=by
 subst hx
 obtain⟨w',h1,h2⟩:=h
 show (e.ev ρ s).bind _=_
 rw [h1]
 show (if fN (enc x,w')=true then _ else _)=_
 rw [if_pos (by unfold fN;rw [h2 rfl];rfl)]
 exact hp
end Pu
namespace Pu
open PySem PySem.Spec PyProof.Rows L2 Enc
variable [aZ]
def SE.slO (a:SE)(lo hi:SO):SE where
 t:=λK=>tSl (rSlA K) (a.t K) (lo.t K) (hi.t K)
 ev:=λρ s=>(a.ev ρ s).bind λx=>(lo.ev ρ x.2).bind λy=>(hi.ev ρ y.2).bind λw=>match x.1.1 with
  |.tuple ds=>some ((.tuple (fO ds y.1 w.1),x.1.2),w.2)
  |_=>none
 ok:=by
  intro K sk F H σ ρ ak s vl s' Q p h q
  obtain⟨⟨⟨x,fl⟩,s1⟩,h1,hA⟩:=aL h
  obtain⟨⟨y,s2⟩,h2,hB⟩:=aL hA
  obtain⟨⟨w,s3⟩,h3,hC⟩:=aL hB
  clear h hA hB
  dsimp only at hC
  split at hC
  ·rename_i ds
   cases hC
   refine a.ok K p h1 λv F1 H1 as st1 k1 r1 f1=>?_
   refine lo.ok K (p.next st1 k1) h2 λF2 H2 st2 k2=>?_
   refine hi.ok K ((p.next st1 k1).next st2 k2) h3 λF3 H3 st3 k3=>?_
   have r3:=(r1.mono st2.sub).mono st3.sub
   obtain⟨b,xs,rfl,ha,hr⟩:=r3.cg
   obtain⟨bs,g1,g2⟩:=hr.drop (HT.sIx ds.length 0 y)
   obtain⟨cs,g3,g4⟩:=g1.take (HT.sIx ds.length ds.length w-HT.sIx ds.length 0 y)
   have hc:az F3 (cutV xs y w) (fO ds y w) cs:=by
    unfold cutV fO
    rw [hr.len]
    exact g3
   refine⟨b,xs,rfl,.inl (.inl (st3.sub' _ _ ha)),λe=>?_,λ_ pp np=>?_⟩
   ·rw [hr.len] at e
    have e2:=sG e
    refine q _ F3 H3 as ((st1.trans st2).trans st3) k3 ?_ f1
    show Rp F3 (.ref b) (.tuple (fO ds y w)) as
    rw [e2];exact r3
   ·have sa:bw F3 H3 (upd F3 pp (.tup (cutV xs y w))) (upd H3 pp (.tup (cutV xs y w))):=.alloc st3.sub' np
    refine q _ _ _ cs (((st1.trans st2).trans st3).trans sa.any) (k3.keep sa) (.tup upd_same (hc.mono sa.sub)) λe=>?_
    obtain⟨f2,f3⟩:=f1 e
    have sb:=g4.trans g2
    exact⟨f2.sublist sb,λx m=>f3 x (sb.subset m)⟩
  ·cases hC
section
variable {α β γ:Type}[Enc α][Enc β][Enc γ]{ρ:List Slot}{s s1:aa}{a:SE}{w:Bool}
theorem JE.Mh {p:T3 α β γ}(ha:JE a ρ s p s1 w):JE (SE.slO a SO.no (SO.at (SE.ab 2))) ρ s ((p.x,p.y):α×β) s1 w:=by
 obtain⟨w',e,g⟩:=ha
 refine⟨w',?_,g⟩
 show (a.ev ρ s).bind _=_
 rw [e];rfl
end
end Pu
set_option maxHeartbeats 4000000
set_option exponentiation.threshold 2000
namespace Pu
variable [aZ]
open PySem L2 Enc
section
abbrev Slot.e {α:Type}[Enc α](x:α):Slot:=.dat (Enc.enc x)
abbrev HX:=T3 (List Int) (List Int) Int
abbrev aX:=T4 (List Int) Int Int (List Int)
abbrev A5:=(List Int)×(List Int)
abbrev aK:=@JC.cons
abbrev bK:=@JC.nil
abbrev cK:=@SR.cons
abbrev dK:=@SR.nil
abbrev eK:=@SA.cons
abbrev fK:=@SA.nil
abbrev gK:=@JA.nil
abbrev iK:=@JA.iH
abbrev jK:=@c9.cons
end
def Oo:SS:=SS.ag (SE.all (hxs (SI.zip (hjl 0) (EK (hjl 0) (SO.at (SE.ab 1)) (SO.no))) (SG.tup (jK (aT 1) (jK (aT 2) (c9.nil)))) (cT) (qw (hjl 1) (hjl 2)) [1,2] (of_decide_eq_true rfl)))
def Sl:Fn:=fnOf 1 2 Oo
def Il (fq:List Int):Bool:=
 (Kb3 (Kaf (λ(x1:Int×Int)=>(decide (x1.1<x1.2))) (Ka9 fq (cut fq (some (1:Int)) none))) id)
def yL (fq:List Int):Prop:=
 (Ka9 fq (cut fq (some (1:Int)) none)).length<=100000
theorem fY (fq:List Int)(s:aa)(h0:yL fq):JF Sl [.e fq] s (Il fq) s false:=by
 unfold yL at h0
 have h1:=h0
 refine gi rfl ?_
 unfold Il Oo
 show JB _ [.e fq,.emp,.emp] _ _
 exact JB.ag (kO (JE.all (hxz (λ(x1:Int×Int)=>[.e fq,.e x1.1,.e x1.2]) (JI.zip (aj rfl) (Lf (aj rfl) (JO.at (JE.ab 1)) (JO.no))) (λ_=>rfl) (λx1 _=>xT (aj rfl) (aj rfl)) h1)))
def TV:SS:=SS.ab (wg (SG.tup (jK (aT 1) (jK (aT 2) (jK (aT 3) (jK (aT 4) (c9.nil)))))) (hjl 0)) (SS.ab (eM (CF (ST.ab (qw (hjl 2) (SE.ab 0))) (ST.ab (qw (hjl 3) (SE.ab 1)))) (SS.ag (SE.bool false)) (SS.ac)) (SS.ag (NJ (SE.ac Sl (cK (AQ (AQ (SE.lst (eK (NW (SE.ab 1)) (fK))) (hjl 1)) (SE.lst (eK (hjl 2) (fK)))) (dK))) (SE.ac Sl (cK (AQ (AQ (SE.lst (eK (NW (SE.ab 1)) (fK))) (hjl 4)) (SE.lst (eK (hjl 3) (fK)))) (dK))))))
def gzm:Fn:=fnOf 1 4 TV
def Nh (ae:aX):Bool:=
 if (ae.y<(0:Int))∨(ae.z<(1:Int)) then
 false
 else
 (decide (((Il (([(-(1:Int))]++ae.x)++[ae.y]))=true)/\((Il (([(-(1:Int))]++ae.u)++[ae.z]))=true)))
def BF (ae:aX):Prop:=
 (¬((ae.y<(0:Int))∨(ae.z<(1:Int)))->([(-(1:Int))].length+ae.x.length<=100000/\([(-(1:Int))]++ae.x).length+[ae.y].length<=100000/\yL (([(-(1:Int))]++ae.x)++[ae.y])/\(((Il (([(-(1:Int))]++ae.x)++[ae.y]))=true)->([(-(1:Int))].length+ae.u.length<=100000/\([(-(1:Int))]++ae.u).length+[ae.z].length<=100000/\yL (([(-(1:Int))]++ae.u)++[ae.z])))))
theorem zG (ae:aX)(s:aa)(h0:BF ae):JF gzm [.e ae] s (Nh ae) s false:=by
 unfold BF at h0
 have h8:=h0
 refine gi rfl ?_
 unfold Nh TV
 show JB _ [.e ae,.emp,.emp,.emp,.emp] _ _
 refine JB.ab (aB:=[.e ae,.e ae.x,.e ae.y,.e ae.z,.e ae.u]) (zA (aj rfl) rfl) ?_
 refine CC (JT.or (JT.ab (xT (aj rfl) (JE.ab 0))) (λ_=>JT.ab (xT (aj rfl) (JE.ab 1)))) ?_ (λ_=>NR) ?_
 ·intro hq
  exact JB.ag (kO (JE.bool false))
 intro hq
 obtain⟨h1,h2,h3,h7⟩:=h8 hq
 refine Cv ?_
 exact JB.ag (JE.N7 (zD (JE.ac (aK (GB (GB (JE.lst (xs:=[(-(1:Int))]) (iK (JE.neg (JE.ab 1)) (gK)) (by show 1<=100000;decide)) (aj rfl) h1) (JE.lst (xs:=[ae.y]) (iK (aj rfl) (gK)) (by show 1<=100000;decide)) h2) (bK)) (fY (([(-(1:Int))]++ae.x)++[ae.y]) _ h3))) (λhq=>(match h7 hq with|⟨h4,h5,h6⟩=>zD (JE.ac (aK (GB (GB (JE.lst (xs:=[(-(1:Int))]) (iK (JE.neg (JE.ab 1)) (gK)) (by show 1<=100000;decide)) (aj rfl) h4) (JE.lst (xs:=[ae.z]) (iK (aj rfl) (gK)) (by show 1<=100000;decide)) h5) (bK)) (fY (([(-(1:Int))]++ae.u)++[ae.z]) _ h6)))))
def O4:SS:=eM (ST.ac (ST.ab (SE.ac gzm (cK (hjl 0) (dK))))) (Qx) (SS.ac)
def S9:Fn:=fnOf 1 0 O4
def wF (ae:aX):Unit:=
 if ¬((Nh ae)=true) then
 ()
 else
 ()
def xn (ae:aX):Prop:=
 BF ae/\((¬((Nh ae)=true))->False)
theorem jX (ae:aX)(s:aa)(h0:xn ae):JF S9 [.e ae] s (wF ae) s true:=by
 unfold xn at h0
 obtain⟨h1,h3⟩:=h0
 show JF _ _ _ () _ _
 refine JF.ofN rfl ?_
 unfold O4
 show JB _ [.e ae] _ (EN s (if ¬((Nh ae)=true) then
 ()
 else
 ()))
 refine zF (JT.not (JT.ab (zD (JE.ac (aK (aj rfl) (bK)) (zG ae _ h1))))) ?_ ?_
 ·intro hq
  have h2:=h3 hq
  exact h2.elim
 ·intro hq
  exact JB.al ⟨_,rfl⟩
def SD:SS:=SS.ab (Gv 1 (SB.own (SE.lst (fK)))) (SS.ab (hxx 2 3 (kN 2 (hjl 0) (kN 3 (SE.ab 2) (SP.nil))) (of_decide_eq_true rfl)) (SS.ab (ED fuel (ST.ab (GD (hjl 2) (SE.ab 1))) (dR [] (SS.ab (eM (ST.ab (fX (o6 (hjl 2) (hjl 3)) (SE.ab 0))) (dR [] (SS.ab (Cp 1 (hjl 3)) (ED fuel (ST.ab (fX (o6 (hjl 2) (hjl 3)) (SE.ab 0))) (dR [] (cF 2 (vp (hjl 2) (hjl 3))))))) (dR [] (SS.ac))) (SS.al 3 (SE.ab 1) (λi j=>i+j))))) (Cq 1 (SS.ag (hjl 1)))))
def XI:Fn:=fnOf 1 3 SD
def Em (st1:((List Int)×Int×Int))(st2:Int):Prop:=(st2 % st1.2.2)=(0:Int)
instance (st1:((List Int)×Int×Int)):DecidablePred (Em st1):=λst=>by unfold Em;infer_instance
def Ij (st1:((List Int)×Int×Int))(st2:Int):Int:=
 lt ((st2 / st1.2.2)) λCN=>
 CN
def MS (st1:((List Int)×Int×Int))(st2:Int):Prop:=0<st1.2.2
def MD (st1:((List Int)×Int×Int))(st2:Int):Prop:=
 (0<st1.2.2/\st1.2.2<1000000000000000000000000000000000000000000000000000000000000)
def Ia  (st1:(List Int)×Int×Int):Prop:=(1:Int)<st1.2.1
instance  : DecidablePred (Ia ):=λst=>by unfold Ia;infer_instance
def Ig  (st1:(List Int)×Int×Int):(List Int)×Int×Int:=
 lt (if (st1.2.1 % st1.2.2)=(0:Int) then
 lt (st1.1++[st1.2.2]) λd9=>
 lt (lA (Em st1) (Ij st1) fuel st1.2.1) λp2=>
 (d9,p2)
 else
 (st1.1,st1.2.1)) λp1=>
 lt (st1.2.2+(1:Int)) λpart2=>
 (p1.1,p1.2,part2)
def V2  (st1:(List Int)×Int×Int):Prop:=True
def MR  (st1:(List Int)×Int×Int):Prop:=
 0<st1.2.2/\(((st1.2.1 % st1.2.2)=(0:Int))->(st1.1.length<100000/\(bu (st1.1++[st1.2.2]) λd9=>
 vn (Em st1) (Ij st1) (MS st1) (MD st1) fuel st1.2.1)))
def Fb (iG:Int):List Int:=
 lt (([]:List Int)) λeU=>
 lt (iG) λpC=>
 lt ((2:Int)) λpart1=>
 lt (lA (Ia) (Ig) fuel (eU,pC,part1)) λp3=>
 p3.1
def Bb (iG:Int):Prop:=
 (bu (([]:List Int)) λeU=>
 (bu (iG) λpC=>
 (bu ((2:Int)) λpart1=>
 vn (Ia) (Ig) (V2) (MR) fuel (eU,pC,part1))))
theorem mS (iG:Int)(s:aa)(h0:Bb iG):JF XI [.e iG] s (Fb iG) s false:=by
 unfold Bb at h0
 have h11:=h0
 refine gi rfl ?_
 unfold Fb SD
 show JB _ [.e iG,.emp,.emp,.emp] _ _
 refine aY λeU e1=>?_
 have h10:=bL h11 e1
 refine JB.ab (aB:=[.e iG,.aC (Kaf enc eU) true,.emp,.emp]) (JN.aC (Ld (JE.lst (xs:=[]) gK)) e1) ?_
 refine aY λpC e2=>?_
 have h9:=bL h10 e2
 refine aY λpart1 e3=>?_
 have h8:=bL h9 e3
 refine JB.ab (aB:=[.e iG,.aC (Kaf enc eU) true,.e pC,.e part1]) (xS (JP.dat e2 (aj rfl) (JP.dat e3 (JE.ab 2) (JP.nil)))) ?_
 refine aY λp3 e9=>?_
 refine JB.ab (K8 (J:=λ(st1:(List Int)×Int×Int)=>[.e iG,.aC (Kaf enc st1.1) true,.e st1.2.1,.e st1.2.2]) (f:=(Ig)) (C:=(Ia)) (dc:=(V2)) (d:=(MR)) (st:=(eU,pC,part1)) rfl ?_ ?_ h8 e9) ?_
 ·intro st1 hd
  exact JT.ab (JE.gt (aj rfl) (JE.ab 1))
 ·intro st1 hd
  unfold MR at hd
  obtain⟨h1,h7⟩:=hd
  unfold Ig
  refine gQ ?_
  refine aY λp1 e4=>?_
  refine JB.ab (JN.U1 (J:=λ(p:(List Int)×Int)=>[.e iG,.aC (Kaf enc p.1) true,.e p.2,.e st1.2.2]) (JT.ab (jW (vt (aj rfl) (aj rfl) h1) (JE.ab 0))) ?_ ?_ e4) ?_
  ·intro hq
   obtain⟨h2,h6⟩:=h7 hq
   refine gQ ?_
   refine aY λd9 e5=>?_
   have h5:=bL h6 e5
   refine JB.ab (aB:=[.e iG,.aC (Kaf enc d9) true,.e st1.2.1,.e st1.2.2]) (JN.aC (NH rfl (aj rfl) h2) e5) ?_
   refine aY λp2 e7=>?_
   refine JB.ac (K8 (J:=λ(st2:Int)=>[.e iG,.aC (Kaf enc d9) true,.e st2,.e st1.2.2]) (f:=(Ij st1)) (C:=(Em st1)) (dc:=(MS st1)) (d:=(MD st1)) (st:=st1.2.1) rfl ?_ ?_ h5 e7) ?_
   ·intro st2 hd
    unfold MS at hd
    have h3:=hd
    exact JT.ab (jW (vt (aj rfl) (aj rfl) h3) (JE.ab 0))
   ·intro st2 hd
    unfold MD at hd
    have h4:=hd
    unfold Ij
    refine gQ ?_
    refine aY λCN e6=>?_
    refine JB.ac (aB:=[.e iG,.aC (Kaf enc d9) true,.e CN,.e st1.2.2]) (cX (AO (aj rfl) (aj rfl) h4) e6) ?_
    exact rfl
   exact rfl
  ·intro hq
   refine gQ ?_
   exact JB.al rfl
  show JB _ [.e iG,.aC (Kaf enc p1.1) true,.e p1.2,.e st1.2.2] _ _
  refine aY λpart2 e8=>?_
  refine JB.ac (aB:=[.e iG,.aC (Kaf enc p1.1) true,.e p1.2,.e part2]) (JN.Oa rfl (JE.ab 1) e8) ?_
  exact rfl
 show JB _ [.e iG,.aC (Kaf enc p3.1) true,.e p3.2.1,.e p3.2.2] _ _
 refine JB.frz (i:=1) rfl ?_
 show JB _ [.e iG,.e p3.1,.e p3.2.1,.e p3.2.2] _ _
 exact JB.ag (aj rfl)
def R4:SS:=SS.ab (cF 3 (vp (gR (hjl 0)) (hjl 2))) (SS.ab (eM (ST.ab (vy (o6 (hjl 1) (hjl 3)) (SE.ab 0))) (SS.ag (SE.bool false)) (SS.ac)) (SS.ab (cF 4 (AQ (EK (hjl 0) (SO.at (hjl 2)) (SO.no)) (hxs (SI.list (EK (hjl 0) (SO.no) (SO.at (hjl 2)))) (aT 5) (cT) (fL (hjl 5) (hjl 1)) [5] (of_decide_eq_true rfl)))) (SS.ag (SE.all (hxs (SI.zip (hjl 0) (hjl 4)) (SG.tup (jK (aT 5) (jK (aT 6) (c9.nil)))) (cT) (fX (fL (hjl 5) (vp (hjl 1) (hjl 3))) (hjl 6)) [5,6] (of_decide_eq_true rfl))))))
def W3:Fn:=fnOf 3 4 R4
def Ox (aI:List Int)(aS:Int)(br:Int):Bool:=
 lt (((aI.length:Int) / br)) λAK=>
 if (aS % AK)≠(0:Int) then
 false
 else
 lt (((cut aI (some br) none)++(Kaf (λ(x1:Int)=>(x1+aS)) (cut aI none (some br))))) λKS=>
 (Kb3 (Kaf (λ(x2:Int×Int)=>(decide ((x2.1+(aS / AK))=x2.2))) (Ka9 aI KS)) id)
def Ak (aI:List Int)(aS:Int)(br:Int):Prop:=
 (0<br/\br<1000000000000000000000000000000000000000000000000000000000000)/\(bu (((aI.length:Int) / br)) λAK=>
 0<AK/\(¬((aS % AK)≠(0:Int))->((cut aI none (some br)).length<=100000/\(cut aI (some br) none).length+(Kaf (λ(x1:Int)=>(x1+aS)) (cut aI none (some br))).length<=100000/\(bu (((cut aI (some br) none)++(Kaf (λ(x1:Int)=>(x1+aS)) (cut aI none (some br))))) λKS=>
 (∀x2∈(Ka9 aI KS),(0<AK/\AK<1000000000000000000000000000000000000000000000000000000000000))/\(Ka9 aI KS).length<=100000))))
theorem mR (aI:List Int)(aS:Int)(br:Int)(s:aa)(h0:Ak aI aS br):JF W3 [.e aI,.e aS,.e br] s (Ox aI aS br) s false:=by
 unfold Ak at h0
 obtain⟨h1,h10⟩:=h0
 refine gi rfl ?_
 unfold Ox R4
 show JB _ [.e aI,.e aS,.e br,.emp,.emp,.emp,.emp] _ _
 refine aY λAK e1=>?_
 obtain⟨h2,h9⟩:=bL h10 e1
 refine JB.ab (aB:=[.e aI,.e aS,.e br,.e AK,.emp,.emp,.emp]) (cX (AO (lB (aj rfl)) (aj rfl) h1) e1) ?_
 refine CC (JT.ab (CA (vt (aj rfl) (aj rfl) h2) (JE.ab 0))) ?_ (λ_=>NR) ?_
 ·intro hq
  exact JB.ag (kO (JE.bool false))
 intro hq
 obtain⟨h3,h4,h8⟩:=h9 hq
 refine Cv ?_
 refine aY λKS e2=>?_
 obtain⟨h7,h6⟩:=bL h8 e2
 refine JB.ab (aB:=[.e aI,.e aS,.e br,.e AK,.e KS,.emp,.emp]) (cX (GB (Lf (aj rfl) (JO.at (aj rfl)) (JO.no)) (hxz (λ(x1:Int)=>[.e aI,.e aS,.e br,.e AK,.emp,.e x1,.emp]) (JI.list (Lf (aj rfl) (JO.no) (JO.at (aj rfl)))) (λ_=>rfl) (λx1 _=>iB (aj rfl) (aj rfl)) h3) h4) e2) ?_
 exact JB.ag (kO (JE.all (hxz (λ(x2:Int×Int)=>[.e aI,.e aS,.e br,.e AK,.e KS,.e x2.1,.e x2.2]) (JI.zip (aj rfl) (aj rfl)) (λ_=>rfl) (λx2 hx=>(have h5:=h7 x2 hx;jW (iB (aj rfl) (AO (aj rfl) (aj rfl) h5)) (aj rfl))) h6)))
def R9:SS:=SS.ab (cF 2 (gR (hjl 0))) (SS.ab (iO (SI.list (SE.ac XI (cK (hjl 2) (dK)))) (aT 3) (dR [3] (ED fuel (EJ (ST.ab (fX (o6 (hjl 2) (hjl 3)) (SE.ab 0))) (ST.ab (SE.ac W3 (cK (hjl 0) (cK (hjl 1) (cK (vp (hjl 2) (hjl 3)) (dK))))))) (dR [] (cF 2 (vp (hjl 2) (hjl 3))))))) (SS.ag (hjl 2)))
def Wb:Fn:=fnOf 2 2 R9
def Ek (aI:List Int)(aS:Int)(x1:Int)(st2:Int):Prop:=((st2 % x1)=(0:Int))/\((Ox aI aS (st2 / x1))=true)
instance (aI:List Int)(aS:Int)(x1:Int):DecidablePred (Ek aI aS x1):=λst=>by unfold Ek;infer_instance
def HY (aI:List Int)(aS:Int)(x1:Int)(st2:Int):Int:=
 lt ((st2 / x1)) λhqa=>
 hqa
def MQ (aI:List Int)(aS:Int)(x1:Int)(st2:Int):Prop:=0<x1/\(((st2 % x1)=(0:Int))->((0<x1/\x1<1000000000000000000000000000000000000000000000000000000000000)/\Ak aI aS (st2 / x1)))
def MC (aI:List Int)(aS:Int)(x1:Int)(st2:Int):Prop:=
 (0<x1/\x1<1000000000000000000000000000000000000000000000000000000000000)
def J0 (aI:List Int)(aS:Int)(st1:Int)(x1:Int):Int:=
 lt (lA (Ek aI aS x1) (HY aI aS x1) fuel st1) λp1=>
 p1
def Rw (aI:List Int)(aS:Int)(st1:Int)(x1:Int):Prop:=
 vn (Ek aI aS x1) (HY aI aS x1) (MQ aI aS x1) (MC aI aS x1) fuel st1
def MM (aI:List Int)(aS:Int):Int:=
 lt ((aI.length:Int)) λbr=>
 lt (Kaq (J0 aI aS) br (Fb br)) λp2=>
 p2
def Bk (aI:List Int)(aS:Int):Prop:=
 (bu ((aI.length:Int)) λbr=>
 Bb br/\bH (J0 aI aS) (Rw aI aS) (Fb br) br)
theorem kU (aI:List Int)(aS:Int)(s:aa)(h0:Bk aI aS):JF Wb [.e aI,.e aS] s (MM aI aS) s false:=by
 unfold Bk at h0
 have h9:=h0
 refine gi rfl ?_
 unfold MM R9
 show JB _ [.e aI,.e aS,.emp,.emp] _ _
 refine aY λbr e1=>?_
 obtain⟨h1,h8⟩:=bL h9 e1
 refine JB.ab (aB:=[.e aI,.e aS,.e br,.emp]) (cX (lB (aj rfl)) e1) ?_
 refine aY λp2 e4=>?_
 refine JB.ab (tQ (J:=λ(st1:Int)=>[.e aI,.e aS,.e st1,.emp]) (R:=λ(st1:Int) (x1:Int)=>[.e aI,.e aS,.e st1,.e x1]) (f:=(J0 aI aS)) (d:=(Rw aI aS)) (st:=br) (JI.list (JE.ac (aK (aj rfl) (bK)) (mS br _ h1))) rfl (λ_ _=>rfl) ?_ h8 e4) ?_
 ·intro st1 x1 hd
  unfold Rw at hd
  have h7:=hd
  unfold J0
  refine gQ ?_
  refine aY λp1 e3=>?_
  refine JB.ac (K8 (J:=λ(st2:Int)=>[.e aI,.e aS,.e st2,.e x1]) (f:=(HY aI aS x1)) (C:=(Ek aI aS x1)) (dc:=(MQ aI aS x1)) (d:=(MC aI aS x1)) (st:=st1) rfl ?_ ?_ h7 e3) ?_
  ·intro st2 hd
   unfold MQ at hd
   obtain⟨h2,h5⟩:=hd
   exact NO (JT.ab (jW (vt (aj rfl) (aj rfl) h2) (JE.ab 0))) (λhq=>(match h5 hq with|⟨h3,h4⟩=>JT.ab (zD (JE.ac (aK (aj rfl) (aK (aj rfl) (aK (AO (aj rfl) (aj rfl) h3) (bK)))) (mR aI aS (st2 / x1) _ h4)))))
  ·intro st2 hd
   unfold MC at hd
   have h6:=hd
   unfold HY
   refine gQ ?_
   refine aY λhqa e2=>?_
   refine JB.ac (aB:=[.e aI,.e aS,.e hqa,.e x1]) (cX (AO (aj rfl) (aj rfl) h6) e2) ?_
   exact rfl
  exact rfl
 show JB _ [.e aI,.e aS,.e p2,.emp] _ _
 exact JB.ag (aj rfl)
def SN:SS:=SS.ab (wg (SG.tup (jK (aT 1) (jK (aT 2) (jK (aT 3) (c9.nil))))) (hjl 0)) (SS.ab (cF 4 (SE.ac Wb (cK (hjl 2) (cK (hjl 3) (dK))))) (SS.ab (SS.set 5 (vp (xU (hjl 3) (hjl 4)) (gR (hjl 2)))) (SS.ab (hxx 6 7 (kN 6 (AQ (hjl 1) (EK (hjl 2) (SO.no) (SO.at (hjl 4)))) (kN 7 (gR (hjl 1)) (SP.nil))) (of_decide_eq_true rfl)) (SS.ab (ED fuel (EJ (ST.ab (GD (hjl 7) (SE.ab 0))) (ST.ab (fX (fL (cW (hjl 6) (AR (hjl 7) (SE.ab 1))) (hjl 5)) (cW (hjl 6) (fL (AR (hjl 7) (SE.ab 1)) (hjl 4)))))) (dR [] (SS.al 7 (SE.ab 1) (λi j=>i-j)))) (AM (RE.tup (RA.cons (RE.e (EK (hjl 6) (SO.no) (SO.at (hjl 7)))) (RA.cons (RE.e (EK (hjl 6) (SO.at (hjl 7)) (SO.at (fL (hjl 7) (hjl 4))))) (RA.cons (RE.e (hjl 5)) (RA.nil))))))))))
def YW:Fn:=fnOf 1 7 SN
def Iq (br:Int)(b6:Int)(fq:List Int)(st1:Int):Prop:=((0:Int)<st1)/\(((aq fq (st1-(1:Int)))+b6)=(aq fq ((st1-(1:Int))+br)))
instance (br:Int)(b6:Int)(fq:List Int):DecidablePred (Iq br b6 fq):=λst=>by unfold Iq;infer_instance
def MU (br:Int)(b6:Int)(fq:List Int)(st1:Int):Int:=
 lt (st1-(1:Int)) λFP=>
 FP
def OD (br:Int)(b6:Int)(fq:List Int)(st1:Int):Prop:=(((0:Int)<st1)->((-(fq.length:Int)<=(st1-(1:Int))/\(st1-(1:Int))<(fq.length:Int))/\(-(fq.length:Int)<=((st1-(1:Int))+br)/\((st1-(1:Int))+br)<(fq.length:Int))))
def RO (br:Int)(b6:Int)(fq:List Int)(st1:Int):Prop:=
 True
def gj (bG:HX):HX:=
 lt ((MM bG.y bG.z)) λbr=>
 lt (((bG.z*br) / (bG.y.length:Int))) λb6=>
 lt ((bG.x++(cut bG.y none (some br)))) λfq=>
 lt ((bG.x.length:Int)) λgh=>
 lt (lA (Iq br b6 fq) (MU br b6 fq) fuel gh) λp2=>
 (T3.mk (cut fq none (some p2)) (cut fq (some p2) (some (p2+br))) b6)
def yZ (bG:HX):Prop:=
 Bk bG.y bG.z/\(bu ((MM bG.y bG.z)) λbr=>
 (KbP bG.z<18446744073709551616∨KbP br<18446744073709551616)/\(0<(bG.y.length:Int)/\(bG.y.length:Int)<1000000000000000000000000000000000000000000000000000000000000)/\(bu (((bG.z*br) / (bG.y.length:Int))) λb6=>
 bG.x.length+(cut bG.y none (some br)).length<=100000/\(bu ((bG.x++(cut bG.y none (some br)))) λfq=>
 (bu ((bG.x.length:Int)) λgh=>
 vn (Iq br b6 fq) (MU br b6 fq) (OD br b6 fq) (RO br b6 fq) fuel gh))))
theorem qE (bG:HX)(s:aa)(h0:yZ bG):JF YW [.e bG] s (gj bG) s true:=by
 unfold yZ at h0
 obtain⟨h1,h12⟩:=h0
 refine gi rfl ?_
 unfold gj SN
 show JB _ [.e bG,.emp,.emp,.emp,.emp,.emp,.emp,.emp] _ _
 refine JB.ab (aB:=[.e bG,.e bG.x,.e bG.y,.e bG.z,.emp,.emp,.emp,.emp]) (zA (aj rfl) rfl) ?_
 refine aY λbr e2=>?_
 obtain⟨h2,h3,h11⟩:=bL h12 e2
 refine JB.ab (aB:=[.e bG,.e bG.x,.e bG.y,.e bG.z,.e br,.emp,.emp,.emp]) (cX (JE.ac (aK (aj rfl) (aK (aj rfl) (bK))) (kU bG.y bG.z _ h1)) e2) ?_
 refine aY λb6 e3=>?_
 obtain⟨h4,h10⟩:=bL h11 e3
 refine JB.ab (aB:=[.e bG,.e bG.x,.e bG.y,.e bG.z,.e br,.own (enc b6),.emp,.emp]) (NV (AO (GC (aj rfl) (aj rfl) h2) (lB (aj rfl)) h3) e3) ?_
 refine aY λfq e4=>?_
 have h9:=bL h10 e4
 refine aY λgh e5=>?_
 have h8:=bL h9 e5
 refine JB.ab (aB:=[.e bG,.e bG.x,.e bG.y,.e bG.z,.e br,.own (enc b6),.e fq,.e gh]) (xS (JP.dat e4 (GB (aj rfl) (Lf (aj rfl) (JO.no) (JO.at (aj rfl))) h4) (JP.dat e5 (lB (aj rfl)) (JP.nil)))) ?_
 refine aY λp2 e7=>?_
 refine JB.ab (K8 (J:=λ(st1:Int)=>[.e bG,.e bG.x,.e bG.y,.e bG.z,.e br,.own (enc b6),.e fq,.e st1]) (f:=(MU br b6 fq)) (C:=(Iq br b6 fq)) (dc:=(OD br b6 fq)) (d:=(RO br b6 fq)) (st:=gh) rfl ?_ ?_ h8 e7) ?_
 ·intro st1 hd
  unfold OD at hd
  have h7:=hd
  exact NO (JT.ab (JE.gt (aj rfl) (JE.ab 0))) (λhq=>(match h7 hq with|⟨h5,h6⟩=>JT.ab (jW (iB (iC (aj rfl) (Gy (aj rfl) (JE.ab 1)) h5) (NS rfl)) (iC (aj rfl) (iB (Gy (aj rfl) (JE.ab 1)) (aj rfl)) h6))))
 ·intro st1 hd
  unfold MU
  refine gQ ?_
  refine aY λFP e6=>?_
  refine JB.ac (aB:=[.e bG,.e bG.x,.e bG.y,.e bG.z,.e br,.own (enc b6),.e fq,.e FP]) (JN.Oa rfl (JE.ab 1) e6) ?_
  exact rfl
 show JB _ [.e bG,.e bG.x,.e bG.y,.e bG.z,.e br,.own (enc b6),.e fq,.e p2] _ _
 exact U5 (g7.HG (g6.cons (g7.se (Lf (aj rfl) (JO.no) (JO.at (aj rfl)))) (g6.cons (g7.se (Lf (aj rfl) (JO.at (aj rfl)) (JO.at (iB (aj rfl) (aj rfl))))) (g6.iH (g7.se (NS rfl)) (g6.nil)))))
def To:SS:=SS.ab (wg (SG.tup (jK (aT 1) (jK (aT 2) (c9.nil)))) (hjl 0)) (SS.ag (SE.slO (SE.ac YW (cK (SE.tup (eK (hjl 1) (eK (hjl 2) (eK (SE.ab 0) (fK))))) (dK))) (SO.no) (SO.at (SE.ab 2))))
def YD:Fn:=fnOf 1 2 To
def M3 (bR:A5):A5:=
 ((gj (T3.mk bR.1 bR.2 (0:Int))).x,(gj (T3.mk bR.1 bR.2 (0:Int))).y)
def Bs (bR:A5):Prop:=
 yZ (T3.mk bR.1 bR.2 (0:Int))
theorem qD (bR:A5)(s:aa)(h0:Bs bR):JF YD [.e bR] s (M3 bR) s true:=by
 unfold Bs at h0
 have h1:=h0
 refine gi rfl ?_
 unfold M3 To
 show JB _ [.e bR,.emp,.emp] _ _
 refine JB.ab (aB:=[.e bR,.e bR.1,.e bR.2]) (zA (aj rfl) rfl) ?_
 exact JB.ag (JE.Mh (JE.ac (aK (JE.HG (vq (aj rfl) (vq (aj rfl) (iK (JE.ab 0) (gK))))) (bK)) (qE (T3.mk bR.1 bR.2 (0:Int)) _ h1)))
def Pe:SS:=SS.ab (wg (SG.tup (jK (aT 1) (jK (aT 2) (jK (aT 3) (jK (aT 4) (c9.nil)))))) (hjl 0)) (SS.ab (SS.Be 5 6 (SP.dc 5 (SI.list (hjl 1)) (aT 7) (cT) (hjl 7) (SE.bool true) [7] (of_decide_eq_true rfl) (SP.dc 6 (SI.list (hjl 4)) (aT 8) (cT) (hjl 8) (SE.bool true) [8] (of_decide_eq_true rfl) (SP.nil))) (of_decide_eq_true rfl)) (SS.ag (SE.tup (eK (hxs (nW (hjl 2)) (aT 7) (cT) (oZ (NT 5 (hjl 7))) [7] (of_decide_eq_true rfl)) (eK (hxs (nW (hjl 3)) (aT 8) (cT) (oZ (NT 6 (hjl 8))) [8] (of_decide_eq_true rfl)) (fK))))))
def Pf:Fn:=fnOf 1 8 Pe
def jm (ae:aX):A5:=
 lt (Kbw (Kaf (λ(x1:Int)=>(x1,true)) ae.x)) λbY=>
 lt (Kbw (Kaf (λ(x2:Int)=>(x2,true)) ae.u)) λNr=>
 ((Kaf (λ(x3:Int)=>(b2i (decide (KaZ (aN bY x3)=true)))) (rng 0 ae.y)),(Kaf (λ(x4:Int)=>(b2i (decide (KaZ (aN Nr x4)=true)))) (rng 0 ae.z)))
def xo (ae:aX):Prop:=
 ae.x.length<=100000/\(bu (Kbw (Kaf (λ(x1:Int)=>(x1,true)) ae.x)) λbY=>
 ae.u.length<=100000/\(bu (Kbw (Kaf (λ(x2:Int)=>(x2,true)) ae.u)) λNr=>
 (-1000000<=ae.y/\ae.y<=1000000)/\(rng 0 ae.y).length<=100000/\(-1000000<=ae.z/\ae.z<=1000000)/\(rng 0 ae.z).length<=100000))
theorem mT (ae:aX)(s:aa)(h0:xo ae):JF Pf [.e ae] s (jm ae) s true:=by
 unfold xo at h0
 obtain⟨h1,h8⟩:=h0
 refine gi rfl ?_
 unfold jm Pe
 show JB _ [.e ae,.emp,.emp,.emp,.emp,.emp,.emp,.emp,.emp] _ _
 refine JB.ab (aB:=[.e ae,.e ae.x,.e ae.y,.e ae.z,.e ae.u,.emp,.emp,.emp,.emp]) (zA (aj rfl) rfl) ?_
 refine aY λbY e2=>?_
 obtain⟨h2,h7⟩:=bL h8 e2
 refine aY λNr e3=>?_
 obtain⟨h3,h4,h5,h6⟩:=bL h7 e3
 refine JB.ab (aB:=[.e ae,.e ae.x,.e ae.y,.e ae.z,.e ae.u,.cI (bQ bY),.cI (bQ Nr),.emp,.emp]) (JN.Be (JP.dc e2 (λ(x1:Int)=>[.e ae,.e ae.x,.e ae.y,.e ae.z,.e ae.u,.emp,.emp,.e x1,.emp]) (JI.list (aj rfl)) (λ_=>rfl) (λ_ _=>aj rfl) (λ_ _=>JE.bool true) h1 (JP.dc e3 (λ(x2:Int)=>[.e ae,.e ae.x,.e ae.y,.e ae.z,.e ae.u,.emp,.emp,.emp,.e x2]) (JI.list (aj rfl)) (λ_=>rfl) (λ_ _=>aj rfl) (λ_ _=>JE.bool true) h2 (JP.nil)))) ?_
 exact JB.ag (hxv (JA.cons (hxz (λ(x3:Int)=>[.e ae,.e ae.x,.e ae.y,.e ae.z,.e ae.u,.cI (bQ bY),.cI (bQ Nr),.e x3,.emp]) (rq (aj rfl) h3) (λ_=>rfl) (λx3 _=>iql (JE.din rfl (aj rfl))) h4) (JA.cons (hxz (λ(x4:Int)=>[.e ae,.e ae.x,.e ae.y,.e ae.z,.e ae.u,.cI (bQ bY),.cI (bQ Nr),.emp,.e x4]) (rq (aj rfl) h5) (λ_=>rfl) (λx4 _=>iql (JE.din rfl (aj rfl))) h6) (gK))))
def TF:SS:=SS.ab (wg (SG.tup (jK (aT 1) (jK (aT 2) (c9.nil)))) (SE.ac YD (cK (hjl 0) (dK)))) (SS.ab (SS.set 3 (hxs (Qv (hjl 1)) (SG.tup (jK (aT 4) (jK (aT 5) (c9.nil)))) (ST.ab (fX (hjl 5) (SE.ab 1))) (hjl 4) [4,5] (of_decide_eq_true rfl))) (AM (RE.tup (RA.cons (RE.mv 3) (RA.cons (RE.e (gR (hjl 1))) (RA.cons (RE.e (gR (hjl 2))) (RA.cons (RE.e (hxs (Qv (hjl 2)) (SG.tup (jK (aT 6) (jK (aT 5) (c9.nil)))) (ST.ab (fX (hjl 5) (SE.ab 1))) (hjl 6) [6,5] (of_decide_eq_true rfl))) (RA.nil))))))))
def Y4:Fn:=fnOf 1 6 TF
def Eo (bR:A5):aX:=
 lt ((M3 bR)) λp1=>
 lt ((Kaf (λ(x1:Int×Int)=>x1.1) (KaS (λ(x1:Int×Int)=>decide (x1.2=(1:Int))) (cf 0 p1.1)))) λoB=>
 (T4.mk oB (p1.1.length:Int) (p1.2.length:Int) (Kaf (λ(x2:Int×Int)=>x2.1) (KaS (λ(x2:Int×Int)=>decide (x2.2=(1:Int))) (cf 0 p1.2))))
def Ax (bR:A5):Prop:=
 Bs bR/\(bu ((M3 bR)) λp1=>
 (cf 0 p1.1).length<=100000/\(bu ((Kaf (λ(x1:Int×Int)=>x1.1) (KaS (λ(x1:Int×Int)=>decide (x1.2=(1:Int))) (cf 0 p1.1)))) λoB=>
 (cf 0 p1.2).length<=100000))
theorem tZ (bR:A5)(s:aa)(h0:Ax bR):JF Y4 [.e bR] s (Eo bR) s true:=by
 unfold Ax at h0
 obtain⟨h1,h5⟩:=h0
 refine gi rfl ?_
 unfold Eo TF
 show JB _ [.e bR,.emp,.emp,.emp,.emp,.emp,.emp] _ _
 refine aY λp1 e1=>?_
 obtain⟨h2,h4⟩:=bL h5 e1
 refine JB.ab (aB:=[.e bR,.e p1.1,.e p1.2,.emp,.emp,.emp,.emp]) (zA (U_ (JE.ac (aK (aj rfl) (bK)) (qD bR _ h1)) e1.symm) rfl) ?_
 refine aY λoB e2=>?_
 have h3:=bL h4 e2
 refine JB.ab (aB:=[.e bR,.e p1.1,.e p1.2,.own (enc oB),.emp,.emp,.emp]) (NV (Li (λ(x1:Int×Int)=>[.e bR,.e p1.1,.e p1.2,.emp,.e x1.1,.e x1.2,.emp]) (JI.ab (aj rfl)) (λ_=>rfl) (λx1 _=>JT.ab (jW (aj rfl) (JE.ab 1))) (λx1 _ _=>aj rfl) (gB h2)) e2) ?_
 exact U5 (g7.Mp (g6.cons (g7.mvO rfl) (g6.iH (g7.se (lB (aj rfl))) (g6.iH (g7.se (lB (aj rfl))) (g6.cons (g7.se (Li (λ(x2:Int×Int)=>[.e bR,.e p1.1,.e p1.2,.e oB,.emp,.e x2.2,.e x2.1]) (JI.ab (aj rfl)) (λ_=>rfl) (λx2 _=>JT.ab (jW (aj rfl) (JE.ab 1))) (λx2 _ _=>aj rfl) (gB h3))) (g6.nil))))))
def Ug:SS:=SS.ab (wg (SG.tup (jK (aT 2) (jK (aT 3) (jK (aT 4) (jK (aT 5) (c9.nil)))))) (hjl 0)) (SS.ab (eM (ST.ab (qw (hjl 1) (hjl 3))) (SS.ag (Ji false (hjl 1) (hjl 2))) (SS.ac)) (SS.ag (Ji false (o6 (AR (hjl 1) (hjl 3)) (hjl 4)) (hjl 5))))
def Uo:Fn:=fnOf 2 4 Ug
def Kq (ae:aX)(aD:Int):Bool:=
 if aD<ae.y then
 (decide (aD∈ae.x))
 else
 (decide (((aD-ae.y) % ae.z)∈ae.u))
def Bt (ae:aX)(aD:Int):Prop:=
 (¬(aD<ae.y)->0<ae.z)
theorem wj (ae:aX)(aD:Int)(s:aa)(h0:Bt ae aD):JF Uo [.e ae,.e aD] s (Kq ae aD) s false:=by
 unfold Bt at h0
 have h2:=h0
 refine gi rfl ?_
 unfold Kq Ug
 show JB _ [.e ae,.e aD,.emp,.emp,.emp,.emp] _ _
 refine JB.ab (aB:=[.e ae,.e aD,.e ae.x,.e ae.y,.e ae.z,.e ae.u]) (zA (aj rfl) rfl) ?_
 refine CC (JT.ab (xT (aj rfl) (aj rfl))) ?_ (λ_=>NR) ?_
 ·intro hq
  exact JB.ag (kO (JE.U7 (aj rfl) (aj rfl)))
 intro hq
 have h1:=h2 hq
 refine Cv ?_
 exact JB.ag (kO (JE.U7 (vt (Gy (aj rfl) (aj rfl)) (aj rfl) h1) (aj rfl)))
def O2:SS:=SS.ab (Jh (SE.ac S9 (cK (hjl 0) (dK)))) (SS.ag (SE.ac Y4 (cK (SE.ac Pf (cK (hjl 0) (dK))) (dK))))
def OW:Fn:=fnOf 1 0 O2
def cM (ae:aX):aX:=
 (Eo (jm ae))
def yU (ae:aX):Prop:=
 xn ae/\xo ae/\Ax (jm ae)
theorem iT (ae:aX)(s:aa)(h0:yU ae):JF OW [.e ae] s (cM ae) s true:=by
 unfold yU at h0
 obtain⟨h1,h2,h3⟩:=h0
 refine gi rfl ?_
 unfold cM O2
 show JB _ [.e ae] _ _
 refine JB.ab (aB:=[.e ae]) (Qm (JE.ac (aK (aj rfl) (bK)) (jX ae _ h1))) ?_
 exact JB.ag (JE.ac (aK (JE.ac (aK (aj rfl) (bK)) (mT ae _ h2)) (bK)) (tZ (jm ae) _ h3))
def RG:SS:=SS.ab (ED fuel (ST.ab (GD (hjl 1) (SE.ab 0))) (dR [] (hxx 0 1 (kN 0 (hjl 1) (kN 1 (o6 (hjl 0) (hjl 1)) (SP.nil))) (of_decide_eq_true rfl)))) (SS.ag (hjl 0))
def V7:Fn:=fnOf 2 0 RG
def JZ  (st1:Int×Int):Prop:=(0:Int)<st1.2
instance  : DecidablePred (JZ ):=λst=>by unfold JZ;infer_instance
def My  (st1:Int×Int):Int×Int:=
 lt (st1.2) λqT=>
 lt ((st1.1 % st1.2)) λKR=>
 (qT,KR)
def VO  (st1:Int×Int):Prop:=True
def Rz  (st1:Int×Int):Prop:=
 (bu (st1.2) λqT=>
 0<st1.2)
def MK (cJ:Int)(g8:Int):Int:=
 lt (lA (JZ) (My) fuel (cJ,g8)) λp1=>
 p1.1
def A9 (cJ:Int)(g8:Int):Prop:=
 vn (JZ) (My) (VO) (Rz) fuel (cJ,g8)
theorem iP (cJ:Int)(g8:Int)(s:aa)(h0:A9 cJ g8):JF V7 [.e cJ,.e g8] s (MK cJ g8) s false:=by
 unfold A9 at h0
 have h3:=h0
 refine gi rfl ?_
 unfold MK RG
 show JB _ [.e cJ,.e g8] _ _
 refine aY λp1 e3=>?_
 refine JB.ab (K8 (J:=λ(st1:Int×Int)=>[.e st1.1,.e st1.2]) (f:=(My)) (C:=(JZ)) (dc:=(VO)) (d:=(Rz)) (st:=(cJ,g8)) rfl ?_ ?_ h3 e3) ?_
 ·intro st1 hd
  exact JT.ab (JE.gt (aj rfl) (JE.ab 0))
 ·intro st1 hd
  unfold Rz at hd
  have h2:=hd
  unfold My
  refine gQ ?_
  refine aY λqT e1=>?_
  have h1:=bL h2 e1
  refine aY λKR e2=>?_
  refine JB.ac (aB:=[.e qT,.e KR]) (xS (JP.dat e1 (aj rfl) (JP.dat e2 (vt (aj rfl) (aj rfl) h1) (JP.nil)))) ?_
  exact rfl
 show JB _ [.e p1.1,.e p1.2] _ _
 exact JB.ag (aj rfl)
def RD:SS:=SS.ag (vp (xU (hjl 0) (hjl 1)) (SE.ac V7 (cK (hjl 0) (cK (hjl 1) (dK)))))
def VR:Fn:=fnOf 2 0 RD
def Oj (cJ:Int)(g8:Int):Int:=
 ((cJ*g8) / (MK cJ g8))
def yO (cJ:Int)(g8:Int):Prop:=
 (KbP cJ<18446744073709551616∨KbP g8<18446744073709551616)/\A9 cJ g8/\(0<(MK cJ g8)/\(MK cJ g8)<1000000000000000000000000000000000000000000000000000000000000)
theorem ig (cJ:Int)(g8:Int)(s:aa)(h0:yO cJ g8):JF VR [.e cJ,.e g8] s (Oj cJ g8) s false:=by
 unfold yO at h0
 obtain⟨h1,h2,h3⟩:=h0
 refine gi rfl ?_
 unfold Oj RD
 show JB _ [.e cJ,.e g8] _ _
 exact JB.ag (kO (AO (GC (aj rfl) (aj rfl) h1) (JE.ac (aK (aj rfl) (aK (aj rfl) (bK))) (iP cJ g8 _ h2)) h3))
def RJ:SS:=SS.ab (wg (SG.tup (jK (aT 2) (jK (aT 3) (jK (aT 4) (c9.nil))))) (hjl 0)) (SS.ab (cF 5 (fL (vp (Cr (SE.ab 0) (AR (hjl 1) (gR (hjl 2)))) (gR (hjl 3))) (SE.ab 1))) (SS.ab (cF 6 (AQ (hjl 2) (SE.lc2 (nW (hjl 5)) (aT 7) (cT) (SI.list (hjl 3)) (aT 8) (cT) (fL (hjl 8) (xU (hjl 4) (hjl 7))) [7,8] [8] (of_decide_eq_true rfl) (of_decide_eq_true rfl)))) (SS.ag (EK (hjl 6) (SO.no) (SO.at (hjl 1))))))
def WC:Fn:=fnOf 2 7 RJ
def Oh (bG:HX)(many1:Int):List Int:=
 lt ((((max (0:Int) (many1-(bG.x.length:Int))) / (bG.y.length:Int))+(1:Int))) λfZ=>
 lt ((bG.x++(Kcn (λ(x1:Int)=>(Kaf (λ(x2:Int)=>(x2+(bG.z*x1))) bG.y)) (rng 0 fZ)))) λeU=>
 (cut eU none (some many1))
def Av (bG:HX)(many1:Int):Prop:=
 (0<(bG.y.length:Int)/\(bG.y.length:Int)<1000000000000000000000000000000000000000000000000000000000000)/\(bu ((((max (0:Int) (many1-(bG.x.length:Int))) / (bG.y.length:Int))+(1:Int))) λfZ=>
 (-1000000<=fZ/\fZ<=1000000)/\(∀x1∈(rng 0 fZ),(∀x2∈bG.y,(KbP bG.z<18446744073709551616∨KbP x1<18446744073709551616)))/\(Kcn (λ(x1:Int)=>(Kaf (λ(x2:Int)=>(x2+(bG.z*x1))) bG.y)) (rng 0 fZ)).length<=100000/\bG.x.length+(Kcn (λ(x1:Int)=>(Kaf (λ(x2:Int)=>(x2+(bG.z*x1))) bG.y)) (rng 0 fZ)).length<=100000)
theorem jv (bG:HX)(many1:Int)(s:aa)(h0:Av bG many1):JF WC [.e bG,.e many1] s (Oh bG many1) s true:=by
 unfold Av at h0
 obtain⟨h1,h8⟩:=h0
 refine gi rfl ?_
 unfold Oh RJ
 show JB _ [.e bG,.e many1,.emp,.emp,.emp,.emp,.emp,.emp,.emp] _ _
 refine JB.ab (aB:=[.e bG,.e many1,.e bG.x,.e bG.y,.e bG.z,.emp,.emp,.emp,.emp]) (zA (aj rfl) rfl) ?_
 refine aY λfZ e2=>?_
 obtain⟨h2,h6,h4,h7⟩:=bL h8 e2
 refine JB.ab (aB:=[.e bG,.e many1,.e bG.x,.e bG.y,.e bG.z,.e fZ,.emp,.emp,.emp]) (cX (iB (AO (Ln (JE.ab 0) (Gy (aj rfl) (lB (aj rfl)))) (lB (aj rfl)) h1) (JE.ab 1)) e2) ?_
 refine aY λeU e3=>?_
 refine JB.ab (aB:=[.e bG,.e many1,.e bG.x,.e bG.y,.e bG.z,.e fZ,.e eU,.emp,.emp]) (cX (GB (aj rfl) (JE.aqL (λ(x1:Int)=>[.e bG,.e many1,.e bG.x,.e bG.y,.e bG.z,.e fZ,.emp,.e x1,.emp]) (λ(x1:Int) (x2:Int)=>[.e bG,.e many1,.e bG.x,.e bG.y,.e bG.z,.e fZ,.emp,.e x1,.e x2]) (rq (aj rfl) h2) (λ_=>rfl) (λ_ _=>rfl) (λx1 hx=>(have h5:=h6 x1 hx;JI.list (aj rfl))) (λx1 hx x2 hy=>(have h5:=h6 x1 hx;(have h3:=h5 x2 hy;iB (aj rfl) (GC (aj rfl) (aj rfl) h3)))) h4) h7) e3) ?_
 exact JB.ag (Lf (aj rfl) (JO.no) (JO.at (aj rfl)))
def RN:SS:=SS.ag (SE.ac WC (cK (SE.tup (eK (cW (hjl 0) (SE.ab 0)) (eK (cW (hjl 0) (SE.ab 1)) (eK (SE.ab 0) (fK))))) (cK (hjl 1) (dK))))
def RX:Fn:=fnOf 2 0 RN
def J9 (bR:A5)(many1:Int):List Int:=
 (Oh (T3.mk bR.1 bR.2 (0:Int)) many1)
def Ba (bR:A5)(many1:Int):Prop:=
 Av (T3.mk bR.1 bR.2 (0:Int)) many1
theorem kP (bR:A5)(many1:Int)(s:aa)(h0:Ba bR many1):JF RX [.e bR,.e many1] s (J9 bR many1) s true:=by
 unfold Ba at h0
 have h1:=h0
 refine gi rfl ?_
 unfold J9 RN
 show JB _ [.e bR,.e many1] _ _
 exact JB.ag (JE.ac (aK (JE.HG (vq (JE.p21 (aj rfl)) (vq (JE.p22 (aj rfl)) (iK (JE.ab 0) (gK))))) (aK (aj rfl) (bK))) (jv (T3.mk bR.1 bR.2 (0:Int)) many1 _ h1))
end Pu
namespace Pu
variable [aZ]
open PySem PySem.Spec PyProof.Rows L2 Enc
/-- a list of two unlike things -/
structure H2 (α β:Type) where
 x:α
 y:β
instance {α β:Type}[Enc α][Enc β]:Enc (H2 α β):=⟨λp=>.list [enc p.x,enc p.y]⟩
instance {α β:Type}[Inhabited α][Inhabited β]:Inhabited (H2 α β):=⟨⟨default,default⟩⟩
end Pu
namespace Pu
variable [aZ]
open PySem PySem.Spec PyProof.Rows L2 Enc
def SP.IB (i:Nat)(e:SB)(r:SP):SP where
 t:=λK=>tCons (e.t K) (r.t K)
 ts:=i::r.ts
 ev:=λρ cN s=>(e.ev ρ s).bind λx=>r.ev ρ (cN.set i (.aC x.1.1 x.1.2)) x.2
 ok:=by
  intro K sk F0 H0 F H σ p_ ρ cN je ak cU s s' Q p w h q
  obtain⟨⟨⟨ds,o⟩,s1⟩,h1,h2⟩:=aL h
  refine e.ok K p h1 λa ws F1 H1 as st k ha v9 jU hr nas f=>?_
  have w1:=w.next st k
  have a0:H0 a=none:=by
   cases hq:H0 a with
   |none=>rfl
   |some u=>exact absurd ha (w.st.dm a (by rw [hq];exact nofun))
  have dH:sk≠some a:=fJ w.bh ha
  have nd:((a::(if o=true then as else []))++cU.flatten).Nodup:=by
   refine Kal.mpr ⟨?_,w.dX,λb mb c mc z=>?_⟩
   ·cases o with
    |true=>exact KaP.mpr ⟨nas,(f rfl).1⟩
    |false=>simp
   ·subst z
    rcases Kah.mp mb with y|y
    ·subst y;exact (w.bT b mc).2.1 ha
    ·cases o with
     |true=>exact (w.bT b mc).2.1 ((f rfl).2 b y)
     |false=>cases y
  obtain⟨m1,m2⟩:=u7 (i:=i) nd
  have wa:Wd sk F0 H0 F1 H1 (p_.set i (some (.ref a))) (cN.set i (.aC ds o)) (cU.set i (a::(if o=true then as else []))) s1:=by
   refine⟨w1.st,w1.bh,w1.slots.set ⟨a,ws,as,rfl,jU,v9,hr,rfl⟩,m1,λb m=>?_⟩
   rcases m2 b m with z|z
   ·rcases Kah.mp z with y|y
    ·subst y
     exact⟨a0,by rw [jU];exact nofun,dH⟩
    ·cases o with
     |true=>
      obtain⟨xs,hx⟩:=hr.dom b y
      refine⟨?_,by rw [st.sub' _ _ hx];exact nofun,λe=>?_⟩
      ·cases hq:H0 b with
       |none=>rfl
       |some u=>exact absurd ((f rfl).2 b y) (w.st.dm b (by rw [hq];exact nofun))
      ·rw [(k b e).2] at hx;cases hx
     |false=>cases y
   ·exact w1.bT b z
  refine r.ok K (p.next st k) wa h2 λvs F2 H2 fv sF w2 hl=>?_
  exact q (.ref a::vs) F2 H2 fv (st.sub.trans sF) w2 (by rw [Kad,Kad,hl])
theorem JP.aC {ρ aB cY:List Slot}{s s1 s2:aa}{i:Nat}{e:SE}{α:Type}[Enc α]{x v:List α}{p:SP}(hx:x=v)(h:JE e ρ s v s1 true)(hp:JP p ρ (aB.set i (.aC (x.map enc) true)) s1 cY s2):JP (SP.IB i (SB.own e) p) ρ aB s cY s2:=by
 subst hx
 obtain⟨w',h1,h2⟩:=h
 have:=h2 rfl
 subst this
 show ((SB.own e).ev ρ s).bind _=_
 rw [hxd,h1]
 exact hp
end Pu
namespace Pu
open PySem PySem.Spec PyProof.Rows L2 Enc
variable [aZ]
theorem Ho (a b:Int):rgV a b=(rng a b).map V.int:=by
 unfold rgV rng
 rw [KaL];rfl
def Qu (e:SE)(r:SA):SA where
 t:=λK=>StX.tStar K (e.t K) (r.t K)
 ev:=λρ s=>(e.ev ρ s).bind λx=>match x.1.1 with|.list ds=>(r.ev ρ x.2).bind λy=>some ((ds.map λd=>(d,false))++y.1,y.2)|_=>none
 ok:=by
  intro K sk F H σ ρ ak s gk s' Q p h q
  obtain⟨⟨⟨x,w⟩,s1⟩,h1,h⟩:=aL h
  dsimp only at h
  split at h
  ·rename_i ds
   obtain⟨⟨y,s2⟩,h2,h⟩:=aL h
   cases h
   refine e.ok K p h1 λv F1 H1 as st1 k1 r1 f1=>?_
   obtain⟨a,xs,bs,rfl,ha,hr,rfl⟩:=r1.aP
   refine⟨a,xs,rfl,.inr (.inl (.inl (st1.sub' _ _ ha))),?_⟩
   refine r.ok K (p.next st1 k1) h2 λvs F2 H2 cs st2 k2 r2 f2=>?_
   refine q (xs++vs) F2 H2 (bs++cs) (st1.trans st2) k2 ?_ λe=>?_
   ·rw [Kaz,KaL]
    have:Kaf ((λz:Vl=>z.1) ∘ λd=>(d,false)) ds=ds:=by
     rw [show ((λz:Vl=>z.1) ∘ λd=>(d,false))=id from rfl,KcW]
    rw [this]
    exact (hr.mono st2.sub).app r2
   ·rw [KcL] at e
    obtain⟨e1,e2⟩:=KaN.mp e
    have nl:fM ds=true:=by
     have:∀ds:List PyData,((ds.map λd=>((d,false):Vl)).all λz=>z.2 ||aM z.1)=true->fM ds=true:=by
      intro ds
      induction ds with
      |nil=>intro _;rfl
      |cons d ds ih=>
       intro h
       simp only [Kai,Ka3,Kc5] at h
       obtain⟨h1,h2⟩:=KaN.mp h
       unfold fM
       rw [h1,ih h2];rfl
     exact this ds e1
    rw [hr.aM nl]
    exact (f2.back st1.dm) e2
  ·cases h
section
variable {ρ:List Slot}{s s1 s2 s3:aa}{a b c:SE}{i j k:Nat}{w w1 w2:Bool}
theorem HE {e:SE}{r:SA}{ds:List PyData}{gk:List Vl}{w':Bool}(h:e.ev ρ s=some ((.list ds,w'),s1))(hr:r.ev ρ s1=some (gk,s2)):(Qu e r).ev ρ s=some ((ds.map λd=>(d,false))++gk,s2):=by
 show (e.ev ρ s).bind _=_
 rw [h]
 show (r.ev ρ s1).bind _=_
 rw [hr];rfl
theorem JA.Q5 {α:Type}[Enc α][Flat α]{xs:List α}{r:SA}{ds:List PyData}(ha:JE a ρ s xs s1 w1)(hr:JA r ρ s1 ds s2 w):JA (Qu a r) ρ s (xs.map enc++ds) s2 w:=by
 obtain⟨w',e,_⟩:=ha
 obtain⟨gk,e2,m,f⟩:=hr
 refine⟨_,HE e e2,?_,λhw=>?_⟩
 ·rw [Kaz,m,KaL]
  have:Kaf ((λz:Vl=>z.1) ∘ λd=>(d,false)) (xs.map enc)=xs.map enc:=by
   rw [show ((λz:Vl=>z.1) ∘ λd=>(d,false))=id from rfl,KcW]
  rw [this]
 ·rw [KcL,f hw,Kc6,KaL,KbL]
  rw [Kbs]
  intro x _
  show (false ||aM (enc x))=true
  rw [Kc5];exact Flat.fl x
theorem JE.aqN {α:Type}[Enc α]{xs:List α}{r:SA}{ds:List PyData}(h:JA r ρ s ds s1 w)(e:ds=xs.map enc)(hl:xs.length<=100000):JE (SE.lst r) ρ s xs s1 w:=by
 subst e
 exact h.lst (by simpa using hl)
end
def xA:List Int->Int->Nat
 |[],_=>0
 |x::xs,v=>if x=v then 0 else xA xs v+1
theorem zE {xs:List Int}{v:Int}(h:v∈xs):xA xs v<xs.length:=by
 induction xs with
 |nil=>cases h
 |cons x xs ih=>
  unfold xA
  by_cases c:x=v
  ·rw [if_pos c];simp
  ·rw [if_neg c]
   have:v∈xs:=by
    rcases Kah.mp h with e|e
    ·exact absurd e.symm c
    ·exact e
   have:=ih this
   simp;omega
theorem o9 {xs:List Int}{v:Int}(h:v∈xs):xs[xA xs v]? = some v:=by
 induction xs with
 |nil=>cases h
 |cons x xs ih=>
  unfold xA
  by_cases c:x=v
  ·rw [if_pos c,c];rfl
  ·rw [if_neg c]
   have:v∈xs:=by
    rcases Kah.mp h with e|e
    ·exact absurd e.symm c
    ·exact e
   rw [Kbl];exact ih this
theorem mK {xs:List Int}{v:Int}:∀m:Nat,m<xA xs v->xs[m]?≠some v:=by
 induction xs with
 |nil=>intro m h;exact absurd h (by unfold xA;omega)
 |cons x xs ih=>
  intro m h
  unfold xA at h
  by_cases c:x=v
  ·rw [if_pos c] at h;omega
  ·rw [if_neg c] at h
   cases m with
   |zero=>intro e;exact c (Option.some.inj e)
   |succ m=>rw [Kbl];exact ih m (by omega)
def ie (ds:List PyData)(v:Int):Option Vl:=(xC ds).bind λns=>if v∈ns then some (.int (xA ns v:Nat),true) else none
def SE.ag (a b:SE):SE where
 t:=λK=>tBM K "list" (rIndex K) (a.t K) (tCons (b.t K) tNil)
 ev:=λρ s=>(a.ev ρ s).bind λx=>(b.ev ρ x.2).bind λy=>match x.1.1,y.1.1 with|.list ds,.int v=>(ie ds v).bind λz=>some (z,y.2)|_,_=>none
 ok:=by
  intro K sk F H σ ρ ak s vl s' Q p h q
  obtain⟨⟨⟨x,w⟩,s1⟩,h1,h0⟩:=aL h
  obtain⟨⟨⟨y,w2⟩,s2⟩,h2,h6⟩:=aL h0
  clear h h0
  dsimp only at h1 h2 h6
  split at h6
  ·rename_i ds v
   obtain⟨z,h3,h7⟩:=aL h6
   cases h7
   unfold ie at h3
   obtain⟨ns,h4,h5⟩:=aL h3
   split at h5
   ·rename_i hm
    cases h5
    refine a.ok K p h1 λu F1 H1 as st k r f=>?_
    obtain⟨ad,xs,bs,rfl,ha,hr,rfl⟩:=r.aP
    refine⟨.inl ⟨rfl,xs,.inl (.inl (st.sub' _ _ ha))⟩,?_⟩
    refine b.ok K (p.next st k) h2 λv2 F2 H2 as2 st2 k2 r2 f2=>?_
    have e1:ds=ns.map .int:=ON h4
    subst e1
    have e2:xs=ns.map V.int:=hr.ints
    subst e2
    have hv:v2=.int v:=r2.int_inv
    subst hv
    refine⟨ad,_,.int v,xA ns v,.int v,rfl,rfl,.inl (.inl (st2.sub' _ _ (st2.sub _ _ ha))),rfl,?_,?_,?_,λm z' hm' hz=>?_,?_⟩
    ·rw [KbL,Kbs];intro _ _;rfl
    ·rw [KaY,o9 hm];rfl
    ·show eqV (.int v) (.int v)=true
     simp [eqV]
    ·rw [KaY] at hz
     obtain⟨u,hu,rfl⟩:=Kap.mp hz
     have:=mK m hm'
     show eqV (.int u) (.int v)=false
     have ne:u≠v:=λe=>this (by rw [hu,e])
     simp [eqV,ne]
    ·exact q _ F2 H2 [] (st.trans st2) k2 (.int _) .nil
   ·cases h5
  ·cases h6
theorem JE.ag {ρ:List Slot}{s s1 s2:aa}{a b:SE}{w1 w2:Bool}{xs:List Int}{v:Int}(ha:JE a ρ s xs s1 w1)(hb:JE b ρ s1 v s2 w2)(h:v∈xs):JE (SE.ag a b) ρ s ((xA xs v:Nat):Int) s2 true:=by
 obtain⟨w',e,_⟩:=ha
 obtain⟨w'',e2,_⟩:=hb
 refine⟨true,?_,λ_=>rfl⟩
 show (a.ev ρ s).bind _=_
 rw [e]
 show (b.ev ρ s1).bind _=_
 rw [e2]
 show (ie (xs.map PyData.int) v).bind _=_
 unfold ie
 rw [Kg]
 show (if v∈xs then some (PyData.int (xA xs v:Nat),true) else none).bind _=_
 rw [if_pos h];rfl
end Pu
namespace Pu
open PySem PySem.Spec PyProof.Rows L2 Enc
end Pu
namespace Pu
open PySem L2 Enc
end Pu
namespace Pu
variable [aZ]
open PySem PySem.Spec PyProof.Rows L2 Enc
/-- slot i taken apart -/
def apart2 (ρ:List Slot)(i va vb:Nat)(d1:PyData)(ds:List PyData):List Slot:=((ρ.set i .emp).set va (.u6 d1)).set vb (.aC ds true)
def Mv (ρ:List Slot)(i va vb:Nat)(d1:PyData)(ds:List PyData):List Slot:=((((ρ.set i .emp).set va (.u6 d1)).set vb (.aC ds true)).set vb .emp).set va .emp |>.set i (.u6 (.tuple [d1,.list ds]))
def stp (i va vb:Nat)(k e:SE)(ρ:List Slot)(s:aa):Option (List Slot×aa):=match ρ[i]? with
 |some (.u6 (.tuple [d1,.list ds]))=>(e.ev (apart2 ρ i va vb d1 ds) s).bind λx=>(k.ev (apart2 ρ i va vb d1 ds) x.2).bind λy=>match y.1.1 with
  |.int j=>(ixN ds.length j).bind λn=>if fM ds=true/\aM x.1.1=true/\va<ρ.length/\vb<ρ.length/\i≠va/\i≠vb/\va≠vb then some (Mv ρ i va vb d1 (ds.set n x.1.1),y.2) else none
  |_=>none
 |_=>none
end Pu
namespace Pu
open PySem PySem.Spec PyProof.Rows L2 Enc
open Enc
variable [aZ]
theorem Slots.join {sk:Option Addr}{F H:Hp}:∀{xs ys:List (Option V)} {a b:List Slot},Slots sk F H xs a (gG a)->Slots sk F H ys b (gG b)->Slots sk F H (xs++ys) (a++b) (gG (a++b))
 |[],_,[],_,_,h=>h
 |_::_,_,_::_,_,.cons h r,g=>.cons h (Slots.join r g)
end Pu
namespace Pu
open PySem PySem.Spec PyProof.Rows L2 Enc
abbrev Sgn:=Fin 1114112
structure Tx where
 cs:List Sgn
deriving DecidableEq
instance:Inhabited Tx:=⟨⟨[]⟩⟩
def Tx.nat (t:Tx):List Nat:=t.cs.map Fin.val
def Tx.str (t:Tx):Str:=⟨t.nat.toArray⟩
def jI (l:List Nat):Tx:=⟨l.map λc=>Fin.ofNat 1114112 c⟩
instance:Enc Tx:=⟨λt=>.str t.str⟩
instance:Flat Tx:=⟨λ_=>rfl⟩
instance:NN Tx:=⟨λ_=>rfl⟩
theorem Tx.ag (t:Tx):t.str.length=t.cs.length:=by
 show t.nat.toArray.size=_
 rw [Kbz];exact Kag ..
theorem Tx.ab (t:Tx):t.str.cps.toList=t.nat:=by
 show t.nat.toArray.toList=_
 rw [List.toList_toArray]
theorem Tx.ac {t u:Tx}(h:t.str=u.str):t=u:=by
 have e:t.nat=u.nat:=by rw [<-Tx.ab,<-Tx.ab,h]
 cases t with
 |mk a=>
  cases u with
  |mk b=>
   congr 1
   exact List.map_inj_right (λx y z=>Fin.ext z) |>.mp e
theorem Tx.strOk (t:Tx):PySem.PyData.strOk t.str=true:=by
 unfold PySem.PyData.strOk
 rw [<-Array.all_toList,Tx.ab]
 unfold Tx.nat
 rw [KbL,Kbs]
 intro c _
 exact decide_eq_true c.isLt
instance:bF Tx where
 dep:=0
 dec:=inferInstance
 lay:=λt=>by
  show PyData.canLay0 (.str t.str)=true
  simp only [PyData.canLay0]
  exact t.strOk
 cV:=λ_=>Kat _
 eqv:=λx y=>by
  show PyData.eqv (.str x.str) (.str y.str)=_
  simp only [PyData.eqv]
  by_cases h:x=y
  ·rw [h];simp
  ·have:x.str≠y.str:=λz=>h (Tx.ac z)
   simp [h,this]
def Qp:PyData->PyData->Option Vl
 |.str z,.int i=>if z.length<=1000 then (atI z.cps.toList i).map λc=>(.str ⟨#[c]⟩,true) else none
 |_,_=>none
variable [aZ]
def SE.ixS:SE->SE->SE:=ji (λK=>rIx K) Qp (by
 intro K F H x y d e as bs z Q s r1 r2 h q
 unfold Qp at h
 split at h
 ·rename_i w i
  split at h
  ·rename_i hl
   obtain⟨c,h1,rfl⟩:=Kap.mp h
   exact .inr (.inr ⟨w,i,c,r1.str_inv,r2.int_inv,KaB hl (by decide),h1,q.here (z:=(.str _,true)) s (.str _) .nil⟩)
  ·cases h
 ·cases h)
def Lg (d e:PyData):Option Vl:=match e with
 |.list ds=>if SeqAt.shaped d=true/\SeqAt.shaped (.list ds)=true then some (.bool (ds.any λz=>PyData.eqv z d),true) else none
 |_=>none
def UA (d e:PyData):Option Vl:=(Lg d e).bind λz=>match z.1 with|.bool b=>some (.bool (!b),true)|_=>none
def NU:SE->SE->SE:=ji (λK=>rNotInD K) UA (by
 intro K F H x y d e as bs z Q s r1 r2 h q
 unfold UA at h
 obtain⟨w,h1,h2⟩:=aL h
 unfold Lg at h1
 split at h1
 ·rename_i ds
  split at h1
  ·rename_i hh
   cases h1
   cases h2
   exact⟨d,ds,(r1.mono s).dp (Fc hh.1),(r2.mono s).dp (Fc hh.2),hh.1,hh.2,q.here (z:=(.bool _,true)) s (.bl _) .nil⟩
  ·cases h1
 ·cases h1)
def UZ:List PyData->Option (List Str)
 |[]=>some []
 |.str x::r=>(UZ r).map (x::·)
 |_::_=>none
theorem nA:∀{ds:List PyData} {xs:List Str},UZ ds=some xs->ds=xs.map .str
 |[],xs,h=>by cases h;rfl
 |d::r,xs,h=>by
  cases d with
  |str x=>
   obtain⟨ys,h1,rfl⟩:=Kap.mp (show (UZ r).map (x::·)=some xs from h)
   rw [nA h1];rfl
  |_=>cases h
theorem az.strs {F:Hp}:∀{ns:List Str} {vs:List V} {as:List Addr},az F vs (ns.map .str) as->vs=ns.map V.str
 |[],_,_,h=>by cases h;rfl
 |n::ns,_,_,h=>by
  cases h with
  |cons h r=>rw [Rp.str_inv h,az.strs r];rfl
def rJoin (K:Frag):V->List V->Hp->VK->Prop:=λx xs H Q=>∃a p,∃ys:List Str,x=.str a/\xs=[.ref p]/\(SqL K H p (ys.map V.str)∨SqT K H p (ys.map V.str)) /\
   (ys.map (·.length)).sum+ys.length*a.length<=16777216/\Q (.str (Txt.join a ys)) H
def SE.join (z:Str)(b:SE):SE where
 t:=λK=>tM1 (rJoin K) (tC (.str z)) (b.t K)
 ev:=λρ s=>(b.ev ρ s).bind λx=>match x.1.1 with
  |.list ds=>(UZ ds).bind λys=>if (ys.map (·.length)).sum+ys.length*z.length<=1000 then some ((.str (Txt.join z ys),true),x.2) else none
  |_=>none
 ok:=by
  intro K sk F H σ ρ ak s vl s' Q p h q
  obtain⟨⟨⟨x,w⟩,s1⟩,h1,h0⟩:=aL h
  dsimp only at h0
  split at h0
  ·rename_i ds
   obtain⟨ys,h2,h3⟩:=aL h0
   split at h3
   ·rename_i hl
    cases h3
    refine⟨⟨z,rfl⟩,?_⟩
    refine b.ok K p h1 λu F1 H1 as st k r f=>?_
    obtain⟨ad,xs,bs,rfl,ha,hr,rfl⟩:=r.aP
    have e1:ds=ys.map .str:=nA h2
    subst e1
    have e2:xs=ys.map V.str:=hr.strs
    subst e2
    exact⟨z,ad,ys,rfl,rfl,.inl (.inl (.inl (st.sub' _ _ ha))),KaB hl (by decide),q _ F1 H1 [] st k (.str _) .nil⟩
   ·cases h3
  ·cases h0
def SI.str (e:SE):SI where
 t:=λK=>iStr (e.t K)
 ev:=λρ s=>(e.ev ρ s).bind λx=>match x.1.1 with|.str z=>some (z.cps.toList.map λc=>.str ⟨#[c]⟩,x.2)|_=>none
 ok:=by
  intro K sk F H σ ρ ak s ds s' R p h q
  obtain⟨⟨⟨x,fl⟩,s1⟩,h1,h⟩:=aL h
  dsimp only at h
  split at h
  ·rename_i z
   cases h
   refine e.ok K p h1 λv F1 H1 as st1 k1 r1 f1=>?_
   refine⟨z,r1.str_inv,q _ F1 H1 st1 k1 λF2 H2 i s1 s2=>⟨λd hd=>?_,λhl=>?_⟩⟩
   ·rw [KaY] at hd
    obtain⟨c,hc,rfl⟩:=Kap.mp hd
    rw [Array.getElem?_toList] at hc
    refine⟨(Array.getElem?_eq_some_iff.mp hc).1,λx H3 hy=>?_⟩
    obtain⟨rfl,c2,hc2,rfl⟩:=hy
    rw [hc] at hc2
    cases hc2
    exact⟨F2,[],.refl s2,.str _⟩
   ·rw [Kag,Kch] at hl
    exact hl
  ·cases h
end Pu
namespace Pu
variable [aZ]
open PySem PySem.Spec PyProof.Rows L2 Enc
section
variable {ρ:List Slot}{s s1 s2 s3:aa}{a b c:SE}{i j k:Nat}{w w1 w2:Bool}
def Tx.at (t:Tx)(n:Int):Tx:=⟨[aq t.cs n]⟩
def Tx.cut (t:Tx)(l h:Option Int):Tx:=⟨Pu.cut t.cs l h⟩
def Tx.add (t u:Tx):Tx:=⟨t.cs++u.cs⟩
def Tx.hd (t:Tx):Sgn:=t.cs.headD 0
theorem JE.Qq {x:Tx}{n:Int}(ha:JE a ρ s x s1 w1)(hb:JE b ρ s1 n s2 w2)(h:-(x.cs.length:Int)<=n/\n<x.cs.length/\x.cs.length<=1000):JE (SE.ixS a b) ρ s (x.at n) s2 true:=by
 obtain⟨_,ea,_⟩:=ha;obtain⟨_,eb,_⟩:=hb
 refine⟨true,d7 ea eb ?_,λ_=>rfl⟩
 show (if x.str.length<=1000 then (L2.atI x.str.cps.toList n).map _ else none)=_
 rw [if_pos (by rw [Tx.ag];exact h.2.2),Tx.ab]
 unfold Tx.nat
 have e:L2.atI (x.cs.map Fin.val) n=(L2.atI x.cs n).map Fin.val:=by
  unfold L2.atI
  simp only [Kag,KaY]
  cases L2.ixN x.cs.length n <;> rfl
 rw [e,ZN ⟨h.1,h.2.1⟩]
 rfl
theorem wQ {α:Type}[bF α]{x:α}{inst:DecidableEq α}:∀xs:List α,((xs.map enc).any λz=>PyData.eqv z (enc x))=decide (x∈xs)
 |[]=>by simp
 |y::ys=>by
  rw [Kai,Kcd,wQ (inst:=inst) ys,bF.eqv,Kci]
  simp only [Bool.or_eq_true,decide_eq_true_eq,Kah]
  exact⟨λh=>h.imp Eq.symm id,λh=>h.imp Eq.symm id⟩
theorem nk {α:Type}[bF α](x:α)(hd:bF.dep α<=63):SeqAt.shaped (enc x)=true:=by
 unfold SeqAt.shaped
 rw [bF.lay,decide_eq_true (KaB (bF.cV x) (by omega))];rfl
theorem kD {α:Type}[bF α](xs:List α)(hd:bF.dep α<=63):SeqAt.shaped (PyData.list (xs.map enc))=true:=by
 have h1:=bF.lay xs
 have h2:=bF.cV xs
 unfold SeqAt.shaped
 have e1:(PyData.list (xs.map enc)).canLay0=true:=h1
 have e2:(PyData.list (xs.map enc)).depth<=64:=KaB h2 (by show bF.dep α+1<=64;omega)
 rw [e1,decide_eq_true e2];rfl
theorem JE.Dd {α:Type}[bF α]{x:α}{xs:List α}{inst:DecidableEq α}(ha:JE a ρ s x s1 w1)(hb:JE b ρ s1 xs s2 w2)(hd:bF.dep α<=63:=by decide):JE (NU a b) ρ s (decide (x∉xs)) s2 true:=by
 obtain⟨_,ea,_⟩:=ha;obtain⟨_,eb,_⟩:=hb
 refine⟨true,d7 ea eb ?_,λ_=>rfl⟩
 have e:Lg (enc x) (PyData.list (xs.map enc))=some (.bool (decide (x∈xs)),true):=by
  show (if SeqAt.shaped (enc x)=true/\SeqAt.shaped (PyData.list (xs.map enc))=true then some (PyData.bool ((xs.map enc).any λz=>PyData.eqv z (enc x)),true) else none)=_
  rw [if_pos ⟨nk x hd,kD xs hd⟩,wQ (inst:=inst)]
 show UA (enc x) (PyData.list (xs.map enc))=_
 unfold UA
 rw [e]
 show some (PyData.bool (!decide (x∈xs)),true)=some (PyData.bool (decide (x∉xs)),true)
 simp
end
theorem vJ {k:Nat}{A:Around}(r:Room k A):A.units+65<cLine:=by have:=r.un;omega
end Pu
namespace Pu
open PySem PySem.Spec PyProof.Rows L2 Enc
variable [aZ]
instance:dN Tx:=⟨λt=>.inr t.str,λ_=>rfl,λ_ _ h=>Tx.ac (Sum.inr.inj h)⟩
end Pu
namespace Pu
open PySem PySem.Spec PyProof.Rows L2 Enc
end Pu
namespace L2
open PySem PySem.Spec PyProof.Rows
end L2
namespace Pu
variable [aZ]
open PySem PySem.Spec PyProof.Rows L2
theorem PF {X:Cx}{a b:Expr}{pos:Pos}{op:CmpOp}{t:TE}(h:PC X op a b t)(h1:behindInMarks op b=false:=by first|exact nobehind _ (by decide) (by decide)|rfl):PT X (.Compare a [op] [b] pos) (tTest t):=pt_cmp h h1
end Pu
namespace Pu
open PySem PySem.Spec PyProof.Rows L2 Enc
variable [aZ]
def SE.isB:SE->SE->SE:=ji (λ_=>λx y H Q=>∃a b:Bool,x=.bl a/\y=.bl b/\Q (.bl (decide (a=b))) H) (λd e=>match d,e with|.bool a,.bool b=>some (.bool (decide (a=b)),true)|_,_=>none) (by
 intro K F H x y d e as bs z Q s r1 r2 h q
 dsimp only at h
 split at h
 ·cases h
  exact⟨_,_,r1.bool_inv,r2.bool_inv,q.here (z:=(.bool _,true)) s (.bl _) .nil⟩
 ·cases h)
section
variable {ρ:List Slot}{s s1 s2:aa}{a b:SE}{w w2:Bool}
theorem JE.isB {x y:Bool}(ha:JE a ρ s x s1 w)(hb:JE b ρ s1 y s2 w2):JE (SE.isB a b) ρ s (decide (x=y)) s2 true:=by
 obtain⟨_,ea,_⟩:=ha
 obtain⟨_,eb,_⟩:=hb
 exact⟨true,d7 ea eb rfl,λ_=>rfl⟩
end
end Pu
namespace Pu
variable [aZ]
open PySem PySem.Spec PyProof.Rows L2 Enc
def Js:Slot->Bool
 |.emp=>true
 |.dat _=>true
 |.bf=>true
 |.fix _=>true
 |.fn _ _ _=>true
 |.ins _ _ _=>true
 |.g9 _=>true
 |_=>false
theorem GZ {sk:Option Addr}{F H:Hp}{x:Option V}{sl:Slot}{fp:List Addr}(h:xB sk F H x sl fp)(n:Js sl=true):fp=[]:=by
 cases sl with
 |emp=>exact h
 |dat d=>exact h.1
 |bf=>exact h.1
 |fix v=>exact h.1
 |fn f c q=>exact h.1
 |ins C nm ds=>exact h.1
 |own d=>cases n
 |aC ds o=>cases n
 |cI f=>cases n
 |eJ f=>cases n
 |g9 es=>exact h.1
 |eI es=>cases n
 |cB es=>cases n
 |u6 d=>cases n
 |obj C a nm ds=>cases n
 |Jy o ks ds f=>cases n
 |uv B C a nm ds=>cases n
 |tV B C nm ds=>cases n
theorem um {sk:Option Addr}{F H:Hp}{σ:L2.St}{ρ:List Slot}{ak:List (List Addr)}(h:Slots sk F H σ ρ ak)(n:ρ.all Js=true):ak.flatten=[]:=by
 induction h with
 |nil=>rfl
 |cons h r ih=>
  rw [Ka3,Ka7] at n
  rw [Kav,ih n.2,GZ h n.1];rfl
section
variable {ρ:List Slot}{s s1 s2:aa}{a b:SE}{w1 w2:Bool}
theorem JE.Om {α β γ δ:Type}[Enc α][Enc β][Enc γ][Enc δ]{x:α}{p:T3 β γ δ}(h1:JE a ρ s x s1 w1)(h2:JE b ρ s1 p s2 w2):JE (SE.Kc (SE.tup (eK a fK)) b) ρ s (T4.mk x p.x p.y p.z) s2 false:=by
 obtain⟨_,h1,_⟩:=h1
 obtain⟨_,h2,_⟩:=h2
 refine⟨false,?_,nofun⟩
 show (((SE.tup (eK a fK)).ev ρ s).bind _)=_
 rw [show (SE.tup (eK a fK)).ev ρ s=some ((.tuple [enc x],_),s1) by
  simp only [hxi,IT,UG]
  rw [h1];rfl]
 show ((b.ev ρ s1).bind _)=_
 rw [h2]
 rfl
end
def ijq (i:Nat)(e:SE):SS where
 t:=λK=>tDrop (tBM K "list" rExtend (tVar i) (tCons (e.t K) tNil))
 ev:=λρ s=>match ρ[i]? with
  |some (.aC ds o)=>(e.ev ρ s).bind λx=>match x.1.1 with
   |.list es=>if ds.length+es.length<=100000 then some (.nx (ρ.set i (.aC (ds++es) false)) x.2) else none
   |_=>none
  |_=>none
 ok:=by
  intro K sk F0 H0 F H σ ρ ak s out D w h q
  dsimp only at h
  split at h
  ·rename_i ds o cz
   obtain⟨⟨⟨x,fl⟩,s1⟩,h1,h2⟩:=aL h
   dsimp only at h2
   split at h2
   ·rename_i es
    split at h2
    ·rename_i hl
     cases h2
     obtain⟨xv,fp,e1,e2,a,vs,as,rfl,hH,hF,r,rfl⟩:=w.slots.get cz
     refine⟨.ref a,e1,.inl ⟨rfl,vs,.inl (.inl hH)⟩,?_⟩
     refine e.ok K w.pre h1 λv F1 H1 bs st k rr f=>?_
     have fa:a∈ak.flatten:=Kaw.mpr ⟨_,Kar e2,Kaa⟩
     have dH:=(w.bT a fa).2.2
     have jU:H1 a=some (.lst vs):=st.fr a _ dH hH
     have v9:F1 a=none:=by
      cases z:F1 a with
      |none=>rfl
      |some u=>
       rcases st.new a u z with y|y
       ·rw [hF] at y;cases y
       ·rw [hH] at y;cases y
     have rr0:=rr
     obtain⟨b,xs,cs,rfl,hb,hr,rfl⟩:=rr.aP
     refine⟨a,b,vs,xs,rfl,rfl,jU,st.sub' _ _ hb,by rw [r.len,hr.len];exact KaB hl (by decide),?_⟩
     have w1:=w.next st k
     obtain⟨aH,w2⟩:=w1.grow (o':=false) e1 e2 jU v9 ((r.mono st.sub).app hr) nofun
     exact q F1 _ σ aH st.sub w2
    ·cases h2
   ·cases h2
  ·cases h
section
variable {ρ:List Slot}{s s1 s2:aa}{e a:SE}{i:Nat}{w:Bool}
theorem JN.FI {α:Type}[Enc α]{ys xs:List α}{o:Bool}(hi:ρ[i]? = some (.aC (xs.map enc) o))(h:JE e ρ s ys s1 w)(hl:xs.length+ys.length<=100000):JN (ijq i e) ρ s (ρ.set i (.aC ((xs++ys).map enc) false)) s1:=by
 obtain⟨w',h,q⟩:=h
 show (match ρ[i]? with|some (.aC ds o)=>_|_=>_)=_
 rw [hi]
 show ((e.ev ρ s).bind _)=_
 rw [h]
 show (if (xs.map enc).length+(ys.map enc).length<=100000 then some (Out.nx (ρ.set i (.aC (xs.map enc++ys.map enc) false)) s1) else none)=_
 rw [if_pos (by simpa using hl),Kaz]
end
def ixp (i:Nat)(e:SE):SS where
 t:=λK=>tDrop (tBM K "list" rExtend (tVar i) (tCons (e.t K) tNil))
 ev:=λρ s=>match ρ[i]? with
  |some (.aC ds o)=>(e.ev ρ s).bind λx=>match x.1.1 with
   |.list es=>if ds.length+es.length<=100000 then some (.nx (ρ.set i (.aC (ds++es) (o && x.1.2))) x.2) else none
   |_=>none
  |_=>none
 ok:=by
  intro K sk F0 H0 F H σ ρ ak s out D w h q
  dsimp only at h
  split at h
  ·rename_i ds o cz
   obtain⟨⟨⟨x,fl⟩,s1⟩,h1,h2⟩:=aL h
   dsimp only at h2
   split at h2
   ·rename_i es
    split at h2
    ·rename_i hl
     cases h2
     obtain⟨xv,fp,e1,e2,a,vs,as,rfl,hH,hF,r,rfl⟩:=w.slots.get cz
     refine⟨.ref a,e1,.inl ⟨rfl,vs,.inl (.inl hH)⟩,?_⟩
     refine e.ok K w.pre h1 λv F1 H1 bs st k rr f=>?_
     have fa:a∈ak.flatten:=Kaw.mpr ⟨_,Kar e2,Kaa⟩
     have dH:=(w.bT a fa).2.2
     have jU:H1 a=some (.lst vs):=st.fr a _ dH hH
     have v9:F1 a=none:=by
      cases z:F1 a with
      |none=>rfl
      |some u=>
       rcases st.new a u z with y|y
       ·rw [hF] at y;cases y
       ·rw [hH] at y;cases y
     have rr0:=rr
     obtain⟨b,xs,cs,rfl,hb,hr,rfl⟩:=rr.aP
     refine⟨a,b,vs,xs,rfl,rfl,jU,st.sub' _ _ hb,by rw [r.len,hr.len];exact KaB hl (by decide),?_⟩
     have w1:=w.next st k
     obtain⟨aH,w2⟩:=w1.grow (o':=o && fl) e1 e2 jU v9 ((r.mono st.sub).app hr) λeo=>by
      obtain⟨O8,z⟩:=KaN.mp eo
      obtain⟨f1,f2⟩:=f z
      refine⟨O8,(KaP.mp f1).2,λc hc=>?_⟩
      have hc':c∈b::cs:=Kab _ hc
      obtain⟨ys,hx⟩:=rr0.dom c hc'
      refine⟨(w.jq f z).2 c hc',by rw [st.sub' _ _ hx];exact nofun,λe'=>?_,λm=>(w.bT c m).2.1 (f2 c hc')⟩
      rw [(k c e').2] at hx;cases hx
     exact q F1 _ σ aH st.sub w2
    ·cases h2
   ·cases h2
  ·cases h
section
variable {ρ:List Slot}{s s1 s2:aa}{e a:SE}{i:Nat}{w:Bool}
theorem JN.FJ {α:Type}[Enc α]{ys xs:List α}{o:Bool}(hi:ρ[i]? = some (.aC (xs.map enc) o))(h:JE e ρ s ys s1 true)(hl:xs.length+ys.length<=100000):JN (ixp i e) ρ s (ρ.set i (.aC ((xs++ys).map enc) o)) s1:=by
 obtain⟨w',h,q⟩:=h
 rw [q rfl] at h
 show (match ρ[i]? with|some (.aC ds o)=>_|_=>_)=_
 rw [hi]
 show ((e.ev ρ s).bind _)=_
 rw [h]
 show (if (xs.map enc).length+(ys.map enc).length<=100000 then some (Out.nx (ρ.set i (.aC (xs.map enc++ys.map enc) (o && true))) s1) else none)=_
 rw [if_pos (by simpa using hl),Kaz,Kc6]
end
end Pu
namespace Pu
variable [aZ]
open PySem PySem.Spec PyProof.Rows L2 Enc
theorem oV (l:List (List Addr))(n:Nat):(l++Kak n []).flatten=l.flatten:=by
 rw [KcV]
 have:(Kak n ([]:List Addr)).flatten=[]:=by
  induction n with
  |zero=>rfl
  |succ n ih=>rw [KaW,Kav,ih];rfl
 rw [this,KaE]
end Pu
namespace Pu
variable [aZ]
open PySem L2 Enc
def Ss:SS:=SS.ab (SS.am 1) (iO (SI.list (hjl 0)) (SG.tup (jK (aT 2) (jK (aT 3) (c9.nil)))) (dR [2,3] (SS.ab (eM (CF (ST.ab (qw (hjl 2) (SE.ab 0))) (ST.ab (vy (Vd 1 (hjl 2) (hjl 3)) (hjl 3)))) (Qx) (SS.ac)) (ixs 1 (hjl 2) (hjl 3)))))
def Xa:Fn:=fnOf 1 3 Ss
def Ic  (st1:(List (Int×Bool)))(x1:Int×Bool):(List (Int×Bool)):=
 if (x1.1<(0:Int))∨((Kba (aN st1 x1.1) x1.2)≠x1.2) then
 st1
 else
 lt ((x1.1,x1.2)::st1) λjg=>
 jg
def R5  (st1:(List (Int×Bool)))(x1:Int×Bool):Prop:=
 (((x1.1<(0:Int))∨((Kba (aN st1 x1.1) x1.2)≠x1.2))->False)/\(¬((x1.1<(0:Int))∨((Kba (aN st1 x1.1) x1.2)≠x1.2))->st1.length<100000)
def n_ (ck:List (Int×Bool)):Unit:=
 lt (Kaq (Ic) ([]:List (Int×Bool)) ck) λp1=>
 ()
def Bl (ck:List (Int×Bool)):Prop:=
 bH (Ic) (R5) ck ([]:List (Int×Bool))
theorem mQ (ck:List (Int×Bool))(s:aa)(h0:Bl ck):JF Xa [.e ck] s (n_ ck) s true:=by
 unfold Bl at h0
 have h5:=h0
 show JF _ _ _ () _ _
 refine JF.ofN rfl ?_
 unfold Ss
 show JB _ [.e ck,.emp,.emp,.emp] _ (EN s (lt (Kaq (Ic) ([]:List (Int×Bool)) ck) λp1=>
 ()))
 refine JB.ab (aB:=[.e ck,.cI (bQ ([]:List (Int×Bool))),.emp,.emp]) (JN.newD) ?_
 refine aY λp1 e3=>?_
 refine JB.ac (tQ (J:=λ(st1:(List (Int×Bool)))=>[.e ck,.cI (bQ st1),.emp,.emp]) (R:=λ(st1:(List (Int×Bool))) (x1:Int×Bool)=>[.e ck,.cI (bQ st1),.e x1.1,.e x1.2]) (f:=(Ic)) (d:=(R5)) (st:=([]:List (Int×Bool))) (JI.list (aj rfl)) rfl (λ_ _=>rfl) ?_ h5 e3) ?_
 ·intro st1 x1 hd
  unfold R5 at hd
  obtain⟨h3,h4⟩:=hd
  unfold Ic
  refine gQ ?_
  refine CC (JT.or (JT.ab (xT (aj rfl) (JE.ab 0))) (λ_=>JT.ab (CA (JE.IK rfl (aj rfl) (aj rfl)) (aj rfl)))) ?_ (λhq=>(h3 hq).elim) ?_
  ·intro hq
   have h1:=h3 hq
   exact h1.elim
  intro hq
  have h2:=h4 hq
  refine Cv ?_
  refine aY λjg e2=>?_
  refine JB.ac (aB:=[.e ck,.cI (bQ jg),.e x1.1,.e x1.2]) (JN.cI (JN.dput rfl (aj rfl) (aj rfl) h2) e2) ?_
  exact rfl
 exact⟨_,rfl⟩
def OF:SS:=iO (SI.list (hjl 0)) (aT 1) (dR [1] (Jh (SE.ac S9 (cK (hjl 1) (dK)))))
def Oq:Fn:=fnOf 1 1 OF
def MA  (st1:Unit)(x1:aX):Unit:=
 ()
def Si  (st1:Unit)(x1:aX):Prop:=
 xn x1
def qZ (ai:List (aX)):Unit:=
 lt (Kaq (MA) () ai) λp1=>
 ()
def Au (ai:List (aX)):Prop:=
 bH (MA) (Si) ai ()
theorem gU (ai:List (aX))(s:aa)(h0:Au ai):JF Oq [.e ai] s (qZ ai) s true:=by
 unfold Au at h0
 have h2:=h0
 show JF _ _ _ () _ _
 refine JF.ofN rfl ?_
 unfold OF
 show JB _ [.e ai,.emp] _ (EN s (lt (Kaq (MA) () ai) λp1=>
 ()))
 refine aY λp1 e1=>?_
 refine JB.ac (tQ (J:=λ(st1:Unit)=>[.e ai,.emp]) (R:=λ(st1:Unit) (x1:aX)=>[.e ai,.e x1]) (f:=(MA)) (d:=(Si)) (st:=()) (JI.list (aj rfl)) rfl (λ_ _=>rfl) ?_ h2 e1) ?_
 ·intro st1 x1 hd
  unfold Si at hd
  have h1:=hd
  unfold MA
  refine gQ ?_
  refine JB.ac (aB:=[.e ai,.e x1]) (Qm (JE.ac (aK (aj rfl) (bK)) (jX x1 _ h1))) ?_
  exact rfl
 exact⟨_,rfl⟩
def UW:SS:=SS.ag (SE.all (hxs (SI.list (hjl 1)) (SG.tup (jK (aT 2) (jK (aT 3) (c9.nil)))) (cT) (fX (SE.ac Uo (cK (hjl 0) (cK (hjl 2) (dK)))) (hjl 3)) [2,3] (of_decide_eq_true rfl)))
def UX:Fn:=fnOf 2 2 UW
def AI (ae:aX)(ck:List (Int×Bool)):Bool:=
 (Kb3 (Kaf (λ(x1:Int×Bool)=>(decide ((Kq ae x1.1)=x1.2))) ck) id)
def BZ (ae:aX)(ck:List (Int×Bool)):Prop:=
 (∀x1∈ck,Bt ae x1.1)/\ck.length<=100000
theorem GG (ae:aX)(ck:List (Int×Bool))(s:aa)(h0:BZ ae ck):JF UX [.e ae,.e ck] s (AI ae ck) s false:=by
 unfold BZ at h0
 obtain⟨h3,h2⟩:=h0
 refine gi rfl ?_
 unfold AI UW
 show JB _ [.e ae,.e ck,.emp,.emp] _ _
 exact JB.ag (kO (JE.all (hxz (λ(x1:Int×Bool)=>[.e ae,.e ck,.e x1.1,.e x1.2]) (JI.list (aj rfl)) (λ_=>rfl) (λx1 hx=>(have h1:=h3 x1 hx;jW (JE.ac (aK (aj rfl) (aK (aj rfl) (bK))) (wj ae x1.1 _ h1)) (aj rfl))) h2)))
def Ur:SS:=SS.ab (Jh (SE.ac Oq (cK (hjl 0) (dK)))) (SS.ab (Jh (SE.ac Xa (cK (hjl 1) (dK)))) (SS.ag (hxs (Qv (hjl 0)) (SG.tup (jK (aT 2) (jK (aT 3) (c9.nil)))) (ST.ab (SE.ac UX (cK (hjl 3) (cK (hjl 1) (dK))))) (hjl 2) [2,3] (of_decide_eq_true rfl))))
def gzj:Fn:=fnOf 2 2 Ur
def ID (ai:List (aX))(ck:List (Int×Bool)):List Int:=
 (Kaf (λ(x1:Int×(aX))=>x1.1) (KaS (λ(x1:Int×(aX))=>decide ((AI x1.2 ck)=true)) (cf 0 ai)))
def Bv (ai:List (aX))(ck:List (Int×Bool)):Prop:=
 Au ai/\Bl ck/\(∀x1∈(cf 0 ai),BZ x1.2 ck)/\(cf 0 ai).length<=100000
theorem wh (ai:List (aX))(ck:List (Int×Bool))(s:aa)(h0:Bv ai ck):JF gzj [.e ai,.e ck] s (ID ai ck) s true:=by
 unfold Bv at h0
 obtain⟨h1,h2,h5,h4⟩:=h0
 refine gi rfl ?_
 unfold ID Ur
 show JB _ [.e ai,.e ck,.emp,.emp] _ _
 refine JB.ab (aB:=[.e ai,.e ck,.emp,.emp]) (Qm (JE.ac (aK (aj rfl) (bK)) (gU ai _ h1))) ?_
 refine JB.ab (aB:=[.e ai,.e ck,.emp,.emp]) (Qm (JE.ac (aK (aj rfl) (bK)) (mQ ck _ h2))) ?_
 exact JB.ag (Li (λ(x1:Int×(aX))=>[.e ai,.e ck,.e x1.1,.e x1.2]) (JI.ab (aj rfl)) (λ_=>rfl) (λx1 hx=>(have h3:=h5 x1 hx;JT.ab (zD (JE.ac (aK (aj rfl) (aK (aj rfl) (bK))) (GG x1.2 ck _ h3))))) (λx1 _ _=>aj rfl) (gB h4))
def Sa:SS:=SS.ag (hxs (SI.list (SE.ac gzj (cK (hjl 0) (cK (hjl 1) (dK))))) (aT 2) (cT) (SE.ac OW (cK (cW (hjl 0) (hjl 2)) (dK))) [2] (of_decide_eq_true rfl))
def WG:Fn:=fnOf 2 1 Sa
def Ip (ai:List (aX))(ck:List (Int×Bool)):List (aX):=
 (Kaf (λ(x1:Int)=>(cM (aq ai x1))) (ID ai ck))
def Bm (ai:List (aX))(ck:List (Int×Bool)):Prop:=
 Bv ai ck/\(∀x1∈(ID ai ck),(-(ai.length:Int)<=x1/\x1<(ai.length:Int))/\yU (aq ai x1))/\(ID ai ck).length<=100000
theorem kQ (ai:List (aX))(ck:List (Int×Bool))(s:aa)(h0:Bm ai ck):JF WG [.e ai,.e ck] s (Ip ai ck) s true:=by
 unfold Bm at h0
 obtain⟨h1,h5,h4⟩:=h0
 refine gi rfl ?_
 unfold Ip Sa
 show JB _ [.e ai,.e ck,.emp] _ _
 exact JB.ag (NP (λ(x1:Int)=>[.e ai,.e ck,.e x1]) (JI.list (JE.ac (aK (aj rfl) (aK (aj rfl) (bK))) (wh ai ck _ h1))) (λ_=>rfl) (λx1 hx=>(match h5 x1 hx with|⟨h2,h3⟩=>JE.ac (aK (iC (aj rfl) (aj rfl) h2) (bK)) (iT (aq ai x1) _ h3))) h4)
end Pu
namespace Pu
variable [aZ]
open PySem PySem.Spec PyProof.Rows L2 Enc
def De:PyData->Option Int
 |.int i=>some i
 |.bool b=>some (PpSet.b2 b)
 |_=>none
def ur:List PyData->Option (List Int)
 |[]=>some []
 |d::ds=>(De d).bind λn=>(ur ds).map λns=>n::ns
/-- a tuple whose object is known (as data) -/
def Q9 (ds:List PyData):PyData:=.dict [(.list [],.tuple ds)]
def pT:PyData->Option (List PyData)
 |.dict [(.list [],.tuple ds)]=>some ds
 |_=>none
def zI:PyData->Option NestedKey
 |.tuple ds=>(ur ds).map λns=>.tup (ns.map .num)
 |d=>(De d).map .num
def cQ:List PyData->Option (List NestedKey)
 |[]=>some []
 |d::ds=>(zI d).bind λn=>(cQ ds).map λns=>n::ns
def cj:PyData->Option NestedKey
 |.tuple ds=>(cQ ds).map .tup
 |d=>(pT d).bind λds=>(cQ ds).map .tup
theorem Rp.lD {F:Hp}{v:V}{d:PyData}{ds:List PyData}{as:List Addr}(r:Rp F v d as)(h:pT d=some ds):∃a o xs,v=.ref a/\F a=some (.frz o (.tup xs))/\(o.cls=.type "tuple" /\ o.dict=none)/\az F xs ds as:=by
 unfold pT at h
 split at h
 ·cases h
  cases r with
  |tupP h c r=>exact⟨_,_,_,rfl,h,c,r⟩
 ·cases h
theorem Rp.num {F:Hp}{v:V}{d:PyData}{as:List Addr}{n:Int}(r:Rp F v d as)(h:De d=some n):zW v=some n:=by
 unfold De at h
 split at h
 ·cases h;rw [r.int_inv];rfl
 ·cases h;rw [r.bool_inv];rfl
 ·cases h
theorem az.nums {F:Hp}:∀{vs:List V} {ds:List PyData} {as:List Addr} {ns:List Int},az F vs ds as->ur ds=some ns->vs.map zW=ns.map some
 |_,[],_,ns,r,h=>by
  cases r
  cases h;rfl
 |_,d::ds,_,ns,r,h=>by
  cases r with
  |cons h1 r1=>
   obtain⟨n,e1,h⟩:=aL h
   obtain⟨ms,e2,rfl⟩:=Kap.mp h
   rw [Kai,Kai,h1.num e1,az.nums r1 e2]
theorem Rp.zI {F:Hp}{v:V}{d:PyData}{as:List Addr}{k:NestedKey}(r:Rp F v d as)(h:zI d=some k):lH F k v:=by
 unfold Pu.zI at h
 split at h
 ·obtain⟨ns,h1,rfl⟩:=Kap.mp h
  obtain⟨a,xs,rfl,ha,hr⟩:=r.cg
  exact .inr ⟨a,xs,ns,rfl,rfl,.inl ha,hr.nums h1⟩
 ·obtain⟨i,h1,rfl⟩:=Kap.mp h
  exact .inl ⟨i,rfl,r.num h1⟩
theorem az.cQ {F:Hp}:∀{vs:List V} {ds:List PyData} {as:List Addr} {ks:List NestedKey},az F vs ds as->cQ ds=some ks->Paired (lH F) ks vs
 |_,[],_,ks,r,h=>by
  cases r
  cases h;exact .nil
 |_,d::ds,_,ks,r,h=>by
  cases r with
  |cons h1 r1=>
   obtain⟨n,e1,h⟩:=aL h
   obtain⟨ms,e2,rfl⟩:=Kap.mp h
   exact .cons (h1.zI e1) (az.cQ r1 e2)
theorem Rp.cj {F:Hp}{v:V}{d:PyData}{as:List Addr}{j:NestedKey}(r:Rp F v d as)(h:cj d=some j):∃b,v=.ref b/\dD F j b:=by
 unfold Pu.cj at h
 split at h
 ·obtain⟨ks,h1,rfl⟩:=Kap.mp h
  obtain⟨a,xs,rfl,ha,hr⟩:=r.cg
  exact⟨a,rfl,xs,ks,rfl,.inl ha,hr.cQ h1⟩
 ·obtain⟨ds,h1,h2⟩:=aL h
  obtain⟨ks,h3,rfl⟩:=Kap.mp h2
  obtain⟨a,o,xs,rfl,ha,_,hr⟩:=r.lD h1
  exact⟨a,rfl,xs,ks,rfl,.inr ⟨o,ha⟩,hr.cQ h3⟩
theorem dY.fH {F:Hp}{ws:List bW}{f:List (NestedKey×PyData)}{k:NestedKey}{b:Addr}{v:V}{d:PyData}{as:List Addr}(h:∀j:NestedKey,dY F (dz ws j) (BY f j))(r:Rp F v d as)(j:NestedKey):dY F (dz (fH ws k b v) j) (BY ((k,d)::f) j):=by
 rw [Ed]
 show dY F _ (if k=j then some d else BY f j)
 by_cases e:k=j
 ·rw [if_pos e,if_pos e]
  exact⟨as,r⟩
 ·rw [if_neg e,if_neg e]
  exact h j
theorem OQ {F:Hp}:∀{x:Option V} {d:Option PyData},dY F x d->x.isSome=d.isSome
 |none,none,_=>rfl
 |some _,some _,_=>rfl
 |some _,none,h=>h.elim
 |none,some _,h=>h.elim
/-- x={} among bM targets -/
def SP.zV (i:Nat)(r:SP):SP where
 t:=λK=>tCons PN (r.t K)
 ts:=i::r.ts
 ev:=λρ cN s=>r.ev ρ (cN.set i (.eJ [])) s
 ok:=by
  intro K sk F0 H0 F H σ p_ ρ cN je ak cU s s' Q p w h q a na
  have sr:bw F H F (L2.upd H a (bV a [])):=.raw (sk:=sk) w.st.sub' na
  have w1:=w.next (sr.any (sk:=sk)) (w.bh.keep sr)
  have wq:H0 a=none:=by
   cases q:H0 a with
   |none=>rfl
   |some u=>exact absurd na (w.st.dm a (by rw [q];exact nofun))
  have nd:([a]++cU.flatten).Nodup:=Kal.mpr ⟨by simp,w.dX,λb mb c mc z=>by
   have:b=a:=by simpa using mb
   subst z
   exact (w.bT b mc).2.1 (by rw [this];exact na)⟩
  obtain⟨m1,m2⟩:=u7 (i:=i) nd
  have wa:Wd sk F0 H0 F (L2.upd H a (bV a [])) (p_.set i (some (.ref a))) (cN.set i (.eJ [])) (cU.set i [a]) s:=by
   refine⟨w1.st,w1.bh,w1.slots.set ⟨a,[],rfl,upd_same,w.st.sub'.free na,⟨Kat _,λp hp=>nomatch hp⟩,λk=>True.intro,rfl⟩,m1,λb m=>?_⟩
   rcases m2 b m with z|z
   ·have:b=a:=by simpa using z
    subst this
    exact⟨wq,by rw [upd_same];exact nofun,fJ w.bh na⟩
   ·exact w1.bT b z
  refine r.ok K (p.next (sr.any (sk:=sk)) (p.bh.keep sr)) wa h λvs F2 H2 fv sF w2 hl=>?_
  exact q (.ref a::vs) F2 H2 fv sF w2 (by rw [Kad,Kad,hl])
theorem Wd.sO {sk:Option Addr}{F0 H0 F H:Hp}{σ:L2.St}{ρ:List Slot}{ak:List (List Addr)}{s:aa}{i:Nat}{a:Addr}{ws gn:List bW}{f:List (NestedKey×PyData)}(w:Wd sk F0 H0 F H σ ρ ak s)(e1:σ[i]? = some (some (.ref a)))(e2:ak[i]? = some [a])(hF:F a=none)
  (hl:gn.length<=f.length) (hk:∀p∈gn,dD F p.1 p.2.1) (r:∀k:NestedKey,dY F (dz gn k) (BY f k)) {Rl:List bW} (hP:H a=some (bV a Rl)):Wd sk F0 H0 F (L2.upd H a (bV a gn)) σ (ρ.set i (.eJ f)) ak s:=by
 have fa:a∈ak.flatten:=Kaw.mpr ⟨_,Kar e2,Kaa⟩
 obtain⟨a0,a1,a2⟩:=w.bT a fa
 obtain⟨n1,n2⟩:=vm w.dX e2
 have n3:=Kal.mp n1
 have na:a∉(ak.set i []).flatten:=λm=>n3.2.2 a Kaa a m rfl
 have st':Step sk F0 H0 F (L2.upd H a (bV a gn)):=by
  refine⟨w.st.sub,λb u e=>?_,λb u hb e hs=>?_,λb h=>?_,w.st.new⟩
  ·rw [upd_ne (λz=>by rw [z,hF] at e;cases e)];exact w.st.sub' b u e
  ·rw [upd_ne (λz=>by rw [z,a0] at e;cases e)];exact w.st.fr b u hb e
  ·by_cases z:b=a
   ·rw [z,upd_same];exact nofun
   ·rw [upd_ne z];exact w.st.dm b h
 have dj:bA sk F (L2.upd H a (bV a gn)) s:=⟨λb e=>⟨by rw [upd_ne (λz=>a2 (by rw [<-z];exact e))];exact (w.bh b e).1,(w.bh b e).2⟩,Es w.bh.tab hP Ks⟩
 have sl:=(w.slots.drop (i:=i)).q7 (a:=a) (o:=bV a gn) na
 have sl2:=sl.fill (sl:=.eJ f) (fp:=[a]) e1 ⟨a,gn,rfl,upd_same,hF,⟨hl,hk⟩,r,rfl⟩
 rw [KaI,KaI,Pj e2] at sl2
 refine⟨st',dj,sl2,w.dX,λb m=>?_⟩
 have:=w.bT b m
 refine⟨this.1,?_,this.2.2⟩
 by_cases z:b=a
 ·rw [z,upd_same];exact nofun
 ·rw [upd_ne z];exact this.2.1
/-- d[k]=v -/
def U4 (i:Nat)(k v:SE):SS where
 t:=λK=>KU (tVar i) (k.t K) (v.t K)
 ev:=λρ s=>(v.ev ρ s).bind λx=>match ρ[i]? with
  |some (.eJ f)=>(k.ev ρ x.2).bind λy=>match cj y.1.1 with
   |some j=>if f.length<100000 then some (.nx (ρ.set i (.eJ ((j,x.1.1)::f))) y.2) else none
   |none=>none
  |_=>none
 ok:=by
  intro K sk F0 H0 F H σ ρ ak s out D w h q
  obtain⟨⟨x,s1⟩,h1,h2⟩:=aL h
  dsimp only at h2
  split at h2
  ·rename_i f cz
   obtain⟨⟨⟨y,fl⟩,s2⟩,h3,h4⟩:=aL h2
   dsimp only at h4
   split at h4
   ·rename_i j ej
    split at h4
    ·rename_i hl
     cases h4
     refine v.ok K w.pre h1 λvv F1 H1 as st1 k1 r1 f1=>?_
     have w1:=w.next st1 k1
     obtain⟨xv,fp,e1,e2,a,ws,rfl,hH,hF,AN,hr,rfl⟩:=w1.slots.get cz
     refine⟨.ref a,e1,?_⟩
     refine k.ok K w1.pre h3 λkv F2 H2 bs st2 k2 r2 f2=>?_
     have w2:=w1.next st2 k2
     obtain⟨xv2,YR,sP,Et,a2,pY,ez,h_,xH,zB,hr2,rfl⟩:=w2.slots.get cz
     rw [e1] at sP
     have KC:a2=a:=by
      have:=Option.some.inj sP
      subst this
      have:=Option.some.inj ez
      injection this with this
      exact this.symm
     subst KC
     obtain⟨b,rfl,hb⟩:=r2.cj ej
     refine⟨a2,b,pY,j,rfl,rfl,h_,λp hp=>(zB.2 p hp).mono st2.sub',hb.mono st2.sub',Kbv zB.1 (Ka4 hl (by decide)),?_⟩
     have w3:=w2.sO (ws:=pY) (gn:=fH pY j b vv) (f:=(j,x.1)::f) e1 Et xH (KaB (uE _) (by show pY.length+1<=f.length+1;have:=zB.1;omega)) (pO zB.2 hb) (dY.fH hr2 (r1.mono st2.sub)) h_
     exact q F2 _ σ ak (st1.sub.trans st2.sub) w3
    ·cases h4
   ·cases h4
  ·cases h2
/-- k not in d -/
def izt (i:Nat)(k:SE):SE where
 t:=λK=>TZ (k.t K) (tVar i)
 ev:=λρ s=>match ρ[i]? with
  |some (.eJ f)=>(k.ev ρ s).bind λy=>match cj y.1.1 with
   |some j=>some ((.bool (!(BY f j).isSome),true),y.2)
   |none=>none
  |_=>none
 ok:=by
  intro K sk F H σ ρ ak s vl s' Q p h q
  dsimp only at h
  split at h
  ·rename_i f cz
   obtain⟨⟨⟨y,fl⟩,s2⟩,h3,h4⟩:=aL h
   dsimp only at h4
   split at h4
   ·rename_i j ej
    cases h4
    obtain⟨xv,fp,e1,e2,a,ws,rfl,hH,hF,AN,hr,rfl⟩:=p.slots.get cz
    refine k.ok K p h3 λkv F2 H2 bs st2 k2 r2 f2=>?_
    have fa:a∈ak.flatten:=Kaw.mpr ⟨_,Kar e2,Kaa⟩
    have h_:H2 a=some (bV a ws):=st2.fr a _ (λz=>p.jH a z fa) hH
    obtain⟨b,rfl,hb⟩:=r2.cj ej
    refine⟨.ref a,e1,a,b,ws,j,rfl,rfl,h_,λp hp=>((AN.2 p hp).mono st2.sub).mono st2.sub',hb.mono st2.sub',?_⟩
    rw [OQ (hr j)]
    exact q _ F2 H2 [] st2 k2 (.bl _) .nil
   ·cases h4
  ·cases h
def SE.Rc (a:SE):SE where
 t:=λK=>tThen (a.t K) (kTup K)
 ev:=λρ s=>(a.ev ρ s).bind λx=>match x.1.1 with|.list ds=>some ((.tuple ds,fM ds),x.2)|_=>none
 ok:=by
  intro K sk F H σ ρ ak s vl s' Q p h q
  obtain⟨⟨⟨x,w⟩,s1⟩,h1,h0⟩:=aL h
  dsimp only at h0
  split at h0
  ·rename_i ds
   cases h0
   refine a.ok K p h1 λu F1 H1 as st k r f=>?_
   obtain⟨ad,xs,bs,rfl,ha,hr,rfl⟩:=r.aP
   refine .inl ⟨ad,xs,rfl,.inl (.inl (st.sub' _ _ ha)),λp np=>?_⟩
   have sa:bw F1 H1 (L2.upd F1 p (.tup xs)) (L2.upd H1 p (.tup xs)):=.alloc st.sub' np
   refine q (.ref p) _ _ bs (st.trans sa.any) (k.keep sa) (.tup upd_same (hr.mono sa.sub)) λe=>?_
   rw [hr.aM e]
   exact⟨KaO,λa m=>by cases m⟩
  ·cases h0
/-- tuple(list),its object known -/
def SE.tupP (a:SE):SE where
 t:=λK=>tThen (a.t K) (Jj K)
 ev:=λρ s=>(a.ev ρ s).bind λx=>match x.1.1 with|.list ds=>some ((Q9 ds,fM ds),x.2)|_=>none
 ok:=by
  intro K sk F H σ ρ ak s vl s' Q p h q
  obtain⟨⟨⟨x,w⟩,s1⟩,h1,h0⟩:=aL h
  dsimp only at h0
  split at h0
  ·rename_i ds
   cases h0
   refine a.ok K p h1 λu F1 H1 as st k r f=>?_
   obtain⟨ad,xs,bs,rfl,ha,hr,rfl⟩:=r.aP
   refine⟨ad,xs,rfl,.inl (.inl (st.sub' _ _ ha)),λp o np ho=>?_⟩
   have sa:bw F1 H1 (L2.upd F1 p (.frz o (.tup xs))) (L2.upd H1 p (.frz o (.tup xs))):=.alloc st.sub' np
   refine q (.ref p) _ _ bs (st.trans sa.any) (k.keep sa) (.tupP upd_same ho (hr.mono sa.sub)) λe=>?_
   rw [hr.aM e]
   exact⟨KaO,λa m=>by cases m⟩
  ·cases h0
/-- all(t) of Q7 a tuple -/
def Ib:List PyData->Option Vl
 |[d]=>(pT d).bind λds=>(AF ds).map λbs=>(.bool (bs.all id),true)
 |_=>none
def SE.EY (a:SE):SE:=rA (λK=>Jt K) Ib (by
 intro K F H xs ds as z Q s r h q
 unfold Ib at h
 split at h
 ·rename_i d
  obtain⟨es,h1,h2⟩:=aL h
  obtain⟨bs,h3,rfl⟩:=Kap.mp h2
  cases r with
  |cons r rr=>
   cases rr
   obtain⟨a,o,ys,rfl,ha,_,hr⟩:=r.lD h1
   rw [exc h3] at hr
   rw [hr.bools] at ha
   exact⟨a,bs,rfl,.inl (.inr ⟨o,s _ _ ha⟩),q.here (z:=(.bool _,true)) s (.bl _) .nil⟩
 ·cases h) (.cons a .nil)
/-- t.count(b) of Q7 a tuple -/
def izn (a b:SE):SE where
 t:=λK=>yr (a.t K) (b.t K)
 ev:=λρ s=>(a.ev ρ s).bind λx=>(pT x.1.1).bind λds=>(AF ds).bind λbs=>(b.ev ρ x.2).bind λy=>match y.1.1 with|.bool c=>some ((.int ((bs.count c:Nat):Int),true),y.2)|_=>none
 ok:=by
  intro K sk F H σ ρ ak s vl s' Q p h q
  obtain⟨⟨⟨x,w⟩,s1⟩,h1,h0⟩:=aL h
  obtain⟨ds,h2,h0⟩:=aL h0
  obtain⟨bs,h3,h0⟩:=aL h0
  obtain⟨⟨⟨y,w2⟩,s2⟩,h4,h0⟩:=aL h0
  dsimp only at h0
  split at h0
  ·rename_i c
   cases h0
   refine a.ok K p h1 λu F1 H1 as st k r f=>?_
   obtain⟨ad,o,xs,rfl,ha,ho,hr⟩:=r.lD h2
   rw [exc h3] at hr
   rw [hr.bools] at ha
   refine⟨ad,o,bs,rfl,st.sub' _ _ ha,ho,?_⟩
   refine b.ok K (p.next st k) h4 λv2 F2 H2 as2 st2 k2 r2 f2=>?_
   exact⟨c,r2.bool_inv,st2.sub' _ _ (st2.sub _ _ ha),q _ F2 H2 [] (st.trans st2) k2 (.int _) .nil⟩
  ·cases h0
structure Tb where
 l:List Bool
deriving DecidableEq
instance:Enc Tb:=⟨λt=>Q9 (t.l.map .bool)⟩
class bO (κ:Type) [Enc κ] where
 nums:κ->NestedKey
 ok:∀x:κ,cj (enc x)=some (nums x)
 inj:∀x y:κ,nums x=nums y->x=y
theorem jZ:∀bs:List Bool,cQ (bs.map .bool)=some (bs.map λb=>.num (PpSet.b2 b))
 |[]=>rfl
 |b::bs=>by
  rw [Kai,Kai]
  unfold cQ
  rw [jZ bs];rfl
theorem Bo:∀{xs ys:List Bool},xs.map (λb=>NestedKey.num (PpSet.b2 b))=ys.map (λb=>NestedKey.num (PpSet.b2 b))->xs=ys
 |[],[],_=>rfl
 |[],_::_,h=>by cases h
 |_::_,[],h=>by cases h
 |x::xs,y::ys,h=>by
  rw [Kai,Kai] at h
  injection h with h1 h2
  rw [Bo h2]
  congr 1
  injection h1 with h1
  cases x <;> cases y <;> first|rfl|exact absurd h1 (by decide)
instance:bO Tb:=⟨λt=>.tup (t.l.map λb=>.num (PpSet.b2 b)),λt=>by
 show (cQ (t.l.map .bool)).map NestedKey.tup=_
 rw [jZ];rfl,λx y h=>by
 obtain⟨x⟩:=x
 obtain⟨y⟩:=y
 injection h with h
 exact congrArg Tb.mk (Bo h)⟩
def cG {κ β:Type}[Enc κ][bO κ][Enc β](f:List (κ×β)):List (NestedKey×PyData):=f.map λp=>(bO.nums p.1,enc p.2)
theorem sN {κ β:Type}[Enc κ][bO κ][DecidableEq κ][Enc β]:∀(f:List (κ×β)) (j:κ),BY (cG f) (bO.nums j)=(aN f j).map enc
 |[],j=>rfl
 |(k,d)::r,j=>by
  show (if bO.nums k=bO.nums j then some (enc d) else BY (cG r) (bO.nums j))=_
  unfold aN
  by_cases h:k=j
  ·rw [if_pos h,if_pos (by rw [h])];rfl
  ·rw [if_neg h,if_neg (λz=>h (bO.inj _ _ z))];exact sN r j
section
variable {ρ aB cY:List Slot}{s s1 s2:aa}{e e2:SE}{i:Nat}{w w1 w2:Bool}
theorem JE.tupP {xs:List Bool}(h:JE e ρ s xs s1 w1):JE (SE.tupP e) ρ s (Tb.mk xs) s1 false:=by
 obtain⟨_,h,_⟩:=h
 refine⟨fM (xs.map PyData.bool),?_,λz=>by cases z⟩
 show (e.ev ρ s).bind _=_
 rw [h];rfl
theorem JE.EY {x:Tb}(h:JE e ρ s x s1 w1):JE (SE.EY e) ρ s (x.l.all id) s1 true:=by
 obtain⟨_,h,_⟩:=h
 exact⟨true,lQ h (by
  show (AF (x.l.map PyData.bool)).map _=_
  rw [OR];rfl),λ_=>rfl⟩
theorem JE.countP {x:Tb}{c:Bool}(h:JE e ρ s x s1 w1)(h2:JE e2 ρ s1 c s2 w2):JE (izn e e2) ρ s ((x.l.count c:Nat):Int) s2 true:=by
 obtain⟨_,h,_⟩:=h
 obtain⟨_,h2,_⟩:=h2
 refine⟨true,?_,λ_=>rfl⟩
 show (e.ev ρ s).bind _=_
 rw [h]
 show (AF (x.l.map PyData.bool)).bind _=_
 rw [OR]
 show (e2.ev ρ s1).bind _=_
 rw [h2];rfl
theorem JE.IQ {κ:Type}[Enc κ][bO κ][DecidableEq κ]{β:Type}[Enc β]{f:List (κ×β)}{x:κ}(hi:ρ[i]? = some (.eJ (cG f)))(h:JE e ρ s x s1 w):JE (izt i e) ρ s (decide (¬((aN f x).isSome=true))) s1 true:=by
 obtain⟨_,h,_⟩:=h
 refine⟨true,?_,λ_=>rfl⟩
 show (match ρ[i]? with|some (.eJ f)=>_|_=>_)=_
 rw [hi]
 show ((e.ev ρ s).bind _)=_
 rw [h]
 show (match cj (enc x) with|some j=>some ((PyData.bool (!(BY (cG f) j).isSome),true),s1)|none=>none)=_
 rw [bO.ok]
 show some ((PyData.bool (!(BY (cG f) (bO.nums x)).isSome),true),s1)=_
 rw [sN]
 cases aN f x <;> rfl
theorem JN.sO {κ:Type}[Enc κ][bO κ]{α:Type}[Enc α]{f:List (κ×α)}{x:α}{j:κ}(hi:ρ[i]? = some (.eJ (cG f)))(hv:JE e ρ s x s1 w)(hk:JE e2 ρ s1 j s2 w1)(hl:f.length<100000):JN (U4 i e2 e) ρ s (ρ.set i (.eJ (cG ((j,x)::f)))) s2:=by
 obtain⟨_,hv,_⟩:=hv
 obtain⟨_,hk,_⟩:=hk
 show ((e.ev ρ s).bind _)=_
 rw [hv]
 show (match ρ[i]? with|some (.eJ f)=>_|_=>_)=_
 rw [hi]
 show ((e2.ev ρ s1).bind _)=_
 rw [hk]
 show (match cj (enc j) with|some j=>(if (cG f).length<100000 then some (Out.nx (ρ.set i (.eJ ((j,enc x)::cG f))) s2) else none)|none=>none)=_
 rw [bO.ok]
 show (if (cG f).length<100000 then _ else _)=_
 rw [if_pos (by unfold cG;simpa using hl)];rfl
theorem JN.eJ {κ:Type}[Enc κ][bO κ]{α:Type}[Enc α]{a:SS}{x v:List (κ×α)}(h:JN a ρ s (ρ.set i (.eJ (cG v))) s1)(hx:x=v):JN a ρ s (ρ.set i (.eJ (cG x))) s1:=hx ▸ h
theorem JP.zV {p:SP}(hp:JP p ρ (aB.set i (.eJ [])) s cY s2):JP (SP.zV i p) ρ aB s cY s2:=hp
end
end Pu
namespace Pu
variable [aZ]
open PySem L2 Enc
def OM:SS:=SS.ab (Gv 1 (SB.own (SE.lst (fK)))) (Jg 1 (SS.ab (iO (SI.list (hjl 0)) (aT 2) (dR [2,3] (SS.ab (cF 3 (SE.ac OW (cK (hjl 2) (dK)))) (eM (Qk 1 (ST.ab (NU (hjl 3) (hjl 1)))) (K6 1 (hjl 3)) (SS.ac))))) (Cq 1 (SS.ag (hjl 1)))))
def O3:Fn:=fnOf 1 3 OM
def iF  (st1:(List (aX)))(x1:aX):(List (aX)):=
 lt ((cM x1)) λKZ=>
 if KZ∉st1 then
 lt (st1++[KZ]) λd9=>
 d9
 else
 st1
def MN  (st1:(List (aX)))(x1:aX):Prop:=
 yU x1/\(bu ((cM x1)) λKZ=>
 ((KZ∉st1)->st1.length<100000))
def b8 (ai:List (aX)):List (aX):=
 lt (([]:List (aX))) λeU=>
 lt (Kaq (iF) eU ai) λp1=>
 p1
def vg (ai:List (aX)):Prop:=
 (bu (([]:List (aX))) λeU=>
 bH (iF) (MN) ai eU)
theorem iU (ai:List (aX))(s:aa)(h0:vg ai):JF O3 [.e ai] s (b8 ai) s false:=by
 unfold vg at h0
 have h6:=h0
 refine gi rfl ?_
 unfold b8 OM
 show JB _ [.e ai,.emp,.emp,.emp] _ _
 refine aY λeU e1=>?_
 have h5:=bL h6 e1
 refine JB.ab (aB:=[.e ai,.aC (Kaf enc eU) true,.emp,.emp]) (JN.aC (Ld (JE.lst (xs:=[]) gK)) e1) ?_
 refine Lo (i:=1) rfl ?_
 show JB _ [.e ai,.aC (Kaf enc eU) false,.emp,.emp] _ _
 refine aY λp1 e4=>?_
 refine JB.ab (tQ (J:=λ(st1:(List (aX)))=>[.e ai,.aC (Kaf enc st1) false,.emp,.emp]) (R:=λ(st1:(List (aX))) (x1:aX)=>[.e ai,.aC (Kaf enc st1) false,.e x1,.emp]) (f:=(iF)) (d:=(MN)) (st:=eU) (JI.list (aj rfl)) rfl (λ_ _=>rfl) ?_ h5 e4) ?_
 ·intro st1 x1 hd
  unfold MN at hd
  obtain⟨h1,h4⟩:=hd
  unfold iF
  refine gQ ?_
  refine aY λKZ e2=>?_
  have h3:=bL h4 e2
  refine JB.ab (aB:=[.e ai,.aC (Kaf enc st1) false,.e x1,.e KZ]) (cX (JE.ac (aK (aj rfl) (bK)) (iT x1 _ h1)) e2) ?_
  refine zF (ijj rfl (JT.ab (JE.Dd (aj rfl) (aj rfl)))) ?_ ?_
  ·intro hq
   have h2:=h3 hq
   refine aY λd9 e3=>?_
   refine JB.ac (aB:=[.e ai,.aC (Kaf enc d9) false,.e x1,.e KZ]) (JN.aC (hxy rfl (aj rfl) h2) e3) ?_
   exact rfl
  ·intro hq
   exact JB.al rfl
 show JB _ [.e ai,.aC (Kaf enc p1) false,.emp,.emp] _ _
 refine JB.frz (i:=1) rfl ?_
 show JB _ [.e ai,.e p1,.emp,.emp] _ _
 exact JB.ag (aj rfl)
def Sh:SS:=SS.ab (wg (SG.tup (jK (aT 1) (jK (aT 2) (c9.nil)))) (SE.tup (eK (SE.ab 0) (eK (SE.ab 1) (fK))))) (SS.ab (iO (SI.list (hjl 0)) (aT 3) (dR [3] (SS.ab (cF 1 (Cr (hjl 1) (cW (hjl 3) (SE.ab 1)))) (cF 2 (SE.ac VR (cK (hjl 2) (cK (cW (hjl 3) (SE.ab 2)) (dK)))))))) (SS.ag (fL (hjl 1) (hjl 2))))
def V4:Fn:=fnOf 1 3 Sh
def Bj  (st1:Int×Int)(x1:aX):Int×Int:=
 lt ((max st1.1 x1.y)) λvO=>
 lt ((Oj st1.2 x1.z)) λbr=>
 (vO,br)
def MI  (st1:Int×Int)(x1:aX):Prop:=
 (bu ((max st1.1 x1.y)) λvO=>
 yO st1.2 x1.z)
def E2 (ai:List (aX)):Int:=
 lt (((0:Int),(1:Int))) λp1=>
 lt (Kaq (Bj) (p1.1,p1.2) ai) λp2=>
 (p2.1+p2.2)
def Aq (ai:List (aX)):Prop:=
 (bu (((0:Int),(1:Int))) λp1=>
 bH (Bj) (MI) ai (p1.1,p1.2))
theorem iQ (ai:List (aX))(s:aa)(h0:Aq ai):JF V4 [.e ai] s (E2 ai) s false:=by
 unfold Aq at h0
 have h4:=h0
 refine gi rfl ?_
 unfold E2 Sh
 show JB _ [.e ai,.emp,.emp,.emp] _ _
 refine aY λp1 e1=>?_
 have h3:=bL h4 e1
 refine JB.ab (aB:=[.e ai,.e p1.1,.e p1.2,.emp]) (zA (U_ (hxv (iK (JE.ab 0) (iK (JE.ab 1) (gK)))) e1.symm) rfl) ?_
 refine aY λp2 e4=>?_
 refine JB.ab (tQ (J:=λ(st1:Int×Int)=>[.e ai,.e st1.1,.e st1.2,.emp]) (R:=λ(st1:Int×Int) (x1:aX)=>[.e ai,.e st1.1,.e st1.2,.e x1]) (f:=(Bj)) (d:=(MI)) (st:=(p1.1,p1.2)) (JI.list (aj rfl)) rfl (λ_ _=>rfl) ?_ h3 e4) ?_
 ·intro st1 x1 hd
  unfold MI at hd
  have h2:=hd
  unfold Bj
  refine gQ ?_
  refine aY λvO e2=>?_
  have h1:=bL h2 e2
  refine JB.ab (aB:=[.e ai,.e vO,.e st1.2,.e x1]) (cX (Ln (aj rfl) (JE.p42 (aj rfl))) e2) ?_
  refine aY λbr e3=>?_
  refine JB.ac (aB:=[.e ai,.e vO,.e br,.e x1]) (cX (JE.ac (aK (aj rfl) (aK (JE.p43 (aj rfl)) (bK))) (ig st1.2 x1.z _ h1)) e3) ?_
  exact rfl
 show JB _ [.e ai,.e p2.1,.e p2.2,.emp] _ _
 exact JB.ag (kO (iB (aj rfl) (aj rfl)))
def OT:SS:=SS.ab (cF 1 (SE.ac V4 (cK (hjl 0) (dK)))) (SS.ab (cF 2 (hxs (SI.list (hjl 0)) (aT 7) (cT) (SE.ac RX (cK (SE.ac Pf (cK (hjl 7) (dK))) (cK (hjl 1) (dK)))) [7] (of_decide_eq_true rfl))) (SS.ab (hxx 3 4 (SP.zV 3 (Gx 4 (SP.nil))) (of_decide_eq_true rfl)) (Jg 4 (SS.ab (iO (nW (hjl 1)) (aT 5) (dR [5,6] (SS.ab (cF 6 (SE.tupP (hxs (SI.list (hjl 2)) (aT 8) (cT) (fX (cW (hjl 8) (hjl 5)) (cW (cW (hjl 2) (SE.ab 0)) (hjl 5))) [8] (of_decide_eq_true rfl)))) (eM (EJ (ST.ac (ST.ab (SE.EY (hjl 6)))) (ST.ab (izt 3 (hjl 6)))) (SS.ab (U4 3 (hjl 6) (hjl 5)) (K6 4 (SE.tup (eK (hjl 5) (eK (hjl 6) (fK)))))) (SS.ac))))) (Cq 4 (SS.ag (hjl 4)))))))
def OO:Fn:=fnOf 1 8 OT
def wU (af:List (List Int))(st1:(List (Tb×Int))×(List (Int×Tb)))(x2:Int):(List (Tb×Int))×(List (Int×Tb)):=
 lt ((Tb.mk (Kaf (λ(x3:List Int)=>(decide ((aq x3 x2)=(aq (aq af (0:Int)) x2)))) af))) λfT=>
 if (¬((Kb3 fT.l id)=true))/\(¬(KaZ (aN st1.1 fT)=true)) then
 lt ((fT,x2)::st1.1) λjg=>
 lt (st1.2++[(x2,fT)]) λd9=>
 (jg,d9)
 else
 (st1.1,st1.2)
def MO (af:List (List Int))(st1:(List (Tb×Int))×(List (Int×Tb)))(x2:Int):Prop:=
 (∀x3∈af,(-(x3.length:Int)<=x2/\x2<(x3.length:Int))/\(-(af.length:Int)<=(0:Int)/\(0:Int)<(af.length:Int))/\(-((aq af (0:Int)).length:Int)<=x2/\x2<((aq af (0:Int)).length:Int)))/\af.length<=100000/\(bu ((Tb.mk (Kaf (λ(x3:List Int)=>(decide ((aq x3 x2)=(aq (aq af (0:Int)) x2)))) af))) λfT=>
 (((¬((Kb3 fT.l id)=true))/\(¬(KaZ (aN st1.1 fT)=true)))->(st1.1.length<100000/\(bu ((fT,x2)::st1.1) λjg=>
 st1.2.length<100000))))
def jf (ai:List (aX)):List (Int×Tb):=
 lt ((E2 ai)) λmany1=>
 lt ((Kaf (λ(x1:aX)=>(J9 (jm x1) many1)) ai)) λaf=>
 lt (Kaq (wU af) (([]:List (Tb×Int)),([]:List (Int×Tb))) (rng 0 many1)) λp1=>
 p1.2
def yW (ai:List (aX)):Prop:=
 Aq ai/\(bu ((E2 ai)) λmany1=>
 (∀x1∈ai,xo x1/\Ba (jm x1) many1)/\ai.length<=100000/\(bu ((Kaf (λ(x1:aX)=>(J9 (jm x1) many1)) ai)) λaf=>
 (-1000000<=many1/\many1<=1000000)/\bH (wU af) (MO af) (rng 0 many1) (([]:List (Tb×Int)),([]:List (Int×Tb)))))
theorem jY (ai:List (aX))(s:aa)(h0:yW ai):JF OO [.e ai] s (jf ai) s false:=by
 unfold yW at h0
 obtain⟨h1,v8⟩:=h0
 refine gi rfl ?_
 unfold jf OT
 show JB _ [.e ai,.emp,.emp,.emp,.emp,.emp,.emp,.emp,.emp] _ _
 refine aY λmany1 e1=>?_
 obtain⟨h5,h4,v7⟩:=bL v8 e1
 refine JB.ab (aB:=[.e ai,.e many1,.emp,.emp,.emp,.emp,.emp,.emp,.emp]) (cX (JE.ac (aK (aj rfl) (bK)) (iQ ai _ h1)) e1) ?_
 refine aY λaf e2=>?_
 obtain⟨h6,v5⟩:=bL v7 e2
 refine JB.ab (aB:=[.e ai,.e many1,.e af,.emp,.emp,.emp,.emp,.emp,.emp]) (cX (NP (λ(x1:aX)=>[.e ai,.e many1,.emp,.emp,.emp,.emp,.emp,.e x1,.emp]) (JI.list (aj rfl)) (λ_=>rfl) (λx1 hx=>(match h5 x1 hx with|⟨h2,h3⟩=>JE.ac (aK (JE.ac (aK (aj rfl) (bK)) (mT x1 _ h2)) (aK (aj rfl) (bK))) (kP (jm x1) many1 _ h3))) h4) e2) ?_
 refine JB.ab (aB:=[.e ai,.e many1,.e af,.eJ (cG ([]:List (Tb×Int))),.aC (Kaf enc ([]:List (Int×Tb))) true,.emp,.emp,.emp,.emp]) (xS (JP.zV (Ql (JP.nil)))) ?_
 refine Lo (i:=4) rfl ?_
 show JB _ [.e ai,.e many1,.e af,.eJ (cG ([]:List (Tb×Int))),.aC (Kaf enc ([]:List (Int×Tb))) false,.emp,.emp,.emp,.emp] _ _
 refine aY λp1 e8=>?_
 refine JB.ab (tQ (J:=λ(st1:(List (Tb×Int))×(List (Int×Tb)))=>[.e ai,.e many1,.e af,.eJ (cG st1.1),.aC (Kaf enc st1.2) false,.emp,.emp,.emp,.emp]) (R:=λ(st1:(List (Tb×Int))×(List (Int×Tb))) (x2:Int)=>[.e ai,.e many1,.e af,.eJ (cG st1.1),.aC (Kaf enc st1.2) false,.e x2,.emp,.emp,.emp]) (f:=(wU af)) (d:=(MO af)) (st:=(([]:List (Tb×Int)),([]:List (Int×Tb)))) (rq (aj rfl) h6) rfl (λ_ _=>rfl) ?_ v5 e8) ?_
 ·intro st1 x2 hd
  unfold MO at hd
  obtain⟨h11,h10,vZ⟩:=hd
  unfold wU
  refine gQ ?_
  refine aY λfT e5=>?_
  have h15:=bL vZ e5
  refine JB.ab (aB:=[.e ai,.e many1,.e af,.eJ (cG st1.1),.aC (Kaf enc st1.2) false,.e x2,.e fT,.emp,.emp]) (cX (JE.tupP (hxz (λ(x3:List Int)=>[.e ai,.e many1,.e af,.eJ (cG st1.1),.aC (Kaf enc st1.2) false,.e x2,.emp,.emp,.e x3]) (JI.list (aj rfl)) (λ_=>rfl) (λx3 hx=>(match h11 x3 hx with|⟨h7,h8,h9⟩=>jW (iC (aj rfl) (aj rfl) h7) (iC (iC (aj rfl) (JE.ab 0) h8) (aj rfl) h9))) h10)) e5) ?_
  refine zF (NO (JT.not (JT.ab (zD (JE.EY (aj rfl))))) (λ_=>JT.ab (JE.IQ rfl (aj rfl)))) ?_ ?_
  ·intro hq
   obtain⟨h12,tN⟩:=h15 hq
   refine aY λjg e6=>?_
   have h13:=bL tN e6
   refine JB.ab (aB:=[.e ai,.e many1,.e af,.eJ (cG jg),.aC (Kaf enc st1.2) false,.e x2,.e fT,.emp,.emp]) (JN.eJ (JN.sO rfl (aj rfl) (aj rfl) h12) e6) ?_
   refine aY λd9 e7=>?_
   refine JB.ac (aB:=[.e ai,.e many1,.e af,.eJ (cG jg),.aC (Kaf enc d9) false,.e x2,.e fT,.emp,.emp]) (JN.aC (hxy rfl (hxv (iK (aj rfl) (vq (aj rfl) (gK)))) h13) e7) ?_
   exact rfl
  ·intro hq
   exact JB.al rfl
 show JB _ [.e ai,.e many1,.e af,.eJ (cG p1.1),.aC (Kaf enc p1.2) false,.emp,.emp,.emp,.emp] _ _
 refine JB.frz (i:=4) rfl ?_
 show JB _ [.e ai,.e many1,.e af,.eJ (cG p1.1),.e p1.2,.emp,.emp,.emp,.emp] _ _
 exact JB.ag (aj rfl)
def R7:SS:=SS.ag (Cr (izn (hjl 0) (SE.bool true)) (izn (hjl 0) (SE.bool false)))
def Wo:Fn:=fnOf 1 0 R7
def J7 (fT:Tb):Int:=
 (max ((Kcs true fT.l:Nat):Int) ((Kcs false fT.l:Nat):Int))
def Io (fT:Tb):Prop:=
 True
theorem jx (fT:Tb)(s:aa)(h0:Io fT):JF Wo [.e fT] s (J7 fT) s false:=by
 refine gi rfl ?_
 unfold J7 R7
 show JB _ [.e fT] _ _
 exact JB.ag (kO (Ln (JE.countP (aj rfl) (JE.bool true)) (JE.countP (aj rfl) (JE.bool false))))
def OV:SS:=SS.ab (cF 2 (SE.ac O3 (cK (SE.ac WG (cK (hjl 0) (cK (hjl 1) (dK)))) (dK)))) (SS.ab (eM (ST.ab (qw (gR (hjl 2)) (SE.ab 2))) (SS.ag (SE.non)) (SS.ac)) (SS.ab (cF 3 (SE.non)) (SS.ab (iO (SI.list (SE.ac OO (cK (hjl 2) (dK)))) (SG.tup (jK (aT 4) (jK (aT 5) (c9.nil)))) (dR [4,5,6] (SS.ab (cF 6 (SE.ac Wo (cK (hjl 5) (dK)))) (eM (CF (ST.ab (SE.Lj (hjl 3) (SE.non))) (ST.ab (qw (hjl 6) (cW (hjl 3) (SE.ab 0))))) (cF 3 (SE.tup (eK (hjl 6) (eK (hjl 4) (fK))))) (SS.ac))))) (SS.ag (cW (hjl 3) (SE.ab 1))))))
def OL:Fn:=fnOf 2 5 OV
def wM  (st1:(Option (Int×Int)))(x1:Int×Tb):(Option (Int×Int)):=
 lt ((J7 x1.2)) λxx=>
 if (st1=none)∨(xx<((Kba st1 default).1)) then
 lt ((some (xx,x1.1))) λBr=>
 Br
 else
 st1
def MV  (st1:(Option (Int×Int)))(x1:Int×Tb):Prop:=
 (bu ((J7 x1.2)) λxx=>
 (¬(st1=none)->(KaZ st1=true)))
def rW (ai:List (aX))(ck:List (Int×Bool)):Option Int:=
 lt ((b8 (Ip ai ck))) λdI=>
 if (dI.length:Int)<(2:Int) then
 (none:Option Int)
 else
 lt ((none:Option (Int×Int))) λlP=>
 lt (Kaq (wM) lP (jf dI)) λp1=>
 (some ((Kba p1 default).2))
def q_ (ai:List (aX))(ck:List (Int×Bool)):Prop:=
 Bm ai ck/\vg (Ip ai ck)/\(bu ((b8 (Ip ai ck))) λdI=>
 (¬((dI.length:Int)<(2:Int))->((bu ((none:Option (Int×Int))) λlP=>
 yW dI/\bH (wM) (MV) (jf dI) lP/\(bu (Kaq (wM) lP (jf dI)) λp1=>
 KaZ p1=true)))))
theorem Xq (ai:List (aX))(ck:List (Int×Bool))(s:aa)(h0:q_ ai ck):JF OL [.e ai,.e ck] s (rW ai ck) s false:=by
 unfold q_ at h0
 obtain⟨h1,h2,h12⟩:=h0
 refine gi rfl ?_
 unfold rW OV
 show JB _ [.e ai,.e ck,.emp,.emp,.emp,.emp,.emp] _ _
 refine aY λdI e1=>?_
 have h11:=bL h12 e1
 refine JB.ab (aB:=[.e ai,.e ck,.e dI,.emp,.emp,.emp,.emp]) (cX (JE.ac (aK (JE.ac (aK (aj rfl) (aK (aj rfl) (bK))) (kQ ai ck _ h1)) (bK)) (iU (Ip ai ck) _ h2)) e1) ?_
 refine CC (JT.ab (xT (lB (aj rfl)) (JE.ab 2))) ?_ (λ_=>NR) ?_
 ·intro hq
  exact JB.ag (kO (JE.Vh))
 intro hq
 have h10:=h11 hq
 refine Cv ?_
 refine aY λlP e2=>?_
 obtain⟨h3,h7,h9⟩:=bL h10 e2
 refine JB.ab (aB:=[.e ai,.e ck,.e dI,.e lP,.emp,.emp,.emp]) (cX (JE.Vh) e2) ?_
 refine aY λp1 e5=>?_
 have h8:=bL h9 e5
 refine JB.ab (tQ (J:=λ(st1:(Option (Int×Int)))=>[.e ai,.e ck,.e dI,.e st1,.emp,.emp,.emp]) (R:=λ(st1:(Option (Int×Int))) (x1:Int×Tb)=>[.e ai,.e ck,.e dI,.e st1,.e x1.1,.e x1.2,.emp]) (f:=(wM)) (d:=(MV)) (st:=lP) (JI.list (JE.ac (aK (aj rfl) (bK)) (jY dI _ h3))) rfl (λ_ _=>rfl) ?_ h7 e5) ?_
 ·intro st1 x1 hd
  unfold MV at hd
  have h6:=hd
  unfold wM
  refine gQ ?_
  refine aY λxx e3=>?_
  have h5:=bL h6 e3
  refine JB.ab (aB:=[.e ai,.e ck,.e dI,.e st1,.e x1.1,.e x1.2,.e xx]) (cX (JE.ac (aK (aj rfl) (bK)) (jx x1.2 _ trivial)) e3) ?_
  refine zF (JT.or (JT.ab (JE.Lj (aj rfl))) (λhq=>(have h4:=h5 hq;JT.ab (xT (aj rfl) (JE.p21 (JE.Ec (aj rfl) h4)))))) ?_ ?_
  ·intro hq
   refine aY λBr e4=>?_
   refine JB.ac (aB:=[.e ai,.e ck,.e dI,.e Br,.e x1.1,.e x1.2,.e xx]) (cX (JE.Qy (hxv (iK (aj rfl) (iK (aj rfl) (gK))))) e4) ?_
   exact rfl
  ·intro hq
   exact JB.al rfl
 show JB _ [.e ai,.e ck,.e dI,.e p1,.emp,.emp,.emp] _ _
 exact JB.ag (JE.Qy (JE.p22 (JE.Ec (aj rfl) h8)))
end Pu
namespace Pu
open PySem PySem.Spec PyProof.Rows L2
/-- bM pairs of bM frozen dict at d,each a new tuple -/
def ItX (d:Addr)(o:Obj)(ws:List bW):It:=
 ⟨λi H=>H d=some (.frz o (bV d ws))/\i<ws.length,λi H x H'=>∃T p,ws[i]? = some p/\x=.ref T/\H T=none/\H'=upd H T (.tup [.ref p.2.1,p.2.2]),λi H=>H d=some (.frz o (bV d ws))/\ws.length<=i⟩
theorem KL {X:Cx}{pins:List (Addr×Obj)}{σ:L2.St}{H:Hp}{s:Shared}{d:Addr}{o:Obj}{ws:List bW}(I:Inv X pins σ H s)(h:H d=some (.frz o (bV d ws))):
  (d == sysModules)=false/\s.heap.get? d=some o/\o.ExactDict/\∃(es:Array DictEntry) (ep:Nat) (xs:List (NestedKey×Addr×Value)),o.data=.dict es ep/\es.size=ws.length/\Paired KX ws xs/\es.toList=xs.map kI:=by
 obtain⟨hd,⟨z,hs,xs,pr,o',es,ep,ho,hx,hdt,he,_⟩,_⟩:=I.hok d _ h
 rw [hd] at ho
 cases ho
 refine⟨hs,hd,hx,es,ep,xs,hdt,?_,pr,he⟩
 have l2:ws.length=xs.length:=Paired.length pr
 have l1:=congrArg Kcg he
 rw [Kag,Kch] at l1
 omega
section
variable {P:Program}{w:World}{K:PySem.W.Frag}{d:Addr}{o:Obj}{es:Array DictEntry}{ep:Nat}
theorem uV {ws:List bW}{elts:List Expr}{kk:Nat}{tpos:Pos}(it:Addr)(hod:o.data=.dict es ep):
  Turn P w K (.Tuple elts kk tpos) (ItX d o ws) [it] it (λi h=>∃ok ov,IsItemIter h it d i ws.length ep ok ov) where
 mem:=by simp
 obj:=λi h st b hb=>by
  have e:b=it:=by simpa using hb
  subst e
  obtain⟨ok,ov,e⟩:=st
  exact⟨_,e,λv z=>nomatch z⟩
 keep:=λi h h' st k=>let ⟨ok,ov,e⟩:=st;⟨ok,ov,k it (by simp) _ e⟩
 item:=by
  intro X hP hw hK hc i pins s σ H E I hf st hg
  subst hP hw hK
  obtain⟨hd,hi⟩:=hg
  obtain⟨hs,hgd,hx,es',ep',xs,hdt,hsz,pr,he0⟩:=KL I hd
  obtain⟨rfl,rfl⟩:=dict_ep hod hdt
  obtain⟨p,hp⟩:∃p,ws[i]? = some p:=⟨ws[i],Kau hi⟩
  obtain⟨q,hq,hk1,hk2,hk3⟩:=paired_get pr hp
  have hi2:i<es'.size:=by omega
  have he1:es'[i]=kI q:=by
   have h1:es'.toList[i]? = some (kI q):=by rw [he0,KaY,hq];rfl
   have h2:es'.toList[i]? = some es'[i]:=by rw [Kau (by rw [Kch];exact hi2),Array.getElem_toList]
   rw [h2] at h1
   exact Option.some.inj h1
  obtain⟨ok,ov,he⟩:=st
  rw [<-hsz] at he
  have hlt:it<s.heap.objs.size:=Heap.lt_size he
  refine DT.nextI he ⟨o,hgd,hx,hod⟩ hi2 λh' ho hT hz hk=>?_
  rw [he1] at ho hT
  refine⟨_,rfl,wpAny_letOwnedTupleGo_items (s:={ s with heap:=h' }) ho λh'' he' sb=>?_⟩
  have hT2:h''.get? s.heap.objs.size=some { cls:=.type "tuple",data:=.seq #[(kI q).key,(kI q).val] }:=(sb.2 _ (Nat.ne_of_gt hlt)).trans hT
  have r1:RelV (.ref p.2.1) (kI q).key:=by rw [hk2];rfl
  have new:ObjOk X.prog X.w (upd H s.heap.objs.size (.tup [.ref p.2.1,p.2.2])) h'' s.heap.objs.size (.tup [.ref p.2.1,p.2.2]):=
   ⟨by show 2<=sizeLine;decide,[(kI q).key,(kI q).val],.cons r1 (.cons hk3 .nil),⟨_,hT2,rfl,_,rfl⟩⟩
  have I1:Inv X pins σ (upd H s.heap.objs.size (.tup [.ref p.2.1,p.2.2])) { s with heap:=h'' }:=
   I.turnedNew (t':=s.toks) (ch:=[it]) (λb ob hb e=>(sb.2 b (by simpa using hb)).trans (hk b ob (by simpa using hb) e)) hf (Kat _) new
  refine⟨.ref s.heap.objs.size,_,I1,rfl,⟨_,p,hp,rfl,I.hok.fresh (Kat _),rfl⟩,⟨(kI q).key,(kI q).val,?_⟩,λb hb=>?_⟩
  ·rw [<-hsz];exact he'
  ·have e:b=it:=by simpa using hb
   rw [e,upd_ne (Kdg hlt)]
   exact (hf it (by simp)).1
 done:=by
  intro X hP hw hK hc i pins s σ H E I hf st hg
  subst hP hw hK
  obtain⟨hd,hi⟩:=hg
  obtain⟨f0,f1,f2,f3,f4,f5⟩:=hf it (by simp)
  obtain⟨hs,hgd,hx,es',ep',xs,hdt,hsz,pr,he0⟩:=KL I hd
  obtain⟨rfl,rfl⟩:=dict_ep hod hdt
  obtain⟨ok,ov,he⟩:=st
  rw [<-hsz] at he
  exact DT.endI (I.ok.hd hc) he ⟨o,hgd,hx,hod⟩ (by omega) λh' eb=>⟨rfl,I.turned (t':=s.toks) (λb ob hb e=>eb b ob hb e) f0 f1 f3 f4 f5⟩
 self:=λA i s Q E st h=>let ⟨_,_,e⟩:=st;PySem.W.kcp_self e h
end
def xO (td:TE):TI:=λσ H R=>td σ H λx H1=>∃d o ws,x=.ref d/\H1 d=some (.frz o (bV d ws))/\R (ItX d o ws) H1
section
variable {X:Cx}{e:Expr}{td:TE}{apos cpos:Pos}
theorem z7 {elts:List Expr}{kk:Nat}{tpos:Pos}(he:PE X e td)(hbase:attributeBase e "items" X.env (eval e X.env)=eval e X.env:=by rfl)(hline:(apos.endLine == cpos.line)=true:=by rfl):
  PI X (.Tuple elts kk tpos) (.Call (.Attribute e "items" apos) [] [] cpos) (xO td):=by
 refine⟨λpins s σ H R I h=>?_⟩
 refine wpAny_Call_method (T := "dict") (id := "dict.items") hbase rfl hline F.plainAttrs_dict F.slot_dict_items F.type_dict_items (thn (he.run pins s σ H _ I h) λu s1 ⟨x,H1,I1,rx,d,o,ws,ex,hd,q⟩=>?_)
 subst ex
 obtain rfl:u=Value.ref d:=rx
 obtain⟨hs,hgd,hx,es,ep,xs,hdt,hsz,pr,he0⟩:=KL I1 hd
 have raw:DT.Raw s1.heap d es ep:=⟨o,hgd,hx,hdt⟩
 refine⟨raw.typeIs,λb eb=>by cases eb;exact⟨o,hgd,hx.2.1⟩,?_⟩
 have I2:Inv X pins σ H1 { s1 with heap:=s1.heap.push { cls:=.type "dict_items",data:=.fields #[.ref d] } }:=I1.kept (t':=s1.toks) λb ob q=>Heap.get?_push_of_some _ q
 have fin:wpAny (model X.prog X.w) X.A (pyIter (.ref s1.heap.objs.size)) (PIE X pins σ (.Tuple elts kk tpos) R) X.xe { s1 with heap:=s1.heap.push { cls:=.type "dict_items",data:=.fields #[.ref d] } }:=by
  refine DT.iterI (d:=d) (es:=es) (ep:=ep) ⟨_,Heap.get?_push_size _ rfl,rfl,rfl⟩ (raw.push _) (pi_one (tk:=s1.toks) I2 _ (uV _ hdt) ⟨.none,.none,?_⟩ q)
  rw [<-hsz]
  exact Heap.get?_push_size _ rfl
 show wpAny _ _ (callWith cpos (.builtin "dict.items") [.ref d] [] []) _ X.xe s1
 exact method_meetsIn F.slot_dict_items F.entry_dict_items rfl (PySem.evalArgs_none ⟨rfl,raw.typeIs,F.args_dict_items_1 _,_,DT.meetsItems (es:=es) (ep:=ep) hs,⟨raw,fin⟩⟩)
/-- bM thing at d is only read from here on -/
def Mm (t:TS):TS:=λD σ H=>∃d u,H d=some u/\Mut (some u)/\∀od,t D σ (upd H d (.frz od u))
theorem LR {st:Stmt}{t:TS}(h:PS X st t):PS X st (Mm t):=⟨λpins s σ H D I hw=>by
 obtain⟨d,u,hd,mu,hw⟩:=hw
 obtain⟨od,I1⟩:=I.lock hd mu
 exact h.run pins s σ _ _ I1 (hw od)⟩
/-- len(d) -/
def Ju:List V->Hp->VK->Prop:=λxs H Q=>∃(p:Addr) (ws:List bW),xs=[.ref p]/\H p=some (bV p ws)/\(∀q∈ws,dD H q.1 q.2.1)/\Q (.int ((ws.length:Nat):Int)) H
theorem za:CallR X (.builtin "len") Ju:=by
 intro pins s σ H xs us Q I r h
 obtain⟨p,ws,rfl,hp,hk,q⟩:=h
 obtain⟨u,rfl,rx⟩:=vals1 r
 obtain rfl:u=.ref p:=rx
 obtain⟨z,hd,ys,rel,dd⟩:=PR I.hok hp hk
 have hl:ws.length=ys.length:=Paired.length rel
 refine call_len_dictH hd dd (by rw [<-hl];rw [sizeLine_eq] at z;omega) ?_
 rw [<-hl]
 exact⟨.int ((ws.length:Nat):Int),H,I.tok _,⟨_,rfl⟩,q⟩
end
end Pu
namespace Pu
variable [aZ]
open PySem PySem.Spec PyProof.Rows L2 Enc
structure rE (i:Nat)(b:SS):Prop where
 only:∀{ρ:List Slot} {s:aa} {o:Out},b.ev ρ s=some o->∃ρ' s',o=.nx ρ' s'
 ok:∀(K:Frag) {sk:Option Addr} {F0 H0 F H:Hp} {σ:L2.St} {ρ ρ':List Slot} {ak:List (List Addr)} {s s':aa} {D:Ends},Wd sk F0 H0 F H σ ρ ak s->b.ev ρ s=some (.nx ρ' s') ->
  (∀F' H' σ' aH,Same F F'->σ'[i]? = σ[i]?->Wd sk F0 H0 F' H' σ' ρ' aH s'->D.nx σ' H')->b.t K D σ H
theorem rE.of {i:Nat}{b:SS}(only:∀{ρ:List Slot} {s:aa} {o:Out},b.ev ρ s=some o->∃ρ' s',o=.nx ρ' s')(h:∀(K:Frag) (D:Ends) (σ:L2.St) (H:Hp),b.t K { D with nx:=λσ' H'=>σ'[i]? = σ[i]?->D.nx σ' H' } σ H->b.t K D σ H):rE i b:=
 ⟨only,λK {sk F0 H0 F H σ ρ ρ' ak s s' D} w he q=>h K D σ H (b.ok K w he (show jN _ sk F0 H0 F (.nx ρ' s') fromλF' H' σ' aH e w' g=>q F' H' σ' aH e g w'))⟩
theorem rE.next {i:Nat}:rE i SS.ac:=⟨λh=>by cases h;exact⟨_,_,rfl⟩,λK {sk F0 H0 F H σ ρ ρ' ak s s' D} w he q=>by
 cases he
 exact q F H σ ak (Same.refl _) rfl w⟩
theorem rE.seq {i:Nat}{a b:SS}(ha:rE i a)(hb:rE i b):rE i (SS.ab a b):=by
 refine⟨λ{ρ s o} h=>?_,λK {sk F0 H0 F H σ ρ ρ' ak s s' D} w he q=>?_⟩
 ·obtain⟨o1,h1,h2⟩:=aL h
  obtain⟨aB,s1,rfl⟩:=ha.only h1
  exact hb.only h2
 ·obtain⟨o1,h1,h2⟩:=aL he
  obtain⟨aB,s1,rfl⟩:=ha.only h1
  exact ha.ok K w h1 λF1 H1 σ1 nQ e1 g1 w1=>hb.ok K w1 h2 λF2 H2 σ2 fc e2 g2 w2=>q F2 H2 σ2 fc (e1.trans e2) (g2.trans g1) w2
theorem Bf {te:TE}{i j:Nat}(hj:j≠i){D:Ends}{σ:L2.St}{H:Hp}(h:tAsg te (gName j) { D with nx:=λσ' H'=>σ'[i]? = σ[i]?->D.nx σ' H' } σ H):tAsg te (gName j) D σ H:=by
 have E:(λ(x:V) (H1:Hp)=>((σ.set j (some x))[i]? = σ[i]?->D.nx (σ.set j (some x)) H1))=λx H1=>D.nx (σ.set j (some x)) H1:=funext λx=>funext λH1=>propext ⟨λh=>h (KcS hj),λh _=>h⟩
 have h:te σ H (λ(x:V) (H1:Hp)=>((σ.set j (some x))[i]? = σ[i]?->D.nx (σ.set j (some x)) H1)):=h
 rw [E] at h
 exact h
theorem rE.append {i j:Nat}{e:SE}:rE i (Cp j e):=rE.of (λ{ρ s o} h=>by
 unfold Cp at h
 dsimp only at h
 split at h
 ·obtain⟨x,_,h2⟩:=aL h
  split at h2
  ·cases h2;exact⟨_,_,rfl⟩
  ·cases h2
 ·cases h) λK D σ H h=>by
 have E:(λ(_:V) (H1:Hp)=>(σ[i]? = σ[i]?->D.nx σ H1))=λ_ H1=>D.nx σ H1:=funext λx=>funext λH1=>propext ⟨λh=>h rfl,λh _=>h⟩
 have h:(tBM K "list" rAppend (tVar j) (tCons (e.t K) tNil)) σ H (λ(_:V) (H1:Hp)=>(σ[i]? = σ[i]?->D.nx σ H1)):=h
 rw [E] at h
 exact h
theorem rE.sO {i j:Nat}{k v:SE}:rE i (U4 j k v):=rE.of (λ{ρ s o} h=>by
 obtain⟨x,_,h2⟩:=aL h
 split at h2
 ·obtain⟨y,_,h4⟩:=aL h2
  split at h4
  ·split at h4
   ·cases h4;exact⟨_,_,rfl⟩
   ·cases h4
  ·cases h4
 ·cases h2) λK D σ H h=>by
 have E:∀H1:Hp,(σ[i]? = σ[i]?->D.nx σ H1)=D.nx σ H1:=λH1=>propext ⟨λh=>h rfl,λh _=>h⟩
 show KU (tVar j) (k.t K) (v.t K) D σ H
 have h:KU (tVar j) (k.t K) (v.t K) { D with nx:=λσ' H'=>σ'[i]? = σ[i]?->D.nx σ' H' } σ H:=h
 unfold KU at h ⊢
 simp only [E,forall_const] at h
 exact h
end Pu
namespace Pu
variable [aZ]
open PySem PySem.Spec PyProof.Rows L2 Enc
theorem C7 {sk:Option Addr}{F H F' H':Hp}{x:Option V}{sl:Slot}{fp:List Addr}(s:Same F F')(n:Js sl=true)(h:xB sk F H x sl fp):xB sk F' H' x sl fp:=by
 cases sl with
 |emp=>exact h
 |dat d=>obtain⟨e,v,as,e1,r⟩:=h;exact⟨e,v,as,e1,r.mono s⟩
 |bf=>exact h
 |fix v=>exact h
 |fn f c q=>obtain⟨e,e1,r⟩:=h;exact⟨e,e1,s _ _ r⟩
 |ins C nm ds=>obtain⟨e,a,dx,vs,as,e1,e2,e3,r⟩:=h;exact⟨e,a,dx,vs,as,e1,s _ _ e2,e3,r.mono s⟩
 |own d=>cases n
 |aC ds o=>cases n
 |cI f=>cases n
 |eJ f=>cases n
 |g9 es=>obtain⟨e,a,od,ws,e1,e2,r⟩:=h;exact⟨e,a,od,ws,e1,s _ _ e2,Ku s r⟩
 |eI es=>cases n
 |cB es=>cases n
 |u6 d=>cases n
 |obj C a nm ds=>cases n
 |Jy o ks ds f=>cases n
 |uv B C a nm ds=>cases n
 |tV B C nm ds=>cases n
theorem pK {sk:Option Addr}{F H F' H':Hp}{σ:L2.St}{ρ:List Slot}{ak:List (List Addr)}(s:Same F F')(h:Slots sk F H σ ρ ak)(n:ρ.all Js=true):Slots sk F' H' σ ρ ak:=by
 induction h with
 |nil=>exact .nil
 |cons h r ih=>
  rw [Ka3,Ka7] at n
  exact .cons (C7 s n.1 h) (ih n.2)
theorem tu {a:Addr}:∀{l:List (List Addr)} {i:Nat},l.flatten=[]->(l.set i [a]).flatten.Sublist [a]
 |[],i,_=>by simp
 |x::l,0,h=>by
  rw [Kav] at h
  obtain⟨h1,h2⟩:=KbI.mp h
  rw [Kco,Kav,h2,KaE]
  exact Ka2.refl _
 |x::l,i+1,h=>by
  rw [Kav] at h
  obtain⟨h1,h2⟩:=KbI.mp h
  rw [Kcp,Kav,h1,Ka1]
  exact tu h2
end Pu
namespace Pu
variable [aZ]
open PySem PySem.Spec PyProof.Rows L2 Enc
theorem vN {prog:Program}{w:World}{K:Type}[DecidableEq K]{knd:HeapKind prog w K}{A:Around}{E:Value->Shared->Prop}{s:Shared}{env:Env}{keys:List (Option Expr)}{values:List Expr}{pos:Pos}{pairs:List (Sem Value×Sem Value)}{Q:Value->Shared->Prop}(hu:knd.room A)
  (hshape:(evalEachOpt keys env).zip ((evalEach values env).map λv=>do let x <-v;standAt pos;pure x)=pairs.map λp=>(some p.1,p.2)) (h0:pairs≠[]) (hlen:pairs.length<=15)
  (h:wpAny (model prog w) A (evalPairs pairs) (λvs s₁=>∃ps,CarriesH knd s₁.heap vs ps/\s₁.heap.DictOfH knd s.heap.objs.size [] /\
   ∀h' tk,h'.DictOfH knd s.heap.objs.size (storedAllH [] ps)->Heap.SameBut s.heap.objs.size s₁.heap h'->Q (.ref s.heap.objs.size) { s₁ with heap:=h',toks:=tk }) E
   { s with heap:=s.heap.push { cls:=.type "dict",data:=.dict #[] } }):
  wpAny (model prog w) A (eval (.Dict keys values pos) env) Q E s:=by
 rw [arm_eval_Dict,hshape,dictDisplay_pairs pairs h0 (by omega)]
 exact wpAny_bind (wpAny_standAt (wpAny_bind (wpAny_subDictH (knd:=knd) (Q:=λd s'=>wpAny (model prog w) A (pure (Value.ref d)) Q E s') hu hlen
  (wpAny_mono h (λvs s₁ h₁=>by obtain⟨ps,hc,hm,hq⟩:=h₁;exact⟨ps,hc,hm,λh' tk a b=>wpAny_pure (hq h' tk a b)⟩) λ_ _ e=>e))))
def P4 (tk tv:TE):TE:=λσ H Q=>∀p,H p=none->tk σ (upd H p (bV p [])) λx H1=>tv σ H1 λv H2=>∃b k,x=.ref b/\H2 p=some (bV p [])/\dD H2 k b/\Q (.ref p) (upd H2 p (bV p [(k,b,v)]))
theorem z6 {X:Cx}{pos:Pos}{k v:Expr}{tk tv:TE}(hu:X.A.units+65<cLine)(hk:PE X k tk)(hv:PE X v tv):PE X (.Dict [some k] [v] pos) (P4 tk tv):=by
 refine⟨λpins s σ H Q I q=>?_⟩
 have hn:=I.hok.fresh (Kat s.heap.objs.size)
 have I1:=I.laid (a:=s.heap.objs.size) (o:=bV s.heap.objs.size []) (h':=s.heap.push { cls:=.type "dict",data:=.dict #[] }) (t':=s.toks) (λ_ _ q=>Heap.get?_push_of_some _ q) (Kat _) (oK s.heap I.big)
 refine vN (knd:=nestedKind X.prog X.w) (show X.A.units+8<cLine by omega) (pairs:=pairTrees [some k] [v] X.env pos) (zip_pairTrees [some k] [v] X.env pos rfl rfl) (by unfold pairTrees;exact nofun) (by unfold pairTrees;exact (by decide:1<=15)) (pairTrees_cons_walk (thn (hk.run pins _ σ _ _ I1 (q _ hn)) λu s1 ⟨x,H1,I2,rx,q1⟩=>thn (hv.run pins s1 σ H1 _ I2 q1) λw2 s2 ⟨y,H2,I3,ry,b,kk,ex,e,hb,q2⟩=>pairTrees_nil_walk ?_))
 subst ex
 obtain rfl:u=Value.ref b:=rx
 obtain⟨z,hd,xs0,r0,dd⟩:=PR I3.hok e (λp hp=>nomatch hp)
 cases r0
 refine⟨[(kk,b,w2)],⟨rfl,rfl,PV I3.hok hb,True.intro⟩,dd,λh' tk' dd' hs=>⟨.ref s.heap.objs.size,_,?_,rfl,q2⟩⟩
 obtain⟨o,es,ep,h1,h2,h3,h4,_,h5⟩:=dd'
 have he:storedAllH [] [(kk,b,w2)]=[(kk,b,w2)]:=rfl
 rw [he] at h4 h5
 have fn:∀x∈[(kk,b,w2)],lE x.1:=λx hx=>by rw [Kae.mp hx];exact hb.FO
 exact d_write I3 (by rw [e];exact True.intro) hs ⟨o,h1⟩ (JR.ok ⟨by rw [sizeLine_eq];show 1<=_;omega,hd,[(kk,b,w2)],.cons ⟨rfl,rfl,ry⟩ .nil,o,es,ep,h1,h2,h3,by rw [h4];exact (gxy fn).symm,h5⟩)
structure Ti where
 l:List Int
deriving DecidableEq
instance:Inhabited Ti:=⟨⟨[]⟩⟩
instance:Enc Ti:=⟨λt=>.tuple (t.l.map .int)⟩
abbrev Lk:=T3 Ti Ti Int
theorem mZ:∀ns:List Int,ur (ns.map .int)=some ns
 |[]=>rfl
 |n::ns=>by
  rw [Kai]
  unfold ur
  rw [mZ ns];rfl
theorem Uv:∀{xs ys:List Int},xs.map NestedKey.num=ys.map NestedKey.num->xs=ys
 |[],[],_=>rfl
 |[],_::_,h=>by cases h
 |_::_,[],h=>by cases h
 |x::xs,y::ys,h=>by
  rw [Kai,Kai] at h
  injection h with h1 h2
  injection h1 with h1
  rw [h1,Uv h2]
instance:bO Lk:=⟨λt=>.tup [.tup (t.x.l.map .num),.tup (t.y.l.map .num),.num t.z],λt=>by
 show (cQ [.tuple (t.x.l.map .int),.tuple (t.y.l.map .int),.int t.z]).map NestedKey.tup=_
 unfold cQ cQ cQ cQ zI
 simp only [mZ,De]
 rfl,λx y h=>by
 obtain⟨x1,x2,x3⟩:=x
 obtain⟨y1,y2,y3⟩:=y
 injection h with h
 injection h with h1 h
 injection h with h2 h
 injection h with h3 h
 injection h1 with h1
 injection h2 with h2
 injection h3 with h3
 obtain⟨l1⟩:=x1
 obtain⟨l2⟩:=y1
 obtain⟨l3⟩:=x2
 obtain⟨l4⟩:=y2
 have e1:l1=l2:=Uv h1
 have e2:l3=l4:=Uv h2
 subst e1 e2
 have e3:x3=y3:=h3
 rw [e3]⟩
section
variable {ρ aB cY:List Slot}{s s1 s2 s3:aa}{e k v:SE}{p:SP}{i:Nat}{w w1 w2:Bool}
theorem JE.Rf {xs:List Int}(h:JE e ρ s xs s1 w1):JE (SE.Rc e) ρ s (Ti.mk xs) s1 true:=by
 obtain⟨_,h,_⟩:=h
 refine⟨fM (xs.map PyData.int),?_,λ_=>Y_ xs⟩
 show (e.ev ρ s).bind _=_
 rw [h];rfl
end
end Pu
namespace Pu
variable [aZ]
open PySem PySem.Spec PyProof.Rows L2 Enc
theorem rE.set {i j:Nat}{e:SE}(hj:j≠i):rE i (SS.set j e):=rE.of (λh=>by
 obtain⟨x,_,h2⟩:=aL h
 cases h2;exact⟨_,_,rfl⟩) λK D σ H h=>Bf hj h
end Pu
namespace Pu
variable [aZ]
open PySem PySem.Spec PyProof.Rows L2 Enc
abbrev wK:=NestedKey×PyData×PyData
def b7 (es:List wK)(j:NestedKey):Option PyData:=(es.find? λe=>decide (e.1=j)).map λe=>e.2.2
def iw (es:List wK)(j:NestedKey)(kd vd:PyData):List wK:=if (b7 es j).isSome then es.map (λe=>if e.1=j then (e.1,e.2.1,vd) else e) else es++[(j,kd,vd)]
theorem Zs {e:wK}{es:List wK}{j:NestedKey}:b7 (e::es) j=if e.1=j then some e.2.2 else b7 es j:=by
 unfold b7
 rw [Kce]
 by_cases c:e.1=j
 ·rw [if_pos c,decide_eq_true c];rfl
 ·rw [if_neg c,decide_eq_false c]
theorem Nm {F:Hp}{ws:List bW}{es:List wK}(h:Paired (gE F) ws es)(j:NestedKey):dY F (dz ws j) (b7 es j):=by
 induction h with
 |nil=>exact True.intro
 |@cons p e ps es h t ih=>
  rw [Er,Zs]
  obtain⟨h1,_,_,as,r⟩:=h
  by_cases c:p.1=j
  ·rw [if_pos c,if_pos (h1.symm.trans c)];exact⟨as,r⟩
  ·rw [if_neg c,if_neg (λz=>c (h1.trans z))];exact ih
theorem IG {F:Hp}{ws:List bW}{es:List wK}(h:Paired (gE F) ws es):∀p∈ws,dD F p.1 p.2.1:=by
 induction h with
 |nil=>intro p hp;exact nomatch hp
 |@cons p e ps es h t ih=>
  intro q hq
  rcases Kah.mp hq with z|z
  ·rw [z];exact h.2.1
  ·exact ih q z
theorem BQ {F:Hp}{ws:List bW}{es:List wK}(h:Paired (gE F) ws es){i:Nat}{e:wK}(he:es[i]? = some e):∃p,ws[i]? = some p/\gE F p e:=by
 induction h generalizing i with
 |nil=>cases he
 |@cons p e' ps es h t ih=>
  cases i with
  |zero=>cases he;exact⟨p,rfl,h⟩
  |succ i=>exact ih he
theorem ku {α β:Type}{R:α->β->Prop}{xs:List α}{ys:List β}(h:Paired R xs ys){x:α}{y:β}(r:R x y):Paired R (xs++[x]) (ys++[y]):=by
 induction h with
 |nil=>exact .cons r .nil
 |cons h _ ih=>exact .cons h ih
theorem BR {F:Hp}{ws:List bW}{es:List wK}(h:Paired (gE F) ws es){j:NestedKey}{b:Addr}{kd vd:PyData}{v:V}{as bs:List Addr}(hb:dD F j b)(rk:Rp F (.ref b) kd as)(rv:Rp F v vd bs):Paired (gE F) (fH ws j b v) (iw es j kd vd):=by
 have e:=OQ (Nm h j)
 unfold fH iw
 rw [e]
 by_cases c:(b7 es j).isSome=true
 ·rw [if_pos c,if_pos c]
  clear c e
  induction h with
  |nil=>exact .nil
  |@cons p e ps es h t ih=>
   rw [Kai,Kai]
   refine .cons ?_ ih
   obtain⟨h1,h2,h3,h4⟩:=h
   by_cases c:p.1=j
   ·rw [if_pos c,if_pos (h1.symm.trans c)];exact⟨h1,h2,h3,bs,rv⟩
   ·rw [if_neg c,if_neg (λz=>c (h1.trans z))];exact⟨h1,h2,h3,h4⟩
 ·rw [if_neg c,if_neg c]
  exact ku h ⟨rfl,hb,⟨as,rk⟩,bs,rv⟩
theorem Wd.putK {sk:Option Addr}{F0 H0 F H:Hp}{σ:L2.St}{ρ:List Slot}{ak:List (List Addr)}{s:aa}{i:Nat}{a:Addr}{gn:List bW}{es:List wK}(w:Wd sk F0 H0 F H σ ρ ak s)(e1:σ[i]? = some (some (.ref a)))(e2:ak[i]? = some [a])(hF:F a=none)
  (hk:Paired (gE F) gn es) {Rl:List bW} (hP:H a=some (bV a Rl)):Wd sk F0 H0 F (L2.upd H a (bV a gn)) σ (ρ.set i (.eI es)) ak s:=by
 have fa:a∈ak.flatten:=Kaw.mpr ⟨_,Kar e2,Kaa⟩
 obtain⟨a0,a1,a2⟩:=w.bT a fa
 obtain⟨n1,n2⟩:=vm w.dX e2
 have n3:=Kal.mp n1
 have na:a∉(ak.set i []).flatten:=λm=>n3.2.2 a Kaa a m rfl
 have st':Step sk F0 H0 F (L2.upd H a (bV a gn)):=by
  refine⟨w.st.sub,λb u e=>?_,λb u hb e hs=>?_,λb h=>?_,w.st.new⟩
  ·rw [upd_ne (λz=>by rw [z,hF] at e;cases e)];exact w.st.sub' b u e
  ·rw [upd_ne (λz=>by rw [z,a0] at e;cases e)];exact w.st.fr b u hb e
  ·by_cases z:b=a
   ·rw [z,upd_same];exact nofun
   ·rw [upd_ne z];exact w.st.dm b h
 have dj:bA sk F (L2.upd H a (bV a gn)) s:=⟨λb e=>⟨by rw [upd_ne (λz=>a2 (by rw [<-z];exact e))];exact (w.bh b e).1,(w.bh b e).2⟩,Es w.bh.tab hP Ks⟩
 have sl:=(w.slots.drop (i:=i)).q7 (a:=a) (o:=bV a gn) na
 have sl2:=sl.fill (sl:=.eI es) (fp:=[a]) e1 ⟨a,gn,rfl,upd_same,hF,hk,rfl⟩
 rw [KaI,KaI,Pj e2] at sl2
 refine⟨st',dj,sl2,w.dX,λb m=>?_⟩
 have:=w.bT b m
 refine⟨this.1,?_,this.2.2⟩
 by_cases z:b=a
 ·rw [z,upd_same];exact nofun
 ·rw [upd_ne z];exact this.2.1
/-- d[k]=v -/
def ijt (i:Nat)(k v:SE):SS where
 t:=λK=>KU (tVar i) (k.t K) (v.t K)
 ev:=λρ s=>(v.ev ρ s).bind λx=>match ρ[i]? with
  |some (.eI f)=>(k.ev ρ x.2).bind λy=>match cj y.1.1 with
   |some j=>if f.length<100000 then some (.nx (ρ.set i (.eI (iw f j y.1.1 x.1.1))) y.2) else none
   |none=>none
  |_=>none
 ok:=by
  intro K sk F0 H0 F H σ ρ ak s out D w h q
  obtain⟨⟨x,s1⟩,h1,h2⟩:=aL h
  dsimp only at h2
  split at h2
  ·rename_i f cz
   obtain⟨⟨⟨y,fl⟩,s2⟩,h3,h4⟩:=aL h2
   dsimp only at h4
   split at h4
   ·rename_i j ej
    split at h4
    ·rename_i hl
     cases h4
     refine v.ok K w.pre h1 λvv F1 H1 as st1 k1 r1 f1=>?_
     have w1:=w.next st1 k1
     obtain⟨xv,fp,e1,e2,a,ws,rfl,hH,hF,hr,rfl⟩:=w1.slots.get cz
     refine⟨.ref a,e1,?_⟩
     refine k.ok K w1.pre h3 λkv F2 H2 bs st2 k2 r2 f2=>?_
     have w2:=w1.next st2 k2
     obtain⟨xv2,YR,sP,Et,a2,pY,ez,h_,xH,hr2,rfl⟩:=w2.slots.get cz
     rw [e1] at sP
     have KC:a2=a:=by
      have:=Option.some.inj sP
      subst this
      have:=Option.some.inj ez
      injection this with this
      exact this.symm
     subst KC
     obtain⟨b,rfl,hb⟩:=r2.cj ej
     have AN:pY.length=f.length:=Paired.length hr2
     refine⟨a2,b,pY,j,rfl,rfl,h_,λp hp=>(IG hr2 p hp).mono st2.sub',hb.mono st2.sub',by rw [AN];exact Ka4 hl (by decide),?_⟩
     exact q F2 _ σ ak (st1.sub.trans st2.sub) (w2.putK (gn:=fH pY j b vv) (es:=iw f j y x.1) e1 Et xH (BR hr2 hb r2 (r1.mono st2.sub)) h_)
    ·cases h4
   ·cases h4
  ·cases h2
/-- k not in d -/
def Vb (i:Nat)(k:SE):SE where
 t:=λK=>TZ (k.t K) (tVar i)
 ev:=λρ s=>match ρ[i]? with
  |some (.eI f)=>(k.ev ρ s).bind λy=>match cj y.1.1 with
   |some j=>some ((.bool (!(b7 f j).isSome),true),y.2)
   |none=>none
  |_=>none
 ok:=by
  intro K sk F H σ ρ ak s vl s' Q p h q
  dsimp only at h
  split at h
  ·rename_i f cz
   obtain⟨⟨⟨y,fl⟩,s2⟩,h3,h4⟩:=aL h
   dsimp only at h4
   split at h4
   ·rename_i j ej
    cases h4
    obtain⟨xv,fp,e1,e2,a,ws,rfl,hH,hF,hr,rfl⟩:=p.slots.get cz
    refine k.ok K p h3 λkv F2 H2 bs st2 k2 r2 f2=>?_
    have fa:a∈ak.flatten:=Kaw.mpr ⟨_,Kar e2,Kaa⟩
    have h_:H2 a=some (bV a ws):=st2.fr a _ (λz=>p.jH a z fa) hH
    obtain⟨b,rfl,hb⟩:=r2.cj ej
    refine⟨.ref a,e1,a,b,ws,j,rfl,rfl,h_,λp hp=>((IG hr p hp).mono st2.sub).mono st2.sub',hb.mono st2.sub',?_⟩
    rw [OQ (Nm hr j)]
    exact q _ F2 H2 [] st2 k2 (.bl _) .nil
   ·cases h4
  ·cases h
/-- d[k] -/
def Ve (i:Nat)(k:SE):SE where
 t:=λK=>UQ (tVar i) (k.t K)
 ev:=λρ s=>match ρ[i]? with
  |some (.eI f)=>(k.ev ρ s).bind λy=>match cj y.1.1 with
   |some j=>(b7 f j).map λd=>((d,false),y.2)
   |none=>none
  |_=>none
 ok:=by
  intro K sk F H σ ρ ak s vl s' Q p h q
  dsimp only at h
  split at h
  ·rename_i f cz
   obtain⟨⟨⟨y,fl⟩,s2⟩,h3,h4⟩:=aL h
   dsimp only at h4
   split at h4
   ·rename_i j ej
    obtain⟨d,h5,h6⟩:=Kap.mp h4
    cases h6
    obtain⟨xv,fp,e1,e2,a,ws,rfl,hH,hF,hr,rfl⟩:=p.slots.get cz
    refine⟨.ref a,e1,?_⟩
    refine k.ok K p h3 λkv F2 H2 bs st2 k2 r2 f2=>?_
    have hz:=Nm hr j
    rw [h5] at hz
    obtain⟨v,as,hv,rv⟩:=T6 hz
    have fa:a∈ak.flatten:=Kaw.mpr ⟨_,Kar e2,Kaa⟩
    have h_:H2 a=some (bV a ws):=st2.fr a _ (λz=>p.jH a z fa) hH
    obtain⟨b,rfl,hb⟩:=r2.cj ej
    exact⟨a,b,ws,j,v,rfl,rfl,h_,λp hp=>((IG hr p hp).mono st2.sub).mono st2.sub',hb.mono st2.sub',hv,q v F2 H2 as st2 k2 (rv.mono st2.sub) .no⟩
   ·cases h4
  ·cases h
/-- len(d) -/
def SE.GK (i:Nat):SE where
 t:=λK=>tCB Ju (tCons (tVar i) tNil)
 ev:=λρ s=>match ρ[i]? with
  |some (.eI f)=>some ((.int f.length,true),s)
  |_=>none
 ok:=by
  intro K sk F H σ ρ ak s vl s' Q p h q
  dsimp only at h
  split at h
  ·rename_i f e
   cases h
   obtain⟨x,fp,e1,e2,a,ws,rfl,hH,hF,hr,rfl⟩:=p.slots.get e
   refine⟨.ref a,e1,a,ws,rfl,hH,λz hz=>(IG hr z hz).mono p.sub,?_⟩
   rw [show ws.length=f.length from Paired.length hr]
   exact q _ F H [] (.refl p.sub) p.bh (.int _) .nil
  ·cases h
/-- x={} among bM targets -/
def SP.LJ (i:Nat)(r:SP):SP where
 t:=λK=>tCons PN (r.t K)
 ts:=i::r.ts
 ev:=λρ cN s=>r.ev ρ (cN.set i (.eI [])) s
 ok:=by
  intro K sk F0 H0 F H σ p_ ρ cN je ak cU s s' Q p w h q a na
  have sr:bw F H F (L2.upd H a (bV a [])):=.raw (sk:=sk) w.st.sub' na
  have w1:=w.next (sr.any (sk:=sk)) (w.bh.keep sr)
  have wq:H0 a=none:=by
   cases q:H0 a with
   |none=>rfl
   |some u=>exact absurd na (w.st.dm a (by rw [q];exact nofun))
  have nd:([a]++cU.flatten).Nodup:=Kal.mpr ⟨by simp,w.dX,λb mb c mc z=>by
   have:b=a:=by simpa using mb
   subst z
   exact (w.bT b mc).2.1 (by rw [this];exact na)⟩
  obtain⟨m1,m2⟩:=u7 (i:=i) nd
  have wa:Wd sk F0 H0 F (L2.upd H a (bV a [])) (p_.set i (some (.ref a))) (cN.set i (.eI [])) (cU.set i [a]) s:=by
   refine⟨w1.st,w1.bh,w1.slots.set ⟨a,[],rfl,upd_same,w.st.sub'.free na,.nil,rfl⟩,m1,λb m=>?_⟩
   rcases m2 b m with z|z
   ·have:b=a:=by simpa using z
    subst this
    exact⟨wq,by rw [upd_same];exact nofun,fJ w.bh na⟩
   ·exact w1.bT b z
  refine r.ok K (p.next (sr.any (sk:=sk)) (p.bh.keep sr)) wa h λvs F2 H2 fv sF w2 hl=>?_
  exact q (.ref a::vs) F2 H2 fv sF w2 (by rw [Kad,Kad,hl])
/-- x={} -/
def SS.aqQ (i:Nat):SS where
 t:=λ_=>tAsg PN (gName i)
 ev:=λρ s=>some (.nx (ρ.set i (.eI [])) s)
 ok:=by
  intro K sk F0 H0 F H σ ρ ak s out D w h q a na
  cases h
  have:=(SP.LJ i SP.nil).ok K (Q:=λvs H'=>∃v,vs=[v]/\D.nx (σ.set i (some v)) H') w.pre w rfl λvs F1 H1 fv sF w1 hl=>by
   match vs,hl with
   |[v],_=>exact⟨v,rfl,q F1 H1 _ fv sF w1⟩
  obtain⟨v,e,z⟩:=this a na
  cases e
  exact z
/-- x={k: v} among bM targets -/
def SP.GL (i:Nat)(k v:SE)(r:SP):SP where
 t:=λK=>tCons (P4 (k.t K) (v.t K)) (r.t K)
 ts:=i::r.ts
 ev:=λρ cN s=>(k.ev ρ s).bind λx=>(v.ev ρ x.2).bind λy=>match cj x.1.1 with
  |some j=>r.ev ρ (cN.set i (.eI [(j,x.1.1,y.1.1)])) y.2
  |none=>none
 ok:=by
  intro K sk F0 H0 F H σ p_ ρ cN je ak cU s s' Q p w h q a na
  obtain⟨⟨⟨x,fx⟩,s1⟩,h1,h⟩:=aL h
  obtain⟨⟨⟨y,fy⟩,s2⟩,h2,h⟩:=aL h
  dsimp only at h
  split at h
  ·rename_i j ej
   have sr:bw F H F (L2.upd H a (bV a [])):=.raw (sk:=sk) w.st.sub' na
   have p1:=p.next (sr.any (sk:=sk)) (p.bh.keep sr)
   refine k.ok K p1 h1 λvk F1 H1 as1 st1 k1 r1 g1=>?_
   have p2:=p1.next st1 k1
   refine v.ok K p2 h2 λvv F2 H2 as2 st2 k2 r2 g2=>?_
   obtain⟨b,rfl,hb⟩:=r1.cj ej
   have np:sk≠some a:=fJ w.bh na
   have iz:=st1.trans st2
   have AL:H2 a=some (bV a []):=iz.fr a _ np upd_same
   have nF:F a=none:=w.st.sub'.free na
   have LD:F2 a=none:=by
    cases z:F2 a with
    |none=>rfl
    |some u=>
     rcases iz.new a u z with z|z
     ·rw [nF] at z;cases z
     ·rw [upd_same] at z;cases z
   refine⟨b,j,rfl,AL,hb.mono (st2.sub.trans st2.sub'),?_⟩
   have st:Step sk F H F2 (L2.upd H2 a (bV a [(j,b,vv)])):=by
    refine⟨iz.sub,λc u e=>?_,λc o hc e hs=>?_,λc e=>?_,λc u e=>?_⟩
    ·rw [upd_ne (λz=>by rw [z,LD] at e;cases e)];exact iz.sub' c u e
    ·have z:c≠a:=λz=>by rw [z,na] at e;cases e
     rw [upd_ne z]
     exact iz.fr c o hc (by rw [upd_ne z];exact e) hs
    ·have z:c≠a:=λz=>e (by rw [z];exact na)
     rw [upd_ne z]
     exact iz.dm c (by rw [upd_ne z];exact e)
    ·rcases iz.new c u e with z|z
     ·exact .inl z
     ·have zz:c≠a:=λzz=>by rw [zz,LD] at e;cases e
      rw [upd_ne zz] at z
      exact .inr z
   have dj:bA sk F2 (L2.upd H2 a (bV a [(j,b,vv)])) s2:=⟨λc e=>⟨by rw [upd_ne (λz=>np (by rw [<-z];exact e))];exact (k2 c e).1,(k2 c e).2⟩,Es k2.tab AL Ks⟩
   have w1:=w.next st dj
   have wq:H0 a=none:=by
    cases q:H0 a with
    |none=>rfl
    |some u=>exact absurd na (w.st.dm a (by rw [q];exact nofun))
   have nd:([a]++cU.flatten).Nodup:=Kal.mpr ⟨by simp,w.dX,λb mb c mc z=>by
    have:b=a:=by simpa using mb
    subst z
    exact (w.bT b mc).2.1 (by rw [this];exact na)⟩
   obtain⟨m1,m2⟩:=u7 (i:=i) nd
   have wa:Wd sk F0 H0 F2 (L2.upd H2 a (bV a [(j,b,vv)])) (p_.set i (some (.ref a))) (cN.set i (.eI [(j,x,y)])) (cU.set i [a]) s2:=by
    refine⟨w1.st,w1.bh,w1.slots.set ⟨a,[(j,b,vv)],rfl,upd_same,LD,.cons ⟨rfl,hb.mono st2.sub,⟨as1,r1.mono st2.sub⟩,as2,r2⟩ .nil,rfl⟩,m1,λb m=>?_⟩
    rcases m2 b m with z|z
    ·have:b=a:=by simpa using z
     subst this
     exact⟨wq,by rw [upd_same];exact nofun,np⟩
    ·exact w1.bT b z
   refine r.ok K (p.next st dj) wa h λvs F3 H3 fv sF w2 hl=>?_
   exact q (.ref a::vs) F3 H3 fv (st.sub.trans sF) w2 (by rw [Kad,Kad,hl])
  ·cases h
/-- x={k: v} -/
def SS.GL (i:Nat)(k v:SE):SS where
 t:=λK=>tAsg (P4 (k.t K) (v.t K)) (gName i)
 ev:=λρ s=>((SP.GL i k v SP.nil).ev ρ ρ s).map λx=>.nx x.1 x.2
 ok:=by
  intro K sk F0 H0 F H σ ρ ak s out D w h q
  obtain⟨⟨ρ',s'⟩,h1,rfl⟩:=Kap.mp h
  have key:=(SP.GL i k v SP.nil).ok K (Q:=λvs H'=>∃v,vs=[v]/\D.nx (σ.set i (some v)) H') w.pre w h1 λvs F1 H1 fv sF w1 hl=>by
   match vs,hl with
   |[v],_=>exact⟨v,rfl,q F1 H1 _ fv sF w1⟩
  have E:(λ(x:V) (H':Hp)=>∃v,[x]=[v]/\D.nx (σ.set i (some v)) H')=λx H'=>D.nx (σ.set i (some x)) H':=funext λx=>funext λH'=>propext ⟨λ⟨v,e,z⟩=>by cases e;exact z,λz=>⟨x,rfl,z⟩⟩
  have key:P4 (k.t K) (v.t K) σ H (λ(x:V) (H':Hp)=>∃v,[x]=[v]/\D.nx (σ.set i (some v)) H'):=key
  rw [E] at key
  exact key
/-- bM dict is only read from here on -/
def SS.frzK (i:Nat)(b:SS):SS where
 t:=λK=>Mm (b.t K)
 ev:=λρ s=>match ρ[i]? with
  |some (.eI es)=>b.ev (ρ.set i (.g9 es)) s
  |_=>none
 ok:=by
  intro K sk F0 H0 F H σ ρ ak s out D w h q
  dsimp only at h
  split at h
  ·rename_i es cz
   obtain⟨x,fp,e1,e2,a,ws,rfl,hH,hF,hr,rfl⟩:=w.slots.get cz
   have fa:a∈ak.flatten:=Kaw.mpr ⟨_,Kar e2,Kaa⟩
   obtain⟨a0,a1,a2⟩:=w.bT a fa
   obtain⟨n1,n2⟩:=vm w.dX e2
   have n3:=Kal.mp n1
   have na:a∉(ak.set i []).flatten:=λm=>n3.2.2 a Kaa a m rfl
   refine⟨a,bV a ws,hH,True.intro,λod=>?_⟩
   have sF:Same F (L2.upd F a (.frz od (bV a ws))):=λb u e=>by rw [upd_ne (ne_of_none e hF)];exact e
   have st':Step sk F0 H0 (L2.upd F a (.frz od (bV a ws))) (L2.upd H a (.frz od (bV a ws))):=by
    refine⟨w.st.sub.trans sF,λb u e=>?_,λb o hb e hs=>?_,λb h=>?_,λb u e=>?_⟩
    ·by_cases z:b=a
     ·rw [z,upd_same] at e ⊢;exact e
     ·rw [upd_ne z] at e ⊢;exact w.st.sub' b u e
    ·rw [upd_ne (λz=>by rw [z,a0] at e;cases e)];exact w.st.fr b o hb e
    ·by_cases z:b=a
     ·rw [z,upd_same];exact nofun
     ·rw [upd_ne z];exact w.st.dm b h
    ·by_cases z:b=a
     ·rw [z];exact .inr a0
     ·rw [upd_ne z] at e;exact w.st.new b u e
   have qY:bA sk F (L2.upd H a (.frz od (bV a ws))) s:=⟨λb e=>⟨by rw [upd_ne (λz=>a2 (by rw [<-z];exact e))];exact (w.bh b e).1,(w.bh b e).2⟩,Es w.bh.tab hH Ks⟩
   have dj:bA sk (L2.upd F a (.frz od (bV a ws))) (L2.upd H a (.frz od (bV a ws))) s:=⟨λb e=>⟨(qY b e).1,by rw [upd_ne (λz=>a2 (by rw [<-z];exact e))];exact (qY b e).2⟩,⟨qY.tab.t,λb ps z=>by
    by_cases zz:b=a
    ·rw [zz,upd_same] at z;cases z
    ·rw [upd_ne zz] at z;exact qY.tab.n b ps z⟩⟩
   have Q2:=(w.slots.drop (i:=i)).q7 (a:=a) (o:=.frz od (bV a ws)) na
   have sl2:=Q2.upd (a:=a) (o:=.frz od (bV a ws)) na hF
   have DW:=sl2.fill (sl:=.g9 es) (fp:=[]) e1 ⟨rfl,a,od,ws,rfl,upd_same,Ku sF hr⟩
   rw [KaI,KaI] at DW
   have w':Wd sk F0 H0 (L2.upd F a (.frz od (bV a ws))) (L2.upd H a (.frz od (bV a ws))) σ (ρ.set i (.g9 es)) (ak.set i []) s:=⟨st',dj,DW,n3.2.1,λb m=>by
    have hb:=w.bT b (ou.mem m)
    refine⟨hb.1,?_,hb.2.2⟩
    rw [upd_ne (λz=>na (by rw [<-z];exact m))];exact hb.2.1⟩
   exact b.ok K w' h (q.mono sF)
  ·cases h
/-- for k,v in d.items() -/
def ijl (i:Nat):SI where
 t:=λK=>xO (tVar i)
 ev:=λρ s=>match ρ[i]? with
  |some (.g9 es)=>some (es.map (λe=>.tuple [e.2.1,e.2.2]),s)
  |_=>none
 ok:=by
  intro K sk F H σ ρ ak s ds s' R p h q
  dsimp only at h
  split at h
  ·rename_i es cz
   cases h
   obtain⟨x,fp,e1,e2,z,a,od,ws,e3,ha,hr⟩:=p.slots.get cz
   refine⟨.ref a,by rw [e1,e3],a,od,ws,rfl,p.sub _ _ ha,q _ F H (.refl p.sub) p.bh λF2 H2 n s1 s2=>?_⟩
   have hx:H2 a=some (.frz od (bV a ws)):=s2 _ _ (s1 _ _ ha)
   have AN:ws.length=es.length:=Paired.length hr
   refine⟨λd hd=>?_,λhl=>⟨hx,by rw [AN];rw [Kag] at hl;exact hl⟩⟩
   obtain⟨e,he,rfl⟩:∃e,es[n]? = some e/\d=.tuple [e.2.1,e.2.2]:=by
    rw [KaY] at hd
    obtain⟨e,h1,h2⟩:=Kap.mp hd
    exact⟨e,h1,h2.symm⟩
   obtain⟨pe,hp,h1,h2,⟨as,rk⟩,bs,rv⟩:=BQ hr he
   have hlt:n<ws.length:=(List.getElem?_eq_some_iff.mp hp).1
   refine⟨⟨hx,hlt⟩,λy H4 hz=>?_⟩
   obtain⟨T,p1,hp1,rfl,nT,rfl⟩:=hz
   rw [hp] at hp1
   cases hp1
   have sa:bw F2 H2 (upd F2 T (.tup [.ref pe.2.1,pe.2.2])) (upd H2 T (.tup [.ref pe.2.1,pe.2.2])):=.alloc s2 nT
   exact⟨_,_,sa,.tup upd_same (.cons ((rk.mono s1).mono sa.sub) (.cons ((rv.mono s1).mono sa.sub) .nil))⟩
  ·cases h
end Pu
namespace Pu
open PySem PySem.Spec PyProof.Rows L2 Enc
theorem firstLt_map (e r:Nat->Bool)(fin:Bool):∀L:List Nat,SeqAt.firstLt e r fin (L.map Nat.succ)=SeqAt.firstLt (λj=>e (j+1)) (λj=>r (j+1)) fin L
 |[]=>rfl
 |j::L=>by
  rw [Kai]
  unfold SeqAt.firstLt
  rw [firstLt_map e r fin L]
theorem j8:∀ns ms:List Int,SeqAt.firstLt (λj=>ns.getD j 0 == ms.getD j 0) (λj=>decide (ns.getD j 0<ms.getD j 0)) (decide (ns.length<ms.length)) (KaC (min ns.length ms.length))=HT.lexLt ns ms
 |[],[]=>rfl
 |[],m::ms=>by
  show SeqAt.firstLt _ _ _ (KaC (min 0 _))=true
  rw [Nat.zero_min]
  show decide (0<(m::ms).length)=true
  exact decide_eq_true (Nat.succ_pos _)
 |n::ns,[]=>by
  show SeqAt.firstLt _ _ _ (KaC (min _ 0))=false
  rw [Nat.min_zero]
  show decide ((n::ns).length<0)=false
  exact decide_eq_false (Nat.not_lt_zero _)
 |n::ns,m::ms=>by
  have ih:=j8 ns ms
  have e1:min (n::ns).length (m::ms).length=min ns.length ms.length+1:=by rw [Kad,Kad];omega
  have e2:decide ((n::ns).length<(m::ms).length)=decide (ns.length<ms.length):=by rw [Kad,Kad];exact decide_eq_decide.mpr (by omega)
  rw [e1,e2,KbH,HT.lexLt_cons,<-ih]
  show (if ((n == m)=true) then SeqAt.firstLt _ _ _ (Kaf Nat.succ _) else decide (n<m))=_
  rw [firstLt_map]
  by_cases c:n=m
  ·rw [if_pos c,if_pos (by rw [c];exact beq_self_eq_true m)];rfl
  ·rw [if_neg c,if_neg (by simpa using c)]
def Jv (K:PySem.W.Frag):R2:=λx y H Q=>∃a b ns ms,x=.ref a/\y=.ref b/\SqL K H a (ns.map V.int)/\SqL K H b (ms.map V.int)/\Q (.bl (HT.lexLt ns ms)) H
theorem U0 {ns:List Int}{us:List Value}(r:Vals (ns.map V.int) us){j:Nat}(h:j<us.length):∃t,us[j]=.int (ns.getD j 0) t/\j<ns.length:=by
 have hl:=r.length
 rw [Kag] at hl
 have hj:j<ns.length:=by omega
 have hx:(ns.map V.int)[j]? = some (.int (ns.getD j 0)):=by
  rw [KaY,Kau hj,KbR,Kau hj];rfl
 obtain⟨u,hu,t,e⟩:=r.get hx
 rw [Kau h] at hu
 exact⟨t,(Option.some.inj hu).trans e,hj⟩
theorem G6 {X:Cx}(hu:X.A.units<cLine):OpR X (compareOp .Lt) (Jv X.K):=by
 intro pins s σ H x y v u Q I rx ry h
 obtain⟨a,b,ns,ms,rfl,rfl,ha,hb,q⟩:=h
 cases rx
 cases ry
 obtain⟨its,r1,p1,_⟩:=I.list ha
 obtain⟨its2,r2,p2,_⟩:=I.list hb
 have l1:=r1.length
 have l2:=r2.length
 rw [Kag] at l1 l2
 have key:=SeqAt.RcLt.lists (A:=X.A) (s:=s) (e:=λj=>ns.getD j 0 == ms.getD j 0) (r:=λj=>decide (ns.getD j 0<ms.getD j 0)) p1.isList p2.isList hu (λj h1 h2=>by
   obtain⟨t,e,_⟩:=U0 r1 (j:=j) (by simpa using h1)
   obtain⟨t2,e2,_⟩:=U0 r2 (j:=j) (by simpa using h2)
   have e:its.toArray[j]=.int (ns.getD j 0) t:=e
   have e2:its2.toArray[j]=.int (ms.getD j 0) t2:=e2
   rw [e,e2]
   exact SeqAt.EqAt.int_int _ _ _ _) (λj h1 h2 _=>by
   obtain⟨t,e,_⟩:=U0 r1 (j:=j) (by simpa using h1)
   obtain⟨t2,e2,_⟩:=U0 r2 (j:=j) (by simpa using h2)
   have e:its.toArray[j]=.int (ns.getD j 0) t:=e
   have e2:its2.toArray[j]=.int (ms.getD j 0) t2:=e2
   rw [e,e2]
   exactλprog w E Q h=>PyProof.Rows.lt_int h)
 rw [show its.toArray.size=ns.length by rw [Kbz];omega,show its2.toArray.size=ms.length by rw [Kbz];omega,j8] at key
 exact key _ _ _ _ ⟨.bl (HT.lexLt ns ms),H,I,rfl,q⟩
variable [aZ]
def QC (d e:PyData):Option Vl:=match d,e with
 |.list ds,.list es=>(xC ds).bind λns=>(xC es).map λms=>(.bool (HT.lexLt ns ms),true)
 |_,_=>none
def SE.QB:SE->SE->SE:=ji (λK=>Jv K) QC (by
 intro K F H x y d e as bs z Q s r1 r2 h q
 unfold QC at h
 split at h
 ·rename_i ds es
  obtain⟨ns,h1,h2⟩:=aL h
  obtain⟨ms,h3,rfl⟩:=Kap.mp h2
  obtain⟨a,xs,cs,rfl,ha,hr,_⟩:=r1.aP
  obtain⟨b,ys,cs',rfl,hb,hr',_⟩:=r2.aP
  rw [ON h1] at hr
  rw [ON h3] at hr'
  rw [hr.ints] at ha
  rw [hr'.ints] at hb
  exact⟨a,b,ns,ms,rfl,rfl,.inl (.inl (s _ _ ha)),.inl (.inl (s _ _ hb)),q.here (z:=(.bool _,true)) s (.bl _) .nil⟩
 ·cases h)
/-- (x,)*n -/
def Jp (d e:PyData):Option Vl:=match d,e with
 |.tuple ds,.int k=>if (ds≠[]/\ds.length<=1000)/\2<=k/\k<=1000/\fM ds=true then some (.tuple (Kak k.toNat ds).flatten,true) else none
 |_,_=>none
theorem az.QM {F:Hp}{vs:List V}{ds:List PyData}(h:az F vs ds []):∀n:Nat,az F (Kak n vs).flatten (Kak n ds).flatten []
 |0=>.nil
 |n+1=>by
  rw [KaW,KaW,Kav,Kav]
  exact h.app (az.QM h n)
def SE.C1:SE->SE->SE:=ji (λK=>rRepT K) Jp (by
 intro K F H x y d e as bs z Q s r1 r2 h q
 unfold Jp at h
 split at h
 ·rename_i ds k
  split at h
  ·rename_i hc
   obtain⟨⟨h1,h2⟩,h3,h4,h5⟩:=hc
   cases h
   obtain⟨a,xs,rfl,ha,hr⟩:=r1.cg
   have e0:=az.aM hr h5
   subst e0
   refine⟨a,k,xs,rfl,r2.int_inv,.inl (.inl (s _ _ ha)),λz=>?_,h3,h4,by rw [hr.len];exact h2,λp np=>q.C6 s (hr.QM _) np λ_=>rfl⟩
   subst z
   cases hr
   exact h1 rfl
  ·cases h
 ·cases h)
/-- tuple(range(n)) -/
def ijk (a:SE):SE where
 t:=λK=>tTupRg (tRg1 (a.t K))
 ev:=λρ s=>(a.ev ρ s).bind λx=>match x.1.1 with|.int n=>if -100000<=n/\n<=100000 then some ((.tuple ((rng 0 n).map .int),true),x.2) else none|_=>none
 ok:=by
  intro K sk F H σ ρ ak s vl s' Q p h q
  obtain⟨⟨⟨x,b⟩,s1⟩,h1,h⟩:=aL h
  dsimp only at h
  split at h
  ·rename_i n
   split at h
   ·rename_i hn
    cases h
    refine a.ok K p h1 λv F1 H1 as st k r f=>?_
    have pv:gu F1 H1 (.tuple ((rng 0 n).map .int),true) Q:=λv F' H' cs st3 r3 f3=>q v F' H' cs (st.trans st3.any) (k.keep st3) r3 (f3.back st.dm)
    refine⟨n,r.int_inv,⟨by omega,by omega,by omega,by omega,by omega⟩,λz np=>?_⟩
    rw [Ho]
    exact pv.C6 st.sub' (az.qJ _) np λ_=>rfl
   ·cases h
  ·cases h
/-- bM items of a tuple,its object told or not -/
def e_ (d:PyData):Option (List PyData):=match d with
 |.tuple ds=>some ds
 |d=>pT d
theorem Rp.e_ {F:Hp}{v:V}{d:PyData}{ds:List PyData}{as:List Addr}(r:Rp F v d as)(h:e_ d=some ds):∃a xs,v=.ref a/\(F a=some (.tup xs)∨∃o,F a=some (.frz o (.tup xs)))/\az F xs ds as:=by
 unfold Pu.e_ at h
 split at h
 ·cases h
  obtain⟨a,xs,rfl,ha,hr⟩:=r.cg
  exact⟨a,xs,rfl,.inl ha,hr⟩
 ·obtain⟨a,o,xs,rfl,ha,_,hr⟩:=r.lD h
  exact⟨a,xs,rfl,.inr ⟨o,ha⟩,hr⟩
theorem PZ {K:Frag}{F H:Hp}{a:Addr}{xs:List V}(s:Same F H)(h:F a=some (.tup xs)∨∃o,F a=some (.frz o (.tup xs))):SqT K H a xs:=by
 rcases h with h|⟨o,h⟩
 ·exact .inl (.inl (s _ _ h))
 ·exact .inl (.inr ⟨o,s _ _ h⟩)
def SI.yD (e e2:SE):SI where
 t:=λK=>RZ.iZipA K (tCons (e.t K) (tCons (e2.t K) tNil))
 ev:=λρ s=>(e.ev ρ s).bind λx=>(e2.ev ρ x.2).bind λy=>(e_ x.1.1).bind λds=>(e_ y.1.1).map λes=>(fg ds es,y.2)
 ok:=by
  intro K sk F H σ ρ ak s ds0 s' R p h q
  obtain⟨⟨⟨x,fl⟩,s1⟩,h1,h⟩:=aL h
  obtain⟨⟨⟨y,YQ⟩,s2⟩,h2,h⟩:=aL h
  obtain⟨ds,h3,h⟩:=aL h
  obtain⟨es,h4,h5⟩:=Kap.mp h
  cases h5
  refine e.ok K p h1 λv F1 H1 as st1 k1 r1 f1=>?_
  refine e2.ok K (p.next st1 k1) h2 λw F2 H2 bs st2 k2 r2 f2=>?_
  obtain⟨a,xs,rfl,ha,hr⟩:=(r1.mono st2.sub).e_ h3
  obtain⟨b,ys,rfl,hb,hr'⟩:=r2.e_ h4
  refine⟨a,b,xs,ys,rfl,.inr ⟨PZ st2.sub' ha,PZ st2.sub' hb,q _ F2 H2 (st1.trans st2) k2 λF3 H3 i s1 s2=>?_⟩⟩
  have hx:SqT K H3 a xs:=PZ (s1.trans s2) ha
  have hy:SqT K H3 b ys:=PZ (s1.trans s2) hb
  refine⟨λd hd=>?_,λhl=>?_⟩
  ·obtain⟨d1,d2,g1,g2,rfl⟩:=gzo hd
   obtain⟨v1,b1,e1,q1⟩:=hr.get g1
   obtain⟨v2,b2,e2,q2⟩:=hr'.get g2
   refine⟨⟨xs,ys,v1,v2,hx,hy,e1,e2⟩,λx H4 hz=>?_⟩
   obtain⟨T,x1,x2,rfl,nT,rfl,z1,z2⟩:=hz
   have z1:=z1 _ hx
   have z2:=z2 _ hy
   rw [e1] at z1
   rw [e2] at z2
   cases z1
   cases z2
   have sa:bw F3 H3 (upd F3 T (.tup [v1,v2])) (upd H3 T (.tup [v1,v2])):=.alloc s2 nT
   exact⟨_,_,sa,.tup upd_same (.cons ((q1.mono s1).mono sa.sub) (.cons ((q2.mono s1).mono sa.sub) .nil))⟩
  ·refine⟨xs,ys,hx,hy,?_⟩
   rw [Z6] at hl
   rw [hr.len,hr'.len]
   omega
def Af (np nl r:Nat)(b:SS):Sp:=λvs H Q _=>∃(sk:Option Addr) (F0 H0 F:Hp) (args:List Slot) (ak:List (List Addr)) (s:aa) (ρ':List Slot) (s':aa),args.length=np/\Wd sk F0 H0 F H (vs.map some) args ak s/\b.ev (args++Kak nl .emp) s=some (.nx ρ' s') /\
 ∀F' H' σ' aH,Same F F'->Wd sk F0 H0 F' H' σ' ρ' aH s'->∃v,σ'[r]? = some (some v)/\Q v H'
theorem DC {K:Frag}{np nl r:Nat}{b:SS}{N:List Str}{vs:List V}{H:Hp}{Q:VK}{E:XK}(hN:N.length=np+nl)(h:Af np nl r b vs H Q E):(tSeq (b.t K) (tRet (tVar r))) { nx:=λ_ H'=>Q .non H',rt:=Q } (L2.start N vs) H:=by
 obtain⟨sk,F0,H0,F,args,ak,s,ρ',s',hl,w,he,q⟩:=h
 have hvl:vs.length=np:=by
  have:=w.slots.length
  rw [Kag] at this
  rw [this,hl]
 have hst:L2.start N vs=vs.map some++Kak nl none:=by
  unfold L2.start
  rw [hN,hvl]
  congr 2
  omega
 rw [hst]
 have w2:Wd sk F0 H0 F H (vs.map some++Kak nl none) (args++Kak nl .emp) (ak++Kak nl []) s:=
  ⟨w.st,w.bh,w.slots.more nl,by rw [oV];exact w.dX,λa m=>by rw [oV] at m;exact w.bT a m⟩
 refine b.ok K (out:=.nx ρ' s') w2 he λF' H' σ' aH e w'=>?_
 obtain⟨v,h1,h2⟩:=q F' H' σ' aH e w'
 exact⟨v,h1,h2⟩
theorem Lx {np nl r:Nat}{b:SS}{ps:List Str}(hp:ps.length=np)(vs:List V)(H:Hp)(Q:VK)(E:XK)(h:Af np nl r b vs H Q E):vs.length=ps.length:=by
 obtain⟨sk,F0,H0,F,args,ak,s,ρ',s',hl,w,he,q⟩:=h
 have:=w.slots.length
 rw [Kag] at this
 rw [this,hl,hp]
theorem aqV {P:Program}{w:World}{K:PySem.W.Frag}{mg:Str->Option Value}{base:Heap}{x:Str}{st:Stmt}{f:Addr}{fd:FuncData}{N ps:List Str}{k np nl r:Nat}{b:SS}(F:cO K x st f fd)(S:FnScope N ps (defScope st))(hp:ps.length=np)(hN:N.length=np+nl)
  (Ko:∀(cdv:Value) (A:Around) (outer:List Env) (s:Shared) (H:Hp) (E:XK),Room k (A.deeper (envOfC x (defScope st) s.heap.objs.size f cdv))->∃t,PSs (cxOf CX0 P w K mg base N x (defScope st) f cdv A outer s H E).nox (defBody st) t/\t=tSeq (b.t K) (tRet (tVar r))):
  FnOk P w K mg base CX0 (k+1) f fd ps (Af np nl r b):=
 F.ok S (Lx hp) λcdv A outer s H vs Q E hr h=>by
  obtain⟨t,ht,rfl⟩:=Ko cdv A outer s H E hr
  exact⟨_,PSs.nox ht,DC hN h⟩
/-- x=f(x,e): x is a dict -/
def SS.QX (i nl r:Nat)(b:SS)(e:SE):SS where
 t:=λK=>tAsg (tCall (Af 2 nl r b) [] E0 (tCons (tVar i) (tCons (e.t K) tNil))) (gName i)
 ev:=λρ s=>match ρ[i]? with
  |some (.eI es)=>(e.ev ρ s).bind λy=>if (ρ.set i .emp).all Js=true then match b.ev ([.eI es,.dat y.1.1]++Kak nl .emp) y.2 with
   |some (Out.nx ρ' s')=>match (ρ'[r]?:Option Slot) with
    |some (Slot.eI es')=>some (.nx (ρ.set i (.eI es')) s')
    |_=>none
   |_=>none
   else none
  |_=>none
 ok:=by
  intro K sk F0 H0 F H σ ρ ak s out D w h q
  dsimp only at h
  split at h
  ·rename_i es cz
   obtain⟨⟨y,s2⟩,h2,h⟩:=aL h
   dsimp only at h
   split at h
   ·rename_i hn
    split at h
    ·rename_i ρ' s' he
     split at h
     ·rename_i es' er
      cases h
      obtain⟨xv0,fp0,Pd,ef0,a0,ws0,rfl,hH0,hF0,hr0,rfl⟩:=w.slots.get cz
      refine⟨.ref a0,Pd,?_⟩
      refine e.ok K w.pre h2 λv2 F2 H2 as2 st2 k2 r2 g2=>?_
      have w2:=w.next st2 k2
      obtain⟨xv,fp,ex,ef,a,ws,ez,hH,hF,hr,rfl⟩:=w2.slots.get cz
      have ea:a=a0:=by
       rw [Pd] at ex
       have:=Option.some.inj ex
       subst this
       have:=Option.some.inj ez
       injection this with this
       exact this.symm
      subst ea
      have fa:a∈ak.flatten:=Kaw.mpr ⟨_,Kar ef,Kaa⟩
      have wc:Wd sk F0 H0 F2 H2 ([.ref a,v2].map some) [.eI es,.dat y.1] [[a],[]] s2:=⟨w2.st,w2.bh,.cons ⟨a,ws,rfl,hH,hF,hr,rfl⟩ (.cons ⟨rfl,v2,as2,rfl,r2⟩ .nil),by simp,λc m=>by
       have:c=a:=by simpa using m
       rw [this];exact w2.bT a fa⟩
      refine⟨sk,F0,H0,F2,[.eI es,.dat y.1],[[a],[]],s2,ρ',s',rfl,wc,he,λF' H' σ' aH sF w'=>?_⟩
      obtain⟨xv3,fp3,Xw,S3,a2,pY,rfl,h_,xH,hr2,rfl⟩:=w'.slots.get er
      refine⟨.ref a2,Xw,?_⟩
      have sl:=pK (H':=H') sF (w2.slots.drop (i:=i)) hn
      have fl:=um (w2.slots.drop (i:=i)) hn
      have sl2:=sl.set (i:=i) (x:=some (.ref a2)) (sl:=.eI es') (fp:=[a2]) ⟨a2,pY,rfl,h_,xH,hr2,rfl⟩
      rw [KaI] at sl2
      have sub:=tu (a:=a2) (i:=i) fl
      have fa2:a2∈aH.flatten:=Kaw.mpr ⟨_,Kar S3,Kaa⟩
      exact q F' H' _ _ (st2.sub.trans sF) ⟨w'.st,w'.bh,sl2,(KaP.mpr ⟨KaX,KaO⟩:[a2].Nodup).sublist sub,λc m=>by
       have:c=a2:=by simpa using sub.mem m
       rw [this];exact w'.bT a2 fa2⟩
     ·cases h
    ·cases h
   ·cases h
  ·cases h
instance:bF Ti where
 dec:=inferInstance
 dep:=1
 lay:=λx=>by
  show PyData.canLay0 (.tuple (x.l.map enc))=true
  simpa [PyData.canLay0] using hxj x.l
 cV:=λx=>by
  show PyData.depth (.tuple (x.l.map enc))<=_
  have:=hxk x.l
  have h0:bF.dep Int=0:=rfl
  simp only [PyData.depth];omega
 eqv:=λx y=>by
  show PyData.eqv (.tuple (x.l.map enc)) (.tuple (y.l.map enc))=_
  simp only [PyData.eqv]
  rw [hzh]
  obtain⟨a⟩:=x
  obtain⟨b⟩:=y
  exact decide_eq_decide.mpr ⟨λh=>congrArg Ti.mk h,λh=>by injection h⟩
theorem mV:∀ns:List Int,cQ (ns.map .int)=some (ns.map .num)
 |[]=>rfl
 |n::ns=>by
  rw [Kai,Kai]
  unfold cQ
  rw [mV ns];rfl
instance:bO Ti:=⟨λt=>.tup (t.l.map .num),λt=>by
 show (cQ (t.l.map .int)).map NestedKey.tup=_
 rw [mV];rfl,λx y h=>by
 obtain⟨x⟩:=x
 obtain⟨y⟩:=y
 injection h with h
 exact congrArg Ti.mk (Uv h)⟩
instance:bO (Int×Bool):=⟨λp=>.tup [.num p.1,.num (PpSet.b2 p.2)],λp=>rfl,λx y h=>by
 obtain⟨x1,x2⟩:=x
 obtain⟨y1,y2⟩:=y
 injection h with h
 injection h with h1 h
 injection h with h2 h
 injection h1 with h1
 injection h2 with h2
 have h1:x1=y1:=h1
 have h2:PpSet.b2 x2=PpSet.b2 y2:=h2
 rw [h1]
 cases x2 <;> cases y2 <;> first|rfl|exact absurd h2 (by decide)⟩
def aO {κ β:Type}[Enc κ][bO κ][Enc β](f:List (κ×β)):List wK:=f.map λp=>(bO.nums p.1,enc p.1,enc p.2)
def fG {κ β:Type}[DecidableEq κ](f:List (κ×β))(k:κ)(v:β):List (κ×β):=if (aN f k).isSome then f.map (λp=>if p.1=k then (p.1,v) else p) else f++[(k,v)]
section
variable {κ β:Type}[Enc κ][bO κ][DecidableEq κ][Enc β]
theorem KI:∀(f:List (κ×β)) (j:κ),b7 (aO f) (bO.nums j)=(aN f j).map enc
 |[],j=>rfl
 |(k,d)::r,j=>by
  show b7 ((bO.nums k,enc k,enc d)::aO r) _=_
  rw [Zs]
  unfold aN
  by_cases h:k=j
  ·rw [if_pos h,if_pos (by rw [h])];rfl
  ·rw [if_neg h,if_neg (λz=>h (bO.inj _ _ z))];exact KI r j
theorem Du (f:List (κ×β))(j:κ)(v:β):iw (aO f) (bO.nums j) (enc j) (enc v)=aO (fG f j v):=by
 unfold iw fG
 rw [KI,Kdc]
 by_cases c:(aN f j).isSome=true
 ·rw [if_pos c,if_pos c]
  unfold aO
  rw [KaL,KaL]
  refine Kax λp _=>?_
  show (if bO.nums p.1=bO.nums j then _ else _)=(λq:κ×β=>(bO.nums q.1,enc q.1,enc q.2)) (if p.1=j then _ else _)
  by_cases h:p.1=j
  ·rw [if_pos (by rw [h]),if_pos h]
  ·rw [if_neg (λz=>h (bO.inj _ _ z)),if_neg h]
 ·rw [if_neg c,if_neg c]
  unfold aO
  rw [Kaz];rfl
variable {ρ aB cY:List Slot}{s s1 s2:aa}{e e2:SE}{i:Nat}{w w1 w2:Bool}
theorem JE.IM {f:List (κ×β)}{x:κ}(hi:ρ[i]? = some (.eI (aO f)))(h:JE e ρ s x s1 w):JE (Vb i e) ρ s (decide (¬((aN f x).isSome=true))) s1 true:=by
 obtain⟨_,h,_⟩:=h
 refine⟨true,?_,λ_=>rfl⟩
 show (match ρ[i]? with|some (.eI f)=>_|_=>_)=_
 rw [hi]
 show ((e.ev ρ s).bind _)=_
 rw [h]
 show (match cj (enc x) with|some j=>some ((PyData.bool (!(b7 (aO f) j).isSome),true),s1)|none=>none)=_
 rw [bO.ok]
 show some ((PyData.bool (!(b7 (aO f) (bO.nums x)).isSome),true),s1)=_
 rw [KI]
 cases aN f x <;> rfl
theorem JE.V9 {f:List (κ×β)}{x:κ}{y:β}(hi:ρ[i]? = some (.eI (aO f)))(h:JE e ρ s x s1 w)(hy:aN f x=some y):JE (Ve i e) ρ s y s1 false:=by
 obtain⟨_,h,_⟩:=h
 refine⟨false,?_,nofun⟩
 show (match ρ[i]? with|some (.eI f)=>_|_=>_)=_
 rw [hi]
 show ((e.ev ρ s).bind _)=_
 rw [h]
 show (match cj (enc x) with|some j=>(b7 (aO f) j).map λd=>((d,false),s1)|none=>none)=_
 rw [bO.ok]
 show (b7 (aO f) (bO.nums x)).map _=_
 rw [KI,hy];rfl
theorem JE.GK {f:List (κ×β)}(hi:ρ[i]? = some (.eI (aO f))):JE (SE.GK i) ρ s ((f.length:Nat):Int) s true:=by
 refine⟨true,?_,λ_=>rfl⟩
 show (match ρ[i]? with|some (.eI f)=>_|_=>_)=_
 rw [hi]
 show some ((PyData.int (aO f).length,true),s)=_
 unfold aO
 rw [Kag];rfl
theorem JN.OP {f:List (κ×β)}{x:β}{j:κ}(hi:ρ[i]? = some (.eI (aO f)))(hv:JE e ρ s x s1 w)(hk:JE e2 ρ s1 j s2 w1)(hl:f.length<100000):JN (ijt i e2 e) ρ s (ρ.set i (.eI (aO (fG f j x)))) s2:=by
 obtain⟨_,hv,_⟩:=hv
 obtain⟨_,hk,_⟩:=hk
 show ((e.ev ρ s).bind _)=_
 rw [hv]
 show (match ρ[i]? with|some (.eI f)=>_|_=>_)=_
 rw [hi]
 show ((e2.ev ρ s1).bind _)=_
 rw [hk]
 show (match cj (enc j) with|some jj=>(if (aO f).length<100000 then some (Out.nx (ρ.set i (.eI (iw (aO f) jj (enc j) (enc x)))) s2) else none)|none=>none)=_
 rw [bO.ok]
 show (if (aO f).length<100000 then some (Out.nx (ρ.set i (.eI (iw (aO f) (bO.nums j) (enc j) (enc x)))) s2) else none)=_
 rw [if_pos (by unfold aO;simpa using hl),Du]
omit [DecidableEq κ] in
theorem JI.Lm {f:List (κ×β)}(hi:ρ[i]? = some (.g9 (aO f))):JI (ijl i) ρ s f s:=by
 show (match ρ[i]? with|some (.g9 es)=>_|_=>_)=_
 rw [hi]
 show some ((aO f).map (λe=>PyData.tuple [e.2.1,e.2.2]),s)=some (f.map enc,s)
 unfold aO
 rw [KaL];rfl
end
section
variable {ρ:List Slot}{s s1 s2:aa}{e e2:SE}{w1 w2:Bool}
theorem JE.QB {xs ys:List Int}(ha:JE e ρ s xs s1 w1)(hb:JE e2 ρ s1 ys s2 w2):JE (SE.QB e e2) ρ s (HT.lexLt xs ys) s2 true:=by
 obtain⟨_,ea,_⟩:=ha
 obtain⟨_,eb,_⟩:=hb
 refine⟨true,d7 ea eb ?_,λ_=>rfl⟩
 show ((xC (xs.map .int)).bind λns=>(xC (ys.map .int)).map λms=>((PyData.bool (HT.lexLt ns ms),true):Vl))=_
 rw [Kg,Kg];rfl
theorem JE.C1 {x n:Int}(ha:JE e ρ s x s1 w1)(hb:JE e2 ρ s1 n s2 w2)(h:2<=n/\n<=1000):JE (SE.C1 (SE.tup (eK e fK)) e2) ρ s (Ti.mk (Kak n.toNat x)) s2 true:=by
 obtain⟨_,eb,_⟩:=hb
 obtain⟨w',e1,_⟩:=JA.tup (iK ha gK) (Nat.le_of_ble_eq_true rfl)
 refine⟨true,d7 e1 eb ?_,λ_=>rfl⟩
 show (if (([enc x]:List PyData)≠[]/\([enc x]:List PyData).length<=1000)/\2<=n/\n<=1000/\fM [enc x]=true then _ else _)=_
 rw [if_pos ⟨⟨by simp,by show 1<=1000;omega⟩,h.1,h.2,rfl⟩]
 have:(Kak n.toNat [enc x]).flatten=(Kak n.toNat x).map enc:=by
  rw [List.map_replicate]
  induction n.toNat with
  |zero=>rfl
  |succ k ih=>rw [KaW,Kav,ih,KaW];rfl
 show some ((PyData.tuple (Kak n.toNat [enc x]).flatten,true):Vl)=some (PyData.tuple ((Kak n.toNat x).map enc),true)
 rw [this]
theorem JE.Mq {n:Int}(ha:JE e ρ s n s1 w1)(h:-100000<=n/\n<=100000):JE (ijk e) ρ s (Ti.mk (rng 0 n)) s1 true:=by
 obtain⟨w',e1,_⟩:=ha
 refine⟨true,?_,λ_=>rfl⟩
 show (e.ev ρ s).bind _=_
 rw [e1]
 show (if -100000<=n/\n<=100000 then some ((PyData.tuple ((rng 0 n).map .int),true),s1) else none)=_
 rw [if_pos h];rfl
theorem uZ:∀(xs:List Int) (ys:List Bool),fg (xs.map enc) (ys.map PyData.bool)=(Ka9 xs ys).map enc
 |[],ys=>by simp [fg]
 |x::xs,[]=>by simp [fg]
 |x::xs,y::ys=>by
  show _::fg (xs.map enc) (ys.map PyData.bool)=_
  rw [uZ xs ys];rfl
theorem JI.yD {x:Ti}{y:Tb}(ha:JE e ρ s x s1 w1)(hb:JE e2 ρ s1 y s2 w2):JI (SI.yD e e2) ρ s (Ka9 x.l y.l) s2:=by
 obtain⟨_,ea,_⟩:=ha
 obtain⟨_,eb,_⟩:=hb
 show ((e.ev ρ s).bind λx=>(e2.ev ρ x.2).bind λy=>(e_ x.1.1).bind λds=>(e_ y.1.1).map λes=>(fg ds es,y.2))=_
 rw [ea]
 show ((e2.ev ρ s1).bind λy=>(e_ (enc x)).bind λds=>(e_ y.1.1).map λes=>(fg ds es,y.2))=_
 rw [eb]
 show some (fg (x.l.map enc) (y.l.map PyData.bool),s2)=_
 rw [uZ]
end
end Pu
namespace Pu
variable [aZ]
open PySem PySem.Spec PyProof.Rows L2 Enc
def Nz:List PyData->PyData->Option Nat
 |[],_=>none
 |z::ds,d=>if PyData.eqv z d=true then some 0 else (Nz ds d).map (·+1)
theorem lZ {d:PyData}:∀{ds:List PyData} {j:Nat},Nz ds d=some j->∃z,ds[j]? = some z/\PyData.eqv z d=true/\∀(m:Nat) (z':PyData),m<j->ds[m]? = some z'->PyData.eqv z' d=false
 |[],_,h=>(nomatch h)
 |z::ds,j,h=>by
  unfold Nz at h
  by_cases c:PyData.eqv z d=true
  ·rw [if_pos c] at h
   cases h
   exact⟨z,rfl,c,λm z' hm=>by omega⟩
  ·rw [if_neg c] at h
   obtain⟨k,hk,rfl⟩:=Kap.mp h
   obtain⟨y,h1,h2,h3⟩:=lZ hk
   refine⟨y,by rw [Kbl];exact h1,h2,λm z' hm hz=>?_⟩
   cases m with
   |zero=>
    have:z=z':=Option.some.inj hz
    rw [<-this];simpa using c
   |succ m=>exact h3 m z' (by omega) (by rw [Kbl] at hz;exact hz)
def xP (ds:List PyData)(d:PyData):Option Vl:=if SeqAt.shaped d=true/\SeqAt.shaped (.list ds)=true then (Nz ds d).map λj=>(.int (j:Nat),true) else none
def SE.ie (a b:SE):SE where
 t:=λK=>tBM K "list" (rIndexD K) (a.t K) (tCons (b.t K) tNil)
 ev:=λρ s=>(a.ev ρ s).bind λx=>(b.ev ρ x.2).bind λy=>match x.1.1 with|.list ds=>(xP ds y.1.1).bind λz=>some (z,y.2)|_=>none
 ok:=by
  intro K sk F H σ ρ ak s vl s' Q p h q
  obtain⟨⟨⟨x,w⟩,s1⟩,h1,h0⟩:=aL h
  obtain⟨⟨⟨y,w2⟩,s2⟩,h2,h6⟩:=aL h0
  clear h h0
  dsimp only at h1 h2 h6
  split at h6
  ·rename_i ds
   obtain⟨z,h3,h7⟩:=aL h6
   cases h7
   unfold xP at h3
   split at h3
   ·rename_i hs
    obtain⟨j,hj,rfl⟩:=Kap.mp h3
    obtain⟨zz,i1,i2,i3⟩:=lZ hj
    refine a.ok K p h1 λu F1 H1 as st k r f=>?_
    have r0:=r
    obtain⟨ad,xs,bs,rfl,ha,hr,rfl⟩:=r.aP
    refine⟨.inl ⟨rfl,xs,.inl (.inl (st.sub' _ _ ha))⟩,?_⟩
    refine b.ok K (p.next st k) h2 λv2 F2 H2 as2 st2 k2 r2 f2=>?_
    exact⟨ad,v2,y,ds,j,zz,rfl,rfl,((r0.mono st2.sub).mono st2.sub').dp (Fc hs.2),(r2.mono st2.sub').dp (Fc hs.1),hs.2,hs.1,i1,i2,i3,q _ F2 H2 [] (st.trans st2) k2 (.int _) .nil⟩
   ·cases h3
  ·cases h6
def PM {α:Type}[DecidableEq α]:List α->α->Nat
 |[],_=>0
 |x::xs,v=>if x=v then 0 else PM xs v+1
theorem jR {α:Type}[bF α]{inst:DecidableEq α}{v:α}:∀{xs:List α},v∈xs->Nz (xs.map enc) (enc v)=some (PM xs v)
 |x::xs,h=>by
  show (if PyData.eqv (enc x) (enc v)=true then some 0 else (Nz (xs.map enc) (enc v)).map (·+1))=some (PM (x::xs) v)
  unfold PM
  have e:PyData.eqv (enc x) (enc v)=true↔x=v:=(congrArg (·=true) (bF.eqv x v)).to_iff.trans (@decide_eq_true_iff _ (bF.dec x v))
  by_cases c:x=v
  ·rw [if_pos c,if_pos (e.mpr c)]
  ·rw [if_neg c,if_neg (λz=>c (e.mp z)),jR (inst:=inst) ((Kah.mp h).resolve_left λe=>c e.symm)];rfl
theorem JE.ie {α:Type}[bF α]{inst:DecidableEq α}{ρ:List Slot}{s s1 s2:aa}{a b:SE}{w1 w2:Bool}{xs:List α}{v:α}(ha:JE a ρ s xs s1 w1)(hb:JE b ρ s1 v s2 w2)(h:v∈xs)(hd:bF.dep α<=63:=by decide):JE (SE.ie a b) ρ s ((PM xs v:Nat):Int) s2 true:=by
 obtain⟨w',e,_⟩:=ha
 obtain⟨w'',e2,_⟩:=hb
 refine⟨true,?_,λ_=>rfl⟩
 show (a.ev ρ s).bind _=_
 rw [e]
 show (b.ev ρ s1).bind _=_
 rw [e2]
 show (xP (xs.map enc) (enc v)).bind _=_
 unfold xP
 rw [if_pos ⟨nk v hd,kD xs hd⟩,jR (inst:=inst) h];rfl
end Pu
namespace Pu
variable [aZ]
open PySem PySem.Spec PyProof.Rows L2 Enc
instance:Inhabited PyData:=⟨.none⟩
def Ex:PyData->List PyData
 |.list ds=>ds
 |.tuple ds=>ds
 |_=>[]
/-- what data is as of a kind -/
class fu (α:Type) [Enc α] where
 dec:PyData->α
 ok:∀x:α,dec (enc x)=x
section
variable {α β γ δ:Type}[Enc α][Enc β][Enc γ][Enc δ][fu α][fu β][fu γ][fu δ]
instance:fu Int:=⟨λ|.int i=>i|_=>0,λ_=>rfl⟩
instance:fu Bool:=⟨λ|.bool b=>b|_=>false,λ_=>rfl⟩
instance:fu PyData:=⟨λd=>d,λ_=>rfl⟩
instance:fu Str:=⟨λ|.str x=>x|_=>⟨#[]⟩,λ_=>rfl⟩
instance:fu Tx:=⟨λ|.str x=>jI x.cps.toList|_=>jI [],λt=>by
 show jI t.str.cps.toList=t
 unfold jI Tx.str Tx.nat
 obtain⟨cs⟩:=t
 show Tx.mk ((cs.map Fin.val).map λc=>Fin.ofNat 1114112 c)=Tx.mk cs
 rw [KaL]
 congr 1
 refine (Kax λc _=>?_).trans (KcW cs)
 exact Fin.ext (Kb8 c.isLt)⟩
instance:fu (List α):=⟨λd=>(Ex d).map fu.dec,λxs=>by
 show (xs.map enc).map fu.dec=xs
 rw [KaL]
 refine (Kax λx _=>?_).trans (KcW xs)
 exact fu.ok x⟩
instance:fu (α×β):=⟨λd=>(fu.dec ((Ex d).getD 0 .none),fu.dec ((Ex d).getD 1 .none)),λp=>Prod.ext (fu.ok p.1) (fu.ok p.2)⟩
instance:fu (T3 α β γ):=⟨λd=>T3.mk (fu.dec ((Ex d).getD 0 .none)) (fu.dec ((Ex d).getD 1 .none)) (fu.dec ((Ex d).getD 2 .none)),λp=>by
 obtain⟨x,y,z⟩:=p
 show T3.mk (fu.dec (enc x)) (fu.dec (enc y)) (fu.dec (enc z))=_
 rw [fu.ok,fu.ok,fu.ok]⟩
instance:fu (T4 α β γ δ):=⟨λd=>T4.mk (fu.dec ((Ex d).getD 0 .none)) (fu.dec ((Ex d).getD 1 .none)) (fu.dec ((Ex d).getD 2 .none)) (fu.dec ((Ex d).getD 3 .none)),λp=>by
 obtain⟨x,y,z,u⟩:=p
 show T4.mk (fu.dec (enc x)) (fu.dec (enc y)) (fu.dec (enc z)) (fu.dec (enc u))=_
 rw [fu.ok,fu.ok,fu.ok,fu.ok]⟩
end
end Pu
namespace Pu
open PySem PySem.Spec PyProof.Rows L2 Enc
variable [aZ]
/-- an instance is handed on -/
def SR.ins (i:Nat)(r:SR):SR where
 t:=λK=>tCons (tVar i) (r.t K)
 ev:=λρ s=>match ρ[i]? with
  |some (.ins C nm ds)=>(r.ev ρ s).bind λy=>some (.ins C nm ds::y.1,y.2)
  |_=>none
 ok:=by
  intro K sk F H σ ρ ak s vl s' Q p h q
  dsimp only at h
  split at h
  ·rename_i C nm ds e
   obtain⟨⟨y,s2⟩,h2,h⟩:=aL h
   cases h
   obtain⟨x,fp,e1,e2,z,a,dx,vs,as,rfl,e4,e5,r'⟩:=p.slots.get e
   refine⟨.ref a,e1,?_⟩
   refine r.ok K p h2 λvs F2 H2 st2 k2 r2=>?_
   exact q _ F2 H2 st2 k2 (.cons (show xB sk F2 H2 (some (.ref a)) (.ins C nm ds) [] from ⟨rfl,a,dx,_,as,rfl,st2.sub _ _ e4,e5,r'.mono st2.sub⟩) r2)
  ·cases h
section
variable {ρ aB:List Slot}{s s1 s2 s3:aa}{w:Bool}{C:Addr}{i:Nat}{nm:List Str}{ds:List PyData}{f:Str}
theorem JC.ins {r:SR}{sl:List Slot}(h:ρ[i]? = some (.ins C nm ds))(hr:JC r ρ s sl s2):JC (SR.ins i r) ρ s (.ins C nm ds::sl) s2:=by
 unfold JC at hr ⊢
 unfold SR.ins
 simp only [h]
 rw [hr];rfl
end
end Pu
namespace Pu
variable [aZ]
open PySem PySem.Spec PyProof.Rows L2 Enc
def uS:List PyData->Option (List Str)
 |[]=>some []
 |.str x::ds=>(uS ds).map λxs=>x::xs
 |_::_=>none
theorem pS:∀nm:List Str,uS (nm.map .str)=some nm
 |[]=>rfl
 |x::nm=>by
  show (uS (nm.map .str)).map _=_
  rw [pS nm];rfl
def uW:PyData->Option (Nat×List Str×List PyData)
 |.dict [(.int c,.list L),(.none,.list ds)]=>(uS L).map λnm=>(c.toNat,nm,ds)
 |_=>none
theorem yx (C:Addr)(nm:List Str)(ds:List PyData):uW (Cy C nm ds)=some (C,nm,ds):=by
 show (uS (nm.map .str)).map _=_
 rw [pS];rfl
theorem Rp.GA {F:Hp}{v:V}{d:PyData}{as:List Addr}(r:Rp F v d as){C:Nat}{nm:List Str}{ds:List PyData}(h:uW d=some (C,nm,ds)):∃a dx vs,v=.ref a/\F a=some (.ins C dx (nm.zip vs))/\nm.length=ds.length/\az F vs ds as:=by
 cases r with
 |@qt a C' dx nm' vs ds' as h1 h2 h3=>
  have e:=yx C' nm' ds'
  rw [show uW (.dict [(.int (C':Nat),.list (nm'.map .str)),(.none,.list ds')])=some (C',nm',ds') from e] at h
  cases h
  exact⟨a,dx,vs,rfl,h1,h2,h3⟩
 |_=>cases h
end Pu
namespace Pu
open PySem PySem.Spec PyProof.Rows L2 Enc
end Pu
set_option maxHeartbeats 2000000
namespace L2
open PySem PySem.Spec PyProof.Rows
section
variable {X:Cx}{nm:Str}{C D fI cc cda:Addr}
/-- e.value,e bM exception d8 bM suite holds (at a;its class cls,its dict d);Cs: bM classes it may have -/
def Q8 (Cs:List Addr)(a:Addr)(cls:Value)(d:Option Addr)(te:TE):TE:=λσ H Q=>te σ H λx H1=>x=.ref a/\∃C∈Cs,cls=.ref C/\∃(dd:Addr) (v:V),d=some dd/\H1 dd=some (.xd [(("value" : Str),v)])/\Q v H1
end
end L2
namespace Pu
variable [aZ]
open PySem PySem.Spec PyProof.Rows L2
abbrev yF:=Str->Addr
inductive A3 where
 |val (vl:Vl)
 |xF (nm:Str) (d:PyData)
inductive yH where
 |out (o:Out)
 |xF (nm:Str) (d:PyData) (ρ:List Slot) (s:aa)
abbrev Rm:=List Slot->aa->Option (A3×aa)
abbrev Vr:=List Slot->aa->Option yH
def Vp (v:V):HO:=.xd [(("value" : Str),v)]
def spX (Γ:yF)(m:Rm):Sp:=λvs H Q E=>∃(sk:Option Addr) (F:Hp) (args:List Slot) (s:aa) (r:A3) (s':aa),Same F H/\bA sk F H s/\Slots sk F H (vs.map some) args (gG args)/\m args s=some (r,s') /\
 (∀vl,r=.val vl->∀v F' H' as,Step sk F H F' H'->bA sk F' H' s'->Rp F' v vl.1 as->bS vl.2 H as->Q v H') /\
 ∀nm d,r=.xF nm d->∀v F' H' as dd,Step sk F H F' H'->bA sk F' H' s'->Rp F' v d as->H dd=none->H' dd=some (Vp v)->E (.ref (Γ nm)) (some dd) H'
def Vx (Γ:yF)(t:Frag->WX->TE)(ev:List Slot->aa->Option (A3×aa)):Prop:=∀(K:Frag) {sk:Option Addr} {F H:Hp} {σ:L2.St} {ρ:List Slot} {ak:List (List Addr)} {s:aa} {r:A3} {s':aa} {W:WX} {Q:VK},Pre sk F H σ ρ ak s->ev ρ s=some (r,s') ->
 (∀vl,r=.val vl->∀v F' H' as,Step sk F H F' H'->bA sk F' H' s'->Rp F' v vl.1 as->bS vl.2 H as->Q v H') ->
 (∀nm d,r=.xF nm d->∀v F' H' as dd,Step sk F H F' H'->bA sk F' H' s'->Rp F' v d as->H dd=none->H' dd=some (Vp v)->W (.ref (Γ nm)) (some dd) σ H')->t K W σ H Q
structure EX (Γ:yF) where
 t:Frag->WX->TE
 ev:List Slot->aa->Option (A3×aa)
 ok:Vx Γ t ev
variable {Γ:yF}
def EX.call (m:Rm)(a:SR):EX Γ where
 t:=λK W=>tCallS (spX Γ m) (WE W) (a.t K)
 ev:=λρ s=>(a.ev ρ s).bind λx=>m x.1 x.2
 ok:=by
  intro K sk F H σ ρ ak s r s' W Q p h q qx
  obtain⟨⟨x,s1⟩,h1,h⟩:=aL h
  refine a.ok K p h1 λvs F1 H1 st1 k1 sl=>?_
  refine⟨sk,F1,x,s1,r,s',st1.sub',k1,sl,h,λvl e v F2 H2 as st2 k2 r2 f2=>?_,λnm d e v F2 H2 as dd st2 k2 r2 n2 e2=>?_⟩
  ·exact q vl e v F2 H2 as (st1.trans st2) k2 r2 (f2.back st1.dm)
  ·refine qx nm d e v F2 H2 as dd (st1.trans st2) k2 r2 ?_ e2
   cases z:H dd with
   |none=>rfl
   |some u=>exact absurd n2 (st1.dm dd (by rw [z];exact nofun))
def wL (D:Ends)(W:WX)(Γ:yF)(sk:Option Addr)(F0 H0 F:Hp):yH->Prop
 |.out o=>jN D sk F0 H0 F o
 |.xF nm d ρ' s'=>∀v F' H' σ' aH as dd,Same F F'->Wd sk F0 H0 F' H' σ' ρ' aH s'->Rp F' v d as->H0 dd=none->H' dd=some (Vp v)->W (.ref (Γ nm)) (some dd) σ' H'
theorem wL.mono {D:Ends}{W:WX}{sk:Option Addr}{F0 H0 F F':Hp}{out:yH}(h:wL D W Γ sk F0 H0 F out)(e:Same F F'):wL D W Γ sk F0 H0 F' out:=by
 cases out with
 |out o=>exact jN.mono h e
 |xF nm d ρ s=>exactλv F2 H2 σ2 fc as dd e2 w=>h v F2 H2 σ2 fc as dd (e.trans e2) w
def OkX (Γ:yF)(t:Frag->WX->TS)(ev:Vr):Prop:=∀(K:Frag) {sk:Option Addr} {F0 H0 F H:Hp} {σ:L2.St} {ρ:List Slot} {ak:List (List Addr)} {s:aa} {out:yH} {D:Ends} {W:WX},Wd sk F0 H0 F H σ ρ ak s->ev ρ s=some out->wL D W Γ sk F0 H0 F out->t K W D σ H
structure SX (Γ:yF) where
 t:Frag->WX->TS
 ev:Vr
 ok:OkX Γ t ev
def QV (b:Vr):yH->Option yH
 |.out (.nx ρ s)=>b ρ s
 |o=>some o
def SX.seq (a b:SX Γ):SX Γ where
 t:=λK W=>tSeq (a.t K W) (b.t K W)
 ev:=λρ s=>(a.ev ρ s).bind λo=>QV b.ev o
 ok:=by
  intro K sk F0 H0 F H σ ρ ak s out D W w h q
  obtain⟨o,h1,h2⟩:=aL h
  refine a.ok K w h1 ?_
  cases o with
  |out o=>
   cases o with
   |nx aB s1=>exactλF1 H1 σ1 nQ e1 w1=>b.ok K w1 h2 (q.mono e1)
   |brk aB s1=>cases h2;exact q
   |cnt aB s1=>cases h2;exact q
   |ret vl s1=>cases h2;exact q
  |xF nm d aB s1=>cases h2;exact q
def SX.set (i:Nat)(e:EX Γ):SX Γ where
 t:=λK W=>tAsg (e.t K W) (gName i)
 ev:=λρ s=>(e.ev ρ s).bind λx=>match x.1 with
  |.val vl=>some (.out (.nx (ρ.set i (Ez vl)) x.2))
  |.xF nm d=>some (.xF nm d ρ x.2)
 ok:=by
  intro K sk F0 H0 F H σ ρ ak s out D W w h q
  obtain⟨⟨x,s1⟩,h1,h2⟩:=aL h
  dsimp only at h2
  refine e.ok K w.pre h1 (λvl e v F1 H1 as st k r f=>?_) (λnm d e v F1 H1 as dd st k r n e2=>?_)
  ·subst e
   cases h2
   obtain⟨aH,w'⟩:=w.yp st k (i:=i) r f
   exact q F1 H1 _ aH st.sub w'
  ·subst e
   cases h2
   refine q v F1 H1 σ ak as dd st.sub (w.next st k) r ?_ e2
   cases z:H0 dd with
   |none=>rfl
   |some u=>exact absurd n (w.st.dm dd (by rw [z];exact nofun))
def SX.ret (e:EX Γ):SX Γ where
 t:=λK W=>tRet (e.t K W)
 ev:=λρ s=>(e.ev ρ s).bind λx=>match x.1 with
  |.val vl=>some (.out (.ret vl x.2))
  |.xF nm d=>some (.xF nm d ρ x.2)
 ok:=by
  intro K sk F0 H0 F H σ ρ ak s out D W w h q
  obtain⟨⟨x,s1⟩,h1,h2⟩:=aL h
  dsimp only at h2
  refine e.ok K w.pre h1 (λvl e v F1 H1 as st k r f=>?_) (λnm d e v F1 H1 as dd st k r n e2=>?_)
  ·subst e
   cases h2
   exact q v F1 H1 as (w.st.trans st) k r (w.jq f)
  ·subst e
   cases h2
   refine q v F1 H1 σ ak as dd st.sub (w.next st k) r ?_ e2
   cases z:H0 dd with
   |none=>rfl
   |some u=>exact absurd n (w.st.dm dd (by rw [z];exact nofun))
def SX.drop (e:EX Γ):SX Γ where
 t:=λK W=>tDrop (e.t K W)
 ev:=λρ s=>(e.ev ρ s).bind λx=>match x.1 with
  |.val vl=>some (.out (.nx ρ x.2))
  |.xF nm d=>some (.xF nm d ρ x.2)
 ok:=by
  intro K sk F0 H0 F H σ ρ ak s out D W w h q
  obtain⟨⟨x,s1⟩,h1,h2⟩:=aL h
  dsimp only at h2
  refine e.ok K w.pre h1 (λvl e v F1 H1 as st k r f=>?_) (λnm d e v F1 H1 as dd st k r n e2=>?_)
  ·subst e
   cases h2
   exact q F1 H1 σ ak st.sub (w.next st k)
  ·subst e
   cases h2
   refine q v F1 H1 σ ak as dd st.sub (w.next st k) r ?_ e2
   cases z:H0 dd with
   |none=>rfl
   |some u=>exact absurd n (w.st.dm dd (by rw [z];exact nofun))
def Ja (np nl:Nat)(b:SX Γ):Rm:=λargs s=>if args.length=np then match b.ev (args++Kak nl .emp) s with
  |some (.out (.ret vl s'))=>some (.val vl,s')
  |some (.out (.nx _ s'))=>some (.val (.none,true),s')
  |some (.xF nm d _ s')=>some (.xF nm d,s')
  |_=>none
 else none
structure Hx (Γ:yF)(ns:List Str)(i:Nat)(dat:PyData)(sk:Option Addr)(F H:Hp)(σ:L2.St)(a:Addr)(cls:Value)(d:Option Addr):Prop where
 slot:σ[i]? = some (some (.ref a))
 cls:∃nm∈ns,cls=.ref (Γ nm)
 val:∃dd v as,d=some dd/\H dd=some (Vp v)/\Rp F v dat as/\sk≠some dd
theorem Hx.step {ns:List Str}{i:Nat}{dat:PyData}{sk:Option Addr}{F H F1 H1:Hp}{σ:L2.St}{a:Addr}{cls:Value}{d:Option Addr}(h:Hx Γ ns i dat sk F H σ a cls d)(st:Step sk F H F1 H1):Hx Γ ns i dat sk F1 H1 σ a cls d:=by
 obtain⟨h1,h2,dd,v,as,e1,e2,r,n⟩:=h
 exact⟨h1,h2,dd,v,as,e1,st.fr _ _ n e2,r.mono st.sub,n⟩
def Vw (Γ:yF)(ns:List Str)(i:Nat)(t:Frag->Addr->Value->Option Addr->TE)(ev:PyData->HQ):Prop:=∀(K:Frag) {sk:Option Addr} {F H:Hp} {σ:L2.St} {ρ:List Slot} {ak:List (List Addr)} {s:aa} {a:Addr} {cls:Value} {d:Option Addr} {dat:PyData} {vl:Vl} {s':aa} {Q:VK},
 Pre sk F H σ ρ ak s->Hx Γ ns i dat sk F H σ a cls d->ev dat ρ s=some (vl,s')->(∀v F' H' as,Step sk F H F' H'->bA sk F' H' s'->Rp F' v vl.1 as->bS vl.2 H as->Q v H')->t K a cls d σ H Q
structure EH (Γ:yF)(ns:List Str)(i:Nat) where
 t:Frag->Addr->Value->Option Addr->TE
 ev:PyData->HQ
 ok:Vw Γ ns i t ev
variable {ns:List Str}{i:Nat}
/-- e.value -/
def EH.val:EH Γ ns i where
 t:=λK a cls d=>Q8 (ns.map Γ) a cls d (tVar i)
 ev:=λdat _ s=>some ((dat,aM dat),s)
 ok:=by
  intro K sk F H σ ρ ak s a cls d dat vl s' Q p hx h q
  obtain⟨h1,⟨nm,hn,h2⟩,dd,v,as,e1,e2,r,n⟩:=hx
  cases h
  refine⟨.ref a,h1,rfl,Γ nm,KaA hn,h2,dd,v,e1,e2,q v F H as (.refl p.sub) p.bh r λz=>?_⟩
  rw [r.aM z];exact⟨KaO,λa m=>by cases m⟩
def VB (Γ:yF)(ns:List Str)(i:Nat)(t:Frag->Addr->Value->Option Addr->TS)(ev:PyData->AV):Prop:=∀(K:Frag) {sk:Option Addr} {F0 H0 F H:Hp} {σ:L2.St} {ρ:List Slot} {ak:List (List Addr)} {s:aa} {a:Addr} {cls:Value} {d:Option Addr} {dat:PyData} {out:Out} {D:Ends},
 Wd sk F0 H0 F H σ ρ ak s->Hx Γ ns i dat sk F H σ a cls d->ev dat ρ s=some out->jN D sk F0 H0 F out->t K a cls d D σ H
structure SH (Γ:yF)(ns:List Str)(i:Nat) where
 t:Frag->Addr->Value->Option Addr->TS
 ev:PyData->AV
 ok:VB Γ ns i t ev
def SH.set (j:Nat)(e:EH Γ ns i):SH Γ ns i where
 t:=λK a cls d=>tAsg (e.t K a cls d) (gName j)
 ev:=λdat ρ s=>(e.ev dat ρ s).bind λx=>some (.nx (ρ.set j (Ez x.1)) x.2)
 ok:=by
  intro K sk F0 H0 F H σ ρ ak s a cls d dat out D w hx h q
  obtain⟨⟨x,s1⟩,h1,h2⟩:=aL h
  cases h2
  refine e.ok K w.pre hx h1 λv F1 H1 as st k r f=>?_
  obtain⟨aH,w'⟩:=w.yp st k (i:=j) r f
  exact q F1 H1 _ aH st.sub w'
def SH.ret (e:EH Γ ns i):SH Γ ns i where
 t:=λK a cls d=>tRet (e.t K a cls d)
 ev:=λdat ρ s=>(e.ev dat ρ s).bind λx=>some (.ret x.1 x.2)
 ok:=by
  intro K sk F0 H0 F H σ ρ ak s a cls d dat out D w hx h q
  obtain⟨⟨x,s1⟩,h1,h2⟩:=aL h
  cases h2
  exact e.ok K w.pre hx h1 λv F1 H1 as st k r f=>q v F1 H1 as (w.st.trans st) k r (w.jq f)
end Pu
namespace Pu
open PySem PySem.Spec PyProof.Rows L2 Enc
inductive WN (α:Type) where
 |went (x:α)
 |num (n:Int)
deriving DecidableEq
instance {α:Type}:Inhabited (WN α):=⟨.num 0⟩
instance {α:Type}[Enc α]:Enc (WN α):=⟨λy=>match y with
 |.went x=>.tuple [.str "went",enc x]
 |.num n=>.tuple [.str "number",.int n]⟩
instance {α:Type}[bF α]:bF (WN α) where
 dec:=inferInstance
 dep:=bF.dep α+1
 lay:=λy=>by
  cases y with
  |went x=>
   show PyData.canLay0 (.tuple [.str "went",enc x])=true
   have h:PyData.strOk "went" = true:=by decide +kernel
   simp [PyData.canLay0,PyData.canLayAll0,bF.lay,h]
  |num n=>
   show PyData.canLay0 (.tuple [.str "number",.int n])=true
   have h:PyData.strOk "number" = true:=by decide +kernel
   simp [PyData.canLay0,PyData.canLayAll0,h]
 cV:=λy=>by
  cases y with
  |went x=>
   show PyData.depth (.tuple [.str "went",enc x])<=_
   have h1:=bF.cV x
   simp only [PyData.depth,PyData.depthAll];omega
  |num n=>
   show PyData.depth (.tuple [.str "number",.int n])<=_
   simp only [PyData.depth,PyData.depthAll];omega
 eqv:=λy z=>by
  have h1:(("went" : Str) == ("number" : Str))=false:=by decide +kernel
  have h2:(("number" : Str) == ("went" : Str))=false:=by decide +kernel
  cases y with
  |went x=>
   cases z with
   |went x2=>
    show PyData.eqv (.tuple [.str "went",enc x]) (.tuple [.str "went",enc x2])=_
    simp only [PyData.eqv,PyData.eqvAll,bF.eqv]
    simp
   |num n=>
    show PyData.eqv (.tuple [.str "went",enc x]) (.tuple [.str "number",.int n])=_
    have h3:("went" : Str)≠("number" : Str):=by decide +kernel
    simp only [PyData.eqv,PyData.eqvAll]
    simp [h3]
  |num n=>
   cases z with
   |went x=>
    show PyData.eqv (.tuple [.str "number",.int n]) (.tuple [.str "went",enc x])=_
    have h3:("number" : Str)≠("went" : Str):=by decide +kernel
    simp only [PyData.eqv,PyData.eqvAll]
    simp [h3]
   |num m=>
    show PyData.eqv (.tuple [.str "number",.int n]) (.tuple [.str "number",.int m])=_
    simp only [PyData.eqv,PyData.eqvAll]
    by_cases h:n=m <;> simp [h]
variable [aZ]
section
variable {ρ aB cY:List Slot}{s s1 s2:aa}{i:Nat}{e e2:SE}{w:Bool}
theorem JE.aq2 (z:Str):JE (SE.str z) ρ s z s true:=⟨true,rfl,λ_=>rfl⟩
theorem JE.went {α:Type}[Enc α]{x:α}(h:JE e ρ s x s1 w):JE (SE.tup (eK (SE.str "went") (eK e fK))) ρ s (WN.went x) s1 false:=(vq (JE.aq2 "went") (vq h gK)).tup (by simp)
end
variable {Γ:yF}
def Vs {α:Type}[Enc α](m:Rm)(args:List Slot)(s:aa)(x:α)(s':aa)(w:Bool):Prop:=∃w',m args s=some (.val (enc x,w'),s')/\(w=true->w'=true)
/-- b goes: so FA bX,alike -/
def Le (b:SS)(bX:SX Γ):Prop:=∀ρ s o,b.ev ρ s=some o->bX.ev ρ s=some (.out o)
theorem Le.never (x:SX Γ):Le Qx x:=λρ s o h=>nomatch h
theorem Le.seq {a b:SS}{a' b':SX Γ}(ha:Le a a')(hb:Le b b'):Le (SS.ab a b) (SX.seq a' b'):=λρ s o h=>by
 obtain⟨p,h1,h2⟩:=aL h
 show ((a'.ev ρ s).bind _)=_
 rw [ha ρ s p h1]
 show QV b'.ev (.out p)=_
 cases p with
 |nx aB s1=>exact hb aB s1 o h2
 |ret vl s1=>cases h2;rfl
 |brk aB s1=>cases h2;rfl
 |cnt aB s1=>cases h2;rfl
theorem Vs.le {α:Type}[Enc α]{b:SS}{bX:SX Γ}{np nl:Nat}{args:List Slot}{s s':aa}{x:α}{w:Bool}(l:Le b bX)(h:JF (fnOf np nl b) args s x s' w):Vs (Ja np nl bX) args s x s' w:=by
 obtain⟨w',h,hw⟩:=h
 unfold fnOf at h
 unfold Vs Ja
 split at h
 ·rename_i hl
  rw [if_pos hl]
  split at h
  ·rename_i vl s2 he
   cases h
   rw [l _ _ _ he]
   exact⟨w',rfl,hw⟩
  ·rename_i cY s2 he
   have e2:((PyData.none,true),s2)=((enc x,w'),s'):=Option.some.inj h
   rw [l _ _ _ he]
   refine⟨w',?_,hw⟩
   simp only [Prod.mk.injEq] at e2
   obtain⟨⟨a1,a2⟩,a3⟩:=e2
   rw [<-a1,<-a2,<-a3]
  ·cases h
 ·cases h
end Pu
namespace PySem.W
open PySem PySem.Spec PySem.Calls PyProof.Rows
end PySem.W
namespace L2
open PySem PySem.Spec PyProof.Rows
end L2
namespace Pu
open PySem PySem.Spec PyProof.Rows L2 Enc
variable [aZ]
/-- a dict with texts as keys,bM newest first -/
structure DT (β:Type) where
 l:List (Tx×β)
instance {β:Type}:Inhabited (DT β):=⟨⟨[]⟩⟩
instance {β:Type}[Enc β]:Enc (DT β):=⟨λx=>IJ (x.l.map λp=>p.1.str) (x.l.map λp=>enc p.2)⟩
def DT.has {β:Type}(x:DT β)(t:Tx):Bool:=(aN x.l t).isSome
def DT.at {β:Type}[Inhabited β](x:DT β)(t:Tx):β:=(aN x.l t).getD default
end Pu
namespace Pu
open PySem PySem.Spec PyProof.Rows L2 Enc
variable [aZ]
structure H4 (α β γ δ:Type) where
 x:α
 y:β
 z:γ
 u:δ
instance {α β γ δ:Type}[Enc α][Enc β][Enc γ][Enc δ]:Enc (H4 α β γ δ):=⟨λp=>.list [enc p.x,enc p.y,enc p.z,enc p.u]⟩
instance {α β γ δ:Type}[Inhabited α][Inhabited β][Inhabited γ][Inhabited δ]:Inhabited (H4 α β γ δ):=⟨⟨default,default,default,default⟩⟩
section
variable {ρ:List Slot}{s s1:aa}{a b:SE}{w1 w2:Bool}
theorem JE.N8 {P:Prop}[Decidable P]{v:Bool×aa}(ha:JE a ρ s (decide P) s1 w1)(hb:P->JE b ρ s1 v.1 v.2 w2):JE (NJ a b) ρ s (if P then v else (false,s1)).1 (if P then v else (false,s1)).2 false:=by
 obtain⟨_,ea,_⟩:=ha
 by_cases h:P
 ·obtain⟨w',eb,_⟩:=hb h
  refine⟨w',?_,nofun⟩
  show (a.ev ρ s).bind _=_
  rw [ea]
  simp only [Kaj]
  rw [show (enc (decide P))=PyData.bool true from by simp [h,enc]]
  show b.ev ρ s1=_
  rw [eb]
  simp [h]
 ·refine⟨true,?_,nofun⟩
  show (a.ev ρ s).bind _=_
  rw [ea]
  simp only [Kaj]
  rw [show (enc (decide P))=PyData.bool false from by simp [h,enc]]
  simp [h,enc]
end
end Pu
namespace Pu
open PySem PySem.Spec PyProof.Rows L2 Enc
inductive Pw
 |both|either|but|next|last
 deriving DecidableEq,Inhabited
def Pw.tx:Pw->Tx
 |.both=>jI [98,111,116,104]
 |.either=>jI [101,105,116,104,101,114]
 |.but=>jI [98,117,116]
 |.next=>jI [110,101,120,116]
 |.last=>jI [108,97,115,116]
inductive Fe
 |on (ds:List Int)
 |nam (t:Tx)
 |each (l f:Int)
 |date (m d:Int)
 |starts
 |ends
 |no (a:Fe)
 |moved (n:Int) (a:Fe)
 |nth (n:Int) (a b:Fe)
 |pair (w:Pw) (a b:Fe)
 deriving Inhabited
def Fe.enc:Fe->PyData
 |.on ds=>.tuple [Enc.enc (Pu.jI [111,110]),Enc.enc ds]
 |.nam t=>.tuple [Enc.enc (Pu.jI [110,97,109,101]),Enc.enc t]
 |.each l f=>.tuple [Enc.enc (Pu.jI [101,97,99,104]),Enc.enc l,Enc.enc f]
 |.date m d=>.tuple [Enc.enc (Pu.jI [100,97,116,101]),Enc.enc m,Enc.enc d]
 |.starts=>.tuple [Enc.enc (Pu.jI [115,116,97,114,116,115])]
 |.ends=>.tuple [Enc.enc (Pu.jI [101,110,100,115])]
 |.no a=>.tuple [Enc.enc (Pu.jI [110,111,116]),a.enc]
 |.moved n a=>.tuple [Enc.enc (Pu.jI [109,111,118,101,100]),Enc.enc n,a.enc]
 |.nth n a b=>.tuple [Enc.enc (Pu.jI [110,116,104]),Enc.enc n,a.enc,b.enc]
 |.pair w a b=>.tuple [Enc.enc w.tx,a.enc,b.enc]
instance:Enc Fe:=⟨Fe.enc⟩
def Fe.dep:Fe->Nat
 |.no a=>a.dep+1
 |.moved _ a=>a.dep+1
 |.nth _ a b=>max a.dep b.dep+1
 |.pair _ a b=>max a.dep b.dep+1
 |_=>0
def Fe.two (t:Tx)(a b:Fe):Fe:=.pair (if t=Pw.both.tx then .both else if t=Pw.either.tx then .either else if t=Pw.but.tx then .but else if t=Pw.next.tx then .next else .last) a b
variable [aZ]
section
variable {ρ aB:List Slot}{s s1 s2:aa}{e a b:SE}{i j:Nat}{w w1 w2:Bool}{r:SA}
theorem Cw {c:ST}{x y:SS}{P:Prop}[Decidable P](h:JT c ρ s P s1):(eM c x y).ev ρ s=if P then x.ev ρ s1 else y.ev ρ s1:=by
 have h:c.ev ρ s=some (decide P,s1):=h
 show (c.ev ρ s).bind _=_
 rw [h]
 by_cases p:P
 ·rw [if_pos p,decide_eq_true p];rfl
 ·rw [if_neg p,decide_eq_false p];rfl
end
end Pu
namespace Pu
open PySem PySem.Spec PyProof.Rows L2 Enc
abbrev SetT:Type:=aX
inductive Nw
 |days|months|years|before
 deriving DecidableEq,Inhabited
def Nw.tx:Nw->Tx
 |.days=>jI [100,97,121,115]
 |.months=>jI [109,111,110,116,104,115]
 |.years=>jI [121,101,97,114,115]
 |.before=>jI [110,111,116,32,98,101,102,111,114,101]
/-- earlier,later -/
def hxh (l:Bool):Tx:=if l then jI [108,97,116,101,114] else jI [101,97,114,108,105,101,114]
/-- to,work -/
def Gb (k:Bool):Tx:=if k then jI [119,111,114,107] else jI [116,111]
inductive rQ
 |num (w:Nw) (n:Int)
 |go (f:Fe)
 |work (n:Int) (f:Fe)
 |pair (l:Bool) (a b:List rQ)
 deriving Inhabited
inductive rP
 |num (w:Nw) (n:Int)
 |set (k:Bool) (n:Int) (t:SetT)
 |pair (l:Bool) (a b:List rP)
mutual
def rQ.sR:rQ->PyData
 |.num w n=>.tuple [Enc.enc w.tx,Enc.enc n]
 |.go f=>.tuple [Enc.enc (Gb false),Enc.enc f]
 |.work n f=>.tuple [Enc.enc (Gb true),Enc.enc n,Enc.enc f]
 |.pair l a b=>.tuple [Enc.enc (hxh l),.list (rQ.ab a),.list (rQ.ab b)]
def rQ.ab:List rQ->List PyData
 |[]=>[]
 |x::xs=>x.sR::rQ.ab xs
end
mutual
def rP.sR:rP->PyData
 |.num w n=>.tuple [Enc.enc w.tx,Enc.enc n]
 |.set k n t=>.tuple [Enc.enc (Gb k),Enc.enc n,Enc.enc t]
 |.pair l a b=>.tuple [Enc.enc (hxh l),.list (rP.ab a),.list (rP.ab b)]
def rP.ab:List rP->List PyData
 |[]=>[]
 |x::xs=>x.sR::rP.ab xs
end
instance:Enc rQ:=⟨rQ.sR⟩
instance:Enc rP:=⟨rP.sR⟩
mutual
def rQ.dep:rQ->Nat
 |.pair _ a b=>max (rQ.lV a) (rQ.lV b)+1
 |_=>0
def rQ.lV:List rQ->Nat
 |[]=>0
 |x::xs=>max x.dep (rQ.lV xs)
end
mutual
def rP.dep:rP->Nat
 |.pair _ a b=>max (rP.lV a) (rP.lV b)+1
 |_=>0
def rP.lV:List rP->Nat
 |[]=>0
 |x::xs=>max x.dep (rP.lV xs)
end
variable [aZ]
end Pu
namespace Pu
open PySem PySem.Spec PyProof.Rows PySem.W L2
open AutoSeq1 (wpAny_loadPart')
end Pu
namespace L2
open PySem PySem.Spec PyProof.Rows
end L2
namespace Pu
open PySem PySem.Spec PyProof.Rows L2 Enc
end Pu
set_option maxHeartbeats 4000000
namespace Pu
open PySem L2 Enc
end Pu
namespace Pu
open PySem PySem.Spec PyProof.Rows L2 Enc
end Pu
namespace Pu
open PySem PySem.Spec PyProof.Rows L2
end Pu
namespace Pu
open PySem PySem.Spec PyProof.Rows L2 Enc
section
variable [aZ]
def SP.Ov (i:Nat)(e:SE)(r:SP):SP where
 t:=λK=>tCons (e.t K) (r.t K)
 ts:=i::r.ts
 ev:=λρ cN s=>(e.ev ρ s).bind λx=>match uW x.1.1 with
  |some (C,nm,ds)=>r.ev ρ (cN.set i (.ins C nm ds)) x.2
  |none=>none
 ok:=by
  intro K sk F0 H0 F H σ p_ ρ cN je ak cU s s' Q p w h q
  obtain⟨⟨⟨x,fl⟩,s1⟩,h1,h⟩:=aL h
  dsimp only at h
  split at h
  ·rename_i C nm ds hu
   refine e.ok K p h1 λv F1 H1 as st k rr f=>?_
   have w1:=w.next st k
   obtain⟨a,dx,vs,rfl,hF,hl,r2⟩:=rr.GA hu
   obtain⟨m1,m2⟩:=u7 (i:=i) (fp:=[]) (by rw [Ka1];exact w1.dX)
   refine r.ok K (p.next st k) (cU:=cU.set i []) ⟨w1.st,w1.bh,w1.slots.set (show xB sk F1 H1 (some (.ref a)) (.ins C nm ds) [] from ⟨rfl,a,dx,vs,as,rfl,hF,hl,r2⟩),m1,λb m=>?_⟩ h λvs' F2 H2 fv sF w2 hl=>?_
   ·rcases m2 b m with z|z
    ·cases z
    ·exact w1.bT b z
   ·exact q (.ref a::vs') F2 H2 fv (st.sub.trans sF) w2 (by rw [Kad,Kad,hl])
  ·cases h
theorem JP.ins {e:SE}{i C:Nat}{nm:List Str}{ρ aB cY:List Slot}{s s1 s2:aa}{w:Bool}{p:SP}{α:Type}{df:α->List PyData}{x v:α}(hx:x=v)(h:JE e ρ s (Cy C nm (df v)) s1 w)(hp:JP p ρ (aB.set i (.ins C nm (df x))) s1 cY s2):JP (SP.Ov i e p) ρ aB s cY s2:=by
 subst hx
 obtain⟨_,h,_⟩:=h
 show (e.ev ρ s).bind _=_
 rw [h]
 show (match uW (Cy C nm (df x)) with|some (C,nm,ds)=>_|none=>none)=_
 rw [yx]
 exact hp
end
variable [aZ]
def aq4 (ks:List Str)(ds:List PyData)(f:List (Str×PyData)):PyData:=IJ (ks++[Rk]) (ds++[Fy false (f.map (·.1)) (f.map (·.2))])
end Pu
namespace Pu
open PySem PySem.Spec PyProof.Rows L2 Enc
end Pu
namespace Pu
open PySem PySem.Spec PyProof.Rows L2
end Pu
namespace Pu
open PySem PySem.Spec PyProof.Rows L2 Enc
/-- a dict with texts as keys,in its order -/
structure DO (β:Type) where
 l:List (Tx×β)
instance {β:Type}:Inhabited (DO β):=⟨⟨[]⟩⟩
instance {β:Type}[Enc β]:Enc (DO β):=⟨λx=>Fy false (x.l.map λp=>p.1.str) (x.l.map λp=>enc p.2)⟩
def DO.has {β:Type}(x:DO β)(t:Tx):Bool:=(aN x.l t).isSome
def DO.at {β:Type}[Inhabited β](x:DO β)(t:Tx):β:=(aN x.l t).getD default
structure ET where
 years:List (List Int)
 months:List (T4 Int Int Int Int)
 days:Int
 base:Int
 ahead:Int
 round:Int
 rows:DO (List Bool)
instance:Inhabited ET:=⟨⟨[],[],0,0,0,0,default⟩⟩
def wks:List Str:=["round", "ahead", "base", "days", "months", "years"]
def ET.ds (w:ET):List PyData:=[enc w.round,enc w.ahead,enc w.base,enc w.days,enc w.months,enc w.years]
def ET.fs (w:ET):List (Str×PyData):=w.rows.l.map λp=>(p.1.str,enc p.2)
instance:Enc ET:=⟨λw=>aq4 wks w.ds w.fs⟩
def ET.put (w:ET)(t:Tx)(x:List Bool):ET:={ w with rows:=⟨w.rows.l++[(t,x)]⟩ }
variable [aZ]
end Pu
namespace Pu
open PySem PySem.Spec PyProof.Rows L2 Enc
def Fe.one (t:Tx):Fe:=if t=Pu.jI [115,116,97,114,116,115] then .starts else .ends
inductive rO
 |num (w:Nw) (n:Int)
 |row (k:Bool) (n:Int) (r:List Bool)
 |pair (l:Bool) (a b:List rO)
 deriving Inhabited
mutual
def rO.sR:rO->PyData
 |.num w n=>.tuple [Enc.enc w.tx,Enc.enc n]
 |.row k n r=>.tuple [Enc.enc (Gb k),Enc.enc n,Enc.enc r]
 |.pair l a b=>.tuple [Enc.enc (hxh l),.list (rO.ab a),.list (rO.ab b)]
def rO.ab:List rO->List PyData
 |[]=>[]
 |x::xs=>x.sR::rO.ab xs
end
instance:Enc rO:=⟨rO.sR⟩
mutual
def rO.dep:rO->Nat
 |.pair _ a b=>max (rO.lV a) (rO.lV b)+1
 |_=>0
def rO.lV:List rO->Nat
 |[]=>0
 |x::xs=>max x.dep (rO.lV xs)
end
variable [aZ]
section
variable {ρ aB:List Slot}{s s1 s2:aa}{a b:SS}{c:ST}{P:Prop}[Decidable P]
theorem JN.Lb (h:JT c ρ s P s1)(p:P)(ha:JN a ρ s1 aB s2):JN (eM c a b) ρ s aB s2:=by
 show (eM c a b).ev ρ s=_
 rw [Cw h,if_pos p];exact ha
theorem JN.Qi (h:JT c ρ s P s1)(p:¬P)(hb:JN b ρ s1 aB s2):JN (eM c a b) ρ s aB s2:=by
 show (eM c a b).ev ρ s=_
 rw [Cw h,if_neg p];exact hb
end
noncomputable section
abbrev Pk:=Int×Bool
abbrev PS:=List (Pk×Int)×List Int
theorem CQ {κ β:Type}[DecidableEq κ]{f:List (κ×β)}{k:κ}{v:β}(h:¬((aN f k).isSome=true)):aN (fG f k v) k=some v:=by
 unfold fG
 rw [if_neg h]
 induction f with
 |nil=>
  show (if k=k then some v else none)=_
  rw [if_pos rfl]
 |cons p f ih=>
  obtain⟨j,u⟩:=p
  have hj:¬j=k:=λz=>h (by
   show (if j=k then some u else aN f k).isSome=true
   rw [if_pos z];rfl)
  show (if j=k then some u else aN (f++[(k,v)]) k)=_
  rw [if_neg hj]
  refine ih λz=>h ?_
  show (if j=k then some u else aN f k).isSome=true
  rw [if_neg hj];exact z
theorem Dw {κ β:Type}[DecidableEq κ](f:List (κ×β))(k:κ)(v:β):(fG f k v).length<=f.length+1:=by
 unfold fG
 split
 ·rw [Kag];omega
 ·rw [Kan];exact Kat _
def Ub:SS:=SS.ab (hxx 2 3 (SP.LJ 2 (Gx 3 (SP.nil))) (of_decide_eq_true rfl)) (SS.ab (iO (SI.yD (hjl 0) (hjl 1)) (SG.tup (jK (aT 4) (jK (aT 5) (c9.nil)))) (dR [4,5] (SS.ab (eM (ST.ab (Vb 2 (SE.tup (eK (hjl 4) (eK (hjl 5) (fK)))))) (ijt 2 (SE.tup (eK (hjl 4) (eK (hjl 5) (fK)))) (SE.GK 2)) (SS.ac)) (Cp 3 (Ve 2 (SE.tup (eK (hjl 4) (eK (hjl 5) (fK))))))))) (Cq 3 (SS.ag (SE.Rc (hjl 3)))))
def Uk:Fn:=fnOf 2 4 Ub
def AD (f:List (Pk×Int))(x:Pk):List (Pk×Int):=if ¬((aN f x).isSome=true) then fG f x ((f.length:Nat):Int) else f
def Km (st:PS)(x:Pk):PS:=(AD st.1 x,st.2++[(aN (AD st.1 x) x).getD 0])
def nP (lots:Ti)(truths:Tb):Ti:=⟨(Kaq Km ([],[]) (Ka9 lots.l truths.l)).2⟩
def Ft (lots:Ti)(truths:Tb):Prop:=lots.l.length<90000
theorem GH (f:List (Pk×Int))(x:Pk):aN (AD f x) x=some ((aN (AD f x) x).getD 0):=by
 unfold AD
 by_cases c:¬((aN f x).isSome=true)
 ·rw [if_pos c,CQ c];rfl
 ·rw [if_neg c]
  cases h:aN f x with
  |none=>exact absurd (by rw [h];exact Ka8) c
  |some y=>rfl
theorem Lu (f:List (Pk×Int))(x:Pk):(AD f x).length<=f.length+1:=by
 unfold AD
 split
 ·exact Dw _ _ _
 ·omega
theorem zH (dg:Ti)(fT:Tb)(s:aa)(h0:Ft dg fT):JF Uk [.e dg,.e fT] s (nP dg fT) s false:=by
 refine gi rfl ?_
 unfold Ub nP
 show JB _ [.e dg,.e fT,.emp,.emp,.emp,.emp] _ _
 refine JB.ab (aB:=[.e dg,.e fT,.eI (aO ([]:List (Pk×Int))),.aC (Kaf enc ([]:List Int)) true,.emp,.emp]) (xS (p:=SP.LJ 2 (Gx 3 (SP.nil))) rfl) ?_
 have key:∀(xs:List Pk) (st:PS),st.1.length+xs.length<95000->st.2.length+xs.length<95000->bH Km (λst _=>st.1.length<100000/\st.2.length<100000) xs st:=by
  intro xs
  induction xs with
  |nil=>intro st _ _;trivial
  |cons x xs ih=>
   intro st h1 h2
   rw [Kad] at h1 h2
   have h3:=Lu st.1 x
   refine⟨⟨by omega,by omega⟩,ih _ ?_ ?_⟩
   ·show (AD st.1 x).length+xs.length<_
    omega
   ·show (st.2++[_]).length+xs.length<_
    rw [Kan,KaF];omega
 have hz:(Ka9 dg.l fT.l).length<=dg.l.length:=by rw [Kcj];omega
 have h0:dg.l.length<90000:=h0
 refine JB.ab (aB:=[.e dg,.e fT,.eI (aO (Kaq Km ([],[]) (Ka9 dg.l fT.l)).1),.aC (Kaf enc (Kaq Km ([],[]) (Ka9 dg.l fT.l)).2) true,.emp,.emp]) (tQ (J:=λ(st:PS)=>[.e dg,.e fT,.eI (aO st.1),.aC (Kaf enc st.2) true,.emp,.emp]) (R:=λ(st:PS) (x:Pk)=>[.e dg,.e fT,.eI (aO st.1),.aC (Kaf enc st.2) true,.e x.1,.e x.2]) (f:=Km) (d:=λst _=>st.1.length<100000/\st.2.length<100000) (st:=([],[])) (JI.yD (aj rfl) (aj rfl)) rfl (λ_ _=>rfl) ?_ (key _ _ (by show 0+_<_;omega) (by show 0+_<_;omega)) rfl) ?_
 ·intro st x hd
  obtain⟨h1,h2⟩:=hd
  refine gQ ?_
  refine JB.ab (s1:=s) (aB:=[.e dg,.e fT,.eI (aO (AD st.1 x)),.aC (Kaf enc st.2) true,.e x.1,.e x.2]) ?_ ?_
  ·unfold AD
   by_cases c:¬((aN st.1 x).isSome=true)
   ·rw [if_pos c]
    exact JN.Lb (JT.ab (JE.IM (x:=x) rfl (hxv (iK (aj rfl) (iK (aj rfl) (gK)))))) c (JN.OP (j:=x) rfl (JE.GK rfl) (hxv (iK (aj rfl) (iK (aj rfl) (gK)))) h1)
   ·rw [if_neg c]
    exact JN.Qi (JT.ab (JE.IM (x:=x) rfl (hxv (iK (aj rfl) (iK (aj rfl) (gK)))))) c rfl
  ·refine JB.ac (s1:=s) (aB:=[.e dg,.e fT,.eI (aO (AD st.1 x)),.aC (Kaf enc (st.2++[(aN (AD st.1 x) x).getD 0])) true,.e x.1,.e x.2]) (NH rfl (JE.V9 (x:=x) rfl (hxv (iK (aj rfl) (iK (aj rfl) (gK)))) (GH st.1 x)) h2) ?_
   exact rfl
 refine JB.frz (i:=3) rfl ?_
 show JB _ [.e dg,.e fT,.eI (aO (Kaq Km ([],[]) (Ka9 dg.l fT.l)).1),.dat (enc (Kaq Km ([],[]) (Ka9 dg.l fT.l)).2),.emp,.emp] _ _
 exact JB.ag (kO (JE.Rf (aj rfl)))
abbrev LW:=List (Ti×List Int)
def Wl:SS:=SS.ab (SS.aqQ 2) (SS.frzK 0 (iO (ijl 0) (SG.tup (jK (aT 3) (jK (aT 4) (c9.nil)))) (dR [3,4,5,6,7,8] (iO (SI.list (hjl 1)) (SG.tup (jK (aT 5) (jK (aT 6) (c9.nil)))) (dR [5,6,7,8] (SS.ab (cF 7 (SE.ac Uk (cK (hjl 3) (cK (hjl 6) (dK))))) (eM (ST.ab (vy (hjl 7) (hjl 3))) (SS.ab (cF 8 (NQ (SE.lst (Qu (hjl 4) (eK (hjl 5) (fK)))))) (eM (CF (ST.ab (Vb 2 (hjl 7))) (ST.ab (SE.QB (hjl 8) (Ve 2 (hjl 7))))) (ijt 2 (hjl 7) (hjl 8)) (SS.ac))) (SS.ac))))))))
def El (x1:Ti×List Int)(st:LW)(x2:Int×Tb):LW:=
 if nP x1.1 x2.2≠x1.1 then (if ¬((aN st (nP x1.1 x2.2)).isSome=true)∨HT.lexLt (sortI (x1.2++[x2.1])) ((aN st (nP x1.1 x2.2)).getD [])=true then fG st (nP x1.1 x2.2) (sortI (x1.2++[x2.1])) else st) else st
def Rv (x1:Ti×List Int)(st:LW)(x2:Int×Tb):Prop:=Ft x1.1 x2.2/\(x1.2++[x2.1]).length<=100000/\st.length<100000
def Ob (ways:List (Int×Tb))(st:LW)(x1:Ti×List Int):LW:=Kaq (El x1) st ways
def VP (ways:List (Int×Tb))(st:LW)(x1:Ti×List Int):Prop:=bH (El x1) (Rv x1) ways st
def Ar (level:LW)(ways:List (Int×Tb)):LW:=Kaq (Ob ways) [] level
def yI (level:LW)(ways:List (Int×Tb)):Prop:=bH (Ob ways) (VP ways) level []
def l_:Nat:=1000
def WY:SS:=SS.ab (Jh (SE.ac Oq (cK (hjl 0) (dK)))) (SS.ab (cF 1 (SE.ac O3 (cK (hjl 0) (dK)))) (SS.ab (eM (ST.ab (qw (gR (hjl 1)) (SE.ab 2))) (SS.ag (SE.lst (fK))) (SS.ac)) (SS.ab (cF 2 (SE.ac OO (cK (hjl 1) (dK)))) (SS.ab (SS.GL 3 (SE.C1 (SE.tup (eK (SE.ab 0) (fK))) (gR (hjl 1))) (SE.lst (fK))) (SS.ab (cF 4 (ijk (gR (hjl 1)))) (SS.ab (ED l_ (ST.ab (Vb 3 (hjl 4))) (SS.QX 3 7 2 Wl (hjl 2))) (SS.ag (Ve 3 (hjl 4)))))))))
abbrev Mw:=aX
def vK (unlike:List Mw):Ti:=⟨rng 0 ((unlike.length:Nat):Int)⟩
def FF (unlike:List Mw):LW:=[(⟨Kak ((unlike.length:Nat):Int).toNat 0⟩,[])]
def Jb (unlike:List Mw):LW:=lA (λl:LW=>¬((aN l (vK unlike)).isSome=true)) (λl=>Ar l (jf unlike)) l_ (FF unlike)
def nJ (ai:List Mw):List Int:=
 if (((b8 ai).length:Nat):Int)<2 then [] else (aN (Jb (b8 ai)) (vK (b8 ai))).getD []
def wR (ai:List Mw):Prop:=
 Au ai/\vg ai/\(¬((((b8 ai).length:Nat):Int)<2)->yW (b8 ai)/\(b8 ai).length<=1000 /\
  vn (λl:LW=>¬((aN l (vK (b8 ai))).isSome=true)) (λl=>Ar l (jf (b8 ai))) (λ_=>True) (λl=>yI l (jf (b8 ai))) l_ (FF (b8 ai)) /\
  (aN (Jb (b8 ai)) (vK (b8 ai))).isSome=true)
end
end Pu
namespace Pu
open PySem PySem.Spec PyProof.Rows L2
end Pu
namespace Pu
open PySem PySem.Spec PyProof.Rows L2 Enc
noncomputable section
def Jf (d e:PyData):Option Vl:=(e_ e).bind λds=>if cH d=true/\ds.all cH=true then some (.bool (ds.any λe=>PyData.eqv e d),true) else none
def SE.Gz:SE->SE->SE:=ji (λK=>rIn K false) Jf (by
 intro K F H x y d e as bs z Q s r1 r2 h q
 unfold Jf at h
 obtain⟨ds,h1,h⟩:=aL h
 split at h
 ·rename_i hh
  cases h
  obtain⟨a,xs,rfl,ha,hr⟩:=r2.e_ h1
  refine⟨a,xs,rfl,.inr (PZ s ha),UN r1 hh.1,gzd hr hh.2,?_⟩
  rw [hzc r1 hh.1 hr hh.2]
  exact q.here (z:=(.bool _,true)) s (.bl _) .nil
 ·cases h)
theorem vR (bs:List Bool):(bs.map PyData.bool).all cH=true:=by
 induction bs with
 |nil=>rfl
 |cons b bs ih=>rw [Kai,Ka3,ih];rfl
theorem any_bools (b:Bool)(bs:List Bool):((bs.map PyData.bool).any λe=>PyData.eqv e (.bool b))=decide (b∈bs):=by
 induction bs with
 |nil=>rfl
 |cons c bs ih=>
  rw [Kai,Kcd,ih]
  have e:PyData.eqv (.bool c) (.bool b)=decide (c=b):=by cases b <;> cases c <;> simp [PyData.eqv]
  rw [e]
  cases b <;> cases c <;> simp
theorem JE.Gz {ρ:List Slot}{s s1 s2:aa}{a e:SE}{w1 w2:Bool}{b:Bool}{x:Tb}(ha:JE a ρ s b s1 w1)(hb:JE e ρ s1 x s2 w2):JE (SE.Gz a e) ρ s (decide (b∈x.l)) s2 true:=by
 obtain⟨_,ea,_⟩:=ha
 obtain⟨_,eb,_⟩:=hb
 refine⟨true,d7 ea eb ?_,λ_=>rfl⟩
 show (if cH (.bool b)=true/\(x.l.map PyData.bool).all cH=true then some (PyData.bool ((x.l.map PyData.bool).any λe=>PyData.eqv e (.bool b)),true) else none)=_
 rw [if_pos ⟨rfl,vR _⟩,any_bools];rfl
theorem JE.G2 {α:Type}[bF α][DecidableEq α]{ρ:List Slot}{s s1 s2:aa}{a b:SE}{w1 w2:Bool}{x:α}{xs:List α}{q:Decidable (x∉xs)}(ha:JE a ρ s x s1 w1)(hb:JE b ρ s1 xs s2 w2)(hd:bF.dep α<=63:=by decide):JE (NU a b) ρ s (@decide (x∉xs) q) s2 true:=by
 have h:=JE.Dd (inst:=inferInstance) ha hb hd
 have gen:∀q':Decidable (x∉xs),JE (NU a b) ρ s (@decide (x∉xs) q') s2 true->JE (NU a b) ρ s (@decide (x∉xs) q) s2 true:=λq' h=>by
  cases (Subsingleton.elim q' q)
  exact h
 exact gen _ h
end
noncomputable section
theorem BP {F:Hp}{as:List Addr}{ws:List bW}{es:List wK}(h:Paired (iD F as) ws es){j:NestedKey}{b:Addr}{kd vd:PyData}{v:V}{ks bs:List Addr}(hb:dD F j b)(rk:Rp F (.ref b) kd ks)(rv:Rp F v vd bs)(nd:bs.Nodup)(sub:∀a∈bs,a∈as):Paired (iD F as) (fH ws j b v) (iw es j kd vd):=by
 have e:=OQ (Nm (M7 h) j)
 unfold fH iw
 rw [e]
 by_cases c:(b7 es j).isSome=true
 ·rw [if_pos c,if_pos c]
  clear c e
  induction h with
  |nil=>exact .nil
  |@cons p e ps es h t ih=>
   rw [Kai,Kai]
   refine .cons ?_ ih
   obtain⟨h1,h2,h3,h4⟩:=h
   by_cases c:p.1=j
   ·rw [if_pos c,if_pos (h1.symm.trans c)];exact⟨h1,h2,h3,bs,rv,nd,sub⟩
   ·rw [if_neg c,if_neg (λz=>c (h1.trans z))];exact⟨h1,h2,h3,h4⟩
 ·rw [if_neg c,if_neg c]
  exact ku h ⟨rfl,hb,⟨ks,rk⟩,bs,rv,nd,sub⟩
/-- x={} -/
def SS.GX (i:Nat):SS where
 t:=λ_=>tAsg PN (gName i)
 ev:=λρ s=>some (.nx (ρ.set i (.cB [])) s)
 ok:=by
  intro K sk F0 H0 F H σ ρ ak s out D w h q a na
  cases h
  have sr:bw F H F (L2.upd H a (bV a [])):=.raw (sk:=sk) w.st.sub' na
  have w1:=w.next (sr.any (sk:=sk)) (w.bh.keep sr)
  have wq:H0 a=none:=by
   cases q:H0 a with
   |none=>rfl
   |some u=>exact absurd na (w.st.dm a (by rw [q];exact nofun))
  have nd:([a]++ak.flatten).Nodup:=Kal.mpr ⟨by simp,w.dX,λb mb c mc z=>by
   have:b=a:=by simpa using mb
   subst z
   exact (w.bT b mc).2.1 (by rw [this];exact na)⟩
  obtain⟨m1,m2⟩:=u7 (i:=i) nd
  have wa:Wd sk F0 H0 F (L2.upd H a (bV a [])) (σ.set i (some (.ref a))) (ρ.set i (.cB [])) (ak.set i [a]) s:=by
   refine⟨w1.st,w1.bh,w1.slots.set ⟨a,[],[],rfl,upd_same,w.st.sub'.free na,(.nil:Paired (iD F []) [] []),(λb m=>nomatch m),rfl⟩,m1,λb m=>?_⟩
   rcases m2 b m with z|z
   ·have:b=a:=by simpa using z
    subst this
    exact⟨wq,by rw [upd_same];exact nofun,fJ w.bh na⟩
   ·exact w1.bT b z
  exact q F _ _ _ (Same.refl _) wa
/-- k not in d -/
def ixr (i:Nat)(k:SE):SE where
 t:=λK=>TZ (k.t K) (tVar i)
 ev:=λρ s=>match ρ[i]? with
  |some (.cB f)=>(k.ev ρ s).bind λy=>match cj y.1.1 with
   |some j=>some ((.bool (!(b7 f j).isSome),true),y.2)
   |none=>none
  |_=>none
 ok:=by
  intro K sk F H σ ρ ak s vl s' Q p h q
  dsimp only at h
  split at h
  ·rename_i f cz
   obtain⟨⟨⟨y,fl⟩,s2⟩,h3,h4⟩:=aL h
   dsimp only at h4
   split at h4
   ·rename_i j ej
    cases h4
    obtain⟨xv,fp,e1,e2,a,ws,as,rfl,hH,hF,hr0,h4,rfl⟩:=p.slots.get cz
    have hr:=M7 hr0
    refine k.ok K p h3 λkv F2 H2 bs st2 k2 r2 f2=>?_
    have fa:a∈ak.flatten:=Kaw.mpr ⟨_,Kar e2,Kaa⟩
    have h_:H2 a=some (bV a ws):=st2.fr a _ (λz=>p.jH a z fa) hH
    obtain⟨b,rfl,hb⟩:=r2.cj ej
    refine⟨.ref a,e1,a,b,ws,j,rfl,rfl,h_,λp hp=>((IG hr p hp).mono st2.sub).mono st2.sub',hb.mono st2.sub',?_⟩
    rw [OQ (Nm hr j)]
    exact q _ F2 H2 [] st2 k2 (.bl _) .nil
   ·cases h4
  ·cases h
/-- d[k] -/
def SE.Fz (i:Nat)(k:SE):SE where
 t:=λK=>UQ (tVar i) (k.t K)
 ev:=λρ s=>match ρ[i]? with
  |some (.cB f)=>(k.ev ρ s).bind λy=>match cj y.1.1 with
   |some j=>(b7 f j).map λd=>((d,false),y.2)
   |none=>none
  |_=>none
 ok:=by
  intro K sk F H σ ρ ak s vl s' Q p h q
  dsimp only at h
  split at h
  ·rename_i f cz
   obtain⟨⟨⟨y,fl⟩,s2⟩,h3,h4⟩:=aL h
   dsimp only at h4
   split at h4
   ·rename_i j ej
    obtain⟨d,h5,h6⟩:=Kap.mp h4
    cases h6
    obtain⟨xv,fp,e1,e2,a,ws,as0,rfl,hH,hF,hr0,Qc,rfl⟩:=p.slots.get cz
    have hr:=M7 hr0
    refine⟨.ref a,e1,?_⟩
    refine k.ok K p h3 λkv F2 H2 bs st2 k2 r2 f2=>?_
    have hz:=Nm hr j
    rw [h5] at hz
    obtain⟨v,as,hv,rv⟩:=T6 hz
    have fa:a∈ak.flatten:=Kaw.mpr ⟨_,Kar e2,Kaa⟩
    have h_:H2 a=some (bV a ws):=st2.fr a _ (λz=>p.jH a z fa) hH
    obtain⟨b,rfl,hb⟩:=r2.cj ej
    exact⟨a,b,ws,j,v,rfl,rfl,h_,λp hp=>((IG hr p hp).mono st2.sub).mono st2.sub',hb.mono st2.sub',hv,q v F2 H2 as st2 k2 (rv.mono st2.sub) .no⟩
   ·cases h4
  ·cases h
theorem BO {F:Hp}{as:List Addr}{ws:List bW}{es:List wK}(h:Paired (iD F as) ws es){j:NestedKey}{d:PyData}(hd:b7 es j=some d):∃v bs,dz ws j=some v/\Rp F v d bs/\bs.Nodup/\∀b∈bs,b∈as:=by
 induction h with
 |nil=>cases hd
 |@cons p e ps es h t ih=>
  rw [Zs] at hd
  rw [Er]
  obtain⟨h1,_,_,bs,r,nd,sub⟩:=h
  by_cases c:e.1=j
  ·rw [if_pos c] at hd
   cases hd
   rw [if_pos (h1.trans c)]
   exact⟨_,bs,rfl,r,nd,sub⟩
  ·rw [if_neg c] at hd
   rw [if_neg (λz=>c (h1.symm.trans z))]
   exact ih hd
/-- return d[k]: what is handed back is yf own -/
def SS.Hl (i:Nat)(k:SE):SS where
 t:=λK=>tRet (UQ (tVar i) (k.t K))
 ev:=λρ s=>match ρ[i]? with
  |some (.cB f)=>(k.ev ρ s).bind λy=>match cj y.1.1 with
   |some j=>(b7 f j).map λd=>.ret (d,true) y.2
   |none=>none
  |_=>none
 ok:=by
  intro K sk F0 H0 F H σ ρ ak s out D w h q
  dsimp only at h
  split at h
  ·rename_i f cz
   obtain⟨⟨⟨y,fl⟩,s2⟩,h3,h4⟩:=aL h
   dsimp only at h4
   split at h4
   ·rename_i j ej
    obtain⟨d,h5,h6⟩:=Kap.mp h4
    cases h6
    obtain⟨xv,fp,e1,e2,a,ws,as0,rfl,hH,hF,hr0,Qc,rfl⟩:=w.slots.get cz
    have hr:=M7 hr0
    refine⟨.ref a,e1,?_⟩
    refine k.ok K w.pre h3 λkv F2 H2 bs st2 k2 r2 f2=>?_
    obtain⟨v,as,hv,rv,nd,sub⟩:=BO hr0 h5
    have fa:a∈ak.flatten:=Kaw.mpr ⟨_,Kar e2,Kaa⟩
    have h_:H2 a=some (bV a ws):=st2.fr a _ (λz=>w.pre.jH a z fa) hH
    obtain⟨b,rfl,hb⟩:=r2.cj ej
    refine⟨a,b,ws,j,v,rfl,rfl,h_,λp hp=>((IG hr p hp).mono st2.sub).mono st2.sub',hb.mono st2.sub',hv,?_⟩
    exact q v F2 H2 as (w.st.trans st2) k2 (rv.mono st2.sub) λ_=>⟨nd,λc m=>(w.bT c (Kaw.mpr ⟨_,Kar e2,Kab _ (sub c m)⟩)).1⟩
   ·cases h4
  ·cases h
/-- d[k]=x,a name whose value is yf own;bM name is not read behind it -/
def SS.xu (i:Nat)(k:SE)(j:Nat):SS where
 t:=λK=>KU (tVar i) (k.t K) (tVar j)
 ev:=λρ s=>match ρ[i]?,ρ[j]? with
  |some (.cB f),some (.own d)=>if i≠j then (k.ev ρ s).bind λy=>match cj y.1.1 with
   |some kj=>if f.length<100000 then some (.nx ((ρ.set j .emp).set i (.cB (iw f kj y.1.1 d))) y.2) else none
   |none=>none
   else none
  |_,_=>none
 ok:=by
  intro K sk F0 H0 F H σ ρ ak s out D w h q
  dsimp only at h
  split at h
  ·rename_i f d cz Pg
   split at h
   ·rename_i hij
    obtain⟨⟨⟨y,fl⟩,s2⟩,h3,h4⟩:=aL h
    dsimp only at h4
    split at h4
    ·rename_i kj ej
     split at h4
     ·rename_i hl
      cases h4
      obtain⟨xj,fpj,ej1,ej2,vj,rfl,rj⟩:=w.slots.get Pg
      refine⟨vj,ej1,?_⟩
      obtain⟨xv,fp,e1,e2,a,ws,as,rfl,hH,hF,hr,h4,rfl⟩:=w.slots.get cz
      refine⟨.ref a,e1,?_⟩
      refine k.ok K w.pre h3 λkv F2 H2 bs st2 k2 r2 f2=>?_
      have w2:=w.next st2 k2
      obtain⟨xv2,YR,sP,Et,a2,pY,as2,ez,h_,xH,hr2,Qe,W7⟩:=w2.slots.get cz
      rw [e1] at sP
      have KC:a2=a:=by
       have:=Option.some.inj sP
       subst this
       have:=Option.some.inj ez
       injection this with this
       exact this.symm
      subst KC
      rw [W7] at Et
      obtain⟨xj2,B7,O6,O7,vj2,ezj,rj2⟩:=w2.slots.get Pg
      rw [ej1] at O6
      have evj:vj2=vj:=by
       have:=Option.some.inj O6
       subst this
       exact (Option.some.inj ezj).symm
      subst evj
      obtain⟨b,rfl,hb⟩:=r2.cj ej
      have AN:pY.length=f.length:=Paired.length hr2
      refine⟨a2,b,pY,kj,rfl,rfl,h_,λp hp=>(IG (M7 hr2) p hp).mono st2.sub',hb.mono st2.sub',by rw [AN];exact Ka4 hl (by decide),?_⟩
      -- bM KW
      obtain⟨n1,n2⟩:=vm w2.dX O7
      have n3:=Kal.mp n1
      have e3:(ak.set j [])[i]? = some (a2::as2):=by rw [KcS (Ne.symm hij)];exact Et
      obtain⟨p1,p2⟩:=vm n3.2.1 e3
      have p3:=Kal.mp p1
      have big:((a2::as2++B7)++((ak.set j []).set i []).flatten).Nodup:=Kal.mpr ⟨Kal.mpr ⟨p3.1,n3.1,λc mc d md z=>n3.2.2 d md c (p2 c (Kac _ mc)) z.symm⟩,p3.2.1,λc mc d md z=>by
       rcases Kam.mp mc with mc|mc
       ·exact p3.2.2 c mc d md z
       ·exact n3.2.2 c mc d (p2 d (Kao _ md)) z⟩
      have na:a2∉((ak.set j []).set i []).flatten:=λm=>p3.2.2 a2 Kaa a2 m rfl
      have fa:a2∈ak.flatten:=Kaw.mpr ⟨_,Kar Et,Kaa⟩
      obtain⟨a0,a1,a3⟩:=w2.bT a2 fa
      have ndj:=n3.1
      have aqP:∀c∈B7,∃xs,F2 c=some (.lst xs):=λc m=>rj2.dom c m
      generalize hws:fH pY kj b vj2=gn
      have st':Step sk F0 H0 F2 (L2.upd H2 a2 (bV a2 gn)):=by
       refine⟨w2.st.sub,λb u e=>?_,λb u hb e hs=>?_,λb h=>?_,w2.st.new⟩
       ·rw [upd_ne (λz=>by rw [z,xH] at e;cases e)];exact w2.st.sub' b u e
       ·rw [upd_ne (λz=>by rw [z,a0] at e;cases e)];exact w2.st.fr b u hb e
       ·by_cases z:b=a2
        ·rw [z,upd_same];exact nofun
        ·rw [upd_ne z];exact w2.st.dm b h
      have dj:bA sk F2 (L2.upd H2 a2 (bV a2 gn)) s2:=⟨λb e=>⟨by rw [upd_ne (λz=>a3 (by rw [<-z];exact e))];exact (w2.bh b e).1,(w2.bh b e).2⟩,Es w2.bh.tab h_ Ks⟩
      have hk:Paired (iD F2 (as2++B7)) gn (iw f kj y d):=by
       rw [<-hws]
       exact BP (gxi (Same.refl _) (λc m=>Kac _ m) hr2) hb r2 rj2 ndj λc m=>Kao _ m
      have sl:=((w2.slots.drop (i:=j)).drop (i:=i)).q7 (a:=a2) (o:=bV a2 gn) na
      have sl2:=sl.fill (sl:=.cB (iw f kj y d)) (fp:=a2::(as2++B7)) e1 ⟨a2,gn,as2++B7,rfl,upd_same,xH,hk,λc m=>by
       rcases Kam.mp m with m|m
       ·exact Qe c m
       ·exact aqP c m,rfl⟩
      rw [KaI,KaI] at sl2
      obtain⟨m1,m2⟩:=u7 (i:=i) big
      rw [KaI] at m1 m2
      refine q F2 _ σ _ st2.sub ⟨st',dj,sl2,m1,λc m=>?_⟩
      have hc:c∈ak.flatten:=by
       rcases m2 c m with z|z
       ·rcases Kam.mp z with z|z
        ·exact Kaw.mpr ⟨_,Kar Et,z⟩
        ·exact Kaw.mpr ⟨_,Kar O7,z⟩
       ·exact n2 c (Kao _ (p2 c (Kao _ z)))
      have:=w2.bT c hc
      refine⟨this.1,?_,this.2.2⟩
      by_cases z:c=a2
      ·rw [z,upd_same];exact nofun
      ·rw [upd_ne z];exact this.2.1
     ·cases h4
    ·cases h4
   ·cases h
  ·cases h
/-- bM dict is only read from here on -/
def SS.FW (i:Nat)(b:SS):SS where
 t:=λK=>Mm (b.t K)
 ev:=λρ s=>match ρ[i]? with
  |some (.cB es)=>b.ev (ρ.set i (.g9 es)) s
  |_=>none
 ok:=by
  intro K sk F0 H0 F H σ ρ ak s out D w h q
  dsimp only at h
  split at h
  ·rename_i es cz
   obtain⟨x,fp,e1,e2,a,ws,as,rfl,hH,hF,hr0,Qc,rfl⟩:=w.slots.get cz
   have hr:=M7 hr0
   have fa:a∈ak.flatten:=Kaw.mpr ⟨_,Kar e2,Kaa⟩
   obtain⟨a0,a1,a2⟩:=w.bT a fa
   obtain⟨n1,n2⟩:=vm w.dX e2
   have n3:=Kal.mp n1
   have na:a∉(ak.set i []).flatten:=λm=>n3.2.2 a Kaa a m rfl
   refine⟨a,bV a ws,hH,True.intro,λod=>?_⟩
   have sF:Same F (L2.upd F a (.frz od (bV a ws))):=λb u e=>by rw [upd_ne (ne_of_none e hF)];exact e
   have st':Step sk F0 H0 (L2.upd F a (.frz od (bV a ws))) (L2.upd H a (.frz od (bV a ws))):=by
    refine⟨w.st.sub.trans sF,λb u e=>?_,λb o hb e hs=>?_,λb h=>?_,λb u e=>?_⟩
    ·by_cases z:b=a
     ·rw [z,upd_same] at e ⊢;exact e
     ·rw [upd_ne z] at e ⊢;exact w.st.sub' b u e
    ·rw [upd_ne (λz=>by rw [z,a0] at e;cases e)];exact w.st.fr b o hb e
    ·by_cases z:b=a
     ·rw [z,upd_same];exact nofun
     ·rw [upd_ne z];exact w.st.dm b h
    ·by_cases z:b=a
     ·rw [z];exact .inr a0
     ·rw [upd_ne z] at e;exact w.st.new b u e
   have qY:bA sk F (L2.upd H a (.frz od (bV a ws))) s:=⟨λb e=>⟨by rw [upd_ne (λz=>a2 (by rw [<-z];exact e))];exact (w.bh b e).1,(w.bh b e).2⟩,Es w.bh.tab hH Ks⟩
   have dj:bA sk (L2.upd F a (.frz od (bV a ws))) (L2.upd H a (.frz od (bV a ws))) s:=⟨λb e=>⟨(qY b e).1,by rw [upd_ne (λz=>a2 (by rw [<-z];exact e))];exact (qY b e).2⟩,⟨qY.tab.t,λb ps z=>by
    by_cases zz:b=a
    ·rw [zz,upd_same] at z;cases z
    ·rw [upd_ne zz] at z;exact qY.tab.n b ps z⟩⟩
   have Q2:=(w.slots.drop (i:=i)).q7 (a:=a) (o:=.frz od (bV a ws)) na
   have sl2:=Q2.upd (a:=a) (o:=.frz od (bV a ws)) na hF
   have DW:=sl2.fill (sl:=.g9 es) (fp:=[]) e1 ⟨rfl,a,od,ws,rfl,upd_same,Ku sF hr⟩
   rw [KaI,KaI] at DW
   have w':Wd sk F0 H0 (L2.upd F a (.frz od (bV a ws))) (L2.upd H a (.frz od (bV a ws))) σ (ρ.set i (.g9 es)) (ak.set i []) s:=⟨st',dj,DW,n3.2.1,λb m=>by
    have hb:=w.bT b (ou.mem m)
    refine⟨hb.1,?_,hb.2.2⟩
    rw [upd_ne (λz=>na (by rw [<-z];exact m))];exact hb.2.1⟩
   exact b.ok K w' h (q.mono sF)
  ·cases h
theorem oW {fp:List Addr}:∀{l:List (List Addr)} {i:Nat},l.flatten=[]->(l.set i fp).flatten.Sublist fp
 |[],i,_=>by simp
 |x::l,0,h=>by
  rw [Kav] at h
  obtain⟨h1,h2⟩:=KbI.mp h
  rw [Kco,Kav,h2,KaE]
  exact Ka2.refl _
 |x::l,i+1,h=>by
  rw [Kav] at h
  obtain⟨h1,h2⟩:=KbI.mp h
  rw [Kcp,Kav,h1,Ka1]
  exact oW h2
/-- x=f(x,e): x is a dict whose values are its own -/
def SS.qW (i nl r:Nat)(b:SS)(e:SE):SS where
 t:=λK=>tAsg (tCall (Af 2 nl r b) [] E0 (tCons (tVar i) (tCons (e.t K) tNil))) (gName i)
 ev:=λρ s=>match ρ[i]? with
  |some (.cB es)=>(e.ev ρ s).bind λy=>if (ρ.set i .emp).all Js=true then match b.ev ([.cB es,.dat y.1.1]++Kak nl .emp) y.2 with
   |some (Out.nx ρ' s')=>match (ρ'[r]?:Option Slot) with
    |some (Slot.cB es')=>some (.nx (ρ.set i (.cB es')) s')
    |_=>none
   |_=>none
   else none
  |_=>none
 ok:=by
  intro K sk F0 H0 F H σ ρ ak s out D w h q
  dsimp only at h
  split at h
  ·rename_i es cz
   obtain⟨⟨y,s2⟩,h2,h⟩:=aL h
   dsimp only at h
   split at h
   ·rename_i hn
    split at h
    ·rename_i ρ' s' he
     split at h
     ·rename_i es' er
      cases h
      obtain⟨xv0,fp0,Pd,ef0,a0,ws0,as0,rfl,hH0,hF0,hr0,Qc,rfl⟩:=w.slots.get cz
      refine⟨.ref a0,Pd,?_⟩
      refine e.ok K w.pre h2 λv2 F2 H2 as2 st2 k2 r2 g2=>?_
      have w2:=w.next st2 k2
      obtain⟨xv,fp,ex,ef,a,ws,as,ez,hH,hF,hr,h4,W7⟩:=w2.slots.get cz
      have ea:a=a0:=by
       rw [Pd] at ex
       have:=Option.some.inj ex
       subst this
       have:=Option.some.inj ez
       injection this with this
       exact this.symm
      subst ea
      rw [W7] at ef
      have nf:=(Kal.mp (vm w2.dX ef).1).1
      have wc:Wd sk F0 H0 F2 H2 ([.ref a,v2].map some) [.cB es,.dat y.1] [a::as,[]] s2:=⟨w2.st,w2.bh,.cons ⟨a,ws,as,rfl,hH,hF,hr,h4,rfl⟩ (.cons ⟨rfl,v2,as2,rfl,r2⟩ .nil),by simpa using nf,λc m=>by
       have:c∈a::as:=by simpa using m
       exact w2.bT c (Kaw.mpr ⟨_,Kar ef,this⟩)⟩
      refine⟨sk,F0,H0,F2,[.cB es,.dat y.1],[a::as,[]],s2,ρ',s',rfl,wc,he,λF' H' σ' aH sF w'=>?_⟩
      obtain⟨xv3,fp3,Xw,S3,a2,pY,rV,rfl,h_,xH,hr2,Qe,rfl⟩:=w'.slots.get er
      refine⟨.ref a2,Xw,?_⟩
      have sl:=pK (H':=H') sF (w2.slots.drop (i:=i)) hn
      have fl:=um (w2.slots.drop (i:=i)) hn
      have sl2:=sl.set (i:=i) (x:=some (.ref a2)) (sl:=.cB es') (fp:=a2::rV) ⟨a2,pY,rV,rfl,h_,xH,hr2,Qe,rfl⟩
      rw [KaI] at sl2
      have sub:=oW (fp:=a2::rV) (i:=i) fl
      have nf2:=(Kal.mp (vm w'.dX S3).1).1
      exact q F' H' _ _ (st2.sub.trans sF) ⟨w'.st,w'.bh,sl2,nf2.sublist sub,λc m=>by
       have m:c∈a2::rV:=sub.mem m
       exact w'.bT c (Kaw.mpr ⟨_,Kar S3,m⟩)⟩
     ·cases h
    ·cases h
   ·cases h
  ·cases h
end
noncomputable section
/-- x={k: v},v is yf own -/
def SS.GN (i:Nat)(k v:SE):SS where
 t:=λK=>tAsg (P4 (k.t K) (v.t K)) (gName i)
 ev:=λρ s=>(k.ev ρ s).bind λx=>(v.ev ρ x.2).bind λy=>match cj x.1.1 with
  |some j=>if y.1.2=true then some (.nx (ρ.set i (.cB [(j,x.1.1,y.1.1)])) y.2) else none
  |none=>none
 ok:=by
  intro K sk F0 H0 F H σ ρ ak s out D w h q a na
  obtain⟨⟨⟨x,fx⟩,s1⟩,h1,h⟩:=aL h
  obtain⟨⟨⟨y,fy⟩,s2⟩,h2,h⟩:=aL h
  dsimp only at h
  split at h
  ·rename_i j ej
   split at h
   ·rename_i hfy
    cases h
    have p:=w.pre
    have sr:bw F H F (L2.upd H a (bV a [])):=.raw (sk:=sk) w.st.sub' na
    have p1:=p.next (sr.any (sk:=sk)) (p.bh.keep sr)
    refine k.ok K p1 h1 λvk F1 H1 as1 st1 k1 r1 g1=>?_
    have p2:=p1.next st1 k1
    refine v.ok K p2 h2 λvv F2 H2 as2 st2 k2 r2 g2=>?_
    obtain⟨ndv,frv⟩:=g2 hfy
    obtain⟨b,rfl,hb⟩:=r1.cj ej
    have np:sk≠some a:=fJ w.bh na
    have iz:=st1.trans st2
    have aqC:H1 a=some (bV a []):=st1.fr a _ np upd_same
    have AL:H2 a=some (bV a []):=iz.fr a _ np upd_same
    have nF:F a=none:=w.st.sub'.free na
    have LD:F2 a=none:=by
     cases z:F2 a with
     |none=>rfl
     |some u=>
      rcases iz.new a u z with z|z
      ·rw [nF] at z;cases z
      ·rw [upd_same] at z;cases z
    refine⟨b,j,rfl,AL,hb.mono (st2.sub.trans st2.sub'),?_⟩
    have st:Step sk F H F2 (L2.upd H2 a (bV a [(j,b,vv)])):=by
     refine⟨iz.sub,λc u e=>?_,λc o hc e hs=>?_,λc e=>?_,λc u e=>?_⟩
     ·rw [upd_ne (λz=>by rw [z,LD] at e;cases e)];exact iz.sub' c u e
     ·have z:c≠a:=λz=>by rw [z,na] at e;cases e
      rw [upd_ne z]
      exact iz.fr c o hc (by rw [upd_ne z];exact e) hs
     ·have z:c≠a:=λz=>e (by rw [z];exact na)
      rw [upd_ne z]
      exact iz.dm c (by rw [upd_ne z];exact e)
     ·rcases iz.new c u e with z|z
      ·exact .inl z
      ·have zz:c≠a:=λzz=>by rw [zz,LD] at e;cases e
       rw [upd_ne zz] at z
       exact .inr z
    have dj:bA sk F2 (L2.upd H2 a (bV a [(j,b,vv)])) s2:=⟨λc e=>⟨by rw [upd_ne (λz=>np (by rw [<-z];exact e))];exact (k2 c e).1,(k2 c e).2⟩,Es k2.tab AL Ks⟩
    have w1:=w.next st dj
    have wq:H0 a=none:=by
     cases q:H0 a with
     |none=>rfl
     |some u=>exact absurd na (w.st.dm a (by rw [q];exact nofun))
    -- bM Vo KW are new
    have jU:∀c,H c≠none->H1 c≠none:=λc hc=>st1.dm c (by
     have z:c≠a:=λz=>hc (by rw [z];exact na)
     rw [upd_ne z];exact hc)
    have Y5:∀c∈as2,H0 c=none/\H c=none/\c≠a:=λc m=>by
     have h1:=frv c m
     have hc:H c=none:=Classical.byContradiction λz=>jU c z h1
     refine⟨?_,hc,λz=>by rw [z,aqC] at h1;cases h1⟩
     exact Classical.byContradiction λz=>w.st.dm c z hc
    have nd:((a::as2)++ak.flatten).Nodup:=Kal.mpr ⟨KaP.mpr ⟨λm=>(Y5 a m).2.2 rfl,ndv⟩,w.dX,λb mb c mc z=>by
     subst z
     rcases Kah.mp mb with z|z
     ·exact (w.bT b mc).2.1 (by rw [z];exact na)
     ·exact (w.bT b mc).2.1 (Y5 b z).2.1⟩
    obtain⟨m1,m2⟩:=u7 (i:=i) nd
    have wa:Wd sk F0 H0 F2 (L2.upd H2 a (bV a [(j,b,vv)])) (σ.set i (some (.ref a))) (ρ.set i (.cB [(j,x,y)])) (ak.set i (a::as2)) s2:=by
     refine⟨w1.st,w1.bh,w1.slots.set ⟨a,[(j,b,vv)],as2,rfl,upd_same,LD,.cons ⟨rfl,hb.mono st2.sub,⟨as1,r1.mono st2.sub⟩,as2,r2,ndv,λ_ m=>m⟩ .nil,λc m=>r2.dom c m,rfl⟩,m1,λc m=>?_⟩
     rcases m2 c m with z|z
     ·rcases Kah.mp z with z|z
      ·rw [z];exact⟨wq,by rw [upd_same];exact nofun,np⟩
      ·obtain⟨u1,u2,u3⟩:=Y5 c z
       obtain⟨xs,hx⟩:=r2.dom c z
       refine⟨u1,?_,fJ w.bh u2⟩
       rw [upd_ne u3,st2.sub' _ _ hx];exact nofun
     ·exact w1.bT c z
    exact q F2 _ _ _ st.sub wa
   ·cases h
  ·cases h
section
variable {κ β:Type}[Enc κ][bO κ][DecidableEq κ][Enc β]
variable {ρ aB cY:List Slot}{s s1 s2:aa}{e e2:SE}{i:Nat}{w w1 w2:Bool}
theorem JE.IP {f:List (κ×β)}{x:κ}(hi:ρ[i]? = some (.cB (aO f)))(h:JE e ρ s x s1 w):JE (ixr i e) ρ s (decide (¬((aN f x).isSome=true))) s1 true:=by
 obtain⟨_,h,_⟩:=h
 refine⟨true,?_,λ_=>rfl⟩
 show (match ρ[i]? with|some (.cB f)=>_|_=>_)=_
 rw [hi]
 show ((e.ev ρ s).bind _)=_
 rw [h]
 show (match cj (enc x) with|some j=>some ((PyData.bool (!(b7 (aO f) j).isSome),true),s1)|none=>none)=_
 rw [bO.ok]
 show some ((PyData.bool (!(b7 (aO f) (bO.nums x)).isSome),true),s1)=_
 rw [KI]
 cases aN f x <;> rfl
theorem JE.Fz {f:List (κ×β)}{x:κ}{y:β}(hi:ρ[i]? = some (.cB (aO f)))(h:JE e ρ s x s1 w)(hy:aN f x=some y):JE (SE.Fz i e) ρ s y s1 false:=by
 obtain⟨_,h,_⟩:=h
 refine⟨false,?_,nofun⟩
 show (match ρ[i]? with|some (.cB f)=>_|_=>_)=_
 rw [hi]
 show ((e.ev ρ s).bind _)=_
 rw [h]
 show (match cj (enc x) with|some j=>(b7 (aO f) j).map λd=>((d,false),s1)|none=>none)=_
 rw [bO.ok]
 show (b7 (aO f) (bO.nums x)).map _=_
 rw [KI,hy];rfl
theorem JB.Hl {f:List (κ×β)}{x:κ}{y:β}(hi:ρ[i]? = some (.cB (aO f)))(h:JE e ρ s x s1 w)(hy:aN f x=some y):JB (SS.Hl i e) ρ s (nO true s1 y):=by
 obtain⟨_,h,_⟩:=h
 refine⟨.ret (enc y,true) s1,?_,true,rfl,λ_=>rfl⟩
 show (match ρ[i]? with|some (.cB f)=>_|_=>_)=_
 rw [hi]
 show ((e.ev ρ s).bind _)=_
 rw [h]
 show (match cj (enc x) with|some j=>(b7 (aO f) j).map λd=>Out.ret (d,true) s1|none=>none)=_
 rw [bO.ok]
 show (b7 (aO f) (bO.nums x)).map _=_
 rw [KI,hy];rfl
theorem JN.xu {f:List (κ×β)}{x:β}{k:κ}{j:Nat}(hi:ρ[i]? = some (.cB (aO f)))(hv:ρ[j]? = some (.own (enc x)))(hij:i≠j)(hk:JE e2 ρ s k s2 w1)(hl:f.length<100000):JN (SS.xu i e2 j) ρ s ((ρ.set j .emp).set i (.cB (aO (fG f k x)))) s2:=by
 obtain⟨_,hk,_⟩:=hk
 show (match ρ[i]?,ρ[j]? with|some (.cB f),some (.own d)=>_|_,_=>_)=_
 rw [hi,hv]
 show (if i≠j then ((e2.ev ρ s).bind _) else none)=_
 rw [if_pos hij,hk]
 show (match cj (enc k) with|some jj=>(if (aO f).length<100000 then some (Out.nx ((ρ.set j .emp).set i (.cB (iw (aO f) jj (enc k) (enc x)))) s2) else none)|none=>none)=_
 rw [bO.ok]
 show (if (aO f).length<100000 then some (Out.nx ((ρ.set j .emp).set i (.cB (iw (aO f) (bO.nums k) (enc k) (enc x)))) s2) else none)=_
 rw [if_pos (by unfold aO;simpa using hl),Du]
omit [DecidableEq κ] in
theorem JN.GX:JN (SS.GX i) ρ s (ρ.set i (.cB (aO ([]:List (κ×β))))) s:=rfl
omit [DecidableEq κ] in
theorem JN.GN {x:κ}{y:β}(hk:JE e ρ s x s1 w1)(hv:JE e2 ρ s1 y s2 true):JN (SS.GN i e e2) ρ s (ρ.set i (.cB (aO [(x,y)]))) s2:=by
 obtain⟨_,hk,_⟩:=hk
 obtain⟨w',hv,hw⟩:=hv
 show ((e.ev ρ s).bind _)=_
 rw [hk]
 show ((e2.ev ρ s1).bind λy=>match cj (enc x) with
  |some j=>(if y.1.2=true then some (Out.nx (ρ.set i (.cB [(j,enc x,y.1.1)])) y.2) else none)
  |none=>none)=_
 rw [hv,bO.ok]
 show (if w'=true then _ else _)=_
 rw [if_pos (hw rfl)];rfl
omit [DecidableEq κ] in
theorem JB.FW {b:SS}{f:List (κ×β)}{Φ:Out->Prop}(hi:ρ[i]? = some (.cB (aO f)))(h:JB b (ρ.set i (.g9 (aO f))) s Φ):JB (SS.FW i b) ρ s Φ:=by
 obtain⟨o,h1,h2⟩:=h
 refine⟨o,?_,h2⟩
 show (match ρ[i]? with|some (.cB es)=>_|_=>_)=_
 rw [hi]
 exact h1
omit [DecidableEq κ] in
theorem JN.qW {α:Type}[Enc α]{b:SS}{f f' v:List (κ×β)}{y:α}{nl r:Nat}{ρ':List Slot}(hi:ρ[i]? = some (.cB (aO f)))(h:JE e ρ s y s1 w)(hn:(ρ.set i .emp).all Js=true)
  (hb:JN b ([.cB (aO f),.e y]++Kak nl .emp) s1 ρ' s2) (hz:ρ'[r]? = some (.cB (aO f'))) (hv:v=f'):JN (SS.qW i nl r b e) ρ s (ρ.set i (.cB (aO v))) s2:=by
 subst hv
 obtain⟨_,h,_⟩:=h
 show (match ρ[i]? with|some (.cB es)=>_|_=>_)=_
 rw [hi]
 show ((e.ev ρ s).bind _)=_
 rw [h]
 show (if (ρ.set i .emp).all Js=true then _ else _)=_
 rw [if_pos hn]
 have hb:b.ev ([.cB (aO f),.e y]++Kak nl .emp) s1=some (.nx ρ' s2):=hb
 show (match b.ev ([.cB (aO f),.e y]++Kak nl .emp) s1 with|some (.nx ρ' s')=>_|_=>_)=_
 rw [hb]
 show (match (ρ'[r]?:Option Slot) with|some (Slot.cB es')=>_|_=>_)=_
 rw [hz]
end
end
noncomputable section
def Oc:SS:=SS.ab (SS.GX 2) (SS.FW 0 (iO (ijl 0) (SG.tup (jK (aT 3) (jK (aT 4) (c9.nil)))) (dR [3,4,5,6,7,8] (iO (SI.list (hjl 1)) (SG.tup (jK (aT 5) (jK (aT 6) (c9.nil)))) (dR [5,6,7,8] (SS.ab (cF 7 (SE.ac Uk (cK (hjl 3) (cK (hjl 6) (dK))))) (eM (ST.ab (vy (hjl 7) (hjl 3))) (SS.ab (SS.set 8 (NQ (SE.lst (Qu (hjl 4) (eK (hjl 5) (fK)))))) (eM (CF (ST.ab (ixr 2 (hjl 7))) (ST.ab (SE.QB (hjl 8) (SE.Fz 2 (hjl 7))))) (SS.xu 2 (hjl 7) 8) (SS.ac))) (SS.ac))))))))
theorem iV (jn:LW)(bj:List (Int×Tb))(s:aa)(h0:yI jn bj):JN Oc ([.cB (aO jn),.e bj]++Kak 7 .emp) s [.g9 (aO jn),.e bj,.cB (aO (Ar jn bj)),.emp,.emp,.emp,.emp,.emp,.emp] s:=by
 have key:JB Oc [.cB (aO jn),.e bj,.emp,.emp,.emp,.emp,.emp,.emp,.emp] s (λo=>o=.nx [.g9 (aO jn),.e bj,.cB (aO (Ar jn bj)),.emp,.emp,.emp,.emp,.emp,.emp] s):=by
  unfold Oc
  refine JB.ab (aB:=[.cB (aO jn),.e bj,.cB (aO ([]:LW)),.emp,.emp,.emp,.emp,.emp,.emp]) JN.GX ?_
  refine JB.FW rfl ?_
  show JB _ [.g9 (aO jn),.e bj,.cB (aO ([]:LW)),.emp,.emp,.emp,.emp,.emp,.emp] _ _
  refine JB.ac (tQ (J:=λ(st:LW)=>[.g9 (aO jn),.e bj,.cB (aO st),.emp,.emp,.emp,.emp,.emp,.emp]) (R:=λ(st:LW) (x1:Ti×List Int)=>[.g9 (aO jn),.e bj,.cB (aO st),.e x1.1,.e x1.2,.emp,.emp,.emp,.emp]) (f:=Ob bj) (d:=VP bj) (st:=[]) (JI.Lm rfl) rfl (λ_ _=>rfl) ?_ h0 rfl) rfl
  intro st x1 hd
  refine gQ ?_
  refine JB.ac (tQ (J:=λ(st:LW)=>[.g9 (aO jn),.e bj,.cB (aO st),.e x1.1,.e x1.2,.emp,.emp,.emp,.emp]) (R:=λ(st:LW) (x2:Int×Tb)=>[.g9 (aO jn),.e bj,.cB (aO st),.e x1.1,.e x1.2,.e x2.1,.e x2.2,.emp,.emp]) (f:=El x1) (d:=Rv x1) (st:=st) (JI.list (aj rfl)) rfl (λ_ _=>rfl) ?_ hd rfl) rfl
  intro st x2 hd
  obtain⟨h1,h2,h3⟩:=hd
  unfold El
  refine gQ ?_
  refine JB.ab (aB:=[.g9 (aO jn),.e bj,.cB (aO st),.e x1.1,.e x1.2,.e x2.1,.e x2.2,.dat (enc (nP x1.1 x2.2)),.emp]) (JN.set (JE.ac (aK (aj rfl) (aK (aj rfl) (bK))) (zH x1.1 x2.2 _ h1))) ?_
  refine zF (JT.ab (CA (α:=Ti) (aj rfl) (aj rfl))) ?_ ?_
  ·intro hq
   have hs:JE (SE.lst (Qu (hjl 4) (eK (hjl 5) (fK)))) [.g9 (aO jn),.e bj,.cB (aO st),.e x1.1,.e x1.2,.e x2.1,.e x2.2,.dat (enc (nP x1.1 x2.2)),.emp] s (x1.2++[x2.1]) s true:=JE.aqN (xs:=(x1.2++[x2.1])) (JA.Q5 (aj rfl) (iK (aj rfl) (gK))) (by simp only [Kaz,Kai,Kb4,KaR,KcE,Ka1,KaE]) h2
   refine JB.ab (aB:=[.g9 (aO jn),.e bj,.cB (aO st),.e x1.1,.e x1.2,.e x2.1,.e x2.2,.dat (enc (nP x1.1 x2.2)),.own (enc (sortI (x1.2++[x2.1])))]) (NV (ijm hs) rfl) ?_
   refine zF (JT.or (JT.ab (JE.IP rfl (aj rfl))) (λhn=>JT.ab (P:=HT.lexLt (sortI (x1.2++[x2.1])) ((aN st (nP x1.1 x2.2)).getD [])=true) (by
    have hy:aN st (nP x1.1 x2.2)=some ((aN st (nP x1.1 x2.2)).getD []):=by
     cases h:aN st (nP x1.1 x2.2) with
     |none=>exact absurd (by rw [h];exact Ka8) hn
     |some y=>rfl
    have:=JE.QB (NS (i:=8) (x:=sortI (x1.2++[x2.1])) (ρ:=[.g9 (aO jn),.e bj,.cB (aO st),.e x1.1,.e x1.2,.e x2.1,.e x2.2,.dat (enc (nP x1.1 x2.2)),.own (enc (sortI (x1.2++[x2.1])))]) (s:=s) rfl) (JE.Fz (i:=2) (f:=st) rfl (aj (i:=7) rfl) hy)
    rw [KbE]
    exact this))) ?_ ?_
   ·intro _
    refine JB.ac (aB:=[.g9 (aO jn),.e bj,.cB (aO (fG st (nP x1.1 x2.2) (sortI (x1.2++[x2.1])))),.e x1.1,.e x1.2,.e x2.1,.e x2.2,.dat (enc (nP x1.1 x2.2)),.emp]) (JN.xu (i:=2) (j:=8) (x:=sortI (x1.2++[x2.1])) rfl rfl (by decide) (aj rfl) h3) ?_
    exact rfl
   ·intro _
    exact JB.al rfl
  ·intro hq
   exact JB.al rfl
 obtain⟨o,e,rfl⟩:=key
 exact e
def fV:SS:=SS.ab (Jh (SE.ac Oq (cK (hjl 0) (dK)))) (SS.ab (cF 1 (SE.ac O3 (cK (hjl 0) (dK)))) (SS.ab (eM (ST.ab (qw (gR (hjl 1)) (SE.ab 2))) (SS.ag (SE.lst (fK))) (SS.ac)) (SS.ab (cF 2 (SE.ac OO (cK (hjl 1) (dK)))) (SS.ab (SS.GN 3 (SE.C1 (SE.tup (eK (SE.ab 0) (fK))) (gR (hjl 1))) (SE.lst (fK))) (SS.ab (cF 4 (ijk (gR (hjl 1)))) (SS.ab (ED l_ (ST.ab (ixr 3 (hjl 4))) (SS.qW 3 7 2 Oc (hjl 2))) (SS.Hl 3 (hjl 4))))))))
def Of:Fn:=fnOf 1 4 fV
theorem VM (ai:List Mw)(s:aa)(h0:wR ai):JF Of [.e ai] s (nJ ai) s true:=by
 obtain⟨h1,h2,h3⟩:=h0
 refine gi rfl ?_
 unfold fV nJ
 generalize hu:b8 ai=dI at *
 show JB _ [.e ai,.emp,.emp,.emp,.emp] _ _
 refine JB.ab (aB:=[.e ai,.emp,.emp,.emp,.emp]) (Qm (JE.ac (aK (aj rfl) (bK)) (gU ai _ h1))) ?_
 refine JB.ab (aB:=[.e ai,.e dI,.emp,.emp,.emp]) (cX (JE.ac (aK (aj rfl) (bK)) (iU ai _ h2)) hu.symm) ?_
 refine CC (JT.ab (xT (lB (aj (x:=dI) rfl)) (JE.ab 2))) ?_ (λ_=>NR) ?_
 ·intro hq
  exact JB.ag (JE.lst (xs:=[]) gK)
 ·intro hq
  obtain⟨p1,p2,p3,p4⟩:=h3 hq
  refine Cv ?_
  have hn:2<=((dI.length:Nat):Int)/\((dI.length:Nat):Int)<=1000:=by omega
  refine JB.ab (aB:=[.e ai,.e dI,.dat (enc (jf dI)),.emp,.emp]) (JN.set (JE.ac (aK (aj rfl) (bK)) (jY dI _ p1))) ?_
  refine JB.ab (aB:=[.e ai,.e dI,.dat (enc (jf dI)),.cB (aO (FF dI)),.emp]) (JN.GN (x:=(⟨Kak ((dI.length:Nat):Int).toNat 0⟩:Ti)) (y:=([]:List Int)) (JE.C1 (JE.ab 0) (lB (aj (x:=dI) rfl)) hn) (JE.lst (xs:=[]) gK)) ?_
  refine JB.ab (aB:=[.e ai,.e dI,.dat (enc (jf dI)),.cB (aO (FF dI)),.dat (enc (vK dI))]) (JN.set (JE.Mq (lB (aj (x:=dI) rfl)) ⟨by omega,by omega⟩)) ?_
  refine JB.ab (aB:=[.e ai,.e dI,.dat (enc (jf dI)),.cB (aO (Jb dI)),.dat (enc (vK dI))]) (K8 (J:=λ(l:LW)=>[.e ai,.e dI,.dat (enc (jf dI)),.cB (aO l),.dat (enc (vK dI))]) (C:=λl:LW=>¬((aN l (vK dI)).isSome=true)) (f:=λl=>Ar l (jf dI)) (dc:=λ_=>True) (d:=λl=>yI l (jf dI)) (st:=FF dI) rfl (λl _=>JT.ab (JE.IP rfl (aj rfl))) (λl hl=>JB.ac (JN.qW (f:=l) rfl (aj rfl) rfl (iV l (jf dI) _ hl) rfl rfl) rfl) p3 rfl) ?_
  have hy:aN (Jb dI) (vK dI)=some ((aN (Jb dI) (vK dI)).getD []):=by
   cases h:aN (Jb dI) (vK dI) with
   |none=>rw [h] at p4;cases p4
   |some y=>rfl
  exact JB.Hl rfl (aj rfl) hy
end
end Pu
namespace Pu
open PySem PySem.Spec PyProof.Rows L2
end Pu
namespace Pu
open PySem L2 Enc
def eL:SS:=SS.ab (eM (ST.ab (GD (Ct 0 0) (SE.ab 0))) (SS.ab (cF 2 (o6 (oZ (Ct 0 0)) (hjl 1))) (SS.ab (Qw 0 0 (vp (Ct 0 0) (hjl 1))) (SS.ag (hjl 2)))) (SS.ac)) (SS.ab (Qw 0 2 (fL (Ct 0 2) (SE.ab 1))) (SS.ab (cF 3 (o6 (oZ (EI (fL (Ct 0 1) (xU (SE.ab 1500450271) (Ct 0 2))) (SE.ab 3))) (fL (EI (SE.ab 10) (SE.ab 40)) (SE.ab 121)))) (SS.ab (cF 3 (o6 (oZ (EI (fL (hjl 3) (xU (SE.ab 32416190071) (Ct 0 2))) (SE.ab 2))) (fL (EI (SE.ab 10) (SE.ab 37)) (SE.ab 43)))) (SS.ag (o6 (oZ (vp (hjl 3) (SE.ab 6700417))) (hjl 1))))))
def eG:Fn:=fnOf 2 2 eL
def aE (s:aa)(many1:Int):(Int)×aa:=
 if (0:Int)<s.1 then
 lt ((s.1 % many1)) λPY=>
 lt (((s.1 / many1),s.2.1,s.2.2)) λs1=>
 (PY,s1)
 else
 lt ((s.1,s.2.1,(s.2.2+(1:Int)))) λs2=>
 lt ((((s2.2.1+((1500450271:Int)*s2.2.2)) ^ (KaU (3:Int))) % (((10:Int) ^ (KaU (40:Int)))+(121:Int)))) λNk=>
 lt ((((Nk+((32416190071:Int)*s2.2.2)) ^ (KaU (2:Int))) % (((10:Int) ^ (KaU (37:Int)))+(43:Int)))) λTX=>
 (((TX / (6700417:Int)) % many1),s2)
def cu (s:aa)(many1:Int):Prop:=
 (((0:Int)<s.1)->(0<many1/\(bu ((s.1 % many1)) λPY=>
 (0<many1/\many1<1000000000000000000000000000000000000000000000000000000000000))))/\(¬((0:Int)<s.1)->((bu ((s.1,s.2.1,(s.2.2+(1:Int)))) λs2=>
 gb (s2.2.1+((1500450271:Int)*s2.2.2)) (3:Int)=true/\0<(((10:Int) ^ (KaU (40:Int)))+(121:Int))/\(bu ((((s2.2.1+((1500450271:Int)*s2.2.2)) ^ (KaU (3:Int))) % (((10:Int) ^ (KaU (40:Int)))+(121:Int)))) λNk=>
 gb (Nk+((32416190071:Int)*s2.2.2)) (2:Int)=true/\0<(((10:Int) ^ (KaU (37:Int)))+(43:Int))/\(bu ((((Nk+((32416190071:Int)*s2.2.2)) ^ (KaU (2:Int))) % (((10:Int) ^ (KaU (37:Int)))+(43:Int)))) λTX=>
 0<many1)))))
theorem fj (s:aa)(many1:Int)(h0:cu s many1):JF eG [.bf,.e many1] s (aE s many1).1 (aE s many1).2 false:=by
 unfold cu at h0
 obtain⟨h12,h13⟩:=h0
 refine Lp rfl ?_
 unfold aE eL
 show JB _ [.bf,.e many1,.emp,.emp] _ _
 refine CC (JT.ab (JE.gt (JE.QY rfl) (JE.ab 0))) ?_ (λ_=>lG.ps) ?_
 ·intro hq
  obtain⟨h1,h3⟩:=h12 hq
  refine aY λPY e1=>?_
  have h2:=bL h3 e1
  refine JB.ab (aB:=[.bf,.e many1,.e PY,.emp]) (cX (vt (EF (JE.QY rfl)) (aj rfl) h1) e1) ?_
  refine aY λs1 e2=>?_
  refine JB.ab (aB:=[.bf,.e many1,.e PY,.emp]) (JN.QY rfl (AO (JE.QY rfl) (aj rfl) h2) e2) ?_
  exact Qj (aj rfl)
 intro hq
 have h11:=h13 hq
 refine Cv ?_
 refine aY λs2 e3=>?_
 obtain⟨h4,h5,h10⟩:=bL h11 e3
 refine JB.ab (aB:=[.bf,.e many1,.emp,.emp]) (JN.QZ rfl (iB (JE.QZ rfl) (JE.ab 1)) e3) ?_
 refine aY λNk e4=>?_
 obtain⟨h6,h7,h9⟩:=bL h10 e4
 refine JB.ab (aB:=[.bf,.e many1,.emp,.e Nk]) (cX (vt (EF (NK (iB (JE.sk1 rfl) (GC (JE.ab 1500450271) (JE.QZ rfl) (.inl (by decide)))) (JE.ab 3) h4)) (iB (NK (JE.ab 10) (JE.ab 40) (by decide)) (JE.ab 121)) h5) e4) ?_
 refine aY λTX e5=>?_
 have h8:=bL h9 e5
 refine JB.ab (aB:=[.bf,.e many1,.emp,.e TX]) (cX (vt (EF (NK (iB (aj rfl) (GC (JE.ab 32416190071) (JE.QZ rfl) (.inl (by decide)))) (JE.ab 2) h6)) (iB (NK (JE.ab 10) (JE.ab 37) (by decide)) (JE.ab 43)) h7) e5) ?_
 exact Qj (kO (vt (EF (AO (aj rfl) (JE.ab 6700417) (by decide))) (aj rfl) h8))
def Se:SS:=SS.ab (cF 2 (SE.lst (eK (SE.lst (eK (SE.ab 2) (eK (SE.ab 3) (eK (SE.ab 4) (eK (SE.ab 6) (fK)))))) (eK (SE.lst (eK (SE.ab 1) (eK (SE.ab 4) (eK (SE.ab 6) (eK (SE.ab 12) (fK)))))) (eK (SE.lst (eK (SE.ab 4) (eK (SE.ab 6) (eK (SE.ab 9) (eK (SE.ab 2) (fK)))))) (eK (SE.lst (eK (SE.ab 5) (eK (SE.ab 10) (eK (SE.ab 4) (eK (SE.ab 2) (fK)))))) (eK (SE.lst (eK (SE.ab 7) (eK (SE.ab 2) (eK (SE.ab 6) (eK (SE.ab 3) (fK)))))) (eK (SE.lst (eK (SE.ab 8) (eK (SE.ab 12) (eK (SE.ab 6) (eK (SE.ab 1) (fK)))))) (eK (SE.lst (eK (SE.ab 5) (eK (SE.ab 4) (eK (SE.ab 6) (eK (SE.ab 3) (fK)))))) (fK)))))))))) (SS.ab (eM (EJ (ST.ab (hjl 1)) (ST.ab (fX (SE.ac eG (dM 0 (cK (SE.ab 8) (dK)))) (SE.ab 0)))) (SS.ag (cW (SE.lst (eK (SE.lst (eK (SE.ab 5) (eK (SE.ab 6) (eK (SE.ab 10) (eK (SE.ab 7) (fK)))))) (eK (SE.lst (eK (SE.ab 11) (eK (SE.ab 4) (eK (SE.ab 12) (eK (SE.ab 3) (fK)))))) (eK (SE.lst (eK (SE.ab 9) (eK (SE.ab 7) (eK (SE.ab 8) (eK (SE.ab 3) (fK)))))) (eK (SE.lst (eK (SE.ab 29) (eK (SE.ab 31) (fK)))) (fK)))))) (SE.ac eG (dM 0 (cK (SE.ab 4) (dK)))))) (SS.ac)) (SS.ag (cW (hjl 2) (SE.ac eG (dM 0 (cK (SE.ab 7) (dK)))))))
def Wv:Fn:=fnOf 2 1 Se
def A7 (s:aa)(bx:Bool):(List Int)×aa:=
 lt ([[(2:Int),(3:Int),(4:Int),(6:Int)],[(1:Int),(4:Int),(6:Int),(12:Int)],[(4:Int),(6:Int),(9:Int),(2:Int)],[(5:Int),(10:Int),(4:Int),(2:Int)],[(7:Int),(2:Int),(6:Int),(3:Int)],[(8:Int),(12:Int),(6:Int),(1:Int)],[(5:Int),(4:Int),(6:Int),(3:Int)]]) λaR=>
 a_ (if bx=true then (a_ (aE s (8:Int)) λa1 s1=>(decide (a1=(0:Int)),s1)) else (false,s)) λa2 s2=>
 if a2=true then
 a_ (aE s2 (4:Int)) λa3 s3=>
 ((aq [[(5:Int),(6:Int),(10:Int),(7:Int)],[(11:Int),(4:Int),(12:Int),(3:Int)],[(9:Int),(7:Int),(8:Int),(3:Int)],[(29:Int),(31:Int)]] a3),s3)
 else
 a_ (aE s2 (7:Int)) λa4 s4=>
 ((aq aR a4),s4)
def Aj (s:aa)(bx:Bool):Prop:=
 (bu ([[(2:Int),(3:Int),(4:Int),(6:Int)],[(1:Int),(4:Int),(6:Int),(12:Int)],[(4:Int),(6:Int),(9:Int),(2:Int)],[(5:Int),(10:Int),(4:Int),(2:Int)],[(7:Int),(2:Int),(6:Int),(3:Int)],[(8:Int),(12:Int),(6:Int),(1:Int)],[(5:Int),(4:Int),(6:Int),(3:Int)]]) λaR=>
 ((bx=true)->(cu s (8:Int)))/\(aW (if bx=true then (a_ (aE s (8:Int)) λa1 s1=>(decide (a1=(0:Int)),s1)) else (false,s)) λa2 s2=>
 ((a2=true)->(cu s2 (4:Int)/\(aW (aE s2 (4:Int)) λa3 s3=>
 (-([[(5:Int),(6:Int),(10:Int),(7:Int)],[(11:Int),(4:Int),(12:Int),(3:Int)],[(9:Int),(7:Int),(8:Int),(3:Int)],[(29:Int),(31:Int)]].length:Int)<=a3/\a3<([[(5:Int),(6:Int),(10:Int),(7:Int)],[(11:Int),(4:Int),(12:Int),(3:Int)],[(9:Int),(7:Int),(8:Int),(3:Int)],[(29:Int),(31:Int)]].length:Int)))))/\(¬(a2=true)->(cu s2 (7:Int)/\(aW (aE s2 (7:Int)) λa4 s4=>
 (-(aR.length:Int)<=a4/\a4<(aR.length:Int)))))))
theorem kT (s:aa)(bx:Bool)(h0:Aj s bx):JF Wv [.bf,.e bx] s (A7 s bx).1 (A7 s bx).2 false:=by
 unfold Aj at h0
 have h12:=h0
 refine Lp rfl ?_
 unfold A7 Se
 show JB _ [.bf,.e bx,.emp] _ _
 refine aY λaR e1=>?_
 obtain⟨h2,h11⟩:=bL h12 e1
 refine JB.ab (aB:=[.bf,.e bx,.e aR]) (cX (JE.lst (xs:=[[(2:Int),(3:Int),(4:Int),(6:Int)],[(1:Int),(4:Int),(6:Int),(12:Int)],[(4:Int),(6:Int),(9:Int),(2:Int)],[(5:Int),(10:Int),(4:Int),(2:Int)],[(7:Int),(2:Int),(6:Int),(3:Int)],[(8:Int),(12:Int),(6:Int),(1:Int)],[(5:Int),(4:Int),(6:Int),(3:Int)]]) (JA.cons (JE.lst (xs:=[(2:Int),(3:Int),(4:Int),(6:Int)]) (iK (JE.ab 2) (iK (JE.ab 3) (iK (JE.ab 4) (iK (JE.ab 6) (gK))))) (by show 4<=100000;decide)) (JA.cons (JE.lst (xs:=[(1:Int),(4:Int),(6:Int),(12:Int)]) (iK (JE.ab 1) (iK (JE.ab 4) (iK (JE.ab 6) (iK (JE.ab 12) (gK))))) (by show 4<=100000;decide)) (JA.cons (JE.lst (xs:=[(4:Int),(6:Int),(9:Int),(2:Int)]) (iK (JE.ab 4) (iK (JE.ab 6) (iK (JE.ab 9) (iK (JE.ab 2) (gK))))) (by show 4<=100000;decide)) (JA.cons (JE.lst (xs:=[(5:Int),(10:Int),(4:Int),(2:Int)]) (iK (JE.ab 5) (iK (JE.ab 10) (iK (JE.ab 4) (iK (JE.ab 2) (gK))))) (by show 4<=100000;decide)) (JA.cons (JE.lst (xs:=[(7:Int),(2:Int),(6:Int),(3:Int)]) (iK (JE.ab 7) (iK (JE.ab 2) (iK (JE.ab 6) (iK (JE.ab 3) (gK))))) (by show 4<=100000;decide)) (JA.cons (JE.lst (xs:=[(8:Int),(12:Int),(6:Int),(1:Int)]) (iK (JE.ab 8) (iK (JE.ab 12) (iK (JE.ab 6) (iK (JE.ab 1) (gK))))) (by show 4<=100000;decide)) (JA.cons (JE.lst (xs:=[(5:Int),(4:Int),(6:Int),(3:Int)]) (iK (JE.ab 5) (iK (JE.ab 4) (iK (JE.ab 6) (iK (JE.ab 3) (gK))))) (by show 4<=100000;decide)) (gK)))))))) (by show 7<=100000;decide)) e1) ?_
 refine dJ λa2 s2 hv2=>?_
 obtain⟨h9,h10⟩:=dZ h11 hv2
 refine CC (JT.nm (JT.VD (JT.ab (zD (aj rfl))) (λhq=>(have h1:=h2 hq;JT.a_ λa1 s1 hv1=>JT.Rr (JT.ab (jW (dG (JE.ac (d_ rfl (aK (JE.ab 8) (bK))) (fj s (8:Int) h1)) hv1) (JE.ab 0)))))) hv2) ?_ (λ_=>lG.ps) ?_
 ·intro hq
  obtain⟨h3,h5⟩:=h9 hq
  refine dJ λa3 s3 o7=>?_
  have h4:=dZ h5 o7
  exact Qj (iC (JE.lst (xs:=[[(5:Int),(6:Int),(10:Int),(7:Int)],[(11:Int),(4:Int),(12:Int),(3:Int)],[(9:Int),(7:Int),(8:Int),(3:Int)],[(29:Int),(31:Int)]]) (JA.cons (JE.lst (xs:=[(5:Int),(6:Int),(10:Int),(7:Int)]) (iK (JE.ab 5) (iK (JE.ab 6) (iK (JE.ab 10) (iK (JE.ab 7) (gK))))) (by show 4<=100000;decide)) (JA.cons (JE.lst (xs:=[(11:Int),(4:Int),(12:Int),(3:Int)]) (iK (JE.ab 11) (iK (JE.ab 4) (iK (JE.ab 12) (iK (JE.ab 3) (gK))))) (by show 4<=100000;decide)) (JA.cons (JE.lst (xs:=[(9:Int),(7:Int),(8:Int),(3:Int)]) (iK (JE.ab 9) (iK (JE.ab 7) (iK (JE.ab 8) (iK (JE.ab 3) (gK))))) (by show 4<=100000;decide)) (JA.cons (JE.lst (xs:=[(29:Int),(31:Int)]) (iK (JE.ab 29) (iK (JE.ab 31) (gK))) (by show 2<=100000;decide)) (gK))))) (by show 4<=100000;decide)) (dG (JE.ac (d_ rfl (aK (JE.ab 4) (bK))) (fj s2 (4:Int) h3)) o7) h4)
 intro hq
 obtain⟨h6,h8⟩:=h10 hq
 refine Cv ?_
 refine dJ λa4 s4 o8=>?_
 have h7:=dZ h8 o8
 exact Qj (iC (aj rfl) (dG (JE.ac (d_ rfl (aK (JE.ab 7) (bK))) (fj s2 (7:Int) h6)) o8) h7)
def TJ:SS:=SS.ab (cF 2 (cW (SE.lst (eK (SE.ab 0) (eK (SE.ac eG (dM 0 (cK (SE.ab 4) (dK)))) (eK (SE.ac eG (dM 0 (cK (SE.ab 9) (dK)))) (fK))))) (SE.ac eG (dM 0 (cK (SE.ab 3) (dK)))))) (SS.ab (cF 3 (cW (hjl 1) (SE.ac eG (dM 0 (cK (gR (hjl 1)) (dK)))))) (SS.ab (eM (CF (ST.ab (GD (hjl 3) (SE.ab 12))) (ST.ab (fX (SE.ac eG (dM 0 (cK (SE.ab 12) (dK)))) (SE.ab 0)))) (dR [] (cF 2 (SE.ac eG (dM 0 (cK (SE.ab 41) (dK)))))) (dR [] (SS.ac))) (SS.ab (SS.set 4 (hxs (nW (hjl 2)) (aT 6) (ST.ab (fX (SE.ac eG (dM 0 (cK (SE.ab 2) (dK)))) (SE.ab 0))) (hjl 6) [6] (by decide))) (SS.ab (cF 5 (cW (SE.lst (eK (SE.ab 2) (eK (SE.ab 3) (eK (SE.ab 4) (eK (fL (hjl 3) (SE.ab 1)) (fK)))))) (SE.ac eG (dM 0 (cK (SE.ab 4) (dK)))))) (AM (RE.tup (RA.cons (RE.mv 4) (RA.cons (RE.e (hjl 2)) (RA.cons (RE.e (hjl 3)) (RA.cons (RE.e (hxs (nW (hjl 3)) (aT 7) (ST.ab (fX (SE.ac eG (dM 0 (cK (hjl 5) (dK)))) (SE.ab 0))) (hjl 7) [7] (by decide))) (RA.nil)))))))))))
def Zf:Fn:=fnOf 2 6 TJ
def y_ (s:aa)(c_:List Int):(aX)×aa:=
 a_ (aE s (4:Int)) λa1 s1=>
 a_ (aE s1 (9:Int)) λa2 s2=>
 a_ (aE s2 (3:Int)) λa3 s3=>
 lt ((aq [(0:Int),a1,a2] a3)) λgh=>
 a_ (aE s3 (c_.length:Int)) λa4 s4=>
 lt ((aq c_ a4)) λbr=>
 a_ (if (12:Int)<br then (true,s4) else (a_ (aE s4 (12:Int)) λa5 s5=>(decide (a5=(0:Int)),s5))) λa6 s6=>
 a_ (if a6=true then
 a_ (aE s6 (41:Int)) λa7 s7=>
 lt (a7) λFP=>
 (FP,s7)
 else
 (gh,s6)) λp1 s8=>
 a_ (cC (λ(x1:Int) (s9:aa)=>(a_ (aE s9 (2:Int)) λa8 s10=>(decide (a8=(0:Int)),s10))) (λ(x1:Int) (s9:aa)=>(x1,s9)) (rng 0 p1) s8) λa9 s11=>
 lt (a9) λoB=>
 a_ (aE s11 (4:Int)) λa10 s12=>
 lt ((aq [(2:Int),(3:Int),(4:Int),(br+(1:Int))] a10)) λqk=>
 a_ (cC (λ(x2:Int) (s13:aa)=>(a_ (aE s13 qk) λa11 s14=>(decide (a11=(0:Int)),s14))) (λ(x2:Int) (s13:aa)=>(x2,s13)) (rng 0 br) s12) λa12 s15=>
 ((T4.mk oB p1 br a12),s15)
def yY (s:aa)(c_:List Int):Prop:=
 cu s (4:Int)/\(aW (aE s (4:Int)) λa1 s1=>
 cu s1 (9:Int)/\(aW (aE s1 (9:Int)) λa2 s2=>
 cu s2 (3:Int)/\(aW (aE s2 (3:Int)) λa3 s3=>
 (-([(0:Int),a1,a2].length:Int)<=a3/\a3<([(0:Int),a1,a2].length:Int))/\(bu ((aq [(0:Int),a1,a2] a3)) λgh=>
 cu s3 (c_.length:Int)/\(aW (aE s3 (c_.length:Int)) λa4 s4=>
 (-(c_.length:Int)<=a4/\a4<(c_.length:Int))/\(bu ((aq c_ a4)) λbr=>
 (¬((12:Int)<br)->(cu s4 (12:Int)))/\(aW (if (12:Int)<br then (true,s4) else (a_ (aE s4 (12:Int)) λa5 s5=>(decide (a5=(0:Int)),s5))) λa6 s6=>
 ((a6=true)->cu s6 (41:Int))/\(aW (if a6=true then
 a_ (aE s6 (41:Int)) λa7 s7=>
 lt (a7) λFP=>
 (FP,s7)
 else
 (gh,s6)) λp1 s8=>
 (-1000000<=p1/\p1<=1000000)/\IZ (λ(x1:Int) (s9:aa)=>(a_ (aE s9 (2:Int)) λa8 s10=>(decide (a8=(0:Int)),s10))) (λ(x1:Int) (s9:aa)=>(x1,s9)) (λ(x1:Int) (s9:aa)=>cu s9 (2:Int)) (λ(x1:Int) (s9:aa)=>True) (rng 0 p1) s8/\(cC (λ(x1:Int) (s9:aa)=>(a_ (aE s9 (2:Int)) λa8 s10=>(decide (a8=(0:Int)),s10))) (λ(x1:Int) (s9:aa)=>(x1,s9)) (rng 0 p1) s8).1.length<=100000/\(aW (cC (λ(x1:Int) (s9:aa)=>(a_ (aE s9 (2:Int)) λa8 s10=>(decide (a8=(0:Int)),s10))) (λ(x1:Int) (s9:aa)=>(x1,s9)) (rng 0 p1) s8) λa9 s11=>
 (bu (a9) λoB=>
 cu s11 (4:Int)/\(aW (aE s11 (4:Int)) λa10 s12=>
 (-([(2:Int),(3:Int),(4:Int),(br+(1:Int))].length:Int)<=a10/\a10<([(2:Int),(3:Int),(4:Int),(br+(1:Int))].length:Int))/\(bu ((aq [(2:Int),(3:Int),(4:Int),(br+(1:Int))] a10)) λqk=>
 (-1000000<=br/\br<=1000000)/\IZ (λ(x2:Int) (s13:aa)=>(a_ (aE s13 qk) λa11 s14=>(decide (a11=(0:Int)),s14))) (λ(x2:Int) (s13:aa)=>(x2,s13)) (λ(x2:Int) (s13:aa)=>cu s13 qk) (λ(x2:Int) (s13:aa)=>True) (rng 0 br) s12/\(cC (λ(x2:Int) (s13:aa)=>(a_ (aE s13 qk) λa11 s14=>(decide (a11=(0:Int)),s14))) (λ(x2:Int) (s13:aa)=>(x2,s13)) (rng 0 br) s12).1.length<=100000))))))))))))
theorem tY (s:aa)(c_:List Int)(h0:yY s c_):JF Zf [.bf,.e c_] s (y_ s c_).1 (y_ s c_).2 true:=by
 unfold yY at h0
 obtain⟨h1,Gq⟩:=h0
 refine Lp rfl ?_
 unfold y_ TJ
 show JB _ [.bf,.e c_,.emp,.emp,.emp,.emp,.emp,.emp] _ _
 refine dJ λa1 s1 hv1=>?_
 obtain⟨h2,Gp⟩:=dZ Gq hv1
 refine dJ λa2 s2 hv2=>?_
 obtain⟨h3,Gn⟩:=dZ Gp hv2
 refine dJ λa3 s3 o7=>?_
 obtain⟨h4,Gm⟩:=dZ Gn o7
 refine aY λgh e1=>?_
 obtain⟨h5,Gk⟩:=bL Gm e1
 refine JB.ab (aB:=[.bf,.e c_,.e gh,.emp,.emp,.emp,.emp,.emp]) (cX (iC (JE.lst (xs:=[(0:Int),a1,a2]) (iK (JE.ab 0) (iK (dG (JE.ac (d_ rfl (aK (JE.ab 4) (bK))) (fj s (4:Int) h1)) hv1) (iK (dG (JE.ac (d_ rfl (aK (JE.ab 9) (bK))) (fj s1 (9:Int) h2)) hv2) (gK)))) (by show 3<=100000;decide)) (dG (JE.ac (d_ rfl (aK (JE.ab 3) (bK))) (fj s2 (3:Int) h3)) o7) h4) e1) ?_
 refine dJ λa4 s4 o8=>?_
 obtain⟨h6,Gj⟩:=dZ Gk o8
 refine aY λbr e2=>?_
 obtain⟨h8,Gi⟩:=bL Gj e2
 refine JB.ab (aB:=[.bf,.e c_,.e gh,.e br,.emp,.emp,.emp,.emp]) (cX (iC (aj rfl) (dG (JE.ac (d_ rfl (aK (lB (aj rfl)) (bK))) (fj s3 (c_.length:Int) h5)) o8) h6) e2) ?_
 refine dJ λa6 s6 xN=>?_
 obtain⟨h10,Gh⟩:=dZ Gi xN
 refine dJ λp1 s8 EB=>?_
 obtain⟨h11,h13,tN,Gg⟩:=dZ Gh EB
 refine JB.ab (JN.K9 (J:=λ(p:Int)=>[.bf,.e c_,.e p,.e br,.emp,.emp,.emp,.emp]) (JT.nm (JT.orS (JT.ab (JE.gt (aj rfl) (JE.ab 12))) (λhq=>(have h7:=h8 hq;JT.a_ λa5 s5 we=>JT.Rr (JT.ab (jW (dG (JE.ac (d_ rfl (aK (JE.ab 12) (bK))) (fj s4 (12:Int) h7)) we) (JE.ab 0)))))) xN) ?_ ?_ EB) ?_
 ·intro hq
  have h9:=h10 hq
  refine Gu ?_
  refine dJ λa7 s7 zC=>?_
  refine aY λFP e4=>?_
  refine JB.ac (aB:=[.bf,.e c_,.e FP,.e br,.emp,.emp,.emp,.emp]) (cX (dG (JE.ac (d_ rfl (aK (JE.ab 41) (bK))) (fj s6 (41:Int) h9)) zC) e4) ?_
  exact rfl
 ·intro hq
  refine Gu ?_
  exact JB.al rfl
 show JB _ [.bf,.e c_,.e p1,.e br,.emp,.emp,.emp,.emp] _ _
 refine dJ λa9 s11 qq=>?_
 have Cj:=dZ Gg qq
 refine aY λoB e5=>?_
 obtain⟨h15,h22⟩:=bL Cj e5
 refine JB.ab (aB:=[.bf,.e c_,.e p1,.e br,.own (enc oB),.emp,.emp,.emp]) (NV (dG (JE.Qz (λ(x1:Int)=>[.bf,.e c_,.e p1,.e br,.emp,.emp,.e x1,.emp]) (rq (aj rfl) h11) (λ_=>rfl) (λx1 s9 hq=>(have h12:=hq;JT.a_ λa8 s10 EC=>JT.Rr (JT.ab (jW (dG (JE.ac (d_ rfl (aK (JE.ab 2) (bK))) (fj s9 (2:Int) h12)) EC) (JE.ab 0))))) (λx1 s9 hq=>aj rfl) h13 tN) qq) e5) ?_
 refine dJ λa10 s12 Cu=>?_
 obtain⟨vZ,h21⟩:=dZ h22 Cu
 refine aY λqk e6=>?_
 obtain⟨v5,v8,Ci⟩:=bL h21 e6
 refine JB.ab (aB:=[.bf,.e c_,.e p1,.e br,.own (enc oB),.e qk,.emp,.emp]) (cX (iC (JE.lst (xs:=[(2:Int),(3:Int),(4:Int),(br+(1:Int))]) (iK (JE.ab 2) (iK (JE.ab 3) (iK (JE.ab 4) (iK (iB (aj rfl) (JE.ab 1)) (gK))))) (by show 4<=100000;decide)) (dG (JE.ac (d_ rfl (aK (JE.ab 4) (bK))) (fj s11 (4:Int) h15)) Cu) vZ) e6) ?_
 refine dJ λa12 s15 aqK=>?_
 exact JB.QN (g7.Mp (g6.cons (g7.mvO rfl) (g6.iH (g7.se (aj rfl)) (g6.iH (g7.se (aj rfl)) (g6.cons (g7.se (dG (JE.Qz (λ(x2:Int)=>[.bf,.e c_,.e p1,.e br,.e oB,.e qk,.emp,.e x2]) (rq (aj rfl) v5) (λ_=>rfl) (λx2 s13 hq=>(have v7:=hq;JT.a_ λa11 s14 K7=>JT.Rr (JT.ab (jW (dG (JE.ac (d_ rfl (aK (aj rfl) (bK))) (fj s13 qk v7)) K7) (JE.ab 0))))) (λx2 s13 hq=>aj rfl) v8 Ci) aqK)) (g6.nil))))))
def IC:SS:=SS.ab (wg (SG.tup (jK (aT 2) (jK (aT 3) (jK (aT 4) (jK (aT 5) (c9.nil)))))) (hjl 0)) (SS.ag (CD (ST.ab (qw (hjl 1) (hjl 3))) (Ji false (hjl 1) (hjl 2)) (Ji false (o6 (oZ (AR (hjl 1) (hjl 3))) (hjl 4)) (hjl 5))))
def Ay:Fn:=fnOf 2 4 IC
def vF (ae:aX)(aD:Int):Bool:=
 (if aD<ae.y then (decide (aD∈ae.x)) else (decide (((aD-ae.y) % ae.z)∈ae.u)))
def vc (ae:aX)(aD:Int):Prop:=
 (¬(aD<ae.y)->(0<ae.z))
theorem OJ (ae:aX)(aD:Int)(s:aa)(h0:vc ae aD):JF Ay [.e ae,.e aD] s (vF ae aD) s false:=by
 unfold vc at h0
 have h2:=h0
 refine gi rfl ?_
 unfold vF IC
 show JB _ [.e ae,.e aD,.emp,.emp,.emp,.emp] _ _
 refine JB.ab (aB:=[.e ae,.e aD,.e ae.x,.e ae.y,.e ae.z,.e ae.u]) (zA (aj rfl) rfl) ?_
 exact JB.ag (kO (JE.ite (JT.ab (xT (aj rfl) (aj rfl))) (λ_=>JE.U7 (aj rfl) (aj rfl)) (λhq=>(have h1:=h2 hq;JE.U7 (vt (EF (Gy (aj rfl) (aj rfl))) (aj rfl) h1) (aj rfl)))))
def RU:SS:=SS.ab (wg (SG.tup (jK (aT 2) (jK (aT 3) (jK (aT 4) (jK (aT 5) (c9.nil)))))) (hjl 0)) (SS.ab (SS.set 6 (fL (hjl 3) (hjl 1))) (SS.ab (SS.set 7 (hxs (nW (hjl 6)) (aT 8) (ST.ab (SE.ac Ay (cK (hjl 0) (cK (hjl 8) (dK))))) (hjl 8) [8] (by decide))) (AM (RE.tup (RA.cons (RE.mv 7) (RA.cons (RE.e (hjl 6)) (RA.cons (RE.e (xU (SE.ab 2) (hjl 4))) (RA.cons (RE.e (hxs (nW (xU (SE.ab 2) (hjl 4))) (aT 9) (ST.ab (SE.ac Ay (cK (hjl 0) (cK (fL (hjl 6) (hjl 9)) (dK))))) (hjl 9) [9] (by decide))) (RA.nil)))))))))
def VX:Fn:=fnOf 2 8 RU
def J' (ae:aX)(aV:Int):aX:=
 lt ((ae.y+aV)) λjh=>
 lt ((KaS (λ(x1:Int)=>decide ((vF ae x1)=true)) (rng 0 jh))) λbY=>
 (T4.mk bY jh ((2:Int)*ae.z) (KaS (λ(x2:Int)=>decide ((vF ae (jh+x2))=true)) (rng 0 ((2:Int)*ae.z))))
def yP (ae:aX)(aV:Int):Prop:=
 (bu ((ae.y+aV)) λjh=>
 (-1000000<=jh/\jh<=1000000)/\(∀x1∈(rng 0 jh),vc ae x1)/\(rng 0 jh).length<=100000/\(bu ((KaS (λ(x1:Int)=>decide ((vF ae x1)=true)) (rng 0 jh))) λbY=>
 (-1000000<=((2:Int)*ae.z)/\((2:Int)*ae.z)<=1000000)/\(∀x2∈(rng 0 ((2:Int)*ae.z)),vc ae (jh+x2))/\(rng 0 ((2:Int)*ae.z)).length<=100000))
theorem iR (ae:aX)(aV:Int)(s:aa)(h0:yP ae aV):JF VX [.e ae,.e aV] s (J' ae aV) s true:=by
 unfold yP at h0
 have h10:=h0
 refine gi rfl ?_
 unfold J' RU
 show JB _ [.e ae,.e aV,.emp,.emp,.emp,.emp,.emp,.emp,.emp,.emp] _ _
 refine JB.ab (aB:=[.e ae,.e aV,.e ae.x,.e ae.y,.e ae.z,.e ae.u,.emp,.emp,.emp,.emp]) (zA (aj rfl) rfl) ?_
 refine aY λjh e2=>?_
 obtain⟨h1,h4,h3,h9⟩:=bL h10 e2
 refine JB.ab (aB:=[.e ae,.e aV,.e ae.x,.e ae.y,.e ae.z,.e ae.u,.own (enc jh),.emp,.emp,.emp]) (NV (iB (aj rfl) (aj rfl)) e2) ?_
 refine aY λbY e3=>?_
 obtain⟨h5,h8,h7⟩:=bL h9 e3
 refine JB.ab (aB:=[.e ae,.e aV,.e ae.x,.e ae.y,.e ae.z,.e ae.u,.own (enc jh),.own (enc bY),.emp,.emp]) (NV (U6 (λ(x1:Int)=>[.e ae,.e aV,.e ae.x,.e ae.y,.e ae.z,.e ae.u,.own (enc jh),.emp,.e x1,.emp]) (rq (NS rfl) h1) (λ_=>rfl) (λx1 hx=>(have h2:=h4 x1 hx;JT.ab (zD (JE.ac (aK (aj rfl) (aK (aj rfl) (bK))) (OJ ae x1 _ h2))))) (λx1 _ _=>aj rfl) (gB h3)) e3) ?_
 exact U5 (g7.Mp (g6.cons (g7.mvO rfl) (g6.iH (g7.se (NS rfl)) (g6.iH (g7.se (GC (JE.ab 2) (aj rfl) (.inl (by decide)))) (g6.cons (g7.se (U6 (λ(x2:Int)=>[.e ae,.e aV,.e ae.x,.e ae.y,.e ae.z,.e ae.u,.own (enc jh),.e bY,.emp,.e x2]) (rq (GC (JE.ab 2) (aj rfl) (.inl (by decide))) h5) (λ_=>rfl) (λx2 hx=>(have h6:=h8 x2 hx;JT.ab (zD (JE.ac (aK (aj rfl) (aK (iB (NS rfl) (aj rfl)) (bK))) (OJ ae (jh+x2) _ h6))))) (λx2 _ _=>aj rfl) (gB h7))) (g6.nil))))))
def Tw:SS:=SS.ab (hxx 3 4 (kN 3 (SE.ac Wv (dM 0 (cK (hjl 2) (dK)))) (Gx 4 (SP.nil))) (by decide)) (Jg 4 (SS.ab (iO (nW (fL (SE.ab 1) (SE.ac eG (dM 0 (cK (hjl 1) (dK)))))) (aT 5) (dR [5,6,7,8,9,10,11,12] (SS.ab (hxx 6 7 (kN 6 (SE.ac Zf (dM 0 (cK (hjl 3) (dK)))) (kN 7 (SE.ac eG (dM 0 (cK (SE.ab 6) (dK)))) (SP.nil))) (by decide)) (SS.ab (eM (EJ (ST.ab (qw (hjl 7) (SE.ab 2))) (ST.ab (izm 4))) (dR [8,9,10,11,12] (SS.ab (cF 6 (SE.Qo 4 (SE.ac eG (dM 0 (cK (SE.CO 4) (dK)))))) (SS.ab (wg (SG.tup (jK (aT 8) (jK (aT 9) (jK (aT 10) (jK (aT 11) (c9.nil)))))) (hjl 6)) (SS.ab (cF 12 (SE.ac eG (dM 0 (cK (fL (hjl 9) (SE.ab 1)) (dK))))) (eM (ST.ab (fX (hjl 7) (SE.ab 0))) (cF 6 (CD (ST.ab (qw (hjl 10) (SE.ab 13))) (SE.ac VX (cK (hjl 6) (cK (SE.ac eG (dM 0 (cK (SE.ab 5) (dK)))) (dK)))) (hjl 6))) (eM (ST.ab (qw (hjl 12) (hjl 9))) (cF 6 (SE.Kc (SE.tup (eK (CD (ST.ab (Ji true (hjl 12) (hjl 8))) (NQ (AQ (hjl 8) (SE.lst (eK (hjl 12) (fK))))) (hxs (SI.list (hjl 8)) (aT 13) (ST.ab (vy (hjl 13) (hjl 12))) (hjl 13) [13] (by decide))) fK)) (SE.slT (hjl 6) (SO.at (SE.ab 1)) (SO.no)))) (SS.ac))))))) (dR [8,9,10,11,12] (SS.ac))) (K6 4 (hjl 6)))))) (AM (RE.mv 4))))
def XR:Fn:=fnOf 3 11 Tw
def wN (c_:List Int)(sp:((List (aX)))×aa)(x1:Int):((List (aX)))×aa:=a_ sp λst1 i_=>a_ (y_ i_ c_) λa3 s3=>
 a_ (aE s3 (6:Int)) λa4 s4=>
 lt (a3) λae=>
 lt (a4) λaJ=>
 a_ (if (aJ<(2:Int))/\(st1≠[]) then
 a_ (aE s4 (st1.length:Int)) λa5 s5=>
 lt ((aq st1 a5)) λao=>
 a_ (aE s5 (ao.y+(1:Int))) λa6 s6=>
 lt (a6) λaD=>
 if aJ=(0:Int) then
 a_ (if ao.z<(13:Int) then (a_ (aE s6 (5:Int)) λa7 s7=>((J' ao a7),s7)) else (ao,s6)) λa8 s8=>
 lt (a8) λcR=>
 (cR,s8)
 else
 if aD<ao.y then
 lt ((T4.mk (if aD∉ao.x then (sortI (ao.x++[aD])) else (KaS (λ(x2:Int)=>decide (x2≠aD)) ao.x)) (T3.mk ao.y ao.z ao.u).x (T3.mk ao.y ao.z ao.u).y (T3.mk ao.y ao.z ao.u).z)) λjb=>
 (jb,s6)
 else
 (ao,s6)
 else
 (ae,s4)) λp1 s10=>
 lt (st1++[p1]) λd9=>
 (d9,s10)
def OA (c_:List Int)(sp:((List (aX)))×aa)(x1:Int):Prop:=aW sp λst1 i_=>yY i_ c_/\(aW (y_ i_ c_) λa3 s3=>
 cu s3 (6:Int)/\(aW (aE s3 (6:Int)) λa4 s4=>
 (bu (a3) λae=>
 (bu (a4) λaJ=>
 (((aJ<(2:Int))/\(st1≠[]))->(cu s4 (st1.length:Int)/\(aW (aE s4 (st1.length:Int)) λa5 s5=>
 (-(st1.length:Int)<=a5/\a5<(st1.length:Int))/\(bu ((aq st1 a5)) λao=>
 cu s5 (ao.y+(1:Int))/\(aW (aE s5 (ao.y+(1:Int))) λa6 s6=>
 (bu (a6) λaD=>
 ((aJ=(0:Int))->(((ao.z<(13:Int))->(cu s6 (5:Int)/\(aW (aE s6 (5:Int)) λa7 s7=>yP ao a7)))))/\(¬(aJ=(0:Int))->(((aD<ao.y)->(((aD∉ao.x)->(ao.x.length+[aD].length<=100000))/\(¬(aD∉ao.x)->(ao.x.length<=100000))))))))))))/\(aW (if (aJ<(2:Int))/\(st1≠[]) then
 a_ (aE s4 (st1.length:Int)) λa5 s5=>
 lt ((aq st1 a5)) λao=>
 a_ (aE s5 (ao.y+(1:Int))) λa6 s6=>
 lt (a6) λaD=>
 if aJ=(0:Int) then
 a_ (if ao.z<(13:Int) then (a_ (aE s6 (5:Int)) λa7 s7=>((J' ao a7),s7)) else (ao,s6)) λa8 s8=>
 lt (a8) λcR=>
 (cR,s8)
 else
 if aD<ao.y then
 lt ((T4.mk (if aD∉ao.x then (sortI (ao.x++[aD])) else (KaS (λ(x2:Int)=>decide (x2≠aD)) ao.x)) (T3.mk ao.y ao.z ao.u).x (T3.mk ao.y ao.z ao.u).y (T3.mk ao.y ao.z ao.u).z)) λjb=>
 (jb,s6)
 else
 (ao,s6)
 else
 (ae,s4)) λp1 s10=>
 st1.length<100000)))))
def Aw (s:aa)(aQ:Int)(bx:Bool):(List (aX))×aa:=
 a_ (A7 s bx) λa1 s1=>
 lt (a1) λc_=>
 a_ (aE s1 aQ) λa2 s2=>
 a_ (Kaq (wN c_) (([]:List (aX)),s2) (rng 0 ((1:Int)+a2))) λp3 s11=>
 (p3,s11)
def yX (s:aa)(aQ:Int)(bx:Bool):Prop:=
 Aj s bx/\(aW (A7 s bx) λa1 s1=>
 (bu (a1) λc_=>
 cu s1 aQ/\(aW (aE s1 aQ) λa2 s2=>
 (-1000000<=((1:Int)+a2)/\((1:Int)+a2)<=1000000)/\bH (wN c_) (OA c_) (rng 0 ((1:Int)+a2)) (([]:List (aX)),s2))))
theorem qB (s:aa)(aQ:Int)(bx:Bool)(h0:yX s aQ bx):JF XR [.bf,.e aQ,.e bx] s (Aw s aQ bx).1 (Aw s aQ bx).2 false:=by
 unfold yX at h0
 obtain⟨h1,h34⟩:=h0
 refine Lp rfl ?_
 unfold Aw Tw
 show JB _ [.bf,.e aQ,.e bx,.emp,.emp,.emp,.emp,.emp,.emp,.emp,.emp,.emp,.emp,.emp] _ _
 refine dJ λa1 s1 hv1=>?_
 have h33:=dZ h34 hv1
 refine aY λc_ e1=>?_
 obtain⟨h2,Gq⟩:=bL h33 e1
 refine JB.ab (aB:=[.bf,.e aQ,.e bx,.e c_,.aC (Kaf enc ([]:List (aX))) true,.emp,.emp,.emp,.emp,.emp,.emp,.emp,.emp,.emp]) (xS (JP.dat e1 (dG (JE.ac (d_ rfl (aK (aj rfl) (bK))) (kT s bx h1)) hv1) (Ql (JP.nil)))) ?_
 refine Lo (i:=4) rfl ?_
 show JB _ [.bf,.e aQ,.e bx,.e c_,.aC (Kaf enc ([]:List (aX))) false,.emp,.emp,.emp,.emp,.emp,.emp,.emp,.emp,.emp] _ _
 refine dJ λa2 s2 hv2=>?_
 obtain⟨h3,Gp⟩:=dZ Gq hv2
 refine dJ λp3 s11 qq=>?_
 refine JB.ab (JN.KG (J:=λ(st1:(List (aX)))=>[.bf,.e aQ,.e bx,.e c_,.aC (Kaf enc st1) false,.emp,.emp,.emp,.emp,.emp,.emp,.emp,.emp,.emp]) (R:=λ(st1:(List (aX))) (x1:Int)=>[.bf,.e aQ,.e bx,.e c_,.aC (Kaf enc st1) false,.e x1,.emp,.emp,.emp,.emp,.emp,.emp,.emp,.emp]) (f:=(wN c_)) (d:=(OA c_)) (st:=([]:List (aX))) (rq (iB (JE.ab 1) (dG (JE.ac (d_ rfl (aK (aj rfl) (bK))) (fj s1 aQ h2)) hv2)) h3) rfl (λ_ _=>rfl) ?_ Gp qq) ?_
 ·intro st1 i_ x1 hd
  have hd:(yY i_ c_/\(aW (y_ i_ c_) λa3 s3=>
  cu s3 (6:Int)/\(aW (aE s3 (6:Int)) λa4 s4=>
  (bu (a3) λae=>
  (bu (a4) λaJ=>
  (((aJ<(2:Int))/\(st1≠[]))->(cu s4 (st1.length:Int)/\(aW (aE s4 (st1.length:Int)) λa5 s5=>
  (-(st1.length:Int)<=a5/\a5<(st1.length:Int))/\(bu ((aq st1 a5)) λao=>
  cu s5 (ao.y+(1:Int))/\(aW (aE s5 (ao.y+(1:Int))) λa6 s6=>
  (bu (a6) λaD=>
  ((aJ=(0:Int))->(((ao.z<(13:Int))->(cu s6 (5:Int)/\(aW (aE s6 (5:Int)) λa7 s7=>yP ao a7)))))/\(¬(aJ=(0:Int))->(((aD<ao.y)->(((aD∉ao.x)->(ao.x.length+[aD].length<=100000))/\(¬(aD∉ao.x)->(ao.x.length<=100000))))))))))))/\(aW (if (aJ<(2:Int))/\(st1≠[]) then
  a_ (aE s4 (st1.length:Int)) λa5 s5=>
  lt ((aq st1 a5)) λao=>
  a_ (aE s5 (ao.y+(1:Int))) λa6 s6=>
  lt (a6) λaD=>
  if aJ=(0:Int) then
  a_ (if ao.z<(13:Int) then (a_ (aE s6 (5:Int)) λa7 s7=>((J' ao a7),s7)) else (ao,s6)) λa8 s8=>
  lt (a8) λcR=>
  (cR,s8)
  else
  if aD<ao.y then
  lt ((T4.mk (if aD∉ao.x then (sortI (ao.x++[aD])) else (KaS (λ(x2:Int)=>decide (x2≠aD)) ao.x)) (T3.mk ao.y ao.z ao.u).x (T3.mk ao.y ao.z ao.u).y (T3.mk ao.y ao.z ao.u).z)) λjb=>
  (jb,s6)
  else
  (ao,s6)
  else
  (ae,s4)) λp1 s10=>
  st1.length<100000)))))):=hd
  obtain⟨h4,Gn⟩:=hd
  show JB _ _ _ (HV _ (a_ (y_ i_ c_) λa3 s3=>
  a_ (aE s3 (6:Int)) λa4 s4=>
  lt (a3) λae=>
  lt (a4) λaJ=>
  a_ (if (aJ<(2:Int))/\(st1≠[]) then
  a_ (aE s4 (st1.length:Int)) λa5 s5=>
  lt ((aq st1 a5)) λao=>
  a_ (aE s5 (ao.y+(1:Int))) λa6 s6=>
  lt (a6) λaD=>
  if aJ=(0:Int) then
  a_ (if ao.z<(13:Int) then (a_ (aE s6 (5:Int)) λa7 s7=>((J' ao a7),s7)) else (ao,s6)) λa8 s8=>
  lt (a8) λcR=>
  (cR,s8)
  else
  if aD<ao.y then
  lt ((T4.mk (if aD∉ao.x then (sortI (ao.x++[aD])) else (KaS (λ(x2:Int)=>decide (x2≠aD)) ao.x)) (T3.mk ao.y ao.z ao.u).x (T3.mk ao.y ao.z ao.u).y (T3.mk ao.y ao.z ao.u).z)) λjb=>
  (jb,s6)
  else
  (ao,s6)
  else
  (ae,s4)) λp1 s10=>
  lt (st1++[p1]) λd9=>
  (d9,s10)))
  refine Gu ?_
  refine dJ λa3 s3 o7=>?_
  obtain⟨h5,Gm⟩:=dZ Gn o7
  refine dJ λa4 s4 o8=>?_
  have Gk:=dZ Gm o8
  refine aY λae e3=>?_
  have Gj:=bL Gk e3
  refine aY λaJ e4=>?_
  obtain⟨Gg,Gi⟩:=bL Gj e4
  refine JB.ab (aB:=[.bf,.e aQ,.e bx,.e c_,.aC (Kaf enc st1) false,.e x1,.e ae,.e aJ,.emp,.emp,.emp,.emp,.emp,.emp]) (xS (JP.dat e3 (dG (JE.ac (d_ rfl (aK (aj rfl) (bK))) (tY i_ c_ h4)) o7) (JP.dat e4 (dG (JE.ac (d_ rfl (aK (JE.ab 6) (bK))) (fj s3 (6:Int) h5)) o8) (JP.nil)))) ?_
  refine dJ λp1 s10 EC=>?_
  have Gh:=dZ Gi EC
  refine JB.ab (JN.K9 (J:=λ(p:(aX))=>[.bf,.e aQ,.e bx,.e c_,.aC (Kaf enc st1) false,.e x1,.e p,.e aJ,.emp,.emp,.emp,.emp,.emp,.emp]) (NO (JT.ab (xT (aj rfl) (JE.ab 2))) (λ_=>JT.ab (JE.LG rfl))) ?_ ?_ EC) ?_
  ·intro hq
   obtain⟨h6,Cj⟩:=Gg hq
   refine Gu ?_
   refine dJ λa5 s5 we=>?_
   obtain⟨h7,h22⟩:=dZ Cj we
   refine aY λao e6=>?_
   obtain⟨h8,h21⟩:=bL h22 e6
   refine JB.ab (aB:=[.bf,.e aQ,.e bx,.e c_,.aC (Kaf enc st1) false,.e x1,.e ao,.e aJ,.emp,.emp,.emp,.emp,.emp,.emp]) (cX (JE.Qo rfl (dG (JE.ac (d_ rfl (aK (JE.CO rfl) (bK))) (fj s4 (st1.length:Int) h6)) we) h7) e6) ?_
   refine JB.ab (aB:=[.bf,.e aQ,.e bx,.e c_,.aC (Kaf enc st1) false,.e x1,.e ao,.e aJ,.e ao.x,.e ao.y,.e ao.z,.e ao.u,.emp,.emp]) (zA (aj rfl) rfl) ?_
   refine dJ λa6 s6 xN=>?_
   have Ci:=dZ h21 xN
   refine aY λaD e8=>?_
   obtain⟨v7,v8⟩:=bL Ci e8
   refine JB.ab (aB:=[.bf,.e aQ,.e bx,.e c_,.aC (Kaf enc st1) false,.e x1,.e ao,.e aJ,.e ao.x,.e ao.y,.e ao.z,.e ao.u,.e aD,.emp]) (cX (dG (JE.ac (d_ rfl (aK (iB (aj rfl) (JE.ab 1)) (bK))) (fj s5 (ao.y+(1:Int)) h8)) xN) e8) ?_
   refine zF (JT.ab (jW (aj rfl) (JE.ab 0))) ?_ ?_
   ·intro hq
    have h12:=v7 hq
    refine dJ λa8 s8 EB=>?_
    refine aY λcR e9=>?_
    refine JB.ac (aB:=[.bf,.e aQ,.e bx,.e c_,.aC (Kaf enc st1) false,.e x1,.e cR,.e aJ,.e ao.x,.e ao.y,.e ao.z,.e ao.u,.e aD,.emp]) (cX (dG (JE.Qn (JT.ab (xT (aj rfl) (JE.ab 13))) (λhq=>(match h12 hq with|⟨h9,h11⟩=>JE.a_ λa7 s7 zC=>(have h10:=dZ h11 zC;kO (JE.ac (aK (aj rfl) (aK (dG (JE.ac (d_ rfl (aK (JE.ab 5) (bK))) (fj s6 (5:Int) h9)) zC) (bK))) (iR ao a7 _ h10))))) (λ_=>aj rfl)) EB) e9) ?_
    exact rfl
   ·intro hq
    have v5:=v8 hq
    refine zF (JT.ab (xT (aj rfl) (aj rfl))) ?_ ?_
    ·intro hq
     obtain⟨h15,vZ⟩:=v5 hq
     refine aY λjb Nc=>?_
     refine JB.ac (aB:=[.bf,.e aQ,.e bx,.e c_,.aC (Kaf enc st1) false,.e x1,.e jb,.e aJ,.e ao.x,.e ao.y,.e ao.z,.e ao.u,.e aD,.emp]) (cX (JE.Om (JE.ite (JT.ab (JE.LK (aj rfl) (aj rfl))) (λhq=>(have h13:=h15 hq;ijm (GB (aj rfl) (JE.lst (xs:=[aD]) (iK (aj rfl) (gK)) (by show 1<=100000;decide)) h13))) (λhq=>(have tN:=vZ hq;U6 (λ(x2:Int)=>[.bf,.e aQ,.e bx,.e c_,.aC (Kaf enc st1) false,.e x1,.e ao,.e aJ,.e ao.x,.e ao.y,.e ao.z,.e ao.u,.e aD,.e x2]) (JI.list (aj rfl)) (λ_=>rfl) (λx2 _=>JT.ab (CA (aj rfl) (aj rfl))) (λx2 _ _=>aj rfl) (gB tN)))) (JE.Q3 (aj rfl))) Nc) ?_
     exact rfl
    ·intro hq
     exact JB.al rfl
  ·intro hq
   refine Gu ?_
   exact JB.al rfl
  show JB _ [.bf,.e aQ,.e bx,.e c_,.aC (Kaf enc st1) false,.e x1,.e p1,.e aJ,.emp,.emp,.emp,.emp,.emp,.emp] _ _
  refine aY λd9 Nf=>?_
  refine JB.ac (aB:=[.bf,.e aQ,.e bx,.e c_,.aC (Kaf enc d9) false,.e x1,.e p1,.e aJ,.emp,.emp,.emp,.emp,.emp,.emp]) (JN.aC (hxy rfl (aj rfl) Gh) Nf) ?_
  exact rfl
 show JB _ [.bf,.e aQ,.e bx,.e c_,.aC (Kaf enc p3) false,.emp,.emp,.emp,.emp,.emp,.emp,.emp,.emp,.emp] _ _
 exact JB.mvS rfl
def Sy:SS:=SS.ab (Gv 1 (SB.own (SE.lst (fK)))) (Jg 1 (SS.ab (iO (nW (fL (SE.ab 6) (SE.ac eG (dM 0 (cK (SE.ab 3) (dK)))))) (aT 2) (dR [2,3,4,5,6] (SS.ab (U' 3 4 5 (kN 3 (SE.ac eG (dM 0 (cK (SE.ab 6) (dK)))) (kN 4 (SE.ac eG (dM 0 (cK (SE.ab 6) (dK)))) (kN 5 (SE.ac eG (dM 0 (cK (SE.ab 6) (dK)))) (SP.nil)))) (by decide)) (SS.ab (cF 6 (SE.tup (eK (SE.lst (eK (hjl 4) (fK))) (eK (fL (hjl 4) (SE.ab 1)) (eK (SE.ab 1) (eK (SE.lst (fK)) (fK))))))) (SS.ab (eM (EJ (ST.ab (fX (hjl 3) (SE.ab 3))) (ST.ab (vy (hjl 4) (hjl 5)))) (dR [] (cF 6 (SE.tup (eK (NQ (SE.lst (eK (hjl 4) (eK (hjl 5) (fK))))) (eK (fL (Cr (hjl 4) (hjl 5)) (SE.ab 1)) (eK (SE.ab 1) (eK (SE.lst (fK)) (fK)))))))) (dR [] (SS.ac))) (SS.ab (eM (ST.ab (fX (hjl 3) (SE.ab 4))) (dR [] (cF 6 (SE.tup (eK (SE.lst (fK)) (eK (hjl 4) (eK (fL (SE.ab 1) (o6 (oZ (hjl 5)) (SE.ab 2))) (eK (SE.lst (eK (SE.ab 0) (fK))) (fK)))))))) (dR [] (SS.ac))) (SS.ab (eM (ST.ab (fX (hjl 3) (SE.ab 5))) (dR [] (cF 6 (SE.tup (eK (SE.lst (fK)) (eK (hjl 4) (eK (fL (SE.ab 1) (o6 (oZ (hjl 5)) (SE.ab 2))) (eK (SE.lst (fK)) (fK)))))))) (dR [] (SS.ac))) (K6 1 (hjl 6))))))))) (AM (RE.mv 1))))
def Xj:Fn:=fnOf 1 6 Sy
def w_  (sp:((List (aX)))×aa)(x1:Int):((List (aX)))×aa:=a_ sp λst1 i_=>a_ (aE i_ (6:Int)) λa2 s2=>
 a_ (aE s2 (6:Int)) λa3 s3=>
 a_ (aE s3 (6:Int)) λa4 s4=>
 lt (a2) λaJ=>
 lt (a3) λaD=>
 lt (a4) λaV=>
 lt ((T4.mk [aD] (aD+(1:Int)) (1:Int) ([]:List Int))) λae=>
 lt (if (aJ=(3:Int))/\(aD≠aV) then
 lt ((T4.mk (sortI [aD,aV]) ((max aD aV)+(1:Int)) (1:Int) ([]:List Int))) λcR=>
 cR
 else
 ae) λp1=>
 lt (if aJ=(4:Int) then
 lt ((T4.mk ([]:List Int) aD ((1:Int)+(aV % (2:Int))) [(0:Int)])) λjc=>
 jc
 else
 p1) λp2=>
 lt (if aJ=(5:Int) then
 lt ((T4.mk ([]:List Int) aD ((1:Int)+(aV % (2:Int))) ([]:List Int))) λjd=>
 jd
 else
 p2) λp3=>
 lt (st1++[p3]) λd9=>
 (d9,s4)
def OC  (sp:((List (aX)))×aa)(x1:Int):Prop:=aW sp λst1 i_=>cu i_ (6:Int)/\(aW (aE i_ (6:Int)) λa2 s2=>
 cu s2 (6:Int)/\(aW (aE s2 (6:Int)) λa3 s3=>
 cu s3 (6:Int)/\(aW (aE s3 (6:Int)) λa4 s4=>
 (bu (a2) λaJ=>
 (bu (a3) λaD=>
 (bu (a4) λaV=>
 (bu ((T4.mk [aD] (aD+(1:Int)) (1:Int) ([]:List Int))) λae=>
 (bu (if (aJ=(3:Int))/\(aD≠aV) then
 lt ((T4.mk (sortI [aD,aV]) ((max aD aV)+(1:Int)) (1:Int) ([]:List Int))) λcR=>
 cR
 else
 ae) λp1=>
 (bu (if aJ=(4:Int) then
 lt ((T4.mk ([]:List Int) aD ((1:Int)+(aV % (2:Int))) [(0:Int)])) λjc=>
 jc
 else
 p1) λp2=>
 (bu (if aJ=(5:Int) then
 lt ((T4.mk ([]:List Int) aD ((1:Int)+(aV % (2:Int))) ([]:List Int))) λjd=>
 jd
 else
 p2) λp3=>
 st1.length<100000))))))))))
def u_ (s:aa)  : (List (aX))×aa:=
 lt (([]:List (aX))) λeU=>
 a_ (aE s (3:Int)) λa1 s1=>
 a_ (Kaq (w_) (eU,s1) (rng 0 ((6:Int)+a1))) λp4 s5=>
 (p4,s5)
def yV (s:aa)  : Prop:=
 (bu (([]:List (aX))) λeU=>
 cu s (3:Int)/\(aW (aE s (3:Int)) λa1 s1=>
 (-1000000<=((6:Int)+a1)/\((6:Int)+a1)<=1000000)/\bH (w_) (OC) (rng 0 ((6:Int)+a1)) (eU,s1)))
theorem qz (s:aa)  (h0:yV s ):JF Xj [.bf] s (u_ s ).1 (u_ s ).2 false:=by
 unfold yV at h0
 have v8:=h0
 refine Lp rfl ?_
 unfold u_ Sy
 show JB _ [.bf,.emp,.emp,.emp,.emp,.emp,.emp] _ _
 refine aY λeU e1=>?_
 obtain⟨h1,v7⟩:=bL v8 e1
 refine JB.ab (aB:=[.bf,.aC (Kaf enc eU) true,.emp,.emp,.emp,.emp,.emp]) (JN.aC (Ld (JE.lst (xs:=[]) gK)) e1) ?_
 refine Lo (i:=1) rfl ?_
 show JB _ [.bf,.aC (Kaf enc eU) false,.emp,.emp,.emp,.emp,.emp] _ _
 refine dJ λa1 s1 hv1=>?_
 obtain⟨h2,v5⟩:=dZ v7 hv1
 refine dJ λp4 s5 we=>?_
 refine JB.ab (JN.KG (J:=λ(st1:(List (aX)))=>[.bf,.aC (Kaf enc st1) false,.emp,.emp,.emp,.emp,.emp]) (R:=λ(st1:(List (aX))) (x1:Int)=>[.bf,.aC (Kaf enc st1) false,.e x1,.emp,.emp,.emp,.emp]) (f:=(w_)) (d:=(OC)) (st:=eU) (rq (iB (JE.ab 6) (dG (JE.ac (d_ rfl (aK (JE.ab 3) (bK))) (fj s (3:Int) h1)) hv1)) h2) rfl (λ_ _=>rfl) ?_ v5 we) ?_
 ·intro st1 i_ x1 hd
  have hd:(cu i_ (6:Int)/\(aW (aE i_ (6:Int)) λa2 s2=>
  cu s2 (6:Int)/\(aW (aE s2 (6:Int)) λa3 s3=>
  cu s3 (6:Int)/\(aW (aE s3 (6:Int)) λa4 s4=>
  (bu (a2) λaJ=>
  (bu (a3) λaD=>
  (bu (a4) λaV=>
  (bu ((T4.mk [aD] (aD+(1:Int)) (1:Int) ([]:List Int))) λae=>
  (bu (if (aJ=(3:Int))/\(aD≠aV) then
  lt ((T4.mk (sortI [aD,aV]) ((max aD aV)+(1:Int)) (1:Int) ([]:List Int))) λcR=>
  cR
  else
  ae) λp1=>
  (bu (if aJ=(4:Int) then
  lt ((T4.mk ([]:List Int) aD ((1:Int)+(aV % (2:Int))) [(0:Int)])) λjc=>
  jc
  else
  p1) λp2=>
  (bu (if aJ=(5:Int) then
  lt ((T4.mk ([]:List Int) aD ((1:Int)+(aV % (2:Int))) ([]:List Int))) λjd=>
  jd
  else
  p2) λp3=>
  st1.length<100000))))))))))):=hd
  obtain⟨h3,vZ⟩:=hd
  show JB _ _ _ (HV _ (a_ (aE i_ (6:Int)) λa2 s2=>
  a_ (aE s2 (6:Int)) λa3 s3=>
  a_ (aE s3 (6:Int)) λa4 s4=>
  lt (a2) λaJ=>
  lt (a3) λaD=>
  lt (a4) λaV=>
  lt ((T4.mk [aD] (aD+(1:Int)) (1:Int) ([]:List Int))) λae=>
  lt (if (aJ=(3:Int))/\(aD≠aV) then
  lt ((T4.mk (sortI [aD,aV]) ((max aD aV)+(1:Int)) (1:Int) ([]:List Int))) λcR=>
  cR
  else
  ae) λp1=>
  lt (if aJ=(4:Int) then
  lt ((T4.mk ([]:List Int) aD ((1:Int)+(aV % (2:Int))) [(0:Int)])) λjc=>
  jc
  else
  p1) λp2=>
  lt (if aJ=(5:Int) then
  lt ((T4.mk ([]:List Int) aD ((1:Int)+(aV % (2:Int))) ([]:List Int))) λjd=>
  jd
  else
  p2) λp3=>
  lt (st1++[p3]) λd9=>
  (d9,s4)))
  refine Gu ?_
  refine dJ λa2 s2 hv2=>?_
  obtain⟨h4,h15⟩:=dZ vZ hv2
  refine dJ λa3 s3 o7=>?_
  obtain⟨h5,tN⟩:=dZ h15 o7
  refine dJ λa4 s4 o8=>?_
  have h13:=dZ tN o8
  refine aY λaJ e2=>?_
  have h12:=bL h13 e2
  refine aY λaD e3=>?_
  have h11:=bL h12 e3
  refine aY λaV e4=>?_
  have h10:=bL h11 e4
  refine JB.ab (aB:=[.bf,.aC (Kaf enc st1) false,.e x1,.e aJ,.e aD,.e aV,.emp]) (JN.QJ (JP.dat e2 (dG (JE.ac (d_ rfl (aK (JE.ab 6) (bK))) (fj i_ (6:Int) h3)) hv2) (JP.dat e3 (dG (JE.ac (d_ rfl (aK (JE.ab 6) (bK))) (fj s2 (6:Int) h4)) o7) (JP.dat e4 (dG (JE.ac (d_ rfl (aK (JE.ab 6) (bK))) (fj s3 (6:Int) h5)) o8) (JP.nil))))) ?_
  refine aY λae e5=>?_
  have h9:=bL h10 e5
  refine JB.ab (aB:=[.bf,.aC (Kaf enc st1) false,.e x1,.e aJ,.e aD,.e aV,.e ae]) (cX (Qt (JA.cons (JE.lst (xs:=[aD]) (iK (aj rfl) (gK)) (by show 1<=100000;decide)) (iK (iB (aj rfl) (JE.ab 1)) (iK (JE.ab 1) (JA.cons (JE.lst (xs:=[]) gK) (gK)))))) e5) ?_
  refine aY λp1 e6=>?_
  have h8:=bL h9 e6
  refine JB.ab (JN.U1 (J:=λ(p:(aX))=>[.bf,.aC (Kaf enc st1) false,.e x1,.e aJ,.e aD,.e aV,.e p]) (NO (JT.ab (jW (aj rfl) (JE.ab 3))) (λ_=>JT.ab (CA (aj rfl) (aj rfl)))) ?_ ?_ e6) ?_
  ·intro hq
   refine gQ ?_
   refine aY λcR e8=>?_
   refine JB.ac (aB:=[.bf,.aC (Kaf enc st1) false,.e x1,.e aJ,.e aD,.e aV,.e cR]) (cX (Qt (JA.cons (ijm (JE.lst (xs:=[aD,aV]) (iK (aj rfl) (iK (aj rfl) (gK))) (by show 2<=100000;decide))) (iK (iB (Ln (aj rfl) (aj rfl)) (JE.ab 1)) (iK (JE.ab 1) (JA.cons (JE.lst (xs:=[]) gK) (gK)))))) e8) ?_
   exact rfl
  ·intro hq
   refine gQ ?_
   exact JB.al rfl
  show JB _ [.bf,.aC (Kaf enc st1) false,.e x1,.e aJ,.e aD,.e aV,.e p1] _ _
  refine aY λp2 e9=>?_
  have h7:=bL h8 e9
  refine JB.ab (JN.U1 (J:=λ(p:(aX))=>[.bf,.aC (Kaf enc st1) false,.e x1,.e aJ,.e aD,.e aV,.e p]) (JT.ab (jW (aj rfl) (JE.ab 4))) ?_ ?_ e9) ?_
  ·intro hq
   refine gQ ?_
   refine aY λjc Nf=>?_
   refine JB.ac (aB:=[.bf,.aC (Kaf enc st1) false,.e x1,.e aJ,.e aD,.e aV,.e jc]) (cX (Qt (JA.cons (JE.lst (xs:=[]) gK) (iK (aj rfl) (iK (iB (JE.ab 1) (vt (EF (aj rfl)) (JE.ab 2) (by decide))) (JA.cons (JE.lst (xs:=[(0:Int)]) (iK (JE.ab 0) (gK)) (by show 1<=100000;decide)) (gK)))))) Nf) ?_
   exact rfl
  ·intro hq
   refine gQ ?_
   exact JB.al rfl
  show JB _ [.bf,.aC (Kaf enc st1) false,.e x1,.e aJ,.e aD,.e aV,.e p2] _ _
  refine aY λp3 sP=>?_
  have h6:=bL h7 sP
  refine JB.ab (JN.U1 (J:=λ(p:(aX))=>[.bf,.aC (Kaf enc st1) false,.e x1,.e aJ,.e aD,.e aV,.e p]) (JT.ab (jW (aj rfl) (JE.ab 5))) ?_ ?_ sP) ?_
  ·intro hq
   refine gQ ?_
   refine aY λjd W6=>?_
   refine JB.ac (aB:=[.bf,.aC (Kaf enc st1) false,.e x1,.e aJ,.e aD,.e aV,.e jd]) (cX (Qt (JA.cons (JE.lst (xs:=[]) gK) (iK (aj rfl) (iK (iB (JE.ab 1) (vt (EF (aj rfl)) (JE.ab 2) (by decide))) (JA.cons (JE.lst (xs:=[]) gK) (gK)))))) W6) ?_
   exact rfl
  ·intro hq
   refine gQ ?_
   exact JB.al rfl
  show JB _ [.bf,.aC (Kaf enc st1) false,.e x1,.e aJ,.e aD,.e aV,.e p3] _ _
  refine aY λd9 e15=>?_
  refine JB.ac (aB:=[.bf,.aC (Kaf enc d9) false,.e x1,.e aJ,.e aD,.e aV,.e p3]) (JN.aC (hxy rfl (aj rfl) h6) e15) ?_
  exact rfl
 show JB _ [.bf,.aC (Kaf enc p4) false,.emp,.emp,.emp,.emp,.emp] _ _
 exact JB.mvS rfl
def TH:SS:=SS.ab (cF 1 (cW (SE.lst (eK (fL (SE.ab 4) (SE.ac eG (dM 0 (cK (SE.ab 56) (dK))))) (eK (fL (SE.ab 57) (SE.ac eG (dM 0 (cK (SE.ab 4) (dK))))) (fK)))) (SE.ac eG (dM 0 (cK (SE.ab 2) (dK)))))) (SS.ab (cF 2 (fL (SE.ab 3) (SE.ac eG (dM 0 (cK (SE.ab 2) (dK)))))) (SS.ab (U' 3 4 5 (kN 3 (SE.ac eG (dM 0 (cK (SE.ab 8) (dK)))) (kN 4 (cW (SE.lst (eK (SE.ab 1) (eK (SE.ab 3) (eK (SE.ab 5) (eK (SE.ab 7) (fK)))))) (SE.ac eG (dM 0 (cK (SE.ab 4) (dK))))) (Gx 5 (SP.nil)))) (by decide)) (Jg 5 (SS.ab (iO (nW (fL (SE.ab 6) (SE.ac eG (dM 0 (cK (SE.ab 3) (dK)))))) (aT 6) (dR [6,7,8,9] (SS.ab (cF 7 (o6 (oZ (fL (hjl 3) (xU (hjl 4) (hjl 6)))) (SE.ab 8))) (SS.ab (cF 8 (cW (SE.lst (eK (SE.lst (eK (SE.ab 0) (fK))) (eK (SE.lst (eK (SE.ab 1) (fK))) (eK (SE.lst (eK (SE.ab 2) (fK))) (eK (SE.lst (eK (SE.ab 3) (fK))) (eK (SE.lst (fK)) (eK (SE.lst (eK (SE.ab 0) (eK (SE.ab 1) (fK)))) (eK (SE.lst (eK (SE.ab 1) (eK (SE.ab 2) (fK)))) (eK (SE.lst (eK (SE.ab 2) (eK (SE.ab 3) (fK)))) (fK)))))))))) (hjl 6))) (SS.ab (cF 9 (hxs (nW (SE.ab 3)) (aT 10) (ST.ab (fX (o6 (oZ (vp (hjl 7) (cW (SE.lst (eK (SE.ab 1) (eK (SE.ab 2) (eK (SE.ab 4) (fK))))) (hjl 10)))) (SE.ab 2)) (SE.ab 1))) (hjl 10) [10] (by decide))) (K6 5 (SE.tup (eK (hjl 8) (eK (hjl 1) (eK (hjl 2) (eK (hjl 9) (fK)))))))))))) (Cq 5 (SS.ag (hjl 5)))))))
def Zr:Fn:=fnOf 1 10 TH
def An (gh:Int)(br:Int)(kG:Int)(cA:Int)(st1:(List (aX)))(x1:Int):(List (aX)):=
 lt (((kG+(cA*x1)) % (8:Int))) λiG=>
 lt ((aq [[(0:Int)],[(1:Int)],[(2:Int)],[(3:Int)],([]:List Int),[(0:Int),(1:Int)],[(1:Int),(2:Int)],[(2:Int),(3:Int)]] x1)) λoB=>
 lt ((KaS (λ(x2:Int)=>decide (((iG / (aq [(1:Int),(2:Int),(4:Int)] x2)) % (2:Int))=(1:Int))) (rng 0 (3:Int)))) λPL=>
 lt (st1++[(T4.mk oB gh br PL)]) λd9=>
 d9
def MZ (gh:Int)(br:Int)(kG:Int)(cA:Int)(st1:(List (aX)))(x1:Int):Prop:=
 (KbP cA<18446744073709551616∨KbP x1<18446744073709551616)/\(bu (((kG+(cA*x1)) % (8:Int))) λiG=>
 (-([[(0:Int)],[(1:Int)],[(2:Int)],[(3:Int)],([]:List Int),[(0:Int),(1:Int)],[(1:Int),(2:Int)],[(2:Int),(3:Int)]].length:Int)<=x1/\x1<([[(0:Int)],[(1:Int)],[(2:Int)],[(3:Int)],([]:List Int),[(0:Int),(1:Int)],[(1:Int),(2:Int)],[(2:Int),(3:Int)]].length:Int))/\(bu ((aq [[(0:Int)],[(1:Int)],[(2:Int)],[(3:Int)],([]:List Int),[(0:Int),(1:Int)],[(1:Int),(2:Int)],[(2:Int),(3:Int)]] x1)) λoB=>
 (∀x2∈(rng 0 (3:Int)),(-([(1:Int),(2:Int),(4:Int)].length:Int)<=x2/\x2<([(1:Int),(2:Int),(4:Int)].length:Int))/\(0<(aq [(1:Int),(2:Int),(4:Int)] x2)/\(aq [(1:Int),(2:Int),(4:Int)] x2)<1000000000000000000000000000000000000000000000000000000000000))/\(rng 0 (3:Int)).length<=100000/\(bu ((KaS (λ(x2:Int)=>decide (((iG / (aq [(1:Int),(2:Int),(4:Int)] x2)) % (2:Int))=(1:Int))) (rng 0 (3:Int)))) λPL=>
 st1.length<100000)))
def u5 (s:aa)  : (List (aX))×aa:=
 a_ (aE s (56:Int)) λa1 s1=>
 a_ (aE s1 (4:Int)) λa2 s2=>
 a_ (aE s2 (2:Int)) λa3 s3=>
 lt ((aq [((4:Int)+a1),((57:Int)+a2)] a3)) λgh=>
 a_ (aE s3 (2:Int)) λa4 s4=>
 lt (((3:Int)+a4)) λbr=>
 a_ (aE s4 (8:Int)) λa5 s5=>
 a_ (aE s5 (4:Int)) λa6 s6=>
 lt (a5) λkG=>
 lt ((aq [(1:Int),(3:Int),(5:Int),(7:Int)] a6)) λcA=>
 a_ (aE s6 (3:Int)) λa7 s7=>
 lt (Kaq (An gh br kG cA) ([]:List (aX)) (rng 0 ((6:Int)+a7))) λp1=>
 (p1,s7)
def yR (s:aa)  : Prop:=
 cu s (56:Int)/\(aW (aE s (56:Int)) λa1 s1=>
 cu s1 (4:Int)/\(aW (aE s1 (4:Int)) λa2 s2=>
 cu s2 (2:Int)/\(aW (aE s2 (2:Int)) λa3 s3=>
 (-([((4:Int)+a1),((57:Int)+a2)].length:Int)<=a3/\a3<([((4:Int)+a1),((57:Int)+a2)].length:Int))/\(bu ((aq [((4:Int)+a1),((57:Int)+a2)] a3)) λgh=>
 cu s3 (2:Int)/\(aW (aE s3 (2:Int)) λa4 s4=>
 (bu (((3:Int)+a4)) λbr=>
 cu s4 (8:Int)/\(aW (aE s4 (8:Int)) λa5 s5=>
 cu s5 (4:Int)/\(aW (aE s5 (4:Int)) λa6 s6=>
 (bu (a5) λkG=>
 (-([(1:Int),(3:Int),(5:Int),(7:Int)].length:Int)<=a6/\a6<([(1:Int),(3:Int),(5:Int),(7:Int)].length:Int))/\(bu ((aq [(1:Int),(3:Int),(5:Int),(7:Int)] a6)) λcA=>
 cu s6 (3:Int)/\(aW (aE s6 (3:Int)) λa7 s7=>
 (-1000000<=((6:Int)+a7)/\((6:Int)+a7)<=1000000)/\bH (An gh br kG cA) (MZ gh br kG cA) (rng 0 ((6:Int)+a7)) ([]:List (aX)))))))))))))
theorem tX (s:aa)  (h0:yR s ):JF Zr [.bf] s (u5 s ).1 (u5 s ).2 false:=by
 unfold yR at h0
 obtain⟨h1,Gq⟩:=h0
 refine Lp rfl ?_
 unfold u5 TH
 show JB _ [.bf,.emp,.emp,.emp,.emp,.emp,.emp,.emp,.emp,.emp,.emp] _ _
 refine dJ λa1 s1 hv1=>?_
 obtain⟨h2,Gp⟩:=dZ Gq hv1
 refine dJ λa2 s2 hv2=>?_
 obtain⟨h3,Gn⟩:=dZ Gp hv2
 refine dJ λa3 s3 o7=>?_
 obtain⟨h4,Gm⟩:=dZ Gn o7
 refine aY λgh e1=>?_
 obtain⟨h5,Gk⟩:=bL Gm e1
 refine JB.ab (aB:=[.bf,.e gh,.emp,.emp,.emp,.emp,.emp,.emp,.emp,.emp,.emp]) (cX (iC (JE.lst (xs:=[((4:Int)+a1),((57:Int)+a2)]) (iK (iB (JE.ab 4) (dG (JE.ac (d_ rfl (aK (JE.ab 56) (bK))) (fj s (56:Int) h1)) hv1)) (iK (iB (JE.ab 57) (dG (JE.ac (d_ rfl (aK (JE.ab 4) (bK))) (fj s1 (4:Int) h2)) hv2)) (gK))) (by show 2<=100000;decide)) (dG (JE.ac (d_ rfl (aK (JE.ab 2) (bK))) (fj s2 (2:Int) h3)) o7) h4) e1) ?_
 refine dJ λa4 s4 o8=>?_
 have Gj:=dZ Gk o8
 refine aY λbr e2=>?_
 obtain⟨h6,Gi⟩:=bL Gj e2
 refine JB.ab (aB:=[.bf,.e gh,.e br,.emp,.emp,.emp,.emp,.emp,.emp,.emp,.emp]) (cX (iB (JE.ab 3) (dG (JE.ac (d_ rfl (aK (JE.ab 2) (bK))) (fj s3 (2:Int) h5)) o8)) e2) ?_
 refine dJ λa5 s5 we=>?_
 obtain⟨h7,Gh⟩:=dZ Gi we
 refine dJ λa6 s6 xN=>?_
 have Gg:=dZ Gh xN
 refine aY λkG e3=>?_
 obtain⟨h8,Cj⟩:=bL Gg e3
 refine aY λcA e4=>?_
 obtain⟨h9,h22⟩:=bL Cj e4
 refine JB.ab (aB:=[.bf,.e gh,.e br,.e kG,.e cA,.aC (Kaf enc ([]:List (aX))) true,.emp,.emp,.emp,.emp,.emp]) (JN.QJ (JP.dat e3 (dG (JE.ac (d_ rfl (aK (JE.ab 8) (bK))) (fj s4 (8:Int) h6)) we) (JP.dat e4 (iC (JE.lst (xs:=[(1:Int),(3:Int),(5:Int),(7:Int)]) (iK (JE.ab 1) (iK (JE.ab 3) (iK (JE.ab 5) (iK (JE.ab 7) (gK))))) (by show 4<=100000;decide)) (dG (JE.ac (d_ rfl (aK (JE.ab 4) (bK))) (fj s5 (4:Int) h7)) xN) h8) (Ql (JP.nil))))) ?_
 refine Lo (i:=5) rfl ?_
 show JB _ [.bf,.e gh,.e br,.e kG,.e cA,.aC (Kaf enc ([]:List (aX))) false,.emp,.emp,.emp,.emp,.emp] _ _
 refine dJ λa7 s7 zC=>?_
 obtain⟨h10,h21⟩:=dZ h22 zC
 refine aY λp1 Nc=>?_
 refine JB.ab (tQ (J:=λ(st1:(List (aX)))=>[.bf,.e gh,.e br,.e kG,.e cA,.aC (Kaf enc st1) false,.emp,.emp,.emp,.emp,.emp]) (R:=λ(st1:(List (aX))) (x1:Int)=>[.bf,.e gh,.e br,.e kG,.e cA,.aC (Kaf enc st1) false,.e x1,.emp,.emp,.emp,.emp]) (f:=(An gh br kG cA)) (d:=(MZ gh br kG cA)) (st:=([]:List (aX))) (rq (iB (JE.ab 6) (dG (JE.ac (d_ rfl (aK (JE.ab 3) (bK))) (fj s6 (3:Int) h9)) zC)) h10) rfl (λ_ _=>rfl) ?_ h21 Nc) ?_
 ·intro st1 x1 hd
  unfold MZ at hd
  obtain⟨h11,Ci⟩:=hd
  unfold An
  refine gQ ?_
  refine aY λiG e6=>?_
  obtain⟨h12,v8⟩:=bL Ci e6
  refine JB.ab (aB:=[.bf,.e gh,.e br,.e kG,.e cA,.aC (Kaf enc st1) false,.e x1,.e iG,.emp,.emp,.emp]) (cX (vt (EF (iB (aj rfl) (GC (aj rfl) (aj rfl) h11))) (JE.ab 8) (by decide)) e6) ?_
  refine aY λoB e7=>?_
  obtain⟨vZ,h15,v7⟩:=bL v8 e7
  refine JB.ab (aB:=[.bf,.e gh,.e br,.e kG,.e cA,.aC (Kaf enc st1) false,.e x1,.e iG,.e oB,.emp,.emp]) (cX (iC (JE.lst (xs:=[[(0:Int)],[(1:Int)],[(2:Int)],[(3:Int)],([]:List Int),[(0:Int),(1:Int)],[(1:Int),(2:Int)],[(2:Int),(3:Int)]]) (JA.cons (JE.lst (xs:=[(0:Int)]) (iK (JE.ab 0) (gK)) (by show 1<=100000;decide)) (JA.cons (JE.lst (xs:=[(1:Int)]) (iK (JE.ab 1) (gK)) (by show 1<=100000;decide)) (JA.cons (JE.lst (xs:=[(2:Int)]) (iK (JE.ab 2) (gK)) (by show 1<=100000;decide)) (JA.cons (JE.lst (xs:=[(3:Int)]) (iK (JE.ab 3) (gK)) (by show 1<=100000;decide)) (JA.cons (JE.lst (xs:=[]) gK) (JA.cons (JE.lst (xs:=[(0:Int),(1:Int)]) (iK (JE.ab 0) (iK (JE.ab 1) (gK))) (by show 2<=100000;decide)) (JA.cons (JE.lst (xs:=[(1:Int),(2:Int)]) (iK (JE.ab 1) (iK (JE.ab 2) (gK))) (by show 2<=100000;decide)) (JA.cons (JE.lst (xs:=[(2:Int),(3:Int)]) (iK (JE.ab 2) (iK (JE.ab 3) (gK))) (by show 2<=100000;decide)) (gK))))))))) (by show 8<=100000;decide)) (aj rfl) h12) e7) ?_
  refine aY λPL e8=>?_
  have v5:=bL v7 e8
  refine JB.ab (aB:=[.bf,.e gh,.e br,.e kG,.e cA,.aC (Kaf enc st1) false,.e x1,.e iG,.e oB,.e PL,.emp]) (cX (U6 (λ(x2:Int)=>[.bf,.e gh,.e br,.e kG,.e cA,.aC (Kaf enc st1) false,.e x1,.e iG,.e oB,.emp,.e x2]) (rq (JE.ab 3) (by decide)) (λ_=>rfl) (λx2 hx=>(match vZ x2 hx with|⟨h13,tN⟩=>JT.ab (jW (vt (EF (AO (aj rfl) (iC (JE.lst (xs:=[(1:Int),(2:Int),(4:Int)]) (iK (JE.ab 1) (iK (JE.ab 2) (iK (JE.ab 4) (gK)))) (by show 3<=100000;decide)) (aj rfl) h13) tN)) (JE.ab 2) (by decide)) (JE.ab 1)))) (λx2 _ _=>aj rfl) (gB h15)) e8) ?_
  refine aY λd9 e9=>?_
  refine JB.ac (aB:=[.bf,.e gh,.e br,.e kG,.e cA,.aC (Kaf enc d9) false,.e x1,.e iG,.e oB,.e PL,.emp]) (JN.aC (hxy rfl (Qt (vq (aj rfl) (iK (aj rfl) (iK (aj rfl) (vq (aj rfl) (gK)))))) v5) e9) ?_
  exact rfl
 show JB _ [.bf,.e gh,.e br,.e kG,.e cA,.aC (Kaf enc p1) false,.emp,.emp,.emp,.emp,.emp] _ _
 refine JB.frz (i:=5) rfl ?_
 show JB _ [.bf,.e gh,.e br,.e kG,.e cA,.e p1,.emp,.emp,.emp,.emp,.emp] _ _
 exact Qj (aj rfl)
def Sw:SS:=SS.ab (hxx 4 5 (Gx 4 (Vc 5 (SP.nil))) (by decide)) (SS.ab (iO (nW (hjl 2)) (aT 6) (dR [6,7,8] (SS.ab (cF 7 (cW (SE.lst (eK (SE.ac eG (dM 0 (cK (SE.ab 6) (dK)))) (eK (SE.ac eG (dM 0 (cK (SE.ab 14) (dK)))) (eK (SE.ac eG (dM 0 (cK (SE.ab 60) (dK)))) (fK))))) (SE.ac eG (dM 0 (cK (SE.ab 3) (dK)))))) (SS.ab (eM (ST.ab (fX (SE.ac eG (dM 0 (cK (SE.ab 10) (dK)))) (SE.ab 0))) (dR [] (cF 7 (cW (SE.lst (eK (AR (AR (EI (SE.ab 10) (SE.ab 30)) (SE.ab 8)) (SE.ac eG (dM 0 (cK (SE.ab 70) (dK))))) (eK (SE.ac eG (dM 0 (cK (EI (SE.ab 10) (SE.ab 9)) (dK)))) (fK)))) (SE.ac eG (dM 0 (cK (SE.ab 2) (dK))))))) (dR [] (SS.ac))) (SS.ab (cF 8 (NJ (GD (hjl 3) (SE.ab 0)) (fX (SE.ac eG (dM 0 (cK (Cr (SE.ab 1) (hjl 3)) (dK)))) (SE.ab 0)))) (SS.ab (ixs 5 (hjl 7) (Vd 5 (hjl 7) (vy (SE.ac Ay (cK (hjl 1) (cK (hjl 7) (dK)))) (hjl 8)))) (Cp 4 (SE.tup (eK (hjl 7) (eK (SE.OG 5 (hjl 7)) (fK))))))))))) (AM (RE.mv 4)))
def Xf:Fn:=fnOf 4 5 Sw
def w6 (ae:aX)(bC:Int)(sp:((List (Int×Bool))×(List (Int×Bool)))×aa)(x1:Int):((List (Int×Bool))×(List (Int×Bool)))×aa:=a_ sp λst1 i_=>a_ (aE i_ (6:Int)) λa1 s1=>
 a_ (aE s1 (14:Int)) λa2 s2=>
 a_ (aE s2 (60:Int)) λa3 s3=>
 a_ (aE s3 (3:Int)) λa4 s4=>
 lt ((aq [a1,a2,a3] a4)) λaD=>
 a_ (aE s4 (10:Int)) λa5 s5=>
 a_ (if a5=(0:Int) then
 a_ (aE s5 (70:Int)) λa6 s6=>
 a_ (aE s6 ((10:Int) ^ (KaU (9:Int)))) λa7 s7=>
 a_ (aE s7 (2:Int)) λa8 s8=>
 lt ((aq [((((10:Int) ^ (KaU (30:Int)))-(8:Int))-a6),a7] a8)) λqj=>
 (qj,s8)
 else
 (aD,s5)) λp1 s9=>
 a_ (if (0:Int)<bC then (a_ (aE s9 (max (1:Int) bC)) λa9 s10=>((decide (a9=(0:Int))),s10)) else (false,s9)) λa10 s11=>
 lt (a10) λBK=>
 lt ((p1,(Kba (aN st1.1 p1) (decide ((vF ae p1)≠BK))))::st1.1) λjg=>
 lt (st1.2++[(p1,(Kba (aN jg p1) default))]) λd9=>
 ((jg,d9),s11)
def Ol (ae:aX)(bC:Int)(sp:((List (Int×Bool))×(List (Int×Bool)))×aa)(x1:Int):Prop:=aW sp λst1 i_=>cu i_ (6:Int)/\(aW (aE i_ (6:Int)) λa1 s1=>
 cu s1 (14:Int)/\(aW (aE s1 (14:Int)) λa2 s2=>
 cu s2 (60:Int)/\(aW (aE s2 (60:Int)) λa3 s3=>
 cu s3 (3:Int)/\(aW (aE s3 (3:Int)) λa4 s4=>
 (-([a1,a2,a3].length:Int)<=a4/\a4<([a1,a2,a3].length:Int))/\(bu ((aq [a1,a2,a3] a4)) λaD=>
 cu s4 (10:Int)/\(aW (aE s4 (10:Int)) λa5 s5=>
 ((a5=(0:Int))->(cu s5 (70:Int)/\(aW (aE s5 (70:Int)) λa6 s6=>
 cu s6 ((10:Int) ^ (KaU (9:Int)))/\(aW (aE s6 ((10:Int) ^ (KaU (9:Int)))) λa7 s7=>
 cu s7 (2:Int)/\(aW (aE s7 (2:Int)) λa8 s8=>
 (-([((((10:Int) ^ (KaU (30:Int)))-(8:Int))-a6),a7].length:Int)<=a8/\a8<([((((10:Int) ^ (KaU (30:Int)))-(8:Int))-a6),a7].length:Int)))))))/\(aW (if a5=(0:Int) then
 a_ (aE s5 (70:Int)) λa6 s6=>
 a_ (aE s6 ((10:Int) ^ (KaU (9:Int)))) λa7 s7=>
 a_ (aE s7 (2:Int)) λa8 s8=>
 lt ((aq [((((10:Int) ^ (KaU (30:Int)))-(8:Int))-a6),a7] a8)) λqj=>
 (qj,s8)
 else
 (aD,s5)) λp1 s9=>
 (((0:Int)<bC)->(cu s9 (max (1:Int) bC)))/\(aW (if (0:Int)<bC then (a_ (aE s9 (max (1:Int) bC)) λa9 s10=>((decide (a9=(0:Int))),s10)) else (false,s9)) λa10 s11=>
 (bu (a10) λBK=>
 vc ae p1/\st1.1.length<100000/\(bu ((p1,(Kba (aN st1.1 p1) (decide ((vF ae p1)≠BK))))::st1.1) λjg=>
 KaZ (aN jg p1)=true/\st1.2.length<100000))))))))))
def yN (s:aa)(ae:aX)(many1:Int)(bC:Int):(List (Int×Bool))×aa:=
 a_ (Kaq (w6 ae bC) ((([]:List (Int×Bool)),([]:List (Int×Bool))),s) (rng 0 many1)) λp2 s12=>
 (p2.2,s12)
def Ao (s:aa)(ae:aX)(many1:Int)(bC:Int):Prop:=
 (-1000000<=many1/\many1<=1000000)/\bH (w6 ae bC) (Ol ae bC) (rng 0 many1) ((([]:List (Int×Bool)),([]:List (Int×Bool))),s)
theorem nX (s:aa)(ae:aX)(many1:Int)(bC:Int)(h0:Ao s ae many1 bC):JF Xf [.bf,.e ae,.e many1,.e bC] s (yN s ae many1 bC).1 (yN s ae many1 bC).2 true:=by
 unfold Ao at h0
 obtain⟨h1,Gq⟩:=h0
 refine Lp rfl ?_
 unfold yN Sw
 show JB _ [.bf,.e ae,.e many1,.e bC,.emp,.emp,.emp,.emp,.emp] _ _
 refine JB.ab (aB:=[.bf,.e ae,.e many1,.e bC,.aC (Kaf enc ([]:List (Int×Bool))) true,.cI (bQ ([]:List (Int×Bool))),.emp,.emp,.emp]) (xS (Ql (JP.aqR (JP.nil)))) ?_
 refine dJ λp2 s12 K7=>?_
 refine JB.ab (JN.KG (J:=λ(st1:(List (Int×Bool))×(List (Int×Bool)))=>[.bf,.e ae,.e many1,.e bC,.aC (Kaf enc st1.2) true,.cI (bQ st1.1),.emp,.emp,.emp]) (R:=λ(st1:(List (Int×Bool))×(List (Int×Bool))) (x1:Int)=>[.bf,.e ae,.e many1,.e bC,.aC (Kaf enc st1.2) true,.cI (bQ st1.1),.e x1,.emp,.emp]) (f:=(w6 ae bC)) (d:=(Ol ae bC)) (st:=(([]:List (Int×Bool)),([]:List (Int×Bool)))) (rq (aj rfl) h1) rfl (λ_ _=>rfl) ?_ Gq K7) ?_
 ·intro st1 i_ x1 hd
  have hd:(cu i_ (6:Int)/\(aW (aE i_ (6:Int)) λa1 s1=>
  cu s1 (14:Int)/\(aW (aE s1 (14:Int)) λa2 s2=>
  cu s2 (60:Int)/\(aW (aE s2 (60:Int)) λa3 s3=>
  cu s3 (3:Int)/\(aW (aE s3 (3:Int)) λa4 s4=>
  (-([a1,a2,a3].length:Int)<=a4/\a4<([a1,a2,a3].length:Int))/\(bu ((aq [a1,a2,a3] a4)) λaD=>
  cu s4 (10:Int)/\(aW (aE s4 (10:Int)) λa5 s5=>
  ((a5=(0:Int))->(cu s5 (70:Int)/\(aW (aE s5 (70:Int)) λa6 s6=>
  cu s6 ((10:Int) ^ (KaU (9:Int)))/\(aW (aE s6 ((10:Int) ^ (KaU (9:Int)))) λa7 s7=>
  cu s7 (2:Int)/\(aW (aE s7 (2:Int)) λa8 s8=>
  (-([((((10:Int) ^ (KaU (30:Int)))-(8:Int))-a6),a7].length:Int)<=a8/\a8<([((((10:Int) ^ (KaU (30:Int)))-(8:Int))-a6),a7].length:Int)))))))/\(aW (if a5=(0:Int) then
  a_ (aE s5 (70:Int)) λa6 s6=>
  a_ (aE s6 ((10:Int) ^ (KaU (9:Int)))) λa7 s7=>
  a_ (aE s7 (2:Int)) λa8 s8=>
  lt ((aq [((((10:Int) ^ (KaU (30:Int)))-(8:Int))-a6),a7] a8)) λqj=>
  (qj,s8)
  else
  (aD,s5)) λp1 s9=>
  (((0:Int)<bC)->(cu s9 (max (1:Int) bC)))/\(aW (if (0:Int)<bC then (a_ (aE s9 (max (1:Int) bC)) λa9 s10=>((decide (a9=(0:Int))),s10)) else (false,s9)) λa10 s11=>
  (bu (a10) λBK=>
  vc ae p1/\st1.1.length<100000/\(bu ((p1,(Kba (aN st1.1 p1) (decide ((vF ae p1)≠BK))))::st1.1) λjg=>
  KaZ (aN jg p1)=true/\st1.2.length<100000))))))))))):=hd
  obtain⟨h2,Gp⟩:=hd
  show JB _ _ _ (HV _ (a_ (aE i_ (6:Int)) λa1 s1=>
  a_ (aE s1 (14:Int)) λa2 s2=>
  a_ (aE s2 (60:Int)) λa3 s3=>
  a_ (aE s3 (3:Int)) λa4 s4=>
  lt ((aq [a1,a2,a3] a4)) λaD=>
  a_ (aE s4 (10:Int)) λa5 s5=>
  a_ (if a5=(0:Int) then
  a_ (aE s5 (70:Int)) λa6 s6=>
  a_ (aE s6 ((10:Int) ^ (KaU (9:Int)))) λa7 s7=>
  a_ (aE s7 (2:Int)) λa8 s8=>
  lt ((aq [((((10:Int) ^ (KaU (30:Int)))-(8:Int))-a6),a7] a8)) λqj=>
  (qj,s8)
  else
  (aD,s5)) λp1 s9=>
  a_ (if (0:Int)<bC then (a_ (aE s9 (max (1:Int) bC)) λa9 s10=>((decide (a9=(0:Int))),s10)) else (false,s9)) λa10 s11=>
  lt (a10) λBK=>
  lt ((p1,(Kba (aN st1.1 p1) (decide ((vF ae p1)≠BK))))::st1.1) λjg=>
  lt (st1.2++[(p1,(Kba (aN jg p1) default))]) λd9=>
  ((jg,d9),s11)))
  refine Gu ?_
  refine dJ λa1 s1 hv1=>?_
  obtain⟨h3,Gn⟩:=dZ Gp hv1
  refine dJ λa2 s2 hv2=>?_
  obtain⟨h4,Gm⟩:=dZ Gn hv2
  refine dJ λa3 s3 o7=>?_
  obtain⟨h5,Gk⟩:=dZ Gm o7
  refine dJ λa4 s4 o8=>?_
  obtain⟨h6,Gj⟩:=dZ Gk o8
  refine aY λaD e3=>?_
  obtain⟨h7,Gi⟩:=bL Gj e3
  refine JB.ab (aB:=[.bf,.e ae,.e many1,.e bC,.aC (Kaf enc st1.2) true,.cI (bQ st1.1),.e x1,.e aD,.emp]) (cX (iC (JE.lst (xs:=[a1,a2,a3]) (iK (dG (JE.ac (d_ rfl (aK (JE.ab 6) (bK))) (fj i_ (6:Int) h2)) hv1) (iK (dG (JE.ac (d_ rfl (aK (JE.ab 14) (bK))) (fj s1 (14:Int) h3)) hv2) (iK (dG (JE.ac (d_ rfl (aK (JE.ab 60) (bK))) (fj s2 (60:Int) h4)) o7) (gK)))) (by show 3<=100000;decide)) (dG (JE.ac (d_ rfl (aK (JE.ab 3) (bK))) (fj s3 (3:Int) h5)) o8) h6) e3) ?_
  refine dJ λa5 s5 we=>?_
  obtain⟨h15,Gh⟩:=dZ Gi we
  refine dJ λp1 s9 EC=>?_
  obtain⟨v5,Gg⟩:=dZ Gh EC
  refine JB.ab (JN.K9 (J:=λ(p:Int)=>[.bf,.e ae,.e many1,.e bC,.aC (Kaf enc st1.2) true,.cI (bQ st1.1),.e x1,.e p,.emp]) (JT.ab (jW (dG (JE.ac (d_ rfl (aK (JE.ab 10) (bK))) (fj s4 (10:Int) h7)) we) (JE.ab 0))) ?_ ?_ EC) ?_
  ·intro hq
   obtain⟨h8,tN⟩:=h15 hq
   refine Gu ?_
   refine dJ λa6 s6 xN=>?_
   obtain⟨h9,h13⟩:=dZ tN xN
   refine dJ λa7 s7 zC=>?_
   obtain⟨h10,h12⟩:=dZ h13 zC
   refine dJ λa8 s8 EB=>?_
   have h11:=dZ h12 EB
   refine aY λqj e5=>?_
   refine JB.ac (aB:=[.bf,.e ae,.e many1,.e bC,.aC (Kaf enc st1.2) true,.cI (bQ st1.1),.e x1,.e qj,.emp]) (cX (iC (JE.lst (xs:=[((((10:Int) ^ (KaU (30:Int)))-(8:Int))-a6),a7]) (iK (Gy (Gy (NK (JE.ab 10) (JE.ab 30) (by decide)) (JE.ab 8)) (dG (JE.ac (d_ rfl (aK (JE.ab 70) (bK))) (fj s5 (70:Int) h8)) xN)) (iK (dG (JE.ac (d_ rfl (aK (NK (JE.ab 10) (JE.ab 9) (by decide)) (bK))) (fj s6 ((10:Int) ^ (KaU (9:Int))) h9)) zC) (gK))) (by show 2<=100000;decide)) (dG (JE.ac (d_ rfl (aK (JE.ab 2) (bK))) (fj s7 (2:Int) h10)) EB) h11) e5) ?_
   exact rfl
  ·intro hq
   refine Gu ?_
   exact JB.al rfl
  show JB _ [.bf,.e ae,.e many1,.e bC,.aC (Kaf enc st1.2) true,.cI (bQ st1.1),.e x1,.e p1,.emp] _ _
  refine dJ λa10 s11 Cu=>?_
  have Cj:=dZ Gg Cu
  refine aY λBK e6=>?_
  obtain⟨v7,v8,h22⟩:=bL Cj e6
  refine JB.ab (aB:=[.bf,.e ae,.e many1,.e bC,.aC (Kaf enc st1.2) true,.cI (bQ st1.1),.e x1,.e p1,.e BK]) (cX (dG (JE.N8 (JE.gt (aj rfl) (JE.ab 0)) (λhq=>(have vZ:=v5 hq;JE.a_ λa9 s10 qq=>jW (dG (JE.ac (d_ rfl (aK (Ln (JE.ab 1) (aj rfl)) (bK))) (fj s9 (max (1:Int) bC) vZ)) qq) (JE.ab 0)))) Cu) e6) ?_
  refine aY λjg e7=>?_
  obtain⟨h21,Ci⟩:=bL h22 e7
  refine JB.ab (aB:=[.bf,.e ae,.e many1,.e bC,.aC (Kaf enc st1.2) true,.cI (bQ jg),.e x1,.e p1,.e BK]) (JN.cI (JN.dput rfl (JE.IK rfl (aj rfl) (CA (JE.ac (aK (aj rfl) (aK (aj rfl) (bK))) (OJ ae p1 _ v7)) (aj rfl))) (aj rfl) v8) e7) ?_
  refine aY λd9 e8=>?_
  refine JB.ac (aB:=[.bf,.e ae,.e many1,.e bC,.aC (Kaf enc d9) true,.cI (bQ jg),.e x1,.e p1,.e BK]) (JN.aC (NH rfl (hxv (iK (aj rfl) (iK (JE.OG rfl (aj rfl) h21) (gK)))) Ci) e8) ?_
  exact rfl
 show JB _ [.bf,.e ae,.e many1,.e bC,.aC (Kaf enc p2.2) true,.cI (bQ p2.1),.emp,.emp,.emp] _ _
 exact JB.mvS rfl
def S4:SS:=SS.ag (fX (hxs (SI.list (hjl 1)) (SG.tup (jK (aT 2) (jK (aT 3) (c9.nil)))) (ST.ab (vy (SE.ac Ay (cK (hjl 0) (cK (hjl 2) (dK)))) (hjl 3))) (SE.ab 1) [2,3] (by decide)) (SE.lst (fK)))
def Tg:Fn:=fnOf 2 2 S4
def Bx (ae:aX)(iA:List (Int×Bool)):Bool:=
 (decide ((Kaf (λ(x1:Int×Bool)=>(1:Int)) (KaS (λ(x1:Int×Bool)=>decide ((vF ae x1.1)≠x1.2)) iA))=([]:List Int)))
def Ep (ae:aX)(iA:List (Int×Bool)):Prop:=
 (∀x1∈iA,vc ae x1.1)/\iA.length<=100000
theorem qy (ae:aX)(iA:List (Int×Bool))(s:aa)(h0:Ep ae iA):JF Tg [.e ae,.e iA] s (Bx ae iA) s false:=by
 unfold Ep at h0
 obtain⟨h3,h2⟩:=h0
 refine gi rfl ?_
 unfold Bx S4
 show JB _ [.e ae,.e iA,.emp,.emp] _ _
 exact JB.ag (kO (jW (α:=List Int) (Li (λ(x1:Int×Bool)=>[.e ae,.e iA,.e x1.1,.e x1.2]) (JI.list (aj rfl)) (λ_=>rfl) (λx1 hx=>(have h1:=h3 x1 hx;JT.ab (CA (JE.ac (aK (aj rfl) (aK (aj rfl) (bK))) (OJ ae x1.1 _ h1)) (aj rfl)))) (λx1 _ _=>JE.ab 1) (gB h2)) (JE.lst (xs:=[]) gK)))
def SM:SS:=SS.ab (wg (SG.tup (jK (aT 1) (jK (aT 2) (c9.nil)))) (SE.tup (eK (SE.ab 0) (eK (SE.ab 1) (fK))))) (SS.ab (iO (SI.list (hjl 0)) (SG.tup (jK (aT 3) (jK (aT 4) (jK (aT 5) (jK (aT 6) (c9.nil)))))) (dR [3,4,5,6,7,8] (SS.ab (cF 1 (Cr (hjl 1) (hjl 4))) (SS.ab (hxx 7 8 (kN 7 (hjl 2) (kN 8 (hjl 5) (SP.nil))) (by decide)) (SS.ab (ED fuel (ST.ab (GD (hjl 8) (SE.ab 0))) (dR [] (hxx 7 8 (kN 7 (hjl 8) (kN 8 (o6 (oZ (hjl 7)) (hjl 8)) (SP.nil))) (by decide)))) (cF 2 (vp (xU (hjl 2) (hjl 5)) (hjl 7)))))))) (SS.ag (SE.tup (eK (hjl 1) (eK (hjl 2) (fK))))))
def Xz:Fn:=fnOf 1 8 SM
def Ik  (st2:Int×Int):Prop:=(0:Int)<st2.2
instance  : DecidablePred (Ik ):=λst=>by unfold Ik;infer_instance
def J8  (st2:Int×Int):Int×Int:=
 lt (st2.2) λqT=>
 lt ((st2.1 % st2.2)) λKR=>
 (qT,KR)
def WM  (st2:Int×Int):Prop:=True
def RH  (st2:Int×Int):Prop:=
 (bu (st2.2) λqT=>
 0<st2.2)
def E3  (st1:Int×Int)(x1:aX):Int×Int:=
 lt ((max st1.1 x1.y)) λvO=>
 lt (st1.2) λcJ=>
 lt (x1.z) λg8=>
 lt (lA (Ik) (J8) fuel (cJ,g8)) λp2=>
 lt (((st1.2*x1.z) / p2.1)) λbr=>
 (vO,br)
def ML  (st1:Int×Int)(x1:aX):Prop:=
 (bu ((max st1.1 x1.y)) λvO=>
 (bu (st1.2) λcJ=>
 (bu (x1.z) λg8=>
 vn (Ik) (J8) (WM) (RH) fuel (cJ,g8)/\(bu (lA (Ik) (J8) fuel (cJ,g8)) λp2=>
 (KbP st1.2<18446744073709551616∨KbP x1.z<18446744073709551616)/\(0<p2.1/\p2.1<1000000000000000000000000000000000000000000000000000000000000)))))
def rS (bJ:List (aX)):Int×Int:=
 lt (((0:Int),(1:Int))) λp1=>
 lt (Kaq (E3) (p1.1,p1.2) bJ) λp3=>
 (p3.1,p3.2)
def Bw (bJ:List (aX)):Prop:=
 (bu (((0:Int),(1:Int))) λp1=>
 bH (E3) (ML) bJ (p1.1,p1.2))
theorem nY (bJ:List (aX))(s:aa)(h0:Bw bJ):JF Xz [.e bJ] s (rS bJ) s false:=by
 unfold Bw at h0
 have h11:=h0
 refine gi rfl ?_
 unfold rS SM
 show JB _ [.e bJ,.emp,.emp,.emp,.emp,.emp,.emp,.emp,.emp] _ _
 refine aY λp1 e1=>?_
 have h10:=bL h11 e1
 refine JB.ab (aB:=[.e bJ,.e p1.1,.e p1.2,.emp,.emp,.emp,.emp,.emp,.emp]) (zA (U_ (hxv (iK (JE.ab 0) (iK (JE.ab 1) (gK)))) e1.symm) rfl) ?_
 refine aY λp3 e9=>?_
 refine JB.ab (tQ (J:=λ(st1:Int×Int)=>[.e bJ,.e st1.1,.e st1.2,.emp,.emp,.emp,.emp,.emp,.emp]) (R:=λ(st1:Int×Int) (x1:aX)=>[.e bJ,.e st1.1,.e st1.2,.e x1.x,.e x1.y,.e x1.z,.e x1.u,.emp,.emp]) (f:=(E3)) (d:=(ML)) (st:=(p1.1,p1.2)) (JI.list (aj rfl)) rfl (λ_ _=>rfl) ?_ h10 e9) ?_
 ·intro st1 x1 hd
  unfold ML at hd
  have h9:=hd
  unfold E3
  refine gQ ?_
  refine aY λvO e2=>?_
  have h8:=bL h9 e2
  refine JB.ab (aB:=[.e bJ,.e vO,.e st1.2,.e x1.x,.e x1.y,.e x1.z,.e x1.u,.emp,.emp]) (cX (Ln (aj rfl) (aj rfl)) e2) ?_
  refine aY λcJ e3=>?_
  have h7:=bL h8 e3
  refine aY λg8 e4=>?_
  obtain⟨h3,h6⟩:=bL h7 e4
  refine JB.ab (aB:=[.e bJ,.e vO,.e st1.2,.e x1.x,.e x1.y,.e x1.z,.e x1.u,.e cJ,.e g8]) (xS (JP.dat e3 (aj rfl) (JP.dat e4 (aj rfl) (JP.nil)))) ?_
  refine aY λp2 e7=>?_
  obtain⟨h4,h5⟩:=bL h6 e7
  refine JB.ab (K8 (J:=λ(st2:Int×Int)=>[.e bJ,.e vO,.e st1.2,.e x1.x,.e x1.y,.e x1.z,.e x1.u,.e st2.1,.e st2.2]) (f:=(J8)) (C:=(Ik)) (dc:=(WM)) (d:=(RH)) (st:=(cJ,g8)) rfl ?_ ?_ h3 e7) ?_
  ·intro st2 hd
   exact JT.ab (JE.gt (aj rfl) (JE.ab 0))
  ·intro st2 hd
   unfold RH at hd
   have h2:=hd
   unfold J8
   refine gQ ?_
   refine aY λqT e5=>?_
   have h1:=bL h2 e5
   refine aY λKR e6=>?_
   refine JB.ac (aB:=[.e bJ,.e vO,.e st1.2,.e x1.x,.e x1.y,.e x1.z,.e x1.u,.e qT,.e KR]) (xS (JP.dat e5 (aj rfl) (JP.dat e6 (vt (EF (aj rfl)) (aj rfl) h1) (JP.nil)))) ?_
   exact rfl
  show JB _ [.e bJ,.e vO,.e st1.2,.e x1.x,.e x1.y,.e x1.z,.e x1.u,.e p2.1,.e p2.2] _ _
  refine aY λbr e8=>?_
  refine JB.ac (aB:=[.e bJ,.e vO,.e br,.e x1.x,.e x1.y,.e x1.z,.e x1.u,.e p2.1,.e p2.2]) (cX (AO (GC (aj rfl) (aj rfl) h4) (aj rfl) h5) e8) ?_
  exact rfl
 show JB _ [.e bJ,.e p3.1,.e p3.2,.emp,.emp,.emp,.emp,.emp,.emp] _ _
 exact JB.ag (kO (hxv (iK (aj rfl) (iK (aj rfl) (gK)))))
def Tu:SS:=SS.ab (wg (SG.tup (jK (aT 1) (jK (aT 2) (c9.nil)))) (SE.ac Xz (cK (hjl 0) (dK)))) (SS.ag (hxs (SI.list (hjl 0)) (aT 3) (cT) (hxs (nW (fL (hjl 1) (hjl 2))) (aT 4) (cT) (SE.ac Ay (cK (hjl 3) (cK (hjl 4) (dK)))) [4] (by decide)) [3] (by decide)))
def YH:Fn:=fnOf 1 4 Tu
def MX (bJ:List (aX)):List (List Bool):=
 lt ((rS bJ)) λp1=>
 (Kaf (λ(x1:aX)=>(Kaf (λ(x2:Int)=>(vF x1 x2)) (rng 0 (p1.1+p1.2)))) bJ)
def Az (bJ:List (aX)):Prop:=
 Bw bJ/\(bu ((rS bJ)) λp1=>
 (∀x1∈bJ,(-1000000<=(p1.1+p1.2)/\(p1.1+p1.2)<=1000000)/\(∀x2∈(rng 0 (p1.1+p1.2)),vc x1 x2)/\(rng 0 (p1.1+p1.2)).length<=100000)/\bJ.length<=100000)
theorem qA (bJ:List (aX))(s:aa)(h0:Az bJ):JF YH [.e bJ] s (MX bJ) s true:=by
 unfold Az at h0
 obtain⟨h1,h8⟩:=h0
 refine gi rfl ?_
 unfold MX Tu
 show JB _ [.e bJ,.emp,.emp,.emp,.emp] _ _
 refine aY λp1 e1=>?_
 obtain⟨h7,h6⟩:=bL h8 e1
 refine JB.ab (aB:=[.e bJ,.e p1.1,.e p1.2,.emp,.emp]) (zA (U_ (JE.ac (aK (aj rfl) (bK)) (nY bJ _ h1)) e1.symm) rfl) ?_
 exact JB.ag (NP (λ(x1:aX)=>[.e bJ,.e p1.1,.e p1.2,.e x1,.emp]) (JI.list (aj rfl)) (λ_=>rfl) (λx1 hx=>(match h7 x1 hx with|⟨h2,h5,h4⟩=>hxz (λ(x2:Int)=>[.e bJ,.e p1.1,.e p1.2,.e x1,.e x2]) (rq (iB (aj rfl) (aj rfl)) h2) (λ_=>rfl) (λx2 hx=>(have h3:=h5 x2 hx;JE.ac (aK (aj rfl) (aK (aj rfl) (bK))) (OJ x1 x2 _ h3))) h4)) h6)
def J4:SS:=SS.ab (Gv 1 (SB.own (SE.lst (fK)))) (Jg 1 (SS.ab (iO (SI.list (hjl 0)) (aT 2) (dR [2] (eM (Qk 1 (ST.ab (NU (hjl 2) (hjl 1)))) (K6 1 (hjl 2)) (SS.ac)))) (Cq 1 (SS.ag (hjl 1)))))
def M4:Fn:=fnOf 1 2 J4
def u9  (st1:(List (List Bool)))(x1:List Bool):(List (List Bool)):=
 if x1∉st1 then
 lt (st1++[x1]) λd9=>
 d9
 else
 st1
def Oe  (st1:(List (List Bool)))(x1:List Bool):Prop:=
 ((x1∉st1)->st1.length<100000)
def lu (af:List (List Bool)):List (List Bool):=
 lt (([]:List (List Bool))) λeU=>
 lt (Kaq (u9) eU af) λp1=>
 p1
def ve (af:List (List Bool)):Prop:=
 (bu (([]:List (List Bool))) λeU=>
 bH (u9) (Oe) af eU)
theorem Sd (af:List (List Bool))(s:aa)(h0:ve af):JF M4 [.e af] s (lu af) s false:=by
 unfold ve at h0
 have h4:=h0
 refine gi rfl ?_
 unfold lu J4
 show JB _ [.e af,.emp,.emp] _ _
 refine aY λeU e1=>?_
 have h3:=bL h4 e1
 refine JB.ab (aB:=[.e af,.aC (Kaf enc eU) true,.emp]) (JN.aC (Ld (JE.lst (xs:=[]) gK)) e1) ?_
 refine Lo (i:=1) rfl ?_
 show JB _ [.e af,.aC (Kaf enc eU) false,.emp] _ _
 refine aY λp1 e3=>?_
 refine JB.ab (tQ (J:=λ(st1:(List (List Bool)))=>[.e af,.aC (Kaf enc st1) false,.emp]) (R:=λ(st1:(List (List Bool))) (x1:List Bool)=>[.e af,.aC (Kaf enc st1) false,.e x1]) (f:=(u9)) (d:=(Oe)) (st:=eU) (JI.list (aj rfl)) rfl (λ_ _=>rfl) ?_ h3 e3) ?_
 ·intro st1 x1 hd
  unfold Oe at hd
  have h2:=hd
  unfold u9
  refine gQ ?_
  refine zF (ijj rfl (JT.ab (JE.G2 (α:=List Bool) (aj rfl) (aj rfl)))) ?_ ?_
  ·intro hq
   have h1:=h2 hq
   refine aY λd9 e2=>?_
   refine JB.ac (aB:=[.e af,.aC (Kaf enc d9) false,.e x1]) (JN.aC (hxy rfl (aj rfl) h1) e2) ?_
   exact rfl
  ·intro hq
   exact JB.al rfl
 show JB _ [.e af,.aC (Kaf enc p1) false,.emp] _ _
 refine JB.frz (i:=1) rfl ?_
 show JB _ [.e af,.e p1,.emp] _ _
 exact JB.ag (aj rfl)
def Th:SS:=SS.ab (hxx 1 2 (SP.zV 1 (Gx 2 (SP.nil))) (by decide)) (SS.ab (iO (nW (CD (ST.ab (vy (hjl 0) (SE.lst (fK)))) (gR (cW (hjl 0) (SE.ab 0))) (SE.ab 0))) (aT 3) (dR [3,4] (SS.ab (cF 4 (SE.tupP (hxs (SI.list (hjl 0)) (aT 5) (cT) (fX (cW (hjl 5) (hjl 3)) (cW (cW (hjl 0) (SE.ab 0)) (hjl 3))) [5] (by decide)))) (eM (EJ (ST.ab (SE.Gz (SE.bool false) (hjl 4))) (ST.ab (izt 1 (hjl 4)))) (SS.ab (U4 1 (hjl 4) (hjl 3)) (Cp 2 (hjl 3))) (SS.ac))))) (Cq 2 (SS.ag (hjl 2))))
def YT:Fn:=fnOf 1 5 Th
def As (af:List (List Bool))(st1:(List (Tb×Int))×(List Int))(x1:Int):(List (Tb×Int))×(List Int):=
 lt ((Tb.mk (Kaf (λ(x2:List Bool)=>(decide ((aq x2 x1)=(aq (aq af (0:Int)) x1)))) af))) λaJ=>
 if (false∈Tb.l aJ)/\(¬(KaZ (aN st1.1 aJ)=true)) then
 lt ((aJ,x1)::st1.1) λjg=>
 lt (st1.2++[x1]) λd9=>
 (jg,d9)
 else
 (st1.1,st1.2)
def J3 (af:List (List Bool))(st1:(List (Tb×Int))×(List Int))(x1:Int):Prop:=
 (∀x2∈af,(-(x2.length:Int)<=x1/\x1<(x2.length:Int))/\(-(af.length:Int)<=(0:Int)/\(0:Int)<(af.length:Int))/\(-((aq af (0:Int)).length:Int)<=x1/\x1<((aq af (0:Int)).length:Int)))/\af.length<=100000/\(bu ((Tb.mk (Kaf (λ(x2:List Bool)=>(decide ((aq x2 x1)=(aq (aq af (0:Int)) x1)))) af))) λaJ=>
 (((false∈Tb.l aJ)/\(¬(KaZ (aN st1.1 aJ)=true)))->(st1.1.length<100000/\(bu ((aJ,x1)::st1.1) λjg=>
 st1.2.length<100000))))
def y9 (af:List (List Bool)):List Int:=
 lt (Kaq (As af) (([]:List (Tb×Int)),([]:List Int)) (rng 0 (if af≠([]:List (List Bool)) then ((aq af (0:Int)).length:Int) else (0:Int)))) λp1=>
 p1.2
def AA (af:List (List Bool)):Prop:=
 ((af≠([]:List (List Bool)))->((-(af.length:Int)<=(0:Int)/\(0:Int)<(af.length:Int))))/\(-1000000<=(if af≠([]:List (List Bool)) then ((aq af (0:Int)).length:Int) else (0:Int))/\(if af≠([]:List (List Bool)) then ((aq af (0:Int)).length:Int) else (0:Int))<=1000000)/\bH (As af) (J3 af) (rng 0 (if af≠([]:List (List Bool)) then ((aq af (0:Int)).length:Int) else (0:Int))) (([]:List (Tb×Int)),([]:List Int))
theorem qC (af:List (List Bool))(s:aa)(h0:AA af):JF YT [.e af] s (y9 af) s false:=by
 unfold AA at h0
 obtain⟨h2,h3,tN⟩:=h0
 refine gi rfl ?_
 unfold y9 Th
 show JB _ [.e af,.emp,.emp,.emp,.emp,.emp] _ _
 refine JB.ab (aB:=[.e af,.eJ (cG ([]:List (Tb×Int))),.aC (Kaf enc ([]:List Int)) true,.emp,.emp,.emp]) (xS (JP.zV (Ql (JP.nil)))) ?_
 refine aY λp1 e6=>?_
 refine JB.ab (tQ (J:=λ(st1:(List (Tb×Int))×(List Int))=>[.e af,.eJ (cG st1.1),.aC (Kaf enc st1.2) true,.emp,.emp,.emp]) (R:=λ(st1:(List (Tb×Int))×(List Int)) (x1:Int)=>[.e af,.eJ (cG st1.1),.aC (Kaf enc st1.2) true,.e x1,.emp,.emp]) (f:=(As af)) (d:=(J3 af)) (st:=(([]:List (Tb×Int)),([]:List Int))) (rq (JE.ite (JT.ab (CA (α:=List (List Bool)) (aj rfl) (JE.lst (xs:=[]) gK))) (λhq=>(have h1:=h2 hq;lB (iC (aj rfl) (JE.ab 0) h1))) (λ_=>JE.ab 0)) h3) rfl (λ_ _=>rfl) ?_ tN e6) ?_
 ·intro st1 x1 hd
  unfold J3 at hd
  obtain⟨h8,h7,h13⟩:=hd
  unfold As
  refine gQ ?_
  refine aY λaJ e3=>?_
  have h12:=bL h13 e3
  refine JB.ab (aB:=[.e af,.eJ (cG st1.1),.aC (Kaf enc st1.2) true,.e x1,.e aJ,.emp]) (cX (JE.tupP (hxz (λ(x2:List Bool)=>[.e af,.eJ (cG st1.1),.aC (Kaf enc st1.2) true,.e x1,.emp,.e x2]) (JI.list (aj rfl)) (λ_=>rfl) (λx2 hx=>(match h8 x2 hx with|⟨h4,h5,h6⟩=>jW (iC (aj rfl) (aj rfl) h4) (iC (iC (aj rfl) (JE.ab 0) h5) (aj rfl) h6))) h7)) e3) ?_
  refine zF (NO (JT.ab (JE.Gz (JE.bool false) (aj rfl))) (λ_=>JT.ab (JE.IQ rfl (aj rfl)))) ?_ ?_
  ·intro hq
   obtain⟨h9,h11⟩:=h12 hq
   refine aY λjg e4=>?_
   have h10:=bL h11 e4
   refine JB.ab (aB:=[.e af,.eJ (cG jg),.aC (Kaf enc st1.2) true,.e x1,.e aJ,.emp]) (JN.eJ (JN.sO rfl (aj rfl) (aj rfl) h9) e4) ?_
   refine aY λd9 e5=>?_
   refine JB.ac (aB:=[.e af,.eJ (cG jg),.aC (Kaf enc d9) true,.e x1,.e aJ,.emp]) (JN.aC (NH rfl (aj rfl) h10) e5) ?_
   exact rfl
  ·intro hq
   exact JB.al rfl
 show JB _ [.e af,.eJ (cG p1.1),.aC (Kaf enc p1.2) true,.emp,.emp,.emp] _ _
 refine JB.frz (i:=2) rfl ?_
 show JB _ [.e af,.eJ (cG p1.1),.e p1.2,.emp,.emp,.emp] _ _
 exact JB.ag (aj rfl)
def RP:SS:=SS.ab (hxx 2 3 (kN 2 (SE.lst (eK (SE.lst (fK)) (fK))) (SP.IB 3 (SB.own (SE.lst (eK (SE.lst (fK)) (fK)))) (SP.nil))) (by decide)) (Jg 3 (SS.ab (iO (nW (hjl 1)) (aT 4) (dR [4,5,6,7] (SS.ab (Gv 5 (SB.own (SE.lst (fK)))) (SS.ab (iO (SI.list (hjl 2)) (aT 6) (dR [6,7] (SS.ab (cF 7 (CD (ST.ab (vy (hjl 6) (SE.lst (fK)))) (fL (cW (hjl 6) (NW (SE.ab 1))) (SE.ab 1)) (SE.ab 0))) (ixp 5 (hxs (izl (hjl 7) (gR (hjl 0))) (aT 8) (cT) (AQ (hjl 6) (SE.lst (eK (hjl 8) (fK)))) [8] (by decide)))))) (Cq 5 (SS.ab (cF 2 (hjl 5)) (ijq 3 (hjl 2)))))))) (Cq 3 (SS.ag (hxs (SI.list (hjl 3)) (aT 6) (cT) (hxs (SI.list (hjl 6)) (aT 8) (cT) (cW (hjl 0) (hjl 8)) [8] (by decide)) [6] (by decide))))))
def Wu:Fn:=fnOf 2 7 RP
def EZ (aR:List Int)(st2:(List (List Int)))(x2:List Int):(List (List Int)):=
 lt ((if x2≠([]:List Int) then ((aq x2 (-(1:Int)))+(1:Int)) else (0:Int))) λjh=>
 lt (st2++(Kaf (λ(x3:Int)=>(x2++[x3])) (rng jh (aR.length:Int)))) λgxz=>
 gxz
def Mz (aR:List Int)(st2:(List (List Int)))(x2:List Int):Prop:=
 ((x2≠([]:List Int))->((-(x2.length:Int)<=(-(1:Int))/\(-(1:Int))<(x2.length:Int))))/\(bu ((if x2≠([]:List Int) then ((aq x2 (-(1:Int)))+(1:Int)) else (0:Int))) λjh=>
 ((-1000000<=jh/\jh<=1000000)/\(-1000000<=(aR.length:Int)/\(aR.length:Int)<=1000000))/\(∀x3∈(rng jh (aR.length:Int)),x2.length+[x3].length<=100000)/\(rng jh (aR.length:Int)).length<=100000/\st2.length+(Kaf (λ(x3:Int)=>(x2++[x3])) (rng jh (aR.length:Int))).length<=100000)
def EW (aR:List Int)(st1:(List (List Int))×(List (List Int)))(x1:Int):(List (List Int))×(List (List Int)):=
 lt (([]:List (List Int))) λKJ=>
 lt (Kaq (EZ aR) KJ st1.1) λp1=>
 lt (p1) λKY=>
 lt (st1.2++KY) λd9=>
 (KY,d9)
def MJ (aR:List Int)(st1:(List (List Int))×(List (List Int)))(x1:Int):Prop:=
 (bu (([]:List (List Int))) λKJ=>
 bH (EZ aR) (Mz aR) st1.1 KJ/\(bu (Kaq (EZ aR) KJ st1.1) λp1=>
 (bu (p1) λKY=>
 st1.2.length+KY.length<=100000)))
def E7 (aR:List Int)(aQ:Int):List (List Int):=
 lt ([([]:List Int)]) λjn=>
 lt ([([]:List Int)]) λeU=>
 lt (Kaq (EW aR) (jn,eU) (rng 0 aQ)) λp2=>
 (Kaf (λ(x4:List Int)=>(Kaf (λ(x5:Int)=>(aq aR x5)) x4)) p2.2)
def Am (aR:List Int)(aQ:Int):Prop:=
 (bu ([([]:List Int)]) λjn=>
 (bu ([([]:List Int)]) λeU=>
 (-1000000<=aQ/\aQ<=1000000)/\bH (EW aR) (MJ aR) (rng 0 aQ) (jn,eU)/\(bu (Kaq (EW aR) (jn,eU) (rng 0 aQ)) λp2=>
 (∀x4∈p2.2,(∀x5∈x4,(-(aR.length:Int)<=x5/\x5<(aR.length:Int)))/\x4.length<=100000)/\p2.2.length<=100000)))
theorem kR (aR:List Int)(aQ:Int)(s:aa)(h0:Am aR aQ):JF Wu [.e aR,.e aQ] s (E7 aR aQ) s true:=by
 unfold Am at h0
 have Cj:=h0
 refine gi rfl ?_
 unfold E7 RP
 show JB _ [.e aR,.e aQ,.emp,.emp,.emp,.emp,.emp,.emp,.emp] _ _
 refine aY λjn e1=>?_
 have h22:=bL Cj e1
 refine aY λeU e2=>?_
 obtain⟨h1,h15,h21⟩:=bL h22 e2
 refine JB.ab (aB:=[.e aR,.e aQ,.e jn,.aC (Kaf enc eU) true,.emp,.emp,.emp,.emp,.emp]) (xS (JP.dat e1 (JE.lst (xs:=[([]:List Int)]) (JA.cons (JE.lst (xs:=[]) gK) (gK)) (by show 1<=100000;decide)) (JP.aC e2 (JE.lst (xs:=[([]:List Int)]) (JA.cons (JE.lst (xs:=[]) gK) (gK)) (by show 1<=100000;decide)) (JP.nil)))) ?_
 refine Lo (i:=3) rfl ?_
 show JB _ [.e aR,.e aQ,.e jn,.aC (Kaf enc eU) false,.emp,.emp,.emp,.emp,.emp] _ _
 refine aY λp2 e9=>?_
 obtain⟨Ci,v8⟩:=bL h21 e9
 refine JB.ab (tQ (J:=λ(st1:(List (List Int))×(List (List Int)))=>[.e aR,.e aQ,.e st1.1,.aC (Kaf enc st1.2) false,.emp,.emp,.emp,.emp,.emp]) (R:=λ(st1:(List (List Int))×(List (List Int))) (x1:Int)=>[.e aR,.e aQ,.e st1.1,.aC (Kaf enc st1.2) false,.e x1,.emp,.emp,.emp,.emp]) (f:=(EW aR)) (d:=(MJ aR)) (st:=(jn,eU)) (rq (aj rfl) h1) rfl (λ_ _=>rfl) ?_ h15 e9) ?_
 ·intro st1 x1 hd
  unfold MJ at hd
  have tN:=hd
  unfold EW
  refine gQ ?_
  refine aY λKJ e3=>?_
  obtain⟨h10,h13⟩:=bL tN e3
  refine JB.ab (aB:=[.e aR,.e aQ,.e st1.1,.aC (Kaf enc st1.2) false,.e x1,.aC (Kaf enc KJ) true,.emp,.emp,.emp]) (JN.aC (Ld (JE.lst (xs:=[]) gK)) e3) ?_
  refine aY λp1 e6=>?_
  have h12:=bL h13 e6
  refine JB.ab (tQ (J:=λ(st2:(List (List Int)))=>[.e aR,.e aQ,.e st1.1,.aC (Kaf enc st1.2) false,.e x1,.aC (Kaf enc st2) true,.emp,.emp,.emp]) (R:=λ(st2:(List (List Int))) (x2:List Int)=>[.e aR,.e aQ,.e st1.1,.aC (Kaf enc st1.2) false,.e x1,.aC (Kaf enc st2) true,.e x2,.emp,.emp]) (f:=(EZ aR)) (d:=(Mz aR)) (st:=KJ) (JI.list (aj rfl)) rfl (λ_ _=>rfl) ?_ h10 e6) ?_
  ·intro st2 x2 hd
   unfold Mz at hd
   obtain⟨h3,h9⟩:=hd
   unfold EZ
   refine gQ ?_
   refine aY λjh e4=>?_
   obtain⟨h5,h8,h7,h4⟩:=bL h9 e4
   refine JB.ab (aB:=[.e aR,.e aQ,.e st1.1,.aC (Kaf enc st1.2) false,.e x1,.aC (Kaf enc st2) true,.e x2,.e jh,.emp]) (cX (JE.ite (JT.ab (CA (α:=List Int) (aj rfl) (JE.lst (xs:=[]) gK))) (λhq=>(have h2:=h3 hq;iB (iC (aj rfl) (JE.neg (JE.ab 1)) h2) (JE.ab 1))) (λ_=>JE.ab 0)) e4) ?_
   refine aY λgxz e5=>?_
   refine JB.ac (aB:=[.e aR,.e aQ,.e st1.1,.aC (Kaf enc st1.2) false,.e x1,.aC (Kaf enc gxz) true,.e x2,.e jh,.emp]) (JN.aC (JN.FJ rfl (NP (λ(x3:Int)=>[.e aR,.e aQ,.e st1.1,.aC (Kaf enc st1.2) false,.e x1,.aC (Kaf enc st2) true,.e x2,.e jh,.e x3]) (JI.LV (aj rfl) (lB (aj rfl)) h5) (λ_=>rfl) (λx3 hx=>(have h6:=h8 x3 hx;GB (aj rfl) (JE.lst (xs:=[x3]) (iK (aj rfl) (gK)) (by show 1<=100000;decide)) h6)) h7) h4) e5) ?_
   exact rfl
  show JB _ [.e aR,.e aQ,.e st1.1,.aC (Kaf enc st1.2) false,.e x1,.aC (Kaf enc p1) true,.emp,.emp,.emp] _ _
  refine JB.frz (i:=5) rfl ?_
  show JB _ [.e aR,.e aQ,.e st1.1,.aC (Kaf enc st1.2) false,.e x1,.e p1,.emp,.emp,.emp] _ _
  refine aY λKY e7=>?_
  have h11:=bL h12 e7
  refine JB.ab (aB:=[.e aR,.e aQ,.e KY,.aC (Kaf enc st1.2) false,.e x1,.e p1,.emp,.emp,.emp]) (cX (aj rfl) e7) ?_
  refine aY λd9 e8=>?_
  refine JB.ac (aB:=[.e aR,.e aQ,.e KY,.aC (Kaf enc d9) false,.e x1,.e p1,.emp,.emp,.emp]) (JN.aC (JN.FI rfl (aj rfl) h11) e8) ?_
  exact rfl
 show JB _ [.e aR,.e aQ,.e p2.1,.aC (Kaf enc p2.2) false,.emp,.emp,.emp,.emp,.emp] _ _
 refine JB.frz (i:=3) rfl ?_
 show JB _ [.e aR,.e aQ,.e p2.1,.e p2.2,.emp,.emp,.emp,.emp,.emp] _ _
 exact JB.ag (NP (λ(x4:List Int)=>[.e aR,.e aQ,.e p2.1,.e p2.2,.emp,.emp,.e x4,.emp,.emp]) (JI.list (aj rfl)) (λ_=>rfl) (λx4 hx=>(match Ci x4 hx with|⟨v7,v5⟩=>hxz (λ(x5:Int)=>[.e aR,.e aQ,.e p2.1,.e p2.2,.emp,.emp,.e x4,.emp,.e x5]) (JI.list (aj rfl)) (λ_=>rfl) (λx5 hx=>(have vZ:=v7 x5 hx;iC (aj rfl) (aj rfl) vZ)) v5)) v8)
def SV:SS:=SS.ag (fX (gR (SE.ac M4 (cK (hxs (SI.list (hjl 0)) (aT 2) (cT) (hxs (SI.list (hjl 1)) (aT 3) (cT) (cW (hjl 2) (hjl 3)) [3] (by decide)) [2] (by decide)) (dK)))) (gR (hjl 0)))
def XQ:Fn:=fnOf 2 2 SV
def Iv (af:List (List Bool))(bY:List Int):Bool:=
 (decide (((lu (Kaf (λ(x1:List Bool)=>(Kaf (λ(x2:Int)=>(aq x1 x2)) bY)) af)).length:Int)=(af.length:Int)))
def yQ (af:List (List Bool))(bY:List Int):Prop:=
 (∀x1∈af,(∀x2∈bY,(-(x1.length:Int)<=x2/\x2<(x1.length:Int)))/\bY.length<=100000)/\af.length<=100000/\ve (Kaf (λ(x1:List Bool)=>(Kaf (λ(x2:Int)=>(aq x1 x2)) bY)) af)
theorem nZ (af:List (List Bool))(bY:List Int)(s:aa)(h0:yQ af bY):JF XQ [.e af,.e bY] s (Iv af bY) s false:=by
 unfold yQ at h0
 obtain⟨h5,h4,h6⟩:=h0
 refine gi rfl ?_
 unfold Iv SV
 show JB _ [.e af,.e bY,.emp,.emp] _ _
 exact JB.ag (kO (jW (lB (JE.ac (aK (NP (λ(x1:List Bool)=>[.e af,.e bY,.e x1,.emp]) (JI.list (aj rfl)) (λ_=>rfl) (λx1 hx=>(match h5 x1 hx with|⟨h3,h2⟩=>hxz (λ(x2:Int)=>[.e af,.e bY,.e x1,.e x2]) (JI.list (aj rfl)) (λ_=>rfl) (λx2 hx=>(have h1:=h3 x2 hx;iC (aj rfl) (aj rfl) h1)) h2)) h4) (bK)) (Sd (Kaf (λ(x1:List Bool)=>(Kaf (λ(x2:Int)=>(aq x1 x2)) bY)) af) _ h6))) (lB (aj rfl))))
def Ru:SS:=SS.ab (cF 1 (SE.ac YT (cK (hjl 0) (dK)))) (SS.ab (iO (nW (gR (hjl 0))) (aT 2) (dR [2,3] (iO (SI.list (hxs (SI.list (SE.ac Wu (cK (hjl 1) (cK (hjl 2) (dK))))) (aT 4) (ST.ab (fX (gR (hjl 4)) (hjl 2))) (hjl 4) [4] (by decide))) (aT 3) (dR [3] (eM (ST.ab (SE.ac XQ (cK (hjl 0) (cK (hjl 3) (dK))))) (SS.ag (hjl 3)) (SS.ac)))))) (SS.ag (SE.non)))
def VQ:Fn:=fnOf 1 4 Ru
def Oi (af:List (List Bool))(st2:Unit)(x3:List Int):(Option (List Int)) ⊕ (Unit):=
 if (Iv af x3)=true then
 .inl (some x3)
 else
 .inr ()
def Ry (af:List (List Bool))(st2:Unit)(x3:List Int):Prop:=
 yQ af x3
def Ih (af:List (List Bool))(bj:List Int)(st1:Unit)(x1:Int):(Option (List Int)) ⊕ (Unit):=
 lX (forR (Oi af) (KaS (λ(x2:List Int)=>decide ((x2.length:Int)=x1)) (E7 bj x1)) ()) .inl λp1=>
 .inr ()
def Og (af:List (List Bool))(bj:List Int)(st1:Unit)(x1:Int):Prop:=
 Am bj x1/\(E7 bj x1).length<=100000/\iJ (Oi af) (Ry af) (KaS (λ(x2:List Int)=>decide ((x2.length:Int)=x1)) (E7 bj x1)) ()
def JV (af:List (List Bool)):Option (List Int):=
 lt ((y9 af)) λbj=>
 lX (forR (Ih af bj) (rng 0 (af.length:Int)) ()) (λr=>r) λp2=>
 (none:Option (List Int))
def w7 (af:List (List Bool)):Prop:=
 AA af/\(bu ((y9 af)) λbj=>
 (-1000000<=(af.length:Int)/\(af.length:Int)<=1000000)/\iJ (Ih af bj) (Og af bj) (rng 0 (af.length:Int)) ())
theorem gF (af:List (List Bool))(s:aa)(h0:w7 af):JF VQ [.e af] s (JV af) s false:=by
 unfold w7 at h0
 obtain⟨h1,h8⟩:=h0
 refine gi rfl ?_
 unfold JV Ru
 show JB _ [.e af,.emp,.emp,.emp,.emp] _ _
 refine aY λbj e1=>?_
 obtain⟨h2,h7⟩:=bL h8 e1
 refine JB.ab (aB:=[.e af,.e bj,.emp,.emp,.emp]) (cX (JE.ac (aK (aj rfl) (bK)) (qC af _ h1)) e1) ?_
 refine JB.am (J:=λ(st1:Unit)=>[.e af,.e bj,.emp,.emp,.emp]) (R:=λ(st1:Unit) (x1:Int)=>[.e af,.e bj,.e x1,.emp,.emp]) (f:=(Ih af bj)) (d:=(Og af bj)) (st:=()) (w:=false) (rq (lB (aj rfl)) h2) rfl (λ_ _=>rfl) ?_ h7 (λ_ _ h=>h) ?_
 ·intro st1 x1 hd
  unfold Og at hd
  obtain⟨h3,h4,h6⟩:=hd
  unfold Ih
  refine U8 ?_
  refine JB.Rg ?_
  refine JB.am (J:=λ(st2:Unit)=>[.e af,.e bj,.e x1,.emp,.emp]) (R:=λ(st2:Unit) (x3:List Int)=>[.e af,.e bj,.e x1,.e x3,.emp]) (f:=(Oi af)) (d:=(Ry af)) (st:=()) (w:=false) (JI.list (JE.lcI (λ(x2:List Int)=>[.e af,.e bj,.e x1,.emp,.e x2]) (JI.list (JE.ac (aK (aj rfl) (aK (aj rfl) (bK))) (kR bj x1 _ h3))) (λ_=>rfl) (λx2 _=>JT.ab (jW (lB (aj rfl)) (aj rfl))) (λx2 _ _=>aj rfl) (gB h4))) rfl (λ_ _=>rfl) ?_ h6 (λ_ _ h=>h) ?_
  ·intro st2 x3 hd
   unfold Ry at hd
   have h5:=hd
   unfold Oi
   refine U8 ?_
   refine zF (JT.ab (zD (JE.ac (aK (aj rfl) (aK (aj rfl) (bK))) (nZ af x3 _ h5)))) ?_ ?_
   ·intro hq
    exact JB.DG (JE.Qy (aj rfl))
   ·intro hq
    exact JB.al rfl
  intro p1 e2
  show JB _ [.e af,.e bj,.e x1,.emp,.emp] _ _
  exact JB.al rfl
 intro p2 e3
 show JB _ [.e af,.e bj,.emp,.emp,.emp] _ _
 exact JB.ag (kO (JE.Vh))
def R8:SS:=SS.ab (eM (ST.ab (qw (gR (hjl 0)) (SE.ab 2))) (SS.ag (SE.non)) (SS.ac)) (SS.ab (Gv 1 (SB.own (SE.lst (fK)))) (SS.ab (iO (nW (gR (cW (hjl 0) (SE.ab 0)))) (aT 2) (dR [2,3] (SS.ab (cF 3 (gR (hxs (SI.list (hjl 0)) (aT 4) (ST.ab (cW (hjl 4) (hjl 2))) (SE.ab 1) [4] (by decide)))) (Cp 1 (Cr (hjl 3) (AR (gR (hjl 0)) (hjl 3))))))) (Cq 1 (SS.ag (SE.ag (hjl 1) (SE.C0 (hjl 1)))))))
def WO:Fn:=fnOf 1 4 R8
def EV (af:List (List Bool))(st1:(List Int))(x1:Int):(List Int):=
 lt (((Kaf (λ(x2:List Bool)=>(1:Int)) (KaS (λ(x2:List Bool)=>decide ((aq x2 x1)=true)) af)).length:Int)) λmany1=>
 lt (st1++[(max many1 ((af.length:Int)-many1))]) λhjk=>
 hjk
def Rx (af:List (List Bool))(st1:(List Int))(x1:Int):Prop:=
 (∀x2∈af,(-(x2.length:Int)<=x1/\x1<(x2.length:Int)))/\af.length<=100000/\(bu (((Kaf (λ(x2:List Bool)=>(1:Int)) (KaS (λ(x2:List Bool)=>decide ((aq x2 x1)=true)) af)).length:Int)) λmany1=>
 st1.length<100000)
def E5 (af:List (List Bool)):Option Int:=
 if (af.length:Int)<(2:Int) then
 (none:Option Int)
 else
 lt (([]:List Int)) λxx=>
 lt (Kaq (EV af) xx (rng 0 ((aq af (0:Int)).length:Int))) λp1=>
 (some ((xA p1 (jy p1):Nat):Int))
def yK (af:List (List Bool)):Prop:=
 (¬((af.length:Int)<(2:Int))->((bu (([]:List Int)) λxx=>
 (-(af.length:Int)<=(0:Int)/\(0:Int)<(af.length:Int))/\(-1000000<=((aq af (0:Int)).length:Int)/\((aq af (0:Int)).length:Int)<=1000000)/\bH (EV af) (Rx af) (rng 0 ((aq af (0:Int)).length:Int)) xx/\(bu (Kaq (EV af) xx (rng 0 ((aq af (0:Int)).length:Int))) λp1=>
 p1≠[]/\(jy p1)∈p1))))
theorem jw (af:List (List Bool))(s:aa)(h0:yK af):JF WO [.e af] s (E5 af) s false:=by
 unfold yK at h0
 have h13:=h0
 refine gi rfl ?_
 unfold E5 R8
 show JB _ [.e af,.emp,.emp,.emp,.emp] _ _
 refine CC (JT.ab (xT (lB (aj rfl)) (JE.ab 2))) ?_ (λ_=>NR) ?_
 ·intro hq
  exact JB.ag (kO (JE.Vh))
 intro hq
 have h12:=h13 hq
 refine Cv ?_
 refine aY λxx e1=>?_
 obtain⟨h1,h2,h8,h11⟩:=bL h12 e1
 refine JB.ab (aB:=[.e af,.aC (Kaf enc xx) true,.emp,.emp,.emp]) (JN.aC (Ld (JE.lst (xs:=[]) gK)) e1) ?_
 refine aY λp1 e4=>?_
 obtain⟨h9,h10⟩:=bL h11 e4
 refine JB.ab (tQ (J:=λ(st1:(List Int))=>[.e af,.aC (Kaf enc st1) true,.emp,.emp,.emp]) (R:=λ(st1:(List Int)) (x1:Int)=>[.e af,.aC (Kaf enc st1) true,.e x1,.emp,.emp]) (f:=(EV af)) (d:=(Rx af)) (st:=xx) (rq (lB (iC (aj rfl) (JE.ab 0) h1)) h2) rfl (λ_ _=>rfl) ?_ h8 e4) ?_
 ·intro st1 x1 hd
  unfold Rx at hd
  obtain⟨h5,h4,h7⟩:=hd
  unfold EV
  refine gQ ?_
  refine aY λmany1 e2=>?_
  have h6:=bL h7 e2
  refine JB.ab (aB:=[.e af,.aC (Kaf enc st1) true,.e x1,.e many1,.emp]) (cX (lB (Li (λ(x2:List Bool)=>[.e af,.aC (Kaf enc st1) true,.e x1,.emp,.e x2]) (JI.list (aj rfl)) (λ_=>rfl) (λx2 hx=>(have h3:=h5 x2 hx;JT.ab (zD (iC (aj rfl) (aj rfl) h3)))) (λx2 _ _=>JE.ab 1) (gB h4))) e2) ?_
  refine aY λhjk e3=>?_
  refine JB.ac (aB:=[.e af,.aC (Kaf enc hjk) true,.e x1,.e many1,.emp]) (JN.aC (NH rfl (Ln (aj rfl) (Gy (lB (aj rfl)) (aj rfl))) h6) e3) ?_
  exact rfl
 show JB _ [.e af,.aC (Kaf enc p1) true,.emp,.emp,.emp] _ _
 refine JB.frz (i:=1) rfl ?_
 show JB _ [.e af,.e p1,.emp,.emp,.emp] _ _
 exact JB.ag (kO (JE.Qy (JE.ag (aj rfl) (JE.C0 (aj rfl) h9) h10)))
def xg:SS:=dR [3,4,5,6,7,8,9,10,11,12,13,14,15,16] (SS.ab (cF 3 (SE.ac eG (dM 2 (cK (SE.ab 4) (dK))))) (SS.ab (cF 4 (CD (ST.ab (qw (hjl 3) (SE.ab 2))) (SE.ac XR (dM 2 (cK (SE.ab 5) (cK (SE.bool true) (dK))))) (cW (SE.lst (eK (SE.ac Xj (dM 2 (dK))) (eK (SE.ac Zr (dM 2 (dK))) (fK)))) (AR (hjl 3) (SE.ab 2))))) (SS.ab (hxx 5 6 (kN 5 (SE.ac YH (cK (hjl 4) (dK))) (kN 6 (Je (hjl 4)) (SP.nil))) (by decide)) (SS.ab (cF 7 (SE.ac VQ (cK (SE.ac M4 (cK (hjl 5) (dK))) (dK)))) (SS.ab (Gv 8 (SB.own (SE.ac Of (cK (hjl 4) (dK))))) (SS.ab (eM (Qk 8 (CF (ST.ac (ST.ab (iqk (hjl 8)))) (ST.ab (SE.GV (Je (hjl 8)) (Je (hjl 7)))))) (SS.ag (SE.bool false)) (SS.ac)) (SS.ab (Cp 8 (SE.ab 0)) (SS.ab (eM (ST.ab (vy (U9 Of Jx Jx Ag (cK (SE.rev (hjl 4)) (dK))) (hjl 7))) (SS.ag (SE.bool false)) (SS.ac)) (SS.ab (hxx 9 10 (kN 9 (cW (hjl 4) (SE.ac eG (dM 2 (cK (gR (hjl 4)) (dK))))) (kN 10 (cW (SE.lst (eK (SE.ab 0) (eK (SE.ab 0) (eK (SE.ab 4) (fK))))) (SE.ac eG (dM 2 (cK (SE.ab 3) (dK))))) (SP.nil))) (by decide)) (SS.ab (cF 11 (cW (SE.lst (eK (SE.ac eG (dM 2 (cK (SE.ab 4) (dK)))) (eK (SE.ab 20) (fK)))) (oZ (fX (SE.ac eG (dM 2 (cK (SE.ab 6) (dK)))) (SE.ab 5))))) (SS.ab (cF 12 (SE.ac Xf (dM 2 (cK (hjl 9) (cK (hjl 11) (cK (hjl 10) (dK))))))) (SS.ab (cF 13 (SE.ac M4 (cK (hxs (SI.zip (hjl 5) (hjl 4)) (SG.tup (jK (aT 17) (jK (aT 18) (c9.nil)))) (ST.ab (SE.ac Tg (cK (hjl 18) (cK (hjl 12) (dK))))) (hjl 17) [17,18] (by decide)) (dK)))) (SS.ab (iO (SI.list (SE.lst (eK (SE.tup (eK (SE.ac M4 (cK (hjl 5) (dK))) (eK (SE.lst (fK)) (fK)))) (eK (SE.tup (eK (hjl 13) (eK (hjl 12) (fK)))) (fK))))) (SG.tup (jK (aT 14) (jK (aT 15) (c9.nil)))) (dR [14,15,16] (SS.ab (cF 16 (SE.ac OL (cK (hjl 4) (cK (hjl 15) (dK))))) (eM (CF (ST.ab (SE.GV (Je (hjl 16)) (Je (SE.ac WO (cK (hjl 14) (dK)))))) (ST.ab (vy (U9 OL HF HF Ah (cK (hjl 15) (cK (hjl 4) (dK)))) (hjl 16)))) (SS.ag (SE.bool false)) (SS.ac))))) (eM (ST.ab (SE.GV (Je (hjl 4)) (hjl 6))) (SS.ag (SE.bool false)) (SS.ac)))))))))))))))
def sQ:SE:=NJ (fX (SE.ac Of (cK (SE.lst (fK)) (dK))) (SE.lst (fK))) (SE.Lj (SE.ac OL (cK (SE.lst (fK)) (cK (SE.lst (fK)) (dK)))) (SE.non))
def IS (bJ:List (aX))(st1:Unit)(x3:(List (List Bool))×(List (Int×Bool))):(Bool) ⊕ (Unit):=
 lt ((rW bJ x3.2)) λaD=>
 if ((rep aD)≠(rep (E5 x3.1)))∨((rW bJ x3.2)≠aD) then
 .inl false
 else
 .inr ()
def eqs (bJ:List (aX))(st1:Unit)(x3:(List (List Bool))×(List (Int×Bool))):Prop:=
 q_ bJ x3.2/\(bu ((rW bJ x3.2)) λaD=>
 oA (enc aD)=true/\yK x3.1/\oA (enc (E5 x3.1))=true/\(¬((rep aD)≠(rep (E5 x3.1)))->(q_ bJ x3.2)))
def yt (s:aa):((Bool) ⊕ (Unit))×aa:=
 a_ (aE s (4:Int)) λa1 s1=>
 lt (a1) λaJ=>
 a_ (if aJ<(2:Int) then (a_ (Aw s1 (5:Int) true) λa2 s2=>(a2,s2)) else (a_ (u_ s1) λa3 s3=>(a_ (u5 s3) λa4 s4=>((aq [a3,a4] (aJ-(2:Int))),s4)))) λa5 s5=>
 lt (a5) λbJ=>
 lt ((MX bJ)) λaf=>
 lt ((rep bJ)) λdU=>
 lt ((JV (lu af))) λfP=>
 lt ((nJ bJ)) λae=>
 if (¬(true=true))∨((rep ae)≠(rep fP)) then
 (.inl false,s5)
 else
 lt (ae++[(0:Int)]) λao=>
 if (some (nJ (Kbw bJ)))≠fP then
 (.inl false,s5)
 else
 a_ (aE s5 (bJ.length:Int)) λa6 s6=>
 a_ (aE s6 (3:Int)) λa7 s7=>
 lt ((aq bJ a6)) λvI=>
 lt ((aq [(0:Int),(0:Int),(4:Int)] a7)) λbC=>
 a_ (aE s7 (4:Int)) λa8 s8=>
 a_ (aE s8 (6:Int)) λa9 s9=>
 lt ((aq [a8,(20:Int)] (b2i (decide (a9=(5:Int)))))) λmany1=>
 a_ (yN s9 vI many1 bC) λa10 s10=>
 lt (a10) λiA=>
 lt ((lu (Kaf (λ(x2:(List Bool)×(aX))=>x2.1) (KaS (λ(x2:(List Bool)×(aX))=>decide ((Bx x2.2 iA)=true)) (Ka9 af bJ))))) λl7=>
 lX (forR (IS bJ) [((lu af),([]:List (Int×Bool))),(l7,iA)] ()) (λr=>(.inl r,s10)) λp1=>
 if (rep bJ)≠dU then
 (.inl false,s10)
 else
 (.inr (),s10)
def gM (s:aa):Prop:=
 cu s (4:Int)/\(aW (aE s (4:Int)) λa1 s1=>
 (bu (a1) λaJ=>
 ((aJ<(2:Int))->(yX s1 (5:Int) true))/\(¬(aJ<(2:Int))->(yV s1/\(aW (u_ s1) λa3 s3=>yR s3/\(aW (u5 s3) λa4 s4=>(-([a3,a4].length:Int)<=(aJ-(2:Int))/\(aJ-(2:Int))<([a3,a4].length:Int))))))/\(aW (if aJ<(2:Int) then (a_ (Aw s1 (5:Int) true) λa2 s2=>(a2,s2)) else (a_ (u_ s1) λa3 s3=>(a_ (u5 s3) λa4 s4=>((aq [a3,a4] (aJ-(2:Int))),s4)))) λa5 s5=>
 (bu (a5) λbJ=>
 Az bJ/\(bu ((MX bJ)) λaf=>
 oA (enc bJ)=true/\(bu ((rep bJ)) λdU=>
 ve af/\w7 (lu af)/\(bu ((JV (lu af))) λfP=>
 wR bJ/\(bu ((nJ bJ)) λae=>
 (¬(¬(true=true))->(oA (enc ae)=true/\oA (enc fP)=true))/\(¬((¬(true=true))∨((rep ae)≠(rep fP)))->(ae.length<100000/\(bu (ae++[(0:Int)]) λao=>
 wR (Kbw bJ)/\(¬((some (nJ (Kbw bJ)))≠fP)->(cu s5 (bJ.length:Int)/\(aW (aE s5 (bJ.length:Int)) λa6 s6=>
 cu s6 (3:Int)/\(aW (aE s6 (3:Int)) λa7 s7=>
 (-(bJ.length:Int)<=a6/\a6<(bJ.length:Int))/\(bu ((aq bJ a6)) λvI=>
 (-([(0:Int),(0:Int),(4:Int)].length:Int)<=a7/\a7<([(0:Int),(0:Int),(4:Int)].length:Int))/\(bu ((aq [(0:Int),(0:Int),(4:Int)] a7)) λbC=>
 cu s7 (4:Int)/\(aW (aE s7 (4:Int)) λa8 s8=>
 cu s8 (6:Int)/\(aW (aE s8 (6:Int)) λa9 s9=>
 (-([a8,(20:Int)].length:Int)<=(b2i (decide (a9=(5:Int))))/\(b2i (decide (a9=(5:Int))))<([a8,(20:Int)].length:Int))/\(bu ((aq [a8,(20:Int)] (b2i (decide (a9=(5:Int)))))) λmany1=>
 Ao s9 vI many1 bC/\(aW (yN s9 vI many1 bC) λa10 s10=>
 (bu (a10) λiA=>
 (∀x2∈(Ka9 af bJ),Ep x2.2 iA)/\(Ka9 af bJ).length<=100000/\ve (Kaf (λ(x2:(List Bool)×(aX))=>x2.1) (KaS (λ(x2:(List Bool)×(aX))=>decide ((Bx x2.2 iA)=true)) (Ka9 af bJ)))/\(bu ((lu (Kaf (λ(x2:(List Bool)×(aX))=>x2.1) (KaS (λ(x2:(List Bool)×(aX))=>decide ((Bx x2.2 iA)=true)) (Ka9 af bJ))))) λl7=>
 ve af/\iJ (IS bJ) (eqs bJ) [((lu af),([]:List (Int×Bool))),(l7,iA)] ()/\(∀p1,forR (IS bJ) [((lu af),([]:List (Int×Bool))),(l7,iA)] ()=.inr p1->(oA (enc bJ)=true)))))))))))))))))))))))))
theorem Lr (s:aa)(x0 x1:Slot)(h0:gM s):JB xg [x0,x1,.bf,.emp,.emp,.emp,.emp,.emp,.emp,.emp,.emp,.emp,.emp,.emp,.emp,.emp,.emp,.emp,.emp] s (MxS false (λ(_:Unit)=>[x0,x1,.bf,.emp,.emp,.emp,.emp,.emp,.emp,.emp,.emp,.emp,.emp,.emp,.emp,.emp,.emp,.emp,.emp]) (yt s)):=by
 unfold gM at h0
 obtain⟨h1,h63⟩:=h0
 unfold yt xg
 refine JB.HL ?_
 refine dJ λa1 s1 hv1=>?_
 have h62:=dZ h63 hv1
 refine aY λaJ e1=>?_
 obtain⟨h8,h9,h61⟩:=bL h62 e1
 refine JB.ab (aB:=[x0,x1,.bf,.e aJ,.emp,.emp,.emp,.emp,.emp,.emp,.emp,.emp,.emp,.emp,.emp,.emp,.emp,.emp,.emp]) (cX (dG (JE.ac (d_ rfl (aK (JE.ab 4) (bK))) (fj s (4:Int) h1)) hv1) e1) ?_
 refine dJ λa5 s5 we=>?_
 have h60:=dZ h61 we
 refine aY λbJ e2=>?_
 obtain⟨h10,h59⟩:=bL h60 e2
 refine JB.ab (aB:=[x0,x1,.bf,.e aJ,.e bJ,.emp,.emp,.emp,.emp,.emp,.emp,.emp,.emp,.emp,.emp,.emp,.emp,.emp,.emp]) (cX (dG (JE.Qn (JT.ab (xT (aj rfl) (JE.ab 2))) (λhq=>(have h2:=h8 hq;JE.a_ λa2 s2 hv2=>dG (JE.ac (d_ rfl (aK (JE.ab 5) (aK (JE.bool true) (bK)))) (qB s1 (5:Int) true h2)) hv2)) (λhq=>(match h9 hq with|⟨h3,h7⟩=>JE.a_ λa3 s3 o7=>(match dZ h7 o7 with|⟨h4,h6⟩=>JE.a_ λa4 s4 o8=>(have h5:=dZ h6 o8;iC (JE.lst (xs:=[a3,a4]) (vq (dG (JE.ac (d_ rfl (bK)) (qz s1 h3)) o7) (vq (dG (JE.ac (d_ rfl (bK)) (tX s3 h4)) o8) (gK))) (by show 2<=100000;decide)) (Gy (aj rfl) (JE.ab 2)) h5))))) we) e2) ?_
 refine aY λaf e3=>?_
 obtain⟨h11,h58⟩:=bL h59 e3
 refine aY λdU e4=>?_
 obtain⟨h12,h13,h57⟩:=bL h58 e4
 refine JB.ab (aB:=[x0,x1,.bf,.e aJ,.e bJ,.e af,.e dU,.emp,.emp,.emp,.emp,.emp,.emp,.emp,.emp,.emp,.emp,.emp,.emp]) (xS (JP.dat e3 (JE.ac (aK (aj rfl) (bK)) (qA bJ _ h10)) (JP.dat e4 (NL (aj rfl) h11) (JP.nil)))) ?_
 refine aY λfP e5=>?_
 obtain⟨tN,h56⟩:=bL h57 e5
 refine JB.ab (aB:=[x0,x1,.bf,.e aJ,.e bJ,.e af,.e dU,.e fP,.emp,.emp,.emp,.emp,.emp,.emp,.emp,.emp,.emp,.emp,.emp]) (cX (JE.ac (aK (JE.ac (aK (aj rfl) (bK)) (Sd af _ h12)) (bK)) (gF (lu af) _ h13)) e5) ?_
 refine aY λae e6=>?_
 obtain⟨v5,h55⟩:=bL h56 e6
 refine JB.ab (aB:=[x0,x1,.bf,.e aJ,.e bJ,.e af,.e dU,.e fP,.aC (Kaf enc ae) true,.emp,.emp,.emp,.emp,.emp,.emp,.emp,.emp,.emp,.emp]) (JN.aC (Ld (JE.ac (aK (aj rfl) (bK)) (VM bJ _ tN))) e6) ?_
 refine CC (ijj rfl (JT.or (JT.not (JT.ab (zD (JE.GF (aj rfl))))) (λhq=>(match v5 hq with|⟨h15,vZ⟩=>JT.ab (JE.GV (NL (aj rfl) h15) (NL (aj rfl) vZ)))))) ?_ (λ_=>izq) ?_
 ·intro hq
  exact izk (kO (JE.bool false))
 intro hq
 obtain⟨v7,h54⟩:=h55 hq
 refine Cv ?_
 refine aY λao e7=>?_
 obtain⟨v8,h53⟩:=bL h54 e7
 refine JB.ab (aB:=[x0,x1,.bf,.e aJ,.e bJ,.e af,.e dU,.e fP,.aC (Kaf enc ao) true,.emp,.emp,.emp,.emp,.emp,.emp,.emp,.emp,.emp,.emp]) (JN.aC (NH rfl (JE.ab 0) v7) e7) ?_
 refine CC (JT.ab (CA (α:=Option (List Int)) (JE.Qy (JE.Iw (aK (JE.rev (aj rfl)) (bK)) (VM (Kbw bJ) _ v8))) (aj rfl))) ?_ (λ_=>izq) ?_
 ·intro hq
  exact izk (kO (JE.bool false))
 intro hq
 obtain⟨Ci,h52⟩:=h53 hq
 refine Cv ?_
 refine dJ λa6 s6 xN=>?_
 obtain⟨h22,h51⟩:=dZ h52 xN
 refine dJ λa7 s7 zC=>?_
 obtain⟨h21,h50⟩:=dZ h51 zC
 refine aY λvI e8=>?_
 obtain⟨Cj,h49⟩:=bL h50 e8
 refine aY λbC e9=>?_
 obtain⟨Gg,h48⟩:=bL h49 e9
 refine JB.ab (aB:=[x0,x1,.bf,.e aJ,.e bJ,.e af,.e dU,.e fP,.aC (Kaf enc ao) true,.e vI,.e bC,.emp,.emp,.emp,.emp,.emp,.emp,.emp,.emp]) (xS (JP.dat e8 (iC (aj rfl) (dG (JE.ac (d_ rfl (aK (lB (aj rfl)) (bK))) (fj s5 (bJ.length:Int) Ci)) xN) h21) (JP.dat e9 (iC (JE.lst (xs:=[(0:Int),(0:Int),(4:Int)]) (iK (JE.ab 0) (iK (JE.ab 0) (iK (JE.ab 4) (gK)))) (by show 3<=100000;decide)) (dG (JE.ac (d_ rfl (aK (JE.ab 3) (bK))) (fj s6 (3:Int) h22)) zC) Cj) (JP.nil)))) ?_
 refine dJ λa8 s8 EB=>?_
 obtain⟨Gh,h47⟩:=dZ h48 EB
 refine dJ λa9 s9 EC=>?_
 obtain⟨Gi,h46⟩:=dZ h47 EC
 refine aY λmany1 Nc=>?_
 obtain⟨Gj,h45⟩:=bL h46 Nc
 refine JB.ab (aB:=[x0,x1,.bf,.e aJ,.e bJ,.e af,.e dU,.e fP,.aC (Kaf enc ao) true,.e vI,.e bC,.e many1,.emp,.emp,.emp,.emp,.emp,.emp,.emp]) (cX (iC (JE.lst (xs:=[a8,(20:Int)]) (iK (dG (JE.ac (d_ rfl (aK (JE.ab 4) (bK))) (fj s7 (4:Int) Gg)) EB) (iK (JE.ab 20) (gK))) (by show 2<=100000;decide)) (iql (jW (dG (JE.ac (d_ rfl (aK (JE.ab 6) (bK))) (fj s8 (6:Int) Gh)) EC) (JE.ab 5))) Gi) Nc) ?_
 refine dJ λa10 s10 qq=>?_
 have h44:=dZ h45 qq
 refine aY λiA Nf=>?_
 obtain⟨Gn,Gm,Gp,h43⟩:=bL h44 Nf
 refine JB.ab (aB:=[x0,x1,.bf,.e aJ,.e bJ,.e af,.e dU,.e fP,.aC (Kaf enc ao) true,.e vI,.e bC,.e many1,.e iA,.emp,.emp,.emp,.emp,.emp,.emp]) (cX (dG (JE.ac (d_ rfl (aK (aj rfl) (aK (aj rfl) (aK (aj rfl) (bK))))) (nX s9 vI many1 bC Gj)) qq) Nf) ?_
 refine aY λl7 sP=>?_
 obtain⟨Gq,Qc,Qe⟩:=bL h43 sP
 refine JB.ab (aB:=[x0,x1,.bf,.e aJ,.e bJ,.e af,.e dU,.e fP,.aC (Kaf enc ao) true,.e vI,.e bC,.e many1,.e iA,.e l7,.emp,.emp,.emp,.emp,.emp]) (cX (JE.ac (aK (JE.lc (λ(x2:(List Bool)×(aX))=>[x0,x1,.bf,.e aJ,.e bJ,.e af,.e dU,.e fP,.aC (Kaf enc ao) true,.e vI,.e bC,.e many1,.e iA,.emp,.emp,.emp,.emp,.e x2.1,.e x2.2]) (JI.zip (aj rfl) (aj rfl)) (λ_=>rfl) (λx2 hx=>(have Gk:=Gn x2 hx;JT.ab (zD (JE.ac (aK (aj rfl) (aK (aj rfl) (bK))) (qy x2.2 iA _ Gk))))) (λx2 _ _=>aj rfl) (gB Gm)) (bK)) (Sd (Kaf (λ(x2:(List Bool)×(aX))=>x2.1) (KaS (λ(x2:(List Bool)×(aX))=>decide ((Bx x2.2 iA)=true)) (Ka9 af bJ))) _ Gp)) sP) ?_
 refine JB.am (J:=λ(st1:Unit)=>[x0,x1,.bf,.e aJ,.e bJ,.e af,.e dU,.e fP,.aC (Kaf enc ao) true,.e vI,.e bC,.e many1,.e iA,.e l7,.emp,.emp,.emp,.emp,.emp]) (R:=λ(st1:Unit) (x3:(List (List Bool))×(List (Int×Bool)))=>[x0,x1,.bf,.e aJ,.e bJ,.e af,.e dU,.e fP,.aC (Kaf enc ao) true,.e vI,.e bC,.e many1,.e iA,.e l7,.e x3.1,.e x3.2,.emp,.emp,.emp]) (f:=(IS bJ)) (d:=(eqs bJ)) (st:=()) (w:=false) (JI.list (JE.lst (xs:=[((lu af),([]:List (Int×Bool))),(l7,iA)]) (vq (hxv (vq (JE.ac (aK (aj rfl) (bK)) (Sd af _ Gq)) (JA.cons (JE.lst (xs:=[]) gK) (gK)))) (vq (hxv (vq (aj rfl) (vq (aj rfl) (gK)))) (gK))) (by show 2<=100000;decide))) rfl (λ_ _=>rfl) ?_ Qc (λ_ _ h=>h) ?_
 ·intro st1 x3 hd
  unfold eqs at hd
  obtain⟨h33,h39⟩:=hd
  unfold IS
  refine U8 ?_
  refine aY λaD e13=>?_
  obtain⟨h34,h35,h36,h38⟩:=bL h39 e13
  refine JB.ab (aB:=[x0,x1,.bf,.e aJ,.e bJ,.e af,.e dU,.e fP,.aC (Kaf enc ao) true,.e vI,.e bC,.e many1,.e iA,.e l7,.e x3.1,.e x3.2,.e aD,.emp,.emp]) (cX (JE.ac (aK (aj rfl) (aK (aj rfl) (bK))) (Xq bJ x3.2 _ h33)) e13) ?_
  refine zF (JT.or (JT.ab (JE.GV (NL (aj rfl) h34) (NL (JE.ac (aK (aj rfl) (bK)) (jw x3.1 _ h35)) h36))) (λhq=>(have h37:=h38 hq;JT.ab (CA (α:=Option Int) (JE.Iw (aK (aj rfl) (aK (aj rfl) (bK))) (Xq bJ x3.2 _ h37)) (aj rfl))))) ?_ ?_
  ·intro hq
   exact JB.DG (kO (JE.bool false))
  ·intro hq
   exact JB.al rfl
 intro p1 W6
 have aqB:=Qe p1 W6
 have h41:=aqB
 show JB _ [x0,x1,.bf,.e aJ,.e bJ,.e af,.e dU,.e fP,.aC (Kaf enc ao) true,.e vI,.e bC,.e many1,.e iA,.e l7,.emp,.emp,.emp,.emp,.emp] _ _
 refine zF (JT.ab (JE.GV (NL (aj rfl) h41) (aj rfl))) ?_ ?_
 ·intro hq
  exact izk (kO (JE.bool false))
 ·intro hq
  exact JB.al rfl
def D5:Bool:=
 (decide (((nJ ([]:List (aX)))=([]:List Int))/\((rW ([]:List (aX)) ([]:List (Int×Bool)))=none)))
def BG:Prop:=
 wR ([]:List (aX))/\(((nJ ([]:List (aX)))=([]:List Int))->q_ ([]:List (aX)) ([]:List (Int×Bool)))
theorem Lq (x0:Slot)(s:aa)(h0:BG):JE sQ (x0::Kak 18 .emp) s D5 s false:=by
 unfold BG at h0
 obtain⟨h64,h66⟩:=h0
 unfold D5 sQ
 exact JE.N7 (jW (α:=List Int) (JE.ac (aK (JE.lst (xs:=[]) gK) (bK)) (VM ([]:List (aX)) _ h64)) (JE.lst (xs:=[]) gK)) (λhq=>(have h65:=h66 hq;JE.Lj (JE.ac (aK (JE.lst (xs:=[]) gK) (aK (JE.lst (xs:=[]) gK) (bK))) (Xq ([]:List (aX)) ([]:List (Int×Bool)) _ h65))))
end Pu
namespace Pu
open PySem PySem.Spec PyProof.Rows L2
end Pu
namespace Pu
open PySem PySem.Spec PyProof.Rows L2 Enc
variable [aZ]
theorem t8 {K:Frag}{H:Hp}{a:Addr}{ns:List Int}{RK:SE}{m:Nat}(hs:SqL K H a (ns.map V.int))(hT:rR H){sf:List Int->Int->aa}{B:SS}{EE:SE}{D:Ends}
  (hRK:∀(H:Hp) (σ:L2.St) (Q:VK),SqL K H a (ns.map V.int)->σ[0]? = some (some (.ref a))->(∀j:Int,1<=j->j<=1000->Q (.int j) H)->RK.t K σ H Q)
  (hB:∀(r:Int) (x0 x1:Slot),0<=r->r<=1000->∃ρ' s',B.ev (x0::x1::.bf::Kak m .emp) (sf ns r)=some (.nx (x0::ρ') s')/\ρ'.length=2+m)
  (hE:∀x0:Slot,∃fl s',EE.ev (x0::Kak (2+m) .emp) (0,0,0)=some ((.bool true,fl),s')) {xs:List (Option V)} (hx:xs.length=2+m) (q:∀H',D.rt (.bl true) H'):
  tSeq (tFor (iRng1 (tCons (RK.t K) tNil)) (gName 1) (tSeq (tAsg (DL K sf) (gName 2)) (B.t K))) (tRet (EE.t K)) D (some (.ref a)::xs) H:=by
 refine hRK _ _ _ hs rfl λj j1 j2=>?_
 refine⟨j,rfl,by omega,by omega,?_⟩
 refine⟨λi k σ H'=>k=j.toNat-i/\i<=j.toNat/\Kp H H'/\∃xs,σ=some (.ref a)::xs/\xs.length=2+m,⟨_,rfl,KaV _,⟨λ_ _ h _=>h,hT⟩,xs,rfl,hx⟩,λi k σ H1 hW=>?_⟩
 obtain⟨rfl,hi,keep,xs,rfl,hx⟩:=hW
 have yl:=hzj (lo:=0) (n:=j.toNat) (F:=λ_=>none) (λ_=>none) H1 i (Same.refl _) (λb o e=>by cases e)
 have hlen:(qi 0 j.toNat).length=j.toNat:=by rw [YY];simp
 have sl:∀(sk:Option Addr) (H4:Hp) (ys:List (Option V)),Slots sk (λ_=>none) H4 ys (Kak ys.length .emp) (Kak ys.length []):=by
  intro sk H4 ys
  induction ys with
  |nil=>exact .nil
  |cons y ys ih=>exact .cons rfl ih
 by_cases hlt:i<j.toNat
 ·have hd:(qi 0 j.toNat)[i]? = some (.int (i:Int)):=by rw [YY];simp [hlt]
  obtain⟨go,yld⟩:=yl.1 _ hd
  refine .inr ⟨go,λσ' H'=>Kp H H'/\∃xs,σ'=some (.ref a)::xs/\xs.length=2+m,λσ' H' hN=>?_,λx H3 hy=>?_⟩
  ·obtain⟨k1,xs,e1,e2⟩:=hN
   exact⟨_,by omega,rfl,hlt,k1,xs,e1,e2⟩
  ·obtain⟨F3,rV,sa,r3⟩:=yld x H3 hy
   rw [r3.int_inv]
   have xW:Kp H H3:=⟨λb o e hst=>sa.fr b o (λz=>by cases z) (keep.at' b o e hst),ZA keep.tab λb o e=>sa.fr b o (λz=>by cases z) e⟩
   match xs,hx with
   |[],hx=>exact absurd hx (by simp;omega)
   |[_],hx=>exact absurd hx (by simp;omega)
   |y1::y2::ys,hx=>
    have hys:ys.length=m:=by
     simp only [Kad] at hx
     omega
    refine⟨.ref a,rfl,.int i,rfl,a,ns,(i:Int),rfl,D0 hs xW.at',xW.tab,⟨by omega,by omega⟩,λp H4 hp Jk hq=>?_⟩
    obtain⟨ρ',s',he,hρ⟩:=hB (i:Int) (.fix (.ref a)) .emp (by omega) (by omega)
    have fl:(Kak ys.length ([]:List Addr)).flatten=[]:=by simp
    have wd:Wd (some p) (λ_=>none) H4 (λ_=>none) H4 (some (.ref a)::some (.int i)::some (.ref p)::ys) (.fix (.ref a)::.emp::.bf::Kak m .emp) ([]::[]::[]::Kak ys.length []) (sf ns i):=by
     refine⟨.refl (λb o e=>by cases e),⟨λb e=>?_,Jk.tab⟩,.cons ⟨rfl,rfl⟩ (.cons rfl (.cons ⟨rfl,p,rfl,rfl⟩ ?_)),?_,λb mm=>?_⟩
     ·cases e;exact⟨hq,rfl⟩
     ·rw [<-hys];exact sl _ _ ys
     ·simp [fl]
     ·simp [fl] at mm
    refine B.ok K wd he λF5 H5 Jz iL _ w5=>?_
    have st:=w5.st
    refine⟨⟨λb o e hst=>?_,w5.bh.tab.low⟩,?_⟩
    ·have e4:=Jk.at' b o (xW.at' b o e hst) hst
     refine st.fr b o (λz=>?_) e4
     cases z
     rw [xW.at' p o e hst] at hp
     cases hp
    ·have l5:=w5.slots
     cases l5 with
     |cons h1 h2=>
      obtain⟨_,e0⟩:=h1
      subst e0
      exact⟨_,rfl,by rw [h2.length,hρ]⟩
 ·have e1:i=j.toNat:=by omega
  subst e1
  refine .inl ⟨yl.2 (by rw [hlen];exact Kat _),?_⟩
  obtain⟨f',s',he⟩:=hE (.fix (.ref a))
  have fl:(Kak xs.length ([]:List Addr)).flatten=[]:=by simp
  have pr:Pre none (λ_=>none) H1 (some (.ref a)::xs) (.fix (.ref a)::Kak (2+m) .emp) ([]::Kak xs.length []) (0,0,0):=
   ⟨λb o e=>(nomatch e),⟨λb e=>(nomatch e),keep.tab⟩,.cons ⟨rfl,rfl⟩ (by rw [<-hx];exact sl _ _ xs),λb e=>(nomatch e),by simp [fl]⟩
  refine EE.ok K pr he λv F' H' as st k r f=>?_
  rw [r.bool_inv]
  exact q H'
theorem G4 {P:Program}{w:World}{K:PySem.W.Frag}{mg:Str->Option Value}{base:Heap}{x:Str}{st:Stmt}{f:Addr}{fd:FuncData}{N ps:List Str}{k nn m:Nat}{RK:SE}{B:SS}{EE:SE}{sf:List Int->Int->aa}(F:cO K x st f fd)(S:FnScope N ps (defScope st))(hp:ps.length=1)(hN:N.length=3+m)
  (hRK:∀(a:Addr) (ns:List Int) (H:Hp) (σ:L2.St) (Q:VK),ns.length<=nn->SqL K H a (ns.map V.int)->σ[0]? = some (some (.ref a))->(∀j:Int,1<=j->j<=1000->Q (.int j) H)->RK.t K σ H Q)
  (hB:∀(ns:List Int) (r:Int) (x0 x1:Slot),ns.length<=nn->0<=r->r<=1000->∃ρ' s',B.ev (x0::x1::.bf::Kak m .emp) (sf ns r)=some (.nx (x0::ρ') s')/\ρ'.length=2+m)
  (hE:∀x0:Slot,∃fl s',EE.ev (x0::Kak (2+m) .emp) (0,0,0)=some ((.bool true,fl),s'))
  (Ko:∀(cdv:Value) (A:Around) (outer:List Env) (s:Shared) (H:Hp),(A.deeper (envOfC x (defScope st) s.heap.objs.size f cdv)).guards=some []->Room k (A.deeper (envOfC x (defScope st) s.heap.objs.size f cdv)) ->
   ∃t,PSs (cxOf CX0 P w K mg base N x (defScope st) f cdv A outer s H E0).nox (defBody st) t/\t=tSeq (tFor (iRng1 (tCons (RK.t K) tNil)) (gName 1) (tSeq (tAsg (DL K sf) (gName 2)) (B.t K))) (tRet (EE.t K))):
  EO P w K mg base (k+1) f fd ps (yq K nn):=
 EO.body F S (λvs H Q h=>by obtain⟨a,ns,rfl,_⟩:=h;rw [hp];rfl) λcdv A outer s H vs Q hG hr h=>by
  obtain⟨t,ht,rfl⟩:=Ko cdv A outer s H hG hr
  obtain⟨a,ns,rfl,hl,hs,hT,q⟩:=h
  refine⟨_,PSs.nox ht,?_⟩
  have hst:L2.start N [.ref a]=some (.ref a)::Kak (2+m) none:=by
   unfold L2.start
   rw [hN,show 3+m-[V.ref a].length=2+m by simp only [Kad,Kbh];omega];rfl
  rw [hst]
  exact t8 hs hT (λH σ Q h1 h2 h3=>hRK a ns H σ Q hl h1 h2 h3) (λr x0 x1 h1 h2=>hB ns r x0 x1 hl h1 h2) hE (by simp) q
end Pu
namespace wJ
open PySem PySem.Spec PyProof.Rows L2 Pu
local macro_rules | `(tactic| walk_at "sc") => `(tactic| exact ⟨rfl, rfl, rfl, by decide +kernel, rfl, by decide +kernel, by decide +kernel⟩)
abbrev gq:List Str:=["numbers", "one", "other"]
theorem Sj:FnScope gq ["numbers"] (defScope So):=(by walk_at "sc")
abbrev AY:List Str:=["told", "early", "first", "length", "found"]
theorem Pa:FnScope AY ["told"] (defScope Z5):=(by walk_at "sc")
abbrev vC:List Str:=["told"]
theorem uK:FnScope vC ["told"] (defScope Y0):=(by walk_at "sc")
abbrev jk:List Str:=["one", "other"]
theorem eZ:FnScope jk ["one", "other"] (defScope VL):=(by walk_at "sc")
abbrev iE:List Str:=["one", "other"]
theorem iy:FnScope iE ["one", "other"] (defScope VS):=(by walk_at "sc")
abbrev nN:List Str:=["number", "found", "left", "part"]
theorem Oz:FnScope nN ["number"] (defScope XG):=(by walk_at "sc")
abbrev fR:List Str:=["ladder", "many", "early", "turn", "rise", "laps", "found", "lap", "number"]
theorem E4:FnScope fR ["ladder", "many"] (defScope RI):=(by walk_at "sc")
abbrev Ww:List Str:=["turn", "rise", "length", "times", "later", "number", "more"]
theorem Iu:FnScope Ww ["turn", "rise", "length"] (defScope OE):=(by walk_at "sc")
abbrev lO:List Str:=["turn", "rise", "length", "part"]
theorem R6:FnScope lO ["turn", "rise"] (defScope WU):=(by walk_at "sc")
abbrev rL:List Str:=["ladder", "early", "turn", "rise", "length", "gain", "numbers", "first"]
theorem Im:FnScope rL ["ladder"] (defScope XC):=(by walk_at "sc")
abbrev rJ:List Str:=["row", "early", "turn"]
theorem XO:FnScope rJ ["row"] (defScope YU):=(by walk_at "sc")
abbrev lJ:List Str:=["row", "many"]
theorem lg:FnScope lJ ["row", "many"] (defScope WJ):=(by walk_at "sc")
abbrev exm:List Str:=["told", "early", "first", "length", "found", "days", "places", "day", "place"]
theorem vG:FnScope exm ["told"] (defScope Kx):=(by walk_at "sc")
abbrev Zg:List Str:=["row", "begun", "again", "early", "day", "bit", "place"]
theorem E8:FnScope Zg ["row"] (defScope OX):=(by walk_at "sc")
abbrev yG:List Str:=["told", "day", "early", "first", "length", "found"]
theorem OY:FnScope yG ["told", "day"] (defScope ZX):=(by walk_at "sc")
abbrev rK:List Str:=["told"]
theorem qU:FnScope rK ["told"] (defScope YF):=(by walk_at "sc")
abbrev nK:List Str:=["notes", "known", "day", "seen"]
theorem RW:FnScope nK ["notes"] (defScope W_):=(by walk_at "sc")
abbrev qc:List Str:=["sets", "told"]
theorem gY:FnScope qc ["sets"] (defScope Xb):=(by walk_at "sc")
abbrev AX:List Str:=["told", "notes", "day", "seen"]
theorem UH:FnScope AX ["told", "notes"] (defScope UY):=(by walk_at "sc")
abbrev oq:List Str:=["sets", "notes", "index", "told"]
theorem Tt:FnScope oq ["sets", "notes"] (defScope Um):=(by walk_at "sc")
abbrev gr:List Str:=["sets", "notes", "index"]
theorem WQ:FnScope gr ["sets", "notes"] (defScope RY):=(by walk_at "sc")
abbrev rN:List Str:=["sets", "found", "told", "least"]
theorem SY:FnScope rN ["sets"] (defScope Xl):=(by walk_at "sc")
abbrev jl:List Str:=["sets", "start", "length", "told"]
theorem MP:FnScope jl ["sets"] (defScope V1):=(by walk_at "sc")
abbrev YK:List Str:=["sets", "many", "rows", "known", "found", "day", "truths", "told", "row"]
theorem En:FnScope YK ["sets"] (defScope OS):=(by walk_at "sc")
abbrev AZ:List Str:=["lots", "truths", "known", "found", "lot", "truth"]
theorem T8:FnScope AZ ["lots", "truths"] (defScope Z1):=(by walk_at "sc")
abbrev kF:List Str:=["level", "ways", "found", "lots", "days", "day", "truths", "finer", "longer"]
theorem Ii:FnScope kF ["level", "ways"] (defScope WS):=(by walk_at "sc")
abbrev lI:List Str:=["sets", "unlike", "ways", "level", "single"]
theorem MT:FnScope lI ["sets"] (defScope Wq):=(by walk_at "sc")
abbrev kE:List Str:=["truths"]
theorem jG:FnScope kE ["truths"] (defScope V_):=(by walk_at "sc")
abbrev rM:List Str:=["sets", "notes", "unlike", "best", "day", "truths", "worst"]
theorem Ka:FnScope rM ["sets", "notes"] (defScope Za):=(by walk_at "sc")
abbrev rH:List Str:=["_law_script", "_law_rank", "_law_cell"]
theorem ja:FnScope rH ["_law_script", "_law_rank"] (defScope Xu):=(by walk_at "sc")
abbrev rG:List Str:=["_law_sack", "_law_many", "_law_drawn", "_law_stirred"]
theorem SQ:FnScope rG ["_law_sack", "_law_many"] (defScope Y7):=(by walk_at "sc")
abbrev lN:List Str:=["_law_sack", "_law_wide", "_law_some"]
theorem gc:FnScope lN ["_law_sack", "_law_wide"] (defScope Wh):=(by walk_at "sc")
abbrev Ze:List Str:=["_law_sack", "_law_lengths", "_law_first", "_law_length", "_law_early", "_law_few", "_law_day", "_law_place"]
theorem Fg:FnScope Ze ["_law_sack", "_law_lengths"] (defScope OU):=(by walk_at "sc")
abbrev vB:List Str:=["_law_told", "_law_day", "_law_early", "_law_first", "_law_length", "_law_found"]
theorem O0:FnScope vB ["_law_told", "_law_day"] (defScope Zu):=(by walk_at "sc")
abbrev V6:List Str:=["_law_told", "_law_more", "_law_early", "_law_first", "_law_length", "_law_found", "_law_begin", "_law_days", "_law_day", "_law_place"]
theorem Ej:FnScope V6 ["_law_told", "_law_more"] (defScope Od):=(by walk_at "sc")
abbrev jL:List Str:=["_law_sack", "_law_most", "_law_wide", "_law_lengths", "_law_found", "_law_turn", "_law_told", "_law_way", "_law_early", "_law_first", "_law_length", "_law_places", "_law_day", "_law_one"]
theorem wO:FnScope jL ["_law_sack", "_law_most", "_law_wide"] (defScope Tq):=(by walk_at "sc")
abbrev rF:List Str:=["_law_sack", "_law_found", "_law_turn", "_law_way", "_law_day", "_law_more", "_law_told"]
theorem Ir:FnScope rF ["_law_sack"] (defScope YS):=(by walk_at "sc")
abbrev lK:List Str:=["_law_sack", "_law_first", "_law_length", "_law_at", "_law_step", "_law_found", "_law_k", "_law_number", "_law_early", "_law_rests", "_law_place"]
theorem Fi:FnScope lK ["_law_sack"] (defScope S8):=(by walk_at "sc")
abbrev qd:List Str:=["_law_sack", "_law_told", "_law_many", "_law_odd", "_law_found", "_law_known", "_law_turn", "_law_day", "_law_is_odd"]
theorem MY:FnScope qd ["_law_sack", "_law_told", "_law_many", "_law_odd"] (defScope Xi):=(by walk_at "sc")
abbrev jJ:List Str:=["_law_told", "_law_our_notes", "_law_day", "_law_seen"]
theorem SJ:FnScope jJ ["_law_told", "_law_our_notes"] (defScope Tz):=(by walk_at "sc")
abbrev qe:List Str:=["_law_our_sets", "_law_start", "_law_length", "_law_early", "_law_first", "_law_own", "_law_found", "_law_one", "_law_other"]
theorem A8:FnScope qe ["_law_our_sets"] (defScope eqn):=(by walk_at "sc")
abbrev Y6:List Str:=["_law_our_sets", "_law_start", "_law_length", "_law_told", "_law_day"]
theorem J5:FnScope Y6 ["_law_our_sets"] (defScope S2):=(by walk_at "sc")
abbrev nM:List Str:=["_law_rows", "_law_found", "_law_row"]
theorem WH:FnScope nM ["_law_rows"] (defScope WL):=(by walk_at "sc")
abbrev jM:List Str:=["_law_rows", "_law_known", "_law_found", "_law_day", "_law_way", "_law_row"]
theorem M5:FnScope jM ["_law_rows"] (defScope Tn):=(by walk_at "sc")
abbrev Sq:List Str:=["_law_some", "_law_most", "_law_level", "_law_found", "_law_turn", "_law_longer", "_law_choice", "_law_begin", "_law_place"]
theorem yJ:FnScope Sq ["_law_some", "_law_most"] (defScope Ow):=(by walk_at "sc")
abbrev XN:List Str:=["_law_rows", "_law_days", "_law_row", "_law_day"]
theorem OB:FnScope XN ["_law_rows", "_law_days"] (defScope Sv):=(by walk_at "sc")
abbrev eA:List Str:=["_law_rows", "_law_ways", "_law_most", "_law_days", "_law_one"]
theorem MH:FnScope eA ["_law_rows"] (defScope RB):=(by walk_at "sc")
abbrev fS:List Str:=["_law_rows", "_law_worst", "_law_day", "_law_many", "_law_row"]
theorem ME:FnScope fS ["_law_rows"] (defScope RL):=(by walk_at "sc")
abbrev HS:List Str:=["_law_script", "_law_rank", "_law_sack", "_law_way", "_law_our_sets", "_law_rows", "_law_kept", "_law_due", "_law_told", "_law_target", "_law_odd", "_law_many", "_law_our_notes", "_law_fit", "_law_some", "_law_noted", "_law_day", "_law_row", "_law_one"]
theorem rf:FnScope HS ["_law_script"] (defScope yo):=(by walk_at "sc")
set_option genInjectivity false in
set_option genSizeOf false in
structure Tp (K:PySem.W.Frag)(mg:Str->Option Value) where
 WV:Addr
 yL:FuncData
 R3:cO K "always_rises" So WV yL
 gz:mg "always_rises" = some (.ref WV)
 gzv:Addr
 BF:FuncData
 ZM:cO K "is_set" Z5 gzv BF
 Cb:mg "is_set" = some (.ref gzv)
 Zh:Addr
 xn:FuncData
 S6:cO K "need_set" Y0 Zh xn
 mF:mg "need_set" = some (.ref Zh)
 VT:Addr
 A9:FuncData
 VW:cO K "common_divisor" VL VT A9
 jr:mg "common_divisor" = some (.ref VT)
 V3:Addr
 yO:FuncData
 VZ:cO K "common_multiple" VS V3 yO
 iN:mg "common_multiple" = some (.ref V3)
 W4:Addr
 Bb:FuncData
 W8:cO K "prime_parts" XG W4 Bb
 nU:mg "prime_parts" = some (.ref W4)
 WR:Addr
 Av:FuncData
 Wz:cO K "first_numbers" RI WR Av
 kJ:mg "first_numbers" = some (.ref WR)
 Wj:Addr
 Ak:FuncData
 Wi:cO K "comes_again" OE Wj Ak
 nS:mg "comes_again" = some (.ref Wj)
 Ws:Addr
 Bk:FuncData
 WW:cO K "least_length" WU Ws Bk
 mC:mg "least_length" = some (.ref Ws)
 XS:Addr
 yZ:FuncData
 Y8:cO K "least_way" XC XS yZ
 tL:mg "least_way" = some (.ref XS)
 Zo:Addr
 Bs:FuncData
 YI:cO K "least_row" YU Zo Bs
 tK:mg "least_row" = some (.ref Zo)
 WD:Addr
 Ba:FuncData
 WI:cO K "first_of_row" WJ WD Ba
 mh:mg "first_of_row" = some (.ref WD)
 ZR:Addr
 xo:FuncData
 T7:cO K "set_row" Kx ZR xo
 oY:mg "set_row" = some (.ref ZR)
 Zt:Addr
 Ax:FuncData
 Zv:cO K "set_from" OX Zt Ax
 vX:mg "set_from" = some (.ref Zt)
 ZI:Addr
 Bt:FuncData
 Z_:cO K "has_day" ZX ZI Bt
 zp:mg "has_day" = some (.ref ZI)
 YG:Addr
 yU:FuncData
 Te:cO K "least_set" YF YG yU
 jS:mg "least_set" = some (.ref YG)
 WK:Addr
 Bl:FuncData
 Wx:cO K "check_notes" W_ WK Bl
 nR:mg "check_notes" = some (.ref WK)
 XJ:Addr
 Au:FuncData
 Sx:cO K "check_sets" Xb XJ Au
 iM:mg "check_sets" = some (.ref XJ)
 hzl:Addr
 BZ:FuncData
 hqh:cO K "fits" UY hzl BZ
 KO:mg "fits" = some (.ref hzl)
 ZT:Addr
 Bv:FuncData
 Z9:cO K "fitting" Um ZT Bv
 zo:mg "fitting" = some (.ref ZT)
 Wr:Addr
 Bm:FuncData
 Wc:cO K "fitting_sets" RY Wr Bm
 mj:mg "fitting_sets" = some (.ref Wr)
 YX:Addr
 vg:FuncData
 Tf:cO K "unlike_of" Xl YX vg
 jT:mg "unlike_of" = some (.ref YX)
 V5:Addr
 Aq:FuncData
 VI:cO K "days_that_tell" V1 V5 Aq
 jt:mg "days_that_tell" = some (.ref V5)
 YN:Addr
 yW:FuncData
 S7:cO K "partings" OS YN yW
 mG:mg "partings" = some (.ref YN)
 gxm:Addr
 Ft:FuncData
 ZJ:cO K "parted" Z1 gxm Ft
 Cc:mg "parted" = some (.ref gxm)
 WA:Addr
 yI:FuncData
 Wm:cO K "with_one_more" WS WA yI
 kM:mg "with_one_more" = some (.ref WA)
 Wt:Addr
 wR:FuncData
 MB:cO K "fewest_looks" Wq Wt wR
 eB:mg "fewest_looks" = some (.ref Wt)
 Wy:Addr
 Io:FuncData
 Wn:cO K "left_at_worst" V_ Wy Io
 kL:mg "left_at_worst" = some (.ref Wy)
 Zi:Addr
 q_:FuncData
 M6:cO K "next_look" Za Zi q_
 gA:mg "next_look" = some (.ref Zi)
 S5:Addr
 Kf:FuncData
 XF:cO K "_law_di_sack" Xu S5 Kf
 tH:mg "_law_di_sack" = some (.ref S5)
 YE:Addr
 cu:FuncData
 eR:cO K "_law_di_pick" Y7 YE cu
 au:mg "_law_di_pick" = some (.ref YE)
 Wf:Addr
 Aj:FuncData
 Wg:cO K "_law_di_lengths" Wh Wf Aj
 my:mg "_law_di_lengths" = some (.ref Wf)
 Zd:Addr
 yY:FuncData
 YJ:cO K "_law_di_set" OU Zd yY
 vW:mg "_law_di_set" = some (.ref Zd)
 YM:Addr
 vc:FuncData
 Kh:cO K "_law_di_has" Zu YM vc
 eE:mg "_law_di_has" = some (.ref YM)
 VJ:Addr
 yP:FuncData
 VU:cO K "_law_di_otherwise" Od VJ yP
 ju:mg "_law_di_otherwise" = some (.ref VJ)
 Y9:Addr
 yX:FuncData
 Xm:cO K "_law_di_sets" Tq Y9 yX
 tI:mg "_law_di_sets" = some (.ref Y9)
 XT:Addr
 yV:FuncData
 Zj:cO K "_law_di_many" YS XT yV
 tF:mg "_law_di_many" = some (.ref XT)
 Zq:Addr
 yR:FuncData
 Zw:cO K "_law_di_far" S8 Zq yR
 vV:mg "_law_di_far" = some (.ref Zq)
 XM:Addr
 Ao:FuncData
 Xp:cO K "_law_di_notes" Xi XM Ao
 qm:mg "_law_di_notes" = some (.ref XM)
 Zn:Addr
 Ep:FuncData
 YV:cO K "_law_di_fits" Tz Zn Ep
 tE:mg "_law_di_fits" = some (.ref Zn)
 Xe:Addr
 Bw:FuncData
 Xh:cO K "_law_di_round" eqn Xe Bw
 qo:mg "_law_di_round" = some (.ref Xe)
 Zp:Addr
 Az:FuncData
 XD:cO K "_law_di_rows" S2 Zp Az
 tG:mg "_law_di_rows" = some (.ref Zp)
 Xx:Addr
 ve:FuncData
 MW:cO K "_law_di_unlike" WL Xx ve
 dB:mg "_law_di_unlike" = some (.ref Xx)
 Xs:Addr
 AA:FuncData
 Xk:cO K "_law_di_ways" Tn Xs AA
 tJ:mg "_law_di_ways" = some (.ref Xs)
 WZ:Addr
 Am:FuncData
 We:cO K "_law_di_choices" Ow WZ Am
 mq:mg "_law_di_choices" = some (.ref WZ)
 Xd:Addr
 yQ:FuncData
 Xc:cO K "_law_di_tells" Sv Xd yQ
 qp:mg "_law_di_tells" = some (.ref Xd)
 VH:Addr
 w7:FuncData
 VY:cO K "_law_di_first_looks" RB VH w7
 g_:mg "_law_di_first_looks" = some (.ref VH)
 WB:Addr
 yK:FuncData
 Wa:cO K "_law_di_next_day" RL WB yK
 kK:mg "_law_di_next_day" = some (.ref WB)
 A6:Addr
 gM:FuncData
 HR:cO K "law" yo A6 gM
 PB:mg "law" = some (.ref A6)
 yd:mg "zip" = none
 yc:mg "all" = none
 bU:mg "len" = none
 iW:mg "max" = none
 bB:mg "range" = none
 eV:mg "int" = none
 gD:mg "enumerate" = none
 lC:mg "tuple" = none
 mW:mg "sorted" = none
 Jr:mg "min" = none
 jA:mg "repr" = none
 LF:mg "list" = none
 qI:mg "isinstance" = none
 QE:mg "abs" = none
local macro_rules | `(tactic| walk_at "bn1") => `(tactic| exact fun _ _ _ _ _ _ us hl => match us, hl with | [_], _ => rfl)
local macro_rules | `(tactic| walk_at "bn2") => `(tactic| exact fun _ _ _ _ _ _ us hl => match us, hl with | [_, _], _ => rfl)
local macro_rules | `(tactic| walk_at "bn3") => `(tactic| exact fun _ _ _ _ _ _ us hl => match us, hl with | [_, _, _], _ => rfl)
local macro_rules | `(tactic| walk_at "bn4") => `(tactic| exact fun _ _ _ _ _ _ us hl => match us, hl with | [_, _, _, _], _ => rfl)
section
variable {K:PySem.W.Frag}{mg:Str->Option Value}(T:Tp K mg)
theorem Tp.Oo:Binds K T.yL ["numbers"] []:=T.R3.bindsN (by walk_at "bn1")
theorem Tp.TV:Binds K T.BF ["told"] []:=T.ZM.bindsN (by walk_at "bn1")
theorem Tp.O4:Binds K T.xn ["told"] []:=T.S6.bindsN (by walk_at "bn1")
theorem Tp.RG:Binds K T.A9 ["one", "other"] []:=T.VW.bindsN (by walk_at "bn2")
theorem Tp.RD:Binds K T.yO ["one", "other"] []:=T.VZ.bindsN (by walk_at "bn2")
theorem Tp.SD:Binds K T.Bb ["number"] []:=T.W8.bindsN (by walk_at "bn1")
theorem Tp.RJ:Binds K T.Av ["ladder", "many"] []:=T.Wz.bindsN (by walk_at "bn2")
theorem Tp.R4:Binds K T.Ak ["turn", "rise", "length"] []:=T.Wi.bindsN (by walk_at "bn3")
theorem Tp.R9:Binds K T.Bk ["turn", "rise"] []:=T.WW.bindsN (by walk_at "bn2")
theorem Tp.SN:Binds K T.yZ ["ladder"] []:=T.Y8.bindsN (by walk_at "bn1")
theorem Tp.To:Binds K T.Bs ["row"] []:=T.YI.bindsN (by walk_at "bn1")
theorem Tp.RN:Binds K T.Ba ["row", "many"] []:=T.WI.bindsN (by walk_at "bn2")
theorem Tp.Pe:Binds K T.xo ["told"] []:=T.T7.bindsN (by walk_at "bn1")
theorem Tp.TF:Binds K T.Ax ["row"] []:=T.Zv.bindsN (by walk_at "bn1")
theorem Tp.Ug:Binds K T.Bt ["told", "day"] []:=T.Z_.bindsN (by walk_at "bn2")
theorem Tp.O2:Binds K T.yU ["told"] []:=T.Te.bindsN (by walk_at "bn1")
theorem Tp.Ss:Binds K T.Bl ["notes"] []:=T.Wx.bindsN (by walk_at "bn1")
theorem Tp.OF:Binds K T.Au ["sets"] []:=T.Sx.bindsN (by walk_at "bn1")
theorem Tp.UW:Binds K T.BZ ["told", "notes"] []:=T.hqh.bindsN (by walk_at "bn2")
theorem Tp.Ur:Binds K T.Bv ["sets", "notes"] []:=T.Z9.bindsN (by walk_at "bn2")
theorem Tp.Sa:Binds K T.Bm ["sets", "notes"] []:=T.Wc.bindsN (by walk_at "bn2")
theorem Tp.OM:Binds K T.vg ["sets"] []:=T.Tf.bindsN (by walk_at "bn1")
theorem Tp.Sh:Binds K T.Aq ["sets"] []:=T.VI.bindsN (by walk_at "bn1")
theorem Tp.OT:Binds K T.yW ["sets"] []:=T.S7.bindsN (by walk_at "bn1")
theorem Tp.Ub:Binds K T.Ft ["lots", "truths"] []:=T.ZJ.bindsN (by walk_at "bn2")
theorem Tp.Wl:Binds K T.yI ["level", "ways"] []:=T.Wm.bindsN (by walk_at "bn2")
theorem Tp.WY:Binds K T.wR ["sets"] []:=T.MB.bindsN (by walk_at "bn1")
theorem Tp.R7:Binds K T.Io ["truths"] []:=T.Wn.bindsN (by walk_at "bn1")
theorem Tp.OV:Binds K T.q_ ["sets", "notes"] []:=T.M6.bindsN (by walk_at "bn2")
theorem Tp.rX:Binds K T.Kf ["_law_script", "_law_rank"] []:=T.XF.bindsN (by walk_at "bn2")
theorem Tp.eL:Binds K T.cu ["_law_sack", "_law_many"] []:=T.eR.bindsN (by walk_at "bn2")
theorem Tp.Se:Binds K T.Aj ["_law_sack", "_law_wide"] []:=T.Wg.bindsN (by walk_at "bn2")
theorem Tp.TJ:Binds K T.yY ["_law_sack", "_law_lengths"] []:=T.YJ.bindsN (by walk_at "bn2")
theorem Tp.IC:Binds K T.vc ["_law_told", "_law_day"] []:=T.Kh.bindsN (by walk_at "bn2")
theorem Tp.RU:Binds K T.yP ["_law_told", "_law_more"] []:=T.VU.bindsN (by walk_at "bn2")
theorem Tp.Tw:Binds K T.yX ["_law_sack", "_law_most", "_law_wide"] []:=T.Xm.bindsN (by walk_at "bn3")
theorem Tp.Sy:Binds K T.yV ["_law_sack"] []:=T.Zj.bindsN (by walk_at "bn1")
theorem Tp.TH:Binds K T.yR ["_law_sack"] []:=T.Zw.bindsN (by walk_at "bn1")
theorem Tp.Sw:Binds K T.Ao ["_law_sack", "_law_told", "_law_many", "_law_odd"] []:=T.Xp.bindsN (by walk_at "bn4")
theorem Tp.S4:Binds K T.Ep ["_law_told", "_law_our_notes"] []:=T.YV.bindsN (by walk_at "bn2")
theorem Tp.SM:Binds K T.Bw ["_law_our_sets"] []:=T.Xh.bindsN (by walk_at "bn1")
theorem Tp.Tu:Binds K T.Az ["_law_our_sets"] []:=T.XD.bindsN (by walk_at "bn1")
theorem Tp.J4:Binds K T.ve ["_law_rows"] []:=T.MW.bindsN (by walk_at "bn1")
theorem Tp.Th:Binds K T.AA ["_law_rows"] []:=T.Xk.bindsN (by walk_at "bn1")
theorem Tp.RP:Binds K T.Am ["_law_some", "_law_most"] []:=T.We.bindsN (by walk_at "bn2")
theorem Tp.SV:Binds K T.yQ ["_law_rows", "_law_days"] []:=T.Xc.bindsN (by walk_at "bn2")
theorem Tp.Ru:Binds K T.w7 ["_law_rows"] []:=T.VY.bindsN (by walk_at "bn1")
theorem Tp.R8:Binds K T.yK ["_law_rows"] []:=T.Wa.bindsN (by walk_at "bn1")
end
end wJ
namespace wJ
open PySem PySem.Spec PyProof.Rows L2 Pu
section
variable {P:Program}{w:World}{K:PySem.W.Frag}{mg:Str->Option Value}{base:Heap}(T:Tp K mg)
theorem bD {X:Cx}{k m:Nat}{f:Addr}{x:Str}{fd:FuncData}{ps:List Str}{sp:Sp}{e:Expr}{es:List Expr}{t:TA}{p pos:Pos}{st:Stmt}{y:Str}(F:FnOk X.prog X.w X.K X.mg X.base CX0 k f fd ps sp)(hr:Room m X.A)(hm:X.mg x=some (.ref f))(hp:cO X.K y st f fd)(hb:Binds X.K fd ps [])(ha:PA X (e::es) t)(hk:k<=m:=by decide)(hg:Gl X x:=by rfl)(hdb:(x == ("__debug__" : Str))=false:=by decide)(he:starEach (e::es) X.env=(false,eval e X.env)::starEach es X.env:=by rfl)(hpl:(backTo pos (starEach es X.env)).any (·.1)=false:=by rfl):PE X (.Call (.Name x p) (e::es) [] pos) (tCall sp [] E0 t):=pe_call F (hr.mono hk) hg hm hp.kp hb .nil pass0 ha hdb he hpl
abbrev A_:=@pa_cons
abbrev B_:=@pa_nil
abbrev C_:=@pss_cons
abbrev D_:=@pss_one
abbrev E_:=@pg_name
abbrev F_:=@pgs_cons
abbrev G_:=@pgs_nil
abbrev H_:=@ps_set
abbrev I_:=@pe_callB
abbrev J_:=@pe_op
abbrev K_:=@pe_int
abbrev L_:=@ps_ret
abbrev M_:=@pe_lst
abbrev N_:=@pe_tup
abbrev O_:=@pe_ix
abbrev Q_:=@ps_if
abbrev R_:=@pss_nil
abbrev S_:=@pe_cmpR
theorem f_:FnOk P w K mg base CX0 1 T.WV T.yL ["numbers"] (bE Sl):=by
 refine bN T.R3 Sj rfl rfl λcdv A outer s H E hr=>⟨_,D_ (L_ (I_ (cr_all rfl) (by rfl) T.yc (by decide +kernel) (A_ (jO (SG.tup (jK (aT 1) (jK (aT 2) (c9.nil)))) (cT) (qw (hjl 1) (hjl 2)) [("one",1),("other",2)] rfl Sj.nd (pi_zip (by rfl) T.yd (A_ (pv 0) (A_ (pe_slice sl_list (pv 0) (po_some (K_)) (po_none)) (B_)))) (blkOk_by (N:=gq) (sc:=defScope So) (by decide +kernel)) (λ_ _ _ _ _=>⟨_,pg_tup rfl (F_ (E_ (i:=1) Sj.nd rfl (.inl rfl)) (F_ (E_ (i:=2) Sj.nd rfl (.inl rfl)) (G_))),rfl⟩) (λ_ _ _ _ _=>⟨_,pts_nil,rfl⟩) (λ_ _ _ _ _=>⟨_,S_ op_lt (pv 1) (pv 2) (nomark _),rfl⟩)) (B_)))),?_⟩
 kernel_rfl
theorem zZ:FnOk P w K mg base CX0 2 T.gzv T.BF ["told"] (bE gzm):=by
 refine bN T.ZM Pa rfl rfl λcdv A outer s H E hr=>⟨_,C_ (ps_asg (pv 0) (pg_tup rfl (F_ (E_ (i:=1) Pa.nd rfl (.inl rfl)) (F_ (E_ (i:=2) Pa.nd rfl (.inl rfl)) (F_ (E_ (i:=3) Pa.nd rfl (.inl rfl)) (F_ (E_ (i:=4) Pa.nd rfl (.inl rfl)) (G_))))))) (C_ (Q_ (PW.pt (pw_or (pt_cmpR op_lt (pv 2) (K_) (nomark _)) (pw_or1 (pt_cmpR op_lt (pv 3) (K_) (nomark _))))) (D_ (L_ (pe_bl))) (R_)) (D_ (L_ (pe_and (bD (f_ T) hr T.gz T.R3 T.Oo (A_ (J_ op_cat (J_ op_cat (M_ (A_ (pe_un un_neg (K_)) (B_))) (pv 1)) (M_ (A_ (pv 2) (B_)))) (B_))) (pe_one (bD (f_ T) hr T.gz T.R3 T.Oo (A_ (J_ op_cat (J_ op_cat (M_ (A_ (pe_un un_neg (K_)) (B_))) (pv 4)) (M_ (A_ (pv 3) (B_)))) (B_)))))))),?_⟩
 kernel_rfl
theorem ki:FnOk P w K mg base CX0 3 T.Zh T.xn ["told"] (bE S9):=by
 refine bN T.S6 uK rfl rfl λcdv A outer s H E hr=>⟨_,D_ (Q_ (pt_not (pt_val (bD (zZ T) hr T.Cb T.ZM T.TV (A_ (pv 0) (B_))))) (D_ (ps_never)) (R_)),?_⟩
 kernel_rfl
theorem iY:FnOk P w K mg base CX0 1 T.VT T.A9 ["one", "other"] (bE V7):=by
 refine bN T.VW eZ rfl rfl λcdv A outer s H E hr=>⟨_,C_ (ps_while PassesOwn.never (pt_cmpR op_gt (pv 1) (K_) (nomark _)) (D_ (ps_par (i:=0) (j:=1) rfl eZ.nd rfl rfl (by decide) rfl rfl (A_ (pv 1) (A_ (J_ op_mod (pv 0) (pv 1)) (B_))) (by rfl)))) (D_ (L_ (pv 0))),?_⟩
 kernel_rfl
theorem iu:FnOk P w K mg base CX0 2 T.V3 T.yO ["one", "other"] (bE VR):=by
 refine bN T.VZ iy rfl rfl λcdv A outer s H E hr=>⟨_,D_ (L_ (J_ op_fdivW (J_ op_mul (pv 0) (pv 1)) (bD (iY T) hr T.jr T.VW T.RG (A_ (pv 0) (A_ (pv 1) (B_)))))),?_⟩
 kernel_rfl
theorem m7:FnOk P w K mg base CX0 1 T.W4 T.Bb ["number"] (bE XI):=by
 refine bN T.W8 Oz rfl rfl λcdv A outer s H E hr=>⟨_,C_ (H_ (i:=1) Oz.nd rfl (.inl rfl) (M_ (B_))) (C_ (ps_par (i:=2) (j:=3) rfl Oz.nd rfl rfl (by decide) rfl rfl (A_ (pv 0) (A_ (K_) (B_))) (by rfl)) (C_ (ps_while PassesOwn.never (pt_cmpR op_gt (pv 2) (K_) (nomark _)) (C_ (Q_ (pt_cmpR (op_eqD hr.units) (J_ op_mod (pv 2) (pv 3)) (K_) (nomark _)) (C_ (ps_expr (pe_bm PySem.F.plainAttrs_list PySem.F.slot_list_append PySem.F.type_list_append mt_append (pv 1) (A_ (pv 3) B_))) (D_ (ps_while PassesOwn.never (pt_cmpR (op_eqD hr.units) (J_ op_mod (pv 2) (pv 3)) (K_) (nomark _)) (D_ (H_ (i:=2) Oz.nd rfl (.inl rfl) (J_ op_fdivW (pv 2) (pv 3))))))) (R_)) (D_ (ps_aug (i:=3) Oz.nd rfl (.inl rfl) (K_) ip_add)))) (D_ (L_ (pv 1))))),?_⟩
 kernel_rfl
theorem jB:FnOk P w K mg base CX0 1 T.WR T.Av ["ladder", "many"] (bE WC):=by
 refine bN T.Wz E4 rfl rfl λcdv A outer s H E hr=>⟨_,C_ (ps_asg (pv 0) (pg_tup rfl (F_ (E_ (i:=2) E4.nd rfl (.inl rfl)) (F_ (E_ (i:=3) E4.nd rfl (.inr rfl)) (F_ (E_ (i:=4) E4.nd rfl (.inr rfl)) (G_)))))) (C_ (H_ (i:=5) E4.nd rfl (.inl rfl) (J_ op_add (J_ op_fdivW (I_ (call_max2 rfl) (by rfl) T.iW (by decide +kernel) (A_ (K_) (A_ (J_ op_sub (pv 1) (I_ call_len (by rfl) T.bU (by decide +kernel) (A_ (pv 2) (B_)))) (B_)))) (I_ call_len (by rfl) T.bU (by decide +kernel) (A_ (pv 3) (B_)))) (K_))) (C_ (H_ (i:=6) E4.nd rfl (.inl rfl) (J_ op_cat (pv 2) (G7 (aT 7) (cT) (SI.list (hjl 3)) (aT 8) (cT) (fL (hjl 8) (xU (hjl 4) (hjl 7))) [("lap",7),("number",8)] [8] rfl E4.nd (pi_range1 (by rfl) T.bB (A_ (pv 5) (B_))) (blkOk_by (N:=fR) (sc:=defScope RI) (by decide +kernel)) (by decide) (λ_ _ _ _ _=>⟨_,E_ (i:=7) E4.nd rfl (.inl rfl),rfl⟩) (λ_ _ _ _ _=>⟨_,pts_nil,rfl⟩) (λ_ _ _ _ _=>⟨_,pi_list (pv 3),rfl⟩) (λ_ _ _ _ _=>⟨_,E_ (i:=8) E4.nd rfl (.inl rfl),rfl⟩) (λ_ _ _ _ _=>⟨_,pts_nil,rfl⟩) (λ_ _ _ _ _=>⟨_,J_ op_add (pv 8) (J_ op_mul (pv 4) (pv 7)),rfl⟩)))) (D_ (L_ (pe_slice sl_list (pv 6) (po_none) (po_some (pv 1))))))),?_⟩
 kernel_rfl
theorem m6:FnOk P w K mg base CX0 1 T.Wj T.Ak ["turn", "rise", "length"] (bE W3):=by
 refine bN T.Wi Iu rfl rfl λcdv A outer s H E hr=>⟨_,C_ (H_ (i:=3) Iu.nd rfl (.inr rfl) (J_ op_fdivW (I_ call_len (by rfl) T.bU (by decide +kernel) (A_ (pv 0) (B_))) (pv 2))) (C_ (Q_ (pt_cmpR (op_neD hr.units) (J_ op_mod (pv 1) (pv 3)) (K_) (nomark _)) (D_ (L_ (pe_bl))) (R_)) (C_ (H_ (i:=4) Iu.nd rfl (.inl rfl) (J_ op_cat (pe_slice sl_list (pv 0) (po_some (pv 2)) (po_none)) (jO (aT 5) (cT) (fL (hjl 5) (hjl 1)) [("number",5)] rfl Iu.nd (pi_list (pe_slice sl_list (pv 0) (po_none) (po_some (pv 2)))) (blkOk_by (N:=Ww) (sc:=defScope OE) (by decide +kernel)) (λ_ _ _ _ _=>⟨_,E_ (i:=5) Iu.nd rfl (.inl rfl),rfl⟩) (λ_ _ _ _ _=>⟨_,pts_nil,rfl⟩) (λ_ _ _ _ _=>⟨_,J_ op_add (pv 5) (pv 1),rfl⟩)))) (D_ (L_ (I_ (cr_all rfl) (by rfl) T.yc (by decide +kernel) (A_ (jO (SG.tup (jK (aT 5) (jK (aT 6) (c9.nil)))) (cT) (fX (fL (hjl 5) (vp (hjl 1) (hjl 3))) (hjl 6)) [("number",5),("more",6)] rfl Iu.nd (pi_zip (by rfl) T.yd (A_ (pv 0) (A_ (pv 4) (B_)))) (blkOk_by (N:=Ww) (sc:=defScope OE) (by decide +kernel)) (λ_ _ _ _ _=>⟨_,pg_tup rfl (F_ (E_ (i:=5) Iu.nd rfl (.inl rfl)) (F_ (E_ (i:=6) Iu.nd rfl (.inl rfl)) (G_))),rfl⟩) (λ_ _ _ _ _=>⟨_,pts_nil,rfl⟩) (λ_ _ _ _ _=>⟨_,S_ (op_eqD hr.units) (J_ op_add (pv 5) (J_ op_fdivW (pv 1) (pv 3))) (pv 6) (nomark _),rfl⟩)) (B_))))))),?_⟩
 kernel_rfl
theorem k7:FnOk P w K mg base CX0 2 T.Ws T.Bk ["turn", "rise"] (bE Wb):=by
 refine bN T.WW R6 rfl rfl λcdv A outer s H E hr=>⟨_,C_ (H_ (i:=2) R6.nd rfl (.inl rfl) (I_ call_len (by rfl) T.bU (by decide +kernel) (A_ (pv 0) (B_)))) (C_ (ps_for PassesOwn.never rfl (pi_list (bD (m7 T) hr T.nU T.W8 T.SD (A_ (pv 2) (B_)))) (E_ (i:=3) R6.nd rfl (.inl rfl)) (D_ (ps_while PassesOwn.never (PW.pt (pw_and (pt_cmpR (op_eqD hr.units) (J_ op_mod (pv 2) (pv 3)) (K_) (nomark _)) (pw_and1 (pt_val (bD (m6 T) hr T.nS T.Wi T.R4 (A_ (pv 0) (A_ (pv 1) (A_ (J_ op_fdivW (pv 2) (pv 3)) (B_))))))))) (D_ (H_ (i:=2) R6.nd rfl (.inl rfl) (J_ op_fdivW (pv 2) (pv 3))))))) (D_ (L_ (pv 2)))),?_⟩
 kernel_rfl
theorem qR:FnOk P w K mg base CX0 3 T.XS T.yZ ["ladder"] (bE YW):=by
 refine bN T.Y8 Im rfl rfl λcdv A outer s H E hr=>⟨_,C_ (ps_asg (pv 0) (pg_tup rfl (F_ (E_ (i:=1) Im.nd rfl (.inl rfl)) (F_ (E_ (i:=2) Im.nd rfl (.inl rfl)) (F_ (E_ (i:=3) Im.nd rfl (.inl rfl)) (G_)))))) (C_ (H_ (i:=4) Im.nd rfl (.inl rfl) (bD (k7 T) hr T.mC T.WW T.R9 (A_ (pv 2) (A_ (pv 3) (B_))))) (C_ (H_ (i:=5) Im.nd rfl (.inl rfl) (J_ op_fdivW (J_ op_mul (pv 3) (pv 4)) (I_ call_len (by rfl) T.bU (by decide +kernel) (A_ (pv 2) (B_))))) (C_ (ps_par (i:=6) (j:=7) rfl Im.nd rfl rfl (by decide) rfl rfl (A_ (J_ op_cat (pv 1) (pe_slice sl_list (pv 2) (po_none) (po_some (pv 4)))) (A_ (I_ call_len (by rfl) T.bU (by decide +kernel) (A_ (pv 1) (B_))) (B_))) (by rfl)) (C_ (ps_while PassesOwn.never (PW.pt (pw_and (pt_cmpR op_gt (pv 7) (K_) (nomark _)) (pw_and1 (pt_cmpR (op_eqD hr.units) (J_ op_add (O_ ix_seq (pv 6) (J_ op_sub (pv 7) (K_)) (λ_ _=>rfl)) (pv 5)) (O_ ix_seq (pv 6) (J_ op_add (J_ op_sub (pv 7) (K_)) (pv 4)) (λ_ _=>rfl)) (nomark _))))) (D_ (ps_aug (i:=7) Im.nd rfl (.inl rfl) (K_) ip_sub))) (D_ (L_ (N_ (A_ (pe_slice sl_list (pv 6) (po_none) (po_some (pv 7))) (A_ (pe_slice sl_list (pv 6) (po_some (pv 7)) (po_some (J_ op_add (pv 7) (pv 4)))) (A_ (pv 5) (B_))))))))))),?_⟩
 kernel_rfl
theorem qQ:FnOk P w K mg base CX0 4 T.Zo T.Bs ["row"] (bE YD):=by
 refine bN T.YI XO rfl rfl λcdv A outer s H E hr=>⟨_,C_ (ps_asg (pv 0) (pg_tup rfl (F_ (E_ (i:=1) XO.nd rfl (.inl rfl)) (F_ (E_ (i:=2) XO.nd rfl (.inl rfl)) (G_))))) (D_ (L_ (pe_slice sl_tupA (bD (qR T) hr T.tL T.Y8 T.SN (A_ (N_ (A_ (pv 1) (A_ (pv 2) (A_ (K_) (B_))))) (B_))) (po_none) (po_some (K_))))),?_⟩
 kernel_rfl
theorem kW:FnOk P w K mg base CX0 2 T.WD T.Ba ["row", "many"] (bE RX):=by
 refine bN T.WI lg rfl rfl λcdv A outer s H E hr=>⟨_,D_ (L_ (bD (jB T) hr T.kJ T.Wz T.RJ (A_ (N_ (A_ (O_ ix_seq (pv 0) (K_) (λ_ _=>rfl)) (A_ (O_ ix_seq (pv 0) (K_) (λ_ _=>rfl)) (A_ (K_) (B_))))) (A_ (pv 1) (B_))))),?_⟩
 kernel_rfl
theorem m8:FnOk P w K mg base CX0 1 T.ZR T.xo ["told"] (bE Pf):=by
 refine bN T.T7 vG rfl rfl λcdv A outer s H E hr=>⟨_,C_ (ps_asg (pv 0) (pg_tup rfl (F_ (E_ (i:=1) vG.nd rfl (.inl rfl)) (F_ (E_ (i:=2) vG.nd rfl (.inl rfl)) (F_ (E_ (i:=3) vG.nd rfl (.inl rfl)) (F_ (E_ (i:=4) vG.nd rfl (.inl rfl)) (G_))))))) (C_ (ps_asg (N_ (A_ (Dr (aT 7) (cT) (hjl 7) (SE.bool true) [("day",7)] rfl vG.nd (pi_list (pv 1)) (blkOk_by (N:=exm) (sc:=defScope Kx) (by decide +kernel)) (λ_ _ _ _ _=>⟨_,E_ (i:=7) vG.nd rfl (.inl rfl),rfl⟩) (λ_ _ _ _ _=>⟨_,pts_nil,rfl⟩) (λ_ _ _ _ _=>⟨_,pv 7,rfl⟩) (λ_ _ _ _ _=>⟨_,pe_bl,rfl⟩)) (A_ (Dr (aT 8) (cT) (hjl 8) (SE.bool true) [("place",8)] rfl vG.nd (pi_list (pv 4)) (blkOk_by (N:=exm) (sc:=defScope Kx) (by decide +kernel)) (λ_ _ _ _ _=>⟨_,E_ (i:=8) vG.nd rfl (.inl rfl),rfl⟩) (λ_ _ _ _ _=>⟨_,pts_nil,rfl⟩) (λ_ _ _ _ _=>⟨_,pv 8,rfl⟩) (λ_ _ _ _ _=>⟨_,pe_bl,rfl⟩)) (B_)))) (pg_tup rfl (F_ (E_ (i:=5) vG.nd rfl (.inr rfl)) (F_ (E_ (i:=6) vG.nd rfl (.inr rfl)) (G_))))) (D_ (L_ (N_ (A_ (jO (aT 7) (cT) (oZ (NT 5 (hjl 7))) [("day",7)] rfl vG.nd (pi_range1 (by rfl) T.bB (A_ (pv 2) (B_))) (blkOk_by (N:=exm) (sc:=defScope Kx) (by decide +kernel)) (λ_ _ _ _ _=>⟨_,E_ (i:=7) vG.nd rfl (.inl rfl),rfl⟩) (λ_ _ _ _ _=>⟨_,pts_nil,rfl⟩) (λ_ _ _ _ _=>⟨_,pe_callTy call_int1 (by rfl) T.eV (by decide +kernel) (A_ (pe_cmp (pc_din (hu_of hr) (pv 7) (pv 5))) (B_)),rfl⟩)) (A_ (jO (aT 8) (cT) (oZ (NT 6 (hjl 8))) [("place",8)] rfl vG.nd (pi_range1 (by rfl) T.bB (A_ (pv 3) (B_))) (blkOk_by (N:=exm) (sc:=defScope Kx) (by decide +kernel)) (λ_ _ _ _ _=>⟨_,E_ (i:=8) vG.nd rfl (.inl rfl),rfl⟩) (λ_ _ _ _ _=>⟨_,pts_nil,rfl⟩) (λ_ _ _ _ _=>⟨_,pe_callTy call_int1 (by rfl) T.eV (by decide +kernel) (A_ (pe_cmp (pc_din (hu_of hr) (pv 8) (pv 6))) (B_)),rfl⟩)) (B_))))))),?_⟩
 kernel_rfl
theorem uy:FnOk P w K mg base CX0 5 T.Zt T.Ax ["row"] (bE Y4):=by
 refine bN T.Zv E8 rfl rfl λcdv A outer s H E hr=>⟨_,C_ (ps_asg (bD (qQ T) hr T.tK T.YI T.To (A_ (pv 0) (B_))) (pg_tup rfl (F_ (E_ (i:=1) E8.nd rfl (.inl rfl)) (F_ (E_ (i:=2) E8.nd rfl (.inl rfl)) (G_))))) (C_ (Ue (i:=3) (SG.tup (jK (aT 4) (jK (aT 5) (c9.nil)))) (ST.ab (fX (hjl 5) (SE.ab 1))) (hjl 4) [("day",4),("bit",5)] rfl E8.nd rfl rfl (sw_true rfl rfl rfl (by decide +kernel)) (pi_enum (by rfl) T.gD (A_ (pv 1) (B_))) (blkOk_by (N:=Zg) (sc:=defScope OX) (by decide +kernel)) (λ_ _ _ _ _=>⟨_,pg_tup rfl (F_ (E_ (i:=4) E8.nd rfl (.inl rfl)) (F_ (E_ (i:=5) E8.nd rfl (.inl rfl)) (G_))),rfl⟩) (λ_ _ _ _ _=>⟨_,pts_one (pt_cmpR (op_eqD hr.units) (pv 5) (K_) (nomark _)),rfl⟩) (λ_ _ _ _ _=>⟨_,pv 4,rfl⟩)) (D_ (L_ (N_ (A_ (pv 3) (A_ (I_ call_len (by rfl) T.bU (by decide +kernel) (A_ (pv 1) (B_))) (A_ (I_ call_len (by rfl) T.bU (by decide +kernel) (A_ (pv 2) (B_))) (A_ (jO (SG.tup (jK (aT 6) (jK (aT 5) (c9.nil)))) (ST.ab (fX (hjl 5) (SE.ab 1))) (hjl 6) [("place",6),("bit",5)] rfl E8.nd (pi_enum (by rfl) T.gD (A_ (pv 2) (B_))) (blkOk_by (N:=Zg) (sc:=defScope OX) (by decide +kernel)) (λ_ _ _ _ _=>⟨_,pg_tup rfl (F_ (E_ (i:=6) E8.nd rfl (.inl rfl)) (F_ (E_ (i:=5) E8.nd rfl (.inl rfl)) (G_))),rfl⟩) (λ_ _ _ _ _=>⟨_,pts_one (pt_cmpR (op_eqD hr.units) (pv 5) (K_) (nomark _)),rfl⟩) (λ_ _ _ _ _=>⟨_,pv 6,rfl⟩)) (B_))))))))),?_⟩
 kernel_rfl
theorem wA:FnOk P w K mg base CX0 1 T.ZI T.Bt ["told", "day"] (bE Uo):=by
 refine bN T.Z_ OY rfl rfl λcdv A outer s H E hr=>⟨_,C_ (ps_asg (pv 0) (pg_tup rfl (F_ (E_ (i:=2) OY.nd rfl (.inl rfl)) (F_ (E_ (i:=3) OY.nd rfl (.inl rfl)) (F_ (E_ (i:=4) OY.nd rfl (.inl rfl)) (F_ (E_ (i:=5) OY.nd rfl (.inl rfl)) (G_))))))) (C_ (Q_ (pt_cmpR op_lt (pv 1) (pv 3) (nomark _)) (D_ (L_ (S_ op_in_seq (pv 1) (pv 2) (by rfl)))) (R_)) (D_ (L_ (S_ op_in_seq (J_ op_mod (J_ op_sub (pv 1) (pv 3)) (pv 4)) (pv 5) (by rfl))))),?_⟩
 kernel_rfl
theorem i8:FnOk P w K mg base CX0 6 T.YG T.yU ["told"] (bE OW):=by
 refine bN T.Te qU rfl rfl λcdv A outer s H E hr=>⟨_,C_ (ps_expr (bD (ki T) hr T.mF T.S6 T.O4 (A_ (pv 0) (B_)))) (D_ (L_ (bD (uy T) hr T.vX T.Zv T.TF (A_ (bD (m8 T) hr T.oY T.T7 T.Pe (A_ (pv 0) (B_))) (B_))))),?_⟩
 kernel_rfl
theorem m5:FnOk P w K mg base CX0 1 T.WK T.Bl ["notes"] (bE Xa):=by
 refine bN T.Wx RW rfl rfl λcdv A outer s H E hr=>⟨_,C_ (H_ (i:=1) RW.nd rfl (.inl rfl) pe_dnewK) (D_ (ps_for PassesOwn.never rfl (pi_list (pv 0)) (pg_tup rfl (F_ (E_ (i:=2) RW.nd rfl (.inl rfl)) (F_ (E_ (i:=3) RW.nd rfl (.inl rfl)) (G_)))) (C_ (Q_ (PW.pt (pw_or (pt_cmpR op_lt (pv 2) (K_) (nomark _)) (pw_or1 (pt_cmpR (op_neD hr.units) (pe_dget2 (hu_of hr) (pv 1) (pv 2) (pv 3) ⟨rfl,rfl,rfl,rfl⟩) (pv 3) (nomark _))))) (D_ (ps_never)) (R_)) (D_ (ps_dput (hu_of hr) (pv 1) (pv 2) (pv 3) rfl))))),?_⟩
 kernel_rfl
theorem gX:FnOk P w K mg base CX0 4 T.XJ T.Au ["sets"] (bE Oq):=by
 refine bN T.Sx gY rfl rfl λcdv A outer s H E hr=>⟨_,D_ (ps_for PassesOwn.never rfl (pi_list (pv 0)) (E_ (i:=1) gY.nd rfl (.inl rfl)) (D_ (ps_expr (bD (ki T) hr T.mF T.S6 T.O4 (A_ (pv 1) (B_)))))),?_⟩
 kernel_rfl
theorem G5:FnOk P w K mg base CX0 2 T.hzl T.BZ ["told", "notes"] (bE UX):=by
 refine bN T.hqh UH rfl rfl λcdv A outer s H E hr=>⟨_,D_ (L_ (I_ (cr_all rfl) (by rfl) T.yc (by decide +kernel) (A_ (jO (SG.tup (jK (aT 2) (jK (aT 3) (c9.nil)))) (cT) (fX (SE.ac Uo (cK (hjl 0) (cK (hjl 2) (dK)))) (hjl 3)) [("day",2),("seen",3)] rfl UH.nd (pi_list (pv 1)) (blkOk_by (N:=AX) (sc:=defScope UY) (by decide +kernel)) (λ_ _ _ _ _=>⟨_,pg_tup rfl (F_ (E_ (i:=2) UH.nd rfl (.inl rfl)) (F_ (E_ (i:=3) UH.nd rfl (.inl rfl)) (G_))),rfl⟩) (λ_ _ _ _ _=>⟨_,pts_nil,rfl⟩) (λ_ _ _ _ _=>⟨_,S_ (op_eqD hr.units) (bD (wA T) hr T.zp T.Z_ T.Ug (A_ (pv 0) (A_ (pv 2) (B_)))) (pv 3) (nomark _),rfl⟩)) (B_)))),?_⟩
 kernel_rfl
theorem wz:FnOk P w K mg base CX0 5 T.ZT T.Bv ["sets", "notes"] (bE gzj):=by
 refine bN T.Z9 Tt rfl rfl λcdv A outer s H E hr=>⟨_,C_ (ps_expr (bD (gX T) hr T.iM T.Sx T.OF (A_ (pv 0) (B_)))) (C_ (ps_expr (bD (m5 T) hr T.nR T.Wx T.Ss (A_ (pv 1) (B_)))) (D_ (L_ (jO (SG.tup (jK (aT 2) (jK (aT 3) (c9.nil)))) (ST.ab (SE.ac UX (cK (hjl 3) (cK (hjl 1) (dK))))) (hjl 2) [("index",2),("told",3)] rfl Tt.nd (pi_enum (by rfl) T.gD (A_ (pv 0) (B_))) (blkOk_by (N:=oq) (sc:=defScope Um) (by decide +kernel)) (λ_ _ _ _ _=>⟨_,pg_tup rfl (F_ (E_ (i:=2) Tt.nd rfl (.inl rfl)) (F_ (E_ (i:=3) Tt.nd rfl (.inl rfl)) (G_))),rfl⟩) (λ_ _ _ _ _=>⟨_,pts_one (pt_val (bD (G5 T) hr T.KO T.hqh T.UW (A_ (pv 3) (A_ (pv 1) (B_))))),rfl⟩) (λ_ _ _ _ _=>⟨_,pv 2,rfl⟩))))),?_⟩
 kernel_rfl
theorem kX:FnOk P w K mg base CX0 7 T.Wr T.Bm ["sets", "notes"] (bE WG):=by
 refine bN T.Wc WQ rfl rfl λcdv A outer s H E hr=>⟨_,D_ (L_ (jO (aT 2) (cT) (SE.ac OW (cK (cW (hjl 0) (hjl 2)) (dK))) [("index",2)] rfl WQ.nd (pi_list (bD (wz T) hr T.zo T.Z9 T.Ur (A_ (pv 0) (A_ (pv 1) (B_))))) (blkOk_by (N:=gr) (sc:=defScope RY) (by decide +kernel)) (λ_ _ _ _ _=>⟨_,E_ (i:=2) WQ.nd rfl (.inl rfl),rfl⟩) (λ_ _ _ _ _=>⟨_,pts_nil,rfl⟩) (λ_ _ _ _ _=>⟨_,bD (i8 T) hr T.jS T.Te T.O2 (A_ (O_ ix_seq (pv 0) (pv 2) (λ_ _=>rfl)) (B_)),rfl⟩))),?_⟩
 kernel_rfl
theorem i9:FnOk P w K mg base CX0 7 T.YX T.vg ["sets"] (bE O3):=by
 refine bN T.Tf SY rfl rfl λcdv A outer s H E hr=>⟨_,C_ (H_ (i:=1) SY.nd rfl (.inl rfl) (M_ (B_))) (C_ (ps_for PassesOwn.never rfl (pi_list (pv 0)) (E_ (i:=2) SY.nd rfl (.inl rfl)) (C_ (H_ (i:=3) SY.nd rfl (.inl rfl) (bD (i8 T) hr T.jS T.Te T.O2 (A_ (pv 2) (B_)))) (D_ (Q_ (pt_cmpR (op_notInD (vJ hr)) (pv 3) (pv 1) (by rfl)) (D_ (ps_expr (pe_bm PySem.F.plainAttrs_list PySem.F.slot_list_append PySem.F.type_list_append mt_append (pv 1) (A_ (pv 3) B_)))) (R_))))) (D_ (L_ (pv 1)))),?_⟩
 kernel_rfl
theorem iZ:FnOk P w K mg base CX0 3 T.V5 T.Aq ["sets"] (bE V4):=by
 refine bN T.VI MP rfl rfl λcdv A outer s H E hr=>⟨_,C_ (ps_asg (N_ (A_ (K_) (A_ (K_) (B_)))) (pg_tup rfl (F_ (E_ (i:=1) MP.nd rfl (.inl rfl)) (F_ (E_ (i:=2) MP.nd rfl (.inl rfl)) (G_))))) (C_ (ps_for PassesOwn.never rfl (pi_list (pv 0)) (E_ (i:=3) MP.nd rfl (.inl rfl)) (C_ (H_ (i:=1) MP.nd rfl (.inl rfl) (I_ (call_max2 rfl) (by rfl) T.iW (by decide +kernel) (A_ (pv 1) (A_ (O_ ix_seq (pv 3) (K_) (λ_ _=>rfl)) (B_))))) (D_ (H_ (i:=2) MP.nd rfl (.inl rfl) (bD (iu T) hr T.iN T.VZ T.RD (A_ (pv 2) (A_ (O_ ix_seq (pv 3) (K_) (λ_ _=>rfl)) (B_)))))))) (D_ (L_ (J_ op_add (pv 1) (pv 2))))),?_⟩
 kernel_rfl
theorem kq:FnOk P w K mg base CX0 4 T.YN T.yW ["sets"] (bE OO):=by
 refine bN T.S7 En rfl rfl λcdv A outer s H E hr=>⟨_,C_ (H_ (i:=1) En.nd rfl (.inr rfl) (bD (iZ T) hr T.jt T.VI T.Sh (A_ (pv 0) (B_)))) (C_ (H_ (i:=2) En.nd rfl (.inr rfl) (jO (aT 7) (cT) (SE.ac RX (cK (SE.ac Pf (cK (hjl 7) (dK))) (cK (hjl 1) (dK)))) [("told",7)] rfl En.nd (pi_list (pv 0)) (blkOk_by (N:=YK) (sc:=defScope OS) (by decide +kernel)) (λ_ _ _ _ _=>⟨_,E_ (i:=7) En.nd rfl (.inl rfl),rfl⟩) (λ_ _ _ _ _=>⟨_,pts_nil,rfl⟩) (λ_ _ _ _ _=>⟨_,bD (kW T) hr T.mh T.WI T.RN (A_ (bD (m8 T) hr T.oY T.T7 T.Pe (A_ (pv 7) (B_))) (A_ (pv 1) (B_))),rfl⟩))) (C_ (ps_par (i:=3) (j:=4) rfl En.nd rfl rfl (by decide) rfl rfl (A_ (TY) (A_ (M_ B_) (B_))) (by rfl)) (C_ (ps_for PassesOwn.never rfl (pi_range1 (by rfl) T.bB (A_ (pv 1) (B_))) (E_ (i:=5) En.nd rfl (.inr rfl)) (C_ (H_ (i:=6) En.nd rfl (.inl rfl) (pN (by rfl) T.lC (jO (aT 8) (cT) (fX (cW (hjl 8) (hjl 5)) (cW (cW (hjl 2) (SE.ab 0)) (hjl 5))) [("row",8)] rfl En.nd (pi_list (pv 2)) (blkOk_by (N:=YK) (sc:=defScope OS) (by decide +kernel)) (λ_ _ _ _ _=>⟨_,E_ (i:=8) En.nd rfl (.inl rfl),rfl⟩) (λ_ _ _ _ _=>⟨_,pts_nil,rfl⟩) (λ_ _ _ _ _=>⟨_,S_ (op_eqD hr.units) (O_ ix_seq (pv 8) (pv 5) (λ_ _=>rfl)) (O_ ix_seq (O_ ix_seq (pv 2) (K_) (λ_ _=>rfl)) (pv 5) (λ_ _=>rfl)) (nomark _),rfl⟩)))) (D_ (Q_ (PW.pt (pw_and (pt_not (pt_val (I_ (Fw rfl) (by rfl) T.yc (by decide +kernel) (A_ (pv 6) (B_))))) (pw_and1 (PF (OZ (vJ hr) (pv 6) (pv 3)))))) (C_ (Us (vJ hr) (pv 3) (pv 6) (pv 5) rfl) (D_ (ps_expr (pe_bm PySem.F.plainAttrs_list PySem.F.slot_list_append PySem.F.type_list_append mt_append (pv 4) (A_ (N_ (A_ (pv 5) (A_ (pv 6) (B_)))) B_))))) (R_))))) (D_ (L_ (pv 4)))))),?_⟩
 kernel_rfl
theorem z5:FnOk P w K mg base CX0 1 T.gxm T.Ft ["lots", "truths"] (bE Uk):=by
 refine bN T.ZJ T8 rfl rfl λcdv A outer s H E hr=>⟨_,C_ (ps_par (i:=2) (j:=3) rfl T8.nd rfl rfl (by decide) rfl rfl (A_ (TY) (A_ (M_ B_) (B_))) (by rfl)) (C_ (ps_for PassesOwn.never rfl (RZ.pi_zipA (by rfl) T.yd (A_ (pv 0) (A_ (pv 1) (B_)))) (pg_tup rfl (F_ (E_ (i:=4) T8.nd rfl (.inl rfl)) (F_ (E_ (i:=5) T8.nd rfl (.inl rfl)) (G_)))) (C_ (Q_ (PF (OZ (vJ hr) (N_ (A_ (pv 4) (A_ (pv 5) (B_)))) (pv 2))) (D_ (Us (vJ hr) (pv 2) (N_ (A_ (pv 4) (A_ (pv 5) (B_)))) (I_ za (by rfl) T.bU (by decide +kernel) (A_ (pv 2) (B_))) rfl)) (R_)) (D_ (ps_expr (pe_bm PySem.F.plainAttrs_list PySem.F.slot_list_append PySem.F.type_list_append mt_append (pv 3) (A_ (gxr (vJ hr) (pv 2) (N_ (A_ (pv 4) (A_ (pv 5) (B_)))) (λ_ _=>rfl)) B_)))))) (D_ (L_ (pe_tupleOf (by rfl) T.lC (pv 3))))),?_⟩
 kernel_rfl
theorem jE:FnOk P w K mg base CX0 2 T.WA T.yI ["level", "ways"] (Af 2 7 2 Oc):=by
 refine aqV T.Wm Ii rfl rfl λcdv A outer s H E hr=>⟨_,C_ (H_ (i:=2) Ii.nd rfl (.inl rfl) (TY)) (C_ (LR (ps_for PassesOwn.never rfl (z7 (pv 0)) (pg_tup rfl (F_ (E_ (i:=3) Ii.nd rfl (.inl rfl)) (F_ (E_ (i:=4) Ii.nd rfl (.inl rfl)) (G_)))) (D_ (ps_for PassesOwn.never rfl (pi_list (pv 1)) (pg_tup rfl (F_ (E_ (i:=5) Ii.nd rfl (.inl rfl)) (F_ (E_ (i:=6) Ii.nd rfl (.inl rfl)) (G_)))) (C_ (H_ (i:=7) Ii.nd rfl (.inl rfl) (bD (z5 T) hr T.Cc T.ZJ T.Ub (A_ (pv 3) (A_ (pv 6) (B_))))) (D_ (Q_ (pt_cmpR (op_neD hr.units) (pv 7) (pv 3) (nomark _)) (C_ (H_ (i:=8) Ii.nd rfl (.inl rfl) (I_ cr_sortedI (by rfl) T.mW (by decide +kernel) (A_ (M_ (StX.pa_star (pv 4) (A_ (pv 5) (B_)))) (B_)))) (D_ (Q_ (PW.pt (pw_or (PF (OZ (vJ hr) (pv 7) (pv 2))) (pw_or1 (pt_cmpR (G6 (Kbv (Nat.le_add_right _ _) hr.units)) (pv 8) (gxr (vJ hr) (pv 2) (pv 7) (λ_ _=>rfl)) (nomark _))))) (D_ (Us (vJ hr) (pv 2) (pv 7) (pv 8) rfl)) (R_)))) (R_)))))))) (D_ (L_ (pv 2)))),?_⟩
 kernel_rfl
theorem WT:FnOk P w K mg base CX0 8 T.Wt T.wR ["sets"] (bE Of):=by
 refine bN T.MB MT rfl rfl λcdv A outer s H E hr=>⟨_,C_ (ps_expr (bD (gX T) hr T.iM T.Sx T.OF (A_ (pv 0) (B_)))) (C_ (H_ (i:=1) MT.nd rfl (.inl rfl) (bD (i9 T) hr T.jT T.Tf T.OM (A_ (pv 0) (B_)))) (C_ (Q_ (pt_cmpR op_lt (I_ call_len (by rfl) T.bU (by decide +kernel) (A_ (pv 1) (B_))) (K_) (nomark _)) (D_ (L_ (M_ (B_)))) (R_)) (C_ (H_ (i:=2) MT.nd rfl (.inl rfl) (bD (kq T) hr T.mG T.S7 T.OT (A_ (pv 1) (B_)))) (C_ (H_ (i:=3) MT.nd rfl (.inl rfl) (z6 (vJ hr) (J_ op_repT (N_ (A_ (K_) (B_))) (I_ call_len (by rfl) T.bU (by decide +kernel) (A_ (pv 1) (B_)))) (M_ (B_)))) (C_ (H_ (i:=4) MT.nd rfl (.inl rfl) (pe_tupRg rfl (by rfl) T.lC (prg_1 (by rfl) T.bB (I_ call_len (by rfl) T.bU (by decide +kernel) (A_ (pv 1) (B_)))))) (C_ (ps_while PassesOwn.never (PF (OZ (vJ hr) (pv 4) (pv 3))) (D_ (H_ (i:=3) MT.nd rfl (.inl rfl) (bD (jE T) hr T.kM T.Wm T.Wl (A_ (pv 3) (A_ (pv 2) (B_))))))) (D_ (L_ (gxr (vJ hr) (pv 3) (pv 4) (λ_ _=>rfl)))))))))),?_⟩
 kernel_rfl
theorem jD:FnOk P w K mg base CX0 1 T.Wy T.Io ["truths"] (bE Wo):=by
 refine bN T.Wn jG rfl rfl λcdv A outer s H E hr=>⟨_,D_ (L_ (I_ (call_max2 rfl) (by rfl) T.iW (by decide +kernel) (A_ (pM (pv 0) (pe_bl)) (A_ (pM (pv 0) (pe_bl)) (B_))))),?_⟩
 kernel_rfl
theorem Xr:FnOk P w K mg base CX0 8 T.Zi T.q_ ["sets", "notes"] (bE OL):=by
 refine bN T.M6 Ka rfl rfl λcdv A outer s H E hr=>⟨_,C_ (H_ (i:=2) Ka.nd rfl (.inl rfl) (bD (i9 T) hr T.jT T.Tf T.OM (A_ (bD (kX T) hr T.mj T.Wc T.Sa (A_ (pv 0) (A_ (pv 1) (B_)))) (B_)))) (C_ (Q_ (pt_cmpR op_lt (I_ call_len (by rfl) T.bU (by decide +kernel) (A_ (pv 2) (B_))) (K_) (nomark _)) (D_ (L_ (pe_non))) (R_)) (C_ (H_ (i:=3) Ka.nd rfl (.inl rfl) (pe_non)) (C_ (ps_for PassesOwn.never rfl (pi_list (bD (kq T) hr T.mG T.S7 T.OT (A_ (pv 2) (B_)))) (pg_tup rfl (F_ (E_ (i:=4) Ka.nd rfl (.inl rfl)) (F_ (E_ (i:=5) Ka.nd rfl (.inl rfl)) (G_)))) (C_ (H_ (i:=6) Ka.nd rfl (.inl rfl) (bD (jD T) hr T.kL T.Wn T.R7 (A_ (pv 5) (B_)))) (D_ (Q_ (PW.pt (pw_or (pt_cmpR op_isN (pv 3) (pe_non) (nomark _)) (pw_or1 (pt_cmpR op_lt (pv 6) (O_ ix_seq (pv 3) (K_) (λ_ _=>rfl)) (nomark _))))) (D_ (H_ (i:=3) Ka.nd rfl (.inl rfl) (N_ (A_ (pv 6) (A_ (pv 4) (B_)))))) (R_))))) (D_ (L_ (O_ ix_seq (pv 3) (K_) (λ_ _=>rfl))))))),?_⟩
 kernel_rfl
theorem fh:FnOk P w K mg base CX0 1 T.YE T.cu ["_law_sack", "_law_many"] (bE eG):=by
 refine bN T.eR SQ rfl rfl λcdv A outer s H E hr=>⟨_,C_ (Q_ (pt_cmpR op_gt (O_ ix_seq (pv 0) K_ (λ_ _=>rfl)) (K_) (nomark _)) (C_ (H_ (i:=2) SQ.nd rfl (.inl rfl) (J_ op_mod (pe_callTy call_int1 (by rfl) T.eV (by decide +kernel) (A_ (O_ ix_seq (pv 0) K_ (λ_ _=>rfl)) (B_))) (pv 1))) (C_ (ps_asg (J_ op_fdivW (O_ ix_seq (pv 0) K_ (λ_ _=>rfl)) (pv 1)) (pg_sub (pv 0) K_ set_list)) (D_ (L_ (pv 2))))) (R_)) (C_ (ps_asg (J_ op_add (O_ ix_seq (pv 0) K_ (λ_ _=>rfl)) (K_)) (pg_sub (pv 0) K_ set_list)) (C_ (H_ (i:=3) SQ.nd rfl (.inl rfl) (J_ op_mod (pe_callTy call_int1 (by rfl) T.eV (by decide +kernel) (A_ (J_ IX (J_ op_add (O_ ix_seq (pv 0) K_ (λ_ _=>rfl)) (J_ op_mul (K_) (O_ ix_seq (pv 0) K_ (λ_ _=>rfl)))) (K_)) (B_))) (J_ op_add (J_ IX (K_) (K_)) (K_)))) (C_ (H_ (i:=3) SQ.nd rfl (.inl rfl) (J_ op_mod (pe_callTy call_int1 (by rfl) T.eV (by decide +kernel) (A_ (J_ IX (J_ op_add (pv 3) (J_ op_mul (K_) (O_ ix_seq (pv 0) K_ (λ_ _=>rfl)))) (K_)) (B_))) (J_ op_add (J_ IX (K_) (K_)) (K_)))) (D_ (L_ (J_ op_mod (pe_callTy call_int1 (by rfl) T.eV (by decide +kernel) (A_ (J_ op_fdivW (pv 3) (K_)) (B_))) (pv 1))))))),?_⟩
 kernel_rfl
theorem kZ:FnOk P w K mg base CX0 2 T.Wf T.Aj ["_law_sack", "_law_wide"] (bE Wv):=by
 refine bN T.Wg gc rfl rfl λcdv A outer s H E hr=>⟨_,C_ (H_ (i:=2) gc.nd rfl (.inl rfl) (M_ (A_ (M_ (A_ (K_) (A_ (K_) (A_ (K_) (A_ (K_) (B_)))))) (A_ (M_ (A_ (K_) (A_ (K_) (A_ (K_) (A_ (K_) (B_)))))) (A_ (M_ (A_ (K_) (A_ (K_) (A_ (K_) (A_ (K_) (B_)))))) (A_ (M_ (A_ (K_) (A_ (K_) (A_ (K_) (A_ (K_) (B_)))))) (A_ (M_ (A_ (K_) (A_ (K_) (A_ (K_) (A_ (K_) (B_)))))) (A_ (M_ (A_ (K_) (A_ (K_) (A_ (K_) (A_ (K_) (B_)))))) (A_ (M_ (A_ (K_) (A_ (K_) (A_ (K_) (A_ (K_) (B_)))))) (B_)))))))))) (C_ (Q_ (PW.pt (pw_and (pt_val (pv 1)) (pw_and1 (pt_cmpR (op_eqD hr.units) (bD (fh T) hr T.au T.eR T.eL (A_ (pv 0) (A_ (K_) (B_)))) (K_) (nomark _))))) (D_ (L_ (O_ ix_seq (M_ (A_ (M_ (A_ (K_) (A_ (K_) (A_ (K_) (A_ (K_) (B_)))))) (A_ (M_ (A_ (K_) (A_ (K_) (A_ (K_) (A_ (K_) (B_)))))) (A_ (M_ (A_ (K_) (A_ (K_) (A_ (K_) (A_ (K_) (B_)))))) (A_ (M_ (A_ (K_) (A_ (K_) (B_)))) (B_)))))) (bD (fh T) hr T.au T.eR T.eL (A_ (pv 0) (A_ (K_) (B_)))) (λ_ _=>rfl)))) (R_)) (D_ (L_ (O_ ix_seq (pv 2) (bD (fh T) hr T.au T.eR T.eL (A_ (pv 0) (A_ (K_) (B_)))) (λ_ _=>rfl))))),?_⟩
 kernel_rfl
theorem ux:FnOk P w K mg base CX0 2 T.Zd T.yY ["_law_sack", "_law_lengths"] (bE Zf):=by
 refine bN T.YJ Fg rfl rfl λcdv A outer s H E hr=>⟨_,C_ (H_ (i:=2) Fg.nd rfl (.inl rfl) (O_ ix_seq (M_ (A_ (K_) (A_ (bD (fh T) hr T.au T.eR T.eL (A_ (pv 0) (A_ (K_) (B_)))) (A_ (bD (fh T) hr T.au T.eR T.eL (A_ (pv 0) (A_ (K_) (B_)))) (B_))))) (bD (fh T) hr T.au T.eR T.eL (A_ (pv 0) (A_ (K_) (B_)))) (λ_ _=>rfl))) (C_ (H_ (i:=3) Fg.nd rfl (.inl rfl) (O_ ix_seq (pv 1) (bD (fh T) hr T.au T.eR T.eL (A_ (pv 0) (A_ (I_ call_len (by rfl) T.bU (by decide +kernel) (A_ (pv 1) (B_))) (B_)))) (λ_ _=>rfl))) (C_ (Q_ (PW.pt (pw_or (pt_cmpR op_gt (pv 3) (K_) (nomark _)) (pw_or1 (pt_cmpR (op_eqD hr.units) (bD (fh T) hr T.au T.eR T.eL (A_ (pv 0) (A_ (K_) (B_)))) (K_) (nomark _))))) (D_ (H_ (i:=2) Fg.nd rfl (.inl rfl) (bD (fh T) hr T.au T.eR T.eL (A_ (pv 0) (A_ (K_) (B_)))))) (R_)) (C_ (Ue (i:=4) (aT 6) (ST.ab (fX (SE.ac eG (dM 0 (cK (SE.ab 2) (dK)))) (SE.ab 0))) (hjl 6) [("_law_day",6)] rfl Fg.nd rfl rfl (sw_true rfl rfl rfl (by decide +kernel)) (pi_range1 (by rfl) T.bB (A_ (pv 2) (B_))) (blkOk_by (N:=Ze) (sc:=defScope OU) (by decide +kernel)) (λ_ _ _ _ _=>⟨_,E_ (i:=6) Fg.nd rfl (.inl rfl),rfl⟩) (λ_ _ _ _ _=>⟨_,pts_one (pt_cmpR (op_eqD hr.units) (bD (fh T) hr T.au T.eR T.eL (A_ (pv 0) (A_ (K_) (B_)))) (K_) (nomark _)),rfl⟩) (λ_ _ _ _ _=>⟨_,pv 6,rfl⟩)) (C_ (H_ (i:=5) Fg.nd rfl (.inr rfl) (O_ ix_seq (M_ (A_ (K_) (A_ (K_) (A_ (K_) (A_ (J_ op_add (pv 3) (K_)) (B_)))))) (bD (fh T) hr T.au T.eR T.eL (A_ (pv 0) (A_ (K_) (B_)))) (λ_ _=>rfl))) (D_ (L_ (N_ (A_ (pv 4) (A_ (pv 2) (A_ (pv 3) (A_ (jO (aT 7) (ST.ab (fX (SE.ac eG (dM 0 (cK (hjl 5) (dK)))) (SE.ab 0))) (hjl 7) [("_law_place",7)] rfl Fg.nd (pi_range1 (by rfl) T.bB (A_ (pv 3) (B_))) (blkOk_by (N:=Ze) (sc:=defScope OU) (by decide +kernel)) (λ_ _ _ _ _=>⟨_,E_ (i:=7) Fg.nd rfl (.inl rfl),rfl⟩) (λ_ _ _ _ _=>⟨_,pts_one (pt_cmpR (op_eqD hr.units) (bD (fh T) hr T.au T.eR T.eL (A_ (pv 0) (A_ (pv 5) (B_)))) (K_) (nomark _)),rfl⟩) (λ_ _ _ _ _=>⟨_,pv 7,rfl⟩)) (B_)))))))))))),?_⟩
 kernel_rfl
theorem OI:FnOk P w K mg base CX0 1 T.YM T.vc ["_law_told", "_law_day"] (bE Ay):=by
 refine bN T.Kh O0 rfl rfl λcdv A outer s H E hr=>⟨_,C_ (ps_asg (pv 0) (pg_tup rfl (F_ (E_ (i:=2) O0.nd rfl (.inl rfl)) (F_ (E_ (i:=3) O0.nd rfl (.inl rfl)) (F_ (E_ (i:=4) O0.nd rfl (.inl rfl)) (F_ (E_ (i:=5) O0.nd rfl (.inl rfl)) (G_))))))) (D_ (L_ (pe_ifExp (pt_cmpR op_lt (pv 1) (pv 3) (nomark _)) (S_ op_in_seq (pv 1) (pv 2) (by rfl)) (S_ op_in_seq (J_ op_mod (pe_callTy call_int1 (by rfl) T.eV (by decide +kernel) (A_ (J_ op_sub (pv 1) (pv 3)) (B_))) (pv 4)) (pv 5) (by rfl))))),?_⟩
 kernel_rfl
theorem i7:FnOk P w K mg base CX0 2 T.VJ T.yP ["_law_told", "_law_more"] (bE VX):=by
 refine bN T.VU Ej rfl rfl λcdv A outer s H E hr=>⟨_,C_ (ps_asg (pv 0) (pg_tup rfl (F_ (E_ (i:=2) Ej.nd rfl (.inl rfl)) (F_ (E_ (i:=3) Ej.nd rfl (.inl rfl)) (F_ (E_ (i:=4) Ej.nd rfl (.inl rfl)) (F_ (E_ (i:=5) Ej.nd rfl (.inl rfl)) (G_))))))) (C_ (H_ (i:=6) Ej.nd rfl (.inr rfl) (J_ op_add (pv 3) (pv 1))) (C_ (Ue (i:=7) (aT 8) (ST.ab (SE.ac Ay (cK (hjl 0) (cK (hjl 8) (dK))))) (hjl 8) [("_law_day",8)] rfl Ej.nd rfl rfl (sw_true rfl rfl rfl (by decide +kernel)) (pi_range1 (by rfl) T.bB (A_ (pv 6) (B_))) (blkOk_by (N:=V6) (sc:=defScope Od) (by decide +kernel)) (λ_ _ _ _ _=>⟨_,E_ (i:=8) Ej.nd rfl (.inl rfl),rfl⟩) (λ_ _ _ _ _=>⟨_,pts_one (pt_val (bD (OI T) hr T.eE T.Kh T.IC (A_ (pv 0) (A_ (pv 8) (B_))))),rfl⟩) (λ_ _ _ _ _=>⟨_,pv 8,rfl⟩)) (D_ (L_ (N_ (A_ (pv 7) (A_ (pv 6) (A_ (J_ op_mul (K_) (pv 4)) (A_ (jO (aT 9) (ST.ab (SE.ac Ay (cK (hjl 0) (cK (fL (hjl 6) (hjl 9)) (dK))))) (hjl 9) [("_law_place",9)] rfl Ej.nd (pi_range1 (by rfl) T.bB (A_ (J_ op_mul (K_) (pv 4)) (B_))) (blkOk_by (N:=V6) (sc:=defScope Od) (by decide +kernel)) (λ_ _ _ _ _=>⟨_,E_ (i:=9) Ej.nd rfl (.inl rfl),rfl⟩) (λ_ _ _ _ _=>⟨_,pts_one (pt_val (bD (OI T) hr T.eE T.Kh T.IC (A_ (pv 0) (A_ (J_ op_add (pv 6) (pv 9)) (B_))))),rfl⟩) (λ_ _ _ _ _=>⟨_,pv 9,rfl⟩)) (B_)))))))))),?_⟩
 kernel_rfl
theorem qO:FnOk P w K mg base CX0 3 T.Y9 T.yX ["_law_sack", "_law_most", "_law_wide"] (bE XR):=by
 refine bN T.Xm wO rfl rfl λcdv A outer s H E hr=>⟨_,C_ (ps_par (i:=3) (j:=4) rfl wO.nd rfl rfl (by decide) rfl rfl (A_ (bD (kZ T) hr T.my T.Wg T.Se (A_ (pv 0) (A_ (pv 2) (B_)))) (A_ (M_ B_) (B_))) (by rfl)) (C_ (ps_for PassesOwn.never rfl (pi_range1 (by rfl) T.bB (A_ (J_ op_add (K_) (bD (fh T) hr T.au T.eR T.eL (A_ (pv 0) (A_ (pv 1) (B_))))) (B_))) (E_ (i:=5) wO.nd rfl (.inl rfl)) (C_ (ps_par (i:=6) (j:=7) rfl wO.nd rfl rfl (by decide) rfl rfl (A_ (bD (ux T) hr T.vW T.YJ T.TJ (A_ (pv 0) (A_ (pv 3) (B_)))) (A_ (bD (fh T) hr T.au T.eR T.eL (A_ (pv 0) (A_ (K_) (B_)))) (B_))) (by rfl)) (C_ (Q_ (PW.pt (pw_and (pt_cmpR op_lt (pv 7) (K_) (nomark _)) (pw_and1 (pt_cmpR (op_neD hr.units) (pv 4) (M_ B_) (nomark _))))) (C_ (H_ (i:=6) wO.nd rfl (.inl rfl) (O_ ix_seq (pv 4) (bD (fh T) hr T.au T.eR T.eL (A_ (pv 0) (A_ (I_ call_len (by rfl) T.bU (by decide +kernel) (A_ (pv 4) B_)) (B_)))) (λ_ _=>rfl))) (C_ (ps_asg (pv 6) (pg_tup rfl (F_ (E_ (i:=8) wO.nd rfl (.inl rfl)) (F_ (E_ (i:=9) wO.nd rfl (.inl rfl)) (F_ (E_ (i:=10) wO.nd rfl (.inl rfl)) (F_ (E_ (i:=11) wO.nd rfl (.inl rfl)) (G_))))))) (C_ (H_ (i:=12) wO.nd rfl (.inr rfl) (bD (fh T) hr T.au T.eR T.eL (A_ (pv 0) (A_ (J_ op_add (pv 9) (K_)) (B_))))) (D_ (Q_ (pt_cmpR (op_eqD hr.units) (pv 7) (K_) (nomark _)) (D_ (H_ (i:=6) wO.nd rfl (.inl rfl) (pe_ifExp (pt_cmpR op_lt (pv 10) (K_) (nomark _)) (bD (i7 T) hr T.ju T.VU T.RU (A_ (pv 6) (A_ (bD (fh T) hr T.au T.eR T.eL (A_ (pv 0) (A_ (K_) (B_)))) (B_)))) (pv 6)))) (D_ (Q_ (pt_cmpR op_lt (pv 12) (pv 9) (nomark _)) (D_ (H_ (i:=6) wO.nd rfl (.inl rfl) (J_ op_catA (N_ (A_ (pe_ifExp (pt_cmpR op_notIn_seq (pv 12) (pv 8) (by rfl)) (I_ cr_sortedI (by rfl) T.mW (by decide +kernel) (A_ (J_ op_cat (pv 8) (M_ (A_ (pv 12) (B_)))) (B_))) (jO (aT 13) (ST.ab (vy (hjl 13) (hjl 12))) (hjl 13) [("_law_one",13)] rfl wO.nd (pi_list (pv 8)) (blkOk_by (N:=jL) (sc:=defScope Tq) (by decide +kernel)) (λ_ _ _ _ _=>⟨_,E_ (i:=13) wO.nd rfl (.inl rfl),rfl⟩) (λ_ _ _ _ _=>⟨_,pts_one (pt_cmpR (op_neD hr.units) (pv 13) (pv 12) (nomark _)),rfl⟩) (λ_ _ _ _ _=>⟨_,pv 13,rfl⟩))) B_)) (pe_slice sl_tupA (pv 6) (po_some (K_)) (po_none))))) (R_)))))))) (R_)) (D_ (ps_expr (pe_bm PySem.F.plainAttrs_list PySem.F.slot_list_append PySem.F.type_list_append mt_append (pv 4) (A_ (pv 6) B_))))))) (D_ (L_ (pv 4)))),?_⟩
 kernel_rfl
theorem qL:FnOk P w K mg base CX0 2 T.XT T.yV ["_law_sack"] (bE Xj):=by
 refine bN T.Zj Ir rfl rfl λcdv A outer s H E hr=>⟨_,C_ (H_ (i:=1) Ir.nd rfl (.inl rfl) (M_ (B_))) (C_ (ps_for PassesOwn.never rfl (pi_range1 (by rfl) T.bB (A_ (J_ op_add (K_) (bD (fh T) hr T.au T.eR T.eL (A_ (pv 0) (A_ (K_) (B_))))) (B_))) (E_ (i:=2) Ir.nd rfl (.inl rfl)) (C_ (ps_par3 (i:=3) (j:=4) (l:=5) rfl Ir.nd rfl rfl rfl (by decide) (by decide) (by decide) rfl rfl rfl (A_ (bD (fh T) hr T.au T.eR T.eL (A_ (pv 0) (A_ (K_) (B_)))) (A_ (bD (fh T) hr T.au T.eR T.eL (A_ (pv 0) (A_ (K_) (B_)))) (A_ (bD (fh T) hr T.au T.eR T.eL (A_ (pv 0) (A_ (K_) (B_)))) (B_)))) (by rfl)) (C_ (H_ (i:=6) Ir.nd rfl (.inl rfl) (N_ (A_ (M_ (A_ (pv 4) (B_))) (A_ (J_ op_add (pv 4) (K_)) (A_ (K_) (A_ (M_ (B_)) (B_))))))) (C_ (Q_ (PW.pt (pw_and (pt_cmpR (op_eqD hr.units) (pv 3) (K_) (nomark _)) (pw_and1 (pt_cmpR (op_neD hr.units) (pv 4) (pv 5) (nomark _))))) (D_ (H_ (i:=6) Ir.nd rfl (.inl rfl) (N_ (A_ (I_ cr_sortedI (by rfl) T.mW (by decide +kernel) (A_ (M_ (A_ (pv 4) (A_ (pv 5) (B_)))) (B_))) (A_ (J_ op_add (I_ (call_max2 rfl) (by rfl) T.iW (by decide +kernel) (A_ (pv 4) (A_ (pv 5) (B_)))) (K_)) (A_ (K_) (A_ (M_ (B_)) (B_)))))))) (R_)) (C_ (Q_ (pt_cmpR (op_eqD hr.units) (pv 3) (K_) (nomark _)) (D_ (H_ (i:=6) Ir.nd rfl (.inl rfl) (N_ (A_ (M_ (B_)) (A_ (pv 4) (A_ (J_ op_add (K_) (J_ op_mod (pe_callTy call_int1 (by rfl) T.eV (by decide +kernel) (A_ (pv 5) (B_))) (K_))) (A_ (M_ (A_ (K_) (B_))) (B_)))))))) (R_)) (C_ (Q_ (pt_cmpR (op_eqD hr.units) (pv 3) (K_) (nomark _)) (D_ (H_ (i:=6) Ir.nd rfl (.inl rfl) (N_ (A_ (M_ (B_)) (A_ (pv 4) (A_ (J_ op_add (K_) (J_ op_mod (pe_callTy call_int1 (by rfl) T.eV (by decide +kernel) (A_ (pv 5) (B_))) (K_))) (A_ (M_ (B_)) (B_)))))))) (R_)) (D_ (ps_expr (pe_bm PySem.F.plainAttrs_list PySem.F.slot_list_append PySem.F.type_list_append mt_append (pv 1) (A_ (pv 6) B_)))))))))) (D_ (L_ (pv 1)))),?_⟩
 kernel_rfl
theorem uw:FnOk P w K mg base CX0 2 T.Zq T.yR ["_law_sack"] (bE Zr):=by
 refine bN T.Zw Fi rfl rfl λcdv A outer s H E hr=>⟨_,C_ (H_ (i:=1) Fi.nd rfl (.inl rfl) (O_ ix_seq (M_ (A_ (J_ op_add (K_) (bD (fh T) hr T.au T.eR T.eL (A_ (pv 0) (A_ (K_) (B_))))) (A_ (J_ op_add (K_) (bD (fh T) hr T.au T.eR T.eL (A_ (pv 0) (A_ (K_) (B_))))) (B_)))) (bD (fh T) hr T.au T.eR T.eL (A_ (pv 0) (A_ (K_) (B_)))) (λ_ _=>rfl))) (C_ (H_ (i:=2) Fi.nd rfl (.inl rfl) (J_ op_add (K_) (bD (fh T) hr T.au T.eR T.eL (A_ (pv 0) (A_ (K_) (B_)))))) (C_ (ps_par3 (i:=3) (j:=4) (l:=5) rfl Fi.nd rfl rfl rfl (by decide) (by decide) (by decide) rfl rfl rfl (A_ (bD (fh T) hr T.au T.eR T.eL (A_ (pv 0) (A_ (K_) (B_)))) (A_ (O_ ix_seq (M_ (A_ (K_) (A_ (K_) (A_ (K_) (A_ (K_) (B_)))))) (bD (fh T) hr T.au T.eR T.eL (A_ (pv 0) (A_ (K_) (B_)))) (λ_ _=>rfl)) (A_ (M_ B_) (B_)))) (by rfl)) (C_ (ps_for PassesOwn.never rfl (pi_range1 (by rfl) T.bB (A_ (J_ op_add (K_) (bD (fh T) hr T.au T.eR T.eL (A_ (pv 0) (A_ (K_) (B_))))) (B_))) (E_ (i:=6) Fi.nd rfl (.inl rfl)) (C_ (H_ (i:=7) Fi.nd rfl (.inr rfl) (J_ op_mod (pe_callTy call_int1 (by rfl) T.eV (by decide +kernel) (A_ (J_ op_add (pv 3) (J_ op_mul (pv 4) (pv 6))) (B_))) (K_))) (C_ (H_ (i:=8) Fi.nd rfl (.inl rfl) (O_ ix_seq (M_ (A_ (M_ (A_ (K_) (B_))) (A_ (M_ (A_ (K_) (B_))) (A_ (M_ (A_ (K_) (B_))) (A_ (M_ (A_ (K_) (B_))) (A_ (M_ (B_)) (A_ (M_ (A_ (K_) (A_ (K_) (B_)))) (A_ (M_ (A_ (K_) (A_ (K_) (B_)))) (A_ (M_ (A_ (K_) (A_ (K_) (B_)))) (B_)))))))))) (pv 6) (λ_ _=>rfl))) (C_ (Ue (i:=9) (aT 10) (ST.ab (fX (o6 (oZ (vp (hjl 7) (cW (SE.lst (eK (SE.ab 1) (eK (SE.ab 2) (eK (SE.ab 4) (fK))))) (hjl 10)))) (SE.ab 2)) (SE.ab 1))) (hjl 10) [("_law_place",10)] rfl Fi.nd rfl rfl (sw_true rfl rfl rfl (by decide +kernel)) (pi_range1 (by rfl) T.bB (A_ (K_) (B_))) (blkOk_by (N:=lK) (sc:=defScope S8) (by decide +kernel)) (λ_ _ _ _ _=>⟨_,E_ (i:=10) Fi.nd rfl (.inl rfl),rfl⟩) (λ_ _ _ _ _=>⟨_,pts_one (pt_cmpR (op_eqD hr.units) (J_ op_mod (pe_callTy call_int1 (by rfl) T.eV (by decide +kernel) (A_ (J_ op_fdivW (pv 7) (O_ ix_seq (M_ (A_ (K_) (A_ (K_) (A_ (K_) (B_))))) (pv 10) (λ_ _=>rfl))) (B_))) (K_)) (K_) (nomark _)),rfl⟩) (λ_ _ _ _ _=>⟨_,pv 10,rfl⟩)) (D_ (ps_expr (pe_bm PySem.F.plainAttrs_list PySem.F.slot_list_append PySem.F.type_list_append mt_append (pv 5) (A_ (N_ (A_ (pv 8) (A_ (pv 1) (A_ (pv 2) (A_ (pv 9) (B_)))))) B_)))))))) (D_ (L_ (pv 5)))))),?_⟩
 kernel_rfl
theorem n6:FnOk P w K mg base CX0 2 T.XM T.Ao ["_law_sack", "_law_told", "_law_many", "_law_odd"] (bE Xf):=by
 refine bN T.Xp MY rfl rfl λcdv A outer s H E hr=>⟨_,C_ (ps_par (i:=4) (j:=5) rfl MY.nd rfl rfl (by decide) rfl rfl (A_ (M_ B_) (A_ (pe_dnewK) (B_))) (by rfl)) (C_ (ps_for PassesOwn.never rfl (pi_range1 (by rfl) T.bB (A_ (pv 2) (B_))) (E_ (i:=6) MY.nd rfl (.inl rfl)) (C_ (H_ (i:=7) MY.nd rfl (.inl rfl) (O_ ix_seq (M_ (A_ (bD (fh T) hr T.au T.eR T.eL (A_ (pv 0) (A_ (K_) (B_)))) (A_ (bD (fh T) hr T.au T.eR T.eL (A_ (pv 0) (A_ (K_) (B_)))) (A_ (bD (fh T) hr T.au T.eR T.eL (A_ (pv 0) (A_ (K_) (B_)))) (B_))))) (bD (fh T) hr T.au T.eR T.eL (A_ (pv 0) (A_ (K_) (B_)))) (λ_ _=>rfl))) (C_ (Q_ (pt_cmpR (op_eqD hr.units) (bD (fh T) hr T.au T.eR T.eL (A_ (pv 0) (A_ (K_) (B_)))) (K_) (nomark _)) (D_ (H_ (i:=7) MY.nd rfl (.inl rfl) (O_ ix_seq (M_ (A_ (J_ op_sub (J_ op_sub (J_ IX (K_) (K_)) (K_)) (bD (fh T) hr T.au T.eR T.eL (A_ (pv 0) (A_ (K_) (B_))))) (A_ (bD (fh T) hr T.au T.eR T.eL (A_ (pv 0) (A_ (J_ IX (K_) (K_)) (B_)))) (B_)))) (bD (fh T) hr T.au T.eR T.eL (A_ (pv 0) (A_ (K_) (B_)))) (λ_ _=>rfl)))) (R_)) (C_ (H_ (i:=8) MY.nd rfl (.inl rfl) (pe_and (S_ op_gt (pv 3) (K_) (nomark _)) (pe_one (S_ (op_eqD hr.units) (bD (fh T) hr T.au T.eR T.eL (A_ (pv 0) (A_ (I_ (call_max2 rfl) (by rfl) T.iW (by decide +kernel) (A_ (K_) (A_ (pv 3) (B_)))) (B_)))) (K_) (nomark _))))) (C_ (ps_dput (hu_of hr) (pv 5) (pv 7) (pe_dget2 (hu_of hr) (pv 5) (pv 7) (S_ (op_neD hr.units) (bD (OI T) hr T.eE T.Kh T.IC (A_ (pv 1) (A_ (pv 7) (B_)))) (pv 8) (nomark _)) ⟨rfl,rfl,rfl,rfl⟩) rfl) (D_ (ps_expr (pe_bm PySem.F.plainAttrs_list PySem.F.slot_list_append PySem.F.type_list_append mt_append (pv 4) (A_ (N_ (A_ (pv 7) (A_ (pe_dget (hu_of hr) (pv 5) (pv 7) (λ_ _=>rfl)) (B_)))) B_))))))))) (D_ (L_ (pv 4)))),?_⟩
 kernel_rfl
theorem qK:FnOk P w K mg base CX0 2 T.Zn T.Ep ["_law_told", "_law_our_notes"] (bE Tg):=by
 refine bN T.YV SJ rfl rfl λcdv A outer s H E hr=>⟨_,D_ (L_ (S_ (op_eqD hr.units) (jO (SG.tup (jK (aT 2) (jK (aT 3) (c9.nil)))) (ST.ab (vy (SE.ac Ay (cK (hjl 0) (cK (hjl 2) (dK)))) (hjl 3))) (SE.ab 1) [("_law_day",2),("_law_seen",3)] rfl SJ.nd (pi_list (pv 1)) (blkOk_by (N:=jJ) (sc:=defScope Tz) (by decide +kernel)) (λ_ _ _ _ _=>⟨_,pg_tup rfl (F_ (E_ (i:=2) SJ.nd rfl (.inl rfl)) (F_ (E_ (i:=3) SJ.nd rfl (.inl rfl)) (G_))),rfl⟩) (λ_ _ _ _ _=>⟨_,pts_one (pt_cmpR (op_neD hr.units) (bD (OI T) hr T.eE T.Kh T.IC (A_ (pv 0) (A_ (pv 2) (B_)))) (pv 3) (nomark _)),rfl⟩) (λ_ _ _ _ _=>⟨_,K_,rfl⟩)) (M_ (B_)) (nomark _))),?_⟩
 kernel_rfl
theorem n8:FnOk P w K mg base CX0 1 T.Xe T.Bw ["_law_our_sets"] (bE Xz):=by
 refine bN T.Xh A8 rfl rfl λcdv A outer s H E hr=>⟨_,C_ (ps_asg (N_ (A_ (K_) (A_ (K_) (B_)))) (pg_tup rfl (F_ (E_ (i:=1) A8.nd rfl (.inl rfl)) (F_ (E_ (i:=2) A8.nd rfl (.inl rfl)) (G_))))) (C_ (ps_for PassesOwn.never rfl (pi_list (pv 0)) (pg_tup rfl (F_ (E_ (i:=3) A8.nd rfl (.inl rfl)) (F_ (E_ (i:=4) A8.nd rfl (.inl rfl)) (F_ (E_ (i:=5) A8.nd rfl (.inl rfl)) (F_ (E_ (i:=6) A8.nd rfl (.inl rfl)) (G_)))))) (C_ (H_ (i:=1) A8.nd rfl (.inl rfl) (I_ (call_max2 rfl) (by rfl) T.iW (by decide +kernel) (A_ (pv 1) (A_ (pv 4) (B_))))) (C_ (ps_par (i:=7) (j:=8) rfl A8.nd rfl rfl (by decide) rfl rfl (A_ (pv 2) (A_ (pv 5) (B_))) (by rfl)) (C_ (ps_while PassesOwn.never (pt_cmpR op_gt (pv 8) (K_) (nomark _)) (D_ (ps_par (i:=7) (j:=8) rfl A8.nd rfl rfl (by decide) rfl rfl (A_ (pv 8) (A_ (J_ op_mod (pe_callTy call_int1 (by rfl) T.eV (by decide +kernel) (A_ (pv 7) (B_))) (pv 8)) (B_))) (by rfl)))) (D_ (H_ (i:=2) A8.nd rfl (.inl rfl) (J_ op_fdivW (J_ op_mul (pv 2) (pv 5)) (pv 7)))))))) (D_ (L_ (N_ (A_ (pv 1) (A_ (pv 2) (B_))))))),?_⟩
 kernel_rfl
theorem qM:FnOk P w K mg base CX0 2 T.Zp T.Az ["_law_our_sets"] (bE YH):=by
 refine bN T.XD J5 rfl rfl λcdv A outer s H E hr=>⟨_,C_ (ps_asg (bD (n8 T) hr T.qo T.Xh T.SM (A_ (pv 0) (B_))) (pg_tup rfl (F_ (E_ (i:=1) J5.nd rfl (.inr rfl)) (F_ (E_ (i:=2) J5.nd rfl (.inr rfl)) (G_))))) (D_ (L_ (jO (aT 3) (cT) (hxs (nW (fL (hjl 1) (hjl 2))) (aT 4) (cT) (SE.ac Ay (cK (hjl 3) (cK (hjl 4) (dK)))) [4] (by decide)) [("_law_told",3)] rfl J5.nd (pi_list (pv 0)) (blkOk_by (N:=Y6) (sc:=defScope S2) (by decide +kernel)) (λ_ _ _ _ _=>⟨_,E_ (i:=3) J5.nd rfl (.inr rfl),rfl⟩) (λ_ _ _ _ _=>⟨_,pts_nil,rfl⟩) (λ_ _ _ _ _=>⟨_,jO (aT 4) (cT) (SE.ac Ay (cK (hjl 3) (cK (hjl 4) (dK)))) [("_law_day",4)] rfl J5.nd (pi_range1 (by rfl) T.bB (A_ (J_ op_add (pv 1) (pv 2)) (B_))) (blkOk_by (N:=Y6) (sc:=_) (by rfl)) (λ_ _ _ _ _=>⟨_,E_ (i:=4) J5.nd rfl (.inl rfl),rfl⟩) (λ_ _ _ _ _=>⟨_,pts_nil,rfl⟩) (λ_ _ _ _ _=>⟨_,bD (OI T) hr T.eE T.Kh T.IC (A_ (pv 3) (A_ (pv 4) (B_))),rfl⟩),rfl⟩)))),?_⟩
 kernel_rfl
theorem RQ:FnOk P w K mg base CX0 1 T.Xx T.ve ["_law_rows"] (bE M4):=by
 refine bN T.MW WH rfl rfl λcdv A outer s H E hr=>⟨_,C_ (H_ (i:=1) WH.nd rfl (.inl rfl) (M_ (B_))) (C_ (ps_for PassesOwn.never rfl (pi_list (pv 0)) (E_ (i:=2) WH.nd rfl (.inl rfl)) (D_ (Q_ (pt_cmpR (op_notInD (vJ hr)) (pv 2) (pv 1) (by rfl)) (D_ (ps_expr (pe_bm PySem.F.plainAttrs_list PySem.F.slot_list_append PySem.F.type_list_append mt_append (pv 1) (A_ (pv 2) B_)))) (R_)))) (D_ (L_ (pv 1)))),?_⟩
 kernel_rfl
theorem qP:FnOk P w K mg base CX0 1 T.Xs T.AA ["_law_rows"] (bE YT):=by
 refine bN T.Xk M5 rfl rfl λcdv A outer s H E hr=>⟨_,C_ (ps_par (i:=1) (j:=2) rfl M5.nd rfl rfl (by decide) rfl rfl (A_ (TY) (A_ (M_ B_) (B_))) (by rfl)) (C_ (ps_for PassesOwn.never rfl (pi_range1 (by rfl) T.bB (A_ (pe_ifExp (pt_cmpR (op_neD hr.units) (pv 0) (M_ (B_)) (nomark _)) (I_ call_len (by rfl) T.bU (by decide +kernel) (A_ (O_ ix_seq (pv 0) (K_) (λ_ _=>rfl)) (B_))) (K_)) (B_))) (E_ (i:=3) M5.nd rfl (.inr rfl)) (C_ (H_ (i:=4) M5.nd rfl (.inl rfl) (pN (by rfl) T.lC (jO (aT 5) (cT) (fX (cW (hjl 5) (hjl 3)) (cW (cW (hjl 0) (SE.ab 0)) (hjl 3))) [("_law_row",5)] rfl M5.nd (pi_list (pv 0)) (blkOk_by (N:=jM) (sc:=defScope Tn) (by decide +kernel)) (λ_ _ _ _ _=>⟨_,E_ (i:=5) M5.nd rfl (.inl rfl),rfl⟩) (λ_ _ _ _ _=>⟨_,pts_nil,rfl⟩) (λ_ _ _ _ _=>⟨_,S_ (op_eqD hr.units) (O_ ix_seq (pv 5) (pv 3) (λ_ _=>rfl)) (O_ ix_seq (O_ ix_seq (pv 0) (K_) (λ_ _=>rfl)) (pv 3) (λ_ _=>rfl)) (nomark _),rfl⟩)))) (D_ (Q_ (PW.pt (pw_and (pt_cmpR op_in_seq (pe_bl) (pv 4) (by rfl)) (pw_and1 (PF (OZ (vJ hr) (pv 4) (pv 1)))))) (C_ (Us (vJ hr) (pv 1) (pv 4) (pv 3) rfl) (D_ (ps_expr (pe_bm PySem.F.plainAttrs_list PySem.F.slot_list_append PySem.F.type_list_append mt_append (pv 2) (A_ (pv 3) B_))))) (R_))))) (D_ (L_ (pv 2)))),?_⟩
 kernel_rfl
theorem kY:FnOk P w K mg base CX0 1 T.WZ T.Am ["_law_some", "_law_most"] (bE Wu):=by
 refine bN T.We yJ rfl rfl λcdv A outer s H E hr=>⟨_,C_ (ps_par (i:=2) (j:=3) rfl yJ.nd rfl rfl (by decide) rfl rfl (A_ (M_ (A_ (M_ (B_)) (B_))) (A_ (M_ (A_ (M_ (B_)) (B_))) (B_))) (by rfl)) (C_ (ps_for PassesOwn.never rfl (pi_range1 (by rfl) T.bB (A_ (pv 1) (B_))) (E_ (i:=4) yJ.nd rfl (.inl rfl)) (C_ (H_ (i:=5) yJ.nd rfl (.inl rfl) (M_ (B_))) (C_ (ps_for PassesOwn.never rfl (pi_list (pv 2)) (E_ (i:=6) yJ.nd rfl (.inr rfl)) (C_ (H_ (i:=7) yJ.nd rfl (.inl rfl) (pe_ifExp (pt_cmpR (op_neD hr.units) (pv 6) (M_ (B_)) (nomark _)) (J_ op_add (O_ ix_seq (pv 6) (pe_un un_neg (K_)) (λ_ _=>rfl)) (K_)) (K_))) (D_ (ps_expr (pe_bm PySem.F.plainAttrs_list PySem.F.slot_list_extend PySem.F.type_list_extend mt_extend (pv 5) (A_ (jO (aT 8) (cT) (AQ (hjl 6) (SE.lst (eK (hjl 8) (fK)))) [("_law_place",8)] rfl yJ.nd (pi_range2 (by rfl) T.bB (A_ (pv 7) (A_ (I_ call_len (by rfl) T.bU (by decide +kernel) (A_ (pv 0) (B_))) (B_)))) (blkOk_by (N:=Sq) (sc:=defScope Ow) (by decide +kernel)) (λ_ _ _ _ _=>⟨_,E_ (i:=8) yJ.nd rfl (.inl rfl),rfl⟩) (λ_ _ _ _ _=>⟨_,pts_nil,rfl⟩) (λ_ _ _ _ _=>⟨_,J_ op_cat (pv 6) (M_ (A_ (pv 8) (B_))),rfl⟩)) B_)))))) (C_ (H_ (i:=2) yJ.nd rfl (.inl rfl) (pv 5)) (D_ (ps_expr (pe_bm PySem.F.plainAttrs_list PySem.F.slot_list_extend PySem.F.type_list_extend mt_extend (pv 3) (A_ (pv 2) B_)))))))) (D_ (L_ (jO (aT 6) (cT) (hxs (SI.list (hjl 6)) (aT 8) (cT) (cW (hjl 0) (hjl 8)) [8] (by decide)) [("_law_choice",6)] rfl yJ.nd (pi_list (pv 3)) (blkOk_by (N:=Sq) (sc:=defScope Ow) (by decide +kernel)) (λ_ _ _ _ _=>⟨_,E_ (i:=6) yJ.nd rfl (.inl rfl),rfl⟩) (λ_ _ _ _ _=>⟨_,pts_nil,rfl⟩) (λ_ _ _ _ _=>⟨_,jO (aT 8) (cT) (cW (hjl 0) (hjl 8)) [("_law_place",8)] rfl yJ.nd (pi_list (pv 6)) (blkOk_by (N:=Sq) (sc:=_) (by rfl)) (λ_ _ _ _ _=>⟨_,E_ (i:=8) yJ.nd rfl (.inl rfl),rfl⟩) (λ_ _ _ _ _=>⟨_,pts_nil,rfl⟩) (λ_ _ _ _ _=>⟨_,O_ ix_seq (pv 0) (pv 8) (λ_ _=>rfl),rfl⟩),rfl⟩))))),?_⟩
 kernel_rfl
theorem n9:FnOk P w K mg base CX0 2 T.Xd T.yQ ["_law_rows", "_law_days"] (bE XQ):=by
 refine bN T.Xc OB rfl rfl λcdv A outer s H E hr=>⟨_,D_ (L_ (S_ (op_eqD hr.units) (I_ call_len (by rfl) T.bU (by decide +kernel) (A_ (bD (RQ T) hr T.dB T.MW T.J4 (A_ (jO (aT 2) (cT) (hxs (SI.list (hjl 1)) (aT 3) (cT) (cW (hjl 2) (hjl 3)) [3] (by decide)) [("_law_row",2)] rfl OB.nd (pi_list (pv 0)) (blkOk_by (N:=XN) (sc:=defScope Sv) (by decide +kernel)) (λ_ _ _ _ _=>⟨_,E_ (i:=2) OB.nd rfl (.inr rfl),rfl⟩) (λ_ _ _ _ _=>⟨_,pts_nil,rfl⟩) (λ_ _ _ _ _=>⟨_,jO (aT 3) (cT) (cW (hjl 2) (hjl 3)) [("_law_day",3)] rfl OB.nd (pi_list (pv 1)) (blkOk_by (N:=XN) (sc:=_) (by rfl)) (λ_ _ _ _ _=>⟨_,E_ (i:=3) OB.nd rfl (.inl rfl),rfl⟩) (λ_ _ _ _ _=>⟨_,pts_nil,rfl⟩) (λ_ _ _ _ _=>⟨_,O_ ix_seq (pv 2) (pv 3) (λ_ _=>rfl),rfl⟩),rfl⟩)) (B_))) (B_))) (I_ call_len (by rfl) T.bU (by decide +kernel) (A_ (pv 0) (B_))) (nomark _))),?_⟩
 kernel_rfl
theorem gI:FnOk P w K mg base CX0 3 T.VH T.w7 ["_law_rows"] (bE VQ):=by
 refine bN T.VY MH rfl rfl λcdv A outer s H E hr=>⟨_,C_ (H_ (i:=1) MH.nd rfl (.inl rfl) (bD (qP T) hr T.tJ T.Xk T.Th (A_ (pv 0) (B_)))) (C_ (ps_for PassesOwn.never rfl (pi_range1 (by rfl) T.bB (A_ (I_ call_len (by rfl) T.bU (by decide +kernel) (A_ (pv 0) (B_))) (B_))) (E_ (i:=2) MH.nd rfl (.inr rfl)) (D_ (ps_for PassesOwn.never rfl (pi_list (jO (aT 4) (ST.ab (fX (gR (hjl 4)) (hjl 2))) (hjl 4) [("_law_one",4)] rfl MH.nd (pi_list (bD (kY T) hr T.mq T.We T.RP (A_ (pv 1) (A_ (pv 2) (B_))))) (blkOk_by (N:=eA) (sc:=defScope RB) (by decide +kernel)) (λ_ _ _ _ _=>⟨_,E_ (i:=4) MH.nd rfl (.inl rfl),rfl⟩) (λ_ _ _ _ _=>⟨_,pts_one (pt_cmpR (op_eqD hr.units) (I_ call_len (by rfl) T.bU (by decide +kernel) (A_ (pv 4) (B_))) (pv 2) (nomark _)),rfl⟩) (λ_ _ _ _ _=>⟨_,pv 4,rfl⟩))) (E_ (i:=3) MH.nd rfl (.inl rfl)) (D_ (Q_ (pt_val (bD (n9 T) hr T.qp T.Xc T.SV (A_ (pv 0) (A_ (pv 3) (B_))))) (D_ (L_ (pv 3))) (R_)))))) (D_ (L_ (pe_non)))),?_⟩
 kernel_rfl
theorem jC:FnOk P w K mg base CX0 1 T.WB T.yK ["_law_rows"] (bE WO):=by
 refine bN T.Wa ME rfl rfl λcdv A outer s H E hr=>⟨_,C_ (Q_ (pt_cmpR op_lt (I_ call_len (by rfl) T.bU (by decide +kernel) (A_ (pv 0) (B_))) (K_) (nomark _)) (D_ (L_ (pe_non))) (R_)) (C_ (H_ (i:=1) ME.nd rfl (.inl rfl) (M_ (B_))) (C_ (ps_for PassesOwn.never rfl (pi_range1 (by rfl) T.bB (A_ (I_ call_len (by rfl) T.bU (by decide +kernel) (A_ (O_ ix_seq (pv 0) (K_) (λ_ _=>rfl)) (B_))) (B_))) (E_ (i:=2) ME.nd rfl (.inr rfl)) (C_ (H_ (i:=3) ME.nd rfl (.inl rfl) (I_ call_len (by rfl) T.bU (by decide +kernel) (A_ (jO (aT 4) (ST.ab (cW (hjl 4) (hjl 2))) (SE.ab 1) [("_law_row",4)] rfl ME.nd (pi_list (pv 0)) (blkOk_by (N:=fS) (sc:=defScope RL) (by decide +kernel)) (λ_ _ _ _ _=>⟨_,E_ (i:=4) ME.nd rfl (.inl rfl),rfl⟩) (λ_ _ _ _ _=>⟨_,pts_one (pt_val (O_ ix_seq (pv 4) (pv 2) (λ_ _=>rfl))),rfl⟩) (λ_ _ _ _ _=>⟨_,K_,rfl⟩)) (B_)))) (D_ (ps_expr (pe_bm PySem.F.plainAttrs_list PySem.F.slot_list_append PySem.F.type_list_append mt_append (pv 1) (A_ (I_ (call_max2 rfl) (by rfl) T.iW (by decide +kernel) (A_ (pv 3) (A_ (J_ op_sub (I_ call_len (by rfl) T.bU (by decide +kernel) (A_ (pv 0) (B_))) (pv 3)) (B_)))) B_)))))) (D_ (L_ (pe_bm PySem.F.plainAttrs_list PySem.F.slot_list_index PySem.F.type_list_index mt_index (pv 1) (A_ (I_ (cr_min rfl) (by rfl) T.Jr (by decide +kernel) (A_ (pv 1) (B_))) B_)))))),?_⟩
 kernel_rfl
def SW:SS:=SS.ag (SE.lst (eK (Cr (SE.ab 0) (AR (SE.abs (hjl 2)) (EI (SE.ab 10) (SE.ab 18)))) (eK (o6 (oZ (fL (fL (xU (hjl 2) (SE.ab 69143)) (xU (hjl 1) (SE.ab 7368787))) (SE.ab 4099))) (fL (EI (SE.ab 10) (SE.ab 36)) (SE.ab 67))) (eK (SE.ab 0) (fK)))))
theorem qN {sf:List Int->Int->aa}(hev:∀(ns:List Int) (r:Int) (x0:Slot),0<=r->r<=1000->SW.ev [x0,.dat (.int r),.dat (.int (sC ns r))] (0,0,0)=some (.ret (.list [.int (sf ns r).1,.int (sf ns r).2.1,.int (sf ns r).2.2],true) (0,0,0))):FnOk P w K mg base CX0 1 T.S5 T.Kf ["_law_script", "_law_rank"] (UT K sf):=by
 refine LL T.XF ja rfl rfl hev λcdv A outer s H E hr=>⟨_,C_ (H_ (i:=2) ja.nd rfl (.inl rfl) (pe_ifExp (pt_cmpR op_lt (pv 1) (I_ call_len (by rfl) T.bU (by decide +kernel) (A_ (pv 0) (B_))) (nomark _)) (O_ ix_seq (pv 0) (pv 1) (λ_ _=>rfl)) (K_))) (D_ (L_ (M_ (A_ (I_ (call_max2 rfl) (by rfl) T.iW (by decide +kernel) (A_ (K_) (A_ (J_ op_sub (I_ call_abs (by rfl) T.QE (by decide +kernel) (A_ (pv 2) (B_))) (J_ IX (K_) (K_))) (B_)))) (A_ (J_ op_mod (pe_callTy call_int1 (by rfl) T.eV (by decide +kernel) (A_ (J_ op_add (J_ op_add (J_ op_mul (pv 2) (K_)) (J_ op_mul (pv 1) (K_))) (K_)) (B_))) (J_ op_add (J_ IX (K_) (K_)) (K_))) (A_ (K_) (B_))))))),?_⟩
 kernel_rfl
theorem LM {sf:List Int->Int->aa}(hev:∀(ns:List Int) (r:Int) (x0:Slot),0<=r->r<=1000->SW.ev [x0,.dat (.int r),.dat (.int (sC ns r))] (0,0,0)=some (.ret (.list [.int (sf ns r).1,.int (sf ns r).2.1,.int (sf ns r).2.2],true) (0,0,0))){nn:Nat}(hB:∀(ns:List Int) (r:Int) (x0 x1:Slot),ns.length<=nn->0<=r->r<=1000->∃ρ' s',xg.ev (x0::x1::.bf::Kak 16 .emp) (sf ns r)=some (.nx (x0::ρ') s')/\ρ'.length=2+16)(hE:∀x0:Slot,∃fl s',sQ.ev (x0::Kak (2+16) .emp) (0,0,0)=some ((.bool true,fl),s')):EO P w K mg base 9 T.A6 T.gM ["_law_script"] (yq K nn):=by
 have rC:FnOk P w K mg base CX0 1 T.S5 T.Kf ["_law_script", "_law_rank"] (UT K sf):=qN T hev
 refine G4 (EE:=sQ) (m:=16) (RK:=hqk 3) T.HR rf rfl rfl (λa ns H σ Q _ h1 h2 h3=>uF h1 h2 λj j1 j2=>h3 j j1 (by omega)) hB hE λcdv A outer s H hG hr=>⟨_,C_ (ps_for PassesOwn.never rfl (pi_range1 (by rfl) T.bB (A_ (I_ (call_max2 rfl) (by rfl) T.iW (by decide +kernel) (A_ (K_) (A_ (I_ (call_min2 rfl) (by rfl) T.Jr (by decide +kernel) (A_ (K_) (A_ (I_ call_len (by rfl) T.bU (by decide +kernel) (A_ (pv 0) (B_))) (B_)))) (B_)))) (B_))) (E_ (i:=1) rf.nd rfl (.inl rfl)) (C_ (H_ (i:=2) rf.nd rfl (.inl rfl) (bD rC hr T.tH T.XF T.rX (A_ (pv 0) (A_ (pv 1) (B_))))) (C_ (H_ (i:=3) rf.nd rfl (.inl rfl) (bD (fh T) hr T.au T.eR T.eL (A_ (pv 2) (A_ (K_) (B_))))) (C_ (H_ (i:=4) rf.nd rfl (.inl rfl) (pe_ifExp (pt_cmpR op_lt (pv 3) (K_) (nomark _)) (bD (qO T) hr T.tI T.Xm T.Tw (A_ (pv 2) (A_ (K_) (A_ (pe_bl) (B_))))) (O_ ix_seq (M_ (A_ (bD (qL T) hr T.tF T.Zj T.Sy (A_ (pv 2) (B_))) (A_ (bD (uw T) hr T.vV T.Zw T.TH (A_ (pv 2) (B_))) (B_)))) (J_ op_sub (pv 3) (K_)) (λ_ _=>rfl)))) (C_ (ps_par (i:=5) (j:=6) rfl rf.nd rfl rfl (by decide) rfl rfl (A_ (bD (qM T) hr T.tG T.XD T.Tu (A_ (pv 4) (B_))) (A_ (I_ (M9 hG hr.units) (by rfl) T.jA (by decide +kernel) (A_ (pv 4) B_)) (B_))) (by rfl)) (C_ (H_ (i:=7) rf.nd rfl (.inl rfl) (bD (gI T) hr T.g_ T.VY T.Ru (A_ (bD (RQ T) hr T.dB T.MW T.J4 (A_ (pv 5) (B_))) (B_)))) (C_ (H_ (i:=8) rf.nd rfl (.inl rfl) (bD (WT T) hr T.eB T.MB T.WY (A_ (pv 4) (B_)))) (C_ (Q_ (PW.pt (pw_or (pt_not (pt_val (I_ call_isi (by rfl) T.qI (by decide +kernel) (A_ (pv 8) (A_ (pe_bltn (v:=.ty "list") (by rfl) T.LF (by decide +kernel) rfl) (B_)))))) (pw_or1 (pt_cmpR op_ne (I_ (M9 hG hr.units) (by rfl) T.jA (by decide +kernel) (A_ (pv 8) B_)) (I_ (M9 hG hr.units) (by rfl) T.jA (by decide +kernel) (A_ (pv 7) B_)) (nomark _))))) (D_ (L_ (pe_bl))) (R_)) (C_ (ps_expr (pe_bm PySem.F.plainAttrs_list PySem.F.slot_list_append PySem.F.type_list_append mt_append (pv 8) (A_ (K_) B_))) (C_ (Q_ (pt_cmpR (op_neD hr.units) (pe_callN (WT T) (hr.mono (by decide)) (by rfl) T.eB T.MB.kp (cO.kw (ks:=["sets"]) (g:=Jx) T.MB D3 λ_ _ _ _ _ _ ws hl=>match ws,hl with|[_],_=>rfl) (pk_cons (pe_revL (pv 4)) (pk_nil))) (pv 7) (nomark _)) (D_ (L_ (pe_bl))) (R_)) (C_ (ps_par (i:=9) (j:=10) rfl rf.nd rfl rfl (by decide) rfl rfl (A_ (O_ ix_seq (pv 4) (bD (fh T) hr T.au T.eR T.eL (A_ (pv 2) (A_ (I_ call_len (by rfl) T.bU (by decide +kernel) (A_ (pv 4) (B_))) (B_)))) (λ_ _=>rfl)) (A_ (O_ ix_seq (M_ (A_ (K_) (A_ (K_) (A_ (K_) (B_))))) (bD (fh T) hr T.au T.eR T.eL (A_ (pv 2) (A_ (K_) (B_)))) (λ_ _=>rfl)) (B_))) (by rfl)) (C_ (H_ (i:=11) rf.nd rfl (.inl rfl) (O_ ix_seq (M_ (A_ (bD (fh T) hr T.au T.eR T.eL (A_ (pv 2) (A_ (K_) (B_)))) (A_ (K_) (B_)))) (pe_callTy call_int1 (by rfl) T.eV (by decide +kernel) (A_ (S_ (op_eqD hr.units) (bD (fh T) hr T.au T.eR T.eL (A_ (pv 2) (A_ (K_) (B_)))) (K_) (nomark _)) (B_))) (λ_ _=>rfl))) (C_ (H_ (i:=12) rf.nd rfl (.inr rfl) (bD (n6 T) hr T.qm T.Xp T.Sw (A_ (pv 2) (A_ (pv 9) (A_ (pv 11) (A_ (pv 10) (B_))))))) (C_ (H_ (i:=13) rf.nd rfl (.inl rfl) (bD (RQ T) hr T.dB T.MW T.J4 (A_ (jO (SG.tup (jK (aT 17) (jK (aT 18) (c9.nil)))) (ST.ab (SE.ac Tg (cK (hjl 18) (cK (hjl 12) (dK))))) (hjl 17) [("_law_row",17),("_law_one",18)] rfl rf.nd (pi_zip (by rfl) T.yd (A_ (pv 5) (A_ (pv 4) (B_)))) (blkOk_by (N:=HS) (sc:=defScope yo) (by decide +kernel)) (λ_ _ _ _ _=>⟨_,pg_tup rfl (F_ (E_ (i:=17) rf.nd rfl (.inl rfl)) (F_ (E_ (i:=18) rf.nd rfl (.inl rfl)) (G_))),rfl⟩) (λ_ _ _ _ _=>⟨_,pts_one (pt_val (bD (qK T) hr T.tE T.YV T.S4 (A_ (pv 18) (A_ (pv 12) (B_))))),rfl⟩) (λ_ _ _ _ _=>⟨_,pv 17,rfl⟩)) (B_)))) (C_ (ps_for PassesOwn.never rfl (pi_list (M_ (A_ (N_ (A_ (bD (RQ T) hr T.dB T.MW T.J4 (A_ (pv 5) (B_))) (A_ (M_ (B_)) (B_)))) (A_ (N_ (A_ (pv 13) (A_ (pv 12) (B_)))) (B_))))) (pg_tup rfl (F_ (E_ (i:=14) rf.nd rfl (.inl rfl)) (F_ (E_ (i:=15) rf.nd rfl (.inl rfl)) (G_)))) (C_ (H_ (i:=16) rf.nd rfl (.inl rfl) (bD (Xr T) hr T.gA T.M6 T.OV (A_ (pv 4) (A_ (pv 15) (B_))))) (D_ (Q_ (PW.pt (pw_or (pt_cmpR op_ne (I_ (M9 hG hr.units) (by rfl) T.jA (by decide +kernel) (A_ (pv 16) B_)) (I_ (M9 hG hr.units) (by rfl) T.jA (by decide +kernel) (A_ (bD (jC T) hr T.kK T.Wa T.R8 (A_ (pv 14) (B_))) B_)) (nomark _)) (pw_or1 (pt_cmpR (op_neD hr.units) (pe_callN (Xr T) (hr.mono (by decide)) (by rfl) T.gA T.M6.kp (cO.kw (ks:=["notes", "sets"]) (g:=HF) T.M6 D4 λ_ _ _ _ _ _ ws hl=>match ws,hl with|[_,_],_=>rfl) (pk_cons (pv 15) (pk_cons (pv 4) (pk_nil)))) (pv 16) (nomark _))))) (D_ (L_ (pe_bl))) (R_))))) (D_ (Q_ (pt_cmpR op_ne (I_ (M9 hG hr.units) (by rfl) T.jA (by decide +kernel) (A_ (pv 4) B_)) (pv 6) (nomark _)) (D_ (L_ (pe_bl))) (R_)))))))))))))))))) (D_ (L_ (pe_and (S_ (op_eqD hr.units) (bD (WT T) hr T.eB T.MB T.WY (A_ (M_ (B_)) (B_))) (M_ (B_)) (nomark _)) (pe_one (S_ op_isN (bD (Xr T) hr T.gA T.M6 T.OV (A_ (M_ (B_)) (A_ (M_ (B_)) (B_)))) (pe_non) (nomark _)))))),?_⟩
 kernel_rfl
end
end wJ
namespace La
/-- from F on,p KW TM on it is g more -/
def b_ (f:Nat->Int)(F p:Nat)(g:Int):Prop:=∀d,F<=d->f (d+p)=f d+g
section
variable {f:Nat->Int}{F F' p q:Nat}{g h:Int}
theorem b_.mono (a:b_ f F p g)(e:F<=F'):b_ f F' p g:=λd hd=>a d (KaB e hd)
theorem b_.zero:b_ f F 0 0:=λd _=>by simp
theorem b_.add (a:b_ f F p g)(b:b_ f F q h):b_ f F (p+q) (g+h):=λd hd=>by
 rw [<-Kc7,b (d+p) (by omega),a d hd];omega
theorem b_.mul (a:b_ f F p g):∀k:Nat,b_ f F (k*p) (k*g)
 |0=>by simpa using b_.zero
 |k+1=>by
  have:=(a.mul k).add a
  rw [KbV]
  have e:((k+1:Nat):Int)*g=(k:Int)*g+g:=by rw [Int.natCast_succ,Int.add_mul,Int.one_mul]
  rw [e];exact this
theorem b_.sub (a:b_ f F p g)(b:b_ f F q h)(hq:q<=p):b_ f F (p-q) (g-h):=λd hd=>by
 have h1:=a d hd
 have h2:=b (d+(p-q)) (by omega)
 rw [show d+(p-q)+q=d+p by omega,h1] at h2
 omega
theorem b_.mod (a:b_ f F p g)(b:b_ f F q h):∃g',b_ f F (p % q) g':=by
 have:=a.sub (b.mul (p / q)) (KcX p q)
 refine⟨g-(p / q:Nat)*h,?_⟩
 have e:p-p / q*q=p % q:=by
  have:=Nat.div_add_mod p q
  rw [Kbi] at this
  omega
 rw [<-e];exact this
theorem b_.gcd:∀{p q:Nat} {g h:Int},b_ f F p g->b_ f F q h->∃g',b_ f F (Kbf p q) g':=by
 intro p q
 induction p,q using Kbf.induction with
 |H0 q=>intro g h a b;exact⟨h,by rw [Nat.gcd_zero_left];exact b⟩
 |H1 p q hp ih=>
  intro g h a b
  obtain⟨g',c⟩:=b.mod a
  obtain⟨g2,c2⟩:=ih c a
  exact⟨g2,by rw [Kdo];exact c2⟩
/-- bM gain is told by bM length -/
theorem b_.gain (a:b_ f F p g)(b:b_ f F' p h):g=h:=by
 have h1:=a (max F F') (Nat.le_max_left _ _)
 have h2:=b (max F F') (Nat.le_max_right _ _)
 omega
/-- what holds far off holds from where it comes again on -/
theorem b_.down (a:b_ f F p g)(hp:0<p)(b:b_ f F' q h):b_ f F q h:=λd hd=>by
 have e1:=(a.mul F') d hd
 have e2:=(a.mul F') (d+q) (by omega)
 have e3:=b (d+F'*p) (by
  have:=Nat.le_mul_of_pos_right F' hp
  omega)
 rw [show d+q+F'*p=d+F'*p+q by omega,e3,e1] at e2
 omega
/-- bM least way to tell f -/
structure Canon (f:Nat->Int)(F L:Nat)(g:Int):Prop where
 pos:0<L
 per:b_ f F L g
 len:∀F' p g',0<p->b_ f F' p g'->L<=p
 vh:∀F',b_ f F' L g->F<=F'
theorem Canon.uniq {F L F' L':Nat}{g g':Int}(a:Canon f F L g)(b:Canon f F' L' g'):F=F'/\L=L'/\g=g':=by
 have e:L=L':=KcM (a.len _ _ _ b.pos b.per) (b.len _ _ _ a.pos a.per)
 subst e
 have e2:=a.per.gain b.per
 subst e2
 exact⟨KcM (a.vh _ b.per) (b.vh _ a.per),rfl,rfl⟩
theorem Canon.dvd {L:Nat}(a:Canon f F L g)(hq:0<q)(b:b_ f F' q h):L∣q:=by
 have b':=a.per.down a.pos b
 obtain⟨g',c⟩:=a.per.gcd b'
 have hp:0<Kbf L q:=KbW _ a.pos
 have h1:=a.len _ _ _ hp c
 have h2:=Nat.gcd_le_left q a.pos
 have e:Kbf L q=L:=KcM h2 h1
 rw [<-e];exact Kct L q
end
/-- a length d8 no ze part makes HC is bM least -/
theorem CM {f:Nat->Int}{F n L:Nat}{g:Int}{ps:List Nat}(hL:0<L)(hn:0<n)(hd:L∣n)(hp:b_ f F L g)(two:∀p∈ps,2<=p)(all:∀q,2<=q->q∣n->∃p∈ps,p∣q)(no:∀p∈ps,p∣L->¬∃h,b_ f F (L / p) h):∀F' p g',0<p->b_ f F' p g'->L<=p:=by
 intro F' q h hq b
 have b':=hp.down hL b
 obtain⟨g',c⟩:=hp.gcd b'
 have hm:0<Kbf L q:=KbW _ hL
 have dm:Kbf L q∣L:=Kdi L q
 have dq:Kbf L q∣q:=Kct L q
 generalize Kbf L q=m at c hm dm dq
 by_cases e:m=L
 ·exact KaM hq (e ▸ dq)
 ·exfalso
  obtain⟨k,hk⟩:=dm
  have hk2:2<=k:=by
   have:k≠0:=by intro z;rw [z] at hk;omega
   have:k≠1:=by intro z;rw [z,Nat.mul_one] at hk;exact e hk.symm
   omega
  have kn:k∣n:=Ka0 ⟨m,by rw [Kbi];exact hk⟩ hd
  obtain⟨p,hps,j,hj⟩:=all k hk2 kn
  have p2:=two p hps
  have ek:L=p*(m*j):=by rw [hk,hj,Nat.mul_left_comm]
  refine no p hps ⟨_,ek⟩ ?_
  have e3:L / p=j*m:=by rw [ek,KaQ _ (by omega),Kbi]
  exact⟨_,by rw [e3];exact c.mul j⟩
end La
namespace La
/-- a ladder -/
structure cP where
 early:List Int
 turn:List Int
 rise:Int
def cP.at (l:cP)(d:Nat):Int:=if d<l.early.length then l.early.getD d 0 else l.turn.getD ((d-l.early.length) % l.turn.length) 0+l.rise*(((d-l.early.length) / l.turn.length:Nat):Int)
theorem cP.Bg {l:cP}{d:Nat}(h:d<l.early.length):l.at d=l.early.getD d 0:=if_pos h
theorem cP.lz {l:cP}(i:Nat):l.at (l.early.length+i)=l.turn.getD (i % l.turn.length) 0+l.rise*((i / l.turn.length:Nat):Int):=by
 unfold cP.at
 rw [if_neg (by omega),Kcx]
theorem cP.per (l:cP)(h:l.turn≠[]):b_ l.at l.early.length l.turn.length l.rise:=λd hd=>by
 have hn:0<l.turn.length:=KaH.mpr h
 obtain⟨i,rfl⟩:∃i,d=l.early.length+i:=⟨d-l.early.length,by omega⟩
 rw [Kc7,lz,lz,Nat.add_mod_right,Nat.add_div_right _ hn]
 have:((i / l.turn.length+1:Nat):Int)=((i / l.turn.length:Nat):Int)+1:=by omega
 rw [this,Int.mul_add];omega
/-- through bM first two LZ -/
theorem cP.vE {l:cP}{i:Nat}(h:i<2*l.turn.length):l.at (l.early.length+i)=if i<l.turn.length then l.turn.getD i 0 else l.turn.getD (i-l.turn.length) 0+l.rise:=by
 rw [lz]
 split
 ·rename_i h1
  rw [Kb8 h1,Kdj h1];simp
 ·rename_i h1
  have e:i / l.turn.length=1:=by
   rw [Nat.div_eq_iff (by omega)];omega
  have e2:i % l.turn.length=i-l.turn.length:=by
   rw [Nat.mod_eq_sub_mod (by omega),Kb8 (by omega)]
  rw [e,e2];simp
theorem getD_eq {α:Type}{xs:List α}{d:α}{i:Nat}(h:i<xs.length):xs.getD i d=xs[i]:=by
 simp [KcN,h]
theorem yE {xs ys:List Int}(h:xs.length=ys.length)(p:Int->Int->Bool):(xs.zip ys).all (λq=>p q.1 q.2)=true↔∀r,r<xs.length->p (xs.getD r 0) (ys.getD r 0)=true:=by
 induction xs generalizing ys with
 |nil=>simp
 |cons x xs ih=>
  cases ys with
  |nil=>simp at h
  |cons y ys=>
   simp only [Kad,Nat.add_right_cancel_iff] at h
   simp only [Kcq,Ka3,Ka7,ih h]
   constructor
   ·rintro⟨h1,h2⟩ r hr
    cases r with
    |zero=>exact h1
    |succ r=>exact h2 r (by simpa using hr)
   ·intro z
    exact⟨z 0 (by simp),λr hr=>z (r+1) (by simpa using hr)⟩
/-- what bM program asks of a HC round -/
def fQ (turn:List Int)(rise:Int)(k:Nat):List Int:=turn.drop k++(turn.take k).map λx=>x+rise
def qh (turn:List Int)(rise:Int)(k:Nat):Bool:=if rise % ((turn.length / k:Nat):Int)=0 then (turn.zip (fQ turn rise k)).all λq=>decide (q.1+rise / ((turn.length / k:Nat):Int)=q.2) else false
theorem ZE {turn:List Int}{rise:Int}{k:Nat}:(fQ turn rise k).length=turn.length:=by
 unfold fQ
 simp only [Kan,Kbk,Kag,Kbd]
 omega
theorem t6 {l:cP}{k r:Nat}(hk:k<=l.turn.length)(hr:r<l.turn.length):(fQ l.turn l.rise k).getD r 0=l.at (l.early.length+r+k):=by
 rw [Kc7,cP.vE (by omega)]
 have hl:r<(l.turn.drop k++(l.turn.take k).map λx=>x+l.rise).length:=by
  have:=ZE (turn:=l.turn) (rise:=l.rise) (k:=k)
  unfold fQ at this
  omega
 unfold fQ
 rw [getD_eq hl]
 by_cases h:r+k<l.turn.length
 ·rw [if_pos h,getD_eq h,List.getElem_append_left (by rw [Kbk];omega),List.getElem_drop]
  congr 1;omega
 ·rw [if_neg h,getD_eq (show r+k-l.turn.length<l.turn.length by omega),List.getElem_append_right (by rw [Kbk];omega),Kb9,List.getElem_take]
  congr 2
  rw [Kbk];omega
theorem oz {l:cP}{k:Nat}(h:l.turn≠[])(k0:0<k)(hd:k∣l.turn.length):qh l.turn l.rise k=true↔∃g,b_ l.at l.early.length k g:=by
 have hn:0<l.turn.length:=KaH.mpr h
 have hk:k<=l.turn.length:=KaM hn hd
 obtain⟨t,ht⟩:=hd
 have et:l.turn.length / k=t:=by rw [ht];exact KaQ _ k0
 have t0:0<t:=by
  rcases KbJ t with z|z
  ·rw [z] at ht;omega
  ·exact z
 have per:=l.per h
 unfold qh
 rw [et]
 constructor
 ·intro z
  split at z
  ·rename_i hr
   have hp:b_ l.at l.early.length k (l.rise / (t:Int)):=λd hd=>by
    have z':=(yE (by rw [ZE]) (λa b=>decide (a+l.rise / (t:Int)=b))).mp z
    have key:∀r,r<l.turn.length->l.at (l.early.length+r+k)=l.at (l.early.length+r)+l.rise / (t:Int):=λr hr=>by
     have:=of_decide_eq_true (z' r hr)
     rw [t6 hk hr] at this
     rw [<-this,cP.vE (by omega),if_pos hr]
    obtain⟨i,rfl⟩:∃i,d=l.early.length+i:=⟨d-l.early.length,by omega⟩
    have h1:=per.mul (i / l.turn.length) (l.early.length+i % l.turn.length) (by omega)
    have h2:=per.mul (i / l.turn.length) (l.early.length+i % l.turn.length+k) (by omega)
    have h3:=key (i % l.turn.length) (Kb1 _ hn)
    have ei:i % l.turn.length+i / l.turn.length*l.turn.length=i:=by
     have:=Kck i l.turn.length
     rw [Kbi] at this;exact this
    rw [show l.early.length+i % l.turn.length+i / l.turn.length*l.turn.length=l.early.length+i by omega] at h1
    rw [show l.early.length+i % l.turn.length+k+i / l.turn.length*l.turn.length=l.early.length+i+k by omega] at h2
    omega
   exact⟨_,hp⟩
  ·cases z
 ·rintro⟨g,hp⟩
  have h1:=hp.mul t
  rw [show t*k=l.turn.length by rw [ht,Kbi]] at h1
  have e1:=per.gain h1
  have e2:l.rise % (t:Int)=0:=by rw [e1];exact Int.mul_emod_right _ _
  have e3:l.rise / (t:Int)=g:=by rw [e1];exact Kcu _ (by omega)
  rw [if_pos e2,e3]
  refine (yE (by rw [ZE]) (λa b=>decide (a+g=b))).mpr λr hr=>?_
  rw [t6 hk hr,hp _ (by omega),cP.vE (by omega),if_pos hr]
  exact decide_eq_true rfl
end La
namespace Pu
open PySem L2 Enc
theorem Nj (xs:List Int)(k:Nat):aq xs (k:Int)=xs.getD k 0:=by
 unfold aq L2.atI L2.ixN
 rw [if_pos (by omega:(0:Int)<=(k:Int))]
 by_cases h:k<xs.length
 ·rw [if_pos (by omega:(k:Int)<(xs.length:Int))]
  simp [KcN]
  try rfl
 ·rw [if_neg (by omega:¬(k:Int)<(xs.length:Int))]
  simp [KcN,Kb5 (show xs.length<=k by omega)]
  try rfl
theorem Ga {xs:List Int}{i:Int}(h:0<=i):aq xs i=xs.getD i.toNat 0:=by
 rw [<-Nj,Kbn h]
theorem Np {α:Type}(xs:List α)(k:Nat):cut xs none (some (k:Int))=xs.take k:=by
 unfold cut
 rw [show HT.sIx xs.length 0 none=0 from rfl,HT.sIx_nat,List.drop_zero,Nat.sub_zero]
 by_cases h:k<=xs.length
 ·rw [Kcl h]
 ·rw [Kca (by omega),Kbp (Kat _),Kbp (by omega)]
theorem ZD {α:Type}(xs:List α)(k:Nat):cut xs (some (k:Int)) none=xs.drop k:=by
 unfold cut
 rw [show HT.sIx xs.length xs.length none=xs.length from rfl,HT.sIx_nat]
 by_cases h:k<=xs.length
 ·rw [Kcl h]
  exact Kbp (by rw [Kbk];omega)
 ·rw [Kca (by omega),Kbr,KcG (by omega),Kc8]
theorem Fx {α:Type}(xs:List α)(a b:Nat):cut xs (some (a:Int)) (some (b:Int))=(xs.drop a).take (b-a):=by
 unfold cut
 rw [HT.sIx_nat,HT.sIx_nat]
 by_cases h:a<=xs.length
 ·rw [Kcl h]
  by_cases h2:b<=xs.length
  ·rw [Kcl h2]
  ·rw [Kca (by omega),Kbp (by rw [Kbk];omega),Kbp (by rw [Kbk];omega)]
 ·rw [Kca (show xs.length<=a by omega),Kbr,KcG (show xs.length<=a by omega),Kc8,Kc8]
theorem vL (n:Nat):rng 0 (n:Int)=(KaC n).map λ(k:Nat)=>(k:Int):=by
 unfold rng
 rw [Int.sub_zero,Kay]
 exact Kax λk _=>by omega
theorem zd {lo hi x:Int}:x∈rng lo hi↔lo<=x/\x<hi:=by
 unfold rng
 rw [Kas]
 constructor
 ·rintro⟨k,hk,rfl⟩
  have:=KbG.mp hk
  omega
 ·rintro⟨h1,h2⟩
  exact⟨(x-lo).toNat,KbG.mpr (by omega),by omega⟩
theorem rT (lo hi:Int):(rng lo hi).length=(hi-lo).toNat:=by
 unfold rng;simp
theorem Kr {σ:Type}{c:σ->Prop}[DecidablePred c]{f:σ->σ}{dc d:σ->Prop}(Inv:σ->Prop)(μ:σ->Nat)(h:∀st,Inv st->dc st/\(c st->d st/\Inv (f st)/\μ (f st)<μ st)):
  ∀(n:Nat) (st:σ),Inv st->μ st<n->vn c f dc d n st/\Inv (lA c f n st)/\¬c (lA c f n st)
 |0,st,_,hm=>by omega
 |n+1,st,hi,hm=>by
  obtain⟨h1,h2⟩:=h st hi
  unfold vn lA
  by_cases p:c st
  ·obtain⟨h3,h4,h5⟩:=h2 p
   obtain⟨i1,i2,i3⟩:=Kr Inv μ h n (f st) h4 (by omega)
   rw [if_pos p]
   exact⟨⟨h1,λ_=>⟨h3,i1⟩⟩,i2,i3⟩
  ·rw [if_neg p]
   exact⟨⟨h1,λq=>absurd q p⟩,hi,p⟩
theorem Kn {a b:Nat}:(b:Int) % (a:Int)=0↔a∣b:=by
 rw [<-Kbt]
 constructor
 ·intro h
  exact Nat.dvd_of_mod_eq_zero (by omega)
 ·intro h
  have:=Nat.mod_eq_zero_of_dvd h
  omega
/-- q has no part in fs -/
def JL (fs:List Int)(q:Nat):Prop:=∀p∈fs,¬(p∣(q:Int))
/-- what is left of n behind bM parts fs,with no part below p -/
structure JQ (n:Nat)(fs:List Int)(l p:Nat):Prop where
 n1:1<=n
 l1:1<=l
 p2:2<=p
 ln:l∣n
 two:∀q∈fs,2<=q
 A:∀q:Nat,q∣n->JL fs q->q∣l
 B:∀q:Nat,2<=q->q<p->¬q∣l
 len:fs.length+2<=p
theorem uC (n:Nat)(hn:n<1000000)(st:List Int×Int×Int)(l p:Nat)(hp:st.2.2=(p:Int))(p2:2<=p)(hl:1<=l)(hln:l<=n):
  vn (Em st) (Ij st) (MS st) (MD st) fuel (l:Int)/\∃l':Nat,lA (Em st) (Ij st) fuel (l:Int)=(l':Int)/\1<=l'/\l'∣l/\¬p∣l'/\∀q:Nat,Kdp q p->q∣l->q∣l':=by
 have key:=Kr (c:=Em st) (f:=Ij st) (dc:=MS st) (d:=MD st)
  (λx=>∃l':Nat,x=(l':Int)/\1<=l'/\l'∣l/\∀q:Nat,Kdp q p->q∣l->q∣l') (λx=>x.toNat) (λx hx=>by
   obtain⟨l',rfl,h1,h2,h3⟩:=hx
   unfold MS MD Em Ij lt
   rw [hp]
   have hle:p<=1000000∨1000000<p:=by omega
   refine⟨by omega,λhc=>?_⟩
   have hd:p∣l':=Kn.mp hc
   have e:(l':Int) / (p:Int)=((l' / p:Nat):Int):=by rw [Kdk]
   obtain⟨k,hk⟩:=hd
   have hk1:l' / p=k:=by rw [hk];exact KaQ _ (by omega)
   have k0:1<=k:=by
    rcases KbJ k with z|z
    ·rw [z] at hk;omega
    ·exact z
   have hpl:p<=l':=KaM h1 ⟨k,hk⟩
   have hll:l'<=l:=KaM hl h2
   refine⟨⟨by omega,?_⟩,⟨k,by rw [e,hk1],k0,Ka0 ⟨p,by rw [hk,Kbi]⟩ h2,λq hq hql=>?_⟩,?_⟩
   ·omega
   ·have:=h3 q hq hql
    rw [hk] at this
    exact hq.dvd_of_dvd_mul_left this
   ·rw [e,hk1]
    simp only [Kay]
    have:2*k<=p*k:=Kcc k p2
    omega) fuel (l:Int) ⟨l,rfl,hl,KbM _,λq _ h=>h⟩ (by unfold fuel;simp;omega)
 obtain⟨k1,⟨l',e,h1,h2,h3⟩,k3⟩:=key
 refine⟨k1,l',e,h1,h2,λhd=>k3 ?_,h3⟩
 rw [e]
 unfold Em
 rw [hp]
 exact Kn.mpr hd
theorem wB (n:Nat)(hn:n<99000)(fs:List Int)(l p:Nat)(h:JQ n fs l p)(hl:1<l):
  MR (fs,(l:Int),(p:Int))/\∃fs' l',Ig (fs,(l:Int),(p:Int))=(fs',((l':Nat):Int),((p+1:Nat):Int))/\JQ n fs' l' (p+1):=by
 have hln:l<=n:=KaM h.n1 h.ln
 have hpl:p<=l:=by
  rcases Kbc l p with z|z
  ·exact absurd (KbM l) (h.B l (by omega) z)
  ·exact z
 have hlen:=h.len
 have p2:=h.p2
 obtain⟨i1,l',i2,i3,i4,i5,i6⟩:=uC n (by omega) (fs,(l:Int),(p:Int)) l p rfl h.p2 h.l1 hln
 constructor
 ·unfold MR bu
  exact⟨by show (0:Int)<(p:Int);omega,λ_=>⟨by show fs.length<100000;omega,i1⟩⟩
 ·unfold Ig lt
  by_cases hd:p∣l
  ·have pr:∀q:Nat,¬p∣q->Kdp q p:=λq hq=>by
    have g1:Kbf q p∣p:=Kct q p
    have g2:Kbf q p∣q:=Kdi q p
    have g3:Kbf q p<=p:=KaM (by omega) g1
    rcases Kbc (Kbf q p) 2 with z|z
    ·have:0<Kbf q p:=Kcv _ (by omega)
     exact (by omega:Kbf q p=1)
    ·rcases Kbc (Kbf q p) p with y|y
     ·exact absurd (Ka0 g1 hd) (h.B _ z y)
     ·have e:Kbf q p=p:=by omega
      rw [e] at g2
      exact absurd g2 hq
   refine⟨fs++[(p:Int)],l',?_,⟨h.n1,i3,by omega,Ka0 i4 h.ln,λq hq=>?_,λq hq hno=>?_,λq hq1 hq2=>?_,?_⟩⟩
   ·simp only [if_pos (Kn.mpr hd)]
    rw [i2]
    congr 1
   ·rcases Kam.mp hq with z|z
    ·exact h.two q z
    ·have:q=(p:Int):=by simpa using z
     omega
   ·have hp:¬p∣q:=λz=>hno (p:Int) (Kao _ (by simp)) (Kcy.mpr z)
    exact i6 q (pr q hp) (h.A q hq λr hr=>hno r (Kac _ hr))
   ·intro hql
    rcases Kbc q p with z|z
    ·exact h.B q hq1 z (Ka0 hql i4)
    ·have:q=p:=by omega
     exact i5 (this ▸ hql)
   ·simp only [Kan,Kad,Kbh];omega
  ·refine⟨fs,l,?_,⟨h.n1,h.l1,by omega,h.ln,h.two,h.A,λq hq1 hq2=>?_,by omega⟩⟩
   ·simp only [if_neg (λz=>hd (Kn.mp z))]
    congr 1
   ·rcases Kbc q p with z|z
    ·exact h.B q hq1 z
    ·have:q=p:=by omega
     exact this ▸ hd
theorem jF (n:Nat)(h1:1<=n)(hn:n<99000):Bb (n:Int)/\(∀p∈Fb (n:Int),2<=p)/\∀q:Nat,2<=q->q∣n->∃p∈Fb (n:Int),p∣(q:Int):=by
 have key:=Kr (c:=Ia) (f:=Ig) (dc:=V2) (d:=MR)
  (λst=>∃fs l p,st=(fs,((l:Nat):Int),((p:Nat):Int))/\JQ n fs l p) (λst=>n+2-st.2.2.toNat) (λst hst=>by
   obtain⟨fs,l,p,rfl,h⟩:=hst
   refine⟨trivial,λhc=>?_⟩
   have hl:1<l:=by
    have hc:(1:Int)<(l:Int):=hc
    omega
   obtain⟨h2,fs',l',e,h3⟩:=wB n hn fs l p h hl
   refine⟨h2,⟨fs',l',p+1,e,h3⟩,?_⟩
   rw [e]
   have hln:l<=n:=KaM h.n1 h.ln
   have hpl:p<=l:=by
    rcases Kbc l p with z|z
    ·exact absurd (KbM l) (h.B l (by omega) z)
    ·exact z
   simp only [Kay]
   omega) fuel ([],(n:Int),2) ⟨[],n,2,rfl,h1,h1,by omega,KbM _,(by simp),λq hq _=>hq,λq _ _=>by omega,(by simp)⟩ (by unfold fuel;show n+2-2<1000000;omega)
 obtain⟨k1,⟨fs,l,p,e,h⟩,k3⟩:=key
 have hl:l=1:=by
  rw [e] at k3
  unfold Ia at k3
  have:=h.l1
  have k4:¬(1:Int)<(l:Int):=k3
  omega
 have et:Fb (n:Int)=fs:=by
  show (lA Ia Ig fuel ([],(n:Int),2)).1=fs
  rw [e]
 refine⟨k1,?_,λq hq hqn=>?_⟩
 ·rw [et];exact h.two
 ·rw [et]
  by_cases hno:∃p∈fs,p∣(q:Int)
  ·exact hno
  ·have:=h.A q hqn λp hp hd=>hno ⟨p,hp,hd⟩
   rw [hl] at this
   have:=KaM (by omega) this
   omega
abbrev cP:=HX
def la (L:cP):La.cP:=⟨L.x,L.y,L.z⟩
/-- what a ladder tells of a day -/
def lat (L:cP)(d:Nat):Int:=(la L).at d
theorem K0 {a b:Nat}:(a:Int) / (b:Int)=((a / b:Nat):Int):=by rw [Kdk]
theorem su (turn:List Int)(rise:Int)(k:Nat):Ox turn rise (k:Int)=La.qh turn rise k:=by
 unfold Ox La.qh La.fQ
 simp only [lt,K0,Np,ZD]
 by_cases h:rise % ((turn.length / k:Nat):Int)=0
 ·rw [if_neg (by simpa using h),if_pos h,KbL];rfl
 ·rw [if_pos h,if_neg h]
theorem zb (turn:List Int)(rise:Int)(k:Nat)(k0:0<k)(hk:k<=turn.length)(hn:turn.length<=99000):Ak turn rise (k:Int):=by
 unfold Ak
 simp only [bu,K0,Np,ZD]
 have t0:0<turn.length / k:=Kcz hk k0
 have t1:turn.length / k<=turn.length:=KcO _ _
 refine⟨⟨by omega,by omega⟩,by omega,λ_=>⟨?_,?_,λx _=>⟨by omega,by omega⟩,?_⟩⟩
 ·rw [Kbd];omega
 ·rw [Kbk,Kag,Kbd];omega
 ·rw [Kcj];omega
open La in
/-- a ze part is taken as long as bM round comes again -/
theorem qF (l:La.cP)(h:l.turn≠[])(hn:l.turn.length<=99000)(p:Nat)(p2:2<=p)(k:Nat)(k0:0<k)(hk:k∣l.turn.length)(hp:∃g,b_ l.at l.early.length k g):
  vn (Ek l.turn l.rise (p:Int)) (HY l.turn l.rise (p:Int)) (MQ l.turn l.rise (p:Int)) (MC l.turn l.rise (p:Int)) fuel (k:Int) /\
  ∃k':Nat,lA (Ek l.turn l.rise (p:Int)) (HY l.turn l.rise (p:Int)) fuel (k:Int)=(k':Int)/\0<k'/\k'∣k/\(∃g,b_ l.at l.early.length k' g)/\¬(p∣k'/\∃g,b_ l.at l.early.length (k' / p) g):=by
 have n0:0<l.turn.length:=KaH.mpr h
 have hkn:k<=l.turn.length:=KaM n0 hk
 have key:=Kr (c:=Ek l.turn l.rise (p:Int)) (f:=HY l.turn l.rise (p:Int)) (dc:=MQ l.turn l.rise (p:Int)) (d:=MC l.turn l.rise (p:Int))
  (λx=>∃k':Nat,x=(k':Int)/\0<k'/\k'∣k/\∃g,b_ l.at l.early.length k' g) (λx=>x.toNat) (λx hx=>by
   obtain⟨k',rfl,h1,h2,h3⟩:=hx
   have aqD:k'<=l.turn.length:=KaB (KaM k0 h2) hkn
   unfold MQ MC Ek HY
   simp only [lt,K0]
   have big:(p:Int)<1000000000000000000000000000000000000000000000000000000000000∨¬p∣k':=by
    by_cases z:p∣k'
    ·have:=KaM h1 z
     exact .inl (by omega)
    ·exact .inr z
   refine⟨⟨by omega,λhd=>?_⟩,λhc=>?_⟩
   ·have hd':=Kn.mp hd
    have hpk:=KaM h1 hd'
    refine⟨⟨by omega,by omega⟩,zb _ _ _ (Kcz hpk (by omega)) (KaB (KcO _ _) aqD) hn⟩
   ·obtain⟨hd,hc⟩:=hc
    have hd':=Kn.mp hd
    have hpk:=KaM h1 hd'
    have hq0:0<k' / p:=Kcz hpk (by omega)
    have hqd:k' / p∣k':=Kc9 hd'
    rw [su] at hc
    have K5:=(oz h hq0 (Ka0 hqd (Ka0 h2 hk))).mp hc
    refine⟨⟨by omega,by omega⟩,⟨_,rfl,hq0,Ka0 hqd h2,K5⟩,?_⟩
    simp only [Kay]
    exact Nat.div_lt_self h1 (by omega)) fuel (k:Int) ⟨k,rfl,k0,KbM _,hp⟩ (by unfold fuel;simp;omega)
 obtain⟨k1,⟨k',e,h1,h2,h3⟩,k3⟩:=key
 refine⟨k1,k',e,h1,h2,h3,λhc=>k3 ?_⟩
 rw [e]
 unfold Ek
 simp only [K0]
 have hpk:=KaM h1 hc.1
 refine⟨Kn.mpr hc.1,?_⟩
 rw [su]
 exact (oz h (Kcz hpk (by omega)) (Ka0 (Kc9 hc.1) (Ka0 h2 hk))).mpr hc.2
open La in
theorem j7 (l:La.cP)(h:l.turn≠[])(hn:l.turn.length<=99000):∀(ps:List Int) (done:List Int) (k:Nat),(∀p∈ps,2<=p)->0<k->k∣l.turn.length->(∃g,b_ l.at l.early.length k g)->(∀p∈done,2<=p/\¬(p.toNat∣k/\∃g,b_ l.at l.early.length (k / p.toNat) g)) ->
  bH (J0 l.turn l.rise) (Rw l.turn l.rise) ps (k:Int)/\∃k':Nat,ps.foldl (J0 l.turn l.rise) (k:Int)=(k':Int)/\0<k'/\k'∣l.turn.length/\(∃g,b_ l.at l.early.length k' g)/\∀p∈done++ps,¬(p.toNat∣k'/\∃g,b_ l.at l.early.length (k' / p.toNat) g)
 |[],done,k,_,h1,h2,h3,h4=>⟨trivial,k,rfl,h1,h2,h3,λp hp=>(h4 p (by simpa using hp)).2⟩
 |p::ps,done,k,hps,h1,h2,h3,h4=>by
  have p2:=hps p Kaa
  have ep:((p.toNat:Nat):Int)=p:=Kbn (by omega)
  obtain⟨i1,k',i2,i3,i4,i5,i6⟩:=qF l h hn p.toNat (by omega) k h1 h2 h3
  rw [ep] at i1 i2
  have e1:J0 l.turn l.rise (k:Int) p=(k':Int):=i2
  have carry:∀q∈done++[p],2<=q/\¬(q.toNat∣k'/\∃g,b_ l.at l.early.length (k' / q.toNat) g):=λq hq=>by
   rcases Kam.mp hq with z|z
   ·obtain⟨q2,hno⟩:=h4 q z
    refine⟨q2,λhc=>hno ?_⟩
    obtain⟨⟨j,hj⟩,g,hg⟩:=hc
    obtain⟨t,ht⟩:=i4
    have q0:0<q.toNat:=by omega
    refine⟨⟨j*t,by rw [ht,hj,KcA]⟩,?_⟩
    have e2:k' / q.toNat=j:=by rw [hj];exact KaQ _ q0
    have e3:k / q.toNat=t*j:=by rw [ht,hj,KcA,KaQ _ q0,Kbi]
    rw [e2] at hg
    rw [e3]
    exact⟨_,hg.mul t⟩
   ·have:q=p:=by simpa using z
    subst this
    exact⟨p2,i6⟩
  obtain⟨j1,k2,j2,j3,j4,j5,j6⟩:=j7 l h hn ps (done++[p]) k' (λq hq=>hps q (Kab _ hq)) i3 (Ka0 i4 h2) i5 carry
  refine⟨⟨i1,by rw [e1];exact j1⟩,k2,?_,j3,j4,j5,λq hq=>j6 q (by simpa using hq)⟩
  rw [KaD,e1];exact j2
open La in
theorem t_ (l:La.cP)(h:l.turn≠[])(hn:l.turn.length<99000):Bk l.turn l.rise/\∃k:Nat,MM l.turn l.rise=(k:Int)/\0<k/\k∣l.turn.length/\(∃g,b_ l.at l.early.length k g)/\∀F' p g',0<p->b_ l.at F' p g'->k<=p:=by
 have n0:0<l.turn.length:=KaH.mpr h
 obtain⟨q1,q2,q3⟩:=jF l.turn.length n0 hn
 obtain⟨j1,k,j2,j3,j4,⟨g,j5⟩,j6⟩:=j7 l h (by omega) (Fb (l.turn.length:Int)) [] l.turn.length q2 n0 (KbM _) ⟨_,l.per h⟩ (by simp)
 refine⟨⟨q1,j1⟩,k,j2,j3,j4,⟨g,j5⟩,?_⟩
 refine CM (ps:=(Fb (l.turn.length:Int)).map KaU) j3 n0 j4 j5 ?_ ?_ ?_
 ·intro p hp
  obtain⟨q,hq,rfl⟩:=Kas.mp hp
  have:=q2 q hq
  omega
 ·intro q hq hd
  obtain⟨p,hp,hpd⟩:=q3 q hq hd
  have p2:=q2 p hp
  refine⟨p.toNat,KaA hp,?_⟩
  rw [<-Kbn (show 0<=p by omega)] at hpd
  exact Kcy.mp hpd
 ·intro p hp hd K5
  obtain⟨q,hq,rfl⟩:=Kas.mp hp
  exact j6 q (by simpa using hq) ⟨hd,K5⟩
end Pu
namespace Pu
open PySem L2 Enc La
/-- bM ladder with this Mx,round and gain d8 tells f -/
def rB (f:Nat->Int)(F k:Nat)(g:Int):cP:=T3.mk ((KaC F).map f) ((KaC k).map λi=>f (F+i)) g
theorem MF {f:Nat->Int}{n i:Nat}(h:i<n):((KaC n).map f).getD i 0=f i:=by
 rw [La.getD_eq (by simpa using h)];simp
theorem IF {L:cP}{d:Nat}(h:d<L.x.length):lat L d=L.x.getD d 0:=La.cP.Bg h
theorem Ni (L:cP)(i:Nat):lat L (L.x.length+i)=L.y.getD (i % L.y.length) 0+L.z*((i / L.y.length:Nat):Int):=La.cP.lz i
theorem Uw (L:cP)(h:L.y≠[]):b_ (lat L) L.x.length L.y.length L.z:=La.cP.per (la L) h
theorem Uh {L:cP}{i:Nat}(h:i<L.y.length):lat L (L.x.length+i)=L.y.getD i 0:=by
 rw [Ni,Kb8 h,Kdj h];simp
/-- two d8 VN again alike,and are alike through bM first round -/
theorem G8 {f f':Nat->Int}{F k:Nat}{g:Int}(k0:0<k)(a:b_ f F k g)(b:b_ f' F k g)(h:∀d,d<F+k->f d=f' d):f=f':=by
 funext d
 by_cases hd:d<F+k
 ·exact h d hd
 ·have e:d=(F+(d-F) % k)+((d-F) / k)*k:=by
   have:=Kck (d-F) k
   rw [Kbi] at this
   omega
  have hm:=Kb1 (d-F) k0
  have h1:=(a.mul ((d-F) / k)) (F+(d-F) % k) (by omega)
  have h2:=(b.mul ((d-F) / k)) (F+(d-F) % k) (by omega)
  rw [<-e] at h1 h2
  rw [h1,h2,h _ (by omega)]
theorem GI {f:Nat->Int}{F k:Nat}{g:Int}(k0:0<k)(p:b_ f F k g):lat (rB f F k g)=f:=by
 have hx:(rB f F k g).x.length=F:=by simp [rB]
 have hy:(rB f F k g).y.length=k:=by simp [rB]
 have ny:(rB f F k g).y≠[]:=λz=>by rw [z] at hy;simp at hy;omega
 have p2:=Uw (rB f F k g) ny
 rw [hx,hy] at p2
 refine G8 k0 p2 p λd hd=>?_
 by_cases h:d<F
 ·rw [IF (by rw [hx];exact h)]
  exact MF h
 ·obtain⟨i,rfl⟩:∃i,d=F+i:=⟨d-F,by omega⟩
  have:=Uh (L:=rB f F k g) (i:=i) (by rw [hy];omega)
  rw [hx] at this
  rw [this]
  exact MF (f:=λi=>f (F+i)) (by omega)
theorem Ph (xs ys:List Int)(i:Nat):(xs++ys).getD i 0=if i<xs.length then xs.getD i 0 else ys.getD (i-xs.length) 0:=by
 simp only [KcN]
 by_cases h:i<xs.length
 ·rw [if_pos h,List.getElem?_append_left h]
 ·rw [if_neg h,Kcm (by omega)]
theorem Uq (xs:List Int){i k:Nat}(h:i<k):(xs.take k).getD i 0=xs.getD i 0:=by
 simp only [KcN]
 rw [List.getElem?_take_of_lt h]
theorem Uu {xs ys:List Int}(hl:xs.length=ys.length)(h:∀i,i<xs.length->xs.getD i 0=ys.getD i 0):xs=ys:=by
 apply List.ext_getElem hl
 intro i h1 h2
 have:=h i h1
 rw [La.getD_eq h1,La.getD_eq h2] at this
 exact this
theorem KA (L:cP)(h:L.y≠[])(hn:L.x.length+L.y.length<99000):yZ L/\∃F k g,Canon (lat L) F k g/\F<=L.x.length/\k∣L.y.length/\k<=L.y.length/\L.z=((L.y.length / k:Nat):Int)*g/\gj L=rB (lat L) F k g:=by
 have n0:0<L.y.length:=KaH.mpr h
 obtain⟨dl,k,ek,k0,kd,⟨g,hg⟩,hmin⟩:=t_ (la L) h (by show L.y.length<99000;omega)
 have ek:MM L.y L.z=(k:Int):=ek
 have kn:k<=L.y.length:=KaM n0 kd
 have hg:b_ (lat L) L.x.length k g:=hg
 obtain⟨t,ht⟩:=kd
 have ht:L.y.length=k*t:=ht
 have t0:0<t:=by
  rcases KbJ t with z|z
  ·rw [z] at ht;omega
  ·exact z
 have et:L.y.length / k=t:=by rw [ht];exact KaQ _ k0
 have IW:L.z=(t:Int)*g:=by
  have h1:=hg.mul t
  rw [show t*k=L.y.length by rw [ht,Kbi]] at h1
  exact (Uw L h).gain h1
 have IV:L.z*(k:Int) / (L.y.length:Int)=g:=by
  rw [IW,ht,KbN,KcB,Kb6 g,<-KcB,Kb6 (t:Int)]
  exact Kcu _ (by
   have:0<(k:Int)*(t:Int):=Int.mul_pos (by omega) (by omega)
   omega)
 have enum:∀i,i<L.x.length+k->(L.x++L.y.take k).getD i 0=lat L i:=λi hi=>by
  rw [Ph]
  split
  ·rename_i z;rw [IF z]
  ·rename_i z
   rw [Uq _ (by omega)]
   have:=Uh (L:=L) (i:=i-L.x.length) (by omega)
   rw [show L.x.length+(i-L.x.length)=i by omega] at this
   rw [this]
 have QG:(L.x++L.y.take k).length=L.x.length+k:=by rw [Kan,Kbd];omega
 have key:=Kr (c:=Iq (k:Int) g (L.x++L.y.take k)) (f:=MU (k:Int) g (L.x++L.y.take k)) (dc:=OD (k:Int) g (L.x++L.y.take k)) (d:=RO (k:Int) g (L.x++L.y.take k))
  (λx=>∃F:Nat,x=(F:Int)/\F<=L.x.length/\b_ (lat L) F k g) (λx=>x.toNat) (λx hx=>by
   obtain⟨F,rfl,h1,h2⟩:=hx
   unfold OD RO Iq MU
   simp only [lt]
   rw [QG]
   refine⟨λhF=>⟨⟨by omega,by omega⟩,by omega,by omega⟩,λhc=>?_⟩
   obtain⟨hF,hc⟩:=hc
   obtain⟨G,rfl⟩:∃G:Nat,F=G+1:=⟨F-1,by omega⟩
   rw [show ((G+1:Nat):Int)-1=(G:Int) by omega,Nj,show (G:Int)+(k:Int)=((G+k:Nat):Int) by omega,Nj,enum _ (by omega),enum _ (by omega)] at hc
   refine⟨trivial,⟨G,by omega,by omega,λd hd=>?_⟩,by omega⟩
   by_cases e:d=G
   ·subst e;exact hc.symm
   ·exact h2 d (by omega)) fuel (L.x.length:Int) ⟨_,rfl,Kat _,hg⟩ (by unfold fuel;simp;omega)
 obtain⟨k1,⟨F,eF,v9,xH⟩,k3⟩:=key
 refine⟨?_,F,k,g,⟨k0,xH,hmin,λF' hp=>?_⟩,v9,⟨t,ht⟩,kn,by rw [et];exact IW,?_⟩
 ·unfold yZ
  simp only [bu]
  rw [ek,IV,Np]
  exact⟨dl,.inr (by simp;omega),⟨by omega,by omega⟩,by rw [Kbd];omega,k1⟩
 ·rcases Kbc F' F with z|z
  ·exfalso
   apply k3
   rw [eF]
   unfold Iq
   obtain⟨G,rfl⟩:∃G:Nat,F=G+1:=⟨F-1,by omega⟩
   rw [show ((G+1:Nat):Int)-1=(G:Int) by omega,Nj,show (G:Int)+(k:Int)=((G+k:Nat):Int) by omega,Nj,enum _ (by omega),enum _ (by omega)]
   exact⟨by omega,(hp G (by omega)).symm⟩
  ·exact z
 ·unfold gj
  simp only [lt]
  rw [ek,IV,Np,eF,Np,show (F:Int)+(k:Int)=((F+k:Nat):Int) by omega,Fx,Kcx]
  unfold rB
  congr 1
  ·refine Uu (by simp;omega) λi hi=>?_
   have hi:i<F:=by rw [Kbd,QG] at hi;omega
   rw [Uq _ hi,enum _ (by omega),MF hi]
  ·refine Uu (by simp;omega) λi hi=>?_
   have hi:i<k:=by rw [Kbd] at hi;omega
   rw [Uq _ hi,MF (f:=λi=>lat L (F+i)) hi,<-enum _ (by omega)]
   simp only [KcN,List.getElem?_drop]
/-- a ladder whose lists r_ be walked -/
structure Sm (B:Nat)(L:cP):Prop where
 y:L.y≠[]
 n:L.x.length+L.y.length<=B
theorem Sm.mono {B B':Nat}{L:cP}(h:Sm B L)(hb:B<=B'):Sm B' L:=⟨h.y,KaB h.n hb⟩
theorem HK {L:cP}(h:Sm 98000 L):yZ L:=(KA L h.y (by have:=h.n;omega)).1
theorem pU {L L':cP}(h:Sm 98000 L)(h':Sm 98000 L')(e:lat L=lat L'):gj L=gj L':=by
 obtain⟨_,F,k,g,c,_,_,_,_,r⟩:=KA L h.y (by have:=h.n;omega)
 obtain⟨_,F',k',g',c',_,_,_,_,r'⟩:=KA L' h'.y (by have:=h'.n;omega)
 rw [<-e] at c'
 obtain⟨rfl,rfl,rfl⟩:=c.uniq c'
 rw [r,r',e]
theorem yC {L:cP}(h:Sm 98000 L):lat (gj L)=lat L:=by
 obtain⟨_,F,k,g,c,_,_,_,_,r⟩:=KA L h.y (by have:=h.n;omega)
 rw [r];exact GI c.pos c.per
theorem hjg {B:Nat}{L:cP}(h:Sm B L)(hB:B<=98000):Sm B (gj L):=by
 obtain⟨_,F,k,g,c,hF,_,hk,_,r⟩:=KA L h.y (by have:=h.n;omega)
 rw [r]
 have k0:=c.pos
 refine⟨λz=>?_,by simp [rB];have:=h.n;omega⟩
 have:(rB (lat L) F k g).y.length=k:=by simp [rB]
 rw [z] at this
 simp at this
 omega
theorem Ud {L:cP}(h:Sm 98000 L):(gj L).x.length<=L.x.length/\(gj L).y.length<=L.y.length/\(gj L).y.length∣L.y.length/\L.z=((L.y.length / (gj L).y.length:Nat):Int)*(gj L).z:=by
 obtain⟨_,F,k,g,c,hF,hd,hk,hz,r⟩:=KA L h.y (by have:=h.n;omega)
 rw [r]
 simp only [rB,Kag,KbB]
 exact⟨hF,hk,hd,hz⟩
theorem Hq {lo hi:Int}(h:hi<=lo):rng lo hi=[]:=by
 unfold rng
 rw [show (hi-lo).toNat=0 by omega];rfl
theorem YC (y:List Int)(z:Int):∀n:Nat,(Kcn (λ(x1:Int)=>Kaf (λ(x2:Int)=>x2+z*x1) y) (rng 0 (n:Int))).length=n*y.length
 |0=>by rw [Hq (by omega)];simp
 |n+1=>by
  have e:rng 0 ((n+1:Nat):Int)=rng 0 (n:Int)++[(n:Int)]:=by
   rw [vL,vL,Kbo,Kaz];rfl
  rw [e,KcY,Kan,YC y z n]
  simp [KbV]
theorem gw (y:List Int)(z:Int)(hy:y≠[]):∀(n i:Nat),i<n*y.length->(Kcn (λ(x1:Int)=>Kaf (λ(x2:Int)=>x2+z*x1) y) (rng 0 (n:Int))).getD i 0=y.getD (i % y.length) 0+z*((i / y.length:Nat):Int)
 |0,i,h=>by omega
 |n+1,i,h=>by
  have n0:0<y.length:=KaH.mpr hy
  have e:rng 0 ((n+1:Nat):Int)=rng 0 (n:Int)++[(n:Int)]:=by
   rw [vL,vL,Kbo,Kaz];rfl
  rw [e,KcY,Ph,YC]
  split
  ·rename_i h1;exact gw y z hy n i h1
  ·rename_i h1
   rw [KbV] at h
   have e1:i / y.length=n:=by
    rw [Nat.div_eq_iff n0]
    omega
   have e2:i % y.length=i-n*y.length:=by
    have:=Kck i y.length
    rw [e1,Kbi] at this
    omega
   rw [e1,e2]
   have hi:i-n*y.length<y.length:=by omega
   simp only [KbA,List.flatMap_nil,KaE]
   rw [La.getD_eq (by simpa using hi),Kb9,La.getD_eq hi]
theorem sW (L:cP)(h:L.y≠[])(n:Nat)(hn:L.x.length+n+L.y.length<=98000):Av L (n:Int)/\Oh L (n:Int)=(KaC n).map (lat L):=by
 have n0:0<L.y.length:=KaH.mpr h
 have el:(max (0:Int) ((n:Int)-(L.x.length:Int))) / (L.y.length:Int)+1=(((n-L.x.length) / L.y.length+1:Nat):Int):=by
  rw [show max (0:Int) ((n:Int)-(L.x.length:Int))=((n-L.x.length:Nat):Int) by omega,K0];rfl
 have aq6:((n-L.x.length) / L.y.length)*L.y.length<=n-L.x.length:=KcX _ _
 have aqE:(n-L.x.length) / L.y.length<=n-L.x.length:=KcO _ _
 have aqF:n-L.x.length<((n-L.x.length) / L.y.length+1)*L.y.length:=by
  have:=Kck (n-L.x.length) L.y.length
  have h2:=Kb1 (n-L.x.length) n0
  rw [KbV,Kbi]
  omega
 have hlen:=YC L.y L.z ((n-L.x.length) / L.y.length+1)
 have hsz:((n-L.x.length) / L.y.length+1)*L.y.length<=n-L.x.length+L.y.length:=by rw [KbV];omega
 constructor
 ·unfold Av
  simp only [bu]
  rw [el,hlen]
  generalize (n-L.x.length) / L.y.length=q at *
  refine⟨⟨by omega,by omega⟩,⟨by omega,by omega⟩,λx hx y _=>.inr ?_,by omega,by omega⟩
  have:=zd.mp hx
  omega
 ·unfold Oh
  simp only [lt]
  rw [el,Np]
  refine Uu ?_ λi hi=>?_
  ·rw [Kbd,Kan,hlen]
   simp only [Kag,KbB]
   omega
  ·have hi:i<n:=by rw [Kbd] at hi;omega
   rw [Uq _ hi,MF hi,Ph]
   split
   ·rename_i z;rw [IF z]
   ·rename_i z
    rw [gw _ _ h _ _ (by omega)]
    have:=Ni L (i-L.x.length)
    rw [show L.x.length+(i-L.x.length)=i by omega] at this
    rw [this]
theorem BS (xs:List Int):∀k:Int,cf k xs=(KaC xs.length).map λ(i:Nat)=>(k+(i:Int),xs.getD i 0):=by
 induction xs with
 |nil=>intro k;rfl
 |cons x xs ih=>
  intro k
  unfold cf
  rw [ih,Kad,KbH,Kai,KaL]
  congr 1
  ·simp
  ·refine Kax λi _=>?_
   simp
   omega
/-- bM KW where a list holds 1 -/
def ones (xs:List Int):List Int:=((KaC xs.length).filter λi=>decide (xs.getD i 0=1)).map λ(i:Nat)=>(i:Int)
theorem yg (xs:List Int):Kaf (λ(x1:Int×Int)=>x1.1) (KaS (λ(x1:Int×Int)=>decide (x1.2=(1:Int))) (cf 0 xs))=ones xs:=by
 rw [BS,KcP,KaL]
 unfold ones
 refine Kax λi _=>?_
 simp
theorem gxu (xs:List Int)(d:Int):d∈ones xs↔0<=d/\d<xs.length/\xs.getD d.toNat 0=1:=by
 unfold ones
 rw [Kas]
 constructor
 ·rintro⟨i,hi,rfl⟩
  obtain⟨h1,h2⟩:=Kbb.mp hi
  have:=KbG.mp h1
  exact⟨by omega,by omega,by simpa using h2⟩
 ·rintro⟨h0,h1,h2⟩
  exact⟨d.toNat,Kbb.mpr ⟨KbG.mpr (by omega),by simpa using h2⟩,by omega⟩
theorem Bc (xs:List Int):(ones xs).Pairwise (·<·):=by
 unfold ones
 refine KbC.mpr ?_
 refine ((KbY (n:=xs.length)).sublist KbU).imp ?_
 intro a b h;omega
abbrev DS:=aX
def aA (S:DS)(d:Nat):Bool:=if (d:Int)<S.y then decide ((d:Int)∈S.x) else decide (((d:Int)-S.y) % S.z∈S.u)
/-- ow,from 0 to below hi -/
structure wI (ns:List Int)(hi:Int):Prop where
 pw:ns.Pairwise (·<·)
 rg:∀x∈ns,0<=x/\x<hi
structure lq (S:DS):Prop where
 y0:0<=S.y
 z1:1<=S.z
 x:wI S.x S.y
 u:wI S.u S.z
/-- bM row of a set,or of bits,as a ladder -/
def rl (r:List Int×List Int):cP:=T3.mk r.1 r.2 0
theorem jQ (xs:List Int)(k:Int):(aN (Kbw (Kaf (λ(x1:Int)=>(x1,true)) xs)) k).isSome=true↔k∈xs:=by
 have key:∀f:List (Int×Bool),(aN f k).isSome=true↔∃v,(k,v)∈f:=by
  intro f
  induction f with
  |nil=>simp [aN]
  |cons p f ih=>
   obtain⟨a,v⟩:=p
   unfold aN
   by_cases h:a=k
   ·rw [if_pos h]
    simp [h]
   ·rw [if_neg h,ih]
    constructor
    ·rintro⟨w,hw⟩;exact⟨w,Kab _ hw⟩
    ·rintro⟨w,hw⟩
     rcases Kah.mp hw with z|z
     ·cases z;exact absurd rfl h
     ·exact⟨w,z⟩
 rw [key]
 simp
def FT (xs:List Int)(n:Int):List Int:=(rng 0 n).map λd=>b2i (decide (d∈xs))
theorem exs (S:DS):jm S=(FT S.x S.y,FT S.u S.z):=by
 unfold jm FT
 simp only [lt]
 congr 1
 ·refine Kax λd _=>?_
  congr 1
  exact decide_eq_decide.mpr (jQ _ _)
 ·refine Kax λd _=>?_
  congr 1
  exact decide_eq_decide.mpr (jQ _ _)
theorem gxp (xs:List Int)(n:Int):(FT xs n).length=n.toNat:=by unfold FT;rw [Kag,rT];simp
theorem xh (xs:List Int)(n:Int)(i:Nat)(h:(i:Int)<n):(FT xs n).getD i 0=b2i (decide ((i:Int)∈xs)):=by
 have hl:i<(FT xs n).length:=by rw [gxp];omega
 rw [La.getD_eq hl]
 unfold FT rng
 simp
theorem ym (S:DS):(rl (jm S)).x.length=S.y.toNat:=by rw [exs];exact gxp _ _
theorem uI (S:DS):(rl (jm S)).y.length=S.z.toNat:=by rw [exs];exact gxp _ _
theorem hqj {S:DS}(h:lq S):(rl (jm S)).y≠[]:=λz=>by
 have:=uI S
 rw [z] at this
 have:=h.z1
 simp at *
 omega
theorem Hw {S:DS}(h:lq S)(d:Nat):lat (rl (jm S)) d=b2i (aA S d):=by
 have y0:=h.y0
 have z1:=h.z1
 have hx:=ym S
 have hy:=uI S
 unfold aA
 by_cases hd:(d:Int)<S.y
 ·rw [if_pos hd,IF (by rw [hx];omega)]
  rw [exs]
  exact xh _ _ _ hd
 ·rw [if_neg hd]
  have:=Ni (rl (jm S)) (d-S.y.toNat)
  rw [hx,hy,show S.y.toNat+(d-S.y.toNat)=d by omega] at this
  rw [this]
  have hz:0<S.z.toNat:=by omega
  have hm:=Kb1 (d-S.y.toNat) hz
  show (rl (jm S)).y.getD _ 0+0*_=_
  rw [exs]
  show (FT S.u S.z).getD _ 0+0*_=_
  rw [xh _ _ _ (by omega)]
  have e:(((d-S.y.toNat) % S.z.toNat:Nat):Int)=((d:Int)-S.y) % S.z:=by
   rw [Kbt,Kbn (by omega),Int.natCast_sub (by omega),Kbn y0]
  rw [e];simp
theorem FQ {ns:List Int}{hi:Int}(h:wI ns hi)(h0:0<=hi):(ns.length:Int)<=hi:=by
 have key:∀(l:List Int) (lo:Int),l.Pairwise (·<·)->(∀x∈l,lo<=x/\x<hi)->lo<=hi->(l.length:Int)<=hi-lo:=by
  intro l
  induction l with
  |nil=>intro lo _ _ h;simp;omega
  |cons a l ih=>
   intro lo hp hr _
   have h1:=KaG.mp hp
   have ha:=hr a Kaa
   have:=ih (a+1) h1.2 (λx hx=>⟨by have:=h1.1 x hx;omega,(hr x (Kab _ hx)).2⟩) (by omega)
   simp only [Kad]
   omega
 have:=key ns 0 h.pw h.rg h0
 omega
theorem Ht {S:DS}(h:lq S)(hs:S.y+S.z<=98000):xo S:=by
 have y0:=h.y0
 have z1:=h.z1
 have l1:=FQ h.x y0
 have l2:=FQ h.u (by omega)
 unfold xo
 simp only [bu]
 rw [rT,rT]
 exact⟨by omega,by omega,⟨by omega,by omega⟩,by omega,⟨by omega,by omega⟩,by omega⟩
/-- set_from -/
theorem Nt (r:List Int×List Int):Eo r=T4.mk (ones (gj (rl r)).x) ((gj (rl r)).x.length:Int) ((gj (rl r)).y.length:Int) (ones (gj (rl r)).y):=by
 unfold Eo M3
 simp only [lt]
 rw [yg,yg];rfl
theorem vU {r r':List Int×List Int}(h:Sm 98000 (rl r))(h':Sm 98000 (rl r'))(e:lat (rl r)=lat (rl r')):Eo r=Eo r':=by
 rw [Nt,Nt,pU h h' e]
theorem ZH {α:Type}:∀(xs:List α) (k:Int),(cf k xs).length=xs.length
 |[],_=>rfl
 |x::xs,k=>by show (cf (k+1) xs).length+1=_;rw [ZH xs];rfl
theorem B9 {r:List Int×List Int}(h:Sm 98000 (rl r)):Ax r:=by
 unfold Ax Bs M3
 simp only [bu]
 have p:=Ud h
 have n:=h.n
 refine⟨HK h,?_,?_⟩
 ·rw [ZH];have:=p.1;simp only [rl] at *;omega
 ·rw [ZH];have:=p.2.1;simp only [rl] at *;omega
theorem wV (xs:List Int):wI (ones xs) (xs.length:Int):=⟨Bc xs,λx hx=>by have:=(gxu xs x).mp hx;omega⟩
theorem FU {r:List Int×List Int}(h:Sm 98000 (rl r)):lq (Eo r):=by
 rw [Nt]
 have:=(hjg h (Kat _)).y
 have:=KaH.mpr this
 exact⟨by show (0:Int)<=((gj (rl r)).x.length:Int);omega,by show (1:Int)<=((gj (rl r)).y.length:Int);omega,wV _,wV _⟩
theorem Ca {r:List Int×List Int}(h:Sm 98000 (rl r))(d:Nat):aA (Eo r) d=decide (lat (rl r) d=1):=by
 have hw:=yC h
 have hz:(gj (rl r)).z=0:=by
  obtain⟨_,_,hd,e⟩:=Ud h
  have n0:0<(gj (rl r)).y.length:=KaH.mpr (hjg h (Kat _)).y
  have m0:0<(rl r).y.length:=KaH.mpr h.y
  have e0:(0:Int)=(((rl r).y.length / (gj (rl r)).y.length:Nat):Int)*(gj (rl r)).z:=e
  have t0:0<(rl r).y.length / (gj (rl r)).y.length:=Kcz (KaM m0 hd) n0
  rcases Int.mul_eq_zero.mp e0.symm with q|q
  ·omega
  ·exact q
 rw [Nt,<-hw]
 unfold aA
 generalize gj (rl r)=W at hz
 show (if (d:Int)<(W.x.length:Int) then decide ((d:Int)∈ones W.x) else decide (((d:Int)-(W.x.length:Int)) % (W.y.length:Int)∈ones W.y))=_
 by_cases hd:d<W.x.length
 ·rw [if_pos (by omega),IF hd]
  refine decide_eq_decide.mpr ?_
  rw [gxu]
  simp only [Kay]
  exact⟨λq=>q.2.2,λq=>⟨by omega,by omega,q⟩⟩
 ·rw [if_neg (by omega)]
  have:=Ni W (d-W.x.length)
  rw [show W.x.length+(d-W.x.length)=d by omega,hz] at this
  rw [this]
  have e:((d:Int)-(W.x.length:Int)) % (W.y.length:Int)=(((d-W.x.length) % W.y.length:Nat):Int):=by
   rw [Kbt,Int.natCast_sub (by omega)]
  rw [e]
  refine decide_eq_decide.mpr ?_
  rw [gxu]
  simp only [Kay,Int.zero_mul,Int.add_zero]
  refine⟨λq=>q.2.2,λq=>⟨by omega,?_,q⟩⟩
  have n0:0<W.y.length:=by
   rcases KbJ W.y.length with z|z
   ·have:W.y=[]:=KcC.mp z
    rw [this] at q
    simp at q
   ·exact z
  have:=Kb1 (d-W.x.length) n0
  omega
theorem Cd (a b:Nat)(h:b<900000):A9 (a:Int) (b:Int)/\MK (a:Int) (b:Int)=((Kbf a b:Nat):Int):=by
 have key:=Kr (c:=JZ) (f:=My) (dc:=VO) (d:=Rz)
  (λst=>∃x y:Nat,st=((x:Int),(y:Int))/\Kbf x y=Kbf a b) (λst=>st.2.toNat) (λst hst=>by
   obtain⟨x,y,rfl,e⟩:=hst
   refine⟨trivial,λhc=>?_⟩
   have hy:(0:Int)<(y:Int):=hc
   refine⟨hy,⟨y,x % y,?_,?_⟩,?_⟩
   ·show ((y:Int),(x:Int) % (y:Int))=_
    rw [<-Kbt]
   ·rw [<-e,KcQ y (x % y),<-Kdo,KcQ]
   ·show ((x:Int) % (y:Int)).toNat<(y:Int).toNat
    rw [<-Kbt]
    simp only [Kay]
    exact Kb1 _ (by omega)) fuel ((a:Int),(b:Int)) ⟨a,b,rfl,rfl⟩ (by unfold fuel;simp;omega)
 obtain⟨k1,⟨x,y,e,eg⟩,k3⟩:=key
 refine⟨k1,?_⟩
 have hy:y=0:=by
  rw [e] at k3
  have k4:¬(0:Int)<(y:Int):=k3
  omega
 show (lA JZ My fuel ((a:Int),(b:Int))).1=_
 rw [e,<-eg,hy];simp
theorem CL (a b:Nat)(ha:0<a)(hb:0<b)(h:a<900000)(h':b<900000):yO (a:Int) (b:Int)/\Oj (a:Int) (b:Int)=((Kde a b:Nat):Int):=by
 obtain⟨g1,g2⟩:=Cd a b h'
 have g0:0<Kbf a b:=KbW _ ha
 have gl:Kbf a b<=a:=Nat.gcd_le_left _ ha
 constructor
 ·unfold yO
  rw [g2]
  exact⟨.inl (by simp;omega),g1,by omega,by omega⟩
 ·unfold Oj
  rw [g2,<-KbN,K0];rfl
structure b9 (F M:Nat)(f:Nat->Bool)(S:DS):Prop where
 ok:lq S
 y:S.y<=F
 z:S.z.toNat∣M
 m0:0<M
 has:∀d,aA S d=f d
theorem b9.zM {F M:Nat}{f:Nat->Bool}{S:DS}(h:b9 F M f S):S.z<=M:=by
 have:=KaM h.m0 h.z
 omega
theorem b9.mono {F F' M M':Nat}{f:Nat->Bool}{S:DS}(h:b9 F M f S)(hF:F<=F')(hM:M∣M')(h0:0<M'):b9 F' M' f S:=⟨h.ok,by have:=h.y;omega,Ka0 h.z hM,h0,h.has⟩
/-- it comes again -/
theorem b9.per {F M:Nat}{f:Nat->Bool}{S:DS}(h:b9 F M f S){k:Nat}(hk:S.z.toNat∣k){d:Nat}(hd:S.y<=(d:Int)):f (d+k)=f d:=by
 rw [<-h.has,<-h.has]
 have y0:=h.ok.y0
 unfold aA
 rw [if_neg (by omega),if_neg (by omega)]
 obtain⟨t,rfl⟩:=hk
 have e:((d+S.z.toNat*t:Nat):Int)-S.y=((d:Int)-S.y)+S.z*(t:Int):=by
  have:=h.ok.z1
  rw [Int.natCast_add,KbN,Kbn (by omega)]
  omega
 rw [e,Int.add_mul_emod_self_left]
theorem b9.row {F M:Nat}{f:Nat->Bool}{S:DS}(h:b9 F M f S):lat (rl (jm S))=λd=>b2i (f d):=by
 funext d
 rw [Hw h.ok,h.has]
/-- bM least way of what comes again -/
structure cZ (F M:Nat)(f:Nat->Bool)(S:DS):Prop where
 ex:∃r:List Int×List Int,r.1.length<=F/\r.2≠[]/\r.2.length∣M/\(∀d,lat (rl r) d=b2i (f d))/\S=Eo r
 m0:0<M
theorem E6 (b:Bool):decide (b2i b=1)=b:=by cases b <;> simp [b2i]
theorem cZ.rep {F M:Nat}{f:Nat->Bool}{S:DS}(h:cZ F M f S)(hb:F+M<=98000):b9 F M f S:=by
 obtain⟨⟨r,h1,h2,h3,h4,rfl⟩,m0⟩:=h
 have hM:=KaM m0 h3
 have sm:Sm 98000 (rl r):=⟨h2,by show r.1.length+r.2.length<=98000;omega⟩
 obtain⟨p1,p2,p3,_⟩:=Ud sm
 refine⟨FU sm,?_,?_,m0,λd=>?_⟩
 ·rw [Nt]
  show ((gj (rl r)).x.length:Int)<=F
  have:(rl r).x.length=r.1.length:=rfl
  omega
 ·rw [Nt]
  show ((gj (rl r)).y.length:Int).toNat∣M
  rw [Kay]
  exact Ka0 p3 h3
 ·rw [Ca sm,h4,E6]
theorem cZ.uniq {F M F' M':Nat}{f:Nat->Bool}{S S':DS}(h:cZ F M f S)(h':cZ F' M' f S')(hb:F+M<=98000)(hb':F'+M'<=98000):S=S':=by
 obtain⟨⟨r,h1,h2,h3,h4,rfl⟩,m0⟩:=h
 obtain⟨⟨r',UO,UP,h3',h4',rfl⟩,m0'⟩:=h'
 have hM:=KaM m0 h3
 have hM':=KaM m0' h3'
 exact vU ⟨h2,by show r.1.length+r.2.length<=98000;omega⟩ ⟨UP,by show r'.1.length+r'.2.length<=98000;omega⟩ (by funext d;rw [h4,h4'])
theorem cZ.congr {F M:Nat}{f g:Nat->Bool}{S:DS}(h:cZ F M f S)(e:∀d,f d=g d):cZ F M g S:=by
 have:f=g:=funext e
 subst this;exact h
theorem iX {S:DS}(h:lq S)(hs:S.y+S.z<=98000):xn S:=by
 have y0:=h.y0
 have z1:=h.z1
 have l1:=FQ h.x y0
 have l2:=FQ h.u (by omega)
 have QO:∀{ns:List Int},ns.Pairwise (·<·)->Il ns=true:=by
  intro ns
  unfold Il
  rw [show (some (1:Int))=some ((1:Nat):Int) from rfl,ZD,KbL]
  intro hp
  rw [Kbs]
  intro q hq
  have key:∀(ns:List Int),ns.Pairwise (·<·)->∀q∈ns.zip (ns.drop 1),q.1<q.2:=by
   intro ns
   induction ns with
   |nil=>intro _ q hq;simp at hq
   |cons a r ih=>
    intro hp q hq
    cases r with
    |nil=>simp at hq
    |cons b r=>
     have h1:=KaG.mp hp
     simp only [List.drop_succ_cons,List.drop_zero,Kcq,Kah] at hq
     rcases hq with rfl|hq
     ·exact h1.1 b Kaa
     ·exact ih h1.2 q (by simpa using hq)
  simpa using key ns hp q hq
 have O5:∀{ns:List Int} {hi:Int},wI ns hi->0<=hi->Il (([(-(1:Int))]++ns)++[hi])=true:=by
  intro ns hi ha h0
  apply QO
  show KbQ _ (-1::(ns++[hi]))
  refine KaG.mpr ⟨λx hx=>?_,Ka6.mpr ⟨ha.pw,by simp,λx hx y hy=>?_⟩⟩
  ·rcases Kam.mp hx with z|z
   ·have:=(ha.rg x z).1;omega
   ·have:x=hi:=by simpa using z
    omega
  ·have:y=hi:=by simpa using hy
   have:=(ha.rg x hx).2
   omega
 have r1:=O5 h.x h.y0
 have r2:=O5 h.u (by omega)
 have dr:∀{ns:List Int},ns.length<=100000->yL ns:=λhl=>by
  unfold yL
  rw [Kcj];omega
 have hc:¬(S.y<0∨S.z<1):=by omega
 unfold xn BF Nh
 rw [if_neg hc]
 refine⟨λ_=>⟨by simp;omega,by simp;omega,dr (by simp;omega),λ_=>⟨by simp;omega,by simp;omega,dr (by simp;omega)⟩⟩,λhn=>hn ?_⟩
 simp only [decide_eq_true_eq]
 exact⟨r1,r2⟩
theorem C3 {F M:Nat}{f:Nat->Bool}{S:DS}(h:b9 F M f S)(hb:F+M<=98000):xn S:=iX h.ok (by have:=h.y;have:=h.zM;omega)
theorem uQ {F M:Nat}{f:Nat->Bool}{S:DS}(h:b9 F M f S)(hb:F+M<=98000):xo S:=Ht h.ok (by have:=h.y;have:=h.zM;omega)
/-- bM first bits of a set -/
theorem gxh {F M:Nat}{f:Nat->Bool}{S:DS}(h:b9 F M f S){n:Nat}(hb:F+M+n<=98000):Ba (jm S) (n:Int)/\J9 (jm S) (n:Int)=(KaC n).map λd=>b2i (f d):=by
 have hz:=h.zM
 have hy:=h.y
 have:=sW (rl (jm S)) (hqj h.ok) n (by rw [ym,uI];omega)
 rw [h.row] at this
 exact this
theorem getD_map {xs:List Int}{h:Int->Int}{i:Nat}(hi:i<xs.length):(xs.map h).getD i 0=h (xs.getD i 0):=by
 rw [La.getD_eq (by simpa using hi),Kb9,La.getD_eq hi]
section
variable {F M:Nat}{f g:Nat->Bool}{A B:DS}
theorem Hs (ha:b9 F M f A)(hb:F+M<=98000):cZ F M f (cM A):=by
 refine⟨⟨jm A,?_,hqj ha.ok,?_,λd=>by rw [ha.row],rfl⟩,ha.m0⟩
 ·have:=ym A
  have:(jm A).1.length=A.y.toNat:=this
  have:=ha.y
  omega
 ·have:(jm A).2.length=A.z.toNat:=uI A
  rw [this];exact ha.z
theorem Ma (ha:b9 F M f A)(hb:F+M<=98000):Sm 98000 (rl (jm A)):=by
 refine⟨hqj ha.ok,?_⟩
 rw [ym,uI]
 have:=ha.y
 have:=ha.zM
 have:=ha.ok.z1
 omega
theorem IE (ha:b9 F M f A)(hb:F+M<=98000):yU A/\cZ F M f (cM A):=
 ⟨⟨C3 ha hb,uQ ha hb,B9 (Ma ha hb)⟩,Hs ha hb⟩
/-- r is bM first day of P,none if there is none -/
def eu (P:Nat->Prop)(r:Option Int):Prop:=(r=none/\∀d,¬P d)∨∃d:Nat,r=some (d:Int)/\P d/\∀e,e<d->¬P e
theorem eu.uniq {P:Nat->Prop}{r r':Option Int}(h:eu P r)(h':eu P r'):r=r':=by
 rcases h with⟨rfl,h⟩|⟨d,rfl,h1,h2⟩
 ·rcases h' with⟨rfl,h'⟩|⟨d',rfl,UO,UP⟩
  ·rfl
  ·exact absurd UO (h d')
 ·rcases h' with⟨rfl,h'⟩|⟨d',rfl,UO,UP⟩
  ·exact absurd h1 (h' d)
  ·have:d=d':=by
    rcases Kcw d d' with z|z|z
    ·exact absurd h1 (UP d z)
    ·exact z
    ·exact absurd UO (h2 d' z)
   rw [this]
theorem eu.congr {P Q:Nat->Prop}{r:Option Int}(h:eu P r)(e:∀d,P d↔Q d):eu Q r:=by
 rcases h with⟨rfl,h⟩|⟨d,rfl,h1,h2⟩
 ·exact .inl ⟨rfl,λd q=>h d ((e d).mpr q)⟩
 ·exact .inr ⟨d,rfl,(e d).mp h1,λx hx q=>h2 x hx ((e x).mpr q)⟩
end
def Up (f:Nat->Int):Prop:=0<=f 0/\∀d,f d<=f (d+1)
theorem Up.mono {f:Nat->Int}(h:Up f){d e:Nat}(hd:d<=e):f d<=f e:=by
 induction hd with
 |refl=>exact Kbm _
 |step _ ih=>exact KcK ih (h.2 _)
theorem Up.nn {f:Nat->Int}(h:Up f)(d:Nat):0<=f d:=KcK h.1 (h.mono (KaV d))
structure dh (F M:Nat)(R:Int)(f:Nat->Int)(L:cP):Prop where
 x:L.x.length<=F
 y:L.y≠[]
 m:L.y.length∣M
 m0:0<M
 z0:0<=L.z
 zR:L.z*((M / L.y.length:Nat):Int)<=R
 lt:lat L=f
 up:Up f
section
variable {F M:Nat}{R:Int}{f:Nat->Int}{L:cP}
theorem dh.n0 (h:dh F M R f L):0<L.y.length:=KaH.mpr h.y
theorem dh.yM (h:dh F M R f L):L.y.length<=M:=KaM h.m0 h.m
theorem dh.per (h:dh F M R f L):b_ f L.x.length L.y.length L.z:=h.lt ▸ Uw L h.y
theorem dh.QK (h:dh F M R f L):b_ f L.x.length M (((M / L.y.length:Nat):Int)*L.z):=by
 have:=h.per.mul (M / L.y.length)
 rwa [Kda h.m] at this
theorem dh.mono {F' M':Nat}{R':Int}(h:dh F M R f L)(hF:F<=F')(hM:M∣M')(h0:0<M')(hR:R*((M' / M:Nat):Int)<=R'):dh F' M' R' f L:=by
 refine⟨KaB h.x hF,h.y,Ka0 h.m hM,h0,h.z0,?_,h.lt,h.up⟩
 obtain⟨t,rfl⟩:=hM
 have m0:=h.m0
 have e1:M*t / M=t:=KaQ _ m0
 have e2:M*t / L.y.length=M / L.y.length*t:=by
  obtain⟨q,hq⟩:=h.m
  have n0:=h.n0
  rw [hq,KcA,KaQ _ n0,KaQ _ n0]
 rw [e1] at hR
 rw [e2,KbN,<-KcB]
 exact KcK (Kb7 h.zR (by omega)) hR
theorem dh.line (h:dh F M R f L):(([(0:Int)]++L.x)++L.y)++[aq L.y (0:Int)+L.z]=0::(KaC (L.x.length+L.y.length+1)).map f:=by
 have n0:=h.n0
 refine Uu (by simp;omega) λi hi=>?_
 have hi:i<L.x.length+L.y.length+2:=by simp at hi;omega
 cases i with
 |zero=>simp
 |succ i=>
  have e:((0:Int)::(KaC (L.x.length+L.y.length+1)).map f).getD (i+1) 0=f i:=by
   rw [<-MF (f:=f) (n:=L.x.length+L.y.length+1) (by omega)];rfl
  rw [e,<-h.lt]
  show ((L.x++L.y)++[aq L.y (0:Int)+L.z]).getD i 0=_
  rw [Ph,Ph,Kan]
  by_cases h1:i<L.x.length
  ·rw [if_pos (by omega),if_pos h1,IF h1]
  ·by_cases h2:i<L.x.length+L.y.length
   ·rw [if_pos h2,if_neg h1]
    have:=Uh (L:=L) (i:=i-L.x.length) (by omega)
    rw [show L.x.length+(i-L.x.length)=i by omega] at this
    rw [this]
   ·rw [if_neg h2]
    have ei:i=L.x.length+0+L.y.length:=by omega
    rw [ei,Uw L h.y (L.x.length+0) (by omega),Uh (L:=L) (i:=0) n0]
    rw [show (0:Int)=((0:Nat):Int) from rfl,Nj]
    simp
/-- bM least way of a ladder d8 tells f -/
structure FZ (F M:Nat)(R:Int)(f:Nat->Int)(L:cP):Prop where
 ex:∃L0,dh F M R f L0/\L=gj L0
theorem FZ.rep (h:FZ F M R f L)(hb:F+M<=98000):dh F M R f L:=by
 obtain⟨⟨L0,h0,rfl⟩⟩:=h
 have sm:Sm 98000 L0:=⟨h0.y,by have:=h0.x;have:=h0.yM;omega⟩
 obtain⟨p1,p2,p3,p4⟩:=Ud sm
 have Vm:=hjg sm (Kat _)
 have n0:0<(gj L0).y.length:=KaH.mpr Vm.y
 have m0:=h0.n0
 obtain⟨t,ht⟩:=p3
 have t0:0<t:=by
  rcases KbJ t with z|z
  ·rw [z] at ht;omega
  ·exact z
 have et:L0.y.length / (gj L0).y.length=t:=by rw [ht];exact KaQ _ n0
 rw [et] at p4
 have z0:0<=(gj L0).z:=by
  have:=h0.z0
  rw [p4] at this
  rcases Int.lt_or_le (gj L0).z 0 with q|q
  ·have:(t:Int)*(gj L0).z<0:=Int.mul_neg_of_pos_of_neg (by omega) q
   omega
  ·exact q
 refine⟨KaB p1 h0.x,Vm.y,Ka0 ⟨t,ht⟩ h0.m,h0.m0,z0,?_,by rw [yC sm,h0.lt],h0.up⟩
 obtain⟨q,hq⟩:=h0.m
 have e1:M / (gj L0).y.length=t*q:=by rw [hq,ht,KcA,KaQ _ n0]
 have e2:M / L0.y.length=q:=by rw [hq,KaQ _ m0]
 have hR:=h0.zR
 rw [e2,p4] at hR
 rw [e1,KbN,<-KcB,Kb6 _ (t:Int)]
 exact hR
theorem FZ.uniq {F' M':Nat}{R':Int}{L':cP}(h:FZ F M R f L)(h':FZ F' M' R' f L')(hb:F+M<=98000)(hb':F'+M'<=98000):L=L':=by
 obtain⟨⟨L0,h0,rfl⟩⟩:=h
 obtain⟨⟨L1,h1,rfl⟩⟩:=h'
 exact pU ⟨h0.y,by have:=h0.x;have:=h0.yM;omega⟩ ⟨h1.y,by have:=h1.x;have:=h1.yM;omega⟩ (h0.lt.trans h1.lt.symm)
theorem FZ.congr {g:Nat->Int}(h:FZ F M R f L)(e:∀d,f d=g d):FZ F M R g L:=by
 have:f=g:=funext e
 subst this;exact h
end
def cnt (f:Nat->Bool):Nat->Int
 |0=>0
 |d+1=>cnt f d+b2i (f d)
/-- unfolding by a proved Pc keeps bM kernel from unfolding bM typed Nu -/
theorem lt_eq {α β:Type}(v:α)(f:α->β):lt v f=f v:=(Eq.refl (lt v f)).trans (Eq.refl (f v))
theorem cS {α:Type}(v:α)(f:α->Prop):bu v f=f v:=(Eq.refl (bu v f)).trans (Eq.refl (f v))
section
variable {F M:Nat}{R S:Int}{f g:Nat->Int}{A B:cP}
theorem Up.add (h:Up f)(h':Up g):Up (λd=>f d+g d):=⟨by have:=h.1;have:=h'.1;show 0<=f 0+g 0;omega,λd=>by have:=h.2 d;have:=h'.2 d;show f d+g d<=f (d+1)+g (d+1);omega⟩
end
section
variable {F M G N:Nat}{R S:Int}{f g:Nat->Int}{A B:cP}
/-- many LZ on -/
theorem b_.many {F k:Nat}{a:Int}(h:b_ f F k a)(t:Nat){d:Nat}(hd:F<=d):f (d+k*t)=f d+a*(t:Int):=by
 have:=h.mul t d hd
 rw [Kbi,this,Kb6]
end
section
variable {F M G N:Nat}{R S:Int}{f g:Nat->Int}{A B:cP}
theorem zq {xs:List Int}(h:xs≠[]):aq xs (-(1:Int))=xs.getD (xs.length-1) 0:=by
 have n0:0<xs.length:=KaH.mpr h
 unfold aq L2.atI
 unfold L2.ixN
 rw [if_neg (by omega:¬(0:Int)<=-1)]
 rw [if_pos (by omega:-(xs.length:Int)<=-1)]
 rw [show (-1+(xs.length:Int)).toNat=xs.length-1 by omega,KbR]
 rfl
end
end Pu
namespace Pu
open PySem L2 Enc PyProof.Rows
def tx (d:PyData):List Nat:=d.shown.cps.toList
theorem ND (n:Nat):tx (.int (n:Int))=TL.numL n:=by
 unfold tx
 rw [PyData.shown_int]
 exact TL.tl_num n
theorem NF (n:Nat):tx (.int (Int.negSucc n))=45::TL.numL (n+1):=by
 unfold tx
 rw [PyData.shown_int]
 show (Str.ofString (toString (Int.negSucc n))).cps.toList=_
 rw [signs_ofString]
 show (("-" ++ Nat.repr (n+1)).toList).map Char.toNat=_
 rw [String.toList_append,Kaz,Nat.toList_repr]
 rfl
def dig (c:Nat):Bool:=decide (c=45∨(48<=c/\c<=57))
theorem hjb {n c:Nat}(h:c∈TL.numL n):48<=c/\c<=57:=by
 rcases Kbc c 48 with z|z
 ·exact absurd h (TL.numL_free (.inl z))
 ·rcases Kbc 57 c with q|q
  ·exact absurd h (TL.numL_free (.inr q))
  ·omega
theorem hja (i:Int):∀c∈tx (.int i),dig c=true:=by
 intro c hc
 cases i with
 |ofNat n=>
  have:=hjb (n:=n) (by rw [<-ND];exact hc)
  exact decide_eq_true (.inr this)
 |negSucc n=>
  rw [NF] at hc
  rcases Kah.mp hc with rfl|hc
  ·decide
  ·exact decide_eq_true (.inr (hjb hc))
theorem qu {i j:Int}(h:tx (.int i)=tx (.int j)):i=j:=by
 have no:∀n m:Nat,TL.numL n≠45::TL.numL m:=λn m e=>by
  have:=hjb (n:=n) (c:=45) (by rw [e];exact Kaa)
  omega
 cases i with
 |ofNat n=>
  cases j with
  |ofNat m=>
   have h:tx (.int (n:Int))=tx (.int (m:Int)):=h
   rw [ND,ND] at h
   rw [TL.numL_inj h]
  |negSucc m=>
   have h:tx (.int (n:Int))=_:=h
   rw [ND,NF] at h
   exact absurd h (no _ _)
 |negSucc n=>
  cases j with
  |ofNat m=>
   have h:_=tx (.int (m:Int)):=h
   rw [ND,NF] at h
   exact absurd h.symm (no _ _)
  |negSucc m=>
   rw [NF,NF] at h
   have:=TL.numL_inj (List.cons.inj h).2
   have:n=m:=by omega
   rw [this]
/-- what may stand behind an item -/
def Stop (s:List Nat):Prop:=s=[]∨∃c r,s=c::r/\(c=44∨c=93∨c=41)
class Tells (α:Type) [Enc α]:Prop where
 hd:∀a:α,∃c r,tx (enc a)=c::r/\c≠44/\c≠93/\c≠41
 un:∀(a b:α) (s t:List Nat),Stop s->Stop t->tx (enc a)++s=tx (enc b)++t->a=b/\s=t
theorem Z3 {s:List Nat}(hs:Stop s):∀{xs:List Nat},(∀c∈xs,dig c=true)->(xs++s).takeWhile dig=xs
 |[],_=>by
  rcases hs with rfl|⟨c,r,rfl,h⟩
  ·rfl
  ·show KcU dig (c::r)=[]
   rw [KcZ]
   rw [if_neg]
   rcases h with rfl|rfl|rfl <;> decide
 |x::xs,h=>by
  show KcU dig (x::(xs++s))=_
  rw [KcZ,if_pos (h x Kaa),Z3 hs λc hc=>h c (Kab _ hc)]
instance:Tells Int where
 hd:=λa=>by
  have hc:=hja a
  cases e:tx (enc a) with
  |nil=>
   exfalso
   cases a with
   |ofNat n=>
    have:tx (.int (n:Int))=[]:=e
    rw [ND] at this
    exact TL.numL_ne n this
   |negSucc n=>
    have:tx (.int (Int.negSucc n))=[]:=e
    rw [NF] at this
    cases this
  |cons c r=>
   have:=hc c (by rw [show tx (.int a)=tx (enc a) from rfl,e];exact Kaa)
   unfold dig at this
   have:=of_decide_eq_true this
   exact⟨c,r,rfl,by omega,by omega,by omega⟩
 un:=λa b s t hs ht e=>by
  have e:tx (.int a)++s=tx (.int b)++t:=e
  have e1:=congrArg (KcU dig) e
  rw [Z3 hs (hja a),Z3 ht (hja b)] at e1
  rw [e1] at e
  exact⟨qu e1,KcD e⟩
def lj:List PyData->List Nat
 |[]=>[]
 |x::r=>44::32::(tx x++lj r)
theorem ZK:∀(x:PyData) (r:List PyData),(Str.join ", " (PyData.shownAll (x::r))).cps.toList=tx x++lj r
 |x,[]=>by
  rw [PyData.shownAll_cons,PyData.shownAll_nil,join_one]
  show tx x=tx x++[]
  rw [KaE]
 |x,y::r=>by
  have ih:=ZK y r
  rw [PyData.shownAll_cons] at ih ⊢
  rw [PyData.shownAll_cons,join_cons_cons,cps_toList_append,cps_toList_append,ih,signs_sep]
  show tx x++[44,32]++(tx y++lj r)=tx x++(44::32::(tx y++lj r))
  simp
theorem Zk:tx (.list [])=[91,93]:=by
 unfold tx
 rw [PyData.shown_list]
 decide
theorem P5 (x:PyData)(r:List PyData):tx (.list (x::r))=91::(tx x++(lj r++[93])):=by
 unfold tx
 rw [PyData.shown_list,cps_toList_append,cps_toList_append,ZK,signs_lbrack,signs_rbrack]
 simp [tx]
theorem Pn (x y:PyData)(r:List PyData):tx (.tuple (x::y::r))=40::(tx x++(lj (y::r)++[41])):=by
 unfold tx
 rw [PyData.shown_tuple,cps_toList_append,cps_toList_append,ZK,signs_lparen,if_neg (by simp)]
 show [40]++(tx x++lj (y::r))++[41]=_
 simp [tx]
theorem IU (r:List PyData){c:Nat}(hc:c=93∨c=41)(s:List Nat):Stop (lj r++(c::s)):=by
 cases r with
 |nil=>exact .inr ⟨c,s,rfl,by omega⟩
 |cons x r=>exact .inr ⟨44,_,rfl,.inl rfl⟩
theorem Ea {α:Type}[Enc α][Tells α]:∀(xs ys:List α) (s t:List Nat),lj (xs.map enc)++(93::s)=lj (ys.map enc)++(93::t)->xs=ys/\s=t
 |[],[],s,t,h=>⟨rfl,(List.cons.inj h).2⟩
 |[],y::ys,s,t,h=>by have:=(List.cons.inj h).1;omega
 |x::xs,[],s,t,h=>by have:=(List.cons.inj h).1;omega
 |x::xs,y::ys,s,t,h=>by
  have h1:tx (enc x)++(lj (xs.map enc)++(93::s))=tx (enc y)++(lj (ys.map enc)++(93::t)):=by
   have:=(List.cons.inj (List.cons.inj h).2).2
   simpa using this
  obtain⟨rfl,h2⟩:=Tells.un x y _ _ (IU _ (.inl rfl) _) (IU _ (.inl rfl) _) h1
  obtain⟨rfl,rfl⟩:=Ea xs ys s t h2
  exact⟨rfl,rfl⟩
instance {α:Type}[Enc α][Tells α]:Tells (List α) where
 hd:=λa=>by
  cases a with
  |nil=>exact⟨91,[93],Zk,by omega,by omega,by omega⟩
  |cons x r=>exact⟨91,_,P5 _ _,by omega,by omega,by omega⟩
 un:=λa b s t hs ht e=>by
  have nn:∀(y:α) (ys:List α) (s t:List Nat),[91,93]++s≠91::(tx (enc y)++(lj (ys.map enc)++[93]))++t:=λy ys s t h=>by
   obtain⟨c,r,e,_,h2,_⟩:=Tells.hd y
   rw [e] at h
   have:=(List.cons.inj (List.cons.inj h).2).1
   omega
  cases a with
  |nil=>
   cases b with
   |nil=>exact⟨rfl,KcD e⟩
   |cons y ys=>
    have e:tx (.list [])++s=tx (.list (enc y::ys.map enc))++t:=e
    rw [Zk,P5] at e
    exact absurd e (nn _ _ _ _)
  |cons x xs=>
   cases b with
   |nil=>
    have e:tx (.list (enc x::xs.map enc))++s=tx (.list [])++t:=e
    rw [Zk,P5] at e
    exact absurd e.symm (nn _ _ _ _)
   |cons y ys=>
    have e:tx (.list (enc x::xs.map enc))++s=tx (.list (enc y::ys.map enc))++t:=e
    rw [P5,P5] at e
    have h1:tx (enc x)++(lj (xs.map enc)++(93::s))=tx (enc y)++(lj (ys.map enc)++(93::t)):=by
     have:=(List.cons.inj e).2
     simpa using this
    obtain⟨rfl,h2⟩:=Tells.un x y _ _ (IU _ (.inl rfl) _) (IU _ (.inl rfl) _) h1
    obtain⟨rfl,rfl⟩:=Ea xs ys s t h2
    exact⟨rfl,rfl⟩
/-- one more item of a tuple -/
theorem Ny {α:Type}[Enc α][Tells α]{a b:α}{r r':List PyData}{s t:List Nat}(h:lj (enc a::r)++(41::s)=lj (enc b::r')++(41::t)):a=b/\lj r++(41::s)=lj r'++(41::t):=by
 have h1:tx (enc a)++(lj r++(41::s))=tx (enc b)++(lj r'++(41::t)):=by
  have:=(List.cons.inj (List.cons.inj h).2).2
  simpa using this
 exact Tells.un a b _ _ (IU _ (.inr rfl) _) (IU _ (.inr rfl) _) h1
theorem hxl {α:Type}[Enc α][Tells α]{a b:α}{y y':PyData}{r r':List PyData}{s t:List Nat}(h:tx (.tuple (enc a::y::r))++s=tx (.tuple (enc b::y'::r'))++t):a=b/\lj (y::r)++(41::s)=lj (y'::r')++(41::t):=by
 rw [Pn,Pn] at h
 have h1:tx (enc a)++(lj (y::r)++(41::s))=tx (enc b)++(lj (y'::r')++(41::t)):=by
  have:=(List.cons.inj h).2
  simpa using this
 exact Tells.un a b _ _ (IU _ (.inr rfl) _) (IU _ (.inr rfl) _) h1
instance {α β:Type}[Enc α][Enc β][Tells α][Tells β]:Tells (α×β) where
 hd:=by
  intro p
  obtain⟨a,a1⟩:=p
  exact⟨40,_,Pn (enc a) (enc a1) [],by omega,by omega,by omega⟩
 un:=by
  intro p q s t _ _ e
  obtain⟨a,a1⟩:=p
  obtain⟨b,b1⟩:=q
  have e:tx (.tuple [enc a,enc a1])++s=tx (.tuple [enc b,enc b1])++t:=e
  obtain⟨rfl,h0⟩:=hxl e
  obtain⟨rfl,h1⟩:=Ny h0
  exact⟨rfl,(List.cons.inj h1).2⟩
instance {α β γ:Type}[Enc α][Enc β][Enc γ][Tells α][Tells β][Tells γ]:Tells (T3 α β γ) where
 hd:=by
  intro p
  obtain⟨a,a1,a2⟩:=p
  exact⟨40,_,Pn (enc a) (enc a1) [enc a2],by omega,by omega,by omega⟩
 un:=by
  intro p q s t _ _ e
  obtain⟨a,a1,a2⟩:=p
  obtain⟨b,b1,b2⟩:=q
  have e:tx (.tuple [enc a,enc a1,enc a2])++s=tx (.tuple [enc b,enc b1,enc b2])++t:=e
  obtain⟨rfl,h0⟩:=hxl e
  obtain⟨rfl,h1⟩:=Ny h0
  obtain⟨rfl,h2⟩:=Ny h1
  exact⟨rfl,(List.cons.inj h2).2⟩
instance {α β γ δ:Type}[Enc α][Enc β][Enc γ][Enc δ][Tells α][Tells β][Tells γ][Tells δ]:Tells (T4 α β γ δ) where
 hd:=by
  intro p
  obtain⟨a,a1,a2,a3⟩:=p
  exact⟨40,_,Pn (enc a) (enc a1) [enc a2,enc a3],by omega,by omega,by omega⟩
 un:=by
  intro p q s t _ _ e
  obtain⟨a,a1,a2,a3⟩:=p
  obtain⟨b,b1,b2,b3⟩:=q
  have e:tx (.tuple [enc a,enc a1,enc a2,enc a3])++s=tx (.tuple [enc b,enc b1,enc b2,enc b3])++t:=e
  obtain⟨rfl,h0⟩:=hxl e
  obtain⟨rfl,h1⟩:=Ny h0
  obtain⟨rfl,h2⟩:=Ny h1
  obtain⟨rfl,h3⟩:=Ny h2
  exact⟨rfl,(List.cons.inj h3).2⟩
end Pu
namespace Pu
open PySem L2 Enc La
section
variable {F M:Nat}{f g:Nat->Bool}{S:DS}
theorem eu.bound {P:Nat->Prop}{r:Option Int}(h:eu P r){F M:Nat}(hp:∀d,F<=d->P (d+M)->P d)(m0:0<M):r=none∨∃d:Nat,r=some (d:Int)/\d<F+M:=by
 rcases h with⟨rfl,_⟩|⟨d,rfl,h1,h2⟩
 ·exact .inl rfl
 ·refine .inr ⟨d,rfl,?_⟩
  rcases Kbc d (F+M) with q|q
  ·exact q
  ·exfalso
   have:=hp (d-M) (by omega) (by rw [show d-M+M=d by omega];exact h1)
   exact h2 (d-M) (by omega) this
theorem Nd.set (h:b9 F M f S)(hb:F+M<=1500):Nd 2 378023 (enc S):=by
 have y0:=h.ok.y0
 have z1:=h.ok.z1
 have hy:=h.y
 have zM:=h.zM
 have xl:=FQ h.ok.x y0
 have ul:=FQ h.ok.u (by omega)
 have e:(4*(94503+2)+3)=378023:=by omega
 rw [<-e]
 refine Nd.tuple (k:=1) (n:=4) (λd hd=>?_) (Kat _)
 rcases Kah.mp hd with rfl|hd
 ·exact (Nd.ints (n:=1500) (λx hx=>by have:=h.ok.x.rg x hx;omega) (by omega)).mono (Kat _) (by omega)
 rcases Kah.mp hd with rfl|hd
 ·exact (Nd.int (i:=S.y) (by omega) (by omega)).mono (by omega) (by omega)
 rcases Kah.mp hd with rfl|hd
 ·exact (Nd.int (i:=S.z) (by omega) (by omega)).mono (by omega) (by omega)
 rcases Kah.mp hd with rfl|hd
 ·exact (Nd.ints (n:=1500) (λx hx=>by have:=h.ok.u.rg x hx;omega) (by omega)).mono (Kat _) (by omega)
 ·cases hd
end
theorem eu.none {P:Nat->Prop}{r:Option Int}(h:eu P r)(hn:∀d,¬P d):r=none:=by
 rcases h with⟨rfl,_⟩|⟨d,rfl,h1,_⟩
 ·rfl
 ·exact absurd h1 (hn d)
section
variable {F M:Nat}{f:Nat->Bool}{A:DS}
theorem b9.congr {g:Nat->Bool}(h:b9 F M f A)(e:∀d,f d=g d):b9 F M g A:=by
 have:f=g:=funext e
 subst this;exact h
end
def lF (h:Nat->Int)(r:Option Int):Prop:=(r=none/\∀b:Int,∃d,h d<b)∨∃d,r=some (h d)/\∀e,h d<=h e
def UR (h:Nat->Int)(r:Option Int):Prop:=(r=none/\∀b:Int,∃d,b<h d)∨∃d,r=some (h d)/\∀e,h e<=h d
theorem lF.neg {h:Nat->Int}{r:Option Int}(q:UR h r):lF (λd=>-h d) (r.map λv=>-v):=by
 rcases q with⟨rfl,q⟩|⟨d,rfl,q⟩
 ·exact .inl ⟨rfl,λb=>by obtain⟨d,hd⟩:=q (-b);exact⟨d,by show -h d<b;omega⟩⟩
 ·exact .inr ⟨d,rfl,λe=>by have:=q e;show -h d<=-h e;omega⟩
theorem lF.uniq {h:Nat->Int}{r r':Option Int}(q:lF h r)(q':lF h r'):r=r':=by
 rcases q with⟨rfl,q⟩|⟨d,rfl,q⟩
 ·rcases q' with⟨rfl,_⟩|⟨e,rfl,q'⟩
  ·rfl
  ·obtain⟨x,hx⟩:=q (h e)
   have:=q' x
   omega
 ·rcases q' with⟨rfl,q'⟩|⟨e,rfl,q'⟩
  ·obtain⟨x,hx⟩:=q' (h d)
   have:=q x
   omega
  ·have:=q e
   have:=q' d
   rw [show h d=h e by omega]
theorem UR.uniq {h:Nat->Int}{r r':Option Int}(q:UR h r)(q':UR h r'):r=r':=by
 have:=(lF.neg q).uniq (lF.neg q')
 cases r <;> cases r' <;> simp at this ⊢
 omega
theorem dh.own {L:cP}(hn:L.y≠[])(hz:0<=L.z)(hu:Up (lat L)):dh L.x.length L.y.length L.z (lat L) L:=by
 have n0:0<L.y.length:=KaH.mpr hn
 exact⟨Kat _,hn,KbM _,n0,hz,by rw [Nat.div_self n0];omega,rfl,hu⟩
structure Cn (f:Nat->Int)(L:cP):Prop where
 ex:∃F M R,F+M<=98000/\FZ F M R f L
section
variable {F M G N:Nat}{R S:Int}{f g:Nat->Int}{A B L L':cP}
theorem Cn.uniq (h:Cn f L)(h':Cn f L'):L=L':=by
 obtain⟨F,M,R,hb,c⟩:=h.ex
 obtain⟨F',M',R',hb',c'⟩:=h'.ex
 exact c.uniq c' hb hb'
theorem Cn.congr (h:Cn f L)(e:∀d,f d=g d):Cn g L:=by
 have:f=g:=funext e
 subst this;exact h
theorem Cn.canon (h:Cn f L):Canon f L.x.length L.y.length L.z/\Up f/\lat L=f/\L.y≠[]/\0<=L.z:=by
 obtain⟨F,M,R,hb,c⟩:=h.ex
 have r:=c.rep hb
 obtain⟨⟨L0,h0,rfl⟩⟩:=c
 obtain⟨_,F1,k,g,cn,_,_,_,_,e⟩:=KA L0 h0.y (by have:=h0.x;have:=h0.yM;omega)
 refine⟨?_,r.up,r.lt,r.y,r.z0⟩
 rw [e]
 have e1:(rB (lat L0) F1 k g).x.length=F1:=by simp [rB]
 have e2:(rB (lat L0) F1 k g).y.length=k:=by simp [rB]
 rw [e1,e2]
 rw [h0.lt] at cn
 exact cn
theorem Cn.rep (h:Cn f L)(hp:b_ f F M R)(m0:0<M):dh F M R f L:=by
 obtain⟨c,up,lt,y,z0⟩:=h.canon
 have hd:=c.dvd m0 hp
 refine⟨c.vh _ (hp.down m0 c.per),y,hd,m0,z0,?_,lt,up⟩
 have h1:=c.per.mul (M / L.y.length)
 rw [Kda hd] at h1
 have h2:=hp.gain h1
 rw [h2,Kb6];exact Kbm _
/-- bM exact rise -/
theorem dh.to (h:dh F M R f L)(hp:b_ f F M S):dh F M S f L:=by
 have e:=hp.gain h.QK
 exact⟨h.x,h.y,h.m,h.m0,h.z0,by rw [e,Kb6];exact Kbm _,h.lt,h.up⟩
theorem dh.gain (h:dh F M R f L)(hp:b_ f F M S):S=((M / L.y.length:Nat):Int)*L.z:=hp.gain h.QK
theorem grow (hp:b_ f F M R)(up:Up f)(hR:0<R)(n:Nat):(n:Int)<=f (F+M*n):=by
 rw [b_.many hp n (Kat _)]
 have h0:=up.nn F
 have h1:1*(n:Int)<=R*(n:Int):=Kb7 (by omega) (by omega)
 omega
end
/-- h tells bM first day of which f tells at least a number -/
structure vA (f h:Nat->Int):Prop where
 n0:∀n,0<=h n
 iff:∀n d:Nat,(n:Int)<=f d↔h n<=(d:Int)
section
variable {F M:Nat}{R:Int}{f g h h':Nat->Int}{A:cP}
theorem vA.uniq (a:vA f h)(b:vA f h'):h=h':=by
 funext n
 have h1:=(a.iff n (h' n).toNat).mp ((b.iff n (h' n).toNat).mpr (by have:=b.n0 n;omega))
 have h2:=(b.iff n (h n).toNat).mp ((a.iff n (h n).toNat).mpr (by have:=a.n0 n;omega))
 have:=a.n0 n
 have:=b.n0 n
 omega
theorem vA.up (a:vA f h):Up h:=⟨a.n0 0,λn=>by
 have h1:=(a.iff (n+1) (h (n+1)).toNat).mpr (by have:=a.n0 (n+1);omega)
 have h2:=(a.iff n (h (n+1)).toNat).mp (by omega)
 have:=a.n0 (n+1)
 omega⟩
theorem vA.per (a:vA f h)(up:Up f)(hp:b_ f F M R)(r0:0<=R):b_ h ((f F).toNat+1) R.toNat (M:Int):=λn hn=>by
 have hn':f F<(n:Int):=by have:=up.nn F;omega
 have key:∀d:Nat,h (n+R.toNat)<=(d:Int)↔h n+(M:Int)<=(d:Int):=λd=>by
  rw [<-a.iff]
  rcases Kbc d (F+M) with z|z
  ·have h1:=up.mono (show d<=F+M by omega)
   rw [hp F (Kat _)] at h1
   constructor
   ·intro q;omega
   ·intro q
    have h2:(n:Int)<=f F:=(a.iff n F).mpr (by omega)
    omega
  ·have h1:=hp (d-M) (by omega)
   rw [show d-M+M=d by omega] at h1
   have h2:=a.iff n (d-M)
   constructor
   ·intro q
    have:=h2.mp (by omega)
    omega
   ·intro q
    have:=h2.mpr (by omega)
    omega
 have k1:=(key (h (n+R.toNat)).toNat).mp (by have:=a.n0 (n+R.toNat);omega)
 have k2:=(key (h n+(M:Int)).toNat).mpr (by have:=a.n0 n;omega)
 have:=a.n0 n
 have:=a.n0 (n+R.toNat)
 omega
theorem Up.succ (hu:Up h):Up (λn=>h (n+1)):=⟨hu.nn _,λd=>hu.2 _⟩
theorem b_.succ {F M:Nat}(hp:b_ h (F+1) M R):b_ (λn=>h (n+1)) F M R:=λd hd=>by
 have:=hp (d+1) (by omega)
 rwa [show d+1+M=d+M+1 by omega] at this
end
def red (a b:Nat):Int×Int:=(((a / Kbf a b:Nat):Int),((b / Kbf a b:Nat):Int))
structure Sk (n:Nat)(s:aa):Prop where
 a0:0<=s.1
 b0:0<=s.2.1
 b1:s.2.1<10 ^ 40
 c0:0<=s.2.2
 c1:s.2.2<=n
theorem Sk.mono {n m:Nat}{s:aa}(h:Sk n s)(hm:n<=m):Sk m s:=⟨h.a0,h.b0,h.b1,h.c0,by have:=h.c1;omega⟩
theorem uB {x:Int}{j:Int}(h0:0<=x)(h1:x<10 ^ 80)(j0:0<=j)(j1:j<=1000):gb x j=true:=by
 unfold gb
 rw [decide_eq_true j0,decide_eq_true j1]
 have h2:x.natAbs<2 ^ 1000:=by
  have h3:x.natAbs<10 ^ 80:=by omega
  exact Nat.lt_trans h3 (by decide +kernel)
 rw [decide_eq_true h2]
 rfl
theorem dO {α β:Type}(v:α×aa)(f:α->aa->β):a_ v f=f v.1 v.2:=(Eq.refl (a_ v f)).trans (Eq.refl (f v.1 v.2))
theorem eO {α:Type}(v:α×aa)(f:α->aa->Prop):aW v f=f v.1 v.2:=(Eq.refl (aW v f)).trans (Eq.refl (f v.1 v.2))
theorem ZF {t:Int->aa->Bool×aa}{d:Int->aa->Prop}{N:Nat}(ht:∀x s n,Sk n s->n<N->d x s/\Sk (n+1) (t x s).2):∀(xs:List Int) (s:aa) (n:Nat),Sk n s->n+xs.length<=N ->
  IZ t (λx s=>(x,s)) d (λ_ _=>True) xs s/\((cC t (λx s=>(x,s)) xs s).1).Sublist xs/\Sk (n+xs.length) (cC t (λx s=>(x,s)) xs s).2
 |[],s,n,h,_=>⟨trivial,Ka2.refl _,h⟩
 |x::xs,s,n,h,hn=>by
  have hn:n+(xs.length+1)<=N:=hn
  obtain⟨h1,h2⟩:=ht x s n h (by omega)
  obtain⟨i1,i2,i3⟩:=ZF ht xs (t x s).2 (n+1) h2 (by omega)
  have e:n+(x::xs).length=n+1+xs.length:=by simp;omega
  rw [e]
  unfold cC IZ
  by_cases c:(t x s).1=true
  ·rw [if_pos c,if_pos c]
   exact⟨⟨h1,trivial,i1⟩,i2.cons_cons x,i3⟩
  ·rw [if_neg c,if_neg c]
   exact⟨⟨h1,i1⟩,i2.cons x,i3⟩
theorem UM (n:Int):wI (rng 0 n) n:=by
 refine⟨?_,λx hx=>by have:=zd.mp hx;omega⟩
 unfold rng
 refine KbC.mpr (KbY.imp ?_)
 intro a b hab
 omega
theorem wI.sub {xs ys:List Int}{n:Int}(h:wI ys n)(hs:xs.Sublist ys):wI xs n:=⟨h.pw.sublist hs,λx hx=>h.rg x (hs.subset hx)⟩
theorem Px {xs:List Int}{i:Int}(h0:0<=i)(h1:i<xs.length):aq xs i∈xs:=by
 rw [Ga h0,KbR,Kau (by omega)]
 exact Kdl _
structure LOk (L:cP):Prop where
 n0:L.y≠[]
 z0:0<=L.z
 up:Up (lat L)
 xb:∀v∈L.x,v<=100
 yb:∀v∈L.y,v<=100
theorem LOk.rep {L:cP}(h:LOk L):dh L.x.length L.y.length L.z (lat L) L:=dh.own h.n0 h.z0 h.up
theorem ZV {α:Type}[Inhabited α](a:α)(r:List α):aq (a::r) (0:Int)=a:=by
 unfold aq L2.atI L2.ixN
 rw [if_pos (by omega),if_pos (by simp)]
 rfl
theorem eu.up {P:Nat->Prop}{r:Option Int}(h:eu P r)(k:Nat):eu (λd=>k<=d/\P (d-k)) (r.map λv=>v+(k:Int)):=by
 rcases h with⟨rfl,h⟩|⟨d,rfl,h1,h2⟩
 ·exact .inl ⟨rfl,λd q=>h _ q.2⟩
 ·refine .inr ⟨d+k,rfl,⟨by omega,by rw [show d+k-k=d by omega];exact h1⟩,λe he q=>h2 (e-k) (by omega) q.2⟩
theorem Nd.optN {r:Option Int}(h:∀v,r=some v->0<=v/\v<=10 ^ 59):Nd 0 61 (enc r):=by
 cases r with
 |none=>exact⟨rfl,Kat _,rfl,by decide⟩
 |some v=>have:=h v rfl;exact Nd.int (i:=v) (by omega) (by omega)
theorem Dk {r:Option Int}(h:∀v,r=some v->0<=v/\v<=10 ^ 59):oA (enc r)=true:=(Nd.optN h).repr (by omega) (by omega)
theorem eu.le {P:Nat->Prop}{r:Option Int}(h:eu P r){F M:Nat}(hp:∀d,F<=d->P (d+M)->P d)(m0:0<M):∀v,r=some v->0<=v/\v<(F+M:Nat):=λv e=>by
 rcases h.bound hp m0 with e'|⟨d,e',hd⟩
 ·rw [e'] at e;cases e
 ·rw [e'] at e
  have:=Option.some.inj e
  omega
theorem Nd.two {k c:Nat}{a b:PyData}(ha:Nd k c a)(hb:Nd k c b):Nd (k+1) (2*(c+2)+3) (.list [a,b]):=by
 refine Nd.list (n:=2) (λd hd=>?_) (Kat _)
 rcases Kah.mp hd with rfl|hd
 ·exact ha
 rcases Kah.mp hd with rfl|hd
 ·exact hb
 ·cases hd
section
variable {F F' M:Nat}{R S:Int}{f g h h2:Nat->Int}{A B:cP}
theorem vA.le (a:vA f h)(up:Up f)(hp:b_ f F M R)(hR:0<R)(n:Nat):h n<=((F+M*n:Nat):Int):=(a.iff n _).mp (grow hp up hR n)
end
theorem vA.back {f h u2:Nat->Int}(a:vA f h)(b:vA (λn=>h (n+1)) u2)(up:Up f)(m:Nat):u2 (m+1)=f m:=by
 have key:∀n:Nat,u2 (m+1)<=(n:Int)↔f m<=(n:Int):=λn=>by
  rw [<-b.iff]
  have:=a.iff (n+1) m
  show ((m+1:Nat):Int)<=h (n+1)↔_
  omega
 have h1:=(key (u2 (m+1)).toNat).mp (by have:=b.n0 (m+1);omega)
 have h3:=(key (f m).toNat).mpr (by have:=up.nn m;omega)
 have:=b.n0 (m+1)
 have:=up.nn m
 omega
mutual
/-- how many lists -/
def nl:PyData->Nat
 |.list xs=>C9 xs+1
 |.tuple xs=>C9 xs
 |_=>0
def C9:List PyData->Nat
 |[]=>0
 |x::xs=>nl x+C9 xs
end
theorem Nd.aqZ {S:DS}{a b:Nat}(hx:∀v∈S.x,-10 ^ 59<=v/\v<=10 ^ 59)(hu:∀v∈S.u,-10 ^ 59<=v/\v<=10 ^ 59)(hy:-10 ^ 59<=S.y/\S.y<=10 ^ 59)(hz:-10 ^ 59<=S.z/\S.z<=10 ^ 59)(la:S.x.length<=a)(lb:S.u.length<=b):Nd 2 ((a+b)*63+150) (enc S):=by
 have n1:=Nd.ints (n:=S.x.length) hx (Kat _)
 have n2:=Nd.ints (n:=S.u.length) hu (Kat _)
 have n3:=Nd.int (i:=S.y) hy.1 hy.2
 have n4:=Nd.int (i:=S.z) hz.1 hz.2
 show Nd 2 _ (.tuple [.list (S.x.map .int),.int S.y,.int S.z,.list (S.u.map .int)])
 generalize PyData.list (S.x.map .int)=p at *
 generalize PyData.list (S.u.map .int)=q at *
 generalize PyData.int S.y=r at *
 generalize PyData.int S.z=t at *
 have d1:=n1.dep
 have d2:=n2.dep
 have d3:=n3.dep
 have d4:=n4.dep
 have c1:=n1.co
 have c2:=n2.co
 have c3:=n3.co
 have c4:=n4.co
 refine⟨by simp [PyData.canLay0,PyData.canLayAll0,n1.lay,n2.lay,n3.lay,n4.lay],by simp only [PyData.depth,PyData.depthAll];omega,by simp [small,AE,n1.sm,n2.sm,n3.sm,n4.sm],by simp only [cost,eqc];omega⟩
theorem Nd.aqY {S:DS}{a b:Nat}(h:lq S)(hy:S.y<=10 ^ 50)(hz:S.z<=10 ^ 50)(la:S.x.length<=a)(lb:S.u.length<=b):Nd 2 ((a+b)*63+150) (enc S):=by
 have y0:=h.y0
 have z1:=h.z1
 exact Nd.aqZ (λv hv=>by have:=h.x.rg v hv;omega) (λv hv=>by have:=h.u.rg v hv;omega) ⟨by omega,by omega⟩ ⟨by omega,by omega⟩ la lb
/-- a ladder -/
structure LO (L:cP):Prop where
 n0:L.y≠[]
 z0:0<=L.z
 up:Up (lat L)
theorem LO.rep {L:cP}(h:LO L):dh L.x.length L.y.length L.z (lat L) L:=dh.own h.n0 h.z0 h.up
theorem vA.left {f f' h:Nat->Int}(a:vA f h)(b:vA f' h)(u:Up f)(u':Up f'):f=f':=by
 funext d
 have h1:=u.nn d
 have h2:=u'.nn d
 have e1:=(b.iff (f d).toNat d).mpr ((a.iff (f d).toNat d).mp (by omega))
 have e2:=(a.iff (f' d).toNat d).mpr ((b.iff (f' d).toNat d).mp (by omega))
 omega
/-- all numbers greater by as aq7 -/
theorem CH (L:cP)(h:L.y≠[])(c:Int)(d:Nat):lat (T3.mk (L.x.map λv=>v+c) (L.y.map λv=>v+c) L.z) d=lat L d+c:=by
 have n0:=KaH.mpr h
 have lx:(L.x.map λv=>v+c).length=L.x.length:=by simp
 have ly:(L.y.map λv=>v+c).length=L.y.length:=by simp
 rcases Kbc d L.x.length with q|q
 ·rw [IF q,IF (L:=T3.mk (L.x.map λv=>v+c) (L.y.map λv=>v+c) L.z) (by show d<(L.x.map λv=>v+c).length;omega)]
  exact getD_map q
 ·have e1:=Ni L (d-L.x.length)
  have e2:=Ni (T3.mk (L.x.map λv=>v+c) (L.y.map λv=>v+c) L.z) (d-L.x.length)
  have e2:lat (T3.mk (L.x.map λv=>v+c) (L.y.map λv=>v+c) L.z) ((L.x.map λv=>v+c).length+(d-L.x.length))=(L.y.map λv=>v+c).getD ((d-L.x.length) % (L.y.map λv=>v+c).length) 0+L.z*(((d-L.x.length) / (L.y.map λv=>v+c).length:Nat):Int):=e2
  rw [lx,ly,getD_map (Kb1 _ n0)] at e2
  rw [show L.x.length+(d-L.x.length)=d by omega] at e1 e2
  rw [e1,e2];omega
theorem LO.more {L:cP}(h:LO L){c:Int}(c0:0<=c):LO (T3.mk (L.x.map λv=>v+c) (L.y.map λv=>v+c) L.z):=by
 refine⟨by simpa using h.n0,h.z0,?_⟩
 have e:lat (T3.mk (L.x.map λv=>v+c) (L.y.map λv=>v+c) L.z)=λd=>lat L d+c:=funext (CH L h.n0 c)
 rw [e]
 exact⟨by have:=h.up.1;show 0<=lat L 0+c;omega,λd=>by have:=h.up.2 d;show lat L d+c<=lat L (d+1)+c;omega⟩
theorem bl {α:Type}{v:α}{f:α->Prop}{g:α->Bool×aa}(h:f v/\(g v).1=true):bu v f/\(lt v g).1=true:=h
theorem Mg {S:DS}{a b:Nat}(h:lq S)(ha:S.y<=a)(hb:S.z<=b)(a5:a<=1000000)(b5:b<=1000000):Nd 2 ((a+b)*63+150) (enc S):=by
 have h1:=FQ h.x h.y0
 have h2:=FQ h.u (by have:=h.z1;omega)
 exact Nd.aqY h (by omega) (by omega) (by omega) (by omega)
abbrev cL:=List (Int×Bool)
/-- notes in order: no day below 0,no day noted in two ways -/
structure AW (ns:cL):Prop where
 d0:∀n∈ns,0<=n.1
 fn:∃v:Int->Bool,∀n∈ns,n.2=v n.1
 l:ns.length<=1000
theorem lR {v:Int->Bool}:∀(ns:cL) (st:cL),(∀n∈ns,0<=n.1/\n.2=v n.1)->(∀d b,aN st d=some b->b=v d)->st.length+ns.length<=1000->bH Ic R5 ns st
 |[],_,_,_,_=>trivial
 |x::ns,st,h,hs,hl=>by
  obtain⟨x0,xv⟩:=h x Kaa
  rw [Kad] at hl
  have e:Kba (aN st x.1) x.2=x.2:=by
   cases hd:aN st x.1 with
   |none=>rfl
   |some b=>
    show b=x.2
    rw [hs _ _ hd,xv]
  have hc:¬((x.1<(0:Int))∨((Kba (aN st x.1) x.2)≠x.2)):=by
   rintro (q|q)
   ·omega
   ·exact q e
  refine⟨⟨λq=>hc q,λ_=>by omega⟩,?_⟩
  have et:Ic st x=(x.1,x.2)::st:=by
   unfold Ic
   rw [if_neg hc];rfl
  rw [et]
  refine lR ns _ (λn hn=>h n (Kab _ hn)) (λd b hd=>?_) (by rw [Kad];omega)
  have hd:(if x.1=d then some x.2 else aN st d)=some b:=hd
  by_cases q:x.1=d
  ·rw [if_pos q] at hd
   cases hd
   rw [<-q];exact xv
  ·rw [if_neg q] at hd
   exact hs _ _ hd
theorem kH {ns:cL}(h:AW ns):Bl ns:=by
 obtain⟨v,hv⟩:=h.fn
 exact lR (v:=v) ns [] (λn hn=>⟨h.d0 n hn,hv n hn⟩) (λd b hd=>by cases hd) (by have:=h.l;simp;omega)
theorem fW:∀(sets:List DS) (st:Unit),(∀S∈sets,lq S/\S.y+S.z<=98000)->bH MA Si sets st
 |[],_,_=>trivial
 |S::sets,st,h=>⟨iX (h S Kaa).1 (h S Kaa).2,fW sets _ λT hT=>h T (Kab _ hT)⟩
theorem gv {sets:List DS}(h:∀S∈sets,lq S/\S.y+S.z<=98000):Au sets:=fW sets () h
theorem tO {S:DS}(h:lq S)(d:Int):Bt S d:=λ_=>by have:=h.z1;omega
theorem v_ (S:DS){d:Int}(h:0<=d):Kq S d=aA S d.toNat:=by
 have e:((d.toNat:Nat):Int)=d:=by omega
 unfold Kq aA
 rw [e]
theorem B3 {S:DS}{ns:cL}(h:lq S)(hn:ns.length<=100000):BZ S ns:=⟨λx _=>tO h x.1,hn⟩
theorem sZ (S:DS)(ns:cL):AI S ns=true↔∀n∈ns,Kq S n.1=n.2:=by
 unfold AI
 rw [KbL,Kbs]
 constructor
 ·intro h n hn
  exact of_decide_eq_true (h n hn)
 ·intro h n hn
  exact decide_eq_true (h n hn)
theorem yS {α:Type}[Inhabited α]{xs:List α}{i:Int}(h0:0<=i)(h1:i<xs.length):aq xs i∈xs:=by
 obtain⟨k,rfl⟩:=KaK h0
 have hk:k<xs.length:=by omega
 rw [AB,Kau hk]
 exact Kdl hk
theorem zu {α β:Type}[Inhabited α][Inhabited β](g:α->β){xs:List α}{i:Int}(h0:0<=i)(h1:i<xs.length):aq (xs.map g) i=g (aq xs i):=by
 obtain⟨k,rfl⟩:=KaK h0
 have hk:k<xs.length:=by omega
 rw [AB,AB,Kau hk,Kau (by rw [Kag];exact hk),Kb9];rfl
theorem oO {α:Type}[Inhabited α]:∀(xs ys:List α) (p:Int×α),p∈cf (ys.length:Int) xs->aq (ys++xs) p.1=p.2
 |[],_,p,h=>by cases h
 |x::xs,ys,p,h=>by
  rcases Kah.mp (show p∈((ys.length:Int),x)::cf ((ys.length:Int)+1) xs from h) with z|z
  ·rw [z]
   show aq (ys++x::xs) (ys.length:Int)=x
   rw [AB,Kcm (Kat _),Nat.sub_self];rfl
  ·have:=oO xs (ys++[x]) p (by rw [Kan];exact z)
   rw [KaR] at this
   exact this
theorem Z0 {α:Type}:∀(xs:List α) (k:Int) (p:Int×α),p∈cf k xs->k<=p.1/\p.1<k+(xs.length:Int)/\p.2∈xs
 |[],_,p,h=>by cases h
 |x::xs,k,p,h=>by
  rcases Kah.mp (show p∈(k,x)::cf (k+1) xs from h) with z|z
  ·rw [z,Kad]
   exact⟨Kbm _,by show k<_;omega,Kaa⟩
  ·obtain⟨a,b,c⟩:=Z0 xs (k+1) p z
   rw [Kad]
   exact⟨by omega,by omega,Kab _ c⟩
theorem Xg {α:Type}(q:α->Bool):∀(xs:List α) (k:Int),((cf k xs).filter λp=>q p.2).map (λp=>p.2)=xs.filter q
 |[],_=>rfl
 |x::xs,k=>by
  show (((k,x)::cf (k+1) xs).filter λp=>q p.2).map (λp=>p.2)=_
  by_cases c:q x=true
  ·rw [KaJ (by exact c),KaJ c,Kai,Xg q xs (k+1)]
  ·rw [KaT (by exact c),KaT c,Xg q xs (k+1)]
theorem YL {α:Type}:∀(xs:List α) (k:Int),(cf k xs).length=xs.length
 |[],_=>rfl
 |x::xs,k=>by
  show (cf (k+1) xs).length+1=xs.length+1
  rw [YL xs (k+1)]
def cE (sets:List DS)(ns:cL):List DS:=sets.filter λS=>AI S ns
section
variable {sets:List DS}{ns:cL}{F M:Nat}
theorem s_ (hs:∀S∈sets,lq S/\S.y+S.z<=98000)(hl:sets.length<=1000)(hn:AW ns):Bv sets ns:=by
 have h:=hn.l
 refine⟨gv hs,kH hn,λx hx=>B3 (hs _ (Z0 sets 0 x hx).2.2).1 (by omega),by rw [YL];omega⟩
theorem sY (hs:∀S∈sets,lq S/\S.y+S.z<=98000)(hl:sets.length<=1000)(hn:AW ns)(hd:∀S∈sets,yU S):Bm sets ns/\Ip sets ns=(cE sets ns).map cM:=by
 have key:∀x∈ID sets ns,0<=x/\x<(sets.length:Int):=λx hx=>by
  obtain⟨p,hp,rfl⟩:=Kas.mp hx
  have:=Z0 sets 0 p (Kbb.mp hp).1
  omega
 refine⟨⟨s_ hs hl hn,λx hx=>?_,?_⟩,?_⟩
 ·obtain⟨a,b⟩:=key x hx
  exact⟨⟨by omega,b⟩,hd _ (yS a b)⟩
 ·unfold ID
  rw [Kag]
  refine KaB (Ka5 _ _) ?_
  rw [YL];omega
 ·unfold Ip ID cE
  rw [KaL,<-Xg (λS=>AI S ns) sets 0,KaL]
  have e:(λ(x1:Int×DS)=>decide ((AI x1.2 ns)=true))=λ(x1:Int×DS)=>AI x1.2 ns:=by
   funext p
   cases AI p.2 ns <;> rfl
  rw [e]
  refine Kax λp hp=>?_
  show cM (aq sets p.1)=cM p.2
  have:=oO sets [] p (Kbb.mp hp).1
  rw [show ([]:List DS)++sets=sets from rfl] at this
  rw [this]
/-- sets whose days VN round Ra -/
structure rm (F M:Nat)(sets:List DS):Prop where
 r:∀S∈sets,b9 F M (aA S) S
 b:2*F+2*M<=98000
 l:sets.length<=1000
theorem rm.big (h:rm F M sets):∀S∈sets,lq S/\S.y+S.z<=98000:=λS hS=>by
 have r:=h.r S hS
 have:=r.y
 have:=r.zM
 have:=h.b
 exact⟨r.ok,by omega⟩
theorem Uy:∀S∈cE sets ns,S∈sets:=λ_ hS=>(Kbb.mp hS).1
end
theorem fC {n:Nat}{s:aa}(h:Sk n s)(hn:n<1000000000){m:Int}(m0:0<m)(m1:m<10 ^ 50):cu s m/\0<=(aE s m).1/\(aE s m).1<m/\Sk (n+1) (aE s m).2:=by
 have a0:=h.a0
 have b0:=h.b0
 have b1:=h.b1
 have c0:=h.c0
 have c1:=h.c1
 have p40:(10:Int) ^ (KaU (40:Int))=10 ^ 40:=rfl
 have p37:(10:Int) ^ (KaU (37:Int))=10 ^ 37:=rfl
 constructor
 ·unfold cu
  refine⟨λ_=>⟨m0,?_⟩,λ_=>?_⟩
  ·rw [cS]
   exact⟨m0,by omega⟩
  ·rw [cS]
   dsimp only
   have q1:gb (s.2.1+(1500450271:Int)*(s.2.2+1)) 3=true:=uB (by omega) (by omega) (by omega) (by omega)
   refine⟨q1,by rw [p40];omega,?_⟩
   rw [cS,p40]
   generalize (s.2.1+(1500450271:Int)*(s.2.2+1)) ^ (KaU (3:Int))=v
   have e0:=KbX v (show ((10:Int) ^ 40+121)≠0 by omega)
   have e1:=KbK v (show (0:Int)<(10:Int) ^ 40+121 by omega)
   refine⟨uB (by omega) (by omega) (by omega) (by omega),by rw [p37];omega,?_⟩
   rw [cS]
   exact m0
 ·unfold aE
  by_cases hc:(0:Int)<s.1
  ·rw [if_pos hc]
   simp only [lt_eq]
   exact⟨KbX _ (by omega),KbK _ m0,⟨Int.ediv_nonneg (by omega) (by omega),b0,b1,c0,by show s.2.2<=_;omega⟩⟩
  ·rw [if_neg hc]
   simp only [lt_eq]
   exact⟨KbX _ (by omega),KbK _ m0,⟨a0,b0,b1,by show 0<=s.2.2+1;omega,by show s.2.2+1<=_;omega⟩⟩
def US:List (List Int):=[[(2:Int),(3:Int),(4:Int),(6:Int)],[(1:Int),(4:Int),(6:Int),(12:Int)],[(4:Int),(6:Int),(9:Int),(2:Int)],[(5:Int),(10:Int),(4:Int),(2:Int)],[(7:Int),(2:Int),(6:Int),(3:Int)],[(8:Int),(12:Int),(6:Int),(1:Int)],[(5:Int),(4:Int),(6:Int),(3:Int)]]
def UE:List (List Int):=[[(5:Int),(6:Int),(10:Int),(7:Int)],[(11:Int),(4:Int),(12:Int),(3:Int)],[(9:Int),(7:Int),(8:Int),(3:Int)],[(29:Int),(31:Int)]]
/-- Vf d8 divide one of three numbers -/
structure N5 (M:Nat)(l:List Int):Prop where
 m:M=5040∨M=528∨M=899
 l1:1<=l.length
 l4:l.length<=4
 z:∀z∈l,1<=z/\z<=31/\z.toNat∣M/\(M=899->13<=z)
theorem zT:∀l∈US,1<=l.length/\l.length<=4/\∀z∈l,1<=z/\z<=31/\z.toNat∣5040:=by decide +kernel
theorem wk:∀l∈UE,∃M,N5 M l:=by
 intro l hl
 simp only [UE,Kah,KaX,or_false] at hl
 rcases hl with rfl|rfl|rfl|rfl
 ·exact⟨5040,.inl rfl,by decide,by decide,by decide +kernel⟩
 ·exact⟨528,.inr (.inl rfl),by decide,by decide,by decide +kernel⟩
 ·exact⟨5040,.inl rfl,by decide,by decide,by decide +kernel⟩
 ·exact⟨899,.inr (.inr rfl),by decide,by decide,by decide +kernel⟩
theorem qG {n:Nat}{s:aa}(h:Sk n s)(hn:n<1000000):Aj s true/\(∃M,N5 M (A7 s true).1)/\Sk (n+2) (A7 s true).2:=by
 unfold Aj A7
 rw [cS,lt_eq,show ([[(2:Int),(3:Int),(4:Int),(6:Int)],[(1:Int),(4:Int),(6:Int),(12:Int)],[(4:Int),(6:Int),(9:Int),(2:Int)],[(5:Int),(10:Int),(4:Int),(2:Int)],[(7:Int),(2:Int),(6:Int),(3:Int)],[(8:Int),(12:Int),(6:Int),(1:Int)],[(5:Int),(4:Int),(6:Int),(3:Int)]]:List (List Int))=US from rfl]
 rw [show ([[(5:Int),(6:Int),(10:Int),(7:Int)],[(11:Int),(4:Int),(12:Int),(3:Int)],[(9:Int),(7:Int),(8:Int),(3:Int)],[(29:Int),(31:Int)]]:List (List Int))=UE from rfl]
 have e:(if (true:Bool)=true then (a_ (aE s (8:Int)) λa1 s1=>(decide (a1=(0:Int)),s1)) else (false,s))=(decide ((aE s 8).1=(0:Int)),(aE s 8).2):=by rw [if_pos rfl,dO]
 obtain⟨q1,q2,q3,q4⟩:=fC h (by omega) (m:=8) (by omega) (by omega)
 rw [e]
 generalize aE s (8:Int)=r0 at *
 rw [eO (decide (r0.1=(0:Int)),r0.2),dO (decide (r0.1=(0:Int)),r0.2)]
 dsimp only
 obtain⟨p1,p2,p3,p4⟩:=fC q4 (by omega) (m:=7) (by omega) (by omega)
 obtain⟨u1,u2,u3,u4⟩:=fC q4 (by omega) (m:=4) (by omega) (by omega)
 have ml:US.length=7:=rfl
 have mw:UE.length=4:=rfl
 rw [eO (aE r0.2 7),dO (aE r0.2 7),eO (aE r0.2 4),dO (aE r0.2 4)]
 generalize aE r0.2 (7:Int)=r1 at *
 generalize aE r0.2 (4:Int)=r2 at *
 refine⟨⟨λ_=>q1,λ_=>⟨u1,by omega,by omega⟩,λ_=>⟨p1,by omega,by omega⟩⟩,?_,?_⟩
 ·by_cases c:decide (r0.1=(0:Int))=true
  ·rw [if_pos c]
   exact wk _ (yS u2 (by omega))
  ·rw [if_neg c]
   obtain⟨a,b,d⟩:=zT _ (yS (xs:=US) p2 (by omega))
   exact⟨5040,.inl rfl,a,b,λz hz=>⟨(d z hz).1,(d z hz).2.1,(d z hz).2.2,λq=>by cases q⟩⟩
 ·by_cases c:decide (r0.1=(0:Int))=true
  ·rw [if_pos c];exact u4
  ·rw [if_neg c];exact p4
structure DI (M k:Nat)(S:DS):Prop where
 ok:lq S
 y:S.y<=40+4*(k:Int)
 z:S.z<=31
 dv:S.z.toNat∣M
 w:M=899->13<=S.z
theorem DI.mono {M k m:Nat}{S:DS}(h:DI M k S)(hm:k<=m):DI M m S:=⟨h.ok,by have:=h.y;omega,h.z,h.dv,h.w⟩
theorem Ck (t:Int)(t0:0<t)(t1:t<1000)(x:Int)(s:aa)(n:Nat)(h:Sk n s)(hn:n<999999999):cu s t/\Sk (n+1) ((decide ((aE s t).1=(0:Int)),(aE s t).2):Bool×aa).2:=by
 obtain⟨a1,_,_,a4⟩:=fC h (by omega) (m:=t) t0 (by omega)
 exact⟨a1,a4⟩
theorem DR {n:Nat}{s:aa}{l:List Int}{M:Nat}(hl:N5 M l)(h:Sk n s)(hn:n<1000000):yY s l/\DI M 0 (y_ s l).1/\Sk (n+100) (y_ s l).2:=by
 obtain⟨hm,hl1,hl4,hlz⟩:=hl
 unfold yY y_
 simp only [cS,lt_eq,eO,dO]
 obtain⟨a1,a2,a3,a4⟩:=fC h (by omega) (m:=4) (by omega) (by omega)
 generalize aE s (4:Int)=r1 at *
 obtain⟨b1,b2,b3,b4⟩:=fC a4 (by omega) (m:=9) (by omega) (by omega)
 generalize aE r1.2 (9:Int)=r2 at *
 obtain⟨c1,c2,c3,c4⟩:=fC b4 (by omega) (m:=3) (by omega) (by omega)
 generalize aE r2.2 (3:Int)=r3 at *
 have hg:0<=aq [(0:Int),r1.1,r2.1] r3.1/\aq [(0:Int),r1.1,r2.1] r3.1<=8:=by
  have:=Px (xs:=[(0:Int),r1.1,r2.1]) c2 (by simpa using c3)
  simp only [Kah,KaX,or_false] at this
  omega
 generalize aq [(0:Int),r1.1,r2.1] r3.1=v1 at *
 obtain⟨e1,e2,e3,e4⟩:=fC c4 (by omega) (m:=(l.length:Int)) (by omega) (by omega)
 generalize aE r3.2 (l.length:Int)=r4 at *
 obtain⟨z1,z2,z3,z4⟩:=hlz _ (Px (xs:=l) e2 (by omega))
 generalize aq l r4.1=L at *
 obtain⟨f1,f2,f3,f4⟩:=fC e4 (by omega) (m:=12) (by omega) (by omega)
 have hq:∃q:Bool×aa,(if (12:Int)<L then (true,r4.2) else (decide ((aE r4.2 12).1=(0:Int)),(aE r4.2 12).2))=q/\Sk (n+5) q.2:=by
  by_cases c:(12:Int)<L
  ·rw [if_pos c];exact⟨_,rfl,e4.mono (by omega)⟩
  ·rw [if_neg c];exact⟨_,rfl,f4.mono (by omega)⟩
 obtain⟨q,eq,q2⟩:=hq
 rw [eq]
 obtain⟨g1,g2,g3,g4⟩:=fC q2 (by omega) (m:=41) (by omega) (by omega)
 have hp:∃p:Int×aa,(if q.1=true then ((aE q.2 (41:Int)).1,(aE q.2 (41:Int)).2) else (v1,q.2))=p/\0<=p.1/\p.1<=40/\Sk (n+6) p.2:=by
  by_cases c:q.1=true
  ·rw [if_pos c];exact⟨_,rfl,g2,by show (aE q.2 41).1<=40;omega,g4.mono (by omega)⟩
  ·rw [if_neg c];exact⟨_,rfl,hg.1,by show v1<=40;omega,q2.mono (by omega)⟩
 obtain⟨p,ep,p1,p2,p3⟩:=hp
 rw [ep]
 have la:=rT 0 p.1
 have lb:=rT 0 L
 obtain⟨i1,i2,i3⟩:=ZF (N:=999999999) (Ck 2 (by omega) (by omega)) (rng 0 p.1) p.2 _ p3 (by omega)
 generalize cC (λ(x:Int) s=>(decide ((aE s (2:Int)).1=(0:Int)),(aE s (2:Int)).2)) (λx s=>(x,s)) (rng 0 p.1) p.2=k1 at *
 obtain⟨j1,j2,j3,j4⟩:=fC i3 (by omega) (m:=4) (by omega) (by omega)
 generalize aE k1.2 (4:Int)=r7 at *
 have hf:0<aq [(2:Int),(3:Int),(4:Int),L+1] r7.1/\aq [(2:Int),(3:Int),(4:Int),L+1] r7.1<1000:=by
  have:=Px (xs:=[(2:Int),(3:Int),(4:Int),L+1]) j2 (by simpa using j3)
  simp only [Kah,KaX,or_false] at this
  omega
 generalize aq [(2:Int),(3:Int),(4:Int),L+1] r7.1=few at *
 obtain⟨m1,m2,m3⟩:=ZF (N:=999999999) (Ck few hf.1 hf.2) (rng 0 L) r7.2 _ j4 (by omega)
 generalize cC (λ(x:Int) s=>(decide ((aE s few).1=(0:Int)),(aE s few).2)) (λx s=>(x,s)) (rng 0 L) r7.2=k2 at *
 have z1':=i2.length_le
 have z2':=m2.length_le
 refine⟨⟨a1,b1,c1,⟨by simp;omega,by simpa using c3⟩,e1,⟨by omega,by omega⟩,λ_=>f1,λ_=>g1,⟨by omega,by omega⟩,i1,by omega,j1,⟨by simp;omega,by simpa using j3⟩,⟨by omega,by omega⟩,m1,by omega⟩,⟨⟨p1,z1,(UM _).sub i2,(UM _).sub m2⟩,?_,?_,z3,z4⟩,m3.mono (by omega)⟩
 ·show p.1<=_;omega
 ·show L<=31;omega
theorem D8:∀z:Nat,z<13->z∣5040->2*z∣5040:=by decide +kernel
theorem D9:∀z:Nat,z<13->z∣528->2*z∣528:=by decide +kernel
theorem HH {M z:Nat}(hM:M=5040∨M=528∨M=899)(w:M=899->13<=z)(hz:z<13)(h:z∣M):2*z∣M:=by
 rcases hM with rfl|rfl|rfl
 ·exact D8 z hz h
 ·exact D9 z hz h
 ·have:=w rfl;omega
theorem Pb {S:DS}(h:lq S)(d:Int):vc S d:=λ_=>by have:=h.z1;omega
theorem m9 {M k:Nat}{S:DS}(hM:M=5040∨M=528∨M=899)(h:DI M k S)(hk:k<=100){m:Int}(m0:0<=m)(m1:m<=4)(hz:S.z<13):yP S m/\DI M (k+1) (J' S m):=by
 have y0:=h.ok.y0
 have z1:=h.ok.z1
 have hy:=h.y
 have la:=rT 0 (S.y+m)
 have lb:=rT 0 (2*S.z)
 constructor
 ·unfold yP
  simp only [cS]
  exact⟨⟨by omega,by omega⟩,λx _=>Pb h.ok x,by omega,⟨by omega,by omega⟩,λx _=>Pb h.ok _,by omega⟩
 ·refine⟨⟨by show 0<=S.y+m;omega,by show 1<=2*S.z;omega,(UM (S.y+m)).sub KbU,(UM (2*S.z)).sub KbU⟩,by show S.y+m<=_;omega,by show 2*S.z<=31;omega,?_,λq=>by have:=h.w q;omega⟩
  show (2*S.z).toNat∣M
  rw [show (2*S.z).toNat=2*S.z.toNat by omega]
  exact HH hM (λq=>by have:=h.w q;omega) (by omega) h.dv
theorem wW {xs:List Int}{hi d:Int}(h:wI xs hi)(d0:0<=d)(d1:d<hi)(hd:d∉xs):wI (sortI (xs++[d])) hi:=by
 have pm:=IA (xs++[d])
 have so:=Fj (xs++[d])
 have nd:(sortI (xs++[d])).Nodup:=pm.nodup_iff.mpr (by
  rw [Kal]
  refine⟨h.pw.imp (λq=>by omega),by simp,λa ha b hb=>?_⟩
  rw [Kae.mp hb]
  intro e
  exact hd (e ▸ ha))
 refine⟨?_,λx hx=>?_⟩
 ·have:=List.pairwise_and_iff.mpr ⟨so,nd⟩
  exact this.imp λq=>by
   have q1:=q.1
   have q2:=q.2
   omega
 ·rcases Kam.mp (pm.mem_iff.mp hx) with z|z
  ·exact h.rg x z
  ·rw [Kae.mp z];exact⟨d0,d1⟩
theorem Dj {M k:Nat}{S:DS}(h:DI M k S){d:Int}(d0:0<=d)(d1:d<S.y):DI M k (T4.mk (if d∉S.x then (sortI (S.x++[d])) else (KaS (λ(x2:Int)=>decide (x2≠d)) S.x)) (T3.mk S.y S.z S.u).x (T3.mk S.y S.z S.u).y (T3.mk S.y S.z S.u).z):=by
 refine⟨⟨h.ok.y0,h.ok.z1,?_,h.ok.u⟩,h.y,h.z,h.dv,h.w⟩
 show wI (if d∉S.x then (sortI (S.x++[d])) else (KaS (λ(x2:Int)=>decide (x2≠d)) S.x)) S.y
 split
 ·rename_i q
  exact wW h.ok.x d0 d1 q
 ·exact h.ok.x.sub KbU
theorem Ad {n:Nat}{s:aa}{l:List Int}{M:Nat}(hl:N5 M l){st:List DS}{k:Nat}(hk:k<=100)(hs:∀S∈st,DI M k S)(h:Sk n s)(hn:n<1000000)(hlen:st.length<=1000)(x:Int):OA l (st,s) x/\(∃T,(wN l (st,s) x).1=st++[T]/\DI M (k+1) T)/\Sk (n+110) (wN l (st,s) x).2:=by
 unfold OA wN
 rw [eO (st,s),dO (st,s)]
 dsimp only
 obtain⟨a1,a2,a3⟩:=DR hl h hn
 rw [eO (y_ s l),dO (y_ s l)]
 generalize y_ s l=r1 at *
 obtain⟨b1,b2,b3,b4⟩:=fC a3 (by omega) (m:=6) (by omega) (by omega)
 rw [eO (aE r1.2 6),dO (aE r1.2 6)]
 generalize aE r1.2 (6:Int)=r2 at *
 rw [cS r1.1,cS r2.1,lt_eq r1.1,lt_eq r2.1]
 by_cases c:r2.1<2/\st≠[]
 ·rw [if_pos c]
  have sp:=KaH.mpr c.2
  obtain⟨c1,c2,c3,c4⟩:=fC b4 (by omega) (m:=(st.length:Int)) (by omega) (by omega)
  rw [eO (aE r2.2 (st.length:Int)),dO (aE r2.2 (st.length:Int))]
  generalize aE r2.2 (st.length:Int)=r3 at *
  have hT:=hs _ (yS c2 c3)
  rw [cS (aq st r3.1),lt_eq (aq st r3.1)]
  generalize aq st r3.1=T at *
  have y0:=hT.ok.y0
  have hy:=hT.y
  obtain⟨e1,e2,e3,e4⟩:=fC c4 (by omega) (m:=T.y+1) (by omega) (by omega)
  rw [eO (aE r3.2 (T.y+1)),dO (aE r3.2 (T.y+1))]
  generalize aE r3.2 (T.y+1)=r4 at *
  rw [cS r4.1,lt_eq r4.1]
  obtain⟨f1,f2,f3,f4⟩:=fC e4 (by omega) (m:=5) (by omega) (by omega)
  by_cases w:r2.1=0
  ·rw [if_pos w]
   by_cases q:T.z<13
   ·rw [if_pos q]
    rw [dO (aE r4.2 5)]
    obtain⟨g1,g2⟩:=m9 hl.m hT hk f2 (by omega) q
    refine⟨⟨a1,b1,λ_=>⟨c1,⟨by omega,by omega⟩,e1,λ_ _=>⟨f1,?_⟩,λz=>absurd w z⟩,?_⟩,⟨_,rfl,g2⟩,f4.mono (by omega)⟩
    ·rw [eO];exact g1
    ·show st.length<100000;omega
   ·rw [if_neg q]
    refine⟨⟨a1,b1,λ_=>⟨c1,⟨by omega,by omega⟩,e1,λ_ z=>absurd z q,λz=>absurd w z⟩,?_⟩,⟨_,rfl,hT.mono (by omega)⟩,e4.mono (by omega)⟩
    show st.length<100000;omega
  ·rw [if_neg w]
   have hx:T.x.length<=2000:=by
    have:=FQ hT.ok.x hT.ok.y0
    omega
   by_cases q:r4.1<T.y
   ·rw [if_pos q]
    refine⟨⟨a1,b1,λ_=>⟨c1,⟨by omega,by omega⟩,e1,λz=>absurd z w,λ_ _=>⟨λ_=>by show T.x.length+1<=_;omega,λ_=>by omega⟩⟩,?_⟩,⟨_,rfl,(Dj hT e2 q).mono (by omega)⟩,e4.mono (by omega)⟩
    show st.length<100000;omega
   ·rw [if_neg q]
    refine⟨⟨a1,b1,λ_=>⟨c1,⟨by omega,by omega⟩,e1,λz=>absurd z w,λ_ z=>absurd z q⟩,?_⟩,⟨_,rfl,hT.mono (by omega)⟩,e4.mono (by omega)⟩
    show st.length<100000;omega
 ·rw [if_neg c]
  refine⟨⟨a1,b1,λz=>absurd z c,?_⟩,⟨_,rfl,a2.mono (by omega)⟩,b4.mono (by omega)⟩
  show st.length<100000;omega
theorem pQ {l:List Int}{M:Nat}(hl:N5 M l):∀(xs:List Int) (st:List DS) (s:aa) (n k:Nat),(∀S∈st,DI M k S)->Sk n s->k+xs.length<=100->n+110*xs.length<1000000->st.length+xs.length<=1000->bH (wN l) (OA l) xs (st,s)/\(∃R,(Kaq (wN l) (st,s) xs).1=st++R/\R.length=xs.length/\∀S∈st++R,DI M (k+xs.length) S)/\Sk (n+110*xs.length) (Kaq (wN l) (st,s) xs).2
 |[],st,s,n,k,hs,h,_,_,_=>⟨trivial,⟨[],by simp,rfl,λS hS=>hs S (by simpa using hS)⟩,h⟩
 |x::xs,st,s,n,k,hs,h,hk,hn,hlen=>by
  rw [Kad] at hk hn hlen
  obtain⟨t1,⟨T,t2,t3⟩,t4⟩:=Ad hl (k:=k) (by omega) hs h (by omega) (by omega) x
  have e:wN l (st,s) x=(st++[T],(wN l (st,s) x).2):=Prod.ext t2 rfl
  have hs':∀S∈st++[T],DI M (k+1) S:=λS hS=>by
   rcases Kam.mp hS with z|z
   ·exact (hs S z).mono (by omega)
   ·rw [Kae.mp z];exact t3
  obtain⟨q1,⟨R,q2,q3,q4⟩,q5⟩:=pQ hl xs (st++[T]) (wN l (st,s) x).2 (n+110) (k+1) hs' t4 (by omega) (by omega) (by rw [Kan];show st.length+1+xs.length<=1000;omega)
  rw [KaD,Kad]
  refine⟨⟨t1,?_⟩,⟨T::R,?_,by rw [Kad,q3],λS hS=>?_⟩,?_⟩
  ·rw [e];exact q1
  ·rw [e,q2,KaR];rfl
  ·have:=q4 S (by rw [KaR];exact hS)
   exact this.mono (by omega)
  ·rw [e];exact q5.mono (by omega)
theorem Ac {n:Nat}{s:aa}(h:Sk n s)(hn:n<100000):yX s 5 true/\((Aw s 5 true).1.length<=5/\1<=(Aw s 5 true).1.length/\∃M,(M=5040∨M=528∨M=899)/\∀S∈(Aw s 5 true).1,DI M 8 S)/\Sk (n+1000) (Aw s 5 true).2:=by
 unfold yX Aw
 obtain⟨a1,⟨M,a2⟩,a3⟩:=qG h (by omega)
 rw [eO (A7 s true),dO (A7 s true)]
 generalize A7 s true=r1 at *
 rw [cS r1.1,lt_eq r1.1]
 obtain⟨b1,b2,b3,b4⟩:=fC a3 (by omega) (m:=5) (by omega) (by omega)
 rw [eO (aE r1.2 5),dO (aE r1.2 5)]
 generalize aE r1.2 (5:Int)=r2 at *
 have la:=rT 0 (1+r2.1)
 obtain⟨c1,⟨R,c2,c3,c4⟩,c5⟩:=pQ a2 (rng 0 (1+r2.1)) [] r2.2 _ 0 (λS hS=>by cases hS) b4 (by omega) (by omega) (by show 0+_<=1000;omega)
 rw [dO (Kaq (wN r1.1) (([]:List DS),r2.2) (rng 0 (1+r2.1)))]
 generalize Kaq (wN r1.1) (([]:List DS),r2.2) (rng 0 (1+r2.1))=q at *
 rw [Ka1] at c2 c4
 refine⟨⟨a1,b1,⟨by omega,by omega⟩,c1⟩,⟨?_,?_,M,a2.m,λS hS=>?_⟩,c5.mono (by omega)⟩
 ·show q.1.length<=5;rw [c2];omega
 ·show 1<=q.1.length;rw [c2];omega
 ·have hS:S∈q.1:=hS
  rw [c2] at hS
  exact (c4 S hS).mono (by omega)
theorem gxv {F M:Nat}(hb:F+M<=98000){Ls:List DS}(h:∀L∈Ls,∃g,cZ F M g L)(hl:Ls.length<=1000):vg Ls/\(b8 Ls).Nodup/\(∀L,L∈b8 Ls↔L∈Ls):=by
 have key:∀(xs st:List DS),(∀L∈xs,∃g,cZ F M g L)->st.Nodup->st.length+xs.length<=1000->bH iF MN xs st/\(Kaq iF st xs).Nodup/\∀L,L∈Kaq iF st xs↔L∈st∨L∈xs:=by
  intro xs
  induction xs with
  |nil=>intro st _ hn _;exact⟨trivial,hn,λL=>by simp⟩
  |cons x xs ih=>
   intro st hx hn hlen
   rw [Kad] at hlen
   obtain⟨g,hg⟩:=hx x Kaa
   obtain⟨l1,l2⟩:=IE (hg.rep hb) hb
   have ex:cM x=x:=l2.uniq hg hb hb
   have et:iF st x=if x∉st then st++[x] else st:=by
    unfold iF
    rw [lt_eq,ex];rfl
   have ed:MN st x:=⟨l1,by rw [cS];intro _;omega⟩
   by_cases c:x∈st
   ·have e2:iF st x=st:=by rw [et,if_neg (λz=>z c)]
    obtain⟨a1,a2,a3⟩:=ih st (λL hL=>hx L (Kab _ hL)) hn (by omega)
    rw [KaD,e2]
    refine⟨⟨ed,by rw [e2];exact a1⟩,a2,λL=>?_⟩
    rw [a3 L,Kah]
    constructor
    ·rintro (z|z)
     ·exact .inl z
     ·exact .inr (.inr z)
    ·rintro (z|z|z)
     ·exact .inl z
     ·rw [z];exact .inl c
     ·exact .inr z
   ·have e2:iF st x=st++[x]:=by rw [et,if_pos c]
    obtain⟨a1,a2,a3⟩:=ih (st++[x]) (λL hL=>hx L (Kab _ hL)) (Kal.mpr ⟨hn,by simp,λa ha b hb z=>c (by rw [<-Kae.mp hb,<-z];exact ha)⟩) (by rw [Kan];show _+1+_<=_;omega)
    rw [KaD,e2]
    refine⟨⟨ed,by rw [e2];exact a1⟩,a2,λL=>?_⟩
    rw [a3 L,Kam,Kae,Kah,or_assoc]
 obtain⟨a1,a2,a3⟩:=key Ls [] h KaO (by show 0+_<=_;omega)
 unfold vg b8
 simp only [cS,lt_eq]
 exact⟨a1,a2,λL=>by rw [a3 L];simp⟩
theorem HJ {F M:Nat}(hb:F+M<=98000){Ls:List DS}(h:∀L∈Ls,∃g,cZ F M g L)(hl:Ls.length<=1000)(ne:Ls≠[]):(b8 Ls).length<2↔∀A∈Ls,∀B∈Ls,A=B:=by
 obtain⟨_,a2,a3⟩:=gxv hb h hl
 generalize b8 Ls=R at a2 a3
 constructor
 ·intro hR A hA B hB
  have hA:=(a3 A).mpr hA
  have hB:=(a3 B).mpr hB
  match R,hR,hA,hB with
  |[],_,hA,_=>cases hA
  |[x],_,hA,hB=>rw [Kae.mp hA,Kae.mp hB]
  |_::_::_,hR,_,_=>rw [Kad,Kad] at hR;omega
 ·intro hAB
  match R,a2,a3 with
  |[],_,_=>show 0<2;omega
  |[x],_,_=>show 1<2;omega
  |x::y::r,a2,a3=>
   have:=hAB x ((a3 x).mp Kaa) y ((a3 y).mp (Kab _ Kaa))
   rw [this] at a2
   exact absurd Kaa (KaP.mp a2).1
structure hzk (F M:Nat)(s l:Int)(sets:List DS):Prop where
 s0:0<=s
 s1:s<=F
 l1:1<=l
 dv:l.toNat∣M
 r:∀S∈sets,S.y<=s/\S.z.toNat∣l.toNat
theorem gxg {F M:Nat}(m0:0<M)(hM:M<=98000):∀(sets done:List DS) (s l:Int),(∀S∈sets,b9 F M (aA S) S)->hzk F M s l done->bH Bj MI sets (s,l)/\hzk F M (Kaq Bj (s,l) sets).1 (Kaq Bj (s,l) sets).2 (done++sets)
 |[],done,s,l,_,h=>⟨trivial,by rw [KaE];exact h⟩
 |S::sets,done,s,l,hs,h=>by
  have hS:=hs S Kaa
  have z1:=hS.ok.z1
  have zM:=hS.zM
  have yM:=hS.y
  have l1:=h.l1
  have lM:=KaM m0 h.dv
  obtain⟨a,ha⟩:=KaK (show 0<=l by omega)
  subst ha
  obtain⟨b,hb⟩:=KaK (show 0<=S.z by omega)
  obtain⟨c1,c2⟩:=CL a b (by omega) (by omega) (by omega) (by omega)
  have hzb:S.z.toNat=b:=by omega
  have t1:MI (s,(a:Int)) S:=by
   unfold MI
   rw [cS]
   show yO (a:Int) S.z
   rw [hb];exact c1
  have t2:Bj (s,(a:Int)) S=(max s S.y,((Kde a b:Nat):Int)):=by
   unfold Bj
   simp only [lt_eq]
   rw [hb,c2]
  have n:hzk F M (max s S.y) ((Kde a b:Nat):Int) (done++[S]):=by
   have s0:=h.s0
   have s1:=h.s1
   refine⟨by omega,by omega,?_,?_,λT hT=>?_⟩
   ·have:0<Kde a b:=Nat.lcm_pos (by omega) (by omega)
    omega
   ·rw [Kay]
    exact Nat.lcm_dvd (by have:=h.dv;rwa [Kay] at this) (by rw [<-hzb];exact hS.z)
   ·rcases Kam.mp hT with z|z
    ·obtain⟨u1,u2⟩:=h.r T z
     rw [Kay] at u2 ⊢
     exact⟨by omega,Ka0 u2 (Kdm _ _)⟩
    ·rw [Kae.mp z,Kay,hzb]
     exact⟨by omega,Kdf _ _⟩
  obtain⟨q1,q2⟩:=gxg m0 hM sets (done++[S]) _ _ (λT hT=>hs T (Kab _ hT)) n
  rw [KaD,t2]
  refine⟨⟨t1,by rw [t2];exact q1⟩,?_⟩
  rw [KaR] at q2
  exact q2
theorem ZW {F M:Nat}(m0:0<M)(hM:M<=98000){sets:List DS}(hs:∀S∈sets,b9 F M (aA S) S):Aq sets/\∃N:Nat,E2 sets=(N:Int)/\N<=F+M/\∀A∈sets,∀B∈sets,(∀d,d<N->aA A d=aA B d)->∀d,aA A d=aA B d:=by
 obtain⟨a,b⟩:=gxg (F:=F) m0 hM sets [] 0 1 hs ⟨by omega,by omega,by omega,⟨M,by simp⟩,λS hS=>by cases hS⟩
 unfold Aq E2
 simp only [cS,lt_eq]
 generalize Kaq Bj ((0:Int),(1:Int)) sets=r at *
 have s0:=b.s0
 have s1:=b.s1
 have l1:=b.l1
 have lM:=KaM m0 b.dv
 refine⟨a,(r.1+r.2).toNat,by omega,by omega,λA hA B hB hAB=>?_⟩
 obtain⟨a1,a2⟩:=b.r A hA
 obtain⟨b1,b2⟩:=b.r B hB
 have key:∀n d,d<n->aA A d=aA B d:=by
  intro n
  induction n with
  |zero=>intro d hd;omega
  |succ n ih=>
   intro d hd
   by_cases c:d<(r.1+r.2).toNat
   ·exact hAB d c
   ·have e:d=(d-r.2.toNat)+r.2.toNat:=by omega
    rw [e,(hs A hA).per a2 (by omega),(hs B hB).per b2 (by omega)]
    exact ih _ (by omega)
 exactλd=>key (d+1) d (by omega)
theorem UC (φ:Nat->Int){n:Nat}{i:Int}(h0:0<=i)(h1:i<n):aq ((KaC n).map φ) i=φ i.toNat:=by
 obtain⟨k,rfl⟩:=KaK h0
 rw [AB,KaY,KbF (by omega)];rfl
theorem Bp {a b:Bool}:b2i a=b2i b↔a=b:=by cases a <;> cases b <;> simp [b2i]
theorem W9 {F M:Nat}(m0:0<M)(hM:2*F+2*M<=90000){A:DS}{R:List DS}(hs:∀S∈A::R,b9 F M (aA S) S)(hl:(A::R).length<=1000):yW (A::R)/\((∃B∈R,∃d,aA B d≠aA A d)->jf (A::R)≠[]):=by
 obtain⟨t1,N,t2,t3,t4⟩:=ZW m0 (by omega) hs
 unfold yW jf
 simp only [cS,lt_eq]
 rw [t2]
 have rows:Kaf (λ(x1:DS)=>J9 (jm x1) (N:Int)) (A::R)=(A::R).map λS=>(KaC N).map λd=>b2i (aA S d):=Kax λS hS=>(gxh (hs S hS) (n:=N) (by omega)).2
 rw [rows]
 have lr:(rng 0 (N:Int)).length=N:=by have:=rT 0 (N:Int);omega
 have g0:aq ((A::R).map λS=>(KaC N).map λd=>b2i (aA S d)) (0:Int)=(KaC N).map λd=>b2i (aA A d):=ZV _ _
 have Rb:∀x:Int,0<=x->x<N->(Kaf (λ(x3:List Int)=>(decide ((aq x3 x)=(aq (aq ((A::R).map λS=>(KaC N).map λd=>b2i (aA S d)) (0:Int)) x)))) ((A::R).map λS=>(KaC N).map λd=>b2i (aA S d)))=(A::R).map λS=>decide (aA S x.toNat=aA A x.toNat):=by
  intro x x0 x1
  rw [g0,KaL]
  refine Kax λS _=>?_
  show decide (aq ((KaC N).map λd=>b2i (aA S d)) x=_)=_
  rw [UC _ x0 x1,UC _ x0 x1]
  rw [Kci,decide_eq_true_iff,decide_eq_true_iff,Bp]
 generalize hrw:((A::R).map λS=>(KaC N).map λd=>b2i (aA S d))=k_ at *
 have lrw:k_.length=(A::R).length:=by rw [<-hrw,Kag]
 have lens:∀x∈k_,x.length=N:=λx hx=>by
  rw [<-hrw] at hx
  obtain⟨S,_,rfl⟩:=Kas.mp hx
  simp
 have l0:(aq k_ (0:Int)).length=N:=by rw [g0];simp
 -- bM fold: found empty iff no day parts
 have key:∀(xs:List Int) (st:List (Tb×Int)×List (Int×Tb)),(∀x∈xs,0<=x/\x<N)->st.1.length+xs.length<=90000->st.2.length+xs.length<=90000->(st.2=[]->st.1=[])->bH (wU k_) (MO k_) xs st/\((Kaq (wU k_) st xs).2=[]->st.2=[]/\∀x∈xs,∀S∈A::R,aA S x.toNat=aA A x.toNat):=by
  intro xs
  induction xs with
  |nil=>intro st _ _ _ _;exact⟨trivial,λh=>⟨h,λx hx=>by cases hx⟩⟩
  |cons x xs ih=>
   intro st hx h1 h2 h3
   rw [Kad] at h1 h2
   obtain⟨x0,x1⟩:=hx x Kaa
   have ht:=Rb x x0 x1
   have hd:MO k_ st x:=by
    unfold MO
    refine⟨λy hy=>?_,by rw [lrw];omega,?_⟩
    ·have:=lens y hy
     have lp:0<k_.length:=by rw [lrw];simp
     exact⟨⟨by omega,by omega⟩,⟨by omega,by omega⟩,by omega,by omega⟩
    ·rw [cS]
     intro _
     refine⟨by omega,?_⟩
     rw [cS];omega
   by_cases c:(¬((Kb3 (Tb.mk ((A::R).map λS=>decide (aA S x.toNat=aA A x.toNat))).l id)=true))/\(¬(KaZ (aN st.1 (Tb.mk ((A::R).map λS=>decide (aA S x.toNat=aA A x.toNat))))=true))
   ·have et:wU k_ st x=((Tb.mk ((A::R).map λS=>decide (aA S x.toNat=aA A x.toNat)),x)::st.1,st.2++[(x,Tb.mk ((A::R).map λS=>decide (aA S x.toNat=aA A x.toNat)))]):=by
     unfold wU
     rw [lt_eq,ht,if_pos c];rfl
    obtain⟨q1,q2⟩:=ih ((Tb.mk ((A::R).map λS=>decide (aA S x.toNat=aA A x.toNat)),x)::st.1,st.2++[(x,Tb.mk ((A::R).map λS=>decide (aA S x.toNat=aA A x.toNat)))]) (λy hy=>hx y (Kab _ hy)) (by show _+1+_<=_;omega) (by rw [Kan];show _+1+_<=_;omega) (λz=>by simp at z)
    rw [KaD,et]
    refine⟨⟨hd,by rw [et];exact q1⟩,λz=>?_⟩
    have:=(q2 z).1
    simp at this
   ·have et:wU k_ st x=st:=by
     unfold wU
     rw [lt_eq,ht,if_neg c]
    obtain⟨q1,q2⟩:=ih st (λy hy=>hx y (Kab _ hy)) (by omega) (by omega) h3
    rw [KaD,et]
    refine⟨⟨hd,by rw [et];exact q1⟩,λz=>?_⟩
    obtain⟨u1,u2⟩:=q2 z
    refine⟨u1,λy hy=>?_⟩
    rcases Kah.mp hy with e|hy
    ·subst e
     have hall:Kb3 ((A::R).map λS=>decide (aA S y.toNat=aA A y.toNat)) id=true:=by
      apply Classical.byContradiction
      intro hn
      refine c ⟨hn,?_⟩
      rw [h3 u1]
      show ¬(KaZ (none:Option Int)=true)
      exact Ka8
     intro S hS
     rw [KbL,Kbs] at hall
     exact of_decide_eq_true (hall S hS)
    ·exact u2 y hy
 have mr:∀x∈rng 0 (N:Int),0<=x/\x<N:=λx hx=>by
  have:=zd.mp hx
  omega
 obtain⟨k1,k2⟩:=key (rng 0 (N:Int)) ([],[]) mr (by show 0+_<=_;omega) (by show 0+_<=_;omega) (λ_=>rfl)
 refine⟨⟨t1,λS hS=>⟨?_,(gxh (hs S hS) (n:=N) (by omega)).1⟩,by omega,by omega,k1⟩,?_⟩
 ·exact uQ (hs S hS) (by omega)
 ·rintro⟨B,hB,d,hd⟩ z
  refine hd ?_
  have:=(k2 z).2
  refine t4 B (Kab _ hB) A Kaa (λe he=>?_) d
  have:=this (e:Int) (zd.mpr ⟨by omega,by omega⟩) B (Kab _ hB)
  rwa [Kay] at this
theorem zO {F M:Nat}{sets:List DS}{ns:cL}(h:rm F M sets)(hM:2*F+2*M<=90000)(m0:0<M)(hn:AW ns)(hf:cE sets ns≠[]):q_ sets ns/\(rW sets ns=none↔∀S∈cE sets ns,∀T∈cE sets ns,∀d,aA S d=aA T d):=by
 obtain⟨f1,f2⟩:=sY h.big h.l hn λS hS=>(IE (h.r S hS) (by omega)).1
 have hm:=Uy (sets:=sets) (ns:=ns)
 have hl:(cE sets ns).length<=1000:=KaB (Ka5 _ _) h.l
 have r_:∀S∈cE sets ns,cZ F M (aA S) (cM S):=λS hS=>(IE (h.r S (hm S hS)) (by omega)).2
 have eqv:∀S∈cE sets ns,∀T∈cE sets ns,(cM S=cM T↔∀d,aA S d=aA T d):=λS hS T hT=>by
  constructor
  ·intro e d
   have h1:=((r_ S hS).rep (by omega)).has d
   have h2:=((r_ T hT).rep (by omega)).has d
   rw [<-h1,<-h2,e]
  ·intro e
   exact ((r_ S hS).congr e).uniq (r_ T hT) (by omega) (by omega)
 unfold q_ rW
 simp only [cS,lt_eq]
 rw [f2]
 generalize cE sets ns=sX at *
 have hc:∀L∈sX.map cM,∃g,cZ F M g L:=λL hL=>by
  obtain⟨S,hS,rfl⟩:=Kas.mp hL
  exact⟨_,r_ S hS⟩
 have ne:sX.map cM≠[]:=λz=>hf (Kc0.mp z)
 have hl2:(sX.map cM).length<=1000:=by rw [Kag];exact hl
 obtain⟨u1,u2,u3⟩:=gxv (by omega) hc hl2
 have ul:=HJ (by omega) hc hl2 ne
 have alike:(∀A∈sX.map cM,∀B∈sX.map cM,A=B)↔∀S∈sX,∀T∈sX,∀d,aA S d=aA T d:=by
  constructor
  ·intro q S hS T hT
   exact (eqv S hS T hT).mp (q _ (KaA hS) _ (KaA hT))
  ·intro q A hA B hB
   obtain⟨S,hS,rfl⟩:=Kas.mp hA
   obtain⟨T,hT,rfl⟩:=Kas.mp hB
   exact (eqv S hS T hT).mpr (q S hS T hT)
 have hcR:∀L∈b8 (sX.map cM),b9 F M (aA L) L:=λL hL=>by
  obtain⟨g,hg⟩:=hc L ((u3 L).mp hL)
  have r:=hg.rep (by omega)
  exact⟨r.ok,r.y,r.z,r.m0,λ_=>rfl⟩
 have NG:(b8 (sX.map cM)).length<=1000:=by
  have:∀(xs st:List DS),(Kaq iF st xs).length<=st.length+xs.length:=by
   intro xs
   induction xs with
   |nil=>intro st;exact Kat _
   |cons x xs ih=>
    intro st
    rw [KaD,Kad]
    refine KaB (ih _) ?_
    have:(iF st x).length<=st.length+1:=by
     unfold iF
     simp only [lt_eq]
     split
     ·rw [Kan];exact Kat _
     ·omega
    omega
  have h1:=this (sX.map cM) []
  have h2:(b8 (sX.map cM)).length<=0+(sX.map cM).length:=h1
  omega
 have Xn:∀L∈b8 (sX.map cM),∀K∈b8 (sX.map cM),(∀d,aA L d=aA K d)->L=K:=λL hL K hK e=>by
  obtain⟨S,hS,eS⟩:=Kas.mp ((u3 L).mp hL)
  obtain⟨T,hT,eT⟩:=Kas.mp ((u3 K).mp hK)
  rw [<-eS,<-eT]
  refine (eqv S hS T hT).mpr λd=>?_
  rw [<-((r_ S hS).rep (by omega)).has d,<-((r_ T hT).rep (by omega)).has d,eS,eT]
  exact e d
 generalize b8 (sX.map cM)=R at *
 by_cases c:R.length<2
 ·have c':(R.length:Int)<(2:Int):=by omega
  rw [if_pos c']
  exact⟨⟨f1,u1,λz=>absurd c' z⟩,⟨λ_=>alike.mp (ul.mp c),λ_=>rfl⟩⟩
 ·have c':¬(R.length:Int)<(2:Int):=by omega
  rw [if_neg c']
  match R,c,u2,hcR,NG,Xn,ul with
  |[],c,_,_,_,_,_=>exact absurd (show ([]:List DS).length<2 by show 0<2;omega) c
  |[A],c,_,_,_,_,_=>exact absurd (show [A].length<2 by show 1<2;omega) c
  |A::B::R,c,u2,hcR,NG,Xn,ul=>
   obtain⟨p1,p2⟩:=W9 m0 hM hcR NG
   have hAB:A≠B:=λz=>(KaP.mp u2).1 (by rw [z];exact Kaa)
   have hd:∃d,aA B d≠aA A d:=Classical.byContradiction λz=>hAB (Xn A Kaa B (Kab _ Kaa) λd=>Classical.byContradiction λy=>z ⟨d,λw=>y w.symm⟩)
   have pne:=p2 ⟨B,Kaa,hd⟩
   have fold:∀(xs:List (Int×Tb)) (st:Option (Int×Int)),bH wM MV xs st/\(st≠none∨xs≠[]->KaZ (Kaq wM st xs)=true):=by
    intro xs
    induction xs with
    |nil=>
     intro st
     refine⟨trivial,λq=>?_⟩
     rcases q with q|q
     ·cases st with
      |none=>exact absurd rfl q
      |some _=>rfl
     ·exact absurd rfl q
    |cons x xs ih=>
     intro st
     have dx:MV st x:=by
      unfold MV
      rw [cS]
      intro q
      cases st with
      |none=>exact absurd rfl q
      |some _=>rfl
     have tx:wM st x≠none:=by
      unfold wM
      simp only [lt_eq]
      by_cases w:(st=none)∨(J7 x.2<(Kba st default).1)
      ·rw [if_pos w];exact nofun
      ·rw [if_neg w];exactλz=>w (.inl z)
     exact⟨⟨dx,(ih _).1⟩,λ_=>(ih _).2 (.inl tx)⟩
   obtain⟨k1,k2⟩:=fold (jf (A::B::R)) none
   refine⟨⟨f1,u1,λ_=>⟨p1,k1,k2 (.inr pne)⟩⟩,⟨λz=>(nomatch z),λq=>?_⟩⟩
   exact absurd (ul.mpr (alike.mpr q)) c
end Pu
namespace Pu
open PySem PyProof.Rows L2 Enc La
section
variable {κ β:Type}[DecidableEq κ]
theorem Xo (f:List (κ×β))(k:κ)(v:β)(j:κ):aN (fG f k v) j=if k=j then some v else aN f j:=by
 unfold fG
 split
 ·rename_i h
  induction f with
  |nil=>cases h
  |cons p f ih=>
   obtain⟨a,u⟩:=p
   rw [Kai]
   by_cases e:a=k
   ·subst e
    rw [if_pos rfl]
    show (if a=j then some v else aN (f.map _) j)=if a=j then some v else if a=j then some u else aN f j
    by_cases e2:a=j
    ·rw [if_pos e2,if_pos e2]
    ·rw [if_neg e2,if_neg e2,if_neg e2]
     have:∀g:List (κ×β),aN (g.map λp=>if p.1=a then (p.1,v) else p) j=aN g j:=by
      intro g
      induction g with
      |nil=>rfl
      |cons q g ihg=>
       obtain⟨b,w⟩:=q
       rw [Kai]
       by_cases e3:b=a
       ·rw [if_pos e3]
        show (if b=j then some v else aN (g.map _) j)=if b=j then some w else aN g j
        rw [if_neg (λz=>e2 (e3.symm.trans z)),if_neg (λz=>e2 (e3.symm.trans z)),ihg]
       ·rw [if_neg e3]
        show (if b=j then some w else aN (g.map _) j)=if b=j then some w else aN g j
        rw [ihg]
     exact this f
   ·rw [if_neg e]
    have h':(aN f k).isSome=true:=by
     have h:(if a=k then some u else aN f k).isSome=true:=h
     rwa [if_neg e] at h
    show (if a=j then some u else aN (f.map _) j)=if k=j then some v else if a=j then some u else aN f j
    by_cases e2:a=j
    ·rw [if_pos e2,if_neg (λz=>e (e2.trans z.symm)),if_pos e2]
    ·rw [if_neg e2,if_neg e2];exact ih h'
 ·rename_i h
  induction f with
  |nil=>rfl
  |cons p f ih=>
   obtain⟨a,u⟩:=p
   have ha:¬a=k:=λz=>h (by
    show (if a=k then some u else aN f k).isSome=true
    rw [if_pos z];rfl)
   have h':¬(aN f k).isSome=true:=λz=>h (by
    show (if a=k then some u else aN f k).isSome=true
    rw [if_neg ha];exact z)
   show (if a=j then some u else aN (f++[(k,v)]) j)=if k=j then some v else if a=j then some u else aN f j
   by_cases e2:a=j
   ·rw [if_pos e2,if_neg (λz=>ha (e2.trans z.symm)),if_pos e2]
   ·rw [if_neg e2,if_neg e2];exact ih h'
theorem pD {f:List (κ×β)}{k:κ}:(aN f k).isSome=true↔k∈f.map λp=>p.1:=by
 induction f with
 |nil=>exact⟨λh=>by (cases h),λh=>by (cases h)⟩
 |cons p f ih=>
  obtain⟨a,u⟩:=p
  show (if a=k then some u else aN f k).isSome=true↔_
  rw [Kai,Kah]
  by_cases e:a=k
  ·rw [if_pos e];exact⟨λ_=>.inl e.symm,λ_=>rfl⟩
  ·rw [if_neg e,ih]
   exact⟨.inr,λh=>h.elim (λz=>absurd z.symm e) id⟩
theorem Dy (f:List (κ×β))(k:κ)(v:β):((fG f k v).map λp=>p.1)=if k∈f.map (λp=>p.1) then f.map (λp=>p.1) else f.map (λp=>p.1)++[k]:=by
 unfold fG
 by_cases h:(aN f k).isSome=true
 ·rw [if_pos h,if_pos (pD.mp h),KaL]
  refine Kax λp _=>?_
  show (if p.1=k then (p.1,v) else p).1=p.1
  split <;> rfl
 ·rw [if_neg h,if_neg (λz=>h (pD.mpr z)),Kaz];rfl
theorem pP {f:List (κ×β)}{k:κ}{v:β}(h:(f.map λp=>p.1).Nodup):((fG f k v).map λp=>p.1).Nodup:=by
 rw [Dy]
 split
 ·exact h
 ·rename_i hk
  exact Kal.mpr ⟨h,by simp,λa ha b hb z=>hk (by rw [<-Kae.mp hb,<-z];exact ha)⟩
theorem Z2 {f:List (κ×β)}{k:κ}{v:β}:aN f k=some v->(k,v)∈f:=by
 induction f with
 |nil=>intro h;cases h
 |cons p f ih=>
  obtain⟨a,u⟩:=p
  intro h
  have h:(if a=k then some u else aN f k)=some v:=h
  by_cases e:a=k
  ·rw [if_pos e] at h
   cases h
   rw [e];exact Kaa
  ·rw [if_neg e] at h
   exact Kab _ (ih h)
theorem CZ {f:List (κ×β)}(nd:(f.map λp=>p.1).Nodup){k:κ}{v:β}(h:(k,v)∈f):aN f k=some v:=by
 induction f with
 |nil=>cases h
 |cons p f ih=>
  obtain⟨a,u⟩:=p
  rw [Kai,KaP] at nd
  show (if a=k then some u else aN f k)=some v
  rcases Kah.mp h with e|e
  ·cases e;rw [if_pos rfl]
  ·rw [if_neg,ih nd.2 e]
   intro z
   exact nd.1 (Kas.mpr ⟨_,e,z.symm⟩)
end
section
variable {κ ι:Type}[DecidableEq κ][DecidableEq ι]
def ik (f:List (κ×Int))(x:κ):List (κ×Int):=if ¬((aN f x).isSome=true) then fG f x ((f.length:Nat):Int) else f
def stN (st:List (κ×Int)×List Int)(x:κ):List (κ×Int)×List Int:=(ik st.1 x,st.2++[(aN (ik st.1 x) x).getD 0])
/-- bM numbers of some things,as Mn first stand -/
def gH (zs:List κ):List Int:=(Kaq stN ([],[]) zs).2
theorem uA (lots:Ti)(truths:Tb):nP lots truths=⟨gH (Ka9 lots.l truths.l)⟩:=rfl
structure Nb (done:List κ)(st:List (κ×Int)×List Int):Prop where
 out:st.2=done.map λx=>(aN st.1 x).getD 0
 key:∀x,(aN st.1 x).isSome=true↔x∈done
 inj:∀x y v,aN st.1 x=some v->aN st.1 y=some v->x=y
 rng:∀x v,aN st.1 x=some v->0<=v/\v<(st.1.length:Int)
 len:st.1.length<=done.length
theorem Nl (f:List (κ×Int))(x y:κ):aN (ik f x) y=if (aN f y).isSome=true then aN f y else if x=y then some (f.length:Int) else none:=by
 unfold ik
 by_cases c:¬((aN f x).isSome=true)
 ·rw [if_pos c,Xo]
  by_cases e:x=y
  ·subst e
   rw [if_pos rfl,if_neg c,if_pos rfl]
  ·rw [if_neg e,if_neg e]
   by_cases d:(aN f y).isSome=true
   ·rw [if_pos d]
   ·rw [if_neg d]
    exact Kcb.mp d
 ·rw [if_neg c]
  have c:=Classical.not_not.mp c
  by_cases d:(aN f y).isSome=true
  ·rw [if_pos d]
  ·rw [if_neg d,if_neg (show ¬x=y fromλz=>d (z ▸ c))]
   exact Kcb.mp d
theorem UJ (f:List (κ×Int))(x:κ):(ik f x).length<=f.length+1/\f.length<=(ik f x).length/\(¬((aN f x).isSome=true)->(ik f x).length=f.length+1):=by
 unfold ik
 by_cases c:¬((aN f x).isSome=true)
 ·rw [if_pos c]
  unfold fG
  rw [if_neg c,Kan,KaF]
  exact⟨Kat _,Nat.le_succ _,λ_=>rfl⟩
 ·rw [if_neg c]
  exact⟨Nat.le_succ _,Kat _,λz=>absurd z c⟩
theorem Nb.step {done:List κ}{st:List (κ×Int)×List Int}(h:Nb done st)(x:κ):Nb (done++[x]) (stN st x):=by
 have l2:=Nl st.1 x
 have ln:=UJ st.1 x
 refine⟨?_,λy=>?_,λy z v hy hz=>?_,λy v hy=>?_,?_⟩
 ·show st.2++[_]=(done++[x]).map _
  rw [Kaz,h.out]
  refine congrArg (·++_) (Kax λy hy=>?_)
  show _=(aN (ik st.1 x) y).getD 0
  rw [l2,if_pos ((h.key y).mpr hy)]
 ·show (aN (ik st.1 x) y).isSome=true↔_
  rw [l2,Kam,Kae,<-h.key y]
  by_cases d:(aN st.1 y).isSome=true
  ·rw [if_pos d];exact⟨.inl,λ_=>d⟩
  ·rw [if_neg d]
   by_cases e:x=y
   ·rw [if_pos e];exact⟨λ_=>.inr e.symm,λ_=>rfl⟩
   ·rw [if_neg e];exact⟨λz=>by (cases z),λz=>z.elim (λq=>absurd q d) (λq=>absurd q.symm e)⟩
 ·have hy:aN (ik st.1 x) y=some v:=hy
  have hz:aN (ik st.1 x) z=some v:=hz
  rw [l2] at hy hz
  by_cases d1:(aN st.1 y).isSome=true
  ·rw [if_pos d1] at hy
   by_cases d2:(aN st.1 z).isSome=true
   ·rw [if_pos d2] at hz
    exact h.inj y z v hy hz
   ·rw [if_neg d2] at hz
    by_cases e:x=z
    ·rw [if_pos e] at hz
     cases hz
     have:=h.rng y _ hy
     omega
    ·rw [if_neg e] at hz;cases hz
  ·rw [if_neg d1] at hy
   by_cases e1:x=y
   ·rw [if_pos e1] at hy
    cases hy
    by_cases d2:(aN st.1 z).isSome=true
    ·rw [if_pos d2] at hz
     have:=h.rng z _ hz
     omega
    ·rw [if_neg d2] at hz
     by_cases e:x=z
     ·rw [<-e1,e]
     ·rw [if_neg e] at hz;cases hz
   ·rw [if_neg e1] at hy;cases hy
 ·have hy:aN (ik st.1 x) y=some v:=hy
  show 0<=v/\v<((ik st.1 x).length:Int)
  rw [l2] at hy
  by_cases d1:(aN st.1 y).isSome=true
  ·rw [if_pos d1] at hy
   have:=h.rng y v hy
   omega
  ·rw [if_neg d1] at hy
   by_cases e1:x=y
   ·rw [if_pos e1] at hy
    cases hy
    subst e1
    have:=ln.2.2 d1
    omega
   ·rw [if_neg e1] at hy;cases hy
 ·show (ik st.1 x).length<=(done++[x]).length
  have:=h.len
  rw [Kan,KaF];omega
theorem ye:∀(zs done:List κ) (st:List (κ×Int)×List Int),Nb done st->Nb (done++zs) (Kaq stN st zs)
 |[],done,st,h=>by rw [KaE];exact h
 |z::zs,done,st,h=>by
  rw [KaD,show done++z::zs=(done++[z])++zs by simp]
  exact ye zs _ _ (h.step z)
theorem PJ (zs:List κ):Nb zs (Kaq stN ([],[]) zs):=ye zs [] _ ⟨rfl,λx=>⟨λh=>by (cases h),λh=>by (cases h)⟩,λx y v h=>by (cases h),λx v h=>by (cases h),Kat 0⟩
/-- bM numbers,as a map d8 keeps unlike things apart -/
theorem Po (zs:List κ):∃φ:κ->Int,gH zs=zs.map φ/\∀x∈zs,∀y∈zs,φ x=φ y->x=y:=by
 have h:=PJ zs
 refine⟨_,h.out,λx hx y hy e=>?_⟩
 obtain⟨u,hu⟩:=Kbj.mp ((h.key x).mpr hx)
 obtain⟨v,hv⟩:=Kbj.mp ((h.key y).mpr hy)
 rw [hu,hv] at e
 have e:u=v:=e
 exact h.inj x y u hu (e ▸ hv)
theorem Dg (zs:List κ):(gH zs).length=zs.length:=by
 obtain⟨φ,h,_⟩:=Po zs
 rw [h,Kag]
theorem mY {γ:Type}{f:γ->κ}{g:γ->ι}(U:List γ)(h:∀S∈U,∀T∈U,f S=f T↔g S=g T):gH (U.map f)=gH (U.map g):=by
 have key:∀(V D:List γ) (s1:List (κ×Int)×List Int) (s2:List (ι×Int)×List Int),(∀S∈D++V,∀T∈D++V,f S=f T↔g S=g T)->Nb (D.map f) s1->Nb (D.map g) s2->s1.2=s2.2->s1.1.length=s2.1.length->(∀S∈D,aN s1.1 (f S)=aN s2.1 (g S)) ->
   (Kaq stN s1 (V.map f)).2=(Kaq stN s2 (V.map g)).2:=by
  intro V
  induction V with
  |nil=>intro D s1 s2 _ _ _ h1 _ _;exact h1
  |cons x V ih=>
   intro D s1 s2 hp n1 n2 h1 h2 h3
   rw [Kai,Kai,KaD,KaD]
   have hx:x∈D++x::V:=Kao _ Kaa
   have iff:(aN s1.1 (f x)).isSome=true↔(aN s2.1 (g x)).isSome=true:=by
    rw [n1.key,n2.key,Kas,Kas]
    constructor
    ·rintro⟨S,hS,e⟩;exact⟨S,hS,(hp S (Kac _ hS) x hx).mp e⟩
    ·rintro⟨S,hS,e⟩;exact⟨S,hS,(hp S (Kac _ hS) x hx).mpr e⟩
   have lx:aN (ik s1.1 (f x)) (f x)=aN (ik s2.1 (g x)) (g x):=by
    rw [Nl,Nl,if_pos rfl,if_pos rfl]
    by_cases d:(aN s1.1 (f x)).isSome=true
    ·rw [if_pos d,if_pos (iff.mp d)]
     obtain⟨S,hS,e⟩:=Kas.mp ((n1.key _).mp d)
     rw [<-e,<-(hp S (Kac _ hS) x hx).mp e]
     exact h3 S hS
    ·rw [if_neg d,if_neg (λz=>d (iff.mpr z)),h2]
   refine ih (D++[x]) (stN s1 (f x)) (stN s2 (g x)) (by simpa using hp) (by rw [Kaz];exact n1.step (f x)) (by rw [Kaz];exact n2.step (g x)) ?_ ?_ ?_
   ·show s1.2++[_]=s2.2++[_]
    rw [h1,lx]
   ·show (ik s1.1 (f x)).length=(ik s2.1 (g x)).length
    by_cases d:(aN s1.1 (f x)).isSome=true
    ·unfold ik
     rw [if_neg (λz=>z d),if_neg (λz=>z (iff.mp d)),h2]
    ·rw [(UJ s1.1 (f x)).2.2 d,(UJ s2.1 (g x)).2.2 (λz=>d (iff.mpr z)),h2]
   ·intro S hS
    show aN (ik s1.1 (f x)) (f S)=aN (ik s2.1 (g x)) (g S)
    rcases Kam.mp hS with hS|hS
    ·rw [Nl,Nl,if_pos ((n1.key _).mpr (KaA hS)),if_pos ((n2.key _).mpr (KaA hS))]
     exact h3 S hS
    ·rw [Kae.mp hS];exact lx
 refine key U [] _ _ h ?_ ?_ rfl rfl (λS hS=>by cases hS)
 ·exact PJ []
 ·exact PJ []
theorem Dh {γ:Type}{f:γ->κ}{g:γ->ι}{U:List γ}(h:gH (U.map f)=gH (U.map g)):∀S∈U,∀T∈U,f S=f T↔g S=g T:=by
 obtain⟨φ,e1,i1⟩:=Po (U.map f)
 obtain⟨ψ,e2,i2⟩:=Po (U.map g)
 rw [e1,e2,KaL,KaL] at h
 have h:=KbD.mp h
 intro S hS T hT
 have hs:φ (f S)=ψ (g S):=h S hS
 have ht:φ (f T)=ψ (g T):=h T hT
 constructor
 ·intro e
  refine i2 _ (KaA hS) _ (KaA hT) ?_
  rw [<-hs,<-ht,e]
 ·intro e
  refine i1 _ (KaA hS) _ (KaA hT) ?_
  rw [hs,ht,e]
theorem wu (zs:List κ)(h:zs.Nodup):gH zs=rng 0 ((zs.length:Nat):Int):=by
 have key:∀(V D:List κ) (st:List (κ×Int)×List Int),(D++V).Nodup->Nb D st->st.1.length=D.length->st.2=rng 0 ((D.length:Nat):Int)->(Kaq stN st V).2=rng 0 (((D++V).length:Nat):Int):=by
  intro V
  induction V with
  |nil=>intro D st _ _ _ h2;rw [KaE];exact h2
  |cons x V ih=>
   intro D st nd n1 h1 h2
   have hx:¬(aN st.1 x).isSome=true:=λz=>by
    have:=(n1.key x).mp z
    exact (Kal.mp nd).2.2 x this x Kaa rfl
   rw [KaD,show D++x::V=(D++[x])++V by simp]
   refine ih (D++[x]) (stN st x) (by simpa using nd) (n1.step x) ?_ ?_
   ·show (ik st.1 x).length=_
    rw [(UJ st.1 x).2.2 hx,h1,Kan];rfl
   ·show st.2++[_]=_
    rw [Nl,if_neg hx,if_pos rfl,h2,h1,Kan,KaF]
    rw [vL,vL,Kbo,Kaz];rfl
 have:=key zs [] ([],[]) h (PJ []) rfl rfl
 exact this
theorem zY {γ:Type}(U:List γ)(c:κ):gH (U.map λ_=>c)=Kak U.length 0:=by
 cases U with
 |nil=>rfl
 |cons A R=>
  have key:∀(V:List γ) (out:List Int),(Kaq stN (([(c,(0:Int))]:List (κ×Int)),out) (V.map λ_=>c)).2=out++Kak V.length 0:=by
   intro V
   induction V with
   |nil=>intro out;exact (KaE _).symm
   |cons x V ih=>
    intro out
    have hk:ik ([(c,(0:Int))]:List (κ×Int)) c=[(c,0)]:=by
     unfold ik
     rw [if_neg]
     intro z
     refine z ?_
     show (if c=c then some (0:Int) else none).isSome=true
     rw [if_pos rfl];rfl
    have hl:aN ([(c,(0:Int))]:List (κ×Int)) c=some 0:=by
     show (if c=c then some (0:Int) else none)=_
     rw [if_pos rfl]
    rw [Kai,KaD]
    have:stN (([(c,(0:Int))]:List (κ×Int)),out) c=([(c,0)],out++[0]):=by
     show (ik [(c,(0:Int))] c,out++[(aN (ik [(c,(0:Int))] c) c).getD 0])=_
     rw [hk,hl];rfl
    rw [this,ih,Kad,KaW,KaR];rfl
  have h0:stN (([]:List (κ×Int)),([]:List Int)) c=([(c,0)],[0]):=by
   have e:ik ([]:List (κ×Int)) c=[(c,0)]:=rfl
   show (ik ([]:List (κ×Int)) c,([]:List Int)++[(aN (ik ([]:List (κ×Int)) c) c).getD 0])=_
   rw [e]
   show ([(c,(0:Int))],[(if c=c then some (0:Int) else none).getD 0])=_
   rw [if_pos rfl];rfl
  show (Kaq stN ([],[]) ((A::R).map λ_=>c)).2=_
  rw [Kai,KaD,h0,key,Kad,KaW];rfl
/-- bM lists of numbers,each at most its place -/
def vY:Nat->List (List Int)
 |0=>[[]]
 |n+1=>(vY n).flatMap λl=>(rng 0 ((n+1:Nat):Int)).map λk=>l++[k]
theorem zX (zs:List κ):gH zs∈vY zs.length:=by
 have key:∀(V D:List κ) (st:List (κ×Int)×List Int),Nb D st->st.2∈vY D.length->(Kaq stN st V).2∈vY (D++V).length:=by
  intro V
  induction V with
  |nil=>intro D st _ h;rw [KaE];exact h
  |cons x V ih=>
   intro D st n1 h1
   rw [KaD,show D++x::V=(D++[x])++V by simp]
   refine ih (D++[x]) (stN st x) (n1.step x) ?_
   rw [Kan,KaF]
   refine Kbu.mpr ⟨st.2,h1,Kas.mpr ⟨_,?_,rfl⟩⟩
   have n2:=n1.step x
   obtain⟨v,hv⟩:=Kbj.mp ((n2.key x).mpr (Kao _ Kaa))
   have hv:aN (ik st.1 x) x=some v:=hv
   rw [hv]
   have h3:=n2.rng x v hv
   have h4:=n2.len
   rw [Kan,KaF] at h4
   exact zd.mpr ⟨h3.1,by show v<_;omega⟩
 exact key zs [] ([],[]) (PJ []) (by exact Kaa)
def KD:Nat->Nat
 |0=>1
 |n+1=>KD n*(n+1)
theorem tM:∀n,(vY n).length=KD n
 |0=>rfl
 |n+1=>by
  show ((vY n).flatMap _).length=_
  rw [Kc1]
  have:∀l:List (List Int),(l.map λl=>((rng 0 ((n+1:Nat):Int)).map λk=>l++[k]).length).sum=l.length*(n+1):=by
   intro l
   induction l with
   |nil=>rw [Kbh,Nat.zero_mul];rfl
   |cons a l ih=>
    rw [Kai,Kc3,ih,Kag,vL,Kag,KbB,Kad,KbV];omega
  rw [this,tM n];rfl
end
theorem II {α:Type}:∀{xs ys:List α},xs.Nodup->(∀x∈xs,x∈ys)->xs.length<=ys.length
 |[],ys,_,_=>KaV _
 |x::xs,ys,nd,h=>by
  obtain⟨a,b,rfl⟩:=List.append_of_mem (h x Kaa)
  rw [KaP] at nd
  have:=II (ys:=a++b) nd.2 λy hy=>by
   have hy2:=h y (Kab _ hy)
   rcases Kam.mp hy2 with z|z
   ·exact Kac _ z
   ·rcases Kah.mp z with z|z
    ·exact absurd (z ▸ hy) nd.1
    ·exact Kao _ z
  rw [Kan] at this ⊢
  rw [Kad,Kad];omega
abbrev TL:=Ti×List Int
def Ms (st:LW)(c:TL):LW:=if ¬((aN st c.1).isSome=true)∨HT.lexLt c.2 ((aN st c.1).getD [])=true then fG st c.1 c.2 else st
theorem x9:∀x y:List Int,HT.lexLt x y=true->HT.lexLt y x=false
 |[],[],h=>by rw [HT.lexLt_nil_nil] at h;cases h
 |[],_::_,_=>HT.lexLt_cons_nil _ _
 |_::_,[],h=>by rw [HT.lexLt_cons_nil] at h;cases h
 |a::x,b::y,h=>by
  rw [HT.lexLt_cons] at h ⊢
  split at h
  ·rename_i e
   rw [if_pos e.symm];exact x9 x y h
  ·have h:=of_decide_eq_true h
   rw [if_neg (by omega)]
   exact decide_eq_false (by omega)
theorem CY:∀x y z:List Int,HT.lexLt y x=false->HT.lexLt z y=false->HT.lexLt z x=false
 |[],_,[],_,_=>HT.lexLt_nil_nil
 |[],_,_::_,_,_=>HT.lexLt_cons_nil _ _
 |_::_,[],_,h,_=>by rw [HT.lexLt_nil_cons] at h;cases h
 |_::_,_::_,[],_,h=>by rw [HT.lexLt_nil_cons] at h;cases h
 |a::x,b::y,d::z,h1,h2=>by
  rw [HT.lexLt_cons] at h1 h2 ⊢
  split at h1
  ·rename_i e1
   split at h2
   ·rename_i e2
    rw [if_pos (e2.trans e1)];exact CY x y z h1 h2
   ·have h2:=of_decide_eq_false h2
    rw [if_neg (by omega)]
    exact decide_eq_false (by omega)
  ·have h1:=of_decide_eq_false h1
   split at h2
   ·rw [if_neg (by omega)]
    exact decide_eq_false (by omega)
   ·have h2:=of_decide_eq_false h2
    rw [if_neg (by omega)]
    exact decide_eq_false (by omega)
structure Eh (C:List TL)(st:LW):Prop where
 nd:(st.map λp=>p.1).Nodup
 Uc:∀q∈st,q∈C
 RT:∀q∈C,∃v,aN st q.1=some v/\HT.lexLt q.2 v=false
theorem Na:∀xs:List Int,HT.lexLt xs xs=false
 |[]=>rfl
 |x::xs=>by rw [HT.lexLt_cons,if_pos rfl];exact Na xs
theorem Hg {κ β:Type}[DecidableEq κ]{f:List (κ×β)}{k:κ}{v:β}(nd:(f.map λp=>p.1).Nodup){q:κ×β}(h:q∈fG f k v):q=(k,v)∨q∈f:=by
 have l:=CZ (pP (k:=k) (v:=v) nd) (k:=q.1) (v:=q.2) h
 rw [Xo] at l
 by_cases e:k=q.1
 ·rw [if_pos e] at l
  cases q
  cases e
  cases l
  exact .inl rfl
 ·rw [if_neg e] at l
  exact .inr (Z2 l)
theorem Eh.step {C:List TL}{st:LW}(h:Eh C st)(c:TL):Eh (C++[c]) (Ms st c):=by
 unfold Ms
 split
 ·rename_i hc
  refine⟨pP h.nd,λq hq=>?_,λq hq=>?_⟩
  ·rcases Hg h.nd hq with e|e
   ·exact Kao _ (by rw [e];exact Kae.mpr rfl)
   ·exact Kac _ (h.Uc q e)
  ·rw [Xo]
   by_cases e:c.1=q.1
   ·rw [if_pos e]
    refine⟨c.2,rfl,?_⟩
    rcases Kam.mp hq with hq|hq
    ·obtain⟨v,hv,l⟩:=h.RT q hq
     rw [e,hv] at hc
     rcases hc with hc|hc
     ·exact absurd rfl hc
     ·exact CY _ _ _ (x9 _ _ hc) l
    ·rw [Kae.mp hq];exact Na _
   ·rw [if_neg e]
    rcases Kam.mp hq with hq|hq
    ·exact h.RT q hq
    ·exact absurd (by rw [Kae.mp hq]) e
 ·rename_i hc
  refine⟨h.nd,λq hq=>Kac _ (h.Uc q hq),λq hq=>?_⟩
  rcases Kam.mp hq with hq|hq
  ·exact h.RT q hq
  ·rw [Kae.mp hq]
   have h1:(aN st c.1).isSome=true:=Classical.not_not.mp λz=>hc (.inl z)
   obtain⟨v,hv⟩:=Kbj.mp h1
   refine⟨v,hv,?_⟩
   cases h2:HT.lexLt c.2 v with
   |false=>rfl
   |true=>exact absurd (.inr (by rw [hv];exact h2)) hc
theorem tW:∀(d:Int) (A B:List Int),A.length=B.length->A.Pairwise (·<=·)->B.Pairwise (·<=·)->HT.lexLt B A=false->HT.lexLt (insI d B) (insI d A)=false
 |d,[],[],_,_,_,_=>Na _
 |d,a::A,b::B,hl,sA,sB,h=>by
  have hl2:A.length=B.length:=by rw [Kad,Kad] at hl;omega
  have pA:=KaG.mp sA
  have pB:=KaG.mp sB
  rw [HT.lexLt_cons] at h
  unfold insI
  by_cases e:b=a
  ·rw [if_pos e] at h
   subst e
   by_cases c:d<=b
   ·rw [if_pos c,if_pos c,HT.lexLt_cons,if_pos rfl,HT.lexLt_cons,if_pos rfl];exact h
   ·rw [if_neg c,if_neg c,HT.lexLt_cons,if_pos rfl];exact tW d A B hl2 pA.2 pB.2 h
  ·rw [if_neg e] at h
   have h:=of_decide_eq_false h
   by_cases c:d<=a
   ·rw [if_pos (show d<=b by omega),if_pos c,HT.lexLt_cons,if_pos rfl,HT.lexLt_cons,if_neg e]
    exact decide_eq_false h
   ·rw [if_neg c]
    by_cases c2:d<=b
    ·rw [if_pos c2,HT.lexLt_cons,if_neg (by omega)]
     exact decide_eq_false (by omega)
    ·rw [if_neg c2,HT.lexLt_cons,if_neg e]
     exact decide_eq_false h
theorem pR (xs:List Int)(d:Int):sortI (xs++[d])=insI d (sortI xs):=by
 refine Sf ?_ (Fj _) (Xv d (Fj _))
 exact (IA _).trans ((List.perm_append_comm).trans (((IA xs).symm.cons d).trans (TR d _).symm))
theorem Z8 (xs:List Int):(sortI xs).length=xs.length:=(IA xs).length_eq
theorem EU {A B:List Int}{d:Int}(hl:A.length=B.length)(h:HT.lexLt (sortI B) (sortI A)=false):HT.lexLt (sortI (B++[d])) (sortI (A++[d]))=false:=by
 rw [pR,pR]
 exact tW d _ _ (by rw [Z8,Z8,hl]) (Fj _) (Fj _) h
theorem uP {xs:List Int}(h:xs.Pairwise (·<=·)):sortI xs=xs:=Sf (IA xs) (Fj _) h
section
variable {γ:Type}{U:List γ}{h:γ->Int->Bool}{c:Int->Bool}
/-- bM lots d8 some days make -/
def aF (U:List γ)(h:γ->Int->Bool)(D:List Int):List Int:=gH (U.map λS=>D.map (h S))
def bz (U:List γ)(h:γ->Int->Bool)(c:Int->Bool)(d:Int):List Bool:=U.map λS=>decide (h S d=c d)
theorem Fd {D:List Int}{S T:γ}:D.map (h S)=D.map (h T)↔∀d∈D,h S d=h T d:=KbD
theorem ug {D E:List Int}:aF U h D=aF U h E↔∀S∈U,∀T∈U,(∀d∈D,h S d=h T d)↔∀d∈E,h S d=h T d:=by
 constructor
 ·intro e S hS T hT
  have:=Dh e S hS T hT
  rw [Fd,Fd] at this
  exact this
 ·intro e
  refine mY U λS hS T hT=>?_
  rw [Fd,Fd]
  exact e S hS T hT
theorem ue {D E:List Int}(e:∀d,d∈D↔d∈E):aF U h D=aF U h E:=ug.mpr λS _ T _=>⟨λz d hd=>z d ((e d).mpr hd),λz d hd=>z d ((e d).mp hd)⟩
theorem CU (D:List Int):(aF U h D).length=U.length:=by unfold aF;rw [Dg,Kag]
theorem Zm (D:List Int)(d:Int):nP ⟨aF U h D⟩ ⟨bz U h c d⟩=⟨aF U h (D++[d])⟩:=by
 rw [uA]
 refine congrArg Ti.mk ?_
 obtain⟨φ,e1,i1⟩:=Po (U.map λS=>D.map (h S))
 show gH (Ka9 (gH (U.map λS=>D.map (h S))) (U.map λS=>decide (h S d=c d)))=gH (U.map λS=>(D++[d]).map (h S))
 rw [e1,KaL,List.zip_map']
 refine mY U λS hS T hT=>?_
 rw [Fd]
 constructor
 ·intro e x hx
  have e1:φ (D.map (h S))=φ (D.map (h T)):=congrArg Prod.fst e
  have e2:decide (h S d=c d)=decide (h T d=c d):=congrArg Prod.snd e
  rcases Kam.mp hx with hx|hx
  ·exact Fd.mp (i1 _ (KaA hS) _ (KaA hT) e1) x hx
  ·rw [Kae.mp hx]
   revert e2
   cases h S d <;> cases h T d <;> cases c d <;> simp
 ·intro e
  show (φ (D.map (h S)),decide (h S d=c d))=(φ (D.map (h T)),decide (h T d=c d))
  rw [Fd.mpr λx hx=>e x (Kac _ hx),e d (Kao _ (Kae.mpr rfl))]
theorem pF {D E:List Int}{d:Int}(e:aF U h D=aF U h E):aF U h (D++[d])=aF U h (E++[d]):=by
 have:=Zm (U:=U) (h:=h) (c:=λ_=>true) D d
 rw [e,Zm] at this
 exact (Ti.mk.inj this).symm
/-- some days tell all apart -/
def zg (U:List γ)(h:γ->Int->Bool)(D:List Int):Prop:=∀S∈U,∀T∈U,(∀d∈D,h S d=h T d)->S=T
theorem ZG {α β:Type}{f:α->β}:∀{xs:List α},(xs.map f).Nodup->∀x∈xs,∀y∈xs,f x=f y->x=y
 |[],_,x,hx,_,_,_=>by cases hx
 |a::xs,nd,x,hx,y,hy,e=>by
  rw [Kai,KaP] at nd
  rcases Kah.mp hx with hx|hx
  ·rcases Kah.mp hy with hy|hy
   ·rw [hx,hy]
   ·exact absurd (Kas.mpr ⟨y,hy,by rw [<-e,hx]⟩) nd.1
  ·rcases Kah.mp hy with hy|hy
   ·exact absurd (Kas.mpr ⟨x,hx,by rw [e,hy]⟩) nd.1
   ·exact ZG nd.2 x hx y hy e
theorem M8 {α β:Type}{f:α->β}:∀{xs:List α},xs.Nodup->(∀x∈xs,∀y∈xs,f x=f y->x=y)->(xs.map f).Nodup
 |[],_,_=>KaO
 |a::xs,nd,hi=>by
  rw [KaP] at nd
  rw [Kai,KaP]
  refine⟨λz=>?_,M8 nd.2 λx hx y hy=>hi x (Kab _ hx) y (Kab _ hy)⟩
  obtain⟨y,hy,e⟩:=Kas.mp z
  exact nd.1 (hi y (Kab _ hy) a Kaa e ▸ hy)
theorem Aa (n:Nat):(rng 0 (n:Int)).Nodup:=by
 rw [vL]
 exact M8 List.nodup_range λx _ y _ e=>Int.ofNat.inj e
theorem Tc (nd:U.Nodup){D:List Int}:aF U h D=rng 0 ((U.length:Nat):Int)↔zg U h D:=by
 constructor
 ·intro e S hS T hT hd
  obtain⟨φ,e1,_⟩:=Po (U.map λS=>D.map (h S))
  have e2:aF U h D=U.map λS=>φ (D.map (h S)):=by
   show gH (U.map λS=>D.map (h S))=_
   rw [e1,KaL];rfl
  refine ZG (f:=λS=>φ (D.map (h S))) (by rw [<-e2,e];exact Aa _) S hS T hT ?_
  show φ _=φ _
  rw [Fd.mpr hd]
 ·intro t
  show gH (U.map λS=>D.map (h S))=_
  rw [wu _ (M8 nd λS hS T hT e=>t S hS T hT (Fd.mp e)),Kag]
theorem uf:aF U h []=Kak U.length 0:=zY U []
def vz (U:List γ)(h:γ->Int->Bool)(E:List Int):Prop:=∀(A:List Int) (d:Int) (B:List Int),E=A++d::B->aF U h (A++[d])≠aF U h A
theorem vz.nil:vz U h []:=λA d B e=>by cases A <;> cases e
theorem vz.left {E:List Int}{d:Int}(z:vz U h (E++[d])):vz U h E/\aF U h (E++[d])≠aF U h E:=⟨λA x B e=>z A x (B++[d]) (by rw [e];simp),z E d [] rfl⟩
theorem vz.add {E:List Int}{d:Int}(z:vz U h E)(hd:aF U h (E++[d])≠aF U h E):vz U h (E++[d]):=λA x B e=>by
 rcases Kbx B with rfl|⟨B',y,rfl⟩
 ·have:E=A/\d=x:=by
   have:=Kdn e rfl
   exact⟨this.1,by have:=this.2;simp at this;exact this⟩
  rw [<-this.1,<-this.2];exact hd
 ·have e2:E++[d]=(A++x::B')++[y]:=by rw [e];simp
  have:=Kdn e2 rfl
  exact z A x B' this.1
theorem snoc_ind {α:Type}{p:List α->Prop}(h0:p [])(h1:∀xs x,p xs->p (xs++[x]))(xs:List α):p xs:=by
 have:∀ys:List α,p ys.reverse:=by
  intro ys
  induction ys with
  |nil=>exact h0
  |cons y ys ih=>rw [Kb0];exact h1 _ _ ih
 rw [<-List.reverse_reverse xs];exact this _
/-- D6 of some days d8 part some lot -/
theorem Ke (D:List Int):∃E:List Int,E.Sublist D/\vz U h E/\aF U h E=aF U h D:=by
 refine snoc_ind (p:=λD=>∃E:List Int,E.Sublist D/\vz U h E/\aF U h E=aF U h D) ⟨[],.slnil,vz.nil,rfl⟩ (λD d ⟨E,s,k,e⟩=>?_) D
 have e2:aF U h (E++[d])=aF U h (D++[d]):=pF e
 by_cases q:aF U h (E++[d])=aF U h E
 ·exact⟨E,s.trans (List.sublist_append_left _ _),k,by rw [<-e2,q]⟩
 ·exact⟨E++[d],s.append (Ka2.refl _),k.add q,e2⟩
/-- how many pairs are alike on some days -/
def yz (U:List γ)(h:γ->Int->Bool)(E:List Int):Nat:=((U.flatMap λS=>U.map λT=>(S,T)).filter λp=>decide (∀d∈E,h p.1 d=h p.2 d)).length
theorem Fq:∀E:List Int,vz U h E->E.length+yz U h E<=U.length*U.length:=by
 refine snoc_ind ?_ λE d ih k=>?_
 ·intro _
  unfold yz
  refine KaB (show 0+_<=_ from by rw [KcR];exact Ka5 _ _) ?_
  rw [Kc1]
  have:∀V:List γ,(V.map λS=>(U.map λT=>(S,T)).length).sum=V.length*U.length:=by
   intro V
   induction V with
   |nil=>rw [Kbh,Nat.zero_mul];rfl
   |cons a V ih=>rw [Kai,Kc3,ih,Kag,Kad,KbV];omega
  rw [this];exact Kat _
 ·obtain⟨k1,k2⟩:=k.left
  have:=ih k1
  have lt:yz U h (E++[d])<yz U h E:=by
   have hx:∃S∈U,∃T∈U,(∀x∈E,h S x=h T x)/\h S d≠h T d:=by
    apply Classical.byContradiction
    intro q
    refine k2 (ug.mpr λS hS T hT=>⟨λz x hx=>z x (Kac _ hx),λz x hx=>?_⟩)
    rcases Kam.mp hx with hx|hx
    ·exact z x hx
    ·rw [Kae.mp hx]
     apply Classical.byContradiction
     intro ne
     exact q ⟨S,hS,T,hT,z,ne⟩
   obtain⟨S,hS,T,hT,z,ne⟩:=hx
   have gen:∀l:List (γ×γ),(S,T)∈l->(l.filter λp=>decide (∀x∈E++[d],h p.1 x=h p.2 x)).length<(l.filter λp=>decide (∀x∈E,h p.1 x=h p.2 x)).length:=by
    have le:∀l:List (γ×γ),(l.filter λp=>decide (∀x∈E++[d],h p.1 x=h p.2 x)).length<=(l.filter λp=>decide (∀x∈E,h p.1 x=h p.2 x)).length:=by
     intro l
     induction l with
     |nil=>exact Kat _
     |cons a l U3=>
      by_cases q:∀x∈E++[d],h a.1 x=h a.2 x
      ·rw [KaJ (by exact decide_eq_true q),KaJ (by exact decide_eq_true λx hx=>q x (Kac _ hx)),Kad,Kad];omega
      ·rw [KaT (by simpa using q)]
       refine KaB U3 ?_
       exact ((KcH a l).filter _).length_le
    intro l hm
    induction l with
    |nil=>cases hm
    |cons a l U3=>
     rcases Kah.mp hm with e|hm
     ·subst e
      have q:¬∀x∈E++[d],h (S,T).1 x=h (S,T).2 x:=λq=>ne (q d (Kao _ (Kae.mpr rfl)))
      rw [KaT (by simpa using q),KaJ (by exact decide_eq_true z),Kad]
      have:=le l
      omega
     ·by_cases q:∀x∈E++[d],h a.1 x=h a.2 x
      ·rw [KaJ (by exact decide_eq_true q),KaJ (by exact decide_eq_true λx hx=>q x (Kac _ hx)),Kad,Kad]
       have:=U3 hm
       omega
      ·rw [KaT (by simpa using q)]
       exact Ka4 (U3 hm) ((KcH a l).filter _).length_le
   exact gen _ (Kbu.mpr ⟨S,hS,Kas.mpr ⟨T,hT,rfl⟩⟩)
  rw [Kan,KaF];omega
end
section
variable {γ:Type}{U:List γ}{h:γ->Int->Bool}{c:Int->Bool}{W:List (Int×Tb)}
/-- bM ways are D6 of days -/
def NB (U:List γ)(h:γ->Int->Bool)(c:Int->Bool)(W:List (Int×Tb)):Prop:=∀w∈W,w.2=⟨bz U h c w.1⟩
/-- what one list of days and a way make -/
def gJ (U:List γ)(h:γ->Int->Bool)(D:List Int)(W:List (Int×Tb)):List TL:=
 (W.filter λw=>decide (aF U h (D++[w.1])≠aF U h D)).map λw=>(⟨aF U h (D++[w.1])⟩,sortI (D++[w.1]))
structure Ro (U:List γ)(h:γ->Int->Bool)(W:List (Int×Tb))(k:Nat)(L:LW):Prop where
 nd:(L.map λp=>p.1).Nodup
 snd:∀q∈L,q.1=⟨aF U h q.2⟩/\q.2.length=k/\q.2.Pairwise (·<=·)/\q.2.Nodup/\∀d∈q.2,d∈W.map λw=>w.1
 cmp:∀E:List Int,vz U h E->E.length=k->(∀d∈E,d∈W.map λw=>w.1)->∃v,aN L ⟨aF U h E⟩=some v/\HT.lexLt (sortI E) v=false
theorem Ff {C:List TL}{st:LW}(hb:Eh C st)(hn:U.length<=8)(hC:∀q∈C,∃E,q.1=⟨aF U h E⟩):st.length<100000:=by
 have h1:(st.map λp=>p.1.l).Nodup:=by
  have:=M8 (f:=λt:Ti=>t.l) hb.nd λx _ y _ e=>by
   cases x;cases y;cases e;rfl
  rwa [KaL] at this
 have h2:=II (ys:=vY U.length) h1 λx hx=>by
  obtain⟨p,hp,rfl⟩:=Kas.mp hx
  obtain⟨E,hE⟩:=hC p (hb.Uc p hp)
  rw [hE]
  have:=zX (U.map λS=>E.map (h S))
  rw [Kag] at this
  exact this
 rw [Kag,tM] at h2
 have h3:∀n,n<=8->KD n<=40320:=by decide
 have:=h3 _ hn
 omega
theorem Y3 (hn:U.length<=8){D:List Int}(hD:D.length<=1000):∀(W:List (Int×Tb)),NB U h c W->∀(C:List TL) (st:LW),Eh C st->(∀q∈C,∃E,q.1=⟨aF U h E⟩) ->
  bH (El (⟨aF U h D⟩,D)) (Rv (⟨aF U h D⟩,D)) W st/\Eh (C++gJ U h D W) (Kaq (El (⟨aF U h D⟩,D)) st W)
 |[],_,C,st,hb,_=>⟨trivial,by show Eh (C++[]) st;rw [KaE];exact hb⟩
 |w::W,hW,C,st,hb,hC=>by
  have e1:w.2=⟨bz U h c w.1⟩:=hW w Kaa
  have e2:nP ⟨aF U h D⟩ w.2=⟨aF U h (D++[w.1])⟩:=by rw [e1,Zm]
  have hd:Rv (⟨aF U h D⟩,D) st w:=⟨by
   show (aF U h D).length<90000
   rw [CU];omega,by
   show (D++[w.1]).length<=100000
   rw [Kan,KaF];omega,Ff hb hn hC⟩
  by_cases q:aF U h (D++[w.1])≠aF U h D
  ·have et:El (⟨aF U h D⟩,D) st w=Ms st (⟨aF U h (D++[w.1])⟩,sortI (D++[w.1])):=by
    unfold El
    show (if nP ⟨aF U h D⟩ w.2≠⟨aF U h D⟩ then _ else _)=_
    rw [e2,if_pos (λz=>q (Ti.mk.inj z))];rfl
   have ec:gJ U h D (w::W)=(⟨aF U h (D++[w.1])⟩,sortI (D++[w.1]))::gJ U h D W:=by
    unfold gJ
    rw [KaJ (by exact decide_eq_true q),Kai]
   obtain⟨a1,a2⟩:=Y3 hn hD W (λx hx=>hW x (Kab _ hx)) (C++[(⟨aF U h (D++[w.1])⟩,sortI (D++[w.1]))]) _ (hb.step _) λx hx=>by
    rcases Kam.mp hx with hx|hx
    ·exact hC x hx
    ·rw [Kae.mp hx];exact⟨_,rfl⟩
   rw [KaD,et,ec]
   refine⟨⟨hd,by rw [et];exact a1⟩,?_⟩
   rw [KaR] at a2
   exact a2
  ·have et:El (⟨aF U h D⟩,D) st w=st:=by
    unfold El
    show (if nP ⟨aF U h D⟩ w.2≠⟨aF U h D⟩ then _ else _)=_
    rw [e2,if_neg (λz=>z (by rw [Classical.not_not.mp q]))]
   have ec:gJ U h D (w::W)=gJ U h D W:=by
    unfold gJ
    rw [KaT (by simpa using q)]
   obtain⟨a1,a2⟩:=Y3 hn hD W (λx hx=>hW x (Kab _ hx)) C st hb hC
   rw [KaD,et,ec]
   exact⟨⟨hd,by rw [et];exact a1⟩,a2⟩
theorem sq {D:List Int}{q:TL}(hq:q∈gJ U h D W):∃w∈W,aF U h (D++[w.1])≠aF U h D/\q=(⟨aF U h (D++[w.1])⟩,sortI (D++[w.1])):=by
 obtain⟨w,hw,rfl⟩:=Kas.mp hq
 obtain⟨h1,h2⟩:=Kbb.mp hw
 exact⟨w,h1,of_decide_eq_true h2,rfl⟩
theorem m_ (hn:U.length<=8)(hW:NB U h c W):∀(L:LW),(∀q∈L,q.1=⟨aF U h q.2⟩/\q.2.length<=1000)->∀(C:List TL) (st:LW),Eh C st->(∀q∈C,∃E,q.1=⟨aF U h E⟩) ->
  bH (Ob W) (VP W) L st/\Eh (C++L.flatMap λq=>gJ U h q.2 W) (Kaq (Ob W) st L)
 |[],_,C,st,hb,_=>⟨trivial,by show Eh (C++[]) st;rw [KaE];exact hb⟩
 |q::L,hL,C,st,hb,hC=>by
  obtain⟨p,D⟩:=q
  obtain⟨e,hl⟩:=hL (p,D) Kaa
  have e:p=⟨aF U h D⟩:=e
  subst e
  obtain⟨a1,a2⟩:=Y3 hn hl W hW C st hb hC
  obtain⟨b1,b2⟩:=m_ hn hW L (λx hx=>hL x (Kab _ hx)) _ _ a2 λx hx=>by
   rcases Kam.mp hx with hx|hx
   ·exact hC x hx
   ·obtain⟨w,_,_,rfl⟩:=sq hx
    exact⟨_,rfl⟩
  rw [KaD,KbA,<-KaR]
  exact⟨⟨a1,b1⟩,b2⟩
theorem GP (hU:U≠[]):Ro U h W 0 [(⟨Kak U.length 0⟩,[])]:=by
 refine⟨by simp,λq hq=>?_,λE _ hE _=>?_⟩
 ·rw [Kae.mp hq]
  exact⟨by rw [uf],rfl,KbQ.nil,KaO,λd hd=>by cases hd⟩
 ·cases E with
  |nil=>
   refine⟨[],?_,Na _⟩
   rw [uf]
   show (if _=_ then some _ else _)=_
   rw [if_pos rfl]
  |cons a E=>cases hE
theorem x7 (hn:U.length<=8)(hW:NB U h c W){k:Nat}(hk:k<=1000){L:LW}(lv:Ro U h W k L):yI L W/\Ro U h W (k+1) (Ar L W):=by
 obtain⟨a1,a2⟩:=m_ hn hW L (λq hq=>⟨(lv.snd q hq).1,by rw [(lv.snd q hq).2.1];exact hk⟩) [] [] ⟨KaO,λq hq=>(by cases hq),λq hq=>(by cases hq)⟩ λq hq=>by cases hq
 rw [Ka1] at a2
 refine⟨a1,a2.nd,λq hq=>?_,λE hE hl hd=>?_⟩
 ·obtain⟨p,hp,hq2⟩:=Kbu.mp (a2.Uc q hq)
  obtain⟨w,hw,ne,rfl⟩:=sq hq2
  obtain⟨_,s2,s3,s4,s5⟩:=lv.snd p hp
  have pm:=IA (p.2++[w.1])
  have nw:w.1∉p.2:=λz=>ne (ue λd=>by
   rw [Kam,Kae]
   exact⟨λy=>y.elim id (λy=>y ▸ z),.inl⟩)
  refine⟨?_,?_,Fj _,?_,λd hd=>?_⟩
  ·refine congrArg Ti.mk (ue λd=>?_)
   exact pm.symm.mem_iff
  ·show (sortI (p.2++[w.1])).length=_
   rw [Z8,Kan,KaF,s2]
  ·exact pm.symm.nodup (Kal.mpr ⟨s4,by simp,λa ha b hb z=>nw (by rw [<-Kae.mp hb,<-z];exact ha)⟩)
  ·rcases Kam.mp (pm.mem_iff.mp hd) with hd|hd
   ·exact s5 d hd
   ·rw [Kae.mp hd];exact KaA hw
 ·rcases Kbx E with rfl|⟨E',d,rfl⟩
  ·cases hl
  ·rw [KbO] at hE hl hd ⊢
   obtain⟨k1,k2⟩:=hE.left
   have hl':E'.length=k:=by rw [Kan,KaF] at hl;omega
   obtain⟨v,hv,lx⟩:=lv.cmp E' k1 hl' λx hx=>hd x (Kac _ hx)
   have hq:=Z2 hv
   obtain⟨s1,s2,s3,s4,s5⟩:=lv.snd _ hq
   have s1:aF U h E'=aF U h v:=Ti.mk.inj s1
   obtain⟨w,hw,ew⟩:=Kas.mp (hd d (Kao _ (Kae.mpr rfl)))
   have st:aF U h (v++[d])=aF U h (E'++[d]):=(pF s1).symm
   have hc:((⟨aF U h (v++[d])⟩,sortI (v++[d])):TL)∈L.flatMap λq=>gJ U h q.2 W:=by
    refine Kbu.mpr ⟨_,hq,Kas.mpr ⟨w,Kbb.mpr ⟨hw,decide_eq_true ?_⟩,by rw [ew]⟩⟩
    show aF U h (v++[w.1])≠aF U h v
    rw [ew,st,<-s1];exact k2
   obtain⟨v2,hv2,lx2⟩:=a2.RT _ hc
   have hv2:aN (Ar L W) ⟨aF U h (v++[d])⟩=some v2:=hv2
   rw [st] at hv2
   refine⟨v2,hv2,CY _ _ _ lx2 ?_⟩
   refine EU (by rw [hl',<-s2]) ?_
   rw [uP s3];exact lx
/-- level after level -/
def CW (W:List (Int×Tb))(L0:LW):Nat->LW
 |0=>L0
 |k+1=>Ar (CW W L0 k) W
theorem uY {C:LW->Prop}[DecidablePred C]{W:List (Int×Tb)}{d:LW->Prop}{L0:LW}(K:Nat):∀(m j:Nat),j+m=K->(∀k,k<K->C (CW W L0 k)/\d (CW W L0 k))->¬C (CW W L0 K)->∀f,m<f ->
  vn C (λl=>Ar l W) (λ_=>True) d f (CW W L0 j)/\lA C (λl=>Ar l W) f (CW W L0 j)=CW W L0 K
 |0,j,e,h1,h2,f+1,_=>by
  have e:j=K:=by omega
  subst e
  refine⟨⟨trivial,λz=>absurd z h2⟩,?_⟩
  unfold lA
  rw [if_neg h2]
 |m+1,j,e,h1,h2,f+1,hf=>by
  obtain⟨c1,c2⟩:=h1 j (by omega)
  obtain⟨i1,i2⟩:=uY K m (j+1) (by omega) h1 h2 f (by omega)
  refine⟨⟨trivial,λ_=>⟨c2,i1⟩⟩,?_⟩
  unfold lA
  rw [if_pos c1];exact i2
theorem zl {p:Nat->Prop}:∀n,p n->∃k,k<=n/\p k/\∀j,j<k->¬p j:=by
 intro n
 induction n using Nat.strongRecOn with
 |ind n ih=>
  intro h
  by_cases q:∃j,j<n/\p j
  ·obtain⟨j,hj,pj⟩:=q
   obtain⟨k,h1,h2,h3⟩:=ih j hj pj
   exact⟨k,by omega,h2,h3⟩
  ·exact⟨n,Kat _,h,λj hj pj=>q ⟨j,hj,pj⟩⟩
/-- bM first shortest list of days d8 tells all -/
structure JH (U:List γ)(h:γ->Int->Bool)(W:List (Int×Tb))(D:List Int):Prop where
 srt:D.Pairwise (·<·)
 len:D.length<=64
 way:∀d∈D,d∈W.map λw=>w.1
 EL:zg U h D
 few:∀E:List Int,(∀d∈E,d∈W.map λw=>w.1)->zg U h E->D.length<=E.length
 fst:∀E:List Int,E.Pairwise (·<=·)->(∀d∈E,d∈W.map λw=>w.1)->zg U h E->E.length=D.length->HT.lexLt E D=false
theorem j9 (nd:U.Nodup)(hU:U≠[])(hn:U.length<=8)(hW:NB U h c W)(all:zg U h (W.map λw=>w.1)){L0:LW}(e0:L0=[(⟨Kak U.length 0⟩,[])]){sg:Ti}(es:sg=⟨rng 0 ((U.length:Nat):Int)⟩):
  ∃D,vn (λl:LW=>¬((aN l sg).isSome=true)) (λl=>Ar l W) (λ_=>True) (λl=>yI l W) l_ L0 /\
   aN (lA (λl:LW=>¬((aN l sg).isSome=true)) (λl=>Ar l W) l_ L0) sg=some D/\JH U h W D:=by
 subst e0 es
 generalize hL:([(⟨Kak U.length 0⟩,[])]:LW)=L0
 have lv:∀k,k<=1000->Ro U h W k (CW W L0 k):=by
  intro k
  induction k with
  |zero=>intro _;rw [<-hL];exact GP hU
  |succ k ih=>intro hk;exact (x7 hn hW (by omega) (ih (by omega))).2
 -- what a chain d8 tells all FA
 have hit:∀E:List Int,vz U h E->(∀d∈E,d∈W.map λw=>w.1)->zg U h E->E.length<=64/\∃v,aN (CW W L0 E.length) ⟨rng 0 ((U.length:Nat):Int)⟩=some v/\HT.lexLt (sortI E) v=false:=λE k hd t=>by
  have h1:=Fq E k
  have h2:U.length*U.length<=8*8:=Nat.mul_le_mul hn hn
  have hl:E.length<=64:=by omega
  refine⟨hl,?_⟩
  have:=(lv E.length (by omega)).cmp E k rfl hd
  rwa [(Tc nd).mpr t] at this
 have red:∀E:List Int,(∀d∈E,d∈W.map λw=>w.1)->zg U h E->∃E':List Int,E'.Sublist E/\vz U h E'/\(∀d∈E',d∈W.map λw=>w.1)/\zg U h E':=λE hd t=>by
  obtain⟨E',s,k,e⟩:=Ke (U:=U) (h:=h) E
  refine⟨E',s,k,λd hd2=>hd d (s.subset hd2),(Tc nd).mp ?_⟩
  rw [e];exact (Tc nd).mpr t
 obtain⟨E0,_,k0,d0,t0⟩:=red _ (λ_ z=>z) all
 obtain⟨l0,v0,hv0,_⟩:=hit E0 k0 d0 t0
 obtain⟨K,K1,K2,K3⟩:=zl (p:=λk=>(aN (CW W L0 k) ⟨rng 0 ((U.length:Nat):Int)⟩).isSome=true) E0.length (by show KaZ _=true;rw [hv0];rfl)
 obtain⟨D,hD⟩:=Kbj.mp K2
 obtain⟨s1,s2,s3,s4,s5⟩:=(lv K (by omega)).snd _ (Z2 hD)
 obtain⟨w1,w2⟩:=uY (C:=λl:LW=>¬((aN l ⟨rng 0 ((U.length:Nat):Int)⟩).isSome=true)) (W:=W) (d:=λl=>yI l W) (L0:=L0) K K 0 (by omega) (λk hk=>⟨K3 k hk,(x7 hn hW (by omega) (lv k (by omega))).1⟩) (λz=>z K2) l_ (by show K<1000;omega)
 have tD:zg U h D:=(Tc nd).mp (Ti.mk.inj s1).symm
 refine⟨D,w1,by rw [show L0=CW W L0 0 from rfl,w2];exact hD,?_,by rw [s2];omega,s5,tD,?_,?_⟩
 ·have:∀l:List Int,l.Pairwise (·<=·)->l.Nodup->l.Pairwise (·<·):=by
   intro l
   induction l with
   |nil=>intro _ _;exact .nil
   |cons a l ih=>
    intro p n
    rw [KaG] at p
    rw [KaP] at n
    refine KaG.mpr ⟨λb hb=>?_,ih p.2 n.2⟩
    have:=p.1 b hb
    have:a≠b:=λz=>n.1 (z ▸ hb)
    omega
  exact this D s3 s4
 ·intro E hd t
  obtain⟨E',s,k,d',t'⟩:=red E hd t
  obtain⟨_,v,hv,_⟩:=hit E' k d' t'
  have:¬E'.length<K:=λz=>K3 _ z (by rw [hv];rfl)
  have:=s.length_le
  rw [s2];omega
 ·intro E srt hd t hl
  obtain⟨E',s,k,d',t'⟩:=red E hd t
  obtain⟨_,v,hv,lx⟩:=hit E' k d' t'
  have h1:¬E'.length<K:=λz=>K3 _ z (by rw [hv];rfl)
  have h2:=s.length_le
  have e:E'=E:=s.eq_of_length (by rw [s2] at hl;omega)
  subst e
  rw [hl,s2,hD] at hv
  cases hv
  rw [uP srt] at lx
  exact lx
end
def ah (S:DS)(d:Int):Bool:=aA S d.toNat
/-- bM ways in which days part some sets -/
structure P9 (U:List DS)(A:DS)(N:Nat)(W:List (Int×Tb)):Prop where
 way:∀w∈W,0<=w.1/\w.1<N/\w.2=⟨bz U ah (ah A) w.1⟩/\∃B∈U,ah B w.1≠ah A w.1
 fU:(W.map λw=>w.1).Pairwise (·<·)
 all:∀d:Int,0<=d->d<N->(∃B∈U,ah B d≠ah A d)->∃w∈W,w.2=⟨bz U ah (ah A) d⟩/\w.1<=d
 N2:∀w∈W,∀v∈W,w.2=v.2->w=v
theorem yw {U:List DS}{A:DS}{d:Int}:Kb3 (bz U ah (ah A) d) id=true↔¬∃B∈U,ah B d≠ah A d:=by
 unfold bz
 rw [KbL,Kbs]
 constructor
 ·rintro h ⟨B,hB,ne⟩
  exact ne (of_decide_eq_true (h B hB))
 ·intro h B hB
  refine decide_eq_true ?_
  apply Classical.byContradiction
  intro ne
  exact h ⟨B,hB,ne⟩
theorem XH {F M:Nat}(m0:0<M)(hM:2*F+2*M<=90000){A:DS}{R:List DS}(hs:∀S∈A::R,b9 F M (aA S) S)(hl:(A::R).length<=1000):∃N:Nat,E2 (A::R)=(N:Int)/\N<=F+M/\(∀S∈A::R,∀T∈A::R,(∀d,d<N->aA S d=aA T d)->∀d,aA S d=aA T d)/\P9 (A::R) A N (jf (A::R)):=by
 obtain⟨t1,N,t2,t3,t4⟩:=ZW m0 (by omega) hs
 refine⟨N,t2,t3,t4,?_⟩
 unfold jf
 simp only [lt_eq]
 rw [t2]
 have rows:Kaf (λ(x1:DS)=>J9 (jm x1) (N:Int)) (A::R)=(A::R).map λS=>(KaC N).map λd=>b2i (aA S d):=Kax λS hS=>(gxh (hs S hS) (n:=N) (by omega)).2
 rw [rows]
 have g0:aq ((A::R).map λS=>(KaC N).map λd=>b2i (aA S d)) (0:Int)=(KaC N).map λd=>b2i (aA A d):=ZV _ _
 have Rb:∀x:Int,0<=x->x<N->(Kaf (λ(x3:List Int)=>(decide ((aq x3 x)=(aq (aq ((A::R).map λS=>(KaC N).map λd=>b2i (aA S d)) (0:Int)) x)))) ((A::R).map λS=>(KaC N).map λd=>b2i (aA S d)))=bz (A::R) ah (ah A) x:=by
  intro x x0 x1
  rw [g0,KaL]
  refine Kax λS _=>?_
  show decide (aq ((KaC N).map λd=>b2i (aA S d)) x=_)=_
  rw [UC _ x0 x1,UC _ x0 x1]
  rw [Kci,decide_eq_true_iff,decide_eq_true_iff,Bp];exact Iff.rfl
 generalize hrw:((A::R).map λS=>(KaC N).map λd=>b2i (aA S d))=k_ at *
 have key:∀n:Nat,n<=N->∀st,st=Kaq (wU k_) (([]:List (Tb×Int)),([]:List (Int×Tb))) ((KaC n).map λ(k:Nat)=>(k:Int))->P9 (A::R) A n st.2/\∀t:Tb,(aN st.1 t).isSome=true↔∃w∈st.2,w.2=t:=by
  intro n
  induction n with
  |zero=>
   intro _ st e
   subst e
   exact⟨⟨λw hw=>(by cases hw),KbQ.nil,(λd d0 d1=>by omega),λw hw=>(by cases hw)⟩,λt=>⟨λh=>(by cases h),λ⟨w,hw,_⟩=>by cases hw⟩⟩
  |succ n ih=>
   intro hn st e
   obtain⟨p,q⟩:=ih (by omega) _ rfl
   rw [Kbo,Kaz,Kb2] at e
   generalize Kaq (wU k_) (([]:List (Tb×Int)),([]:List (Int×Tb))) ((KaC n).map λ(k:Nat)=>(k:Int))=s0 at *
   have ht:=Rb (n:Int) (by omega) (by omega)
   have e:st=wU k_ s0 (n:Int):=e
   have et:st=if (¬((Kb3 (bz (A::R) ah (ah A) (n:Int)) id)=true))/\(¬(KaZ (aN s0.1 (Tb.mk (bz (A::R) ah (ah A) (n:Int))))=true)) then ((Tb.mk (bz (A::R) ah (ah A) (n:Int)),(n:Int))::s0.1,s0.2++[((n:Int),Tb.mk (bz (A::R) ah (ah A) (n:Int)))]) else s0:=by
    rw [e]
    unfold wU
    rw [lt_eq,ht];rfl
   by_cases c:(¬((Kb3 (bz (A::R) ah (ah A) (n:Int)) id)=true))/\(¬(KaZ (aN s0.1 (Tb.mk (bz (A::R) ah (ah A) (n:Int))))=true))
   ·rw [if_pos c] at et
    subst et
    have oE:∃B∈A::R,ah B (n:Int)≠ah A (n:Int):=Classical.not_not.mp λz=>c.1 (yw.mpr z)
    refine⟨⟨λw hw=>?_,?_,λd d0 d1 hd=>?_,λw hw v hv ev=>?_⟩,λt=>?_⟩
    ·rcases Kam.mp hw with hw|hw
     ·obtain⟨a,b,d,f⟩:=p.way w hw
      exact⟨a,by omega,d,f⟩
     ·rw [Kae.mp hw]
      exact⟨by show (0:Int)<=(n:Int);omega,by show (n:Int)<((n+1:Nat):Int);omega,rfl,oE⟩
    ·show ((s0.2++[_]).map _).Pairwise _
     rw [Kaz]
     refine Ka6.mpr ⟨p.fU,by simp,λa ha b hb=>?_⟩
     obtain⟨w,hw,rfl⟩:=Kas.mp ha
     have h1:=(p.way w hw).2.1
     have:b=(n:Int):=by simpa using hb
     rw [this];exact h1
    ·by_cases e2:d=(n:Int)
     ·rw [e2]
      exact⟨_,Kao _ (Kae.mpr rfl),rfl,Kbm _⟩
     ·obtain⟨w,hw,h2⟩:=p.all d d0 (by omega) hd
      exact⟨w,Kac _ hw,h2⟩
    ·have nw:∀x∈s0.2,x.2≠Tb.mk (bz (A::R) ah (ah A) (n:Int)):=λx hx z=>c.2 ((q _).mpr ⟨x,hx,z⟩)
     rcases Kam.mp hw with hw|hw
     ·rcases Kam.mp hv with hv|hv
      ·exact p.N2 w hw v hv ev
      ·rw [Kae.mp hv] at ev;exact absurd ev (nw w hw)
     ·rcases Kam.mp hv with hv|hv
      ·rw [Kae.mp hw] at ev;exact absurd ev.symm (nw v hv)
      ·rw [Kae.mp hw,Kae.mp hv]
    ·show (aN ((Tb.mk (bz (A::R) ah (ah A) (n:Int)),(n:Int))::s0.1) t).isSome=true↔_
     show (if Tb.mk (bz (A::R) ah (ah A) (n:Int))=t then some (n:Int) else aN s0.1 t).isSome=true↔_
     by_cases e2:Tb.mk (bz (A::R) ah (ah A) (n:Int))=t
     ·rw [if_pos e2]
      exact⟨λ_=>⟨_,Kao _ (Kae.mpr rfl),e2⟩,λ_=>rfl⟩
     ·rw [if_neg e2,q t]
      constructor
      ·rintro⟨w,hw,ew⟩;exact⟨w,Kac _ hw,ew⟩
      ·rintro⟨w,hw,ew⟩
       rcases Kam.mp hw with hw|hw
       ·exact⟨w,hw,ew⟩
       ·rw [Kae.mp hw] at ew;exact absurd ew e2
   ·rw [if_neg c] at et
    subst et
    refine⟨⟨λw hw=>?_,p.fU,λd d0 d1 hd=>?_,p.N2⟩,q⟩
    ·obtain⟨a,b,d,f⟩:=p.way w hw
     exact⟨a,by omega,d,f⟩
    ·by_cases e2:d=(n:Int)
     ·rw [e2] at hd ⊢
      have na:¬((Kb3 (bz (A::R) ah (ah A) (n:Int)) id)=true):=λz=>yw.mp z hd
      have sm:(aN st.1 (Tb.mk (bz (A::R) ah (ah A) (n:Int)))).isSome=true:=Classical.not_not.mp λz=>c ⟨na,z⟩
      obtain⟨w,hw,ew⟩:=(q _).mp sm
      exact⟨w,hw,ew,by have:=(p.way w hw).2.1;omega⟩
     ·exact p.all d d0 (by omega) hd
 have:=(key N (Kat _) _ rfl).1
 rw [vL]
 exact this
theorem yy {F M:Nat}(hb:F+M<=98000){sets:List DS}(hs:∀S∈sets,b9 F M (aA S) S)(hl:sets.length<=1000):vg sets/\b8 sets=b8 (sets.map cM):=by
 have key:∀(xs st:List DS),(∀S∈xs,b9 F M (aA S) S)->st.length+xs.length<=1000->bH iF MN xs st/\Kaq iF st xs=Kaq iF st (xs.map cM):=by
  intro xs
  induction xs with
  |nil=>intro st _ _;exact⟨trivial,rfl⟩
  |cons x xs ih=>
   intro st hx hlen
   rw [Kad] at hlen
   obtain⟨l1,l2⟩:=IE (hx x Kaa) hb
   have r2:=l2.rep hb
   obtain⟨m1,m2⟩:=IE r2 hb
   have e:cM (cM x)=cM x:=m2.uniq l2 hb hb
   have et:iF st x=iF st (cM x):=by
    unfold iF
    simp only [lt_eq,e]
   have lt1:(iF st x).length<=st.length+1:=by
    unfold iF
    simp only [lt_eq]
    split
    ·rw [Kan];exact Kat _
    ·omega
   obtain⟨a1,a2⟩:=ih (iF st x) (λS hS=>hx S (Kab _ hS)) (by omega)
   rw [Kai,KaD,KaD,<-et]
   refine⟨⟨⟨l1,by rw [cS];intro _;omega⟩,a1⟩,a2⟩
 obtain⟨a1,a2⟩:=key sets [] hs (by show 0+_<=_;omega)
 unfold vg b8
 simp only [cS,lt_eq]
 exact⟨a1,a2⟩
theorem ZY (xs:List DS):(b8 xs).length<=xs.length:=by
 have:∀(xs st:List DS),(Kaq iF st xs).length<=st.length+xs.length:=by
  intro xs
  induction xs with
  |nil=>intro st;exact Kat _
  |cons x xs ih=>
   intro st
   rw [KaD,Kad]
   refine KaB (ih _) ?_
   have:(iF st x).length<=st.length+1:=by
    unfold iF
    simp only [lt_eq]
    split
    ·rw [Kan];exact Kat _
    ·omega
   omega
 have:=this xs []
 rw [Kbh,KcR] at this
 exact this
/-- days d8 tell all unlike ones of some sets -/
def AH (sets:List DS)(D:List Int):Prop:=∀S∈sets,∀T∈sets,(∀d∈D,ah S d=ah T d)->∀d,aA S d=aA T d
/-- what fewest_looks tells of some sets -/
structure JG (N:Nat)(sets:List DS)(D:List Int):Prop where
 srt:D.Pairwise (·<·)
 len:D.length<=64
 rg:∀d∈D,0<=d/\d<N
 EL:AH sets D
 few:∀E:List Int,(∀d∈E,d∈D)->AH sets E->D.length<=E.length
theorem IL {F M:Nat}{sets:List DS}(h:rm F M sets):vg sets/\(b8 sets).Nodup/\(∀L,L∈b8 sets↔∃S∈sets,cM S=L)/\(∀L∈b8 sets,b9 F M (aA L) L)/\(∀S∈sets,∀d,aA (cM S) d=aA S d) /\
  (∀L∈b8 sets,∀K∈b8 sets,(∀d,aA L d=aA K d)->L=K)/\(b8 sets).length<=sets.length:=by
 have hb:F+M<=98000:=by have:=h.b;omega
 have r_:∀S∈sets,cZ F M (aA S) (cM S):=λS hS=>(IE (h.r S hS) hb).2
 have hc:∀L∈sets.map cM,∃g,cZ F M g L:=λL hL=>by
  obtain⟨S,hS,rfl⟩:=Kas.mp hL
  exact⟨_,r_ S hS⟩
 obtain⟨d1,e1⟩:=yy hb h.r h.l
 obtain⟨_,u2,u3⟩:=gxv hb hc (by rw [Kag];exact h.l)
 have Vn:∀L,L∈b8 sets↔∃S∈sets,cM S=L:=λL=>by rw [e1,u3 L,Kas]
 have hs:∀S∈sets,∀d,aA (cM S) d=aA S d:=λS hS=>((r_ S hS).rep hb).has
 refine⟨d1,by rw [e1];exact u2,Vn,λL hL=>?_,hs,λL hL K hK e=>?_,ZY _⟩
 ·obtain⟨S,hS,rfl⟩:=(Vn L).mp hL
  have r:=(r_ S hS).rep hb
  exact⟨r.ok,r.y,r.z,r.m0,λ_=>rfl⟩
 ·obtain⟨S,hS,rfl⟩:=(Vn L).mp hL
  obtain⟨T,hT,rfl⟩:=(Vn K).mp hK
  exact ((r_ S hS).congr λd=>by rw [<-hs S hS,<-hs T hT,e d]).uniq (r_ T hT) hb hb
theorem ZL {F M:Nat}(m0:0<M)(hM:2*F+2*M<=90000){sets:List DS}(h:rm F M sets)(hl:sets.length<=8):wR sets/\JG (F+M) sets (nJ sets):=by
 obtain⟨u1,nd,mem,rep,has,eqv,bnd⟩:=IL h
 have cs:=gv h.big
 unfold wR nJ
 generalize hU:b8 sets=U at *
 by_cases c:(((U).length:Nat):Int)<2
 ·rw [if_pos c]
  refine⟨⟨cs,u1,λz=>absurd c z⟩,.nil,KaV _,λd hd=>(by cases hd),λS hS T hT _=>?_,λE _ _=>KaV _⟩
  have K4:=(mem _).mpr ⟨S,hS,rfl⟩
  have hT2:=(mem _).mpr ⟨T,hT,rfl⟩
  have e:cM S=cM T:=by
   match U,c,K4,hT2 with
   |[x],_,K4,hT2=>rw [Kae.mp K4,Kae.mp hT2]
   |x::y::r,c,_,_=>
    exfalso
    rw [Kad,Kad] at c
    omega
  intro d
  rw [<-has S hS,<-has T hT,e]
 ·rw [if_neg c]
  cases U with
  |nil=>exact absurd (by decide) c
  |cons A R=>
   obtain⟨p1,_⟩:=W9 m0 hM rep (by omega)
   obtain⟨N,_,n1,n2,P⟩:=XH m0 hM rep (by omega)
   have hW:NB (A::R) ah (ah A) (jf (A::R)):=λw hw=>(P.way w hw).2.2.1
   have all:zg (A::R) ah ((jf (A::R)).map λw=>w.1):=by
    intro S hS T hT e
    refine eqv S hS T hT (n2 S hS T hT λd hd=>?_)
    apply Classical.byContradiction
    intro ne
    have oE:∃B∈A::R,ah B (d:Int)≠ah A (d:Int):=by
     by_cases q:ah S (d:Int)=ah A (d:Int)
     ·exact⟨T,hT,λz=>ne (by
       have h1:aA S d=aA A d:=q
       have h2:aA T d=aA A d:=z
       rw [h1,h2])⟩
     ·exact⟨S,hS,q⟩
    obtain⟨w,hw,ew,_⟩:=P.all (d:Int) (by omega) (by omega) oE
    have e2:=e w.1 (KaA hw)
    have e3:=(P.way w hw).2.2.1.symm.trans ew
    have e4:bz (A::R) ah (ah A) w.1=bz (A::R) ah (ah A) (d:Int):=Tb.mk.inj e3
    have e5:=KbD.mp e4
    have s1:=e5 S hS
    have s2:=e5 T hT
    rw [e2] at s1
    have s3:decide (ah S (d:Int)=ah A (d:Int))=decide (ah T (d:Int)=ah A (d:Int)):=s1.symm.trans s2
    refine ne ?_
    show ah S (d:Int)=ah T (d:Int)
    revert s3
    cases ah S (d:Int) <;> cases ah T (d:Int) <;> cases ah A (d:Int) <;> simp
   obtain⟨D,w1,w2,lk⟩:=j9 (L0:=FF (A::R)) (sg:=vK (A::R)) nd (by simp) (by omega) hW all (by unfold FF;rw [Kay]) rfl
   have eD:aN (Jb (A::R)) (vK (A::R))=some D:=w2
   have sub:∀E:List Int,AH sets E->zg (A::R) ah E:=λE t L hL K hK e=>by
    obtain⟨S,hS,rfl⟩:=(mem L).mp hL
    obtain⟨T,hT,rfl⟩:=(mem K).mp hK
    refine eqv _ hL _ hK λd=>?_
    rw [has S hS,has T hT]
    refine t S hS T hT (λx hx=>?_) d
    have:=e x hx
    show aA S x.toNat=aA T x.toNat
    rw [<-has S hS,<-has T hT];exact this
   rw [eD]
   refine⟨⟨cs,u1,λ_=>⟨p1,by omega,w1,rfl⟩⟩,lk.srt,lk.len,λd hd=>?_,λS hS T hT e d=>?_,λE hE t=>?_⟩
   ·obtain⟨w,hw,rfl⟩:=Kas.mp (lk.way d hd)
    have:=P.way w hw
    omega
   ·have:=lk.EL _ ((mem _).mpr ⟨S,hS,rfl⟩) _ ((mem _).mpr ⟨T,hT,rfl⟩) λx hx=>by
     show aA (cM S) x.toNat=aA (cM T) x.toNat
     rw [has S hS,has T hT];exact e x hx
    rw [<-has S hS,<-has T hT,this]
   ·exact lk.few E (λd hd=>lk.way d (hE d hd)) (sub E t)
/-- two days part some sets alike -/
def dF (sets:List DS)(d e:Int):Prop:=∀S∈sets,∀T∈sets,ah S d=ah T d↔ah S e=ah T e
theorem dF.symm {sets:List DS}{d e:Int}(h:dF sets d e):dF sets e d:=λS hS T hT=>(h S hS T hT).symm
theorem dF.trans {sets:List DS}{d e f:Int}(h:dF sets d e)(g:dF sets e f):dF sets d f:=λS hS T hT=>(h S hS T hT).trans (g S hS T hT)
/-- a day is bM first to part some sets so -/
structure gZ (sets:List DS)(d:Int):Prop where
 d0:0<=d
 oE:∃S∈sets,∃T∈sets,ah S d≠ah T d
 fst:∀e:Int,0<=e->e<d->¬dF sets d e
theorem Pr {U:List DS}{A:DS}(hA:A∈U){d e:Int}:bz U ah (ah A) d=bz U ah (ah A) e↔dF U d e:=by
 unfold bz
 rw [KbD]
 constructor
 ·intro h S hS T hT
  have h1:=h S hS
  have h2:=h T hT
  rw [decide_eq_decide] at h1 h2
  revert h1 h2
  cases ah S d <;> cases ah T d <;> cases ah A d <;> cases ah S e <;> cases ah T e <;> cases ah A e <;> simp
 ·intro h S hS
  rw [decide_eq_decide]
  exact h S hS A hA
theorem P6 {U:List DS}{A:DS}(hA:A∈U){d:Int}:(∃B∈U,ah B d≠ah A d)↔∃S∈U,∃T∈U,ah S d≠ah T d:=by
 constructor
 ·rintro⟨B,hB,ne⟩;exact⟨B,hB,A,hA,ne⟩
 ·rintro⟨S,hS,T,hT,ne⟩
  by_cases q:ah S d=ah A d
  ·exact⟨T,hT,λz=>ne (q.trans z.symm)⟩
  ·exact⟨S,hS,q⟩
/-- from N on all comes again -/
theorem nC {F M:Nat}(m0:0<M)(hM:M<=98000){sets:List DS}(hs:∀S∈sets,b9 F M (aA S) S){N:Nat}(hN:E2 sets=(N:Int)):∀d:Int,0<=d->∃e:Int,0<=e/\e<=d/\e<N/\∀S∈sets,ah S d=ah S e:=by
 obtain⟨a,b⟩:=gxg (F:=F) m0 hM sets [] 0 1 hs ⟨by omega,by omega,by omega,⟨M,by simp⟩,λS hS=>by cases hS⟩
 unfold E2 at hN
 simp only [lt_eq] at hN
 generalize Kaq Bj ((0:Int),(1:Int)) sets=r at *
 have s0:=b.s0
 have s1:=b.s1
 have l1:=b.l1
 have lM:=KaM m0 b.dv
 have key:∀n:Nat,∀d:Nat,d<n->∃e:Nat,e<=d/\e<N/\∀S∈sets,aA S d=aA S e:=by
  intro n
  induction n with
  |zero=>intro d hd;omega
  |succ n ih=>
   intro d hd
   by_cases c:d<N
   ·exact⟨d,Kat _,c,λ_ _=>rfl⟩
   ·obtain⟨e,e1,e2,e3⟩:=ih (d-r.2.toNat) (by omega)
    refine⟨e,by omega,e2,λS hS=>?_⟩
    rw [<-e3 S hS]
    obtain⟨a1,a2⟩:=b.r S hS
    have q:d=(d-r.2.toNat)+r.2.toNat:=by omega
    have:=(hs S hS).per a2 (d:=d-r.2.toNat) (by omega)
    rwa [<-q] at this
 intro d d0
 obtain⟨e,e1,e2,e3⟩:=key (d.toNat+1) d.toNat (by omega)
 exact⟨(e:Int),by omega,by omega,by omega,λS hS=>by
  show aA S d.toNat=aA S ((e:Int).toNat)
  rw [Kay];exact e3 S hS⟩
/-- bM days of bM ways are D6 d8 are bM first to part so -/
theorem pV {U:List DS}{A:DS}(hA:A∈U){N:Nat}{W:List (Int×Tb)}(P:P9 U A N W)(again:∀d:Int,0<=d->∃e:Int,0<=e/\e<=d/\e<N/\∀S∈U,ah S d=ah S e){d:Int}:d∈W.map (λw=>w.1)↔gZ U d:=by
 constructor
 ·intro h
  obtain⟨w,hw,rfl⟩:=Kas.mp h
  obtain⟨a,b,e,oE⟩:=P.way w hw
  refine⟨a,(P6 hA).mp oE,λx x0 x1 sm=>?_⟩
  have dx:∃B∈U,ah B x≠ah A x:=by
   obtain⟨B,hB,ne⟩:=oE
   exact⟨B,hB,λz=>ne ((sm B hB A hA).mpr z)⟩
  obtain⟨v,hv,ev,lv⟩:=P.all x x0 (by omega) dx
  have:v=w:=P.N2 v hv w hw (by rw [ev,e,(Pr hA).mpr sm])
  rw [this] at lv
  omega
 ·intro h
  obtain⟨e,e0,e1,e2,e3⟩:=again d h.d0
  have sm:dF U d e:=λS hS T hT=>by rw [e3 S hS,e3 T hT]
  have ed:e=d:=by
   by_cases q:e=d
   ·exact q
   ·exact absurd sm (h.fst e e0 (by omega))
  subst ed
  obtain⟨w,hw,ew,lw⟩:=P.all e e0 e2 ((P6 hA).mpr h.oE)
  have w1:=P.way w hw
  have Vm:dF U e w.1:=(Pr hA).mp (Tb.mk.inj (ew.symm.trans w1.2.2.1))
  have:w.1=e:=by
   by_cases q:w.1=e
   ·exact q
   ·exact absurd Vm (h.fst w.1 w1.1 (by omega))
  rw [<-this];exact KaA hw
/-- bM first,by length and then as lists,of bM ow lists of first days d8 tell all unlike sets -/
structure AJ (sets:List DS)(D:List Int):Prop where
 srt:D.Pairwise (·<·)
 len:D.length<=64
 day:∀d∈D,gZ sets d
 EL:AH sets D
 few:∀E:List Int,(∀d∈E,gZ sets d)->AH sets E->D.length<=E.length
 fst:∀E:List Int,E.Pairwise (·<=·)->(∀d∈E,gZ sets d)->AH sets E->E.length=D.length->HT.lexLt E D=false
theorem x8:∀{x y:List Int},x.length=y.length->HT.lexLt x y=false->HT.lexLt y x=false->x=y
 |[],[],_,_,_=>rfl
 |a::x,b::y,hl,h1,h2=>by
  rw [HT.lexLt_cons] at h1 h2
  by_cases e:a=b
  ·rw [if_pos e] at h1
   rw [if_pos e.symm] at h2
   rw [e,x8 (by simpa using hl) h1 h2]
  ·rw [if_neg e] at h1
   rw [if_neg (Ne.symm e)] at h2
   have h1:=of_decide_eq_false h1
   have h2:=of_decide_eq_false h2
   omega
theorem Zb {D:List Int}(h:D.Pairwise (·<·)):D.Pairwise (·<=·):=h.imp λz=>Int.le_of_lt z
theorem AJ.uniq {sets:List DS}{D E:List Int}(h:AJ sets D)(g:AJ sets E):D=E:=by
 have l1:=h.few E g.day g.EL
 have l2:=g.few D h.day h.EL
 exact x8 (by omega) (g.fst D (Zb h.srt) h.day h.EL (by omega)) (h.fst E (Zb g.srt) g.day g.EL (by omega))
theorem gZ.congr {s1 s2:List DS}(m:∀S∈s2,∃T∈s1,∀d,ah T d=ah S d)(m':∀S∈s1,∃T∈s2,∀d,ah T d=ah S d){d:Int}(h:gZ s1 d):gZ s2 d:=by
 refine⟨h.d0,?_,λe e0 e1 sm=>h.fst e e0 e1 λS hS T hT=>?_⟩
 ·obtain⟨S,hS,T,hT,ne⟩:=h.oE
  obtain⟨S',hS',eS⟩:=m' S hS
  obtain⟨T',Qg,eT⟩:=m' T hT
  exact⟨S',hS',T',Qg,by rw [eS,eT];exact ne⟩
 ·obtain⟨S',hS',eS⟩:=m' S hS
  obtain⟨T',Qg,eT⟩:=m' T hT
  have:=sm S' hS' T' Qg
  rwa [eS,eT,eS,eT] at this
theorem AH.congr {s1 s2:List DS}(m:∀S∈s2,∃T∈s1,∀d,ah T d=ah S d){D:List Int}(h:AH s1 D):AH s2 D:=λS hS T hT e d=>by
 obtain⟨S',hS',eS⟩:=m S hS
 obtain⟨T',Qg,eT⟩:=m T hT
 have:=h S' hS' T' Qg (λx hx=>by rw [eS,eT];exact e x hx) d
 have e1:aA S' d=aA S d:=by have:=eS (d:Int);unfold ah at this;rwa [Kay] at this
 have e2:aA T' d=aA T d:=by have:=eT (d:Int);unfold ah at this;rwa [Kay] at this
 rw [<-e1,<-e2,this]
theorem AJ.congr {s1 s2:List DS}(m:∀S∈s2,∃T∈s1,∀d,ah T d=ah S d)(m':∀S∈s1,∃T∈s2,∀d,ah T d=ah S d){D:List Int}(h:AJ s1 D):AJ s2 D:=
 ⟨h.srt,h.len,λd hd=>(h.day d hd).congr m m',h.EL.congr m,λE hE t=>h.few E (λd hd=>(hE d hd).congr m' m) (t.congr m'),λE sE hE t l=>h.fst E sE (λd hd=>(hE d hd).congr m' m) (t.congr m') l⟩
theorem gxl {F M:Nat}(m0:0<M)(hM:2*F+2*M<=90000){sets:List DS}(h:rm F M sets)(hl:sets.length<=8):AJ sets (nJ sets):=by
 obtain⟨u1,nd,mem,rep,has,eqv,bnd⟩:=IL h
 have mH:∀S∈sets,∀d,ah (cM S) d=ah S d:=λS hS d=>has S hS d.toNat
 have mU:∀S∈b8 sets,∃T∈sets,∀d,ah T d=ah S d:=λL hL=>by
  obtain⟨S,hS,rfl⟩:=(mem L).mp hL
  exact⟨S,hS,λd=>(mH S hS d).symm⟩
 have LA:∀S∈sets,∃T∈b8 sets,∀d,ah T d=ah S d:=λS hS=>⟨cM S,(mem _).mpr ⟨S,hS,rfl⟩,mH S hS⟩
 refine AJ.congr LA mU ?_
 unfold nJ
 generalize hU:b8 sets=U at *
 by_cases c:(((U).length:Nat):Int)<2
 ·rw [if_pos c]
  have one:∀S∈U,∀T∈U,S=T:=λS hS T hT=>by
   match U,c,hS,hT with
   |[x],_,hS,hT=>rw [Kae.mp hS,Kae.mp hT]
   |x::y::r,c,_,_=>
    exfalso
    rw [Kad,Kad] at c
    omega
  exact⟨.nil,KaV _,λd hd=>(by cases hd),λS hS T hT _ d=>by rw [one S hS T hT],λE _ _=>KaV _,λE _ _ _ l=>by
   cases E with
   |nil=>exact Na _
   |cons a E=>cases l⟩
 ·rw [if_neg c]
  cases U with
  |nil=>exact absurd (by decide) c
  |cons A R=>
   obtain⟨N,hN,n1,n2,P⟩:=XH m0 hM rep (by omega)
   have again:=nC m0 (by omega) rep hN
   have wd:∀d,d∈(jf (A::R)).map (λw=>w.1)↔gZ (A::R) d:=λd=>pV Kaa P again
   have hW:NB (A::R) ah (ah A) (jf (A::R)):=λw hw=>(P.way w hw).2.2.1
   have all:zg (A::R) ah ((jf (A::R)).map λw=>w.1):=by
    intro S hS T hT e
    refine eqv S hS T hT (n2 S hS T hT λd hd=>?_)
    apply Classical.byContradiction
    intro ne
    have oE:∃B∈A::R,ah B (d:Int)≠ah A (d:Int):=(P6 Kaa).mpr ⟨S,hS,T,hT,ne⟩
    obtain⟨w,hw,ew,_⟩:=P.all (d:Int) (by omega) (by omega) oE
    have sm:dF (A::R) w.1 (d:Int):=(Pr Kaa).mp (Tb.mk.inj ((P.way w hw).2.2.1.symm.trans ew))
    exact ne ((sm S hS T hT).mp (e w.1 (KaA hw)))
   obtain⟨D,w1,w2,lk⟩:=j9 (L0:=FF (A::R)) (sg:=vK (A::R)) nd (by simp) (by omega) hW all (by unfold FF;rw [Kay]) rfl
   have eD:aN (Jb (A::R)) (vK (A::R))=some D:=w2
   have sub:∀E:List Int,AH (A::R) E->zg (A::R) ah E:=λE t L hL K hK e=>eqv L hL K hK (t L hL K hK e)
   rw [eD]
   exact⟨lk.srt,lk.len,λd hd=>(wd d).mp (lk.way d hd),λS hS T hT e d=>by rw [lk.EL S hS T hT e],λE hE t=>lk.few E (λd hd=>(wd d).mpr (hE d hd)) (sub E t),λE sE hE t l=>lk.fst E sE (λd hd=>(wd d).mpr (hE d hd)) (sub E t) l⟩
theorem FN {F M:Nat}(m0:0<M)(hM:2*F+2*M<=90000){sets:List DS}(h:rm F M sets)(hl:sets.length<=8):wR sets.reverse/\nJ sets.reverse=nJ sets:=by
 have hr:rm F M sets.reverse:=⟨λS hS=>h.r S (KcF.mp hS),h.b,by rw [Kc2];exact h.l⟩
 have hlr:sets.reverse.length<=8:=by rw [Kc2];exact hl
 refine⟨(ZL m0 hM hr hlr).1,?_⟩
 have:=gxl m0 hM hr hlr
 refine AJ.uniq (AJ.congr (λS hS=>⟨S,KcF.mpr hS,λ_=>rfl⟩) (λS hS=>⟨S,KcF.mp hS,λ_=>rfl⟩) this) (gxl m0 hM h hl)
end Pu
namespace Pu
open PySem L2 Enc La
theorem hqb (S:DS)(d:Int):vF S d=Kq S d:=rfl
structure NI (kn ns:cL):Prop where
 l:kn.length=ns.length
 p:∀n∈ns,0<=n.1/\n.1<=10 ^ 30/\aN kn n.1=some n.2
theorem NI.nok {kn ns:cL}(h:NI kn ns)(hl:ns.length<=1000):AW ns:=⟨λn hn=>(h.p n hn).1,⟨λd=>(aN kn d).getD false,λn hn=>by
 show n.2=(aN kn n.1).getD false
 rw [(h.p n hn).2.2];rfl⟩,hl⟩
theorem uq {T:DS}(hT:lq T){odd:Int}(o0:odd<=100){kn ns:cL}(h:NI kn ns)(hl:ns.length<=1000){n:Nat}{s:aa}(sk:Sk n s)(hn:n<1000000)(x:Int):Ol T odd ((kn,ns),s) x/\(∃Jm y,(w6 T odd ((kn,ns),s) x).1=(Jm,ns++[y])/\NI Jm (ns++[y]))/\Sk (n+10) (w6 T odd ((kn,ns),s) x).2:=by
 unfold Ol w6
 rw [eO ((kn,ns),s),dO ((kn,ns),s)]
 dsimp only
 obtain⟨a1,a2,a3,a4⟩:=fC sk (by omega) (m:=6) (by omega) (by omega)
 rw [eO (aE s 6),dO (aE s 6)]
 generalize aE s (6:Int)=r1 at *
 obtain⟨b1,b2,b3,b4⟩:=fC a4 (by omega) (m:=14) (by omega) (by omega)
 rw [eO (aE r1.2 14),dO (aE r1.2 14)]
 generalize aE r1.2 (14:Int)=r2 at *
 obtain⟨c1,c2,c3,c4⟩:=fC b4 (by omega) (m:=60) (by omega) (by omega)
 rw [eO (aE r2.2 60),dO (aE r2.2 60)]
 generalize aE r2.2 (60:Int)=r3 at *
 obtain⟨e1,e2,e3,e4⟩:=fC c4 (by omega) (m:=3) (by omega) (by omega)
 rw [eO (aE r3.2 3),dO (aE r3.2 3)]
 generalize aE r3.2 (3:Int)=r4 at *
 have hd:0<=aq [r1.1,r2.1,r3.1] r4.1/\aq [r1.1,r2.1,r3.1] r4.1<=10 ^ 30:=by
  have:=Px (xs:=[r1.1,r2.1,r3.1]) e2 (by simpa using e3)
  simp only [Kah,KaX,or_false] at this
  omega
 rw [show ([r1.1,r2.1,r3.1].length:Int)=3 from rfl]
 rw [cS (aq [r1.1,r2.1,r3.1] r4.1),lt_eq (aq [r1.1,r2.1,r3.1] r4.1)]
 generalize aq [r1.1,r2.1,r3.1] r4.1=V8 at *
 obtain⟨f1,f2,f3,f4⟩:=fC e4 (by omega) (m:=10) (by omega) (by omega)
 rw [eO (aE r4.2 10),dO (aE r4.2 10)]
 generalize aE r4.2 (10:Int)=r5 at *
 have p30:(10:Int) ^ (KaU (30:Int))=10 ^ 30:=rfl
 have p9:(10:Int) ^ (KaU (9:Int))=10 ^ 9:=rfl
 rw [p30,p9]
 obtain⟨g1,g2,g3,g4⟩:=fC f4 (by omega) (m:=70) (by omega) (by omega)
 rw [eO (aE r5.2 70),dO (aE r5.2 70)]
 generalize aE r5.2 (70:Int)=r6 at *
 obtain⟨h1,h2,h3,h4⟩:=fC g4 (by omega) (m:=10 ^ 9) (by omega) (by omega)
 rw [eO (aE r6.2 (10 ^ 9)),dO (aE r6.2 (10 ^ 9))]
 generalize aE r6.2 ((10:Int) ^ 9)=r7 at *
 obtain⟨i1,i2,i3,i4⟩:=fC h4 (by omega) (m:=2) (by omega) (by omega)
 rw [eO (aE r7.2 2),dO (aE r7.2 2)]
 generalize aE r7.2 (2:Int)=r8 at *
 rw [show ([(10:Int) ^ 30-8-r6.1,r7.1].length:Int)=2 from rfl,lt_eq (aq [(10:Int) ^ 30-8-r6.1,r7.1] r8.1)]
 have hg:0<=aq [(10:Int) ^ 30-8-r6.1,r7.1] r8.1/\aq [(10:Int) ^ 30-8-r6.1,r7.1] r8.1<=10 ^ 30:=by
  have:=Px (xs:=[(10:Int) ^ 30-8-r6.1,r7.1]) i2 (by simpa using i3)
  simp only [Kah,KaX,or_false] at this
  omega
 generalize aq [(10:Int) ^ 30-8-r6.1,r7.1] r8.1=aD at *
 have hp:∃p:Int×aa,(if r5.1=(0:Int) then (aD,r8.2) else (V8,r5.2))=p/\0<=p.1/\p.1<=10 ^ 30/\Sk (n+8) p.2:=by
  by_cases c:r5.1=(0:Int)
  ·rw [if_pos c];exact⟨_,rfl,hg.1,hg.2,i4.mono (by omega)⟩
  ·rw [if_neg c];exact⟨_,rfl,hd.1,hd.2,f4.mono (by omega)⟩
 obtain⟨p,ep,p1,p2,p3⟩:=hp
 rw [ep,eO p,dO p]
 obtain⟨v1,v2,v3,v4⟩:=fC p3 (by omega) (m:=max 1 odd) (by omega) (by omega)
 have hq:∃q:Bool×aa,(if (0:Int)<odd then (a_ (aE p.2 (max (1:Int) odd)) λa5 s5=>((decide (a5=(0:Int))),s5)) else (false,p.2))=q/\Sk (n+9) q.2:=by
  by_cases z:(0:Int)<odd
  ·rw [if_pos z,dO];exact⟨_,rfl,v4.mono (by omega)⟩
  ·rw [if_neg z];exact⟨_,rfl,p3.mono (by omega)⟩
 obtain⟨q,eq,q2⟩:=hq
 rw [eq,eO q,dO q,cS q.1,lt_eq q.1]
 generalize hv:Kba (aN kn p.1) (decide (vF T p.1≠q.1))=v
 rw [cS ((p.1,v)::kn),lt_eq ((p.1,v)::kn)]
 have ek:aN ((p.1,v)::kn) p.1=some v:=by
  show (if p.1=p.1 then some v else aN kn p.1)=_
  rw [if_pos rfl]
 rw [ek,lt_eq]
 have hkl:=h.l
 refine⟨⟨a1,b1,c1,e1,⟨by omega,by omega⟩,f1,λ_=>⟨g1,h1,i1,by omega,by omega⟩,λ_=>v1,Pb hT _,by omega,rfl,by omega⟩,⟨_,_,rfl,?_,λm hm=>?_⟩,q2.mono (by omega)⟩
 ·rw [Kad,Kan,hkl];rfl
 ·rcases Kam.mp hm with z|z
  ·obtain⟨z1,z2,z3⟩:=h.p m z
   refine⟨z1,z2,?_⟩
   show (if p.1=m.1 then some v else aN kn m.1)=_
   by_cases w:p.1=m.1
   ·rw [if_pos w]
    rw [<-w] at z3
    rw [z3] at hv
    rw [<-hv];rfl
   ·rw [if_neg w];exact z3
  ·rw [Kae.mp z]
   exact⟨p1,p2,ek⟩
theorem kh {T:DS}(hT:lq T){odd:Int}(o0:odd<=100):∀(xs:List Int) (kn ns:cL) (s:aa) (n:Nat),NI kn ns->ns.length+xs.length<=1000->Sk n s->n+10*xs.length<1000000->bH (w6 T odd) (Ol T odd) xs ((kn,ns),s)/\(∃Jm ns',(Kaq (w6 T odd) ((kn,ns),s) xs).1=(Jm,ns')/\NI Jm ns'/\ns'.length=ns.length+xs.length)/\Sk (n+10*xs.length) (Kaq (w6 T odd) ((kn,ns),s) xs).2
 |[],kn,ns,s,n,h,_,sk,_=>⟨trivial,⟨kn,ns,rfl,h,rfl⟩,sk⟩
 |x::xs,kn,ns,s,n,h,hl,sk,hn=>by
  rw [Kad] at hl hn
  obtain⟨t1,⟨Jm,y,t2,t3⟩,t4⟩:=uq hT o0 h (by omega) sk (by omega) x
  have e:w6 T odd ((kn,ns),s) x=((Jm,ns++[y]),(w6 T odd ((kn,ns),s) x).2):=Prod.ext t2 rfl
  have la:(ns++[y]).length=ns.length+1:=by rw [Kan];rfl
  obtain⟨q1,⟨kn2,G3,q2,q3,q4⟩,q5⟩:=kh hT o0 xs Jm (ns++[y]) (w6 T odd ((kn,ns),s) x).2 (n+10) t3 (by omega) t4 (by omega)
  rw [KaD,Kad]
  refine⟨⟨t1,?_⟩,⟨kn2,G3,?_,q3,by omega⟩,?_⟩
  ·rw [e];exact q1
  ·rw [e];exact q2
  ·rw [e];exact q5.mono (by omega)
theorem uo {T:DS}(hT:lq T){odd:Int}(o0:odd<=100){many:Int}(m0:many<=20)(m1:0<=many){n:Nat}{s:aa}(sk:Sk n s)(hn:n<100000):Ao s T many odd/\(AW (yN s T many odd).1/\(yN s T many odd).1.length<=20/\∀m∈(yN s T many odd).1,0<=m.1/\m.1<=10 ^ 30)/\Sk (n+200) (yN s T many odd).2:=by
 unfold Ao yN
 have la:=rT 0 many
 obtain⟨q1,⟨kn2,G3,q2,q3,q4⟩,q5⟩:=kh hT o0 (rng 0 many) [] [] s n ⟨rfl,(λm hm=>by cases hm)⟩ (by show 0+_<=_;omega) sk (by omega)
 have q4:G3.length=0+(rng 0 many).length:=q4
 rw [dO (Kaq (w6 T odd) ((([]:List (Int×Bool)),([]:List (Int×Bool))),s) (rng 0 many))]
 generalize Kaq (w6 T odd) ((([]:List (Int×Bool)),([]:List (Int×Bool))),s) (rng 0 many)=p at *
 rw [q2]
 exact⟨⟨⟨by omega,by omega⟩,q1⟩,⟨q3.nok (by omega),by show G3.length<=20;omega,λm hm=>⟨(q3.p m hm).1,(q3.p m hm).2.1⟩⟩,q5.mono (by omega)⟩
theorem wC {S:DS}(ok:lq S)(hz:S.z<=98000)(s:Int){a:Nat}(a0:0<a)(ha:a<=98000):ML (s,(a:Int)) S/\E3 (s,(a:Int)) S=(max s S.y,((Kde a S.z.toNat:Nat):Int)):=by
 have z1:=ok.z1
 obtain⟨b,hb⟩:=KaK (show 0<=S.z by omega)
 have b0:0<b:=by omega
 have key:=Kr (c:=Ik) (f:=J8) (dc:=WM) (d:=RH)
  (λst=>∃x y:Nat,st=((x:Int),(y:Int))/\Kbf x y=Kbf a b) (λst=>st.2.toNat) (λst hst=>by
   obtain⟨x,y,rfl,e⟩:=hst
   refine⟨trivial,λhc=>?_⟩
   have hy:(0:Int)<(y:Int):=hc
   refine⟨hy,⟨y,x % y,?_,?_⟩,?_⟩
   ·show ((y:Int),(x:Int) % (y:Int))=_
    rw [<-Kbt]
   ·rw [<-e,KcQ y (x % y),<-Kdo,KcQ]
   ·show ((x:Int) % (y:Int)).toNat<(y:Int).toNat
    rw [<-Kbt]
    simp only [Kay]
    exact Kb1 _ (by omega)) fuel ((a:Int),(b:Int)) ⟨a,b,rfl,rfl⟩ (by unfold fuel;simp;omega)
 obtain⟨k1,⟨x,y,e,eg⟩,k3⟩:=key
 have hy:y=0:=by
  rw [e] at k3
  have k4:¬(0:Int)<(y:Int):=k3
  omega
 have g0:0<Kbf a b:=Kcv _ b0
 have g1:Kbf a b<=b:=Nat.gcd_le_right _ b0
 have ex:(lA Ik J8 fuel ((a:Int),(b:Int))).1=((Kbf a b:Nat):Int):=by
  rw [e,<-eg,hy];simp
 unfold ML E3
 simp only [cS,lt_eq]
 rw [hb,ex]
 refine⟨⟨k1,.inl (by omega),by omega,by omega⟩,?_⟩
 rw [Kay,<-KbN,K0];rfl
structure Uz (M:Nat)(s l:Int)(sets:List DS):Prop where
 s0:0<=s
 s1:s<=72
 l1:1<=l
 dv:l.toNat∣M
 r:∀S∈sets,S.y<=s/\S.z.toNat∣l.toNat
theorem ni {M:Nat}(m0:0<M)(hM:M<=98000):∀(sets done:List DS) (s l:Int),(∀S∈sets,b9 72 M (aA S) S)->Uz M s l done->bH E3 ML sets (s,l)/\Uz M (Kaq E3 (s,l) sets).1 (Kaq E3 (s,l) sets).2 (done++sets)
 |[],done,s,l,_,h=>⟨trivial,by rw [KaE];exact h⟩
 |S::sets,done,s,l,hs,h=>by
  have hS:=hs S Kaa
  have z1:=hS.ok.z1
  have zM:=hS.zM
  have yM:=hS.y
  have l1:=h.l1
  have lM:=KaM m0 h.dv
  obtain⟨a,ha⟩:=KaK (show 0<=l by omega)
  subst ha
  obtain⟨t1,t2⟩:=wC hS.ok (by omega) s (a:=a) (by omega) (by omega)
  have n:Uz M (max s S.y) ((Kde a S.z.toNat:Nat):Int) (done++[S]):=by
   have s0:=h.s0
   have s1:=h.s1
   refine⟨by omega,by omega,?_,?_,λT hT=>?_⟩
   ·have:0<Kde a S.z.toNat:=Nat.lcm_pos (by omega) (by omega)
    omega
   ·rw [Kay]
    exact Nat.lcm_dvd (by have:=h.dv;rwa [Kay] at this) hS.z
   ·rcases Kam.mp hT with z|z
    ·obtain⟨u1,u2⟩:=h.r T z
     rw [Kay] at u2 ⊢
     exact⟨by omega,Ka0 u2 (Kdm _ _)⟩
    ·rw [Kae.mp z,Kay]
     exact⟨by omega,Kdf _ _⟩
  obtain⟨q1,q2⟩:=ni m0 hM sets (done++[S]) _ _ (λT hT=>hs T (Kab _ hT)) n
  rw [KaD,t2]
  refine⟨⟨t1,by rw [t2];exact q1⟩,?_⟩
  rw [KaR] at q2
  exact q2
theorem nj {M:Nat}(m0:0<M)(hM:M<=98000){sets:List DS}(hs:∀S∈sets,b9 72 M (aA S) S):Bw sets/\Uz M (rS sets).1 (rS sets).2 sets:=by
 obtain⟨a,b⟩:=ni m0 hM sets [] 0 1 hs ⟨by omega,by omega,by omega,⟨M,by simp⟩,λS hS=>by cases hS⟩
 exact⟨a,b⟩
def bZ (N:Nat)(f:Nat->Bool):List Bool:=(KaC N).map f
theorem Py (N:Nat)(f:Nat->Bool):(bZ N f).length=N:=by unfold bZ;simp
theorem Ui {N:Nat}{f:Nat->Bool}{i:Int}(h0:0<=i)(h1:i<N):aq (bZ N f) i=f i.toNat:=by
 obtain⟨k,rfl⟩:=KaK h0
 unfold bZ
 rw [AB,KaY,KbF (by omega)];rfl
theorem Gr (S:DS){n:Int}(n0:0<=n):Kaf (λ(x2:Int)=>(vF S x2)) (rng 0 n)=bZ n.toNat (aA S):=by
 rw [show n=((n.toNat:Nat):Int) by omega,vL,KaL,Kay]
 refine Kax λk _=>?_
 show vF S (k:Int)=_
 rw [hqb,v_ S (by omega)];rfl
abbrev aG (N:Nat)(sX:List DS):List (List Bool):=sX.map λS=>bZ N (aA S)
theorem uJ {M:Nat}(m0:0<M)(hM:M<=5040){sets:List DS}(hs:∀S∈sets,b9 72 M (aA S) S)(hl:sets.length<=1000):Az sets/\MX sets=aG ((rS sets).1+(rS sets).2).toNat sets:=by
 obtain⟨a,b⟩:=nj m0 (by omega) hs
 have s0:=b.s0
 have s1:=b.s1
 have l1:=b.l1
 have lM:=KaM m0 b.dv
 unfold Az MX
 simp only [cS,lt_eq]
 generalize rS sets=r at *
 have lr:=rT 0 (r.1+r.2)
 refine⟨⟨a,λS hS=>⟨⟨by omega,by omega⟩,λx _=>Pb (hs S hS).ok x,by omega⟩,by omega⟩,?_⟩
 exact Kax λS _=>Gr S (by omega)
end Pu
namespace Pu
open PySem PyProof.Rows L2 Enc La
/-- bM first day d8 parts as a day FA -/
theorem xG {U:List DS}:∀n:Nat,∀d:Nat,d<n->(∃S∈U,∃T∈U,ah S (d:Int)≠ah T (d:Int))->∃e:Int,gZ U e/\dF U (d:Int) e
 |0,d,hd,_=>absurd hd (Nat.not_lt_zero _)
 |n+1,d,hd,oE=>by
  by_cases q:∃e:Nat,e<d/\dF U (d:Int) (e:Int)
  ·obtain⟨e,he,sm⟩:=q
   obtain⟨S,hS,T,hT,ne⟩:=oE
   obtain⟨x,f,g⟩:=xG n e (by omega) ⟨S,hS,T,hT,λz=>ne ((sm S hS T hT).mpr z)⟩
   exact⟨x,f,sm.trans g⟩
  ·exact⟨(d:Int),⟨by omega,oE,λe e0 e1 sm=>q ⟨e.toNat,by omega,by
    rw [show ((e.toNat:Nat):Int)=e by omega];exact sm⟩⟩,λ_ _ _ _=>Iff.rfl⟩
/-- so few days tell so many unlike sets -/
theorem uU {U:List DS}(eqv:∀L∈U,∀K∈U,(∀d,aA L d=aA K d)->L=K):∀V:List DS,V≠[]->(∀S∈V,S∈U)->∃E:List Int,E.length+1<=V.length/\(∀d∈E,gZ U d)/\∀S∈V,∀T∈V,(∀d∈E,ah S d=ah T d)->S=T
 |[],ne,_=>absurd rfl ne
 |[A],_,_=>⟨[],Kat _,λd hd=>(by cases hd),λS hS T hT _=>by rw [Kae.mp hS,Kae.mp hT]⟩
 |A::B::V,_,sub=>by
  obtain⟨E,l,hE,t⟩:=uU eqv (B::V) (by simp) λS hS=>sub S (Kab _ hS)
  by_cases q:∃S∈B::V,(∀d∈E,ah A d=ah S d)/\A≠S
  ·obtain⟨S,hS,e,ne⟩:=q
   have hA:=sub A Kaa
   have K4:=sub S (Kab _ hS)
   have hd:∃d:Nat,aA A d≠aA S d:=by
    apply Classical.byContradiction
    intro z
    exact ne (eqv A hA S K4 λd=>Classical.byContradiction λy=>z ⟨d,y⟩)
   obtain⟨d,hd⟩:=hd
   obtain⟨x,f,sm⟩:=xG (U:=U) (d+1) d (by omega) ⟨A,hA,S,K4,by
    show aA A ((d:Int).toNat)≠aA S ((d:Int).toNat)
    rw [Kay];exact hd⟩
   have nx:ah A x≠ah S x:=λz=>hd (by
    have:=(sm A hA S K4).mpr z
    have this:aA A ((d:Int).toNat)=aA S ((d:Int).toNat):=this
    rwa [Kay] at this)
   have only:∀T∈B::V,(∀d∈E++[x],ah A d=ah T d)->A=T:=λT hT z=>by
    have e2:∀d∈E,ah S d=ah T d:=λd hd=>(e d hd).symm.trans (z d (Kac _ hd))
    have:=t S hS T hT e2
    subst this
    exact absurd (z x (Kao _ (Kae.mpr rfl))) nx
   refine⟨E++[x],by rw [Kan,KaF,Kad];omega,λy hy=>?_,λY hY Z hZ z=>?_⟩
   ·rcases Kam.mp hy with hy|hy
    ·exact hE y hy
    ·rw [Kae.mp hy];exact f
   ·rcases Kah.mp hY with y|y
    ·rcases Kah.mp hZ with x|x
     ·rw [x,y]
     ·rw [y] at z ⊢;exact only Z x z
    ·rcases Kah.mp hZ with x|x
     ·rw [x] at z ⊢;exact (only Y y λd hd=>(z d hd).symm).symm
     ·exact t Y y Z x λd hd=>z d (Kac _ hd)
  ·refine⟨E,by rw [Kad];omega,hE,λY hY Z hZ z=>?_⟩
   rcases Kah.mp hY with y|y
   ·rcases Kah.mp hZ with x|x
    ·rw [x,y]
    ·rw [y] at z ⊢;exact Classical.byContradiction λw=>q ⟨Z,x,z,w⟩
   ·rcases Kah.mp hZ with x|x
    ·rw [x] at z ⊢;exact Classical.byContradiction λw=>q ⟨Y,y,λd hd=>(z d hd).symm,λv=>w v.symm⟩
    ·exact t Y y Z x z
theorem CT {F M:Nat}{sets:List DS}(h:rm F M sets)(ne:sets≠[]){D:List Int}(lk:AJ sets D):D.length+1<=(b8 sets).length:=by
 obtain⟨u1,nd,mem,rep,has,eqv,bnd⟩:=IL h
 have mH:∀S∈sets,∀d,ah (cM S) d=ah S d:=λS hS d=>has S hS d.toNat
 have mU:∀S∈b8 sets,∃T∈sets,∀d,ah T d=ah S d:=λL hL=>by
  obtain⟨S,hS,rfl⟩:=(mem L).mp hL
  exact⟨S,hS,λd=>(mH S hS d).symm⟩
 have LA:∀S∈sets,∃T∈b8 sets,∀d,ah T d=ah S d:=λS hS=>⟨cM S,(mem _).mpr ⟨S,hS,rfl⟩,mH S hS⟩
 have neU:b8 sets≠[]:=by
  cases sets with
  |nil=>exact absurd rfl ne
  |cons S r=>exact Kdb ((mem _).mpr ⟨S,Kaa,rfl⟩)
 obtain⟨E,l,hE,t⟩:=uU eqv (b8 sets) neU λ_ z=>z
 have:=(lk.congr mU LA).few E hE λS hS T hT e d=>by rw [t S hS T hT e]
 omega
/-- how many sets a note on a day Lw at worst -/
def aU (U:List DS)(d:Int):Int:=max (((U.filter λS=>ah S d).length:Nat):Int) ((U.length:Int)-(((U.filter λS=>ah S d).length:Nat):Int))
theorem ZZ {α:Type}(q:α->Bool):∀l:List α,(l.filter q).length+(l.filter λx=>!q x).length=l.length
 |[]=>rfl
 |x::l=>by
  have:=ZZ q l
  by_cases c:q x=true
  ·rw [KaJ c,KaT (by simpa using c),Kad,Kad];omega
  ·rw [KaT c,KaJ (by simpa using c),Kad,Kad];omega
theorem T_ (U:List DS)(A:DS)(d:Int):J7 ⟨bz U ah (ah A) d⟩=aU U d:=by
 have h:=ZZ (λS=>ah S d) U
 unfold J7 aU bz
 show max (((Kcs true (U.map λS=>decide (ah S d=ah A d)):Nat):Int)) (((Kcs false (U.map λS=>decide (ah S d=ah A d)):Nat):Int))=_
 have ct:∀(q:DS->Bool),Kcs true (U.map q)=(U.filter q).length/\Kcs false (U.map q)=(U.filter λS=>!q S).length:=by
  intro q
  clear h
  induction U with
  |nil=>exact⟨rfl,rfl⟩
  |cons x U ih=>
   rw [Kai,KcJ,KcJ,ih.1,ih.2]
   cases c:q x with
   |true=>rw [KaJ c,KaT (by simp [c])];simp
   |false=>rw [KaT (by simp [c]),KaJ (by simp [c])];simp
 obtain⟨c1,c2⟩:=ct λS=>decide (ah S d=ah A d)
 rw [c1,c2]
 cases hA:ah A d with
 |true=>
  have e1:(λS:DS=>decide (ah S d=true))=λS=>ah S d:=by funext S;cases ah S d <;> rfl
  have e2:(λS:DS=>!decide (ah S d=true))=λS=>!ah S d:=by funext S;cases ah S d <;> rfl
  rw [e2,e1]
  omega
 |false=>
  have e1:(λS:DS=>decide (ah S d=false))=λS=>!ah S d:=by funext S;cases ah S d <;> rfl
  have e2:(λS:DS=>!decide (ah S d=false))=λS=>ah S d:=by funext S;cases ah S d <;> rfl
  rw [e2,e1]
  omega
theorem zc {U:List DS}{A:DS}(hA:A∈U){d e:Int}(h:dF U d e):aU U d=aU U e:=by
 rw [<-T_ U A d,<-T_ U A e,(Pr hA).mpr h]
theorem Fv (U:List DS)(d:Int):aU U d<=(U.length:Int):=by
 have:=Ka5 (λS=>ah S d) U
 unfold aU;omega
theorem lU {U:List DS}{d:Int}(h:∀S∈U,∀T∈U,ah S d=ah T d):aU U d=(U.length:Int):=by
 unfold aU
 cases U with
 |nil=>rfl
 |cons A R=>
  by_cases c:ah A d=true
  ·rw [KbT.mpr λS hS=>by rw [h S hS A Kaa];exact c];omega
  ·rw [KbZ.mpr λS hS z=>c (by rw [h A Kaa S hS];exact z)]
   rw [Kbh];omega
theorem BE {U:List DS}{d:Int}(h:∃S∈U,∃T∈U,ah S d≠ah T d):aU U d<(U.length:Int):=by
 obtain⟨S,hS,T,hT,ne⟩:=h
 have f:=ZZ (λS=>ah S d) U
 have key:∀X∈U,∀Y∈U,ah X d=true->ah Y d=false->aU U d<(U.length:Int):=λX hX Y hY eX eY=>by
  have p1:0<(U.filter λS=>ah S d).length:=KcI (Kbb.mpr ⟨hX,eX⟩)
  have p2:0<(U.filter λS=>!ah S d).length:=KcI (Kbb.mpr ⟨hY,by rw [eY];rfl⟩)
  unfold aU;omega
 cases eS:ah S d with
 |true=>
  cases eT:ah T d with
  |true=>exact absurd (eS.trans eT.symm) ne
  |false=>exact key S hS T hT eS eT
 |false=>
  cases eT:ah T d with
  |true=>exact key T hT S hS eT eS
  |false=>exact absurd (eS.trans eT.symm) ne
/-- bM day of bM least cost,bM first of aq9 -/
theorem ZU {U:List DS}{A:DS}:∀(W:List (Int×Tb)),(∀w∈W,w.2=⟨bz U ah (ah A) w.1⟩)->(W.map λw=>w.1).Pairwise (·<·)->∀b:Int,(∀w∈W,b<w.1)->∃d,Kaq wM (some (aU U b,b)) W=some (aU U d,d)/\(d=b∨d∈W.map λw=>w.1)/\aU U d<=aU U b/\(∀w∈W,aU U d<=aU U w.1)/\(d=b∨aU U d<aU U b)/\∀w∈W,w.1<d->aU U d<aU U w.1
 |[],_,_,b,_=>⟨b,rfl,.inl rfl,Kbm _,λw hw=>(by cases hw),.inl rfl,λw hw=>by cases hw⟩
 |w::W,hW,fU,b,hb=>by
  rw [Kai,KaG] at fU
  have ew:w.2=⟨bz U ah (ah A) w.1⟩:=hW w Kaa
  have lw:∀v∈W,w.1<v.1:=λv hv=>fU.1 v.1 (KaA hv)
  have st:wM (some (aU U b,b)) w=if aU U w.1<aU U b then some (aU U w.1,w.1) else some (aU U b,b):=by
   unfold wM
   simp only [lt_eq]
   rw [ew,T_]
   by_cases c:aU U w.1<aU U b
   ·rw [if_pos (.inr c),if_pos c]
   ·rw [if_neg (λz=>z.elim (λy=>by cases y) c),if_neg c]
  rw [KaD,st]
  by_cases c:aU U w.1<aU U b
  ·rw [if_pos c]
   obtain⟨d,h1,h2,h3,h4,h5,h6⟩:=ZU W (λv hv=>hW v (Kab _ hv)) fU.2 w.1 lw
   refine⟨d,h1,.inr ?_,by omega,λv hv=>?_,.inr (by omega),λv hv l=>?_⟩
   ·rcases h2 with e|e
    ·rw [e];exact Kaa
    ·exact Kab _ e
   ·rcases Kah.mp hv with e|e
    ·rw [e];exact h3
    ·exact h4 v e
   ·rcases Kah.mp hv with e|e
    ·rw [e] at l ⊢
     rcases h5 with z|z
     ·omega
     ·exact z
    ·exact h6 v e l
  ·rw [if_neg c]
   obtain⟨d,h1,h2,h3,h4,h5,h6⟩:=ZU W (λv hv=>hW v (Kab _ hv)) fU.2 b λv hv=>hb v (Kab _ hv)
   refine⟨d,h1,?_,h3,λv hv=>?_,h5,λv hv l=>?_⟩
   ·rcases h2 with e|e
    ·exact .inl e
    ·exact .inr (Kab _ e)
   ·rcases Kah.mp hv with e|e
    ·rw [e];omega
    ·exact h4 v e
   ·rcases Kah.mp hv with e|e
    ·rw [e] at l ⊢
     rcases h5 with z|z
     ·have:=hb w Kaa
      omega
     ·omega
    ·exact h6 v e l
/-- what next_look tells: nothing,or bM first of bM days of bM least cost -/
structure HU (U:List DS)(d:Int):Prop where
 d0:0<=d
 oE:∃S∈U,∃T∈U,ah S d≠ah T d
 le:∀e:Int,0<=e->aU U d<=aU U e
 lt:∀e:Int,0<=e->e<d->aU U d<aU U e
theorem pJ {F M:Nat}{sets:List DS}{ns:cL}(h:rm F M sets)(hM:2*F+2*M<=90000)(m0:0<M)(hn:AW ns):q_ sets ns/\(((b8 (cE sets ns)).length:Int)<2->rW sets ns=none)/\(¬((b8 (cE sets ns)).length:Int)<2->∃d,rW sets ns=some d/\d<(F+M:Nat)/\HU (b8 (cE sets ns)) d):=by
 have hb:F+M<=98000:=by omega
 obtain⟨f1,f2⟩:=sY h.big h.l hn λS hS=>(IE (h.r S hS) hb).1
 have hf:rm F M (cE sets ns):=⟨λS hS=>h.r S (Uy S hS),h.b,KaB (Ka5 _ _) h.l⟩
 obtain⟨u1,nd,mem,rep,has,eqv,bnd⟩:=IL hf
 have e1:=(yy hb hf.r hf.l).2
 have dd:q_ sets ns:=by
  by_cases z:cE sets ns=[]
  ·unfold q_
   rw [f2,z]
   exact⟨f1,trivial,by rw [cS];intro q;exact absurd (show (((0:Nat):Int))<2 by decide) q⟩
  ·exact (zO h hM m0 hn z).1
 refine⟨dd,?_⟩
 unfold rW
 simp only [lt_eq]
 rw [f2,<-e1]
 generalize b8 (cE sets ns)=U at *
 refine⟨λc=>if_pos c,λc=>?_⟩
 rw [if_neg c]
 cases U with
 |nil=>exact absurd (by decide) c
 |cons A R=>
  have NG:(A::R).length<=1000:=KaB bnd hf.l
  obtain⟨N,hN,n1,n2,P⟩:=XH m0 hM rep NG
  have again:=nC m0 (by omega) rep hN
  obtain⟨_,p2⟩:=W9 m0 hM rep NG
  have hR:∃B∈R,∃d,aA B d≠aA A d:=by
   cases R with
   |nil=>exact absurd (show (((1:Nat):Int))<2 by decide) c
   |cons B R=>
    refine⟨B,Kaa,?_⟩
    apply Classical.byContradiction
    intro q
    have:B=A:=eqv B (Kab _ Kaa) A Kaa λd=>Classical.byContradiction λz=>q ⟨d,z⟩
    rw [KaP] at nd
    exact nd.1 (this ▸ Kaa)
  have ne:=p2 hR
  have fU:=P.fU
  have way:=P.way
  have all:∀d:Int,0<=d->(∃S∈A::R,∃T∈A::R,ah S d≠ah T d)->∃w∈jf (A::R),aU (A::R) w.1=aU (A::R) d/\w.1<=d:=λd d0 oE=>by
   obtain⟨e,e0,e1,e2,e3⟩:=again d d0
   obtain⟨S,hS,T,hT,ne⟩:=oE
   obtain⟨w,hw,ew,lw⟩:=P.all e e0 e2 ((P6 Kaa).mpr ⟨S,hS,T,hT,by rw [<-e3 S hS,<-e3 T hT];exact ne⟩)
   refine⟨w,hw,?_,by omega⟩
   have s1:dF (A::R) w.1 e:=(Pr Kaa).mp (Tb.mk.inj ((P.way w hw).2.2.1.symm.trans ew))
   have s2:dF (A::R) e d:=λS hS T hT=>by rw [e3 S hS,e3 T hT]
   exact zc Kaa (s1.trans s2)
  generalize jf (A::R)=W at *
  cases W with
  |nil=>exact absurd rfl ne
  |cons w W=>
   rw [Kai,KaG] at fU
   have ew:=(way w Kaa).2.2.1
   have st:wM none w=some (aU (A::R) w.1,w.1):=by
    unfold wM
    simp only [lt_eq]
    rw [if_pos (.inl trivial),ew,T_]
   obtain⟨d,h1,h2,h3,h4,h5,h6⟩:=ZU (U:=A::R) (A:=A) W (λv hv=>(way v (Kab _ hv)).2.2.1) fU.2 w.1 λv hv=>fU.1 v.1 (KaA hv)
   have hd:∃v∈w::W,v.1=d:=by
    rcases h2 with e|e
    ·exact⟨w,Kaa,e.symm⟩
    ·obtain⟨v,hv,e⟩:=Kas.mp e
     exact⟨v,Kab _ hv,e⟩
   obtain⟨v,hv,ev⟩:=hd
   obtain⟨v0,v1,_,vd⟩:=way v hv
   rw [ev] at v0 v1 vd
   have vd:=(P6 (Kaa (a:=A) (l:=R))).mp vd
   refine⟨d,by rw [KaD,st,h1];rfl,by omega,v0,vd,λe e0=>?_,λe e0 el=>?_⟩
   ·by_cases q:∃S∈A::R,∃T∈A::R,ah S e≠ah T e
    ·obtain⟨x,hx,cx,_⟩:=all e e0 q
     rw [<-cx]
     rcases Kah.mp hx with z|z
     ·rw [z];exact h3
     ·exact h4 x z
    ·rw [lU (d:=e) λS hS T hT=>Classical.byContradiction λz=>q ⟨S,hS,T,hT,z⟩]
     exact Fv _ _
   ·by_cases q:∃S∈A::R,∃T∈A::R,ah S e≠ah T e
    ·obtain⟨x,hx,cx,lx⟩:=all e e0 q
     rw [<-cx]
     rcases Kah.mp hx with z|z
     ·rw [z] at lx ⊢
      rcases h5 with y|y
      ·omega
      ·exact y
     ·exact h6 x z (by omega)
    ·rw [lU (d:=e) λS hS T hT=>Classical.byContradiction λz=>q ⟨S,hS,T,hT,z⟩]
     exact BE vd
end Pu
namespace Pu
open PySem L2 Enc La
theorem Tv {σ α:Type}{f:σ->α->σ}{d:σ->α->Prop}:∀{xs ys:List α} {st:σ},bH f d xs st->bH f d ys (xs.foldl f st)->bH f d (xs++ys) st
 |[],_,_,_,h=>h
 |_::_,_,_,h,g=>⟨h.1,Tv h.2 g⟩
theorem Tr {xs:List (List Bool)}(hl:xs.length<=1000):ve xs/\(lu xs).Nodup/\∀r,r∈lu xs↔r∈xs:=by
 have key:∀(xs st:List (List Bool)),st.Nodup->st.length+xs.length<=1000->bH u9 Oe xs st/\(Kaq u9 st xs).Nodup/\∀r,r∈Kaq u9 st xs↔r∈st∨r∈xs:=by
  intro xs
  induction xs with
  |nil=>intro st hn _;exact⟨trivial,hn,λr=>by simp⟩
  |cons x xs ih=>
   intro st hn hlen
   rw [Kad] at hlen
   have ed:Oe st x:=λ_=>by omega
   rw [KaD]
   by_cases c:x∈st
   ·have et:u9 st x=st:=by
     unfold u9
     rw [if_neg (λz=>z c)]
    obtain⟨a1,a2,a3⟩:=ih st hn (by omega)
    rw [et]
    refine⟨⟨ed,by rw [et];exact a1⟩,a2,λr=>?_⟩
    rw [a3 r,Kah]
    exact⟨λz=>z.elim .inl (λz=>.inr (.inr z)),λz=>z.elim .inl (λz=>z.elim (λz=>.inl (z ▸ c)) .inr)⟩
   ·have et:u9 st x=st++[x]:=by
     unfold u9
     rw [if_pos c];rfl
    obtain⟨a1,a2,a3⟩:=ih (st++[x]) (Kal.mpr ⟨hn,by simp,λa ha b hb z=>c (by rw [<-Kae.mp hb,<-z];exact ha)⟩) (by rw [Kan,KaF];omega)
    rw [et]
    refine⟨⟨ed,by rw [et];exact a1⟩,a2,λr=>?_⟩
    rw [a3 r,Kam,Kae,Kah,or_assoc]
 obtain⟨a1,a2,a3⟩:=key xs [] KaO (by show 0+_<=_;omega)
 unfold ve lu
 simp only [cS,lt_eq]
 exact⟨a1,a2,λr=>by rw [a3 r];simp⟩
section
variable {sets:List DS}{F M:Nat}(h:rm F M sets)(m0:0<M)(hM:2*F+2*M<=90000)
include h m0 hM
theorem Hv {S T:DS}(hS:S∈sets)(hT:T∈sets):bZ (F+M) (aA S)=bZ (F+M) (aA T)↔∀d,aA S d=aA T d:=by
 obtain⟨_,N,_,n1,n2⟩:=ZW m0 (by omega) h.r
 unfold bZ
 rw [KbD]
 constructor
 ·intro e
  exact n2 S hS T hT λd hd=>e d (KbG.mpr (by omega))
 ·intro e d _;exact e d
/-- bM unlike rows are D6 of bM unlike sets -/
theorem Ul:lu (aG (F+M) sets)=aG (F+M) (b8 sets):=by
 have hb:F+M<=98000:=by omega
 obtain⟨u1,nd,mem,rep,has,eqv,bnd⟩:=IL h
 have r_:∀S∈sets,cZ F M (aA S) (cM S):=λS hS=>(IE (h.r S hS) hb).2
 have key:∀(xs st:List DS),(∀S∈xs,S∈sets)->(∀L∈st,∃T∈sets,cM T=L)->Kaq u9 (st.map λS=>bZ (F+M) (aA S)) (xs.map λS=>bZ (F+M) (aA S))=(Kaq iF st xs).map λS=>bZ (F+M) (aA S):=by
  intro xs
  induction xs with
  |nil=>intro st _ _;rfl
  |cons x xs ih=>
   intro st hx hst
   have mx:=hx x Kaa
   have rl:bZ (F+M) (aA (cM x))=bZ (F+M) (aA x):=by
    unfold bZ
    exact Kax λd _=>has x mx d
   have iff:bZ (F+M) (aA x)∈(st.map λS=>bZ (F+M) (aA S))↔cM x∈st:=by
    constructor
    ·intro z
     obtain⟨L,hL,e⟩:=Kas.mp z
     obtain⟨T,hT,rfl⟩:=hst L hL
     have rt:bZ (F+M) (aA (cM T))=bZ (F+M) (aA T):=by
      unfold bZ
      exact Kax λd _=>has T hT d
     have e:bZ (F+M) (aA T)=bZ (F+M) (aA x):=rt.symm.trans e
     have:=(Hv h m0 hM hT mx).mp e
     have:cM x=cM T:=((r_ x mx).congr λd=>(this d).symm).uniq (r_ T hT) hb hb
     rw [this];exact hL
    ·intro z
     exact Kas.mpr ⟨_,z,rl⟩
   rw [Kai,KaD,KaD]
   have e1:iF st x=if cM x∉st then st++[cM x] else st:=by
    unfold iF
    rw [lt_eq];rfl
   by_cases c:cM x∈st
   ·have e2:u9 (st.map λS=>bZ (F+M) (aA S)) (bZ (F+M) (aA x))=st.map λS=>bZ (F+M) (aA S):=by
     unfold u9
     rw [if_neg (λz=>z (iff.mpr c))]
    rw [e2,e1,if_neg (λz=>z c)]
    exact ih st (λS hS=>hx S (Kab _ hS)) hst
   ·have e2:u9 (st.map λS=>bZ (F+M) (aA S)) (bZ (F+M) (aA x))=(st++[cM x]).map λS=>bZ (F+M) (aA S):=by
     unfold u9
     rw [if_pos (λz=>c (iff.mp z)),lt_eq,Kaz,Kai,Kb4,rl]
    rw [e2,e1,if_pos c]
    refine ih _ (λS hS=>hx S (Kab _ hS)) λL hL=>?_
    rcases Kam.mp hL with z|z
    ·exact hst L z
    ·exact⟨x,mx,(Kae.mp z).symm⟩
 have:=key sets [] (λ_ z=>z) (λL hL=>by cases hL)
 unfold lu b8
 simp only [lt_eq]
 exact this
end
theorem gza {F M:Nat}(m0:0<M){U:List DS}(rep:∀S∈U,b9 F M (aA S) S):∀d:Int,0<=d->∃e:Int,0<=e/\e<=d/\e<(F+M:Nat)/\∀S∈U,ah S d=ah S e:=by
 have key:∀n:Nat,∀d:Nat,d<n->∃e:Nat,e<=d/\e<F+M/\∀S∈U,aA S d=aA S e:=by
  intro n
  induction n with
  |zero=>intro d hd;omega
  |succ n ih=>
   intro d hd
   by_cases c:d<F+M
   ·exact⟨d,Kat _,c,λ_ _=>rfl⟩
   ·obtain⟨e,e1,e2,e3⟩:=ih (d-M) (by omega)
    refine⟨e,by omega,e2,λS hS=>?_⟩
    rw [<-e3 S hS]
    have r:=rep S hS
    have y:=r.y
    have q:d=(d-M)+M:=by omega
    have:=r.per r.z (d:=d-M) (by omega)
    rwa [<-q] at this
 intro d d0
 obtain⟨e,e1,e2,e3⟩:=key (d.toNat+1) d.toNat (by omega)
 exact⟨(e:Int),by omega,by omega,by omega,λS hS=>by
  show aA S d.toNat=aA S ((e:Int).toNat)
  rw [Kay];exact e3 S hS⟩
theorem pW {F M:Nat}(m0:0<M)(hM:2*F+2*M<=90000){A:DS}{R:List DS}(rep:∀S∈A::R,b9 F M (aA S) S)(hl:(A::R).length<=1000):
  AA (aG (F+M) (A::R))/\(y9 (aG (F+M) (A::R))).Pairwise (·<·)/\(∀d,d∈y9 (aG (F+M) (A::R))↔gZ (A::R) d)/\((y9 (aG (F+M) (A::R))).map λd=>bz (A::R) ah (ah A) d).Nodup:=by
 have lr:(aG (F+M) (A::R)).length=(A::R).length:=Kag _
 have g0:aq (aG (F+M) (A::R)) (0:Int)=bZ (F+M) (aA A):=ZV _ _
 have l0:(aq (aG (F+M) (A::R)) (0:Int)).length=F+M:=by rw [g0,Py]
 have nn:aG (F+M) (A::R)≠[]:=by simp
 have Rb:∀x:Int,0<=x->x<(F+M:Nat)->(Kaf (λ(x2:List Bool)=>(decide ((aq x2 x)=(aq (aq (aG (F+M) (A::R)) (0:Int)) x)))) (aG (F+M) (A::R)))=bz (A::R) ah (ah A) x:=by
  intro x x0 x1
  rw [g0,KaL]
  refine Kax λS _=>?_
  show decide (aq (bZ (F+M) (aA S)) x=aq (bZ (F+M) (aA A)) x)=decide (ah S x=ah A x)
  rw [Ui x0 (by omega),Ui x0 (by omega)];rfl
 have dw:∀(st:List (Tb×Int)×List Int) (x:Int),0<=x->x<(F+M:Nat)->st.1.length<90000->st.2.length<90000->J3 (aG (F+M) (A::R)) st x:=by
  intro st x x0 x1 h1 h2
  unfold J3
  refine⟨λy hy=>?_,by rw [lr];omega,?_⟩
  ·obtain⟨S,_,rfl⟩:=Kas.mp hy
   have lp:0<(aG (F+M) (A::R)).length:=by rw [lr];simp
   rw [l0]
   show (-((bZ (F+M) (aA S)).length:Int)<=x/\x<((bZ (F+M) (aA S)).length:Int))/\_
   rw [Py]
   exact⟨⟨by omega,by omega⟩,⟨by omega,by omega⟩,by omega,by omega⟩
  ·rw [cS]
   intro _
   refine⟨by omega,?_⟩
   rw [cS];omega
 generalize hrw:aG (F+M) (A::R)=k_ at *
 have key:∀n:Nat,n<=F+M->∀st,st=Kaq (As k_) (([]:List (Tb×Int)),([]:List Int)) ((KaC n).map λ(k:Nat)=>(k:Int))->bH (As k_) (J3 k_) ((KaC n).map λ(k:Nat)=>(k:Int)) (([]:List (Tb×Int)),([]:List Int))/\st.1.length<=n/\st.2.length<=n/\P9 (A::R) A n (st.2.map λd=>(d,Tb.mk (bz (A::R) ah (ah A) d)))/\∀t:Tb,(aN st.1 t).isSome=true↔∃d∈st.2,Tb.mk (bz (A::R) ah (ah A) d)=t:=by
  intro n
  induction n with
  |zero=>
   intro _ st e
   subst e
   exact⟨trivial,Kat _,Kat _,⟨λw hw=>(by cases hw),KbQ.nil,(λd d0 d1=>by omega),λw hw=>(by cases hw)⟩,λt=>⟨λh=>(by cases h),λ⟨w,hw,_⟩=>by cases hw⟩⟩
  |succ n ih=>
   intro hn st e
   obtain⟨fd,k1,k2,p,q⟩:=ih (by omega) _ rfl
   rw [Kbo,Kaz,Kb2] at e
   have TN:bH (As k_) (J3 k_) ((KaC (n+1)).map λ(k:Nat)=>(k:Int)) (([]:List (Tb×Int)),([]:List Int)):=by
    rw [Kbo,Kaz]
    exact Tv fd ⟨dw _ (n:Int) (by omega) (by omega) (Kbv k1 (by omega)) (Kbv k2 (by omega)),trivial⟩
   refine⟨TN,?_⟩
   clear fd TN
   generalize Kaq (As k_) (([]:List (Tb×Int)),([]:List Int)) ((KaC n).map λ(k:Nat)=>(k:Int))=s0 at *
   have ht:=Rb (n:Int) (by omega) (by omega)
   have e:st=As k_ s0 (n:Int):=e
   have et:st=if (false∈bz (A::R) ah (ah A) (n:Int))/\(¬(KaZ (aN s0.1 (Tb.mk (bz (A::R) ah (ah A) (n:Int))))=true)) then ((Tb.mk (bz (A::R) ah (ah A) (n:Int)),(n:Int))::s0.1,s0.2++[(n:Int)]) else s0:=by
    rw [e]
    unfold As
    rw [lt_eq,ht];rfl
   have fm:false∈bz (A::R) ah (ah A) (n:Int)↔∃B∈A::R,ah B (n:Int)≠ah A (n:Int):=by
    unfold bz
    rw [Kas]
    constructor
    ·rintro⟨B,hB,z⟩;exact⟨B,hB,of_decide_eq_false z⟩
    ·rintro⟨B,hB,z⟩;exact⟨B,hB,decide_eq_false z⟩
   by_cases c:(false∈bz (A::R) ah (ah A) (n:Int))/\(¬(KaZ (aN s0.1 (Tb.mk (bz (A::R) ah (ah A) (n:Int))))=true))
   ·rw [if_pos c] at et
    subst et
    have oE:=fm.mp c.1
    have nw:∀x∈s0.2,Tb.mk (bz (A::R) ah (ah A) x)≠Tb.mk (bz (A::R) ah (ah A) (n:Int)):=λx hx z=>c.2 ((q _).mpr ⟨x,hx,z⟩)
    have mp:(s0.2++[(n:Int)]).map (λd=>(d,Tb.mk (bz (A::R) ah (ah A) d)))=s0.2.map (λd=>(d,Tb.mk (bz (A::R) ah (ah A) d)))++[((n:Int),Tb.mk (bz (A::R) ah (ah A) (n:Int)))]:=by rw [Kaz];rfl
    refine⟨by show s0.1.length+1<=_;omega,by show (s0.2++[_]).length<=_;rw [Kan,KaF];omega,?_,λt=>?_⟩
    ·show P9 (A::R) A (n+1) ((s0.2++[(n:Int)]).map λd=>(d,Tb.mk (bz (A::R) ah (ah A) d)))
     rw [mp]
     refine⟨λw hw=>?_,?_,λd d0 d1 hd=>?_,λw hw v hv ev=>?_⟩
     ·rcases Kam.mp hw with hw|hw
      ·obtain⟨a,b,d,f⟩:=p.way w hw
       exact⟨a,by omega,d,f⟩
      ·rw [Kae.mp hw]
       exact⟨by show (0:Int)<=(n:Int);omega,by show (n:Int)<((n+1:Nat):Int);omega,rfl,oE⟩
     ·rw [Kaz]
      refine Ka6.mpr ⟨p.fU,by simp,λa ha b hb=>?_⟩
      obtain⟨w,hw,rfl⟩:=Kas.mp ha
      have h1:=(p.way w hw).2.1
      have:b=(n:Int):=by simpa using hb
      rw [this];exact h1
     ·by_cases e2:d=(n:Int)
      ·rw [e2]
       exact⟨_,Kao _ (Kae.mpr rfl),rfl,Kbm _⟩
      ·obtain⟨w,hw,h2⟩:=p.all d d0 (by omega) hd
       exact⟨w,Kac _ hw,h2⟩
     ·have nw2:∀w∈s0.2.map (λd=>(d,Tb.mk (bz (A::R) ah (ah A) d))),w.2≠Tb.mk (bz (A::R) ah (ah A) (n:Int)):=λw hw=>by
       obtain⟨x,hx,rfl⟩:=Kas.mp hw
       exact nw x hx
      rcases Kam.mp hw with hw|hw
      ·rcases Kam.mp hv with hv|hv
       ·exact p.N2 w hw v hv ev
       ·rw [Kae.mp hv] at ev;exact absurd ev (nw2 w hw)
      ·rcases Kam.mp hv with hv|hv
       ·rw [Kae.mp hw] at ev;exact absurd ev.symm (nw2 v hv)
       ·rw [Kae.mp hw,Kae.mp hv]
    ·show (if Tb.mk (bz (A::R) ah (ah A) (n:Int))=t then some (n:Int) else aN s0.1 t).isSome=true↔∃d∈s0.2++[(n:Int)],_
     by_cases e2:Tb.mk (bz (A::R) ah (ah A) (n:Int))=t
     ·rw [if_pos e2]
      exact⟨λ_=>⟨_,Kao _ (Kae.mpr rfl),e2⟩,λ_=>rfl⟩
     ·rw [if_neg e2,q t]
      constructor
      ·rintro⟨w,hw,ew⟩;exact⟨w,Kac _ hw,ew⟩
      ·rintro⟨w,hw,ew⟩
       rcases Kam.mp hw with hw|hw
       ·exact⟨w,hw,ew⟩
       ·rw [Kae.mp hw] at ew;exact absurd ew e2
   ·rw [if_neg c] at et
    subst et
    refine⟨by omega,by omega,⟨λw hw=>?_,p.fU,λd d0 d1 hd=>?_,p.N2⟩,q⟩
    ·obtain⟨a,b,d,f⟩:=p.way w hw
     exact⟨a,by omega,d,f⟩
    ·by_cases e2:d=(n:Int)
     ·rw [e2] at hd ⊢
      have sm:(aN st.1 (Tb.mk (bz (A::R) ah (ah A) (n:Int)))).isSome=true:=Classical.not_not.mp λz=>c ⟨fm.mpr hd,z⟩
      obtain⟨x,hx,ew⟩:=(q _).mp sm
      have hw:(x,Tb.mk (bz (A::R) ah (ah A) x))∈st.2.map λd=>(d,Tb.mk (bz (A::R) ah (ah A) d)):=Kas.mpr ⟨x,hx,rfl⟩
      exact⟨_,hw,ew,by have:=(p.way _ hw).2.1;show x<=(n:Int);have this:x<(n:Int):=this;omega⟩
     ·exact p.all d d0 (by omega) hd
 obtain⟨fd,k1,k2,P,q⟩:=key (F+M) (Kat _) _ rfl
 have ew:y9 k_=(Kaq (As k_) (([]:List (Tb×Int)),([]:List Int)) ((KaC (F+M)).map λ(k:Nat)=>(k:Int))).2:=by
  unfold y9
  rw [lt_eq,if_pos nn,l0,vL]
 have mm:∀l:List Int,(l.map λd=>(d,Tb.mk (bz (A::R) ah (ah A) d))).map (λw=>w.1)=l:=λl=>by
  rw [KaL];exact Kdh l
 rw [ew]
 generalize Kaq (As k_) (([]:List (Tb×Int)),([]:List Int)) ((KaC (F+M)).map λ(k:Nat)=>(k:Int))=st at *
 refine⟨⟨λ_=>by rw [lr];exact⟨by omega,by simp⟩,by rw [if_pos nn,l0];exact⟨by omega,by omega⟩,?_⟩,?_,λd=>?_,?_⟩
 ·rw [if_pos nn,l0,vL];exact fd
 ·have:=P.fU
  rwa [mm] at this
 ·have:=pV (Kaa (a:=A) (l:=R)) P (gza m0 rep) (d:=d)
  rwa [mm] at this
 ·have fU:=P.fU
  rw [mm] at fU
  refine M8 (fU.imp λz=>by omega) λx hx y hy e=>?_
  have:=P.N2 (x,_) (KaA hx) (y,_) (KaA hy) (congrArg Tb.mk e)
  exact congrArg Prod.fst this
def vh (x:List Int):Int:=if x≠([]:List Int) then ((aq x (-(1:Int)))+(1:Int)) else (0:Int)
def extI (k:Nat)(x:List Int):List (List Int):=(rng (vh x) (k:Int)).map λi=>x++[i]
def ir (k:Nat):Nat->List (List Int)
 |0=>[[]]
 |j+1=>(ir k j).flatMap (extI k)
def oQ (k:Nat):Nat->List (List Int)
 |0=>[[]]
 |j+1=>oQ k j++ir k (j+1)
theorem rY (y:List Int)(a:Int):vh (y++[a])=a+1:=by
 unfold vh
 rw [if_pos (by simp)]
 have:aq (y++[a]) (-(1:Int))=a:=by
  rw [zq (by simp)]
  simp
 rw [this]
structure JJ (k j:Nat)(x:List Int):Prop where
 len:x.length=j
 fU:x.Pairwise (·<·)
 rg:∀i∈x,0<=i/\i<(k:Int)
theorem Bq {k j:Nat}{x:List Int}(h:JJ k j x):(∀i∈x,i<vh x)/\0<=vh x/\(vh x<=k):=by
 rcases Kbx x with rfl|⟨y,a,rfl⟩
 ·exact⟨λi hi=>(by cases hi),Kbm _,by show (0:Int)<=k;omega⟩
 ·rw [KbO] at h ⊢
  rw [rY]
  have hp:=Ka6.mp h.fU
  have ha:=h.rg a (Kao _ (Kae.mpr rfl))
  refine⟨λi hi=>?_,by omega,by omega⟩
  rcases Kam.mp hi with z|z
  ·have:=hp.2.2 i z a (Kae.mpr rfl)
   omega
  ·rw [Kae.mp z];omega
theorem Eu {k:Nat}:∀(j:Nat) (x:List Int),x∈ir k j->JJ k j x
 |0,x,h=>by
  rw [Kae.mp h]
  exact⟨rfl,.nil,λi hi=>by cases hi⟩
 |j+1,x,h=>by
  obtain⟨y,hy,hx⟩:=Kbu.mp h
  obtain⟨i,hi,rfl⟩:=Kas.mp hx
  have q:=Eu j y hy
  obtain⟨b1,b2,b3⟩:=Bq q
  obtain⟨i0,i1⟩:=zd.mp hi
  refine⟨by rw [Kan,KaF,q.len],Ka6.mpr ⟨q.fU,by simp,λa ha b hb=>?_⟩,λa ha=>?_⟩
  ·rw [Kae.mp hb]
   have:=b1 a ha
   omega
  ·rcases Kam.mp ha with z|z
   ·exact q.rg a z
   ·rw [Kae.mp z];exact⟨by omega,i1⟩
theorem x6 {k:Nat}:∀(j:Nat) (x:List Int),JJ k j x->x∈ir k j
 |0,x,h=>by
  rw [KcC.mp h.len];exact Kae.mpr rfl
 |j+1,x,h=>by
  rcases Kbx x with rfl|⟨y,a,rfl⟩
  ·have:=h.len;cases this
  ·rw [KbO] at h ⊢
   have hp:=Ka6.mp h.fU
   have q:JJ k j y:=⟨by have:=h.len;rw [Kan,KaF] at this;omega,hp.1,λi hi=>h.rg i (Kac _ hi)⟩
   have ha:=h.rg a (Kao _ (Kae.mpr rfl))
   refine Kbu.mpr ⟨y,x6 j y q,Kas.mpr ⟨a,zd.mpr ⟨?_,ha.2⟩,rfl⟩⟩
   rcases Kbx y with rfl|⟨z,b,rfl⟩
   ·exact ha.1
   ·rw [KbO] at hp ⊢
    rw [rY]
    have:=hp.2.2 b (Kao _ (Kae.mpr rfl)) a (Kae.mpr rfl)
    omega
theorem ud:∀{x y:List Int} (a b:Int),x.length=y.length->HT.lexLt x y=true->HT.lexLt (x++[a]) (y++[b])=true
 |[],[],_,_,_,h=>by rw [HT.lexLt_nil_nil] at h;cases h
 |c::x,d::y,a,b,hl,h=>by
  rw [HT.lexLt_cons] at h
  show HT.lexLt (c::(x++[a])) (d::(y++[b]))=true
  rw [HT.lexLt_cons]
  by_cases e:c=d
  ·rw [if_pos e] at h ⊢;exact ud a b (by simpa using hl) h
  ·rw [if_neg e] at h ⊢;exact h
theorem uc:∀(x:List Int) {a b:Int},a<b->HT.lexLt (x++[a]) (x++[b])=true
 |[],a,b,h=>by
  show HT.lexLt [a] [b]=true
  rw [HT.lexLt_cons,if_neg (by omega)];exact decide_eq_true h
 |c::x,a,b,h=>by
  show HT.lexLt (c::(x++[a])) (c::(x++[b]))=true
  rw [HT.lexLt_cons,if_pos rfl];exact uc x h
theorem hqe (lo hi:Int):(rng lo hi).Pairwise (·<·):=by
 unfold rng
 rw [KbC]
 exact KbY.imp λh=>by omega
theorem ZQ {k:Nat}:∀j,(ir k j).Pairwise λa b=>HT.lexLt a b=true
 |0=>by simp [ir]
 |j+1=>by
  show ((ir k j).flatMap (extI k)).Pairwise _
  have ih:=ZQ (k:=k) j
  have len:=λx hx=>(Eu (k:=k) j x hx).len
  generalize ir k j=l at *
  induction l with
  |nil=>exact .nil
  |cons x l ih2=>
   rw [KbA]
   rw [KaG] at ih
   refine Ka6.mpr ⟨?_,ih2 ih.2 λy hy=>len y (Kab _ hy),λa ha b hb=>?_⟩
   ·unfold extI
    rw [KbC]
    exact (hqe _ _).imp λh=>uc x h
   ·obtain⟨i,_,rfl⟩:=Kas.mp ha
    obtain⟨y,hy,hb⟩:=Kbu.mp hb
    obtain⟨i2,_,rfl⟩:=Kas.mp hb
    exact ud _ _ ((len x Kaa).trans (len y (Kab _ hy)).symm) (ih.1 y hy)
theorem zP {k:Nat}(j:Nat):(ir k j).Nodup:=(ZQ (k:=k) j).imp λ{a b} h e=>by
 rw [e,Na] at h;cases h
/-- bM parts of a list -/
def LS:List Int->List (List Int)
 |[]=>[[]]
 |a::l=>LS l++(LS l).map λx=>a::x
theorem yi:∀l:List Int,(LS l).length=2 ^ l.length
 |[]=>rfl
 |a::l=>by
  show (LS l++(LS l).map _).length=_
  rw [Kan,Kag,yi l,Kad,Nat.pow_succ];omega
theorem Ux:∀{l x:List Int},l.Pairwise (·<·)->x.Pairwise (·<·)->(∀i∈x,i∈l)->x∈LS l
 |[],x,_,_,h=>by
  cases x with
  |nil=>exact Kae.mpr rfl
  |cons b x=>cases h b Kaa
 |a::l,[],hl,_,_=>Kac _ (Ux (KaG.mp hl).2 .nil λi hi=>by cases hi)
 |a::l,b::x,hl,hx,h=>by
  rw [KaG] at hl
  have hx2:=KaG.mp hx
  by_cases e:b=a
  ·subst e
   refine Kao _ (Kas.mpr ⟨x,Ux hl.2 hx2.2 λi hi=>?_,rfl⟩)
   have:=hx2.1 i hi
   rcases Kah.mp (h i (Kab _ hi)) with z|z
   ·omega
   ·exact z
  ·refine Kac _ (Ux hl.2 hx λi hi=>?_)
   have hb:b∈l:=by
    rcases Kah.mp (h b Kaa) with z|z
    ·exact absurd z e
    ·exact z
   have h1:=hl.1 b hb
   rcases Kah.mp (h i hi) with z|z
   ·rcases Kah.mp hi with y|y
    ·rw [y];exact hb
    ·have:=hx2.1 i y
     omega
   ·exact z
theorem Qa {k:Nat}:∀(m:Nat) (x:List Int),x∈oQ k m->∃j,j<=m/\JJ k j x
 |0,x,h=>⟨0,Kat _,Eu 0 x h⟩
 |m+1,x,h=>by
  rcases Kam.mp h with z|z
  ·obtain⟨j,hj,q⟩:=Qa m x z
   exact⟨j,by omega,q⟩
  ·exact⟨m+1,Kat _,Eu _ x z⟩
theorem oR {k:Nat}:∀m,(oQ k m).Nodup
 |0=>by simp [oQ]
 |m+1=>Kal.mpr ⟨oR m,zP _,λa ha b hb e=>by
  obtain⟨j,hj,q⟩:=Qa m a ha
  have:=Eu _ b hb
  rw [<-e] at this
  have h1:=q.len
  have h2:=this.len
  omega⟩
theorem UK {k:Nat}(m:Nat)(hk:k<=16):(oQ k m).length<=65536:=by
 have:=II (ys:=LS (rng 0 (k:Int))) (oR m) λx hx=>by
  obtain⟨j,_,q⟩:=Qa m x hx
  exact Ux (hqe _ _) q.fU λi hi=>zd.mpr (q.rg i hi)
 rw [yi] at this
 have l:=rT 0 (k:Int)
 have h2:(2:Nat) ^ (rng 0 (k:Int)).length<=2 ^ 16:=KcT (by omega) (by omega)
 omega
theorem GO {k:Nat}(m:Nat)(hk:k<=16):(ir k m).length<=65536:=by
 have:=UK m hk
 cases m with
 |zero=>exact this
 |succ m=>
  have e:(oQ k (m+1)).length=(oQ k m).length+(ir k (m+1)).length:=by
   show (oQ k m++ir k (m+1)).length=_
   rw [Kan]
  omega
theorem vQ {k:Nat}{α:Type}(g:List Int->List α)(hg:∀x,(g x).length=x.length):∀m:Nat,((oQ k m).map g).filter (λy=>decide ((y.length:Int)=(m:Int)))=(ir k m).map g
 |0=>by
  show ([[]].map g).filter _=[[]].map g
  rw [Kai,Kb4,KaJ]
  ·rfl
  ·exact decide_eq_true (by rw [hg];rfl)
 |m+1=>by
  show ((oQ k m++ir k (m+1)).map g).filter _=_
  rw [Kaz,List.filter_append,KbZ.mpr,Ka1,KbT.mpr]
  ·intro y hy
   obtain⟨x,hx,rfl⟩:=Kas.mp hy
   have:=(Eu _ x hx).len
   exact decide_eq_true (by rw [hg,this])
  ·intro y hy z
   obtain⟨x,hx,rfl⟩:=Kas.mp hy
   obtain⟨j,hj,q⟩:=Qa m x hx
   have z:=of_decide_eq_true z
   rw [hg,q.len] at z
   omega
/-- bM RC of a list -/
theorem qf {W:List Int}(hk:W.length<=16)(m:Nat)(hm:m<=1000):Am W (m:Int)/\E7 W (m:Int)=(oQ W.length m).map (λx=>x.map λi=>aq W i):=by
 have two:∀(j:Nat) (xs st:List (List Int)),(∀x∈xs,JJ W.length j x)->j<=1000->st.length+(xs.flatMap (extI W.length)).length<=65536->bH (EZ W) (Mz W) xs st/\Kaq (EZ W) st xs=st++xs.flatMap (extI W.length):=by
  intro j xs
  induction xs with
  |nil=>intro st _ _ _;exact⟨trivial,(KaE _).symm⟩
  |cons x xs ih=>
   intro st hx hj hl
   have q:=hx x Kaa
   obtain⟨b1,b2,b3⟩:=Bq q
   rw [KbA,Kan] at hl
   have et:EZ W st x=st++extI W.length x:=by
    unfold EZ
    simp only [lt_eq];rfl
   have ql:=q.len
   have el:(extI W.length x).length=(rng (vh x) (W.length:Int)).length:=Kag _
   have ed:Mz W st x:=by
    unfold Mz
    refine⟨λne=>?_,?_⟩
    ·have:0<x.length:=KaH.mpr ne
     omega
    ·rw [cS]
     show ((-1000000<=vh x/\vh x<=1000000)/\_)/\(∀x3∈rng (vh x) (W.length:Int),_)/\(rng (vh x) (W.length:Int)).length<=100000/\st.length+(Kaf (λ(x3:Int)=>(x++[x3])) (rng (vh x) (W.length:Int))).length<=100000
     rw [Kag]
     refine⟨⟨⟨by omega,by omega⟩,by omega,by omega⟩,λy _=>by show x.length+1<=_;omega,by omega,by omega⟩
   obtain⟨a1,a2⟩:=ih (st++extI W.length x) (λy hy=>hx y (Kab _ hy)) hj (by rw [Kan];omega)
   rw [KaD,et,a2,KbA,KaR]
   exact⟨⟨ed,by rw [et];exact a1⟩,rfl⟩
 have one:∀m:Nat,m<=1000->bH (EW W) (MJ W) ((KaC m).map λ(k:Nat)=>(k:Int)) ([[]],[[]])/\Kaq (EW W) (([[]],[[]]):List (List Int)×List (List Int)) ((KaC m).map λ(k:Nat)=>(k:Int))=(ir W.length m,oQ W.length m):=by
  intro m
  induction m with
  |zero=>intro _;exact⟨trivial,rfl⟩
  |succ m ih=>
   intro hm
   obtain⟨i1,i2⟩:=ih (by omega)
   have l1:=GO (m+1) hk
   have l2:=UK (m+1) hk
   obtain⟨t1,t2⟩:=two m (ir W.length m) [] (Eu m) (by omega) (by show 0+(ir W.length (m+1)).length<=_;omega)
   rw [Ka1] at t2
   have et:EW W (ir W.length m,oQ W.length m) (m:Int)=(ir W.length (m+1),oQ W.length (m+1)):=by
    unfold EW
    simp only [lt_eq]
    rw [t2];rfl
   have ed:MJ W (ir W.length m,oQ W.length m) (m:Int):=by
    unfold MJ
    simp only [cS]
    refine⟨t1,?_⟩
    rw [t2]
    have e:(oQ W.length (m+1)).length=(oQ W.length m).length+(ir W.length (m+1)).length:=by
     show (oQ W.length m++ir W.length (m+1)).length=_
     rw [Kan]
    show (oQ W.length m).length+(ir W.length (m+1)).length<=100000
    omega
   rw [Kbo,Kaz,Kb2,i2]
   refine⟨Tv i1 ?_,et⟩
   rw [i2]
   exact⟨ed,trivial⟩
 obtain⟨o1,o2⟩:=one m hm
 have l2:=UK m hk
 unfold Am E7
 simp only [cS,lt_eq]
 rw [vL,o2]
 refine⟨⟨⟨by omega,by omega⟩,o1,λx hx=>?_,by show (oQ W.length m).length<=_;omega⟩,rfl⟩
 obtain⟨j,hj,q⟩:=Qa m x hx
 exact⟨λi hi=>by have:=q.rg i hi;exact⟨by omega,by omega⟩,by rw [q.len];omega⟩
theorem ua {α:Type}:∀xs:List α,¬xs.Nodup->∃zs:List α,zs.length<xs.length/\∀x∈xs,x∈zs
 |[],h=>absurd KaO h
 |x::xs,h=>by
  by_cases c:x∈xs
  ·exact⟨xs,by rw [Kad];omega,λy hy=>(Kah.mp hy).elim (λe=>e ▸ c) id⟩
  ·have hn:¬xs.Nodup:=λz=>h (KaP.mpr ⟨c,z⟩)
   obtain⟨zs,h1,h2⟩:=ua xs hn
   exact⟨x::zs,by rw [Kad,Kad];omega,λy hy=>(Kah.mp hy).elim (λe=>e ▸ Kaa) λz=>Kab _ (h2 y z)⟩
theorem Mr {xs:List (List Bool)}(hl:xs.length<=1000):(lu xs).length=xs.length↔xs.Nodup:=by
 obtain⟨_,nd,mem⟩:=Tr hl
 have le:(lu xs).length<=xs.length:=II nd λr hr=>(mem r).mp hr
 constructor
 ·intro e
  apply Classical.byContradiction
  intro q
  obtain⟨zs,h1,h2⟩:=ua xs q
  have:=II nd λr hr=>h2 r ((mem r).mp hr)
  omega
 ·intro q
  have:=II q λr hr=>(mem r).mpr hr
  omega
section
variable {U:List DS}{N:Nat}
theorem Hu {S:DS}{d:Int}(d0:0<=d)(d1:d<N):aq (bZ N (aA S)) d=ah S d:=Ui d0 d1
theorem wG (nd:U.Nodup)(eqv:∀L∈U,∀K∈U,(∀d,aA L d=aA K d)->L=K)(hl:U.length<=1000)(hN:N<=90000){c:List Int}(hc:∀d∈c,0<=d/\d<N)(hcl:c.length<=1000):
  yQ (aG N U) c/\(Iv (aG N U) c=true↔AH U c):=by
 have lr:(aG N U).length=U.length:=Kag _
 have em:Kaf (λ(x1:List Bool)=>(Kaf (λ(x2:Int)=>(aq x1 x2)) c)) (aG N U)=U.map λS=>c.map (ah S):=by
  rw [KaL]
  refine Kax λS _=>?_
  exact Kax λd hd=>Hu (hc d hd).1 (hc d hd).2
 have hl2:(U.map λS=>c.map (ah S)).length<=1000:=by rw [Kag];exact hl
 constructor
 ·unfold yQ
  rw [em,lr]
  refine⟨λr hr=>?_,by omega,(Tr hl2).1⟩
  obtain⟨S,_,rfl⟩:=Kas.mp hr
  refine⟨λd hd=>?_,by omega⟩
  have:=hc d hd
  rw [Py];omega
 ·unfold Iv
  rw [em,decide_eq_true_iff,lr]
  have:=Mr hl2
  rw [Kag] at this
  constructor
  ·intro e S hS T hT q d
   have e:(lu (U.map λS=>c.map (ah S))).length=U.length:=by omega
   have:=ZG (this.mp e) S hS T hT (Kax λd hd=>q d hd)
   rw [this]
  ·intro t
   have:(lu (U.map λS=>c.map (ah S))).length=U.length:=this.mpr (M8 nd λS hS T hT e=>eqv S hS T hT (t S hS T hT (KbD.mp e)))
   omega
end
theorem l9 {α γ:Type}{f:Unit->α->γ ⊕ Unit}{d:Unit->α->Prop}{g:α->γ}{p:α->Prop}[DecidablePred p](hf:∀x,f () x=if p x then .inl (g x) else .inr ()):∀cs:List α,(∀x∈cs,d () x) ->
  iJ f d cs ()/\((∀x∈cs,¬p x)/\forR f cs ()=.inr ()∨∃as c bs,cs=as++c::bs/\(∀x∈as,¬p x)/\p c/\forR f cs ()=.inl (g c))
 |[],_=>⟨trivial,.inl ⟨(λx hx=>by cases hx),rfl⟩⟩
 |x::cs,hd=>by
  by_cases c:p x
  ·have e:f () x=.inl (g x):=by rw [hf,if_pos c]
   refine⟨⟨hd x Kaa,by rw [e];trivial⟩,.inr ⟨[],x,cs,rfl,λy hy=>(by cases hy),c,?_⟩⟩
   unfold forR
   rw [e];rfl
  ·have e:f () x=.inr ():=by rw [hf,if_neg c]
   obtain⟨i1,i2⟩:=l9 (d:=d) hf cs λy hy=>hd y (Kab _ hy)
   have ef:forR f (x::cs) ()=forR f cs ():=by
    show lX (f () x) _ _=_
    rw [e];rfl
   refine⟨⟨hd x Kaa,by rw [e];exact i1⟩,?_⟩
   rw [ef]
   rcases i2 with⟨a,b⟩|⟨as,y,bs,rfl,a,b,e2⟩
   ·exact .inl ⟨λy hy=>(Kah.mp hy).elim (λz=>z ▸ c) (a y),b⟩
   ·exact .inr ⟨x::as,y,bs,rfl,λz hz=>(Kah.mp hz).elim (λw=>w ▸ c) (a z),b,e2⟩
theorem xZ {W:List Int}(fU:W.Pairwise (·<·)):∀{x y:List Int},x.length=y.length->(∀i∈x,0<=i/\i<(W.length:Int))->(∀i∈y,0<=i/\i<(W.length:Int))->HT.lexLt x y=true->HT.lexLt (x.map λi=>aq W i) (y.map λi=>aq W i)=true
 |[],[],_,_,_,h=>by rw [HT.lexLt_nil_nil] at h;cases h
 |a::x,b::y,hl,hx,hy,h=>by
  rw [HT.lexLt_cons] at h
  rw [Kai,Kai,HT.lexLt_cons]
  have ha:=hx a Kaa
  have hb:=hy b Kaa
  by_cases e:a=b
  ·rw [if_pos e] at h
   rw [if_pos (by rw [e])]
   exact xZ fU (by simpa using hl) (λi hi=>hx i (Kab _ hi)) (λi hi=>hy i (Kab _ hi)) h
  ·rw [if_neg e] at h
   have h:=of_decide_eq_true h
   have lt:aq W a<aq W b:=by
    obtain⟨p,rfl⟩:=KaK ha.1
    obtain⟨q,rfl⟩:=KaK hb.1
    have hp:p<W.length:=by omega
    have hq:q<W.length:=by omega
    rw [AB,AB,Kau hp,Kau hq]
    exact KbS.mp fU p q hp hq (by omega)
   rw [if_neg (by omega)]
   exact decide_eq_true lt
theorem E1 {W:List Int}(fU:W.Pairwise (·<·)){x:List Int}(hx:x.Pairwise (·<·))(rg:∀i∈x,0<=i/\i<(W.length:Int)):(x.map λi=>aq W i).Pairwise (·<·):=by
 rw [KbC]
 refine KbQ.imp_of_mem (λ{a b} ha hb h=>?_) hx
 have ha:=rg a ha
 have hb:=rg b hb
 obtain⟨p,rfl⟩:=KaK ha.1
 obtain⟨q,rfl⟩:=KaK hb.1
 have hp:p<W.length:=by omega
 have hq:q<W.length:=by omega
 rw [AB,AB,Kau hp,Kau hq]
 exact KbS.mp fU p q hp hq (by omega)
/-- an ow list of some things,by aq3 KW -/
theorem KW {W:List Int}(fU:W.Pairwise (·<·)):∀{c:List Int},c.Pairwise (·<·)->(∀d∈c,d∈W)->∃x,JJ W.length c.length x/\x.map (λi=>aq W i)=c
 |[],_,_=>⟨[],⟨rfl,.nil,λi hi=>by cases hi⟩,rfl⟩
 |d::c,hc,h=>by
  rw [KaG] at hc
  obtain⟨x,q,e⟩:=KW fU hc.2 λy hy=>h y (Kab _ hy)
  obtain⟨p,hp,ep⟩:=List.getElem_of_mem (h d Kaa)
  have gp:aq W (p:Int)=d:=by
   rw [AB,Kau hp];exact ep
  refine⟨(p:Int)::x,⟨by rw [Kad,Kad,q.len],KaG.mpr ⟨λi hi=>?_,q.fU⟩,λi hi=>?_⟩,by rw [Kai,gp,e]⟩
  ·have ri:=q.rg i hi
   have di:=hc.1 (aq W i) (by rw [<-e];exact KaA hi)
   obtain⟨j,rfl⟩:=KaK ri.1
   have hj:j<W.length:=by omega
   rw [AB,Kau hj] at di
   have di:d<W[j]:=di
   rcases Kcw p j with z|z|z
   ·omega
   ·subst z;omega
   ·have:=KbS.mp fU j p hj hp z
    omega
  ·rcases Kah.mp hi with z|z
   ·rw [z];exact⟨by omega,by omega⟩
   ·exact q.rg i z
theorem jo {U:List DS}{N:Nat}(nd:U.Nodup)(eqv:∀L∈U,∀K∈U,(∀d,aA L d=aA K d)->L=K)(hl:U.length<=1000)(hN:N<=90000){W:List Int}(eW:y9 (aG N U)=W)(dW:AA (aG N U))(fU:W.Pairwise (·<·))(wd:∀d,d∈W↔gZ U d)(wr:∀d∈W,d<(N:Int))(wl:W.length<=16)
  {D:List Int} (lk:AJ U D) (lt:D.length+1<=U.length):w7 (aG N U)/\JV (aG N U)=some D:=by
 have lr:(aG N U).length=U.length:=Kag _
 have W0:∀d∈W,0<=d/\d<(N:Int):=λd hd=>⟨((wd d).mp hd).d0,wr d hd⟩
 have cin:∀(m:Nat),∀c∈(ir W.length m).map (λx=>x.map λi=>aq W i),c.length=m/\c.Pairwise (·<·)/\∀d∈c,d∈W:=λm c hc=>by
  obtain⟨x,hx,rfl⟩:=Kas.mp hc
  have q:=Eu m x hx
  refine⟨by rw [Kag,q.len],E1 fU q.fU q.rg,λd hd=>?_⟩
  obtain⟨i,hi,rfl⟩:=Kas.mp hd
  have:=q.rg i hi
  exact yS this.1 this.2
 have one:∀m:Nat,m<=D.length->Og (aG N U) W () (m:Int)/\Ih (aG N U) W () (m:Int)=if m=D.length then .inl (some D) else .inr ():=by
  intro m hm
  have hDl:=lk.len
  obtain⟨c1,c2⟩:=qf wl m (by omega)
  have c3:KaS (λ(x2:List Int)=>decide ((x2.length:Int)=(m:Int))) (E7 W (m:Int))=(ir W.length m).map (λx=>x.map λi=>aq W i):=by
   rw [c2]
   exact vQ (λx=>x.map λi=>aq W i) (λx=>Kag _) m
  have cl:(E7 W (m:Int)).length<=100000:=by
   rw [c2,Kag]
   have:=UK (k:=W.length) m wl
   omega
  have ts:∀c∈(ir W.length m).map (λx=>x.map λi=>aq W i),yQ (aG N U) c/\(Iv (aG N U) c=true↔AH U c):=λc hc=>by
   obtain⟨q1,q2,q3⟩:=cin m c hc
   exact wG nd eqv hl hN (λd hd=>W0 d (q3 d hd)) (by omega)
  obtain⟨f1,f2⟩:=l9 (f:=Oi (aG N U)) (d:=Ry (aG N U)) (g:=λc=>some c) (p:=λc=>Iv (aG N U) c=true) (λx=>rfl) ((ir W.length m).map (λx=>x.map λi=>aq W i)) λc hc=>(ts c hc).1
  refine⟨⟨c1,cl,by rw [c3];exact f1⟩,?_⟩
  unfold Ih
  rw [c3]
  by_cases e:m=D.length
  ·rw [if_pos e]
   subst e
   obtain⟨x,q,ex⟩:=KW fU lk.srt λd hd=>(wd d).mpr (lk.day d hd)
   have mD:D∈(ir W.length D.length).map (λx=>x.map λi=>aq W i):=Kas.mpr ⟨x,x6 _ x q,ex⟩
   have tD:Iv (aG N U) D=true:=((ts D mD).2).mpr lk.EL
   rcases f2 with⟨z,_⟩|⟨as,c,bs,ec,z1,z2,z3⟩
   ·exact absurd tD (z D mD)
   ·rw [z3]
    have mc:c∈(ir W.length D.length).map (λx=>x.map λi=>aq W i):=by rw [ec];exact Kao _ Kaa
    obtain⟨q1,q2,q3⟩:=cin D.length c mc
    have lf:=lk.fst c (Zb q2) (λd hd=>(wd d).mp (q3 d hd)) (((ts c mc).2).mp z2) q1
    have pw:((ir W.length D.length).map (λx=>x.map λi=>aq W i)).Pairwise λa b=>HT.lexLt a b=true:=by
     rw [KbC]
     refine KbQ.imp_of_mem (λ{a b} ha hb h=>?_) (ZQ _)
     have qa:=Eu _ a ha
     have qb:=Eu _ b hb
     exact xZ fU (qa.len.trans qb.len.symm) qa.rg qb.rg h
    rw [ec] at mD pw
    have:c=D:=by
     rcases Kam.mp mD with y|y
     ·exact absurd tD (z1 D y)
     ·rcases Kah.mp y with y|y
      ·exact y.symm
      ·have:=(KaG.mp (Ka6.mp pw).2.1).1 D y
       rw [this] at lf;cases lf
    rw [this];rfl
  ·rw [if_neg e]
   rcases f2 with⟨_,z⟩|⟨as,c,bs,ec,z1,z2,z3⟩
   ·rw [z];rfl
   ·exfalso
    have mc:c∈(ir W.length m).map (λx=>x.map λi=>aq W i):=by rw [ec];exact Kao _ Kaa
    obtain⟨q1,q2,q3⟩:=cin m c mc
    have:=lk.few c (λd hd=>(wd d).mp (q3 d hd)) (((ts c mc).2).mp z2)
    omega
 have run:∀n j:Nat,j+n=U.length->j<=D.length->iJ (Ih (aG N U) W) (Og (aG N U) W) ((List.range' j n).map λ(k:Nat)=>(k:Int)) ()/\forR (Ih (aG N U) W) ((List.range' j n).map λ(k:Nat)=>(k:Int)) ()=.inl (some D):=by
  intro n
  induction n with
  |zero=>intro j e hj;omega
  |succ n ih=>
   intro j e hj
   obtain⟨o1,o2⟩:=one j hj
   rw [List.range'_succ,Kai]
   by_cases c:j=D.length
   ·rw [if_pos c] at o2
    refine⟨⟨o1,by rw [o2];trivial⟩,?_⟩
    unfold forR
    rw [o2];rfl
   ·rw [if_neg c] at o2
    obtain⟨i1,i2⟩:=ih (j+1) (by omega) (by omega)
    refine⟨⟨o1,by rw [o2];exact i1⟩,?_⟩
    unfold forR
    rw [o2];exact i2
 obtain⟨r1,r2⟩:=run U.length 0 (by omega) (by omega)
 rw [<-List.range_eq_range'] at r1 r2
 unfold w7 JV
 simp only [cS,lt_eq]
 rw [eW,lr,vL,r2]
 exact⟨⟨dW,⟨by omega,by omega⟩,r1⟩,rfl⟩
theorem n5 {U:List DS}{N:Nat}(hl:U.length<=1000)(hN:N<=90000)(N0:0<N):yK (aG N U)/\((U.length:Int)<2->E5 (aG N U)=none)/\(¬(U.length:Int)<2->∀d:Int,d<(N:Int)->HU U d->E5 (aG N U)=some d):=by
 have lr:(aG N U).length=U.length:=Kag _
 unfold yK E5
 by_cases c:(U.length:Int)<2
 ·rw [lr,if_pos c]
  exact⟨λz=>absurd c z,λ_=>rfl,λz=>absurd c z⟩
 ·rw [lr,if_neg c]
  simp only [cS,lt_eq]
  have g0:(aq (aG N U) (0:Int)).length=N:=by
   rw [show aq (aG N U) 0=bZ N (aA (aq U 0)) from zu (λS=>bZ N (aA S)) (by omega) (by omega)]
   exact Py _ _
  have many:∀x:Int,0<=x->x<N->((Kaf (λ(x2:List Bool)=>(1:Int)) (KaS (λ(x2:List Bool)=>decide ((aq x2 x)=true)) (aG N U))).length)=(U.filter λS=>ah S x).length:=by
   intro x x0 x1
   rw [Kag,KcP,Kag]
   refine congrArg _ (List.filter_congr λS _=>?_)
   show decide (aq (bZ N (aA S)) x=true)=ah S x
   rw [Ui x0 (by omega),KbE];rfl
  have key:∀n:Nat,n<=N->bH (EV (aG N U)) (Rx (aG N U)) ((KaC n).map λ(k:Nat)=>(k:Int)) []/\Kaq (EV (aG N U)) [] ((KaC n).map λ(k:Nat)=>(k:Int))=(KaC n).map λ(k:Nat)=>aU U (k:Int):=by
   intro n
   induction n with
   |zero=>intro _;exact⟨trivial,rfl⟩
   |succ n ih=>
    intro hn
    obtain⟨i1,i2⟩:=ih (by omega)
    rw [Kbo,Kaz,Kb2,i2,Kaz]
    refine⟨Tv i1 ?_,?_⟩
    ·rw [i2]
     refine⟨⟨λr hr=>?_,by rw [lr];omega,?_⟩,trivial⟩
     ·obtain⟨S,_,rfl⟩:=Kas.mp hr
      rw [Py]
      show -((N:Nat):Int)<=(n:Int)/\(n:Int)<((N:Nat):Int)
      omega
     ·rw [cS,Kag,KbB];omega
    ·show (EV (aG N U) ((KaC n).map λ(k:Nat)=>aU U (k:Int)) (n:Int))=_
     unfold EV
     simp only [lt_eq]
     rw [many (n:Int) (by omega) (by omega),lr];rfl
  obtain⟨k1,k2⟩:=key N (Kat _)
  rw [g0,vL,k2]
  have ne:((KaC N).map λ(k:Nat)=>aU U (k:Int))≠[]:=λz=>by
   have:=congrArg Kcg z
   rw [Kag,KbB] at this
   rw [this] at N0;exact absurd N0 (Nat.lt_irrefl _)
  have mm:=gzt ne
  refine⟨λ_=>⟨⟨by omega,by omega⟩,⟨by omega,by omega⟩,k1,ne,mm⟩,λz=>absurd z c,λ_ d d1 nx=>?_⟩
  have d0:=nx.d0
  obtain⟨D,rfl⟩:=KaK d0
  have hD:D<N:=by omega
  have mv:jy ((KaC N).map λ(k:Nat)=>aU U (k:Int))=aU U (D:Int):=by
   obtain⟨e,he,ee⟩:=Kas.mp mm
   have h1:=ZP (Kas.mpr ⟨D,KbG.mpr hD,rfl⟩:aU U (D:Int)∈(KaC N).map λ(k:Nat)=>aU U (k:Int))
   have h2:=nx.le (e:Int) (by omega)
   omega
  have hm:aU U (D:Int)∈(KaC N).map λ(k:Nat)=>aU U (k:Int):=Kas.mpr ⟨D,KbG.mpr hD,rfl⟩
  rw [mv]
  have kG:=o9 hm
  have mn:=mK (xs:=(KaC N).map λ(k:Nat)=>aU U (k:Int)) (v:=aU U (D:Int))
  have il:=zE hm
  rw [Kag,KbB] at il
  generalize xA ((KaC N).map λ(k:Nat)=>aU U (k:Int)) (aU U (D:Int))=j at *
  have ej:aU U (j:Int)=aU U (D:Int):=by
   rw [KaY,KbF il] at kG
   exact Option.some.inj kG
  have:j=D:=by
   rcases Kcw j D with z|z|z
   ·have:=nx.lt (j:Int) (by omega) (by omega)
    omega
   ·exact z
   ·refine absurd ?_ (mn D z)
    rw [KaY,KbF hD];rfl
  rw [this]
section
variable {sets:List DS}{F M:Nat}(h:rm F M sets)(m0:0<M)(hM:2*F+2*M<=90000)
include h m0 hM
theorem next_eq {ns:cL}(hn:AW ns):q_ sets ns/\yK (aG (F+M) (b8 (cE sets ns)))/\rW sets ns=E5 (aG (F+M) (b8 (cE sets ns)))/\∀d,rW sets ns=some d->0<=d/\d<(F+M:Nat):=by
 have hf:rm F M (cE sets ns):=⟨λS hS=>h.r S (Uy S hS),h.b,KaB (Ka5 _ _) h.l⟩
 obtain⟨u1,nd,mem,rep,has,eqv,bnd⟩:=IL hf
 have hl:(b8 (cE sets ns)).length<=1000:=KaB bnd hf.l
 obtain⟨n1,n2,n3⟩:=pJ h hM m0 hn
 obtain⟨a1,a2,a3⟩:=n5 (U:=b8 (cE sets ns)) (N:=F+M) hl (by omega) (by omega)
 by_cases c:((b8 (cE sets ns)).length:Int)<2
 ·refine⟨n1,a1,by rw [n2 c,a2 c],λd hd=>?_⟩
  rw [n2 c] at hd;cases hd
 ·obtain⟨d,e,d1,nx⟩:=n3 c
  refine⟨n1,a1,by rw [e,a3 c d d1 nx],λx hx=>?_⟩
  rw [e] at hx
  cases hx
  exact⟨nx.d0,d1⟩
/-- what is due,and what fewest_looks tells -/
theorem Kw (ne:sets≠[])(hl:sets.length<=8)(wl:(y9 (aG (F+M) (b8 sets))).length<=16):ve (aG (F+M) sets)/\w7 (lu (aG (F+M) sets))/\JV (lu (aG (F+M) sets))=some (nJ sets):=by
 obtain⟨u1,nd,mem,rep,has,eqv,bnd⟩:=IL h
 have lk:=gxl m0 hM h hl
 have lt:=CT h ne lk
 have mH:∀S∈sets,∀d,ah (cM S) d=ah S d:=λS hS d=>has S hS d.toNat
 have mU:∀S∈b8 sets,∃T∈sets,∀d,ah T d=ah S d:=λL hL=>by
  obtain⟨S,hS,rfl⟩:=(mem L).mp hL
  exact⟨S,hS,λd=>(mH S hS d).symm⟩
 have LA:∀S∈sets,∃T∈b8 sets,∀d,ah T d=ah S d:=λS hS=>⟨cM S,(mem _).mpr ⟨S,hS,rfl⟩,mH S hS⟩
 have lkU:=lk.congr mU LA
 rw [Ul h m0 hM]
 refine⟨(Tr (by rw [Kag];exact h.l)).1,?_⟩
 generalize b8 sets=U at *
 cases U with
 |nil=>exact absurd lt (by simp)
 |cons A R=>
  have hl2:(A::R).length<=1000:=by omega
  obtain⟨w1,w2,w3,w4⟩:=pW m0 hM rep hl2
  have again:=gza m0 rep
  exact jo nd eqv hl2 (by omega) rfl w1 w2 w3 (λd hd=>by
   have f:=(w3 d).mp hd
   obtain⟨e,e0,e1,e2,e3⟩:=again d f.d0
   by_cases q:e=d
   ·rw [<-q];exact e2
   ·exact absurd (λS hS T hT=>by rw [e3 S hS,e3 T hT]) (f.fst e e0 (by omega))) wl lkU lt
end
set_option maxHeartbeats 1000000
theorem P8 (hi:Int):wI [] hi:=⟨.nil,λx hx=>by cases hx⟩
theorem gzu {d hi:Int}(h0:0<=d)(h1:d<hi):wI [d] hi:=⟨by simp,λx hx=>by rw [Kae.mp hx];exact⟨h0,h1⟩⟩
structure MG (S:DS):Prop where
 ok:lq S
 y:S.y<=6
 z:S.z<=2
theorem MG.dv {S:DS}(h:MG S):S.z.toNat∣2:=by
 have h1:=h.ok.z1
 have h2:=h.z
 have:S.z=1∨S.z=2:=by omega
 rcases this with e|e
 ·rw [e];decide
 ·rw [e];decide
theorem zS {n:Nat}{s:aa}{st:List DS}(hs:∀S∈st,MG S)(h:Sk n s)(hn:n<1000000)(hlen:st.length<=1000)(x:Int):OC (st,s) x/\(∃T,(w_ (st,s) x).1=st++[T]/\MG T)/\Sk (n+3) (w_ (st,s) x).2:=by
 unfold OC w_
 rw [eO (st,s),dO (st,s)]
 show (cu s 6/\_)/\_
 obtain⟨a1,a2,a3,a4⟩:=fC h (by omega) (m:=6) (by omega) (by omega)
 rw [eO (aE s 6),dO (aE s 6)]
 generalize aE s (6:Int)=r1 at *
 obtain⟨b1,b2,b3,b4⟩:=fC a4 (by omega) (m:=6) (by omega) (by omega)
 rw [eO (aE r1.2 6),dO (aE r1.2 6)]
 generalize aE r1.2 (6:Int)=r2 at *
 obtain⟨c1,c2,c3,c4⟩:=fC b4 (by omega) (m:=6) (by omega) (by omega)
 rw [eO (aE r2.2 6),dO (aE r2.2 6)]
 generalize aE r2.2 (6:Int)=r3 at *
 simp only [cS,lt_eq]
 have g1:MG (T4.mk [r2.1] (r2.1+(1:Int)) (1:Int) ([]:List Int)):=⟨⟨by show 0<=r2.1+1;omega,by show (1:Int)<=1;omega,gzu b2 (by show r2.1<r2.1+1;omega),P8 _⟩,by show r2.1+1<=6;omega,by show (1:Int)<=2;omega⟩
 have g2:MG (if (r1.1=(3:Int))/\(r2.1≠r3.1) then T4.mk (sortI [r2.1,r3.1]) ((max r2.1 r3.1)+(1:Int)) (1:Int) ([]:List Int) else T4.mk [r2.1] (r2.1+(1:Int)) (1:Int) ([]:List Int)):=by
  split
  ·rename_i c
   refine⟨⟨by show 0<=max r2.1 r3.1+1;omega,by show (1:Int)<=1;omega,?_,P8 _⟩,by show max r2.1 r3.1+1<=6;omega,by show (1:Int)<=2;omega⟩
   exact wW (xs:=[r2.1]) (d:=r3.1) (hi:=max r2.1 r3.1+1) (gzu b2 (by omega)) c2 (by omega) (λz=>c.2 (Kae.mp z).symm)
  ·exact g1
 have m0:=KbX r3.1 (show (2:Int)≠0 by decide)
 have m1:=KbK r3.1 (show (0:Int)<2 by decide)
 have g3:MG (if r1.1=(4:Int) then T4.mk ([]:List Int) r2.1 ((1:Int)+(r3.1 % (2:Int))) [(0:Int)] else (if (r1.1=(3:Int))/\(r2.1≠r3.1) then T4.mk (sortI [r2.1,r3.1]) ((max r2.1 r3.1)+(1:Int)) (1:Int) ([]:List Int) else T4.mk [r2.1] (r2.1+(1:Int)) (1:Int) ([]:List Int))):=by
  split
  ·exact⟨⟨b2,by show 1<=1+r3.1 % 2;omega,P8 _,gzu (by omega) (by show (0:Int)<1+r3.1 % 2;omega)⟩,by show r2.1<=6;omega,by show 1+r3.1 % 2<=2;omega⟩
  ·exact g2
 have g4:MG (if r1.1=(5:Int) then T4.mk ([]:List Int) r2.1 ((1:Int)+(r3.1 % (2:Int))) ([]:List Int) else (if r1.1=(4:Int) then T4.mk ([]:List Int) r2.1 ((1:Int)+(r3.1 % (2:Int))) [(0:Int)] else (if (r1.1=(3:Int))/\(r2.1≠r3.1) then T4.mk (sortI [r2.1,r3.1]) ((max r2.1 r3.1)+(1:Int)) (1:Int) ([]:List Int) else T4.mk [r2.1] (r2.1+(1:Int)) (1:Int) ([]:List Int)))):=by
  split
  ·exact⟨⟨b2,by show 1<=1+r3.1 % 2;omega,P8 _,P8 _⟩,by show r2.1<=6;omega,by show 1+r3.1 % 2<=2;omega⟩
  ·exact g3
 exact⟨⟨a1,b1,c1,by omega⟩,⟨_,rfl,g4⟩,c4⟩
theorem pG:∀(xs:List Int) (st:List DS) (s:aa) (n:Nat),(∀S∈st,MG S)->Sk n s->n+3*xs.length<1000000->st.length+xs.length<=1000->bH w_ OC xs (st,s)/\(∃R,(Kaq w_ (st,s) xs).1=st++R/\R.length=xs.length/\∀S∈st++R,MG S)/\Sk (n+3*xs.length) (Kaq w_ (st,s) xs).2
 |[],st,s,n,hs,h,_,_=>⟨trivial,⟨[],(KaE _).symm,rfl,by rw [KaE];exact hs⟩,h⟩
 |x::xs,st,s,n,hs,h,hn,hl=>by
  rw [Kad] at hn hl
  obtain⟨t1,⟨T,t2,t3⟩,t4⟩:=zS hs h (by omega) (by omega) x
  have e:w_ (st,s) x=(st++[T],(w_ (st,s) x).2):=Prod.ext t2 rfl
  obtain⟨q1,⟨R,q2,q3,q4⟩,q5⟩:=pG xs (st++[T]) (w_ (st,s) x).2 (n+3) (λS hS=>by
   rcases Kam.mp hS with z|z
   ·exact hs S z
   ·rw [Kae.mp z];exact t3) t4 (by omega) (by rw [Kan,KaF];omega)
  rw [KaD,Kad]
  refine⟨⟨t1,by rw [e];exact q1⟩,⟨T::R,by rw [e,q2,KaR];rfl,by rw [Kad,q3],λS hS=>q4 S (by rw [KaR];exact hS)⟩,?_⟩
  rw [e];exact q5.mono (by omega)
theorem zQ {n:Nat}{s:aa}(h:Sk n s)(hn:n<100000):yV s/\(6<=(u_ s).1.length/\(u_ s).1.length<=8/\∀S∈(u_ s).1,MG S)/\Sk (n+100) (u_ s).2:=by
 unfold yV u_
 rw [cS ([]:List DS),lt_eq ([]:List DS)]
 obtain⟨a1,a2,a3,a4⟩:=fC h (by omega) (m:=3) (by omega) (by omega)
 rw [eO (aE s 3),dO (aE s 3)]
 generalize aE s (3:Int)=r1 at *
 have la:=rT 0 (6+r1.1)
 obtain⟨q1,⟨R,q2,q3,q4⟩,q5⟩:=pG (rng 0 (6+r1.1)) [] r1.2 (n+1) (λS hS=>by cases hS) a4 (by omega) (by show 0+_<=_;omega)
 rw [dO (Kaq w_ (([]:List DS),r1.2) (rng 0 (6+r1.1)))]
 generalize Kaq w_ (([]:List DS),r1.2) (rng 0 (6+r1.1))=q at *
 rw [Ka1] at q2 q4
 refine⟨⟨a1,⟨by omega,by omega⟩,q1⟩,⟨?_,?_,λS hS=>?_⟩,q5.mono (by omega)⟩
 ·show 6<=q.1.length;rw [q2];omega
 ·show q.1.length<=8;rw [q2];omega
 ·have hS:S∈q.1:=hS
  rw [q2] at hS
  exact q4 S hS
structure FG (f l:Int)(S:DS):Prop where
 ok:lq S
 y:S.y=f
 z:S.z=l
 x:∀d∈S.x,d<4
def hzd:List (List Int):=[[(0:Int)],[(1:Int)],[(2:Int)],[(3:Int)],([]:List Int),[(0:Int),(1:Int)],[(1:Int),(2:Int)],[(2:Int),(3:Int)]]
theorem vP:∀e∈hzd,e.Pairwise (·<·)/\∀d∈e,0<=d/\d<4:=by decide +kernel
theorem sU {f l a p:Int}(f0:4<=f)(l0:3<=l)(p0:0<=p)(p1:p<=7):∀(xs:List Int) (st:List DS),(∀x∈xs,0<=x/\x<8)->(∀S∈st,FG f l S)->st.length+xs.length<=1000->bH (An f l a p) (MZ f l a p) xs st/\(Kaq (An f l a p) st xs).length=st.length+xs.length/\∀S∈Kaq (An f l a p) st xs,FG f l S
 |[],st,_,hs,_=>⟨trivial,rfl,hs⟩
 |x::xs,st,hx,hs,hl=>by
  rw [Kad] at hl
  obtain⟨x0,x1⟩:=hx x Kaa
  have em:aq hzd x∈hzd:=yS x0 (by show x<((8:Nat):Int);omega)
  obtain⟨e1,e2⟩:=vP _ em
  have r3:∀i∈rng 0 (3:Int),0<=i/\i<3:=λi hi=>zd.mp hi
  have et:∃T,An f l a p st x=st++[T]/\FG f l T:=by
   unfold An
   simp only [lt_eq]
   refine⟨_,rfl,⟨by show 0<=f;omega,by show 1<=l;omega,⟨e1,λd hd=>?_⟩,⟨?_,λd hd=>?_⟩⟩,rfl,rfl,λd hd=>(e2 d hd).2⟩
   ·have:=e2 d hd
    exact⟨this.1,by show d<f;omega⟩
   ·exact KbQ.filter (λ(x2:Int)=>decide (((a+p*x) % 8 / aq [(1:Int),(2:Int),(4:Int)] x2) % 2=1)) (hqe 0 3)
   ·have:=r3 d (Kbb.mp hd).1
    exact⟨this.1,by show d<l;omega⟩
  obtain⟨T,et,gT⟩:=et
  have ed:MZ f l a p st x:=by
   unfold MZ
   simp only [cS]
   have Zx:∀i∈rng 0 (3:Int),1<=aq [(1:Int),(2:Int),(4:Int)] i/\aq [(1:Int),(2:Int),(4:Int)] i<=4:=λi hi=>by
    have:=r3 i hi
    have m:=yS (xs:=[(1:Int),(2:Int),(4:Int)]) this.1 (by show i<((3:Nat):Int);omega)
    have all:∀v∈[(1:Int),(2:Int),(4:Int)],1<=v/\v<=4:=by decide
    exact all _ m
   have lr:=rT 0 (3:Int)
   refine⟨.inl (by omega),⟨by show -((8:Nat):Int)<=x;omega,by show x<((8:Nat):Int);omega⟩,λi hi=>?_,by omega,by omega⟩
   have h1:=r3 i hi
   have h2:=Zx i hi
   exact⟨⟨by show -((3:Nat):Int)<=i;omega,by show i<((3:Nat):Int);omega⟩,by omega,by omega⟩
  obtain⟨q1,q2,q3⟩:=sU f0 l0 p0 p1 xs (st++[T]) (λy hy=>hx y (Kab _ hy)) (λS hS=>by
   rcases Kam.mp hS with z|z
   ·exact hs S z
   ·rw [Kae.mp z];exact gT) (by rw [Kan,KaF];omega)
  rw [KaD,et]
  refine⟨⟨ed,by rw [et];exact q1⟩,?_,q3⟩
  rw [q2,Kan,KaF,Kad];omega
theorem B0 {n:Nat}{s:aa}(h:Sk n s)(hn:n<100000):yR s/\(6<=(u5 s).1.length/\(u5 s).1.length<=8/\∃f l,4<=f/\f<=60/\3<=l/\l<=4/\∀S∈(u5 s).1,FG f l S)/\Sk (n+100) (u5 s).2:=by
 unfold yR u5
 obtain⟨a1,a2,a3,a4⟩:=fC h (by omega) (m:=56) (by omega) (by omega)
 rw [eO (aE s 56),dO (aE s 56)]
 generalize aE s (56:Int)=r1 at *
 obtain⟨b1,b2,b3,b4⟩:=fC a4 (by omega) (m:=4) (by omega) (by omega)
 rw [eO (aE r1.2 4),dO (aE r1.2 4)]
 generalize aE r1.2 (4:Int)=r2 at *
 obtain⟨c1,c2,c3,c4⟩:=fC b4 (by omega) (m:=2) (by omega) (by omega)
 rw [eO (aE r2.2 2),dO (aE r2.2 2)]
 generalize aE r2.2 (2:Int)=r3 at *
 have gf:=yS (xs:=[((4:Int)+r1.1),((57:Int)+r2.1)]) c2 (by show r3.1<((2:Nat):Int);omega)
 have Zz:4<=aq [((4:Int)+r1.1),((57:Int)+r2.1)] r3.1/\aq [((4:Int)+r1.1),((57:Int)+r2.1)] r3.1<=60:=by
  simp only [Kah,KaX,or_false] at gf
  rcases gf with e|e <;> rw [e] <;> omega
 rw [cS (aq [((4:Int)+r1.1),((57:Int)+r2.1)] r3.1),lt_eq (aq [((4:Int)+r1.1),((57:Int)+r2.1)] r3.1)]
 generalize aq [((4:Int)+r1.1),((57:Int)+r2.1)] r3.1=f at *
 obtain⟨d1,d2,d3,d4⟩:=fC c4 (by omega) (m:=2) (by omega) (by omega)
 rw [eO (aE r3.2 2),dO (aE r3.2 2)]
 generalize aE r3.2 (2:Int)=r4 at *
 rw [cS ((3:Int)+r4.1),lt_eq ((3:Int)+r4.1)]
 obtain⟨e1,e2,e3,e4⟩:=fC d4 (by omega) (m:=8) (by omega) (by omega)
 rw [eO (aE r4.2 8),dO (aE r4.2 8)]
 generalize aE r4.2 (8:Int)=r5 at *
 obtain⟨g1,g2,g3,g4⟩:=fC e4 (by omega) (m:=4) (by omega) (by omega)
 rw [eO (aE r5.2 4),dO (aE r5.2 4)]
 generalize aE r5.2 (4:Int)=r6 at *
 rw [cS r5.1,lt_eq r5.1]
 have gp:=yS (xs:=[(1:Int),(3:Int),(5:Int),(7:Int)]) g2 (by show r6.1<((4:Nat):Int);omega)
 have gp2:0<=aq [(1:Int),(3:Int),(5:Int),(7:Int)] r6.1/\aq [(1:Int),(3:Int),(5:Int),(7:Int)] r6.1<=7:=by
  have all:∀v∈[(1:Int),(3:Int),(5:Int),(7:Int)],0<=v/\v<=7:=by decide
  exact all _ gp
 rw [cS (aq [(1:Int),(3:Int),(5:Int),(7:Int)] r6.1),lt_eq (aq [(1:Int),(3:Int),(5:Int),(7:Int)] r6.1)]
 generalize aq [(1:Int),(3:Int),(5:Int),(7:Int)] r6.1=p at *
 obtain⟨i1,i2,i3,i4⟩:=fC g4 (by omega) (m:=3) (by omega) (by omega)
 rw [eO (aE r6.2 3),dO (aE r6.2 3)]
 generalize aE r6.2 (3:Int)=r7 at *
 have la:=rT 0 (6+r7.1)
 obtain⟨q1,q2,q3⟩:=sU (a:=r5.1) Zz.1 (l:=3+r4.1) (by omega) gp2.1 gp2.2 (rng 0 (6+r7.1)) [] (λx hx=>by have:=zd.mp hx;omega) (λS hS=>by cases hS) (by show 0+_<=_;omega)
 rw [lt_eq (Kaq (An f (3+r4.1) r5.1 p) ([]:List DS) (rng 0 (6+r7.1)))]
 rw [Kbh,KcR] at q2
 refine⟨⟨a1,b1,c1,⟨by show -((2:Nat):Int)<=r3.1;omega,by show r3.1<((2:Nat):Int);omega⟩,d1,e1,g1,⟨by show -((4:Nat):Int)<=r6.1;omega,by show r6.1<((4:Nat):Int);omega⟩,i1,⟨by omega,by omega⟩,q1⟩,⟨?_,?_,f,3+r4.1,Zz.1,Zz.2,by omega,by omega,q3⟩,i4.mono (by omega)⟩
 ·show 6<=(Kaq (An f (3+r4.1) r5.1 p) ([]:List DS) (rng 0 (6+r7.1))).length
  omega
 ·show (Kaq (An f (3+r4.1) r5.1 p) ([]:List DS) (rng 0 (6+r7.1))).length<=8
  omega
def bls:Nat->List (List Bool)
 |0=>[[]]
 |n+1=>(bls n).map (λx=>true::x)++(bls n).map λx=>false::x
theorem xm:∀n,(bls n).length=2 ^ n
 |0=>rfl
 |n+1=>by
  show ((bls n).map _++(bls n).map _).length=_
  rw [Kan,Kag,Kag,xm n,Nat.pow_succ];omega
theorem gzz:∀x:List Bool,x∈bls x.length
 |[]=>Kae.mpr rfl
 |b::x=>by
  show b::x∈(bls x.length).map _++(bls x.length).map _
  cases b with
  |true=>exact Kac _ (KaA (gzz x))
  |false=>exact Kao _ (KaA (gzz x))
section
variable {sets:List DS}{F M:Nat}(h:rm F M sets)(m0:0<M)(hM:2*F+2*M<=90000)
include h m0 hM
theorem wH (w:sets.length<=5∨∃B:List Int,B.length<=16/\∀d,gZ sets d->d∈B)(ne:sets≠[]):(y9 (aG (F+M) (b8 sets))).length<=16:=by
 obtain⟨u1,nd,mem,rep,has,eqv,bnd⟩:=IL h
 have mH:∀S∈sets,∀d,ah (cM S) d=ah S d:=λS hS d=>has S hS d.toNat
 have mU:∀S∈b8 sets,∃T∈sets,∀d,ah T d=ah S d:=λL hL=>by
  obtain⟨S,hS,rfl⟩:=(mem L).mp hL
  exact⟨S,hS,λd=>(mH S hS d).symm⟩
 have LA:∀S∈sets,∃T∈b8 sets,∀d,ah T d=ah S d:=λS hS=>⟨cM S,(mem _).mpr ⟨S,hS,rfl⟩,mH S hS⟩
 have hl:=h.l
 have neU:b8 sets≠[]:=by
  cases sets with
  |nil=>exact absurd rfl ne
  |cons S r=>exact Kdb ((mem _).mpr ⟨S,Kaa,rfl⟩)
 generalize b8 sets=U at *
 cases U with
 |nil=>exact absurd rfl neU
 |cons A R=>
  obtain⟨w1,w2,w3,w4⟩:=pW m0 hM rep (by omega)
  rcases w with w|⟨B,hB,w⟩
  ·have:=II (ys:=(bls R.length).map λx=>true::x) w4 λt ht=>by
    obtain⟨d,_,rfl⟩:=Kas.mp ht
    have e:bz (A::R) ah (ah A) d=true::R.map λS=>decide (ah S d=ah A d):=by
     unfold bz
     rw [Kai,decide_eq_true rfl]
    rw [e]
    have m:=gzz (R.map λS=>decide (ah S d=ah A d))
    rw [Kag] at m
    exact KaA m
   rw [Kag,Kag,xm] at this
   rw [Kad] at bnd
   have h2:(2:Nat) ^ R.length<=2 ^ 4:=KcT (by omega) (by omega)
   omega
  ·have nw:(y9 (aG (F+M) (A::R))).Nodup:=w2.imp λz=>by omega
   exact KaB (II nw λd hd=>w d (((w3 d).mp hd).congr LA mU)) hB
end
structure ER (sets:List DS):Prop where
 ex:∃M,0<M/\M<=5040/\∀S∈sets,b9 72 M (aA S) S/\S.z<=31
 l1:1<=sets.length
 l8:sets.length<=8
 w:sets.length<=5∨∃B:List Int,B.length<=16/\∀d,gZ sets d->d∈B
theorem sV {F M:Nat}(m0:0<M){sets:List DS}(rep:∀S∈sets,b9 F M (aA S) S){d:Int}(f:gZ sets d):d<(F+M:Nat):=by
 obtain⟨e,e0,e1,e2,e3⟩:=gza m0 rep d f.d0
 by_cases q:e=d
 ·rw [<-q];exact e2
 ·exact absurd (λS hS T hT=>by rw [e3 S hS,e3 T hT]) (f.fst e e0 (by omega))
theorem KP {sets:List DS}(l6:6<=sets.length)(l8:sets.length<=8)(h:∀S∈sets,MG S):ER sets:=by
 refine⟨⟨2,by omega,by omega,λS hS=>⟨⟨(h S hS).ok,by have:=(h S hS).y;omega,(h S hS).dv,by omega,λ_=>rfl⟩,by have:=(h S hS).z;omega⟩⟩,by omega,l8,.inr ⟨rng 0 8,by decide,λd f=>?_⟩⟩
 have:=sV (F:=6) (M:=2) (by omega) (λS hS=>⟨(h S hS).ok,by have:=(h S hS).y;omega,(h S hS).dv,by omega,λ_=>rfl⟩) f
 exact zd.mpr ⟨f.d0,by omega⟩
theorem Pz {sets:List DS}(l6:6<=sets.length)(l8:sets.length<=8){f l:Int}(f0:4<=f)(f1:f<=60)(a0:3<=l)(a1:l<=4)(h:∀S∈sets,FG f l S):ER sets:=by
 have dv:l.toNat∣12:=by
  have:l=3∨l=4:=by omega
  rcases this with e|e
  ·rw [e];decide
  ·rw [e];decide
 refine⟨⟨12,by omega,by omega,λS hS=>⟨⟨(h S hS).ok,by have:=(h S hS).y;omega,by rw [(h S hS).z];exact dv,by omega,λ_=>rfl⟩,by have:=(h S hS).z;omega⟩⟩,by omega,l8,.inr ⟨rng 0 4++rng f (f+4),?_,λd fd=>?_⟩⟩
 ·rw [Kan,rT,rT];omega
 ·have lo:=sV (F:=f.toNat) (M:=l.toNat) (by omega) (λS hS=>⟨(h S hS).ok,by have:=(h S hS).y;omega,by rw [(h S hS).z];exact KbM _,by omega,λ_=>rfl⟩) fd
  have d0:=fd.d0
  by_cases c:d<4
  ·exact Kac _ (zd.mpr ⟨d0,c⟩)
  ·by_cases c2:f<=d
   ·exact Kao _ (zd.mpr ⟨c2,by omega⟩)
   ·exfalso
    have no:∀S∈sets,ah S d=false:=λS hS=>by
     have g:=h S hS
     show aA S d.toNat=false
     unfold aA
     have e:((d.toNat:Nat):Int)=d:=by omega
     rw [e,if_pos (by rw [g.y];omega)]
     exact decide_eq_false λz=>by have:=g.x d z;omega
    obtain⟨S,hS,T,hT,ne⟩:=fd.oE
    exact ne ((no S hS).trans (no T hT).symm)
theorem KQ {sets:List DS}(l1:1<=sets.length)(l5:sets.length<=5){M:Nat}(hM:M=5040∨M=528∨M=899)(h:∀S∈sets,DI M 8 S):ER sets:=
 ⟨⟨M,by omega,by omega,λS hS=>⟨⟨(h S hS).ok,by have:=(h S hS).y;omega,(h S hS).dv,by omega,λ_=>rfl⟩,(h S hS).z⟩⟩,l1,by omega,.inl l5⟩
theorem nI {α β:Type}(g:α->β):∀xs:List α,Ka9 (xs.map g) xs=xs.map λx=>(g x,x)
 |[]=>rfl
 |x::xs=>by rw [Kai,Kcq,nI g xs,Kai]
theorem CG (S:DS)(ns:cL):Bx S ns=AI S ns:=by
 unfold Bx
 rw [Kci,decide_eq_true_iff,Kc0,KbZ,sZ]
 constructor
 ·intro h n hn
  apply Classical.byContradiction
  intro q
  exact h n hn (decide_eq_true (by rw [hqb];exact q))
 ·intro h n hn z
  exact of_decide_eq_true z (by rw [hqb];exact h n hn)
theorem tw {α:Type}{f:Unit->α->Bool ⊕ Unit}{d:Unit->α->Prop}:∀xs:List α,(∀x∈xs,d () x/\f () x=.inr ())->iJ f d xs ()/\forR f xs ()=.inr ()
 |[],_=>⟨trivial,rfl⟩
 |x::xs,h=>by
  obtain⟨h1,h2⟩:=h x Kaa
  obtain⟨i1,i2⟩:=tw xs λy hy=>h y (Kab _ hy)
  refine⟨⟨h1,by rw [h2];exact i1⟩,?_⟩
  unfold forR
  rw [h2];exact i2
theorem uM {sets:List DS}(h:∀S∈sets,lq S/\S.y<=72/\S.z<=31)(h8:sets.length<=8):oA (enc sets)=true:=by
 have n1:Nd 3 (8*(((72+31)*63+150)+2)+3) (enc sets):=Nd.map (λS hS=>Mg (h S hS).1 (by have:=h S hS;omega) (by have:=h S hS;omega) (by omega) (by omega)) h8
 exact n1.repr (by omega) (by omega)
theorem sJ {D:List Int}(h:∀d∈D,0<=d/\d<=10 ^ 59)(hl:D.length<=64):oA (enc D)=true:=by
 have n1:Nd 1 (64*63+3) (enc D):=Nd.ints (λx hx=>by have:=h x hx;omega) hl
 exact n1.repr (by omega) (by omega)
theorem Kv {s:aa}{n:Nat}(h:Sk n s)(hn:n<1000){way:Int}(w0:0<=way)(w1:way<4):
  ((way<(2:Int))->(yX s (5:Int) true))/\(¬(way<(2:Int))->(yV s/\(aW (u_ s) λa3 s3=>yR s3/\(aW (u5 s3) λa4 s4=>(-([a3,a4].length:Int)<=(way-(2:Int))/\(way-(2:Int))<([a3,a4].length:Int)))))) /\
  ∃sets s',(if way<(2:Int) then (a_ (Aw s (5:Int) true) λa2 s2=>(a2,s2)) else (a_ (u_ s) λa3 s3=>(a_ (u5 s3) λa4 s4=>((aq [a3,a4] (way-(2:Int))),s4))))=(sets,s')/\ER sets/\Sk 10000 s':=by
 by_cases c:way<2
 ·obtain⟨a1,⟨a2,a3,M,hM,a4⟩,a5⟩:=Ac h (by omega)
  rw [if_pos c,dO (Aw s 5 true)]
  exact⟨λ_=>a1,λz=>absurd c z,_,_,rfl,KQ a3 a2 hM a4,a5.mono (by omega)⟩
 ·obtain⟨a1,⟨a2,a3,a4⟩,a5⟩:=zQ h (by omega)
  rw [if_neg c,dO (u_ s),eO (u_ s)]
  generalize u_ s=r1 at *
  obtain⟨b1,⟨b2,b3,f,l,f0,f1,l0,l1,b4⟩,b5⟩:=B0 a5 (by omega)
  rw [dO (u5 r1.2),eO (u5 r1.2)]
  generalize u5 r1.2=r2 at *
  refine⟨λz=>absurd z c,λ_=>⟨a1,b1,by show -((2:Nat):Int)<=_;omega,by show _<((2:Nat):Int);omega⟩,_,_,rfl,?_,b5.mono (by omega)⟩
  have m:=yS (xs:=[r1.1,r2.1]) (i:=way-2) (by omega) (by show way-2<((2:Nat):Int);omega)
  simp only [Kah,KaX,or_false] at m
  rcases m with e|e
  ·rw [e];exact KP a2 a3 a4
  ·rw [e];exact Pz b2 b3 f0 f1 l0 l1 b4
theorem CI {s:aa}(hs:Sk 0 s):gM s/\∃s',yt s=(.inr (),s'):=by
 unfold gM yt
 obtain⟨p1,p2,p3,p4⟩:=fC hs (by omega) (m:=4) (by omega) (by omega)
 rw [eO (aE s 4),dO (aE s 4)]
 generalize aE s (4:Int)=r0 at *
 rw [cS r0.1,lt_eq r0.1]
 obtain⟨w1,w2,sets,s5,e5,G,k5⟩:=Kv p4 (by omega) p2 p3
 rw [e5]
 rw [eO (sets,s5),dO (sets,s5)]
 dsimp only
 rw [cS sets,lt_eq sets]
 obtain⟨M',m0',hM',rp⟩:=G.ex
 have l1:=G.l1
 have l8:=G.l8
 have ne:sets≠[]:=λz=>by rw [z] at l1;exact absurd l1 (by decide)
 obtain⟨_,ro⟩:=nj (M:=M') m0' (by omega) λS hS=>(rp S hS).1
 obtain⟨q1,q2⟩:=uJ (M:=M') m0' hM' (λS hS=>(rp S hS).1) (by omega:sets.length<=1000)
 have s0:=ro.s0
 have s1:=ro.s1
 have lo1:=ro.l1
 have lM:=KaM m0' ro.dv
 have hS:rm (rS sets).1.toNat (rS sets).2.toNat sets:=⟨λS hm=>⟨(rp S hm).1.ok,by have:=(ro.r S hm).1;omega,(ro.r S hm).2,by omega,λ_=>rfl⟩,by omega,by omega⟩
 have eN:((rS sets).1+(rS sets).2).toNat=(rS sets).1.toNat+(rS sets).2.toNat:=by omega
 rw [eN] at q2
 generalize (rS sets).1.toNat=F at *
 generalize hMM:(rS sets).2.toNat=M at *
 have m0:0<M:=by omega
 have hM:2*F+2*M<=90000:=by omega
 rw [q2,cS (aG (F+M) sets),lt_eq (aG (F+M) sets)]
 have rs:oA (enc sets)=true:=uM (λS hS=>⟨(rp S hS).1.ok,(rp S hS).1.y,(rp S hS).2⟩) l8
 rw [cS (rep sets),lt_eq (rep sets)]
 have wl:=wH hS m0 hM G.w ne
 obtain⟨u1,u2,u3⟩:=Kw hS m0 hM ne l8 wl
 rw [u3,cS (some (nJ sets)),lt_eq (some (nJ sets))]
 obtain⟨f1,lkD⟩:=ZL m0 hM hS l8
 obtain⟨v1,v2⟩:=FN m0 hM hS l8
 rw [v2,cS (nJ sets),lt_eq (nJ sets)]
 generalize nJ sets=D at *
 have rD:oA (enc D)=true:=sJ (λd hd=>by have:=lkD.rg d hd;omega) lkD.len
 have c1:¬((¬(true=true))∨((rep D)≠(rep (some D)))):=λz=>z.elim (λy=>y rfl) (λy=>y rfl)
 rw [if_neg c1]
 rw [cS (D++[(0:Int)]),lt_eq (D++[(0:Int)])]
 rw [if_neg (show ¬((some D)≠(some D)) fromλz=>z rfl)]
 obtain⟨x1,x2,x3,x4⟩:=fC k5 (by omega) (m:=(sets.length:Int)) (by omega) (by omega)
 rw [eO (aE s5 (sets.length:Int)),dO (aE s5 (sets.length:Int))]
 generalize aE s5 (sets.length:Int)=r6 at *
 have hT:=yS x2 x3
 obtain⟨y1,y2,y3,y4⟩:=fC x4 (by omega) (m:=3) (by omega) (by omega)
 rw [eO (aE r6.2 3),dO (aE r6.2 3)]
 generalize aE r6.2 (3:Int)=r7 at *
 rw [cS (aq sets r6.1),lt_eq (aq sets r6.1)]
 generalize aq sets r6.1=T at *
 have go:=yS (xs:=[(0:Int),(0:Int),(4:Int)]) y2 (by show r7.1<((3:Nat):Int);omega)
 have go2:aq [(0:Int),(0:Int),(4:Int)] r7.1<=4:=by
  have all:∀v∈[(0:Int),(0:Int),(4:Int)],v<=4:=by decide
  exact all _ go
 rw [cS (aq [(0:Int),(0:Int),(4:Int)] r7.1),lt_eq (aq [(0:Int),(0:Int),(4:Int)] r7.1)]
 generalize aq [(0:Int),(0:Int),(4:Int)] r7.1=odd at *
 obtain⟨z1,z2,z3,z4⟩:=fC y4 (by omega) (m:=4) (by omega) (by omega)
 rw [eO (aE r7.2 4),dO (aE r7.2 4)]
 generalize aE r7.2 (4:Int)=r8 at *
 obtain⟨t1,t2,t3,t4⟩:=fC z4 (by omega) (m:=6) (by omega) (by omega)
 rw [eO (aE r8.2 6),dO (aE r8.2 6)]
 generalize aE r8.2 (6:Int)=r9 at *
 have b01:0<=b2i (decide (r9.1=(5:Int)))/\b2i (decide (r9.1=(5:Int)))<2:=by
  cases decide (r9.1=(5:Int)) <;> decide
 have gm:=yS (xs:=[r8.1,(20:Int)]) b01.1 (by show _<((2:Nat):Int);omega)
 have gm2:0<=aq [r8.1,(20:Int)] (b2i (decide (r9.1=(5:Int))))/\aq [r8.1,(20:Int)] (b2i (decide (r9.1=(5:Int))))<=20:=by
  simp only [Kah,KaX,or_false] at gm
  rcases gm with e|e <;> rw [e] <;> omega
 rw [cS (aq [r8.1,(20:Int)] (b2i (decide (r9.1=(5:Int))))),lt_eq (aq [r8.1,(20:Int)] (b2i (decide (r9.1=(5:Int)))))]
 generalize aqG:aq [r8.1,(20:Int)] (b2i (decide (r9.1=(5:Int))))=many at *
 obtain⟨o1,⟨o2,o3,o4⟩,o5⟩:=uo (rp T hT).1.ok (odd:=odd) (by omega) (many:=many) gm2.2 gm2.1 t4 (by omega)
 rw [eO (yN r9.2 T many odd),dO (yN r9.2 T many odd)]
 generalize yN r9.2 T many odd=r10 at *
 rw [cS r10.1,lt_eq r10.1]
 have lr:(aG (F+M) sets).length=sets.length:=Kag _
 have ez:Ka9 (aG (F+M) sets) sets=sets.map λS=>(bZ (F+M) (aA S),S):=nI _ _
 have ef:Kaf (λ(x2:(List Bool)×(aX))=>x2.1) (KaS (λ(x2:(List Bool)×(aX))=>decide ((Bx x2.2 r10.1)=true)) (Ka9 (aG (F+M) sets) sets))=aG (F+M) (cE sets r10.1):=by
  rw [ez,KcP,KaL]
  have e:((λ(x2:(List Bool)×(aX))=>decide ((Bx x2.2 r10.1)=true)) ∘ λS:DS=>(bZ (F+M) (aA S),S))=λS=>AI S r10.1:=by
   funext S
   show decide (Bx S r10.1=true)=_
   rw [CG,KbE]
  rw [e];rfl
 have hf:rm F M (cE sets r10.1):=⟨λS hm=>hS.r S (Uy S hm),hS.b,KaB (Ka5 _ _) hS.l⟩
 have n0:AW ([]:cL):=⟨λn hn=>(by cases hn),⟨λ_=>true,λn hn=>(by cases hn)⟩,KaV _⟩
 have fl0:cE sets []=sets:=KbT.mpr λS _=>(sZ S []).mpr λn hn=>by cases hn
 rw [ef,Ul hf m0 hM,Ul hS m0 hM]
 rw [cS (aG (F+M) (b8 (cE sets r10.1))),lt_eq (aG (F+M) (b8 (cE sets r10.1)))]
 have one:∀ns:cL,AW ns->eqs sets () (aG (F+M) (b8 (cE sets ns)),ns)/\IS sets () (aG (F+M) (b8 (cE sets ns)),ns)=.inr ():=λns hn=>by
  obtain⟨a1,a2,a3,a4⟩:=next_eq hS m0 hM hn
  have ro:oA (enc (rW sets ns))=true:=Dk λv hv=>by have:=a4 v hv;omega
  unfold eqs IS
  dsimp only
  rw [cS (rW sets ns),lt_eq (rW sets ns),<-a3]
  refine⟨⟨a1,ro,a2,ro,λ_=>a1⟩,?_⟩
  rw [if_neg (λz=>z.elim (λy=>y rfl) (λy=>y rfl))]
 obtain⟨l1',l2'⟩:=tw (f:=IS sets) (d:=eqs sets) [(aG (F+M) (b8 sets),([]:List (Int×Bool))),(aG (F+M) (b8 (cE sets r10.1)),r10.1)] λx hx=>by
  simp only [Kah,KaX,or_false] at hx
  rcases hx with rfl|rfl
  ·have:=one [] n0
   rwa [fl0] at this
  ·exact one r10.1 o2
 rw [l2']
 have u2':w7 (aG (F+M) (b8 sets)):=by rw [<-Ul hS m0 hM];exact u2
 refine⟨⟨p1,w1,w2,q1,rs,u1,u2',f1,λ_=>⟨rD,rD⟩,λ_=>⟨by have:=lkD.len;omega,v1,λ_=>⟨x1,y1,⟨by omega,x3⟩,⟨by show -((3:Nat):Int)<=r7.1;omega,by show r7.1<((3:Nat):Int);omega⟩,z1,t1,⟨by show -((2:Nat):Int)<=_;omega,by show _<((2:Nat):Int);omega⟩,o1,λx hx=>?_,?_,?_,u1,l1',λ_ _=>rs⟩⟩⟩,r10.2,?_⟩
 ·rw [ez] at hx
  obtain⟨S,hm,rfl⟩:=Kas.mp hx
  exact⟨λn _=>Pb (rp S hm).1.ok n.1,by have:=o2.l;omega⟩
 ·rw [Kcj];omega
 ·exact (Tr (by show (Kaf _ _).length<=_;rw [Kag];exact hf.l)).1
 ·show (if (rep sets)≠(rep sets) then _ else _)=_
  rw [if_neg (λz=>z rfl)]
theorem BN:BG/\D5=true:=by
 have h:rm 1 1 ([]:List DS):=⟨λS hS=>(by cases hS),by omega,KaV _⟩
 have n0:AW ([]:cL):=⟨λn hn=>(by cases hn),⟨λ_=>true,λn hn=>(by cases hn)⟩,KaV _⟩
 obtain⟨f1,lk⟩:=ZL (by omega) (by omega) h (KaV _)
 obtain⟨a1,a2,_⟩:=pJ h (by omega) (by omega) n0
 have e1:nJ ([]:List DS)=[]:=by
  unfold nJ
  rw [if_pos]
  show (((b8 []).length:Nat):Int)<2
  have:=ZY []
  rw [Kbh] at this
  omega
 have e2:rW ([]:List DS) ([]:cL)=none:=a2 (by
  have:=ZY (cE [] [])
  have h0:(cE ([]:List DS) []).length=0:=rfl
  omega)
 exact⟨⟨f1,λ_=>a1⟩,decide_eq_true ⟨e1,e2⟩⟩
end Pu
set_option maxHeartbeats 1000000
namespace Pu
open PySem L2 Enc
local macro_rules | `(tactic| walk_at "ev") => `(tactic| simp only [hxb, hjj, Cz, E9, Dc, UG, IT, hxi, CV, Pq, JU, Mj, LC, FL, LB, LQ, QD, QA, PU, PD, C4, O9, QF, Ll, G0, Qs, LN, Di, DZ, DY, Ly, Kd, Fo, LY, Lh, JS, GQ, GS, D7, Ml, GR, GU, JX, JY, Ae, zN, zf, hqc, LP, G1, Ef, UU, hjd, hjh, yu, P_, Hr, uG, DK, xq, rZ, tU, mL, mO, xV, tT, Ce, Cg, zw, Gf, Ge, Cf, xX, J2, hxd, yT, nB, UD, xY, CB, pI, BJ, sL, Hi, LH, Kz, DJ, o_, hxc, BC, tR, CJ, BI, Dq, DQ, wY, GY, C5, Jc, HA, DP, DM, DN, xy, DH, Hj, FY, Mf, uL, wX, Dl, yh, G9, Dm, Ds, Dt, GW, xw, Bh, gzc, zj, BD, KN, P0, pX, Z4, yj, QL, Jq, DA, z9, Hy, Kad, Kbh, Kak, KcE, Ka1, List.getElem?_cons_zero, Kbl, Kco, Kcp, Kaj, Option.map_some, Option.bind_none, bq, Kai, Kb4, Ka3, List.all_nil, aM, fM, Bool.or_true, Bool.or_false, Kc6, Bool.and_false, Kc5, Bool.true_or, Kc4, Bool.false_and, Ez, fN, FD, BU, xR, Vk, HD, Va, GJ, Fl, xQ, mX, Y_, uN, nu, Bool.false_eq_true, if_true, if_false, HF, sw3, Nat.reduceAdd, Nat.reduceLeDiff, Nat.reduceEqDiff, KcR, reduceIte, Int.reduceNeg, Int.reduceToNat, Nat.reduceSub, Nat.reduceMul, decide_true, decide_false, Bool.not_true, Bool.not_false])
def wD (ns:List Int)(r:Int):aa:=(max 0 ((if sC ns r<0 then -sC ns r else sC ns r)-1000000000000000000),(sC ns r*69143+r*7368787+4099) % 1000000000000000000000000000000000067,0)
theorem HB (ns:List Int)(r:Int):Sk 0 (wD ns r):=⟨by show 0<=max 0 _;omega,KbX _ (by decide),Int.lt_of_lt_of_le (KbK _ (by decide)) (by decide),Kbm _,Kbm _⟩
theorem Hz (ns:List Int)(r:Int)(x0:Slot)(_:0<=r)(_:r<=1000):wJ.SW.ev [x0,.dat (.int r),.dat (.int (sC ns r))] (0,0,0)=some (.ret (.list [.int (wD ns r).1,.int (wD ns r).2.1,.int (wD ns r).2.2],true) (0,0,0)):=by
 have m1:j_ (sC ns r) 69143=true:=by unfold j_;simp
 have m2:j_ r 7368787=true:=by unfold j_;simp
 unfold wJ.SW wD
 walk_at "ev"
 rw [show gb 10 18=true by decide +kernel]
 walk_at "ev"
 rw [m1]
 walk_at "ev"
 rw [m2]
 walk_at "ev"
 rw [show gb 10 36=true by decide +kernel]
 walk_at "ev"
 simp only [Int.reduceToNat,Int.reducePow,Int.reduceAdd,Int.reduceLT]
 walk_at "ev"
theorem Lv (ns:List Int)(r:Int)(x0 x1:Slot)(r0:0<=r)(r1:r<=1000):∃ρ' s',xg.ev (x0::x1::.bf::Kak 16 .emp) (wD ns r)=some (.nx (x0::ρ') s')/\ρ'.length=2+16:=by
 obtain⟨h1,s',h2⟩:=CI (HB ns r)
 obtain⟨o,e,q⟩:=Lr (wD ns r) x0 x1 h1
 rw [h2] at q
 have q:o=.nx (x0::x1::.bf::Kak 16 .emp) s':=q
 exact⟨x1::.bf::Kak 16 .emp,s',by rw [<-q];exact e,by simp⟩
theorem Ky (x0:Slot):∃fl s',sQ.ev (x0::Kak (2+16) .emp) (0,0,0)=some ((.bool true,fl),s'):=by
 obtain⟨h1,h2⟩:=BN
 obtain⟨w',e,_⟩:=Lq x0 (0,0,0) h1
 rw [h2] at e
 exact⟨w',_,e⟩
end Pu
set_option maxHeartbeats 0
namespace wJ
open PySem PySem.Spec PyProof.Rows L2 Pu
theorem mkT {K:PySem.W.Frag}{h:Heap}{mg:Str->Option Value}(X:K.In h)(G:h.Ns mainGlobals mg)(c:He.SaysD fa fn K):Nonempty (Tp K mg):=by
 obtain⟨fd0,F0⟩:=c.def_ 0 (d:=yL) rfl
 obtain⟨fd1,F1⟩:=c.def_ 1 (d:=BF) rfl
 obtain⟨TN,F2⟩:=c.def_ 2 (d:=xn) rfl
 obtain⟨fd3,F3⟩:=c.def_ 3 (d:=A9) rfl
 obtain⟨fd4,F4⟩:=c.def_ 4 (d:=yO) rfl
 obtain⟨fd5,F5⟩:=c.def_ 5 (d:=Bb) rfl
 obtain⟨fd6,F6⟩:=c.def_ 6 (d:=Av) rfl
 obtain⟨fd7,F7⟩:=c.def_ 7 (d:=Ak) rfl
 obtain⟨fd8,F8⟩:=c.def_ 8 (d:=Bk) rfl
 obtain⟨fd9,F9⟩:=c.def_ 9 (d:=yZ) rfl
 obtain⟨XU,F10⟩:=c.def_ 10 (d:=Bs) rfl
 obtain⟨XW,F11⟩:=c.def_ 11 (d:=Ba) rfl
 obtain⟨XX,F12⟩:=c.def_ 12 (d:=xo) rfl
 obtain⟨XY,F13⟩:=c.def_ 13 (d:=Ax) rfl
 obtain⟨XZ,F14⟩:=c.def_ 14 (d:=Bt) rfl
 obtain⟨X0,F15⟩:=c.def_ 15 (d:=yU) rfl
 obtain⟨X3,F16⟩:=c.def_ 16 (d:=Bl) rfl
 obtain⟨X4,F17⟩:=c.def_ 17 (d:=Au) rfl
 obtain⟨X5,F18⟩:=c.def_ 18 (d:=BZ) rfl
 obtain⟨X6,F19⟩:=c.def_ 19 (d:=Bv) rfl
 obtain⟨X7,F20⟩:=c.def_ 20 (d:=Bm) rfl
 obtain⟨X8,F21⟩:=c.def_ 21 (d:=vg) rfl
 obtain⟨X9,F22⟩:=c.def_ 22 (d:=Aq) rfl
 obtain⟨X_,F23⟩:=c.def_ 23 (d:=yW) rfl
 obtain⟨Yb,F24⟩:=c.def_ 24 (d:=Ft) rfl
 obtain⟨Yc,F25⟩:=c.def_ 25 (d:=yI) rfl
 obtain⟨Yd,F26⟩:=c.def_ 26 (d:=wR) rfl
 obtain⟨Ye,F27⟩:=c.def_ 27 (d:=Io) rfl
 obtain⟨Yg,F28⟩:=c.def_ 28 (d:=q_) rfl
 obtain⟨Yh,F29⟩:=c.def_ 29 (d:=Kf) rfl
 obtain⟨Yi,F30⟩:=c.def_ 30 (d:=cu) rfl
 obtain⟨Yj,F31⟩:=c.def_ 31 (d:=Aj) rfl
 obtain⟨Yk,F32⟩:=c.def_ 32 (d:=yY) rfl
 obtain⟨Ym,F33⟩:=c.def_ 33 (d:=vc) rfl
 obtain⟨Yn,F34⟩:=c.def_ 34 (d:=yP) rfl
 obtain⟨Yo,F35⟩:=c.def_ 35 (d:=yX) rfl
 obtain⟨Yp,F36⟩:=c.def_ 36 (d:=yV) rfl
 obtain⟨Yq,F37⟩:=c.def_ 37 (d:=yR) rfl
 obtain⟨Yr,F38⟩:=c.def_ 38 (d:=Ao) rfl
 obtain⟨Ys,F39⟩:=c.def_ 39 (d:=Ep) rfl
 obtain⟨Yt,F40⟩:=c.def_ 40 (d:=Bw) rfl
 obtain⟨Yu,F41⟩:=c.def_ 41 (d:=Az) rfl
 obtain⟨Yv,F42⟩:=c.def_ 42 (d:=ve) rfl
 obtain⟨Yw,F43⟩:=c.def_ 43 (d:=AA) rfl
 obtain⟨Yx,F44⟩:=c.def_ 44 (d:=Am) rfl
 obtain⟨Yy,F45⟩:=c.def_ 45 (d:=yQ) rfl
 obtain⟨Yz,F46⟩:=c.def_ 46 (d:=w7) rfl
 obtain⟨YA,F47⟩:=c.def_ 47 (d:=yK) rfl
 obtain⟨YB,F48⟩:=c.def_ 48 (d:=gM) rfl
 exact⟨⟨_,fd0,F0,He.glo_ok X G (c.fact 0 (f:=.glo "always_rises") rfl),_,fd1,F1,He.glo_ok X G (c.fact 1 (f:=.glo "is_set") rfl),_,TN,F2,He.glo_ok X G (c.fact 2 (f:=.glo "need_set") rfl),_,fd3,F3,He.glo_ok X G (c.fact 3 (f:=.glo "common_divisor") rfl),_,fd4,F4,He.glo_ok X G (c.fact 4 (f:=.glo "common_multiple") rfl),_,fd5,F5,He.glo_ok X G (c.fact 5 (f:=.glo "prime_parts") rfl),_,fd6,F6,He.glo_ok X G (c.fact 6 (f:=.glo "first_numbers") rfl),_,fd7,F7,He.glo_ok X G (c.fact 7 (f:=.glo "comes_again") rfl),_,fd8,F8,He.glo_ok X G (c.fact 8 (f:=.glo "least_length") rfl),_,fd9,F9,He.glo_ok X G (c.fact 9 (f:=.glo "least_way") rfl),_,XU,F10,He.glo_ok X G (c.fact 10 (f:=.glo "least_row") rfl),_,XW,F11,He.glo_ok X G (c.fact 11 (f:=.glo "first_of_row") rfl),_,XX,F12,He.glo_ok X G (c.fact 12 (f:=.glo "set_row") rfl),_,XY,F13,He.glo_ok X G (c.fact 13 (f:=.glo "set_from") rfl),_,XZ,F14,He.glo_ok X G (c.fact 14 (f:=.glo "has_day") rfl),_,X0,F15,He.glo_ok X G (c.fact 15 (f:=.glo "least_set") rfl),_,X3,F16,He.glo_ok X G (c.fact 16 (f:=.glo "check_notes") rfl),_,X4,F17,He.glo_ok X G (c.fact 17 (f:=.glo "check_sets") rfl),_,X5,F18,He.glo_ok X G (c.fact 18 (f:=.glo "fits") rfl),_,X6,F19,He.glo_ok X G (c.fact 19 (f:=.glo "fitting") rfl),_,X7,F20,He.glo_ok X G (c.fact 20 (f:=.glo "fitting_sets") rfl),_,X8,F21,He.glo_ok X G (c.fact 21 (f:=.glo "unlike_of") rfl),_,X9,F22,He.glo_ok X G (c.fact 22 (f:=.glo "days_that_tell") rfl),_,X_,F23,He.glo_ok X G (c.fact 23 (f:=.glo "partings") rfl),_,Yb,F24,He.glo_ok X G (c.fact 24 (f:=.glo "parted") rfl),_,Yc,F25,He.glo_ok X G (c.fact 25 (f:=.glo "with_one_more") rfl),_,Yd,F26,He.glo_ok X G (c.fact 26 (f:=.glo "fewest_looks") rfl),_,Ye,F27,He.glo_ok X G (c.fact 27 (f:=.glo "left_at_worst") rfl),_,Yg,F28,He.glo_ok X G (c.fact 28 (f:=.glo "next_look") rfl),_,Yh,F29,He.glo_ok X G (c.fact 29 (f:=.glo "_law_di_sack") rfl),_,Yi,F30,He.glo_ok X G (c.fact 30 (f:=.glo "_law_di_pick") rfl),_,Yj,F31,He.glo_ok X G (c.fact 31 (f:=.glo "_law_di_lengths") rfl),_,Yk,F32,He.glo_ok X G (c.fact 32 (f:=.glo "_law_di_set") rfl),_,Ym,F33,He.glo_ok X G (c.fact 33 (f:=.glo "_law_di_has") rfl),_,Yn,F34,He.glo_ok X G (c.fact 34 (f:=.glo "_law_di_otherwise") rfl),_,Yo,F35,He.glo_ok X G (c.fact 35 (f:=.glo "_law_di_sets") rfl),_,Yp,F36,He.glo_ok X G (c.fact 36 (f:=.glo "_law_di_many") rfl),_,Yq,F37,He.glo_ok X G (c.fact 37 (f:=.glo "_law_di_far") rfl),_,Yr,F38,He.glo_ok X G (c.fact 38 (f:=.glo "_law_di_notes") rfl),_,Ys,F39,He.glo_ok X G (c.fact 39 (f:=.glo "_law_di_fits") rfl),_,Yt,F40,He.glo_ok X G (c.fact 40 (f:=.glo "_law_di_round") rfl),_,Yu,F41,He.glo_ok X G (c.fact 41 (f:=.glo "_law_di_rows") rfl),_,Yv,F42,He.glo_ok X G (c.fact 42 (f:=.glo "_law_di_unlike") rfl),_,Yw,F43,He.glo_ok X G (c.fact 43 (f:=.glo "_law_di_ways") rfl),_,Yx,F44,He.glo_ok X G (c.fact 44 (f:=.glo "_law_di_choices") rfl),_,Yy,F45,He.glo_ok X G (c.fact 45 (f:=.glo "_law_di_tells") rfl),_,Yz,F46,He.glo_ok X G (c.fact 46 (f:=.glo "_law_di_first_looks") rfl),_,YA,F47,He.glo_ok X G (c.fact 47 (f:=.glo "_law_di_next_day") rfl),_,YB,F48,He.glo_ok X G (c.fact 48 (f:=.glo "law") rfl),He.free_ok X G (c.fact 49 (f:=.free "zip") rfl),He.free_ok X G (c.fact 50 (f:=.free "all") rfl),He.free_ok X G (c.fact 51 (f:=.free "len") rfl),He.free_ok X G (c.fact 52 (f:=.free "max") rfl),He.free_ok X G (c.fact 53 (f:=.free "range") rfl),He.free_ok X G (c.fact 54 (f:=.free "int") rfl),He.free_ok X G (c.fact 55 (f:=.free "enumerate") rfl),He.free_ok X G (c.fact 56 (f:=.free "tuple") rfl),He.free_ok X G (c.fact 57 (f:=.free "sorted") rfl),He.free_ok X G (c.fact 58 (f:=.free "min") rfl),He.free_ok X G (c.fact 59 (f:=.free "repr") rfl),He.free_ok X G (c.fact 60 (f:=.free "list") rfl),He.free_ok X G (c.fact 61 (f:=.free "isinstance") rfl),He.free_ok X G (c.fact 62 (f:=.free "abs") rfl)⟩⟩
theorem facts {P:Program}{w:World}{K:PySem.W.Frag}{h:Heap}{mg:Str->Option Value}{f:Addr}(X:K.In h)(G:h.Ns mainGlobals mg)(hfa:mg ("law" : Str)=some (.ref f))(c:He.SaysD fa fn K)(nn:Nat):
  ∃fd:FuncData,(∀(s:Shared) (v:Value),BindsTo s fd ⟨[v],[]⟩ [("_law_script",v)])/\∀base:Heap,K.In base->base.Ns mainGlobals mg->EO P w K mg base 9 f fd ["_law_script"] (yq K nn):=by
 obtain⟨T⟩:=mkT X G c
 have e:=hfa.symm.trans T.PB
 cases e
 have b:=FunD.bindsA (ps:=["_law_script"]) T.HR λ_ _ _ _ _ _ us hl=>match us,hl with|[_],_=>rfl
 exact⟨_,λs v=>b s [v] rfl,λbase _ _=>LM T Hz (λns r x0 x1 _ r0 r1=>Lv ns r x0 x1 r0 r1) Ky⟩
end wJ
open PySem PySem.W PySem.Calls PyProof.Rows
theorem PySem.Challenge.cw_ladderdays_k47_looks_fewest_and_next_holds : PySem.Challenge.rw_ladderdays_k47_looks_fewest_and_next.Holds := by
 w_on; o_law
 refine HandSHeadRun.head_any (r := OpenLaw.row PySem.Challenge.rw_ladderdays_k47_looks_fewest_and_next) (q := view (OpenLaw.row PySem.Challenge.rw_ladderdays_k47_looks_fewest_and_next).prog [59]) (H := wJ.hk) (ob := wJ.ob) (M := 5000) (loose := [("__name__" : PySem.Str), ("copied" : PySem.Str), ("DaysError" : PySem.Str), ("InvalidSet" : PySem.Str), ("InvalidNote" : PySem.Str), ("always_rises" : PySem.Str), ("is_set" : PySem.Str), ("need_set" : PySem.Str), ("common_divisor" : PySem.Str), ("common_multiple" : PySem.Str), ("prime_parts" : PySem.Str), ("first_numbers" : PySem.Str), ("comes_again" : PySem.Str), ("least_length" : PySem.Str), ("least_way" : PySem.Str), ("least_row" : PySem.Str), ("first_of_row" : PySem.Str), ("set_row" : PySem.Str), ("set_from" : PySem.Str), ("has_day" : PySem.Str), ("least_set" : PySem.Str), ("check_notes" : PySem.Str), ("check_sets" : PySem.Str), ("fits" : PySem.Str), ("fitting" : PySem.Str), ("fitting_sets" : PySem.Str), ("unlike_of" : PySem.Str), ("days_that_tell" : PySem.Str), ("partings" : PySem.Str), ("parted" : PySem.Str), ("with_one_more" : PySem.Str), ("fewest_looks" : PySem.Str), ("left_at_worst" : PySem.Str), ("next_look" : PySem.Str), ("_law_di_sack" : PySem.Str), ("_law_di_pick" : PySem.Str), ("_law_di_lengths" : PySem.Str), ("_law_di_set" : PySem.Str), ("_law_di_has" : PySem.Str), ("_law_di_otherwise" : PySem.Str), ("_law_di_sets" : PySem.Str), ("_law_di_many" : PySem.Str), ("_law_di_far" : PySem.Str), ("_law_di_notes" : PySem.Str), ("_law_di_fits" : PySem.Str), ("_law_di_round" : PySem.Str), ("_law_di_rows" : PySem.Str), ("_law_di_unlike" : PySem.Str), ("_law_di_ways" : PySem.Str), ("_law_di_choices" : PySem.Str), ("_law_di_tells" : PySem.Str), ("_law_di_first_looks" : PySem.Str), ("_law_di_next_day" : PySem.Str)]) (d := HandSHeadRun.topDef (OpenLaw.row PySem.Challenge.rw_ladderdays_k47_looks_fewest_and_next).prog 59) (kwd := []) wJ.QI
  (by kernel_rfl) (fun s => by kernel_rfl) wJ.run (by kernel_rfl) (by kernel_rfl) (by kernel_rfl) (by rfl) (by first | assumption | decide +kernel) (by decide +kernel) ⟨rfl, rfl, rfl, rfl, rfl, by decide +kernel⟩ ?hw ?hc
 case hw => w_witness2
 case hc =>
  refine Pu.Ri (l := PySem.Challenge.rw_ladderdays_k47_looks_fewest_and_next) (n := 63) (k := 9) (x := "_law_script") rfl (by decide) (by kernel_rfl) ⟨rfl, by decide, by decide⟩ ?F
  intro w mg fa h Y G aqH
  obtain ⟨K, KX, c⟩ := Y
  have hmg : mg ("law" : PySem.Str) = some (.ref fa) := by
   have e : (HandSHeadRun.topDef (OpenLaw.row PySem.Challenge.rw_ladderdays_k47_looks_fewest_and_next).prog 59).name = ("law" : PySem.Str) := by kernel_rfl
   rw [← e]
   exact aqH
  obtain ⟨fd, hb, hF⟩ := wJ.facts (P := (PySem.Challenge.rw_ladderdays_k47_looks_fewest_and_next).prog) (w := w) KX G hmg c 63
  exact ⟨K, fd, Pu.yq K 63, KX, hb, fun T a ns hl hS => ⟨a, ns, rfl, hl, hS, ⟨fun p hp => absurd hp KaX, fun _ _ z => nomatch z⟩, fun _ => rfl⟩, hF⟩
