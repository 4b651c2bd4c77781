import PyProof.Rows.All
import Wide.All
import OpenK.AllK
import Wide.FinOn
import HandS.ForMost
import HandS.Wide
import KE.KStateDown
import Lean
import HandS.Head0
import HandS.Head1
import HandS.Head2
import HandS.HeadEnd
import HandS.HeadHook1
import HandS.HeadHook2
import PySem.Challenge.RW_ladderdays_k50_whole_looks_that_find_the
import PyProof.EqAt
import PyProof.EqKinds
import PyProof.TupleKey
import HandS.Dict
import HandS.SetBool
import HandS.Conv
import HandS.SetFor
import KE.KeyNested
import HandS.Exc
import HandS.ExcIs
import HandS.ExcField
import HandS.Lambda
import HandS.SortInts
import HandS.WideBits
import HandS.IsInst
import HandS.TupAny
import HandS.Style
import HandS.Defaults
import PyProof.ReprLen
import HandS.Iter
import HandS.DictComp
import KE.KDictZip
import HandS.Set
import HandS.Strs
import PyProof.Rows.SetFrom
import PyProof.Rows.SortShellAny
import HandS.TryOnly
import HandS.Star
import HandS.Text
import HandS.Deep
import PyProof.SliceStr2
import KE.KRevSl
import HandS.Codes
import HandS.List
import HandS.TupLen
import HandS.DictTup
import KE.KDictDisplayH
import KE.LtSeq
import HandS.TupMul
import HandS.Zip
import KE.KExcSuper
import HandS.ExcOwn
import HandS.WordsExc
import PyProof.EvalArms
import KE.DataMinMax
import HandS.SortKw
import PyProof.Rows.ChunkLeaf
import HandS.Property
import KE.SortData
import HandS.MakeKwOnly
import HandS.More
import HandS.Words
open List renaming mem_cons_self→Kaa,mem_cons_of_mem→Kab,mem_append_left→Kac,length_cons→Kad,length_map→Kaf,map_cons→Kag,replicate→Kah,map→Kai,nodup_append→Kaj,mem_singleton→Kak,mem_cons→Kal,length_append→Kan,mem_append→Kao,mem_append_right→Kaq,flatten_cons→Kar,foldl→Kas,mem_of_getElem?→Kat,map_congr_left→Kau,mem_map→Kav,getElem?_eq_getElem→Kax,foldl_cons→Kay,mem_map_of_mem→KaA,mem_flatten→KaB,append_nil→KaC,length_pos_iff→KaD,map_map→KaE,range→KaG,map_append→KaH,nodup_nil→KaI,set_set→KaK,length_singleton→KaL,filter→KaM,nodup_cons→KaN,pairwise_cons→KaS,replicate_succ→KaT,mem_filter→KaU,append_assoc→KaV,filter_cons_of_pos→KaW,length_filter_le→KaX,filter_cons_of_neg→KaZ,Sublist→Ka0,all_cons→Ka1,length_take→Ka3,getElem?_map→Ka4,nil_append→Ka5,length_drop→Ka9,zip→Kba,drop_eq_getElem_cons→Kbd,range_succ_eq_map→Kbi,take_of_length_le→Kbj,drop_length→Kbl,not_mem_nil→Kbm,sublist_append_right→Kbo,size_toArray→Kbp,all_eq_true→Kbs,length_nil→Kbu,filter_sublist→Kby,all_map→Kbz,reverse_cons→KbF,map_inj_left→KbI,all→KbJ,mem_range→KbK,getElem?_eq_none→KbL,reverse→KbM,getElem_map→KbP,mem_flatMap→KbS,find?_cons→KbU,getElem?_range→KbW,length→KbX,filter_eq_self→KbY,length_zip→Kb0,range_succ→Kb3,getD_eq_getElem?_getD→Kb5,getElem?_append_right→Kb6,map_nil→Kb7,flatMap→Kb8,flatMap_cons→Kcc,length_range→Kcg,filter_congr→Kch,any_cons→Kci,append_cancel_left→Kco,cons_append→Kcp,append_eq_nil_iff→Kcq,drop_eq_nil_of_le→Kcr,pairwise_lt_range→Kcs,sublist_cons_self→Kct,all_append→Kcv,getD→Kcx,filter_map→Kcz,eq_nil_or_concat→KcB,pairwise_append→KcC,takeWhile→KcD,flatten_append→KcE,map_id→KcF,flatMap_append→KcH,takeWhile_cons→KcI,length_flatMap→KcJ,set_cons_zero→KcM,set_cons_succ→KcN,zip_cons_cons→KcP,take_nil→KcQ,Pairwise→KcS,cons_eq_cons→KcV,pairwise_map→KcW,getElem_mem→Kc3,append_inj'→Kc5
open Option renaming bind_some→Kae,map_eq_some_iff→Kam,getD→KaO,isSome→KaQ,isSome_iff_exists→Kbg,not_isSome_iff_eq_none→KbR,isSome_map→KcU
open Nat renaming le_refl→Kap,le_trans→Kaw,le_of_dvd→KaF,mul_div_cancel_left→KaJ,dvd_trans→KaY,zero_le→Ka2,lt_of_lt_of_le→Ka7,gcd→Kbc,lt_or_ge→Kbe,mul_comm→Kbf,lt_succ_self→Kbk,eq_zero_or_pos→Kbt,succ_mul→KbA,dvd_refl→KbB,lt_of_le_of_lt→KbC,gcd_pos_of_pos_left→KbD,mod_lt→KbH,mod_eq_of_lt→KbO,min_eq_right→KbQ,mul_le_mul_right→KbT,mod_add_div→Kb1,min_eq_left→Kb2,zero_add→Kca,gcd_dvd_right→Kcd,gcd_pos_of_pos_right→Kcf,add_sub_cancel_left→Kcj,div_pos→Kcl,mul_assoc→Kcm,le_antisymm→Kcw,div_le_self→Kcy,gcd_comm→KcA,div_mul_le_self→KcG,add_assoc→KcO,div_dvd_of_dvd→KcR,div_mul_cancel→KcT,lcm→KcX,dvd_lcm_right→KcY,ne_of_lt→KcZ,gcd_dvd_left→Kc0,div_eq_of_lt→Kc1,dvd_lcm_left→Kc4,gcd_rec→Kc6,Coprime→Kc7
open Int renaming toNat_natCast→Kaz,eq_ofNat_of_zero_le→KaR,toNat_of_nonneg→Kbh,natCast_emod→Kbn,toNat→Kbr,natCast_mul→Kbv,le_refl→Kbw,emod_lt_of_pos→KbE,natAbs→KbG,mul_le_mul_of_nonneg_right→KbN,emod_nonneg→Kb4,mul_comm→Kb9,mul_ediv_cancel_left→Kce,natCast_dvd_natCast→Kck,mul_assoc→Kcn,le_trans→Kcu,natCast_ediv→Kc2
open Bool renaming and_eq_true_iff→KaP,false_ne_true→Ka6,and_eq_true→Ka8,or_eq_true_iff→Kbb,eq_iff_iff→Kbq,decide_eq_true→Kbx,true_and→KcK,false_or→KcL
open Array renaming replicate→KbV,length_toList→KbZ,getElem?_replicate→Kcb
set_option Elab.async false
set_option linter.all false
set_option maxRecDepth 100000
theorem aI {α β:Type _}{x:Option α}{f:α->Option β}{b:β}(h:x.bind f=some b):∃a,x=some a/\f a=some b:=Option.bind_eq_some_iff.mp h
set_option maxHeartbeats 0
namespace tM
open PySem PySem.Spec PyProof.Rows L2
def bu (i:Nat):Stmt:=PySem.Challenge.pw_ladderdays_k50_whole_looks_that_find_the.main.body.getD i (.Pass ⟨0,0,0,0⟩)
abbrev NR:Stmt:=bu 7
abbrev Vp:Stmt:=bu 8
abbrev UM:Stmt:=bu 9
abbrev Q8:Stmt:=bu 11
abbrev Ro:Stmt:=bu 12
abbrev Sq:Stmt:=bu 13
abbrev Nh:Stmt:=bu 14
abbrev J':Stmt:=bu 15
abbrev R7:Stmt:=bu 16
abbrev Tj:Stmt:=bu 17
abbrev Tz:Stmt:=bu 18
abbrev RB:Stmt:=bu 19
abbrev Gi:Stmt:=bu 20
abbrev Kz:Stmt:=bu 21
abbrev Vc:Stmt:=bu 22
abbrev S3:Stmt:=bu 24
abbrev RO:Stmt:=bu 26
abbrev RY:Stmt:=bu 27
abbrev PD:Stmt:=bu 28
abbrev OE:Stmt:=bu 29
abbrev NQ:Stmt:=bu 30
abbrev TZ:Stmt:=bu 31
abbrev QX:Stmt:=bu 32
abbrev KN:Stmt:=bu 33
abbrev UW:Stmt:=bu 34
abbrev Rx:Stmt:=bu 35
abbrev Sj:Stmt:=bu 36
abbrev Rl:Stmt:=bu 37
abbrev TV:Stmt:=bu 38
abbrev Tv:Stmt:=bu 40
abbrev T6:Stmt:=bu 41
abbrev Sl:Stmt:=bu 42
abbrev KL:Stmt:=bu 43
abbrev T8:Stmt:=bu 44
abbrev JX:Stmt:=bu 45
abbrev Og:Stmt:=bu 46
abbrev Tu:Stmt:=bu 47
abbrev Oe:Stmt:=bu 48
abbrev Ss:Stmt:=bu 49
abbrev Oq:Stmt:=bu 50
abbrev NV:Stmt:=bu 51
abbrev RT:Stmt:=bu 52
abbrev NU:Stmt:=bu 53
abbrev J4:Stmt:=bu 54
abbrev uZ:Stmt:=bu 55
abbrev dP (n:Str)(s:Stmt):He.DefD:=⟨(n,none),n,n,defArgs s,defBody s,defScope s,[],[]⟩
def vz:He.DefD:=dP "always_rises" NR
def yL:He.DefD:=dP "is_set" Vp
def t7:He.DefD:=dP "need_set" UM
def yi:He.DefD:=dP "common_divisor" Q8
def vJ:He.DefD:=dP "common_multiple" Ro
def yq:He.DefD:=dP "prime_parts" Sq
def xM:He.DefD:=dP "first_numbers" Nh
def xC:He.DefD:=dP "comes_again" J'
def yC:He.DefD:=dP "least_length" R7
def vE:He.DefD:=dP "least_way" Tj
def yO:He.DefD:=dP "least_row" Tz
def yp:He.DefD:=dP "first_of_row" RB
def uc:He.DefD:=dP "set_row" Gi
def xQ:He.DefD:=dP "set_from" Kz
def yJ:He.DefD:=dP "has_day" Vc
def vC:He.DefD:=dP "least_set" S3
def yF:He.DefD:=dP "check_notes" RO
def xG:He.DefD:=dP "check_sets" RY
def yY:He.DefD:=dP "fits" PD
def t_:He.DefD:=dP "fitting" OE
def yj:He.DefD:=dP "fitting_sets" NQ
def rS:He.DefD:=dP "unlike_of" TZ
def xB:He.DefD:=dP "days_that_tell" QX
def vQ:He.DefD:=dP "partings" KN
def Cg:He.DefD:=dP "parted" UW
def vH:He.DefD:=dP "with_one_more" Rx
def yE:He.DefD:=dP "fewest_looks" Sj
def Eo:He.DefD:=dP "left_at_worst" Rl
def vF:He.DefD:=dP "next_look" TV
def FW:He.DefD:=dP "_law_di_sack" Tv
def fH:He.DefD:=dP "_law_di_pick" T6
def xF:He.DefD:=dP "_law_di_lengths" Sl
def vO:He.DefD:=dP "_law_di_set" KL
def tQ:He.DefD:=dP "_law_di_has" T8
def vG:He.DefD:=dP "_law_di_otherwise" JX
def xJ:He.DefD:=dP "_law_di_sets" Og
def yr:He.DefD:=dP "_law_di_round" Tu
def xN:He.DefD:=dP "_law_di_rows" Oe
def su:He.DefD:=dP "_law_di_unlike" Ss
def vK:He.DefD:=dP "_law_di_noted" Oq
def vI:He.DefD:=dP "_law_di_alike" NV
def vA:He.DefD:=dP "_law_di_untold" RT
def xH:He.DefD:=dP "_law_di_worst" NU
def xD:He.DefD:=dP "_law_di_led_right" J4
def fN:He.DefD:=dP "law" uZ
def fn:List He.DefD:=[vz,yL,t7,yi,vJ,yq,xM,xC,yC,vE,yO,yp,uc,xQ,yJ,vC,yF,xG,yY,t_,yj,rS,xB,vQ,Cg,vH,yE,Eo,vF,FW,fH,xF,vO,tQ,vG,xJ,yr,xN,su,vK,vI,vA,xH,xD,fN]
def fa:List He.Fa:=[.glo "always_rises",.glo "is_set",.glo "need_set",.glo "common_divisor",.glo "common_multiple",.glo "prime_parts",.glo "first_numbers",.glo "comes_again",.glo "least_length",.glo "least_way",.glo "least_row",.glo "first_of_row",.glo "set_row",.glo "set_from",.glo "has_day",.glo "least_set",.glo "check_notes",.glo "check_sets",.glo "fits",.glo "fitting",.glo "fitting_sets",.glo "unlike_of",.glo "days_that_tell",.glo "partings",.glo "parted",.glo "with_one_more",.glo "fewest_looks",.glo "left_at_worst",.glo "next_look",.glo "_law_di_sack",.glo "_law_di_pick",.glo "_law_di_lengths",.glo "_law_di_set",.glo "_law_di_has",.glo "_law_di_otherwise",.glo "_law_di_sets",.glo "_law_di_round",.glo "_law_di_rows",.glo "_law_di_unlike",.glo "_law_di_noted",.glo "_law_di_alike",.glo "_law_di_untold",.glo "_law_di_worst",.glo "_law_di_led_right",.glo "law",.free "zip",.free "all",.free "len",.free "max",.free "range",.free "int",.free "enumerate",.free "tuple",.free "sorted",.free "list",.free "isinstance",.free "bool",.free "min",.free "abs"]
abbrev R:PySem.W.OpenRow:=PySem.W.OpenLaw.row PySem.Challenge.rw_ladderdays_k50_whole_looks_that_find_the
abbrev hk:PySem.W.Hook:=He.hookD 2 fa fn
def ob (s:PySem.W.SharedT):He.AlD:=He.obsDG 2 fa fn (HandSHeadRun.getT s)
theorem Mq (s:PySem.W.SharedT):ob s=hk.obs s.abs:=He.obsDG_eq (HandSHeadRun.getT_eq s)
theorem run (w:World):HandSHeadRun.RunEq R (PySem.W.view R.prog [55]) hk ob 5000 [("__name__" : PySem.Str),("copied" : PySem.Str),("DaysError" : PySem.Str),("InvalidSet" : PySem.Str),("InvalidNote" : PySem.Str),("always_rises" : PySem.Str),("is_set" : PySem.Str),("need_set" : PySem.Str),("common_divisor" : PySem.Str),("common_multiple" : PySem.Str),("prime_parts" : PySem.Str),("first_numbers" : PySem.Str),("comes_again" : PySem.Str),("least_length" : PySem.Str),("least_way" : PySem.Str),("least_row" : PySem.Str),("first_of_row" : PySem.Str),("set_row" : PySem.Str),("set_from" : PySem.Str),("has_day" : PySem.Str),("least_set" : PySem.Str),("check_notes" : PySem.Str),("check_sets" : PySem.Str),("fits" : PySem.Str),("fitting" : PySem.Str),("fitting_sets" : PySem.Str),("unlike_of" : PySem.Str),("days_that_tell" : PySem.Str),("partings" : PySem.Str),("parted" : PySem.Str),("with_one_more" : PySem.Str),("fewest_looks" : PySem.Str),("left_at_worst" : PySem.Str),("next_look" : PySem.Str),("_law_di_sack" : PySem.Str),("_law_di_pick" : PySem.Str),("_law_di_lengths" : PySem.Str),("_law_di_set" : PySem.Str),("_law_di_has" : PySem.Str),("_law_di_otherwise" : PySem.Str),("_law_di_sets" : PySem.Str),("_law_di_round" : PySem.Str),("_law_di_rows" : PySem.Str),("_law_di_unlike" : PySem.Str),("_law_di_noted" : PySem.Str),("_law_di_alike" : PySem.Str),("_law_di_untold" : PySem.Str),("_law_di_worst" : PySem.Str),("_law_di_led_right" : PySem.Str)] w:=by
 intro os
 kernel_rfl
end tM
namespace Pu
open PySem PySem.Spec PyProof.Rows L2
/-- keys: tuples of numbers and of tuples of numbers -/
def Flat1 (k:NestedKey):Prop:=(∃i,k=.num i)∨∃ns:List Int,k=.tup (ns.map .num)
def jY (k:NestedKey):Prop:=∃ks,k=.tup ks/\∀x∈ks,Flat1 x
/-- bJ hash of MI a key (there is no text in it) -/
def uA:List NestedKey->List Int
 |[]=>[]
 |.num i::ks=>hashInt i::uA ks
 |_::ks=>0::uA ks
def zN:NestedKey->Int
 |.num i=>hashInt i
 |.tup ks=>reduceHash (Builtin.Tuple.tupleHashOf (uA ks))
 |_=>0
def zL:NestedKey->Int
 |.tup ks=>reduceHash (Builtin.Tuple.tupleHashOf (ks.map zN))
 |_=>0
theorem kK (w:World):∀ns:List Int,NestedKey.hashes w (ns.map .num)=uA (ns.map .num)
 |[]=>rfl
 |n::ns=>by
  rw [Kag]
  show NestedKey.hash w (.num n)::NestedKey.hashes w (ns.map .num)=_
  rw [kK w ns]
  unfold NestedKey.hash
  rfl
theorem wz (w:World){k:NestedKey}(h:Flat1 k):NestedKey.hash w k=zN k:=by
 rcases h with⟨i,rfl⟩|⟨ns,rfl⟩
 ·unfold NestedKey.hash;rfl
 ·unfold NestedKey.hash
  rw [kK];rfl
theorem jb (w:World):∀{ks:List NestedKey},(∀k∈ks,Flat1 k)->NestedKey.hashes w ks=ks.map zN
 |[],_=>rfl
 |k::ks,h=>by
  show NestedKey.hash w k::NestedKey.hashes w ks=_
  rw [wz w (h k Kaa),jb w λx hx=>h x (Kab _ hx)];rfl
theorem wu (w:World){k:NestedKey}(h:jY k):NestedKey.hash w k=zL k:=by
 obtain⟨ks,rfl,h⟩:=h
 unfold NestedKey.hash
 rw [jb w h];rfl
theorem kq:∀ns:List Int,NestedKey.depthAll (ns.map .num)=0
 |[]=>rfl
 |n::ns=>by
  show max (NestedKey.depth (.num n)) (NestedKey.depthAll (ns.map .num))=0
  rw [kq ns]
  unfold NestedKey.depth
  rfl
theorem i7:∀{ks:List NestedKey},(∀k∈ks,Flat1 k)->NestedKey.depthAll ks<=1
 |[],_=>Ka2 _
 |k::ks,h=>by
  show max (NestedKey.depth k) (NestedKey.depthAll ks)<=1
  have h1:=i7 λx hx=>h x (Kab k hx)
  have h2:NestedKey.depth k<=1:=by
   rcases h k Kaa with⟨i,rfl⟩|⟨ns,rfl⟩
   ·unfold NestedKey.depth;omega
   ·unfold NestedKey.depth
    rw [kq];omega
  omega
theorem sM {k:NestedKey}(h:jY k):NestedKey.depth k<=8:=by
 obtain⟨ks,rfl,h⟩:=h
 unfold NestedKey.depth
 have:=i7 h
 omega
abbrev bV:=NestedKey×Addr×V
def jv (q:NestedKey×Addr×Value):DictEntry:=⟨zL q.1,.ref q.2.1,q.2.2⟩
theorem Wo {P:Program}{w:World}{xs:List (NestedKey×Addr×Value)}(h:∀x∈xs,jY x.1):xs.map jv=xs.map (entryOfKey (nestedKind P w)):=Kau λx hx=>by
 show DictEntry.mk (zL x.1) _ _=DictEntry.mk (NestedKey.hash w x.1) _ _
 rw [wu w (h x hx)]
def KX (p:bV)(q:NestedKey×Addr×Value):Prop:=p.1=q.1/\p.2.1=q.2.1/\RelV p.2.2 q.2.2
def Fq (a:Addr)(ws:List bV)(h:Heap):Prop:=ws.length<=sizeLine/\(a == sysModules)=false/\∃xs,Paired KX ws xs/\∃o es ep,h.get? a=some o/\o.ExactDict/\o.data=.dict es ep/\es.toList=xs.map jv/\(xs.map (·.1)).Nodup
def cg (a:Addr)(ws:List bV):HO:=.ext (Fq a ws)
def wV:V->Option Int
 |.int i=>some i
 |.bl b=>some (PpSet.b2 b)
 |_=>none
def j7 (H:Hp)(k:NestedKey)(v:V):Prop:=(∃i,k=.num i/\wV v=some i)∨∃(a:Addr) (vs:List V) (ns:List Int),v=.ref a/\k=.tup (ns.map .num)/\Rd H a (.tup vs)/\vs.map wV=ns.map some
def cQ (H:Hp)(k:NestedKey)(b:Addr):Prop:=∃(vs:List V) (ks:List NestedKey),k=.tup ks/\Rd H b (.tup vs)/\Paired (j7 H) ks vs
theorem AM {H H':Hp}(s:Same H H'){b:Addr}{vs:List V}(e:Rd H b (.tup vs)):Rd H' b (.tup vs):=by
 rcases e with e|⟨o,e⟩
 ·exact .inl (s _ _ e)
 ·exact .inr ⟨o,s _ _ e⟩
theorem j7.mono {H H':Hp}(s:Same H H'){k:NestedKey}{v:V}(h:j7 H k v):j7 H' k v:=by
 rcases h with h|⟨a,vs,ns,h1,h2,h3,h4⟩
 ·exact .inl h
 ·exact .inr ⟨a,vs,ns,h1,h2,AM s h3,h4⟩
theorem cQ.mono {H H':Hp}(s:Same H H'){k:NestedKey}{b:Addr}(h:cQ H k b):cQ H' k b:=by
 obtain⟨vs,ks,e,r,p⟩:=h
 refine⟨vs,ks,e,AM s r,?_⟩
 clear e r
 induction p with
 |nil=>exact .nil
 |cons h _ ih=>exact .cons (h.mono s) ih
theorem cQ.CA {H:Hp}{k:NestedKey}{b:Addr}(h:cQ H k b):jY k:=by
 obtain⟨vs,ks,rfl,r,p⟩:=h
 clear r
 refine⟨ks,rfl,?_⟩
 induction p with
 |nil=>exactλx hx=>nomatch hx
 |cons h _ ih=>
  intro x hx
  rcases Kal.mp hx with rfl|hx
  ·rcases h with⟨i,e,_⟩|⟨_,_,ns,_,e,_⟩
   ·exact .inl ⟨i,e⟩
   ·exact .inr ⟨ns,e⟩
  ·exact ih x hx
def cH (ws:List bV)(k:NestedKey):Option V:=(ws.find? λx=>decide (x.1=k)).map λx=>x.2.2
def fF (ws:List bV)(k:NestedKey)(b:Addr)(v:V):List bV:=if (cH ws k).isSome then ws.map (λp=>if p.1=k then (p.1,p.2.1,v) else p) else ws++[(k,b,v)]
theorem B6 {p:bV}{ws:List bV}{k:NestedKey}:cH (p::ws) k=if p.1=k then some p.2.2 else cH ws k:=by
 unfold cH
 rw [KbU]
 by_cases c:p.1=k
 ·rw [if_pos c,decide_eq_true c];rfl
 ·rw [if_neg c,decide_eq_false c]
theorem Bj {k j:NestedKey}{b:Addr}{v:V}:∀ws:List bV,cH (fF ws k b v) j=if k=j then some v else cH ws j:=by
 have app:∀ws:List bV,cH (ws++[(k,b,v)]) j=if (cH ws j).isSome then cH ws j else if k=j then some v else none:=by
  intro ws
  induction ws with
  |nil=>rw [Ka5,B6];rfl
  |cons p ws ih=>
   rw [Kcp,B6,B6,ih]
   by_cases c:p.1=j
   ·rw [if_pos c,if_pos c];rfl
   ·rw [if_neg c,if_neg c]
 have rep:∀ws:List bV,(cH ws k).isSome=true->cH (ws.map (λp=>if p.1=k then (p.1,p.2.1,v) else p)) j=if k=j then some v else cH ws j:=by
  intro ws
  induction ws with
  |nil=>intro h;exact absurd h Ka6
  |cons p ws ih=>
   intro h
   rw [Kag,B6,B6]
   by_cases c:p.1=k
   ·rw [if_pos c]
    by_cases d:k=j
    ·rw [if_pos (show p.1=j from c.trans d),if_pos d]
    ·rw [if_neg (show ¬p.1=j fromλz=>d (c.symm.trans z)),if_neg d,if_neg (λz=>d (c.symm.trans z))]
     by_cases i:(cH ws k).isSome=true
     ·rw [ih i,if_neg d]
     ·have:∀ws:List bV,¬(cH ws k).isSome=true->ws.map (λp=>if p.1=k then (p.1,p.2.1,v) else p)=ws:=by
       intro ws
       induction ws with
       |nil=>intro _;rfl
       |cons q ws ih2=>
        intro h
        rw [B6] at h
        by_cases c2:q.1=k
        ·rw [if_pos c2] at h;exact absurd rfl h
        ·rw [if_neg c2] at h
         rw [Kag,if_neg c2,ih2 h]
      rw [this ws i]
   ·rw [B6,if_neg c] at h
    rw [if_neg c,ih h]
    by_cases d:k=j
    ·rw [if_pos d,if_pos d,if_neg (λz=>c (z.trans d.symm))]
    ·rw [if_neg d,if_neg d]
 intro ws
 unfold fF
 by_cases c:(cH ws k).isSome=true
 ·rw [if_pos c,rep ws c]
 ·rw [if_neg c,app]
  by_cases d:k=j
  ·subst d
   rw [if_neg c,if_pos rfl,if_pos rfl]
  ·rw [if_neg d,if_neg d]
   cases cH ws j <;> rfl
theorem qX {k:NestedKey}{b:Addr}{v:V}(ws:List bV):(fF ws k b v).length<=ws.length+1:=by
 unfold fF
 split
 ·rw [Kaf];omega
 ·rw [Kan];simp
theorem nB {H:Hp}{k:NestedKey}{b:Addr}{v:V}{ws:List bV}(h:∀p∈ws,cQ H p.1 p.2.1)(hb:cQ H k b):∀p∈fF ws k b v,cQ H p.1 p.2.1:=by
 unfold fF
 split
 ·intro p hp
  obtain⟨q,hq,rfl⟩:=Kav.mp hp
  by_cases c:q.1=k
  ·rw [if_pos c];exact h q hq
  ·rw [if_neg c];exact h q hq
 ·intro p hp
  rcases Kao.mp hp with z|z
  ·exact h p z
  ·rw [Kak.mp z];exact hb
section
variable {ws:List bV}{xs:List (NestedKey×Addr×Value)}
theorem KX.val (r:Paired KX ws xs)(k:NestedKey):RelO (cH ws k) ((atKey xs k).map (·.2)):=by
 induction r with
 |nil=>exact True.intro
 |@cons p q ps qs h t ih=>
  obtain⟨h1,_,h2⟩:=h
  rw [B6]
  by_cases e:p.1=k
  ·have e':q.1=k:=h1.symm.trans e
   have b:atKey (q::qs) k=some q.2:=by simp [atKey,KbU,e']
   rw [if_pos e,b];exact h2
  ·have e':¬q.1=k:=λz=>e (h1.trans z)
   have b:atKey (q::qs) k=atKey qs k:=by simp [atKey,KbU,e']
   rw [if_neg e,b];exact ih
theorem KX.isSome (r:Paired KX ws xs)(k:NestedKey):(cH ws k).isSome=(atKey xs k).isSome:=by
 have q:=(KX.val r k).isSome_eq
 rw [KcU] at q
 exact q
theorem KX.repl (r:Paired KX ws xs)(k:NestedKey){y:V}{u:Value}(ry:RelV y u):Paired KX (ws.map (λp=>if p.1=k then (p.1,p.2.1,y) else p)) (xs.map (putAt k u)):=by
 induction r with
 |nil=>exact .nil
 |@cons p q ps qs h t ih=>
  rw [Kag,Kag]
  refine .cons ?_ ih
  obtain⟨h1,h2,h3⟩:=h
  unfold putAt
  by_cases e:p.1=k
  ·rw [if_pos e,if_pos (h1.symm.trans e)];exact⟨h1,h2,ry⟩
  ·rw [if_neg e,if_neg (λz=>e (h1.trans z))];exact⟨h1,h2,h3⟩
theorem KX.put (r:Paired KX ws xs)(k:NestedKey){b:Addr}{y:V}{u:Value}(ry:RelV y u):Paired KX (fF ws k b y) (storedH xs k b u):=by
 unfold fF storedH
 rw [KX.isSome r k]
 by_cases q:(atKey xs k).isSome=true
 ·rw [if_pos q,if_pos q];exact KX.repl r k ry
 ·rw [if_neg q,if_neg q];exact Paired.snoc r ⟨rfl,rfl,ry⟩
theorem KX.all {Φ:NestedKey->Addr->Prop}(r:Paired KX ws xs)(h:∀p∈ws,Φ p.1 p.2.1):∀x∈xs,Φ x.1 x.2.1:=by
 induction r with
 |nil=>intro x hx;exact nomatch hx
 |@cons p q ps qs hq t ih=>
  intro x hx
  rcases Kal.mp hx with e|hx
  ·subst e
   rw [<-hq.1,<-hq.2.1]
   exact h p Kaa
  ·exact ih (λp hp=>h p (Kab _ hp)) x hx
end
theorem Ax {P:Program}{w:World}{h:Heap}{v:V}{u:Value}{i:Int}(e:wV v=some i)(r:RelV v u):NestedIs h (.num i) u:=by
 cases v with
 |int j=>
  obtain⟨t',rfl⟩:=(show ∃t,_=Value.int j t from r)
  have:j=i:=Option.some.inj e
  subst this
  exact .int _ _
 |bl b=>
  obtain rfl:=(show _=Value.bool b from r)
  have:PpSet.b2 b=i:=Option.some.inj e
  subst this
  exact .bool (by cases b <;> rfl)
 |_=>cases e
theorem qL {P:Program}{w:World}{h:Heap}:∀{ks:List Int} {vs:List V} {us:List Value},vs.map wV=ks.map some->Vals vs us->NestedAll h (ks.map .num) us
 |[],[],_,_,r=>by cases r;exact .nil
 |[],_::_,_,e,_=>by cases e
 |_::_,[],_,e,_=>by cases e
 |k::ks,v::vs,_,e,r=>by
  rw [Kag,Kag] at e
  injection e with e1 e2
  cases r with
  |cons h t=>exact .cons (Ax (P:=P) (w:=w) e1 h) (qL (P:=P) (w:=w) e2 t)
section
variable {P:Program}{w:World}{H:Hp}{h:Heap}{a b:Addr}{k:NestedKey}{ws:List bV}
theorem tup_is (ok:HOk P w H h){vs:List V}(e:Rd H b (.tup vs)){ks:List NestedKey}(q:∀us,Vals vs us->NestedAll h ks us):NestedIs h (.tup ks) (.ref b):=by
 obtain⟨_,its,rr,o,h1,h2,n,h3⟩:=(show ObjOk P w H h b (.tup vs) from rd_of ok e)
 exact .tup h1 h2 h3 (by simpa using q its rr)
theorem mX (ok:HOk P w H h):∀{ks:List NestedKey} {vs:List V} {us:List Value},Paired (j7 H) ks vs->Vals vs us->NestedAll h ks us
 |_,_,_,.nil,r=>by cases r;exact .nil
 |_,_,_,.cons h1 t1,r=>by
  cases r with
  |cons h2 t2=>
   refine .cons ?_ (mX ok t1 t2)
   rcases h1 with⟨i,rfl,e⟩|⟨a,vs,ns,rfl,rfl,e,q⟩
   ·exact Ax (P:=P) (w:=w) e h2
   ·obtain rfl:=(show _=Value.ref a from h2)
    exact tup_is ok e λus r=>qL (P:=P) (w:=w) q r
theorem Li (ok:HOk P w H h)(e:cQ H k b):(nestedKind P w).is h k b:=by
 have f:=sM e.CA
 obtain⟨vs,ks,rfl,e,p⟩:=e
 exact⟨tup_is ok e λus r=>mX ok p r,f⟩
theorem Ln (ok:HOk P w H h)(e:H a=some (cg a ws))(hk:∀p∈ws,cQ H p.1 p.2.1):ws.length<=sizeLine/\(a == sysModules)=false/\∃xs,Paired KX ws xs/\h.DictOfH (nestedKind P w) a xs:=by
 obtain⟨⟨z,y,xs,r,o,es,ep,h1,h2,h3,h4,h5⟩,_,_⟩:=(show ObjOk P w H h a (.ext (Fq a ws)) from ok a _ e)
 exact⟨z,y,xs,r,o,es,ep,h1,h2,h3,by rw [h4];exact Wo (KX.all (Φ:=λk _=>jY k) r λp hp=>(hk p hp).CA),KX.all (Φ:=λk b=>(nestedKind P w).is h k b) r λp hp=>Li ok (hk p hp),h5⟩
theorem Fq.ok (x:Fq a ws h):ObjOk P w H h a (cg a ws):=by
 refine⟨x,?_,λh1 h2 p k=>?_⟩
 ·obtain⟨_,_,_,_,o,_,_,e,_⟩:=x;exact⟨o,e⟩
 ·obtain⟨z,y,xs,r,o,es,ep,e,c⟩:=p
  exact⟨z,y,xs,r,o,es,ep,k _ e,c⟩
end
theorem To {P:Program}{w:World}{A:Around}(hu:A.units+65<cLine):(nestedKind P w).room A.in1:=by
 show A.units+1+8<cLine
 omega
def PN:TE:=λ_ H Q=>∀p,H p=none->Q (.ref p) (upd H p (cg p []))
def U1 (ty td:TE):TE:=λσ H Q=>ty σ H λy H1=>td σ H1 λx H2=>∃a b ws k,x=.ref a/\y=.ref b/\H2 a=some (cg a ws)/\(∀p∈ws,cQ H2 p.1 p.2.1)/\cQ H2 k b/\Q (.bl (!(cH ws k).isSome)) H2
def Bc (td ty:TE):TE:=λσ H Q=>td σ H λx H1=>ty σ H1 λy H2=>∃a b ws k v,x=.ref a/\y=.ref b/\H2 a=some (cg a ws)/\(∀p∈ws,cQ H2 p.1 p.2.1)/\cQ H2 k b/\cH ws k=some v/\Q v H2
def Jt (td ty tv:TE):TS:=λD σ H=>tv σ H λv H1=>td σ H1 λx H2=>ty σ H2 λy H3=>∃a b ws k,x=.ref a/\y=.ref b/\H3 a=some (cg a ws)/\(∀p∈ws,cQ H3 p.1 p.2.1)/\cQ H3 k b/\ws.length<sizeLine/\D.nx σ (upd H3 a (cg a (fF ws k b v)))
section
variable {X:Cx}{o i e value:Expr}{pos pos' tpos:Pos}{td ty tv:TE}
theorem mO {P:Program}{w:World}{H:Hp}(h:Heap)(hb:sysModules<h.objs.size):ObjOk P w H (h.push { cls:=.type "dict",data:=.dict #[] }) h.objs.size (cg h.objs.size []):=
 Fq.ok ⟨Ka2 _,beq_eq_false_iff_ne.mpr (Ne.symm (KcZ hb)),[],.nil,_,#[],0,Heap.get?_push_size _ rfl,⟨rfl,rfl,rfl⟩,rfl,rfl,KaI⟩
theorem Vf:PE X (.Dict [] [] pos) PN:=⟨λpins s σ H Q I h=>
 wpAny_Dict_empty ⟨.ref s.heap.objs.size,_,I.laid (a:=s.heap.objs.size) (o:=cg s.heap.objs.size []) (t':=s.toks) (λ_ _ q=>Heap.get?_push_of_some _ q) (Kap _) (mO s.heap I.big),rfl,h _ (I.hok.fresh (Kap _))⟩⟩
theorem OI (hu:X.A.units+65<cLine)(hi:PE X i ty)(ho:PE X o td):PC X .NotIn i o (U1 ty td):=by
 refine⟨λpins s σ H Q I h=>?_⟩
 refine thn (hi.run pins s σ H _ I h) λiv s1 ⟨y,H1,I1,ry,q1⟩=>thn (ho.run pins s1 σ H1 _ I1 q1) λu s2 ⟨x,H2,I2,rx,a,b,ws,k,ex,ey,e,hk,eb,q2⟩=>?_
 subst ex ey
 obtain rfl:u=Value.ref a:=rx
 obtain rfl:iv=Value.ref b:=ry
 obtain⟨z,hd,xs,rel,dd⟩:=Ln I2.hok e hk
 refine wpAny_notIn_heap (To hu) (Li I2.hok eb) hd dd ?_
 rw [<-KX.isSome rel k]
 exact⟨.bl (!(cH ws k).isSome),H2,I2.tok _,rfl,q2⟩
theorem Vg (hu:X.A.units+65<cLine)(ho:PE X o td)(hi:PE X i ty)(hs:NoSl i):PE X (.Subscript o i pos) (Bc td ty):=by
 refine⟨λpins s σ H Q I h=>?_⟩
 refine subD_of PySem.F.slot_dict_getitem.lookup hs (thn (ho.run pins s σ H _ I h) λu s1 ⟨x,H1,I1,rx,q1⟩=>thn (hi.run pins s1 σ H1 _ I1 q1) λiv s2 ⟨y,H2,I2,ry,a,b,ws,k,v,ex,ey,e,hk,eb,l,q2⟩=>?_)
 subst ex ey
 obtain rfl:u=Value.ref a:=rx
 obtain rfl:iv=Value.ref b:=ry
 obtain⟨z,hd,xs,rel,dd⟩:=Ln I2.hok e hk
 obtain⟨w',hw,rw'⟩:=RelO.some_of (v:=v) (o:=(atKey xs k).map (·.2)) (by rw [<-l];exact KX.val rel k)
 obtain⟨p,hp,ZO⟩:=Kam.mp hw
 refine⟨dd.typeIs,wpAny_getItem_heap (To hu) (Li I2.hok eb) dd hp ?_⟩
 rw [ZO]
 exact⟨v,H2,I2.tok _,rw',q2⟩
theorem Vr (hu:X.A.units+65<cLine)(ho:PE X o td)(hi:PE X i ty)(hv:PE X value tv)(hs:swapsWith value (some (.Subscript o i pos')) pos.line X.env=pure false):
  PS X (.Assign [.Subscript o i pos'] value pos) (Jt td ty tv):=by
 refine⟨λpins s σ H D I h=>?_⟩
 refine wpAny_Assign_Subscript (thn (hv.run pins s σ H _ I h) λr s1 ⟨v,H1,I1,rv,q1⟩=>thn (ho.run pins s1 σ H1 _ I1 q1) λu s2 ⟨x,H2,I2,rx,q2⟩=>thn (hi.run pins s2 σ H2 _ I2 q2) λiv s3 ⟨y,H3,I3,ry,a,b,ws,k,ex,ey,e,hk,eb,l,q3⟩=>?_) hs
 subst ex ey
 obtain rfl:u=Value.ref a:=rx
 obtain rfl:iv=Value.ref b:=ry
 obtain⟨z,hd,xs,rel,dd⟩:=Ln I3.hok e hk
 have hz:xs.length<=sizeLine:=by rw [<-Paired.length rel];exact z
 have hl:(fF ws k b v).length<=sizeLine:=by have:=qX (k:=k) (b:=b) (v:=v) ws;omega
 refine wpAny_setItem_heap (hsz:=hz) (To hu) (Li I3.hok eb) dd λh' dd' hs=>?_
 obtain⟨q,es,ep,hq,h2,h3,h4,_,h5⟩:=dd'
 have fn:=KX.all (Φ:=λk _=>jY k) (KX.put rel k (b:=b) rv) λp hp=>(nB hk eb p hp).CA
 exact⟨σ,_,d_write I3 (by rw [e];exact True.intro) hs ⟨q,hq⟩ (Fq.ok ⟨hl,hd,_,KX.put rel k rv,q,es,ep,hq,h2,h3,by rw [h4];exact (Wo fn).symm,h5⟩),q3⟩
end
/-- tuple(x) of a list: a new tuple,its object told -/
def EY (K:PySem.W.Frag)(x:V)(H:Hp)(Q:VK):Prop:=
 ∃p xs,x=.ref p/\SqL K H p xs/\∀q o,H q=none->(o.cls=.type "tuple" /\ o.dict=none)->Q (.ref q) (upd H q (.frz o (.tup xs)))
theorem w7 {X:Cx}{a:Expr}{ta:TE}{p pos:Pos}(hg:Gl X "tuple")(hm:X.mg "tuple" = none)(ha:PE X a ta)(na:starEach [a] X.env=(false,eval a X.env)::starEach [] X.env:=by rfl):
  PE X (.Call (.Name "tuple" p) [a] [] pos) (tThen ta (EY X.K)):=by
 refine⟨λpins s σ H Q I h=>?_⟩
 refine Call_ (ld_blt I hg hm boot_tuple (PyProof.Rows.callWith_type1 (one_arg ha I h (λv s2 x H2 I2 r q=>?_) na) na))
 obtain⟨p,xs,rfl,hs,q⟩:=q
 obtain rfl:v=.ref p:=r
 obtain⟨its,rv,pl,hz⟩:=I2.list hs
 refine call_tuple_list pl.isList (λh' hk=>?_) (by rw [Kbp,<-rv.length];exact hz)
 have I1:Inv X pins σ H2 { s2 with heap:=h' }:=I2.kept (t':=s2.toks) hk
 have I3:Inv X pins σ (upd H2 h'.objs.size (.frz { cls:=.type "tuple",data:=.seq its.toArray } (.tup xs))) { s2 with heap:=h'.push { cls:=.type "tuple",data:=.seq its.toArray } }:=
  I1.laid (t':=s2.toks) (λb o e=>Heap.get?_push_of_some _ e) (Kap _) (show ObjOk X.prog X.w _ _ _ (.frz _ (.tup xs)) from ⟨Heap.get?_push_size _ rfl,hz,its,rv,IsTup.new _ _⟩)
 exact⟨.ref h'.objs.size,_,I3,rfl,q _ _ (I1.hok.fresh (Kap _)) ⟨rfl,rfl⟩⟩
/-- all(a tuple of truth values) -/
def E6 (K:PySem.W.Frag):List V->Hp->VK->Prop:=λvs H Q=>∃(a:Addr) (bs:List Bool),vs=[V.ref a]/\SqT K H a (bs.map V.bl)/\Q (.bl (bs.all id)) H
theorem Ck {X:Cx}(hc:X.calm=true):CallR X (.builtin "all") (E6 X.K):=by
 intro pins s σ H vs us Q I r h
 obtain⟨a,bs,rfl,hs,q⟩:=h
 obtain⟨its,rv,hl,_⟩:=I.tuple hs
 rw [Vals.ref1 r]
 have hb:=rv.bls
 have hlt:a<s.heap.objs.size:=by obtain⟨_,e,_⟩:=hl;exact Heap.lt_size e
 refine call_all_walk (iter_tuple hl ?_)
 refine⟨_,_,_,_,_,_,_,rfl,Walks.tuple (A:=X.A.in1) (I.ok.hd hc) _ a (KcZ hlt) its.toArray,⟨⟨_,Heap.get?_push_size _ rfl,rfl,rfl⟩,hl.keeps λ_ _ e=>Heap.get?_push_of_some _ e⟩,truth_bools hb,λh' tk hk=>?_⟩
 refine⟨.bl _,H,I.kept λb o eo=>hk b o (λhmem=>?_) (Heap.get?_push_of_some _ eo),?_,q⟩
 ·rcases Kal.mp hmem with e1|hmem
  ·exact absurd (e1 ▸ Heap.lt_size eo) (Nat.lt_irrefl _)
  ·cases hmem
 ·show Value.bool _=Value.bool _
  rw [<-L2.all_range,hb,Kbp,Kaf]
/-- t.count(a truth value) of a plain tuple of truth values -/
def u7 (to ty:TE):TE:=λσ H Q=>to σ H λx H1=>∃(a:Addr) (o:Obj) (bs:List Bool),x=.ref a/\H1 a=some (.frz o (.tup (bs.map V.bl)))/\(o.cls=.type "tuple" /\ o.dict=none) /\
 ty σ H1 λy H2=>∃c:Bool,y=.bl c/\H2 a=some (.frz o (.tup (bs.map V.bl)))/\Q (.int (bs.count c:Nat)) H2
theorem gE (c:Bool):∀{us:List Value} {bs:List Bool},us=bs.map Value.bool->us.countP (PpSet.isB c)=bs.count c
 |_,[],e=>by rw [e];rfl
 |_,b::bs,e=>by
  rw [e,Kag,List.countP_cons,List.count_cons,gE c (bs:=bs) rfl]
  rfl
theorem nv {X:Cx}{o e:Expr}{to ty:TE}{apos cpos:Pos}(ho:PE X o to)(he:PE X e ty)
  (hbase:attributeBase o "count" X.env (eval o X.env)=eval o X.env:=by rfl)
  (hfew:((backTo cpos (starEach [e] X.env)).all (λx=>!x.1) && (backToKw cpos (keywordEach [] X.env)).all (λx=>x.1.isSome)
   && decide ([e].length+([]:List Keyword).length+(if ([]:List Keyword).isEmpty then 0 else 1)<30))=true:=by rfl)
  (hline:(apos.endLine == cpos.line)=true:=by rfl) (na:starEach [e] X.env=(false,eval e X.env)::starEach [] X.env:=by rfl):
  PE X (.Call (.Attribute o "count" apos) [e] [] cpos) (u7 to ty):=by
 refine⟨λpins s σ H Q I h=>?_⟩
 refine wpAny_Call_method_late hbase hfew hline rfl (thn (ho.run pins s σ H _ I h) λv s1 ⟨x,H1,I1,r1,a,ob,bs,ex,ha,hob,q1⟩=>?_)
 subst ex
 obtain rfl:v=.ref a:=r1
 obtain⟨h1,_⟩:=I1.hok a _ ha
 refine⟨"tuple", "tuple.count",PySem.F.plainAttrs_tuple,PySem.F.slot_tuple_count,PySem.F.type_tuple_count,⟨ob,h1,hob.1⟩,λb eb=>by cases eb;exact⟨ob,h1,hob.2⟩,?_⟩
 have hA:=(pa_cons he pa_nil na).run cpos pins s1 σ H1 (λvs H2=>match vs with|[y]=>∃c:Bool,y=.bl c/\H2 a=some (.frz ob (.tup (bs.map V.bl)))/\Q (.int (bs.count c:Nat)) H2|_=>False) I1 q1
 rw [na] at hA ⊢
 refine Calls.callWith_builtin (by rfl) (Calls.evalArgs_plain ?_)
 refine thn hA λus s2 ⟨vs,H2,I2,r2,q2⟩=>?_
 match vs,r2,q2 with
 |[y],r2,q2=>
  obtain⟨c,rfl,ha2,q3⟩:=q2
  obtain⟨u,rfl,ru⟩:=r2.one
  obtain rfl:u=.bool c:=ru
  obtain⟨h3,hz,its,rv,ob2,h4,hcl,n,hdat⟩:=I2.hok a _ ha2
  rw [h3] at h4
  obtain rfl:=Option.some.inj h4
  have hb:=rv.bls
  obtain⟨cls,dd,data,sl⟩:=ob
  simp only at hcl hdat hob
  subst hcl hdat
  refine call_meets PySem.F.slot_tuple_count ⟨_,h3,rfl⟩ PySem.F.entry_tuple_count (PySem.F.args_tuple_count_2 _ _)
   (SeqAt.tuple_countAt a its.toArray n dd sl (.bool c) (PpSet.isB c)) ⟨h3,λy hy=>?_,?_⟩
  ·have hy':y∈its:=by simpa using hy
   rw [hb] at hy'
   obtain⟨b,_,rfl⟩:=Kav.mp hy'
   exact SeqAt.EqAt.bool_bool b c
  ·refine⟨.int (bs.count c:Nat),H2,I2.tok _,⟨s2.toks,?_⟩,q3⟩
   show Value.int ((its.toArray.toList.countP (PpSet.isB c):Nat):Int) s2.toks=Value.int ((bs.count c:Nat):Int) s2.toks
   rw [show its.toArray.toList=its from rfl,gE c hb]
end Pu
namespace L2
open PySem PySem.Spec PyProof.Rows
/-- an error dF is known to bJ object -/
def Xz (o:Obj):HO:=.frz o (.ext λ_=>True)
/-- of a class,with its dict -/
def Yq (cls:Value)(d:Option Addr)(o:Obj):Prop:=o.cls=cls/\o.dict=d/\∃vs,o.data=.fields vs
abbrev Cx.kept (X:Cx)(pn:List (Addr×Obj)):Cx:={ X with pn:=pn }
section
variable {X:Cx}{pins:List (Addr×Obj)}{σ:St}{H:Hp}{s:Shared}
theorem Cx.Ok.kept {X:Cx}(ok:X.Ok)(pn:List (Addr×Obj)):(X.kept pn).Ok:=
 ⟨ok.mod,ok.kind,ok.glob,ok.blt,ok.above,ok.inj,ok.has,ok.cab,ok.hd,ok.frames,ok.stk,ok.exf,ok.bs,ok.bsz,ok.noex,ok.exfs,ok.funs,ok.frf⟩
end
end L2
namespace Pu
open PySem L2
/-- bJ tables of code objects,with bJ names of bJ code dF Ia tell -/
class aR where
 T:List (Addr×Str)
/-- no tables -/
instance (priority:=low) X7:aR:=⟨[]⟩
variable [aR]
/-- what never changes once it is tracked -/
abbrev sq (o:HO):Prop:=∀ps,o≠.tbl ps
/-- Qq a table nor a code object -/
structure Plain (o:HO):Prop where
 st:∀ps,o≠.tbl ps
 nc:∀c q,o≠LamX.CodeO c q
theorem Vh {o:HO}(h:(match o with|.tbl _=>False|.ext _=>False|_=>True)):Plain o:=⟨λps z=>by subst z;exact h,λc q z=>by subst z;exact h⟩
theorem OS {a:Addr}{ws:List bV}:Plain (cg a ws):=by
 refine⟨λps z=>(by unfold cg at z;cases z),λc q z=>?_⟩
 unfold cg LamX.CodeO at z
 have e:=HO.ext.inj z
 -- a heap of code objects alone
 have hg:∀b:Addr,b<c+1->({ objs:=KbV (c+1) { cls:=.none,data:=.fields #[.none,.str q 0] } }:Heap).get? b=some { cls:=.none,data:=.fields #[.none,.str q 0] }:=λb hb=>by
  unfold Heap.get?
  have:(KbV (c+1) ({ cls:=.none,data:=.fields #[.none,.str q 0] }:Obj))[b]? = some { cls:=.none,data:=.fields #[.none,.str q 0] }:=by
   rw [Kcb,if_pos hb]
  simp only [this]
 have e2:=congrFun e ({ objs:=KbV (c+1) { cls:=.none,data:=.fields #[.none,.str q 0] } }:Heap)
 have h2:=e2.mpr ⟨_,_,0,hg c (Kbk _),rfl,rfl⟩
 obtain⟨_,_,xs,_,o,es,ep,h3,_,h4,_⟩:=h2
 have hl:a<c+1:=by
  rcases Kbe a (c+1) with y|y
  ·exact y
  ·exfalso
   unfold Heap.get? at h3
   have:(KbV (c+1) ({ cls:=.none,data:=.fields #[.none,.str q 0] }:Obj))[a]? = none:=by
    rw [Kcb,if_neg (Nat.not_lt.mpr y)]
   simp only [this] at h3
   cases h3
 rw [hg a hl] at h3
 cases h3
 cases h4
theorem xg {vs:List V}:Plain (.lst vs):=Vh trivial
/-- bJ tables stand,and none is frozen -/
structure dM (F H:Hp):Prop where
 t:LamX.Tabs aR.T H
 n:∀a ps,F a≠some (.tbl ps)
abbrev pJ (H:Hp):Prop:=dM (λ_=>none) H
theorem dM.low {F H:Hp}(t:dM F H):pJ H:=⟨t.t,λa ps z=>nomatch z⟩
theorem dM.back {F F' H:Hp}(t:dM F H)(h:∀a o,F' a=some o->F a=some o):dM F' H:=⟨t.t,λa ps z=>t.n a ps (h _ _ z)⟩
theorem dM.xw {F H:Hp}{p:Addr}{o:HO}(t:dM F H)(h:sq o:=by intro ps z;cases z):dM (L2.upd F p o) H:=⟨t.t,λa ps z=>by
 by_cases e:a=p
 ·rw [e,upd_same] at z;exact h ps (Option.some.inj z)
 ·rw [upd_ne e] at z;exact t.n a ps z⟩
theorem rJ {F H H':Hp}(t:dM F H)(h:∀b o,H b=some o->H' b=some o∨Plain o):dM F H':=⟨λp hp=>by
 obtain⟨ps,h1,h2,h3⟩:=t.t p hp
 rcases h _ _ h1 with z|z
 ·refine⟨ps,z,h2,λpos cv hc=>?_⟩
  obtain⟨c,e1,e2⟩:=h3 pos cv hc
  rcases h _ _ e2 with y|y
  ·exact⟨c,e1,y⟩
  ·exact absurd rfl (y.nc c p.2)
 ·exact absurd rfl (z.st ps),t.n⟩
theorem VC {F H H':Hp}(t:dM F H)(h:∀b o,H b=some o->H' b=some o):dM F H':=rJ t λb o e=>.inl (h b o e)
theorem Vi {F H:Hp}{p:Addr}{o:HO}(t:dM F H)(np:H p=none):dM F (upd H p o):=VC t λb u e=>by rw [upd_ne (ne_of_none e np)];exact e
theorem Gq {F H:Hp}{p:Addr}{o o':HO}(t:dM F H)(e:H p=some o)(h:Plain o):dM F (upd H p o'):=rJ t λb u eb=>by
 by_cases z:b=p
 ·subst z
  rw [e] at eb
  cases eb
  exact .inr h
 ·exact .inl (by rw [upd_ne z];exact eb)
theorem Pq {F H:Hp}{p:Addr}{vs:List V}{o':HO}(t:dM F H)(e:H p=some (.lst vs)):dM F (upd H p o'):=Gq t e xg
abbrev ae:=Int×Int×Int
abbrev Vl:=PyData×Bool
mutual
def nd:PyData->Bool
 |.list xs=>fV xs
 |.tuple xs=>fV xs
 |.dict _=>false
 |_=>true
def fV:List PyData->Bool
 |[]=>true
 |x::xs=>nd x && fV xs
end
mutual
theorem nk:∀d:PyData,d.canLay0=true->nd d=true
 |.none,_=>rfl
 |.bool _,_=>rfl
 |.int _,_=>rfl
 |.str _,_=>rfl
 |.list xs,h=>by unfold nd;exact Tf xs (by simpa [PyData.canLay0] using h)
 |.tuple xs,h=>by unfold nd;exact Tf xs (by simpa [PyData.canLay0] using h)
 |.dict kvs,h=>by simp [PyData.canLay0] at h
theorem Tf:∀ds:List PyData,PyData.canLayAll0 ds=true->fV ds=true
 |[],_=>rfl
 |x::xs,h=>by
  have h':x.canLay0=true/\PyData.canLayAll0 xs=true:=by simpa [PyData.canLayAll0] using h
  unfold fV
  rw [nk x h'.1,Tf xs h'.2];rfl
end
theorem FT {d:PyData}(h:SeqAt.shaped d=true):nd d=true:=nk d (SeqAt.canLay_of_shaped h)
/-- a dict with texts as keys,as data -/
abbrev Co (b:Bool)(ks:List Str)(ds:List PyData):PyData:=.dict ((.bool b,.bool true)::(ks.map .str).zip ds)
abbrev EC (ks:List Str)(ds:List PyData):PyData:=Co true ks ds
def E1:List Str->List V->Str->Option V
 |k::ks,v::vs,x=>if k=x then some v else E1 ks vs x
 |_,_,_=>none
structure JL (b:Bool)(ws:List (Key×V))(ks:List Str)(vs:List V)(ds:List PyData):Prop where
 len:ks.length=vs.length
 lend:ks.length=ds.length
 le:ws.length<=ks.length
 int:∀i:Int,valV ws (.inl i)=none
 str:∀x:Str,valV ws (.inr x)=E1 ks vs x
 ord:b=false->ws.map (·.1)=ks.map Sum.inr
/-- an instance,as data: its NB address,its Ej names,what Ia hold -/
abbrev zS (C:Addr)(nm:List Str)(ds:List PyData):PyData:=.dict [(.int (C:Nat),.list (nm.map .str)),(.none,.list ds)]
mutual
inductive Rp (F:Hp):V->PyData->List Addr->Prop
 |non:Rp F .non .none []
 |bl (b:Bool):Rp F (.bl b) (.bool b) []
 |int (i:Int):Rp F (.int i) (.int i) []
 |str (x:Str):Rp F (.str x) (.str x) []
 |lst {a:Addr} {xs:List V} {ds:List PyData} {as:List Addr}:F a=some (.lst xs)->ao F xs ds as->Rp F (.ref a) (.list ds) (a::as)
 |tup {a:Addr} {xs:List V} {ds:List PyData} {as:List Addr}:F a=some (.tup xs)->ao F xs ds as->Rp F (.ref a) (.tuple ds) as
 |tupP {a:Addr} {o:Obj} {xs:List V} {ds:List PyData} {as:List Addr}:F a=some (.frz o (.tup xs))->o.cls=.type "tuple" /\ o.dict=none->ao F xs ds as->Rp F (.ref a) (.dict [(.list [],.tuple ds)]) as
 |kL {a C dx:Addr} {nm:List Str} {vs:List V} {ds:List PyData} {as:List Addr}:F a=some (.ins C dx (nm.zip vs))->nm.length=ds.length->ao F vs ds as->Rp F (.ref a) (.dict [(.int (C:Nat),.list (nm.map .str)),(.none,.list ds)]) as
 |lV {a C dd:Addr} {nm:Str} {o:Obj} {v:V} {d:PyData} {as:List Addr}:F a=some (L2.Xz o)->L2.Yq (.ref C) (some dd) o->F dd=some (.xd [(("value" : Str),v)])->Rp F v d as->Rp F (.ref a) (.dict [(.int (C:Nat),.str nm),(.none,d)]) as
 |lU {b:Bool} {a:Addr} {ws:List (Key×V)} {ks:List Str} {vs:List V} {ds:List PyData} {as:List Addr}:F a=some (.dK ws)->JL b ws ks vs ds->ao F vs ds as->Rp F (.ref a) (Co b ks ds) as
inductive ao (F:Hp):List V->List PyData->List Addr->Prop
 |nil:ao F [] [] []
 |cons {v:V} {vs:List V} {d:PyData} {ds:List PyData} {as bs:List Addr}:Rp F v d as->ao F vs ds bs->ao F (v::vs) (d::ds) (as++bs)
end
section
variable {F F' H H':Hp}{v:V}{d:PyData}{as:List Addr}
mutual
theorem Rp.mono (e:Same F F'):∀{v:V} {d:PyData} {as:List Addr},Rp F v d as->Rp F' v d as
 |_,_,_,.non=>.non
 |_,_,_,.bl b=>.bl b
 |_,_,_,.int i=>.int i
 |_,_,_,.str x=>.str x
 |_,_,_,.lst h r=>.lst (e _ _ h) (ao.mono e r)
 |_,_,_,.tup h r=>.tup (e _ _ h) (ao.mono e r)
 |_,_,_,.tupP h c r=>.tupP (e _ _ h) c (ao.mono e r)
 |_,_,_,.kL h c r=>.kL (e _ _ h) c (ao.mono e r)
 |_,_,_,.lV h z k r=>.lV (e _ _ h) z (e _ _ k) (Rp.mono e r)
 |_,_,_,.lU h c r=>.lU (e _ _ h) c (ao.mono e r)
theorem ao.mono (e:Same F F'):∀{vs:List V} {ds:List PyData} {as:List Addr},ao F vs ds as->ao F' vs ds as
 |_,_,_,.nil=>.nil
 |_,_,_,.cons h r=>.cons (Rp.mono e h) (ao.mono e r)
end
mutual
theorem Rp.dp {K:PySem.W.Frag}:∀{v:V} {d:PyData} {as:List Addr},Rp F v d as->nd d=true->Dp K F v d
 |_,_,_,.non,_=>.non
 |_,_,_,.bl b,_=>.bl b
 |_,_,_,.int i,_=>.int i
 |_,_,_,.str x,_=>.str x
 |_,_,_,.lst h r,n=>.lst (.inl (.inl h)) (ao.dp r (by unfold nd at n;exact n))
 |_,_,_,.tup h r,n=>.tup (.inl (.inl h)) (ao.dp r (by unfold nd at n;exact n))
 |_,_,_,.tupP h c r,n=>by unfold nd at n;cases n
 |_,_,_,.kL h c r,n=>by unfold nd at n;cases n
 |_,_,_,.lV h _ k r,n=>by unfold nd at n;cases n
 |_,_,_,.lU h c r,n=>by unfold nd at n;cases n
theorem ao.dp {K:PySem.W.Frag}:∀{vs:List V} {ds:List PyData} {as:List Addr},ao F vs ds as->fV ds=true->DpAll K F vs ds
 |_,_,_,.nil,_=>.nil
 |_,_,_,.cons h r,n=>by
  unfold fV at n
  obtain⟨n1,n2⟩:=KaP.mp n
  exact .cons (Rp.dp h n1) (ao.dp r n2)
end
mutual
theorem Rp.dom:∀{v:V} {d:PyData} {as:List Addr},Rp F v d as->∀a∈as,∃xs,F a=some (.lst xs)
 |_,_,_,.non,_,h=>by cases h
 |_,_,_,.bl b,_,h=>by cases h
 |_,_,_,.int i,_,h=>by cases h
 |_,_,_,.str x,_,h=>by cases h
 |_,_,_,.lst (xs:=xs) h r,b,hb=>by
  rcases Kal.mp hb with e|e
  ·rw [e];exact⟨xs,h⟩
  ·exact ao.dom r b e
 |_,_,_,.tup h r,b,hb=>ao.dom r b hb
 |_,_,_,.tupP h _ r,b,hb=>ao.dom r b hb
 |_,_,_,.kL h _ r,b,hb=>ao.dom r b hb
 |_,_,_,.lV h _ _ r,b,hb=>Rp.dom r b hb
 |_,_,_,.lU h _ r,b,hb=>ao.dom r b hb
theorem ao.dom:∀{vs:List V} {ds:List PyData} {as:List Addr},ao F vs ds as->∀a∈as,∃xs,F a=some (.lst xs)
 |_,_,_,.nil,_,h=>by cases h
 |_,_,_,.cons h r,b,hb=>by
  rcases Kao.mp hb with e|e
  ·exact Rp.dom h b e
  ·exact ao.dom r b e
end
def del (F:Hp)(a:Addr):Hp:=λb=>if b=a then none else F b
theorem Jb {F:Hp}{a:Addr}:del F a a=none:=by unfold del;rw [if_pos rfl]
theorem v8 {F:Hp}{a b:Addr}(h:b≠a):del F a b=F b:=by unfold del;rw [if_neg h]
mutual
theorem Rp.lF {a:Addr}{ys:List V}(ha:F a=some (.lst ys)):∀{v:V} {d:PyData} {as:List Addr},Rp F v d as->a∉as->Rp (del F a) v d as
 |_,_,_,.non,_=>.non
 |_,_,_,.bl b,_=>.bl b
 |_,_,_,.int i,_=>.int i
 |_,_,_,.str x,_=>.str x
 |_,_,_,.lst (a:=b) h r,hn=>.lst (by rw [v8 (λe=>hn (by rw [e];exact Kaa))];exact h) (ao.lF ha r λe=>hn (Kab _ e))
 |_,_,_,.tup (a:=b) h r,hn=>.tup (by rw [v8 (λe=>by rw [e,ha] at h;cases h)];exact h) (ao.lF ha r hn)
 |_,_,_,.tupP (a:=b) h c r,hn=>.tupP (by rw [v8 (λe=>by rw [e,ha] at h;cases h)];exact h) c (ao.lF ha r hn)
 |_,_,_,.kL (a:=b) h c r,hn=>.kL (by rw [v8 (λe=>by rw [e,ha] at h;cases h)];exact h) c (ao.lF ha r hn)
 |_,_,_,.lV (a:=b) (dd:=b2) h z k r,hn=>.lV (by rw [v8 (λe=>by rw [e,ha] at h;unfold L2.Xz at h;cases h)];exact h) z (by rw [v8 (λe=>by rw [e,ha] at k;cases k)];exact k) (Rp.lF ha r hn)
 |_,_,_,.lU (a:=b) h c r,hn=>.lU (by rw [v8 (λe=>by rw [e,ha] at h;cases h)];exact h) c (ao.lF ha r hn)
theorem ao.lF {a:Addr}{ys:List V}(ha:F a=some (.lst ys)):∀{vs:List V} {ds:List PyData} {as:List Addr},ao F vs ds as->a∉as->ao (del F a) vs ds as
 |_,_,_,.nil,_=>.nil
 |_,_,_,.cons h r,hn=>.cons (Rp.lF ha h λe=>hn (Kac _ e)) (ao.lF ha r λe=>hn (Kaq _ e))
end
theorem ao.len {vs:List V}{ds:List PyData}{as:List Addr}(h:ao F vs ds as):vs.length=ds.length:=by
 induction ds generalizing vs as with
 |nil=>cases h;rfl
 |cons d ds ih=>
  cases h with
  |cons h r=>
   have z:=ih r
   rw [Kad,Kad,z]
theorem ao.get {vs:List V}{ds:List PyData}{as:List Addr}{i:Nat}{d:PyData}(h:ao F vs ds as)(e:ds[i]? = some d):∃v bs,vs[i]? = some v/\Rp F v d bs:=by
 induction ds generalizing vs as i with
 |nil=>cases e
 |cons c ds ih=>
  cases h with
  |cons h r=>
   cases i with
   |zero=>cases e;exact⟨_,_,rfl,h⟩
   |succ i=>
    obtain⟨w,bs,q1,q2⟩:=ih (i:=i) r e
    exact⟨w,bs,q1,q2⟩
theorem ao.app {vs ws:List V}{ds es:List PyData}{as bs:List Addr}(h:ao F vs ds as)(g:ao F ws es bs):ao F (vs++ws) (ds++es) (as++bs):=by
 induction ds generalizing vs as with
 |nil=>cases h;exact g
 |cons d ds ih=>
  cases h with
  |cons h r=>
   rw [KaV]
   exact .cons h (ih r)
theorem ao.drop {vs:List V}{ds:List PyData}{as:List Addr}(h:ao F vs ds as)(n:Nat):∃bs,ao F (vs.drop n) (ds.drop n) bs/\bs.Sublist as:=by
 induction n generalizing vs ds as with
 |zero=>exact⟨as,h,Ka0.refl _⟩
 |succ n ih=>
  cases h with
  |nil=>exact⟨[],.nil,Ka0.refl _⟩
  |cons h r=>
   obtain⟨bs,q,z⟩:=ih r
   exact⟨bs,q,z.trans (Kbo _ _)⟩
theorem ao.take {vs:List V}{ds:List PyData}{as:List Addr}(h:ao F vs ds as)(n:Nat):∃bs,ao F (vs.take n) (ds.take n) bs/\bs.Sublist as:=by
 induction n generalizing vs ds as with
 |zero=>exact⟨[],.nil,List.nil_sublist _⟩
 |succ n ih=>
  cases h with
  |nil=>exact⟨[],.nil,Ka0.refl _⟩
  |cons h r=>
   obtain⟨bs,q,z⟩:=ih r
   exact⟨_,.cons h q,Ka0.append (Ka0.refl _) z⟩
theorem Rp.int_inv {i:Int}(h:Rp F v (.int i) as):v=.int i:=by cases h;rfl
theorem Rp.bool_inv {b:Bool}(h:Rp F v (.bool b) as):v=.bl b:=by cases h;rfl
theorem Rp.str_inv {b:Str}(h:Rp F v (.str b) as):v=.str b:=by cases h;rfl
theorem Rp.none_inv (h:Rp F v .none as):v=.non:=by cases h;rfl
theorem Rp.aM {ds:List PyData}(h:Rp F v (.list ds) as):∃a xs bs,v=.ref a/\F a=some (.lst xs)/\ao F xs ds bs/\as=a::bs:=by
 cases h with
 |lst h r=>exact⟨_,_,_,rfl,h,r,rfl⟩
theorem Rp.bM {ds:List PyData}(h:Rp F v (.tuple ds) as):∃a xs,v=.ref a/\F a=some (.tup xs)/\ao F xs ds as:=by
 cases h with
 |tup h r=>exact⟨_,_,rfl,h,r⟩
end
theorem ao.ints {F:Hp}:∀{ns:List Int} {vs:List V} {as:List Addr},ao F vs (ns.map .int) as->vs=ns.map V.int
 |[],_,_,h=>by cases h;rfl
 |n::ns,_,_,h=>by
  cases h with
  |cons h r=>rw [Rp.int_inv h,ao.ints r];rfl
theorem ao.jV {F:Hp}:∀(ns:List Int),ao F (ns.map V.int) (ns.map .int) []
 |[]=>.nil
 |n::ns=>.cons (as:=[]) (.int n) (ao.jV ns)
theorem ao.bools {F:Hp}:∀{ns:List Bool} {vs:List V} {as:List Addr},ao F vs (ns.map .bool) as->vs=ns.map V.bl
 |[],_,_,h=>by cases h;rfl
 |n::ns,_,_,h=>by
  cases h with
  |cons h r=>rw [Rp.bool_inv h,ao.bools r];rfl
mutual
def aH:PyData->Bool
 |.none=>true
 |.bool _=>true
 |.int _=>true
 |.str _=>true
 |.list _=>false
 |.tuple xs=>eR xs
 |.dict _=>false
def eR:List PyData->Bool
 |[]=>true
 |x::xs=>aH x && eR xs
end
mutual
theorem Rp.aH {F:Hp}:∀{v:V} {d:PyData} {as:List Addr},Rp F v d as->aH d=true->as=[]
 |_,_,_,.non,_=>rfl
 |_,_,_,.bl b,_=>rfl
 |_,_,_,.int i,_=>rfl
 |_,_,_,.str x,_=>rfl
 |_,_,_,.lst h r,e=>by unfold Pu.aH at e;cases e
 |_,_,_,.tup h r,e=>ao.aH r (by unfold Pu.aH at e;exact e)
 |_,_,_,.tupP h _ r,e=>by unfold Pu.aH at e;cases e
 |_,_,_,.kL h _ r,e=>by unfold Pu.aH at e;cases e
 |_,_,_,.lV h _ _ r,e=>by unfold Pu.aH at e;cases e
 |_,_,_,.lU h _ r,e=>by unfold Pu.aH at e;cases e
theorem ao.aH {F:Hp}:∀{vs:List V} {ds:List PyData} {as:List Addr},ao F vs ds as->eR ds=true->as=[]
 |_,_,_,.nil,_=>rfl
 |_,_,_,.cons h r,e=>by
  unfold eR at e
  obtain⟨e1,e2⟩:=KaP.mp e
  rw [Rp.aH h e1,ao.aH r e2];rfl
end
inductive Slot where
 |emp
 |dat (d:PyData)
 |own (d:PyData)
 |aO (ds:List PyData) (o:Bool)
 |cT (f:List (Key×PyData))
 |bC
 |fix (v:V)
 |rR (d:PyData)
 |ins (C:Addr) (nm:List Str) (ds:List PyData)
 |obj (C a:Addr) (nm:List Str) (ds:List PyData)
 |eV (f:List (NestedKey×PyData))
 |bE (es:List (NestedKey×PyData×PyData))
 |iA (es:List (NestedKey×PyData×PyData))
 |fn (f c:Addr) (q:Str)
 |qM (B:List Addr) (C a:Addr) (nm:List Str) (ds:List PyData)
 |qq (B:List Addr) (C:Addr) (nm:List Str) (ds:List PyData)
 |Fc (o:Option (Addr×Addr)) (ks:List Str) (ds:List PyData) (f:List (Str×PyData))
def zm:List (NestedKey×PyData)->NestedKey->Option PyData
 |[],_=>none
 |(k,d)::r,j=>if k=j then some d else zm r j
/-- what a dict holds,bJ newest first -/
def b8:List (Key×PyData)->Key->Option PyData
 |[],_=>none
 |(k,d)::r,j=>if k=j then some d else b8 r j
def cS (F:Hp):Option V->Option PyData->Prop
 |none,none=>True
 |some v,some d=>∃as,Rp F v d as
 |_,_=>False
theorem cS.mono {F F':Hp}(e:Same F F'):∀{x:Option V} {d:Option PyData},cS F x d->cS F' x d
 |none,none,_=>True.intro
 |some v,some d,h=>by obtain⟨as,h⟩:=h;exact⟨as,h.mono e⟩
 |none,some _,h=>h
 |some _,none,h=>h
/-- bJ frozen heap,and bJ lists at fp as Ia stand -/
def E2 (F H:Hp)(fp:List Addr):Hp:=λa=>if a∈fp then H a else F a
theorem Jq {F H:Hp}{fp:List Addr}{a:Addr}(h:a∈fp):E2 F H fp a=H a:=if_pos h
theorem uQ {F H:Hp}{fp:List Addr}{a:Addr}(h:a∉fp):E2 F H fp a=F a:=if_neg h
theorem Pf {F H F' H':Hp}{fp:List Addr}(s:Same F F')(h:∀a∈fp,∀o,H a=some o->H' a=some o):Same (E2 F H fp) (E2 F' H' fp):=λa o e=>by
 by_cases m:a∈fp
 ·rw [Jq m] at e ⊢;exact h a m o e
 ·rw [uQ m] at e ⊢;exact s a o e
/-- bJ lists within never change as tables do -/
theorem Rp.stay {F H:Hp}{fp:List Addr}{v:V}{d:PyData}(r:Rp (E2 F H fp) v d fp){a:Addr}{o:HO}(m:a∈fp)(e:H a=some o):sq o:=by
 obtain⟨xs,hx⟩:=r.dom a m
 rw [Jq m,e] at hx
 cases hx
 intro ps z;cases z
/-- an entry of a dict with tuples as keys: its key and its value as data -/
def gv (F:Hp)(p:bV)(e:NestedKey×PyData×PyData):Prop:=p.1=e.1/\cQ F p.1 p.2.1/\(∃as,Rp F (.ref p.2.1) e.2.1 as)/\∃as,Rp F p.2.2 e.2.2 as
theorem gv.mono {F F':Hp}{p:bV}{e:NestedKey×PyData×PyData}(s:Same F F')(h:gv F p e):gv F' p e:=⟨h.1,h.2.1.mono s,h.2.2.1.imp λ_ r=>r.mono s,h.2.2.2.imp λ_ r=>r.mono s⟩
theorem IX {F F':Hp}(s:Same F F'){ws:List bV}{es:List (NestedKey×PyData×PyData)}(h:Paired (gv F) ws es):Paired (gv F') ws es:=by
 induction h with
 |nil=>exact .nil
 |cons h _ ih=>exact .cons (h.mono s) ih
/-- bJ last name of a world -/
abbrev MT:Str := "rows"
def uq (sk:Option Addr)(F H:Hp)(x:Option V)(sl:Slot)(fp:List Addr):Prop:=match sl with
 |.emp=>fp=[]
 |.dat d=>fp=[]/\∃v as,x=some v/\Rp F v d as
 |.own d=>∃v,x=some v/\Rp F v d fp
 |.aO ds o=>∃a vs as,x=some (.ref a)/\H a=some (.lst vs)/\F a=none/\ao F vs ds as/\fp=a::(if o then as else [])
 |.cT f=>∃a ws,x=some (.ref a)/\H a=some (.dK ws)/\F a=none/\ws.length<=f.length/\(∀k:Key,cS F (valV ws k) (b8 f k))/\fp=[a]
 |.eV f=>∃a ws,x=some (.ref a)/\H a=some (cg a ws)/\F a=none/\(ws.length<=f.length/\∀p∈ws,cQ F p.1 p.2.1)/\(∀k:NestedKey,cS F (cH ws k) (zm f k))/\fp=[a]
 |.iA es=>fp=[]/\∃a od ws,x=some (.ref a)/\F a=some (.frz od (cg a ws))/\Paired (gv F) ws es
 |.bE es=>∃a ws,x=some (.ref a)/\H a=some (cg a ws)/\F a=none/\Paired (gv F) ws es/\fp=[a]
 |.bC=>fp=[]/\∃a,x=some (.ref a)/\sk=some a
 |.fix v=>fp=[]/\x=some v
 |.fn f c q=>fp=[]/\x=some (.ref f)/\F c=some (LamX.CodeO c q)
 |.rR d=>∃v,x=some v/\Rp (E2 F H fp) v d fp/\∀a∈fp,F a=none
 |.ins C nm ds=>fp=[]/\∃a dx vs as,x=some (.ref a)/\F a=some (.ins C dx (nm.zip vs))/\nm.length=ds.length/\ao F vs ds as
 |.obj C a nm ds=>∃dx vs as,x=some (.ref a)/\H a=some (.ins C dx (nm.zip vs))/\F a=none/\H dx=some (.own a)/\F dx=none/\nm.length=ds.length/\ao F vs ds as/\fp=[a,dx]
 |.qM B C a nm ds=>∃dx vs as,x=some (.ref a)/\H a=some (.ins C dx (nm.zip vs))/\F a=none/\H dx=some (.own a)/\F dx=none/\nm.length=ds.length/\ao F vs ds as/\(∀b∈B,F b≠none/\b∉as)/\fp=[a,dx]
 |.qq B C nm ds=>fp=[]/\∃a dx vs as,x=some (.ref a)/\F a=some (.ins C dx (nm.zip vs))/\nm.length=ds.length/\ao F vs ds as/\∀b∈B,b∉as
 |.Fc o ks ds f=>∃a b ws vs as rs bs,x=some (.ref a)/\(∀p,o=some p->p=(a,b))/\H a=some (.dK ws)/\F a=none/\H b=some (.dK rs)/\F b=none/\JL true ws (ks++[MT]) (vs++[.ref b]) (ds++[.none])/\ao F vs ds as/\rs.map (·.1)=f.map (λp=>Sum.inr p.1)/\ao F (rs.map (·.2)) (f.map (·.2)) bs/\fp=[a,b]
inductive Slots (sk:Option Addr)(F H:Hp):List (Option V)->List Slot->List (List Addr)->Prop
 |nil:Slots sk F H [] [] []
 |cons {x:Option V} {xs:List (Option V)} {sl:Slot} {JH:List Slot} {fp:List Addr} {aj:List (List Addr)}:uq sk F H x sl fp->Slots sk F H xs JH aj->Slots sk F H (x::xs) (sl::JH) (fp::aj)
def jn (s:ae):List V:=[.int s.1,.int s.2.1,.int s.2.2]
structure aZ (sk:Option Addr)(F H:Hp)(s:ae):Prop where
 at':∀a,sk=some a->H a=some (.lst (jn s))/\F a=none
 tab:dM F H
instance (sk:Option Addr)(F H:Hp)(s:ae):CoeFun (aZ sk F H s) λ_=>∀a,sk=some a->H a=some (.lst (jn s))/\F a=none:=⟨aZ.at'⟩
/-- an Cy step -/
structure Step (sk:Option Addr)(F H F' H':Hp):Prop where
 sub:Same F F'
 sub':Same F' H'
 fr:∀(a:Addr) (o:HO) (_:sk≠some a) (_:H a=some o) (_:sq o:=by first|assumption|(intro ps z;cases z;done)|(intro ps z;unfold cg at z;cases z;done)),H' a=some o
 dm:∀a,H a≠none->H' a≠none
 new:∀a o,F' a=some o->F a=some o∨H a=none
/-- a step dF W4 all as it is and may make JJ new -/
structure aY (F H F' H':Hp):Prop where
 sub:Same F F'
 sub':Same F' H'
 fr:∀(a:Addr) (o:HO) (_:(none:Option Addr)≠some a) (_:H a=some o),H' a=some o
 dm:∀a,H a≠none->H' a≠none
 new:∀a o,F' a=some o->F a=some o∨H a=none
 nt:(∀a ps,F a≠some (.tbl ps))->∀a ps,F' a≠some (.tbl ps)
theorem aY.any {sk:Option Addr}{F H F' H':Hp}(h:aY F H F' H'):Step sk F H F' H':=⟨h.sub,h.sub',λa o _ e _=>h.fr a o nofun e,h.dm,h.new⟩
theorem Step.refl {sk:Option Addr}{F H:Hp}(h:Same F H):Step sk F H F H:=⟨Same.refl _,h,λ_ _ _ h _=>h,λ_ h=>h,λ_ _ h=>.inl h⟩
theorem Step.trans {sk:Option Addr}{F H F1 H1 F2 H2:Hp}(a:Step sk F H F1 H1)(b:Step sk F1 H1 F2 H2):Step sk F H F2 H2:=by
 refine⟨a.sub.trans b.sub,b.sub',λx o hx h hs=>b.fr x o hx (a.fr x o hx h hs) hs,λx h=>b.dm x (a.dm x h),λx o h=>?_⟩
 rcases b.new x o h with h|h
 ·exact a.new x o h
 ·refine .inr ?_
  cases e:H x with
  |none=>rfl
  |some u=>exact absurd h (a.dm x (by rw [e];exact nofun))
/-- a new object -/
theorem Step.alloc {sk:Option Addr}{F H:Hp}{p:Addr}{o:HO}(h:Same F H)(np:H p=none):Step sk F H (upd F p o) (upd H p o):=by
 have nF:F p=none:=h.free np
 refine⟨λa u e=>?_,λa u e=>?_,λa u _ e _=>?_,λa e=>?_,λa u e=>?_⟩
 ·rw [upd_ne (ne_of_none e nF)];exact e
 ·by_cases q:a=p
  ·rw [q,upd_same] at e ⊢;exact e
  ·rw [upd_ne q] at e ⊢;exact h a u e
 ·rw [upd_ne (ne_of_none e np)];exact e
 ·by_cases q:a=p
  ·rw [q,upd_same];exact nofun
  ·rw [upd_ne q];exact e
 ·by_cases q:a=p
  ·rw [q];exact .inr np
  ·rw [upd_ne q] at e;exact .inl e
theorem aY.alloc {F H:Hp}{p:Addr}{o:HO}(h:Same F H)(np:H p=none)(ho:sq o:=by intro ps z;cases z):aY F H (upd F p o) (upd H p o):=
 let st:=Step.alloc (sk:=none) (o:=o) h np
 ⟨st.sub,st.sub',λa u _ e=>by rw [upd_ne (ne_of_none e np)];exact e,st.dm,st.new,λh a ps z=>by
  by_cases e:a=p
  ·rw [e,upd_same] at z;exact ho ps (Option.some.inj z)
  ·rw [upd_ne e] at z;exact h a ps z⟩
theorem aY.refl {F H:Hp}(h:Same F H):aY F H F H:=⟨Same.refl _,h,λ_ _ _ h=>h,λ_ h=>h,λ_ _ h=>.inl h,λh=>h⟩
theorem aY.trans {F H F1 H1 F2 H2:Hp}(a:aY F H F1 H1)(b:aY F1 H1 F2 H2):aY F H F2 H2:=
 let st:=(a.any (sk:=none)).trans b.any
 ⟨st.sub,st.sub',λx o hx h=>b.fr x o hx (a.fr x o hx h),st.dm,st.new,λh=>b.nt (a.nt h)⟩
theorem rD {F F':Hp}{b:Addr}(s:Same F F')(h:F b≠none):F' b≠none:=by
 cases q:F b with
 |none=>exact absurd q h
 |some o=>rw [s b o q];exact nofun
theorem uq.step {sk:Option Addr}{F H F' H':Hp}{x:Option V}{sl:Slot}{fp:List Addr}(st:Step sk F H F' H')(hs:∀a,sk=some a->a∉fp)(h:uq sk F H x sl fp):uq sk F' H' x sl fp:=by
 cases sl with
 |emp=>exact h
 |dat d=>obtain⟨e,v,as,e1,r⟩:=h;exact⟨e,v,as,e1,r.mono st.sub⟩
 |own d=>obtain⟨v,e1,r⟩:=h;exact⟨v,e1,r.mono st.sub⟩
 |aO ds o=>
  obtain⟨a,vs,as,e1,e2,e3,r,e4⟩:=h
  refine⟨a,vs,as,e1,st.fr a _ (λe=>hs a e (by rw [e4];exact Kaa)) e2,?_,r.mono st.sub,e4⟩
  cases q:F' a with
  |none=>rfl
  |some u=>
   rcases st.new a u q with z|z
   ·rw [e3] at z;cases z
   ·rw [e2] at z;cases z
 |eV f=>
  obtain⟨a,ws,e1,e2,e3,e4,r,e5⟩:=h
  refine⟨a,ws,e1,st.fr a _ (λe=>hs a e (by rw [e5];exact Kaa)) e2,?_,⟨e4.1,λp hp=>(e4.2 p hp).mono st.sub⟩,λk=>(r k).mono st.sub,e5⟩
  cases q:F' a with
  |none=>rfl
  |some u=>
   rcases st.new a u q with z|z
   ·rw [e3] at z;cases z
   ·rw [e2] at z;cases z
 |iA es=>obtain⟨e,a,od,ws,e1,e2,r⟩:=h;exact⟨e,a,od,ws,e1,st.sub _ _ e2,IX st.sub r⟩
 |bE es=>
  obtain⟨a,ws,e1,e2,e3,r,e5⟩:=h
  refine⟨a,ws,e1,st.fr a _ (λe=>hs a e (by rw [e5];exact Kaa)) e2,?_,IX st.sub r,e5⟩
  cases q:F' a with
  |none=>rfl
  |some u=>
   rcases st.new a u q with z|z
   ·rw [e3] at z;cases z
   ·rw [e2] at z;cases z
 |cT f=>
  obtain⟨a,ws,e1,e2,e3,e4,r,e5⟩:=h
  refine⟨a,ws,e1,st.fr a _ (λe=>hs a e (by rw [e5];exact Kaa)) e2,?_,e4,λk=>(r k).mono st.sub,e5⟩
  cases q:F' a with
  |none=>rfl
  |some u=>
   rcases st.new a u q with z|z
   ·rw [e3] at z;cases z
   ·rw [e2] at z;cases z
 |bC=>exact h
 |fix v=>exact h
 |fn f c q=>exact⟨h.1,h.2.1,st.sub _ _ h.2.2⟩
 |rR d=>
  obtain⟨v,e1,r,e2⟩:=h
  refine⟨v,e1,r.mono (Pf st.sub λa m o e=>st.fr a o (λz=>hs a z m) e (r.stay m e)),λa m=>?_⟩
  cases q:F' a with
  |none=>rfl
  |some u=>
   rcases st.new a u q with z|z
   ·rw [e2 a m] at z;cases z
   ·obtain⟨xs,hx⟩:=r.dom a m
    rw [Jq m,z] at hx;cases hx
 |ins C nm ds=>obtain⟨e,a,dx,vs,as,e1,e2,e3,r⟩:=h;exact⟨e,a,dx,vs,as,e1,st.sub _ _ e2,e3,r.mono st.sub⟩
 |obj C a nm ds=>
  obtain⟨dx,vs,as,e1,e2,e3,e4,e5,e6,r,e7⟩:=h
  have gone:∀{b:Addr} {o:HO},H b=some o->F b=none->F' b=none:=λ{b o} h1 h2=>by
   cases q:F' b with
   |none=>rfl
   |some u=>
    rcases st.new b u q with z|z
    ·rw [h2] at z;cases z
    ·rw [h1] at z;cases z
  exact⟨dx,vs,as,e1,st.fr a _ (λe=>hs a e (by rw [e7];exact Kaa)) e2,gone e2 e3,st.fr dx _ (λe=>hs dx e (by rw [e7];exact Kab _ Kaa)) e4,gone e4 e5,e6,r.mono st.sub,e7⟩
 |Fc o ks ds f=>
  obtain⟨a,b,ws,vs,as,rs,bs,e1,eo,e2,e3,e4,e5,e6,r,e7,e8,e9⟩:=h
  have gone:∀{b:Addr} {o:HO},H b=some o->F b=none->F' b=none:=λ{b o} h1 h2=>by
   cases q:F' b with
   |none=>rfl
   |some u=>
    rcases st.new b u q with z|z
    ·rw [h2] at z;cases z
    ·rw [h1] at z;cases z
  exact⟨a,b,ws,vs,as,rs,bs,e1,eo,st.fr a _ (λe=>hs a e (by rw [e9];exact Kaa)) e2,gone e2 e3,st.fr b _ (λe=>hs b e (by rw [e9];exact Kab _ Kaa)) e4,gone e4 e5,e6,r.mono st.sub,e7,e8.mono st.sub,e9⟩
 |qq B C nm ds=>obtain⟨e,a,dx,vs,as,e1,e2,e3,r,hB⟩:=h;exact⟨e,a,dx,vs,as,e1,st.sub _ _ e2,e3,r.mono st.sub,hB⟩
 |qM B C a nm ds=>
  obtain⟨dx,vs,as,e1,e2,e3,e4,e5,e6,r,hB,e7⟩:=h
  have gone:∀{b:Addr} {o:HO},H b=some o->F b=none->F' b=none:=λ{b o} h1 h2=>by
   cases q:F' b with
   |none=>rfl
   |some u=>
    rcases st.new b u q with z|z
    ·rw [h2] at z;cases z
    ·rw [h1] at z;cases z
  exact⟨dx,vs,as,e1,st.fr a _ (λe=>hs a e (by rw [e7];exact Kaa)) e2,gone e2 e3,st.fr dx _ (λe=>hs dx e (by rw [e7];exact Kab _ Kaa)) e4,gone e4 e5,e6,r.mono st.sub,λb m=>⟨rD st.sub (hB b m).1,(hB b m).2⟩,e7⟩
theorem Slots.step {sk:Option Addr}{F H F' H':Hp}{σ:List (Option V)}{ρ:List Slot}{aj:List (List Addr)}(st:Step sk F H F' H')(hs:∀a,sk=some a->a∉aj.flatten)(h:Slots sk F H σ ρ aj):Slots sk F' H' σ ρ aj:=by
 induction h with
 |nil=>exact .nil
 |cons h r ih=>
  refine .cons (h.step st λa e m=>hs a e ?_) (ih λa e m=>hs a e ?_)
  ·rw [Kar];exact Kac _ m
  ·rw [Kar];exact Kaq _ m
theorem Slots.get {sk:Option Addr}{F H:Hp}{σ:List (Option V)}{ρ:List Slot}{aj:List (List Addr)}{i:Nat}{sl:Slot}(h:Slots sk F H σ ρ aj)(e:ρ[i]? = some sl):∃x fp,σ[i]? = some x/\aj[i]? = some fp/\uq sk F H x sl fp:=by
 induction h generalizing i with
 |nil=>cases e
 |cons h r ih=>
  cases i with
  |zero=>cases e;exact⟨_,_,rfl,rfl,h⟩
  |succ i=>exact ih e
theorem Slots.set {sk:Option Addr}{F H:Hp}{σ:List (Option V)}{ρ:List Slot}{aj:List (List Addr)}{i:Nat}{x:Option V}{sl:Slot}{fp:List Addr}(h:Slots sk F H σ ρ aj)(q:uq sk F H x sl fp):Slots sk F H (σ.set i x) (ρ.set i sl) (aj.set i fp):=by
 induction h generalizing i with
 |nil=>exact .nil
 |cons h r ih=>
  cases i with
  |zero=>exact .cons q r
  |succ i=>exact .cons h ih
theorem Slots.length {sk:Option Addr}{F H:Hp}{σ:List (Option V)}{ρ:List Slot}{aj:List (List Addr)}(h:Slots sk F H σ ρ aj):σ.length=ρ.length:=by
 induction h with
 |nil=>rfl
 |cons h r ih=>simp [ih]
theorem vD {aj:List (List Addr)}{fp:List Addr}{i:Nat}(h:(fp++aj.flatten).Nodup):(aj.set i fp).flatten.Nodup/\∀a∈(aj.set i fp).flatten,a∈fp∨a∈aj.flatten:=by
 induction aj generalizing i with
 |nil=>exact⟨KaI,λa m=>by cases m⟩
 |cons x xs ih=>
  rw [Kar] at h
  cases i with
  |zero=>
   show ((fp::xs).flatten).Nodup/\_
   rw [Kar]
   refine⟨?_,λa m=>?_⟩
   ·exact h.sublist (Ka0.append (Ka0.refl _) (Kbo _ _))
   ·rcases Kao.mp (show a∈fp++xs.flatten by simpa using m) with e|e
    ·exact .inl e
    ·exact .inr (by simp only [Kar,Kao];exact .inr e)
  |succ i=>
   have h1:(fp++xs.flatten).Nodup:=h.sublist (Ka0.append (Ka0.refl _) (Kbo _ _))
   obtain⟨n1,n2⟩:=ih (i:=i) h1
   show ((x::xs.set i fp).flatten).Nodup/\_
   rw [Kar]
   have hx:(x++xs.flatten).Nodup:=(Kaj.mp h).2.1
   have hd:=(Kaj.mp h).2.2
   refine⟨Kaj.mpr ⟨(Kaj.mp hx).1,n1,λa ma b mb e=>?_⟩,λa m=>?_⟩
   ·subst e
    rcases n2 a mb with z|z
    ·exact hd a z a (Kac _ ma) rfl
    ·exact (Kaj.mp hx).2.2 a ma a z rfl
   ·have m2:a∈x++(xs.set i fp).flatten:=by simpa using m
    rcases Kao.mp m2 with e|e
    ·exact .inr (by simp only [Kar,Kao];exact .inl e)
    ·rcases n2 a e with z|z
     ·exact .inl z
     ·exact .inr (by simp only [Kar,Kao];exact .inr z)
/-- what slot i holds goes out -/
theorem yP {aj:List (List Addr)}{fp:List Addr}{i:Nat}(h:aj.flatten.Nodup)(e:aj[i]? = some fp):(fp++(aj.set i []).flatten).Nodup/\∀a∈fp++(aj.set i []).flatten,a∈aj.flatten:=by
 induction aj generalizing i with
 |nil=>cases e
 |cons x xs ih=>
  rw [Kar] at h
  cases i with
  |zero=>
   have e2:x=fp:=Option.some.inj e
   subst e2
   show (x++([]::xs).flatten).Nodup/\∀a∈x++([]::xs).flatten,_
   rw [Kar,Kar,Ka5]
   exact⟨h,λa m=>m⟩
  |succ i=>
   have e':xs[i]? = some fp:=e
   have hx:=Kaj.mp h
   obtain⟨n1,n2⟩:=ih hx.2.1 e'
   show (fp++(x::xs.set i []).flatten).Nodup/\∀a∈fp++(x::xs.set i []).flatten,_
   rw [Kar,Kar]
   have n3:=Kaj.mp n1
   refine⟨Kaj.mpr ⟨n3.1,Kaj.mpr ⟨hx.1,n3.2.1,λa ma b mb z=>hx.2.2 a ma b (n2 b (Kaq _ mb)) z⟩,λa ma b mb z=>?_⟩,λa m=>?_⟩
   ·rcases Kao.mp mb with q|q
    ·exact hx.2.2 b q a (n2 a (Kac _ ma)) z.symm
    ·exact n3.2.2 a ma b q z
   ·rcases Kao.mp m with q|q
    ·exact Kaq _ (n2 a (Kac _ q))
    ·rcases Kao.mp q with q|q
     ·exact Kac _ q
     ·exact Kaq _ (n2 a (Kaq _ q))
end Pu
namespace Pu
variable [aR]
open PySem L2
abbrev Frag:=PySem.W.Frag
abbrev D8:=List Slot->ae->Option (Vl×ae)
theorem aZ.keep {sk:Option Addr}{F H F' H':Hp}{s:ae}(h:aZ sk F H s)(st:aY F H F' H'):aZ sk F' H' s:=by
 refine⟨λa e=>?_,⟨(VC h.tab λb o e=>st.fr b o nofun e).t,st.nt h.tab.n⟩⟩
 obtain⟨h1,h2⟩:=h a e
 refine⟨st.fr a _ nofun h1,?_⟩
 cases q:F' a with
 |none=>rfl
 |some u=>
  rcases st.new a u q with z|z
  ·rw [h2] at z;cases z
  ·rw [h1] at z;cases z
structure Pre (sk:Option Addr)(F H:Hp)(σ:L2.St)(ρ:List Slot)(aj:List (List Addr))(s:ae):Prop where
 sub:Same F H
 aW:aZ sk F H s
 slots:Slots sk F H σ ρ aj
 jW:∀a,sk=some a->a∉aj.flatten
 dj:aj.flatten.Nodup
theorem Pre.next {sk:Option Addr}{F H F' H':Hp}{σ:L2.St}{ρ:List Slot}{aj:List (List Addr)}{s s':ae}(p:Pre sk F H σ ρ aj s)(st:Step sk F H F' H')(h:aZ sk F' H' s'):Pre sk F' H' σ ρ aj s':=
 ⟨st.sub',h,p.slots.step st p.jW,p.jW,p.dj⟩
/-- what is known of a new value -/
def bx (b:Bool)(H:Hp)(as:List Addr):Prop:=b=true->as.Nodup/\∀a∈as,H a=none
theorem bx.nil {b:Bool}{H:Hp}:bx b H []:=λ_=>⟨KaI,λa m=>by cases m⟩
theorem bx.no {H:Hp}{as:List Addr}:bx false H as:=λh=>by cases h
theorem bx.back {b:Bool}{H H':Hp}{as:List Addr}(h:bx b H' as)(dm:∀a,H a≠none->H' a≠none):bx b H as:=λe=>by
 obtain⟨h1,h2⟩:=h e
 refine⟨h1,λa m=>?_⟩
 cases q:H a with
 |none=>rfl
 |some u=>exact absurd (h2 a m) (dm a (by rw [q];exact nofun))
def Y6 (t:Frag->TE)(ev:D8):Prop:=∀(K:Frag) {sk:Option Addr} {F H:Hp} {σ:L2.St} {ρ:List Slot} {aj:List (List Addr)} {s:ae} {vl:Vl} {s':ae} {Q:VK},Pre sk F H σ ρ aj s->ev ρ s=some (vl,s') ->
 (∀v F' H' as,Step sk F H F' H'->aZ sk F' H' s'->Rp F' v vl.1 as->bx vl.2 H as->Q v H')->t K σ H Q
structure SE where
 t:Frag->TE
 ev:D8
 ok:Y6 t ev
def Ze (t:Frag->TT)(ev:List Slot->ae->Option (Bool×ae)):Prop:=∀(K:Frag) {sk:Option Addr} {F H:Hp} {σ:L2.St} {ρ:List Slot} {aj:List (List Addr)} {s:ae} {b:Bool} {s':ae} {Q:Bool->Hp->Prop},Pre sk F H σ ρ aj s->ev ρ s=some (b,s') ->
 (∀F' H',Step sk F H F' H'->aZ sk F' H' s'->Q b H')->t K σ H Q
structure ST where
 t:Frag->TT
 ev:List Slot->ae->Option (Bool×ae)
 ok:Ze t ev
/-- a list of EI -/
def Y4 (t:Frag->TA)(ev:List Slot->ae->Option (List Vl×ae)):Prop:=∀(K:Frag) {sk:Option Addr} {F H:Hp} {σ:L2.St} {ρ:List Slot} {aj:List (List Addr)} {s:ae} {eX:List Vl} {s':ae} {Q:List V->Hp->Prop},Pre sk F H σ ρ aj s->ev ρ s=some (eX,s') ->
 (∀vs F' H' as,Step sk F H F' H'->aZ sk F' H' s'->ao F' vs (eX.map (·.1)) as->bx (eX.all λz=>z.2 ||aH z.1) H as->Q vs H')->t K σ H Q
structure SA where
 t:Frag->TA
 ev:List Slot->ae->Option (List Vl×ae)
 ok:Y4 t ev
def ai (i:Nat):SE where
 t:=λ_=>tVar i
 ev:=λρ s=>match ρ[i]? with
  |some (.dat d)=>some ((d,false),s)
  |some (.own d)=>some ((d,false),s)
  |_=>none
 ok:=by
  intro K sk F H σ ρ aj s vl s' Q p h q
  dsimp only at h
  split at h
  ·rename_i d e
   cases h
   obtain⟨x,fp,e1,e2,z,v,as,e3,r⟩:=p.slots.get e
   exact⟨v,by rw [e1,e3],q v F H as (.refl p.sub) p.aW r .no⟩
  ·rename_i d e
   cases h
   obtain⟨x,fp,e1,e2,v,e3,r⟩:=p.slots.get e
   exact⟨v,by rw [e1,e3],q v F H fp (.refl p.sub) p.aW r .no⟩
  ·cases h
def SE.ab (i:Int):SE:=⟨λ_=>tC (.int i),λ_ s=>some ((.int i,true),s),by
 intro K sk F H σ ρ aj s vl s' Q p h q
 cases h
 exact q _ F H [] (.refl p.sub) p.aW (.int i) .nil⟩
def SE.bool (i:Bool):SE:=⟨λ_=>tC (.bl i),λ_ s=>some ((.bool i,true),s),by
 intro K sk F H σ ρ aj s vl s' Q p h q
 cases h
 exact q _ F H [] (.refl p.sub) p.aW (.bl i) .nil⟩
def SE.non:SE:=⟨λ_=>tC .non,λ_ s=>some ((.none,true),s),by
 intro K sk F H σ ρ aj s vl s' Q p h q
 cases h
 exact q _ F H [] (.refl p.sub) p.aW .non .nil⟩
def SE.str (x:Str):SE:=⟨λ_=>tC (.str x),λ_ s=>some ((.str x,true),s),by
 intro K sk F H σ ρ aj s vl s' Q p h q
 cases h
 exact q _ F H [] (.refl p.sub) p.aW (.str x) .nil⟩
def SA.nil:SA:=⟨λ_=>tNil,λ_ s=>some ([],s),by
 intro K sk F H σ ρ aj s vl s' Q p h q
 cases h
 exact q [] F H [] (.refl p.sub) p.aW .nil .nil⟩
theorem bx.app {b c:Bool}{d:PyData}{F1 F2 H H1:Hp}{v:V}{as bs:List Addr}(r:Rp F1 v d as)(s1:Same F1 H1)(h:bx b H as)(g:bx c H1 bs)(dm:∀a,H a≠none->H1 a≠none):bx ((b ||aH d) && c) H (as++bs):=λe=>by
 obtain⟨e1,e2⟩:=KaP.mp e
 obtain⟨g1,g2⟩:=g e2
 have h1:as.Nodup/\∀a∈as,H a=none:=by
  rcases Kbb.mp e1 with z|z
  ·exact h z
  ·rw [r.aH z];exact⟨KaI,λa m=>by cases m⟩
 have g3:=(bx.back g dm e2).2
 refine⟨Kaj.mpr ⟨h1.1,g1,λa ma b mb z=>?_⟩,λa m=>?_⟩
 ·subst z
  obtain⟨xs,hx⟩:=r.dom a ma
  have:=g2 a mb
  rw [s1 a _ hx] at this
  cases this
 ·rcases Kao.mp m with z|z
  ·exact h1.2 a z
  ·exact g3 a z
def SA.cons (e:SE)(r:SA):SA where
 t:=λK=>tCons (e.t K) (r.t K)
 ev:=λρ s=>(e.ev ρ s).bind λx=>(r.ev ρ x.2).bind λy=>some (x.1::y.1,y.2)
 ok:=by
  intro K sk F H σ ρ aj s vl s' Q p h q
  obtain⟨⟨x,s1⟩,h1,h⟩:=aI h
  obtain⟨⟨y,s2⟩,h2,h⟩:=aI h
  cases h
  refine e.ok K p h1 λv F1 H1 as st1 k1 r1 f1=>?_
  refine r.ok K (p.next st1 k1) h2 λvs F2 H2 bs st2 k2 r2 f2=>?_
  refine q _ F2 H2 (as++bs) (st1.trans st2) k2 (.cons (r1.mono st2.sub) r2) ?_
  exact bx.app (F2:=F2) r1 st1.sub' f1 f2 st1.dm
def SE.tup (a:SA):SE where
 t:=λK=>tTup (a.t K)
 ev:=λρ s=>(a.ev ρ s).bind λx=>if x.1.length<=100000 then some ((.tuple (x.1.map (·.1)),x.1.all λz=>z.2 ||aH z.1),x.2) else none
 ok:=by
  intro K sk F H σ ρ aj s vl s' Q p h q
  obtain⟨⟨x,s1⟩,h1,h⟩:=aI h
  split at h
  ·rename_i hl
   cases h
   refine a.ok K p h1 λvs F1 H1 as st k r f=>⟨?_,λpp np=>?_⟩
   ·have:=r.len
    rw [Kaf] at this
    rw [this]
    exact Kaw hl (by decide)
   ·have sa:aY F1 H1 (upd F1 pp (.tup vs)) (upd H1 pp (.tup vs)):=.alloc st.sub' np
    exact q _ _ _ as (st.trans sa.any) (k.keep sa) (.tup upd_same (r.mono sa.sub)) f
  ·cases h
def SE.lst (a:SA):SE where
 t:=λK=>tLst (a.t K)
 ev:=λρ s=>(a.ev ρ s).bind λx=>if x.1.length<=100000 then some ((.list (x.1.map (·.1)),x.1.all λz=>z.2 ||aH z.1),x.2) else none
 ok:=by
  intro K sk F H σ ρ aj s vl s' Q p h q
  obtain⟨⟨x,s1⟩,h1,h⟩:=aI h
  split at h
  ·rename_i hl
   cases h
   refine a.ok K p h1 λvs F1 H1 as st k r f=>⟨?_,λpp np=>?_⟩
   ·have:=r.len
    rw [Kaf] at this
    rw [this]
    exact Kaw hl (by decide)
   ·have sa:aY F1 H1 (upd F1 pp (.lst vs)) (upd H1 pp (.lst vs)):=.alloc st.sub' np
    refine q _ _ _ (pp::as) (st.trans sa.any) (k.keep sa) (.lst upd_same (r.mono sa.sub)) λe=>?_
    obtain⟨f1,f2⟩:=f e
    refine⟨KaN.mpr ⟨λm=>?_,f1⟩,λb m=>?_⟩
    ·obtain⟨xs,hx⟩:=r.dom pp m
     have:=st.sub' _ _ hx
     rw [np] at this;cases this
    ·rcases Kal.mp m with z|z
     ·rw [z]
      cases hq:H pp with
      |none=>rfl
      |some u=>exact absurd np (st.dm pp (by rw [hq];exact nofun))
     ·exact f2 b z
  ·cases h
def eA (F H:Hp)(z:Vl)(Q:VK):Prop:=∀v F' H' cs,aY F H F' H'->Rp F' v z.1 cs->bx z.2 H cs->Q v H'
def JQ (r:Frag->R2)(f:PyData->PyData->Option Vl):Prop:=∀(K:Frag) {F H:Hp} {x y:V} {d e:PyData} {as bs:List Addr} {z:Vl} {Q:VK},Same F H->Rp F x d as->Rp F y e bs->f d e=some z->eA F H z Q->r K x y H Q
def MV (r:Frag->List V->Hp->VK->Prop)(f:List PyData->Option Vl):Prop:=∀(K:Frag) {F H:Hp} {xs:List V} {ds:List PyData} {as:List Addr} {z:Vl} {Q:VK},Same F H->ao F xs ds as->f ds=some z->eA F H z Q->r K xs H Q
def iM (r:Frag->R2)(f:PyData->PyData->Option Vl)(hr:JQ r f)(a b:SE):SE where
 t:=λK=>tOp (r K) (a.t K) (b.t K)
 ev:=λρ s=>(a.ev ρ s).bind λx=>(b.ev ρ x.2).bind λy=>(f x.1.1 y.1.1).bind λz=>some (z,y.2)
 ok:=by
  intro K sk F H σ ρ aj s vl s' Q p h q
  obtain⟨⟨x,s1⟩,h1,h⟩:=aI h
  obtain⟨⟨y,s2⟩,h2,h⟩:=aI h
  obtain⟨z,h3,h⟩:=aI h
  cases h
  refine a.ok K p h1 λv F1 H1 as st1 k1 r1 f1=>?_
  refine b.ok K (p.next st1 k1) h2 λw F2 H2 bs st2 k2 r2 f2=>?_
  refine hr K st2.sub' (r1.mono st2.sub) r2 h3 λv3 F3 H3 cs st3 r3 f3=>?_
  exact q _ F3 H3 cs ((st1.trans st2).trans st3.any) (k2.keep st3) r3 (f3.back λa h=>st2.dm a (st1.dm a h))
def o4 (r:Frag->List V->Hp->VK->Prop)(f:List PyData->Option Vl)(hr:MV r f)(a:SA):SE where
 t:=λK=>tCB (r K) (a.t K)
 ev:=λρ s=>(a.ev ρ s).bind λx=>(f (x.1.map (·.1))).bind λz=>some (z,x.2)
 ok:=by
  intro K sk F H σ ρ aj s vl s' Q p h q
  obtain⟨⟨x,s1⟩,h1,h⟩:=aI h
  obtain⟨z,h3,h⟩:=aI h
  cases h
  refine a.ok K p h1 λvs F1 H1 as st1 k1 r1 f1=>?_
  refine hr K st1.sub' r1 h3 λv3 F3 H3 cs st3 r3 f3=>?_
  exact q _ F3 H3 cs (st1.trans st3.any) (k1.keep st3) r3 (f3.back st1.dm)
def SE.un (r:V->Hp->VK->Prop)(f:PyData->Option Vl)(hr:∀{F H:Hp} {x:V} {d:PyData} {as:List Addr} {z:Vl} {Q:VK},Same F H->Rp F x d as->f d=some z->eA F H z Q->r x H Q)(a:SE):SE where
 t:=λK=>tUn r (a.t K)
 ev:=λρ s=>(a.ev ρ s).bind λx=>(f x.1.1).bind λz=>some (z,x.2)
 ok:=by
  intro K sk F H σ ρ aj s vl s' Q p h q
  obtain⟨⟨x,s1⟩,h1,h⟩:=aI h
  obtain⟨z,h3,h⟩:=aI h
  cases h
  refine a.ok K p h1 λv F1 H1 as st1 k1 r1 f1=>?_
  refine hr st1.sub' r1 h3 λv3 F3 H3 cs st3 r3 f3=>?_
  exact q _ F3 H3 cs (st1.trans st3.any) (k1.keep st3) r3 (f3.back st1.dm)
/-- a value without lists,no new object -/
theorem eA.here {F H:Hp}{z:Vl}{Q:VK}{v:V}{cs:List Addr}(q:eA F H z Q)(s:Same F H)(r:Rp F v z.1 cs)(f:bx z.2 H cs):Q v H:=q v F H cs (.refl s) r f
def dQ (f:Int->Int->Option PyData):PyData->PyData->Option Vl
 |.int i,.int j=>(f i j).map λz=>(z,true)
 |_,_=>none
theorem U0 {f:Int->Int->Option PyData}{d e:PyData}{z:Vl}(h:dQ f d e=some z):∃i j w,d=.int i/\e=.int j/\f i j=some w/\z=(w,true):=by
 unfold dQ at h
 split at h
 ·rename_i i j
  obtain⟨w,h1,h2⟩:=Kam.mp h
  exact⟨i,j,w,rfl,rfl,h1,h2.symm⟩
 ·cases h
theorem ER {g:Int->Int->Int}:JQ (λ_=>rI0 λi j=>.int (g i j)) (dQ λi j=>some (.int (g i j))):=by
 intro K F H x y d e as bs z Q s r1 r2 h q
 obtain⟨i,j,w,rfl,rfl,h0,rfl⟩:=U0 h
 cases h0
 exact⟨i,j,r1.int_inv,r2.int_inv,q.here (z:=(.int (g i j),true)) s (.int _) .nil⟩
theorem uC {g:Int->Int->Bool}:JQ (λ_=>rI0 λi j=>.bl (g i j)) (dQ λi j=>some (.bool (g i j))):=by
 intro K F H x y d e as bs z Q s r1 r2 h q
 obtain⟨i,j,w,rfl,rfl,h0,rfl⟩:=U0 h
 cases h0
 exact⟨i,j,r1.int_inv,r2.int_inv,q.here (z:=(.bool (g i j),true)) s (.bl _) .nil⟩
theorem uD {C:Int->Int->Prop}{g:Int->Int->Int}{c:Int->Int->Bool}(hc:∀i j,c i j=true->C i j):JQ (λ_=>rI C λi j=>.int (g i j)) (dQ λi j=>if c i j=true then some (.int (g i j)) else none):=by
 intro K F H x y d e as bs z Q s r1 r2 h q
 obtain⟨i,j,w,rfl,rfl,h1,rfl⟩:=U0 h
 split at h1
 ·rename_i h0
  cases h1
  exact⟨i,j,r1.int_inv,r2.int_inv,hc _ _ h0,q.here (z:=(.int (g i j),true)) s (.int _) .nil⟩
 ·cases h1
def gr:SE->SE->SE:=iM _ _ (ER (g:=λi j=>i+j))
def EU:SE->SE->SE:=iM _ _ (ER (g:=λi j=>i-j))
def jh (i j:Int):Bool:=decide (i.natAbs<18446744073709551616) ||decide (j.natAbs<18446744073709551616)
def wD:SE->SE->SE:=iM _ _ (uD (C:=CMul) (g:=λi j=>i*j) (c:=jh) (λi j h=>by
 unfold jh at h
 rcases Kbb.mp h with h|h
 ·have:=of_decide_eq_true h
  exact .inl (by omega)
 ·have:=of_decide_eq_true h
  exact .inr (by omega)))
/-- a divisor above 0 and below 10 ** 60 -/
def mH (_ j:Int):Bool:=decide (0<j) && decide (j<1000000000000000000000000000000000000000000000000000000000000)
theorem Wf {i j:Int}(h:mH i j=true):CDivW i j:=by
 unfold mH at h
 obtain⟨h1,h2⟩:=KaP.mp h
 have h1:=of_decide_eq_true h1
 have h2:=of_decide_eq_true h2
 exact wide_div (b:=200) h1 (by omega) (by decide) (by decide)
def ux:SE->SE->SE:=iM _ _ (uD (C:=CDivW) (g:=λi j=>i / j) (c:=mH) (λi j h=>Wf h))
def sR:SE->SE->SE:=iM _ _ (uD (C:=λ_ j=>0<j) (g:=λi j=>i % j) (c:=λ_ j=>decide (0<j)) (λi j h=>of_decide_eq_true h))
def qk:SE->SE->SE:=iM _ _ (uC (g:=λi j=>decide (i<j)))
def SE.le:SE->SE->SE:=iM _ _ (uC (g:=λi j=>decide (i<=j)))
def hxs:SE->SE->SE:=iM _ _ (uC (g:=λi j=>decide (j<i)))
def SE.ge:SE->SE->SE:=iM _ _ (uC (g:=λi j=>decide (j<=i)))
def SE.ag:SE->SE:=SE.un (rU λi=>.int (-i)) (λd=>match d with|.int i=>some (.int (-i),true)|_=>none) (by
 intro F H x d as z Q s r h q
 split at h
 ·rename_i i
  cases h
  exact⟨i,r.int_inv,q.here (z:=(.int (-i),true)) s (.int _) .nil⟩
 ·cases h)
def BB:PyData->PyData->Option Bool
 |.int i,.int j=>some (decide (i=j))
 |.bool a,.bool b=>some (a == b)
 |d,e=>if SeqAt.shaped d=true/\SeqAt.shaped e=true then some (PyData.eqv d e) else none
theorem zg {d e:PyData}{b:Bool}(h:BB d e=some b):SeqAt.shaped d=true/\SeqAt.shaped e=true/\PyData.eqv d e=b:=by
 unfold BB at h
 split at h
 ·rename_i i j
  cases h
  refine⟨by rfl,by rfl,?_⟩
  simp only [PyData.eqv]
  by_cases e:i=j <;> simp [e]
 ·rename_i i j
  cases h
  exact⟨by rfl,by rfl,by simp only [PyData.eqv]⟩
 ·split at h
  ·rename_i hh
   cases h
   exact⟨hh.1,hh.2,rfl⟩
  ·cases h
def gM:SE->SE->SE:=iM (λK=>rEqD K) (λd e=>(BB d e).map λb=>(.bool b,true)) (by
 intro K F H x y d e as bs z Q s r1 r2 h q
 obtain⟨b,h0,rfl⟩:=Kam.mp h
 obtain⟨h1,h2,h3⟩:=zg h0
 subst h3
 exact⟨d,e,(r1.mono s).dp (FT h1),(r2.mono s).dp (FT h2),h1,h2,q.here (z:=(.bool _,true)) s (.bl _) .nil⟩)
def zO:SE->SE->SE:=iM (λK=>rNeD K) (λd e=>(BB d e).map λb=>(.bool (!b),true)) (by
 intro K F H x y d e as bs z Q s r1 r2 h q
 obtain⟨b,h0,rfl⟩:=Kam.mp h
 obtain⟨h1,h2,h3⟩:=zg h0
 subst h3
 exact⟨d,e,(r1.mono s).dp (FT h1),(r2.mono s).dp (FT h2),h1,h2,q.here (z:=(.bool _,true)) s (.bl _) .nil⟩)
def vX:PyData->Bool
 |.none=>true
 |_=>false
theorem m9 {F:Hp}{v:V}{d:PyData}{as:List Addr}(r:Rp F v d as):decide (v=.non)=vX d:=by
 cases r <;> simp [vX]
def SE.G4:SE->SE->SE:=iM (λ_=>λx y H Q=>y=.non/\Q (.bl (decide (x=.non))) H) (λd e=>match e with|.none=>some (.bool (vX d),true)|_=>none) (by
 intro K F H x y d e as bs z Q s r1 r2 h q
 dsimp only at h
 split at h
 ·cases h
  refine⟨r2.none_inv,?_⟩
  rw [m9 r1]
  exact q.here (z:=(.bool _,true)) s (.bl _) .nil
 ·cases h)
def SE.Ar:SE->SE->SE:=iM (λ_=>λx y H Q=>y=.non/\Q (.bl (!decide (x=.non))) H) (λd e=>match e with|.none=>some (.bool (!vX d),true)|_=>none) (by
 intro K F H x y d e as bs z Q s r1 r2 h q
 dsimp only at h
 split at h
 ·cases h
  refine⟨r2.none_inv,?_⟩
  rw [m9 r1]
  exact q.here (z:=(.bool _,true)) s (.bl _) .nil
 ·cases h)
end Pu
namespace Pu
variable [aR]
open PySem L2
theorem ao.atI {F:Hp}{xs:List V}{ds:List PyData}{as:List Addr}{i:Int}{d:PyData}(r:ao F xs ds as)(e:atI ds i=some d):∃v bs,L2.atI xs i=some v/\Rp F v d bs:=by
 unfold L2.atI at e ⊢
 rw [r.len]
 obtain⟨j,h1,h2⟩:=aI e
 obtain⟨v,bs,h3,h4⟩:=r.get h2
 exact⟨v,bs,by rw [h1];exact h3,h4⟩
def Qn:PyData->PyData->Option Vl
 |.list ds,.int i=>(atI ds i).map λd=>(d,false)
 |.tuple ds,.int i=>(atI ds i).map λd=>(d,false)
 |_,_=>none
def cW:SE->SE->SE:=iM (λK=>rIx K) Qn (by
 intro K F H x y d e as bs z Q s r1 r2 h q
 unfold Qn at h
 split at h
 ·rename_i ds i
  obtain⟨w,h1,rfl⟩:=Kam.mp h
  obtain⟨a,xs,cs,rfl,ha,hr,rfl⟩:=r1.aM
  obtain⟨v,es,h3,h4⟩:=hr.atI h1
  exact .inl ⟨a,xs,i,v,rfl,r2.int_inv,.inl (.inl (s _ _ ha)),h3,q.here (z:=(w,false)) s h4 .no⟩
 ·rename_i ds i
  obtain⟨w,h1,rfl⟩:=Kam.mp h
  obtain⟨a,xs,rfl,ha,hr⟩:=r1.bM
  obtain⟨v,es,h3,h4⟩:=hr.atI h1
  exact .inr (.inl ⟨a,xs,i,v,rfl,r2.int_inv,.inl (.inl (s _ _ ha)),h3,q.here (z:=(w,false)) s h4 .no⟩)
 ·cases h)
/-- a new list -/
theorem eA.newL {F H:Hp}{ds:List PyData}{b:Bool}{Q:VK}{vs:List V}{as:List Addr}{p:Addr}(q:eA F H (.list ds,b) Q)(s:Same F H)(r:ao F vs ds as)(np:H p=none)(f:b=true->as=[]):Q (.ref p) (upd H p (.lst vs)):=by
 have sa:aY F H (upd F p (.lst vs)) (upd H p (.lst vs)):=.alloc s np
 refine q _ _ _ (p::as) sa (.lst upd_same (r.mono sa.sub)) λe=>?_
 rw [f e]
 refine⟨by simp,λa m=>?_⟩
 have:a=p:=by simpa using m
 rw [this];exact np
theorem eA.Am {F H:Hp}{ds:List PyData}{b:Bool}{Q:VK}{vs:List V}{as:List Addr}{p:Addr}(q:eA F H (.tuple ds,b) Q)(s:Same F H)(r:ao F vs ds as)(np:H p=none)(f:b=true->as=[]):Q (.ref p) (upd H p (.tup vs)):=by
 have sa:aY F H (upd F p (.tup vs)) (upd H p (.tup vs)):=.alloc s np
 refine q _ _ _ as sa (.tup upd_same (r.mono sa.sub)) λe=>?_
 rw [f e]
 exact⟨KaI,λa m=>by cases m⟩
def dY (ds:List PyData)(lo hi:Option Int):List PyData:=(ds.drop (HT.sIx ds.length 0 lo)).take (HT.sIx ds.length ds.length hi-HT.sIx ds.length 0 lo)
theorem ao.cut {F:Hp}{xs:List V}{ds:List PyData}{as:List Addr}(r:ao F xs ds as)(lo hi:Option Int):∃bs,ao F (cutV xs lo hi) (dY ds lo hi) bs:=by
 unfold cutV dY
 rw [r.len]
 obtain⟨bs,r1,_⟩:=r.drop (HT.sIx ds.length 0 lo)
 obtain⟨cs,r2,_⟩:=r1.take (HT.sIx ds.length ds.length hi-HT.sIx ds.length 0 lo)
 exact⟨cs,r2⟩
def Y_ (t:Frag->TO)(ev:List Slot->ae->Option (Option Int×ae)):Prop:=∀(K:Frag) {sk:Option Addr} {F H:Hp} {σ:L2.St} {ρ:List Slot} {aj:List (List Addr)} {s:ae} {b:Option Int} {s':ae} {Q:Option Int->Hp->Prop},Pre sk F H σ ρ aj s->ev ρ s=some (b,s') ->
 (∀F' H',Step sk F H F' H'->aZ sk F' H' s'->Q b H')->t K σ H Q
structure SO where
 t:Frag->TO
 ev:List Slot->ae->Option (Option Int×ae)
 ok:Y_ t ev
def SO.no:SO:=⟨λ_=>tNoPart,λ_ s=>some (none,s),by
 intro K sk F H σ ρ aj s vl s' Q p h q
 cases h
 exact q F H (.refl p.sub) p.aW⟩
def SO.at (e:SE):SO where
 t:=λK=>tPart (e.t K)
 ev:=λρ s=>(e.ev ρ s).bind λx=>match x.1.1 with|.int i=>some (some i,x.2)|_=>none
 ok:=by
  intro K sk F H σ ρ aj s vl s' Q p h q
  obtain⟨⟨⟨x,b⟩,s1⟩,h1,h⟩:=aI h
  dsimp only at h
  split at h
  ·rename_i i
   cases h
   refine e.ok K p h1 λv F1 H1 as st1 k1 r1 f1=>?_
   exact⟨i,r1.int_inv,q F1 H1 st1 k1⟩
  ·cases h
def SE.Yi (r:Frag->V->Option Int->Option Int->Hp->VK->Prop)(f:PyData->Option Int->Option Int->Option Vl)(hr:∀(K:Frag) {F H:Hp} {x:V} {d:PyData} {lo hi:Option Int} {as:List Addr} {z:Vl} {Q:VK},Same F H->Rp F x d as->f d lo hi=some z->eA F H z Q->r K x lo hi H Q)(a:SE)(lo hi:SO):SE where
 t:=λK=>tSl (r K) (a.t K) (lo.t K) (hi.t K)
 ev:=λρ s=>(a.ev ρ s).bind λx=>(lo.ev ρ x.2).bind λy=>(hi.ev ρ y.2).bind λw=>(f x.1.1 y.1 w.1).bind λz=>some (z,w.2)
 ok:=by
  intro K sk F H σ ρ aj s vl s' Q p h q
  obtain⟨⟨x,s1⟩,h1,h⟩:=aI h
  obtain⟨⟨y,s2⟩,h2,h⟩:=aI h
  obtain⟨⟨w,s3⟩,h3,h⟩:=aI h
  obtain⟨z,h4,h⟩:=aI h
  cases h
  refine a.ok K p h1 λv F1 H1 as st1 k1 r1 f1=>?_
  refine lo.ok K (p.next st1 k1) h2 λF2 H2 st2 k2=>?_
  refine hi.ok K ((p.next st1 k1).next st2 k2) h3 λF3 H3 st3 k3=>?_
  refine hr K st3.sub' ((r1.mono st2.sub).mono st3.sub) h4 λv4 F4 H4 cs rG r4 f4=>?_
  exact q _ F4 H4 cs (((st1.trans st2).trans st3).trans rG.any) (k3.keep rG) r4 (f4.back λa h=>st3.dm a (st2.dm a (st1.dm a h)))
def Qw (d:PyData)(lo hi:Option Int):Option Vl:=match d with
 |.list ds=>some (.list (dY ds lo hi),eR (dY ds lo hi))
 |_=>none
def wC:SE->SO->SO->SE:=SE.Yi (λK=>rSlL K) Qw (by
 intro K F H x d lo hi as z Q s r h q
 unfold Qw at h
 split at h
 ·rename_i ds
  cases h
  obtain⟨a,xs,cs,rfl,ha,hr,rfl⟩:=r.aM
  obtain⟨bs,hc⟩:=hr.cut lo hi
  exact⟨a,xs,rfl,.inl (.inl (s _ _ ha)),λp np=>q.newL s hc np λe=>hc.aH e⟩
 ·cases h)
def DU (d:PyData)(lo hi:Option Int):Option Vl:=match d with
 |.tuple ds=>some (.tuple (dY ds lo hi),false)
 |_=>none
theorem pT {ds:List PyData}{lo hi:Option Int}(h:HT.sIx ds.length 0 lo=0/\HT.sIx ds.length ds.length hi=ds.length):dY ds lo hi=ds:=by
 unfold dY
 rw [h.1,h.2]
 simp
def SE.Xq:SE->SO->SO->SE:=SE.Yi (λK=>rSlA K) DU (by
 intro K F H x d lo hi as z Q s r h q
 unfold DU at h
 split at h
 ·rename_i ds
  cases h
  obtain⟨a,xs,rfl,ha,hr⟩:=r.bM
  obtain⟨bs,hc⟩:=hr.cut lo hi
  refine⟨a,xs,rfl,.inl (.inl (s _ _ ha)),λe=>?_,λ_ p np=>q.Am s hc np nofun⟩
  rw [hr.len] at e
  have e2:=pT e
  refine q.here (z:=(.tuple (dY ds lo hi),false)) s ?_ .no (cs:=as)
  show Rp F (.ref a) (.tuple (dY ds lo hi)) as
  rw [e2];exact r
 ·cases h)
def C3:List PyData->Option Vl
 |[.list ds]=>some (.int ds.length,true)
 |[.tuple ds]=>some (.int ds.length,true)
 |_=>none
def iB (a:SE):SE:=o4 (λK xs H Q=>∃x n,xs=[x]/\LenV K x H n/\Q (.int (n:Nat)) H) C3 (by
 intro K F H xs ds as z Q s r h q
 unfold C3 at h
 split at h
 ·rename_i es
  cases h
  cases r with
  |cons r rr=>
   cases rr
   obtain⟨a,ys,cs,rfl,ha,hr,_⟩:=r.aM
   refine⟨_,ys.length,rfl,.inl ⟨ys,.inl (.inl (s _ _ ha)),rfl⟩,?_⟩
   rw [hr.len]
   exact q.here (z:=(.int es.length,true)) s (.int _) .nil
 ·rename_i es
  cases h
  cases r with
  |cons r rr=>
   cases rr
   obtain⟨a,ys,rfl,ha,hr⟩:=r.bM
   refine⟨_,ys.length,rfl,.inr ⟨ys,.inl (.inl (s _ _ ha)),rfl⟩,?_⟩
   rw [hr.len]
   exact q.here (z:=(.int es.length,true)) s (.int _) .nil
 ·cases h) (.cons a .nil)
def Cc:PyData->PyData->Option Vl
 |.list ds,.list es=>if ds.length+es.length<=100000 then some (.list (ds++es),eR (ds++es)) else none
 |_,_=>none
def xZ:SE->SE->SE:=iM (λ_=>rCat) Cc (by
 intro K F H x y d e as bs z Q s r1 r2 h q
 unfold Cc at h
 split at h
 ·rename_i ds es
  split at h
  ·rename_i hl
   cases h
   obtain⟨a,xs,cs,rfl,ha,hr,rfl⟩:=r1.aM
   obtain⟨b,ys,cs',rfl,hb,hr',rfl⟩:=r2.aM
   refine⟨a,b,xs,ys,rfl,rfl,s _ _ ha,s _ _ hb,?_,λp np=>q.newL s (hr.app hr') np λe=>(hr.app hr').aH e⟩
   rw [hr.len,hr'.len]
   exact Kaw hl (by decide)
  ·cases h
 ·cases h)
def DB:Nat->List PyData->List PyData
 |0,_=>[]
 |n+1,ds=>ds++DB n ds
theorem ao.rep {F:Hp}{xs:List V}{ds:List PyData}{as:List Addr}(r:ao F xs ds as):∀n,∃bs,ao F (Kah n xs).flatten (DB n ds) bs
 |0=>⟨[],.nil⟩
 |n+1=>by
  obtain⟨bs,h⟩:=ao.rep r n
  refine⟨as++bs,?_⟩
  rw [KaT,Kar]
  exact r.app h
def HH:PyData->PyData->Option Vl
 |.list ds,.int k=>if ds.length*k.toNat<=100000/\-100000<=k/\k<=100000 then some (.list (DB k.toNat ds),eR (DB k.toNat ds)) else none
 |_,_=>none
def SE.rep:SE->SE->SE:=iM (λ_=>rRep) HH (by
 intro K F H x y d e as bs z Q s r1 r2 h q
 unfold HH at h
 split at h
 ·rename_i ds k
  split at h
  ·rename_i hl
   cases h
   obtain⟨a,xs,cs,rfl,ha,hr,rfl⟩:=r1.aM
   obtain⟨bs,h2⟩:=hr.rep k.toNat
   refine⟨a,k,xs,rfl,r2.int_inv,s _ _ ha,by omega,by omega,?_,λp np=>q.newL s h2 np λe=>h2.aH e⟩
   rw [hr.len]
   exact Kaw hl.1 (by decide)
  ·cases h
 ·cases h)
/-- tuple+tuple -/
def yR:PyData->PyData->Option Vl
 |.tuple ds,.tuple es=>if ds.length+es.length<=100000 then some (.tuple (ds++es),false) else none
 |_,_=>none
def SE.FZ:SE->SE->SE:=iM (λK=>rCatA K) yR (by
 intro K F H x y d e as bs z Q s r1 r2 h q
 unfold yR at h
 split at h
 ·rename_i ds es
  split at h
  ·rename_i hl
   cases h
   obtain⟨a,xs,rfl,ha,hr⟩:=r1.bM
   obtain⟨b,ys,rfl,hb,hr'⟩:=r2.bM
   refine⟨a,b,xs,ys,rfl,rfl,.inl (.inl (s _ _ ha)),.inl (.inl (s _ _ hb)),?_,λe=>?_,λ_ e=>?_,λ_ _ p np=>q.Am s (hr.app hr') np nofun⟩
   ·rw [hr.len,hr'.len]
    exact Kaw hl (by decide)
   ·subst e
    cases hr
    exact q.here (z:=(.tuple es,false)) s r2 .no
   ·subst e
    cases hr'
    refine q.here (z:=(.tuple (ds++[]),false)) s ?_ .no (cs:=as)
    show Rp F (.ref a) (.tuple (ds++[])) as
    rw [KaC];exact r1
  ·cases h
 ·cases h)
def cO:PyData->Bool
 |.none=>true
 |.bool _=>true
 |.int _=>true
 |.str _=>true
 |_=>false
theorem V4 {F:Hp}{v:V}{d:PyData}{as:List Addr}(r:Rp F v d as)(h:cO d=true):flatV v=true:=by
 cases r <;> first|rfl|cases h
theorem mU {F:Hp}{vs:List V}{ds:List PyData}{as:List Addr}(r:ao F vs ds as)(h:ds.all cO=true):vs.all flatV=true:=by
 induction ds generalizing vs as with
 |nil=>cases r;rfl
 |cons d ds ih=>
  cases r with
  |cons r rr=>
   rw [Ka1,Ka8] at h ⊢
   exact⟨V4 r h.1,ih rr h.2⟩
theorem Cv {F:Hp}{v w:V}{d e:PyData}{as bs:List Addr}(r:Rp F v d as)(q:Rp F w e bs)(h:cO d=true)(h':cO e=true):eqV v w=PyData.eqv d e:=by
 cases r <;> cases q <;> first|(simp only [PyData.eqv,eqV];done)|cases h|cases h'
theorem uF {F:Hp}{w:V}{e:PyData}{bs:List Addr}(q:Rp F w e bs)(h':cO e=true){vs:List V}{ds:List PyData}{as:List Addr}(r:ao F vs ds as)(h:ds.all cO=true):inV w vs=ds.any λd=>PyData.eqv d e:=by
 unfold inV
 induction ds generalizing vs as with
 |nil=>cases r;rfl
 |cons d ds ih=>
  cases r with
  |cons r rr=>
   rw [Ka1,Ka8] at h
   rw [Kci,Kci,Cv r q h.1 h',ih rr h.2]
def inF (neg:Bool):PyData->PyData->Option Vl
 |d,.list ds=>if cO d=true/\ds.all cO=true then some (.bool (if neg then !(ds.any λe=>PyData.eqv e d) else ds.any λe=>PyData.eqv e d),true) else none
 |d,.tuple ds=>if cO d=true/\ds.all cO=true then some (.bool (if neg then !(ds.any λe=>PyData.eqv e d) else ds.any λe=>PyData.eqv e d),true) else none
 |_,_=>none
def CV (neg:Bool):SE->SE->SE:=iM (λK=>rIn K neg) (inF neg) (by
 intro K F H x y d e as bs z Q s r1 r2 h q
 unfold inF at h
 split at h
 ·rename_i ds
  split at h
  ·rename_i hh
   cases h
   obtain⟨a,xs,cs,rfl,ha,hr,rfl⟩:=r2.aM
   refine⟨a,xs,rfl,.inl (.inl (.inl (s _ _ ha))),V4 r1 hh.1,mU hr hh.2,?_⟩
   rw [uF r1 hh.1 hr hh.2]
   exact q.here (z:=(.bool _,true)) s (.bl _) .nil
  ·cases h
 ·rename_i ds
  split at h
  ·rename_i hh
   cases h
   obtain⟨a,xs,rfl,ha,hr⟩:=r2.bM
   refine⟨a,xs,rfl,.inr (.inl (.inl (s _ _ ha))),V4 r1 hh.1,mU hr hh.2,?_⟩
   rw [uF r1 hh.1 hr hh.2]
   exact q.here (z:=(.bool _,true)) s (.bl _) .nil
  ·cases h
 ·cases h)
def SE.abs (a:SE):SE:=o4 (λ_ xs H Q=>∃i,xs=[.int i]/\Q (.int (if i<0 then -i else i)) H) (λds=>match ds with|[.int i]=>some (.int (if i<0 then -i else i),true)|_=>none) (by
 intro K F H xs ds as z Q s r h q
 dsimp only at h
 split at h
 ·rename_i i
  cases h
  cases r with
  |cons r rr=>
   cases rr
   rw [r.int_inv]
   exact⟨i,rfl,q.here (z:=(.int _,true)) s (.int _) .nil⟩
 ·cases h) (.cons a .nil)
def CU (a b:SE):SE:=o4 (λ_ xs H Q=>∃i j,xs=[.int i,.int j]/\Q (.int (if j > i then j else i)) H) (λds=>match ds with|[.int i,.int j]=>some (.int (max i j),true)|_=>none) (by
 intro K F H xs ds as z Q s r h q
 dsimp only at h
 split at h
 ·rename_i i j
  cases h
  cases r with
  |cons r rr=>
   cases rr with
   |cons r2 rr=>
    cases rr
    rw [r.int_inv,r2.int_inv]
    have e:(if j > i then j else i)=max i j:=by split <;> omega
    exact⟨i,j,rfl,by rw [e];exact q.here (z:=(.int _,true)) s (.int _) .nil⟩
 ·cases h) (.cons a (.cons b .nil))
def SE.av (a b:SE):SE:=o4 (λ_ xs H Q=>∃i j,xs=[.int i,.int j]/\Q (.int (if j<i then j else i)) H) (λds=>match ds with|[.int i,.int j]=>some (.int (min i j),true)|_=>none) (by
 intro K F H xs ds as z Q s r h q
 dsimp only at h
 split at h
 ·rename_i i j
  cases h
  cases r with
  |cons r rr=>
   cases rr with
   |cons r2 rr=>
    cases rr
    rw [r.int_inv,r2.int_inv]
    have e:(if j<i then j else i)=min i j:=by split <;> omega
    exact⟨i,j,rfl,by rw [e];exact q.here (z:=(.int _,true)) s (.int _) .nil⟩
 ·cases h) (.cons a (.cons b .nil))
def uH:List PyData->Option Vl
 |[.int i]=>some (.int i,true)
 |[.bool b]=>some (.int (if b then 1 else 0),true)
 |_=>none
def uy (a:SE):SE:=o4 (λ_ xs H Q=>(∃i,xs=[.int i]/\Q (.int i) H)∨∃k,xs=[.bl k]/\Q (.int (if k then 1 else 0)) H) uH (by
 intro K F H xs ds as z Q s r h q
 unfold uH at h
 split at h
 ·rename_i i
  cases h
  cases r with
  |cons r rr=>
   cases rr
   rw [r.int_inv]
   exact .inl ⟨i,rfl,q.here (z:=(.int _,true)) s (.int _) .nil⟩
 ·rename_i i
  cases h
  cases r with
  |cons r rr=>
   cases rr
   rw [r.bool_inv]
   exact .inr ⟨i,rfl,q.here (z:=(.int _,true)) s (.int _) .nil⟩
 ·cases h) (.cons a .nil)
def xV:List PyData->Option (List Int)
 |[]=>some []
 |.int i::r=>(xV r).map (i::·)
 |_=>none
theorem Ky:∀ns:List Int,xV (ns.map .int)=some ns
 |[]=>rfl
 |n::ns=>by simp [xV,Ky ns]
theorem OQ:∀{ds:List PyData} {ns:List Int},xV ds=some ns->ds=ns.map .int
 |[],ns,h=>by cases h;rfl
 |d::ds,ns,h=>by
  unfold xV at h
  split at h
  ·rename_i e;cases e
  ·rename_i i r e
   cases e
   obtain⟨ms,h1,rfl⟩:=Kam.mp h
   rw [OQ h1];rfl
  ·cases h
def xT:List PyData->Option (List Bool)
 |[]=>some []
 |.bool i::r=>(xT r).map (i::·)
 |_=>none
theorem Kw:∀ns:List Bool,xT (ns.map .bool)=some ns
 |[]=>rfl
 |n::ns=>by simp [xT,Kw ns]
theorem Oh:∀{ds:List PyData} {ns:List Bool},xT ds=some ns->ds=ns.map .bool
 |[],ns,h=>by cases h;rfl
 |d::ds,ns,h=>by
  unfold xT at h
  split at h
  ·rename_i e;cases e
  ·rename_i i r e
   cases e
   obtain⟨ms,h1,rfl⟩:=Kam.mp h
   rw [Oh h1];rfl
  ·cases h
def BF (f:List Int->Option Vl):List PyData->Option Vl
 |[.list ds]=>(xV ds).bind f
 |_=>none
theorem ON {f:List Int->Option Vl}{F:Hp}{xs:List V}{ds:List PyData}{as:List Addr}{z:Vl}(r:ao F xs ds as)(h:BF f ds=some z):∃a ns,xs=[.ref a]/\F a=some (.lst (ns.map V.int))/\f ns=some z:=by
 unfold BF at h
 split at h
 ·rename_i es
  obtain⟨ns,h1,h2⟩:=aI h
  cases r with
  |cons r rr=>
   cases rr
   obtain⟨a,ys,cs,rfl,ha,hr,_⟩:=r.aM
   rw [OQ h1] at hr
   rw [hr.ints] at ha
   exact⟨a,ns,rfl,ha,h2⟩
 ·cases h
def SE.sum (a:SE):SE:=o4 (λK=>rSum K) (BF λns=>some (.int ns.sum,true)) (by
 intro K F H xs ds as z Q s r h q
 obtain⟨a,ns,rfl,ha,h2⟩:=ON r h
 cases h2
 exact⟨a,ns,rfl,.inl (.inl (s _ _ ha)),q.here (z:=(.int _,true)) s (.int _) .nil⟩) (.cons a .nil)
def oB:List Int->Int
 |[]=>0
 |[x]=>x
 |x::y::r=>max x (oB (y::r))
def oE:List Int->Int
 |[]=>0
 |[x]=>x
 |x::y::r=>min x (oE (y::r))
theorem uO:∀{ns:List Int} {y:Int},y∈ns->y<=oB ns
 |[x],y,h=>by simp at h;rw [h];exact Kbw _
 |x::z::r,y,h=>by
  show y<=max x (oB (z::r))
  rcases Kal.mp h with e|e
  ·omega
  ·have:=uO e;omega
theorem qH:∀{ns:List Int},ns≠[]->oB ns∈ns
 |[x],_=>by show x∈[x];simp
 |x::z::r,_=>by
  show max x (oB (z::r))∈x::z::r
  have h:=qH (ns:=z::r) nofun
  by_cases e:x<=oB (z::r)
  ·rw [Int.max_eq_right e];exact Kab _ h
  ·rw [Int.max_eq_left (by omega)];exact Kaa
theorem uP:∀{ns:List Int} {y:Int},y∈ns->oE ns<=y
 |[x],y,h=>by simp at h;rw [h];exact Kbw _
 |x::z::r,y,h=>by
  show min x (oE (z::r))<=y
  rcases Kal.mp h with e|e
  ·omega
  ·have:=uP e;omega
theorem qI:∀{ns:List Int},ns≠[]->oE ns∈ns
 |[x],_=>by show x∈[x];simp
 |x::z::r,_=>by
  show min x (oE (z::r))∈x::z::r
  have h:=qI (ns:=z::r) nofun
  by_cases e:x<=oE (z::r)
  ·rw [Int.min_eq_left e];exact Kaa
  ·rw [Int.min_eq_right (by omega)];exact Kab _ h
def SE.W8 (a:SE):SE:=o4 (λK=>rMax K) (BF λns=>if ns=[] then none else some (.int (oB ns),true)) (by
 intro K F H xs ds as z Q s r h q
 obtain⟨a,ns,rfl,ha,h2⟩:=ON r h
 split at h2
 ·cases h2
 ·rename_i hn
  cases h2
  refine⟨a,ns,rfl,.inl (.inl (s _ _ ha)),KaD.mpr hn,λm h1 h2=>?_⟩
  have e:m=oB ns:=Int.le_antisymm (uO h1) (h2 _ (qH hn))
  rw [e]
  exact q.here (z:=(.int _,true)) s (.int _) .nil) (.cons a .nil)
def SE.Xa (a:SE):SE:=o4 (λK=>rMin K) (BF λns=>if ns=[] then none else some (.int (oE ns),true)) (by
 intro K F H xs ds as z Q s r h q
 obtain⟨a,ns,rfl,ha,h2⟩:=ON r h
 split at h2
 ·cases h2
 ·rename_i hn
  cases h2
  refine⟨a,ns,rfl,.inl (.inl (s _ _ ha)),KaD.mpr hn,λm h1 h2=>?_⟩
  have e:m=oE ns:=Int.le_antisymm (h2 _ (qI hn)) (uP h1)
  rw [e]
  exact q.here (z:=(.int _,true)) s (.int _) .nil) (.cons a .nil)
def Jr (f:List Bool->Option Vl):List PyData->Option Vl
 |[.list ds]=>(xT ds).bind f
 |_=>none
theorem jm {f:List Bool->Option Vl}{F:Hp}{xs:List V}{ds:List PyData}{as:List Addr}{z:Vl}(r:ao F xs ds as)(h:Jr f ds=some z):∃a ns,xs=[.ref a]/\F a=some (.lst (ns.map V.bl))/\f ns=some z:=by
 unfold Jr at h
 split at h
 ·rename_i es
  obtain⟨ns,h1,h2⟩:=aI h
  cases r with
  |cons r rr=>
   cases rr
   obtain⟨a,ys,cs,rfl,ha,hr,_⟩:=r.aM
   rw [Oh h1] at hr
   rw [hr.bools] at ha
   exact⟨a,ns,rfl,ha,h2⟩
 ·cases h
def SE.all (a:SE):SE:=o4 (λK=>rAll K) (Jr λns=>some (.bool (ns.all id),true)) (by
 intro K F H xs ds as z Q s r h q
 obtain⟨a,ns,rfl,ha,h2⟩:=jm r h
 cases h2
 exact⟨a,ns,rfl,.inl (.inl (s _ _ ha)),q.here (z:=(.bool _,true)) s (.bl _) .nil⟩) (.cons a .nil)
def SE.any (a:SE):SE:=o4 (λK=>rAny K) (Jr λns=>some (.bool (ns.any id),true)) (by
 intro K F H xs ds as z Q s r h q
 obtain⟨a,ns,rfl,ha,h2⟩:=jm r h
 cases h2
 exact⟨a,ns,rfl,.inl (.inl (s _ _ ha)),q.here (z:=(.bool _,true)) s (.bl _) .nil⟩) (.cons a .nil)
/-- sorted,of ints -/
def insI (x:Int):List Int->List Int
 |[]=>[x]
 |y::r=>if x<=y then x::y::r else y::insI x r
def sortI:List Int->List Int
 |[]=>[]
 |x::r=>insI x (sortI r)
theorem Oz (x:Int):∀r:List Int,(insI x r).Perm (x::r)
 |[]=>.refl _
 |y::r=>by
  unfold insI
  split
  ·exact .refl _
  ·exact ((Oz x r).cons y).trans (.swap x y r)
theorem Et:∀r:List Int,(sortI r).Perm r
 |[]=>.refl _
 |x::r=>(Oz x _).trans ((Et r).cons x)
theorem Tq (x:Int):∀{r:List Int},r.Pairwise (·<=·)->(insI x r).Pairwise (·<=·)
 |[],_=>by simp [insI]
 |y::r,h=>by
  unfold insI
  have h1:=KaS.mp h
  split
  ·rename_i hx
   refine KaS.mpr ⟨λz hz=>?_,h⟩
   rcases Kal.mp hz with e|e
   ·rw [e];exact hx
   ·exact Kcu hx (h1.1 z e)
  ·rename_i hx
   refine KaS.mpr ⟨λz hz=>?_,Tq x h1.2⟩
   rcases Kal.mp ((Oz x r).mem_iff.mp hz) with e|e
   ·rw [e];omega
   ·exact h1.1 z e
theorem B5:∀r:List Int,(sortI r).Pairwise (·<=·)
 |[]=>.nil
 |x::r=>Tq x (B5 r)
theorem Nt:∀{xs ys:List Int},xs.Perm ys->xs.Pairwise (·<=·)->ys.Pairwise (·<=·)->xs=ys
 |[],ys,p,_,_=>by rw [p.nil_eq]
 |x::xs,[],p,_,_=>by exact absurd p.symm.nil_eq nofun
 |x::xs,y::ys,p,hx,hy=>by
  have h1:=KaS.mp hx
  have h2:=KaS.mp hy
  have e:x=y:=by
   have a:x∈y::ys:=p.mem_iff.mp Kaa
   have b:y∈x::xs:=p.mem_iff.mpr Kaa
   rcases Kal.mp a with e|e
   ·exact e
   ·rcases Kal.mp b with e'|e'
    ·exact e'.symm
    ·have:=h2.1 x e;have:=h1.1 y e';omega
  subst e
  rw [Nt (List.Perm.cons_inv p) h1.2 h2.2]
def Qg (a:SE):SE:=o4 (λK=>rSortedI K) (BF λns=>some (.list ((sortI ns).map .int),true)) (by
 intro K F H xs ds as z Q s r h q
 obtain⟨a,ns,rfl,ha,h2⟩:=ON r h
 cases h2
 refine⟨a,ns,rfl,.inl (.inl (s _ _ ha)),λns' p hp hs np=>?_⟩
 have e:ns'=sortI ns:=Nt (hp.trans (Et ns).symm) hs (B5 ns)
 rw [e]
 exact q.newL s (ao.jV _) np λ_=>rfl) (.cons a .nil)
/-- list(x),tuple(x) -/
def Aa:List PyData->Option Vl
 |[.list ds]=>some (.list ds,eR ds)
 |[.tuple ds]=>some (.list ds,eR ds)
 |_=>none
def SE.ap (a:SE):SE:=o4 (λK xs H Q=>∃p ys,xs=[.ref p]/\(SqL K H p ys∨SqT K H p ys)/\∀l,H l=none->Q (.ref l) (upd H l (.lst ys))) Aa (by
 intro K F H xs ds as z Q s r h q
 unfold Aa at h
 split at h
 ·rename_i es
  cases h
  cases r with
  |cons r rr=>
   cases rr
   obtain⟨a,ys,cs,rfl,ha,hr,_⟩:=r.aM
   exact⟨a,ys,rfl,.inl (.inl (.inl (s _ _ ha))),λl nl=>q.newL s hr nl λe=>hr.aH e⟩
 ·rename_i es
  cases h
  cases r with
  |cons r rr=>
   cases rr
   obtain⟨a,ys,rfl,ha,hr⟩:=r.bM
   exact⟨a,ys,rfl,.inr (.inl (.inl (s _ _ ha))),λl nl=>q.newL s hr nl λe=>hr.aH e⟩
 ·cases h) (.cons a .nil)
/-- divmod -/
def R4:List PyData->Option Vl
 |[.int i,.int j]=>if mH i j=true then some (.tuple [.int (i / j),.int (i % j)],true) else none
 |_=>none
def SE.al (a b:SE):SE:=o4 (λ_ xs H Q=>∃i j,xs=[.int i,.int j]/\CDivP i j/\∀p,H p=none->Q (.ref p) (upd H p (.tup [.int (i / j),.int (i % j)]))) R4 (by
 intro K F H xs ds as z Q s r h q
 unfold R4 at h
 split at h
 ·rename_i i j
  split at h
  ·rename_i hc
   cases h
   cases r with
   |cons r rr=>
    cases rr with
    |cons r2 rr=>
     cases rr
     rw [r.int_inv,r2.int_inv]
     refine⟨i,j,rfl,⟨(Wf hc).1,PyProof.noPylong_of_log2 (Wf hc).2⟩,λp np=>q.Am s (as:=[]) ?_ np λ_=>rfl⟩
     exact .cons (as:=[]) (.int _) (.cons (as:=[]) (.int _) .nil)
  ·cases h
 ·cases h) (.cons a (.cons b .nil))
end Pu
namespace Pu
variable [aR]
open PySem L2
def SE.ym (a b:SE):SE where
 t:=λK=>tAndV (a.t K) (b.t K)
 ev:=λρ s=>(a.ev ρ s).bind λx=>match x.1.1 with
  |.bool true=>b.ev ρ x.2
  |.bool false=>some ((.bool false,true),x.2)
  |_=>none
 ok:=by
  intro K sk F H σ ρ aj s vl s' Q p h q
  obtain⟨⟨⟨x,fl⟩,s1⟩,h1,h⟩:=aI h
  dsimp only at h
  refine a.ok K p h1 λv F1 H1 as st1 k1 r1 f1=>?_
  split at h
  ·refine⟨true,r1.bool_inv,?_⟩
   rw [if_pos rfl]
   exact b.ok K (p.next st1 k1) h λw F2 H2 bs st2 k2 r2 f2=>q w F2 H2 bs (st1.trans st2) k2 r2 (f2.back st1.dm)
  ·cases h
   refine⟨false,r1.bool_inv,?_⟩
   rw [if_neg Ka6]
   exact q _ F1 H1 [] st1 k1 (.bl _) .nil
  ·cases h
def SE.Z2 (a b:SE):SE where
 t:=λK=>tOrV (a.t K) (b.t K)
 ev:=λρ s=>(a.ev ρ s).bind λx=>match x.1.1 with
  |.bool false=>b.ev ρ x.2
  |.bool true=>some ((.bool true,true),x.2)
  |_=>none
 ok:=by
  intro K sk F H σ ρ aj s vl s' Q p h q
  obtain⟨⟨⟨x,fl⟩,s1⟩,h1,h⟩:=aI h
  dsimp only at h
  refine a.ok K p h1 λv F1 H1 as st1 k1 r1 f1=>?_
  split at h
  ·refine⟨false,r1.bool_inv,?_⟩
   rw [if_neg Ka6]
   exact b.ok K (p.next st1 k1) h λw F2 H2 bs st2 k2 r2 f2=>q w F2 H2 bs (st1.trans st2) k2 r2 (f2.back st1.dm)
  ·cases h
   refine⟨true,r1.bool_inv,?_⟩
   rw [if_pos rfl]
   exact q _ F1 H1 [] st1 k1 (.bl _) .nil
  ·cases h
def SE.Xg (a:SE):SE where
 t:=λK=>tNotV (a.t K)
 ev:=λρ s=>(a.ev ρ s).bind λx=>match x.1.1 with
  |.bool b=>some ((.bool (!b),true),x.2)
  |_=>none
 ok:=by
  intro K sk F H σ ρ aj s vl s' Q p h q
  obtain⟨⟨⟨x,fl⟩,s1⟩,h1,h⟩:=aI h
  dsimp only at h
  refine a.ok K p h1 λv F1 H1 as st1 k1 r1 f1=>?_
  split at h
  ·rename_i b
   cases h
   exact⟨b,r1.bool_inv,q _ F1 H1 [] st1 k1 (.bl _) .nil⟩
  ·cases h
def ST.ab (a:SE):ST where
 t:=λK=>tB (a.t K)
 ev:=λρ s=>(a.ev ρ s).bind λx=>match x.1.1 with
  |.bool b=>some (b,x.2)
  |_=>none
 ok:=by
  intro K sk F H σ ρ aj s vl s' Q p h q
  obtain⟨⟨⟨x,fl⟩,s1⟩,h1,h⟩:=aI h
  dsimp only at h
  refine a.ok K p h1 λv F1 H1 as st1 k1 r1 f1=>?_
  split at h
  ·rename_i b
   cases h
   exact⟨_,r1.bool_inv,q F1 H1 st1 k1⟩
  ·cases h
def cL:ST:=⟨λ_=>tYes,λ_ s=>some (true,s),by
 intro K sk F H σ ρ aj s vl s' Q p h q
 cases h
 exact q F H (.refl p.sub) p.aW⟩
def EO (a b:ST):ST where
 t:=λK=>tAnd (a.t K) (b.t K)
 ev:=λρ s=>(a.ev ρ s).bind λx=>if x.1=true then b.ev ρ x.2 else some (false,x.2)
 ok:=by
  intro K sk F H σ ρ aj s vl s' Q p h q
  obtain⟨⟨x,s1⟩,h1,h⟩:=aI h
  dsimp only at h
  refine a.ok K p h1 λF1 H1 st1 k1=>?_
  split at h
  ·rename_i e
   rw [if_pos e]
   exact b.ok K (p.next st1 k1) h λF2 H2 st2 k2=>q F2 H2 (st1.trans st2) k2
  ·rename_i e
   cases h
   rw [if_neg e]
   exact q F1 H1 st1 k1
def uB (a b:ST):ST where
 t:=λK=>tOr (a.t K) (b.t K)
 ev:=λρ s=>(a.ev ρ s).bind λx=>if x.1=true then some (true,x.2) else b.ev ρ x.2
 ok:=by
  intro K sk F H σ ρ aj s vl s' Q p h q
  obtain⟨⟨x,s1⟩,h1,h⟩:=aI h
  dsimp only at h
  refine a.ok K p h1 λF1 H1 st1 k1=>?_
  split at h
  ·rename_i e
   cases h
   rw [if_pos e]
   exact q F1 H1 st1 k1
  ·rename_i e
   rw [if_neg e]
   exact b.ok K (p.next st1 k1) h λF2 H2 st2 k2=>q F2 H2 (st1.trans st2) k2
def GV (a:ST):ST where
 t:=λK=>tNot (a.t K)
 ev:=λρ s=>(a.ev ρ s).bind λx=>some (!x.1,x.2)
 ok:=by
  intro K sk F H σ ρ aj s vl s' Q p h q
  obtain⟨⟨x,s1⟩,h1,h⟩:=aI h
  cases h
  exact a.ok K p h1 λF1 H1 st1 k1=>q F1 H1 st1 k1
def EV (c:ST)(a b:SE):SE where
 t:=λK=>tIf (c.t K) (a.t K) (b.t K)
 ev:=λρ s=>(c.ev ρ s).bind λx=>if x.1=true then a.ev ρ x.2 else b.ev ρ x.2
 ok:=by
  intro K sk F H σ ρ aj s vl s' Q p h q
  obtain⟨⟨x,s1⟩,h1,h⟩:=aI h
  dsimp only at h
  refine c.ok K p h1 λF1 H1 st1 k1=>?_
  split at h
  ·rename_i e
   rw [if_pos e]
   exact a.ok K (p.next st1 k1) h λw F2 H2 bs st2 k2 r2 f2=>q w F2 H2 bs (st1.trans st2) k2 r2 (f2.back st1.dm)
  ·rename_i e
   rw [if_neg e]
   exact b.ok K (p.next st1 k1) h λw F2 H2 bs st2 k2 r2 f2=>q w F2 H2 bs (st1.trans st2) k2 r2 (f2.back st1.dm)
abbrev Fn:=List Slot->ae->Option (Vl×ae)
def jH (args:List Slot):List (List Addr):=args.map λ_=>[]
theorem nu:∀args:List Slot,(jH args).flatten=[]
 |[]=>rfl
 |_::r=>by show ([]++(jH r).flatten)=[];rw [nu r];rfl
def bq (m:Fn):Sp:=λvs H Q _=>∃(sk:Option Addr) (F:Hp) (args:List Slot) (s:ae) (vl:Vl) (s':ae),Same F H/\aZ sk F H s/\Slots sk F H (vs.map some) args (jH args)/\m args s=some (vl,s') /\
 ∀v F' H' as,Step sk F H F' H'->aZ sk F' H' s'->Rp F' v vl.1 as->bx vl.2 H as->Q v H'
def Zb (t:Frag->TA)(ev:List Slot->ae->Option (List Slot×ae)):Prop:=∀(K:Frag) {sk:Option Addr} {F H:Hp} {σ:L2.St} {ρ:List Slot} {aj:List (List Addr)} {s:ae} {args:List Slot} {s':ae} {Q:List V->Hp->Prop},Pre sk F H σ ρ aj s->ev ρ s=some (args,s') ->
 (∀vs F' H',Step sk F H F' H'->aZ sk F' H' s'->Slots sk F' H' (vs.map some) args (jH args)->Q vs H')->t K σ H Q
structure SR where
 t:Frag->TA
 ev:List Slot->ae->Option (List Slot×ae)
 ok:Zb t ev
def SR.nil:SR:=⟨λ_=>tNil,λ_ s=>some ([],s),by
 intro K sk F H σ ρ aj s vl s' Q p h q
 cases h
 exact q [] F H (.refl p.sub) p.aW .nil⟩
def SR.cons (e:SE)(r:SR):SR where
 t:=λK=>tCons (e.t K) (r.t K)
 ev:=λρ s=>(e.ev ρ s).bind λx=>(r.ev ρ x.2).bind λy=>some (.dat x.1.1::y.1,y.2)
 ok:=by
  intro K sk F H σ ρ aj s vl s' Q p h q
  obtain⟨⟨x,s1⟩,h1,h⟩:=aI h
  obtain⟨⟨y,s2⟩,h2,h⟩:=aI h
  cases h
  refine e.ok K p h1 λv F1 H1 as st1 k1 r1 f1=>?_
  refine r.ok K (p.next st1 k1) h2 λvs F2 H2 st2 k2 r2=>?_
  exact q _ F2 H2 (st1.trans st2) k2 (.cons ⟨rfl,v,as,rfl,r1.mono st2.sub⟩ r2)
def jU (i:Nat)(r:SR):SR where
 t:=λK=>tCons (tVar i) (r.t K)
 ev:=λρ s=>match ρ[i]? with
  |some .bC=>(r.ev ρ s).bind λy=>some (.bC::y.1,y.2)
  |_=>none
 ok:=by
  intro K sk F H σ ρ aj s vl s' Q p h q
  dsimp only at h
  split at h
  ·rename_i e
   obtain⟨⟨y,s2⟩,h2,h⟩:=aI h
   cases h
   obtain⟨x,fp,e1,e2,z,a,e3,e4⟩:=p.slots.get e
   refine⟨.ref a,by rw [e1,e3],?_⟩
   refine r.ok K p h2 λvs F2 H2 st2 k2 r2=>?_
   exact q _ F2 H2 st2 k2 (.cons ⟨rfl,a,rfl,e4⟩ r2)
  ·cases h
def SE.ac (m:Fn)(a:SR):SE where
 t:=λK=>tCall (bq m) [] E0 (a.t K)
 ev:=λρ s=>(a.ev ρ s).bind λx=>m x.1 x.2
 ok:=by
  intro K sk F H σ ρ aj s vl s' Q p h q
  obtain⟨⟨x,s1⟩,h1,h⟩:=aI h
  refine a.ok K p h1 λvs F1 H1 st1 k1 sl=>?_
  rw [KaC]
  refine⟨sk,F1,x,s1,vl,s',st1.sub',k1,sl,h,λv F2 H2 as st2 k2 r2 f2=>?_⟩
  exact q v F2 H2 as (st1.trans st2) k2 r2 (f2.back st1.dm)
def Yl (J:It)(F:Hp)(ds:List PyData):Prop:=∀F2 H2 i,Same F F2->Same F2 H2 ->
 (∀d,ds[i]? = some d->J.go i H2/\∀x H3,J.yld i H2 x H3->∃F3 as,aY F2 H2 F3 H3/\Rp F3 x d as)/\(ds.length<=i->J.stop i H2)
def Y8 (t:Frag->TI)(ev:List Slot->ae->Option (List PyData×ae)):Prop:=∀(K:Frag) {sk:Option Addr} {F H:Hp} {σ:L2.St} {ρ:List Slot} {aj:List (List Addr)} {s:ae} {ds:List PyData} {s':ae} {R:It->Hp->Prop},Pre sk F H σ ρ aj s->ev ρ s=some (ds,s') ->
 (∀J F' H',Step sk F H F' H'->aZ sk F' H' s'->Yl J F' ds->R J H')->t K σ H R
structure SI where
 t:Frag->TI
 ev:List Slot->ae->Option (List PyData×ae)
 ok:Y8 t ev
def SI.list (e:SE):SI where
 t:=λK=>iList K (e.t K)
 ev:=λρ s=>(e.ev ρ s).bind λx=>match x.1.1 with|.list ds=>some (ds,x.2)|_=>none
 ok:=by
  intro K sk F H σ ρ aj s ds s' R p h q
  obtain⟨⟨⟨x,fl⟩,s1⟩,h1,h⟩:=aI h
  dsimp only at h
  split at h
  ·rename_i ds
   cases h
   refine e.ok K p h1 λv F1 H1 as st1 k1 r1 f1=>?_
   obtain⟨a,xs,cs,rfl,ha,hr,_⟩:=r1.aM
   refine⟨a,rfl,⟨xs,.inl (.inl (st1.sub' _ _ ha))⟩,q _ F1 H1 st1 k1 λF2 H2 i s1 s2=>⟨λd hd=>?_,λhl=>?_⟩⟩
   ·have hx:SqL K H2 a xs:=.inl (.inl (s2 _ _ (s1 _ _ ha)))
    obtain⟨v,bs,e1,e2⟩:=hr.get hd
    refine⟨⟨xs,v,hx,e1⟩,λx H3 hy=>?_⟩
    obtain⟨rfl,hy⟩:=hy
    have e3:=hy xs hx
    rw [e1] at e3
    cases e3
    exact⟨F2,bs,.refl s2,e2.mono s1⟩
   ·exact⟨xs,.inl (.inl (s2 _ _ (s1 _ _ ha))),by rw [hr.len];exact hl⟩
  ·cases h
/-- lo,lo+1,.. -/
def oX (lo:Int):Nat->List PyData
 |0=>[]
 |n+1=>.int lo::oX (lo+1) n
theorem UP:∀(n:Nat) (lo:Int) (i:Nat),(oX lo n)[i]? = if i<n then some (.int (lo+i)) else none
 |0,lo,i=>by simp [oX]
 |n+1,lo,0=>by simp [oX]
 |n+1,lo,i+1=>by
  show (oX (lo+1) n)[i]? = _
  rw [UP n]
  by_cases h:i<n
  ·rw [if_pos h,if_pos (by omega)]
   congr 2
   omega
  ·rw [if_neg h,if_neg (by omega)]
theorem lu:∀(n:Nat) (lo:Int),(oX lo n).length=n
 |0,_=>rfl
 |n+1,lo=>by show (oX (lo+1) n).length+1=n+1;rw [lu n]
theorem V8 {lo:Int}{n:Nat}{F:Hp}:Yl (Itr lo n) F (oX lo n):=λF2 H2 i s1 s2=>by
 refine⟨λd hd=>?_,λhl=>?_⟩
 ·rw [UP] at hd
  split at hd
  ·rename_i hi
   cases hd
   refine⟨hi,λx H3 hy=>?_⟩
   obtain⟨rfl,rfl⟩:=hy
   exact⟨F2,[],.refl s2,.int _⟩
  ·cases hd
 ·rw [lu] at hl;exact hl
def rX (e:SE):SI where
 t:=λK=>iRng1 (tCons (e.t K) tNil)
 ev:=λρ s=>(e.ev ρ s).bind λx=>match x.1.1 with|.int j=>if -1000000<=j/\j<=1000000 then some (oX 0 j.toNat,x.2) else none|_=>none
 ok:=by
  intro K sk F H σ ρ aj s ds s' R p h q
  obtain⟨⟨⟨x,fl⟩,s1⟩,h1,h⟩:=aI h
  dsimp only at h
  split at h
  ·rename_i j
   split at h
   ·rename_i hb
    cases h
    refine e.ok K p h1 λv F1 H1 as st1 k1 r1 f1=>?_
    rw [r1.int_inv]
    exact⟨j,rfl,by omega,by omega,q _ F1 H1 st1 k1 V8⟩
   ·cases h
  ·cases h
def SI.HG (e e2:SE):SI where
 t:=λK=>iRng2 (tCons (e.t K) (tCons (e2.t K) tNil))
 ev:=λρ s=>(e.ev ρ s).bind λx=>(e2.ev ρ x.2).bind λy=>match x.1.1,y.1.1 with
  |.int i,.int j=>if (-1000000<=i/\i<=1000000)/\-1000000<=j/\j<=1000000 then some (oX i (j-i).toNat,y.2) else none
  |_,_=>none
 ok:=by
  intro K sk F H σ ρ aj s ds s' R p h q
  obtain⟨⟨⟨x,fl⟩,s1⟩,h1,g1⟩:=aI h
  obtain⟨⟨⟨y,O5⟩,s2⟩,h2,g2⟩:=aI g1
  clear h g1
  dsimp only at g2
  split at g2
  ·rename_i i j
   split at g2
   ·rename_i hb
    cases g2
    refine e.ok K p h1 λv F1 H1 as st1 k1 r1 f1=>?_
    refine e2.ok K (p.next st1 k1) h2 λw F2 H2 bs st2 k2 r2 f2=>?_
    rw [r1.int_inv,r2.int_inv]
    exact⟨i,j,rfl,by omega,q _ F2 H2 (st1.trans st2) k2 V8⟩
   ·cases g2
  ·cases g2
def dH:List PyData->List PyData->List PyData
 |d::ds,e::es=>.tuple [d,e]::dH ds es
 |_,_=>[]
theorem Vu:∀{ds es:List PyData} {i:Nat} {d:PyData},(dH ds es)[i]? = some d->∃a b,ds[i]? = some a/\es[i]? = some b/\d=.tuple [a,b]
 |[],_,_,_,h=>by simp [dH] at h
 |_::_,[],_,_,h=>by simp [dH] at h
 |a::ds,b::es,0,d,h=>by
  have e:PyData.tuple [a,b]=d:=Option.some.inj h
  exact⟨a,b,rfl,rfl,e.symm⟩
 |a::ds,b::es,i+1,d,h=>Vu (ds:=ds) (es:=es) (i:=i) h
theorem VY:∀(ds es:List PyData),(dH ds es).length=min ds.length es.length
 |[],es=>by simp [dH]
 |_::_,[]=>by simp [dH]
 |_::ds,_::es=>by
  show (dH ds es).length+1=min (ds.length+1) (es.length+1)
  rw [VY ds es];omega
def SI.zip (e e2:SE):SI where
 t:=λK=>iZip K (tCons (e.t K) (tCons (e2.t K) tNil))
 ev:=λρ s=>(e.ev ρ s).bind λx=>(e2.ev ρ x.2).bind λy=>match x.1.1,y.1.1 with
  |.list ds,.list es=>some (dH ds es,y.2)
  |_,_=>none
 ok:=by
  intro K sk F H σ ρ aj s ds s' R p h q
  obtain⟨⟨⟨x,fl⟩,s1⟩,h1,h⟩:=aI h
  obtain⟨⟨⟨y,O5⟩,s2⟩,h2,h⟩:=aI h
  dsimp only at h
  split at h
  ·rename_i ds es
   cases h
   refine e.ok K p h1 λv F1 H1 as st1 k1 r1 f1=>?_
   refine e2.ok K (p.next st1 k1) h2 λw F2 H2 bs st2 k2 r2 f2=>?_
   obtain⟨a,xs,cs,rfl,ha,hr,_⟩:=(r1.mono st2.sub).aM
   obtain⟨b,ys,cs',rfl,hb,hr',_⟩:=r2.aM
   refine⟨a,b,xs,ys,rfl,.inl (.inl (st2.sub' _ _ ha)),.inl (.inl (st2.sub' _ _ hb)),q _ F2 H2 (st1.trans st2) k2 λF3 H3 i s1 s2=>?_⟩
   have hx:SqL K H3 a xs:=.inl (.inl (s2 _ _ (s1 _ _ ha)))
   have hy:SqL K H3 b ys:=.inl (.inl (s2 _ _ (s1 _ _ hb)))
   refine⟨λd hd=>?_,λhl=>?_⟩
   ·obtain⟨d1,d2,g1,g2,rfl⟩:=Vu hd
    obtain⟨v1,b1,e1,q1⟩:=hr.get g1
    obtain⟨v2,b2,e2,q2⟩:=hr'.get g2
    refine⟨⟨xs,ys,v1,v2,hx,hy,e1,e2⟩,λx H4 hz=>?_⟩
    obtain⟨T,x1,x2,rfl,nT,rfl,z1,z2⟩:=hz
    have z1:=z1 _ hx
    have z2:=z2 _ hy
    rw [e1] at z1
    rw [e2] at z2
    cases z1
    cases z2
    have sa:aY F3 H3 (upd F3 T (.tup [v1,v2])) (upd H3 T (.tup [v1,v2])):=.alloc s2 nT
    exact⟨_,_,sa,.tup upd_same (.cons ((q1.mono s1).mono sa.sub) (.cons ((q2.mono s1).mono sa.sub) .nil))⟩
   ·refine⟨xs,ys,hx,hy,?_⟩
    rw [VY] at hl
    rw [hr.len,hr'.len]
    omega
  ·cases h
def fO (i:Int):List PyData->List PyData
 |[]=>[]
 |d::ds=>.tuple [.int i,d]::fO (i+1) ds
theorem mQ:∀{ds:List PyData} {k:Int} {i:Nat} {d:PyData},(fO k ds)[i]? = some d->∃a,ds[i]? = some a/\d=.tuple [.int (k+i),a]
 |[],_,_,_,h=>by simp [fO] at h
 |a::ds,k,0,d,h=>by
  have e:PyData.tuple [.int k,a]=d:=Option.some.inj h
  exact⟨a,rfl,by rw [<-e];simp⟩
 |a::ds,k,i+1,d,h=>by
  obtain⟨b,h1,h2⟩:=mQ (ds:=ds) (k:=k+1) (i:=i) h
  refine⟨b,h1,?_⟩
  rw [h2]
  have:k+1+(i:Int)=k+((i+1:Nat):Int):=by omega
  rw [this]
theorem mR:∀(ds:List PyData) (k:Int),(fO k ds).length=ds.length
 |[],_=>rfl
 |_::ds,k=>by show (fO (k+1) ds).length+1=ds.length+1;rw [mR ds]
def GX (e:SE):SI where
 t:=λK=>iEnum K (tCons (e.t K) tNil)
 ev:=λρ s=>(e.ev ρ s).bind λx=>match x.1.1 with
  |.list ds=>some (fO 0 ds,x.2)
  |_=>none
 ok:=by
  intro K sk F H σ ρ aj s ds s' R p h q
  obtain⟨⟨⟨x,fl⟩,s1⟩,h1,h⟩:=aI h
  dsimp only at h
  split at h
  ·rename_i ds
   cases h
   refine e.ok K p h1 λv F1 H1 as st1 k1 r1 f1=>?_
   obtain⟨a,xs,cs,rfl,ha,hr,_⟩:=r1.aM
   refine⟨a,xs,rfl,.inl (.inl (st1.sub' _ _ ha)),q _ F1 H1 st1 k1 λF3 H3 i s1 s2=>?_⟩
   have hx:SqL K H3 a xs:=.inl (.inl (s2 _ _ (s1 _ _ ha)))
   refine⟨λd hd=>?_,λhl=>?_⟩
   ·obtain⟨d1,g1,rfl⟩:=mQ hd
    obtain⟨v1,b1,e1,q1⟩:=hr.get g1
    refine⟨⟨xs,v1,hx,e1⟩,λx H4 hz=>?_⟩
    obtain⟨T,x1,rfl,nT,rfl,z1⟩:=hz
    have z1:=z1 _ hx
    rw [e1] at z1
    cases z1
    have sa:aY F3 H3 (upd F3 T (.tup [.int i,v1])) (upd H3 T (.tup [.int i,v1])):=.alloc s2 nT
    refine⟨_,_,sa,.tup upd_same (.cons (as:=[]) ?_ (.cons ((q1.mono s1).mono sa.sub) .nil))⟩
    rw [Int.zero_add]
    exact .int _
   ·refine⟨xs,hx,?_⟩
    rw [mR] at hl
    rw [hr.len]
    exact hl
  ·cases h
def Y7 (t:Frag->TG)(ix:List Nat)(ev:PyData->List Slot->Option (List Slot)):Prop:=∀(K:Frag) {sk:Option Addr} {F H:Hp} {σ:L2.St} {ρ:List Slot} {aj:List (List Addr)} {v:V} {d:PyData} {as:List Addr} {ρ':List Slot} {Q:L2.St->Hp->Prop},Same F H->Rp F v d as->Slots sk F H σ ρ aj->ev d ρ=some ρ' ->
 (∀σ' aF,Slots sk F H σ' ρ' aF->(∀a∈aF.flatten,a∈aj.flatten)->aF.flatten.Sublist aj.flatten->(∀vs:List Nat,(∀i∈ix,i∈vs)->wipe σ' vs=wipe σ vs)->Q σ' H)->t K v σ H Q
structure SG where
 t:Frag->TG
 ix:List Nat
 ev:PyData->List Slot->Option (List Slot)
 ok:Y7 t ix ev
theorem VF {σ:L2.St}{i:Nat}{x:Option V}:∀{vs:List Nat},i∈vs->wipe (σ.set i x) vs=wipe σ vs
 |v::vs,h=>by
  unfold wipe
  by_cases e:i∈vs
  ·rw [VF e]
  ·have e2:i=v:=by
    rcases Kal.mp h with z|z
    ·exact z
    ·exact absurd z e
   subst e2
   have:∀(ws:List Nat) (τ:L2.St),i∉ws->(wipe (τ.set i x) ws).set i none=(wipe τ ws).set i none:=by
    intro ws
    induction ws with
    |nil=>intro τ _;show (τ.set i x).set i none=τ.set i none;rw [KaK]
    |cons w ws ih=>
     intro τ hw
     have n1:i≠w:=λz=>hw (by rw [z];exact Kaa)
     have n2:i∉ws:=λz=>hw (Kab _ z)
     unfold wipe
     rw [List.set_comm _ _ n1.symm,ih τ n2,List.set_comm _ _ n1]
   exact this vs σ e
theorem nU {aj:List (List Addr)}{i:Nat}:(aj.set i []).flatten.Sublist aj.flatten:=by
 induction aj generalizing i with
 |nil=>exact Ka0.refl _
 |cons x xs ih=>
  cases i with
  |zero=>
   show ([]++xs.flatten).Sublist (x++xs.flatten)
   rw [Ka5]
   exact Kbo _ _
  |succ i=>
   show (x++(xs.set i []).flatten).Sublist (x++xs.flatten)
   exact Ka0.append (Ka0.refl _) ih
def aQ (i:Nat):SG where
 t:=λ_=>gName i
 ix:=[i]
 ev:=λd ρ=>some (ρ.set i (.dat d))
 ok:=by
  intro K sk F H σ ρ aj v d as ρ' Q s r sl h q
  cases h
  refine q _ (aj.set i []) (sl.set ⟨rfl,v,as,rfl,r⟩) (λa m=>nU.mem m) nU λvs hv=>VF (hv i (by simp))
def QG (t:Frag->TGs)(ix:List Nat)(ev:List PyData->List Slot->Option (List Slot)):Prop:=∀(K:Frag) {sk:Option Addr} {F H:Hp} {σ:L2.St} {ρ:List Slot} {aj:List (List Addr)} {vs:List V} {ds:List PyData} {as:List Addr} {ρ':List Slot} {Q:L2.St->Hp->Prop},Same F H->ao F vs ds as->Slots sk F H σ ρ aj->ev ds ρ=some ρ' ->
 (∀σ' aF,Slots sk F H σ' ρ' aF->(∀a∈aF.flatten,a∈aj.flatten)->aF.flatten.Sublist aj.flatten->(∀vs:List Nat,(∀i∈ix,i∈vs)->wipe σ' vs=wipe σ vs)->Q σ' H)->t K vs σ H Q
structure cC where
 t:Frag->TGs
 n:Nat
 ix:List Nat
 ev:List PyData->List Slot->Option (List Slot)
 ok:QG t ix ev
def cC.nil:cC where
 t:=λ_=>gNil
 n:=0
 ix:=[]
 ev:=λds ρ=>match ds with|[]=>some ρ|_=>none
 ok:=by
  intro K sk F H σ ρ aj v d as ρ' Q s r sl h q
  dsimp only at h
  split at h
  ·cases h
   cases r
   exact⟨rfl,q _ aj sl (λa m=>m) (Ka0.refl _) λvs hv=>rfl⟩
  ·cases h
def cC.cons (g:SG)(r:cC):cC where
 t:=λK=>gCons (g.t K) (r.t K)
 n:=r.n+1
 ix:=g.ix++r.ix
 ev:=λds ρ=>match ds with|d::ds=>(g.ev d ρ).bind λaB=>r.ev ds aB|_=>none
 ok:=by
  intro K sk F H σ ρ aj v d as ρ' Q s rr sl h q
  dsimp only at h
  split at h
  ·rename_i d ds
   obtain⟨aB,h1,h2⟩:=aI h
   cases rr with
   |cons r1 r2=>
    refine⟨_,_,rfl,g.ok K s r1 sl h1 λσ1 lW Xp m1 u1 w1=>?_⟩
    refine r.ok K s r2 Xp h2 λσ2 dB sl2 m2 u2 w2=>?_
    refine q σ2 dB sl2 (λa m=>m1 a (m2 a m)) (u2.trans u1) λvs hv=>?_
    rw [w2 vs λi hi=>hv i (Kaq _ hi),w1 vs λi hi=>hv i (Kac _ hi)]
  ·cases h
def SG.tup (g:cC):SG where
 t:=λK=>gTup K g.n (g.t K)
 ix:=g.ix
 ev:=λd ρ=>match d with|.tuple ds=>if ds.length=g.n then g.ev ds ρ else none|_=>none
 ok:=by
  intro K sk F H σ ρ aj v d as ρ' Q s r sl h q
  dsimp only at h
  split at h
  ·rename_i ds
   split at h
   ·rename_i hl
    obtain⟨a,xs,rfl,ha,hr⟩:=r.bM
    exact⟨a,xs,rfl,.inl (.inl (s _ _ ha)),by rw [hr.len];exact hl,g.ok K s hr sl h q⟩
   ·cases h
  ·cases h
end Pu
namespace Pu
variable [aR]
open PySem L2
section
variable {sk:Option Addr}{F H:Hp}{σ:L2.St}{ρ:List Slot}{aj:List (List Addr)}
theorem KZ {α:Type}{l:List α}{i:Nat}{x:α}(h:l[i]? = some x):l.set i x=l:=by
 induction l generalizing i with
 |nil=>rfl
 |cons y l ih=>
  cases i with
  |zero=>cases h;rfl
  |succ i=>show y::l.set i x=y::l;rw [ih h]
/-- one more frozen object beside bJ slots -/
theorem Slots.upd {a:Addr}{o:HO}(h:Slots sk F H σ ρ aj)(ha:a∉aj.flatten)(hF:F a=none):Slots sk (upd F a o) H σ ρ aj:=by
 have s1:Same F (L2.upd F a o):=λb u e=>by rw [upd_ne (ne_of_none e hF)];exact e
 induction h with
 |nil=>exact .nil
 |@cons x xs sl JH fp aj h r ih=>
  rw [Kar] at ha
  refine .cons ?_ (ih λm=>ha (Kaq _ m))
  cases sl with
  |emp=>exact h
  |dat d=>obtain⟨e,v,as,e1,r⟩:=h;exact⟨e,v,as,e1,r.mono s1⟩
  |own d=>obtain⟨v,e1,r⟩:=h;exact⟨v,e1,r.mono s1⟩
  |aO ds o=>
   obtain⟨b,vs,as,e1,e2,e3,r,e4⟩:=h
   refine⟨b,vs,as,e1,e2,?_,r.mono s1,e4⟩
   rw [upd_ne (λz=>ha (Kac _ (by rw [e4,z];exact Kaa)))]
   exact e3
  |eV f=>
   obtain⟨b,ws,e1,e2,e3,e4,r,e5⟩:=h
   refine⟨b,ws,e1,e2,?_,⟨e4.1,λp hp=>(e4.2 p hp).mono s1⟩,λk=>(r k).mono s1,e5⟩
   rw [upd_ne (λz=>ha (Kac _ (by rw [e5,z];exact Kaa)))]
   exact e3
  |iA es=>obtain⟨e,a,od,ws,e1,e2,r⟩:=h;exact⟨e,a,od,ws,e1,s1 _ _ e2,IX s1 r⟩
  |bE es=>
   obtain⟨b,ws,e1,e2,e3,r,e5⟩:=h
   refine⟨b,ws,e1,e2,?_,IX s1 r,e5⟩
   rw [upd_ne (λz=>ha (Kac _ (by rw [e5,z];exact Kaa)))]
   exact e3
  |cT f=>
   obtain⟨b,ws,e1,e2,e3,e4,r,e5⟩:=h
   refine⟨b,ws,e1,e2,?_,e4,λk=>(r k).mono s1,e5⟩
   rw [upd_ne (λz=>ha (Kac _ (by rw [e5,z];exact Kaa)))]
   exact e3
  |bC=>exact h
  |fix v=>exact h
  |fn f c q=>exact⟨h.1,h.2.1,s1 _ _ h.2.2⟩
  |rR d=>
   obtain⟨v,e1,r,e2⟩:=h
   refine⟨v,e1,r.mono (Pf s1 λ_ _ _ e=>e),λb m=>?_⟩
   rw [upd_ne (λz=>ha (Kac _ (by rw [<-z];exact m)))]
   exact e2 b m
  |ins C nm ds=>obtain⟨e,b,dx,vs,as,e1,e2,e3,r⟩:=h;exact⟨e,b,dx,vs,as,e1,s1 _ _ e2,e3,r.mono s1⟩
  |obj C b nm ds=>
   obtain⟨dx,vs,as,e1,e2,e3,e4,e5,e6,r,e7⟩:=h
   refine⟨dx,vs,as,e1,e2,?_,e4,?_,e6,r.mono s1,e7⟩
   ·rw [upd_ne (λz=>ha (Kac _ (by rw [e7,z];exact Kaa)))];exact e3
   ·rw [upd_ne (λz=>ha (Kac _ (by rw [e7,z];exact Kab _ Kaa)))];exact e5
  |qq B C nm ds=>obtain⟨e,b,dx,vs,as,e1,e2,e3,r,hB⟩:=h;exact⟨e,b,dx,vs,as,e1,s1 _ _ e2,e3,r.mono s1,hB⟩
  |qM B C b nm ds=>
   obtain⟨dx,vs,as,e1,e2,e3,e4,e5,e6,r,hB,e7⟩:=h
   refine⟨dx,vs,as,e1,e2,?_,e4,?_,e6,r.mono s1,λc m=>⟨rD s1 (hB c m).1,(hB c m).2⟩,e7⟩
   ·rw [upd_ne (λz=>ha (Kac _ (by rw [e7,z];exact Kaa)))];exact e3
   ·rw [upd_ne (λz=>ha (Kac _ (by rw [e7,z];exact Kab _ Kaa)))];exact e5
  |Fc o ks ds f=>
   obtain⟨b,dx,ws,vs,as,rs,bs,e1,eo,e2,e3,e4,e5,e6,r,e7,e8,e9⟩:=h
   refine⟨b,dx,ws,vs,as,rs,bs,e1,eo,e2,?_,e4,?_,e6,r.mono s1,e7,e8.mono s1,e9⟩
   ·rw [upd_ne (λz=>ha (Kac _ (by rw [e9,z];exact Kaa)))];exact e3
   ·rw [upd_ne (λz=>ha (Kac _ (by rw [e9,z];exact Kab _ Kaa)))];exact e5
theorem Slots.tK {a:Addr}{o:HO}(h:Slots sk F H σ ρ aj)(ha:a∉aj.flatten):Slots sk F (L2.upd H a o) σ ρ aj:=by
 induction h with
 |nil=>exact .nil
 |@cons x xs sl JH fp aj h r ih=>
  rw [Kar] at ha
  refine .cons ?_ (ih λm=>ha (Kaq _ m))
  cases sl with
  |emp=>exact h
  |dat d=>exact h
  |own d=>exact h
  |aO ds o=>
   obtain⟨b,vs,as,e1,e2,e3,r,e4⟩:=h
   refine⟨b,vs,as,e1,?_,e3,r,e4⟩
   rw [upd_ne (λz=>ha (Kac _ (by rw [e4,z];exact Kaa)))]
   exact e2
  |eV f=>
   obtain⟨b,ws,e1,e2,e3,e4,r,e5⟩:=h
   refine⟨b,ws,e1,?_,e3,e4,r,e5⟩
   rw [upd_ne (λz=>ha (Kac _ (by rw [e5,z];exact Kaa)))]
   exact e2
  |iA es=>exact h
  |bE es=>
   obtain⟨b,ws,e1,e2,e3,r,e5⟩:=h
   refine⟨b,ws,e1,?_,e3,r,e5⟩
   rw [upd_ne (λz=>ha (Kac _ (by rw [e5,z];exact Kaa)))]
   exact e2
  |cT f=>
   obtain⟨b,ws,e1,e2,e3,e4,r,e5⟩:=h
   refine⟨b,ws,e1,?_,e3,e4,r,e5⟩
   rw [upd_ne (λz=>ha (Kac _ (by rw [e5,z];exact Kaa)))]
   exact e2
  |bC=>exact h
  |fix v=>exact h
  |fn f c q=>exact h
  |rR d=>
   obtain⟨v,e1,r,e2⟩:=h
   refine⟨v,e1,r.mono (Pf (Same.refl _) λb m o e=>?_),e2⟩
   rw [upd_ne (λz=>ha (Kac _ (by rw [<-z];exact m)))]
   exact e
  |ins C nm ds=>exact h
  |obj C b nm ds=>
   obtain⟨dx,vs,as,e1,e2,e3,e4,e5,e6,r,e7⟩:=h
   refine⟨dx,vs,as,e1,?_,e3,?_,e5,e6,r,e7⟩
   ·rw [upd_ne (λz=>ha (Kac _ (by rw [e7,z];exact Kaa)))];exact e2
   ·rw [upd_ne (λz=>ha (Kac _ (by rw [e7,z];exact Kab _ Kaa)))];exact e4
  |qq B C nm ds=>exact h
  |qM B C b nm ds=>
   obtain⟨dx,vs,as,e1,e2,e3,e4,e5,e6,r,hB,e7⟩:=h
   refine⟨dx,vs,as,e1,?_,e3,?_,e5,e6,r,hB,e7⟩
   ·rw [upd_ne (λz=>ha (Kac _ (by rw [e7,z];exact Kaa)))];exact e2
   ·rw [upd_ne (λz=>ha (Kac _ (by rw [e7,z];exact Kab _ Kaa)))];exact e4
  |Fc o ks ds f=>
   obtain⟨b,dx,ws,vs,as,rs,bs,e1,eo,e2,e3,e4,e5,e6,r,e7,e8,e9⟩:=h
   refine⟨b,dx,ws,vs,as,rs,bs,e1,eo,?_,e3,?_,e5,e6,r,e7,e8,e9⟩
   ·rw [upd_ne (λz=>ha (Kac _ (by rw [e9,z];exact Kaa)))];exact e2
   ·rw [upd_ne (λz=>ha (Kac _ (by rw [e9,z];exact Kab _ Kaa)))];exact e4
/-- slot i without its content -/
theorem Slots.drop {i:Nat}(h:Slots sk F H σ ρ aj):Slots sk F H σ (ρ.set i .emp) (aj.set i []):=by
 induction h generalizing i with
 |nil=>exact .nil
 |cons h r ih=>
  cases i with
  |zero=>exact .cons rfl r
  |succ i=>exact .cons h ih
/-- slot i set anew -/
theorem Slots.fill {i:Nat}{x:Option V}{sl:Slot}{fp:List Addr}(h:Slots sk F H σ ρ aj)(hx:σ[i]? = some x)(q:uq sk F H x sl fp):Slots sk F H σ (ρ.set i sl) (aj.set i fp):=by
 have:=h.set (i:=i) q
 rwa [KZ hx] at this
end
def aU (ρ:List Slot):List Nat->List Slot
 |[]=>ρ
 |v::vs=>(aU ρ vs).set v .emp
theorem Slots.wipe {sk:Option Addr}{F H:Hp}{σ:L2.St}{ρ:List Slot}{aj:List (List Addr)}(h:Slots sk F H σ ρ aj):∀vs:List Nat,∃aF,Slots sk F H (wipe σ vs) (aU ρ vs) aF/\aF.flatten.Sublist aj.flatten
 |[]=>⟨aj,h,Ka0.refl _⟩
 |v::vs=>by
  obtain⟨f1,h1,h2⟩:=Slots.wipe h vs
  exact⟨f1.set v [],h1.set rfl,nU.trans h2⟩
theorem eqs (σ:L2.St)(vs:List Nat):wipe (wipe σ vs) vs=wipe σ vs:=by
 have:∀ws:List Nat,(∀i∈ws,i∈vs)->wipe (wipe σ ws) vs=wipe σ vs:=by
  intro ws
  induction ws with
  |nil=>intro _;rfl
  |cons w ws ih=>
   intro h
   show wipe ((wipe σ ws).set w none) vs=wipe σ vs
   rw [VF (h w Kaa),ih λi hi=>h i (Kab _ hi)]
 exact this vs λi hi=>hi
def dX (z:Vl):Bool:=z.2 ||aH z.1
def bQ (g:PyData->List Slot->Option (List Slot))(tt:List Slot->ae->Option (Bool×ae))(e:D8)(ρ:List Slot):List PyData->ae->Option (List Vl×ae)
 |[],s=>some ([],s)
 |d::ds,s=>(g d ρ).bind λaB=>(tt aB s).bind λb=>if b.1=true then (e aB b.2).bind λy=>(bQ g tt e ρ ds y.2).bind λz=>some (y.1::z.1,z.2) else bQ g tt e ρ ds b.2
/-- bJ state of a comprehension -/
structure mq (sk:Option Addr)(F1 H1:Hp)(D:Addr)(ys:List Vl)(F H:Hp)(s:ae)(vs:List V)(as:List Addr):Prop where
 sub:Same F1 F
 sub':Same F H
 fr:∀(a:Addr) (o:HO) (_:sk≠some a) (_:H1 a=some o) (_:sq o:=by first|assumption|(intro ps z;cases z;done)),H a=some o
 dm:∀a,H1 a≠none->H a≠none
 new:∀a o,F a=some o->F1 a=some o∨H1 a=none
 aW:aZ sk F H s
 hD:H D=some (.lst vs)
 fD:F D=none
 r:ao F vs (ys.map (·.1)) as
 bR:bx (ys.all dX) H1 as
/-- one more Xw expression -/
theorem mq.step {sk:Option Addr}{F1 H1:Hp}{D:Addr}{ys:List Vl}{F H F' H':Hp}{s s':ae}{vs:List V}{as:List Addr}(L:mq sk F1 H1 D ys F H s vs as)(nD:sk≠some D)(st:Step sk F H F' H')(k:aZ sk F' H' s'):mq sk F1 H1 D ys F' H' s' vs as:=by
 refine⟨L.sub.trans st.sub,st.sub',λa o h e hs=>st.fr a o h (L.fr a o h e hs) hs,λa h=>st.dm a (L.dm a h),λa o e=>?_,k,st.fr D _ nD L.hD,?_,L.r.mono st.sub,L.bR⟩
 ·rcases st.new a o e with z|z
  ·exact L.new a o z
  ·refine .inr ?_
   cases q:H1 a with
   |none=>rfl
   |some u=>exact absurd z (L.dm a (by rw [q];exact nofun))
 ·cases q:F' D with
  |none=>rfl
  |some u=>
   rcases st.new D u q with z|z
   ·rw [L.fD] at z;cases z
   ·rw [L.hD] at z;cases z
/-- bJ new item is put in -/
theorem mq.put {sk:Option Addr}{F1 H1:Hp}{D:Addr}{ys:List Vl}{F H F' H':Hp}{s s':ae}{vs:List V}{as bs:List Addr}{y:Vl}{v:V}(L:mq sk F1 H1 D ys F H s vs as)(nD:sk≠some D)(hn:H1 D=none)(st:Step sk F H F' H')(k:aZ sk F' H' s')(r:Rp F' v y.1 bs)(f:bx y.2 H bs):
  mq sk F1 H1 D (ys++[y]) F' (upd H' D (.lst (vs++[v]))) s' (vs++[v]) (as++bs):=by
 have M:=L.step nD st k
 refine⟨M.sub,λa o e=>?_,λa o h e hs=>?_,λa h=>?_,M.new,⟨λa e=>?_,Pq M.aW.tab M.hD⟩,upd_same,M.fD,?_,?_⟩
 ·rw [upd_ne (λz=>by rw [z,M.fD] at e;cases e)];exact M.sub' a o e
 ·rw [upd_ne (λz=>by rw [z,hn] at e;cases e)];exact M.fr a o h e
 ·rw [upd_ne (λz=>h (by rw [z];exact hn))];exact M.dm a h
 ·obtain⟨h1,h2⟩:=M.aW a e
  exact⟨by rw [upd_ne (λz=>nD (by rw [<-z];exact e))];exact h1,h2⟩
 ·rw [KaH]
  have:=M.r.app (ao.cons r .nil)
  simpa using this
 ·intro e
  rw [Kcv,Ka8] at e
  have e2:dX y=true:=by simpa using e.2
  obtain⟨n1,n2⟩:=L.bR e.1
  have hb:bs.Nodup/\∀a∈bs,H a=none:=by
   unfold dX at e2
   rcases Kbb.mp e2 with z|z
   ·exact f z
   ·rw [r.aH z];exact⟨KaI,λa m=>by cases m⟩
  refine⟨Kaj.mpr ⟨n1,hb.1,λa ma b mb z=>?_⟩,λa m=>?_⟩
  ·subst z
   obtain⟨xs,hx⟩:=L.r.dom a ma
   have z1:=L.sub' a _ hx
   rw [hb.2 a mb] at z1
   cases z1
  ·rcases Kao.mp m with z|z
   ·exact n2 a z
   ·cases q:H1 a with
    |none=>rfl
    |some u=>exact absurd (hb.2 a z) (L.dm a (by rw [q];exact nofun))
theorem mq.done {sk:Option Addr}{F1 H1:Hp}{D:Addr}{ys:List Vl}{F H:Hp}{s:ae}{vs:List V}{as:List Addr}(L:mq sk F1 H1 D ys F H s vs as)(nD:sk≠some D)(hn:H1 D=none):
  Step sk F1 H1 (upd F D (.lst vs)) H/\aZ sk (upd F D (.lst vs)) H s/\Rp (upd F D (.lst vs)) (.ref D) (.list (ys.map (·.1))) (D::as)/\bx (ys.all dX) H1 (D::as):=by
 have s1:Same F (upd F D (.lst vs)):=λa o e=>by
  rw [upd_ne (λz=>by rw [z,L.fD] at e;cases e)];exact e
 refine⟨⟨L.sub.trans s1,λa o e=>?_,λa o x y z=>L.fr a o x y z,L.dm,λa o e=>?_⟩,⟨λa e=>?_,L.aW.tab.xw⟩,.lst upd_same (L.r.mono s1),λe=>?_⟩
 ·by_cases q:a=D
  ·rw [q,upd_same] at e;rw [q,<-e];exact L.hD
  ·rw [upd_ne q] at e;exact L.sub' a o e
 ·by_cases q:a=D
  ·rw [q];exact .inr hn
  ·rw [upd_ne q] at e;exact L.new a o e
 ·obtain⟨h1,h2⟩:=L.aW a e
  exact⟨h1,by rw [upd_ne (λz=>nD (by rw [<-z];exact e))];exact h2⟩
 ·obtain⟨n1,n2⟩:=L.bR e
  refine⟨KaN.mpr ⟨λm=>?_,n1⟩,λa m=>?_⟩
  ·obtain⟨xs,hx⟩:=L.r.dom D m
   rw [L.fD] at hx;cases hx
  ·rcases Kal.mp m with z|z
   ·rw [z];exact hn
   ·exact n2 a z
theorem mq.start {sk:Option Addr}{F1 H1:Hp}{D:Addr}{s:ae}(sub:Same F1 H1)(k:aZ sk F1 H1 s)(hn:H1 D=none):mq sk F1 H1 D [] F1 (upd H1 D (.lst [])) s [] []:=by
 refine⟨Same.refl _,λa o e=>?_,λa o h e _=>?_,λa h=>?_,λa o e=>.inl e,⟨λa e=>?_,Vi k.tab hn⟩,upd_same,sub.free hn,.nil,.nil⟩
 ·have:=sub a o e
  rw [upd_ne (ne_of_none this hn)];exact this
 ·rw [upd_ne (ne_of_none e hn)];exact e
 ·rw [upd_ne (λz=>h (by rw [z];exact hn))];exact h
 ·obtain⟨h1,h2⟩:=k a e
  exact⟨by rw [upd_ne (ne_of_none h1 hn)];exact h1,h2⟩
theorem gb {sk:Option Addr}{F H:Hp}{s:ae}{D:Addr}(k:aZ sk F H s)(hn:H D=none):sk≠some D:=λe=>by
 have:=(k D e).1
 rw [hn] at this;cases this
/-- bJ turns of a comprehension -/
theorem qA {it:SI}{g:SG}{tt:ST}{e:SE}{vs:List Nat}(hv:∀i∈g.ix,i∈vs)(K:Frag){sk:Option Addr}{F H:Hp}{σ:L2.St}{ρ:List Slot}{aj:List (List Addr)}{s s1 s':ae}{ds:List PyData}{ys:List Vl}{Q:VK}(p:Pre sk F H σ ρ aj s)(h1:it.ev ρ s=some (ds,s1))(h2:bQ g.ev tt.ev e.ev (aU ρ vs) ds s1=some (ys,s'))(hlen:ys.length<=100000)
  (q:∀F1 H1 D F2 H2 ws as,Step sk F H F1 H1->aZ sk F1 H1 s1->H1 D=none->sk≠some D->mq sk F1 H1 D ys F2 H2 s' ws as->Q (.ref D) H2):tLc (it.t K) (g.t K) (tt.t K) (e.t K) vs σ H Q:=by
 refine it.ok K p h1 λJ F1 H1 st1 k1 yl D nD=>?_
 have P1:=p.next st1 k1
 have cU:sk≠some D:=gb k1 nD
 refine⟨λi m H2=>∃F2 si done rest BN as2,m=(ds.drop i).length/\i<=ds.length/\mq sk F1 H1 D done F2 H2 si BN as2/\bQ g.ev tt.ev e.ev (aU ρ vs) (ds.drop i) si=some (rest,s')/\done++rest=ys,
  ⟨ds.length,F1,s1,[],ys,[],[],by simp,Ka2 _,.start st1.sub' k1 nD,by simpa using h2,rfl⟩,λi m H2 hW=>?_⟩
 obtain⟨F2,si,done,rest,BN,as2,em,hi,L,hc,hys⟩:=hW
 by_cases hlt:i<ds.length
 ·have ed:ds.drop i=ds[i]::ds.drop (i+1):=Kbd hlt
  have eg:ds[i]? = some ds[i]:=Kax hlt
  rw [ed] at hc em
  obtain⟨go,yld⟩:=(yl F2 H2 i L.sub L.sub').1 _ eg
  unfold bQ at hc
  obtain⟨aB,c1,hc⟩:=aI hc
  obtain⟨⟨b,sb⟩,c2,hc⟩:=aI hc
  dsimp only at hc
  refine .inr ⟨go,λH'=>∃F3 oR done' rest' Ie xK,mq sk F1 H1 D done' F3 H' oR Ie xK/\bQ g.ev tt.ev e.ev (aU ρ vs) (ds.drop (i+1)) oR=some (rest',s')/\done'++rest'=ys,λH' hN=>?_,λx H3 hy=>?_⟩
  ·obtain⟨F3,oR,done',rest',Ie,xK,L3,c3,e3⟩:=hN
   exact⟨(ds.drop (i+1)).length,by rw [em];exact Kbk _,F3,oR,done',rest',Ie,xK,rfl,hlt,L3,c3,e3⟩
  ·obtain⟨F3,xK,sa,r3⟩:=yld x H3 hy
   have L3:=L.step cU sa.any (L.aW.keep sa)
   have JG:Slots sk F1 H1 σ ρ aj:=P1.slots
   have stp:Step sk F1 H1 F3 H3:=⟨L3.sub,L3.sub',λa o x y z=>L3.fr a o x y z,L3.dm,L3.new⟩
   have E9:=JG.step stp P1.jW
   obtain⟨fw,HW,mw⟩:=E9.wipe vs
   refine g.ok K L3.sub' r3 HW c1 λσ' aF sl' m' u' w'=>⟨?_,?_⟩
   ·rw [w' vs hv,eqs]
   ·have P3:Pre sk F3 H3 σ' aB aF si:=⟨L3.sub',L3.aW,sl',λa ha ma=>P1.jW a ha (mw.mem (m' a ma)),P1.dj.sublist (u'.trans mw)⟩
    refine tt.ok K P3 c2 λF4 H4 rG k4=>?_
    have L4:=L3.step cU rG k4
    split at hc
    ·rename_i eb
     rw [if_pos eb]
     obtain⟨⟨y,sy⟩,c3,hc⟩:=aI hc
     obtain⟨⟨z,sz⟩,c4,hc⟩:=aI hc
     cases hc
     refine e.ok K (P3.next rG k4) c3 λv F5 H5 QM st5 k5 r5 f5=>?_
     have L5:=L4.put cU nD st5 k5 r5 f5
     refine⟨BN,st5.fr D _ cU L4.hD,?_,F5,sy,_,z,_,_,L5,c4,?_⟩
     ·have:=L.r.len
      rw [Kaf] at this
      rw [this]
      have e2:done.length+(z.length+1)=ys.length:=by rw [<-hys];simp
      exact Ka7 (show done.length<100000 by omega) (by decide)
     ·rw [<-hys];simp
    ·rename_i eb
     rw [if_neg eb]
     exact⟨F4,sb,done,rest,BN,as2,L4,hc,hys⟩
 ·have e1:i=ds.length:=by omega
  subst e1
  rw [Kbl] at hc
  unfold bQ at hc
  cases hc
  rw [KaC] at hys
  subst hys
  exact .inl ⟨(yl F2 H2 _ L.sub L.sub').2 (Kap _),q F1 H1 D F2 H2 BN as2 st1 k1 nD cU L⟩
def fB (it:SI)(g:SG)(tt:ST)(e:SE)(vs:List Nat)(hv:∀i∈g.ix,i∈vs):SE where
 t:=λK=>tLc (it.t K) (g.t K) (tt.t K) (e.t K) vs
 ev:=λρ s=>(it.ev ρ s).bind λx=>(bQ g.ev tt.ev e.ev (aU ρ vs) x.1 x.2).bind λy=>if y.1.length<=100000 then some ((.list (y.1.map (·.1)),y.1.all dX),y.2) else none
 ok:=by
  intro K sk F H σ ρ aj s vl s' Q p h q
  obtain⟨⟨ds,s1⟩,h1,g1⟩:=aI h
  obtain⟨⟨ys,s2⟩,h2,g2⟩:=aI g1
  clear h g1
  dsimp only at g2 h2
  split at g2
  case isFalse=>cases g2
  rename_i hlen
  cases g2
  refine qA hv K p h1 h2 hlen λF1 H1 D F2 H2 ws as st1 k1 nD cU L=>?_
  obtain⟨d1,d2,d3,d4⟩:=L.done cU nD
  exact q _ _ H2 _ (st1.trans d1) d2 d3 (d4.back st1.dm)
def Y5 (t:Frag->TE)(ev:List Slot->ae->Option ((List PyData×Bool)×ae)):Prop:=∀(K:Frag) {sk:Option Addr} {F H:Hp} {σ:L2.St} {ρ:List Slot} {aj:List (List Addr)} {s:ae} {ds:List PyData} {o:Bool} {s':ae} {Q:VK},Pre sk F H σ ρ aj s->ev ρ s=some ((ds,o),s') ->
 (∀a ws F' H' as,Step sk F H F' H'->aZ sk F' H' s'->H a=none->F' a=none->H' a=some (.lst ws)->ao F' ws ds as->a∉as->bx o H as->Q (.ref a) H')->t K σ H Q
structure SB where
 t:Frag->TE
 ev:List Slot->ae->Option ((List PyData×Bool)×ae)
 ok:Y5 t ev
def SB.lc (it:SI)(g:SG)(tt:ST)(e:SE)(vs:List Nat)(hv:∀i∈g.ix,i∈vs):SB where
 t:=λK=>tLc (it.t K) (g.t K) (tt.t K) (e.t K) vs
 ev:=λρ s=>(it.ev ρ s).bind λx=>(bQ g.ev tt.ev e.ev (aU ρ vs) x.1 x.2).bind λy=>if y.1.length<=100000 then some ((y.1.map (·.1),y.1.all dX),y.2) else none
 ok:=by
  intro K sk F H σ ρ aj s dd o s' Q p h q
  obtain⟨⟨ds,s1⟩,h1,g1⟩:=aI h
  obtain⟨⟨ys,s2⟩,h2,g2⟩:=aI g1
  clear h g1
  dsimp only at g2 h2
  split at g2
  case isFalse=>cases g2
  rename_i hlen
  cases g2
  refine qA hv K p h1 h2 hlen λF1 H1 D F2 H2 ws as st1 k1 nD cU L=>?_
  refine q D ws F2 H2 as (st1.trans ⟨L.sub,L.sub',λa o x y z=>L.fr a o x y z,L.dm,L.new⟩) L.aW ?_ L.fD L.hD L.r ?_ (L.bR.back st1.dm)
  ·cases hq:H D with
   |none=>rfl
   |some u=>exact absurd nD (st1.dm D (by rw [hq];exact nofun))
  ·intro m
   obtain⟨xs,hx⟩:=L.r.dom D m
   rw [L.fD] at hx;cases hx
/-- a list of X_ own -/
def SB.own (e:SE):SB where
 t:=e.t
 ev:=λρ s=>(e.ev ρ s).bind λx=>match x.1 with
  |(.list ds,true)=>some ((ds,true),x.2)
  |_=>none
 ok:=by
  intro K sk F H σ ρ aj s dd o s' Q p h q
  obtain⟨⟨x,s1⟩,h1,h2⟩:=aI h
  dsimp only at h2
  split at h2
  ·cases h2
   refine e.ok K p h1 λv F1 H1 as st k r f=>?_
   obtain⟨a,xs,cs,rfl,ha,hr,rfl⟩:=r.aM
   obtain⟨n1,n2⟩:=f rfl
   have ha0:H a=none:=n2 a Kaa
   have ZG:F a=none:=p.sub.free ha0
   have XH:a∉cs:=(KaN.mp n1).1
   have sD:Same (del F1 a) F1:=λb o e=>by
    by_cases z:b=a
    ·rw [z,Jb] at e;cases e
    ·rw [v8 z] at e;exact e
   have sF:Same F (del F1 a):=λb o e=>by
    rw [v8 (λz=>by rw [z,ZG] at e;cases e)];exact st.sub b o e
   refine q a xs (del F1 a) H1 cs ⟨sF,sD.trans st.sub',λa o x y z=>st.fr a o x y z,st.dm,λb o e=>st.new b o (sD b o e)⟩ ⟨λb e=>⟨(k b e).1,?_⟩,k.tab.back sD⟩ ha0 Jb (st.sub' _ _ ha) (hr.lF ha XH) XH λ_=>⟨(KaN.mp n1).2,λb m=>n2 b (Kab _ m)⟩
   by_cases z:b=a
   ·rw [z,Jb]
   ·rw [v8 z];exact (k b e).2
  ·cases h2
theorem Pre.peek {sk:Option Addr}{F H:Hp}{σ:L2.St}{ρ:List Slot}{aj:List (List Addr)}{s:ae}{i:Nat}{ds:List PyData}{o:Bool}(p:Pre sk F H σ ρ aj s)(e:ρ[i]? = some (.aO ds o)):
  ∃a vs aF,H a=some (.lst vs)/\F a=none/\sk≠some a/\Pre sk (upd F a (.lst vs)) H σ (ρ.set i (.dat (.list ds))) aF s:=by
 obtain⟨x,fp,e1,e2,a,vs,as,rfl,hH,hF,r,rfl⟩:=p.slots.get e
 have fa:a∈aj.flatten:=KaB.mpr ⟨_,Kat e2,Kaa⟩
 have cU:sk≠some a:=λz=>p.jW a z fa
 obtain⟨n1,n2⟩:=yP p.dj e2
 have n3:=Kaj.mp n1
 have na:a∉(aj.set i []).flatten:=λm=>n3.2.2 a Kaa a m rfl
 have sF:Same F (upd F a (.lst vs)):=λb u e=>by rw [upd_ne (ne_of_none e hF)];exact e
 have sl:=(p.slots.drop (i:=i)).upd (a:=a) (o:=.lst vs) na hF
 have sl2:=sl.fill (sl:=.dat (.list ds)) e1 ⟨rfl,_,_,rfl,.lst upd_same (r.mono sF)⟩
 rw [KaK,KaK] at sl2
 refine⟨a,vs,aj.set i [],hH,hF,cU,λb u e=>?_,⟨λb e=>⟨(p.aW b e).1,?_⟩,p.aW.tab.xw⟩,sl2,λb e m=>p.jW b e (nU.mem m),n3.2.1⟩
 ·by_cases z:b=a
  ·rw [z,upd_same] at e;rw [z,<-e];exact hH
  ·rw [upd_ne z] at e;exact p.sub b u e
 ·rw [upd_ne (λz=>cU (by rw [<-z];exact e))];exact (p.aW b e).2
theorem Step.Bh {sk:Option Addr}{F H F' H':Hp}{a:Addr}{vs:List V}{s:ae}(hF:F a=none)(cU:sk≠some a)(st:Step sk (upd F a (.lst vs)) H F' H')(k:aZ sk F' H' s):Step sk F H (del F' a) H'/\aZ sk (del F' a) H' s/\F' a=some (.lst vs):=by
 have sD:Same (del F' a) F':=λb o e=>by
  by_cases z:b=a
  ·rw [z,Jb] at e;cases e
  ·rw [v8 z] at e;exact e
 refine⟨⟨λb u e=>?_,sD.trans st.sub',λa o x y z=>st.fr a o x y z,st.dm,λb u e=>?_⟩,⟨λb e=>⟨(k b e).1,?_⟩,k.tab.back sD⟩,st.sub a _ upd_same⟩
 ·have nb:b≠a:=ne_of_none e hF
  rw [v8 nb]
  exact st.sub b u (by rw [upd_ne nb];exact e)
 ·by_cases z:b=a
  ·rw [z,Jb] at e;cases e
  ·rcases st.new b u (sD b u e) with q|q
   ·rw [upd_ne z] at q;exact .inl q
   ·exact .inr q
 ·by_cases z:b=a
  ·rw [z,Jb]
  ·rw [v8 z];exact (k b e).2
def SE.am (i:Nat)(e:SE):SE where
 t:=e.t
 ev:=λρ s=>match ρ[i]? with
  |some (.aO ds _)=>(e.ev (ρ.set i (.dat (.list ds))) s).bind λx=>if dX x.1=true then some x else none
  |_=>none
 ok:=by
  intro K sk F H σ ρ aj s vl s' Q p h q
  dsimp only at h
  split at h
  ·rename_i ds o cF
   obtain⟨⟨x,s1⟩,h1,h2⟩:=aI h
   dsimp only at h2
   split at h2
   ·rename_i hown
    cases h2
    obtain⟨a,vs,aF,hH,hF,cU,pp⟩:=p.peek cF
    refine e.ok K pp h1 λv F1 H1 as st k r f=>?_
    obtain⟨u1,u2,u3⟩:=st.Bh hF cU k
    refine q v (del F1 a) H1 as u1 u2 (r.lF u3 λm=>?_) f
    unfold dX at hown
    rcases Kbb.mp hown with z|z
    ·have:=(f z).2 a m
     rw [hH] at this;cases this
    ·rw [r.aH z] at m;cases m
   ·cases h2
  ·cases h
def P5 (i:Nat)(e:ST):ST where
 t:=e.t
 ev:=λρ s=>match ρ[i]? with
  |some (.aO ds _)=>e.ev (ρ.set i (.dat (.list ds))) s
  |_=>none
 ok:=by
  intro K sk F H σ ρ aj s vl s' Q p h q
  dsimp only at h
  split at h
  ·rename_i ds o cF
   obtain⟨a,vs,aF,hH,hF,cU,pp⟩:=p.peek cF
   refine e.ok K pp h λF1 H1 st k=>?_
   obtain⟨u1,u2,u3⟩:=st.Bh hF cU k
   exact q (del F1 a) H1 u1 u2
  ·cases h
end Pu
namespace Pu
variable [aR]
open PySem L2
inductive Out where
 |nx (ρ:List Slot) (s:ae)
 |ret (vl:Vl) (s:ae)
 |brk (ρ:List Slot) (s:ae)
 |cnt (ρ:List Slot) (s:ae)
structure Wd (sk:Option Addr)(F0 H0 F H:Hp)(σ:L2.St)(ρ:List Slot)(aj:List (List Addr))(s:ae):Prop where
 st:Step sk F0 H0 F H
 aW:aZ sk F H s
 slots:Slots sk F H σ ρ aj
 dj:aj.flatten.Nodup
 bR:∀a∈aj.flatten,H0 a=none/\H a≠none/\sk≠some a
section
variable {sk:Option Addr}{F0 H0 F H F' H':Hp}{σ σ':L2.St}{ρ ρ':List Slot}{aj aF:List (List Addr)}{s s':ae}
theorem Wd.pre (w:Wd sk F0 H0 F H σ ρ aj s):Pre sk F H σ ρ aj s:=⟨w.st.sub',w.aW,w.slots,λa e m=>(w.bR a m).2.2 e,w.dj⟩
theorem Wd.next (w:Wd sk F0 H0 F H σ ρ aj s)(st:Step sk F H F' H')(k:aZ sk F' H' s'):Wd sk F0 H0 F' H' σ ρ aj s':=
 ⟨w.st.trans st,k,w.slots.step st w.pre.jW,w.dj,λa m=>⟨(w.bR a m).1,st.dm a (w.bR a m).2.1,(w.bR a m).2.2⟩⟩
theorem Wd.ku (w:Wd sk F0 H0 F H σ ρ aj s){b:Bool}{as:List Addr}(f:bx b H as):bx b H0 as:=f.back w.st.dm
/-- slot i VL data -/
theorem Wd.oQ (w:Wd sk F0 H0 F H σ ρ aj s){i:Nat}{v:V}{d:PyData}{as:List Addr}(r:Rp F v d as):∃aF,Wd sk F0 H0 F H (σ.set i (some v)) (ρ.set i (.dat d)) aF s:=
 ⟨aj.set i [],w.st,w.aW,w.slots.set ⟨rfl,v,as,rfl,r⟩,w.dj.sublist nU,λa m=>w.bR a (nU.mem m)⟩
/-- slot i VL what it owns: new addresses -/
theorem Wd.HS {Hb:Hp}(w:Wd sk F0 H0 F H σ ρ aj s){i:Nat}{v:V}{d:PyData}{as:List Addr}(r:Rp F v d as)(hn:as.Nodup)(hf:∀a∈as,Hb a=none)(h0:∀a,H0 a≠none->Hb a≠none)(hfp:∀a∈aj.flatten,Hb a≠none):∃aF,Wd sk F0 H0 F H (σ.set i (some v)) (ρ.set i (.own d)) aF s:=by
 have nd:(as++aj.flatten).Nodup:=Kaj.mpr ⟨hn,w.dj,λa ma b mb z=>by subst z;exact hfp a mb (hf a ma)⟩
 obtain⟨n1,n2⟩:=vD (i:=i) nd
 refine⟨aj.set i as,w.st,w.aW,w.slots.set ⟨v,rfl,r⟩,n1,λa m=>?_⟩
 rcases n2 a m with z|z
 ·obtain⟨xs,hx⟩:=r.dom a z
  have hx:=w.st.sub' _ _ hx
  refine⟨?_,by rw [hx];exact nofun,λe=>?_⟩
  ·cases q:H0 a with
   |none=>rfl
   |some u=>exact absurd (hf a z) (h0 a (by rw [q];exact nofun))
  ·obtain⟨xs,hy⟩:=r.dom a z
   rw [(w.aW a e).2] at hy
   cases hy
 ·exact w.bR a z
end
def iY (D:Ends)(sk:Option Addr)(F0 H0 F:Hp):Out->Prop
 |.nx ρ' s'=>∀F' H' σ' aF,Same F F'->Wd sk F0 H0 F' H' σ' ρ' aF s'->D.nx σ' H'
 |.brk ρ' s'=>∀F' H' σ' aF,Same F F'->Wd sk F0 H0 F' H' σ' ρ' aF s'->D.bk σ' H'
 |.cnt ρ' s'=>∀F' H' σ' aF,Same F F'->Wd sk F0 H0 F' H' σ' ρ' aF s'->D.ct σ' H'
 |.ret vl s'=>∀v F' H' as,Step sk F0 H0 F' H'->aZ sk F' H' s'->Rp F' v vl.1 as->bx vl.2 H0 as->D.rt v H'
theorem iY.mono {D:Ends}{sk:Option Addr}{F0 H0 F F':Hp}{out:Out}(h:iY D sk F0 H0 F out)(e:Same F F'):iY D sk F0 H0 F' out:=by
 cases out with
 |nx ρ s=>exactλF2 H2 σ2 dB e2 w=>h F2 H2 σ2 dB (e.trans e2) w
 |brk ρ s=>exactλF2 H2 σ2 dB e2 w=>h F2 H2 σ2 dB (e.trans e2) w
 |cnt ρ s=>exactλF2 H2 σ2 dB e2 w=>h F2 H2 σ2 dB (e.trans e2) w
 |ret vl s=>exact h
abbrev x9:=List Slot->ae->Option Out
def Zd (t:Frag->TS)(ev:x9):Prop:=∀(K:Frag) {sk:Option Addr} {F0 H0 F H:Hp} {σ:L2.St} {ρ:List Slot} {aj:List (List Addr)} {s:ae} {out:Out} {D:Ends},Wd sk F0 H0 F H σ ρ aj s->ev ρ s=some out->iY D sk F0 H0 F out->t K D σ H
structure SS where
 t:Frag->TS
 ev:x9
 ok:Zd t ev
def SS.ag:SS:=⟨λ_=>tNext,λρ s=>some (.nx ρ s),by
 intro K sk F0 H0 F H σ ρ aj s out D w h q
 cases h
 exact q F H σ aj (Same.refl _) w⟩
def SS.brk:SS:=⟨λ_=>tBreak,λρ s=>some (.brk ρ s),by
 intro K sk F0 H0 F H σ ρ aj s out D w h q
 cases h
 exact q F H σ aj (Same.refl _) w⟩
def SS.cnt:SS:=⟨λ_=>tCont,λρ s=>some (.cnt ρ s),by
 intro K sk F0 H0 F H σ ρ aj s out D w h q
 cases h
 exact q F H σ aj (Same.refl _) w⟩
def LH:SS:=⟨λ_=>tNever,λρ s=>none,by
 intro K sk F0 H0 F H σ ρ aj s out D w h q
 cases h⟩
def xn (b:x9):Out->Option Out
 |.nx ρ s=>b ρ s
 |o=>some o
def SS.ab (a b:SS):SS where
 t:=λK=>tSeq (a.t K) (b.t K)
 ev:=λρ s=>(a.ev ρ s).bind λo=>xn b.ev o
 ok:=by
  intro K sk F0 H0 F H σ ρ aj s out D w h q
  obtain⟨o,h1,h2⟩:=aI h
  refine a.ok K w h1 ?_
  cases o with
  |nx aB s1=>exactλF1 H1 σ1 lW e1 w1=>b.ok K w1 h2 (q.mono e1)
  |brk aB s1=>cases h2;exact q
  |cnt aB s1=>cases h2;exact q
  |ret vl s1=>cases h2;exact q
def GY (e:SE):SS where
 t:=λK=>tDrop (e.t K)
 ev:=λρ s=>(e.ev ρ s).bind λx=>some (.nx ρ x.2)
 ok:=by
  intro K sk F0 H0 F H σ ρ aj s out D w h q
  obtain⟨⟨x,s1⟩,h1,h2⟩:=aI h
  cases h2
  exact e.ok K w.pre h1 λv F1 H1 as st k r f=>q F1 H1 σ aj st.sub (w.next st k)
def SS.ac (e:SE):SS where
 t:=λK=>tRet (e.t K)
 ev:=λρ s=>(e.ev ρ s).bind λx=>some (.ret x.1 x.2)
 ok:=by
  intro K sk F0 H0 F H σ ρ aj s out D w h q
  obtain⟨⟨x,s1⟩,h1,h2⟩:=aI h
  cases h2
  exact e.ok K w.pre h1 λv F1 H1 as st k r f=>q v F1 H1 as (w.st.trans st) k r (w.ku f)
def SS.Xo:SS:=⟨λ_=>tRetN,λρ s=>some (.ret (.none,true) s),by
 intro K sk F0 H0 F H σ ρ aj s out D w h q
 cases h
 exact q _ F H [] w.st w.aW .non .nil⟩
def dW (c:ST)(a b:SS):SS where
 t:=λK=>tIfS (c.t K) (a.t K) (b.t K)
 ev:=λρ s=>(c.ev ρ s).bind λx=>if x.1=true then a.ev ρ x.2 else b.ev ρ x.2
 ok:=by
  intro K sk F0 H0 F H σ ρ aj s out D w h q
  obtain⟨⟨x,s1⟩,h1,h2⟩:=aI h
  dsimp only at h2
  refine c.ok K w.pre h1 λF1 H1 st k=>?_
  split at h2
  ·rename_i e
   rw [if_pos e]
   exact a.ok K (w.next st k) h2 (q.mono st.sub)
  ·rename_i e
   rw [if_neg e]
   exact b.ok K (w.next st k) h2 (q.mono st.sub)
def BC (z:Vl):Slot:=if z.2=true then .own z.1 else .dat z.1
theorem Wd.u5 {sk:Option Addr}{F0 H0 F H F1 H1:Hp}{σ:L2.St}{ρ:List Slot}{aj:List (List Addr)}{s s1:ae}(w:Wd sk F0 H0 F H σ ρ aj s)(st:Step sk F H F1 H1)(k:aZ sk F1 H1 s1){i:Nat}{v:V}{z:Vl}{as:List Addr}(r:Rp F1 v z.1 as)(f:bx z.2 H as):
  ∃aF,Wd sk F0 H0 F1 H1 (σ.set i (some v)) (ρ.set i (BC z)) aF s1:=by
 have w1:=w.next st k
 unfold BC
 split
 ·rename_i e
  obtain⟨f1,f2⟩:=f e
  exact w1.HS (Hb:=H) r f1 f2 w.st.dm λa m=>(w.bR a m).2.1
 ·exact w1.oQ r
def SS.set (i:Nat)(e:SE):SS where
 t:=λK=>tAsg (e.t K) (gName i)
 ev:=λρ s=>(e.ev ρ s).bind λx=>some (.nx (ρ.set i (BC x.1)) x.2)
 ok:=by
  intro K sk F0 H0 F H σ ρ aj s out D w h q
  obtain⟨⟨x,s1⟩,h1,h2⟩:=aI h
  cases h2
  refine e.ok K w.pre h1 λv F1 H1 as st k r f=>?_
  obtain⟨aF,w'⟩:=w.u5 (i:=i) st k r f
  exact q F1 H1 _ aF st.sub w'
def Jy (i:Nat)(e:SB):SS where
 t:=λK=>tAsg (e.t K) (gName i)
 ev:=λρ s=>(e.ev ρ s).bind λx=>some (.nx (ρ.set i (.aO x.1.1 x.1.2)) x.2)
 ok:=by
  intro K sk F0 H0 F H σ ρ aj s out D w h q
  obtain⟨⟨⟨ds,o⟩,s1⟩,h1,h2⟩:=aI h
  cases h2
  refine e.ok K w.pre h1 λa ws F1 H1 as st k ha zJ oZ hr Xd f=>?_
  have w1:=w.next st k
  have a0:H0 a=none:=by
   cases hq:H0 a with
   |none=>rfl
   |some u=>exact absurd ha (w.st.dm a (by rw [hq];exact nofun))
  have cU:sk≠some a:=gb w.aW ha
  have nd:((a::(if o=true then as else []))++aj.flatten).Nodup:=by
   refine Kaj.mpr ⟨?_,w.dj,λb mb c mc z=>?_⟩
   ·cases o with
    |true=>exact KaN.mpr ⟨Xd,(f rfl).1⟩
    |false=>simp
   ·subst z
    rcases Kal.mp mb with y|y
    ·subst y;exact (w.bR b mc).2.1 ha
    ·cases o with
     |true=>exact (w.bR b mc).2.1 ((f rfl).2 b y)
     |false=>cases y
  obtain⟨m1,m2⟩:=vD (i:=i) nd
  refine q F1 H1 _ (aj.set i (a::(if o=true then as else []))) st.sub ⟨w1.st,w1.aW,w1.slots.set ⟨a,ws,as,rfl,oZ,zJ,hr,rfl⟩,m1,λb m=>?_⟩
  rcases m2 b m with z|z
  ·rcases Kal.mp z with y|y
   ·subst y
    exact⟨a0,by rw [oZ];exact nofun,cU⟩
   ·cases o with
    |true=>
     obtain⟨xs,hx⟩:=hr.dom b y
     refine⟨?_,by rw [st.sub' _ _ hx];exact nofun,λe=>?_⟩
     ·cases hq:H0 b with
      |none=>rfl
      |some u=>exact absurd ((f rfl).2 b y) (w.st.dm b (by rw [hq];exact nofun))
     ·rw [(k b e).2] at hx;cases hx
    |false=>cases y
  ·exact w1.bR b z
/-- a,b=e -/
def sU (g:SG)(e:SE):SS where
 t:=λK=>tAsg (e.t K) (g.t K)
 ev:=λρ s=>(e.ev ρ s).bind λx=>(g.ev x.1.1 ρ).bind λaB=>some (.nx aB x.2)
 ok:=by
  intro K sk F0 H0 F H σ ρ aj s out D w h q
  obtain⟨⟨x,s1⟩,h1,h2⟩:=aI h
  obtain⟨aB,h3,h4⟩:=aI h2
  cases h4
  refine e.ok K w.pre h1 λv F1 H1 as st k r f=>?_
  have w1:=w.next st k
  refine g.ok K w1.st.sub' r w1.slots h3 λσ' aF sl m u _=>?_
  exact q F1 H1 σ' aF st.sub ⟨w1.st,w1.aW,sl,w1.dj.sublist u,λa ha=>w1.bR a (m a ha)⟩
def Fb:List Nat->List V->L2.St->L2.St
 |i::r,v::vs,σ=>Fb r vs (σ.set i (some v))
 |_,_,σ=>σ
def Za (t:Frag->TA)(ts:List Nat)(ev:List Slot->List Slot->ae->Option (List Slot×ae)):Prop:=∀(K:Frag) {sk:Option Addr} {F0 H0 F H:Hp} {σ nQ:L2.St} {ρ cf iw:List Slot} {aj cu:List (List Addr)} {s s':ae} {Q:List V->Hp->Prop},
 Pre sk F H σ ρ aj s->Wd sk F0 H0 F H nQ cf cu s->ev ρ cf s=some (iw,s')->(∀vs F' H' Lh,Same F F'->Wd sk F0 H0 F' H' (Fb ts vs nQ) iw Lh s'->vs.length=ts.length->Q vs H')->t K σ H Q
structure SP where
 t:Frag->TA
 ts:List Nat
 ev:List Slot->List Slot->ae->Option (List Slot×ae)
 ok:Za t ts ev
def SP.nil:SP:=⟨λ_=>tNil,[],λ_ cf s=>some (cf,s),by
 intro K sk F0 H0 F H σ nQ ρ cf iw aj cu s s' Q p w h q
 cases h
 exact q [] F H cu (Same.refl _) w rfl⟩
def SP.cons (i:Nat)(e:SE)(r:SP):SP where
 t:=λK=>tCons (e.t K) (r.t K)
 ts:=i::r.ts
 ev:=λρ cf s=>(e.ev ρ s).bind λx=>r.ev ρ (cf.set i (BC x.1)) x.2
 ok:=by
  intro K sk F0 H0 F H σ nQ ρ cf iw aj cu s s' Q p w h q
  obtain⟨⟨x,s1⟩,h1,h2⟩:=aI h
  refine e.ok K p h1 λv F1 H1 as st k rr f=>?_
  obtain⟨fa,wa⟩:=w.u5 (i:=i) st k rr f
  refine r.ok K (p.next st k) wa h2 λvs F2 H2 fv sF w2 hl=>?_
  exact q (v::vs) F2 H2 fv (st.sub.trans sF) w2 (by rw [Kad,Kad,hl])
theorem aY.raw {sk:Option Addr}{F H:Hp}{p:Addr}{o:HO}(h:Same F H)(np:H p=none):aY F H F (upd H p o):=by
 refine⟨Same.refl _,λa u e=>?_,λa u _ e=>?_,λa e=>?_,λa u e=>.inl e,λh=>h⟩
 ·have:=h a u e
  rw [upd_ne (ne_of_none this np)];exact this
 ·rw [upd_ne (ne_of_none e np)];exact e
 ·rw [upd_ne (λz=>e (by rw [z];exact np))];exact e
theorem Wd.Hs {sk:Option Addr}{F0 H0 F H:Hp}{σ:L2.St}{ρ:List Slot}{aj:List (List Addr)}{s:ae}(w:Wd sk F0 H0 F H σ ρ aj s){i:Nat}{p:Addr}(np:H p=none):
  ∃aF,Wd sk F0 H0 F (upd H p (.lst [])) (σ.set i (some (.ref p))) (ρ.set i (.aO [] true)) aF s:=by
 have sr:aY F H F (upd H p (.lst [])):=.raw (sk:=sk) w.st.sub' np
 have w1:=w.next (sr.any (sk:=sk)) (w.aW.keep sr)
 have Av:H0 p=none:=by
  cases q:H0 p with
  |none=>rfl
  |some u=>exact absurd np (w.st.dm p (by rw [q];exact nofun))
 have nd:([p]++aj.flatten).Nodup:=Kaj.mpr ⟨by simp,w.dj,λb mb c mc z=>by
  have:b=p:=by simpa using mb
  subst z
  exact (w.bR b mc).2.1 (by rw [this];exact np)⟩
 obtain⟨m1,m2⟩:=vD (i:=i) nd
 refine⟨aj.set i [p],w1.st,w1.aW,w1.slots.set ⟨p,[],[],rfl,upd_same,w.st.sub'.free np,.nil,rfl⟩,m1,λb m=>?_⟩
 rcases m2 b m with z|z
 ·have:b=p:=by simpa using z
  subst this
  exact⟨Av,by rw [upd_same];exact nofun,gb w.aW np⟩
 ·exact w1.bR b z
def Ju (i:Nat)(r:SP):SP where
 t:=λK=>tCons (tLst tNil) (r.t K)
 ts:=i::r.ts
 ev:=λρ cf s=>r.ev ρ (cf.set i (.aO [] true)) s
 ok:=by
  intro K sk F0 H0 F H σ nQ ρ cf iw aj cu s s' Q p w h q
  refine⟨Ka2 _,λa na=>?_⟩
  obtain⟨fa,wa⟩:=w.Hs (i:=i) na
  have sr:aY F H F (upd H a (.lst [])):=.raw (sk:=sk) w.st.sub' na
  refine r.ok K (p.next (sr.any (sk:=sk)) (p.aW.keep sr)) wa h λvs F2 H2 fv sF w2 hl=>?_
  exact q (.ref a::vs) F2 H2 fv sF w2 (by rw [Kad,Kad,hl])
def uz (i j:Nat)(p:SP)(hp:p.ts=[i,j]):SS where
 t:=λK=>tPar i j (p.t K)
 ev:=λρ s=>(p.ev ρ ρ s).bind λx=>some (.nx x.1 x.2)
 ok:=by
  intro K sk F0 H0 F H σ ρ aj s out D w h q
  obtain⟨⟨x,s1⟩,h1,h2⟩:=aI h
  cases h2
  refine p.ok K w.pre w h1 λvs F1 H1 fv sF w1 hl=>?_
  rw [hp] at hl w1
  match vs,hl with
  |[v1,v2],_=>exact⟨v1,v2,rfl,q F1 H1 _ fv sF w1⟩
def SS.Xk (i j l:Nat)(p:SP)(hp:p.ts=[i,j,l]):SS where
 t:=λK=>tPar3 i j l (p.t K)
 ev:=λρ s=>(p.ev ρ ρ s).bind λx=>some (.nx x.1 x.2)
 ok:=by
  intro K sk F0 H0 F H σ ρ aj s out D w h q
  obtain⟨⟨x,s1⟩,h1,h2⟩:=aI h
  cases h2
  refine p.ok K w.pre w h1 λvs F1 H1 fv sF w1 hl=>?_
  rw [hp] at hl w1
  match vs,hl with
  |[v1,v2,v3],_=>exact⟨v1,v2,v3,rfl,q F1 H1 _ fv sF w1⟩
/-- x += e,of ints -/
def SS.am (i:Nat)(e:SE)(f:Int->Int->Int):SS where
 t:=λK=>tAug i (e.t K) (ipI f)
 ev:=λρ s=>match ρ[i]? with
  |some (.dat (.int a))=>(e.ev ρ s).bind λx=>match x.1.1 with|.int b=>some (.nx (ρ.set i (.dat (.int (f a b)))) x.2)|_=>none
  |some (.own (.int a))=>(e.ev ρ s).bind λx=>match x.1.1 with|.int b=>some (.nx (ρ.set i (.dat (.int (f a b)))) x.2)|_=>none
  |_=>none
 ok:=by
  intro K sk F0 H0 F H σ ρ aj s out D w h q
  have key:∀(a:Int) (v:V),σ[i]? = some (some v)->v=.int a->((e.ev ρ s).bind λx=>match x.1.1 with|.int b=>some (.nx (ρ.set i (.dat (.int (f a b)))) x.2)|_=>none)=some out->tAug i (e.t K) (ipI f) D σ H:=by
   intro a v e1 e2 h
   obtain⟨⟨⟨x,fl⟩,s1⟩,h1,h2⟩:=aI h
   dsimp only at h2
   split at h2
   ·rename_i b
    cases h2
    refine⟨v,e1,e.ok K w.pre h1 λv2 F1 H1 as st k r ff=>⟨a,b,e2,r.int_inv,?_⟩⟩
    obtain⟨fa,wa⟩:=(w.next st k).oQ (i:=i) (Rp.int (F:=F1) (f a b))
    exact q F1 H1 _ fa st.sub wa
   ·cases h2
  dsimp only at h
  split at h
  ·rename_i a e
   obtain⟨x,fp,e1,e2,z,v,as,e3,r⟩:=w.slots.get e
   exact key a v (by rw [e1,e3]) r.int_inv h
  ·rename_i a e
   obtain⟨x,fp,e1,e2,v,e3,r⟩:=w.slots.get e
   exact key a v (by rw [e1,e3]) r.int_inv h
  ·cases h
end Pu
namespace Pu
variable [aR]
open PySem L2
section
variable {sk:Option Addr}{F0 H0 F H:Hp}{σ:L2.St}{ρ:List Slot}{aj:List (List Addr)}{s:ae}
/-- bJ yN list at slot i changes -/
theorem Wd.grow {i:Nat}{a:Addr}{vs ws:List V}{es:List PyData}{as bs:List Addr}{o o':Bool}(w:Wd sk F0 H0 F H σ ρ aj s)(e1:σ[i]? = some (some (.ref a)))(e2:aj[i]? = some (a::(if o=true then as else [])))(hH:H a=some (.lst vs))(hF:F a=none)
  (r:ao F ws es (as++bs)) (ho:o'=true->o=true/\bs.Nodup/\∀b∈bs,H0 b=none/\H b≠none/\sk≠some b/\b∉aj.flatten):∃aF,Wd sk F0 H0 F (L2.upd H a (.lst ws)) σ (ρ.set i (.aO es o')) aF s:=by
 have fa:a∈aj.flatten:=KaB.mpr ⟨_,Kat e2,Kaa⟩
 obtain⟨a0,a1,a2⟩:=w.bR a fa
 obtain⟨n1,n2⟩:=yP w.dj e2
 have n3:=Kaj.mp n1
 have na:a∉(aj.set i []).flatten:=λm=>n3.2.2 a Kaa a m rfl
 have st':Step sk F0 H0 F (L2.upd H a (.lst ws)):=by
  refine⟨w.st.sub,λb u e=>?_,λb u hb e hs=>?_,λb h=>?_,w.st.new⟩
  ·rw [upd_ne (λz=>by rw [z,hF] at e;cases e)];exact w.st.sub' b u e
  ·rw [upd_ne (λz=>by rw [z,a0] at e;cases e)];exact w.st.fr b u hb e
  ·by_cases z:b=a
   ·rw [z,upd_same];exact nofun
   ·rw [upd_ne z];exact w.st.dm b h
 have dD:aZ sk F (L2.upd H a (.lst ws)) s:=⟨λb e=>⟨by rw [upd_ne (λz=>a2 (by rw [<-z];exact e))];exact (w.aW b e).1,(w.aW b e).2⟩,Pq w.aW.tab hH⟩
 have sl:=(w.slots.drop (i:=i)).tK (a:=a) (o:=.lst ws) na
 have CO:∀b,H b≠none->L2.upd H a (.lst ws) b≠none:=λb h=>by
  by_cases z:b=a
  ·rw [z,upd_same];exact nofun
  ·rw [upd_ne z];exact h
 have fin:∀fp':List Addr,(fp'++(aj.set i []).flatten).Nodup->(∀b∈fp',H0 b=none/\H b≠none/\sk≠some b)->uq sk F (L2.upd H a (.lst ws)) (some (.ref a)) (.aO es o') fp'->∃aF,Wd sk F0 H0 F (L2.upd H a (.lst ws)) σ (ρ.set i (.aO es o')) aF s:=by
  intro fp' nd fr q
  obtain⟨m1,m2⟩:=vD (i:=i) nd
  have sl2:=sl.fill e1 q
  rw [KaK,KaK] at sl2
  rw [KaK] at m1 m2
  refine⟨aj.set i fp',st',dD,sl2,m1,λb m=>?_⟩
  rcases m2 b m with z|z
  ·exact⟨(fr b z).1,CO b (fr b z).2.1,(fr b z).2.2⟩
  ·have:=w.bR b (nU.mem z)
   exact⟨this.1,CO b this.2.1,this.2.2⟩
 cases o' with
 |true=>
  obtain⟨rfl,b1,b2⟩:=ho rfl
  rw [if_pos rfl] at e2 n1 n2 n3
  refine fin (a::(as++bs)) ?_ ?_ ⟨a,ws,as++bs,rfl,upd_same,hF,r,by rw [if_pos rfl]⟩
  ·have:((a::as)++bs++(aj.set i []).flatten).Nodup:=by
    refine Kaj.mpr ⟨Kaj.mpr ⟨n3.1,b1,λx hx y hy z=>?_⟩,n3.2.1,λx hx y hy z=>?_⟩
    ·subst z
     exact (b2 x hy).2.2.2 (n2 x (Kac _ hx))
    ·subst z
     rcases Kao.mp hx with q|q
     ·exact n3.2.2 x q x hy rfl
     ·exact (b2 x q).2.2.2 (n2 x (Kaq _ hy))
   exact this
  ·intro b hb
   rcases Kao.mp (show b∈(a::as)++bs from hb) with q|q
   ·exact w.bR b (n2 b (Kac _ q))
   ·exact⟨(b2 b q).1,(b2 b q).2.1,(b2 b q).2.2.1⟩
 |false=>
  refine fin [a] ?_ ?_ ⟨a,ws,as++bs,rfl,upd_same,hF,r,rfl⟩
  ·exact Kaj.mpr ⟨by simp,n3.2.1,λx hx y hy z=>by
    have:x=a:=by simpa using hx
    subst this;subst z
    exact na hy⟩
  ·intro b hb
   have:b=a:=by simpa using hb
   subst this
   exact⟨a0,a1,a2⟩
end
def EL (i:Nat)(e:SE):SS where
 t:=λK=>tDrop (tBM K "list" rAppend (tVar i) (tCons (e.t K) tNil))
 ev:=λρ s=>match ρ[i]? with
  |some (.aO ds o)=>(e.ev ρ s).bind λx=>if ds.length<100000 then some (.nx (ρ.set i (.aO (ds++[x.1.1]) (o && dX x.1))) x.2) else none
  |_=>none
 ok:=by
  intro K sk F0 H0 F H σ ρ aj s out D w h q
  dsimp only at h
  split at h
  ·rename_i ds o cF
   obtain⟨⟨x,s1⟩,h1,h2⟩:=aI h
   dsimp only at h2
   split at h2
   ·rename_i hl
    cases h2
    obtain⟨xv,fp,e1,e2,a,vs,as,rfl,hH,hF,r,rfl⟩:=w.slots.get cF
    refine⟨.ref a,e1,.inl ⟨rfl,vs,.inl (.inl hH)⟩,?_⟩
    refine e.ok K w.pre h1 λv F1 H1 bs st k rr f=>?_
    have fa:a∈aj.flatten:=KaB.mpr ⟨_,Kat e2,Kaa⟩
    have cU:=(w.bR a fa).2.2
    have oZ:H1 a=some (.lst vs):=st.fr a _ cU hH
    have zJ:F1 a=none:=by
     cases z:F1 a with
     |none=>rfl
     |some u=>
      rcases st.new a u z with y|y
      ·rw [hF] at y;cases y
      ·rw [hH] at y;cases y
    refine⟨a,vs,v,rfl,rfl,oZ,by rw [r.len];exact Ka7 hl (by decide),?_⟩
    have w1:=w.next st k
    have Mx:ao F1 (vs++[v]) (ds++[x.1]) (as++(bs++[])):=(r.mono st.sub).app (.cons rr .nil)
    rw [KaC] at Mx
    obtain⟨aF,w2⟩:=w1.grow (o':=o && dX x) e1 e2 oZ zJ Mx λeo=>by
     obtain⟨Td,OB⟩:=KaP.mp eo
     refine⟨Td,?_⟩
     unfold dX at OB
     rcases Kbb.mp OB with z|z
     ·obtain⟨f1,f2⟩:=f z
      refine⟨f1,λb hb=>?_⟩
      obtain⟨xs,hx⟩:=rr.dom b hb
      refine⟨(w.ku f z).2 b hb,by rw [st.sub' _ _ hx];exact nofun,λe'=>?_,λm=>(w.bR b m).2.1 (f2 b hb)⟩
      rw [(k b e').2] at hx;cases hx
     ·rw [rr.aH z]
      exact⟨KaI,λb hb=>by cases hb⟩
    exact q F1 _ σ aF st.sub w2
   ·cases h2
  ·cases h
/-- xs.extend(e),of data without lists within -/
def SS.extend (i:Nat)(e:SE):SS where
 t:=λK=>tDrop (tBM K "list" rExtend (tVar i) (tCons (e.t K) tNil))
 ev:=λρ s=>match ρ[i]? with
  |some (.aO ds o)=>(e.ev ρ s).bind λx=>match x.1.1 with
   |.list es=>if ds.length+es.length<=100000 then some (.nx (ρ.set i (.aO (ds++es) (o && eR es))) x.2) else none
   |_=>none
  |_=>none
 ok:=by
  intro K sk F0 H0 F H σ ρ aj s out D w h q
  dsimp only at h
  split at h
  ·rename_i ds o cF
   obtain⟨⟨⟨x,fl⟩,s1⟩,h1,h2⟩:=aI h
   dsimp only at h2
   split at h2
   ·rename_i es
    split at h2
    ·rename_i hl
     cases h2
     obtain⟨xv,fp,e1,e2,a,vs,as,rfl,hH,hF,r,rfl⟩:=w.slots.get cF
     refine⟨.ref a,e1,.inl ⟨rfl,vs,.inl (.inl hH)⟩,?_⟩
     refine e.ok K w.pre h1 λv F1 H1 bs st k rr f=>?_
     have fa:a∈aj.flatten:=KaB.mpr ⟨_,Kat e2,Kaa⟩
     have cU:=(w.bR a fa).2.2
     have oZ:H1 a=some (.lst vs):=st.fr a _ cU hH
     have zJ:F1 a=none:=by
      cases z:F1 a with
      |none=>rfl
      |some u=>
       rcases st.new a u z with y|y
       ·rw [hF] at y;cases y
       ·rw [hH] at y;cases y
     obtain⟨b,xs,cs,rfl,hb,hr,rfl⟩:=rr.aM
     refine⟨a,b,vs,xs,rfl,rfl,oZ,st.sub' _ _ hb,by rw [r.len,hr.len];exact Kaw hl (by decide),?_⟩
     have w1:=w.next st k
     obtain⟨aF,w2⟩:=w1.grow (o':=o && eR es) e1 e2 oZ zJ ((r.mono st.sub).app hr) λeo=>by
      obtain⟨Td,OB⟩:=KaP.mp eo
      rw [hr.aH OB]
      exact⟨Td,KaI,λb hb=>by cases hb⟩
     exact q F1 _ σ aF st.sub w2
    ·cases h2
   ·cases h2
  ·cases h
def SE.z_ (i:Nat):SE where
 t:=λK=>tCB (λxs H Q=>∃x n,xs=[x]/\LenV K x H n/\Q (.int (n:Nat)) H) (tCons (tVar i) tNil)
 ev:=λρ s=>match ρ[i]? with
  |some (.aO ds _)=>some ((.int ds.length,true),s)
  |_=>none
 ok:=by
  intro K sk F H σ ρ aj s vl s' Q p h q
  dsimp only at h
  split at h
  ·rename_i ds o e
   cases h
   obtain⟨x,fp,e1,e2,a,vs,as,rfl,hH,hF,r,rfl⟩:=p.slots.get e
   refine⟨.ref a,e1,.ref a,vs.length,rfl,.inl ⟨vs,.inl (.inl hH),rfl⟩,?_⟩
   rw [r.len]
   exact q _ F H [] (.refl p.sub) p.aW (.int _) .nil
  ·cases h
def SE.LY (i:Nat)(e:SE):SE where
 t:=λK=>tOp (rIx K) (tVar i) (e.t K)
 ev:=λρ s=>match ρ[i]? with
  |some (.aO ds _)=>(e.ev ρ s).bind λx=>match x.1.1 with
   |.int k=>(atI ds k).map λd=>((d,false),x.2)
   |_=>none
  |_=>none
 ok:=by
  intro K sk F H σ ρ aj s vl s' Q p h q
  dsimp only at h
  split at h
  ·rename_i ds o cF
   obtain⟨⟨⟨x,fl⟩,s1⟩,h1,h2⟩:=aI h
   dsimp only at h2
   split at h2
   ·rename_i kk
    obtain⟨d,h3,h4⟩:=Kam.mp h2
    cases h4
    obtain⟨x,fp,e1,e2,a,vs,as,rfl,hH,hF,r,rfl⟩:=p.slots.get cF
    refine⟨.ref a,e1,?_⟩
    refine e.ok K p h1 λv F1 H1 bs st k rr f=>?_
    have fa:a∈aj.flatten:=KaB.mpr ⟨_,Kat e2,Kaa⟩
    have oZ:H1 a=some (.lst vs):=st.fr a _ (λz=>p.jW a z fa) hH
    obtain⟨v2,es,z1,z2⟩:=(r.mono st.sub).atI h3
    exact .inl ⟨a,vs,kk,v2,rfl,rr.int_inv,.inl (.inl oZ),z1,q v2 F1 H1 es st k z2 .no⟩
   ·cases h2
  ·cases h
/-- xs != [] of a yN list -/
def WQ (i:Nat):SE where
 t:=λK=>tOp (rNeD K) (tVar i) (tLst tNil)
 ev:=λρ s=>match ρ[i]? with
  |some (.aO ds _)=>if SeqAt.shaped (.list ds)=true then some ((.bool (!ds.isEmpty),true),s) else none
  |_=>none
 ok:=by
  intro K sk F H σ ρ aj s vl s' Q p h q
  dsimp only at h
  split at h
  ·rename_i ds o cF
   split at h
   ·rename_i hs
    cases h
    obtain⟨x,fp,e1,e2,a,vs,as,rfl,hH,hF,r,rfl⟩:=p.slots.get cF
    refine⟨.ref a,e1,Ka2 _,λb nb=>?_⟩
    have sr:aY F H (L2.upd F b (.lst [])) (L2.upd H b (.lst [])):=.alloc p.sub nb
    have oZ:L2.upd H b (.lst []) a=some (.lst vs):=sr.fr a _ nofun hH
    have hnd:fV ds=true:=by have:=FT hs;unfold nd at this;exact this
    refine⟨.list ds,.list [],.lst (.inl (.inl oZ)) (((r.mono sr.sub).mono sr.sub').dp hnd),.lst (.inl (.inl upd_same)) .nil,hs,by rfl,?_⟩
    have e:PyData.eqv (.list ds) (.list [])=ds.isEmpty:=by
     cases ds with
     |nil=>simp [PyData.eqv,PyData.eqvAll]
     |cons d ds=>simp [PyData.eqv,PyData.eqvAll]
    rw [e]
    exact q _ _ _ [] sr.any (p.aW.keep sr) (.bl _) .nil
   ·cases h
  ·cases h
def SS.frz (i:Nat)(b:SS):SS where
 t:=b.t
 ev:=λρ s=>match ρ[i]? with
  |some (.aO ds o)=>b.ev (ρ.set i (if o=true then .own (.list ds) else .dat (.list ds))) s
  |_=>none
 ok:=by
  intro K sk F0 H0 F H σ ρ aj s out D w h q
  dsimp only at h
  split at h
  ·rename_i ds o cF
   obtain⟨x,fp,e1,e2,a,vs,as,rfl,hH,hF,r,rfl⟩:=w.slots.get cF
   have fa:a∈aj.flatten:=KaB.mpr ⟨_,Kat e2,Kaa⟩
   obtain⟨a0,a1,a2⟩:=w.bR a fa
   obtain⟨n1,n2⟩:=yP w.dj e2
   have n3:=Kaj.mp n1
   have na:a∉(aj.set i []).flatten:=λm=>n3.2.2 a Kaa a m rfl
   have sF:Same F (L2.upd F a (.lst vs)):=λb u e=>by rw [upd_ne (ne_of_none e hF)];exact e
   have st':Step sk F0 H0 (L2.upd F a (.lst vs)) H:=by
    refine⟨w.st.sub.trans sF,λb u e=>?_,λa o x y z=>w.st.fr a o x y z,w.st.dm,λb u e=>?_⟩
    ·by_cases z:b=a
     ·rw [z,upd_same] at e;rw [z,<-e];exact hH
     ·rw [upd_ne z] at e;exact w.st.sub' b u e
    ·by_cases z:b=a
     ·rw [z];exact .inr a0
     ·rw [upd_ne z] at e;exact w.st.new b u e
   have dD:aZ sk (L2.upd F a (.lst vs)) H s:=⟨λb e=>⟨(w.aW b e).1,by rw [upd_ne (λz=>a2 (by rw [<-z];exact e))];exact (w.aW b e).2⟩,w.aW.tab.xw⟩
   have sl:=(w.slots.drop (i:=i)).upd (a:=a) (o:=.lst vs) na hF
   have rp:Rp (L2.upd F a (.lst vs)) (.ref a) (.list ds) (a::as):=.lst upd_same (r.mono sF)
   cases o with
   |true=>
    rw [if_pos rfl] at h e2 n1 n3
    have sl2:=sl.fill (sl:=.own (.list ds)) e1 ⟨_,rfl,rp⟩
    rw [KaK,KaK] at sl2
    have es:aj.set i (a::as)=aj:=KZ e2
    rw [es] at sl2
    exact b.ok K ⟨st',dD,sl2,w.dj,w.bR⟩ h (q.mono sF)
   |false=>
    rw [if_neg Ka6] at h
    have sl2:=sl.fill (sl:=.dat (.list ds)) e1 ⟨rfl,_,_,rfl,rp⟩
    rw [KaK,KaK] at sl2
    exact b.ok K ⟨st',dD,sl2,w.dj.sublist nU,λb m=>w.bR b (nU.mem m)⟩ h (q.mono sF)
  ·cases h
def forL (g:PyData->List Slot->Option (List Slot))(b:x9):List PyData->List Slot->ae->Option Out
 |[],ρ,s=>some (.nx ρ s)
 |d::ds,ρ,s=>(g d ρ).bind λaB=>(b aB s).bind λo=>match o with
  |.nx cI s2=>forL g b ds cI s2
  |.cnt cI s2=>forL g b ds cI s2
  |.brk cI s2=>some (.nx cI s2)
  |.ret v s2=>some (.ret v s2)
def lH (it:SI)(g:SG)(b:SS):SS where
 t:=λK=>tFor (it.t K) (g.t K) (b.t K)
 ev:=λρ s=>(it.ev ρ s).bind λx=>forL g.ev b.ev x.1 ρ x.2
 ok:=by
  intro K sk F0 H0 F H σ ρ aj s out D w h q
  obtain⟨⟨ds,s1⟩,h1,h2⟩:=aI h
  dsimp only at h2
  refine it.ok K w.pre h1 λJ F1 H1 st k yl=>?_
  refine⟨λi m σ H=>∃F2 cI dB s2,m=(ds.drop i).length/\i<=ds.length/\Same F1 F2/\Wd sk F0 H0 F2 H σ cI dB s2/\forL g.ev b.ev (ds.drop i) cI s2=some out,
   ⟨ds.length,F1,ρ,aj,s1,by simp,Ka2 _,Same.refl _,w.next st k,by simpa using h2⟩,λi m σ2 H2 hW=>?_⟩
  obtain⟨F2,cI,dB,s2,em,hi,sF,w2,hf⟩:=hW
  by_cases hlt:i<ds.length
  ·have ed:ds.drop i=ds[i]::ds.drop (i+1):=Kbd hlt
   have eg:ds[i]? = some ds[i]:=Kax hlt
   rw [ed] at hf em
   obtain⟨go,yld⟩:=(yl F2 H2 i sF w2.st.sub').1 _ eg
   unfold forL at hf
   obtain⟨Yp,c1,hf⟩:=aI hf
   obtain⟨o,c2,hf⟩:=aI hf
   refine .inr ⟨go,λσ' H'=>∃F3 Qz GF s4,Same F1 F3/\Wd sk F0 H0 F3 H' σ' Qz GF s4/\forL g.ev b.ev (ds.drop (i+1)) Qz s4=some out,λσ' H' hN=>?_,λx H3 hy=>?_⟩
   ·obtain⟨F3,Qz,GF,s4,My,w4,ZJ⟩:=hN
    exact⟨(ds.drop (i+1)).length,by rw [em];exact Kbk _,F3,Qz,GF,s4,rfl,hlt,My,w4,ZJ⟩
   ·obtain⟨F3,xK,sa,r3⟩:=yld x H3 hy
    have w3:=w2.next sa.any (w2.aW.keep sa)
    refine g.ok K w3.st.sub' r3 w3.slots c1 λσ' aF sl' m' u' _=>?_
    have w4:Wd sk F0 H0 F3 H3 σ' Yp aF s2:=⟨w3.st,w3.aW,sl',w3.dj.sublist u',λa ha=>w3.bR a (m' a ha)⟩
    refine b.ok K w4 c2 ?_
    have HQ:Same F1 F3:=sF.trans sa.sub
    cases o with
    |nx x7 s5=>exactλF5 H5 Fd gF e5 w5=>⟨F5,x7,gF,s5,HQ.trans e5,w5,hf⟩
    |cnt x7 s5=>exactλF5 H5 Fd gF e5 w5=>⟨F5,x7,gF,s5,HQ.trans e5,w5,hf⟩
    |brk x7 s5=>
     cases hf
     exactλF5 H5 Fd gF e5 w5=>q F5 H5 Fd gF ((st.sub.trans HQ).trans e5) w5
    |ret vl s5=>
     cases hf
     exact q
  ·have e1:i=ds.length:=by omega
   subst e1
   rw [Kbl] at hf
   unfold forL at hf
   cases hf
   exact .inl ⟨(yl F2 H2 _ sF w2.st.sub').2 (Kap _),q F2 H2 σ2 dB (st.sub.trans sF) w2⟩
def BD (c:List Slot->ae->Option (Bool×ae))(b:x9):Nat->List Slot->ae->Option Out
 |0,_,_=>none
 |n+1,ρ,s=>(c ρ s).bind λx=>if x.1=true then (b ρ x.2).bind λo=>match o with
  |.nx cI s2=>BD c b n cI s2
  |.cnt cI s2=>BD c b n cI s2
  |.brk cI s2=>some (.nx cI s2)
  |.ret v s2=>some (.ret v s2)
  else some (.nx ρ x.2)
/-- a while of at most n turns -/
def CH (n:Nat)(c:ST)(b:SS):SS where
 t:=λK=>tWhile (c.t K) (b.t K)
 ev:=λρ s=>BD c.ev b.ev n ρ s
 ok:=by
  intro K sk F0 H0 F H σ ρ aj s out D w h q
  refine⟨λm σ H=>∃F2 cI dB s2,Same F F2/\Wd sk F0 H0 F2 H σ cI dB s2/\BD c.ev b.ev m cI s2=some out,⟨n,F,ρ,aj,s,Same.refl _,w,h⟩,λm σ2 H2 hW=>?_⟩
  obtain⟨F2,cI,dB,s2,sF,w2,hf⟩:=hW
  cases m with
  |zero=>unfold BD at hf;cases hf
  |succ m=>
   unfold BD at hf
   obtain⟨x,c1,hf⟩:=aI hf
   refine c.ok K w2.pre c1 λF3 H3 st3 k3=>?_
   have w3:=w2.next st3 k3
   split at hf
   ·rename_i e
    rw [if_pos e]
    obtain⟨o,c2,hf⟩:=aI hf
    refine⟨λσ' H'=>∃F5 x7 gF s5,Same F F5/\Wd sk F0 H0 F5 H' σ' x7 gF s5/\BD c.ev b.ev m x7 s5=some out,λσ' H' hN=>⟨m,Kbk m,hN⟩,?_⟩
    refine b.ok K w3 c2 ?_
    have My:Same F F3:=sF.trans st3.sub
    cases o with
    |nx x7 s5=>exactλF5 H5 Fd gF e5 w5=>⟨F5,x7,gF,s5,My.trans e5,w5,hf⟩
    |cnt x7 s5=>exactλF5 H5 Fd gF e5 w5=>⟨F5,x7,gF,s5,My.trans e5,w5,hf⟩
    |brk x7 s5=>
     cases hf
     exactλF5 H5 Fd gF e5 w5=>q F5 H5 Fd gF (My.trans e5) w5
    |ret vl s5=>
     cases hf
     exact q
   ·rename_i e
    rw [if_neg e]
    cases hf
    exact q F3 H3 σ2 dB (sF.trans st3.sub) w3
end Pu
namespace Pu
variable [aR]
open PySem PySem.Spec PyProof.Rows L2
def QI (t:Frag->TE)(ev:List Slot->ae->Option (Vl×List Slot×ae)):Prop:=∀(K:Frag) {sk:Option Addr} {F0 H0 F H:Hp} {σ:L2.St} {ρ ρ':List Slot} {aj:List (List Addr)} {s s':ae} {vl:Vl} {Q:VK},Wd sk F0 H0 F H σ ρ aj s->ev ρ s=some (vl,ρ',s') ->
 (∀v F' H' as aF,Same F F'->(∀a,H a≠none->H' a≠none)->Wd sk F0 H0 F' H' σ ρ' aF s'->(∀a∈aF.flatten,a∈aj.flatten)->Rp F' v vl.1 as->(vl.2=true->as.Nodup/\∀a∈as,H0 a=none/\a∉aF.flatten/\(a∈aj.flatten∨H a=none))->Q v H')->t K σ H Q
structure RE where
 t:Frag->TE
 ev:List Slot->ae->Option (Vl×List Slot×ae)
 ok:QI t ev
def QH (t:Frag->TA)(ev:List Slot->ae->Option (List Vl×List Slot×ae)):Prop:=∀(K:Frag) {sk:Option Addr} {F0 H0 F H:Hp} {σ:L2.St} {ρ ρ':List Slot} {aj:List (List Addr)} {s s':ae} {eX:List Vl} {Q:List V->Hp->Prop},Wd sk F0 H0 F H σ ρ aj s->ev ρ s=some (eX,ρ',s') ->
 (∀vs F' H' as aF,Same F F'->(∀a,H a≠none->H' a≠none)->Wd sk F0 H0 F' H' σ ρ' aF s'->(∀a∈aF.flatten,a∈aj.flatten)->ao F' vs (eX.map (·.1)) as->(eX.all dX=true->as.Nodup/\∀a∈as,H0 a=none/\a∉aF.flatten/\(a∈aj.flatten∨H a=none))->Q vs H')->t K σ H Q
structure RA where
 t:Frag->TA
 ev:List Slot->ae->Option (List Vl×List Slot×ae)
 ok:QH t ev
def RE.e (e:SE):RE where
 t:=e.t
 ev:=λρ s=>(e.ev ρ s).bind λx=>some (x.1,ρ,x.2)
 ok:=by
  intro K sk F0 H0 F H σ ρ ρ' aj s s' vl Q w h q
  obtain⟨⟨x,s1⟩,h1,h2⟩:=aI h
  cases h2
  refine e.ok K w.pre h1 λv F1 H1 as st k r f=>?_
  refine q v F1 H1 as aj st.sub st.dm (w.next st k) (λa m=>m) r λe=>?_
  obtain⟨f1,f2⟩:=f e
  exact⟨f1,λa m=>⟨(w.ku f e).2 a m,λz=>(w.bR a z).2.1 (f2 a m),.inr (f2 a m)⟩⟩
def RE.mv (i:Nat):RE where
 t:=λ_=>tVar i
 ev:=λρ s=>match ρ[i]? with
  |some (.dat d)=>some ((d,false),ρ,s)
  |some (.own d)=>some ((d,true),ρ.set i (.dat d),s)
  |some (.aO ds o)=>some ((.list ds,o),ρ.set i (.dat (.list ds)),s)
  |_=>none
 ok:=by
  intro K sk F0 H0 F H σ ρ ρ' aj s s' vl Q w h q
  dsimp only at h
  split at h
  ·rename_i d e
   cases h
   obtain⟨x,fp,e1,e2,z,v,as,e3,r⟩:=w.slots.get e
   exact⟨v,by rw [e1,e3],q v F H as aj (Same.refl _) (λa h=>h) w (λa m=>m) r nofun⟩
  ·rename_i d e
   cases h
   obtain⟨x,fp,e1,e2,v,e3,r⟩:=w.slots.get e
   subst e3
   refine⟨v,e1,?_⟩
   obtain⟨n1,n2⟩:=yP w.dj e2
   have n3:=Kaj.mp n1
   have sl:=w.slots.fill (i:=i) (sl:=.dat d) (fp:=[]) e1 ⟨rfl,v,fp,rfl,r⟩
   refine q v F H fp (aj.set i []) (Same.refl _) (λa h=>h) ⟨w.st,w.aW,sl,n3.2.1,λa m=>w.bR a (nU.mem m)⟩ (λa m=>nU.mem m) r λ_=>⟨n3.1,λa m=>?_⟩
   have:=w.bR a (n2 a (Kac _ m))
   exact⟨this.1,λz=>n3.2.2 a m a z rfl,.inl (n2 a (Kac _ m))⟩
  ·rename_i ds o cF
   cases h
   obtain⟨x,fp,e1,e2,a,vs,as,rfl,hH,hF,r,rfl⟩:=w.slots.get cF
   have fa:a∈aj.flatten:=KaB.mpr ⟨_,Kat e2,Kaa⟩
   obtain⟨a0,a1,a2⟩:=w.bR a fa
   obtain⟨n1,n2⟩:=yP w.dj e2
   have n3:=Kaj.mp n1
   have na:a∉(aj.set i []).flatten:=λm=>n3.2.2 a Kaa a m rfl
   have sF:Same F (L2.upd F a (.lst vs)):=λb u e=>by rw [upd_ne (ne_of_none e hF)];exact e
   have st':Step sk F0 H0 (L2.upd F a (.lst vs)) H:=by
    refine⟨w.st.sub.trans sF,λb u e=>?_,λa o x y z=>w.st.fr a o x y z,w.st.dm,λb u e=>?_⟩
    ·by_cases z:b=a
     ·rw [z,upd_same] at e;rw [z,<-e];exact hH
     ·rw [upd_ne z] at e;exact w.st.sub' b u e
    ·by_cases z:b=a
     ·rw [z];exact .inr a0
     ·rw [upd_ne z] at e;exact w.st.new b u e
   have dD:aZ sk (L2.upd F a (.lst vs)) H s:=⟨λb e=>⟨(w.aW b e).1,by rw [upd_ne (λz=>a2 (by rw [<-z];exact e))];exact (w.aW b e).2⟩,w.aW.tab.xw⟩
   have sl:=(w.slots.drop (i:=i)).upd (a:=a) (o:=.lst vs) na hF
   have rp:Rp (L2.upd F a (.lst vs)) (.ref a) (.list ds) (a::as):=.lst upd_same (r.mono sF)
   have sl2:=sl.fill (sl:=.dat (.list ds)) e1 ⟨rfl,_,_,rfl,rp⟩
   rw [KaK,KaK] at sl2
   refine⟨.ref a,e1,?_⟩
   refine q (.ref a) _ H (a::as) (aj.set i []) sF (λa h=>h) ⟨st',dD,sl2,n3.2.1,λb m=>w.bR b (nU.mem m)⟩ (λb m=>nU.mem m) rp λho=>?_
   have ho:o=true:=ho
   subst ho
   rw [if_pos rfl] at n3 n2
   refine⟨n3.1,λb m=>?_⟩
   have:=w.bR b (n2 b (Kac _ m))
   exact⟨this.1,λz=>n3.2.2 b m b z rfl,.inl (n2 b (Kac _ m))⟩
  ·cases h
def RA.nil:RA:=⟨λ_=>tNil,λρ s=>some ([],ρ,s),by
 intro K sk F0 H0 F H σ ρ ρ' aj s s' vl Q w h q
 cases h
 exact q [] F H [] aj (Same.refl _) (λa h=>h) w (λa m=>m) .nil λ_=>⟨KaI,λa m=>by cases m⟩⟩
def RA.cons (e:RE)(r:RA):RA where
 t:=λK=>tCons (e.t K) (r.t K)
 ev:=λρ s=>(e.ev ρ s).bind λx=>(r.ev x.2.1 x.2.2).bind λy=>some (x.1::y.1,y.2.1,y.2.2)
 ok:=by
  intro K sk F0 H0 F H σ ρ ρ' aj s s' vl Q w h q
  obtain⟨⟨x,aB,s1⟩,h1,h2⟩:=aI h
  obtain⟨⟨y,cI,s2⟩,h3,h4⟩:=aI h2
  cases h4
  refine e.ok K w h1 λv F1 H1 as lW Qu d1 w1 m1 r1 o1=>?_
  refine r.ok K w1 h3 λvs F2 H2 bs dB Qv d2 w2 m2 r2 o2=>?_
  refine q (v::vs) F2 H2 (as++bs) dB (Qu.trans Qv) (λa h=>d2 a (d1 a h)) w2 (λa m=>m1 a (m2 a m)) (.cons (r1.mono Qv) r2) λeo=>?_
  rw [Ka1,Ka8] at eo
  obtain⟨b1,b2⟩:=o2 eo.2
  have a12:as.Nodup/\∀a∈as,H0 a=none/\a∉lW.flatten/\(a∈aj.flatten∨H a=none):=by
   have e1:=eo.1
   unfold dX at e1
   rcases Kbb.mp e1 with z|z
   ·exact o1 z
   ·rw [r1.aH z];exact⟨KaI,λa m=>by cases m⟩
  obtain⟨a1,a2⟩:=a12
  refine⟨Kaj.mpr ⟨a1,b1,λa ma b mb z=>?_⟩,λa m=>?_⟩
  ·subst z
   rcases (b2 a mb).2.2 with z|z
   ·exact (a2 a ma).2.1 z
   ·obtain⟨xs,hx⟩:=r1.dom a ma
    rw [w1.st.sub' _ _ hx] at z;cases z
  ·rcases Kao.mp m with z|z
   ·exact⟨(a2 a z).1,λq=>(a2 a z).2.1 (m2 a q),(a2 a z).2.2⟩
   ·refine⟨(b2 a z).1,(b2 a z).2.1,?_⟩
    rcases (b2 a z).2.2 with y|y
    ·exact .inl (m1 a y)
    ·refine .inr ?_
     cases hq:H a with
     |none=>rfl
     |some u=>exact absurd y (d1 a (by rw [hq];exact nofun))
def RE.tup (a:RA):RE where
 t:=λK=>tTup (a.t K)
 ev:=λρ s=>(a.ev ρ s).bind λx=>if x.1.length<=100000 then some ((.tuple (x.1.map (·.1)),x.1.all dX),x.2.1,x.2.2) else none
 ok:=by
  intro K sk F0 H0 F H σ ρ ρ' aj s s' vl Q w h q
  obtain⟨⟨x,aB,s1⟩,h1,h2⟩:=aI h
  dsimp only at h2
  split at h2
  ·rename_i hl
   cases h2
   refine a.ok K w h1 λvs F1 H1 as lW Qu d1 w1 m1 r1 o1=>⟨?_,λpp np=>?_⟩
   ·have:=r1.len
    rw [Kaf] at this
    rw [this]
    exact Kaw hl (by decide)
   ·have sa:aY F1 H1 (L2.upd F1 pp (.tup vs)) (L2.upd H1 pp (.tup vs)):=.alloc w1.st.sub' np
    exact q _ _ _ as lW (Qu.trans sa.sub) (λa h=>sa.dm a (d1 a h)) (w1.next sa.any (w1.aW.keep sa)) m1 (.tup upd_same (r1.mono sa.sub)) o1
  ·cases h2
def BH (e:RE):SS where
 t:=λK=>tRet (e.t K)
 ev:=λρ s=>(e.ev ρ s).bind λx=>some (.ret x.1 x.2.2)
 ok:=by
  intro K sk F0 H0 F H σ ρ aj s out D w h q
  obtain⟨⟨x,aB,s1⟩,h1,h2⟩:=aI h
  cases h2
  refine e.ok K w h1 λv F1 H1 as lW Qu d1 w1 m1 r1 o1=>q v F1 H1 as w1.st w1.aW r1 λeo=>?_
  obtain⟨a1,a2⟩:=o1 eo
  exact⟨a1,λa m=>(a2 a m).1⟩
def fnOf (np nl:Nat)(b:SS):Fn:=λargs s=>if args.length=np then match b.ev (args++Kah nl .emp) s with
  |some (.ret vl s')=>some (vl,s')
  |some (.nx _ s')=>some ((.none,true),s')
  |_=>none
 else none
theorem Slots.more {sk:Option Addr}{F H:Hp}{σ:L2.St}{ρ:List Slot}{aj:List (List Addr)}(h:Slots sk F H σ ρ aj):∀n:Nat,Slots sk F H (σ++Kah n none) (ρ++Kah n .emp) (aj++Kah n [])
 |n=>by
  induction h with
  |nil=>
   show Slots sk F H (Kah n none) (Kah n .emp) (Kah n [])
   induction n with
   |zero=>exact .nil
   |succ n ih=>
    rw [KaT,KaT,KaT]
    exact .cons (show uq sk F H none .emp [] from rfl) ih
  |cons h r ih=>exact .cons h ih
theorem wg (l:List (List Addr))(n:Nat)(h:l.flatten=[]):(l++Kah n []).flatten=[]:=by
 rw [KcE,h,Ka5]
 induction n with
 |zero=>rfl
 |succ n ih=>rw [KaT,Kar,ih];rfl
abbrev cM (K:PySem.W.Frag)(x:Str)(st:Stmt)(f:Addr)(fd:FuncData):Prop:=FunD K x x (defArgs st) (defBody st) (defScope st) [] [] f fd
theorem AO {K:Frag}{np nl:Nat}{b:SS}{N:List Str}{vs:List V}{H:Hp}{Q:VK}{E:XK}(hN:N.length=np+nl)(h:bq (fnOf np nl b) vs H Q E):b.t K { nx:=λ_ H'=>Q .non H',rt:=Q } (L2.start N vs) H:=by
 obtain⟨sk,F,args,s,vl,s',sub,aW,sl,hm,q⟩:=h
 unfold fnOf at hm
 split at hm
 ·rename_i hl
  have WU:vs.length=np:=by
   have:=sl.length
   rw [Kaf] at this
   rw [this,hl]
  have hst:L2.start N vs=vs.map some++Kah nl none:=by
   unfold L2.start
   rw [hN,WU]
   congr 2
   omega
  rw [hst]
  have sl2:=sl.more nl
  have fl:=wg (jH args) nl (nu args)
  have w:Wd sk F H F H (vs.map some++Kah nl none) (args++Kah nl .emp) (jH args++Kah nl []) s:=
   ⟨.refl sub,aW,sl2,by rw [fl];exact KaI,λa m=>by rw [fl] at m;cases m⟩
  split at hm
  ·rename_i vl2 s2 he
   cases hm
   exact b.ok K w he λv F' H' as st k r f=>q v F' H' as st k r f
  ·rename_i cI s2 he
   cases hm
   exact b.ok K w he λF' H' σ' aF sF w'=>q .non F' H' [] w'.st w'.aW .non .nil
  ·cases hm
 ·cases hm
theorem Hh {np nl:Nat}{b:SS}{ps:List Str}(hp:ps.length=np)(vs:List V)(H:Hp)(Q:VK)(E:XK)(h:bq (fnOf np nl b) vs H Q E):vs.length=ps.length:=by
 obtain⟨sk,F,args,s,vl,s',sub,aW,sl,hm,q⟩:=h
 unfold fnOf at hm
 split at hm
 ·rename_i hl
  have:=sl.length
  rw [Kaf] at this
  rw [this,hl,hp]
 ·cases hm
/-- a def keeps bJ promise of its QO FO -/
theorem bA {P:Program}{w:World}{K:PySem.W.Frag}{mg:Str->Option Value}{base:Heap}{x:Str}{st:Stmt}{f:Addr}{fd:FuncData}{N ps:List Str}{k np nl:Nat}{b:SS}(F:cM K x st f fd)(S:FnScope N ps (defScope st))(hp:ps.length=np)(hN:N.length=np+nl)
  (Gj:∀(cdv:Value) (A:Around) (outer:List Env) (s:Shared) (H:Hp) (E:XK),Room k (A.deeper (envOfC x (defScope st) s.heap.objs.size f cdv))->∃t,PSs (cxOf CX0 P w K mg base N x (defScope st) f cdv A outer s H E).nox (defBody st) t/\t=b.t K):
  FnOk P w K mg base CX0 (k+1) f fd ps (bq (fnOf np nl b)):=
 F.ok S (Hh hp) λcdv A outer s H vs Q E hr h=>by
  obtain⟨t,ht,rfl⟩:=Gj cdv A outer s H E hr
  exact⟨b.t K,PSs.nox ht,AO hN h⟩
end Pu
namespace Pu
variable [aR]
open PySem PySem.Spec PyProof.Rows L2
section
variable {X:Cx}{elt tg iter:Expr}{ifs:List Expr}{scope:Scope}{own:List (Str×Nat)}{pos:Pos}{wi:TI}
theorem lG (gS:SG)(tS:ST)(eS:SE)(own:List (Str×Nat))(hc:X.calm=true)(hN:X.N.Nodup)(hi:PI X tg iter wi)(ok:BlkOk X.N X.env.scope scope own)
  (hg:∀(s:Shared) (H:Hp) (C:Addr) (cl:List (Str×Addr)) (fp:List Addr),∃g,PG (X.blk s H scope (compEnvC scope cl C X.env) fp) tg g/\g=gS.t X.K)
  (ht:∀(s:Shared) (H:Hp) (C:Addr) (cl:List (Str×Addr)) (fp:List Addr),∃tt,PTs (X.blk s H scope (compEnvC scope cl C X.env) fp) ifs tt/\tt=tS.t X.K)
  (he:∀(s:Shared) (H:Hp) (C:Addr) (cl:List (Str×Addr)) (fp:List Addr),∃te,PE (X.blk s H scope (compEnvC scope cl C X.env) fp) elt te/\te=eS.t X.K) (hs:∀x,foldedSetIterable iter X.env x=pure x:=by intro _;rfl):
  PE X (.ListComp elt [⟨tg,iter,ifs,0⟩] scope pos) (tLc wi (gS.t X.K) (tS.t X.K) (eS.t X.K) (own.map (·.2))):=
 pe_lc hc hN hi ok (λa b c d e=>by obtain⟨_,h,rfl⟩:=hg a b c d e;exact h) (λa b c d e=>by obtain⟨_,h,rfl⟩:=ht a b c d e;exact h) (λa b c d e=>by obtain⟨_,h,rfl⟩:=he a b c d e;exact h) hs
theorem OG {i:Nat}{y:Str}{py spos:Pos}(gS:SG)(tS:ST)(eS:SE)(own:List (Str×Nat))(hc:X.calm=true)(hN:X.N.Nodup)(hy:X.N[i]? = some y)(hyl:X.env.scope.names.lookup y=some .local)
  (hsw:swapsWith (.ListComp elt [⟨tg,iter,ifs,0⟩] scope pos) (some (.Name y py)) spos.line X.env=pure true) (hi:PI X tg iter wi) (ok:BlkOk X.N X.env.scope scope own)
  (hg:∀(s:Shared) (H:Hp) (C:Addr) (cl:List (Str×Addr)) (fp:List Addr),∃g,PG (X.blk s H scope (compEnvC scope cl C X.env) fp) tg g/\g=gS.t X.K)
  (ht:∀(s:Shared) (H:Hp) (C:Addr) (cl:List (Str×Addr)) (fp:List Addr),∃tt,PTs (X.blk s H scope (compEnvC scope cl C X.env) fp) ifs tt/\tt=tS.t X.K)
  (he:∀(s:Shared) (H:Hp) (C:Addr) (cl:List (Str×Addr)) (fp:List Addr),∃te,PE (X.blk s H scope (compEnvC scope cl C X.env) fp) elt te/\te=eS.t X.K) (hs:∀x,foldedSetIterable iter X.env x=pure x:=by intro _;rfl):
  PS X (.Assign [.Name y py] (.ListComp elt [⟨tg,iter,ifs,0⟩] scope pos) spos) (tAsg (tLc wi (gS.t X.K) (tS.t X.K) (eS.t X.K) (own.map (·.2))) (gName i)):=
 ps_setLc hc hN hy hyl hsw hi ok (λa b c d e=>by obtain⟨_,h,rfl⟩:=hg a b c d e;exact h) (λa b c d e=>by obtain⟨_,h,rfl⟩:=ht a b c d e;exact h) (λa b c d e=>by obtain⟨_,h,rfl⟩:=he a b c d e;exact h) hs
end
end Pu
namespace Pu
variable [aR]
open PySem PySem.Spec PyProof.Rows L2
theorem qW (ws:List (Key×V))(k:Key)(v:V):(putK ws k v).length<=ws.length+1:=by
 unfold putK
 split
 ·rw [Kaf];omega
 ·rw [Kan];exact Kap _
/-- bJ key dF a value is -/
def keyOf:PyData->Option Key
 |.int j=>some (.inl j)
 |.str x=>some (.inr x)
 |_=>none
theorem Rp.key {F:Hp}{v:V}{d:PyData}{as:List Addr}{k:Key}(r:Rp F v d as)(h:keyOf d=some k):v=kV k:=by
 unfold keyOf at h
 split at h
 ·cases h;exact r.int_inv
 ·cases h;exact r.str_inv
 ·cases h
theorem cS.put {F:Hp}{ws:List (Key×V)}{f:List (Key×PyData)}{k:Key}{v:V}{d:PyData}{as:List Addr}(h:∀j:Key,cS F (valV ws j) (b8 f j))(r:Rp F v d as)(j:Key):cS F (valV (putK ws k v) j) (b8 ((k,d)::f) j):=by
 rw [valV_put]
 show cS F _ (if k=j then some d else b8 f j)
 by_cases e:k=j
 ·rw [if_pos e,if_pos (by rw [e])]
  exact⟨as,r⟩
 ·rw [if_neg e,if_neg (λz=>e z.symm)]
  exact h j
/-- x={} among bJ targets -/
def SP.Mm (i:Nat)(r:SP):SP where
 t:=λK=>tCons tDNewK (r.t K)
 ts:=i::r.ts
 ev:=λρ cf s=>r.ev ρ (cf.set i (.cT [])) s
 ok:=by
  intro K sk F0 H0 F H σ nQ ρ cf iw aj cu s s' Q p w h q a na
  have sr:aY F H F (L2.upd H a (.dK [])):=.raw (sk:=sk) w.st.sub' na
  have w1:=w.next (sr.any (sk:=sk)) (w.aW.keep sr)
  have Av:H0 a=none:=by
   cases q:H0 a with
   |none=>rfl
   |some u=>exact absurd na (w.st.dm a (by rw [q];exact nofun))
  have nd:([a]++cu.flatten).Nodup:=Kaj.mpr ⟨by simp,w.dj,λb mb c mc z=>by
   have:b=a:=by simpa using mb
   subst z
   exact (w.bR b mc).2.1 (by rw [this];exact na)⟩
  obtain⟨m1,m2⟩:=vD (i:=i) nd
  have wa:Wd sk F0 H0 F (L2.upd H a (.dK [])) (nQ.set i (some (.ref a))) (cf.set i (.cT [])) (cu.set i [a]) s:=by
   refine⟨w1.st,w1.aW,w1.slots.set ⟨a,[],rfl,upd_same,w.st.sub'.free na,Kap _,λk=>True.intro,rfl⟩,m1,λb m=>?_⟩
   rcases m2 b m with z|z
   ·have:b=a:=by simpa using z
    subst this
    exact⟨Av,by rw [upd_same];exact nofun,gb w.aW na⟩
   ·exact w1.bR b z
  refine r.ok K (p.next (sr.any (sk:=sk)) (p.aW.keep sr)) wa h λvs F2 H2 fv sF w2 hl=>?_
  exact q (.ref a::vs) F2 H2 fv sF w2 (by rw [Kad,Kad,hl])
/-- x={} -/
def SS.al (i:Nat):SS where
 t:=λ_=>tAsg tDNewK (gName i)
 ev:=λρ s=>some (.nx (ρ.set i (.cT [])) s)
 ok:=by
  intro K sk F0 H0 F H σ ρ aj s out D w h q a na
  cases h
  have:=(SP.Mm i SP.nil).ok K (Q:=λvs H'=>∃v,vs=[v]/\D.nx (σ.set i (some v)) H') w.pre w rfl λvs F1 H1 fv sF w1 hl=>by
   match vs,hl with
   |[v],_=>exact⟨v,rfl,q F1 H1 _ fv sF w1⟩
  obtain⟨v,e,z⟩:=this a na
  cases e
  exact z
theorem Wd.dput {sk:Option Addr}{F0 H0 F H:Hp}{σ:L2.St}{ρ:List Slot}{aj:List (List Addr)}{s:ae}{i:Nat}{a:Addr}{ws gu:List (Key×V)}{f:List (Key×PyData)}(w:Wd sk F0 H0 F H σ ρ aj s)(e1:σ[i]? = some (some (.ref a)))(e2:aj[i]? = some [a])(hF:F a=none)
  (hl:gu.length<=f.length) (r:∀k:Key,cS F (valV gu k) (b8 f k)) {MU:List (Key×V)} (hP:H a=some (.dK MU)):Wd sk F0 H0 F (L2.upd H a (.dK gu)) σ (ρ.set i (.cT f)) aj s:=by
 have fa:a∈aj.flatten:=KaB.mpr ⟨_,Kat e2,Kaa⟩
 obtain⟨a0,a1,a2⟩:=w.bR a fa
 obtain⟨n1,n2⟩:=yP w.dj e2
 have n3:=Kaj.mp n1
 have na:a∉(aj.set i []).flatten:=λm=>n3.2.2 a Kaa a m rfl
 have st':Step sk F0 H0 F (L2.upd H a (.dK gu)):=by
  refine⟨w.st.sub,λb u e=>?_,λb u hb e hs=>?_,λb h=>?_,w.st.new⟩
  ·rw [upd_ne (λz=>by rw [z,hF] at e;cases e)];exact w.st.sub' b u e
  ·rw [upd_ne (λz=>by rw [z,a0] at e;cases e)];exact w.st.fr b u hb e
  ·by_cases z:b=a
   ·rw [z,upd_same];exact nofun
   ·rw [upd_ne z];exact w.st.dm b h
 have dD:aZ sk F (L2.upd H a (.dK gu)) s:=⟨λb e=>⟨by rw [upd_ne (λz=>a2 (by rw [<-z];exact e))];exact (w.aW b e).1,(w.aW b e).2⟩,Gq w.aW.tab hP (Vh trivial)⟩
 have sl:=(w.slots.drop (i:=i)).tK (a:=a) (o:=.dK gu) na
 have sl2:=sl.fill (sl:=.cT f) (fp:=[a]) e1 ⟨a,gu,rfl,upd_same,hF,hl,r,rfl⟩
 rw [KaK,KaK,KZ e2] at sl2
 refine⟨st',dD,sl2,w.dj,λb m=>?_⟩
 have:=w.bR b m
 refine⟨this.1,?_,this.2.2⟩
 by_cases z:b=a
 ·rw [z,upd_same];exact nofun
 ·rw [upd_ne z];exact this.2.1
/-- d[k]=v -/
def SS.dput (i:Nat)(k v:SE):SS where
 t:=λK=>sDPut (tVar i) (k.t K) (v.t K)
 ev:=λρ s=>(v.ev ρ s).bind λx=>match ρ[i]? with
  |some (.cT f)=>(k.ev ρ x.2).bind λy=>match keyOf y.1.1 with
   |some j=>if f.length<100000 then some (.nx (ρ.set i (.cT ((j,x.1.1)::f))) y.2) else none
   |none=>none
  |_=>none
 ok:=by
  intro K sk F0 H0 F H σ ρ aj s out D w h q
  obtain⟨⟨x,s1⟩,h1,h2⟩:=aI h
  dsimp only at h2
  split at h2
  ·rename_i f cF
   obtain⟨⟨⟨y,fl⟩,s2⟩,h3,h4⟩:=aI h2
   dsimp only at h4
   split at h4
   ·rename_i j ej
    split at h4
    ·rename_i hl
     cases h4
     refine v.ok K w.pre h1 λvv F1 H1 as st1 k1 r1 f1=>?_
     have w1:=w.next st1 k1
     obtain⟨xv,fp,e1,e2,a,ws,rfl,hH,hF,BI,hr,rfl⟩:=w1.slots.get cF
     refine⟨.ref a,e1,?_⟩
     refine k.ok K w1.pre h3 λkv F2 H2 bs st2 k2 r2 f2=>?_
     have w2:=w1.next st2 k2
     obtain⟨Yo,XQ,EE,KS,a2,vm,ez,m7,CN,wA,hr2,rfl⟩:=w2.slots.get cF
     rw [e1] at EE
     have K8:a2=a:=by
      have:=Option.some.inj EE
      subst this
      have:=Option.some.inj ez
      injection this with this
      exact this.symm
     subst K8
     have hkv:=r2.key ej
     subst hkv
     refine⟨a2,_,rfl,DPut.k (k:=j) m7 (KbC wA (Ka7 hl (by decide))),?_⟩
     have w3:=w2.dput (ws:=vm) (gu:=putK vm j vv) (f:=(j,x.1)::f) e1 KS CN (Kaw (qW _ _ _) (by show vm.length+1<=f.length+1;omega)) (cS.put hr2 (r1.mono st2.sub)) m7
     exact q F2 _ σ aj (st1.sub.trans st2.sub) w3
    ·cases h4
   ·cases h4
  ·cases h2
theorem US {F:Hp}{x:Option V}{d:PyData}(h:cS F x (some d)):∃v as,x=some v/\Rp F v d as:=by
 cases x with
 |none=>cases h
 |some v=>obtain⟨as,h⟩:=h;exact⟨v,as,rfl,h⟩
theorem xj {F:Hp}{x:Option V}(h:cS F x none):x=none:=by
 cases x with
 |none=>rfl
 |some v=>cases h
/-- d[k] -/
def SE.Zh (i:Nat)(k:SE):SE where
 t:=λK=>tDGet (tVar i) (k.t K)
 ev:=λρ s=>match ρ[i]? with
  |some (.cT f)=>(k.ev ρ s).bind λy=>match keyOf y.1.1 with
   |some j=>(b8 f j).map λd=>((d,false),y.2)
   |none=>none
  |_=>none
 ok:=by
  intro K sk F H σ ρ aj s vl s' Q p h q
  dsimp only at h
  split at h
  ·rename_i f cF
   obtain⟨⟨⟨y,fl⟩,s2⟩,h3,h4⟩:=aI h
   dsimp only at h4
   split at h4
   ·rename_i j ej
    obtain⟨d,h5,h6⟩:=Kam.mp h4
    cases h6
    obtain⟨xv,fp,e1,e2,a,ws,rfl,hH,hF,BI,hr,rfl⟩:=p.slots.get cF
    refine⟨.ref a,e1,?_⟩
    refine k.ok K p h3 λkv F2 H2 bs st2 k2 r2 f2=>?_
    have hz:=hr j
    rw [h5] at hz
    obtain⟨v,as,hv,rv⟩:=US hz
    have fa:a∈aj.flatten:=KaB.mpr ⟨_,Kat e2,Kaa⟩
    have m7:H2 a=some (.dK ws):=st2.fr a _ (λz=>p.jW a z fa) hH
    have hkv:=r2.key ej
    subst hkv
    refine⟨a,v,rfl,?_,q v F2 H2 as st2 k2 (rv.mono st2.sub) .no⟩
    rw [<-hv]
    exact DGet.k (k:=j) m7
   ·cases h4
  ·cases h
/-- d.get(k,x) -/
def WY (i:Nat)(k x:SE):SE where
 t:=λK=>tDGet2 (tVar i) (k.t K) (x.t K)
 ev:=λρ s=>match ρ[i]? with
  |some (.cT f)=>(k.ev ρ s).bind λy=>match keyOf y.1.1 with
   |some j=>(x.ev ρ y.2).bind λz=>some (((b8 f j).getD z.1.1,false),z.2)
   |none=>none
  |_=>none
 ok:=by
  intro K sk F H σ ρ aj s vl s' Q p h q
  dsimp only at h
  split at h
  ·rename_i f cF
   obtain⟨⟨⟨y,fl⟩,s2⟩,h3,h4⟩:=aI h
   dsimp only at h4
   split at h4
   ·rename_i j ej
    obtain⟨⟨z,s3⟩,h5,h6⟩:=aI h4
    cases h6
    obtain⟨xv,fp,e1,e2,a,ws,rfl,hH,hF,BI,hr,rfl⟩:=p.slots.get cF
    refine⟨.ref a,e1,a,rfl,.inl ⟨ws,.inl hH⟩,?_⟩
    refine k.ok K p h3 λkv F2 H2 bs st2 k2 r2 f2=>?_
    refine x.ok K (p.next st2 k2) h5 λxv F3 H3 cs st3 k3 r3 f3=>?_
    have fa:a∈aj.flatten:=KaB.mpr ⟨_,Kat e2,Kaa⟩
    have ZH:H3 a=some (.dK ws):=st3.fr a _ (λz=>p.jW a z fa) (st2.fr a _ (λz=>p.jW a z fa) hH)
    have hkv:=r2.key ej
    subst hkv
    refine⟨_,DGet.k (k:=j) ZH,?_⟩
    have hz:=hr j
    cases hd:b8 f j with
    |none=>
     rw [hd] at hz
     rw [xj hz]
     refine q xv F3 H3 cs (st2.trans st3) k3 ?_ .no
     rw [hd];exact r3
    |some d=>
     rw [hd] at hz
     obtain⟨v,as,hv,rv⟩:=US hz
     rw [hv]
     refine q v F3 H3 as (st2.trans st3) k3 ?_ .no
     rw [hd];exact (rv.mono st2.sub).mono st3.sub
   ·cases h4
  ·cases h
def x8 (i j:Int):Prop:=0<=j/\(Builtin.Int.intBits i:Int)*j<=2 ^ 27
theorem Js {X:Cx}:OpR X (binaryOp .Pow) (rI x8 λi j=>.int (i ^ j.toNat)):=opI λ_ _ _ _ _ _ _ hc q=>pow_int hc.1 hc.2 q
def eL (i j:Int):Bool:=decide (0<=j) && decide (j<=1000) && decide (i.natAbs<2 ^ 1000)
theorem Dz {i j:Int}(h:eL i j=true):x8 i j:=by
 unfold eL at h
 obtain⟨h0,h3⟩:=KaP.mp h
 obtain⟨h1,h2⟩:=KaP.mp h0
 have h1:=of_decide_eq_true h1
 have h2:=of_decide_eq_true h2
 have h3:=of_decide_eq_true h3
 refine⟨h1,?_⟩
 have hb:Builtin.Int.intBits i<=1001:=by
  unfold Builtin.Int.intBits
  split
  ·omega
  ·have:=PySem.Flt.log2_lt_of (show 0<1000 by decide) h3
   omega
 have:(Builtin.Int.intBits i:Int)*j<=1001*1000:=Int.mul_le_mul (by omega) h2 h1 (by decide)
 omega
def hxk:SE->SE->SE:=iM _ _ (uD (C:=x8) (g:=λi j=>i ^ j.toNat) (c:=eL) (λi j h=>Dz h))
end Pu
namespace Pu
variable [aR]
open PySem PySem.Spec PyProof.Rows L2
mutual
/-- plain data: ints below 10 ** 60,short texts,no dict -/
def small:PyData->Bool
 |.none=>true
 |.bool _=>true
 |.int i=>decide (i.natAbs<10 ^ 60)
 |.str x=>decide ((reprText x).length<=61)
 |.list xs=>Gn xs
 |.tuple xs=>Gn xs
 |.dict _=>false
def Gn:List PyData->Bool
 |[]=>true
 |x::xs=>small x && Gn xs
end
mutual
/-- at most so many signs -/
def cost:PyData->Nat
 |.list xs=>Ld xs+3
 |.tuple xs=>Ld xs+3
 |_=>61
def Ld:List PyData->Nat
 |[]=>0
 |x::xs=>cost x+2+Ld xs
end
def GO (d:PyData):Bool:=small d && decide (cost d<=1000000) && decide (d.depth<=60)
mutual
theorem ji:∀d:PyData,small d=true->nd d=true
 |.none,_=>rfl
 |.bool _,_=>rfl
 |.int _,_=>rfl
 |.str _,_=>rfl
 |.list xs,h=>by simp only [small] at h;unfold nd;exact R9 xs h
 |.tuple xs,h=>by simp only [small] at h;unfold nd;exact R9 xs h
 |.dict kvs,h=>by simp only [small] at h;cases h
theorem R9:∀xs:List PyData,Gn xs=true->fV xs=true
 |[],_=>rfl
 |x::xs,h=>by
  simp only [Gn,Ka8] at h
  unfold fV
  rw [ji x h.1,R9 xs h.2];rfl
end
theorem Ah {d:PyData}(h:GO d=true):nd d=true:=ji d (KaP.mp (KaP.mp h).1).1
def HE (K:Frag):List V->Hp->VK->Prop:=λxs H Q=>∃x d,xs=[x]/\Dp K H x d/\GO d=true/\Q (.str d.shown) H
def AQ:List PyData->Option Vl
 |[d]=>if GO d=true then some (.str d.shown,true) else none
 |_=>none
def SE.ar (a:SE):SE:=o4 (λK=>HE K) AQ (by
 intro K F H xs ds as z Q s r h q
 unfold AQ at h
 split at h
 ·rename_i d
  split at h
  ·rename_i ok
   cases h
   cases r with
   |cons r rr=>
    cases rr
    exact⟨_,d,rfl,(r.mono s).dp (Ah ok),ok,q.here (z:=(.str _,true)) s (.str _) .nil⟩
  ·cases h
 ·cases h) (.cons a .nil)
/-- texts Kl -/
def SE.ZZ:SE->SE->SE:=iM (λ_=>rNe) (λd e=>match d,e with|.str x,.str y=>some (.bool (!decide (x=y)),true)|_,_=>none) (by
 intro K F H x y d e as bs z Q s r1 r2 h q
 dsimp only at h
 split at h
 ·rename_i a b
  cases h
  rw [r1.str_inv,r2.str_inv]
  refine⟨rfl,?_⟩
  have e:decide (V.str a=V.str b)=decide (a=b):=by
   by_cases z:a=b
   ·subst z;simp
   ·rw [decide_eq_false z,decide_eq_false (λw=>z (V.str.inj w))]
  rw [e]
  exact q.here (z:=(.bool _,true)) s (.bl _) .nil
 ·cases h)
def SE.Zl:SE->SE->SE:=iM (λ_=>rEq) (λd e=>match d,e with|.str x,.str y=>some (.bool (decide (x=y)),true)|_,_=>none) (by
 intro K F H x y d e as bs z Q s r1 r2 h q
 dsimp only at h
 split at h
 ·rename_i a b
  cases h
  rw [r1.str_inv,r2.str_inv]
  refine⟨rfl,?_⟩
  have e:decide (V.str a=V.str b)=decide (a=b):=by
   by_cases z:a=b
   ·subst z;simp
   ·rw [decide_eq_false z,decide_eq_false (λw=>z (V.str.inj w))]
  rw [e]
  exact q.here (z:=(.bool _,true)) s (.bl _) .nil
 ·cases h)
def VR:PyData->Bool
 |.list _=>true
 |_=>false
/-- xs[::-1] -/
def SE.rev (a:SE):SE where
 t:=λK=>tRevL K (a.t K)
 ev:=λρ s=>(a.ev ρ s).bind λx=>match x.1.1 with
  |.list ds=>some ((.list ds.reverse,eR ds.reverse),x.2)
  |_=>none
 ok:=by
  intro K sk F H σ ρ aj s vl s' Q p h q
  obtain⟨⟨⟨x,fl⟩,s1⟩,h1,h2⟩:=aI h
  dsimp only at h2
  split at h2
  ·rename_i ds
   cases h2
   refine a.ok K p h1 λv F1 H1 as st k r f=>?_
   obtain⟨b,xs,cs,rfl,ha,hr,hz⟩:=r.aM
   refine⟨b,xs,rfl,.inl (.inl (st.sub' _ _ ha)),λpp np=>?_⟩
   have WR:∃bs,ao F1 xs.reverse ds.reverse bs:=by
    clear ha r f h h1 q hz
    induction ds generalizing xs cs with
    |nil=>cases hr;exact⟨[],.nil⟩
    |cons d ds ih=>
     cases hr with
     |cons r1 r2=>
      obtain⟨bs,h⟩:=ih _ _ r2
      rw [KbF,KbF]
      exact⟨_,h.app (.cons r1 .nil)⟩
   obtain⟨bs,hb⟩:=WR
   have sa:aY F1 H1 (L2.upd F1 pp (.lst xs.reverse)) (L2.upd H1 pp (.lst xs.reverse)):=.alloc st.sub' np
   refine q _ _ _ (pp::bs) (st.trans sa.any) (k.keep sa) (.lst upd_same (hb.mono sa.sub)) λe=>?_
   rw [hb.aH e]
   refine⟨by simp,λc m=>?_⟩
   have:c=pp:=by simpa using m
   subst this
   cases hq:H c with
   |none=>rfl
   |some u=>exact absurd np (st.dm c (by rw [hq];exact nofun))
  ·cases h2
/-- xs.clear() -/
def SS.clear (i:Nat):SS where
 t:=λK=>tDrop (tBM0 K "list" rClear (tVar i))
 ev:=λρ s=>match ρ[i]? with
  |some (.aO ds o)=>some (.nx (ρ.set i (.aO [] o)) s)
  |_=>none
 ok:=by
  intro K sk F0 H0 F H σ ρ aj s out D w h q
  dsimp only at h
  split at h
  ·rename_i ds o cF
   cases h
   obtain⟨xv,fp,e1,e2,a,vs,as,rfl,hH,hF,r,rfl⟩:=w.slots.get cF
   refine⟨.ref a,e1,.inl ⟨rfl,vs,.inl (.inl hH)⟩,a,vs,rfl,rfl,hH,?_⟩
   have fa:a∈aj.flatten:=KaB.mpr ⟨_,Kat e2,Kaa⟩
   obtain⟨a0,a1,a2⟩:=w.bR a fa
   obtain⟨n1,n2⟩:=yP w.dj e2
   have n3:=Kaj.mp n1
   have na:a∉(aj.set i []).flatten:=λm=>n3.2.2 a Kaa a m rfl
   have nd:([a]++(aj.set i []).flatten).Nodup:=Kaj.mpr ⟨by simp,n3.2.1,λx hx y hy z=>by
    have:x=a:=by simpa using hx
    subst this;subst z
    exact na hy⟩
   obtain⟨m1,m2⟩:=vD (i:=i) nd
   rw [KaK] at m1 m2
   have CO:∀b,H b≠none->L2.upd H a (.lst []) b≠none:=λb h=>by
    by_cases z:b=a
    ·rw [z,upd_same];exact nofun
    ·rw [upd_ne z];exact h
   have st':Step sk F0 H0 F (L2.upd H a (.lst [])):=by
    refine⟨w.st.sub,λb u e=>?_,λb u hb e hs=>?_,λb h=>CO b (w.st.dm b h),w.st.new⟩
    ·rw [upd_ne (λz=>by rw [z,hF] at e;cases e)];exact w.st.sub' b u e
    ·rw [upd_ne (λz=>by rw [z,a0] at e;cases e)];exact w.st.fr b u hb e
   have dD:aZ sk F (L2.upd H a (.lst [])) s:=⟨λb e=>⟨by rw [upd_ne (λz=>a2 (by rw [<-z];exact e))];exact (w.aW b e).1,(w.aW b e).2⟩,Pq w.aW.tab hH⟩
   have sl:=((w.slots.drop (i:=i)).tK (a:=a) (o:=.lst []) na).fill (sl:=.aO [] o) (fp:=[a]) e1 ⟨a,[],[],rfl,upd_same,hF,.nil,by cases o <;> rfl⟩
   rw [KaK,KaK] at sl
   refine q F _ σ (aj.set i [a]) (Same.refl _) ⟨st',dD,sl,m1,λb m=>?_⟩
   rcases m2 b m with z|z
   ·have:b=a:=by simpa using z
    subst this
    exact⟨a0,CO b a1,a2⟩
   ·have:=w.bR b (nU.mem z)
    exact⟨this.1,CO b this.2.1,this.2.2⟩
  ·cases h
end Pu
namespace Pu
variable [aR]
open PySem PySem.Spec PyProof.Rows L2
structure BP (P:Program)(w:World)(K:Frag)(mg:Str->Option Value)(base:Heap)(k:Nat)(f:Addr)(fd:FuncData)(ps:List Str)(sp:Sp):Prop where
 len:∀vs H Q,sp vs H Q E0->vs.length=ps.length
 go:∀(A:Around) (outer:List Env) (s:Shared) (H:Hp) (args:Args) (us:List Value) (vs:List V) (Q:VK),A.guards=some []->Room k A->Env0 P w K mg base A outer s H->BindsTo s fd args (ps.zip us)->Vals vs us->sp vs H Q E0 ->
  codeAny (model P w) A (.call (.ref f) args) (CR CX0 outer P w H s Q E0) s
section
variable {P:Program}{w:World}{K:Frag}{mg:Str->Option Value}{base:Heap}{x:Str}{st:Stmt}{f:Addr}{fd:FuncData}{N ps:List Str}{k:Nat}{sp:Sp}
/-- a def by its body,in a quiet place -/
theorem BP.body (F:cM K x st f fd)(S:FnScope N ps (defScope st))(len:∀vs H Q,sp vs H Q E0->vs.length=ps.length)
  (hbody:∀(cdv:Value) (A:Around) (outer:List Env) (s:Shared) (H:Hp) (vs:List V) (Q:VK),A.guards=some []->Room k (A.deeper (envOfC x (defScope st) s.heap.objs.size f cdv))->sp vs H Q E0 ->
   ∃t,PSs (cxOf CX0 P w K mg base N x (defScope st) f cdv A outer s H E0) (defBody st) t/\t { nx:=λ_ H'=>Q .non H',rt:=Q } (L2.start N vs) H):
  BP P w K mg base (k+1) f fd ps sp:=by
 obtain⟨c0,c1,c2,c3,c4,c5,c6,cdv,c7,c8,e,lk,hcd,_,_⟩:=F.ex
 subst e
 refine⟨len,λA outer s H args us vs Q hG hr e0 hb hv hs=>?_⟩
 obtain⟨t,ht,hq⟩:=hbody cdv A outer s H vs Q hG (hr.deeper _) hs
 have BL:K.In s.heap:=e0.mod.kin.keeps λb o z=>(e0.bs b o z).1
 refine codeAny_call_function hr.depth (BL _ _ lk) rfl S.co S.gen rfl (PySem.W.codeRec_of BL hcd) (hb _ _ _ _ ?_)
 refine wpAny_newFunctionEnv_cells S.kind (λy hy=>?_) λenv he s1 ic=>?_
 ·have hp:=S.par y.1 (List.of_mem_zip hy).1
  exact hp.imp id λz=>⟨z,PySem.W.cellsFrom_some _ _ _ (.inl z)⟩
 ·subst he
  have lim:=(e0.mod.nolimit.keeps λb o z=>(e0.bs b o z).1).keeps ic.toInCall.keep
  refine⟨lim,codeAny_func ?_⟩
  have I0:=inv_start (CX:=CX0) (E:=E0) (cd:=cdv) (f:=f) (qual:=x) S hr.hd e0 (len _ _ _ hs) hv ic
  refine wpAny_mono (ht.run [] s1 _ H _ I0 hq) (λfl s' hz=>?_) λ_ _ z=>z
  cases fl with
  |brk=>exact hz.choose_spec.choose_spec.2.elim
  |cont=>exact hz.choose_spec.choose_spec.2.elim
  |next=>
   obtain⟨σ',H',J,z⟩:=hz
   exact⟨.non,H',J.os,J.bare,J.base,J.hok,rfl,z⟩
  |ret u=>
   obtain⟨v,σ',H',J,rv,z⟩:=hz
   exact⟨v,H',J.os,J.bare,J.base,J.hok,rv,z⟩
end
section
variable {X:Cx}{k:Nat}{f:Addr}{fd:FuncData}{ps ks:List Str}{sp:Sp}{x:Str}{p pos:Pos}{e:Expr}{es:List Expr}{kws:List Keyword}{t:TA}
/-- f(k=v,..): all by keywords;g: in bJ qQ order -/
def tCallN (sp:Sp)(g:List V->List V)(t:TA):TE:=λσ H Q=>t σ H λzs H1=>sp (g zs) H1 Q E0
end
/-- f(k=v,..) as a FO: bJ values in bJ written order,then put in bJ qQ order -/
def SE.Kc (m:Fn)(gS:List Slot->List Slot)(gV:List V->List V)(hg:∀{sk:Option Addr} {F H:Hp} {vs:List V} {sl:List Slot},Slots sk F H (vs.map some) sl (jH sl)->Slots sk F H ((gV vs).map some) (gS sl) (jH (gS sl)))(a:SR):SE where
 t:=λK=>tCallN (bq m) gV (a.t K)
 ev:=λρ s=>(a.ev ρ s).bind λx=>m (gS x.1) x.2
 ok:=by
  intro K sk F H σ ρ aj s vl s' Q p h q
  obtain⟨⟨y,s1⟩,h1,h⟩:=aI h
  refine a.ok K p h1 λvs F1 H1 st1 k1 sl=>?_
  refine⟨sk,F1,gS y,s1,vl,s',st1.sub',k1,hg sl,h,λv F2 H2 as st2 k2 r2 f2=>?_⟩
  exact q v F2 H2 as (st1.trans st2) k2 r2 (f2.back st1.dm)
def sw2 {α:Type}:List α->List α
 |[a,b]=>[b,a]
 |_=>[]
def sw3 {α:Type}:List α->List α
 |[a,b,c]=>[c,b,a]
 |_=>[]
end Pu
namespace Pu
open PySem PySem.Spec PyProof.Rows L2
/-- what is wanted behind it -/
def Good (h:Heap)(os:OsState)(r:Result)(s':Shared):Prop:=r=.ok (.ret (.bool true))/\OldK h s'.heap/\s'.os=os/\AllBare s'.gens
section
variable {P:Program}{w:World}{K:Frag}{mg mb:Str->Option Value}{k:Nat}{fa a:Addr}{fd:FuncData}{x:Str}{sp:Sp}{s1:Shared}{vs:List Value}{ns:List Int}
/-- bJ tracked heap: nothing,or bJ script alone -/
theorem qz (T:Hp)(hT:∀b,T b=none∨(b=a/\∃o xs,T b=some (.frz o (.lst xs))))(hok:HOk P w T s1.heap)(hK:T a≠none->K.lookup a=none)
  (BL:K.In s1.heap) (hns:s1.heap.Ns mainGlobals mg) (hbn:s1.heap.Ns builtinsNs mb) (hbb:∀y:Str,y ≠ "__name__" -> mb y=bootBuiltins y) (hlim:s1.heap.NoLimit) (hg:s1.gens=#[])
  (ha:s1.heap.get? a=some { cls:=.type "list",data:=.seq vs.toArray }) (hr:Room k callerA)
  (F:∀base:Heap,K.In base->base.Ns mainGlobals mg->BP P w K mg base k fa fd [x] sp) (hbind:∀(s:Shared) (u:Value),BindsTo s fd ⟨[u],[]⟩ [(x,u)])
  (hsp:sp [.ref a] T (λv _=>v=.bl true) E0):codeAny (model P w) callerA (.call (.ref fa) ⟨[.ref a],[]⟩) (Good s1.heap s1.os) s1:=by
 have free:∀{b:Addr} {o:Obj} {es:Array DictEntry} {ep:Nat},s1.heap.get? b=some o->o.data=.dict es ep->T b=none:=by
  intro b o es ep e d
  rcases hT b with z|⟨rfl,_⟩
  ·exact z
  ·rw [ha] at e
   cases e
   cases d
 have Qs:∀{b:Addr} {m:Str->Option Value},s1.heap.Ns b m->(hidT s1.heap T).Ns b m:=by
  rintro b m ⟨o,es,ep,e,d,r⟩
  exact⟨o,es,ep,hidT_get e (free e d),d,r⟩
 have X4:K.In (hidT s1.heap T):=by
  intro b o e
  refine hidT_get (BL b o e) ?_
  rcases hT b with z|⟨rfl,z⟩
  ·exact z
  ·obtain⟨o2,xs,z⟩:=z
   have:=hK (by rw [z];exact nofun)
   rw [this] at e
   cases e
 have W5:(hidT s1.heap T).NoLimit:=by
  obtain⟨mc,h1,h2⟩:=hlim
  exact⟨mc,Qs h1,h2⟩
 have md:Mod K mg (hidT s1.heap T):=⟨X4,Qs hns,⟨mb,Qs hbn,hbb⟩,W5⟩
 have e0:Env0 P w K mg (hidT s1.heap T) callerA [] s1 T:=by
  constructor
  ·rfl
  ·exact md
  ·exactλb o e=>of_hidT e
  ·exact Nat.le_of_eq (hidT_size _ _)
  ·exact trivial
  ·intro b hb;cases hb
  ·exact hok
  ·exact .of_eq hg
 refine codeAny_mono ((F _ X4 (Qs hns)).go callerA [] s1 T ⟨[.ref a],[]⟩ [.ref a] [.ref a] _ rfl hr e0 (hbind s1 (.ref a)) (.cons rfl .nil) hsp) ?_
 intro r s' h
 match r,h with
 |.ok (.ret u),⟨v,H',os,bare,un,WM,rv,q⟩=>
  have q:v=.bl true:=q
  subst q
  have rv:u=Value.bool true:=rv
  subst rv
  refine⟨rfl,OldK.of_keep λb o e=>?_,os,bare⟩
  rcases hT b with z|⟨_,ob,xs,z⟩
  ·exact un.keep b o e z (λm=>by cases m) (λm=>by cases m)
  ·have g1:=(hok b _ z).1
   have g2:=(WM b _ (un.frzs b ob _ z)).1
   rw [e] at g1
   rw [g2,g1]
theorem wK (BL:K.In s1.heap)(hns:s1.heap.Ns mainGlobals mg)(hbn:s1.heap.Ns builtinsNs mb)(hbb:∀y:Str,y ≠ "__name__" -> mb y=bootBuiltins y)(hlim:s1.heap.NoLimit)(hg:s1.gens=#[])
  (ha:s1.heap.get? a=some { cls:=.type "list",data:=.seq vs.toArray }) (hi:IntsAre vs ns) (hl:ns.length<=sizeLine) (hr:Room k callerA)
  (F:∀base:Heap,K.In base->base.Ns mainGlobals mg->BP P w K mg base k fa fd [x] sp) (hbind:∀(s:Shared) (u:Value),BindsTo s fd ⟨[u],[]⟩ [(x,u)])
  (hsp:∀T:Hp,SqL K T a (ns.map V.int)->sp [.ref a] T (λv _=>v=.bl true) E0):codeAny (model P w) callerA (.call (.ref fa) ⟨[.ref a],[]⟩) (Good s1.heap s1.os) s1:=by
 have rv:=vals_ints hi
 have hlen:(ns.map V.int).length<=sizeLine:=by rw [Kaf];exact hl
 cases hk:K.lookup a with
 |some o=>
  have e:=BL a o hk
  rw [ha] at e
  cases e
  refine qz (λ_=>none) (λ_=>.inl rfl) (λb u z=>by cases z) (λz=>absurd rfl z) BL hns hbn hbb hlim hg ha hr F hbind (hsp _ (.inr ?_))
  refine⟨_,vs.toArray,_,hk,rfl,rfl,rfl,?_,?_⟩
  ·rw [Kbp,<-rv.length];exact hlen
  ·simpa using rv
 |none=>
  let T:Hp:=λb=>if b=a then some (.frz { cls:=.type "list",data:=.seq vs.toArray } (.lst (ns.map V.int))) else none
  have Ta:T a=some (.frz { cls:=.type "list",data:=.seq vs.toArray } (.lst (ns.map V.int))):=if_pos rfl
  have Tb:∀{b},b≠a->T b=none:=λh=>if_neg h
  refine qz T (λb=>?_) (λb u z=>?_) (λ_=>hk) BL hns hbn hbb hlim hg ha hr F hbind (hsp T (.inl (.inr ⟨_,Ta⟩)))
  ·by_cases e:b=a
   ·subst e;exact .inr ⟨rfl,_,_,Ta⟩
   ·exact .inl (Tb e)
  ·by_cases e:b=a
   ·subst e
    rw [Ta] at z
    cases z
    exact⟨ha,hlen,vs,_,rv,ha⟩
   ·rw [Tb e] at z;cases z
end
/-- a law whose def is walked in a quiet place -/
theorem MS {l:PySem.W.OpenLaw}{n k:Nat}{q:Program}{loose:List Str}{XP:(Str->Option Value)->Heap->Prop}{YP:World->Heap->Prop}{d:DefRec}{x:Str}(hn:l.most=some n)(hn2:n<=sizeLine)(hdf:d.params.defaults=[])(hr:Room k callerA)
  (F:∀(w:World) (mg:Str->Option Value) (fa:Addr) (h:Heap),YP w h->h.Ns mainGlobals mg->mg d.name=some (.ref fa) ->
   ∃(K:Frag) (fd:FuncData) (sp:Sp),K.In h/\(∀(s:Shared) (u:Value),BindsTo s fd ⟨[u],[]⟩ [(x,u)]) /\
    (∀(T:Hp) (a:Addr) (ns:List Int),ns.length<=n->SqL K T a (ns.map V.int)->sp [.ref a] T (λv _=>v=.bl true) E0) /\
    ∀base:Heap,K.In base->base.Ns mainGlobals mg->BP l.prog w K mg base k fa fd [x] sp):
  PySem.W.WalkO q loose XP YP l.row.toRowW d [] (λf vs=>PySem.call f vs):=by
 refine Att.attach_call hn hdf ?_
 intro w s0 s1 mg mb fa o pm cd doc a vs ns G Y ho hd hcd hmg hobj hints hlen hg
 obtain⟨K,fd,sp,BL,hb,hsp,hF⟩:=F w mg fa _ Y G.T.g hmg
 exact wK BL G.T.g G.T.b G.T.builtins G.T.nolimit hg hobj hints (Kaw hlen hn2) hr hF hb λT hS=>hsp T a ns hlen hS
variable [aR]
def rC (s:ae):Int->Option Int
 |0=>some s.1
 |1=>some s.2.1
 |2=>some s.2.2
 |_=>none
theorem A6 {s:ae}{j z:Int}(h:rC s j=some z):atI (jn s) j=some (.int z):=by
 unfold rC at h
 split at h
 ·cases h;rfl
 ·cases h;rfl
 ·cases h;rfl
 ·cases h
def lC (s:ae)(z:Int):Int->Option ae
 |0=>some (z,s.2.1,s.2.2)
 |1=>some (s.1,z,s.2.2)
 |2=>some (s.1,s.2.1,z)
 |_=>none
theorem A7 {s s':ae}{j z:Int}(h:lC s z j=some s'):∃n,ixN (jn s).length j=some n/\(jn s).set n (.int z)=jn s':=by
 unfold lC at h
 split at h
 ·cases h;exact⟨0,rfl,rfl⟩
 ·cases h;exact⟨1,rfl,rfl⟩
 ·cases h;exact⟨2,rfl,rfl⟩
 ·cases h
def zD (i:Nat)(j:Int):SE where
 t:=λK=>tOp (rIx K) (tVar i) (tC (.int j))
 ev:=λρ s=>match ρ[i]? with
  |some .bC=>(rC s j).map λz=>((.int z,true),s)
  |_=>none
 ok:=by
  intro K sk F H σ ρ aj s vl s' Q p h q
  dsimp only at h
  split at h
  ·rename_i e
   obtain⟨z,h1,h2⟩:=Kam.mp h
   cases h2
   obtain⟨x,fp,e1,e2,_,a,rfl,e4⟩:=p.slots.get e
   obtain⟨k1,k2⟩:=p.aW a e4
   exact⟨.ref a,e1,.inl ⟨a,_,j,_,rfl,rfl,.inl (.inl k1),A6 h1,q _ F H [] (.refl p.sub) p.aW (.int _) .nil⟩⟩
  ·cases h
def LQ (i:Nat)(j:Int)(e:SE):SS where
 t:=λK=>tAsg (e.t K) (gSub (tVar i) (tC (.int j)) rSetL)
 ev:=λρ s=>(e.ev ρ s).bind λx=>match x.1.1,ρ[i]? with
  |.int z,some .bC=>(lC x.2 z j).map λs'=>.nx ρ s'
  |_,_=>none
 ok:=by
  intro K sk F0 H0 F H σ ρ aj s out D w h q
  obtain⟨⟨⟨x,fl⟩,s1⟩,h1,h2⟩:=aI h
  dsimp only at h2
  split at h2
  ·rename_i z cF
   obtain⟨s',h3,h4⟩:=Kam.mp h2
   cases h4
   refine e.ok K w.pre h1 λv F1 H1 as st k r f=>?_
   obtain⟨x,fp,e1,e2,_,a,rfl,e4⟩:=w.slots.get cF
   have hv:=r.int_inv
   subst hv
   obtain⟨k1,k2⟩:=k a e4
   obtain⟨n,p1,p2⟩:=A7 h3
   refine⟨.ref a,e1,a,_,j,n,rfl,rfl,k1,p1,?_⟩
   rw [p2]
   have w1:=w.next st k
   have na:a∉aj.flatten:=λm=>(w.bR a m).2.2 e4
   have XM:∀b,H1 b≠none->L2.upd H1 a (.lst (jn s')) b≠none:=λb hb=>by
    by_cases zz:b=a
    ·rw [zz,upd_same];exact nofun
    ·rw [upd_ne zz];exact hb
   refine q F1 _ σ aj st.sub ⟨⟨w1.st.sub,λb u e=>?_,λb u hb e hs=>?_,λb hb=>XM b (w1.st.dm b hb),w1.st.new⟩,⟨λb e=>?_,Pq k.tab k1⟩,w1.slots.tK na,w1.dj,λb m=>⟨(w1.bR b m).1,XM b (w1.bR b m).2.1,(w1.bR b m).2.2⟩⟩
   ·rw [upd_ne (λzz=>by rw [zz,k2] at e;cases e)];exact w1.st.sub' b u e
   ·rw [upd_ne (λzz=>hb (by rw [zz];exact e4))];exact w1.st.fr b u hb e
   ·rw [e4] at e
    have ee:a=b:=Option.some.inj e
    subst ee
    exact⟨upd_same,k2⟩
  ·cases h2
/-- isinstance(x,list) -/
def SE.isList (e:SE):SE where
 t:=λK=>tCB (rIsi K) (tCons (e.t K) (tCons (tC (.ty "list")) tNil))
 ev:=λρ s=>(e.ev ρ s).bind λx=>match x.1.1 with
  |.dict _=>none
  |d=>some ((.bool (VR d),true),x.2)
 ok:=by
  intro K sk F H σ ρ aj s vl s' Q p h q
  obtain⟨⟨⟨x,fl⟩,s1⟩,h1,h2⟩:=aI h
  dsimp only at h2
  refine e.ok K p h1 λv F1 H1 as st k r f=>?_
  cases r with
  |non=>
   cases h2
   exact⟨_,.ty "list",.type "NoneType",.type "list",false,rfl,.ty _,.base .non,kit_ty (by decide +kernel),q _ F1 H1 [] st k (.bl _) .nil⟩
  |bl b=>
   cases h2
   exact⟨_,.ty "list",.type "bool",.type "list",false,rfl,.ty _,.base (.bl b),kit_ty (by decide +kernel),q _ F1 H1 [] st k (.bl _) .nil⟩
  |int i=>
   cases h2
   exact⟨_,.ty "list",.type "int",.type "list",false,rfl,.ty _,.base (.int i),kit_ty (by decide +kernel),q _ F1 H1 [] st k (.bl _) .nil⟩
  |str y=>
   cases h2
   exact⟨_,.ty "list",.type "str",.type "list",false,rfl,.ty _,.base (.str y),kit_ty (by decide +kernel),q _ F1 H1 [] st k (.bl _) .nil⟩
  |lst ha hr=>
   cases h2
   exact⟨_,.ty "list",.type "list",.type "list",true,rfl,.ty _,.base (.lst (st.sub' _ _ ha)),kit_ty (by decide +kernel),q _ F1 H1 [] st k (.bl _) .nil⟩
  |tup ha hr=>
   cases h2
   exact⟨_,.ty "list",.type "tuple",.type "list",false,rfl,.ty _,.base (.tup (st.sub' _ _ ha)),kit_ty (by decide +kernel),q _ F1 H1 [] st k (.bl _) .nil⟩
  |tupP ha hc hr=>cases h2
  |kL ha hc hr=>cases h2
  |lV ha hc hk hr=>cases h2
  |lU ha hc hr=>cases h2
end Pu
namespace Pu
variable [aR]
open PySem L2
section
variable {ρ:List Slot}{s:ae}{a b c:SE}{i j k:Nat}
@[simp] theorem Wm:(ai i).ev ρ s=(match ρ[i]? with|some (.dat d)=>some ((d,false),s)|some (.own d)=>some ((d,false),s)|_=>none):=rfl
@[simp] theorem zT {n:Int}:(SE.ab n).ev ρ s=some ((.int n,true),s):=rfl
@[simp] theorem B4 {n:Bool}:(SE.bool n).ev ρ s=some ((.bool n,true),s):=rfl
@[simp] theorem Wv:SE.non.ev ρ s=some ((.none,true),s):=rfl
@[simp] theorem PR:SA.nil.ev ρ s=some ([],s):=rfl
@[simp] theorem EA {r:SA}:(SA.cons a r).ev ρ s=(a.ev ρ s).bind λx=>(r.ev ρ x.2).bind λy=>some (x.1::y.1,y.2):=rfl
@[simp] theorem Wj {r:SA}:(SE.tup r).ev ρ s=(r.ev ρ s).bind λx=>if x.1.length<=100000 then some ((.tuple (x.1.map (·.1)),x.1.all λz=>z.2 ||aH z.1),x.2) else none:=rfl
@[simp] theorem Ad {r:SA}:(SE.lst r).ev ρ s=(r.ev ρ s).bind λx=>if x.1.length<=100000 then some ((.list (x.1.map (·.1)),x.1.all λz=>z.2 ||aH z.1),x.2) else none:=rfl
@[simp] theorem Lb {f:Int->Int->Option PyData}{x y:Int}:dQ f (.int x) (.int y)=(f x y).map λz=>(z,true):=rfl
@[simp] theorem Fv:(gr a b).ev ρ s=(a.ev ρ s).bind λx=>(b.ev ρ x.2).bind λy=>(dQ (λi j=>some (.int (i+j))) x.1.1 y.1.1).bind λz=>some (z,y.2):=rfl
@[simp] theorem HX:(EU a b).ev ρ s=(a.ev ρ s).bind λx=>(b.ev ρ x.2).bind λy=>(dQ (λi j=>some (.int (i-j))) x.1.1 y.1.1).bind λz=>some (z,y.2):=rfl
@[simp] theorem Hj:(wD a b).ev ρ s=(a.ev ρ s).bind λx=>(b.ev ρ x.2).bind λy=>(dQ (λi j=>if jh i j=true then some (.int (i*j)) else none) x.1.1 y.1.1).bind λz=>some (z,y.2):=rfl
@[simp] theorem Cz:(ux a b).ev ρ s=(a.ev ρ s).bind λx=>(b.ev ρ x.2).bind λy=>(dQ (λi j=>if mH i j=true then some (.int (i / j)) else none) x.1.1 y.1.1).bind λz=>some (z,y.2):=rfl
@[simp] theorem Hi:(sR a b).ev ρ s=(a.ev ρ s).bind λx=>(b.ev ρ x.2).bind λy=>(dQ (λi j=>if decide (0<j)=true then some (.int (i % j)) else none) x.1.1 y.1.1).bind λz=>some (z,y.2):=rfl
@[simp] theorem HB:(hxk a b).ev ρ s=(a.ev ρ s).bind λx=>(b.ev ρ x.2).bind λy=>(dQ (λi j=>if eL i j=true then some (.int (i ^ j.toNat)) else none) x.1.1 y.1.1).bind λz=>some (z,y.2):=rfl
@[simp] theorem Mg:(qk a b).ev ρ s=(a.ev ρ s).bind λx=>(b.ev ρ x.2).bind λy=>(dQ (λi j=>some (.bool (decide (i<j)))) x.1.1 y.1.1).bind λz=>some (z,y.2):=rfl
@[simp] theorem Me:(SE.le a b).ev ρ s=(a.ev ρ s).bind λx=>(b.ev ρ x.2).bind λy=>(dQ (λi j=>some (.bool (decide (i<=j)))) x.1.1 y.1.1).bind λz=>some (z,y.2):=rfl
@[simp] theorem Lp:(hxs a b).ev ρ s=(a.ev ρ s).bind λx=>(b.ev ρ x.2).bind λy=>(dQ (λi j=>some (.bool (decide (j<i)))) x.1.1 y.1.1).bind λz=>some (z,y.2):=rfl
@[simp] theorem Lm:(SE.ge a b).ev ρ s=(a.ev ρ s).bind λx=>(b.ev ρ x.2).bind λy=>(dQ (λi j=>some (.bool (decide (j<=i)))) x.1.1 y.1.1).bind λz=>some (z,y.2):=rfl
@[simp] theorem Aj:(SE.ag a).ev ρ s=(a.ev ρ s).bind λx=>(match x.1.1 with|.int i=>some (.int (-i),true)|_=>none:Option Vl).bind λz=>some (z,x.2):=rfl
@[simp] theorem K0:(gM a b).ev ρ s=(a.ev ρ s).bind λx=>(b.ev ρ x.2).bind λy=>((BB x.1.1 y.1.1).map λb=>(.bool b,true)).bind λz=>some (z,y.2):=rfl
@[simp] theorem Mj:(zO a b).ev ρ s=(a.ev ρ s).bind λx=>(b.ev ρ x.2).bind λy=>((BB x.1.1 y.1.1).map λb=>(.bool (!b),true)).bind λz=>some (z,y.2):=rfl
@[simp] theorem G5:(SE.G4 a b).ev ρ s=(a.ev ρ s).bind λx=>(b.ev ρ x.2).bind λy=>(match y.1.1 with|.none=>some (.bool (vX x.1.1),true)|_=>none:Option Vl).bind λz=>some (z,y.2):=rfl
@[simp] theorem Dk:(SE.Ar a b).ev ρ s=(a.ev ρ s).bind λx=>(b.ev ρ x.2).bind λy=>(match y.1.1 with|.none=>some (.bool (!vX x.1.1),true)|_=>none:Option Vl).bind λz=>some (z,y.2):=rfl
@[simp] theorem Mb:(cW a b).ev ρ s=(a.ev ρ s).bind λx=>(b.ev ρ x.2).bind λy=>(Qn x.1.1 y.1.1).bind λz=>some (z,y.2):=rfl
@[simp] theorem Hz:SO.no.ev ρ s=some (none,s):=rfl
@[simp] theorem AA:(SO.at a).ev ρ s=(a.ev ρ s).bind λx=>match x.1.1 with|.int i=>some (some i,x.2)|_=>none:=rfl
@[simp] theorem A9 {lo hi:SO}:(wC a lo hi).ev ρ s=(a.ev ρ s).bind λx=>(lo.ev ρ x.2).bind λy=>(hi.ev ρ y.2).bind λw=>(Qw x.1.1 y.1 w.1).bind λz=>some (z,w.2):=rfl
@[simp] theorem A8 {lo hi:SO}:(SE.Xq a lo hi).ev ρ s=(a.ev ρ s).bind λx=>(lo.ev ρ x.2).bind λy=>(hi.ev ρ y.2).bind λw=>(DU x.1.1 y.1 w.1).bind λz=>some (z,w.2):=rfl
@[simp] theorem Ey {r:Frag->List V->Hp->VK->Prop}{f:List PyData->Option Vl}{hr:MV r f}{x:SA}:(o4 r f hr x).ev ρ s=(x.ev ρ s).bind λx=>(f (x.1.map (·.1))).bind λz=>some (z,x.2):=rfl
@[simp] theorem Hg:(iB a).ev ρ s=((SA.cons a .nil).ev ρ s).bind λx=>(C3 (x.1.map (·.1))).bind λz=>some (z,x.2):=rfl
@[simp] theorem Ga:(xZ a b).ev ρ s=(a.ev ρ s).bind λx=>(b.ev ρ x.2).bind λy=>(Cc x.1.1 y.1.1).bind λz=>some (z,y.2):=rfl
@[simp] theorem Cd:(SE.FZ a b).ev ρ s=(a.ev ρ s).bind λx=>(b.ev ρ x.2).bind λy=>(yR x.1.1 y.1.1).bind λz=>some (z,y.2):=rfl
@[simp] theorem HJ:(SE.rep a b).ev ρ s=(a.ev ρ s).bind λx=>(b.ev ρ x.2).bind λy=>(HH x.1.1 y.1.1).bind λz=>some (z,y.2):=rfl
@[simp] theorem G1 {neg:Bool}:(CV neg a b).ev ρ s=(a.ev ρ s).bind λx=>(b.ev ρ x.2).bind λy=>(inF neg x.1.1 y.1.1).bind λz=>some (z,y.2):=rfl
@[simp] theorem Ft:(SE.abs a).ev ρ s=((SA.cons a .nil).ev ρ s).bind λx=>(match (x.1.map (·.1):List PyData) with|[.int i]=>some (.int (if i<0 then -i else i),true)|_=>none:Option Vl).bind λz=>some (z,x.2):=rfl
@[simp] theorem C7:(CU a b).ev ρ s=((SA.cons a (.cons b .nil)).ev ρ s).bind λx=>(match (x.1.map (·.1):List PyData) with|[.int i,.int j]=>some (.int (max i j),true)|_=>none:Option Vl).bind λz=>some (z,x.2):=rfl
@[simp] theorem Dc:(SE.av a b).ev ρ s=((SA.cons a (.cons b .nil)).ev ρ s).bind λx=>(match (x.1.map (·.1):List PyData) with|[.int i,.int j]=>some (.int (min i j),true)|_=>none:Option Vl).bind λz=>some (z,x.2):=rfl
@[simp] theorem Bf:(uy a).ev ρ s=((SA.cons a .nil).ev ρ s).bind λx=>(uH (x.1.map (·.1))).bind λz=>some (z,x.2):=rfl
@[simp] theorem HY:(SE.sum a).ev ρ s=((SA.cons a .nil).ev ρ s).bind λx=>(BF (λns=>some (.int ns.sum,true)) (x.1.map (·.1))).bind λz=>some (z,x.2):=rfl
@[simp] theorem C9:(SE.W8 a).ev ρ s=((SA.cons a .nil).ev ρ s).bind λx=>(BF (λns=>if ns=[] then none else some (.int (oB ns),true)) (x.1.map (·.1))).bind λz=>some (z,x.2):=rfl
@[simp] theorem Dd:(SE.Xa a).ev ρ s=((SA.cons a .nil).ev ρ s).bind λx=>(BF (λns=>if ns=[] then none else some (.int (oE ns),true)) (x.1.map (·.1))).bind λz=>some (z,x.2):=rfl
@[simp] theorem Fy:(SE.all a).ev ρ s=((SA.cons a .nil).ev ρ s).bind λx=>(Jr (λns=>some (.bool (ns.all id),true)) (x.1.map (·.1))).bind λz=>some (z,x.2):=rfl
@[simp] theorem Fz:(SE.any a).ev ρ s=((SA.cons a .nil).ev ρ s).bind λx=>(Jr (λns=>some (.bool (ns.any id),true)) (x.1.map (·.1))).bind λz=>some (z,x.2):=rfl
@[simp] theorem xr:(Qg a).ev ρ s=((SA.cons a .nil).ev ρ s).bind λx=>(BF (λns=>some (.list ((sortI ns).map .int),true)) (x.1.map (·.1))).bind λz=>some (z,x.2):=rfl
@[simp] theorem wN:(SE.ap a).ev ρ s=((SA.cons a .nil).ev ρ s).bind λx=>(Aa (x.1.map (·.1))).bind λz=>some (z,x.2):=rfl
@[simp] theorem vZ:(SE.al a b).ev ρ s=((SA.cons a (.cons b .nil)).ev ρ s).bind λx=>(R4 (x.1.map (·.1))).bind λz=>some (z,x.2):=rfl
@[simp] theorem V1:(SE.ym a b).ev ρ s=(a.ev ρ s).bind λx=>match x.1.1 with|.bool true=>b.ev ρ x.2|.bool false=>some ((.bool false,true),x.2)|_=>none:=rfl
@[simp] theorem HA:(SE.Z2 a b).ev ρ s=(a.ev ρ s).bind λx=>match x.1.1 with|.bool false=>b.ev ρ x.2|.bool true=>some ((.bool true,true),x.2)|_=>none:=rfl
@[simp] theorem Dm:(SE.Xg a).ev ρ s=(a.ev ρ s).bind λx=>match x.1.1 with|.bool b=>some ((.bool (!b),true),x.2)|_=>none:=rfl
@[simp] theorem Bk:(ST.ab a).ev ρ s=(a.ev ρ s).bind λx=>match x.1.1 with|.bool b=>some (b,x.2)|_=>none:=rfl
@[simp] theorem Pz:cL.ev ρ s=some (true,s):=rfl
@[simp] theorem V2 {x y:ST}:(EO x y).ev ρ s=(x.ev ρ s).bind λz=>if z.1=true then y.ev ρ z.2 else some (false,z.2):=rfl
@[simp] theorem Wi {x y:ST}:(uB x y).ev ρ s=(x.ev ρ s).bind λz=>if z.1=true then some (true,z.2) else y.ev ρ z.2:=rfl
@[simp] theorem u_ {x:ST}:(GV x).ev ρ s=(x.ev ρ s).bind λz=>some (!z.1,z.2):=rfl
@[simp] theorem Lo {x:ST}:(EV x a b).ev ρ s=(x.ev ρ s).bind λz=>if z.1=true then a.ev ρ z.2 else b.ev ρ z.2:=rfl
@[simp] theorem DG:SR.nil.ev ρ s=some ([],s):=rfl
@[simp] theorem q7 {r:SR}:(SR.cons a r).ev ρ s=(a.ev ρ s).bind λx=>(r.ev ρ x.2).bind λy=>some (.dat x.1.1::y.1,y.2):=rfl
@[simp] theorem AW {r:SR}:(jU i r).ev ρ s=match ρ[i]? with|some .bC=>(r.ev ρ s).bind λy=>some (.bC::y.1,y.2)|_=>none:=rfl
@[simp] theorem ud {m:Fn}{r:SR}:(SE.ac m r).ev ρ s=(r.ev ρ s).bind λx=>m x.1 x.2:=rfl
@[simp] theorem yQ {m:Fn}{gS:List Slot->List Slot}{gV:List V->List V}{hg}{r:SR}:(SE.Kc m gS gV hg r).ev ρ s=(r.ev ρ s).bind λx=>m (gS x.1) x.2:=rfl
@[simp] theorem qp:(SI.list a).ev ρ s=(a.ev ρ s).bind λx=>match x.1.1 with|.list ds=>some (ds,x.2)|_=>none:=rfl
@[simp] theorem kM:(rX a).ev ρ s=(a.ev ρ s).bind λx=>match x.1.1 with|.int j=>if -1000000<=j/\j<=1000000 then some (oX 0 j.toNat,x.2) else none|_=>none:=rfl
@[simp] theorem sV:(SI.HG a b).ev ρ s=(a.ev ρ s).bind λx=>(b.ev ρ x.2).bind λy=>match x.1.1,y.1.1 with|.int i,.int j=>if (-1000000<=i/\i<=1000000)/\-1000000<=j/\j<=1000000 then some (oX i (j-i).toNat,y.2) else none|_,_=>none:=rfl
@[simp] theorem uI:(SI.zip a b).ev ρ s=(a.ev ρ s).bind λx=>(b.ev ρ x.2).bind λy=>match x.1.1,y.1.1 with|.list ds,.list es=>some (dH ds es,y.2)|_,_=>none:=rfl
@[simp] theorem qo:(GX a).ev ρ s=(a.ev ρ s).bind λx=>match x.1.1 with|.list ds=>some (fO 0 ds,x.2)|_=>none:=rfl
@[simp] theorem zE {d:PyData}:(aQ i).ev d ρ=some (ρ.set i (.dat d)):=rfl
@[simp] theorem zH:cC.nil.ev [] ρ=some ρ:=rfl
@[simp] theorem wq {g:SG}{r:cC}{d:PyData}{ds:List PyData}:(cC.cons g r).ev (d::ds) ρ=(g.ev d ρ).bind λaB=>r.ev ds aB:=rfl
@[simp] theorem CG {g:cC}{ds:List PyData}:(SG.tup g).ev (.tuple ds) ρ=if ds.length=g.n then g.ev ds ρ else none:=rfl
@[simp] theorem CF:cC.nil.n=0:=rfl
@[simp] theorem zG {g:SG}{r:cC}:(cC.cons g r).n=r.n+1:=rfl
@[simp] theorem uK {it:SI}{g:SG}{tt:ST}{vs:List Nat}{hv:∀i∈g.ix,i∈vs}:(fB it g tt a vs hv).ev ρ s=(it.ev ρ s).bind λx=>(bQ g.ev tt.ev a.ev (aU ρ vs) x.1 x.2).bind λy=>if y.1.length<=100000 then some ((.list (y.1.map (·.1)),y.1.all dX),y.2) else none:=rfl
@[simp] theorem FG {it:SI}{g:SG}{tt:ST}{vs:List Nat}{hv:∀i∈g.ix,i∈vs}:(SB.lc it g tt a vs hv).ev ρ s=(it.ev ρ s).bind λx=>(bQ g.ev tt.ev a.ev (aU ρ vs) x.1 x.2).bind λy=>if y.1.length<=100000 then some ((y.1.map (·.1),y.1.all dX),y.2) else none:=rfl
@[simp] theorem Wt:(SB.own a).ev ρ s=(a.ev ρ s).bind λx=>match x.1 with|(.list ds,true)=>some ((ds,true),x.2)|_=>none:=rfl
@[simp] theorem vN:(SE.am i a).ev ρ s=match ρ[i]? with|some (.aO ds _)=>(a.ev (ρ.set i (.dat (.list ds))) s).bind λx=>if dX x.1=true then some x else none|_=>none:=rfl
@[simp] theorem lE {x:ST}:(P5 i x).ev ρ s=match ρ[i]? with|some (.aO ds _)=>x.ev (ρ.set i (.dat (.list ds))) s|_=>none:=rfl
@[simp] theorem O3 {n:Int}:(zD i n).ev ρ s=match ρ[i]? with|some .bC=>(rC s n).map λz=>((.int z,true),s)|_=>none:=rfl
@[simp] theorem uL:(SE.z_ i).ev ρ s=match ρ[i]? with|some (.aO ds _)=>some ((.int ds.length,true),s)|_=>none:=rfl
@[simp] theorem zW:(SE.LY i a).ev ρ s=match ρ[i]? with|some (.aO ds _)=>((a.ev ρ s).bind λx=>match x.1.1 with|.int k=>(atI ds k).map λd=>((d,false),x.2)|_=>none)|_=>none:=rfl
@[simp] theorem nq:(WQ i).ev ρ s=match ρ[i]? with|some (.aO ds _)=>if SeqAt.shaped (.list ds)=true then some ((.bool (!ds.isEmpty),true),s) else none|_=>none:=rfl
@[simp] theorem Gm:(SE.Zh i a).ev ρ s=match ρ[i]? with|some (.cT f)=>((a.ev ρ s).bind λy=>match keyOf y.1.1 with|some j=>(b8 f j).map λd=>((d,false),y.2)|none=>none)|_=>none:=rfl
@[simp] theorem pW:(WY i a b).ev ρ s=match ρ[i]? with|some (.cT f)=>((a.ev ρ s).bind λy=>match keyOf y.1.1 with|some j=>((b.ev ρ y.2).bind λz=>some (((b8 f j).getD z.1.1,false),z.2))|none=>none)|_=>none:=rfl
@[simp] theorem DC:(SE.ar a).ev ρ s=((SA.cons a .nil).ev ρ s).bind λx=>(AQ (x.1.map (·.1))).bind λz=>some (z,x.2):=rfl
@[simp] theorem Hr:(SE.ZZ a b).ev ρ s=(a.ev ρ s).bind λx=>(b.ev ρ x.2).bind λy=>(match x.1.1,y.1.1 with|.str x,.str y=>some (.bool (!decide (x=y)),true)|_,_=>none:Option Vl).bind λz=>some (z,y.2):=rfl
@[simp] theorem Gz:(SE.Zl a b).ev ρ s=(a.ev ρ s).bind λx=>(b.ev ρ x.2).bind λy=>(match x.1.1,y.1.1 with|.str x,.str y=>some (.bool (decide (x=y)),true)|_,_=>none:Option Vl).bind λz=>some (z,y.2):=rfl
@[simp] theorem HL:(SE.rev a).ev ρ s=(a.ev ρ s).bind λx=>match x.1.1 with|.list ds=>some ((.list ds.reverse,eR ds.reverse),x.2)|_=>none:=rfl
@[simp] theorem wG:(SE.isList a).ev ρ s=(a.ev ρ s).bind λx=>match x.1.1 with|.dict _=>none|d=>some ((.bool (VR d),true),x.2):=rfl
variable {x y:SS}
@[simp] theorem Dh:SS.ag.ev ρ s=some (.nx ρ s):=rfl
@[simp] theorem Ak:LH.ev ρ s=none:=rfl
@[simp] theorem v9:(SS.ab x y).ev ρ s=(x.ev ρ s).bind λo=>xn y.ev o:=rfl
@[simp] theorem DP {f:x9}:xn f (.nx ρ s)=f ρ s:=rfl
@[simp] theorem A3 {f:x9}{v:Vl}:xn f (.ret v s)=some (.ret v s):=rfl
@[simp] theorem AY {f:x9}:xn f (.brk ρ s)=some (.brk ρ s):=rfl
@[simp] theorem AZ {f:x9}:xn f (.cnt ρ s)=some (.cnt ρ s):=rfl
@[simp] theorem uo:(GY a).ev ρ s=(a.ev ρ s).bind λx=>some (.nx ρ x.2):=rfl
@[simp] theorem AU:(SS.ac a).ev ρ s=(a.ev ρ s).bind λx=>some (.ret x.1 x.2):=rfl
@[simp] theorem DE:SS.Xo.ev ρ s=some (.ret (.none,true) s):=rfl
@[simp] theorem zb {t:ST}:(dW t x y).ev ρ s=(t.ev ρ s).bind λz=>if z.1=true then x.ev ρ z.2 else y.ev ρ z.2:=rfl
@[simp] theorem HU:(SS.set i a).ev ρ s=(a.ev ρ s).bind λx=>some (.nx (ρ.set i (BC x.1)) x.2):=rfl
@[simp] theorem rA {e:SB}:(Jy i e).ev ρ s=(e.ev ρ s).bind λx=>some (.nx (ρ.set i (.aO x.1.1 x.1.2)) x.2):=rfl
@[simp] theorem tW {g:SG}:(sU g a).ev ρ s=(a.ev ρ s).bind λx=>(g.ev x.1.1 ρ).bind λaB=>some (.nx aB x.2):=rfl
@[simp] theorem AD {p:SP}{hp:p.ts=[i,j]}:(uz i j p hp).ev ρ s=(p.ev ρ ρ s).bind λx=>some (.nx x.1 x.2):=rfl
@[simp] theorem Dt {p:SP}{hp:p.ts=[i,j,k]}:(SS.Xk i j k p hp).ev ρ s=(p.ev ρ ρ s).bind λx=>some (.nx x.1 x.2):=rfl
@[simp] theorem Dy {cf:List Slot}:SP.nil.ev ρ cf s=some (cf,s):=rfl
@[simp] theorem AE {cf:List Slot}{r:SP}:(SP.cons i a r).ev ρ cf s=(a.ev ρ s).bind λx=>r.ev ρ (cf.set i (BC x.1)) x.2:=rfl
@[simp] theorem AH {cf:List Slot}{r:SP}:(Ju i r).ev ρ cf s=r.ev ρ (cf.set i (.aO [] true)) s:=rfl
@[simp] theorem AI {cf:List Slot}{r:SP}:(SP.Mm i r).ev ρ cf s=r.ev ρ (cf.set i (.cT [])) s:=rfl
@[simp] theorem Df:(SS.al i).ev ρ s=some (.nx (ρ.set i (.cT [])) s):=rfl
@[simp] theorem um:(SS.dput i a b).ev ρ s=(b.ev ρ s).bind λx=>match ρ[i]? with|some (.cT f)=>((a.ev ρ x.2).bind λy=>match keyOf y.1.1 with|some j=>if f.length<100000 then some (.nx (ρ.set i (.cT ((j,x.1.1)::f))) y.2) else none|none=>none)|_=>none:=rfl
@[simp] theorem yy {f:Int->Int->Int}:(SS.am i a f).ev ρ s=match ρ[i]? with
  |some (.dat (.int n))=>((a.ev ρ s).bind λx=>match x.1.1 with|.int b=>some (.nx (ρ.set i (.dat (.int (f n b)))) x.2)|_=>none)
  |some (.own (.int n))=>((a.ev ρ s).bind λx=>match x.1.1 with|.int b=>some (.nx (ρ.set i (.dat (.int (f n b)))) x.2)|_=>none)
  |_=>none:=rfl
@[simp] theorem U_:(EL i a).ev ρ s=match ρ[i]? with|some (.aO ds o)=>(a.ev ρ s).bind λx=>if ds.length<100000 then some (.nx (ρ.set i (.aO (ds++[x.1.1]) (o && dX x.1))) x.2) else none|_=>none:=rfl
@[simp] theorem v_:(SS.extend i a).ev ρ s=match ρ[i]? with|some (.aO ds o)=>((a.ev ρ s).bind λx=>match x.1.1 with|.list es=>if ds.length+es.length<=100000 then some (.nx (ρ.set i (.aO (ds++es) (o && eR es))) x.2) else none|_=>none)|_=>none:=rfl
@[simp] theorem yT:(SS.clear i).ev ρ s=match ρ[i]? with|some (.aO ds o)=>some (.nx (ρ.set i (.aO [] o)) s)|_=>none:=rfl
@[simp] theorem GI:(SS.frz i x).ev ρ s=match ρ[i]? with|some (.aO ds o)=>x.ev (ρ.set i (if o=true then .own (.list ds) else .dat (.list ds))) s|_=>none:=rfl
@[simp] theorem Gv {it:SI}{g:SG}:(lH it g x).ev ρ s=(it.ev ρ s).bind λz=>forL g.ev x.ev z.1 ρ z.2:=rfl
@[simp] theorem nO {n:Nat}{t:ST}:(CH n t x).ev ρ s=BD t.ev x.ev n ρ s:=rfl
@[simp] theorem Wa {n:Int}:(LQ i n a).ev ρ s=(a.ev ρ s).bind λx=>match x.1.1,ρ[i]? with|.int z,some .bC=>(lC x.2 z n).map λs'=>.nx ρ s'|_,_=>none:=rfl
@[simp] theorem uV {e:RE}:(BH e).ev ρ s=(e.ev ρ s).bind λx=>some (.ret x.1 x.2.2):=rfl
@[simp] theorem Mr:(RE.e a).ev ρ s=(a.ev ρ s).bind λx=>some (x.1,ρ,x.2):=rfl
@[simp] theorem E4:(RE.mv i).ev ρ s=match ρ[i]? with|some (.dat d)=>some ((d,false),ρ,s)|some (.own d)=>some ((d,true),ρ.set i (.dat d),s)|some (.aO ds o)=>some ((.list ds,o),ρ.set i (.dat (.list ds)),s)|_=>none:=rfl
@[simp] theorem AL:RA.nil.ev ρ s=some ([],ρ,s):=rfl
@[simp] theorem xh {e:RE}{r:RA}:(RA.cons e r).ev ρ s=(e.ev ρ s).bind λx=>(r.ev x.2.1 x.2.2).bind λy=>some (x.1::y.1,y.2.1,y.2.2):=rfl
@[simp] theorem DL {r:RA}:(RE.tup r).ev ρ s=(r.ev ρ s).bind λx=>if x.1.length<=100000 then some ((.tuple (x.1.map (·.1)),x.1.all dX),x.2.1,x.2.2) else none:=rfl
@[simp] theorem Wc {np nl:Nat}{args:List Slot}:fnOf np nl x args s=if args.length=np then match x.ev (args++Kah nl .emp) s with|some (.ret vl s')=>some (vl,s')|some (.nx _ s')=>some ((.none,true),s')|_=>none else none:=rfl
end
@[simp] theorem mV (ns:List Int):(ns.map PyData.int).all cO=true:=by simp [cO]
@[simp] theorem Tn:∀ns:List Int,eR (ns.map PyData.int)=true
 |[]=>rfl
 |n::ns=>by simp [eR,aH,Tn ns]
theorem any_ints (ns:List Int)(d:Int):((ns.map PyData.int).any λe=>PyData.eqv e (.int d))=decide (d∈ns):=by
 induction ns with
 |nil=>simp
 |cons n ns ih=>
  simp only [Kag,Kci,ih,PyData.eqv,Kal]
  by_cases h:n=d
  ·simp [h]
  ·have h':¬d=n:=λz=>h z.symm
   simp [h,h']
@[simp] theorem uG (ns:List Int)(d:Int):inF false (.int d) (.list (ns.map .int))=some (.bool (decide (d∈ns)),true):=by
 show (if cO (.int d)=true/\(ns.map PyData.int).all cO=true then some (PyData.bool ((ns.map PyData.int).any λe=>PyData.eqv e (.int d)),true) else none)=_
 rw [if_pos ⟨rfl,mV ns⟩,any_ints]
@[simp] theorem kW (ns:List Int)(d:Int):inF true (.int d) (.list (ns.map .int))=some (.bool (!decide (d∈ns)),true):=by
 show (if cO (.int d)=true/\(ns.map PyData.int).all cO=true then some (PyData.bool (!((ns.map PyData.int).any λe=>PyData.eqv e (.int d))),true) else none)=_
 rw [if_pos ⟨rfl,mV ns⟩,any_ints]
@[simp] theorem Cu (i j:Int):BB (.int i) (.int j)=some (decide (i=j)):=rfl
@[simp] theorem zf (i j:Bool):BB (.bool i) (.bool j)=some (i == j):=rfl
theorem UQ:∀(n:Nat) (lo:Int),oX lo n=(KaG n).map λ(k:Nat)=>PyData.int (lo+(k:Int))
 |0,_=>rfl
 |n+1,lo=>by
  rw [Kbi,Kag,KaE]
  show PyData.int lo::oX (lo+1) n=_
  rw [UQ n]
  refine KcV.mpr ⟨by simp,Kau λk _=>?_⟩
  show PyData.int (lo+1+(k:Int))=PyData.int (lo+((k+1:Nat):Int))
  congr 1
  omega
end Pu
set_option maxHeartbeats 1000000
namespace Pu
open PySem L2
/-- data of this depth and this many signs at most,ints short,no strings -/
structure Nd (k c:Nat)(d:PyData):Prop where
 lay:d.canLay0=true
 dep:d.depth<=k
 sm:small d=true
 co:cost d<=c
theorem Nd.mono {k c k' c':Nat}{d:PyData}(h:Nd k c d)(hk:k<=k')(hc:c<=c'):Nd k' c' d:=⟨h.lay,Kaw h.dep hk,h.sm,Kaw h.co hc⟩
theorem Nd.int {i:Int}(h0:-10 ^ 59<=i)(h1:i<=10 ^ 59):Nd 0 61 (.int i):=⟨rfl,Kap _,by simp only [small];exact decide_eq_true (by omega),Kap _⟩
theorem Nd.bool (b:Bool):Nd 0 61 (.bool b):=⟨rfl,Kap _,rfl,Kap _⟩
theorem Nd.Fx {k c:Nat}:∀{xs:List PyData},(∀x∈xs,Nd k c x)->PyData.canLayAll0 xs=true/\PyData.depthAll xs<=k/\Gn xs=true/\Ld xs<=xs.length*(c+2)
 |[],_=>⟨rfl,Ka2 _,rfl,Ka2 _⟩
 |x::xs,h=>by
  obtain⟨a1,a2,a3,a4⟩:=Nd.Fx λy hy=>h y (Kab _ hy)
  obtain⟨b1,b2,b3,b4⟩:=h x Kaa
  refine⟨by simp [PyData.canLayAll0,a1,b1],by simp only [PyData.depthAll];omega,by simp [Gn,a3,b3],?_⟩
  simp only [Ld,Kad,Nat.add_mul]
  omega
theorem Nd.list {k c n:Nat}{xs:List PyData}(h:∀x∈xs,Nd k c x)(hn:xs.length<=n):Nd (k+1) (n*(c+2)+3) (.list xs):=by
 obtain⟨a1,a2,a3,a4⟩:=Nd.Fx h
 have:=KbT (c+2) hn
 exact⟨by simpa [PyData.canLay0] using a1,by simp only [PyData.depth];omega,by simpa [small] using a3,by simp only [cost];omega⟩
theorem Nd.tuple {k c n:Nat}{xs:List PyData}(h:∀x∈xs,Nd k c x)(hn:xs.length<=n):Nd (k+1) (n*(c+2)+3) (.tuple xs):=by
 obtain⟨a1,a2,a3,a4⟩:=Nd.Fx h
 have:=KbT (c+2) hn
 exact⟨by simpa [PyData.canLay0] using a1,by simp only [PyData.depth];omega,by simpa [small] using a3,by simp only [cost];omega⟩
theorem Nd.ints {ns:List Int}{n:Nat}(h:∀x∈ns,-10 ^ 59<=x/\x<=10 ^ 59)(hn:ns.length<=n):Nd 1 (n*63+3) (.list (ns.map .int)):=Nd.list (λx hx=>by
 obtain⟨y,hy,rfl⟩:=Kav.mp hx
 exact Nd.int (h y hy).1 (h y hy).2) (by simpa using hn)
theorem Nd.map {α:Type}{f:α->PyData}{xs:List α}{k c n:Nat}(h:∀x∈xs,Nd k c (f x))(hn:xs.length<=n):Nd (k+1) (n*(c+2)+3) (.list (xs.map f)):=Nd.list (λy hy=>by
 obtain⟨x,hx,rfl⟩:=Kav.mp hy
 exact h x hx) (by simpa using hn)
theorem Nd.shaped {k c:Nat}{d:PyData}(h:Nd k c d)(hk:k<=60):SeqAt.shaped d=true:=by
 unfold SeqAt.shaped
 rw [h.lay,decide_eq_true (show d.depth<=64 by have:=h.dep;omega)];rfl
theorem Nd.repr {k c:Nat}{d:PyData}(h:Nd k c d)(hk:k<=60)(hc:c<=1000000):GO d=true:=by
 unfold GO
 rw [h.sm,decide_eq_true (show d.depth<=60 by have:=h.dep;omega),decide_eq_true (show cost d<=1000000 by have:=h.co;omega)];rfl
end Pu
namespace Pu
variable [aR]
open PySem PySem.Spec PyProof.Rows L2
def pS (ns:List Int)(r:Int):Int:=if r<(ns.length:Int) then (ns[r.toNat]?).getD 0 else 0
theorem Ce {ns:List Int}{r:Int}(r0:0<=r)(h:r<(ns.length:Int)):atI (ns.map V.int) r=some (.int (pS ns r)):=by
 have hl:r.toNat<ns.length:=by omega
 unfold atI ixN pS
 rw [if_pos r0,Kaf,if_pos h,if_pos h]
 simp [hl]
def yS:SE:=EV (ST.ab (qk (ai 1) (iB (ai 0)))) (cW (ai 0) (ai 1)) (SE.ab 0)
theorem sH {K:Frag}{H:Hp}{a:Addr}{ns:List Int}{r:Int}(hs:SqL K H a (ns.map V.int))(r0:0<=r){σ:L2.St}(h0:σ[0]? = some (some (.ref a)))(h1:σ[1]? = some (some (.int r))){Q:VK}(q:Q (.int (pS ns r)) H):yS.t K σ H Q:=by
 unfold yS EV ST.ab
 refine⟨.int r,h1,.ref a,h0,.ref a,ns.length,rfl,.inl ⟨_,hs,by simp⟩,r,(ns.length:Int),rfl,rfl,_,rfl,?_⟩
 show if decide (r<(ns.length:Int))=true then _ else _
 by_cases h:r<(ns.length:Int)
 ·rw [decide_eq_true h,if_pos rfl]
  exact⟨.ref a,h0,.int r,h1,.inl ⟨a,_,r,_,rfl,rfl,hs,Ce r0 h,q⟩⟩
 ·rw [decide_eq_false h,if_neg Ka6]
  have e:pS ns r=0:=by unfold pS;rw [if_neg h]
  rw [e] at q
  exact q
/-- what stays stays,and bJ tables are right -/
structure Kp (H H':Hp):Prop where
 at':∀b o,H b=some o->sq o->H' b=some o
 tab:pJ H'
theorem Bb {K:Frag}{H H':Hp}{a:Addr}{xs:List V}(h:SqL K H a xs)(k:∀b o,H b=some o->sq o->H' b=some o):SqL K H' a xs:=by
 rcases h with (z|⟨o,z⟩)|z
 ·exact .inl (.inl (k _ _ z (λps z=>by cases z)))
 ·exact .inl (.inr ⟨o,k _ _ z (λps z=>by cases z)⟩)
 ·exact .inr z
/-- bJ promise of a Z7 maker -/
def PL (K:Frag)(sf:List Int->Int->ae):Sp:=λvs H Q _=>∃(a:Addr) (ns:List Int) (r:Int),vs=[.ref a,.int r]/\SqL K H a (ns.map V.int)/\pJ H/\(0<=r/\r<=1000)/\∀(p:Addr) (H':Hp),H p=none->Kp H H'->H' p=some (.lst (jn (sf ns r)))->Q (.ref p) H'
theorem ints3 {F:Hp}{xs:List V}{as:List Addr}{x y z:Int}(h:ao F xs [.int x,.int y,.int z] as):xs=[.int x,.int y,.int z]:=by
 cases h with
 |cons h1 h=>cases h with
  |cons h2 h=>cases h with
   |cons h3 h=>
    cases h
    rw [h1.int_inv,h2.int_inv,h3.int_inv]
theorem Hw {P:Program}{w:World}{K:PySem.W.Frag}{mg:Str->Option Value}{base:Heap}{x:Str}{st:Stmt}{f:Addr}{fd:FuncData}{N ps:List Str}{k:Nat}{b2:SS}{sf:List Int->Int->ae}(F:cM K x st f fd)(S:FnScope N ps (defScope st))(hp:ps.length=2)(hN:N.length=3)
  (hev:∀(ns:List Int) (r:Int) (x0:Slot),0<=r->r<=1000->b2.ev [x0,.dat (.int r),.dat (.int (pS ns r))] (0,0,0)=some (.ret (.list [.int (sf ns r).1,.int (sf ns r).2.1,.int (sf ns r).2.2],true) (0,0,0)))
  (Gj:∀(cdv:Value) (A:Around) (outer:List Env) (s:Shared) (H:Hp) (E:XK),Room k (A.deeper (envOfC x (defScope st) s.heap.objs.size f cdv))->∃t,PSs (cxOf CX0 P w K mg base N x (defScope st) f cdv A outer s H E).nox (defBody st) t/\t=(SS.ab (SS.set 2 yS) b2).t K):
  FnOk P w K mg base CX0 (k+1) f fd ps (PL K sf):=
 F.ok S (λvs H Q E h=>by obtain⟨a,ns,r,rfl,_⟩:=h;rw [hp];rfl) λcdv A outer s H vs Q E hr h=>by
  obtain⟨t,ht,rfl⟩:=Gj cdv A outer s H E hr
  obtain⟨a,ns,r,rfl,hs,hT,⟨r0,r1⟩,q⟩:=h
  refine⟨_,PSs.nox ht,?_⟩
  have hst:L2.start N [.ref a,.int r]=[some (.ref a),some (.int r),none]:=by
   unfold L2.start
   rw [hN];rfl
  rw [hst]
  refine sH hs r0 rfl rfl ?_
  show b2.t K _ [some (.ref a),some (.int r),some (.int (pS ns r))] H
  have wd:Wd none (λ_=>none) H (λ_=>none) H [some (.ref a),some (.int r),some (.int (pS ns r))] [.emp,.dat (.int r),.dat (.int (pS ns r))] [[],[],[]] (0,0,0):=by
   refine⟨.refl (λb o e=>by cases e),⟨λb e=>(by cases e),hT⟩,.cons rfl (.cons ⟨rfl,_,[],rfl,.int _⟩ (.cons ⟨rfl,_,[],rfl,.int _⟩ .nil)),KaI,λb m=>by cases m⟩
  refine b2.ok K wd (hev ns r .emp r0 r1) λv F' H' as st k rr ff=>?_
  obtain⟨p,xs,cs,rfl,ha,hr',rfl⟩:=rr.aM
  have e:=ints3 hr'
  subst e
  exact q p H' ((ff rfl).2 p Kaa) ⟨λb o e hst=>st.fr b o (λz=>by cases z) e hst,k.tab.low⟩ (st.sub' _ _ ha)
def Wl (n:Int):SE:=CU (SE.ab 1) (SE.av (SE.ab n) (iB (ai 0)))
theorem qZ {K:Frag}{H:Hp}{a:Addr}{ns:List Int}{n:Int}(hs:SqL K H a (ns.map V.int)){σ:L2.St}(h0:σ[0]? = some (some (.ref a))){Q:VK}(q:∀j:Int,1<=j->j<=max 1 n->Q (.int j) H):(Wl n).t K σ H Q:=by
 unfold Wl
 refine⟨.ref a,h0,.ref a,ns.length,rfl,.inl ⟨_,hs,by simp⟩,n,ns.length,rfl,1,_,rfl,q _ ?_ ?_⟩
 ·split <;> omega
 ·split <;> split <;> omega
/-- bJ promise of a law -/
def u6 (K:Frag)(n:Nat):Sp:=λvs H Q _=>∃(a:Addr) (ns:List Int),vs=[.ref a]/\ns.length<=n/\SqL K H a (ns.map V.int)/\pJ H/\∀H',Q (.bl true) H'
def AX (K:Frag)(sf:List Int->Int->ae):TE:=tCall (PL K sf) [] E0 (tCons (tVar 0) (tCons (tVar 1) tNil))
end Pu
namespace Pu
variable [aR]
open PySem PySem.Spec PyProof.Rows L2
def WH (p p':Int->Int->Bool)(a b c:SE):SE where
 t:=λK=>tChain (rI0 λi j=>.bl (p i j)) (rI0 λi j=>.bl (p' i j)) (a.t K) (b.t K) (c.t K)
 ev:=λρ s=>(a.ev ρ s).bind λx=>(b.ev ρ x.2).bind λy=>match x.1.1,y.1.1 with
  |.int i,.int j=>if p i j=true then (c.ev ρ y.2).bind λz=>match z.1.1 with|.int k=>some ((.bool (p' j k),true),z.2)|_=>none else some ((.bool false,true),y.2)
  |_,_=>none
 ok:=by
  intro K sk F H σ ρ aj s vl s' Q pr h q
  obtain⟨⟨⟨x,fx⟩,s1⟩,h1,g1⟩:=aI h
  obtain⟨⟨⟨y,fy⟩,s2⟩,h2,g2⟩:=aI g1
  clear h g1
  dsimp only at g2
  refine a.ok K pr h1 λv F1 H1 as st1 k1 r1 f1=>?_
  refine b.ok K (pr.next st1 k1) h2 λw F2 H2 bs st2 k2 r2 f2=>?_
  split at g2
  ·rename_i i j
   rw [r1.int_inv,r2.int_inv]
   refine⟨i,j,rfl,rfl,p i j,rfl,?_⟩
   split at g2
   ·rename_i e
    rw [if_pos e]
    obtain⟨⟨⟨z,fz⟩,s3⟩,h3,g3⟩:=aI g2
    clear g2
    dsimp only at g3
    refine c.ok K ((pr.next st1 k1).next st2 k2) h3 λu F3 H3 cs st3 k3 r3 f3=>?_
    split at g3
    ·rename_i k
     cases g3
     rw [r3.int_inv]
     exact⟨j,k,rfl,rfl,q _ F3 H3 [] ((st1.trans st2).trans st3) k3 (.bl _) .nil⟩
    ·cases g3
   ·rename_i e
    rw [if_neg e]
    cases g2
    exact q _ F2 H2 [] (st1.trans st2) k2 (.bl _) .nil
  ·cases g2
def dO (hi:Int):Nat->List PyData
 |0=>[]
 |n+1=>.int hi::dO (hi-1) n
theorem mJ:∀(n:Nat) (hi:Int) (i:Nat),(dO hi n)[i]? = if i<n then some (.int (hi-i)) else none
 |0,hi,i=>by simp [dO]
 |n+1,hi,0=>by simp [dO]
 |n+1,hi,i+1=>by
  show (dO (hi-1) n)[i]? = _
  rw [mJ n]
  by_cases h:i<n
  ·rw [if_pos h,if_pos (by omega)]
   congr 2
   omega
  ·rw [if_neg h,if_neg (by omega)]
theorem mK:∀(n:Nat) (hi:Int),(dO hi n).length=n
 |0,_=>rfl
 |n+1,hi=>by show (dO (hi-1) n).length+1=n+1;rw [mK n]
theorem mL:∀(n:Nat) (hi:Int),dO hi n=(KaG n).map λ(k:Nat)=>PyData.int (hi-(k:Int))
 |0,_=>rfl
 |n+1,hi=>by
  rw [Kbi,Kag,KaE]
  show PyData.int hi::dO (hi-1) n=_
  rw [mL n]
  refine KcV.mpr ⟨by simp,Kau λk _=>?_⟩
  show PyData.int (hi-1-(k:Int))=PyData.int (hi-((k+1:Nat):Int))
  congr 1
  omega
theorem D6 {hi:Int}{n:Nat}{F:Hp}:Yl (Itc hi (-1) n) F (dO hi n):=λF2 H2 i s1 s2=>by
 refine⟨λd hd=>?_,λhl=>?_⟩
 ·rw [mJ] at hd
  split at hd
  ·rename_i h
   cases hd
   refine⟨h,λx H3 hy=>?_⟩
   obtain⟨rfl,rfl⟩:=hy
   refine⟨F2,[],.refl s2,?_⟩
   have e:hi+(i:Int)*(-1)=hi-i:=by omega
   rw [e]
   exact .int _
  ·cases hd
 ·rw [mK] at hl;exact hl
def SI.down (e e2:SE):SI where
 t:=λK=>iRng3 (tCons (e.t K) (tCons (e2.t K) (tCons ((SE.ag (SE.ab 1)).t K) tNil)))
 ev:=λρ s=>(e.ev ρ s).bind λx=>(e2.ev ρ x.2).bind λy=>match x.1.1,y.1.1 with
  |.int i,.int j=>if (-1000000<=i/\i<=1000000)/\-1000000<=j/\j<=1000000 then some (dO i (i-j).toNat,y.2) else none
  |_,_=>none
 ok:=by
  intro K sk F H σ ρ aj s ds s' R p h q
  obtain⟨⟨⟨x,fl⟩,s1⟩,h1,g1⟩:=aI h
  obtain⟨⟨⟨y,O5⟩,s2⟩,h2,g2⟩:=aI g1
  clear h g1
  dsimp only at g2
  split at g2
  ·rename_i i j
   split at g2
   ·rename_i hb
    cases g2
    refine e.ok K p h1 λv F1 H1 as st1 k1 r1 f1=>?_
    refine e2.ok K (p.next st1 k1) h2 λw F2 H2 bs st2 k2 r2 f2=>?_
    rw [r1.int_inv,r2.int_inv]
    exact⟨1,rfl,i,j,-1,_,rfl,RgC.neg (by omega) (by omega) (by omega) (by omega),q _ F2 H2 (st1.trans st2) k2 D6⟩
   ·cases g2
  ·cases g2
end Pu
namespace Pu
variable [aR]
open PySem PySem.Spec PyProof.Rows L2
section
variable {sk:Option Addr}{F H H':Hp}{σ:List (Option V)}{ρ:List Slot}{aj:List (List Addr)}
theorem Slots.dom (sub:Same F H)(h:Slots sk F H σ ρ aj):∀a∈aj.flatten,H a≠none:=by
 induction h with
 |nil=>intro a m;cases m
 |@cons x xs sl JH fp aj h r ih=>
  intro a m
  rw [Kar] at m
  rcases Kao.mp m with m|m
  ·have one:∀{v:V} {d:PyData} {as:List Addr},Rp F v d as->a∈as->H a≠none:=λr m=>by
    obtain⟨xs,hx⟩:=r.dom a m
    rw [sub _ _ hx];exact nofun
   cases sl with
   |emp=>rw [show fp=[] from h] at m;cases m
   |dat d=>rw [h.1] at m;cases m
   |own d=>obtain⟨v,_,hr⟩:=h;exact one hr m
   |aO ds o=>
    obtain⟨b,vs,as,_,h1,_,h3,rfl⟩:=h
    rcases Kal.mp m with z|z
    ·rw [z,h1];exact nofun
    ·split at z
     ·obtain⟨xs,hx⟩:=h3.dom a z
      rw [sub _ _ hx];exact nofun
     ·cases z
   |eV f=>
    obtain⟨b,ws,_,h1,_,_,_,rfl⟩:=h
    rcases Kal.mp m with z|z
    ·rw [z,h1];exact nofun
    ·cases z
   |iA es=>rw [h.1] at m;cases m
   |bE es=>
    obtain⟨b,ws,_,h1,_,_,rfl⟩:=h
    rcases Kal.mp m with z|z
    ·rw [z,h1];exact nofun
    ·cases z
   |cT f=>
    obtain⟨b,ws,_,h1,_,_,_,rfl⟩:=h
    rcases Kal.mp m with z|z
    ·rw [z,h1];exact nofun
    ·cases z
   |bC=>rw [h.1] at m;cases m
   |fix v=>rw [h.1] at m;cases m
   |fn f c q=>rw [h.1] at m;cases m
   |rR d=>
    obtain⟨v,_,hr,_⟩:=h
    obtain⟨xs,hx⟩:=hr.dom a m
    rw [Jq m] at hx
    rw [hx];exact nofun
   |ins C nm ds=>rw [h.1] at m;cases m
   |obj C b nm ds=>
    obtain⟨dx,vs,as,_,h1,_,h2,_,_,_,rfl⟩:=h
    simp only [Kal,Kbm,or_false] at m
    rcases m with z|z
    ·rw [z,h1];exact nofun
    ·rw [z,h2];exact nofun
   |qq B C nm ds=>rw [h.1] at m;cases m
   |qM B C b nm ds=>
    obtain⟨dx,vs,as,_,h1,_,h2,_,_,_,_,rfl⟩:=h
    simp only [Kal,Kbm,or_false] at m
    rcases m with z|z
    ·rw [z,h1];exact nofun
    ·rw [z,h2];exact nofun
   |Fc o ks ds f=>
    obtain⟨b,dx,ws,vs,as,rs,bs,_,_,h1,_,h2,_,_,_,_,_,rfl⟩:=h
    simp only [Kal,Kbm,or_false] at m
    rcases m with z|z
    ·rw [z,h1];exact nofun
    ·rw [z,h2];exact nofun
  ·exact ih a m
theorem Slots.Gf (e:∀a∈aj.flatten,H' a=H a)(h:Slots sk F H σ ρ aj):Slots sk F H' σ ρ aj:=by
 induction h with
 |nil=>exact .nil
 |@cons x xs sl JH fp aj h r ih=>
  rw [Kar] at e
  refine .cons ?_ (ih λa m=>e a (Kaq _ m))
  cases sl with
  |emp=>exact h
  |dat d=>exact h
  |own d=>exact h
  |aO ds o=>
   obtain⟨b,vs,as,h0,h1,h2,h3,rfl⟩:=h
   exact⟨b,vs,as,h0,by rw [e b (Kac _ Kaa)];exact h1,h2,h3,rfl⟩
  |eV f=>
   obtain⟨b,ws,h0,h1,h2,h3,h4,rfl⟩:=h
   exact⟨b,ws,h0,by rw [e b (Kac _ Kaa)];exact h1,h2,h3,h4,rfl⟩
  |iA es=>exact h
  |bE es=>
   obtain⟨b,ws,h0,h1,h2,h3,rfl⟩:=h
   exact⟨b,ws,h0,by rw [e b (Kac _ Kaa)];exact h1,h2,h3,rfl⟩
  |cT f=>
   obtain⟨b,ws,h0,h1,h2,h3,h4,rfl⟩:=h
   exact⟨b,ws,h0,by rw [e b (Kac _ Kaa)];exact h1,h2,h3,h4,rfl⟩
  |bC=>exact h
  |fix v=>exact h
  |fn f c q=>exact h
  |rR d=>
   obtain⟨v,e1,r,e2⟩:=h
   exact⟨v,e1,r.mono (Pf (Same.refl _) λb m o z=>by rw [e b (Kac _ m)];exact z),e2⟩
  |ins C nm ds=>exact h
  |obj C b nm ds=>
   obtain⟨dx,vs,as,h0,h1,h2,h3,h4,h5,h6,rfl⟩:=h
   exact⟨dx,vs,as,h0,by rw [e b (Kac _ Kaa)];exact h1,h2,by rw [e dx (Kac _ (Kab _ Kaa))];exact h3,h4,h5,h6,rfl⟩
  |qq B C nm ds=>exact h
  |qM B C b nm ds=>
   obtain⟨dx,vs,as,h0,h1,h2,h3,h4,h5,h6,hB,rfl⟩:=h
   exact⟨dx,vs,as,h0,by rw [e b (Kac _ Kaa)];exact h1,h2,by rw [e dx (Kac _ (Kab _ Kaa))];exact h3,h4,h5,h6,hB,rfl⟩
  |Fc o ks ds f=>
   obtain⟨b,dx,ws,vs,as,rs,bs,h0,ho,h1,h2,h3,h4,h5,h6,h7,h8,rfl⟩:=h
   exact⟨b,dx,ws,vs,as,rs,bs,h0,ho,by rw [e b (Kac _ Kaa)];exact h1,h2,by rw [e dx (Kac _ (Kab _ Kaa))];exact h3,h4,h5,h6,h7,h8,rfl⟩
end
/-- bJ heap without D -/
def less (H:Hp)(D:Addr):Hp:=λa=>if a=D then none else H a
theorem Ws {H:Hp}{D a:Addr}(h:a≠D):less H D a=H a:=if_neg h
theorem wM {H:Hp}{D:Addr}:less H D D=none:=if_pos rfl
theorem Vo {H:Hp}{D a:Addr}{o:HO}(h:less H D a=some o):a≠D/\H a=some o:=by
 by_cases e:a=D
 ·rw [e,wM] at h;cases h
 ·exact⟨e,by rw [Ws e] at h;exact h⟩
def yZ (g:PyData->List Slot->Option (List Slot))(tt:List Slot->ae->Option (Bool×ae))(it1:List Slot->ae->Option (List PyData×ae))(g1:PyData->List Slot->Option (List Slot))(tt1:List Slot->ae->Option (Bool×ae))(e:D8)(vs1:List Nat)(ρ:List Slot):List PyData->ae->Option (List Vl×ae)
 |[],s=>some ([],s)
 |d::ds,s=>(g d ρ).bind λaB=>(tt aB s).bind λb=>if b.1=true then (it1 aB b.2).bind λx=>(bQ g1 tt1 e (aU aB vs1) x.1 x.2).bind λy=>(yZ g tt it1 g1 tt1 e vs1 ρ ds y.2).bind λz=>some (y.1++z.1,z.2) else yZ g tt it1 g1 tt1 e vs1 ρ ds b.2
theorem Step.put {sk:Option Addr}{F H F' H':Hp}{D:Addr}{o:HO}(st:Step sk F (less H D) F' H')(hF:F' D=none):Step sk F (less H D) F' (upd H' D o):=by
 refine⟨st.sub,λa u e=>?_,λa u h e hst=>?_,λa h=>?_,st.new⟩
 ·rw [upd_ne (λz=>by rw [z,hF] at e;cases e)];exact st.sub' a u e
 ·rw [upd_ne (Vo e).1];exact st.fr a u h e
 ·by_cases z:a=D
  ·rw [z,upd_same];exact nofun
  ·rw [upd_ne z];exact st.dm a h
/-- bJ inner turns -/
theorem z4 {it1:SI}{g1:SG}{tt1:ST}{e:SE}{vs1:List Nat}(hv:∀i∈g1.ix,i∈vs1)(K:Frag){sk:Option Addr}{F1 H1 F3 H3 F4 H4:Hp}{D:Addr}{σ2:L2.St}{aB:List Slot}{aj:List (List Addr)}{s4 s5 s6:ae}{done D7:List Vl}{ws:List V}{as:List Addr}{rW:List PyData}{Nx:Hp->Prop}(nD:H1 D=none)(cU:sk≠some D)
  (sl:Slots sk F3 (less H3 D) σ2 aB aj) (jW:∀a,sk=some a->a∉aj.flatten) (dj:aj.flatten.Nodup) (MH:Same F3 (less H3 D)) (st:Step sk F3 (less H3 D) F4 H4) (L:mq sk F1 H1 D done F4 H4 s4 ws as) (h1:it1.ev aB s4=some (rW,s5)) (h2:bQ g1.ev tt1.ev e.ev (aU aB vs1) rW s5=some (D7,s6)) (hlen:done.length+D7.length<=100000)
  (q:∀F H vs as,mq sk F1 H1 D (done++D7) F H s6 vs as->Nx H):
  it1.t K σ2 H4 λJ1 H4=>∃W1:Nat->Nat->Hp->Prop,(∃m,W1 0 m H4)/\∀j k H,W1 j k H ->
   (J1.stop j H/\Nx H)∨(J1.go j H/\∃Nx1:Hp->Prop,(∀H',Nx1 H'->∃k',k'<k/\W1 (j+1) k' H')/\∀x H',J1.yld j H x H'->g1.t K x (wipe σ2 vs1) H' λσ3 H5=>wipe σ3 vs1=wipe σ2 vs1/\tt1.t K σ3 H5 λb H6=>
    if b=true then e.t K σ3 H6 λy H7=>∃acc,H7 D=some (.lst acc)/\acc.length<sizeLine/\Nx1 (upd H7 D (.lst (acc++[y]))) else Nx1 H6):=by
 have Xn:Pre sk F4 H4 σ2 aB aj s4:=⟨L.sub',L.aW,sl.step st jW,jW,dj⟩
 refine it1.ok K Xn h1 λJ1 F5 H5 st5 k5 yl=>?_
 have L5:=L.step cU st5 k5
 refine⟨λj k H=>∃F6 sj dn rest MR JS,k=(rW.drop j).length/\j<=rW.length/\Same F5 F6/\Step sk F3 (less H3 D) F6 H/\mq sk F1 H1 D (done++dn) F6 H sj MR JS/\bQ g1.ev tt1.ev e.ev (aU aB vs1) (rW.drop j) sj=some (rest,s6)/\dn++rest=D7,
  ⟨rW.length,F5,s5,[],D7,ws,as,by simp,Ka2 _,Same.refl _,st.trans st5,by rw [KaC];exact L5,by simpa using h2,rfl⟩,λj k H hW=>?_⟩
 obtain⟨F6,sj,dn,rest,MR,JS,ek,hj,sF,stJ,L6,hc,hys⟩:=hW
 by_cases hlt:j<rW.length
 ·have ed:rW.drop j=rW[j]::rW.drop (j+1):=Kbd hlt
  have eg:rW[j]? = some rW[j]:=Kax hlt
  rw [ed] at hc ek
  obtain⟨go,yld⟩:=(yl F6 H j sF L6.sub').1 _ eg
  unfold bQ at hc
  obtain⟨cI,c1,hc⟩:=aI hc
  obtain⟨⟨b,sb⟩,c2,hc⟩:=aI hc
  dsimp only at hc
  refine .inr ⟨go,λH'=>∃F7 oR N9 rest' Xx MY,Same F5 F7/\Step sk F3 (less H3 D) F7 H'/\mq sk F1 H1 D (done++N9) F7 H' oR Xx MY/\bQ g1.ev tt1.ev e.ev (aU aB vs1) (rW.drop (j+1)) oR=some (rest',s6)/\N9++rest'=D7,λH' hN=>?_,λx H' hy=>?_⟩
  ·obtain⟨F7,oR,N9,rest',Xx,MY,a1,a2,a3,a4,a5⟩:=hN
   exact⟨(rW.drop (j+1)).length,by rw [ek];exact Kbk _,F7,oR,N9,rest',Xx,MY,rfl,hlt,a1,a2,a3,a4,a5⟩
  ·obtain⟨F7,MY,sa,r7⟩:=yld x H' hy
   have L7:=L6.step cU sa.any (L6.aW.keep sa)
   have st7:=stJ.trans sa.any
   have Z9:=sl.step st7 jW
   obtain⟨fw,HW,mw⟩:=Z9.wipe vs1
   refine g1.ok K L7.sub' r7 HW c1 λσ' aF sl' m' u' w'=>⟨?_,?_⟩
   ·rw [w' vs1 hv,eqs]
   ·have P7:Pre sk F7 H' σ' cI aF sj:=⟨L7.sub',L7.aW,sl',λa ha ma=>jW a ha (mw.mem (m' a ma)),dj.sublist (u'.trans mw)⟩
    refine tt1.ok K P7 c2 λF8 H8 JK k8=>?_
    have L8:=L7.step cU JK k8
    split at hc
    ·rename_i eb
     rw [if_pos eb]
     obtain⟨⟨y,sy⟩,c3,hc⟩:=aI hc
     obtain⟨⟨z,sz⟩,c4,hc⟩:=aI hc
     cases hc
     refine e.ok K (P7.next JK k8) c3 λv F9 H9 as9 MF k9 r9 f9=>?_
     have L9:=L8.put cU nD MF k9 r9 f9
     refine⟨MR,MF.fr D _ cU L8.hD,?_,F9,sy,dn++[y],z,_,_,((sF.trans sa.sub).trans JK.sub).trans MF.sub,((st7.trans JK).trans MF).put (L8.step cU MF k9).fD,by rw [<-KaV];exact L9,c4,?_⟩
     ·have:=L6.r.len
      rw [Kaf] at this
      rw [this]
      have e2:dn.length+(z.length+1)=D7.length:=by rw [<-hys];simp
      exact Ka7 (show (done++dn).length<100000 by rw [Kan];omega) (by decide)
     ·rw [<-hys];simp
    ·rename_i eb
     rw [if_neg eb]
     exact⟨F8,sb,dn,rest,MR,JS,(sF.trans sa.sub).trans JK.sub,st7.trans JK,L8,hc,hys⟩
 ·have e1:j=rW.length:=by omega
  subst e1
  rw [Kbl] at hc
  unfold bQ at hc
  cases hc
  rw [KaC] at hys
  subst hys
  exact .inl ⟨(yl F6 H _ sF L6.sub').2 (Kap _),q F6 H MR JS L6⟩
theorem wL {it:SI}{g:SG}{tt:ST}{it1:SI}{g1:SG}{tt1:ST}{e:SE}{vs vs1:List Nat}(hv:∀i∈g.ix,i∈vs)(hv1:∀i∈g1.ix,i∈vs1)(K:Frag){sk:Option Addr}{F H:Hp}{σ:L2.St}{ρ:List Slot}{aj:List (List Addr)}{s s1 s':ae}{ds:List PyData}{ys:List Vl}{Q:VK}(p:Pre sk F H σ ρ aj s)(h1:it.ev ρ s=some (ds,s1))(h2:yZ g.ev tt.ev it1.ev g1.ev tt1.ev e.ev vs1 (aU ρ vs) ds s1=some (ys,s'))(hlen:ys.length<=100000)
  (q:∀F1 H1 D F2 H2 ws as,Step sk F H F1 H1->aZ sk F1 H1 s1->H1 D=none->sk≠some D->mq sk F1 H1 D ys F2 H2 s' ws as->Q (.ref D) H2):tLc2 (it.t K) (g.t K) (tt.t K) (it1.t K) (g1.t K) (tt1.t K) (e.t K) vs vs1 σ H Q:=by
 refine it.ok K p h1 λJ F1 H1 st1 k1 yl D nD=>?_
 have P1:=p.next st1 k1
 have cU:sk≠some D:=gb k1 nD
 refine⟨λi m H2=>∃F2 si done rest BN as2,m=(ds.drop i).length/\i<=ds.length/\mq sk F1 H1 D done F2 H2 si BN as2/\yZ g.ev tt.ev it1.ev g1.ev tt1.ev e.ev vs1 (aU ρ vs) (ds.drop i) si=some (rest,s')/\done++rest=ys,
  ⟨ds.length,F1,s1,[],ys,[],[],by simp,Ka2 _,.start st1.sub' k1 nD,by simpa using h2,rfl⟩,λi m H2 hW=>?_⟩
 obtain⟨F2,si,done,rest,BN,as2,em,hi,L,hc,hys⟩:=hW
 by_cases hlt:i<ds.length
 ·have ed:ds.drop i=ds[i]::ds.drop (i+1):=Kbd hlt
  have eg:ds[i]? = some ds[i]:=Kax hlt
  rw [ed] at hc em
  obtain⟨go,yld⟩:=(yl F2 H2 i L.sub L.sub').1 _ eg
  unfold yZ at hc
  obtain⟨aB,c1,hc⟩:=aI hc
  obtain⟨⟨b,sb⟩,c2,hc⟩:=aI hc
  dsimp only at hc
  refine .inr ⟨go,λH'=>∃F3 oR done' rest' Ie xK,mq sk F1 H1 D done' F3 H' oR Ie xK/\yZ g.ev tt.ev it1.ev g1.ev tt1.ev e.ev vs1 (aU ρ vs) (ds.drop (i+1)) oR=some (rest',s')/\done'++rest'=ys,λH' hN=>?_,λx H3 hy=>?_⟩
  ·obtain⟨F3,oR,done',rest',Ie,xK,L3,c3,e3⟩:=hN
   exact⟨(ds.drop (i+1)).length,by rw [em];exact Kbk _,F3,oR,done',rest',Ie,xK,rfl,hlt,L3,c3,e3⟩
  ·obtain⟨F3,xK,sa,r3⟩:=yld x H3 hy
   have L3:=L.step cU sa.any (L.aW.keep sa)
   have JG:Slots sk F1 H1 σ ρ aj:=P1.slots
   have stp:Step sk F1 H1 F3 H3:=⟨L3.sub,L3.sub',λa o x y z=>L3.fr a o x y z,L3.dm,L3.new⟩
   have E9:=JG.step stp P1.jW
   obtain⟨fw,HW,mw⟩:=E9.wipe vs
   refine g.ok K L3.sub' r3 HW c1 λσ' aF sl' m' u' w'=>⟨?_,?_⟩
   ·rw [w' vs hv,eqs]
   ·have MD:∀a,sk=some a->a∉aF.flatten:=λa ha ma=>P1.jW a ha (mw.mem (m' a ma))
    have Mp:aF.flatten.Nodup:=P1.dj.sublist (u'.trans mw)
    have P3:Pre sk F3 H3 σ' aB aF si:=⟨L3.sub',L3.aW,sl',MD,Mp⟩
    refine tt.ok K P3 c2 λF4 H4 rG k4=>?_
    have L4:=L3.step cU rG k4
    split at hc
    ·rename_i eb
     rw [if_pos eb]
     obtain⟨⟨rW,s5⟩,c3,hc⟩:=aI hc
     obtain⟨⟨D7,s6⟩,c4,hc⟩:=aI hc
     obtain⟨⟨z,sz⟩,c5,hc⟩:=aI hc
     cases hc
     have hD:∀a∈aF.flatten,less H3 D a=H3 a:=λa ma=>Ws λz=>by
      subst z
      exact (JG.dom P1.sub) a (mw.mem (m' a ma)) nD
     have MH:Same F3 (less H3 D):=λa o ea=>by
      rw [Ws (λz=>by rw [z,L3.fD] at ea;cases ea)];exact L3.sub' a o ea
     have Xr:Step sk F3 (less H3 D) F4 H4:=⟨rG.sub,rG.sub',λa o h ea hst=>rG.fr a o h (Vo ea).2 hst,λa h=>by
      cases qa:less H3 D a with
      |none=>exact absurd qa h
      |some o=>exact rG.dm a (by rw [(Vo qa).2];exact nofun),λa o ea=>by
      rcases rG.new a o ea with z|z
      ·exact .inl z
      ·refine .inr ?_
       unfold less
       split
       ·rfl
       ·exact z⟩
     refine z4 hv1 K nD cU (sl'.Gf hD) MD Mp MH Xr L4 c3 c4 ?_ λF5 H5 vs5 QM L5=>⟨F5,_,_,z,vs5,QM,L5,c5,?_⟩
     ·have:done.length+(D7.length+z.length)=ys.length:=by rw [<-hys];simp
      omega
     ·rw [<-hys,KaV]
    ·rename_i eb
     rw [if_neg eb]
     exact⟨F4,sb,done,rest,BN,as2,L4,hc,hys⟩
 ·have e1:i=ds.length:=by omega
  subst e1
  rw [Kbl] at hc
  unfold yZ at hc
  cases hc
  rw [KaC] at hys
  subst hys
  exact .inl ⟨(yl F2 H2 _ L.sub L.sub').2 (Kap _),q F1 H1 D F2 H2 BN as2 st1 k1 nD cU L⟩
def SE.W2 (it:SI)(g:SG)(tt:ST)(it1:SI)(g1:SG)(tt1:ST)(e:SE)(vs vs1:List Nat)(hv:∀i∈g.ix,i∈vs)(hv1:∀i∈g1.ix,i∈vs1):SE where
 t:=λK=>tLc2 (it.t K) (g.t K) (tt.t K) (it1.t K) (g1.t K) (tt1.t K) (e.t K) vs vs1
 ev:=λρ s=>(it.ev ρ s).bind λx=>(yZ g.ev tt.ev it1.ev g1.ev tt1.ev e.ev vs1 (aU ρ vs) x.1 x.2).bind λy=>if y.1.length<=100000 then some ((.list (y.1.map (·.1)),y.1.all dX),y.2) else none
 ok:=by
  intro K sk F H σ ρ aj s vl s' Q p h q
  obtain⟨⟨ds,s1⟩,h1,g1⟩:=aI h
  obtain⟨⟨ys,s2⟩,h2,g2⟩:=aI g1
  clear h g1
  dsimp only at g2 h2
  split at g2
  case isFalse=>cases g2
  rename_i hlen
  cases g2
  refine wL hv hv1 K p h1 h2 hlen λF1 H1 D F2 H2 ws as st1 k1 nD cU L=>?_
  obtain⟨d1,d2,d3,d4⟩:=L.done cU nD
  exact q _ _ _ _ (st1.trans d1) d2 d3 (d4.back st1.dm)
section
variable {X:Cx}{elt tg iter tg1 iter1:Expr}{ifs ifs1:List Expr}{scope:Scope}{pos:Pos}{wi:TI}
theorem Du (gS:SG)(tS:ST)(iS:SI)(XR:SG)(Yn:ST)(eS:SE)(own:List (Str×Nat))(vs1:List Nat)(hc:X.calm=true)(hN:X.N.Nodup)(hi:PI X tg iter wi)(ok:BlkOk X.N X.env.scope scope own)(hv:∀i∈vs1,i∈own.map (·.2))
  (hg:∀(s:Shared) (H:Hp) (C:Addr) (cl:List (Str×Addr)) (fp:List Addr),∃g,PG (X.blk s H scope (compEnvC scope cl C X.env) fp) tg g/\g=gS.t X.K)
  (ht:∀(s:Shared) (H:Hp) (C:Addr) (cl:List (Str×Addr)) (fp:List Addr),∃tt,PTs (X.blk s H scope (compEnvC scope cl C X.env) fp) ifs tt/\tt=tS.t X.K)
  (hi1:∀(s:Shared) (H:Hp) (C:Addr) (cl:List (Str×Addr)) (fp:List Addr),∃ti,PI (X.blk s H scope (compEnvC scope cl C X.env) fp) tg1 iter1 ti/\ti=iS.t X.K)
  (hg1:∀(s:Shared) (H:Hp) (C:Addr) (cl:List (Str×Addr)) (fp:List Addr),∃g,PG (X.blk s H scope (compEnvC scope cl C X.env) fp) tg1 g/\g=XR.t X.K)
  (ht1:∀(s:Shared) (H:Hp) (C:Addr) (cl:List (Str×Addr)) (fp:List Addr),∃tt,PTs (X.blk s H scope (compEnvC scope cl C X.env) fp) ifs1 tt/\tt=Yn.t X.K)
  (he:∀(s:Shared) (H:Hp) (C:Addr) (cl:List (Str×Addr)) (fp:List Addr),∃te,PE (X.blk s H scope (compEnvC scope cl C X.env) fp) elt te/\te=eS.t X.K) (hs:∀x,foldedSetIterable iter X.env x=pure x:=by intro _;rfl) (hs1:∀env x,foldedSetIterable iter1 env x=pure x:=by intro _ _;rfl):
  PE X (.ListComp elt [⟨tg,iter,ifs,0⟩,⟨tg1,iter1,ifs1,0⟩] scope pos) (tLc2 wi (gS.t X.K) (tS.t X.K) (iS.t X.K) (XR.t X.K) (Yn.t X.K) (eS.t X.K) (own.map (·.2)) vs1):=
 pe_lc2 hc hN hi ok hv (λa b c d e=>by obtain⟨_,h,rfl⟩:=hg a b c d e;exact h) (λa b c d e=>by obtain⟨_,h,rfl⟩:=ht a b c d e;exact h) (λa b c d e=>by obtain⟨_,h,rfl⟩:=hi1 a b c d e;exact h) (λa b c d e=>by obtain⟨_,h,rfl⟩:=hg1 a b c d e;exact h) (λa b c d e=>by obtain⟨_,h,rfl⟩:=ht1 a b c d e;exact h) (λa b c d e=>by obtain⟨_,h,rfl⟩:=he a b c d e;exact h) hs hs1
end
end Pu
namespace Pu
variable [aR]
open PySem PySem.Spec PyProof.Rows L2
theorem q_ {F:Hp}:∀{x:Option V} {d:Option PyData},cS F x d->x.isSome=d.isSome
 |none,none,_=>rfl
 |some _,some _,_=>rfl
 |some _,none,h=>h.elim
 |none,some _,h=>h.elim
def Jv (i:Nat)(k:SE):SE where
 t:=λK=>tDIn (k.t K) (tVar i)
 ev:=λρ s=>match ρ[i]? with
  |some (.cT f)=>(k.ev ρ s).bind λy=>match keyOf y.1.1 with
   |some j=>some ((.bool (b8 f j).isSome,true),y.2)
   |none=>none
  |_=>none
 ok:=by
  intro K sk F H σ ρ aj s vl s' Q p h q
  dsimp only at h
  split at h
  ·rename_i f cF
   obtain⟨⟨⟨y,fl⟩,s2⟩,h3,h4⟩:=aI h
   dsimp only at h4
   split at h4
   ·rename_i j ej
    cases h4
    obtain⟨xv,fp,e1,e2,a,ws,rfl,hH,hF,BI,hr,rfl⟩:=p.slots.get cF
    refine k.ok K p h3 λkv F2 H2 bs st2 k2 r2 f2=>?_
    have fa:a∈aj.flatten:=KaB.mpr ⟨_,Kat e2,Kaa⟩
    have m7:H2 a=some (.dK ws):=st2.fr a _ (λz=>p.jW a z fa) hH
    have hkv:=r2.key ej
    subst hkv
    refine⟨.ref a,e1,a,valV ws j,rfl,DGet.k (k:=j) m7,?_⟩
    rw [q_ (hr j)]
    exact q _ F2 H2 [] st2 k2 (.bl _) .nil
   ·cases h4
  ·cases h
def cN (g:PyData->List Slot->Option (List Slot))(tt:List Slot->ae->Option (Bool×ae))(ek ev:D8)(ρ:List Slot):List PyData->List (Key×PyData)->ae->Option (List (Key×PyData)×ae)
 |[],f,s=>some (f,s)
 |d::ds,f,s=>(g d ρ).bind λaB=>(tt aB s).bind λb=>if b.1=true then (ek aB b.2).bind λx=>(ev aB x.2).bind λy=>match keyOf x.1.1 with
  |some j=>cN g tt ek ev ρ ds ((j,y.1.1)::f) y.2
  |none=>none
  else cN g tt ek ev ρ ds f b.2
theorem U' {g:PyData->List Slot->Option (List Slot)}{tt:List Slot->ae->Option (Bool×ae)}{ek ev:D8}{ρ:List Slot}:∀{ds:List PyData} {f f':List (Key×PyData)} {s s':ae},cN g tt ek ev ρ ds f s=some (f',s')->f.length<=f'.length
 |[],f,f',s,s',h=>by unfold cN at h;cases h;exact Kap _
 |d::ds,f,f',s,s',h=>by
  unfold cN at h
  obtain⟨aB,c1,h⟩:=aI h
  obtain⟨⟨b,sb⟩,c2,h⟩:=aI h
  dsimp only at h
  split at h
  ·obtain⟨x,c3,h⟩:=aI h
   obtain⟨y,c4,h⟩:=aI h
   split at h
   ·have:=U' h
    simp only [Kad] at this
    omega
   ·cases h
  ·exact U' h
structure Bm (sk:Option Addr)(F1 H1:Hp)(D:Addr)(f:List (Key×PyData))(F H:Hp)(s:ae)(ws:List (Key×V)):Prop where
 st:Step sk F1 (less H1 D) F H
 aW:aZ sk F H s
 hD:H D=some (.dK ws)
 fD:F D=none
 len:ws.length<=f.length
 rel:∀k:Key,cS F (valV ws k) (b8 f k)
theorem Bm.step {sk:Option Addr}{F1 H1:Hp}{D:Addr}{f:List (Key×PyData)}{F H F' H':Hp}{s s':ae}{ws:List (Key×V)}(L:Bm sk F1 H1 D f F H s ws)(nD:sk≠some D)(st:Step sk F H F' H')(k:aZ sk F' H' s'):Bm sk F1 H1 D f F' H' s' ws:=by
 refine⟨L.st.trans st,k,st.fr D _ nD L.hD,?_,L.len,λj=>(L.rel j).mono st.sub⟩
 cases q:F' D with
 |none=>rfl
 |some u=>
  rcases st.new D u q with z|z
  ·rw [L.fD] at z;cases z
  ·rw [L.hD] at z;cases z
theorem Bm.put {sk:Option Addr}{F1 H1:Hp}{D:Addr}{f:List (Key×PyData)}{F H:Hp}{s:ae}{ws:List (Key×V)}{j:Key}{v:V}{d:PyData}{as:List Addr}(L:Bm sk F1 H1 D f F H s ws)(nD:sk≠some D)(r:Rp F v d as):Bm sk F1 H1 D ((j,d)::f) F (upd H D (.dK (putK ws j v))) s (putK ws j v):=by
 refine⟨L.st.put L.fD,⟨λa e=>?_,Gq L.aW.tab L.hD (Vh trivial)⟩,upd_same,L.fD,?_,cS.put L.rel r⟩
 ·obtain⟨h1,h2⟩:=L.aW a e
  exact⟨by rw [upd_ne (λz=>nD (by rw [<-z];exact e))];exact h1,h2⟩
 ·have:=qW ws j v
  have:=L.len
  simp only [Kad]
  omega
theorem yW {it:SI}{g:SG}{tt:ST}{ek e:SE}{vs:List Nat}(hv:∀i∈g.ix,i∈vs)(K:Frag){sk:Option Addr}{F H:Hp}{σ:L2.St}{ρ:List Slot}{aj:List (List Addr)}{s s1 s':ae}{ds:List PyData}{f:List (Key×PyData)}{Q:VK}(p:Pre sk F H σ ρ aj s)(h1:it.ev ρ s=some (ds,s1))(h2:cN g.ev tt.ev ek.ev e.ev (aU ρ vs) ds [] s1=some (f,s'))(hlen:f.length<=100000)
  (q:∀F1 H1 D F2 H2 ws,Step sk F H F1 H1->H1 D=none->sk≠some D->Bm sk F1 H1 D f F2 H2 s' ws->Q (.ref D) H2):tDc (it.t K) (g.t K) (tt.t K) (ek.t K) (e.t K) vs σ H Q:=by
 refine it.ok K p h1 λJ F1 H1 st1 k1 yl D nD=>?_
 have P1:=p.next st1 k1
 have cU:sk≠some D:=gb k1 nD
 have ur:less H1 D=H1:=by
  funext a
  unfold less
  split
  ·rename_i z;rw [z,nD]
  ·rfl
 have start:Bm sk F1 H1 D [] F1 (upd H1 D (.dK [])) s1 []:=by
  have fD:F1 D=none:=P1.sub.free nD
  have st0:Step sk F1 (less H1 D) F1 H1:=by rw [ur];exact .refl P1.sub
  refine⟨st0.put fD,⟨λa ea=>?_,Vi k1.tab nD⟩,upd_same,fD,Kap _,λk=>True.intro⟩
  obtain⟨z1,z2⟩:=k1 a ea
  exact⟨by rw [upd_ne (ne_of_none z1 nD)];exact z1,z2⟩
 refine⟨λi m H2=>∃F2 si fi ws,m=(ds.drop i).length/\i<=ds.length/\Same F1 F2/\Bm sk F1 H1 D fi F2 H2 si ws/\cN g.ev tt.ev ek.ev e.ev (aU ρ vs) (ds.drop i) fi si=some (f,s'),
  ⟨ds.length,F1,s1,[],[],by simp,Ka2 _,Same.refl _,start,by simpa using h2⟩,λi m H2 hW=>?_⟩
 obtain⟨F2,si,fi,ws,em,hi,sF,L,hc⟩:=hW
 by_cases hlt:i<ds.length
 ·have ed:ds.drop i=ds[i]::ds.drop (i+1):=Kbd hlt
  have eg:ds[i]? = some ds[i]:=Kax hlt
  have hfl:=U' hc
  rw [ed] at hc em
  obtain⟨go,yld⟩:=(yl F2 H2 i sF L.st.sub').1 _ eg
  unfold cN at hc
  obtain⟨aB,c1,hc⟩:=aI hc
  obtain⟨⟨b,sb⟩,c2,hc⟩:=aI hc
  dsimp only at hc
  refine .inr ⟨go,λH'=>∃F3 oR OY gu,Same F1 F3/\Bm sk F1 H1 D OY F3 H' oR gu/\cN g.ev tt.ev ek.ev e.ev (aU ρ vs) (ds.drop (i+1)) OY oR=some (f,s'),λH' hN=>?_,λx H3 hy=>?_⟩
  ·obtain⟨F3,oR,OY,gu,a1,a2,a3⟩:=hN
   exact⟨(ds.drop (i+1)).length,by rw [em];exact Kbk _,F3,oR,OY,gu,rfl,hlt,a1,a2,a3⟩
  ·obtain⟨F3,xK,sa,r3⟩:=yld x H3 hy
   have L3:=L.step cU sa.any (L.aW.keep sa)
   have JG:Slots sk F1 (less H1 D) σ ρ aj:=by rw [ur];exact P1.slots
   have E9:=JG.step L3.st P1.jW
   obtain⟨fw,HW,mw⟩:=E9.wipe vs
   refine g.ok K L3.st.sub' r3 HW c1 λσ' aF sl' m' u' w'=>⟨?_,?_⟩
   ·rw [w' vs hv,eqs]
   ·have P3:Pre sk F3 H3 σ' aB aF si:=⟨L3.st.sub',L3.aW,sl',λa ha ma=>P1.jW a ha (mw.mem (m' a ma)),P1.dj.sublist (u'.trans mw)⟩
    refine tt.ok K P3 c2 λF4 H4 rG k4=>?_
    have L4:=L3.step cU rG k4
    have Yg:Same F1 F4:=(sF.trans sa.sub).trans rG.sub
    split at hc
    ·rename_i eb
     rw [if_pos eb]
     obtain⟨⟨⟨xk,fk⟩,sx⟩,c3,hd⟩:=aI hc
     obtain⟨⟨⟨yv,fv⟩,sy⟩,c4,he⟩:=aI hd
     clear hc hd
     dsimp only at he
     refine ek.ok K (P3.next rG k4) c3 λkv F5 H5 QM st5 k5 r5 f5=>?_
     have L5:=L4.step cU st5 k5
     refine e.ok K ((P3.next rG k4).next st5 k5) c4 λvv F6 H6 JS Ym k6 r6 f6=>?_
     have L6:=L5.step cU Ym k6
     split at he
     ·rename_i j ej
      have hkv:=r5.key ej
      subst hkv
      refine⟨ws,j,rfl,L6.hD,?_,F6,sy,_,_,(Yg.trans st5.sub).trans Ym.sub,L6.put (j:=j) cU r6,he⟩
      have:=L.len
      exact KbC (show ws.length<=100000 by omega) (by decide)
     ·cases he
    ·rename_i eb
     rw [if_neg eb]
     exact⟨F4,sb,fi,ws,Yg,L4,hc⟩
 ·have e1:i=ds.length:=by omega
  subst e1
  rw [Kbl] at hc
  unfold cN at hc
  cases hc
  exact .inl ⟨(yl F2 H2 _ sF L.st.sub').2 (Kap _),q F1 H1 D F2 H2 ws st1 nD cU L⟩
/-- x,..={k: v for ..},.. -/
def SP.dc (i:Nat)(it:SI)(g:SG)(tt:ST)(ek e:SE)(vs:List Nat)(hv:∀i∈g.ix,i∈vs)(r:SP):SP where
 t:=λK=>tCons (tDc (it.t K) (g.t K) (tt.t K) (ek.t K) (e.t K) vs) (r.t K)
 ts:=i::r.ts
 ev:=λρ cf s=>(it.ev ρ s).bind λx=>(cN g.ev tt.ev ek.ev e.ev (aU ρ vs) x.1 [] x.2).bind λy=>if y.1.length<=100000 then r.ev ρ (cf.set i (.cT y.1)) y.2 else none
 ok:=by
  intro K sk F0 H0 F H σ nQ ρ cf iw aj cu s s' Q p w h q
  obtain⟨⟨ds,s1⟩,h1,g1⟩:=aI h
  obtain⟨⟨f,s2⟩,h2,g2⟩:=aI g1
  clear h g1
  dsimp only at g2 h2
  split at g2
  case isFalse=>cases g2
  rename_i hlen
  refine yW hv K p h1 h2 hlen λF1 H1 a F2 H2 ws st1 na cU L=>?_
  have ur:less H1 a=H1:=by
   funext b
   unfold less
   split
   ·rename_i z;rw [z,na]
   ·rfl
  have st2:Step sk F1 H1 F2 H2:=by
   have:=L.st
   rw [ur] at this
   exact this
  have st:=st1.trans st2
  have w1:=w.next st L.aW
  have nH:H a=none:=by
   cases z:H a with
   |none=>rfl
   |some u=>exact absurd na (st1.dm a (by rw [z];exact nofun))
  have Av:H0 a=none:=by
   cases z:H0 a with
   |none=>rfl
   |some u=>exact absurd nH (w.st.dm a (by rw [z];exact nofun))
  have nd:([a]++cu.flatten).Nodup:=Kaj.mpr ⟨by simp,w.dj,λb mb c mc z=>by
   have:b=a:=by simpa using mb
   subst z
   exact (w.bR b mc).2.1 (by rw [this];exact nH)⟩
  obtain⟨m1,m2⟩:=vD (i:=i) nd
  have wa:Wd sk F0 H0 F2 H2 (nQ.set i (some (.ref a))) (cf.set i (.cT f)) (cu.set i [a]) s2:=by
   refine⟨w1.st,w1.aW,w1.slots.set ⟨a,ws,rfl,L.hD,L.fD,L.len,L.rel,rfl⟩,m1,λb m=>?_⟩
   rcases m2 b m with z|z
   ·have:b=a:=by simpa using z
    subst this
    exact⟨Av,by rw [L.hD];exact nofun,cU⟩
   ·exact w1.bR b z
  refine r.ok K (p.next st L.aW) wa g2 λvs F3 H3 fv sF w2 hl=>?_
  exact q (.ref a::vs) F3 H3 fv (st.sub.trans sF) w2 (by rw [Kad,Kad,hl])
/-- x={k: v for ..} -/
def SS.MA (i:Nat)(it:SI)(g:SG)(tt:ST)(ek e:SE)(vs:List Nat)(hv:∀i∈g.ix,i∈vs):SS where
 t:=λK=>tAsg (tDc (it.t K) (g.t K) (tt.t K) (ek.t K) (e.t K) vs) (gName i)
 ev:=λρ s=>((SP.dc i it g tt ek e vs hv SP.nil).ev ρ ρ s).bind λx=>some (.nx x.1 x.2)
 ok:=by
  intro K sk F0 H0 F H σ ρ aj s out D w h q
  obtain⟨⟨aB,s1⟩,h1,h2⟩:=aI h
  cases h2
  have:=(SP.dc i it g tt ek e vs hv SP.nil).ok K (Q:=λvs H'=>D.nx (σ.set i vs.head?) H') w.pre w h1 λvs F1 H1 fv sF w1 hl=>by
   match vs,hl with
   |[v],_=>exact q F1 H1 _ fv sF w1
  exact this
end Pu
namespace Pu
variable [aR]
open PySem PySem.Spec PyProof.Rows L2
section
variable {X:Cx}{kx vx tg iter:Expr}{ifs:List Expr}{scope:Scope}{pos:Pos}{wi:TI}
theorem AG (gS:SG)(tS:ST)(kS eS:SE)(own:List (Str×Nat))(hc:X.calm=true)(hN:X.N.Nodup)(hi:PI X tg iter wi)(ok:BlkOk X.N X.env.scope scope own)
  (hg:∀(s:Shared) (H:Hp) (C:Addr) (cl:List (Str×Addr)) (fp:List Addr),∃g,PG (X.blk s H scope (compEnvC scope cl C X.env) fp) tg g/\g=gS.t X.K)
  (ht:∀(s:Shared) (H:Hp) (C:Addr) (cl:List (Str×Addr)) (fp:List Addr),∃tt,PTs (X.blk s H scope (compEnvC scope cl C X.env) fp) ifs tt/\tt=tS.t X.K)
  (hk:∀(s:Shared) (H:Hp) (C:Addr) (cl:List (Str×Addr)) (fp:List Addr),∃te,PE (X.blk s H scope (compEnvC scope cl C X.env) fp) kx te/\te=kS.t X.K)
  (he:∀(s:Shared) (H:Hp) (C:Addr) (cl:List (Str×Addr)) (fp:List Addr),∃te,PE (X.blk s H scope (compEnvC scope cl C X.env) fp) vx te/\te=eS.t X.K) (hs:∀x,foldedSetIterable iter X.env x=pure x:=by intro _;rfl):
  PE X (.DictComp kx vx [⟨tg,iter,ifs,0⟩] scope pos) (tDc wi (gS.t X.K) (tS.t X.K) (kS.t X.K) (eS.t X.K) (own.map (·.2))):=
 pe_dc hc hN hi ok (λa b c d e=>by obtain⟨_,h,rfl⟩:=hg a b c d e;exact h) (λa b c d e=>by obtain⟨_,h,rfl⟩:=ht a b c d e;exact h) (λa b c d e=>by obtain⟨_,h,rfl⟩:=hk a b c d e;exact h) (λa b c d e=>by obtain⟨_,h,rfl⟩:=he a b c d e;exact h) hs
end
/-- x,y=e1,e2 where a tuple is made -/
def SS.yu (i j:Nat)(p:SP)(hp:p.ts=[i,j]):SS where
 t:=λK=>tAsg (tTup (p.t K)) (gTup K 2 ((cC.cons (aQ i) (cC.cons (aQ j) cC.nil)).t K))
 ev:=λρ s=>(p.ev ρ ρ s).bind λx=>some (.nx x.1 x.2)
 ok:=by
  intro K sk F0 H0 F H σ ρ aj s out D w h q
  obtain⟨⟨x,s1⟩,h1,h2⟩:=aI h
  cases h2
  refine p.ok K w.pre w h1 λvs F1 H1 fv sF w1 hl=>?_
  rw [hp] at hl w1
  match vs,hl with
  |[v1,v2],_=>
   refine⟨by show 2<=sizeLine;decide,λa na=>⟨a,[v1,v2],rfl,.inl (.inl upd_same),rfl,?_⟩⟩
   have sr:aY F1 H1 F1 (L2.upd H1 a (.tup [v1,v2])):=.raw (sk:=sk) w1.st.sub' na
   have w2:=w1.next (sr.any (sk:=sk)) (w1.aW.keep sr)
   exact⟨v1,[v2],rfl,v2,[],rfl,rfl,q F1 _ _ fv sF w2⟩
section
variable {ρ:List Slot}{s:ae}{a b c:SE}{i j k:Nat}
@[simp] theorem pQ {p p':Int->Int->Bool}:(WH p p' a b c).ev ρ s=(a.ev ρ s).bind λx=>(b.ev ρ x.2).bind λy=>match x.1.1,y.1.1 with
  |.int i,.int j=>if p i j=true then (c.ev ρ y.2).bind λz=>match z.1.1 with|.int k=>some ((.bool (p' j k),true),z.2)|_=>none else some ((.bool false,true),y.2)
  |_,_=>none:=rfl
@[simp] theorem qm:(SI.down a b).ev ρ s=(a.ev ρ s).bind λx=>(b.ev ρ x.2).bind λy=>match x.1.1,y.1.1 with|.int i,.int j=>if (-1000000<=i/\i<=1000000)/\-1000000<=j/\j<=1000000 then some (dO i (i-j).toNat,y.2) else none|_,_=>none:=rfl
@[simp] theorem zZ {it it1:SI}{g g1:SG}{tt tt1:ST}{vs vs1:List Nat}{hv:∀i∈g.ix,i∈vs}{hv1:∀i∈g1.ix,i∈vs1}:(SE.W2 it g tt it1 g1 tt1 a vs vs1 hv hv1).ev ρ s=(it.ev ρ s).bind λx=>(yZ g.ev tt.ev it1.ev g1.ev tt1.ev a.ev vs1 (aU ρ vs) x.1 x.2).bind λy=>if y.1.length<=100000 then some ((.list (y.1.map (·.1)),y.1.all dX),y.2) else none:=rfl
@[simp] theorem yX:(Jv i a).ev ρ s=match ρ[i]? with|some (.cT f)=>((a.ev ρ s).bind λy=>match keyOf y.1.1 with|some j=>some ((.bool (b8 f j).isSome,true),y.2)|none=>none)|_=>none:=rfl
@[simp] theorem AF {cf:List Slot}{it:SI}{g:SG}{tt:ST}{vs:List Nat}{hv:∀i∈g.ix,i∈vs}{r:SP}:(SP.dc i it g tt a b vs hv r).ev ρ cf s=(it.ev ρ s).bind λx=>(cN g.ev tt.ev a.ev b.ev (aU ρ vs) x.1 [] x.2).bind λy=>if y.1.length<=100000 then r.ev ρ (cf.set i (.cT y.1)) y.2 else none:=rfl
@[simp] theorem tX {p:SP}{hp:p.ts=[i,j]}:(SS.yu i j p hp).ev ρ s=(p.ev ρ ρ s).bind λx=>some (.nx x.1 x.2):=rfl
@[simp] theorem A4 {it:SI}{g:SG}{tt:ST}{vs:List Nat}{hv:∀i∈g.ix,i∈vs}:(SS.MA i it g tt a b vs hv).ev ρ s=((SP.dc i it g tt a b vs hv SP.nil).ev ρ ρ s).bind λx=>some (.nx x.1 x.2):=rfl
end
end Pu
namespace Pu
open PySem PySem.Spec PyProof.Rows PySem.W
open AutoSeq1 (wpAny_loadPart')
abbrev Ff (h:Heap)(z TI TO:Addr)(f0:Value)(f:Bool):Prop:=
 h.get? z=some { cls:=.type "zip",dict:=none,data:=.fields #[f0,.bool f,.bool false,.ref TI,.ref TO],slots:=#[] }
def QK (f0:Value):Prop:=f0=.none∨∃T:Addr,f0=rawInt T
end Pu
namespace Pu
open PySem PySem.Spec PyProof.Rows PySem.W
open AutoSeq1 (wpAny_loadPart')
section
variable {prog:Program}{w:World}{A:Around}{E:Value->Shared->Prop}{s:Shared}
structure Wx (h:Heap)(z TI TO i1 i2 l1 l2:Addr)(k:Nat):Prop where
 z:∃f0 f,Ff h z TI TO f0 f/\QK f0
 ti:IsPair h TI (.ref i1) (.ref i2)
 to:∃a b,IsPair h TO a b
 h1:h.IsListIter i1 l1 k
 h2:h.IsListIter i2 l2 k
theorem Wx.keep {h h':Heap}{z TI TO i1 i2 l1 l2:Addr}{k:Nat}(S:Wx h z TI TO i1 i2 l1 l2 k)(q:∀b∈[z,TI,TO,i1,i2],∀o,h.get? b=some o->h'.get? b=some o):Wx h' z TI TO i1 i2 l1 l2 k:=by
 obtain⟨⟨f0,f,hz,hf⟩,hTI,⟨a,b,hTO⟩,h1,h2⟩:=S
 exact⟨⟨f0,f,q z (by simp) _ hz,hf⟩,q TI (by simp) _ hTI,⟨a,b,q TO (by simp) _ hTO⟩,h1.at λo e=>q i1 (by simp) o e,h2.at λo e=>q i2 (by simp) o e⟩
end
end Pu
namespace Pu
open PySem L2
class Enc (α:Type) where
 enc:α->PyData
open Enc
structure T3 (α β γ:Type) where
 x:α
 y:β
 z:γ
deriving DecidableEq
structure T4 (α β γ δ:Type) where
 x:α
 y:β
 z:γ
 u:δ
deriving DecidableEq
structure T5 (α β γ δ ε:Type) where
 x:α
 y:β
 z:γ
 u:δ
 v:ε
deriving DecidableEq
instance [Inhabited α][Inhabited β][Inhabited γ]:Inhabited (T3 α β γ):=⟨⟨default,default,default⟩⟩
instance [Inhabited α][Inhabited β][Inhabited γ][Inhabited δ]:Inhabited (T4 α β γ δ):=⟨⟨default,default,default,default⟩⟩
instance [Inhabited α][Inhabited β][Inhabited γ][Inhabited δ][Inhabited ε]:Inhabited (T5 α β γ δ ε):=⟨⟨default,default,default,default,default⟩⟩
instance:Enc Int:=⟨.int⟩
instance:Enc Bool:=⟨.bool⟩
instance:Enc Unit:=⟨λ_=>.none⟩
instance:Enc Str:=⟨.str⟩
instance [Enc α]:Enc (List α):=⟨λxs=>.list (xs.map enc)⟩
instance [Enc α]:Enc (Option α):=⟨λo=>match o with|none=>.none|some x=>enc x⟩
instance [Enc α][Enc β]:Enc (α×β):=⟨λp=>.tuple [enc p.1,enc p.2]⟩
instance [Enc α][Enc β][Enc γ]:Enc (T3 α β γ):=⟨λp=>.tuple [enc p.x,enc p.y,enc p.z]⟩
instance [Enc α][Enc β][Enc γ][Enc δ]:Enc (T4 α β γ δ):=⟨λp=>.tuple [enc p.x,enc p.y,enc p.z,enc p.u]⟩
instance [Enc α][Enc β][Enc γ][Enc δ][Enc ε]:Enc (T5 α β γ δ ε):=⟨λp=>.tuple [enc p.x,enc p.y,enc p.z,enc p.u,enc p.v]⟩
/-- no list within -/
class Flat (α:Type) [Enc α]:Prop where
 fl:∀x:α,aH (enc x)=true
instance:Flat Int:=⟨λ_=>rfl⟩
instance:Flat Bool:=⟨λ_=>rfl⟩
instance:Flat Unit:=⟨λ_=>rfl⟩
instance:Flat Str:=⟨λ_=>rfl⟩
instance [Enc α][Flat α]:Flat (Option α):=⟨λo=>match o with|none=>rfl|some x=>Flat.fl x⟩
instance [Enc α][Enc β][Flat α][Flat β]:Flat (α×β):=⟨λp=>by
 show eR [enc p.1,enc p.2]=true
 simp [eR,Flat.fl]⟩
instance [Enc α][Enc β][Enc γ][Flat α][Flat β][Flat γ]:Flat (T3 α β γ):=⟨λp=>by
 show eR [enc p.x,enc p.y,enc p.z]=true
 simp [eR,Flat.fl]⟩
theorem VQ [Enc α][Flat α]:∀xs:List α,eR (xs.map enc)=true
 |[]=>rfl
 |x::xs=>by simp [eR,Flat.fl,VQ xs]
/-- data with == -/
class bj (α:Type) extends Enc α where
 dec:DecidableEq α
 dep:Nat
 lay:∀x:α,(enc x).canLay0=true
 cB:∀x:α,(enc x).depth<=dep
 eqv:∀x y:α,PyData.eqv (enc x) (enc y)=decide (x=y)
instance (priority:=50)[bj α]:DecidableEq α:=bj.dec
def VU [bj α]:∀xs:List α,PyData.canLayAll0 (xs.map enc)=true
 |[]=>rfl
 |x::xs=>by simp [PyData.canLayAll0,bj.lay,VU xs]
theorem Wk [bj α]:∀xs:List α,PyData.depthAll (xs.map enc)<=bj.dep α
 |[]=>Ka2 _
 |x::xs=>by
  have h1:=bj.cB x
  have h2:=Wk xs
  simp only [Kag,PyData.depthAll]
  omega
theorem V9 [bj α]:∀xs ys:List α,PyData.eqvAll (xs.map enc) (ys.map enc)=decide (xs=ys)
 |[],[]=>by simp [PyData.eqvAll]
 |[],y::ys=>by simp [PyData.eqvAll]
 |x::xs,[]=>by simp [PyData.eqvAll]
 |x::xs,y::ys=>by
  simp only [Kag,PyData.eqvAll,bj.eqv,V9 xs ys,List.cons.injEq]
  by_cases h1:x=y <;> by_cases h2:xs=ys <;> simp [h1,h2]
instance:bj Int where
 dec:=inferInstance
 dep:=0
 lay:=λ_=>rfl
 cB:=λ_=>Kap _
 eqv:=λx y=>by
  show PyData.eqv (.int x) (.int y)=_
  simp only [PyData.eqv]
  by_cases h:x=y <;> simp [h]
instance:bj Bool where
 dec:=inferInstance
 dep:=0
 lay:=λ_=>rfl
 cB:=λ_=>Kap _
 eqv:=λx y=>by
  cases x <;> cases y <;> rfl
instance [bj α]:bj (List α) where
 dec:=inferInstance
 dep:=bj.dep α+1
 lay:=λxs=>by
  show PyData.canLay0 (.list (xs.map enc))=true
  simpa [PyData.canLay0] using VU xs
 cB:=λxs=>by
  show PyData.depth (.list (xs.map enc))<=_
  have:=Wk xs
  simp only [PyData.depth];omega
 eqv:=λxs ys=>by
  show PyData.eqv (.list (xs.map enc)) (.list (ys.map enc))=_
  simp only [PyData.eqv];exact V9 xs ys
instance [bj α][bj β]:bj (α×β) where
 dec:=inferInstance
 dep:=max (bj.dep α) (bj.dep β)+1
 lay:=λp=>by
  show PyData.canLay0 (.tuple [enc p.1,enc p.2])=true
  simp [PyData.canLay0,PyData.canLayAll0,bj.lay]
 cB:=λp=>by
  show PyData.depth (.tuple [enc p.1,enc p.2])<=_
  have h1:=bj.cB p.1
  have h2:=bj.cB p.2
  simp only [PyData.depth,PyData.depthAll];omega
 eqv:=λp q=>by
  show PyData.eqv (.tuple [enc p.1,enc p.2]) (.tuple [enc q.1,enc q.2])=_
  simp only [PyData.eqv,PyData.eqvAll,bj.eqv]
  obtain⟨a,b⟩:=p
  obtain⟨c,d⟩:=q
  by_cases h1:a=c <;> by_cases h2:b=d <;> simp [h1,h2]
instance [bj α][bj β][bj γ]:bj (T3 α β γ) where
 dec:=inferInstance
 dep:=max (max (bj.dep α) (bj.dep β)) (bj.dep γ)+1
 lay:=λp=>by
  show PyData.canLay0 (.tuple [enc p.x,enc p.y,enc p.z])=true
  simp [PyData.canLay0,PyData.canLayAll0,bj.lay]
 cB:=λp=>by
  show PyData.depth (.tuple [enc p.x,enc p.y,enc p.z])<=_
  have h1:=bj.cB p.x
  have h2:=bj.cB p.y
  have h3:=bj.cB p.z
  simp only [PyData.depth,PyData.depthAll];omega
 eqv:=λp q=>by
  show PyData.eqv (.tuple [enc p.x,enc p.y,enc p.z]) (.tuple [enc q.x,enc q.y,enc q.z])=_
  simp only [PyData.eqv,PyData.eqvAll,bj.eqv]
  obtain⟨a,b,e⟩:=p
  obtain⟨c,d,f⟩:=q
  by_cases h1:a=c <;> by_cases h2:b=d <;> by_cases h3:e=f <;> simp [h1,h2,h3]
instance [bj α][bj β][bj γ][bj δ]:bj (T4 α β γ δ) where
 dec:=inferInstance
 dep:=max (max (bj.dep α) (bj.dep β)) (max (bj.dep γ) (bj.dep δ))+1
 lay:=λp=>by
  show PyData.canLay0 (.tuple [enc p.x,enc p.y,enc p.z,enc p.u])=true
  simp [PyData.canLay0,PyData.canLayAll0,bj.lay]
 cB:=λp=>by
  show PyData.depth (.tuple [enc p.x,enc p.y,enc p.z,enc p.u])<=_
  have h1:=bj.cB p.x
  have h2:=bj.cB p.y
  have h3:=bj.cB p.z
  have h4:=bj.cB p.u
  simp only [PyData.depth,PyData.depthAll];omega
 eqv:=λp q=>by
  show PyData.eqv (.tuple [enc p.x,enc p.y,enc p.z,enc p.u]) (.tuple [enc q.x,enc q.y,enc q.z,enc q.u])=_
  simp only [PyData.eqv,PyData.eqvAll,bj.eqv]
  obtain⟨a,b,e,g⟩:=p
  obtain⟨c,d,f,h⟩:=q
  by_cases h1:a=c <;> by_cases h2:b=d <;> by_cases h3:e=f <;> by_cases h4:g=h <;> simp [h1,h2,h3,h4]
/-- never Y3 -/
class NN (α:Type) [Enc α]:Prop where
 nn:∀x:α,vX (enc x)=false
instance:NN Int:=⟨λ_=>rfl⟩
instance:NN Bool:=⟨λ_=>rfl⟩
instance:NN Str:=⟨λ_=>rfl⟩
instance [Enc α]:NN (List α):=⟨λ_=>rfl⟩
instance [Enc α][Enc β]:NN (α×β):=⟨λ_=>rfl⟩
instance [Enc α][Enc β][Enc γ]:NN (T3 α β γ):=⟨λ_=>rfl⟩
instance [Enc α][Enc β][Enc γ][Enc δ]:NN (T4 α β γ δ):=⟨λ_=>rfl⟩
theorem zh {d:PyData}(h:vX d=false):PyData.eqv .none d=false:=by cases d <;> first|rfl|(simp [vX] at h)
theorem zj {d:PyData}(h:vX d=false):PyData.eqv d .none=false:=by cases d <;> first|rfl|(simp [vX] at h)
instance [bj α][NN α]:bj (Option α) where
 dec:=inferInstance
 dep:=bj.dep α
 lay:=λo=>match o with|none=>rfl|some x=>bj.lay x
 cB:=λo=>match o with|none=>Ka2 _|some x=>bj.cB x
 eqv:=λo q=>match o,q with
  |none,none=>by simp [PyData.eqv,enc]
  |none,some y=>(zh (NN.nn y)).trans (by simp)
  |some x,none=>(zj (NN.nn x)).trans (by simp)
  |some x,some y=>(bj.eqv x y).trans (by simp)
theorem uu [bj α](x y:α)(hd:bj.dep α<=64):BB (enc x) (enc y)=some (decide (x=y)):=by
 have sx:SeqAt.shaped (enc x)=true:=by
  unfold SeqAt.shaped
  rw [bj.lay,decide_eq_true (Kaw (bj.cB x) hd)];rfl
 have sy:SeqAt.shaped (enc y)=true:=by
  unfold SeqAt.shaped
  rw [bj.lay,decide_eq_true (Kaw (bj.cB y) hd)];rfl
 rw [<-bj.eqv x y]
 generalize enc x=d at sx
 generalize enc y=e at sy
 unfold BB
 split
 ·rename_i i j
  simp only [PyData.eqv]
  by_cases h:i=j <;> simp [h]
 ·simp only [PyData.eqv]
 ·rw [if_pos ⟨sx,sy⟩]
variable [aR]
def JE {α:Type}[Enc α](e:SE)(ρ:List Slot)(s:ae)(x:α)(s':ae)(w:Bool):Prop:=∃w',e.ev ρ s=some ((enc x,w'),s')/\(w=true->w'=true)
def JT (c:ST)(ρ:List Slot)(s:ae)(P:Prop)[Decidable P](s':ae):Prop:=c.ev ρ s=some (decide P,s')
def JI {α:Type}[Enc α](i:SI)(ρ:List Slot)(s:ae)(xs:List α)(s':ae):Prop:=i.ev ρ s=some (xs.map enc,s')
def JA (a:SA)(ρ:List Slot)(s:ae)(ds:List PyData)(s':ae)(w:Bool):Prop:=∃eX:List Vl,a.ev ρ s=some (eX,s')/\eX.map (·.1)=ds/\(w=true->(eX.all λz=>z.2 ||aH z.1)=true)
def JO (o:SO)(ρ:List Slot)(s:ae)(x:Option Int)(s':ae):Prop:=o.ev ρ s=some (x,s')
def JC (r:SR)(ρ:List Slot)(s:ae)(sl:List Slot)(s':ae):Prop:=r.ev ρ s=some (sl,s')
def JF {α:Type}[Enc α](m:Fn)(args:List Slot)(s:ae)(x:α)(s':ae)(w:Bool):Prop:=∃w',m args s=some ((enc x,w'),s')/\(w=true->w'=true)
section
variable {ρ:List Slot}{s s1 s2 s3:ae}{a b c:SE}{i j k:Nat}{w w1 w2:Bool}
theorem jB {α:Type}[Enc α]{x:α}(h:JE a ρ s x s1 w):JE a ρ s x s1 false:=by
 obtain⟨w',e,_⟩:=h
 exact⟨w',e,nofun⟩
theorem Qi {α:Type}[Enc α]{x y:α}(h:JE a ρ s x s1 w)(e:x=y):JE a ρ s y s1 w:=e ▸ h
theorem ak {α:Type}[Enc α]{x:α}(h:ρ[i]? = some (.dat (enc x))):JE (ai i) ρ s x s false:=⟨false,by rw [Wm,h],nofun⟩
theorem LJ {α:Type}[Enc α]{x:α}(h:ρ[i]? = some (.own (enc x))):JE (ai i) ρ s x s false:=⟨false,by rw [Wm,h],nofun⟩
theorem JE.ab (n:Int):JE (SE.ab n) ρ s n s true:=⟨true,rfl,λ_=>rfl⟩
theorem JE.bool (n:Bool):JE (SE.bool n) ρ s n s true:=⟨true,rfl,λ_=>rfl⟩
theorem JE.X8 {α:Type}[Enc α]:JE SE.non ρ s (Option.none:Option α) s true:=⟨true,rfl,λ_=>rfl⟩
theorem JE.X5 {α:Type}[Enc α]{x:α}(h:JE a ρ s x s1 w):JE a ρ s (Option.some x) s1 w:=h
theorem LM {α:Type}[Enc α][Inhabited α]{x:Option α}(h:JE a ρ s x s1 w)(hx:x.isSome=true):JE a ρ s (x.getD default) s1 w:=by
 cases x with
 |none=>cases hx
 |some y=>exact h
theorem c_ {r:Frag->R2}{f:PyData->PyData->Option Vl}{hr:JQ r f}{d e:PyData}{wa wb:Bool}{z:Vl}(ha:a.ev ρ s=some ((d,wa),s1))(hb:b.ev ρ s1=some ((e,wb),s2))(hf:f d e=some z):(iM r f hr a b).ev ρ s=some (z,s2):=by
 show ((a.ev ρ s).bind λx=>(b.ev ρ x.2).bind λy=>(f x.1.1 y.1.1).bind λz=>some (z,y.2))=_
 rw [ha]
 simp only [Kae]
 rw [hb]
 simp only [Kae]
 rw [hf];rfl
theorem lR {r:Frag->List V->Hp->VK->Prop}{f:List PyData->Option Vl}{hr:MV r f}{d:PyData}{wa:Bool}{z:Vl}(ha:a.ev ρ s=some ((d,wa),s1))(hf:f [d]=some z):(o4 r f hr (.cons a .nil)).ev ρ s=some (z,s1):=by
 rw [Ey,EA,ha]
 simp only [Kae,PR,Kag,Kb7]
 rw [hf];rfl
theorem QU {r:Frag->List V->Hp->VK->Prop}{f:List PyData->Option Vl}{hr:MV r f}{d e:PyData}{wa wb:Bool}{z:Vl}(ha:a.ev ρ s=some ((d,wa),s1))(hb:b.ev ρ s1=some ((e,wb),s2))(hf:f [d,e]=some z):(o4 r f hr (.cons a (.cons b .nil))).ev ρ s=some (z,s2):=by
 rw [Ey,EA,ha]
 simp only [Kae]
 rw [EA,hb]
 simp only [Kae,PR,Kag,Kb7]
 rw [hf];rfl
section
variable {x y:Int}(ha:JE a ρ s x s1 w1)(hb:JE b ρ s1 y s2 w2)
include ha hb
theorem m6:JE (gr a b) ρ s (x+y) s2 true:=by
 obtain⟨_,ea,_⟩:=ha;obtain⟨_,eb,_⟩:=hb;exact⟨true,c_ ea eb rfl,λ_=>rfl⟩
theorem JE.sub:JE (EU a b) ρ s (x-y) s2 true:=by
 obtain⟨_,ea,_⟩:=ha;obtain⟨_,eb,_⟩:=hb;exact⟨true,c_ ea eb rfl,λ_=>rfl⟩
theorem EN (h:x.natAbs<18446744073709551616∨y.natAbs<18446744073709551616):JE (wD a b) ρ s (x*y) s2 true:=by
 obtain⟨_,ea,_⟩:=ha;obtain⟨_,eb,_⟩:=hb
 refine⟨true,c_ ea eb ?_,λ_=>rfl⟩
 show dQ _ (.int x) (.int y)=_
 rw [Lb,if_pos (by unfold jh;rcases h with h|h <;> simp [h])];rfl
theorem zI (h:0<y/\y<1000000000000000000000000000000000000000000000000000000000000):JE (ux a b) ρ s (x / y) s2 true:=by
 obtain⟨_,ea,_⟩:=ha;obtain⟨_,eb,_⟩:=hb
 refine⟨true,c_ ea eb ?_,λ_=>rfl⟩
 show dQ _ (.int x) (.int y)=_
 rw [Lb,if_pos (by unfold mH;simp [h.1,h.2])];rfl
theorem x6 (h:0<y):JE (sR a b) ρ s (x % y) s2 true:=by
 obtain⟨_,ea,_⟩:=ha;obtain⟨_,eb,_⟩:=hb
 refine⟨true,c_ ea eb ?_,λ_=>rfl⟩
 show dQ _ (.int x) (.int y)=_
 rw [Lb,if_pos (decide_eq_true h)];rfl
theorem JE.pow (h:eL x y=true):JE (hxk a b) ρ s (x ^ y.toNat) s2 true:=by
 obtain⟨_,ea,_⟩:=ha;obtain⟨_,eb,_⟩:=hb
 refine⟨true,c_ ea eb ?_,λ_=>rfl⟩
 show dQ _ (.int x) (.int y)=_
 rw [Lb,if_pos h];rfl
theorem wF:JE (qk a b) ρ s (decide (x<y)) s2 true:=by
 obtain⟨_,ea,_⟩:=ha;obtain⟨_,eb,_⟩:=hb;exact⟨true,c_ ea eb rfl,λ_=>rfl⟩
theorem JE.gt:JE (hxs a b) ρ s (decide (y<x)) s2 true:=by
 obtain⟨_,ea,_⟩:=ha;obtain⟨_,eb,_⟩:=hb;exact⟨true,c_ ea eb rfl,λ_=>rfl⟩
theorem JE.ge:JE (SE.ge a b) ρ s (decide (y<=x)) s2 true:=by
 obtain⟨_,ea,_⟩:=ha;obtain⟨_,eb,_⟩:=hb;exact⟨true,c_ ea eb rfl,λ_=>rfl⟩
theorem LI:JE (CU a b) ρ s (max x y) s2 true:=by
 obtain⟨_,ea,_⟩:=ha;obtain⟨_,eb,_⟩:=hb;exact⟨true,QU ea eb rfl,λ_=>rfl⟩
end
theorem JE.al {p p':Int->Int->Prop}[DecidableRel p][DecidableRel p']{x y z:Int}(ha:JE a ρ s x s1 w)(hb:JE b ρ s1 y s2 w1)(hc:p x y->JE c ρ s2 z s2 w2):JE (WH (λi j=>decide (p i j)) (λi j=>decide (p' i j)) a b c) ρ s (decide (p x y/\p' y z)) s2 true:=by
 obtain⟨_,ea,_⟩:=ha;obtain⟨_,eb,_⟩:=hb
 refine⟨true,?_,λ_=>rfl⟩
 rw [pQ,ea]
 simp only [Kae]
 rw [eb]
 simp only [Kae]
 show (if decide (p x y)=true then _ else _)=_
 by_cases h:p x y
 ·obtain⟨_,ec,_⟩:=hc h
  rw [if_pos (decide_eq_true h),ec]
  show some ((PyData.bool (decide (p' y z)),true),s2)=_
  simp [h,enc]
 ·rw [if_neg (by simpa using h)]
  simp [h,enc]
theorem JE.neg {x:Int}(ha:JE a ρ s x s1 w):JE (SE.ag a) ρ s (-x) s1 true:=by
 obtain⟨_,ea,_⟩:=ha
 exact⟨true,by rw [Aj,ea];rfl,λ_=>rfl⟩
theorem JE.abs {x:Int}(ha:JE a ρ s x s1 w):JE (SE.abs a) ρ s (if x<0 then -x else x) s1 true:=by
 obtain⟨_,ea,_⟩:=ha;exact⟨true,lR ea rfl,λ_=>rfl⟩
theorem Jx {x:Int}(ha:JE a ρ s x s1 w):JE (uy a) ρ s x s1 true:=by
 obtain⟨_,ea,_⟩:=ha;exact⟨true,lR ea rfl,λ_=>rfl⟩
def b2i (b:Bool):Int:=if b=true then 1 else 0
theorem JE.Be {x:Bool}(ha:JE a ρ s x s1 w):JE (uy a) ρ s (b2i x) s1 true:=by
 obtain⟨_,ea,_⟩:=ha;exact⟨true,lR ea (by cases x <;> rfl),λ_=>rfl⟩
section
variable {α:Type}[bj α]{x y:α}(ha:JE a ρ s x s1 w1)(hb:JE b ρ s1 y s2 w2)
include ha hb
theorem ql {inst:Decidable (x=y)}(hd:bj.dep α<=64:=by decide):JE (gM a b) ρ s (@decide (x=y) inst) s2 true:=by
 obtain⟨_,ea,_⟩:=ha;obtain⟨_,eb,_⟩:=hb
 have e:@decide (x=y) inst=@decide (x=y) (bj.dec x y):=by congr 1
 rw [e]
 exact⟨true,c_ ea eb (by rw [uu x y hd];rfl),λ_=>rfl⟩
theorem JE.ne {inst:Decidable (x≠y)}(hd:bj.dep α<=64:=by decide):JE (zO a b) ρ s (@decide (x≠y) inst) s2 true:=by
 obtain⟨_,ea,_⟩:=ha;obtain⟨_,eb,_⟩:=hb
 have e:@decide (x≠y) inst=!@decide (x=y) (bj.dec x y):=by
  by_cases h:x=y <;> simp [h]
 rw [e]
 exact⟨true,c_ ea eb (by rw [uu x y hd];simp [enc]),λ_=>rfl⟩
end
theorem JE.G4 {α:Type}[Enc α][NN α]{x:Option α}(ha:JE a ρ s x s1 w):JE (SE.G4 a SE.non) ρ s (decide (x=Option.none)) s1 true:=by
 obtain⟨_,ea,_⟩:=ha
 refine⟨true,c_ ea (Wv) ?_,λ_=>rfl⟩
 cases x with
 |none=>rfl
 |some y=>show some (PyData.bool (vX (enc y)),true)=_;rw [NN.nn y];rfl
theorem JE.Ar {α:Type}[Enc α][NN α]{x:Option α}(ha:JE a ρ s x s1 w):JE (SE.Ar a SE.non) ρ s (decide (x≠Option.none)) s1 true:=by
 obtain⟨_,ea,_⟩:=ha
 refine⟨true,c_ ea (Wv) ?_,λ_=>rfl⟩
 cases x with
 |none=>rfl
 |some y=>show some (PyData.bool (!vX (enc y)),true)=_;rw [NN.nn y];rfl
/-- what repr Yh -/
def rep {α:Type}[Enc α](x:α):Str:=(enc x).shown
theorem JE.repr {α:Type}[Enc α]{x:α}(ha:JE a ρ s x s1 w)(h:GO (enc x)=true):JE (SE.ar a) ρ s (rep x) s1 true:=by
 obtain⟨_,ea,_⟩:=ha
 exact⟨true,lR ea (by show (if GO (enc x)=true then _ else _)=_;rw [if_pos h];rfl),λ_=>rfl⟩
theorem hxd {x:Bool}(ha:JE a ρ s x s1 w):JE a ρ s (decide (x=true)) s1 w:=by rw [Kbx];exact ha
theorem JE.ym {P Q:Prop}[Decidable P][Decidable Q](ha:JE a ρ s (decide P) s1 w1)(hb:P->JE b ρ s1 (decide Q) s1 w2):JE (SE.ym a b) ρ s (decide (P/\Q)) s1 false:=by
 obtain⟨_,ea,_⟩:=ha
 by_cases h:P
 ·obtain⟨w',eb,_⟩:=hb h
  refine⟨w',?_,nofun⟩
  rw [V1,ea]
  simp only [Kae]
  rw [show (enc (decide P))=PyData.bool true from by simp [h,enc]]
  show b.ev ρ s1=_
  rw [eb]
  simp [h]
 ·refine⟨true,?_,nofun⟩
  rw [V1,ea]
  simp only [Kae]
  rw [show (enc (decide P))=PyData.bool false from by simp [h,enc]]
  simp [h,enc]
theorem JT.ab {P:Prop}[Decidable P](h:JE a ρ s (decide P) s1 w):JT (ST.ab a) ρ s P s1:=by
 obtain⟨_,e,_⟩:=h
 unfold JT
 rw [Bk,e];rfl
theorem JT.yes:JT cL ρ s True s:=by unfold JT;rw [Pz];simp
theorem JT.ag {c:ST}{P:Prop}[Decidable P](h:JT c ρ s P s1):JT (GV c) ρ s (¬P) s1:=by
 unfold JT at h ⊢
 rw [u_,h];simp
theorem JT.and {c d:ST}{P Q:Prop}[Decidable P][Decidable Q](h:JT c ρ s P s1)(g:P->JT d ρ s1 Q s1):JT (EO c d) ρ s (P/\Q) s1:=by
 unfold JT at h g ⊢
 rw [V2,h]
 by_cases p:P
 ·simp [p,g p]
 ·simp [p]
theorem BK {c d:ST}{P Q:Prop}[Decidable P][Decidable Q](h:JT c ρ s P s1)(g:¬P->JT d ρ s1 Q s1):JT (uB c d) ρ s (P∨Q) s1:=by
 unfold JT at h g ⊢
 rw [Wi,h]
 by_cases p:P
 ·simp [p]
 ·simp [p,g p]
theorem JT.QL {c d:ST}{P:Prop}[Decidable P]{v:Bool×ae}(h:JT c ρ s P s1)(g:P->JT d ρ s1 (v.1=true) v.2):JT (EO c d) ρ s ((if P then v else (false,s1)).1=true) (if P then v else (false,s1)).2:=by
 unfold JT at h g ⊢
 rw [V2,h]
 by_cases p:P
 ·have:=g p
  simp [p] at this ⊢
  exact this
 ·simp [p]
theorem JT.Z1 {c d:ST}{P:Prop}[Decidable P]{v:Bool×ae}(h:JT c ρ s P s1)(g:¬P->JT d ρ s1 (v.1=true) v.2):JT (uB c d) ρ s ((if P then (true,s1) else v).1=true) (if P then (true,s1) else v).2:=by
 unfold JT at h g ⊢
 rw [Wi,h]
 by_cases p:P
 ·simp [p]
 ·have:=g p
  simp [p] at this ⊢
  exact this
theorem JT.MZ {c:ST}{P:Prop}[Decidable P](h:JT c ρ s P s1):JT c ρ s (decide P=true) s1:=by
 unfold JT at h ⊢
 rw [h];simp
theorem JT.nm {c:ST}{v:Bool×ae}{b:Bool}{s2:ae}(h:JT c ρ s (v.1=true) v.2)(e:v=(b,s2)):JT c ρ s (b=true) s2:=by subst e;exact h
theorem kJ {α:Type}[Enc α]{v:α×ae}{x:α}{s2:ae}(h:JE a ρ s v.1 v.2 w)(e:v=(x,s2)):JE a ρ s x s2 w:=by subst e;exact h
theorem JE.ite {α:Type}[Enc α]{c:ST}{P:Prop}[Decidable P]{x y:α}(hc:JT c ρ s P s1)(ha:P->JE a ρ s1 x s1 w)(hb:¬P->JE b ρ s1 y s1 w):JE (EV c a b) ρ s (if P then x else y) s1 w:=by
 unfold JT at hc
 by_cases h:P
 ·obtain⟨w',e,q⟩:=ha h
  exact⟨w',by rw [Lo,hc];simp [h,e],q⟩
 ·obtain⟨w',e,q⟩:=hb h
  exact⟨w',by rw [Lo,hc];simp [h,e],q⟩
theorem JE.W0 {α:Type}[Enc α]{c:ST}{P:Prop}[Decidable P]{x y:α×ae}(hc:JT c ρ s P s1)(ha:P->JE a ρ s1 x.1 x.2 w)(hb:¬P->JE b ρ s1 y.1 y.2 w):JE (EV c a b) ρ s (if P then x else y).1 (if P then x else y).2 w:=by
 unfold JT at hc
 by_cases h:P
 ·obtain⟨w',e,q⟩:=ha h
  exact⟨w',by rw [Lo,hc];simp [h,e],q⟩
 ·obtain⟨w',e,q⟩:=hb h
  exact⟨w',by rw [Lo,hc];simp [h,e],q⟩
end
end Pu
namespace Pu
variable [aR]
open PySem L2 Enc
/-- xs[i] -/
def au {α:Type}[Inhabited α](xs:List α)(i:Int):α:=(atI xs i).getD default
def cut {α:Type}(xs:List α)(lo hi:Option Int):List α:=(xs.drop (HT.sIx xs.length 0 lo)).take (HT.sIx xs.length xs.length hi-HT.sIx xs.length 0 lo)
def rng (lo hi:Int):List Int:=(KaG (hi-lo).toNat).map λ(k:Nat)=>lo+(k:Int)
def Mw (hi lo:Int):List Int:=(KaG (hi-lo).toNat).map λ(k:Nat)=>hi-(k:Int)
def aT {α:Type}(k:Int):List α->List (Int×α)
 |[]=>[]
 |x::xs=>(k,x)::aT (k+1) xs
theorem pU {α:Type}(f:α->PyData)(xs:List α)(lo hi:Option Int):dY (xs.map f) lo hi=(cut xs lo hi).map f:=by
 unfold dY cut
 rw [Kaf,<-List.map_drop,<-List.map_take]
theorem qY:∀(n:Nat) (lo:Int),oX lo n=(KaG n).map λ(k:Nat)=>PyData.int (lo+(k:Int)):=by
 intro n lo
 apply List.ext_getElem?
 intro i
 rw [UP,Ka4]
 by_cases h:i<n
 ·rw [if_pos h,KbW h];rfl
 ·rw [if_neg h,KbL (by simpa using h)];rfl
theorem kr {α:Type}[Enc α]:∀(xs:List α) (k:Int),fO k (xs.map enc)=(aT k xs).map enc
 |[],_=>rfl
 |x::xs,k=>by
  show PyData.tuple [.int k,enc x]::fO (k+1) (xs.map enc)=_
  rw [kr xs (k+1)];rfl
theorem nP {α β:Type}[Enc α][Enc β]:∀(xs:List α) (ys:List β),dH (xs.map enc) (ys.map enc)=(xs.zip ys).map enc
 |[],ys=>by cases ys <;> rfl
 |x::xs,[]=>rfl
 |x::xs,y::ys=>by
  show PyData.tuple [enc x,enc y]::dH (xs.map enc) (ys.map enc)=_
  rw [nP xs ys];rfl
theorem tY {α:Type}(f:α->PyData)(xs:List α)(i:Int):atI (xs.map f) i=(atI xs i).map f:=by
 unfold L2.atI
 simp only [Kaf,Ka4]
 cases L2.ixN xs.length i <;> rfl
section
variable {ρ:List Slot}{s s1 s2 s3:ae}{a b c:SE}{i j k:Nat}{w w1 w2:Bool}
theorem JA.nil:JA SA.nil ρ s [] s true:=⟨[],rfl,rfl,λ_=>rfl⟩
theorem JA.cons {α:Type}[Enc α]{x:α}{r:SA}{ds:List PyData}(he:JE a ρ s x s1 true)(hr:JA r ρ s1 ds s2 w):JA (SA.cons a r) ρ s (enc x::ds) s2 w:=by
 obtain⟨w',e1,q1⟩:=he
 obtain⟨eX,e2,rfl,q2⟩:=hr
 exact⟨(enc x,w')::eX,by rw [EA,e1];simp [e2],rfl,λh=>by simp only [Ka1,q1 rfl,Bool.true_or,KcK];exact q2 h⟩
theorem JA.gD {α:Type}[Enc α][Flat α]{x:α}{r:SA}{ds:List PyData}(he:JE a ρ s x s1 w1)(hr:JA r ρ s1 ds s2 w):JA (SA.cons a r) ρ s (enc x::ds) s2 w:=by
 obtain⟨w',e1,q1⟩:=he
 obtain⟨eX,e2,rfl,q2⟩:=hr
 exact⟨(enc x,w')::eX,by rw [EA,e1];simp [e2],rfl,λh=>by simp only [Ka1,Flat.fl,Bool.or_true,KcK];exact q2 h⟩
theorem GR {α:Type}[Enc α]{x:α}{r:SA}{ds:List PyData}(he:JE a ρ s x s1 w1)(hr:JA r ρ s1 ds s2 w):JA (SA.cons a r) ρ s (enc x::ds) s2 false:=by
 obtain⟨w',e1,q1⟩:=he
 obtain⟨eX,e2,rfl,q2⟩:=hr
 exact⟨(enc x,w')::eX,by rw [EA,e1];simp [e2],rfl,nofun⟩
theorem JA.tup {r:SA}{ds:List PyData}(h:JA r ρ s ds s1 w)(hl:ds.length<=100000):∃w',(SE.tup r).ev ρ s=some ((.tuple ds,w'),s1)/\(w=true->w'=true):=by
 obtain⟨eX,e,rfl,q⟩:=h
 refine⟨_,?_,q⟩
 rw [Wj,e]
 simp only [Kae]
 rw [if_pos (by simpa using hl)]
theorem JA.lst {r:SA}{ds:List PyData}(h:JA r ρ s ds s1 w)(hl:ds.length<=100000):∃w',(SE.lst r).ev ρ s=some ((.list ds,w'),s1)/\(w=true->w'=true):=by
 obtain⟨eX,e,rfl,q⟩:=h
 refine⟨_,?_,q⟩
 rw [Ad,e]
 simp only [Kae]
 rw [if_pos (by simpa using hl)]
theorem zF {α β:Type}[Enc α][Enc β]{x:α}{y:β}{r:SA}(h:JA r ρ s [enc x,enc y] s1 w):JE (SE.tup r) ρ s ((x,y):α×β) s1 w:=h.tup (by simp)
theorem JE.DY {α β γ:Type}[Enc α][Enc β][Enc γ]{x:α}{y:β}{z:γ}{r:SA}(h:JA r ρ s [enc x,enc y,enc z] s1 w):JE (SE.tup r) ρ s (T3.mk x y z) s1 w:=h.tup (by simp)
theorem JE.lst {α:Type}[Enc α]{xs:List α}{r:SA}(h:JA r ρ s (xs.map enc) s1 w)(hl:xs.length<=100000:=by decide):JE (SE.lst r) ρ s xs s1 w:=h.lst (by simpa using hl)
theorem Ma {ds:List PyData}{d:PyData}{n:Int}{wa:Bool}(ha:a.ev ρ s=some ((.tuple ds,wa),s1))(h:atI ds n=some d):∃w',(cW a (SE.ab n)).ev ρ s=some ((d,w'),s1):=by
 refine⟨false,c_ ha zT ?_⟩
 show (L2.atI ds n).map _=_
 rw [h];rfl
theorem JE.Yb {α β:Type}[Enc α][Enc β]{p:α×β}(ha:JE a ρ s p s1 w):JE (cW a (SE.ab 0)) ρ s p.1 s1 false:=by
 obtain⟨_,e,_⟩:=ha;obtain⟨w',h⟩:=Ma (n:=0) e rfl;exact⟨w',h,nofun⟩
theorem JE.Yc {α β:Type}[Enc α][Enc β]{p:α×β}(ha:JE a ρ s p s1 w):JE (cW a (SE.ab 1)) ρ s p.2 s1 false:=by
 obtain⟨_,e,_⟩:=ha;obtain⟨w',h⟩:=Ma (n:=1) e rfl;exact⟨w',h,nofun⟩
section
variable {α β γ δ ε:Type}[Enc α][Enc β][Enc γ][Enc δ][Enc ε]
theorem JE.Z4 {p:T4 α β γ δ}(ha:JE a ρ s p s1 w):JE (cW a (SE.ab 1)) ρ s p.y s1 false:=by
 obtain⟨_,e,_⟩:=ha;obtain⟨w',h⟩:=Ma (n:=1) e rfl;exact⟨w',h,nofun⟩
theorem JE.Z5 {p:T4 α β γ δ}(ha:JE a ρ s p s1 w):JE (cW a (SE.ab 2)) ρ s p.z s1 false:=by
 obtain⟨_,e,_⟩:=ha;obtain⟨w',h⟩:=Ma (n:=2) e rfl;exact⟨w',h,nofun⟩
theorem JE.ME {p:T4 α β γ δ}(ha:JE a ρ s p s1 w):JE (SE.Xq a (SO.at (SE.ab 1)) SO.no) ρ s (T3.mk p.y p.z p.u) s1 false:=by
 obtain⟨_,e,_⟩:=ha
 exact⟨false,by rw [A8,e];rfl,nofun⟩
end
theorem VM {α:Type}[Inhabited α]{xs:List α}{i:Int}(h:-(xs.length:Int)<=i/\i<xs.length):atI xs i=some (au xs i):=by
 have:(atI xs i).isSome=true:=by
  unfold L2.atI L2.ixN
  by_cases h0:0<=i
  ·rw [if_pos h0,if_pos h.2]
   have hl:i.toNat<xs.length:=by omega
   show (xs[i.toNat]?).isSome=true
   rw [Kax hl];rfl
  ·rw [if_neg (by omega),if_pos (by omega)]
   have hl:(i+xs.length).toNat<xs.length:=by omega
   show (xs[(i+xs.length).toNat]?).isSome=true
   rw [Kax hl];rfl
 unfold au
 cases e:atI xs i with
 |none=>rw [e] at this;cases this
 |some y=>rfl
theorem l7 {α:Type}[Enc α][Inhabited α]{xs:List α}{n:Int}(ha:JE a ρ s xs s1 w1)(hb:JE b ρ s1 n s2 w2)(h:-(xs.length:Int)<=n/\n<xs.length):JE (cW a b) ρ s (au xs n) s2 false:=by
 obtain⟨_,ea,_⟩:=ha;obtain⟨_,eb,_⟩:=hb
 refine⟨false,c_ ea eb ?_,nofun⟩
 show (L2.atI (xs.map enc) n).map _=_
 rw [tY,VM h];rfl
theorem JE.LY {α:Type}[Enc α][Inhabited α]{xs:List α}{n:Int}{o:Bool}(he:ρ[i]? = some (.aO (xs.map enc) o))(hb:JE b ρ s n s2 w2)(h:-(xs.length:Int)<=n/\n<xs.length):JE (SE.LY i b) ρ s (au xs n) s2 false:=by
 obtain⟨_,eb,_⟩:=hb
 refine⟨false,?_,nofun⟩
 rw [zW,he]
 show ((b.ev ρ s).bind _)=_
 rw [eb]
 show (L2.atI (xs.map enc) n).map _=_
 rw [tY,VM h];rfl
theorem JO.no:JO SO.no ρ s none s:=rfl
theorem JO.at {n:Int}(h:JE a ρ s n s1 w):JO (SO.at a) ρ s (some n) s1:=by
 obtain⟨_,e,_⟩:=h
 unfold JO
 rw [AA,e];rfl
theorem JE.sl {α:Type}[Enc α]{xs:List α}{lo hi:SO}{l h:Option Int}(ha:JE a ρ s xs s1 w1)(hl:JO lo ρ s1 l s2)(hh:JO hi ρ s2 h s3):JE (wC a lo hi) ρ s (cut xs l h) s3 false:=by
 obtain⟨_,ea,_⟩:=ha
 refine⟨eR ((cut xs l h).map enc),?_,nofun⟩
 rw [A9,ea]
 simp only [Kae]
 rw [hl]
 simp only [Kae]
 rw [hh]
 simp only [Kae]
 show (some (PyData.list (dY (xs.map enc) l h),eR (dY (xs.map enc) l h))).bind _=_
 rw [pU];rfl
theorem BJ {α:Type}[Enc α][Flat α]{xs:List α}{lo hi:SO}{l h:Option Int}(ha:JE a ρ s xs s1 w1)(hl:JO lo ρ s1 l s2)(hh:JO hi ρ s2 h s3):JE (wC a lo hi) ρ s (cut xs l h) s3 true:=by
 obtain⟨_,ea,_⟩:=ha
 refine⟨true,?_,λ_=>rfl⟩
 rw [A9,ea]
 simp only [Kae]
 rw [hl]
 simp only [Kae]
 rw [hh]
 simp only [Kae]
 show (some (PyData.list (dY (xs.map enc) l h),eR (dY (xs.map enc) l h))).bind _=_
 rw [pU,VQ];rfl
theorem jT {α:Type}[Enc α]{xs:List α}(ha:JE a ρ s xs s1 w1):JE (iB a) ρ s (xs.length:Int) s1 true:=by
 obtain⟨_,ea,_⟩:=ha
 refine⟨true,lR ea ?_,λ_=>rfl⟩
 show some (PyData.int ((xs.map enc).length:Nat),true)=_
 rw [Kaf];rfl
theorem JE.z_ {α:Type}[Enc α]{xs:List α}{o:Bool}(he:ρ[i]? = some (.aO (xs.map enc) o)):JE (SE.z_ i) ρ s (xs.length:Int) s true:=by
 refine⟨true,?_,λ_=>rfl⟩
 rw [uL,he]
 show some ((PyData.int ((xs.map enc).length:Nat),true),s)=_
 rw [Kaf];rfl
theorem BG {α:Type}[Enc α][Flat α]{xs ys:List α}(ha:JE a ρ s xs s1 w1)(hb:JE b ρ s1 ys s2 w2)(h:xs.length+ys.length<=100000):JE (xZ a b) ρ s (xs++ys) s2 true:=by
 obtain⟨_,ea,_⟩:=ha;obtain⟨_,eb,_⟩:=hb
 refine⟨true,c_ ea eb ?_,λ_=>rfl⟩
 show (if (xs.map enc).length+(ys.map enc).length<=100000 then some (PyData.list (xs.map enc++ys.map enc),eR (xs.map enc++ys.map enc)) else none)=_
 rw [if_pos (by simpa using h),<-KaH,VQ];rfl
theorem JE.Qm {xs:List Int}{x:Int}(ha:JE a ρ s x s1 w1)(hb:JE b ρ s1 xs s2 w2):JE (CV false a b) ρ s (decide (x∈xs)) s2 true:=by
 obtain⟨_,ea,_⟩:=ha;obtain⟨_,eb,_⟩:=hb
 exact⟨true,c_ ea eb (uG xs x),λ_=>rfl⟩
theorem JE.As {xs:List Int}{x:Int}(ha:JE a ρ s x s1 w1)(hb:JE b ρ s1 xs s2 w2):JE (CV true a b) ρ s (decide (x∉xs)) s2 true:=by
 obtain⟨_,ea,_⟩:=ha;obtain⟨_,eb,_⟩:=hb
 exact⟨true,c_ ea eb ((kW xs x).trans (by simp [enc])),λ_=>rfl⟩
theorem JE.sum {xs:List Int}(ha:JE a ρ s xs s1 w1):JE (SE.sum a) ρ s xs.sum s1 true:=by
 obtain⟨_,ea,_⟩:=ha
 exact⟨true,lR ea (by show (xV (xs.map PyData.int)).bind _=_;rw [Ky];rfl),λ_=>rfl⟩
theorem JE.all {xs:List Bool}(ha:JE a ρ s xs s1 w1):JE (SE.all a) ρ s (xs.all id) s1 true:=by
 obtain⟨_,ea,_⟩:=ha
 exact⟨true,lR ea (by show (xT (xs.map PyData.bool)).bind _=_;rw [Kw];rfl),λ_=>rfl⟩
theorem JE.any {xs:List Bool}(ha:JE a ρ s xs s1 w1):JE (SE.any a) ρ s (xs.any id) s1 true:=by
 obtain⟨_,ea,_⟩:=ha
 exact⟨true,lR ea (by show (xT (xs.map PyData.bool)).bind _=_;rw [Kw];rfl),λ_=>rfl⟩
theorem JE.ag {xs:List Int}(ha:JE a ρ s xs s1 w1):JE (Qg a) ρ s (sortI xs) s1 true:=by
 obtain⟨_,ea,_⟩:=ha
 exact⟨true,lR ea (by show (xV (xs.map PyData.int)).bind _=_;rw [Ky];rfl),λ_=>rfl⟩
theorem JT.ac {β:Type}[Enc β]{c:ST}{P:Prop}[Decidable P]{xs:List β}{o:Bool}(he:ρ[i]? = some (.aO (xs.map enc) o))(h:JT c (ρ.set i (.dat (enc xs))) s P s1):JT (P5 i c) ρ s P s1:=by
 unfold JT at h ⊢
 rw [lE,he];exact h
theorem JE.Hq {α:Type}[bj α]{xs:List α}{o:Bool}(he:ρ[i]? = some (.aO (xs.map enc) o))(hd:bj.dep α<=63:=by decide):JE (WQ i) ρ s (decide (xs≠[])) s true:=by
 refine⟨true,?_,λ_=>rfl⟩
 rw [nq,he]
 have sx:SeqAt.shaped (.list (xs.map enc))=true:=by
  unfold SeqAt.shaped
  have h1:(PyData.list (xs.map enc)).canLay0=true:=bj.lay xs
  have h2:(PyData.list (xs.map enc)).depth<=64:=Kaw (bj.cB xs) (by show bj.dep α+1<=64;omega)
  rw [h1,decide_eq_true h2];rfl
 show (if SeqAt.shaped (.list (xs.map enc))=true then _ else _)=_
 rw [if_pos sx]
 cases xs <;> simp [enc]
theorem JI.list {α:Type}[Enc α]{xs:List α}(h:JE a ρ s xs s1 w):JI (SI.list a) ρ s xs s1:=by
 obtain⟨_,e,_⟩:=h
 unfold JI
 rw [qp,e];rfl
theorem wj {n:Int}(h:JE a ρ s n s1 w)(hn:-1000000<=n/\n<=1000000):JI (rX a) ρ s (rng 0 n) s1:=by
 obtain⟨_,e,_⟩:=h
 unfold JI
 rw [kM,e]
 show (if -1000000<=n/\n<=1000000 then some (oX 0 n.toNat,s1) else none)=_
 rw [if_pos hn,qY]
 unfold rng
 rw [KaE,Int.sub_zero];rfl
theorem JI.down {m n:Int}(ha:JE a ρ s m s1 w1)(hb:JE b ρ s1 n s2 w2)(hn:(-1000000<=m/\m<=1000000)/\-1000000<=n/\n<=1000000):JI (SI.down a b) ρ s (Mw m n) s2:=by
 obtain⟨_,ea,_⟩:=ha;obtain⟨_,eb,_⟩:=hb
 unfold JI
 rw [qm,ea]
 simp only [Kae]
 rw [eb]
 show (if (-1000000<=m/\m<=1000000)/\-1000000<=n/\n<=1000000 then some (dO m (m-n).toNat,s2) else none)=_
 rw [if_pos hn,mL]
 unfold Mw
 rw [KaE];rfl
theorem JI.zip {α β:Type}[Enc α][Enc β]{xs:List α}{ys:List β}(ha:JE a ρ s xs s1 w1)(hb:JE b ρ s1 ys s2 w2):JI (SI.zip a b) ρ s (xs.zip ys) s2:=by
 obtain⟨_,ea,_⟩:=ha;obtain⟨_,eb,_⟩:=hb
 unfold JI
 rw [uI,ea]
 simp only [Kae]
 rw [eb]
 show some (dH (xs.map enc) (ys.map enc),s2)=_
 rw [nP]
theorem LN {α:Type}[Enc α]{xs:List α}(ha:JE a ρ s xs s1 w1):JI (GX a) ρ s (aT 0 xs) s1:=by
 obtain⟨_,ea,_⟩:=ha
 unfold JI
 rw [qo,ea]
 show some (fO 0 (xs.map enc),s1)=_
 rw [kr]
theorem JC.nil:JC SR.nil ρ s [] s:=rfl
theorem JC.cons {α:Type}[Enc α]{x:α}{r:SR}{sl:List Slot}(he:JE a ρ s x s1 w)(hr:JC r ρ s1 sl s2):JC (SR.cons a r) ρ s (.dat (enc x)::sl) s2:=by
 obtain⟨_,e,_⟩:=he
 unfold JC at hr ⊢
 rw [q7,e]
 simp [hr]
theorem hxb {r:SR}{sl:List Slot}(h:ρ[i]? = some .bC)(hr:JC r ρ s sl s2):JC (jU i r) ρ s (.bC::sl) s2:=by
 unfold JC at hr ⊢
 rw [AW,h]
 show ((r.ev ρ s).bind _)=_
 rw [hr];rfl
theorem JE.ac {α:Type}[Enc α]{m:Fn}{r:SR}{sl:List Slot}{x:α}(hr:JC r ρ s sl s1)(hm:JF m sl s1 x s2 w):JE (SE.ac m r) ρ s x s2 w:=by
 obtain⟨w',e,q⟩:=hm
 exact⟨w',by rw [ud,hr];exact e,q⟩
theorem O2 {α β:Type}[Enc α][Enc β]{g:SG}{tt:ST}{e:SE}{R:α->List Slot}{P:α->Prop}[DecidablePred P]{f:α->β}:∀{xs:List α},(∀x∈xs,g.ev (enc x) ρ=some (R x))->(∀x∈xs,JT tt (R x) s (P x) s)->(∀x∈xs,P x->JE e (R x) s (f x) s w) ->
  ∃ys:List Vl,bQ g.ev tt.ev e.ev ρ (xs.map enc) s=some (ys,s)/\ys.map (·.1)=((xs.filter λx=>decide (P x)).map f).map enc/\(w=true->ys.all dX=true)
 |[],_,_,_=>⟨[],rfl,rfl,λ_=>rfl⟩
 |x::xs,hg,ht,he=>by
  obtain⟨ys,i1,i2,i3⟩:=O2 (xs:=xs) (λy hy=>hg y (Kab _ hy)) (λy hy=>ht y (Kab _ hy)) λy hy=>he y (Kab _ hy)
  have h1:=hg x Kaa
  have h2:=ht x Kaa
  unfold JT at h2
  rw [Kag]
  by_cases p:P x
  ·obtain⟨w',e1,q1⟩:=he x Kaa p
   refine⟨(enc (f x),w')::ys,?_,?_,?_⟩
   ·unfold bQ
    rw [h1];simp only [Kae]
    rw [h2];simp only [Kae]
    rw [if_pos (decide_eq_true p),e1];simp only [Kae]
    rw [i1];rfl
   ·rw [KaW (by simpa using p),Kag,Kag,Kag,i2]
   ·intro hw
    rw [Ka1,i3 hw]
    simp [dX,q1 hw]
  ·refine⟨ys,?_,?_,i3⟩
   ·unfold bQ
    rw [h1];simp only [Kae]
    rw [h2];simp only [Kae]
    rw [if_neg (by simpa using p),i1]
   ·rw [KaZ (by simpa using p),i2]
theorem Pe {β:Type}[Enc β][Flat β]:∀{ys:List Vl} {zs:List β},ys.map (·.1)=zs.map enc->ys.all dX=true
 |[],_,_=>rfl
 |y::ys,[],h=>by cases h
 |y::ys,z::zs,h=>by
  rw [Kag,Kag] at h
  injection h with h1 h2
  rw [Ka1,Pe h2]
  simp [dX,h1,Flat.fl]
section
variable {α β:Type}[Enc α][Enc β]{it:SI}{g:SG}{tt:ST}{e:SE}{vs:List Nat}{hv:∀i∈g.ix,i∈vs}{xs:List α}{f:α->β}
theorem JE.lc {P:α->Prop}[DecidablePred P](R:α->List Slot)(hi:JI it ρ s xs s1)(hg:∀x,g.ev (enc x) (aU ρ vs)=some (R x))(ht:∀x∈xs,JT tt (R x) s1 (P x) s1)(he:∀x∈xs,P x->JE e (R x) s1 (f x) s1 w)(hl:(xs.filter λx=>decide (P x)).length<=100000):
  JE (fB it g tt e vs hv) ρ s ((xs.filter λx=>decide (P x)).map f) s1 w:=by
 obtain⟨ys,c1,c2,c3⟩:=O2 (g:=g) (w:=w) (λx _=>hg x) ht he
 have hlen:ys.length<=100000:=by
  have:=congrArg KbX c2
  simp only [Kaf] at this
  omega
 refine⟨ys.all dX,?_,c3⟩
 unfold JI at hi
 rw [uK,hi];simp only [Kae]
 rw [c1];simp only [Kae]
 rw [if_pos hlen,c2];rfl
theorem GU [Flat β]{P:α->Prop}[DecidablePred P](R:α->List Slot)(hi:JI it ρ s xs s1)(hg:∀x,g.ev (enc x) (aU ρ vs)=some (R x))(ht:∀x∈xs,JT tt (R x) s1 (P x) s1)(he:∀x∈xs,P x->JE e (R x) s1 (f x) s1 w)(hl:(xs.filter λx=>decide (P x)).length<=100000):
  JE (fB it g tt e vs hv) ρ s ((xs.filter λx=>decide (P x)).map f) s1 true:=by
 obtain⟨ys,c1,c2,c3⟩:=O2 (g:=g) (w:=w) (λx _=>hg x) ht he
 have hlen:ys.length<=100000:=by
  have:=congrArg KbX c2
  simp only [Kaf] at this
  omega
 refine⟨true,?_,λ_=>rfl⟩
 unfold JI at hi
 rw [uK,hi];simp only [Kae]
 rw [c1];simp only [Kae]
 rw [if_pos hlen,Pe c2,c2];rfl
theorem Kf (xs:List α):xs.filter (λ_=>decide True)=xs:=KbY.mpr (by intros;rfl)
theorem Jz (R:α->List Slot)(hi:JI it ρ s xs s1)(hg:∀x,g.ev (enc x) (aU ρ vs)=some (R x))(he:∀x∈xs,JE e (R x) s1 (f x) s1 w)(hl:xs.length<=100000):
  JE (fB it g cL e vs hv) ρ s (xs.map f) s1 w:=by
 have:=JE.lc (P:=λ_=>True) (hv:=hv) R hi hg (λ_ _=>JT.yes) (λx hx _=>he x hx) (by rw [Kf];exact hl)
 rwa [Kf] at this
theorem CQ [Flat β](R:α->List Slot)(hi:JI it ρ s xs s1)(hg:∀x,g.ev (enc x) (aU ρ vs)=some (R x))(he:∀x∈xs,JE e (R x) s1 (f x) s1 w)(hl:xs.length<=100000):
  JE (fB it g cL e vs hv) ρ s (xs.map f) s1 true:=by
 have:=GU (P:=λ_=>True) (hv:=hv) R hi hg (λ_ _=>JT.yes) (λx hx _=>he x hx) (by rw [Kf];exact hl)
 rwa [Kf] at this
theorem JE.G9 [Flat α]{P:α->Prop}[DecidablePred P](R:α->List Slot)(hi:JI it ρ s xs s1)(hg:∀x,g.ev (enc x) (aU ρ vs)=some (R x))(ht:∀x∈xs,JT tt (R x) s1 (P x) s1)(he:∀x∈xs,P x->JE e (R x) s1 x s1 w)(hl:(xs.filter λx=>decide (P x)).length<=100000):
  JE (fB it g tt e vs hv) ρ s (xs.filter λx=>decide (P x)) s1 true:=by
 have:=GU (f:=λx=>x) (hv:=hv) R hi hg ht he hl
 rwa [List.map_id'] at this
end
/-- a comprehension dF draws -/
def bU {α β:Type}(t:α->ae->Bool×ae)(f:α->ae->β×ae):List α->ae->List β×ae
 |[],s=>([],s)
 |x::xs,s=>if (t x s).1=true then ((f x (t x s).2).1::(bU t f xs (f x (t x s).2).2).1,(bU t f xs (f x (t x s).2).2).2) else bU t f xs (t x s).2
/-- all turns of a comprehension dF draws are N7 -/
def EK {α β:Type}(t:α->ae->Bool×ae)(f:α->ae->β×ae)(dt df:α->ae->Prop):List α->ae->Prop
 |[],_=>True
 |x::xs,s=>dt x s/\if (t x s).1=true then df x (t x s).2/\EK t f dt df xs (f x (t x s).2).2 else EK t f dt df xs (t x s).2
theorem VP {α β:Type}[Enc α][Enc β]{g:SG}{tt:ST}{e:SE}{R:α->List Slot}{t:α->ae->Bool×ae}{f:α->ae->β×ae}{dt df:α->ae->Prop}(hg:∀x,g.ev (enc x) ρ=some (R x))(ht:∀x s,dt x s->JT tt (R x) s ((t x s).1=true) (t x s).2)(he:∀x s,df x s->JE e (R x) s (f x s).1 (f x s).2 w):∀{xs:List α} {s:ae},EK t f dt df xs s ->
  ∃ys:List Vl,bQ g.ev tt.ev e.ev ρ (xs.map enc) s=some (ys,(bU t f xs s).2)/\ys.map (·.1)=((bU t f xs s).1).map enc/\(w=true->ys.all dX=true)
 |[],s,_=>⟨[],rfl,rfl,λ_=>rfl⟩
 |x::xs,s,hd=>by
  obtain⟨d1,d2⟩:=hd
  have h2:=ht x s d1
  unfold JT at h2
  rw [Kbx] at h2
  rw [Kag]
  by_cases p:(t x s).1=true
  ·rw [if_pos p] at d2
   obtain⟨w',e1,q1⟩:=he x _ d2.1
   obtain⟨ys,i1,i2,i3⟩:=VP hg ht he (xs:=xs) d2.2
   refine⟨(enc (f x (t x s).2).1,w')::ys,?_,?_,?_⟩
   ·unfold bQ bU
    rw [hg x];simp only [Kae]
    rw [h2];simp only [Kae]
    rw [if_pos p,if_pos p,e1];simp only [Kae]
    rw [i1];rfl
   ·unfold bU
    rw [if_pos p,Kag,i2];rfl
   ·intro hw
    rw [Ka1,i3 hw]
    simp [dX,q1 hw]
  ·rw [if_neg p] at d2
   obtain⟨ys,i1,i2,i3⟩:=VP hg ht he (xs:=xs) d2
   refine⟨ys,?_,?_,i3⟩
   ·unfold bQ bU
    rw [hg x];simp only [Kae]
    rw [h2];simp only [Kae]
    rw [if_neg p,if_neg p,i1]
   ·unfold bU
    rw [if_neg p,i2]
section
variable {α β:Type}[Enc α][Enc β]{it:SI}{g:SG}{tt:ST}{e:SE}{vs:List Nat}{hv:∀i∈g.ix,i∈vs}{xs:List α}
theorem JE.Mc [Flat β]{t:α->ae->Bool×ae}{f:α->ae->β×ae}{dt df:α->ae->Prop}(R:α->List Slot)(hi:JI it ρ s xs s1)(hg:∀x,g.ev (enc x) (aU ρ vs)=some (R x))(ht:∀x s,dt x s->JT tt (R x) s ((t x s).1=true) (t x s).2)(he:∀x s,df x s->JE e (R x) s (f x s).1 (f x s).2 w)(hd:EK t f dt df xs s1)(hl:(bU t f xs s1).1.length<=100000):
  JE (fB it g tt e vs hv) ρ s (bU t f xs s1).1 (bU t f xs s1).2 true:=by
 obtain⟨ys,c1,c2,c3⟩:=VP (g:=g) (w:=w) hg ht he hd
 have hlen:ys.length<=100000:=by
  have:=congrArg KbX c2
  simp only [Kaf] at this
  omega
 refine⟨true,?_,λ_=>rfl⟩
 unfold JI at hi
 rw [uK,hi];simp only [Kae]
 rw [c1];simp only [Kae]
 rw [if_pos hlen,Pe c2,c2];rfl
end
end
end Pu
namespace Pu
variable [aR]
open PySem L2 Enc
def dh (i:Nat)(e:SE):SS where
 t:=λK=>tAsg (e.t K) (gName i)
 ev:=λρ s=>(e.ev ρ s).bind λx=>some (.nx (ρ.set i (.dat x.1.1)) x.2)
 ok:=by
  intro K sk F0 H0 F H σ ρ aj s out D w h q
  obtain⟨⟨x,s1⟩,h1,h2⟩:=aI h
  cases h2
  refine e.ok K w.pre h1 λv F1 H1 as st k r f=>?_
  obtain⟨aF,w'⟩:=(w.next st k).oQ (i:=i) r
  exact q F1 H1 _ aF st.sub w'
def l6 (i:Nat)(e:SE)(r:SP):SP where
 t:=λK=>tCons (e.t K) (r.t K)
 ts:=i::r.ts
 ev:=λρ cf s=>(e.ev ρ s).bind λx=>r.ev ρ (cf.set i (.dat x.1.1)) x.2
 ok:=by
  intro K sk F0 H0 F H σ nQ ρ cf iw aj cu s s' Q p w h q
  obtain⟨⟨x,s1⟩,h1,h2⟩:=aI h
  refine e.ok K p h1 λv F1 H1 as st k rr f=>?_
  obtain⟨fa,wa⟩:=(w.next st k).oQ (i:=i) rr
  refine r.ok K (p.next st k) wa h2 λvs F2 H2 fv sF w2 hl=>?_
  exact q (v::vs) F2 H2 fv (st.sub.trans sF) w2 (by rw [Kad,Kad,hl])
theorem Wd.forget {sk:Option Addr}{F0 H0 F H:Hp}{σ:L2.St}{s:ae}:∀(is:List Nat) {ρ:List Slot} {aj:List (List Addr)},Wd sk F0 H0 F H σ ρ aj s->∃aF,Wd sk F0 H0 F H σ (aU ρ is) aF s
 |[],ρ,aj,w=>⟨aj,w⟩
 |i::is,ρ,aj,w=>by
  obtain⟨f1,w1⟩:=w.forget is
  exact⟨f1.set i [],w1.st,w1.aW,w1.slots.drop,w1.dj.sublist nU,λa m=>w1.bR a (nU.mem m)⟩
def Ii (is:List Nat):Out->Out
 |.nx ρ s=>.nx (aU ρ is) s
 |.ret v s=>.ret v s
 |.brk ρ s=>.brk (aU ρ is) s
 |.cnt ρ s=>.cnt (aU ρ is) s
/-- a,behind which some names are Jj -/
def fu (is:List Nat)(a:SS):SS where
 t:=a.t
 ev:=λρ s=>(a.ev ρ s).map (Ii is)
 ok:=by
  intro K sk F0 H0 F H σ ρ aj s out D w h q
  obtain⟨o,h1,rfl⟩:=Kam.mp h
  refine a.ok K w h1 ?_
  cases o with
  |nx ρ' s'=>
   intro F' H' σ' aF e w'
   obtain⟨f2,w2⟩:=w'.forget is
   exact q F' H' σ' f2 e w2
  |brk ρ' s'=>
   intro F' H' σ' aF e w'
   obtain⟨f2,w2⟩:=w'.forget is
   exact q F' H' σ' f2 e w2
  |cnt ρ' s'=>
   intro F' H' σ' aF e w'
   obtain⟨f2,w2⟩:=w'.forget is
   exact q F' H' σ' f2 e w2
  |ret v s'=>exact q
/-- a yN list is done -/
def GS (i:Nat)(b:SS):SS where
 t:=b.t
 ev:=λρ s=>match ρ[i]? with
  |some (.aO ds o)=>b.ev (ρ.set i (.dat (.list ds))) s
  |_=>none
 ok:=by
  intro K sk F0 H0 F H σ ρ aj s out D w h q
  dsimp only at h
  split at h
  ·rename_i ds o cF
   obtain⟨x,fp,e1,e2,a,vs,as,rfl,hH,hF,r,rfl⟩:=w.slots.get cF
   have fa:a∈aj.flatten:=KaB.mpr ⟨_,Kat e2,Kaa⟩
   obtain⟨a0,a1,a2⟩:=w.bR a fa
   obtain⟨n1,n2⟩:=yP w.dj e2
   have n3:=Kaj.mp n1
   have na:a∉(aj.set i []).flatten:=λm=>n3.2.2 a Kaa a m rfl
   have sF:Same F (L2.upd F a (.lst vs)):=λb u e=>by rw [upd_ne (ne_of_none e hF)];exact e
   have st':Step sk F0 H0 (L2.upd F a (.lst vs)) H:=by
    refine⟨w.st.sub.trans sF,λb u e=>?_,λa o x y z=>w.st.fr a o x y z,w.st.dm,λb u e=>?_⟩
    ·by_cases z:b=a
     ·rw [z,upd_same] at e;rw [z,<-e];exact hH
     ·rw [upd_ne z] at e;exact w.st.sub' b u e
    ·by_cases z:b=a
     ·rw [z];exact .inr a0
     ·rw [upd_ne z] at e;exact w.st.new b u e
   have dD:aZ sk (L2.upd F a (.lst vs)) H s:=⟨λb e=>⟨(w.aW b e).1,by rw [upd_ne (λz=>a2 (by rw [<-z];exact e))];exact (w.aW b e).2⟩,w.aW.tab.xw⟩
   have sl:=(w.slots.drop (i:=i)).upd (a:=a) (o:=.lst vs) na hF
   have rp:Rp (L2.upd F a (.lst vs)) (.ref a) (.list ds) (a::as):=.lst upd_same (r.mono sF)
   have sl2:=sl.fill (sl:=.dat (.list ds)) e1 ⟨rfl,_,_,rfl,rp⟩
   rw [KaK,KaK] at sl2
   exact b.ok K ⟨st',dD,sl2,w.dj.sublist nU,λb m=>w.bR b (nU.mem m)⟩ h (q.mono sF)
  ·cases h
/-- xs.append(e),of a list dF Cp not own what it holds -/
def LG (i:Nat)(e:SE):SS where
 t:=λK=>tDrop (tBM K "list" rAppend (tVar i) (tCons (e.t K) tNil))
 ev:=λρ s=>match ρ[i]? with
  |some (.aO ds o)=>(e.ev ρ s).bind λx=>if ds.length<100000 then some (.nx (ρ.set i (.aO (ds++[x.1.1]) false)) x.2) else none
  |_=>none
 ok:=by
  intro K sk F0 H0 F H σ ρ aj s out D w h q
  dsimp only at h
  split at h
  ·rename_i ds o cF
   obtain⟨⟨x,s1⟩,h1,h2⟩:=aI h
   dsimp only at h2
   split at h2
   ·rename_i hl
    cases h2
    obtain⟨xv,fp,e1,e2,a,vs,as,rfl,hH,hF,r,rfl⟩:=w.slots.get cF
    refine⟨.ref a,e1,.inl ⟨rfl,vs,.inl (.inl hH)⟩,?_⟩
    refine e.ok K w.pre h1 λv F1 H1 bs st k rr f=>?_
    have fa:a∈aj.flatten:=KaB.mpr ⟨_,Kat e2,Kaa⟩
    have cU:=(w.bR a fa).2.2
    have oZ:H1 a=some (.lst vs):=st.fr a _ cU hH
    have zJ:F1 a=none:=by
     cases z:F1 a with
     |none=>rfl
     |some u=>
      rcases st.new a u z with y|y
      ·rw [hF] at y;cases y
      ·rw [hH] at y;cases y
    refine⟨a,vs,v,rfl,rfl,oZ,by rw [r.len];exact Ka7 hl (by decide),?_⟩
    have w1:=w.next st k
    have Mx:ao F1 (vs++[v]) (ds++[x.1]) (as++(bs++[])):=(r.mono st.sub).app (.cons rr .nil)
    rw [KaC] at Mx
    obtain⟨aF,w2⟩:=w1.grow (o':=false) e1 e2 oZ zJ Mx λeo=>by cases eo
    exact q F1 _ σ aF st.sub w2
   ·cases h2
  ·cases h
def lt {α β:Type}(v:α)(f:α->β):β:=f v
def bG {α:Type}(v:α)(f:α->Prop):Prop:=f v
def bY {α β:Type}(v:α×ae)(f:α->ae->β):β:=f v.1 v.2
def b_ {α:Type}(v:α×ae)(f:α->ae->Prop):Prop:=f v.1 v.2
theorem b5 {α:Type}{v p:α}{f:α->Prop}(h:bG v f)(e:p=v):f p:=e ▸ h
theorem mF {α:Type}{v:α×ae}{x:α}{s:ae}{f:α->ae->Prop}(h:b_ v f)(e:v=(x,s)):f x s:=by subst e;exact h
def cY {α σ β:Type}(v:α ⊕ σ)(f:α->β)(g:σ->β):β:=match v with
 |.inl r=>f r
 |.inr st=>g st
def bW {α σ:Type}(f:σ->α->σ)(d:σ->α->Prop):List α->σ->Prop
 |[],_=>True
 |x::xs,st=>d st x/\bW f d xs (f st x)
def forR {α σ ρ:Type}(f:σ->α->ρ ⊕ σ):List α->σ->ρ ⊕ σ
 |[],st=>.inr st
 |x::xs,st=>cY (f st x) .inl (forR f xs)
def fP {α σ ρ:Type}(f:σ->α->ρ ⊕ σ)(d:σ->α->Prop):List α->σ->Prop
 |[],_=>True
 |x::xs,st=>d st x/\cY (f st x) (λ_=>True) (fP f d xs)
def jS {σ:Type}(c:σ->Prop)[DecidablePred c](f:σ->σ):Nat->σ->σ
 |0,st=>st
 |n+1,st=>if c st then jS c f n (f st) else st
def rT {σ:Type}(c:σ->Prop)(f:σ->σ)(dc d:σ->Prop):Nat->σ->Prop
 |0,_=>False
 |n+1,st=>dc st/\(c st->d st/\rT c f dc d n (f st))
def JB (b:SS)(ρ:List Slot)(s:ae)(Φ:Out->Prop):Prop:=∃o,b.ev ρ s=some o/\Φ o
def JN (b:SS)(ρ:List Slot)(s:ae)(ρ':List Slot)(s':ae):Prop:=b.ev ρ s=some (.nx ρ' s')
def JP (p:SP)(ρ cf:List Slot)(s:ae)(ρ':List Slot)(s':ae):Prop:=p.ev ρ cf s=some (ρ',s')
def jt {α:Type}[Enc α](w:Bool)(s':ae)(x:α):Out->Prop:=λo=>∃w',o=.ret (enc x,w') s'/\(w=true->w'=true)
def yf {α:Type}[Enc α](w:Bool)(p:α×ae):Out->Prop:=jt w p.2 p.1
def Bo {σ:Type}(J:σ->List Slot)(s':ae)(x:σ):Out->Prop:=λo=>o=.nx (J x) s'
def Il {σ:Type}(J:σ->List Slot)(p:σ×ae):Out->Prop:=Bo J p.2 p.1
def Ik {α σ:Type}[Enc α](w:Bool)(J:σ->List Slot)(s':ae)(x:α ⊕ σ):Out->Prop:=match x with
 |.inl r=>jt w s' r
 |.inr st=>Bo J s' st
/-- a def dF ends without return -/
def BO (s':ae)(_:Unit):Out->Prop:=λo=>∃ρ',o=.nx ρ' s'
def d_ (Φ:Out->Prop):Prop:=∀o,Φ o->∃v s,o=.ret v s
section
variable {ρ aB cI:List Slot}{s s1 s2 s3:ae}{e e2:SE}{i j k:Nat}{w w1 w2:Bool}{a b A B rest:SS}{Φ:Out->Prop}{c:ST}{P:Prop}[Decidable P]
theorem JD {α:Type}[Enc α]{x:α}:d_ (jt w s x):=λo ⟨w',h,_⟩=>⟨_,_,h⟩
theorem d_.ps {α:Type}[Enc α]{x:α×ae}:d_ (yf w x):=λo ⟨w',h,_⟩=>⟨_,_,h⟩
theorem a_ {α β:Type}{Ψ:β->Out->Prop}{v:α}{f:α->β}(h:∀p,p=v->JB b ρ s (Ψ (f p))):JB b ρ s (Ψ (lt v f)):=h v rfl
theorem kI {α β:Type}{Ψ:β->Out->Prop}{v:α×ae}{f:α->ae->β}(h:∀x s',v=(x,s')->JB b ρ s (Ψ (f x s'))):JB b ρ s (Ψ (bY v f)):=h v.1 v.2 rfl
theorem JB.ab (ha:JN a ρ s aB s1)(hb:JB b aB s1 Φ):JB (SS.ab a b) ρ s Φ:=by
 obtain⟨o,h,q⟩:=hb
 refine⟨o,?_,q⟩
 unfold JN at ha
 rw [v9,ha];exact h
theorem JB.ac (ha:JN a ρ s aB s1)(h:Φ (.nx aB s1)):JB a ρ s Φ:=⟨_,ha,h⟩
theorem JB.al (h:Φ (.nx ρ s)):JB SS.ag ρ s Φ:=⟨_,rfl,h⟩
theorem xY (h:JB b ρ s Φ):JB (SS.ab SS.ag b) ρ s Φ:=h
theorem JB.never (h:False):JB LH ρ s Φ:=h.elim
theorem JB.ag {α:Type}[Enc α]{x:α}(h:JE e ρ s x s1 w):JB (SS.ac e) ρ s (jt w s1 x):=by
 obtain⟨w',e1,q⟩:=h
 exact⟨_,by rw [AU,e1];rfl,w',rfl,q⟩
theorem Qj {α:Type}[Enc α]{x:α}(h:JE e ρ s x s1 w):JB (SS.ac e) ρ s (yf w (x,s1)):=JB.ag h
theorem wB {β:Type}{Ψ:β->Out->Prop}{x y:β}(hc:JT c ρ s P s1)(hA:P->JB A ρ s1 (Ψ x))(hB:¬P->JB B ρ s1 (Ψ y)):JB (dW c A B) ρ s (Ψ (if P then x else y)):=by
 unfold JT at hc
 by_cases p:P
 ·obtain⟨o,h,q⟩:=hA p
  exact⟨o,by rw [zb,hc];simp [p,h],by rw [if_pos p];exact q⟩
 ·obtain⟨o,h,q⟩:=hB p
  exact⟨o,by rw [zb,hc];simp [p,h],by rw [if_neg p];exact q⟩
/-- if c: A,which returns;else B;then bJ rest -/
theorem zP {β:Type}{Ψ:β->Out->Prop}{x y:β}(hc:JT c ρ s P s1)(hA:P->JB A ρ s1 (Ψ x))(hr:P->d_ (Ψ x))(hB:¬P->JB (SS.ab B rest) ρ s1 (Ψ y)):JB (SS.ab (dW c A B) rest) ρ s (Ψ (if P then x else y)):=by
 unfold JT at hc
 by_cases p:P
 ·obtain⟨o,h,q⟩:=hA p
  obtain⟨v,s',rfl⟩:=hr p o q
  exact⟨.ret v s',by rw [v9,zb,hc];simp [p,h],by rw [if_pos p];exact q⟩
 ·obtain⟨o,h,q⟩:=hB p
  rw [v9] at h
  exact⟨o,by rw [v9,zb,hc];simpa [p] using h,by rw [if_neg p];exact q⟩
/-- both ways go on -/
theorem JN.ZS {σ:Type}{J:σ->List Slot}{va vb p:σ}(hc:JT c ρ s P s1)(hA:P->JB A ρ s1 (Bo J s1 va))(hB:¬P->JB B ρ s1 (Bo J s1 vb))(e:p=if P then va else vb):JN (dW c A B) ρ s (J p) s1:=by
 unfold JT at hc
 unfold JN
 subst e
 by_cases p:P
 ·obtain⟨o,h,rfl⟩:=hA p
  rw [zb,hc];simp [p,h]
 ·obtain⟨o,h,rfl⟩:=hB p
  rw [zb,hc];simp [p,h]
theorem JN.LU {σ:Type}{J:σ->List Slot}{va vb:σ×ae}{p:σ}(hc:JT c ρ s P s1)(hA:P->JB A ρ s1 (Il J va))(hB:¬P->JB B ρ s1 (Il J vb))(e:(if P then va else vb)=(p,s2)):JN (dW c A B) ρ s (J p) s2:=by
 unfold JT at hc
 unfold JN
 by_cases q:P
 ·obtain⟨o,h,rfl⟩:=hA q
  rw [if_pos q] at e
  subst e
  rw [zb,hc];simp [q,h]
 ·obtain⟨o,h,rfl⟩:=hB q
  rw [if_neg q] at e
  subst e
  rw [zb,hc];simp [q,h]
theorem JN.set {α:Type}[Enc α]{x:α}(h:JE e ρ s x s1 w):JN (dh i e) ρ s (ρ.set i (.dat (enc x))) s1:=by
 obtain⟨w',h,_⟩:=h
 show ((e.ev ρ s).bind λx=>some (Out.nx (ρ.set i (.dat x.1.1)) x.2))=_
 rw [h];rfl
theorem LS {α:Type}[Enc α]{x:α}(h:JE e ρ s x s1 w):JN (GY e) ρ s ρ s1:=by
 obtain⟨w',h,_⟩:=h
 unfold JN
 rw [uo,h];rfl
theorem wk {α:Type}[Enc α]{x:α}{g:SG}(h:JE e ρ s x s1 w)(hg:g.ev (enc x) ρ=some aB):JN (sU g e) ρ s aB s1:=by
 obtain⟨w',h,_⟩:=h
 unfold JN
 rw [tW,h]
 simp only [Kae]
 rw [hg];rfl
theorem JN.aug {x y:Int}{f:Int->Int->Int}(hi:ρ[i]? = some (.dat (enc x)))(h:JE e ρ s y s1 w):JN (SS.am i e f) ρ s (ρ.set i (.dat (enc (f x y)))) s1:=by
 obtain⟨w',h,_⟩:=h
 unfold JN
 rw [yy,hi]
 show ((e.ev ρ s).bind _)=_
 rw [h];rfl
theorem JP.nil:JP SP.nil ρ aB s aB s:=rfl
theorem JP.cons {α:Type}[Enc α]{x:α}{p:SP}(h:JE e ρ s x s1 w)(hp:JP p ρ (aB.set i (.dat (enc x))) s1 cI s2):JP (l6 i e p) ρ aB s cI s2:=by
 obtain⟨w',h,_⟩:=h
 show ((e.ev ρ s).bind λx=>p.ev ρ (aB.set i (.dat x.1.1)) x.2)=_
 rw [h];exact hp
theorem JP.Ml {p:SP}(hp:JP p ρ (aB.set i (.aO [] true)) s cI s2):JP (Ju i p) ρ aB s cI s2:=hp
theorem hxc {p:SP}{hp:p.ts=[i,j]}(h:JP p ρ ρ s aB s1):JN (uz i j p hp) ρ s aB s1:=by
 unfold JN;unfold JP at h
 rw [AD,h];rfl
theorem JN.yu {p:SP}{hp:p.ts=[i,j]}(h:JP p ρ ρ s aB s1):JN (SS.yu i j p hp) ρ s aB s1:=by
 unfold JN;unfold JP at h
 rw [tX,h];rfl
theorem P6 {α:Type}[Enc α]{xs:List α}(h:JE e ρ s xs s1 true):JN (Jy i (SB.own e)) ρ s (ρ.set i (.aO (xs.map enc) true)) s1:=by
 obtain⟨w',h,q⟩:=h
 have:=q rfl
 subst this
 unfold JN
 rw [rA,Wt,h];rfl
theorem JN.append {α:Type}[Enc α]{x:α}{xs:List α}{o:Bool}(hi:ρ[i]? = some (.aO (xs.map enc) o))(h:JE e ρ s x s1 true)(hl:xs.length<100000):JN (EL i e) ρ s (ρ.set i (.aO ((xs++[x]).map enc) o)) s1:=by
 obtain⟨w',h,q⟩:=h
 have:=q rfl
 subst this
 unfold JN
 rw [U_,hi]
 show ((e.ev ρ s).bind _)=_
 rw [h]
 simp only [Kae]
 rw [if_pos (by simpa using hl),KaH]
 simp [dX]
theorem WO {α:Type}[Enc α][Flat α]{x:α}{xs:List α}{o:Bool}(hi:ρ[i]? = some (.aO (xs.map enc) o))(h:JE e ρ s x s1 w)(hl:xs.length<100000):JN (EL i e) ρ s (ρ.set i (.aO ((xs++[x]).map enc) o)) s1:=by
 obtain⟨w',h,q⟩:=h
 unfold JN
 rw [U_,hi]
 show ((e.ev ρ s).bind _)=_
 rw [h]
 simp only [Kae]
 rw [if_pos (by simpa using hl),KaH]
 simp [dX,Flat.fl]
theorem P4 {α:Type}[Enc α]{x:α}{xs:List α}{o:Bool}(hi:ρ[i]? = some (.aO (xs.map enc) o))(h:JE e ρ s x s1 w)(hl:xs.length<100000):JN (LG i e) ρ s (ρ.set i (.aO ((xs++[x]).map enc) false)) s1:=by
 obtain⟨w',h,q⟩:=h
 show (match ρ[i]? with|some (.aO ds o)=>(e.ev ρ s).bind λx=>if ds.length<100000 then some (Out.nx (ρ.set i (.aO (ds++[x.1.1]) false)) x.2) else none|_=>none)=_
 rw [hi]
 show ((e.ev ρ s).bind _)=_
 rw [h]
 simp only [Kae]
 rw [if_pos (by simpa using hl),KaH]
 rfl
theorem JB.frz {α:Type}[Enc α]{xs:List α}{o:Bool}(hi:ρ[i]? = some (.aO (xs.map enc) o))(h:JB b (ρ.set i (.dat (enc xs))) s Φ):JB (GS i b) ρ s Φ:=by
 obtain⟨o',h,q⟩:=h
 refine⟨o',?_,q⟩
 show (match ρ[i]? with|some (.aO ds o)=>b.ev (ρ.set i (.dat (.list ds))) s|_=>none)=_
 rw [hi];exact h
section
variable {α σ:Type}[Enc α]{it:SI}{g:SG}{xs:List α}
theorem zq {J:σ->List Slot}{R:σ->α->List Slot}{f:σ->α->σ}{d:σ->α->Prop}(hg:∀st x,g.ev (enc x) (J st)=some (R st x))(hb:∀st x,d st x->JB b (R st x) s (Bo J s (f st x))):∀{xs:List α} {st:σ},bW f d xs st->forL g.ev b.ev (xs.map enc) (J st) s=some (.nx (J (xs.foldl f st)) s)
 |[],st,_=>rfl
 |x::xs,st,h=>by
  obtain⟨h1,h2⟩:=h
  obtain⟨o,e,rfl⟩:=hb st x h1
  rw [Kag]
  unfold forL
  rw [hg];simp only [Kae]
  rw [e]
  exact zq hg hb h2
theorem wm {J:σ->List Slot}{R:σ->α->List Slot}{f:σ->α->σ}{d:σ->α->Prop}{st p:σ}(hi:JI it ρ s xs s1)(e0:ρ=J st)(hg:∀st x,g.ev (enc x) (J st)=some (R st x))(hb:∀st x,d st x->JB b (R st x) s1 (Bo J s1 (f st x)))(hd:bW f d xs st)(e:p=xs.foldl f st):JN (lH it g b) ρ s (J p) s1:=by
 unfold JN;unfold JI at hi
 rw [Gv,hi]
 subst e0 e
 exact zq hg hb hd
theorem zw {J:σ->List Slot}{R:σ->α->List Slot}{f:σ×ae->α->σ×ae}{d:σ×ae->α->Prop}(hg:∀st x,g.ev (enc x) (J st)=some (R st x))(hb:∀st s x,d (st,s) x->JB b (R st x) s (Il J (f (st,s) x))):∀{xs:List α} {p:σ×ae},bW f d xs p->forL g.ev b.ev (xs.map enc) (J p.1) p.2=some (.nx (J (xs.foldl f p).1) (xs.foldl f p).2)
 |[],p,_=>rfl
 |x::xs,(st,s),h=>by
  obtain⟨h1,h2⟩:=h
  obtain⟨o,e,rfl⟩:=hb st s x h1
  rw [Kag]
  unfold forL
  rw [hg];simp only [Kae]
  rw [e]
  exact zw hg hb h2
theorem JN.U3 {J:σ->List Slot}{R:σ->α->List Slot}{f:σ×ae->α->σ×ae}{d:σ×ae->α->Prop}{st p:σ}(hi:JI it ρ s xs s1)(e0:ρ=J st)(hg:∀st x,g.ev (enc x) (J st)=some (R st x))(hb:∀st s x,d (st,s) x->JB b (R st x) s (Il J (f (st,s) x)))(hd:bW f d xs (st,s1))(e:xs.foldl f (st,s1)=(p,s2)):JN (lH it g b) ρ s (J p) s2:=by
 unfold JN;unfold JI at hi
 rw [Gv,hi]
 subst e0
 have:=zw (p:=(st,s1)) hg hb hd
 rw [e] at this
 exact this
theorem zu {γ:Type}[Enc γ]{J:σ->List Slot}{R:σ->α->List Slot}{f:σ->α->γ ⊕ σ}{d:σ->α->Prop}(hg:∀st x,g.ev (enc x) (J st)=some (R st x))(hb:∀st x,d st x->JB b (R st x) s (Ik w J s (f st x))):∀{xs:List α} {st:σ},fP f d xs st->∃o,forL g.ev b.ev (xs.map enc) (J st) s=some o/\Ik w J s (forR f xs st) o
 |[],st,_=>⟨_,rfl,rfl⟩
 |x::xs,st,h=>by
  obtain⟨h1,h2⟩:=h
  obtain⟨o,e,q⟩:=hb st x h1
  rw [Kag]
  unfold forL forR
  rw [hg];simp only [Kae]
  rw [e];simp only [Kae]
  cases hf:f st x with
  |inl r=>
   rw [hf] at q
   obtain⟨w',rfl,q2⟩:=q
   exact⟨_,rfl,w',rfl,q2⟩
  |inr st'=>
   rw [hf] at q h2
   cases (show o=.nx (J st') s from q)
   exact zu hg hb h2
/-- a loop dF may return;then bJ rest -/
theorem JB.am {β γ:Type}[Enc γ]{J:σ->List Slot}{R:σ->α->List Slot}{f:σ->α->γ ⊕ σ}{d:σ->α->Prop}{st:σ}{Ψ:β->Out->Prop}{inj:γ->β}{F:σ->β}(hi:JI it ρ s xs s1)(e0:ρ=J st)(hg:∀st x,g.ev (enc x) (J st)=some (R st x))(hb:∀st x,d st x->JB b (R st x) s1 (Ik w J s1 (f st x)))(hd:fP f d xs st)
  (hr:∀r o,jt w s1 r o->Ψ (inj r) o) (hk:∀st',Pu.forR f xs st=.inr st'->JB rest (J st') s1 (Ψ (F st'))):JB (SS.ab (lH it g b) rest) ρ s (Ψ (cY (Pu.forR f xs st) inj F)):=by
 unfold JI at hi
 subst e0
 obtain⟨o,h,q⟩:=zu hg hb hd
 cases hf:Pu.forR f xs st with
 |inl r=>
  rw [hf] at q
  have q0:=q
  obtain⟨w',rfl,q2⟩:=q
  refine⟨_,?_,hr r _ q0⟩
  rw [v9,Gv,hi];simp only [Kae]
  rw [h];rfl
 |inr st'=>
  rw [hf] at q
  cases (show o=.nx (J st') s1 from q)
  obtain⟨o2,h2,q2⟩:=hk st' hf
  refine⟨o2,?_,q2⟩
  rw [v9,Gv,hi];simp only [Kae]
  rw [h];exact h2
end
theorem rN {σ:Type}{J:σ->List Slot}{f:σ->σ}{C:σ->Prop}[DecidablePred C]{dc d:σ->Prop}(hc:∀st,dc st->JT c (J st) s (C st) s)(hb:∀st,d st->JB b (J st) s (Bo J s (f st))):∀{n:Nat} {st:σ},rT C f dc d n st->BD c.ev b.ev n (J st) s=some (.nx (J (jS C f n st)) s)
 |0,_,h=>h.elim
 |n+1,st,h=>by
  obtain⟨h1,h2⟩:=h
  have e1:=hc st h1
  unfold JT at e1
  unfold BD jS
  rw [e1];simp only [Kae]
  by_cases p:C st
  ·obtain⟨h3,h4⟩:=h2 p
   obtain⟨o,e2,rfl⟩:=hb st h3
   rw [if_pos (decide_eq_true p),if_pos p,e2]
   exact rN hc hb h4
  ·rw [if_neg (by simpa using p),if_neg p]
theorem GQ {σ:Type}{J:σ->List Slot}{f:σ->σ}{C:σ->Prop}[DecidablePred C]{dc d:σ->Prop}{n:Nat}{st p:σ}(e0:ρ=J st)(hc:∀st,dc st->JT c (J st) s (C st) s)(hb:∀st,d st->JB b (J st) s (Bo J s (f st)))(hd:rT C f dc d n st)(e:p=jS C f n st):JN (CH n c b) ρ s (J p) s:=by
 unfold JN
 rw [nO]
 subst e0 e
 exact rN hc hb hd
theorem eW {α:Type}[Enc α]{np nl:Nat}{args:List Slot}{x:α}(hn:args.length=np)(h:JB b (args++Kah nl .emp) s (jt w s1 x)):JF (fnOf np nl b) args s x s1 w:=by
 obtain⟨o,h,w',rfl,q⟩:=h
 refine⟨w',?_,q⟩
 rw [Wc,if_pos hn,h]
theorem JF.Qt {α:Type}[Enc α]{np nl:Nat}{args:List Slot}{x:α×ae}(hn:args.length=np)(h:JB b (args++Kah nl .emp) s (yf w x)):JF (fnOf np nl b) args s x.1 x.2 w:=eW hn h
theorem JF.Xi {np nl:Nat}{args:List Slot}(hn:args.length=np)(h:JB b (args++Kah nl .emp) s (BO s1 ())):JF (fnOf np nl b) args s () s1 true:=by
 obtain⟨o,h,ρ',rfl⟩:=h
 refine⟨true,?_,λ_=>rfl⟩
 rw [Wc,if_pos hn,h];rfl
end
end Pu
namespace Pu
variable [aR]
open PySem L2 Enc
def fuel:Nat:=1000000
instance:Enc PyData:=⟨λd=>d⟩
/-- what may be a key -/
class dg (κ:Type) [Enc κ] where
 key:κ->Key
 ok:∀x:κ,keyOf (Enc.enc x)=some (key x)
 inj:∀x y:κ,key x=key y->x=y
instance:dg Int:=⟨Sum.inl,λ_=>rfl,λ_ _ h=>Sum.inl.inj h⟩
def b6 {κ β:Type}[Enc κ][dg κ][Enc β](f:List (κ×β)):List (Key×PyData):=f.map λp=>(dg.key p.1,enc p.2)
def aN {κ β:Type}[DecidableEq κ]:List (κ×β)->κ->Option β
 |[],_=>none
 |(k,d)::r,j=>if k=j then some d else aN r j
theorem V3 {κ β:Type}[Enc κ][dg κ][DecidableEq κ][Enc β]:∀(f:List (κ×β)) (j:κ),b8 (b6 f) (dg.key j)=(aN f j).map enc
 |[],j=>rfl
 |(k,d)::r,j=>by
  show (if dg.key k=dg.key j then some (enc d) else b8 (b6 r) (dg.key j))=_
  unfold aN
  by_cases h:k=j
  ·rw [if_pos h,if_pos (by rw [h])];rfl
  ·rw [if_neg h,if_neg (λz=>h (dg.inj _ _ z))];exact V3 r j
def MX {σ:Type}(is:List Nat)(J:σ->List Slot)(s':ae)(x:σ):Out->Prop:=λo=>Ii is o=.nx (J x) s'
def QD {σ:Type}(is:List Nat)(J:σ->List Slot)(p:σ×ae):Out->Prop:=MX is J p.2 p.1
def QC {α σ:Type}[Enc α](w:Bool)(is:List Nat)(J:σ->List Slot)(s':ae)(x:α ⊕ σ):Out->Prop:=match x with
 |.inl r=>jt w s' r
 |.inr st=>MX is J s' st
def XF {α σ:Type}[Enc α](w:Bool)(J:σ->List Slot)(p:(α ⊕ σ)×ae):Out->Prop:=Ik w J p.2 p.1
def Fj {α σ:Type}[Enc α](w:Bool)(is:List Nat)(J:σ->List Slot)(p:(α ⊕ σ)×ae):Out->Prop:=QC w is J p.2 p.1
section
variable {ρ aB cI:List Slot}{s s1 s2 s3:ae}{e e2:SE}{i j k:Nat}{w w1 w2 o:Bool}{a b A B rest:SS}{Φ:Out->Prop}{c:ST}
theorem gY {α:Type}{xs:List α}{p:α->Bool}{n:Nat}(h:xs.length<=n):(xs.filter p).length<=n:=Kaw (KaX _ _) h
theorem d_.Xm {α σ:Type}[Enc α]{is:List Nat}{J:σ->List Slot}{x:α}:d_ (Fj w is J (.inl x,s)):=λo ⟨w',h,_⟩=>⟨_,_,h⟩
theorem lI {σ:Type}{J:σ->List Slot}{is:List Nat}{x:σ}(h:JB a ρ s (MX is J s1 x)):JB (fu is a) ρ s (Bo J s1 x):=by
 obtain⟨o,h,q⟩:=h
 exact⟨_,by show (a.ev ρ s).map _=_;rw [h];rfl,q⟩
theorem hxi {σ:Type}{J:σ->List Slot}{is:List Nat}{x:σ×ae}(h:JB a ρ s (QD is J x)):JB (fu is a) ρ s (Il J x):=lI h
theorem WV {α σ:Type}[Enc α]{J:σ->List Slot}{is:List Nat}{x:α ⊕ σ}(h:JB a ρ s (QC w is J s1 x)):JB (fu is a) ρ s (Ik w J s1 x):=by
 obtain⟨o,h,q⟩:=h
 refine⟨_,by show (a.ev ρ s).map _=_;rw [h];rfl,?_⟩
 cases x with
 |inl r=>
  obtain⟨w',rfl,q⟩:=q
  exact⟨w',rfl,q⟩
 |inr st=>exact q
theorem JB.D5 {α σ:Type}[Enc α]{J:σ->List Slot}{is:List Nat}{x:(α ⊕ σ)×ae}(h:JB a ρ s (Fj w is J x)):JB (fu is a) ρ s (XF w J x):=WV h
theorem JB.AS {α σ:Type}[Enc α]{is:List Nat}{J:σ->List Slot}{x:α}(h:JE e ρ s x s1 w):JB (SS.ac e) ρ s (QC w is J s1 (.inl x)):=JB.ag h
theorem JB.HK {α σ:Type}[Enc α]{is:List Nat}{J:σ->List Slot}{x:α}(h:JE e ρ s x s1 w):JB (SS.ac e) ρ s (Fj w is J (.inl x,s1)):=JB.ag h
theorem JB.mv {α:Type}[Enc α]{xs:List α}(hi:ρ[i]? = some (.aO (xs.map enc) o))(hw:w=true->o=true:=by decide):JB (BH (RE.mv i)) ρ s (jt w s xs):=by
 refine⟨.ret (enc xs,o) s,?_,o,rfl,hw⟩
 rw [uV,E4,hi];rfl
theorem JB.ZX {α:Type}[Enc α]{xs:List α}(hi:ρ[i]? = some (.aO (xs.map enc) o))(hw:w=true->o=true:=by decide):JB (BH (RE.mv i)) ρ s (yf w (xs,s)):=JB.mv hi hw
theorem d7 {α:Type}[Enc α]{x v:α}(h:JE e ρ s v s1 w)(hx:x=v):JN (dh i e) ρ s (ρ.set i (.dat (enc x))) s1:=hx ▸ JN.set h
theorem JN.JU {x y v:Int}{f:Int->Int->Int}(hi:ρ[i]? = some (.dat (enc x)))(h:JE e ρ s y s1 w)(hx:v=f x y):JN (SS.am i e f) ρ s (ρ.set i (.dat (enc v))) s1:=hx ▸ JN.aug hi h
theorem JN.aO {α:Type}[Enc α]{x v:List α}(h:JN a ρ s (ρ.set i (.aO (v.map enc) o)) s1)(hx:x=v):JN a ρ s (ρ.set i (.aO (x.map enc) o)) s1:=hx ▸ h
theorem JN.cT {κ:Type}[Enc κ][dg κ]{α:Type}[Enc α]{x v:List (κ×α)}(h:JN a ρ s (ρ.set i (.cT (b6 v))) s1)(hx:x=v):JN a ρ s (ρ.set i (.cT (b6 x))) s1:=hx ▸ h
theorem JN.newD:JN (SS.al i) ρ s (ρ.set i (.cT [])) s:=rfl
theorem JN.dput {κ:Type}[Enc κ][dg κ]{α:Type}[Enc α]{f:List (κ×α)}{x:α}{j:κ}(hi:ρ[i]? = some (.cT (b6 f)))(hv:JE e ρ s x s1 w)(hk:JE e2 ρ s1 j s2 w1)(hl:f.length<100000):JN (SS.dput i e2 e) ρ s (ρ.set i (.cT (b6 ((j,x)::f)))) s2:=by
 obtain⟨_,hv,_⟩:=hv
 obtain⟨_,hk,_⟩:=hk
 unfold JN
 rw [um,hv]
 simp only [Kae]
 rw [hi]
 show ((e2.ev ρ s1).bind _)=_
 rw [hk]
 show (match keyOf (enc j) with|some j=>(if (b6 f).length<100000 then some (Out.nx (ρ.set i (.cT ((j,enc x)::b6 f))) s2) else none)|none=>none)=_
 rw [dg.ok]
 show (if (b6 f).length<100000 then _ else _)=_
 rw [if_pos (by unfold b6;simpa using hl)];rfl
theorem JP.dat {α:Type}[Enc α]{x v:α}{p:SP}(hx:x=v)(h:JE e ρ s v s1 w)(hp:JP p ρ (aB.set i (.dat (enc x))) s1 cI s2):JP (l6 i e p) ρ aB s cI s2:=JP.cons h (hx ▸ hp)
theorem uf {κ:Type}[Enc κ][dg κ]{α β:Type}[Enc α][Enc β]{g:SG}{ek ev:SE}{R:α->List Slot}{kf:α->κ}{vf:α->β}(hg:∀x,g.ev (enc x) ρ=some (R x)):∀{xs:List α} {f:List (κ×β)},(∀x∈xs,JE ek (R x) s (kf x) s w1)->(∀x∈xs,JE ev (R x) s (vf x) s w2)->cN g.ev cL.ev ek.ev ev.ev ρ (xs.map enc) (b6 f) s=some (b6 ((xs.map λx=>(kf x,vf x)).reverse++f),s)
 |[],f,_,_=>rfl
 |x::xs,f,hk,hv=>by
  have ih:=uf hg (xs:=xs) (f:=(kf x,vf x)::f) (λy hy=>hk y (Kab _ hy)) (λy hy=>hv y (Kab _ hy))
  obtain⟨_,k1,_⟩:=hk x Kaa
  obtain⟨_,v1,_⟩:=hv x Kaa
  rw [Kag]
  unfold cN
  rw [hg x];simp only [Kae,Pz,if_true]
  rw [k1];simp only [Kae]
  rw [v1];simp only [Kae,dg.ok]
  show cN g.ev cL.ev ek.ev ev.ev ρ (xs.map enc) (b6 ((kf x,vf x)::f)) s=_
  rw [ih,Kag,KbF,KaV];rfl
theorem JP.dc {κ:Type}[Enc κ][dg κ]{α β:Type}[Enc α][Enc β]{it:SI}{g:SG}{ek ev:SE}{vs:List Nat}{hv:∀i∈g.ix,i∈vs}{p:SP}{xs:List α}{kf:α->κ}{vf:α->β}{x:List (κ×β)}(hx:x=KbM (xs.map λy=>(kf y,vf y)))(R:α->List Slot)(hi:JI it ρ s xs s1)(hg:∀x,g.ev (enc x) (aU ρ vs)=some (R x))(hk:∀x∈xs,JE ek (R x) s1 (kf x) s1 w1)(hv':∀x∈xs,JE ev (R x) s1 (vf x) s1 w2)(hl:xs.length<=100000)(hp:JP p ρ (aB.set i (.cT (b6 x))) s1 cI s2):JP (SP.dc i it g cL ek ev vs hv p) ρ aB s cI s2:=by
 unfold JP at hp ⊢
 unfold JI at hi
 rw [AF,hi];simp only [Kae]
 have:=uf (κ:=κ) (f:=[]) hg hk hv'
 rw [KaC] at this
 rw [show (cN g.ev cL.ev ek.ev ev.ev (aU ρ vs) (xs.map enc) [] s1)=_ from this]
 simp only [Kae]
 rw [if_pos (by unfold b6;simpa using hl),<-hx]
 exact hp
theorem JE.XJ {κ:Type}[Enc κ][dg κ][DecidableEq κ]{β:Type}[Enc β]{f:List (κ×β)}{x:κ}(hi:ρ[i]? = some (.cT (b6 f)))(h:JE e ρ s x s1 w):JE (Jv i e) ρ s (decide ((aN f x).isSome=true)) s1 true:=by
 obtain⟨_,h,_⟩:=h
 refine⟨true,?_,λ_=>rfl⟩
 rw [yX,hi]
 show ((e.ev ρ s).bind _)=_
 rw [h]
 show (match keyOf (enc x) with|some j=>some ((PyData.bool (b8 (b6 f) j).isSome,true),s1)|none=>none)=_
 rw [dg.ok]
 show some ((PyData.bool (b8 (b6 f) (dg.key x)).isSome,true),s1)=_
 rw [V3]
 cases aN f x <;> rfl
theorem JE.Kx {κ:Type}[Enc κ][dg κ][DecidableEq κ]{β:Type}[Enc β]{f:List (κ×β)}{x:κ}{d:β}(hi:ρ[i]? = some (.cT (b6 f)))(h:JE e ρ s x s1 w)(h2:JE e2 ρ s1 d s2 w1):JE (WY i e e2) ρ s ((aN f x).getD d) s2 false:=by
 obtain⟨_,h,_⟩:=h
 obtain⟨_,h2,_⟩:=h2
 refine⟨false,?_,nofun⟩
 rw [pW,hi]
 show ((e.ev ρ s).bind _)=_
 rw [h]
 show (match keyOf (enc x) with|some j=>(e2.ev ρ s1).bind (λz=>some (((b8 (b6 f) j).getD z.1.1,false),z.2))|none=>none)=_
 rw [dg.ok]
 show ((e2.ev ρ s1).bind _)=_
 rw [h2]
 show some (((b8 (b6 f) (dg.key x)).getD (enc d),false),s2)=_
 rw [V3]
 cases aN f x <;> rfl
theorem JE.bY {α β:Type}[Enc β]{v:α×ae}{f:α->ae->β×ae}(h:∀x s',v=(x,s')->JE e ρ s (f x s').1 (f x s').2 w):JE e ρ s (bY v f).1 (bY v f).2 w:=h _ _ rfl
theorem JT.bY {α:Type}{v:α×ae}{f:α->ae->Bool×ae}(h:∀x s',v=(x,s')->JT c ρ s ((f x s').1=true) (f x s').2):JT c ρ s ((bY v f).1=true) (bY v f).2:=h _ _ rfl
theorem JE.MB (hi:ρ[i]? = some .bC):JE (zD i 0) ρ s s.1 s true:=⟨true,by rw [O3,hi];rfl,λ_=>rfl⟩
theorem JE.Z8 (hi:ρ[i]? = some .bC):JE (zD i 1) ρ s s.2.1 s true:=⟨true,by rw [O3,hi];rfl,λ_=>rfl⟩
theorem JE.MC (hi:ρ[i]? = some .bC):JE (zD i 2) ρ s s.2.2 s true:=⟨true,by rw [O3,hi];rfl,λ_=>rfl⟩
theorem JN.MB {z:Int}{n:ae}(hi:ρ[i]? = some .bC)(h:JE e ρ s z s w)(hx:n=(z,s.2.1,s.2.2)):JN (LQ i 0 e) ρ s ρ n:=by
 obtain⟨_,h,_⟩:=h
 unfold JN
 rw [Wa,h,hx]
 show (match PyData.int z,ρ[i]? with|.int z,some .bC=>(lC s z 0).map λs'=>Out.nx ρ s'|_,_=>none)=_
 rw [hi];rfl
theorem JN.MC {z:Int}{n:ae}(hi:ρ[i]? = some .bC)(h:JE e ρ s z s w)(hx:n=(s.1,s.2.1,z)):JN (LQ i 2 e) ρ s ρ n:=by
 obtain⟨_,h,_⟩:=h
 unfold JN
 rw [Wa,h,hx]
 show (match PyData.int z,ρ[i]? with|.int z,some .bC=>(lC s z 2).map λs'=>Out.nx ρ s'|_,_=>none)=_
 rw [hi];rfl
theorem JE.W3 {α β γ:Type}[Enc α][Enc β][Enc γ][Flat γ]{it it1:SI}{g g1:SG}{vs vs1:List Nat}{hv:∀i∈g.ix,i∈vs}{hv1:∀i∈g1.ix,i∈vs1}{xs:List α}{ys:α->List β}{f:α->β->γ}(R:α->List Slot)(R1:α->β->List Slot)(hi:JI it ρ s xs s1)(hg:∀x,g.ev (enc x) (aU ρ vs)=some (R x))(hg1:∀x y,g1.ev (enc y) (aU (R x) vs1)=some (R1 x y))(hi1:∀x∈xs,JI it1 (R x) s1 (ys x) s1)(he:∀x∈xs,∀y∈ys x,JE e (R1 x y) s1 (f x y) s1 w)(hl:(xs.flatMap λx=>(ys x).map (f x)).length<=100000):
  JE (SE.W2 it g cL it1 g1 cL e vs vs1 hv hv1) ρ s (xs.flatMap λx=>(ys x).map (f x)) s1 true:=by
 have key:∀zs:List α,(∀x∈zs,x∈xs)->∃q:List Vl,yZ g.ev cL.ev it1.ev g1.ev cL.ev e.ev vs1 (aU ρ vs) (zs.map enc) s1=some (q,s1)/\q.map (·.1)=(zs.flatMap λx=>(ys x).map (f x)).map enc:=by
  intro zs
  induction zs with
  |nil=>intro _;exact⟨[],rfl,rfl⟩
  |cons x zs ih=>
   intro hz
   obtain⟨q,q1,q2⟩:=ih λy hy=>hz y (Kab _ hy)
   have hx:=hz x Kaa
   obtain⟨p,p1,p2,_⟩:=O2 (g:=g1) (ρ:=aU (R x) vs1) (s:=s1) (w:=w) (P:=λ_=>True) (R:=R1 x) (f:=f x) (xs:=ys x) (tt:=cL) (e:=e) (λy _=>hg1 x y) (λ_ _=>JT.yes) (λy hy _=>he x hx y hy)
   rw [Kf] at p2
   refine⟨p++q,?_,?_⟩
   ·have h1:=hi1 x hx
    unfold JI at h1
    rw [Kag]
    unfold yZ
    rw [hg x];simp only [Kae,Pz,if_true]
    rw [h1];simp only [Kae]
    rw [p1];simp only [Kae]
    rw [q1];rfl
   ·rw [KaH,p2,q2,Kcc,KaH]
 obtain⟨q,q1,q2⟩:=key xs λ_ h=>h
 have hlen:q.length<=100000:=by
  have:=congrArg KbX q2
  simp only [Kaf] at this
  omega
 refine⟨true,?_,λ_=>rfl⟩
 unfold JI at hi
 rw [zZ,hi];simp only [Kae]
 rw [q1];simp only [Kae]
 rw [if_pos hlen,Pe q2,q2];rfl
end
end Pu
namespace Pu
open PySem PySem.Spec PyProof.Rows L2 PySem.W
end Pu
namespace Pu
open PySem PySem.Spec PyProof.Rows L2
section
variable {P:Program}{w:World}{A:Around}{R:Result->Shared->Prop}{I:Addr}{fp wr:List Addr}{G:Array GenState->Array GenState->Prop}{n:Nat}{Pv:Nat->Value->Prop}{St:Nat->Shared->Prop}
/-- some of bJ first i numbers: a set of ints at most i many -/
def Eb (w:World)(h:Heap)(a:Addr)(val:Nat->Int)(i:Nat):Prop:=∃S m,SetR w h a S m/\m<=i/\∀k,S k=true↔∃j,j<i/\val j=k
theorem Eb.step {h:Heap}{a:Addr}{val:Nat->Int}{i:Nat}{S:Int->Bool}{m:Nat}(hm:m<=i)(hS:∀k,S k=true↔∃j,j<i/\val j=k)(r:SetR w h a (λj=>S j ||decide (j=val i)) (if S (val i)=true then m else m+1)):Eb w h a val (i+1):=by
 refine⟨_,_,r,by split <;> omega,λk=>?_⟩
 rw [Bool.or_eq_true,hS,decide_eq_true_eq]
 constructor
 ·rintro (⟨j,hj,e⟩|e)
  ·exact⟨j,by omega,e⟩
  ·exact⟨i,by omega,e.symm⟩
 ·rintro⟨j,hj,e⟩
  by_cases hji:j=i
  ·subst hji;exact .inr e.symm
  ·exact .inl ⟨j,by omega,e⟩
end
end Pu
namespace L2
open PySem PySem.W PySem.Calls PyProof.Rows PySem.Spec
end L2
namespace Pu
open PySem PySem.Spec PyProof.Rows L2
end Pu
namespace Pu
variable [aR]
open PySem L2 Enc
/-- from here on a yN list Cp not own what it holds -/
def LP (i:Nat)(b:SS):SS where
 t:=b.t
 ev:=λρ s=>match ρ[i]? with
  |some (.aO ds o)=>b.ev (ρ.set i (.aO ds false)) s
  |_=>none
 ok:=by
  intro K sk F0 H0 F H σ ρ aj s out D w h q
  dsimp only at h
  split at h
  ·rename_i ds o cF
   obtain⟨x,fp,e1,e2,a,vs,as,rfl,hH,hF,r,rfl⟩:=w.slots.get cF
   obtain⟨aF,w2⟩:=w.grow (o':=false) (ws:=vs) (es:=ds) (bs:=[]) e1 e2 hH hF (by rw [KaC];exact r) (λeo=>by cases eo)
   have eH:L2.upd H a (.lst vs)=H:=by
    funext b
    by_cases z:b=a
    ·rw [z,upd_same,hH]
    ·rw [upd_ne z]
   rw [eH] at w2
   exact b.ok K w2 h q
  ·cases h
section
variable {ρ:List Slot}{s:ae}{i:Nat}{b:SS}{Φ:Out->Prop}
theorem JB.Qo {α:Type}[Enc α]{xs:List α}{o:Bool}(hi:ρ[i]? = some (.aO (xs.map enc) o))(h:JB b (ρ.set i (.aO (xs.map enc) false)) s Φ):JB (LP i b) ρ s Φ:=by
 obtain⟨o',h,q⟩:=h
 refine⟨o',?_,q⟩
 show (match ρ[i]? with|some (.aO ds o)=>b.ev (ρ.set i (.aO ds false)) s|_=>none)=_
 rw [hi];exact h
end
theorem JE.str {ρ:List Slot}{s:ae}(x:Str):JE (SE.str x) ρ s x s true:=⟨true,rfl,λ_=>rfl⟩
end Pu
namespace Pu
variable [aR]
open PySem L2 Enc
/-- a,b,..=a list of dF length -/
def SG.lst (g:cC):SG where
 t:=λK=>gLst K g.n (g.t K)
 ix:=g.ix
 ev:=λd ρ=>match d with|.list ds=>if ds.length=g.n then g.ev ds ρ else none|_=>none
 ok:=by
  intro K sk F H σ ρ aj v d as ρ' Q s r sl h q
  dsimp only at h
  split at h
  ·rename_i ds
   split at h
   ·rename_i hl
    cases r with
    |lst ha hr=>exact⟨_,_,rfl,.inl (.inl (s _ _ ha)),by rw [hr.len];exact hl,g.ok K s hr sl h q⟩
   ·cases h
  ·cases h
theorem IZ {α:Type}[Inhabited α](xs:List α)(k:Nat):au xs (k:Int)=(xs[k]?).getD default:=by
 unfold au L2.atI L2.ixN
 rw [if_pos (by omega:(0:Int)<=(k:Int))]
 by_cases h:(k:Int)<(xs.length:Int)
 ·rw [if_pos h]
  simp
 ·rw [if_neg h,KbL (by omega)]
  rfl
end Pu
namespace Pu
variable [aR]
open PySem L2 Enc
/-- nothing behind -/
theorem JB.MQ {a:SS}{ρ:List Slot}{s:ae}{Φ:Out->Prop}(h:JB (SS.ab a SS.ag) ρ s Φ):JB a ρ s Φ:=by
 obtain⟨o,e,q⟩:=h
 refine⟨o,?_,q⟩
 rw [v9] at e
 cases ha:a.ev ρ s with
 |none=>rw [ha] at e;cases e
 |some x=>
  rw [ha] at e
  simp only [Kae] at e
  cases x with
  |nx ρ' s'=>exact e
  |ret v s'=>exact e
  |brk ρ' s'=>exact e
  |cnt ρ' s'=>exact e
end Pu
set_option exponentiation.threshold 200000
namespace Pu
open PySem L2 Enc
variable [aR]
/-- tuple(a list) -/
def HF (K:Frag):List V->Hp->VK->Prop:=λxs H Q=>∃p ys,xs=[.ref p]/\((SqL K H p ys/\∀l,H l=none->Q (.ref l) (upd H l (.tup ys)))∨(SqT K H p ys/\Q (.ref p) H))
def SE.eO (e:SE):SE where
 t:=λK=>tCB (HF K) (tCons (e.t K) tNil)
 ev:=λρ s=>(e.ev ρ s).bind λx=>match x.1.1 with
  |.list ds=>some ((.tuple ds,x.1.2),x.2)
  |_=>none
 ok:=by
  intro K sk F H σ ρ aj s vl s' Q p h q
  obtain⟨⟨⟨x,fl⟩,s1⟩,h1,h2⟩:=aI h
  dsimp only at h2
  split at h2
  ·rename_i ds
   cases h2
   refine e.ok K p h1 λv F1 H1 as st k r f=>?_
   obtain⟨a,ys,cs,rfl,ha,hr,rfl⟩:=r.aM
   refine⟨a,ys,rfl,.inl ⟨.inl (.inl (st.sub' _ _ ha)),λl hl=>?_⟩⟩
   have st2:Step sk F1 H1 (upd F1 l (.tup ys)) (upd H1 l (.tup ys)):=Step.alloc st.sub' hl
   refine q _ _ _ cs (st.trans st2) ?_ (.tup upd_same (hr.mono st2.sub)) λe1=>?_
   ·refine⟨λb eb=>?_,Vi k.tab.xw hl⟩
    obtain⟨k1,k2⟩:=k b eb
    have ne:b≠l:=λz=>by rw [z,hl] at k1;cases k1
    exact⟨by rw [upd_ne ne];exact k1,by rw [upd_ne ne];exact k2⟩
   ·obtain⟨f1,f2⟩:=f e1
    exact⟨(KaN.mp f1).2,λb hb=>f2 b (Kab _ hb)⟩
  ·cases h2
/-- for x in a tuple -/
def SI.tup (e:SE):SI where
 t:=λK=>iTup K (e.t K)
 ev:=λρ s=>(e.ev ρ s).bind λx=>match x.1.1 with|.tuple ds=>some (ds,x.2)|_=>none
 ok:=by
  intro K sk F H σ ρ aj s ds s' R p h q
  obtain⟨⟨⟨x,fl⟩,s1⟩,h1,h⟩:=aI h
  dsimp only at h
  split at h
  ·rename_i ds
   cases h
   refine e.ok K p h1 λv F1 H1 as st1 k1 r1 f1=>?_
   obtain⟨a,xs,rfl,ha,hr⟩:=r1.bM
   refine⟨a,rfl,⟨xs,.inl (.inl (st1.sub' _ _ ha))⟩,q _ F1 H1 st1 k1 λF2 H2 i s1 s2=>⟨λd hd=>?_,λhl=>?_⟩⟩
   ·have hx:SqT K H2 a xs:=.inl (.inl (s2 _ _ (s1 _ _ ha)))
    obtain⟨v,bs,e1,e2⟩:=hr.get hd
    refine⟨⟨xs,v,hx,e1⟩,λx H3 hy=>?_⟩
    obtain⟨rfl,hy⟩:=hy
    have e3:=hy xs hx
    rw [e1] at e3
    cases e3
    exact⟨F2,bs,.refl s2,e2.mono s1⟩
   ·exact⟨xs,.inl (.inl (s2 _ _ (s1 _ _ ha))),by rw [hr.len];exact hl⟩
  ·cases h
mutual
def dep:PyData->Nat
 |.list xs=>Wu xs+1
 |.tuple xs=>Wu xs+1
 |_=>0
def Wu:List PyData->Nat
 |[]=>0
 |x::xs=>max (dep x) (Wu xs)
end
end Pu
namespace Pu
open PySem L2 Enc
mutual
def rk:PyData->Int->PyData×Int
 |.list xs,k=>(.list ((lz xs k).1++[.int (lz xs k).2]),(lz xs k).2+1)
 |.tuple xs,k=>(.tuple (lz xs k).1,(lz xs k).2)
 |d,k=>(d,k)
def lz:List PyData->Int->List PyData×Int
 |[],k=>([],k)
 |x::xs,k=>((rk x k).1::(lz xs (rk x k).2).1,(lz xs (rk x k).2).2)
end
/-- only these addresses change -/
def Fr (H H':Hp)(bs:List Addr):Prop:=∀a o,a∉bs->H a=some o->H' a=some o
theorem Fr.refl {H:Hp}{bs:List Addr}:Fr H H bs:=λ_ _ _ h=>h
theorem Fr.trans {H H1 H2:Hp}{bs:List Addr}(h:Fr H H1 bs)(g:Fr H1 H2 bs):Fr H H2 bs:=λa o n e=>g a o n (h a o n e)
theorem Fr.more {H H1:Hp}{bs cs:List Addr}(h:Fr H H1 bs)(s:∀a∈bs,a∈cs):Fr H H1 cs:=λa o n e=>h a o (λm=>n (s a m)) e
theorem Fr.alloc {H:Hp}{p:Addr}{o:HO}{bs:List Addr}(np:H p=none):Fr H (upd H p o) bs:=λa u _ e=>by rw [upd_ne (ne_of_none e np)];exact e
theorem Fr.put {H:Hp}{p:Addr}{o:HO}{bs:List Addr}(m:p∈bs):Fr H (upd H p o) bs:=λa u n e=>by rw [upd_ne (λz=>n (by rw [z];exact m))];exact e
end Pu
namespace Pu
open PySem PySem.Spec PyProof.Rows L2 Enc
end Pu
namespace Pu
open PySem L2 Enc
end Pu
namespace Pu
variable [aR]
open PySem PySem.Spec PyProof.Rows L2
def minus (F:Hp)(as:List Addr):Hp:=λa=>if a∈as then none else F a
theorem Wb {F:Hp}{as:List Addr}{a:Addr}(h:a∈as):minus F as a=none:=if_pos h
theorem OM {F:Hp}{as:List Addr}{a:Addr}(h:a∉as):minus F as a=F a:=if_neg h
theorem sZ {F:Hp}{as:List Addr}{a:Addr}{o:HO}(h:minus F as a=some o):a∉as/\F a=some o:=by
 by_cases m:a∈as
 ·rw [Wb m] at h;cases h
 ·rw [OM m] at h;exact⟨m,h⟩
theorem KP {F:Hp}{as:List Addr}:Same (minus F as) F:=λa o e=>(sZ e).2
section
variable {sk:Option Addr}{F0 H0 F H F1 H1:Hp}{σ:L2.St}{ρ ρ':List Slot}{aj:List (List Addr)}{s s1:ae}{i:Nat}{d:PyData}
/-- what is new is taken out of bJ frozen heap -/
theorem Wd.fresh (w:Wd sk F0 H0 F H σ ρ aj s)(st:Step sk F H F1 H1)(k:aZ sk F1 H1 s1){as:List Addr}(hn:∀a∈as,H a=none):Wd sk F0 H0 (minus F1 as) H1 σ ρ aj s1/\Same F (minus F1 as):=by
 have sF:Same F (minus F1 as):=λb u e=>by
  rw [OM (λm=>by have:=w.st.sub' b u e;rw [hn b m] at this;cases this)];exact st.sub b u e
 refine⟨w.next ⟨sF,KP.trans st.sub',λa o x y z=>st.fr a o x y z,st.dm,λb u e=>st.new b u (KP b u e)⟩ ⟨λb e=>⟨(k b e).1,?_⟩,k.tab.back KP⟩,sF⟩
 by_cases m:b∈as
 ·exact Wb m
 ·rw [OM m];exact (k b e).2
theorem wR {F1 H1:Hp}{as:List Addr}(s:Same F1 H1):Same F1 (E2 (minus F1 as) H1 as):=λb u e=>by
 by_cases m:b∈as
 ·rw [Jq m];exact s b u e
 ·rw [uQ m,OM m];exact e
theorem Wd.HR (w:Wd sk F0 H0 F H σ ρ aj s){x:L2.St}{v:V}{as:List Addr}(r:Rp (E2 F H as) v d as)(hn:as.Nodup)(hF:∀a∈as,F a=none)(hs:∀a∈as,sk≠some a)(h0:∀a∈as,H0 a=none)(hd:∀a∈as,a∉aj.flatten):∃aF,Wd sk F0 H0 F H (σ.set i (some v)) (ρ.set i (.rR d)) aF s:=by
 have nd:(as++aj.flatten).Nodup:=Kaj.mpr ⟨hn,w.dj,λa ma b mb z=>by subst z;exact hd a ma mb⟩
 obtain⟨n1,n2⟩:=vD (i:=i) nd
 refine⟨aj.set i as,w.st,w.aW,w.slots.set ⟨v,rfl,r,hF⟩,n1,λa m=>?_⟩
 rcases n2 a m with z|z
 ·obtain⟨xs,hx⟩:=r.dom a z
  rw [Jq z] at hx
  exact⟨h0 a z,by rw [hx];exact nofun,hs a z⟩
 ·exact w.bR a z
end
end Pu
namespace Pu
variable [aR]
open PySem PySem.Spec PyProof.Rows L2 Enc
def Zf (t:Frag->TE)(ev:List Slot->ae->Option (Bool×List Slot×ae)):Prop:=∀(K:Frag) {sk:Option Addr} {F0 H0 F H:Hp} {σ:L2.St} {ρ ρ':List Slot} {aj:List (List Addr)} {s s':ae} {b:Bool} {Q:VK},Wd sk F0 H0 F H σ ρ aj s->ev ρ s=some (b,ρ',s') ->
 (∀F' H' aF,Same F F'->Wd sk F0 H0 F' H' σ ρ' aF s'->Q (.bl b) H')->t K σ H Q
structure RV where
 t:Frag->TE
 ev:List Slot->ae->Option (Bool×List Slot×ae)
 ok:Zf t ev
def Y9 (t:Frag->TT)(ev:List Slot->ae->Option (Bool×List Slot×ae)):Prop:=∀(K:Frag) {sk:Option Addr} {F0 H0 F H:Hp} {σ:L2.St} {ρ ρ':List Slot} {aj:List (List Addr)} {s s':ae} {b:Bool} {Q:Bool->Hp->Prop},Wd sk F0 H0 F H σ ρ aj s->ev ρ s=some (b,ρ',s') ->
 (∀F' H' aF,Same F F'->Wd sk F0 H0 F' H' σ ρ' aF s'->Q b H')->t K σ H Q
structure RM where
 t:Frag->TT
 ev:List Slot->ae->Option (Bool×List Slot×ae)
 ok:Y9 t ev
def RM.t' (c:ST):RM where
 t:=c.t
 ev:=λρ s=>(c.ev ρ s).bind λx=>some (x.1,ρ,x.2)
 ok:=by
  intro K sk F0 H0 F H σ ρ ρ' aj s s' b Q w h q
  obtain⟨⟨x,s1⟩,h1,h2⟩:=aI h
  cases h2
  exact c.ok K w.pre h1 λF1 H1 st k=>q F1 H1 aj st.sub (w.next st k)
def RM.v (c:RV):RM where
 t:=λK=>tB (c.t K)
 ev:=c.ev
 ok:=by
  intro K sk F0 H0 F H σ ρ ρ' aj s s' b Q w h q
  exact c.ok K w h λF1 H1 lW sF w1=>⟨_,rfl,q F1 H1 lW sF w1⟩
def JM (c:RM)(ρ:List Slot)(s:ae)(P:Prop)[Decidable P](aB:List Slot)(s':ae):Prop:=∃ρ',c.ev ρ s=some (decide P,ρ',s')/\(¬P->ρ'=aB)
section
variable {ρ aB cI Yp:List Slot}{s s1 s2:ae}{i:Nat}{w:Bool}{e:SE}
theorem JM.t {c:ST}{P:Prop}[Decidable P](h:JT c ρ s P s1):JM (RM.t' c) ρ s P ρ s1:=by
 refine⟨ρ,?_,λ_=>rfl⟩
 show (c.ev ρ s).bind _=_
 unfold JT at h
 rw [h];rfl
def gi {α:Type}[Enc α](e:RE)(ρ:List Slot)(s:ae)(x:α)(ρ':List Slot)(s':ae)(w:Bool):Prop:=∃w',e.ev ρ s=some ((enc x,w'),ρ',s')/\(w=true->w'=true)
def gh (a:RA)(ρ:List Slot)(s:ae)(ds:List PyData)(ρ':List Slot)(s':ae)(w:Bool):Prop:=∃eX:List Vl,a.ev ρ s=some (eX,ρ',s')/\eX.map (·.1)=ds/\(w=true->eX.all dX=true)
theorem gi.se {α:Type}[Enc α]{x:α}(h:JE e ρ s x s1 w):gi (RE.e e) ρ s x ρ s1 w:=by
 obtain⟨w',h1,h2⟩:=h
 exact⟨w',by show (e.ev ρ s).bind _=_;rw [h1];rfl,h2⟩
theorem gi.Xb {α:Type}[Enc α]{x:α}(hi:ρ[i]? = some (.own (enc x))):gi (RE.mv i) ρ s x (ρ.set i (.dat (enc x))) s true:=by
 refine⟨true,?_,λ_=>rfl⟩
 show (match ρ[i]? with|some (.dat d)=>_|some (.own d)=>_|some (.aO ds o)=>_|_=>_)=_
 rw [hi]
theorem gh.nil:gh RA.nil ρ s [] ρ s true:=⟨[],rfl,rfl,λ_=>rfl⟩
theorem gh.cons {α:Type}[Enc α]{x:α}{e:RE}{r:RA}{ds:List PyData}(h:gi e ρ s x aB s1 true)(hr:gh r aB s1 ds cI s2 w):gh (RA.cons e r) ρ s (enc x::ds) cI s2 w:=by
 obtain⟨w',h1,h2⟩:=h
 obtain⟨eX,h3,h4,h5⟩:=hr
 refine⟨(enc x,w')::eX,?_,by rw [Kag,h4],λhw=>by rw [Ka1,h5 hw];unfold dX;rw [h2 rfl];rfl⟩
 show (e.ev ρ s).bind _=_
 rw [h1]
 show (r.ev aB s1).bind _=_
 rw [h3];rfl
theorem gh.gD {α:Type}[Enc α][Flat α]{x:α}{e:RE}{r:RA}{ds:List PyData}{w1:Bool}(h:gi e ρ s x aB s1 w1)(hr:gh r aB s1 ds cI s2 w):gh (RA.cons e r) ρ s (enc x::ds) cI s2 w:=by
 obtain⟨w',h1,h2⟩:=h
 obtain⟨eX,h3,h4,h5⟩:=hr
 refine⟨(enc x,w')::eX,?_,by rw [Kag,h4],λhw=>by rw [Ka1,h5 hw];unfold dX;rw [Flat.fl];simp⟩
 show (e.ev ρ s).bind _=_
 rw [h1]
 show (r.ev aB s1).bind _=_
 rw [h3];rfl
theorem gh.tup {a:RA}{ds:List PyData}(h:gh a ρ s ds aB s1 w)(hl:ds.length<=100000):∃w',(RE.tup a).ev ρ s=some ((.tuple ds,w'),aB,s1)/\(w=true->w'=true):=by
 obtain⟨eX,h1,h2,h3⟩:=h
 refine⟨eX.all dX,?_,h3⟩
 show (a.ev ρ s).bind _=_
 rw [h1]
 show (if eX.length<=100000 then _ else _)=_
 have:eX.length=ds.length:=by rw [<-h2,Kaf]
 rw [if_pos (by omega),h2]
theorem gi.DY {α β γ:Type}[Enc α][Enc β][Enc γ]{x:α}{y:β}{z:γ}{a:RA}(h:gh a ρ s [enc x,enc y,enc z] aB s1 w):gi (RE.tup a) ρ s (T3.mk x y z) aB s1 w:=h.tup (by show 3<=_;decide)
theorem gi.Ib {α β γ δ:Type}[Enc α][Enc β][Enc γ][Enc δ]{x:α}{y:β}{z:γ}{u:δ}{a:RA}(h:gh a ρ s [enc x,enc y,enc z,enc u] aB s1 w):gi (RE.tup a) ρ s (T4.mk x y z u) aB s1 w:=h.tup (by show 4<=_;decide)
theorem P9 {α:Type}[Enc α]{x:α}{e:RE}(h:gi e ρ s x aB s1 w):JB (BH e) ρ s (jt w s1 x):=by
 obtain⟨w',h1,h2⟩:=h
 exact⟨_,by show (e.ev ρ s).bind _=_;rw [h1];rfl,w',rfl,h2⟩
theorem JB.Mu {α:Type}[Enc α]{x:α}{e:RE}(h:gi e ρ s x aB s1 w):JB (BH e) ρ s (yf w (x,s1)):=P9 h
theorem LR {α:Type}[Enc α]{x v:α}(h:JE e ρ s v s1 true)(hx:x=v):JN (SS.set i e) ρ s (ρ.set i (.own (enc x))) s1:=by
 subst hx
 obtain⟨w',h1,h2⟩:=h
 show (e.ev ρ s).bind _=_
 rw [h1]
 show some (Out.nx (ρ.set i (BC (enc x,w'))) s1)=_
 rw [h2 rfl];rfl
end
end Pu
namespace Pu
variable [aR]
open PySem PySem.Spec PyProof.Rows L2 Enc
def SP.Km (i:Nat)(e:SE)(r:SP):SP where
 t:=λK=>tCons (e.t K) (r.t K)
 ts:=i::r.ts
 ev:=λρ cf s=>(e.ev ρ s).bind λx=>if dX x.1=true then r.ev ρ (cf.set i (.rR x.1.1)) x.2 else none
 ok:=by
  intro K sk F0 H0 F H σ nQ ρ cf iw aj cu s s' Q p w h q
  obtain⟨⟨x,s1⟩,h1,h2⟩:=aI h
  dsimp only at h2
  split at h2
  ·rename_i ho
   refine e.ok K p h1 λv F1 H1 as st k rr f=>?_
   have hf:as.Nodup/\∀a∈as,H a=none:=by
    unfold dX at ho
    rcases Kbb.mp ho with z|z
    ·exact f z
    ·rw [rr.aH z];exact⟨KaI,λa m=>by cases m⟩
   obtain⟨f1,f2⟩:=hf
   obtain⟨wv,sF⟩:=w.fresh st k f2
   obtain⟨fa,wa⟩:=wv.HR (i:=i) (d:=x.1) (x:=σ) (rr.mono (wR st.sub')) f1 (λa m=>Wb m) (λa m e=>by have:=(w.aW a e).1;rw [f2 a m] at this;cases this) (λa m=>by
    cases z:H0 a with
    |none=>rfl
    |some o=>exact absurd (f2 a m) (w.st.dm a (by rw [z];exact nofun))) (λa m z=>(w.bR a z).2.1 (f2 a m))
   have p2:Pre sk (minus F1 as) H1 σ ρ aj s1:=p.next ⟨sF,KP.trans st.sub',λa o x y z=>st.fr a o x y z,st.dm,λb u e=>st.new b u (KP b u e)⟩ wv.aW
   refine r.ok K p2 wa h2 λvs F2 H2 fv Qv w2 hl=>?_
   exact q (v::vs) F2 H2 fv (sF.trans Qv) w2 (by rw [Kad,Kad,hl])
  ·cases h2
theorem JP.rR {ρ aB cI:List Slot}{s s1 s2:ae}{i:Nat}{e:SE}{α:Type}[Enc α]{x v:α}{p:SP}(hx:x=v)(h:JE e ρ s v s1 true)(hp:JP p ρ (aB.set i (.rR (enc x))) s1 cI s2):JP (SP.Km i e p) ρ aB s cI s2:=by
 subst hx
 obtain⟨w',h1,h2⟩:=h
 show (e.ev ρ s).bind _=_
 rw [h1]
 show (if dX (enc x,w')=true then _ else _)=_
 rw [if_pos (by unfold dX;rw [h2 rfl];rfl)]
 exact hp
end Pu
namespace Pu
open PySem PySem.Spec PyProof.Rows L2 Enc
variable [aR]
def SE.Yj (a:SE)(lo hi:SO):SE where
 t:=λK=>tSl (rSlA K) (a.t K) (lo.t K) (hi.t K)
 ev:=λρ s=>(a.ev ρ s).bind λx=>(lo.ev ρ x.2).bind λy=>(hi.ev ρ y.2).bind λw=>match x.1.1 with
  |.tuple ds=>some ((.tuple (dY ds y.1 w.1),x.1.2),w.2)
  |_=>none
 ok:=by
  intro K sk F H σ ρ aj s vl s' Q p h q
  obtain⟨⟨⟨x,fl⟩,s1⟩,h1,hA⟩:=aI h
  obtain⟨⟨y,s2⟩,h2,hB⟩:=aI hA
  obtain⟨⟨w,s3⟩,h3,hC⟩:=aI hB
  clear h hA hB
  dsimp only at hC
  split at hC
  ·rename_i ds
   cases hC
   refine a.ok K p h1 λv F1 H1 as st1 k1 r1 f1=>?_
   refine lo.ok K (p.next st1 k1) h2 λF2 H2 st2 k2=>?_
   refine hi.ok K ((p.next st1 k1).next st2 k2) h3 λF3 H3 st3 k3=>?_
   have r3:=(r1.mono st2.sub).mono st3.sub
   obtain⟨b,xs,rfl,ha,hr⟩:=r3.bM
   obtain⟨bs,g1,g2⟩:=hr.drop (HT.sIx ds.length 0 y)
   obtain⟨cs,g3,g4⟩:=g1.take (HT.sIx ds.length ds.length w-HT.sIx ds.length 0 y)
   have hc:ao F3 (cutV xs y w) (dY ds y w) cs:=by
    unfold cutV dY
    rw [hr.len]
    exact g3
   refine⟨b,xs,rfl,.inl (.inl (st3.sub' _ _ ha)),λe=>?_,λ_ pp np=>?_⟩
   ·rw [hr.len] at e
    have e2:=pT e
    refine q _ F3 H3 as ((st1.trans st2).trans st3) k3 ?_ f1
    show Rp F3 (.ref b) (.tuple (dY ds y w)) as
    rw [e2];exact r3
   ·have sa:aY F3 H3 (upd F3 pp (.tup (cutV xs y w))) (upd H3 pp (.tup (cutV xs y w))):=.alloc st3.sub' np
    refine q _ _ _ cs (((st1.trans st2).trans st3).trans sa.any) (k3.keep sa) (.tup upd_same (hc.mono sa.sub)) λe=>?_
    obtain⟨f2,f3⟩:=f1 e
    have sb:=g4.trans g2
    exact⟨f2.sublist sb,λx m=>f3 x (sb.subset m)⟩
  ·cases hC
section
variable {α β γ:Type}[Enc α][Enc β][Enc γ]{ρ:List Slot}{s s1:ae}{a:SE}{w:Bool}
theorem JE.HV {p:T3 α β γ}(ha:JE a ρ s p s1 w):JE (SE.Yj a SO.no (SO.at (SE.ab 2))) ρ s ((p.x,p.y):α×β) s1 w:=by
 obtain⟨w',e,g⟩:=ha
 refine⟨w',?_,g⟩
 show (a.ev ρ s).bind _=_
 rw [e];rfl
end
end Pu
set_option maxHeartbeats 4000000
set_option exponentiation.threshold 2000
namespace Pu
variable [aR]
open PySem L2 Enc
section
abbrev Slot.e {α:Type}[Enc α](x:α):Slot:=.dat (Enc.enc x)
abbrev Ec:=T3 (List Int) (List Int) Int
abbrev aV:=T4 (List Int) Int Int (List Int)
abbrev yg:=(List Int)×(List Int)
abbrev aK:=@JC.cons
abbrev bK:=@JC.nil
abbrev cK:=@SR.cons
abbrev dK:=@SR.nil
abbrev eK:=@SA.cons
abbrev fK:=@SA.nil
abbrev gK:=@JA.nil
abbrev iK:=@JA.gD
abbrev jK:=@cC.cons
end
def J3:SS:=SS.ac (SE.all (fB (SI.zip (ai 0) (wC (ai 0) (SO.at (SE.ab 1)) (SO.no))) (SG.tup (jK (aQ 1) (jK (aQ 2) (cC.nil)))) (cL) (qk (ai 1) (ai 2)) [1,2] (of_decide_eq_true rfl)))
def NG:Fn:=fnOf 1 2 J3
def Er (dI:List Int):Bool:=
 (KbJ (Kai (λ(x1:Int×Int)=>(decide (x1.1<x1.2))) (Kba dI (cut dI (some (1:Int)) none))) id)
def vz (dI:List Int):Prop:=
 (Kba dI (cut dI (some (1:Int)) none)).length<=100000
theorem eG (dI:List Int)(s:ae)(h0:vz dI):JF NG [.e dI] s (Er dI) s false:=by
 unfold vz at h0
 have h1:=h0
 refine eW rfl ?_
 unfold Er J3
 show JB _ [.e dI,.emp,.emp] _ _
 exact JB.ag (jB (JE.all (CQ (λ(x1:Int×Int)=>[.e dI,.e x1.1,.e x1.2]) (JI.zip (ak rfl) (BJ (ak rfl) (JO.at (JE.ab 1)) (JO.no))) (λ_=>rfl) (λx1 _=>wF (ak rfl) (ak rfl)) h1)))
def OZ:SS:=SS.ab (sU (SG.tup (jK (aQ 1) (jK (aQ 2) (jK (aQ 3) (jK (aQ 4) (cC.nil)))))) (ai 0)) (SS.ab (dW (uB (ST.ab (qk (ai 2) (SE.ab 0))) (ST.ab (qk (ai 3) (SE.ab 1)))) (SS.ac (SE.bool false)) (SS.ag)) (SS.ac (SE.ym (SE.ac NG (cK (xZ (xZ (SE.lst (eK (SE.ag (SE.ab 1)) (fK))) (ai 1)) (SE.lst (eK (ai 2) (fK)))) (dK))) (SE.ac NG (cK (xZ (xZ (SE.lst (eK (SE.ag (SE.ab 1)) (fK))) (ai 4)) (SE.lst (eK (ai 3) (fK)))) (dK))))))
def VG:Fn:=fnOf 1 4 OZ
def Jh (af:aV):Bool:=
 if (af.y<(0:Int))∨(af.z<(1:Int)) then
 false
 else
 (decide (((Er (([(-(1:Int))]++af.x)++[af.y]))=true)/\((Er (([(-(1:Int))]++af.u)++[af.z]))=true)))
def yL (af:aV):Prop:=
 (¬((af.y<(0:Int))∨(af.z<(1:Int)))->([(-(1:Int))].length+af.x.length<=100000/\([(-(1:Int))]++af.x).length+[af.y].length<=100000/\vz (([(-(1:Int))]++af.x)++[af.y])/\(((Er (([(-(1:Int))]++af.x)++[af.y]))=true)->([(-(1:Int))].length+af.u.length<=100000/\([(-(1:Int))]++af.u).length+[af.z].length<=100000/\vz (([(-(1:Int))]++af.u)++[af.z])))))
theorem wH (af:aV)(s:ae)(h0:yL af):JF VG [.e af] s (Jh af) s false:=by
 unfold yL at h0
 have h8:=h0
 refine eW rfl ?_
 unfold Jh OZ
 show JB _ [.e af,.emp,.emp,.emp,.emp] _ _
 refine JB.ab (aB:=[.e af,.e af.x,.e af.y,.e af.z,.e af.u]) (wk (ak rfl) rfl) ?_
 refine zP (BK (JT.ab (wF (ak rfl) (JE.ab 0))) (λ_=>JT.ab (wF (ak rfl) (JE.ab 1)))) ?_ (λ_=>JD) ?_
 ·intro hq
  exact JB.ag (jB (JE.bool false))
 intro hq
 obtain⟨h1,h2,h3,h7⟩:=h8 hq
 refine xY ?_
 exact JB.ag (JE.ym (hxd (JE.ac (aK (BG (BG (JE.lst (xs:=[(-(1:Int))]) (iK (JE.neg (JE.ab 1)) (gK)) (by show 1<=100000;decide)) (ak rfl) h1) (JE.lst (xs:=[af.y]) (iK (ak rfl) (gK)) (by show 1<=100000;decide)) h2) (bK)) (eG (([(-(1:Int))]++af.x)++[af.y]) _ h3))) (λhq=>(match h7 hq with|⟨h4,h5,h6⟩=>hxd (JE.ac (aK (BG (BG (JE.lst (xs:=[(-(1:Int))]) (iK (JE.neg (JE.ab 1)) (gK)) (by show 1<=100000;decide)) (ak rfl) h4) (JE.lst (xs:=[af.z]) (iK (ak rfl) (gK)) (by show 1<=100000;decide)) h5) (bK)) (eG (([(-(1:Int))]++af.u)++[af.z]) _ h6)))))
def KD:SS:=dW (GV (ST.ab (SE.ac VG (cK (ai 0) (dK))))) (LH) (SS.ag)
def exc:Fn:=fnOf 1 0 KD
def tJ (af:aV):Unit:=
 if ¬((Jh af)=true) then
 ()
 else
 ()
def t7 (af:aV):Prop:=
 yL af/\((¬((Jh af)=true))->False)
theorem jc (af:aV)(s:ae)(h0:t7 af):JF exc [.e af] s (tJ af) s true:=by
 unfold t7 at h0
 obtain⟨h1,h3⟩:=h0
 show JF _ _ _ () _ _
 refine JF.Xi rfl ?_
 unfold KD
 show JB _ [.e af] _ (BO s (if ¬((Jh af)=true) then
 ()
 else
 ()))
 refine wB (JT.ag (JT.ab (hxd (JE.ac (aK (ak rfl) (bK)) (wH af _ h1))))) ?_ ?_
 ·intro hq
  have h2:=h3 hq
  exact h2.elim
 ·intro hq
  exact JB.al ⟨_,rfl⟩
def NT:SS:=SS.ab (Jy 1 (SB.own (SE.lst (fK)))) (SS.ab (uz 2 3 (l6 2 (ai 0) (l6 3 (SE.ab 2) (SP.nil))) (of_decide_eq_true rfl)) (SS.ab (CH fuel (ST.ab (hxs (ai 2) (SE.ab 1))) (fu [] (SS.ab (dW (ST.ab (gM (sR (ai 2) (ai 3)) (SE.ab 0))) (fu [] (SS.ab (EL 1 (ai 3)) (CH fuel (ST.ab (gM (sR (ai 2) (ai 3)) (SE.ab 0))) (fu [] (dh 2 (ux (ai 2) (ai 3))))))) (fu [] (SS.ag))) (SS.am 3 (SE.ab 1) (λi j=>i+j))))) (GS 1 (SS.ac (ai 1)))))
def SN:Fn:=fnOf 1 3 NT
def Bs (st1:((List Int)×Int×Int))(st2:Int):Prop:=(st2 % st1.2.2)=(0:Int)
instance (st1:((List Int)×Int×Int)):DecidablePred (Bs st1):=λst=>by unfold Bs;infer_instance
def Em (st1:((List Int)×Int×Int))(st2:Int):Int:=
 lt ((st2 / st1.2.2)) λz9=>
 z9
def IE (st1:((List Int)×Int×Int))(st2:Int):Prop:=0<st1.2.2
def IL (st1:((List Int)×Int×Int))(st2:Int):Prop:=
 (0<st1.2.2/\st1.2.2<1000000000000000000000000000000000000000000000000000000000000)
def Ek  (st1:(List Int)×Int×Int):Prop:=(1:Int)<st1.2.1
instance  : DecidablePred (Ek ):=λst=>by unfold Ek;infer_instance
def En  (st1:(List Int)×Int×Int):(List Int)×Int×Int:=
 lt (if (st1.2.1 % st1.2.2)=(0:Int) then
 lt (st1.1++[st1.2.2]) λiz=>
 lt (jS (Bs st1) (Em st1) fuel st1.2.1) λp2=>
 (iz,p2)
 else
 (st1.1,st1.2.1)) λp1=>
 lt (st1.2.2+(1:Int)) λpart2=>
 (p1.1,p1.2,part2)
def Ru  (st1:(List Int)×Int×Int):Prop:=True
def Iz  (st1:(List Int)×Int×Int):Prop:=
 0<st1.2.2/\(((st1.2.1 % st1.2.2)=(0:Int))->(st1.1.length<100000/\(bG (st1.1++[st1.2.2]) λiz=>
 rT (Bs st1) (Em st1) (IE st1) (IL st1) fuel st1.2.1)))
def BV (nX:Int):List Int:=
 lt (([]:List Int)) λfG=>
 lt (nX) λng=>
 lt ((2:Int)) λpart1=>
 lt (jS (Ek) (En) fuel (fG,ng,part1)) λp3=>
 p3.1
def yq (nX:Int):Prop:=
 (bG (([]:List Int)) λfG=>
 (bG (nX) λng=>
 (bG ((2:Int)) λpart1=>
 rT (Ek) (En) (Ru) (Iz) fuel (fG,ng,part1))))
theorem kP (nX:Int)(s:ae)(h0:yq nX):JF SN [.e nX] s (BV nX) s false:=by
 unfold yq at h0
 have h11:=h0
 refine eW rfl ?_
 unfold BV NT
 show JB _ [.e nX,.emp,.emp,.emp] _ _
 refine a_ λfG e1=>?_
 have h10:=b5 h11 e1
 refine JB.ab (aB:=[.e nX,.aO (Kai enc fG) true,.emp,.emp]) (JN.aO (P6 (JE.lst (xs:=[]) gK)) e1) ?_
 refine a_ λng e2=>?_
 have h9:=b5 h10 e2
 refine a_ λpart1 e3=>?_
 have h8:=b5 h9 e3
 refine JB.ab (aB:=[.e nX,.aO (Kai enc fG) true,.e ng,.e part1]) (hxc (JP.dat e2 (ak rfl) (JP.dat e3 (JE.ab 2) (JP.nil)))) ?_
 refine a_ λp3 e9=>?_
 refine JB.ab (GQ (J:=λ(st1:(List Int)×Int×Int)=>[.e nX,.aO (Kai enc st1.1) true,.e st1.2.1,.e st1.2.2]) (f:=(En)) (C:=(Ek)) (dc:=(Ru)) (d:=(Iz)) (st:=(fG,ng,part1)) rfl ?_ ?_ h8 e9) ?_
 ·intro st1 hd
  exact JT.ab (JE.gt (ak rfl) (JE.ab 1))
 ·intro st1 hd
  unfold Iz at hd
  obtain⟨h1,h7⟩:=hd
  unfold En
  refine lI ?_
  refine a_ λp1 e4=>?_
  refine JB.ab (JN.ZS (J:=λ(p:(List Int)×Int)=>[.e nX,.aO (Kai enc p.1) true,.e p.2,.e st1.2.2]) (JT.ab (ql (x6 (ak rfl) (ak rfl) h1) (JE.ab 0))) ?_ ?_ e4) ?_
  ·intro hq
   obtain⟨h2,h6⟩:=h7 hq
   refine lI ?_
   refine a_ λiz e5=>?_
   have h5:=b5 h6 e5
   refine JB.ab (aB:=[.e nX,.aO (Kai enc iz) true,.e st1.2.1,.e st1.2.2]) (JN.aO (WO rfl (ak rfl) h2) e5) ?_
   refine a_ λp2 e7=>?_
   refine JB.ac (GQ (J:=λ(st2:Int)=>[.e nX,.aO (Kai enc iz) true,.e st2,.e st1.2.2]) (f:=(Em st1)) (C:=(Bs st1)) (dc:=(IE st1)) (d:=(IL st1)) (st:=st1.2.1) rfl ?_ ?_ h5 e7) ?_
   ·intro st2 hd
    unfold IE at hd
    have h3:=hd
    exact JT.ab (ql (x6 (ak rfl) (ak rfl) h3) (JE.ab 0))
   ·intro st2 hd
    unfold IL at hd
    have h4:=hd
    unfold Em
    refine lI ?_
    refine a_ λz9 e6=>?_
    refine JB.ac (aB:=[.e nX,.aO (Kai enc iz) true,.e z9,.e st1.2.2]) (d7 (zI (ak rfl) (ak rfl) h4) e6) ?_
    exact rfl
   exact rfl
  ·intro hq
   refine lI ?_
   exact JB.al rfl
  show JB _ [.e nX,.aO (Kai enc p1.1) true,.e p1.2,.e st1.2.2] _ _
  refine a_ λpart2 e8=>?_
  refine JB.ac (aB:=[.e nX,.aO (Kai enc p1.1) true,.e p1.2,.e part2]) (JN.JU rfl (JE.ab 1) e8) ?_
  exact rfl
 show JB _ [.e nX,.aO (Kai enc p3.1) true,.e p3.2.1,.e p3.2.2] _ _
 refine JB.frz (i:=1) rfl ?_
 show JB _ [.e nX,.e p3.1,.e p3.2.1,.e p3.2.2] _ _
 exact JB.ag (ak rfl)
def NJ:SS:=SS.ab (dh 3 (ux (iB (ai 0)) (ai 2))) (SS.ab (dW (ST.ab (zO (sR (ai 1) (ai 3)) (SE.ab 0))) (SS.ac (SE.bool false)) (SS.ag)) (SS.ab (dh 4 (xZ (wC (ai 0) (SO.at (ai 2)) (SO.no)) (fB (SI.list (wC (ai 0) (SO.no) (SO.at (ai 2)))) (aQ 5) (cL) (gr (ai 5) (ai 1)) [5] (of_decide_eq_true rfl)))) (SS.ac (SE.all (fB (SI.zip (ai 0) (ai 4)) (SG.tup (jK (aQ 5) (jK (aQ 6) (cC.nil)))) (cL) (gM (gr (ai 5) (ux (ai 1) (ai 3))) (ai 6)) [5,6] (of_decide_eq_true rfl))))))
def RU:Fn:=fnOf 3 4 NJ
def J0 (aG:List Int)(aJ:Int)(bh:Int):Bool:=
 lt (((aG.length:Int) / bh)) λxU=>
 if (aJ % xU)≠(0:Int) then
 false
 else
 lt (((cut aG (some bh) none)++(Kai (λ(x1:Int)=>(x1+aJ)) (cut aG none (some bh))))) λGJ=>
 (KbJ (Kai (λ(x2:Int×Int)=>(decide ((x2.1+(aJ / xU))=x2.2))) (Kba aG GJ)) id)
def xC (aG:List Int)(aJ:Int)(bh:Int):Prop:=
 (0<bh/\bh<1000000000000000000000000000000000000000000000000000000000000)/\(bG (((aG.length:Int) / bh)) λxU=>
 0<xU/\(¬((aJ % xU)≠(0:Int))->((cut aG none (some bh)).length<=100000/\(cut aG (some bh) none).length+(Kai (λ(x1:Int)=>(x1+aJ)) (cut aG none (some bh))).length<=100000/\(bG (((cut aG (some bh) none)++(Kai (λ(x1:Int)=>(x1+aJ)) (cut aG none (some bh))))) λGJ=>
 (∀x2∈(Kba aG GJ),(0<xU/\xU<1000000000000000000000000000000000000000000000000000000000000))/\(Kba aG GJ).length<=100000))))
theorem kO (aG:List Int)(aJ:Int)(bh:Int)(s:ae)(h0:xC aG aJ bh):JF RU [.e aG,.e aJ,.e bh] s (J0 aG aJ bh) s false:=by
 unfold xC at h0
 obtain⟨h1,h10⟩:=h0
 refine eW rfl ?_
 unfold J0 NJ
 show JB _ [.e aG,.e aJ,.e bh,.emp,.emp,.emp,.emp] _ _
 refine a_ λxU e1=>?_
 obtain⟨h2,h9⟩:=b5 h10 e1
 refine JB.ab (aB:=[.e aG,.e aJ,.e bh,.e xU,.emp,.emp,.emp]) (d7 (zI (jT (ak rfl)) (ak rfl) h1) e1) ?_
 refine zP (JT.ab (JE.ne (x6 (ak rfl) (ak rfl) h2) (JE.ab 0))) ?_ (λ_=>JD) ?_
 ·intro hq
  exact JB.ag (jB (JE.bool false))
 intro hq
 obtain⟨h3,h4,h8⟩:=h9 hq
 refine xY ?_
 refine a_ λGJ e2=>?_
 obtain⟨h7,h6⟩:=b5 h8 e2
 refine JB.ab (aB:=[.e aG,.e aJ,.e bh,.e xU,.e GJ,.emp,.emp]) (d7 (BG (BJ (ak rfl) (JO.at (ak rfl)) (JO.no)) (CQ (λ(x1:Int)=>[.e aG,.e aJ,.e bh,.e xU,.emp,.e x1,.emp]) (JI.list (BJ (ak rfl) (JO.no) (JO.at (ak rfl)))) (λ_=>rfl) (λx1 _=>m6 (ak rfl) (ak rfl)) h3) h4) e2) ?_
 exact JB.ag (jB (JE.all (CQ (λ(x2:Int×Int)=>[.e aG,.e aJ,.e bh,.e xU,.e GJ,.e x2.1,.e x2.2]) (JI.zip (ak rfl) (ak rfl)) (λ_=>rfl) (λx2 hx=>(have h5:=h7 x2 hx;ql (m6 (ak rfl) (zI (ak rfl) (ak rfl) h5)) (ak rfl))) h6)))
def Nn:SS:=SS.ab (dh 2 (iB (ai 0))) (SS.ab (lH (SI.list (SE.ac SN (cK (ai 2) (dK)))) (aQ 3) (fu [3] (CH fuel (EO (ST.ab (gM (sR (ai 2) (ai 3)) (SE.ab 0))) (ST.ab (SE.ac RU (cK (ai 0) (cK (ai 1) (cK (ux (ai 2) (ai 3)) (dK))))))) (fu [] (dh 2 (ux (ai 2) (ai 3))))))) (SS.ac (ai 2)))
def RG:Fn:=fnOf 2 2 Nn
def Br (aG:List Int)(aJ:Int)(x1:Int)(st2:Int):Prop:=((st2 % x1)=(0:Int))/\((J0 aG aJ (st2 / x1))=true)
instance (aG:List Int)(aJ:Int)(x1:Int):DecidablePred (Br aG aJ x1):=λst=>by unfold Br;infer_instance
def Ei (aG:List Int)(aJ:Int)(x1:Int)(st2:Int):Int:=
 lt ((st2 / x1)) λWg=>
 Wg
def IJ (aG:List Int)(aJ:Int)(x1:Int)(st2:Int):Prop:=0<x1/\(((st2 % x1)=(0:Int))->((0<x1/\x1<1000000000000000000000000000000000000000000000000000000000000)/\xC aG aJ (st2 / x1)))
def IK (aG:List Int)(aJ:Int)(x1:Int)(st2:Int):Prop:=
 (0<x1/\x1<1000000000000000000000000000000000000000000000000000000000000)
def Fw (aG:List Int)(aJ:Int)(st1:Int)(x1:Int):Int:=
 lt (jS (Br aG aJ x1) (Ei aG aJ x1) fuel st1) λp1=>
 p1
def M7 (aG:List Int)(aJ:Int)(st1:Int)(x1:Int):Prop:=
 rT (Br aG aJ x1) (Ei aG aJ x1) (IJ aG aJ x1) (IK aG aJ x1) fuel st1
def Iv (aG:List Int)(aJ:Int):Int:=
 lt ((aG.length:Int)) λbh=>
 lt (Kas (Fw aG aJ) bh (BV bh)) λp2=>
 p2
def yC (aG:List Int)(aJ:Int):Prop:=
 (bG ((aG.length:Int)) λbh=>
 yq bh/\bW (Fw aG aJ) (M7 aG aJ) (BV bh) bh)
theorem jG (aG:List Int)(aJ:Int)(s:ae)(h0:yC aG aJ):JF RG [.e aG,.e aJ] s (Iv aG aJ) s false:=by
 unfold yC at h0
 have h9:=h0
 refine eW rfl ?_
 unfold Iv Nn
 show JB _ [.e aG,.e aJ,.emp,.emp] _ _
 refine a_ λbh e1=>?_
 obtain⟨h1,h8⟩:=b5 h9 e1
 refine JB.ab (aB:=[.e aG,.e aJ,.e bh,.emp]) (d7 (jT (ak rfl)) e1) ?_
 refine a_ λp2 e4=>?_
 refine JB.ab (wm (J:=λ(st1:Int)=>[.e aG,.e aJ,.e st1,.emp]) (R:=λ(st1:Int) (x1:Int)=>[.e aG,.e aJ,.e st1,.e x1]) (f:=(Fw aG aJ)) (d:=(M7 aG aJ)) (st:=bh) (JI.list (JE.ac (aK (ak rfl) (bK)) (kP bh _ h1))) rfl (λ_ _=>rfl) ?_ h8 e4) ?_
 ·intro st1 x1 hd
  unfold M7 at hd
  have h7:=hd
  unfold Fw
  refine lI ?_
  refine a_ λp1 e3=>?_
  refine JB.ac (GQ (J:=λ(st2:Int)=>[.e aG,.e aJ,.e st2,.e x1]) (f:=(Ei aG aJ x1)) (C:=(Br aG aJ x1)) (dc:=(IJ aG aJ x1)) (d:=(IK aG aJ x1)) (st:=st1) rfl ?_ ?_ h7 e3) ?_
  ·intro st2 hd
   unfold IJ at hd
   obtain⟨h2,h5⟩:=hd
   exact JT.and (JT.ab (ql (x6 (ak rfl) (ak rfl) h2) (JE.ab 0))) (λhq=>(match h5 hq with|⟨h3,h4⟩=>JT.ab (hxd (JE.ac (aK (ak rfl) (aK (ak rfl) (aK (zI (ak rfl) (ak rfl) h3) (bK)))) (kO aG aJ (st2 / x1) _ h4)))))
  ·intro st2 hd
   unfold IK at hd
   have h6:=hd
   unfold Ei
   refine lI ?_
   refine a_ λWg e2=>?_
   refine JB.ac (aB:=[.e aG,.e aJ,.e Wg,.e x1]) (d7 (zI (ak rfl) (ak rfl) h6) e2) ?_
   exact rfl
  exact rfl
 show JB _ [.e aG,.e aJ,.e p2,.emp] _ _
 exact JB.ag (ak rfl)
def Od:SS:=SS.ab (sU (SG.tup (jK (aQ 1) (jK (aQ 2) (jK (aQ 3) (cC.nil))))) (ai 0)) (SS.ab (dh 4 (SE.ac RG (cK (ai 2) (cK (ai 3) (dK))))) (SS.ab (SS.set 5 (ux (wD (ai 3) (ai 4)) (iB (ai 2)))) (SS.ab (uz 6 7 (l6 6 (xZ (ai 1) (wC (ai 2) (SO.no) (SO.at (ai 4)))) (l6 7 (iB (ai 1)) (SP.nil))) (of_decide_eq_true rfl)) (SS.ab (CH fuel (EO (ST.ab (hxs (ai 7) (SE.ab 0))) (ST.ab (gM (gr (cW (ai 6) (EU (ai 7) (SE.ab 1))) (ai 5)) (cW (ai 6) (gr (EU (ai 7) (SE.ab 1)) (ai 4)))))) (fu [] (SS.am 7 (SE.ab 1) (λi j=>i-j)))) (BH (RE.tup (RA.cons (RE.e (wC (ai 6) (SO.no) (SO.at (ai 7)))) (RA.cons (RE.e (wC (ai 6) (SO.at (ai 7)) (SO.at (gr (ai 7) (ai 4))))) (RA.cons (RE.e (ai 5)) (RA.nil))))))))))
def S5:Fn:=fnOf 1 7 Od
def Ex (bh:Int)(bI:Int)(dI:List Int)(st1:Int):Prop:=((0:Int)<st1)/\(((au dI (st1-(1:Int)))+bI)=(au dI ((st1-(1:Int))+bh)))
instance (bh:Int)(bI:Int)(dI:List Int):DecidablePred (Ex bh bI dI):=λst=>by unfold Ex;infer_instance
def IQ (bh:Int)(bI:Int)(dI:List Int)(st1:Int):Int:=
 lt (st1-(1:Int)) λCw=>
 Cw
def JZ (bh:Int)(bI:Int)(dI:List Int)(st1:Int):Prop:=(((0:Int)<st1)->((-(dI.length:Int)<=(st1-(1:Int))/\(st1-(1:Int))<(dI.length:Int))/\(-(dI.length:Int)<=((st1-(1:Int))+bh)/\((st1-(1:Int))+bh)<(dI.length:Int))))
def Np (bh:Int)(bI:Int)(dI:List Int)(st1:Int):Prop:=
 True
def eU (bf:Ec):Ec:=
 lt ((Iv bf.y bf.z)) λbh=>
 lt (((bf.z*bh) / (bf.y.length:Int))) λbI=>
 lt ((bf.x++(cut bf.y none (some bh)))) λdI=>
 lt ((bf.x.length:Int)) λv7=>
 lt (jS (Ex bh bI dI) (IQ bh bI dI) fuel v7) λp2=>
 (T3.mk (cut dI none (some p2)) (cut dI (some p2) (some (p2+bh))) bI)
def vE (bf:Ec):Prop:=
 yC bf.y bf.z/\(bG ((Iv bf.y bf.z)) λbh=>
 (KbG bf.z<18446744073709551616∨KbG bh<18446744073709551616)/\(0<(bf.y.length:Int)/\(bf.y.length:Int)<1000000000000000000000000000000000000000000000000000000000000)/\(bG (((bf.z*bh) / (bf.y.length:Int))) λbI=>
 bf.x.length+(cut bf.y none (some bh)).length<=100000/\(bG ((bf.x++(cut bf.y none (some bh)))) λdI=>
 (bG ((bf.x.length:Int)) λv7=>
 rT (Ex bh bI dI) (IQ bh bI dI) (JZ bh bI dI) (Np bh bI dI) fuel v7))))
theorem ow (bf:Ec)(s:ae)(h0:vE bf):JF S5 [.e bf] s (eU bf) s true:=by
 unfold vE at h0
 obtain⟨h1,h12⟩:=h0
 refine eW rfl ?_
 unfold eU Od
 show JB _ [.e bf,.emp,.emp,.emp,.emp,.emp,.emp,.emp] _ _
 refine JB.ab (aB:=[.e bf,.e bf.x,.e bf.y,.e bf.z,.emp,.emp,.emp,.emp]) (wk (ak rfl) rfl) ?_
 refine a_ λbh e2=>?_
 obtain⟨h2,h3,h11⟩:=b5 h12 e2
 refine JB.ab (aB:=[.e bf,.e bf.x,.e bf.y,.e bf.z,.e bh,.emp,.emp,.emp]) (d7 (JE.ac (aK (ak rfl) (aK (ak rfl) (bK))) (jG bf.y bf.z _ h1)) e2) ?_
 refine a_ λbI e3=>?_
 obtain⟨h4,h10⟩:=b5 h11 e3
 refine JB.ab (aB:=[.e bf,.e bf.x,.e bf.y,.e bf.z,.e bh,.own (enc bI),.emp,.emp]) (LR (zI (EN (ak rfl) (ak rfl) h2) (jT (ak rfl)) h3) e3) ?_
 refine a_ λdI e4=>?_
 have h9:=b5 h10 e4
 refine a_ λv7 e5=>?_
 have h8:=b5 h9 e5
 refine JB.ab (aB:=[.e bf,.e bf.x,.e bf.y,.e bf.z,.e bh,.own (enc bI),.e dI,.e v7]) (hxc (JP.dat e4 (BG (ak rfl) (BJ (ak rfl) (JO.no) (JO.at (ak rfl))) h4) (JP.dat e5 (jT (ak rfl)) (JP.nil)))) ?_
 refine a_ λp2 e7=>?_
 refine JB.ab (GQ (J:=λ(st1:Int)=>[.e bf,.e bf.x,.e bf.y,.e bf.z,.e bh,.own (enc bI),.e dI,.e st1]) (f:=(IQ bh bI dI)) (C:=(Ex bh bI dI)) (dc:=(JZ bh bI dI)) (d:=(Np bh bI dI)) (st:=v7) rfl ?_ ?_ h8 e7) ?_
 ·intro st1 hd
  unfold JZ at hd
  have h7:=hd
  exact JT.and (JT.ab (JE.gt (ak rfl) (JE.ab 0))) (λhq=>(match h7 hq with|⟨h5,h6⟩=>JT.ab (ql (m6 (l7 (ak rfl) (JE.sub (ak rfl) (JE.ab 1)) h5) (LJ rfl)) (l7 (ak rfl) (m6 (JE.sub (ak rfl) (JE.ab 1)) (ak rfl)) h6))))
 ·intro st1 hd
  unfold IQ
  refine lI ?_
  refine a_ λCw e6=>?_
  refine JB.ac (aB:=[.e bf,.e bf.x,.e bf.y,.e bf.z,.e bh,.own (enc bI),.e dI,.e Cw]) (JN.JU rfl (JE.ab 1) e6) ?_
  exact rfl
 show JB _ [.e bf,.e bf.x,.e bf.y,.e bf.z,.e bh,.own (enc bI),.e dI,.e p2] _ _
 exact P9 (gi.DY (gh.cons (gi.se (BJ (ak rfl) (JO.no) (JO.at (ak rfl)))) (gh.cons (gi.se (BJ (ak rfl) (JO.at (ak rfl)) (JO.at (m6 (ak rfl) (ak rfl))))) (gh.gD (gi.se (LJ rfl)) (gh.nil)))))
def Ot:SS:=SS.ab (sU (SG.tup (jK (aQ 1) (jK (aQ 2) (cC.nil)))) (ai 0)) (SS.ac (SE.Yj (SE.ac S5 (cK (SE.tup (eK (ai 1) (eK (ai 2) (eK (SE.ab 0) (fK))))) (dK))) (SO.no) (SO.at (SE.ab 2))))
def S6:Fn:=fnOf 1 2 Ot
def IV (br:yg):yg:=
 ((eU (T3.mk br.1 br.2 (0:Int))).x,(eU (T3.mk br.1 br.2 (0:Int))).y)
def yO (br:yg):Prop:=
 vE (T3.mk br.1 br.2 (0:Int))
theorem ou (br:yg)(s:ae)(h0:yO br):JF S6 [.e br] s (IV br) s true:=by
 unfold yO at h0
 have h1:=h0
 refine eW rfl ?_
 unfold IV Ot
 show JB _ [.e br,.emp,.emp] _ _
 refine JB.ab (aB:=[.e br,.e br.1,.e br.2]) (wk (ak rfl) rfl) ?_
 exact JB.ag (JE.HV (JE.ac (aK (JE.DY (GR (ak rfl) (GR (ak rfl) (iK (JE.ab 0) (gK))))) (bK)) (ow (T3.mk br.1 br.2 (0:Int)) _ h1)))
def KR:SS:=SS.ab (sU (SG.tup (jK (aQ 1) (jK (aQ 2) (jK (aQ 3) (jK (aQ 4) (cC.nil)))))) (ai 0)) (SS.ab (SS.yu 5 6 (SP.dc 5 (SI.list (ai 1)) (aQ 7) (cL) (ai 7) (SE.bool true) [7] (of_decide_eq_true rfl) (SP.dc 6 (SI.list (ai 4)) (aQ 8) (cL) (ai 8) (SE.bool true) [8] (of_decide_eq_true rfl) (SP.nil))) (of_decide_eq_true rfl)) (SS.ac (SE.tup (eK (fB (rX (ai 2)) (aQ 7) (cL) (uy (Jv 5 (ai 7))) [7] (of_decide_eq_true rfl)) (eK (fB (rX (ai 3)) (aQ 8) (cL) (uy (Jv 6 (ai 8))) [8] (of_decide_eq_true rfl)) (fK))))))
def KC:Fn:=fnOf 1 8 KR
def iF (af:aV):yg:=
 lt (KbM (Kai (λ(x1:Int)=>(x1,true)) af.x)) λaz=>
 lt (KbM (Kai (λ(x2:Int)=>(x2,true)) af.u)) λJp=>
 ((Kai (λ(x3:Int)=>(b2i (decide (KaQ (aN az x3)=true)))) (rng 0 af.y)),(Kai (λ(x4:Int)=>(b2i (decide (KaQ (aN Jp x4)=true)))) (rng 0 af.z)))
def uc (af:aV):Prop:=
 af.x.length<=100000/\(bG (KbM (Kai (λ(x1:Int)=>(x1,true)) af.x)) λaz=>
 af.u.length<=100000/\(bG (KbM (Kai (λ(x2:Int)=>(x2,true)) af.u)) λJp=>
 (-1000000<=af.y/\af.y<=1000000)/\(rng 0 af.y).length<=100000/\(-1000000<=af.z/\af.z<=1000000)/\(rng 0 af.z).length<=100000))
theorem kQ (af:aV)(s:ae)(h0:uc af):JF KC [.e af] s (iF af) s true:=by
 unfold uc at h0
 obtain⟨h1,h8⟩:=h0
 refine eW rfl ?_
 unfold iF KR
 show JB _ [.e af,.emp,.emp,.emp,.emp,.emp,.emp,.emp,.emp] _ _
 refine JB.ab (aB:=[.e af,.e af.x,.e af.y,.e af.z,.e af.u,.emp,.emp,.emp,.emp]) (wk (ak rfl) rfl) ?_
 refine a_ λaz e2=>?_
 obtain⟨h2,h7⟩:=b5 h8 e2
 refine a_ λJp e3=>?_
 obtain⟨h3,h4,h5,h6⟩:=b5 h7 e3
 refine JB.ab (aB:=[.e af,.e af.x,.e af.y,.e af.z,.e af.u,.cT (b6 az),.cT (b6 Jp),.emp,.emp]) (JN.yu (JP.dc e2 (λ(x1:Int)=>[.e af,.e af.x,.e af.y,.e af.z,.e af.u,.emp,.emp,.e x1,.emp]) (JI.list (ak rfl)) (λ_=>rfl) (λ_ _=>ak rfl) (λ_ _=>JE.bool true) h1 (JP.dc e3 (λ(x2:Int)=>[.e af,.e af.x,.e af.y,.e af.z,.e af.u,.emp,.emp,.emp,.e x2]) (JI.list (ak rfl)) (λ_=>rfl) (λ_ _=>ak rfl) (λ_ _=>JE.bool true) h2 (JP.nil)))) ?_
 exact JB.ag (zF (JA.cons (CQ (λ(x3:Int)=>[.e af,.e af.x,.e af.y,.e af.z,.e af.u,.cT (b6 az),.cT (b6 Jp),.e x3,.emp]) (wj (ak rfl) h3) (λ_=>rfl) (λx3 _=>JE.Be (JE.XJ rfl (ak rfl))) h4) (JA.cons (CQ (λ(x4:Int)=>[.e af,.e af.x,.e af.y,.e af.z,.e af.u,.cT (b6 az),.cT (b6 Jp),.emp,.e x4]) (wj (ak rfl) h5) (λ_=>rfl) (λx4 _=>JE.Be (JE.XJ rfl (ak rfl))) h6) (gK))))
def OO:SS:=SS.ab (sU (SG.tup (jK (aQ 1) (jK (aQ 2) (cC.nil)))) (SE.ac S6 (cK (ai 0) (dK)))) (SS.ab (SS.set 3 (fB (GX (ai 1)) (SG.tup (jK (aQ 4) (jK (aQ 5) (cC.nil)))) (ST.ab (gM (ai 5) (SE.ab 1))) (ai 4) [4,5] (of_decide_eq_true rfl))) (BH (RE.tup (RA.cons (RE.mv 3) (RA.cons (RE.e (iB (ai 1))) (RA.cons (RE.e (iB (ai 2))) (RA.cons (RE.e (fB (GX (ai 2)) (SG.tup (jK (aQ 6) (jK (aQ 5) (cC.nil)))) (ST.ab (gM (ai 5) (SE.ab 1))) (ai 6) [6,5] (of_decide_eq_true rfl))) (RA.nil))))))))
def U7:Fn:=fnOf 1 6 OO
def Bx (br:yg):aV:=
 lt ((IV br)) λp1=>
 lt ((Kai (λ(x1:Int×Int)=>x1.1) (KaM (λ(x1:Int×Int)=>decide (x1.2=(1:Int))) (aT 0 p1.1)))) λxW=>
 (T4.mk xW (p1.1.length:Int) (p1.2.length:Int) (Kai (λ(x2:Int×Int)=>x2.1) (KaM (λ(x2:Int×Int)=>decide (x2.2=(1:Int))) (aT 0 p1.2))))
def xQ (br:yg):Prop:=
 yO br/\(bG ((IV br)) λp1=>
 (aT 0 p1.1).length<=100000/\(bG ((Kai (λ(x1:Int×Int)=>x1.1) (KaM (λ(x1:Int×Int)=>decide (x1.2=(1:Int))) (aT 0 p1.1)))) λxW=>
 (aT 0 p1.2).length<=100000))
theorem qw (br:yg)(s:ae)(h0:xQ br):JF U7 [.e br] s (Bx br) s true:=by
 unfold xQ at h0
 obtain⟨h1,h5⟩:=h0
 refine eW rfl ?_
 unfold Bx OO
 show JB _ [.e br,.emp,.emp,.emp,.emp,.emp,.emp] _ _
 refine a_ λp1 e1=>?_
 obtain⟨h2,h4⟩:=b5 h5 e1
 refine JB.ab (aB:=[.e br,.e p1.1,.e p1.2,.emp,.emp,.emp,.emp]) (wk (Qi (JE.ac (aK (ak rfl) (bK)) (ou br _ h1)) e1.symm) rfl) ?_
 refine a_ λxW e2=>?_
 have h3:=b5 h4 e2
 refine JB.ab (aB:=[.e br,.e p1.1,.e p1.2,.own (enc xW),.emp,.emp,.emp]) (LR (GU (λ(x1:Int×Int)=>[.e br,.e p1.1,.e p1.2,.emp,.e x1.1,.e x1.2,.emp]) (LN (ak rfl)) (λ_=>rfl) (λx1 _=>JT.ab (ql (ak rfl) (JE.ab 1))) (λx1 _ _=>ak rfl) (gY h2)) e2) ?_
 exact P9 (gi.Ib (gh.cons (gi.Xb rfl) (gh.gD (gi.se (jT (ak rfl))) (gh.gD (gi.se (jT (ak rfl))) (gh.cons (gi.se (GU (λ(x2:Int×Int)=>[.e br,.e p1.1,.e p1.2,.e xW,.emp,.e x2.2,.e x2.1]) (LN (ak rfl)) (λ_=>rfl) (λx2 _=>JT.ab (ql (ak rfl) (JE.ab 1))) (λx2 _ _=>ak rfl) (gY h3))) (gh.nil))))))
def OA:SS:=SS.ab (sU (SG.tup (jK (aQ 2) (jK (aQ 3) (jK (aQ 4) (jK (aQ 5) (cC.nil)))))) (ai 0)) (SS.ab (dW (ST.ab (qk (ai 1) (ai 3))) (SS.ac (CV false (ai 1) (ai 2))) (SS.ag)) (SS.ac (CV false (sR (EU (ai 1) (ai 3)) (ai 4)) (ai 5))))
def OJ:Fn:=fnOf 2 4 OA
def iy (af:aV)(aC:Int):Bool:=
 if aC<af.y then
 (decide (aC∈af.x))
 else
 (decide (((aC-af.y) % af.z)∈af.u))
def yJ (af:aV)(aC:Int):Prop:=
 (¬(aC<af.y)->0<af.z)
theorem sW (af:aV)(aC:Int)(s:ae)(h0:yJ af aC):JF OJ [.e af,.e aC] s (iy af aC) s false:=by
 unfold yJ at h0
 have h2:=h0
 refine eW rfl ?_
 unfold iy OA
 show JB _ [.e af,.e aC,.emp,.emp,.emp,.emp] _ _
 refine JB.ab (aB:=[.e af,.e aC,.e af.x,.e af.y,.e af.z,.e af.u]) (wk (ak rfl) rfl) ?_
 refine zP (JT.ab (wF (ak rfl) (ak rfl))) ?_ (λ_=>JD) ?_
 ·intro hq
  exact JB.ag (jB (JE.Qm (ak rfl) (ak rfl)))
 intro hq
 have h1:=h2 hq
 refine xY ?_
 exact JB.ag (jB (JE.Qm (x6 (JE.sub (ak rfl) (ak rfl)) (ak rfl) h1) (ak rfl)))
def Kq:SS:=SS.ab (GY (SE.ac exc (cK (ai 0) (dK)))) (SS.ac (SE.ac U7 (cK (SE.ac KC (cK (ai 0) (dK))) (dK))))
def Kv:Fn:=fnOf 1 0 Kq
def dz (af:aV):aV:=
 (Bx (iF af))
def vC (af:aV):Prop:=
 t7 af/\uc af/\xQ (iF af)
theorem gU (af:aV)(s:ae)(h0:vC af):JF Kv [.e af] s (dz af) s true:=by
 unfold vC at h0
 obtain⟨h1,h2,h3⟩:=h0
 refine eW rfl ?_
 unfold dz Kq
 show JB _ [.e af] _ _
 refine JB.ab (aB:=[.e af]) (LS (JE.ac (aK (ak rfl) (bK)) (jc af _ h1))) ?_
 exact JB.ag (JE.ac (aK (JE.ac (aK (ak rfl) (bK)) (kQ af _ h2)) (bK)) (qw (iF af) _ h3))
def Nf:SS:=SS.ab (CH fuel (ST.ab (hxs (ai 1) (SE.ab 0))) (fu [] (uz 0 1 (l6 0 (ai 1) (l6 1 (sR (ai 0) (ai 1)) (SP.nil))) (of_decide_eq_true rfl)))) (SS.ac (ai 0))
def QW:Fn:=fnOf 2 0 Nf
def FD  (st1:Int×Int):Prop:=(0:Int)<st1.2
instance  : DecidablePred (FD ):=λst=>by unfold FD;infer_instance
def Io  (st1:Int×Int):Int×Int:=
 lt (st1.2) λoN=>
 lt ((st1.1 % st1.2)) λGN=>
 (oN,GN)
def QT  (st1:Int×Int):Prop:=True
def Nj  (st1:Int×Int):Prop:=
 (bG (st1.2) λoN=>
 0<st1.2)
def IM (b7:Int)(gj:Int):Int:=
 lt (jS (FD) (Io) fuel (b7,gj)) λp1=>
 p1.1
def yi (b7:Int)(gj:Int):Prop:=
 rT (FD) (Io) (QT) (Nj) fuel (b7,gj)
theorem gO (b7:Int)(gj:Int)(s:ae)(h0:yi b7 gj):JF QW [.e b7,.e gj] s (IM b7 gj) s false:=by
 unfold yi at h0
 have h3:=h0
 refine eW rfl ?_
 unfold IM Nf
 show JB _ [.e b7,.e gj] _ _
 refine a_ λp1 e3=>?_
 refine JB.ab (GQ (J:=λ(st1:Int×Int)=>[.e st1.1,.e st1.2]) (f:=(Io)) (C:=(FD)) (dc:=(QT)) (d:=(Nj)) (st:=(b7,gj)) rfl ?_ ?_ h3 e3) ?_
 ·intro st1 hd
  exact JT.ab (JE.gt (ak rfl) (JE.ab 0))
 ·intro st1 hd
  unfold Nj at hd
  have h2:=hd
  unfold Io
  refine lI ?_
  refine a_ λoN e1=>?_
  have h1:=b5 h2 e1
  refine a_ λGN e2=>?_
  refine JB.ac (aB:=[.e oN,.e GN]) (hxc (JP.dat e1 (ak rfl) (JP.dat e2 (x6 (ak rfl) (ak rfl) h1) (JP.nil)))) ?_
  exact rfl
 show JB _ [.e p1.1,.e p1.2] _ _
 exact JB.ag (ak rfl)
def Na:SS:=SS.ac (ux (wD (ai 0) (ai 1)) (SE.ac QW (cK (ai 0) (cK (ai 1) (dK)))))
def QV:Fn:=fnOf 2 0 Na
def JW (b7:Int)(gj:Int):Int:=
 ((b7*gj) / (IM b7 gj))
def vJ (b7:Int)(gj:Int):Prop:=
 (KbG b7<18446744073709551616∨KbG gj<18446744073709551616)/\yi b7 gj/\(0<(IM b7 gj)/\(IM b7 gj)<1000000000000000000000000000000000000000000000000000000000000)
theorem gk (b7:Int)(gj:Int)(s:ae)(h0:vJ b7 gj):JF QV [.e b7,.e gj] s (JW b7 gj) s false:=by
 unfold vJ at h0
 obtain⟨h1,h2,h3⟩:=h0
 refine eW rfl ?_
 unfold JW Na
 show JB _ [.e b7,.e gj] _ _
 exact JB.ag (jB (zI (EN (ak rfl) (ak rfl) h1) (JE.ac (aK (ak rfl) (aK (ak rfl) (bK))) (gO b7 gj _ h2)) h3))
def M4:SS:=SS.ab (sU (SG.tup (jK (aQ 2) (jK (aQ 3) (jK (aQ 4) (cC.nil))))) (ai 0)) (SS.ab (dh 5 (gr (ux (CU (SE.ab 0) (EU (ai 1) (iB (ai 2)))) (iB (ai 3))) (SE.ab 1))) (SS.ab (dh 6 (xZ (ai 2) (SE.W2 (rX (ai 5)) (aQ 7) (cL) (SI.list (ai 3)) (aQ 8) (cL) (gr (ai 8) (wD (ai 4) (ai 7))) [7,8] [8] (of_decide_eq_true rfl) (of_decide_eq_true rfl)))) (SS.ac (wC (ai 6) (SO.no) (SO.at (ai 1))))))
def Rv:Fn:=fnOf 2 7 M4
def J8 (bf:Ec)(many1:Int):List Int:=
 lt ((((max (0:Int) (many1-(bf.x.length:Int))) / (bf.y.length:Int))+(1:Int))) λeI=>
 lt ((bf.x++(Kb8 (λ(x1:Int)=>(Kai (λ(x2:Int)=>(x2+(bf.z*x1))) bf.y)) (rng 0 eI)))) λfG=>
 (cut fG none (some many1))
def xM (bf:Ec)(many1:Int):Prop:=
 (0<(bf.y.length:Int)/\(bf.y.length:Int)<1000000000000000000000000000000000000000000000000000000000000)/\(bG ((((max (0:Int) (many1-(bf.x.length:Int))) / (bf.y.length:Int))+(1:Int))) λeI=>
 (-1000000<=eI/\eI<=1000000)/\(∀x1∈(rng 0 eI),(∀x2∈bf.y,(KbG bf.z<18446744073709551616∨KbG x1<18446744073709551616)))/\(Kb8 (λ(x1:Int)=>(Kai (λ(x2:Int)=>(x2+(bf.z*x1))) bf.y)) (rng 0 eI)).length<=100000/\bf.x.length+(Kb8 (λ(x1:Int)=>(Kai (λ(x2:Int)=>(x2+(bf.z*x1))) bf.y)) (rng 0 eI)).length<=100000)
theorem iN (bf:Ec)(many1:Int)(s:ae)(h0:xM bf many1):JF Rv [.e bf,.e many1] s (J8 bf many1) s true:=by
 unfold xM at h0
 obtain⟨h1,h8⟩:=h0
 refine eW rfl ?_
 unfold J8 M4
 show JB _ [.e bf,.e many1,.emp,.emp,.emp,.emp,.emp,.emp,.emp] _ _
 refine JB.ab (aB:=[.e bf,.e many1,.e bf.x,.e bf.y,.e bf.z,.emp,.emp,.emp,.emp]) (wk (ak rfl) rfl) ?_
 refine a_ λeI e2=>?_
 obtain⟨h2,h6,h4,h7⟩:=b5 h8 e2
 refine JB.ab (aB:=[.e bf,.e many1,.e bf.x,.e bf.y,.e bf.z,.e eI,.emp,.emp,.emp]) (d7 (m6 (zI (LI (JE.ab 0) (JE.sub (ak rfl) (jT (ak rfl)))) (jT (ak rfl)) h1) (JE.ab 1)) e2) ?_
 refine a_ λfG e3=>?_
 refine JB.ab (aB:=[.e bf,.e many1,.e bf.x,.e bf.y,.e bf.z,.e eI,.e fG,.emp,.emp]) (d7 (BG (ak rfl) (JE.W3 (λ(x1:Int)=>[.e bf,.e many1,.e bf.x,.e bf.y,.e bf.z,.e eI,.emp,.e x1,.emp]) (λ(x1:Int) (x2:Int)=>[.e bf,.e many1,.e bf.x,.e bf.y,.e bf.z,.e eI,.emp,.e x1,.e x2]) (wj (ak rfl) h2) (λ_=>rfl) (λ_ _=>rfl) (λx1 hx=>(have h5:=h6 x1 hx;JI.list (ak rfl))) (λx1 hx x2 hy=>(have h5:=h6 x1 hx;(have h3:=h5 x2 hy;m6 (ak rfl) (EN (ak rfl) (ak rfl) h3)))) h4) h7) e3) ?_
 exact JB.ag (BJ (ak rfl) (JO.no) (JO.at (ak rfl)))
def Nq:SS:=SS.ac (SE.ac Rv (cK (SE.tup (eK (cW (ai 0) (SE.ab 0)) (eK (cW (ai 0) (SE.ab 1)) (eK (SE.ab 0) (fK))))) (cK (ai 1) (dK))))
def NH:Fn:=fnOf 2 0 Nq
def FP (br:yg)(many1:Int):List Int:=
 (J8 (T3.mk br.1 br.2 (0:Int)) many1)
def yp (br:yg)(many1:Int):Prop:=
 xM (T3.mk br.1 br.2 (0:Int)) many1
theorem jD (br:yg)(many1:Int)(s:ae)(h0:yp br many1):JF NH [.e br,.e many1] s (FP br many1) s true:=by
 unfold yp at h0
 have h1:=h0
 refine eW rfl ?_
 unfold FP Nq
 show JB _ [.e br,.e many1] _ _
 exact JB.ag (JE.ac (aK (JE.DY (GR (JE.Yb (ak rfl)) (GR (JE.Yc (ak rfl)) (iK (JE.ab 0) (gK))))) (aK (ak rfl) (bK))) (iN (T3.mk br.1 br.2 (0:Int)) many1 _ h1))
end Pu
namespace Pu
variable [aR]
open PySem PySem.Spec PyProof.Rows L2 Enc
/-- a list of two unlike things -/
structure H2 (α β:Type) where
 x:α
 y:β
instance {α β:Type}[Enc α][Enc β]:Enc (H2 α β):=⟨λp=>.list [enc p.x,enc p.y]⟩
instance {α β:Type}[Inhabited α][Inhabited β]:Inhabited (H2 α β):=⟨⟨default,default⟩⟩
end Pu
namespace Pu
variable [aR]
open PySem PySem.Spec PyProof.Rows L2 Enc
def SP.Kn (i:Nat)(e:SB)(r:SP):SP where
 t:=λK=>tCons (e.t K) (r.t K)
 ts:=i::r.ts
 ev:=λρ cf s=>(e.ev ρ s).bind λx=>r.ev ρ (cf.set i (.aO x.1.1 x.1.2)) x.2
 ok:=by
  intro K sk F0 H0 F H σ nQ ρ cf iw aj cu s s' Q p w h q
  obtain⟨⟨⟨ds,o⟩,s1⟩,h1,h2⟩:=aI h
  refine e.ok K p h1 λa ws F1 H1 as st k ha zJ oZ hr Xd f=>?_
  have w1:=w.next st k
  have a0:H0 a=none:=by
   cases hq:H0 a with
   |none=>rfl
   |some u=>exact absurd ha (w.st.dm a (by rw [hq];exact nofun))
  have cU:sk≠some a:=gb w.aW ha
  have nd:((a::(if o=true then as else []))++cu.flatten).Nodup:=by
   refine Kaj.mpr ⟨?_,w.dj,λb mb c mc z=>?_⟩
   ·cases o with
    |true=>exact KaN.mpr ⟨Xd,(f rfl).1⟩
    |false=>simp
   ·subst z
    rcases Kal.mp mb with y|y
    ·subst y;exact (w.bR b mc).2.1 ha
    ·cases o with
     |true=>exact (w.bR b mc).2.1 ((f rfl).2 b y)
     |false=>cases y
  obtain⟨m1,m2⟩:=vD (i:=i) nd
  have wa:Wd sk F0 H0 F1 H1 (nQ.set i (some (.ref a))) (cf.set i (.aO ds o)) (cu.set i (a::(if o=true then as else []))) s1:=by
   refine⟨w1.st,w1.aW,w1.slots.set ⟨a,ws,as,rfl,oZ,zJ,hr,rfl⟩,m1,λb m=>?_⟩
   rcases m2 b m with z|z
   ·rcases Kal.mp z with y|y
    ·subst y
     exact⟨a0,by rw [oZ];exact nofun,cU⟩
    ·cases o with
     |true=>
      obtain⟨xs,hx⟩:=hr.dom b y
      refine⟨?_,by rw [st.sub' _ _ hx];exact nofun,λe=>?_⟩
      ·cases hq:H0 b with
       |none=>rfl
       |some u=>exact absurd ((f rfl).2 b y) (w.st.dm b (by rw [hq];exact nofun))
      ·rw [(k b e).2] at hx;cases hx
     |false=>cases y
   ·exact w1.bR b z
  refine r.ok K (p.next st k) wa h2 λvs F2 H2 fv sF w2 hl=>?_
  exact q (.ref a::vs) F2 H2 fv (st.sub.trans sF) w2 (by rw [Kad,Kad,hl])
theorem JP.aO {ρ aB cI:List Slot}{s s1 s2:ae}{i:Nat}{e:SE}{α:Type}[Enc α]{x v:List α}{p:SP}(hx:x=v)(h:JE e ρ s v s1 true)(hp:JP p ρ (aB.set i (.aO (x.map enc) true)) s1 cI s2):JP (SP.Kn i (SB.own e) p) ρ aB s cI s2:=by
 subst hx
 obtain⟨w',h1,h2⟩:=h
 have:=h2 rfl
 subst this
 show ((SB.own e).ev ρ s).bind _=_
 rw [Wt,h1]
 exact hp
end Pu
namespace Pu
variable [aR]
open PySem PySem.Spec PyProof.Rows L2 Enc
def tN (Φ:Out->Prop):Prop:=∀o,Φ o->∃ρ s,o=.brk ρ s
section
variable {ρ aB:List Slot}{s s1:ae}{a b A B rest:SS}{c:ST}{P:Prop}[Decidable P]{σ:Type}{J:σ->List Slot}{is:List Nat}
theorem JB.ZR {β:Type}{Ψ:β->Out->Prop}{x y:β}(hc:JT c ρ s P s1)(hA:P->JB A ρ s1 (Ψ x))(hr:P->tN (Ψ x))(hB:¬P->JB (SS.ab B rest) ρ s1 (Ψ y)):JB (SS.ab (dW c A B) rest) ρ s (Ψ (if P then x else y)):=by
 unfold JT at hc
 by_cases p:P
 ·obtain⟨o,h,q⟩:=hA p
  obtain⟨v,s',rfl⟩:=hr p o q
  exact⟨.brk v s',by rw [v9,zb,hc];simp [p,h],by rw [if_pos p];exact q⟩
 ·obtain⟨o,h,q⟩:=hB p
  rw [v9] at h
  exact⟨o,by rw [v9,zb,hc];simpa [p] using h,by rw [if_neg p];exact q⟩
end
end Pu
namespace Pu
variable [aR]
open PySem PySem.Spec PyProof.Rows L2 Enc
theorem uW (a b:Int):rgV a b=(rng a b).map V.int:=by
 unfold rgV rng
 rw [KaE];rfl
def XZ (a:SE):SE where
 t:=λK=>tLstRg (tRg1 (a.t K))
 ev:=λρ s=>(a.ev ρ s).bind λx=>match x.1.1 with|.int n=>if -100000<=n/\n<=100000 then some ((.list ((rng 0 n).map .int),true),x.2) else none|_=>none
 ok:=by
  intro K sk F H σ ρ aj s vl s' Q p h q
  obtain⟨⟨⟨x,b⟩,s1⟩,h1,h⟩:=aI h
  dsimp only at h
  split at h
  ·rename_i n
   split at h
   ·rename_i hn
    cases h
    refine a.ok K p h1 λv F1 H1 as st k r f=>?_
    have pv:eA F1 H1 (.list ((rng 0 n).map .int),true) Q:=λv F' H' cs st3 r3 f3=>q v F' H' cs (st.trans st3.any) (k.keep st3) r3 (f3.back st.dm)
    refine⟨n,r.int_inv,⟨by omega,by omega,by omega,by omega,by omega⟩,λz np=>?_⟩
    rw [uW]
    exact pv.newL st.sub' (ao.jV _) np λ_=>rfl
   ·cases h
  ·cases h
section
variable {ρ:List Slot}{s s1 s2 s3:ae}{a b c:SE}{i j k:Nat}{w w1 w2:Bool}
theorem JE.C5 {n:Int}(ha:JE a ρ s n s1 w1)(h:-100000<=n/\n<=100000):JE (XZ a) ρ s (rng 0 n) s1 true:=by
 obtain⟨w',e,_⟩:=ha
 refine⟨true,?_,λ_=>rfl⟩
 show (a.ev ρ s).bind _=_
 rw [e]
 show (if -100000<=n/\n<=100000 then some ((PyData.list ((rng 0 n).map .int),true),s1) else none)=_
 rw [if_pos h];rfl
end
def Qk (e:SE)(r:SA):SA where
 t:=λK=>StX.tStar K (e.t K) (r.t K)
 ev:=λρ s=>(e.ev ρ s).bind λx=>match x.1.1 with|.list ds=>(r.ev ρ x.2).bind λy=>some ((ds.map λd=>(d,false))++y.1,y.2)|_=>none
 ok:=by
  intro K sk F H σ ρ aj s eX s' Q p h q
  obtain⟨⟨⟨x,w⟩,s1⟩,h1,h⟩:=aI h
  dsimp only at h
  split at h
  ·rename_i ds
   obtain⟨⟨y,s2⟩,h2,h⟩:=aI h
   cases h
   refine e.ok K p h1 λv F1 H1 as st1 k1 r1 f1=>?_
   obtain⟨a,xs,bs,rfl,ha,hr,rfl⟩:=r1.aM
   refine⟨a,xs,rfl,.inr (.inl (.inl (st1.sub' _ _ ha))),?_⟩
   refine r.ok K (p.next st1 k1) h2 λvs F2 H2 cs st2 k2 r2 f2=>?_
   refine q (xs++vs) F2 H2 (bs++cs) (st1.trans st2) k2 ?_ λe=>?_
   ·rw [KaH,KaE]
    have:Kai ((λz:Vl=>z.1) ∘ λd=>(d,false)) ds=ds:=by
     rw [show ((λz:Vl=>z.1) ∘ λd=>(d,false))=id from rfl,KcF]
    rw [this]
    exact (hr.mono st2.sub).app r2
   ·rw [Kcv] at e
    obtain⟨e1,e2⟩:=KaP.mp e
    have nl:eR ds=true:=by
     have:∀ds:List PyData,((ds.map λd=>((d,false):Vl)).all λz=>z.2 ||aH z.1)=true->eR ds=true:=by
      intro ds
      induction ds with
      |nil=>intro _;rfl
      |cons d ds ih=>
       intro h
       simp only [Kag,Ka1,KcL] at h
       obtain⟨h1,h2⟩:=KaP.mp h
       unfold eR
       rw [h1,ih h2];rfl
     exact this ds e1
    rw [hr.aH nl]
    exact (f2.back st1.dm) e2
  ·cases h
section
variable {ρ:List Slot}{s s1 s2 s3:ae}{a b c:SE}{i j k:Nat}{w w1 w2:Bool}
theorem DW {e:SE}{r:SA}{ds:List PyData}{eX:List Vl}{w':Bool}(h:e.ev ρ s=some ((.list ds,w'),s1))(hr:r.ev ρ s1=some (eX,s2)):(Qk e r).ev ρ s=some ((ds.map λd=>(d,false))++eX,s2):=by
 show (e.ev ρ s).bind _=_
 rw [h]
 show (r.ev ρ s1).bind _=_
 rw [hr];rfl
theorem JA.MG {α:Type}[Enc α][Flat α]{xs:List α}{r:SA}{ds:List PyData}(ha:JE a ρ s xs s1 w1)(hr:JA r ρ s1 ds s2 w):JA (Qk a r) ρ s (xs.map enc++ds) s2 w:=by
 obtain⟨w',e,_⟩:=ha
 obtain⟨eX,e2,m,f⟩:=hr
 refine⟨_,DW e e2,?_,λhw=>?_⟩
 ·rw [KaH,m,KaE]
  have:Kai ((λz:Vl=>z.1) ∘ λd=>(d,false)) (xs.map enc)=xs.map enc:=by
   rw [show ((λz:Vl=>z.1) ∘ λd=>(d,false))=id from rfl,KcF]
  rw [this]
 ·rw [Kcv,f hw,Bool.and_true,KaE,Kbz]
  rw [Kbs]
  intro x _
  show (false ||aH (enc x))=true
  rw [KcL];exact Flat.fl x
theorem JE.W7 {α:Type}[Enc α]{xs:List α}{r:SA}{ds:List PyData}(h:JA r ρ s ds s1 w)(e:ds=xs.map enc)(hl:xs.length<=100000):JE (SE.lst r) ρ s xs s1 w:=by
 subst e
 exact h.lst (by simpa using hl)
end
end Pu
namespace Pu
open PySem PySem.Spec PyProof.Rows L2 Enc
end Pu
namespace Pu
open PySem L2 Enc
end Pu
namespace Pu
variable [aR]
open PySem PySem.Spec PyProof.Rows L2 Enc
/-- slot i taken apart -/
def apart2 (ρ:List Slot)(i va vb:Nat)(d1:PyData)(ds:List PyData):List Slot:=((ρ.set i .emp).set va (.rR d1)).set vb (.aO ds true)
def Ig (ρ:List Slot)(i va vb:Nat)(d1:PyData)(ds:List PyData):List Slot:=((((ρ.set i .emp).set va (.rR d1)).set vb (.aO ds true)).set vb .emp).set va .emp |>.set i (.rR (.tuple [d1,.list ds]))
def stp (i va vb:Nat)(k e:SE)(ρ:List Slot)(s:ae):Option (List Slot×ae):=match ρ[i]? with
 |some (.rR (.tuple [d1,.list ds]))=>(e.ev (apart2 ρ i va vb d1 ds) s).bind λx=>(k.ev (apart2 ρ i va vb d1 ds) x.2).bind λy=>match y.1.1 with
  |.int j=>(ixN ds.length j).bind λn=>if eR ds=true/\aH x.1.1=true/\va<ρ.length/\vb<ρ.length/\i≠va/\i≠vb/\va≠vb then some (Ig ρ i va vb d1 (ds.set n x.1.1),y.2) else none
  |_=>none
 |_=>none
end Pu
namespace Pu
open PySem PySem.Spec PyProof.Rows L2 Enc
open Enc
variable [aR]
theorem Slots.join {sk:Option Addr}{F H:Hp}:∀{xs ys:List (Option V)} {a b:List Slot},Slots sk F H xs a (jH a)->Slots sk F H ys b (jH b)->Slots sk F H (xs++ys) (a++b) (jH (a++b))
 |[],_,[],_,_,h=>h
 |_::_,_,_::_,_,.cons h r,g=>.cons h (Slots.join r g)
end Pu
namespace Pu
open PySem PySem.Spec PyProof.Rows L2 Enc
abbrev XG:=Fin 1114112
structure Tx where
 cs:List XG
deriving DecidableEq
instance:Inhabited Tx:=⟨⟨[]⟩⟩
def Tx.nat (t:Tx):List Nat:=t.cs.map Fin.val
def Tx.str (t:Tx):Str:=⟨t.nat.toArray⟩
def iW (l:List Nat):Tx:=⟨l.map λc=>Fin.ofNat 1114112 c⟩
instance:Enc Tx:=⟨λt=>.str t.str⟩
instance:Flat Tx:=⟨λ_=>rfl⟩
instance:NN Tx:=⟨λ_=>rfl⟩
theorem Tx.ag (t:Tx):t.str.length=t.cs.length:=by
 show t.nat.toArray.size=_
 rw [Kbp];exact Kaf ..
theorem Tx.ab (t:Tx):t.str.cps.toList=t.nat:=by
 show t.nat.toArray.toList=_
 rw [List.toList_toArray]
theorem Tx.ac {t u:Tx}(h:t.str=u.str):t=u:=by
 have e:t.nat=u.nat:=by rw [<-Tx.ab,<-Tx.ab,h]
 cases t with
 |mk a=>
  cases u with
  |mk b=>
   congr 1
   exact List.map_inj_right (λx y z=>Fin.ext z) |>.mp e
theorem Tx.strOk (t:Tx):PySem.PyData.strOk t.str=true:=by
 unfold PySem.PyData.strOk
 rw [<-Array.all_toList,Tx.ab]
 unfold Tx.nat
 rw [Kbz,Kbs]
 intro c _
 exact decide_eq_true c.isLt
instance:bj Tx where
 dep:=0
 dec:=inferInstance
 lay:=λt=>by
  show PyData.canLay0 (.str t.str)=true
  simp only [PyData.canLay0]
  exact t.strOk
 cB:=λ_=>Kap _
 eqv:=λx y=>by
  show PyData.eqv (.str x.str) (.str y.str)=_
  simp only [PyData.eqv]
  by_cases h:x=y
  ·rw [h];simp
  ·have:x.str≠y.str:=λz=>h (Tx.ac z)
   simp [h,this]
def LZ:PyData->PyData->Option Vl
 |.str z,.int i=>if z.length<=1000 then (atI z.cps.toList i).map λc=>(.str ⟨#[c]⟩,true) else none
 |_,_=>none
variable [aR]
def SE.ZT:SE->SE->SE:=iM (λK=>rIx K) LZ (by
 intro K F H x y d e as bs z Q s r1 r2 h q
 unfold LZ at h
 split at h
 ·rename_i w i
  split at h
  ·rename_i hl
   obtain⟨c,h1,rfl⟩:=Kam.mp h
   exact .inr (.inr ⟨w,i,c,r1.str_inv,r2.int_inv,Kaw hl (by decide),h1,q.here (z:=(.str _,true)) s (.str _) .nil⟩)
  ·cases h
 ·cases h)
def G0 (d e:PyData):Option Vl:=match e with
 |.list ds=>if SeqAt.shaped d=true/\SeqAt.shaped (.list ds)=true then some (.bool (ds.any λz=>PyData.eqv z d),true) else none
 |_=>none
def Pc (d e:PyData):Option Vl:=(G0 d e).bind λz=>match z.1 with|.bool b=>some (.bool (!b),true)|_=>none
def hxa:SE->SE->SE:=iM (λK=>rNotInD K) Pc (by
 intro K F H x y d e as bs z Q s r1 r2 h q
 unfold Pc at h
 obtain⟨w,h1,h2⟩:=aI h
 unfold G0 at h1
 split at h1
 ·rename_i ds
  split at h1
  ·rename_i hh
   cases h1
   cases h2
   exact⟨d,ds,(r1.mono s).dp (FT hh.1),(r2.mono s).dp (FT hh.2),hh.1,hh.2,q.here (z:=(.bool _,true)) s (.bl _) .nil⟩
  ·cases h1
 ·cases h1)
def PB:List PyData->Option (List Str)
 |[]=>some []
 |.str x::r=>(PB r).map (x::·)
 |_::_=>none
theorem lD:∀{ds:List PyData} {xs:List Str},PB ds=some xs->ds=xs.map .str
 |[],xs,h=>by cases h;rfl
 |d::r,xs,h=>by
  cases d with
  |str x=>
   obtain⟨ys,h1,rfl⟩:=Kam.mp (show (PB r).map (x::·)=some xs from h)
   rw [lD h1];rfl
  |_=>cases h
theorem ao.strs {F:Hp}:∀{ns:List Str} {vs:List V} {as:List Addr},ao F vs (ns.map .str) as->vs=ns.map V.str
 |[],_,_,h=>by cases h;rfl
 |n::ns,_,_,h=>by
  cases h with
  |cons h r=>rw [Rp.str_inv h,ao.strs r];rfl
def rJoin (K:Frag):V->List V->Hp->VK->Prop:=λx xs H Q=>∃a p,∃ys:List Str,x=.str a/\xs=[.ref p]/\(SqL K H p (ys.map V.str)∨SqT K H p (ys.map V.str)) /\
   (ys.map (·.length)).sum+ys.length*a.length<=16777216/\Q (.str (Txt.join a ys)) H
def SE.join (z:Str)(b:SE):SE where
 t:=λK=>tM1 (rJoin K) (tC (.str z)) (b.t K)
 ev:=λρ s=>(b.ev ρ s).bind λx=>match x.1.1 with
  |.list ds=>(PB ds).bind λys=>if (ys.map (·.length)).sum+ys.length*z.length<=1000 then some ((.str (Txt.join z ys),true),x.2) else none
  |_=>none
 ok:=by
  intro K sk F H σ ρ aj s vl s' Q p h q
  obtain⟨⟨⟨x,w⟩,s1⟩,h1,h0⟩:=aI h
  dsimp only at h0
  split at h0
  ·rename_i ds
   obtain⟨ys,h2,h3⟩:=aI h0
   split at h3
   ·rename_i hl
    cases h3
    refine⟨⟨z,rfl⟩,?_⟩
    refine b.ok K p h1 λu F1 H1 as st k r f=>?_
    obtain⟨ad,xs,bs,rfl,ha,hr,rfl⟩:=r.aM
    have e1:ds=ys.map .str:=lD h2
    subst e1
    have e2:xs=ys.map V.str:=hr.strs
    subst e2
    exact⟨z,ad,ys,rfl,rfl,.inl (.inl (.inl (st.sub' _ _ ha))),Kaw hl (by decide),q _ F1 H1 [] st k (.str _) .nil⟩
   ·cases h3
  ·cases h0
def SI.str (e:SE):SI where
 t:=λK=>iStr (e.t K)
 ev:=λρ s=>(e.ev ρ s).bind λx=>match x.1.1 with|.str z=>some (z.cps.toList.map λc=>.str ⟨#[c]⟩,x.2)|_=>none
 ok:=by
  intro K sk F H σ ρ aj s ds s' R p h q
  obtain⟨⟨⟨x,fl⟩,s1⟩,h1,h⟩:=aI h
  dsimp only at h
  split at h
  ·rename_i z
   cases h
   refine e.ok K p h1 λv F1 H1 as st1 k1 r1 f1=>?_
   refine⟨z,r1.str_inv,q _ F1 H1 st1 k1 λF2 H2 i s1 s2=>⟨λd hd=>?_,λhl=>?_⟩⟩
   ·rw [Ka4] at hd
    obtain⟨c,hc,rfl⟩:=Kam.mp hd
    rw [Array.getElem?_toList] at hc
    refine⟨(Array.getElem?_eq_some_iff.mp hc).1,λx H3 hy=>?_⟩
    obtain⟨rfl,c2,hc2,rfl⟩:=hy
    rw [hc] at hc2
    cases hc2
    exact⟨F2,[],.refl s2,.str _⟩
   ·rw [Kaf,KbZ] at hl
    exact hl
  ·cases h
end Pu
namespace Pu
variable [aR]
open PySem PySem.Spec PyProof.Rows L2 Enc
section
variable {ρ:List Slot}{s s1 s2 s3:ae}{a b c:SE}{i j k:Nat}{w w1 w2:Bool}
def Tx.at (t:Tx)(n:Int):Tx:=⟨[au t.cs n]⟩
def Tx.cut (t:Tx)(l h:Option Int):Tx:=⟨Pu.cut t.cs l h⟩
def Tx.add (t u:Tx):Tx:=⟨t.cs++u.cs⟩
def Tx.hd (t:Tx):XG:=t.cs.headD 0
theorem JE.Ma {x:Tx}{n:Int}(ha:JE a ρ s x s1 w1)(hb:JE b ρ s1 n s2 w2)(h:-(x.cs.length:Int)<=n/\n<x.cs.length/\x.cs.length<=1000):JE (SE.ZT a b) ρ s (x.at n) s2 true:=by
 obtain⟨_,ea,_⟩:=ha;obtain⟨_,eb,_⟩:=hb
 refine⟨true,c_ ea eb ?_,λ_=>rfl⟩
 show (if x.str.length<=1000 then (L2.atI x.str.cps.toList n).map _ else none)=_
 rw [if_pos (by rw [Tx.ag];exact h.2.2),Tx.ab]
 unfold Tx.nat
 have e:L2.atI (x.cs.map Fin.val) n=(L2.atI x.cs n).map Fin.val:=by
  unfold L2.atI
  simp only [Kaf,Ka4]
  cases L2.ixN x.cs.length n <;> rfl
 rw [e,VM ⟨h.1,h.2.1⟩]
 rfl
theorem tR {α:Type}[bj α]{x:α}{inst:DecidableEq α}:∀xs:List α,((xs.map enc).any λz=>PyData.eqv z (enc x))=decide (x∈xs)
 |[]=>by simp
 |y::ys=>by
  rw [Kag,Kci,tR (inst:=inst) ys,bj.eqv,Kbq]
  simp only [Bool.or_eq_true,decide_eq_true_eq,Kal]
  exact⟨λh=>h.imp Eq.symm id,λh=>h.imp Eq.symm id⟩
theorem tH {α:Type}[bj α](x:α)(hd:bj.dep α<=63):SeqAt.shaped (enc x)=true:=by
 unfold SeqAt.shaped
 rw [bj.lay,decide_eq_true (Kaw (bj.cB x) (by omega))];rfl
theorem rB {α:Type}[bj α](xs:List α)(hd:bj.dep α<=63):SeqAt.shaped (PyData.list (xs.map enc))=true:=by
 have h1:=bj.lay xs
 have h2:=bj.cB xs
 unfold SeqAt.shaped
 have e1:(PyData.list (xs.map enc)).canLay0=true:=h1
 have e2:(PyData.list (xs.map enc)).depth<=64:=Kaw h2 (by show bj.dep α+1<=64;omega)
 rw [e1,decide_eq_true e2];rfl
theorem JE.Au {α:Type}[bj α]{x:α}{xs:List α}{inst:DecidableEq α}(ha:JE a ρ s x s1 w1)(hb:JE b ρ s1 xs s2 w2)(hd:bj.dep α<=63:=by decide):JE (hxa a b) ρ s (decide (x∉xs)) s2 true:=by
 obtain⟨_,ea,_⟩:=ha;obtain⟨_,eb,_⟩:=hb
 refine⟨true,c_ ea eb ?_,λ_=>rfl⟩
 have e:G0 (enc x) (PyData.list (xs.map enc))=some (.bool (decide (x∈xs)),true):=by
  show (if SeqAt.shaped (enc x)=true/\SeqAt.shaped (PyData.list (xs.map enc))=true then some (PyData.bool ((xs.map enc).any λz=>PyData.eqv z (enc x)),true) else none)=_
  rw [if_pos ⟨tH x hd,rB xs hd⟩,tR (inst:=inst)]
 show Pc (enc x) (PyData.list (xs.map enc))=_
 unfold Pc
 rw [e]
 show some (PyData.bool (!decide (x∈xs)),true)=some (PyData.bool (decide (x∉xs)),true)
 simp
end
theorem vU {k:Nat}{A:Around}(r:Room k A):A.units+65<cLine:=by have:=r.un;omega
end Pu
namespace Pu
open PySem PySem.Spec PyProof.Rows L2 Enc
variable [aR]
instance:dg Tx:=⟨λt=>.inr t.str,λ_=>rfl,λ_ _ h=>Tx.ac (Sum.inr.inj h)⟩
end Pu
namespace Pu
open PySem PySem.Spec PyProof.Rows L2 Enc
end Pu
namespace L2
open PySem PySem.Spec PyProof.Rows
end L2
namespace Pu
variable [aR]
open PySem PySem.Spec PyProof.Rows L2
theorem Pa {X:Cx}{a b:Expr}{pos:Pos}{op:CmpOp}{t:TE}(h:PC X op a b t)(h1:behindInMarks op b=false:=by first|exact nobehind _ (by decide) (by decide)|rfl):PT X (.Compare a [op] [b] pos) (tTest t):=pt_cmp h h1
end Pu
namespace Pu
open PySem PySem.Spec PyProof.Rows L2 Enc
variable [aR]
def SE.isB:SE->SE->SE:=iM (λ_=>λx y H Q=>∃a b:Bool,x=.bl a/\y=.bl b/\Q (.bl (decide (a=b))) H) (λd e=>match d,e with|.bool a,.bool b=>some (.bool (decide (a=b)),true)|_,_=>none) (by
 intro K F H x y d e as bs z Q s r1 r2 h q
 dsimp only at h
 split at h
 ·cases h
  exact⟨_,_,r1.bool_inv,r2.bool_inv,q.here (z:=(.bool _,true)) s (.bl _) .nil⟩
 ·cases h)
section
variable {ρ:List Slot}{s s1 s2:ae}{a b:SE}{w w2:Bool}
theorem JE.isB {x y:Bool}(ha:JE a ρ s x s1 w)(hb:JE b ρ s1 y s2 w2):JE (SE.isB a b) ρ s (decide (x=y)) s2 true:=by
 obtain⟨_,ea,_⟩:=ha
 obtain⟨_,eb,_⟩:=hb
 exact⟨true,c_ ea eb rfl,λ_=>rfl⟩
end
end Pu
namespace Pu
variable [aR]
open PySem PySem.Spec PyProof.Rows L2 Enc
def Ht:Slot->Bool
 |.emp=>true
 |.dat _=>true
 |.bC=>true
 |.fix _=>true
 |.fn _ _ _=>true
 |.ins _ _ _=>true
 |.iA _=>true
 |_=>false
theorem Di {sk:Option Addr}{F H:Hp}{x:Option V}{sl:Slot}{fp:List Addr}(h:uq sk F H x sl fp)(n:Ht sl=true):fp=[]:=by
 cases sl with
 |emp=>exact h
 |dat d=>exact h.1
 |bC=>exact h.1
 |fix v=>exact h.1
 |fn f c q=>exact h.1
 |ins C nm ds=>exact h.1
 |own d=>cases n
 |aO ds o=>cases n
 |cT f=>cases n
 |eV f=>cases n
 |iA es=>exact h.1
 |bE es=>cases n
 |rR d=>cases n
 |obj C a nm ds=>cases n
 |Fc o ks ds f=>cases n
 |qM B C a nm ds=>cases n
 |qq B C nm ds=>cases n
theorem An {sk:Option Addr}{F H:Hp}{σ:L2.St}{ρ:List Slot}{aj:List (List Addr)}(h:Slots sk F H σ ρ aj)(n:ρ.all Ht=true):aj.flatten=[]:=by
 induction h with
 |nil=>rfl
 |cons h r ih=>
  rw [Ka1,Ka8] at n
  rw [Kar,ih n.2,Di h n.1];rfl
section
variable {ρ:List Slot}{s s1 s2:ae}{a b:SE}{w1 w2:Bool}
theorem JE.Kd {α β γ δ:Type}[Enc α][Enc β][Enc γ][Enc δ]{x:α}{p:T3 β γ δ}(h1:JE a ρ s x s1 w1)(h2:JE b ρ s1 p s2 w2):JE (SE.FZ (SE.tup (eK a fK)) b) ρ s (T4.mk x p.x p.y p.z) s2 false:=by
 obtain⟨_,h1,_⟩:=h1
 obtain⟨_,h2,_⟩:=h2
 refine⟨false,?_,nofun⟩
 show (((SE.tup (eK a fK)).ev ρ s).bind _)=_
 rw [show (SE.tup (eK a fK)).ev ρ s=some ((.tuple [enc x],_),s1) by
  simp only [Wj,EA,PR]
  rw [h1];rfl]
 show ((b.ev ρ s1).bind _)=_
 rw [h2]
 rfl
end
end Pu
namespace Pu
variable [aR]
open PySem PySem.Spec PyProof.Rows L2 Enc
theorem mW (l:List (List Addr))(n:Nat):(l++Kah n []).flatten=l.flatten:=by
 rw [KcE]
 have:(Kah n ([]:List Addr)).flatten=[]:=by
  induction n with
  |zero=>rfl
  |succ n ih=>rw [KaT,Kar,ih];rfl
 rw [this,KaC]
end Pu
namespace Pu
variable [aR]
open PySem L2 Enc
def NS:SS:=SS.ab (SS.al 1) (lH (SI.list (ai 0)) (SG.tup (jK (aQ 2) (jK (aQ 3) (cC.nil)))) (fu [2,3] (SS.ab (dW (uB (ST.ab (qk (ai 2) (SE.ab 0))) (ST.ab (zO (WY 1 (ai 2) (ai 3)) (ai 3)))) (LH) (SS.ag)) (SS.dput 1 (ai 2) (ai 3)))))
def So:Fn:=fnOf 1 3 NS
def Ef  (st1:(List (Int×Bool)))(x1:Int×Bool):(List (Int×Bool)):=
 if (x1.1<(0:Int))∨((KaO (aN st1 x1.1) x1.2)≠x1.2) then
 st1
 else
 lt ((x1.1,x1.2)::st1) λCr=>
 Cr
def M8  (st1:(List (Int×Bool)))(x1:Int×Bool):Prop:=
 (((x1.1<(0:Int))∨((KaO (aN st1 x1.1) x1.2)≠x1.2))->False)/\(¬((x1.1<(0:Int))∨((KaO (aN st1 x1.1) x1.2)≠x1.2))->st1.length<100000)
def mj (bD:List (Int×Bool)):Unit:=
 lt (Kas (Ef) ([]:List (Int×Bool)) bD) λp1=>
 ()
def yF (bD:List (Int×Bool)):Prop:=
 bW (Ef) (M8) bD ([]:List (Int×Bool))
theorem kN (bD:List (Int×Bool))(s:ae)(h0:yF bD):JF So [.e bD] s (mj bD) s true:=by
 unfold yF at h0
 have h5:=h0
 show JF _ _ _ () _ _
 refine JF.Xi rfl ?_
 unfold NS
 show JB _ [.e bD,.emp,.emp,.emp] _ (BO s (lt (Kas (Ef) ([]:List (Int×Bool)) bD) λp1=>
 ()))
 refine JB.ab (aB:=[.e bD,.cT (b6 ([]:List (Int×Bool))),.emp,.emp]) (JN.newD) ?_
 refine a_ λp1 e3=>?_
 refine JB.ac (wm (J:=λ(st1:(List (Int×Bool)))=>[.e bD,.cT (b6 st1),.emp,.emp]) (R:=λ(st1:(List (Int×Bool))) (x1:Int×Bool)=>[.e bD,.cT (b6 st1),.e x1.1,.e x1.2]) (f:=(Ef)) (d:=(M8)) (st:=([]:List (Int×Bool))) (JI.list (ak rfl)) rfl (λ_ _=>rfl) ?_ h5 e3) ?_
 ·intro st1 x1 hd
  unfold M8 at hd
  obtain⟨h3,h4⟩:=hd
  unfold Ef
  refine lI ?_
  refine zP (BK (JT.ab (wF (ak rfl) (JE.ab 0))) (λ_=>JT.ab (JE.ne (JE.Kx rfl (ak rfl) (ak rfl)) (ak rfl)))) ?_ (λhq=>(h3 hq).elim) ?_
  ·intro hq
   have h1:=h3 hq
   exact h1.elim
  intro hq
  have h2:=h4 hq
  refine xY ?_
  refine a_ λCr e2=>?_
  refine JB.ac (aB:=[.e bD,.cT (b6 Cr),.e x1.1,.e x1.2]) (JN.cT (JN.dput rfl (ak rfl) (ak rfl) h2) e2) ?_
  exact rfl
 exact⟨_,rfl⟩
def Ke:SS:=lH (SI.list (ai 0)) (aQ 1) (fu [1] (GY (SE.ac exc (cK (ai 1) (dK)))))
def N3:Fn:=fnOf 1 1 Ke
def Iu  (st1:Unit)(x1:aV):Unit:=
 ()
def M9  (st1:Unit)(x1:aV):Prop:=
 t7 x1
def oU (aa:List (aV)):Unit:=
 lt (Kas (Iu) () aa) λp1=>
 ()
def xG (aa:List (aV)):Prop:=
 bW (Iu) (M9) aa ()
theorem fR (aa:List (aV))(s:ae)(h0:xG aa):JF N3 [.e aa] s (oU aa) s true:=by
 unfold xG at h0
 have h2:=h0
 show JF _ _ _ () _ _
 refine JF.Xi rfl ?_
 unfold Ke
 show JB _ [.e aa,.emp] _ (BO s (lt (Kas (Iu) () aa) λp1=>
 ()))
 refine a_ λp1 e1=>?_
 refine JB.ac (wm (J:=λ(st1:Unit)=>[.e aa,.emp]) (R:=λ(st1:Unit) (x1:aV)=>[.e aa,.e x1]) (f:=(Iu)) (d:=(M9)) (st:=()) (JI.list (ak rfl)) rfl (λ_ _=>rfl) ?_ h2 e1) ?_
 ·intro st1 x1 hd
  unfold M9 at hd
  have h1:=hd
  unfold Iu
  refine lI ?_
  refine JB.ac (aB:=[.e aa,.e x1]) (LS (JE.ac (aK (ak rfl) (bK)) (jc x1 _ h1))) ?_
  exact rfl
 exact⟨_,rfl⟩
def PM:SS:=SS.ac (SE.all (fB (SI.list (ai 1)) (SG.tup (jK (aQ 2) (jK (aQ 3) (cC.nil)))) (cL) (gM (SE.ac OJ (cK (ai 0) (cK (ai 2) (dK)))) (ai 3)) [2,3] (of_decide_eq_true rfl)))
def PJ:Fn:=fnOf 2 2 PM
def pV (af:aV)(bD:List (Int×Bool)):Bool:=
 (KbJ (Kai (λ(x1:Int×Bool)=>(decide ((iy af x1.1)=x1.2))) bD) id)
def yY (af:aV)(bD:List (Int×Bool)):Prop:=
 (∀x1∈bD,yJ af x1.1)/\bD.length<=100000
theorem C0 (af:aV)(bD:List (Int×Bool))(s:ae)(h0:yY af bD):JF PJ [.e af,.e bD] s (pV af bD) s false:=by
 unfold yY at h0
 obtain⟨h3,h2⟩:=h0
 refine eW rfl ?_
 unfold pV PM
 show JB _ [.e af,.e bD,.emp,.emp] _ _
 exact JB.ag (jB (JE.all (CQ (λ(x1:Int×Bool)=>[.e af,.e bD,.e x1.1,.e x1.2]) (JI.list (ak rfl)) (λ_=>rfl) (λx1 hx=>(have h1:=h3 x1 hx;ql (JE.ac (aK (ak rfl) (aK (ak rfl) (bK))) (sW af x1.1 _ h1)) (ak rfl))) h2)))
def IY:SS:=SS.ab (GY (SE.ac N3 (cK (ai 0) (dK)))) (SS.ab (GY (SE.ac So (cK (ai 1) (dK)))) (SS.ac (fB (GX (ai 0)) (SG.tup (jK (aQ 2) (jK (aQ 3) (cC.nil)))) (ST.ab (SE.ac PJ (cK (ai 3) (cK (ai 1) (dK))))) (ai 2) [2,3] (of_decide_eq_true rfl))))
def KG:Fn:=fnOf 2 2 IY
def dU (aa:List (aV))(bD:List (Int×Bool)):List Int:=
 (Kai (λ(x1:Int×(aV))=>x1.1) (KaM (λ(x1:Int×(aV))=>decide ((pV x1.2 bD)=true)) (aT 0 aa)))
def t_ (aa:List (aV))(bD:List (Int×Bool)):Prop:=
 xG aa/\yF bD/\(∀x1∈(aT 0 aa),yY x1.2 bD)/\(aT 0 aa).length<=100000
theorem UN (aa:List (aV))(bD:List (Int×Bool))(s:ae)(h0:t_ aa bD):JF KG [.e aa,.e bD] s (dU aa bD) s true:=by
 unfold t_ at h0
 obtain⟨h1,h2,h5,h4⟩:=h0
 refine eW rfl ?_
 unfold dU IY
 show JB _ [.e aa,.e bD,.emp,.emp] _ _
 refine JB.ab (aB:=[.e aa,.e bD,.emp,.emp]) (LS (JE.ac (aK (ak rfl) (bK)) (fR aa _ h1))) ?_
 refine JB.ab (aB:=[.e aa,.e bD,.emp,.emp]) (LS (JE.ac (aK (ak rfl) (bK)) (kN bD _ h2))) ?_
 exact JB.ag (GU (λ(x1:Int×(aV))=>[.e aa,.e bD,.e x1.1,.e x1.2]) (LN (ak rfl)) (λ_=>rfl) (λx1 hx=>(have h3:=h5 x1 hx;JT.ab (hxd (JE.ac (aK (ak rfl) (aK (ak rfl) (bK))) (C0 x1.2 bD _ h3))))) (λx1 _ _=>ak rfl) (gY h4))
def ND:SS:=SS.ac (fB (SI.list (SE.ac KG (cK (ai 0) (cK (ai 1) (dK))))) (aQ 2) (cL) (SE.ac Kv (cK (cW (ai 0) (ai 2)) (dK))) [2] (of_decide_eq_true rfl))
def R8:Fn:=fnOf 2 1 ND
def Ep (aa:List (aV))(bD:List (Int×Bool)):List (aV):=
 (Kai (λ(x1:Int)=>(dz (au aa x1))) (dU aa bD))
def yj (aa:List (aV))(bD:List (Int×Bool)):Prop:=
 t_ aa bD/\(∀x1∈(dU aa bD),(-(aa.length:Int)<=x1/\x1<(aa.length:Int))/\vC (au aa x1))/\(dU aa bD).length<=100000
theorem jE (aa:List (aV))(bD:List (Int×Bool))(s:ae)(h0:yj aa bD):JF R8 [.e aa,.e bD] s (Ep aa bD) s true:=by
 unfold yj at h0
 obtain⟨h1,h5,h4⟩:=h0
 refine eW rfl ?_
 unfold Ep ND
 show JB _ [.e aa,.e bD,.emp] _ _
 exact JB.ag (Jz (λ(x1:Int)=>[.e aa,.e bD,.e x1]) (JI.list (JE.ac (aK (ak rfl) (aK (ak rfl) (bK))) (UN aa bD _ h1))) (λ_=>rfl) (λx1 hx=>(match h5 x1 hx with|⟨h2,h3⟩=>JE.ac (aK (l7 (ak rfl) (ak rfl) h2) (bK)) (gU (au aa x1) _ h3))) h4)
end Pu
namespace Pu
variable [aR]
open PySem PySem.Spec PyProof.Rows L2 Enc
def Aw:PyData->Option Int
 |.int i=>some i
 |.bool b=>some (PpSet.b2 b)
 |_=>none
def qK:List PyData->Option (List Int)
 |[]=>some []
 |d::ds=>(Aw d).bind λn=>(qK ds).map λns=>n::ns
/-- a tuple whose object is known (as data) -/
def ML (ds:List PyData):PyData:=.dict [(.list [],.tuple ds)]
def nM:PyData->Option (List PyData)
 |.dict [(.list [],.tuple ds)]=>some ds
 |_=>none
def wJ:PyData->Option NestedKey
 |.tuple ds=>(qK ds).map λns=>.tup (ns.map .num)
 |d=>(Aw d).map .num
def cj:List PyData->Option (List NestedKey)
 |[]=>some []
 |d::ds=>(wJ d).bind λn=>(cj ds).map λns=>n::ns
def c9:PyData->Option NestedKey
 |.tuple ds=>(cj ds).map .tup
 |d=>(nM d).bind λds=>(cj ds).map .tup
theorem Rp.jX {F:Hp}{v:V}{d:PyData}{ds:List PyData}{as:List Addr}(r:Rp F v d as)(h:nM d=some ds):∃a o xs,v=.ref a/\F a=some (.frz o (.tup xs))/\(o.cls=.type "tuple" /\ o.dict=none)/\ao F xs ds as:=by
 unfold nM at h
 split at h
 ·cases h
  cases r with
  |tupP h c r=>exact⟨_,_,_,rfl,h,c,r⟩
 ·cases h
theorem Rp.num {F:Hp}{v:V}{d:PyData}{as:List Addr}{n:Int}(r:Rp F v d as)(h:Aw d=some n):wV v=some n:=by
 unfold Aw at h
 split at h
 ·cases h;rw [r.int_inv];rfl
 ·cases h;rw [r.bool_inv];rfl
 ·cases h
theorem ao.nums {F:Hp}:∀{vs:List V} {ds:List PyData} {as:List Addr} {ns:List Int},ao F vs ds as->qK ds=some ns->vs.map wV=ns.map some
 |_,[],_,ns,r,h=>by
  cases r
  cases h;rfl
 |_,d::ds,_,ns,r,h=>by
  cases r with
  |cons h1 r1=>
   obtain⟨n,e1,h⟩:=aI h
   obtain⟨ms,e2,rfl⟩:=Kam.mp h
   rw [Kag,Kag,h1.num e1,ao.nums r1 e2]
theorem Rp.wJ {F:Hp}{v:V}{d:PyData}{as:List Addr}{k:NestedKey}(r:Rp F v d as)(h:wJ d=some k):j7 F k v:=by
 unfold Pu.wJ at h
 split at h
 ·obtain⟨ns,h1,rfl⟩:=Kam.mp h
  obtain⟨a,xs,rfl,ha,hr⟩:=r.bM
  exact .inr ⟨a,xs,ns,rfl,rfl,.inl ha,hr.nums h1⟩
 ·obtain⟨i,h1,rfl⟩:=Kam.mp h
  exact .inl ⟨i,rfl,r.num h1⟩
theorem ao.cj {F:Hp}:∀{vs:List V} {ds:List PyData} {as:List Addr} {ks:List NestedKey},ao F vs ds as->cj ds=some ks->Paired (j7 F) ks vs
 |_,[],_,ks,r,h=>by
  cases r
  cases h;exact .nil
 |_,d::ds,_,ks,r,h=>by
  cases r with
  |cons h1 r1=>
   obtain⟨n,e1,h⟩:=aI h
   obtain⟨ms,e2,rfl⟩:=Kam.mp h
   exact .cons (h1.wJ e1) (ao.cj r1 e2)
theorem Rp.c9 {F:Hp}{v:V}{d:PyData}{as:List Addr}{j:NestedKey}(r:Rp F v d as)(h:c9 d=some j):∃b,v=.ref b/\cQ F j b:=by
 unfold Pu.c9 at h
 split at h
 ·obtain⟨ks,h1,rfl⟩:=Kam.mp h
  obtain⟨a,xs,rfl,ha,hr⟩:=r.bM
  exact⟨a,rfl,xs,ks,rfl,.inl ha,hr.cj h1⟩
 ·obtain⟨ds,h1,h2⟩:=aI h
  obtain⟨ks,h3,rfl⟩:=Kam.mp h2
  obtain⟨a,o,xs,rfl,ha,_,hr⟩:=r.jX h1
  exact⟨a,rfl,xs,ks,rfl,.inr ⟨o,ha⟩,hr.cj h3⟩
theorem cS.fF {F:Hp}{ws:List bV}{f:List (NestedKey×PyData)}{k:NestedKey}{b:Addr}{v:V}{d:PyData}{as:List Addr}(h:∀j:NestedKey,cS F (cH ws j) (zm f j))(r:Rp F v d as)(j:NestedKey):cS F (cH (fF ws k b v) j) (zm ((k,d)::f) j):=by
 rw [Bj]
 show cS F _ (if k=j then some d else zm f j)
 by_cases e:k=j
 ·rw [if_pos e,if_pos e]
  exact⟨as,r⟩
 ·rw [if_neg e,if_neg e]
  exact h j
theorem Th {F:Hp}:∀{x:Option V} {d:Option PyData},cS F x d->x.isSome=d.isSome
 |none,none,_=>rfl
 |some _,some _,_=>rfl
 |some _,none,h=>h.elim
 |none,some _,h=>h.elim
/-- x={} among bJ targets -/
def SP.Dj (i:Nat)(r:SP):SP where
 t:=λK=>tCons PN (r.t K)
 ts:=i::r.ts
 ev:=λρ cf s=>r.ev ρ (cf.set i (.eV [])) s
 ok:=by
  intro K sk F0 H0 F H σ nQ ρ cf iw aj cu s s' Q p w h q a na
  have sr:aY F H F (L2.upd H a (cg a [])):=.raw (sk:=sk) w.st.sub' na
  have w1:=w.next (sr.any (sk:=sk)) (w.aW.keep sr)
  have Av:H0 a=none:=by
   cases q:H0 a with
   |none=>rfl
   |some u=>exact absurd na (w.st.dm a (by rw [q];exact nofun))
  have nd:([a]++cu.flatten).Nodup:=Kaj.mpr ⟨by simp,w.dj,λb mb c mc z=>by
   have:b=a:=by simpa using mb
   subst z
   exact (w.bR b mc).2.1 (by rw [this];exact na)⟩
  obtain⟨m1,m2⟩:=vD (i:=i) nd
  have wa:Wd sk F0 H0 F (L2.upd H a (cg a [])) (nQ.set i (some (.ref a))) (cf.set i (.eV [])) (cu.set i [a]) s:=by
   refine⟨w1.st,w1.aW,w1.slots.set ⟨a,[],rfl,upd_same,w.st.sub'.free na,⟨Kap _,λp hp=>nomatch hp⟩,λk=>True.intro,rfl⟩,m1,λb m=>?_⟩
   rcases m2 b m with z|z
   ·have:b=a:=by simpa using z
    subst this
    exact⟨Av,by rw [upd_same];exact nofun,gb w.aW na⟩
   ·exact w1.bR b z
  refine r.ok K (p.next (sr.any (sk:=sk)) (p.aW.keep sr)) wa h λvs F2 H2 fv sF w2 hl=>?_
  exact q (.ref a::vs) F2 H2 fv sF w2 (by rw [Kad,Kad,hl])
theorem Wd.uh {sk:Option Addr}{F0 H0 F H:Hp}{σ:L2.St}{ρ:List Slot}{aj:List (List Addr)}{s:ae}{i:Nat}{a:Addr}{ws gu:List bV}{f:List (NestedKey×PyData)}(w:Wd sk F0 H0 F H σ ρ aj s)(e1:σ[i]? = some (some (.ref a)))(e2:aj[i]? = some [a])(hF:F a=none)
  (hl:gu.length<=f.length) (hk:∀p∈gu,cQ F p.1 p.2.1) (r:∀k:NestedKey,cS F (cH gu k) (zm f k)) {MU:List bV} (hP:H a=some (cg a MU)):Wd sk F0 H0 F (L2.upd H a (cg a gu)) σ (ρ.set i (.eV f)) aj s:=by
 have fa:a∈aj.flatten:=KaB.mpr ⟨_,Kat e2,Kaa⟩
 obtain⟨a0,a1,a2⟩:=w.bR a fa
 obtain⟨n1,n2⟩:=yP w.dj e2
 have n3:=Kaj.mp n1
 have na:a∉(aj.set i []).flatten:=λm=>n3.2.2 a Kaa a m rfl
 have st':Step sk F0 H0 F (L2.upd H a (cg a gu)):=by
  refine⟨w.st.sub,λb u e=>?_,λb u hb e hs=>?_,λb h=>?_,w.st.new⟩
  ·rw [upd_ne (λz=>by rw [z,hF] at e;cases e)];exact w.st.sub' b u e
  ·rw [upd_ne (λz=>by rw [z,a0] at e;cases e)];exact w.st.fr b u hb e
  ·by_cases z:b=a
   ·rw [z,upd_same];exact nofun
   ·rw [upd_ne z];exact w.st.dm b h
 have dD:aZ sk F (L2.upd H a (cg a gu)) s:=⟨λb e=>⟨by rw [upd_ne (λz=>a2 (by rw [<-z];exact e))];exact (w.aW b e).1,(w.aW b e).2⟩,Gq w.aW.tab hP OS⟩
 have sl:=(w.slots.drop (i:=i)).tK (a:=a) (o:=cg a gu) na
 have sl2:=sl.fill (sl:=.eV f) (fp:=[a]) e1 ⟨a,gu,rfl,upd_same,hF,⟨hl,hk⟩,r,rfl⟩
 rw [KaK,KaK,KZ e2] at sl2
 refine⟨st',dD,sl2,w.dj,λb m=>?_⟩
 have:=w.bR b m
 refine⟨this.1,?_,this.2.2⟩
 by_cases z:b=a
 ·rw [z,upd_same];exact nofun
 ·rw [upd_ne z];exact this.2.1
/-- d[k]=v -/
def WJ (i:Nat)(k v:SE):SS where
 t:=λK=>Jt (tVar i) (k.t K) (v.t K)
 ev:=λρ s=>(v.ev ρ s).bind λx=>match ρ[i]? with
  |some (.eV f)=>(k.ev ρ x.2).bind λy=>match c9 y.1.1 with
   |some j=>if f.length<100000 then some (.nx (ρ.set i (.eV ((j,x.1.1)::f))) y.2) else none
   |none=>none
  |_=>none
 ok:=by
  intro K sk F0 H0 F H σ ρ aj s out D w h q
  obtain⟨⟨x,s1⟩,h1,h2⟩:=aI h
  dsimp only at h2
  split at h2
  ·rename_i f cF
   obtain⟨⟨⟨y,fl⟩,s2⟩,h3,h4⟩:=aI h2
   dsimp only at h4
   split at h4
   ·rename_i j ej
    split at h4
    ·rename_i hl
     cases h4
     refine v.ok K w.pre h1 λvv F1 H1 as st1 k1 r1 f1=>?_
     have w1:=w.next st1 k1
     obtain⟨xv,fp,e1,e2,a,ws,rfl,hH,hF,BI,hr,rfl⟩:=w1.slots.get cF
     refine⟨.ref a,e1,?_⟩
     refine k.ok K w1.pre h3 λkv F2 H2 bs st2 k2 r2 f2=>?_
     have w2:=w1.next st2 k2
     obtain⟨Yo,XQ,EE,KS,a2,vm,ez,m7,CN,wA,hr2,rfl⟩:=w2.slots.get cF
     rw [e1] at EE
     have K8:a2=a:=by
      have:=Option.some.inj EE
      subst this
      have:=Option.some.inj ez
      injection this with this
      exact this.symm
     subst K8
     obtain⟨b,rfl,hb⟩:=r2.c9 ej
     refine⟨a2,b,vm,j,rfl,rfl,m7,λp hp=>(wA.2 p hp).mono st2.sub',hb.mono st2.sub',KbC wA.1 (Ka7 hl (by decide)),?_⟩
     have w3:=w2.uh (ws:=vm) (gu:=fF vm j b vv) (f:=(j,x.1)::f) e1 KS CN (Kaw (qX _) (by show vm.length+1<=f.length+1;have:=wA.1;omega)) (nB wA.2 hb) (cS.fF hr2 (r1.mono st2.sub)) m7
     exact q F2 _ σ aj (st1.sub.trans st2.sub) w3
    ·cases h4
   ·cases h4
  ·cases h2
/-- k not in d -/
def SE.ug (i:Nat)(k:SE):SE where
 t:=λK=>U1 (k.t K) (tVar i)
 ev:=λρ s=>match ρ[i]? with
  |some (.eV f)=>(k.ev ρ s).bind λy=>match c9 y.1.1 with
   |some j=>some ((.bool (!(zm f j).isSome),true),y.2)
   |none=>none
  |_=>none
 ok:=by
  intro K sk F H σ ρ aj s vl s' Q p h q
  dsimp only at h
  split at h
  ·rename_i f cF
   obtain⟨⟨⟨y,fl⟩,s2⟩,h3,h4⟩:=aI h
   dsimp only at h4
   split at h4
   ·rename_i j ej
    cases h4
    obtain⟨xv,fp,e1,e2,a,ws,rfl,hH,hF,BI,hr,rfl⟩:=p.slots.get cF
    refine k.ok K p h3 λkv F2 H2 bs st2 k2 r2 f2=>?_
    have fa:a∈aj.flatten:=KaB.mpr ⟨_,Kat e2,Kaa⟩
    have m7:H2 a=some (cg a ws):=st2.fr a _ (λz=>p.jW a z fa) hH
    obtain⟨b,rfl,hb⟩:=r2.c9 ej
    refine⟨.ref a,e1,a,b,ws,j,rfl,rfl,m7,λp hp=>((BI.2 p hp).mono st2.sub).mono st2.sub',hb.mono st2.sub',?_⟩
    rw [Th (hr j)]
    exact q _ F2 H2 [] st2 k2 (.bl _) .nil
   ·cases h4
  ·cases h
def SE.MO (a:SE):SE where
 t:=λK=>tThen (a.t K) (kTup K)
 ev:=λρ s=>(a.ev ρ s).bind λx=>match x.1.1 with|.list ds=>some ((.tuple ds,eR ds),x.2)|_=>none
 ok:=by
  intro K sk F H σ ρ aj s vl s' Q p h q
  obtain⟨⟨⟨x,w⟩,s1⟩,h1,h0⟩:=aI h
  dsimp only at h0
  split at h0
  ·rename_i ds
   cases h0
   refine a.ok K p h1 λu F1 H1 as st k r f=>?_
   obtain⟨ad,xs,bs,rfl,ha,hr,rfl⟩:=r.aM
   refine .inl ⟨ad,xs,rfl,.inl (.inl (st.sub' _ _ ha)),λp np=>?_⟩
   have sa:aY F1 H1 (L2.upd F1 p (.tup xs)) (L2.upd H1 p (.tup xs)):=.alloc st.sub' np
   refine q (.ref p) _ _ bs (st.trans sa.any) (k.keep sa) (.tup upd_same (hr.mono sa.sub)) λe=>?_
   rw [hr.aH e]
   exact⟨KaI,λa m=>by cases m⟩
  ·cases h0
/-- tuple(list),its object known -/
def SE.tupP (a:SE):SE where
 t:=λK=>tThen (a.t K) (EY K)
 ev:=λρ s=>(a.ev ρ s).bind λx=>match x.1.1 with|.list ds=>some ((ML ds,eR ds),x.2)|_=>none
 ok:=by
  intro K sk F H σ ρ aj s vl s' Q p h q
  obtain⟨⟨⟨x,w⟩,s1⟩,h1,h0⟩:=aI h
  dsimp only at h0
  split at h0
  ·rename_i ds
   cases h0
   refine a.ok K p h1 λu F1 H1 as st k r f=>?_
   obtain⟨ad,xs,bs,rfl,ha,hr,rfl⟩:=r.aM
   refine⟨ad,xs,rfl,.inl (.inl (st.sub' _ _ ha)),λp o np ho=>?_⟩
   have sa:aY F1 H1 (L2.upd F1 p (.frz o (.tup xs))) (L2.upd H1 p (.frz o (.tup xs))):=.alloc st.sub' np
   refine q (.ref p) _ _ bs (st.trans sa.any) (k.keep sa) (.tupP upd_same ho (hr.mono sa.sub)) λe=>?_
   rw [hr.aH e]
   exact⟨KaI,λa m=>by cases m⟩
  ·cases h0
/-- all(t) of MI a tuple -/
def Eh:List PyData->Option Vl
 |[d]=>(nM d).bind λds=>(xT ds).map λbs=>(.bool (bs.all id),true)
 |_=>none
def SE.BW (a:SE):SE:=o4 (λK=>E6 K) Eh (by
 intro K F H xs ds as z Q s r h q
 unfold Eh at h
 split at h
 ·rename_i d
  obtain⟨es,h1,h2⟩:=aI h
  obtain⟨bs,h3,rfl⟩:=Kam.mp h2
  cases r with
  |cons r rr=>
   cases rr
   obtain⟨a,o,ys,rfl,ha,_,hr⟩:=r.jX h1
   rw [Oh h3] at hr
   rw [hr.bools] at ha
   exact⟨a,bs,rfl,.inl (.inr ⟨o,s _ _ ha⟩),q.here (z:=(.bool _,true)) s (.bl _) .nil⟩
 ·cases h) (.cons a .nil)
/-- t.count(b) of MI a tuple -/
def WZ (a b:SE):SE where
 t:=λK=>u7 (a.t K) (b.t K)
 ev:=λρ s=>(a.ev ρ s).bind λx=>(nM x.1.1).bind λds=>(xT ds).bind λbs=>(b.ev ρ x.2).bind λy=>match y.1.1 with|.bool c=>some ((.int ((bs.count c:Nat):Int),true),y.2)|_=>none
 ok:=by
  intro K sk F H σ ρ aj s vl s' Q p h q
  obtain⟨⟨⟨x,w⟩,s1⟩,h1,h0⟩:=aI h
  obtain⟨ds,h2,h0⟩:=aI h0
  obtain⟨bs,h3,h0⟩:=aI h0
  obtain⟨⟨⟨y,w2⟩,s2⟩,h4,h0⟩:=aI h0
  dsimp only at h0
  split at h0
  ·rename_i c
   cases h0
   refine a.ok K p h1 λu F1 H1 as st k r f=>?_
   obtain⟨ad,o,xs,rfl,ha,ho,hr⟩:=r.jX h2
   rw [Oh h3] at hr
   rw [hr.bools] at ha
   refine⟨ad,o,bs,rfl,st.sub' _ _ ha,ho,?_⟩
   refine b.ok K (p.next st k) h4 λv2 F2 H2 as2 st2 k2 r2 f2=>?_
   exact⟨c,r2.bool_inv,st2.sub' _ _ (st2.sub _ _ ha),q _ F2 H2 [] (st.trans st2) k2 (.int _) .nil⟩
  ·cases h0
structure Tb where
 l:List Bool
deriving DecidableEq
instance:Enc Tb:=⟨λt=>ML (t.l.map .bool)⟩
class bN (κ:Type) [Enc κ] where
 nums:κ->NestedKey
 ok:∀x:κ,c9 (enc x)=some (nums x)
 inj:∀x y:κ,nums x=nums y->x=y
theorem je:∀bs:List Bool,cj (bs.map .bool)=some (bs.map λb=>.num (PpSet.b2 b))
 |[]=>rfl
 |b::bs=>by
  rw [Kag,Kag]
  unfold cj
  rw [je bs];rfl
theorem yG:∀{xs ys:List Bool},xs.map (λb=>NestedKey.num (PpSet.b2 b))=ys.map (λb=>NestedKey.num (PpSet.b2 b))->xs=ys
 |[],[],_=>rfl
 |[],_::_,h=>by cases h
 |_::_,[],h=>by cases h
 |x::xs,y::ys,h=>by
  rw [Kag,Kag] at h
  injection h with h1 h2
  rw [yG h2]
  congr 1
  injection h1 with h1
  cases x <;> cases y <;> first|rfl|exact absurd h1 (by decide)
instance:bN Tb:=⟨λt=>.tup (t.l.map λb=>.num (PpSet.b2 b)),λt=>by
 show (cj (t.l.map .bool)).map NestedKey.tup=_
 rw [je];rfl,λx y h=>by
 obtain⟨x⟩:=x
 obtain⟨y⟩:=y
 injection h with h
 exact congrArg Tb.mk (yG h)⟩
def cX {κ β:Type}[Enc κ][bN κ][Enc β](f:List (κ×β)):List (NestedKey×PyData):=f.map λp=>(bN.nums p.1,enc p.2)
theorem pX {κ β:Type}[Enc κ][bN κ][DecidableEq κ][Enc β]:∀(f:List (κ×β)) (j:κ),zm (cX f) (bN.nums j)=(aN f j).map enc
 |[],j=>rfl
 |(k,d)::r,j=>by
  show (if bN.nums k=bN.nums j then some (enc d) else zm (cX r) (bN.nums j))=_
  unfold aN
  by_cases h:k=j
  ·rw [if_pos h,if_pos (by rw [h])];rfl
  ·rw [if_neg h,if_neg (λz=>h (bN.inj _ _ z))];exact pX r j
section
variable {ρ aB cI:List Slot}{s s1 s2:ae}{e e2:SE}{i:Nat}{w w1 w2:Bool}
theorem JE.tupP {xs:List Bool}(h:JE e ρ s xs s1 w1):JE (SE.tupP e) ρ s (Tb.mk xs) s1 false:=by
 obtain⟨_,h,_⟩:=h
 refine⟨eR (xs.map PyData.bool),?_,λz=>by cases z⟩
 show (e.ev ρ s).bind _=_
 rw [h];rfl
theorem JE.BW {x:Tb}(h:JE e ρ s x s1 w1):JE (SE.BW e) ρ s (x.l.all id) s1 true:=by
 obtain⟨_,h,_⟩:=h
 exact⟨true,lR h (by
  show (xT (x.l.map PyData.bool)).map _=_
  rw [Kw];rfl),λ_=>rfl⟩
theorem JE.countP {x:Tb}{c:Bool}(h:JE e ρ s x s1 w1)(h2:JE e2 ρ s1 c s2 w2):JE (WZ e e2) ρ s ((x.l.count c:Nat):Int) s2 true:=by
 obtain⟨_,h,_⟩:=h
 obtain⟨_,h2,_⟩:=h2
 refine⟨true,?_,λ_=>rfl⟩
 show (e.ev ρ s).bind _=_
 rw [h]
 show (xT (x.l.map PyData.bool)).bind _=_
 rw [Kw]
 show (e2.ev ρ s1).bind _=_
 rw [h2];rfl
theorem JE.ug {κ:Type}[Enc κ][bN κ][DecidableEq κ]{β:Type}[Enc β]{f:List (κ×β)}{x:κ}(hi:ρ[i]? = some (.eV (cX f)))(h:JE e ρ s x s1 w):JE (SE.ug i e) ρ s (decide (¬((aN f x).isSome=true))) s1 true:=by
 obtain⟨_,h,_⟩:=h
 refine⟨true,?_,λ_=>rfl⟩
 show (match ρ[i]? with|some (.eV f)=>_|_=>_)=_
 rw [hi]
 show ((e.ev ρ s).bind _)=_
 rw [h]
 show (match c9 (enc x) with|some j=>some ((PyData.bool (!(zm (cX f) j).isSome),true),s1)|none=>none)=_
 rw [bN.ok]
 show some ((PyData.bool (!(zm (cX f) (bN.nums x)).isSome),true),s1)=_
 rw [pX]
 cases aN f x <;> rfl
theorem JN.uh {κ:Type}[Enc κ][bN κ]{α:Type}[Enc α]{f:List (κ×α)}{x:α}{j:κ}(hi:ρ[i]? = some (.eV (cX f)))(hv:JE e ρ s x s1 w)(hk:JE e2 ρ s1 j s2 w1)(hl:f.length<100000):JN (WJ i e2 e) ρ s (ρ.set i (.eV (cX ((j,x)::f)))) s2:=by
 obtain⟨_,hv,_⟩:=hv
 obtain⟨_,hk,_⟩:=hk
 show ((e.ev ρ s).bind _)=_
 rw [hv]
 show (match ρ[i]? with|some (.eV f)=>_|_=>_)=_
 rw [hi]
 show ((e2.ev ρ s1).bind _)=_
 rw [hk]
 show (match c9 (enc j) with|some j=>(if (cX f).length<100000 then some (Out.nx (ρ.set i (.eV ((j,enc x)::cX f))) s2) else none)|none=>none)=_
 rw [bN.ok]
 show (if (cX f).length<100000 then _ else _)=_
 rw [if_pos (by unfold cX;simpa using hl)];rfl
theorem JN.eV {κ:Type}[Enc κ][bN κ]{α:Type}[Enc α]{a:SS}{x v:List (κ×α)}(h:JN a ρ s (ρ.set i (.eV (cX v))) s1)(hx:x=v):JN a ρ s (ρ.set i (.eV (cX x))) s1:=hx ▸ h
theorem JP.Dj {p:SP}(hp:JP p ρ (aB.set i (.eV [])) s cI s2):JP (SP.Dj i p) ρ aB s cI s2:=hp
end
end Pu
namespace Pu
variable [aR]
open PySem L2 Enc
def Ks:SS:=SS.ab (Jy 1 (SB.own (SE.lst (fK)))) (LP 1 (SS.ab (lH (SI.list (ai 0)) (aQ 2) (fu [2,3] (SS.ab (dh 3 (SE.ac Kv (cK (ai 2) (dK)))) (dW (P5 1 (ST.ab (hxa (ai 3) (ai 1)))) (LG 1 (ai 3)) (SS.ag))))) (GS 1 (SS.ac (ai 1)))))
def Oo:Fn:=fnOf 1 3 Ks
def iZ  (st1:(List (aV)))(x1:aV):(List (aV)):=
 lt ((dz x1)) λGG=>
 if GG∉st1 then
 lt (st1++[GG]) λiz=>
 iz
 else
 st1
def IA  (st1:(List (aV)))(x1:aV):Prop:=
 vC x1/\(bG ((dz x1)) λGG=>
 ((GG∉st1)->st1.length<100000))
def dN (aa:List (aV)):List (aV):=
 lt (([]:List (aV))) λfG=>
 lt (Kas (iZ) fG aa) λp1=>
 p1
def rS (aa:List (aV)):Prop:=
 (bG (([]:List (aV))) λfG=>
 bW (iZ) (IA) aa fG)
theorem gX (aa:List (aV))(s:ae)(h0:rS aa):JF Oo [.e aa] s (dN aa) s false:=by
 unfold rS at h0
 have h6:=h0
 refine eW rfl ?_
 unfold dN Ks
 show JB _ [.e aa,.emp,.emp,.emp] _ _
 refine a_ λfG e1=>?_
 have h5:=b5 h6 e1
 refine JB.ab (aB:=[.e aa,.aO (Kai enc fG) true,.emp,.emp]) (JN.aO (P6 (JE.lst (xs:=[]) gK)) e1) ?_
 refine JB.Qo (i:=1) rfl ?_
 show JB _ [.e aa,.aO (Kai enc fG) false,.emp,.emp] _ _
 refine a_ λp1 e4=>?_
 refine JB.ab (wm (J:=λ(st1:(List (aV)))=>[.e aa,.aO (Kai enc st1) false,.emp,.emp]) (R:=λ(st1:(List (aV))) (x1:aV)=>[.e aa,.aO (Kai enc st1) false,.e x1,.emp]) (f:=(iZ)) (d:=(IA)) (st:=fG) (JI.list (ak rfl)) rfl (λ_ _=>rfl) ?_ h5 e4) ?_
 ·intro st1 x1 hd
  unfold IA at hd
  obtain⟨h1,h4⟩:=hd
  unfold iZ
  refine lI ?_
  refine a_ λGG e2=>?_
  have h3:=b5 h4 e2
  refine JB.ab (aB:=[.e aa,.aO (Kai enc st1) false,.e x1,.e GG]) (d7 (JE.ac (aK (ak rfl) (bK)) (gU x1 _ h1)) e2) ?_
  refine wB (JT.ac rfl (JT.ab (JE.Au (ak rfl) (ak rfl)))) ?_ ?_
  ·intro hq
   have h2:=h3 hq
   refine a_ λiz e3=>?_
   refine JB.ac (aB:=[.e aa,.aO (Kai enc iz) false,.e x1,.e GG]) (JN.aO (P4 rfl (ak rfl) h2) e3) ?_
   exact rfl
  ·intro hq
   exact JB.al rfl
 show JB _ [.e aa,.aO (Kai enc p1) false,.emp,.emp] _ _
 refine JB.frz (i:=1) rfl ?_
 show JB _ [.e aa,.e p1,.emp,.emp] _ _
 exact JB.ag (ak rfl)
def M3:SS:=SS.ab (sU (SG.tup (jK (aQ 1) (jK (aQ 2) (cC.nil)))) (SE.tup (eK (SE.ab 0) (eK (SE.ab 1) (fK))))) (SS.ab (lH (SI.list (ai 0)) (aQ 3) (fu [3] (SS.ab (dh 1 (CU (ai 1) (cW (ai 3) (SE.ab 1)))) (dh 2 (SE.ac QV (cK (ai 2) (cK (cW (ai 3) (SE.ab 2)) (dK)))))))) (SS.ac (gr (ai 1) (ai 2))))
def Rr:Fn:=fnOf 1 3 M3
def Bq  (st1:Int×Int)(x1:aV):Int×Int:=
 lt ((max st1.1 x1.y)) λsJ=>
 lt ((JW st1.2 x1.z)) λbh=>
 (sJ,bh)
def Iq  (st1:Int×Int)(x1:aV):Prop:=
 (bG ((max st1.1 x1.y)) λsJ=>
 vJ st1.2 x1.z)
def ID (aa:List (aV)):Int:=
 lt (((0:Int),(1:Int))) λp1=>
 lt (Kas (Bq) (p1.1,p1.2) aa) λp2=>
 (p2.1+p2.2)
def xB (aa:List (aV)):Prop:=
 (bG (((0:Int),(1:Int))) λp1=>
 bW (Bq) (Iq) aa (p1.1,p1.2))
theorem gQ (aa:List (aV))(s:ae)(h0:xB aa):JF Rr [.e aa] s (ID aa) s false:=by
 unfold xB at h0
 have h4:=h0
 refine eW rfl ?_
 unfold ID M3
 show JB _ [.e aa,.emp,.emp,.emp] _ _
 refine a_ λp1 e1=>?_
 have h3:=b5 h4 e1
 refine JB.ab (aB:=[.e aa,.e p1.1,.e p1.2,.emp]) (wk (Qi (zF (iK (JE.ab 0) (iK (JE.ab 1) (gK)))) e1.symm) rfl) ?_
 refine a_ λp2 e4=>?_
 refine JB.ab (wm (J:=λ(st1:Int×Int)=>[.e aa,.e st1.1,.e st1.2,.emp]) (R:=λ(st1:Int×Int) (x1:aV)=>[.e aa,.e st1.1,.e st1.2,.e x1]) (f:=(Bq)) (d:=(Iq)) (st:=(p1.1,p1.2)) (JI.list (ak rfl)) rfl (λ_ _=>rfl) ?_ h3 e4) ?_
 ·intro st1 x1 hd
  unfold Iq at hd
  have h2:=hd
  unfold Bq
  refine lI ?_
  refine a_ λsJ e2=>?_
  have h1:=b5 h2 e2
  refine JB.ab (aB:=[.e aa,.e sJ,.e st1.2,.e x1]) (d7 (LI (ak rfl) (JE.Z4 (ak rfl))) e2) ?_
  refine a_ λbh e3=>?_
  refine JB.ac (aB:=[.e aa,.e sJ,.e bh,.e x1]) (d7 (JE.ac (aK (ak rfl) (aK (JE.Z5 (ak rfl)) (bK))) (gk st1.2 x1.z _ h1)) e3) ?_
  exact rfl
 show JB _ [.e aa,.e p2.1,.e p2.2,.emp] _ _
 exact JB.ag (jB (m6 (ak rfl) (ak rfl)))
def KO:SS:=SS.ab (dh 1 (SE.ac Rr (cK (ai 0) (dK)))) (SS.ab (dh 2 (fB (SI.list (ai 0)) (aQ 7) (cL) (SE.ac NH (cK (SE.ac KC (cK (ai 7) (dK))) (cK (ai 1) (dK)))) [7] (of_decide_eq_true rfl))) (SS.ab (uz 3 4 (SP.Dj 3 (Ju 4 (SP.nil))) (of_decide_eq_true rfl)) (LP 4 (SS.ab (lH (rX (ai 1)) (aQ 5) (fu [5,6] (SS.ab (dh 6 (SE.tupP (fB (SI.list (ai 2)) (aQ 8) (cL) (gM (cW (ai 8) (ai 5)) (cW (cW (ai 2) (SE.ab 0)) (ai 5))) [8] (of_decide_eq_true rfl)))) (dW (EO (GV (ST.ab (SE.BW (ai 6)))) (ST.ab (SE.ug 3 (ai 6)))) (SS.ab (WJ 3 (ai 6) (ai 5)) (LG 4 (SE.tup (eK (ai 5) (eK (ai 6) (fK)))))) (SS.ag))))) (GS 4 (SS.ac (ai 4)))))))
def OR:Fn:=fnOf 1 8 KO
def tZ (ah:List (List Int))(st1:(List (Tb×Int))×(List (Int×Tb)))(x2:Int):(List (Tb×Int))×(List (Int×Tb)):=
 lt ((Tb.mk (Kai (λ(x3:List Int)=>(decide ((au x3 x2)=(au (au ah (0:Int)) x2)))) ah))) λeB=>
 if (¬((KbJ eB.l id)=true))/\(¬(KaQ (aN st1.1 eB)=true)) then
 lt ((eB,x2)::st1.1) λCr=>
 lt (st1.2++[(x2,eB)]) λiz=>
 (Cr,iz)
 else
 (st1.1,st1.2)
def Iw (ah:List (List Int))(st1:(List (Tb×Int))×(List (Int×Tb)))(x2:Int):Prop:=
 (∀x3∈ah,(-(x3.length:Int)<=x2/\x2<(x3.length:Int))/\(-(ah.length:Int)<=(0:Int)/\(0:Int)<(ah.length:Int))/\(-((au ah (0:Int)).length:Int)<=x2/\x2<((au ah (0:Int)).length:Int)))/\ah.length<=100000/\(bG ((Tb.mk (Kai (λ(x3:List Int)=>(decide ((au x3 x2)=(au (au ah (0:Int)) x2)))) ah))) λeB=>
 (((¬((KbJ eB.l id)=true))/\(¬(KaQ (aN st1.1 eB)=true)))->(st1.1.length<100000/\(bG ((eB,x2)::st1.1) λCr=>
 st1.2.length<100000))))
def jR (aa:List (aV)):List (Int×Tb):=
 lt ((ID aa)) λmany1=>
 lt ((Kai (λ(x1:aV)=>(FP (iF x1) many1)) aa)) λah=>
 lt (Kas (tZ ah) (([]:List (Tb×Int)),([]:List (Int×Tb))) (rng 0 many1)) λp1=>
 p1.2
def vQ (aa:List (aV)):Prop:=
 xB aa/\(bG ((ID aa)) λmany1=>
 (∀x1∈aa,uc x1/\yp (iF x1) many1)/\aa.length<=100000/\(bG ((Kai (λ(x1:aV)=>(FP (iF x1) many1)) aa)) λah=>
 (-1000000<=many1/\many1<=1000000)/\bW (tZ ah) (Iw ah) (rng 0 many1) (([]:List (Tb×Int)),([]:List (Int×Tb)))))
theorem jd (aa:List (aV))(s:ae)(h0:vQ aa):JF OR [.e aa] s (jR aa) s false:=by
 unfold vQ at h0
 obtain⟨h1,CM⟩:=h0
 refine eW rfl ?_
 unfold jR KO
 show JB _ [.e aa,.emp,.emp,.emp,.emp,.emp,.emp,.emp,.emp] _ _
 refine a_ λmany1 e1=>?_
 obtain⟨h5,h4,CL⟩:=b5 CM e1
 refine JB.ab (aB:=[.e aa,.e many1,.emp,.emp,.emp,.emp,.emp,.emp,.emp]) (d7 (JE.ac (aK (ak rfl) (bK)) (gQ aa _ h1)) e1) ?_
 refine a_ λah e2=>?_
 obtain⟨h6,CK⟩:=b5 CL e2
 refine JB.ab (aB:=[.e aa,.e many1,.e ah,.emp,.emp,.emp,.emp,.emp,.emp]) (d7 (Jz (λ(x1:aV)=>[.e aa,.e many1,.emp,.emp,.emp,.emp,.emp,.e x1,.emp]) (JI.list (ak rfl)) (λ_=>rfl) (λx1 hx=>(match h5 x1 hx with|⟨h2,h3⟩=>JE.ac (aK (JE.ac (aK (ak rfl) (bK)) (kQ x1 _ h2)) (aK (ak rfl) (bK))) (jD (iF x1) many1 _ h3))) h4) e2) ?_
 refine JB.ab (aB:=[.e aa,.e many1,.e ah,.eV (cX ([]:List (Tb×Int))),.aO (Kai enc ([]:List (Int×Tb))) true,.emp,.emp,.emp,.emp]) (hxc (JP.Dj (JP.Ml (JP.nil)))) ?_
 refine JB.Qo (i:=4) rfl ?_
 show JB _ [.e aa,.e many1,.e ah,.eV (cX ([]:List (Tb×Int))),.aO (Kai enc ([]:List (Int×Tb))) false,.emp,.emp,.emp,.emp] _ _
 refine a_ λp1 e8=>?_
 refine JB.ab (wm (J:=λ(st1:(List (Tb×Int))×(List (Int×Tb)))=>[.e aa,.e many1,.e ah,.eV (cX st1.1),.aO (Kai enc st1.2) false,.emp,.emp,.emp,.emp]) (R:=λ(st1:(List (Tb×Int))×(List (Int×Tb))) (x2:Int)=>[.e aa,.e many1,.e ah,.eV (cX st1.1),.aO (Kai enc st1.2) false,.e x2,.emp,.emp,.emp]) (f:=(tZ ah)) (d:=(Iw ah)) (st:=(([]:List (Tb×Int)),([]:List (Int×Tb)))) (wj (ak rfl) h6) rfl (λ_ _=>rfl) ?_ CK e8) ?_
 ·intro st1 x2 hd
  unfold Iw at hd
  obtain⟨h11,h10,CJ⟩:=hd
  unfold tZ
  refine lI ?_
  refine a_ λeB e5=>?_
  have h15:=b5 CJ e5
  refine JB.ab (aB:=[.e aa,.e many1,.e ah,.eV (cX st1.1),.aO (Kai enc st1.2) false,.e x2,.e eB,.emp,.emp]) (d7 (JE.tupP (CQ (λ(x3:List Int)=>[.e aa,.e many1,.e ah,.eV (cX st1.1),.aO (Kai enc st1.2) false,.e x2,.emp,.emp,.e x3]) (JI.list (ak rfl)) (λ_=>rfl) (λx3 hx=>(match h11 x3 hx with|⟨h7,h8,h9⟩=>ql (l7 (ak rfl) (ak rfl) h7) (l7 (l7 (ak rfl) (JE.ab 0) h8) (ak rfl) h9))) h10)) e5) ?_
  refine wB (JT.and (JT.ag (JT.ab (hxd (JE.BW (ak rfl))))) (λ_=>JT.ab (JE.ug rfl (ak rfl)))) ?_ ?_
  ·intro hq
   obtain⟨h12,CI⟩:=h15 hq
   refine a_ λCr e6=>?_
   have h13:=b5 CI e6
   refine JB.ab (aB:=[.e aa,.e many1,.e ah,.eV (cX Cr),.aO (Kai enc st1.2) false,.e x2,.e eB,.emp,.emp]) (JN.eV (JN.uh rfl (ak rfl) (ak rfl) h12) e6) ?_
   refine a_ λiz e7=>?_
   refine JB.ac (aB:=[.e aa,.e many1,.e ah,.eV (cX Cr),.aO (Kai enc iz) false,.e x2,.e eB,.emp,.emp]) (JN.aO (P4 rfl (zF (iK (ak rfl) (GR (ak rfl) (gK)))) h13) e7) ?_
   exact rfl
  ·intro hq
   exact JB.al rfl
 show JB _ [.e aa,.e many1,.e ah,.eV (cX p1.1),.aO (Kai enc p1.2) false,.emp,.emp,.emp,.emp] _ _
 refine JB.frz (i:=4) rfl ?_
 show JB _ [.e aa,.e many1,.e ah,.eV (cX p1.1),.e p1.2,.emp,.emp,.emp,.emp] _ _
 exact JB.ag (ak rfl)
def Nm:SS:=SS.ac (CU (WZ (ai 0) (SE.bool true)) (WZ (ai 0) (SE.bool false)))
def Q2:Fn:=fnOf 1 0 Nm
def IP (eB:Tb):Int:=
 (max ((List.count true eB.l:Nat):Int) ((List.count false eB.l:Nat):Int))
def Eo (eB:Tb):Prop:=
 True
theorem iO (eB:Tb)(s:ae)(h0:Eo eB):JF Q2 [.e eB] s (IP eB) s false:=by
 refine eW rfl ?_
 unfold IP Nm
 show JB _ [.e eB] _ _
 exact JB.ag (jB (LI (JE.countP (ak rfl) (JE.bool true)) (JE.countP (ak rfl) (JE.bool false))))
def Kh:SS:=SS.ab (dh 2 (SE.ac Oo (cK (SE.ac R8 (cK (ai 0) (cK (ai 1) (dK)))) (dK)))) (SS.ab (dW (ST.ab (qk (iB (ai 2)) (SE.ab 2))) (SS.ac (SE.non)) (SS.ag)) (SS.ab (dh 3 (SE.non)) (SS.ab (lH (SI.list (SE.ac OR (cK (ai 2) (dK)))) (SG.tup (jK (aQ 4) (jK (aQ 5) (cC.nil)))) (fu [4,5,6] (SS.ab (dh 6 (SE.ac Q2 (cK (ai 5) (dK)))) (dW (uB (ST.ab (SE.G4 (ai 3) (SE.non))) (ST.ab (qk (ai 6) (cW (ai 3) (SE.ab 0))))) (dh 3 (SE.tup (eK (ai 6) (eK (ai 4) (fK))))) (SS.ag))))) (SS.ac (cW (ai 3) (SE.ab 1))))))
def Oi:Fn:=fnOf 2 5 Kh
def sG  (st1:(Option (Int×Int)))(x1:Int×Tb):(Option (Int×Int)):=
 lt ((IP x1.2)) λsL=>
 if (st1=none)∨(sL<((KaO st1 default).1)) then
 lt ((some (sL,x1.1))) λyI=>
 yI
 else
 st1
def IS  (st1:(Option (Int×Int)))(x1:Int×Tb):Prop:=
 (bG ((IP x1.2)) λsL=>
 (¬(st1=none)->(KaQ st1=true)))
def oW (aa:List (aV))(bD:List (Int×Bool)):Option Int:=
 lt ((dN (Ep aa bD))) λcJ=>
 if (cJ.length:Int)<(2:Int) then
 (none:Option Int)
 else
 lt ((none:Option (Int×Int))) λkh=>
 lt (Kas (sG) kh (jR cJ)) λp1=>
 (some ((KaO p1 default).2))
def vF (aa:List (aV))(bD:List (Int×Bool)):Prop:=
 yj aa bD/\rS (Ep aa bD)/\(bG ((dN (Ep aa bD))) λcJ=>
 (¬((cJ.length:Int)<(2:Int))->((bG ((none:Option (Int×Int))) λkh=>
 vQ cJ/\bW (sG) (IS) (jR cJ) kh/\(bG (Kas (sG) kh (jR cJ)) λp1=>
 KaQ p1=true)))))
theorem gW (aa:List (aV))(bD:List (Int×Bool))(s:ae)(h0:vF aa bD):JF Oi [.e aa,.e bD] s (oW aa bD) s false:=by
 unfold vF at h0
 obtain⟨h1,h2,h12⟩:=h0
 refine eW rfl ?_
 unfold oW Kh
 show JB _ [.e aa,.e bD,.emp,.emp,.emp,.emp,.emp] _ _
 refine a_ λcJ e1=>?_
 have h11:=b5 h12 e1
 refine JB.ab (aB:=[.e aa,.e bD,.e cJ,.emp,.emp,.emp,.emp]) (d7 (JE.ac (aK (JE.ac (aK (ak rfl) (aK (ak rfl) (bK))) (jE aa bD _ h1)) (bK)) (gX (Ep aa bD) _ h2)) e1) ?_
 refine zP (JT.ab (wF (jT (ak rfl)) (JE.ab 2))) ?_ (λ_=>JD) ?_
 ·intro hq
  exact JB.ag (jB (JE.X8))
 intro hq
 have h10:=h11 hq
 refine xY ?_
 refine a_ λkh e2=>?_
 obtain⟨h3,h7,h9⟩:=b5 h10 e2
 refine JB.ab (aB:=[.e aa,.e bD,.e cJ,.e kh,.emp,.emp,.emp]) (d7 (JE.X8) e2) ?_
 refine a_ λp1 e5=>?_
 have h8:=b5 h9 e5
 refine JB.ab (wm (J:=λ(st1:(Option (Int×Int)))=>[.e aa,.e bD,.e cJ,.e st1,.emp,.emp,.emp]) (R:=λ(st1:(Option (Int×Int))) (x1:Int×Tb)=>[.e aa,.e bD,.e cJ,.e st1,.e x1.1,.e x1.2,.emp]) (f:=(sG)) (d:=(IS)) (st:=kh) (JI.list (JE.ac (aK (ak rfl) (bK)) (jd cJ _ h3))) rfl (λ_ _=>rfl) ?_ h7 e5) ?_
 ·intro st1 x1 hd
  unfold IS at hd
  have h6:=hd
  unfold sG
  refine lI ?_
  refine a_ λsL e3=>?_
  have h5:=b5 h6 e3
  refine JB.ab (aB:=[.e aa,.e bD,.e cJ,.e st1,.e x1.1,.e x1.2,.e sL]) (d7 (JE.ac (aK (ak rfl) (bK)) (iO x1.2 _ trivial)) e3) ?_
  refine wB (BK (JT.ab (JE.G4 (ak rfl))) (λhq=>(have h4:=h5 hq;JT.ab (wF (ak rfl) (JE.Yb (LM (ak rfl) h4)))))) ?_ ?_
  ·intro hq
   refine a_ λyI e4=>?_
   refine JB.ac (aB:=[.e aa,.e bD,.e cJ,.e yI,.e x1.1,.e x1.2,.e sL]) (d7 (JE.X5 (zF (iK (ak rfl) (iK (ak rfl) (gK))))) e4) ?_
   exact rfl
  ·intro hq
   exact JB.al rfl
 show JB _ [.e aa,.e bD,.e cJ,.e p1,.emp,.emp,.emp] _ _
 exact JB.ag (JE.X5 (JE.Yc (LM (ak rfl) h8)))
end Pu
namespace Pu
open PySem PySem.Spec PyProof.Rows L2
/-- bJ pairs of bJ frozen dict at d,each a new tuple -/
def XC (d:Addr)(o:Obj)(ws:List bV):It:=
 ⟨λi H=>H d=some (.frz o (cg d ws))/\i<ws.length,λi H x H'=>∃T p,ws[i]? = some p/\x=.ref T/\H T=none/\H'=upd H T (.tup [.ref p.2.1,p.2.2]),λi H=>H d=some (.frz o (cg d ws))/\ws.length<=i⟩
theorem GH {X:Cx}{pins:List (Addr×Obj)}{σ:L2.St}{H:Hp}{s:Shared}{d:Addr}{o:Obj}{ws:List bV}(I:Inv X pins σ H s)(h:H d=some (.frz o (cg d ws))):
  (d == sysModules)=false/\s.heap.get? d=some o/\o.ExactDict/\∃(es:Array DictEntry) (ep:Nat) (xs:List (NestedKey×Addr×Value)),o.data=.dict es ep/\es.size=ws.length/\Paired KX ws xs/\es.toList=xs.map jv:=by
 obtain⟨hd,⟨z,hs,xs,pr,o',es,ep,ho,hx,hdt,he,_⟩,_⟩:=I.hok d _ h
 rw [hd] at ho
 cases ho
 refine⟨hs,hd,hx,es,ep,xs,hdt,?_,pr,he⟩
 have l2:ws.length=xs.length:=Paired.length pr
 have l1:=congrArg KbX he
 rw [Kaf,KbZ] at l1
 omega
section
variable {P:Program}{w:World}{K:PySem.W.Frag}{d:Addr}{o:Obj}{es:Array DictEntry}{ep:Nat}
theorem rK {ws:List bV}{elts:List Expr}{kk:Nat}{tpos:Pos}(it:Addr)(hod:o.data=.dict es ep):
  Turn P w K (.Tuple elts kk tpos) (XC d o ws) [it] it (λi h=>∃ok ov,IsItemIter h it d i ws.length ep ok ov) where
 mem:=by simp
 obj:=λi h st b hb=>by
  have e:b=it:=by simpa using hb
  subst e
  obtain⟨ok,ov,e⟩:=st
  exact⟨_,e,λv z=>nomatch z⟩
 keep:=λi h h' st k=>let ⟨ok,ov,e⟩:=st;⟨ok,ov,k it (by simp) _ e⟩
 item:=by
  intro X hP hw hK hc i pins s σ H E I hf st hg
  subst hP hw hK
  obtain⟨hd,hi⟩:=hg
  obtain⟨hs,hgd,hx,es',ep',xs,hdt,hsz,pr,WG⟩:=GH I hd
  obtain⟨rfl,rfl⟩:=dict_ep hod hdt
  obtain⟨p,hp⟩:∃p,ws[i]? = some p:=⟨ws[i],Kax hi⟩
  obtain⟨q,hq,hk1,hk2,ZL⟩:=paired_get pr hp
  have hi2:i<es'.size:=by omega
  have ZI:es'[i]=jv q:=by
   have h1:es'.toList[i]? = some (jv q):=by rw [WG,Ka4,hq];rfl
   have h2:es'.toList[i]? = some es'[i]:=by rw [Kax (by rw [KbZ];exact hi2),Array.getElem_toList]
   rw [h2] at h1
   exact Option.some.inj h1
  obtain⟨ok,ov,he⟩:=st
  rw [<-hsz] at he
  have hlt:it<s.heap.objs.size:=Heap.lt_size he
  refine DT.nextI he ⟨o,hgd,hx,hod⟩ hi2 λh' ho hT hz hk=>?_
  rw [ZI] at ho hT
  refine⟨_,rfl,wpAny_letOwnedTupleGo_items (s:={ s with heap:=h' }) ho λh'' he' sb=>?_⟩
  have hT2:h''.get? s.heap.objs.size=some { cls:=.type "tuple",data:=.seq #[(jv q).key,(jv q).val] }:=(sb.2 _ (Nat.ne_of_gt hlt)).trans hT
  have r1:RelV (.ref p.2.1) (jv q).key:=by rw [hk2];rfl
  have new:ObjOk X.prog X.w (upd H s.heap.objs.size (.tup [.ref p.2.1,p.2.2])) h'' s.heap.objs.size (.tup [.ref p.2.1,p.2.2]):=
   ⟨by show 2<=sizeLine;decide,[(jv q).key,(jv q).val],.cons r1 (.cons ZL .nil),⟨_,hT2,rfl,_,rfl⟩⟩
  have I1:Inv X pins σ (upd H s.heap.objs.size (.tup [.ref p.2.1,p.2.2])) { s with heap:=h'' }:=
   I.turnedNew (t':=s.toks) (ch:=[it]) (λb ob hb e=>(sb.2 b (by simpa using hb)).trans (hk b ob (by simpa using hb) e)) hf (Kap _) new
  refine⟨.ref s.heap.objs.size,_,I1,rfl,⟨_,p,hp,rfl,I.hok.fresh (Kap _),rfl⟩,⟨(jv q).key,(jv q).val,?_⟩,λb hb=>?_⟩
  ·rw [<-hsz];exact he'
  ·have e:b=it:=by simpa using hb
   rw [e,upd_ne (KcZ hlt)]
   exact (hf it (by simp)).1
 done:=by
  intro X hP hw hK hc i pins s σ H E I hf st hg
  subst hP hw hK
  obtain⟨hd,hi⟩:=hg
  obtain⟨f0,f1,f2,f3,f4,f5⟩:=hf it (by simp)
  obtain⟨hs,hgd,hx,es',ep',xs,hdt,hsz,pr,WG⟩:=GH I hd
  obtain⟨rfl,rfl⟩:=dict_ep hod hdt
  obtain⟨ok,ov,he⟩:=st
  rw [<-hsz] at he
  exact DT.endI (I.ok.hd hc) he ⟨o,hgd,hx,hod⟩ (by omega) λh' eb=>⟨rfl,I.turned (t':=s.toks) (λb ob hb e=>eb b ob hb e) f0 f1 f3 f4 f5⟩
 self:=λA i s Q E st h=>let ⟨_,_,e⟩:=st;PySem.W.kcp_self e h
end
def uE (td:TE):TI:=λσ H R=>td σ H λx H1=>∃d o ws,x=.ref d/\H1 d=some (.frz o (cg d ws))/\R (XC d o ws) H1
section
variable {X:Cx}{e:Expr}{td:TE}{apos cpos:Pos}
theorem w_ {elts:List Expr}{kk:Nat}{tpos:Pos}(he:PE X e td)(hbase:attributeBase e "items" X.env (eval e X.env)=eval e X.env:=by rfl)(hline:(apos.endLine == cpos.line)=true:=by rfl):
  PI X (.Tuple elts kk tpos) (.Call (.Attribute e "items" apos) [] [] cpos) (uE td):=by
 refine⟨λpins s σ H R I h=>?_⟩
 refine wpAny_Call_method (T := "dict") (id := "dict.items") hbase rfl hline F.plainAttrs_dict F.slot_dict_items F.type_dict_items (thn (he.run pins s σ H _ I h) λu s1 ⟨x,H1,I1,rx,d,o,ws,ex,hd,q⟩=>?_)
 subst ex
 obtain rfl:u=Value.ref d:=rx
 obtain⟨hs,hgd,hx,es,ep,xs,hdt,hsz,pr,WG⟩:=GH I1 hd
 have raw:DT.Raw s1.heap d es ep:=⟨o,hgd,hx,hdt⟩
 refine⟨raw.typeIs,λb eb=>by cases eb;exact⟨o,hgd,hx.2.1⟩,?_⟩
 have I2:Inv X pins σ H1 { s1 with heap:=s1.heap.push { cls:=.type "dict_items",data:=.fields #[.ref d] } }:=I1.kept (t':=s1.toks) λb ob q=>Heap.get?_push_of_some _ q
 have fin:wpAny (model X.prog X.w) X.A (pyIter (.ref s1.heap.objs.size)) (PIE X pins σ (.Tuple elts kk tpos) R) X.xe { s1 with heap:=s1.heap.push { cls:=.type "dict_items",data:=.fields #[.ref d] } }:=by
  refine DT.iterI (d:=d) (es:=es) (ep:=ep) ⟨_,Heap.get?_push_size _ rfl,rfl,rfl⟩ (raw.push _) (pi_one (tk:=s1.toks) I2 _ (rK _ hdt) ⟨.none,.none,?_⟩ q)
  rw [<-hsz]
  exact Heap.get?_push_size _ rfl
 show wpAny _ _ (callWith cpos (.builtin "dict.items") [.ref d] [] []) _ X.xe s1
 exact method_meetsIn F.slot_dict_items F.entry_dict_items rfl (PySem.evalArgs_none ⟨rfl,raw.typeIs,F.args_dict_items_1 _,_,DT.meetsItems (es:=es) (ep:=ep) hs,⟨raw,fin⟩⟩)
/-- bJ thing at d is only read from here on -/
def MJ (t:TS):TS:=λD σ H=>∃d u,H d=some u/\Mut (some u)/\∀od,t D σ (upd H d (.frz od u))
theorem HC {st:Stmt}{t:TS}(h:PS X st t):PS X st (MJ t):=⟨λpins s σ H D I hw=>by
 obtain⟨d,u,hd,mu,hw⟩:=hw
 obtain⟨od,I1⟩:=I.lock hd mu
 exact h.run pins s σ _ _ I1 (hw od)⟩
/-- len(d) -/
def E7:List V->Hp->VK->Prop:=λxs H Q=>∃(p:Addr) (ws:List bV),xs=[.ref p]/\H p=some (cg p ws)/\(∀q∈ws,cQ H q.1 q.2.1)/\Q (.int ((ws.length:Nat):Int)) H
theorem vR:CallR X (.builtin "len") E7:=by
 intro pins s σ H xs us Q I r h
 obtain⟨p,ws,rfl,hp,hk,q⟩:=h
 obtain⟨u,rfl,rx⟩:=vals1 r
 obtain rfl:u=.ref p:=rx
 obtain⟨z,hd,ys,rel,dd⟩:=Ln I.hok hp hk
 have hl:ws.length=ys.length:=Paired.length rel
 refine call_len_dictH hd dd (by rw [<-hl];rw [sizeLine_eq] at z;omega) ?_
 rw [<-hl]
 exact⟨.int ((ws.length:Nat):Int),H,I.tok _,⟨_,rfl⟩,q⟩
end
end Pu
namespace Pu
variable [aR]
open PySem PySem.Spec PyProof.Rows L2 Enc
structure o7 (i:Nat)(b:SS):Prop where
 only:∀{ρ:List Slot} {s:ae} {o:Out},b.ev ρ s=some o->∃ρ' s',o=.nx ρ' s'
 ok:∀(K:Frag) {sk:Option Addr} {F0 H0 F H:Hp} {σ:L2.St} {ρ ρ':List Slot} {aj:List (List Addr)} {s s':ae} {D:Ends},Wd sk F0 H0 F H σ ρ aj s->b.ev ρ s=some (.nx ρ' s') ->
  (∀F' H' σ' aF,Same F F'->σ'[i]? = σ[i]?->Wd sk F0 H0 F' H' σ' ρ' aF s'->D.nx σ' H')->b.t K D σ H
theorem o7.of {i:Nat}{b:SS}(only:∀{ρ:List Slot} {s:ae} {o:Out},b.ev ρ s=some o->∃ρ' s',o=.nx ρ' s')(h:∀(K:Frag) (D:Ends) (σ:L2.St) (H:Hp),b.t K { D with nx:=λσ' H'=>σ'[i]? = σ[i]?->D.nx σ' H' } σ H->b.t K D σ H):o7 i b:=
 ⟨only,λK {sk F0 H0 F H σ ρ ρ' aj s s' D} w he q=>h K D σ H (b.ok K w he (show iY _ sk F0 H0 F (.nx ρ' s') fromλF' H' σ' aF e w' g=>q F' H' σ' aF e g w'))⟩
theorem o7.next {i:Nat}:o7 i SS.ag:=⟨λh=>by cases h;exact⟨_,_,rfl⟩,λK {sk F0 H0 F H σ ρ ρ' aj s s' D} w he q=>by
 cases he
 exact q F H σ aj (Same.refl _) rfl w⟩
theorem o7.seq {i:Nat}{a b:SS}(ha:o7 i a)(hb:o7 i b):o7 i (SS.ab a b):=by
 refine⟨λ{ρ s o} h=>?_,λK {sk F0 H0 F H σ ρ ρ' aj s s' D} w he q=>?_⟩
 ·obtain⟨o1,h1,h2⟩:=aI h
  obtain⟨aB,s1,rfl⟩:=ha.only h1
  exact hb.only h2
 ·obtain⟨o1,h1,h2⟩:=aI he
  obtain⟨aB,s1,rfl⟩:=ha.only h1
  exact ha.ok K w h1 λF1 H1 σ1 lW e1 g1 w1=>hb.ok K w1 h2 λF2 H2 σ2 dB e2 g2 w2=>q F2 H2 σ2 dB (e1.trans e2) (g2.trans g1) w2
theorem yw {te:TE}{i j:Nat}(hj:j≠i){D:Ends}{σ:L2.St}{H:Hp}(h:tAsg te (gName j) { D with nx:=λσ' H'=>σ'[i]? = σ[i]?->D.nx σ' H' } σ H):tAsg te (gName j) D σ H:=by
 have E:(λ(x:V) (H1:Hp)=>((σ.set j (some x))[i]? = σ[i]?->D.nx (σ.set j (some x)) H1))=λx H1=>D.nx (σ.set j (some x)) H1:=funext λx=>funext λH1=>propext ⟨λh=>h (List.getElem?_set_ne hj),λh _=>h⟩
 have h:te σ H (λ(x:V) (H1:Hp)=>((σ.set j (some x))[i]? = σ[i]?->D.nx (σ.set j (some x)) H1)):=h
 rw [E] at h
 exact h
theorem o7.append {i j:Nat}{e:SE}:o7 i (EL j e):=o7.of (λ{ρ s o} h=>by
 unfold EL at h
 dsimp only at h
 split at h
 ·obtain⟨x,_,h2⟩:=aI h
  split at h2
  ·cases h2;exact⟨_,_,rfl⟩
  ·cases h2
 ·cases h) λK D σ H h=>by
 have E:(λ(_:V) (H1:Hp)=>(σ[i]? = σ[i]?->D.nx σ H1))=λ_ H1=>D.nx σ H1:=funext λx=>funext λH1=>propext ⟨λh=>h rfl,λh _=>h⟩
 have h:(tBM K "list" rAppend (tVar j) (tCons (e.t K) tNil)) σ H (λ(_:V) (H1:Hp)=>(σ[i]? = σ[i]?->D.nx σ H1)):=h
 rw [E] at h
 exact h
theorem o7.uh {i j:Nat}{k v:SE}:o7 i (WJ j k v):=o7.of (λ{ρ s o} h=>by
 obtain⟨x,_,h2⟩:=aI h
 split at h2
 ·obtain⟨y,_,h4⟩:=aI h2
  split at h4
  ·split at h4
   ·cases h4;exact⟨_,_,rfl⟩
   ·cases h4
  ·cases h4
 ·cases h2) λK D σ H h=>by
 have E:∀H1:Hp,(σ[i]? = σ[i]?->D.nx σ H1)=D.nx σ H1:=λH1=>propext ⟨λh=>h rfl,λh _=>h⟩
 show Jt (tVar j) (k.t K) (v.t K) D σ H
 have h:Jt (tVar j) (k.t K) (v.t K) { D with nx:=λσ' H'=>σ'[i]? = σ[i]?->D.nx σ' H' } σ H:=h
 unfold Jt at h ⊢
 simp only [E,forall_const] at h
 exact h
end Pu
namespace Pu
variable [aR]
open PySem PySem.Spec PyProof.Rows L2 Enc
theorem Ao {sk:Option Addr}{F H F' H':Hp}{x:Option V}{sl:Slot}{fp:List Addr}(s:Same F F')(n:Ht sl=true)(h:uq sk F H x sl fp):uq sk F' H' x sl fp:=by
 cases sl with
 |emp=>exact h
 |dat d=>obtain⟨e,v,as,e1,r⟩:=h;exact⟨e,v,as,e1,r.mono s⟩
 |bC=>exact h
 |fix v=>exact h
 |fn f c q=>obtain⟨e,e1,r⟩:=h;exact⟨e,e1,s _ _ r⟩
 |ins C nm ds=>obtain⟨e,a,dx,vs,as,e1,e2,e3,r⟩:=h;exact⟨e,a,dx,vs,as,e1,s _ _ e2,e3,r.mono s⟩
 |own d=>cases n
 |aO ds o=>cases n
 |cT f=>cases n
 |eV f=>cases n
 |iA es=>obtain⟨e,a,od,ws,e1,e2,r⟩:=h;exact⟨e,a,od,ws,e1,s _ _ e2,IX s r⟩
 |bE es=>cases n
 |rR d=>cases n
 |obj C a nm ds=>cases n
 |Fc o ks ds f=>cases n
 |qM B C a nm ds=>cases n
 |qq B C nm ds=>cases n
theorem wU {sk:Option Addr}{F H F' H':Hp}{σ:L2.St}{ρ:List Slot}{aj:List (List Addr)}(s:Same F F')(h:Slots sk F H σ ρ aj)(n:ρ.all Ht=true):Slots sk F' H' σ ρ aj:=by
 induction h with
 |nil=>exact .nil
 |cons h r ih=>
  rw [Ka1,Ka8] at n
  exact .cons (Ao s n.1 h) (ih n.2)
theorem qb {a:Addr}:∀{l:List (List Addr)} {i:Nat},l.flatten=[]->(l.set i [a]).flatten.Sublist [a]
 |[],i,_=>by simp
 |x::l,0,h=>by
  rw [Kar] at h
  obtain⟨h1,h2⟩:=Kcq.mp h
  rw [KcM,Kar,h2,KaC]
  exact Ka0.refl _
 |x::l,i+1,h=>by
  rw [Kar] at h
  obtain⟨h1,h2⟩:=Kcq.mp h
  rw [KcN,Kar,h1,Ka5]
  exact qb h2
end Pu
namespace Pu
variable [aR]
open PySem PySem.Spec PyProof.Rows L2 Enc
theorem sN {prog:Program}{w:World}{K:Type}[DecidableEq K]{knd:HeapKind prog w K}{A:Around}{E:Value->Shared->Prop}{s:Shared}{env:Env}{keys:List (Option Expr)}{values:List Expr}{pos:Pos}{pairs:List (Sem Value×Sem Value)}{Q:Value->Shared->Prop}(hu:knd.room A)
  (hshape:(evalEachOpt keys env).zip ((evalEach values env).map λv=>do let x <-v;standAt pos;pure x)=pairs.map λp=>(some p.1,p.2)) (h0:pairs≠[]) (hlen:pairs.length<=15)
  (h:wpAny (model prog w) A (evalPairs pairs) (λvs s₁=>∃ps,CarriesH knd s₁.heap vs ps/\s₁.heap.DictOfH knd s.heap.objs.size [] /\
   ∀h' tk,h'.DictOfH knd s.heap.objs.size (storedAllH [] ps)->Heap.SameBut s.heap.objs.size s₁.heap h'->Q (.ref s.heap.objs.size) { s₁ with heap:=h',toks:=tk }) E
   { s with heap:=s.heap.push { cls:=.type "dict",data:=.dict #[] } }):
  wpAny (model prog w) A (eval (.Dict keys values pos) env) Q E s:=by
 rw [arm_eval_Dict,hshape,dictDisplay_pairs pairs h0 (by omega)]
 exact wpAny_bind (wpAny_standAt (wpAny_bind (wpAny_subDictH (knd:=knd) (Q:=λd s'=>wpAny (model prog w) A (pure (Value.ref d)) Q E s') hu hlen
  (wpAny_mono h (λvs s₁ h₁=>by obtain⟨ps,hc,hm,hq⟩:=h₁;exact⟨ps,hc,hm,λh' tk a b=>wpAny_pure (hq h' tk a b)⟩) λ_ _ e=>e))))
def Px (tk tv:TE):TE:=λσ H Q=>∀p,H p=none->tk σ (upd H p (cg p [])) λx H1=>tv σ H1 λv H2=>∃b k,x=.ref b/\H2 p=some (cg p [])/\cQ H2 k b/\Q (.ref p) (upd H2 p (cg p [(k,b,v)]))
theorem w6 {X:Cx}{pos:Pos}{k v:Expr}{tk tv:TE}(hu:X.A.units+65<cLine)(hk:PE X k tk)(hv:PE X v tv):PE X (.Dict [some k] [v] pos) (Px tk tv):=by
 refine⟨λpins s σ H Q I q=>?_⟩
 have hn:=I.hok.fresh (Kap s.heap.objs.size)
 have I1:=I.laid (a:=s.heap.objs.size) (o:=cg s.heap.objs.size []) (h':=s.heap.push { cls:=.type "dict",data:=.dict #[] }) (t':=s.toks) (λ_ _ q=>Heap.get?_push_of_some _ q) (Kap _) (mO s.heap I.big)
 refine sN (knd:=nestedKind X.prog X.w) (show X.A.units+8<cLine by omega) (pairs:=pairTrees [some k] [v] X.env pos) (zip_pairTrees [some k] [v] X.env pos rfl rfl) (by unfold pairTrees;exact nofun) (by unfold pairTrees;exact (by decide:1<=15)) (pairTrees_cons_walk (thn (hk.run pins _ σ _ _ I1 (q _ hn)) λu s1 ⟨x,H1,I2,rx,q1⟩=>thn (hv.run pins s1 σ H1 _ I2 q1) λw2 s2 ⟨y,H2,I3,ry,b,kk,ex,e,hb,q2⟩=>pairTrees_nil_walk ?_))
 subst ex
 obtain rfl:u=Value.ref b:=rx
 obtain⟨z,hd,xs0,r0,dd⟩:=Ln I3.hok e (λp hp=>nomatch hp)
 cases r0
 refine⟨[(kk,b,w2)],⟨rfl,rfl,Li I3.hok hb,True.intro⟩,dd,λh' tk' dd' hs=>⟨.ref s.heap.objs.size,_,?_,rfl,q2⟩⟩
 obtain⟨o,es,ep,h1,h2,h3,h4,_,h5⟩:=dd'
 have he:storedAllH [] [(kk,b,w2)]=[(kk,b,w2)]:=rfl
 rw [he] at h4 h5
 have fn:∀x∈[(kk,b,w2)],jY x.1:=λx hx=>by rw [Kak.mp hx];exact hb.CA
 exact d_write I3 (by rw [e];exact True.intro) hs ⟨o,h1⟩ (Fq.ok ⟨by rw [sizeLine_eq];show 1<=_;omega,hd,[(kk,b,w2)],.cons ⟨rfl,rfl,ry⟩ .nil,o,es,ep,h1,h2,h3,by rw [h4];exact (Wo fn).symm,h5⟩)
structure Ti where
 l:List Int
deriving DecidableEq
instance:Inhabited Ti:=⟨⟨[]⟩⟩
instance:Enc Ti:=⟨λt=>.tuple (t.l.map .int)⟩
abbrev Lk:=T3 Ti Ti Int
theorem kY:∀ns:List Int,qK (ns.map .int)=some ns
 |[]=>rfl
 |n::ns=>by
  rw [Kag]
  unfold qK
  rw [kY ns];rfl
theorem O8:∀{xs ys:List Int},xs.map NestedKey.num=ys.map NestedKey.num->xs=ys
 |[],[],_=>rfl
 |[],_::_,h=>by cases h
 |_::_,[],h=>by cases h
 |x::xs,y::ys,h=>by
  rw [Kag,Kag] at h
  injection h with h1 h2
  injection h1 with h1
  rw [h1,O8 h2]
instance:bN Lk:=⟨λt=>.tup [.tup (t.x.l.map .num),.tup (t.y.l.map .num),.num t.z],λt=>by
 show (cj [.tuple (t.x.l.map .int),.tuple (t.y.l.map .int),.int t.z]).map NestedKey.tup=_
 unfold cj cj cj cj wJ
 simp only [kY,Aw]
 rfl,λx y h=>by
 obtain⟨x1,x2,x3⟩:=x
 obtain⟨y1,y2,y3⟩:=y
 injection h with h
 injection h with h1 h
 injection h with h2 h
 injection h with h3 h
 injection h1 with h1
 injection h2 with h2
 injection h3 with h3
 obtain⟨l1⟩:=x1
 obtain⟨l2⟩:=y1
 obtain⟨l3⟩:=x2
 obtain⟨l4⟩:=y2
 have e1:l1=l2:=O8 h1
 have e2:l3=l4:=O8 h2
 subst e1 e2
 have e3:x3=y3:=h3
 rw [e3]⟩
section
variable {ρ aB cI:List Slot}{s s1 s2 s3:ae}{e k v:SE}{p:SP}{i:Nat}{w w1 w2:Bool}
theorem JE.MP {xs:List Int}(h:JE e ρ s xs s1 w1):JE (SE.MO e) ρ s (Ti.mk xs) s1 true:=by
 obtain⟨_,h,_⟩:=h
 refine⟨eR (xs.map PyData.int),?_,λ_=>Tn xs⟩
 show (e.ev ρ s).bind _=_
 rw [h];rfl
end
end Pu
namespace Pu
variable [aR]
open PySem PySem.Spec PyProof.Rows L2 Enc
theorem o7.set {i j:Nat}{e:SE}(hj:j≠i):o7 i (SS.set j e):=o7.of (λh=>by
 obtain⟨x,_,h2⟩:=aI h
 cases h2;exact⟨_,_,rfl⟩) λK D σ H h=>yw hj h
end Pu
namespace Pu
variable [aR]
open PySem PySem.Spec PyProof.Rows L2 Enc
abbrev xy:=NestedKey×PyData×PyData
def di (es:List xy)(j:NestedKey):Option PyData:=(es.find? λe=>decide (e.1=j)).map λe=>e.2.2
def qV (es:List xy)(j:NestedKey)(kd vd:PyData):List xy:=if (di es j).isSome then es.map (λe=>if e.1=j then (e.1,e.2.1,vd) else e) else es++[(j,kd,vd)]
theorem kT {e:xy}{es:List xy}{j:NestedKey}:di (e::es) j=if e.1=j then some e.2.2 else di es j:=by
 unfold di
 rw [KbU]
 by_cases c:e.1=j
 ·rw [if_pos c,decide_eq_true c];rfl
 ·rw [if_neg c,decide_eq_false c]
theorem Ve {F:Hp}{ws:List bV}{es:List xy}(h:Paired (gv F) ws es)(j:NestedKey):cS F (cH ws j) (di es j):=by
 induction h with
 |nil=>exact True.intro
 |@cons p e ps es h t ih=>
  rw [B6,kT]
  obtain⟨h1,_,_,as,r⟩:=h
  by_cases c:p.1=j
  ·rw [if_pos c,if_pos (h1.symm.trans c)];exact⟨as,r⟩
  ·rw [if_neg c,if_neg (λz=>c (h1.trans z))];exact ih
theorem OW {F:Hp}{ws:List bV}{es:List xy}(h:Paired (gv F) ws es):∀p∈ws,cQ F p.1 p.2.1:=by
 induction h with
 |nil=>intro p hp;exact nomatch hp
 |@cons p e ps es h t ih=>
  intro q hq
  rcases Kal.mp hq with z|z
  ·rw [z];exact h.2.1
  ·exact ih q z
theorem zc {F:Hp}{ws:List bV}{es:List xy}(h:Paired (gv F) ws es){i:Nat}{e:xy}(he:es[i]? = some e):∃p,ws[i]? = some p/\gv F p e:=by
 induction h generalizing i with
 |nil=>cases he
 |@cons p e' ps es h t ih=>
  cases i with
  |zero=>cases he;exact⟨p,rfl,h⟩
  |succ i=>exact ih he
theorem qP {α β:Type}{R:α->β->Prop}{xs:List α}{ys:List β}(h:Paired R xs ys){x:α}{y:β}(r:R x y):Paired R (xs++[x]) (ys++[y]):=by
 induction h with
 |nil=>exact .cons r .nil
 |cons h _ ih=>exact .cons h ih
theorem zd {F:Hp}{ws:List bV}{es:List xy}(h:Paired (gv F) ws es){j:NestedKey}{b:Addr}{kd vd:PyData}{v:V}{as bs:List Addr}(hb:cQ F j b)(rk:Rp F (.ref b) kd as)(rv:Rp F v vd bs):Paired (gv F) (fF ws j b v) (qV es j kd vd):=by
 have e:=Th (Ve h j)
 unfold fF qV
 rw [e]
 by_cases c:(di es j).isSome=true
 ·rw [if_pos c,if_pos c]
  clear c e
  induction h with
  |nil=>exact .nil
  |@cons p e ps es h t ih=>
   rw [Kag,Kag]
   refine .cons ?_ ih
   obtain⟨h1,h2,h3,h4⟩:=h
   by_cases c:p.1=j
   ·rw [if_pos c,if_pos (h1.symm.trans c)];exact⟨h1,h2,h3,bs,rv⟩
   ·rw [if_neg c,if_neg (λz=>c (h1.trans z))];exact⟨h1,h2,h3,h4⟩
 ·rw [if_neg c,if_neg c]
  exact qP h ⟨rfl,hb,⟨as,rk⟩,bs,rv⟩
theorem Wd.putK {sk:Option Addr}{F0 H0 F H:Hp}{σ:L2.St}{ρ:List Slot}{aj:List (List Addr)}{s:ae}{i:Nat}{a:Addr}{gu:List bV}{es:List xy}(w:Wd sk F0 H0 F H σ ρ aj s)(e1:σ[i]? = some (some (.ref a)))(e2:aj[i]? = some [a])(hF:F a=none)
  (hk:Paired (gv F) gu es) {MU:List bV} (hP:H a=some (cg a MU)):Wd sk F0 H0 F (L2.upd H a (cg a gu)) σ (ρ.set i (.bE es)) aj s:=by
 have fa:a∈aj.flatten:=KaB.mpr ⟨_,Kat e2,Kaa⟩
 obtain⟨a0,a1,a2⟩:=w.bR a fa
 obtain⟨n1,n2⟩:=yP w.dj e2
 have n3:=Kaj.mp n1
 have na:a∉(aj.set i []).flatten:=λm=>n3.2.2 a Kaa a m rfl
 have st':Step sk F0 H0 F (L2.upd H a (cg a gu)):=by
  refine⟨w.st.sub,λb u e=>?_,λb u hb e hs=>?_,λb h=>?_,w.st.new⟩
  ·rw [upd_ne (λz=>by rw [z,hF] at e;cases e)];exact w.st.sub' b u e
  ·rw [upd_ne (λz=>by rw [z,a0] at e;cases e)];exact w.st.fr b u hb e
  ·by_cases z:b=a
   ·rw [z,upd_same];exact nofun
   ·rw [upd_ne z];exact w.st.dm b h
 have dD:aZ sk F (L2.upd H a (cg a gu)) s:=⟨λb e=>⟨by rw [upd_ne (λz=>a2 (by rw [<-z];exact e))];exact (w.aW b e).1,(w.aW b e).2⟩,Gq w.aW.tab hP OS⟩
 have sl:=(w.slots.drop (i:=i)).tK (a:=a) (o:=cg a gu) na
 have sl2:=sl.fill (sl:=.bE es) (fp:=[a]) e1 ⟨a,gu,rfl,upd_same,hF,hk,rfl⟩
 rw [KaK,KaK,KZ e2] at sl2
 refine⟨st',dD,sl2,w.dj,λb m=>?_⟩
 have:=w.bR b m
 refine⟨this.1,?_,this.2.2⟩
 by_cases z:b=a
 ·rw [z,upd_same];exact nofun
 ·rw [upd_ne z];exact this.2.1
/-- d[k]=v -/
def WW (i:Nat)(k v:SE):SS where
 t:=λK=>Jt (tVar i) (k.t K) (v.t K)
 ev:=λρ s=>(v.ev ρ s).bind λx=>match ρ[i]? with
  |some (.bE f)=>(k.ev ρ x.2).bind λy=>match c9 y.1.1 with
   |some j=>if f.length<100000 then some (.nx (ρ.set i (.bE (qV f j y.1.1 x.1.1))) y.2) else none
   |none=>none
  |_=>none
 ok:=by
  intro K sk F0 H0 F H σ ρ aj s out D w h q
  obtain⟨⟨x,s1⟩,h1,h2⟩:=aI h
  dsimp only at h2
  split at h2
  ·rename_i f cF
   obtain⟨⟨⟨y,fl⟩,s2⟩,h3,h4⟩:=aI h2
   dsimp only at h4
   split at h4
   ·rename_i j ej
    split at h4
    ·rename_i hl
     cases h4
     refine v.ok K w.pre h1 λvv F1 H1 as st1 k1 r1 f1=>?_
     have w1:=w.next st1 k1
     obtain⟨xv,fp,e1,e2,a,ws,rfl,hH,hF,hr,rfl⟩:=w1.slots.get cF
     refine⟨.ref a,e1,?_⟩
     refine k.ok K w1.pre h3 λkv F2 H2 bs st2 k2 r2 f2=>?_
     have w2:=w1.next st2 k2
     obtain⟨Yo,XQ,EE,KS,a2,vm,ez,m7,CN,hr2,rfl⟩:=w2.slots.get cF
     rw [e1] at EE
     have K8:a2=a:=by
      have:=Option.some.inj EE
      subst this
      have:=Option.some.inj ez
      injection this with this
      exact this.symm
     subst K8
     obtain⟨b,rfl,hb⟩:=r2.c9 ej
     have BI:vm.length=f.length:=Paired.length hr2
     refine⟨a2,b,vm,j,rfl,rfl,m7,λp hp=>(OW hr2 p hp).mono st2.sub',hb.mono st2.sub',by rw [BI];exact Ka7 hl (by decide),?_⟩
     exact q F2 _ σ aj (st1.sub.trans st2.sub) (w2.putK (gu:=fF vm j b vv) (es:=qV f j y x.1) e1 KS CN (zd hr2 hb r2 (r1.mono st2.sub)) m7)
    ·cases h4
   ·cases h4
  ·cases h2
/-- k not in d -/
def Qh (i:Nat)(k:SE):SE where
 t:=λK=>U1 (k.t K) (tVar i)
 ev:=λρ s=>match ρ[i]? with
  |some (.bE f)=>(k.ev ρ s).bind λy=>match c9 y.1.1 with
   |some j=>some ((.bool (!(di f j).isSome),true),y.2)
   |none=>none
  |_=>none
 ok:=by
  intro K sk F H σ ρ aj s vl s' Q p h q
  dsimp only at h
  split at h
  ·rename_i f cF
   obtain⟨⟨⟨y,fl⟩,s2⟩,h3,h4⟩:=aI h
   dsimp only at h4
   split at h4
   ·rename_i j ej
    cases h4
    obtain⟨xv,fp,e1,e2,a,ws,rfl,hH,hF,hr,rfl⟩:=p.slots.get cF
    refine k.ok K p h3 λkv F2 H2 bs st2 k2 r2 f2=>?_
    have fa:a∈aj.flatten:=KaB.mpr ⟨_,Kat e2,Kaa⟩
    have m7:H2 a=some (cg a ws):=st2.fr a _ (λz=>p.jW a z fa) hH
    obtain⟨b,rfl,hb⟩:=r2.c9 ej
    refine⟨.ref a,e1,a,b,ws,j,rfl,rfl,m7,λp hp=>((OW hr p hp).mono st2.sub).mono st2.sub',hb.mono st2.sub',?_⟩
    rw [Th (Ve hr j)]
    exact q _ F2 H2 [] st2 k2 (.bl _) .nil
   ·cases h4
  ·cases h
/-- d[k] -/
def P8 (i:Nat)(k:SE):SE where
 t:=λK=>Bc (tVar i) (k.t K)
 ev:=λρ s=>match ρ[i]? with
  |some (.bE f)=>(k.ev ρ s).bind λy=>match c9 y.1.1 with
   |some j=>(di f j).map λd=>((d,false),y.2)
   |none=>none
  |_=>none
 ok:=by
  intro K sk F H σ ρ aj s vl s' Q p h q
  dsimp only at h
  split at h
  ·rename_i f cF
   obtain⟨⟨⟨y,fl⟩,s2⟩,h3,h4⟩:=aI h
   dsimp only at h4
   split at h4
   ·rename_i j ej
    obtain⟨d,h5,h6⟩:=Kam.mp h4
    cases h6
    obtain⟨xv,fp,e1,e2,a,ws,rfl,hH,hF,hr,rfl⟩:=p.slots.get cF
    refine⟨.ref a,e1,?_⟩
    refine k.ok K p h3 λkv F2 H2 bs st2 k2 r2 f2=>?_
    have hz:=Ve hr j
    rw [h5] at hz
    obtain⟨v,as,hv,rv⟩:=US hz
    have fa:a∈aj.flatten:=KaB.mpr ⟨_,Kat e2,Kaa⟩
    have m7:H2 a=some (cg a ws):=st2.fr a _ (λz=>p.jW a z fa) hH
    obtain⟨b,rfl,hb⟩:=r2.c9 ej
    exact⟨a,b,ws,j,v,rfl,rfl,m7,λp hp=>((OW hr p hp).mono st2.sub).mono st2.sub',hb.mono st2.sub',hv,q v F2 H2 as st2 k2 (rv.mono st2.sub) .no⟩
   ·cases h4
  ·cases h
/-- len(d) -/
def SE.C4 (i:Nat):SE where
 t:=λK=>tCB E7 (tCons (tVar i) tNil)
 ev:=λρ s=>match ρ[i]? with
  |some (.bE f)=>some ((.int f.length,true),s)
  |_=>none
 ok:=by
  intro K sk F H σ ρ aj s vl s' Q p h q
  dsimp only at h
  split at h
  ·rename_i f e
   cases h
   obtain⟨x,fp,e1,e2,a,ws,rfl,hH,hF,hr,rfl⟩:=p.slots.get e
   refine⟨.ref a,e1,a,ws,rfl,hH,λz hz=>(OW hr z hz).mono p.sub,?_⟩
   rw [show ws.length=f.length from Paired.length hr]
   exact q _ F H [] (.refl p.sub) p.aW (.int _) .nil
  ·cases h
/-- x={} among bJ targets -/
def SP.Hu (i:Nat)(r:SP):SP where
 t:=λK=>tCons PN (r.t K)
 ts:=i::r.ts
 ev:=λρ cf s=>r.ev ρ (cf.set i (.bE [])) s
 ok:=by
  intro K sk F0 H0 F H σ nQ ρ cf iw aj cu s s' Q p w h q a na
  have sr:aY F H F (L2.upd H a (cg a [])):=.raw (sk:=sk) w.st.sub' na
  have w1:=w.next (sr.any (sk:=sk)) (w.aW.keep sr)
  have Av:H0 a=none:=by
   cases q:H0 a with
   |none=>rfl
   |some u=>exact absurd na (w.st.dm a (by rw [q];exact nofun))
  have nd:([a]++cu.flatten).Nodup:=Kaj.mpr ⟨by simp,w.dj,λb mb c mc z=>by
   have:b=a:=by simpa using mb
   subst z
   exact (w.bR b mc).2.1 (by rw [this];exact na)⟩
  obtain⟨m1,m2⟩:=vD (i:=i) nd
  have wa:Wd sk F0 H0 F (L2.upd H a (cg a [])) (nQ.set i (some (.ref a))) (cf.set i (.bE [])) (cu.set i [a]) s:=by
   refine⟨w1.st,w1.aW,w1.slots.set ⟨a,[],rfl,upd_same,w.st.sub'.free na,.nil,rfl⟩,m1,λb m=>?_⟩
   rcases m2 b m with z|z
   ·have:b=a:=by simpa using z
    subst this
    exact⟨Av,by rw [upd_same];exact nofun,gb w.aW na⟩
   ·exact w1.bR b z
  refine r.ok K (p.next (sr.any (sk:=sk)) (p.aW.keep sr)) wa h λvs F2 H2 fv sF w2 hl=>?_
  exact q (.ref a::vs) F2 H2 fv sF w2 (by rw [Kad,Kad,hl])
/-- x={} -/
def SS.Dg (i:Nat):SS where
 t:=λ_=>tAsg PN (gName i)
 ev:=λρ s=>some (.nx (ρ.set i (.bE [])) s)
 ok:=by
  intro K sk F0 H0 F H σ ρ aj s out D w h q a na
  cases h
  have:=(SP.Hu i SP.nil).ok K (Q:=λvs H'=>∃v,vs=[v]/\D.nx (σ.set i (some v)) H') w.pre w rfl λvs F1 H1 fv sF w1 hl=>by
   match vs,hl with
   |[v],_=>exact⟨v,rfl,q F1 H1 _ fv sF w1⟩
  obtain⟨v,e,z⟩:=this a na
  cases e
  exact z
/-- x={k: v} among bJ targets -/
def SP.sY (i:Nat)(k v:SE)(r:SP):SP where
 t:=λK=>tCons (Px (k.t K) (v.t K)) (r.t K)
 ts:=i::r.ts
 ev:=λρ cf s=>(k.ev ρ s).bind λx=>(v.ev ρ x.2).bind λy=>match c9 x.1.1 with
  |some j=>r.ev ρ (cf.set i (.bE [(j,x.1.1,y.1.1)])) y.2
  |none=>none
 ok:=by
  intro K sk F0 H0 F H σ nQ ρ cf iw aj cu s s' Q p w h q a na
  obtain⟨⟨⟨x,fx⟩,s1⟩,h1,h⟩:=aI h
  obtain⟨⟨⟨y,fy⟩,s2⟩,h2,h⟩:=aI h
  dsimp only at h
  split at h
  ·rename_i j ej
   have sr:aY F H F (L2.upd H a (cg a [])):=.raw (sk:=sk) w.st.sub' na
   have p1:=p.next (sr.any (sk:=sk)) (p.aW.keep sr)
   refine k.ok K p1 h1 λvk F1 H1 as1 st1 k1 r1 g1=>?_
   have p2:=p1.next st1 k1
   refine v.ok K p2 h2 λvv F2 H2 as2 st2 k2 r2 g2=>?_
   obtain⟨b,rfl,hb⟩:=r1.c9 ej
   have np:sk≠some a:=gb w.aW na
   have tI:=st1.trans st2
   have CO:H2 a=some (cg a []):=tI.fr a _ np upd_same
   have nF:F a=none:=w.st.sub'.free na
   have Xc:F2 a=none:=by
    cases z:F2 a with
    |none=>rfl
    |some u=>
     rcases tI.new a u z with z|z
     ·rw [nF] at z;cases z
     ·rw [upd_same] at z;cases z
   refine⟨b,j,rfl,CO,hb.mono (st2.sub.trans st2.sub'),?_⟩
   have st:Step sk F H F2 (L2.upd H2 a (cg a [(j,b,vv)])):=by
    refine⟨tI.sub,λc u e=>?_,λc o hc e hs=>?_,λc e=>?_,λc u e=>?_⟩
    ·rw [upd_ne (λz=>by rw [z,Xc] at e;cases e)];exact tI.sub' c u e
    ·have z:c≠a:=λz=>by rw [z,na] at e;cases e
     rw [upd_ne z]
     exact tI.fr c o hc (by rw [upd_ne z];exact e) hs
    ·have z:c≠a:=λz=>e (by rw [z];exact na)
     rw [upd_ne z]
     exact tI.dm c (by rw [upd_ne z];exact e)
    ·rcases tI.new c u e with z|z
     ·exact .inl z
     ·have zz:c≠a:=λzz=>by rw [zz,Xc] at e;cases e
      rw [upd_ne zz] at z
      exact .inr z
   have dD:aZ sk F2 (L2.upd H2 a (cg a [(j,b,vv)])) s2:=⟨λc e=>⟨by rw [upd_ne (λz=>np (by rw [<-z];exact e))];exact (k2 c e).1,(k2 c e).2⟩,Gq k2.tab CO OS⟩
   have w1:=w.next st dD
   have Av:H0 a=none:=by
    cases q:H0 a with
    |none=>rfl
    |some u=>exact absurd na (w.st.dm a (by rw [q];exact nofun))
   have nd:([a]++cu.flatten).Nodup:=Kaj.mpr ⟨by simp,w.dj,λb mb c mc z=>by
    have:b=a:=by simpa using mb
    subst z
    exact (w.bR b mc).2.1 (by rw [this];exact na)⟩
   obtain⟨m1,m2⟩:=vD (i:=i) nd
   have wa:Wd sk F0 H0 F2 (L2.upd H2 a (cg a [(j,b,vv)])) (nQ.set i (some (.ref a))) (cf.set i (.bE [(j,x,y)])) (cu.set i [a]) s2:=by
    refine⟨w1.st,w1.aW,w1.slots.set ⟨a,[(j,b,vv)],rfl,upd_same,Xc,.cons ⟨rfl,hb.mono st2.sub,⟨as1,r1.mono st2.sub⟩,as2,r2⟩ .nil,rfl⟩,m1,λb m=>?_⟩
    rcases m2 b m with z|z
    ·have:b=a:=by simpa using z
     subst this
     exact⟨Av,by rw [upd_same];exact nofun,np⟩
    ·exact w1.bR b z
   refine r.ok K (p.next st dD) wa h λvs F3 H3 fv sF w2 hl=>?_
   exact q (.ref a::vs) F3 H3 fv (st.sub.trans sF) w2 (by rw [Kad,Kad,hl])
  ·cases h
/-- x={k: v} -/
def SS.sY (i:Nat)(k v:SE):SS where
 t:=λK=>tAsg (Px (k.t K) (v.t K)) (gName i)
 ev:=λρ s=>((SP.sY i k v SP.nil).ev ρ ρ s).map λx=>.nx x.1 x.2
 ok:=by
  intro K sk F0 H0 F H σ ρ aj s out D w h q
  obtain⟨⟨ρ',s'⟩,h1,rfl⟩:=Kam.mp h
  have key:=(SP.sY i k v SP.nil).ok K (Q:=λvs H'=>∃v,vs=[v]/\D.nx (σ.set i (some v)) H') w.pre w h1 λvs F1 H1 fv sF w1 hl=>by
   match vs,hl with
   |[v],_=>exact⟨v,rfl,q F1 H1 _ fv sF w1⟩
  have E:(λ(x:V) (H':Hp)=>∃v,[x]=[v]/\D.nx (σ.set i (some v)) H')=λx H'=>D.nx (σ.set i (some x)) H':=funext λx=>funext λH'=>propext ⟨λ⟨v,e,z⟩=>by cases e;exact z,λz=>⟨x,rfl,z⟩⟩
  have key:Px (k.t K) (v.t K) σ H (λ(x:V) (H':Hp)=>∃v,[x]=[v]/\D.nx (σ.set i (some v)) H'):=key
  rw [E] at key
  exact key
/-- bJ dict is only read from here on -/
def SS.ap (i:Nat)(b:SS):SS where
 t:=λK=>MJ (b.t K)
 ev:=λρ s=>match ρ[i]? with
  |some (.bE es)=>b.ev (ρ.set i (.iA es)) s
  |_=>none
 ok:=by
  intro K sk F0 H0 F H σ ρ aj s out D w h q
  dsimp only at h
  split at h
  ·rename_i es cF
   obtain⟨x,fp,e1,e2,a,ws,rfl,hH,hF,hr,rfl⟩:=w.slots.get cF
   have fa:a∈aj.flatten:=KaB.mpr ⟨_,Kat e2,Kaa⟩
   obtain⟨a0,a1,a2⟩:=w.bR a fa
   obtain⟨n1,n2⟩:=yP w.dj e2
   have n3:=Kaj.mp n1
   have na:a∉(aj.set i []).flatten:=λm=>n3.2.2 a Kaa a m rfl
   refine⟨a,cg a ws,hH,True.intro,λod=>?_⟩
   have sF:Same F (L2.upd F a (.frz od (cg a ws))):=λb u e=>by rw [upd_ne (ne_of_none e hF)];exact e
   have st':Step sk F0 H0 (L2.upd F a (.frz od (cg a ws))) (L2.upd H a (.frz od (cg a ws))):=by
    refine⟨w.st.sub.trans sF,λb u e=>?_,λb o hb e hs=>?_,λb h=>?_,λb u e=>?_⟩
    ·by_cases z:b=a
     ·rw [z,upd_same] at e ⊢;exact e
     ·rw [upd_ne z] at e ⊢;exact w.st.sub' b u e
    ·rw [upd_ne (λz=>by rw [z,a0] at e;cases e)];exact w.st.fr b o hb e
    ·by_cases z:b=a
     ·rw [z,upd_same];exact nofun
     ·rw [upd_ne z];exact w.st.dm b h
    ·by_cases z:b=a
     ·rw [z];exact .inr a0
     ·rw [upd_ne z] at e;exact w.st.new b u e
   have DV:aZ sk F (L2.upd H a (.frz od (cg a ws))) s:=⟨λb e=>⟨by rw [upd_ne (λz=>a2 (by rw [<-z];exact e))];exact (w.aW b e).1,(w.aW b e).2⟩,Gq w.aW.tab hH OS⟩
   have dD:aZ sk (L2.upd F a (.frz od (cg a ws))) (L2.upd H a (.frz od (cg a ws))) s:=⟨λb e=>⟨(DV b e).1,by rw [upd_ne (λz=>a2 (by rw [<-z];exact e))];exact (DV b e).2⟩,⟨DV.tab.t,λb ps z=>by
    by_cases zz:b=a
    ·rw [zz,upd_same] at z;cases z
    ·rw [upd_ne zz] at z;exact DV.tab.n b ps z⟩⟩
   have Xp:=(w.slots.drop (i:=i)).tK (a:=a) (o:=.frz od (cg a ws)) na
   have sl2:=Xp.upd (a:=a) (o:=.frz od (cg a ws)) na hF
   have E9:=sl2.fill (sl:=.iA es) (fp:=[]) e1 ⟨rfl,a,od,ws,rfl,upd_same,IX sF hr⟩
   rw [KaK,KaK] at E9
   have w':Wd sk F0 H0 (L2.upd F a (.frz od (cg a ws))) (L2.upd H a (.frz od (cg a ws))) σ (ρ.set i (.iA es)) (aj.set i []) s:=⟨st',dD,E9,n3.2.1,λb m=>by
    have hb:=w.bR b (nU.mem m)
    refine⟨hb.1,?_,hb.2.2⟩
    rw [upd_ne (λz=>na (by rw [<-z];exact m))];exact hb.2.1⟩
   exact b.ok K w' h (q.mono sF)
  ·cases h
/-- for k,v in d.items() -/
def SI.n_ (i:Nat):SI where
 t:=λK=>uE (tVar i)
 ev:=λρ s=>match ρ[i]? with
  |some (.iA es)=>some (es.map (λe=>.tuple [e.2.1,e.2.2]),s)
  |_=>none
 ok:=by
  intro K sk F H σ ρ aj s ds s' R p h q
  dsimp only at h
  split at h
  ·rename_i es cF
   cases h
   obtain⟨x,fp,e1,e2,z,a,od,ws,e3,ha,hr⟩:=p.slots.get cF
   refine⟨.ref a,by rw [e1,e3],a,od,ws,rfl,p.sub _ _ ha,q _ F H (.refl p.sub) p.aW λF2 H2 n s1 s2=>?_⟩
   have hx:H2 a=some (.frz od (cg a ws)):=s2 _ _ (s1 _ _ ha)
   have BI:ws.length=es.length:=Paired.length hr
   refine⟨λd hd=>?_,λhl=>⟨hx,by rw [BI];rw [Kaf] at hl;exact hl⟩⟩
   obtain⟨e,he,rfl⟩:∃e,es[n]? = some e/\d=.tuple [e.2.1,e.2.2]:=by
    rw [Ka4] at hd
    obtain⟨e,h1,h2⟩:=Kam.mp hd
    exact⟨e,h1,h2.symm⟩
   obtain⟨pe,hp,h1,h2,⟨as,rk⟩,bs,rv⟩:=zc hr he
   have hlt:n<ws.length:=(List.getElem?_eq_some_iff.mp hp).1
   refine⟨⟨hx,hlt⟩,λy H4 hz=>?_⟩
   obtain⟨T,p1,XU,rfl,nT,rfl⟩:=hz
   rw [hp] at XU
   cases XU
   have sa:aY F2 H2 (upd F2 T (.tup [.ref pe.2.1,pe.2.2])) (upd H2 T (.tup [.ref pe.2.1,pe.2.2])):=.alloc s2 nT
   exact⟨_,_,sa,.tup upd_same (.cons ((rk.mono s1).mono sa.sub) (.cons ((rv.mono s1).mono sa.sub) .nil))⟩
  ·cases h
end Pu
namespace Pu
open PySem PySem.Spec PyProof.Rows L2 Enc
theorem firstLt_map (e r:Nat->Bool)(fin:Bool):∀L:List Nat,SeqAt.firstLt e r fin (L.map Nat.succ)=SeqAt.firstLt (λj=>e (j+1)) (λj=>r (j+1)) fin L
 |[]=>rfl
 |j::L=>by
  rw [Kag]
  unfold SeqAt.firstLt
  rw [firstLt_map e r fin L]
theorem jg:∀ns ms:List Int,SeqAt.firstLt (λj=>ns.getD j 0 == ms.getD j 0) (λj=>decide (ns.getD j 0<ms.getD j 0)) (decide (ns.length<ms.length)) (KaG (min ns.length ms.length))=HT.lexLt ns ms
 |[],[]=>rfl
 |[],m::ms=>by
  show SeqAt.firstLt _ _ _ (KaG (min 0 _))=true
  rw [Nat.zero_min]
  show decide (0<(m::ms).length)=true
  exact decide_eq_true (Nat.succ_pos _)
 |n::ns,[]=>by
  show SeqAt.firstLt _ _ _ (KaG (min _ 0))=false
  rw [Nat.min_zero]
  show decide ((n::ns).length<0)=false
  exact decide_eq_false (Nat.not_lt_zero _)
 |n::ns,m::ms=>by
  have ih:=jg ns ms
  have e1:min (n::ns).length (m::ms).length=min ns.length ms.length+1:=by rw [Kad,Kad];omega
  have e2:decide ((n::ns).length<(m::ms).length)=decide (ns.length<ms.length):=by rw [Kad,Kad];exact decide_eq_decide.mpr (by omega)
  rw [e1,e2,Kbi,HT.lexLt_cons,<-ih]
  show (if ((n == m)=true) then SeqAt.firstLt _ _ _ (Kai Nat.succ _) else decide (n<m))=_
  rw [firstLt_map]
  by_cases c:n=m
  ·rw [if_pos c,if_pos (by rw [c];exact beq_self_eq_true m)];rfl
  ·rw [if_neg c,if_neg (by simpa using c)]
def E8 (K:PySem.W.Frag):R2:=λx y H Q=>∃a b ns ms,x=.ref a/\y=.ref b/\SqL K H a (ns.map V.int)/\SqL K H b (ms.map V.int)/\Q (.bl (HT.lexLt ns ms)) H
theorem PV {ns:List Int}{us:List Value}(r:Vals (ns.map V.int) us){j:Nat}(h:j<us.length):∃t,us[j]=.int (ns.getD j 0) t/\j<ns.length:=by
 have hl:=r.length
 rw [Kaf] at hl
 have hj:j<ns.length:=by omega
 have hx:(ns.map V.int)[j]? = some (.int (ns.getD j 0)):=by
  rw [Ka4,Kax hj,Kb5,Kax hj];rfl
 obtain⟨u,hu,t,e⟩:=r.get hx
 rw [Kax h] at hu
 exact⟨t,(Option.some.inj hu).trans e,hj⟩
theorem Ds {X:Cx}(hu:X.A.units<cLine):OpR X (compareOp .Lt) (E8 X.K):=by
 intro pins s σ H x y v u Q I rx ry h
 obtain⟨a,b,ns,ms,rfl,rfl,ha,hb,q⟩:=h
 cases rx
 cases ry
 obtain⟨its,r1,p1,_⟩:=I.list ha
 obtain⟨its2,r2,p2,_⟩:=I.list hb
 have l1:=r1.length
 have l2:=r2.length
 rw [Kaf] at l1 l2
 have key:=SeqAt.RcLt.lists (A:=X.A) (s:=s) (e:=λj=>ns.getD j 0 == ms.getD j 0) (r:=λj=>decide (ns.getD j 0<ms.getD j 0)) p1.isList p2.isList hu (λj h1 h2=>by
   obtain⟨t,e,_⟩:=PV r1 (j:=j) (by simpa using h1)
   obtain⟨t2,e2,_⟩:=PV r2 (j:=j) (by simpa using h2)
   have e:its.toArray[j]=.int (ns.getD j 0) t:=e
   have e2:its2.toArray[j]=.int (ms.getD j 0) t2:=e2
   rw [e,e2]
   exact SeqAt.EqAt.int_int _ _ _ _) (λj h1 h2 _=>by
   obtain⟨t,e,_⟩:=PV r1 (j:=j) (by simpa using h1)
   obtain⟨t2,e2,_⟩:=PV r2 (j:=j) (by simpa using h2)
   have e:its.toArray[j]=.int (ns.getD j 0) t:=e
   have e2:its2.toArray[j]=.int (ms.getD j 0) t2:=e2
   rw [e,e2]
   exactλprog w E Q h=>PyProof.Rows.lt_int h)
 rw [show its.toArray.size=ns.length by rw [Kbp];omega,show its2.toArray.size=ms.length by rw [Kbp];omega,jg] at key
 exact key _ _ _ _ ⟨.bl (HT.lexLt ns ms),H,I,rfl,q⟩
variable [aR]
def Mf (d e:PyData):Option Vl:=match d,e with
 |.list ds,.list es=>(xV ds).bind λns=>(xV es).map λms=>(.bool (HT.lexLt ns ms),true)
 |_,_=>none
def SE.Qp:SE->SE->SE:=iM (λK=>E8 K) Mf (by
 intro K F H x y d e as bs z Q s r1 r2 h q
 unfold Mf at h
 split at h
 ·rename_i ds es
  obtain⟨ns,h1,h2⟩:=aI h
  obtain⟨ms,h3,rfl⟩:=Kam.mp h2
  obtain⟨a,xs,cs,rfl,ha,hr,_⟩:=r1.aM
  obtain⟨b,ys,cs',rfl,hb,hr',_⟩:=r2.aM
  rw [OQ h1] at hr
  rw [OQ h3] at hr'
  rw [hr.ints] at ha
  rw [hr'.ints] at hb
  exact⟨a,b,ns,ms,rfl,rfl,.inl (.inl (s _ _ ha)),.inl (.inl (s _ _ hb)),q.here (z:=(.bool _,true)) s (.bl _) .nil⟩
 ·cases h)
/-- (x,)*n -/
def E3 (d e:PyData):Option Vl:=match d,e with
 |.tuple ds,.int k=>if (ds≠[]/\ds.length<=1000)/\2<=k/\k<=1000/\eR ds=true then some (.tuple (Kah k.toNat ds).flatten,true) else none
 |_,_=>none
theorem ao.Ms {F:Hp}{vs:List V}{ds:List PyData}(h:ao F vs ds []):∀n:Nat,ao F (Kah n vs).flatten (Kah n ds).flatten []
 |0=>.nil
 |n+1=>by
  rw [KaT,KaT,Kar,Kar]
  exact h.app (ao.Ms h n)
def SE.De:SE->SE->SE:=iM (λK=>rRepT K) E3 (by
 intro K F H x y d e as bs z Q s r1 r2 h q
 unfold E3 at h
 split at h
 ·rename_i ds k
  split at h
  ·rename_i hc
   obtain⟨⟨h1,h2⟩,h3,h4,h5⟩:=hc
   cases h
   obtain⟨a,xs,rfl,ha,hr⟩:=r1.bM
   have e0:=ao.aH hr h5
   subst e0
   refine⟨a,k,xs,rfl,r2.int_inv,.inl (.inl (s _ _ ha)),λz=>?_,h3,h4,by rw [hr.len];exact h2,λp np=>q.Am s (hr.Ms _) np λ_=>rfl⟩
   subst z
   cases hr
   exact h1 rfl
  ·cases h
 ·cases h)
/-- tuple(range(n)) -/
def SE.oV (a:SE):SE where
 t:=λK=>tTupRg (tRg1 (a.t K))
 ev:=λρ s=>(a.ev ρ s).bind λx=>match x.1.1 with|.int n=>if -100000<=n/\n<=100000 then some ((.tuple ((rng 0 n).map .int),true),x.2) else none|_=>none
 ok:=by
  intro K sk F H σ ρ aj s vl s' Q p h q
  obtain⟨⟨⟨x,b⟩,s1⟩,h1,h⟩:=aI h
  dsimp only at h
  split at h
  ·rename_i n
   split at h
   ·rename_i hn
    cases h
    refine a.ok K p h1 λv F1 H1 as st k r f=>?_
    have pv:eA F1 H1 (.tuple ((rng 0 n).map .int),true) Q:=λv F' H' cs st3 r3 f3=>q v F' H' cs (st.trans st3.any) (k.keep st3) r3 (f3.back st.dm)
    refine⟨n,r.int_inv,⟨by omega,by omega,by omega,by omega,by omega⟩,λz np=>?_⟩
    rw [uW]
    exact pv.Am st.sub' (ao.jV _) np λ_=>rfl
   ·cases h
  ·cases h
/-- bJ items of a tuple,its object told or not -/
def eO (d:PyData):Option (List PyData):=match d with
 |.tuple ds=>some ds
 |d=>nM d
theorem Rp.eO {F:Hp}{v:V}{d:PyData}{ds:List PyData}{as:List Addr}(r:Rp F v d as)(h:eO d=some ds):∃a xs,v=.ref a/\(F a=some (.tup xs)∨∃o,F a=some (.frz o (.tup xs)))/\ao F xs ds as:=by
 unfold Pu.eO at h
 split at h
 ·cases h
  obtain⟨a,xs,rfl,ha,hr⟩:=r.bM
  exact⟨a,xs,rfl,.inl ha,hr⟩
 ·obtain⟨a,o,xs,rfl,ha,_,hr⟩:=r.jX h
  exact⟨a,xs,rfl,.inr ⟨o,ha⟩,hr⟩
theorem PF {K:Frag}{F H:Hp}{a:Addr}{xs:List V}(s:Same F H)(h:F a=some (.tup xs)∨∃o,F a=some (.frz o (.tup xs))):SqT K H a xs:=by
 rcases h with h|⟨o,h⟩
 ·exact .inl (.inl (s _ _ h))
 ·exact .inl (.inr ⟨o,s _ _ h⟩)
def SI.vn (e e2:SE):SI where
 t:=λK=>RZ.iZipA K (tCons (e.t K) (tCons (e2.t K) tNil))
 ev:=λρ s=>(e.ev ρ s).bind λx=>(e2.ev ρ x.2).bind λy=>(eO x.1.1).bind λds=>(eO y.1.1).map λes=>(dH ds es,y.2)
 ok:=by
  intro K sk F H σ ρ aj s ds0 s' R p h q
  obtain⟨⟨⟨x,fl⟩,s1⟩,h1,h⟩:=aI h
  obtain⟨⟨⟨y,O5⟩,s2⟩,h2,h⟩:=aI h
  obtain⟨ds,h3,h⟩:=aI h
  obtain⟨es,h4,h5⟩:=Kam.mp h
  cases h5
  refine e.ok K p h1 λv F1 H1 as st1 k1 r1 f1=>?_
  refine e2.ok K (p.next st1 k1) h2 λw F2 H2 bs st2 k2 r2 f2=>?_
  obtain⟨a,xs,rfl,ha,hr⟩:=(r1.mono st2.sub).eO h3
  obtain⟨b,ys,rfl,hb,hr'⟩:=r2.eO h4
  refine⟨a,b,xs,ys,rfl,.inr ⟨PF st2.sub' ha,PF st2.sub' hb,q _ F2 H2 (st1.trans st2) k2 λF3 H3 i s1 s2=>?_⟩⟩
  have hx:SqT K H3 a xs:=PF (s1.trans s2) ha
  have hy:SqT K H3 b ys:=PF (s1.trans s2) hb
  refine⟨λd hd=>?_,λhl=>?_⟩
  ·obtain⟨d1,d2,g1,g2,rfl⟩:=Vu hd
   obtain⟨v1,b1,e1,q1⟩:=hr.get g1
   obtain⟨v2,b2,e2,q2⟩:=hr'.get g2
   refine⟨⟨xs,ys,v1,v2,hx,hy,e1,e2⟩,λx H4 hz=>?_⟩
   obtain⟨T,x1,x2,rfl,nT,rfl,z1,z2⟩:=hz
   have z1:=z1 _ hx
   have z2:=z2 _ hy
   rw [e1] at z1
   rw [e2] at z2
   cases z1
   cases z2
   have sa:aY F3 H3 (upd F3 T (.tup [v1,v2])) (upd H3 T (.tup [v1,v2])):=.alloc s2 nT
   exact⟨_,_,sa,.tup upd_same (.cons ((q1.mono s1).mono sa.sub) (.cons ((q2.mono s1).mono sa.sub) .nil))⟩
  ·refine⟨xs,ys,hx,hy,?_⟩
   rw [VY] at hl
   rw [hr.len,hr'.len]
   omega
def Ba (np nl r:Nat)(b:SS):Sp:=λvs H Q _=>∃(sk:Option Addr) (F0 H0 F:Hp) (args:List Slot) (aj:List (List Addr)) (s:ae) (ρ':List Slot) (s':ae),args.length=np/\Wd sk F0 H0 F H (vs.map some) args aj s/\b.ev (args++Kah nl .emp) s=some (.nx ρ' s') /\
 ∀F' H' σ' aF,Same F F'->Wd sk F0 H0 F' H' σ' ρ' aF s'->∃v,σ'[r]? = some (some v)/\Q v H'
theorem AN {K:Frag}{np nl r:Nat}{b:SS}{N:List Str}{vs:List V}{H:Hp}{Q:VK}{E:XK}(hN:N.length=np+nl)(h:Ba np nl r b vs H Q E):(tSeq (b.t K) (tRet (tVar r))) { nx:=λ_ H'=>Q .non H',rt:=Q } (L2.start N vs) H:=by
 obtain⟨sk,F0,H0,F,args,aj,s,ρ',s',hl,w,he,q⟩:=h
 have WU:vs.length=np:=by
  have:=w.slots.length
  rw [Kaf] at this
  rw [this,hl]
 have hst:L2.start N vs=vs.map some++Kah nl none:=by
  unfold L2.start
  rw [hN,WU]
  congr 2
  omega
 rw [hst]
 have w2:Wd sk F0 H0 F H (vs.map some++Kah nl none) (args++Kah nl .emp) (aj++Kah nl []) s:=
  ⟨w.st,w.aW,w.slots.more nl,by rw [mW];exact w.dj,λa m=>by rw [mW] at m;exact w.bR a m⟩
 refine b.ok K (out:=.nx ρ' s') w2 he λF' H' σ' aF e w'=>?_
 obtain⟨v,h1,h2⟩:=q F' H' σ' aF e w'
 exact⟨v,h1,h2⟩
theorem Hf {np nl r:Nat}{b:SS}{ps:List Str}(hp:ps.length=np)(vs:List V)(H:Hp)(Q:VK)(E:XK)(h:Ba np nl r b vs H Q E):vs.length=ps.length:=by
 obtain⟨sk,F0,H0,F,args,aj,s,ρ',s',hl,w,he,q⟩:=h
 have:=w.slots.length
 rw [Kaf] at this
 rw [this,hl,hp]
theorem Xj {P:Program}{w:World}{K:PySem.W.Frag}{mg:Str->Option Value}{base:Heap}{x:Str}{st:Stmt}{f:Addr}{fd:FuncData}{N ps:List Str}{k np nl r:Nat}{b:SS}(F:cM K x st f fd)(S:FnScope N ps (defScope st))(hp:ps.length=np)(hN:N.length=np+nl)
  (Gj:∀(cdv:Value) (A:Around) (outer:List Env) (s:Shared) (H:Hp) (E:XK),Room k (A.deeper (envOfC x (defScope st) s.heap.objs.size f cdv))->∃t,PSs (cxOf CX0 P w K mg base N x (defScope st) f cdv A outer s H E).nox (defBody st) t/\t=tSeq (b.t K) (tRet (tVar r))):
  FnOk P w K mg base CX0 (k+1) f fd ps (Ba np nl r b):=
 F.ok S (Hf hp) λcdv A outer s H vs Q E hr h=>by
  obtain⟨t,ht,rfl⟩:=Gj cdv A outer s H E hr
  exact⟨_,PSs.nox ht,AN hN h⟩
/-- x=f(x,e): x is a dict -/
def SS.u4 (i nl r:Nat)(b:SS)(e:SE):SS where
 t:=λK=>tAsg (tCall (Ba 2 nl r b) [] E0 (tCons (tVar i) (tCons (e.t K) tNil))) (gName i)
 ev:=λρ s=>match ρ[i]? with
  |some (.bE es)=>(e.ev ρ s).bind λy=>if (ρ.set i .emp).all Ht=true then match b.ev ([.bE es,.dat y.1.1]++Kah nl .emp) y.2 with
   |some (Out.nx ρ' s')=>match (ρ'[r]?:Option Slot) with
    |some (Slot.bE es')=>some (.nx (ρ.set i (.bE es')) s')
    |_=>none
   |_=>none
   else none
  |_=>none
 ok:=by
  intro K sk F0 H0 F H σ ρ aj s out D w h q
  dsimp only at h
  split at h
  ·rename_i es cF
   obtain⟨⟨y,s2⟩,h2,h⟩:=aI h
   dsimp only at h
   split at h
   ·rename_i hn
    split at h
    ·rename_i ρ' s' he
     split at h
     ·rename_i es' er
      cases h
      obtain⟨xv0,fp0,XN,ef0,a0,ws0,rfl,hH0,hF0,hr0,rfl⟩:=w.slots.get cF
      refine⟨.ref a0,XN,?_⟩
      refine e.ok K w.pre h2 λv2 F2 H2 as2 st2 k2 r2 g2=>?_
      have w2:=w.next st2 k2
      obtain⟨xv,fp,ex,ef,a,ws,ez,hH,hF,hr,rfl⟩:=w2.slots.get cF
      have ea:a=a0:=by
       rw [XN] at ex
       have:=Option.some.inj ex
       subst this
       have:=Option.some.inj ez
       injection this with this
       exact this.symm
      subst ea
      have fa:a∈aj.flatten:=KaB.mpr ⟨_,Kat ef,Kaa⟩
      have wc:Wd sk F0 H0 F2 H2 ([.ref a,v2].map some) [.bE es,.dat y.1] [[a],[]] s2:=⟨w2.st,w2.aW,.cons ⟨a,ws,rfl,hH,hF,hr,rfl⟩ (.cons ⟨rfl,v2,as2,rfl,r2⟩ .nil),by simp,λc m=>by
       have:c=a:=by simpa using m
       rw [this];exact w2.bR a fa⟩
      refine⟨sk,F0,H0,F2,[.bE es,.dat y.1],[[a],[]],s2,ρ',s',rfl,wc,he,λF' H' σ' aF sF w'=>?_⟩
      obtain⟨xv3,fp3,Zm,Zk,a2,vm,rfl,m7,CN,hr2,rfl⟩:=w'.slots.get er
      refine⟨.ref a2,Zm,?_⟩
      have sl:=wU (H':=H') sF (w2.slots.drop (i:=i)) hn
      have fl:=An (w2.slots.drop (i:=i)) hn
      have sl2:=sl.set (i:=i) (x:=some (.ref a2)) (sl:=.bE es') (fp:=[a2]) ⟨a2,vm,rfl,m7,CN,hr2,rfl⟩
      rw [KaK] at sl2
      have sub:=qb (a:=a2) (i:=i) fl
      have Zn:a2∈aF.flatten:=KaB.mpr ⟨_,Kat Zk,Kaa⟩
      exact q F' H' _ _ (st2.sub.trans sF) ⟨w'.st,w'.aW,sl2,(KaN.mpr ⟨Kbm,KaI⟩:[a2].Nodup).sublist sub,λc m=>by
       have:c=a2:=by simpa using sub.mem m
       rw [this];exact w'.bR a2 Zn⟩
     ·cases h
    ·cases h
   ·cases h
  ·cases h
instance:bj Ti where
 dec:=inferInstance
 dep:=1
 lay:=λx=>by
  show PyData.canLay0 (.tuple (x.l.map enc))=true
  simpa [PyData.canLay0] using VU x.l
 cB:=λx=>by
  show PyData.depth (.tuple (x.l.map enc))<=_
  have:=Wk x.l
  have h0:bj.dep Int=0:=rfl
  simp only [PyData.depth];omega
 eqv:=λx y=>by
  show PyData.eqv (.tuple (x.l.map enc)) (.tuple (y.l.map enc))=_
  simp only [PyData.eqv]
  rw [V9]
  obtain⟨a⟩:=x
  obtain⟨b⟩:=y
  exact decide_eq_decide.mpr ⟨λh=>congrArg Ti.mk h,λh=>by injection h⟩
theorem kR:∀ns:List Int,cj (ns.map .int)=some (ns.map .num)
 |[]=>rfl
 |n::ns=>by
  rw [Kag,Kag]
  unfold cj
  rw [kR ns];rfl
instance:bN Ti:=⟨λt=>.tup (t.l.map .num),λt=>by
 show (cj (t.l.map .int)).map NestedKey.tup=_
 rw [kR];rfl,λx y h=>by
 obtain⟨x⟩:=x
 obtain⟨y⟩:=y
 injection h with h
 exact congrArg Ti.mk (O8 h)⟩
instance:bN (Int×Bool):=⟨λp=>.tup [.num p.1,.num (PpSet.b2 p.2)],λp=>rfl,λx y h=>by
 obtain⟨x1,x2⟩:=x
 obtain⟨y1,y2⟩:=y
 injection h with h
 injection h with h1 h
 injection h with h2 h
 injection h1 with h1
 injection h2 with h2
 have h1:x1=y1:=h1
 have h2:PpSet.b2 x2=PpSet.b2 y2:=h2
 rw [h1]
 cases x2 <;> cases y2 <;> first|rfl|exact absurd h2 (by decide)⟩
def aP {κ β:Type}[Enc κ][bN κ][Enc β](f:List (κ×β)):List xy:=f.map λp=>(bN.nums p.1,enc p.1,enc p.2)
def d9 {κ β:Type}[DecidableEq κ](f:List (κ×β))(k:κ)(v:β):List (κ×β):=if (aN f k).isSome then f.map (λp=>if p.1=k then (p.1,v) else p) else f++[(k,v)]
section
variable {κ β:Type}[Enc κ][bN κ][DecidableEq κ][Enc β]
theorem Py:∀(f:List (κ×β)) (j:κ),di (aP f) (bN.nums j)=(aN f j).map enc
 |[],j=>rfl
 |(k,d)::r,j=>by
  show di ((bN.nums k,enc k,enc d)::aP r) _=_
  rw [kT]
  unfold aN
  by_cases h:k=j
  ·rw [if_pos h,if_pos (by rw [h])];rfl
  ·rw [if_neg h,if_neg (λz=>h (bN.inj _ _ z))];exact Py r j
theorem HD (f:List (κ×β))(j:κ)(v:β):qV (aP f) (bN.nums j) (enc j) (enc v)=aP (d9 f j v):=by
 unfold qV d9
 rw [Py,KcU]
 by_cases c:(aN f j).isSome=true
 ·rw [if_pos c,if_pos c]
  unfold aP
  rw [KaE,KaE]
  refine Kau λp _=>?_
  show (if bN.nums p.1=bN.nums j then _ else _)=(λq:κ×β=>(bN.nums q.1,enc q.1,enc q.2)) (if p.1=j then _ else _)
  by_cases h:p.1=j
  ·rw [if_pos (by rw [h]),if_pos h]
  ·rw [if_neg (λz=>h (bN.inj _ _ z)),if_neg h]
 ·rw [if_neg c,if_neg c]
  unfold aP
  rw [KaH];rfl
variable {ρ aB cI:List Slot}{s s1 s2:ae}{e e2:SE}{i:Nat}{w w1 w2:Bool}
theorem hjl {f:List (κ×β)}{x:κ}(hi:ρ[i]? = some (.bE (aP f)))(h:JE e ρ s x s1 w):JE (Qh i e) ρ s (decide (¬((aN f x).isSome=true))) s1 true:=by
 obtain⟨_,h,_⟩:=h
 refine⟨true,?_,λ_=>rfl⟩
 show (match ρ[i]? with|some (.bE f)=>_|_=>_)=_
 rw [hi]
 show ((e.ev ρ s).bind _)=_
 rw [h]
 show (match c9 (enc x) with|some j=>some ((PyData.bool (!(di (aP f) j).isSome),true),s1)|none=>none)=_
 rw [bN.ok]
 show some ((PyData.bool (!(di (aP f) (bN.nums x)).isSome),true),s1)=_
 rw [Py]
 cases aN f x <;> rfl
theorem JE.Gk {f:List (κ×β)}{x:κ}{y:β}(hi:ρ[i]? = some (.bE (aP f)))(h:JE e ρ s x s1 w)(hy:aN f x=some y):JE (P8 i e) ρ s y s1 false:=by
 obtain⟨_,h,_⟩:=h
 refine⟨false,?_,nofun⟩
 show (match ρ[i]? with|some (.bE f)=>_|_=>_)=_
 rw [hi]
 show ((e.ev ρ s).bind _)=_
 rw [h]
 show (match c9 (enc x) with|some j=>(di (aP f) j).map λd=>((d,false),s1)|none=>none)=_
 rw [bN.ok]
 show (di (aP f) (bN.nums x)).map _=_
 rw [Py,hy];rfl
theorem JE.C4 {f:List (κ×β)}(hi:ρ[i]? = some (.bE (aP f))):JE (SE.C4 i) ρ s ((f.length:Nat):Int) s true:=by
 refine⟨true,?_,λ_=>rfl⟩
 show (match ρ[i]? with|some (.bE f)=>_|_=>_)=_
 rw [hi]
 show some ((PyData.int (aP f).length,true),s)=_
 unfold aP
 rw [Kaf];rfl
theorem JN.ED {f:List (κ×β)}{x:β}{j:κ}(hi:ρ[i]? = some (.bE (aP f)))(hv:JE e ρ s x s1 w)(hk:JE e2 ρ s1 j s2 w1)(hl:f.length<100000):JN (WW i e2 e) ρ s (ρ.set i (.bE (aP (d9 f j x)))) s2:=by
 obtain⟨_,hv,_⟩:=hv
 obtain⟨_,hk,_⟩:=hk
 show ((e.ev ρ s).bind _)=_
 rw [hv]
 show (match ρ[i]? with|some (.bE f)=>_|_=>_)=_
 rw [hi]
 show ((e2.ev ρ s1).bind _)=_
 rw [hk]
 show (match c9 (enc j) with|some jj=>(if (aP f).length<100000 then some (Out.nx (ρ.set i (.bE (qV (aP f) jj (enc j) (enc x)))) s2) else none)|none=>none)=_
 rw [bN.ok]
 show (if (aP f).length<100000 then some (Out.nx (ρ.set i (.bE (qV (aP f) (bN.nums j) (enc j) (enc x)))) s2) else none)=_
 rw [if_pos (by unfold aP;simpa using hl),HD]
omit [DecidableEq κ] in
theorem JN.Dg:JN (SS.Dg i) ρ s (ρ.set i (.bE (aP ([]:List (κ×β))))) s:=rfl
omit [DecidableEq κ] in
theorem JN.sY {x:κ}{y:β}(hk:JE e ρ s x s1 w1)(hv:JE e2 ρ s1 y s2 w2):JN (SS.sY i e e2) ρ s (ρ.set i (.bE (aP [(x,y)]))) s2:=by
 obtain⟨_,hk,_⟩:=hk
 obtain⟨_,hv,_⟩:=hv
 show (((e.ev ρ s).bind λx=>(e2.ev ρ x.2).bind λy=>match c9 x.1.1 with
  |some j=>(SP.nil.ev ρ (ρ.set i (.bE [(j,x.1.1,y.1.1)])) y.2:Option (List Slot×ae))
  |none=>none).map λx=>Out.nx x.1 x.2)=_
 rw [hk]
 show (((e2.ev ρ s1).bind λy=>match c9 (enc x) with
  |some j=>(SP.nil.ev ρ (ρ.set i (.bE [(j,enc x,y.1.1)])) y.2:Option (List Slot×ae))
  |none=>none).map λx=>Out.nx x.1 x.2)=_
 rw [hv,bN.ok];rfl
omit [DecidableEq κ] in
theorem JB.frzK {b:SS}{f:List (κ×β)}{Φ:Out->Prop}(hi:ρ[i]? = some (.bE (aP f)))(h:JB b (ρ.set i (.iA (aP f))) s Φ):JB (SS.ap i b) ρ s Φ:=by
 obtain⟨o,h1,h2⟩:=h
 refine⟨o,?_,h2⟩
 show (match ρ[i]? with|some (.bE es)=>_|_=>_)=_
 rw [hi]
 exact h1
omit [DecidableEq κ] in
theorem JI.n_ {f:List (κ×β)}(hi:ρ[i]? = some (.iA (aP f))):JI (SI.n_ i) ρ s f s:=by
 show (match ρ[i]? with|some (.iA es)=>_|_=>_)=_
 rw [hi]
 show some ((aP f).map (λe=>PyData.tuple [e.2.1,e.2.2]),s)=some (f.map enc,s)
 unfold aP
 rw [KaE];rfl
theorem JN.u4 {α:Type}[Enc α]{b:SS}{f f' v:List (κ×β)}{y:α}{nl r:Nat}{ρ':List Slot}(hi:ρ[i]? = some (.bE (aP f)))(h:JE e ρ s y s1 w)(hn:(ρ.set i .emp).all Ht=true)
  (hb:JN b ([.bE (aP f),.e y]++Kah nl .emp) s1 ρ' s2) (hz:ρ'[r]? = some (.bE (aP f'))) (hv:v=f'):JN (SS.u4 i nl r b e) ρ s (ρ.set i (.bE (aP v))) s2:=by
 subst hv
 obtain⟨_,h,_⟩:=h
 show (match ρ[i]? with|some (.bE es)=>_|_=>_)=_
 rw [hi]
 show ((e.ev ρ s).bind _)=_
 rw [h]
 show (if (ρ.set i .emp).all Ht=true then _ else _)=_
 rw [if_pos hn]
 have hb:b.ev ([.bE (aP f),.e y]++Kah nl .emp) s1=some (.nx ρ' s2):=hb
 show (match b.ev ([.bE (aP f),.e y]++Kah nl .emp) s1 with|some (.nx ρ' s')=>_|_=>_)=_
 rw [hb]
 show (match (ρ'[r]?:Option Slot) with|some (Slot.bE es')=>_|_=>_)=_
 rw [hz]
end
section
variable {ρ:List Slot}{s s1 s2:ae}{e e2:SE}{w1 w2:Bool}
theorem JE.Qp {xs ys:List Int}(ha:JE e ρ s xs s1 w1)(hb:JE e2 ρ s1 ys s2 w2):JE (SE.Qp e e2) ρ s (HT.lexLt xs ys) s2 true:=by
 obtain⟨_,ea,_⟩:=ha
 obtain⟨_,eb,_⟩:=hb
 refine⟨true,c_ ea eb ?_,λ_=>rfl⟩
 show ((xV (xs.map .int)).bind λns=>(xV (ys.map .int)).map λms=>((PyData.bool (HT.lexLt ns ms),true):Vl))=_
 rw [Ky,Ky];rfl
theorem JE.De {x n:Int}(ha:JE e ρ s x s1 w1)(hb:JE e2 ρ s1 n s2 w2)(h:2<=n/\n<=1000):JE (SE.De (SE.tup (eK e fK)) e2) ρ s (Ti.mk (Kah n.toNat x)) s2 true:=by
 obtain⟨_,eb,_⟩:=hb
 obtain⟨w',e1,_⟩:=JA.tup (iK ha gK) (Nat.le_of_ble_eq_true rfl)
 refine⟨true,c_ e1 eb ?_,λ_=>rfl⟩
 show (if (([enc x]:List PyData)≠[]/\([enc x]:List PyData).length<=1000)/\2<=n/\n<=1000/\eR [enc x]=true then _ else _)=_
 rw [if_pos ⟨⟨by simp,by show 1<=1000;omega⟩,h.1,h.2,rfl⟩]
 have:(Kah n.toNat [enc x]).flatten=(Kah n.toNat x).map enc:=by
  rw [List.map_replicate]
  induction n.toNat with
  |zero=>rfl
  |succ k ih=>rw [KaT,Kar,ih,KaT];rfl
 show some ((PyData.tuple (Kah n.toNat [enc x]).flatten,true):Vl)=some (PyData.tuple ((Kah n.toNat x).map enc),true)
 rw [this]
theorem JE.oV {n:Int}(ha:JE e ρ s n s1 w1)(h:-100000<=n/\n<=100000):JE (SE.oV e) ρ s (Ti.mk (rng 0 n)) s1 true:=by
 obtain⟨w',e1,_⟩:=ha
 refine⟨true,?_,λ_=>rfl⟩
 show (e.ev ρ s).bind _=_
 rw [e1]
 show (if -100000<=n/\n<=100000 then some ((PyData.tuple ((rng 0 n).map .int),true),s1) else none)=_
 rw [if_pos h];rfl
theorem rP:∀(xs:List Int) (ys:List Bool),dH (xs.map enc) (ys.map PyData.bool)=(Kba xs ys).map enc
 |[],ys=>by simp [dH]
 |x::xs,[]=>by simp [dH]
 |x::xs,y::ys=>by
  show _::dH (xs.map enc) (ys.map PyData.bool)=_
  rw [rP xs ys];rfl
theorem JI.vn {x:Ti}{y:Tb}(ha:JE e ρ s x s1 w1)(hb:JE e2 ρ s1 y s2 w2):JI (SI.vn e e2) ρ s (Kba x.l y.l) s2:=by
 obtain⟨_,ea,_⟩:=ha
 obtain⟨_,eb,_⟩:=hb
 show ((e.ev ρ s).bind λx=>(e2.ev ρ x.2).bind λy=>(eO x.1.1).bind λds=>(eO y.1.1).map λes=>(dH ds es,y.2))=_
 rw [ea]
 show ((e2.ev ρ s1).bind λy=>(eO (enc x)).bind λds=>(eO y.1.1).map λes=>(dH ds es,y.2))=_
 rw [eb]
 show some (dH (x.l.map enc) (y.l.map PyData.bool),s2)=_
 rw [rP]
end
end Pu
namespace Pu
open PySem PySem.Spec PyProof.Rows L2 Enc
variable [aR]
instance:Inhabited PyData:=⟨.none⟩
def BA:PyData->List PyData
 |.list ds=>ds
 |.tuple ds=>ds
 |_=>[]
/-- what data is as of a kind -/
class dJ (α:Type) [Enc α] where
 dec:PyData->α
 ok:∀x:α,dec (enc x)=x
section
variable {α β γ δ:Type}[Enc α][Enc β][Enc γ][Enc δ][dJ α][dJ β][dJ γ][dJ δ]
instance:dJ Int:=⟨λ|.int i=>i|_=>0,λ_=>rfl⟩
instance:dJ Bool:=⟨λ|.bool b=>b|_=>false,λ_=>rfl⟩
instance:dJ PyData:=⟨λd=>d,λ_=>rfl⟩
instance:dJ Str:=⟨λ|.str x=>x|_=>⟨#[]⟩,λ_=>rfl⟩
instance:dJ Tx:=⟨λ|.str x=>iW x.cps.toList|_=>iW [],λt=>by
 show iW t.str.cps.toList=t
 unfold iW Tx.str Tx.nat
 obtain⟨cs⟩:=t
 show Tx.mk ((cs.map Fin.val).map λc=>Fin.ofNat 1114112 c)=Tx.mk cs
 rw [KaE]
 congr 1
 refine (Kau λc _=>?_).trans (KcF cs)
 exact Fin.ext (KbO c.isLt)⟩
instance:dJ (List α):=⟨λd=>(BA d).map dJ.dec,λxs=>by
 show (xs.map enc).map dJ.dec=xs
 rw [KaE]
 refine (Kau λx _=>?_).trans (KcF xs)
 exact dJ.ok x⟩
instance:dJ (α×β):=⟨λd=>(dJ.dec ((BA d).getD 0 .none),dJ.dec ((BA d).getD 1 .none)),λp=>Prod.ext (dJ.ok p.1) (dJ.ok p.2)⟩
instance:dJ (T3 α β γ):=⟨λd=>T3.mk (dJ.dec ((BA d).getD 0 .none)) (dJ.dec ((BA d).getD 1 .none)) (dJ.dec ((BA d).getD 2 .none)),λp=>by
 obtain⟨x,y,z⟩:=p
 show T3.mk (dJ.dec (enc x)) (dJ.dec (enc y)) (dJ.dec (enc z))=_
 rw [dJ.ok,dJ.ok,dJ.ok]⟩
instance:dJ (T4 α β γ δ):=⟨λd=>T4.mk (dJ.dec ((BA d).getD 0 .none)) (dJ.dec ((BA d).getD 1 .none)) (dJ.dec ((BA d).getD 2 .none)) (dJ.dec ((BA d).getD 3 .none)),λp=>by
 obtain⟨x,y,z,u⟩:=p
 show T4.mk (dJ.dec (enc x)) (dJ.dec (enc y)) (dJ.dec (enc z)) (dJ.dec (enc u))=_
 rw [dJ.ok,dJ.ok,dJ.ok,dJ.ok]⟩
end
end Pu
namespace Pu
open PySem PySem.Spec PyProof.Rows L2 Enc
variable [aR]
/-- an instance is handed on -/
def SR.ins (i:Nat)(r:SR):SR where
 t:=λK=>tCons (tVar i) (r.t K)
 ev:=λρ s=>match ρ[i]? with
  |some (.ins C nm ds)=>(r.ev ρ s).bind λy=>some (.ins C nm ds::y.1,y.2)
  |_=>none
 ok:=by
  intro K sk F H σ ρ aj s vl s' Q p h q
  dsimp only at h
  split at h
  ·rename_i C nm ds e
   obtain⟨⟨y,s2⟩,h2,h⟩:=aI h
   cases h
   obtain⟨x,fp,e1,e2,z,a,dx,vs,as,rfl,e4,e5,r'⟩:=p.slots.get e
   refine⟨.ref a,e1,?_⟩
   refine r.ok K p h2 λvs F2 H2 st2 k2 r2=>?_
   exact q _ F2 H2 st2 k2 (.cons (show uq sk F2 H2 (some (.ref a)) (.ins C nm ds) [] from ⟨rfl,a,dx,_,as,rfl,st2.sub _ _ e4,e5,r'.mono st2.sub⟩) r2)
  ·cases h
section
variable {ρ aB:List Slot}{s s1 s2 s3:ae}{w:Bool}{C:Addr}{i:Nat}{nm:List Str}{ds:List PyData}{f:Str}
theorem JC.ins {r:SR}{sl:List Slot}(h:ρ[i]? = some (.ins C nm ds))(hr:JC r ρ s sl s2):JC (SR.ins i r) ρ s (.ins C nm ds::sl) s2:=by
 unfold JC at hr ⊢
 unfold SR.ins
 simp only [h]
 rw [hr];rfl
end
end Pu
namespace Pu
variable [aR]
open PySem PySem.Spec PyProof.Rows L2 Enc
def rH:List PyData->Option (List Str)
 |[]=>some []
 |.str x::ds=>(rH ds).map λxs=>x::xs
 |_::_=>none
theorem nJ:∀nm:List Str,rH (nm.map .str)=some nm
 |[]=>rfl
 |x::nm=>by
  show (rH (nm.map .str)).map _=_
  rw [nJ nm];rfl
def rL:PyData->Option (Nat×List Str×List PyData)
 |.dict [(.int c,.list L),(.none,.list ds)]=>(rH L).map λnm=>(c.toNat,nm,ds)
 |_=>none
theorem ve (C:Addr)(nm:List Str)(ds:List PyData):rL (zS C nm ds)=some (C,nm,ds):=by
 show (rH (nm.map .str)).map _=_
 rw [nJ];rfl
theorem Rp.CW {F:Hp}{v:V}{d:PyData}{as:List Addr}(r:Rp F v d as){C:Nat}{nm:List Str}{ds:List PyData}(h:rL d=some (C,nm,ds)):∃a dx vs,v=.ref a/\F a=some (.ins C dx (nm.zip vs))/\nm.length=ds.length/\ao F vs ds as:=by
 cases r with
 |@kL a C' dx Xe vs ds' as h1 h2 h3=>
  have e:=ve C' Xe ds'
  rw [show rL (.dict [(.int (C':Nat),.list (Xe.map .str)),(.none,.list ds')])=some (C',Xe,ds') from e] at h
  cases h
  exact⟨a,dx,vs,rfl,h1,h2,h3⟩
 |_=>cases h
end Pu
namespace Pu
open PySem PySem.Spec PyProof.Rows L2 Enc
end Pu
set_option maxHeartbeats 2000000
namespace L2
open PySem PySem.Spec PyProof.Rows
section
variable {X:Cx}{nm:Str}{C D fI cc cda:Addr}
/-- e.value,e bJ exception dF bJ suite holds (at a;its class cls,its dict d);Cs: bJ classes it may have -/
def MK (Cs:List Addr)(a:Addr)(cls:Value)(d:Option Addr)(te:TE):TE:=λσ H Q=>te σ H λx H1=>x=.ref a/\∃C∈Cs,cls=.ref C/\∃(dd:Addr) (v:V),d=some dd/\H1 dd=some (.xd [(("value" : Str),v)])/\Q v H1
end
end L2
namespace Pu
variable [aR]
open PySem PySem.Spec PyProof.Rows L2
abbrev vq:=Str->Addr
inductive ye where
 |val (vl:Vl)
 |xX (nm:Str) (d:PyData)
inductive vy where
 |out (o:Out)
 |xX (nm:Str) (d:PyData) (ρ:List Slot) (s:ae)
abbrev XA:=List Slot->ae->Option (ye×ae)
abbrev QA:=List Slot->ae->Option vy
def Qy (v:V):HO:=.xd [(("value" : Str),v)]
def Z_ (Γ:vq)(m:XA):Sp:=λvs H Q E=>∃(sk:Option Addr) (F:Hp) (args:List Slot) (s:ae) (r:ye) (s':ae),Same F H/\aZ sk F H s/\Slots sk F H (vs.map some) args (jH args)/\m args s=some (r,s') /\
 (∀vl,r=.val vl->∀v F' H' as,Step sk F H F' H'->aZ sk F' H' s'->Rp F' v vl.1 as->bx vl.2 H as->Q v H') /\
 ∀nm d,r=.xX nm d->∀v F' H' as dd,Step sk F H F' H'->aZ sk F' H' s'->Rp F' v d as->H dd=none->H' dd=some (Qy v)->E (.ref (Γ nm)) (some dd) H'
def QF (Γ:vq)(t:Frag->WX->TE)(ev:List Slot->ae->Option (ye×ae)):Prop:=∀(K:Frag) {sk:Option Addr} {F H:Hp} {σ:L2.St} {ρ:List Slot} {aj:List (List Addr)} {s:ae} {r:ye} {s':ae} {W:WX} {Q:VK},Pre sk F H σ ρ aj s->ev ρ s=some (r,s') ->
 (∀vl,r=.val vl->∀v F' H' as,Step sk F H F' H'->aZ sk F' H' s'->Rp F' v vl.1 as->bx vl.2 H as->Q v H') ->
 (∀nm d,r=.xX nm d->∀v F' H' as dd,Step sk F H F' H'->aZ sk F' H' s'->Rp F' v d as->H dd=none->H' dd=some (Qy v)->W (.ref (Γ nm)) (some dd) σ H')->t K W σ H Q
structure EX (Γ:vq) where
 t:Frag->WX->TE
 ev:List Slot->ae->Option (ye×ae)
 ok:QF Γ t ev
variable {Γ:vq}
def EX.call (m:XA)(a:SR):EX Γ where
 t:=λK W=>tCallS (Z_ Γ m) (WE W) (a.t K)
 ev:=λρ s=>(a.ev ρ s).bind λx=>m x.1 x.2
 ok:=by
  intro K sk F H σ ρ aj s r s' W Q p h q qx
  obtain⟨⟨x,s1⟩,h1,h⟩:=aI h
  refine a.ok K p h1 λvs F1 H1 st1 k1 sl=>?_
  refine⟨sk,F1,x,s1,r,s',st1.sub',k1,sl,h,λvl e v F2 H2 as st2 k2 r2 f2=>?_,λnm d e v F2 H2 as dd st2 k2 r2 n2 e2=>?_⟩
  ·exact q vl e v F2 H2 as (st1.trans st2) k2 r2 (f2.back st1.dm)
  ·refine qx nm d e v F2 H2 as dd (st1.trans st2) k2 r2 ?_ e2
   cases z:H dd with
   |none=>rfl
   |some u=>exact absurd n2 (st1.dm dd (by rw [z];exact nofun))
def tO (D:Ends)(W:WX)(Γ:vq)(sk:Option Addr)(F0 H0 F:Hp):vy->Prop
 |.out o=>iY D sk F0 H0 F o
 |.xX nm d ρ' s'=>∀v F' H' σ' aF as dd,Same F F'->Wd sk F0 H0 F' H' σ' ρ' aF s'->Rp F' v d as->H0 dd=none->H' dd=some (Qy v)->W (.ref (Γ nm)) (some dd) σ' H'
theorem tO.mono {D:Ends}{W:WX}{sk:Option Addr}{F0 H0 F F':Hp}{out:vy}(h:tO D W Γ sk F0 H0 F out)(e:Same F F'):tO D W Γ sk F0 H0 F' out:=by
 cases out with
 |out o=>exact iY.mono h e
 |xX nm d ρ s=>exactλv F2 H2 σ2 dB as dd e2 w=>h v F2 H2 σ2 dB as dd (e.trans e2) w
def Zg (Γ:vq)(t:Frag->WX->TS)(ev:QA):Prop:=∀(K:Frag) {sk:Option Addr} {F0 H0 F H:Hp} {σ:L2.St} {ρ:List Slot} {aj:List (List Addr)} {s:ae} {out:vy} {D:Ends} {W:WX},Wd sk F0 H0 F H σ ρ aj s->ev ρ s=some out->tO D W Γ sk F0 H0 F out->t K W D σ H
structure SX (Γ:vq) where
 t:Frag->WX->TS
 ev:QA
 ok:Zg Γ t ev
def Mz (b:QA):vy->Option vy
 |.out (.nx ρ s)=>b ρ s
 |o=>some o
def SX.seq (a b:SX Γ):SX Γ where
 t:=λK W=>tSeq (a.t K W) (b.t K W)
 ev:=λρ s=>(a.ev ρ s).bind λo=>Mz b.ev o
 ok:=by
  intro K sk F0 H0 F H σ ρ aj s out D W w h q
  obtain⟨o,h1,h2⟩:=aI h
  refine a.ok K w h1 ?_
  cases o with
  |out o=>
   cases o with
   |nx aB s1=>exactλF1 H1 σ1 lW e1 w1=>b.ok K w1 h2 (q.mono e1)
   |brk aB s1=>cases h2;exact q
   |cnt aB s1=>cases h2;exact q
   |ret vl s1=>cases h2;exact q
  |xX nm d aB s1=>cases h2;exact q
def SX.set (i:Nat)(e:EX Γ):SX Γ where
 t:=λK W=>tAsg (e.t K W) (gName i)
 ev:=λρ s=>(e.ev ρ s).bind λx=>match x.1 with
  |.val vl=>some (.out (.nx (ρ.set i (BC vl)) x.2))
  |.xX nm d=>some (.xX nm d ρ x.2)
 ok:=by
  intro K sk F0 H0 F H σ ρ aj s out D W w h q
  obtain⟨⟨x,s1⟩,h1,h2⟩:=aI h
  dsimp only at h2
  refine e.ok K w.pre h1 (λvl e v F1 H1 as st k r f=>?_) (λnm d e v F1 H1 as dd st k r n e2=>?_)
  ·subst e
   cases h2
   obtain⟨aF,w'⟩:=w.u5 st k (i:=i) r f
   exact q F1 H1 _ aF st.sub w'
  ·subst e
   cases h2
   refine q v F1 H1 σ aj as dd st.sub (w.next st k) r ?_ e2
   cases z:H0 dd with
   |none=>rfl
   |some u=>exact absurd n (w.st.dm dd (by rw [z];exact nofun))
def SX.ret (e:EX Γ):SX Γ where
 t:=λK W=>tRet (e.t K W)
 ev:=λρ s=>(e.ev ρ s).bind λx=>match x.1 with
  |.val vl=>some (.out (.ret vl x.2))
  |.xX nm d=>some (.xX nm d ρ x.2)
 ok:=by
  intro K sk F0 H0 F H σ ρ aj s out D W w h q
  obtain⟨⟨x,s1⟩,h1,h2⟩:=aI h
  dsimp only at h2
  refine e.ok K w.pre h1 (λvl e v F1 H1 as st k r f=>?_) (λnm d e v F1 H1 as dd st k r n e2=>?_)
  ·subst e
   cases h2
   exact q v F1 H1 as (w.st.trans st) k r (w.ku f)
  ·subst e
   cases h2
   refine q v F1 H1 σ aj as dd st.sub (w.next st k) r ?_ e2
   cases z:H0 dd with
   |none=>rfl
   |some u=>exact absurd n (w.st.dm dd (by rw [z];exact nofun))
def SX.drop (e:EX Γ):SX Γ where
 t:=λK W=>tDrop (e.t K W)
 ev:=λρ s=>(e.ev ρ s).bind λx=>match x.1 with
  |.val vl=>some (.out (.nx ρ x.2))
  |.xX nm d=>some (.xX nm d ρ x.2)
 ok:=by
  intro K sk F0 H0 F H σ ρ aj s out D W w h q
  obtain⟨⟨x,s1⟩,h1,h2⟩:=aI h
  dsimp only at h2
  refine e.ok K w.pre h1 (λvl e v F1 H1 as st k r f=>?_) (λnm d e v F1 H1 as dd st k r n e2=>?_)
  ·subst e
   cases h2
   exact q F1 H1 σ aj st.sub (w.next st k)
  ·subst e
   cases h2
   refine q v F1 H1 σ aj as dd st.sub (w.next st k) r ?_ e2
   cases z:H0 dd with
   |none=>rfl
   |some u=>exact absurd n (w.st.dm dd (by rw [z];exact nofun))
structure Hx (Γ:vq)(ns:List Str)(i:Nat)(dat:PyData)(sk:Option Addr)(F H:Hp)(σ:L2.St)(a:Addr)(cls:Value)(d:Option Addr):Prop where
 slot:σ[i]? = some (some (.ref a))
 cls:∃nm∈ns,cls=.ref (Γ nm)
 val:∃dd v as,d=some dd/\H dd=some (Qy v)/\Rp F v dat as/\sk≠some dd
theorem Hx.step {ns:List Str}{i:Nat}{dat:PyData}{sk:Option Addr}{F H F1 H1:Hp}{σ:L2.St}{a:Addr}{cls:Value}{d:Option Addr}(h:Hx Γ ns i dat sk F H σ a cls d)(st:Step sk F H F1 H1):Hx Γ ns i dat sk F1 H1 σ a cls d:=by
 obtain⟨h1,h2,dd,v,as,e1,e2,r,n⟩:=h
 exact⟨h1,h2,dd,v,as,e1,st.fr _ _ n e2,r.mono st.sub,n⟩
def QE (Γ:vq)(ns:List Str)(i:Nat)(t:Frag->Addr->Value->Option Addr->TE)(ev:PyData->D8):Prop:=∀(K:Frag) {sk:Option Addr} {F H:Hp} {σ:L2.St} {ρ:List Slot} {aj:List (List Addr)} {s:ae} {a:Addr} {cls:Value} {d:Option Addr} {dat:PyData} {vl:Vl} {s':ae} {Q:VK},
 Pre sk F H σ ρ aj s->Hx Γ ns i dat sk F H σ a cls d->ev dat ρ s=some (vl,s')->(∀v F' H' as,Step sk F H F' H'->aZ sk F' H' s'->Rp F' v vl.1 as->bx vl.2 H as->Q v H')->t K a cls d σ H Q
structure EH (Γ:vq)(ns:List Str)(i:Nat) where
 t:Frag->Addr->Value->Option Addr->TE
 ev:PyData->D8
 ok:QE Γ ns i t ev
variable {ns:List Str}{i:Nat}
/-- e.value -/
def EH.val:EH Γ ns i where
 t:=λK a cls d=>MK (ns.map Γ) a cls d (tVar i)
 ev:=λdat _ s=>some ((dat,aH dat),s)
 ok:=by
  intro K sk F H σ ρ aj s a cls d dat vl s' Q p hx h q
  obtain⟨h1,⟨nm,hn,h2⟩,dd,v,as,e1,e2,r,n⟩:=hx
  cases h
  refine⟨.ref a,h1,rfl,Γ nm,KaA hn,h2,dd,v,e1,e2,q v F H as (.refl p.sub) p.aW r λz=>?_⟩
  rw [r.aH z];exact⟨KaI,λa m=>by cases m⟩
def QJ (Γ:vq)(ns:List Str)(i:Nat)(t:Frag->Addr->Value->Option Addr->TS)(ev:PyData->x9):Prop:=∀(K:Frag) {sk:Option Addr} {F0 H0 F H:Hp} {σ:L2.St} {ρ:List Slot} {aj:List (List Addr)} {s:ae} {a:Addr} {cls:Value} {d:Option Addr} {dat:PyData} {out:Out} {D:Ends},
 Wd sk F0 H0 F H σ ρ aj s->Hx Γ ns i dat sk F H σ a cls d->ev dat ρ s=some out->iY D sk F0 H0 F out->t K a cls d D σ H
structure SH (Γ:vq)(ns:List Str)(i:Nat) where
 t:Frag->Addr->Value->Option Addr->TS
 ev:PyData->x9
 ok:QJ Γ ns i t ev
def SH.set (j:Nat)(e:EH Γ ns i):SH Γ ns i where
 t:=λK a cls d=>tAsg (e.t K a cls d) (gName j)
 ev:=λdat ρ s=>(e.ev dat ρ s).bind λx=>some (.nx (ρ.set j (BC x.1)) x.2)
 ok:=by
  intro K sk F0 H0 F H σ ρ aj s a cls d dat out D w hx h q
  obtain⟨⟨x,s1⟩,h1,h2⟩:=aI h
  cases h2
  refine e.ok K w.pre hx h1 λv F1 H1 as st k r f=>?_
  obtain⟨aF,w'⟩:=w.u5 st k (i:=j) r f
  exact q F1 H1 _ aF st.sub w'
def SH.ret (e:EH Γ ns i):SH Γ ns i where
 t:=λK a cls d=>tRet (e.t K a cls d)
 ev:=λdat ρ s=>(e.ev dat ρ s).bind λx=>some (.ret x.1 x.2)
 ok:=by
  intro K sk F0 H0 F H σ ρ aj s a cls d dat out D w hx h q
  obtain⟨⟨x,s1⟩,h1,h2⟩:=aI h
  cases h2
  exact e.ok K w.pre hx h1 λv F1 H1 as st k r f=>q v F1 H1 as (w.st.trans st) k r (w.ku f)
end Pu
namespace Pu
open PySem PySem.Spec PyProof.Rows L2 Enc
inductive WN (α:Type) where
 |went (x:α)
 |num (n:Int)
deriving DecidableEq
instance {α:Type}:Inhabited (WN α):=⟨.num 0⟩
instance {α:Type}[Enc α]:Enc (WN α):=⟨λy=>match y with
 |.went x=>.tuple [.str "went",enc x]
 |.num n=>.tuple [.str "number",.int n]⟩
instance {α:Type}[bj α]:bj (WN α) where
 dec:=inferInstance
 dep:=bj.dep α+1
 lay:=λy=>by
  cases y with
  |went x=>
   show PyData.canLay0 (.tuple [.str "went",enc x])=true
   have h:PyData.strOk "went" = true:=by decide +kernel
   simp [PyData.canLay0,PyData.canLayAll0,bj.lay,h]
  |num n=>
   show PyData.canLay0 (.tuple [.str "number",.int n])=true
   have h:PyData.strOk "number" = true:=by decide +kernel
   simp [PyData.canLay0,PyData.canLayAll0,h]
 cB:=λy=>by
  cases y with
  |went x=>
   show PyData.depth (.tuple [.str "went",enc x])<=_
   have h1:=bj.cB x
   simp only [PyData.depth,PyData.depthAll];omega
  |num n=>
   show PyData.depth (.tuple [.str "number",.int n])<=_
   simp only [PyData.depth,PyData.depthAll];omega
 eqv:=λy z=>by
  have h1:(("went" : Str) == ("number" : Str))=false:=by decide +kernel
  have h2:(("number" : Str) == ("went" : Str))=false:=by decide +kernel
  cases y with
  |went x=>
   cases z with
   |went x2=>
    show PyData.eqv (.tuple [.str "went",enc x]) (.tuple [.str "went",enc x2])=_
    simp only [PyData.eqv,PyData.eqvAll,bj.eqv]
    simp
   |num n=>
    show PyData.eqv (.tuple [.str "went",enc x]) (.tuple [.str "number",.int n])=_
    have h3:("went" : Str)≠("number" : Str):=by decide +kernel
    simp only [PyData.eqv,PyData.eqvAll]
    simp [h3]
  |num n=>
   cases z with
   |went x=>
    show PyData.eqv (.tuple [.str "number",.int n]) (.tuple [.str "went",enc x])=_
    have h3:("number" : Str)≠("went" : Str):=by decide +kernel
    simp only [PyData.eqv,PyData.eqvAll]
    simp [h3]
   |num m=>
    show PyData.eqv (.tuple [.str "number",.int n]) (.tuple [.str "number",.int m])=_
    simp only [PyData.eqv,PyData.eqvAll]
    by_cases h:n=m <;> simp [h]
variable [aR]
section
variable {ρ aB cI:List Slot}{s s1 s2:ae}{i:Nat}{e e2:SE}{w:Bool}
theorem JE.Xs (z:Str):JE (SE.str z) ρ s z s true:=⟨true,rfl,λ_=>rfl⟩
theorem JE.went {α:Type}[Enc α]{x:α}(h:JE e ρ s x s1 w):JE (SE.tup (eK (SE.str "went") (eK e fK))) ρ s (WN.went x) s1 false:=(GR (JE.Xs "went") (GR h gK)).tup (by simp)
end
variable {Γ:vq}
/-- b goes: so Cp bX,alike -/
def Le (b:SS)(bX:SX Γ):Prop:=∀ρ s o,b.ev ρ s=some o->bX.ev ρ s=some (.out o)
theorem Le.never (x:SX Γ):Le LH x:=λρ s o h=>nomatch h
theorem Le.seq {a b:SS}{a' b':SX Γ}(ha:Le a a')(hb:Le b b'):Le (SS.ab a b) (SX.seq a' b'):=λρ s o h=>by
 obtain⟨p,h1,h2⟩:=aI h
 show ((a'.ev ρ s).bind _)=_
 rw [ha ρ s p h1]
 show Mz b'.ev (.out p)=_
 cases p with
 |nx aB s1=>exact hb aB s1 o h2
 |ret vl s1=>cases h2;rfl
 |brk aB s1=>cases h2;rfl
 |cnt aB s1=>cases h2;rfl
end Pu
namespace PySem.W
open PySem PySem.Spec PySem.Calls PyProof.Rows
end PySem.W
namespace L2
open PySem PySem.Spec PyProof.Rows
end L2
namespace Pu
open PySem PySem.Spec PyProof.Rows L2 Enc
variable [aR]
/-- a dict with texts as keys,bJ newest first -/
structure DT (β:Type) where
 l:List (Tx×β)
instance {β:Type}:Inhabited (DT β):=⟨⟨[]⟩⟩
instance {β:Type}[Enc β]:Enc (DT β):=⟨λx=>EC (x.l.map λp=>p.1.str) (x.l.map λp=>enc p.2)⟩
def DT.has {β:Type}(x:DT β)(t:Tx):Bool:=(aN x.l t).isSome
def DT.at {β:Type}[Inhabited β](x:DT β)(t:Tx):β:=(aN x.l t).getD default
end Pu
namespace Pu
open PySem PySem.Spec PyProof.Rows L2 Enc
variable [aR]
structure H4 (α β γ δ:Type) where
 x:α
 y:β
 z:γ
 u:δ
instance {α β γ δ:Type}[Enc α][Enc β][Enc γ][Enc δ]:Enc (H4 α β γ δ):=⟨λp=>.list [enc p.x,enc p.y,enc p.z,enc p.u]⟩
instance {α β γ δ:Type}[Inhabited α][Inhabited β][Inhabited γ][Inhabited δ]:Inhabited (H4 α β γ δ):=⟨⟨default,default,default,default⟩⟩
end Pu
namespace Pu
open PySem PySem.Spec PyProof.Rows L2 Enc
inductive Pw
 |both|either|but|next|last
 deriving DecidableEq,Inhabited
def Pw.tx:Pw->Tx
 |.both=>iW [98,111,116,104]
 |.either=>iW [101,105,116,104,101,114]
 |.but=>iW [98,117,116]
 |.next=>iW [110,101,120,116]
 |.last=>iW [108,97,115,116]
inductive Fe
 |on (ds:List Int)
 |ZY (t:Tx)
 |each (l f:Int)
 |date (m d:Int)
 |starts
 |ends
 |no (a:Fe)
 |moved (n:Int) (a:Fe)
 |X9 (n:Int) (a b:Fe)
 |pair (w:Pw) (a b:Fe)
 deriving Inhabited
def Fe.enc:Fe->PyData
 |.on ds=>.tuple [Enc.enc (Pu.iW [111,110]),Enc.enc ds]
 |.ZY t=>.tuple [Enc.enc (Pu.iW [110,97,109,101]),Enc.enc t]
 |.each l f=>.tuple [Enc.enc (Pu.iW [101,97,99,104]),Enc.enc l,Enc.enc f]
 |.date m d=>.tuple [Enc.enc (Pu.iW [100,97,116,101]),Enc.enc m,Enc.enc d]
 |.starts=>.tuple [Enc.enc (Pu.iW [115,116,97,114,116,115])]
 |.ends=>.tuple [Enc.enc (Pu.iW [101,110,100,115])]
 |.no a=>.tuple [Enc.enc (Pu.iW [110,111,116]),a.enc]
 |.moved n a=>.tuple [Enc.enc (Pu.iW [109,111,118,101,100]),Enc.enc n,a.enc]
 |.X9 n a b=>.tuple [Enc.enc (Pu.iW [110,116,104]),Enc.enc n,a.enc,b.enc]
 |.pair w a b=>.tuple [Enc.enc w.tx,a.enc,b.enc]
instance:Enc Fe:=⟨Fe.enc⟩
def Fe.dep:Fe->Nat
 |.no a=>a.dep+1
 |.moved _ a=>a.dep+1
 |.X9 _ a b=>max a.dep b.dep+1
 |.pair _ a b=>max a.dep b.dep+1
 |_=>0
def Fe.two (t:Tx)(a b:Fe):Fe:=.pair (if t=Pw.both.tx then .both else if t=Pw.either.tx then .either else if t=Pw.but.tx then .but else if t=Pw.next.tx then .next else .last) a b
variable [aR]
section
variable {ρ aB:List Slot}{s s1 s2:ae}{e a b:SE}{i j:Nat}{w w1 w2:Bool}{r:SA}
theorem zQ {c:ST}{x y:SS}{P:Prop}[Decidable P](h:JT c ρ s P s1):(dW c x y).ev ρ s=if P then x.ev ρ s1 else y.ev ρ s1:=by
 have h:c.ev ρ s=some (decide P,s1):=h
 show (c.ev ρ s).bind _=_
 rw [h]
 by_cases p:P
 ·rw [if_pos p,decide_eq_true p];rfl
 ·rw [if_neg p,decide_eq_false p];rfl
end
end Pu
namespace Pu
open PySem PySem.Spec PyProof.Rows L2 Enc
abbrev SetT:Type:=aV
inductive Nw
 |days|months|years|before
 deriving DecidableEq,Inhabited
def Nw.tx:Nw->Tx
 |.days=>iW [100,97,121,115]
 |.months=>iW [109,111,110,116,104,115]
 |.years=>iW [121,101,97,114,115]
 |.before=>iW [110,111,116,32,98,101,102,111,114,101]
/-- earlier,later -/
def V6 (l:Bool):Tx:=if l then iW [108,97,116,101,114] else iW [101,97,114,108,105,101,114]
/-- to,work -/
def CD (k:Bool):Tx:=if k then iW [119,111,114,107] else iW [116,111]
inductive pI
 |num (w:Nw) (n:Int)
 |go (f:Fe)
 |work (n:Int) (f:Fe)
 |pair (l:Bool) (a b:List pI)
 deriving Inhabited
inductive pH
 |num (w:Nw) (n:Int)
 |set (k:Bool) (n:Int) (t:SetT)
 |pair (l:Bool) (a b:List pH)
mutual
def pI.pY:pI->PyData
 |.num w n=>.tuple [Enc.enc w.tx,Enc.enc n]
 |.go f=>.tuple [Enc.enc (CD false),Enc.enc f]
 |.work n f=>.tuple [Enc.enc (CD true),Enc.enc n,Enc.enc f]
 |.pair l a b=>.tuple [Enc.enc (V6 l),.list (pI.ab a),.list (pI.ab b)]
def pI.ab:List pI->List PyData
 |[]=>[]
 |x::xs=>x.pY::pI.ab xs
end
mutual
def pH.pY:pH->PyData
 |.num w n=>.tuple [Enc.enc w.tx,Enc.enc n]
 |.set k n t=>.tuple [Enc.enc (CD k),Enc.enc n,Enc.enc t]
 |.pair l a b=>.tuple [Enc.enc (V6 l),.list (pH.ab a),.list (pH.ab b)]
def pH.ab:List pH->List PyData
 |[]=>[]
 |x::xs=>x.pY::pH.ab xs
end
instance:Enc pI:=⟨pI.pY⟩
instance:Enc pH:=⟨pH.pY⟩
mutual
def pI.dep:pI->Nat
 |.pair _ a b=>max (pI.kj a) (pI.kj b)+1
 |_=>0
def pI.kj:List pI->Nat
 |[]=>0
 |x::xs=>max x.dep (pI.kj xs)
end
mutual
def pH.dep:pH->Nat
 |.pair _ a b=>max (pH.kj a) (pH.kj b)+1
 |_=>0
def pH.kj:List pH->Nat
 |[]=>0
 |x::xs=>max x.dep (pH.kj xs)
end
variable [aR]
end Pu
namespace Pu
open PySem PySem.Spec PyProof.Rows PySem.W L2
open AutoSeq1 (wpAny_loadPart')
end Pu
namespace L2
open PySem PySem.Spec PyProof.Rows
end L2
namespace Pu
open PySem PySem.Spec PyProof.Rows L2 Enc
end Pu
set_option maxHeartbeats 4000000
namespace Pu
open PySem L2 Enc
end Pu
namespace Pu
open PySem PySem.Spec PyProof.Rows L2 Enc
end Pu
namespace Pu
open PySem PySem.Spec PyProof.Rows L2
end Pu
namespace Pu
open PySem PySem.Spec PyProof.Rows L2 Enc
section
variable [aR]
def SP.Ko (i:Nat)(e:SE)(r:SP):SP where
 t:=λK=>tCons (e.t K) (r.t K)
 ts:=i::r.ts
 ev:=λρ cf s=>(e.ev ρ s).bind λx=>match rL x.1.1 with
  |some (C,nm,ds)=>r.ev ρ (cf.set i (.ins C nm ds)) x.2
  |none=>none
 ok:=by
  intro K sk F0 H0 F H σ nQ ρ cf iw aj cu s s' Q p w h q
  obtain⟨⟨⟨x,fl⟩,s1⟩,h1,h⟩:=aI h
  dsimp only at h
  split at h
  ·rename_i C nm ds hu
   refine e.ok K p h1 λv F1 H1 as st k rr f=>?_
   have w1:=w.next st k
   obtain⟨a,dx,vs,rfl,hF,hl,r2⟩:=rr.CW hu
   obtain⟨m1,m2⟩:=vD (i:=i) (fp:=[]) (by rw [Ka5];exact w1.dj)
   refine r.ok K (p.next st k) (cu:=cu.set i []) ⟨w1.st,w1.aW,w1.slots.set (show uq sk F1 H1 (some (.ref a)) (.ins C nm ds) [] from ⟨rfl,a,dx,vs,as,rfl,hF,hl,r2⟩),m1,λb m=>?_⟩ h λvs' F2 H2 fv sF w2 hl=>?_
   ·rcases m2 b m with z|z
    ·cases z
    ·exact w1.bR b z
   ·exact q (.ref a::vs') F2 H2 fv (st.sub.trans sF) w2 (by rw [Kad,Kad,hl])
  ·cases h
theorem JP.ins {e:SE}{i C:Nat}{nm:List Str}{ρ aB cI:List Slot}{s s1 s2:ae}{w:Bool}{p:SP}{α:Type}{df:α->List PyData}{x v:α}(hx:x=v)(h:JE e ρ s (zS C nm (df v)) s1 w)(hp:JP p ρ (aB.set i (.ins C nm (df x))) s1 cI s2):JP (SP.Ko i e p) ρ aB s cI s2:=by
 subst hx
 obtain⟨_,h,_⟩:=h
 show (e.ev ρ s).bind _=_
 rw [h]
 show (match rL (zS C nm (df x)) with|some (C,nm,ds)=>_|none=>none)=_
 rw [ve]
 exact hp
end
variable [aR]
def Xy (ks:List Str)(ds:List PyData)(f:List (Str×PyData)):PyData:=EC (ks++[MT]) (ds++[Co false (f.map (·.1)) (f.map (·.2))])
end Pu
namespace Pu
open PySem PySem.Spec PyProof.Rows L2 Enc
end Pu
namespace Pu
open PySem PySem.Spec PyProof.Rows L2
end Pu
namespace Pu
open PySem PySem.Spec PyProof.Rows L2 Enc
/-- a dict with texts as keys,in its order -/
structure DO (β:Type) where
 l:List (Tx×β)
instance {β:Type}:Inhabited (DO β):=⟨⟨[]⟩⟩
instance {β:Type}[Enc β]:Enc (DO β):=⟨λx=>Co false (x.l.map λp=>p.1.str) (x.l.map λp=>enc p.2)⟩
def DO.has {β:Type}(x:DO β)(t:Tx):Bool:=(aN x.l t).isSome
def DO.at {β:Type}[Inhabited β](x:DO β)(t:Tx):β:=(aN x.l t).getD default
structure BQ where
 years:List (List Int)
 months:List (T4 Int Int Int Int)
 days:Int
 base:Int
 ahead:Int
 round:Int
 rows:DO (List Bool)
instance:Inhabited BQ:=⟨⟨[],[],0,0,0,0,default⟩⟩
def wks:List Str:=["round", "ahead", "base", "days", "months", "years"]
def BQ.ds (w:BQ):List PyData:=[enc w.round,enc w.ahead,enc w.base,enc w.days,enc w.months,enc w.years]
def BQ.fs (w:BQ):List (Str×PyData):=w.rows.l.map λp=>(p.1.str,enc p.2)
instance:Enc BQ:=⟨λw=>Xy wks w.ds w.fs⟩
def BQ.put (w:BQ)(t:Tx)(x:List Bool):BQ:={ w with rows:=⟨w.rows.l++[(t,x)]⟩ }
variable [aR]
end Pu
namespace Pu
open PySem PySem.Spec PyProof.Rows L2 Enc
def Fe.one (t:Tx):Fe:=if t=Pu.iW [115,116,97,114,116,115] then .starts else .ends
inductive pG
 |num (w:Nw) (n:Int)
 |row (k:Bool) (n:Int) (r:List Bool)
 |pair (l:Bool) (a b:List pG)
 deriving Inhabited
mutual
def pG.pY:pG->PyData
 |.num w n=>.tuple [Enc.enc w.tx,Enc.enc n]
 |.row k n r=>.tuple [Enc.enc (CD k),Enc.enc n,Enc.enc r]
 |.pair l a b=>.tuple [Enc.enc (V6 l),.list (pG.ab a),.list (pG.ab b)]
def pG.ab:List pG->List PyData
 |[]=>[]
 |x::xs=>x.pY::pG.ab xs
end
instance:Enc pG:=⟨pG.pY⟩
mutual
def pG.dep:pG->Nat
 |.pair _ a b=>max (pG.kj a) (pG.kj b)+1
 |_=>0
def pG.kj:List pG->Nat
 |[]=>0
 |x::xs=>max x.dep (pG.kj xs)
end
variable [aR]
section
variable {ρ aB:List Slot}{s s1 s2:ae}{a b:SS}{c:ST}{P:Prop}[Decidable P]
theorem JN.GZ (h:JT c ρ s P s1)(p:P)(ha:JN a ρ s1 aB s2):JN (dW c a b) ρ s aB s2:=by
 show (dW c a b).ev ρ s=_
 rw [zQ h,if_pos p];exact ha
theorem JN.LV (h:JT c ρ s P s1)(p:¬P)(hb:JN b ρ s1 aB s2):JN (dW c a b) ρ s aB s2:=by
 show (dW c a b).ev ρ s=_
 rw [zQ h,if_neg p];exact hb
end
noncomputable section
abbrev Pk:=Int×Bool
abbrev PS:=List (Pk×Int)×List Int
theorem Ab {κ β:Type}[DecidableEq κ]{f:List (κ×β)}{k:κ}{v:β}(h:¬((aN f k).isSome=true)):aN (d9 f k v) k=some v:=by
 unfold d9
 rw [if_neg h]
 induction f with
 |nil=>
  show (if k=k then some v else none)=_
  rw [if_pos rfl]
 |cons p f ih=>
  obtain⟨j,u⟩:=p
  have hj:¬j=k:=λz=>h (by
   show (if j=k then some u else aN f k).isSome=true
   rw [if_pos z];rfl)
  show (if j=k then some u else aN (f++[(k,v)]) k)=_
  rw [if_neg hj]
  refine ih λz=>h ?_
  show (if j=k then some u else aN f k).isSome=true
  rw [if_neg hj];exact z
theorem AJ {κ β:Type}[DecidableEq κ](f:List (κ×β))(k:κ)(v:β):(d9 f k v).length<=f.length+1:=by
 unfold d9
 split
 ·rw [Kaf];omega
 ·rw [Kan];exact Kap _
def Pp:SS:=SS.ab (uz 2 3 (SP.Hu 2 (Ju 3 (SP.nil))) (of_decide_eq_true rfl)) (SS.ab (lH (SI.vn (ai 0) (ai 1)) (SG.tup (jK (aQ 4) (jK (aQ 5) (cC.nil)))) (fu [4,5] (SS.ab (dW (ST.ab (Qh 2 (SE.tup (eK (ai 4) (eK (ai 5) (fK)))))) (WW 2 (SE.tup (eK (ai 4) (eK (ai 5) (fK)))) (SE.C4 2)) (SS.ag)) (EL 3 (P8 2 (SE.tup (eK (ai 4) (eK (ai 5) (fK))))))))) (GS 3 (SS.ac (SE.MO (ai 3)))))
def VJ:Fn:=fnOf 2 4 Pp
def xR (f:List (Pk×Int))(x:Pk):List (Pk×Int):=if ¬((aN f x).isSome=true) then d9 f x ((f.length:Nat):Int) else f
def FF (st:PS)(x:Pk):PS:=(xR st.1 x,st.2++[(aN (xR st.1 x) x).getD 0])
def lQ (lots:Ti)(truths:Tb):Ti:=⟨(Kas FF ([],[]) (Kba lots.l truths.l)).2⟩
def Cg (lots:Ti)(truths:Tb):Prop:=lots.l.length<90000
theorem C1 (f:List (Pk×Int))(x:Pk):aN (xR f x) x=some ((aN (xR f x) x).getD 0):=by
 unfold xR
 by_cases c:¬((aN f x).isSome=true)
 ·rw [if_pos c,Ab c];rfl
 ·rw [if_neg c]
  cases h:aN f x with
  |none=>exact absurd (by rw [h];exact Ka6) c
  |some y=>rfl
theorem G7 (f:List (Pk×Int))(x:Pk):(xR f x).length<=f.length+1:=by
 unfold xR
 split
 ·exact AJ _ _ _
 ·omega
theorem wI (cA:Ti)(eB:Tb)(s:ae)(h0:Cg cA eB):JF VJ [.e cA,.e eB] s (lQ cA eB) s false:=by
 refine eW rfl ?_
 unfold Pp lQ
 show JB _ [.e cA,.e eB,.emp,.emp,.emp,.emp] _ _
 refine JB.ab (aB:=[.e cA,.e eB,.bE (aP ([]:List (Pk×Int))),.aO (Kai enc ([]:List Int)) true,.emp,.emp]) (hxc (p:=SP.Hu 2 (Ju 3 (SP.nil))) rfl) ?_
 have key:∀(xs:List Pk) (st:PS),st.1.length+xs.length<95000->st.2.length+xs.length<95000->bW FF (λst _=>st.1.length<100000/\st.2.length<100000) xs st:=by
  intro xs
  induction xs with
  |nil=>intro st _ _;trivial
  |cons x xs ih=>
   intro st h1 h2
   rw [Kad] at h1 h2
   have h3:=G7 st.1 x
   refine⟨⟨by omega,by omega⟩,ih _ ?_ ?_⟩
   ·show (xR st.1 x).length+xs.length<_
    omega
   ·show (st.2++[_]).length+xs.length<_
    rw [Kan,KaL];omega
 have hz:(Kba cA.l eB.l).length<=cA.l.length:=by rw [Kb0];omega
 have h0:cA.l.length<90000:=h0
 refine JB.ab (aB:=[.e cA,.e eB,.bE (aP (Kas FF ([],[]) (Kba cA.l eB.l)).1),.aO (Kai enc (Kas FF ([],[]) (Kba cA.l eB.l)).2) true,.emp,.emp]) (wm (J:=λ(st:PS)=>[.e cA,.e eB,.bE (aP st.1),.aO (Kai enc st.2) true,.emp,.emp]) (R:=λ(st:PS) (x:Pk)=>[.e cA,.e eB,.bE (aP st.1),.aO (Kai enc st.2) true,.e x.1,.e x.2]) (f:=FF) (d:=λst _=>st.1.length<100000/\st.2.length<100000) (st:=([],[])) (JI.vn (ak rfl) (ak rfl)) rfl (λ_ _=>rfl) ?_ (key _ _ (by show 0+_<_;omega) (by show 0+_<_;omega)) rfl) ?_
 ·intro st x hd
  obtain⟨h1,h2⟩:=hd
  refine lI ?_
  refine JB.ab (s1:=s) (aB:=[.e cA,.e eB,.bE (aP (xR st.1 x)),.aO (Kai enc st.2) true,.e x.1,.e x.2]) ?_ ?_
  ·unfold xR
   by_cases c:¬((aN st.1 x).isSome=true)
   ·rw [if_pos c]
    exact JN.GZ (JT.ab (hjl (x:=x) rfl (zF (iK (ak rfl) (iK (ak rfl) (gK)))))) c (JN.ED (j:=x) rfl (JE.C4 rfl) (zF (iK (ak rfl) (iK (ak rfl) (gK)))) h1)
   ·rw [if_neg c]
    exact JN.LV (JT.ab (hjl (x:=x) rfl (zF (iK (ak rfl) (iK (ak rfl) (gK)))))) c rfl
  ·refine JB.ac (s1:=s) (aB:=[.e cA,.e eB,.bE (aP (xR st.1 x)),.aO (Kai enc (st.2++[(aN (xR st.1 x) x).getD 0])) true,.e x.1,.e x.2]) (WO rfl (JE.Gk (x:=x) rfl (zF (iK (ak rfl) (iK (ak rfl) (gK)))) (C1 st.1 x)) h2) ?_
   exact rfl
 refine JB.frz (i:=3) rfl ?_
 show JB _ [.e cA,.e eB,.bE (aP (Kas FF ([],[]) (Kba cA.l eB.l)).1),.dat (enc (Kas FF ([],[]) (Kba cA.l eB.l)).2),.emp,.emp] _ _
 exact JB.ag (jB (JE.MP (ak rfl)))
abbrev LW:=List (Ti×List Int)
def FY:SS:=SS.ab (SS.Dg 2) (SS.ap 0 (lH (SI.n_ 0) (SG.tup (jK (aQ 3) (jK (aQ 4) (cC.nil)))) (fu [3,4,5,6,7,8] (lH (SI.list (ai 1)) (SG.tup (jK (aQ 5) (jK (aQ 6) (cC.nil)))) (fu [5,6,7,8] (SS.ab (dh 7 (SE.ac VJ (cK (ai 3) (cK (ai 6) (dK))))) (dW (ST.ab (zO (ai 7) (ai 3))) (SS.ab (dh 8 (Qg (SE.lst (Qk (ai 4) (eK (ai 5) (fK)))))) (dW (uB (ST.ab (Qh 2 (ai 7))) (ST.ab (SE.Qp (ai 8) (P8 2 (ai 7))))) (WW 2 (ai 7) (ai 8)) (SS.ag))) (SS.ag))))))))
def Bt (x1:Ti×List Int)(st:LW)(x2:Int×Tb):LW:=
 if lQ x1.1 x2.2≠x1.1 then (if ¬((aN st (lQ x1.1 x2.2)).isSome=true)∨HT.lexLt (sortI (x1.2++[x2.1])) ((aN st (lQ x1.1 x2.2)).getD [])=true then d9 st (lQ x1.1 x2.2) (sortI (x1.2++[x2.1])) else st) else st
def M6 (x1:Ti×List Int)(st:LW)(x2:Int×Tb):Prop:=Cg x1.1 x2.2/\(x1.2++[x2.1]).length<=100000/\st.length<100000
def JV (ways:List (Int×Tb))(st:LW)(x1:Ti×List Int):LW:=Kas (Bt x1) st ways
def QS (ways:List (Int×Tb))(st:LW)(x1:Ti×List Int):Prop:=bW (Bt x1) (M6 x1) ways st
def xE (level:LW)(ways:List (Int×Tb)):LW:=Kas (JV ways) [] level
def vH (level:LW)(ways:List (Int×Tb)):Prop:=bW (JV ways) (QS ways) level []
theorem iP (oY:LW)(b9:List (Int×Tb))(s:ae)(h0:vH oY b9):JN FY ([.bE (aP oY),.e b9]++Kah 7 .emp) s [.iA (aP oY),.e b9,.bE (aP (xE oY b9)),.emp,.emp,.emp,.emp,.emp,.emp] s:=by
 have key:JB FY [.bE (aP oY),.e b9,.emp,.emp,.emp,.emp,.emp,.emp,.emp] s (λo=>o=.nx [.iA (aP oY),.e b9,.bE (aP (xE oY b9)),.emp,.emp,.emp,.emp,.emp,.emp] s):=by
  unfold FY
  refine JB.ab (aB:=[.bE (aP oY),.e b9,.bE (aP ([]:LW)),.emp,.emp,.emp,.emp,.emp,.emp]) JN.Dg ?_
  refine JB.frzK rfl ?_
  show JB _ [.iA (aP oY),.e b9,.bE (aP ([]:LW)),.emp,.emp,.emp,.emp,.emp,.emp] _ _
  refine JB.ac (wm (J:=λ(st:LW)=>[.iA (aP oY),.e b9,.bE (aP st),.emp,.emp,.emp,.emp,.emp,.emp]) (R:=λ(st:LW) (x1:Ti×List Int)=>[.iA (aP oY),.e b9,.bE (aP st),.e x1.1,.e x1.2,.emp,.emp,.emp,.emp]) (f:=JV b9) (d:=QS b9) (st:=[]) (JI.n_ rfl) rfl (λ_ _=>rfl) ?_ h0 rfl) rfl
  intro st x1 hd
  refine lI ?_
  refine JB.ac (wm (J:=λ(st:LW)=>[.iA (aP oY),.e b9,.bE (aP st),.e x1.1,.e x1.2,.emp,.emp,.emp,.emp]) (R:=λ(st:LW) (x2:Int×Tb)=>[.iA (aP oY),.e b9,.bE (aP st),.e x1.1,.e x1.2,.e x2.1,.e x2.2,.emp,.emp]) (f:=Bt x1) (d:=M6 x1) (st:=st) (JI.list (ak rfl)) rfl (λ_ _=>rfl) ?_ hd rfl) rfl
  intro st x2 hd
  obtain⟨h1,h2,h3⟩:=hd
  unfold Bt
  refine lI ?_
  refine JB.ab (aB:=[.iA (aP oY),.e b9,.bE (aP st),.e x1.1,.e x1.2,.e x2.1,.e x2.2,.dat (enc (lQ x1.1 x2.2)),.emp]) (JN.set (JE.ac (aK (ak rfl) (aK (ak rfl) (bK))) (wI x1.1 x2.2 _ h1))) ?_
  refine wB (JT.ab (JE.ne (α:=Ti) (ak rfl) (ak rfl))) ?_ ?_
  ·intro hq
   have hs:JE (SE.lst (Qk (ai 4) (eK (ai 5) (fK)))) [.iA (aP oY),.e b9,.bE (aP st),.e x1.1,.e x1.2,.e x2.1,.e x2.2,.dat (enc (lQ x1.1 x2.2)),.emp] s (x1.2++[x2.1]) s true:=JE.W7 (xs:=(x1.2++[x2.1])) (JA.MG (ak rfl) (iK (ak rfl) (gK))) (by simp only [KaH,Kag,Kb7,KaV,Kcp,Ka5,KaC]) h2
   refine JB.ab (aB:=[.iA (aP oY),.e b9,.bE (aP st),.e x1.1,.e x1.2,.e x2.1,.e x2.2,.dat (enc (lQ x1.1 x2.2)),.dat (enc (sortI (x1.2++[x2.1])))]) (JN.set (JE.ag hs)) ?_
   refine wB (BK (JT.ab (hjl rfl (ak rfl))) (λhn=>JT.ab (P:=HT.lexLt (sortI (x1.2++[x2.1])) ((aN st (lQ x1.1 x2.2)).getD [])=true) (by
    have hy:aN st (lQ x1.1 x2.2)=some ((aN st (lQ x1.1 x2.2)).getD []):=by
     cases h:aN st (lQ x1.1 x2.2) with
     |none=>exact absurd (by rw [h];exact Ka6) hn
     |some y=>rfl
    have:=JE.Qp (ak (i:=8) (x:=sortI (x1.2++[x2.1])) (ρ:=[.iA (aP oY),.e b9,.bE (aP st),.e x1.1,.e x1.2,.e x2.1,.e x2.2,.dat (enc (lQ x1.1 x2.2)),.dat (enc (sortI (x1.2++[x2.1])))]) (s:=s) rfl) (JE.Gk (i:=2) (f:=st) rfl (ak (i:=7) rfl) hy)
    rw [Kbx]
    exact this))) ?_ ?_
   ·intro _
    refine JB.ac (aB:=[.iA (aP oY),.e b9,.bE (aP (d9 st (lQ x1.1 x2.2) (sortI (x1.2++[x2.1])))),.e x1.1,.e x1.2,.e x2.1,.e x2.2,.dat (enc (lQ x1.1 x2.2)),.dat (enc (sortI (x1.2++[x2.1])))]) (JN.ED rfl (ak rfl) (ak rfl) h3) ?_
    exact rfl
   ·intro _
    exact JB.al rfl
  ·intro hq
   exact JB.al rfl
 obtain⟨o,e,rfl⟩:=key
 exact e
def mY:Nat:=1000
def NX:SS:=SS.ab (GY (SE.ac N3 (cK (ai 0) (dK)))) (SS.ab (dh 1 (SE.ac Oo (cK (ai 0) (dK)))) (SS.ab (dW (ST.ab (qk (iB (ai 1)) (SE.ab 2))) (SS.ac (SE.lst (fK))) (SS.ag)) (SS.ab (dh 2 (SE.ac OR (cK (ai 1) (dK)))) (SS.ab (SS.sY 3 (SE.De (SE.tup (eK (SE.ab 0) (fK))) (iB (ai 1))) (SE.lst (fK))) (SS.ab (dh 4 (SE.oV (iB (ai 1)))) (SS.ab (CH mY (ST.ab (Qh 3 (ai 4))) (SS.u4 3 7 2 FY (ai 2))) (SS.ac (P8 3 (ai 4)))))))))
def RD:Fn:=fnOf 1 4 NX
abbrev Ij:=aV
def vW (unlike:List Ij):Ti:=⟨rng 0 ((unlike.length:Nat):Int)⟩
def Gy (unlike:List Ij):LW:=[(⟨Kah ((unlike.length:Nat):Int).toNat 0⟩,[])]
def GL (unlike:List Ij):LW:=jS (λl:LW=>¬((aN l (vW unlike)).isSome=true)) (λl=>xE l (jR unlike)) mY (Gy unlike)
def BU (aa:List Ij):List Int:=
 if (((dN aa).length:Nat):Int)<2 then [] else (aN (GL (dN aa)) (vW (dN aa))).getD []
def yE (aa:List Ij):Prop:=
 xG aa/\rS aa/\(¬((((dN aa).length:Nat):Int)<2)->vQ (dN aa)/\(dN aa).length<=1000 /\
  rT (λl:LW=>¬((aN l (vW (dN aa))).isSome=true)) (λl=>xE l (jR (dN aa))) (λ_=>True) (λl=>vH l (jR (dN aa))) mY (Gy (dN aa)) /\
  (aN (GL (dN aa)) (vW (dN aa))).isSome=true)
theorem jC (aa:List Ij)(s:ae)(h0:yE aa):JF RD [.e aa] s (BU aa) s false:=by
 obtain⟨h1,h2,h3⟩:=h0
 refine eW rfl ?_
 unfold NX BU
 generalize hu:dN aa=cJ at *
 show JB _ [.e aa,.emp,.emp,.emp,.emp] _ _
 refine JB.ab (aB:=[.e aa,.emp,.emp,.emp,.emp]) (LS (JE.ac (aK (ak rfl) (bK)) (fR aa _ h1))) ?_
 refine JB.ab (aB:=[.e aa,.e cJ,.emp,.emp,.emp]) (d7 (JE.ac (aK (ak rfl) (bK)) (gX aa _ h2)) hu.symm) ?_
 refine zP (JT.ab (wF (jT (ak (x:=cJ) rfl)) (JE.ab 2))) ?_ (λ_=>JD) ?_
 ·intro hq
  exact JB.ag (jB (JE.lst (xs:=[]) gK))
 ·intro hq
  obtain⟨p1,p2,p3,p4⟩:=h3 hq
  refine xY ?_
  have hn:2<=((cJ.length:Nat):Int)/\((cJ.length:Nat):Int)<=1000:=by omega
  refine JB.ab (aB:=[.e aa,.e cJ,.dat (enc (jR cJ)),.emp,.emp]) (JN.set (JE.ac (aK (ak rfl) (bK)) (jd cJ _ p1))) ?_
  refine JB.ab (aB:=[.e aa,.e cJ,.dat (enc (jR cJ)),.bE (aP (Gy cJ)),.emp]) (JN.sY (x:=(⟨Kah ((cJ.length:Nat):Int).toNat 0⟩:Ti)) (y:=([]:List Int)) (JE.De (JE.ab 0) (jT (ak (x:=cJ) rfl)) hn) (JE.lst (xs:=[]) gK)) ?_
  refine JB.ab (aB:=[.e aa,.e cJ,.dat (enc (jR cJ)),.bE (aP (Gy cJ)),.dat (enc (vW cJ))]) (JN.set (JE.oV (jT (ak (x:=cJ) rfl)) ⟨by omega,by omega⟩)) ?_
  refine JB.ab (aB:=[.e aa,.e cJ,.dat (enc (jR cJ)),.bE (aP (GL cJ)),.dat (enc (vW cJ))]) (GQ (J:=λ(l:LW)=>[.e aa,.e cJ,.dat (enc (jR cJ)),.bE (aP l),.dat (enc (vW cJ))]) (C:=λl:LW=>¬((aN l (vW cJ)).isSome=true)) (f:=λl=>xE l (jR cJ)) (dc:=λ_=>True) (d:=λl=>vH l (jR cJ)) (st:=Gy cJ) rfl (λl _=>JT.ab (hjl rfl (ak rfl))) (λl hl=>JB.ac (JN.u4 (f:=l) rfl (ak rfl) rfl (iP l (jR cJ) _ hl) rfl rfl) rfl) p3 rfl) ?_
  have hy:aN (GL cJ) (vW cJ)=some ((aN (GL cJ) (vW cJ)).getD []):=by
   cases h:aN (GL cJ) (vW cJ) with
   |none=>rw [h] at p4;cases p4
   |some y=>rfl
  exact JB.ag (JE.Gk rfl (ak rfl) hy)
end
end Pu
namespace Pu
variable [aR]
open PySem PySem.Spec PyProof.Rows L2
def zU:PyData->Bool
 |.int _=>true
 |.bool _=>true
 |_=>false
def WI (e:SE):SE where
 t:=λK=>tCB (rIsi K) (tCons (e.t K) (tCons (tC (.ty "int")) tNil))
 ev:=λρ s=>(e.ev ρ s).bind λx=>match x.1.1 with
  |.dict _=>none
  |d=>some ((.bool (zU d),true),x.2)
 ok:=by
  intro K sk F H σ ρ aj s vl s' Q p h q
  obtain⟨⟨⟨x,fl⟩,s1⟩,h1,h2⟩:=aI h
  dsimp only at h2
  refine e.ok K p h1 λv F1 H1 as st k r f=>?_
  cases r with
  |non=>
   cases h2
   exact⟨_,.ty "int",.type "NoneType",.type "int",false,rfl,.ty _,.base .non,kit_ty (by decide +kernel),q _ F1 H1 [] st k (.bl _) .nil⟩
  |bl b=>
   cases h2
   exact⟨_,.ty "int",.type "bool",.type "int",true,rfl,.ty _,.base (.bl b),kit_ty (by decide +kernel),q _ F1 H1 [] st k (.bl _) .nil⟩
  |int i=>
   cases h2
   exact⟨_,.ty "int",.type "int",.type "int",true,rfl,.ty _,.base (.int i),kit_ty (by decide +kernel),q _ F1 H1 [] st k (.bl _) .nil⟩
  |str y=>
   cases h2
   exact⟨_,.ty "int",.type "str",.type "int",false,rfl,.ty _,.base (.str y),kit_ty (by decide +kernel),q _ F1 H1 [] st k (.bl _) .nil⟩
  |lst ha hr=>
   cases h2
   exact⟨_,.ty "int",.type "list",.type "int",false,rfl,.ty _,.base (.lst (st.sub' _ _ ha)),kit_ty (by decide +kernel),q _ F1 H1 [] st k (.bl _) .nil⟩
  |tup ha hr=>
   cases h2
   exact⟨_,.ty "int",.type "tuple",.type "int",false,rfl,.ty _,.base (.tup (st.sub' _ _ ha)),kit_ty (by decide +kernel),q _ F1 H1 [] st k (.bl _) .nil⟩
  |tupP ha hc hr=>cases h2
  |kL ha hc hr=>cases h2
  |lV ha hc hk hr=>cases h2
  |lU ha hc hr=>cases h2
section
variable {ρ:List Slot}{s s1:ae}{a:SE}{w1:Bool}
theorem zV:(WI a).ev ρ s=(a.ev ρ s).bind λx=>match x.1.1 with|.dict _=>none|d=>some ((.bool (zU d),true),x.2):=rfl
end
end Pu
namespace Pu
variable [aR]
open PySem PySem.Spec PyProof.Rows L2
def EW:PyData->Bool
 |.bool _=>true
 |_=>false
def SE.G2 (e:SE):SE where
 t:=λK=>tCB (rIsi K) (tCons (e.t K) (tCons (tC (.ty "bool")) tNil))
 ev:=λρ s=>(e.ev ρ s).bind λx=>match x.1.1 with
  |.dict _=>none
  |d=>some ((.bool (EW d),true),x.2)
 ok:=by
  intro K sk F H σ ρ aj s vl s' Q p h q
  obtain⟨⟨⟨x,fl⟩,s1⟩,h1,h2⟩:=aI h
  dsimp only at h2
  refine e.ok K p h1 λv F1 H1 as st k r f=>?_
  cases r with
  |non=>
   cases h2
   exact⟨_,.ty "bool",.type "NoneType",.type "bool",false,rfl,.ty _,.base .non,kit_ty (by decide +kernel),q _ F1 H1 [] st k (.bl _) .nil⟩
  |bl b=>
   cases h2
   exact⟨_,.ty "bool",.type "bool",.type "bool",true,rfl,.ty _,.base (.bl b),kit_ty (by decide +kernel),q _ F1 H1 [] st k (.bl _) .nil⟩
  |int i=>
   cases h2
   exact⟨_,.ty "bool",.type "int",.type "bool",false,rfl,.ty _,.base (.int i),kit_ty (by decide +kernel),q _ F1 H1 [] st k (.bl _) .nil⟩
  |str y=>
   cases h2
   exact⟨_,.ty "bool",.type "str",.type "bool",false,rfl,.ty _,.base (.str y),kit_ty (by decide +kernel),q _ F1 H1 [] st k (.bl _) .nil⟩
  |lst ha hr=>
   cases h2
   exact⟨_,.ty "bool",.type "list",.type "bool",false,rfl,.ty _,.base (.lst (st.sub' _ _ ha)),kit_ty (by decide +kernel),q _ F1 H1 [] st k (.bl _) .nil⟩
  |tup ha hr=>
   cases h2
   exact⟨_,.ty "bool",.type "tuple",.type "bool",false,rfl,.ty _,.base (.tup (st.sub' _ _ ha)),kit_ty (by decide +kernel),q _ F1 H1 [] st k (.bl _) .nil⟩
  |tupP ha hc hr=>cases h2
  |kL ha hc hr=>cases h2
  |lV ha hc hk hr=>cases h2
  |lU ha hc hr=>cases h2
section
variable {ρ:List Slot}{s s1:ae}{a:SE}{w1:Bool}
theorem CY:(SE.G2 a).ev ρ s=(a.ev ρ s).bind λx=>match x.1.1 with|.dict _=>none|d=>some ((.bool (EW d),true),x.2):=rfl
theorem JE.LX {x:Option Int}(ha:JE a ρ s x s1 w1):JE (SE.G2 a) ρ s false s1 true:=by
 obtain⟨_,ea,_⟩:=ha
 refine⟨true,?_,λ_=>rfl⟩
 rw [CY,ea]
 cases x <;> rfl
end
end Pu
namespace Pu
open PySem PySem.Spec PyProof.Rows L2 Enc
noncomputable section
theorem JE.Dq {α:Type}[bj α][DecidableEq α]{ρ:List Slot}{s s1 s2:ae}{a b:SE}{w1 w2:Bool}{x:α}{xs:List α}{q:Decidable (x∉xs)}(ha:JE a ρ s x s1 w1)(hb:JE b ρ s1 xs s2 w2)(hd:bj.dep α<=63:=by decide):JE (hxa a b) ρ s (@decide (x∉xs) q) s2 true:=by
 have h:=JE.Au (inst:=inferInstance) ha hb hd
 have gen:∀q':Decidable (x∉xs),JE (hxa a b) ρ s (@decide (x∉xs) q') s2 true->JE (hxa a b) ρ s (@decide (x∉xs) q) s2 true:=λq' h=>by
  cases (Subsingleton.elim q' q)
  exact h
 exact gen _ h
theorem JE.G3 {ρ:List Slot}{s s1:ae}{a:SE}{w1:Bool}{x:Option Int}(ha:JE a ρ s x s1 w1):JE (WI a) ρ s (KaQ x) s1 true:=by
 obtain⟨_,ea,_⟩:=ha
 refine⟨true,?_,λ_=>rfl⟩
 rw [zV,ea]
 cases x <;> rfl
end
section
variable {σ α γ:Type}[Enc γ][Enc α]{w w1:Bool}{ρ:List Slot}{s s1:ae}{a b A B rest:SS}{is:List Nat}{it:SI}{g:SG}{xs:List α}{c:ST}{e:SE}{P:Prop}[Decidable P]
/-- what a W6 body Cp: hand back,break,go on -/
def QB (w:Bool)(J:σ->List Slot)(s':ae)(x:(γ ⊕ σ) ⊕ σ):Out->Prop:=match x with
 |.inl (.inl r)=>jt w s' r
 |.inl (.inr st)=>λo=>o=.brk (J st) s'
 |.inr st=>Bo J s' st
def JR (w:Bool)(is:List Nat)(J:σ->List Slot)(s':ae)(x:(γ ⊕ σ) ⊕ σ):Out->Prop:=match x with
 |.inl (.inl r)=>jt w s' r
 |.inl (.inr st)=>λo=>Ii is o=.brk (J st) s'
 |.inr st=>MX is J s' st
variable {J:σ->List Slot}
theorem JB.Ih {x:(γ ⊕ σ) ⊕ σ}(h:JB a ρ s (JR w is J s1 x)):JB (fu is a) ρ s (QB w J s1 x):=by
 obtain⟨o,h,q⟩:=h
 refine⟨_,by show (a.ev ρ s).map _=_;rw [h];rfl,?_⟩
 rcases x with (r|st)|st
 ·obtain⟨w',rfl,q⟩:=q
  exact⟨w',rfl,q⟩
 ·exact q
 ·exact q
theorem JB.AR {x:γ}(h:JE e ρ s x s1 w):JB (SS.ac e) ρ s (JR w is J s1 (.inl (.inl x))):=JB.ag h
theorem JB.FN {st:σ}(h:aU ρ is=J st):JB SS.brk ρ s (JR (γ:=γ) w is J s (.inl (.inr st))):=⟨_,rfl,by show Out.brk _ _=_;rw [h]⟩
theorem d_.W9 {x:γ}:d_ (JR (σ:=σ) w is J s (.inl (.inl x))):=λo ⟨w',h,_⟩=>⟨_,_,h⟩
theorem tN.W9 {st:σ}:tN (JR (γ:=γ) w is J s (.inl (.inr st))):=λo h=>by
 cases o with
 |brk ρ' s'=>exact⟨_,_,rfl⟩
 |nx ρ' s'=>cases h
 |ret v s'=>cases h
 |cnt ρ' s'=>cases h
theorem uw {R:σ->α->List Slot}{f:σ->α->(γ ⊕ σ) ⊕ σ}{d:σ->α->Prop}(hg:∀st x,g.ev (enc x) (J st)=some (R st x))(hb:∀st x,d st x->JB b (R st x) s (QB w J s (f st x))):∀{xs:List α} {st:σ},fP f d xs st->∃o,forL g.ev b.ev (xs.map enc) (J st) s=some o/\Ik w J s (cY (forR f xs st) id Sum.inr) o
 |[],st,_=>⟨_,rfl,rfl⟩
 |x::xs,st,h=>by
  obtain⟨h1,h2⟩:=h
  obtain⟨o,e,q⟩:=hb st x h1
  rw [Kag]
  unfold forL forR
  rw [hg];simp only [Kae]
  rw [e];simp only [Kae]
  rcases hf:f st x with (r|st')|st'
  ·rw [hf] at q
   obtain⟨w',rfl,q2⟩:=q
   exact⟨_,rfl,w',rfl,q2⟩
  ·rw [hf] at q
   cases (show o=.brk (J st') s from q)
   exact⟨_,rfl,rfl⟩
  ·rw [hf] at q h2
   cases (show o=.nx (J st') s from q)
   exact uw hg hb h2
/-- a loop dF may hand back or break;then bJ rest -/
theorem JB.Lg {β:Type}{R:σ->α->List Slot}{f:σ->α->(γ ⊕ σ) ⊕ σ}{d:σ->α->Prop}{st:σ}{Ψ:β->Out->Prop}{inj:γ->β}{F:σ->β}(hi:JI it ρ s xs s1)(e0:ρ=J st)(hg:∀st x,g.ev (enc x) (J st)=some (R st x))(hb:∀st x,d st x->JB b (R st x) s1 (QB w J s1 (f st x)))(hd:fP f d xs st)
  (hr:∀r o,jt w s1 r o->Ψ (inj r) o) (hk:∀st',cY (Pu.forR f xs st) id Sum.inr=.inr st'->JB rest (J st') s1 (Ψ (F st'))):JB (SS.ab (lH it g b) rest) ρ s (Ψ (cY (cY (Pu.forR f xs st) id Sum.inr) inj F)):=by
 unfold JI at hi
 subst e0
 obtain⟨o,h,q⟩:=uw hg hb hd
 cases hf:cY (Pu.forR f xs st) id Sum.inr with
 |inl r=>
  rw [hf] at q
  have q0:=q
  obtain⟨w',rfl,q2⟩:=q
  refine⟨_,?_,hr r _ q0⟩
  rw [v9,Gv,hi];simp only [Kae]
  rw [h];rfl
 |inr st'=>
  rw [hf] at q
  cases (show o=.nx (J st') s1 from q)
  obtain⟨o2,h2,q2⟩:=hk st' hf
  refine⟨o2,?_,q2⟩
  rw [v9,Gv,hi];simp only [Kae]
  rw [h];exact h2
end
end Pu
namespace Pu
open PySem PySem.Spec PyProof.Rows L2
end Pu
namespace Pu
open PySem L2 Enc
def mC:SS:=SS.ab (dW (ST.ab (hxs (zD 0 0) (SE.ab 0))) (SS.ab (dh 2 (sR (uy (zD 0 0)) (ai 1))) (SS.ab (LQ 0 0 (ux (zD 0 0) (ai 1))) (SS.ac (ai 2)))) (SS.ag)) (SS.ab (LQ 0 2 (gr (zD 0 2) (SE.ab 1))) (SS.ab (dh 3 (sR (uy (hxk (gr (zD 0 1) (wD (SE.ab 1500450271) (zD 0 2))) (SE.ab 3))) (gr (hxk (SE.ab 10) (SE.ab 40)) (SE.ab 121)))) (SS.ab (dh 3 (sR (uy (hxk (gr (ai 3) (wD (SE.ab 32416190071) (zD 0 2))) (SE.ab 2))) (gr (hxk (SE.ab 10) (SE.ab 37)) (SE.ab 43)))) (SS.ac (sR (uy (ux (ai 3) (SE.ab 6700417))) (ai 1))))))
def lP:Fn:=fnOf 2 2 mC
def bw (s:ae)(many1:Int):(Int)×ae:=
 if (0:Int)<s.1 then
 lt ((s.1 % many1)) λLr=>
 lt (((s.1 / many1),s.2.1,s.2.2)) λs1=>
 (Lr,s1)
 else
 lt ((s.1,s.2.1,(s.2.2+(1:Int)))) λs2=>
 lt ((((s2.2.1+((1500450271:Int)*s2.2.2)) ^ (Kbr (3:Int))) % (((10:Int) ^ (Kbr (40:Int)))+(121:Int)))) λJg=>
 lt ((((Jg+((32416190071:Int)*s2.2.2)) ^ (Kbr (2:Int))) % (((10:Int) ^ (Kbr (37:Int)))+(43:Int)))) λO0=>
 (((O0 / (6700417:Int)) % many1),s2)
def fH (s:ae)(many1:Int):Prop:=
 (((0:Int)<s.1)->(0<many1/\(bG ((s.1 % many1)) λLr=>
 (0<many1/\many1<1000000000000000000000000000000000000000000000000000000000000))))/\(¬((0:Int)<s.1)->((bG ((s.1,s.2.1,(s.2.2+(1:Int)))) λs2=>
 eL (s2.2.1+((1500450271:Int)*s2.2.2)) (3:Int)=true/\0<(((10:Int) ^ (Kbr (40:Int)))+(121:Int))/\(bG ((((s2.2.1+((1500450271:Int)*s2.2.2)) ^ (Kbr (3:Int))) % (((10:Int) ^ (Kbr (40:Int)))+(121:Int)))) λJg=>
 eL (Jg+((32416190071:Int)*s2.2.2)) (2:Int)=true/\0<(((10:Int) ^ (Kbr (37:Int)))+(43:Int))/\(bG ((((Jg+((32416190071:Int)*s2.2.2)) ^ (Kbr (2:Int))) % (((10:Int) ^ (Kbr (37:Int)))+(43:Int)))) λO0=>
 0<many1)))))
theorem pL (s:ae)(many1:Int)(h0:fH s many1):JF lP [.bC,.e many1] s (bw s many1).1 (bw s many1).2 false:=by
 unfold fH at h0
 obtain⟨h12,h13⟩:=h0
 refine JF.Qt rfl ?_
 unfold bw mC
 show JB _ [.bC,.e many1,.emp,.emp] _ _
 refine zP (JT.ab (JE.gt (JE.MB rfl) (JE.ab 0))) ?_ (λ_=>d_.ps) ?_
 ·intro hq
  obtain⟨h1,h3⟩:=h12 hq
  refine a_ λLr e1=>?_
  have h2:=b5 h3 e1
  refine JB.ab (aB:=[.bC,.e many1,.e Lr,.emp]) (d7 (x6 (Jx (JE.MB rfl)) (ak rfl) h1) e1) ?_
  refine a_ λs1 e2=>?_
  refine JB.ab (aB:=[.bC,.e many1,.e Lr,.emp]) (JN.MB rfl (zI (JE.MB rfl) (ak rfl) h2) e2) ?_
  exact Qj (ak rfl)
 intro hq
 have h11:=h13 hq
 refine xY ?_
 refine a_ λs2 e3=>?_
 obtain⟨h4,h5,h10⟩:=b5 h11 e3
 refine JB.ab (aB:=[.bC,.e many1,.emp,.emp]) (JN.MC rfl (m6 (JE.MC rfl) (JE.ab 1)) e3) ?_
 refine a_ λJg e4=>?_
 obtain⟨h6,h7,h9⟩:=b5 h10 e4
 refine JB.ab (aB:=[.bC,.e many1,.emp,.e Jg]) (d7 (x6 (Jx (JE.pow (m6 (JE.Z8 rfl) (EN (JE.ab 1500450271) (JE.MC rfl) (.inl (by decide)))) (JE.ab 3) h4)) (m6 (JE.pow (JE.ab 10) (JE.ab 40) (by decide)) (JE.ab 121)) h5) e4) ?_
 refine a_ λO0 e5=>?_
 have h8:=b5 h9 e5
 refine JB.ab (aB:=[.bC,.e many1,.emp,.e O0]) (d7 (x6 (Jx (JE.pow (m6 (ak rfl) (EN (JE.ab 32416190071) (JE.MC rfl) (.inl (by decide)))) (JE.ab 2) h6)) (m6 (JE.pow (JE.ab 10) (JE.ab 37) (by decide)) (JE.ab 43)) h7) e5) ?_
 exact Qj (jB (x6 (Jx (zI (ak rfl) (JE.ab 6700417) (by decide))) (ak rfl) h8))
def NZ:SS:=SS.ab (dh 2 (SE.lst (eK (SE.lst (eK (SE.ab 2) (eK (SE.ab 3) (eK (SE.ab 4) (eK (SE.ab 6) (fK)))))) (eK (SE.lst (eK (SE.ab 1) (eK (SE.ab 4) (eK (SE.ab 6) (eK (SE.ab 12) (fK)))))) (eK (SE.lst (eK (SE.ab 4) (eK (SE.ab 6) (eK (SE.ab 9) (eK (SE.ab 2) (fK)))))) (eK (SE.lst (eK (SE.ab 5) (eK (SE.ab 10) (eK (SE.ab 4) (eK (SE.ab 2) (fK)))))) (eK (SE.lst (eK (SE.ab 7) (eK (SE.ab 2) (eK (SE.ab 6) (eK (SE.ab 3) (fK)))))) (eK (SE.lst (eK (SE.ab 8) (eK (SE.ab 12) (eK (SE.ab 6) (eK (SE.ab 1) (fK)))))) (eK (SE.lst (eK (SE.ab 5) (eK (SE.ab 4) (eK (SE.ab 6) (eK (SE.ab 3) (fK)))))) (fK)))))))))) (SS.ab (dW (EO (ST.ab (ai 1)) (ST.ab (gM (SE.ac lP (jU 0 (cK (SE.ab 8) (dK)))) (SE.ab 0)))) (SS.ac (cW (SE.lst (eK (SE.lst (eK (SE.ab 5) (eK (SE.ab 6) (eK (SE.ab 10) (eK (SE.ab 7) (fK)))))) (eK (SE.lst (eK (SE.ab 11) (eK (SE.ab 4) (eK (SE.ab 12) (eK (SE.ab 3) (fK)))))) (eK (SE.lst (eK (SE.ab 9) (eK (SE.ab 7) (eK (SE.ab 8) (eK (SE.ab 3) (fK)))))) (eK (SE.lst (eK (SE.ab 29) (eK (SE.ab 31) (fK)))) (fK)))))) (SE.ac lP (jU 0 (cK (SE.ab 4) (dK)))))) (SS.ag)) (SS.ac (cW (ai 2) (SE.ac lP (jU 0 (cK (SE.ab 7) (dK)))))))
def RH:Fn:=fnOf 2 1 NZ
def yz (s:ae)(aX:Bool):(List Int)×ae:=
 lt ([[(2:Int),(3:Int),(4:Int),(6:Int)],[(1:Int),(4:Int),(6:Int),(12:Int)],[(4:Int),(6:Int),(9:Int),(2:Int)],[(5:Int),(10:Int),(4:Int),(2:Int)],[(7:Int),(2:Int),(6:Int),(3:Int)],[(8:Int),(12:Int),(6:Int),(1:Int)],[(5:Int),(4:Int),(6:Int),(3:Int)]]) λcP=>
 bY (if aX=true then (bY (bw s (8:Int)) λa1 s1=>(decide (a1=(0:Int)),s1)) else (false,s)) λa2 s2=>
 if a2=true then
 bY (bw s2 (4:Int)) λa3 s3=>
 ((au [[(5:Int),(6:Int),(10:Int),(7:Int)],[(11:Int),(4:Int),(12:Int),(3:Int)],[(9:Int),(7:Int),(8:Int),(3:Int)],[(29:Int),(31:Int)]] a3),s3)
 else
 bY (bw s2 (7:Int)) λa4 s4=>
 ((au cP a4),s4)
def xF (s:ae)(aX:Bool):Prop:=
 (bG ([[(2:Int),(3:Int),(4:Int),(6:Int)],[(1:Int),(4:Int),(6:Int),(12:Int)],[(4:Int),(6:Int),(9:Int),(2:Int)],[(5:Int),(10:Int),(4:Int),(2:Int)],[(7:Int),(2:Int),(6:Int),(3:Int)],[(8:Int),(12:Int),(6:Int),(1:Int)],[(5:Int),(4:Int),(6:Int),(3:Int)]]) λcP=>
 ((aX=true)->(fH s (8:Int)))/\(b_ (if aX=true then (bY (bw s (8:Int)) λa1 s1=>(decide (a1=(0:Int)),s1)) else (false,s)) λa2 s2=>
 ((a2=true)->(fH s2 (4:Int)/\(b_ (bw s2 (4:Int)) λa3 s3=>
 (-([[(5:Int),(6:Int),(10:Int),(7:Int)],[(11:Int),(4:Int),(12:Int),(3:Int)],[(9:Int),(7:Int),(8:Int),(3:Int)],[(29:Int),(31:Int)]].length:Int)<=a3/\a3<([[(5:Int),(6:Int),(10:Int),(7:Int)],[(11:Int),(4:Int),(12:Int),(3:Int)],[(9:Int),(7:Int),(8:Int),(3:Int)],[(29:Int),(31:Int)]].length:Int)))))/\(¬(a2=true)->(fH s2 (7:Int)/\(b_ (bw s2 (7:Int)) λa4 s4=>
 (-(cP.length:Int)<=a4/\a4<(cP.length:Int)))))))
theorem jF (s:ae)(aX:Bool)(h0:xF s aX):JF RH [.bC,.e aX] s (yz s aX).1 (yz s aX).2 false:=by
 unfold xF at h0
 have h12:=h0
 refine JF.Qt rfl ?_
 unfold yz NZ
 show JB _ [.bC,.e aX,.emp] _ _
 refine a_ λcP e1=>?_
 obtain⟨h2,h11⟩:=b5 h12 e1
 refine JB.ab (aB:=[.bC,.e aX,.e cP]) (d7 (JE.lst (xs:=[[(2:Int),(3:Int),(4:Int),(6:Int)],[(1:Int),(4:Int),(6:Int),(12:Int)],[(4:Int),(6:Int),(9:Int),(2:Int)],[(5:Int),(10:Int),(4:Int),(2:Int)],[(7:Int),(2:Int),(6:Int),(3:Int)],[(8:Int),(12:Int),(6:Int),(1:Int)],[(5:Int),(4:Int),(6:Int),(3:Int)]]) (JA.cons (JE.lst (xs:=[(2:Int),(3:Int),(4:Int),(6:Int)]) (iK (JE.ab 2) (iK (JE.ab 3) (iK (JE.ab 4) (iK (JE.ab 6) (gK))))) (by show 4<=100000;decide)) (JA.cons (JE.lst (xs:=[(1:Int),(4:Int),(6:Int),(12:Int)]) (iK (JE.ab 1) (iK (JE.ab 4) (iK (JE.ab 6) (iK (JE.ab 12) (gK))))) (by show 4<=100000;decide)) (JA.cons (JE.lst (xs:=[(4:Int),(6:Int),(9:Int),(2:Int)]) (iK (JE.ab 4) (iK (JE.ab 6) (iK (JE.ab 9) (iK (JE.ab 2) (gK))))) (by show 4<=100000;decide)) (JA.cons (JE.lst (xs:=[(5:Int),(10:Int),(4:Int),(2:Int)]) (iK (JE.ab 5) (iK (JE.ab 10) (iK (JE.ab 4) (iK (JE.ab 2) (gK))))) (by show 4<=100000;decide)) (JA.cons (JE.lst (xs:=[(7:Int),(2:Int),(6:Int),(3:Int)]) (iK (JE.ab 7) (iK (JE.ab 2) (iK (JE.ab 6) (iK (JE.ab 3) (gK))))) (by show 4<=100000;decide)) (JA.cons (JE.lst (xs:=[(8:Int),(12:Int),(6:Int),(1:Int)]) (iK (JE.ab 8) (iK (JE.ab 12) (iK (JE.ab 6) (iK (JE.ab 1) (gK))))) (by show 4<=100000;decide)) (JA.cons (JE.lst (xs:=[(5:Int),(4:Int),(6:Int),(3:Int)]) (iK (JE.ab 5) (iK (JE.ab 4) (iK (JE.ab 6) (iK (JE.ab 3) (gK))))) (by show 4<=100000;decide)) (gK)))))))) (by show 7<=100000;decide)) e1) ?_
 refine kI λa2 s2 hv2=>?_
 obtain⟨h9,h10⟩:=mF h11 hv2
 refine zP (JT.nm (JT.QL (JT.ab (hxd (ak rfl))) (λhq=>(have h1:=h2 hq;JT.bY λa1 s1 hv1=>JT.MZ (JT.ab (ql (kJ (JE.ac (hxb rfl (aK (JE.ab 8) (bK))) (pL s (8:Int) h1)) hv1) (JE.ab 0)))))) hv2) ?_ (λ_=>d_.ps) ?_
 ·intro hq
  obtain⟨h3,h5⟩:=h9 hq
  refine kI λa3 s3 ES=>?_
  have h4:=mF h5 ES
  exact Qj (l7 (JE.lst (xs:=[[(5:Int),(6:Int),(10:Int),(7:Int)],[(11:Int),(4:Int),(12:Int),(3:Int)],[(9:Int),(7:Int),(8:Int),(3:Int)],[(29:Int),(31:Int)]]) (JA.cons (JE.lst (xs:=[(5:Int),(6:Int),(10:Int),(7:Int)]) (iK (JE.ab 5) (iK (JE.ab 6) (iK (JE.ab 10) (iK (JE.ab 7) (gK))))) (by show 4<=100000;decide)) (JA.cons (JE.lst (xs:=[(11:Int),(4:Int),(12:Int),(3:Int)]) (iK (JE.ab 11) (iK (JE.ab 4) (iK (JE.ab 12) (iK (JE.ab 3) (gK))))) (by show 4<=100000;decide)) (JA.cons (JE.lst (xs:=[(9:Int),(7:Int),(8:Int),(3:Int)]) (iK (JE.ab 9) (iK (JE.ab 7) (iK (JE.ab 8) (iK (JE.ab 3) (gK))))) (by show 4<=100000;decide)) (JA.cons (JE.lst (xs:=[(29:Int),(31:Int)]) (iK (JE.ab 29) (iK (JE.ab 31) (gK))) (by show 2<=100000;decide)) (gK))))) (by show 4<=100000;decide)) (kJ (JE.ac (hxb rfl (aK (JE.ab 4) (bK))) (pL s2 (4:Int) h3)) ES) h4)
 intro hq
 obtain⟨h6,h8⟩:=h10 hq
 refine xY ?_
 refine kI λa4 s4 ET=>?_
 have h7:=mF h8 ET
 exact Qj (l7 (ak rfl) (kJ (JE.ac (hxb rfl (aK (JE.ab 7) (bK))) (pL s2 (7:Int) h6)) ET) h7)
def eqc:SS:=SS.ab (dh 2 (cW (SE.lst (eK (SE.ab 0) (eK (SE.ac lP (jU 0 (cK (SE.ab 4) (dK)))) (eK (SE.ac lP (jU 0 (cK (SE.ab 9) (dK)))) (fK))))) (SE.ac lP (jU 0 (cK (SE.ab 3) (dK)))))) (SS.ab (dh 3 (cW (ai 1) (SE.ac lP (jU 0 (cK (iB (ai 1)) (dK)))))) (SS.ab (dW (uB (ST.ab (hxs (ai 3) (SE.ab 12))) (ST.ab (gM (SE.ac lP (jU 0 (cK (SE.ab 12) (dK)))) (SE.ab 0)))) (fu [] (dh 2 (SE.ac lP (jU 0 (cK (SE.ab 41) (dK)))))) (fu [] (SS.ag))) (SS.ab (SS.set 4 (fB (rX (ai 2)) (aQ 6) (ST.ab (gM (SE.ac lP (jU 0 (cK (SE.ab 2) (dK)))) (SE.ab 0))) (ai 6) [6] (by decide))) (SS.ab (dh 5 (cW (SE.lst (eK (SE.ab 2) (eK (SE.ab 3) (eK (SE.ab 4) (eK (gr (ai 3) (SE.ab 1)) (fK)))))) (SE.ac lP (jU 0 (cK (SE.ab 4) (dK)))))) (BH (RE.tup (RA.cons (RE.mv 4) (RA.cons (RE.e (ai 2)) (RA.cons (RE.e (ai 3)) (RA.cons (RE.e (fB (rX (ai 3)) (aQ 7) (ST.ab (gM (SE.ac lP (jU 0 (cK (ai 5) (dK)))) (SE.ab 0))) (ai 7) [7] (by decide))) (RA.nil)))))))))))
def Vy:Fn:=fnOf 2 6 eqc
def vP (s:ae)(cz:List Int):(aV)×ae:=
 bY (bw s (4:Int)) λa1 s1=>
 bY (bw s1 (9:Int)) λa2 s2=>
 bY (bw s2 (3:Int)) λa3 s3=>
 lt ((au [(0:Int),a1,a2] a3)) λv7=>
 bY (bw s3 (cz.length:Int)) λa4 s4=>
 lt ((au cz a4)) λbh=>
 bY (if (12:Int)<bh then (true,s4) else (bY (bw s4 (12:Int)) λa5 s5=>(decide (a5=(0:Int)),s5))) λa6 s6=>
 bY (if a6=true then
 bY (bw s6 (41:Int)) λa7 s7=>
 lt (a7) λCw=>
 (Cw,s7)
 else
 (v7,s6)) λp1 s8=>
 bY (bU (λ(x1:Int) (s9:ae)=>(bY (bw s9 (2:Int)) λa8 s10=>(decide (a8=(0:Int)),s10))) (λ(x1:Int) (s9:ae)=>(x1,s9)) (rng 0 p1) s8) λa9 s11=>
 lt (a9) λxW=>
 bY (bw s11 (4:Int)) λa10 s12=>
 lt ((au [(2:Int),(3:Int),(4:Int),(bh+(1:Int))] a10)) λnZ=>
 bY (bU (λ(x2:Int) (s13:ae)=>(bY (bw s13 nZ) λa11 s14=>(decide (a11=(0:Int)),s14))) (λ(x2:Int) (s13:ae)=>(x2,s13)) (rng 0 bh) s12) λa12 s15=>
 ((T4.mk xW p1 bh a12),s15)
def vO (s:ae)(cz:List Int):Prop:=
 fH s (4:Int)/\(b_ (bw s (4:Int)) λa1 s1=>
 fH s1 (9:Int)/\(b_ (bw s1 (9:Int)) λa2 s2=>
 fH s2 (3:Int)/\(b_ (bw s2 (3:Int)) λa3 s3=>
 (-([(0:Int),a1,a2].length:Int)<=a3/\a3<([(0:Int),a1,a2].length:Int))/\(bG ((au [(0:Int),a1,a2] a3)) λv7=>
 fH s3 (cz.length:Int)/\(b_ (bw s3 (cz.length:Int)) λa4 s4=>
 (-(cz.length:Int)<=a4/\a4<(cz.length:Int))/\(bG ((au cz a4)) λbh=>
 (¬((12:Int)<bh)->(fH s4 (12:Int)))/\(b_ (if (12:Int)<bh then (true,s4) else (bY (bw s4 (12:Int)) λa5 s5=>(decide (a5=(0:Int)),s5))) λa6 s6=>
 ((a6=true)->fH s6 (41:Int))/\(b_ (if a6=true then
 bY (bw s6 (41:Int)) λa7 s7=>
 lt (a7) λCw=>
 (Cw,s7)
 else
 (v7,s6)) λp1 s8=>
 (-1000000<=p1/\p1<=1000000)/\EK (λ(x1:Int) (s9:ae)=>(bY (bw s9 (2:Int)) λa8 s10=>(decide (a8=(0:Int)),s10))) (λ(x1:Int) (s9:ae)=>(x1,s9)) (λ(x1:Int) (s9:ae)=>fH s9 (2:Int)) (λ(x1:Int) (s9:ae)=>True) (rng 0 p1) s8/\(bU (λ(x1:Int) (s9:ae)=>(bY (bw s9 (2:Int)) λa8 s10=>(decide (a8=(0:Int)),s10))) (λ(x1:Int) (s9:ae)=>(x1,s9)) (rng 0 p1) s8).1.length<=100000/\(b_ (bU (λ(x1:Int) (s9:ae)=>(bY (bw s9 (2:Int)) λa8 s10=>(decide (a8=(0:Int)),s10))) (λ(x1:Int) (s9:ae)=>(x1,s9)) (rng 0 p1) s8) λa9 s11=>
 (bG (a9) λxW=>
 fH s11 (4:Int)/\(b_ (bw s11 (4:Int)) λa10 s12=>
 (-([(2:Int),(3:Int),(4:Int),(bh+(1:Int))].length:Int)<=a10/\a10<([(2:Int),(3:Int),(4:Int),(bh+(1:Int))].length:Int))/\(bG ((au [(2:Int),(3:Int),(4:Int),(bh+(1:Int))] a10)) λnZ=>
 (-1000000<=bh/\bh<=1000000)/\EK (λ(x2:Int) (s13:ae)=>(bY (bw s13 nZ) λa11 s14=>(decide (a11=(0:Int)),s14))) (λ(x2:Int) (s13:ae)=>(x2,s13)) (λ(x2:Int) (s13:ae)=>fH s13 nZ) (λ(x2:Int) (s13:ae)=>True) (rng 0 bh) s12/\(bU (λ(x2:Int) (s13:ae)=>(bY (bw s13 nZ) λa11 s14=>(decide (a11=(0:Int)),s14))) (λ(x2:Int) (s13:ae)=>(x2,s13)) (rng 0 bh) s12).1.length<=100000))))))))))))
theorem qu (s:ae)(cz:List Int)(h0:vO s cz):JF Vy [.bC,.e cz] s (vP s cz).1 (vP s cz).2 true:=by
 unfold vO at h0
 obtain⟨h1,LF⟩:=h0
 refine JF.Qt rfl ?_
 unfold vP eqc
 show JB _ [.bC,.e cz,.emp,.emp,.emp,.emp,.emp,.emp] _ _
 refine kI λa1 s1 hv1=>?_
 obtain⟨h2,LD⟩:=mF LF hv1
 refine kI λa2 s2 hv2=>?_
 obtain⟨h3,LC⟩:=mF LD hv2
 refine kI λa3 s3 ES=>?_
 obtain⟨h4,LB⟩:=mF LC ES
 refine a_ λv7 e1=>?_
 obtain⟨h5,LA⟩:=b5 LB e1
 refine JB.ab (aB:=[.bC,.e cz,.e v7,.emp,.emp,.emp,.emp,.emp]) (d7 (l7 (JE.lst (xs:=[(0:Int),a1,a2]) (iK (JE.ab 0) (iK (kJ (JE.ac (hxb rfl (aK (JE.ab 4) (bK))) (pL s (4:Int) h1)) hv1) (iK (kJ (JE.ac (hxb rfl (aK (JE.ab 9) (bK))) (pL s1 (9:Int) h2)) hv2) (gK)))) (by show 3<=100000;decide)) (kJ (JE.ac (hxb rfl (aK (JE.ab 3) (bK))) (pL s2 (3:Int) h3)) ES) h4) e1) ?_
 refine kI λa4 s4 ET=>?_
 obtain⟨h6,Lz⟩:=mF LA ET
 refine a_ λbh e2=>?_
 obtain⟨h8,Ly⟩:=b5 Lz e2
 refine JB.ab (aB:=[.bC,.e cz,.e v7,.e bh,.emp,.emp,.emp,.emp]) (d7 (l7 (ak rfl) (kJ (JE.ac (hxb rfl (aK (jT (ak rfl)) (bK))) (pL s3 (cz.length:Int) h5)) ET) h6) e2) ?_
 refine kI λa6 s6 LL=>?_
 obtain⟨h10,Lx⟩:=mF Ly LL
 refine kI λp1 s8 Qc=>?_
 obtain⟨h11,h13,CI,Lw⟩:=mF Lx Qc
 refine JB.ab (JN.LU (J:=λ(p:Int)=>[.bC,.e cz,.e p,.e bh,.emp,.emp,.emp,.emp]) (JT.nm (JT.Z1 (JT.ab (JE.gt (ak rfl) (JE.ab 12))) (λhq=>(have h7:=h8 hq;JT.bY λa5 s5 P_=>JT.MZ (JT.ab (ql (kJ (JE.ac (hxb rfl (aK (JE.ab 12) (bK))) (pL s4 (12:Int) h7)) P_) (JE.ab 0)))))) LL) ?_ ?_ Qc) ?_
 ·intro hq
  have h9:=h10 hq
  refine hxi ?_
  refine kI λa7 s7 Qa=>?_
  refine a_ λCw e4=>?_
  refine JB.ac (aB:=[.bC,.e cz,.e Cw,.e bh,.emp,.emp,.emp,.emp]) (d7 (kJ (JE.ac (hxb rfl (aK (JE.ab 41) (bK))) (pL s6 (41:Int) h9)) Qa) e4) ?_
  exact rfl
 ·intro hq
  refine hxi ?_
  exact JB.al rfl
 show JB _ [.bC,.e cz,.e p1,.e bh,.emp,.emp,.emp,.emp] _ _
 refine kI λa9 s11 CT=>?_
 have Lv:=mF Lw CT
 refine a_ λxW e5=>?_
 obtain⟨h15,h22⟩:=b5 Lv e5
 refine JB.ab (aB:=[.bC,.e cz,.e p1,.e bh,.own (enc xW),.emp,.emp,.emp]) (LR (kJ (JE.Mc (λ(x1:Int)=>[.bC,.e cz,.e p1,.e bh,.emp,.emp,.e x1,.emp]) (wj (ak rfl) h11) (λ_=>rfl) (λx1 s9 hq=>(have h12:=hq;JT.bY λa8 s10 Qe=>JT.MZ (JT.ab (ql (kJ (JE.ac (hxb rfl (aK (JE.ab 2) (bK))) (pL s9 (2:Int) h12)) Qe) (JE.ab 0))))) (λx1 s9 hq=>ak rfl) h13 CI) CT) e5) ?_
 refine kI λa10 s12 LK=>?_
 obtain⟨CJ,h21⟩:=mF h22 LK
 refine a_ λnZ e6=>?_
 obtain⟨CK,CM,Lu⟩:=b5 h21 e6
 refine JB.ab (aB:=[.bC,.e cz,.e p1,.e bh,.own (enc xW),.e nZ,.emp,.emp]) (d7 (l7 (JE.lst (xs:=[(2:Int),(3:Int),(4:Int),(bh+(1:Int))]) (iK (JE.ab 2) (iK (JE.ab 3) (iK (JE.ab 4) (iK (m6 (ak rfl) (JE.ab 1)) (gK))))) (by show 4<=100000;decide)) (kJ (JE.ac (hxb rfl (aK (JE.ab 4) (bK))) (pL s11 (4:Int) h15)) LK) CJ) e6) ?_
 refine kI λa12 s15 WT=>?_
 exact JB.Mu (gi.Ib (gh.cons (gi.Xb rfl) (gh.gD (gi.se (ak rfl)) (gh.gD (gi.se (ak rfl)) (gh.cons (gi.se (kJ (JE.Mc (λ(x2:Int)=>[.bC,.e cz,.e p1,.e bh,.e xW,.e nZ,.emp,.e x2]) (wj (ak rfl) CK) (λ_=>rfl) (λx2 s13 hq=>(have CL:=hq;JT.bY λa11 s14 WS=>JT.MZ (JT.ab (ql (kJ (JE.ac (hxb rfl (aK (ak rfl) (bK))) (pL s13 nZ CL)) WS) (JE.ab 0))))) (λx2 s13 hq=>ak rfl) CM Lu) WT)) (gh.nil))))))
def Gh:SS:=SS.ab (sU (SG.tup (jK (aQ 2) (jK (aQ 3) (jK (aQ 4) (jK (aQ 5) (cC.nil)))))) (ai 0)) (SS.ac (EV (ST.ab (qk (ai 1) (ai 3))) (CV false (ai 1) (ai 2)) (CV false (sR (uy (EU (ai 1) (ai 3))) (ai 4)) (ai 5))))
def yK:Fn:=fnOf 2 4 Gh
def vM (af:aV)(aC:Int):Bool:=
 (if aC<af.y then (decide (aC∈af.x)) else (decide (((aC-af.y) % af.z)∈af.u)))
def tQ (af:aV)(aC:Int):Prop:=
 (¬(aC<af.y)->(0<af.z))
theorem Oc (af:aV)(aC:Int)(s:ae)(h0:tQ af aC):JF yK [.e af,.e aC] s (vM af aC) s false:=by
 unfold tQ at h0
 have h2:=h0
 refine eW rfl ?_
 unfold vM Gh
 show JB _ [.e af,.e aC,.emp,.emp,.emp,.emp] _ _
 refine JB.ab (aB:=[.e af,.e aC,.e af.x,.e af.y,.e af.z,.e af.u]) (wk (ak rfl) rfl) ?_
 exact JB.ag (jB (JE.ite (JT.ab (wF (ak rfl) (ak rfl))) (λ_=>JE.Qm (ak rfl) (ak rfl)) (λhq=>(have h1:=h2 hq;JE.Qm (x6 (Jx (JE.sub (ak rfl) (ak rfl))) (ak rfl) h1) (ak rfl)))))
def Nc:SS:=SS.ab (sU (SG.tup (jK (aQ 2) (jK (aQ 3) (jK (aQ 4) (jK (aQ 5) (cC.nil)))))) (ai 0)) (SS.ab (SS.set 6 (gr (ai 3) (ai 1))) (SS.ab (SS.set 7 (fB (rX (ai 6)) (aQ 8) (ST.ab (SE.ac yK (cK (ai 0) (cK (ai 8) (dK))))) (ai 8) [8] (by decide))) (BH (RE.tup (RA.cons (RE.mv 7) (RA.cons (RE.e (ai 6)) (RA.cons (RE.e (wD (SE.ab 2) (ai 4))) (RA.cons (RE.e (fB (rX (wD (SE.ab 2) (ai 4))) (aQ 9) (ST.ab (SE.ac yK (cK (ai 0) (cK (gr (ai 6) (ai 9)) (dK))))) (ai 9) [9] (by decide))) (RA.nil)))))))))
def QZ:Fn:=fnOf 2 8 Nc
def FA (af:aV)(dR:Int):aV:=
 lt ((af.y+dR)) λrV=>
 lt ((KaM (λ(x1:Int)=>decide ((vM af x1)=true)) (rng 0 rV))) λaz=>
 (T4.mk az rV ((2:Int)*af.z) (KaM (λ(x2:Int)=>decide ((vM af (rV+x2))=true)) (rng 0 ((2:Int)*af.z))))
def vG (af:aV)(dR:Int):Prop:=
 (bG ((af.y+dR)) λrV=>
 (-1000000<=rV/\rV<=1000000)/\(∀x1∈(rng 0 rV),tQ af x1)/\(rng 0 rV).length<=100000/\(bG ((KaM (λ(x1:Int)=>decide ((vM af x1)=true)) (rng 0 rV))) λaz=>
 (-1000000<=((2:Int)*af.z)/\((2:Int)*af.z)<=1000000)/\(∀x2∈(rng 0 ((2:Int)*af.z)),tQ af (rV+x2))/\(rng 0 ((2:Int)*af.z)).length<=100000))
theorem gT (af:aV)(dR:Int)(s:ae)(h0:vG af dR):JF QZ [.e af,.e dR] s (FA af dR) s true:=by
 unfold vG at h0
 have h10:=h0
 refine eW rfl ?_
 unfold FA Nc
 show JB _ [.e af,.e dR,.emp,.emp,.emp,.emp,.emp,.emp,.emp,.emp] _ _
 refine JB.ab (aB:=[.e af,.e dR,.e af.x,.e af.y,.e af.z,.e af.u,.emp,.emp,.emp,.emp]) (wk (ak rfl) rfl) ?_
 refine a_ λrV e2=>?_
 obtain⟨h1,h4,h3,h9⟩:=b5 h10 e2
 refine JB.ab (aB:=[.e af,.e dR,.e af.x,.e af.y,.e af.z,.e af.u,.own (enc rV),.emp,.emp,.emp]) (LR (m6 (ak rfl) (ak rfl)) e2) ?_
 refine a_ λaz e3=>?_
 obtain⟨h5,h8,h7⟩:=b5 h9 e3
 refine JB.ab (aB:=[.e af,.e dR,.e af.x,.e af.y,.e af.z,.e af.u,.own (enc rV),.own (enc az),.emp,.emp]) (LR (JE.G9 (λ(x1:Int)=>[.e af,.e dR,.e af.x,.e af.y,.e af.z,.e af.u,.own (enc rV),.emp,.e x1,.emp]) (wj (LJ rfl) h1) (λ_=>rfl) (λx1 hx=>(have h2:=h4 x1 hx;JT.ab (hxd (JE.ac (aK (ak rfl) (aK (ak rfl) (bK))) (Oc af x1 _ h2))))) (λx1 _ _=>ak rfl) (gY h3)) e3) ?_
 exact P9 (gi.Ib (gh.cons (gi.Xb rfl) (gh.gD (gi.se (LJ rfl)) (gh.gD (gi.se (EN (JE.ab 2) (ak rfl) (.inl (by decide)))) (gh.cons (gi.se (JE.G9 (λ(x2:Int)=>[.e af,.e dR,.e af.x,.e af.y,.e af.z,.e af.u,.own (enc rV),.e az,.emp,.e x2]) (wj (EN (JE.ab 2) (ak rfl) (.inl (by decide))) h5) (λ_=>rfl) (λx2 hx=>(have h6:=h8 x2 hx;JT.ab (hxd (JE.ac (aK (ak rfl) (aK (m6 (LJ rfl) (ak rfl)) (bK))) (Oc af (rV+x2) _ h6))))) (λx2 _ _=>ak rfl) (gY h7))) (gh.nil))))))
def Ol:SS:=SS.ab (uz 3 4 (l6 3 (SE.ac RH (jU 0 (cK (ai 2) (dK)))) (Ju 4 (SP.nil))) (by decide)) (LP 4 (SS.ab (lH (rX (gr (SE.ab 1) (SE.ac lP (jU 0 (cK (ai 1) (dK)))))) (aQ 5) (fu [5,6,7,8,9,10,11,12] (SS.ab (uz 6 7 (l6 6 (SE.ac Vy (jU 0 (cK (ai 3) (dK)))) (l6 7 (SE.ac lP (jU 0 (cK (SE.ab 6) (dK)))) (SP.nil))) (by decide)) (SS.ab (dW (EO (ST.ab (qk (ai 7) (SE.ab 2))) (ST.ab (WQ 4))) (fu [8,9,10,11,12] (SS.ab (dh 6 (SE.LY 4 (SE.ac lP (jU 0 (cK (SE.z_ 4) (dK)))))) (SS.ab (sU (SG.tup (jK (aQ 8) (jK (aQ 9) (jK (aQ 10) (jK (aQ 11) (cC.nil)))))) (ai 6)) (SS.ab (dh 12 (SE.ac lP (jU 0 (cK (gr (ai 9) (SE.ab 1)) (dK))))) (dW (ST.ab (gM (ai 7) (SE.ab 0))) (dh 6 (EV (ST.ab (qk (ai 10) (SE.ab 13))) (SE.ac QZ (cK (ai 6) (cK (SE.ac lP (jU 0 (cK (SE.ab 5) (dK)))) (dK)))) (ai 6))) (dW (ST.ab (qk (ai 12) (ai 9))) (dh 6 (SE.FZ (SE.tup (eK (EV (ST.ab (CV true (ai 12) (ai 8))) (Qg (xZ (ai 8) (SE.lst (eK (ai 12) (fK))))) (fB (SI.list (ai 8)) (aQ 13) (ST.ab (zO (ai 13) (ai 12))) (ai 13) [13] (by decide))) fK)) (SE.Xq (ai 6) (SO.at (SE.ab 1)) (SO.no)))) (SS.ag))))))) (fu [8,9,10,11,12] (SS.ag))) (LG 4 (ai 6)))))) (BH (RE.mv 4))))
def Tt:Fn:=fnOf 3 11 Ol
def tT (cz:List Int)(sp:((List (aV)))×ae)(x1:Int):((List (aV)))×ae:=bY sp λst1 DN=>bY (vP DN cz) λa3 s3=>
 bY (bw s3 (6:Int)) λa4 s4=>
 lt (a3) λaf=>
 lt (a4) λcy=>
 bY (if (cy<(2:Int))/\(st1≠[]) then
 bY (bw s4 (st1.length:Int)) λa5 s5=>
 lt ((au st1 a5)) λaq=>
 bY (bw s5 (aq.y+(1:Int))) λa6 s6=>
 lt (a6) λaC=>
 if cy=(0:Int) then
 bY (if aq.z<(13:Int) then (bY (bw s6 (5:Int)) λa7 s7=>((FA aq a7),s7)) else (aq,s6)) λa8 s8=>
 lt (a8) λir=>
 (ir,s8)
 else
 if aC<aq.y then
 lt ((T4.mk (if aC∉aq.x then (sortI (aq.x++[aC])) else (KaM (λ(x2:Int)=>decide (x2≠aC)) aq.x)) (T3.mk aq.y aq.z aq.u).x (T3.mk aq.y aq.z aq.u).y (T3.mk aq.y aq.z aq.u).z)) λiu=>
 (iu,s6)
 else
 (aq,s6)
 else
 (af,s4)) λp1 s10=>
 lt (st1++[p1]) λiz=>
 (iz,s10)
def J9 (cz:List Int)(sp:((List (aV)))×ae)(x1:Int):Prop:=b_ sp λst1 DN=>vO DN cz/\(b_ (vP DN cz) λa3 s3=>
 fH s3 (6:Int)/\(b_ (bw s3 (6:Int)) λa4 s4=>
 (bG (a3) λaf=>
 (bG (a4) λcy=>
 (((cy<(2:Int))/\(st1≠[]))->(fH s4 (st1.length:Int)/\(b_ (bw s4 (st1.length:Int)) λa5 s5=>
 (-(st1.length:Int)<=a5/\a5<(st1.length:Int))/\(bG ((au st1 a5)) λaq=>
 fH s5 (aq.y+(1:Int))/\(b_ (bw s5 (aq.y+(1:Int))) λa6 s6=>
 (bG (a6) λaC=>
 ((cy=(0:Int))->(((aq.z<(13:Int))->(fH s6 (5:Int)/\(b_ (bw s6 (5:Int)) λa7 s7=>vG aq a7)))))/\(¬(cy=(0:Int))->(((aC<aq.y)->(((aC∉aq.x)->(aq.x.length+[aC].length<=100000))/\(¬(aC∉aq.x)->(aq.x.length<=100000))))))))))))/\(b_ (if (cy<(2:Int))/\(st1≠[]) then
 bY (bw s4 (st1.length:Int)) λa5 s5=>
 lt ((au st1 a5)) λaq=>
 bY (bw s5 (aq.y+(1:Int))) λa6 s6=>
 lt (a6) λaC=>
 if cy=(0:Int) then
 bY (if aq.z<(13:Int) then (bY (bw s6 (5:Int)) λa7 s7=>((FA aq a7),s7)) else (aq,s6)) λa8 s8=>
 lt (a8) λir=>
 (ir,s8)
 else
 if aC<aq.y then
 lt ((T4.mk (if aC∉aq.x then (sortI (aq.x++[aC])) else (KaM (λ(x2:Int)=>decide (x2≠aC)) aq.x)) (T3.mk aq.y aq.z aq.u).x (T3.mk aq.y aq.z aq.u).y (T3.mk aq.y aq.z aq.u).z)) λiu=>
 (iu,s6)
 else
 (aq,s6)
 else
 (af,s4)) λp1 s10=>
 st1.length<100000)))))
def vL (s:ae)(bF:Int)(aX:Bool):(List (aV))×ae:=
 bY (yz s aX) λa1 s1=>
 lt (a1) λcz=>
 bY (bw s1 bF) λa2 s2=>
 bY (Kas (tT cz) (([]:List (aV)),s2) (rng 0 ((1:Int)+a2))) λp3 s11=>
 (p3,s11)
def xJ (s:ae)(bF:Int)(aX:Bool):Prop:=
 xF s aX/\(b_ (yz s aX) λa1 s1=>
 (bG (a1) λcz=>
 fH s1 bF/\(b_ (bw s1 bF) λa2 s2=>
 (-1000000<=((1:Int)+a2)/\((1:Int)+a2)<=1000000)/\bW (tT cz) (J9 cz) (rng 0 ((1:Int)+a2)) (([]:List (aV)),s2))))
theorem oq (s:ae)(bF:Int)(aX:Bool)(h0:xJ s bF aX):JF Tt [.bC,.e bF,.e aX] s (vL s bF aX).1 (vL s bF aX).2 false:=by
 unfold xJ at h0
 obtain⟨h1,WA⟩:=h0
 refine JF.Qt rfl ?_
 unfold vL Ol
 show JB _ [.bC,.e bF,.e aX,.emp,.emp,.emp,.emp,.emp,.emp,.emp,.emp,.emp,.emp,.emp] _ _
 refine kI λa1 s1 hv1=>?_
 have Wz:=mF WA hv1
 refine a_ λcz e1=>?_
 obtain⟨h2,LF⟩:=b5 Wz e1
 refine JB.ab (aB:=[.bC,.e bF,.e aX,.e cz,.aO (Kai enc ([]:List (aV))) true,.emp,.emp,.emp,.emp,.emp,.emp,.emp,.emp,.emp]) (hxc (JP.dat e1 (kJ (JE.ac (hxb rfl (aK (ak rfl) (bK))) (jF s aX h1)) hv1) (JP.Ml (JP.nil)))) ?_
 refine JB.Qo (i:=4) rfl ?_
 show JB _ [.bC,.e bF,.e aX,.e cz,.aO (Kai enc ([]:List (aV))) false,.emp,.emp,.emp,.emp,.emp,.emp,.emp,.emp,.emp] _ _
 refine kI λa2 s2 hv2=>?_
 obtain⟨h3,LD⟩:=mF LF hv2
 refine kI λp3 s11 CT=>?_
 refine JB.ab (JN.U3 (J:=λ(st1:(List (aV)))=>[.bC,.e bF,.e aX,.e cz,.aO (Kai enc st1) false,.emp,.emp,.emp,.emp,.emp,.emp,.emp,.emp,.emp]) (R:=λ(st1:(List (aV))) (x1:Int)=>[.bC,.e bF,.e aX,.e cz,.aO (Kai enc st1) false,.e x1,.emp,.emp,.emp,.emp,.emp,.emp,.emp,.emp]) (f:=(tT cz)) (d:=(J9 cz)) (st:=([]:List (aV))) (wj (m6 (JE.ab 1) (kJ (JE.ac (hxb rfl (aK (ak rfl) (bK))) (pL s1 bF h2)) hv2)) h3) rfl (λ_ _=>rfl) ?_ LD CT) ?_
 ·intro st1 DN x1 hd
  have hd:(vO DN cz/\(b_ (vP DN cz) λa3 s3=>
  fH s3 (6:Int)/\(b_ (bw s3 (6:Int)) λa4 s4=>
  (bG (a3) λaf=>
  (bG (a4) λcy=>
  (((cy<(2:Int))/\(st1≠[]))->(fH s4 (st1.length:Int)/\(b_ (bw s4 (st1.length:Int)) λa5 s5=>
  (-(st1.length:Int)<=a5/\a5<(st1.length:Int))/\(bG ((au st1 a5)) λaq=>
  fH s5 (aq.y+(1:Int))/\(b_ (bw s5 (aq.y+(1:Int))) λa6 s6=>
  (bG (a6) λaC=>
  ((cy=(0:Int))->(((aq.z<(13:Int))->(fH s6 (5:Int)/\(b_ (bw s6 (5:Int)) λa7 s7=>vG aq a7)))))/\(¬(cy=(0:Int))->(((aC<aq.y)->(((aC∉aq.x)->(aq.x.length+[aC].length<=100000))/\(¬(aC∉aq.x)->(aq.x.length<=100000))))))))))))/\(b_ (if (cy<(2:Int))/\(st1≠[]) then
  bY (bw s4 (st1.length:Int)) λa5 s5=>
  lt ((au st1 a5)) λaq=>
  bY (bw s5 (aq.y+(1:Int))) λa6 s6=>
  lt (a6) λaC=>
  if cy=(0:Int) then
  bY (if aq.z<(13:Int) then (bY (bw s6 (5:Int)) λa7 s7=>((FA aq a7),s7)) else (aq,s6)) λa8 s8=>
  lt (a8) λir=>
  (ir,s8)
  else
  if aC<aq.y then
  lt ((T4.mk (if aC∉aq.x then (sortI (aq.x++[aC])) else (KaM (λ(x2:Int)=>decide (x2≠aC)) aq.x)) (T3.mk aq.y aq.z aq.u).x (T3.mk aq.y aq.z aq.u).y (T3.mk aq.y aq.z aq.u).z)) λiu=>
  (iu,s6)
  else
  (aq,s6)
  else
  (af,s4)) λp1 s10=>
  st1.length<100000)))))):=hd
  obtain⟨h4,LC⟩:=hd
  show JB _ _ _ (Il _ (bY (vP DN cz) λa3 s3=>
  bY (bw s3 (6:Int)) λa4 s4=>
  lt (a3) λaf=>
  lt (a4) λcy=>
  bY (if (cy<(2:Int))/\(st1≠[]) then
  bY (bw s4 (st1.length:Int)) λa5 s5=>
  lt ((au st1 a5)) λaq=>
  bY (bw s5 (aq.y+(1:Int))) λa6 s6=>
  lt (a6) λaC=>
  if cy=(0:Int) then
  bY (if aq.z<(13:Int) then (bY (bw s6 (5:Int)) λa7 s7=>((FA aq a7),s7)) else (aq,s6)) λa8 s8=>
  lt (a8) λir=>
  (ir,s8)
  else
  if aC<aq.y then
  lt ((T4.mk (if aC∉aq.x then (sortI (aq.x++[aC])) else (KaM (λ(x2:Int)=>decide (x2≠aC)) aq.x)) (T3.mk aq.y aq.z aq.u).x (T3.mk aq.y aq.z aq.u).y (T3.mk aq.y aq.z aq.u).z)) λiu=>
  (iu,s6)
  else
  (aq,s6)
  else
  (af,s4)) λp1 s10=>
  lt (st1++[p1]) λiz=>
  (iz,s10)))
  refine hxi ?_
  refine kI λa3 s3 ES=>?_
  obtain⟨h5,LB⟩:=mF LC ES
  refine kI λa4 s4 ET=>?_
  have LA:=mF LB ET
  refine a_ λaf e3=>?_
  have Lz:=b5 LA e3
  refine a_ λcy e4=>?_
  obtain⟨Lw,Ly⟩:=b5 Lz e4
  refine JB.ab (aB:=[.bC,.e bF,.e aX,.e cz,.aO (Kai enc st1) false,.e x1,.e af,.e cy,.emp,.emp,.emp,.emp,.emp,.emp]) (hxc (JP.dat e3 (kJ (JE.ac (hxb rfl (aK (ak rfl) (bK))) (qu DN cz h4)) ES) (JP.dat e4 (kJ (JE.ac (hxb rfl (aK (JE.ab 6) (bK))) (pL s3 (6:Int) h5)) ET) (JP.nil)))) ?_
  refine kI λp1 s10 Qe=>?_
  have Lx:=mF Ly Qe
  refine JB.ab (JN.LU (J:=λ(p:(aV))=>[.bC,.e bF,.e aX,.e cz,.aO (Kai enc st1) false,.e x1,.e p,.e cy,.emp,.emp,.emp,.emp,.emp,.emp]) (JT.and (JT.ab (wF (ak rfl) (JE.ab 2))) (λ_=>JT.ab (JE.Hq rfl))) ?_ ?_ Qe) ?_
  ·intro hq
   obtain⟨h6,Lv⟩:=Lw hq
   refine hxi ?_
   refine kI λa5 s5 P_=>?_
   obtain⟨h7,h22⟩:=mF Lv P_
   refine a_ λaq e6=>?_
   obtain⟨h8,h21⟩:=b5 h22 e6
   refine JB.ab (aB:=[.bC,.e bF,.e aX,.e cz,.aO (Kai enc st1) false,.e x1,.e aq,.e cy,.emp,.emp,.emp,.emp,.emp,.emp]) (d7 (JE.LY rfl (kJ (JE.ac (hxb rfl (aK (JE.z_ rfl) (bK))) (pL s4 (st1.length:Int) h6)) P_) h7) e6) ?_
   refine JB.ab (aB:=[.bC,.e bF,.e aX,.e cz,.aO (Kai enc st1) false,.e x1,.e aq,.e cy,.e aq.x,.e aq.y,.e aq.z,.e aq.u,.emp,.emp]) (wk (ak rfl) rfl) ?_
   refine kI λa6 s6 LL=>?_
   have Lu:=mF h21 LL
   refine a_ λaC e8=>?_
   obtain⟨CL,CM⟩:=b5 Lu e8
   refine JB.ab (aB:=[.bC,.e bF,.e aX,.e cz,.aO (Kai enc st1) false,.e x1,.e aq,.e cy,.e aq.x,.e aq.y,.e aq.z,.e aq.u,.e aC,.emp]) (d7 (kJ (JE.ac (hxb rfl (aK (m6 (ak rfl) (JE.ab 1)) (bK))) (pL s5 (aq.y+(1:Int)) h8)) LL) e8) ?_
   refine wB (JT.ab (ql (ak rfl) (JE.ab 0))) ?_ ?_
   ·intro hq
    have h12:=CL hq
    refine kI λa8 s8 Qc=>?_
    refine a_ λir e9=>?_
    refine JB.ac (aB:=[.bC,.e bF,.e aX,.e cz,.aO (Kai enc st1) false,.e x1,.e ir,.e cy,.e aq.x,.e aq.y,.e aq.z,.e aq.u,.e aC,.emp]) (d7 (kJ (JE.W0 (JT.ab (wF (ak rfl) (JE.ab 13))) (λhq=>(match h12 hq with|⟨h9,h11⟩=>JE.bY λa7 s7 Qa=>(have h10:=mF h11 Qa;jB (JE.ac (aK (ak rfl) (aK (kJ (JE.ac (hxb rfl (aK (JE.ab 5) (bK))) (pL s6 (5:Int) h9)) Qa) (bK))) (gT aq a7 _ h10))))) (λ_=>ak rfl)) Qc) e9) ?_
    exact rfl
   ·intro hq
    have CK:=CM hq
    refine wB (JT.ab (wF (ak rfl) (ak rfl))) ?_ ?_
    ·intro hq
     obtain⟨h15,CJ⟩:=CK hq
     refine a_ λiu Zi=>?_
     refine JB.ac (aB:=[.bC,.e bF,.e aX,.e cz,.aO (Kai enc st1) false,.e x1,.e iu,.e cy,.e aq.x,.e aq.y,.e aq.z,.e aq.u,.e aC,.emp]) (d7 (JE.Kd (JE.ite (JT.ab (JE.As (ak rfl) (ak rfl))) (λhq=>(have h13:=h15 hq;JE.ag (BG (ak rfl) (JE.lst (xs:=[aC]) (iK (ak rfl) (gK)) (by show 1<=100000;decide)) h13))) (λhq=>(have CI:=CJ hq;JE.G9 (λ(x2:Int)=>[.bC,.e bF,.e aX,.e cz,.aO (Kai enc st1) false,.e x1,.e aq,.e cy,.e aq.x,.e aq.y,.e aq.z,.e aq.u,.e aC,.e x2]) (JI.list (ak rfl)) (λ_=>rfl) (λx2 _=>JT.ab (JE.ne (ak rfl) (ak rfl))) (λx2 _ _=>ak rfl) (gY CI)))) (JE.ME (ak rfl))) Zi) ?_
     exact rfl
    ·intro hq
     exact JB.al rfl
  ·intro hq
   refine hxi ?_
   exact JB.al rfl
  show JB _ [.bC,.e bF,.e aX,.e cz,.aO (Kai enc st1) false,.e x1,.e p1,.e cy,.emp,.emp,.emp,.emp,.emp,.emp] _ _
  refine a_ λiz Zj=>?_
  refine JB.ac (aB:=[.bC,.e bF,.e aX,.e cz,.aO (Kai enc iz) false,.e x1,.e p1,.e cy,.emp,.emp,.emp,.emp,.emp,.emp]) (JN.aO (P4 rfl (ak rfl) Lx) Zj) ?_
  exact rfl
 show JB _ [.bC,.e bF,.e aX,.e cz,.aO (Kai enc p3) false,.emp,.emp,.emp,.emp,.emp,.emp,.emp,.emp,.emp] _ _
 exact JB.ZX rfl
def Nv:SS:=SS.ab (sU (SG.tup (jK (aQ 1) (jK (aQ 2) (cC.nil)))) (SE.tup (eK (SE.ab 0) (eK (SE.ab 1) (fK))))) (SS.ab (lH (SI.list (ai 0)) (SG.tup (jK (aQ 3) (jK (aQ 4) (jK (aQ 5) (jK (aQ 6) (cC.nil)))))) (fu [3,4,5,6,7,8] (SS.ab (dh 1 (CU (ai 1) (ai 4))) (SS.ab (uz 7 8 (l6 7 (ai 2) (l6 8 (ai 5) (SP.nil))) (by decide)) (SS.ab (CH fuel (ST.ab (hxs (ai 8) (SE.ab 0))) (fu [] (uz 7 8 (l6 7 (ai 8) (l6 8 (sR (uy (ai 7)) (ai 8)) (SP.nil))) (by decide)))) (dh 2 (ux (wD (ai 2) (ai 5)) (ai 7)))))))) (SS.ac (SE.tup (eK (ai 1) (eK (ai 2) (fK))))))
def SW:Fn:=fnOf 1 8 Nv
def El  (st2:Int×Int):Prop:=(0:Int)<st2.2
instance  : DecidablePred (El ):=λst=>by unfold El;infer_instance
def FH  (st2:Int×Int):Int×Int:=
 lt (st2.2) λoN=>
 lt ((st2.1 % st2.2)) λGN=>
 (oN,GN)
def Rm  (st2:Int×Int):Prop:=True
def Nl  (st2:Int×Int):Prop:=
 (bG (st2.2) λoN=>
 0<st2.2)
def BS  (st1:Int×Int)(x1:aV):Int×Int:=
 lt ((max st1.1 x1.y)) λsJ=>
 lt (st1.2) λb7=>
 lt (x1.z) λgj=>
 lt (jS (El) (FH) fuel (b7,gj)) λp2=>
 lt (((st1.2*x1.z) / p2.1)) λbh=>
 (sJ,bh)
def IF  (st1:Int×Int)(x1:aV):Prop:=
 (bG ((max st1.1 x1.y)) λsJ=>
 (bG (st1.2) λb7=>
 (bG (x1.z) λgj=>
 rT (El) (FH) (Rm) (Nl) fuel (b7,gj)/\(bG (jS (El) (FH) fuel (b7,gj)) λp2=>
 (KbG st1.2<18446744073709551616∨KbG x1.z<18446744073709551616)/\(0<p2.1/\p2.1<1000000000000000000000000000000000000000000000000000000000000)))))
def pN (aa:List (aV)):Int×Int:=
 lt (((0:Int),(1:Int))) λp1=>
 lt (Kas (BS) (p1.1,p1.2) aa) λp3=>
 (p3.1,p3.2)
def yr (aa:List (aV)):Prop:=
 (bG (((0:Int),(1:Int))) λp1=>
 bW (BS) (IF) aa (p1.1,p1.2))
theorem l8 (aa:List (aV))(s:ae)(h0:yr aa):JF SW [.e aa] s (pN aa) s false:=by
 unfold yr at h0
 have h11:=h0
 refine eW rfl ?_
 unfold pN Nv
 show JB _ [.e aa,.emp,.emp,.emp,.emp,.emp,.emp,.emp,.emp] _ _
 refine a_ λp1 e1=>?_
 have h10:=b5 h11 e1
 refine JB.ab (aB:=[.e aa,.e p1.1,.e p1.2,.emp,.emp,.emp,.emp,.emp,.emp]) (wk (Qi (zF (iK (JE.ab 0) (iK (JE.ab 1) (gK)))) e1.symm) rfl) ?_
 refine a_ λp3 e9=>?_
 refine JB.ab (wm (J:=λ(st1:Int×Int)=>[.e aa,.e st1.1,.e st1.2,.emp,.emp,.emp,.emp,.emp,.emp]) (R:=λ(st1:Int×Int) (x1:aV)=>[.e aa,.e st1.1,.e st1.2,.e x1.x,.e x1.y,.e x1.z,.e x1.u,.emp,.emp]) (f:=(BS)) (d:=(IF)) (st:=(p1.1,p1.2)) (JI.list (ak rfl)) rfl (λ_ _=>rfl) ?_ h10 e9) ?_
 ·intro st1 x1 hd
  unfold IF at hd
  have h9:=hd
  unfold BS
  refine lI ?_
  refine a_ λsJ e2=>?_
  have h8:=b5 h9 e2
  refine JB.ab (aB:=[.e aa,.e sJ,.e st1.2,.e x1.x,.e x1.y,.e x1.z,.e x1.u,.emp,.emp]) (d7 (LI (ak rfl) (ak rfl)) e2) ?_
  refine a_ λb7 e3=>?_
  have h7:=b5 h8 e3
  refine a_ λgj e4=>?_
  obtain⟨h3,h6⟩:=b5 h7 e4
  refine JB.ab (aB:=[.e aa,.e sJ,.e st1.2,.e x1.x,.e x1.y,.e x1.z,.e x1.u,.e b7,.e gj]) (hxc (JP.dat e3 (ak rfl) (JP.dat e4 (ak rfl) (JP.nil)))) ?_
  refine a_ λp2 e7=>?_
  obtain⟨h4,h5⟩:=b5 h6 e7
  refine JB.ab (GQ (J:=λ(st2:Int×Int)=>[.e aa,.e sJ,.e st1.2,.e x1.x,.e x1.y,.e x1.z,.e x1.u,.e st2.1,.e st2.2]) (f:=(FH)) (C:=(El)) (dc:=(Rm)) (d:=(Nl)) (st:=(b7,gj)) rfl ?_ ?_ h3 e7) ?_
  ·intro st2 hd
   exact JT.ab (JE.gt (ak rfl) (JE.ab 0))
  ·intro st2 hd
   unfold Nl at hd
   have h2:=hd
   unfold FH
   refine lI ?_
   refine a_ λoN e5=>?_
   have h1:=b5 h2 e5
   refine a_ λGN e6=>?_
   refine JB.ac (aB:=[.e aa,.e sJ,.e st1.2,.e x1.x,.e x1.y,.e x1.z,.e x1.u,.e oN,.e GN]) (hxc (JP.dat e5 (ak rfl) (JP.dat e6 (x6 (Jx (ak rfl)) (ak rfl) h1) (JP.nil)))) ?_
   exact rfl
  show JB _ [.e aa,.e sJ,.e st1.2,.e x1.x,.e x1.y,.e x1.z,.e x1.u,.e p2.1,.e p2.2] _ _
  refine a_ λbh e8=>?_
  refine JB.ac (aB:=[.e aa,.e sJ,.e bh,.e x1.x,.e x1.y,.e x1.z,.e x1.u,.e p2.1,.e p2.2]) (d7 (zI (EN (ak rfl) (ak rfl) h4) (ak rfl) h5) e8) ?_
  exact rfl
 show JB _ [.e aa,.e p3.1,.e p3.2,.emp,.emp,.emp,.emp,.emp,.emp] _ _
 exact JB.ag (jB (zF (iK (ak rfl) (iK (ak rfl) (gK)))))
def Oj:SS:=SS.ab (sU (SG.tup (jK (aQ 1) (jK (aQ 2) (cC.nil)))) (SE.ac SW (cK (ai 0) (dK)))) (SS.ac (fB (SI.list (ai 0)) (aQ 3) (cL) (fB (rX (gr (ai 1) (ai 2))) (aQ 4) (cL) (SE.ac yK (cK (ai 3) (cK (ai 4) (dK)))) [4] (by decide)) [3] (by decide)))
def S7:Fn:=fnOf 1 4 Oj
def IW (aa:List (aV)):List (List Bool):=
 lt ((pN aa)) λp1=>
 (Kai (λ(x1:aV)=>(Kai (λ(x2:Int)=>(vM x1 x2)) (rng 0 (p1.1+p1.2)))) aa)
def xN (aa:List (aV)):Prop:=
 yr aa/\(bG ((pN aa)) λp1=>
 (∀x1∈aa,(-1000000<=(p1.1+p1.2)/\(p1.1+p1.2)<=1000000)/\(∀x2∈(rng 0 (p1.1+p1.2)),tQ x1 x2)/\(rng 0 (p1.1+p1.2)).length<=100000)/\aa.length<=100000)
theorem oh (aa:List (aV))(s:ae)(h0:xN aa):JF S7 [.e aa] s (IW aa) s true:=by
 unfold xN at h0
 obtain⟨h1,h8⟩:=h0
 refine eW rfl ?_
 unfold IW Oj
 show JB _ [.e aa,.emp,.emp,.emp,.emp] _ _
 refine a_ λp1 e1=>?_
 obtain⟨h7,h6⟩:=b5 h8 e1
 refine JB.ab (aB:=[.e aa,.e p1.1,.e p1.2,.emp,.emp]) (wk (Qi (JE.ac (aK (ak rfl) (bK)) (l8 aa _ h1)) e1.symm) rfl) ?_
 exact JB.ag (Jz (λ(x1:aV)=>[.e aa,.e p1.1,.e p1.2,.e x1,.emp]) (JI.list (ak rfl)) (λ_=>rfl) (λx1 hx=>(match h7 x1 hx with|⟨h2,h5,h4⟩=>CQ (λ(x2:Int)=>[.e aa,.e p1.1,.e p1.2,.e x1,.e x2]) (wj (m6 (ak rfl) (ak rfl)) h2) (λ_=>rfl) (λx2 hx=>(have h3:=h5 x2 hx;JE.ac (aK (ak rfl) (aK (ak rfl) (bK))) (Oc x1 x2 _ h3))) h4)) h6)
def FQ:SS:=SS.ab (Jy 1 (SB.own (SE.lst (fK)))) (LP 1 (SS.ab (lH (SI.list (ai 0)) (aQ 2) (fu [2] (dW (P5 1 (ST.ab (hxa (ai 2) (ai 1)))) (LG 1 (ai 2)) (SS.ag)))) (GS 1 (SS.ac (ai 1)))))
def FI:Fn:=fnOf 1 2 FQ
def yo  (st1:(List (List Bool)))(x1:List Bool):(List (List Bool)):=
 if x1∉st1 then
 lt (st1++[x1]) λiz=>
 iz
 else
 st1
def J2  (st1:(List (List Bool)))(x1:List Bool):Prop:=
 ((x1∉st1)->st1.length<100000)
def iE (ah:List (List Bool)):List (List Bool):=
 lt (([]:List (List Bool))) λfG=>
 lt (Kas (yo) fG ah) λp1=>
 p1
def su (ah:List (List Bool)):Prop:=
 (bG (([]:List (List Bool))) λfG=>
 bW (yo) (J2) ah fG)
theorem Nr (ah:List (List Bool))(s:ae)(h0:su ah):JF FI [.e ah] s (iE ah) s false:=by
 unfold su at h0
 have h4:=h0
 refine eW rfl ?_
 unfold iE FQ
 show JB _ [.e ah,.emp,.emp] _ _
 refine a_ λfG e1=>?_
 have h3:=b5 h4 e1
 refine JB.ab (aB:=[.e ah,.aO (Kai enc fG) true,.emp]) (JN.aO (P6 (JE.lst (xs:=[]) gK)) e1) ?_
 refine JB.Qo (i:=1) rfl ?_
 show JB _ [.e ah,.aO (Kai enc fG) false,.emp] _ _
 refine a_ λp1 e3=>?_
 refine JB.ab (wm (J:=λ(st1:(List (List Bool)))=>[.e ah,.aO (Kai enc st1) false,.emp]) (R:=λ(st1:(List (List Bool))) (x1:List Bool)=>[.e ah,.aO (Kai enc st1) false,.e x1]) (f:=(yo)) (d:=(J2)) (st:=fG) (JI.list (ak rfl)) rfl (λ_ _=>rfl) ?_ h3 e3) ?_
 ·intro st1 x1 hd
  unfold J2 at hd
  have h2:=hd
  unfold yo
  refine lI ?_
  refine wB (JT.ac rfl (JT.ab (JE.Dq (α:=List Bool) (ak rfl) (ak rfl)))) ?_ ?_
  ·intro hq
   have h1:=h2 hq
   refine a_ λiz e2=>?_
   refine JB.ac (aB:=[.e ah,.aO (Kai enc iz) false,.e x1]) (JN.aO (P4 rfl (ak rfl) h1) e2) ?_
   exact rfl
  ·intro hq
   exact JB.al rfl
 show JB _ [.e ah,.aO (Kai enc p1) false,.emp] _ _
 refine JB.frz (i:=1) rfl ?_
 show JB _ [.e ah,.e p1,.emp] _ _
 exact JB.ag (ak rfl)
def Kr:SS:=SS.ac (fB (SI.list (ai 1)) (aQ 2) (cL) (SE.tup (eK (ai 2) (eK (SE.ac yK (cK (ai 0) (cK (ai 2) (dK)))) (fK)))) [2] (by decide))
def Oa:Fn:=fnOf 2 1 Kr
def pK (af:aV)(az:List Int):List (Int×Bool):=
 (Kai (λ(x1:Int)=>(x1,(vM af x1))) az)
def vK (af:aV)(az:List Int):Prop:=
 (∀x1∈az,tQ af x1)/\az.length<=100000
theorem fT (af:aV)(az:List Int)(s:ae)(h0:vK af az):JF Oa [.e af,.e az] s (pK af az) s true:=by
 unfold vK at h0
 obtain⟨h3,h2⟩:=h0
 refine eW rfl ?_
 unfold pK Kr
 show JB _ [.e af,.e az,.emp] _ _
 exact JB.ag (CQ (λ(x1:Int)=>[.e af,.e az,.e x1]) (JI.list (ak rfl)) (λ_=>rfl) (λx1 hx=>(have h1:=h3 x1 hx;zF (iK (ak rfl) (iK (JE.ac (aK (ak rfl) (aK (ak rfl) (bK))) (Oc af x1 _ h1)) (gK))))) h2)
def Ku:SS:=SS.ac (fB (GX (ai 0)) (SG.tup (jK (aQ 2) (jK (aQ 3) (cC.nil)))) (ST.ab (gM (ai 3) (cW (ai 0) (ai 1)))) (ai 2) [2,3] (by decide))
def Nu:Fn:=fnOf 2 2 Ku
def vB (ah:List (List Bool))(cV:Int):List Int:=
 (Kai (λ(x1:Int×(List Bool))=>x1.1) (KaM (λ(x1:Int×(List Bool))=>decide (x1.2=(au ah cV))) (aT 0 ah)))
def vI (ah:List (List Bool))(cV:Int):Prop:=
 (∀x1∈(aT 0 ah),(-(ah.length:Int)<=cV/\cV<(ah.length:Int)))/\(aT 0 ah).length<=100000
theorem fS (ah:List (List Bool))(cV:Int)(s:ae)(h0:vI ah cV):JF Nu [.e ah,.e cV] s (vB ah cV) s true:=by
 unfold vI at h0
 obtain⟨h3,h2⟩:=h0
 refine eW rfl ?_
 unfold vB Ku
 show JB _ [.e ah,.e cV,.emp,.emp] _ _
 exact JB.ag (GU (λ(x1:Int×(List Bool))=>[.e ah,.e cV,.e x1.1,.e x1.2]) (LN (ak rfl)) (λ_=>rfl) (λx1 hx=>(have h1:=h3 x1 hx;JT.ab (ql (α:=List Bool) (ak rfl) (l7 (ak rfl) (ak rfl) h1)))) (λx1 _ _=>ak rfl) (gY h2))
def J6:SS:=SS.ab (Jy 3 (SB.own (SE.lst (fK)))) (SS.ab (lH (GX (ai 0)) (SG.tup (jK (aQ 4) (jK (aQ 5) (cC.nil)))) (fu [4,5] (dW (ST.ab (zO (SE.ac KG (cK (ai 0) (cK (SE.ac Oa (cK (ai 5) (cK (ai 2) (dK)))) (dK)))) (SE.ac Nu (cK (ai 1) (cK (ai 4) (dK)))))) (EL 3 (ai 4)) (SS.ag)))) (GS 3 (SS.ac (ai 3))))
def NI:Fn:=fnOf 3 3 J6
def Bv (aa:List (aV))(ah:List (List Bool))(az:List Int)(st1:(List Int))(x1:Int×(aV)):(List Int):=
 if (dU aa (pK x1.2 az))≠(vB ah x1.1) then
 lt (st1++[x1.1]) λiz=>
 iz
 else
 st1
def JY (aa:List (aV))(ah:List (List Bool))(az:List Int)(st1:(List Int))(x1:Int×(aV)):Prop:=
 vK x1.2 az/\t_ aa (pK x1.2 az)/\vI ah x1.1/\(((dU aa (pK x1.2 az))≠(vB ah x1.1))->st1.length<100000)
def Ew (aa:List (aV))(ah:List (List Bool))(az:List Int):List Int:=
 lt (([]:List Int)) λfG=>
 lt (Kas (Bv aa ah az) fG (aT 0 aa)) λp1=>
 p1
def vA (aa:List (aV))(ah:List (List Bool))(az:List Int):Prop:=
 (bG (([]:List Int)) λfG=>
 bW (Bv aa ah az) (JY aa ah az) (aT 0 aa) fG)
theorem fC (aa:List (aV))(ah:List (List Bool))(az:List Int)(s:ae)(h0:vA aa ah az):JF NI [.e aa,.e ah,.e az] s (Ew aa ah az) s false:=by
 unfold vA at h0
 have h7:=h0
 refine eW rfl ?_
 unfold Ew J6
 show JB _ [.e aa,.e ah,.e az,.emp,.emp,.emp] _ _
 refine a_ λfG e1=>?_
 have h6:=b5 h7 e1
 refine JB.ab (aB:=[.e aa,.e ah,.e az,.aO (Kai enc fG) true,.emp,.emp]) (JN.aO (P6 (JE.lst (xs:=[]) gK)) e1) ?_
 refine a_ λp1 e3=>?_
 refine JB.ab (wm (J:=λ(st1:(List Int))=>[.e aa,.e ah,.e az,.aO (Kai enc st1) true,.emp,.emp]) (R:=λ(st1:(List Int)) (x1:Int×(aV))=>[.e aa,.e ah,.e az,.aO (Kai enc st1) true,.e x1.1,.e x1.2]) (f:=(Bv aa ah az)) (d:=(JY aa ah az)) (st:=fG) (LN (ak rfl)) rfl (λ_ _=>rfl) ?_ h6 e3) ?_
 ·intro st1 x1 hd
  unfold JY at hd
  obtain⟨h1,h2,h3,h5⟩:=hd
  unfold Bv
  refine lI ?_
  refine wB (JT.ab (JE.ne (α:=List Int) (JE.ac (aK (ak rfl) (aK (JE.ac (aK (ak rfl) (aK (ak rfl) (bK))) (fT x1.2 az _ h1)) (bK))) (UN aa (pK x1.2 az) _ h2)) (JE.ac (aK (ak rfl) (aK (ak rfl) (bK))) (fS ah x1.1 _ h3)))) ?_ ?_
  ·intro hq
   have h4:=h5 hq
   refine a_ λiz e2=>?_
   refine JB.ac (aB:=[.e aa,.e ah,.e az,.aO (Kai enc iz) true,.e x1.1,.e x1.2]) (JN.aO (WO rfl (ak rfl) h4) e2) ?_
   exact rfl
  ·intro hq
   exact JB.al rfl
 show JB _ [.e aa,.e ah,.e az,.aO (Kai enc p1) true,.emp,.emp] _ _
 refine JB.frz (i:=3) rfl ?_
 show JB _ [.e aa,.e ah,.e az,.e p1,.emp,.emp] _ _
 exact JB.ag (ak rfl)
def N4:SS:=SS.ab (dh 3 (fB (SI.list (SE.lst (eK (SE.bool true) (eK (SE.bool false) (fK))))) (aQ 4) (cL) (SE.ac FI (cK (fB (SI.list (ai 1)) (aQ 5) (ST.ab (gM (cW (cW (ai 0) (ai 5)) (ai 2)) (ai 4))) (cW (ai 0) (ai 5)) [5] (by decide)) (dK))) [4] (by decide))) (SS.ac (CU (iB (cW (ai 3) (SE.ab 0))) (iB (cW (ai 3) (SE.ab 1)))))
def RW:Fn:=fnOf 3 3 N4
def B0 (ah:List (List Bool))(cZ:List Int)(aC:Int):Int:=
 lt ((Kai (λ(x1:Bool)=>(iE (Kai (λ(x2:Int)=>(au ah x2)) (KaM (λ(x2:Int)=>decide ((au (au ah x2) aC)=x1)) cZ)))) [true,false])) λcP=>
 (max ((au cP (0:Int)).length:Int) ((au cP (1:Int)).length:Int))
def xH (ah:List (List Bool))(cZ:List Int)(aC:Int):Prop:=
 (∀x1∈[true,false],(∀x2∈cZ,(-(ah.length:Int)<=x2/\x2<(ah.length:Int))/\(-((au ah x2).length:Int)<=aC/\aC<((au ah x2).length:Int))/\(((au (au ah x2) aC)=x1)->((-(ah.length:Int)<=x2/\x2<(ah.length:Int)))))/\cZ.length<=100000/\su (Kai (λ(x2:Int)=>(au ah x2)) (KaM (λ(x2:Int)=>decide ((au (au ah x2) aC)=x1)) cZ)))/\[true,false].length<=100000/\(bG ((Kai (λ(x1:Bool)=>(iE (Kai (λ(x2:Int)=>(au ah x2)) (KaM (λ(x2:Int)=>decide ((au (au ah x2) aC)=x1)) cZ)))) [true,false])) λcP=>
 (-(cP.length:Int)<=(0:Int)/\(0:Int)<(cP.length:Int))/\(-(cP.length:Int)<=(1:Int)/\(1:Int)<(cP.length:Int)))
theorem l9 (ah:List (List Bool))(cZ:List Int)(aC:Int)(s:ae)(h0:xH ah cZ aC):JF RW [.e ah,.e cZ,.e aC] s (B0 ah cZ aC) s false:=by
 unfold xH at h0
 obtain⟨h9,h8,h12⟩:=h0
 refine eW rfl ?_
 unfold B0 N4
 show JB _ [.e ah,.e cZ,.e aC,.emp,.emp,.emp] _ _
 refine a_ λcP e1=>?_
 obtain⟨h10,h11⟩:=b5 h12 e1
 refine JB.ab (aB:=[.e ah,.e cZ,.e aC,.e cP,.emp,.emp]) (d7 (Jz (λ(x1:Bool)=>[.e ah,.e cZ,.e aC,.emp,.e x1,.emp]) (JI.list (JE.lst (xs:=[true,false]) (iK (JE.bool true) (iK (JE.bool false) (gK))) (by show 2<=100000;decide))) (λ_=>rfl) (λx1 hx=>(match h9 x1 hx with|⟨h6,h4,h7⟩=>JE.ac (aK (JE.lc (λ(x2:Int)=>[.e ah,.e cZ,.e aC,.emp,.e x1,.e x2]) (JI.list (ak rfl)) (λ_=>rfl) (λx2 hx=>(match h6 x2 hx with|⟨h1,h2,h5⟩=>JT.ab (ql (l7 (l7 (ak rfl) (ak rfl) h1) (ak rfl) h2) (ak rfl)))) (λx2 hx hp=>(match h6 x2 hx with|⟨h1,h2,h5⟩=>(have h3:=h5 hp;l7 (ak rfl) (ak rfl) h3))) (gY h4)) (bK)) (Nr (Kai (λ(x2:Int)=>(au ah x2)) (KaM (λ(x2:Int)=>decide ((au (au ah x2) aC)=x1)) cZ)) _ h7))) h8) e1) ?_
 exact JB.ag (jB (LI (jT (l7 (ak rfl) (JE.ab 0) h10)) (jT (l7 (ak rfl) (JE.ab 1) h11))))
def Nk:SS:=SS.ab (uz 3 4 (l6 3 (SE.lst (fK)) (l6 4 (XZ (iB (ai 0))) (SP.nil))) (by decide)) (SS.ab (lH (rX (iB (ai 0))) (aQ 5) (fu [5,6,7,8,9] (SS.ab (dh 6 (SE.ac Oi (cK (ai 0) (cK (ai 3) (dK))))) (SS.ab (dW (ST.ab (SE.G4 (ai 6) (SE.non))) (SS.brk) (SS.ag)) (SS.ab (dW (uB (GV (ST.ab (WI (ai 6)))) (uB (ST.ab (SE.G2 (ai 6))) (GV (ST.ab (WH (λi j=>decide (i<=j)) (λi j=>decide (i<j)) (SE.ab 0) (ai 6) (iB (cW (ai 1) (SE.ab 0)))))))) (SS.ac (SE.bool false)) (SS.ag)) (SS.ab (uz 7 8 (l6 7 (iB (SE.ac FI (cK (fB (SI.list (ai 4)) (aQ 10) (cL) (cW (ai 1) (ai 10)) [10] (by decide)) (dK)))) (l6 8 (SE.ac RW (cK (ai 1) (cK (ai 4) (cK (ai 6) (dK))))) (SP.nil))) (by decide)) (SS.ab (dh 3 (xZ (ai 3) (SE.ac Oa (cK (cW (ai 0) (ai 2)) (cK (SE.lst (eK (ai 6) (fK))) (dK)))))) (SS.ab (dh 4 (SE.ac KG (cK (ai 0) (cK (ai 3) (dK))))) (SS.ab (dh 9 (iB (SE.ac FI (cK (fB (SI.list (ai 4)) (aQ 10) (cL) (cW (ai 1) (ai 10)) [10] (by decide)) (dK))))) (dW (uB (ST.ab (CV true (ai 2) (ai 4))) (uB (ST.ab (SE.ge (ai 9) (ai 7))) (ST.ab (hxs (ai 9) (ai 8))))) (SS.ac (SE.bool false)) (SS.ag))))))))))) (SS.ab (dW (uB (ST.ab (SE.Ar (SE.ac Oi (cK (ai 0) (cK (ai 3) (dK)))) (SE.non))) (ST.ab (zO (ai 4) (SE.ac Nu (cK (ai 1) (cK (ai 2) (dK))))))) (SS.ac (SE.bool false)) (SS.ag)) (SS.ac (qk (iB (ai 3)) (iB (SE.ac FI (cK (ai 1) (dK))))))))
def Rq:Fn:=fnOf 3 8 Nk
def Bp (aa:List (aV))(ah:List (List Bool))(cV:Int)(st1:(List (Int×Bool))×(List Int))(x1:Int):((Bool) ⊕ ((List (Int×Bool))×(List Int))) ⊕ ((List (Int×Bool))×(List Int)):=
 lt ((oW aa st1.1)) λaC=>
 if aC=none then
 .inl (.inr st1)
 else
 if (¬((KaQ aC)=true))∨((false=true)∨(¬((0:Int)<=(KaO aC default)/\(KaO aC default)<((au ah (0:Int)).length:Int)))) then
 .inl (.inl false)
 else
 lt (((iE (Kai (λ(x2:Int)=>(au ah x2)) st1.2)).length:Int)) λEJ=>
 lt ((B0 ah st1.2 (KaO aC default))) λsL=>
 lt ((st1.1++(pK (au aa cV) [(KaO aC default)]))) λza=>
 lt ((dU aa za)) λjw=>
 lt (((iE (Kai (λ(x3:Int)=>(au ah x3)) jw)).length:Int)) λmany1=>
 if (cV∉jw)∨((EJ<=many1)∨(sL<many1)) then
 .inl (.inl false)
 else
 .inr (za,jw)
def Ip (aa:List (aV))(ah:List (List Bool))(cV:Int)(st1:(List (Int×Bool))×(List Int))(x1:Int):Prop:=
 vF aa st1.1/\(bG ((oW aa st1.1)) λaC=>
 (¬(aC=none)->((¬(¬((KaQ aC)=true))->((¬(false=true)->(KaQ aC=true/\(-(ah.length:Int)<=(0:Int)/\(0:Int)<(ah.length:Int))))))/\(¬((¬((KaQ aC)=true))∨((false=true)∨(¬((0:Int)<=(KaO aC default)/\(KaO aC default)<((au ah (0:Int)).length:Int)))))->((∀x2∈st1.2,(-(ah.length:Int)<=x2/\x2<(ah.length:Int)))/\st1.2.length<=100000/\su (Kai (λ(x2:Int)=>(au ah x2)) st1.2)/\(bG (((iE (Kai (λ(x2:Int)=>(au ah x2)) st1.2)).length:Int)) λEJ=>
 KaQ aC=true/\xH ah st1.2 (KaO aC default)/\(bG ((B0 ah st1.2 (KaO aC default))) λsL=>
 (-(aa.length:Int)<=cV/\cV<(aa.length:Int))/\KaQ aC=true/\vK (au aa cV) [(KaO aC default)]/\st1.1.length+(pK (au aa cV) [(KaO aC default)]).length<=100000/\(bG ((st1.1++(pK (au aa cV) [(KaO aC default)]))) λza=>
 t_ aa za/\(bG ((dU aa za)) λjw=>
 (∀x3∈jw,(-(ah.length:Int)<=x3/\x3<(ah.length:Int)))/\jw.length<=100000/\su (Kai (λ(x3:Int)=>(au ah x3)) jw))))))))))
def J7 (aa:List (aV))(ah:List (List Bool))(cV:Int):Bool:=
 lt (([]:List (Int×Bool))) λbD=>
 lt ((rng 0 (aa.length:Int))) λcZ=>
 cY (cY (forR (Bp aa ah cV) (rng 0 (aa.length:Int)) (bD,cZ)) id Sum.inr) (λr=>r) λp1=>
 if ((oW aa p1.1)≠none)∨(p1.2≠(vB ah cV)) then
 false
 else
 (decide ((p1.1.length:Int)<((iE ah).length:Int)))
def xD (aa:List (aV))(ah:List (List Bool))(cV:Int):Prop:=
 (bG (([]:List (Int×Bool))) λbD=>
 (-100000<=(aa.length:Int)/\(aa.length:Int)<=100000)/\(bG ((rng 0 (aa.length:Int))) λcZ=>
 (-1000000<=(aa.length:Int)/\(aa.length:Int)<=1000000)/\fP (Bp aa ah cV) (Ip aa ah cV) (rng 0 (aa.length:Int)) (bD,cZ)/\(∀p1,cY (forR (Bp aa ah cV) (rng 0 (aa.length:Int)) (bD,cZ)) id Sum.inr=.inr p1->(vF aa p1.1/\(¬((oW aa p1.1)≠none)->(vI ah cV))/\(¬(((oW aa p1.1)≠none)∨(p1.2≠(vB ah cV)))->su ah)))))
theorem gR (aa:List (aV))(ah:List (List Bool))(cV:Int)(s:ae)(h0:xD aa ah cV):JF Rq [.e aa,.e ah,.e cV] s (J7 aa ah cV) s false:=by
 unfold xD at h0
 have ZE:=h0
 refine eW rfl ?_
 unfold J7 Nk
 show JB _ [.e aa,.e ah,.e cV,.emp,.emp,.emp,.emp,.emp,.emp,.emp,.emp] _ _
 refine a_ λbD e1=>?_
 obtain⟨h1,ZD⟩:=b5 ZE e1
 refine a_ λcZ e2=>?_
 obtain⟨h2,LC,ZC⟩:=b5 ZD e2
 refine JB.ab (aB:=[.e aa,.e ah,.e cV,.e bD,.e cZ,.emp,.emp,.emp,.emp,.emp,.emp]) (hxc (JP.dat e1 (JE.lst (xs:=[]) gK) (JP.dat e2 (JE.C5 (jT (ak rfl)) h1) (JP.nil)))) ?_
 refine JB.Lg (J:=λ(st1:(List (Int×Bool))×(List Int))=>[.e aa,.e ah,.e cV,.e st1.1,.e st1.2,.emp,.emp,.emp,.emp,.emp,.emp]) (R:=λ(st1:(List (Int×Bool))×(List Int)) (x1:Int)=>[.e aa,.e ah,.e cV,.e st1.1,.e st1.2,.e x1,.emp,.emp,.emp,.emp,.emp]) (f:=(Bp aa ah cV)) (d:=(Ip aa ah cV)) (st:=(bD,cZ)) (w:=false) (wj (jT (ak rfl)) h2) rfl (λ_ _=>rfl) ?_ LC (λ_ _ h=>h) ?_
 ·intro st1 x1 hd
  unfold Ip at hd
  obtain⟨h3,LB⟩:=hd
  unfold Bp
  refine JB.Ih ?_
  refine a_ λaC e3=>?_
  have LA:=b5 LB e3
  refine JB.ab (aB:=[.e aa,.e ah,.e cV,.e st1.1,.e st1.2,.e x1,.e aC,.emp,.emp,.emp,.emp]) (d7 (JE.ac (aK (ak rfl) (aK (ak rfl) (bK))) (gW aa st1.1 _ h3)) e3) ?_
  refine JB.ZR (JT.ab (JE.G4 (ak rfl))) ?_ (λ_=>tN.W9) ?_
  ·intro hq
   exact JB.FN rfl
  intro hq
  obtain⟨h7,Lz⟩:=LA hq
  refine xY ?_
  refine zP (BK (JT.ag (JT.ab (hxd (JE.G3 (ak rfl))))) (λhq=>(have h6:=h7 hq;BK (JT.ab (hxd (JE.LX (ak rfl)))) (λhq=>(match h6 hq with|⟨h4,h5⟩=>JT.ag (JT.ab (JE.al (p:=λi j=>i<=j) (p':=λi j=>i<j) (JE.ab 0) (LM (ak rfl) h4) (λ_=>jT (l7 (ak rfl) (JE.ab 0) h5))))))))) ?_ (λ_=>d_.W9) ?_
  ·intro hq
   exact JB.AR (jB (JE.bool false))
  intro hq
  obtain⟨h10,h9,h11,Ly⟩:=Lz hq
  refine xY ?_
  refine a_ λEJ e4=>?_
  obtain⟨h12,h13,Lx⟩:=b5 Ly e4
  refine a_ λsL e5=>?_
  obtain⟨CI,h15,CJ,CK,Lw⟩:=b5 Lx e5
  refine JB.ab (aB:=[.e aa,.e ah,.e cV,.e st1.1,.e st1.2,.e x1,.e aC,.e EJ,.e sL,.emp,.emp]) (hxc (JP.dat e4 (jT (JE.ac (aK (Jz (λ(x2:Int)=>[.e aa,.e ah,.e cV,.e st1.1,.e st1.2,.e x1,.e aC,.emp,.emp,.emp,.e x2]) (JI.list (ak rfl)) (λ_=>rfl) (λx2 hx=>(have h8:=h10 x2 hx;l7 (ak rfl) (ak rfl) h8)) h9) (bK)) (Nr (Kai (λ(x2:Int)=>(au ah x2)) st1.2) _ h11))) (JP.dat e5 (JE.ac (aK (ak rfl) (aK (ak rfl) (aK (LM (ak rfl) h12) (bK)))) (l9 ah st1.2 (KaO aC default) _ h13)) (JP.nil)))) ?_
  refine a_ λza e6=>?_
  obtain⟨CL,Lv⟩:=b5 Lw e6
  refine JB.ab (aB:=[.e aa,.e ah,.e cV,.e za,.e st1.2,.e x1,.e aC,.e EJ,.e sL,.emp,.emp]) (d7 (BG (ak rfl) (JE.ac (aK (l7 (ak rfl) (ak rfl) CI) (aK (JE.lst (xs:=[(KaO aC default)]) (iK (LM (ak rfl) h15) (gK)) (by show 1<=100000;decide)) (bK))) (fT (au aa cV) [(KaO aC default)] _ CJ)) CK) e6) ?_
  refine a_ λjw e7=>?_
  obtain⟨h21,Lu,h22⟩:=b5 Lv e7
  refine JB.ab (aB:=[.e aa,.e ah,.e cV,.e za,.e jw,.e x1,.e aC,.e EJ,.e sL,.emp,.emp]) (d7 (JE.ac (aK (ak rfl) (aK (ak rfl) (bK))) (UN aa za _ CL)) e7) ?_
  refine a_ λmany1 e8=>?_
  refine JB.ab (aB:=[.e aa,.e ah,.e cV,.e za,.e jw,.e x1,.e aC,.e EJ,.e sL,.e many1,.emp]) (d7 (jT (JE.ac (aK (Jz (λ(x3:Int)=>[.e aa,.e ah,.e cV,.e za,.e jw,.e x1,.e aC,.e EJ,.e sL,.emp,.e x3]) (JI.list (ak rfl)) (λ_=>rfl) (λx3 hx=>(have CM:=h21 x3 hx;l7 (ak rfl) (ak rfl) CM)) Lu) (bK)) (Nr (Kai (λ(x3:Int)=>(au ah x3)) jw) _ h22))) e8) ?_
  refine wB (BK (JT.ab (JE.As (ak rfl) (ak rfl))) (λ_=>BK (JT.ab (JE.ge (ak rfl) (ak rfl))) (λ_=>JT.ab (JE.gt (ak rfl) (ak rfl))))) ?_ ?_
  ·intro hq
   exact JB.AR (jB (JE.bool false))
  ·intro hq
   exact JB.al rfl
 intro p1 e9
 have WB:=ZC p1 e9
 obtain⟨LD,Wz,ZA⟩:=WB
 show JB _ [.e aa,.e ah,.e cV,.e p1.1,.e p1.2,.emp,.emp,.emp,.emp,.emp,.emp] _ _
 refine zP (BK (JT.ab (JE.Ar (JE.ac (aK (ak rfl) (aK (ak rfl) (bK))) (gW aa p1.1 _ LD)))) (λhq=>(have LF:=Wz hq;JT.ab (JE.ne (α:=List Int) (ak rfl) (JE.ac (aK (ak rfl) (aK (ak rfl) (bK))) (fS ah cV _ LF)))))) ?_ (λ_=>JD) ?_
 ·intro hq
  exact JB.ag (jB (JE.bool false))
 intro hq
 have WA:=ZA hq
 refine xY ?_
 exact JB.ag (jB (wF (jT (ak rfl)) (jT (JE.ac (aK (ak rfl) (bK)) (Nr ah _ WA)))))
def t8:SS:=fu [3,4,5,6,7] (SS.ab (dh 3 (SE.ac Tt (jU 2 (cK (SE.ab 4) (cK (SE.bool false) (dK)))))) (SS.ab (uz 4 5 (l6 4 (SE.ac S7 (cK (ai 3) (dK))) (l6 5 (SE.ac RD (cK (ai 3) (dK))) (SP.nil))) (by decide)) (SS.ab (dW (uB (ST.ab (zO (fB (SI.zip (ai 5) (wC (ai 5) (SO.at (SE.ab 1)) (SO.no))) (SG.tup (jK (aQ 8) (jK (aQ 9) (cC.nil)))) (ST.ab (SE.ge (ai 8) (ai 9))) (SE.ab 1) [8,9] (by decide)) (SE.lst (fK)))) (ST.ab (zO (SE.ac NI (cK (ai 3) (cK (ai 4) (cK (ai 5) (dK))))) (SE.lst (fK))))) (SS.ac (SE.bool false)) (SS.ag)) (SS.ab (lH (rX (iB (ai 5))) (aQ 6) (fu [6] (dW (ST.ab (gM (SE.ac NI (cK (ai 3) (cK (ai 4) (cK (xZ (wC (ai 5) (SO.no) (SO.at (ai 6))) (wC (ai 5) (SO.at (gr (ai 6) (SE.ab 1))) (SO.no))) (dK))))) (SE.lst (fK)))) (SS.ac (SE.bool false)) (SS.ag)))) (lH (rX (iB (ai 3))) (aQ 7) (fu [7] (dW (GV (ST.ab (SE.ac Rq (cK (ai 3) (cK (ai 4) (cK (ai 7) (dK))))))) (SS.ac (SE.bool false)) (SS.ag))))))))
def Gp (aa:List (aV))(ah:List (List Bool))(az:List Int)(st1:Unit)(x3:Int):(Bool) ⊕ (Unit):=
 if (Ew aa ah ((cut az none (some x3))++(cut az (some (x3+(1:Int))) none)))=([]:List Int) then
 .inl false
 else
 .inr ()
def O7 (aa:List (aV))(ah:List (List Bool))(az:List Int)(st1:Unit)(x3:Int):Prop:=
 (cut az none (some x3)).length+(cut az (some (x3+(1:Int))) none).length<=100000/\vA aa ah ((cut az none (some x3))++(cut az (some (x3+(1:Int))) none))
def Gu (aa:List (aV))(ah:List (List Bool))(st2:Unit)(x4:Int):(Bool) ⊕ (Unit):=
 if ¬((J7 aa ah x4)=true) then
 .inl false
 else
 .inr ()
def O6 (aa:List (aV))(ah:List (List Bool))(st2:Unit)(x4:Int):Prop:=
 xD aa ah x4
def u9 (s:ae):((Bool) ⊕ (Unit))×ae:=
 bY (vL s (4:Int) false) λa1 s1=>
 lt (a1) λaa=>
 lt ((IW aa)) λah=>
 lt ((BU aa)) λaz=>
 if ((Kai (λ(x2:Int×Int)=>(1:Int)) (KaM (λ(x2:Int×Int)=>decide (x2.2<=x2.1)) (Kba az (cut az (some (1:Int)) none))))≠([]:List Int))∨((Ew aa ah az)≠([]:List Int)) then
 (.inl false,s1)
 else
 cY (forR (Gp aa ah az) (rng 0 (az.length:Int)) ()) (λr=>(.inl r,s1)) λp1=>
 cY (forR (Gu aa ah) (rng 0 (aa.length:Int)) ()) (λr=>(.inl r,s1)) λp2=>
 (.inr (),s1)
def fN (s:ae):Prop:=
 xJ s (4:Int) false/\(b_ (vL s (4:Int) false) λa1 s1=>
 (bG (a1) λaa=>
 xN aa/\(bG ((IW aa)) λah=>
 yE aa/\(bG ((BU aa)) λaz=>
 (Kba az (cut az (some (1:Int)) none)).length<=100000/\(¬((Kai (λ(x2:Int×Int)=>(1:Int)) (KaM (λ(x2:Int×Int)=>decide (x2.2<=x2.1)) (Kba az (cut az (some (1:Int)) none))))≠([]:List Int))->(vA aa ah az))/\(¬(((Kai (λ(x2:Int×Int)=>(1:Int)) (KaM (λ(x2:Int×Int)=>decide (x2.2<=x2.1)) (Kba az (cut az (some (1:Int)) none))))≠([]:List Int))∨((Ew aa ah az)≠([]:List Int)))->((-1000000<=(az.length:Int)/\(az.length:Int)<=1000000)/\fP (Gp aa ah az) (O7 aa ah az) (rng 0 (az.length:Int)) ()/\(∀p1,forR (Gp aa ah az) (rng 0 (az.length:Int)) ()=.inr p1->((-1000000<=(aa.length:Int)/\(aa.length:Int)<=1000000)/\fP (Gu aa ah) (O6 aa ah) (rng 0 (aa.length:Int)) ()))))))))
theorem G6 (s:ae)(x0 x1:Slot)(h0:fN s):JB t8 [x0,x1,.bC,.emp,.emp,.emp,.emp,.emp,.emp,.emp] s (XF false (λ(_:Unit)=>[x0,x1,.bC,.emp,.emp,.emp,.emp,.emp,.emp,.emp]) (u9 s)):=by
 unfold fN at h0
 obtain⟨h1,CM⟩:=h0
 unfold u9 t8
 refine JB.D5 ?_
 refine kI λa1 s1 hv1=>?_
 have CL:=mF CM hv1
 refine a_ λaa e1=>?_
 obtain⟨h2,CK⟩:=b5 CL e1
 refine JB.ab (aB:=[x0,x1,.bC,.e aa,.emp,.emp,.emp,.emp,.emp,.emp]) (d7 (kJ (JE.ac (hxb rfl (aK (JE.ab 4) (aK (JE.bool false) (bK)))) (oq s (4:Int) false h1)) hv1) e1) ?_
 refine a_ λah e2=>?_
 obtain⟨h3,CJ⟩:=b5 CK e2
 refine a_ λaz e3=>?_
 obtain⟨h4,h6,h15⟩:=b5 CJ e3
 refine JB.ab (aB:=[x0,x1,.bC,.e aa,.e ah,.e az,.emp,.emp,.emp,.emp]) (hxc (JP.dat e2 (JE.ac (aK (ak rfl) (bK)) (oh aa _ h2)) (JP.dat e3 (JE.ac (aK (ak rfl) (bK)) (jC aa _ h3)) (JP.nil)))) ?_
 refine zP (BK (JT.ab (JE.ne (α:=List Int) (GU (λ(x2:Int×Int)=>[x0,x1,.bC,.e aa,.e ah,.e az,.emp,.emp,.e x2.1,.e x2.2]) (JI.zip (ak rfl) (BJ (ak rfl) (JO.at (JE.ab 1)) (JO.no))) (λ_=>rfl) (λx2 _=>JT.ab (JE.ge (ak rfl) (ak rfl))) (λx2 _ _=>JE.ab 1) (gY h4)) (JE.lst (xs:=[]) gK))) (λhq=>(have h5:=h6 hq;JT.ab (JE.ne (α:=List Int) (JE.ac (aK (ak rfl) (aK (ak rfl) (aK (ak rfl) (bK)))) (fC aa ah az _ h5)) (JE.lst (xs:=[]) gK))))) ?_ (λ_=>d_.Xm) ?_
 ·intro hq
  exact JB.HK (jB (JE.bool false))
 intro hq
 obtain⟨h7,h10,CI⟩:=h15 hq
 refine xY ?_
 refine JB.am (J:=λ(st1:Unit)=>[x0,x1,.bC,.e aa,.e ah,.e az,.emp,.emp,.emp,.emp]) (R:=λ(st1:Unit) (x3:Int)=>[x0,x1,.bC,.e aa,.e ah,.e az,.e x3,.emp,.emp,.emp]) (f:=(Gp aa ah az)) (d:=(O7 aa ah az)) (st:=()) (w:=false) (wj (jT (ak rfl)) h7) rfl (λ_ _=>rfl) ?_ h10 (λ_ _ h=>h) ?_
 ·intro st1 x3 hd
  unfold O7 at hd
  obtain⟨h8,h9⟩:=hd
  unfold Gp
  refine WV ?_
  refine wB (JT.ab (ql (α:=List Int) (JE.ac (aK (ak rfl) (aK (ak rfl) (aK (BG (BJ (ak rfl) (JO.no) (JO.at (ak rfl))) (BJ (ak rfl) (JO.at (m6 (ak rfl) (JE.ab 1))) (JO.no)) h8) (bK)))) (fC aa ah ((cut az none (some x3))++(cut az (some (x3+(1:Int))) none)) _ h9)) (JE.lst (xs:=[]) gK))) ?_ ?_
  ·intro hq
   exact JB.AS (jB (JE.bool false))
  ·intro hq
   exact JB.al rfl
 intro p1 e4
 have Wy:=CI p1 e4
 obtain⟨h11,h13⟩:=Wy
 show JB _ [x0,x1,.bC,.e aa,.e ah,.e az,.emp,.emp,.emp,.emp] _ _
 refine JB.MQ ?_
 refine JB.am (J:=λ(st2:Unit)=>[x0,x1,.bC,.e aa,.e ah,.e az,.emp,.emp,.emp,.emp]) (R:=λ(st2:Unit) (x4:Int)=>[x0,x1,.bC,.e aa,.e ah,.e az,.emp,.e x4,.emp,.emp]) (f:=(Gu aa ah)) (d:=(O6 aa ah)) (st:=()) (w:=false) (wj (jT (ak rfl)) h11) rfl (λ_ _=>rfl) ?_ h13 (λ_ _ h=>h) ?_
 ·intro st2 x4 hd
  unfold O6 at hd
  have h12:=hd
  unfold Gu
  refine WV ?_
  refine wB (JT.ag (JT.ab (hxd (JE.ac (aK (ak rfl) (aK (ak rfl) (aK (ak rfl) (bK)))) (gR aa ah x4 _ h12))))) ?_ ?_
  ·intro hq
   exact JB.AS (jB (JE.bool false))
  ·intro hq
   exact JB.al rfl
 intro p2 e5
 show JB _ [x0,x1,.bC,.e aa,.e ah,.e az,.emp,.emp,.emp,.emp] _ _
 exact JB.al rfl
end Pu
namespace Pu
open PySem PySem.Spec PyProof.Rows L2
variable [aR]
theorem sX {K:Frag}{H:Hp}{a:Addr}{ns:List Int}{RK:SE}{m:Nat}(hs:SqL K H a (ns.map V.int))(hT:pJ H){sf:List Int->Int->ae}{B:SS}{D:Ends}
  (WC:∀(H:Hp) (σ:L2.St) (Q:VK),SqL K H a (ns.map V.int)->σ[0]? = some (some (.ref a))->(∀j:Int,1<=j->j<=1000->Q (.int j) H)->RK.t K σ H Q)
  (hB:∀(r:Int) (x0 x1:Slot),0<=r->r<=1000->∃ρ' s',B.ev (x0::x1::.bC::Kah m .emp) (sf ns r)=some (.nx (x0::ρ') s')/\ρ'.length=2+m) {xs:List (Option V)} (hx:xs.length=2+m) (q:∀H',D.rt (.bl true) H'):
  tSeq (tFor (iRng1 (tCons (RK.t K) tNil)) (gName 1) (tSeq (tAsg (AX K sf) (gName 2)) (B.t K))) (tRet (tC (.bl true))) D (some (.ref a)::xs) H:=by
 refine WC _ _ _ hs rfl λj j1 j2=>?_
 refine⟨j,rfl,by omega,by omega,?_⟩
 refine⟨λi k σ H'=>k=j.toNat-i/\i<=j.toNat/\Kp H H'/\∃xs,σ=some (.ref a)::xs/\xs.length=2+m,⟨_,rfl,Ka2 _,⟨λ_ _ h _=>h,hT⟩,xs,rfl,hx⟩,λi k σ H1 hW=>?_⟩
 obtain⟨rfl,hi,keep,xs,rfl,hx⟩:=hW
 have yl:=V8 (lo:=0) (n:=j.toNat) (F:=λ_=>none) (λ_=>none) H1 i (Same.refl _) (λb o e=>by cases e)
 have hlen:(oX 0 j.toNat).length=j.toNat:=by rw [UQ];simp
 by_cases hlt:i<j.toNat
 ·have hd:(oX 0 j.toNat)[i]? = some (.int (i:Int)):=by rw [UQ];simp [hlt]
  obtain⟨go,yld⟩:=yl.1 _ hd
  refine .inr ⟨go,λσ' H'=>Kp H H'/\∃xs,σ'=some (.ref a)::xs/\xs.length=2+m,λσ' H' hN=>?_,λx H3 hy=>?_⟩
  ·obtain⟨k1,xs,e1,e2⟩:=hN
   exact⟨_,by omega,rfl,hlt,k1,xs,e1,e2⟩
  ·obtain⟨F3,xK,sa,r3⟩:=yld x H3 hy
   rw [r3.int_inv]
   have uJ:Kp H H3:=⟨λb o e hst=>sa.fr b o (λz=>by cases z) (keep.at' b o e hst),VC keep.tab λb o e=>sa.fr b o (λz=>by cases z) e⟩
   match xs,hx with
   |[],hx=>exact absurd hx (by simp;omega)
   |[_],hx=>exact absurd hx (by simp;omega)
   |y1::y2::ys,hx=>
    have hys:ys.length=m:=by
     simp only [Kad] at hx
     omega
    refine⟨.ref a,rfl,.int i,rfl,a,ns,(i:Int),rfl,Bb hs uJ.at',uJ.tab,⟨by omega,by omega⟩,λp H4 hp EZ hq=>?_⟩
    obtain⟨ρ',s',he,hρ⟩:=hB (i:Int) (.fix (.ref a)) .emp (by omega) (by omega)
    have sl:∀(ys:List (Option V)),Slots (some p) (λ_=>none) H4 ys (Kah ys.length .emp) (Kah ys.length []):=by
     intro ys
     induction ys with
     |nil=>exact .nil
     |cons y ys ih=>exact .cons rfl ih
    have fl:(Kah ys.length ([]:List Addr)).flatten=[]:=by simp
    have wd:Wd (some p) (λ_=>none) H4 (λ_=>none) H4 (some (.ref a)::some (.int i)::some (.ref p)::ys) (.fix (.ref a)::.emp::.bC::Kah m .emp) ([]::[]::[]::Kah ys.length []) (sf ns i):=by
     refine⟨.refl (λb o e=>by cases e),⟨λb e=>?_,EZ.tab⟩,.cons ⟨rfl,rfl⟩ (.cons rfl (.cons ⟨rfl,p,rfl,rfl⟩ ?_)),?_,λb mm=>?_⟩
     ·cases e;exact⟨hq,rfl⟩
     ·rw [<-hys];exact sl ys
     ·simp [fl]
     ·simp [fl] at mm
    refine B.ok K wd he λF5 H5 Fd gF _ w5=>?_
    have st:=w5.st
    refine⟨⟨λb o e hst=>?_,w5.aW.tab.low⟩,?_⟩
    ·have e4:=EZ.at' b o (uJ.at' b o e hst) hst
     refine st.fr b o (λz=>?_) e4
     cases z
     rw [uJ.at' p o e hst] at hp
     cases hp
    ·have l5:=w5.slots
     cases l5 with
     |cons h1 h2=>
      obtain⟨_,e0⟩:=h1
      subst e0
      exact⟨_,rfl,by rw [h2.length,hρ]⟩
 ·have e1:i=j.toNat:=by omega
  subst e1
  exact .inl ⟨yl.2 (by rw [hlen];exact Kap _),q H1⟩
theorem Hv {P:Program}{w:World}{K:PySem.W.Frag}{mg:Str->Option Value}{base:Heap}{x:Str}{st:Stmt}{f:Addr}{fd:FuncData}{N ps:List Str}{k nn m:Nat}{RK:SE}{B:SS}{sf:List Int->Int->ae}(F:cM K x st f fd)(S:FnScope N ps (defScope st))(hp:ps.length=1)(hN:N.length=3+m)
  (WC:∀(a:Addr) (ns:List Int) (H:Hp) (σ:L2.St) (Q:VK),ns.length<=nn->SqL K H a (ns.map V.int)->σ[0]? = some (some (.ref a))->(∀j:Int,1<=j->j<=1000->Q (.int j) H)->RK.t K σ H Q)
  (hB:∀(ns:List Int) (r:Int) (x0 x1:Slot),ns.length<=nn->0<=r->r<=1000->∃ρ' s',B.ev (x0::x1::.bC::Kah m .emp) (sf ns r)=some (.nx (x0::ρ') s')/\ρ'.length=2+m)
  (Gj:∀(cdv:Value) (A:Around) (outer:List Env) (s:Shared) (H:Hp),(A.deeper (envOfC x (defScope st) s.heap.objs.size f cdv)).guards=some []->Room k (A.deeper (envOfC x (defScope st) s.heap.objs.size f cdv)) ->
   ∃t,PSs (cxOf CX0 P w K mg base N x (defScope st) f cdv A outer s H E0).nox (defBody st) t/\t=tSeq (tFor (iRng1 (tCons (RK.t K) tNil)) (gName 1) (tSeq (tAsg (AX K sf) (gName 2)) (B.t K))) (tRet (tC (.bl true)))):
  BP P w K mg base (k+1) f fd ps (u6 K nn):=
 BP.body F S (λvs H Q h=>by obtain⟨a,ns,rfl,_⟩:=h;rw [hp];rfl) λcdv A outer s H vs Q hG hr h=>by
  obtain⟨t,ht,rfl⟩:=Gj cdv A outer s H hG hr
  obtain⟨a,ns,rfl,hl,hs,hT,q⟩:=h
  refine⟨_,PSs.nox ht,?_⟩
  have hst:L2.start N [.ref a]=some (.ref a)::Kah (2+m) none:=by
   unfold L2.start
   rw [hN,show 3+m-[V.ref a].length=2+m by simp only [Kad,Kbu];omega];rfl
  rw [hst]
  exact sX hs hT (λH σ Q h1 h2 h3=>WC a ns H σ Q hl h1 h2 h3) (λr x0 x1 h1 h2=>hB ns r x0 x1 hl h1 h2) (by simp) q
end Pu
namespace Pu
open PySem PySem.Spec PyProof.Rows L2
end Pu
namespace Pu
open PySem PySem.Spec PyProof.Rows L2 Enc
end Pu
namespace tM
open PySem PySem.Spec PyProof.Rows L2 Pu
local macro_rules | `(tactic| walk_at "sc") => `(tactic| exact ⟨rfl, rfl, rfl, by decide +kernel, rfl, by decide +kernel, by decide +kernel⟩)
abbrev e_:List Str:=["numbers", "one", "other"]
theorem M5:FnScope e_ ["numbers"] (defScope NR):=(by walk_at "sc")
abbrev ya:List Str:=["told", "early", "first", "length", "found"]
theorem KW:FnScope ya ["told"] (defScope Vp):=(by walk_at "sc")
abbrev r8:List Str:=["told"]
theorem rq:FnScope r8 ["told"] (defScope UM):=(by walk_at "sc")
abbrev iC:List Str:=["one", "other"]
theorem dw:FnScope iC ["one", "other"] (defScope Q8):=(by walk_at "sc")
abbrev gw:List Str:=["one", "other"]
theorem gq:FnScope gw ["one", "other"] (defScope Ro):=(by walk_at "sc")
abbrev lO:List Str:=["number", "found", "left", "part"]
theorem J5:FnScope lO ["number"] (defScope Sq):=(by walk_at "sc")
abbrev eu:List Str:=["ladder", "many", "early", "turn", "rise", "laps", "found", "lap", "number"]
theorem BX:FnScope eu ["ladder", "many"] (defScope Nh):=(by walk_at "sc")
abbrev RP:List Str:=["turn", "rise", "length", "times", "later", "number", "more"]
theorem Eu:FnScope RP ["turn", "rise", "length"] (defScope J'):=(by walk_at "sc")
abbrev kg:List Str:=["turn", "rise", "length", "part"]
theorem Ni:FnScope kg ["turn", "rise"] (defScope R7):=(by walk_at "sc")
abbrev pC:List Str:=["ladder", "early", "turn", "rise", "length", "gain", "numbers", "first"]
theorem Es:FnScope pC ["ladder"] (defScope Tj):=(by walk_at "sc")
abbrev o_:List Str:=["row", "early", "turn"]
theorem Tg:FnScope o_ ["row"] (defScope Tz):=(by walk_at "sc")
abbrev j9:List Str:=["row", "many"]
theorem jO:FnScope j9 ["row", "many"] (defScope RB):=(by walk_at "sc")
abbrev KQ:List Str:=["told", "early", "first", "length", "found", "days", "places", "day", "place"]
theorem sE:FnScope KQ ["told"] (defScope Gi):=(by walk_at "sc")
abbrev U6:List Str:=["row", "begun", "again", "early", "day", "bit", "place"]
theorem Ca:FnScope U6 ["row"] (defScope Kz):=(by walk_at "sc")
abbrev vt:List Str:=["told", "day", "early", "first", "length", "found"]
theorem KI:FnScope vt ["told", "day"] (defScope Vc):=(by walk_at "sc")
abbrev pq:List Str:=["told"]
theorem oO:FnScope pq ["told"] (defScope S3):=(by walk_at "sc")
abbrev lJ:List Str:=["notes", "known", "day", "seen"]
theorem NO:FnScope lJ ["notes"] (defScope RO):=(by walk_at "sc")
abbrev nR:List Str:=["sets", "told"]
theorem f_:FnScope nR ["sets"] (defScope RY):=(by walk_at "sc")
abbrev x_:List Str:=["told", "notes", "day", "seen"]
theorem O4:FnScope x_ ["told", "notes"] (defScope PD):=(by walk_at "sc")
abbrev my:List Str:=["sets", "notes", "index", "told"]
theorem OD:FnScope my ["sets", "notes"] (defScope OE):=(by walk_at "sc")
abbrev fc:List Str:=["sets", "notes", "index"]
theorem Rk:FnScope fc ["sets", "notes"] (defScope NQ):=(by walk_at "sc")
abbrev pF:List Str:=["sets", "found", "told", "least"]
theorem N6:FnScope pF ["sets"] (defScope TZ):=(by walk_at "sc")
abbrev iD:List Str:=["sets", "start", "length", "told"]
theorem IC:FnScope iD ["sets"] (defScope QX):=(by walk_at "sc")
abbrev Vk:List Str:=["sets", "many", "rows", "known", "found", "day", "truths", "told", "row"]
theorem Bw:FnScope Vk ["sets"] (defScope KN):=(by walk_at "sc")
abbrev yc:List Str:=["lots", "truths", "known", "found", "lot", "truth"]
theorem OH:FnScope yc ["lots", "truths"] (defScope UW):=(by walk_at "sc")
abbrev jr:List Str:=["level", "ways", "found", "lots", "days", "day", "truths", "finer", "longer"]
theorem Ed:FnScope jr ["level", "ways"] (defScope Rx):=(by walk_at "sc")
abbrev j8:List Str:=["sets", "unlike", "ways", "level", "single"]
theorem IG:FnScope j8 ["sets"] (defScope Sj):=(by walk_at "sc")
abbrev jq:List Str:=["truths"]
theorem iV:FnScope jq ["truths"] (defScope Rl):=(by walk_at "sc")
abbrev pD:List Str:=["sets", "notes", "unlike", "best", "day", "truths", "worst"]
theorem FU:FnScope pD ["sets", "notes"] (defScope TV):=(by walk_at "sc")
abbrev o9:List Str:=["_law_script", "_law_rank", "_law_cell"]
theorem ik:FnScope o9 ["_law_script", "_law_rank"] (defScope Tv):=(by walk_at "sc")
abbrev o8:List Str:=["_law_sack", "_law_many", "_law_drawn", "_law_stirred"]
theorem Nz:FnScope o8 ["_law_sack", "_law_many"] (defScope T6):=(by walk_at "sc")
abbrev j_:List Str:=["_law_sack", "_law_wide", "_law_some"]
theorem eM:FnScope j_ ["_law_sack", "_law_wide"] (defScope Sl):=(by walk_at "sc")
abbrev U5:List Str:=["_law_sack", "_law_lengths", "_law_first", "_law_length", "_law_early", "_law_few", "_law_day", "_law_place"]
theorem B9:FnScope U5 ["_law_sack", "_law_lengths"] (defScope KL):=(by walk_at "sc")
abbrev rZ:List Str:=["_law_told", "_law_day", "_law_early", "_law_first", "_law_length", "_law_found"]
theorem Kg:FnScope rZ ["_law_told", "_law_day"] (defScope T8):=(by walk_at "sc")
abbrev Rf:List Str:=["_law_told", "_law_more", "_law_early", "_law_first", "_law_length", "_law_found", "_law_begin", "_law_days", "_law_day", "_law_place"]
theorem Bu:FnScope Rf ["_law_told", "_law_more"] (defScope JX):=(by walk_at "sc")
abbrev iX:List Str:=["_law_sack", "_law_most", "_law_wide", "_law_lengths", "_law_found", "_law_turn", "_law_told", "_law_way", "_law_early", "_law_first", "_law_length", "_law_places", "_law_day", "_law_one"]
theorem t6:FnScope iX ["_law_sack", "_law_most", "_law_wide"] (defScope Og):=(by walk_at "sc")
abbrev nS:List Str:=["_law_sets", "_law_start", "_law_length", "_law_early", "_law_first", "_law_own", "_law_found", "_law_one", "_law_other"]
theorem yD:FnScope nS ["_law_sets"] (defScope Tu):=(by walk_at "sc")
abbrev TH:List Str:=["_law_sets", "_law_start", "_law_length", "_law_told", "_law_day"]
theorem FJ:FnScope TH ["_law_sets"] (defScope Oe):=(by walk_at "sc")
abbrev lK:List Str:=["_law_rows", "_law_found", "_law_row"]
theorem Sw:FnScope lK ["_law_rows"] (defScope Ss):=(by walk_at "sc")
abbrev gA:List Str:=["_law_told", "_law_days", "_law_day"]
theorem Sa:FnScope gA ["_law_told", "_law_days"] (defScope Oq):=(by walk_at "sc")
abbrev gz:List Str:=["_law_rows", "_law_index", "_law_place", "_law_row"]
theorem N1:FnScope gz ["_law_rows", "_law_index"] (defScope NV):=(by walk_at "sc")
abbrev lN:List Str:=["_law_sets", "_law_rows", "_law_days", "_law_found", "_law_index", "_law_told"]
theorem NP:FnScope lN ["_law_sets", "_law_rows", "_law_days"] (defScope RT):=(by walk_at "sc")
abbrev Su:List Str:=["_law_rows", "_law_fit", "_law_day", "_law_some", "_law_truth", "_law_index"]
theorem Ka:FnScope Su ["_law_rows", "_law_fit", "_law_day"] (defScope NU):=(by walk_at "sc")
abbrev Rj:List Str:=["_law_sets", "_law_rows", "_law_index", "_law_notes", "_law_fit", "_law_turn", "_law_day", "_law_before", "_law_worst", "_law_many", "_law_place"]
theorem xA:FnScope Rj ["_law_sets", "_law_rows", "_law_index"] (defScope J4):=(by walk_at "sc")
abbrev Ea:List Str:=["_law_script", "_law_rank", "_law_sack", "_law_sets", "_law_rows", "_law_days", "_law_at", "_law_index", "_law_one", "_law_other"]
theorem BE:FnScope Ea ["_law_script"] (defScope uZ):=(by walk_at "sc")
set_option genInjectivity false in
set_option genSizeOf false in
structure Tp (K:PySem.W.Frag)(mg:Str->Option Value) where
 R6:Addr
 vz:FuncData
 NF:cM K "always_rises" NR R6 vz
 fq:mg "always_rises" = some (.ref R6)
 UX:Addr
 yL:FuncData
 Vs:cM K "is_set" Vp UX yL
 zA:mg "is_set" = some (.ref UX)
 UO:Addr
 t7:FuncData
 Ov:cM K "need_set" UM UO t7
 kG:mg "need_set" = some (.ref UO)
 Ri:Addr
 yi:FuncData
 Q7:cM K "common_divisor" Q8 Ri yi
 iG:mg "common_divisor" = some (.ref Ri)
 Rn:Addr
 vJ:FuncData
 Rc:cM K "common_multiple" Ro Rn vJ
 gH:mg "common_multiple" = some (.ref Rn)
 RJ:Addr
 yq:FuncData
 SM:cM K "prime_parts" Sq RJ yq
 lZ:mg "prime_parts" = some (.ref RJ)
 Q9:Addr
 xM:FuncData
 Rb:cM K "first_numbers" Nh Q9 xM
 jx:mg "first_numbers" = some (.ref Q9)
 RL:Addr
 xC:FuncData
 SV:cM K "comes_again" J' RL xC
 lY:mg "comes_again" = some (.ref RL)
 Sh:Addr
 yC:FuncData
 RC:cM K "least_length" R7 Sh yC
 kF:mg "least_length" = some (.ref Sh)
 eqn:Addr
 vE:FuncData
 TR:cM K "least_way" Tj eqn vE
 qh:mg "least_way" = some (.ref eqn)
 exp:Addr
 yO:FuncData
 S9:cM K "least_row" Tz exp yO
 qf:mg "least_row" = some (.ref exp)
 Sf:Addr
 yp:FuncData
 R5:cM K "first_of_row" RB Sf yp
 kB:mg "first_of_row" = some (.ref Sf)
 Vm:Addr
 uc:FuncData
 OV:cM K "set_row" Gi Vm uc
 mZ:mg "set_row" = some (.ref Vm)
 TN:Addr
 xQ:FuncData
 U8:cM K "set_from" Kz TN xQ
 sQ:mg "set_from" = some (.ref TN)
 UR:Addr
 yJ:FuncData
 UU:cM K "has_day" Vc UR yJ
 wh:mg "has_day" = some (.ref UR)
 Tw:Addr
 vC:FuncData
 Om:cM K "least_set" S3 Tw vC
 i9:mg "least_set" = some (.ref Tw)
 RN:Addr
 yF:FuncData
 SQ:cM K "check_notes" RO RN yF
 lX:mg "check_notes" = some (.ref RN)
 R3:Addr
 xG:FuncData
 N5:cM K "check_sets" RY R3 xG
 gG:mg "check_sets" = some (.ref R3)
 VW:Addr
 yY:FuncData
 V7:cM K "fits" PD VW yY
 GP:mg "fits" = some (.ref VW)
 VD:Addr
 t_:FuncData
 KY:cM K "fitting" OE VD t_
 iI:mg "fitting" = some (.ref VD)
 Sy:Addr
 yj:FuncData
 Si:cM K "fitting_sets" NQ Sy yj
 kD:mg "fitting_sets" = some (.ref Sy)
 T7:Addr
 rS:FuncData
 N8:cM K "unlike_of" TZ T7 rS
 ja:mg "unlike_of" = some (.ref T7)
 QY:Addr
 xB:FuncData
 Q0:cM K "days_that_tell" QX QY xB
 iH:mg "days_that_tell" = some (.ref QY)
 Vj:Addr
 vQ:FuncData
 OP:cM K "partings" KN Vj vQ
 kH:mg "partings" = some (.ref Vj)
 Vt:Addr
 Cg:FuncData
 Wn:cM K "parted" UW Vt Cg
 zB:mg "parted" = some (.ref Vt)
 Ra:Addr
 vH:FuncData
 Rw:cM K "with_one_more" Rx Ra vH
 jA:mg "with_one_more" = some (.ref Ra)
 RI:Addr
 yE:FuncData
 SD:cM K "fewest_looks" Sj RI yE
 kA:mg "fewest_looks" = some (.ref RI)
 Ry:Addr
 Eo:FuncData
 Q3:cM K "left_at_worst" Rl Ry Eo
 jy:mg "left_at_worst" = some (.ref Ry)
 TF:Addr
 vF:FuncData
 Ou:cM K "next_look" TV TF vF
 i_:mg "next_look" = some (.ref TF)
 Of:Addr
 FW:FuncData
 S8:cM K "_law_di_sack" Tv Of FW
 qd:mg "_law_di_sack" = some (.ref Of)
 Tr:Addr
 fH:FuncData
 nW:cM K "_law_di_pick" T6 Tr fH
 aL:mg "_law_di_pick" = some (.ref Tr)
 Sx:Addr
 xF:FuncData
 Sz:cM K "_law_di_lengths" Sl Sx xF
 kE:mg "_law_di_lengths" = some (.ref Sx)
 U9:Addr
 vO:FuncData
 Vx:cM K "_law_di_set" KL U9 vO
 sP:mg "_law_di_set" = some (.ref U9)
 Vw:Addr
 tQ:FuncData
 IU:cM K "_law_di_has" T8 Vw tQ
 dZ:mg "_law_di_has" = some (.ref Vw)
 Rh:Addr
 vG:FuncData
 Q6:cM K "_law_di_otherwise" JX Rh vG
 iL:mg "_law_di_otherwise" = some (.ref Rh)
 TU:Addr
 xJ:FuncData
 TY:cM K "_law_di_sets" Og TU xJ
 qe:mg "_law_di_sets" = some (.ref TU)
 SY:Addr
 yr:FuncData
 Sd:cM K "_law_di_round" Tu SY yr
 n6:mg "_law_di_round" = some (.ref SY)
 exm:Addr
 xN:FuncData
 S4:cM K "_law_di_rows" Oe exm xN
 qc:mg "_law_di_rows" = some (.ref exm)
 SJ:Addr
 su:FuncData
 IB:cM K "_law_di_unlike" Ss SJ su
 cD:mg "_law_di_unlike" = some (.ref SJ)
 RX:Addr
 vK:FuncData
 NL:cM K "_law_di_noted" Oq RX vK
 gJ:mg "_law_di_noted" = some (.ref RX)
 Se:Addr
 vI:FuncData
 Ny:cM K "_law_di_alike" NV Se vI
 gI:mg "_law_di_alike" = some (.ref Se)
 RQ:Addr
 vA:FuncData
 N2:cM K "_law_di_untold" RT RQ vA
 fQ:mg "_law_di_untold" = some (.ref RQ)
 TQ:Addr
 xH:FuncData
 Sv:cM K "_law_di_worst" NU TQ xH
 n8:mg "_law_di_worst" = some (.ref TQ)
 Q5:Addr
 xD:FuncData
 Rg:cM K "_law_di_led_right" J4 Q5 xD
 iJ:mg "_law_di_led_right" = some (.ref Q5)
 yh:Addr
 fN:FuncData
 D9:cM K "law" uZ yh fN
 Ll:mg "law" = some (.ref yh)
 uS:mg "zip" = none
 uR:mg "all" = none
 bz:mg "len" = none
 kU:mg "max" = none
 bB:mg "range" = none
 fU:mg "int" = none
 cG:mg "enumerate" = none
 oF:mg "tuple" = none
 qJ:mg "sorted" = none
 Ho:mg "list" = none
 gZ:mg "isinstance" = none
 Hl:mg "bool" = none
 Mi:mg "min" = none
 Mh:mg "abs" = none
local macro_rules | `(tactic| walk_at "bn1") => `(tactic| exact fun _ _ _ _ _ _ us hl => match us, hl with | [_], _ => rfl)
local macro_rules | `(tactic| walk_at "bn2") => `(tactic| exact fun _ _ _ _ _ _ us hl => match us, hl with | [_, _], _ => rfl)
local macro_rules | `(tactic| walk_at "bn3") => `(tactic| exact fun _ _ _ _ _ _ us hl => match us, hl with | [_, _, _], _ => rfl)
section
variable {K:PySem.W.Frag}{mg:Str->Option Value}(T:Tp K mg)
theorem Tp.J3:Binds K T.vz ["numbers"] []:=T.NF.bindsN (by walk_at "bn1")
theorem Tp.OZ:Binds K T.yL ["told"] []:=T.Vs.bindsN (by walk_at "bn1")
theorem Tp.KD:Binds K T.t7 ["told"] []:=T.Ov.bindsN (by walk_at "bn1")
theorem Tp.Nf:Binds K T.yi ["one", "other"] []:=T.Q7.bindsN (by walk_at "bn2")
theorem Tp.Na:Binds K T.vJ ["one", "other"] []:=T.Rc.bindsN (by walk_at "bn2")
theorem Tp.NT:Binds K T.yq ["number"] []:=T.SM.bindsN (by walk_at "bn1")
theorem Tp.M4:Binds K T.xM ["ladder", "many"] []:=T.Rb.bindsN (by walk_at "bn2")
theorem Tp.NJ:Binds K T.xC ["turn", "rise", "length"] []:=T.SV.bindsN (by walk_at "bn3")
theorem Tp.Nn:Binds K T.yC ["turn", "rise"] []:=T.RC.bindsN (by walk_at "bn2")
theorem Tp.Od:Binds K T.vE ["ladder"] []:=T.TR.bindsN (by walk_at "bn1")
theorem Tp.Ot:Binds K T.yO ["row"] []:=T.S9.bindsN (by walk_at "bn1")
theorem Tp.Nq:Binds K T.yp ["row", "many"] []:=T.R5.bindsN (by walk_at "bn2")
theorem Tp.KR:Binds K T.uc ["told"] []:=T.OV.bindsN (by walk_at "bn1")
theorem Tp.OO:Binds K T.xQ ["row"] []:=T.U8.bindsN (by walk_at "bn1")
theorem Tp.OA:Binds K T.yJ ["told", "day"] []:=T.UU.bindsN (by walk_at "bn2")
theorem Tp.Kq:Binds K T.vC ["told"] []:=T.Om.bindsN (by walk_at "bn1")
theorem Tp.NS:Binds K T.yF ["notes"] []:=T.SQ.bindsN (by walk_at "bn1")
theorem Tp.Ke:Binds K T.xG ["sets"] []:=T.N5.bindsN (by walk_at "bn1")
theorem Tp.PM:Binds K T.yY ["told", "notes"] []:=T.V7.bindsN (by walk_at "bn2")
theorem Tp.IY:Binds K T.t_ ["sets", "notes"] []:=T.KY.bindsN (by walk_at "bn2")
theorem Tp.ND:Binds K T.yj ["sets", "notes"] []:=T.Si.bindsN (by walk_at "bn2")
theorem Tp.Ks:Binds K T.rS ["sets"] []:=T.N8.bindsN (by walk_at "bn1")
theorem Tp.M3:Binds K T.xB ["sets"] []:=T.Q0.bindsN (by walk_at "bn1")
theorem Tp.KO:Binds K T.vQ ["sets"] []:=T.OP.bindsN (by walk_at "bn1")
theorem Tp.Pp:Binds K T.Cg ["lots", "truths"] []:=T.Wn.bindsN (by walk_at "bn2")
theorem Tp.FY:Binds K T.vH ["level", "ways"] []:=T.Rw.bindsN (by walk_at "bn2")
theorem Tp.NX:Binds K T.yE ["sets"] []:=T.SD.bindsN (by walk_at "bn1")
theorem Tp.Nm:Binds K T.Eo ["truths"] []:=T.Q3.bindsN (by walk_at "bn1")
theorem Tp.Kh:Binds K T.vF ["sets", "notes"] []:=T.Ou.bindsN (by walk_at "bn2")
theorem Tp.pO:Binds K T.FW ["_law_script", "_law_rank"] []:=T.S8.bindsN (by walk_at "bn2")
theorem Tp.mC:Binds K T.fH ["_law_sack", "_law_many"] []:=T.nW.bindsN (by walk_at "bn2")
theorem Tp.NZ:Binds K T.xF ["_law_sack", "_law_wide"] []:=T.Sz.bindsN (by walk_at "bn2")
theorem Tp.eqc:Binds K T.vO ["_law_sack", "_law_lengths"] []:=T.Vx.bindsN (by walk_at "bn2")
theorem Tp.Gh:Binds K T.tQ ["_law_told", "_law_day"] []:=T.IU.bindsN (by walk_at "bn2")
theorem Tp.Nc:Binds K T.vG ["_law_told", "_law_more"] []:=T.Q6.bindsN (by walk_at "bn2")
theorem Tp.Ol:Binds K T.xJ ["_law_sack", "_law_most", "_law_wide"] []:=T.TY.bindsN (by walk_at "bn3")
theorem Tp.Nv:Binds K T.yr ["_law_sets"] []:=T.Sd.bindsN (by walk_at "bn1")
theorem Tp.Oj:Binds K T.xN ["_law_sets"] []:=T.S4.bindsN (by walk_at "bn1")
theorem Tp.FQ:Binds K T.su ["_law_rows"] []:=T.IB.bindsN (by walk_at "bn1")
theorem Tp.Kr:Binds K T.vK ["_law_told", "_law_days"] []:=T.NL.bindsN (by walk_at "bn2")
theorem Tp.Ku:Binds K T.vI ["_law_rows", "_law_index"] []:=T.Ny.bindsN (by walk_at "bn2")
theorem Tp.J6:Binds K T.vA ["_law_sets", "_law_rows", "_law_days"] []:=T.N2.bindsN (by walk_at "bn3")
theorem Tp.N4:Binds K T.xH ["_law_rows", "_law_fit", "_law_day"] []:=T.Sv.bindsN (by walk_at "bn3")
theorem Tp.Nk:Binds K T.xD ["_law_sets", "_law_rows", "_law_index"] []:=T.Rg.bindsN (by walk_at "bn3")
end
end tM
namespace tM
open PySem PySem.Spec PyProof.Rows L2 Pu
section
variable {P:Program}{w:World}{K:PySem.W.Frag}{mg:Str->Option Value}{base:Heap}(T:Tp K mg)
theorem bH {X:Cx}{k m:Nat}{f:Addr}{x:Str}{fd:FuncData}{ps:List Str}{sp:Sp}{e:Expr}{es:List Expr}{t:TA}{p pos:Pos}{st:Stmt}{y:Str}(F:FnOk X.prog X.w X.K X.mg X.base CX0 k f fd ps sp)(hr:Room m X.A)(hm:X.mg x=some (.ref f))(hp:cM X.K y st f fd)(hb:Binds X.K fd ps [])(ha:PA X (e::es) t)(hk:k<=m:=by decide)(hg:Gl X x:=by rfl)(hdb:(x == ("__debug__" : Str))=false:=by decide)(he:starEach (e::es) X.env=(false,eval e X.env)::starEach es X.env:=by rfl)(hpl:(backTo pos (starEach es X.env)).any (·.1)=false:=by rfl):PE X (.Call (.Name x p) (e::es) [] pos) (tCall sp [] E0 t):=pe_call F (hr.mono hk) hg hm hp.kp hb .nil pass0 ha hdb he hpl
abbrev A_:=@pa_cons
abbrev B_:=@pa_nil
abbrev C_:=@pss_cons
abbrev D_:=@pss_one
abbrev E_:=@pg_name
abbrev F_:=@pgs_cons
abbrev G_:=@pgs_nil
abbrev H_:=@ps_set
abbrev I_:=@pe_callB
abbrev J_:=@pe_op
abbrev K_:=@pe_int
abbrev L_:=@ps_ret
abbrev M_:=@pe_lst
abbrev N_:=@pe_tup
abbrev O_:=@pe_ix
abbrev Q_:=@ps_if
abbrev R_:=@pss_nil
abbrev S_:=@pe_cmpR
theorem eJ:FnOk P w K mg base CX0 1 T.R6 T.vz ["numbers"] (bq NG):=by
 refine bA T.NF M5 rfl rfl λcdv A outer s H E hr=>⟨_,D_ (L_ (I_ (cr_all rfl) (by rfl) T.uR (by decide +kernel) (A_ (lG (SG.tup (jK (aQ 1) (jK (aQ 2) (cC.nil)))) (cL) (qk (ai 1) (ai 2)) [("one",1),("other",2)] rfl M5.nd (pi_zip (by rfl) T.uS (A_ (pv 0) (A_ (pe_slice sl_list (pv 0) (po_some (K_)) (po_none)) (B_)))) (blkOk_by (N:=e_) (sc:=defScope NR) (by decide +kernel)) (λ_ _ _ _ _=>⟨_,pg_tup rfl (F_ (E_ (i:=1) M5.nd rfl (.inl rfl)) (F_ (E_ (i:=2) M5.nd rfl (.inl rfl)) (G_))),rfl⟩) (λ_ _ _ _ _=>⟨_,pts_nil,rfl⟩) (λ_ _ _ _ _=>⟨_,S_ op_lt (pv 1) (pv 2) (nomark _),rfl⟩)) (B_)))),?_⟩
 kernel_rfl
theorem wY:FnOk P w K mg base CX0 2 T.UX T.yL ["told"] (bq VG):=by
 refine bA T.Vs KW rfl rfl λcdv A outer s H E hr=>⟨_,C_ (ps_asg (pv 0) (pg_tup rfl (F_ (E_ (i:=1) KW.nd rfl (.inl rfl)) (F_ (E_ (i:=2) KW.nd rfl (.inl rfl)) (F_ (E_ (i:=3) KW.nd rfl (.inl rfl)) (F_ (E_ (i:=4) KW.nd rfl (.inl rfl)) (G_))))))) (C_ (Q_ (PW.pt (pw_or (pt_cmpR op_lt (pv 2) (K_) (nomark _)) (pw_or1 (pt_cmpR op_lt (pv 3) (K_) (nomark _))))) (D_ (L_ (pe_bl))) (R_)) (D_ (L_ (pe_and (bH (eJ T) hr T.fq T.NF T.J3 (A_ (J_ op_cat (J_ op_cat (M_ (A_ (pe_un un_neg (K_)) (B_))) (pv 1)) (M_ (A_ (pv 2) (B_)))) (B_))) (pe_one (bH (eJ T) hr T.fq T.NF T.J3 (A_ (J_ op_cat (J_ op_cat (M_ (A_ (pe_un un_neg (K_)) (B_))) (pv 4)) (M_ (A_ (pv 3) (B_)))) (B_)))))))),?_⟩
 kernel_rfl
theorem jk:FnOk P w K mg base CX0 3 T.UO T.t7 ["told"] (bq exc):=by
 refine bA T.Ov rq rfl rfl λcdv A outer s H E hr=>⟨_,D_ (Q_ (pt_not (pt_val (bH (wY T) hr T.zA T.Vs T.OZ (A_ (pv 0) (B_))))) (D_ (ps_never)) (R_)),?_⟩
 kernel_rfl
theorem g7:FnOk P w K mg base CX0 1 T.Ri T.yi ["one", "other"] (bq QW):=by
 refine bA T.Q7 dw rfl rfl λcdv A outer s H E hr=>⟨_,C_ (ps_while PassesOwn.never (pt_cmpR op_gt (pv 1) (K_) (nomark _)) (D_ (ps_par (i:=0) (j:=1) rfl dw.nd rfl rfl (by decide) rfl rfl (A_ (pv 1) (A_ (J_ op_mod (pv 0) (pv 1)) (B_))) (by rfl)))) (D_ (L_ (pv 0))),?_⟩
 kernel_rfl
theorem gp:FnOk P w K mg base CX0 2 T.Rn T.vJ ["one", "other"] (bq QV):=by
 refine bA T.Rc gq rfl rfl λcdv A outer s H E hr=>⟨_,D_ (L_ (J_ op_fdivW (J_ op_mul (pv 0) (pv 1)) (bH (g7 T) hr T.iG T.Q7 T.Nf (A_ (pv 0) (A_ (pv 1) (B_)))))),?_⟩
 kernel_rfl
theorem k_:FnOk P w K mg base CX0 1 T.RJ T.yq ["number"] (bq SN):=by
 refine bA T.SM J5 rfl rfl λcdv A outer s H E hr=>⟨_,C_ (H_ (i:=1) J5.nd rfl (.inl rfl) (M_ (B_))) (C_ (ps_par (i:=2) (j:=3) rfl J5.nd rfl rfl (by decide) rfl rfl (A_ (pv 0) (A_ (K_) (B_))) (by rfl)) (C_ (ps_while PassesOwn.never (pt_cmpR op_gt (pv 2) (K_) (nomark _)) (C_ (Q_ (pt_cmpR (op_eqD hr.units) (J_ op_mod (pv 2) (pv 3)) (K_) (nomark _)) (C_ (ps_expr (pe_bm PySem.F.plainAttrs_list PySem.F.slot_list_append PySem.F.type_list_append mt_append (pv 1) (A_ (pv 3) B_))) (D_ (ps_while PassesOwn.never (pt_cmpR (op_eqD hr.units) (J_ op_mod (pv 2) (pv 3)) (K_) (nomark _)) (D_ (H_ (i:=2) J5.nd rfl (.inl rfl) (J_ op_fdivW (pv 2) (pv 3))))))) (R_)) (D_ (ps_aug (i:=3) J5.nd rfl (.inl rfl) (K_) ip_add)))) (D_ (L_ (pv 1))))),?_⟩
 kernel_rfl
theorem iQ:FnOk P w K mg base CX0 1 T.Q9 T.xM ["ladder", "many"] (bq Rv):=by
 refine bA T.Rb BX rfl rfl λcdv A outer s H E hr=>⟨_,C_ (ps_asg (pv 0) (pg_tup rfl (F_ (E_ (i:=2) BX.nd rfl (.inl rfl)) (F_ (E_ (i:=3) BX.nd rfl (.inr rfl)) (F_ (E_ (i:=4) BX.nd rfl (.inr rfl)) (G_)))))) (C_ (H_ (i:=5) BX.nd rfl (.inl rfl) (J_ op_add (J_ op_fdivW (I_ (call_max2 rfl) (by rfl) T.kU (by decide +kernel) (A_ (K_) (A_ (J_ op_sub (pv 1) (I_ call_len (by rfl) T.bz (by decide +kernel) (A_ (pv 2) (B_)))) (B_)))) (I_ call_len (by rfl) T.bz (by decide +kernel) (A_ (pv 3) (B_)))) (K_))) (C_ (H_ (i:=6) BX.nd rfl (.inl rfl) (J_ op_cat (pv 2) (Du (aQ 7) (cL) (SI.list (ai 3)) (aQ 8) (cL) (gr (ai 8) (wD (ai 4) (ai 7))) [("lap",7),("number",8)] [8] rfl BX.nd (pi_range1 (by rfl) T.bB (A_ (pv 5) (B_))) (blkOk_by (N:=eu) (sc:=defScope Nh) (by decide +kernel)) (by decide) (λ_ _ _ _ _=>⟨_,E_ (i:=7) BX.nd rfl (.inl rfl),rfl⟩) (λ_ _ _ _ _=>⟨_,pts_nil,rfl⟩) (λ_ _ _ _ _=>⟨_,pi_list (pv 3),rfl⟩) (λ_ _ _ _ _=>⟨_,E_ (i:=8) BX.nd rfl (.inl rfl),rfl⟩) (λ_ _ _ _ _=>⟨_,pts_nil,rfl⟩) (λ_ _ _ _ _=>⟨_,J_ op_add (pv 8) (J_ op_mul (pv 4) (pv 7)),rfl⟩)))) (D_ (L_ (pe_slice sl_list (pv 6) (po_none) (po_some (pv 1))))))),?_⟩
 kernel_rfl
theorem k7:FnOk P w K mg base CX0 1 T.RL T.xC ["turn", "rise", "length"] (bq RU):=by
 refine bA T.SV Eu rfl rfl λcdv A outer s H E hr=>⟨_,C_ (H_ (i:=3) Eu.nd rfl (.inr rfl) (J_ op_fdivW (I_ call_len (by rfl) T.bz (by decide +kernel) (A_ (pv 0) (B_))) (pv 2))) (C_ (Q_ (pt_cmpR (op_neD hr.units) (J_ op_mod (pv 1) (pv 3)) (K_) (nomark _)) (D_ (L_ (pe_bl))) (R_)) (C_ (H_ (i:=4) Eu.nd rfl (.inl rfl) (J_ op_cat (pe_slice sl_list (pv 0) (po_some (pv 2)) (po_none)) (lG (aQ 5) (cL) (gr (ai 5) (ai 1)) [("number",5)] rfl Eu.nd (pi_list (pe_slice sl_list (pv 0) (po_none) (po_some (pv 2)))) (blkOk_by (N:=RP) (sc:=defScope J') (by decide +kernel)) (λ_ _ _ _ _=>⟨_,E_ (i:=5) Eu.nd rfl (.inl rfl),rfl⟩) (λ_ _ _ _ _=>⟨_,pts_nil,rfl⟩) (λ_ _ _ _ _=>⟨_,J_ op_add (pv 5) (pv 1),rfl⟩)))) (D_ (L_ (I_ (cr_all rfl) (by rfl) T.uR (by decide +kernel) (A_ (lG (SG.tup (jK (aQ 5) (jK (aQ 6) (cC.nil)))) (cL) (gM (gr (ai 5) (ux (ai 1) (ai 3))) (ai 6)) [("number",5),("more",6)] rfl Eu.nd (pi_zip (by rfl) T.uS (A_ (pv 0) (A_ (pv 4) (B_)))) (blkOk_by (N:=RP) (sc:=defScope J') (by decide +kernel)) (λ_ _ _ _ _=>⟨_,pg_tup rfl (F_ (E_ (i:=5) Eu.nd rfl (.inl rfl)) (F_ (E_ (i:=6) Eu.nd rfl (.inl rfl)) (G_))),rfl⟩) (λ_ _ _ _ _=>⟨_,pts_nil,rfl⟩) (λ_ _ _ _ _=>⟨_,S_ (op_eqD hr.units) (J_ op_add (pv 5) (J_ op_fdivW (pv 1) (pv 3))) (pv 6) (nomark _),rfl⟩)) (B_))))))),?_⟩
 kernel_rfl
theorem jN:FnOk P w K mg base CX0 2 T.Sh T.yC ["turn", "rise"] (bq RG):=by
 refine bA T.RC Ni rfl rfl λcdv A outer s H E hr=>⟨_,C_ (H_ (i:=2) Ni.nd rfl (.inl rfl) (I_ call_len (by rfl) T.bz (by decide +kernel) (A_ (pv 0) (B_)))) (C_ (ps_for PassesOwn.never rfl (pi_list (bH (k_ T) hr T.lZ T.SM T.NT (A_ (pv 2) (B_)))) (E_ (i:=3) Ni.nd rfl (.inl rfl)) (D_ (ps_while PassesOwn.never (PW.pt (pw_and (pt_cmpR (op_eqD hr.units) (J_ op_mod (pv 2) (pv 3)) (K_) (nomark _)) (pw_and1 (pt_val (bH (k7 T) hr T.lY T.SV T.NJ (A_ (pv 0) (A_ (pv 1) (A_ (J_ op_fdivW (pv 2) (pv 3)) (B_))))))))) (D_ (H_ (i:=2) Ni.nd rfl (.inl rfl) (J_ op_fdivW (pv 2) (pv 3))))))) (D_ (L_ (pv 2)))),?_⟩
 kernel_rfl
theorem oM:FnOk P w K mg base CX0 3 T.eqn T.vE ["ladder"] (bq S5):=by
 refine bA T.TR Es rfl rfl λcdv A outer s H E hr=>⟨_,C_ (ps_asg (pv 0) (pg_tup rfl (F_ (E_ (i:=1) Es.nd rfl (.inl rfl)) (F_ (E_ (i:=2) Es.nd rfl (.inl rfl)) (F_ (E_ (i:=3) Es.nd rfl (.inl rfl)) (G_)))))) (C_ (H_ (i:=4) Es.nd rfl (.inl rfl) (bH (jN T) hr T.kF T.RC T.Nn (A_ (pv 2) (A_ (pv 3) (B_))))) (C_ (H_ (i:=5) Es.nd rfl (.inl rfl) (J_ op_fdivW (J_ op_mul (pv 3) (pv 4)) (I_ call_len (by rfl) T.bz (by decide +kernel) (A_ (pv 2) (B_))))) (C_ (ps_par (i:=6) (j:=7) rfl Es.nd rfl rfl (by decide) rfl rfl (A_ (J_ op_cat (pv 1) (pe_slice sl_list (pv 2) (po_none) (po_some (pv 4)))) (A_ (I_ call_len (by rfl) T.bz (by decide +kernel) (A_ (pv 1) (B_))) (B_))) (by rfl)) (C_ (ps_while PassesOwn.never (PW.pt (pw_and (pt_cmpR op_gt (pv 7) (K_) (nomark _)) (pw_and1 (pt_cmpR (op_eqD hr.units) (J_ op_add (O_ ix_seq (pv 6) (J_ op_sub (pv 7) (K_)) (λ_ _=>rfl)) (pv 5)) (O_ ix_seq (pv 6) (J_ op_add (J_ op_sub (pv 7) (K_)) (pv 4)) (λ_ _=>rfl)) (nomark _))))) (D_ (ps_aug (i:=7) Es.nd rfl (.inl rfl) (K_) ip_sub))) (D_ (L_ (N_ (A_ (pe_slice sl_list (pv 6) (po_none) (po_some (pv 7))) (A_ (pe_slice sl_list (pv 6) (po_some (pv 7)) (po_some (J_ op_add (pv 7) (pv 4)))) (A_ (pv 5) (B_))))))))))),?_⟩
 kernel_rfl
theorem oK:FnOk P w K mg base CX0 4 T.exp T.yO ["row"] (bq S6):=by
 refine bA T.S9 Tg rfl rfl λcdv A outer s H E hr=>⟨_,C_ (ps_asg (pv 0) (pg_tup rfl (F_ (E_ (i:=1) Tg.nd rfl (.inl rfl)) (F_ (E_ (i:=2) Tg.nd rfl (.inl rfl)) (G_))))) (D_ (L_ (pe_slice sl_tupA (bH (oM T) hr T.qh T.TR T.Od (A_ (N_ (A_ (pv 1) (A_ (pv 2) (A_ (K_) (B_))))) (B_))) (po_none) (po_some (K_))))),?_⟩
 kernel_rfl
theorem jJ:FnOk P w K mg base CX0 2 T.Sf T.yp ["row", "many"] (bq NH):=by
 refine bA T.R5 jO rfl rfl λcdv A outer s H E hr=>⟨_,D_ (L_ (bH (iQ T) hr T.jx T.Rb T.M4 (A_ (N_ (A_ (O_ ix_seq (pv 0) (K_) (λ_ _=>rfl)) (A_ (O_ ix_seq (pv 0) (K_) (λ_ _=>rfl)) (A_ (K_) (B_))))) (A_ (pv 1) (B_))))),?_⟩
 kernel_rfl
theorem lg:FnOk P w K mg base CX0 1 T.Vm T.uc ["told"] (bq KC):=by
 refine bA T.OV sE rfl rfl λcdv A outer s H E hr=>⟨_,C_ (ps_asg (pv 0) (pg_tup rfl (F_ (E_ (i:=1) sE.nd rfl (.inl rfl)) (F_ (E_ (i:=2) sE.nd rfl (.inl rfl)) (F_ (E_ (i:=3) sE.nd rfl (.inl rfl)) (F_ (E_ (i:=4) sE.nd rfl (.inl rfl)) (G_))))))) (C_ (ps_asg (N_ (A_ (AG (aQ 7) (cL) (ai 7) (SE.bool true) [("day",7)] rfl sE.nd (pi_list (pv 1)) (blkOk_by (N:=KQ) (sc:=defScope Gi) (by decide +kernel)) (λ_ _ _ _ _=>⟨_,E_ (i:=7) sE.nd rfl (.inl rfl),rfl⟩) (λ_ _ _ _ _=>⟨_,pts_nil,rfl⟩) (λ_ _ _ _ _=>⟨_,pv 7,rfl⟩) (λ_ _ _ _ _=>⟨_,pe_bl,rfl⟩)) (A_ (AG (aQ 8) (cL) (ai 8) (SE.bool true) [("place",8)] rfl sE.nd (pi_list (pv 4)) (blkOk_by (N:=KQ) (sc:=defScope Gi) (by decide +kernel)) (λ_ _ _ _ _=>⟨_,E_ (i:=8) sE.nd rfl (.inl rfl),rfl⟩) (λ_ _ _ _ _=>⟨_,pts_nil,rfl⟩) (λ_ _ _ _ _=>⟨_,pv 8,rfl⟩) (λ_ _ _ _ _=>⟨_,pe_bl,rfl⟩)) (B_)))) (pg_tup rfl (F_ (E_ (i:=5) sE.nd rfl (.inr rfl)) (F_ (E_ (i:=6) sE.nd rfl (.inr rfl)) (G_))))) (D_ (L_ (N_ (A_ (lG (aQ 7) (cL) (uy (Jv 5 (ai 7))) [("day",7)] rfl sE.nd (pi_range1 (by rfl) T.bB (A_ (pv 2) (B_))) (blkOk_by (N:=KQ) (sc:=defScope Gi) (by decide +kernel)) (λ_ _ _ _ _=>⟨_,E_ (i:=7) sE.nd rfl (.inl rfl),rfl⟩) (λ_ _ _ _ _=>⟨_,pts_nil,rfl⟩) (λ_ _ _ _ _=>⟨_,pe_callTy call_int1 (by rfl) T.fU (by decide +kernel) (A_ (pe_cmp (pc_din (hu_of hr) (pv 7) (pv 5))) (B_)),rfl⟩)) (A_ (lG (aQ 8) (cL) (uy (Jv 6 (ai 8))) [("place",8)] rfl sE.nd (pi_range1 (by rfl) T.bB (A_ (pv 3) (B_))) (blkOk_by (N:=KQ) (sc:=defScope Gi) (by decide +kernel)) (λ_ _ _ _ _=>⟨_,E_ (i:=8) sE.nd rfl (.inl rfl),rfl⟩) (λ_ _ _ _ _=>⟨_,pts_nil,rfl⟩) (λ_ _ _ _ _=>⟨_,pe_callTy call_int1 (by rfl) T.fU (by decide +kernel) (A_ (pe_cmp (pc_din (hu_of hr) (pv 8) (pv 6))) (B_)),rfl⟩)) (B_))))))),?_⟩
 kernel_rfl
theorem qO:FnOk P w K mg base CX0 5 T.TN T.xQ ["row"] (bq U7):=by
 refine bA T.U8 Ca rfl rfl λcdv A outer s H E hr=>⟨_,C_ (ps_asg (bH (oK T) hr T.qf T.S9 T.Ot (A_ (pv 0) (B_))) (pg_tup rfl (F_ (E_ (i:=1) Ca.nd rfl (.inl rfl)) (F_ (E_ (i:=2) Ca.nd rfl (.inl rfl)) (G_))))) (C_ (OG (i:=3) (SG.tup (jK (aQ 4) (jK (aQ 5) (cC.nil)))) (ST.ab (gM (ai 5) (SE.ab 1))) (ai 4) [("day",4),("bit",5)] rfl Ca.nd rfl rfl (sw_true rfl rfl rfl (by decide +kernel)) (pi_enum (by rfl) T.cG (A_ (pv 1) (B_))) (blkOk_by (N:=U6) (sc:=defScope Kz) (by decide +kernel)) (λ_ _ _ _ _=>⟨_,pg_tup rfl (F_ (E_ (i:=4) Ca.nd rfl (.inl rfl)) (F_ (E_ (i:=5) Ca.nd rfl (.inl rfl)) (G_))),rfl⟩) (λ_ _ _ _ _=>⟨_,pts_one (pt_cmpR (op_eqD hr.units) (pv 5) (K_) (nomark _)),rfl⟩) (λ_ _ _ _ _=>⟨_,pv 4,rfl⟩)) (D_ (L_ (N_ (A_ (pv 3) (A_ (I_ call_len (by rfl) T.bz (by decide +kernel) (A_ (pv 1) (B_))) (A_ (I_ call_len (by rfl) T.bz (by decide +kernel) (A_ (pv 2) (B_))) (A_ (lG (SG.tup (jK (aQ 6) (jK (aQ 5) (cC.nil)))) (ST.ab (gM (ai 5) (SE.ab 1))) (ai 6) [("place",6),("bit",5)] rfl Ca.nd (pi_enum (by rfl) T.cG (A_ (pv 2) (B_))) (blkOk_by (N:=U6) (sc:=defScope Kz) (by decide +kernel)) (λ_ _ _ _ _=>⟨_,pg_tup rfl (F_ (E_ (i:=6) Ca.nd rfl (.inl rfl)) (F_ (E_ (i:=5) Ca.nd rfl (.inl rfl)) (G_))),rfl⟩) (λ_ _ _ _ _=>⟨_,pts_one (pt_cmpR (op_eqD hr.units) (pv 5) (K_) (nomark _)),rfl⟩) (λ_ _ _ _ _=>⟨_,pv 6,rfl⟩)) (B_))))))))),?_⟩
 kernel_rfl
theorem tw:FnOk P w K mg base CX0 1 T.UR T.yJ ["told", "day"] (bq OJ):=by
 refine bA T.UU KI rfl rfl λcdv A outer s H E hr=>⟨_,C_ (ps_asg (pv 0) (pg_tup rfl (F_ (E_ (i:=2) KI.nd rfl (.inl rfl)) (F_ (E_ (i:=3) KI.nd rfl (.inl rfl)) (F_ (E_ (i:=4) KI.nd rfl (.inl rfl)) (F_ (E_ (i:=5) KI.nd rfl (.inl rfl)) (G_))))))) (C_ (Q_ (pt_cmpR op_lt (pv 1) (pv 3) (nomark _)) (D_ (L_ (S_ op_in_seq (pv 1) (pv 2) (by rfl)))) (R_)) (D_ (L_ (S_ op_in_seq (J_ op_mod (J_ op_sub (pv 1) (pv 3)) (pv 4)) (pv 5) (by rfl))))),?_⟩
 kernel_rfl
theorem h_:FnOk P w K mg base CX0 6 T.Tw T.vC ["told"] (bq Kv):=by
 refine bA T.Om oO rfl rfl λcdv A outer s H E hr=>⟨_,C_ (ps_expr (bH (jk T) hr T.kG T.Ov T.KD (A_ (pv 0) (B_)))) (D_ (L_ (bH (qO T) hr T.sQ T.U8 T.OO (A_ (bH (lg T) hr T.mZ T.OV T.KR (A_ (pv 0) (B_))) (B_))))),?_⟩
 kernel_rfl
theorem kZ:FnOk P w K mg base CX0 1 T.RN T.yF ["notes"] (bq So):=by
 refine bA T.SQ NO rfl rfl λcdv A outer s H E hr=>⟨_,C_ (H_ (i:=1) NO.nd rfl (.inl rfl) pe_dnewK) (D_ (ps_for PassesOwn.never rfl (pi_list (pv 0)) (pg_tup rfl (F_ (E_ (i:=2) NO.nd rfl (.inl rfl)) (F_ (E_ (i:=3) NO.nd rfl (.inl rfl)) (G_)))) (C_ (Q_ (PW.pt (pw_or (pt_cmpR op_lt (pv 2) (K_) (nomark _)) (pw_or1 (pt_cmpR (op_neD hr.units) (pe_dget2 (hu_of hr) (pv 1) (pv 2) (pv 3) ⟨rfl,rfl,rfl,rfl⟩) (pv 3) (nomark _))))) (D_ (ps_never)) (R_)) (D_ (ps_dput (hu_of hr) (pv 1) (pv 2) (pv 3) rfl))))),?_⟩
 kernel_rfl
theorem fW:FnOk P w K mg base CX0 4 T.R3 T.xG ["sets"] (bq N3):=by
 refine bA T.N5 f_ rfl rfl λcdv A outer s H E hr=>⟨_,D_ (ps_for PassesOwn.never rfl (pi_list (pv 0)) (E_ (i:=1) f_.nd rfl (.inl rfl)) (D_ (ps_expr (bH (jk T) hr T.kG T.Ov T.KD (A_ (pv 1) (B_)))))),?_⟩
 kernel_rfl
theorem Dr:FnOk P w K mg base CX0 2 T.VW T.yY ["told", "notes"] (bq PJ):=by
 refine bA T.V7 O4 rfl rfl λcdv A outer s H E hr=>⟨_,D_ (L_ (I_ (cr_all rfl) (by rfl) T.uR (by decide +kernel) (A_ (lG (SG.tup (jK (aQ 2) (jK (aQ 3) (cC.nil)))) (cL) (gM (SE.ac OJ (cK (ai 0) (cK (ai 2) (dK)))) (ai 3)) [("day",2),("seen",3)] rfl O4.nd (pi_list (pv 1)) (blkOk_by (N:=x_) (sc:=defScope PD) (by decide +kernel)) (λ_ _ _ _ _=>⟨_,pg_tup rfl (F_ (E_ (i:=2) O4.nd rfl (.inl rfl)) (F_ (E_ (i:=3) O4.nd rfl (.inl rfl)) (G_))),rfl⟩) (λ_ _ _ _ _=>⟨_,pts_nil,rfl⟩) (λ_ _ _ _ _=>⟨_,S_ (op_eqD hr.units) (bH (tw T) hr T.wh T.UU T.OA (A_ (pv 0) (A_ (pv 2) (B_)))) (pv 3) (nomark _),rfl⟩)) (B_)))),?_⟩
 kernel_rfl
theorem U4:FnOk P w K mg base CX0 5 T.VD T.t_ ["sets", "notes"] (bq KG):=by
 refine bA T.KY OD rfl rfl λcdv A outer s H E hr=>⟨_,C_ (ps_expr (bH (fW T) hr T.gG T.N5 T.Ke (A_ (pv 0) (B_)))) (C_ (ps_expr (bH (kZ T) hr T.lX T.SQ T.NS (A_ (pv 1) (B_)))) (D_ (L_ (lG (SG.tup (jK (aQ 2) (jK (aQ 3) (cC.nil)))) (ST.ab (SE.ac PJ (cK (ai 3) (cK (ai 1) (dK))))) (ai 2) [("index",2),("told",3)] rfl OD.nd (pi_enum (by rfl) T.cG (A_ (pv 0) (B_))) (blkOk_by (N:=my) (sc:=defScope OE) (by decide +kernel)) (λ_ _ _ _ _=>⟨_,pg_tup rfl (F_ (E_ (i:=2) OD.nd rfl (.inl rfl)) (F_ (E_ (i:=3) OD.nd rfl (.inl rfl)) (G_))),rfl⟩) (λ_ _ _ _ _=>⟨_,pts_one (pt_val (bH (Dr T) hr T.GP T.V7 T.PM (A_ (pv 3) (A_ (pv 1) (B_))))),rfl⟩) (λ_ _ _ _ _=>⟨_,pv 2,rfl⟩))))),?_⟩
 kernel_rfl
theorem jL:FnOk P w K mg base CX0 7 T.Sy T.yj ["sets", "notes"] (bq R8):=by
 refine bA T.Si Rk rfl rfl λcdv A outer s H E hr=>⟨_,D_ (L_ (lG (aQ 2) (cL) (SE.ac Kv (cK (cW (ai 0) (ai 2)) (dK))) [("index",2)] rfl Rk.nd (pi_list (bH (U4 T) hr T.iI T.KY T.IY (A_ (pv 0) (A_ (pv 1) (B_))))) (blkOk_by (N:=fc) (sc:=defScope NQ) (by decide +kernel)) (λ_ _ _ _ _=>⟨_,E_ (i:=2) Rk.nd rfl (.inl rfl),rfl⟩) (λ_ _ _ _ _=>⟨_,pts_nil,rfl⟩) (λ_ _ _ _ _=>⟨_,bH (h_ T) hr T.i9 T.Om T.Kq (A_ (O_ ix_seq (pv 0) (pv 2) (λ_ _=>rfl)) (B_)),rfl⟩))),?_⟩
 kernel_rfl
theorem ig:FnOk P w K mg base CX0 7 T.T7 T.rS ["sets"] (bq Oo):=by
 refine bA T.N8 N6 rfl rfl λcdv A outer s H E hr=>⟨_,C_ (H_ (i:=1) N6.nd rfl (.inl rfl) (M_ (B_))) (C_ (ps_for PassesOwn.never rfl (pi_list (pv 0)) (E_ (i:=2) N6.nd rfl (.inl rfl)) (C_ (H_ (i:=3) N6.nd rfl (.inl rfl) (bH (h_ T) hr T.i9 T.Om T.Kq (A_ (pv 2) (B_)))) (D_ (Q_ (pt_cmpR (op_notInD (vU hr)) (pv 3) (pv 1) (by rfl)) (D_ (ps_expr (pe_bm PySem.F.plainAttrs_list PySem.F.slot_list_append PySem.F.type_list_append mt_append (pv 1) (A_ (pv 3) B_)))) (R_))))) (D_ (L_ (pv 1)))),?_⟩
 kernel_rfl
theorem g8:FnOk P w K mg base CX0 3 T.QY T.xB ["sets"] (bq Rr):=by
 refine bA T.Q0 IC rfl rfl λcdv A outer s H E hr=>⟨_,C_ (ps_asg (N_ (A_ (K_) (A_ (K_) (B_)))) (pg_tup rfl (F_ (E_ (i:=1) IC.nd rfl (.inl rfl)) (F_ (E_ (i:=2) IC.nd rfl (.inl rfl)) (G_))))) (C_ (ps_for PassesOwn.never rfl (pi_list (pv 0)) (E_ (i:=3) IC.nd rfl (.inl rfl)) (C_ (H_ (i:=1) IC.nd rfl (.inl rfl) (I_ (call_max2 rfl) (by rfl) T.kU (by decide +kernel) (A_ (pv 1) (A_ (O_ ix_seq (pv 3) (K_) (λ_ _=>rfl)) (B_))))) (D_ (H_ (i:=2) IC.nd rfl (.inl rfl) (bH (gp T) hr T.gH T.Rc T.Na (A_ (pv 2) (A_ (O_ ix_seq (pv 3) (K_) (λ_ _=>rfl)) (B_)))))))) (D_ (L_ (J_ op_add (pv 1) (pv 2))))),?_⟩
 kernel_rfl
theorem jl:FnOk P w K mg base CX0 4 T.Vj T.vQ ["sets"] (bq OR):=by
 refine bA T.OP Bw rfl rfl λcdv A outer s H E hr=>⟨_,C_ (H_ (i:=1) Bw.nd rfl (.inr rfl) (bH (g8 T) hr T.iH T.Q0 T.M3 (A_ (pv 0) (B_)))) (C_ (H_ (i:=2) Bw.nd rfl (.inr rfl) (lG (aQ 7) (cL) (SE.ac NH (cK (SE.ac KC (cK (ai 7) (dK))) (cK (ai 1) (dK)))) [("told",7)] rfl Bw.nd (pi_list (pv 0)) (blkOk_by (N:=Vk) (sc:=defScope KN) (by decide +kernel)) (λ_ _ _ _ _=>⟨_,E_ (i:=7) Bw.nd rfl (.inl rfl),rfl⟩) (λ_ _ _ _ _=>⟨_,pts_nil,rfl⟩) (λ_ _ _ _ _=>⟨_,bH (jJ T) hr T.kB T.R5 T.Nq (A_ (bH (lg T) hr T.mZ T.OV T.KR (A_ (pv 7) (B_))) (A_ (pv 1) (B_))),rfl⟩))) (C_ (ps_par (i:=3) (j:=4) rfl Bw.nd rfl rfl (by decide) rfl rfl (A_ (Vf) (A_ (M_ B_) (B_))) (by rfl)) (C_ (ps_for PassesOwn.never rfl (pi_range1 (by rfl) T.bB (A_ (pv 1) (B_))) (E_ (i:=5) Bw.nd rfl (.inr rfl)) (C_ (H_ (i:=6) Bw.nd rfl (.inl rfl) (w7 (by rfl) T.oF (lG (aQ 8) (cL) (gM (cW (ai 8) (ai 5)) (cW (cW (ai 2) (SE.ab 0)) (ai 5))) [("row",8)] rfl Bw.nd (pi_list (pv 2)) (blkOk_by (N:=Vk) (sc:=defScope KN) (by decide +kernel)) (λ_ _ _ _ _=>⟨_,E_ (i:=8) Bw.nd rfl (.inl rfl),rfl⟩) (λ_ _ _ _ _=>⟨_,pts_nil,rfl⟩) (λ_ _ _ _ _=>⟨_,S_ (op_eqD hr.units) (O_ ix_seq (pv 8) (pv 5) (λ_ _=>rfl)) (O_ ix_seq (O_ ix_seq (pv 2) (K_) (λ_ _=>rfl)) (pv 5) (λ_ _=>rfl)) (nomark _),rfl⟩)))) (D_ (Q_ (PW.pt (pw_and (pt_not (pt_val (I_ (Ck rfl) (by rfl) T.uR (by decide +kernel) (A_ (pv 6) (B_))))) (pw_and1 (Pa (OI (vU hr) (pv 6) (pv 3)))))) (C_ (Vr (vU hr) (pv 3) (pv 6) (pv 5) rfl) (D_ (ps_expr (pe_bm PySem.F.plainAttrs_list PySem.F.slot_list_append PySem.F.type_list_append mt_append (pv 4) (A_ (N_ (A_ (pv 5) (A_ (pv 6) (B_)))) B_))))) (R_))))) (D_ (L_ (pv 4)))))),?_⟩
 kernel_rfl
theorem wZ:FnOk P w K mg base CX0 1 T.Vt T.Cg ["lots", "truths"] (bq VJ):=by
 refine bA T.Wn OH rfl rfl λcdv A outer s H E hr=>⟨_,C_ (ps_par (i:=2) (j:=3) rfl OH.nd rfl rfl (by decide) rfl rfl (A_ (Vf) (A_ (M_ B_) (B_))) (by rfl)) (C_ (ps_for PassesOwn.never rfl (RZ.pi_zipA (by rfl) T.uS (A_ (pv 0) (A_ (pv 1) (B_)))) (pg_tup rfl (F_ (E_ (i:=4) OH.nd rfl (.inl rfl)) (F_ (E_ (i:=5) OH.nd rfl (.inl rfl)) (G_)))) (C_ (Q_ (Pa (OI (vU hr) (N_ (A_ (pv 4) (A_ (pv 5) (B_)))) (pv 2))) (D_ (Vr (vU hr) (pv 2) (N_ (A_ (pv 4) (A_ (pv 5) (B_)))) (I_ vR (by rfl) T.bz (by decide +kernel) (A_ (pv 2) (B_))) rfl)) (R_)) (D_ (ps_expr (pe_bm PySem.F.plainAttrs_list PySem.F.slot_list_append PySem.F.type_list_append mt_append (pv 3) (A_ (Vg (vU hr) (pv 2) (N_ (A_ (pv 4) (A_ (pv 5) (B_)))) (λ_ _=>rfl)) B_)))))) (D_ (L_ (pe_tupleOf (by rfl) T.oF (pv 3))))),?_⟩
 kernel_rfl
theorem iT:FnOk P w K mg base CX0 2 T.Ra T.vH ["level", "ways"] (Ba 2 7 2 FY):=by
 refine Xj T.Rw Ed rfl rfl λcdv A outer s H E hr=>⟨_,C_ (H_ (i:=2) Ed.nd rfl (.inl rfl) (Vf)) (C_ (HC (ps_for PassesOwn.never rfl (w_ (pv 0)) (pg_tup rfl (F_ (E_ (i:=3) Ed.nd rfl (.inl rfl)) (F_ (E_ (i:=4) Ed.nd rfl (.inl rfl)) (G_)))) (D_ (ps_for PassesOwn.never rfl (pi_list (pv 1)) (pg_tup rfl (F_ (E_ (i:=5) Ed.nd rfl (.inl rfl)) (F_ (E_ (i:=6) Ed.nd rfl (.inl rfl)) (G_)))) (C_ (H_ (i:=7) Ed.nd rfl (.inl rfl) (bH (wZ T) hr T.zB T.Wn T.Pp (A_ (pv 3) (A_ (pv 6) (B_))))) (D_ (Q_ (pt_cmpR (op_neD hr.units) (pv 7) (pv 3) (nomark _)) (C_ (H_ (i:=8) Ed.nd rfl (.inl rfl) (I_ cr_sortedI (by rfl) T.qJ (by decide +kernel) (A_ (M_ (StX.pa_star (pv 4) (A_ (pv 5) (B_)))) (B_)))) (D_ (Q_ (PW.pt (pw_or (Pa (OI (vU hr) (pv 7) (pv 2))) (pw_or1 (pt_cmpR (Ds (KbC (Nat.le_add_right _ _) hr.units)) (pv 8) (Vg (vU hr) (pv 2) (pv 7) (λ_ _=>rfl)) (nomark _))))) (D_ (Vr (vU hr) (pv 2) (pv 7) (pv 8) rfl)) (R_)))) (R_)))))))) (D_ (L_ (pv 2)))),?_⟩
 kernel_rfl
theorem jI:FnOk P w K mg base CX0 8 T.RI T.yE ["sets"] (bq RD):=by
 refine bA T.SD IG rfl rfl λcdv A outer s H E hr=>⟨_,C_ (ps_expr (bH (fW T) hr T.gG T.N5 T.Ke (A_ (pv 0) (B_)))) (C_ (H_ (i:=1) IG.nd rfl (.inl rfl) (bH (ig T) hr T.ja T.N8 T.Ks (A_ (pv 0) (B_)))) (C_ (Q_ (pt_cmpR op_lt (I_ call_len (by rfl) T.bz (by decide +kernel) (A_ (pv 1) (B_))) (K_) (nomark _)) (D_ (L_ (M_ (B_)))) (R_)) (C_ (H_ (i:=2) IG.nd rfl (.inl rfl) (bH (jl T) hr T.kH T.OP T.KO (A_ (pv 1) (B_)))) (C_ (H_ (i:=3) IG.nd rfl (.inl rfl) (w6 (vU hr) (J_ op_repT (N_ (A_ (K_) (B_))) (I_ call_len (by rfl) T.bz (by decide +kernel) (A_ (pv 1) (B_)))) (M_ (B_)))) (C_ (H_ (i:=4) IG.nd rfl (.inl rfl) (pe_tupRg rfl (by rfl) T.oF (prg_1 (by rfl) T.bB (I_ call_len (by rfl) T.bz (by decide +kernel) (A_ (pv 1) (B_)))))) (C_ (ps_while PassesOwn.never (Pa (OI (vU hr) (pv 4) (pv 3))) (D_ (H_ (i:=3) IG.nd rfl (.inl rfl) (bH (iT T) hr T.jA T.Rw T.FY (A_ (pv 3) (A_ (pv 2) (B_))))))) (D_ (L_ (Vg (vU hr) (pv 3) (pv 4) (λ_ _=>rfl)))))))))),?_⟩
 kernel_rfl
theorem iR:FnOk P w K mg base CX0 1 T.Ry T.Eo ["truths"] (bq Q2):=by
 refine bA T.Q3 iV rfl rfl λcdv A outer s H E hr=>⟨_,D_ (L_ (I_ (call_max2 rfl) (by rfl) T.kU (by decide +kernel) (A_ (nv (pv 0) (pe_bl)) (A_ (nv (pv 0) (pe_bl)) (B_))))),?_⟩
 kernel_rfl
theorem ie:FnOk P w K mg base CX0 8 T.TF T.vF ["sets", "notes"] (bq Oi):=by
 refine bA T.Ou FU rfl rfl λcdv A outer s H E hr=>⟨_,C_ (H_ (i:=2) FU.nd rfl (.inl rfl) (bH (ig T) hr T.ja T.N8 T.Ks (A_ (bH (jL T) hr T.kD T.Si T.ND (A_ (pv 0) (A_ (pv 1) (B_)))) (B_)))) (C_ (Q_ (pt_cmpR op_lt (I_ call_len (by rfl) T.bz (by decide +kernel) (A_ (pv 2) (B_))) (K_) (nomark _)) (D_ (L_ (pe_non))) (R_)) (C_ (H_ (i:=3) FU.nd rfl (.inl rfl) (pe_non)) (C_ (ps_for PassesOwn.never rfl (pi_list (bH (jl T) hr T.kH T.OP T.KO (A_ (pv 2) (B_)))) (pg_tup rfl (F_ (E_ (i:=4) FU.nd rfl (.inl rfl)) (F_ (E_ (i:=5) FU.nd rfl (.inl rfl)) (G_)))) (C_ (H_ (i:=6) FU.nd rfl (.inl rfl) (bH (iR T) hr T.jy T.Q3 T.Nm (A_ (pv 5) (B_)))) (D_ (Q_ (PW.pt (pw_or (pt_cmpR op_isN (pv 3) (pe_non) (nomark _)) (pw_or1 (pt_cmpR op_lt (pv 6) (O_ ix_seq (pv 3) (K_) (λ_ _=>rfl)) (nomark _))))) (D_ (H_ (i:=3) FU.nd rfl (.inl rfl) (N_ (A_ (pv 6) (A_ (pv 4) (B_)))))) (R_))))) (D_ (L_ (O_ ix_seq (pv 3) (K_) (λ_ _=>rfl))))))),?_⟩
 kernel_rfl
theorem pM:FnOk P w K mg base CX0 1 T.Tr T.fH ["_law_sack", "_law_many"] (bq lP):=by
 refine bA T.nW Nz rfl rfl λcdv A outer s H E hr=>⟨_,C_ (Q_ (pt_cmpR op_gt (O_ ix_seq (pv 0) K_ (λ_ _=>rfl)) (K_) (nomark _)) (C_ (H_ (i:=2) Nz.nd rfl (.inl rfl) (J_ op_mod (pe_callTy call_int1 (by rfl) T.fU (by decide +kernel) (A_ (O_ ix_seq (pv 0) K_ (λ_ _=>rfl)) (B_))) (pv 1))) (C_ (ps_asg (J_ op_fdivW (O_ ix_seq (pv 0) K_ (λ_ _=>rfl)) (pv 1)) (pg_sub (pv 0) K_ set_list)) (D_ (L_ (pv 2))))) (R_)) (C_ (ps_asg (J_ op_add (O_ ix_seq (pv 0) K_ (λ_ _=>rfl)) (K_)) (pg_sub (pv 0) K_ set_list)) (C_ (H_ (i:=3) Nz.nd rfl (.inl rfl) (J_ op_mod (pe_callTy call_int1 (by rfl) T.fU (by decide +kernel) (A_ (J_ Js (J_ op_add (O_ ix_seq (pv 0) K_ (λ_ _=>rfl)) (J_ op_mul (K_) (O_ ix_seq (pv 0) K_ (λ_ _=>rfl)))) (K_)) (B_))) (J_ op_add (J_ Js (K_) (K_)) (K_)))) (C_ (H_ (i:=3) Nz.nd rfl (.inl rfl) (J_ op_mod (pe_callTy call_int1 (by rfl) T.fU (by decide +kernel) (A_ (J_ Js (J_ op_add (pv 3) (J_ op_mul (K_) (O_ ix_seq (pv 0) K_ (λ_ _=>rfl)))) (K_)) (B_))) (J_ op_add (J_ Js (K_) (K_)) (K_)))) (D_ (L_ (J_ op_mod (pe_callTy call_int1 (by rfl) T.fU (by decide +kernel) (A_ (J_ op_fdivW (pv 3) (K_)) (B_))) (pv 1))))))),?_⟩
 kernel_rfl
theorem jM:FnOk P w K mg base CX0 2 T.Sx T.xF ["_law_sack", "_law_wide"] (bq RH):=by
 refine bA T.Sz eM rfl rfl λcdv A outer s H E hr=>⟨_,C_ (H_ (i:=2) eM.nd rfl (.inl rfl) (M_ (A_ (M_ (A_ (K_) (A_ (K_) (A_ (K_) (A_ (K_) (B_)))))) (A_ (M_ (A_ (K_) (A_ (K_) (A_ (K_) (A_ (K_) (B_)))))) (A_ (M_ (A_ (K_) (A_ (K_) (A_ (K_) (A_ (K_) (B_)))))) (A_ (M_ (A_ (K_) (A_ (K_) (A_ (K_) (A_ (K_) (B_)))))) (A_ (M_ (A_ (K_) (A_ (K_) (A_ (K_) (A_ (K_) (B_)))))) (A_ (M_ (A_ (K_) (A_ (K_) (A_ (K_) (A_ (K_) (B_)))))) (A_ (M_ (A_ (K_) (A_ (K_) (A_ (K_) (A_ (K_) (B_)))))) (B_)))))))))) (C_ (Q_ (PW.pt (pw_and (pt_val (pv 1)) (pw_and1 (pt_cmpR (op_eqD hr.units) (bH (pM T) hr T.aL T.nW T.mC (A_ (pv 0) (A_ (K_) (B_)))) (K_) (nomark _))))) (D_ (L_ (O_ ix_seq (M_ (A_ (M_ (A_ (K_) (A_ (K_) (A_ (K_) (A_ (K_) (B_)))))) (A_ (M_ (A_ (K_) (A_ (K_) (A_ (K_) (A_ (K_) (B_)))))) (A_ (M_ (A_ (K_) (A_ (K_) (A_ (K_) (A_ (K_) (B_)))))) (A_ (M_ (A_ (K_) (A_ (K_) (B_)))) (B_)))))) (bH (pM T) hr T.aL T.nW T.mC (A_ (pv 0) (A_ (K_) (B_)))) (λ_ _=>rfl)))) (R_)) (D_ (L_ (O_ ix_seq (pv 2) (bH (pM T) hr T.aL T.nW T.mC (A_ (pv 0) (A_ (K_) (B_)))) (λ_ _=>rfl))))),?_⟩
 kernel_rfl
theorem qN:FnOk P w K mg base CX0 2 T.U9 T.vO ["_law_sack", "_law_lengths"] (bq Vy):=by
 refine bA T.Vx B9 rfl rfl λcdv A outer s H E hr=>⟨_,C_ (H_ (i:=2) B9.nd rfl (.inl rfl) (O_ ix_seq (M_ (A_ (K_) (A_ (bH (pM T) hr T.aL T.nW T.mC (A_ (pv 0) (A_ (K_) (B_)))) (A_ (bH (pM T) hr T.aL T.nW T.mC (A_ (pv 0) (A_ (K_) (B_)))) (B_))))) (bH (pM T) hr T.aL T.nW T.mC (A_ (pv 0) (A_ (K_) (B_)))) (λ_ _=>rfl))) (C_ (H_ (i:=3) B9.nd rfl (.inl rfl) (O_ ix_seq (pv 1) (bH (pM T) hr T.aL T.nW T.mC (A_ (pv 0) (A_ (I_ call_len (by rfl) T.bz (by decide +kernel) (A_ (pv 1) (B_))) (B_)))) (λ_ _=>rfl))) (C_ (Q_ (PW.pt (pw_or (pt_cmpR op_gt (pv 3) (K_) (nomark _)) (pw_or1 (pt_cmpR (op_eqD hr.units) (bH (pM T) hr T.aL T.nW T.mC (A_ (pv 0) (A_ (K_) (B_)))) (K_) (nomark _))))) (D_ (H_ (i:=2) B9.nd rfl (.inl rfl) (bH (pM T) hr T.aL T.nW T.mC (A_ (pv 0) (A_ (K_) (B_)))))) (R_)) (C_ (OG (i:=4) (aQ 6) (ST.ab (gM (SE.ac lP (jU 0 (cK (SE.ab 2) (dK)))) (SE.ab 0))) (ai 6) [("_law_day",6)] rfl B9.nd rfl rfl (sw_true rfl rfl rfl (by decide +kernel)) (pi_range1 (by rfl) T.bB (A_ (pv 2) (B_))) (blkOk_by (N:=U5) (sc:=defScope KL) (by decide +kernel)) (λ_ _ _ _ _=>⟨_,E_ (i:=6) B9.nd rfl (.inl rfl),rfl⟩) (λ_ _ _ _ _=>⟨_,pts_one (pt_cmpR (op_eqD hr.units) (bH (pM T) hr T.aL T.nW T.mC (A_ (pv 0) (A_ (K_) (B_)))) (K_) (nomark _)),rfl⟩) (λ_ _ _ _ _=>⟨_,pv 6,rfl⟩)) (C_ (H_ (i:=5) B9.nd rfl (.inr rfl) (O_ ix_seq (M_ (A_ (K_) (A_ (K_) (A_ (K_) (A_ (J_ op_add (pv 3) (K_)) (B_)))))) (bH (pM T) hr T.aL T.nW T.mC (A_ (pv 0) (A_ (K_) (B_)))) (λ_ _=>rfl))) (D_ (L_ (N_ (A_ (pv 4) (A_ (pv 2) (A_ (pv 3) (A_ (lG (aQ 7) (ST.ab (gM (SE.ac lP (jU 0 (cK (ai 5) (dK)))) (SE.ab 0))) (ai 7) [("_law_place",7)] rfl B9.nd (pi_range1 (by rfl) T.bB (A_ (pv 3) (B_))) (blkOk_by (N:=U5) (sc:=defScope KL) (by decide +kernel)) (λ_ _ _ _ _=>⟨_,E_ (i:=7) B9.nd rfl (.inl rfl),rfl⟩) (λ_ _ _ _ _=>⟨_,pts_one (pt_cmpR (op_eqD hr.units) (bH (pM T) hr T.aL T.nW T.mC (A_ (pv 0) (A_ (pv 5) (B_)))) (K_) (nomark _)),rfl⟩) (λ_ _ _ _ _=>⟨_,pv 7,rfl⟩)) (B_)))))))))))),?_⟩
 kernel_rfl
theorem Ob:FnOk P w K mg base CX0 1 T.Vw T.tQ ["_law_told", "_law_day"] (bq yK):=by
 refine bA T.IU Kg rfl rfl λcdv A outer s H E hr=>⟨_,C_ (ps_asg (pv 0) (pg_tup rfl (F_ (E_ (i:=2) Kg.nd rfl (.inl rfl)) (F_ (E_ (i:=3) Kg.nd rfl (.inl rfl)) (F_ (E_ (i:=4) Kg.nd rfl (.inl rfl)) (F_ (E_ (i:=5) Kg.nd rfl (.inl rfl)) (G_))))))) (D_ (L_ (pe_ifExp (pt_cmpR op_lt (pv 1) (pv 3) (nomark _)) (S_ op_in_seq (pv 1) (pv 2) (by rfl)) (S_ op_in_seq (J_ op_mod (pe_callTy call_int1 (by rfl) T.fU (by decide +kernel) (A_ (J_ op_sub (pv 1) (pv 3)) (B_))) (pv 4)) (pv 5) (by rfl))))),?_⟩
 kernel_rfl
theorem g_:FnOk P w K mg base CX0 2 T.Rh T.vG ["_law_told", "_law_more"] (bq QZ):=by
 refine bA T.Q6 Bu rfl rfl λcdv A outer s H E hr=>⟨_,C_ (ps_asg (pv 0) (pg_tup rfl (F_ (E_ (i:=2) Bu.nd rfl (.inl rfl)) (F_ (E_ (i:=3) Bu.nd rfl (.inl rfl)) (F_ (E_ (i:=4) Bu.nd rfl (.inl rfl)) (F_ (E_ (i:=5) Bu.nd rfl (.inl rfl)) (G_))))))) (C_ (H_ (i:=6) Bu.nd rfl (.inr rfl) (J_ op_add (pv 3) (pv 1))) (C_ (OG (i:=7) (aQ 8) (ST.ab (SE.ac yK (cK (ai 0) (cK (ai 8) (dK))))) (ai 8) [("_law_day",8)] rfl Bu.nd rfl rfl (sw_true rfl rfl rfl (by decide +kernel)) (pi_range1 (by rfl) T.bB (A_ (pv 6) (B_))) (blkOk_by (N:=Rf) (sc:=defScope JX) (by decide +kernel)) (λ_ _ _ _ _=>⟨_,E_ (i:=8) Bu.nd rfl (.inl rfl),rfl⟩) (λ_ _ _ _ _=>⟨_,pts_one (pt_val (bH (Ob T) hr T.dZ T.IU T.Gh (A_ (pv 0) (A_ (pv 8) (B_))))),rfl⟩) (λ_ _ _ _ _=>⟨_,pv 8,rfl⟩)) (D_ (L_ (N_ (A_ (pv 7) (A_ (pv 6) (A_ (J_ op_mul (K_) (pv 4)) (A_ (lG (aQ 9) (ST.ab (SE.ac yK (cK (ai 0) (cK (gr (ai 6) (ai 9)) (dK))))) (ai 9) [("_law_place",9)] rfl Bu.nd (pi_range1 (by rfl) T.bB (A_ (J_ op_mul (K_) (pv 4)) (B_))) (blkOk_by (N:=Rf) (sc:=defScope JX) (by decide +kernel)) (λ_ _ _ _ _=>⟨_,E_ (i:=9) Bu.nd rfl (.inl rfl),rfl⟩) (λ_ _ _ _ _=>⟨_,pts_one (pt_val (bH (Ob T) hr T.dZ T.IU T.Gh (A_ (pv 0) (A_ (J_ op_add (pv 6) (pv 9)) (B_))))),rfl⟩) (λ_ _ _ _ _=>⟨_,pv 9,rfl⟩)) (B_)))))))))),?_⟩
 kernel_rfl
theorem oJ:FnOk P w K mg base CX0 3 T.TU T.xJ ["_law_sack", "_law_most", "_law_wide"] (bq Tt):=by
 refine bA T.TY t6 rfl rfl λcdv A outer s H E hr=>⟨_,C_ (ps_par (i:=3) (j:=4) rfl t6.nd rfl rfl (by decide) rfl rfl (A_ (bH (jM T) hr T.kE T.Sz T.NZ (A_ (pv 0) (A_ (pv 2) (B_)))) (A_ (M_ B_) (B_))) (by rfl)) (C_ (ps_for PassesOwn.never rfl (pi_range1 (by rfl) T.bB (A_ (J_ op_add (K_) (bH (pM T) hr T.aL T.nW T.mC (A_ (pv 0) (A_ (pv 1) (B_))))) (B_))) (E_ (i:=5) t6.nd rfl (.inl rfl)) (C_ (ps_par (i:=6) (j:=7) rfl t6.nd rfl rfl (by decide) rfl rfl (A_ (bH (qN T) hr T.sP T.Vx T.eqc (A_ (pv 0) (A_ (pv 3) (B_)))) (A_ (bH (pM T) hr T.aL T.nW T.mC (A_ (pv 0) (A_ (K_) (B_)))) (B_))) (by rfl)) (C_ (Q_ (PW.pt (pw_and (pt_cmpR op_lt (pv 7) (K_) (nomark _)) (pw_and1 (pt_cmpR (op_neD hr.units) (pv 4) (M_ B_) (nomark _))))) (C_ (H_ (i:=6) t6.nd rfl (.inl rfl) (O_ ix_seq (pv 4) (bH (pM T) hr T.aL T.nW T.mC (A_ (pv 0) (A_ (I_ call_len (by rfl) T.bz (by decide +kernel) (A_ (pv 4) B_)) (B_)))) (λ_ _=>rfl))) (C_ (ps_asg (pv 6) (pg_tup rfl (F_ (E_ (i:=8) t6.nd rfl (.inl rfl)) (F_ (E_ (i:=9) t6.nd rfl (.inl rfl)) (F_ (E_ (i:=10) t6.nd rfl (.inl rfl)) (F_ (E_ (i:=11) t6.nd rfl (.inl rfl)) (G_))))))) (C_ (H_ (i:=12) t6.nd rfl (.inr rfl) (bH (pM T) hr T.aL T.nW T.mC (A_ (pv 0) (A_ (J_ op_add (pv 9) (K_)) (B_))))) (D_ (Q_ (pt_cmpR (op_eqD hr.units) (pv 7) (K_) (nomark _)) (D_ (H_ (i:=6) t6.nd rfl (.inl rfl) (pe_ifExp (pt_cmpR op_lt (pv 10) (K_) (nomark _)) (bH (g_ T) hr T.iL T.Q6 T.Nc (A_ (pv 6) (A_ (bH (pM T) hr T.aL T.nW T.mC (A_ (pv 0) (A_ (K_) (B_)))) (B_)))) (pv 6)))) (D_ (Q_ (pt_cmpR op_lt (pv 12) (pv 9) (nomark _)) (D_ (H_ (i:=6) t6.nd rfl (.inl rfl) (J_ op_catA (N_ (A_ (pe_ifExp (pt_cmpR op_notIn_seq (pv 12) (pv 8) (by rfl)) (I_ cr_sortedI (by rfl) T.qJ (by decide +kernel) (A_ (J_ op_cat (pv 8) (M_ (A_ (pv 12) (B_)))) (B_))) (lG (aQ 13) (ST.ab (zO (ai 13) (ai 12))) (ai 13) [("_law_one",13)] rfl t6.nd (pi_list (pv 8)) (blkOk_by (N:=iX) (sc:=defScope Og) (by decide +kernel)) (λ_ _ _ _ _=>⟨_,E_ (i:=13) t6.nd rfl (.inl rfl),rfl⟩) (λ_ _ _ _ _=>⟨_,pts_one (pt_cmpR (op_neD hr.units) (pv 13) (pv 12) (nomark _)),rfl⟩) (λ_ _ _ _ _=>⟨_,pv 13,rfl⟩))) B_)) (pe_slice sl_tupA (pv 6) (po_some (K_)) (po_none))))) (R_)))))))) (R_)) (D_ (ps_expr (pe_bm PySem.F.plainAttrs_list PySem.F.slot_list_append PySem.F.type_list_append mt_append (pv 4) (A_ (pv 6) B_))))))) (D_ (L_ (pv 4)))),?_⟩
 kernel_rfl
theorem l_:FnOk P w K mg base CX0 1 T.SY T.yr ["_law_sets"] (bq SW):=by
 refine bA T.Sd yD rfl rfl λcdv A outer s H E hr=>⟨_,C_ (ps_asg (N_ (A_ (K_) (A_ (K_) (B_)))) (pg_tup rfl (F_ (E_ (i:=1) yD.nd rfl (.inl rfl)) (F_ (E_ (i:=2) yD.nd rfl (.inl rfl)) (G_))))) (C_ (ps_for PassesOwn.never rfl (pi_list (pv 0)) (pg_tup rfl (F_ (E_ (i:=3) yD.nd rfl (.inl rfl)) (F_ (E_ (i:=4) yD.nd rfl (.inl rfl)) (F_ (E_ (i:=5) yD.nd rfl (.inl rfl)) (F_ (E_ (i:=6) yD.nd rfl (.inl rfl)) (G_)))))) (C_ (H_ (i:=1) yD.nd rfl (.inl rfl) (I_ (call_max2 rfl) (by rfl) T.kU (by decide +kernel) (A_ (pv 1) (A_ (pv 4) (B_))))) (C_ (ps_par (i:=7) (j:=8) rfl yD.nd rfl rfl (by decide) rfl rfl (A_ (pv 2) (A_ (pv 5) (B_))) (by rfl)) (C_ (ps_while PassesOwn.never (pt_cmpR op_gt (pv 8) (K_) (nomark _)) (D_ (ps_par (i:=7) (j:=8) rfl yD.nd rfl rfl (by decide) rfl rfl (A_ (pv 8) (A_ (J_ op_mod (pe_callTy call_int1 (by rfl) T.fU (by decide +kernel) (A_ (pv 7) (B_))) (pv 8)) (B_))) (by rfl)))) (D_ (H_ (i:=2) yD.nd rfl (.inl rfl) (J_ op_fdivW (J_ op_mul (pv 2) (pv 5)) (pv 7)))))))) (D_ (L_ (N_ (A_ (pv 1) (A_ (pv 2) (B_))))))),?_⟩
 kernel_rfl
theorem oG:FnOk P w K mg base CX0 2 T.exm T.xN ["_law_sets"] (bq S7):=by
 refine bA T.S4 FJ rfl rfl λcdv A outer s H E hr=>⟨_,C_ (ps_asg (bH (l_ T) hr T.n6 T.Sd T.Nv (A_ (pv 0) (B_))) (pg_tup rfl (F_ (E_ (i:=1) FJ.nd rfl (.inr rfl)) (F_ (E_ (i:=2) FJ.nd rfl (.inr rfl)) (G_))))) (D_ (L_ (lG (aQ 3) (cL) (fB (rX (gr (ai 1) (ai 2))) (aQ 4) (cL) (SE.ac yK (cK (ai 3) (cK (ai 4) (dK)))) [4] (by decide)) [("_law_told",3)] rfl FJ.nd (pi_list (pv 0)) (blkOk_by (N:=TH) (sc:=defScope Oe) (by decide +kernel)) (λ_ _ _ _ _=>⟨_,E_ (i:=3) FJ.nd rfl (.inr rfl),rfl⟩) (λ_ _ _ _ _=>⟨_,pts_nil,rfl⟩) (λ_ _ _ _ _=>⟨_,lG (aQ 4) (cL) (SE.ac yK (cK (ai 3) (cK (ai 4) (dK)))) [("_law_day",4)] rfl FJ.nd (pi_range1 (by rfl) T.bB (A_ (J_ op_add (pv 1) (pv 2)) (B_))) (blkOk_by (N:=TH) (sc:=_) (by rfl)) (λ_ _ _ _ _=>⟨_,E_ (i:=4) FJ.nd rfl (.inl rfl),rfl⟩) (λ_ _ _ _ _=>⟨_,pts_nil,rfl⟩) (λ_ _ _ _ _=>⟨_,bH (Ob T) hr T.dZ T.IU T.Gh (A_ (pv 3) (A_ (pv 4) (B_))),rfl⟩),rfl⟩)))),?_⟩
 kernel_rfl
theorem NY:FnOk P w K mg base CX0 1 T.SJ T.su ["_law_rows"] (bq FI):=by
 refine bA T.IB Sw rfl rfl λcdv A outer s H E hr=>⟨_,C_ (H_ (i:=1) Sw.nd rfl (.inl rfl) (M_ (B_))) (C_ (ps_for PassesOwn.never rfl (pi_list (pv 0)) (E_ (i:=2) Sw.nd rfl (.inl rfl)) (D_ (Q_ (pt_cmpR (op_notInD (vU hr)) (pv 2) (pv 1) (by rfl)) (D_ (ps_expr (pe_bm PySem.F.plainAttrs_list PySem.F.slot_list_append PySem.F.type_list_append mt_append (pv 1) (A_ (pv 2) B_)))) (R_)))) (D_ (L_ (pv 1)))),?_⟩
 kernel_rfl
theorem fY:FnOk P w K mg base CX0 2 T.RX T.vK ["_law_told", "_law_days"] (bq Oa):=by
 refine bA T.NL Sa rfl rfl λcdv A outer s H E hr=>⟨_,D_ (L_ (lG (aQ 2) (cL) (SE.tup (eK (ai 2) (eK (SE.ac yK (cK (ai 0) (cK (ai 2) (dK)))) (fK)))) [("_law_day",2)] rfl Sa.nd (pi_list (pv 1)) (blkOk_by (N:=gA) (sc:=defScope Oq) (by decide +kernel)) (λ_ _ _ _ _=>⟨_,E_ (i:=2) Sa.nd rfl (.inl rfl),rfl⟩) (λ_ _ _ _ _=>⟨_,pts_nil,rfl⟩) (λ_ _ _ _ _=>⟨_,N_ (A_ (pv 2) (A_ (bH (Ob T) hr T.dZ T.IU T.Gh (A_ (pv 0) (A_ (pv 2) (B_)))) (B_))),rfl⟩))),?_⟩
 kernel_rfl
theorem fX:FnOk P w K mg base CX0 1 T.Se T.vI ["_law_rows", "_law_index"] (bq Nu):=by
 refine bA T.Ny N1 rfl rfl λcdv A outer s H E hr=>⟨_,D_ (L_ (lG (SG.tup (jK (aQ 2) (jK (aQ 3) (cC.nil)))) (ST.ab (gM (ai 3) (cW (ai 0) (ai 1)))) (ai 2) [("_law_place",2),("_law_row",3)] rfl N1.nd (pi_enum (by rfl) T.cG (A_ (pv 0) (B_))) (blkOk_by (N:=gz) (sc:=defScope NV) (by decide +kernel)) (λ_ _ _ _ _=>⟨_,pg_tup rfl (F_ (E_ (i:=2) N1.nd rfl (.inl rfl)) (F_ (E_ (i:=3) N1.nd rfl (.inl rfl)) (G_))),rfl⟩) (λ_ _ _ _ _=>⟨_,pts_one (pt_cmpR (op_eqD hr.units) (pv 3) (O_ ix_seq (pv 0) (pv 1) (λ_ _=>rfl)) (nomark _)),rfl⟩) (λ_ _ _ _ _=>⟨_,pv 2,rfl⟩))),?_⟩
 kernel_rfl
theorem fE:FnOk P w K mg base CX0 6 T.RQ T.vA ["_law_sets", "_law_rows", "_law_days"] (bq NI):=by
 refine bA T.N2 NP rfl rfl λcdv A outer s H E hr=>⟨_,C_ (H_ (i:=3) NP.nd rfl (.inl rfl) (M_ (B_))) (C_ (ps_for PassesOwn.never rfl (pi_enum (by rfl) T.cG (A_ (pv 0) (B_))) (pg_tup rfl (F_ (E_ (i:=4) NP.nd rfl (.inl rfl)) (F_ (E_ (i:=5) NP.nd rfl (.inl rfl)) (G_)))) (D_ (Q_ (pt_cmpR (op_neD hr.units) (bH (U4 T) hr T.iI T.KY T.IY (A_ (pv 0) (A_ (bH (fY T) hr T.gJ T.NL T.Kr (A_ (pv 5) (A_ (pv 2) (B_)))) (B_)))) (bH (fX T) hr T.gI T.Ny T.Ku (A_ (pv 1) (A_ (pv 4) (B_)))) (nomark _)) (D_ (ps_expr (pe_bm PySem.F.plainAttrs_list PySem.F.slot_list_append PySem.F.type_list_append mt_append (pv 3) (A_ (pv 4) B_)))) (R_)))) (D_ (L_ (pv 3)))),?_⟩
 kernel_rfl
theorem mh:FnOk P w K mg base CX0 2 T.TQ T.xH ["_law_rows", "_law_fit", "_law_day"] (bq RW):=by
 refine bA T.Sv Ka rfl rfl λcdv A outer s H E hr=>⟨_,C_ (OG (i:=3) (aQ 4) (cL) (SE.ac FI (cK (fB (SI.list (ai 1)) (aQ 5) (ST.ab (gM (cW (cW (ai 0) (ai 5)) (ai 2)) (ai 4))) (cW (ai 0) (ai 5)) [5] (by decide)) (dK))) [("_law_truth",4)] rfl Ka.nd rfl rfl (sw_true rfl rfl rfl (by decide +kernel)) (pi_list (M_ (A_ (pe_bl) (A_ (pe_bl) (B_))))) (blkOk_by (N:=Su) (sc:=defScope NU) (by decide +kernel)) (λ_ _ _ _ _=>⟨_,E_ (i:=4) Ka.nd rfl (.inr rfl),rfl⟩) (λ_ _ _ _ _=>⟨_,pts_nil,rfl⟩) (λ_ _ _ _ _=>⟨_,bH (NY T) hr T.cD T.IB T.FQ (A_ (lG (aQ 5) (ST.ab (gM (cW (cW (ai 0) (ai 5)) (ai 2)) (ai 4))) (cW (ai 0) (ai 5)) [("_law_index",5)] rfl Ka.nd (pi_list (pv 1)) (blkOk_by (N:=Su) (sc:=_) (by rfl)) (λ_ _ _ _ _=>⟨_,E_ (i:=5) Ka.nd rfl (.inl rfl),rfl⟩) (λ_ _ _ _ _=>⟨_,pts_one (pt_cmpR (op_eqD hr.units) (O_ ix_seq (O_ ix_seq (pv 0) (pv 5) (λ_ _=>rfl)) (pv 2) (λ_ _=>rfl)) (pv 4) (nomark _)),rfl⟩) (λ_ _ _ _ _=>⟨_,O_ ix_seq (pv 0) (pv 5) (λ_ _=>rfl),rfl⟩)) (B_)),rfl⟩)) (D_ (L_ (I_ (call_max2 rfl) (by rfl) T.kU (by decide +kernel) (A_ (I_ call_len (by rfl) T.bz (by decide +kernel) (A_ (O_ ix_seq (pv 3) (K_) (λ_ _=>rfl)) (B_))) (A_ (I_ call_len (by rfl) T.bz (by decide +kernel) (A_ (O_ ix_seq (pv 3) (K_) (λ_ _=>rfl)) (B_))) (B_)))))),?_⟩
 kernel_rfl
theorem g9:FnOk P w K mg base CX0 9 T.Q5 T.xD ["_law_sets", "_law_rows", "_law_index"] (bq Rq):=by
 refine bA T.Rg xA rfl rfl λcdv A outer s H E hr=>⟨_,C_ (ps_par (i:=3) (j:=4) rfl xA.nd rfl rfl (by decide) rfl rfl (A_ (M_ (B_)) (A_ (pe_listRg rfl (by rfl) T.Ho (prg_1 (by rfl) T.bB (I_ call_len (by rfl) T.bz (by decide +kernel) (A_ (pv 0) (B_))))) (B_))) (by rfl)) (C_ (ps_for PassesOwn.never rfl (pi_range1 (by rfl) T.bB (A_ (I_ call_len (by rfl) T.bz (by decide +kernel) (A_ (pv 0) (B_))) (B_))) (E_ (i:=5) xA.nd rfl (.inl rfl)) (C_ (H_ (i:=6) xA.nd rfl (.inl rfl) (bH (ie T) hr T.i_ T.Ou T.Kh (A_ (pv 0) (A_ (pv 3) (B_))))) (C_ (Q_ (pt_cmpR op_isN (pv 6) (pe_non) (nomark _)) (D_ (ps_break)) (R_)) (C_ (Q_ (PW.pt (pw_or (pt_not (pt_val (I_ call_isi (by rfl) T.gZ (by decide +kernel) (A_ (pv 6) (A_ (pe_bltn (v:=.ty "int") (by rfl) T.fU (by decide +kernel) rfl) (B_)))))) (pw_or (pt_val (I_ call_isi (by rfl) T.gZ (by decide +kernel) (A_ (pv 6) (A_ (pe_bltn (v:=.ty "bool") (by rfl) T.Hl (by decide +kernel) rfl) (B_))))) (pw_or1 (pt_not (pt_chain op_le op_lt (K_) (pv 6) (I_ call_len (by rfl) T.bz (by decide +kernel) (A_ (O_ ix_seq (pv 1) (K_) (λ_ _=>rfl)) (B_))))))))) (D_ (L_ (pe_bl))) (R_)) (C_ (ps_par (i:=7) (j:=8) rfl xA.nd rfl rfl (by decide) rfl rfl (A_ (I_ call_len (by rfl) T.bz (by decide +kernel) (A_ (bH (NY T) hr T.cD T.IB T.FQ (A_ (lG (aQ 10) (cL) (cW (ai 1) (ai 10)) [("_law_place",10)] rfl xA.nd (pi_list (pv 4)) (blkOk_by (N:=Rj) (sc:=defScope J4) (by decide +kernel)) (λ_ _ _ _ _=>⟨_,E_ (i:=10) xA.nd rfl (.inl rfl),rfl⟩) (λ_ _ _ _ _=>⟨_,pts_nil,rfl⟩) (λ_ _ _ _ _=>⟨_,O_ ix_seq (pv 1) (pv 10) (λ_ _=>rfl),rfl⟩)) (B_))) (B_))) (A_ (bH (mh T) hr T.n8 T.Sv T.N4 (A_ (pv 1) (A_ (pv 4) (A_ (pv 6) (B_))))) (B_))) (by rfl)) (C_ (H_ (i:=3) xA.nd rfl (.inl rfl) (J_ op_cat (pv 3) (bH (fY T) hr T.gJ T.NL T.Kr (A_ (O_ ix_seq (pv 0) (pv 2) (λ_ _=>rfl)) (A_ (M_ (A_ (pv 6) (B_))) (B_)))))) (C_ (H_ (i:=4) xA.nd rfl (.inl rfl) (bH (U4 T) hr T.iI T.KY T.IY (A_ (pv 0) (A_ (pv 3) (B_))))) (C_ (H_ (i:=9) xA.nd rfl (.inl rfl) (I_ call_len (by rfl) T.bz (by decide +kernel) (A_ (bH (NY T) hr T.cD T.IB T.FQ (A_ (lG (aQ 10) (cL) (cW (ai 1) (ai 10)) [("_law_place",10)] rfl xA.nd (pi_list (pv 4)) (blkOk_by (N:=Rj) (sc:=defScope J4) (by decide +kernel)) (λ_ _ _ _ _=>⟨_,E_ (i:=10) xA.nd rfl (.inl rfl),rfl⟩) (λ_ _ _ _ _=>⟨_,pts_nil,rfl⟩) (λ_ _ _ _ _=>⟨_,O_ ix_seq (pv 1) (pv 10) (λ_ _=>rfl),rfl⟩)) (B_))) (B_)))) (D_ (Q_ (PW.pt (pw_or (pt_cmpR op_notIn_seq (pv 2) (pv 4) (by rfl)) (pw_or (pt_cmpR op_ge (pv 9) (pv 7) (nomark _)) (pw_or1 (pt_cmpR op_gt (pv 9) (pv 8) (nomark _)))))) (D_ (L_ (pe_bl))) (R_))))))))))) (C_ (Q_ (PW.pt (pw_or (pt_cmpR op_notN (bH (ie T) hr T.i_ T.Ou T.Kh (A_ (pv 0) (A_ (pv 3) (B_)))) (pe_non) (nomark _)) (pw_or1 (pt_cmpR (op_neD hr.units) (pv 4) (bH (fX T) hr T.gI T.Ny T.Ku (A_ (pv 1) (A_ (pv 2) (B_)))) (nomark _))))) (D_ (L_ (pe_bl))) (R_)) (D_ (L_ (S_ op_lt (I_ call_len (by rfl) T.bz (by decide +kernel) (A_ (pv 3) (B_))) (I_ call_len (by rfl) T.bz (by decide +kernel) (A_ (bH (NY T) hr T.cD T.IB T.FQ (A_ (pv 1) (B_))) (B_))) (nomark _)))))),?_⟩
 kernel_rfl
def NK:SS:=SS.ac (SE.lst (eK (CU (SE.ab 0) (EU (SE.abs (ai 2)) (hxk (SE.ab 10) (SE.ab 18)))) (eK (sR (uy (gr (gr (wD (ai 2) (SE.ab 69143)) (wD (ai 1) (SE.ab 7368787))) (SE.ab 4099))) (gr (hxk (SE.ab 10) (SE.ab 36)) (SE.ab 67))) (eK (SE.ab 0) (fK)))))
theorem oH {sf:List Int->Int->ae}(hev:∀(ns:List Int) (r:Int) (x0:Slot),0<=r->r<=1000->NK.ev [x0,.dat (.int r),.dat (.int (pS ns r))] (0,0,0)=some (.ret (.list [.int (sf ns r).1,.int (sf ns r).2.1,.int (sf ns r).2.2],true) (0,0,0))):FnOk P w K mg base CX0 1 T.Of T.FW ["_law_script", "_law_rank"] (PL K sf):=by
 refine Hw T.S8 ik rfl rfl hev λcdv A outer s H E hr=>⟨_,C_ (H_ (i:=2) ik.nd rfl (.inl rfl) (pe_ifExp (pt_cmpR op_lt (pv 1) (I_ call_len (by rfl) T.bz (by decide +kernel) (A_ (pv 0) (B_))) (nomark _)) (O_ ix_seq (pv 0) (pv 1) (λ_ _=>rfl)) (K_))) (D_ (L_ (M_ (A_ (I_ (call_max2 rfl) (by rfl) T.kU (by decide +kernel) (A_ (K_) (A_ (J_ op_sub (I_ call_abs (by rfl) T.Mh (by decide +kernel) (A_ (pv 2) (B_))) (J_ Js (K_) (K_))) (B_)))) (A_ (J_ op_mod (pe_callTy call_int1 (by rfl) T.fU (by decide +kernel) (A_ (J_ op_add (J_ op_add (J_ op_mul (pv 2) (K_)) (J_ op_mul (pv 1) (K_))) (K_)) (B_))) (J_ op_add (J_ Js (K_) (K_)) (K_))) (A_ (K_) (B_))))))),?_⟩
 kernel_rfl
theorem Hy {sf:List Int->Int->ae}(hev:∀(ns:List Int) (r:Int) (x0:Slot),0<=r->r<=1000->NK.ev [x0,.dat (.int r),.dat (.int (pS ns r))] (0,0,0)=some (.ret (.list [.int (sf ns r).1,.int (sf ns r).2.1,.int (sf ns r).2.2],true) (0,0,0))){nn:Nat}(hB:∀(ns:List Int) (r:Int) (x0 x1:Slot),ns.length<=nn->0<=r->r<=1000->∃ρ' s',t8.ev (x0::x1::.bC::Kah 7 .emp) (sf ns r)=some (.nx (x0::ρ') s')/\ρ'.length=2+7):BP P w K mg base 10 T.yh T.fN ["_law_script"] (u6 K nn):=by
 have o6:FnOk P w K mg base CX0 1 T.Of T.FW ["_law_script", "_law_rank"] (PL K sf):=oH T hev
 refine Hv (m:=7) (RK:=Wl 2) T.D9 BE rfl rfl (λa ns H σ Q _ h1 h2 h3=>qZ h1 h2 λj j1 j2=>h3 j j1 (by omega)) hB λcdv A outer s H hG hr=>⟨_,C_ (ps_for PassesOwn.never rfl (pi_range1 (by rfl) T.bB (A_ (I_ (call_max2 rfl) (by rfl) T.kU (by decide +kernel) (A_ (K_) (A_ (I_ (call_min2 rfl) (by rfl) T.Mi (by decide +kernel) (A_ (K_) (A_ (I_ call_len (by rfl) T.bz (by decide +kernel) (A_ (pv 0) (B_))) (B_)))) (B_)))) (B_))) (E_ (i:=1) BE.nd rfl (.inl rfl)) (C_ (H_ (i:=2) BE.nd rfl (.inl rfl) (bH o6 hr T.qd T.S8 T.pO (A_ (pv 0) (A_ (pv 1) (B_))))) (C_ (H_ (i:=3) BE.nd rfl (.inl rfl) (bH (oJ T) hr T.qe T.TY T.Ol (A_ (pv 2) (A_ (K_) (A_ (pe_bl) (B_)))))) (C_ (ps_par (i:=4) (j:=5) rfl BE.nd rfl rfl (by decide) rfl rfl (A_ (bH (oG T) hr T.qc T.S4 T.Oj (A_ (pv 3) (B_))) (A_ (bH (jI T) hr T.kA T.SD T.NX (A_ (pv 3) (B_))) (B_))) (by rfl)) (C_ (Q_ (PW.pt (pw_or (pt_cmpR (op_neD hr.units) (lG (SG.tup (jK (aQ 8) (jK (aQ 9) (cC.nil)))) (ST.ab (SE.ge (ai 8) (ai 9))) (SE.ab 1) [("_law_one",8),("_law_other",9)] rfl BE.nd (pi_zip (by rfl) T.uS (A_ (pv 5) (A_ (pe_slice sl_list (pv 5) (po_some (K_)) (po_none)) (B_)))) (blkOk_by (N:=Ea) (sc:=defScope uZ) (by decide +kernel)) (λ_ _ _ _ _=>⟨_,pg_tup rfl (F_ (E_ (i:=8) BE.nd rfl (.inl rfl)) (F_ (E_ (i:=9) BE.nd rfl (.inl rfl)) (G_))),rfl⟩) (λ_ _ _ _ _=>⟨_,pts_one (pt_cmpR op_ge (pv 8) (pv 9) (nomark _)),rfl⟩) (λ_ _ _ _ _=>⟨_,K_,rfl⟩)) (M_ (B_)) (nomark _)) (pw_or1 (pt_cmpR (op_neD hr.units) (bH (fE T) hr T.fQ T.N2 T.J6 (A_ (pv 3) (A_ (pv 4) (A_ (pv 5) (B_))))) (M_ (B_)) (nomark _))))) (D_ (L_ (pe_bl))) (R_)) (C_ (ps_for PassesOwn.never rfl (pi_range1 (by rfl) T.bB (A_ (I_ call_len (by rfl) T.bz (by decide +kernel) (A_ (pv 5) (B_))) (B_))) (E_ (i:=6) BE.nd rfl (.inl rfl)) (D_ (Q_ (pt_cmpR (op_eqD hr.units) (bH (fE T) hr T.fQ T.N2 T.J6 (A_ (pv 3) (A_ (pv 4) (A_ (J_ op_cat (pe_slice sl_list (pv 5) (po_none) (po_some (pv 6))) (pe_slice sl_list (pv 5) (po_some (J_ op_add (pv 6) (K_))) (po_none))) (B_))))) (M_ (B_)) (nomark _)) (D_ (L_ (pe_bl))) (R_)))) (D_ (ps_for PassesOwn.never rfl (pi_range1 (by rfl) T.bB (A_ (I_ call_len (by rfl) T.bz (by decide +kernel) (A_ (pv 3) (B_))) (B_))) (E_ (i:=7) BE.nd rfl (.inl rfl)) (D_ (Q_ (pt_not (pt_val (bH (g9 T) hr T.iJ T.Rg T.Nk (A_ (pv 3) (A_ (pv 4) (A_ (pv 7) (B_))))))) (D_ (L_ (pe_bl))) (R_))))))))))) (D_ (L_ (pe_bl))),?_⟩
 kernel_rfl
end
end tM
namespace La
/-- from F on,p places OX on it is g more -/
def bO (f:Nat->Int)(F p:Nat)(g:Int):Prop:=∀d,F<=d->f (d+p)=f d+g
section
variable {f:Nat->Int}{F F' p q:Nat}{g h:Int}
theorem bO.mono (a:bO f F p g)(e:F<=F'):bO f F' p g:=λd hd=>a d (Kaw e hd)
theorem bO.zero:bO f F 0 0:=λd _=>by simp
theorem bO.add (a:bO f F p g)(b:bO f F q h):bO f F (p+q) (g+h):=λd hd=>by
 rw [<-KcO,b (d+p) (by omega),a d hd];omega
theorem bO.mul (a:bO f F p g):∀k:Nat,bO f F (k*p) (k*g)
 |0=>by simpa using bO.zero
 |k+1=>by
  have:=(a.mul k).add a
  rw [KbA]
  have e:((k+1:Nat):Int)*g=(k:Int)*g+g:=by rw [Int.natCast_succ,Int.add_mul,Int.one_mul]
  rw [e];exact this
theorem bO.sub (a:bO f F p g)(b:bO f F q h)(hq:q<=p):bO f F (p-q) (g-h):=λd hd=>by
 have h1:=a d hd
 have h2:=b (d+(p-q)) (by omega)
 rw [show d+(p-q)+q=d+p by omega,h1] at h2
 omega
theorem bO.mod (a:bO f F p g)(b:bO f F q h):∃g',bO f F (p % q) g':=by
 have:=a.sub (b.mul (p / q)) (KcG p q)
 refine⟨g-(p / q:Nat)*h,?_⟩
 have e:p-p / q*q=p % q:=by
  have:=Nat.div_add_mod p q
  rw [Kbf] at this
  omega
 rw [<-e];exact this
theorem bO.gcd:∀{p q:Nat} {g h:Int},bO f F p g->bO f F q h->∃g',bO f F (Kbc p q) g':=by
 intro p q
 induction p,q using Kbc.induction with
 |H0 q=>intro g h a b;exact⟨h,by rw [Nat.gcd_zero_left];exact b⟩
 |H1 p q hp ih=>
  intro g h a b
  obtain⟨g',c⟩:=b.mod a
  obtain⟨g2,c2⟩:=ih c a
  exact⟨g2,by rw [Kc6];exact c2⟩
/-- bJ gain is told by bJ length -/
theorem bO.gain (a:bO f F p g)(b:bO f F' p h):g=h:=by
 have h1:=a (max F F') (Nat.le_max_left _ _)
 have h2:=b (max F F') (Nat.le_max_right _ _)
 omega
/-- what holds far off holds from where it comes again on -/
theorem bO.down (a:bO f F p g)(hp:0<p)(b:bO f F' q h):bO f F q h:=λd hd=>by
 have e1:=(a.mul F') d hd
 have e2:=(a.mul F') (d+q) (by omega)
 have e3:=b (d+F'*p) (by
  have:=Nat.le_mul_of_pos_right F' hp
  omega)
 rw [show d+q+F'*p=d+F'*p+q by omega,e3,e1] at e2
 omega
/-- bJ least way to tell f -/
structure Canon (f:Nat->Int)(F L:Nat)(g:Int):Prop where
 pos:0<L
 per:bO f F L g
 len:∀F' p g',0<p->bO f F' p g'->L<=p
 QN:∀F',bO f F' L g->F<=F'
theorem Canon.uniq {F L F' L':Nat}{g g':Int}(a:Canon f F L g)(b:Canon f F' L' g'):F=F'/\L=L'/\g=g':=by
 have e:L=L':=Kcw (a.len _ _ _ b.pos b.per) (b.len _ _ _ a.pos a.per)
 subst e
 have e2:=a.per.gain b.per
 subst e2
 exact⟨Kcw (a.QN _ b.per) (b.QN _ a.per),rfl,rfl⟩
theorem Canon.dvd {L:Nat}(a:Canon f F L g)(hq:0<q)(b:bO f F' q h):L∣q:=by
 have b':=a.per.down a.pos b
 obtain⟨g',c⟩:=a.per.gcd b'
 have hp:0<Kbc L q:=KbD _ a.pos
 have h1:=a.len _ _ _ hp c
 have h2:=Nat.gcd_le_left q a.pos
 have e:Kbc L q=L:=Kcw h2 h1
 rw [<-e];exact Kcd L q
end
/-- a length dF no vY part makes DR is bJ least -/
theorem z6 {f:Nat->Int}{F n L:Nat}{g:Int}{ps:List Nat}(hL:0<L)(hn:0<n)(hd:L∣n)(hp:bO f F L g)(two:∀p∈ps,2<=p)(all:∀q,2<=q->q∣n->∃p∈ps,p∣q)(no:∀p∈ps,p∣L->¬∃h,bO f F (L / p) h):∀F' p g',0<p->bO f F' p g'->L<=p:=by
 intro F' q h hq b
 have b':=hp.down hL b
 obtain⟨g',c⟩:=hp.gcd b'
 have hm:0<Kbc L q:=KbD _ hL
 have dm:Kbc L q∣L:=Kc0 L q
 have dq:Kbc L q∣q:=Kcd L q
 generalize Kbc L q=m at c hm dm dq
 by_cases e:m=L
 ·exact KaF hq (e ▸ dq)
 ·exfalso
  obtain⟨k,hk⟩:=dm
  have hk2:2<=k:=by
   have:k≠0:=by intro z;rw [z] at hk;omega
   have:k≠1:=by intro z;rw [z,Nat.mul_one] at hk;exact e hk.symm
   omega
  have kn:k∣n:=KaY ⟨m,by rw [Kbf];exact hk⟩ hd
  obtain⟨p,hps,j,hj⟩:=all k hk2 kn
  have p2:=two p hps
  have ek:L=p*(m*j):=by rw [hk,hj,Nat.mul_left_comm]
  refine no p hps ⟨_,ek⟩ ?_
  have e3:L / p=j*m:=by rw [ek,KaJ _ (by omega),Kbf]
  exact⟨_,by rw [e3];exact c.mul j⟩
end La
namespace La
/-- a ladder -/
structure ck where
 early:List Int
 turn:List Int
 rise:Int
def ck.at (l:ck)(d:Nat):Int:=if d<l.early.length then l.early.getD d 0 else l.turn.getD ((d-l.early.length) % l.turn.length) 0+l.rise*(((d-l.early.length) / l.turn.length:Nat):Int)
theorem ck.yx {l:ck}{d:Nat}(h:d<l.early.length):l.at d=l.early.getD d 0:=if_pos h
theorem ck.jQ {l:ck}(i:Nat):l.at (l.early.length+i)=l.turn.getD (i % l.turn.length) 0+l.rise*((i / l.turn.length:Nat):Int):=by
 unfold ck.at
 rw [if_neg (by omega),Kcj]
theorem ck.per (l:ck)(h:l.turn≠[]):bO l.at l.early.length l.turn.length l.rise:=λd hd=>by
 have hn:0<l.turn.length:=KaD.mpr h
 obtain⟨i,rfl⟩:∃i,d=l.early.length+i:=⟨d-l.early.length,by omega⟩
 rw [KcO,jQ,jQ,Nat.add_mod_right,Nat.add_div_right _ hn]
 have:((i / l.turn.length+1:Nat):Int)=((i / l.turn.length:Nat):Int)+1:=by omega
 rw [this,Int.mul_add];omega
/-- through bJ first two HM -/
theorem ck.sC {l:ck}{i:Nat}(h:i<2*l.turn.length):l.at (l.early.length+i)=if i<l.turn.length then l.turn.getD i 0 else l.turn.getD (i-l.turn.length) 0+l.rise:=by
 rw [jQ]
 split
 ·rename_i h1
  rw [KbO h1,Kc1 h1];simp
 ·rename_i h1
  have e:i / l.turn.length=1:=by
   rw [Nat.div_eq_iff (by omega)];omega
  have e2:i % l.turn.length=i-l.turn.length:=by
   rw [Nat.mod_eq_sub_mod (by omega),KbO (by omega)]
  rw [e,e2];simp
theorem getD_eq {α:Type}{xs:List α}{d:α}{i:Nat}(h:i<xs.length):xs.getD i d=xs[i]:=by
 simp [Kcx,h]
theorem vo {xs ys:List Int}(h:xs.length=ys.length)(p:Int->Int->Bool):(xs.zip ys).all (λq=>p q.1 q.2)=true↔∀r,r<xs.length->p (xs.getD r 0) (ys.getD r 0)=true:=by
 induction xs generalizing ys with
 |nil=>simp
 |cons x xs ih=>
  cases ys with
  |nil=>simp at h
  |cons y ys=>
   simp only [Kad,Nat.add_right_cancel_iff] at h
   simp only [KcP,Ka1,Ka8,ih h]
   constructor
   ·rintro⟨h1,h2⟩ r hr
    cases r with
    |zero=>exact h1
    |succ r=>exact h2 r (by simpa using hr)
   ·intro z
    exact⟨z 0 (by simp),λr hr=>z (r+1) (by simpa using hr)⟩
/-- what bJ program asks of a DR round -/
def d8 (turn:List Int)(rise:Int)(k:Nat):List Int:=turn.drop k++(turn.take k).map λx=>x+rise
def nY (turn:List Int)(rise:Int)(k:Nat):Bool:=if rise % ((turn.length / k:Nat):Int)=0 then (turn.zip (d8 turn rise k)).all λq=>decide (q.1+rise / ((turn.length / k:Nat):Int)=q.2) else false
theorem Vb {turn:List Int}{rise:Int}{k:Nat}:(d8 turn rise k).length=turn.length:=by
 unfold d8
 simp only [Kan,Ka9,Kaf,Ka3]
 omega
theorem qy {l:ck}{k r:Nat}(hk:k<=l.turn.length)(hr:r<l.turn.length):(d8 l.turn l.rise k).getD r 0=l.at (l.early.length+r+k):=by
 rw [KcO,ck.sC (by omega)]
 have hl:r<(l.turn.drop k++(l.turn.take k).map λx=>x+l.rise).length:=by
  have:=Vb (turn:=l.turn) (rise:=l.rise) (k:=k)
  unfold d8 at this
  omega
 unfold d8
 rw [getD_eq hl]
 by_cases h:r+k<l.turn.length
 ·rw [if_pos h,getD_eq h,List.getElem_append_left (by rw [Ka9];omega),List.getElem_drop]
  congr 1;omega
 ·rw [if_neg h,getD_eq (show r+k-l.turn.length<l.turn.length by omega),List.getElem_append_right (by rw [Ka9];omega),KbP,List.getElem_take]
  congr 2
  rw [Ka9];omega
theorem mG {l:ck}{k:Nat}(h:l.turn≠[])(k0:0<k)(hd:k∣l.turn.length):nY l.turn l.rise k=true↔∃g,bO l.at l.early.length k g:=by
 have hn:0<l.turn.length:=KaD.mpr h
 have hk:k<=l.turn.length:=KaF hn hd
 obtain⟨t,ht⟩:=hd
 have et:l.turn.length / k=t:=by rw [ht];exact KaJ _ k0
 have t0:0<t:=by
  rcases Kbt t with z|z
  ·rw [z] at ht;omega
  ·exact z
 have per:=l.per h
 unfold nY
 rw [et]
 constructor
 ·intro z
  split at z
  ·rename_i hr
   have hp:bO l.at l.early.length k (l.rise / (t:Int)):=λd hd=>by
    have z':=(vo (by rw [Vb]) (λa b=>decide (a+l.rise / (t:Int)=b))).mp z
    have key:∀r,r<l.turn.length->l.at (l.early.length+r+k)=l.at (l.early.length+r)+l.rise / (t:Int):=λr hr=>by
     have:=of_decide_eq_true (z' r hr)
     rw [qy hk hr] at this
     rw [<-this,ck.sC (by omega),if_pos hr]
    obtain⟨i,rfl⟩:∃i,d=l.early.length+i:=⟨d-l.early.length,by omega⟩
    have h1:=per.mul (i / l.turn.length) (l.early.length+i % l.turn.length) (by omega)
    have h2:=per.mul (i / l.turn.length) (l.early.length+i % l.turn.length+k) (by omega)
    have h3:=key (i % l.turn.length) (KbH _ hn)
    have ei:i % l.turn.length+i / l.turn.length*l.turn.length=i:=by
     have:=Kb1 i l.turn.length
     rw [Kbf] at this;exact this
    rw [show l.early.length+i % l.turn.length+i / l.turn.length*l.turn.length=l.early.length+i by omega] at h1
    rw [show l.early.length+i % l.turn.length+k+i / l.turn.length*l.turn.length=l.early.length+i+k by omega] at h2
    omega
   exact⟨_,hp⟩
  ·cases z
 ·rintro⟨g,hp⟩
  have h1:=hp.mul t
  rw [show t*k=l.turn.length by rw [ht,Kbf]] at h1
  have e1:=per.gain h1
  have e2:l.rise % (t:Int)=0:=by rw [e1];exact Int.mul_emod_right _ _
  have e3:l.rise / (t:Int)=g:=by rw [e1];exact Kce _ (by omega)
  rw [if_pos e2,e3]
  refine (vo (by rw [Vb]) (λa b=>decide (a+g=b))).mpr λr hr=>?_
  rw [qy hk hr,hp _ (by omega),ck.sC (by omega),if_pos hr]
  exact decide_eq_true rfl
end La
namespace Pu
open PySem L2 Enc
theorem Ja (xs:List Int)(k:Nat):au xs (k:Int)=xs.getD k 0:=by
 unfold au L2.atI L2.ixN
 rw [if_pos (by omega:(0:Int)<=(k:Int))]
 by_cases h:k<xs.length
 ·rw [if_pos (by omega:(k:Int)<(xs.length:Int))]
  simp [Kcx]
  try rfl
 ·rw [if_neg (by omega:¬(k:Int)<(xs.length:Int))]
  simp [Kcx,KbL (show xs.length<=k by omega)]
  try rfl
theorem CC {xs:List Int}{i:Int}(h:0<=i):au xs i=xs.getD i.toNat 0:=by
 rw [<-Ja,Kbh h]
theorem GA {α:Type}(xs:List α)(k:Nat):cut xs none (some (k:Int))=xs.take k:=by
 unfold cut
 rw [show HT.sIx xs.length 0 none=0 from rfl,HT.sIx_nat,List.drop_zero,Nat.sub_zero]
 by_cases h:k<=xs.length
 ·rw [Kb2 h]
 ·rw [KbQ (by omega),Kbj (Kap _),Kbj (by omega)]
theorem KH {α:Type}(xs:List α)(k:Nat):cut xs (some (k:Int)) none=xs.drop k:=by
 unfold cut
 rw [show HT.sIx xs.length xs.length none=xs.length from rfl,HT.sIx_nat]
 by_cases h:k<=xs.length
 ·rw [Kb2 h]
  exact Kbj (by rw [Ka9];omega)
 ·rw [KbQ (by omega),Kbl,Kcr (by omega),KcQ]
theorem Cm {α:Type}(xs:List α)(a b:Nat):cut xs (some (a:Int)) (some (b:Int))=(xs.drop a).take (b-a):=by
 unfold cut
 rw [HT.sIx_nat,HT.sIx_nat]
 by_cases h:a<=xs.length
 ·rw [Kb2 h]
  by_cases h2:b<=xs.length
  ·rw [Kb2 h2]
  ·rw [KbQ (by omega),Kbj (by rw [Ka9];omega),Kbj (by rw [Ka9];omega)]
 ·rw [KbQ (show xs.length<=a by omega),Kbl,Kcr (show xs.length<=a by omega),KcQ,KcQ]
theorem yV (n:Nat):rng 0 (n:Int)=(KaG n).map λ(k:Nat)=>(k:Int):=by
 unfold rng
 rw [Int.sub_zero,Kaz]
 exact Kau λk _=>by omega
theorem Gx {lo hi x:Int}:x∈rng lo hi↔lo<=x/\x<hi:=by
 unfold rng
 rw [Kav]
 constructor
 ·rintro⟨k,hk,rfl⟩
  have:=KbK.mp hk
  omega
 ·rintro⟨h1,h2⟩
  exact⟨(x-lo).toNat,KbK.mpr (by omega),by omega⟩
theorem xO (lo hi:Int):(rng lo hi).length=(hi-lo).toNat:=by
 unfold rng;simp
theorem Gg {σ:Type}{c:σ->Prop}[DecidablePred c]{f:σ->σ}{dc d:σ->Prop}(Inv:σ->Prop)(μ:σ->Nat)(h:∀st,Inv st->dc st/\(c st->d st/\Inv (f st)/\μ (f st)<μ st)):
  ∀(n:Nat) (st:σ),Inv st->μ st<n->rT c f dc d n st/\Inv (jS c f n st)/\¬c (jS c f n st)
 |0,st,_,hm=>by omega
 |n+1,st,hi,hm=>by
  obtain⟨h1,h2⟩:=h st hi
  unfold rT jS
  by_cases p:c st
  ·obtain⟨h3,h4,h5⟩:=h2 p
   obtain⟨i1,i2,i3⟩:=Gg Inv μ h n (f st) h4 (by omega)
   rw [if_pos p]
   exact⟨⟨h1,λ_=>⟨h3,i1⟩⟩,i2,i3⟩
  ·rw [if_neg p]
   exact⟨⟨h1,λq=>absurd q p⟩,hi,p⟩
theorem FL {a b:Nat}:(b:Int) % (a:Int)=0↔a∣b:=by
 rw [<-Kbn]
 constructor
 ·intro h
  exact Nat.dvd_of_mod_eq_zero (by omega)
 ·intro h
  have:=Nat.mod_eq_zero_of_dvd h
  omega
/-- q has no part in fs -/
def Fo (fs:List Int)(q:Nat):Prop:=∀p∈fs,¬(p∣(q:Int))
/-- what is left of n behind bJ parts fs,with no part below p -/
structure Fp (n:Nat)(fs:List Int)(l p:Nat):Prop where
 n1:1<=n
 l1:1<=l
 p2:2<=p
 ln:l∣n
 two:∀q∈fs,2<=q
 A:∀q:Nat,q∣n->Fo fs q->q∣l
 B:∀q:Nat,2<=q->q<p->¬q∣l
 len:fs.length+2<=p
theorem qU (n:Nat)(hn:n<1000000)(st:List Int×Int×Int)(l p:Nat)(hp:st.2.2=(p:Int))(p2:2<=p)(hl:1<=l)(hln:l<=n):
  rT (Bs st) (Em st) (IE st) (IL st) fuel (l:Int)/\∃l':Nat,jS (Bs st) (Em st) fuel (l:Int)=(l':Int)/\1<=l'/\l'∣l/\¬p∣l'/\∀q:Nat,Kc7 q p->q∣l->q∣l':=by
 have key:=Gg (c:=Bs st) (f:=Em st) (dc:=IE st) (d:=IL st)
  (λx=>∃l':Nat,x=(l':Int)/\1<=l'/\l'∣l/\∀q:Nat,Kc7 q p->q∣l->q∣l') (λx=>x.toNat) (λx hx=>by
   obtain⟨l',rfl,h1,h2,h3⟩:=hx
   unfold IE IL Bs Em lt
   rw [hp]
   have hle:p<=1000000∨1000000<p:=by omega
   refine⟨by omega,λhc=>?_⟩
   have hd:p∣l':=FL.mp hc
   have e:(l':Int) / (p:Int)=((l' / p:Nat):Int):=by rw [Kc2]
   obtain⟨k,hk⟩:=hd
   have hk1:l' / p=k:=by rw [hk];exact KaJ _ (by omega)
   have k0:1<=k:=by
    rcases Kbt k with z|z
    ·rw [z] at hk;omega
    ·exact z
   have hpl:p<=l':=KaF h1 ⟨k,hk⟩
   have hll:l'<=l:=KaF hl h2
   refine⟨⟨by omega,?_⟩,⟨k,by rw [e,hk1],k0,KaY ⟨p,by rw [hk,Kbf]⟩ h2,λq hq hql=>?_⟩,?_⟩
   ·omega
   ·have:=h3 q hq hql
    rw [hk] at this
    exact hq.dvd_of_dvd_mul_left this
   ·rw [e,hk1]
    simp only [Kaz]
    have:2*k<=p*k:=KbT k p2
    omega) fuel (l:Int) ⟨l,rfl,hl,KbB _,λq _ h=>h⟩ (by unfold fuel;simp;omega)
 obtain⟨k1,⟨l',e,h1,h2,h3⟩,k3⟩:=key
 refine⟨k1,l',e,h1,h2,λhd=>k3 ?_,h3⟩
 rw [e]
 unfold Bs
 rw [hp]
 exact FL.mpr hd
theorem tE (n:Nat)(hn:n<99000)(fs:List Int)(l p:Nat)(h:Fp n fs l p)(hl:1<l):
  Iz (fs,(l:Int),(p:Int))/\∃fs' l',En (fs,(l:Int),(p:Int))=(fs',((l':Nat):Int),((p+1:Nat):Int))/\Fp n fs' l' (p+1):=by
 have hln:l<=n:=KaF h.n1 h.ln
 have hpl:p<=l:=by
  rcases Kbe l p with z|z
  ·exact absurd (KbB l) (h.B l (by omega) z)
  ·exact z
 have hlen:=h.len
 have p2:=h.p2
 obtain⟨i1,l',i2,i3,i4,i5,i6⟩:=qU n (by omega) (fs,(l:Int),(p:Int)) l p rfl h.p2 h.l1 hln
 constructor
 ·unfold Iz bG
  exact⟨by show (0:Int)<(p:Int);omega,λ_=>⟨by show fs.length<100000;omega,i1⟩⟩
 ·unfold En lt
  by_cases hd:p∣l
  ·have pr:∀q:Nat,¬p∣q->Kc7 q p:=λq hq=>by
    have g1:Kbc q p∣p:=Kcd q p
    have g2:Kbc q p∣q:=Kc0 q p
    have g3:Kbc q p<=p:=KaF (by omega) g1
    rcases Kbe (Kbc q p) 2 with z|z
    ·have:0<Kbc q p:=Kcf _ (by omega)
     exact (by omega:Kbc q p=1)
    ·rcases Kbe (Kbc q p) p with y|y
     ·exact absurd (KaY g1 hd) (h.B _ z y)
     ·have e:Kbc q p=p:=by omega
      rw [e] at g2
      exact absurd g2 hq
   refine⟨fs++[(p:Int)],l',?_,⟨h.n1,i3,by omega,KaY i4 h.ln,λq hq=>?_,λq hq hno=>?_,λq hq1 hq2=>?_,?_⟩⟩
   ·simp only [if_pos (FL.mpr hd)]
    rw [i2]
    congr 1
   ·rcases Kao.mp hq with z|z
    ·exact h.two q z
    ·have:q=(p:Int):=by simpa using z
     omega
   ·have hp:¬p∣q:=λz=>hno (p:Int) (Kaq _ (by simp)) (Kck.mpr z)
    exact i6 q (pr q hp) (h.A q hq λr hr=>hno r (Kac _ hr))
   ·intro hql
    rcases Kbe q p with z|z
    ·exact h.B q hq1 z (KaY hql i4)
    ·have:q=p:=by omega
     exact i5 (this ▸ hql)
   ·simp only [Kan,Kad,Kbu];omega
  ·refine⟨fs,l,?_,⟨h.n1,h.l1,by omega,h.ln,h.two,h.A,λq hq1 hq2=>?_,by omega⟩⟩
   ·simp only [if_neg (λz=>hd (FL.mp z))]
    congr 1
   ·rcases Kbe q p with z|z
    ·exact h.B q hq1 z
    ·have:q=p:=by omega
     exact this ▸ hd
theorem iU (n:Nat)(h1:1<=n)(hn:n<99000):yq (n:Int)/\(∀p∈BV (n:Int),2<=p)/\∀q:Nat,2<=q->q∣n->∃p∈BV (n:Int),p∣(q:Int):=by
 have key:=Gg (c:=Ek) (f:=En) (dc:=Ru) (d:=Iz)
  (λst=>∃fs l p,st=(fs,((l:Nat):Int),((p:Nat):Int))/\Fp n fs l p) (λst=>n+2-st.2.2.toNat) (λst hst=>by
   obtain⟨fs,l,p,rfl,h⟩:=hst
   refine⟨trivial,λhc=>?_⟩
   have hl:1<l:=by
    have hc:(1:Int)<(l:Int):=hc
    omega
   obtain⟨h2,fs',l',e,h3⟩:=tE n hn fs l p h hl
   refine⟨h2,⟨fs',l',p+1,e,h3⟩,?_⟩
   rw [e]
   have hln:l<=n:=KaF h.n1 h.ln
   have hpl:p<=l:=by
    rcases Kbe l p with z|z
    ·exact absurd (KbB l) (h.B l (by omega) z)
    ·exact z
   simp only [Kaz]
   omega) fuel ([],(n:Int),2) ⟨[],n,2,rfl,h1,h1,by omega,KbB _,(by simp),λq hq _=>hq,λq _ _=>by omega,(by simp)⟩ (by unfold fuel;show n+2-2<1000000;omega)
 obtain⟨k1,⟨fs,l,p,e,h⟩,k3⟩:=key
 have hl:l=1:=by
  rw [e] at k3
  unfold Ek at k3
  have:=h.l1
  have k4:¬(1:Int)<(l:Int):=k3
  omega
 have et:BV (n:Int)=fs:=by
  show (jS Ek En fuel ([],(n:Int),2)).1=fs
  rw [e]
 refine⟨k1,?_,λq hq hqn=>?_⟩
 ·rw [et];exact h.two
 ·rw [et]
  by_cases hno:∃p∈fs,p∣(q:Int)
  ·exact hno
  ·have:=h.A q hqn λp hp hd=>hno ⟨p,hp,hd⟩
   rw [hl] at this
   have:=KaF (by omega) this
   omega
abbrev ck:=Ec
def la (L:ck):La.ck:=⟨L.x,L.y,L.z⟩
/-- what a ladder tells of a day -/
def lat (L:ck)(d:Nat):Int:=(la L).at d
theorem GK {a b:Nat}:(a:Int) / (b:Int)=((a / b:Nat):Int):=by rw [Kc2]
theorem pR (turn:List Int)(rise:Int)(k:Nat):J0 turn rise (k:Int)=La.nY turn rise k:=by
 unfold J0 La.nY La.d8
 simp only [lt,GK,GA,KH]
 by_cases h:rise % ((turn.length / k:Nat):Int)=0
 ·rw [if_neg (by simpa using h),if_pos h,Kbz];rfl
 ·rw [if_pos h,if_neg h]
theorem vV (turn:List Int)(rise:Int)(k:Nat)(k0:0<k)(hk:k<=turn.length)(hn:turn.length<=99000):xC turn rise (k:Int):=by
 unfold xC
 simp only [bG,GK,GA,KH]
 have t0:0<turn.length / k:=Kcl hk k0
 have t1:turn.length / k<=turn.length:=Kcy _ _
 refine⟨⟨by omega,by omega⟩,by omega,λ_=>⟨?_,?_,λx _=>⟨by omega,by omega⟩,?_⟩⟩
 ·rw [Ka3];omega
 ·rw [Ka9,Kaf,Ka3];omega
 ·rw [Kb0];omega
open La in
/-- a vY part is taken as long as bJ round comes again -/
theorem oz (l:La.ck)(h:l.turn≠[])(hn:l.turn.length<=99000)(p:Nat)(p2:2<=p)(k:Nat)(k0:0<k)(hk:k∣l.turn.length)(hp:∃g,bO l.at l.early.length k g):
  rT (Br l.turn l.rise (p:Int)) (Ei l.turn l.rise (p:Int)) (IJ l.turn l.rise (p:Int)) (IK l.turn l.rise (p:Int)) fuel (k:Int) /\
  ∃k':Nat,jS (Br l.turn l.rise (p:Int)) (Ei l.turn l.rise (p:Int)) fuel (k:Int)=(k':Int)/\0<k'/\k'∣k/\(∃g,bO l.at l.early.length k' g)/\¬(p∣k'/\∃g,bO l.at l.early.length (k' / p) g):=by
 have n0:0<l.turn.length:=KaD.mpr h
 have hkn:k<=l.turn.length:=KaF n0 hk
 have key:=Gg (c:=Br l.turn l.rise (p:Int)) (f:=Ei l.turn l.rise (p:Int)) (dc:=IJ l.turn l.rise (p:Int)) (d:=IK l.turn l.rise (p:Int))
  (λx=>∃k':Nat,x=(k':Int)/\0<k'/\k'∣k/\∃g,bO l.at l.early.length k' g) (λx=>x.toNat) (λx hx=>by
   obtain⟨k',rfl,h1,h2,h3⟩:=hx
   have WK:k'<=l.turn.length:=Kaw (KaF k0 h2) hkn
   unfold IJ IK Br Ei
   simp only [lt,GK]
   have big:(p:Int)<1000000000000000000000000000000000000000000000000000000000000∨¬p∣k':=by
    by_cases z:p∣k'
    ·have:=KaF h1 z
     exact .inl (by omega)
    ·exact .inr z
   refine⟨⟨by omega,λhd=>?_⟩,λhc=>?_⟩
   ·have hd':=FL.mp hd
    have hpk:=KaF h1 hd'
    refine⟨⟨by omega,by omega⟩,vV _ _ _ (Kcl hpk (by omega)) (Kaw (Kcy _ _) WK) hn⟩
   ·obtain⟨hd,hc⟩:=hc
    have hd':=FL.mp hd
    have hpk:=KaF h1 hd'
    have XX:0<k' / p:=Kcl hpk (by omega)
    have XY:k' / p∣k':=KcR hd'
    rw [pR] at hc
    have GW:=(mG h XX (KaY XY (KaY h2 hk))).mp hc
    refine⟨⟨by omega,by omega⟩,⟨_,rfl,XX,KaY XY h2,GW⟩,?_⟩
    simp only [Kaz]
    exact Nat.div_lt_self h1 (by omega)) fuel (k:Int) ⟨k,rfl,k0,KbB _,hp⟩ (by unfold fuel;simp;omega)
 obtain⟨k1,⟨k',e,h1,h2,h3⟩,k3⟩:=key
 refine⟨k1,k',e,h1,h2,h3,λhc=>k3 ?_⟩
 rw [e]
 unfold Br
 simp only [GK]
 have hpk:=KaF h1 hc.1
 refine⟨FL.mpr hc.1,?_⟩
 rw [pR]
 exact (mG h (Kcl hpk (by omega)) (KaY (KcR hc.1) (KaY h2 hk))).mpr hc.2
open La in
theorem jf (l:La.ck)(h:l.turn≠[])(hn:l.turn.length<=99000):∀(ps:List Int) (done:List Int) (k:Nat),(∀p∈ps,2<=p)->0<k->k∣l.turn.length->(∃g,bO l.at l.early.length k g)->(∀p∈done,2<=p/\¬(p.toNat∣k/\∃g,bO l.at l.early.length (k / p.toNat) g)) ->
  bW (Fw l.turn l.rise) (M7 l.turn l.rise) ps (k:Int)/\∃k':Nat,ps.foldl (Fw l.turn l.rise) (k:Int)=(k':Int)/\0<k'/\k'∣l.turn.length/\(∃g,bO l.at l.early.length k' g)/\∀p∈done++ps,¬(p.toNat∣k'/\∃g,bO l.at l.early.length (k' / p.toNat) g)
 |[],done,k,_,h1,h2,h3,h4=>⟨trivial,k,rfl,h1,h2,h3,λp hp=>(h4 p (by simpa using hp)).2⟩
 |p::ps,done,k,hps,h1,h2,h3,h4=>by
  have p2:=hps p Kaa
  have ep:((p.toNat:Nat):Int)=p:=Kbh (by omega)
  obtain⟨i1,k',i2,i3,i4,i5,i6⟩:=oz l h hn p.toNat (by omega) k h1 h2 h3
  rw [ep] at i1 i2
  have e1:Fw l.turn l.rise (k:Int) p=(k':Int):=i2
  have carry:∀q∈done++[p],2<=q/\¬(q.toNat∣k'/\∃g,bO l.at l.early.length (k' / q.toNat) g):=λq hq=>by
   rcases Kao.mp hq with z|z
   ·obtain⟨q2,hno⟩:=h4 q z
    refine⟨q2,λhc=>hno ?_⟩
    obtain⟨⟨j,hj⟩,g,hg⟩:=hc
    obtain⟨t,ht⟩:=i4
    have q0:0<q.toNat:=by omega
    refine⟨⟨j*t,by rw [ht,hj,Kcm]⟩,?_⟩
    have e2:k' / q.toNat=j:=by rw [hj];exact KaJ _ q0
    have e3:k / q.toNat=t*j:=by rw [ht,hj,Kcm,KaJ _ q0,Kbf]
    rw [e2] at hg
    rw [e3]
    exact⟨_,hg.mul t⟩
   ·have:q=p:=by simpa using z
    subst this
    exact⟨p2,i6⟩
  obtain⟨j1,k2,j2,j3,j4,j5,j6⟩:=jf l h hn ps (done++[p]) k' (λq hq=>hps q (Kab _ hq)) i3 (KaY i4 h2) i5 carry
  refine⟨⟨i1,by rw [e1];exact j1⟩,k2,?_,j3,j4,j5,λq hq=>j6 q (by simpa using hq)⟩
  rw [Kay,e1];exact j2
open La in
theorem qC (l:La.ck)(h:l.turn≠[])(hn:l.turn.length<99000):yC l.turn l.rise/\∃k:Nat,Iv l.turn l.rise=(k:Int)/\0<k/\k∣l.turn.length/\(∃g,bO l.at l.early.length k g)/\∀F' p g',0<p->bO l.at F' p g'->k<=p:=by
 have n0:0<l.turn.length:=KaD.mpr h
 obtain⟨q1,q2,q3⟩:=iU l.turn.length n0 hn
 obtain⟨j1,k,j2,j3,j4,⟨g,j5⟩,j6⟩:=jf l h (by omega) (BV (l.turn.length:Int)) [] l.turn.length q2 n0 (KbB _) ⟨_,l.per h⟩ (by simp)
 refine⟨⟨q1,j1⟩,k,j2,j3,j4,⟨g,j5⟩,?_⟩
 refine z6 (ps:=(BV (l.turn.length:Int)).map Kbr) j3 n0 j4 j5 ?_ ?_ ?_
 ·intro p hp
  obtain⟨q,hq,rfl⟩:=Kav.mp hp
  have:=q2 q hq
  omega
 ·intro q hq hd
  obtain⟨p,hp,XW⟩:=q3 q hq hd
  have p2:=q2 p hp
  refine⟨p.toNat,KaA hp,?_⟩
  rw [<-Kbh (show 0<=p by omega)] at XW
  exact Kck.mp XW
 ·intro p hp hd GW
  obtain⟨q,hq,rfl⟩:=Kav.mp hp
  exact j6 q (by simpa using hq) ⟨hd,GW⟩
end Pu
namespace Pu
open PySem L2 Enc La
/-- bJ ladder with this Ir,round and gain dF tells f -/
def o5 (f:Nat->Int)(F k:Nat)(g:Int):ck:=T3.mk ((KaG F).map f) ((KaG k).map λi=>f (F+i)) g
theorem II {f:Nat->Int}{n i:Nat}(h:i<n):((KaG n).map f).getD i 0=f i:=by
 rw [La.getD_eq (by simpa using h)];simp
theorem Ez {L:ck}{d:Nat}(h:d<L.x.length):lat L d=L.x.getD d 0:=La.ck.yx h
theorem Je (L:ck)(i:Nat):lat L (L.x.length+i)=L.y.getD (i % L.y.length) 0+L.z*((i / L.y.length:Nat):Int):=La.ck.jQ i
theorem O9 (L:ck)(h:L.y≠[]):bO (lat L) L.x.length L.y.length L.z:=La.ck.per (la L) h
theorem exs {L:ck}{i:Nat}(h:i<L.y.length):lat L (L.x.length+i)=L.y.getD i 0:=by
 rw [Je,KbO h,Kc1 h];simp
/-- two dF Q4 again alike,and are alike through bJ first round -/
theorem Dw {f f':Nat->Int}{F k:Nat}{g:Int}(k0:0<k)(a:bO f F k g)(b:bO f' F k g)(h:∀d,d<F+k->f d=f' d):f=f':=by
 funext d
 by_cases hd:d<F+k
 ·exact h d hd
 ·have e:d=(F+(d-F) % k)+((d-F) / k)*k:=by
   have:=Kb1 (d-F) k
   rw [Kbf] at this
   omega
  have hm:=KbH (d-F) k0
  have h1:=(a.mul ((d-F) / k)) (F+(d-F) % k) (by omega)
  have h2:=(b.mul ((d-F) / k)) (F+(d-F) % k) (by omega)
  rw [<-e] at h1 h2
  rw [h1,h2,h _ (by omega)]
theorem C2 {f:Nat->Int}{F k:Nat}{g:Int}(k0:0<k)(p:bO f F k g):lat (o5 f F k g)=f:=by
 have hx:(o5 f F k g).x.length=F:=by simp [o5]
 have hy:(o5 f F k g).y.length=k:=by simp [o5]
 have ny:(o5 f F k g).y≠[]:=λz=>by rw [z] at hy;simp at hy;omega
 have p2:=O9 (o5 f F k g) ny
 rw [hx,hy] at p2
 refine Dw k0 p2 p λd hd=>?_
 by_cases h:d<F
 ·rw [Ez (by rw [hx];exact h)]
  exact II h
 ·obtain⟨i,rfl⟩:∃i,d=F+i:=⟨d-F,by omega⟩
  have:=exs (L:=o5 f F k g) (i:=i) (by rw [hy];omega)
  rw [hx] at this
  rw [this]
  exact II (f:=λi=>f (F+i)) (by omega)
theorem K9 (xs ys:List Int)(i:Nat):(xs++ys).getD i 0=if i<xs.length then xs.getD i 0 else ys.getD (i-xs.length) 0:=by
 simp only [Kcx]
 by_cases h:i<xs.length
 ·rw [if_pos h,List.getElem?_append_left h]
 ·rw [if_neg h,Kb6 (by omega)]
theorem OT (xs:List Int){i k:Nat}(h:i<k):(xs.take k).getD i 0=xs.getD i 0:=by
 simp only [Kcx]
 rw [List.getElem?_take_of_lt h]
theorem Pg {xs ys:List Int}(hl:xs.length=ys.length)(h:∀i,i<xs.length->xs.getD i 0=ys.getD i 0):xs=ys:=by
 apply List.ext_getElem hl
 intro i h1 h2
 have:=h i h1
 rw [La.getD_eq h1,La.getD_eq h2] at this
 exact this
theorem Gr (L:ck)(h:L.y≠[])(hn:L.x.length+L.y.length<99000):vE L/\∃F k g,Canon (lat L) F k g/\F<=L.x.length/\k∣L.y.length/\k<=L.y.length/\L.z=((L.y.length / k:Nat):Int)*g/\eU L=o5 (lat L) F k g:=by
 have n0:0<L.y.length:=KaD.mpr h
 obtain⟨dl,k,ek,k0,kd,⟨g,hg⟩,hmin⟩:=qC (la L) h (by show L.y.length<99000;omega)
 have ek:Iv L.y L.z=(k:Int):=ek
 have kn:k<=L.y.length:=KaF n0 kd
 have hg:bO (lat L) L.x.length k g:=hg
 obtain⟨t,ht⟩:=kd
 have ht:L.y.length=k*t:=ht
 have t0:0<t:=by
  rcases Kbt t with z|z
  ·rw [z] at ht;omega
  ·exact z
 have et:L.y.length / k=t:=by rw [ht];exact KaJ _ k0
 have EG:L.z=(t:Int)*g:=by
  have h1:=hg.mul t
  rw [show t*k=L.y.length by rw [ht,Kbf]] at h1
  exact (O9 L h).gain h1
 have EF:L.z*(k:Int) / (L.y.length:Int)=g:=by
  rw [EG,ht,Kbv,Kcn,Kb9 g,<-Kcn,Kb9 (t:Int)]
  exact Kce _ (by
   have:0<(k:Int)*(t:Int):=Int.mul_pos (by omega) (by omega)
   omega)
 have enum:∀i,i<L.x.length+k->(L.x++L.y.take k).getD i 0=lat L i:=λi hi=>by
  rw [K9]
  split
  ·rename_i z;rw [Ez z]
  ·rename_i z
   rw [OT _ (by omega)]
   have:=exs (L:=L) (i:=i-L.x.length) (by omega)
   rw [show L.x.length+(i-L.x.length)=i by omega] at this
   rw [this]
 have Mn:(L.x++L.y.take k).length=L.x.length+k:=by rw [Kan,Ka3];omega
 have key:=Gg (c:=Ex (k:Int) g (L.x++L.y.take k)) (f:=IQ (k:Int) g (L.x++L.y.take k)) (dc:=JZ (k:Int) g (L.x++L.y.take k)) (d:=Np (k:Int) g (L.x++L.y.take k))
  (λx=>∃F:Nat,x=(F:Int)/\F<=L.x.length/\bO (lat L) F k g) (λx=>x.toNat) (λx hx=>by
   obtain⟨F,rfl,h1,h2⟩:=hx
   unfold JZ Np Ex IQ
   simp only [lt]
   rw [Mn]
   refine⟨λhF=>⟨⟨by omega,by omega⟩,by omega,by omega⟩,λhc=>?_⟩
   obtain⟨hF,hc⟩:=hc
   obtain⟨G,rfl⟩:∃G:Nat,F=G+1:=⟨F-1,by omega⟩
   rw [show ((G+1:Nat):Int)-1=(G:Int) by omega,Ja,show (G:Int)+(k:Int)=((G+k:Nat):Int) by omega,Ja,enum _ (by omega),enum _ (by omega)] at hc
   refine⟨trivial,⟨G,by omega,by omega,λd hd=>?_⟩,by omega⟩
   by_cases e:d=G
   ·subst e;exact hc.symm
   ·exact h2 d (by omega)) fuel (L.x.length:Int) ⟨_,rfl,Kap _,hg⟩ (by unfold fuel;simp;omega)
 obtain⟨k1,⟨F,eF,zJ,CN⟩,k3⟩:=key
 refine⟨?_,F,k,g,⟨k0,CN,hmin,λF' hp=>?_⟩,zJ,⟨t,ht⟩,kn,by rw [et];exact EG,?_⟩
 ·unfold vE
  simp only [bG]
  rw [ek,EF,GA]
  exact⟨dl,.inr (by simp;omega),⟨by omega,by omega⟩,by rw [Ka3];omega,k1⟩
 ·rcases Kbe F' F with z|z
  ·exfalso
   apply k3
   rw [eF]
   unfold Ex
   obtain⟨G,rfl⟩:∃G:Nat,F=G+1:=⟨F-1,by omega⟩
   rw [show ((G+1:Nat):Int)-1=(G:Int) by omega,Ja,show (G:Int)+(k:Int)=((G+k:Nat):Int) by omega,Ja,enum _ (by omega),enum _ (by omega)]
   exact⟨by omega,(hp G (by omega)).symm⟩
  ·exact z
 ·unfold eU
  simp only [lt]
  rw [ek,EF,GA,eF,GA,show (F:Int)+(k:Int)=((F+k:Nat):Int) by omega,Cm,Kcj]
  unfold o5
  congr 1
  ·refine Pg (by simp;omega) λi hi=>?_
   have hi:i<F:=by rw [Ka3,Mn] at hi;omega
   rw [OT _ hi,enum _ (by omega),II hi]
  ·refine Pg (by simp;omega) λi hi=>?_
   have hi:i<k:=by rw [Ka3] at hi;omega
   rw [OT _ hi,II (f:=λi=>lat L (F+i)) hi,<-enum _ (by omega)]
   simp only [Kcx,List.getElem?_drop]
/-- a ladder whose lists ue be walked -/
structure Sm (B:Nat)(L:ck):Prop where
 y:L.y≠[]
 n:L.x.length+L.y.length<=B
theorem Sm.mono {B B':Nat}{L:ck}(h:Sm B L)(hb:B<=B'):Sm B' L:=⟨h.y,Kaw h.n hb⟩
theorem D4 {L:ck}(h:Sm 98000 L):vE L:=(Gr L h.y (by have:=h.n;omega)).1
theorem nN {L L':ck}(h:Sm 98000 L)(h':Sm 98000 L')(e:lat L=lat L'):eU L=eU L':=by
 obtain⟨_,F,k,g,c,_,_,_,_,r⟩:=Gr L h.y (by have:=h.n;omega)
 obtain⟨_,F',k',g',c',_,_,_,_,r'⟩:=Gr L' h'.y (by have:=h'.n;omega)
 rw [<-e] at c'
 obtain⟨rfl,rfl,rfl⟩:=c.uniq c'
 rw [r,r',e]
theorem vj {L:ck}(h:Sm 98000 L):lat (eU L)=lat L:=by
 obtain⟨_,F,k,g,c,_,_,_,_,r⟩:=Gr L h.y (by have:=h.n;omega)
 rw [r];exact C2 c.pos c.per
theorem V_ {B:Nat}{L:ck}(h:Sm B L)(hB:B<=98000):Sm B (eU L):=by
 obtain⟨_,F,k,g,c,hF,_,hk,_,r⟩:=Gr L h.y (by have:=h.n;omega)
 rw [r]
 have k0:=c.pos
 refine⟨λz=>?_,by simp [o5];have:=h.n;omega⟩
 have:(o5 (lat L) F k g).y.length=k:=by simp [o5]
 rw [z] at this
 simp at this
 omega
theorem OL {L:ck}(h:Sm 98000 L):(eU L).x.length<=L.x.length/\(eU L).y.length<=L.y.length/\(eU L).y.length∣L.y.length/\L.z=((L.y.length / (eU L).y.length:Nat):Int)*(eU L).z:=by
 obtain⟨_,F,k,g,c,hF,hd,hk,hz,r⟩:=Gr L h.y (by have:=h.n;omega)
 rw [r]
 simp only [o5,Kaf,Kcg]
 exact⟨hF,hk,hd,hz⟩
theorem DF {lo hi:Int}(h:hi<=lo):rng lo hi=[]:=by
 unfold rng
 rw [show (hi-lo).toNat=0 by omega];rfl
theorem TM (y:List Int)(z:Int):∀n:Nat,(Kb8 (λ(x1:Int)=>Kai (λ(x2:Int)=>x2+z*x1) y) (rng 0 (n:Int))).length=n*y.length
 |0=>by rw [DF (by omega)];simp
 |n+1=>by
  have e:rng 0 ((n+1:Nat):Int)=rng 0 (n:Int)++[(n:Int)]:=by
   rw [yV,yV,Kb3,KaH];rfl
  rw [e,KcH,Kan,TM y z n]
  simp [KbA]
theorem fj (y:List Int)(z:Int)(hy:y≠[]):∀(n i:Nat),i<n*y.length->(Kb8 (λ(x1:Int)=>Kai (λ(x2:Int)=>x2+z*x1) y) (rng 0 (n:Int))).getD i 0=y.getD (i % y.length) 0+z*((i / y.length:Nat):Int)
 |0,i,h=>by omega
 |n+1,i,h=>by
  have n0:0<y.length:=KaD.mpr hy
  have e:rng 0 ((n+1:Nat):Int)=rng 0 (n:Int)++[(n:Int)]:=by
   rw [yV,yV,Kb3,KaH];rfl
  rw [e,KcH,K9,TM]
  split
  ·rename_i h1;exact fj y z hy n i h1
  ·rename_i h1
   rw [KbA] at h
   have e1:i / y.length=n:=by
    rw [Nat.div_eq_iff n0]
    omega
   have e2:i % y.length=i-n*y.length:=by
    have:=Kb1 i y.length
    rw [e1,Kbf] at this
    omega
   rw [e1,e2]
   have hi:i-n*y.length<y.length:=by omega
   simp only [Kcc,List.flatMap_nil,KaC]
   rw [La.getD_eq (by simpa using hi),KbP,La.getD_eq hi]
theorem pZ (L:ck)(h:L.y≠[])(n:Nat)(hn:L.x.length+n+L.y.length<=98000):xM L (n:Int)/\J8 L (n:Int)=(KaG n).map (lat L):=by
 have n0:0<L.y.length:=KaD.mpr h
 have el:(max (0:Int) ((n:Int)-(L.x.length:Int))) / (L.y.length:Int)+1=(((n-L.x.length) / L.y.length+1:Nat):Int):=by
  rw [show max (0:Int) ((n:Int)-(L.x.length:Int))=((n-L.x.length:Nat):Int) by omega,GK];rfl
 have ZM:((n-L.x.length) / L.y.length)*L.y.length<=n-L.x.length:=KcG _ _
 have XS:(n-L.x.length) / L.y.length<=n-L.x.length:=Kcy _ _
 have XT:n-L.x.length<((n-L.x.length) / L.y.length+1)*L.y.length:=by
  have:=Kb1 (n-L.x.length) L.y.length
  have h2:=KbH (n-L.x.length) n0
  rw [KbA,Kbf]
  omega
 have hlen:=TM L.y L.z ((n-L.x.length) / L.y.length+1)
 have hsz:((n-L.x.length) / L.y.length+1)*L.y.length<=n-L.x.length+L.y.length:=by rw [KbA];omega
 constructor
 ·unfold xM
  simp only [bG]
  rw [el,hlen]
  generalize (n-L.x.length) / L.y.length=q at *
  refine⟨⟨by omega,by omega⟩,⟨by omega,by omega⟩,λx hx y _=>.inr ?_,by omega,by omega⟩
  have:=Gx.mp hx
  omega
 ·unfold J8
  simp only [lt]
  rw [el,GA]
  refine Pg ?_ λi hi=>?_
  ·rw [Ka3,Kan,hlen]
   simp only [Kaf,Kcg]
   omega
  ·have hi:i<n:=by rw [Ka3] at hi;omega
   rw [OT _ hi,II hi,K9]
   split
   ·rename_i z;rw [Ez z]
   ·rename_i z
    rw [fj _ _ h _ _ (by omega)]
    have:=Je L (i-L.x.length)
    rw [show L.x.length+(i-L.x.length)=i by omega] at this
    rw [this]
theorem ze (xs:List Int):∀k:Int,aT k xs=(KaG xs.length).map λ(i:Nat)=>(k+(i:Int),xs.getD i 0):=by
 induction xs with
 |nil=>intro k;rfl
 |cons x xs ih=>
  intro k
  unfold aT
  rw [ih,Kad,Kbi,Kag,KaE]
  congr 1
  ·simp
  ·refine Kau λi _=>?_
   simp
   omega
/-- bJ places where a list holds 1 -/
def ones (xs:List Int):List Int:=((KaG xs.length).filter λi=>decide (xs.getD i 0=1)).map λ(i:Nat)=>(i:Int)
theorem uU (xs:List Int):Kai (λ(x1:Int×Int)=>x1.1) (KaM (λ(x1:Int×Int)=>decide (x1.2=(1:Int))) (aT 0 xs))=ones xs:=by
 rw [ze,Kcz,KaE]
 unfold ones
 refine Kau λi _=>?_
 simp
theorem Vd (xs:List Int)(d:Int):d∈ones xs↔0<=d/\d<xs.length/\xs.getD d.toNat 0=1:=by
 unfold ones
 rw [Kav]
 constructor
 ·rintro⟨i,hi,rfl⟩
  obtain⟨h1,h2⟩:=KaU.mp hi
  have:=KbK.mp h1
  exact⟨by omega,by omega,by simpa using h2⟩
 ·rintro⟨h0,h1,h2⟩
  exact⟨d.toNat,KaU.mpr ⟨KbK.mpr (by omega),by simpa using h2⟩,by omega⟩
theorem yt (xs:List Int):(ones xs).Pairwise (·<·):=by
 unfold ones
 refine KcW.mpr ?_
 refine ((Kcs (n:=xs.length)).sublist Kby).imp ?_
 intro a b h;omega
abbrev DS:=aV
def aA (S:DS)(d:Nat):Bool:=if (d:Int)<S.y then decide ((d:Int)∈S.x) else decide (((d:Int)-S.y) % S.z∈S.u)
/-- Im,from 0 to below hi -/
structure xx (ns:List Int)(hi:Int):Prop where
 pw:ns.Pairwise (·<·)
 rg:∀x∈ns,0<=x/\x<hi
structure rQ (S:DS):Prop where
 y0:0<=S.y
 z1:1<=S.z
 x:xx S.x S.y
 u:xx S.u S.z
/-- bJ row of a set,or of bits,as a ladder -/
def rl (r:List Int×List Int):ck:=T3.mk r.1 r.2 0
theorem i8 (xs:List Int)(k:Int):(aN (KbM (Kai (λ(x1:Int)=>(x1,true)) xs)) k).isSome=true↔k∈xs:=by
 have key:∀f:List (Int×Bool),(aN f k).isSome=true↔∃v,(k,v)∈f:=by
  intro f
  induction f with
  |nil=>simp [aN]
  |cons p f ih=>
   obtain⟨a,v⟩:=p
   unfold aN
   by_cases h:a=k
   ·rw [if_pos h]
    simp [h]
   ·rw [if_neg h,ih]
    constructor
    ·rintro⟨w,hw⟩;exact⟨w,Kab _ hw⟩
    ·rintro⟨w,hw⟩
     rcases Kal.mp hw with z|z
     ·cases z;exact absurd rfl h
     ·exact⟨w,z⟩
 rw [key]
 simp
def Ct (xs:List Int)(n:Int):List Int:=(rng 0 n).map λd=>b2i (decide (d∈xs))
theorem Ow (S:DS):iF S=(Ct S.x S.y,Ct S.u S.z):=by
 unfold iF Ct
 simp only [lt]
 congr 1
 ·refine Kau λd _=>?_
  congr 1
  exact decide_eq_decide.mpr (i8 _ _)
 ·refine Kau λd _=>?_
  congr 1
  exact decide_eq_decide.mpr (i8 _ _)
theorem UY (xs:List Int)(n:Int):(Ct xs n).length=n.toNat:=by unfold Ct;rw [Kaf,xO];simp
theorem t9 (xs:List Int)(n:Int)(i:Nat)(h:(i:Int)<n):(Ct xs n).getD i 0=b2i (decide ((i:Int)∈xs)):=by
 have hl:i<(Ct xs n).length:=by rw [UY];omega
 rw [La.getD_eq hl]
 unfold Ct rng
 simp
theorem uX (S:DS):(rl (iF S)).x.length=S.y.toNat:=by rw [Ow];exact UY _ _
theorem ri (S:DS):(rl (iF S)).y.length=S.z.toNat:=by rw [Ow];exact UY _ _
theorem Ww {S:DS}(h:rQ S):(rl (iF S)).y≠[]:=λz=>by
 have:=ri S
 rw [z] at this
 have:=h.z1
 simp at *
 omega
theorem DK {S:DS}(h:rQ S)(d:Nat):lat (rl (iF S)) d=b2i (aA S d):=by
 have y0:=h.y0
 have z1:=h.z1
 have hx:=uX S
 have hy:=ri S
 unfold aA
 by_cases hd:(d:Int)<S.y
 ·rw [if_pos hd,Ez (by rw [hx];omega)]
  rw [Ow]
  exact t9 _ _ _ hd
 ·rw [if_neg hd]
  have:=Je (rl (iF S)) (d-S.y.toNat)
  rw [hx,hy,show S.y.toNat+(d-S.y.toNat)=d by omega] at this
  rw [this]
  have hz:0<S.z.toNat:=by omega
  have hm:=KbH (d-S.y.toNat) hz
  show (rl (iF S)).y.getD _ 0+0*_=_
  rw [Ow]
  show (Ct S.u S.z).getD _ 0+0*_=_
  rw [t9 _ _ _ (by omega)]
  have e:(((d-S.y.toNat) % S.z.toNat:Nat):Int)=((d:Int)-S.y) % S.z:=by
   rw [Kbn,Kbh (by omega),Int.natCast_sub (by omega),Kbh y0]
  rw [e];simp
theorem GC {ns:List Int}{hi:Int}(h:xx ns hi)(h0:0<=hi):(ns.length:Int)<=hi:=by
 have key:∀(l:List Int) (lo:Int),l.Pairwise (·<·)->(∀x∈l,lo<=x/\x<hi)->lo<=hi->(l.length:Int)<=hi-lo:=by
  intro l
  induction l with
  |nil=>intro lo _ _ h;simp;omega
  |cons a l ih=>
   intro lo hp hr _
   have h1:=KaS.mp hp
   have ha:=hr a Kaa
   have:=ih (a+1) h1.2 (λx hx=>⟨by have:=h1.1 x hx;omega,(hr x (Kab _ hx)).2⟩) (by omega)
   simp only [Kad]
   omega
 have:=key ns 0 h.pw h.rg h0
 omega
theorem DJ {S:DS}(h:rQ S)(hs:S.y+S.z<=98000):uc S:=by
 have y0:=h.y0
 have z1:=h.z1
 have l1:=GC h.x y0
 have l2:=GC h.u (by omega)
 unfold uc
 simp only [bG]
 rw [xO,xO]
 exact⟨by omega,by omega,⟨by omega,by omega⟩,by omega,⟨by omega,by omega⟩,by omega⟩
/-- set_from -/
theorem Jo (r:List Int×List Int):Bx r=T4.mk (ones (eU (rl r)).x) ((eU (rl r)).x.length:Int) ((eU (rl r)).y.length:Int) (ones (eU (rl r)).y):=by
 unfold Bx IV
 simp only [lt]
 rw [uU,uU];rfl
theorem sO {r r':List Int×List Int}(h:Sm 98000 (rl r))(h':Sm 98000 (rl r'))(e:lat (rl r)=lat (rl r')):Bx r=Bx r':=by
 rw [Jo,Jo,nN h h' e]
theorem VB {α:Type}:∀(xs:List α) (k:Int),(aT k xs).length=xs.length
 |[],_=>rfl
 |x::xs,k=>by show (aT (k+1) xs).length+1=_;rw [VB xs];rfl
theorem zx {r:List Int×List Int}(h:Sm 98000 (rl r)):xQ r:=by
 unfold xQ yO IV
 simp only [bG]
 have p:=OL h
 have n:=h.n
 refine⟨D4 h,?_,?_⟩
 ·rw [VB];have:=p.1;simp only [rl] at *;omega
 ·rw [VB];have:=p.2.1;simp only [rl] at *;omega
theorem tU (xs:List Int):xx (ones xs) (xs.length:Int):=⟨yt xs,λx hx=>by have:=(Vd xs x).mp hx;omega⟩
theorem CB {r:List Int×List Int}(h:Sm 98000 (rl r)):rQ (Bx r):=by
 rw [Jo]
 have:=(V_ h (Kap _)).y
 have:=KaD.mpr this
 exact⟨by show (0:Int)<=((eU (rl r)).x.length:Int);omega,by show (1:Int)<=((eU (rl r)).y.length:Int);omega,tU _,tU _⟩
theorem zy {r:List Int×List Int}(h:Sm 98000 (rl r))(d:Nat):aA (Bx r) d=decide (lat (rl r) d=1):=by
 have hw:=vj h
 have hz:(eU (rl r)).z=0:=by
  obtain⟨_,_,hd,e⟩:=OL h
  have n0:0<(eU (rl r)).y.length:=KaD.mpr (V_ h (Kap _)).y
  have m0:0<(rl r).y.length:=KaD.mpr h.y
  have e0:(0:Int)=(((rl r).y.length / (eU (rl r)).y.length:Nat):Int)*(eU (rl r)).z:=e
  have t0:0<(rl r).y.length / (eU (rl r)).y.length:=Kcl (KaF m0 hd) n0
  rcases Int.mul_eq_zero.mp e0.symm with q|q
  ·omega
  ·exact q
 rw [Jo,<-hw]
 unfold aA
 generalize eU (rl r)=W at hz
 show (if (d:Int)<(W.x.length:Int) then decide ((d:Int)∈ones W.x) else decide (((d:Int)-(W.x.length:Int)) % (W.y.length:Int)∈ones W.y))=_
 by_cases hd:d<W.x.length
 ·rw [if_pos (by omega),Ez hd]
  refine decide_eq_decide.mpr ?_
  rw [Vd]
  simp only [Kaz]
  exact⟨λq=>q.2.2,λq=>⟨by omega,by omega,q⟩⟩
 ·rw [if_neg (by omega)]
  have:=Je W (d-W.x.length)
  rw [show W.x.length+(d-W.x.length)=d by omega,hz] at this
  rw [this]
  have e:((d:Int)-(W.x.length:Int)) % (W.y.length:Int)=(((d-W.x.length) % W.y.length:Nat):Int):=by
   rw [Kbn,Int.natCast_sub (by omega)]
  rw [e]
  refine decide_eq_decide.mpr ?_
  rw [Vd]
  simp only [Kaz,Int.zero_mul,Int.add_zero]
  refine⟨λq=>q.2.2,λq=>⟨by omega,?_,q⟩⟩
  have n0:0<W.y.length:=by
   rcases Kbt W.y.length with z|z
   ·have:W.y=[]:=List.length_eq_zero_iff.mp z
    rw [this] at q
    simp at q
   ·exact z
  have:=KbH (d-W.x.length) n0
  omega
theorem zC (a b:Nat)(h:b<900000):yi (a:Int) (b:Int)/\IM (a:Int) (b:Int)=((Kbc a b:Nat):Int):=by
 have key:=Gg (c:=FD) (f:=Io) (dc:=QT) (d:=Nj)
  (λst=>∃x y:Nat,st=((x:Int),(y:Int))/\Kbc x y=Kbc a b) (λst=>st.2.toNat) (λst hst=>by
   obtain⟨x,y,rfl,e⟩:=hst
   refine⟨trivial,λhc=>?_⟩
   have hy:(0:Int)<(y:Int):=hc
   refine⟨hy,⟨y,x % y,?_,?_⟩,?_⟩
   ·show ((y:Int),(x:Int) % (y:Int))=_
    rw [<-Kbn]
   ·rw [<-e,KcA y (x % y),<-Kc6,KcA]
   ·show ((x:Int) % (y:Int)).toNat<(y:Int).toNat
    rw [<-Kbn]
    simp only [Kaz]
    exact KbH _ (by omega)) fuel ((a:Int),(b:Int)) ⟨a,b,rfl,rfl⟩ (by unfold fuel;simp;omega)
 obtain⟨k1,⟨x,y,e,eg⟩,k3⟩:=key
 refine⟨k1,?_⟩
 have hy:y=0:=by
  rw [e] at k3
  have k4:¬(0:Int)<(y:Int):=k3
  omega
 show (jS FD Io fuel ((a:Int),(b:Int))).1=_
 rw [e,<-eg,hy];simp
theorem z5 (a b:Nat)(ha:0<a)(hb:0<b)(h:a<900000)(h':b<900000):vJ (a:Int) (b:Int)/\JW (a:Int) (b:Int)=((KcX a b:Nat):Int):=by
 obtain⟨g1,g2⟩:=zC a b h'
 have g0:0<Kbc a b:=KbD _ ha
 have gl:Kbc a b<=a:=Nat.gcd_le_left _ ha
 constructor
 ·unfold vJ
  rw [g2]
  exact⟨.inl (by simp;omega),g1,by omega,by omega⟩
 ·unfold JW
  rw [g2,<-Kbv,GK];rfl
structure bZ (F M:Nat)(f:Nat->Bool)(S:DS):Prop where
 ok:rQ S
 y:S.y<=F
 z:S.z.toNat∣M
 m0:0<M
 has:∀d,aA S d=f d
theorem bZ.zM {F M:Nat}{f:Nat->Bool}{S:DS}(h:bZ F M f S):S.z<=M:=by
 have:=KaF h.m0 h.z
 omega
theorem bZ.mono {F F' M M':Nat}{f:Nat->Bool}{S:DS}(h:bZ F M f S)(hF:F<=F')(hM:M∣M')(h0:0<M'):bZ F' M' f S:=⟨h.ok,by have:=h.y;omega,KaY h.z hM,h0,h.has⟩
/-- it comes again -/
theorem bZ.per {F M:Nat}{f:Nat->Bool}{S:DS}(h:bZ F M f S){k:Nat}(hk:S.z.toNat∣k){d:Nat}(hd:S.y<=(d:Int)):f (d+k)=f d:=by
 rw [<-h.has,<-h.has]
 have y0:=h.ok.y0
 unfold aA
 rw [if_neg (by omega),if_neg (by omega)]
 obtain⟨t,rfl⟩:=hk
 have e:((d+S.z.toNat*t:Nat):Int)-S.y=((d:Int)-S.y)+S.z*(t:Int):=by
  have:=h.ok.z1
  rw [Int.natCast_add,Kbv,Kbh (by omega)]
  omega
 rw [e,Int.add_mul_emod_self_left]
theorem bZ.row {F M:Nat}{f:Nat->Bool}{S:DS}(h:bZ F M f S):lat (rl (iF S))=λd=>b2i (f d):=by
 funext d
 rw [DK h.ok,h.has]
/-- bJ least way of what comes again -/
structure cE (F M:Nat)(f:Nat->Bool)(S:DS):Prop where
 ex:∃r:List Int×List Int,r.1.length<=F/\r.2≠[]/\r.2.length∣M/\(∀d,lat (rl r) d=b2i (f d))/\S=Bx r
 m0:0<M
theorem BZ (b:Bool):decide (b2i b=1)=b:=by cases b <;> simp [b2i]
theorem cE.rep {F M:Nat}{f:Nat->Bool}{S:DS}(h:cE F M f S)(hb:F+M<=98000):bZ F M f S:=by
 obtain⟨⟨r,h1,h2,h3,h4,rfl⟩,m0⟩:=h
 have hM:=KaF m0 h3
 have sm:Sm 98000 (rl r):=⟨h2,by show r.1.length+r.2.length<=98000;omega⟩
 obtain⟨p1,p2,p3,_⟩:=OL sm
 refine⟨CB sm,?_,?_,m0,λd=>?_⟩
 ·rw [Jo]
  show ((eU (rl r)).x.length:Int)<=F
  have:(rl r).x.length=r.1.length:=rfl
  omega
 ·rw [Jo]
  show ((eU (rl r)).y.length:Int).toNat∣M
  rw [Kaz]
  exact KaY p3 h3
 ·rw [zy sm,h4,BZ]
theorem cE.uniq {F M F' M':Nat}{f:Nat->Bool}{S S':DS}(h:cE F M f S)(h':cE F' M' f S')(hb:F+M<=98000)(hb':F'+M'<=98000):S=S':=by
 obtain⟨⟨r,h1,h2,h3,h4,rfl⟩,m0⟩:=h
 obtain⟨⟨r',PZ,P0,Zz,ZF,rfl⟩,m0'⟩:=h'
 have hM:=KaF m0 h3
 have hM':=KaF m0' Zz
 exact sO ⟨h2,by show r.1.length+r.2.length<=98000;omega⟩ ⟨P0,by show r'.1.length+r'.2.length<=98000;omega⟩ (by funext d;rw [h4,ZF])
theorem cE.congr {F M:Nat}{f g:Nat->Bool}{S:DS}(h:cE F M f S)(e:∀d,f d=g d):cE F M g S:=by
 have:f=g:=funext e
 subst this;exact h
theorem g6 {S:DS}(h:rQ S)(hs:S.y+S.z<=98000):t7 S:=by
 have y0:=h.y0
 have z1:=h.z1
 have l1:=GC h.x y0
 have l2:=GC h.u (by omega)
 have Mv:∀{ns:List Int},ns.Pairwise (·<·)->Er ns=true:=by
  intro ns
  unfold Er
  rw [show (some (1:Int))=some ((1:Nat):Int) from rfl,KH,Kbz]
  intro hp
  rw [Kbs]
  intro q hq
  have key:∀(ns:List Int),ns.Pairwise (·<·)->∀q∈ns.zip (ns.drop 1),q.1<q.2:=by
   intro ns
   induction ns with
   |nil=>intro _ q hq;simp at hq
   |cons a r ih=>
    intro hp q hq
    cases r with
    |nil=>simp at hq
    |cons b r=>
     have h1:=KaS.mp hp
     simp only [List.drop_succ_cons,List.drop_zero,KcP,Kal] at hq
     rcases hq with rfl|hq
     ·exact h1.1 b Kaa
     ·exact ih h1.2 q (by simpa using hq)
  simpa using key ns hp q hq
 have KU:∀{ns:List Int} {hi:Int},xx ns hi->0<=hi->Er (([(-(1:Int))]++ns)++[hi])=true:=by
  intro ns hi ha h0
  apply Mv
  show KcS _ (-1::(ns++[hi]))
  refine KaS.mpr ⟨λx hx=>?_,KcC.mpr ⟨ha.pw,by simp,λx hx y hy=>?_⟩⟩
  ·rcases Kao.mp hx with z|z
   ·have:=(ha.rg x z).1;omega
   ·have:x=hi:=by simpa using z
    omega
  ·have:y=hi:=by simpa using hy
   have:=(ha.rg x hx).2
   omega
 have r1:=KU h.x h.y0
 have r2:=KU h.u (by omega)
 have dr:∀{ns:List Int},ns.length<=100000->vz ns:=λhl=>by
  unfold vz
  rw [Kb0];omega
 have hc:¬(S.y<0∨S.z<1):=by omega
 unfold t7 yL Jh
 rw [if_neg hc]
 refine⟨λ_=>⟨by simp;omega,by simp;omega,dr (by simp;omega),λ_=>⟨by simp;omega,by simp;omega,dr (by simp;omega)⟩⟩,λhn=>hn ?_⟩
 simp only [decide_eq_true_eq]
 exact⟨r1,r2⟩
theorem Ai {F M:Nat}{f:Nat->Bool}{S:DS}(h:bZ F M f S)(hb:F+M<=98000):t7 S:=g6 h.ok (by have:=h.y;have:=h.zM;omega)
theorem rF {F M:Nat}{f:Nat->Bool}{S:DS}(h:bZ F M f S)(hb:F+M<=98000):uc S:=DJ h.ok (by have:=h.y;have:=h.zM;omega)
/-- bJ first bits of a set -/
theorem Va {F M:Nat}{f:Nat->Bool}{S:DS}(h:bZ F M f S){n:Nat}(hb:F+M+n<=98000):yp (iF S) (n:Int)/\FP (iF S) (n:Int)=(KaG n).map λd=>b2i (f d):=by
 have hz:=h.zM
 have hy:=h.y
 have:=pZ (rl (iF S)) (Ww h.ok) n (by rw [uX,ri];omega)
 rw [h.row] at this
 exact this
theorem getD_map {xs:List Int}{h:Int->Int}{i:Nat}(hi:i<xs.length):(xs.map h).getD i 0=h (xs.getD i 0):=by
 rw [La.getD_eq (by simpa using hi),KbP,La.getD_eq hi]
section
variable {F M:Nat}{f g:Nat->Bool}{A B:DS}
theorem DH (ha:bZ F M f A)(hb:F+M<=98000):cE F M f (dz A):=by
 refine⟨⟨iF A,?_,Ww ha.ok,?_,λd=>by rw [ha.row],rfl⟩,ha.m0⟩
 ·have:=uX A
  have:(iF A).1.length=A.y.toNat:=this
  have:=ha.y
  omega
 ·have:(iF A).2.length=A.z.toNat:=ri A
  rw [this];exact ha.z
theorem HP (ha:bZ F M f A)(hb:F+M<=98000):Sm 98000 (rl (iF A)):=by
 refine⟨Ww ha.ok,?_⟩
 rw [uX,ri]
 have:=ha.y
 have:=ha.zM
 have:=ha.ok.z1
 omega
theorem Ge (ha:bZ F M f A)(hb:F+M<=98000):vC A/\cE F M f (dz A):=
 ⟨⟨Ai ha hb,rF ha hb,zx (HP ha hb)⟩,DH ha hb⟩
/-- r is bJ first day of P,none if there is none -/
def eY (P:Nat->Prop)(r:Option Int):Prop:=(r=none/\∀d,¬P d)∨∃d:Nat,r=some (d:Int)/\P d/\∀e,e<d->¬P e
theorem eY.uniq {P:Nat->Prop}{r r':Option Int}(h:eY P r)(h':eY P r'):r=r':=by
 rcases h with⟨rfl,h⟩|⟨d,rfl,h1,h2⟩
 ·rcases h' with⟨rfl,h'⟩|⟨d',rfl,PZ,P0⟩
  ·rfl
  ·exact absurd PZ (h d')
 ·rcases h' with⟨rfl,h'⟩|⟨d',rfl,PZ,P0⟩
  ·exact absurd h1 (h' d)
  ·have:d=d':=by
    rcases Nat.lt_trichotomy d d' with z|z|z
    ·exact absurd h1 (P0 d z)
    ·exact z
    ·exact absurd PZ (h2 d' z)
   rw [this]
theorem eY.congr {P Q:Nat->Prop}{r:Option Int}(h:eY P r)(e:∀d,P d↔Q d):eY Q r:=by
 rcases h with⟨rfl,h⟩|⟨d,rfl,h1,h2⟩
 ·exact .inl ⟨rfl,λd q=>h d ((e d).mpr q)⟩
 ·exact .inr ⟨d,rfl,(e d).mp h1,λx hx q=>h2 x hx ((e x).mpr q)⟩
end
def Up (f:Nat->Int):Prop:=0<=f 0/\∀d,f d<=f (d+1)
theorem Up.mono {f:Nat->Int}(h:Up f){d e:Nat}(hd:d<=e):f d<=f e:=by
 induction hd with
 |refl=>exact Kbw _
 |step _ ih=>exact Kcu ih (h.2 _)
theorem Up.nn {f:Nat->Int}(h:Up f)(d:Nat):0<=f d:=Kcu h.1 (h.mono (Ka2 d))
structure cR (F M:Nat)(R:Int)(f:Nat->Int)(L:ck):Prop where
 x:L.x.length<=F
 y:L.y≠[]
 m:L.y.length∣M
 m0:0<M
 z0:0<=L.z
 zR:L.z*((M / L.y.length:Nat):Int)<=R
 lt:lat L=f
 up:Up f
section
variable {F M:Nat}{R:Int}{f:Nat->Int}{L:ck}
theorem cR.n0 (h:cR F M R f L):0<L.y.length:=KaD.mpr h.y
theorem cR.yM (h:cR F M R f L):L.y.length<=M:=KaF h.m0 h.m
theorem cR.per (h:cR F M R f L):bO f L.x.length L.y.length L.z:=h.lt ▸ O9 L h.y
theorem cR.Xl (h:cR F M R f L):bO f L.x.length M (((M / L.y.length:Nat):Int)*L.z):=by
 have:=h.per.mul (M / L.y.length)
 rwa [KcT h.m] at this
theorem cR.mono {F' M':Nat}{R':Int}(h:cR F M R f L)(hF:F<=F')(hM:M∣M')(h0:0<M')(hR:R*((M' / M:Nat):Int)<=R'):cR F' M' R' f L:=by
 refine⟨Kaw h.x hF,h.y,KaY h.m hM,h0,h.z0,?_,h.lt,h.up⟩
 obtain⟨t,rfl⟩:=hM
 have m0:=h.m0
 have e1:M*t / M=t:=KaJ _ m0
 have e2:M*t / L.y.length=M / L.y.length*t:=by
  obtain⟨q,hq⟩:=h.m
  have n0:=h.n0
  rw [hq,Kcm,KaJ _ n0,KaJ _ n0]
 rw [e1] at hR
 rw [e2,Kbv,<-Kcn]
 exact Kcu (KbN h.zR (by omega)) hR
theorem cR.line (h:cR F M R f L):(([(0:Int)]++L.x)++L.y)++[au L.y (0:Int)+L.z]=0::(KaG (L.x.length+L.y.length+1)).map f:=by
 have n0:=h.n0
 refine Pg (by simp;omega) λi hi=>?_
 have hi:i<L.x.length+L.y.length+2:=by simp at hi;omega
 cases i with
 |zero=>simp
 |succ i=>
  have e:((0:Int)::(KaG (L.x.length+L.y.length+1)).map f).getD (i+1) 0=f i:=by
   rw [<-II (f:=f) (n:=L.x.length+L.y.length+1) (by omega)];rfl
  rw [e,<-h.lt]
  show ((L.x++L.y)++[au L.y (0:Int)+L.z]).getD i 0=_
  rw [K9,K9,Kan]
  by_cases h1:i<L.x.length
  ·rw [if_pos (by omega),if_pos h1,Ez h1]
  ·by_cases h2:i<L.x.length+L.y.length
   ·rw [if_pos h2,if_neg h1]
    have:=exs (L:=L) (i:=i-L.x.length) (by omega)
    rw [show L.x.length+(i-L.x.length)=i by omega] at this
    rw [this]
   ·rw [if_neg h2]
    have ei:i=L.x.length+0+L.y.length:=by omega
    rw [ei,O9 L h.y (L.x.length+0) (by omega),exs (L:=L) (i:=0) n0]
    rw [show (0:Int)=((0:Nat):Int) from rfl,Ja]
    simp
/-- bJ least way of a ladder dF tells f -/
structure Cq (F M:Nat)(R:Int)(f:Nat->Int)(L:ck):Prop where
 ex:∃L0,cR F M R f L0/\L=eU L0
theorem Cq.rep (h:Cq F M R f L)(hb:F+M<=98000):cR F M R f L:=by
 obtain⟨⟨L0,h0,rfl⟩⟩:=h
 have sm:Sm 98000 L0:=⟨h0.y,by have:=h0.x;have:=h0.yM;omega⟩
 obtain⟨p1,p2,p3,p4⟩:=OL sm
 have Yk:=V_ sm (Kap _)
 have n0:0<(eU L0).y.length:=KaD.mpr Yk.y
 have m0:=h0.n0
 obtain⟨t,ht⟩:=p3
 have t0:0<t:=by
  rcases Kbt t with z|z
  ·rw [z] at ht;omega
  ·exact z
 have et:L0.y.length / (eU L0).y.length=t:=by rw [ht];exact KaJ _ n0
 rw [et] at p4
 have z0:0<=(eU L0).z:=by
  have:=h0.z0
  rw [p4] at this
  rcases Int.lt_or_le (eU L0).z 0 with q|q
  ·have:(t:Int)*(eU L0).z<0:=Int.mul_neg_of_pos_of_neg (by omega) q
   omega
  ·exact q
 refine⟨Kaw p1 h0.x,Yk.y,KaY ⟨t,ht⟩ h0.m,h0.m0,z0,?_,by rw [vj sm,h0.lt],h0.up⟩
 obtain⟨q,hq⟩:=h0.m
 have e1:M / (eU L0).y.length=t*q:=by rw [hq,ht,Kcm,KaJ _ n0]
 have e2:M / L0.y.length=q:=by rw [hq,KaJ _ m0]
 have hR:=h0.zR
 rw [e2,p4] at hR
 rw [e1,Kbv,<-Kcn,Kb9 _ (t:Int)]
 exact hR
theorem Cq.uniq {F' M':Nat}{R':Int}{L':ck}(h:Cq F M R f L)(h':Cq F' M' R' f L')(hb:F+M<=98000)(hb':F'+M'<=98000):L=L':=by
 obtain⟨⟨L0,h0,rfl⟩⟩:=h
 obtain⟨⟨L1,h1,rfl⟩⟩:=h'
 exact nN ⟨h0.y,by have:=h0.x;have:=h0.yM;omega⟩ ⟨h1.y,by have:=h1.x;have:=h1.yM;omega⟩ (h0.lt.trans h1.lt.symm)
theorem Cq.congr {g:Nat->Int}(h:Cq F M R f L)(e:∀d,f d=g d):Cq F M R g L:=by
 have:f=g:=funext e
 subst this;exact h
end
def cnt (f:Nat->Bool):Nat->Int
 |0=>0
 |d+1=>cnt f d+b2i (f d)
/-- unfolding by a proved K4 keeps bJ kernel from unfolding bJ typed Jl -/
theorem lt_eq {α β:Type}(v:α)(f:α->β):lt v f=f v:=(Eq.refl (lt v f)).trans (Eq.refl (f v))
theorem fg {α:Type}(v:α)(f:α->Prop):bG v f=f v:=(Eq.refl (bG v f)).trans (Eq.refl (f v))
section
variable {F M:Nat}{R S:Int}{f g:Nat->Int}{A B:ck}
theorem Up.add (h:Up f)(h':Up g):Up (λd=>f d+g d):=⟨by have:=h.1;have:=h'.1;show 0<=f 0+g 0;omega,λd=>by have:=h.2 d;have:=h'.2 d;show f d+g d<=f (d+1)+g (d+1);omega⟩
end
section
variable {F M G N:Nat}{R S:Int}{f g:Nat->Int}{A B:ck}
/-- many HM on -/
theorem bO.many {F k:Nat}{a:Int}(h:bO f F k a)(t:Nat){d:Nat}(hd:F<=d):f (d+k*t)=f d+a*(t:Int):=by
 have:=h.mul t d hd
 rw [Kbf,this,Kb9]
end
end Pu
namespace Pu
open PySem L2 Enc PyProof.Rows
def tx (d:PyData):List Nat:=d.shown.cps.toList
theorem Ji (n:Nat):tx (.int (n:Int))=TL.numL n:=by
 unfold tx
 rw [PyData.shown_int]
 exact TL.tl_num n
theorem Jk (n:Nat):tx (.int (Int.negSucc n))=45::TL.numL (n+1):=by
 unfold tx
 rw [PyData.shown_int]
 show (Str.ofString (toString (Int.negSucc n))).cps.toList=_
 rw [signs_ofString]
 show (("-" ++ Nat.repr (n+1)).toList).map Char.toNat=_
 rw [String.toList_append,KaH,Nat.toList_repr]
 rfl
def dig (c:Nat):Bool:=decide (c=45∨(48<=c/\c<=57))
theorem V5 {n c:Nat}(h:c∈TL.numL n):48<=c/\c<=57:=by
 rcases Kbe c 48 with z|z
 ·exact absurd h (TL.numL_free (.inl z))
 ·rcases Kbe 57 c with q|q
  ·exact absurd h (TL.numL_free (.inr q))
  ·omega
theorem We (i:Int):∀c∈tx (.int i),dig c=true:=by
 intro c hc
 cases i with
 |ofNat n=>
  have:=V5 (n:=n) (by rw [<-Ji];exact hc)
  exact decide_eq_true (.inr this)
 |negSucc n=>
  rw [Jk] at hc
  rcases Kal.mp hc with rfl|hc
  ·decide
  ·exact decide_eq_true (.inr (V5 hc))
theorem n9 {i j:Int}(h:tx (.int i)=tx (.int j)):i=j:=by
 have no:∀n m:Nat,TL.numL n≠45::TL.numL m:=λn m e=>by
  have:=V5 (n:=n) (c:=45) (by rw [e];exact Kaa)
  omega
 cases i with
 |ofNat n=>
  cases j with
  |ofNat m=>
   have h:tx (.int (n:Int))=tx (.int (m:Int)):=h
   rw [Ji,Ji] at h
   rw [TL.numL_inj h]
  |negSucc m=>
   have h:tx (.int (n:Int))=_:=h
   rw [Ji,Jk] at h
   exact absurd h (no _ _)
 |negSucc n=>
  cases j with
  |ofNat m=>
   have h:_=tx (.int (m:Int)):=h
   rw [Ji,Jk] at h
   exact absurd h.symm (no _ _)
  |negSucc m=>
   rw [Jk,Jk] at h
   have:=TL.numL_inj (List.cons.inj h).2
   have:n=m:=by omega
   rw [this]
/-- what may stand behind an item -/
def Stop (s:List Nat):Prop:=s=[]∨∃c r,s=c::r/\(c=44∨c=93∨c=41)
class Tells (α:Type) [Enc α]:Prop where
 hd:∀a:α,∃c r,tx (enc a)=c::r/\c≠44/\c≠93/\c≠41
 un:∀(a b:α) (s t:List Nat),Stop s->Stop t->tx (enc a)++s=tx (enc b)++t->a=b/\s=t
theorem VE {s:List Nat}(hs:Stop s):∀{xs:List Nat},(∀c∈xs,dig c=true)->(xs++s).takeWhile dig=xs
 |[],_=>by
  rcases hs with rfl|⟨c,r,rfl,h⟩
  ·rfl
  ·show KcD dig (c::r)=[]
   rw [KcI]
   rw [if_neg]
   rcases h with rfl|rfl|rfl <;> decide
 |x::xs,h=>by
  show KcD dig (x::(xs++s))=_
  rw [KcI,if_pos (h x Kaa),VE hs λc hc=>h c (Kab _ hc)]
instance:Tells Int where
 hd:=λa=>by
  have hc:=We a
  cases e:tx (enc a) with
  |nil=>
   exfalso
   cases a with
   |ofNat n=>
    have:tx (.int (n:Int))=[]:=e
    rw [Ji] at this
    exact TL.numL_ne n this
   |negSucc n=>
    have:tx (.int (Int.negSucc n))=[]:=e
    rw [Jk] at this
    cases this
  |cons c r=>
   have:=hc c (by rw [show tx (.int a)=tx (enc a) from rfl,e];exact Kaa)
   unfold dig at this
   have:=of_decide_eq_true this
   exact⟨c,r,rfl,by omega,by omega,by omega⟩
 un:=λa b s t hs ht e=>by
  have e:tx (.int a)++s=tx (.int b)++t:=e
  have e1:=congrArg (KcD dig) e
  rw [VE hs (We a),VE ht (We b)] at e1
  rw [e1] at e
  exact⟨n9 e1,Kco e⟩
def jP:List PyData->List Nat
 |[]=>[]
 |x::r=>44::32::(tx x++jP r)
theorem VH:∀(x:PyData) (r:List PyData),(Str.join ", " (PyData.shownAll (x::r))).cps.toList=tx x++jP r
 |x,[]=>by
  rw [PyData.shownAll_cons,PyData.shownAll_nil,join_one]
  show tx x=tx x++[]
  rw [KaC]
 |x,y::r=>by
  have ih:=VH y r
  rw [PyData.shownAll_cons] at ih ⊢
  rw [PyData.shownAll_cons,join_cons_cons,cps_toList_append,cps_toList_append,ih,signs_sep]
  show tx x++[44,32]++(tx y++jP r)=tx x++(44::32::(tx y++jP r))
  simp
theorem TX:tx (.list [])=[91,93]:=by
 unfold tx
 rw [PyData.shown_list]
 decide
theorem Lf (x:PyData)(r:List PyData):tx (.list (x::r))=91::(tx x++(jP r++[93])):=by
 unfold tx
 rw [PyData.shown_list,cps_toList_append,cps_toList_append,VH,signs_lbrack,signs_rbrack]
 simp [tx]
theorem K6 (x y:PyData)(r:List PyData):tx (.tuple (x::y::r))=40::(tx x++(jP (y::r)++[41])):=by
 unfold tx
 rw [PyData.shown_tuple,cps_toList_append,cps_toList_append,VH,signs_lparen,if_neg (by simp)]
 show [40]++(tx x++jP (y::r))++[41]=_
 simp [tx]
theorem EB (r:List PyData){c:Nat}(hc:c=93∨c=41)(s:List Nat):Stop (jP r++(c::s)):=by
 cases r with
 |nil=>exact .inr ⟨c,s,rfl,by omega⟩
 |cons x r=>exact .inr ⟨44,_,rfl,.inl rfl⟩
theorem Bg {α:Type}[Enc α][Tells α]:∀(xs ys:List α) (s t:List Nat),jP (xs.map enc)++(93::s)=jP (ys.map enc)++(93::t)->xs=ys/\s=t
 |[],[],s,t,h=>⟨rfl,(List.cons.inj h).2⟩
 |[],y::ys,s,t,h=>by have:=(List.cons.inj h).1;omega
 |x::xs,[],s,t,h=>by have:=(List.cons.inj h).1;omega
 |x::xs,y::ys,s,t,h=>by
  have h1:tx (enc x)++(jP (xs.map enc)++(93::s))=tx (enc y)++(jP (ys.map enc)++(93::t)):=by
   have:=(List.cons.inj (List.cons.inj h).2).2
   simpa using this
  obtain⟨rfl,h2⟩:=Tells.un x y _ _ (EB _ (.inl rfl) _) (EB _ (.inl rfl) _) h1
  obtain⟨rfl,rfl⟩:=Bg xs ys s t h2
  exact⟨rfl,rfl⟩
instance {α:Type}[Enc α][Tells α]:Tells (List α) where
 hd:=λa=>by
  cases a with
  |nil=>exact⟨91,[93],TX,by omega,by omega,by omega⟩
  |cons x r=>exact⟨91,_,Lf _ _,by omega,by omega,by omega⟩
 un:=λa b s t hs ht e=>by
  have nn:∀(y:α) (ys:List α) (s t:List Nat),[91,93]++s≠91::(tx (enc y)++(jP (ys.map enc)++[93]))++t:=λy ys s t h=>by
   obtain⟨c,r,e,_,h2,_⟩:=Tells.hd y
   rw [e] at h
   have:=(List.cons.inj (List.cons.inj h).2).1
   omega
  cases a with
  |nil=>
   cases b with
   |nil=>exact⟨rfl,Kco e⟩
   |cons y ys=>
    have e:tx (.list [])++s=tx (.list (enc y::ys.map enc))++t:=e
    rw [TX,Lf] at e
    exact absurd e (nn _ _ _ _)
  |cons x xs=>
   cases b with
   |nil=>
    have e:tx (.list (enc x::xs.map enc))++s=tx (.list [])++t:=e
    rw [TX,Lf] at e
    exact absurd e.symm (nn _ _ _ _)
   |cons y ys=>
    have e:tx (.list (enc x::xs.map enc))++s=tx (.list (enc y::ys.map enc))++t:=e
    rw [Lf,Lf] at e
    have h1:tx (enc x)++(jP (xs.map enc)++(93::s))=tx (enc y)++(jP (ys.map enc)++(93::t)):=by
     have:=(List.cons.inj e).2
     simpa using this
    obtain⟨rfl,h2⟩:=Tells.un x y _ _ (EB _ (.inl rfl) _) (EB _ (.inl rfl) _) h1
    obtain⟨rfl,rfl⟩:=Bg xs ys s t h2
    exact⟨rfl,rfl⟩
/-- one more item of a tuple -/
theorem Jm {α:Type}[Enc α][Tells α]{a b:α}{r r':List PyData}{s t:List Nat}(h:jP (enc a::r)++(41::s)=jP (enc b::r')++(41::t)):a=b/\jP r++(41::s)=jP r'++(41::t):=by
 have h1:tx (enc a)++(jP r++(41::s))=tx (enc b)++(jP r'++(41::t)):=by
  have:=(List.cons.inj (List.cons.inj h).2).2
  simpa using this
 exact Tells.un a b _ _ (EB _ (.inr rfl) _) (EB _ (.inr rfl) _) h1
theorem VT {α:Type}[Enc α][Tells α]{a b:α}{y y':PyData}{r r':List PyData}{s t:List Nat}(h:tx (.tuple (enc a::y::r))++s=tx (.tuple (enc b::y'::r'))++t):a=b/\jP (y::r)++(41::s)=jP (y'::r')++(41::t):=by
 rw [K6,K6] at h
 have h1:tx (enc a)++(jP (y::r)++(41::s))=tx (enc b)++(jP (y'::r')++(41::t)):=by
  have:=(List.cons.inj h).2
  simpa using this
 exact Tells.un a b _ _ (EB _ (.inr rfl) _) (EB _ (.inr rfl) _) h1
instance {α β:Type}[Enc α][Enc β][Tells α][Tells β]:Tells (α×β) where
 hd:=by
  intro p
  obtain⟨a,a1⟩:=p
  exact⟨40,_,K6 (enc a) (enc a1) [],by omega,by omega,by omega⟩
 un:=by
  intro p q s t _ _ e
  obtain⟨a,a1⟩:=p
  obtain⟨b,b1⟩:=q
  have e:tx (.tuple [enc a,enc a1])++s=tx (.tuple [enc b,enc b1])++t:=e
  obtain⟨rfl,h0⟩:=VT e
  obtain⟨rfl,h1⟩:=Jm h0
  exact⟨rfl,(List.cons.inj h1).2⟩
instance {α β γ:Type}[Enc α][Enc β][Enc γ][Tells α][Tells β][Tells γ]:Tells (T3 α β γ) where
 hd:=by
  intro p
  obtain⟨a,a1,a2⟩:=p
  exact⟨40,_,K6 (enc a) (enc a1) [enc a2],by omega,by omega,by omega⟩
 un:=by
  intro p q s t _ _ e
  obtain⟨a,a1,a2⟩:=p
  obtain⟨b,b1,b2⟩:=q
  have e:tx (.tuple [enc a,enc a1,enc a2])++s=tx (.tuple [enc b,enc b1,enc b2])++t:=e
  obtain⟨rfl,h0⟩:=VT e
  obtain⟨rfl,h1⟩:=Jm h0
  obtain⟨rfl,h2⟩:=Jm h1
  exact⟨rfl,(List.cons.inj h2).2⟩
instance {α β γ δ:Type}[Enc α][Enc β][Enc γ][Enc δ][Tells α][Tells β][Tells γ][Tells δ]:Tells (T4 α β γ δ) where
 hd:=by
  intro p
  obtain⟨a,a1,a2,a3⟩:=p
  exact⟨40,_,K6 (enc a) (enc a1) [enc a2,enc a3],by omega,by omega,by omega⟩
 un:=by
  intro p q s t _ _ e
  obtain⟨a,a1,a2,a3⟩:=p
  obtain⟨b,b1,b2,b3⟩:=q
  have e:tx (.tuple [enc a,enc a1,enc a2,enc a3])++s=tx (.tuple [enc b,enc b1,enc b2,enc b3])++t:=e
  obtain⟨rfl,h0⟩:=VT e
  obtain⟨rfl,h1⟩:=Jm h0
  obtain⟨rfl,h2⟩:=Jm h1
  obtain⟨rfl,h3⟩:=Jm h2
  exact⟨rfl,(List.cons.inj h3).2⟩
end Pu
namespace Pu
open PySem L2 Enc La
section
variable {F M:Nat}{f g:Nat->Bool}{S:DS}
theorem Nd.set (h:bZ F M f S)(hb:F+M<=1500):Nd 2 378023 (enc S):=by
 have y0:=h.ok.y0
 have z1:=h.ok.z1
 have hy:=h.y
 have zM:=h.zM
 have xl:=GC h.ok.x y0
 have ul:=GC h.ok.u (by omega)
 have e:(4*(94503+2)+3)=378023:=by omega
 rw [<-e]
 refine Nd.tuple (k:=1) (n:=4) (λd hd=>?_) (Kap _)
 rcases Kal.mp hd with rfl|hd
 ·exact (Nd.ints (n:=1500) (λx hx=>by have:=h.ok.x.rg x hx;omega) (by omega)).mono (Kap _) (by omega)
 rcases Kal.mp hd with rfl|hd
 ·exact (Nd.int (i:=S.y) (by omega) (by omega)).mono (by omega) (by omega)
 rcases Kal.mp hd with rfl|hd
 ·exact (Nd.int (i:=S.z) (by omega) (by omega)).mono (by omega) (by omega)
 rcases Kal.mp hd with rfl|hd
 ·exact (Nd.ints (n:=1500) (λx hx=>by have:=h.ok.u.rg x hx;omega) (by omega)).mono (Kap _) (by omega)
 ·cases hd
end
theorem eY.none {P:Nat->Prop}{r:Option Int}(h:eY P r)(hn:∀d,¬P d):r=none:=by
 rcases h with⟨rfl,_⟩|⟨d,rfl,h1,_⟩
 ·rfl
 ·exact absurd h1 (hn d)
section
variable {F M:Nat}{f:Nat->Bool}{A:DS}
theorem bZ.congr {g:Nat->Bool}(h:bZ F M f A)(e:∀d,f d=g d):bZ F M g A:=by
 have:f=g:=funext e
 subst this;exact h
end
def jZ (h:Nat->Int)(r:Option Int):Prop:=(r=none/\∀b:Int,∃d,h d<b)∨∃d,r=some (h d)/\∀e,h d<=h e
def PU (h:Nat->Int)(r:Option Int):Prop:=(r=none/\∀b:Int,∃d,b<h d)∨∃d,r=some (h d)/\∀e,h e<=h d
theorem jZ.neg {h:Nat->Int}{r:Option Int}(q:PU h r):jZ (λd=>-h d) (r.map λv=>-v):=by
 rcases q with⟨rfl,q⟩|⟨d,rfl,q⟩
 ·exact .inl ⟨rfl,λb=>by obtain⟨d,hd⟩:=q (-b);exact⟨d,by show -h d<b;omega⟩⟩
 ·exact .inr ⟨d,rfl,λe=>by have:=q e;show -h d<=-h e;omega⟩
theorem jZ.uniq {h:Nat->Int}{r r':Option Int}(q:jZ h r)(q':jZ h r'):r=r':=by
 rcases q with⟨rfl,q⟩|⟨d,rfl,q⟩
 ·rcases q' with⟨rfl,_⟩|⟨e,rfl,q'⟩
  ·rfl
  ·obtain⟨x,hx⟩:=q (h e)
   have:=q' x
   omega
 ·rcases q' with⟨rfl,q'⟩|⟨e,rfl,q'⟩
  ·obtain⟨x,hx⟩:=q' (h d)
   have:=q x
   omega
  ·have:=q e
   have:=q' d
   rw [show h d=h e by omega]
theorem PU.uniq {h:Nat->Int}{r r':Option Int}(q:PU h r)(q':PU h r'):r=r':=by
 have:=(jZ.neg q).uniq (jZ.neg q')
 cases r <;> cases r' <;> simp at this ⊢
 omega
theorem cR.own {L:ck}(hn:L.y≠[])(hz:0<=L.z)(hu:Up (lat L)):cR L.x.length L.y.length L.z (lat L) L:=by
 have n0:0<L.y.length:=KaD.mpr hn
 exact⟨Kap _,hn,KbB _,n0,hz,by rw [Nat.div_self n0];omega,rfl,hu⟩
structure Cn (f:Nat->Int)(L:ck):Prop where
 ex:∃F M R,F+M<=98000/\Cq F M R f L
section
variable {F M G N:Nat}{R S:Int}{f g:Nat->Int}{A B L L':ck}
theorem Cn.uniq (h:Cn f L)(h':Cn f L'):L=L':=by
 obtain⟨F,M,R,hb,c⟩:=h.ex
 obtain⟨F',M',R',hb',c'⟩:=h'.ex
 exact c.uniq c' hb hb'
theorem Cn.congr (h:Cn f L)(e:∀d,f d=g d):Cn g L:=by
 have:f=g:=funext e
 subst this;exact h
theorem Cn.canon (h:Cn f L):Canon f L.x.length L.y.length L.z/\Up f/\lat L=f/\L.y≠[]/\0<=L.z:=by
 obtain⟨F,M,R,hb,c⟩:=h.ex
 have r:=c.rep hb
 obtain⟨⟨L0,h0,rfl⟩⟩:=c
 obtain⟨_,F1,k,g,cn,_,_,_,_,e⟩:=Gr L0 h0.y (by have:=h0.x;have:=h0.yM;omega)
 refine⟨?_,r.up,r.lt,r.y,r.z0⟩
 rw [e]
 have e1:(o5 (lat L0) F1 k g).x.length=F1:=by simp [o5]
 have e2:(o5 (lat L0) F1 k g).y.length=k:=by simp [o5]
 rw [e1,e2]
 rw [h0.lt] at cn
 exact cn
theorem Cn.rep (h:Cn f L)(hp:bO f F M R)(m0:0<M):cR F M R f L:=by
 obtain⟨c,up,lt,y,z0⟩:=h.canon
 have hd:=c.dvd m0 hp
 refine⟨c.QN _ (hp.down m0 c.per),y,hd,m0,z0,?_,lt,up⟩
 have h1:=c.per.mul (M / L.y.length)
 rw [KcT hd] at h1
 have h2:=hp.gain h1
 rw [h2,Kb9];exact Kbw _
theorem cR.gain (h:cR F M R f L)(hp:bO f F M S):S=((M / L.y.length:Nat):Int)*L.z:=hp.gain h.Xl
theorem grow (hp:bO f F M R)(up:Up f)(hR:0<R)(n:Nat):(n:Int)<=f (F+M*n):=by
 rw [bO.many hp n (Kap _)]
 have h0:=up.nn F
 have h1:1*(n:Int)<=R*(n:Int):=KbN (by omega) (by omega)
 omega
end
/-- h tells bJ first day of which f tells at least a number -/
structure vp (f h:Nat->Int):Prop where
 n0:∀n,0<=h n
 iff:∀n d:Nat,(n:Int)<=f d↔h n<=(d:Int)
section
variable {F M:Nat}{R:Int}{f g h h':Nat->Int}{A:ck}
theorem vp.uniq (a:vp f h)(b:vp f h'):h=h':=by
 funext n
 have h1:=(a.iff n (h' n).toNat).mp ((b.iff n (h' n).toNat).mpr (by have:=b.n0 n;omega))
 have h2:=(b.iff n (h n).toNat).mp ((a.iff n (h n).toNat).mpr (by have:=a.n0 n;omega))
 have:=a.n0 n
 have:=b.n0 n
 omega
theorem vp.up (a:vp f h):Up h:=⟨a.n0 0,λn=>by
 have h1:=(a.iff (n+1) (h (n+1)).toNat).mpr (by have:=a.n0 (n+1);omega)
 have h2:=(a.iff n (h (n+1)).toNat).mp (by omega)
 have:=a.n0 (n+1)
 omega⟩
theorem vp.per (a:vp f h)(up:Up f)(hp:bO f F M R)(r0:0<=R):bO h ((f F).toNat+1) R.toNat (M:Int):=λn hn=>by
 have hn':f F<(n:Int):=by have:=up.nn F;omega
 have key:∀d:Nat,h (n+R.toNat)<=(d:Int)↔h n+(M:Int)<=(d:Int):=λd=>by
  rw [<-a.iff]
  rcases Kbe d (F+M) with z|z
  ·have h1:=up.mono (show d<=F+M by omega)
   rw [hp F (Kap _)] at h1
   constructor
   ·intro q;omega
   ·intro q
    have h2:(n:Int)<=f F:=(a.iff n F).mpr (by omega)
    omega
  ·have h1:=hp (d-M) (by omega)
   rw [show d-M+M=d by omega] at h1
   have h2:=a.iff n (d-M)
   constructor
   ·intro q
    have:=h2.mp (by omega)
    omega
   ·intro q
    have:=h2.mpr (by omega)
    omega
 have k1:=(key (h (n+R.toNat)).toNat).mp (by have:=a.n0 (n+R.toNat);omega)
 have k2:=(key (h n+(M:Int)).toNat).mpr (by have:=a.n0 n;omega)
 have:=a.n0 n
 have:=a.n0 (n+R.toNat)
 omega
theorem Up.succ (hu:Up h):Up (λn=>h (n+1)):=⟨hu.nn _,λd=>hu.2 _⟩
theorem bO.succ {F M:Nat}(hp:bO h (F+1) M R):bO (λn=>h (n+1)) F M R:=λd hd=>by
 have:=hp (d+1) (by omega)
 rwa [show d+1+M=d+M+1 by omega] at this
end
def red (a b:Nat):Int×Int:=(((a / Kbc a b:Nat):Int),((b / Kbc a b:Nat):Int))
structure Sk (n:Nat)(s:ae):Prop where
 a0:0<=s.1
 b0:0<=s.2.1
 b1:s.2.1<10 ^ 40
 c0:0<=s.2.2
 c1:s.2.2<=n
theorem Sk.mono {n m:Nat}{s:ae}(h:Sk n s)(hm:n<=m):Sk m s:=⟨h.a0,h.b0,h.b1,h.c0,by have:=h.c1;omega⟩
theorem qT {x:Int}{j:Int}(h0:0<=x)(h1:x<10 ^ 80)(j0:0<=j)(j1:j<=1000):eL x j=true:=by
 unfold eL
 rw [decide_eq_true j0,decide_eq_true j1]
 have h2:x.natAbs<2 ^ 1000:=by
  have h3:x.natAbs<10 ^ 80:=by omega
  exact Nat.lt_trans h3 (by decide +kernel)
 rw [decide_eq_true h2]
 rfl
theorem v5 {α β:Type}(v:α×ae)(f:α->ae->β):bY v f=f v.1 v.2:=(Eq.refl (bY v f)).trans (Eq.refl (f v.1 v.2))
theorem xS {α:Type}(v:α×ae)(f:α->ae->Prop):b_ v f=f v.1 v.2:=(Eq.refl (b_ v f)).trans (Eq.refl (f v.1 v.2))
theorem Vn {t:Int->ae->Bool×ae}{d:Int->ae->Prop}{N:Nat}(ht:∀x s n,Sk n s->n<N->d x s/\Sk (n+1) (t x s).2):∀(xs:List Int) (s:ae) (n:Nat),Sk n s->n+xs.length<=N ->
  EK t (λx s=>(x,s)) d (λ_ _=>True) xs s/\((bU t (λx s=>(x,s)) xs s).1).Sublist xs/\Sk (n+xs.length) (bU t (λx s=>(x,s)) xs s).2
 |[],s,n,h,_=>⟨trivial,Ka0.refl _,h⟩
 |x::xs,s,n,h,hn=>by
  have hn:n+(xs.length+1)<=N:=hn
  obtain⟨h1,h2⟩:=ht x s n h (by omega)
  obtain⟨i1,i2,i3⟩:=Vn ht xs (t x s).2 (n+1) h2 (by omega)
  have e:n+(x::xs).length=n+1+xs.length:=by simp;omega
  rw [e]
  unfold bU EK
  by_cases c:(t x s).1=true
  ·rw [if_pos c,if_pos c]
   exact⟨⟨h1,trivial,i1⟩,i2.cons_cons x,i3⟩
  ·rw [if_neg c,if_neg c]
   exact⟨⟨h1,i1⟩,i2.cons x,i3⟩
theorem Pb (n:Int):xx (rng 0 n) n:=by
 refine⟨?_,λx hx=>by have:=Gx.mp hx;omega⟩
 unfold rng
 refine KcW.mpr (Kcs.imp ?_)
 intro a b hab
 omega
theorem xx.sub {xs ys:List Int}{n:Int}(h:xx ys n)(hs:xs.Sublist ys):xx xs n:=⟨h.pw.sublist hs,λx hx=>h.rg x (hs.subset hx)⟩
theorem VZ {xs:List Int}{i:Int}(h0:0<=i)(h1:i<xs.length):au xs i∈xs:=by
 rw [CC h0,Kb5,Kax (by omega)]
 exact Kc3 _
structure XD (L:ck):Prop where
 n0:L.y≠[]
 z0:0<=L.z
 up:Up (lat L)
 xb:∀v∈L.x,v<=100
 yb:∀v∈L.y,v<=100
theorem XD.rep {L:ck}(h:XD L):cR L.x.length L.y.length L.z (lat L) L:=cR.own h.n0 h.z0 h.up
theorem m5 {α:Type}[Inhabited α](a:α)(r:List α):au (a::r) (0:Int)=a:=by
 unfold au L2.atI L2.ixN
 rw [if_pos (by omega),if_pos (by simp)]
 rfl
theorem eY.up {P:Nat->Prop}{r:Option Int}(h:eY P r)(k:Nat):eY (λd=>k<=d/\P (d-k)) (r.map λv=>v+(k:Int)):=by
 rcases h with⟨rfl,h⟩|⟨d,rfl,h1,h2⟩
 ·exact .inl ⟨rfl,λd q=>h _ q.2⟩
 ·refine .inr ⟨d+k,rfl,⟨by omega,by rw [show d+k-k=d by omega];exact h1⟩,λe he q=>h2 (e-k) (by omega) q.2⟩
theorem Nd.two {k c:Nat}{a b:PyData}(ha:Nd k c a)(hb:Nd k c b):Nd (k+1) (2*(c+2)+3) (.list [a,b]):=by
 refine Nd.list (n:=2) (λd hd=>?_) (Kap _)
 rcases Kal.mp hd with rfl|hd
 ·exact ha
 rcases Kal.mp hd with rfl|hd
 ·exact hb
 ·cases hd
theorem vp.back {f h u2:Nat->Int}(a:vp f h)(b:vp (λn=>h (n+1)) u2)(up:Up f)(m:Nat):u2 (m+1)=f m:=by
 have key:∀n:Nat,u2 (m+1)<=(n:Int)↔f m<=(n:Int):=λn=>by
  rw [<-b.iff]
  have:=a.iff (n+1) m
  show ((m+1:Nat):Int)<=h (n+1)↔_
  omega
 have h1:=(key (u2 (m+1)).toNat).mp (by have:=b.n0 (m+1);omega)
 have h3:=(key (f m).toNat).mpr (by have:=up.nn m;omega)
 have:=b.n0 (m+1)
 have:=up.nn m
 omega
mutual
/-- how many lists -/
def nl:PyData->Nat
 |.list xs=>Aq xs+1
 |.tuple xs=>Aq xs
 |_=>0
def Aq:List PyData->Nat
 |[]=>0
 |x::xs=>nl x+Aq xs
end
/-- a ladder -/
structure LO (L:ck):Prop where
 n0:L.y≠[]
 z0:0<=L.z
 up:Up (lat L)
theorem LO.rep {L:ck}(h:LO L):cR L.x.length L.y.length L.z (lat L) L:=cR.own h.n0 h.z0 h.up
theorem vp.left {f f' h:Nat->Int}(a:vp f h)(b:vp f' h)(u:Up f)(u':Up f'):f=f':=by
 funext d
 have h1:=u.nn d
 have h2:=u'.nn d
 have e1:=(b.iff (f d).toNat d).mpr ((a.iff (f d).toNat d).mp (by omega))
 have e2:=(a.iff (f' d).toNat d).mpr ((b.iff (f' d).toNat d).mp (by omega))
 omega
/-- all numbers greater by as ZW -/
theorem zX (L:ck)(h:L.y≠[])(c:Int)(d:Nat):lat (T3.mk (L.x.map λv=>v+c) (L.y.map λv=>v+c) L.z) d=lat L d+c:=by
 have n0:=KaD.mpr h
 have lx:(L.x.map λv=>v+c).length=L.x.length:=by simp
 have ly:(L.y.map λv=>v+c).length=L.y.length:=by simp
 rcases Kbe d L.x.length with q|q
 ·rw [Ez q,Ez (L:=T3.mk (L.x.map λv=>v+c) (L.y.map λv=>v+c) L.z) (by show d<(L.x.map λv=>v+c).length;omega)]
  exact getD_map q
 ·have e1:=Je L (d-L.x.length)
  have e2:=Je (T3.mk (L.x.map λv=>v+c) (L.y.map λv=>v+c) L.z) (d-L.x.length)
  have e2:lat (T3.mk (L.x.map λv=>v+c) (L.y.map λv=>v+c) L.z) ((L.x.map λv=>v+c).length+(d-L.x.length))=(L.y.map λv=>v+c).getD ((d-L.x.length) % (L.y.map λv=>v+c).length) 0+L.z*(((d-L.x.length) / (L.y.map λv=>v+c).length:Nat):Int):=e2
  rw [lx,ly,getD_map (KbH _ n0)] at e2
  rw [show L.x.length+(d-L.x.length)=d by omega] at e1 e2
  rw [e1,e2];omega
theorem LO.more {L:ck}(h:LO L){c:Int}(c0:0<=c):LO (T3.mk (L.x.map λv=>v+c) (L.y.map λv=>v+c) L.z):=by
 refine⟨by simpa using h.n0,h.z0,?_⟩
 have e:lat (T3.mk (L.x.map λv=>v+c) (L.y.map λv=>v+c) L.z)=λd=>lat L d+c:=funext (zX L h.n0 c)
 rw [e]
 exact⟨by have:=h.up.1;show 0<=lat L 0+c;omega,λd=>by have:=h.up.2 d;show lat L d+c<=lat L (d+1)+c;omega⟩
theorem bl {α:Type}{v:α}{f:α->Prop}{g:α->Bool×ae}(h:f v/\(g v).1=true):bG v f/\(lt v g).1=true:=h
abbrev bL:=List (Int×Bool)
/-- notes in order: no day below 0,no day noted in two ways -/
structure Fl (ns:bL):Prop where
 d0:∀n∈ns,0<=n.1
 fn:∃v:Int->Bool,∀n∈ns,n.2=v n.1
 l:ns.length<=1000
theorem ki {v:Int->Bool}:∀(ns:bL) (st:bL),(∀n∈ns,0<=n.1/\n.2=v n.1)->(∀d b,aN st d=some b->b=v d)->st.length+ns.length<=1000->bW Ef M8 ns st
 |[],_,_,_,_=>trivial
 |x::ns,st,h,hs,hl=>by
  obtain⟨x0,xv⟩:=h x Kaa
  rw [Kad] at hl
  have e:KaO (aN st x.1) x.2=x.2:=by
   cases hd:aN st x.1 with
   |none=>rfl
   |some b=>
    show b=x.2
    rw [hs _ _ hd,xv]
  have hc:¬((x.1<(0:Int))∨((KaO (aN st x.1) x.2)≠x.2)):=by
   rintro (q|q)
   ·omega
   ·exact q e
  refine⟨⟨λq=>hc q,λ_=>by omega⟩,?_⟩
  have et:Ef st x=(x.1,x.2)::st:=by
   unfold Ef
   rw [if_neg hc];rfl
  rw [et]
  refine ki ns _ (λn hn=>h n (Kab _ hn)) (λd b hd=>?_) (by rw [Kad];omega)
  have hd:(if x.1=d then some x.2 else aN st d)=some b:=hd
  by_cases q:x.1=d
  ·rw [if_pos q] at hd
   cases hd
   rw [<-q];exact xv
  ·rw [if_neg q] at hd
   exact hs _ _ hd
theorem ju {ns:bL}(h:Fl ns):yF ns:=by
 obtain⟨v,hv⟩:=h.fn
 exact ki (v:=v) ns [] (λn hn=>⟨h.d0 n hn,hv n hn⟩) (λd b hd=>by cases hd) (by have:=h.l;simp;omega)
theorem eE:∀(sets:List DS) (st:Unit),(∀S∈sets,rQ S/\S.y+S.z<=98000)->bW Iu M9 sets st
 |[],_,_=>trivial
 |S::sets,st,h=>⟨g6 (h S Kaa).1 (h S Kaa).2,eE sets _ λT hT=>h T (Kab _ hT)⟩
theorem fh {sets:List DS}(h:∀S∈sets,rQ S/\S.y+S.z<=98000):xG sets:=eE sets () h
theorem qj {S:DS}(h:rQ S)(d:Int):yJ S d:=λ_=>by have:=h.z1;omega
theorem B3 (S:DS){d:Int}(h:0<=d):iy S d=aA S d.toNat:=by
 have e:((d.toNat:Nat):Int)=d:=by omega
 unfold iy aA
 rw [e]
theorem zp {S:DS}{ns:bL}(h:rQ S)(hn:ns.length<=100000):yY S ns:=⟨λx _=>qj h x.1,hn⟩
theorem Jf (S:DS)(ns:bL):pV S ns=true↔∀n∈ns,iy S n.1=n.2:=by
 unfold pV
 rw [Kbz,Kbs]
 constructor
 ·intro h n hn
  exact of_decide_eq_true (h n hn)
 ·intro h n hn
  exact decide_eq_true (h n hn)
theorem K7 {α:Type}[Inhabited α]{xs:List α}{i:Int}(h0:0<=i)(h1:i<xs.length):au xs i∈xs:=by
 obtain⟨k,rfl⟩:=KaR h0
 have hk:k<xs.length:=by omega
 rw [IZ,Kax hk]
 exact Kc3 hk
theorem KJ {α β:Type}[Inhabited α][Inhabited β](g:α->β){xs:List α}{i:Int}(h0:0<=i)(h1:i<xs.length):au (xs.map g) i=g (au xs i):=by
 obtain⟨k,rfl⟩:=KaR h0
 have hk:k<xs.length:=by omega
 rw [IZ,IZ,Kax hk,Kax (by rw [Kaf];exact hk),KbP];rfl
theorem UT {α:Type}[Inhabited α]:∀(xs ys:List α) (p:Int×α),p∈aT (ys.length:Int) xs->au (ys++xs) p.1=p.2
 |[],_,p,h=>by cases h
 |x::xs,ys,p,h=>by
  rcases Kal.mp (show p∈((ys.length:Int),x)::aT ((ys.length:Int)+1) xs from h) with z|z
  ·rw [z]
   show au (ys++x::xs) (ys.length:Int)=x
   rw [IZ,Kb6 (Kap _),Nat.sub_self];rfl
  ·have:=UT xs (ys++[x]) p (by rw [Kan];exact z)
   rw [KaV] at this
   exact this
theorem By {α:Type}:∀(xs:List α) (k:Int) (p:Int×α),p∈aT k xs->k<=p.1/\p.1<k+(xs.length:Int)/\p.2∈xs
 |[],_,p,h=>by cases h
 |x::xs,k,p,h=>by
  rcases Kal.mp (show p∈(k,x)::aT (k+1) xs from h) with z|z
  ·rw [z,Kad]
   exact⟨Kbw _,by show k<_;omega,Kaa⟩
  ·obtain⟨a,b,c⟩:=By xs (k+1) p z
   rw [Kad]
   exact⟨by omega,by omega,Kab _ c⟩
theorem NW {α:Type}(q:α->Bool):∀(xs:List α) (k:Int),((aT k xs).filter λp=>q p.2).map (λp=>p.2)=xs.filter q
 |[],_=>rfl
 |x::xs,k=>by
  show (((k,x)::aT (k+1) xs).filter λp=>q p.2).map (λp=>p.2)=_
  by_cases c:q x=true
  ·rw [KaW (by exact c),KaW c,Kag,NW q xs (k+1)]
  ·rw [KaZ (by exact c),KaZ c,NW q xs (k+1)]
theorem IT {α:Type}:∀(xs:List α) (k:Int),(aT k xs).length=xs.length
 |[],_=>rfl
 |x::xs,k=>by
  show (aT (k+1) xs).length+1=xs.length+1
  rw [IT xs (k+1)]
def bS (sets:List DS)(ns:bL):List DS:=sets.filter λS=>pV S ns
section
variable {sets:List DS}{ns:bL}{F M:Nat}
theorem eqk (hs:∀S∈sets,rQ S/\S.y+S.z<=98000)(hl:sets.length<=1000)(hn:Fl ns):t_ sets ns:=by
 have h:=hn.l
 refine⟨fh hs,ju hn,λx hx=>zp (hs _ (By sets 0 x hx).2.2).1 (by omega),by rw [IT];omega⟩
theorem p_ (hs:∀S∈sets,rQ S/\S.y+S.z<=98000)(hl:sets.length<=1000)(hn:Fl ns)(hd:∀S∈sets,vC S):yj sets ns/\Ep sets ns=(bS sets ns).map dz:=by
 have key:∀x∈dU sets ns,0<=x/\x<(sets.length:Int):=λx hx=>by
  obtain⟨p,hp,rfl⟩:=Kav.mp hx
  have:=By sets 0 p (KaU.mp hp).1
  omega
 refine⟨⟨eqk hs hl hn,λx hx=>?_,?_⟩,?_⟩
 ·obtain⟨a,b⟩:=key x hx
  exact⟨⟨by omega,b⟩,hd _ (K7 a b)⟩
 ·unfold dU
  rw [Kaf]
  refine Kaw (KaX _ _) ?_
  rw [IT];omega
 ·unfold Ep dU bS
  rw [KaE,<-NW (λS=>pV S ns) sets 0,KaE]
  have e:(λ(x1:Int×DS)=>decide ((pV x1.2 ns)=true))=λ(x1:Int×DS)=>pV x1.2 ns:=by
   funext p
   cases pV p.2 ns <;> rfl
  rw [e]
  refine Kau λp hp=>?_
  show dz (au sets p.1)=dz p.2
  have:=UT sets [] p (KaU.mp hp).1
  rw [show ([]:List DS)++sets=sets from rfl] at this
  rw [this]
/-- sets whose days Q4 round MN -/
structure y9 (F M:Nat)(sets:List DS):Prop where
 r:∀S∈sets,bZ F M (aA S) S
 b:2*F+2*M<=98000
 l:sets.length<=1000
theorem y9.big (h:y9 F M sets):∀S∈sets,rQ S/\S.y+S.z<=98000:=λS hS=>by
 have r:=h.r S hS
 have:=r.y
 have:=r.zM
 have:=h.b
 exact⟨r.ok,by omega⟩
theorem VN:∀S∈bS sets ns,S∈sets:=λ_ hS=>(KaU.mp hS).1
end
theorem ua {n:Nat}{s:ae}(h:Sk n s)(hn:n<1000000000){m:Int}(m0:0<m)(m1:m<10 ^ 50):fH s m/\0<=(bw s m).1/\(bw s m).1<m/\Sk (n+1) (bw s m).2:=by
 have a0:=h.a0
 have b0:=h.b0
 have b1:=h.b1
 have c0:=h.c0
 have c1:=h.c1
 have Yd:(10:Int) ^ (Kbr (40:Int))=10 ^ 40:=rfl
 have Z3:(10:Int) ^ (Kbr (37:Int))=10 ^ 37:=rfl
 constructor
 ·unfold fH
  refine⟨λ_=>⟨m0,?_⟩,λ_=>?_⟩
  ·rw [fg]
   exact⟨m0,by omega⟩
  ·rw [fg]
   dsimp only
   have q1:eL (s.2.1+(1500450271:Int)*(s.2.2+1)) 3=true:=qT (by omega) (by omega) (by omega) (by omega)
   refine⟨q1,by rw [Yd];omega,?_⟩
   rw [fg,Yd]
   generalize (s.2.1+(1500450271:Int)*(s.2.2+1)) ^ (Kbr (3:Int))=v
   have e0:=Kb4 v (show ((10:Int) ^ 40+121)≠0 by omega)
   have e1:=KbE v (show (0:Int)<(10:Int) ^ 40+121 by omega)
   refine⟨qT (by omega) (by omega) (by omega) (by omega),by rw [Z3];omega,?_⟩
   rw [fg]
   exact m0
 ·unfold bw
  by_cases hc:(0:Int)<s.1
  ·rw [if_pos hc]
   simp only [lt_eq]
   exact⟨Kb4 _ (by omega),KbE _ m0,⟨Int.ediv_nonneg (by omega) (by omega),b0,b1,c0,by show s.2.2<=_;omega⟩⟩
  ·rw [if_neg hc]
   simp only [lt_eq]
   exact⟨Kb4 _ (by omega),KbE _ m0,⟨a0,b0,b1,by show 0<=s.2.2+1;omega,by show s.2.2+1<=_;omega⟩⟩
def GD:List (List Int):=[[(2:Int),(3:Int),(4:Int),(6:Int)],[(1:Int),(4:Int),(6:Int),(12:Int)],[(4:Int),(6:Int),(9:Int),(2:Int)],[(5:Int),(10:Int),(4:Int),(2:Int)],[(7:Int),(2:Int),(6:Int),(3:Int)],[(8:Int),(12:Int),(6:Int),(1:Int)],[(5:Int),(4:Int),(6:Int),(3:Int)]]
theorem wQ:∀l∈GD,l.length=4/\∀z∈l,1<=z/\z<=12/\z.toNat∣5040:=by decide +kernel
theorem oA {n:Nat}{s:ae}(h:Sk n s)(hn:n<1000000):xF s false/\(yz s false).1∈GD/\Sk (n+1) (yz s false).2:=by
 unfold xF yz
 rw [fg,lt_eq,show ([[(2:Int),(3:Int),(4:Int),(6:Int)],[(1:Int),(4:Int),(6:Int),(12:Int)],[(4:Int),(6:Int),(9:Int),(2:Int)],[(5:Int),(10:Int),(4:Int),(2:Int)],[(7:Int),(2:Int),(6:Int),(3:Int)],[(8:Int),(12:Int),(6:Int),(1:Int)],[(5:Int),(4:Int),(6:Int),(3:Int)]]:List (List Int))=GD from rfl]
 have e:(if (false:Bool)=true then (bY (bw s (8:Int)) λa1 s1=>(decide (a1=(0:Int)),s1)) else (false,s))=(false,s):=if_neg (by decide)
 rw [e,xS (false,s),v5 (false,s)]
 dsimp only
 have nf:¬((false:Bool)=true):=by decide
 rw [if_neg nf]
 obtain⟨p1,p2,p3,p4⟩:=ua h (by omega) (m:=7) (by omega) (by omega)
 rw [xS (bw s 7),v5 (bw s 7)]
 generalize bw s (7:Int)=r1 at *
 have ml:GD.length=7:=rfl
 refine⟨⟨λq=>absurd q nf,λq=>absurd q nf,λ_=>⟨p1,by omega,by omega⟩⟩,K7 p2 (by omega),p4⟩
structure DI (k:Nat)(S:DS):Prop where
 ok:rQ S
 y:S.y<=40+4*(k:Int)
 z:S.z<=24
 dv:S.z.toNat∣5040
theorem DI.mono {k m:Nat}{S:DS}(h:DI k S)(hm:k<=m):DI m S:=⟨h.ok,by have:=h.y;omega,h.z,h.dv⟩
theorem zK (t:Int)(t0:0<t)(t1:t<1000)(x:Int)(s:ae)(n:Nat)(h:Sk n s)(hn:n<999999999):fH s t/\Sk (n+1) ((decide ((bw s t).1=(0:Int)),(bw s t).2):Bool×ae).2:=by
 obtain⟨a1,_,_,a4⟩:=ua h (by omega) (m:=t) t0 (by omega)
 exact⟨a1,a4⟩
theorem A5 {n:Nat}{s:ae}{l:List Int}(hl:l∈GD)(h:Sk n s)(hn:n<1000000):vO s l/\DI 0 (vP s l).1/\Sk (n+100) (vP s l).2:=by
 obtain⟨hl4,ZN⟩:=wQ l hl
 unfold vO vP
 simp only [fg,lt_eq,xS,v5]
 obtain⟨a1,a2,a3,a4⟩:=ua h (by omega) (m:=4) (by omega) (by omega)
 generalize bw s (4:Int)=r1 at *
 obtain⟨b1,b2,b3,b4⟩:=ua a4 (by omega) (m:=9) (by omega) (by omega)
 generalize bw r1.2 (9:Int)=r2 at *
 obtain⟨c1,c2,c3,c4⟩:=ua b4 (by omega) (m:=3) (by omega) (by omega)
 generalize bw r2.2 (3:Int)=r3 at *
 have hg:0<=au [(0:Int),r1.1,r2.1] r3.1/\au [(0:Int),r1.1,r2.1] r3.1<=8:=by
  have:=VZ (xs:=[(0:Int),r1.1,r2.1]) c2 (by simpa using c3)
  simp only [Kal,Kbm,or_false] at this
  omega
 generalize au [(0:Int),r1.1,r2.1] r3.1=v1 at *
 obtain⟨e1,e2,e3,e4⟩:=ua c4 (by omega) (m:=(l.length:Int)) (by omega) (by omega)
 generalize bw r3.2 (l.length:Int)=r4 at *
 obtain⟨z1,z2,z3⟩:=ZN _ (VZ (xs:=l) e2 (by omega))
 generalize au l r4.1=L at *
 obtain⟨f1,f2,f3,f4⟩:=ua e4 (by omega) (m:=12) (by omega) (by omega)
 have c12:¬((12:Int)<L):=by omega
 rw [if_neg c12]
 generalize bw r4.2 (12:Int)=r5 at *
 dsimp only
 obtain⟨g1,g2,g3,g4⟩:=ua f4 (by omega) (m:=41) (by omega) (by omega)
 have hp:∃p:Int×ae,(if decide (r5.1=(0:Int))=true then ((bw r5.2 (41:Int)).1,(bw r5.2 (41:Int)).2) else (v1,r5.2))=p/\0<=p.1/\p.1<=40/\Sk (n+6) p.2:=by
  by_cases c:decide (r5.1=(0:Int))=true
  ·rw [if_pos c];exact⟨_,rfl,g2,by show (bw r5.2 41).1<=40;omega,g4.mono (by omega)⟩
  ·rw [if_neg c];exact⟨_,rfl,hg.1,by show v1<=40;omega,f4.mono (by omega)⟩
 obtain⟨p,ep,p1,p2,p3⟩:=hp
 rw [ep]
 have la:=xO 0 p.1
 have lb:=xO 0 L
 obtain⟨i1,i2,i3⟩:=Vn (N:=999999999) (zK 2 (by omega) (by omega)) (rng 0 p.1) p.2 _ p3 (by omega)
 generalize bU (λ(x:Int) s=>(decide ((bw s (2:Int)).1=(0:Int)),(bw s (2:Int)).2)) (λx s=>(x,s)) (rng 0 p.1) p.2=k1 at *
 obtain⟨j1,j2,j3,j4⟩:=ua i3 (by omega) (m:=4) (by omega) (by omega)
 generalize bw k1.2 (4:Int)=r7 at *
 have hf:0<au [(2:Int),(3:Int),(4:Int),L+1] r7.1/\au [(2:Int),(3:Int),(4:Int),L+1] r7.1<1000:=by
  have:=VZ (xs:=[(2:Int),(3:Int),(4:Int),L+1]) j2 (by simpa using j3)
  simp only [Kal,Kbm,or_false] at this
  omega
 generalize au [(2:Int),(3:Int),(4:Int),L+1] r7.1=few at *
 obtain⟨m1,m2,m3⟩:=Vn (N:=999999999) (zK few hf.1 hf.2) (rng 0 L) r7.2 _ j4 (by omega)
 generalize bU (λ(x:Int) s=>(decide ((bw s few).1=(0:Int)),(bw s few).2)) (λx s=>(x,s)) (rng 0 L) r7.2=k2 at *
 have z1':=i2.length_le
 have z2':=m2.length_le
 refine⟨⟨a1,b1,c1,⟨by simp;omega,by simpa using c3⟩,e1,⟨by omega,by omega⟩,λ_=>f1,λ_=>g1,⟨by omega,by omega⟩,i1,by omega,j1,⟨by simp;omega,by simpa using j3⟩,⟨by omega,by omega⟩,m1,by omega⟩,⟨⟨p1,z1,(Pb _).sub i2,(Pb _).sub m2⟩,?_,?_,z3⟩,m3.mono (by omega)⟩
 ·show p.1<=_;omega
 ·show L<=24;omega
theorem DZ:∀z:Nat,z<13->z∣5040->2*z∣5040:=by decide +kernel
theorem KA {S:DS}(h:rQ S)(d:Int):tQ S d:=λ_=>by have:=h.z1;omega
theorem lj {k:Nat}{S:DS}(h:DI k S)(hk:k<=100){m:Int}(m0:0<=m)(m1:m<=4)(hz:S.z<13):vG S m/\DI (k+1) (FA S m):=by
 have y0:=h.ok.y0
 have z1:=h.ok.z1
 have hy:=h.y
 have la:=xO 0 (S.y+m)
 have lb:=xO 0 (2*S.z)
 constructor
 ·unfold vG
  simp only [fg]
  exact⟨⟨by omega,by omega⟩,λx _=>KA h.ok x,by omega,⟨by omega,by omega⟩,λx _=>KA h.ok _,by omega⟩
 ·refine⟨⟨by show 0<=S.y+m;omega,by show 1<=2*S.z;omega,(Pb (S.y+m)).sub Kby,(Pb (2*S.z)).sub Kby⟩,by show S.y+m<=_;omega,by show 2*S.z<=24;omega,?_⟩
  show (2*S.z).toNat∣5040
  rw [show (2*S.z).toNat=2*S.z.toNat by omega]
  exact DZ _ (by omega) h.dv
theorem BY {xs:List Int}{hi d:Int}(h:xx xs hi)(d0:0<=d)(d1:d<hi)(hd:d∉xs):xx (sortI (xs++[d])) hi:=by
 have pm:=Et (xs++[d])
 have so:=B5 (xs++[d])
 have nd:(sortI (xs++[d])).Nodup:=pm.nodup_iff.mpr (by
  rw [Kaj]
  refine⟨h.pw.imp (λq=>by omega),by simp,λa ha b hb=>?_⟩
  rw [Kak.mp hb]
  intro e
  exact hd (e ▸ ha))
 refine⟨?_,λx hx=>?_⟩
 ·have:=List.pairwise_and_iff.mpr ⟨so,nd⟩
  exact this.imp λq=>by
   have q1:=q.1
   have q2:=q.2
   omega
 ·rcases Kao.mp (pm.mem_iff.mp hx) with z|z
  ·exact h.rg x z
  ·rw [Kak.mp z];exact⟨d0,d1⟩
theorem AB {k:Nat}{S:DS}(h:DI k S){d:Int}(d0:0<=d)(d1:d<S.y):DI k (T4.mk (if d∉S.x then (sortI (S.x++[d])) else (KaM (λ(x2:Int)=>decide (x2≠d)) S.x)) (T3.mk S.y S.z S.u).x (T3.mk S.y S.z S.u).y (T3.mk S.y S.z S.u).z):=by
 refine⟨⟨h.ok.y0,h.ok.z1,?_,h.ok.u⟩,h.y,h.z,h.dv⟩
 show xx (if d∉S.x then (sortI (S.x++[d])) else (KaM (λ(x2:Int)=>decide (x2≠d)) S.x)) S.y
 split
 ·rename_i q
  exact BY h.ok.x d0 d1 q
 ·exact h.ok.x.sub Kby
theorem xq {n:Nat}{s:ae}{l:List Int}(hl:l∈GD){st:List DS}{k:Nat}(hk:k<=100)(hs:∀S∈st,DI k S)(h:Sk n s)(hn:n<1000000)(hlen:st.length<=1000)(x:Int):J9 l (st,s) x/\(∃T,(tT l (st,s) x).1=st++[T]/\DI (k+1) T)/\Sk (n+110) (tT l (st,s) x).2:=by
 unfold J9 tT
 rw [xS (st,s),v5 (st,s)]
 dsimp only
 obtain⟨a1,a2,a3⟩:=A5 hl h hn
 rw [xS (vP s l),v5 (vP s l)]
 generalize vP s l=r1 at *
 obtain⟨b1,b2,b3,b4⟩:=ua a3 (by omega) (m:=6) (by omega) (by omega)
 rw [xS (bw r1.2 6),v5 (bw r1.2 6)]
 generalize bw r1.2 (6:Int)=r2 at *
 rw [fg r1.1,fg r2.1,lt_eq r1.1,lt_eq r2.1]
 by_cases c:r2.1<2/\st≠[]
 ·rw [if_pos c]
  have sp:=KaD.mpr c.2
  obtain⟨c1,c2,c3,c4⟩:=ua b4 (by omega) (m:=(st.length:Int)) (by omega) (by omega)
  rw [xS (bw r2.2 (st.length:Int)),v5 (bw r2.2 (st.length:Int))]
  generalize bw r2.2 (st.length:Int)=r3 at *
  have hT:=hs _ (K7 c2 c3)
  rw [fg (au st r3.1),lt_eq (au st r3.1)]
  generalize au st r3.1=T at *
  have y0:=hT.ok.y0
  have hy:=hT.y
  obtain⟨e1,e2,e3,e4⟩:=ua c4 (by omega) (m:=T.y+1) (by omega) (by omega)
  rw [xS (bw r3.2 (T.y+1)),v5 (bw r3.2 (T.y+1))]
  generalize bw r3.2 (T.y+1)=r4 at *
  rw [fg r4.1,lt_eq r4.1]
  obtain⟨f1,f2,f3,f4⟩:=ua e4 (by omega) (m:=5) (by omega) (by omega)
  by_cases w:r2.1=0
  ·rw [if_pos w]
   by_cases q:T.z<13
   ·rw [if_pos q]
    rw [v5 (bw r4.2 5)]
    obtain⟨g1,g2⟩:=lj hT hk f2 (by omega) q
    refine⟨⟨a1,b1,λ_=>⟨c1,⟨by omega,by omega⟩,e1,λ_ _=>⟨f1,?_⟩,λz=>absurd w z⟩,?_⟩,⟨_,rfl,g2⟩,f4.mono (by omega)⟩
    ·rw [xS];exact g1
    ·show st.length<100000;omega
   ·rw [if_neg q]
    refine⟨⟨a1,b1,λ_=>⟨c1,⟨by omega,by omega⟩,e1,λ_ z=>absurd z q,λz=>absurd w z⟩,?_⟩,⟨_,rfl,hT.mono (by omega)⟩,e4.mono (by omega)⟩
    show st.length<100000;omega
  ·rw [if_neg w]
   have hx:T.x.length<=2000:=by
    have:=GC hT.ok.x hT.ok.y0
    omega
   by_cases q:r4.1<T.y
   ·rw [if_pos q]
    refine⟨⟨a1,b1,λ_=>⟨c1,⟨by omega,by omega⟩,e1,λz=>absurd z w,λ_ _=>⟨λ_=>by show T.x.length+1<=_;omega,λ_=>by omega⟩⟩,?_⟩,⟨_,rfl,(AB hT e2 q).mono (by omega)⟩,e4.mono (by omega)⟩
    show st.length<100000;omega
   ·rw [if_neg q]
    refine⟨⟨a1,b1,λ_=>⟨c1,⟨by omega,by omega⟩,e1,λz=>absurd z w,λ_ z=>absurd z q⟩,?_⟩,⟨_,rfl,hT.mono (by omega)⟩,e4.mono (by omega)⟩
    show st.length<100000;omega
 ·rw [if_neg c]
  refine⟨⟨a1,b1,λz=>absurd z c,?_⟩,⟨_,rfl,a2.mono (by omega)⟩,b4.mono (by omega)⟩
  show st.length<100000;omega
theorem nG {l:List Int}(hl:l∈GD):∀(xs:List Int) (st:List DS) (s:ae) (n k:Nat),(∀S∈st,DI k S)->Sk n s->k+xs.length<=100->n+110*xs.length<1000000->st.length+xs.length<=1000->bW (tT l) (J9 l) xs (st,s)/\(∃R,(Kas (tT l) (st,s) xs).1=st++R/\R.length=xs.length/\∀S∈st++R,DI (k+xs.length) S)/\Sk (n+110*xs.length) (Kas (tT l) (st,s) xs).2
 |[],st,s,n,k,hs,h,_,_,_=>⟨trivial,⟨[],by simp,rfl,λS hS=>hs S (by simpa using hS)⟩,h⟩
 |x::xs,st,s,n,k,hs,h,hk,hn,hlen=>by
  rw [Kad] at hk hn hlen
  obtain⟨t1,⟨T,t2,t3⟩,t4⟩:=xq hl (k:=k) (by omega) hs h (by omega) (by omega) x
  have e:tT l (st,s) x=(st++[T],(tT l (st,s) x).2):=Prod.ext t2 rfl
  have hs':∀S∈st++[T],DI (k+1) S:=λS hS=>by
   rcases Kao.mp hS with z|z
   ·exact (hs S z).mono (by omega)
   ·rw [Kak.mp z];exact t3
  obtain⟨q1,⟨R,q2,q3,q4⟩,q5⟩:=nG hl xs (st++[T]) (tT l (st,s) x).2 (n+110) (k+1) hs' t4 (by omega) (by omega) (by rw [Kan];show st.length+1+xs.length<=1000;omega)
  rw [Kay,Kad]
  refine⟨⟨t1,?_⟩,⟨T::R,?_,by rw [Kad,q3],λS hS=>?_⟩,?_⟩
  ·rw [e];exact q1
  ·rw [e,q2,KaV];rfl
  ·have:=q4 S (by rw [KaV];exact hS)
   exact this.mono (by omega)
  ·rw [e];exact q5.mono (by omega)
theorem xo {n:Nat}{s:ae}(h:Sk n s)(hn:n<100000):xJ s 4 false/\((vL s 4 false).1.length<=4/\1<=(vL s 4 false).1.length/\∀S∈(vL s 4 false).1,DI 4 S)/\Sk (n+1000) (vL s 4 false).2:=by
 unfold xJ vL
 obtain⟨a1,a2,a3⟩:=oA h (by omega)
 rw [xS (yz s false),v5 (yz s false)]
 generalize yz s false=r1 at *
 rw [fg r1.1,lt_eq r1.1]
 obtain⟨b1,b2,b3,b4⟩:=ua a3 (by omega) (m:=4) (by omega) (by omega)
 rw [xS (bw r1.2 4),v5 (bw r1.2 4)]
 generalize bw r1.2 (4:Int)=r2 at *
 have la:=xO 0 (1+r2.1)
 obtain⟨c1,⟨R,c2,c3,c4⟩,c5⟩:=nG a2 (rng 0 (1+r2.1)) [] r2.2 _ 0 (λS hS=>by cases hS) b4 (by omega) (by omega) (by show 0+_<=1000;omega)
 rw [v5 (Kas (tT r1.1) (([]:List DS),r2.2) (rng 0 (1+r2.1)))]
 generalize Kas (tT r1.1) (([]:List DS),r2.2) (rng 0 (1+r2.1))=q at *
 rw [Ka5] at c2 c4
 refine⟨⟨a1,b1,⟨by omega,by omega⟩,c1⟩,⟨?_,?_,λS hS=>?_⟩,c5.mono (by omega)⟩
 ·show q.1.length<=4;rw [c2];omega
 ·show 1<=q.1.length;rw [c2];omega
 ·have hS:S∈q.1:=hS
  rw [c2] at hS
  exact (c4 S hS).mono (by omega)
theorem Vq {F M:Nat}(hb:F+M<=98000){Ls:List DS}(h:∀L∈Ls,∃g,cE F M g L)(hl:Ls.length<=1000):rS Ls/\(dN Ls).Nodup/\(∀L,L∈dN Ls↔L∈Ls):=by
 have key:∀(xs st:List DS),(∀L∈xs,∃g,cE F M g L)->st.Nodup->st.length+xs.length<=1000->bW iZ IA xs st/\(Kas iZ st xs).Nodup/\∀L,L∈Kas iZ st xs↔L∈st∨L∈xs:=by
  intro xs
  induction xs with
  |nil=>intro st _ hn _;exact⟨trivial,hn,λL=>by simp⟩
  |cons x xs ih=>
   intro st hx hn hlen
   rw [Kad] at hlen
   obtain⟨g,hg⟩:=hx x Kaa
   obtain⟨l1,l2⟩:=Ge (hg.rep hb) hb
   have ex:dz x=x:=l2.uniq hg hb hb
   have et:iZ st x=if x∉st then st++[x] else st:=by
    unfold iZ
    rw [lt_eq,ex];rfl
   have ed:IA st x:=⟨l1,by rw [fg];intro _;omega⟩
   by_cases c:x∈st
   ·have e2:iZ st x=st:=by rw [et,if_neg (λz=>z c)]
    obtain⟨a1,a2,a3⟩:=ih st (λL hL=>hx L (Kab _ hL)) hn (by omega)
    rw [Kay,e2]
    refine⟨⟨ed,by rw [e2];exact a1⟩,a2,λL=>?_⟩
    rw [a3 L,Kal]
    constructor
    ·rintro (z|z)
     ·exact .inl z
     ·exact .inr (.inr z)
    ·rintro (z|z|z)
     ·exact .inl z
     ·rw [z];exact .inl c
     ·exact .inr z
   ·have e2:iZ st x=st++[x]:=by rw [et,if_pos c]
    obtain⟨a1,a2,a3⟩:=ih (st++[x]) (λL hL=>hx L (Kab _ hL)) (Kaj.mpr ⟨hn,by simp,λa ha b hb z=>c (by rw [<-Kak.mp hb,<-z];exact ha)⟩) (by rw [Kan];show _+1+_<=_;omega)
    rw [Kay,e2]
    refine⟨⟨ed,by rw [e2];exact a1⟩,a2,λL=>?_⟩
    rw [a3 L,Kao,Kak,Kal,or_assoc]
 obtain⟨a1,a2,a3⟩:=key Ls [] h KaI (by show 0+_<=_;omega)
 unfold rS dN
 simp only [fg,lt_eq]
 exact⟨a1,a2,λL=>by rw [a3 L];simp⟩
theorem D3 {F M:Nat}(hb:F+M<=98000){Ls:List DS}(h:∀L∈Ls,∃g,cE F M g L)(hl:Ls.length<=1000)(ne:Ls≠[]):(dN Ls).length<2↔∀A∈Ls,∀B∈Ls,A=B:=by
 obtain⟨_,a2,a3⟩:=Vq hb h hl
 generalize dN Ls=R at a2 a3
 constructor
 ·intro hR A hA B hB
  have hA:=(a3 A).mpr hA
  have hB:=(a3 B).mpr hB
  match R,hR,hA,hB with
  |[],_,hA,_=>cases hA
  |[x],_,hA,hB=>rw [Kak.mp hA,Kak.mp hB]
  |_::_::_,hR,_,_=>rw [Kad,Kad] at hR;omega
 ·intro hAB
  match R,a2,a3 with
  |[],_,_=>show 0<2;omega
  |[x],_,_=>show 1<2;omega
  |x::y::r,a2,a3=>
   have:=hAB x ((a3 x).mp Kaa) y ((a3 y).mp (Kab _ Kaa))
   rw [this] at a2
   exact absurd Kaa (KaN.mp a2).1
structure VS (F M:Nat)(s l:Int)(sets:List DS):Prop where
 s0:0<=s
 s1:s<=F
 l1:1<=l
 dv:l.toNat∣M
 r:∀S∈sets,S.y<=s/\S.z.toNat∣l.toNat
theorem nK {F M:Nat}(m0:0<M)(hM:M<=98000):∀(sets done:List DS) (s l:Int),(∀S∈sets,bZ F M (aA S) S)->VS F M s l done->bW Bq Iq sets (s,l)/\VS F M (Kas Bq (s,l) sets).1 (Kas Bq (s,l) sets).2 (done++sets)
 |[],done,s,l,_,h=>⟨trivial,by rw [KaC];exact h⟩
 |S::sets,done,s,l,hs,h=>by
  have hS:=hs S Kaa
  have z1:=hS.ok.z1
  have zM:=hS.zM
  have yM:=hS.y
  have l1:=h.l1
  have lM:=KaF m0 h.dv
  obtain⟨a,ha⟩:=KaR (show 0<=l by omega)
  subst ha
  obtain⟨b,hb⟩:=KaR (show 0<=S.z by omega)
  obtain⟨c1,c2⟩:=z5 a b (by omega) (by omega) (by omega) (by omega)
  have X0:S.z.toNat=b:=by omega
  have t1:Iq (s,(a:Int)) S:=by
   unfold Iq
   rw [fg]
   show vJ (a:Int) S.z
   rw [hb];exact c1
  have t2:Bq (s,(a:Int)) S=(max s S.y,((KcX a b:Nat):Int)):=by
   unfold Bq
   simp only [lt_eq]
   rw [hb,c2]
  have n:VS F M (max s S.y) ((KcX a b:Nat):Int) (done++[S]):=by
   have s0:=h.s0
   have s1:=h.s1
   refine⟨by omega,by omega,?_,?_,λT hT=>?_⟩
   ·have:0<KcX a b:=Nat.lcm_pos (by omega) (by omega)
    omega
   ·rw [Kaz]
    exact Nat.lcm_dvd (by have:=h.dv;rwa [Kaz] at this) (by rw [<-X0];exact hS.z)
   ·rcases Kao.mp hT with z|z
    ·obtain⟨u1,u2⟩:=h.r T z
     rw [Kaz] at u2 ⊢
     exact⟨by omega,KaY u2 (Kc4 _ _)⟩
    ·rw [Kak.mp z,Kaz,X0]
     exact⟨by omega,KcY _ _⟩
  obtain⟨q1,q2⟩:=nK m0 hM sets (done++[S]) _ _ (λT hT=>hs T (Kab _ hT)) n
  rw [Kay,t2]
  refine⟨⟨t1,by rw [t2];exact q1⟩,?_⟩
  rw [KaV] at q2
  exact q2
theorem VA {F M:Nat}(m0:0<M)(hM:M<=98000){sets:List DS}(hs:∀S∈sets,bZ F M (aA S) S):xB sets/\∃N:Nat,ID sets=(N:Int)/\N<=F+M/\∀A∈sets,∀B∈sets,(∀d,d<N->aA A d=aA B d)->∀d,aA A d=aA B d:=by
 obtain⟨a,b⟩:=nK (F:=F) m0 hM sets [] 0 1 hs ⟨by omega,by omega,by omega,⟨M,by simp⟩,λS hS=>by cases hS⟩
 unfold xB ID
 simp only [fg,lt_eq]
 generalize Kas Bq ((0:Int),(1:Int)) sets=r at *
 have s0:=b.s0
 have s1:=b.s1
 have l1:=b.l1
 have lM:=KaF m0 b.dv
 refine⟨a,(r.1+r.2).toNat,by omega,by omega,λA hA B hB hAB=>?_⟩
 obtain⟨a1,a2⟩:=b.r A hA
 obtain⟨b1,b2⟩:=b.r B hB
 have key:∀n d,d<n->aA A d=aA B d:=by
  intro n
  induction n with
  |zero=>intro d hd;omega
  |succ n ih=>
   intro d hd
   by_cases c:d<(r.1+r.2).toNat
   ·exact hAB d c
   ·have e:d=(d-r.2.toNat)+r.2.toNat:=by omega
    rw [e,(hs A hA).per a2 (by omega),(hs B hB).per b2 (by omega)]
    exact ih _ (by omega)
 exactλd=>key (d+1) d (by omega)
theorem Po (φ:Nat->Int){n:Nat}{i:Int}(h0:0<=i)(h1:i<n):au ((KaG n).map φ) i=φ i.toNat:=by
 obtain⟨k,rfl⟩:=KaR h0
 rw [IZ,Ka4,KbW (by omega)];rfl
theorem yH {a b:Bool}:b2i a=b2i b↔a=b:=by cases a <;> cases b <;> simp [b2i]
theorem RS {F M:Nat}(m0:0<M)(hM:2*F+2*M<=90000){A:DS}{R:List DS}(hs:∀S∈A::R,bZ F M (aA S) S)(hl:(A::R).length<=1000):vQ (A::R)/\((∃B∈R,∃d,aA B d≠aA A d)->jR (A::R)≠[]):=by
 obtain⟨t1,N,t2,t3,t4⟩:=VA m0 (by omega) hs
 unfold vQ jR
 simp only [fg,lt_eq]
 rw [t2]
 have rows:Kai (λ(x1:DS)=>FP (iF x1) (N:Int)) (A::R)=(A::R).map λS=>(KaG N).map λd=>b2i (aA S d):=Kau λS hS=>(Va (hs S hS) (n:=N) (by omega)).2
 rw [rows]
 have lr:(rng 0 (N:Int)).length=N:=by have:=xO 0 (N:Int);omega
 have g0:au ((A::R).map λS=>(KaG N).map λd=>b2i (aA S d)) (0:Int)=(KaG N).map λd=>b2i (aA A d):=m5 _ _
 have Xv:∀x:Int,0<=x->x<N->(Kai (λ(x3:List Int)=>(decide ((au x3 x)=(au (au ((A::R).map λS=>(KaG N).map λd=>b2i (aA S d)) (0:Int)) x)))) ((A::R).map λS=>(KaG N).map λd=>b2i (aA S d)))=(A::R).map λS=>decide (aA S x.toNat=aA A x.toNat):=by
  intro x x0 x1
  rw [g0,KaE]
  refine Kau λS _=>?_
  show decide (au ((KaG N).map λd=>b2i (aA S d)) x=_)=_
  rw [Po _ x0 x1,Po _ x0 x1]
  rw [Kbq,decide_eq_true_iff,decide_eq_true_iff,yH]
 generalize hrw:((A::R).map λS=>(KaG N).map λd=>b2i (aA S d))=uY at *
 have X6:uY.length=(A::R).length:=by rw [<-hrw,Kaf]
 have lens:∀x∈uY,x.length=N:=λx hx=>by
  rw [<-hrw] at hx
  obtain⟨S,_,rfl⟩:=Kav.mp hx
  simp
 have l0:(au uY (0:Int)).length=N:=by rw [g0];simp
 -- bJ fold: found empty iff no day parts
 have key:∀(xs:List Int) (st:List (Tb×Int)×List (Int×Tb)),(∀x∈xs,0<=x/\x<N)->st.1.length+xs.length<=90000->st.2.length+xs.length<=90000->(st.2=[]->st.1=[])->bW (tZ uY) (Iw uY) xs st/\((Kas (tZ uY) st xs).2=[]->st.2=[]/\∀x∈xs,∀S∈A::R,aA S x.toNat=aA A x.toNat):=by
  intro xs
  induction xs with
  |nil=>intro st _ _ _ _;exact⟨trivial,λh=>⟨h,λx hx=>by cases hx⟩⟩
  |cons x xs ih=>
   intro st hx h1 h2 h3
   rw [Kad] at h1 h2
   obtain⟨x0,x1⟩:=hx x Kaa
   have ht:=Xv x x0 x1
   have hd:Iw uY st x:=by
    unfold Iw
    refine⟨λy hy=>?_,by rw [X6];omega,?_⟩
    ·have:=lens y hy
     have lp:0<uY.length:=by rw [X6];simp
     exact⟨⟨by omega,by omega⟩,⟨by omega,by omega⟩,by omega,by omega⟩
    ·rw [fg]
     intro _
     refine⟨by omega,?_⟩
     rw [fg];omega
   by_cases c:(¬((KbJ (Tb.mk ((A::R).map λS=>decide (aA S x.toNat=aA A x.toNat))).l id)=true))/\(¬(KaQ (aN st.1 (Tb.mk ((A::R).map λS=>decide (aA S x.toNat=aA A x.toNat))))=true))
   ·have et:tZ uY st x=((Tb.mk ((A::R).map λS=>decide (aA S x.toNat=aA A x.toNat)),x)::st.1,st.2++[(x,Tb.mk ((A::R).map λS=>decide (aA S x.toNat=aA A x.toNat)))]):=by
     unfold tZ
     rw [lt_eq,ht,if_pos c];rfl
    obtain⟨q1,q2⟩:=ih ((Tb.mk ((A::R).map λS=>decide (aA S x.toNat=aA A x.toNat)),x)::st.1,st.2++[(x,Tb.mk ((A::R).map λS=>decide (aA S x.toNat=aA A x.toNat)))]) (λy hy=>hx y (Kab _ hy)) (by show _+1+_<=_;omega) (by rw [Kan];show _+1+_<=_;omega) (λz=>by simp at z)
    rw [Kay,et]
    refine⟨⟨hd,by rw [et];exact q1⟩,λz=>?_⟩
    have:=(q2 z).1
    simp at this
   ·have et:tZ uY st x=st:=by
     unfold tZ
     rw [lt_eq,ht,if_neg c]
    obtain⟨q1,q2⟩:=ih st (λy hy=>hx y (Kab _ hy)) (by omega) (by omega) h3
    rw [Kay,et]
    refine⟨⟨hd,by rw [et];exact q1⟩,λz=>?_⟩
    obtain⟨u1,u2⟩:=q2 z
    refine⟨u1,λy hy=>?_⟩
    rcases Kal.mp hy with e|hy
    ·subst e
     have hall:KbJ ((A::R).map λS=>decide (aA S y.toNat=aA A y.toNat)) id=true:=by
      apply Classical.byContradiction
      intro hn
      refine c ⟨hn,?_⟩
      rw [h3 u1]
      show ¬(KaQ (none:Option Int)=true)
      exact Ka6
     intro S hS
     rw [Kbz,Kbs] at hall
     exact of_decide_eq_true (hall S hS)
    ·exact u2 y hy
 have mr:∀x∈rng 0 (N:Int),0<=x/\x<N:=λx hx=>by
  have:=Gx.mp hx
  omega
 obtain⟨k1,k2⟩:=key (rng 0 (N:Int)) ([],[]) mr (by show 0+_<=_;omega) (by show 0+_<=_;omega) (λ_=>rfl)
 refine⟨⟨t1,λS hS=>⟨?_,(Va (hs S hS) (n:=N) (by omega)).1⟩,by omega,by omega,k1⟩,?_⟩
 ·exact rF (hs S hS) (by omega)
 ·rintro⟨B,hB,d,hd⟩ z
  refine hd ?_
  have:=(k2 z).2
  refine t4 B (Kab _ hB) A Kaa (λe he=>?_) d
  have:=this (e:Int) (Gx.mpr ⟨by omega,by omega⟩) B (Kab _ hB)
  rwa [Kaz] at this
theorem ni {F M:Nat}{sets:List DS}{ns:bL}(h:y9 F M sets)(hM:2*F+2*M<=90000)(m0:0<M)(hn:Fl ns)(hf:bS sets ns≠[]):vF sets ns/\(oW sets ns=none↔∀S∈bS sets ns,∀T∈bS sets ns,∀d,aA S d=aA T d):=by
 obtain⟨f1,f2⟩:=p_ h.big h.l hn λS hS=>(Ge (h.r S hS) (by omega)).1
 have hm:=VN (sets:=sets) (ns:=ns)
 have hl:(bS sets ns).length<=1000:=Kaw (KaX _ _) h.l
 have ue:∀S∈bS sets ns,cE F M (aA S) (dz S):=λS hS=>(Ge (h.r S (hm S hS)) (by omega)).2
 have eqv:∀S∈bS sets ns,∀T∈bS sets ns,(dz S=dz T↔∀d,aA S d=aA T d):=λS hS T hT=>by
  constructor
  ·intro e d
   have h1:=((ue S hS).rep (by omega)).has d
   have h2:=((ue T hT).rep (by omega)).has d
   rw [<-h1,<-h2,e]
  ·intro e
   exact ((ue S hS).congr e).uniq (ue T hT) (by omega) (by omega)
 unfold vF oW
 simp only [fg,lt_eq]
 rw [f2]
 generalize bS sets ns=n5 at *
 have hc:∀L∈n5.map dz,∃g,cE F M g L:=λL hL=>by
  obtain⟨S,hS,rfl⟩:=Kav.mp hL
  exact⟨_,ue S hS⟩
 have ne:n5.map dz≠[]:=λz=>hf (List.map_eq_nil_iff.mp z)
 have hl2:(n5.map dz).length<=1000:=by rw [Kaf];exact hl
 obtain⟨u1,u2,u3⟩:=Vq (by omega) hc hl2
 have ul:=D3 (by omega) hc hl2 ne
 have alike:(∀A∈n5.map dz,∀B∈n5.map dz,A=B)↔∀S∈n5,∀T∈n5,∀d,aA S d=aA T d:=by
  constructor
  ·intro q S hS T hT
   exact (eqv S hS T hT).mp (q _ (KaA hS) _ (KaA hT))
  ·intro q A hA B hB
   obtain⟨S,hS,rfl⟩:=Kav.mp hA
   obtain⟨T,hT,rfl⟩:=Kav.mp hB
   exact (eqv S hS T hT).mpr (q S hS T hT)
 have WD:∀L∈dN (n5.map dz),bZ F M (aA L) L:=λL hL=>by
  obtain⟨g,hg⟩:=hc L ((u3 L).mp hL)
  have r:=hg.rep (by omega)
  exact⟨r.ok,r.y,r.z,r.m0,λ_=>rfl⟩
 have Jw:(dN (n5.map dz)).length<=1000:=by
  have:∀(xs st:List DS),(Kas iZ st xs).length<=st.length+xs.length:=by
   intro xs
   induction xs with
   |nil=>intro st;exact Kap _
   |cons x xs ih=>
    intro st
    rw [Kay,Kad]
    refine Kaw (ih _) ?_
    have:(iZ st x).length<=st.length+1:=by
     unfold iZ
     simp only [lt_eq]
     split
     ·rw [Kan];exact Kap _
     ·omega
    omega
  have h1:=this (n5.map dz) []
  have h2:(dN (n5.map dz)).length<=0+(n5.map dz).length:=h1
  omega
 have Te:∀L∈dN (n5.map dz),∀K∈dN (n5.map dz),(∀d,aA L d=aA K d)->L=K:=λL hL K hK e=>by
  obtain⟨S,hS,eS⟩:=Kav.mp ((u3 L).mp hL)
  obtain⟨T,hT,eT⟩:=Kav.mp ((u3 K).mp hK)
  rw [<-eS,<-eT]
  refine (eqv S hS T hT).mpr λd=>?_
  rw [<-((ue S hS).rep (by omega)).has d,<-((ue T hT).rep (by omega)).has d,eS,eT]
  exact e d
 generalize dN (n5.map dz)=R at *
 by_cases c:R.length<2
 ·have c':(R.length:Int)<(2:Int):=by omega
  rw [if_pos c']
  exact⟨⟨f1,u1,λz=>absurd c' z⟩,⟨λ_=>alike.mp (ul.mp c),λ_=>rfl⟩⟩
 ·have c':¬(R.length:Int)<(2:Int):=by omega
  rw [if_neg c']
  match R,c,u2,WD,Jw,Te,ul with
  |[],c,_,_,_,_,_=>exact absurd (show ([]:List DS).length<2 by show 0<2;omega) c
  |[A],c,_,_,_,_,_=>exact absurd (show [A].length<2 by show 1<2;omega) c
  |A::B::R,c,u2,WD,Jw,Te,ul=>
   obtain⟨p1,p2⟩:=RS m0 hM WD Jw
   have hAB:A≠B:=λz=>(KaN.mp u2).1 (by rw [z];exact Kaa)
   have hd:∃d,aA B d≠aA A d:=Classical.byContradiction λz=>hAB (Te A Kaa B (Kab _ Kaa) λd=>Classical.byContradiction λy=>z ⟨d,λw=>y w.symm⟩)
   have Z6:=p2 ⟨B,Kaa,hd⟩
   have fold:∀(xs:List (Int×Tb)) (st:Option (Int×Int)),bW sG IS xs st/\(st≠none∨xs≠[]->KaQ (Kas sG st xs)=true):=by
    intro xs
    induction xs with
    |nil=>
     intro st
     refine⟨trivial,λq=>?_⟩
     rcases q with q|q
     ·cases st with
      |none=>exact absurd rfl q
      |some _=>rfl
     ·exact absurd rfl q
    |cons x xs ih=>
     intro st
     have dx:IS st x:=by
      unfold IS
      rw [fg]
      intro q
      cases st with
      |none=>exact absurd rfl q
      |some _=>rfl
     have tx:sG st x≠none:=by
      unfold sG
      simp only [lt_eq]
      by_cases w:(st=none)∨(IP x.2<(KaO st default).1)
      ·rw [if_pos w];exact nofun
      ·rw [if_neg w];exactλz=>w (.inl z)
     exact⟨⟨dx,(ih _).1⟩,λ_=>(ih _).2 (.inl tx)⟩
   obtain⟨k1,k2⟩:=fold (jR (A::B::R)) none
   refine⟨⟨f1,u1,λ_=>⟨p1,k1,k2 (.inr Z6)⟩⟩,⟨λz=>(nomatch z),λq=>?_⟩⟩
   exact absurd (ul.mpr (alike.mpr q)) c
theorem mS {α β:Type}(g:α->β):∀(xs:List α) (k:Int),aT k (xs.map g)=(aT k xs).map λp=>(p.1,g p.2)
 |[],_=>rfl
 |x::xs,k=>by
  rw [Kag]
  show (k,g x)::aT (k+1) (xs.map g)=(k,g x)::(aT (k+1) xs).map _
  rw [mS g xs (k+1)]
end Pu
namespace Pu
open PySem PyProof.Rows L2 Enc La
section
variable {κ β:Type}[DecidableEq κ]
theorem S2 (f:List (κ×β))(k:κ)(v:β)(j:κ):aN (d9 f k v) j=if k=j then some v else aN f j:=by
 unfold d9
 split
 ·rename_i h
  induction f with
  |nil=>cases h
  |cons p f ih=>
   obtain⟨a,u⟩:=p
   rw [Kag]
   by_cases e:a=k
   ·subst e
    rw [if_pos rfl]
    show (if a=j then some v else aN (f.map _) j)=if a=j then some v else if a=j then some u else aN f j
    by_cases e2:a=j
    ·rw [if_pos e2,if_pos e2]
    ·rw [if_neg e2,if_neg e2,if_neg e2]
     have:∀g:List (κ×β),aN (g.map λp=>if p.1=a then (p.1,v) else p) j=aN g j:=by
      intro g
      induction g with
      |nil=>rfl
      |cons q g X3=>
       obtain⟨b,w⟩:=q
       rw [Kag]
       by_cases e3:b=a
       ·rw [if_pos e3]
        show (if b=j then some v else aN (g.map _) j)=if b=j then some w else aN g j
        rw [if_neg (λz=>e2 (e3.symm.trans z)),if_neg (λz=>e2 (e3.symm.trans z)),X3]
       ·rw [if_neg e3]
        show (if b=j then some w else aN (g.map _) j)=if b=j then some w else aN g j
        rw [X3]
     exact this f
   ·rw [if_neg e]
    have h':(aN f k).isSome=true:=by
     have h:(if a=k then some u else aN f k).isSome=true:=h
     rwa [if_neg e] at h
    show (if a=j then some u else aN (f.map _) j)=if k=j then some v else if a=j then some u else aN f j
    by_cases e2:a=j
    ·rw [if_pos e2,if_neg (λz=>e (e2.trans z.symm)),if_pos e2]
    ·rw [if_neg e2,if_neg e2];exact ih h'
 ·rename_i h
  induction f with
  |nil=>rfl
  |cons p f ih=>
   obtain⟨a,u⟩:=p
   have ha:¬a=k:=λz=>h (by
    show (if a=k then some u else aN f k).isSome=true
    rw [if_pos z];rfl)
   have h':¬(aN f k).isSome=true:=λz=>h (by
    show (if a=k then some u else aN f k).isSome=true
    rw [if_neg ha];exact z)
   show (if a=j then some u else aN (f++[(k,v)]) j)=if k=j then some v else if a=j then some u else aN f j
   by_cases e2:a=j
   ·rw [if_pos e2,if_neg (λz=>ha (e2.trans z.symm)),if_pos e2]
   ·rw [if_neg e2,if_neg e2];exact ih h'
theorem nh {f:List (κ×β)}{k:κ}:(aN f k).isSome=true↔k∈f.map λp=>p.1:=by
 induction f with
 |nil=>exact⟨λh=>by (cases h),λh=>by (cases h)⟩
 |cons p f ih=>
  obtain⟨a,u⟩:=p
  show (if a=k then some u else aN f k).isSome=true↔_
  rw [Kag,Kal]
  by_cases e:a=k
  ·rw [if_pos e];exact⟨λ_=>.inl e.symm,λ_=>rfl⟩
  ·rw [if_neg e,ih]
   exact⟨.inr,λh=>h.elim (λz=>absurd z.symm e) id⟩
theorem AK (f:List (κ×β))(k:κ)(v:β):((d9 f k v).map λp=>p.1)=if k∈f.map (λp=>p.1) then f.map (λp=>p.1) else f.map (λp=>p.1)++[k]:=by
 unfold d9
 by_cases h:(aN f k).isSome=true
 ·rw [if_pos h,if_pos (nh.mp h),KaE]
  refine Kau λp _=>?_
  show (if p.1=k then (p.1,v) else p).1=p.1
  split <;> rfl
 ·rw [if_neg h,if_neg (λz=>h (nh.mpr z)),KaH];rfl
theorem nC {f:List (κ×β)}{k:κ}{v:β}(h:(f.map λp=>p.1).Nodup):((d9 f k v).map λp=>p.1).Nodup:=by
 rw [AK]
 split
 ·exact h
 ·rename_i hk
  exact Kaj.mpr ⟨h,by simp,λa ha b hb z=>hk (by rw [<-Kak.mp hb,<-z];exact ha)⟩
theorem UZ {f:List (κ×β)}{k:κ}{v:β}:aN f k=some v->(k,v)∈f:=by
 induction f with
 |nil=>intro h;cases h
 |cons p f ih=>
  obtain⟨a,u⟩:=p
  intro h
  have h:(if a=k then some u else aN f k)=some v:=h
  by_cases e:a=k
  ·rw [if_pos e] at h
   cases h
   rw [e];exact Kaa
  ·rw [if_neg e] at h
   exact Kab _ (ih h)
theorem Ag {f:List (κ×β)}(nd:(f.map λp=>p.1).Nodup){k:κ}{v:β}(h:(k,v)∈f):aN f k=some v:=by
 induction f with
 |nil=>cases h
 |cons p f ih=>
  obtain⟨a,u⟩:=p
  rw [Kag,KaN] at nd
  show (if a=k then some u else aN f k)=some v
  rcases Kal.mp h with e|e
  ·cases e;rw [if_pos rfl]
  ·rw [if_neg,ih nd.2 e]
   intro z
   exact nd.1 (Kav.mpr ⟨_,e,z.symm⟩)
end
section
variable {κ ι:Type}[DecidableEq κ][DecidableEq ι]
def gm (f:List (κ×Int))(x:κ):List (κ×Int):=if ¬((aN f x).isSome=true) then d9 f x ((f.length:Nat):Int) else f
def stN (st:List (κ×Int)×List Int)(x:κ):List (κ×Int)×List Int:=(gm st.1 x,st.2++[(aN (gm st.1 x) x).getD 0])
/-- bJ numbers of some things,as Ia first stand -/
def fJ (zs:List κ):List Int:=(Kas stN ([],[]) zs).2
theorem qR (lots:Ti)(truths:Tb):lQ lots truths=⟨fJ (Kba lots.l truths.l)⟩:=rfl
structure Nb (done:List κ)(st:List (κ×Int)×List Int):Prop where
 out:st.2=done.map λx=>(aN st.1 x).getD 0
 key:∀x,(aN st.1 x).isSome=true↔x∈done
 inj:∀x y v,aN st.1 x=some v->aN st.1 y=some v->x=y
 rng:∀x v,aN st.1 x=some v->0<=v/\v<(st.1.length:Int)
 len:st.1.length<=done.length
theorem Jd (f:List (κ×Int))(x y:κ):aN (gm f x) y=if (aN f y).isSome=true then aN f y else if x=y then some (f.length:Int) else none:=by
 unfold gm
 by_cases c:¬((aN f x).isSome=true)
 ·rw [if_pos c,S2]
  by_cases e:x=y
  ·subst e
   rw [if_pos rfl,if_neg c,if_pos rfl]
  ·rw [if_neg e,if_neg e]
   by_cases d:(aN f y).isSome=true
   ·rw [if_pos d]
   ·rw [if_neg d]
    exact KbR.mp d
 ·rw [if_neg c]
  have c:=Classical.not_not.mp c
  by_cases d:(aN f y).isSome=true
  ·rw [if_pos d]
  ·rw [if_neg d,if_neg (show ¬x=y fromλz=>d (z ▸ c))]
   exact KbR.mp d
theorem Pn (f:List (κ×Int))(x:κ):(gm f x).length<=f.length+1/\f.length<=(gm f x).length/\(¬((aN f x).isSome=true)->(gm f x).length=f.length+1):=by
 unfold gm
 by_cases c:¬((aN f x).isSome=true)
 ·rw [if_pos c]
  unfold d9
  rw [if_neg c,Kan,KaL]
  exact⟨Kap _,Nat.le_succ _,λ_=>rfl⟩
 ·rw [if_neg c]
  exact⟨Nat.le_succ _,Kap _,λz=>absurd z c⟩
theorem Nb.step {done:List κ}{st:List (κ×Int)×List Int}(h:Nb done st)(x:κ):Nb (done++[x]) (stN st x):=by
 have l2:=Jd st.1 x
 have ln:=Pn st.1 x
 refine⟨?_,λy=>?_,λy z v hy hz=>?_,λy v hy=>?_,?_⟩
 ·show st.2++[_]=(done++[x]).map _
  rw [KaH,h.out]
  refine congrArg (·++_) (Kau λy hy=>?_)
  show _=(aN (gm st.1 x) y).getD 0
  rw [l2,if_pos ((h.key y).mpr hy)]
 ·show (aN (gm st.1 x) y).isSome=true↔_
  rw [l2,Kao,Kak,<-h.key y]
  by_cases d:(aN st.1 y).isSome=true
  ·rw [if_pos d];exact⟨.inl,λ_=>d⟩
  ·rw [if_neg d]
   by_cases e:x=y
   ·rw [if_pos e];exact⟨λ_=>.inr e.symm,λ_=>rfl⟩
   ·rw [if_neg e];exact⟨λz=>by (cases z),λz=>z.elim (λq=>absurd q d) (λq=>absurd q.symm e)⟩
 ·have hy:aN (gm st.1 x) y=some v:=hy
  have hz:aN (gm st.1 x) z=some v:=hz
  rw [l2] at hy hz
  by_cases d1:(aN st.1 y).isSome=true
  ·rw [if_pos d1] at hy
   by_cases d2:(aN st.1 z).isSome=true
   ·rw [if_pos d2] at hz
    exact h.inj y z v hy hz
   ·rw [if_neg d2] at hz
    by_cases e:x=z
    ·rw [if_pos e] at hz
     cases hz
     have:=h.rng y _ hy
     omega
    ·rw [if_neg e] at hz;cases hz
  ·rw [if_neg d1] at hy
   by_cases e1:x=y
   ·rw [if_pos e1] at hy
    cases hy
    by_cases d2:(aN st.1 z).isSome=true
    ·rw [if_pos d2] at hz
     have:=h.rng z _ hz
     omega
    ·rw [if_neg d2] at hz
     by_cases e:x=z
     ·rw [<-e1,e]
     ·rw [if_neg e] at hz;cases hz
   ·rw [if_neg e1] at hy;cases hy
 ·have hy:aN (gm st.1 x) y=some v:=hy
  show 0<=v/\v<((gm st.1 x).length:Int)
  rw [l2] at hy
  by_cases d1:(aN st.1 y).isSome=true
  ·rw [if_pos d1] at hy
   have:=h.rng y v hy
   omega
  ·rw [if_neg d1] at hy
   by_cases e1:x=y
   ·rw [if_pos e1] at hy
    cases hy
    subst e1
    have:=ln.2.2 d1
    omega
   ·rw [if_neg e1] at hy;cases hy
 ·show (gm st.1 x).length<=(done++[x]).length
  have:=h.len
  rw [Kan,KaL];omega
theorem uT:∀(zs done:List κ) (st:List (κ×Int)×List Int),Nb done st->Nb (done++zs) (Kas stN st zs)
 |[],done,st,h=>by rw [KaC];exact h
 |z::zs,done,st,h=>by
  rw [Kay,show done++z::zs=(done++[z])++zs by simp]
  exact uT zs _ _ (h.step z)
theorem Lj (zs:List κ):Nb zs (Kas stN ([],[]) zs):=uT zs [] _ ⟨rfl,λx=>⟨λh=>by (cases h),λh=>by (cases h)⟩,λx y v h=>by (cases h),λx v h=>by (cases h),Kap 0⟩
/-- bJ numbers,as a map dF keeps unlike things apart -/
theorem K5 (zs:List κ):∃φ:κ->Int,fJ zs=zs.map φ/\∀x∈zs,∀y∈zs,φ x=φ y->x=y:=by
 have h:=Lj zs
 refine⟨_,h.out,λx hx y hy e=>?_⟩
 obtain⟨u,hu⟩:=Kbg.mp ((h.key x).mpr hx)
 obtain⟨v,hv⟩:=Kbg.mp ((h.key y).mpr hy)
 rw [hu,hv] at e
 have e:u=v:=e
 exact h.inj x y u hu (e ▸ hv)
theorem Ay (zs:List κ):(fJ zs).length=zs.length:=by
 obtain⟨φ,h,_⟩:=K5 zs
 rw [h,Kaf]
theorem kX {γ:Type}{f:γ->κ}{g:γ->ι}(U:List γ)(h:∀S∈U,∀T∈U,f S=f T↔g S=g T):fJ (U.map f)=fJ (U.map g):=by
 have key:∀(V D:List γ) (s1:List (κ×Int)×List Int) (s2:List (ι×Int)×List Int),(∀S∈D++V,∀T∈D++V,f S=f T↔g S=g T)->Nb (D.map f) s1->Nb (D.map g) s2->s1.2=s2.2->s1.1.length=s2.1.length->(∀S∈D,aN s1.1 (f S)=aN s2.1 (g S)) ->
   (Kas stN s1 (V.map f)).2=(Kas stN s2 (V.map g)).2:=by
  intro V
  induction V with
  |nil=>intro D s1 s2 _ _ _ h1 _ _;exact h1
  |cons x V ih=>
   intro D s1 s2 hp n1 n2 h1 h2 h3
   rw [Kag,Kag,Kay,Kay]
   have hx:x∈D++x::V:=Kaq _ Kaa
   have iff:(aN s1.1 (f x)).isSome=true↔(aN s2.1 (g x)).isSome=true:=by
    rw [n1.key,n2.key,Kav,Kav]
    constructor
    ·rintro⟨S,hS,e⟩;exact⟨S,hS,(hp S (Kac _ hS) x hx).mp e⟩
    ·rintro⟨S,hS,e⟩;exact⟨S,hS,(hp S (Kac _ hS) x hx).mpr e⟩
   have lx:aN (gm s1.1 (f x)) (f x)=aN (gm s2.1 (g x)) (g x):=by
    rw [Jd,Jd,if_pos rfl,if_pos rfl]
    by_cases d:(aN s1.1 (f x)).isSome=true
    ·rw [if_pos d,if_pos (iff.mp d)]
     obtain⟨S,hS,e⟩:=Kav.mp ((n1.key _).mp d)
     rw [<-e,<-(hp S (Kac _ hS) x hx).mp e]
     exact h3 S hS
    ·rw [if_neg d,if_neg (λz=>d (iff.mpr z)),h2]
   refine ih (D++[x]) (stN s1 (f x)) (stN s2 (g x)) (by simpa using hp) (by rw [KaH];exact n1.step (f x)) (by rw [KaH];exact n2.step (g x)) ?_ ?_ ?_
   ·show s1.2++[_]=s2.2++[_]
    rw [h1,lx]
   ·show (gm s1.1 (f x)).length=(gm s2.1 (g x)).length
    by_cases d:(aN s1.1 (f x)).isSome=true
    ·unfold gm
     rw [if_neg (λz=>z d),if_neg (λz=>z (iff.mp d)),h2]
    ·rw [(Pn s1.1 (f x)).2.2 d,(Pn s2.1 (g x)).2.2 (λz=>d (iff.mpr z)),h2]
   ·intro S hS
    show aN (gm s1.1 (f x)) (f S)=aN (gm s2.1 (g x)) (g S)
    rcases Kao.mp hS with hS|hS
    ·rw [Jd,Jd,if_pos ((n1.key _).mpr (KaA hS)),if_pos ((n2.key _).mpr (KaA hS))]
     exact h3 S hS
    ·rw [Kak.mp hS];exact lx
 refine key U [] _ _ h ?_ ?_ rfl rfl (λS hS=>by cases hS)
 ·exact Lj []
 ·exact Lj []
theorem Az {γ:Type}{f:γ->κ}{g:γ->ι}{U:List γ}(h:fJ (U.map f)=fJ (U.map g)):∀S∈U,∀T∈U,f S=f T↔g S=g T:=by
 obtain⟨φ,e1,i1⟩:=K5 (U.map f)
 obtain⟨ψ,e2,i2⟩:=K5 (U.map g)
 rw [e1,e2,KaE,KaE] at h
 have h:=KbI.mp h
 intro S hS T hT
 have hs:φ (f S)=ψ (g S):=h S hS
 have ht:φ (f T)=ψ (g T):=h T hT
 constructor
 ·intro e
  refine i2 _ (KaA hS) _ (KaA hT) ?_
  rw [<-hs,<-ht,e]
 ·intro e
  refine i1 _ (KaA hS) _ (KaA hT) ?_
  rw [hs,ht,e]
theorem tu (zs:List κ)(h:zs.Nodup):fJ zs=rng 0 ((zs.length:Nat):Int):=by
 have key:∀(V D:List κ) (st:List (κ×Int)×List Int),(D++V).Nodup->Nb D st->st.1.length=D.length->st.2=rng 0 ((D.length:Nat):Int)->(Kas stN st V).2=rng 0 (((D++V).length:Nat):Int):=by
  intro V
  induction V with
  |nil=>intro D st _ _ _ h2;rw [KaC];exact h2
  |cons x V ih=>
   intro D st nd n1 h1 h2
   have hx:¬(aN st.1 x).isSome=true:=λz=>by
    have:=(n1.key x).mp z
    exact (Kaj.mp nd).2.2 x this x Kaa rfl
   rw [Kay,show D++x::V=(D++[x])++V by simp]
   refine ih (D++[x]) (stN st x) (by simpa using nd) (n1.step x) ?_ ?_
   ·show (gm st.1 x).length=_
    rw [(Pn st.1 x).2.2 hx,h1,Kan];rfl
   ·show st.2++[_]=_
    rw [Jd,if_neg hx,if_pos rfl,h2,h1,Kan,KaL]
    rw [yV,yV,Kb3,KaH];rfl
 have:=key zs [] ([],[]) h (Lj []) rfl rfl
 exact this
theorem wX {γ:Type}(U:List γ)(c:κ):fJ (U.map λ_=>c)=Kah U.length 0:=by
 cases U with
 |nil=>rfl
 |cons A R=>
  have key:∀(V:List γ) (out:List Int),(Kas stN (([(c,(0:Int))]:List (κ×Int)),out) (V.map λ_=>c)).2=out++Kah V.length 0:=by
   intro V
   induction V with
   |nil=>intro out;exact (KaC _).symm
   |cons x V ih=>
    intro out
    have hk:gm ([(c,(0:Int))]:List (κ×Int)) c=[(c,0)]:=by
     unfold gm
     rw [if_neg]
     intro z
     refine z ?_
     show (if c=c then some (0:Int) else none).isSome=true
     rw [if_pos rfl];rfl
    have hl:aN ([(c,(0:Int))]:List (κ×Int)) c=some 0:=by
     show (if c=c then some (0:Int) else none)=_
     rw [if_pos rfl]
    rw [Kag,Kay]
    have:stN (([(c,(0:Int))]:List (κ×Int)),out) c=([(c,0)],out++[0]):=by
     show (gm [(c,(0:Int))] c,out++[(aN (gm [(c,(0:Int))] c) c).getD 0])=_
     rw [hk,hl];rfl
    rw [this,ih,Kad,KaT,KaV];rfl
  have h0:stN (([]:List (κ×Int)),([]:List Int)) c=([(c,0)],[0]):=by
   have e:gm ([]:List (κ×Int)) c=[(c,0)]:=rfl
   show (gm ([]:List (κ×Int)) c,([]:List Int)++[(aN (gm ([]:List (κ×Int)) c) c).getD 0])=_
   rw [e]
   show ([(c,(0:Int))],[(if c=c then some (0:Int) else none).getD 0])=_
   rw [if_pos rfl];rfl
  show (Kas stN ([],[]) ((A::R).map λ_=>c)).2=_
  rw [Kag,Kay,h0,key,Kad,KaT];rfl
/-- bJ lists of numbers,each at most its place -/
def sS:Nat->List (List Int)
 |0=>[[]]
 |n+1=>(sS n).flatMap λl=>(rng 0 ((n+1:Nat):Int)).map λk=>l++[k]
theorem wW (zs:List κ):fJ zs∈sS zs.length:=by
 have key:∀(V D:List κ) (st:List (κ×Int)×List Int),Nb D st->st.2∈sS D.length->(Kas stN st V).2∈sS (D++V).length:=by
  intro V
  induction V with
  |nil=>intro D st _ h;rw [KaC];exact h
  |cons x V ih=>
   intro D st n1 h1
   rw [Kay,show D++x::V=(D++[x])++V by simp]
   refine ih (D++[x]) (stN st x) (n1.step x) ?_
   rw [Kan,KaL]
   refine KbS.mpr ⟨st.2,h1,Kav.mpr ⟨_,?_,rfl⟩⟩
   have n2:=n1.step x
   obtain⟨v,hv⟩:=Kbg.mp ((n2.key x).mpr (Kaq _ Kaa))
   have hv:aN (gm st.1 x) x=some v:=hv
   rw [hv]
   have h3:=n2.rng x v hv
   have h4:=n2.len
   rw [Kan,KaL] at h4
   exact Gx.mpr ⟨h3.1,by show v<_;omega⟩
 exact key zs [] ([],[]) (Lj []) (by exact Kaa)
def GB:Nat->Nat
 |0=>1
 |n+1=>GB n*(n+1)
theorem qi:∀n,(sS n).length=GB n
 |0=>rfl
 |n+1=>by
  show ((sS n).flatMap _).length=_
  rw [KcJ]
  have:∀l:List (List Int),(l.map λl=>((rng 0 ((n+1:Nat):Int)).map λk=>l++[k]).length).sum=l.length*(n+1):=by
   intro l
   induction l with
   |nil=>rw [Kbu,Nat.zero_mul];rfl
   |cons a l ih=>
    rw [Kag,List.sum_cons,ih,Kaf,yV,Kaf,Kcg,Kad,KbA];omega
  rw [this,qi n];rfl
end
theorem Ox {α:Type}:∀{xs ys:List α},xs.Nodup->(∀x∈xs,x∈ys)->xs.length<=ys.length
 |[],ys,_,_=>Ka2 _
 |x::xs,ys,nd,h=>by
  obtain⟨a,b,rfl⟩:=List.append_of_mem (h x Kaa)
  rw [KaN] at nd
  have:=Ox (ys:=a++b) nd.2 λy hy=>by
   have ZQ:=h y (Kab _ hy)
   rcases Kao.mp ZQ with z|z
   ·exact Kac _ z
   ·rcases Kal.mp z with z|z
    ·exact absurd (z ▸ hy) nd.1
    ·exact Kaq _ z
  rw [Kan] at this ⊢
  rw [Kad,Kad];omega
abbrev TL:=Ti×List Int
def Ic (st:LW)(c:TL):LW:=if ¬((aN st c.1).isSome=true)∨HT.lexLt c.2 ((aN st c.1).getD [])=true then d9 st c.1 c.2 else st
theorem uN:∀x y:List Int,HT.lexLt x y=true->HT.lexLt y x=false
 |[],[],h=>by rw [HT.lexLt_nil_nil] at h;cases h
 |[],_::_,_=>HT.lexLt_cons_nil _ _
 |_::_,[],h=>by rw [HT.lexLt_cons_nil] at h;cases h
 |a::x,b::y,h=>by
  rw [HT.lexLt_cons] at h ⊢
  split at h
  ·rename_i e
   rw [if_pos e.symm];exact uN x y h
  ·have h:=of_decide_eq_true h
   rw [if_neg (by omega)]
   exact decide_eq_false (by omega)
theorem Af:∀x y z:List Int,HT.lexLt y x=false->HT.lexLt z y=false->HT.lexLt z x=false
 |[],_,[],_,_=>HT.lexLt_nil_nil
 |[],_,_::_,_,_=>HT.lexLt_cons_nil _ _
 |_::_,[],_,h,_=>by rw [HT.lexLt_nil_cons] at h;cases h
 |_::_,_::_,[],_,h=>by rw [HT.lexLt_nil_cons] at h;cases h
 |a::x,b::y,d::z,h1,h2=>by
  rw [HT.lexLt_cons] at h1 h2 ⊢
  split at h1
  ·rename_i e1
   split at h2
   ·rename_i e2
    rw [if_pos (e2.trans e1)];exact Af x y z h1 h2
   ·have h2:=of_decide_eq_false h2
    rw [if_neg (by omega)]
    exact decide_eq_false (by omega)
  ·have h1:=of_decide_eq_false h1
   split at h2
   ·rw [if_neg (by omega)]
    exact decide_eq_false (by omega)
   ·have h2:=of_decide_eq_false h2
    rw [if_neg (by omega)]
    exact decide_eq_false (by omega)
structure Bl (C:List TL)(st:LW):Prop where
 nd:(st.map λp=>p.1).Nodup
 Pd:∀q∈st,q∈C
 NC:∀q∈C,∃v,aN st q.1=some v/\HT.lexLt q.2 v=false
theorem OU:∀xs:List Int,HT.lexLt xs xs=false
 |[]=>rfl
 |x::xs=>by rw [HT.lexLt_cons,if_pos rfl];exact OU xs
theorem DA {κ β:Type}[DecidableEq κ]{f:List (κ×β)}{k:κ}{v:β}(nd:(f.map λp=>p.1).Nodup){q:κ×β}(h:q∈d9 f k v):q=(k,v)∨q∈f:=by
 have l:=Ag (nC (k:=k) (v:=v) nd) (k:=q.1) (v:=q.2) h
 rw [S2] at l
 by_cases e:k=q.1
 ·rw [if_pos e] at l
  cases q
  cases e
  cases l
  exact .inl rfl
 ·rw [if_neg e] at l
  exact .inr (UZ l)
theorem Bl.step {C:List TL}{st:LW}(h:Bl C st)(c:TL):Bl (C++[c]) (Ic st c):=by
 unfold Ic
 split
 ·rename_i hc
  refine⟨nC h.nd,λq hq=>?_,λq hq=>?_⟩
  ·rcases DA h.nd hq with e|e
   ·exact Kaq _ (by rw [e];exact Kak.mpr rfl)
   ·exact Kac _ (h.Pd q e)
  ·rw [S2]
   by_cases e:c.1=q.1
   ·rw [if_pos e]
    refine⟨c.2,rfl,?_⟩
    rcases Kao.mp hq with hq|hq
    ·obtain⟨v,hv,l⟩:=h.NC q hq
     rw [e,hv] at hc
     rcases hc with hc|hc
     ·exact absurd rfl hc
     ·exact Af _ _ _ (uN _ _ hc) l
    ·rw [Kak.mp hq];exact OU _
   ·rw [if_neg e]
    rcases Kao.mp hq with hq|hq
    ·exact h.NC q hq
    ·exact absurd (by rw [Kak.mp hq]) e
 ·rename_i hc
  refine⟨h.nd,λq hq=>Kac _ (h.Pd q hq),λq hq=>?_⟩
  rcases Kao.mp hq with hq|hq
  ·exact h.NC q hq
  ·rw [Kak.mp hq]
   have h1:(aN st c.1).isSome=true:=Classical.not_not.mp λz=>hc (.inl z)
   obtain⟨v,hv⟩:=Kbg.mp h1
   refine⟨v,hv,?_⟩
   cases h2:HT.lexLt c.2 v with
   |false=>rfl
   |true=>exact absurd (.inr (by rw [hv];exact h2)) hc
theorem qt:∀(d:Int) (A B:List Int),A.length=B.length->A.Pairwise (·<=·)->B.Pairwise (·<=·)->HT.lexLt B A=false->HT.lexLt (insI d B) (insI d A)=false
 |d,[],[],_,_,_,_=>OU _
 |d,a::A,b::B,hl,sA,sB,h=>by
  have hl2:A.length=B.length:=by rw [Kad,Kad] at hl;omega
  have pA:=KaS.mp sA
  have pB:=KaS.mp sB
  rw [HT.lexLt_cons] at h
  unfold insI
  by_cases e:b=a
  ·rw [if_pos e] at h
   subst e
   by_cases c:d<=b
   ·rw [if_pos c,if_pos c,HT.lexLt_cons,if_pos rfl,HT.lexLt_cons,if_pos rfl];exact h
   ·rw [if_neg c,if_neg c,HT.lexLt_cons,if_pos rfl];exact qt d A B hl2 pA.2 pB.2 h
  ·rw [if_neg e] at h
   have h:=of_decide_eq_false h
   by_cases c:d<=a
   ·rw [if_pos (show d<=b by omega),if_pos c,HT.lexLt_cons,if_pos rfl,HT.lexLt_cons,if_neg e]
    exact decide_eq_false h
   ·rw [if_neg c]
    by_cases c2:d<=b
    ·rw [if_pos c2,HT.lexLt_cons,if_neg (by omega)]
     exact decide_eq_false (by omega)
    ·rw [if_neg c2,HT.lexLt_cons,if_neg e]
     exact decide_eq_false h
theorem nI (xs:List Int)(d:Int):sortI (xs++[d])=insI d (sortI xs):=by
 refine Nt ?_ (B5 _) (Tq d (B5 _))
 exact (Et _).trans ((List.perm_append_comm).trans (((Et xs).symm.cons d).trans (Oz d _).symm))
theorem Vz (xs:List Int):(sortI xs).length=xs.length:=(Et xs).length_eq
theorem BR {A B:List Int}{d:Int}(hl:A.length=B.length)(h:HT.lexLt (sortI B) (sortI A)=false):HT.lexLt (sortI (B++[d])) (sortI (A++[d]))=false:=by
 rw [nI,nI]
 exact qt d _ _ (by rw [Vz,Vz,hl]) (B5 _) (B5 _) h
theorem rE {xs:List Int}(h:xs.Pairwise (·<=·)):sortI xs=xs:=Nt (Et xs) (B5 _) h
section
variable {γ:Type}{U:List γ}{h:γ->Int->Bool}{c:Int->Bool}
/-- bJ lots dF some days make -/
def aD (U:List γ)(h:γ->Int->Bool)(D:List Int):List Int:=fJ (U.map λS=>D.map (h S))
def dG (U:List γ)(h:γ->Int->Bool)(c:Int->Bool)(d:Int):List Bool:=U.map λS=>decide (h S d=c d)
theorem Cb {D:List Int}{S T:γ}:D.map (h S)=D.map (h T)↔∀d∈D,h S d=h T d:=KbI
theorem qG {D E:List Int}:aD U h D=aD U h E↔∀S∈U,∀T∈U,(∀d∈D,h S d=h T d)↔∀d∈E,h S d=h T d:=by
 constructor
 ·intro e S hS T hT
  have:=Az e S hS T hT
  rw [Cb,Cb] at this
  exact this
 ·intro e
  refine kX U λS hS T hT=>?_
  rw [Cb,Cb]
  exact e S hS T hT
theorem qE {D E:List Int}(e:∀d,d∈D↔d∈E):aD U h D=aD U h E:=qG.mpr λS _ T _=>⟨λz d hd=>z d ((e d).mpr hd),λz d hd=>z d ((e d).mp hd)⟩
theorem Ac (D:List Int):(aD U h D).length=U.length:=by unfold aD;rw [Ay,Kaf]
theorem TJ (D:List Int)(d:Int):lQ ⟨aD U h D⟩ ⟨dG U h c d⟩=⟨aD U h (D++[d])⟩:=by
 rw [qR]
 refine congrArg Ti.mk ?_
 obtain⟨φ,e1,i1⟩:=K5 (U.map λS=>D.map (h S))
 show fJ (Kba (fJ (U.map λS=>D.map (h S))) (U.map λS=>decide (h S d=c d)))=fJ (U.map λS=>(D++[d]).map (h S))
 rw [e1,KaE,List.zip_map']
 refine kX U λS hS T hT=>?_
 rw [Cb]
 constructor
 ·intro e x hx
  have e1:φ (D.map (h S))=φ (D.map (h T)):=congrArg Prod.fst e
  have e2:decide (h S d=c d)=decide (h T d=c d):=congrArg Prod.snd e
  rcases Kao.mp hx with hx|hx
  ·exact Cb.mp (i1 _ (KaA hS) _ (KaA hT) e1) x hx
  ·rw [Kak.mp hx]
   revert e2
   cases h S d <;> cases h T d <;> cases c d <;> simp
 ·intro e
  show (φ (D.map (h S)),decide (h S d=c d))=(φ (D.map (h T)),decide (h T d=c d))
  rw [Cb.mpr λx hx=>e x (Kac _ hx),e d (Kaq _ (Kak.mpr rfl))]
theorem nj {D E:List Int}{d:Int}(e:aD U h D=aD U h E):aD U h (D++[d])=aD U h (E++[d]):=by
 have:=TJ (U:=U) (h:=h) (c:=λ_=>true) D d
 rw [e,TJ] at this
 exact (Ti.mk.inj this).symm
/-- some days tell all apart -/
def y_ (U:List γ)(h:γ->Int->Bool)(D:List Int):Prop:=∀S∈U,∀T∈U,(∀d∈D,h S d=h T d)->S=T
theorem m8 {α β:Type}{f:α->β}:∀{xs:List α},(xs.map f).Nodup->∀x∈xs,∀y∈xs,f x=f y->x=y
 |[],_,x,hx,_,_,_=>by cases hx
 |a::xs,nd,x,hx,y,hy,e=>by
  rw [Kag,KaN] at nd
  rcases Kal.mp hx with hx|hx
  ·rcases Kal.mp hy with hy|hy
   ·rw [hx,hy]
   ·exact absurd (Kav.mpr ⟨y,hy,by rw [<-e,hx]⟩) nd.1
  ·rcases Kal.mp hy with hy|hy
   ·exact absurd (Kav.mpr ⟨x,hx,by rw [e,hy]⟩) nd.1
   ·exact m8 nd.2 x hx y hy e
theorem OF {α β:Type}{f:α->β}:∀{xs:List α},xs.Nodup->(∀x∈xs,∀y∈xs,f x=f y->x=y)->(xs.map f).Nodup
 |[],_,_=>KaI
 |a::xs,nd,hi=>by
  rw [KaN] at nd
  rw [Kag,KaN]
  refine⟨λz=>?_,OF nd.2 λx hx y hy=>hi x (Kab _ hx) y (Kab _ hy)⟩
  obtain⟨y,hy,e⟩:=Kav.mp z
  exact nd.1 (hi y (Kab _ hy) a Kaa e ▸ hy)
theorem xm (n:Nat):(rng 0 (n:Int)).Nodup:=by
 rw [yV]
 exact OF List.nodup_range λx _ y _ e=>Int.ofNat.inj e
theorem OC (nd:U.Nodup){D:List Int}:aD U h D=rng 0 ((U.length:Nat):Int)↔y_ U h D:=by
 constructor
 ·intro e S hS T hT hd
  obtain⟨φ,e1,_⟩:=K5 (U.map λS=>D.map (h S))
  have e2:aD U h D=U.map λS=>φ (D.map (h S)):=by
   show fJ (U.map λS=>D.map (h S))=_
   rw [e1,KaE];rfl
  refine m8 (f:=λS=>φ (D.map (h S))) (by rw [<-e2,e];exact xm _) S hS T hT ?_
  show φ _=φ _
  rw [Cb.mpr hd]
 ·intro t
  show fJ (U.map λS=>D.map (h S))=_
  rw [tu _ (OF nd λS hS T hT e=>t S hS T hT (Cb.mp e)),Kaf]
theorem qF:aD U h []=Kah U.length 0:=wX U []
def rY (U:List γ)(h:γ->Int->Bool)(E:List Int):Prop:=∀(A:List Int) (d:Int) (B:List Int),E=A++d::B->aD U h (A++[d])≠aD U h A
theorem rY.nil:rY U h []:=λA d B e=>by cases A <;> cases e
theorem rY.left {E:List Int}{d:Int}(z:rY U h (E++[d])):rY U h E/\aD U h (E++[d])≠aD U h E:=⟨λA x B e=>z A x (B++[d]) (by rw [e];simp),z E d [] rfl⟩
theorem rY.add {E:List Int}{d:Int}(z:rY U h E)(hd:aD U h (E++[d])≠aD U h E):rY U h (E++[d]):=λA x B e=>by
 rcases KcB B with rfl|⟨B',y,rfl⟩
 ·have:E=A/\d=x:=by
   have:=Kc5 e rfl
   exact⟨this.1,by have:=this.2;simp at this;exact this⟩
  rw [<-this.1,<-this.2];exact hd
 ·have e2:E++[d]=(A++x::B')++[y]:=by rw [e];simp
  have:=Kc5 e2 rfl
  exact z A x B' this.1
theorem snoc_ind {α:Type}{p:List α->Prop}(h0:p [])(h1:∀xs x,p xs->p (xs++[x]))(xs:List α):p xs:=by
 have:∀ys:List α,p ys.reverse:=by
  intro ys
  induction ys with
  |nil=>exact h0
  |cons y ys ih=>rw [KbF];exact h1 _ _ ih
 rw [<-List.reverse_reverse xs];exact this _
/-- MM of some days dF part some lot -/
theorem Gb (D:List Int):∃E:List Int,E.Sublist D/\rY U h E/\aD U h E=aD U h D:=by
 refine snoc_ind (p:=λD=>∃E:List Int,E.Sublist D/\rY U h E/\aD U h E=aD U h D) ⟨[],.slnil,rY.nil,rfl⟩ (λD d ⟨E,s,k,e⟩=>?_) D
 have e2:aD U h (E++[d])=aD U h (D++[d]):=nj e
 by_cases q:aD U h (E++[d])=aD U h E
 ·exact⟨E,s.trans (List.sublist_append_left _ _),k,by rw [<-e2,q]⟩
 ·exact⟨E++[d],s.append (Ka0.refl _),k.add q,e2⟩
/-- how many pairs are alike on some days -/
def vh (U:List γ)(h:γ->Int->Bool)(E:List Int):Nat:=((U.flatMap λS=>U.map λT=>(S,T)).filter λp=>decide (∀d∈E,h p.1 d=h p.2 d)).length
theorem Cf:∀E:List Int,rY U h E->E.length+vh U h E<=U.length*U.length:=by
 refine snoc_ind ?_ λE d ih k=>?_
 ·intro _
  unfold vh
  refine Kaw (show 0+_<=_ from by rw [Kca];exact KaX _ _) ?_
  rw [KcJ]
  have:∀V:List γ,(V.map λS=>(U.map λT=>(S,T)).length).sum=V.length*U.length:=by
   intro V
   induction V with
   |nil=>rw [Kbu,Nat.zero_mul];rfl
   |cons a V ih=>rw [Kag,List.sum_cons,ih,Kaf,Kad,KbA];omega
  rw [this];exact Kap _
 ·obtain⟨k1,k2⟩:=k.left
  have:=ih k1
  have lt:vh U h (E++[d])<vh U h E:=by
   have hx:∃S∈U,∃T∈U,(∀x∈E,h S x=h T x)/\h S d≠h T d:=by
    apply Classical.byContradiction
    intro q
    refine k2 (qG.mpr λS hS T hT=>⟨λz x hx=>z x (Kac _ hx),λz x hx=>?_⟩)
    rcases Kao.mp hx with hx|hx
    ·exact z x hx
    ·rw [Kak.mp hx]
     apply Classical.byContradiction
     intro ne
     exact q ⟨S,hS,T,hT,z,ne⟩
   obtain⟨S,hS,T,hT,z,ne⟩:=hx
   have gen:∀l:List (γ×γ),(S,T)∈l->(l.filter λp=>decide (∀x∈E++[d],h p.1 x=h p.2 x)).length<(l.filter λp=>decide (∀x∈E,h p.1 x=h p.2 x)).length:=by
    have le:∀l:List (γ×γ),(l.filter λp=>decide (∀x∈E++[d],h p.1 x=h p.2 x)).length<=(l.filter λp=>decide (∀x∈E,h p.1 x=h p.2 x)).length:=by
     intro l
     induction l with
     |nil=>exact Kap _
     |cons a l Ql=>
      by_cases q:∀x∈E++[d],h a.1 x=h a.2 x
      ·rw [KaW (by exact decide_eq_true q),KaW (by exact decide_eq_true λx hx=>q x (Kac _ hx)),Kad,Kad];omega
      ·rw [KaZ (by simpa using q)]
       refine Kaw Ql ?_
       exact ((Kct a l).filter _).length_le
    intro l hm
    induction l with
    |nil=>cases hm
    |cons a l Ql=>
     rcases Kal.mp hm with e|hm
     ·subst e
      have q:¬∀x∈E++[d],h (S,T).1 x=h (S,T).2 x:=λq=>ne (q d (Kaq _ (Kak.mpr rfl)))
      rw [KaZ (by simpa using q),KaW (by exact decide_eq_true z),Kad]
      have:=le l
      omega
     ·by_cases q:∀x∈E++[d],h a.1 x=h a.2 x
      ·rw [KaW (by exact decide_eq_true q),KaW (by exact decide_eq_true λx hx=>q x (Kac _ hx)),Kad,Kad]
       have:=Ql hm
       omega
      ·rw [KaZ (by simpa using q)]
       exact Ka7 (Ql hm) ((Kct a l).filter _).length_le
   exact gen _ (KbS.mpr ⟨S,hS,Kav.mpr ⟨T,hT,rfl⟩⟩)
  rw [Kan,KaL];omega
end
section
variable {γ:Type}{U:List γ}{h:γ->Int->Bool}{c:Int->Bool}{W:List (Int×Tb)}
/-- bJ ways are MM of days -/
def Lq (U:List γ)(h:γ->Int->Bool)(c:Int->Bool)(W:List (Int×Tb)):Prop:=∀w∈W,w.2=⟨dG U h c w.1⟩
/-- what one list of days and a way make -/
def fM (U:List γ)(h:γ->Int->Bool)(D:List Int)(W:List (Int×Tb)):List TL:=
 (W.filter λw=>decide (aD U h (D++[w.1])≠aD U h D)).map λw=>(⟨aD U h (D++[w.1])⟩,sortI (D++[w.1]))
structure MW (U:List γ)(h:γ->Int->Bool)(W:List (Int×Tb))(k:Nat)(L:LW):Prop where
 nd:(L.map λp=>p.1).Nodup
 snd:∀q∈L,q.1=⟨aD U h q.2⟩/\q.2.length=k/\q.2.Pairwise (·<=·)/\q.2.Nodup/\∀d∈q.2,d∈W.map λw=>w.1
 cmp:∀E:List Int,rY U h E->E.length=k->(∀d∈E,d∈W.map λw=>w.1)->∃v,aN L ⟨aD U h E⟩=some v/\HT.lexLt (sortI E) v=false
theorem B7 {C:List TL}{st:LW}(hb:Bl C st)(hn:U.length<=8)(hC:∀q∈C,∃E,q.1=⟨aD U h E⟩):st.length<100000:=by
 have h1:(st.map λp=>p.1.l).Nodup:=by
  have:=OF (f:=λt:Ti=>t.l) hb.nd λx _ y _ e=>by
   cases x;cases y;cases e;rfl
  rwa [KaE] at this
 have h2:=Ox (ys:=sS U.length) h1 λx hx=>by
  obtain⟨p,hp,rfl⟩:=Kav.mp hx
  obtain⟨E,hE⟩:=hC p (hb.Pd p hp)
  rw [hE]
  have:=wW (U.map λS=>E.map (h S))
  rw [Kaf] at this
  exact this
 rw [Kaf,qi] at h2
 have h3:∀n,n<=8->GB n<=40320:=by decide
 have:=h3 _ hn
 omega
theorem Vv (hn:U.length<=8){D:List Int}(hD:D.length<=1000):∀(W:List (Int×Tb)),Lq U h c W->∀(C:List TL) (st:LW),Bl C st->(∀q∈C,∃E,q.1=⟨aD U h E⟩) ->
  bW (Bt (⟨aD U h D⟩,D)) (M6 (⟨aD U h D⟩,D)) W st/\Bl (C++fM U h D W) (Kas (Bt (⟨aD U h D⟩,D)) st W)
 |[],_,C,st,hb,_=>⟨trivial,by show Bl (C++[]) st;rw [KaC];exact hb⟩
 |w::W,hW,C,st,hb,hC=>by
  have e1:w.2=⟨dG U h c w.1⟩:=hW w Kaa
  have e2:lQ ⟨aD U h D⟩ w.2=⟨aD U h (D++[w.1])⟩:=by rw [e1,TJ]
  have hd:M6 (⟨aD U h D⟩,D) st w:=⟨by
   show (aD U h D).length<90000
   rw [Ac];omega,by
   show (D++[w.1]).length<=100000
   rw [Kan,KaL];omega,B7 hb hn hC⟩
  by_cases q:aD U h (D++[w.1])≠aD U h D
  ·have et:Bt (⟨aD U h D⟩,D) st w=Ic st (⟨aD U h (D++[w.1])⟩,sortI (D++[w.1])):=by
    unfold Bt
    show (if lQ ⟨aD U h D⟩ w.2≠⟨aD U h D⟩ then _ else _)=_
    rw [e2,if_pos (λz=>q (Ti.mk.inj z))];rfl
   have ec:fM U h D (w::W)=(⟨aD U h (D++[w.1])⟩,sortI (D++[w.1]))::fM U h D W:=by
    unfold fM
    rw [KaW (by exact decide_eq_true q),Kag]
   obtain⟨a1,a2⟩:=Vv hn hD W (λx hx=>hW x (Kab _ hx)) (C++[(⟨aD U h (D++[w.1])⟩,sortI (D++[w.1]))]) _ (hb.step _) λx hx=>by
    rcases Kao.mp hx with hx|hx
    ·exact hC x hx
    ·rw [Kak.mp hx];exact⟨_,rfl⟩
   rw [Kay,et,ec]
   refine⟨⟨hd,by rw [et];exact a1⟩,?_⟩
   rw [KaV] at a2
   exact a2
  ·have et:Bt (⟨aD U h D⟩,D) st w=st:=by
    unfold Bt
    show (if lQ ⟨aD U h D⟩ w.2≠⟨aD U h D⟩ then _ else _)=_
    rw [e2,if_neg (λz=>z (by rw [Classical.not_not.mp q]))]
   have ec:fM U h D (w::W)=fM U h D W:=by
    unfold fM
    rw [KaZ (by simpa using q)]
   obtain⟨a1,a2⟩:=Vv hn hD W (λx hx=>hW x (Kab _ hx)) C st hb hC
   rw [Kay,et,ec]
   exact⟨⟨hd,by rw [et];exact a1⟩,a2⟩
theorem pP {D:List Int}{q:TL}(hq:q∈fM U h D W):∃w∈W,aD U h (D++[w.1])≠aD U h D/\q=(⟨aD U h (D++[w.1])⟩,sortI (D++[w.1])):=by
 obtain⟨w,hw,rfl⟩:=Kav.mp hq
 obtain⟨h1,h2⟩:=KaU.mp hw
 exact⟨w,h1,of_decide_eq_true h2,rfl⟩
theorem lq (hn:U.length<=8)(hW:Lq U h c W):∀(L:LW),(∀q∈L,q.1=⟨aD U h q.2⟩/\q.2.length<=1000)->∀(C:List TL) (st:LW),Bl C st->(∀q∈C,∃E,q.1=⟨aD U h E⟩) ->
  bW (JV W) (QS W) L st/\Bl (C++L.flatMap λq=>fM U h q.2 W) (Kas (JV W) st L)
 |[],_,C,st,hb,_=>⟨trivial,by show Bl (C++[]) st;rw [KaC];exact hb⟩
 |q::L,hL,C,st,hb,hC=>by
  obtain⟨p,D⟩:=q
  obtain⟨e,hl⟩:=hL (p,D) Kaa
  have e:p=⟨aD U h D⟩:=e
  subst e
  obtain⟨a1,a2⟩:=Vv hn hl W hW C st hb hC
  obtain⟨b1,b2⟩:=lq hn hW L (λx hx=>hL x (Kab _ hx)) _ _ a2 λx hx=>by
   rcases Kao.mp hx with hx|hx
   ·exact hC x hx
   ·obtain⟨w,_,_,rfl⟩:=pP hx
    exact⟨_,rfl⟩
  rw [Kay,Kcc,<-KaV]
  exact⟨⟨a1,b1⟩,b2⟩
theorem C6 (hU:U≠[]):MW U h W 0 [(⟨Kah U.length 0⟩,[])]:=by
 refine⟨by simp,λq hq=>?_,λE _ hE _=>?_⟩
 ·rw [Kak.mp hq]
  exact⟨by rw [qF],rfl,KcS.nil,KaI,λd hd=>by cases hd⟩
 ·cases E with
  |nil=>
   refine⟨[],?_,OU _⟩
   rw [qF]
   show (if _=_ then some _ else _)=_
   rw [if_pos rfl]
  |cons a E=>cases hE
theorem uM (hn:U.length<=8)(hW:Lq U h c W){k:Nat}(hk:k<=1000){L:LW}(lv:MW U h W k L):vH L W/\MW U h W (k+1) (xE L W):=by
 obtain⟨a1,a2⟩:=lq hn hW L (λq hq=>⟨(lv.snd q hq).1,by rw [(lv.snd q hq).2.1];exact hk⟩) [] [] ⟨KaI,λq hq=>(by cases hq),λq hq=>(by cases hq)⟩ λq hq=>by cases hq
 rw [Ka5] at a2
 refine⟨a1,a2.nd,λq hq=>?_,λE hE hl hd=>?_⟩
 ·obtain⟨p,hp,hq2⟩:=KbS.mp (a2.Pd q hq)
  obtain⟨w,hw,ne,rfl⟩:=pP hq2
  obtain⟨_,s2,s3,s4,s5⟩:=lv.snd p hp
  have pm:=Et (p.2++[w.1])
  have nw:w.1∉p.2:=λz=>ne (qE λd=>by
   rw [Kao,Kak]
   exact⟨λy=>y.elim id (λy=>y ▸ z),.inl⟩)
  refine⟨?_,?_,B5 _,?_,λd hd=>?_⟩
  ·refine congrArg Ti.mk (qE λd=>?_)
   exact pm.symm.mem_iff
  ·show (sortI (p.2++[w.1])).length=_
   rw [Vz,Kan,KaL,s2]
  ·exact pm.symm.nodup (Kaj.mpr ⟨s4,by simp,λa ha b hb z=>nw (by rw [<-Kak.mp hb,<-z];exact ha)⟩)
  ·rcases Kao.mp (pm.mem_iff.mp hd) with hd|hd
   ·exact s5 d hd
   ·rw [Kak.mp hd];exact KaA hw
 ·rcases KcB E with rfl|⟨E',d,rfl⟩
  ·cases hl
  ·rw [List.concat_eq_append] at hE hl hd ⊢
   obtain⟨k1,k2⟩:=hE.left
   have hl':E'.length=k:=by rw [Kan,KaL] at hl;omega
   obtain⟨v,hv,lx⟩:=lv.cmp E' k1 hl' λx hx=>hd x (Kac _ hx)
   have hq:=UZ hv
   obtain⟨s1,s2,s3,s4,s5⟩:=lv.snd _ hq
   have s1:aD U h E'=aD U h v:=Ti.mk.inj s1
   obtain⟨w,hw,ew⟩:=Kav.mp (hd d (Kaq _ (Kak.mpr rfl)))
   have st:aD U h (v++[d])=aD U h (E'++[d]):=(nj s1).symm
   have hc:((⟨aD U h (v++[d])⟩,sortI (v++[d])):TL)∈L.flatMap λq=>fM U h q.2 W:=by
    refine KbS.mpr ⟨_,hq,Kav.mpr ⟨w,KaU.mpr ⟨hw,decide_eq_true ?_⟩,by rw [ew]⟩⟩
    show aD U h (v++[w.1])≠aD U h v
    rw [ew,st,<-s1];exact k2
   obtain⟨v2,hv2,ZU⟩:=a2.NC _ hc
   have hv2:aN (xE L W) ⟨aD U h (v++[d])⟩=some v2:=hv2
   rw [st] at hv2
   refine⟨v2,hv2,Af _ _ _ ZU ?_⟩
   refine BR (by rw [hl',<-s2]) ?_
   rw [rE s3];exact lx
/-- level after level -/
def Ae (W:List (Int×Tb))(L0:LW):Nat->LW
 |0=>L0
 |k+1=>xE (Ae W L0 k) W
theorem rO {C:LW->Prop}[DecidablePred C]{W:List (Int×Tb)}{d:LW->Prop}{L0:LW}(K:Nat):∀(m j:Nat),j+m=K->(∀k,k<K->C (Ae W L0 k)/\d (Ae W L0 k))->¬C (Ae W L0 K)->∀f,m<f ->
  rT C (λl=>xE l W) (λ_=>True) d f (Ae W L0 j)/\jS C (λl=>xE l W) f (Ae W L0 j)=Ae W L0 K
 |0,j,e,h1,h2,f+1,_=>by
  have e:j=K:=by omega
  subst e
  refine⟨⟨trivial,λz=>absurd z h2⟩,?_⟩
  unfold jS
  rw [if_neg h2]
 |m+1,j,e,h1,h2,f+1,hf=>by
  obtain⟨c1,c2⟩:=h1 j (by omega)
  obtain⟨i1,i2⟩:=rO K m (j+1) (by omega) h1 h2 f (by omega)
  refine⟨⟨trivial,λ_=>⟨c2,i1⟩⟩,?_⟩
  unfold jS
  rw [if_pos c1];exact i2
theorem we {p:Nat->Prop}:∀n,p n->∃k,k<=n/\p k/\∀j,j<k->¬p j:=by
 intro n
 induction n using Nat.strongRecOn with
 |ind n ih=>
  intro h
  by_cases q:∃j,j<n/\p j
  ·obtain⟨j,hj,pj⟩:=q
   obtain⟨k,h1,h2,h3⟩:=ih j hj pj
   exact⟨k,by omega,h2,h3⟩
  ·exact⟨n,Kap _,h,λj hj pj=>q ⟨j,hj,pj⟩⟩
/-- bJ first shortest list of days dF tells all -/
structure Fi (U:List γ)(h:γ->Int->Bool)(W:List (Int×Tb))(D:List Int):Prop where
 srt:D.Pairwise (·<·)
 len:D.length<=64
 way:∀d∈D,d∈W.map λw=>w.1
 Xu:y_ U h D
 few:∀E:List Int,(∀d∈E,d∈W.map λw=>w.1)->y_ U h E->D.length<=E.length
 fst:∀E:List Int,E.Pairwise (·<=·)->(∀d∈E,d∈W.map λw=>w.1)->y_ U h E->E.length=D.length->HT.lexLt E D=false
theorem qD (nd:U.Nodup)(hU:U≠[])(hn:U.length<=8)(hW:Lq U h c W)(all:y_ U h (W.map λw=>w.1)){L0:LW}(e0:L0=[(⟨Kah U.length 0⟩,[])]){sg:Ti}(es:sg=⟨rng 0 ((U.length:Nat):Int)⟩):
  ∃D,rT (λl:LW=>¬((aN l sg).isSome=true)) (λl=>xE l W) (λ_=>True) (λl=>vH l W) mY L0 /\
   aN (jS (λl:LW=>¬((aN l sg).isSome=true)) (λl=>xE l W) mY L0) sg=some D/\Fi U h W D:=by
 subst e0 es
 generalize hL:([(⟨Kah U.length 0⟩,[])]:LW)=L0
 have lv:∀k,k<=1000->MW U h W k (Ae W L0 k):=by
  intro k
  induction k with
  |zero=>intro _;rw [<-hL];exact C6 hU
  |succ k ih=>intro hk;exact (uM hn hW (by omega) (ih (by omega))).2
 -- what a chain dF tells all Cp
 have hit:∀E:List Int,rY U h E->(∀d∈E,d∈W.map λw=>w.1)->y_ U h E->E.length<=64/\∃v,aN (Ae W L0 E.length) ⟨rng 0 ((U.length:Nat):Int)⟩=some v/\HT.lexLt (sortI E) v=false:=λE k hd t=>by
  have h1:=Cf E k
  have h2:U.length*U.length<=8*8:=Nat.mul_le_mul hn hn
  have hl:E.length<=64:=by omega
  refine⟨hl,?_⟩
  have:=(lv E.length (by omega)).cmp E k rfl hd
  rwa [(OC nd).mpr t] at this
 have red:∀E:List Int,(∀d∈E,d∈W.map λw=>w.1)->y_ U h E->∃E':List Int,E'.Sublist E/\rY U h E'/\(∀d∈E',d∈W.map λw=>w.1)/\y_ U h E':=λE hd t=>by
  obtain⟨E',s,k,e⟩:=Gb (U:=U) (h:=h) E
  refine⟨E',s,k,λd hd2=>hd d (s.subset hd2),(OC nd).mp ?_⟩
  rw [e];exact (OC nd).mpr t
 obtain⟨E0,_,k0,d0,t0⟩:=red _ (λ_ z=>z) all
 obtain⟨l0,v0,ZP,_⟩:=hit E0 k0 d0 t0
 obtain⟨K,K1,K2,K3⟩:=we (p:=λk=>(aN (Ae W L0 k) ⟨rng 0 ((U.length:Nat):Int)⟩).isSome=true) E0.length (by show KaQ _=true;rw [ZP];rfl)
 obtain⟨D,hD⟩:=Kbg.mp K2
 obtain⟨s1,s2,s3,s4,s5⟩:=(lv K (by omega)).snd _ (UZ hD)
 obtain⟨w1,w2⟩:=rO (C:=λl:LW=>¬((aN l ⟨rng 0 ((U.length:Nat):Int)⟩).isSome=true)) (W:=W) (d:=λl=>vH l W) (L0:=L0) K K 0 (by omega) (λk hk=>⟨K3 k hk,(uM hn hW (by omega) (lv k (by omega))).1⟩) (λz=>z K2) mY (by show K<1000;omega)
 have tD:y_ U h D:=(OC nd).mp (Ti.mk.inj s1).symm
 refine⟨D,w1,by rw [show L0=Ae W L0 0 from rfl,w2];exact hD,?_,by rw [s2];omega,s5,tD,?_,?_⟩
 ·have:∀l:List Int,l.Pairwise (·<=·)->l.Nodup->l.Pairwise (·<·):=by
   intro l
   induction l with
   |nil=>intro _ _;exact .nil
   |cons a l ih=>
    intro p n
    rw [KaS] at p
    rw [KaN] at n
    refine KaS.mpr ⟨λb hb=>?_,ih p.2 n.2⟩
    have:=p.1 b hb
    have:a≠b:=λz=>n.1 (z ▸ hb)
    omega
  exact this D s3 s4
 ·intro E hd t
  obtain⟨E',s,k,d',t'⟩:=red E hd t
  obtain⟨_,v,hv,_⟩:=hit E' k d' t'
  have:¬E'.length<K:=λz=>K3 _ z (by rw [hv];rfl)
  have:=s.length_le
  rw [s2];omega
 ·intro E srt hd t hl
  obtain⟨E',s,k,d',t'⟩:=red E hd t
  obtain⟨_,v,hv,lx⟩:=hit E' k d' t'
  have h1:¬E'.length<K:=λz=>K3 _ z (by rw [hv];rfl)
  have h2:=s.length_le
  have e:E'=E:=s.eq_of_length (by rw [s2] at hl;omega)
  subst e
  rw [hl,s2,hD] at hv
  cases hv
  rw [rE srt] at lx
  exact lx
end
def aS (S:DS)(d:Int):Bool:=aA S d.toNat
/-- bJ ways in which days part some sets -/
structure yd (U:List DS)(A:DS)(N:Nat)(W:List (Int×Tb)):Prop where
 way:∀w∈W,0<=w.1/\w.1<N/\w.2=⟨dG U aS (aS A) w.1⟩/\∃B∈U,aS B w.1≠aS A w.1
 XI:(W.map λw=>w.1).Pairwise (·<·)
 all:∀d:Int,0<=d->d<N->(∃B∈U,aS B d≠aS A d)->∃w∈W,w.2=⟨dG U aS (aS A) d⟩/\w.1<=d
theorem vc {U:List DS}{A:DS}{d:Int}:KbJ (dG U aS (aS A) d) id=true↔¬∃B∈U,aS B d≠aS A d:=by
 unfold dG
 rw [Kbz,Kbs]
 constructor
 ·rintro h ⟨B,hB,ne⟩
  exact ne (of_decide_eq_true (h B hB))
 ·intro h B hB
  refine decide_eq_true ?_
  apply Classical.byContradiction
  intro ne
  exact h ⟨B,hB,ne⟩
theorem fZ {F M:Nat}(m0:0<M)(hM:2*F+2*M<=90000){A:DS}{R:List DS}(hs:∀S∈A::R,bZ F M (aA S) S)(hl:(A::R).length<=1000):∃N:Nat,N<=F+M/\(∀S∈A::R,∀T∈A::R,(∀d,d<N->aA S d=aA T d)->∀d,aA S d=aA T d)/\yd (A::R) A N (jR (A::R)):=by
 obtain⟨t1,N,t2,t3,t4⟩:=VA m0 (by omega) hs
 refine⟨N,t3,t4,?_⟩
 unfold jR
 simp only [lt_eq]
 rw [t2]
 have rows:Kai (λ(x1:DS)=>FP (iF x1) (N:Int)) (A::R)=(A::R).map λS=>(KaG N).map λd=>b2i (aA S d):=Kau λS hS=>(Va (hs S hS) (n:=N) (by omega)).2
 rw [rows]
 have g0:au ((A::R).map λS=>(KaG N).map λd=>b2i (aA S d)) (0:Int)=(KaG N).map λd=>b2i (aA A d):=m5 _ _
 have Xv:∀x:Int,0<=x->x<N->(Kai (λ(x3:List Int)=>(decide ((au x3 x)=(au (au ((A::R).map λS=>(KaG N).map λd=>b2i (aA S d)) (0:Int)) x)))) ((A::R).map λS=>(KaG N).map λd=>b2i (aA S d)))=dG (A::R) aS (aS A) x:=by
  intro x x0 x1
  rw [g0,KaE]
  refine Kau λS _=>?_
  show decide (au ((KaG N).map λd=>b2i (aA S d)) x=_)=_
  rw [Po _ x0 x1,Po _ x0 x1]
  rw [Kbq,decide_eq_true_iff,decide_eq_true_iff,yH];exact Iff.rfl
 generalize hrw:((A::R).map λS=>(KaG N).map λd=>b2i (aA S d))=uY at *
 have key:∀n:Nat,n<=N->∀st,st=Kas (tZ uY) (([]:List (Tb×Int)),([]:List (Int×Tb))) ((KaG n).map λ(k:Nat)=>(k:Int))->yd (A::R) A n st.2/\∀t:Tb,(aN st.1 t).isSome=true↔∃w∈st.2,w.2=t:=by
  intro n
  induction n with
  |zero=>
   intro _ st e
   subst e
   exact⟨⟨λw hw=>(by cases hw),KcS.nil,λd d0 d1=>by omega⟩,λt=>⟨λh=>(by cases h),λ⟨w,hw,_⟩=>by cases hw⟩⟩
  |succ n ih=>
   intro hn st e
   obtain⟨p,q⟩:=ih (by omega) _ rfl
   rw [Kb3,KaH,List.foldl_append] at e
   generalize Kas (tZ uY) (([]:List (Tb×Int)),([]:List (Int×Tb))) ((KaG n).map λ(k:Nat)=>(k:Int))=s0 at *
   have ht:=Xv (n:Int) (by omega) (by omega)
   have e:st=tZ uY s0 (n:Int):=e
   have et:st=if (¬((KbJ (dG (A::R) aS (aS A) (n:Int)) id)=true))/\(¬(KaQ (aN s0.1 (Tb.mk (dG (A::R) aS (aS A) (n:Int))))=true)) then ((Tb.mk (dG (A::R) aS (aS A) (n:Int)),(n:Int))::s0.1,s0.2++[((n:Int),Tb.mk (dG (A::R) aS (aS A) (n:Int)))]) else s0:=by
    rw [e]
    unfold tZ
    rw [lt_eq,ht];rfl
   by_cases c:(¬((KbJ (dG (A::R) aS (aS A) (n:Int)) id)=true))/\(¬(KaQ (aN s0.1 (Tb.mk (dG (A::R) aS (aS A) (n:Int))))=true))
   ·rw [if_pos c] at et
    subst et
    have Rz:∃B∈A::R,aS B (n:Int)≠aS A (n:Int):=Classical.not_not.mp λz=>c.1 (vc.mpr z)
    refine⟨⟨λw hw=>?_,?_,λd d0 d1 hd=>?_⟩,λt=>?_⟩
    ·rcases Kao.mp hw with hw|hw
     ·obtain⟨a,b,d,f⟩:=p.way w hw
      exact⟨a,by omega,d,f⟩
     ·rw [Kak.mp hw]
      exact⟨by show (0:Int)<=(n:Int);omega,by show (n:Int)<((n+1:Nat):Int);omega,rfl,Rz⟩
    ·show ((s0.2++[_]).map _).Pairwise _
     rw [KaH]
     refine KcC.mpr ⟨p.XI,by simp,λa ha b hb=>?_⟩
     obtain⟨w,hw,rfl⟩:=Kav.mp ha
     have h1:=(p.way w hw).2.1
     have:b=(n:Int):=by simpa using hb
     rw [this];exact h1
    ·by_cases e2:d=(n:Int)
     ·rw [e2]
      exact⟨_,Kaq _ (Kak.mpr rfl),rfl,Kbw _⟩
     ·obtain⟨w,hw,h2⟩:=p.all d d0 (by omega) hd
      exact⟨w,Kac _ hw,h2⟩
    ·show (aN ((Tb.mk (dG (A::R) aS (aS A) (n:Int)),(n:Int))::s0.1) t).isSome=true↔_
     show (if Tb.mk (dG (A::R) aS (aS A) (n:Int))=t then some (n:Int) else aN s0.1 t).isSome=true↔_
     by_cases e2:Tb.mk (dG (A::R) aS (aS A) (n:Int))=t
     ·rw [if_pos e2]
      exact⟨λ_=>⟨_,Kaq _ (Kak.mpr rfl),e2⟩,λ_=>rfl⟩
     ·rw [if_neg e2,q t]
      constructor
      ·rintro⟨w,hw,ew⟩;exact⟨w,Kac _ hw,ew⟩
      ·rintro⟨w,hw,ew⟩
       rcases Kao.mp hw with hw|hw
       ·exact⟨w,hw,ew⟩
       ·rw [Kak.mp hw] at ew;exact absurd ew e2
   ·rw [if_neg c] at et
    subst et
    refine⟨⟨λw hw=>?_,p.XI,λd d0 d1 hd=>?_⟩,q⟩
    ·obtain⟨a,b,d,f⟩:=p.way w hw
     exact⟨a,by omega,d,f⟩
    ·by_cases e2:d=(n:Int)
     ·rw [e2] at hd ⊢
      have na:¬((KbJ (dG (A::R) aS (aS A) (n:Int)) id)=true):=λz=>vc.mp z hd
      have sm:(aN st.1 (Tb.mk (dG (A::R) aS (aS A) (n:Int)))).isSome=true:=Classical.not_not.mp λz=>c ⟨na,z⟩
      obtain⟨w,hw,ew⟩:=(q _).mp sm
      exact⟨w,hw,ew,by have:=(p.way w hw).2.1;omega⟩
     ·exact p.all d d0 (by omega) hd
 have:=(key N (Kap _) _ rfl).1
 rw [yV]
 exact this
theorem vg {F M:Nat}(hb:F+M<=98000){sets:List DS}(hs:∀S∈sets,bZ F M (aA S) S)(hl:sets.length<=1000):rS sets/\dN sets=dN (sets.map dz):=by
 have key:∀(xs st:List DS),(∀S∈xs,bZ F M (aA S) S)->st.length+xs.length<=1000->bW iZ IA xs st/\Kas iZ st xs=Kas iZ st (xs.map dz):=by
  intro xs
  induction xs with
  |nil=>intro st _ _;exact⟨trivial,rfl⟩
  |cons x xs ih=>
   intro st hx hlen
   rw [Kad] at hlen
   obtain⟨l1,l2⟩:=Ge (hx x Kaa) hb
   have r2:=l2.rep hb
   obtain⟨m1,m2⟩:=Ge r2 hb
   have e:dz (dz x)=dz x:=m2.uniq l2 hb hb
   have et:iZ st x=iZ st (dz x):=by
    unfold iZ
    simp only [lt_eq,e]
   have lt1:(iZ st x).length<=st.length+1:=by
    unfold iZ
    simp only [lt_eq]
    split
    ·rw [Kan];exact Kap _
    ·omega
   obtain⟨a1,a2⟩:=ih (iZ st x) (λS hS=>hx S (Kab _ hS)) (by omega)
   rw [Kag,Kay,Kay,<-et]
   refine⟨⟨⟨l1,by rw [fg];intro _;omega⟩,a1⟩,a2⟩
 obtain⟨a1,a2⟩:=key sets [] hs (by show 0+_<=_;omega)
 unfold rS dN
 simp only [fg,lt_eq]
 exact⟨a1,a2⟩
theorem xu (xs:List DS):(dN xs).length<=xs.length:=by
 have:∀(xs st:List DS),(Kas iZ st xs).length<=st.length+xs.length:=by
  intro xs
  induction xs with
  |nil=>intro st;exact Kap _
  |cons x xs ih=>
   intro st
   rw [Kay,Kad]
   refine Kaw (ih _) ?_
   have:(iZ st x).length<=st.length+1:=by
    unfold iZ
    simp only [lt_eq]
    split
    ·rw [Kan];exact Kap _
    ·omega
   omega
 have:=this xs []
 rw [Kbu,Kca] at this
 exact this
/-- days dF tell all unlike ones of some sets -/
def PY (sets:List DS)(D:List Int):Prop:=∀S∈sets,∀T∈sets,(∀d∈D,aS S d=aS T d)->∀d,aA S d=aA T d
/-- what fewest_looks tells of some sets -/
structure Fg (N:Nat)(sets:List DS)(D:List Int):Prop where
 srt:D.Pairwise (·<·)
 len:D.length<=64
 rg:∀d∈D,0<=d/\d<N
 Xu:PY sets D
 few:∀E:List Int,(∀d∈E,d∈D)->PY sets E->D.length<=E.length
theorem rM {F M:Nat}{sets:List DS}(h:y9 F M sets):rS sets/\(dN sets).Nodup/\(∀L,L∈dN sets↔∃S∈sets,dz S=L)/\(∀L∈dN sets,bZ F M (aA L) L)/\(∀S∈sets,∀d,aA (dz S) d=aA S d) /\
  (∀L∈dN sets,∀K∈dN sets,(∀d,aA L d=aA K d)->L=K)/\(dN sets).length<=sets.length:=by
 have hb:F+M<=98000:=by have:=h.b;omega
 have ue:∀S∈sets,cE F M (aA S) (dz S):=λS hS=>(Ge (h.r S hS) hb).2
 have hc:∀L∈sets.map dz,∃g,cE F M g L:=λL hL=>by
  obtain⟨S,hS,rfl⟩:=Kav.mp hL
  exact⟨_,ue S hS⟩
 obtain⟨d1,e1⟩:=vg hb h.r h.l
 obtain⟨_,u2,u3⟩:=Vq hb hc (by rw [Kaf];exact h.l)
 have Qx:∀L,L∈dN sets↔∃S∈sets,dz S=L:=λL=>by rw [e1,u3 L,Kav]
 have hs:∀S∈sets,∀d,aA (dz S) d=aA S d:=λS hS=>((ue S hS).rep hb).has
 refine⟨d1,by rw [e1];exact u2,Qx,λL hL=>?_,hs,λL hL K hK e=>?_,xu _⟩
 ·obtain⟨S,hS,rfl⟩:=(Qx L).mp hL
  have r:=(ue S hS).rep hb
  exact⟨r.ok,r.y,r.z,r.m0,λ_=>rfl⟩
 ·obtain⟨S,hS,rfl⟩:=(Qx L).mp hL
  obtain⟨T,hT,rfl⟩:=(Qx K).mp hK
  exact ((ue S hS).congr λd=>by rw [<-hs S hS,<-hs T hT,e d]).uniq (ue T hT) hb hb
theorem zo {F M:Nat}(m0:0<M)(hM:2*F+2*M<=90000){sets:List DS}(h:y9 F M sets)(hl:sets.length<=8):yE sets/\Fg (F+M) sets (BU sets):=by
 obtain⟨u1,nd,mem,rep,has,eqv,bnd⟩:=rM h
 have cs:=fh h.big
 unfold yE BU
 generalize hU:dN sets=U at *
 by_cases c:(((U).length:Nat):Int)<2
 ·rw [if_pos c]
  refine⟨⟨cs,u1,λz=>absurd c z⟩,.nil,Ka2 _,λd hd=>(by cases hd),λS hS T hT _=>?_,λE _ _=>Ka2 _⟩
  have EM:=(mem _).mpr ⟨S,hS,rfl⟩
  have hT2:=(mem _).mpr ⟨T,hT,rfl⟩
  have e:dz S=dz T:=by
   match U,c,EM,hT2 with
   |[x],_,EM,hT2=>rw [Kak.mp EM,Kak.mp hT2]
   |x::y::r,c,_,_=>
    exfalso
    rw [Kad,Kad] at c
    omega
  intro d
  rw [<-has S hS,<-has T hT,e]
 ·rw [if_neg c]
  cases U with
  |nil=>exact absurd (by decide) c
  |cons A R=>
   obtain⟨p1,_⟩:=RS m0 hM rep (by omega)
   obtain⟨N,n1,n2,P⟩:=fZ m0 hM rep (by omega)
   have hW:Lq (A::R) aS (aS A) (jR (A::R)):=λw hw=>(P.way w hw).2.2.1
   have all:y_ (A::R) aS ((jR (A::R)).map λw=>w.1):=by
    intro S hS T hT e
    refine eqv S hS T hT (n2 S hS T hT λd hd=>?_)
    apply Classical.byContradiction
    intro ne
    have Rz:∃B∈A::R,aS B (d:Int)≠aS A (d:Int):=by
     by_cases q:aS S (d:Int)=aS A (d:Int)
     ·exact⟨T,hT,λz=>ne (by
       have h1:aA S d=aA A d:=q
       have h2:aA T d=aA A d:=z
       rw [h1,h2])⟩
     ·exact⟨S,hS,q⟩
    obtain⟨w,hw,ew,_⟩:=P.all (d:Int) (by omega) (by omega) Rz
    have e2:=e w.1 (KaA hw)
    have e3:=(P.way w hw).2.2.1.symm.trans ew
    have e4:dG (A::R) aS (aS A) w.1=dG (A::R) aS (aS A) (d:Int):=Tb.mk.inj e3
    have e5:=KbI.mp e4
    have s1:=e5 S hS
    have s2:=e5 T hT
    rw [e2] at s1
    have s3:decide (aS S (d:Int)=aS A (d:Int))=decide (aS T (d:Int)=aS A (d:Int)):=s1.symm.trans s2
    refine ne ?_
    show aS S (d:Int)=aS T (d:Int)
    revert s3
    cases aS S (d:Int) <;> cases aS T (d:Int) <;> cases aS A (d:Int) <;> simp
   obtain⟨D,w1,w2,lk⟩:=qD (L0:=Gy (A::R)) (sg:=vW (A::R)) nd (by simp) (by omega) hW all (by unfold Gy;rw [Kaz]) rfl
   have eD:aN (GL (A::R)) (vW (A::R))=some D:=w2
   have sub:∀E:List Int,PY sets E->y_ (A::R) aS E:=λE t L hL K hK e=>by
    obtain⟨S,hS,rfl⟩:=(mem L).mp hL
    obtain⟨T,hT,rfl⟩:=(mem K).mp hK
    refine eqv _ hL _ hK λd=>?_
    rw [has S hS,has T hT]
    refine t S hS T hT (λx hx=>?_) d
    have:=e x hx
    show aA S x.toNat=aA T x.toNat
    rw [<-has S hS,<-has T hT];exact this
   rw [eD]
   refine⟨⟨cs,u1,λ_=>⟨p1,by omega,w1,rfl⟩⟩,lk.srt,lk.len,λd hd=>?_,λS hS T hT e d=>?_,λE hE t=>?_⟩
   ·obtain⟨w,hw,rfl⟩:=Kav.mp (lk.way d hd)
    have:=P.way w hw
    omega
   ·have:=lk.Xu _ ((mem _).mpr ⟨S,hS,rfl⟩) _ ((mem _).mpr ⟨T,hT,rfl⟩) λx hx=>by
     show aA (dz S) x.toNat=aA (dz T) x.toNat
     rw [has S hS,has T hT];exact e x hx
    rw [<-has S hS,<-has T hT,this]
   ·exact lk.few E (λd hd=>lk.way d (hE d hd)) (sub E t)
theorem wO {F M:Nat}{sets:List DS}{ns:bL}(h:y9 F M sets)(hM:2*F+2*M<=90000)(m0:0<M)(hn:Fl ns){d:Int}(hd:oW sets ns=some d):0<=d/\d<(F+M:Nat)/\∃S∈bS sets ns,∃T∈bS sets ns,aS S d≠aS T d:=by
 have hb:F+M<=98000:=by omega
 obtain⟨_,f2⟩:=p_ h.big h.l hn λS hS=>(Ge (h.r S hS) hb).1
 have hf:y9 F M (bS sets ns):=⟨λS hS=>h.r S (VN S hS),h.b,Kaw (KaX _ _) h.l⟩
 obtain⟨u1,nd,mem,rep,has,eqv,bnd⟩:=rM hf
 have e1:=(vg hb hf.r hf.l).2
 unfold oW at hd
 simp only [lt_eq] at hd
 rw [f2,<-e1] at hd
 generalize dN (bS sets ns)=U at *
 by_cases c:((U.length:Nat):Int)<2
 ·rw [if_pos c] at hd;cases hd
 ·rw [if_neg c] at hd
  have hd:=Option.some.inj hd
  cases U with
  |nil=>exact absurd (by decide) c
  |cons A R=>
   have Jw:(A::R).length<=1000:=Kaw bnd hf.l
   obtain⟨N,n1,n2,P⟩:=fZ m0 hM rep Jw
   obtain⟨_,p2⟩:=RS m0 hM rep Jw
   have hR:∃B∈R,∃d,aA B d≠aA A d:=by
    cases R with
    |nil=>exact absurd (show (((1:Nat):Int))<2 by decide) c
    |cons B R=>
     refine⟨B,Kaa,?_⟩
     apply Classical.byContradiction
     intro q
     have:B=A:=eqv B (Kab _ Kaa) A Kaa λd=>Classical.byContradiction λz=>q ⟨d,z⟩
     rw [KaN] at nd
     exact nd.1 (this ▸ Kaa)
   have ne:=p2 hR
   have key:∀(W:List (Int×Tb)) (b:Option (Int×Int)),(Kas sG b W=b/\(b=none->W=[]))∨∃w∈W,∃x,Kas sG b W=some (x,w.1):=by
    intro W
    induction W with
    |nil=>intro b;exact .inl ⟨rfl,λ_=>rfl⟩
    |cons w W ih=>
     intro b
     rw [Kay]
     have st:sG b w=some (IP w.2,w.1)∨(sG b w=b/\b≠none):=by
      unfold sG
      simp only [lt_eq]
      split
      ·exact .inl rfl
      ·rename_i q
       exact .inr ⟨rfl,λz=>q (.inl z)⟩
     rcases ih (sG b w) with⟨h1,h2⟩|⟨v,hv,x,hx⟩
     ·rcases st with e|⟨e,e2⟩
      ·exact .inr ⟨w,Kaa,_,by rw [h1,e]⟩
      ·exact .inl ⟨by rw [h1,e],λz=>absurd z e2⟩
     ·exact .inr ⟨v,Kab _ hv,x,hx⟩
   rcases key (jR (A::R)) none with⟨_,q⟩|⟨w,hw,x,hx⟩
   ·exact absurd (q rfl) ne
   ·rw [hx] at hd
    have hd:w.1=d:=hd
    obtain⟨a,b,_,B,hB,ne⟩:=P.way w hw
    rw [hd] at a b ne
    obtain⟨S,hS,eS⟩:=(mem B).mp hB
    obtain⟨T,hT,eT⟩:=(mem A).mp Kaa
    refine⟨a,by omega,S,hS,T,hT,?_⟩
    show aA S d.toNat≠aA T d.toNat
    rw [<-has S hS,<-has T hT,eS,eT];exact ne
end Pu
namespace Pu
open PySem L2 Enc La
theorem VO (S:DS)(d:Int):vM S d=iy S d:=rfl
theorem tF {S:DS}(ok:rQ S)(hz:S.z<=98000)(s:Int){a:Nat}(a0:0<a)(ha:a<=98000):IF (s,(a:Int)) S/\BS (s,(a:Int)) S=(max s S.y,((KcX a S.z.toNat:Nat):Int)):=by
 have z1:=ok.z1
 obtain⟨b,hb⟩:=KaR (show 0<=S.z by omega)
 have b0:0<b:=by omega
 have key:=Gg (c:=El) (f:=FH) (dc:=Rm) (d:=Nl)
  (λst=>∃x y:Nat,st=((x:Int),(y:Int))/\Kbc x y=Kbc a b) (λst=>st.2.toNat) (λst hst=>by
   obtain⟨x,y,rfl,e⟩:=hst
   refine⟨trivial,λhc=>?_⟩
   have hy:(0:Int)<(y:Int):=hc
   refine⟨hy,⟨y,x % y,?_,?_⟩,?_⟩
   ·show ((y:Int),(x:Int) % (y:Int))=_
    rw [<-Kbn]
   ·rw [<-e,KcA y (x % y),<-Kc6,KcA]
   ·show ((x:Int) % (y:Int)).toNat<(y:Int).toNat
    rw [<-Kbn]
    simp only [Kaz]
    exact KbH _ (by omega)) fuel ((a:Int),(b:Int)) ⟨a,b,rfl,rfl⟩ (by unfold fuel;simp;omega)
 obtain⟨k1,⟨x,y,e,eg⟩,k3⟩:=key
 have hy:y=0:=by
  rw [e] at k3
  have k4:¬(0:Int)<(y:Int):=k3
  omega
 have g0:0<Kbc a b:=Kcf _ b0
 have g1:Kbc a b<=b:=Nat.gcd_le_right _ b0
 have ex:(jS El FH fuel ((a:Int),(b:Int))).1=((Kbc a b:Nat):Int):=by
  rw [e,<-eg,hy];simp
 unfold IF BS
 simp only [fg,lt_eq]
 rw [hb,ex]
 refine⟨⟨k1,.inl (by omega),by omega,by omega⟩,?_⟩
 rw [Kaz,<-Kbv,GK];rfl
structure Ph (M:Nat)(s l:Int)(sets:List DS):Prop where
 s0:0<=s
 s1:s<=72
 l1:1<=l
 dv:l.toNat∣M
 r:∀S∈sets,S.y<=s/\S.z.toNat∣l.toNat
theorem lA {M:Nat}(m0:0<M)(hM:M<=98000):∀(sets done:List DS) (s l:Int),(∀S∈sets,bZ 72 M (aA S) S)->Ph M s l done->bW BS IF sets (s,l)/\Ph M (Kas BS (s,l) sets).1 (Kas BS (s,l) sets).2 (done++sets)
 |[],done,s,l,_,h=>⟨trivial,by rw [KaC];exact h⟩
 |S::sets,done,s,l,hs,h=>by
  have hS:=hs S Kaa
  have z1:=hS.ok.z1
  have zM:=hS.zM
  have yM:=hS.y
  have l1:=h.l1
  have lM:=KaF m0 h.dv
  obtain⟨a,ha⟩:=KaR (show 0<=l by omega)
  subst ha
  obtain⟨t1,t2⟩:=tF hS.ok (by omega) s (a:=a) (by omega) (by omega)
  have n:Ph M (max s S.y) ((KcX a S.z.toNat:Nat):Int) (done++[S]):=by
   have s0:=h.s0
   have s1:=h.s1
   refine⟨by omega,by omega,?_,?_,λT hT=>?_⟩
   ·have:0<KcX a S.z.toNat:=Nat.lcm_pos (by omega) (by omega)
    omega
   ·rw [Kaz]
    exact Nat.lcm_dvd (by have:=h.dv;rwa [Kaz] at this) hS.z
   ·rcases Kao.mp hT with z|z
    ·obtain⟨u1,u2⟩:=h.r T z
     rw [Kaz] at u2 ⊢
     exact⟨by omega,KaY u2 (Kc4 _ _)⟩
    ·rw [Kak.mp z,Kaz]
     exact⟨by omega,KcY _ _⟩
  obtain⟨q1,q2⟩:=lA m0 hM sets (done++[S]) _ _ (λT hT=>hs T (Kab _ hT)) n
  rw [Kay,t2]
  refine⟨⟨t1,by rw [t2];exact q1⟩,?_⟩
  rw [KaV] at q2
  exact q2
theorem lB {M:Nat}(m0:0<M)(hM:M<=98000){sets:List DS}(hs:∀S∈sets,bZ 72 M (aA S) S):yr sets/\Ph M (pN sets).1 (pN sets).2 sets:=by
 obtain⟨a,b⟩:=lA m0 hM sets [] 0 1 hs ⟨by omega,by omega,by omega,⟨M,by simp⟩,λS hS=>by cases hS⟩
 exact⟨a,b⟩
def bT (N:Nat)(f:Nat->Bool):List Bool:=(KaG N).map f
theorem rf (N:Nat)(f:Nat->Bool):(bT N f).length=N:=by unfold bT;simp
theorem AV {N:Nat}{f:Nat->Bool}{i:Int}(h0:0<=i)(h1:i<N):au (bT N f) i=f i.toNat:=by
 obtain⟨k,rfl⟩:=KaR h0
 unfold bT
 rw [IZ,Ka4,KbW (by omega)];rfl
theorem CP (S:DS){n:Int}(n0:0<=n):Kai (λ(x2:Int)=>(vM S x2)) (rng 0 n)=bT n.toNat (aA S):=by
 rw [show n=((n.toNat:Nat):Int) by omega,yV,KaE,Kaz]
 refine Kau λk _=>?_
 show vM S (k:Int)=_
 rw [VO,B3 S (by omega)];rfl
abbrev aE (N:Nat)(n5:List DS):List (List Bool):=n5.map λS=>bT N (aA S)
theorem rm {M:Nat}(m0:0<M)(hM:M<=5040){sets:List DS}(hs:∀S∈sets,bZ 72 M (aA S) S)(hl:sets.length<=1000):xN sets/\IW sets=aE ((pN sets).1+(pN sets).2).toNat sets:=by
 obtain⟨a,b⟩:=lB m0 (by omega) hs
 have s0:=b.s0
 have s1:=b.s1
 have l1:=b.l1
 have lM:=KaF m0 b.dv
 unfold xN IW
 simp only [fg,lt_eq]
 generalize pN sets=r at *
 have lr:=xO 0 (r.1+r.2)
 refine⟨⟨a,λS hS=>⟨⟨by omega,by omega⟩,λx _=>KA (hs S hS).ok x,by omega⟩,by omega⟩,?_⟩
 exact Kau λS _=>CP S (by omega)
/-- bJ indexes of some sets -/
def ixs (sets:List DS)(p:DS->Bool):List Int:=((aT 0 sets).filter λx=>p x.2).map λx=>x.1
theorem Wq {α:Type}:∀(xs:List α) (k:Int) (x:α),x∈xs->∃y∈aT k xs,y.2=x
 |a::xs,k,x,h=>by
  rcases Kal.mp h with e|e
  ·exact⟨(k,a),Kaa,e.symm⟩
  ·obtain⟨y,hy,ey⟩:=Wq xs (k+1) x e
   exact⟨y,Kab _ hy,ey⟩
theorem Jc {α:Type}[Inhabited α]{xs:List α}{x:Int×α}(h:x∈aT 0 xs):au xs x.1=x.2:=UT xs [] x h
theorem Pr {sets:List DS}{p:DS->Bool}{i:Int}:i∈ixs sets p↔0<=i/\i<(sets.length:Int)/\p (au sets i)=true:=by
 constructor
 ·intro h
  obtain⟨x,hx,rfl⟩:=Kav.mp h
  obtain⟨h1,h2⟩:=KaU.mp hx
  have:=By sets 0 x h1
  rw [Jc h1]
  exact⟨by omega,by omega,h2⟩
 ·rintro⟨h0,h1,h2⟩
  have key:∀(xs:List DS) (k:Int) (j:Nat),(hj:j<xs.length)->(k+(j:Int),xs[j])∈aT k xs:=by
   intro xs
   induction xs with
   |nil=>intro k j hj;exact absurd hj (Nat.not_lt_zero _)
   |cons a xs ih=>
    intro k j hj
    cases j with
    |zero=>exact Kal.mpr (.inl (by simp))
    |succ j=>
     refine Kab _ ?_
     have:=ih (k+1) j (by simpa using hj)
     rw [show k+((j+1:Nat):Int)=k+1+(j:Int) by omega]
     exact this
  obtain⟨j,rfl⟩:=KaR h0
  have hj:j<sets.length:=by omega
  have hm:=key sets 0 j hj
  have hg:=Jc hm
  refine Kav.mpr ⟨_,KaU.mpr ⟨hm,?_⟩,by show 0+(j:Int)=j;omega⟩
  have hg:au sets (0+(j:Int))=sets[j]:=hg
  rw [show (0:Int)+(j:Int)=(j:Int) by omega] at hg
  show p sets[j]=true
  rw [<-hg];exact h2
theorem m_ {sets:List DS}{p q:DS->Bool}(h:∀S∈sets,p S=q S):ixs sets p=ixs sets q:=by
 unfold ixs
 refine congrArg _ (Kch λx hx=>h _ (By sets 0 x hx).2.2)
theorem CZ {sets:List DS}{p q:DS->Bool}:ixs sets p=ixs sets q↔∀S∈sets,p S=q S:=by
 refine⟨λh S hS=>?_,m_⟩
 obtain⟨x,hx,rfl⟩:=Wq sets 0 S hS
 have r:=By sets 0 x hx
 have g:=Jc hx
 have a:x.1∈ixs sets p↔p x.2=true:=by
  rw [Pr,g]
  exact⟨λz=>z.2.2,λz=>⟨by omega,by omega,z⟩⟩
 have b:x.1∈ixs sets q↔q x.2=true:=by
  rw [Pr,g]
  exact⟨λz=>z.2.2,λz=>⟨by omega,by omega,z⟩⟩
 rw [h] at a
 rw [Kbq]
 exact a.symm.trans b
theorem FE (sets:List DS)(ns:bL):dU sets ns=ixs sets λS=>pV S ns:=by
 unfold dU ixs
 refine congrArg _ (Kch λx _=>?_)
 rw [Kbx]
section
variable {sets:List DS}{F M:Nat}(h:y9 F M sets)(m0:0<M)(hM:2*F+2*M<=90000)
include h m0 hM
theorem Pj {S T:DS}(hS:S∈sets)(hT:T∈sets):bT (F+M) (aA S)=bT (F+M) (aA T)↔∀d,aA S d=aA T d:=by
 obtain⟨_,N,_,n1,n2⟩:=VA m0 (by omega) h.r
 unfold bT
 rw [KbI]
 constructor
 ·intro e
  exact n2 S hS T hT λd hd=>e d (KbK.mpr (by omega))
 ·intro e d _;exact e d
theorem mD {i:Int}(i0:0<=i)(i1:i<(sets.length:Int)):vI (aE (F+M) sets) i/\vB (aE (F+M) sets) i=ixs sets λS=>decide (bT (F+M) (aA S)=bT (F+M) (aA (au sets i))):=by
 have lr:(aE (F+M) sets).length=sets.length:=Kaf _
 refine⟨⟨λx _=>by rw [lr];omega,by rw [IT,lr];have:=h.l;omega⟩,?_⟩
 unfold vB ixs
 show Kai _ (KaM _ (aT 0 (sets.map λS=>bT (F+M) (aA S))))=_
 rw [mS,Kcz,KaE]
 have g:au (aE (F+M) sets) i=bT (F+M) (aA (au sets i)):=KJ (λS=>bT (F+M) (aA S)) i0 i1
 rw [g];rfl
theorem s_ {T:DS}(hT:T∈sets){D:List Int}(hD:∀d∈D,0<=d)(hl:D.length<=900):vK T D/\Fl (pK T D)/\∀S∈sets,pV S (pK T D)=true↔∀d∈D,aS S d=aS T d:=by
 have ok:=(h.r T hT).ok
 refine⟨⟨λd _=>KA ok d,by omega⟩,⟨λn hn=>?_,⟨vM T,λn hn=>?_⟩,?_⟩,λS hS=>?_⟩
 ·obtain⟨d,hd,rfl⟩:=Kav.mp hn
  exact hD d hd
 ·obtain⟨d,hd,rfl⟩:=Kav.mp hn
  rfl
 ·unfold pK
  rw [Kaf];omega
 ·rw [Jf]
  constructor
  ·intro q d hd
   have e:iy S d=vM T d:=q _ (KaA hd)
   rw [VO,B3 S (hD d hd),B3 T (hD d hd)] at e
   exact e
  ·intro q n hn
   obtain⟨d,hd,rfl⟩:=Kav.mp hn
   show iy S d=vM T d
   rw [VO,B3 S (hD d hd),B3 T (hD d hd)]
   exact q d hd
theorem jo {D:List Int}(hD:∀d∈D,0<=d)(hl:D.length<=900):vA sets (aE (F+M) sets) D/\(Ew sets (aE (F+M) sets) D=[]↔PY sets D):=by
 have one:∀x∈aT 0 sets,vK x.2 D/\t_ sets (pK x.2 D)/\vI (aE (F+M) sets) x.1/\(dU sets (pK x.2 D)=vB (aE (F+M) sets) x.1↔∀S∈sets,(∀d∈D,aS S d=aS x.2 d)->∀d,aA S d=aA x.2 d):=by
  intro x hx
  have r:=By sets 0 x hx
  obtain⟨n1,n2,n3⟩:=s_ h m0 hM r.2.2 hD hl
  obtain⟨a1,a2⟩:=mD h m0 hM (i:=x.1) (by omega) (by omega)
  refine⟨n1,eqk h.big h.l n2,a1,?_⟩
  rw [FE,a2,Jc hx,CZ]
  constructor
  ·intro q S hS e
   have:=q S hS
   rw [(n3 S hS).mpr e] at this
   exact (Pj h m0 hM hS r.2.2).mp (of_decide_eq_true this.symm)
  ·intro q S hS
   rw [Kbq,n3 S hS,decide_eq_true_iff,Pj h m0 hM hS r.2.2]
   exact⟨q S hS,λz d _=>z d.toNat⟩
 have key:∀(xs:List (Int×DS)) (st:List Int),(∀x∈xs,x∈aT 0 sets)->st.length+xs.length<=2000->bW (Bv sets (aE (F+M) sets) D) (JY sets (aE (F+M) sets) D) xs st/\(Kas (Bv sets (aE (F+M) sets) D) st xs=[]↔st=[]/\∀x∈xs,dU sets (pK x.2 D)=vB (aE (F+M) sets) x.1):=by
  intro xs
  induction xs with
  |nil=>intro st _ _;exact⟨trivial,λz=>⟨z,λx hx=>by cases hx⟩,λz=>z.1⟩
  |cons x xs ih=>
   intro st hx hlen
   rw [Kad] at hlen
   obtain⟨o1,o2,o3,_⟩:=one x (hx x Kaa)
   have hd:JY sets (aE (F+M) sets) D st x:=⟨o1,o2,o3,λ_=>by omega⟩
   rw [Kay]
   by_cases c:dU sets (pK x.2 D)=vB (aE (F+M) sets) x.1
   ·have et:Bv sets (aE (F+M) sets) D st x=st:=by
     unfold Bv
     rw [if_neg (λz=>z c)]
    obtain⟨a1,a2⟩:=ih st (λy hy=>hx y (Kab _ hy)) (by omega)
    rw [et]
    refine⟨⟨hd,by rw [et];exact a1⟩,a2.trans ⟨λ⟨z1,z2⟩=>⟨z1,λy hy=>?_⟩,λ⟨z1,z2⟩=>⟨z1,λy hy=>z2 y (Kab _ hy)⟩⟩⟩
    rcases Kal.mp hy with e|e
    ·rw [e];exact c
    ·exact z2 y e
   ·have et:Bv sets (aE (F+M) sets) D st x=st++[x.1]:=by
     unfold Bv
     rw [if_pos c];rfl
    obtain⟨a1,a2⟩:=ih (st++[x.1]) (λy hy=>hx y (Kab _ hy)) (by rw [Kan,KaL];omega)
    rw [et]
    refine⟨⟨hd,by rw [et];exact a1⟩,a2.trans ⟨λ⟨z1,_⟩=>absurd z1 (by simp),λ⟨_,z2⟩=>absurd (z2 x Kaa) c⟩⟩
 obtain⟨k1,k2⟩:=key (aT 0 sets) [] (λ_ z=>z) (by rw [IT];have:=h.l;show 0+_<=_;omega)
 unfold vA Ew
 simp only [fg,lt_eq]
 refine⟨k1,k2.trans ⟨λ⟨_,z⟩ S hS T hT e=>?_,λt=>⟨rfl,λx hx=>((one x hx).2.2.2).mpr λS hS e=>t S hS x.2 (By sets 0 x hx).2.2 e⟩⟩⟩
 obtain⟨x,hx,rfl⟩:=Wq sets 0 T hT
 exact ((one x hx).2.2.2).mp (z x hx) S hS e
end
theorem xP {xs:List (List Bool)}(hl:xs.length<=1000):su xs/\(iE xs).Nodup/\∀r,r∈iE xs↔r∈xs:=by
 have key:∀(xs st:List (List Bool)),st.Nodup->st.length+xs.length<=1000->bW yo J2 xs st/\(Kas yo st xs).Nodup/\∀r,r∈Kas yo st xs↔r∈st∨r∈xs:=by
  intro xs
  induction xs with
  |nil=>intro st hn _;exact⟨trivial,hn,λr=>by simp⟩
  |cons x xs ih=>
   intro st hn hlen
   rw [Kad] at hlen
   have ed:J2 st x:=λ_=>by omega
   rw [Kay]
   by_cases c:x∈st
   ·have et:yo st x=st:=by
     unfold yo
     rw [if_neg (λz=>z c)]
    obtain⟨a1,a2,a3⟩:=ih st hn (by omega)
    rw [et]
    refine⟨⟨ed,by rw [et];exact a1⟩,a2,λr=>?_⟩
    rw [a3 r,Kal]
    exact⟨λz=>z.elim .inl (λz=>.inr (.inr z)),λz=>z.elim .inl (λz=>z.elim (λz=>.inl (z ▸ c)) .inr)⟩
   ·have et:yo st x=st++[x]:=by
     unfold yo
     rw [if_pos c];rfl
    obtain⟨a1,a2,a3⟩:=ih (st++[x]) (Kaj.mpr ⟨hn,by simp,λa ha b hb z=>c (by rw [<-Kak.mp hb,<-z];exact ha)⟩) (by rw [Kan,KaL];omega)
    rw [et]
    refine⟨⟨ed,by rw [et];exact a1⟩,a2,λr=>?_⟩
    rw [a3 r,Kao,Kak,Kal,or_assoc]
 obtain⟨a1,a2,a3⟩:=key xs [] KaI (by show 0+_<=_;omega)
 unfold su iE
 simp only [fg,lt_eq]
 exact⟨a1,a2,λr=>by rw [a3 r];simp⟩
theorem Tc (S:DS)(ns:bL)(x:Int×Bool):pV S (ns++[x])=true↔pV S ns=true/\iy S x.1=x.2:=by
 rw [Jf,Jf]
 constructor
 ·intro h
  exact⟨λn hn=>h n (Kac _ hn),h x (Kaq _ Kaa)⟩
 ·rintro⟨h1,h2⟩ n hn
  rcases Kao.mp hn with z|z
  ·exact h1 n z
  ·rw [Kak.mp z];exact h2
/-- notes of a set -/
def r_ (T:DS)(ns:bL):Prop:=∀n∈ns,0<=n.1/\n.2=iy T n.1
theorem r_.E5 {T:DS}{ns:bL}(h:r_ T ns)(hl:ns.length<=1000):Fl ns:=⟨λn hn=>(h n hn).1,⟨iy T,λn hn=>(h n hn).2⟩,hl⟩
theorem r_.fits {T:DS}{ns:bL}(h:r_ T ns):pV T ns=true:=(Jf T ns).mpr λn hn=>(h n hn).2.symm
/-- how many unlike rows there are -/
def gB (xs:List (List Bool)):Nat:=(iE xs).length
theorem yU {xs:List (List Bool)}(hl:xs.length<=1000){r:List Bool}(hr:r∈xs):1<=gB xs:=List.length_pos_of_mem (((xP hl).2.2 r).mpr hr)
theorem Ci {xs:List (List Bool)}(hl:xs.length<=1000):gB xs<=xs.length:=Ox (xP hl).2.1 λr hr=>((xP hl).2.2 r).mp hr
theorem Cj {xs ys:List (List Bool)}(hx:xs.length<=1000)(hy:ys.length<=1000)(sub:∀r∈ys,r∈xs){r:List Bool}(h1:r∈xs)(h2:r∉ys):gB ys<gB xs:=by
 have:=Ox (xs:=r::iE ys) (ys:=iE xs) (KaN.mpr ⟨λz=>h2 (((xP hy).2.2 r).mp z),(xP hy).2.1⟩) λs hs=>by
  rcases Kal.mp hs with e|e
  ·rw [e];exact ((xP hx).2.2 r).mpr h1
  ·exact ((xP hx).2.2 s).mpr (sub s (((xP hy).2.2 s).mp e))
 rw [Kad] at this
 exact this
section
variable {sets:List DS}{F M:Nat}(h:y9 F M sets)(m0:0<M)(hM:2*F+2*M<=90000)
include h m0 hM
theorem nA (ns:bL):Kai (λ(x2:Int)=>au (aE (F+M) sets) x2) (dU sets ns)=(bS sets ns).map λS=>bT (F+M) (aA S):=by
 rw [FE]
 unfold ixs bS
 rw [<-NW (λS=>pV S ns) sets 0,KaE,KaE]
 refine Kau λx hx=>?_
 have h1:=(KaU.mp hx).1
 have r:=By sets 0 x h1
 show au (aE (F+M) sets) x.1=bT (F+M) (aA x.2)
 rw [show au (aE (F+M) sets) x.1=bT (F+M) (aA (au sets x.1)) from KJ (λS=>bT (F+M) (aA S)) (by omega) (by omega),Jc h1]
theorem VX (ns:bL):∀x∈dU sets ns,0<=x/\x<(sets.length:Int):=λx hx=>by
 rw [FE] at hx
 have:=Pr.mp hx
 exact⟨this.1,this.2.1⟩
theorem Wh (ns:bL):(dU sets ns).length<=1000:=by
 unfold dU
 rw [Kaf]
 refine Kaw (KaX _ _) ?_
 rw [IT];exact h.l
theorem uv {ns:bL}{d:Int}(d0:0<=d)(d1:d<(F+M:Nat))(b:Bool):KaM (λ(x2:Int)=>decide ((au (au (aE (F+M) sets) x2) d)=b)) (dU sets ns)=dU sets (ns++[(d,b)]):=by
 rw [FE,FE]
 unfold ixs
 rw [Kcz,List.filter_filter]
 refine congrArg _ (Kch λx hx=>?_)
 have r:=By sets 0 x hx
 have g:au (au (aE (F+M) sets) x.1) d=aA x.2 d.toNat:=by
  rw [show au (aE (F+M) sets) x.1=bT (F+M) (aA (au sets x.1)) from KJ (λS=>bT (F+M) (aA S)) (by omega) (by omega),Jc hx]
  exact AV d0 (by omega)
 rw [Kbq,Ka8,Tc]
 show decide (au (au (aE (F+M) sets) x.1) d=b)=true/\_↔_
 rw [g,decide_eq_true_iff,B3 x.2 d0]
 exact⟨λ⟨u,v⟩=>⟨v,u⟩,λ⟨u,v⟩=>⟨v,u⟩⟩
theorem tL {ns:bL}{d:Int}(d0:0<=d)(d1:d<(F+M:Nat)):xH (aE (F+M) sets) (dU sets ns) d/\∀b,(gB (Kai (λ(x2:Int)=>au (aE (F+M) sets) x2) (dU sets (ns++[(d,b)]))):Int)<=B0 (aE (F+M) sets) (dU sets ns) d:=by
 have lr:(aE (F+M) sets).length=sets.length:=Kaf _
 have fr:=VX h m0 hM ns
 have fl:=Wh h m0 hM ns
 have el:(Kai (λ(x1:Bool)=>(iE (Kai (λ(x2:Int)=>(au (aE (F+M) sets) x2)) (KaM (λ(x2:Int)=>decide ((au (au (aE (F+M) sets) x2) d)=x1)) (dU sets ns))))) [true,false])=[iE (Kai (λ(x2:Int)=>(au (aE (F+M) sets) x2)) (dU sets (ns++[(d,true)]))),iE (Kai (λ(x2:Int)=>(au (aE (F+M) sets) x2)) (dU sets (ns++[(d,false)])))]:=by
  rw [Kag,Kag,Kb7,uv h m0 hM d0 d1 true,uv h m0 hM d0 d1 false]
 constructor
 ·unfold xH
  rw [el,fg]
  refine⟨λb hb=>⟨λx hx=>?_,by omega,(xP ?_).1⟩,by decide,?_⟩
  ·have:=fr x hx
   have hl2:(au (aE (F+M) sets) x).length=F+M:=by
    rw [show au (aE (F+M) sets) x=bT (F+M) (aA (au sets x)) from KJ (λS=>bT (F+M) (aA S)) this.1 this.2]
    exact rf _ _
   rw [lr,hl2]
   exact⟨⟨by omega,by omega⟩,⟨by omega,by omega⟩,λ_=>⟨by omega,by omega⟩⟩
  ·rw [Kaf]
   exact Kaw (KaX _ _) fl
  ·show (-((2:Nat):Int)<=0/\(0:Int)<((2:Nat):Int))/\_
   exact⟨⟨by omega,by omega⟩,by show -((2:Nat):Int)<=1;omega,by show (1:Int)<((2:Nat):Int);omega⟩
 ·intro b
  unfold B0
  rw [el,lt_eq]
  show _<=max (((iE _).length:Nat):Int) (((iE _).length:Nat):Int)
  unfold gB
  cases b with
  |true=>exact Int.le_max_left _ _
  |false=>exact Int.le_max_right _ _
/-- where bJ looking stands -/
structure Led (sets:List DS)(N:Nat)(T:DS)(k:Nat)(st:bL×List Int):Prop where
 l:st.1.length=k
 n:r_ T st.1
 f:st.2=dU sets st.1
 c:k+gB ((bS sets st.1).map λS=>bT N (aA S))<=gB (aE N sets)
theorem z8 (hl:sets.length<=100){i:Int}(i0:0<=i)(i1:i<(sets.length:Int)){k:Nat}{st:bL×List Int}(g:Led sets (F+M) (au sets i) k st)(hk:k<=500)(x:Int):
  Ip sets (aE (F+M) sets) i st x/\((Bp sets (aE (F+M) sets) i st x=.inl (.inr st)/\oW sets st.1=none)∨∃st',Bp sets (aE (F+M) sets) i st x=.inr st'/\Led sets (F+M) (au sets i) (k+1) st'):=by
 obtain⟨ns,n5⟩:=st
 obtain⟨gl,gn,gf,gc⟩:=g
 have gl:ns.length=k:=gl
 have gf:n5=dU sets ns:=gf
 have gn:r_ (au sets i) ns:=gn
 have gc:k+gB ((bS sets ns).map λS=>bT (F+M) (aA S))<=gB (aE (F+M) sets):=gc
 subst gf
 have hT:=K7 i0 i1
 have Z0:=(h.r _ hT).ok
 have E5:=gn.E5 (by omega)
 have mT:au sets i∈bS sets ns:=KaU.mpr ⟨hT,gn.fits⟩
 obtain⟨ld,ln⟩:=ni h hM m0 E5 (λz=>by rw [z] at mT;cases mT)
 have lr:(aE (F+M) sets).length=sets.length:=Kaf _
 have fr:=VX h m0 hM ns
 have fl:=Wh h m0 hM ns
 have fL:(bS sets ns).length<=1000:=Kaw (KaX _ _) h.l
 have pk:=nA h m0 hM ns
 have g0:(au (aE (F+M) sets) (0:Int)).length=F+M:=by
  rw [show au (aE (F+M) sets) 0=bT (F+M) (aA (au sets 0)) from KJ (λS=>bT (F+M) (aA S)) (by omega) (by omega)]
  exact rf _ _
 unfold Ip Bp
 rw [fg (oW sets (ns,dU sets ns).1),lt_eq (oW sets (ns,dU sets ns).1)]
 dsimp only
 cases hd:oW sets ns with
 |none=>
  rw [if_pos rfl]
  exact⟨⟨ld,λz=>absurd rfl z⟩,.inl ⟨rfl,rfl⟩⟩
 |some d=>
  obtain⟨d0,d1,S,hS,U,hU,ne⟩:=wO h hM m0 E5 hd
  rw [if_neg nofun]
  have c1:¬((¬((KaQ (some d))=true))∨((false=true)∨(¬((0:Int)<=(KaO (some d) default)/\(KaO (some d) default)<((au (aE (F+M) sets) (0:Int)).length:Int))))):=by
   rintro (z|z|z)
   ·exact z rfl
   ·cases z
   ·refine z ⟨d0,?_⟩
    rw [g0];exact d1
  rw [if_neg c1]
  obtain⟨w1,w2⟩:=tL h m0 hM (ns:=ns) d0 d1
  have Xh:r_ (au sets i) (ns++[(d,iy (au sets i) d)]):=λn hn=>by
   rcases Kao.mp hn with hn|hn
   ·exact gn n hn
   ·rw [Kak.mp hn];exact⟨d0,rfl⟩
  have en:pK (au sets i) [(KaO (some d) default)]=[(d,iy (au sets i) d)]:=rfl
  have Xf:=Xh.E5 (by rw [Kan,KaL];omega)
  have Zy:=VX h m0 hM (ns++[(d,iy (au sets i) d)])
  have O5:=Wh h m0 hM (ns++[(d,iy (au sets i) d)])
  have XO:(bS sets (ns++[(d,iy (au sets i) d)])).length<=1000:=Kaw (KaX _ _) h.l
  have Ye:=nA h m0 hM (ns++[(d,iy (au sets i) d)])
  have w3:=w2 (iy (au sets i) d)
  simp only [fg,lt_eq]
  rw [en,pk,Ye]
  rw [Ye] at w3
  have lt2:gB ((bS sets (ns++[(d,iy (au sets i) d)])).map λS=>bT (F+M) (aA S))<gB ((bS sets ns).map λS=>bT (F+M) (aA S)):=by
   have hx:∃V∈bS sets ns,aS V d≠iy (au sets i) d:=by
    by_cases q:aS S d=iy (au sets i) d
    ·exact⟨U,hU,λz=>ne (q.trans z.symm)⟩
    ·exact⟨S,hS,q⟩
   obtain⟨V,hV,nV⟩:=hx
   refine Cj (by rw [Kaf];exact fL) (by rw [Kaf];exact XO) (λr hr=>?_) (r:=bT (F+M) (aA V)) (KaA hV) (λz=>?_)
   ·obtain⟨Z,hZ,rfl⟩:=Kav.mp hr
    have:=KaU.mp hZ
    exact KaA (KaU.mpr ⟨this.1,((Tc _ _ _).mp this.2).1⟩)
   ·obtain⟨Z,hZ,eZ⟩:=Kav.mp z
    have q:=KaU.mp hZ
    have q2:=((Tc _ _ _).mp q.2).2
    have q3:aS Z d=iy (au sets i) d:=(B3 Z d0).symm.trans q2
    have:=(Pj h m0 hM q.1 (VN V hV)).mp eZ d.toNat
    have this:aS Z d=aS V d:=this
    exact nV (by rw [<-q3,this])
  have W_:i∈dU sets (ns++[(d,iy (au sets i) d)]):=by
   rw [FE]
   exact Pr.mpr ⟨i0,i1,Xh.fits⟩
  have c2:¬((i∉dU sets (ns++[(d,iy (au sets i) d)]))∨((((iE ((bS sets ns).map λS=>bT (F+M) (aA S))).length:Nat):Int)<=(((iE ((bS sets (ns++[(d,iy (au sets i) d)])).map λS=>bT (F+M) (aA S))).length:Nat):Int)∨(B0 (aE (F+M) sets) (dU sets ns) (KaO (some d) default)<(((iE ((bS sets (ns++[(d,iy (au sets i) d)])).map λS=>bT (F+M) (aA S))).length:Nat):Int)))):=by
   rintro (z|z|z)
   ·exact z W_
   ·have lt2:(iE _).length<(iE _).length:=lt2
    omega
   ·have w3:(((iE _).length:Nat):Int)<=B0 (aE (F+M) sets) (dU sets ns) d:=w3
    have z:B0 (aE (F+M) sets) (dU sets ns) d<_:=z
    omega
  rw [if_neg c2]
  refine⟨⟨ld,λ_=>⟨λ_ _=>⟨rfl,by omega,by rw [lr];omega⟩,λ_=>⟨λx hx=>?_,by omega,?_,rfl,w1,⟨by omega,i1⟩,rfl,⟨λy hy=>KA Z0 _,by show 1<=100000;omega⟩,?_,eqk h.big h.l Xf,λx hx=>?_,by omega,?_⟩⟩⟩,.inr ⟨_,rfl,?_,Xh,rfl,?_⟩⟩
  ·have:=fr x hx
   rw [lr];omega
  ·exact (xP (by rw [Kaf];exact fL)).1
  ·show ns.length+1<=100000
   omega
  ·have:=Zy x hx
   rw [lr];omega
  ·exact (xP (by rw [Kaf];exact XO)).1
  ·show (ns++[_]).length=_
   rw [Kan,gl];rfl
  ·show k+1+gB ((bS sets (ns++[(d,iy (au sets i) d)])).map λS=>bT (F+M) (aA S))<=_
   omega
theorem qB (hl:sets.length<=100){i:Int}(i0:0<=i)(i1:i<(sets.length:Int)):∀(xs:List Int) {k:Nat} {st:bL×List Int},Led sets (F+M) (au sets i) k st->k+xs.length<=500 ->
  fP (Bp sets (aE (F+M) sets) i) (Ip sets (aE (F+M) sets) i) xs st/\∃st' k',cY (forR (Bp sets (aE (F+M) sets) i) xs st) id Sum.inr=.inr st'/\Led sets (F+M) (au sets i) k' st'/\(oW sets st'.1=none/\k'<=500∨k'=k+xs.length)
 |[],k,st,g,_=>⟨trivial,st,k,rfl,g,.inr rfl⟩
 |x::xs,k,st,g,hk=>by
  rw [Kad] at hk
  obtain⟨d,r⟩:=z8 h m0 hM hl i0 i1 g (by omega) x
  rcases r with⟨e,n⟩|⟨st',e,g'⟩
  ·refine⟨⟨d,by rw [e];trivial⟩,st,k,?_,g,.inl ⟨n,by omega⟩⟩
   unfold forR
   rw [e];rfl
  ·obtain⟨d2,s2,k2,e2,g2,n2⟩:=qB hl i0 i1 xs g' (by omega)
   refine⟨⟨d,by rw [e];exact d2⟩,s2,k2,?_,g2,?_⟩
   ·unfold forR
    rw [e];exact e2
   ·rcases n2 with z|z
    ·exact .inl z
    ·exact .inr (by rw [z,Kad];omega)
theorem z7 (hl:sets.length<=100){i:Int}(i0:0<=i)(i1:i<(sets.length:Int)):xD sets (aE (F+M) sets) i/\J7 sets (aE (F+M) sets) i=true:=by
 have hT:=K7 i0 i1
 have lr:(aE (F+M) sets).length=sets.length:=Kaf _
 have f0:∀S,pV S []=true:=λS=>(Jf S []).mpr λn hn=>by cases hn
 have start:Led sets (F+M) (au sets i) 0 (([]:bL),rng 0 ((sets.length:Nat):Int)):=by
  refine⟨rfl,λn hn=>(by cases hn),?_,?_⟩
  ·show rng 0 _=dU sets []
   unfold dU
   rw [KbY.mpr λx _=>decide_eq_true (f0 x.2)]
   have:∀(xs:List DS) (k:Nat),(aT (k:Int) xs).map (λx=>x.1)=(KaG xs.length).map λj=>((k+j:Nat):Int):=by
    intro xs
    induction xs with
    |nil=>intro k;rfl
    |cons a xs ih=>
     intro k
     show (k:Int)::(aT ((k:Int)+1) xs).map (λx=>x.1)=_
     rw [show (k:Int)+1=((k+1:Nat):Int) by omega,ih (k+1),Kad,Kbi,Kag,KaE]
     refine congrArg _ (Kau λj _=>?_)
     show ((k+1+j:Nat):Int)=((k+(j+1):Nat):Int)
     omega
   have:=this sets 0
   rw [yV]
   refine Eq.trans ?_ this.symm
   exact Kau λj _=>by rw [Kca]
  ·show 0+gB ((bS sets []).map _)<=_
   unfold bS
   rw [KbY.mpr λS _=>f0 S,Kca]
   exact Kap _
 obtain⟨d1,st,k,e,g,n⟩:=qB h m0 hM hl i0 i1 (rng 0 ((sets.length:Nat):Int)) start (by have:=xO 0 ((sets.length:Nat):Int);omega)
 have gl:=g.l
 have gn:=g.n
 have gf:=g.f
 have gc:=g.c
 have mT:au sets i∈bS sets st.1:=KaU.mpr ⟨hT,gn.fits⟩
 have fL:(bS sets st.1).length<=1000:=Kaw (KaX _ _) h.l
 have cp:=yU (xs:=(bS sets st.1).map λS=>bT (F+M) (aA S)) (by rw [Kaf];exact fL) (KaA mT)
 have hr:(aE (F+M) sets).length<=1000:=by rw [lr];exact h.l
 have cl:=Ci hr
 rw [lr] at cl
 have n1:oW sets st.1=none:=by
  rcases n with z|z
  ·exact z.1
  ·have:=xO 0 ((sets.length:Nat):Int)
   omega
 have E5:=gn.E5 (by omega)
 obtain⟨ld,ln⟩:=ni h hM m0 E5 (λz=>by rw [z] at mT;cases mT)
 have same:=ln.mp n1
 obtain⟨a1,a2⟩:=mD h m0 hM i0 i1
 have ef:st.2=vB (aE (F+M) sets) i:=by
  rw [gf,a2,FE]
  refine m_ λS hS=>?_
  rw [Kbq,decide_eq_true_iff,Pj h m0 hM hS hT]
  constructor
  ·intro q
   exact same S (KaU.mpr ⟨hS,q⟩) _ mT
  ·intro q
   refine (Jf S st.1).mpr λx hx=>?_
   have:=gn x hx
   rw [this.2,B3 S this.1,B3 _ this.1]
   exact q _
 unfold xD J7
 rw [fg ([]:List (Int×Bool)),lt_eq ([]:List (Int×Bool)),fg (rng 0 (sets.length:Int)),lt_eq (rng 0 (sets.length:Int)),e]
 have c:¬(((oW sets st.1)≠none)∨(st.2≠(vB (aE (F+M) sets) i))):=by
  rintro (z|z)
  ·exact z n1
  ·exact z ef
 refine⟨⟨⟨by omega,by omega⟩,⟨by omega,by omega⟩,d1,λp hp=>?_⟩,?_⟩
 ·cases hp
  exact⟨ld,λ_=>a1,λ_=>(xP hr).1⟩
 ·show (if _ then _ else _)=true
  rw [if_neg c]
  refine decide_eq_true ?_
  show ((st.1.length:Nat):Int)<(((iE (aE (F+M) sets)).length:Nat):Int)
  have gc:k+_<=(iE (aE (F+M) sets)).length:=gc
  omega
end
set_option maxHeartbeats 1000000
theorem Wr {α:Type}(xs:List α){k:Nat}(hk:k<xs.length):cut xs none (some (k:Int))++cut xs (some ((k:Int)+1)) none=xs.take k++xs.drop (k+1):=by
 rw [show (k:Int)+1=((k+1:Nat):Int) by omega,GA,KH]
theorem tV:∀D:List Int,D.Pairwise (·<·)->KaM (λ(x2:Int×Int)=>decide (x2.2<=x2.1)) (Kba D (D.drop 1))=[]
 |[],_=>rfl
 |[a],_=>rfl
 |a::b::r,h=>by
  rw [KaS] at h
  have h1:=h.1 b Kaa
  have ih:=tV (b::r) h.2
  show KaM _ ((a,b)::Kba (b::r) ((b::r).drop 1))=[]
  rw [KaZ (by show ¬decide (b<=a)=true;rw [decide_eq_true_iff];omega)]
  exact ih
theorem VI {α:Type}{f:Unit->α->Bool ⊕ Unit}{d:Unit->α->Prop}:∀xs:List α,(∀x∈xs,d () x/\f () x=.inr ())->fP f d xs ()/\forR f xs ()=.inr ()
 |[],_=>⟨trivial,rfl⟩
 |x::xs,h=>by
  obtain⟨h1,h2⟩:=h x Kaa
  obtain⟨i1,i2⟩:=VI xs λy hy=>h y (Kab _ hy)
  refine⟨⟨h1,by rw [h2];exact i1⟩,?_⟩
  unfold forR
  rw [h2];exact i2
theorem zY {s:ae}(hs:Sk 0 s):fN s/\∃s',u9 s=(.inr (),s'):=by
 unfold fN u9
 obtain⟨a1,⟨a2,a3,a4⟩,a5⟩:=xo hs (by omega)
 rw [xS (vL s 4 false),v5 (vL s 4 false)]
 generalize vL s (4:Int) false=r1 at *
 rw [fg r1.1,lt_eq r1.1]
 have hS:y9 72 5040 r1.1:=⟨λS hS=>⟨(a4 S hS).ok,by have:=(a4 S hS).y;omega,(a4 S hS).dv,by omega,λ_=>rfl⟩,by omega,by omega⟩
 obtain⟨_,ro⟩:=lB (M:=5040) (by omega) (by omega) hS.r
 obtain⟨q1,q2⟩:=rm (M:=5040) (by omega) (by omega) hS.r hS.l
 have s0:=ro.s0
 have s1:=ro.s1
 have l1:=ro.l1
 have lM:=KaF (by omega) ro.dv
 have EM:y9 (pN r1.1).1.toNat (pN r1.1).2.toNat r1.1:=⟨λS hm=>⟨(a4 S hm).ok,by have:=(ro.r S hm).1;omega,(ro.r S hm).2,by omega,λ_=>rfl⟩,by omega,hS.l⟩
 have eN:((pN r1.1).1+(pN r1.1).2).toNat=(pN r1.1).1.toNat+(pN r1.1).2.toNat:=by omega
 rw [eN] at q2
 generalize (pN r1.1).1.toNat=F at *
 generalize hMM:(pN r1.1).2.toNat=M at *
 have m0:0<M:=by omega
 have hM:2*F+2*M<=90000:=by omega
 rw [q2,fg (aE (F+M) r1.1),lt_eq (aE (F+M) r1.1)]
 obtain⟨f1,lk⟩:=zo m0 hM EM (by omega)
 rw [fg (BU r1.1),lt_eq (BU r1.1)]
 generalize BU r1.1=D at *
 have D0:∀d∈D,0<=d:=λd hd=>(lk.rg d hd).1
 have Dl:=lk.len
 obtain⟨u1,u2⟩:=jo EM m0 hM D0 (by omega)
 have ez:Kai (λ(x2:Int×Int)=>(1:Int)) (KaM (λ(x2:Int×Int)=>decide (x2.2<=x2.1)) (Kba D (cut D (some (1:Int)) none)))=[]:=by
  rw [show (1:Int)=((1:Nat):Int) from rfl,KH,tV D lk.srt];rfl
 have zl:(Kba D (cut D (some (1:Int)) none)).length<=100000:=by
  rw [Kb0];omega
 rw [ez,u2.mpr lk.Xu]
 obtain⟨k1,k2⟩:=VI (f:=Gp r1.1 (aE (F+M) r1.1) D) (d:=O7 r1.1 (aE (F+M) r1.1) D) (rng 0 (D.length:Int)) λx hx=>by
  obtain⟨x0,x1⟩:=Gx.mp hx
  obtain⟨k,rfl⟩:=KaR x0
  have hk:k<D.length:=by omega
  have sub:∀d∈D.take k++D.drop (k+1),d∈D:=λd hd=>by
   rcases Kao.mp hd with z|z
   ·exact List.mem_of_mem_take z
   ·exact List.mem_of_mem_drop z
  have len:(D.take k++D.drop (k+1)).length+1=D.length:=by
   rw [Kan,Ka3,Ka9];omega
  obtain⟨v1,v2⟩:=jo EM m0 hM (D:=D.take k++D.drop (k+1)) (λd hd=>D0 d (sub d hd)) (by omega)
  have ne:¬Ew r1.1 (aE (F+M) r1.1) (D.take k++D.drop (k+1))=[]:=λz=>by
   have:=lk.few _ sub (v2.mp z)
   omega
  refine⟨⟨?_,?_⟩,?_⟩
  ·have:=congrArg KbX (Wr D hk)
   rw [Kan] at this
   omega
  ·rw [Wr D hk];exact v1
  ·unfold Gp
   rw [Wr D hk,if_neg ne]
 obtain⟨e1,e2⟩:=VI (f:=Gu r1.1 (aE (F+M) r1.1)) (d:=O6 r1.1 (aE (F+M) r1.1)) (rng 0 (r1.1.length:Int)) λx hx=>by
  obtain⟨x0,x1⟩:=Gx.mp hx
  obtain⟨v1,v2⟩:=z7 EM m0 hM (by omega) x0 x1
  refine⟨v1,?_⟩
  unfold Gu
  rw [v2,if_neg (λz=>z rfl)]
 have c:¬((([]:List Int)≠([]:List Int))∨(([]:List Int)≠([]:List Int))):=λz=>z.elim (λq=>q rfl) (λq=>q rfl)
 rw [if_neg c,k2]
 refine⟨⟨a1,q1,f1,zl,λ_=>u1,λ_=>⟨⟨by omega,by omega⟩,k1,λ_ _=>⟨⟨by omega,by omega⟩,e1⟩⟩⟩,r1.2,?_⟩
 show cY (forR (Gu r1.1 (aE (F+M) r1.1)) (rng 0 (r1.1.length:Int)) ()) _ _=_
 rw [e2];rfl
end Pu
set_option maxHeartbeats 1000000
namespace Pu
open PySem L2 Enc
local macro_rules | `(tactic| walk_at "ev") => `(tactic| simp only [Wc, Wm, zT, B4, Wv, PR, EA, Wj, Ad, Lb, Fv, HX, Hj, Cz, Hi, HB, Mg, Me, Lp, Lm, Aj, K0, Mj, G5, Dk, Mb, Hz, AA, A9, A8, Hg, Ga, Cd, HJ, G1, Ft, C7, Dc, Bf, HY, C9, Dd, Fy, Fz, xr, wN, vZ, V1, HA, Dm, Bk, Pz, V2, Wi, u_, Lo, DG, q7, AW, ud, yQ, qp, kM, sV, uI, qo, zE, zH, wq, CG, CF, zG, uK, FG, Wt, vN, lE, O3, uL, zW, nq, Gm, pW, DC, Hr, Gz, HL, wG, VR, pQ, qm, zZ, yX, AF, A4, tX, Dh, Ak, v9, DP, A3, AY, AZ, uo, AU, DE, zb, HU, rA, tW, AD, Dt, Dy, AE, AH, AI, Df, um, yy, U_, v_, yT, GI, Gv, nO, Wa, uV, Mr, E4, AL, xh, DL, Kad, Kbu, Kah, Kcp, Ka5, List.getElem?_cons_zero, List.getElem?_cons_succ, KcM, KcN, Kae, Option.map_some, Option.bind_none, aU, Kag, Kb7, Ka1, List.all_nil, aH, eR, Bool.or_true, Bool.or_false, Bool.and_true, Bool.and_false, KcL, Bool.true_or, KcK, Bool.false_and, BC, dX, Cu, zf, uH, Qw, DU, Qn, C3, Cc, uG, kW, Tn, rC, lC, Bool.false_eq_true, if_true, if_false, sw2, sw3, Nat.reduceAdd, Nat.reduceLeDiff, Nat.reduceEqDiff, Kca, reduceIte, Int.reduceNeg, Int.reduceToNat, Nat.reduceSub, Nat.reduceMul, decide_true, decide_false, Bool.not_true, Bool.not_false])
def tG (ns:List Int)(r:Int):ae:=(max 0 ((if pS ns r<0 then -pS ns r else pS ns r)-1000000000000000000),(pS ns r*69143+r*7368787+4099) % 1000000000000000000000000000000000067,0)
theorem DQ (ns:List Int)(r:Int):Sk 0 (tG ns r):=⟨by show 0<=max 0 _;omega,Kb4 _ (by decide),Int.lt_of_lt_of_le (KbE _ (by decide)) (by decide),Kbw _,Kbw _⟩
theorem DM (ns:List Int)(r:Int)(x0:Slot)(_:0<=r)(_:r<=1000):tM.NK.ev [x0,.dat (.int r),.dat (.int (pS ns r))] (0,0,0)=some (.ret (.list [.int (tG ns r).1,.int (tG ns r).2.1,.int (tG ns r).2.2],true) (0,0,0)):=by
 have m1:jh (pS ns r) 69143=true:=by unfold jh;simp
 have m2:jh r 7368787=true:=by unfold jh;simp
 unfold tM.NK tG
 walk_at "ev"
 rw [show eL 10 18=true by decide +kernel]
 walk_at "ev"
 rw [m1]
 walk_at "ev"
 rw [m2]
 walk_at "ev"
 rw [show eL 10 36=true by decide +kernel]
 walk_at "ev"
 simp only [Int.reduceToNat,Int.reducePow,Int.reduceAdd,Int.reduceLT]
 walk_at "ev"
theorem G8 (ns:List Int)(r:Int)(x0 x1:Slot)(r0:0<=r)(r1:r<=1000):∃ρ' s',t8.ev (x0::x1::.bC::Kah 7 .emp) (tG ns r)=some (.nx (x0::ρ') s')/\ρ'.length=2+7:=by
 obtain⟨h1,s',h2⟩:=zY (DQ ns r)
 obtain⟨o,e,q⟩:=G6 (tG ns r) x0 x1 h1
 rw [h2] at q
 have q:o=.nx (x0::x1::.bC::Kah 7 .emp) s':=q
 exact⟨x1::.bC::Kah 7 .emp,s',by rw [<-q];exact e,by simp⟩
end Pu
set_option maxHeartbeats 0
namespace tM
open PySem PySem.Spec PyProof.Rows L2 Pu
theorem ZV {K:PySem.W.Frag}{h:Heap}{mg:Str->Option Value}(X:K.In h)(G:h.Ns mainGlobals mg)(c:He.SaysD fa fn K):Nonempty (Tp K mg):=by
 obtain⟨Zo,F0⟩:=c.def_ 0 (d:=vz) rfl
 obtain⟨Zp,F1⟩:=c.def_ 1 (d:=yL) rfl
 obtain⟨Zq,F2⟩:=c.def_ 2 (d:=t7) rfl
 obtain⟨Zr,F3⟩:=c.def_ 3 (d:=yi) rfl
 obtain⟨Zs,F4⟩:=c.def_ 4 (d:=vJ) rfl
 obtain⟨Zt,F5⟩:=c.def_ 5 (d:=yq) rfl
 obtain⟨Zu,F6⟩:=c.def_ 6 (d:=xM) rfl
 obtain⟨Zv,F7⟩:=c.def_ 7 (d:=xC) rfl
 obtain⟨Zw,F8⟩:=c.def_ 8 (d:=yC) rfl
 obtain⟨Zx,F9⟩:=c.def_ 9 (d:=vE) rfl
 obtain⟨T9,Yr⟩:=c.def_ 10 (d:=yO) rfl
 obtain⟨T_,Ys⟩:=c.def_ 11 (d:=yp) rfl
 obtain⟨Ua,Yt⟩:=c.def_ 12 (d:=uc) rfl
 obtain⟨Ub,Yu⟩:=c.def_ 13 (d:=xQ) rfl
 obtain⟨Uc,Yv⟩:=c.def_ 14 (d:=yJ) rfl
 obtain⟨Ud,Yw⟩:=c.def_ 15 (d:=vC) rfl
 obtain⟨Ue,Yx⟩:=c.def_ 16 (d:=yF) rfl
 obtain⟨Ug,Yy⟩:=c.def_ 17 (d:=xG) rfl
 obtain⟨Uh,Yz⟩:=c.def_ 18 (d:=yY) rfl
 obtain⟨Ui,YA⟩:=c.def_ 19 (d:=t_) rfl
 obtain⟨Uj,YB⟩:=c.def_ 20 (d:=yj) rfl
 obtain⟨Uk,YC⟩:=c.def_ 21 (d:=rS) rfl
 obtain⟨Ul,YD⟩:=c.def_ 22 (d:=xB) rfl
 obtain⟨Um,YE⟩:=c.def_ 23 (d:=vQ) rfl
 obtain⟨Uo,YF⟩:=c.def_ 24 (d:=Cg) rfl
 obtain⟨Uq,YG⟩:=c.def_ 25 (d:=vH) rfl
 obtain⟨Ur,YH⟩:=c.def_ 26 (d:=yE) rfl
 obtain⟨Us,YI⟩:=c.def_ 27 (d:=Eo) rfl
 obtain⟨Ut,YJ⟩:=c.def_ 28 (d:=vF) rfl
 obtain⟨Uu,YK⟩:=c.def_ 29 (d:=FW) rfl
 obtain⟨Uv,YL⟩:=c.def_ 30 (d:=fH) rfl
 obtain⟨Uw,YM⟩:=c.def_ 31 (d:=xF) rfl
 obtain⟨Ux,YN⟩:=c.def_ 32 (d:=vO) rfl
 obtain⟨Uy,YO⟩:=c.def_ 33 (d:=tQ) rfl
 obtain⟨Uz,YQ⟩:=c.def_ 34 (d:=vG) rfl
 obtain⟨UA,YR⟩:=c.def_ 35 (d:=xJ) rfl
 obtain⟨UC,YS⟩:=c.def_ 36 (d:=yr) rfl
 obtain⟨UD,YT⟩:=c.def_ 37 (d:=xN) rfl
 obtain⟨UE,YU⟩:=c.def_ 38 (d:=su) rfl
 obtain⟨UG,YV⟩:=c.def_ 39 (d:=vK) rfl
 obtain⟨UH,YW⟩:=c.def_ 40 (d:=vI) rfl
 obtain⟨UI,YX⟩:=c.def_ 41 (d:=vA) rfl
 obtain⟨UJ,YY⟩:=c.def_ 42 (d:=xH) rfl
 obtain⟨UK,YZ⟩:=c.def_ 43 (d:=xD) rfl
 obtain⟨UL,Y0⟩:=c.def_ 44 (d:=fN) rfl
 exact⟨⟨_,Zo,F0,He.glo_ok X G (c.fact 0 (f:=.glo "always_rises") rfl),_,Zp,F1,He.glo_ok X G (c.fact 1 (f:=.glo "is_set") rfl),_,Zq,F2,He.glo_ok X G (c.fact 2 (f:=.glo "need_set") rfl),_,Zr,F3,He.glo_ok X G (c.fact 3 (f:=.glo "common_divisor") rfl),_,Zs,F4,He.glo_ok X G (c.fact 4 (f:=.glo "common_multiple") rfl),_,Zt,F5,He.glo_ok X G (c.fact 5 (f:=.glo "prime_parts") rfl),_,Zu,F6,He.glo_ok X G (c.fact 6 (f:=.glo "first_numbers") rfl),_,Zv,F7,He.glo_ok X G (c.fact 7 (f:=.glo "comes_again") rfl),_,Zw,F8,He.glo_ok X G (c.fact 8 (f:=.glo "least_length") rfl),_,Zx,F9,He.glo_ok X G (c.fact 9 (f:=.glo "least_way") rfl),_,T9,Yr,He.glo_ok X G (c.fact 10 (f:=.glo "least_row") rfl),_,T_,Ys,He.glo_ok X G (c.fact 11 (f:=.glo "first_of_row") rfl),_,Ua,Yt,He.glo_ok X G (c.fact 12 (f:=.glo "set_row") rfl),_,Ub,Yu,He.glo_ok X G (c.fact 13 (f:=.glo "set_from") rfl),_,Uc,Yv,He.glo_ok X G (c.fact 14 (f:=.glo "has_day") rfl),_,Ud,Yw,He.glo_ok X G (c.fact 15 (f:=.glo "least_set") rfl),_,Ue,Yx,He.glo_ok X G (c.fact 16 (f:=.glo "check_notes") rfl),_,Ug,Yy,He.glo_ok X G (c.fact 17 (f:=.glo "check_sets") rfl),_,Uh,Yz,He.glo_ok X G (c.fact 18 (f:=.glo "fits") rfl),_,Ui,YA,He.glo_ok X G (c.fact 19 (f:=.glo "fitting") rfl),_,Uj,YB,He.glo_ok X G (c.fact 20 (f:=.glo "fitting_sets") rfl),_,Uk,YC,He.glo_ok X G (c.fact 21 (f:=.glo "unlike_of") rfl),_,Ul,YD,He.glo_ok X G (c.fact 22 (f:=.glo "days_that_tell") rfl),_,Um,YE,He.glo_ok X G (c.fact 23 (f:=.glo "partings") rfl),_,Uo,YF,He.glo_ok X G (c.fact 24 (f:=.glo "parted") rfl),_,Uq,YG,He.glo_ok X G (c.fact 25 (f:=.glo "with_one_more") rfl),_,Ur,YH,He.glo_ok X G (c.fact 26 (f:=.glo "fewest_looks") rfl),_,Us,YI,He.glo_ok X G (c.fact 27 (f:=.glo "left_at_worst") rfl),_,Ut,YJ,He.glo_ok X G (c.fact 28 (f:=.glo "next_look") rfl),_,Uu,YK,He.glo_ok X G (c.fact 29 (f:=.glo "_law_di_sack") rfl),_,Uv,YL,He.glo_ok X G (c.fact 30 (f:=.glo "_law_di_pick") rfl),_,Uw,YM,He.glo_ok X G (c.fact 31 (f:=.glo "_law_di_lengths") rfl),_,Ux,YN,He.glo_ok X G (c.fact 32 (f:=.glo "_law_di_set") rfl),_,Uy,YO,He.glo_ok X G (c.fact 33 (f:=.glo "_law_di_has") rfl),_,Uz,YQ,He.glo_ok X G (c.fact 34 (f:=.glo "_law_di_otherwise") rfl),_,UA,YR,He.glo_ok X G (c.fact 35 (f:=.glo "_law_di_sets") rfl),_,UC,YS,He.glo_ok X G (c.fact 36 (f:=.glo "_law_di_round") rfl),_,UD,YT,He.glo_ok X G (c.fact 37 (f:=.glo "_law_di_rows") rfl),_,UE,YU,He.glo_ok X G (c.fact 38 (f:=.glo "_law_di_unlike") rfl),_,UG,YV,He.glo_ok X G (c.fact 39 (f:=.glo "_law_di_noted") rfl),_,UH,YW,He.glo_ok X G (c.fact 40 (f:=.glo "_law_di_alike") rfl),_,UI,YX,He.glo_ok X G (c.fact 41 (f:=.glo "_law_di_untold") rfl),_,UJ,YY,He.glo_ok X G (c.fact 42 (f:=.glo "_law_di_worst") rfl),_,UK,YZ,He.glo_ok X G (c.fact 43 (f:=.glo "_law_di_led_right") rfl),_,UL,Y0,He.glo_ok X G (c.fact 44 (f:=.glo "law") rfl),He.free_ok X G (c.fact 45 (f:=.free "zip") rfl),He.free_ok X G (c.fact 46 (f:=.free "all") rfl),He.free_ok X G (c.fact 47 (f:=.free "len") rfl),He.free_ok X G (c.fact 48 (f:=.free "max") rfl),He.free_ok X G (c.fact 49 (f:=.free "range") rfl),He.free_ok X G (c.fact 50 (f:=.free "int") rfl),He.free_ok X G (c.fact 51 (f:=.free "enumerate") rfl),He.free_ok X G (c.fact 52 (f:=.free "tuple") rfl),He.free_ok X G (c.fact 53 (f:=.free "sorted") rfl),He.free_ok X G (c.fact 54 (f:=.free "list") rfl),He.free_ok X G (c.fact 55 (f:=.free "isinstance") rfl),He.free_ok X G (c.fact 56 (f:=.free "bool") rfl),He.free_ok X G (c.fact 57 (f:=.free "min") rfl),He.free_ok X G (c.fact 58 (f:=.free "abs") rfl)⟩⟩
theorem facts {P:Program}{w:World}{K:PySem.W.Frag}{h:Heap}{mg:Str->Option Value}{f:Addr}(X:K.In h)(G:h.Ns mainGlobals mg)(ZK:mg ("law" : Str)=some (.ref f))(c:He.SaysD fa fn K)(nn:Nat):
  ∃fd:FuncData,(∀(s:Shared) (v:Value),BindsTo s fd ⟨[v],[]⟩ [("_law_script",v)])/\∀base:Heap,K.In base->base.Ns mainGlobals mg->BP P w K mg base 10 f fd ["_law_script"] (u6 K nn):=by
 obtain⟨T⟩:=ZV X G c
 have e:=ZK.symm.trans T.Ll
 cases e
 have b:=FunD.bindsA (ps:=["_law_script"]) T.D9 λ_ _ _ _ _ _ us hl=>match us,hl with|[_],_=>rfl
 exact⟨_,λs v=>b s [v] rfl,λbase _ _=>Hy T DM (λns r x0 x1 _ r0 r1=>G8 ns r x0 x1 r0 r1)⟩
end tM
open PySem PySem.W PySem.Calls PyProof.Rows
theorem PySem.Challenge.cw_ladderdays_k50_whole_looks_that_find_the_holds : PySem.Challenge.rw_ladderdays_k50_whole_looks_that_find_the.Holds := by
 w_on; o_law
 refine HandSHeadRun.head_any (r := OpenLaw.row PySem.Challenge.rw_ladderdays_k50_whole_looks_that_find_the) (q := view (OpenLaw.row PySem.Challenge.rw_ladderdays_k50_whole_looks_that_find_the).prog [55]) (H := tM.hk) (ob := tM.ob) (M := 5000) (loose := [("__name__" : PySem.Str), ("copied" : PySem.Str), ("DaysError" : PySem.Str), ("InvalidSet" : PySem.Str), ("InvalidNote" : PySem.Str), ("always_rises" : PySem.Str), ("is_set" : PySem.Str), ("need_set" : PySem.Str), ("common_divisor" : PySem.Str), ("common_multiple" : PySem.Str), ("prime_parts" : PySem.Str), ("first_numbers" : PySem.Str), ("comes_again" : PySem.Str), ("least_length" : PySem.Str), ("least_way" : PySem.Str), ("least_row" : PySem.Str), ("first_of_row" : PySem.Str), ("set_row" : PySem.Str), ("set_from" : PySem.Str), ("has_day" : PySem.Str), ("least_set" : PySem.Str), ("check_notes" : PySem.Str), ("check_sets" : PySem.Str), ("fits" : PySem.Str), ("fitting" : PySem.Str), ("fitting_sets" : PySem.Str), ("unlike_of" : PySem.Str), ("days_that_tell" : PySem.Str), ("partings" : PySem.Str), ("parted" : PySem.Str), ("with_one_more" : PySem.Str), ("fewest_looks" : PySem.Str), ("left_at_worst" : PySem.Str), ("next_look" : PySem.Str), ("_law_di_sack" : PySem.Str), ("_law_di_pick" : PySem.Str), ("_law_di_lengths" : PySem.Str), ("_law_di_set" : PySem.Str), ("_law_di_has" : PySem.Str), ("_law_di_otherwise" : PySem.Str), ("_law_di_sets" : PySem.Str), ("_law_di_round" : PySem.Str), ("_law_di_rows" : PySem.Str), ("_law_di_unlike" : PySem.Str), ("_law_di_noted" : PySem.Str), ("_law_di_alike" : PySem.Str), ("_law_di_untold" : PySem.Str), ("_law_di_worst" : PySem.Str), ("_law_di_led_right" : PySem.Str)]) (d := HandSHeadRun.topDef (OpenLaw.row PySem.Challenge.rw_ladderdays_k50_whole_looks_that_find_the).prog 55) (kwd := []) tM.Mq
  (by kernel_rfl) (fun s => by kernel_rfl) tM.run (by kernel_rfl) (by kernel_rfl) (by kernel_rfl) (by rfl) (by first | assumption | decide +kernel) (by decide +kernel) ⟨rfl, rfl, rfl, rfl, rfl, by decide +kernel⟩ ?hw ?hc
 case hw => w_witness2
 case hc =>
  refine Pu.MS (l := PySem.Challenge.rw_ladderdays_k50_whole_looks_that_find_the) (n := 63) (k := 10) (x := "_law_script") rfl (by decide) (by kernel_rfl) ⟨rfl, by decide, by decide⟩ ?F
  intro w mg fa h Y G WL
  obtain ⟨K, KX, c⟩ := Y
  have hmg : mg ("law" : PySem.Str) = some (.ref fa) := by
   have e : (HandSHeadRun.topDef (OpenLaw.row PySem.Challenge.rw_ladderdays_k50_whole_looks_that_find_the).prog 55).name = ("law" : PySem.Str) := by kernel_rfl
   rw [← e]
   exact WL
  obtain ⟨fd, hb, hF⟩ := tM.facts (P := (PySem.Challenge.rw_ladderdays_k50_whole_looks_that_find_the).prog) (w := w) KX G hmg c 63
  exact ⟨K, fd, Pu.u6 K 63, KX, hb, fun T a ns hl hS => ⟨a, ns, rfl, hl, hS, ⟨fun p hp => absurd hp Kbm, fun _ _ z => nomatch z⟩, fun _ => rfl⟩, hF⟩
