import PyProof.Rows.All
import Wide.All
import OpenK.AllK
import Wide.FinOn
import KE.KExcSuper
import HandS.Exc
import HandS.ExcField
import HandS.ForMost
import HandS.HeadHook2
import HandS.Property
import PyProof.EqAt
import PyProof.EqKinds
import PyProof.TupleKey
import HandS.Wide
import HandS.Dict
import HandS.SetBool
import HandS.Conv
import HandS.SetFor
import KE.KeyNested
import HandS.ExcIs
import HandS.Lambda
import HandS.SortInts
import HandS.WideBits
import HandS.IsInst
import HandS.TupAny
import HandS.Style
import HandS.Defaults
import PyProof.ReprLen
import HandS.HeadEnd
import HandS.Iter
import HandS.DictComp
import HandS.TryOnly
import KE.KDictZip
import HandS.Set
import HandS.Strs
import PyProof.Rows.SetFrom
import PyProof.Rows.SortShellAny
import HandS.Star
import HandS.Text
import HandS.Deep
import PyProof.SliceStr2
import KE.KRevSl
import HandS.Codes
import HandS.List
import HandS.OwnEq
import HandS.Head2
import KE.KStateDown
import Lean
import HandS.Head0
import HandS.Head1
import HandS.HeadHook1
import PySem.Challenge.RW_ladderdays_k21_whole_calendars_told_apar
import HandS.TupLen
import HandS.DictTup
import KE.KDictDisplayH
import KE.LtSeq
import HandS.TupMul
import HandS.Zip
import HandS.ExcOwn
import HandS.WordsExc
import PyProof.EvalArms
import KE.DataMinMax
import HandS.SortKw
import PyProof.Rows.ChunkLeaf
import KE.SortData
import HandS.MakeKwOnly
import HandS.More
import PyProof.InstNe
import PyProof.FactsAll.object_1
import HandS.Words
open List renaming mem_cons_self→Kaa,mem_append_left→Kab,range→Kac,mem_cons_of_mem→Kad,length_map→Kaf,nodup_append→Kag,length_cons→Kah,mem_cons→Kai,map→Kaj,map_cons→Kal,length_append→Kam,getElem?_eq_getElem→Kao,flatten_cons→Kap,mem_of_getElem?→Kaq,length_pos_iff→Kar,map_congr_left→Kas,mem_append→Kat,map_append→Kav,mem_flatten→Kaw,mem_append_right→Kax,replicate→Kay,set_set→Kaz,length_range→KaB,append_nil→KaC,getD_eq_getElem?_getD→KaD,sum_append→KaE,mem_range→KaJ,map_map→KaL,mem_map→KaM,getElem?_map→KaO,nodup_cons→KaP,flatten_append→KaR,getElem?_set_ne→KaT,length_drop→KaW,length_take→KaX,nodup_nil→KaY,pairwise_cons→Ka1,foldl→Ka2,drop_eq_getElem_cons→Ka6,all_cons→Ka7,sum_cons→Ka8,getElem_mem→Kbb,append_assoc→Kbd,Sublist→Kbe,take_append_drop→Kbf,flatMap→Kbg,range_succ→Kbj,all_eq_true→Kbk,getElem?_append_right→Kbn,getElem?_set_self→Kbo,append_eq_nil_iff→Kbp,getElem?_range→Kbq,nil_append→Kbr,length_set→Kbs,not_mem_nil→Kbw,filter→Kbx,flatMap_cons→KbA,replicate_succ→KbB,length_nil→KbE,zip→KbF,take_of_length_le→KbG,drop_length→KbH,getElem?_eq_none→KbI,sublist_append_right→KbL,length→KbO,getElem?_cons_succ→KbP,length_eq_zero_iff→KbS,getElem_map→KbU,sum→KbW,mem_or_eq_of_mem_set→Kb5,ext_getElem→Kb7,set_comm→Kca,length_zip→Kcb,mem_filter→Kce,getElem_range→Kcf,range_succ_eq_map→Kcg,pairwise_lt_range→Kci,range_add→Kcj,reverse→Kck,all_map→Kcl,length_singleton→Kcn,zipIdx_cons→Kco,mem_of_mem_drop→Kcq,mem_of_mem_take→Kcr,zip_map'→Kcs,find?_cons→Kct,filter_eq_self→Kcu,zipIdx_nil→Kcv,forIn_cons→Kcw,foldl_cons→Kcz,filter_map→KcA,flatMap_append→KcB,mem_singleton→KcE,zip_cons_cons→KcF,forIn_nil→KcG,getElem?_append_left→KcH,reverse_cons→KcI,getD→KcK,getElem_take→KcL,pairwise_map→KcN,map_take→KcO,filter_cons_of_pos→KcQ,filter_cons_of_neg→KcR,range'→KcV,append_cancel_left→KcW,cons_append→KcX,flatMap_map→KcY,drop_eq_nil_of_le→KcZ,flatMap_singleton→Kc0,all_append→Kc1,all→Kc5,set→Kc6,drop_zero→Kc7,takeWhile→Kc8,mem_map_of_mem→Kdb,filter_sublist→Kdc,drop_succ_cons→Kdd,takeWhile_cons→Kde,any_cons→Kdf,take_nil→Kdg,getElem?_drop→Kdi,map_singleton→Kdl,size_toArray→Kdm,cons_eq_cons→Kdn,ext_getElem?→Kdo,foldl_append→Kdq,map_nil→Kdt,map_id'→Kdv,range'_succ→KdD,filter_cons→KdE
open Option renaming bind_some→Kae,map_eq_some_iff→Kan,getD→KaN,isSome→Kcc
open Nat renaming le_refl→Kak,le_trans→Kau,lt_or_ge→KaA,mul_div_cancel_left→KaF,le_of_dvd→KaH,dvd_trans→KaQ,mod_lt→KaS,mul_comm→KaV,mul_le_mul_right→KaZ,succ_mul→Ka0,le_add_right→Ka9,zero_le→Kbc,lt_succ_self→Kbl,mod_eq_of_lt→Kbm,dvd_refl→Kbt,lt_of_lt_of_le→Kbv,gcd→Kby,add_sub_cancel_left→Kbz,mod_add_div→KbC,min_eq_left→KbM,gcd_pos_of_pos_left→KbQ,dvd_of_mod_eq_zero→KbV,eq_zero_or_pos→KbX,div_le_self→KbY,zero_add→Kb0,gcd_dvd_right→Kb2,add_mod_right→Kb3,lt_trichotomy→Kb4,min_eq_right→Kb6,ne_of_gt→Kb8,add_assoc→Kcd,mod_eq_zero_of_dvd→Kch,zero_mul→Kcm,gcd_dvd_left→Kcp,le_antisymm→Kcx,div_pos→Kcy,lt_of_le_of_lt→KcC,ne_of_lt→KcD,lt_succ_of_lt→KcJ,mul_assoc→KcU,sub_self→Kc2,mul_succ→Kc4,mul_le_mul→Kc9,div_dvd_of_dvd→Kdh,div_mul_cancel→Kdj,gcd_zero_left→Kdp,le_of_lt→Kdw,le_max_right→KdA,div_eq_of_lt→KdB,gcd_rec→KdH,Coprime→KdI
open Bool renaming and_eq_true_iff→KaG,and_eq_true→KaU,or_eq_true_iff→Ka3,false_eq_true→KbJ,false_ne_true→Kb9,true_and→KcP,and_true→KcS,decide_eq_true→Kda,noConfusion→Kdy
open Int renaming natCast_emod→KaI,toNat_natCast→KaK,le_refl→Ka4,natAbs→Ka5,mul_le_mul_of_nonneg_left→Kba,toNat→Kbh,natCast_mul→Kbi,mul_le_mul_of_nonneg_right→Kbu,toNat_of_nonneg→KbD,emod_lt_of_pos→KbK,le_trans→KbN,mul_assoc→KbR,eq_ofNat_of_zero_le→KbT,mul_comm→KbZ,emod_nonneg→Kb1,mul_ediv_cancel_left→KcM,natCast_dvd_natCast→KcT,natCast_add→Kc3,natAbs_natCast→Kdk,emod_eq_of_lt→Kdr,zero_add→Kds,sub_zero→Kdu,mul_zero→Kdx,natCast_succ→Kdz,natCast_ediv→KdC,add_mul→KdF,one_mul→KdG
set_option Elab.async false
set_option linter.all false
set_option maxRecDepth 100000
theorem aL {α β:Type _}{x:Option α}{f:α->Option β}{b:β}(h:x.bind f=some b):∃a,x=some a/\f a=some b:=Option.bind_eq_some_iff.mp h
set_option maxHeartbeats 2000000
namespace Ex
open PySem PySem.W PySem.Calls PyProof.Rows PySem.HandSPX
def iA (k:Nat):Arguments:={ posonlyargs:=[],args:=[{ arg := "self",annotation:=none,pos:=⟨k,17,k,21⟩ },{ arg := "value",annotation:=none,pos:=⟨k,23,k,28⟩ }],vararg:=none,kwonlyargs:=[],kw_defaults:=[],kwarg:=none,defaults:=[] }
def iB (l m:Nat):List Stmt:=[.Expr (.Call (.Attribute (.Call (.Name "super" ⟨l,8,l,13⟩) [] [] ⟨l,8,l,15⟩) "__init__" ⟨l,8,l,24⟩) [.Constant (.str "ladderdays") 0 ⟨l,25,l,37⟩] [] ⟨l,8,l,38⟩) ⟨l,8,l,38⟩,
 .Assign [.Attribute (.Name "self" ⟨m,8,m,12⟩) "value" ⟨m,8,m,18⟩] (.Name "value" ⟨m,21,m,26⟩) ⟨m,8,m,26⟩]
def iS:Scope:={ kind:=.function,names:=[(PySem.Str.ofString "self",.local),(PySem.Str.ofString "value",.local),(PySem.Str.ofString "__class__",.free),(PySem.Str.ofString "super",.globalImplicit)],isGenerator:=false,isCoroutine:=false,more:=[] }
/-- what bh written part says of bh classes over DaysError: nm at C,DaysError at D,its __init__ at fI with bh cell cc and bh code cda -/
structure G4 (P:Program)(K:Frag)(mg:Str->Option Value)(nm:Str)(C D fI cc cda:Addr):Prop where
 gC:mg nm=some (.ref C)
 cls:∃nm q N bs bm sn sub ab col dd k0 k1 k2 k3 k5,K.lookup C=some (excClassObj nm q C N bs bm true sn sub ab col dd k0 k1 k2 k3 k5 "ValueError.__new__")/\refsVE bm=true
 sa:findIn K (.ref C) "__setattr__" = some (some (.builtin "object.__setattr__"))
 ga:findIn K (.ref C) "__getattribute__" = some (some (.builtin "BaseException.__getattribute__"))
 gg:findIn K (.ref C) "__getattr__" = some none
 noN:findIn K (.ref C) "value" = some none
 iC:findIn K (.ref C) "__init__" = some (some (.ref fI))
 tC:typeIn K (.ref fI)=some (.type "function")
 kC:keepIn K (.ref C)=true
 exC:subIn K (.ref C) (.type "BaseException")=some true
 tyC:typeIn K (.ref C)=some (.type "type")
 hdC:hasDictIn K C=true
 te:exmOne K (.ref C) (.ref C)=some true
 fn:∃(oc:Value) (od:Option Addr) (doc pm:Value) (an:Option Addr) (ct:Value) (osl:Array (Option Value)) (nk nl nn:Nat),
  K.lookup fI=some ⟨oc,od,.func (ksFn "__init__" "DaysError.__init__" (iA nk) (iB nl nn) iS .none .none doc pm an (.ref cda) ct cc),osl⟩/\codeIn K (.ref cda) "DaysError.__init__" = true
 code:∃(ccl:Value) (cdd:Option Addr) (vs:Array Value) (ccs:Array (Option Value)) (file:Str) (tf:Tok),K.lookup cda=some ⟨ccl,cdd,.fields vs,ccs⟩/\vs[2]? = some (.str file tf)/\((P.main.file:Str) == file)=true
 cell:∃(cl:Value) (cld:Option Addr) (csl:Array (Option Value)),K.lookup cc=some ⟨cl,cld,.cell (some (.ref D)),csl⟩
 clD:∃cdD,clsIn K D=some cdD
 sub:mroIn K C (.ref D)=some true
 noS:mg "super" = none
 bN:(P.main.scope.names.lookup ("super" : Str)).isSome=false
 sup:ks_superIn K C D "__init__" = some (some (.builtin "ValueError.__init__"))
 cq7:subIn K (.ref C) (.type "ValueError")=some true
 opq:nsIn K cStatics "thirdparty.any" = some none
 ca:findIn K (.ref C) "__class__" = some (some (.builtin "object.__class__"))
 cn:specialIn K (.builtin "object.__class__") "__get__" = some (some (.builtin "getset_descriptor.__get__"))
 ct:takesIn K (.builtin "object.__class__")=some true
 cm:mroIn K C (.type "object")=some true
 teD:exmOne K (.ref C) (.ref D)=some true
 gD:mg "DaysError" = some (.ref D)
end Ex
namespace L2
open PySem PySem.Spec PyProof.Rows
section
variable {X:Cx}{nm:Str}{C D fI cc cda:Addr}
/-- e.value,e bh exception eA bh suite holds (at a;its class cls,its dict d);Cs: bh classes it may have -/
def UZ (Cs:List Addr)(a:Addr)(cls:Value)(d:Option Addr)(te:TE):TE:=λσ H Q=>te σ H λx H1=>x=.ref a/\∃C∈Cs,cls=.ref C/\∃(dd:Addr) (v:V),d=some dd/\H1 dd=some (.xd [(("value" : Str),v)])/\Q v H1
end
end L2
namespace Ex
open PySem PySem.Spec PyProof.Rows L2 He
open PySem.W (Frag)
def MG (K:Frag)(C:Addr):Bool:=match K.lookup C with
 |some ⟨.type "type",_,.cls cd,sl⟩=>(match cd.mro,sl.toList with
  |.ref C'::bm,[_,_,_,_,some (.builtin n),_]=>decide (C'=C) && (decide (n = "ValueError.__new__") && (!cd.hasDel && (cd.hasDict && PySem.HandSPX.refsVE bm)))
  |_,_=>false)
 |_=>false
theorem HY {K:Frag}{C:Addr}(q:MG K C=true):∃nm q N bs bm sn sub ab col dd k0 k1 k2 k3 k5,K.lookup C=some (excClassObj nm q C N bs bm true sn sub ab col dd k0 k1 k2 k3 k5 "ValueError.__new__")/\PySem.HandSPX.refsVE bm=true:=by
 unfold MG at q
 split at q
 ·rename_i dd cd sl ho
  split at q
  ·rename_i C' bm k0 k1 k2 k3 n k5 hm hs
   obtain⟨h1,q⟩:=ba q
   obtain⟨h2,q⟩:=ba q
   obtain⟨h3,q⟩:=ba q
   obtain⟨h4,h5⟩:=ba q
   have e1:=of_decide_eq_true h1
   have e2:=of_decide_eq_true h2
   subst e1 e2
   obtain⟨nm,bs,mro,ns,qn,hd,sn,sub,ab,col,del⟩:=cd
   dsimp only at hm h3 h4
   have S5:del=false:=by simpa using h3
   subst hm S5 h4
   have hsl:sl=#[k0,k1,k2,k3,some (.builtin "ValueError.__new__"),k5]:=by
    obtain⟨l⟩:=sl
    simp only at hs
    rw [hs]
   subst hsl
   exact⟨_,_,_,_,_,_,_,_,_,_,_,_,_,_,_,ho,h5⟩
  ·cases q
 ·cases q
def dD (K:Frag):Addr:=ga K "DaysError"
def dI (K:Frag):Addr:=ma K (dD K) "__init__"
def Rm (K:Frag):Option FuncData:=match K.lookup (dI K) with
 |some ⟨_,_,.func fd,_⟩=>some fd
 |_=>none
def V4 (K:Frag):Addr:=match Rm K with
 |some fd=>(match fd.closure with
  |[(_,c)]=>c
  |_=>0)
 |none=>0
def Rl (K:Frag):Addr:=match Rm K with
 |some fd=>(match fd.code with
  |.ref c=>c
  |_=>0)
 |none=>0
abbrev Vg:Type:=Option (Str×Str×Arguments×FuncBody×Scope×Addr×List Str×Addr)
def W8 (K:Frag):Vg:=match K.lookup (dI K) with
 |some ⟨_,_,.func fd,_⟩=>some (fd.name,fd.qualname,fd.params,fd.body,fd.scope,fd.globals,fd.closure.map (·.1),fd.builtins)
 |_=>none
def JL (nk nl nn:Nat):Vg:=some ("__init__", "DaysError.__init__",iA nk,.stmts (iB nl nn),iS,mainGlobals,[("__class__" : Str)],builtinsNs)
def Eh:Value->Bool
 |.none=>true
 |_=>false
theorem yX {v:Value}(h:Eh v=true):v=.none:=by cases v <;> first|rfl|cases h
/-- bh base class and its __init__ -/
def CF (K:Frag)(file:Str):Bool:=decide (PySem.W.typeIn K (.ref (dI K))=some (.type "function")) && ((match Rm K with
  |some fd=>Eh fd.defaults && (Eh fd.kwdefaults && PySem.W.codeIn K fd.code "DaysError.__init__")
  |none=>false) && ((match K.lookup (Rl K) with
  |some ⟨_,_,.fields vs,_⟩=>(match (vs[2]?:Option Value) with
   |some (.str z _)=>file == z
   |_=>false)
  |_=>false) && ((match K.lookup (V4 K) with
  |some ⟨_,_,.cell (some (.ref D)),_⟩=>decide (D=dD K)
  |_=>false) && ((PySem.W.clsIn K (dD K)).isSome && (eqO (PySem.W.nsIn K mainGlobals "super") (some none) && (eqO (PySem.W.nsIn K cStatics "thirdparty.any") (some none) && (eqO (PySem.W.nsIn K mainGlobals "DaysError") (some (some (.ref (dD K)))) && (eqO (PySem.W.specialIn K (.builtin "object.__class__") "__get__") (some (some (.builtin "getset_descriptor.__get__"))) && decide (PySem.W.takesIn K (.builtin "object.__class__")=some true)))))))))
/-- an WI class -/
def exB (K:Frag)(x:Str):Bool:=eqO (PySem.W.nsIn K mainGlobals x) (some (some (.ref (ga K x)))) && (MG K (ga K x) && (eqO (PySem.W.findIn K (.ref (ga K x)) "__setattr__") (some (some (.builtin "object.__setattr__"))) &&
 (eqO (PySem.W.findIn K (.ref (ga K x)) "__getattribute__") (some (some (.builtin "BaseException.__getattribute__"))) && (eqO (PySem.W.findIn K (.ref (ga K x)) "__getattr__") (some none) && (eqO (PySem.W.findIn K (.ref (ga K x)) "value") (some none) &&
 (eqO (PySem.W.findIn K (.ref (ga K x)) "__init__") (some (some (.ref (dI K)))) && (PySem.W.keepIn K (.ref (ga K x)) && (decide (PySem.W.subIn K (.ref (ga K x)) (.type "BaseException")=some true) && (decide (PySem.W.typeIn K (.ref (ga K x))=some (.type "type")) &&
 (PySem.W.hasDictIn K (ga K x) && (decide (PySem.W.exmOne K (.ref (ga K x)) (.ref (ga K x))=some true) && (decide (PySem.W.mroIn K (ga K x) (.ref (dD K))=some true) && (eqO (PySem.W.ks_superIn K (ga K x) (dD K) "__init__") (some (some (.builtin "ValueError.__init__"))) &&
 (decide (PySem.W.subIn K (.ref (ga K x)) (.type "ValueError")=some true) && (eqO (PySem.W.findIn K (.ref (ga K x)) "__class__") (some (some (.builtin "object.__class__"))) && (decide (PySem.W.mroIn K (ga K x) (.type "object")=some true) && decide (PySem.W.exmOne K (.ref (ga K x)) (.ref (dD K))=some true)))))))))))))))))
theorem MJ {K:Frag}{nk nl nn:Nat}{file:Str}(e:W8 K=JL nk nl nn)(b:CF K file=true):∃(oc:Value) (od:Option Addr) (doc pm:Value) (an:Option Addr) (ct:Value) (osl:Array (Option Value)),
  K.lookup (dI K)=some ⟨oc,od,.func (PySem.W.ksFn "__init__" "DaysError.__init__" (iA nk) (iB nl nn) iS .none .none doc pm an (.ref (Rl K)) ct (V4 K)),osl⟩/\PySem.W.codeIn K (.ref (Rl K)) "DaysError.__init__" = true:=by
 obtain⟨_,b⟩:=ba b
 obtain⟨b,_⟩:=ba b
 unfold Rm at b
 unfold Rl V4 Rm
 unfold W8 JL at e
 cases q:K.lookup (dI K) with
 |none=>rw [q] at b;cases b
 |some o=>
  obtain⟨oc,od,dt,osl⟩:=o
  rw [q] at b e
  cases dt with
  |func fd=>
   obtain⟨n1,n2,n3,n4,n5,n6,n7,n8,n9,n10,n11,n12,n13,n14,n15⟩:=fd
   have e2:(some (n1,n2,n3,n4,n5,n6,n7.map (·.1),n15):Vg)=_:=e
   simp only [Option.some.injEq,Prod.mk.injEq] at e2
   obtain⟨h1,h2,h3,h4,h5,h6,h7,h8⟩:=e2
   subst h1 h2 h3 h4 h5 h6 h8
   have b2:(Eh n8 && (Eh n9 && PySem.W.codeIn K n13 "DaysError.__init__"))=true:=b
   obtain⟨b3,b4⟩:=ba b2
   obtain⟨b5,b6⟩:=ba b4
   have e8:=yX b3
   have e9:=yX b5
   subst e8 e9
   obtain⟨c,ec⟩:∃c,n13=.ref c:=by
    cases n13 with
    |ref c=>exact⟨c,rfl⟩
    |_=>cases b6
   subst ec
   match n7,h7 with
   |[(y,cc)],h7=>
    have ey:y=("__class__" : Str):=by
     have z:[y]=[("__class__" : Str)]:=h7
     exact (List.cons.inj z).1
    subst ey
    exact⟨oc,od,n10,n11,n12,n14,osl,rfl,b6⟩
  |_=>cases b
abbrev Of:Type:=AlD×Bool×Vg
/-- isinstance of errors -/
def kitB (K:Frag)(x y:Str):Bool:=decide (PySem.W.kitOne K (.ref (ga K x)) (.ref (ga K y))=some (decide (x=y)))
def obsE (fa:List Fa)(fn:List DefD)(xs:List Str)(file:Str)(K:Frag):Of:=(obsD fa fn K,CF K file && xs.all λx=>exB K x && xs.all λy=>kitB K x y,W8 K)
def valE (fn:List DefD)(nk nl nn:Nat):Of:=(valD fn,true,JL nk nl nn)
def SaysE (fa:List Fa)(fn:List DefD)(xs:List Str)(file:Str)(nk nl nn:Nat)(K:Frag):Prop:=obsE fa fn xs file K=valE fn nk nl nn
section
variable {fa:List Fa}{fn:List DefD}{xs:List Str}{file:Str}{nk nl nn:Nat}{K:Frag}
theorem SaysE.d (c:SaysE fa fn xs file nk nl nn K):SaysD fa fn K:=congrArg (λz:Of=>z.1) c
theorem SaysE.days {P:Program}{h:Heap}{mg:Str->Option Value}(c:SaysE fa fn xs file nk nl nn K)(X:K.In h)(G:h.Ns mainGlobals mg)(hf:P.main.file=file)(ht:(P.main.scope.names.lookup ("super" : Str)).isSome=false){x:Str}(hx:x∈xs):
  G4 P K mg x (ga K x) (dD K) (dI K) (V4 K) (Rl K):=by
 have c1:(CF K file && xs.all λx=>exB K x && xs.all λy=>kitB K x y)=true:=congrArg (λz:Of=>z.2.1) c
 have c2:W8 K=JL nk nl nn:=congrArg (λz:Of=>z.2.2) c
 obtain⟨b,xb⟩:=ba c1
 have e:=(ba (Kbk.mp xb x hx)).1
 obtain⟨oc,od,doc,pm,an,ct,osl,hfn,hco⟩:=MJ c2 b
 obtain⟨b1,b⟩:=ba b
 obtain⟨_,b⟩:=ba b
 obtain⟨b3,b⟩:=ba b
 obtain⟨b4,b⟩:=ba b
 obtain⟨b5,b⟩:=ba b
 obtain⟨b6,b⟩:=ba b
 obtain⟨b7,b⟩:=ba b
 obtain⟨b8,b⟩:=ba b
 obtain⟨b9,YM⟩:=ba b
 obtain⟨e1,e⟩:=ba e
 obtain⟨e2,e⟩:=ba e
 obtain⟨e3,e⟩:=ba e
 obtain⟨e4,e⟩:=ba e
 obtain⟨e5,e⟩:=ba e
 obtain⟨e6,e⟩:=ba e
 obtain⟨e7,e⟩:=ba e
 obtain⟨e8,e⟩:=ba e
 obtain⟨e9,e⟩:=ba e
 obtain⟨Wr,e⟩:=ba e
 obtain⟨e11,e⟩:=ba e
 obtain⟨O2,e⟩:=ba e
 obtain⟨Ws,e⟩:=ba e
 obtain⟨e14,e⟩:=ba e
 obtain⟨Z2,e⟩:=ba e
 obtain⟨Wt,e⟩:=ba e
 obtain⟨e17,Z3⟩:=ba e
 refine⟨PySem.W.mg_of X G (eqO_ok e1),HY e2,eqO_ok e3,eqO_ok e4,eqO_ok e5,eqO_ok e6,eqO_ok e7,of_decide_eq_true b1,e8,of_decide_eq_true e9,of_decide_eq_true Wr,e11,of_decide_eq_true O2,
  ⟨oc,od,doc,pm,an,ct,osl,nk,nl,nn,hfn,hco⟩,?_,?_,?_,of_decide_eq_true Ws,PySem.W.mg_none_of X G (eqO_ok b6),ht,eqO_ok e14,of_decide_eq_true Z2,eqO_ok b7,eqO_ok Wt,eqO_ok b9,of_decide_eq_true YM,of_decide_eq_true e17,of_decide_eq_true Z3,PySem.W.mg_of X G (eqO_ok b8)⟩
 ·split at b3
  ·rename_i ccl cdd vs ccs q
   split at b3
   ·rename_i z tf q2
    exact⟨ccl,cdd,vs,ccs,z,tf,q,q2,by rw [hf];exact b3⟩
   ·cases b3
  ·cases b3
 ·split at b4
  ·rename_i cl cld D csl q
   have z:=of_decide_eq_true b4
   subst z
   exact⟨cl,cld,csl,q⟩
  ·cases b4
 ·exact Option.isSome_iff_exists.mp b5
end
end Ex
namespace Ex
open PySem PySem.Spec PyProof.Rows L2 He
open PySem.W (Frag)
/-- bh property x.f,its getter -/
def Ux (K:Frag)(p:Str×Option Str):Addr:=fAd K p
def Lu (K:Frag)(p:Str×Option Str):Addr:=match PySem.W.recIn K (Ux K p) "property" with
 |some (.ref g::_)=>g
 |_=>0
def MK (K:Frag)(a:Addr):FnW:=match K.lookup a with
 |some ⟨_,_,.func fd,_⟩=>some (fd.name,fd.qualname,fd.params,fd.body,fd.scope,fd.globals,fd.closure,fd.builtins)
 |_=>none
def EO (K:Frag)(a:Addr)(d:DefD):Bool:=PySem.W.keepIn K (.ref a) && (match K.lookup a with
 |some ⟨_,_,.func fd,_⟩=>PySem.W.codeIn K fd.code d.qual && (dflB K fd.defaults (d.dvs K) && kwdB K fd.kwdefaults (d.kws K))
 |_=>false)
def isRec (l:Option (List Value))(g:Addr):Bool:=match l with
 |some (.ref g'::_)=>decide (g'=g)
 |_=>false
def Uw (K:Frag)(p:Str×Option Str):Bool:=match p.2 with
 |none=>false
 |some f=>eqO (PySem.W.findIn K (.ref (ga K p.1)) f) (some (some (.ref (Ux K p)))) && (eqO (PySem.W.specialIn K (.ref (Ux K p)) "__get__") (some (some (.builtin "property.__get__"))) && (decide (PySem.W.takesIn K (.ref (Ux K p))=some true) && isRec (PySem.W.recIn K (Ux K p) "property") (Lu K p)))
abbrev Yq:Type:=Of×Bool×List FnW
def cqF (fa:List Fa)(fn:List DefD)(xs:List Str)(ps:List DefD)(file:Str)(K:Frag):Yq:=(obsE fa fn xs file K,ps.all (λd=>Uw K d.at_ && EO K (Lu K d.at_) d),ps.map λd=>MK K (Lu K d.at_))
def cqR (fn ps:List DefD)(nk nl nn:Nat):Yq:=(valE fn nk nl nn,true,ps.map DefD.val)
def JV (fa:List Fa)(fn:List DefD)(xs:List Str)(ps:List DefD)(file:Str)(nk nl nn:Nat)(K:Frag):Prop:=cqF fa fn xs ps file K=cqR fn ps nk nl nn
section
variable {fa:List Fa}{fn:List DefD}{xs:List Str}{ps:List DefD}{file:Str}{nk nl nn:Nat}{K:Frag}
theorem JV.e (c:JV fa fn xs ps file nk nl nn K):SaysE fa fn xs file nk nl nn K:=congrArg (λz:Yq=>z.1) c
end
end Ex
namespace Hf
open PySem PySem.Spec PyProof.Rows L2 He
open PySem.W (Frag)
def Y3 (g:Addr->Option Obj):List Addr:=(asD g 1).filter λa=>match g a with
 |some o=>(match o.data with
  |.cls _=>true
  |_=>false)
 |none=>false
def yJ (g:Addr->Option Obj):Nat->List Addr->List Addr
 |0,as=>as
 |n+1,as=>yJ g n (growD g as)
def asF (g:Addr->Option Obj)(n:Nat):List Addr:=(asD g 2++yJ g n (Y3 g)).eraseDups
end Hf
namespace Pu
open PySem PySem.Spec PyProof.Rows L2
/-- bh hash of cq8 a key (there is no text in it) -/
def DP:List NestedKey->List Int
 |[]=>[]
 |.num i::ks=>hashInt i::DP ks
 |_::ks=>0::DP ks
def Td:NestedKey->Int
 |.num i=>hashInt i
 |.tup ks=>reduceHash (Builtin.Tuple.tupleHashOf (DP ks))
 |_=>0
def Tc:NestedKey->Int
 |.tup ks=>reduceHash (Builtin.Tuple.tupleHashOf (ks.map Td))
 |_=>0
abbrev ju:=NestedKey×Addr×V
def aqD (q:NestedKey×Addr×Value):DictEntry:=⟨Tc q.1,.ref q.2.1,q.2.2⟩
def KX (p:ju)(q:NestedKey×Addr×Value):Prop:=p.1=q.1/\p.2.1=q.2.1/\RelV p.2.2 q.2.2
def YD (a:Addr)(ws:List ju)(h:Heap):Prop:=ws.length<=sizeLine/\(a == sysModules)=false/\∃xs,Paired KX ws xs/\∃o es ep,h.get? a=some o/\o.ExactDict/\o.data=.dict es ep/\es.toList=xs.map aqD/\(xs.map (·.1)).Nodup
def Og (a:Addr)(ws:List ju):HO:=.ext (YD a ws)
def Ja:V->Option Int
 |.int i=>some i
 |.bl b=>some (PpSet.b2 b)
 |_=>none
def xS (H:Hp)(k:NestedKey)(v:V):Prop:=(∃i,k=.num i/\Ja v=some i)∨∃(a:Addr) (vs:List V) (ns:List Int),v=.ref a/\k=.tup (ns.map .num)/\Rd H a (.tup vs)/\vs.map Ja=ns.map some
def zZ (H:Hp)(k:NestedKey)(b:Addr):Prop:=∃(vs:List V) (ks:List NestedKey),k=.tup ks/\Rd H b (.tup vs)/\Paired (xS H) ks vs
theorem Fc {H H':Hp}(s:Same H H'){b:Addr}{vs:List V}(e:Rd H b (.tup vs)):Rd H' b (.tup vs):=by
 rcases e with e|⟨o,e⟩
 ·exact .inl (s _ _ e)
 ·exact .inr ⟨o,s _ _ e⟩
theorem xS.mono {H H':Hp}(s:Same H H'){k:NestedKey}{v:V}(h:xS H k v):xS H' k v:=by
 rcases h with h|⟨a,vs,ns,h1,h2,h3,h4⟩
 ·exact .inl h
 ·exact .inr ⟨a,vs,ns,h1,h2,Fc s h3,h4⟩
theorem zZ.mono {H H':Hp}(s:Same H H'){k:NestedKey}{b:Addr}(h:zZ H k b):zZ H' k b:=by
 obtain⟨vs,ks,e,r,p⟩:=h
 refine⟨vs,ks,e,Fc s r,?_⟩
 clear e r
 induction p with
 |nil=>exact .nil
 |cons h _ ih=>exact .cons (h.mono s) ih
def xK (ws:List ju)(k:NestedKey):Option V:=(ws.find? λx=>decide (x.1=k)).map λx=>x.2.2
def tN (ws:List ju)(k:NestedKey)(b:Addr)(v:V):List ju:=if (xK ws k).isSome then ws.map (λp=>if p.1=k then (p.1,p.2.1,v) else p) else ws++[(k,b,v)]
theorem Bp {p:ju}{ws:List ju}{k:NestedKey}:xK (p::ws) k=if p.1=k then some p.2.2 else xK ws k:=by
 unfold xK
 rw [Kct]
 by_cases c:p.1=k
 ·rw [if_pos c,decide_eq_true c];rfl
 ·rw [if_neg c,decide_eq_false c]
section
variable {ws:List ju}{xs:List (NestedKey×Addr×Value)}
theorem KX.val (r:Paired KX ws xs)(k:NestedKey):RelO (xK ws k) ((atKey xs k).map (·.2)):=by
 induction r with
 |nil=>exact True.intro
 |@cons p q ps qs h t ih=>
  obtain⟨h1,_,h2⟩:=h
  rw [Bp]
  by_cases e:p.1=k
  ·have e':q.1=k:=h1.symm.trans e
   have b:atKey (q::qs) k=some q.2:=by simp [atKey,Kct,e']
   rw [if_pos e,b];exact h2
  ·have e':¬q.1=k:=λz=>e (h1.trans z)
   have b:atKey (q::qs) k=atKey qs k:=by simp [atKey,Kct,e']
   rw [if_neg e,b];exact ih
theorem KX.isSome (r:Paired KX ws xs)(k:NestedKey):(xK ws k).isSome=(atKey xs k).isSome:=by
 have q:=(KX.val r k).isSome_eq
 rw [Option.isSome_map] at q
 exact q
theorem KX.repl (r:Paired KX ws xs)(k:NestedKey){y:V}{u:Value}(ry:RelV y u):Paired KX (ws.map (λp=>if p.1=k then (p.1,p.2.1,y) else p)) (xs.map (putAt k u)):=by
 induction r with
 |nil=>exact .nil
 |@cons p q ps qs h t ih=>
  rw [Kal,Kal]
  refine .cons ?_ ih
  obtain⟨h1,h2,h3⟩:=h
  unfold putAt
  by_cases e:p.1=k
  ·rw [if_pos e,if_pos (h1.symm.trans e)];exact⟨h1,h2,ry⟩
  ·rw [if_neg e,if_neg (λz=>e (h1.trans z))];exact⟨h1,h2,h3⟩
theorem KX.put (r:Paired KX ws xs)(k:NestedKey){b:Addr}{y:V}{u:Value}(ry:RelV y u):Paired KX (tN ws k b y) (storedH xs k b u):=by
 unfold tN storedH
 rw [KX.isSome r k]
 by_cases q:(atKey xs k).isSome=true
 ·rw [if_pos q,if_pos q];exact KX.repl r k ry
 ·rw [if_neg q,if_neg q];exact Paired.snoc r ⟨rfl,rfl,ry⟩
theorem KX.all {Φ:NestedKey->Addr->Prop}(r:Paired KX ws xs)(h:∀p∈ws,Φ p.1 p.2.1):∀x∈xs,Φ x.1 x.2.1:=by
 induction r with
 |nil=>intro x hx;exact nomatch hx
 |@cons p q ps qs hq t ih=>
  intro x hx
  rcases Kai.mp hx with e|hx
  ·subst e
   rw [<-hq.1,<-hq.2.1]
   exact h p Kaa
  ·exact ih (λp hp=>h p (Kad _ hp)) x hx
end
section
variable {P:Program}{w:World}{H:Hp}{h:Heap}{a b:Addr}{k:NestedKey}{ws:List ju}
theorem YD.ok (x:YD a ws h):ObjOk P w H h a (Og a ws):=by
 refine⟨x,?_,λh1 h2 p k=>?_⟩
 ·obtain⟨_,_,_,_,o,_,_,e,_⟩:=x;exact⟨o,e⟩
 ·obtain⟨z,y,xs,r,o,es,ep,e,c⟩:=p
  exact⟨z,y,xs,r,o,es,ep,k _ e,c⟩
end
/-- tuple(x) of a list: a new tuple,its object told -/
def TM (K:PySem.W.Frag)(x:V)(H:Hp)(Q:VK):Prop:=
 ∃p xs,x=.ref p/\SqL K H p xs/\∀q o,H q=none->(o.cls=.type "tuple" /\ o.dict=none)->Q (.ref q) (upd H q (.frz o (.tup xs)))
end Pu
namespace L2
open PySem PySem.Spec PyProof.Rows
/-- an error eA is known to bh object -/
def Vf (o:Obj):HO:=.frz o (.ext λ_=>True)
/-- of a class,with its dict -/
def ExZ (cls:Value)(d:Option Addr)(o:Obj):Prop:=o.cls=cls/\o.dict=d/\∃vs,o.data=.fields vs
abbrev Cx.kept (X:Cx)(pn:List (Addr×Obj)):Cx:={ X with pn:=pn }
section
variable {X:Cx}{pins:List (Addr×Obj)}{σ:St}{H:Hp}{s:Shared}
theorem Cx.Ok.kept {X:Cx}(ok:X.Ok)(pn:List (Addr×Obj)):(X.kept pn).Ok:=
 ⟨ok.mod,ok.kind,ok.glob,ok.blt,ok.above,ok.inj,ok.has,ok.cab,ok.hd,ok.frames,ok.stk,ok.exf,ok.bs,ok.bsz,ok.noex,ok.exfs,ok.funs,ok.frf⟩
end
end L2
namespace Pu
open PySem L2
/-- bh tables of code objects,with bh names of bh code eA JH tell -/
class aO where
 T:List (Addr×Str)
/-- no tables -/
instance (priority:=low) cqB:aO:=⟨[]⟩
variable [aO]
/-- what never changes once it is tracked -/
abbrev um (o:HO):Prop:=∀ps,o≠.tbl ps
/-- IW a table nor a code object -/
structure Plain (o:HO):Prop where
 st:∀ps,o≠.tbl ps
 nc:∀c q,o≠LamX.CodeO c q
theorem Xc {o:HO}(h:(match o with|.tbl _=>False|.ext _=>False|_=>True)):Plain o:=⟨λps z=>by subst z;exact h,λc q z=>by subst z;exact h⟩
theorem rW {vs:List V}:Plain (.lst vs):=Xc trivial
/-- bh tables stand,and none is frozen -/
structure dM (F H:Hp):Prop where
 t:LamX.Tabs aO.T H
 n:∀a ps,F a≠some (.tbl ps)
abbrev ow (H:Hp):Prop:=dM (λ_=>none) H
theorem dM.low {F H:Hp}(t:dM F H):ow H:=⟨t.t,λa ps z=>nomatch z⟩
theorem dM.back {F F' H:Hp}(t:dM F H)(h:∀a o,F' a=some o->F a=some o):dM F' H:=⟨t.t,λa ps z=>t.n a ps (h _ _ z)⟩
theorem dM.vR {F H:Hp}{p:Addr}{o:HO}(t:dM F H)(h:um o:=by intro ps z;cases z):dM (L2.upd F p o) H:=⟨t.t,λa ps z=>by
 by_cases e:a=p
 ·rw [e,upd_same] at z;exact h ps (Option.some.inj z)
 ·rw [upd_ne e] at z;exact t.n a ps z⟩
theorem gza {F H H':Hp}(t:dM F H)(h:∀b o,H b=some o->H' b=some o∨Plain o):dM F H':=⟨λp hp=>by
 obtain⟨ps,h1,h2,h3⟩:=t.t p hp
 rcases h _ _ h1 with z|z
 ·refine⟨ps,z,h2,λpos cv hc=>?_⟩
  obtain⟨c,e1,e2⟩:=h3 pos cv hc
  rcases h _ _ e2 with y|y
  ·exact⟨c,e1,y⟩
  ·exact absurd rfl (y.nc c p.2)
 ·exact absurd rfl (z.st ps),t.n⟩
theorem Ww {F H H':Hp}(t:dM F H)(h:∀b o,H b=some o->H' b=some o):dM F H':=gza t λb o e=>.inl (h b o e)
theorem fze {F H:Hp}{p:Addr}{o:HO}(t:dM F H)(np:H p=none):dM F (upd H p o):=Ww t λb u e=>by rw [upd_ne (ne_of_none e np)];exact e
theorem Xl {F H:Hp}{p:Addr}{o o':HO}(t:dM F H)(e:H p=some o)(h:Plain o):dM F (upd H p o'):=gza t λb u eb=>by
 by_cases z:b=p
 ·subst z
  rw [e] at eb
  cases eb
  exact .inr h
 ·exact .inl (by rw [upd_ne z];exact eb)
theorem RP {F H:Hp}{p:Addr}{vs:List V}{o':HO}(t:dM F H)(e:H p=some (.lst vs)):dM F (upd H p o'):=Xl t e rW
abbrev ae:=Int×Int×Int
abbrev Vl:=PyData×Bool
mutual
def nd:PyData->Bool
 |.list xs=>jO xs
 |.tuple xs=>jO xs
 |.dict _=>false
 |_=>true
def jO:List PyData->Bool
 |[]=>true
 |x::xs=>nd x && jO xs
end
mutual
theorem rT:∀d:PyData,d.canLay0=true->nd d=true
 |.none,_=>rfl
 |.bool _,_=>rfl
 |.int _,_=>rfl
 |.str _,_=>rfl
 |.list xs,h=>by unfold nd;exact eze xs (by simpa [PyData.canLay0] using h)
 |.tuple xs,h=>by unfold nd;exact eze xs (by simpa [PyData.canLay0] using h)
 |.dict kvs,h=>by simp [PyData.canLay0] at h
theorem eze:∀ds:List PyData,PyData.canLayAll0 ds=true->jO ds=true
 |[],_=>rfl
 |x::xs,h=>by
  have h':x.canLay0=true/\PyData.canLayAll0 xs=true:=by simpa [PyData.canLayAll0] using h
  unfold jO
  rw [rT x h'.1,eze xs h'.2];rfl
end
theorem Mr {d:PyData}(h:SeqAt.shaped d=true):nd d=true:=rT d (SeqAt.canLay_of_shaped h)
/-- a dict with texts as keys,as data -/
abbrev HM (b:Bool)(ks:List Str)(ds:List PyData):PyData:=.dict ((.bool b,.bool true)::(ks.map .str).zip ds)
abbrev Ky (ks:List Str)(ds:List PyData):PyData:=HM true ks ds
def Lh:List Str->List V->Str->Option V
 |k::ks,v::vs,x=>if k=x then some v else Lh ks vs x
 |_,_,_=>none
structure Qi (b:Bool)(ws:List (Key×V))(ks:List Str)(vs:List V)(ds:List PyData):Prop where
 len:ks.length=vs.length
 lend:ks.length=ds.length
 le:ws.length<=ks.length
 int:∀i:Int,valV ws (.inl i)=none
 str:∀x:Str,valV ws (.inr x)=Lh ks vs x
 ord:b=false->ws.map (·.1)=ks.map Sum.inr
/-- an instance,as data: its VI address,its JZ names,what JH hold -/
abbrev bQ (C:Addr)(nm:List Str)(ds:List PyData):PyData:=.dict [(.int (C:Nat),.list (nm.map .str)),(.none,.list ds)]
mutual
inductive Rp (F:Hp):V->PyData->List Addr->Prop
 |non:Rp F .non .none []
 |bl (b:Bool):Rp F (.bl b) (.bool b) []
 |int (i:Int):Rp F (.int i) (.int i) []
 |str (x:Str):Rp F (.str x) (.str x) []
 |lst {a:Addr} {xs:List V} {ds:List PyData} {as:List Addr}:F a=some (.lst xs)->ah F xs ds as->Rp F (.ref a) (.list ds) (a::as)
 |tup {a:Addr} {xs:List V} {ds:List PyData} {as:List Addr}:F a=some (.tup xs)->ah F xs ds as->Rp F (.ref a) (.tuple ds) as
 |tupP {a:Addr} {o:Obj} {xs:List V} {ds:List PyData} {as:List Addr}:F a=some (.frz o (.tup xs))->o.cls=.type "tuple" /\ o.dict=none->ah F xs ds as->Rp F (.ref a) (.dict [(.list [],.tuple ds)]) as
 |jA {a C dx:Addr} {nm:List Str} {vs:List V} {ds:List PyData} {as:List Addr}:F a=some (.ins C dx (nm.zip vs))->nm.length=ds.length->ah F vs ds as->Rp F (.ref a) (.dict [(.int (C:Nat),.list (nm.map .str)),(.none,.list ds)]) as
 |lI {a C dd:Addr} {nm:Str} {o:Obj} {v:V} {d:PyData} {as:List Addr}:F a=some (L2.Vf o)->L2.ExZ (.ref C) (some dd) o->F dd=some (.xd [(("value" : Str),v)])->Rp F v d as->Rp F (.ref a) (.dict [(.int (C:Nat),.str nm),(.none,d)]) as
 |lE {b:Bool} {a:Addr} {ws:List (Key×V)} {ks:List Str} {vs:List V} {ds:List PyData} {as:List Addr}:F a=some (.dK ws)->Qi b ws ks vs ds->ah F vs ds as->Rp F (.ref a) (HM b ks ds) as
inductive ah (F:Hp):List V->List PyData->List Addr->Prop
 |nil:ah F [] [] []
 |cons {v:V} {vs:List V} {d:PyData} {ds:List PyData} {as bs:List Addr}:Rp F v d as->ah F vs ds bs->ah F (v::vs) (d::ds) (as++bs)
end
section
variable {F F' H H':Hp}{v:V}{d:PyData}{as:List Addr}
mutual
theorem Rp.mono (e:Same F F'):∀{v:V} {d:PyData} {as:List Addr},Rp F v d as->Rp F' v d as
 |_,_,_,.non=>.non
 |_,_,_,.bl b=>.bl b
 |_,_,_,.int i=>.int i
 |_,_,_,.str x=>.str x
 |_,_,_,.lst h r=>.lst (e _ _ h) (ah.mono e r)
 |_,_,_,.tup h r=>.tup (e _ _ h) (ah.mono e r)
 |_,_,_,.tupP h c r=>.tupP (e _ _ h) c (ah.mono e r)
 |_,_,_,.jA h c r=>.jA (e _ _ h) c (ah.mono e r)
 |_,_,_,.lI h z k r=>.lI (e _ _ h) z (e _ _ k) (Rp.mono e r)
 |_,_,_,.lE h c r=>.lE (e _ _ h) c (ah.mono e r)
theorem ah.mono (e:Same F F'):∀{vs:List V} {ds:List PyData} {as:List Addr},ah F vs ds as->ah F' vs ds as
 |_,_,_,.nil=>.nil
 |_,_,_,.cons h r=>.cons (Rp.mono e h) (ah.mono e r)
end
mutual
theorem Rp.dp {K:PySem.W.Frag}:∀{v:V} {d:PyData} {as:List Addr},Rp F v d as->nd d=true->Dp K F v d
 |_,_,_,.non,_=>.non
 |_,_,_,.bl b,_=>.bl b
 |_,_,_,.int i,_=>.int i
 |_,_,_,.str x,_=>.str x
 |_,_,_,.lst h r,n=>.lst (.inl (.inl h)) (ah.dp r (by unfold nd at n;exact n))
 |_,_,_,.tup h r,n=>.tup (.inl (.inl h)) (ah.dp r (by unfold nd at n;exact n))
 |_,_,_,.tupP h c r,n=>by unfold nd at n;cases n
 |_,_,_,.jA h c r,n=>by unfold nd at n;cases n
 |_,_,_,.lI h _ k r,n=>by unfold nd at n;cases n
 |_,_,_,.lE h c r,n=>by unfold nd at n;cases n
theorem ah.dp {K:PySem.W.Frag}:∀{vs:List V} {ds:List PyData} {as:List Addr},ah F vs ds as->jO ds=true->DpAll K F vs ds
 |_,_,_,.nil,_=>.nil
 |_,_,_,.cons h r,n=>by
  unfold jO at n
  obtain⟨n1,n2⟩:=KaG.mp n
  exact .cons (Rp.dp h n1) (ah.dp r n2)
end
mutual
theorem Rp.dom:∀{v:V} {d:PyData} {as:List Addr},Rp F v d as->∀a∈as,∃xs,F a=some (.lst xs)
 |_,_,_,.non,_,h=>by cases h
 |_,_,_,.bl b,_,h=>by cases h
 |_,_,_,.int i,_,h=>by cases h
 |_,_,_,.str x,_,h=>by cases h
 |_,_,_,.lst (xs:=xs) h r,b,hb=>by
  rcases Kai.mp hb with e|e
  ·rw [e];exact⟨xs,h⟩
  ·exact ah.dom r b e
 |_,_,_,.tup h r,b,hb=>ah.dom r b hb
 |_,_,_,.tupP h _ r,b,hb=>ah.dom r b hb
 |_,_,_,.jA h _ r,b,hb=>ah.dom r b hb
 |_,_,_,.lI h _ _ r,b,hb=>Rp.dom r b hb
 |_,_,_,.lE h _ r,b,hb=>ah.dom r b hb
theorem ah.dom:∀{vs:List V} {ds:List PyData} {as:List Addr},ah F vs ds as->∀a∈as,∃xs,F a=some (.lst xs)
 |_,_,_,.nil,_,h=>by cases h
 |_,_,_,.cons h r,b,hb=>by
  rcases Kat.mp hb with e|e
  ·exact Rp.dom h b e
  ·exact ah.dom r b e
end
def del (F:Hp)(a:Addr):Hp:=λb=>if b=a then none else F b
theorem MC {F:Hp}{a:Addr}:del F a a=none:=by unfold del;rw [if_pos rfl]
theorem yD {F:Hp}{a b:Addr}(h:b≠a):del F a b=F b:=by unfold del;rw [if_neg h]
mutual
theorem Rp.nP {a:Addr}{ys:List V}(ha:F a=some (.lst ys)):∀{v:V} {d:PyData} {as:List Addr},Rp F v d as->a∉as->Rp (del F a) v d as
 |_,_,_,.non,_=>.non
 |_,_,_,.bl b,_=>.bl b
 |_,_,_,.int i,_=>.int i
 |_,_,_,.str x,_=>.str x
 |_,_,_,.lst (a:=b) h r,hn=>.lst (by rw [yD (λe=>hn (by rw [e];exact Kaa))];exact h) (ah.nP ha r λe=>hn (Kad _ e))
 |_,_,_,.tup (a:=b) h r,hn=>.tup (by rw [yD (λe=>by rw [e,ha] at h;cases h)];exact h) (ah.nP ha r hn)
 |_,_,_,.tupP (a:=b) h c r,hn=>.tupP (by rw [yD (λe=>by rw [e,ha] at h;cases h)];exact h) c (ah.nP ha r hn)
 |_,_,_,.jA (a:=b) h c r,hn=>.jA (by rw [yD (λe=>by rw [e,ha] at h;cases h)];exact h) c (ah.nP ha r hn)
 |_,_,_,.lI (a:=b) (dd:=b2) h z k r,hn=>.lI (by rw [yD (λe=>by rw [e,ha] at h;unfold L2.Vf at h;cases h)];exact h) z (by rw [yD (λe=>by rw [e,ha] at k;cases k)];exact k) (Rp.nP ha r hn)
 |_,_,_,.lE (a:=b) h c r,hn=>.lE (by rw [yD (λe=>by rw [e,ha] at h;cases h)];exact h) c (ah.nP ha r hn)
theorem ah.nP {a:Addr}{ys:List V}(ha:F a=some (.lst ys)):∀{vs:List V} {ds:List PyData} {as:List Addr},ah F vs ds as->a∉as->ah (del F a) vs ds as
 |_,_,_,.nil,_=>.nil
 |_,_,_,.cons h r,hn=>.cons (Rp.nP ha h λe=>hn (Kab _ e)) (ah.nP ha r λe=>hn (Kax _ e))
end
theorem ah.len {vs:List V}{ds:List PyData}{as:List Addr}(h:ah F vs ds as):vs.length=ds.length:=by
 induction ds generalizing vs as with
 |nil=>cases h;rfl
 |cons d ds ih=>
  cases h with
  |cons h r=>
   have z:=ih r
   rw [Kah,Kah,z]
theorem ah.get {vs:List V}{ds:List PyData}{as:List Addr}{i:Nat}{d:PyData}(h:ah F vs ds as)(e:ds[i]? = some d):∃v bs,vs[i]? = some v/\Rp F v d bs:=by
 induction ds generalizing vs as i with
 |nil=>cases e
 |cons c ds ih=>
  cases h with
  |cons h r=>
   cases i with
   |zero=>cases e;exact⟨_,_,rfl,h⟩
   |succ i=>
    obtain⟨w,bs,q1,q2⟩:=ih (i:=i) r e
    exact⟨w,bs,q1,q2⟩
theorem ah.app {vs ws:List V}{ds es:List PyData}{as bs:List Addr}(h:ah F vs ds as)(g:ah F ws es bs):ah F (vs++ws) (ds++es) (as++bs):=by
 induction ds generalizing vs as with
 |nil=>cases h;exact g
 |cons d ds ih=>
  cases h with
  |cons h r=>
   rw [Kbd]
   exact .cons h (ih r)
theorem ah.drop {vs:List V}{ds:List PyData}{as:List Addr}(h:ah F vs ds as)(n:Nat):∃bs,ah F (vs.drop n) (ds.drop n) bs/\bs.Sublist as:=by
 induction n generalizing vs ds as with
 |zero=>exact⟨as,h,Kbe.refl _⟩
 |succ n ih=>
  cases h with
  |nil=>exact⟨[],.nil,Kbe.refl _⟩
  |cons h r=>
   obtain⟨bs,q,z⟩:=ih r
   exact⟨bs,q,z.trans (KbL _ _)⟩
theorem ah.take {vs:List V}{ds:List PyData}{as:List Addr}(h:ah F vs ds as)(n:Nat):∃bs,ah F (vs.take n) (ds.take n) bs/\bs.Sublist as:=by
 induction n generalizing vs ds as with
 |zero=>exact⟨[],.nil,List.nil_sublist _⟩
 |succ n ih=>
  cases h with
  |nil=>exact⟨[],.nil,Kbe.refl _⟩
  |cons h r=>
   obtain⟨bs,q,z⟩:=ih r
   exact⟨_,.cons h q,Kbe.append (Kbe.refl _) z⟩
theorem Rp.int_inv {i:Int}(h:Rp F v (.int i) as):v=.int i:=by cases h;rfl
theorem Rp.bool_inv {b:Bool}(h:Rp F v (.bool b) as):v=.bl b:=by cases h;rfl
theorem Rp.str_inv {b:Str}(h:Rp F v (.str b) as):v=.str b:=by cases h;rfl
theorem Rp.none_inv (h:Rp F v .none as):v=.non:=by cases h;rfl
theorem Rp.aC {ds:List PyData}(h:Rp F v (.list ds) as):∃a xs bs,v=.ref a/\F a=some (.lst xs)/\ah F xs ds bs/\as=a::bs:=by
 cases h with
 |lst h r=>exact⟨_,_,_,rfl,h,r,rfl⟩
theorem Rp.dB {ds:List PyData}(h:Rp F v (.tuple ds) as):∃a xs,v=.ref a/\F a=some (.tup xs)/\ah F xs ds as:=by
 cases h with
 |tup h r=>exact⟨_,_,rfl,h,r⟩
end
theorem ah.ints {F:Hp}:∀{ns:List Int} {vs:List V} {as:List Addr},ah F vs (ns.map .int) as->vs=ns.map V.int
 |[],_,_,h=>by cases h;rfl
 |n::ns,_,_,h=>by
  cases h with
  |cons h r=>rw [Rp.int_inv h,ah.ints r];rfl
theorem ah.zm {F:Hp}:∀(ns:List Int),ah F (ns.map V.int) (ns.map .int) []
 |[]=>.nil
 |n::ns=>.cons (as:=[]) (.int n) (ah.zm ns)
theorem ah.bools {F:Hp}:∀{ns:List Bool} {vs:List V} {as:List Addr},ah F vs (ns.map .bool) as->vs=ns.map V.bl
 |[],_,_,h=>by cases h;rfl
 |n::ns,_,_,h=>by
  cases h with
  |cons h r=>rw [Rp.bool_inv h,ah.bools r];rfl
mutual
def aB:PyData->Bool
 |.none=>true
 |.bool _=>true
 |.int _=>true
 |.str _=>true
 |.list _=>false
 |.tuple xs=>gv xs
 |.dict _=>false
def gv:List PyData->Bool
 |[]=>true
 |x::xs=>aB x && gv xs
end
mutual
theorem Rp.aB {F:Hp}:∀{v:V} {d:PyData} {as:List Addr},Rp F v d as->aB d=true->as=[]
 |_,_,_,.non,_=>rfl
 |_,_,_,.bl b,_=>rfl
 |_,_,_,.int i,_=>rfl
 |_,_,_,.str x,_=>rfl
 |_,_,_,.lst h r,e=>by unfold Pu.aB at e;cases e
 |_,_,_,.tup h r,e=>ah.aB r (by unfold Pu.aB at e;exact e)
 |_,_,_,.tupP h _ r,e=>by unfold Pu.aB at e;cases e
 |_,_,_,.jA h _ r,e=>by unfold Pu.aB at e;cases e
 |_,_,_,.lI h _ _ r,e=>by unfold Pu.aB at e;cases e
 |_,_,_,.lE h _ r,e=>by unfold Pu.aB at e;cases e
theorem ah.aB {F:Hp}:∀{vs:List V} {ds:List PyData} {as:List Addr},ah F vs ds as->gv ds=true->as=[]
 |_,_,_,.nil,_=>rfl
 |_,_,_,.cons h r,e=>by
  unfold gv at e
  obtain⟨e1,e2⟩:=KaG.mp e
  rw [Rp.aB h e1,ah.aB r e2];rfl
end
inductive Slot where
 |emp
 |dat (d:PyData)
 |own (d:PyData)
 |aS (ds:List PyData) (o:Bool)
 |gI (f:List (Key×PyData))
 |bU
 |fix (v:V)
 |jy (d:PyData)
 |ins (C:Addr) (nm:List Str) (ds:List PyData)
 |obj (C a:Addr) (nm:List Str) (ds:List PyData)
 |GJ (f:List (NestedKey×PyData))
 |My (es:List (NestedKey×PyData×PyData))
 |Mw (es:List (NestedKey×PyData×PyData))
 |Mz (es:List (NestedKey×PyData×PyData))
 |fn (f c:Addr) (q:Str)
 |xn (B:List Addr) (C a:Addr) (nm:List Str) (ds:List PyData)
 |qG (B:List Addr) (C:Addr) (nm:List Str) (ds:List PyData)
 |Ob (o:Option (Addr×Addr)) (ks:List Str) (ds:List PyData) (f:List (Str×PyData))
def Dh:List (NestedKey×PyData)->NestedKey->Option PyData
 |[],_=>none
 |(k,d)::r,j=>if k=j then some d else Dh r j
/-- what a dict holds,bh newest first -/
def cV:List (Key×PyData)->Key->Option PyData
 |[],_=>none
 |(k,d)::r,j=>if k=j then some d else cV r j
def jx (F:Hp):Option V->Option PyData->Prop
 |none,none=>True
 |some v,some d=>∃as,Rp F v d as
 |_,_=>False
theorem jx.mono {F F':Hp}(e:Same F F'):∀{x:Option V} {d:Option PyData},jx F x d->jx F' x d
 |none,none,_=>True.intro
 |some v,some d,h=>by obtain⟨as,h⟩:=h;exact⟨as,h.mono e⟩
 |none,some _,h=>h
 |some _,none,h=>h
/-- bh frozen heap,and bh lists at fp as JH stand -/
def j_ (F H:Hp)(fp:List Addr):Hp:=λa=>if a∈fp then H a else F a
theorem l9 {F H:Hp}{fp:List Addr}{a:Addr}(h:a∈fp):j_ F H fp a=H a:=if_pos h
theorem jW {F H:Hp}{fp:List Addr}{a:Addr}(h:a∉fp):j_ F H fp a=F a:=if_neg h
theorem gjj {F H:Hp}{fp:List Addr}(s:Same F H):Same (j_ F H fp) H:=λa o e=>by
 by_cases m:a∈fp
 ·rwa [l9 m] at e
 ·rw [jW m] at e;exact s a o e
theorem RI {F H F' H':Hp}{fp:List Addr}(s:Same F F')(h:∀a∈fp,∀o,H a=some o->H' a=some o):Same (j_ F H fp) (j_ F' H' fp):=λa o e=>by
 by_cases m:a∈fp
 ·rw [l9 m] at e ⊢;exact h a m o e
 ·rw [jW m] at e ⊢;exact s a o e
/-- bh lists within never change as tables do -/
theorem Rp.stay {F H:Hp}{fp:List Addr}{v:V}{d:PyData}(r:Rp (j_ F H fp) v d fp){a:Addr}{o:HO}(m:a∈fp)(e:H a=some o):um o:=by
 obtain⟨xs,hx⟩:=r.dom a m
 rw [l9 m,e] at hx
 cases hx
 intro ps z;cases z
theorem dM.bq7 {F H:Hp}{fp:List Addr}{v:V}{d:PyData}(t:dM F H)(r:Rp (j_ F H fp) v d fp):dM (j_ F H fp) H:=⟨t.t,λa ps z=>by
 by_cases m:a∈fp
 ·obtain⟨xs,hx⟩:=r.dom a m
  rw [z] at hx;cases hx
 ·rw [jW m] at z;exact t.n a ps z⟩
theorem dM.T_ {F H:Hp}{fp:List Addr}(t:dM F H)(r:∀a∈fp,∃ys,H a=some (.lst ys)):dM (j_ F H fp) H:=⟨t.t,λa ps z=>by
 by_cases m:a∈fp
 ·obtain⟨xs,hx⟩:=r a m
  rw [l9 m,hx] at z;cases z
 ·rw [jW m] at z;exact t.n a ps z⟩
/-- an entry of a dict with tuples as keys: its key and its value as data -/
def wu (F:Hp)(p:ju)(e:NestedKey×PyData×PyData):Prop:=p.1=e.1/\zZ F p.1 p.2.1/\(∃as,Rp F (.ref p.2.1) e.2.1 as)/\∃as,Rp F p.2.2 e.2.2 as
theorem wu.mono {F F':Hp}{p:ju}{e:NestedKey×PyData×PyData}(s:Same F F')(h:wu F p e):wu F' p e:=⟨h.1,h.2.1.mono s,h.2.2.1.imp λ_ r=>r.mono s,h.2.2.2.imp λ_ r=>r.mono s⟩
theorem OY {F F':Hp}(s:Same F F'){ws:List ju}{es:List (NestedKey×PyData×PyData)}(h:Paired (wu F) ws es):Paired (wu F') ws es:=by
 induction h with
 |nil=>exact .nil
 |cons h _ ih=>exact .cons (h.mono s) ih
/-- an entry whose value is ES own -/
def zW (F:Hp)(as:List Addr)(p:ju)(e:NestedKey×PyData×PyData):Prop:=p.1=e.1/\zZ F p.1 p.2.1/\(∃bs,Rp F (.ref p.2.1) e.2.1 bs)/\∃bs,Rp F p.2.2 e.2.2 bs/\bs.Nodup/\∀b∈bs,b∈as
theorem zW.mono {F F':Hp}{as as':List Addr}{p:ju}{e:NestedKey×PyData×PyData}(s:Same F F')(sa:∀a∈as,a∈as')(h:zW F as p e):zW F' as' p e:=⟨h.1,h.2.1.mono s,h.2.2.1.imp λ_ r=>r.mono s,h.2.2.2.imp λ_ r=>⟨r.1.mono s,r.2.1,λb m=>sa b (r.2.2 b m)⟩⟩
theorem fjn {F F':Hp}{as as':List Addr}(s:Same F F')(sa:∀a∈as,a∈as'){ws:List ju}{es:List (NestedKey×PyData×PyData)}(h:Paired (zW F as) ws es):Paired (zW F' as') ws es:=by
 induction h with
 |nil=>exact .nil
 |cons h _ ih=>exact .cons (h.mono s sa) ih
/-- bh last name of a world -/
abbrev Va:Str := "rows"
def qB (sk:Option Addr)(F H:Hp)(x:Option V)(sl:Slot)(fp:List Addr):Prop:=match sl with
 |.emp=>fp=[]
 |.dat d=>fp=[]/\∃v as,x=some v/\Rp F v d as
 |.own d=>∃v,x=some v/\Rp F v d fp
 |.aS ds o=>∃a vs as,x=some (.ref a)/\H a=some (.lst vs)/\F a=none/\ah F vs ds as/\fp=a::(if o then as else [])
 |.gI f=>∃a ws,x=some (.ref a)/\H a=some (.dK ws)/\F a=none/\ws.length<=f.length/\(∀k:Key,jx F (valV ws k) (cV f k))/\fp=[a]
 |.GJ f=>∃a ws,x=some (.ref a)/\H a=some (Og a ws)/\F a=none/\(ws.length<=f.length/\∀p∈ws,zZ F p.1 p.2.1)/\(∀k:NestedKey,jx F (xK ws k) (Dh f k))/\fp=[a]
 |.Mw es=>fp=[]/\∃a od ws,x=some (.ref a)/\F a=some (.frz od (Og a ws))/\Paired (wu F) ws es
 |.My es=>∃a ws,x=some (.ref a)/\H a=some (Og a ws)/\F a=none/\Paired (wu F) ws es/\fp=[a]
 |.Mz es=>∃a ws as,x=some (.ref a)/\H a=some (Og a ws)/\F a=none/\Paired (zW F as) ws es/\(∀b∈as,∃xs,F b=some (.lst xs))/\fp=a::as
 |.bU=>fp=[]/\∃a,x=some (.ref a)/\sk=some a
 |.fix v=>fp=[]/\x=some v
 |.fn f c q=>fp=[]/\x=some (.ref f)/\F c=some (LamX.CodeO c q)
 |.jy d=>∃v,x=some v/\Rp (j_ F H fp) v d fp/\∀a∈fp,F a=none
 |.ins C nm ds=>fp=[]/\∃a dx vs as,x=some (.ref a)/\F a=some (.ins C dx (nm.zip vs))/\nm.length=ds.length/\ah F vs ds as
 |.obj C a nm ds=>∃dx vs as,x=some (.ref a)/\H a=some (.ins C dx (nm.zip vs))/\F a=none/\H dx=some (.own a)/\F dx=none/\nm.length=ds.length/\ah F vs ds as/\fp=[a,dx]
 |.xn B C a nm ds=>∃dx vs as,x=some (.ref a)/\H a=some (.ins C dx (nm.zip vs))/\F a=none/\H dx=some (.own a)/\F dx=none/\nm.length=ds.length/\ah F vs ds as/\(∀b∈B,F b≠none/\b∉as)/\fp=[a,dx]
 |.qG B C nm ds=>fp=[]/\∃a dx vs as,x=some (.ref a)/\F a=some (.ins C dx (nm.zip vs))/\nm.length=ds.length/\ah F vs ds as/\∀b∈B,b∉as
 |.Ob o ks ds f=>∃a b ws vs as rs bs,x=some (.ref a)/\(∀p,o=some p->p=(a,b))/\H a=some (.dK ws)/\F a=none/\H b=some (.dK rs)/\F b=none/\Qi true ws (ks++[Va]) (vs++[.ref b]) (ds++[.none])/\ah F vs ds as/\rs.map (·.1)=f.map (λp=>Sum.inr p.1)/\ah F (rs.map (·.2)) (f.map (·.2)) bs/\fp=[a,b]
inductive Slots (sk:Option Addr)(F H:Hp):List (Option V)->List Slot->List (List Addr)->Prop
 |nil:Slots sk F H [] [] []
 |cons {x:Option V} {xs:List (Option V)} {sl:Slot} {NY:List Slot} {fp:List Addr} {aj:List (List Addr)}:qB sk F H x sl fp->Slots sk F H xs NY aj->Slots sk F H (x::xs) (sl::NY) (fp::aj)
def jP (s:ae):List V:=[.int s.1,.int s.2.1,.int s.2.2]
structure bw (sk:Option Addr)(F H:Hp)(s:ae):Prop where
 at':∀a,sk=some a->H a=some (.lst (jP s))/\F a=none
 tab:dM F H
instance (sk:Option Addr)(F H:Hp)(s:ae):CoeFun (bw sk F H s) λ_=>∀a,sk=some a->H a=some (.lst (jP s))/\F a=none:=⟨bw.at'⟩
/-- an Ia step -/
structure Step (sk:Option Addr)(F H F' H':Hp):Prop where
 sub:Same F F'
 sub':Same F' H'
 fr:∀(a:Addr) (o:HO) (_:sk≠some a) (_:H a=some o) (_:um o:=by first|assumption|(intro ps z;cases z;done)|(intro ps z;unfold Og at z;cases z;done)),H' a=some o
 dm:∀a,H a≠none->H' a≠none
 new:∀a o,F' a=some o->F a=some o∨H a=none
/-- a step eA aqA all as it is and may make su new -/
structure br (F H F' H':Hp):Prop where
 sub:Same F F'
 sub':Same F' H'
 fr:∀(a:Addr) (o:HO) (_:(none:Option Addr)≠some a) (_:H a=some o),H' a=some o
 dm:∀a,H a≠none->H' a≠none
 new:∀a o,F' a=some o->F a=some o∨H a=none
 nt:(∀a ps,F a≠some (.tbl ps))->∀a ps,F' a≠some (.tbl ps)
theorem br.any {sk:Option Addr}{F H F' H':Hp}(h:br F H F' H'):Step sk F H F' H':=⟨h.sub,h.sub',λa o _ e _=>h.fr a o nofun e,h.dm,h.new⟩
theorem Step.refl {sk:Option Addr}{F H:Hp}(h:Same F H):Step sk F H F H:=⟨Same.refl _,h,λ_ _ _ h _=>h,λ_ h=>h,λ_ _ h=>.inl h⟩
theorem Step.trans {sk:Option Addr}{F H F1 H1 F2 H2:Hp}(a:Step sk F H F1 H1)(b:Step sk F1 H1 F2 H2):Step sk F H F2 H2:=by
 refine⟨a.sub.trans b.sub,b.sub',λx o hx h hs=>b.fr x o hx (a.fr x o hx h hs) hs,λx h=>b.dm x (a.dm x h),λx o h=>?_⟩
 rcases b.new x o h with h|h
 ·exact a.new x o h
 ·refine .inr ?_
  cases e:H x with
  |none=>rfl
  |some u=>exact absurd h (a.dm x (by rw [e];exact nofun))
/-- a new object -/
theorem Step.alloc {sk:Option Addr}{F H:Hp}{p:Addr}{o:HO}(h:Same F H)(np:H p=none):Step sk F H (upd F p o) (upd H p o):=by
 have nF:F p=none:=h.free np
 refine⟨λa u e=>?_,λa u e=>?_,λa u _ e _=>?_,λa e=>?_,λa u e=>?_⟩
 ·rw [upd_ne (ne_of_none e nF)];exact e
 ·by_cases q:a=p
  ·rw [q,upd_same] at e ⊢;exact e
  ·rw [upd_ne q] at e ⊢;exact h a u e
 ·rw [upd_ne (ne_of_none e np)];exact e
 ·by_cases q:a=p
  ·rw [q,upd_same];exact nofun
  ·rw [upd_ne q];exact e
 ·by_cases q:a=p
  ·rw [q];exact .inr np
  ·rw [upd_ne q] at e;exact .inl e
theorem br.alloc {F H:Hp}{p:Addr}{o:HO}(h:Same F H)(np:H p=none)(ho:um o:=by intro ps z;cases z):br F H (upd F p o) (upd H p o):=
 let st:=Step.alloc (sk:=none) (o:=o) h np
 ⟨st.sub,st.sub',λa u _ e=>by rw [upd_ne (ne_of_none e np)];exact e,st.dm,st.new,λh a ps z=>by
  by_cases e:a=p
  ·rw [e,upd_same] at z;exact ho ps (Option.some.inj z)
  ·rw [upd_ne e] at z;exact h a ps z⟩
theorem br.refl {F H:Hp}(h:Same F H):br F H F H:=⟨Same.refl _,h,λ_ _ _ h=>h,λ_ h=>h,λ_ _ h=>.inl h,λh=>h⟩
theorem br.trans {F H F1 H1 F2 H2:Hp}(a:br F H F1 H1)(b:br F1 H1 F2 H2):br F H F2 H2:=
 let st:=(a.any (sk:=none)).trans b.any
 ⟨st.sub,st.sub',λx o hx h=>b.fr x o hx (a.fr x o hx h),st.dm,st.new,λh=>b.nt (a.nt h)⟩
theorem gqa {F F':Hp}{b:Addr}(s:Same F F')(h:F b≠none):F' b≠none:=by
 cases q:F b with
 |none=>exact absurd q h
 |some o=>rw [s b o q];exact nofun
theorem qB.step {sk:Option Addr}{F H F' H':Hp}{x:Option V}{sl:Slot}{fp:List Addr}(st:Step sk F H F' H')(hs:∀a,sk=some a->a∉fp)(h:qB sk F H x sl fp):qB sk F' H' x sl fp:=by
 cases sl with
 |emp=>exact h
 |dat d=>obtain⟨e,v,as,e1,r⟩:=h;exact⟨e,v,as,e1,r.mono st.sub⟩
 |own d=>obtain⟨v,e1,r⟩:=h;exact⟨v,e1,r.mono st.sub⟩
 |aS ds o=>
  obtain⟨a,vs,as,e1,e2,e3,r,e4⟩:=h
  refine⟨a,vs,as,e1,st.fr a _ (λe=>hs a e (by rw [e4];exact Kaa)) e2,?_,r.mono st.sub,e4⟩
  cases q:F' a with
  |none=>rfl
  |some u=>
   rcases st.new a u q with z|z
   ·rw [e3] at z;cases z
   ·rw [e2] at z;cases z
 |GJ f=>
  obtain⟨a,ws,e1,e2,e3,e4,r,e5⟩:=h
  refine⟨a,ws,e1,st.fr a _ (λe=>hs a e (by rw [e5];exact Kaa)) e2,?_,⟨e4.1,λp hp=>(e4.2 p hp).mono st.sub⟩,λk=>(r k).mono st.sub,e5⟩
  cases q:F' a with
  |none=>rfl
  |some u=>
   rcases st.new a u q with z|z
   ·rw [e3] at z;cases z
   ·rw [e2] at z;cases z
 |Mw es=>obtain⟨e,a,od,ws,e1,e2,r⟩:=h;exact⟨e,a,od,ws,e1,st.sub _ _ e2,OY st.sub r⟩
 |My es=>
  obtain⟨a,ws,e1,e2,e3,r,e5⟩:=h
  refine⟨a,ws,e1,st.fr a _ (λe=>hs a e (by rw [e5];exact Kaa)) e2,?_,OY st.sub r,e5⟩
  cases q:F' a with
  |none=>rfl
  |some u=>
   rcases st.new a u q with z|z
   ·rw [e3] at z;cases z
   ·rw [e2] at z;cases z
 |Mz es=>
  obtain⟨a,ws,as,e1,e2,e3,r,e4,e5⟩:=h
  refine⟨a,ws,as,e1,st.fr a _ (λe=>hs a e (by rw [e5];exact Kaa)) e2,?_,fjn st.sub (λ_ m=>m) r,λb m=>(e4 b m).imp λ_ z=>st.sub _ _ z,e5⟩
  cases q:F' a with
  |none=>rfl
  |some u=>
   rcases st.new a u q with z|z
   ·rw [e3] at z;cases z
   ·rw [e2] at z;cases z
 |gI f=>
  obtain⟨a,ws,e1,e2,e3,e4,r,e5⟩:=h
  refine⟨a,ws,e1,st.fr a _ (λe=>hs a e (by rw [e5];exact Kaa)) e2,?_,e4,λk=>(r k).mono st.sub,e5⟩
  cases q:F' a with
  |none=>rfl
  |some u=>
   rcases st.new a u q with z|z
   ·rw [e3] at z;cases z
   ·rw [e2] at z;cases z
 |bU=>exact h
 |fix v=>exact h
 |fn f c q=>exact⟨h.1,h.2.1,st.sub _ _ h.2.2⟩
 |jy d=>
  obtain⟨v,e1,r,e2⟩:=h
  refine⟨v,e1,r.mono (RI st.sub λa m o e=>st.fr a o (λz=>hs a z m) e (r.stay m e)),λa m=>?_⟩
  cases q:F' a with
  |none=>rfl
  |some u=>
   rcases st.new a u q with z|z
   ·rw [e2 a m] at z;cases z
   ·obtain⟨xs,hx⟩:=r.dom a m
    rw [l9 m,z] at hx;cases hx
 |ins C nm ds=>obtain⟨e,a,dx,vs,as,e1,e2,e3,r⟩:=h;exact⟨e,a,dx,vs,as,e1,st.sub _ _ e2,e3,r.mono st.sub⟩
 |obj C a nm ds=>
  obtain⟨dx,vs,as,e1,e2,e3,e4,e5,e6,r,e7⟩:=h
  have gone:∀{b:Addr} {o:HO},H b=some o->F b=none->F' b=none:=λ{b o} h1 h2=>by
   cases q:F' b with
   |none=>rfl
   |some u=>
    rcases st.new b u q with z|z
    ·rw [h2] at z;cases z
    ·rw [h1] at z;cases z
  exact⟨dx,vs,as,e1,st.fr a _ (λe=>hs a e (by rw [e7];exact Kaa)) e2,gone e2 e3,st.fr dx _ (λe=>hs dx e (by rw [e7];exact Kad _ Kaa)) e4,gone e4 e5,e6,r.mono st.sub,e7⟩
 |Ob o ks ds f=>
  obtain⟨a,b,ws,vs,as,rs,bs,e1,eo,e2,e3,e4,e5,e6,r,e7,e8,e9⟩:=h
  have gone:∀{b:Addr} {o:HO},H b=some o->F b=none->F' b=none:=λ{b o} h1 h2=>by
   cases q:F' b with
   |none=>rfl
   |some u=>
    rcases st.new b u q with z|z
    ·rw [h2] at z;cases z
    ·rw [h1] at z;cases z
  exact⟨a,b,ws,vs,as,rs,bs,e1,eo,st.fr a _ (λe=>hs a e (by rw [e9];exact Kaa)) e2,gone e2 e3,st.fr b _ (λe=>hs b e (by rw [e9];exact Kad _ Kaa)) e4,gone e4 e5,e6,r.mono st.sub,e7,e8.mono st.sub,e9⟩
 |qG B C nm ds=>obtain⟨e,a,dx,vs,as,e1,e2,e3,r,hB⟩:=h;exact⟨e,a,dx,vs,as,e1,st.sub _ _ e2,e3,r.mono st.sub,hB⟩
 |xn B C a nm ds=>
  obtain⟨dx,vs,as,e1,e2,e3,e4,e5,e6,r,hB,e7⟩:=h
  have gone:∀{b:Addr} {o:HO},H b=some o->F b=none->F' b=none:=λ{b o} h1 h2=>by
   cases q:F' b with
   |none=>rfl
   |some u=>
    rcases st.new b u q with z|z
    ·rw [h2] at z;cases z
    ·rw [h1] at z;cases z
  exact⟨dx,vs,as,e1,st.fr a _ (λe=>hs a e (by rw [e7];exact Kaa)) e2,gone e2 e3,st.fr dx _ (λe=>hs dx e (by rw [e7];exact Kad _ Kaa)) e4,gone e4 e5,e6,r.mono st.sub,λb m=>⟨gqa st.sub (hB b m).1,(hB b m).2⟩,e7⟩
theorem Slots.step {sk:Option Addr}{F H F' H':Hp}{σ:List (Option V)}{ρ:List Slot}{aj:List (List Addr)}(st:Step sk F H F' H')(hs:∀a,sk=some a->a∉aj.flatten)(h:Slots sk F H σ ρ aj):Slots sk F' H' σ ρ aj:=by
 induction h with
 |nil=>exact .nil
 |cons h r ih=>
  refine .cons (h.step st λa e m=>hs a e ?_) (ih λa e m=>hs a e ?_)
  ·rw [Kap];exact Kab _ m
  ·rw [Kap];exact Kax _ m
theorem Slots.get {sk:Option Addr}{F H:Hp}{σ:List (Option V)}{ρ:List Slot}{aj:List (List Addr)}{i:Nat}{sl:Slot}(h:Slots sk F H σ ρ aj)(e:ρ[i]? = some sl):∃x fp,σ[i]? = some x/\aj[i]? = some fp/\qB sk F H x sl fp:=by
 induction h generalizing i with
 |nil=>cases e
 |cons h r ih=>
  cases i with
  |zero=>cases e;exact⟨_,_,rfl,rfl,h⟩
  |succ i=>exact ih e
theorem Slots.set {sk:Option Addr}{F H:Hp}{σ:List (Option V)}{ρ:List Slot}{aj:List (List Addr)}{i:Nat}{x:Option V}{sl:Slot}{fp:List Addr}(h:Slots sk F H σ ρ aj)(q:qB sk F H x sl fp):Slots sk F H (σ.set i x) (ρ.set i sl) (aj.set i fp):=by
 induction h generalizing i with
 |nil=>exact .nil
 |cons h r ih=>
  cases i with
  |zero=>exact .cons q r
  |succ i=>exact .cons h ih
theorem Slots.length {sk:Option Addr}{F H:Hp}{σ:List (Option V)}{ρ:List Slot}{aj:List (List Addr)}(h:Slots sk F H σ ρ aj):σ.length=ρ.length:=by
 induction h with
 |nil=>rfl
 |cons h r ih=>simp [ih]
theorem x8 {aj:List (List Addr)}{fp:List Addr}{i:Nat}(h:(fp++aj.flatten).Nodup):(aj.set i fp).flatten.Nodup/\∀a∈(aj.set i fp).flatten,a∈fp∨a∈aj.flatten:=by
 induction aj generalizing i with
 |nil=>exact⟨KaY,λa m=>by cases m⟩
 |cons x xs ih=>
  rw [Kap] at h
  cases i with
  |zero=>
   show ((fp::xs).flatten).Nodup/\_
   rw [Kap]
   refine⟨?_,λa m=>?_⟩
   ·exact h.sublist (Kbe.append (Kbe.refl _) (KbL _ _))
   ·rcases Kat.mp (show a∈fp++xs.flatten by simpa using m) with e|e
    ·exact .inl e
    ·exact .inr (by simp only [Kap,Kat];exact .inr e)
  |succ i=>
   have h1:(fp++xs.flatten).Nodup:=h.sublist (Kbe.append (Kbe.refl _) (KbL _ _))
   obtain⟨n1,n2⟩:=ih (i:=i) h1
   show ((x::xs.set i fp).flatten).Nodup/\_
   rw [Kap]
   have hx:(x++xs.flatten).Nodup:=(Kag.mp h).2.1
   have hd:=(Kag.mp h).2.2
   refine⟨Kag.mpr ⟨(Kag.mp hx).1,n1,λa ma b mb e=>?_⟩,λa m=>?_⟩
   ·subst e
    rcases n2 a mb with z|z
    ·exact hd a z a (Kab _ ma) rfl
    ·exact (Kag.mp hx).2.2 a ma a z rfl
   ·have m2:a∈x++(xs.set i fp).flatten:=by simpa using m
    rcases Kat.mp m2 with e|e
    ·exact .inr (by simp only [Kap,Kat];exact .inl e)
    ·rcases n2 a e with z|z
     ·exact .inl z
     ·exact .inr (by simp only [Kap,Kat];exact .inr z)
/-- what slot i holds goes out -/
theorem Aj {aj:List (List Addr)}{fp:List Addr}{i:Nat}(h:aj.flatten.Nodup)(e:aj[i]? = some fp):(fp++(aj.set i []).flatten).Nodup/\∀a∈fp++(aj.set i []).flatten,a∈aj.flatten:=by
 induction aj generalizing i with
 |nil=>cases e
 |cons x xs ih=>
  rw [Kap] at h
  cases i with
  |zero=>
   have e2:x=fp:=Option.some.inj e
   subst e2
   show (x++([]::xs).flatten).Nodup/\∀a∈x++([]::xs).flatten,_
   rw [Kap,Kap,Kbr]
   exact⟨h,λa m=>m⟩
  |succ i=>
   have e':xs[i]? = some fp:=e
   have hx:=Kag.mp h
   obtain⟨n1,n2⟩:=ih hx.2.1 e'
   show (fp++(x::xs.set i []).flatten).Nodup/\∀a∈fp++(x::xs.set i []).flatten,_
   rw [Kap,Kap]
   have n3:=Kag.mp n1
   refine⟨Kag.mpr ⟨n3.1,Kag.mpr ⟨hx.1,n3.2.1,λa ma b mb z=>hx.2.2 a ma b (n2 b (Kax _ mb)) z⟩,λa ma b mb z=>?_⟩,λa m=>?_⟩
   ·rcases Kat.mp mb with q|q
    ·exact hx.2.2 b q a (n2 a (Kab _ ma)) z.symm
    ·exact n3.2.2 a ma b q z
   ·rcases Kat.mp m with q|q
    ·exact Kax _ (n2 a (Kab _ q))
    ·rcases Kat.mp q with q|q
     ·exact Kab _ q
     ·exact Kax _ (n2 a (Kax _ q))
end Pu
namespace Pu
variable [aO]
open PySem L2
abbrev Frag:=PySem.W.Frag
abbrev JS:=List Slot->ae->Option (Vl×ae)
theorem bw.keep {sk:Option Addr}{F H F' H':Hp}{s:ae}(h:bw sk F H s)(st:br F H F' H'):bw sk F' H' s:=by
 refine⟨λa e=>?_,⟨(Ww h.tab λb o e=>st.fr b o nofun e).t,st.nt h.tab.n⟩⟩
 obtain⟨h1,h2⟩:=h a e
 refine⟨st.fr a _ nofun h1,?_⟩
 cases q:F' a with
 |none=>rfl
 |some u=>
  rcases st.new a u q with z|z
  ·rw [h2] at z;cases z
  ·rw [h1] at z;cases z
structure Pre (sk:Option Addr)(F H:Hp)(σ:L2.St)(ρ:List Slot)(aj:List (List Addr))(s:ae):Prop where
 sub:Same F H
 bj:bw sk F H s
 slots:Slots sk F H σ ρ aj
 nN:∀a,sk=some a->a∉aj.flatten
 fO:aj.flatten.Nodup
theorem Pre.next {sk:Option Addr}{F H F' H':Hp}{σ:L2.St}{ρ:List Slot}{aj:List (List Addr)}{s s':ae}(p:Pre sk F H σ ρ aj s)(st:Step sk F H F' H')(h:bw sk F' H' s'):Pre sk F' H' σ ρ aj s':=
 ⟨st.sub',h,p.slots.step st p.nN,p.nN,p.fO⟩
/-- what is known of a new value -/
def bO (b:Bool)(H:Hp)(as:List Addr):Prop:=b=true->as.Nodup/\∀a∈as,H a=none
theorem bO.nil {b:Bool}{H:Hp}:bO b H []:=λ_=>⟨KaY,λa m=>by cases m⟩
theorem bO.no {H:Hp}{as:List Addr}:bO false H as:=λh=>by cases h
theorem bO.back {b:Bool}{H H':Hp}{as:List Addr}(h:bO b H' as)(dm:∀a,H a≠none->H' a≠none):bO b H as:=λe=>by
 obtain⟨h1,h2⟩:=h e
 refine⟨h1,λa m=>?_⟩
 cases q:H a with
 |none=>rfl
 |some u=>exact absurd (h2 a m) (dm a (by rw [q];exact nofun))
def OkE (t:Frag->TE)(ev:JS):Prop:=∀(K:Frag) {sk:Option Addr} {F H:Hp} {σ:L2.St} {ρ:List Slot} {aj:List (List Addr)} {s:ae} {vl:Vl} {s':ae} {Q:VK},Pre sk F H σ ρ aj s->ev ρ s=some (vl,s') ->
 (∀v F' H' as,Step sk F H F' H'->bw sk F' H' s'->Rp F' v vl.1 as->bO vl.2 H as->Q v H')->t K σ H Q
structure SE where
 t:Frag->TE
 ev:JS
 ok:OkE t ev
def OkT (t:Frag->TT)(ev:List Slot->ae->Option (Bool×ae)):Prop:=∀(K:Frag) {sk:Option Addr} {F H:Hp} {σ:L2.St} {ρ:List Slot} {aj:List (List Addr)} {s:ae} {b:Bool} {s':ae} {Q:Bool->Hp->Prop},Pre sk F H σ ρ aj s->ev ρ s=some (b,s') ->
 (∀F' H',Step sk F H F' H'->bw sk F' H' s'->Q b H')->t K σ H Q
structure ST where
 t:Frag->TT
 ev:List Slot->ae->Option (Bool×ae)
 ok:OkT t ev
/-- a list of KP -/
def OkA (t:Frag->TA)(ev:List Slot->ae->Option (List Vl×ae)):Prop:=∀(K:Frag) {sk:Option Addr} {F H:Hp} {σ:L2.St} {ρ:List Slot} {aj:List (List Addr)} {s:ae} {ku:List Vl} {s':ae} {Q:List V->Hp->Prop},Pre sk F H σ ρ aj s->ev ρ s=some (ku,s') ->
 (∀vs F' H' as,Step sk F H F' H'->bw sk F' H' s'->ah F' vs (ku.map (·.1)) as->bO (ku.all λz=>z.2 ||aB z.1) H as->Q vs H')->t K σ H Q
structure SA where
 t:Frag->TA
 ev:List Slot->ae->Option (List Vl×ae)
 ok:OkA t ev
def ak (i:Nat):SE where
 t:=λ_=>tVar i
 ev:=λρ s=>match ρ[i]? with
  |some (.dat d)=>some ((d,false),s)
  |some (.own d)=>some ((d,false),s)
  |_=>none
 ok:=by
  intro K sk F H σ ρ aj s vl s' Q p h q
  dsimp only at h
  split at h
  ·rename_i d e
   cases h
   obtain⟨x,fp,e1,e2,z,v,as,e3,r⟩:=p.slots.get e
   exact⟨v,by rw [e1,e3],q v F H as (.refl p.sub) p.bj r .no⟩
  ·rename_i d e
   cases h
   obtain⟨x,fp,e1,e2,v,e3,r⟩:=p.slots.get e
   exact⟨v,by rw [e1,e3],q v F H fp (.refl p.sub) p.bj r .no⟩
  ·cases h
def SE.ac (i:Int):SE:=⟨λ_=>tC (.int i),λ_ s=>some ((.int i,true),s),by
 intro K sk F H σ ρ aj s vl s' Q p h q
 cases h
 exact q _ F H [] (.refl p.sub) p.bj (.int i) .nil⟩
def SE.bool (i:Bool):SE:=⟨λ_=>tC (.bl i),λ_ s=>some ((.bool i,true),s),by
 intro K sk F H σ ρ aj s vl s' Q p h q
 cases h
 exact q _ F H [] (.refl p.sub) p.bj (.bl i) .nil⟩
def SE.non:SE:=⟨λ_=>tC .non,λ_ s=>some ((.none,true),s),by
 intro K sk F H σ ρ aj s vl s' Q p h q
 cases h
 exact q _ F H [] (.refl p.sub) p.bj .non .nil⟩
def SE.av (x:Str):SE:=⟨λ_=>tC (.str x),λ_ s=>some ((.str x,true),s),by
 intro K sk F H σ ρ aj s vl s' Q p h q
 cases h
 exact q _ F H [] (.refl p.sub) p.bj (.str x) .nil⟩
def SA.nil:SA:=⟨λ_=>tNil,λ_ s=>some ([],s),by
 intro K sk F H σ ρ aj s vl s' Q p h q
 cases h
 exact q [] F H [] (.refl p.sub) p.bj .nil .nil⟩
theorem bO.app {b c:Bool}{d:PyData}{F1 F2 H H1:Hp}{v:V}{as bs:List Addr}(r:Rp F1 v d as)(s1:Same F1 H1)(h:bO b H as)(g:bO c H1 bs)(dm:∀a,H a≠none->H1 a≠none):bO ((b ||aB d) && c) H (as++bs):=λe=>by
 obtain⟨e1,e2⟩:=KaG.mp e
 obtain⟨g1,g2⟩:=g e2
 have h1:as.Nodup/\∀a∈as,H a=none:=by
  rcases Ka3.mp e1 with z|z
  ·exact h z
  ·rw [r.aB z];exact⟨KaY,λa m=>by cases m⟩
 have g3:=(bO.back g dm e2).2
 refine⟨Kag.mpr ⟨h1.1,g1,λa ma b mb z=>?_⟩,λa m=>?_⟩
 ·subst z
  obtain⟨xs,hx⟩:=r.dom a ma
  have:=g2 a mb
  rw [s1 a _ hx] at this
  cases this
 ·rcases Kat.mp m with z|z
  ·exact h1.2 a z
  ·exact g3 a z
def SA.cons (e:SE)(r:SA):SA where
 t:=λK=>tCons (e.t K) (r.t K)
 ev:=λρ s=>(e.ev ρ s).bind λx=>(r.ev ρ x.2).bind λy=>some (x.1::y.1,y.2)
 ok:=by
  intro K sk F H σ ρ aj s vl s' Q p h q
  obtain⟨⟨x,s1⟩,h1,h⟩:=aL h
  obtain⟨⟨y,s2⟩,h2,h⟩:=aL h
  cases h
  refine e.ok K p h1 λv F1 H1 as st1 k1 r1 f1=>?_
  refine r.ok K (p.next st1 k1) h2 λvs F2 H2 bs st2 k2 r2 f2=>?_
  refine q _ F2 H2 (as++bs) (st1.trans st2) k2 (.cons (r1.mono st2.sub) r2) ?_
  exact bO.app (F2:=F2) r1 st1.sub' f1 f2 st1.dm
def SE.tup (a:SA):SE where
 t:=λK=>tTup (a.t K)
 ev:=λρ s=>(a.ev ρ s).bind λx=>if x.1.length<=100000 then some ((.tuple (x.1.map (·.1)),x.1.all λz=>z.2 ||aB z.1),x.2) else none
 ok:=by
  intro K sk F H σ ρ aj s vl s' Q p h q
  obtain⟨⟨x,s1⟩,h1,h⟩:=aL h
  split at h
  ·rename_i hl
   cases h
   refine a.ok K p h1 λvs F1 H1 as st k r f=>⟨?_,λpp np=>?_⟩
   ·have:=r.len
    rw [Kaf] at this
    rw [this]
    exact Kau hl (by decide)
   ·have sa:br F1 H1 (upd F1 pp (.tup vs)) (upd H1 pp (.tup vs)):=.alloc st.sub' np
    exact q _ _ _ as (st.trans sa.any) (k.keep sa) (.tup upd_same (r.mono sa.sub)) f
  ·cases h
def SE.lst (a:SA):SE where
 t:=λK=>tLst (a.t K)
 ev:=λρ s=>(a.ev ρ s).bind λx=>if x.1.length<=100000 then some ((.list (x.1.map (·.1)),x.1.all λz=>z.2 ||aB z.1),x.2) else none
 ok:=by
  intro K sk F H σ ρ aj s vl s' Q p h q
  obtain⟨⟨x,s1⟩,h1,h⟩:=aL h
  split at h
  ·rename_i hl
   cases h
   refine a.ok K p h1 λvs F1 H1 as st k r f=>⟨?_,λpp np=>?_⟩
   ·have:=r.len
    rw [Kaf] at this
    rw [this]
    exact Kau hl (by decide)
   ·have sa:br F1 H1 (upd F1 pp (.lst vs)) (upd H1 pp (.lst vs)):=.alloc st.sub' np
    refine q _ _ _ (pp::as) (st.trans sa.any) (k.keep sa) (.lst upd_same (r.mono sa.sub)) λe=>?_
    obtain⟨f1,f2⟩:=f e
    refine⟨KaP.mpr ⟨λm=>?_,f1⟩,λb m=>?_⟩
    ·obtain⟨xs,hx⟩:=r.dom pp m
     have:=st.sub' _ _ hx
     rw [np] at this;cases this
    ·rcases Kai.mp m with z|z
     ·rw [z]
      cases hq:H pp with
      |none=>rfl
      |some u=>exact absurd np (st.dm pp (by rw [hq];exact nofun))
     ·exact f2 b z
  ·cases h
def jJ (F H:Hp)(z:Vl)(Q:VK):Prop:=∀v F' H' cs,br F H F' H'->Rp F' v z.1 cs->bO z.2 H cs->Q v H'
def Qk (r:Frag->R2)(f:PyData->PyData->Option Vl):Prop:=∀(K:Frag) {F H:Hp} {x y:V} {d e:PyData} {as bs:List Addr} {z:Vl} {Q:VK},Same F H->Rp F x d as->Rp F y e bs->f d e=some z->jJ F H z Q->r K x y H Q
def Vh (r:Frag->List V->Hp->VK->Prop)(f:List PyData->Option Vl):Prop:=∀(K:Frag) {F H:Hp} {xs:List V} {ds:List PyData} {as:List Addr} {z:Vl} {Q:VK},Same F H->ah F xs ds as->f ds=some z->jJ F H z Q->r K xs H Q
def oU (r:Frag->R2)(f:PyData->PyData->Option Vl)(hr:Qk r f)(a b:SE):SE where
 t:=λK=>tOp (r K) (a.t K) (b.t K)
 ev:=λρ s=>(a.ev ρ s).bind λx=>(b.ev ρ x.2).bind λy=>(f x.1.1 y.1.1).bind λz=>some (z,y.2)
 ok:=by
  intro K sk F H σ ρ aj s vl s' Q p h q
  obtain⟨⟨x,s1⟩,h1,h⟩:=aL h
  obtain⟨⟨y,s2⟩,h2,h⟩:=aL h
  obtain⟨z,h3,h⟩:=aL h
  cases h
  refine a.ok K p h1 λv F1 H1 as st1 k1 r1 f1=>?_
  refine b.ok K (p.next st1 k1) h2 λw F2 H2 bs st2 k2 r2 f2=>?_
  refine hr K st2.sub' (r1.mono st2.sub) r2 h3 λv3 F3 H3 cs st3 r3 f3=>?_
  exact q _ F3 H3 cs ((st1.trans st2).trans st3.any) (k2.keep st3) r3 (f3.back λa h=>st2.dm a (st1.dm a h))
def uP (r:Frag->List V->Hp->VK->Prop)(f:List PyData->Option Vl)(hr:Vh r f)(a:SA):SE where
 t:=λK=>tCB (r K) (a.t K)
 ev:=λρ s=>(a.ev ρ s).bind λx=>(f (x.1.map (·.1))).bind λz=>some (z,x.2)
 ok:=by
  intro K sk F H σ ρ aj s vl s' Q p h q
  obtain⟨⟨x,s1⟩,h1,h⟩:=aL h
  obtain⟨z,h3,h⟩:=aL h
  cases h
  refine a.ok K p h1 λvs F1 H1 as st1 k1 r1 f1=>?_
  refine hr K st1.sub' r1 h3 λv3 F3 H3 cs st3 r3 f3=>?_
  exact q _ F3 H3 cs (st1.trans st3.any) (k1.keep st3) r3 (f3.back st1.dm)
def SE.un (r:V->Hp->VK->Prop)(f:PyData->Option Vl)(hr:∀{F H:Hp} {x:V} {d:PyData} {as:List Addr} {z:Vl} {Q:VK},Same F H->Rp F x d as->f d=some z->jJ F H z Q->r x H Q)(a:SE):SE where
 t:=λK=>tUn r (a.t K)
 ev:=λρ s=>(a.ev ρ s).bind λx=>(f x.1.1).bind λz=>some (z,x.2)
 ok:=by
  intro K sk F H σ ρ aj s vl s' Q p h q
  obtain⟨⟨x,s1⟩,h1,h⟩:=aL h
  obtain⟨z,h3,h⟩:=aL h
  cases h
  refine a.ok K p h1 λv F1 H1 as st1 k1 r1 f1=>?_
  refine hr st1.sub' r1 h3 λv3 F3 H3 cs st3 r3 f3=>?_
  exact q _ F3 H3 cs (st1.trans st3.any) (k1.keep st3) r3 (f3.back st1.dm)
/-- a value without lists,no new object -/
theorem jJ.here {F H:Hp}{z:Vl}{Q:VK}{v:V}{cs:List Addr}(q:jJ F H z Q)(s:Same F H)(r:Rp F v z.1 cs)(f:bO z.2 H cs):Q v H:=q v F H cs (.refl s) r f
def gQ (f:Int->Int->Option PyData):PyData->PyData->Option Vl
 |.int i,.int j=>(f i j).map λz=>(z,true)
 |_,_=>none
theorem fzy {f:Int->Int->Option PyData}{d e:PyData}{z:Vl}(h:gQ f d e=some z):∃i j w,d=.int i/\e=.int j/\f i j=some w/\z=(w,true):=by
 unfold gQ at h
 split at h
 ·rename_i i j
  obtain⟨w,h1,h2⟩:=Kan.mp h
  exact⟨i,j,w,rfl,rfl,h1,h2.symm⟩
 ·cases h
theorem K4 {g:Int->Int->Int}:Qk (λ_=>rI0 λi j=>.int (g i j)) (gQ λi j=>some (.int (g i j))):=by
 intro K F H x y d e as bs z Q s r1 r2 h q
 obtain⟨i,j,w,rfl,rfl,h0,rfl⟩:=fzy h
 cases h0
 exact⟨i,j,r1.int_inv,r2.int_inv,q.here (z:=(.int (g i j),true)) s (.int _) .nil⟩
theorem yQ {g:Int->Int->Bool}:Qk (λ_=>rI0 λi j=>.bl (g i j)) (gQ λi j=>some (.bool (g i j))):=by
 intro K F H x y d e as bs z Q s r1 r2 h q
 obtain⟨i,j,w,rfl,rfl,h0,rfl⟩:=fzy h
 cases h0
 exact⟨i,j,r1.int_inv,r2.int_inv,q.here (z:=(.bool (g i j),true)) s (.bl _) .nil⟩
theorem yR {C:Int->Int->Prop}{g:Int->Int->Int}{c:Int->Int->Bool}(hc:∀i j,c i j=true->C i j):Qk (λ_=>rI C λi j=>.int (g i j)) (gQ λi j=>if c i j=true then some (.int (g i j)) else none):=by
 intro K F H x y d e as bs z Q s r1 r2 h q
 obtain⟨i,j,w,rfl,rfl,h1,rfl⟩:=fzy h
 split at h1
 ·rename_i h0
  cases h1
  exact⟨i,j,r1.int_inv,r2.int_inv,hc _ _ h0,q.here (z:=(.int (g i j),true)) s (.int _) .nil⟩
 ·cases h1
def gZ:SE->SE->SE:=oU _ _ (K4 (g:=λi j=>i+j))
def uO:SE->SE->SE:=oU _ _ (K4 (g:=λi j=>i-j))
def mL (i j:Int):Bool:=decide (i.natAbs<18446744073709551616) ||decide (j.natAbs<18446744073709551616)
def GV:SE->SE->SE:=oU _ _ (yR (C:=CMul) (g:=λi j=>i*j) (c:=mL) (λi j h=>by
 unfold mL at h
 rcases Ka3.mp h with h|h
 ·have:=of_decide_eq_true h
  exact .inl (by omega)
 ·have:=of_decide_eq_true h
  exact .inr (by omega)))
/-- a divisor above 0 and below 10 ** 60 -/
def mj (_ j:Int):Bool:=decide (0<j) && decide (j<1000000000000000000000000000000000000000000000000000000000000)
theorem gzj {i j:Int}(h:mj i j=true):CDivW i j:=by
 unfold mj at h
 obtain⟨h1,h2⟩:=KaG.mp h
 have h1:=of_decide_eq_true h1
 have h2:=of_decide_eq_true h2
 exact wide_div (b:=200) h1 (by omega) (by decide) (by decide)
def BS:SE->SE->SE:=oU _ _ (yR (C:=CDivW) (g:=λi j=>i / j) (c:=mj) (λi j h=>gzj h))
def yP:SE->SE->SE:=oU _ _ (yR (C:=λ_ j=>0<j) (g:=λi j=>i % j) (c:=λ_ j=>decide (0<j)) (λi j h=>of_decide_eq_true h))
def tX:SE->SE->SE:=oU _ _ (yQ (g:=λi j=>decide (i<j)))
def SE.le:SE->SE->SE:=oU _ _ (yQ (g:=λi j=>decide (i<=j)))
def SE.gt:SE->SE->SE:=oU _ _ (yQ (g:=λi j=>decide (j<i)))
def SE.ge:SE->SE->SE:=oU _ _ (yQ (g:=λi j=>decide (j<=i)))
def SE.ar:SE->SE:=SE.un (rU λi=>.int (-i)) (λd=>match d with|.int i=>some (.int (-i),true)|_=>none) (by
 intro F H x d as z Q s r h q
 split at h
 ·rename_i i
  cases h
  exact⟨i,r.int_inv,q.here (z:=(.int (-i),true)) s (.int _) .nil⟩
 ·cases h)
def GL:PyData->PyData->Option Bool
 |.int i,.int j=>some (decide (i=j))
 |.bool a,.bool b=>some (a == b)
 |d,e=>if SeqAt.shaped d=true/\SeqAt.shaped e=true then some (PyData.eqv d e) else none
theorem Dl {d e:PyData}{b:Bool}(h:GL d e=some b):SeqAt.shaped d=true/\SeqAt.shaped e=true/\PyData.eqv d e=b:=by
 unfold GL at h
 split at h
 ·rename_i i j
  cases h
  refine⟨by rfl,by rfl,?_⟩
  simp only [PyData.eqv]
  by_cases e:i=j <;> simp [e]
 ·rename_i i j
  cases h
  exact⟨by rfl,by rfl,by simp only [PyData.eqv]⟩
 ·split at h
  ·rename_i hh
   cases h
   exact⟨hh.1,hh.2,rfl⟩
  ·cases h
def hxc:SE->SE->SE:=oU (λK=>rEqD K) (λd e=>(GL d e).map λb=>(.bool b,true)) (by
 intro K F H x y d e as bs z Q s r1 r2 h q
 obtain⟨b,h0,rfl⟩:=Kan.mp h
 obtain⟨h1,h2,h3⟩:=Dl h0
 subst h3
 exact⟨d,e,(r1.mono s).dp (Mr h1),(r2.mono s).dp (Mr h2),h1,h2,q.here (z:=(.bool _,true)) s (.bl _) .nil⟩)
def SE.ne:SE->SE->SE:=oU (λK=>rNeD K) (λd e=>(GL d e).map λb=>(.bool (!b),true)) (by
 intro K F H x y d e as bs z Q s r1 r2 h q
 obtain⟨b,h0,rfl⟩:=Kan.mp h
 obtain⟨h1,h2,h3⟩:=Dl h0
 subst h3
 exact⟨d,e,(r1.mono s).dp (Mr h1),(r2.mono s).dp (Mr h2),h1,h2,q.here (z:=(.bool _,true)) s (.bl _) .nil⟩)
def BO:PyData->Bool
 |.none=>true
 |_=>false
theorem rO {F:Hp}{v:V}{d:PyData}{as:List Addr}(r:Rp F v d as):decide (v=.non)=BO d:=by
 cases r <;> simp [BO]
def SE.TF:SE->SE->SE:=oU (λ_=>λx y H Q=>y=.non/\Q (.bl (decide (x=.non))) H) (λd e=>match e with|.none=>some (.bool (BO d),true)|_=>none) (by
 intro K F H x y d e as bs z Q s r1 r2 h q
 dsimp only at h
 split at h
 ·cases h
  refine⟨r2.none_inv,?_⟩
  rw [rO r1]
  exact q.here (z:=(.bool _,true)) s (.bl _) .nil
 ·cases h)
def SE.cqC:SE->SE->SE:=oU (λ_=>λx y H Q=>y=.non/\Q (.bl (!decide (x=.non))) H) (λd e=>match e with|.none=>some (.bool (!BO d),true)|_=>none) (by
 intro K F H x y d e as bs z Q s r1 r2 h q
 dsimp only at h
 split at h
 ·cases h
  refine⟨r2.none_inv,?_⟩
  rw [rO r1]
  exact q.here (z:=(.bool _,true)) s (.bl _) .nil
 ·cases h)
end Pu
namespace Pu
variable [aO]
open PySem L2
theorem ah.atI {F:Hp}{xs:List V}{ds:List PyData}{as:List Addr}{i:Int}{d:PyData}(r:ah F xs ds as)(e:atI ds i=some d):∃v bs,L2.atI xs i=some v/\Rp F v d bs:=by
 unfold L2.atI at e ⊢
 rw [r.len]
 obtain⟨j,h1,h2⟩:=aL e
 obtain⟨v,bs,h3,h4⟩:=r.get h2
 exact⟨v,bs,by rw [h1];exact h3,h4⟩
def X7:PyData->PyData->Option Vl
 |.list ds,.int i=>(atI ds i).map λd=>(d,false)
 |.tuple ds,.int i=>(atI ds i).map λd=>(d,false)
 |_,_=>none
def jh:SE->SE->SE:=oU (λK=>rIx K) X7 (by
 intro K F H x y d e as bs z Q s r1 r2 h q
 unfold X7 at h
 split at h
 ·rename_i ds i
  obtain⟨w,h1,rfl⟩:=Kan.mp h
  obtain⟨a,xs,cs,rfl,ha,hr,rfl⟩:=r1.aC
  obtain⟨v,es,h3,h4⟩:=hr.atI h1
  exact .inl ⟨a,xs,i,v,rfl,r2.int_inv,.inl (.inl (s _ _ ha)),h3,q.here (z:=(w,false)) s h4 .no⟩
 ·rename_i ds i
  obtain⟨w,h1,rfl⟩:=Kan.mp h
  obtain⟨a,xs,rfl,ha,hr⟩:=r1.dB
  obtain⟨v,es,h3,h4⟩:=hr.atI h1
  exact .inr (.inl ⟨a,xs,i,v,rfl,r2.int_inv,.inl (.inl (s _ _ ha)),h3,q.here (z:=(w,false)) s h4 .no⟩)
 ·cases h)
/-- a new list -/
theorem jJ.newL {F H:Hp}{ds:List PyData}{b:Bool}{Q:VK}{vs:List V}{as:List Addr}{p:Addr}(q:jJ F H (.list ds,b) Q)(s:Same F H)(r:ah F vs ds as)(np:H p=none)(f:b=true->as=[]):Q (.ref p) (upd H p (.lst vs)):=by
 have sa:br F H (upd F p (.lst vs)) (upd H p (.lst vs)):=.alloc s np
 refine q _ _ _ (p::as) sa (.lst upd_same (r.mono sa.sub)) λe=>?_
 rw [f e]
 refine⟨by simp,λa m=>?_⟩
 have:a=p:=by simpa using m
 rw [this];exact np
theorem jJ.Nl {F H:Hp}{ds:List PyData}{b:Bool}{Q:VK}{vs:List V}{as:List Addr}{p:Addr}(q:jJ F H (.tuple ds,b) Q)(s:Same F H)(r:ah F vs ds as)(np:H p=none)(f:b=true->as=[]):Q (.ref p) (upd H p (.tup vs)):=by
 have sa:br F H (upd F p (.tup vs)) (upd H p (.tup vs)):=.alloc s np
 refine q _ _ _ as sa (.tup upd_same (r.mono sa.sub)) λe=>?_
 rw [f e]
 exact⟨KaY,λa m=>by cases m⟩
def cR (ds:List PyData)(lo hi:Option Int):List PyData:=(ds.drop (HT.sIx ds.length 0 lo)).take (HT.sIx ds.length ds.length hi-HT.sIx ds.length 0 lo)
theorem ah.cut {F:Hp}{xs:List V}{ds:List PyData}{as:List Addr}(r:ah F xs ds as)(lo hi:Option Int):∃bs,ah F (cutV xs lo hi) (cR ds lo hi) bs:=by
 unfold cutV cR
 rw [r.len]
 obtain⟨bs,r1,_⟩:=r.drop (HT.sIx ds.length 0 lo)
 obtain⟨cs,r2,_⟩:=r1.take (HT.sIx ds.length ds.length hi-HT.sIx ds.length 0 lo)
 exact⟨cs,r2⟩
def OkO (t:Frag->TO)(ev:List Slot->ae->Option (Option Int×ae)):Prop:=∀(K:Frag) {sk:Option Addr} {F H:Hp} {σ:L2.St} {ρ:List Slot} {aj:List (List Addr)} {s:ae} {b:Option Int} {s':ae} {Q:Option Int->Hp->Prop},Pre sk F H σ ρ aj s->ev ρ s=some (b,s') ->
 (∀F' H',Step sk F H F' H'->bw sk F' H' s'->Q b H')->t K σ H Q
structure SO where
 t:Frag->TO
 ev:List Slot->ae->Option (Option Int×ae)
 ok:OkO t ev
def SO.no:SO:=⟨λ_=>tNoPart,λ_ s=>some (none,s),by
 intro K sk F H σ ρ aj s vl s' Q p h q
 cases h
 exact q F H (.refl p.sub) p.bj⟩
def SO.at (e:SE):SO where
 t:=λK=>tPart (e.t K)
 ev:=λρ s=>(e.ev ρ s).bind λx=>match x.1.1 with|.int i=>some (some i,x.2)|_=>none
 ok:=by
  intro K sk F H σ ρ aj s vl s' Q p h q
  obtain⟨⟨⟨x,b⟩,s1⟩,h1,h⟩:=aL h
  dsimp only at h
  split at h
  ·rename_i i
   cases h
   refine e.ok K p h1 λv F1 H1 as st1 k1 r1 f1=>?_
   exact⟨i,r1.int_inv,q F1 H1 st1 k1⟩
  ·cases h
def SE.slG (r:Frag->V->Option Int->Option Int->Hp->VK->Prop)(f:PyData->Option Int->Option Int->Option Vl)(hr:∀(K:Frag) {F H:Hp} {x:V} {d:PyData} {lo hi:Option Int} {as:List Addr} {z:Vl} {Q:VK},Same F H->Rp F x d as->f d lo hi=some z->jJ F H z Q->r K x lo hi H Q)(a:SE)(lo hi:SO):SE where
 t:=λK=>tSl (r K) (a.t K) (lo.t K) (hi.t K)
 ev:=λρ s=>(a.ev ρ s).bind λx=>(lo.ev ρ x.2).bind λy=>(hi.ev ρ y.2).bind λw=>(f x.1.1 y.1 w.1).bind λz=>some (z,w.2)
 ok:=by
  intro K sk F H σ ρ aj s vl s' Q p h q
  obtain⟨⟨x,s1⟩,h1,h⟩:=aL h
  obtain⟨⟨y,s2⟩,h2,h⟩:=aL h
  obtain⟨⟨w,s3⟩,h3,h⟩:=aL h
  obtain⟨z,h4,h⟩:=aL h
  cases h
  refine a.ok K p h1 λv F1 H1 as st1 k1 r1 f1=>?_
  refine lo.ok K (p.next st1 k1) h2 λF2 H2 st2 k2=>?_
  refine hi.ok K ((p.next st1 k1).next st2 k2) h3 λF3 H3 st3 k3=>?_
  refine hr K st3.sub' ((r1.mono st2.sub).mono st3.sub) h4 λv4 F4 H4 cs nY r4 f4=>?_
  exact q _ F4 H4 cs (((st1.trans st2).trans st3).trans nY.any) (k3.keep nY) r4 (f4.back λa h=>st3.dm a (st2.dm a (st1.dm a h)))
def Yk (d:PyData)(lo hi:Option Int):Option Vl:=match d with
 |.list ds=>some (.list (cR ds lo hi),gv (cR ds lo hi))
 |_=>none
def hxk:SE->SO->SO->SE:=SE.slG (λK=>rSlL K) Yk (by
 intro K F H x d lo hi as z Q s r h q
 unfold Yk at h
 split at h
 ·rename_i ds
  cases h
  obtain⟨a,xs,cs,rfl,ha,hr,rfl⟩:=r.aC
  obtain⟨bs,hc⟩:=hr.cut lo hi
  exact⟨a,xs,rfl,.inl (.inl (s _ _ ha)),λp np=>q.newL s hc np λe=>hc.aB e⟩
 ·cases h)
def JD (d:PyData)(lo hi:Option Int):Option Vl:=match d with
 |.tuple ds=>some (.tuple (cR ds lo hi),false)
 |_=>none
theorem uC {ds:List PyData}{lo hi:Option Int}(h:HT.sIx ds.length 0 lo=0/\HT.sIx ds.length ds.length hi=ds.length):cR ds lo hi=ds:=by
 unfold cR
 rw [h.1,h.2]
 simp
def SE.slT:SE->SO->SO->SE:=SE.slG (λK=>rSlA K) JD (by
 intro K F H x d lo hi as z Q s r h q
 unfold JD at h
 split at h
 ·rename_i ds
  cases h
  obtain⟨a,xs,rfl,ha,hr⟩:=r.dB
  obtain⟨bs,hc⟩:=hr.cut lo hi
  refine⟨a,xs,rfl,.inl (.inl (s _ _ ha)),λe=>?_,λ_ p np=>q.Nl s hc np nofun⟩
  rw [hr.len] at e
  have e2:=uC e
  refine q.here (z:=(.tuple (cR ds lo hi),false)) s ?_ .no (cs:=as)
  show Rp F (.ref a) (.tuple (cR ds lo hi)) as
  rw [e2];exact r
 ·cases h)
def IK:List PyData->Option Vl
 |[.list ds]=>some (.int ds.length,true)
 |[.tuple ds]=>some (.int ds.length,true)
 |_=>none
def lu (a:SE):SE:=uP (λK xs H Q=>∃x n,xs=[x]/\LenV K x H n/\Q (.int (n:Nat)) H) IK (by
 intro K F H xs ds as z Q s r h q
 unfold IK at h
 split at h
 ·rename_i es
  cases h
  cases r with
  |cons r rr=>
   cases rr
   obtain⟨a,ys,cs,rfl,ha,hr,_⟩:=r.aC
   refine⟨_,ys.length,rfl,.inl ⟨ys,.inl (.inl (s _ _ ha)),rfl⟩,?_⟩
   rw [hr.len]
   exact q.here (z:=(.int es.length,true)) s (.int _) .nil
 ·rename_i es
  cases h
  cases r with
  |cons r rr=>
   cases rr
   obtain⟨a,ys,rfl,ha,hr⟩:=r.dB
   refine⟨_,ys.length,rfl,.inr ⟨ys,.inl (.inl (s _ _ ha)),rfl⟩,?_⟩
   rw [hr.len]
   exact q.here (z:=(.int es.length,true)) s (.int _) .nil
 ·cases h) (.cons a .nil)
def HB:PyData->PyData->Option Vl
 |.list ds,.list es=>if ds.length+es.length<=100000 then some (.list (ds++es),gv (ds++es)) else none
 |_,_=>none
def tW:SE->SE->SE:=oU (λ_=>rCat) HB (by
 intro K F H x y d e as bs z Q s r1 r2 h q
 unfold HB at h
 split at h
 ·rename_i ds es
  split at h
  ·rename_i hl
   cases h
   obtain⟨a,xs,cs,rfl,ha,hr,rfl⟩:=r1.aC
   obtain⟨b,ys,cs',rfl,hb,hr',rfl⟩:=r2.aC
   refine⟨a,b,xs,ys,rfl,rfl,s _ _ ha,s _ _ hb,?_,λp np=>q.newL s (hr.app hr') np λe=>(hr.app hr').aB e⟩
   rw [hr.len,hr'.len]
   exact Kau hl (by decide)
  ·cases h
 ·cases h)
def vC:Nat->List PyData->List PyData
 |0,_=>[]
 |n+1,ds=>ds++vC n ds
theorem ah.rep {F:Hp}{xs:List V}{ds:List PyData}{as:List Addr}(r:ah F xs ds as):∀n,∃bs,ah F (Kay n xs).flatten (vC n ds) bs
 |0=>⟨[],.nil⟩
 |n+1=>by
  obtain⟨bs,h⟩:=ah.rep r n
  refine⟨as++bs,?_⟩
  rw [KbB,Kap]
  exact r.app h
def NH:PyData->PyData->Option Vl
 |.list ds,.int k=>if ds.length*k.toNat<=100000/\-100000<=k/\k<=100000 then some (.list (vC k.toNat ds),gv (vC k.toNat ds)) else none
 |_,_=>none
def SE.rep:SE->SE->SE:=oU (λ_=>rRep) NH (by
 intro K F H x y d e as bs z Q s r1 r2 h q
 unfold NH at h
 split at h
 ·rename_i ds k
  split at h
  ·rename_i hl
   cases h
   obtain⟨a,xs,cs,rfl,ha,hr,rfl⟩:=r1.aC
   obtain⟨bs,h2⟩:=hr.rep k.toNat
   refine⟨a,k,xs,rfl,r2.int_inv,s _ _ ha,by omega,by omega,?_,λp np=>q.newL s h2 np λe=>h2.aB e⟩
   rw [hr.len]
   exact Kau hl.1 (by decide)
  ·cases h
 ·cases h)
/-- tuple+tuple -/
def CU:PyData->PyData->Option Vl
 |.tuple ds,.tuple es=>if ds.length+es.length<=100000 then some (.tuple (ds++es),false) else none
 |_,_=>none
def SE.YW:SE->SE->SE:=oU (λK=>rCatA K) CU (by
 intro K F H x y d e as bs z Q s r1 r2 h q
 unfold CU at h
 split at h
 ·rename_i ds es
  split at h
  ·rename_i hl
   cases h
   obtain⟨a,xs,rfl,ha,hr⟩:=r1.dB
   obtain⟨b,ys,rfl,hb,hr'⟩:=r2.dB
   refine⟨a,b,xs,ys,rfl,rfl,.inl (.inl (s _ _ ha)),.inl (.inl (s _ _ hb)),?_,λe=>?_,λ_ e=>?_,λ_ _ p np=>q.Nl s (hr.app hr') np nofun⟩
   ·rw [hr.len,hr'.len]
    exact Kau hl (by decide)
   ·subst e
    cases hr
    exact q.here (z:=(.tuple es,false)) s r2 .no
   ·subst e
    cases hr'
    refine q.here (z:=(.tuple (ds++[]),false)) s ?_ .no (cs:=as)
    show Rp F (.ref a) (.tuple (ds++[])) as
    rw [KaC];exact r1
  ·cases h
 ·cases h)
def eW:PyData->Bool
 |.none=>true
 |.bool _=>true
 |.int _=>true
 |.str _=>true
 |_=>false
theorem gzm {F:Hp}{v:V}{d:PyData}{as:List Addr}(r:Rp F v d as)(h:eW d=true):flatV v=true:=by
 cases r <;> first|rfl|cases h
theorem rC {F:Hp}{vs:List V}{ds:List PyData}{as:List Addr}(r:ah F vs ds as)(h:ds.all eW=true):vs.all flatV=true:=by
 induction ds generalizing vs as with
 |nil=>cases r;rfl
 |cons d ds ih=>
  cases r with
  |cons r rr=>
   rw [Ka7,KaU] at h ⊢
   exact⟨gzm r h.1,ih rr h.2⟩
theorem HW {F:Hp}{v w:V}{d e:PyData}{as bs:List Addr}(r:Rp F v d as)(q:Rp F w e bs)(h:eW d=true)(h':eW e=true):eqV v w=PyData.eqv d e:=by
 cases r <;> cases q <;> first|(simp only [PyData.eqv,eqV];done)|cases h|cases h'
theorem yU {F:Hp}{w:V}{e:PyData}{bs:List Addr}(q:Rp F w e bs)(h':eW e=true){vs:List V}{ds:List PyData}{as:List Addr}(r:ah F vs ds as)(h:ds.all eW=true):inV w vs=ds.any λd=>PyData.eqv d e:=by
 unfold inV
 induction ds generalizing vs as with
 |nil=>cases r;rfl
 |cons d ds ih=>
  cases r with
  |cons r rr=>
   rw [Ka7,KaU] at h
   rw [Kdf,Kdf,HW r q h.1 h',ih rr h.2]
def inF (neg:Bool):PyData->PyData->Option Vl
 |d,.list ds=>if eW d=true/\ds.all eW=true then some (.bool (if neg then !(ds.any λe=>PyData.eqv e d) else ds.any λe=>PyData.eqv e d),true) else none
 |d,.tuple ds=>if eW d=true/\ds.all eW=true then some (.bool (if neg then !(ds.any λe=>PyData.eqv e d) else ds.any λe=>PyData.eqv e d),true) else none
 |_,_=>none
def SE.inn (neg:Bool):SE->SE->SE:=oU (λK=>rIn K neg) (inF neg) (by
 intro K F H x y d e as bs z Q s r1 r2 h q
 unfold inF at h
 split at h
 ·rename_i ds
  split at h
  ·rename_i hh
   cases h
   obtain⟨a,xs,cs,rfl,ha,hr,rfl⟩:=r2.aC
   refine⟨a,xs,rfl,.inl (.inl (.inl (s _ _ ha))),gzm r1 hh.1,rC hr hh.2,?_⟩
   rw [yU r1 hh.1 hr hh.2]
   exact q.here (z:=(.bool _,true)) s (.bl _) .nil
  ·cases h
 ·rename_i ds
  split at h
  ·rename_i hh
   cases h
   obtain⟨a,xs,rfl,ha,hr⟩:=r2.dB
   refine⟨a,xs,rfl,.inr (.inl (.inl (s _ _ ha))),gzm r1 hh.1,rC hr hh.2,?_⟩
   rw [yU r1 hh.1 hr hh.2]
   exact q.here (z:=(.bool _,true)) s (.bl _) .nil
  ·cases h
 ·cases h)
def SE.abs (a:SE):SE:=uP (λ_ xs H Q=>∃i,xs=[.int i]/\Q (.int (if i<0 then -i else i)) H) (λds=>match ds with|[.int i]=>some (.int (if i<0 then -i else i),true)|_=>none) (by
 intro K F H xs ds as z Q s r h q
 dsimp only at h
 split at h
 ·rename_i i
  cases h
  cases r with
  |cons r rr=>
   cases rr
   rw [r.int_inv]
   exact⟨i,rfl,q.here (z:=(.int _,true)) s (.int _) .nil⟩
 ·cases h) (.cons a .nil)
def hxy (a b:SE):SE:=uP (λ_ xs H Q=>∃i j,xs=[.int i,.int j]/\Q (.int (if j > i then j else i)) H) (λds=>match ds with|[.int i,.int j]=>some (.int (max i j),true)|_=>none) (by
 intro K F H xs ds as z Q s r h q
 dsimp only at h
 split at h
 ·rename_i i j
  cases h
  cases r with
  |cons r rr=>
   cases rr with
   |cons r2 rr=>
    cases rr
    rw [r.int_inv,r2.int_inv]
    have e:(if j > i then j else i)=max i j:=by split <;> omega
    exact⟨i,j,rfl,by rw [e];exact q.here (z:=(.int _,true)) s (.int _) .nil⟩
 ·cases h) (.cons a (.cons b .nil))
def PR (a b:SE):SE:=uP (λ_ xs H Q=>∃i j,xs=[.int i,.int j]/\Q (.int (if j<i then j else i)) H) (λds=>match ds with|[.int i,.int j]=>some (.int (min i j),true)|_=>none) (by
 intro K F H xs ds as z Q s r h q
 dsimp only at h
 split at h
 ·rename_i i j
  cases h
  cases r with
  |cons r rr=>
   cases rr with
   |cons r2 rr=>
    cases rr
    rw [r.int_inv,r2.int_inv]
    have e:(if j<i then j else i)=min i j:=by split <;> omega
    exact⟨i,j,rfl,by rw [e];exact q.here (z:=(.int _,true)) s (.int _) .nil⟩
 ·cases h) (.cons a (.cons b .nil))
def yW:List PyData->Option Vl
 |[.int i]=>some (.int i,true)
 |[.bool b]=>some (.int (if b then 1 else 0),true)
 |_=>none
def yS (a:SE):SE:=uP (λ_ xs H Q=>(∃i,xs=[.int i]/\Q (.int i) H)∨∃k,xs=[.bl k]/\Q (.int (if k then 1 else 0)) H) yW (by
 intro K F H xs ds as z Q s r h q
 unfold yW at h
 split at h
 ·rename_i i
  cases h
  cases r with
  |cons r rr=>
   cases rr
   rw [r.int_inv]
   exact .inl ⟨i,rfl,q.here (z:=(.int _,true)) s (.int _) .nil⟩
 ·rename_i i
  cases h
  cases r with
  |cons r rr=>
   cases rr
   rw [r.bool_inv]
   exact .inr ⟨i,rfl,q.here (z:=(.int _,true)) s (.int _) .nil⟩
 ·cases h) (.cons a .nil)
def GR:List PyData->Option (List Int)
 |[]=>some []
 |.int i::r=>(GR r).map (i::·)
 |_=>none
theorem WJ:∀ns:List Int,GR (ns.map .int)=some ns
 |[]=>rfl
 |n::ns=>by simp [GR,WJ ns]
theorem fqf:∀{ds:List PyData} {ns:List Int},GR ds=some ns->ds=ns.map .int
 |[],ns,h=>by cases h;rfl
 |d::ds,ns,h=>by
  unfold GR at h
  split at h
  ·rename_i e;cases e
  ·rename_i i r e
   cases e
   obtain⟨ms,h1,rfl⟩:=Kan.mp h
   rw [fqf h1];rfl
  ·cases h
def KL:List PyData->Option (List Bool)
 |[]=>some []
 |.bool i::r=>(KL r).map (i::·)
 |_=>none
theorem ejo:∀ns:List Bool,KL (ns.map .bool)=some ns
 |[]=>rfl
 |n::ns=>by simp [KL,ejo ns]
theorem l7:∀{ds:List PyData} {ns:List Bool},KL ds=some ns->ds=ns.map .bool
 |[],ns,h=>by cases h;rfl
 |d::ds,ns,h=>by
  unfold KL at h
  split at h
  ·rename_i e;cases e
  ·rename_i i r e
   cases e
   obtain⟨ms,h1,rfl⟩:=Kan.mp h
   rw [l7 h1];rfl
  ·cases h
def GO (f:List Int->Option Vl):List PyData->Option Vl
 |[.list ds]=>(GR ds).bind f
 |_=>none
theorem Wu {f:List Int->Option Vl}{F:Hp}{xs:List V}{ds:List PyData}{as:List Addr}{z:Vl}(r:ah F xs ds as)(h:GO f ds=some z):∃a ns,xs=[.ref a]/\F a=some (.lst (ns.map V.int))/\f ns=some z:=by
 unfold GO at h
 split at h
 ·rename_i es
  obtain⟨ns,h1,h2⟩:=aL h
  cases r with
  |cons r rr=>
   cases rr
   obtain⟨a,ys,cs,rfl,ha,hr,_⟩:=r.aC
   rw [fqf h1] at hr
   rw [hr.ints] at ha
   exact⟨a,ns,rfl,ha,h2⟩
 ·cases h
def SE.sum (a:SE):SE:=uP (λK=>rSum K) (GO λns=>some (.int ns.sum,true)) (by
 intro K F H xs ds as z Q s r h q
 obtain⟨a,ns,rfl,ha,h2⟩:=Wu r h
 cases h2
 exact⟨a,ns,rfl,.inl (.inl (s _ _ ha)),q.here (z:=(.int _,true)) s (.int _) .nil⟩) (.cons a .nil)
def tF:List Int->Int
 |[]=>0
 |[x]=>x
 |x::y::r=>max x (tF (y::r))
def pq:List Int->Int
 |[]=>0
 |[x]=>x
 |x::y::r=>min x (pq (y::r))
theorem zf:∀{ns:List Int} {y:Int},y∈ns->y<=tF ns
 |[x],y,h=>by simp at h;rw [h];exact Ka4 _
 |x::z::r,y,h=>by
  show y<=max x (tF (z::r))
  rcases Kai.mp h with e|e
  ·omega
  ·have:=zf e;omega
theorem u7:∀{ns:List Int},ns≠[]->tF ns∈ns
 |[x],_=>by show x∈[x];simp
 |x::z::r,_=>by
  show max x (tF (z::r))∈x::z::r
  have h:=u7 (ns:=z::r) nofun
  by_cases e:x<=tF (z::r)
  ·rw [Int.max_eq_right e];exact Kad _ h
  ·rw [Int.max_eq_left (by omega)];exact Kaa
theorem zg:∀{ns:List Int} {y:Int},y∈ns->pq ns<=y
 |[x],y,h=>by simp at h;rw [h];exact Ka4 _
 |x::z::r,y,h=>by
  show min x (pq (z::r))<=y
  rcases Kai.mp h with e|e
  ·omega
  ·have:=zg e;omega
theorem fjz:∀{ns:List Int},ns≠[]->pq ns∈ns
 |[x],_=>by show x∈[x];simp
 |x::z::r,_=>by
  show min x (pq (z::r))∈x::z::r
  have h:=fjz (ns:=z::r) nofun
  by_cases e:x<=pq (z::r)
  ·rw [Int.min_eq_left e];exact Kaa
  ·rw [Int.min_eq_right (by omega)];exact Kad _ h
def SE.bq5 (a:SE):SE:=uP (λK=>rMax K) (GO λns=>if ns=[] then none else some (.int (tF ns),true)) (by
 intro K F H xs ds as z Q s r h q
 obtain⟨a,ns,rfl,ha,h2⟩:=Wu r h
 split at h2
 ·cases h2
 ·rename_i hn
  cases h2
  refine⟨a,ns,rfl,.inl (.inl (s _ _ ha)),Kar.mpr hn,λm h1 h2=>?_⟩
  have e:m=tF ns:=Int.le_antisymm (zf h1) (h2 _ (u7 hn))
  rw [e]
  exact q.here (z:=(.int _,true)) s (.int _) .nil) (.cons a .nil)
def X5 (a:SE):SE:=uP (λK=>rMin K) (GO λns=>if ns=[] then none else some (.int (pq ns),true)) (by
 intro K F H xs ds as z Q s r h q
 obtain⟨a,ns,rfl,ha,h2⟩:=Wu r h
 split at h2
 ·cases h2
 ·rename_i hn
  cases h2
  refine⟨a,ns,rfl,.inl (.inl (s _ _ ha)),Kar.mpr hn,λm h1 h2=>?_⟩
  have e:m=pq ns:=Int.le_antisymm (h2 _ (fjz hn)) (zg h1)
  rw [e]
  exact q.here (z:=(.int _,true)) s (.int _) .nil) (.cons a .nil)
def Pr (f:List Bool->Option Vl):List PyData->Option Vl
 |[.list ds]=>(KL ds).bind f
 |_=>none
theorem mS {f:List Bool->Option Vl}{F:Hp}{xs:List V}{ds:List PyData}{as:List Addr}{z:Vl}(r:ah F xs ds as)(h:Pr f ds=some z):∃a ns,xs=[.ref a]/\F a=some (.lst (ns.map V.bl))/\f ns=some z:=by
 unfold Pr at h
 split at h
 ·rename_i es
  obtain⟨ns,h1,h2⟩:=aL h
  cases r with
  |cons r rr=>
   cases rr
   obtain⟨a,ys,cs,rfl,ha,hr,_⟩:=r.aC
   rw [l7 h1] at hr
   rw [hr.bools] at ha
   exact⟨a,ns,rfl,ha,h2⟩
 ·cases h
def MY (a:SE):SE:=uP (λK=>rAll K) (Pr λns=>some (.bool (ns.all id),true)) (by
 intro K F H xs ds as z Q s r h q
 obtain⟨a,ns,rfl,ha,h2⟩:=mS r h
 cases h2
 exact⟨a,ns,rfl,.inl (.inl (s _ _ ha)),q.here (z:=(.bool _,true)) s (.bl _) .nil⟩) (.cons a .nil)
def SE.any (a:SE):SE:=uP (λK=>rAny K) (Pr λns=>some (.bool (ns.any id),true)) (by
 intro K F H xs ds as z Q s r h q
 obtain⟨a,ns,rfl,ha,h2⟩:=mS r h
 cases h2
 exact⟨a,ns,rfl,.inl (.inl (s _ _ ha)),q.here (z:=(.bool _,true)) s (.bl _) .nil⟩) (.cons a .nil)
/-- sorted,of ints -/
def insI (x:Int):List Int->List Int
 |[]=>[x]
 |y::r=>if x<=y then x::y::r else y::insI x r
def sortI:List Int->List Int
 |[]=>[]
 |x::r=>insI x (sortI r)
theorem fzt (x:Int):∀r:List Int,(insI x r).Perm (x::r)
 |[]=>.refl _
 |y::r=>by
  unfold insI
  split
  ·exact .refl _
  ·exact ((fzt x r).cons y).trans (.swap x y r)
theorem sortI_perm:∀r:List Int,(sortI r).Perm r
 |[]=>.refl _
 |x::r=>(fzt x _).trans ((sortI_perm r).cons x)
theorem mH (x:Int):∀{r:List Int},r.Pairwise (·<=·)->(insI x r).Pairwise (·<=·)
 |[],_=>by simp [insI]
 |y::r,h=>by
  unfold insI
  have h1:=Ka1.mp h
  split
  ·rename_i hx
   refine Ka1.mpr ⟨λz hz=>?_,h⟩
   rcases Kai.mp hz with e|e
   ·rw [e];exact hx
   ·exact KbN hx (h1.1 z e)
  ·rename_i hx
   refine Ka1.mpr ⟨λz hz=>?_,mH x h1.2⟩
   rcases Kai.mp ((fzt x r).mem_iff.mp hz) with e|e
   ·rw [e];omega
   ·exact h1.1 z e
theorem kY:∀r:List Int,(sortI r).Pairwise (·<=·)
 |[]=>.nil
 |x::r=>mH x (kY r)
theorem jQ:∀{xs ys:List Int},xs.Perm ys->xs.Pairwise (·<=·)->ys.Pairwise (·<=·)->xs=ys
 |[],ys,p,_,_=>by rw [p.nil_eq]
 |x::xs,[],p,_,_=>by exact absurd p.symm.nil_eq nofun
 |x::xs,y::ys,p,hx,hy=>by
  have h1:=Ka1.mp hx
  have h2:=Ka1.mp hy
  have e:x=y:=by
   have a:x∈y::ys:=p.mem_iff.mp Kaa
   have b:y∈x::xs:=p.mem_iff.mpr Kaa
   rcases Kai.mp a with e|e
   ·exact e
   ·rcases Kai.mp b with e'|e'
    ·exact e'.symm
    ·have:=h2.1 x e;have:=h1.1 y e';omega
  subst e
  rw [jQ (List.Perm.cons_inv p) h1.2 h2.2]
def SE.aw (a:SE):SE:=uP (λK=>rSortedI K) (GO λns=>some (.list ((sortI ns).map .int),true)) (by
 intro K F H xs ds as z Q s r h q
 obtain⟨a,ns,rfl,ha,h2⟩:=Wu r h
 cases h2
 refine⟨a,ns,rfl,.inl (.inl (s _ _ ha)),λns' p hp hs np=>?_⟩
 have e:ns'=sortI ns:=jQ (hp.trans (sortI_perm ns).symm) hs (kY ns)
 rw [e]
 exact q.newL s (ah.zm _) np λ_=>rfl) (.cons a .nil)
/-- list(x),tuple(x) -/
def Er:List PyData->Option Vl
 |[.list ds]=>some (.list ds,gv ds)
 |[.tuple ds]=>some (.list ds,gv ds)
 |_=>none
def PJ (a:SE):SE:=uP (λK xs H Q=>∃p ys,xs=[.ref p]/\(SqL K H p ys∨SqT K H p ys)/\∀l,H l=none->Q (.ref l) (upd H l (.lst ys))) Er (by
 intro K F H xs ds as z Q s r h q
 unfold Er at h
 split at h
 ·rename_i es
  cases h
  cases r with
  |cons r rr=>
   cases rr
   obtain⟨a,ys,cs,rfl,ha,hr,_⟩:=r.aC
   exact⟨a,ys,rfl,.inl (.inl (.inl (s _ _ ha))),λl nl=>q.newL s hr nl λe=>hr.aB e⟩
 ·rename_i es
  cases h
  cases r with
  |cons r rr=>
   cases rr
   obtain⟨a,ys,rfl,ha,hr⟩:=r.dB
   exact⟨a,ys,rfl,.inr (.inl (.inl (s _ _ ha))),λl nl=>q.newL s hr nl λe=>hr.aB e⟩
 ·cases h) (.cons a .nil)
/-- divmod -/
def Zy:List PyData->Option Vl
 |[.int i,.int j]=>if mj i j=true then some (.tuple [.int (i / j),.int (i % j)],true) else none
 |_=>none
def PM (a b:SE):SE:=uP (λ_ xs H Q=>∃i j,xs=[.int i,.int j]/\CDivP i j/\∀p,H p=none->Q (.ref p) (upd H p (.tup [.int (i / j),.int (i % j)]))) Zy (by
 intro K F H xs ds as z Q s r h q
 unfold Zy at h
 split at h
 ·rename_i i j
  split at h
  ·rename_i hc
   cases h
   cases r with
   |cons r rr=>
    cases rr with
    |cons r2 rr=>
     cases rr
     rw [r.int_inv,r2.int_inv]
     refine⟨i,j,rfl,⟨(gzj hc).1,PyProof.noPylong_of_log2 (gzj hc).2⟩,λp np=>q.Nl s (as:=[]) ?_ np λ_=>rfl⟩
     exact .cons (as:=[]) (.int _) (.cons (as:=[]) (.int _) .nil)
  ·cases h
 ·cases h) (.cons a (.cons b .nil))
end Pu
namespace Pu
variable [aO]
open PySem L2
def K7 (a b:SE):SE where
 t:=λK=>tAndV (a.t K) (b.t K)
 ev:=λρ s=>(a.ev ρ s).bind λx=>match x.1.1 with
  |.bool true=>b.ev ρ x.2
  |.bool false=>some ((.bool false,true),x.2)
  |_=>none
 ok:=by
  intro K sk F H σ ρ aj s vl s' Q p h q
  obtain⟨⟨⟨x,fl⟩,s1⟩,h1,h⟩:=aL h
  dsimp only at h
  refine a.ok K p h1 λv F1 H1 as st1 k1 r1 f1=>?_
  split at h
  ·refine⟨true,r1.bool_inv,?_⟩
   rw [if_pos rfl]
   exact b.ok K (p.next st1 k1) h λw F2 H2 bs st2 k2 r2 f2=>q w F2 H2 bs (st1.trans st2) k2 r2 (f2.back st1.dm)
  ·cases h
   refine⟨false,r1.bool_inv,?_⟩
   rw [if_neg Kb9]
   exact q _ F1 H1 [] st1 k1 (.bl _) .nil
  ·cases h
def SE.orV (a b:SE):SE where
 t:=λK=>tOrV (a.t K) (b.t K)
 ev:=λρ s=>(a.ev ρ s).bind λx=>match x.1.1 with
  |.bool false=>b.ev ρ x.2
  |.bool true=>some ((.bool true,true),x.2)
  |_=>none
 ok:=by
  intro K sk F H σ ρ aj s vl s' Q p h q
  obtain⟨⟨⟨x,fl⟩,s1⟩,h1,h⟩:=aL h
  dsimp only at h
  refine a.ok K p h1 λv F1 H1 as st1 k1 r1 f1=>?_
  split at h
  ·refine⟨false,r1.bool_inv,?_⟩
   rw [if_neg Kb9]
   exact b.ok K (p.next st1 k1) h λw F2 H2 bs st2 k2 r2 f2=>q w F2 H2 bs (st1.trans st2) k2 r2 (f2.back st1.dm)
  ·cases h
   refine⟨true,r1.bool_inv,?_⟩
   rw [if_pos rfl]
   exact q _ F1 H1 [] st1 k1 (.bl _) .nil
  ·cases h
def SE.cqD (a:SE):SE where
 t:=λK=>tNotV (a.t K)
 ev:=λρ s=>(a.ev ρ s).bind λx=>match x.1.1 with
  |.bool b=>some ((.bool (!b),true),x.2)
  |_=>none
 ok:=by
  intro K sk F H σ ρ aj s vl s' Q p h q
  obtain⟨⟨⟨x,fl⟩,s1⟩,h1,h⟩:=aL h
  dsimp only at h
  refine a.ok K p h1 λv F1 H1 as st1 k1 r1 f1=>?_
  split at h
  ·rename_i b
   cases h
   exact⟨b,r1.bool_inv,q _ F1 H1 [] st1 k1 (.bl _) .nil⟩
  ·cases h
def ST.ac (a:SE):ST where
 t:=λK=>tB (a.t K)
 ev:=λρ s=>(a.ev ρ s).bind λx=>match x.1.1 with
  |.bool b=>some (b,x.2)
  |_=>none
 ok:=by
  intro K sk F H σ ρ aj s vl s' Q p h q
  obtain⟨⟨⟨x,fl⟩,s1⟩,h1,h⟩:=aL h
  dsimp only at h
  refine a.ok K p h1 λv F1 H1 as st1 k1 r1 f1=>?_
  split at h
  ·rename_i b
   cases h
   exact⟨_,r1.bool_inv,q F1 H1 st1 k1⟩
  ·cases h
def cN:ST:=⟨λ_=>tYes,λ_ s=>some (true,s),by
 intro K sk F H σ ρ aj s vl s' Q p h q
 cases h
 exact q F H (.refl p.sub) p.bj⟩
def wk (a b:ST):ST where
 t:=λK=>tAnd (a.t K) (b.t K)
 ev:=λρ s=>(a.ev ρ s).bind λx=>if x.1=true then b.ev ρ x.2 else some (false,x.2)
 ok:=by
  intro K sk F H σ ρ aj s vl s' Q p h q
  obtain⟨⟨x,s1⟩,h1,h⟩:=aL h
  dsimp only at h
  refine a.ok K p h1 λF1 H1 st1 k1=>?_
  split at h
  ·rename_i e
   rw [if_pos e]
   exact b.ok K (p.next st1 k1) h λF2 H2 st2 k2=>q F2 H2 (st1.trans st2) k2
  ·rename_i e
   cases h
   rw [if_neg e]
   exact q F1 H1 st1 k1
def G1 (a b:ST):ST where
 t:=λK=>tOr (a.t K) (b.t K)
 ev:=λρ s=>(a.ev ρ s).bind λx=>if x.1=true then some (true,x.2) else b.ev ρ x.2
 ok:=by
  intro K sk F H σ ρ aj s vl s' Q p h q
  obtain⟨⟨x,s1⟩,h1,h⟩:=aL h
  dsimp only at h
  refine a.ok K p h1 λF1 H1 st1 k1=>?_
  split at h
  ·rename_i e
   cases h
   rw [if_pos e]
   exact q F1 H1 st1 k1
  ·rename_i e
   rw [if_neg e]
   exact b.ok K (p.next st1 k1) h λF2 H2 st2 k2=>q F2 H2 (st1.trans st2) k2
def K3 (a:ST):ST where
 t:=λK=>tNot (a.t K)
 ev:=λρ s=>(a.ev ρ s).bind λx=>some (!x.1,x.2)
 ok:=by
  intro K sk F H σ ρ aj s vl s' Q p h q
  obtain⟨⟨x,s1⟩,h1,h⟩:=aL h
  cases h
  exact a.ok K p h1 λF1 H1 st1 k1=>q F1 H1 st1 k1
def hxz (c:ST)(a b:SE):SE where
 t:=λK=>tIf (c.t K) (a.t K) (b.t K)
 ev:=λρ s=>(c.ev ρ s).bind λx=>if x.1=true then a.ev ρ x.2 else b.ev ρ x.2
 ok:=by
  intro K sk F H σ ρ aj s vl s' Q p h q
  obtain⟨⟨x,s1⟩,h1,h⟩:=aL h
  dsimp only at h
  refine c.ok K p h1 λF1 H1 st1 k1=>?_
  split at h
  ·rename_i e
   rw [if_pos e]
   exact a.ok K (p.next st1 k1) h λw F2 H2 bs st2 k2 r2 f2=>q w F2 H2 bs (st1.trans st2) k2 r2 (f2.back st1.dm)
  ·rename_i e
   rw [if_neg e]
   exact b.ok K (p.next st1 k1) h λw F2 H2 bs st2 k2 r2 f2=>q w F2 H2 bs (st1.trans st2) k2 r2 (f2.back st1.dm)
abbrev Fn:=List Slot->ae->Option (Vl×ae)
def kh (args:List Slot):List (List Addr):=args.map λ_=>[]
theorem WS:∀args:List Slot,(kh args).flatten=[]
 |[]=>rfl
 |_::r=>by show ([]++(kh r).flatten)=[];rw [WS r];rfl
def bx (m:Fn):Sp:=λvs H Q _=>∃(sk:Option Addr) (F:Hp) (args:List Slot) (s:ae) (vl:Vl) (s':ae),Same F H/\bw sk F H s/\Slots sk F H (vs.map some) args (kh args)/\m args s=some (vl,s') /\
 ∀v F' H' as,Step sk F H F' H'->bw sk F' H' s'->Rp F' v vl.1 as->bO vl.2 H as->Q v H'
def OkR (t:Frag->TA)(ev:List Slot->ae->Option (List Slot×ae)):Prop:=∀(K:Frag) {sk:Option Addr} {F H:Hp} {σ:L2.St} {ρ:List Slot} {aj:List (List Addr)} {s:ae} {args:List Slot} {s':ae} {Q:List V->Hp->Prop},Pre sk F H σ ρ aj s->ev ρ s=some (args,s') ->
 (∀vs F' H',Step sk F H F' H'->bw sk F' H' s'->Slots sk F' H' (vs.map some) args (kh args)->Q vs H')->t K σ H Q
structure SR where
 t:Frag->TA
 ev:List Slot->ae->Option (List Slot×ae)
 ok:OkR t ev
def SR.nil:SR:=⟨λ_=>tNil,λ_ s=>some ([],s),by
 intro K sk F H σ ρ aj s vl s' Q p h q
 cases h
 exact q [] F H (.refl p.sub) p.bj .nil⟩
def SR.cons (e:SE)(r:SR):SR where
 t:=λK=>tCons (e.t K) (r.t K)
 ev:=λρ s=>(e.ev ρ s).bind λx=>(r.ev ρ x.2).bind λy=>some (.dat x.1.1::y.1,y.2)
 ok:=by
  intro K sk F H σ ρ aj s vl s' Q p h q
  obtain⟨⟨x,s1⟩,h1,h⟩:=aL h
  obtain⟨⟨y,s2⟩,h2,h⟩:=aL h
  cases h
  refine e.ok K p h1 λv F1 H1 as st1 k1 r1 f1=>?_
  refine r.ok K (p.next st1 k1) h2 λvs F2 H2 st2 k2 r2=>?_
  exact q _ F2 H2 (st1.trans st2) k2 (.cons ⟨rfl,v,as,rfl,r1.mono st2.sub⟩ r2)
def tY (i:Nat)(r:SR):SR where
 t:=λK=>tCons (tVar i) (r.t K)
 ev:=λρ s=>match ρ[i]? with
  |some .bU=>(r.ev ρ s).bind λy=>some (.bU::y.1,y.2)
  |_=>none
 ok:=by
  intro K sk F H σ ρ aj s vl s' Q p h q
  dsimp only at h
  split at h
  ·rename_i e
   obtain⟨⟨y,s2⟩,h2,h⟩:=aL h
   cases h
   obtain⟨x,fp,e1,e2,z,a,e3,e4⟩:=p.slots.get e
   refine⟨.ref a,by rw [e1,e3],?_⟩
   refine r.ok K p h2 λvs F2 H2 st2 k2 r2=>?_
   exact q _ F2 H2 st2 k2 (.cons ⟨rfl,a,rfl,e4⟩ r2)
  ·cases h
def SE.ag (m:Fn)(a:SR):SE where
 t:=λK=>tCall (bx m) [] E0 (a.t K)
 ev:=λρ s=>(a.ev ρ s).bind λx=>m x.1 x.2
 ok:=by
  intro K sk F H σ ρ aj s vl s' Q p h q
  obtain⟨⟨x,s1⟩,h1,h⟩:=aL h
  refine a.ok K p h1 λvs F1 H1 st1 k1 sl=>?_
  rw [KaC]
  refine⟨sk,F1,x,s1,vl,s',st1.sub',k1,sl,h,λv F2 H2 as st2 k2 r2 f2=>?_⟩
  exact q v F2 H2 as (st1.trans st2) k2 r2 (f2.back st1.dm)
def Yl (J:It)(F:Hp)(ds:List PyData):Prop:=∀F2 H2 i,Same F F2->Same F2 H2 ->
 (∀d,ds[i]? = some d->J.go i H2/\∀x H3,J.yld i H2 x H3->∃F3 as,br F2 H2 F3 H3/\Rp F3 x d as)/\(ds.length<=i->J.stop i H2)
def OkI (t:Frag->TI)(ev:List Slot->ae->Option (List PyData×ae)):Prop:=∀(K:Frag) {sk:Option Addr} {F H:Hp} {σ:L2.St} {ρ:List Slot} {aj:List (List Addr)} {s:ae} {ds:List PyData} {s':ae} {R:It->Hp->Prop},Pre sk F H σ ρ aj s->ev ρ s=some (ds,s') ->
 (∀J F' H',Step sk F H F' H'->bw sk F' H' s'->Yl J F' ds->R J H')->t K σ H R
structure SI where
 t:Frag->TI
 ev:List Slot->ae->Option (List PyData×ae)
 ok:OkI t ev
def SI.list (e:SE):SI where
 t:=λK=>iList K (e.t K)
 ev:=λρ s=>(e.ev ρ s).bind λx=>match x.1.1 with|.list ds=>some (ds,x.2)|_=>none
 ok:=by
  intro K sk F H σ ρ aj s ds s' R p h q
  obtain⟨⟨⟨x,fl⟩,s1⟩,h1,h⟩:=aL h
  dsimp only at h
  split at h
  ·rename_i ds
   cases h
   refine e.ok K p h1 λv F1 H1 as st1 k1 r1 f1=>?_
   obtain⟨a,xs,cs,rfl,ha,hr,_⟩:=r1.aC
   refine⟨a,rfl,⟨xs,.inl (.inl (st1.sub' _ _ ha))⟩,q _ F1 H1 st1 k1 λF2 H2 i s1 s2=>⟨λd hd=>?_,λhl=>?_⟩⟩
   ·have hx:SqL K H2 a xs:=.inl (.inl (s2 _ _ (s1 _ _ ha)))
    obtain⟨v,bs,e1,e2⟩:=hr.get hd
    refine⟨⟨xs,v,hx,e1⟩,λx H3 hy=>?_⟩
    obtain⟨rfl,hy⟩:=hy
    have e3:=hy xs hx
    rw [e1] at e3
    cases e3
    exact⟨F2,bs,.refl s2,e2.mono s1⟩
   ·exact⟨xs,.inl (.inl (s2 _ _ (s1 _ _ ha))),by rw [hr.len];exact hl⟩
  ·cases h
/-- lo,lo+1,.. -/
def sU (lo:Int):Nat->List PyData
 |0=>[]
 |n+1=>.int lo::sU (lo+1) n
theorem fxb:∀(n:Nat) (lo:Int) (i:Nat),(sU lo n)[i]? = if i<n then some (.int (lo+i)) else none
 |0,lo,i=>by simp [sU]
 |n+1,lo,0=>by simp [sU]
 |n+1,lo,i+1=>by
  show (sU (lo+1) n)[i]? = _
  rw [fxb n]
  by_cases h:i<n
  ·rw [if_pos h,if_pos (by omega)]
   congr 2
   omega
  ·rw [if_neg h,if_neg (by omega)]
theorem pR:∀(n:Nat) (lo:Int),(sU lo n).length=n
 |0,_=>rfl
 |n+1,lo=>by show (sU (lo+1) n).length+1=n+1;rw [pR n]
theorem gxs {lo:Int}{n:Nat}{F:Hp}:Yl (Itr lo n) F (sU lo n):=λF2 H2 i s1 s2=>by
 refine⟨λd hd=>?_,λhl=>?_⟩
 ·rw [fxb] at hd
  split at hd
  ·rename_i hi
   cases hd
   refine⟨hi,λx H3 hy=>?_⟩
   obtain⟨rfl,rfl⟩:=hy
   exact⟨F2,[],.refl s2,.int _⟩
  ·cases hd
 ·rw [pR] at hl;exact hl
def D7 (e:SE):SI where
 t:=λK=>iRng1 (tCons (e.t K) tNil)
 ev:=λρ s=>(e.ev ρ s).bind λx=>match x.1.1 with|.int j=>if -1000000<=j/\j<=1000000 then some (sU 0 j.toNat,x.2) else none|_=>none
 ok:=by
  intro K sk F H σ ρ aj s ds s' R p h q
  obtain⟨⟨⟨x,fl⟩,s1⟩,h1,h⟩:=aL h
  dsimp only at h
  split at h
  ·rename_i j
   split at h
   ·rename_i hb
    cases h
    refine e.ok K p h1 λv F1 H1 as st1 k1 r1 f1=>?_
    rw [r1.int_inv]
    exact⟨j,rfl,by omega,by omega,q _ F1 H1 st1 k1 gxs⟩
   ·cases h
  ·cases h
def XW (e e2:SE):SI where
 t:=λK=>iRng2 (tCons (e.t K) (tCons (e2.t K) tNil))
 ev:=λρ s=>(e.ev ρ s).bind λx=>(e2.ev ρ x.2).bind λy=>match x.1.1,y.1.1 with
  |.int i,.int j=>if (-1000000<=i/\i<=1000000)/\-1000000<=j/\j<=1000000 then some (sU i (j-i).toNat,y.2) else none
  |_,_=>none
 ok:=by
  intro K sk F H σ ρ aj s ds s' R p h q
  obtain⟨⟨⟨x,fl⟩,s1⟩,h1,g1⟩:=aL h
  obtain⟨⟨⟨y,Pc⟩,s2⟩,h2,g2⟩:=aL g1
  clear h g1
  dsimp only at g2
  split at g2
  ·rename_i i j
   split at g2
   ·rename_i hb
    cases g2
    refine e.ok K p h1 λv F1 H1 as st1 k1 r1 f1=>?_
    refine e2.ok K (p.next st1 k1) h2 λw F2 H2 bs st2 k2 r2 f2=>?_
    rw [r1.int_inv,r2.int_inv]
    exact⟨i,j,rfl,by omega,q _ F2 H2 (st1.trans st2) k2 gxs⟩
   ·cases g2
  ·cases g2
def jG:List PyData->List PyData->List PyData
 |d::ds,e::es=>.tuple [d,e]::jG ds es
 |_,_=>[]
theorem gje:∀{ds es:List PyData} {i:Nat} {d:PyData},(jG ds es)[i]? = some d->∃a b,ds[i]? = some a/\es[i]? = some b/\d=.tuple [a,b]
 |[],_,_,_,h=>by simp [jG] at h
 |_::_,[],_,_,h=>by simp [jG] at h
 |a::ds,b::es,0,d,h=>by
  have e:PyData.tuple [a,b]=d:=Option.some.inj h
  exact⟨a,b,rfl,rfl,e.symm⟩
 |a::ds,b::es,i+1,d,h=>gje (ds:=ds) (es:=es) (i:=i) h
theorem gze:∀(ds es:List PyData),(jG ds es).length=min ds.length es.length
 |[],es=>by simp [jG]
 |_::_,[]=>by simp [jG]
 |_::ds,_::es=>by
  show (jG ds es).length+1=min (ds.length+1) (es.length+1)
  rw [gze ds es];omega
def M4 (e e2:SE):SI where
 t:=λK=>iZip K (tCons (e.t K) (tCons (e2.t K) tNil))
 ev:=λρ s=>(e.ev ρ s).bind λx=>(e2.ev ρ x.2).bind λy=>match x.1.1,y.1.1 with
  |.list ds,.list es=>some (jG ds es,y.2)
  |_,_=>none
 ok:=by
  intro K sk F H σ ρ aj s ds s' R p h q
  obtain⟨⟨⟨x,fl⟩,s1⟩,h1,h⟩:=aL h
  obtain⟨⟨⟨y,Pc⟩,s2⟩,h2,h⟩:=aL h
  dsimp only at h
  split at h
  ·rename_i ds es
   cases h
   refine e.ok K p h1 λv F1 H1 as st1 k1 r1 f1=>?_
   refine e2.ok K (p.next st1 k1) h2 λw F2 H2 bs st2 k2 r2 f2=>?_
   obtain⟨a,xs,cs,rfl,ha,hr,_⟩:=(r1.mono st2.sub).aC
   obtain⟨b,ys,cs',rfl,hb,hr',_⟩:=r2.aC
   refine⟨a,b,xs,ys,rfl,.inl (.inl (st2.sub' _ _ ha)),.inl (.inl (st2.sub' _ _ hb)),q _ F2 H2 (st1.trans st2) k2 λF3 H3 i s1 s2=>?_⟩
   have hx:SqL K H3 a xs:=.inl (.inl (s2 _ _ (s1 _ _ ha)))
   have hy:SqL K H3 b ys:=.inl (.inl (s2 _ _ (s1 _ _ hb)))
   refine⟨λd hd=>?_,λhl=>?_⟩
   ·obtain⟨d1,d2,g1,g2,rfl⟩:=gje hd
    obtain⟨v1,b1,e1,q1⟩:=hr.get g1
    obtain⟨v2,b2,e2,q2⟩:=hr'.get g2
    refine⟨⟨xs,ys,v1,v2,hx,hy,e1,e2⟩,λx H4 hz=>?_⟩
    obtain⟨T,x1,x2,rfl,nT,rfl,z1,z2⟩:=hz
    have z1:=z1 _ hx
    have z2:=z2 _ hy
    rw [e1] at z1
    rw [e2] at z2
    cases z1
    cases z2
    have sa:br F3 H3 (upd F3 T (.tup [v1,v2])) (upd H3 T (.tup [v1,v2])):=.alloc s2 nT
    exact⟨_,_,sa,.tup upd_same (.cons ((q1.mono s1).mono sa.sub) (.cons ((q2.mono s1).mono sa.sub) .nil))⟩
   ·refine⟨xs,ys,hx,hy,?_⟩
    rw [gze] at hl
    rw [hr.len,hr'.len]
    omega
  ·cases h
def gM (i:Int):List PyData->List PyData
 |[]=>[]
 |d::ds=>.tuple [.int i,d]::gM (i+1) ds
theorem fqt:∀{ds:List PyData} {k:Int} {i:Nat} {d:PyData},(gM k ds)[i]? = some d->∃a,ds[i]? = some a/\d=.tuple [.int (k+i),a]
 |[],_,_,_,h=>by simp [gM] at h
 |a::ds,k,0,d,h=>by
  have e:PyData.tuple [.int k,a]=d:=Option.some.inj h
  exact⟨a,rfl,by rw [<-e];simp⟩
 |a::ds,k,i+1,d,h=>by
  obtain⟨b,h1,h2⟩:=fqt (ds:=ds) (k:=k+1) (i:=i) h
  refine⟨b,h1,?_⟩
  rw [h2]
  have:k+1+(i:Int)=k+((i+1:Nat):Int):=by omega
  rw [this]
theorem fqw:∀(ds:List PyData) (k:Int),(gM k ds).length=ds.length
 |[],_=>rfl
 |_::ds,k=>by show (gM (k+1) ds).length+1=ds.length+1;rw [fqw ds]
def IC (e:SE):SI where
 t:=λK=>iEnum K (tCons (e.t K) tNil)
 ev:=λρ s=>(e.ev ρ s).bind λx=>match x.1.1 with
  |.list ds=>some (gM 0 ds,x.2)
  |_=>none
 ok:=by
  intro K sk F H σ ρ aj s ds s' R p h q
  obtain⟨⟨⟨x,fl⟩,s1⟩,h1,h⟩:=aL h
  dsimp only at h
  split at h
  ·rename_i ds
   cases h
   refine e.ok K p h1 λv F1 H1 as st1 k1 r1 f1=>?_
   obtain⟨a,xs,cs,rfl,ha,hr,_⟩:=r1.aC
   refine⟨a,xs,rfl,.inl (.inl (st1.sub' _ _ ha)),q _ F1 H1 st1 k1 λF3 H3 i s1 s2=>?_⟩
   have hx:SqL K H3 a xs:=.inl (.inl (s2 _ _ (s1 _ _ ha)))
   refine⟨λd hd=>?_,λhl=>?_⟩
   ·obtain⟨d1,g1,rfl⟩:=fqt hd
    obtain⟨v1,b1,e1,q1⟩:=hr.get g1
    refine⟨⟨xs,v1,hx,e1⟩,λx H4 hz=>?_⟩
    obtain⟨T,x1,rfl,nT,rfl,z1⟩:=hz
    have z1:=z1 _ hx
    rw [e1] at z1
    cases z1
    have sa:br F3 H3 (upd F3 T (.tup [.int i,v1])) (upd H3 T (.tup [.int i,v1])):=.alloc s2 nT
    refine⟨_,_,sa,.tup upd_same (.cons (as:=[]) ?_ (.cons ((q1.mono s1).mono sa.sub) .nil))⟩
    rw [Kds]
    exact .int _
   ·refine⟨xs,hx,?_⟩
    rw [fqw] at hl
    rw [hr.len]
    exact hl
  ·cases h
def OkG (t:Frag->TG)(ix:List Nat)(ev:PyData->List Slot->Option (List Slot)):Prop:=∀(K:Frag) {sk:Option Addr} {F H:Hp} {σ:L2.St} {ρ:List Slot} {aj:List (List Addr)} {v:V} {d:PyData} {as:List Addr} {ρ':List Slot} {Q:L2.St->Hp->Prop},Same F H->Rp F v d as->Slots sk F H σ ρ aj->ev d ρ=some ρ' ->
 (∀σ' az,Slots sk F H σ' ρ' az->(∀a∈az.flatten,a∈aj.flatten)->az.flatten.Sublist aj.flatten->(∀vs:List Nat,(∀i∈ix,i∈vs)->wipe σ' vs=wipe σ vs)->Q σ' H)->t K v σ H Q
structure SG where
 t:Frag->TG
 ix:List Nat
 ev:PyData->List Slot->Option (List Slot)
 ok:OkG t ix ev
theorem gqc {σ:L2.St}{i:Nat}{x:Option V}:∀{vs:List Nat},i∈vs->wipe (σ.set i x) vs=wipe σ vs
 |v::vs,h=>by
  unfold wipe
  by_cases e:i∈vs
  ·rw [gqc e]
  ·have e2:i=v:=by
    rcases Kai.mp h with z|z
    ·exact z
    ·exact absurd z e
   subst e2
   have:∀(ws:List Nat) (τ:L2.St),i∉ws->(wipe (τ.set i x) ws).set i none=(wipe τ ws).set i none:=by
    intro ws
    induction ws with
    |nil=>intro τ _;show (τ.set i x).set i none=τ.set i none;rw [Kaz]
    |cons w ws ih=>
     intro τ hw
     have n1:i≠w:=λz=>hw (by rw [z];exact Kaa)
     have n2:i∉ws:=λz=>hw (Kad _ z)
     unfold wipe
     rw [Kca _ _ n1.symm,ih τ n2,Kca _ _ n1]
   exact this vs σ e
theorem iH {aj:List (List Addr)}{i:Nat}:(aj.set i []).flatten.Sublist aj.flatten:=by
 induction aj generalizing i with
 |nil=>exact Kbe.refl _
 |cons x xs ih=>
  cases i with
  |zero=>
   show ([]++xs.flatten).Sublist (x++xs.flatten)
   rw [Kbr]
   exact KbL _ _
  |succ i=>
   show (x++(xs.set i []).flatten).Sublist (x++xs.flatten)
   exact Kbe.append (Kbe.refl _) ih
def aY (i:Nat):SG where
 t:=λ_=>gName i
 ix:=[i]
 ev:=λd ρ=>some (ρ.set i (.dat d))
 ok:=by
  intro K sk F H σ ρ aj v d as ρ' Q s r sl h q
  cases h
  refine q _ (aj.set i []) (sl.set ⟨rfl,v,as,rfl,r⟩) (λa m=>iH.mem m) iH λvs hv=>gqc (hv i (by simp))
def Yz (t:Frag->TGs)(ix:List Nat)(ev:List PyData->List Slot->Option (List Slot)):Prop:=∀(K:Frag) {sk:Option Addr} {F H:Hp} {σ:L2.St} {ρ:List Slot} {aj:List (List Addr)} {vs:List V} {ds:List PyData} {as:List Addr} {ρ':List Slot} {Q:L2.St->Hp->Prop},Same F H->ah F vs ds as->Slots sk F H σ ρ aj->ev ds ρ=some ρ' ->
 (∀σ' az,Slots sk F H σ' ρ' az->(∀a∈az.flatten,a∈aj.flatten)->az.flatten.Sublist aj.flatten->(∀vs:List Nat,(∀i∈ix,i∈vs)->wipe σ' vs=wipe σ vs)->Q σ' H)->t K vs σ H Q
structure sP where
 t:Frag->TGs
 n:Nat
 ix:List Nat
 ev:List PyData->List Slot->Option (List Slot)
 ok:Yz t ix ev
def sP.nil:sP where
 t:=λ_=>gNil
 n:=0
 ix:=[]
 ev:=λds ρ=>match ds with|[]=>some ρ|_=>none
 ok:=by
  intro K sk F H σ ρ aj v d as ρ' Q s r sl h q
  dsimp only at h
  split at h
  ·cases h
   cases r
   exact⟨rfl,q _ aj sl (λa m=>m) (Kbe.refl _) λvs hv=>rfl⟩
  ·cases h
def sP.cons (g:SG)(r:sP):sP where
 t:=λK=>gCons (g.t K) (r.t K)
 n:=r.n+1
 ix:=g.ix++r.ix
 ev:=λds ρ=>match ds with|d::ds=>(g.ev d ρ).bind λaH=>r.ev ds aH|_=>none
 ok:=by
  intro K sk F H σ ρ aj v d as ρ' Q s rr sl h q
  dsimp only at h
  split at h
  ·rename_i d ds
   obtain⟨aH,h1,h2⟩:=aL h
   cases rr with
   |cons r1 r2=>
    refine⟨_,_,rfl,g.ok K s r1 sl h1 λσ1 jZ sl1 m1 u1 w1=>?_⟩
    refine r.ok K s r2 sl1 h2 λσ2 dN sl2 m2 u2 w2=>?_
    refine q σ2 dN sl2 (λa m=>m1 a (m2 a m)) (u2.trans u1) λvs hv=>?_
    rw [w2 vs λi hi=>hv i (Kax _ hi),w1 vs λi hi=>hv i (Kab _ hi)]
  ·cases h
def SG.tup (g:sP):SG where
 t:=λK=>gTup K g.n (g.t K)
 ix:=g.ix
 ev:=λd ρ=>match d with|.tuple ds=>if ds.length=g.n then g.ev ds ρ else none|_=>none
 ok:=by
  intro K sk F H σ ρ aj v d as ρ' Q s r sl h q
  dsimp only at h
  split at h
  ·rename_i ds
   split at h
   ·rename_i hl
    obtain⟨a,xs,rfl,ha,hr⟩:=r.dB
    exact⟨a,xs,rfl,.inl (.inl (s _ _ ha)),by rw [hr.len];exact hl,g.ok K s hr sl h q⟩
   ·cases h
  ·cases h
end Pu
namespace Pu
variable [aO]
open PySem L2
section
variable {sk:Option Addr}{F H:Hp}{σ:L2.St}{ρ:List Slot}{aj:List (List Addr)}
theorem RY {α:Type}{l:List α}{i:Nat}{x:α}(h:l[i]? = some x):l.set i x=l:=by
 induction l generalizing i with
 |nil=>rfl
 |cons y l ih=>
  cases i with
  |zero=>cases h;rfl
  |succ i=>show y::l.set i x=y::l;rw [ih h]
/-- one more frozen object beside bh slots -/
theorem Slots.upd {a:Addr}{o:HO}(h:Slots sk F H σ ρ aj)(ha:a∉aj.flatten)(hF:F a=none):Slots sk (upd F a o) H σ ρ aj:=by
 have s1:Same F (L2.upd F a o):=λb u e=>by rw [upd_ne (ne_of_none e hF)];exact e
 induction h with
 |nil=>exact .nil
 |@cons x xs sl NY fp aj h r ih=>
  rw [Kap] at ha
  refine .cons ?_ (ih λm=>ha (Kax _ m))
  cases sl with
  |emp=>exact h
  |dat d=>obtain⟨e,v,as,e1,r⟩:=h;exact⟨e,v,as,e1,r.mono s1⟩
  |own d=>obtain⟨v,e1,r⟩:=h;exact⟨v,e1,r.mono s1⟩
  |aS ds o=>
   obtain⟨b,vs,as,e1,e2,e3,r,e4⟩:=h
   refine⟨b,vs,as,e1,e2,?_,r.mono s1,e4⟩
   rw [upd_ne (λz=>ha (Kab _ (by rw [e4,z];exact Kaa)))]
   exact e3
  |GJ f=>
   obtain⟨b,ws,e1,e2,e3,e4,r,e5⟩:=h
   refine⟨b,ws,e1,e2,?_,⟨e4.1,λp hp=>(e4.2 p hp).mono s1⟩,λk=>(r k).mono s1,e5⟩
   rw [upd_ne (λz=>ha (Kab _ (by rw [e5,z];exact Kaa)))]
   exact e3
  |Mw es=>obtain⟨e,a,od,ws,e1,e2,r⟩:=h;exact⟨e,a,od,ws,e1,s1 _ _ e2,OY s1 r⟩
  |My es=>
   obtain⟨b,ws,e1,e2,e3,r,e5⟩:=h
   refine⟨b,ws,e1,e2,?_,OY s1 r,e5⟩
   rw [upd_ne (λz=>ha (Kab _ (by rw [e5,z];exact Kaa)))]
   exact e3
  |Mz es=>
   obtain⟨b,ws,as,e1,e2,e3,r,e4,e5⟩:=h
   refine⟨b,ws,as,e1,e2,?_,fjn s1 (λ_ m=>m) r,λc m=>(e4 c m).imp λ_ z=>s1 _ _ z,e5⟩
   rw [upd_ne (λz=>ha (Kab _ (by rw [e5,z];exact Kaa)))]
   exact e3
  |gI f=>
   obtain⟨b,ws,e1,e2,e3,e4,r,e5⟩:=h
   refine⟨b,ws,e1,e2,?_,e4,λk=>(r k).mono s1,e5⟩
   rw [upd_ne (λz=>ha (Kab _ (by rw [e5,z];exact Kaa)))]
   exact e3
  |bU=>exact h
  |fix v=>exact h
  |fn f c q=>exact⟨h.1,h.2.1,s1 _ _ h.2.2⟩
  |jy d=>
   obtain⟨v,e1,r,e2⟩:=h
   refine⟨v,e1,r.mono (RI s1 λ_ _ _ e=>e),λb m=>?_⟩
   rw [upd_ne (λz=>ha (Kab _ (by rw [<-z];exact m)))]
   exact e2 b m
  |ins C nm ds=>obtain⟨e,b,dx,vs,as,e1,e2,e3,r⟩:=h;exact⟨e,b,dx,vs,as,e1,s1 _ _ e2,e3,r.mono s1⟩
  |obj C b nm ds=>
   obtain⟨dx,vs,as,e1,e2,e3,e4,e5,e6,r,e7⟩:=h
   refine⟨dx,vs,as,e1,e2,?_,e4,?_,e6,r.mono s1,e7⟩
   ·rw [upd_ne (λz=>ha (Kab _ (by rw [e7,z];exact Kaa)))];exact e3
   ·rw [upd_ne (λz=>ha (Kab _ (by rw [e7,z];exact Kad _ Kaa)))];exact e5
  |qG B C nm ds=>obtain⟨e,b,dx,vs,as,e1,e2,e3,r,hB⟩:=h;exact⟨e,b,dx,vs,as,e1,s1 _ _ e2,e3,r.mono s1,hB⟩
  |xn B C b nm ds=>
   obtain⟨dx,vs,as,e1,e2,e3,e4,e5,e6,r,hB,e7⟩:=h
   refine⟨dx,vs,as,e1,e2,?_,e4,?_,e6,r.mono s1,λc m=>⟨gqa s1 (hB c m).1,(hB c m).2⟩,e7⟩
   ·rw [upd_ne (λz=>ha (Kab _ (by rw [e7,z];exact Kaa)))];exact e3
   ·rw [upd_ne (λz=>ha (Kab _ (by rw [e7,z];exact Kad _ Kaa)))];exact e5
  |Ob o ks ds f=>
   obtain⟨b,dx,ws,vs,as,rs,bs,e1,eo,e2,e3,e4,e5,e6,r,e7,e8,e9⟩:=h
   refine⟨b,dx,ws,vs,as,rs,bs,e1,eo,e2,?_,e4,?_,e6,r.mono s1,e7,e8.mono s1,e9⟩
   ·rw [upd_ne (λz=>ha (Kab _ (by rw [e9,z];exact Kaa)))];exact e3
   ·rw [upd_ne (λz=>ha (Kab _ (by rw [e9,z];exact Kad _ Kaa)))];exact e5
theorem Slots.Bm {a:Addr}{o:HO}(h:Slots sk F H σ ρ aj)(ha:a∉aj.flatten):Slots sk F (L2.upd H a o) σ ρ aj:=by
 induction h with
 |nil=>exact .nil
 |@cons x xs sl NY fp aj h r ih=>
  rw [Kap] at ha
  refine .cons ?_ (ih λm=>ha (Kax _ m))
  cases sl with
  |emp=>exact h
  |dat d=>exact h
  |own d=>exact h
  |aS ds o=>
   obtain⟨b,vs,as,e1,e2,e3,r,e4⟩:=h
   refine⟨b,vs,as,e1,?_,e3,r,e4⟩
   rw [upd_ne (λz=>ha (Kab _ (by rw [e4,z];exact Kaa)))]
   exact e2
  |GJ f=>
   obtain⟨b,ws,e1,e2,e3,e4,r,e5⟩:=h
   refine⟨b,ws,e1,?_,e3,e4,r,e5⟩
   rw [upd_ne (λz=>ha (Kab _ (by rw [e5,z];exact Kaa)))]
   exact e2
  |Mw es=>exact h
  |My es=>
   obtain⟨b,ws,e1,e2,e3,r,e5⟩:=h
   refine⟨b,ws,e1,?_,e3,r,e5⟩
   rw [upd_ne (λz=>ha (Kab _ (by rw [e5,z];exact Kaa)))]
   exact e2
  |Mz es=>
   obtain⟨b,ws,as,e1,e2,e3,r,e4,e5⟩:=h
   refine⟨b,ws,as,e1,?_,e3,r,e4,e5⟩
   rw [upd_ne (λz=>ha (Kab _ (by rw [e5,z];exact Kaa)))]
   exact e2
  |gI f=>
   obtain⟨b,ws,e1,e2,e3,e4,r,e5⟩:=h
   refine⟨b,ws,e1,?_,e3,e4,r,e5⟩
   rw [upd_ne (λz=>ha (Kab _ (by rw [e5,z];exact Kaa)))]
   exact e2
  |bU=>exact h
  |fix v=>exact h
  |fn f c q=>exact h
  |jy d=>
   obtain⟨v,e1,r,e2⟩:=h
   refine⟨v,e1,r.mono (RI (Same.refl _) λb m o e=>?_),e2⟩
   rw [upd_ne (λz=>ha (Kab _ (by rw [<-z];exact m)))]
   exact e
  |ins C nm ds=>exact h
  |obj C b nm ds=>
   obtain⟨dx,vs,as,e1,e2,e3,e4,e5,e6,r,e7⟩:=h
   refine⟨dx,vs,as,e1,?_,e3,?_,e5,e6,r,e7⟩
   ·rw [upd_ne (λz=>ha (Kab _ (by rw [e7,z];exact Kaa)))];exact e2
   ·rw [upd_ne (λz=>ha (Kab _ (by rw [e7,z];exact Kad _ Kaa)))];exact e4
  |qG B C nm ds=>exact h
  |xn B C b nm ds=>
   obtain⟨dx,vs,as,e1,e2,e3,e4,e5,e6,r,hB,e7⟩:=h
   refine⟨dx,vs,as,e1,?_,e3,?_,e5,e6,r,hB,e7⟩
   ·rw [upd_ne (λz=>ha (Kab _ (by rw [e7,z];exact Kaa)))];exact e2
   ·rw [upd_ne (λz=>ha (Kab _ (by rw [e7,z];exact Kad _ Kaa)))];exact e4
  |Ob o ks ds f=>
   obtain⟨b,dx,ws,vs,as,rs,bs,e1,eo,e2,e3,e4,e5,e6,r,e7,e8,e9⟩:=h
   refine⟨b,dx,ws,vs,as,rs,bs,e1,eo,?_,e3,?_,e5,e6,r,e7,e8,e9⟩
   ·rw [upd_ne (λz=>ha (Kab _ (by rw [e9,z];exact Kaa)))];exact e2
   ·rw [upd_ne (λz=>ha (Kab _ (by rw [e9,z];exact Kad _ Kaa)))];exact e4
/-- slot i without its content -/
theorem Slots.drop {i:Nat}(h:Slots sk F H σ ρ aj):Slots sk F H σ (ρ.set i .emp) (aj.set i []):=by
 induction h generalizing i with
 |nil=>exact .nil
 |cons h r ih=>
  cases i with
  |zero=>exact .cons rfl r
  |succ i=>exact .cons h ih
/-- slot i set anew -/
theorem Slots.fill {i:Nat}{x:Option V}{sl:Slot}{fp:List Addr}(h:Slots sk F H σ ρ aj)(hx:σ[i]? = some x)(q:qB sk F H x sl fp):Slots sk F H σ (ρ.set i sl) (aj.set i fp):=by
 have:=h.set (i:=i) q
 rwa [RY hx] at this
end
def bu (ρ:List Slot):List Nat->List Slot
 |[]=>ρ
 |v::vs=>(bu ρ vs).set v .emp
theorem Slots.wipe {sk:Option Addr}{F H:Hp}{σ:L2.St}{ρ:List Slot}{aj:List (List Addr)}(h:Slots sk F H σ ρ aj):∀vs:List Nat,∃az,Slots sk F H (wipe σ vs) (bu ρ vs) az/\az.flatten.Sublist aj.flatten
 |[]=>⟨aj,h,Kbe.refl _⟩
 |v::vs=>by
  obtain⟨f1,h1,h2⟩:=Slots.wipe h vs
  exact⟨f1.set v [],h1.set rfl,iH.trans h2⟩
theorem WQ (σ:L2.St)(vs:List Nat):wipe (wipe σ vs) vs=wipe σ vs:=by
 have:∀ws:List Nat,(∀i∈ws,i∈vs)->wipe (wipe σ ws) vs=wipe σ vs:=by
  intro ws
  induction ws with
  |nil=>intro _;rfl
  |cons w ws ih=>
   intro h
   show wipe ((wipe σ ws).set w none) vs=wipe σ vs
   rw [gqc (h w Kaa),ih λi hi=>h i (Kad _ hi)]
 exact this vs λi hi=>hi
def fP (z:Vl):Bool:=z.2 ||aB z.1
def bY (g:PyData->List Slot->Option (List Slot))(tt:List Slot->ae->Option (Bool×ae))(e:JS)(ρ:List Slot):List PyData->ae->Option (List Vl×ae)
 |[],s=>some ([],s)
 |d::ds,s=>(g d ρ).bind λaH=>(tt aH s).bind λb=>if b.1=true then (e aH b.2).bind λy=>(bY g tt e ρ ds y.2).bind λz=>some (y.1::z.1,z.2) else bY g tt e ρ ds b.2
/-- bh state of a comprehension -/
structure qP (sk:Option Addr)(F1 H1:Hp)(D:Addr)(ys:List Vl)(F H:Hp)(s:ae)(vs:List V)(as:List Addr):Prop where
 sub:Same F1 F
 sub':Same F H
 fr:∀(a:Addr) (o:HO) (_:sk≠some a) (_:H1 a=some o) (_:um o:=by first|assumption|(intro ps z;cases z;done)),H a=some o
 dm:∀a,H1 a≠none->H a≠none
 new:∀a o,F a=some o->F1 a=some o∨H1 a=none
 bj:bw sk F H s
 hD:H D=some (.lst vs)
 fD:F D=none
 r:ah F vs (ys.map (·.1)) as
 cu:bO (ys.all fP) H1 as
/-- one more aqB expression -/
theorem qP.step {sk:Option Addr}{F1 H1:Hp}{D:Addr}{ys:List Vl}{F H F' H':Hp}{s s':ae}{vs:List V}{as:List Addr}(L:qP sk F1 H1 D ys F H s vs as)(nD:sk≠some D)(st:Step sk F H F' H')(k:bw sk F' H' s'):qP sk F1 H1 D ys F' H' s' vs as:=by
 refine⟨L.sub.trans st.sub,st.sub',λa o h e hs=>st.fr a o h (L.fr a o h e hs) hs,λa h=>st.dm a (L.dm a h),λa o e=>?_,k,st.fr D _ nD L.hD,?_,L.r.mono st.sub,L.cu⟩
 ·rcases st.new a o e with z|z
  ·exact L.new a o z
  ·refine .inr ?_
   cases q:H1 a with
   |none=>rfl
   |some u=>exact absurd z (L.dm a (by rw [q];exact nofun))
 ·cases q:F' D with
  |none=>rfl
  |some u=>
   rcases st.new D u q with z|z
   ·rw [L.fD] at z;cases z
   ·rw [L.hD] at z;cases z
/-- bh new item is put in -/
theorem qP.put {sk:Option Addr}{F1 H1:Hp}{D:Addr}{ys:List Vl}{F H F' H':Hp}{s s':ae}{vs:List V}{as bs:List Addr}{y:Vl}{v:V}(L:qP sk F1 H1 D ys F H s vs as)(nD:sk≠some D)(hn:H1 D=none)(st:Step sk F H F' H')(k:bw sk F' H' s')(r:Rp F' v y.1 bs)(f:bO y.2 H bs):
  qP sk F1 H1 D (ys++[y]) F' (upd H' D (.lst (vs++[v]))) s' (vs++[v]) (as++bs):=by
 have M:=L.step nD st k
 refine⟨M.sub,λa o e=>?_,λa o h e hs=>?_,λa h=>?_,M.new,⟨λa e=>?_,RP M.bj.tab M.hD⟩,upd_same,M.fD,?_,?_⟩
 ·rw [upd_ne (λz=>by rw [z,M.fD] at e;cases e)];exact M.sub' a o e
 ·rw [upd_ne (λz=>by rw [z,hn] at e;cases e)];exact M.fr a o h e
 ·rw [upd_ne (λz=>h (by rw [z];exact hn))];exact M.dm a h
 ·obtain⟨h1,h2⟩:=M.bj a e
  exact⟨by rw [upd_ne (λz=>nD (by rw [<-z];exact e))];exact h1,h2⟩
 ·rw [Kav]
  have:=M.r.app (ah.cons r .nil)
  simpa using this
 ·intro e
  rw [Kc1,KaU] at e
  have e2:fP y=true:=by simpa using e.2
  obtain⟨n1,n2⟩:=L.cu e.1
  have hb:bs.Nodup/\∀a∈bs,H a=none:=by
   unfold fP at e2
   rcases Ka3.mp e2 with z|z
   ·exact f z
   ·rw [r.aB z];exact⟨KaY,λa m=>by cases m⟩
  refine⟨Kag.mpr ⟨n1,hb.1,λa ma b mb z=>?_⟩,λa m=>?_⟩
  ·subst z
   obtain⟨xs,hx⟩:=L.r.dom a ma
   have z1:=L.sub' a _ hx
   rw [hb.2 a mb] at z1
   cases z1
  ·rcases Kat.mp m with z|z
   ·exact n2 a z
   ·cases q:H1 a with
    |none=>rfl
    |some u=>exact absurd (hb.2 a z) (L.dm a (by rw [q];exact nofun))
theorem qP.done {sk:Option Addr}{F1 H1:Hp}{D:Addr}{ys:List Vl}{F H:Hp}{s:ae}{vs:List V}{as:List Addr}(L:qP sk F1 H1 D ys F H s vs as)(nD:sk≠some D)(hn:H1 D=none):
  Step sk F1 H1 (upd F D (.lst vs)) H/\bw sk (upd F D (.lst vs)) H s/\Rp (upd F D (.lst vs)) (.ref D) (.list (ys.map (·.1))) (D::as)/\bO (ys.all fP) H1 (D::as):=by
 have s1:Same F (upd F D (.lst vs)):=λa o e=>by
  rw [upd_ne (λz=>by rw [z,L.fD] at e;cases e)];exact e
 refine⟨⟨L.sub.trans s1,λa o e=>?_,λa o x y z=>L.fr a o x y z,L.dm,λa o e=>?_⟩,⟨λa e=>?_,L.bj.tab.vR⟩,.lst upd_same (L.r.mono s1),λe=>?_⟩
 ·by_cases q:a=D
  ·rw [q,upd_same] at e;rw [q,<-e];exact L.hD
  ·rw [upd_ne q] at e;exact L.sub' a o e
 ·by_cases q:a=D
  ·rw [q];exact .inr hn
  ·rw [upd_ne q] at e;exact L.new a o e
 ·obtain⟨h1,h2⟩:=L.bj a e
  exact⟨h1,by rw [upd_ne (λz=>nD (by rw [<-z];exact e))];exact h2⟩
 ·obtain⟨n1,n2⟩:=L.cu e
  refine⟨KaP.mpr ⟨λm=>?_,n1⟩,λa m=>?_⟩
  ·obtain⟨xs,hx⟩:=L.r.dom D m
   rw [L.fD] at hx;cases hx
  ·rcases Kai.mp m with z|z
   ·rw [z];exact hn
   ·exact n2 a z
theorem qP.start {sk:Option Addr}{F1 H1:Hp}{D:Addr}{s:ae}(sub:Same F1 H1)(k:bw sk F1 H1 s)(hn:H1 D=none):qP sk F1 H1 D [] F1 (upd H1 D (.lst [])) s [] []:=by
 refine⟨Same.refl _,λa o e=>?_,λa o h e _=>?_,λa h=>?_,λa o e=>.inl e,⟨λa e=>?_,fze k.tab hn⟩,upd_same,sub.free hn,.nil,.nil⟩
 ·have:=sub a o e
  rw [upd_ne (ne_of_none this hn)];exact this
 ·rw [upd_ne (ne_of_none e hn)];exact e
 ·rw [upd_ne (λz=>h (by rw [z];exact hn))];exact h
 ·obtain⟨h1,h2⟩:=k a e
  exact⟨by rw [upd_ne (ne_of_none h1 hn)];exact h1,h2⟩
theorem mX {sk:Option Addr}{F H:Hp}{s:ae}{D:Addr}(k:bw sk F H s)(hn:H D=none):sk≠some D:=λe=>by
 have:=(k D e).1
 rw [hn] at this;cases this
/-- bh turns of a comprehension -/
theorem uZ {it:SI}{g:SG}{tt:ST}{e:SE}{vs:List Nat}(hv:∀i∈g.ix,i∈vs)(K:Frag){sk:Option Addr}{F H:Hp}{σ:L2.St}{ρ:List Slot}{aj:List (List Addr)}{s s1 s':ae}{ds:List PyData}{ys:List Vl}{Q:VK}(p:Pre sk F H σ ρ aj s)(h1:it.ev ρ s=some (ds,s1))(h2:bY g.ev tt.ev e.ev (bu ρ vs) ds s1=some (ys,s'))(hlen:ys.length<=100000)
  (q:∀F1 H1 D F2 H2 ws as,Step sk F H F1 H1->bw sk F1 H1 s1->H1 D=none->sk≠some D->qP sk F1 H1 D ys F2 H2 s' ws as->Q (.ref D) H2):tLc (it.t K) (g.t K) (tt.t K) (e.t K) vs σ H Q:=by
 refine it.ok K p h1 λJ F1 H1 st1 k1 yl D nD=>?_
 have P1:=p.next st1 k1
 have cT:sk≠some D:=mX k1 nD
 refine⟨λi m H2=>∃F2 si done rest G3 as2,m=(ds.drop i).length/\i<=ds.length/\qP sk F1 H1 D done F2 H2 si G3 as2/\bY g.ev tt.ev e.ev (bu ρ vs) (ds.drop i) si=some (rest,s')/\done++rest=ys,
  ⟨ds.length,F1,s1,[],ys,[],[],by simp,Kbc _,.start st1.sub' k1 nD,by simpa using h2,rfl⟩,λi m H2 hW=>?_⟩
 obtain⟨F2,si,done,rest,G3,as2,em,hi,L,hc,hys⟩:=hW
 by_cases hlt:i<ds.length
 ·have ed:ds.drop i=ds[i]::ds.drop (i+1):=Ka6 hlt
  have eg:ds[i]? = some ds[i]:=Kao hlt
  rw [ed] at hc em
  obtain⟨go,yld⟩:=(yl F2 H2 i L.sub L.sub').1 _ eg
  unfold bY at hc
  obtain⟨aH,c1,hc⟩:=aL hc
  obtain⟨⟨b,sb⟩,c2,hc⟩:=aL hc
  dsimp only at hc
  refine .inr ⟨go,λH'=>∃F3 tQ done' rest' N9 Bx,qP sk F1 H1 D done' F3 H' tQ N9 Bx/\bY g.ev tt.ev e.ev (bu ρ vs) (ds.drop (i+1)) tQ=some (rest',s')/\done'++rest'=ys,λH' hN=>?_,λx H3 hy=>?_⟩
  ·obtain⟨F3,tQ,done',rest',N9,Bx,L3,c3,e3⟩:=hN
   exact⟨(ds.drop (i+1)).length,by rw [em];exact Kbl _,F3,tQ,done',rest',N9,Bx,rfl,hlt,L3,c3,e3⟩
  ·obtain⟨F3,Bx,sa,r3⟩:=yld x H3 hy
   have L3:=L.step cT sa.any (L.bj.keep sa)
   have Qe:Slots sk F1 H1 σ ρ aj:=P1.slots
   have stp:Step sk F1 H1 F3 H3:=⟨L3.sub,L3.sub',λa o x y z=>L3.fr a o x y z,L3.dm,L3.new⟩
   have UW:=Qe.step stp P1.nN
   obtain⟨fw,NZ,mw⟩:=UW.wipe vs
   refine g.ok K L3.sub' r3 NZ c1 λσ' az sl' m' u' w'=>⟨?_,?_⟩
   ·rw [w' vs hv,WQ]
   ·have P3:Pre sk F3 H3 σ' aH az si:=⟨L3.sub',L3.bj,sl',λa ha ma=>P1.nN a ha (mw.mem (m' a ma)),P1.fO.sublist (u'.trans mw)⟩
    refine tt.ok K P3 c2 λF4 H4 nY k4=>?_
    have L4:=L3.step cT nY k4
    split at hc
    ·rename_i eb
     rw [if_pos eb]
     obtain⟨⟨y,sy⟩,c3,hc⟩:=aL hc
     obtain⟨⟨z,sz⟩,c4,hc⟩:=aL hc
     cases hc
     refine e.ok K (P3.next nY k4) c3 λv F5 H5 YL st5 k5 r5 f5=>?_
     have L5:=L4.put cT nD st5 k5 r5 f5
     refine⟨G3,st5.fr D _ cT L4.hD,?_,F5,sy,_,z,_,_,L5,c4,?_⟩
     ·have:=L.r.len
      rw [Kaf] at this
      rw [this]
      have e2:done.length+(z.length+1)=ys.length:=by rw [<-hys];simp
      exact Kbv (show done.length<100000 by omega) (by decide)
     ·rw [<-hys];simp
    ·rename_i eb
     rw [if_neg eb]
     exact⟨F4,sb,done,rest,G3,as2,L4,hc,hys⟩
 ·have e1:i=ds.length:=by omega
  subst e1
  rw [KbH] at hc
  unfold bY at hc
  cases hc
  rw [KaC] at hys
  subst hys
  exact .inl ⟨(yl F2 H2 _ L.sub L.sub').2 (Kak _),q F1 H1 D F2 H2 G3 as2 st1 k1 nD cT L⟩
def mG (it:SI)(g:SG)(tt:ST)(e:SE)(vs:List Nat)(hv:∀i∈g.ix,i∈vs):SE where
 t:=λK=>tLc (it.t K) (g.t K) (tt.t K) (e.t K) vs
 ev:=λρ s=>(it.ev ρ s).bind λx=>(bY g.ev tt.ev e.ev (bu ρ vs) x.1 x.2).bind λy=>if y.1.length<=100000 then some ((.list (y.1.map (·.1)),y.1.all fP),y.2) else none
 ok:=by
  intro K sk F H σ ρ aj s vl s' Q p h q
  obtain⟨⟨ds,s1⟩,h1,g1⟩:=aL h
  obtain⟨⟨ys,s2⟩,h2,g2⟩:=aL g1
  clear h g1
  dsimp only at g2 h2
  split at g2
  case isFalse=>cases g2
  rename_i hlen
  cases g2
  refine uZ hv K p h1 h2 hlen λF1 H1 D F2 H2 ws as st1 k1 nD cT L=>?_
  obtain⟨d1,d2,d3,d4⟩:=L.done cT nD
  exact q _ _ H2 _ (st1.trans d1) d2 d3 (d4.back st1.dm)
def OkB (t:Frag->TE)(ev:List Slot->ae->Option ((List PyData×Bool)×ae)):Prop:=∀(K:Frag) {sk:Option Addr} {F H:Hp} {σ:L2.St} {ρ:List Slot} {aj:List (List Addr)} {s:ae} {ds:List PyData} {o:Bool} {s':ae} {Q:VK},Pre sk F H σ ρ aj s->ev ρ s=some ((ds,o),s') ->
 (∀a ws F' H' as,Step sk F H F' H'->bw sk F' H' s'->H a=none->F' a=none->H' a=some (.lst ws)->ah F' ws ds as->a∉as->bO o H as->Q (.ref a) H')->t K σ H Q
structure SB where
 t:Frag->TE
 ev:List Slot->ae->Option ((List PyData×Bool)×ae)
 ok:OkB t ev
def SB.lc (it:SI)(g:SG)(tt:ST)(e:SE)(vs:List Nat)(hv:∀i∈g.ix,i∈vs):SB where
 t:=λK=>tLc (it.t K) (g.t K) (tt.t K) (e.t K) vs
 ev:=λρ s=>(it.ev ρ s).bind λx=>(bY g.ev tt.ev e.ev (bu ρ vs) x.1 x.2).bind λy=>if y.1.length<=100000 then some ((y.1.map (·.1),y.1.all fP),y.2) else none
 ok:=by
  intro K sk F H σ ρ aj s dd o s' Q p h q
  obtain⟨⟨ds,s1⟩,h1,g1⟩:=aL h
  obtain⟨⟨ys,s2⟩,h2,g2⟩:=aL g1
  clear h g1
  dsimp only at g2 h2
  split at g2
  case isFalse=>cases g2
  rename_i hlen
  cases g2
  refine uZ hv K p h1 h2 hlen λF1 H1 D F2 H2 ws as st1 k1 nD cT L=>?_
  refine q D ws F2 H2 as (st1.trans ⟨L.sub,L.sub',λa o x y z=>L.fr a o x y z,L.dm,L.new⟩) L.bj ?_ L.fD L.hD L.r ?_ (L.cu.back st1.dm)
  ·cases hq:H D with
   |none=>rfl
   |some u=>exact absurd nD (st1.dm D (by rw [hq];exact nofun))
  ·intro m
   obtain⟨xs,hx⟩:=L.r.dom D m
   rw [L.fD] at hx;cases hx
/-- a list of ES own -/
def SB.own (e:SE):SB where
 t:=e.t
 ev:=λρ s=>(e.ev ρ s).bind λx=>match x.1 with
  |(.list ds,true)=>some ((ds,true),x.2)
  |_=>none
 ok:=by
  intro K sk F H σ ρ aj s dd o s' Q p h q
  obtain⟨⟨x,s1⟩,h1,h2⟩:=aL h
  dsimp only at h2
  split at h2
  ·cases h2
   refine e.ok K p h1 λv F1 H1 as st k r f=>?_
   obtain⟨a,xs,cs,rfl,ha,hr,rfl⟩:=r.aC
   obtain⟨n1,n2⟩:=f rfl
   have ha0:H a=none:=n2 a Kaa
   have XJ:F a=none:=p.sub.free ha0
   have acs:a∉cs:=(KaP.mp n1).1
   have sD:Same (del F1 a) F1:=λb o e=>by
    by_cases z:b=a
    ·rw [z,MC] at e;cases e
    ·rw [yD z] at e;exact e
   have sF:Same F (del F1 a):=λb o e=>by
    rw [yD (λz=>by rw [z,XJ] at e;cases e)];exact st.sub b o e
   refine q a xs (del F1 a) H1 cs ⟨sF,sD.trans st.sub',λa o x y z=>st.fr a o x y z,st.dm,λb o e=>st.new b o (sD b o e)⟩ ⟨λb e=>⟨(k b e).1,?_⟩,k.tab.back sD⟩ ha0 MC (st.sub' _ _ ha) (hr.nP ha acs) acs λ_=>⟨(KaP.mp n1).2,λb m=>n2 b (Kad _ m)⟩
   by_cases z:b=a
   ·rw [z,MC]
   ·rw [yD z];exact (k b e).2
  ·cases h2
theorem Pre.peek {sk:Option Addr}{F H:Hp}{σ:L2.St}{ρ:List Slot}{aj:List (List Addr)}{s:ae}{i:Nat}{ds:List PyData}{o:Bool}(p:Pre sk F H σ ρ aj s)(e:ρ[i]? = some (.aS ds o)):
  ∃a vs az,H a=some (.lst vs)/\F a=none/\sk≠some a/\Pre sk (upd F a (.lst vs)) H σ (ρ.set i (.dat (.list ds))) az s:=by
 obtain⟨x,fp,e1,e2,a,vs,as,rfl,hH,hF,r,rfl⟩:=p.slots.get e
 have fa:a∈aj.flatten:=Kaw.mpr ⟨_,Kaq e2,Kaa⟩
 have cT:sk≠some a:=λz=>p.nN a z fa
 obtain⟨n1,n2⟩:=Aj p.fO e2
 have n3:=Kag.mp n1
 have na:a∉(aj.set i []).flatten:=λm=>n3.2.2 a Kaa a m rfl
 have sF:Same F (upd F a (.lst vs)):=λb u e=>by rw [upd_ne (ne_of_none e hF)];exact e
 have sl:=(p.slots.drop (i:=i)).upd (a:=a) (o:=.lst vs) na hF
 have sl2:=sl.fill (sl:=.dat (.list ds)) e1 ⟨rfl,_,_,rfl,.lst upd_same (r.mono sF)⟩
 rw [Kaz,Kaz] at sl2
 refine⟨a,vs,aj.set i [],hH,hF,cT,λb u e=>?_,⟨λb e=>⟨(p.bj b e).1,?_⟩,p.bj.tab.vR⟩,sl2,λb e m=>p.nN b e (iH.mem m),n3.2.1⟩
 ·by_cases z:b=a
  ·rw [z,upd_same] at e;rw [z,<-e];exact hH
  ·rw [upd_ne z] at e;exact p.sub b u e
 ·rw [upd_ne (λz=>cT (by rw [<-z];exact e))];exact (p.bj b e).2
theorem Step.FQ {sk:Option Addr}{F H F' H':Hp}{a:Addr}{vs:List V}{s:ae}(hF:F a=none)(cT:sk≠some a)(st:Step sk (upd F a (.lst vs)) H F' H')(k:bw sk F' H' s):Step sk F H (del F' a) H'/\bw sk (del F' a) H' s/\F' a=some (.lst vs):=by
 have sD:Same (del F' a) F':=λb o e=>by
  by_cases z:b=a
  ·rw [z,MC] at e;cases e
  ·rw [yD z] at e;exact e
 refine⟨⟨λb u e=>?_,sD.trans st.sub',λa o x y z=>st.fr a o x y z,st.dm,λb u e=>?_⟩,⟨λb e=>⟨(k b e).1,?_⟩,k.tab.back sD⟩,st.sub a _ upd_same⟩
 ·have nb:b≠a:=ne_of_none e hF
  rw [yD nb]
  exact st.sub b u (by rw [upd_ne nb];exact e)
 ·by_cases z:b=a
  ·rw [z,MC] at e;cases e
  ·rcases st.new b u (sD b u e) with q|q
   ·rw [upd_ne z] at q;exact .inl q
   ·exact .inr q
 ·by_cases z:b=a
  ·rw [z,MC]
  ·rw [yD z];exact (k b e).2
def SE.ax (i:Nat)(e:SE):SE where
 t:=e.t
 ev:=λρ s=>match ρ[i]? with
  |some (.aS ds _)=>(e.ev (ρ.set i (.dat (.list ds))) s).bind λx=>if fP x.1=true then some x else none
  |_=>none
 ok:=by
  intro K sk F H σ ρ aj s vl s' Q p h q
  dsimp only at h
  split at h
  ·rename_i ds o cS
   obtain⟨⟨x,s1⟩,h1,h2⟩:=aL h
   dsimp only at h2
   split at h2
   ·rename_i hown
    cases h2
    obtain⟨a,vs,az,hH,hF,cT,pp⟩:=p.peek cS
    refine e.ok K pp h1 λv F1 H1 as st k r f=>?_
    obtain⟨u1,u2,u3⟩:=st.FQ hF cT k
    refine q v (del F1 a) H1 as u1 u2 (r.nP u3 λm=>?_) f
    unfold fP at hown
    rcases Ka3.mp hown with z|z
    ·have:=(f z).2 a m
     rw [hH] at this;cases this
    ·rw [r.aB z] at m;cases m
   ·cases h2
  ·cases h
def XZ (i:Nat)(e:ST):ST where
 t:=e.t
 ev:=λρ s=>match ρ[i]? with
  |some (.aS ds _)=>e.ev (ρ.set i (.dat (.list ds))) s
  |_=>none
 ok:=by
  intro K sk F H σ ρ aj s vl s' Q p h q
  dsimp only at h
  split at h
  ·rename_i ds o cS
   obtain⟨a,vs,az,hH,hF,cT,pp⟩:=p.peek cS
   refine e.ok K pp h λF1 H1 st k=>?_
   obtain⟨u1,u2,u3⟩:=st.FQ hF cT k
   exact q (del F1 a) H1 u1 u2
  ·cases h
end Pu
namespace Pu
variable [aO]
open PySem L2
inductive Out where
 |nx (ρ:List Slot) (s:ae)
 |ret (vl:Vl) (s:ae)
 |brk (ρ:List Slot) (s:ae)
 |cnt (ρ:List Slot) (s:ae)
structure Wd (sk:Option Addr)(F0 H0 F H:Hp)(σ:L2.St)(ρ:List Slot)(aj:List (List Addr))(s:ae):Prop where
 st:Step sk F0 H0 F H
 bj:bw sk F H s
 slots:Slots sk F H σ ρ aj
 fO:aj.flatten.Nodup
 cu:∀a∈aj.flatten,H0 a=none/\H a≠none/\sk≠some a
section
variable {sk:Option Addr}{F0 H0 F H F' H':Hp}{σ σ':L2.St}{ρ ρ':List Slot}{aj az:List (List Addr)}{s s':ae}
theorem Wd.pre (w:Wd sk F0 H0 F H σ ρ aj s):Pre sk F H σ ρ aj s:=⟨w.st.sub',w.bj,w.slots,λa e m=>(w.cu a m).2.2 e,w.fO⟩
theorem Wd.next (w:Wd sk F0 H0 F H σ ρ aj s)(st:Step sk F H F' H')(k:bw sk F' H' s'):Wd sk F0 H0 F' H' σ ρ aj s':=
 ⟨w.st.trans st,k,w.slots.step st w.pre.nN,w.fO,λa m=>⟨(w.cu a m).1,st.dm a (w.cu a m).2.1,(w.cu a m).2.2⟩⟩
theorem Wd.oM (w:Wd sk F0 H0 F H σ ρ aj s){b:Bool}{as:List Addr}(f:bO b H as):bO b H0 as:=f.back w.st.dm
/-- slot i bqH data -/
theorem Wd.kr (w:Wd sk F0 H0 F H σ ρ aj s){i:Nat}{v:V}{d:PyData}{as:List Addr}(r:Rp F v d as):∃az,Wd sk F0 H0 F H (σ.set i (some v)) (ρ.set i (.dat d)) az s:=
 ⟨aj.set i [],w.st,w.bj,w.slots.set ⟨rfl,v,as,rfl,r⟩,w.fO.sublist iH,λa m=>w.cu a (iH.mem m)⟩
/-- slot i bqH what it owns: new addresses -/
theorem Wd.NT {Hb:Hp}(w:Wd sk F0 H0 F H σ ρ aj s){i:Nat}{v:V}{d:PyData}{as:List Addr}(r:Rp F v d as)(hn:as.Nodup)(hf:∀a∈as,Hb a=none)(h0:∀a,H0 a≠none->Hb a≠none)(hfp:∀a∈aj.flatten,Hb a≠none):∃az,Wd sk F0 H0 F H (σ.set i (some v)) (ρ.set i (.own d)) az s:=by
 have nd:(as++aj.flatten).Nodup:=Kag.mpr ⟨hn,w.fO,λa ma b mb z=>by subst z;exact hfp a mb (hf a ma)⟩
 obtain⟨n1,n2⟩:=x8 (i:=i) nd
 refine⟨aj.set i as,w.st,w.bj,w.slots.set ⟨v,rfl,r⟩,n1,λa m=>?_⟩
 rcases n2 a m with z|z
 ·obtain⟨xs,hx⟩:=r.dom a z
  have hx:=w.st.sub' _ _ hx
  refine⟨?_,by rw [hx];exact nofun,λe=>?_⟩
  ·cases q:H0 a with
   |none=>rfl
   |some u=>exact absurd (hf a z) (h0 a (by rw [q];exact nofun))
  ·obtain⟨xs,hy⟩:=r.dom a z
   rw [(w.bj a e).2] at hy
   cases hy
 ·exact w.cu a z
end
def l6 (D:Ends)(sk:Option Addr)(F0 H0 F:Hp):Out->Prop
 |.nx ρ' s'=>∀F' H' σ' az,Same F F'->Wd sk F0 H0 F' H' σ' ρ' az s'->D.nx σ' H'
 |.brk ρ' s'=>∀F' H' σ' az,Same F F'->Wd sk F0 H0 F' H' σ' ρ' az s'->D.bk σ' H'
 |.cnt ρ' s'=>∀F' H' σ' az,Same F F'->Wd sk F0 H0 F' H' σ' ρ' az s'->D.ct σ' H'
 |.ret vl s'=>∀v F' H' as,Step sk F0 H0 F' H'->bw sk F' H' s'->Rp F' v vl.1 as->bO vl.2 H0 as->D.rt v H'
theorem l6.mono {D:Ends}{sk:Option Addr}{F0 H0 F F':Hp}{out:Out}(h:l6 D sk F0 H0 F out)(e:Same F F'):l6 D sk F0 H0 F' out:=by
 cases out with
 |nx ρ s=>exactλF2 H2 σ2 dN e2 w=>h F2 H2 σ2 dN (e.trans e2) w
 |brk ρ s=>exactλF2 H2 σ2 dN e2 w=>h F2 H2 σ2 dN (e.trans e2) w
 |cnt ρ s=>exactλF2 H2 σ2 dN e2 w=>h F2 H2 σ2 dN (e.trans e2) w
 |ret vl s=>exact h
abbrev Bs:=List Slot->ae->Option Out
def OkS (t:Frag->TS)(ev:Bs):Prop:=∀(K:Frag) {sk:Option Addr} {F0 H0 F H:Hp} {σ:L2.St} {ρ:List Slot} {aj:List (List Addr)} {s:ae} {out:Out} {D:Ends},Wd sk F0 H0 F H σ ρ aj s->ev ρ s=some out->l6 D sk F0 H0 F out->t K D σ H
structure SS where
 t:Frag->TS
 ev:Bs
 ok:OkS t ev
def SS.am:SS:=⟨λ_=>tNext,λρ s=>some (.nx ρ s),by
 intro K sk F0 H0 F H σ ρ aj s out D w h q
 cases h
 exact q F H σ aj (Same.refl _) w⟩
def SS.brk:SS:=⟨λ_=>tBreak,λρ s=>some (.brk ρ s),by
 intro K sk F0 H0 F H σ ρ aj s out D w h q
 cases h
 exact q F H σ aj (Same.refl _) w⟩
def SS.cnt:SS:=⟨λ_=>tCont,λρ s=>some (.cnt ρ s),by
 intro K sk F0 H0 F H σ ρ aj s out D w h q
 cases h
 exact q F H σ aj (Same.refl _) w⟩
def Iz:SS:=⟨λ_=>tNever,λρ s=>none,by
 intro K sk F0 H0 F H σ ρ aj s out D w h q
 cases h⟩
def Bf (b:Bs):Out->Option Out
 |.nx ρ s=>b ρ s
 |o=>some o
def SS.ac (a b:SS):SS where
 t:=λK=>tSeq (a.t K) (b.t K)
 ev:=λρ s=>(a.ev ρ s).bind λo=>Bf b.ev o
 ok:=by
  intro K sk F0 H0 F H σ ρ aj s out D w h q
  obtain⟨o,h1,h2⟩:=aL h
  refine a.ok K w h1 ?_
  cases o with
  |nx aH s1=>exactλF1 H1 σ1 jZ e1 w1=>b.ok K w1 h2 (q.mono e1)
  |brk aH s1=>cases h2;exact q
  |cnt aH s1=>cases h2;exact q
  |ret vl s1=>cases h2;exact q
def GY (e:SE):SS where
 t:=λK=>tDrop (e.t K)
 ev:=λρ s=>(e.ev ρ s).bind λx=>some (.nx ρ x.2)
 ok:=by
  intro K sk F0 H0 F H σ ρ aj s out D w h q
  obtain⟨⟨x,s1⟩,h1,h2⟩:=aL h
  cases h2
  exact e.ok K w.pre h1 λv F1 H1 as st k r f=>q F1 H1 σ aj st.sub (w.next st k)
def SS.ag (e:SE):SS where
 t:=λK=>tRet (e.t K)
 ev:=λρ s=>(e.ev ρ s).bind λx=>some (.ret x.1 x.2)
 ok:=by
  intro K sk F0 H0 F H σ ρ aj s out D w h q
  obtain⟨⟨x,s1⟩,h1,h2⟩:=aL h
  cases h2
  exact e.ok K w.pre h1 λv F1 H1 as st k r f=>q v F1 H1 as (w.st.trans st) k r (w.oM f)
def SS.cqI:SS:=⟨λ_=>tRetN,λρ s=>some (.ret (.none,true) s),by
 intro K sk F0 H0 F H σ ρ aj s out D w h q
 cases h
 exact q _ F H [] w.st w.bj .non .nil⟩
def jd (c:ST)(a b:SS):SS where
 t:=λK=>tIfS (c.t K) (a.t K) (b.t K)
 ev:=λρ s=>(c.ev ρ s).bind λx=>if x.1=true then a.ev ρ x.2 else b.ev ρ x.2
 ok:=by
  intro K sk F0 H0 F H σ ρ aj s out D w h q
  obtain⟨⟨x,s1⟩,h1,h2⟩:=aL h
  dsimp only at h2
  refine c.ok K w.pre h1 λF1 H1 st k=>?_
  split at h2
  ·rename_i e
   rw [if_pos e]
   exact a.ok K (w.next st k) h2 (q.mono st.sub)
  ·rename_i e
   rw [if_neg e]
   exact b.ok K (w.next st k) h2 (q.mono st.sub)
def GK (z:Vl):Slot:=if z.2=true then .own z.1 else .dat z.1
theorem Wd.zG {sk:Option Addr}{F0 H0 F H F1 H1:Hp}{σ:L2.St}{ρ:List Slot}{aj:List (List Addr)}{s s1:ae}(w:Wd sk F0 H0 F H σ ρ aj s)(st:Step sk F H F1 H1)(k:bw sk F1 H1 s1){i:Nat}{v:V}{z:Vl}{as:List Addr}(r:Rp F1 v z.1 as)(f:bO z.2 H as):
  ∃az,Wd sk F0 H0 F1 H1 (σ.set i (some v)) (ρ.set i (GK z)) az s1:=by
 have w1:=w.next st k
 unfold GK
 split
 ·rename_i e
  obtain⟨f1,f2⟩:=f e
  exact w1.NT (Hb:=H) r f1 f2 w.st.dm λa m=>(w.cu a m).2.1
 ·exact w1.kr r
def SS.set (i:Nat)(e:SE):SS where
 t:=λK=>tAsg (e.t K) (gName i)
 ev:=λρ s=>(e.ev ρ s).bind λx=>some (.nx (ρ.set i (GK x.1)) x.2)
 ok:=by
  intro K sk F0 H0 F H σ ρ aj s out D w h q
  obtain⟨⟨x,s1⟩,h1,h2⟩:=aL h
  cases h2
  refine e.ok K w.pre h1 λv F1 H1 as st k r f=>?_
  obtain⟨az,w'⟩:=w.zG (i:=i) st k r f
  exact q F1 H1 _ az st.sub w'
def PL (i:Nat)(e:SB):SS where
 t:=λK=>tAsg (e.t K) (gName i)
 ev:=λρ s=>(e.ev ρ s).bind λx=>some (.nx (ρ.set i (.aS x.1.1 x.1.2)) x.2)
 ok:=by
  intro K sk F0 H0 F H σ ρ aj s out D w h q
  obtain⟨⟨⟨ds,o⟩,s1⟩,h1,h2⟩:=aL h
  cases h2
  refine e.ok K w.pre h1 λa ws F1 H1 as st k ha Iq uN hr nas f=>?_
  have w1:=w.next st k
  have a0:H0 a=none:=by
   cases hq:H0 a with
   |none=>rfl
   |some u=>exact absurd ha (w.st.dm a (by rw [hq];exact nofun))
  have cT:sk≠some a:=mX w.bj ha
  have nd:((a::(if o=true then as else []))++aj.flatten).Nodup:=by
   refine Kag.mpr ⟨?_,w.fO,λb mb c mc z=>?_⟩
   ·cases o with
    |true=>exact KaP.mpr ⟨nas,(f rfl).1⟩
    |false=>simp
   ·subst z
    rcases Kai.mp mb with y|y
    ·subst y;exact (w.cu b mc).2.1 ha
    ·cases o with
     |true=>exact (w.cu b mc).2.1 ((f rfl).2 b y)
     |false=>cases y
  obtain⟨m1,m2⟩:=x8 (i:=i) nd
  refine q F1 H1 _ (aj.set i (a::(if o=true then as else []))) st.sub ⟨w1.st,w1.bj,w1.slots.set ⟨a,ws,as,rfl,uN,Iq,hr,rfl⟩,m1,λb m=>?_⟩
  rcases m2 b m with z|z
  ·rcases Kai.mp z with y|y
   ·subst y
    exact⟨a0,by rw [uN];exact nofun,cT⟩
   ·cases o with
    |true=>
     obtain⟨xs,hx⟩:=hr.dom b y
     refine⟨?_,by rw [st.sub' _ _ hx];exact nofun,λe=>?_⟩
     ·cases hq:H0 b with
      |none=>rfl
      |some u=>exact absurd ((f rfl).2 b y) (w.st.dm b (by rw [hq];exact nofun))
     ·rw [(k b e).2] at hx;cases hx
    |false=>cases y
  ·exact w1.cu b z
/-- a,b=e -/
def hxb (g:SG)(e:SE):SS where
 t:=λK=>tAsg (e.t K) (g.t K)
 ev:=λρ s=>(e.ev ρ s).bind λx=>(g.ev x.1.1 ρ).bind λaH=>some (.nx aH x.2)
 ok:=by
  intro K sk F0 H0 F H σ ρ aj s out D w h q
  obtain⟨⟨x,s1⟩,h1,h2⟩:=aL h
  obtain⟨aH,h3,h4⟩:=aL h2
  cases h4
  refine e.ok K w.pre h1 λv F1 H1 as st k r f=>?_
  have w1:=w.next st k
  refine g.ok K w1.st.sub' r w1.slots h3 λσ' az sl m u _=>?_
  exact q F1 H1 σ' az st.sub ⟨w1.st,w1.bj,sl,w1.fO.sublist u,λa ha=>w1.cu a (m a ha)⟩
def Lv:List Nat->List V->L2.St->L2.St
 |i::r,v::vs,σ=>Lv r vs (σ.set i (some v))
 |_,_,σ=>σ
def OkP (t:Frag->TA)(ts:List Nat)(ev:List Slot->List Slot->ae->Option (List Slot×ae)):Prop:=∀(K:Frag) {sk:Option Addr} {F0 H0 F H:Hp} {σ wq:L2.St} {ρ d9 nR:List Slot} {aj gj:List (List Addr)} {s s':ae} {Q:List V->Hp->Prop},
 Pre sk F H σ ρ aj s->Wd sk F0 H0 F H wq d9 gj s->ev ρ d9 s=some (nR,s')->(∀vs F' H' R6,Same F F'->Wd sk F0 H0 F' H' (Lv ts vs wq) nR R6 s'->vs.length=ts.length->Q vs H')->t K σ H Q
structure SP where
 t:Frag->TA
 ts:List Nat
 ev:List Slot->List Slot->ae->Option (List Slot×ae)
 ok:OkP t ts ev
def SP.nil:SP:=⟨λ_=>tNil,[],λ_ d9 s=>some (d9,s),by
 intro K sk F0 H0 F H σ wq ρ d9 nR aj gj s s' Q p w h q
 cases h
 exact q [] F H gj (Same.refl _) w rfl⟩
def SP.cons (i:Nat)(e:SE)(r:SP):SP where
 t:=λK=>tCons (e.t K) (r.t K)
 ts:=i::r.ts
 ev:=λρ d9 s=>(e.ev ρ s).bind λx=>r.ev ρ (d9.set i (GK x.1)) x.2
 ok:=by
  intro K sk F0 H0 F H σ wq ρ d9 nR aj gj s s' Q p w h q
  obtain⟨⟨x,s1⟩,h1,h2⟩:=aL h
  refine e.ok K p h1 λv F1 H1 as st k rr f=>?_
  obtain⟨fa,wa⟩:=w.zG (i:=i) st k rr f
  refine r.ok K (p.next st k) wa h2 λvs F2 H2 fv sF w2 hl=>?_
  exact q (v::vs) F2 H2 fv (st.sub.trans sF) w2 (by rw [Kah,Kah,hl])
theorem br.raw {sk:Option Addr}{F H:Hp}{p:Addr}{o:HO}(h:Same F H)(np:H p=none):br F H F (upd H p o):=by
 refine⟨Same.refl _,λa u e=>?_,λa u _ e=>?_,λa e=>?_,λa u e=>.inl e,λh=>h⟩
 ·have:=h a u e
  rw [upd_ne (ne_of_none this np)];exact this
 ·rw [upd_ne (ne_of_none e np)];exact e
 ·rw [upd_ne (λz=>e (by rw [z];exact np))];exact e
theorem Wd.Nk {sk:Option Addr}{F0 H0 F H:Hp}{σ:L2.St}{ρ:List Slot}{aj:List (List Addr)}{s:ae}(w:Wd sk F0 H0 F H σ ρ aj s){i:Nat}{p:Addr}(np:H p=none):
  ∃az,Wd sk F0 H0 F (upd H p (.lst [])) (σ.set i (some (.ref p))) (ρ.set i (.aS [] true)) az s:=by
 have sr:br F H F (upd H p (.lst [])):=.raw (sk:=sk) w.st.sub' np
 have w1:=w.next (sr.any (sk:=sk)) (w.bj.keep sr)
 have Uj:H0 p=none:=by
  cases q:H0 p with
  |none=>rfl
  |some u=>exact absurd np (w.st.dm p (by rw [q];exact nofun))
 have nd:([p]++aj.flatten).Nodup:=Kag.mpr ⟨by simp,w.fO,λb mb c mc z=>by
  have:b=p:=by simpa using mb
  subst z
  exact (w.cu b mc).2.1 (by rw [this];exact np)⟩
 obtain⟨m1,m2⟩:=x8 (i:=i) nd
 refine⟨aj.set i [p],w1.st,w1.bj,w1.slots.set ⟨p,[],[],rfl,upd_same,w.st.sub'.free np,.nil,rfl⟩,m1,λb m=>?_⟩
 rcases m2 b m with z|z
 ·have:b=p:=by simpa using z
  subst this
  exact⟨Uj,by rw [upd_same];exact nofun,mX w.bj np⟩
 ·exact w1.cu b z
def SP.EF (i:Nat)(r:SP):SP where
 t:=λK=>tCons (tLst tNil) (r.t K)
 ts:=i::r.ts
 ev:=λρ d9 s=>r.ev ρ (d9.set i (.aS [] true)) s
 ok:=by
  intro K sk F0 H0 F H σ wq ρ d9 nR aj gj s s' Q p w h q
  refine⟨Kbc _,λa na=>?_⟩
  obtain⟨fa,wa⟩:=w.Nk (i:=i) na
  have sr:br F H F (upd H a (.lst [])):=.raw (sk:=sk) w.st.sub' na
  refine r.ok K (p.next (sr.any (sk:=sk)) (p.bj.keep sr)) wa h λvs F2 H2 fv sF w2 hl=>?_
  exact q (.ref a::vs) F2 H2 fv sF w2 (by rw [Kah,Kah,hl])
def SS.par (i j:Nat)(p:SP)(hp:p.ts=[i,j]):SS where
 t:=λK=>tPar i j (p.t K)
 ev:=λρ s=>(p.ev ρ ρ s).bind λx=>some (.nx x.1 x.2)
 ok:=by
  intro K sk F0 H0 F H σ ρ aj s out D w h q
  obtain⟨⟨x,s1⟩,h1,h2⟩:=aL h
  cases h2
  refine p.ok K w.pre w h1 λvs F1 H1 fv sF w1 hl=>?_
  rw [hp] at hl w1
  match vs,hl with
  |[v1,v2],_=>exact⟨v1,v2,rfl,q F1 H1 _ fv sF w1⟩
def SS.cqG (i j l:Nat)(p:SP)(hp:p.ts=[i,j,l]):SS where
 t:=λK=>tPar3 i j l (p.t K)
 ev:=λρ s=>(p.ev ρ ρ s).bind λx=>some (.nx x.1 x.2)
 ok:=by
  intro K sk F0 H0 F H σ ρ aj s out D w h q
  obtain⟨⟨x,s1⟩,h1,h2⟩:=aL h
  cases h2
  refine p.ok K w.pre w h1 λvs F1 H1 fv sF w1 hl=>?_
  rw [hp] at hl w1
  match vs,hl with
  |[v1,v2,v3],_=>exact⟨v1,v2,v3,rfl,q F1 H1 _ fv sF w1⟩
/-- x += e,of ints -/
def SS.ar (i:Nat)(e:SE)(f:Int->Int->Int):SS where
 t:=λK=>tAug i (e.t K) (ipI f)
 ev:=λρ s=>match ρ[i]? with
  |some (.dat (.int a))=>(e.ev ρ s).bind λx=>match x.1.1 with|.int b=>some (.nx (ρ.set i (.dat (.int (f a b)))) x.2)|_=>none
  |some (.own (.int a))=>(e.ev ρ s).bind λx=>match x.1.1 with|.int b=>some (.nx (ρ.set i (.dat (.int (f a b)))) x.2)|_=>none
  |_=>none
 ok:=by
  intro K sk F0 H0 F H σ ρ aj s out D w h q
  have key:∀(a:Int) (v:V),σ[i]? = some (some v)->v=.int a->((e.ev ρ s).bind λx=>match x.1.1 with|.int b=>some (.nx (ρ.set i (.dat (.int (f a b)))) x.2)|_=>none)=some out->tAug i (e.t K) (ipI f) D σ H:=by
   intro a v e1 e2 h
   obtain⟨⟨⟨x,fl⟩,s1⟩,h1,h2⟩:=aL h
   dsimp only at h2
   split at h2
   ·rename_i b
    cases h2
    refine⟨v,e1,e.ok K w.pre h1 λv2 F1 H1 as st k r ff=>⟨a,b,e2,r.int_inv,?_⟩⟩
    obtain⟨fa,wa⟩:=(w.next st k).kr (i:=i) (Rp.int (F:=F1) (f a b))
    exact q F1 H1 _ fa st.sub wa
   ·cases h2
  dsimp only at h
  split at h
  ·rename_i a e
   obtain⟨x,fp,e1,e2,z,v,as,e3,r⟩:=w.slots.get e
   exact key a v (by rw [e1,e3]) r.int_inv h
  ·rename_i a e
   obtain⟨x,fp,e1,e2,v,e3,r⟩:=w.slots.get e
   exact key a v (by rw [e1,e3]) r.int_inv h
  ·cases h
end Pu
namespace Pu
variable [aO]
open PySem L2
section
variable {sk:Option Addr}{F0 H0 F H:Hp}{σ:L2.St}{ρ:List Slot}{aj:List (List Addr)}{s:ae}
/-- bh uu list at slot i changes -/
theorem Wd.grow {i:Nat}{a:Addr}{vs ws:List V}{es:List PyData}{as bs:List Addr}{o o':Bool}(w:Wd sk F0 H0 F H σ ρ aj s)(e1:σ[i]? = some (some (.ref a)))(e2:aj[i]? = some (a::(if o=true then as else [])))(hH:H a=some (.lst vs))(hF:F a=none)
  (r:ah F ws es (as++bs)) (ho:o'=true->o=true/\bs.Nodup/\∀b∈bs,H0 b=none/\H b≠none/\sk≠some b/\b∉aj.flatten):∃az,Wd sk F0 H0 F (L2.upd H a (.lst ws)) σ (ρ.set i (.aS es o')) az s:=by
 have fa:a∈aj.flatten:=Kaw.mpr ⟨_,Kaq e2,Kaa⟩
 obtain⟨a0,a1,a2⟩:=w.cu a fa
 obtain⟨n1,n2⟩:=Aj w.fO e2
 have n3:=Kag.mp n1
 have na:a∉(aj.set i []).flatten:=λm=>n3.2.2 a Kaa a m rfl
 have st':Step sk F0 H0 F (L2.upd H a (.lst ws)):=by
  refine⟨w.st.sub,λb u e=>?_,λb u hb e hs=>?_,λb h=>?_,w.st.new⟩
  ·rw [upd_ne (λz=>by rw [z,hF] at e;cases e)];exact w.st.sub' b u e
  ·rw [upd_ne (λz=>by rw [z,a0] at e;cases e)];exact w.st.fr b u hb e
  ·by_cases z:b=a
   ·rw [z,upd_same];exact nofun
   ·rw [upd_ne z];exact w.st.dm b h
 have iQ:bw sk F (L2.upd H a (.lst ws)) s:=⟨λb e=>⟨by rw [upd_ne (λz=>a2 (by rw [<-z];exact e))];exact (w.bj b e).1,(w.bj b e).2⟩,RP w.bj.tab hH⟩
 have sl:=(w.slots.drop (i:=i)).Bm (a:=a) (o:=.lst ws) na
 have BR:∀b,H b≠none->L2.upd H a (.lst ws) b≠none:=λb h=>by
  by_cases z:b=a
  ·rw [z,upd_same];exact nofun
  ·rw [upd_ne z];exact h
 have fin:∀fp':List Addr,(fp'++(aj.set i []).flatten).Nodup->(∀b∈fp',H0 b=none/\H b≠none/\sk≠some b)->qB sk F (L2.upd H a (.lst ws)) (some (.ref a)) (.aS es o') fp'->∃az,Wd sk F0 H0 F (L2.upd H a (.lst ws)) σ (ρ.set i (.aS es o')) az s:=by
  intro fp' nd fr q
  obtain⟨m1,m2⟩:=x8 (i:=i) nd
  have sl2:=sl.fill e1 q
  rw [Kaz,Kaz] at sl2
  rw [Kaz] at m1 m2
  refine⟨aj.set i fp',st',iQ,sl2,m1,λb m=>?_⟩
  rcases m2 b m with z|z
  ·exact⟨(fr b z).1,BR b (fr b z).2.1,(fr b z).2.2⟩
  ·have:=w.cu b (iH.mem z)
   exact⟨this.1,BR b this.2.1,this.2.2⟩
 cases o' with
 |true=>
  obtain⟨rfl,b1,b2⟩:=ho rfl
  rw [if_pos rfl] at e2 n1 n2 n3
  refine fin (a::(as++bs)) ?_ ?_ ⟨a,ws,as++bs,rfl,upd_same,hF,r,by rw [if_pos rfl]⟩
  ·have:((a::as)++bs++(aj.set i []).flatten).Nodup:=by
    refine Kag.mpr ⟨Kag.mpr ⟨n3.1,b1,λx hx y hy z=>?_⟩,n3.2.1,λx hx y hy z=>?_⟩
    ·subst z
     exact (b2 x hy).2.2.2 (n2 x (Kab _ hx))
    ·subst z
     rcases Kat.mp hx with q|q
     ·exact n3.2.2 x q x hy rfl
     ·exact (b2 x q).2.2.2 (n2 x (Kax _ hy))
   exact this
  ·intro b hb
   rcases Kat.mp (show b∈(a::as)++bs from hb) with q|q
   ·exact w.cu b (n2 b (Kab _ q))
   ·exact⟨(b2 b q).1,(b2 b q).2.1,(b2 b q).2.2.1⟩
 |false=>
  refine fin [a] ?_ ?_ ⟨a,ws,as++bs,rfl,upd_same,hF,r,rfl⟩
  ·exact Kag.mpr ⟨by simp,n3.2.1,λx hx y hy z=>by
    have:x=a:=by simpa using hx
    subst this;subst z
    exact na hy⟩
  ·intro b hb
   have:b=a:=by simpa using hb
   subst this
   exact⟨a0,a1,a2⟩
end
def GS (i:Nat)(e:SE):SS where
 t:=λK=>tDrop (tBM K "list" rAppend (tVar i) (tCons (e.t K) tNil))
 ev:=λρ s=>match ρ[i]? with
  |some (.aS ds o)=>(e.ev ρ s).bind λx=>if ds.length<100000 then some (.nx (ρ.set i (.aS (ds++[x.1.1]) (o && fP x.1))) x.2) else none
  |_=>none
 ok:=by
  intro K sk F0 H0 F H σ ρ aj s out D w h q
  dsimp only at h
  split at h
  ·rename_i ds o cS
   obtain⟨⟨x,s1⟩,h1,h2⟩:=aL h
   dsimp only at h2
   split at h2
   ·rename_i hl
    cases h2
    obtain⟨xv,fp,e1,e2,a,vs,as,rfl,hH,hF,r,rfl⟩:=w.slots.get cS
    refine⟨.ref a,e1,.inl ⟨rfl,vs,.inl (.inl hH)⟩,?_⟩
    refine e.ok K w.pre h1 λv F1 H1 bs st k rr f=>?_
    have fa:a∈aj.flatten:=Kaw.mpr ⟨_,Kaq e2,Kaa⟩
    have cT:=(w.cu a fa).2.2
    have uN:H1 a=some (.lst vs):=st.fr a _ cT hH
    have Iq:F1 a=none:=by
     cases z:F1 a with
     |none=>rfl
     |some u=>
      rcases st.new a u z with y|y
      ·rw [hF] at y;cases y
      ·rw [hH] at y;cases y
    refine⟨a,vs,v,rfl,rfl,uN,by rw [r.len];exact Kbv hl (by decide),?_⟩
    have w1:=w.next st k
    have P_:ah F1 (vs++[v]) (ds++[x.1]) (as++(bs++[])):=(r.mono st.sub).app (.cons rr .nil)
    rw [KaC] at P_
    obtain⟨az,w2⟩:=w1.grow (o':=o && fP x) e1 e2 uN Iq P_ λeo=>by
     obtain⟨eo1,WC⟩:=KaG.mp eo
     refine⟨eo1,?_⟩
     unfold fP at WC
     rcases Ka3.mp WC with z|z
     ·obtain⟨f1,f2⟩:=f z
      refine⟨f1,λb hb=>?_⟩
      obtain⟨xs,hx⟩:=rr.dom b hb
      refine⟨(w.oM f z).2 b hb,by rw [st.sub' _ _ hx];exact nofun,λe'=>?_,λm=>(w.cu b m).2.1 (f2 b hb)⟩
      rw [(k b e').2] at hx;cases hx
     ·rw [rr.aB z]
      exact⟨KaY,λb hb=>by cases hb⟩
    exact q F1 _ σ az st.sub w2
   ·cases h2
  ·cases h
/-- xs.extend(e),of data without lists within -/
def hzx (i:Nat)(e:SE):SS where
 t:=λK=>tDrop (tBM K "list" rExtend (tVar i) (tCons (e.t K) tNil))
 ev:=λρ s=>match ρ[i]? with
  |some (.aS ds o)=>(e.ev ρ s).bind λx=>match x.1.1 with
   |.list es=>if ds.length+es.length<=100000 then some (.nx (ρ.set i (.aS (ds++es) (o && gv es))) x.2) else none
   |_=>none
  |_=>none
 ok:=by
  intro K sk F0 H0 F H σ ρ aj s out D w h q
  dsimp only at h
  split at h
  ·rename_i ds o cS
   obtain⟨⟨⟨x,fl⟩,s1⟩,h1,h2⟩:=aL h
   dsimp only at h2
   split at h2
   ·rename_i es
    split at h2
    ·rename_i hl
     cases h2
     obtain⟨xv,fp,e1,e2,a,vs,as,rfl,hH,hF,r,rfl⟩:=w.slots.get cS
     refine⟨.ref a,e1,.inl ⟨rfl,vs,.inl (.inl hH)⟩,?_⟩
     refine e.ok K w.pre h1 λv F1 H1 bs st k rr f=>?_
     have fa:a∈aj.flatten:=Kaw.mpr ⟨_,Kaq e2,Kaa⟩
     have cT:=(w.cu a fa).2.2
     have uN:H1 a=some (.lst vs):=st.fr a _ cT hH
     have Iq:F1 a=none:=by
      cases z:F1 a with
      |none=>rfl
      |some u=>
       rcases st.new a u z with y|y
       ·rw [hF] at y;cases y
       ·rw [hH] at y;cases y
     obtain⟨b,xs,cs,rfl,hb,hr,rfl⟩:=rr.aC
     refine⟨a,b,vs,xs,rfl,rfl,uN,st.sub' _ _ hb,by rw [r.len,hr.len];exact Kau hl (by decide),?_⟩
     have w1:=w.next st k
     obtain⟨az,w2⟩:=w1.grow (o':=o && gv es) e1 e2 uN Iq ((r.mono st.sub).app hr) λeo=>by
      obtain⟨eo1,WC⟩:=KaG.mp eo
      rw [hr.aB WC]
      exact⟨eo1,KaY,λb hb=>by cases hb⟩
     exact q F1 _ σ az st.sub w2
    ·cases h2
   ·cases h2
  ·cases h
def X3 (i:Nat):SE where
 t:=λK=>tCB (λxs H Q=>∃x n,xs=[x]/\LenV K x H n/\Q (.int (n:Nat)) H) (tCons (tVar i) tNil)
 ev:=λρ s=>match ρ[i]? with
  |some (.aS ds _)=>some ((.int ds.length,true),s)
  |_=>none
 ok:=by
  intro K sk F H σ ρ aj s vl s' Q p h q
  dsimp only at h
  split at h
  ·rename_i ds o e
   cases h
   obtain⟨x,fp,e1,e2,a,vs,as,rfl,hH,hF,r,rfl⟩:=p.slots.get e
   refine⟨.ref a,e1,.ref a,vs.length,rfl,.inl ⟨vs,.inl (.inl hH),rfl⟩,?_⟩
   rw [r.len]
   exact q _ F H [] (.refl p.sub) p.bj (.int _) .nil
  ·cases h
def MT (i:Nat)(e:SE):SE where
 t:=λK=>tOp (rIx K) (tVar i) (e.t K)
 ev:=λρ s=>match ρ[i]? with
  |some (.aS ds _)=>(e.ev ρ s).bind λx=>match x.1.1 with
   |.int k=>(atI ds k).map λd=>((d,false),x.2)
   |_=>none
  |_=>none
 ok:=by
  intro K sk F H σ ρ aj s vl s' Q p h q
  dsimp only at h
  split at h
  ·rename_i ds o cS
   obtain⟨⟨⟨x,fl⟩,s1⟩,h1,h2⟩:=aL h
   dsimp only at h2
   split at h2
   ·rename_i kk
    obtain⟨d,h3,h4⟩:=Kan.mp h2
    cases h4
    obtain⟨x,fp,e1,e2,a,vs,as,rfl,hH,hF,r,rfl⟩:=p.slots.get cS
    refine⟨.ref a,e1,?_⟩
    refine e.ok K p h1 λv F1 H1 bs st k rr f=>?_
    have fa:a∈aj.flatten:=Kaw.mpr ⟨_,Kaq e2,Kaa⟩
    have uN:H1 a=some (.lst vs):=st.fr a _ (λz=>p.nN a z fa) hH
    obtain⟨v2,es,z1,z2⟩:=(r.mono st.sub).atI h3
    exact .inl ⟨a,vs,kk,v2,rfl,rr.int_inv,.inl (.inl uN),z1,q v2 F1 H1 es st k z2 .no⟩
   ·cases h2
  ·cases h
/-- xs != [] of a uu list -/
def SE.Ni (i:Nat):SE where
 t:=λK=>tOp (rNeD K) (tVar i) (tLst tNil)
 ev:=λρ s=>match ρ[i]? with
  |some (.aS ds _)=>if SeqAt.shaped (.list ds)=true then some ((.bool (!ds.isEmpty),true),s) else none
  |_=>none
 ok:=by
  intro K sk F H σ ρ aj s vl s' Q p h q
  dsimp only at h
  split at h
  ·rename_i ds o cS
   split at h
   ·rename_i hs
    cases h
    obtain⟨x,fp,e1,e2,a,vs,as,rfl,hH,hF,r,rfl⟩:=p.slots.get cS
    refine⟨.ref a,e1,Kbc _,λb nb=>?_⟩
    have sr:br F H (L2.upd F b (.lst [])) (L2.upd H b (.lst [])):=.alloc p.sub nb
    have uN:L2.upd H b (.lst []) a=some (.lst vs):=sr.fr a _ nofun hH
    have hnd:jO ds=true:=by have:=Mr hs;unfold nd at this;exact this
    refine⟨.list ds,.list [],.lst (.inl (.inl uN)) (((r.mono sr.sub).mono sr.sub').dp hnd),.lst (.inl (.inl upd_same)) .nil,hs,by rfl,?_⟩
    have e:PyData.eqv (.list ds) (.list [])=ds.isEmpty:=by
     cases ds with
     |nil=>simp [PyData.eqv,PyData.eqvAll]
     |cons d ds=>simp [PyData.eqv,PyData.eqvAll]
    rw [e]
    exact q _ _ _ [] sr.any (p.bj.keep sr) (.bl _) .nil
   ·cases h
  ·cases h
def SS.frz (i:Nat)(b:SS):SS where
 t:=b.t
 ev:=λρ s=>match ρ[i]? with
  |some (.aS ds o)=>b.ev (ρ.set i (if o=true then .own (.list ds) else .dat (.list ds))) s
  |_=>none
 ok:=by
  intro K sk F0 H0 F H σ ρ aj s out D w h q
  dsimp only at h
  split at h
  ·rename_i ds o cS
   obtain⟨x,fp,e1,e2,a,vs,as,rfl,hH,hF,r,rfl⟩:=w.slots.get cS
   have fa:a∈aj.flatten:=Kaw.mpr ⟨_,Kaq e2,Kaa⟩
   obtain⟨a0,a1,a2⟩:=w.cu a fa
   obtain⟨n1,n2⟩:=Aj w.fO e2
   have n3:=Kag.mp n1
   have na:a∉(aj.set i []).flatten:=λm=>n3.2.2 a Kaa a m rfl
   have sF:Same F (L2.upd F a (.lst vs)):=λb u e=>by rw [upd_ne (ne_of_none e hF)];exact e
   have st':Step sk F0 H0 (L2.upd F a (.lst vs)) H:=by
    refine⟨w.st.sub.trans sF,λb u e=>?_,λa o x y z=>w.st.fr a o x y z,w.st.dm,λb u e=>?_⟩
    ·by_cases z:b=a
     ·rw [z,upd_same] at e;rw [z,<-e];exact hH
     ·rw [upd_ne z] at e;exact w.st.sub' b u e
    ·by_cases z:b=a
     ·rw [z];exact .inr a0
     ·rw [upd_ne z] at e;exact w.st.new b u e
   have iQ:bw sk (L2.upd F a (.lst vs)) H s:=⟨λb e=>⟨(w.bj b e).1,by rw [upd_ne (λz=>a2 (by rw [<-z];exact e))];exact (w.bj b e).2⟩,w.bj.tab.vR⟩
   have sl:=(w.slots.drop (i:=i)).upd (a:=a) (o:=.lst vs) na hF
   have rp:Rp (L2.upd F a (.lst vs)) (.ref a) (.list ds) (a::as):=.lst upd_same (r.mono sF)
   cases o with
   |true=>
    rw [if_pos rfl] at h e2 n1 n3
    have sl2:=sl.fill (sl:=.own (.list ds)) e1 ⟨_,rfl,rp⟩
    rw [Kaz,Kaz] at sl2
    have es:aj.set i (a::as)=aj:=RY e2
    rw [es] at sl2
    exact b.ok K ⟨st',iQ,sl2,w.fO,w.cu⟩ h (q.mono sF)
   |false=>
    rw [if_neg Kb9] at h
    have sl2:=sl.fill (sl:=.dat (.list ds)) e1 ⟨rfl,_,_,rfl,rp⟩
    rw [Kaz,Kaz] at sl2
    exact b.ok K ⟨st',iQ,sl2,w.fO.sublist iH,λb m=>w.cu b (iH.mem m)⟩ h (q.mono sF)
  ·cases h
def forL (g:PyData->List Slot->Option (List Slot))(b:Bs):List PyData->List Slot->ae->Option Out
 |[],ρ,s=>some (.nx ρ s)
 |d::ds,ρ,s=>(g d ρ).bind λaH=>(b aH s).bind λo=>match o with
  |.nx dF s2=>forL g b ds dF s2
  |.cnt dF s2=>forL g b ds dF s2
  |.brk dF s2=>some (.nx dF s2)
  |.ret v s2=>some (.ret v s2)
def hxd (it:SI)(g:SG)(b:SS):SS where
 t:=λK=>tFor (it.t K) (g.t K) (b.t K)
 ev:=λρ s=>(it.ev ρ s).bind λx=>forL g.ev b.ev x.1 ρ x.2
 ok:=by
  intro K sk F0 H0 F H σ ρ aj s out D w h q
  obtain⟨⟨ds,s1⟩,h1,h2⟩:=aL h
  dsimp only at h2
  refine it.ok K w.pre h1 λJ F1 H1 st k yl=>?_
  refine⟨λi m σ H=>∃F2 dF dN s2,m=(ds.drop i).length/\i<=ds.length/\Same F1 F2/\Wd sk F0 H0 F2 H σ dF dN s2/\forL g.ev b.ev (ds.drop i) dF s2=some out,
   ⟨ds.length,F1,ρ,aj,s1,by simp,Kbc _,Same.refl _,w.next st k,by simpa using h2⟩,λi m σ2 H2 hW=>?_⟩
  obtain⟨F2,dF,dN,s2,em,hi,sF,w2,hf⟩:=hW
  by_cases hlt:i<ds.length
  ·have ed:ds.drop i=ds[i]::ds.drop (i+1):=Ka6 hlt
   have eg:ds[i]? = some ds[i]:=Kao hlt
   rw [ed] at hf em
   obtain⟨go,yld⟩:=(yl F2 H2 i sF w2.st.sub').1 _ eg
   unfold forL at hf
   obtain⟨ρ3,c1,hf⟩:=aL hf
   obtain⟨o,c2,hf⟩:=aL hf
   refine .inr ⟨go,λσ' H'=>∃F3 Qh ML s4,Same F1 F3/\Wd sk F0 H0 F3 H' σ' Qh ML s4/\forL g.ev b.ev (ds.drop (i+1)) Qh s4=some out,λσ' H' hN=>?_,λx H3 hy=>?_⟩
   ·obtain⟨F3,Qh,ML,s4,NQ,w4,hf4⟩:=hN
    exact⟨(ds.drop (i+1)).length,by rw [em];exact Kbl _,F3,Qh,ML,s4,rfl,hlt,NQ,w4,hf4⟩
   ·obtain⟨F3,Bx,sa,r3⟩:=yld x H3 hy
    have w3:=w2.next sa.any (w2.bj.keep sa)
    refine g.ok K w3.st.sub' r3 w3.slots c1 λσ' az sl' m' u' _=>?_
    have w4:Wd sk F0 H0 F3 H3 σ' ρ3 az s2:=⟨w3.st,w3.bj,sl',w3.fO.sublist u',λa ha=>w3.cu a (m' a ha)⟩
    refine b.ok K w4 c2 ?_
    have NP:Same F1 F3:=sF.trans sa.sub
    cases o with
    |nx B4 s5=>exactλF5 H5 Oe lJ e5 w5=>⟨F5,B4,lJ,s5,NP.trans e5,w5,hf⟩
    |cnt B4 s5=>exactλF5 H5 Oe lJ e5 w5=>⟨F5,B4,lJ,s5,NP.trans e5,w5,hf⟩
    |brk B4 s5=>
     cases hf
     exactλF5 H5 Oe lJ e5 w5=>q F5 H5 Oe lJ ((st.sub.trans NP).trans e5) w5
    |ret vl s5=>
     cases hf
     exact q
  ·have e1:i=ds.length:=by omega
   subst e1
   rw [KbH] at hf
   unfold forL at hf
   cases hf
   exact .inl ⟨(yl F2 H2 _ sF w2.st.sub').2 (Kak _),q F2 H2 σ2 dN (st.sub.trans sF) w2⟩
def GP (c:List Slot->ae->Option (Bool×ae))(b:Bs):Nat->List Slot->ae->Option Out
 |0,_,_=>none
 |n+1,ρ,s=>(c ρ s).bind λx=>if x.1=true then (b ρ x.2).bind λo=>match o with
  |.nx dF s2=>GP c b n dF s2
  |.cnt dF s2=>GP c b n dF s2
  |.brk dF s2=>some (.nx dF s2)
  |.ret v s2=>some (.ret v s2)
  else some (.nx ρ x.2)
/-- a while of at most n turns -/
def MS (n:Nat)(c:ST)(b:SS):SS where
 t:=λK=>tWhile (c.t K) (b.t K)
 ev:=λρ s=>GP c.ev b.ev n ρ s
 ok:=by
  intro K sk F0 H0 F H σ ρ aj s out D w h q
  refine⟨λm σ H=>∃F2 dF dN s2,Same F F2/\Wd sk F0 H0 F2 H σ dF dN s2/\GP c.ev b.ev m dF s2=some out,⟨n,F,ρ,aj,s,Same.refl _,w,h⟩,λm σ2 H2 hW=>?_⟩
  obtain⟨F2,dF,dN,s2,sF,w2,hf⟩:=hW
  cases m with
  |zero=>unfold GP at hf;cases hf
  |succ m=>
   unfold GP at hf
   obtain⟨x,c1,hf⟩:=aL hf
   refine c.ok K w2.pre c1 λF3 H3 st3 k3=>?_
   have w3:=w2.next st3 k3
   split at hf
   ·rename_i e
    rw [if_pos e]
    obtain⟨o,c2,hf⟩:=aL hf
    refine⟨λσ' H'=>∃F5 B4 lJ s5,Same F F5/\Wd sk F0 H0 F5 H' σ' B4 lJ s5/\GP c.ev b.ev m B4 s5=some out,λσ' H' hN=>⟨m,Kbl m,hN⟩,?_⟩
    refine b.ok K w3 c2 ?_
    have NQ:Same F F3:=sF.trans st3.sub
    cases o with
    |nx B4 s5=>exactλF5 H5 Oe lJ e5 w5=>⟨F5,B4,lJ,s5,NQ.trans e5,w5,hf⟩
    |cnt B4 s5=>exactλF5 H5 Oe lJ e5 w5=>⟨F5,B4,lJ,s5,NQ.trans e5,w5,hf⟩
    |brk B4 s5=>
     cases hf
     exactλF5 H5 Oe lJ e5 w5=>q F5 H5 Oe lJ (NQ.trans e5) w5
    |ret vl s5=>
     cases hf
     exact q
   ·rename_i e
    rw [if_neg e]
    cases hf
    exact q F3 H3 σ2 dN (sF.trans st3.sub) w3
end Pu
namespace Pu
variable [aO]
open PySem PySem.Spec PyProof.Rows L2
def YB (t:Frag->TE)(ev:List Slot->ae->Option (Vl×List Slot×ae)):Prop:=∀(K:Frag) {sk:Option Addr} {F0 H0 F H:Hp} {σ:L2.St} {ρ ρ':List Slot} {aj:List (List Addr)} {s s':ae} {vl:Vl} {Q:VK},Wd sk F0 H0 F H σ ρ aj s->ev ρ s=some (vl,ρ',s') ->
 (∀v F' H' as az,Same F F'->(∀a,H a≠none->H' a≠none)->Wd sk F0 H0 F' H' σ ρ' az s'->(∀a∈az.flatten,a∈aj.flatten)->Rp F' v vl.1 as->(vl.2=true->as.Nodup/\∀a∈as,H0 a=none/\a∉az.flatten/\(a∈aj.flatten∨H a=none))->Q v H')->t K σ H Q
structure RE where
 t:Frag->TE
 ev:List Slot->ae->Option (Vl×List Slot×ae)
 ok:YB t ev
def YA (t:Frag->TA)(ev:List Slot->ae->Option (List Vl×List Slot×ae)):Prop:=∀(K:Frag) {sk:Option Addr} {F0 H0 F H:Hp} {σ:L2.St} {ρ ρ':List Slot} {aj:List (List Addr)} {s s':ae} {ku:List Vl} {Q:List V->Hp->Prop},Wd sk F0 H0 F H σ ρ aj s->ev ρ s=some (ku,ρ',s') ->
 (∀vs F' H' as az,Same F F'->(∀a,H a≠none->H' a≠none)->Wd sk F0 H0 F' H' σ ρ' az s'->(∀a∈az.flatten,a∈aj.flatten)->ah F' vs (ku.map (·.1)) as->(ku.all fP=true->as.Nodup/\∀a∈as,H0 a=none/\a∉az.flatten/\(a∈aj.flatten∨H a=none))->Q vs H')->t K σ H Q
structure RA where
 t:Frag->TA
 ev:List Slot->ae->Option (List Vl×List Slot×ae)
 ok:YA t ev
def RE.e (e:SE):RE where
 t:=e.t
 ev:=λρ s=>(e.ev ρ s).bind λx=>some (x.1,ρ,x.2)
 ok:=by
  intro K sk F0 H0 F H σ ρ ρ' aj s s' vl Q w h q
  obtain⟨⟨x,s1⟩,h1,h2⟩:=aL h
  cases h2
  refine e.ok K w.pre h1 λv F1 H1 as st k r f=>?_
  refine q v F1 H1 as aj st.sub st.dm (w.next st k) (λa m=>m) r λe=>?_
  obtain⟨f1,f2⟩:=f e
  exact⟨f1,λa m=>⟨(w.oM f e).2 a m,λz=>(w.cu a z).2.1 (f2 a m),.inr (f2 a m)⟩⟩
def RE.mv (i:Nat):RE where
 t:=λ_=>tVar i
 ev:=λρ s=>match ρ[i]? with
  |some (.dat d)=>some ((d,false),ρ,s)
  |some (.own d)=>some ((d,true),ρ.set i (.dat d),s)
  |some (.aS ds o)=>some ((.list ds,o),ρ.set i (.dat (.list ds)),s)
  |_=>none
 ok:=by
  intro K sk F0 H0 F H σ ρ ρ' aj s s' vl Q w h q
  dsimp only at h
  split at h
  ·rename_i d e
   cases h
   obtain⟨x,fp,e1,e2,z,v,as,e3,r⟩:=w.slots.get e
   exact⟨v,by rw [e1,e3],q v F H as aj (Same.refl _) (λa h=>h) w (λa m=>m) r nofun⟩
  ·rename_i d e
   cases h
   obtain⟨x,fp,e1,e2,v,e3,r⟩:=w.slots.get e
   subst e3
   refine⟨v,e1,?_⟩
   obtain⟨n1,n2⟩:=Aj w.fO e2
   have n3:=Kag.mp n1
   have sl:=w.slots.fill (i:=i) (sl:=.dat d) (fp:=[]) e1 ⟨rfl,v,fp,rfl,r⟩
   refine q v F H fp (aj.set i []) (Same.refl _) (λa h=>h) ⟨w.st,w.bj,sl,n3.2.1,λa m=>w.cu a (iH.mem m)⟩ (λa m=>iH.mem m) r λ_=>⟨n3.1,λa m=>?_⟩
   have:=w.cu a (n2 a (Kab _ m))
   exact⟨this.1,λz=>n3.2.2 a m a z rfl,.inl (n2 a (Kab _ m))⟩
  ·rename_i ds o cS
   cases h
   obtain⟨x,fp,e1,e2,a,vs,as,rfl,hH,hF,r,rfl⟩:=w.slots.get cS
   have fa:a∈aj.flatten:=Kaw.mpr ⟨_,Kaq e2,Kaa⟩
   obtain⟨a0,a1,a2⟩:=w.cu a fa
   obtain⟨n1,n2⟩:=Aj w.fO e2
   have n3:=Kag.mp n1
   have na:a∉(aj.set i []).flatten:=λm=>n3.2.2 a Kaa a m rfl
   have sF:Same F (L2.upd F a (.lst vs)):=λb u e=>by rw [upd_ne (ne_of_none e hF)];exact e
   have st':Step sk F0 H0 (L2.upd F a (.lst vs)) H:=by
    refine⟨w.st.sub.trans sF,λb u e=>?_,λa o x y z=>w.st.fr a o x y z,w.st.dm,λb u e=>?_⟩
    ·by_cases z:b=a
     ·rw [z,upd_same] at e;rw [z,<-e];exact hH
     ·rw [upd_ne z] at e;exact w.st.sub' b u e
    ·by_cases z:b=a
     ·rw [z];exact .inr a0
     ·rw [upd_ne z] at e;exact w.st.new b u e
   have iQ:bw sk (L2.upd F a (.lst vs)) H s:=⟨λb e=>⟨(w.bj b e).1,by rw [upd_ne (λz=>a2 (by rw [<-z];exact e))];exact (w.bj b e).2⟩,w.bj.tab.vR⟩
   have sl:=(w.slots.drop (i:=i)).upd (a:=a) (o:=.lst vs) na hF
   have rp:Rp (L2.upd F a (.lst vs)) (.ref a) (.list ds) (a::as):=.lst upd_same (r.mono sF)
   have sl2:=sl.fill (sl:=.dat (.list ds)) e1 ⟨rfl,_,_,rfl,rp⟩
   rw [Kaz,Kaz] at sl2
   refine⟨.ref a,e1,?_⟩
   refine q (.ref a) _ H (a::as) (aj.set i []) sF (λa h=>h) ⟨st',iQ,sl2,n3.2.1,λb m=>w.cu b (iH.mem m)⟩ (λb m=>iH.mem m) rp λho=>?_
   have ho:o=true:=ho
   subst ho
   rw [if_pos rfl] at n3 n2
   refine⟨n3.1,λb m=>?_⟩
   have:=w.cu b (n2 b (Kab _ m))
   exact⟨this.1,λz=>n3.2.2 b m b z rfl,.inl (n2 b (Kab _ m))⟩
  ·cases h
def RA.nil:RA:=⟨λ_=>tNil,λρ s=>some ([],ρ,s),by
 intro K sk F0 H0 F H σ ρ ρ' aj s s' vl Q w h q
 cases h
 exact q [] F H [] aj (Same.refl _) (λa h=>h) w (λa m=>m) .nil λ_=>⟨KaY,λa m=>by cases m⟩⟩
def RA.cons (e:RE)(r:RA):RA where
 t:=λK=>tCons (e.t K) (r.t K)
 ev:=λρ s=>(e.ev ρ s).bind λx=>(r.ev x.2.1 x.2.2).bind λy=>some (x.1::y.1,y.2.1,y.2.2)
 ok:=by
  intro K sk F0 H0 F H σ ρ ρ' aj s s' vl Q w h q
  obtain⟨⟨x,aH,s1⟩,h1,h2⟩:=aL h
  obtain⟨⟨y,dF,s2⟩,h3,h4⟩:=aL h2
  cases h4
  refine e.ok K w h1 λv F1 H1 as jZ Qa d1 w1 m1 r1 o1=>?_
  refine r.ok K w1 h3 λvs F2 H2 bs dN Qc d2 w2 m2 r2 o2=>?_
  refine q (v::vs) F2 H2 (as++bs) dN (Qa.trans Qc) (λa h=>d2 a (d1 a h)) w2 (λa m=>m1 a (m2 a m)) (.cons (r1.mono Qc) r2) λeo=>?_
  rw [Ka7,KaU] at eo
  obtain⟨b1,b2⟩:=o2 eo.2
  have a12:as.Nodup/\∀a∈as,H0 a=none/\a∉jZ.flatten/\(a∈aj.flatten∨H a=none):=by
   have e1:=eo.1
   unfold fP at e1
   rcases Ka3.mp e1 with z|z
   ·exact o1 z
   ·rw [r1.aB z];exact⟨KaY,λa m=>by cases m⟩
  obtain⟨a1,a2⟩:=a12
  refine⟨Kag.mpr ⟨a1,b1,λa ma b mb z=>?_⟩,λa m=>?_⟩
  ·subst z
   rcases (b2 a mb).2.2 with z|z
   ·exact (a2 a ma).2.1 z
   ·obtain⟨xs,hx⟩:=r1.dom a ma
    rw [w1.st.sub' _ _ hx] at z;cases z
  ·rcases Kat.mp m with z|z
   ·exact⟨(a2 a z).1,λq=>(a2 a z).2.1 (m2 a q),(a2 a z).2.2⟩
   ·refine⟨(b2 a z).1,(b2 a z).2.1,?_⟩
    rcases (b2 a z).2.2 with y|y
    ·exact .inl (m1 a y)
    ·refine .inr ?_
     cases hq:H a with
     |none=>rfl
     |some u=>exact absurd y (d1 a (by rw [hq];exact nofun))
def RE.tup (a:RA):RE where
 t:=λK=>tTup (a.t K)
 ev:=λρ s=>(a.ev ρ s).bind λx=>if x.1.length<=100000 then some ((.tuple (x.1.map (·.1)),x.1.all fP),x.2.1,x.2.2) else none
 ok:=by
  intro K sk F0 H0 F H σ ρ ρ' aj s s' vl Q w h q
  obtain⟨⟨x,aH,s1⟩,h1,h2⟩:=aL h
  dsimp only at h2
  split at h2
  ·rename_i hl
   cases h2
   refine a.ok K w h1 λvs F1 H1 as jZ Qa d1 w1 m1 r1 o1=>⟨?_,λpp np=>?_⟩
   ·have:=r1.len
    rw [Kaf] at this
    rw [this]
    exact Kau hl (by decide)
   ·have sa:br F1 H1 (L2.upd F1 pp (.tup vs)) (L2.upd H1 pp (.tup vs)):=.alloc w1.st.sub' np
    exact q _ _ _ as jZ (Qa.trans sa.sub) (λa h=>sa.dm a (d1 a h)) (w1.next sa.any (w1.bj.keep sa)) m1 (.tup upd_same (r1.mono sa.sub)) o1
  ·cases h2
def X4 (e:RE):SS where
 t:=λK=>tRet (e.t K)
 ev:=λρ s=>(e.ev ρ s).bind λx=>some (.ret x.1 x.2.2)
 ok:=by
  intro K sk F0 H0 F H σ ρ aj s out D w h q
  obtain⟨⟨x,aH,s1⟩,h1,h2⟩:=aL h
  cases h2
  refine e.ok K w h1 λv F1 H1 as jZ Qa d1 w1 m1 r1 o1=>q v F1 H1 as w1.st w1.bj r1 λeo=>?_
  obtain⟨a1,a2⟩:=o1 eo
  exact⟨a1,λa m=>(a2 a m).1⟩
def fnOf (np nl:Nat)(b:SS):Fn:=λargs s=>if args.length=np then match b.ev (args++Kay nl .emp) s with
  |some (.ret vl s')=>some (vl,s')
  |some (.nx _ s')=>some ((.none,true),s')
  |_=>none
 else none
theorem Slots.more {sk:Option Addr}{F H:Hp}{σ:L2.St}{ρ:List Slot}{aj:List (List Addr)}(h:Slots sk F H σ ρ aj):∀n:Nat,Slots sk F H (σ++Kay n none) (ρ++Kay n .emp) (aj++Kay n [])
 |n=>by
  induction h with
  |nil=>
   show Slots sk F H (Kay n none) (Kay n .emp) (Kay n [])
   induction n with
   |zero=>exact .nil
   |succ n ih=>
    rw [KbB,KbB,KbB]
    exact .cons (show qB sk F H none .emp [] from rfl) ih
  |cons h r ih=>exact .cons h ih
theorem rE (l:List (List Addr))(n:Nat)(h:l.flatten=[]):(l++Kay n []).flatten=[]:=by
 rw [KaR,h,Kbr]
 induction n with
 |zero=>rfl
 |succ n ih=>rw [KbB,Kap,ih];rfl
abbrev iF (K:PySem.W.Frag)(x:Str)(st:Stmt)(f:Addr)(fd:FuncData):Prop:=FunD K x x (defArgs st) (defBody st) (defScope st) [] [] f fd
theorem gqg {K:Frag}{np nl:Nat}{b:SS}{N:List Str}{vs:List V}{H:Hp}{Q:VK}{E:XK}(hN:N.length=np+nl)(h:bx (fnOf np nl b) vs H Q E):b.t K { nx:=λ_ H'=>Q .non H',rt:=Q } (L2.start N vs) H:=by
 obtain⟨sk,F,args,s,vl,s',sub,bj,sl,hm,q⟩:=h
 unfold fnOf at hm
 split at hm
 ·rename_i hl
  have hvl:vs.length=np:=by
   have:=sl.length
   rw [Kaf] at this
   rw [this,hl]
  have hst:L2.start N vs=vs.map some++Kay nl none:=by
   unfold L2.start
   rw [hN,hvl]
   congr 2
   omega
  rw [hst]
  have sl2:=sl.more nl
  have fl:=rE (kh args) nl (WS args)
  have w:Wd sk F H F H (vs.map some++Kay nl none) (args++Kay nl .emp) (kh args++Kay nl []) s:=
   ⟨.refl sub,bj,sl2,by rw [fl];exact KaY,λa m=>by rw [fl] at m;cases m⟩
  split at hm
  ·rename_i vl2 s2 he
   cases hm
   exact b.ok K w he λv F' H' as st k r f=>q v F' H' as st k r f
  ·rename_i dF s2 he
   cases hm
   exact b.ok K w he λF' H' σ' az sF w'=>q .non F' H' [] w'.st w'.bj .non .nil
  ·cases hm
 ·cases hm
theorem gzu {np nl:Nat}{b:SS}{ps:List Str}(hp:ps.length=np)(vs:List V)(H:Hp)(Q:VK)(E:XK)(h:bx (fnOf np nl b) vs H Q E):vs.length=ps.length:=by
 obtain⟨sk,F,args,s,vl,s',sub,bj,sl,hm,q⟩:=h
 unfold fnOf at hm
 split at hm
 ·rename_i hl
  have:=sl.length
  rw [Kaf] at this
  rw [this,hl,hp]
 ·cases hm
/-- a def keeps bh promise of its YR CK -/
theorem dY {P:Program}{w:World}{K:PySem.W.Frag}{mg:Str->Option Value}{base:Heap}{x:Str}{st:Stmt}{f:Addr}{fd:FuncData}{N ps:List Str}{k np nl:Nat}{b:SS}(F:iF K x st f fd)(S:FnScope N ps (defScope st))(hp:ps.length=np)(hN:N.length=np+nl)
  (yx:∀(cdv:Value) (A:Around) (outer:List Env) (s:Shared) (H:Hp) (E:XK),Room k (A.deeper (envOfC x (defScope st) s.heap.objs.size f cdv))->∃t,PSs (cxOf CX0 P w K mg base N x (defScope st) f cdv A outer s H E).nox (defBody st) t/\t=b.t K):
  FnOk P w K mg base CX0 (k+1) f fd ps (bx (fnOf np nl b)):=
 F.ok S (gzu hp) λcdv A outer s H vs Q E hr h=>by
  obtain⟨t,ht,rfl⟩:=yx cdv A outer s H E hr
  exact⟨b.t K,PSs.nox ht,gqg hN h⟩
end Pu
namespace Pu
variable [aO]
open PySem PySem.Spec PyProof.Rows L2
section
variable {X:Cx}{elt tg iter:Expr}{ifs:List Expr}{scope:Scope}{own:List (Str×Nat)}{pos:Pos}{wi:TI}
theorem tV (gS:SG)(tS:ST)(eS:SE)(own:List (Str×Nat))(hc:X.calm=true)(hN:X.N.Nodup)(hi:PI X tg iter wi)(ok:BlkOk X.N X.env.scope scope own)
  (hg:∀(s:Shared) (H:Hp) (C:Addr) (cl:List (Str×Addr)) (fp:List Addr),∃g,PG (X.blk s H scope (compEnvC scope cl C X.env) fp) tg g/\g=gS.t X.K)
  (ht:∀(s:Shared) (H:Hp) (C:Addr) (cl:List (Str×Addr)) (fp:List Addr),∃tt,PTs (X.blk s H scope (compEnvC scope cl C X.env) fp) ifs tt/\tt=tS.t X.K)
  (he:∀(s:Shared) (H:Hp) (C:Addr) (cl:List (Str×Addr)) (fp:List Addr),∃te,PE (X.blk s H scope (compEnvC scope cl C X.env) fp) elt te/\te=eS.t X.K) (hs:∀x,foldedSetIterable iter X.env x=pure x:=by intro _;rfl):
  PE X (.ListComp elt [⟨tg,iter,ifs,0⟩] scope pos) (tLc wi (gS.t X.K) (tS.t X.K) (eS.t X.K) (own.map (·.2))):=
 pe_lc hc hN hi ok (λa b c d e=>by obtain⟨_,h,rfl⟩:=hg a b c d e;exact h) (λa b c d e=>by obtain⟨_,h,rfl⟩:=ht a b c d e;exact h) (λa b c d e=>by obtain⟨_,h,rfl⟩:=he a b c d e;exact h) hs
theorem rX {i:Nat}{y:Str}{py spos:Pos}(gS:SG)(tS:ST)(eS:SE)(own:List (Str×Nat))(hc:X.calm=true)(hN:X.N.Nodup)(hy:X.N[i]? = some y)(hyl:X.env.scope.names.lookup y=some .local)
  (hsw:swapsWith (.ListComp elt [⟨tg,iter,ifs,0⟩] scope pos) (some (.Name y py)) spos.line X.env=pure true) (hi:PI X tg iter wi) (ok:BlkOk X.N X.env.scope scope own)
  (hg:∀(s:Shared) (H:Hp) (C:Addr) (cl:List (Str×Addr)) (fp:List Addr),∃g,PG (X.blk s H scope (compEnvC scope cl C X.env) fp) tg g/\g=gS.t X.K)
  (ht:∀(s:Shared) (H:Hp) (C:Addr) (cl:List (Str×Addr)) (fp:List Addr),∃tt,PTs (X.blk s H scope (compEnvC scope cl C X.env) fp) ifs tt/\tt=tS.t X.K)
  (he:∀(s:Shared) (H:Hp) (C:Addr) (cl:List (Str×Addr)) (fp:List Addr),∃te,PE (X.blk s H scope (compEnvC scope cl C X.env) fp) elt te/\te=eS.t X.K) (hs:∀x,foldedSetIterable iter X.env x=pure x:=by intro _;rfl):
  PS X (.Assign [.Name y py] (.ListComp elt [⟨tg,iter,ifs,0⟩] scope pos) spos) (tAsg (tLc wi (gS.t X.K) (tS.t X.K) (eS.t X.K) (own.map (·.2))) (gName i)):=
 ps_setLc hc hN hy hyl hsw hi ok (λa b c d e=>by obtain⟨_,h,rfl⟩:=hg a b c d e;exact h) (λa b c d e=>by obtain⟨_,h,rfl⟩:=ht a b c d e;exact h) (λa b c d e=>by obtain⟨_,h,rfl⟩:=he a b c d e;exact h) hs
end
end Pu
namespace Pu
variable [aO]
open PySem PySem.Spec PyProof.Rows L2
theorem vt (ws:List (Key×V))(k:Key)(v:V):(putK ws k v).length<=ws.length+1:=by
 unfold putK
 split
 ·rw [Kaf];omega
 ·rw [Kam];exact Kak _
/-- bh key eA a value is -/
def keyOf:PyData->Option Key
 |.int j=>some (.inl j)
 |.str x=>some (.inr x)
 |_=>none
theorem Rp.key {F:Hp}{v:V}{d:PyData}{as:List Addr}{k:Key}(r:Rp F v d as)(h:keyOf d=some k):v=kV k:=by
 unfold keyOf at h
 split at h
 ·cases h;exact r.int_inv
 ·cases h;exact r.str_inv
 ·cases h
theorem jx.put {F:Hp}{ws:List (Key×V)}{f:List (Key×PyData)}{k:Key}{v:V}{d:PyData}{as:List Addr}(h:∀j:Key,jx F (valV ws j) (cV f j))(r:Rp F v d as)(j:Key):jx F (valV (putK ws k v) j) (cV ((k,d)::f) j):=by
 rw [valV_put]
 show jx F _ (if k=j then some d else cV f j)
 by_cases e:k=j
 ·rw [if_pos e,if_pos (by rw [e])]
  exact⟨as,r⟩
 ·rw [if_neg e,if_neg (λz=>e z.symm)]
  exact h j
/-- x={} among bh targets -/
def SP.Ug (i:Nat)(r:SP):SP where
 t:=λK=>tCons tDNewK (r.t K)
 ts:=i::r.ts
 ev:=λρ d9 s=>r.ev ρ (d9.set i (.gI [])) s
 ok:=by
  intro K sk F0 H0 F H σ wq ρ d9 nR aj gj s s' Q p w h q a na
  have sr:br F H F (L2.upd H a (.dK [])):=.raw (sk:=sk) w.st.sub' na
  have w1:=w.next (sr.any (sk:=sk)) (w.bj.keep sr)
  have Uj:H0 a=none:=by
   cases q:H0 a with
   |none=>rfl
   |some u=>exact absurd na (w.st.dm a (by rw [q];exact nofun))
  have nd:([a]++gj.flatten).Nodup:=Kag.mpr ⟨by simp,w.fO,λb mb c mc z=>by
   have:b=a:=by simpa using mb
   subst z
   exact (w.cu b mc).2.1 (by rw [this];exact na)⟩
  obtain⟨m1,m2⟩:=x8 (i:=i) nd
  have wa:Wd sk F0 H0 F (L2.upd H a (.dK [])) (wq.set i (some (.ref a))) (d9.set i (.gI [])) (gj.set i [a]) s:=by
   refine⟨w1.st,w1.bj,w1.slots.set ⟨a,[],rfl,upd_same,w.st.sub'.free na,Kak _,λk=>True.intro,rfl⟩,m1,λb m=>?_⟩
   rcases m2 b m with z|z
   ·have:b=a:=by simpa using z
    subst this
    exact⟨Uj,by rw [upd_same];exact nofun,mX w.bj na⟩
   ·exact w1.cu b z
  refine r.ok K (p.next (sr.any (sk:=sk)) (p.bj.keep sr)) wa h λvs F2 H2 fv sF w2 hl=>?_
  exact q (.ref a::vs) F2 H2 fv sF w2 (by rw [Kah,Kah,hl])
/-- x={} -/
def SS.newD (i:Nat):SS where
 t:=λ_=>tAsg tDNewK (gName i)
 ev:=λρ s=>some (.nx (ρ.set i (.gI [])) s)
 ok:=by
  intro K sk F0 H0 F H σ ρ aj s out D w h q a na
  cases h
  have:=(SP.Ug i SP.nil).ok K (Q:=λvs H'=>∃v,vs=[v]/\D.nx (σ.set i (some v)) H') w.pre w rfl λvs F1 H1 fv sF w1 hl=>by
   match vs,hl with
   |[v],_=>exact⟨v,rfl,q F1 H1 _ fv sF w1⟩
  obtain⟨v,e,z⟩:=this a na
  cases e
  exact z
theorem Wd.dput {sk:Option Addr}{F0 H0 F H:Hp}{σ:L2.St}{ρ:List Slot}{aj:List (List Addr)}{s:ae}{i:Nat}{a:Addr}{ws BZ:List (Key×V)}{f:List (Key×PyData)}(w:Wd sk F0 H0 F H σ ρ aj s)(e1:σ[i]? = some (some (.ref a)))(e2:aj[i]? = some [a])(hF:F a=none)
  (hl:BZ.length<=f.length) (r:∀k:Key,jx F (valV BZ k) (cV f k)) {wsP:List (Key×V)} (hP:H a=some (.dK wsP)):Wd sk F0 H0 F (L2.upd H a (.dK BZ)) σ (ρ.set i (.gI f)) aj s:=by
 have fa:a∈aj.flatten:=Kaw.mpr ⟨_,Kaq e2,Kaa⟩
 obtain⟨a0,a1,a2⟩:=w.cu a fa
 obtain⟨n1,n2⟩:=Aj w.fO e2
 have n3:=Kag.mp n1
 have na:a∉(aj.set i []).flatten:=λm=>n3.2.2 a Kaa a m rfl
 have st':Step sk F0 H0 F (L2.upd H a (.dK BZ)):=by
  refine⟨w.st.sub,λb u e=>?_,λb u hb e hs=>?_,λb h=>?_,w.st.new⟩
  ·rw [upd_ne (λz=>by rw [z,hF] at e;cases e)];exact w.st.sub' b u e
  ·rw [upd_ne (λz=>by rw [z,a0] at e;cases e)];exact w.st.fr b u hb e
  ·by_cases z:b=a
   ·rw [z,upd_same];exact nofun
   ·rw [upd_ne z];exact w.st.dm b h
 have iQ:bw sk F (L2.upd H a (.dK BZ)) s:=⟨λb e=>⟨by rw [upd_ne (λz=>a2 (by rw [<-z];exact e))];exact (w.bj b e).1,(w.bj b e).2⟩,Xl w.bj.tab hP (Xc trivial)⟩
 have sl:=(w.slots.drop (i:=i)).Bm (a:=a) (o:=.dK BZ) na
 have sl2:=sl.fill (sl:=.gI f) (fp:=[a]) e1 ⟨a,BZ,rfl,upd_same,hF,hl,r,rfl⟩
 rw [Kaz,Kaz,RY e2] at sl2
 refine⟨st',iQ,sl2,w.fO,λb m=>?_⟩
 have:=w.cu b m
 refine⟨this.1,?_,this.2.2⟩
 by_cases z:b=a
 ·rw [z,upd_same];exact nofun
 ·rw [upd_ne z];exact this.2.1
/-- d[k]=v -/
def SS.dput (i:Nat)(k v:SE):SS where
 t:=λK=>sDPut (tVar i) (k.t K) (v.t K)
 ev:=λρ s=>(v.ev ρ s).bind λx=>match ρ[i]? with
  |some (.gI f)=>(k.ev ρ x.2).bind λy=>match keyOf y.1.1 with
   |some j=>if f.length<100000 then some (.nx (ρ.set i (.gI ((j,x.1.1)::f))) y.2) else none
   |none=>none
  |_=>none
 ok:=by
  intro K sk F0 H0 F H σ ρ aj s out D w h q
  obtain⟨⟨x,s1⟩,h1,h2⟩:=aL h
  dsimp only at h2
  split at h2
  ·rename_i f cS
   obtain⟨⟨⟨y,fl⟩,s2⟩,h3,h4⟩:=aL h2
   dsimp only at h4
   split at h4
   ·rename_i j ej
    split at h4
    ·rename_i hl
     cases h4
     refine v.ok K w.pre h1 λvv F1 H1 as st1 k1 r1 f1=>?_
     have w1:=w.next st1 k1
     obtain⟨xv,fp,e1,e2,a,ws,rfl,hH,hF,hlw,hr,rfl⟩:=w1.slots.get cS
     refine⟨.ref a,e1,?_⟩
     refine k.ok K w1.pre h3 λkv F2 H2 bs st2 k2 r2 f2=>?_
     have w2:=w1.next st2 k2
     obtain⟨xv2,fp2,O2,e22,a2,ws2,ez,Ir,S9,bqL,hr2,rfl⟩:=w2.slots.get cS
     rw [e1] at O2
     have ez2:a2=a:=by
      have:=Option.some.inj O2
      subst this
      have:=Option.some.inj ez
      injection this with this
      exact this.symm
     subst ez2
     have hkv:=r2.key ej
     subst hkv
     refine⟨a2,_,rfl,DPut.k (k:=j) Ir (KcC bqL (Kbv hl (by decide))),?_⟩
     have w3:=w2.dput (ws:=ws2) (BZ:=putK ws2 j vv) (f:=(j,x.1)::f) e1 e22 S9 (Kau (vt _ _ _) (by show ws2.length+1<=f.length+1;omega)) (jx.put hr2 (r1.mono st2.sub)) Ir
     exact q F2 _ σ aj (st1.sub.trans st2.sub) w3
    ·cases h4
   ·cases h4
  ·cases h2
theorem rZ {F:Hp}{x:Option V}{d:PyData}(h:jx F x (some d)):∃v as,x=some v/\Rp F v d as:=by
 cases x with
 |none=>cases h
 |some v=>obtain⟨as,h⟩:=h;exact⟨v,as,rfl,h⟩
theorem Bb {F:Hp}{x:Option V}(h:jx F x none):x=none:=by
 cases x with
 |none=>rfl
 |some v=>cases h
/-- d[k] -/
def SE.dix (i:Nat)(k:SE):SE where
 t:=λK=>tDGet (tVar i) (k.t K)
 ev:=λρ s=>match ρ[i]? with
  |some (.gI f)=>(k.ev ρ s).bind λy=>match keyOf y.1.1 with
   |some j=>(cV f j).map λd=>((d,false),y.2)
   |none=>none
  |_=>none
 ok:=by
  intro K sk F H σ ρ aj s vl s' Q p h q
  dsimp only at h
  split at h
  ·rename_i f cS
   obtain⟨⟨⟨y,fl⟩,s2⟩,h3,h4⟩:=aL h
   dsimp only at h4
   split at h4
   ·rename_i j ej
    obtain⟨d,h5,h6⟩:=Kan.mp h4
    cases h6
    obtain⟨xv,fp,e1,e2,a,ws,rfl,hH,hF,hlw,hr,rfl⟩:=p.slots.get cS
    refine⟨.ref a,e1,?_⟩
    refine k.ok K p h3 λkv F2 H2 bs st2 k2 r2 f2=>?_
    have hz:=hr j
    rw [h5] at hz
    obtain⟨v,as,hv,rv⟩:=rZ hz
    have fa:a∈aj.flatten:=Kaw.mpr ⟨_,Kaq e2,Kaa⟩
    have Ir:H2 a=some (.dK ws):=st2.fr a _ (λz=>p.nN a z fa) hH
    have hkv:=r2.key ej
    subst hkv
    refine⟨a,v,rfl,?_,q v F2 H2 as st2 k2 (rv.mono st2.sub) .no⟩
    rw [<-hv]
    exact DGet.k (k:=j) Ir
   ·cases h4
  ·cases h
/-- d.get(k,x) -/
def SE.Rn (i:Nat)(k x:SE):SE where
 t:=λK=>tDGet2 (tVar i) (k.t K) (x.t K)
 ev:=λρ s=>match ρ[i]? with
  |some (.gI f)=>(k.ev ρ s).bind λy=>match keyOf y.1.1 with
   |some j=>(x.ev ρ y.2).bind λz=>some (((cV f j).getD z.1.1,false),z.2)
   |none=>none
  |_=>none
 ok:=by
  intro K sk F H σ ρ aj s vl s' Q p h q
  dsimp only at h
  split at h
  ·rename_i f cS
   obtain⟨⟨⟨y,fl⟩,s2⟩,h3,h4⟩:=aL h
   dsimp only at h4
   split at h4
   ·rename_i j ej
    obtain⟨⟨z,s3⟩,h5,h6⟩:=aL h4
    cases h6
    obtain⟨xv,fp,e1,e2,a,ws,rfl,hH,hF,hlw,hr,rfl⟩:=p.slots.get cS
    refine⟨.ref a,e1,a,rfl,.inl ⟨ws,.inl hH⟩,?_⟩
    refine k.ok K p h3 λkv F2 H2 bs st2 k2 r2 f2=>?_
    refine x.ok K (p.next st2 k2) h5 λxv F3 H3 cs st3 k3 r3 f3=>?_
    have fa:a∈aj.flatten:=Kaw.mpr ⟨_,Kaq e2,Kaa⟩
    have hH3:H3 a=some (.dK ws):=st3.fr a _ (λz=>p.nN a z fa) (st2.fr a _ (λz=>p.nN a z fa) hH)
    have hkv:=r2.key ej
    subst hkv
    refine⟨_,DGet.k (k:=j) hH3,?_⟩
    have hz:=hr j
    cases hd:cV f j with
    |none=>
     rw [hd] at hz
     rw [Bb hz]
     refine q xv F3 H3 cs (st2.trans st3) k3 ?_ .no
     rw [hd];exact r3
    |some d=>
     rw [hd] at hz
     obtain⟨v,as,hv,rv⟩:=rZ hz
     rw [hv]
     refine q v F3 H3 as (st2.trans st3) k3 ?_ .no
     rw [hd];exact (rv.mono st2.sub).mono st3.sub
   ·cases h4
  ·cases h
def B7 (i j:Int):Prop:=0<=j/\(Builtin.Int.intBits i:Int)*j<=2 ^ 27
theorem MH {X:Cx}:OpR X (binaryOp .Pow) (rI B7 λi j=>.int (i ^ j.toNat)):=opI λ_ _ _ _ _ _ _ hc q=>pow_int hc.1 hc.2 q
def iE (i j:Int):Bool:=decide (0<=j) && decide (j<=1000) && decide (i.natAbs<2 ^ 1000)
theorem Ji {i j:Int}(h:iE i j=true):B7 i j:=by
 unfold iE at h
 obtain⟨h0,h3⟩:=KaG.mp h
 obtain⟨h1,h2⟩:=KaG.mp h0
 have h1:=of_decide_eq_true h1
 have h2:=of_decide_eq_true h2
 have h3:=of_decide_eq_true h3
 refine⟨h1,?_⟩
 have hb:Builtin.Int.intBits i<=1001:=by
  unfold Builtin.Int.intBits
  split
  ·omega
  ·have:=PySem.Flt.log2_lt_of (show 0<1000 by decide) h3
   omega
 have:(Builtin.Int.intBits i:Int)*j<=1001*1000:=Int.mul_le_mul (by omega) h2 h1 (by decide)
 omega
def Iw:SE->SE->SE:=oU _ _ (yR (C:=B7) (g:=λi j=>i ^ j.toNat) (c:=iE) (λi j h=>Ji h))
end Pu
namespace Pu
variable [aO]
open PySem PySem.Spec PyProof.Rows L2
mutual
/-- plain data: ints below 10 ** 60,short texts,no dict -/
def small:PyData->Bool
 |.none=>true
 |.bool _=>true
 |.int i=>decide (i.natAbs<10 ^ 60)
 |.str x=>decide ((reprText x).length<=61)
 |.list xs=>ur xs
 |.tuple xs=>ur xs
 |.dict _=>false
def ur:List PyData->Bool
 |[]=>true
 |x::xs=>small x && ur xs
end
mutual
/-- at most so many signs -/
def cost:PyData->Nat
 |.list xs=>Ax xs+3
 |.tuple xs=>Ax xs+3
 |_=>61
def Ax:List PyData->Nat
 |[]=>0
 |x::xs=>cost x+2+Ax xs
end
mutual
theorem pW:∀d:PyData,small d=true->d.shown.length<=cost d
 |.none,_=>by simp only [PyData.shown,cost];decide
 |.bool b,_=>by cases b <;> (simp only [PyData.shown,cost];decide)
 |.int i,h=>by
  simp only [small] at h
  have e:=int_text_length_le10 (k:=60) (by decide) (of_decide_eq_true h)
  simp only [PyData.shown,cost]
  show (Str.ofString (toString i)).length<=61
  rw [PySem.ofString_length];exact e
 |.str x,h=>by
  simp only [small] at h
  simp only [PyData.shown,cost]
  exact of_decide_eq_true h
 |.list xs,h=>by
  simp only [small] at h
  simp only [PyData.shown,cost]
  have h1:=listText_len_le (PyData.shownAll xs)
  have h2:=Z6 xs h
  have h3:=ezd xs
  omega
 |.tuple xs,h=>by
  simp only [small] at h
  simp only [PyData.shown,cost]
  have h1:=tupleText_len_le (PyData.shownAll xs)
  have h2:=Z6 xs h
  have h3:=ezd xs
  omega
 |.dict kvs,h=>by simp only [small] at h;cases h
theorem Z6:∀xs:List PyData,ur xs=true->((PyData.shownAll xs).map (·.length)).sum+2*xs.length<=Ax xs
 |[],_=>by simp [PyData.shownAll,Ax]
 |x::xs,h=>by
  simp only [ur,KaU] at h
  have h1:=pW x h.1
  have h2:=Z6 xs h.2
  simp only [PyData.shownAll,Ax,Kal,Ka8,Kah]
  omega
theorem ezd:∀xs:List PyData,(PyData.shownAll xs).length=xs.length
 |[]=>by simp [PyData.shownAll]
 |x::xs=>by simp only [PyData.shownAll,Kah,ezd xs]
end
mutual
theorem pY:∀d:PyData,small d=true->d.showable=true/\d.hasDict=false
 |.none,_=>by simp [PyData.showable,PyData.hasDict]
 |.bool b,_=>by simp [PyData.showable,PyData.hasDict]
 |.int i,h=>by
  simp only [small] at h
  have h:=of_decide_eq_true h
  simp only [PyData.showable,PyData.hasDict,and_true,decide_eq_true_eq]
  exact log2_small (Kbv h (by decide +kernel))
 |.str x,_=>by simp [PyData.showable,PyData.hasDict]
 |.list xs,h=>by simp only [small] at h;simp only [PyData.showable,PyData.hasDict];exact Zx xs h
 |.tuple xs,h=>by simp only [small] at h;simp only [PyData.showable,PyData.hasDict];exact Zx xs h
 |.dict kvs,h=>by simp only [small] at h;cases h
theorem Zx:∀xs:List PyData,ur xs=true->PyData.showableAll xs=true/\PyData.hasDictAll xs=false
 |[],_=>by simp [PyData.showableAll,PyData.hasDictAll]
 |x::xs,h=>by
  simp only [ur,KaU] at h
  obtain⟨a1,a2⟩:=pY x h.1
  obtain⟨b1,b2⟩:=Zx xs h.2
  simp [PyData.showableAll,PyData.hasDictAll,a1,a2,b1,b2]
end
def BP (d:PyData):Bool:=small d && decide (cost d<=1000000) && decide (d.depth<=60)
mutual
theorem mO:∀d:PyData,small d=true->nd d=true
 |.none,_=>rfl
 |.bool _,_=>rfl
 |.int _,_=>rfl
 |.str _,_=>rfl
 |.list xs,h=>by simp only [small] at h;unfold nd;exact Zr xs h
 |.tuple xs,h=>by simp only [small] at h;unfold nd;exact Zr xs h
 |.dict kvs,h=>by simp only [small] at h;cases h
theorem Zr:∀xs:List PyData,ur xs=true->jO xs=true
 |[],_=>rfl
 |x::xs,h=>by
  simp only [ur,KaU] at h
  unfold jO
  rw [mO x h.1,Zr xs h.2];rfl
end
theorem EB {d:PyData}(h:BP d=true):nd d=true:=mO d (KaG.mp (KaG.mp h).1).1
def E8 (K:Frag):List V->Hp->VK->Prop:=λxs H Q=>∃x d,xs=[x]/\Dp K H x d/\BP d=true/\Q (.str d.shown) H
theorem oA {X:Cx}(hG:X.A.guards=some [])(hu:X.A.units+64<cLine):CallR X (.builtin "repr") (E8 X.K):=by
 intro pins s σ H xs us Q I r h
 obtain⟨x,d,rfl,hd,ok,q⟩:=h
 unfold BP at ok
 obtain⟨ok1,ok2⟩:=KaG.mp ok
 obtain⟨ok3,ok4⟩:=KaG.mp ok1
 have dg:=of_decide_eq_true ok2
 have Tf:=of_decide_eq_true ok4
 obtain⟨sh,nd⟩:=pY d ok3
 have hlen:d.shown.length<=sizeLine:=Kau (Kau (pW d ok3) Tf) (by decide)
 obtain⟨u,rfl,rx⟩:=vals1 r
 obtain⟨as,rr⟩:=Dp.reads I d x u hd rx
 cases hd with
 |non=>
  cases (show u=Value.none from rx)
  refine PySem.P.repr_of_none ⟨.str _,H,I.tok _,⟨_,rfl⟩,?_⟩
  simpa only [PyData.shown] using q
 |bl b=>
  cases (show u=Value.bool b from rx)
  refine PySem.P.repr_of_bool ⟨.str _,H,I.tok _,⟨_,rfl⟩,?_⟩
  simpa only [PyData.shown] using q
 |int i=>
  obtain⟨t,rfl⟩:=rx
  refine PySem.P.repr_of_int ?_ ⟨.str _,H,I.tok _,⟨_,rfl⟩,?_⟩
  ·simpa [PyData.showable] using sh
  ·simpa only [PyData.shown] using q
 |str x=>
  obtain⟨t,rfl⟩:=rx
  refine PySem.P.repr_of_str (x:=x) ⟨.str _,H,I.tok _,⟨_,rfl⟩,?_⟩ ?_
  ·simpa only [PyData.shown] using q
  ·simpa only [PyData.shown] using hlen
 |@lst a xs ds e ee=>
  cases (show u=Value.ref a from rx)
  exact repr_of_reads' rr sh (PyData.noDict_hsm nd) hG (by omega) (λ_ _ e=>e) (λh' u tk hk=>⟨.str _,H,I.kept (t':=tk) hk,⟨_,rfl⟩,q⟩) hlen
 |@tup a xs ds e ee=>
  cases (show u=Value.ref a from rx)
  exact repr_of_reads' rr sh (PyData.noDict_hsm nd) hG (by omega) (λ_ _ e=>e) (λh' u tk hk=>⟨.str _,H,I.kept (t':=tk) hk,⟨_,rfl⟩,q⟩) hlen
def Fd:List PyData->Option Vl
 |[d]=>if BP d=true then some (.str d.shown,true) else none
 |_=>none
def X6 (a:SE):SE:=uP (λK=>E8 K) Fd (by
 intro K F H xs ds as z Q s r h q
 unfold Fd at h
 split at h
 ·rename_i d
  split at h
  ·rename_i ok
   cases h
   cases r with
   |cons r rr=>
    cases rr
    exact⟨_,d,rfl,(r.mono s).dp (EB ok),ok,q.here (z:=(.str _,true)) s (.str _) .nil⟩
  ·cases h
 ·cases h) (.cons a .nil)
/-- texts Q2 -/
def SE.neS:SE->SE->SE:=oU (λ_=>rNe) (λd e=>match d,e with|.str x,.str y=>some (.bool (!decide (x=y)),true)|_,_=>none) (by
 intro K F H x y d e as bs z Q s r1 r2 h q
 dsimp only at h
 split at h
 ·rename_i a b
  cases h
  rw [r1.str_inv,r2.str_inv]
  refine⟨rfl,?_⟩
  have e:decide (V.str a=V.str b)=decide (a=b):=by
   by_cases z:a=b
   ·subst z;simp
   ·rw [decide_eq_false z,decide_eq_false (λw=>z (V.str.inj w))]
  rw [e]
  exact q.here (z:=(.bool _,true)) s (.bl _) .nil
 ·cases h)
def SE.RK:SE->SE->SE:=oU (λ_=>rEq) (λd e=>match d,e with|.str x,.str y=>some (.bool (decide (x=y)),true)|_,_=>none) (by
 intro K F H x y d e as bs z Q s r1 r2 h q
 dsimp only at h
 split at h
 ·rename_i a b
  cases h
  rw [r1.str_inv,r2.str_inv]
  refine⟨rfl,?_⟩
  have e:decide (V.str a=V.str b)=decide (a=b):=by
   by_cases z:a=b
   ·subst z;simp
   ·rw [decide_eq_false z,decide_eq_false (λw=>z (V.str.inj w))]
  rw [e]
  exact q.here (z:=(.bool _,true)) s (.bl _) .nil
 ·cases h)
def gql:PyData->Bool
 |.list _=>true
 |_=>false
/-- xs[::-1] -/
def SE.rev (a:SE):SE where
 t:=λK=>tRevL K (a.t K)
 ev:=λρ s=>(a.ev ρ s).bind λx=>match x.1.1 with
  |.list ds=>some ((.list ds.reverse,gv ds.reverse),x.2)
  |_=>none
 ok:=by
  intro K sk F H σ ρ aj s vl s' Q p h q
  obtain⟨⟨⟨x,fl⟩,s1⟩,h1,h2⟩:=aL h
  dsimp only at h2
  split at h2
  ·rename_i ds
   cases h2
   refine a.ok K p h1 λv F1 H1 as st k r f=>?_
   obtain⟨b,xs,cs,rfl,ha,hr,hz⟩:=r.aC
   refine⟨b,xs,rfl,.inl (.inl (st.sub' _ _ ha)),λpp np=>?_⟩
   have bqR:∃bs,ah F1 xs.reverse ds.reverse bs:=by
    clear ha r f h h1 q hz
    induction ds generalizing xs cs with
    |nil=>cases hr;exact⟨[],.nil⟩
    |cons d ds ih=>
     cases hr with
     |cons r1 r2=>
      obtain⟨bs,h⟩:=ih _ _ r2
      rw [KcI,KcI]
      exact⟨_,h.app (.cons r1 .nil)⟩
   obtain⟨bs,hb⟩:=bqR
   have sa:br F1 H1 (L2.upd F1 pp (.lst xs.reverse)) (L2.upd H1 pp (.lst xs.reverse)):=.alloc st.sub' np
   refine q _ _ _ (pp::bs) (st.trans sa.any) (k.keep sa) (.lst upd_same (hb.mono sa.sub)) λe=>?_
   rw [hb.aB e]
   refine⟨by simp,λc m=>?_⟩
   have:c=pp:=by simpa using m
   subst this
   cases hq:H c with
   |none=>rfl
   |some u=>exact absurd np (st.dm c (by rw [hq];exact nofun))
  ·cases h2
/-- xs.clear() -/
def SS.clear (i:Nat):SS where
 t:=λK=>tDrop (tBM0 K "list" rClear (tVar i))
 ev:=λρ s=>match ρ[i]? with
  |some (.aS ds o)=>some (.nx (ρ.set i (.aS [] o)) s)
  |_=>none
 ok:=by
  intro K sk F0 H0 F H σ ρ aj s out D w h q
  dsimp only at h
  split at h
  ·rename_i ds o cS
   cases h
   obtain⟨xv,fp,e1,e2,a,vs,as,rfl,hH,hF,r,rfl⟩:=w.slots.get cS
   refine⟨.ref a,e1,.inl ⟨rfl,vs,.inl (.inl hH)⟩,a,vs,rfl,rfl,hH,?_⟩
   have fa:a∈aj.flatten:=Kaw.mpr ⟨_,Kaq e2,Kaa⟩
   obtain⟨a0,a1,a2⟩:=w.cu a fa
   obtain⟨n1,n2⟩:=Aj w.fO e2
   have n3:=Kag.mp n1
   have na:a∉(aj.set i []).flatten:=λm=>n3.2.2 a Kaa a m rfl
   have nd:([a]++(aj.set i []).flatten).Nodup:=Kag.mpr ⟨by simp,n3.2.1,λx hx y hy z=>by
    have:x=a:=by simpa using hx
    subst this;subst z
    exact na hy⟩
   obtain⟨m1,m2⟩:=x8 (i:=i) nd
   rw [Kaz] at m1 m2
   have BR:∀b,H b≠none->L2.upd H a (.lst []) b≠none:=λb h=>by
    by_cases z:b=a
    ·rw [z,upd_same];exact nofun
    ·rw [upd_ne z];exact h
   have st':Step sk F0 H0 F (L2.upd H a (.lst [])):=by
    refine⟨w.st.sub,λb u e=>?_,λb u hb e hs=>?_,λb h=>BR b (w.st.dm b h),w.st.new⟩
    ·rw [upd_ne (λz=>by rw [z,hF] at e;cases e)];exact w.st.sub' b u e
    ·rw [upd_ne (λz=>by rw [z,a0] at e;cases e)];exact w.st.fr b u hb e
   have iQ:bw sk F (L2.upd H a (.lst [])) s:=⟨λb e=>⟨by rw [upd_ne (λz=>a2 (by rw [<-z];exact e))];exact (w.bj b e).1,(w.bj b e).2⟩,RP w.bj.tab hH⟩
   have sl:=((w.slots.drop (i:=i)).Bm (a:=a) (o:=.lst []) na).fill (sl:=.aS [] o) (fp:=[a]) e1 ⟨a,[],[],rfl,upd_same,hF,.nil,by cases o <;> rfl⟩
   rw [Kaz,Kaz] at sl
   refine q F _ σ (aj.set i [a]) (Same.refl _) ⟨st',iQ,sl,m1,λb m=>?_⟩
   rcases m2 b m with z|z
   ·have:b=a:=by simpa using z
    subst this
    exact⟨a0,BR b a1,a2⟩
   ·have:=w.cu b (iH.mem z)
    exact⟨this.1,BR b this.2.1,this.2.2⟩
  ·cases h
end Pu
namespace Pu
variable [aO]
open PySem PySem.Spec PyProof.Rows L2
structure vX (P:Program)(w:World)(K:Frag)(mg:Str->Option Value)(base:Heap)(k:Nat)(f:Addr)(fd:FuncData)(ps:List Str)(sp:Sp):Prop where
 len:∀vs H Q,sp vs H Q E0->vs.length=ps.length
 go:∀(A:Around) (outer:List Env) (s:Shared) (H:Hp) (args:Args) (us:List Value) (vs:List V) (Q:VK),A.guards=some []->Room k A->Env0 P w K mg base A outer s H->BindsTo s fd args (ps.zip us)->Vals vs us->sp vs H Q E0 ->
  codeAny (model P w) A (.call (.ref f) args) (CR CX0 outer P w H s Q E0) s
section
variable {P:Program}{w:World}{K:Frag}{mg:Str->Option Value}{base:Heap}{x:Str}{st:Stmt}{f:Addr}{fd:FuncData}{N ps:List Str}{k:Nat}{sp:Sp}
/-- a def by its body,in a quiet place -/
theorem vX.body (F:iF K x st f fd)(S:FnScope N ps (defScope st))(len:∀vs H Q,sp vs H Q E0->vs.length=ps.length)
  (hbody:∀(cdv:Value) (A:Around) (outer:List Env) (s:Shared) (H:Hp) (vs:List V) (Q:VK),A.guards=some []->Room k (A.deeper (envOfC x (defScope st) s.heap.objs.size f cdv))->sp vs H Q E0 ->
   ∃t,PSs (cxOf CX0 P w K mg base N x (defScope st) f cdv A outer s H E0) (defBody st) t/\t { nx:=λ_ H'=>Q .non H',rt:=Q } (L2.start N vs) H):
  vX P w K mg base (k+1) f fd ps sp:=by
 obtain⟨c0,c1,c2,c3,c4,c5,c6,cdv,c7,c8,e,lk,hcd,_,_⟩:=F.ex
 subst e
 refine⟨len,λA outer s H args us vs Q hG hr e0 hb hv hs=>?_⟩
 obtain⟨t,ht,hq⟩:=hbody cdv A outer s H vs Q hG (hr.deeper _) hs
 have G0:K.In s.heap:=e0.mod.kin.keeps λb o z=>(e0.bs b o z).1
 refine codeAny_call_function hr.depth (G0 _ _ lk) rfl S.co S.gen rfl (PySem.W.codeRec_of G0 hcd) (hb _ _ _ _ ?_)
 refine wpAny_newFunctionEnv_cells S.kind (λy hy=>?_) λenv he s1 ic=>?_
 ·have hp:=S.par y.1 (List.of_mem_zip hy).1
  exact hp.imp id λz=>⟨z,PySem.W.cellsFrom_some _ _ _ (.inl z)⟩
 ·subst he
  have lim:=(e0.mod.nolimit.keeps λb o z=>(e0.bs b o z).1).keeps ic.toInCall.keep
  refine⟨lim,codeAny_func ?_⟩
  have I0:=inv_start (CX:=CX0) (E:=E0) (cd:=cdv) (f:=f) (qual:=x) S hr.hd e0 (len _ _ _ hs) hv ic
  refine wpAny_mono (ht.run [] s1 _ H _ I0 hq) (λfl s' hz=>?_) λ_ _ z=>z
  cases fl with
  |brk=>exact hz.choose_spec.choose_spec.2.elim
  |cont=>exact hz.choose_spec.choose_spec.2.elim
  |next=>
   obtain⟨σ',H',J,z⟩:=hz
   exact⟨.non,H',J.os,J.bare,J.base,J.hok,rfl,z⟩
  |ret u=>
   obtain⟨v,σ',H',J,rv,z⟩:=hz
   exact⟨v,H',J.os,J.bare,J.base,J.hok,rv,z⟩
theorem Ls {np nl:Nat}{b:SS}(F:iF K x st f fd)(S:FnScope N ps (defScope st))(hp:ps.length=np)(hN:N.length=np+nl)
  (yx:∀(cdv:Value) (A:Around) (outer:List Env) (s:Shared) (H:Hp),(A.deeper (envOfC x (defScope st) s.heap.objs.size f cdv)).guards=some []->Room k (A.deeper (envOfC x (defScope st) s.heap.objs.size f cdv)) ->
   ∃t,PSs (cxOf CX0 P w K mg base N x (defScope st) f cdv A outer s H E0).nox (defBody st) t/\t=b.t K):
  vX P w K mg base (k+1) f fd ps (bx (fnOf np nl b)):=
 vX.body F S (λvs H Q h=>gzu hp vs H Q E0 h) λcdv A outer s H vs Q hG hr h=>by
  obtain⟨t,ht,rfl⟩:=yx cdv A outer s H hG hr
  exact⟨b.t K,PSs.nox ht,gqg hN h⟩
end
section
variable {X:Cx}{k:Nat}{f:Addr}{fd:FuncData}{ps ks:List Str}{sp:Sp}{x:Str}{p pos:Pos}{e:Expr}{es:List Expr}{kws:List Keyword}{t:TA}
theorem CP {pins:List (Addr×Obj)}{σ:L2.St}{H:Hp}{s:Shared}{Q:VK}(I:Inv X pins σ H s)(r:Result)(s':Shared)(h:CR CX0 X.stack X.prog X.w H s Q E0 r s'):callEnd (EP X pins σ Q) X.xe r s':=by
 cases r with
 |error e=>exact h.elim
 |ok fl=>cases fl <;> first|exact I.after h|exact False.elim h
/-- f(e,..) -/
theorem R5 (F:vX X.prog X.w X.K X.mg X.base k f fd ps sp)(hG:X.A.guards=some [])(hr:Room k X.A)(hg:Gl X x)(hm:X.mg x=some (.ref f))(hk:PySem.W.keepIn X.K (.ref f)=true)(hb:Binds X.K fd ps [])
  (ha:PA X (e::es) t) (hdb:(x == ("__debug__" : Str))=false:=by decide) (he:starEach (e::es) X.env=(false,eval e X.env)::starEach es X.env:=by rfl) (hpl:(backTo pos (starEach es X.env)).any (·.1)=false:=by rfl):
  PE X (.Call (.Name x p) (e::es) [] pos) (tCall sp [] E0 t):=by
 constructor
 intro pins s σ H Q I h
 refine wpAny_Call_Name_kw (ld_glob I hg hm (PySem.W.callWith_K (h₀:=X.base) I.ok.mod.kin hk (thn (ha.run pos pins s σ H _ I h) ?_) he hpl) hdb)
 rintro us s1 ⟨vs,H1,I1,r,q⟩
 have q':sp vs H1 Q E0:=by rw [KaC] at q;exact q
 have hl:us.length=ps.length:=by rw [<-r.length];exact F.len _ _ _ q'
 have bt:=hb s1 us I1.kIn (by rw [KaC];exact hl)
 rw [KaC] at bt
 exact⟨I1.kIn,wpAny_call (codeAny_mono (F.go X.A X.stack s1 H1 ⟨us,[]⟩ us vs Q hG hr I1.env0 bt r q') (CP I1))⟩
/-- f(k=v,..): all by keywords;g: in bh vn order -/
def tCallN (sp:Sp)(g:List V->List V)(t:TA):TE:=λσ H Q=>t σ H λzs H1=>sp (g zs) H1 Q E0
end
/-- f(k=v,..) as a CK: bh values in bh written order,then put in bh vn order -/
def SE.QW (m:Fn)(gS:List Slot->List Slot)(gV:List V->List V)(hg:∀{sk:Option Addr} {F H:Hp} {vs:List V} {sl:List Slot},Slots sk F H (vs.map some) sl (kh sl)->Slots sk F H ((gV vs).map some) (gS sl) (kh (gS sl)))(a:SR):SE where
 t:=λK=>tCallN (bx m) gV (a.t K)
 ev:=λρ s=>(a.ev ρ s).bind λx=>m (gS x.1) x.2
 ok:=by
  intro K sk F H σ ρ aj s vl s' Q p h q
  obtain⟨⟨y,s1⟩,h1,h⟩:=aL h
  refine a.ok K p h1 λvs F1 H1 st1 k1 sl=>?_
  refine⟨sk,F1,gS y,s1,vl,s',st1.sub',k1,hg sl,h,λv F2 H2 as st2 k2 r2 f2=>?_⟩
  exact q v F2 H2 as (st1.trans st2) k2 r2 (f2.back st1.dm)
def sw2 {α:Type}:List α->List α
 |[a,b]=>[b,a]
 |_=>[]
def sw3 {α:Type}:List α->List α
 |[a,b,c]=>[c,b,a]
 |_=>[]
end Pu
namespace Pu
open PySem PySem.Spec PyProof.Rows L2
/-- what is wanted behind it -/
def Good (h:Heap)(os:OsState)(r:Result)(s':Shared):Prop:=r=.ok (.ret (.bool true))/\OldK h s'.heap/\s'.os=os/\AllBare s'.gens
section
variable {P:Program}{w:World}{K:Frag}{mg mb:Str->Option Value}{k:Nat}{fa a:Addr}{fd:FuncData}{x:Str}{sp:Sp}{s1:Shared}{vs:List Value}{ns:List Int}
/-- bh tracked heap: nothing,or bh script alone -/
theorem uY (T:Hp)(hT:∀b,T b=none∨(b=a/\∃o xs,T b=some (.frz o (.lst xs))))(hok:HOk P w T s1.heap)(hK:T a≠none->K.lookup a=none)
  (G0:K.In s1.heap) (hns:s1.heap.Ns mainGlobals mg) (hbn:s1.heap.Ns builtinsNs mb) (hbb:∀y:Str,y ≠ "__name__" -> mb y=bootBuiltins y) (hlim:s1.heap.NoLimit) (hg:s1.gens=#[])
  (ha:s1.heap.get? a=some { cls:=.type "list",data:=.seq vs.toArray }) (hr:Room k callerA)
  (F:∀base:Heap,K.In base->base.Ns mainGlobals mg->vX P w K mg base k fa fd [x] sp) (hbind:∀(s:Shared) (u:Value),BindsTo s fd ⟨[u],[]⟩ [(x,u)])
  (hsp:sp [.ref a] T (λv _=>v=.bl true) E0):codeAny (model P w) callerA (.call (.ref fa) ⟨[.ref a],[]⟩) (Good s1.heap s1.os) s1:=by
 have free:∀{b:Addr} {o:Obj} {es:Array DictEntry} {ep:Nat},s1.heap.get? b=some o->o.data=.dict es ep->T b=none:=by
  intro b o es ep e d
  rcases hT b with z|⟨rfl,_⟩
  ·exact z
  ·rw [ha] at e
   cases e
   cases d
 have Yg:∀{b:Addr} {m:Str->Option Value},s1.heap.Ns b m->(hidT s1.heap T).Ns b m:=by
  rintro b m ⟨o,es,ep,e,d,r⟩
  exact⟨o,es,ep,hidT_get e (free e d),d,r⟩
 have in2:K.In (hidT s1.heap T):=by
  intro b o e
  refine hidT_get (G0 b o e) ?_
  rcases hT b with z|⟨rfl,z⟩
  ·exact z
  ·obtain⟨o2,xs,z⟩:=z
   have:=hK (by rw [z];exact nofun)
   rw [this] at e
   cases e
 have bq4:(hidT s1.heap T).NoLimit:=by
  obtain⟨mc,h1,h2⟩:=hlim
  exact⟨mc,Yg h1,h2⟩
 have md:Mod K mg (hidT s1.heap T):=⟨in2,Yg hns,⟨mb,Yg hbn,hbb⟩,bq4⟩
 have e0:Env0 P w K mg (hidT s1.heap T) callerA [] s1 T:=by
  constructor
  ·rfl
  ·exact md
  ·exactλb o e=>of_hidT e
  ·exact Nat.le_of_eq (hidT_size _ _)
  ·exact trivial
  ·intro b hb;cases hb
  ·exact hok
  ·exact .of_eq hg
 refine codeAny_mono ((F _ in2 (Yg hns)).go callerA [] s1 T ⟨[.ref a],[]⟩ [.ref a] [.ref a] _ rfl hr e0 (hbind s1 (.ref a)) (.cons rfl .nil) hsp) ?_
 intro r s' h
 match r,h with
 |.ok (.ret u),⟨v,H',os,bare,un,bqO,rv,q⟩=>
  have q:v=.bl true:=q
  subst q
  have rv:u=Value.bool true:=rv
  subst rv
  refine⟨rfl,OldK.of_keep λb o e=>?_,os,bare⟩
  rcases hT b with z|⟨_,ob,xs,z⟩
  ·exact un.keep b o e z (λm=>by cases m) (λm=>by cases m)
  ·have g1:=(hok b _ z).1
   have g2:=(bqO b _ (un.frzs b ob _ z)).1
   rw [e] at g1
   rw [g2,g1]
theorem AV (G0:K.In s1.heap)(hns:s1.heap.Ns mainGlobals mg)(hbn:s1.heap.Ns builtinsNs mb)(hbb:∀y:Str,y ≠ "__name__" -> mb y=bootBuiltins y)(hlim:s1.heap.NoLimit)(hg:s1.gens=#[])
  (ha:s1.heap.get? a=some { cls:=.type "list",data:=.seq vs.toArray }) (hi:IntsAre vs ns) (hl:ns.length<=sizeLine) (hr:Room k callerA)
  (F:∀base:Heap,K.In base->base.Ns mainGlobals mg->vX P w K mg base k fa fd [x] sp) (hbind:∀(s:Shared) (u:Value),BindsTo s fd ⟨[u],[]⟩ [(x,u)])
  (hsp:∀T:Hp,SqL K T a (ns.map V.int)->sp [.ref a] T (λv _=>v=.bl true) E0):codeAny (model P w) callerA (.call (.ref fa) ⟨[.ref a],[]⟩) (Good s1.heap s1.os) s1:=by
 have rv:=vals_ints hi
 have hlen:(ns.map V.int).length<=sizeLine:=by rw [Kaf];exact hl
 cases hk:K.lookup a with
 |some o=>
  have e:=G0 a o hk
  rw [ha] at e
  cases e
  refine uY (λ_=>none) (λ_=>.inl rfl) (λb u z=>by cases z) (λz=>absurd rfl z) G0 hns hbn hbb hlim hg ha hr F hbind (hsp _ (.inr ?_))
  refine⟨_,vs.toArray,_,hk,rfl,rfl,rfl,?_,?_⟩
  ·rw [Kdm,<-rv.length];exact hlen
  ·simpa using rv
 |none=>
  let T:Hp:=λb=>if b=a then some (.frz { cls:=.type "list",data:=.seq vs.toArray } (.lst (ns.map V.int))) else none
  have Ta:T a=some (.frz { cls:=.type "list",data:=.seq vs.toArray } (.lst (ns.map V.int))):=if_pos rfl
  have Tb:∀{b},b≠a->T b=none:=λh=>if_neg h
  refine uY T (λb=>?_) (λb u z=>?_) (λ_=>hk) G0 hns hbn hbb hlim hg ha hr F hbind (hsp T (.inl (.inr ⟨_,Ta⟩)))
  ·by_cases e:b=a
   ·subst e;exact .inr ⟨rfl,_,_,Ta⟩
   ·exact .inl (Tb e)
  ·by_cases e:b=a
   ·subst e
    rw [Ta] at z
    cases z
    exact⟨ha,hlen,vs,_,rv,ha⟩
   ·rw [Tb e] at z;cases z
end
/-- a law whose def is walked in a quiet place -/
theorem U8 {l:PySem.W.OpenLaw}{n k:Nat}{q:Program}{loose:List Str}{XP:(Str->Option Value)->Heap->Prop}{YP:World->Heap->Prop}{d:DefRec}{x:Str}(hn:l.most=some n)(hn2:n<=sizeLine)(hdf:d.params.defaults=[])(hr:Room k callerA)
  (F:∀(w:World) (mg:Str->Option Value) (fa:Addr) (h:Heap),YP w h->h.Ns mainGlobals mg->mg d.name=some (.ref fa) ->
   ∃(K:Frag) (fd:FuncData) (sp:Sp),K.In h/\(∀(s:Shared) (u:Value),BindsTo s fd ⟨[u],[]⟩ [(x,u)]) /\
    (∀(T:Hp) (a:Addr) (ns:List Int),ns.length<=n->SqL K T a (ns.map V.int)->sp [.ref a] T (λv _=>v=.bl true) E0) /\
    ∀base:Heap,K.In base->base.Ns mainGlobals mg->vX l.prog w K mg base k fa fd [x] sp):
  PySem.W.WalkO q loose XP YP l.row.toRowW d [] (λf vs=>PySem.call f vs):=by
 refine Att.attach_call hn hdf ?_
 intro w s0 s1 mg mb fa o pm cd doc a vs ns G Y ho hd hcd hmg hobj hints hlen hg
 obtain⟨K,fd,sp,G0,hb,hsp,hF⟩:=F w mg fa _ Y G.T.g hmg
 exact AV G0 G.T.g G.T.b G.T.builtins G.T.nolimit hg hobj hints (Kau hlen hn2) hr hF hb λT hS=>hsp T a ns hlen hS
variable [aO]
def vM (s:ae):Int->Option Int
 |0=>some s.1
 |1=>some s.2.1
 |2=>some s.2.2
 |_=>none
theorem Fx {s:ae}{j z:Int}(h:vM s j=some z):atI (jP s) j=some (.int z):=by
 unfold vM at h
 split at h
 ·cases h;rfl
 ·cases h;rfl
 ·cases h;rfl
 ·cases h
def pX (s:ae)(z:Int):Int->Option ae
 |0=>some (z,s.2.1,s.2.2)
 |1=>some (s.1,z,s.2.2)
 |2=>some (s.1,s.2.1,z)
 |_=>none
theorem Fy {s s':ae}{j z:Int}(h:pX s z j=some s'):∃n,ixN (jP s).length j=some n/\(jP s).set n (.int z)=jP s':=by
 unfold pX at h
 split at h
 ·cases h;exact⟨0,rfl,rfl⟩
 ·cases h;exact⟨1,rfl,rfl⟩
 ·cases h;exact⟨2,rfl,rfl⟩
 ·cases h
def GW (i:Nat)(j:Int):SE where
 t:=λK=>tOp (rIx K) (tVar i) (tC (.int j))
 ev:=λρ s=>match ρ[i]? with
  |some .bU=>(vM s j).map λz=>((.int z,true),s)
  |_=>none
 ok:=by
  intro K sk F H σ ρ aj s vl s' Q p h q
  dsimp only at h
  split at h
  ·rename_i e
   obtain⟨z,h1,h2⟩:=Kan.mp h
   cases h2
   obtain⟨x,fp,e1,e2,_,a,rfl,e4⟩:=p.slots.get e
   obtain⟨k1,k2⟩:=p.bj a e4
   exact⟨.ref a,e1,.inl ⟨a,_,j,_,rfl,rfl,.inl (.inl k1),Fx h1,q _ F H [] (.refl p.sub) p.bj (.int _) .nil⟩⟩
  ·cases h
def Tq (i:Nat)(j:Int)(e:SE):SS where
 t:=λK=>tAsg (e.t K) (gSub (tVar i) (tC (.int j)) rSetL)
 ev:=λρ s=>(e.ev ρ s).bind λx=>match x.1.1,ρ[i]? with
  |.int z,some .bU=>(pX x.2 z j).map λs'=>.nx ρ s'
  |_,_=>none
 ok:=by
  intro K sk F0 H0 F H σ ρ aj s out D w h q
  obtain⟨⟨⟨x,fl⟩,s1⟩,h1,h2⟩:=aL h
  dsimp only at h2
  split at h2
  ·rename_i z cS
   obtain⟨s',h3,h4⟩:=Kan.mp h2
   cases h4
   refine e.ok K w.pre h1 λv F1 H1 as st k r f=>?_
   obtain⟨x,fp,e1,e2,_,a,rfl,e4⟩:=w.slots.get cS
   have hv:=r.int_inv
   subst hv
   obtain⟨k1,k2⟩:=k a e4
   obtain⟨n,p1,p2⟩:=Fy h3
   refine⟨.ref a,e1,a,_,j,n,rfl,rfl,k1,p1,?_⟩
   rw [p2]
   have w1:=w.next st k
   have na:a∉aj.flatten:=λm=>(w.cu a m).2.2 e4
   have dmm:∀b,H1 b≠none->L2.upd H1 a (.lst (jP s')) b≠none:=λb hb=>by
    by_cases zz:b=a
    ·rw [zz,upd_same];exact nofun
    ·rw [upd_ne zz];exact hb
   refine q F1 _ σ aj st.sub ⟨⟨w1.st.sub,λb u e=>?_,λb u hb e hs=>?_,λb hb=>dmm b (w1.st.dm b hb),w1.st.new⟩,⟨λb e=>?_,RP k.tab k1⟩,w1.slots.Bm na,w1.fO,λb m=>⟨(w1.cu b m).1,dmm b (w1.cu b m).2.1,(w1.cu b m).2.2⟩⟩
   ·rw [upd_ne (λzz=>by rw [zz,k2] at e;cases e)];exact w1.st.sub' b u e
   ·rw [upd_ne (λzz=>hb (by rw [zz];exact e4))];exact w1.st.fr b u hb e
   ·rw [e4] at e
    have ee:a=b:=Option.some.inj e
    subst ee
    exact⟨upd_same,k2⟩
  ·cases h2
/-- isinstance(x,list) -/
def XN (e:SE):SE where
 t:=λK=>tCB (rIsi K) (tCons (e.t K) (tCons (tC (.ty "list")) tNil))
 ev:=λρ s=>(e.ev ρ s).bind λx=>match x.1.1 with
  |.dict _=>none
  |d=>some ((.bool (gql d),true),x.2)
 ok:=by
  intro K sk F H σ ρ aj s vl s' Q p h q
  obtain⟨⟨⟨x,fl⟩,s1⟩,h1,h2⟩:=aL h
  dsimp only at h2
  refine e.ok K p h1 λv F1 H1 as st k r f=>?_
  cases r with
  |non=>
   cases h2
   exact⟨_,.ty "list",.type "NoneType",.type "list",false,rfl,.ty _,.base .non,kit_ty (by decide +kernel),q _ F1 H1 [] st k (.bl _) .nil⟩
  |bl b=>
   cases h2
   exact⟨_,.ty "list",.type "bool",.type "list",false,rfl,.ty _,.base (.bl b),kit_ty (by decide +kernel),q _ F1 H1 [] st k (.bl _) .nil⟩
  |int i=>
   cases h2
   exact⟨_,.ty "list",.type "int",.type "list",false,rfl,.ty _,.base (.int i),kit_ty (by decide +kernel),q _ F1 H1 [] st k (.bl _) .nil⟩
  |str y=>
   cases h2
   exact⟨_,.ty "list",.type "str",.type "list",false,rfl,.ty _,.base (.str y),kit_ty (by decide +kernel),q _ F1 H1 [] st k (.bl _) .nil⟩
  |lst ha hr=>
   cases h2
   exact⟨_,.ty "list",.type "list",.type "list",true,rfl,.ty _,.base (.lst (st.sub' _ _ ha)),kit_ty (by decide +kernel),q _ F1 H1 [] st k (.bl _) .nil⟩
  |tup ha hr=>
   cases h2
   exact⟨_,.ty "list",.type "tuple",.type "list",false,rfl,.ty _,.base (.tup (st.sub' _ _ ha)),kit_ty (by decide +kernel),q _ F1 H1 [] st k (.bl _) .nil⟩
  |tupP ha hc hr=>cases h2
  |jA ha hc hr=>cases h2
  |lI ha hc hk hr=>cases h2
  |lE ha hc hr=>cases h2
/-- a bq1 step: called with its cqJ alone -/
theorem Bj {m:Fn}{H:Hp}{p:Addr}{s s':ae}{b fl:Bool}{Q:VK}{E:XK}(hp:H p=some (.lst (jP s)))(hT:ow H)(hm:m [.bU] s=some ((.bool b,fl),s'))(q:∀H',(∀a o,a≠p->H a=some o->um o->H' a=some o)->H' p=some (.lst (jP s'))->ow H'->Q (.bl b) H'):bx m [.ref p] H Q E:=by
 refine⟨some p,λ_=>none,[.bU],s,(.bool b,fl),s',λa o e=>(by cases e),⟨λa e=>?_,hT⟩,.cons ⟨rfl,p,rfl,rfl⟩ .nil,hm,λv F' H' as st k r f=>?_⟩
 ·cases e;exact⟨hp,rfl⟩
 ·rw [r.bool_inv]
  exact q H' (λa o hne e hs=>st.fr a o (λz=>hne (Option.some.inj z).symm) e hs) (k p rfl).1 k.tab.low
end Pu
namespace Pu
variable [aO]
open PySem L2
section
variable {ρ:List Slot}{s:ae}{a b c:SE}{i j k:Nat}
@[simp] theorem gjs:(ak i).ev ρ s=(match ρ[i]? with|some (.dat d)=>some ((d,false),s)|some (.own d)=>some ((d,false),s)|_=>none):=rfl
@[simp] theorem Ed {n:Int}:(SE.ac n).ev ρ s=some ((.int n,true),s):=rfl
@[simp] theorem Hv {n:Bool}:(SE.bool n).ev ρ s=some ((.bool n,true),s):=rfl
@[simp] theorem EI:SE.non.ev ρ s=some ((.none,true),s):=rfl
@[simp] theorem gxl:SA.nil.ev ρ s=some ([],s):=rfl
@[simp] theorem MD {r:SA}:(SA.cons a r).ev ρ s=(a.ev ρ s).bind λx=>(r.ev ρ x.2).bind λy=>some (x.1::y.1,y.2):=rfl
@[simp] theorem FO {r:SA}:(SE.tup r).ev ρ s=(r.ev ρ s).bind λx=>if x.1.length<=100000 then some ((.tuple (x.1.map (·.1)),x.1.all λz=>z.2 ||aB z.1),x.2) else none:=rfl
@[simp] theorem Es {r:SA}:(SE.lst r).ev ρ s=(r.ev ρ s).bind λx=>if x.1.length<=100000 then some ((.list (x.1.map (·.1)),x.1.all λz=>z.2 ||aB z.1),x.2) else none:=rfl
@[simp] theorem RJ {f:Int->Int->Option PyData}{x y:Int}:gQ f (.int x) (.int y)=(f x y).map λz=>(z,true):=rfl
@[simp] theorem LL:(gZ a b).ev ρ s=(a.ev ρ s).bind λx=>(b.ev ρ x.2).bind λy=>(gQ (λi j=>some (.int (i+j))) x.1.1 y.1.1).bind λz=>some (z,y.2):=rfl
@[simp] theorem N2:(uO a b).ev ρ s=(a.ev ρ s).bind λx=>(b.ev ρ x.2).bind λy=>(gQ (λi j=>some (.int (i-j))) x.1.1 y.1.1).bind λz=>some (z,y.2):=rfl
@[simp] theorem Nh:(GV a b).ev ρ s=(a.ev ρ s).bind λx=>(b.ev ρ x.2).bind λy=>(gQ (λi j=>if mL i j=true then some (.int (i*j)) else none) x.1.1 y.1.1).bind λz=>some (z,y.2):=rfl
@[simp] theorem Ig:(BS a b).ev ρ s=(a.ev ρ s).bind λx=>(b.ev ρ x.2).bind λy=>(gQ (λi j=>if mj i j=true then some (.int (i / j)) else none) x.1.1 y.1.1).bind λz=>some (z,y.2):=rfl
@[simp] theorem Nf:(yP a b).ev ρ s=(a.ev ρ s).bind λx=>(b.ev ρ x.2).bind λy=>(gQ (λi j=>if decide (0<j)=true then some (.int (i % j)) else none) x.1.1 y.1.1).bind λz=>some (z,y.2):=rfl
@[simp] theorem ND:(Iw a b).ev ρ s=(a.ev ρ s).bind λx=>(b.ev ρ x.2).bind λy=>(gQ (λi j=>if iE i j=true then some (.int (i ^ j.toNat)) else none) x.1.1 y.1.1).bind λz=>some (z,y.2):=rfl
@[simp] theorem T9:(tX a b).ev ρ s=(a.ev ρ s).bind λx=>(b.ev ρ x.2).bind λy=>(gQ (λi j=>some (.bool (decide (i<j)))) x.1.1 y.1.1).bind λz=>some (z,y.2):=rfl
@[simp] theorem T6:(SE.le a b).ev ρ s=(a.ev ρ s).bind λx=>(b.ev ρ x.2).bind λy=>(gQ (λi j=>some (.bool (decide (i<=j)))) x.1.1 y.1.1).bind λz=>some (z,y.2):=rfl
@[simp] theorem Ss:(SE.gt a b).ev ρ s=(a.ev ρ s).bind λx=>(b.ev ρ x.2).bind λy=>(gQ (λi j=>some (.bool (decide (j<i)))) x.1.1 y.1.1).bind λz=>some (z,y.2):=rfl
@[simp] theorem Si:(SE.ge a b).ev ρ s=(a.ev ρ s).bind λx=>(b.ev ρ x.2).bind λy=>(gQ (λi j=>some (.bool (decide (j<=i)))) x.1.1 y.1.1).bind λz=>some (z,y.2):=rfl
@[simp] theorem ED:(SE.ar a).ev ρ s=(a.ev ρ s).bind λx=>(match x.1.1 with|.int i=>some (.int (-i),true)|_=>none:Option Vl).bind λz=>some (z,x.2):=rfl
@[simp] theorem RL:(hxc a b).ev ρ s=(a.ev ρ s).bind λx=>(b.ev ρ x.2).bind λy=>((GL x.1.1 y.1.1).map λb=>(.bool b,true)).bind λz=>some (z,y.2):=rfl
@[simp] theorem Ue:(SE.ne a b).ev ρ s=(a.ev ρ s).bind λx=>(b.ev ρ x.2).bind λy=>((GL x.1.1 y.1.1).map λb=>(.bool (!b),true)).bind λz=>some (z,y.2):=rfl
@[simp] theorem M6:(SE.TF a b).ev ρ s=(a.ev ρ s).bind λx=>(b.ev ρ x.2).bind λy=>(match y.1.1 with|.none=>some (.bool (BO x.1.1),true)|_=>none:Option Vl).bind λz=>some (z,y.2):=rfl
@[simp] theorem IY:(SE.cqC a b).ev ρ s=(a.ev ρ s).bind λx=>(b.ev ρ x.2).bind λy=>(match y.1.1 with|.none=>some (.bool (!BO x.1.1),true)|_=>none:Option Vl).bind λz=>some (z,y.2):=rfl
@[simp] theorem TJ:(jh a b).ev ρ s=(a.ev ρ s).bind λx=>(b.ev ρ x.2).bind λy=>(X7 x.1.1 y.1.1).bind λz=>some (z,y.2):=rfl
@[simp] theorem Nt:SO.no.ev ρ s=some (none,s):=rfl
@[simp] theorem EL:(SO.at a).ev ρ s=(a.ev ρ s).bind λx=>match x.1.1 with|.int i=>some (some i,x.2)|_=>none:=rfl
@[simp] theorem Fz {lo hi:SO}:(hxk a lo hi).ev ρ s=(a.ev ρ s).bind λx=>(lo.ev ρ x.2).bind λy=>(hi.ev ρ y.2).bind λw=>(Yk x.1.1 y.1 w.1).bind λz=>some (z,w.2):=rfl
@[simp] theorem NX {lo hi:SO}:(SE.slT a lo hi).ev ρ s=(a.ev ρ s).bind λx=>(lo.ev ρ x.2).bind λy=>(hi.ev ρ y.2).bind λw=>(JD x.1.1 y.1 w.1).bind λz=>some (z,w.2):=rfl
@[simp] theorem Kl {r:Frag->List V->Hp->VK->Prop}{f:List PyData->Option Vl}{hr:Vh r f}{x:SA}:(uP r f hr x).ev ρ s=(x.ev ρ s).bind λx=>(f (x.1.map (·.1))).bind λz=>some (z,x.2):=rfl
@[simp] theorem Na:(lu a).ev ρ s=((SA.cons a .nil).ev ρ s).bind λx=>(IK (x.1.map (·.1))).bind λz=>some (z,x.2):=rfl
@[simp] theorem Mi:(tW a b).ev ρ s=(a.ev ρ s).bind λx=>(b.ev ρ x.2).bind λy=>(HB x.1.1 y.1.1).bind λz=>some (z,y.2):=rfl
@[simp] theorem HC:(SE.YW a b).ev ρ s=(a.ev ρ s).bind λx=>(b.ev ρ x.2).bind λy=>(CU x.1.1 y.1.1).bind λz=>some (z,y.2):=rfl
@[simp] theorem NI:(SE.rep a b).ev ρ s=(a.ev ρ s).bind λx=>(b.ev ρ x.2).bind λy=>(NH x.1.1 y.1.1).bind λz=>some (z,y.2):=rfl
@[simp] theorem M5 {neg:Bool}:(SE.inn neg a b).ev ρ s=(a.ev ρ s).bind λx=>(b.ev ρ x.2).bind λy=>(inF neg x.1.1 y.1.1).bind λz=>some (z,y.2):=rfl
@[simp] theorem LK:(SE.abs a).ev ρ s=((SA.cons a .nil).ev ρ s).bind λx=>(match (x.1.map (·.1):List PyData) with|[.int i]=>some (.int (if i<0 then -i else i),true)|_=>none:Option Vl).bind λz=>some (z,x.2):=rfl
@[simp] theorem IM:(hxy a b).ev ρ s=((SA.cons a (.cons b .nil)).ev ρ s).bind λx=>(match (x.1.map (·.1):List PyData) with|[.int i,.int j]=>some (.int (max i j),true)|_=>none:Option Vl).bind λz=>some (z,x.2):=rfl
@[simp] theorem IQ:(PR a b).ev ρ s=((SA.cons a (.cons b .nil)).ev ρ s).bind λx=>(match (x.1.map (·.1):List PyData) with|[.int i,.int j]=>some (.int (min i j),true)|_=>none:Option Vl).bind λz=>some (z,x.2):=rfl
@[simp] theorem FJ:(yS a).ev ρ s=((SA.cons a .nil).ev ρ s).bind λx=>(yW (x.1.map (·.1))).bind λz=>some (z,x.2):=rfl
@[simp] theorem N3:(SE.sum a).ev ρ s=((SA.cons a .nil).ev ρ s).bind λx=>(GO (λns=>some (.int ns.sum,true)) (x.1.map (·.1))).bind λz=>some (z,x.2):=rfl
@[simp] theorem IP:(SE.bq5 a).ev ρ s=((SA.cons a .nil).ev ρ s).bind λx=>(GO (λns=>if ns=[] then none else some (.int (tF ns),true)) (x.1.map (·.1))).bind λz=>some (z,x.2):=rfl
@[simp] theorem IS:(X5 a).ev ρ s=((SA.cons a .nil).ev ρ s).bind λx=>(GO (λns=>if ns=[] then none else some (.int (pq ns),true)) (x.1.map (·.1))).bind λz=>some (z,x.2):=rfl
@[simp] theorem LP:(MY a).ev ρ s=((SA.cons a .nil).ev ρ s).bind λx=>(Pr (λns=>some (.bool (ns.all id),true)) (x.1.map (·.1))).bind λz=>some (z,x.2):=rfl
@[simp] theorem LR:(SE.any a).ev ρ s=((SA.cons a .nil).ev ρ s).bind λx=>(Pr (λns=>some (.bool (ns.any id),true)) (x.1.map (·.1))).bind λz=>some (z,x.2):=rfl
@[simp] theorem Bh:(SE.aw a).ev ρ s=((SA.cons a .nil).ev ρ s).bind λx=>(GO (λns=>some (.list ((sortI ns).map .int),true)) (x.1.map (·.1))).bind λz=>some (z,x.2):=rfl
@[simp] theorem AY:(PJ a).ev ρ s=((SA.cons a .nil).ev ρ s).bind λx=>(Er (x.1.map (·.1))).bind λz=>some (z,x.2):=rfl
@[simp] theorem AD:(PM a b).ev ρ s=((SA.cons a (.cons b .nil)).ev ρ s).bind λx=>(Zy (x.1.map (·.1))).bind λz=>some (z,x.2):=rfl
@[simp] theorem gqo:(K7 a b).ev ρ s=(a.ev ρ s).bind λx=>match x.1.1 with|.bool true=>b.ev ρ x.2|.bool false=>some ((.bool false,true),x.2)|_=>none:=rfl
@[simp] theorem Nv:(SE.orV a b).ev ρ s=(a.ev ρ s).bind λx=>match x.1.1 with|.bool false=>b.ev ρ x.2|.bool true=>some ((.bool true,true),x.2)|_=>none:=rfl
@[simp] theorem IZ:(SE.cqD a).ev ρ s=(a.ev ρ s).bind λx=>match x.1.1 with|.bool b=>some ((.bool (!b),true),x.2)|_=>none:=rfl
@[simp] theorem FT:(ST.ac a).ev ρ s=(a.ev ρ s).bind λx=>match x.1.1 with|.bool b=>some (b,x.2)|_=>none:=rfl
@[simp] theorem Sl:cN.ev ρ s=some (true,s):=rfl
@[simp] theorem gzl {x y:ST}:(wk x y).ev ρ s=(x.ev ρ s).bind λz=>if z.1=true then y.ev ρ z.2 else some (false,z.2):=rfl
@[simp] theorem FN {x y:ST}:(G1 x y).ev ρ s=(x.ev ρ s).bind λz=>if z.1=true then some (true,z.2) else y.ev ρ z.2:=rfl
@[simp] theorem zN {x:ST}:(K3 x).ev ρ s=(x.ev ρ s).bind λz=>some (!z.1,z.2):=rfl
@[simp] theorem Sv {x:ST}:(hxz x a b).ev ρ s=(x.ev ρ s).bind λz=>if z.1=true then a.ev ρ z.2 else b.ev ρ z.2:=rfl
@[simp] theorem Jr:SR.nil.ev ρ s=some ([],s):=rfl
@[simp] theorem vA {r:SR}:(SR.cons a r).ev ρ s=(a.ev ρ s).bind λx=>(r.ev ρ x.2).bind λy=>some (.dat x.1.1::y.1,y.2):=rfl
@[simp] theorem Fi {r:SR}:(tY i r).ev ρ s=match ρ[i]? with|some .bU=>(r.ev ρ s).bind λy=>some (.bU::y.1,y.2)|_=>none:=rfl
@[simp] theorem yi {m:Fn}{r:SR}:(SE.ag m r).ev ρ s=(r.ev ρ s).bind λx=>m x.1 x.2:=rfl
@[simp] theorem CQ {m:Fn}{gS:List Slot->List Slot}{gV:List V->List V}{hg}{r:SR}:(SE.QW m gS gV hg r).ev ρ s=(r.ev ρ s).bind λx=>m (gS x.1) x.2:=rfl
@[simp] theorem uU:(SI.list a).ev ρ s=(a.ev ρ s).bind λx=>match x.1.1 with|.list ds=>some (ds,x.2)|_=>none:=rfl
@[simp] theorem oX:(D7 a).ev ρ s=(a.ev ρ s).bind λx=>match x.1.1 with|.int j=>if -1000000<=j/\j<=1000000 then some (sU 0 j.toNat,x.2) else none|_=>none:=rfl
@[simp] theorem oY:(XW a b).ev ρ s=(a.ev ρ s).bind λx=>(b.ev ρ x.2).bind λy=>match x.1.1,y.1.1 with|.int i,.int j=>if (-1000000<=i/\i<=1000000)/\-1000000<=j/\j<=1000000 then some (sU i (j-i).toNat,y.2) else none|_,_=>none:=rfl
@[simp] theorem yZ:(M4 a b).ev ρ s=(a.ev ρ s).bind λx=>(b.ev ρ x.2).bind λy=>match x.1.1,y.1.1 with|.list ds,.list es=>some (jG ds es,y.2)|_,_=>none:=rfl
@[simp] theorem uT:(IC a).ev ρ s=(a.ev ρ s).bind λx=>match x.1.1 with|.list ds=>some (gM 0 ds,x.2)|_=>none:=rfl
@[simp] theorem DJ {d:PyData}:(aY i).ev d ρ=some (ρ.set i (.dat d)):=rfl
@[simp] theorem DL:sP.nil.ev [] ρ=some ρ:=rfl
@[simp] theorem AM {g:SG}{r:sP}{d:PyData}{ds:List PyData}:(sP.cons g r).ev (d::ds) ρ=(g.ev d ρ).bind λaH=>r.ev ds aH:=rfl
@[simp] theorem Io {g:sP}{ds:List PyData}:(SG.tup g).ev (.tuple ds) ρ=if ds.length=g.n then g.ev ds ρ else none:=rfl
@[simp] theorem Im:sP.nil.n=0:=rfl
@[simp] theorem DK {g:SG}{r:sP}:(sP.cons g r).n=r.n+1:=rfl
@[simp] theorem rP {it:SI}{g:SG}{tt:ST}{vs:List Nat}{hv:∀i∈g.ix,i∈vs}:(mG it g tt a vs hv).ev ρ s=(it.ev ρ s).bind λx=>(bY g.ev tt.ev a.ev (bu ρ vs) x.1 x.2).bind λy=>if y.1.length<=100000 then some ((.list (y.1.map (·.1)),y.1.all fP),y.2) else none:=rfl
@[simp] theorem Mb {it:SI}{g:SG}{tt:ST}{vs:List Nat}{hv:∀i∈g.ix,i∈vs}:(SB.lc it g tt a vs hv).ev ρ s=(it.ev ρ s).bind λx=>(bY g.ev tt.ev a.ev (bu ρ vs) x.1 x.2).bind λy=>if y.1.length<=100000 then some ((y.1.map (·.1),y.1.all fP),y.2) else none:=rfl
@[simp] theorem gqk:(SB.own a).ev ρ s=(a.ev ρ s).bind λx=>match x.1 with|(.list ds,true)=>some ((ds,true),x.2)|_=>none:=rfl
@[simp] theorem Ak:(SE.ax i a).ev ρ s=match ρ[i]? with|some (.aS ds _)=>(a.ev (ρ.set i (.dat (.list ds))) s).bind λx=>if fP x.1=true then some x else none|_=>none:=rfl
@[simp] theorem qb {x:ST}:(XZ i x).ev ρ s=match ρ[i]? with|some (.aS ds _)=>x.ev (ρ.set i (.dat (.list ds))) s|_=>none:=rfl
@[simp] theorem Xu {n:Int}:(GW i n).ev ρ s=match ρ[i]? with|some .bU=>(vM s n).map λz=>((.int z,true),s)|_=>none:=rfl
@[simp] theorem y_:(X3 i).ev ρ s=match ρ[i]? with|some (.aS ds _)=>some ((.int ds.length,true),s)|_=>none:=rfl
@[simp] theorem Ei:(MT i a).ev ρ s=match ρ[i]? with|some (.aS ds _)=>((a.ev ρ s).bind λx=>match x.1.1 with|.int k=>(atI ds k).map λd=>((d,false),x.2)|_=>none)|_=>none:=rfl
@[simp] theorem A4:(SE.Ni i).ev ρ s=match ρ[i]? with|some (.aS ds _)=>if SeqAt.shaped (.list ds)=true then some ((.bool (!ds.isEmpty),true),s) else none|_=>none:=rfl
@[simp] theorem Ms:(SE.dix i a).ev ρ s=match ρ[i]? with|some (.gI f)=>((a.ev ρ s).bind λy=>match keyOf y.1.1 with|some j=>(cV f j).map λd=>((d,false),y.2)|none=>none)|_=>none:=rfl
@[simp] theorem Df:(SE.Rn i a b).ev ρ s=match ρ[i]? with|some (.gI f)=>((a.ev ρ s).bind λy=>match keyOf y.1.1 with|some j=>((b.ev ρ y.2).bind λz=>some (((cV f j).getD z.1.1,false),z.2))|none=>none)|_=>none:=rfl
@[simp] theorem Jo:(X6 a).ev ρ s=((SA.cons a .nil).ev ρ s).bind λx=>(Fd (x.1.map (·.1))).bind λz=>some (z,x.2):=rfl
@[simp] theorem Nj:(SE.neS a b).ev ρ s=(a.ev ρ s).bind λx=>(b.ev ρ x.2).bind λy=>(match x.1.1,y.1.1 with|.str x,.str y=>some (.bool (!decide (x=y)),true)|_,_=>none:Option Vl).bind λz=>some (z,y.2):=rfl
@[simp] theorem MF:(SE.RK a b).ev ρ s=(a.ev ρ s).bind λx=>(b.ev ρ x.2).bind λy=>(match x.1.1,y.1.1 with|.str x,.str y=>some (.bool (decide (x=y)),true)|_,_=>none:Option Vl).bind λz=>some (z,y.2):=rfl
@[simp] theorem NJ:(SE.rev a).ev ρ s=(a.ev ρ s).bind λx=>match x.1.1 with|.list ds=>some ((.list ds.reverse,gv ds.reverse),x.2)|_=>none:=rfl
@[simp] theorem AS:(XN a).ev ρ s=(a.ev ρ s).bind λx=>match x.1.1 with|.dict _=>none|d=>some ((.bool (gql d),true),x.2):=rfl
variable {x y:SS}
@[simp] theorem zj:SS.am.ev ρ s=some (.nx ρ s):=rfl
@[simp] theorem EE:Iz.ev ρ s=none:=rfl
@[simp] theorem uw:(SS.ac x y).ev ρ s=(x.ev ρ s).bind λo=>Bf y.ev o:=rfl
@[simp] theorem zF {f:Bs}:Bf f (.nx ρ s)=f ρ s:=rfl
@[simp] theorem Fq {f:Bs}{v:Vl}:Bf f (.ret v s)=some (.ret v s):=rfl
@[simp] theorem Fo {f:Bs}:Bf f (.brk ρ s)=some (.brk ρ s):=rfl
@[simp] theorem Fp {f:Bs}:Bf f (.cnt ρ s)=some (.cnt ρ s):=rfl
@[simp] theorem yE:(GY a).ev ρ s=(a.ev ρ s).bind λx=>some (.nx ρ x.2):=rfl
@[simp] theorem XF:(SS.ag a).ev ρ s=(a.ev ρ s).bind λx=>some (.ret x.1 x.2):=rfl
@[simp] theorem Jq:SS.cqI.ev ρ s=some (.ret (.none,true) s):=rfl
@[simp] theorem wO {t:ST}:(jd t x y).ev ρ s=(t.ev ρ s).bind λz=>if z.1=true then x.ev ρ z.2 else y.ev ρ z.2:=rfl
@[simp] theorem NV:(SS.set i a).ev ρ s=(a.ev ρ s).bind λx=>some (.nx (ρ.set i (GK x.1)) x.2):=rfl
@[simp] theorem vJ {e:SB}:(PL i e).ev ρ s=(e.ev ρ s).bind λx=>some (.nx (ρ.set i (.aS x.1.1 x.1.2)) x.2):=rfl
@[simp] theorem x_ {g:SG}:(hxb g a).ev ρ s=(a.ev ρ s).bind λx=>(g.ev x.1.1 ρ).bind λaH=>some (.nx aH x.2):=rfl
@[simp] theorem EY {p:SP}{hp:p.ts=[i,j]}:(SS.par i j p hp).ev ρ s=(p.ev ρ ρ s).bind λx=>some (.nx x.1 x.2):=rfl
@[simp] theorem Jc {p:SP}{hp:p.ts=[i,j,k]}:(SS.cqG i j k p hp).ev ρ s=(p.ev ρ ρ s).bind λx=>some (.nx x.1 x.2):=rfl
@[simp] theorem Jh {d9:List Slot}:SP.nil.ev ρ d9 s=some (d9,s):=rfl
@[simp] theorem EZ {d9:List Slot}{r:SP}:(SP.cons i a r).ev ρ d9 s=(a.ev ρ s).bind λx=>r.ev ρ (d9.set i (GK x.1)) x.2:=rfl
@[simp] theorem E5 {d9:List Slot}{r:SP}:(SP.EF i r).ev ρ d9 s=r.ev ρ (d9.set i (.aS [] true)) s:=rfl
@[simp] theorem E6 {d9:List Slot}{r:SP}:(SP.Ug i r).ev ρ d9 s=r.ev ρ (d9.set i (.gI [])) s:=rfl
@[simp] theorem IX:(SS.newD i).ev ρ s=some (.nx (ρ.set i (.gI [])) s):=rfl
@[simp] theorem yC:(SS.dput i a b).ev ρ s=(b.ev ρ s).bind λx=>match ρ[i]? with|some (.gI f)=>((a.ev ρ x.2).bind λy=>match keyOf y.1.1 with|some j=>if f.length<100000 then some (.nx (ρ.set i (.gI ((j,x.1.1)::f))) y.2) else none|none=>none)|_=>none:=rfl
@[simp] theorem Cw {f:Int->Int->Int}:(SS.ar i a f).ev ρ s=match ρ[i]? with
  |some (.dat (.int n))=>((a.ev ρ s).bind λx=>match x.1.1 with|.int b=>some (.nx (ρ.set i (.dat (.int (f n b)))) x.2)|_=>none)
  |some (.own (.int n))=>((a.ev ρ s).bind λx=>match x.1.1 with|.int b=>some (.nx (ρ.set i (.dat (.int (f n b)))) x.2)|_=>none)
  |_=>none:=rfl
@[simp] theorem fjr:(GS i a).ev ρ s=match ρ[i]? with|some (.aS ds o)=>(a.ev ρ s).bind λx=>if ds.length<100000 then some (.nx (ρ.set i (.aS (ds++[x.1.1]) (o && fP x.1))) x.2) else none|_=>none:=rfl
@[simp] theorem rB:(hzx i a).ev ρ s=match ρ[i]? with|some (.aS ds o)=>((a.ev ρ s).bind λx=>match x.1.1 with|.list es=>if ds.length+es.length<=100000 then some (.nx (ρ.set i (.aS (ds++es) (o && gv es))) x.2) else none|_=>none)|_=>none:=rfl
@[simp] theorem CZ:(SS.clear i).ev ρ s=match ρ[i]? with|some (.aS ds o)=>some (.nx (ρ.set i (.aS [] o)) s)|_=>none:=rfl
@[simp] theorem MM:(SS.frz i x).ev ρ s=match ρ[i]? with|some (.aS ds o)=>x.ev (ρ.set i (if o=true then .own (.list ds) else .dat (.list ds))) s|_=>none:=rfl
@[simp] theorem R7 {it:SI}{g:SG}:(hxd it g x).ev ρ s=(it.ev ρ s).bind λz=>forL g.ev x.ev z.1 ρ z.2:=rfl
@[simp] theorem sH {n:Nat}{t:ST}:(MS n t x).ev ρ s=GP t.ev x.ev n ρ s:=rfl
@[simp] theorem gxb {n:Int}:(Tq i n a).ev ρ s=(a.ev ρ s).bind λx=>match x.1.1,ρ[i]? with|.int z,some .bU=>(pX x.2 z n).map λs'=>.nx ρ s'|_,_=>none:=rfl
@[simp] theorem Jp {e:RE}:(X4 e).ev ρ s=(e.ev ρ s).bind λx=>some (.ret x.1 x.2.2):=rfl
@[simp] theorem UC:(RE.e a).ev ρ s=(a.ev ρ s).bind λx=>some (x.1,ρ,x.2):=rfl
@[simp] theorem Ub:(RE.mv i).ev ρ s=match ρ[i]? with|some (.dat d)=>some ((d,false),ρ,s)|some (.own d)=>some ((d,true),ρ.set i (.dat d),s)|some (.aS ds o)=>some ((.list ds,o),ρ.set i (.dat (.list ds)),s)|_=>none:=rfl
@[simp] theorem Fb:RA.nil.ev ρ s=some ([],ρ,s):=rfl
@[simp] theorem Ba {e:RE}{r:RA}:(RA.cons e r).ev ρ s=(e.ev ρ s).bind λx=>(r.ev x.2.1 x.2.2).bind λy=>some (x.1::y.1,y.2.1,y.2.2):=rfl
@[simp] theorem Jv {r:RA}:(RE.tup r).ev ρ s=(r.ev ρ s).bind λx=>if x.1.length<=100000 then some ((.tuple (x.1.map (·.1)),x.1.all fP),x.2.1,x.2.2) else none:=rfl
@[simp] theorem gqm {np nl:Nat}{args:List Slot}:fnOf np nl x args s=if args.length=np then match x.ev (args++Kay nl .emp) s with|some (.ret vl s')=>some (vl,s')|some (.nx _ s')=>some ((.none,true),s')|_=>none else none:=rfl
end
@[simp] theorem rD (ns:List Int):(ns.map PyData.int).all eW=true:=by simp [eW]
@[simp] theorem mQ:∀ns:List Int,gv (ns.map PyData.int)=true
 |[]=>rfl
 |n::ns=>by simp [gv,aB,mQ ns]
theorem any_ints (ns:List Int)(d:Int):((ns.map PyData.int).any λe=>PyData.eqv e (.int d))=decide (d∈ns):=by
 induction ns with
 |nil=>simp
 |cons n ns ih=>
  simp only [Kal,Kdf,ih,PyData.eqv,Kai]
  by_cases h:n=d
  ·simp [h]
  ·have h':¬d=n:=λz=>h z.symm
   simp [h,h']
@[simp] theorem IE (ns:List Int)(d:Int):inF false (.int d) (.list (ns.map .int))=some (.bool (decide (d∈ns)),true):=by
 show (if eW (.int d)=true/\(ns.map PyData.int).all eW=true then some (PyData.bool ((ns.map PyData.int).any λe=>PyData.eqv e (.int d)),true) else none)=_
 rw [if_pos ⟨rfl,rD ns⟩,any_ints]
@[simp] theorem xm (ns:List Int)(d:Int):inF true (.int d) (.list (ns.map .int))=some (.bool (!decide (d∈ns)),true):=by
 show (if eW (.int d)=true/\(ns.map PyData.int).all eW=true then some (PyData.bool (!((ns.map PyData.int).any λe=>PyData.eqv e (.int d))),true) else none)=_
 rw [if_pos ⟨rfl,rD ns⟩,any_ints]
@[simp] theorem HV (i j:Int):GL (.int i) (.int j)=some (decide (i=j)):=rfl
@[simp] theorem Dk (i j:Bool):GL (.bool i) (.bool j)=some (i == j):=rfl
theorem fzd:∀(n:Nat) (lo:Int),sU lo n=(Kac n).map λ(k:Nat)=>PyData.int (lo+(k:Int))
 |0,_=>rfl
 |n+1,lo=>by
  rw [Kcg,Kal,KaL]
  show PyData.int lo::sU (lo+1) n=_
  rw [fzd n]
  refine Kdn.mpr ⟨by simp,Kas λk _=>?_⟩
  show PyData.int (lo+1+(k:Int))=PyData.int (lo+((k+1:Nat):Int))
  congr 1
  omega
end Pu
set_option maxHeartbeats 1000000
namespace Pu
open PySem L2
/-- data of this depth and this many signs at most,ints short,no strings -/
structure Nd (k c:Nat)(d:PyData):Prop where
 lay:d.canLay0=true
 dep:d.depth<=k
 sm:small d=true
 co:cost d<=c
theorem Nd.mono {k c k' c':Nat}{d:PyData}(h:Nd k c d)(hk:k<=k')(hc:c<=c'):Nd k' c' d:=⟨h.lay,Kau h.dep hk,h.sm,Kau h.co hc⟩
theorem Nd.int {i:Int}(h0:-10 ^ 59<=i)(h1:i<=10 ^ 59):Nd 0 61 (.int i):=⟨rfl,Kak _,by simp only [small];exact decide_eq_true (by omega),Kak _⟩
theorem Nd.bool (b:Bool):Nd 0 61 (.bool b):=⟨rfl,Kak _,rfl,Kak _⟩
theorem Nd.LN {k c:Nat}:∀{xs:List PyData},(∀x∈xs,Nd k c x)->PyData.canLayAll0 xs=true/\PyData.depthAll xs<=k/\ur xs=true/\Ax xs<=xs.length*(c+2)
 |[],_=>⟨rfl,Kbc _,rfl,Kbc _⟩
 |x::xs,h=>by
  obtain⟨a1,a2,a3,a4⟩:=Nd.LN λy hy=>h y (Kad _ hy)
  obtain⟨b1,b2,b3,b4⟩:=h x Kaa
  refine⟨by simp [PyData.canLayAll0,a1,b1],by simp only [PyData.depthAll];omega,by simp [ur,a3,b3],?_⟩
  simp only [Ax,Kah,Nat.add_mul]
  omega
theorem Nd.list {k c n:Nat}{xs:List PyData}(h:∀x∈xs,Nd k c x)(hn:xs.length<=n):Nd (k+1) (n*(c+2)+3) (.list xs):=by
 obtain⟨a1,a2,a3,a4⟩:=Nd.LN h
 have:=KaZ (c+2) hn
 exact⟨by simpa [PyData.canLay0] using a1,by simp only [PyData.depth];omega,by simpa [small] using a3,by simp only [cost];omega⟩
theorem Nd.tuple {k c n:Nat}{xs:List PyData}(h:∀x∈xs,Nd k c x)(hn:xs.length<=n):Nd (k+1) (n*(c+2)+3) (.tuple xs):=by
 obtain⟨a1,a2,a3,a4⟩:=Nd.LN h
 have:=KaZ (c+2) hn
 exact⟨by simpa [PyData.canLay0] using a1,by simp only [PyData.depth];omega,by simpa [small] using a3,by simp only [cost];omega⟩
theorem Nd.ints {ns:List Int}{n:Nat}(h:∀x∈ns,-10 ^ 59<=x/\x<=10 ^ 59)(hn:ns.length<=n):Nd 1 (n*63+3) (.list (ns.map .int)):=Nd.list (λx hx=>by
 obtain⟨y,hy,rfl⟩:=KaM.mp hx
 exact Nd.int (h y hy).1 (h y hy).2) (by simpa using hn)
theorem Nd.map {α:Type}{f:α->PyData}{xs:List α}{k c n:Nat}(h:∀x∈xs,Nd k c (f x))(hn:xs.length<=n):Nd (k+1) (n*(c+2)+3) (.list (xs.map f)):=Nd.list (λy hy=>by
 obtain⟨x,hx,rfl⟩:=KaM.mp hy
 exact h x hx) (by simpa using hn)
theorem Nd.shaped {k c:Nat}{d:PyData}(h:Nd k c d)(hk:k<=60):SeqAt.shaped d=true:=by
 unfold SeqAt.shaped
 rw [h.lay,decide_eq_true (show d.depth<=64 by have:=h.dep;omega)];rfl
theorem Nd.repr {k c:Nat}{d:PyData}(h:Nd k c d)(hk:k<=60)(hc:c<=1000000):BP d=true:=by
 unfold BP
 rw [h.sm,decide_eq_true (show d.depth<=60 by have:=h.dep;omega),decide_eq_true (show cost d<=1000000 by have:=h.co;omega)];rfl
end Pu
namespace Pu
variable [aO]
open PySem PySem.Spec PyProof.Rows L2
def uH (ns:List Int)(r:Int):Int:=if r<(ns.length:Int) then (ns[r.toNat]?).getD 0 else 0
theorem HE {ns:List Int}{r:Int}(r0:0<=r)(h:r<(ns.length:Int)):atI (ns.map V.int) r=some (.int (uH ns r)):=by
 have hl:r.toNat<ns.length:=by omega
 unfold atI ixN uH
 rw [if_pos r0,Kaf,if_pos h,if_pos h]
 simp [hl]
def CV:SE:=hxz (ST.ac (tX (ak 1) (lu (ak 0)))) (jh (ak 0) (ak 1)) (SE.ac 0)
theorem wH {K:Frag}{H:Hp}{a:Addr}{ns:List Int}{r:Int}(hs:SqL K H a (ns.map V.int))(r0:0<=r){σ:L2.St}(h0:σ[0]? = some (some (.ref a)))(h1:σ[1]? = some (some (.int r))){Q:VK}(q:Q (.int (uH ns r)) H):CV.t K σ H Q:=by
 unfold CV hxz ST.ac
 refine⟨.int r,h1,.ref a,h0,.ref a,ns.length,rfl,.inl ⟨_,hs,by simp⟩,r,(ns.length:Int),rfl,rfl,_,rfl,?_⟩
 show if decide (r<(ns.length:Int))=true then _ else _
 by_cases h:r<(ns.length:Int)
 ·rw [decide_eq_true h,if_pos rfl]
  exact⟨.ref a,h0,.int r,h1,.inl ⟨a,_,r,_,rfl,rfl,hs,HE r0 h,q⟩⟩
 ·rw [decide_eq_false h,if_neg Kb9]
  have e:uH ns r=0:=by unfold uH;rw [if_neg h]
  rw [e] at q
  exact q
/-- what stays stays,and bh tables are right -/
structure Kp (H H':Hp):Prop where
 at':∀b o,H b=some o->um o->H' b=some o
 tab:ow H'
theorem FE {K:Frag}{H H':Hp}{a:Addr}{xs:List V}(h:SqL K H a xs)(k:∀b o,H b=some o->um o->H' b=some o):SqL K H' a xs:=by
 rcases h with (z|⟨o,z⟩)|z
 ·exact .inl (.inl (k _ _ z (λps z=>by cases z)))
 ·exact .inl (.inr ⟨o,k _ _ z (λps z=>by cases z)⟩)
 ·exact .inr z
/-- bh promise of a cqJ maker -/
def Xq (K:Frag)(sf:List Int->Int->ae):Sp:=λvs H Q _=>∃(a:Addr) (ns:List Int) (r:Int),vs=[.ref a,.int r]/\SqL K H a (ns.map V.int)/\ow H/\(0<=r/\r<=1000)/\∀(p:Addr) (H':Hp),H p=none->Kp H H'->H' p=some (.lst (jP (sf ns r)))->Q (.ref p) H'
theorem ints3 {F:Hp}{xs:List V}{as:List Addr}{x y z:Int}(h:ah F xs [.int x,.int y,.int z] as):xs=[.int x,.int y,.int z]:=by
 cases h with
 |cons h1 h=>cases h with
  |cons h2 h=>cases h with
   |cons h3 h=>
    cases h
    rw [h1.int_inv,h2.int_inv,h3.int_inv]
theorem Nq {P:Program}{w:World}{K:PySem.W.Frag}{mg:Str->Option Value}{base:Heap}{x:Str}{st:Stmt}{f:Addr}{fd:FuncData}{N ps:List Str}{k:Nat}{b2:SS}{sf:List Int->Int->ae}(F:iF K x st f fd)(S:FnScope N ps (defScope st))(hp:ps.length=2)(hN:N.length=3)
  (hev:∀(ns:List Int) (r:Int) (x0:Slot),0<=r->r<=1000->b2.ev [x0,.dat (.int r),.dat (.int (uH ns r))] (0,0,0)=some (.ret (.list [.int (sf ns r).1,.int (sf ns r).2.1,.int (sf ns r).2.2],true) (0,0,0)))
  (yx:∀(cdv:Value) (A:Around) (outer:List Env) (s:Shared) (H:Hp) (E:XK),Room k (A.deeper (envOfC x (defScope st) s.heap.objs.size f cdv))->∃t,PSs (cxOf CX0 P w K mg base N x (defScope st) f cdv A outer s H E).nox (defBody st) t/\t=(SS.ac (SS.set 2 CV) b2).t K):
  FnOk P w K mg base CX0 (k+1) f fd ps (Xq K sf):=
 F.ok S (λvs H Q E h=>by obtain⟨a,ns,r,rfl,_⟩:=h;rw [hp];rfl) λcdv A outer s H vs Q E hr h=>by
  obtain⟨t,ht,rfl⟩:=yx cdv A outer s H E hr
  obtain⟨a,ns,r,rfl,hs,hT,⟨r0,r1⟩,q⟩:=h
  refine⟨_,PSs.nox ht,?_⟩
  have hst:L2.start N [.ref a,.int r]=[some (.ref a),some (.int r),none]:=by
   unfold L2.start
   rw [hN];rfl
  rw [hst]
  refine wH hs r0 rfl rfl ?_
  show b2.t K _ [some (.ref a),some (.int r),some (.int (uH ns r))] H
  have wd:Wd none (λ_=>none) H (λ_=>none) H [some (.ref a),some (.int r),some (.int (uH ns r))] [.emp,.dat (.int r),.dat (.int (uH ns r))] [[],[],[]] (0,0,0):=by
   refine⟨.refl (λb o e=>by cases e),⟨λb e=>(by cases e),hT⟩,.cons rfl (.cons ⟨rfl,_,[],rfl,.int _⟩ (.cons ⟨rfl,_,[],rfl,.int _⟩ .nil)),KaY,λb m=>by cases m⟩
  refine b2.ok K wd (hev ns r .emp r0 r1) λv F' H' as st k rr ff=>?_
  obtain⟨p,xs,cs,rfl,ha,hr',rfl⟩:=rr.aC
  have e:=ints3 hr'
  subst e
  exact q p H' ((ff rfl).2 p Kaa) ⟨λb o e hst=>st.fr b o (λz=>by cases z) e hst,k.tab.low⟩ (st.sub' _ _ ha)
def Xx (n:Int):SE:=hxy (SE.ac 1) (PR (SE.ac n) (lu (ak 0)))
theorem vz {K:Frag}{H:Hp}{a:Addr}{ns:List Int}{n:Int}(hs:SqL K H a (ns.map V.int)){σ:L2.St}(h0:σ[0]? = some (some (.ref a))){Q:VK}(q:∀j:Int,1<=j->j<=max 1 n->Q (.int j) H):(Xx n).t K σ H Q:=by
 unfold Xx
 refine⟨.ref a,h0,.ref a,ns.length,rfl,.inl ⟨_,hs,by simp⟩,n,ns.length,rfl,1,_,rfl,q _ ?_ ?_⟩
 ·split <;> omega
 ·split <;> split <;> omega
/-- bh promise of a law -/
def zH (K:Frag)(n:Nat):Sp:=λvs H Q _=>∃(a:Addr) (ns:List Int),vs=[.ref a]/\ns.length<=n/\SqL K H a (ns.map V.int)/\ow H/\∀H',Q (.bl true) H'
def NR (K:Frag)(sf:List Int->Int->ae):TE:=tCall (Xq K sf) [] E0 (tCons (tVar 0) (tCons (tVar 1) tNil))
end Pu
namespace Pu
variable [aO]
open PySem PySem.Spec PyProof.Rows L2
def SE.ay (p p':Int->Int->Bool)(a b c:SE):SE where
 t:=λK=>tChain (rI0 λi j=>.bl (p i j)) (rI0 λi j=>.bl (p' i j)) (a.t K) (b.t K) (c.t K)
 ev:=λρ s=>(a.ev ρ s).bind λx=>(b.ev ρ x.2).bind λy=>match x.1.1,y.1.1 with
  |.int i,.int j=>if p i j=true then (c.ev ρ y.2).bind λz=>match z.1.1 with|.int k=>some ((.bool (p' j k),true),z.2)|_=>none else some ((.bool false,true),y.2)
  |_,_=>none
 ok:=by
  intro K sk F H σ ρ aj s vl s' Q pr h q
  obtain⟨⟨⟨x,fx⟩,s1⟩,h1,g1⟩:=aL h
  obtain⟨⟨⟨y,fy⟩,s2⟩,h2,g2⟩:=aL g1
  clear h g1
  dsimp only at g2
  refine a.ok K pr h1 λv F1 H1 as st1 k1 r1 f1=>?_
  refine b.ok K (pr.next st1 k1) h2 λw F2 H2 bs st2 k2 r2 f2=>?_
  split at g2
  ·rename_i i j
   rw [r1.int_inv,r2.int_inv]
   refine⟨i,j,rfl,rfl,p i j,rfl,?_⟩
   split at g2
   ·rename_i e
    rw [if_pos e]
    obtain⟨⟨⟨z,fz⟩,s3⟩,h3,g3⟩:=aL g2
    clear g2
    dsimp only at g3
    refine c.ok K ((pr.next st1 k1).next st2 k2) h3 λu F3 H3 cs st3 k3 r3 f3=>?_
    split at g3
    ·rename_i k
     cases g3
     rw [r3.int_inv]
     exact⟨j,k,rfl,rfl,q _ F3 H3 [] ((st1.trans st2).trans st3) k3 (.bl _) .nil⟩
    ·cases g3
   ·rename_i e
    rw [if_neg e]
    cases g2
    exact q _ F2 H2 [] (st1.trans st2) k2 (.bl _) .nil
  ·cases g2
def gJ (hi:Int):Nat->List PyData
 |0=>[]
 |n+1=>.int hi::gJ (hi-1) n
theorem q_:∀(n:Nat) (hi:Int) (i:Nat),(gJ hi n)[i]? = if i<n then some (.int (hi-i)) else none
 |0,hi,i=>by simp [gJ]
 |n+1,hi,0=>by simp [gJ]
 |n+1,hi,i+1=>by
  show (gJ (hi-1) n)[i]? = _
  rw [q_ n]
  by_cases h:i<n
  ·rw [if_pos h,if_pos (by omega)]
   congr 2
   omega
  ·rw [if_neg h,if_neg (by omega)]
theorem rf:∀(n:Nat) (hi:Int),(gJ hi n).length=n
 |0,_=>rfl
 |n+1,hi=>by show (gJ (hi-1) n).length+1=n+1;rw [rf n]
theorem rm:∀(n:Nat) (hi:Int),gJ hi n=(Kac n).map λ(k:Nat)=>PyData.int (hi-(k:Int))
 |0,_=>rfl
 |n+1,hi=>by
  rw [Kcg,Kal,KaL]
  show PyData.int hi::gJ (hi-1) n=_
  rw [rm n]
  refine Kdn.mpr ⟨by simp,Kas λk _=>?_⟩
  show PyData.int (hi-1-(k:Int))=PyData.int (hi-((k+1:Nat):Int))
  congr 1
  omega
theorem JQ {hi:Int}{n:Nat}{F:Hp}:Yl (Itc hi (-1) n) F (gJ hi n):=λF2 H2 i s1 s2=>by
 refine⟨λd hd=>?_,λhl=>?_⟩
 ·rw [q_] at hd
  split at hd
  ·rename_i h
   cases hd
   refine⟨h,λx H3 hy=>?_⟩
   obtain⟨rfl,rfl⟩:=hy
   refine⟨F2,[],.refl s2,?_⟩
   have e:hi+(i:Int)*(-1)=hi-i:=by omega
   rw [e]
   exact .int _
  ·cases hd
 ·rw [rf] at hl;exact hl
def SI.down (e e2:SE):SI where
 t:=λK=>iRng3 (tCons (e.t K) (tCons (e2.t K) (tCons ((SE.ar (SE.ac 1)).t K) tNil)))
 ev:=λρ s=>(e.ev ρ s).bind λx=>(e2.ev ρ x.2).bind λy=>match x.1.1,y.1.1 with
  |.int i,.int j=>if (-1000000<=i/\i<=1000000)/\-1000000<=j/\j<=1000000 then some (gJ i (i-j).toNat,y.2) else none
  |_,_=>none
 ok:=by
  intro K sk F H σ ρ aj s ds s' R p h q
  obtain⟨⟨⟨x,fl⟩,s1⟩,h1,g1⟩:=aL h
  obtain⟨⟨⟨y,Pc⟩,s2⟩,h2,g2⟩:=aL g1
  clear h g1
  dsimp only at g2
  split at g2
  ·rename_i i j
   split at g2
   ·rename_i hb
    cases g2
    refine e.ok K p h1 λv F1 H1 as st1 k1 r1 f1=>?_
    refine e2.ok K (p.next st1 k1) h2 λw F2 H2 bs st2 k2 r2 f2=>?_
    rw [r1.int_inv,r2.int_inv]
    exact⟨1,rfl,i,j,-1,_,rfl,RgC.neg (by omega) (by omega) (by omega) (by omega),q _ F2 H2 (st1.trans st2) k2 JQ⟩
   ·cases g2
  ·cases g2
end Pu
namespace Pu
variable [aO]
open PySem PySem.Spec PyProof.Rows L2
section
variable {sk:Option Addr}{F H H':Hp}{σ:List (Option V)}{ρ:List Slot}{aj:List (List Addr)}
theorem Slots.dom (sub:Same F H)(h:Slots sk F H σ ρ aj):∀a∈aj.flatten,H a≠none:=by
 induction h with
 |nil=>intro a m;cases m
 |@cons x xs sl NY fp aj h r ih=>
  intro a m
  rw [Kap] at m
  rcases Kat.mp m with m|m
  ·have one:∀{v:V} {d:PyData} {as:List Addr},Rp F v d as->a∈as->H a≠none:=λr m=>by
    obtain⟨xs,hx⟩:=r.dom a m
    rw [sub _ _ hx];exact nofun
   cases sl with
   |emp=>rw [show fp=[] from h] at m;cases m
   |dat d=>rw [h.1] at m;cases m
   |own d=>obtain⟨v,_,hr⟩:=h;exact one hr m
   |aS ds o=>
    obtain⟨b,vs,as,_,h1,_,h3,rfl⟩:=h
    rcases Kai.mp m with z|z
    ·rw [z,h1];exact nofun
    ·split at z
     ·obtain⟨xs,hx⟩:=h3.dom a z
      rw [sub _ _ hx];exact nofun
     ·cases z
   |GJ f=>
    obtain⟨b,ws,_,h1,_,_,_,rfl⟩:=h
    rcases Kai.mp m with z|z
    ·rw [z,h1];exact nofun
    ·cases z
   |Mw es=>rw [h.1] at m;cases m
   |My es=>
    obtain⟨b,ws,_,h1,_,_,rfl⟩:=h
    rcases Kai.mp m with z|z
    ·rw [z,h1];exact nofun
    ·cases z
   |Mz es=>
    obtain⟨b,ws,as,_,h1,_,_,h4,rfl⟩:=h
    rcases Kai.mp m with z|z
    ·rw [z,h1];exact nofun
    ·obtain⟨xs,hx⟩:=h4 _ z
     rw [sub _ _ hx];exact nofun
   |gI f=>
    obtain⟨b,ws,_,h1,_,_,_,rfl⟩:=h
    rcases Kai.mp m with z|z
    ·rw [z,h1];exact nofun
    ·cases z
   |bU=>rw [h.1] at m;cases m
   |fix v=>rw [h.1] at m;cases m
   |fn f c q=>rw [h.1] at m;cases m
   |jy d=>
    obtain⟨v,_,hr,_⟩:=h
    obtain⟨xs,hx⟩:=hr.dom a m
    rw [l9 m] at hx
    rw [hx];exact nofun
   |ins C nm ds=>rw [h.1] at m;cases m
   |obj C b nm ds=>
    obtain⟨dx,vs,as,_,h1,_,h2,_,_,_,rfl⟩:=h
    simp only [Kai,Kbw,or_false] at m
    rcases m with z|z
    ·rw [z,h1];exact nofun
    ·rw [z,h2];exact nofun
   |qG B C nm ds=>rw [h.1] at m;cases m
   |xn B C b nm ds=>
    obtain⟨dx,vs,as,_,h1,_,h2,_,_,_,_,rfl⟩:=h
    simp only [Kai,Kbw,or_false] at m
    rcases m with z|z
    ·rw [z,h1];exact nofun
    ·rw [z,h2];exact nofun
   |Ob o ks ds f=>
    obtain⟨b,dx,ws,vs,as,rs,bs,_,_,h1,_,h2,_,_,_,_,_,rfl⟩:=h
    simp only [Kai,Kbw,or_false] at m
    rcases m with z|z
    ·rw [z,h1];exact nofun
    ·rw [z,h2];exact nofun
  ·exact ih a m
theorem Slots.C3 (e:∀a∈aj.flatten,H' a=H a)(h:Slots sk F H σ ρ aj):Slots sk F H' σ ρ aj:=by
 induction h with
 |nil=>exact .nil
 |@cons x xs sl NY fp aj h r ih=>
  rw [Kap] at e
  refine .cons ?_ (ih λa m=>e a (Kax _ m))
  cases sl with
  |emp=>exact h
  |dat d=>exact h
  |own d=>exact h
  |aS ds o=>
   obtain⟨b,vs,as,h0,h1,h2,h3,rfl⟩:=h
   exact⟨b,vs,as,h0,by rw [e b (Kab _ Kaa)];exact h1,h2,h3,rfl⟩
  |GJ f=>
   obtain⟨b,ws,h0,h1,h2,h3,h4,rfl⟩:=h
   exact⟨b,ws,h0,by rw [e b (Kab _ Kaa)];exact h1,h2,h3,h4,rfl⟩
  |Mw es=>exact h
  |My es=>
   obtain⟨b,ws,h0,h1,h2,h3,rfl⟩:=h
   exact⟨b,ws,h0,by rw [e b (Kab _ Kaa)];exact h1,h2,h3,rfl⟩
  |Mz es=>
   obtain⟨b,ws,as,h0,h1,h2,h3,h4,rfl⟩:=h
   exact⟨b,ws,as,h0,by rw [e b (Kab _ Kaa)];exact h1,h2,h3,h4,rfl⟩
  |gI f=>
   obtain⟨b,ws,h0,h1,h2,h3,h4,rfl⟩:=h
   exact⟨b,ws,h0,by rw [e b (Kab _ Kaa)];exact h1,h2,h3,h4,rfl⟩
  |bU=>exact h
  |fix v=>exact h
  |fn f c q=>exact h
  |jy d=>
   obtain⟨v,e1,r,e2⟩:=h
   exact⟨v,e1,r.mono (RI (Same.refl _) λb m o z=>by rw [e b (Kab _ m)];exact z),e2⟩
  |ins C nm ds=>exact h
  |obj C b nm ds=>
   obtain⟨dx,vs,as,h0,h1,h2,h3,h4,h5,h6,rfl⟩:=h
   exact⟨dx,vs,as,h0,by rw [e b (Kab _ Kaa)];exact h1,h2,by rw [e dx (Kab _ (Kad _ Kaa))];exact h3,h4,h5,h6,rfl⟩
  |qG B C nm ds=>exact h
  |xn B C b nm ds=>
   obtain⟨dx,vs,as,h0,h1,h2,h3,h4,h5,h6,hB,rfl⟩:=h
   exact⟨dx,vs,as,h0,by rw [e b (Kab _ Kaa)];exact h1,h2,by rw [e dx (Kab _ (Kad _ Kaa))];exact h3,h4,h5,h6,hB,rfl⟩
  |Ob o ks ds f=>
   obtain⟨b,dx,ws,vs,as,rs,bs,h0,ho,h1,h2,h3,h4,h5,h6,h7,h8,rfl⟩:=h
   exact⟨b,dx,ws,vs,as,rs,bs,h0,ho,by rw [e b (Kab _ Kaa)];exact h1,h2,by rw [e dx (Kab _ (Kad _ Kaa))];exact h3,h4,h5,h6,h7,h8,rfl⟩
end
/-- bh heap without D -/
def less (H:Hp)(D:Addr):Hp:=λa=>if a=D then none else H a
theorem gxj {H:Hp}{D a:Addr}(h:a≠D):less H D a=H a:=if_neg h
theorem AX {H:Hp}{D:Addr}:less H D D=none:=if_pos rfl
theorem fzr {H:Hp}{D a:Addr}{o:HO}(h:less H D a=some o):a≠D/\H a=some o:=by
 by_cases e:a=D
 ·rw [e,AX] at h;cases h
 ·exact⟨e,by rw [gxj e] at h;exact h⟩
def Dq (g:PyData->List Slot->Option (List Slot))(tt:List Slot->ae->Option (Bool×ae))(it1:List Slot->ae->Option (List PyData×ae))(g1:PyData->List Slot->Option (List Slot))(tt1:List Slot->ae->Option (Bool×ae))(e:JS)(vs1:List Nat)(ρ:List Slot):List PyData->ae->Option (List Vl×ae)
 |[],s=>some ([],s)
 |d::ds,s=>(g d ρ).bind λaH=>(tt aH s).bind λb=>if b.1=true then (it1 aH b.2).bind λx=>(bY g1 tt1 e (bu aH vs1) x.1 x.2).bind λy=>(Dq g tt it1 g1 tt1 e vs1 ρ ds y.2).bind λz=>some (y.1++z.1,z.2) else Dq g tt it1 g1 tt1 e vs1 ρ ds b.2
theorem Step.put {sk:Option Addr}{F H F' H':Hp}{D:Addr}{o:HO}(st:Step sk F (less H D) F' H')(hF:F' D=none):Step sk F (less H D) F' (upd H' D o):=by
 refine⟨st.sub,λa u e=>?_,λa u h e hst=>?_,λa h=>?_,st.new⟩
 ·rw [upd_ne (λz=>by rw [z,hF] at e;cases e)];exact st.sub' a u e
 ·rw [upd_ne (fzr e).1];exact st.fr a u h e
 ·by_cases z:a=D
  ·rw [z,upd_same];exact nofun
  ·rw [upd_ne z];exact st.dm a h
/-- bh inner turns -/
theorem El {it1:SI}{g1:SG}{tt1:ST}{e:SE}{vs1:List Nat}(hv:∀i∈g1.ix,i∈vs1)(K:Frag){sk:Option Addr}{F1 H1 F3 H3 F4 H4:Hp}{D:Addr}{σ2:L2.St}{aH:List Slot}{aj:List (List Addr)}{s4 s5 s6:ae}{done JR:List Vl}{ws:List V}{as:List Addr}{lG:List PyData}{Nx:Hp->Prop}(nD:H1 D=none)(cT:sk≠some D)
  (sl:Slots sk F3 (less H3 D) σ2 aH aj) (nN:∀a,sk=some a->a∉aj.flatten) (fO:aj.flatten.Nodup) (UY:Same F3 (less H3 D)) (st:Step sk F3 (less H3 D) F4 H4) (L:qP sk F1 H1 D done F4 H4 s4 ws as) (h1:it1.ev aH s4=some (lG,s5)) (h2:bY g1.ev tt1.ev e.ev (bu aH vs1) lG s5=some (JR,s6)) (hlen:done.length+JR.length<=100000)
  (q:∀F H vs as,qP sk F1 H1 D (done++JR) F H s6 vs as->Nx H):
  it1.t K σ2 H4 λJ1 H4=>∃W1:Nat->Nat->Hp->Prop,(∃m,W1 0 m H4)/\∀j k H,W1 j k H ->
   (J1.stop j H/\Nx H)∨(J1.go j H/\∃Nx1:Hp->Prop,(∀H',Nx1 H'->∃k',k'<k/\W1 (j+1) k' H')/\∀x H',J1.yld j H x H'->g1.t K x (wipe σ2 vs1) H' λσ3 H5=>wipe σ3 vs1=wipe σ2 vs1/\tt1.t K σ3 H5 λb H6=>
    if b=true then e.t K σ3 H6 λy H7=>∃acc,H7 D=some (.lst acc)/\acc.length<sizeLine/\Nx1 (upd H7 D (.lst (acc++[y]))) else Nx1 H6):=by
 have cqH:Pre sk F4 H4 σ2 aH aj s4:=⟨L.sub',L.bj,sl.step st nN,nN,fO⟩
 refine it1.ok K cqH h1 λJ1 F5 H5 st5 k5 yl=>?_
 have L5:=L.step cT st5 k5
 refine⟨λj k H=>∃F6 sj dn rest U6 QA,k=(lG.drop j).length/\j<=lG.length/\Same F5 F6/\Step sk F3 (less H3 D) F6 H/\qP sk F1 H1 D (done++dn) F6 H sj U6 QA/\bY g1.ev tt1.ev e.ev (bu aH vs1) (lG.drop j) sj=some (rest,s6)/\dn++rest=JR,
  ⟨lG.length,F5,s5,[],JR,ws,as,by simp,Kbc _,Same.refl _,st.trans st5,by rw [KaC];exact L5,by simpa using h2,rfl⟩,λj k H hW=>?_⟩
 obtain⟨F6,sj,dn,rest,U6,QA,ek,hj,sF,stJ,L6,hc,hys⟩:=hW
 by_cases hlt:j<lG.length
 ·have ed:lG.drop j=lG[j]::lG.drop (j+1):=Ka6 hlt
  have eg:lG[j]? = some lG[j]:=Kao hlt
  rw [ed] at hc ek
  obtain⟨go,yld⟩:=(yl F6 H j sF L6.sub').1 _ eg
  unfold bY at hc
  obtain⟨dF,c1,hc⟩:=aL hc
  obtain⟨⟨b,sb⟩,c2,hc⟩:=aL hc
  dsimp only at hc
  refine .inr ⟨go,λH'=>∃F7 tQ Wb rest' vs7 Vn,Same F5 F7/\Step sk F3 (less H3 D) F7 H'/\qP sk F1 H1 D (done++Wb) F7 H' tQ vs7 Vn/\bY g1.ev tt1.ev e.ev (bu aH vs1) (lG.drop (j+1)) tQ=some (rest',s6)/\Wb++rest'=JR,λH' hN=>?_,λx H' hy=>?_⟩
  ·obtain⟨F7,tQ,Wb,rest',vs7,Vn,a1,a2,a3,a4,a5⟩:=hN
   exact⟨(lG.drop (j+1)).length,by rw [ek];exact Kbl _,F7,tQ,Wb,rest',vs7,Vn,rfl,hlt,a1,a2,a3,a4,a5⟩
  ·obtain⟨F7,Vn,sa,r7⟩:=yld x H' hy
   have L7:=L6.step cT sa.any (L6.bj.keep sa)
   have st7:=stJ.trans sa.any
   have sl7:=sl.step st7 nN
   obtain⟨fw,NZ,mw⟩:=sl7.wipe vs1
   refine g1.ok K L7.sub' r7 NZ c1 λσ' az sl' m' u' w'=>⟨?_,?_⟩
   ·rw [w' vs1 hv,WQ]
   ·have P7:Pre sk F7 H' σ' dF az sj:=⟨L7.sub',L7.bj,sl',λa ha ma=>nN a ha (mw.mem (m' a ma)),fO.sublist (u'.trans mw)⟩
    refine tt1.ok K P7 c2 λF8 H8 Qg k8=>?_
    have L8:=L7.step cT Qg k8
    split at hc
    ·rename_i eb
     rw [if_pos eb]
     obtain⟨⟨y,sy⟩,c3,hc⟩:=aL hc
     obtain⟨⟨z,sz⟩,c4,hc⟩:=aL hc
     cases hc
     refine e.ok K (P7.next Qg k8) c3 λv F9 H9 as9 UX k9 r9 f9=>?_
     have L9:=L8.put cT nD UX k9 r9 f9
     refine⟨U6,UX.fr D _ cT L8.hD,?_,F9,sy,dn++[y],z,_,_,((sF.trans sa.sub).trans Qg.sub).trans UX.sub,((st7.trans Qg).trans UX).put (L8.step cT UX k9).fD,by rw [<-Kbd];exact L9,c4,?_⟩
     ·have:=L6.r.len
      rw [Kaf] at this
      rw [this]
      have e2:dn.length+(z.length+1)=JR.length:=by rw [<-hys];simp
      exact Kbv (show (done++dn).length<100000 by rw [Kam];omega) (by decide)
     ·rw [<-hys];simp
    ·rename_i eb
     rw [if_neg eb]
     exact⟨F8,sb,dn,rest,U6,QA,(sF.trans sa.sub).trans Qg.sub,st7.trans Qg,L8,hc,hys⟩
 ·have e1:j=lG.length:=by omega
  subst e1
  rw [KbH] at hc
  unfold bY at hc
  cases hc
  rw [KaC] at hys
  subst hys
  exact .inl ⟨(yl F6 H _ sF L6.sub').2 (Kak _),q F6 H U6 QA L6⟩
theorem AW {it:SI}{g:SG}{tt:ST}{it1:SI}{g1:SG}{tt1:ST}{e:SE}{vs vs1:List Nat}(hv:∀i∈g.ix,i∈vs)(hv1:∀i∈g1.ix,i∈vs1)(K:Frag){sk:Option Addr}{F H:Hp}{σ:L2.St}{ρ:List Slot}{aj:List (List Addr)}{s s1 s':ae}{ds:List PyData}{ys:List Vl}{Q:VK}(p:Pre sk F H σ ρ aj s)(h1:it.ev ρ s=some (ds,s1))(h2:Dq g.ev tt.ev it1.ev g1.ev tt1.ev e.ev vs1 (bu ρ vs) ds s1=some (ys,s'))(hlen:ys.length<=100000)
  (q:∀F1 H1 D F2 H2 ws as,Step sk F H F1 H1->bw sk F1 H1 s1->H1 D=none->sk≠some D->qP sk F1 H1 D ys F2 H2 s' ws as->Q (.ref D) H2):tLc2 (it.t K) (g.t K) (tt.t K) (it1.t K) (g1.t K) (tt1.t K) (e.t K) vs vs1 σ H Q:=by
 refine it.ok K p h1 λJ F1 H1 st1 k1 yl D nD=>?_
 have P1:=p.next st1 k1
 have cT:sk≠some D:=mX k1 nD
 refine⟨λi m H2=>∃F2 si done rest G3 as2,m=(ds.drop i).length/\i<=ds.length/\qP sk F1 H1 D done F2 H2 si G3 as2/\Dq g.ev tt.ev it1.ev g1.ev tt1.ev e.ev vs1 (bu ρ vs) (ds.drop i) si=some (rest,s')/\done++rest=ys,
  ⟨ds.length,F1,s1,[],ys,[],[],by simp,Kbc _,.start st1.sub' k1 nD,by simpa using h2,rfl⟩,λi m H2 hW=>?_⟩
 obtain⟨F2,si,done,rest,G3,as2,em,hi,L,hc,hys⟩:=hW
 by_cases hlt:i<ds.length
 ·have ed:ds.drop i=ds[i]::ds.drop (i+1):=Ka6 hlt
  have eg:ds[i]? = some ds[i]:=Kao hlt
  rw [ed] at hc em
  obtain⟨go,yld⟩:=(yl F2 H2 i L.sub L.sub').1 _ eg
  unfold Dq at hc
  obtain⟨aH,c1,hc⟩:=aL hc
  obtain⟨⟨b,sb⟩,c2,hc⟩:=aL hc
  dsimp only at hc
  refine .inr ⟨go,λH'=>∃F3 tQ done' rest' N9 Bx,qP sk F1 H1 D done' F3 H' tQ N9 Bx/\Dq g.ev tt.ev it1.ev g1.ev tt1.ev e.ev vs1 (bu ρ vs) (ds.drop (i+1)) tQ=some (rest',s')/\done'++rest'=ys,λH' hN=>?_,λx H3 hy=>?_⟩
  ·obtain⟨F3,tQ,done',rest',N9,Bx,L3,c3,e3⟩:=hN
   exact⟨(ds.drop (i+1)).length,by rw [em];exact Kbl _,F3,tQ,done',rest',N9,Bx,rfl,hlt,L3,c3,e3⟩
  ·obtain⟨F3,Bx,sa,r3⟩:=yld x H3 hy
   have L3:=L.step cT sa.any (L.bj.keep sa)
   have Qe:Slots sk F1 H1 σ ρ aj:=P1.slots
   have stp:Step sk F1 H1 F3 H3:=⟨L3.sub,L3.sub',λa o x y z=>L3.fr a o x y z,L3.dm,L3.new⟩
   have UW:=Qe.step stp P1.nN
   obtain⟨fw,NZ,mw⟩:=UW.wipe vs
   refine g.ok K L3.sub' r3 NZ c1 λσ' az sl' m' u' w'=>⟨?_,?_⟩
   ·rw [w' vs hv,WQ]
   ·have UU:∀a,sk=some a->a∉az.flatten:=λa ha ma=>P1.nN a ha (mw.mem (m' a ma))
    have Ui:az.flatten.Nodup:=P1.fO.sublist (u'.trans mw)
    have P3:Pre sk F3 H3 σ' aH az si:=⟨L3.sub',L3.bj,sl',UU,Ui⟩
    refine tt.ok K P3 c2 λF4 H4 nY k4=>?_
    have L4:=L3.step cT nY k4
    split at hc
    ·rename_i eb
     rw [if_pos eb]
     obtain⟨⟨lG,s5⟩,c3,hc⟩:=aL hc
     obtain⟨⟨JR,s6⟩,c4,hc⟩:=aL hc
     obtain⟨⟨z,sz⟩,c5,hc⟩:=aL hc
     cases hc
     have hD:∀a∈az.flatten,less H3 D a=H3 a:=λa ma=>gxj λz=>by
      subst z
      exact (Qe.dom P1.sub) a (mw.mem (m' a ma)) nD
     have UY:Same F3 (less H3 D):=λa o ea=>by
      rw [gxj (λz=>by rw [z,L3.fD] at ea;cases ea)];exact L3.sub' a o ea
     have cqN:Step sk F3 (less H3 D) F4 H4:=⟨nY.sub,nY.sub',λa o h ea hst=>nY.fr a o h (fzr ea).2 hst,λa h=>by
      cases qa:less H3 D a with
      |none=>exact absurd qa h
      |some o=>exact nY.dm a (by rw [(fzr qa).2];exact nofun),λa o ea=>by
      rcases nY.new a o ea with z|z
      ·exact .inl z
      ·refine .inr ?_
       unfold less
       split
       ·rfl
       ·exact z⟩
     refine El hv1 K nD cT (sl'.C3 hD) UU Ui UY cqN L4 c3 c4 ?_ λF5 H5 vs5 YL L5=>⟨F5,_,_,z,vs5,YL,L5,c5,?_⟩
     ·have:done.length+(JR.length+z.length)=ys.length:=by rw [<-hys];simp
      omega
     ·rw [<-hys,Kbd]
    ·rename_i eb
     rw [if_neg eb]
     exact⟨F4,sb,done,rest,G3,as2,L4,hc,hys⟩
 ·have e1:i=ds.length:=by omega
  subst e1
  rw [KbH] at hc
  unfold Dq at hc
  cases hc
  rw [KaC] at hys
  subst hys
  exact .inl ⟨(yl F2 H2 _ L.sub L.sub').2 (Kak _),q F1 H1 D F2 H2 G3 as2 st1 k1 nD cT L⟩
def SE.TV (it:SI)(g:SG)(tt:ST)(it1:SI)(g1:SG)(tt1:ST)(e:SE)(vs vs1:List Nat)(hv:∀i∈g.ix,i∈vs)(hv1:∀i∈g1.ix,i∈vs1):SE where
 t:=λK=>tLc2 (it.t K) (g.t K) (tt.t K) (it1.t K) (g1.t K) (tt1.t K) (e.t K) vs vs1
 ev:=λρ s=>(it.ev ρ s).bind λx=>(Dq g.ev tt.ev it1.ev g1.ev tt1.ev e.ev vs1 (bu ρ vs) x.1 x.2).bind λy=>if y.1.length<=100000 then some ((.list (y.1.map (·.1)),y.1.all fP),y.2) else none
 ok:=by
  intro K sk F H σ ρ aj s vl s' Q p h q
  obtain⟨⟨ds,s1⟩,h1,g1⟩:=aL h
  obtain⟨⟨ys,s2⟩,h2,g2⟩:=aL g1
  clear h g1
  dsimp only at g2 h2
  split at g2
  case isFalse=>cases g2
  rename_i hlen
  cases g2
  refine AW hv hv1 K p h1 h2 hlen λF1 H1 D F2 H2 ws as st1 k1 nD cT L=>?_
  obtain⟨d1,d2,d3,d4⟩:=L.done cT nD
  exact q _ _ _ _ (st1.trans d1) d2 d3 (d4.back st1.dm)
section
variable {X:Cx}{elt tg iter tg1 iter1:Expr}{ifs ifs1:List Expr}{scope:Scope}{pos:Pos}{wi:TI}
theorem gxn (gS:SG)(tS:ST)(iS:SI)(gS1:SG)(tS1:ST)(eS:SE)(own:List (Str×Nat))(vs1:List Nat)(hc:X.calm=true)(hN:X.N.Nodup)(hi:PI X tg iter wi)(ok:BlkOk X.N X.env.scope scope own)(hv:∀i∈vs1,i∈own.map (·.2))
  (hg:∀(s:Shared) (H:Hp) (C:Addr) (cl:List (Str×Addr)) (fp:List Addr),∃g,PG (X.blk s H scope (compEnvC scope cl C X.env) fp) tg g/\g=gS.t X.K)
  (ht:∀(s:Shared) (H:Hp) (C:Addr) (cl:List (Str×Addr)) (fp:List Addr),∃tt,PTs (X.blk s H scope (compEnvC scope cl C X.env) fp) ifs tt/\tt=tS.t X.K)
  (hi1:∀(s:Shared) (H:Hp) (C:Addr) (cl:List (Str×Addr)) (fp:List Addr),∃ti,PI (X.blk s H scope (compEnvC scope cl C X.env) fp) tg1 iter1 ti/\ti=iS.t X.K)
  (hg1:∀(s:Shared) (H:Hp) (C:Addr) (cl:List (Str×Addr)) (fp:List Addr),∃g,PG (X.blk s H scope (compEnvC scope cl C X.env) fp) tg1 g/\g=gS1.t X.K)
  (ht1:∀(s:Shared) (H:Hp) (C:Addr) (cl:List (Str×Addr)) (fp:List Addr),∃tt,PTs (X.blk s H scope (compEnvC scope cl C X.env) fp) ifs1 tt/\tt=tS1.t X.K)
  (he:∀(s:Shared) (H:Hp) (C:Addr) (cl:List (Str×Addr)) (fp:List Addr),∃te,PE (X.blk s H scope (compEnvC scope cl C X.env) fp) elt te/\te=eS.t X.K) (hs:∀x,foldedSetIterable iter X.env x=pure x:=by intro _;rfl) (hs1:∀env x,foldedSetIterable iter1 env x=pure x:=by intro _ _;rfl):
  PE X (.ListComp elt [⟨tg,iter,ifs,0⟩,⟨tg1,iter1,ifs1,0⟩] scope pos) (tLc2 wi (gS.t X.K) (tS.t X.K) (iS.t X.K) (gS1.t X.K) (tS1.t X.K) (eS.t X.K) (own.map (·.2)) vs1):=
 pe_lc2 hc hN hi ok hv (λa b c d e=>by obtain⟨_,h,rfl⟩:=hg a b c d e;exact h) (λa b c d e=>by obtain⟨_,h,rfl⟩:=ht a b c d e;exact h) (λa b c d e=>by obtain⟨_,h,rfl⟩:=hi1 a b c d e;exact h) (λa b c d e=>by obtain⟨_,h,rfl⟩:=hg1 a b c d e;exact h) (λa b c d e=>by obtain⟨_,h,rfl⟩:=ht1 a b c d e;exact h) (λa b c d e=>by obtain⟨_,h,rfl⟩:=he a b c d e;exact h) hs hs1
end
end Pu
namespace Pu
variable [aO]
open PySem PySem.Spec PyProof.Rows L2
theorem vB {F:Hp}:∀{x:Option V} {d:Option PyData},jx F x d->x.isSome=d.isSome
 |none,none,_=>rfl
 |some _,some _,_=>rfl
 |some _,none,h=>h.elim
 |none,some _,h=>h.elim
def P5 (i:Nat)(k:SE):SE where
 t:=λK=>tDIn (k.t K) (tVar i)
 ev:=λρ s=>match ρ[i]? with
  |some (.gI f)=>(k.ev ρ s).bind λy=>match keyOf y.1.1 with
   |some j=>some ((.bool (cV f j).isSome,true),y.2)
   |none=>none
  |_=>none
 ok:=by
  intro K sk F H σ ρ aj s vl s' Q p h q
  dsimp only at h
  split at h
  ·rename_i f cS
   obtain⟨⟨⟨y,fl⟩,s2⟩,h3,h4⟩:=aL h
   dsimp only at h4
   split at h4
   ·rename_i j ej
    cases h4
    obtain⟨xv,fp,e1,e2,a,ws,rfl,hH,hF,hlw,hr,rfl⟩:=p.slots.get cS
    refine k.ok K p h3 λkv F2 H2 bs st2 k2 r2 f2=>?_
    have fa:a∈aj.flatten:=Kaw.mpr ⟨_,Kaq e2,Kaa⟩
    have Ir:H2 a=some (.dK ws):=st2.fr a _ (λz=>p.nN a z fa) hH
    have hkv:=r2.key ej
    subst hkv
    refine⟨.ref a,e1,a,valV ws j,rfl,DGet.k (k:=j) Ir,?_⟩
    rw [vB (hr j)]
    exact q _ F2 H2 [] st2 k2 (.bl _) .nil
   ·cases h4
  ·cases h
def eN (g:PyData->List Slot->Option (List Slot))(tt:List Slot->ae->Option (Bool×ae))(ek ev:JS)(ρ:List Slot):List PyData->List (Key×PyData)->ae->Option (List (Key×PyData)×ae)
 |[],f,s=>some (f,s)
 |d::ds,f,s=>(g d ρ).bind λaH=>(tt aH s).bind λb=>if b.1=true then (ek aH b.2).bind λx=>(ev aH x.2).bind λy=>match keyOf x.1.1 with
  |some j=>eN g tt ek ev ρ ds ((j,y.1.1)::f) y.2
  |none=>none
  else eN g tt ek ev ρ ds f b.2
theorem fzp {g:PyData->List Slot->Option (List Slot)}{tt:List Slot->ae->Option (Bool×ae)}{ek ev:JS}{ρ:List Slot}:∀{ds:List PyData} {f f':List (Key×PyData)} {s s':ae},eN g tt ek ev ρ ds f s=some (f',s')->f.length<=f'.length
 |[],f,f',s,s',h=>by unfold eN at h;cases h;exact Kak _
 |d::ds,f,f',s,s',h=>by
  unfold eN at h
  obtain⟨aH,c1,h⟩:=aL h
  obtain⟨⟨b,sb⟩,c2,h⟩:=aL h
  dsimp only at h
  split at h
  ·obtain⟨x,c3,h⟩:=aL h
   obtain⟨y,c4,h⟩:=aL h
   split at h
   ·have:=fzp h
    simp only [Kah] at this
    omega
   ·cases h
  ·exact fzp h
structure Gm (sk:Option Addr)(F1 H1:Hp)(D:Addr)(f:List (Key×PyData))(F H:Hp)(s:ae)(ws:List (Key×V)):Prop where
 st:Step sk F1 (less H1 D) F H
 bj:bw sk F H s
 hD:H D=some (.dK ws)
 fD:F D=none
 len:ws.length<=f.length
 rel:∀k:Key,jx F (valV ws k) (cV f k)
theorem Gm.step {sk:Option Addr}{F1 H1:Hp}{D:Addr}{f:List (Key×PyData)}{F H F' H':Hp}{s s':ae}{ws:List (Key×V)}(L:Gm sk F1 H1 D f F H s ws)(nD:sk≠some D)(st:Step sk F H F' H')(k:bw sk F' H' s'):Gm sk F1 H1 D f F' H' s' ws:=by
 refine⟨L.st.trans st,k,st.fr D _ nD L.hD,?_,L.len,λj=>(L.rel j).mono st.sub⟩
 cases q:F' D with
 |none=>rfl
 |some u=>
  rcases st.new D u q with z|z
  ·rw [L.fD] at z;cases z
  ·rw [L.hD] at z;cases z
theorem Gm.put {sk:Option Addr}{F1 H1:Hp}{D:Addr}{f:List (Key×PyData)}{F H:Hp}{s:ae}{ws:List (Key×V)}{j:Key}{v:V}{d:PyData}{as:List Addr}(L:Gm sk F1 H1 D f F H s ws)(nD:sk≠some D)(r:Rp F v d as):Gm sk F1 H1 D ((j,d)::f) F (upd H D (.dK (putK ws j v))) s (putK ws j v):=by
 refine⟨L.st.put L.fD,⟨λa e=>?_,Xl L.bj.tab L.hD (Xc trivial)⟩,upd_same,L.fD,?_,jx.put L.rel r⟩
 ·obtain⟨h1,h2⟩:=L.bj a e
  exact⟨by rw [upd_ne (λz=>nD (by rw [<-z];exact e))];exact h1,h2⟩
 ·have:=vt ws j v
  have:=L.len
  simp only [Kah]
  omega
theorem Dd {it:SI}{g:SG}{tt:ST}{ek e:SE}{vs:List Nat}(hv:∀i∈g.ix,i∈vs)(K:Frag){sk:Option Addr}{F H:Hp}{σ:L2.St}{ρ:List Slot}{aj:List (List Addr)}{s s1 s':ae}{ds:List PyData}{f:List (Key×PyData)}{Q:VK}(p:Pre sk F H σ ρ aj s)(h1:it.ev ρ s=some (ds,s1))(h2:eN g.ev tt.ev ek.ev e.ev (bu ρ vs) ds [] s1=some (f,s'))(hlen:f.length<=100000)
  (q:∀F1 H1 D F2 H2 ws,Step sk F H F1 H1->H1 D=none->sk≠some D->Gm sk F1 H1 D f F2 H2 s' ws->Q (.ref D) H2):tDc (it.t K) (g.t K) (tt.t K) (ek.t K) (e.t K) vs σ H Q:=by
 refine it.ok K p h1 λJ F1 H1 st1 k1 yl D nD=>?_
 have P1:=p.next st1 k1
 have cT:sk≠some D:=mX k1 nD
 have yG:less H1 D=H1:=by
  funext a
  unfold less
  split
  ·rename_i z;rw [z,nD]
  ·rfl
 have start:Gm sk F1 H1 D [] F1 (upd H1 D (.dK [])) s1 []:=by
  have fD:F1 D=none:=P1.sub.free nD
  have st0:Step sk F1 (less H1 D) F1 H1:=by rw [yG];exact .refl P1.sub
  refine⟨st0.put fD,⟨λa ea=>?_,fze k1.tab nD⟩,upd_same,fD,Kak _,λk=>True.intro⟩
  obtain⟨z1,z2⟩:=k1 a ea
  exact⟨by rw [upd_ne (ne_of_none z1 nD)];exact z1,z2⟩
 refine⟨λi m H2=>∃F2 si fi ws,m=(ds.drop i).length/\i<=ds.length/\Same F1 F2/\Gm sk F1 H1 D fi F2 H2 si ws/\eN g.ev tt.ev ek.ev e.ev (bu ρ vs) (ds.drop i) fi si=some (f,s'),
  ⟨ds.length,F1,s1,[],[],by simp,Kbc _,Same.refl _,start,by simpa using h2⟩,λi m H2 hW=>?_⟩
 obtain⟨F2,si,fi,ws,em,hi,sF,L,hc⟩:=hW
 by_cases hlt:i<ds.length
 ·have ed:ds.drop i=ds[i]::ds.drop (i+1):=Ka6 hlt
  have eg:ds[i]? = some ds[i]:=Kao hlt
  have hfl:=fzp hc
  rw [ed] at hc em
  obtain⟨go,yld⟩:=(yl F2 H2 i sF L.st.sub').1 _ eg
  unfold eN at hc
  obtain⟨aH,c1,hc⟩:=aL hc
  obtain⟨⟨b,sb⟩,c2,hc⟩:=aL hc
  dsimp only at hc
  refine .inr ⟨go,λH'=>∃F3 tQ W0 BZ,Same F1 F3/\Gm sk F1 H1 D W0 F3 H' tQ BZ/\eN g.ev tt.ev ek.ev e.ev (bu ρ vs) (ds.drop (i+1)) W0 tQ=some (f,s'),λH' hN=>?_,λx H3 hy=>?_⟩
  ·obtain⟨F3,tQ,W0,BZ,a1,a2,a3⟩:=hN
   exact⟨(ds.drop (i+1)).length,by rw [em];exact Kbl _,F3,tQ,W0,BZ,rfl,hlt,a1,a2,a3⟩
  ·obtain⟨F3,Bx,sa,r3⟩:=yld x H3 hy
   have L3:=L.step cT sa.any (L.bj.keep sa)
   have Qe:Slots sk F1 (less H1 D) σ ρ aj:=by rw [yG];exact P1.slots
   have UW:=Qe.step L3.st P1.nN
   obtain⟨fw,NZ,mw⟩:=UW.wipe vs
   refine g.ok K L3.st.sub' r3 NZ c1 λσ' az sl' m' u' w'=>⟨?_,?_⟩
   ·rw [w' vs hv,WQ]
   ·have P3:Pre sk F3 H3 σ' aH az si:=⟨L3.st.sub',L3.bj,sl',λa ha ma=>P1.nN a ha (mw.mem (m' a ma)),P1.fO.sublist (u'.trans mw)⟩
    refine tt.ok K P3 c2 λF4 H4 nY k4=>?_
    have L4:=L3.step cT nY k4
    have sF4:Same F1 F4:=(sF.trans sa.sub).trans nY.sub
    split at hc
    ·rename_i eb
     rw [if_pos eb]
     obtain⟨⟨⟨xk,fk⟩,sx⟩,c3,hd⟩:=aL hc
     obtain⟨⟨⟨yv,fv⟩,sy⟩,c4,he⟩:=aL hd
     clear hc hd
     dsimp only at he
     refine ek.ok K (P3.next nY k4) c3 λkv F5 H5 YL st5 k5 r5 f5=>?_
     have L5:=L4.step cT st5 k5
     refine e.ok K ((P3.next nY k4).next st5 k5) c4 λvv F6 H6 QA Ym k6 r6 f6=>?_
     have L6:=L5.step cT Ym k6
     split at he
     ·rename_i j ej
      have hkv:=r5.key ej
      subst hkv
      refine⟨ws,j,rfl,L6.hD,?_,F6,sy,_,_,(sF4.trans st5.sub).trans Ym.sub,L6.put (j:=j) cT r6,he⟩
      have:=L.len
      exact KcC (show ws.length<=100000 by omega) (by decide)
     ·cases he
    ·rename_i eb
     rw [if_neg eb]
     exact⟨F4,sb,fi,ws,sF4,L4,hc⟩
 ·have e1:i=ds.length:=by omega
  subst e1
  rw [KbH] at hc
  unfold eN at hc
  cases hc
  exact .inl ⟨(yl F2 H2 _ sF L.st.sub').2 (Kak _),q F1 H1 D F2 H2 ws st1 nD cT L⟩
/-- x,..={k: v for ..},.. -/
def SP.dc (i:Nat)(it:SI)(g:SG)(tt:ST)(ek e:SE)(vs:List Nat)(hv:∀i∈g.ix,i∈vs)(r:SP):SP where
 t:=λK=>tCons (tDc (it.t K) (g.t K) (tt.t K) (ek.t K) (e.t K) vs) (r.t K)
 ts:=i::r.ts
 ev:=λρ d9 s=>(it.ev ρ s).bind λx=>(eN g.ev tt.ev ek.ev e.ev (bu ρ vs) x.1 [] x.2).bind λy=>if y.1.length<=100000 then r.ev ρ (d9.set i (.gI y.1)) y.2 else none
 ok:=by
  intro K sk F0 H0 F H σ wq ρ d9 nR aj gj s s' Q p w h q
  obtain⟨⟨ds,s1⟩,h1,g1⟩:=aL h
  obtain⟨⟨f,s2⟩,h2,g2⟩:=aL g1
  clear h g1
  dsimp only at g2 h2
  split at g2
  case isFalse=>cases g2
  rename_i hlen
  refine Dd hv K p h1 h2 hlen λF1 H1 a F2 H2 ws st1 na cT L=>?_
  have yG:less H1 a=H1:=by
   funext b
   unfold less
   split
   ·rename_i z;rw [z,na]
   ·rfl
  have st2:Step sk F1 H1 F2 H2:=by
   have:=L.st
   rw [yG] at this
   exact this
  have st:=st1.trans st2
  have w1:=w.next st L.bj
  have nH:H a=none:=by
   cases z:H a with
   |none=>rfl
   |some u=>exact absurd na (st1.dm a (by rw [z];exact nofun))
  have Uj:H0 a=none:=by
   cases z:H0 a with
   |none=>rfl
   |some u=>exact absurd nH (w.st.dm a (by rw [z];exact nofun))
  have nd:([a]++gj.flatten).Nodup:=Kag.mpr ⟨by simp,w.fO,λb mb c mc z=>by
   have:b=a:=by simpa using mb
   subst z
   exact (w.cu b mc).2.1 (by rw [this];exact nH)⟩
  obtain⟨m1,m2⟩:=x8 (i:=i) nd
  have wa:Wd sk F0 H0 F2 H2 (wq.set i (some (.ref a))) (d9.set i (.gI f)) (gj.set i [a]) s2:=by
   refine⟨w1.st,w1.bj,w1.slots.set ⟨a,ws,rfl,L.hD,L.fD,L.len,L.rel,rfl⟩,m1,λb m=>?_⟩
   rcases m2 b m with z|z
   ·have:b=a:=by simpa using z
    subst this
    exact⟨Uj,by rw [L.hD];exact nofun,cT⟩
   ·exact w1.cu b z
  refine r.ok K (p.next st L.bj) wa g2 λvs F3 H3 fv sF w2 hl=>?_
  exact q (.ref a::vs) F3 H3 fv (st.sub.trans sF) w2 (by rw [Kah,Kah,hl])
/-- x={k: v for ..} -/
def SS.UQ (i:Nat)(it:SI)(g:SG)(tt:ST)(ek e:SE)(vs:List Nat)(hv:∀i∈g.ix,i∈vs):SS where
 t:=λK=>tAsg (tDc (it.t K) (g.t K) (tt.t K) (ek.t K) (e.t K) vs) (gName i)
 ev:=λρ s=>((SP.dc i it g tt ek e vs hv SP.nil).ev ρ ρ s).bind λx=>some (.nx x.1 x.2)
 ok:=by
  intro K sk F0 H0 F H σ ρ aj s out D w h q
  obtain⟨⟨aH,s1⟩,h1,h2⟩:=aL h
  cases h2
  have:=(SP.dc i it g tt ek e vs hv SP.nil).ok K (Q:=λvs H'=>D.nx (σ.set i vs.head?) H') w.pre w h1 λvs F1 H1 fv sF w1 hl=>by
   match vs,hl with
   |[v],_=>exact q F1 H1 _ fv sF w1
  exact this
end Pu
namespace Pu
variable [aO]
open PySem PySem.Spec PyProof.Rows L2
section
variable {X:Cx}{kx vx tg iter:Expr}{ifs:List Expr}{scope:Scope}{pos:Pos}{wi:TI}
theorem E2 (gS:SG)(tS:ST)(kS eS:SE)(own:List (Str×Nat))(hc:X.calm=true)(hN:X.N.Nodup)(hi:PI X tg iter wi)(ok:BlkOk X.N X.env.scope scope own)
  (hg:∀(s:Shared) (H:Hp) (C:Addr) (cl:List (Str×Addr)) (fp:List Addr),∃g,PG (X.blk s H scope (compEnvC scope cl C X.env) fp) tg g/\g=gS.t X.K)
  (ht:∀(s:Shared) (H:Hp) (C:Addr) (cl:List (Str×Addr)) (fp:List Addr),∃tt,PTs (X.blk s H scope (compEnvC scope cl C X.env) fp) ifs tt/\tt=tS.t X.K)
  (hk:∀(s:Shared) (H:Hp) (C:Addr) (cl:List (Str×Addr)) (fp:List Addr),∃te,PE (X.blk s H scope (compEnvC scope cl C X.env) fp) kx te/\te=kS.t X.K)
  (he:∀(s:Shared) (H:Hp) (C:Addr) (cl:List (Str×Addr)) (fp:List Addr),∃te,PE (X.blk s H scope (compEnvC scope cl C X.env) fp) vx te/\te=eS.t X.K) (hs:∀x,foldedSetIterable iter X.env x=pure x:=by intro _;rfl):
  PE X (.DictComp kx vx [⟨tg,iter,ifs,0⟩] scope pos) (tDc wi (gS.t X.K) (tS.t X.K) (kS.t X.K) (eS.t X.K) (own.map (·.2))):=
 pe_dc hc hN hi ok (λa b c d e=>by obtain⟨_,h,rfl⟩:=hg a b c d e;exact h) (λa b c d e=>by obtain⟨_,h,rfl⟩:=ht a b c d e;exact h) (λa b c d e=>by obtain⟨_,h,rfl⟩:=hk a b c d e;exact h) (λa b c d e=>by obtain⟨_,h,rfl⟩:=he a b c d e;exact h) hs
end
/-- x,y=e1,e2 where a tuple is made -/
def Tu (i j:Nat)(p:SP)(hp:p.ts=[i,j]):SS where
 t:=λK=>tAsg (tTup (p.t K)) (gTup K 2 ((sP.cons (aY i) (sP.cons (aY j) sP.nil)).t K))
 ev:=λρ s=>(p.ev ρ ρ s).bind λx=>some (.nx x.1 x.2)
 ok:=by
  intro K sk F0 H0 F H σ ρ aj s out D w h q
  obtain⟨⟨x,s1⟩,h1,h2⟩:=aL h
  cases h2
  refine p.ok K w.pre w h1 λvs F1 H1 fv sF w1 hl=>?_
  rw [hp] at hl w1
  match vs,hl with
  |[v1,v2],_=>
   refine⟨by show 2<=sizeLine;decide,λa na=>⟨a,[v1,v2],rfl,.inl (.inl upd_same),rfl,?_⟩⟩
   have sr:br F1 H1 F1 (L2.upd H1 a (.tup [v1,v2])):=.raw (sk:=sk) w1.st.sub' na
   have w2:=w1.next (sr.any (sk:=sk)) (w1.bj.keep sr)
   exact⟨v1,[v2],rfl,v2,[],rfl,rfl,q F1 _ _ fv sF w2⟩
section
variable {ρ:List Slot}{s:ae}{a b c:SE}{i j k:Nat}
@[simp] theorem CW {p p':Int->Int->Bool}:(SE.ay p p' a b c).ev ρ s=(a.ev ρ s).bind λx=>(b.ev ρ x.2).bind λy=>match x.1.1,y.1.1 with
  |.int i,.int j=>if p i j=true then (c.ev ρ y.2).bind λz=>match z.1.1 with|.int k=>some ((.bool (p' j k),true),z.2)|_=>none else some ((.bool false,true),y.2)
  |_,_=>none:=rfl
@[simp] theorem uS:(SI.down a b).ev ρ s=(a.ev ρ s).bind λx=>(b.ev ρ x.2).bind λy=>match x.1.1,y.1.1 with|.int i,.int j=>if (-1000000<=i/\i<=1000000)/\-1000000<=j/\j<=1000000 then some (gJ i (i-j).toNat,y.2) else none|_,_=>none:=rfl
@[simp] theorem Ek {it it1:SI}{g g1:SG}{tt tt1:ST}{vs vs1:List Nat}{hv:∀i∈g.ix,i∈vs}{hv1:∀i∈g1.ix,i∈vs1}:(SE.TV it g tt it1 g1 tt1 a vs vs1 hv hv1).ev ρ s=(it.ev ρ s).bind λx=>(Dq g.ev tt.ev it1.ev g1.ev tt1.ev a.ev vs1 (bu ρ vs) x.1 x.2).bind λy=>if y.1.length<=100000 then some ((.list (y.1.map (·.1)),y.1.all fP),y.2) else none:=rfl
@[simp] theorem Dg:(P5 i a).ev ρ s=match ρ[i]? with|some (.gI f)=>((a.ev ρ s).bind λy=>match keyOf y.1.1 with|some j=>some ((.bool (cV f j).isSome,true),y.2)|none=>none)|_=>none:=rfl
@[simp] theorem E1 {d9:List Slot}{it:SI}{g:SG}{tt:ST}{vs:List Nat}{hv:∀i∈g.ix,i∈vs}{r:SP}:(SP.dc i it g tt a b vs hv r).ev ρ d9 s=(it.ev ρ s).bind λx=>(eN g.ev tt.ev a.ev b.ev (bu ρ vs) x.1 [] x.2).bind λy=>if y.1.length<=100000 then r.ev ρ (d9.set i (.gI y.1)) y.2 else none:=rfl
@[simp] theorem ya {p:SP}{hp:p.ts=[i,j]}:(Tu i j p hp).ev ρ s=(p.ev ρ ρ s).bind λx=>some (.nx x.1 x.2):=rfl
@[simp] theorem Fv {it:SI}{g:SG}{tt:ST}{vs:List Nat}{hv:∀i∈g.ix,i∈vs}:(SS.UQ i it g tt a b vs hv).ev ρ s=((SP.dc i it g tt a b vs hv SP.nil).ev ρ ρ s).bind λx=>some (.nx x.1 x.2):=rfl
end
end Pu
namespace Pu
open PySem L2
class Enc (α:Type) where
 enc:α->PyData
open Enc
structure T3 (α β γ:Type) where
 x:α
 y:β
 z:γ
deriving DecidableEq
structure T4 (α β γ δ:Type) where
 x:α
 y:β
 z:γ
 u:δ
deriving DecidableEq
structure T5 (α β γ δ ε:Type) where
 x:α
 y:β
 z:γ
 u:δ
 v:ε
deriving DecidableEq
instance [Inhabited α][Inhabited β][Inhabited γ]:Inhabited (T3 α β γ):=⟨⟨default,default,default⟩⟩
instance [Inhabited α][Inhabited β][Inhabited γ][Inhabited δ]:Inhabited (T4 α β γ δ):=⟨⟨default,default,default,default⟩⟩
instance [Inhabited α][Inhabited β][Inhabited γ][Inhabited δ][Inhabited ε]:Inhabited (T5 α β γ δ ε):=⟨⟨default,default,default,default,default⟩⟩
instance:Enc Int:=⟨.int⟩
instance:Enc Bool:=⟨.bool⟩
instance:Enc Unit:=⟨λ_=>.none⟩
instance:Enc Str:=⟨.str⟩
instance [Enc α]:Enc (List α):=⟨λxs=>.list (xs.map enc)⟩
instance [Enc α]:Enc (Option α):=⟨λo=>match o with|none=>.none|some x=>enc x⟩
instance [Enc α][Enc β]:Enc (α×β):=⟨λp=>.tuple [enc p.1,enc p.2]⟩
instance [Enc α][Enc β][Enc γ]:Enc (T3 α β γ):=⟨λp=>.tuple [enc p.x,enc p.y,enc p.z]⟩
instance [Enc α][Enc β][Enc γ][Enc δ]:Enc (T4 α β γ δ):=⟨λp=>.tuple [enc p.x,enc p.y,enc p.z,enc p.u]⟩
instance [Enc α][Enc β][Enc γ][Enc δ][Enc ε]:Enc (T5 α β γ δ ε):=⟨λp=>.tuple [enc p.x,enc p.y,enc p.z,enc p.u,enc p.v]⟩
/-- no list within -/
class Flat (α:Type) [Enc α]:Prop where
 fl:∀x:α,aB (enc x)=true
instance:Flat Int:=⟨λ_=>rfl⟩
instance:Flat Bool:=⟨λ_=>rfl⟩
instance:Flat Unit:=⟨λ_=>rfl⟩
instance:Flat Str:=⟨λ_=>rfl⟩
instance [Enc α][Flat α]:Flat (Option α):=⟨λo=>match o with|none=>rfl|some x=>Flat.fl x⟩
instance [Enc α][Enc β][Flat α][Flat β]:Flat (α×β):=⟨λp=>by
 show gv [enc p.1,enc p.2]=true
 simp [gv,Flat.fl]⟩
instance [Enc α][Enc β][Enc γ][Flat α][Flat β][Flat γ]:Flat (T3 α β γ):=⟨λp=>by
 show gv [enc p.x,enc p.y,enc p.z]=true
 simp [gv,Flat.fl]⟩
theorem Pf [Enc α][Flat α]:∀xs:List α,gv (xs.map enc)=true
 |[]=>rfl
 |x::xs=>by simp [gv,Flat.fl,Pf xs]
/-- data with == -/
class bR (α:Type) extends Enc α where
 dec:DecidableEq α
 dep:Nat
 lay:∀x:α,(enc x).canLay0=true
 dg:∀x:α,(enc x).depth<=dep
 eqv:∀x y:α,PyData.eqv (enc x) (enc y)=decide (x=y)
instance (priority:=50)[bR α]:DecidableEq α:=bR.dec
def gju [bR α]:∀xs:List α,PyData.canLayAll0 (xs.map enc)=true
 |[]=>rfl
 |x::xs=>by simp [PyData.canLayAll0,bR.lay,gju xs]
theorem gxv [bR α]:∀xs:List α,PyData.depthAll (xs.map enc)<=bR.dep α
 |[]=>Kbc _
 |x::xs=>by
  have h1:=bR.dg x
  have h2:=gxv xs
  simp only [Kal,PyData.depthAll]
  omega
theorem gzt [bR α]:∀xs ys:List α,PyData.eqvAll (xs.map enc) (ys.map enc)=decide (xs=ys)
 |[],[]=>by simp [PyData.eqvAll]
 |[],y::ys=>by simp [PyData.eqvAll]
 |x::xs,[]=>by simp [PyData.eqvAll]
 |x::xs,y::ys=>by
  simp only [Kal,PyData.eqvAll,bR.eqv,gzt xs ys,List.cons.injEq]
  by_cases h1:x=y <;> by_cases h2:xs=ys <;> simp [h1,h2]
instance:bR Int where
 dec:=inferInstance
 dep:=0
 lay:=λ_=>rfl
 dg:=λ_=>Kak _
 eqv:=λx y=>by
  show PyData.eqv (.int x) (.int y)=_
  simp only [PyData.eqv]
  by_cases h:x=y <;> simp [h]
instance:bR Bool where
 dec:=inferInstance
 dep:=0
 lay:=λ_=>rfl
 dg:=λ_=>Kak _
 eqv:=λx y=>by
  cases x <;> cases y <;> rfl
instance [bR α]:bR (List α) where
 dec:=inferInstance
 dep:=bR.dep α+1
 lay:=λxs=>by
  show PyData.canLay0 (.list (xs.map enc))=true
  simpa [PyData.canLay0] using gju xs
 dg:=λxs=>by
  show PyData.depth (.list (xs.map enc))<=_
  have:=gxv xs
  simp only [PyData.depth];omega
 eqv:=λxs ys=>by
  show PyData.eqv (.list (xs.map enc)) (.list (ys.map enc))=_
  simp only [PyData.eqv];exact gzt xs ys
instance [bR α][bR β]:bR (α×β) where
 dec:=inferInstance
 dep:=max (bR.dep α) (bR.dep β)+1
 lay:=λp=>by
  show PyData.canLay0 (.tuple [enc p.1,enc p.2])=true
  simp [PyData.canLay0,PyData.canLayAll0,bR.lay]
 dg:=λp=>by
  show PyData.depth (.tuple [enc p.1,enc p.2])<=_
  have h1:=bR.dg p.1
  have h2:=bR.dg p.2
  simp only [PyData.depth,PyData.depthAll];omega
 eqv:=λp q=>by
  show PyData.eqv (.tuple [enc p.1,enc p.2]) (.tuple [enc q.1,enc q.2])=_
  simp only [PyData.eqv,PyData.eqvAll,bR.eqv]
  obtain⟨a,b⟩:=p
  obtain⟨c,d⟩:=q
  by_cases h1:a=c <;> by_cases h2:b=d <;> simp [h1,h2]
instance [bR α][bR β][bR γ]:bR (T3 α β γ) where
 dec:=inferInstance
 dep:=max (max (bR.dep α) (bR.dep β)) (bR.dep γ)+1
 lay:=λp=>by
  show PyData.canLay0 (.tuple [enc p.x,enc p.y,enc p.z])=true
  simp [PyData.canLay0,PyData.canLayAll0,bR.lay]
 dg:=λp=>by
  show PyData.depth (.tuple [enc p.x,enc p.y,enc p.z])<=_
  have h1:=bR.dg p.x
  have h2:=bR.dg p.y
  have h3:=bR.dg p.z
  simp only [PyData.depth,PyData.depthAll];omega
 eqv:=λp q=>by
  show PyData.eqv (.tuple [enc p.x,enc p.y,enc p.z]) (.tuple [enc q.x,enc q.y,enc q.z])=_
  simp only [PyData.eqv,PyData.eqvAll,bR.eqv]
  obtain⟨a,b,e⟩:=p
  obtain⟨c,d,f⟩:=q
  by_cases h1:a=c <;> by_cases h2:b=d <;> by_cases h3:e=f <;> simp [h1,h2,h3]
instance [bR α][bR β][bR γ][bR δ]:bR (T4 α β γ δ) where
 dec:=inferInstance
 dep:=max (max (bR.dep α) (bR.dep β)) (max (bR.dep γ) (bR.dep δ))+1
 lay:=λp=>by
  show PyData.canLay0 (.tuple [enc p.x,enc p.y,enc p.z,enc p.u])=true
  simp [PyData.canLay0,PyData.canLayAll0,bR.lay]
 dg:=λp=>by
  show PyData.depth (.tuple [enc p.x,enc p.y,enc p.z,enc p.u])<=_
  have h1:=bR.dg p.x
  have h2:=bR.dg p.y
  have h3:=bR.dg p.z
  have h4:=bR.dg p.u
  simp only [PyData.depth,PyData.depthAll];omega
 eqv:=λp q=>by
  show PyData.eqv (.tuple [enc p.x,enc p.y,enc p.z,enc p.u]) (.tuple [enc q.x,enc q.y,enc q.z,enc q.u])=_
  simp only [PyData.eqv,PyData.eqvAll,bR.eqv]
  obtain⟨a,b,e,g⟩:=p
  obtain⟨c,d,f,h⟩:=q
  by_cases h1:a=c <;> by_cases h2:b=d <;> by_cases h3:e=f <;> by_cases h4:g=h <;> simp [h1,h2,h3,h4]
/-- never cqW -/
class NN (α:Type) [Enc α]:Prop where
 nn:∀x:α,BO (enc x)=false
instance:NN Int:=⟨λ_=>rfl⟩
instance:NN Bool:=⟨λ_=>rfl⟩
instance:NN Str:=⟨λ_=>rfl⟩
instance [Enc α]:NN (List α):=⟨λ_=>rfl⟩
instance [Enc α][Enc β]:NN (α×β):=⟨λ_=>rfl⟩
instance [Enc α][Enc β][Enc γ]:NN (T3 α β γ):=⟨λ_=>rfl⟩
instance [Enc α][Enc β][Enc γ][Enc δ]:NN (T4 α β γ δ):=⟨λ_=>rfl⟩
theorem Dr {d:PyData}(h:BO d=false):PyData.eqv .none d=false:=by cases d <;> first|rfl|(simp [BO] at h)
theorem Ds {d:PyData}(h:BO d=false):PyData.eqv d .none=false:=by cases d <;> first|rfl|(simp [BO] at h)
instance [bR α][NN α]:bR (Option α) where
 dec:=inferInstance
 dep:=bR.dep α
 lay:=λo=>match o with|none=>rfl|some x=>bR.lay x
 dg:=λo=>match o with|none=>Kbc _|some x=>bR.dg x
 eqv:=λo q=>match o,q with
  |none,none=>by simp [PyData.eqv,enc]
  |none,some y=>(Dr (NN.nn y)).trans (by simp)
  |some x,none=>(Ds (NN.nn x)).trans (by simp)
  |some x,some y=>(bR.eqv x y).trans (by simp)
theorem yH [bR α](x y:α)(hd:bR.dep α<=64):GL (enc x) (enc y)=some (decide (x=y)):=by
 have sx:SeqAt.shaped (enc x)=true:=by
  unfold SeqAt.shaped
  rw [bR.lay,decide_eq_true (Kau (bR.dg x) hd)];rfl
 have sy:SeqAt.shaped (enc y)=true:=by
  unfold SeqAt.shaped
  rw [bR.lay,decide_eq_true (Kau (bR.dg y) hd)];rfl
 rw [<-bR.eqv x y]
 generalize enc x=d at sx
 generalize enc y=e at sy
 unfold GL
 split
 ·rename_i i j
  simp only [PyData.eqv]
  by_cases h:i=j <;> simp [h]
 ·simp only [PyData.eqv]
 ·rw [if_pos ⟨sx,sy⟩]
variable [aO]
def JE {α:Type}[Enc α](e:SE)(ρ:List Slot)(s:ae)(x:α)(s':ae)(w:Bool):Prop:=∃w',e.ev ρ s=some ((enc x,w'),s')/\(w=true->w'=true)
def JT (c:ST)(ρ:List Slot)(s:ae)(P:Prop)[Decidable P](s':ae):Prop:=c.ev ρ s=some (decide P,s')
def JI {α:Type}[Enc α](i:SI)(ρ:List Slot)(s:ae)(xs:List α)(s':ae):Prop:=i.ev ρ s=some (xs.map enc,s')
def JA (a:SA)(ρ:List Slot)(s:ae)(ds:List PyData)(s':ae)(w:Bool):Prop:=∃ku:List Vl,a.ev ρ s=some (ku,s')/\ku.map (·.1)=ds/\(w=true->(ku.all λz=>z.2 ||aB z.1)=true)
def JO (o:SO)(ρ:List Slot)(s:ae)(x:Option Int)(s':ae):Prop:=o.ev ρ s=some (x,s')
def JC (r:SR)(ρ:List Slot)(s:ae)(sl:List Slot)(s':ae):Prop:=r.ev ρ s=some (sl,s')
def JF {α:Type}[Enc α](m:Fn)(args:List Slot)(s:ae)(x:α)(s':ae)(w:Bool):Prop:=∃w',m args s=some ((enc x,w'),s')/\(w=true->w'=true)
section
variable {ρ:List Slot}{s s1 s2 s3:ae}{a b c:SE}{i j k:Nat}{w w1 w2:Bool}
theorem sX {α:Type}[Enc α]{x:α}(h:JE a ρ s x s1 w):JE a ρ s x s1 false:=by
 obtain⟨w',e,_⟩:=h
 exact⟨w',e,nofun⟩
theorem Iv {α:Type}[Enc α]{x y:α}(h:JE a ρ s x s1 w)(e:x=y):JE a ρ s y s1 w:=e ▸ h
theorem aq {α:Type}[Enc α]{x:α}(h:ρ[i]? = some (.dat (enc x))):JE (ak i) ρ s x s false:=⟨false,by rw [gjs,h],nofun⟩
theorem JE.U5 {α:Type}[Enc α]{x:α}(h:ρ[i]? = some (.own (enc x))):JE (ak i) ρ s x s false:=⟨false,by rw [gjs,h],nofun⟩
theorem JE.ac (n:Int):JE (SE.ac n) ρ s n s true:=⟨true,rfl,λ_=>rfl⟩
theorem JE.bool (n:Bool):JE (SE.bool n) ρ s n s true:=⟨true,rfl,λ_=>rfl⟩
theorem JE.nov {α:Type}[Enc α]:JE SE.non ρ s (Option.none:Option α) s true:=⟨true,rfl,λ_=>rfl⟩
theorem JE.jst {α:Type}[Enc α]{x:α}(h:JE a ρ s x s1 w):JE a ρ s (Option.some x) s1 w:=h
theorem hxs {α:Type}[Enc α][Inhabited α]{x:Option α}(h:JE a ρ s x s1 w)(hx:x.isSome=true):JE a ρ s (x.getD default) s1 w:=by
 cases x with
 |none=>cases hx
 |some y=>exact h
theorem gX {r:Frag->R2}{f:PyData->PyData->Option Vl}{hr:Qk r f}{d e:PyData}{wa wb:Bool}{z:Vl}(ha:a.ev ρ s=some ((d,wa),s1))(hb:b.ev ρ s1=some ((e,wb),s2))(hf:f d e=some z):(oU r f hr a b).ev ρ s=some (z,s2):=by
 show ((a.ev ρ s).bind λx=>(b.ev ρ x.2).bind λy=>(f x.1.1 y.1.1).bind λz=>some (z,y.2))=_
 rw [ha]
 simp only [Kae]
 rw [hb]
 simp only [Kae]
 rw [hf];rfl
theorem qz {r:Frag->List V->Hp->VK->Prop}{f:List PyData->Option Vl}{hr:Vh r f}{d:PyData}{wa:Bool}{z:Vl}(ha:a.ev ρ s=some ((d,wa),s1))(hf:f [d]=some z):(uP r f hr (.cons a .nil)).ev ρ s=some (z,s1):=by
 rw [Kl,MD,ha]
 simp only [Kae,gxl,Kal,Kdt]
 rw [hf];rfl
theorem Mj {r:Frag->List V->Hp->VK->Prop}{f:List PyData->Option Vl}{hr:Vh r f}{d e:PyData}{wa wb:Bool}{z:Vl}(ha:a.ev ρ s=some ((d,wa),s1))(hb:b.ev ρ s1=some ((e,wb),s2))(hf:f [d,e]=some z):(uP r f hr (.cons a (.cons b .nil))).ev ρ s=some (z,s2):=by
 rw [Kl,MD,ha]
 simp only [Kae]
 rw [MD,hb]
 simp only [Kae,gxl,Kal,Kdt]
 rw [hf];rfl
section
variable {x y:Int}(ha:JE a ρ s x s1 w1)(hb:JE b ρ s1 y s2 w2)
include ha hb
theorem j8:JE (gZ a b) ρ s (x+y) s2 true:=by
 obtain⟨_,ea,_⟩:=ha;obtain⟨_,eb,_⟩:=hb;exact⟨true,gX ea eb rfl,λ_=>rfl⟩
theorem AO:JE (uO a b) ρ s (x-y) s2 true:=by
 obtain⟨_,ea,_⟩:=ha;obtain⟨_,eb,_⟩:=hb;exact⟨true,gX ea eb rfl,λ_=>rfl⟩
theorem P0 (h:x.natAbs<18446744073709551616∨y.natAbs<18446744073709551616):JE (GV a b) ρ s (x*y) s2 true:=by
 obtain⟨_,ea,_⟩:=ha;obtain⟨_,eb,_⟩:=hb
 refine⟨true,gX ea eb ?_,λ_=>rfl⟩
 show gQ _ (.int x) (.int y)=_
 rw [RJ,if_pos (by unfold mL;rcases h with h|h <;> simp [h])];rfl
theorem IA (h:0<y/\y<1000000000000000000000000000000000000000000000000000000000000):JE (BS a b) ρ s (x / y) s2 true:=by
 obtain⟨_,ea,_⟩:=ha;obtain⟨_,eb,_⟩:=hb
 refine⟨true,gX ea eb ?_,λ_=>rfl⟩
 show gQ _ (.int x) (.int y)=_
 rw [RJ,if_pos (by unfold mj;simp [h.1,h.2])];rfl
theorem DY (h:0<y):JE (yP a b) ρ s (x % y) s2 true:=by
 obtain⟨_,ea,_⟩:=ha;obtain⟨_,eb,_⟩:=hb
 refine⟨true,gX ea eb ?_,λ_=>rfl⟩
 show gQ _ (.int x) (.int y)=_
 rw [RJ,if_pos (decide_eq_true h)];rfl
theorem JE.ar (h:iE x y=true):JE (Iw a b) ρ s (x ^ y.toNat) s2 true:=by
 obtain⟨_,ea,_⟩:=ha;obtain⟨_,eb,_⟩:=hb
 refine⟨true,gX ea eb ?_,λ_=>rfl⟩
 show gQ _ (.int x) (.int y)=_
 rw [RJ,if_pos h];rfl
theorem wW:JE (tX a b) ρ s (decide (x<y)) s2 true:=by
 obtain⟨_,ea,_⟩:=ha;obtain⟨_,eb,_⟩:=hb;exact⟨true,gX ea eb rfl,λ_=>rfl⟩
theorem JE.le:JE (SE.le a b) ρ s (decide (x<=y)) s2 true:=by
 obtain⟨_,ea,_⟩:=ha;obtain⟨_,eb,_⟩:=hb;exact⟨true,gX ea eb rfl,λ_=>rfl⟩
theorem JE.gt:JE (SE.gt a b) ρ s (decide (y<x)) s2 true:=by
 obtain⟨_,ea,_⟩:=ha;obtain⟨_,eb,_⟩:=hb;exact⟨true,gX ea eb rfl,λ_=>rfl⟩
theorem JE.ge:JE (SE.ge a b) ρ s (decide (y<=x)) s2 true:=by
 obtain⟨_,ea,_⟩:=ha;obtain⟨_,eb,_⟩:=hb;exact⟨true,gX ea eb rfl,λ_=>rfl⟩
theorem JE.max2:JE (hxy a b) ρ s (max x y) s2 true:=by
 obtain⟨_,ea,_⟩:=ha;obtain⟨_,eb,_⟩:=hb;exact⟨true,Mj ea eb rfl,λ_=>rfl⟩
theorem JE.am:JE (PR a b) ρ s (min x y) s2 true:=by
 obtain⟨_,ea,_⟩:=ha;obtain⟨_,eb,_⟩:=hb;exact⟨true,Mj ea eb rfl,λ_=>rfl⟩
theorem XQ (h:0<y/\y<1000000000000000000000000000000000000000000000000000000000000):JE (PM a b) ρ s ((x / y,x % y):Int×Int) s2 true:=by
 obtain⟨_,ea,_⟩:=ha;obtain⟨_,eb,_⟩:=hb
 refine⟨true,Mj ea eb ?_,λ_=>rfl⟩
 show (if mj x y=true then some (PyData.tuple [.int (x / y),.int (x % y)],true) else none)=_
 rw [if_pos (by unfold mj;simp [h.1,h.2])];rfl
end
theorem JE.neg {x:Int}(ha:JE a ρ s x s1 w):JE (SE.ar a) ρ s (-x) s1 true:=by
 obtain⟨_,ea,_⟩:=ha
 exact⟨true,by rw [ED,ea];rfl,λ_=>rfl⟩
theorem JE.abs {x:Int}(ha:JE a ρ s x s1 w):JE (SE.abs a) ρ s (if x<0 then -x else x) s1 true:=by
 obtain⟨_,ea,_⟩:=ha;exact⟨true,qz ea rfl,λ_=>rfl⟩
theorem PD {x:Int}(ha:JE a ρ s x s1 w):JE (yS a) ρ s x s1 true:=by
 obtain⟨_,ea,_⟩:=ha;exact⟨true,qz ea rfl,λ_=>rfl⟩
def b2i (b:Bool):Int:=if b=true then 1 else 0
theorem JE.FI {x:Bool}(ha:JE a ρ s x s1 w):JE (yS a) ρ s (b2i x) s1 true:=by
 obtain⟨_,ea,_⟩:=ha;exact⟨true,qz ea (by cases x <;> rfl),λ_=>rfl⟩
section
variable {α:Type}[bR α]{x y:α}(ha:JE a ρ s x s1 w1)(hb:JE b ρ s1 y s2 w2)
include ha hb
theorem oV {inst:Decidable (x=y)}(hd:bR.dep α<=64:=by decide):JE (hxc a b) ρ s (@decide (x=y) inst) s2 true:=by
 obtain⟨_,ea,_⟩:=ha;obtain⟨_,eb,_⟩:=hb
 have e:@decide (x=y) inst=@decide (x=y) (bR.dec x y):=by congr 1
 rw [e]
 exact⟨true,gX ea eb (by rw [yH x y hd];rfl),λ_=>rfl⟩
theorem JE.ne {inst:Decidable (x≠y)}(hd:bR.dep α<=64:=by decide):JE (SE.ne a b) ρ s (@decide (x≠y) inst) s2 true:=by
 obtain⟨_,ea,_⟩:=ha;obtain⟨_,eb,_⟩:=hb
 have e:@decide (x≠y) inst=!@decide (x=y) (bR.dec x y):=by
  by_cases h:x=y <;> simp [h]
 rw [e]
 exact⟨true,gX ea eb (by rw [yH x y hd];simp [enc]),λ_=>rfl⟩
end
theorem JE.TF {α:Type}[Enc α][NN α]{x:Option α}(ha:JE a ρ s x s1 w):JE (SE.TF a SE.non) ρ s (decide (x=Option.none)) s1 true:=by
 obtain⟨_,ea,_⟩:=ha
 refine⟨true,gX ea (EI) ?_,λ_=>rfl⟩
 cases x with
 |none=>rfl
 |some y=>show some (PyData.bool (BO (enc y)),true)=_;rw [NN.nn y];rfl
theorem JE.RK {x y:Str}(ha:JE a ρ s x s1 w1)(hb:JE b ρ s1 y s2 w2):JE (SE.RK a b) ρ s (decide (x=y)) s2 true:=by
 obtain⟨_,ea,_⟩:=ha;obtain⟨_,eb,_⟩:=hb;exact⟨true,gX ea eb rfl,λ_=>rfl⟩
/-- what repr cqL -/
def rep {α:Type}[Enc α](x:α):Str:=(enc x).shown
theorem JE.repr {α:Type}[Enc α]{x:α}(ha:JE a ρ s x s1 w)(h:BP (enc x)=true):JE (X6 a) ρ s (rep x) s1 true:=by
 obtain⟨_,ea,_⟩:=ha
 exact⟨true,qz ea (by show (if BP (enc x)=true then _ else _)=_;rw [if_pos h];rfl),λ_=>rfl⟩
theorem tZ {x:Bool}(ha:JE a ρ s x s1 w):JE a ρ s (decide (x=true)) s1 w:=by rw [Kda];exact ha
theorem PF {P Q:Prop}[Decidable P][Decidable Q](ha:JE a ρ s (decide P) s1 w1)(hb:P->JE b ρ s1 (decide Q) s1 w2):JE (K7 a b) ρ s (decide (P/\Q)) s1 false:=by
 obtain⟨_,ea,_⟩:=ha
 by_cases h:P
 ·obtain⟨w',eb,_⟩:=hb h
  refine⟨w',?_,nofun⟩
  rw [gqo,ea]
  simp only [Kae]
  rw [show (enc (decide P))=PyData.bool true from by simp [h,enc]]
  show b.ev ρ s1=_
  rw [eb]
  simp [h]
 ·refine⟨true,?_,nofun⟩
  rw [gqo,ea]
  simp only [Kae]
  rw [show (enc (decide P))=PyData.bool false from by simp [h,enc]]
  simp [h,enc]
theorem JT.ac {P:Prop}[Decidable P](h:JE a ρ s (decide P) s1 w):JT (ST.ac a) ρ s P s1:=by
 obtain⟨_,e,_⟩:=h
 unfold JT
 rw [FT,e];rfl
theorem JT.yes:JT cN ρ s True s:=by unfold JT;rw [Sl];simp
theorem P6 {c:ST}{P:Prop}[Decidable P](h:JT c ρ s P s1):JT (K3 c) ρ s (¬P) s1:=by
 unfold JT at h ⊢
 rw [zN,h];simp
theorem hjl {c d:ST}{P Q:Prop}[Decidable P][Decidable Q](h:JT c ρ s P s1)(g:P->JT d ρ s1 Q s1):JT (wk c d) ρ s (P/\Q) s1:=by
 unfold JT at h g ⊢
 rw [gzl,h]
 by_cases p:P
 ·simp [p,g p]
 ·simp [p]
theorem JT.or {c d:ST}{P Q:Prop}[Decidable P][Decidable Q](h:JT c ρ s P s1)(g:¬P->JT d ρ s1 Q s1):JT (G1 c d) ρ s (P∨Q) s1:=by
 unfold JT at h g ⊢
 rw [FN,h]
 by_cases p:P
 ·simp [p]
 ·simp [p,g p]
theorem JT.YI {c d:ST}{P:Prop}[Decidable P]{v:Bool×ae}(h:JT c ρ s P s1)(g:P->JT d ρ s1 (v.1=true) v.2):JT (wk c d) ρ s ((if P then v else (false,s1)).1=true) (if P then v else (false,s1)).2:=by
 unfold JT at h g ⊢
 rw [gzl,h]
 by_cases p:P
 ·have:=g p
  simp [p] at this ⊢
  exact this
 ·simp [p]
theorem JT.asB {c:ST}{P:Prop}[Decidable P](h:JT c ρ s P s1):JT c ρ s (decide P=true) s1:=by
 unfold JT at h ⊢
 rw [h];simp
theorem JT.nm {c:ST}{v:Bool×ae}{b:Bool}{s2:ae}(h:JT c ρ s (v.1=true) v.2)(e:v=(b,s2)):JT c ρ s (b=true) s2:=by subst e;exact h
theorem t6 {α:Type}[Enc α]{v:α×ae}{x:α}{s2:ae}(h:JE a ρ s v.1 v.2 w)(e:v=(x,s2)):JE a ρ s x s2 w:=by subst e;exact h
theorem JE.ite {α:Type}[Enc α]{c:ST}{P:Prop}[Decidable P]{x y:α}(hc:JT c ρ s P s1)(ha:P->JE a ρ s1 x s1 w)(hb:¬P->JE b ρ s1 y s1 w):JE (hxz c a b) ρ s (if P then x else y) s1 w:=by
 unfold JT at hc
 by_cases h:P
 ·obtain⟨w',e,q⟩:=ha h
  exact⟨w',by rw [Sv,hc];simp [h,e],q⟩
 ·obtain⟨w',e,q⟩:=hb h
  exact⟨w',by rw [Sv,hc];simp [h,e],q⟩
theorem JE.bqU {α:Type}[Enc α]{c:ST}{P:Prop}[Decidable P]{x y:α×ae}(hc:JT c ρ s P s1)(ha:P->JE a ρ s1 x.1 x.2 w)(hb:¬P->JE b ρ s1 y.1 y.2 w):JE (hxz c a b) ρ s (if P then x else y).1 (if P then x else y).2 w:=by
 unfold JT at hc
 by_cases h:P
 ·obtain⟨w',e,q⟩:=ha h
  exact⟨w',by rw [Sv,hc];simp [h,e],q⟩
 ·obtain⟨w',e,q⟩:=hb h
  exact⟨w',by rw [Sv,hc];simp [h,e],q⟩
end
end Pu
namespace Pu
variable [aO]
open PySem L2 Enc
/-- xs[i] -/
def au {α:Type}[Inhabited α](xs:List α)(i:Int):α:=(atI xs i).getD default
def cut {α:Type}(xs:List α)(lo hi:Option Int):List α:=(xs.drop (HT.sIx xs.length 0 lo)).take (HT.sIx xs.length xs.length hi-HT.sIx xs.length 0 lo)
def mulL {α:Type}(xs:List α)(k:Int):List α:=(Kay k.toNat xs).flatten
def rng (lo hi:Int):List Int:=(Kac (hi-lo).toNat).map λ(k:Nat)=>lo+(k:Int)
def UG (hi lo:Int):List Int:=(Kac (hi-lo).toNat).map λ(k:Nat)=>hi-(k:Int)
def aX {α:Type}(k:Int):List α->List (Int×α)
 |[]=>[]
 |x::xs=>(k,x)::aX (k+1) xs
theorem uD {α:Type}(f:α->PyData)(xs:List α)(lo hi:Option Int):cR (xs.map f) lo hi=(cut xs lo hi).map f:=by
 unfold cR cut
 rw [Kaf,<-List.map_drop,<-KcO]
theorem vD {α:Type}(f:α->PyData)(xs:List α):∀n,vC n (xs.map f)=((Kay n xs).flatten).map f
 |0=>rfl
 |n+1=>by
  show xs.map f++vC n (xs.map f)=_
  rw [vD f xs n,KbB,Kap,Kav]
theorem mV:∀(n:Nat) (lo:Int),sU lo n=(Kac n).map λ(k:Nat)=>PyData.int (lo+(k:Int)):=by
 intro n lo
 apply Kdo
 intro i
 rw [fxb,KaO]
 by_cases h:i<n
 ·rw [if_pos h,Kbq h];rfl
 ·rw [if_neg h,KbI (by simpa using h)];rfl
theorem fjc {α:Type}[Enc α]:∀(xs:List α) (k:Int),gM k (xs.map enc)=(aX k xs).map enc
 |[],_=>rfl
 |x::xs,k=>by
  show PyData.tuple [.int k,enc x]::gM (k+1) (xs.map enc)=_
  rw [fjc xs (k+1)];rfl
theorem fqp {α β:Type}[Enc α][Enc β]:∀(xs:List α) (ys:List β),jG (xs.map enc) (ys.map enc)=(xs.zip ys).map enc
 |[],ys=>by cases ys <;> rfl
 |x::xs,[]=>rfl
 |x::xs,y::ys=>by
  show PyData.tuple [enc x,enc y]::jG (xs.map enc) (ys.map enc)=_
  rw [fqp xs ys];rfl
theorem yc {α:Type}(f:α->PyData)(xs:List α)(i:Int):atI (xs.map f) i=(atI xs i).map f:=by
 unfold L2.atI
 simp only [Kaf,KaO]
 cases L2.ixN xs.length i <;> rfl
section
variable {ρ:List Slot}{s s1 s2 s3:ae}{a b c:SE}{i j k:Nat}{w w1 w2:Bool}
theorem JA.nil:JA SA.nil ρ s [] s true:=⟨[],rfl,rfl,λ_=>rfl⟩
theorem JA.cons {α:Type}[Enc α]{x:α}{r:SA}{ds:List PyData}(he:JE a ρ s x s1 true)(hr:JA r ρ s1 ds s2 w):JA (SA.cons a r) ρ s (enc x::ds) s2 w:=by
 obtain⟨w',e1,q1⟩:=he
 obtain⟨ku,e2,rfl,q2⟩:=hr
 exact⟨(enc x,w')::ku,by rw [MD,e1];simp [e2],rfl,λh=>by simp only [Ka7,q1 rfl,Bool.true_or,KcP];exact q2 h⟩
theorem JA.uz {α:Type}[Enc α][Flat α]{x:α}{r:SA}{ds:List PyData}(he:JE a ρ s x s1 w1)(hr:JA r ρ s1 ds s2 w):JA (SA.cons a r) ρ s (enc x::ds) s2 w:=by
 obtain⟨w',e1,q1⟩:=he
 obtain⟨ku,e2,rfl,q2⟩:=hr
 exact⟨(enc x,w')::ku,by rw [MD,e1];simp [e2],rfl,λh=>by simp only [Ka7,Flat.fl,Bool.or_true,KcP];exact q2 h⟩
theorem BU {α:Type}[Enc α]{x:α}{r:SA}{ds:List PyData}(he:JE a ρ s x s1 w1)(hr:JA r ρ s1 ds s2 w):JA (SA.cons a r) ρ s (enc x::ds) s2 false:=by
 obtain⟨w',e1,q1⟩:=he
 obtain⟨ku,e2,rfl,q2⟩:=hr
 exact⟨(enc x,w')::ku,by rw [MD,e1];simp [e2],rfl,nofun⟩
theorem JA.tup {r:SA}{ds:List PyData}(h:JA r ρ s ds s1 w)(hl:ds.length<=100000):∃w',(SE.tup r).ev ρ s=some ((.tuple ds,w'),s1)/\(w=true->w'=true):=by
 obtain⟨ku,e,rfl,q⟩:=h
 refine⟨_,?_,q⟩
 rw [FO,e]
 simp only [Kae]
 rw [if_pos (by simpa using hl)]
theorem JA.lst {r:SA}{ds:List PyData}(h:JA r ρ s ds s1 w)(hl:ds.length<=100000):∃w',(SE.lst r).ev ρ s=some ((.list ds,w'),s1)/\(w=true->w'=true):=by
 obtain⟨ku,e,rfl,q⟩:=h
 refine⟨_,?_,q⟩
 rw [Es,e]
 simp only [Kae]
 rw [if_pos (by simpa using hl)]
theorem PV {α β:Type}[Enc α][Enc β]{x:α}{y:β}{r:SA}(h:JA r ρ s [enc x,enc y] s1 w):JE (SE.tup r) ρ s ((x,y):α×β) s1 w:=h.tup (by simp)
theorem ID {α β γ:Type}[Enc α][Enc β][Enc γ]{x:α}{y:β}{z:γ}{r:SA}(h:JA r ρ s [enc x,enc y,enc z] s1 w):JE (SE.tup r) ρ s (T3.mk x y z) s1 w:=h.tup (by simp)
theorem JE.N8 {α β γ δ:Type}[Enc α][Enc β][Enc γ][Enc δ]{x:α}{y:β}{z:γ}{u:δ}{r:SA}(h:JA r ρ s [enc x,enc y,enc z,enc u] s1 w):JE (SE.tup r) ρ s (T4.mk x y z u) s1 w:=h.tup (by simp)
theorem JE.lst {α:Type}[Enc α]{xs:List α}{r:SA}(h:JA r ρ s (xs.map enc) s1 w)(hl:xs.length<=100000:=by decide):JE (SE.lst r) ρ s xs s1 w:=h.lst (by simpa using hl)
theorem PZ {ds:List PyData}{d:PyData}{n:Int}{wa:Bool}(ha:a.ev ρ s=some ((.tuple ds,wa),s1))(h:atI ds n=some d):∃w',(jh a (SE.ac n)).ev ρ s=some ((d,w'),s1):=by
 refine⟨false,gX ha Ed ?_⟩
 show (L2.atI ds n).map _=_
 rw [h];rfl
theorem JE.p21 {α β:Type}[Enc α][Enc β]{p:α×β}(ha:JE a ρ s p s1 w):JE (jh a (SE.ac 0)) ρ s p.1 s1 false:=by
 obtain⟨_,e,_⟩:=ha;obtain⟨w',h⟩:=PZ (n:=0) e rfl;exact⟨w',h,nofun⟩
theorem JE.p22 {α β:Type}[Enc α][Enc β]{p:α×β}(ha:JE a ρ s p s1 w):JE (jh a (SE.ac 1)) ρ s p.2 s1 false:=by
 obtain⟨_,e,_⟩:=ha;obtain⟨w',h⟩:=PZ (n:=1) e rfl;exact⟨w',h,nofun⟩
section
variable {α β γ δ ε:Type}[Enc α][Enc β][Enc γ][Enc δ][Enc ε]
theorem JE.p31 {p:T3 α β γ}(ha:JE a ρ s p s1 w):JE (jh a (SE.ac 0)) ρ s p.x s1 false:=by
 obtain⟨_,e,_⟩:=ha;obtain⟨w',h⟩:=PZ (n:=0) e rfl;exact⟨w',h,nofun⟩
theorem JE.p32 {p:T3 α β γ}(ha:JE a ρ s p s1 w):JE (jh a (SE.ac 1)) ρ s p.y s1 false:=by
 obtain⟨_,e,_⟩:=ha;obtain⟨w',h⟩:=PZ (n:=1) e rfl;exact⟨w',h,nofun⟩
theorem JE.p33 {p:T3 α β γ}(ha:JE a ρ s p s1 w):JE (jh a (SE.ac 2)) ρ s p.z s1 false:=by
 obtain⟨_,e,_⟩:=ha;obtain⟨w',h⟩:=PZ (n:=2) e rfl;exact⟨w',h,nofun⟩
end
theorem W5 {α:Type}[Inhabited α]{xs:List α}{i:Int}(h:-(xs.length:Int)<=i/\i<xs.length):atI xs i=some (au xs i):=by
 have:(atI xs i).isSome=true:=by
  unfold L2.atI L2.ixN
  by_cases h0:0<=i
  ·rw [if_pos h0,if_pos h.2]
   have hl:i.toNat<xs.length:=by omega
   show (xs[i.toNat]?).isSome=true
   rw [Kao hl];rfl
  ·rw [if_neg (by omega),if_pos (by omega)]
   have hl:(i+xs.length).toNat<xs.length:=by omega
   show (xs[(i+xs.length).toNat]?).isSome=true
   rw [Kao hl];rfl
 unfold au
 cases e:atI xs i with
 |none=>rw [e] at this;cases this
 |some y=>rfl
theorem rK {α:Type}[Enc α][Inhabited α]{xs:List α}{n:Int}(ha:JE a ρ s xs s1 w1)(hb:JE b ρ s1 n s2 w2)(h:-(xs.length:Int)<=n/\n<xs.length):JE (jh a b) ρ s (au xs n) s2 false:=by
 obtain⟨_,ea,_⟩:=ha;obtain⟨_,eb,_⟩:=hb
 refine⟨false,gX ea eb ?_,nofun⟩
 show (L2.atI (xs.map enc) n).map _=_
 rw [yc,W5 h];rfl
theorem JE.ixB {α:Type}[Enc α][Inhabited α]{xs:List α}{n:Int}{o:Bool}(he:ρ[i]? = some (.aS (xs.map enc) o))(hb:JE b ρ s n s2 w2)(h:-(xs.length:Int)<=n/\n<xs.length):JE (MT i b) ρ s (au xs n) s2 false:=by
 obtain⟨_,eb,_⟩:=hb
 refine⟨false,?_,nofun⟩
 rw [Ei,he]
 show ((b.ev ρ s).bind _)=_
 rw [eb]
 show (L2.atI (xs.map enc) n).map _=_
 rw [yc,W5 h];rfl
theorem JO.no:JO SO.no ρ s none s:=rfl
theorem JO.at {n:Int}(h:JE a ρ s n s1 w):JO (SO.at a) ρ s (some n) s1:=by
 obtain⟨_,e,_⟩:=h
 unfold JO
 rw [EL,e];rfl
theorem JE.sl {α:Type}[Enc α]{xs:List α}{lo hi:SO}{l h:Option Int}(ha:JE a ρ s xs s1 w1)(hl:JO lo ρ s1 l s2)(hh:JO hi ρ s2 h s3):JE (hxk a lo hi) ρ s (cut xs l h) s3 false:=by
 obtain⟨_,ea,_⟩:=ha
 refine⟨gv ((cut xs l h).map enc),?_,nofun⟩
 rw [Fz,ea]
 simp only [Kae]
 rw [hl]
 simp only [Kae]
 rw [hh]
 simp only [Kae]
 show (some (PyData.list (cR (xs.map enc) l h),gv (cR (xs.map enc) l h))).bind _=_
 rw [uD];rfl
theorem BW {α:Type}[Enc α][Flat α]{xs:List α}{lo hi:SO}{l h:Option Int}(ha:JE a ρ s xs s1 w1)(hl:JO lo ρ s1 l s2)(hh:JO hi ρ s2 h s3):JE (hxk a lo hi) ρ s (cut xs l h) s3 true:=by
 obtain⟨_,ea,_⟩:=ha
 refine⟨true,?_,λ_=>rfl⟩
 rw [Fz,ea]
 simp only [Kae]
 rw [hl]
 simp only [Kae]
 rw [hh]
 simp only [Kae]
 show (some (PyData.list (cR (xs.map enc) l h),gv (cR (xs.map enc) l h))).bind _=_
 rw [uD,Pf];rfl
theorem hxa {α:Type}[Enc α]{xs:List α}(ha:JE a ρ s xs s1 w1):JE (lu a) ρ s (xs.length:Int) s1 true:=by
 obtain⟨_,ea,_⟩:=ha
 refine⟨true,qz ea ?_,λ_=>rfl⟩
 show some (PyData.int ((xs.map enc).length:Nat),true)=_
 rw [Kaf];rfl
theorem JE.T7 {α:Type}[Enc α]{xs:List α}{o:Bool}(he:ρ[i]? = some (.aS (xs.map enc) o)):JE (X3 i) ρ s (xs.length:Int) s true:=by
 refine⟨true,?_,λ_=>rfl⟩
 rw [y_,he]
 show some ((PyData.int ((xs.map enc).length:Nat),true),s)=_
 rw [Kaf];rfl
theorem JE.cat {α:Type}[Enc α]{xs ys:List α}(ha:JE a ρ s xs s1 w1)(hb:JE b ρ s1 ys s2 w2)(h:xs.length+ys.length<=100000):JE (tW a b) ρ s (xs++ys) s2 false:=by
 obtain⟨_,ea,_⟩:=ha;obtain⟨_,eb,_⟩:=hb
 refine⟨gv ((xs++ys).map enc),gX ea eb ?_,nofun⟩
 show (if (xs.map enc).length+(ys.map enc).length<=100000 then some (PyData.list (xs.map enc++ys.map enc),gv (xs.map enc++ys.map enc)) else none)=_
 rw [if_pos (by simpa using h),<-Kav];rfl
theorem BY {α:Type}[Enc α][Flat α]{xs ys:List α}(ha:JE a ρ s xs s1 w1)(hb:JE b ρ s1 ys s2 w2)(h:xs.length+ys.length<=100000):JE (tW a b) ρ s (xs++ys) s2 true:=by
 obtain⟨_,ea,_⟩:=ha;obtain⟨_,eb,_⟩:=hb
 refine⟨true,gX ea eb ?_,λ_=>rfl⟩
 show (if (xs.map enc).length+(ys.map enc).length<=100000 then some (PyData.list (xs.map enc++ys.map enc),gv (xs.map enc++ys.map enc)) else none)=_
 rw [if_pos (by simpa using h),<-Kav,Pf];rfl
theorem JE.tms {α:Type}[Enc α]{xs:List α}{n:Int}(ha:JE a ρ s xs s1 w1)(hb:JE b ρ s1 n s2 w2)(h:xs.length*n.toNat<=100000/\-100000<=n/\n<=100000):JE (SE.rep a b) ρ s (mulL xs n) s2 false:=by
 obtain⟨_,ea,_⟩:=ha;obtain⟨_,eb,_⟩:=hb
 refine⟨gv ((mulL xs n).map enc),gX ea eb ?_,nofun⟩
 show (if (xs.map enc).length*n.toNat<=100000/\-100000<=n/\n<=100000 then some (PyData.list (vC n.toNat (xs.map enc)),gv (vC n.toNat (xs.map enc))) else none)=_
 rw [if_pos (by simpa using h),vD];rfl
theorem JE.sum {xs:List Int}(ha:JE a ρ s xs s1 w1):JE (SE.sum a) ρ s xs.sum s1 true:=by
 obtain⟨_,ea,_⟩:=ha
 exact⟨true,qz ea (by show (GR (xs.map PyData.int)).bind _=_;rw [WJ];rfl),λ_=>rfl⟩
theorem JE.bq6 {xs:List Int}(ha:JE a ρ s xs s1 w1)(h:xs≠[]):JE (X5 a) ρ s (pq xs) s1 true:=by
 obtain⟨_,ea,_⟩:=ha
 exact⟨true,qz ea (by show (GR (xs.map PyData.int)).bind _=_;rw [WJ];simp [h];rfl),λ_=>rfl⟩
theorem JE.all {xs:List Bool}(ha:JE a ρ s xs s1 w1):JE (MY a) ρ s (xs.all id) s1 true:=by
 obtain⟨_,ea,_⟩:=ha
 exact⟨true,qz ea (by show (KL (xs.map PyData.bool)).bind _=_;rw [ejo];rfl),λ_=>rfl⟩
theorem JE.any {xs:List Bool}(ha:JE a ρ s xs s1 w1):JE (SE.any a) ρ s (xs.any id) s1 true:=by
 obtain⟨_,ea,_⟩:=ha
 exact⟨true,qz ea (by show (KL (xs.map PyData.bool)).bind _=_;rw [ejo];rfl),λ_=>rfl⟩
theorem hqu {α:Type}[Enc α][Flat α]{xs:List α}(ha:JE a ρ s xs s1 w1):JE (PJ a) ρ s xs s1 true:=by
 obtain⟨_,ea,_⟩:=ha
 refine⟨_,qz ea rfl,λ_=>?_⟩
 exact Pf xs
theorem JT.ag {β:Type}[Enc β]{c:ST}{P:Prop}[Decidable P]{xs:List β}{o:Bool}(he:ρ[i]? = some (.aS (xs.map enc) o))(h:JT c (ρ.set i (.dat (enc xs))) s P s1):JT (XZ i c) ρ s P s1:=by
 unfold JT at h ⊢
 rw [qb,he];exact h
theorem JI.list {α:Type}[Enc α]{xs:List α}(h:JE a ρ s xs s1 w):JI (SI.list a) ρ s xs s1:=by
 obtain⟨_,e,_⟩:=h
 unfold JI
 rw [uU,e];rfl
theorem MZ {n:Int}(h:JE a ρ s n s1 w)(hn:-1000000<=n/\n<=1000000):JI (D7 a) ρ s (rng 0 n) s1:=by
 obtain⟨_,e,_⟩:=h
 unfold JI
 rw [oX,e]
 show (if -1000000<=n/\n<=1000000 then some (sU 0 n.toNat,s1) else none)=_
 rw [if_pos hn,mV]
 unfold rng
 rw [KaL,Kdu];rfl
theorem JI.E9 {m n:Int}(ha:JE a ρ s m s1 w1)(hb:JE b ρ s1 n s2 w2)(hn:(-1000000<=m/\m<=1000000)/\-1000000<=n/\n<=1000000):JI (XW a b) ρ s (rng m n) s2:=by
 obtain⟨_,ea,_⟩:=ha;obtain⟨_,eb,_⟩:=hb
 unfold JI
 rw [oY,ea]
 simp only [Kae]
 rw [eb]
 show (if (-1000000<=m/\m<=1000000)/\-1000000<=n/\n<=1000000 then some (sU m (n-m).toNat,s2) else none)=_
 rw [if_pos hn,mV]
 unfold rng
 rw [KaL];rfl
theorem JI.down {m n:Int}(ha:JE a ρ s m s1 w1)(hb:JE b ρ s1 n s2 w2)(hn:(-1000000<=m/\m<=1000000)/\-1000000<=n/\n<=1000000):JI (SI.down a b) ρ s (UG m n) s2:=by
 obtain⟨_,ea,_⟩:=ha;obtain⟨_,eb,_⟩:=hb
 unfold JI
 rw [uS,ea]
 simp only [Kae]
 rw [eb]
 show (if (-1000000<=m/\m<=1000000)/\-1000000<=n/\n<=1000000 then some (gJ m (m-n).toNat,s2) else none)=_
 rw [if_pos hn,rm]
 unfold UG
 rw [KaL];rfl
theorem JI.zip {α β:Type}[Enc α][Enc β]{xs:List α}{ys:List β}(ha:JE a ρ s xs s1 w1)(hb:JE b ρ s1 ys s2 w2):JI (M4 a b) ρ s (xs.zip ys) s2:=by
 obtain⟨_,ea,_⟩:=ha;obtain⟨_,eb,_⟩:=hb
 unfold JI
 rw [yZ,ea]
 simp only [Kae]
 rw [eb]
 show some (jG (xs.map enc) (ys.map enc),s2)=_
 rw [fqp]
theorem M3 {α:Type}[Enc α]{xs:List α}(ha:JE a ρ s xs s1 w1):JI (IC a) ρ s (aX 0 xs) s1:=by
 obtain⟨_,ea,_⟩:=ha
 unfold JI
 rw [uT,ea]
 show some (gM 0 (xs.map enc),s1)=_
 rw [fjc]
theorem JC.nil:JC SR.nil ρ s [] s:=rfl
theorem JC.cons {α:Type}[Enc α]{x:α}{r:SR}{sl:List Slot}(he:JE a ρ s x s1 w)(hr:JC r ρ s1 sl s2):JC (SR.cons a r) ρ s (.dat (enc x)::sl) s2:=by
 obtain⟨_,e,_⟩:=he
 unfold JC at hr ⊢
 rw [vA,e]
 simp [hr]
theorem wj {r:SR}{sl:List Slot}(h:ρ[i]? = some .bU)(hr:JC r ρ s sl s2):JC (tY i r) ρ s (.bU::sl) s2:=by
 unfold JC at hr ⊢
 rw [Fi,h]
 show ((r.ev ρ s).bind _)=_
 rw [hr];rfl
theorem JE.ag {α:Type}[Enc α]{m:Fn}{r:SR}{sl:List Slot}{x:α}(hr:JC r ρ s sl s1)(hm:JF m sl s1 x s2 w):JE (SE.ag m r) ρ s x s2 w:=by
 obtain⟨w',e,q⟩:=hm
 exact⟨w',by rw [yi,hr];exact e,q⟩
theorem W7 {α β:Type}[Enc α][Enc β]{g:SG}{tt:ST}{e:SE}{R:α->List Slot}{P:α->Prop}[DecidablePred P]{f:α->β}:∀{xs:List α},(∀x∈xs,g.ev (enc x) ρ=some (R x))->(∀x∈xs,JT tt (R x) s (P x) s)->(∀x∈xs,P x->JE e (R x) s (f x) s w) ->
  ∃ys:List Vl,bY g.ev tt.ev e.ev ρ (xs.map enc) s=some (ys,s)/\ys.map (·.1)=((xs.filter λx=>decide (P x)).map f).map enc/\(w=true->ys.all fP=true)
 |[],_,_,_=>⟨[],rfl,rfl,λ_=>rfl⟩
 |x::xs,hg,ht,he=>by
  obtain⟨ys,i1,i2,i3⟩:=W7 (xs:=xs) (λy hy=>hg y (Kad _ hy)) (λy hy=>ht y (Kad _ hy)) λy hy=>he y (Kad _ hy)
  have h1:=hg x Kaa
  have h2:=ht x Kaa
  unfold JT at h2
  rw [Kal]
  by_cases p:P x
  ·obtain⟨w',e1,q1⟩:=he x Kaa p
   refine⟨(enc (f x),w')::ys,?_,?_,?_⟩
   ·unfold bY
    rw [h1];simp only [Kae]
    rw [h2];simp only [Kae]
    rw [if_pos (decide_eq_true p),e1];simp only [Kae]
    rw [i1];rfl
   ·rw [KcQ (by simpa using p),Kal,Kal,Kal,i2]
   ·intro hw
    rw [Ka7,i3 hw]
    simp [fP,q1 hw]
  ·refine⟨ys,?_,?_,i3⟩
   ·unfold bY
    rw [h1];simp only [Kae]
    rw [h2];simp only [Kae]
    rw [if_neg (by simpa using p),i1]
   ·rw [KcR (by simpa using p),i2]
theorem Xa {β:Type}[Enc β][Flat β]:∀{ys:List Vl} {zs:List β},ys.map (·.1)=zs.map enc->ys.all fP=true
 |[],_,_=>rfl
 |y::ys,[],h=>by cases h
 |y::ys,z::zs,h=>by
  rw [Kal,Kal] at h
  injection h with h1 h2
  rw [Ka7,Xa h2]
  simp [fP,h1,Flat.fl]
section
variable {α β:Type}[Enc α][Enc β]{it:SI}{g:SG}{tt:ST}{e:SE}{vs:List Nat}{hv:∀i∈g.ix,i∈vs}{xs:List α}{f:α->β}
theorem JE.lc {P:α->Prop}[DecidablePred P](R:α->List Slot)(hi:JI it ρ s xs s1)(hg:∀x,g.ev (enc x) (bu ρ vs)=some (R x))(ht:∀x∈xs,JT tt (R x) s1 (P x) s1)(he:∀x∈xs,P x->JE e (R x) s1 (f x) s1 w)(hl:(xs.filter λx=>decide (P x)).length<=100000):
  JE (mG it g tt e vs hv) ρ s ((xs.filter λx=>decide (P x)).map f) s1 w:=by
 obtain⟨ys,c1,c2,c3⟩:=W7 (g:=g) (w:=w) (λx _=>hg x) ht he
 have hlen:ys.length<=100000:=by
  have:=congrArg KbO c2
  simp only [Kaf] at this
  omega
 refine⟨ys.all fP,?_,c3⟩
 unfold JI at hi
 rw [rP,hi];simp only [Kae]
 rw [c1];simp only [Kae]
 rw [if_pos hlen,c2];rfl
theorem JE.TX [Flat β]{P:α->Prop}[DecidablePred P](R:α->List Slot)(hi:JI it ρ s xs s1)(hg:∀x,g.ev (enc x) (bu ρ vs)=some (R x))(ht:∀x∈xs,JT tt (R x) s1 (P x) s1)(he:∀x∈xs,P x->JE e (R x) s1 (f x) s1 w)(hl:(xs.filter λx=>decide (P x)).length<=100000):
  JE (mG it g tt e vs hv) ρ s ((xs.filter λx=>decide (P x)).map f) s1 true:=by
 obtain⟨ys,c1,c2,c3⟩:=W7 (g:=g) (w:=w) (λx _=>hg x) ht he
 have hlen:ys.length<=100000:=by
  have:=congrArg KbO c2
  simp only [Kaf] at this
  omega
 refine⟨true,?_,λ_=>rfl⟩
 unfold JI at hi
 rw [rP,hi];simp only [Kae]
 rw [c1];simp only [Kae]
 rw [if_pos hlen,Xa c2,c2];rfl
theorem Rz (xs:List α):xs.filter (λ_=>decide True)=xs:=Kcu.mpr (by intros;rfl)
theorem JE.lc0 (R:α->List Slot)(hi:JI it ρ s xs s1)(hg:∀x,g.ev (enc x) (bu ρ vs)=some (R x))(he:∀x∈xs,JE e (R x) s1 (f x) s1 w)(hl:xs.length<=100000):
  JE (mG it g cN e vs hv) ρ s (xs.map f) s1 w:=by
 have:=JE.lc (P:=λ_=>True) (hv:=hv) R hi hg (λ_ _=>JT.yes) (λx hx _=>he x hx) (by rw [Rz];exact hl)
 rwa [Rz] at this
theorem BX [Flat β](R:α->List Slot)(hi:JI it ρ s xs s1)(hg:∀x,g.ev (enc x) (bu ρ vs)=some (R x))(he:∀x∈xs,JE e (R x) s1 (f x) s1 w)(hl:xs.length<=100000):
  JE (mG it g cN e vs hv) ρ s (xs.map f) s1 true:=by
 have:=JE.TX (P:=λ_=>True) (hv:=hv) R hi hg (λ_ _=>JT.yes) (λx hx _=>he x hx) (by rw [Rz];exact hl)
 rwa [Rz] at this
theorem JE.bq2 [Flat α]{P:α->Prop}[DecidablePred P](R:α->List Slot)(hi:JI it ρ s xs s1)(hg:∀x,g.ev (enc x) (bu ρ vs)=some (R x))(ht:∀x∈xs,JT tt (R x) s1 (P x) s1)(he:∀x∈xs,P x->JE e (R x) s1 x s1 w)(hl:(xs.filter λx=>decide (P x)).length<=100000):
  JE (mG it g tt e vs hv) ρ s (xs.filter λx=>decide (P x)) s1 true:=by
 have:=JE.TX (f:=λx=>x) (hv:=hv) R hi hg ht he hl
 rwa [Kdv] at this
end
/-- a comprehension eA draws -/
def cj {α β:Type}(t:α->ae->Bool×ae)(f:α->ae->β×ae):List α->ae->List β×ae
 |[],s=>([],s)
 |x::xs,s=>if (t x s).1=true then ((f x (t x s).2).1::(cj t f xs (f x (t x s).2).2).1,(cj t f xs (f x (t x s).2).2).2) else cj t f xs (t x s).2
/-- all turns of a comprehension eA draws are V5 -/
def KU {α β:Type}(t:α->ae->Bool×ae)(f:α->ae->β×ae)(dt df:α->ae->Prop):List α->ae->Prop
 |[],_=>True
 |x::xs,s=>dt x s/\if (t x s).1=true then df x (t x s).2/\KU t f dt df xs (f x (t x s).2).2 else KU t f dt df xs (t x s).2
theorem gxo {α β:Type}[Enc α][Enc β]{g:SG}{tt:ST}{e:SE}{R:α->List Slot}{t:α->ae->Bool×ae}{f:α->ae->β×ae}{dt df:α->ae->Prop}(hg:∀x,g.ev (enc x) ρ=some (R x))(ht:∀x s,dt x s->JT tt (R x) s ((t x s).1=true) (t x s).2)(he:∀x s,df x s->JE e (R x) s (f x s).1 (f x s).2 w):∀{xs:List α} {s:ae},KU t f dt df xs s ->
  ∃ys:List Vl,bY g.ev tt.ev e.ev ρ (xs.map enc) s=some (ys,(cj t f xs s).2)/\ys.map (·.1)=((cj t f xs s).1).map enc/\(w=true->ys.all fP=true)
 |[],s,_=>⟨[],rfl,rfl,λ_=>rfl⟩
 |x::xs,s,hd=>by
  obtain⟨d1,d2⟩:=hd
  have h2:=ht x s d1
  unfold JT at h2
  rw [Kda] at h2
  rw [Kal]
  by_cases p:(t x s).1=true
  ·rw [if_pos p] at d2
   obtain⟨w',e1,q1⟩:=he x _ d2.1
   obtain⟨ys,i1,i2,i3⟩:=gxo hg ht he (xs:=xs) d2.2
   refine⟨(enc (f x (t x s).2).1,w')::ys,?_,?_,?_⟩
   ·unfold bY cj
    rw [hg x];simp only [Kae]
    rw [h2];simp only [Kae]
    rw [if_pos p,if_pos p,e1];simp only [Kae]
    rw [i1];rfl
   ·unfold cj
    rw [if_pos p,Kal,i2];rfl
   ·intro hw
    rw [Ka7,i3 hw]
    simp [fP,q1 hw]
  ·rw [if_neg p] at d2
   obtain⟨ys,i1,i2,i3⟩:=gxo hg ht he (xs:=xs) d2
   refine⟨ys,?_,?_,i3⟩
   ·unfold bY cj
    rw [hg x];simp only [Kae]
    rw [h2];simp only [Kae]
    rw [if_neg p,if_neg p,i1]
   ·unfold cj
    rw [if_neg p,i2]
section
variable {α β:Type}[Enc α][Enc β]{it:SI}{g:SG}{tt:ST}{e:SE}{vs:List Nat}{hv:∀i∈g.ix,i∈vs}{xs:List α}
theorem JE.bq3 [Flat β]{t:α->ae->Bool×ae}{f:α->ae->β×ae}{dt df:α->ae->Prop}(R:α->List Slot)(hi:JI it ρ s xs s1)(hg:∀x,g.ev (enc x) (bu ρ vs)=some (R x))(ht:∀x s,dt x s->JT tt (R x) s ((t x s).1=true) (t x s).2)(he:∀x s,df x s->JE e (R x) s (f x s).1 (f x s).2 w)(hd:KU t f dt df xs s1)(hl:(cj t f xs s1).1.length<=100000):
  JE (mG it g tt e vs hv) ρ s (cj t f xs s1).1 (cj t f xs s1).2 true:=by
 obtain⟨ys,c1,c2,c3⟩:=gxo (g:=g) (w:=w) hg ht he hd
 have hlen:ys.length<=100000:=by
  have:=congrArg KbO c2
  simp only [Kaf] at this
  omega
 refine⟨true,?_,λ_=>rfl⟩
 unfold JI at hi
 rw [rP,hi];simp only [Kae]
 rw [c1];simp only [Kae]
 rw [if_pos hlen,Xa c2,c2];rfl
end
end
end Pu
namespace Pu
variable [aO]
open PySem L2 Enc
def iJ (i:Nat)(e:SE):SS where
 t:=λK=>tAsg (e.t K) (gName i)
 ev:=λρ s=>(e.ev ρ s).bind λx=>some (.nx (ρ.set i (.dat x.1.1)) x.2)
 ok:=by
  intro K sk F0 H0 F H σ ρ aj s out D w h q
  obtain⟨⟨x,s1⟩,h1,h2⟩:=aL h
  cases h2
  refine e.ok K w.pre h1 λv F1 H1 as st k r f=>?_
  obtain⟨az,w'⟩:=(w.next st k).kr (i:=i) r
  exact q F1 H1 _ az st.sub w'
def K6 (i:Nat)(e:SE)(r:SP):SP where
 t:=λK=>tCons (e.t K) (r.t K)
 ts:=i::r.ts
 ev:=λρ d9 s=>(e.ev ρ s).bind λx=>r.ev ρ (d9.set i (.dat x.1.1)) x.2
 ok:=by
  intro K sk F0 H0 F H σ wq ρ d9 nR aj gj s s' Q p w h q
  obtain⟨⟨x,s1⟩,h1,h2⟩:=aL h
  refine e.ok K p h1 λv F1 H1 as st k rr f=>?_
  obtain⟨fa,wa⟩:=(w.next st k).kr (i:=i) rr
  refine r.ok K (p.next st k) wa h2 λvs F2 H2 fv sF w2 hl=>?_
  exact q (v::vs) F2 H2 fv (st.sub.trans sF) w2 (by rw [Kah,Kah,hl])
theorem Wd.forget {sk:Option Addr}{F0 H0 F H:Hp}{σ:L2.St}{s:ae}:∀(is:List Nat) {ρ:List Slot} {aj:List (List Addr)},Wd sk F0 H0 F H σ ρ aj s->∃az,Wd sk F0 H0 F H σ (bu ρ is) az s
 |[],ρ,aj,w=>⟨aj,w⟩
 |i::is,ρ,aj,w=>by
  obtain⟨f1,w1⟩:=w.forget is
  exact⟨f1.set i [],w1.st,w1.bj,w1.slots.drop,w1.fO.sublist iH,λa m=>w1.cu a (iH.mem m)⟩
def U_ (is:List Nat):Out->Out
 |.nx ρ s=>.nx (bu ρ is) s
 |.ret v s=>.ret v s
 |.brk ρ s=>.brk (bu ρ is) s
 |.cnt ρ s=>.cnt (bu ρ is) s
/-- a,behind which some names are Pe -/
def kJ (is:List Nat)(a:SS):SS where
 t:=a.t
 ev:=λρ s=>(a.ev ρ s).map (U_ is)
 ok:=by
  intro K sk F0 H0 F H σ ρ aj s out D w h q
  obtain⟨o,h1,rfl⟩:=Kan.mp h
  refine a.ok K w h1 ?_
  cases o with
  |nx ρ' s'=>
   intro F' H' σ' az e w'
   obtain⟨f2,w2⟩:=w'.forget is
   exact q F' H' σ' f2 e w2
  |brk ρ' s'=>
   intro F' H' σ' az e w'
   obtain⟨f2,w2⟩:=w'.forget is
   exact q F' H' σ' f2 e w2
  |cnt ρ' s'=>
   intro F' H' σ' az e w'
   obtain⟨f2,w2⟩:=w'.forget is
   exact q F' H' σ' f2 e w2
  |ret v s'=>exact q
/-- a uu list is done -/
def K8 (i:Nat)(b:SS):SS where
 t:=b.t
 ev:=λρ s=>match ρ[i]? with
  |some (.aS ds o)=>b.ev (ρ.set i (.dat (.list ds))) s
  |_=>none
 ok:=by
  intro K sk F0 H0 F H σ ρ aj s out D w h q
  dsimp only at h
  split at h
  ·rename_i ds o cS
   obtain⟨x,fp,e1,e2,a,vs,as,rfl,hH,hF,r,rfl⟩:=w.slots.get cS
   have fa:a∈aj.flatten:=Kaw.mpr ⟨_,Kaq e2,Kaa⟩
   obtain⟨a0,a1,a2⟩:=w.cu a fa
   obtain⟨n1,n2⟩:=Aj w.fO e2
   have n3:=Kag.mp n1
   have na:a∉(aj.set i []).flatten:=λm=>n3.2.2 a Kaa a m rfl
   have sF:Same F (L2.upd F a (.lst vs)):=λb u e=>by rw [upd_ne (ne_of_none e hF)];exact e
   have st':Step sk F0 H0 (L2.upd F a (.lst vs)) H:=by
    refine⟨w.st.sub.trans sF,λb u e=>?_,λa o x y z=>w.st.fr a o x y z,w.st.dm,λb u e=>?_⟩
    ·by_cases z:b=a
     ·rw [z,upd_same] at e;rw [z,<-e];exact hH
     ·rw [upd_ne z] at e;exact w.st.sub' b u e
    ·by_cases z:b=a
     ·rw [z];exact .inr a0
     ·rw [upd_ne z] at e;exact w.st.new b u e
   have iQ:bw sk (L2.upd F a (.lst vs)) H s:=⟨λb e=>⟨(w.bj b e).1,by rw [upd_ne (λz=>a2 (by rw [<-z];exact e))];exact (w.bj b e).2⟩,w.bj.tab.vR⟩
   have sl:=(w.slots.drop (i:=i)).upd (a:=a) (o:=.lst vs) na hF
   have rp:Rp (L2.upd F a (.lst vs)) (.ref a) (.list ds) (a::as):=.lst upd_same (r.mono sF)
   have sl2:=sl.fill (sl:=.dat (.list ds)) e1 ⟨rfl,_,_,rfl,rp⟩
   rw [Kaz,Kaz] at sl2
   exact b.ok K ⟨st',iQ,sl2,w.fO.sublist iH,λb m=>w.cu b (iH.mem m)⟩ h (q.mono sF)
  ·cases h
def lt {α β:Type}(v:α)(f:α->β):β:=f v
def bT {α:Type}(v:α)(f:α->Prop):Prop:=f v
def eY {α β:Type}(v:α×ae)(f:α->ae->β):β:=f v.1 v.2
def fH {α:Type}(v:α×ae)(f:α->ae->Prop):Prop:=f v.1 v.2
theorem cI {α:Type}{v p:α}{f:α->Prop}(h:bT v f)(e:p=v):f p:=e ▸ h
theorem v_ {α:Type}{v:α×ae}{x:α}{s:ae}{f:α->ae->Prop}(h:fH v f)(e:v=(x,s)):f x s:=by subst e;exact h
def iy {α σ β:Type}(v:α ⊕ σ)(f:α->β)(g:σ->β):β:=match v with
 |.inl r=>f r
 |.inr st=>g st
def fg {α σ:Type}(f:σ->α->σ)(d:σ->α->Prop):List α->σ->Prop
 |[],_=>True
 |x::xs,st=>d st x/\fg f d xs (f st x)
def forR {α σ ρ:Type}(f:σ->α->ρ ⊕ σ):List α->σ->ρ ⊕ σ
 |[],st=>.inr st
 |x::xs,st=>iy (f st x) .inl (forR f xs)
def ja {α σ ρ:Type}(f:σ->α->ρ ⊕ σ)(d:σ->α->Prop):List α->σ->Prop
 |[],_=>True
 |x::xs,st=>d st x/\iy (f st x) (λ_=>True) (ja f d xs)
def qA {σ:Type}(c:σ->Prop)[DecidablePred c](f:σ->σ):Nat->σ->σ
 |0,st=>st
 |n+1,st=>if c st then qA c f n (f st) else st
def wL {σ:Type}(c:σ->Prop)(f:σ->σ)(dc d:σ->Prop):Nat->σ->Prop
 |0,_=>False
 |n+1,st=>dc st/\(c st->d st/\wL c f dc d n (f st))
def JB (b:SS)(ρ:List Slot)(s:ae)(Φ:Out->Prop):Prop:=∃o,b.ev ρ s=some o/\Φ o
def JN (b:SS)(ρ:List Slot)(s:ae)(ρ':List Slot)(s':ae):Prop:=b.ev ρ s=some (.nx ρ' s')
def JP (p:SP)(ρ d9:List Slot)(s:ae)(ρ':List Slot)(s':ae):Prop:=p.ev ρ d9 s=some (ρ',s')
def ug {α:Type}[Enc α](w:Bool)(s':ae)(x:α):Out->Prop:=λo=>∃w',o=.ret (enc x,w') s'/\(w=true->w'=true)
def LI {α:Type}[Enc α](w:Bool)(p:α×ae):Out->Prop:=ug w p.2 p.1
def G7 {σ:Type}(J:σ->List Slot)(s':ae)(x:σ):Out->Prop:=λo=>o=.nx (J x) s'
def Vk {σ:Type}(J:σ->List Slot)(p:σ×ae):Out->Prop:=G7 J p.2 p.1
def Vj {α σ:Type}[Enc α](w:Bool)(J:σ->List Slot)(s':ae)(x:α ⊕ σ):Out->Prop:=match x with
 |.inl r=>ug w s' r
 |.inr st=>G7 J s' st
/-- a def eA ends without return -/
def G5 (s':ae)(_:Unit):Out->Prop:=λo=>∃ρ',o=.nx ρ' s'
def xR (Φ:Out->Prop):Prop:=∀o,Φ o->∃v s,o=.ret v s
section
variable {ρ aH dF:List Slot}{s s1 s2 s3:ae}{e e2:SE}{i j k:Nat}{w w1 w2:Bool}{a b A B rest:SS}{Φ:Out->Prop}{c:ST}{P:Prop}[Decidable P]
theorem hxv {α:Type}[Enc α]{x:α}:xR (ug w s x):=λo ⟨w',h,_⟩=>⟨_,_,h⟩
theorem PN {α:Type}[Enc α]{x:α×ae}:xR (LI w x):=λo ⟨w',h,_⟩=>⟨_,_,h⟩
theorem bS {α β:Type}{Ψ:β->Out->Prop}{v:α}{f:α->β}(h:∀p,p=v->JB b ρ s (Ψ (f p))):JB b ρ s (Ψ (lt v f)):=h v rfl
theorem wh {α β:Type}{Ψ:β->Out->Prop}{v:α×ae}{f:α->ae->β}(h:∀x s',v=(x,s')->JB b ρ s (Ψ (f x s'))):JB b ρ s (Ψ (eY v f)):=h v.1 v.2 rfl
theorem JB.ac (ha:JN a ρ s aH s1)(hb:JB b aH s1 Φ):JB (SS.ac a b) ρ s Φ:=by
 obtain⟨o,h,q⟩:=hb
 refine⟨o,?_,q⟩
 unfold JN at ha
 rw [uw,ha];exact h
theorem JB.am (ha:JN a ρ s aH s1)(h:Φ (.nx aH s1)):JB a ρ s Φ:=⟨_,ha,h⟩
theorem JB.ar (h:Φ (.nx ρ s)):JB SS.am ρ s Φ:=⟨_,rfl,h⟩
theorem GU (h:JB b ρ s Φ):JB (SS.ac SS.am b) ρ s Φ:=h
theorem JB.never (h:False):JB Iz ρ s Φ:=h.elim
theorem JB.ag {α:Type}[Enc α]{x:α}(h:JE e ρ s x s1 w):JB (SS.ag e) ρ s (ug w s1 x):=by
 obtain⟨w',e1,q⟩:=h
 exact⟨_,by rw [XF,e1];rfl,w',rfl,q⟩
theorem D6 {α:Type}[Enc α]{x:α}(h:JE e ρ s x s1 w):JB (SS.ag e) ρ s (LI w (x,s1)):=JB.ag h
theorem MU {β:Type}{Ψ:β->Out->Prop}{x y:β}(hc:JT c ρ s P s1)(hA:P->JB A ρ s1 (Ψ x))(hB:¬P->JB B ρ s1 (Ψ y)):JB (jd c A B) ρ s (Ψ (if P then x else y)):=by
 unfold JT at hc
 by_cases p:P
 ·obtain⟨o,h,q⟩:=hA p
  exact⟨o,by rw [wO,hc];simp [p,h],by rw [if_pos p];exact q⟩
 ·obtain⟨o,h,q⟩:=hB p
  exact⟨o,by rw [wO,hc];simp [p,h],by rw [if_neg p];exact q⟩
/-- if c: A,which returns;else B;then bh rest -/
theorem GX {β:Type}{Ψ:β->Out->Prop}{x y:β}(hc:JT c ρ s P s1)(hA:P->JB A ρ s1 (Ψ x))(hr:P->xR (Ψ x))(hB:¬P->JB (SS.ac B rest) ρ s1 (Ψ y)):JB (SS.ac (jd c A B) rest) ρ s (Ψ (if P then x else y)):=by
 unfold JT at hc
 by_cases p:P
 ·obtain⟨o,h,q⟩:=hA p
  obtain⟨v,s',rfl⟩:=hr p o q
  exact⟨.ret v s',by rw [uw,wO,hc];simp [p,h],by rw [if_pos p];exact q⟩
 ·obtain⟨o,h,q⟩:=hB p
  rw [uw] at h
  exact⟨o,by rw [uw,wO,hc];simpa [p] using h,by rw [if_neg p];exact q⟩
/-- both ways go on -/
theorem PY {σ:Type}{J:σ->List Slot}{va vb p:σ}(hc:JT c ρ s P s1)(hA:P->JB A ρ s1 (G7 J s1 va))(hB:¬P->JB B ρ s1 (G7 J s1 vb))(e:p=if P then va else vb):JN (jd c A B) ρ s (J p) s1:=by
 unfold JT at hc
 unfold JN
 subst e
 by_cases p:P
 ·obtain⟨o,h,rfl⟩:=hA p
  rw [wO,hc];simp [p,h]
 ·obtain⟨o,h,rfl⟩:=hB p
  rw [wO,hc];simp [p,h]
theorem JN.set {α:Type}[Enc α]{x:α}(h:JE e ρ s x s1 w):JN (iJ i e) ρ s (ρ.set i (.dat (enc x))) s1:=by
 obtain⟨w',h,_⟩:=h
 show ((e.ev ρ s).bind λx=>some (Out.nx (ρ.set i (.dat x.1.1)) x.2))=_
 rw [h];rfl
theorem K2 {α:Type}[Enc α]{x:α}(h:JE e ρ s x s1 w):JN (GY e) ρ s ρ s1:=by
 obtain⟨w',h,_⟩:=h
 unfold JN
 rw [yE,h];rfl
theorem wX {α:Type}[Enc α]{x:α}{g:SG}(h:JE e ρ s x s1 w)(hg:g.ev (enc x) ρ=some aH):JN (hxb g e) ρ s aH s1:=by
 obtain⟨w',h,_⟩:=h
 unfold JN
 rw [x_,h]
 simp only [Kae]
 rw [hg];rfl
theorem JN.aug {x y:Int}{f:Int->Int->Int}(hi:ρ[i]? = some (.dat (enc x)))(h:JE e ρ s y s1 w):JN (SS.ar i e f) ρ s (ρ.set i (.dat (enc (f x y)))) s1:=by
 obtain⟨w',h,_⟩:=h
 unfold JN
 rw [Cw,hi]
 show ((e.ev ρ s).bind _)=_
 rw [h];rfl
theorem JP.nil:JP SP.nil ρ aH s aH s:=rfl
theorem JP.cons {α:Type}[Enc α]{x:α}{p:SP}(h:JE e ρ s x s1 w)(hp:JP p ρ (aH.set i (.dat (enc x))) s1 dF s2):JP (K6 i e p) ρ aH s dF s2:=by
 obtain⟨w',h,_⟩:=h
 show ((e.ev ρ s).bind λx=>p.ev ρ (aH.set i (.dat x.1.1)) x.2)=_
 rw [h];exact hp
theorem JP.EF {p:SP}(hp:JP p ρ (aH.set i (.aS [] true)) s dF s2):JP (SP.EF i p) ρ aH s dF s2:=hp
theorem JN.par {p:SP}{hp:p.ts=[i,j]}(h:JP p ρ ρ s aH s1):JN (SS.par i j p hp) ρ s aH s1:=by
 unfold JN;unfold JP at h
 rw [EY,h];rfl
theorem JN.LU {p:SP}{hp:p.ts=[i,j]}(h:JP p ρ ρ s aH s1):JN (Tu i j p hp) ρ s aH s1:=by
 unfold JN;unfold JP at h
 rw [ya,h];rfl
theorem X8 {α:Type}[Enc α]{xs:List α}(h:JE e ρ s xs s1 true):JN (PL i (SB.own e)) ρ s (ρ.set i (.aS (xs.map enc) true)) s1:=by
 obtain⟨w',h,q⟩:=h
 have:=q rfl
 subst this
 unfold JN
 rw [vJ,gqk,h];rfl
theorem JN.ac {α:Type}[Enc α]{x:α}{xs:List α}{o:Bool}(hi:ρ[i]? = some (.aS (xs.map enc) o))(h:JE e ρ s x s1 true)(hl:xs.length<100000):JN (GS i e) ρ s (ρ.set i (.aS ((xs++[x]).map enc) o)) s1:=by
 obtain⟨w',h,q⟩:=h
 have:=q rfl
 subst this
 unfold JN
 rw [fjr,hi]
 show ((e.ev ρ s).bind _)=_
 rw [h]
 simp only [Kae]
 rw [if_pos (by simpa using hl),Kav]
 simp [fP]
theorem hjt {α:Type}[Enc α][Flat α]{x:α}{xs:List α}{o:Bool}(hi:ρ[i]? = some (.aS (xs.map enc) o))(h:JE e ρ s x s1 w)(hl:xs.length<100000):JN (GS i e) ρ s (ρ.set i (.aS ((xs++[x]).map enc) o)) s1:=by
 obtain⟨w',h,q⟩:=h
 unfold JN
 rw [fjr,hi]
 show ((e.ev ρ s).bind _)=_
 rw [h]
 simp only [Kae]
 rw [if_pos (by simpa using hl),Kav]
 simp [fP,Flat.fl]
theorem JN.Ib {α:Type}[Enc α][Flat α]{ys xs:List α}{o:Bool}(hi:ρ[i]? = some (.aS (xs.map enc) o))(h:JE e ρ s ys s1 w)(hl:xs.length+ys.length<=100000):JN (hzx i e) ρ s (ρ.set i (.aS ((xs++ys).map enc) o)) s1:=by
 obtain⟨w',h,q⟩:=h
 unfold JN
 rw [rB,hi]
 show ((e.ev ρ s).bind _)=_
 rw [h]
 show (if (xs.map enc).length+(ys.map enc).length<=100000 then some (Out.nx (ρ.set i (.aS (xs.map enc++ys.map enc) (o && gv (ys.map enc)))) s1) else none)=_
 rw [if_pos (by simpa using hl),Kav,Pf,KcS]
theorem JB.frz {α:Type}[Enc α]{xs:List α}{o:Bool}(hi:ρ[i]? = some (.aS (xs.map enc) o))(h:JB b (ρ.set i (.dat (enc xs))) s Φ):JB (K8 i b) ρ s Φ:=by
 obtain⟨o',h,q⟩:=h
 refine⟨o',?_,q⟩
 show (match ρ[i]? with|some (.aS ds o)=>b.ev (ρ.set i (.dat (.list ds))) s|_=>none)=_
 rw [hi];exact h
section
variable {α σ:Type}[Enc α]{it:SI}{g:SG}{xs:List α}
theorem Dz {J:σ->List Slot}{R:σ->α->List Slot}{f:σ->α->σ}{d:σ->α->Prop}(hg:∀st x,g.ev (enc x) (J st)=some (R st x))(hb:∀st x,d st x->JB b (R st x) s (G7 J s (f st x))):∀{xs:List α} {st:σ},fg f d xs st->forL g.ev b.ev (xs.map enc) (J st) s=some (.nx (J (xs.foldl f st)) s)
 |[],st,_=>rfl
 |x::xs,st,h=>by
  obtain⟨h1,h2⟩:=h
  obtain⟨o,e,rfl⟩:=hb st x h1
  rw [Kal]
  unfold forL
  rw [hg];simp only [Kae]
  rw [e]
  exact Dz hg hb h2
theorem Th {J:σ->List Slot}{R:σ->α->List Slot}{f:σ->α->σ}{d:σ->α->Prop}{st p:σ}(hi:JI it ρ s xs s1)(e0:ρ=J st)(hg:∀st x,g.ev (enc x) (J st)=some (R st x))(hb:∀st x,d st x->JB b (R st x) s1 (G7 J s1 (f st x)))(hd:fg f d xs st)(e:p=xs.foldl f st):JN (hxd it g b) ρ s (J p) s1:=by
 unfold JN;unfold JI at hi
 rw [R7,hi]
 subst e0 e
 exact Dz hg hb hd
theorem DB {J:σ->List Slot}{R:σ->α->List Slot}{f:σ×ae->α->σ×ae}{d:σ×ae->α->Prop}(hg:∀st x,g.ev (enc x) (J st)=some (R st x))(hb:∀st s x,d (st,s) x->JB b (R st x) s (Vk J (f (st,s) x))):∀{xs:List α} {p:σ×ae},fg f d xs p->forL g.ev b.ev (xs.map enc) (J p.1) p.2=some (.nx (J (xs.foldl f p).1) (xs.foldl f p).2)
 |[],p,_=>rfl
 |x::xs,(st,s),h=>by
  obtain⟨h1,h2⟩:=h
  obtain⟨o,e,rfl⟩:=hb st s x h1
  rw [Kal]
  unfold forL
  rw [hg];simp only [Kae]
  rw [e]
  exact DB hg hb h2
theorem JN.bqF {J:σ->List Slot}{R:σ->α->List Slot}{f:σ×ae->α->σ×ae}{d:σ×ae->α->Prop}{st p:σ}(hi:JI it ρ s xs s1)(e0:ρ=J st)(hg:∀st x,g.ev (enc x) (J st)=some (R st x))(hb:∀st s x,d (st,s) x->JB b (R st x) s (Vk J (f (st,s) x)))(hd:fg f d xs (st,s1))(e:xs.foldl f (st,s1)=(p,s2)):JN (hxd it g b) ρ s (J p) s2:=by
 unfold JN;unfold JI at hi
 rw [R7,hi]
 subst e0
 have:=DB (p:=(st,s1)) hg hb hd
 rw [e] at this
 exact this
theorem DA {γ:Type}[Enc γ]{J:σ->List Slot}{R:σ->α->List Slot}{f:σ->α->γ ⊕ σ}{d:σ->α->Prop}(hg:∀st x,g.ev (enc x) (J st)=some (R st x))(hb:∀st x,d st x->JB b (R st x) s (Vj w J s (f st x))):∀{xs:List α} {st:σ},ja f d xs st->∃o,forL g.ev b.ev (xs.map enc) (J st) s=some o/\Vj w J s (forR f xs st) o
 |[],st,_=>⟨_,rfl,rfl⟩
 |x::xs,st,h=>by
  obtain⟨h1,h2⟩:=h
  obtain⟨o,e,q⟩:=hb st x h1
  rw [Kal]
  unfold forL forR
  rw [hg];simp only [Kae]
  rw [e];simp only [Kae]
  cases hf:f st x with
  |inl r=>
   rw [hf] at q
   obtain⟨w',rfl,q2⟩:=q
   exact⟨_,rfl,w',rfl,q2⟩
  |inr st'=>
   rw [hf] at q h2
   cases (show o=.nx (J st') s from q)
   exact DA hg hb h2
/-- a loop eA may return;then bh rest -/
theorem JB.av {β γ:Type}[Enc γ]{J:σ->List Slot}{R:σ->α->List Slot}{f:σ->α->γ ⊕ σ}{d:σ->α->Prop}{st:σ}{Ψ:β->Out->Prop}{inj:γ->β}{F:σ->β}(hi:JI it ρ s xs s1)(e0:ρ=J st)(hg:∀st x,g.ev (enc x) (J st)=some (R st x))(hb:∀st x,d st x->JB b (R st x) s1 (Vj w J s1 (f st x)))(hd:ja f d xs st)
  (hr:∀r o,ug w s1 r o->Ψ (inj r) o) (hk:∀st',Pu.forR f xs st=.inr st'->JB rest (J st') s1 (Ψ (F st'))):JB (SS.ac (hxd it g b) rest) ρ s (Ψ (iy (Pu.forR f xs st) inj F)):=by
 unfold JI at hi
 subst e0
 obtain⟨o,h,q⟩:=DA hg hb hd
 cases hf:Pu.forR f xs st with
 |inl r=>
  rw [hf] at q
  have q0:=q
  obtain⟨w',rfl,q2⟩:=q
  refine⟨_,?_,hr r _ q0⟩
  rw [uw,R7,hi];simp only [Kae]
  rw [h];rfl
 |inr st'=>
  rw [hf] at q
  cases (show o=.nx (J st') s1 from q)
  obtain⟨o2,h2,q2⟩:=hk st' hf
  refine⟨o2,?_,q2⟩
  rw [uw,R7,hi];simp only [Kae]
  rw [h];exact h2
end
theorem vV {σ:Type}{J:σ->List Slot}{f:σ->σ}{C:σ->Prop}[DecidablePred C]{dc d:σ->Prop}(hc:∀st,dc st->JT c (J st) s (C st) s)(hb:∀st,d st->JB b (J st) s (G7 J s (f st))):∀{n:Nat} {st:σ},wL C f dc d n st->GP c.ev b.ev n (J st) s=some (.nx (J (qA C f n st)) s)
 |0,_,h=>h.elim
 |n+1,st,h=>by
  obtain⟨h1,h2⟩:=h
  have e1:=hc st h1
  unfold JT at e1
  unfold GP qA
  rw [e1];simp only [Kae]
  by_cases p:C st
  ·obtain⟨h3,h4⟩:=h2 p
   obtain⟨o,e2,rfl⟩:=hb st h3
   rw [if_pos (decide_eq_true p),if_pos p,e2]
   exact vV hc hb h4
  ·rw [if_neg (by simpa using p),if_neg p]
theorem Tt {σ:Type}{J:σ->List Slot}{f:σ->σ}{C:σ->Prop}[DecidablePred C]{dc d:σ->Prop}{n:Nat}{st p:σ}(e0:ρ=J st)(hc:∀st,dc st->JT c (J st) s (C st) s)(hb:∀st,d st->JB b (J st) s (G7 J s (f st)))(hd:wL C f dc d n st)(e:p=qA C f n st):JN (MS n c b) ρ s (J p) s:=by
 unfold JN
 rw [sH]
 subst e0 e
 exact vV hc hb hd
theorem iL {α:Type}[Enc α]{np nl:Nat}{args:List Slot}{x:α}(hn:args.length=np)(h:JB b (args++Kay nl .emp) s (ug w s1 x)):JF (fnOf np nl b) args s x s1 w:=by
 obtain⟨o,h,w',rfl,q⟩:=h
 refine⟨w',?_,q⟩
 rw [gqm,if_pos hn,h]
theorem JF.Uo {α:Type}[Enc α]{np nl:Nat}{args:List Slot}{x:α×ae}(hn:args.length=np)(h:JB b (args++Kay nl .emp) s (LI w x)):JF (fnOf np nl b) args s x.1 x.2 w:=iL hn h
theorem JF.ofN {np nl:Nat}{args:List Slot}(hn:args.length=np)(h:JB b (args++Kay nl .emp) s (G5 s1 ())):JF (fnOf np nl b) args s () s1 true:=by
 obtain⟨o,h,ρ',rfl⟩:=h
 refine⟨true,?_,λ_=>rfl⟩
 rw [gqm,if_pos hn,h];rfl
end
end Pu
namespace Pu
variable [aO]
open PySem L2 Enc
def fuel:Nat:=1000000
instance:Enc PyData:=⟨λd=>d⟩
/-- what may be a key -/
class g9 (κ:Type) [Enc κ] where
 key:κ->Key
 ok:∀x:κ,keyOf (Enc.enc x)=some (key x)
 inj:∀x y:κ,key x=key y->x=y
instance:g9 Int:=⟨Sum.inl,λ_=>rfl,λ_ _ h=>Sum.inl.inj h⟩
def fc {κ β:Type}[Enc κ][g9 κ][Enc β](f:List (κ×β)):List (Key×PyData):=f.map λp=>(g9.key p.1,enc p.2)
def wM {κ β:Type}[DecidableEq κ]:List (κ×β)->κ->Option β
 |[],_=>none
 |(k,d)::r,j=>if k=j then some d else wM r j
theorem yz {κ β:Type}[Enc κ][g9 κ][DecidableEq κ][Enc β]:∀(f:List (κ×β)) (j:κ),cV (fc f) (g9.key j)=(wM f j).map enc
 |[],j=>rfl
 |(k,d)::r,j=>by
  show (if g9.key k=g9.key j then some (enc d) else cV (fc r) (g9.key j))=_
  unfold wM
  by_cases h:k=j
  ·rw [if_pos h,if_pos (by rw [h])];rfl
  ·rw [if_neg h,if_neg (λz=>h (g9.inj _ _ z))];exact yz r j
def Yv {σ:Type}(is:List Nat)(J:σ->List Slot)(s':ae)(x:σ):Out->Prop:=λo=>U_ is o=.nx (J x) s'
def Yw {σ:Type}(is:List Nat)(J:σ->List Slot)(p:σ×ae):Out->Prop:=Yv is J p.2 p.1
def MxW {α σ:Type}[Enc α](w:Bool)(is:List Nat)(J:σ->List Slot)(s':ae)(x:α ⊕ σ):Out->Prop:=match x with
 |.inl r=>ug w s' r
 |.inr st=>Yv is J s' st
section
variable {ρ aH dF:List Slot}{s s1 s2 s3:ae}{e e2:SE}{i j k:Nat}{w w1 w2 o:Bool}{a b A B rest:SS}{Φ:Out->Prop}{c:ST}
theorem za {α:Type}{xs:List α}{p:α->Bool}{n:Nat}(h:xs.length<=n):(xs.filter p).length<=n:=Kau (List.length_filter_le _ _) h
theorem oQ {σ:Type}{J:σ->List Slot}{is:List Nat}{x:σ}(h:JB a ρ s (Yv is J s1 x)):JB (kJ is a) ρ s (G7 J s1 x):=by
 obtain⟨o,h,q⟩:=h
 exact⟨_,by show (a.ev ρ s).map _=_;rw [h];rfl,q⟩
theorem JB.U9 {σ:Type}{J:σ->List Slot}{is:List Nat}{x:σ×ae}(h:JB a ρ s (Yw is J x)):JB (kJ is a) ρ s (Vk J x):=oQ h
theorem hjz {α σ:Type}[Enc α]{J:σ->List Slot}{is:List Nat}{x:α ⊕ σ}(h:JB a ρ s (MxW w is J s1 x)):JB (kJ is a) ρ s (Vj w J s1 x):=by
 obtain⟨o,h,q⟩:=h
 refine⟨_,by show (a.ev ρ s).map _=_;rw [h];rfl,?_⟩
 cases x with
 |inl r=>
  obtain⟨w',rfl,q⟩:=q
  exact⟨w',rfl,q⟩
 |inr st=>exact q
theorem hzz {α σ:Type}[Enc α]{is:List Nat}{J:σ->List Slot}{x:α}(h:JE e ρ s x s1 w):JB (SS.ag e) ρ s (MxW w is J s1 (.inl x)):=JB.ag h
theorem lK {α:Type}[Enc α]{x v:α}(h:JE e ρ s v s1 w)(hx:x=v):JN (iJ i e) ρ s (ρ.set i (.dat (enc x))) s1:=hx ▸ JN.set h
theorem JN.QB {x y v:Int}{f:Int->Int->Int}(hi:ρ[i]? = some (.dat (enc x)))(h:JE e ρ s y s1 w)(hx:v=f x y):JN (SS.ar i e f) ρ s (ρ.set i (.dat (enc v))) s1:=hx ▸ JN.aug hi h
theorem JN.aS {α:Type}[Enc α]{x v:List α}(h:JN a ρ s (ρ.set i (.aS (v.map enc) o)) s1)(hx:x=v):JN a ρ s (ρ.set i (.aS (x.map enc) o)) s1:=hx ▸ h
theorem JN.gI {κ:Type}[Enc κ][g9 κ]{α:Type}[Enc α]{x v:List (κ×α)}(h:JN a ρ s (ρ.set i (.gI (fc v))) s1)(hx:x=v):JN a ρ s (ρ.set i (.gI (fc x))) s1:=hx ▸ h
theorem JN.dput {κ:Type}[Enc κ][g9 κ]{α:Type}[Enc α]{f:List (κ×α)}{x:α}{j:κ}(hi:ρ[i]? = some (.gI (fc f)))(hv:JE e ρ s x s1 w)(hk:JE e2 ρ s1 j s2 w1)(hl:f.length<100000):JN (SS.dput i e2 e) ρ s (ρ.set i (.gI (fc ((j,x)::f)))) s2:=by
 obtain⟨_,hv,_⟩:=hv
 obtain⟨_,hk,_⟩:=hk
 unfold JN
 rw [yC,hv]
 simp only [Kae]
 rw [hi]
 show ((e2.ev ρ s1).bind _)=_
 rw [hk]
 show (match keyOf (enc j) with|some j=>(if (fc f).length<100000 then some (Out.nx (ρ.set i (.gI ((j,enc x)::fc f))) s2) else none)|none=>none)=_
 rw [g9.ok]
 show (if (fc f).length<100000 then _ else _)=_
 rw [if_pos (by unfold fc;simpa using hl)];rfl
theorem JP.dat {α:Type}[Enc α]{x v:α}{p:SP}(hx:x=v)(h:JE e ρ s v s1 w)(hp:JP p ρ (aH.set i (.dat (enc x))) s1 dF s2):JP (K6 i e p) ρ aH s dF s2:=JP.cons h (hx ▸ hp)
theorem yj {κ:Type}[Enc κ][g9 κ]{α β:Type}[Enc α][Enc β]{g:SG}{ek ev:SE}{R:α->List Slot}{kf:α->κ}{vf:α->β}(hg:∀x,g.ev (enc x) ρ=some (R x)):∀{xs:List α} {f:List (κ×β)},(∀x∈xs,JE ek (R x) s (kf x) s w1)->(∀x∈xs,JE ev (R x) s (vf x) s w2)->eN g.ev cN.ev ek.ev ev.ev ρ (xs.map enc) (fc f) s=some (fc ((xs.map λx=>(kf x,vf x)).reverse++f),s)
 |[],f,_,_=>rfl
 |x::xs,f,hk,hv=>by
  have ih:=yj hg (xs:=xs) (f:=(kf x,vf x)::f) (λy hy=>hk y (Kad _ hy)) (λy hy=>hv y (Kad _ hy))
  obtain⟨_,k1,_⟩:=hk x Kaa
  obtain⟨_,v1,_⟩:=hv x Kaa
  rw [Kal]
  unfold eN
  rw [hg x];simp only [Kae,Sl,if_true]
  rw [k1];simp only [Kae]
  rw [v1];simp only [Kae,g9.ok]
  show eN g.ev cN.ev ek.ev ev.ev ρ (xs.map enc) (fc ((kf x,vf x)::f)) s=_
  rw [ih,Kal,KcI,Kbd];rfl
theorem JP.dc {κ:Type}[Enc κ][g9 κ]{α β:Type}[Enc α][Enc β]{it:SI}{g:SG}{ek ev:SE}{vs:List Nat}{hv:∀i∈g.ix,i∈vs}{p:SP}{xs:List α}{kf:α->κ}{vf:α->β}{x:List (κ×β)}(hx:x=Kck (xs.map λy=>(kf y,vf y)))(R:α->List Slot)(hi:JI it ρ s xs s1)(hg:∀x,g.ev (enc x) (bu ρ vs)=some (R x))(hk:∀x∈xs,JE ek (R x) s1 (kf x) s1 w1)(hv':∀x∈xs,JE ev (R x) s1 (vf x) s1 w2)(hl:xs.length<=100000)(hp:JP p ρ (aH.set i (.gI (fc x))) s1 dF s2):JP (SP.dc i it g cN ek ev vs hv p) ρ aH s dF s2:=by
 unfold JP at hp ⊢
 unfold JI at hi
 rw [E1,hi];simp only [Kae]
 have:=yj (κ:=κ) (f:=[]) hg hk hv'
 rw [KaC] at this
 rw [show (eN g.ev cN.ev ek.ev ev.ev (bu ρ vs) (xs.map enc) [] s1)=_ from this]
 simp only [Kae]
 rw [if_pos (by unfold fc;simpa using hl),<-hx]
 exact hp
theorem JE.din {κ:Type}[Enc κ][g9 κ][DecidableEq κ]{β:Type}[Enc β]{f:List (κ×β)}{x:κ}(hi:ρ[i]? = some (.gI (fc f)))(h:JE e ρ s x s1 w):JE (P5 i e) ρ s (decide ((wM f x).isSome=true)) s1 true:=by
 obtain⟨_,h,_⟩:=h
 refine⟨true,?_,λ_=>rfl⟩
 rw [Dg,hi]
 show ((e.ev ρ s).bind _)=_
 rw [h]
 show (match keyOf (enc x) with|some j=>some ((PyData.bool (cV (fc f) j).isSome,true),s1)|none=>none)=_
 rw [g9.ok]
 show some ((PyData.bool (cV (fc f) (g9.key x)).isSome,true),s1)=_
 rw [yz]
 cases wM f x <;> rfl
theorem JE.eY {α β:Type}[Enc β]{v:α×ae}{f:α->ae->β×ae}(h:∀x s',v=(x,s')->JE e ρ s (f x s').1 (f x s').2 w):JE e ρ s (eY v f).1 (eY v f).2 w:=h _ _ rfl
theorem JT.eY {α:Type}{v:α×ae}{f:α->ae->Bool×ae}(h:∀x s',v=(x,s')->JT c ρ s ((f x s').1=true) (f x s').2):JT c ρ s ((eY v f).1=true) (eY v f).2:=h _ _ rfl
theorem JT.cqU:JT cN ρ s (((true,s):Bool×ae).1=true) ((true,s):Bool×ae).2:=rfl
theorem JE.UT (hi:ρ[i]? = some .bU):JE (GW i 0) ρ s s.1 s true:=⟨true,by rw [Xu,hi];rfl,λ_=>rfl⟩
theorem JE.sk1 (hi:ρ[i]? = some .bU):JE (GW i 1) ρ s s.2.1 s true:=⟨true,by rw [Xu,hi];rfl,λ_=>rfl⟩
theorem JE.Yj (hi:ρ[i]? = some .bU):JE (GW i 2) ρ s s.2.2 s true:=⟨true,by rw [Xu,hi];rfl,λ_=>rfl⟩
theorem JN.UT {z:Int}{n:ae}(hi:ρ[i]? = some .bU)(h:JE e ρ s z s w)(hx:n=(z,s.2.1,s.2.2)):JN (Tq i 0 e) ρ s ρ n:=by
 obtain⟨_,h,_⟩:=h
 unfold JN
 rw [gxb,h,hx]
 show (match PyData.int z,ρ[i]? with|.int z,some .bU=>(pX s z 0).map λs'=>Out.nx ρ s'|_,_=>none)=_
 rw [hi];rfl
theorem JN.Yj {z:Int}{n:ae}(hi:ρ[i]? = some .bU)(h:JE e ρ s z s w)(hx:n=(s.1,s.2.1,z)):JN (Tq i 2 e) ρ s ρ n:=by
 obtain⟨_,h,_⟩:=h
 unfold JN
 rw [gxb,h,hx]
 show (match PyData.int z,ρ[i]? with|.int z,some .bU=>(pX s z 2).map λs'=>Out.nx ρ s'|_,_=>none)=_
 rw [hi];rfl
theorem JE.M9 {α β γ:Type}[Enc α][Enc β][Enc γ][Flat γ]{it it1:SI}{g g1:SG}{vs vs1:List Nat}{hv:∀i∈g.ix,i∈vs}{hv1:∀i∈g1.ix,i∈vs1}{xs:List α}{ys:α->List β}{f:α->β->γ}(R:α->List Slot)(R1:α->β->List Slot)(hi:JI it ρ s xs s1)(hg:∀x,g.ev (enc x) (bu ρ vs)=some (R x))(hg1:∀x y,g1.ev (enc y) (bu (R x) vs1)=some (R1 x y))(hi1:∀x∈xs,JI it1 (R x) s1 (ys x) s1)(he:∀x∈xs,∀y∈ys x,JE e (R1 x y) s1 (f x y) s1 w)(hl:(xs.flatMap λx=>(ys x).map (f x)).length<=100000):
  JE (SE.TV it g cN it1 g1 cN e vs vs1 hv hv1) ρ s (xs.flatMap λx=>(ys x).map (f x)) s1 true:=by
 have key:∀zs:List α,(∀x∈zs,x∈xs)->∃q:List Vl,Dq g.ev cN.ev it1.ev g1.ev cN.ev e.ev vs1 (bu ρ vs) (zs.map enc) s1=some (q,s1)/\q.map (·.1)=(zs.flatMap λx=>(ys x).map (f x)).map enc:=by
  intro zs
  induction zs with
  |nil=>intro _;exact⟨[],rfl,rfl⟩
  |cons x zs ih=>
   intro hz
   obtain⟨q,q1,q2⟩:=ih λy hy=>hz y (Kad _ hy)
   have hx:=hz x Kaa
   obtain⟨p,p1,p2,_⟩:=W7 (g:=g1) (ρ:=bu (R x) vs1) (s:=s1) (w:=w) (P:=λ_=>True) (R:=R1 x) (f:=f x) (xs:=ys x) (tt:=cN) (e:=e) (λy _=>hg1 x y) (λ_ _=>JT.yes) (λy hy _=>he x hx y hy)
   rw [Rz] at p2
   refine⟨p++q,?_,?_⟩
   ·have h1:=hi1 x hx
    unfold JI at h1
    rw [Kal]
    unfold Dq
    rw [hg x];simp only [Kae,Sl,if_true]
    rw [h1];simp only [Kae]
    rw [p1];simp only [Kae]
    rw [q1];rfl
   ·rw [Kav,p2,q2,KbA,Kav]
 obtain⟨q,q1,q2⟩:=key xs λ_ h=>h
 have hlen:q.length<=100000:=by
  have:=congrArg KbO q2
  simp only [Kaf] at this
  omega
 refine⟨true,?_,λ_=>rfl⟩
 unfold JI at hi
 rw [Ek,hi];simp only [Kae]
 rw [q1];simp only [Kae]
 rw [if_pos hlen,Xa q2,q2];rfl
end
end Pu
namespace Pu
variable [aO]
open PySem L2 Enc
theorem JE.str {ρ:List Slot}{s:ae}(x:Str):JE (SE.av x) ρ s x s true:=⟨true,rfl,λ_=>rfl⟩
end Pu
namespace Pu
variable [aO]
open PySem L2 Enc
/-- a,b,..=a list of eA length -/
def SG.lst (g:sP):SG where
 t:=λK=>gLst K g.n (g.t K)
 ix:=g.ix
 ev:=λd ρ=>match d with|.list ds=>if ds.length=g.n then g.ev ds ρ else none|_=>none
 ok:=by
  intro K sk F H σ ρ aj v d as ρ' Q s r sl h q
  dsimp only at h
  split at h
  ·rename_i ds
   split at h
   ·rename_i hl
    cases r with
    |lst ha hr=>exact⟨_,_,rfl,.inl (.inl (s _ _ ha)),by rw [hr.len];exact hl,g.ok K s hr sl h q⟩
   ·cases h
  ·cases h
theorem WH {α:Type}[Inhabited α](xs:List α)(k:Nat):au xs (k:Int)=(xs[k]?).getD default:=by
 unfold au L2.atI L2.ixN
 rw [if_pos (by omega:(0:Int)<=(k:Int))]
 by_cases h:(k:Int)<(xs.length:Int)
 ·rw [if_pos h]
  simp
 ·rw [if_neg h,KbI (by omega)]
  rfl
end Pu
namespace Pu
open PySem L2 Enc
end Pu
namespace Pu
open PySem PySem.Spec PyProof.Rows PySem.W
open AutoSeq1 (wpAny_loadPart')
abbrev wc (h:Heap)(z TI TO:Addr)(f0:Value)(f:Bool):Prop:=
 h.get? z=some { cls:=.type "zip",dict:=none,data:=.fields #[f0,.bool f,.bool false,.ref TI,.ref TO],slots:=#[] }
def Hh (f0:Value):Prop:=f0=.none∨∃T:Addr,f0=rawInt T
section
variable {prog:Program}{w:World}{A:Around}{E:Value->Shared->Prop}{s:Shared}
theorem Ad {a:Addr}{Q:Option Obj->Shared->Prop}(h:Q (s.heap.get? a) s):wpAny (model prog w) A (loadIfAlive a) Q E s:=λ_ _ _=>h
theorem qc {z TI TO:Addr}{f0:Value}{f:Bool}{Q:Bool->Shared->Prop}(hz:wc s.heap z TI TO f0 f)(hf:f0=.none∨∃T:Addr,f0=rawInt T/\s.heap.get? T=none)(h:Q true s):wpAny (model prog w) A (Builtin.SmallTypes.ownedTupleIsFree (.ref z)) Q E s:=by
 unfold Builtin.SmallTypes.ownedTupleIsFree
 rcases hf with rfl|⟨T,rfl,hT⟩
 ·exact wpAny_bind (wpAny_field hz rfl (x:=.none) rfl (wpAny_pure h))
 ·refine wpAny_bind (wpAny_field hz rfl (x:=rawInt T) rfl ?_)
  show wpAny _ _ (loadIfAlive ((T:Int).toNat) >>= _) _ _ _
  rw [KaK]
  refine wpAny_bind (Ad ?_)
  rw [hT]
  simp only [Option.isNone_none,if_true]
  exact wpAny_pure h
theorem qi {z TI TO i1 i2 l1 l2:Addr}{f0:Value}{f:Bool}{k1 k2:Nat}{xs ys:Array Value}{x y a b:Value}{Q:Value->Shared->Prop}(D:ZipApart z TI TO i1 i2 l1 l2)
  (hz:wc s.heap z TI TO f0 f) (hf:f0=.none∨∃T:Addr,f0=rawInt T/\s.heap.get? T=none) (hTI:IsPair s.heap TI (.ref i1) (.ref i2)) (hTO:IsPair s.heap TO a b)
  (h1:s.heap.IsListIter i1 l1 k1) (h2:s.heap.IsListIter i2 l2 k2) (hl1:s.heap.IsList l1 xs) (hl2:s.heap.IsList l2 ys) (hx:xs[k1]? = some x) (hy:ys[k2]? = some y)
  (hQ:∀h',wc h' z TI TO (rawInt s.heap.objs.size) false->IsPair h' TO x y->h'.IsListIter i1 l1 (k1+1)->h'.IsListIter i2 l2 (k2+1)->IsPair h' s.heap.objs.size x y->h'.objs.size=s.heap.objs.size+1 ->
   (∀c o,c≠z->c≠TO->c≠i1->c≠i2->s.heap.get? c=some o->h'.get? c=some o)->Q (.ref s.heap.objs.size) { s with heap:=h' }):
  wpAny (model prog w) A (Builtin.«zip.__next__» ⟨[.ref z],[]⟩) (λfin s'=>∃v,fin=.done (.ret v)/\Q v s') E s:=by
 show wpAny _ _ (field (.ref z) 2 >>= _) _ _ _
 refine wpAny_bind (wpAny_field hz rfl (x:=.bool false) rfl ?_)
 show wpAny _ _ (field (.ref z) 3 >>= _) _ _ _
 refine wpAny_bind (wpAny_field hz rfl (x:=.ref TI) rfl ?_)
 refine wpAny_bind (wpAny_seqItems hTI rfl ?_)
 show wpAny _ _ (Builtin.SmallTypes.ownedTupleIsFree (.ref z) >>= _) _ _ _
 refine wpAny_bind (qc hz hf ?_)
 simp only [if_true]
 refine wpAny_bind (wpAny_rule ?_)
 refine wpAny_bind (wpAny_field hz rfl (x:=.ref TO) rfl ?_)
 refine wpAny_bind (wpAny_setField_rec hz (by simp) λh₁ cW hs₁=>?_)
 replace cW:wc h₁ z TI TO .ellipsis f:=cW
 refine wpAny_bind ?_
 simp only [Kco,Kcv,Kcw,KcG]
 refine wpAny_bind (wpAny_bind (wpAny_onRaise ?_))
 show wpAny _ _ (Builtin.SmallTypes.nextOf (.ref i1) >>= _) _ _ _
 refine wpAny_bind (wpAny_nextOf_list_item (h1.extBut hs₁.extBut D.i1z) (hl1.extBut hs₁.extBut D.l1z) hx λh₂ yK hs₂=>wpAny_pure ?_)
 have je:IsPair h₂ TO a b:=hs₂.extBut _ _ D.TOi1 (hs₁.extBut _ _ D.TOz hTO)
 refine wpAny_bind (wpAny_seqItems je rfl ?_)
 refine wpAny_bind (wpAny_updateSeq_pair je λh₃ jf bL=>?_)
 replace jf:IsPair h₃ TO x b:=jf
 refine wpAny_bind (wpAny_letGo (wpAny_pure ?_))
 refine wpAny_bind (wpAny_bind (wpAny_onRaise ?_))
 show wpAny _ _ (Builtin.SmallTypes.nextOf (.ref i2) >>= _) _ _ _
 refine wpAny_bind (wpAny_nextOf_list_item (((h2.extBut hs₁.extBut D.i2z).extBut hs₂.extBut D.i12.symm).extBut bL.extBut D.TOi2.symm)
  (((hl2.extBut hs₁.extBut D.l2z).extBut hs₂.extBut D.l2i1).extBut bL.extBut D.l2TO) hy λh₄ DM eX=>wpAny_pure ?_)
 have oR:IsPair h₄ TO x b:=eX.extBut _ _ D.TOi2 jf
 refine wpAny_bind (wpAny_seqItems oR rfl ?_)
 refine wpAny_bind (wpAny_updateSeq_pair oR λh₅ jg cH=>?_)
 replace jg:IsPair h₅ TO x y:=jg
 refine wpAny_bind (wpAny_letGo (wpAny_pure (wpAny_pure ?_)))
 refine wpAny_bind (wpAny_seqItems jg rfl ?_)
 refine wpAny_bind (wpAny_newTuple ?_)
 have hsz:h₅.objs.size=s.heap.objs.size:=by rw [cH.1,eX.1,bL.1,hs₂.1,hs₁.1]
 have Ld:wc h₅ z TI TO .ellipsis f:=cH.extBut _ _ D.TOz.symm (eX.extBut _ _ D.i2z.symm (bL.extBut _ _ D.TOz.symm (hs₂.extBut _ _ D.i1z.symm cW)))
 have Tn:∀c o,c≠z->c≠TO->c≠i1->c≠i2->s.heap.get? c=some o->h₅.get? c=some o:=λc o c1 c2 c3 c4 e=>
  cH.extBut _ _ c2 (eX.extBut _ _ c4 (bL.extBut _ _ c2 (hs₂.extBut _ _ c3 (hs₁.extBut _ _ c1 e))))
 have SD:h₅.IsListIter i1 l1 (k1+1):=((yK.extBut bL.extBut D.TOi1.symm).extBut eX.extBut D.i12).extBut cH.extBut D.TOi1.symm
 have S3:h₅.IsListIter i2 l2 (k2+1):=DM.extBut cH.extBut D.TOi2.symm
 have D8:z<h₅.objs.size:=Heap.lt_size Ld
 show wpAny _ _ (Builtin.SmallTypes.ownedTupleHandOut (.ref z) (.ref h₅.objs.size) >>= _) _ _ _
 refine wpAny_bind ?_
 unfold Builtin.SmallTypes.ownedTupleHandOut
 have Tv:wc (h₅.push { cls:=.type "tuple",data:=.seq #[x,y] }) z TI TO .ellipsis f:=Heap.get?_push_of_some _ Ld
 refine wpAny_bind (wpAny_setField_rec Tv (by simp) λfQ rL fG=>?_)
 replace rL:wc fQ z TI TO (rawInt h₅.objs.size) f:=rL
 refine wpAny_setField_rec rL (by simp) λEb rM D4=>?_
 replace rM:wc Eb z TI TO (rawInt h₅.objs.size) false:=rM
 have up:∀c o,c≠z->h₅.get? c=some o->Eb.get? c=some o:=λc o c1 e=>D4.extBut _ _ c1 (fG.extBut _ _ c1 (Heap.get?_push_of_some _ e))
 have K0:IsPair Eb h₅.objs.size x y:=D4.extBut _ _ (Kb8 D8) (fG.extBut _ _ (Kb8 D8) (Heap.get?_push_size _ rfl))
 have hz8:Eb.objs.size=h₅.objs.size+1:=by rw [D4.1,fG.1,Heap.size_push]
 rw [hsz] at rM K0 hz8
 refine wpAny_pure ⟨_,rfl,?_⟩
 show Q (.ref h₅.objs.size) _
 rw [hsz]
 exact hQ Eb rM (up _ _ D.TOz jg) (SD.at λo e=>up _ o D.i1z e) (S3.at λo e=>up _ o D.i2z e) K0 hz8 λc o c1 c2 c3 c4 e=>up c o c1 (Tn c o c1 c2 c3 c4 e)
theorem jT {z TI TO i1 i2 l1 l2:Addr}{f0:Value}{f:Bool}{k1 k2:Nat}{xs ys:Array Value}{a b:Value}{Q:Fin->Shared->Prop}(hh:A.handled=none)(D:ZipApart z TI TO i1 i2 l1 l2)
  (hz:wc s.heap z TI TO f0 f) (hf:f0=.none∨∃T:Addr,f0=rawInt T/\s.heap.get? T=none) (hTI:IsPair s.heap TI (.ref i1) (.ref i2)) (hTO:IsPair s.heap TO a b)
  (h1:s.heap.IsListIter i1 l1 k1) (h2:s.heap.IsListIter i2 l2 k2) (hl1:s.heap.IsList l1 xs) (hl2:s.heap.IsList l2 ys) (hend:xs[k1]? = none∨ys[k2]? = none)
  (hE:∀h' e,(∀c o,c≠z->c≠TO->c≠i1->c≠i2->s.heap.get? c=some o->h'.get? c=some o)->(∃o,h'.get? e=some o/\o.cls=.type "StopIteration")->E (.ref e) { s with heap:=h' }):
  wpAny (model prog w) A (Builtin.«zip.__next__» ⟨[.ref z],[]⟩) Q E s:=by
 show wpAny _ _ (field (.ref z) 2 >>= _) _ _ _
 refine wpAny_bind (wpAny_field hz rfl (x:=.bool false) rfl ?_)
 show wpAny _ _ (field (.ref z) 3 >>= _) _ _ _
 refine wpAny_bind (wpAny_field hz rfl (x:=.ref TI) rfl ?_)
 refine wpAny_bind (wpAny_seqItems hTI rfl ?_)
 show wpAny _ _ (Builtin.SmallTypes.ownedTupleIsFree (.ref z) >>= _) _ _ _
 refine wpAny_bind (qc hz hf ?_)
 simp only [if_true]
 refine wpAny_bind (wpAny_rule ?_)
 refine wpAny_bind (wpAny_field hz rfl (x:=.ref TO) rfl ?_)
 refine wpAny_bind (wpAny_setField_rec hz (by simp) λh₁ cW hs₁=>?_)
 replace cW:wc h₁ z TI TO .ellipsis f:=cW
 refine wpAny_bind ?_
 simp only [Kco,Kcv,Kcw,KcG]
 refine wpAny_bind (wpAny_bind (wpAny_onRaise ?_))
 show wpAny _ _ (Builtin.SmallTypes.nextOf (.ref i1) >>= _) _ _ _
 cases hx:xs[k1]? with
 |none=>
  refine wpAny_bind (wpAny_nextOf_list_end hh (h1.extBut hs₁.extBut D.i1z) (hl1.extBut hs₁.extBut D.l1z) hx λh₂ e hs₂ he=>?_)
  obtain⟨oe,DZ,hce⟩:=he
  have uQ:wc h₂ z TI TO .ellipsis f:=hs₂ _ _ D.i1z.symm cW
  have Tg:e≠z:=λx=>by subst x;rw [uQ] at DZ;cases DZ;simp at hce
  refine wpAny_setField_rec uQ (by simp) λh₃ _ bL=>hE h₃ e (λc o c1 _ c3 _ x=>bL.extBut _ _ c1 (hs₂ _ _ c3 (hs₁.extBut _ _ c1 x))) ⟨oe,bL.extBut _ _ Tg DZ,hce⟩
 |some x=>
  have hy:ys[k2]? = none:=by rcases hend with h|h;rw [hx] at h;cases h;exact h
  refine wpAny_bind (wpAny_nextOf_list_item (h1.extBut hs₁.extBut D.i1z) (hl1.extBut hs₁.extBut D.l1z) hx λh₂ yK hs₂=>wpAny_pure ?_)
  have je:IsPair h₂ TO a b:=hs₂.extBut _ _ D.TOi1 (hs₁.extBut _ _ D.TOz hTO)
  refine wpAny_bind (wpAny_seqItems je rfl ?_)
  refine wpAny_bind (wpAny_updateSeq_pair je λh₃ jf bL=>?_)
  refine wpAny_bind (wpAny_letGo (wpAny_pure ?_))
  refine wpAny_bind (wpAny_bind (wpAny_onRaise ?_))
  show wpAny _ _ (Builtin.SmallTypes.nextOf (.ref i2) >>= _) _ _ _
  refine wpAny_bind (wpAny_nextOf_list_end hh (((h2.extBut hs₁.extBut D.i2z).extBut hs₂.extBut D.i12.symm).extBut bL.extBut D.TOi2.symm)
   (((hl2.extBut hs₁.extBut D.l2z).extBut hs₂.extBut D.l2i1).extBut bL.extBut D.l2TO) hy λh₄ e eX he=>?_)
  obtain⟨oe,DZ,hce⟩:=he
  have Lb:wc h₄ z TI TO .ellipsis f:=eX _ _ D.i2z.symm (bL.extBut _ _ D.TOz.symm (hs₂.extBut _ _ D.i1z.symm cW))
  have Tg:e≠z:=λx=>by subst x;rw [Lb] at DZ;cases DZ;simp at hce
  refine wpAny_setField_rec Lb (by simp) λh₅ _ cH=>hE h₅ e (λc o c1 c2 c3 c4 x=>cH.extBut _ _ c1 (eX _ _ c4 (bL.extBut _ _ c2 (hs₂.extBut _ _ c3 (hs₁.extBut _ _ c1 x))))) ⟨oe,cH.extBut _ _ Tg DZ,hce⟩
/-- bh next pair of a zip,Yo its tuple is out or not -/
theorem nB {z TI TO i1 i2 l1 l2:Addr}{f0:Value}{f:Bool}{k1 k2:Nat}{xs ys:Array Value}{x y a b:Value}{Q:Value->Shared->Prop}(D:ZipApart z TI TO i1 i2 l1 l2)
  (hz:wc s.heap z TI TO f0 f) (hf:Hh f0) (hTI:IsPair s.heap TI (.ref i1) (.ref i2)) (hTO:IsPair s.heap TO a b)
  (h1:s.heap.IsListIter i1 l1 k1) (h2:s.heap.IsListIter i2 l2 k2) (hl1:s.heap.IsList l1 xs) (hl2:s.heap.IsList l2 ys) (hx:xs[k1]? = some x) (hy:ys[k2]? = some y)
  (hQ:∀h' WY f' a' b',wc h' z TI TO WY f'->Hh WY->IsPair h' TO a' b'->h'.IsListIter i1 l1 (k1+1)->h'.IsListIter i2 l2 (k2+1)->IsPair h' s.heap.objs.size x y->h'.objs.size=s.heap.objs.size+1 ->
   (∀c o,c≠z->c≠TO->c≠i1->c≠i2->s.heap.get? c=some o->h'.get? c=some o)->Q (.ref s.heap.objs.size) { s with heap:=h' }):
  wpAny (model prog w) A (Builtin.SmallTypes.nextOf (.ref z)) Q E s:=by
 have hT:s.TypeIs (.ref z) "zip":=⟨_,hz,rfl⟩
 unfold Builtin.SmallTypes.nextOf
 refine wpAny_bind (wpAny_callSpecial?_slot (name:=Str.ofString "__next__") hT F.slot_zip_next (wpAny_call_entry F.slot_zip_next hT F.entry_zip_next ?_ (F.args_zip_next_1 _)))
 have free:(f0=.none∨∃T:Addr,f0=rawInt T/\s.heap.get? T=none)->wpAny (model prog w) A.in1 (Builtin.«zip.__next__» ⟨[.ref z],[]⟩) (λfin s'=>∃v,fin=.done (.ret v)/\wpAny (model prog w) A (pure v) Q E s') E s:=λhf=>
  qi D hz hf hTI hTO h1 h2 hl1 hl2 hx hy λh' a1 a2 a3 a4 a5 a6 a7=>wpAny_pure (hQ h' _ _ _ _ a1 (.inr ⟨_,rfl⟩) a2 a3 a4 a5 a6 a7)
 rcases hf with rfl|⟨T,rfl⟩
 ·exact free (.inl rfl)
 ·cases hd:s.heap.get? T with
  |none=>exact free (.inr ⟨T,rfl,hd⟩)
  |some oT=>
   refine zip_next_item_held D (show IsZipHeld s.heap z TI TO T f from hz) hd hTI h1 h2 hl1 hl2 hx hy λh' a1 a3 a4 a5 a6 a7=>wpAny_pure (hQ h' (rawInt T) true a b a1 (.inr ⟨T,rfl⟩) (a7 TO _ D.TOz D.TOi1 D.TOi2 hTO) a3 a4 a5 a6 λc o c1 _ c3 c4 e=>a7 c o c1 c3 c4 e)
theorem pH {z TI TO i1 i2 l1 l2:Addr}{f0:Value}{f:Bool}{k1 k2:Nat}{xs ys:Array Value}{a b:Value}{Q:Value->Shared->Prop}(hh:A.handled=none)(D:ZipApart z TI TO i1 i2 l1 l2)
  (hz:wc s.heap z TI TO f0 f) (hf:Hh f0) (hTI:IsPair s.heap TI (.ref i1) (.ref i2)) (hTO:IsPair s.heap TO a b)
  (h1:s.heap.IsListIter i1 l1 k1) (h2:s.heap.IsListIter i2 l2 k2) (hl1:s.heap.IsList l1 xs) (hl2:s.heap.IsList l2 ys) (hend:xs[k1]? = none∨ys[k2]? = none)
  (hE:∀h' e,(∀c o,c≠z->c≠TO->c≠i1->c≠i2->s.heap.get? c=some o->h'.get? c=some o)->(∃o,h'.get? e=some o/\o.cls=.type "StopIteration")->E (.ref e) { s with heap:=h' }):
  wpAny (model prog w) A (Builtin.SmallTypes.nextOf (.ref z)) Q E s:=by
 have hT:s.TypeIs (.ref z) "zip":=⟨_,hz,rfl⟩
 unfold Builtin.SmallTypes.nextOf
 refine wpAny_bind (wpAny_callSpecial?_slot (name:=Str.ofString "__next__") hT F.slot_zip_next (wpAny_call_entry F.slot_zip_next hT F.entry_zip_next ?_ (F.args_zip_next_1 _)))
 have hh':A.in1.handled=none:=hh
 rcases hf with rfl|⟨T,rfl⟩
 ·exact jT hh' D hz (.inl rfl) hTI hTO h1 h2 hl1 hl2 hend hE
 ·cases hd:s.heap.get? T with
  |none=>exact jT hh' D hz (.inr ⟨T,rfl,hd⟩) hTI hTO h1 h2 hl1 hl2 hend hE
  |some oT=>exact zip_next_end_held hh' D (show IsZipHeld s.heap z TI TO T f from hz) hd hTI h1 h2 hl1 hl2 hend λh' e hk he=>hE h' e (λc o c1 _ c3 c4 x=>hk c o c1 c3 c4 x) he
end
end Pu
namespace Pu
open PySem PySem.Spec PyProof.Rows PySem.W
open AutoSeq1 (wpAny_loadPart')
section
variable {prog:Program}{w:World}{A:Around}{E:Value->Shared->Prop}{s:Shared}
structure Dw (h:Heap)(z TI TO i1 i2 l1 l2:Addr)(k:Nat):Prop where
 z:∃f0 f,wc h z TI TO f0 f/\Hh f0
 ti:IsPair h TI (.ref i1) (.ref i2)
 to:∃a b,IsPair h TO a b
 h1:h.IsListIter i1 l1 k
 h2:h.IsListIter i2 l2 k
theorem Dw.keep {h h':Heap}{z TI TO i1 i2 l1 l2:Addr}{k:Nat}(S:Dw h z TI TO i1 i2 l1 l2 k)(q:∀b∈[z,TI,TO,i1,i2],∀o,h.get? b=some o->h'.get? b=some o):Dw h' z TI TO i1 i2 l1 l2 k:=by
 obtain⟨⟨f0,f,hz,hf⟩,hTI,⟨a,b,hTO⟩,h1,h2⟩:=S
 exact⟨⟨f0,f,q z (by simp) _ hz,hf⟩,q TI (by simp) _ hTI,⟨a,b,q TO (by simp) _ hTO⟩,h1.at λo e=>q i1 (by simp) o e,h2.at λo e=>q i2 (by simp) o e⟩
theorem ng {e z TI TO i1 i2 l1 l2:Addr}{i:Nat}{xs ys:Array Value}{x y old:Value}{Q:Value->Shared->Prop}(D:ZipApart z TI TO i1 i2 l1 l2)
  (he:IsEnum s.heap e z i old) (S:Dw s.heap z TI TO i1 i2 l1 l2 i) (hl1:s.heap.IsList l1 xs) (hl2:s.heap.IsList l2 ys) (hx:xs[i]? = some x) (hy:ys[i]? = some y) (hne:e∉[z,TI,TO,i1,i2])
  (hQ:∀h₁ h' a,Dw h₁ z TI TO i1 i2 l1 l2 (i+1)->IsPair h₁ s.heap.objs.size x y->h₁.objs.size=s.heap.objs.size+1->(∀b o,b∉[e,z,TI,TO,i1,i2]->s.heap.get? b=some o->h₁.get? b=some o) ->
   IsEnumOut h' e z ((i:Int)+1) a (s.heap.objs.size+1)->h'.get? (s.heap.objs.size+1)=some { cls:=.type "tuple",data:=.seq #[.int i s.toks,.ref s.heap.objs.size] }->(∀b o,b≠e->h₁.get? b=some o->h'.get? b=some o) ->
   Q (.ref (s.heap.objs.size+1)) { s with heap:=h',toks:=s.toks+1 }):
  wpAny (model prog w) A (Builtin.«enumerate.__next__» ⟨[.ref e],[]⟩) (λfin s'=>∃v,fin=.done (.ret v)/\Q v s') E s:=by
 obtain⟨hp,g,d,tk,os⟩:=s
 obtain⟨⟨f0,f,hz,hf⟩,hTI,⟨a,b,hTO⟩,h1,h2⟩:=S
 have nz:e≠z:=λq=>hne (by simp [q])
 have nTI:e≠TI:=λq=>hne (by simp [q])
 have nTO:e≠TO:=λq=>hne (by simp [q])
 have n1:e≠i1:=λq=>hne (by simp [q])
 have n2:e≠i2:=λq=>hne (by simp [q])
 show wpAny _ _ (field (.ref e) 2 >>= _) _ _ _
 refine wpAny_bind (wpAny_field he rfl (x:=.ref z) rfl ?_)
 refine wpAny_bind (nB D hz hf hTI hTO h1 h2 hl1 hl2 hx hy λh₁ WY f' a' b' z₁ o₁ Qu Sz S2 T₁ hz1 hk₁=>?_)
 replace hz1:h₁.objs.size=hp.objs.size+1:=hz1
 replace hk₁:∀c o,c≠z->c≠TO->c≠i1->c≠i2->hp.get? c=some o->h₁.get? c=some o:=hk₁
 replace T₁:IsPair h₁ hp.objs.size x y:=T₁
 have S₁:Dw h₁ z TI TO i1 i2 l1 l2 (i+1):=⟨⟨WY,f',z₁,o₁⟩,hk₁ _ _ D.TIz D.TITO D.TIi1 D.TIi2 hTI,⟨a',b',Qu⟩,Sz,S2⟩
 have DQ:IsEnum h₁ e z i old:=hk₁ _ _ nz nTO n1 n2 he
 show wpAny _ _ (field (.ref e) 3 >>= _) _ _ ⟨h₁,g,d,tk,os⟩
 refine wpAny_bind (wpAny_field DQ rfl (x:=rawInt i) rfl ?_)
 show wpAny _ _ (field (.ref e) 4 >>= _) _ _ ⟨h₁,g,d,tk,os⟩
 refine wpAny_bind (wpAny_field DQ rfl (x:=.none) rfl ?_)
 show wpAny _ _ (mkInt i >>= _) _ _ ⟨h₁,g,d,tk,os⟩
 refine wpAny_bind (wpAny_mkInt ?_)
 show wpAny _ _ (setField (.ref e) 3 (rawInt ((i:Int)+1)) >>= _) _ _ ⟨h₁,g,d,tk+1,os⟩
 refine wpAny_bind (wpAny_setField_rec DQ (by simp) λh₂ yL hs₂=>?_)
 replace hs₂:Heap.SameBut e h₁ h₂:=hs₂
 replace yL:IsEnum h₂ e z ((i:Int)+1) old:=yL
 show wpAny _ _ (setField (.ref e) 4 .none >>= _) _ _ ⟨h₂,g,d,tk+1,os⟩
 refine wpAny_bind (wpAny_setField_rec yL (by simp) λh₃ yN bL=>?_)
 replace bL:Heap.SameBut e h₂ h₃:=bL
 replace yN:IsEnum h₃ e z ((i:Int)+1) old:=yN
 show wpAny _ _ (newTuple [.int i tk,.ref hp.objs.size] >>= _) _ _ ⟨h₃,g,d,tk+1,os⟩
 refine wpAny_bind (wpAny_newTuple ?_)
 have yO:IsEnum (h₃.push { cls:=.type "tuple",data:=.seq #[.int i tk,.ref hp.objs.size] }) e z ((i:Int)+1) old:=Heap.get?_push_of_some _ yN
 generalize DW:h₃.push { cls:=.type "tuple",data:=.seq #[.int i tk,.ref hp.objs.size] }=h₄ at yO
 have hsz:h₃.objs.size=hp.objs.size+1:=by rw [bL.1,hs₂.1,hz1]
 have hel:e<hp.objs.size:=Heap.lt_size he
 have Tr:h₄.get? (hp.objs.size+1)=some { cls:=.type "tuple",data:=.seq #[.int i tk,.ref hp.objs.size] }:=by rw [<-DW,<-hsz];exact Heap.get?_push_size _ rfl
 have Tj:∀b o,b≠e->h₁.get? b=some o->h₄.get? b=some o:=λb o MP hb=>by
  rw [<-DW];exact Heap.get?_push_of_some _ (bL.extBut b o MP (hs₂.extBut b o MP hb))
 show wpAny _ _ (Builtin.SmallTypes.ownedTupleIsFree (.ref e) >>= _) _ _ ⟨h₄,g,d,tk+1,os⟩
 rw [hsz]
 clear DW yN bL yL hs₂ hsz h₃ h₂
 refine wpAny_bind ?_
 ·unfold Builtin.SmallTypes.ownedTupleIsFree
  refine wpAny_bind (wpAny_field yO rfl (x:=.none) rfl (wpAny_pure ?_))
  simp only [if_true]
  refine wpAny_bind (wpAny_rule ?_)
  refine wpAny_bind (wpAny_field yO rfl (x:=old) rfl ?_)
  refine wpAny_bind (wpAny_setField_rec yO (by simp) λh₅ DR cH=>?_)
  replace cH:Heap.SameBut e h₄ h₅:=cH
  replace DR:IsEnum h₅ e z ((i:Int)+1) (.ref hp.objs.size):=DR
  show wpAny _ _ (Builtin.SmallTypes.ownedTupleHandOut (.ref e) (.ref (hp.objs.size+1)) >>= _) _ _ ⟨h₅,g,d,tk+1,os⟩
  refine wpAny_bind ?_
  ·unfold Builtin.SmallTypes.ownedTupleHandOut
   refine wpAny_bind (wpAny_setField_rec DR (by simp) λEa DU ji=>?_)
   replace ji:Heap.SameBut e h₅ Ea:=ji
   replace DU:IsEnumOut Ea e z ((i:Int)+1) (.ref hp.objs.size) (hp.objs.size+1):=DU
   refine wpAny_setField_rec DU (by simp) λfQ DV fG=>?_
   replace fG:Heap.SameBut e Ea fQ:=fG
   replace DV:IsEnumOut fQ e z ((i:Int)+1) (.ref hp.objs.size) (hp.objs.size+1):=DV
   have nT:hp.objs.size+1≠e:=Kb8 (KcJ hel)
   refine wpAny_bind (wpAny_letGo (wpAny_pure ⟨_,rfl,hQ h₁ fQ _ S₁ T₁ hz1 (λb o hb q=>hk₁ b o (λr=>hb (by simp [r])) (λr=>hb (by simp [r])) (λr=>hb (by simp [r])) (λr=>hb (by simp [r])) q) DV ?_ ?_⟩))
   ·exact fG.extBut _ _ nT (ji.extBut _ _ nT (cH.extBut _ _ nT Tr))
   ·exactλb o MP hb=>fG.extBut b o MP (ji.extBut b o MP (cH.extBut b o MP (Tj b o MP hb)))
theorem kX {e z TI TO i1 i2 l1 l2:Addr}{i:Nat}{xs ys:Array Value}{x y old:Value}{Q:Option Value->Shared->Prop}(D:ZipApart z TI TO i1 i2 l1 l2)
  (he:IsEnum s.heap e z i old) (S:Dw s.heap z TI TO i1 i2 l1 l2 i) (hl1:s.heap.IsList l1 xs) (hl2:s.heap.IsList l2 ys) (hx:xs[i]? = some x) (hy:ys[i]? = some y) (hne:e∉[z,TI,TO,i1,i2])
  (hQ:∀h₁ h' a,Dw h₁ z TI TO i1 i2 l1 l2 (i+1)->IsPair h₁ s.heap.objs.size x y->h₁.objs.size=s.heap.objs.size+1->(∀b o,b∉[e,z,TI,TO,i1,i2]->s.heap.get? b=some o->h₁.get? b=some o) ->
   IsEnumOut h' e z ((i:Int)+1) a (s.heap.objs.size+1)->h'.get? (s.heap.objs.size+1)=some { cls:=.type "tuple",data:=.seq #[.int i s.toks,.ref s.heap.objs.size] }->(∀b o,b≠e->h₁.get? b=some o->h'.get? b=some o) ->
   Q (some (.ref (s.heap.objs.size+1))) { s with heap:=h',toks:=s.toks+1 }):
  wpAny (model prog w) A (pyNext (.ref e)) Q E s:=by
 have hT:s.TypeIs (.ref e) "enumerate":=⟨_,he,rfl⟩
 unfold pyNext
 exact wpAny_bind (wpAny_attempt (wpAny_callSpecial?_slot (name:=Str.ofString "__next__") hT F.slot_enumerate_next
  (wpAny_call_entry F.slot_enumerate_next hT F.entry_enumerate_next
   (ng D he S hl1 hl2 hx hy hne λh₁ h' a b1 b2 b3 b4 b5 b6 b7=>wpAny_pure (hQ h₁ h' a b1 b2 b3 b4 b5 b6 b7)) (F.args_enumerate_next_1 _))))
theorem lU {e z TI TO i1 i2 l1 l2:Addr}{i:Nat}{xs ys:Array Value}{old:Value}{Q:Option Value->Shared->Prop}(hh:A.handled=none)(D:ZipApart z TI TO i1 i2 l1 l2)
  (he:IsEnum s.heap e z i old) (S:Dw s.heap z TI TO i1 i2 l1 l2 i) (hl1:s.heap.IsList l1 xs) (hl2:s.heap.IsList l2 ys) (hend:xs[i]? = none∨ys[i]? = none)
  (hQ:∀h',(∀b o,b∉[e,z,TI,TO,i1,i2]->s.heap.get? b=some o->h'.get? b=some o)->Q none { s with heap:=h' }):wpAny (model prog w) A (pyNext (.ref e)) Q E s:=by
 have hT:s.TypeIs (.ref e) "enumerate":=⟨_,he,rfl⟩
 obtain⟨⟨f0,f,hz,hf⟩,hTI,⟨a,b,hTO⟩,h1,h2⟩:=S
 unfold pyNext
 refine wpAny_bind (wpAny_attempt (wpAny_callSpecial?_slot (name:=Str.ofString "__next__") hT F.slot_enumerate_next
  (wpAny_call_entry F.slot_enumerate_next hT F.entry_enumerate_next ?_ (F.args_enumerate_next_1 _))))
 show wpAny _ _ (field (.ref e) 2 >>= _) _ _ _
 refine wpAny_bind (wpAny_field he rfl (x:=.ref z) rfl ?_)
 refine wpAny_bind (pH hh D hz hf hTI hTO h1 h2 hl1 hl2 hend λh' x he' hx'=>?_)
 obtain⟨o,ho,hc⟩:=hx'
 refine wpAny_bind (wpAny_isInstance (T := "StopIteration") (b:=true) ⟨o,ho,hc⟩ isSubtype_stop ?_)
 exact wpAny_pure (hQ _ λb o hb q=>he' b o (λr=>hb (by simp [r])) (λr=>hb (by simp [r])) (λr=>hb (by simp [r])) (λr=>hb (by simp [r])) q)
theorem jk (z TI TO:Addr)(f0:Value):
  Meets (Builtin.«enumerate.__new__» ⟨[.type "enumerate",.ref z],[]⟩) (λ_ R s=>IsZip s.heap z TI TO f0 /\
   R (.ok (.ret (.ref s.heap.objs.size)))
    { s with heap:=s.heap.push { cls:=.type "enumerate",data:=.fields #[.none,.bool false,.ref z,rawInt 0,.none,.none] } }):=
 .of_wp λprog w A R s h=>by
  obtain⟨hp,g,d,tk,os⟩:=s;obtain⟨hl,h⟩:=h
  have hsub:=sub_enumerate
  have hL:IsZip (Shared.heap ⟨hp,g,d,tk,os⟩) z TI TO f0:=hl
  wp_walk using wpAny_loadPart' hl
  refine wpAny_stack_any λst=>wpAny_pure ?_
  split
  ·rename_i c _ _ _ _ _
   cases (c == Value.type "enumerate")
   ·wp_walk using wpAny_loadPart' hl,wpAny_pyIter_zip hL
    exact⟨_,rfl,h⟩
   ·wp_walk using wpAny_loadPart' hl,wpAny_pyIter_zip hL
    exact⟨_,rfl,h⟩
  ·wp_walk using wpAny_loadPart' hl,wpAny_pyIter_zip hL
   exact⟨_,rfl,h⟩
theorem jY {z TI TO:Addr}{f0:Value}{Q:Value->Shared->Prop}(hL:IsZip s.heap z TI TO f0)
  (h:∀h',IsEnum h' s.heap.objs.size z 0 .none->h'.objs.size=s.heap.objs.size+1 ->
   (∀b o,s.heap.get? b=some o->h'.get? b=some o)->Q (.ref s.heap.objs.size) { s with heap:=h' }):
  wpAny (model prog w) A (call (.type "enumerate") [.ref z]) Q E s:=by
 refine callType_new F.called_enumerate (by decide) (F.typeCall_enumerate_1 _) (F.newCall_enumerate_1 _) (λobj=>F.args_object_init_2 obj _) F.entry_enumerate_new
  (jk z TI TO f0) ⟨hL,?_⟩
 have he:IsEnum (s.heap.push { cls:=.type "enumerate",data:=.fields #[.none,.bool false,.ref z,rawInt 0,.none,.none] }) s.heap.objs.size z 0 .none:=Heap.get?_push_size _ rfl
 exact⟨⟨_,he,rfl⟩,h _ he (Heap.size_push ..) λb o x=>Heap.get?_push_of_some _ x⟩
end
end Pu
namespace Pu
variable [aO]
open PySem PySem.Spec PyProof.Rows L2 PySem.W
/-- bh lists at a and b as JH stand at each turn,bh number and bh items in new pairs -/
def Ql (K:PySem.W.Frag)(a b:Addr):It:=
 ⟨λi H=>∃(xs ys:List V) (x y:V),SqL K H a xs/\SqL K H b ys/\xs[i]? = some x/\ys[i]? = some y,
  λi H v H'=>∃T U x y,v=.ref U/\H T=none/\H U=none/\T≠U/\H'=upd (upd H T (.tup [x,y])) U (.tup [.int (i:Nat),.ref T])/\(∀xs,SqL K H a xs->xs[i]? = some x)/\∀ys,SqL K H b ys->ys[i]? = some y,
  λi H=>∃xs ys:List V,SqL K H a xs/\SqL K H b ys/\(xs.length<=i∨ys.length<=i)⟩
theorem xJ {P:Program}{w:World}{K:PySem.W.Frag}{elts:List Expr}{kk:Nat}{tpos:Pos}{a b e z TI TO i1 i2:Addr}(D:ZipApart z TI TO i1 i2 a b)(hne:e∉[z,TI,TO,i1,i2]):
  Turn P w K (.Tuple elts kk tpos) (Ql K a b) [e,z,TI,TO,i1,i2] e (λi h=>(∃old,IsEnum h e z ((i:Nat):Int) old)/\Dw h z TI TO i1 i2 a b i) where
 mem:=by simp
 obj:=λi h st c hc=>by
  obtain⟨⟨old,he⟩,⟨⟨f0,f,hz,_⟩,hTI,⟨x,y,hTO⟩,⟨o1,e1,_,d1⟩,⟨o2,e2,_,d2⟩⟩⟩:=st
  have e':c=e∨c=z∨c=TI∨c=TO∨c=i1∨c=i2:=by simpa using hc
  rcases e' with q|q|q|q|q|q
  ·rw [q];exact⟨_,he,λv q=>nomatch q⟩
  ·rw [q];exact⟨_,hz,λv q=>nomatch q⟩
  ·rw [q];exact⟨_,hTI,λv q=>nomatch q⟩
  ·rw [q];exact⟨_,hTO,λv q=>nomatch q⟩
  ·rw [q];exact⟨o1,e1,λv q=>by rw [d1] at q;cases q⟩
  ·rw [q];exact⟨o2,e2,λv q=>by rw [d2] at q;cases q⟩
 keep:=λi h h' st k=>by
  obtain⟨⟨old,he⟩,S⟩:=st
  exact⟨⟨old,k e (by simp) _ he⟩,S.keep λb hb o q=>k b (Kad _ hb) o q⟩
 item:=by
  intro X hP hw hK hc i pins s σ H E I hf st hg
  subst hP hw hK
  obtain⟨⟨old,he⟩,S⟩:=st
  obtain⟨xs,ys,x,y,AN,D3,hx,hy⟩:=hg
  obtain⟨its,rv,p,_⟩:=I.list AN
  obtain⟨its2,NO,p2,_⟩:=I.list D3
  obtain⟨u,hu,ru⟩:=rv.get hx
  obtain⟨u2,MX,ru2⟩:=NO.get hy
  have hel:e<s.heap.objs.size:=Heap.lt_size he
  refine kX D he S p.isList p2.isList (x:=u) (y:=u2) (by simpa using hu) (by simpa using MX) hne λh₁ h' a' S₁ T₁ cW hk₁ he' U' hk'=>?_
  refine⟨_,rfl,wpAny_letOwnedTupleGo_enum (s:={ s with heap:=h',toks:=s.toks+1 }) he' λh'' bqJ sb=>?_⟩
  have bq9:ObjOk X.prog X.w (upd H s.heap.objs.size (.tup [x,y])) h₁ s.heap.objs.size (.tup [x,y]):=
   ⟨by show 2<=sizeLine;decide,[u,u2],.cons ru (.cons ru2 .nil),⟨_,T₁,rfl,_,rfl⟩⟩
  have I1:Inv X pins σ (upd H s.heap.objs.size (.tup [x,y])) { s with heap:=h₁,toks:=s.toks }:=
   I.turnedNew (t':=s.toks) (ch:=[e,z,TI,TO,i1,i2]) hk₁ hf (Kak _) bq9
  have hlt:∀c∈[e,z,TI,TO,i1,i2],c<s.heap.objs.size:=by
   intro c hc
   obtain⟨⟨f0,f,hz,_⟩,hTI,⟨x,y,hTO⟩,⟨o1,e1,_,d1⟩,⟨o2,e2,_,d2⟩⟩:=S
   have e':c=e∨c=z∨c=TI∨c=TO∨c=i1∨c=i2:=by simpa using hc
   rcases e' with q|q|q|q|q|q
   ·rw [q];exact hel
   ·rw [q];exact Heap.lt_size hz
   ·rw [q];exact Heap.lt_size hTI
   ·rw [q];exact Heap.lt_size hTO
   ·rw [q];exact Heap.lt_size e1
   ·rw [q];exact Heap.lt_size e2
  have hT2:h''.get? (s.heap.objs.size+1)=some { cls:=.type "tuple",data:=.seq #[.int i s.toks,.ref s.heap.objs.size] }:=(sb.2 _ (Kb8 (KcJ hel))).trans U'
  have bqN:s.heap.objs.size≠s.heap.objs.size+1:=KcD (Kbl _)
  have cqA:ObjOk X.prog X.w (upd (upd H s.heap.objs.size (.tup [x,y])) (s.heap.objs.size+1) (.tup [.int (i:Nat),.ref s.heap.objs.size])) h'' (s.heap.objs.size+1) (.tup [.int (i:Nat),.ref s.heap.objs.size]):=
   ⟨by show 2<=sizeLine;decide,[.int i s.toks,.ref s.heap.objs.size],.cons ⟨_,rfl⟩ (.cons rfl .nil),⟨_,hT2,rfl,_,rfl⟩⟩
  have hf2:∀b∈[e],FpOk X pins (upd H s.heap.objs.size (.tup [x,y])) b:=λb hb=>by
   have hb':b∈[e,z,TI,TO,i1,i2]:=by
    have:b=e:=by simpa using hb
    simp [this]
   obtain⟨q1,q2⟩:=hf b hb'
   exact⟨by rw [upd_ne (KcD (hlt b hb'))];exact q1,q2⟩
  have I2:Inv X pins σ (upd (upd H s.heap.objs.size (.tup [x,y])) (s.heap.objs.size+1) (.tup [.int (i:Nat),.ref s.heap.objs.size])) { s with heap:=h'',toks:=s.toks+1 }:=
   I1.turnedNew (t':=s.toks+1) (ch:=[e]) (λc o hb q=>(sb.2 c (λq'=>hb (by simp [q']))).trans (hk' c o (λq'=>hb (by simp [q'])) q)) hf2 (by show h₁.objs.size<=_;rw [cW];exact Kak _) cqA
  refine⟨.ref (s.heap.objs.size+1),_,I2,rfl,⟨s.heap.objs.size,_,x,y,rfl,I.hok.fresh (Kak _),I.hok.fresh (Nat.le_succ _),bqN,rfl,λl hl=>by rw [I.list_inj hl AN];exact hx,λl hl=>by rw [I.list_inj hl D3];exact hy⟩,⟨⟨a',?_⟩,?_⟩,λc Iu=>?_⟩
  ·have e1:((i+1:Nat):Int)=(i:Int)+1:=by omega
   rw [e1];exact bqJ
  ·exact S₁.keep λc hc o q=>by
    have hce:c≠e:=λr=>hne (r ▸ hc)
    exact (sb.2 c hce).trans (hk' c o hce q)
  ·have hl:=hlt c Iu
   rw [upd_ne (KcD (KcJ hl)),upd_ne (KcD hl)]
   exact (hf c Iu).1
 done:=by
  intro X hP hw hK hc i pins s σ H E I hf st hg
  subst hP hw hK
  obtain⟨⟨old,he⟩,S⟩:=st
  obtain⟨xs,ys,AN,D3,hend⟩:=hg
  obtain⟨its,rv,p,_⟩:=I.list AN
  obtain⟨its2,NO,p2,_⟩:=I.list D3
  have l1:=rv.length
  have l2:=NO.length
  have hx:its.toArray[i]? = none∨its2.toArray[i]? = none:=by
   rcases hend with q|q
   ·exact .inl (by simp;omega)
   ·exact .inr (by simp;omega)
  exact lU (I.ok.hd hc) D he S p.isList p2.isList hx λh' hk=>⟨rfl,I.turnedL (t':=s.toks) (ch:=[e,z,TI,TO,i1,i2]) hk hf⟩
 self:=λA i s Q E st h=>let ⟨⟨_,he⟩,_⟩:=st;wpAny_pyIter_enum he h
def uR (K:PySem.W.Frag)(ta:TA):TI:=λσ H R=>ta σ H λvs H1=>∃a b xs ys,vs=[.ref a,.ref b]/\SqL K H1 a xs/\SqL K H1 b ys/\R (Ql K a b) H1
theorem xy {X:Cx}{e e2:Expr}{ta:TA}{p p2 pos pos2 tpos:Pos}{elts:List Expr}{kk:Nat}(hg:Gl X "enumerate")(hm:X.mg "enumerate" = none)(hg2:Gl X "zip")(hm2:X.mg "zip" = none)(ha:PA X [e,e2] ta)
  (hs:starEach [e,e2] X.env=(false,eval e X.env)::starEach [e2] X.env:=by rfl) (hpl:(backTo pos2 (starEach [e2] X.env)).any (·.1)=false:=by rfl)
  (hs0:starEach [.Call (.Name "zip" p2) [e,e2] [] pos2] X.env=[(false,eval (.Call (.Name "zip" p2) [e,e2] [] pos2) X.env)]:=by rfl):
  PI X (.Tuple elts kk tpos) (.Call (.Name "enumerate" p) [.Call (.Name "zip" p2) [e,e2] [] pos2] [] pos) (uR X.K ta):=by
 refine⟨λpins s σ H R I h=>?_⟩
 refine Call_ (ld_blt I hg hm boot_enumerate (PyProof.Rows.callWith_type1 ?_ hs0 rfl))
 rw [hs0]
 show wpAny _ _ (spliced [(false,eval (.Call (.Name "zip" p2) [e,e2] [] pos2) X.env)]) _ _ s
 refine Calls.spliced_cons ?_
 refine Call_ (ld_blt I hg2 hm2 PyProof.Rows.boot_zip (PyProof.Rows.callWith_type1 (thn (ha.run pos2 pins s σ H _ I h) λus s1 ⟨vs,H1,I1,r1,q1⟩=>?_) hs hpl))
 obtain⟨a,b,xs,ys,ex,AN,D3,q⟩:=q1
 subst ex
 cases r1 with
 |cons r rr=>
  cases rr with
  |cons r' rr=>
   cases rr
   cases r
   cases r'
   obtain⟨its,rv,p1,_⟩:=I1.list AN
   obtain⟨its2,NO,p2,_⟩:=I1.list D3
   have la:a<s1.heap.objs.size:=p1.lt
   have lb:b<s1.heap.objs.size:=p2.lt
   refine call_zip_2 p1.isList p2.isList λh' hz hTI hTO h1 h2 hsz hk=>?_
   refine Calls.spliced_nil ?_
   show wpAny _ _ (call (.type "enumerate") [.ref (s1.heap.objs.size+4)]) _ _ { s1 with heap:=h' }
   refine jY (s:={ s1 with heap:=h' }) hz λh'' he hsz2 hk2=>wpAny_pyIter_enum he ?_
   have es:(Shared.heap { s1 with heap:=h' }).objs.size=s1.heap.objs.size+5:=hsz
   rw [es] at he ⊢
   have I2:Inv X pins σ H1 { s1 with heap:=h'' }:=I1.kept (t':=s1.toks) λb o x=>hk2 b o (hk b o x)
   have S:Dw h'' (s1.heap.objs.size+4) (s1.heap.objs.size+2) (s1.heap.objs.size+3) s1.heap.objs.size (s1.heap.objs.size+1) a b 0:=
    ⟨⟨.none,false,hk2 _ _ hz,.inl rfl⟩,hk2 _ _ hTI,⟨_,_,hk2 _ _ hTO⟩,h1.at λo x=>hk2 _ o x,h2.at λo x=>hk2 _ o x⟩
   refine⟨s1.heap.objs.size+5,[s1.heap.objs.size+5,s1.heap.objs.size+4,s1.heap.objs.size+2,s1.heap.objs.size+3,s1.heap.objs.size,s1.heap.objs.size+1],_,_,H1,rfl,I2,xJ (PySem.W.ktu_apart s1.heap.objs.size a b la lb) ?_,⟨⟨.none,he⟩,S⟩,λc Iu=>?_,q⟩
   ·simp
   ·have e':c=s1.heap.objs.size+5∨c=s1.heap.objs.size+4∨c=s1.heap.objs.size+2∨c=s1.heap.objs.size+3∨c=s1.heap.objs.size∨c=s1.heap.objs.size+1:=by simpa using Iu
    have hle:s1.heap.objs.size<=c:=by
     rcases e' with z|z|z|z|z|z
     ·rw [z];exact Ka9 _ _
     ·rw [z];exact Ka9 _ _
     ·rw [z];exact Ka9 _ _
     ·rw [z];exact Ka9 _ _
     ·rw [z];exact Kak _
     ·rw [z];exact Ka9 _ _
    exact I1.fpOk hle (I1.hok.fresh hle)
/-- bh CK -/
def izb (e e2:SE):SI where
 t:=λK=>uR K (tCons (e.t K) (tCons (e2.t K) tNil))
 ev:=λρ s=>(e.ev ρ s).bind λx=>(e2.ev ρ x.2).bind λy=>match x.1.1,y.1.1 with
  |.list ds,.list es=>some (gM 0 (jG ds es),y.2)
  |_,_=>none
 ok:=by
  intro K sk F H σ ρ aj s ds s' R p h q
  obtain⟨⟨⟨x,fl⟩,s1⟩,h1,h⟩:=aL h
  obtain⟨⟨⟨y,Pc⟩,s2⟩,h2,h⟩:=aL h
  dsimp only at h
  split at h
  ·rename_i ds es
   cases h
   refine e.ok K p h1 λv F1 H1 as st1 k1 r1 f1=>?_
   refine e2.ok K (p.next st1 k1) h2 λw F2 H2 bs st2 k2 r2 f2=>?_
   obtain⟨a,xs,cs,rfl,ha,hr,_⟩:=(r1.mono st2.sub).aC
   obtain⟨b,ys,cs',rfl,hb,hr',_⟩:=r2.aC
   refine⟨a,b,xs,ys,rfl,.inl (.inl (st2.sub' _ _ ha)),.inl (.inl (st2.sub' _ _ hb)),q _ F2 H2 (st1.trans st2) k2 λF3 H3 i s1 s2=>?_⟩
   have hx:SqL K H3 a xs:=.inl (.inl (s2 _ _ (s1 _ _ ha)))
   have hy:SqL K H3 b ys:=.inl (.inl (s2 _ _ (s1 _ _ hb)))
   refine⟨λd hd=>?_,λhl=>?_⟩
   ·obtain⟨dd,g0,rfl⟩:=fqt hd
    obtain⟨d1,d2,g1,g2,rfl⟩:=gje g0
    obtain⟨v1,b1,e1,q1⟩:=hr.get g1
    obtain⟨v2,b2,e2,q2⟩:=hr'.get g2
    refine⟨⟨xs,ys,v1,v2,hx,hy,e1,e2⟩,λx H4 hz=>?_⟩
    obtain⟨T,U,x1,x2,rfl,nT,nU,nTU,rfl,z1,z2⟩:=hz
    have z1:=z1 _ hx
    have z2:=z2 _ hy
    rw [e1] at z1
    rw [e2] at z2
    cases z1
    cases z2
    have sa:br F3 H3 (upd F3 T (.tup [v1,v2])) (upd H3 T (.tup [v1,v2])):=.alloc s2 nT
    have sb:br (upd F3 T (.tup [v1,v2])) (upd H3 T (.tup [v1,v2])) (upd (upd F3 T (.tup [v1,v2])) U (.tup [.int i,.ref T])) (upd (upd H3 T (.tup [v1,v2])) U (.tup [.int i,.ref T])):=.alloc sa.sub' (by rw [upd_ne (Ne.symm nTU)];exact nU)
    refine⟨_,_,sa.trans sb,.tup upd_same (.cons (as:=[]) ?_ (.cons (.tup (sb.sub _ _ upd_same) (.cons (((q1.mono s1).mono sa.sub).mono sb.sub) (.cons (((q2.mono s1).mono sa.sub).mono sb.sub) .nil))) .nil))⟩
    rw [Kds]
    exact .int _
   ·refine⟨xs,ys,hx,hy,?_⟩
    rw [fqw,gze] at hl
    rw [hr.len,hr'.len]
    omega
  ·cases h
open Enc in
theorem JI.HU {α β:Type}[Enc α][Enc β]{ρ:List Slot}{s s1 s2:ae}{a b:SE}{w1 w2:Bool}{xs:List α}{ys:List β}(ha:JE a ρ s xs s1 w1)(hb:JE b ρ s1 ys s2 w2):JI (izb a b) ρ s (aX 0 (xs.zip ys)) s2:=by
 obtain⟨_,ea,_⟩:=ha;obtain⟨_,eb,_⟩:=hb
 show ((a.ev ρ s).bind λx=>(b.ev ρ x.2).bind λy=>match x.1.1,y.1.1 with
  |.list ds,.list es=>some (gM 0 (jG ds es),y.2)
  |_,_=>none)=_
 rw [ea]
 simp only [Kae]
 rw [eb]
 show some (gM 0 (jG (xs.map enc) (ys.map enc)),s2)=_
 rw [fqp,fjc]
end Pu
namespace Pu
open PySem PySem.Spec PyProof.Rows L2
section
variable {P:Program}{w:World}{A:Around}{R:Result->Shared->Prop}{I:Addr}{fp wr:List Addr}{G:Array GenState->Array GenState->Prop}{n:Nat}{Pv:Nat->Value->Prop}{St:Nat->Shared->Prop}
/-- some of bh first i numbers: a set of ints at most i many -/
def JW (w:World)(h:Heap)(a:Addr)(val:Nat->Int)(i:Nat):Prop:=∃S m,SetR w h a S m/\m<=i/\∀k,S k=true↔∃j,j<i/\val j=k
theorem JW.step {h:Heap}{a:Addr}{val:Nat->Int}{i:Nat}{S:Int->Bool}{m:Nat}(hm:m<=i)(hS:∀k,S k=true↔∃j,j<i/\val j=k)(r:SetR w h a (λj=>S j ||decide (j=val i)) (if S (val i)=true then m else m+1)):JW w h a val (i+1):=by
 refine⟨_,_,r,by split <;> omega,λk=>?_⟩
 rw [Bool.or_eq_true,hS,decide_eq_true_eq]
 constructor
 ·rintro (⟨j,hj,e⟩|e)
  ·exact⟨j,by omega,e⟩
  ·exact⟨i,by omega,e.symm⟩
 ·rintro⟨j,hj,e⟩
  by_cases hji:j=i
  ·subst hji;exact .inr e.symm
  ·exact .inl ⟨j,by omega,e⟩
end
end Pu
namespace L2
open PySem PySem.W PySem.Calls PyProof.Rows PySem.Spec
end L2
namespace Pu
open PySem PySem.Spec PyProof.Rows L2
end Pu
set_option exponentiation.threshold 200000
namespace Pu
open PySem L2 Enc
variable [aO]
def M7:PyData->Bool
 |.tuple _=>true
 |_=>false
/-- isinstance(x,tuple) -/
def SE.am (e:SE):SE where
 t:=λK=>tCB (rIsi K) (tCons (e.t K) (tCons (tC (.ty "tuple")) tNil))
 ev:=λρ s=>(e.ev ρ s).bind λx=>match x.1.1 with
  |.dict _=>none
  |d=>some ((.bool (M7 d),true),x.2)
 ok:=by
  intro K sk F H σ ρ aj s vl s' Q p h q
  obtain⟨⟨⟨x,fl⟩,s1⟩,h1,h2⟩:=aL h
  dsimp only at h2
  refine e.ok K p h1 λv F1 H1 as st k r f=>?_
  cases r with
  |non=>
   cases h2
   exact⟨_,.ty "tuple",.type "NoneType",.type "tuple",false,rfl,.ty _,.base .non,kit_ty (by decide +kernel),q _ F1 H1 [] st k (.bl _) .nil⟩
  |bl b=>
   cases h2
   exact⟨_,.ty "tuple",.type "bool",.type "tuple",false,rfl,.ty _,.base (.bl b),kit_ty (by decide +kernel),q _ F1 H1 [] st k (.bl _) .nil⟩
  |int i=>
   cases h2
   exact⟨_,.ty "tuple",.type "int",.type "tuple",false,rfl,.ty _,.base (.int i),kit_ty (by decide +kernel),q _ F1 H1 [] st k (.bl _) .nil⟩
  |str y=>
   cases h2
   exact⟨_,.ty "tuple",.type "str",.type "tuple",false,rfl,.ty _,.base (.str y),kit_ty (by decide +kernel),q _ F1 H1 [] st k (.bl _) .nil⟩
  |lst ha hr=>
   cases h2
   exact⟨_,.ty "tuple",.type "list",.type "tuple",false,rfl,.ty _,.base (.lst (st.sub' _ _ ha)),kit_ty (by decide +kernel),q _ F1 H1 [] st k (.bl _) .nil⟩
  |tup ha hr=>
   cases h2
   exact⟨_,.ty "tuple",.type "tuple",.type "tuple",true,rfl,.ty _,.base (.tup (st.sub' _ _ ha)),kit_ty (by decide +kernel),q _ F1 H1 [] st k (.bl _) .nil⟩
  |tupP ha hc hr=>cases h2
  |jA ha hc hr=>cases h2
  |lI ha hc hk hr=>cases h2
  |lE ha hc hr=>cases h2
/-- tuple(a list) -/
def NG (K:Frag):List V->Hp->VK->Prop:=λxs H Q=>∃p ys,xs=[.ref p]/\((SqL K H p ys/\∀l,H l=none->Q (.ref l) (upd H l (.tup ys)))∨(SqT K H p ys/\Q (.ref p) H))
def SE.Lx (e:SE):SE where
 t:=λK=>tCB (NG K) (tCons (e.t K) tNil)
 ev:=λρ s=>(e.ev ρ s).bind λx=>match x.1.1 with
  |.list ds=>some ((.tuple ds,x.1.2),x.2)
  |_=>none
 ok:=by
  intro K sk F H σ ρ aj s vl s' Q p h q
  obtain⟨⟨⟨x,fl⟩,s1⟩,h1,h2⟩:=aL h
  dsimp only at h2
  split at h2
  ·rename_i ds
   cases h2
   refine e.ok K p h1 λv F1 H1 as st k r f=>?_
   obtain⟨a,ys,cs,rfl,ha,hr,rfl⟩:=r.aC
   refine⟨a,ys,rfl,.inl ⟨.inl (.inl (st.sub' _ _ ha)),λl hl=>?_⟩⟩
   have st2:Step sk F1 H1 (upd F1 l (.tup ys)) (upd H1 l (.tup ys)):=Step.alloc st.sub' hl
   refine q _ _ _ cs (st.trans st2) ?_ (.tup upd_same (hr.mono st2.sub)) λe1=>?_
   ·refine⟨λb eb=>?_,fze k.tab.vR hl⟩
    obtain⟨k1,k2⟩:=k b eb
    have ne:b≠l:=λz=>by rw [z,hl] at k1;cases k1
    exact⟨by rw [upd_ne ne];exact k1,by rw [upd_ne ne];exact k2⟩
   ·obtain⟨f1,f2⟩:=f e1
    exact⟨(KaP.mp f1).2,λb hb=>f2 b (Kad _ hb)⟩
  ·cases h2
/-- for x in a tuple -/
def SI.tup (e:SE):SI where
 t:=λK=>iTup K (e.t K)
 ev:=λρ s=>(e.ev ρ s).bind λx=>match x.1.1 with|.tuple ds=>some (ds,x.2)|_=>none
 ok:=by
  intro K sk F H σ ρ aj s ds s' R p h q
  obtain⟨⟨⟨x,fl⟩,s1⟩,h1,h⟩:=aL h
  dsimp only at h
  split at h
  ·rename_i ds
   cases h
   refine e.ok K p h1 λv F1 H1 as st1 k1 r1 f1=>?_
   obtain⟨a,xs,rfl,ha,hr⟩:=r1.dB
   refine⟨a,rfl,⟨xs,.inl (.inl (st1.sub' _ _ ha))⟩,q _ F1 H1 st1 k1 λF2 H2 i s1 s2=>⟨λd hd=>?_,λhl=>?_⟩⟩
   ·have hx:SqT K H2 a xs:=.inl (.inl (s2 _ _ (s1 _ _ ha)))
    obtain⟨v,bs,e1,e2⟩:=hr.get hd
    refine⟨⟨xs,v,hx,e1⟩,λx H3 hy=>?_⟩
    obtain⟨rfl,hy⟩:=hy
    have e3:=hy xs hx
    rw [e1] at e3
    cases e3
    exact⟨F2,bs,.refl s2,e2.mono s1⟩
   ·exact⟨xs,.inl (.inl (s2 _ _ (s1 _ _ ha))),by rw [hr.len];exact hl⟩
  ·cases h
def KY (m:Fn)(it:SI):SE:=mG it (aY 1) cN (SE.ag m (SR.cons (ak 1) SR.nil)) [1] (of_decide_eq_true rfl)
section
abbrev Slot.e {α:Type}[Enc α](x:α):Slot:=.dat (Enc.enc x)
abbrev lg:=T3 (List Int) (List Int) Int
abbrev qy:=T4 (List Int) Int Int (List Int)
abbrev cU:=(List Int)×(List Int)
abbrev aK:=@JC.cons
abbrev bK:=@JC.nil
abbrev cK:=@SR.cons
abbrev dK:=@SR.nil
abbrev eK:=@SA.cons
abbrev fK:=@SA.nil
abbrev gK:=@JA.uz
abbrev iK:=@sP.cons
abbrev jK:=@sP.nil
end
def MI (m:Fn):SS:=SS.ac (jd (ST.ac (XN (ak 0))) (SS.ag (KY m (SI.list (ak 0)))) SS.am)
 (SS.ac (jd (ST.ac (SE.am (ak 0))) (SS.ag (SE.Lx (KY m (SI.tup (ak 0))))) SS.am) (SS.ag (ak 0)))
/-- a copy of what is at most so deep -/
def nW:Nat->Fn
 |0=>λ_ _=>none
 |n+1=>fnOf 1 1 (MI (nW n))
mutual
def lD:PyData->Bool
 |.list xs=>decide (xs.length<=100000) && mh xs
 |.tuple xs=>decide (xs.length<=100000) && mh xs
 |.dict _=>false
 |_=>true
def mh:List PyData->Bool
 |[]=>true
 |x::xs=>lD x && mh xs
end
mutual
def dep:PyData->Nat
 |.list xs=>KW xs+1
 |.tuple xs=>KW xs+1
 |_=>0
def KW:List PyData->Nat
 |[]=>0
 |x::xs=>max (dep x) (KW xs)
end
theorem gzd {m:Fn}{s:ae}{r0:Slot}:∀{xs:List PyData},(∀x∈xs,∃fl,m [.dat x] s=some ((x,fl),s)/\(fl ||aB x)=true) ->
  ∃ys:List Vl,bY (aY 1).ev cN.ev (SE.ag m (cK (ak 1) dK)).ev [r0,.emp] xs s=some (ys,s)/\ys.map (·.1)=xs/\ys.all fP=true
 |[],_=>⟨[],rfl,rfl,rfl⟩
 |x::xs,h=>by
  obtain⟨fl,h1,h2⟩:=h x Kaa
  obtain⟨ys,i1,i2,i3⟩:=gzd (r0:=r0) λy hy=>h y (Kad _ hy)
  refine⟨(x,fl)::ys,?_,by rw [Kal,i2],by rw [Ka7,i3,KcS];exact h2⟩
  unfold bY
  have e1:(aY 1).ev x [r0,.emp]=some [r0,.dat x]:=rfl
  rw [e1]
  simp only [Kae,Sl,if_true]
  have e2:(SE.ag m (cK (ak 1) dK)).ev [r0,.dat x] s=some ((x,fl),s):=by
   show m [.dat x] s=_
   exact h1
  rw [e2]
  simp only [Kae]
  rw [i1];rfl
theorem yw {xs:List PyData}:∀{x:PyData},x∈xs->dep x<=KW xs:=by
 induction xs with
 |nil=>intro x h;cases h
 |cons y ys ih=>
  intro x h
  unfold KW
  rcases Kai.mp h with rfl|h
  ·omega
  ·have:=ih h;omega
theorem C4 {xs:List PyData}(hc:mh xs=true):∀{x:PyData},x∈xs->lD x=true:=by
 induction xs with
 |nil=>intro x h;cases h
 |cons y ys ih=>
  intro x h
  unfold mh at hc
  obtain⟨h1,h2⟩:=KaG.mp hc
  rcases Kai.mp h with rfl|h
  ·exact h1
  ·exact ih h2 h
theorem gjn:∀(n:Nat) (d:PyData) (s:ae),dep d<n->lD d=true->∃fl,nW n [.dat d] s=some ((d,fl),s)/\(fl ||aB d)=true
 |0,d,s,h,_=>by omega
 |n+1,d,s,h,hc=>by
  have hev:∀b:SS,nW (n+1) [.dat d] s=(match (MI (nW n)).ev [.dat d,.emp] s with|some (.ret vl s')=>some (vl,s')|some (.nx _ s')=>some ((.none,true),s')|_=>none):=λ_=>rfl
  cases d with
  |none=>exact⟨false,rfl,rfl⟩
  |bool b=>exact⟨false,rfl,rfl⟩
  |int i=>exact⟨false,rfl,rfl⟩
  |str x=>exact⟨false,rfl,rfl⟩
  |dict kv=>cases hc
  |list xs=>
   unfold lD at hc
   obtain⟨c1,c2⟩:=KaG.mp hc
   have c1:=of_decide_eq_true c1
   unfold dep at h
   obtain⟨ys,i1,i2,i3⟩:=gzd (m:=nW n) (s:=s) (r0:=.dat (.list xs)) (xs:=xs) λx hx=>gjn n x s (by have:=yw hx;omega) (C4 c2 hx)
   refine⟨true,?_,rfl⟩
   have e:(KY (nW n) (SI.list (ak 0))).ev [.dat (.list xs),.emp] s=some ((.list xs,true),s):=by
    unfold KY
    rw [rP]
    show (bY _ _ _ [.dat (.list xs),.emp] xs s).bind _=_
    rw [i1]
    simp only [Kae]
    have hl:ys.length<=100000:=by rw [<-Kaf (f:=(·.1)),i2];exact c1
    rw [if_pos hl,i2,i3]
   have c0:(ST.ac (XN (ak 0))).ev [.dat (.list xs),.emp] s=some (true,s):=rfl
   have eb:(MI (nW n)).ev [.dat (.list xs),.emp] s=some (.ret (.list xs,true) s):=by
    unfold MI
    rw [uw,wO,c0]
    simp only [Kae,if_true,XF]
    rw [e];rfl
   rw [hev SS.am,eb]
  |tuple xs=>
   unfold lD at hc
   obtain⟨c1,c2⟩:=KaG.mp hc
   have c1:=of_decide_eq_true c1
   unfold dep at h
   obtain⟨ys,i1,i2,i3⟩:=gzd (m:=nW n) (s:=s) (r0:=.dat (.tuple xs)) (xs:=xs) λx hx=>gjn n x s (by have:=yw hx;omega) (C4 c2 hx)
   refine⟨true,?_,rfl⟩
   have e:(KY (nW n) (SI.tup (ak 0))).ev [.dat (.tuple xs),.emp] s=some ((.list xs,true),s):=by
    unfold KY
    rw [rP]
    show (bY _ _ _ [.dat (.tuple xs),.emp] xs s).bind _=_
    rw [i1]
    simp only [Kae]
    have hl:ys.length<=100000:=by rw [<-Kaf (f:=(·.1)),i2];exact c1
    rw [if_pos hl,i2,i3]
   have e2:(SE.Lx (KY (nW n) (SI.tup (ak 0)))).ev [.dat (.tuple xs),.emp] s=some ((.tuple xs,true),s):=by
    show ((KY (nW n) (SI.tup (ak 0))).ev [.dat (.tuple xs),.emp] s).bind _=_
    rw [e];rfl
   have c0:(ST.ac (XN (ak 0))).ev [.dat (.tuple xs),.emp] s=some (false,s):=rfl
   have c2:(ST.ac (SE.am (ak 0))).ev [.dat (.tuple xs),.emp] s=some (true,s):=rfl
   have eb:(MI (nW n)).ev [.dat (.tuple xs),.emp] s=some (.ret (.tuple xs,true) s):=by
    unfold MI
    rw [uw,wO,c0]
    simp only [Kae,KbJ,if_false,zj,zF]
    rw [uw,wO,c2]
    simp only [Kae,if_true,XF]
    rw [e2];rfl
   rw [hev SS.am,eb]
end Pu
namespace Pu
open PySem L2 Enc
/-- only these addresses change -/
def Fr (H H':Hp)(bs:List Addr):Prop:=∀a o,a∉bs->H a=some o->H' a=some o
theorem Fr.refl {H:Hp}{bs:List Addr}:Fr H H bs:=λ_ _ _ h=>h
theorem Fr.trans {H H1 H2:Hp}{bs:List Addr}(h:Fr H H1 bs)(g:Fr H1 H2 bs):Fr H H2 bs:=λa o n e=>g a o n (h a o n e)
theorem Fr.more {H H1:Hp}{bs cs:List Addr}(h:Fr H H1 bs)(s:∀a∈bs,a∈cs):Fr H H1 cs:=λa o n e=>h a o (λm=>n (s a m)) e
theorem Fr.alloc {H:Hp}{p:Addr}{o:HO}{bs:List Addr}(np:H p=none):Fr H (upd H p o) bs:=λa u _ e=>by rw [upd_ne (ne_of_none e np)];exact e
theorem Fr.put {H:Hp}{p:Addr}{o:HO}{bs:List Addr}(m:p∈bs):Fr H (upd H p o) bs:=λa u n e=>by rw [upd_ne (λz=>n (by rw [z];exact m))];exact e
mutual
theorem Rp.ac {H H':Hp}{bs:List Addr}(f:Fr H H' bs)(hb:∀b∈bs,∃ys,H b=some (.lst ys)):∀{v:V} {d:PyData} {as:List Addr},Rp H v d as->(∀a∈as,a∉bs)->Rp H' v d as
 |_,_,_,.non,_=>.non
 |_,_,_,.bl b,_=>.bl b
 |_,_,_,.int i,_=>.int i
 |_,_,_,.str x,_=>.str x
 |_,_,_,.lst (a:=b) h r,hn=>.lst (f b _ (hn b Kaa) h) (ah.ac f hb r λa m=>hn a (Kad _ m))
 |_,_,_,.tup (a:=b) h r,hn=>.tup (f b _ (λm=>by obtain⟨ys,e⟩:=hb b m;rw [h] at e;cases e) h) (ah.ac f hb r hn)
 |_,_,_,.tupP (a:=b) h c r,hn=>.tupP (f b _ (λm=>by obtain⟨ys,e⟩:=hb b m;rw [h] at e;cases e) h) c (ah.ac f hb r hn)
 |_,_,_,.jA (a:=b) h c r,hn=>.jA (f b _ (λm=>by obtain⟨ys,e⟩:=hb b m;rw [h] at e;cases e) h) c (ah.ac f hb r hn)
 |_,_,_,.lI (a:=b) (dd:=b2) h z k r,hn=>.lI (f b _ (λm=>by obtain⟨ys,e⟩:=hb b m;rw [h] at e;unfold L2.Vf at e;cases e) h) z (f b2 _ (λm=>by obtain⟨ys,e⟩:=hb b2 m;rw [k] at e;cases e) k) (Rp.ac f hb r hn)
 |_,_,_,.lE (a:=b) h c r,hn=>.lE (f b _ (λm=>by obtain⟨ys,e⟩:=hb b m;rw [h] at e;cases e) h) c (ah.ac f hb r hn)
theorem ah.ac {H H':Hp}{bs:List Addr}(f:Fr H H' bs)(hb:∀b∈bs,∃ys,H b=some (.lst ys)):∀{vs:List V} {ds:List PyData} {as:List Addr},ah H vs ds as->(∀a∈as,a∉bs)->ah H' vs ds as
 |_,_,_,.nil,_=>.nil
 |_,_,_,.cons h r,hn=>.cons (Rp.ac f hb h λa m=>hn a (Kab _ m)) (ah.ac f hb r λa m=>hn a (Kax _ m))
end
end Pu
namespace Pu
variable [aO]
open PySem PySem.Spec PyProof.Rows L2 Enc
section
variable {P:Program}{w:World}{K:PySem.W.Frag}{mg:Str->Option Value}{base:Heap}{x:Str}{st:Stmt}{f:Addr}{fd:FuncData}{N ps:List Str}
theorem ER (F:iF K x st f fd)(S:FnScope N ps (defScope st))(hp:ps.length=1)(hN:N.length=2)
  (yx:∀(n:Nat),FnOk P w K mg base CX0 n f fd ps (bx (nW n))->∀(cdv:Value) (A:Around) (outer:List Env) (s:Shared) (H:Hp) (E:XK),Room n (A.deeper (envOfC x (defScope st) s.heap.objs.size f cdv))->∃t,PSs (cxOf CX0 P w K mg base N x (defScope st) f cdv A outer s H E).nox (defBody st) t/\t=(MI (nW n)).t K):
  ∀n:Nat,FnOk P w K mg base CX0 n f fd ps (bx (nW n))
 |0=>⟨λvs H Q E h=>(by obtain⟨sk,F,args,s,vl,s',_,_,_,z,_⟩:=h;cases z),λA outer s H args us vs Q E hr e0 hb hv h=>(by obtain⟨sk,F,args,s,vl,s',_,_,_,z,_⟩:=h;cases z)⟩
 |n+1=>dY F S hp hN λcdv A outer s H E hr=>yx n (ER F S hp hN yx n) cdv A outer s H E hr
end
end Pu
namespace Pu
variable [aO]
open PySem L2 Enc
def GN (d:PyData):Bool:=decide (dep d<9) && lD d && !aB d
section
variable {ρ:List Slot}{s s1 s2:ae}{w:Bool}
theorem hxx {α:Type}[Enc α]{e:SE}{x:α}(h:JE e ρ s x s1 w)(g:GN (enc x)=true):JE (SE.ag (nW 9) (cK e dK)) ρ s x s1 true:=by
 obtain⟨w',h1,h2⟩:=h
 unfold GN at g
 simp only [KaU] at g
 obtain⟨⟨g1,g2⟩,g3⟩:=g
 obtain⟨fl,c1,c2⟩:=gjn 9 (enc x) s1 (of_decide_eq_true g1) g2
 have e3:aB (enc x)=false:=by cases h:aB (enc x) <;> simp_all
 rw [e3,Bool.or_false] at c2
 refine⟨fl,?_,λ_=>c2⟩
 show ((cK e dK).ev ρ s).bind _=_
 have:(cK e dK).ev ρ s=some ([.e x],s1):=by
  show (e.ev ρ s).bind _=_
  rw [h1];rfl
 rw [this]
 exact c1
end
end Pu
namespace Pu
variable [aO]
open PySem PySem.Spec PyProof.Rows L2
def minus (F:Hp)(as:List Addr):Hp:=λa=>if a∈as then none else F a
theorem Xk {F:Hp}{as:List Addr}{a:Addr}(h:a∈as):minus F as a=none:=if_pos h
theorem Ao {F:Hp}{as:List Addr}{a:Addr}(h:a∉as):minus F as a=F a:=if_neg h
theorem pC {F:Hp}{as:List Addr}{a:Addr}{o:HO}(h:minus F as a=some o):a∉as/\F a=some o:=by
 by_cases m:a∈as
 ·rw [Xk m] at h;cases h
 ·rw [Ao m] at h;exact⟨m,h⟩
theorem MA {F:Hp}{as:List Addr}:Same (minus F as) F:=λa o e=>(pC e).2
mutual
theorem Rp.minus {F:Hp}{bs:List Addr}(hb:∀b∈bs,∃ys,F b=some (.lst ys)):∀{v:V} {d:PyData} {as:List Addr},Rp F v d as->(∀a∈as,a∉bs)->Rp (Pu.minus F bs) v d as
 |_,_,_,.non,_=>.non
 |_,_,_,.bl b,_=>.bl b
 |_,_,_,.int i,_=>.int i
 |_,_,_,.str x,_=>.str x
 |_,_,_,.lst h r,hn=>.lst (by rw [Ao (hn _ Kaa)];exact h) (ah.minus hb r λa m=>hn a (Kad _ m))
 |_,_,_,.tup h r,hn=>.tup (by rw [Ao (λm=>by obtain⟨ys,e⟩:=hb _ m;rw [h] at e;cases e)];exact h) (ah.minus hb r hn)
 |_,_,_,.tupP h c r,hn=>.tupP (by rw [Ao (λm=>by obtain⟨ys,e⟩:=hb _ m;rw [h] at e;cases e)];exact h) c (ah.minus hb r hn)
 |_,_,_,.jA h c r,hn=>.jA (by rw [Ao (λm=>by obtain⟨ys,e⟩:=hb _ m;rw [h] at e;cases e)];exact h) c (ah.minus hb r hn)
 |_,_,_,.lI h z k r,hn=>.lI (by rw [Ao (λm=>by obtain⟨ys,e⟩:=hb _ m;rw [h] at e;unfold L2.Vf at e;cases e)];exact h) z (by rw [Ao (λm=>by obtain⟨ys,e⟩:=hb _ m;rw [k] at e;cases e)];exact k) (Rp.minus hb r hn)
 |_,_,_,.lE h c r,hn=>.lE (by rw [Ao (λm=>by obtain⟨ys,e⟩:=hb _ m;rw [h] at e;cases e)];exact h) c (ah.minus hb r hn)
theorem ah.minus {F:Hp}{bs:List Addr}(hb:∀b∈bs,∃ys,F b=some (.lst ys)):∀{vs:List V} {ds:List PyData} {as:List Addr},ah F vs ds as->(∀a∈as,a∉bs)->ah (Pu.minus F bs) vs ds as
 |_,_,_,.nil,_=>.nil
 |_,_,_,.cons h r,hn=>.cons (Rp.minus hb h λa m=>hn a (Kab _ m)) (ah.minus hb r λa m=>hn a (Kax _ m))
end
section
variable {sk:Option Addr}{F0 H0 F H F' H':Hp}{σ:L2.St}{ρ ρ':List Slot}{aj:List (List Addr)}{s s':ae}{i:Nat}{d:PyData}
theorem Slots.Nb {fp:List Addr}(h:Slots sk F H σ ρ aj)(ha:∀a∈fp,a∉aj.flatten)(hF:∀a∈fp,F a=none):Slots sk (j_ F H fp) H σ ρ aj:=by
 have s1:Same F (j_ F H fp):=λb u e=>by
  rw [jW (λm=>by rw [hF b m] at e;cases e)];exact e
 induction h with
 |nil=>exact .nil
 |@cons x xs sl NY fp' aj h r ih=>
  rw [Kap] at ha
  refine .cons ?_ (ih λa m q=>ha a m (Kax _ q))
  have out:∀a∈fp',a∉fp:=λa m q=>ha a q (Kab _ m)
  cases sl with
  |emp=>exact h
  |dat d=>obtain⟨e,v,as,e1,r⟩:=h;exact⟨e,v,as,e1,r.mono s1⟩
  |own d=>obtain⟨v,e1,r⟩:=h;exact⟨v,e1,r.mono s1⟩
  |aS ds o=>
   obtain⟨b,vs,as,e1,e2,e3,r,e4⟩:=h
   refine⟨b,vs,as,e1,e2,?_,r.mono s1,e4⟩
   rw [jW (out b (by rw [e4];exact Kaa))];exact e3
  |GJ f=>
   obtain⟨b,ws,e1,e2,e3,e4,r,e5⟩:=h
   refine⟨b,ws,e1,e2,?_,⟨e4.1,λp hp=>(e4.2 p hp).mono s1⟩,λk=>(r k).mono s1,e5⟩
   rw [jW (out b (by rw [e5];exact Kaa))];exact e3
  |Mw es=>obtain⟨e,a,od,ws,e1,e2,r⟩:=h;exact⟨e,a,od,ws,e1,s1 _ _ e2,OY s1 r⟩
  |My es=>
   obtain⟨b,ws,e1,e2,e3,r,e5⟩:=h
   refine⟨b,ws,e1,e2,?_,OY s1 r,e5⟩
   rw [jW (out b (by rw [e5];exact Kaa))];exact e3
  |Mz es=>
   obtain⟨b,ws,as,e1,e2,e3,r,e4,e5⟩:=h
   refine⟨b,ws,as,e1,e2,?_,fjn s1 (λ_ m=>m) r,λc m=>(e4 c m).imp λ_ z=>s1 _ _ z,e5⟩
   rw [jW (out b (by rw [e5];exact Kaa))];exact e3
  |gI f=>
   obtain⟨b,ws,e1,e2,e3,e4,r,e5⟩:=h
   refine⟨b,ws,e1,e2,?_,e4,λk=>(r k).mono s1,e5⟩
   rw [jW (out b (by rw [e5];exact Kaa))];exact e3
  |bU=>exact h
  |fix v=>exact h
  |fn f c q=>exact⟨h.1,h.2.1,s1 _ _ h.2.2⟩
  |jy d=>
   obtain⟨v,e1,r,e2⟩:=h
   exact⟨v,e1,r.mono (RI s1 λ_ _ _ e=>e),λa m=>by rw [jW (out a m)];exact e2 a m⟩
  |ins C nm ds=>obtain⟨e,b,dx,vs,as,e1,e2,e3,r⟩:=h;exact⟨e,b,dx,vs,as,e1,s1 _ _ e2,e3,r.mono s1⟩
  |obj C b nm ds=>
   obtain⟨dx,vs,as,e1,e2,e3,e4,e5,e6,r,e7⟩:=h
   refine⟨dx,vs,as,e1,e2,?_,e4,?_,e6,r.mono s1,e7⟩
   ·rw [jW (out b (by rw [e7];exact Kaa))];exact e3
   ·rw [jW (out dx (by rw [e7];exact Kad _ Kaa))];exact e5
  |qG B C nm ds=>obtain⟨e,b,dx,vs,as,e1,e2,e3,r,hB⟩:=h;exact⟨e,b,dx,vs,as,e1,s1 _ _ e2,e3,r.mono s1,hB⟩
  |xn B C b nm ds=>
   obtain⟨dx,vs,as,e1,e2,e3,e4,e5,e6,r,hB,e7⟩:=h
   refine⟨dx,vs,as,e1,e2,?_,e4,?_,e6,r.mono s1,λc m=>⟨gqa s1 (hB c m).1,(hB c m).2⟩,e7⟩
   ·rw [jW (out b (by rw [e7];exact Kaa))];exact e3
   ·rw [jW (out dx (by rw [e7];exact Kad _ Kaa))];exact e5
  |Ob o ks ds f=>
   obtain⟨b,c,ws,vs,as,rs,bs,e1,eo,e2,e3,e4,e5,e6,r,e7,e8,e9⟩:=h
   refine⟨b,c,ws,vs,as,rs,bs,e1,eo,e2,?_,e4,?_,e6,r.mono s1,e7,e8.mono s1,e9⟩
   ·rw [jW (out b (by rw [e9];exact Kaa))];exact e3
   ·rw [jW (out c (by rw [e9];exact Kad _ Kaa))];exact e5
theorem Pre.peekA (p:Pre sk F H σ ρ aj s)(e:ρ[i]? = some (.jy d)):
  ∃fp az,(∀a∈fp,F a=none)/\(∀a∈fp,sk≠some a)/\(∀a∈fp,∃ys,H a=some (.lst ys))/\Pre sk (j_ F H fp) H σ (ρ.set i (.dat d)) az s:=by
 obtain⟨x,fp,e1,e2,v,rfl,r,hF⟩:=p.slots.get e
 have fa:∀a∈fp,a∈aj.flatten:=λa m=>Kaw.mpr ⟨_,Kaq e2,m⟩
 have cT:∀a∈fp,sk≠some a:=λa m z=>p.nN a z (fa a m)
 obtain⟨n1,n2⟩:=Aj p.fO e2
 have n3:=Kag.mp n1
 have na:∀a∈fp,a∉(aj.set i []).flatten:=λa m q=>n3.2.2 a m a q rfl
 have sl:=(p.slots.drop (i:=i)).Nb na hF
 have sl2:=sl.fill (sl:=.dat d) e1 ⟨rfl,_,_,rfl,r⟩
 rw [Kaz,Kaz] at sl2
 refine⟨fp,aj.set i [],hF,cT,λa m=>?_,gjj p.sub,⟨λb e=>⟨(p.bj b e).1,?_⟩,p.bj.tab.bq7 r⟩,sl2,λb e m=>p.nN b e (iH.mem m),n3.2.1⟩
 ·obtain⟨ys,q⟩:=r.dom a m
  rw [l9 m] at q;exact⟨ys,q⟩
 ·rw [jW (λm=>cT b m e)];exact (p.bj b e).2
theorem Step.Ly {fp:List Addr}(hF:∀a∈fp,F a=none)(st:Step sk (j_ F H fp) H F' H')(k:bw sk F' H' s):Step sk F H (minus F' fp) H'/\bw sk (minus F' fp) H' s:=by
 refine⟨⟨λb u e=>?_,MA.trans st.sub',λa o x y z=>st.fr a o x y z,st.dm,λb u e=>?_⟩,⟨λb e=>⟨(k b e).1,?_⟩,k.tab.back MA⟩⟩
 ·have nb:b∉fp:=λm=>by rw [hF b m] at e;cases e
  rw [Ao nb]
  exact st.sub b u (by rw [jW nb];exact e)
 ·obtain⟨nb,e⟩:=pC e
  rcases st.new b u e with q|q
  ·rw [jW nb] at q;exact .inl q
  ·exact .inr q
 ·by_cases m:b∈fp
  ·exact Xk m
  ·rw [Ao m];exact (k b e).2
end
/-- an expression eA reads data of ES own -/
def iqb (i:Nat)(e:SE):SE where
 t:=e.t
 ev:=λρ s=>match ρ[i]? with
  |some (.jy d)=>(e.ev (ρ.set i (.dat d)) s).bind λx=>if fP x.1=true then some x else none
  |_=>none
 ok:=by
  intro K sk F H σ ρ aj s vl s' Q p h q
  dsimp only at h
  split at h
  ·rename_i d cS
   obtain⟨⟨x,s1⟩,h1,h2⟩:=aL h
   dsimp only at h2
   split at h2
   ·rename_i hown
    cases h2
    obtain⟨fp,az,hF,cT,hH,pp⟩:=p.peekA cS
    refine e.ok K pp h1 λv F1 H1 as st k r f=>?_
    obtain⟨u1,u2⟩:=st.Ly hF k
    refine q v (minus F1 fp) H1 as u1 u2 (r.minus (λb m=>?_) λa m m'=>?_) f
    ·obtain⟨ys,z⟩:=hH b m
     exact⟨ys,st.sub b _ (by rw [l9 m];exact z)⟩
    ·obtain⟨ys,z'⟩:=hH a m'
     unfold fP at hown
     rcases Ka3.mp hown with z|z
     ·have:=(f z).2 a m
      rw [z'] at this;cases this
     ·rw [r.aB z] at m;cases m
   ·cases h2
  ·cases h
section
variable {sk:Option Addr}{F0 H0 F H F1 H1:Hp}{σ:L2.St}{ρ ρ':List Slot}{aj:List (List Addr)}{s s1:ae}{i:Nat}{d:PyData}
/-- what is new is taken out of bh frozen heap -/
theorem Wd.fresh (w:Wd sk F0 H0 F H σ ρ aj s)(st:Step sk F H F1 H1)(k:bw sk F1 H1 s1){as:List Addr}(hn:∀a∈as,H a=none):Wd sk F0 H0 (minus F1 as) H1 σ ρ aj s1/\Same F (minus F1 as):=by
 have sF:Same F (minus F1 as):=λb u e=>by
  rw [Ao (λm=>by have:=w.st.sub' b u e;rw [hn b m] at this;cases this)];exact st.sub b u e
 refine⟨w.next ⟨sF,MA.trans st.sub',λa o x y z=>st.fr a o x y z,st.dm,λb u e=>st.new b u (MA b u e)⟩ ⟨λb e=>⟨(k b e).1,?_⟩,k.tab.back MA⟩,sF⟩
 by_cases m:b∈as
 ·exact Xk m
 ·rw [Ao m];exact (k b e).2
theorem AZ {F1 H1:Hp}{as:List Addr}(s:Same F1 H1):Same F1 (j_ (minus F1 as) H1 as):=λb u e=>by
 by_cases m:b∈as
 ·rw [l9 m];exact s b u e
 ·rw [jW m,Ao m];exact e
theorem Wd.Ft (w:Wd sk F0 H0 F H σ ρ aj s){x:L2.St}{v:V}{as:List Addr}(r:Rp (j_ F H as) v d as)(hn:as.Nodup)(hF:∀a∈as,F a=none)(hs:∀a∈as,sk≠some a)(h0:∀a∈as,H0 a=none)(hd:∀a∈as,a∉aj.flatten):∃az,Wd sk F0 H0 F H (σ.set i (some v)) (ρ.set i (.jy d)) az s:=by
 have nd:(as++aj.flatten).Nodup:=Kag.mpr ⟨hn,w.fO,λa ma b mb z=>by subst z;exact hd a ma mb⟩
 obtain⟨n1,n2⟩:=x8 (i:=i) nd
 refine⟨aj.set i as,w.st,w.bj,w.slots.set ⟨v,rfl,r,hF⟩,n1,λa m=>?_⟩
 rcases n2 a m with z|z
 ·obtain⟨xs,hx⟩:=r.dom a z
  rw [l9 z] at hx
  exact⟨h0 a z,by rw [hx];exact nofun,hs a z⟩
 ·exact w.cu a z
/-- what a slot holds of its own may be changed in any way;then it is given up -/
theorem Wd.use (w:Wd sk F0 H0 F H σ ρ aj s)(e:ρ[i]? = some (.jy d)):∃v fp,σ[i]? = some (some v)/\aj[i]? = some fp/\Rp (j_ F H fp) v d fp/\(fp++(aj.set i []).flatten).Nodup/\(∀a∈fp,F a=none/\H0 a=none/\sk≠some a)/\∀H',Fr H H' fp->Wd sk F0 H0 F H' σ (ρ.set i .emp) (aj.set i []) s:=by
 obtain⟨x,fp,e1,e2,v,rfl,r,hF⟩:=w.slots.get e
 have fa:∀a∈fp,a∈aj.flatten:=λa m=>Kaw.mpr ⟨_,Kaq e2,m⟩
 obtain⟨n1,n2⟩:=Aj w.fO e2
 have n3:=Kag.mp n1
 refine⟨v,fp,e1,e2,r,n1,λa m=>⟨hF a m,(w.cu a (fa a m)).1,(w.cu a (fa a m)).2.2⟩,λH' fr=>?_⟩
 have sl:=w.slots.drop (i:=i)
 have keep:∀a∈(aj.set i []).flatten,H' a=H a:=λa m=>by
  have nz:=(w.cu a (iH.mem m)).2.1
  cases q:H a with
  |none=>exact absurd q nz
  |some o=>exact fr a o (λz=>n3.2.2 a z a m rfl) q
 have h0:∀a o,H0 a=some o->a∉fp:=λa o e m=>by rw [(w.cu a (fa a m)).1] at e;cases e
 refine⟨⟨w.st.sub,λa o e=>fr a o (λm=>by rw [hF a m] at e;cases e) (w.st.sub' a o e),λa o hs e hst=>fr a o (h0 a o e) (w.st.fr a o hs e hst),λa e=>?_,w.st.new⟩,⟨λa e=>⟨fr a _ (λm=>(w.cu a (fa a m)).2.2 e) (w.bj a e).1,(w.bj a e).2⟩,gza w.bj.tab λb o eb=>by
  by_cases m:b∈fp
  ·obtain⟨ys,z⟩:=r.dom b m
   rw [l9 m,eb] at z;cases z
   exact .inr rW
  ·exact .inl (fr b o m eb)⟩,sl.C3 keep,n3.2.1,λa m=>?_⟩
 ·cases z:H0 a with
  |none=>exact absurd z e
  |some o=>
   have hz:=w.st.dm a e
   cases q:H a with
   |none=>exact absurd q hz
   |some u=>rw [fr a u (h0 a o z) q];exact nofun
 ·have:=w.cu a (iH.mem m)
  exact⟨this.1,by rw [keep a m];exact this.2.1,this.2.2⟩
end
end Pu
namespace Pu
variable [aO]
open PySem PySem.Spec PyProof.Rows L2 Enc
def OkV (t:Frag->TE)(ev:List Slot->ae->Option (Bool×List Slot×ae)):Prop:=∀(K:Frag) {sk:Option Addr} {F0 H0 F H:Hp} {σ:L2.St} {ρ ρ':List Slot} {aj:List (List Addr)} {s s':ae} {b:Bool} {Q:VK},Wd sk F0 H0 F H σ ρ aj s->ev ρ s=some (b,ρ',s') ->
 (∀F' H' az,Same F F'->Wd sk F0 H0 F' H' σ ρ' az s'->Q (.bl b) H')->t K σ H Q
structure RV where
 t:Frag->TE
 ev:List Slot->ae->Option (Bool×List Slot×ae)
 ok:OkV t ev
def OkM (t:Frag->TT)(ev:List Slot->ae->Option (Bool×List Slot×ae)):Prop:=∀(K:Frag) {sk:Option Addr} {F0 H0 F H:Hp} {σ:L2.St} {ρ ρ':List Slot} {aj:List (List Addr)} {s s':ae} {b:Bool} {Q:Bool->Hp->Prop},Wd sk F0 H0 F H σ ρ aj s->ev ρ s=some (b,ρ',s') ->
 (∀F' H' az,Same F F'->Wd sk F0 H0 F' H' σ ρ' az s'->Q b H')->t K σ H Q
structure RM where
 t:Frag->TT
 ev:List Slot->ae->Option (Bool×List Slot×ae)
 ok:OkM t ev
def RM.t' (c:ST):RM where
 t:=c.t
 ev:=λρ s=>(c.ev ρ s).bind λx=>some (x.1,ρ,x.2)
 ok:=by
  intro K sk F0 H0 F H σ ρ ρ' aj s s' b Q w h q
  obtain⟨⟨x,s1⟩,h1,h2⟩:=aL h
  cases h2
  exact c.ok K w.pre h1 λF1 H1 st k=>q F1 H1 aj st.sub (w.next st k)
def RM.v (c:RV):RM where
 t:=λK=>tB (c.t K)
 ev:=c.ev
 ok:=by
  intro K sk F0 H0 F H σ ρ ρ' aj s s' b Q w h q
  exact c.ok K w h λF1 H1 jZ sF w1=>⟨_,rfl,q F1 H1 jZ sF w1⟩
def RM.or (a b:RM):RM where
 t:=λK=>tOr (a.t K) (b.t K)
 ev:=λρ s=>(a.ev ρ s).bind λx=>if x.1=true then some (true,x.2.1,x.2.2) else b.ev x.2.1 x.2.2
 ok:=by
  intro K sk F0 H0 F H σ ρ ρ' aj s s' bb Q w h q
  obtain⟨⟨x,aH,s1⟩,h1,h2⟩:=aL h
  dsimp only at h2
  refine a.ok K w h1 λF1 H1 jZ sF w1=>?_
  split at h2
  ·rename_i e
   cases h2
   rw [if_pos e]
   exact q F1 H1 jZ sF w1
  ·rename_i e
   rw [if_neg e]
   exact b.ok K w1 h2 λF2 H2 dN Qc w2=>q F2 H2 dN (sF.trans Qc) w2
def JM (c:RM)(ρ:List Slot)(s:ae)(P:Prop)[Decidable P](aH:List Slot)(s':ae):Prop:=∃ρ',c.ev ρ s=some (decide P,ρ',s')/\(¬P->ρ'=aH)
section
variable {ρ aH dF ρ3:List Slot}{s s1 s2:ae}{i:Nat}{w:Bool}{e:SE}
theorem JE.CG {α β:Type}[Enc α][Flat α][Enc β]{x0:β}{x:α}(he:ρ[i]? = some (.jy (enc x0)))(h:JE e (ρ.set i (.dat (enc x0))) s x s1 w):JE (iqb i e) ρ s x s1 false:=by
 obtain⟨w',h1,h2⟩:=h
 refine⟨w',?_,nofun⟩
 show (match ρ[i]? with|some (.jy d)=>_|_=>_)=_
 rw [he]
 show ((e.ev _ s).bind _)=_
 rw [h1]
 show (if fP (enc x,w')=true then _ else _)=_
 rw [if_pos (by unfold fP;rw [Flat.fl];simp)]
theorem JM.t {c:ST}{P:Prop}[Decidable P](h:JT c ρ s P s1):JM (RM.t' c) ρ s P ρ s1:=by
 refine⟨ρ,?_,λ_=>rfl⟩
 show (c.ev ρ s).bind _=_
 unfold JT at h
 rw [h];rfl
theorem JM.or {a b:RM}{P Q:Prop}[Decidable P][Decidable Q](ha:JM a ρ s P aH s1)(hb:¬P->JM b aH s1 Q dF s1):JM (RM.or a b) ρ s (P∨Q) dF s1:=by
 obtain⟨ρ',h1,h2⟩:=ha
 by_cases p:P
 ·refine⟨ρ',?_,λn=>absurd (.inl p) n⟩
  show (a.ev ρ s).bind _=_
  rw [h1];simp [p]
 ·obtain⟨Qh,h3,h4⟩:=hb p
  have e:=h2 p
  subst e
  refine⟨Qh,?_,λn=>h4 λq=>n (.inr q)⟩
  show (a.ev ρ s).bind _=_
  rw [h1]
  simp [p,h3]
def qO {α:Type}[Enc α](e:RE)(ρ:List Slot)(s:ae)(x:α)(ρ':List Slot)(s':ae)(w:Bool):Prop:=∃w',e.ev ρ s=some ((enc x,w'),ρ',s')/\(w=true->w'=true)
def qm (a:RA)(ρ:List Slot)(s:ae)(ds:List PyData)(ρ':List Slot)(s':ae)(w:Bool):Prop:=∃ku:List Vl,a.ev ρ s=some (ku,ρ',s')/\ku.map (·.1)=ds/\(w=true->ku.all fP=true)
theorem qO.se {α:Type}[Enc α]{x:α}(h:JE e ρ s x s1 w):qO (RE.e e) ρ s x ρ s1 w:=by
 obtain⟨w',h1,h2⟩:=h
 exact⟨w',by show (e.ev ρ s).bind _=_;rw [h1];rfl,h2⟩
theorem qO.mvO {α:Type}[Enc α]{x:α}(hi:ρ[i]? = some (.own (enc x))):qO (RE.mv i) ρ s x (ρ.set i (.dat (enc x))) s true:=by
 refine⟨true,?_,λ_=>rfl⟩
 show (match ρ[i]? with|some (.dat d)=>_|some (.own d)=>_|some (.aS ds o)=>_|_=>_)=_
 rw [hi]
theorem qm.nil:qm RA.nil ρ s [] ρ s true:=⟨[],rfl,rfl,λ_=>rfl⟩
theorem qm.cons {α:Type}[Enc α]{x:α}{e:RE}{r:RA}{ds:List PyData}(h:qO e ρ s x aH s1 true)(hr:qm r aH s1 ds dF s2 w):qm (RA.cons e r) ρ s (enc x::ds) dF s2 w:=by
 obtain⟨w',h1,h2⟩:=h
 obtain⟨ku,h3,h4,h5⟩:=hr
 refine⟨(enc x,w')::ku,?_,by rw [Kal,h4],λhw=>by rw [Ka7,h5 hw];unfold fP;rw [h2 rfl];rfl⟩
 show (e.ev ρ s).bind _=_
 rw [h1]
 show (r.ev aH s1).bind _=_
 rw [h3];rfl
theorem qm.uz {α:Type}[Enc α][Flat α]{x:α}{e:RE}{r:RA}{ds:List PyData}{w1:Bool}(h:qO e ρ s x aH s1 w1)(hr:qm r aH s1 ds dF s2 w):qm (RA.cons e r) ρ s (enc x::ds) dF s2 w:=by
 obtain⟨w',h1,h2⟩:=h
 obtain⟨ku,h3,h4,h5⟩:=hr
 refine⟨(enc x,w')::ku,?_,by rw [Kal,h4],λhw=>by rw [Ka7,h5 hw];unfold fP;rw [Flat.fl];simp⟩
 show (e.ev ρ s).bind _=_
 rw [h1]
 show (r.ev aH s1).bind _=_
 rw [h3];rfl
theorem qm.tup {a:RA}{ds:List PyData}(h:qm a ρ s ds aH s1 w)(hl:ds.length<=100000):∃w',(RE.tup a).ev ρ s=some ((.tuple ds,w'),aH,s1)/\(w=true->w'=true):=by
 obtain⟨ku,h1,h2,h3⟩:=h
 refine⟨ku.all fP,?_,h3⟩
 show (a.ev ρ s).bind _=_
 rw [h1]
 show (if ku.length<=100000 then _ else _)=_
 have:ku.length=ds.length:=by rw [<-h2,Kaf]
 rw [if_pos (by omega),h2]
theorem qO.N7 {α β γ:Type}[Enc α][Enc β][Enc γ]{x:α}{y:β}{z:γ}{a:RA}(h:qm a ρ s [enc x,enc y,enc z] aH s1 w):qO (RE.tup a) ρ s (T3.mk x y z) aH s1 w:=h.tup (by show 3<=_;decide)
theorem qO.N8 {α β γ δ:Type}[Enc α][Enc β][Enc γ][Enc δ]{x:α}{y:β}{z:γ}{u:δ}{a:RA}(h:qm a ρ s [enc x,enc y,enc z,enc u] aH s1 w):qO (RE.tup a) ρ s (T4.mk x y z u) aH s1 w:=h.tup (by show 4<=_;decide)
theorem JB.UD {α:Type}[Enc α]{x:α}{e:RE}(h:qO e ρ s x aH s1 w):JB (X4 e) ρ s (ug w s1 x):=by
 obtain⟨w',h1,h2⟩:=h
 exact⟨_,by show (e.ev ρ s).bind _=_;rw [h1];rfl,w',rfl,h2⟩
theorem JN.UR {α:Type}[Enc α]{x v:α}(h:JE e ρ s v s1 true)(hx:x=v):JN (SS.set i e) ρ s (ρ.set i (.own (enc x))) s1:=by
 subst hx
 obtain⟨w',h1,h2⟩:=h
 show (e.ev ρ s).bind _=_
 rw [h1]
 show some (Out.nx (ρ.set i (GK (enc x,w'))) s1)=_
 rw [h2 rfl];rfl
end
end Pu
namespace Pu
variable [aO]
open PySem PySem.Spec PyProof.Rows L2 Enc
theorem mC {F:Hp}{v:V}{d:PyData}(r:Rp F v d []):∀(ds:List PyData) {vs:List V} {n:Nat} {as:List Addr},ah F vs ds as->gv ds=true->ah F (vs.set n v) (ds.set n d) []
 |[],_,_,_,h,_=>by cases h;exact .nil
 |e::es,_,n,_,h,hn=>by
  obtain⟨h1,h2⟩:Pu.aB e=true/\gv es=true:=by simpa [gv] using hn
  cases h with
  |cons hu hr=>
   have e1:=hu.aB h1
   have e2:=hr.aB h2
   subst e1 e2
   cases n with
   |zero=>exact .cons (as:=[]) (bs:=[]) r hr
   |succ n=>exact .cons (as:=[]) (bs:=[]) hu (mC r es hr h2)
/-- xs with Hi item -/
def di {α:Type}(xs:List α)(n:Int)(x:α):List α:=xs.set (if 0<=n then n.toNat else (n+xs.length).toNat) x
theorem pI {α:Type}[Enc α][Flat α](xs:List α):gv (xs.map enc)=true:=Pf xs
def SP.Ko (i:Nat)(e:SE)(r:SP):SP where
 t:=λK=>tCons (e.t K) (r.t K)
 ts:=i::r.ts
 ev:=λρ d9 s=>(e.ev ρ s).bind λx=>if fP x.1=true then r.ev ρ (d9.set i (.jy x.1.1)) x.2 else none
 ok:=by
  intro K sk F0 H0 F H σ wq ρ d9 nR aj gj s s' Q p w h q
  obtain⟨⟨x,s1⟩,h1,h2⟩:=aL h
  dsimp only at h2
  split at h2
  ·rename_i ho
   refine e.ok K p h1 λv F1 H1 as st k rr f=>?_
   have hf:as.Nodup/\∀a∈as,H a=none:=by
    unfold fP at ho
    rcases Ka3.mp ho with z|z
    ·exact f z
    ·rw [rr.aB z];exact⟨KaY,λa m=>by cases m⟩
   obtain⟨f1,f2⟩:=hf
   obtain⟨wv,sF⟩:=w.fresh st k f2
   obtain⟨fa,wa⟩:=wv.Ft (i:=i) (d:=x.1) (x:=σ) (rr.mono (AZ st.sub')) f1 (λa m=>Xk m) (λa m e=>by have:=(w.bj a e).1;rw [f2 a m] at this;cases this) (λa m=>by
    cases z:H0 a with
    |none=>rfl
    |some o=>exact absurd (f2 a m) (w.st.dm a (by rw [z];exact nofun))) (λa m z=>(w.cu a z).2.1 (f2 a m))
   have p2:Pre sk (minus F1 as) H1 σ ρ aj s1:=p.next ⟨sF,MA.trans st.sub',λa o x y z=>st.fr a o x y z,st.dm,λb u e=>st.new b u (MA b u e)⟩ wv.bj
   refine r.ok K p2 wa h2 λvs F2 H2 fv Qc w2 hl=>?_
   exact q (v::vs) F2 H2 fv (sF.trans Qc) w2 (by rw [Kah,Kah,hl])
  ·cases h2
theorem JP.jy {ρ aH dF:List Slot}{s s1 s2:ae}{i:Nat}{e:SE}{α:Type}[Enc α]{x v:α}{p:SP}(hx:x=v)(h:JE e ρ s v s1 true)(hp:JP p ρ (aH.set i (.jy (enc x))) s1 dF s2):JP (SP.Ko i e p) ρ aH s dF s2:=by
 subst hx
 obtain⟨w',h1,h2⟩:=h
 show (e.ev ρ s).bind _=_
 rw [h1]
 show (if fP (enc x,w')=true then _ else _)=_
 rw [if_pos (by unfold fP;rw [h2 rfl];rfl)]
 exact hp
end Pu
namespace Pu
open PySem PySem.Spec PyProof.Rows L2 Enc
variable [aO]
/-- a list of two unlike things -/
structure H2 (α β:Type) where
 x:α
 y:β
instance {α β:Type}[Enc α][Enc β]:Enc (H2 α β):=⟨λp=>.list [enc p.x,enc p.y]⟩
instance {α β:Type}[Inhabited α][Inhabited β]:Inhabited (H2 α β):=⟨⟨default,default⟩⟩
end Pu
namespace Pu
variable [aO]
open PySem PySem.Spec PyProof.Rows L2 Enc
def SP.Q3 (i:Nat)(e:SB)(r:SP):SP where
 t:=λK=>tCons (e.t K) (r.t K)
 ts:=i::r.ts
 ev:=λρ d9 s=>(e.ev ρ s).bind λx=>r.ev ρ (d9.set i (.aS x.1.1 x.1.2)) x.2
 ok:=by
  intro K sk F0 H0 F H σ wq ρ d9 nR aj gj s s' Q p w h q
  obtain⟨⟨⟨ds,o⟩,s1⟩,h1,h2⟩:=aL h
  refine e.ok K p h1 λa ws F1 H1 as st k ha Iq uN hr nas f=>?_
  have w1:=w.next st k
  have a0:H0 a=none:=by
   cases hq:H0 a with
   |none=>rfl
   |some u=>exact absurd ha (w.st.dm a (by rw [hq];exact nofun))
  have cT:sk≠some a:=mX w.bj ha
  have nd:((a::(if o=true then as else []))++gj.flatten).Nodup:=by
   refine Kag.mpr ⟨?_,w.fO,λb mb c mc z=>?_⟩
   ·cases o with
    |true=>exact KaP.mpr ⟨nas,(f rfl).1⟩
    |false=>simp
   ·subst z
    rcases Kai.mp mb with y|y
    ·subst y;exact (w.cu b mc).2.1 ha
    ·cases o with
     |true=>exact (w.cu b mc).2.1 ((f rfl).2 b y)
     |false=>cases y
  obtain⟨m1,m2⟩:=x8 (i:=i) nd
  have wa:Wd sk F0 H0 F1 H1 (wq.set i (some (.ref a))) (d9.set i (.aS ds o)) (gj.set i (a::(if o=true then as else []))) s1:=by
   refine⟨w1.st,w1.bj,w1.slots.set ⟨a,ws,as,rfl,uN,Iq,hr,rfl⟩,m1,λb m=>?_⟩
   rcases m2 b m with z|z
   ·rcases Kai.mp z with y|y
    ·subst y
     exact⟨a0,by rw [uN];exact nofun,cT⟩
    ·cases o with
     |true=>
      obtain⟨xs,hx⟩:=hr.dom b y
      refine⟨?_,by rw [st.sub' _ _ hx];exact nofun,λe=>?_⟩
      ·cases hq:H0 b with
       |none=>rfl
       |some u=>exact absurd ((f rfl).2 b y) (w.st.dm b (by rw [hq];exact nofun))
      ·rw [(k b e).2] at hx;cases hx
     |false=>cases y
   ·exact w1.cu b z
  refine r.ok K (p.next st k) wa h2 λvs F2 H2 fv sF w2 hl=>?_
  exact q (.ref a::vs) F2 H2 fv (st.sub.trans sF) w2 (by rw [Kah,Kah,hl])
theorem JP.aS {ρ aH dF:List Slot}{s s1 s2:ae}{i:Nat}{e:SE}{α:Type}[Enc α]{x v:List α}{p:SP}(hx:x=v)(h:JE e ρ s v s1 true)(hp:JP p ρ (aH.set i (.aS (x.map enc) true)) s1 dF s2):JP (SP.Q3 i (SB.own e) p) ρ aH s dF s2:=by
 subst hx
 obtain⟨w',h1,h2⟩:=h
 have:=h2 rfl
 subst this
 show ((SB.own e).ev ρ s).bind _=_
 rw [gqk,h1]
 exact hp
end Pu
namespace Pu
open PySem PySem.Spec PyProof.Rows L2 Enc
variable [aO]
section
variable {ρ:List Slot}{s s1 s2 s3:ae}{a b c:SE}{i j k:Nat}{w w1 w2:Bool}
theorem II {e:SE}{ds:List PyData}{w':Bool}(h:e.ev ρ s=some ((.tuple ds,w'),s1)):(SI.tup e).ev ρ s=some (ds,s1):=by
 show (e.ev ρ s).bind _=_
 rw [h];rfl
theorem JI.N7 {α:Type}[Enc α]{x:T3 α α α}(h:JE a ρ s x s1 w):JI (SI.tup a) ρ s [x.x,x.y,x.z] s1:=by
 obtain⟨_,e,_⟩:=h
 exact II e
end
end Pu
namespace Pu
open PySem PySem.Spec PyProof.Rows L2 Enc
abbrev Sgn:=Fin 1114112
structure Tx where
 cs:List Sgn
deriving DecidableEq
instance:Inhabited Tx:=⟨⟨[]⟩⟩
def Tx.nat (t:Tx):List Nat:=t.cs.map Fin.val
def Tx.str (t:Tx):Str:=⟨t.nat.toArray⟩
def k7 (l:List Nat):Tx:=⟨l.map λc=>Fin.ofNat 1114112 c⟩
instance:Enc Tx:=⟨λt=>.str t.str⟩
instance:Flat Tx:=⟨λ_=>rfl⟩
instance:NN Tx:=⟨λ_=>rfl⟩
theorem Tx.am (t:Tx):t.str.length=t.cs.length:=by
 show t.nat.toArray.size=_
 rw [Kdm];exact Kaf ..
theorem Tx.ac (t:Tx):t.str.cps.toList=t.nat:=by
 show t.nat.toArray.toList=_
 rw [List.toList_toArray]
theorem Tx.ag {t u:Tx}(h:t.str=u.str):t=u:=by
 have e:t.nat=u.nat:=by rw [<-Tx.ac,<-Tx.ac,h]
 cases t with
 |mk a=>
  cases u with
  |mk b=>
   congr 1
   exact List.map_inj_right (λx y z=>Fin.ext z) |>.mp e
theorem Tx.strOk (t:Tx):PySem.PyData.strOk t.str=true:=by
 unfold PySem.PyData.strOk
 rw [<-Array.all_toList,Tx.ac]
 unfold Tx.nat
 rw [Kcl,Kbk]
 intro c _
 exact decide_eq_true c.isLt
instance:bR Tx where
 dep:=0
 dec:=inferInstance
 lay:=λt=>by
  show PyData.canLay0 (.str t.str)=true
  simp only [PyData.canLay0]
  exact t.strOk
 dg:=λ_=>Kak _
 eqv:=λx y=>by
  show PyData.eqv (.str x.str) (.str y.str)=_
  simp only [PyData.eqv]
  by_cases h:x=y
  ·rw [h];simp
  ·have:x.str≠y.str:=λz=>h (Tx.ag z)
   simp [h,this]
def TH:PyData->PyData->Option Vl
 |.str z,.int i=>if z.length<=1000 then (atI z.cps.toList i).map λc=>(.str ⟨#[c]⟩,true) else none
 |_,_=>none
variable [aO]
def SE.ixS:SE->SE->SE:=oU (λK=>rIx K) TH (by
 intro K F H x y d e as bs z Q s r1 r2 h q
 unfold TH at h
 split at h
 ·rename_i w i
  split at h
  ·rename_i hl
   obtain⟨c,h1,rfl⟩:=Kan.mp h
   exact .inr (.inr ⟨w,i,c,r1.str_inv,r2.int_inv,Kau hl (by decide),h1,q.here (z:=(.str _,true)) s (.str _) .nil⟩)
  ·cases h
 ·cases h)
def XI:List PyData->Option (List Str)
 |[]=>some []
 |.str x::r=>(XI r).map (x::·)
 |_::_=>none
theorem pZ:∀{ds:List PyData} {xs:List Str},XI ds=some xs->ds=xs.map .str
 |[],xs,h=>by cases h;rfl
 |d::r,xs,h=>by
  cases d with
  |str x=>
   obtain⟨ys,h1,rfl⟩:=Kan.mp (show (XI r).map (x::·)=some xs from h)
   rw [pZ h1];rfl
  |_=>cases h
theorem ah.strs {F:Hp}:∀{ns:List Str} {vs:List V} {as:List Addr},ah F vs (ns.map .str) as->vs=ns.map V.str
 |[],_,_,h=>by cases h;rfl
 |n::ns,_,_,h=>by
  cases h with
  |cons h r=>rw [Rp.str_inv h,ah.strs r];rfl
def rJoin (K:Frag):V->List V->Hp->VK->Prop:=λx xs H Q=>∃a p,∃ys:List Str,x=.str a/\xs=[.ref p]/\(SqL K H p (ys.map V.str)∨SqT K H p (ys.map V.str)) /\
   (ys.map (·.length)).sum+ys.length*a.length<=16777216/\Q (.str (Txt.join a ys)) H
def SE.join (z:Str)(b:SE):SE where
 t:=λK=>tM1 (rJoin K) (tC (.str z)) (b.t K)
 ev:=λρ s=>(b.ev ρ s).bind λx=>match x.1.1 with
  |.list ds=>(XI ds).bind λys=>if (ys.map (·.length)).sum+ys.length*z.length<=1000 then some ((.str (Txt.join z ys),true),x.2) else none
  |_=>none
 ok:=by
  intro K sk F H σ ρ aj s vl s' Q p h q
  obtain⟨⟨⟨x,w⟩,s1⟩,h1,h0⟩:=aL h
  dsimp only at h0
  split at h0
  ·rename_i ds
   obtain⟨ys,h2,h3⟩:=aL h0
   split at h3
   ·rename_i hl
    cases h3
    refine⟨⟨z,rfl⟩,?_⟩
    refine b.ok K p h1 λu F1 H1 as st k r f=>?_
    obtain⟨ad,xs,bs,rfl,ha,hr,rfl⟩:=r.aC
    have e1:ds=ys.map .str:=pZ h2
    subst e1
    have e2:xs=ys.map V.str:=hr.strs
    subst e2
    exact⟨z,ad,ys,rfl,rfl,.inl (.inl (.inl (st.sub' _ _ ha))),Kau hl (by decide),q _ F1 H1 [] st k (.str _) .nil⟩
   ·cases h3
  ·cases h0
def SI.str (e:SE):SI where
 t:=λK=>iStr (e.t K)
 ev:=λρ s=>(e.ev ρ s).bind λx=>match x.1.1 with|.str z=>some (z.cps.toList.map λc=>.str ⟨#[c]⟩,x.2)|_=>none
 ok:=by
  intro K sk F H σ ρ aj s ds s' R p h q
  obtain⟨⟨⟨x,fl⟩,s1⟩,h1,h⟩:=aL h
  dsimp only at h
  split at h
  ·rename_i z
   cases h
   refine e.ok K p h1 λv F1 H1 as st1 k1 r1 f1=>?_
   refine⟨z,r1.str_inv,q _ F1 H1 st1 k1 λF2 H2 i s1 s2=>⟨λd hd=>?_,λhl=>?_⟩⟩
   ·rw [KaO] at hd
    obtain⟨c,hc,rfl⟩:=Kan.mp hd
    rw [Array.getElem?_toList] at hc
    refine⟨(Array.getElem?_eq_some_iff.mp hc).1,λx H3 hy=>?_⟩
    obtain⟨rfl,c2,hc2,rfl⟩:=hy
    rw [hc] at hc2
    cases hc2
    exact⟨F2,[],.refl s2,.str _⟩
   ·rw [Kaf,Array.length_toList] at hl
    exact hl
  ·cases h
end Pu
namespace Pu
variable [aO]
open PySem PySem.Spec PyProof.Rows L2 Enc
section
variable {ρ:List Slot}{s s1 s2 s3:ae}{a b c:SE}{i j k:Nat}{w w1 w2:Bool}
def Tx.at (t:Tx)(n:Int):Tx:=⟨[au t.cs n]⟩
def Tx.cut (t:Tx)(l h:Option Int):Tx:=⟨Pu.cut t.cs l h⟩
def Tx.add (t u:Tx):Tx:=⟨t.cs++u.cs⟩
def Tx.hd (t:Tx):Sgn:=t.cs.headD 0
theorem JE.cqQ {x:Str}(cs:List Nat)(h:(k7 cs).str=x):JE (SE.av x) ρ s (k7 cs) s true:=⟨true,by rw [<-h];rfl,λ_=>rfl⟩
theorem JE.PZ {x:Tx}{n:Int}(ha:JE a ρ s x s1 w1)(hb:JE b ρ s1 n s2 w2)(h:-(x.cs.length:Int)<=n/\n<x.cs.length/\x.cs.length<=1000):JE (SE.ixS a b) ρ s (x.at n) s2 true:=by
 obtain⟨_,ea,_⟩:=ha;obtain⟨_,eb,_⟩:=hb
 refine⟨true,gX ea eb ?_,λ_=>rfl⟩
 show (if x.str.length<=1000 then (L2.atI x.str.cps.toList n).map _ else none)=_
 rw [if_pos (by rw [Tx.am];exact h.2.2),Tx.ac]
 unfold Tx.nat
 have e:L2.atI (x.cs.map Fin.val) n=(L2.atI x.cs n).map Fin.val:=by
  unfold L2.atI
  simp only [Kaf,KaO]
  cases L2.ixN x.cs.length n <;> rfl
 rw [e,W5 ⟨h.1,h.2.1⟩]
 rfl
theorem xF {α:Type}[bR α](x:α)(hd:bR.dep α<=63):SeqAt.shaped (enc x)=true:=by
 unfold SeqAt.shaped
 rw [bR.lay,decide_eq_true (Kau (bR.dg x) (by omega))];rfl
theorem vK {α:Type}[bR α](xs:List α)(hd:bR.dep α<=63):SeqAt.shaped (PyData.list (xs.map enc))=true:=by
 have h1:=bR.lay xs
 have h2:=bR.dg xs
 unfold SeqAt.shaped
 have e1:(PyData.list (xs.map enc)).canLay0=true:=h1
 have e2:(PyData.list (xs.map enc)).depth<=64:=Kau h2 (by show bR.dep α+1<=64;omega)
 rw [e1,decide_eq_true e2];rfl
end
theorem JK {k:Nat}{A:Around}(r:Room k A):A.units+65<cLine:=by have:=r.un;omega
end Pu
namespace Pu
open PySem PySem.Spec PyProof.Rows L2 Enc
variable [aO]
instance:g9 Tx:=⟨λt=>.inr t.str,λ_=>rfl,λ_ _ h=>Tx.ag (Sum.inr.inj h)⟩
end Pu
namespace Pu
variable [aO]
open PySem PySem.Spec PyProof.Rows L2 Enc
def EK:PyData->Option Int
 |.int i=>some i
 |.bool b=>some (PpSet.b2 b)
 |_=>none
def vd:List PyData->Option (List Int)
 |[]=>some []
 |d::ds=>(EK d).bind λn=>(vd ds).map λns=>n::ns
/-- a tuple whose object is known (as data) -/
def U0 (ds:List PyData):PyData:=.dict [(.list [],.tuple ds)]
def U4:PyData->Option (List PyData)
 |.dict [(.list [],.tuple ds)]=>some ds
 |_=>none
def TQ:PyData->Option NestedKey
 |.tuple ds=>(vd ds).map λns=>.tup (ns.map .num)
 |d=>(EK d).map .num
def fY:List PyData->Option (List NestedKey)
 |[]=>some []
 |d::ds=>(TQ d).bind λn=>(fY ds).map λns=>n::ns
def bqW:PyData->Option NestedKey
 |.tuple ds=>(fY ds).map .tup
 |d=>(U4 d).bind λds=>(fY ds).map .tup
theorem Rp.num {F:Hp}{v:V}{d:PyData}{as:List Addr}{n:Int}(r:Rp F v d as)(h:EK d=some n):Ja v=some n:=by
 unfold EK at h
 split at h
 ·cases h;rw [r.int_inv];rfl
 ·cases h;rw [r.bool_inv];rfl
 ·cases h
theorem ah.nums {F:Hp}:∀{vs:List V} {ds:List PyData} {as:List Addr} {ns:List Int},ah F vs ds as->vd ds=some ns->vs.map Ja=ns.map some
 |_,[],_,ns,r,h=>by
  cases r
  cases h;rfl
 |_,d::ds,_,ns,r,h=>by
  cases r with
  |cons h1 r1=>
   obtain⟨n,e1,h⟩:=aL h
   obtain⟨ms,e2,rfl⟩:=Kan.mp h
   rw [Kal,Kal,h1.num e1,ah.nums r1 e2]
/-- tuple(list),its object known -/
def SE.tupP (a:SE):SE where
 t:=λK=>tThen (a.t K) (TM K)
 ev:=λρ s=>(a.ev ρ s).bind λx=>match x.1.1 with|.list ds=>some ((U0 ds,gv ds),x.2)|_=>none
 ok:=by
  intro K sk F H σ ρ aj s vl s' Q p h q
  obtain⟨⟨⟨x,w⟩,s1⟩,h1,h0⟩:=aL h
  dsimp only at h0
  split at h0
  ·rename_i ds
   cases h0
   refine a.ok K p h1 λu F1 H1 as st k r f=>?_
   obtain⟨ad,xs,bs,rfl,ha,hr,rfl⟩:=r.aC
   refine⟨ad,xs,rfl,.inl (.inl (st.sub' _ _ ha)),λp o np ho=>?_⟩
   have sa:br F1 H1 (L2.upd F1 p (.frz o (.tup xs))) (L2.upd H1 p (.frz o (.tup xs))):=.alloc st.sub' np
   refine q (.ref p) _ _ bs (st.trans sa.any) (k.keep sa) (.tupP upd_same ho (hr.mono sa.sub)) λe=>?_
   rw [hr.aB e]
   exact⟨KaY,λa m=>by cases m⟩
  ·cases h0
structure Tb where
 l:List Bool
deriving DecidableEq
instance:Enc Tb:=⟨λt=>U0 (t.l.map .bool)⟩
class wz (κ:Type) [Enc κ] where
 nums:κ->NestedKey
 ok:∀x:κ,bqW (enc x)=some (nums x)
 inj:∀x y:κ,nums x=nums y->x=y
theorem mJ:∀bs:List Bool,fY (bs.map .bool)=some (bs.map λb=>.num (PpSet.b2 b))
 |[]=>rfl
 |b::bs=>by
  rw [Kal,Kal]
  unfold fY
  rw [mJ bs];rfl
theorem CC:∀{xs ys:List Bool},xs.map (λb=>NestedKey.num (PpSet.b2 b))=ys.map (λb=>NestedKey.num (PpSet.b2 b))->xs=ys
 |[],[],_=>rfl
 |[],_::_,h=>by cases h
 |_::_,[],h=>by cases h
 |x::xs,y::ys,h=>by
  rw [Kal,Kal] at h
  injection h with h1 h2
  rw [CC h2]
  congr 1
  injection h1 with h1
  cases x <;> cases y <;> first|rfl|exact absurd h1 (by decide)
instance:wz Tb:=⟨λt=>.tup (t.l.map λb=>.num (PpSet.b2 b)),λt=>by
 show (fY (t.l.map .bool)).map NestedKey.tup=_
 rw [mJ];rfl,λx y h=>by
 obtain⟨x⟩:=x
 obtain⟨y⟩:=y
 injection h with h
 exact congrArg Tb.mk (CC h)⟩
def Rv {κ β:Type}[Enc κ][wz κ][Enc β](f:List (κ×β)):List (NestedKey×PyData):=f.map λp=>(wz.nums p.1,enc p.2)
section
variable {ρ aH dF:List Slot}{s s1 s2:ae}{e e2:SE}{i:Nat}{w w1 w2:Bool}
theorem JE.tupP {xs:List Bool}(h:JE e ρ s xs s1 w1):JE (SE.tupP e) ρ s (Tb.mk xs) s1 false:=by
 obtain⟨_,h,_⟩:=h
 refine⟨gv (xs.map PyData.bool),?_,λz=>by cases z⟩
 show (e.ev ρ s).bind _=_
 rw [h];rfl
theorem JN.GJ {κ:Type}[Enc κ][wz κ]{α:Type}[Enc α]{a:SS}{x v:List (κ×α)}(h:JN a ρ s (ρ.set i (.GJ (Rv v))) s1)(hx:x=v):JN a ρ s (ρ.set i (.GJ (Rv x))) s1:=hx ▸ h
end
end Pu
namespace Pu
variable [aO]
open PySem PySem.Spec PyProof.Rows L2 Enc
def O9:List PyData->PyData->Option Nat
 |[],_=>none
 |z::ds,d=>if PyData.eqv z d=true then some 0 else (O9 ds d).map (·+1)
theorem oH {d:PyData}:∀{ds:List PyData} {j:Nat},O9 ds d=some j->∃z,ds[j]? = some z/\PyData.eqv z d=true/\∀(m:Nat) (z':PyData),m<j->ds[m]? = some z'->PyData.eqv z' d=false
 |[],_,h=>(nomatch h)
 |z::ds,j,h=>by
  unfold O9 at h
  by_cases c:PyData.eqv z d=true
  ·rw [if_pos c] at h
   cases h
   exact⟨z,rfl,c,λm z' hm=>by omega⟩
  ·rw [if_neg c] at h
   obtain⟨k,hk,rfl⟩:=Kan.mp h
   obtain⟨y,h1,h2,h3⟩:=oH hk
   refine⟨y,by rw [KbP];exact h1,h2,λm z' hm hz=>?_⟩
   cases m with
   |zero=>
    have:z=z':=Option.some.inj hz
    rw [<-this];simpa using c
   |succ m=>exact h3 m z' (by omega) (by rw [KbP] at hz;exact hz)
def yT (ds:List PyData)(d:PyData):Option Vl:=if SeqAt.shaped d=true/\SeqAt.shaped (.list ds)=true then (O9 ds d).map λj=>(.int (j:Nat),true) else none
def SE.sZ (a b:SE):SE where
 t:=λK=>tBM K "list" (rIndexD K) (a.t K) (tCons (b.t K) tNil)
 ev:=λρ s=>(a.ev ρ s).bind λx=>(b.ev ρ x.2).bind λy=>match x.1.1 with|.list ds=>(yT ds y.1.1).bind λz=>some (z,y.2)|_=>none
 ok:=by
  intro K sk F H σ ρ aj s vl s' Q p h q
  obtain⟨⟨⟨x,w⟩,s1⟩,h1,h0⟩:=aL h
  obtain⟨⟨⟨y,w2⟩,s2⟩,h2,h6⟩:=aL h0
  clear h h0
  dsimp only at h1 h2 h6
  split at h6
  ·rename_i ds
   obtain⟨z,h3,h7⟩:=aL h6
   cases h7
   unfold yT at h3
   split at h3
   ·rename_i hs
    obtain⟨j,hj,rfl⟩:=Kan.mp h3
    obtain⟨zz,i1,i2,i3⟩:=oH hj
    refine a.ok K p h1 λu F1 H1 as st k r f=>?_
    have r0:=r
    obtain⟨ad,xs,bs,rfl,ha,hr,rfl⟩:=r.aC
    refine⟨.inl ⟨rfl,xs,.inl (.inl (st.sub' _ _ ha))⟩,?_⟩
    refine b.ok K (p.next st k) h2 λv2 F2 H2 as2 st2 k2 r2 f2=>?_
    exact⟨ad,v2,y,ds,j,zz,rfl,rfl,((r0.mono st2.sub).mono st2.sub').dp (Mr hs.2),(r2.mono st2.sub').dp (Mr hs.1),hs.2,hs.1,i1,i2,i3,q _ F2 H2 [] (st.trans st2) k2 (.int _) .nil⟩
   ·cases h3
  ·cases h6
def Dm {α:Type}[DecidableEq α]:List α->α->Nat
 |[],_=>0
 |x::xs,v=>if x=v then 0 else Dm xs v+1
theorem AR {α:Type}[DecidableEq α]{xs:List α}{v:α}(h:v∈xs):Dm xs v<xs.length:=by
 induction xs with
 |nil=>cases h
 |cons x xs ih=>
  unfold Dm
  by_cases c:x=v
  ·rw [if_pos c];simp
  ·rw [if_neg c]
   have:=ih ((Kai.mp h).resolve_left λe=>c e.symm)
   simp;omega
theorem AQ {α:Type}[DecidableEq α]{xs:List α}{v:α}(h:v∈xs):xs[Dm xs v]? = some v:=by
 induction xs with
 |nil=>cases h
 |cons x xs ih=>
  unfold Dm
  by_cases c:x=v
  ·rw [if_pos c,c];rfl
  ·rw [if_neg c,KbP]
   exact ih ((Kai.mp h).resolve_left λe=>c e.symm)
theorem my {α:Type}[bR α]{inst:DecidableEq α}{v:α}:∀{xs:List α},v∈xs->O9 (xs.map enc) (enc v)=some (Dm xs v)
 |x::xs,h=>by
  show (if PyData.eqv (enc x) (enc v)=true then some 0 else (O9 (xs.map enc) (enc v)).map (·+1))=some (Dm (x::xs) v)
  unfold Dm
  have e:PyData.eqv (enc x) (enc v)=true↔x=v:=(congrArg (·=true) (bR.eqv x v)).to_iff.trans (@decide_eq_true_iff _ (bR.dec x v))
  by_cases c:x=v
  ·rw [if_pos c,if_pos (e.mpr c)]
  ·rw [if_neg c,if_neg (λz=>c (e.mp z)),my (inst:=inst) ((Kai.mp h).resolve_left λe=>c e.symm)];rfl
theorem JE.sZ {α:Type}[bR α]{inst:DecidableEq α}{ρ:List Slot}{s s1 s2:ae}{a b:SE}{w1 w2:Bool}{xs:List α}{v:α}(ha:JE a ρ s xs s1 w1)(hb:JE b ρ s1 v s2 w2)(h:v∈xs)(hd:bR.dep α<=63:=by decide):JE (SE.sZ a b) ρ s ((Dm xs v:Nat):Int) s2 true:=by
 obtain⟨w',e,_⟩:=ha
 obtain⟨w'',e2,_⟩:=hb
 refine⟨true,?_,λ_=>rfl⟩
 show (a.ev ρ s).bind _=_
 rw [e]
 show (b.ev ρ s1).bind _=_
 rw [e2]
 show (yT (xs.map enc) (enc v)).bind _=_
 unfold yT
 rw [if_pos ⟨xF v hd,vK xs hd⟩,my (inst:=inst) h];rfl
end Pu
namespace Pu
variable [aO]
open PySem PySem.Spec PyProof.Rows L2 Enc
instance:Inhabited PyData:=⟨.none⟩
def exm:PyData->List PyData
 |.list ds=>ds
 |.tuple ds=>ds
 |_=>[]
/-- what data is as of a kind -/
class gw (α:Type) [Enc α] where
 dec:PyData->α
 ok:∀x:α,dec (enc x)=x
section
variable {α β γ δ:Type}[Enc α][Enc β][Enc γ][Enc δ][gw α][gw β][gw γ][gw δ]
instance:gw Int:=⟨λ|.int i=>i|_=>0,λ_=>rfl⟩
instance:gw Bool:=⟨λ|.bool b=>b|_=>false,λ_=>rfl⟩
instance:gw PyData:=⟨λd=>d,λ_=>rfl⟩
instance:gw Str:=⟨λ|.str x=>x|_=>⟨#[]⟩,λ_=>rfl⟩
instance:gw Tx:=⟨λ|.str x=>k7 x.cps.toList|_=>k7 [],λt=>by
 show k7 t.str.cps.toList=t
 unfold k7 Tx.str Tx.nat
 obtain⟨cs⟩:=t
 show Tx.mk ((cs.map Fin.val).map λc=>Fin.ofNat 1114112 c)=Tx.mk cs
 rw [KaL]
 congr 1
 refine (Kas λc _=>?_).trans (List.map_id cs)
 exact Fin.ext (Kbm c.isLt)⟩
instance:gw (List α):=⟨λd=>(exm d).map gw.dec,λxs=>by
 show (xs.map enc).map gw.dec=xs
 rw [KaL]
 refine (Kas λx _=>?_).trans (List.map_id xs)
 exact gw.ok x⟩
instance:gw (α×β):=⟨λd=>(gw.dec ((exm d).getD 0 .none),gw.dec ((exm d).getD 1 .none)),λp=>Prod.ext (gw.ok p.1) (gw.ok p.2)⟩
instance:gw (T3 α β γ):=⟨λd=>T3.mk (gw.dec ((exm d).getD 0 .none)) (gw.dec ((exm d).getD 1 .none)) (gw.dec ((exm d).getD 2 .none)),λp=>by
 obtain⟨x,y,z⟩:=p
 show T3.mk (gw.dec (enc x)) (gw.dec (enc y)) (gw.dec (enc z))=_
 rw [gw.ok,gw.ok,gw.ok]⟩
instance:gw (T4 α β γ δ):=⟨λd=>T4.mk (gw.dec ((exm d).getD 0 .none)) (gw.dec ((exm d).getD 1 .none)) (gw.dec ((exm d).getD 2 .none)) (gw.dec ((exm d).getD 3 .none)),λp=>by
 obtain⟨x,y,z,u⟩:=p
 show T4.mk (gw.dec (enc x)) (gw.dec (enc y)) (gw.dec (enc z)) (gw.dec (enc u))=_
 rw [gw.ok,gw.ok,gw.ok,gw.ok]⟩
end
section
variable {ρ:List Slot}{s s1 s2:ae}{a b:SE}{w w1 w2:Bool}{α:Type}[Enc α]
/-- a told thing as data -/
theorem GZ {x:α}(h:JE a ρ s x s1 w):JE a ρ s (enc x) s1 w:=h
end
end Pu
namespace Pu
open PySem PySem.Spec PyProof.Rows L2 Enc
variable [aO]
theorem ah.split {F:Hp}:∀(k:Nat) {xs:List V} {ds:List PyData} {as:List Addr} {d:PyData},ah F xs ds as->ds[k]? = some d->∃Oc v wm lG lq as1 bs as2,xs=Oc++v::wm/\ds=lG++d::lq/\as=as1++(bs++as2)/\ah F Oc lG as1/\Rp F v d bs/\ah F wm lq as2/\lG.length=k/\Oc.length=k
 |_,_,_,_,_,.nil,h=>by simp at h
 |0,_,_,_,_,.cons (v:=v) (vs:=vs) (ds:=ds) (as:=as) (bs:=bs) r rs,h=>by
  simp at h
  subst h
  exact⟨[],v,vs,[],ds,[],as,bs,rfl,rfl,rfl,.nil,r,rs,rfl,rfl⟩
 |k+1,_,_,_,_,.cons (v:=v) (vs:=vs) (d:=d0) (ds:=ds) (as:=as) (bs:=bs) r rs,h=>by
  obtain⟨Oc,u,wm,lG,lq,as1,cs,as2,e1,e2,e3,r1,r2,r3,l1,l2⟩:=ah.split k rs (by simpa using h)
  subst e1 e2 e3
  exact⟨v::Oc,u,wm,d0::lG,lq,as++as1,cs,as2,rfl,rfl,by rw [Kbd],.cons r r1,r2,r3,by simp [l1],by simp [l2]⟩
end Pu
namespace Pu
variable [aO]
open PySem PySem.Spec PyProof.Rows L2 Enc
def SE.slO (a:SE)(lo hi:SO):SE where
 t:=λK=>tSl (rSlA K) (a.t K) (lo.t K) (hi.t K)
 ev:=λρ s=>(a.ev ρ s).bind λx=>(lo.ev ρ x.2).bind λy=>(hi.ev ρ y.2).bind λw=>match x.1.1 with
  |.tuple ds=>some ((.tuple (cR ds y.1 w.1),x.1.2),w.2)
  |_=>none
 ok:=by
  intro K sk F H σ ρ aj s vl s' Q p h q
  obtain⟨⟨⟨x,fl⟩,s1⟩,h1,hA⟩:=aL h
  obtain⟨⟨y,s2⟩,h2,hB⟩:=aL hA
  obtain⟨⟨w,s3⟩,h3,hC⟩:=aL hB
  clear h hA hB
  dsimp only at hC
  split at hC
  ·rename_i ds
   cases hC
   refine a.ok K p h1 λv F1 H1 as st1 k1 r1 f1=>?_
   refine lo.ok K (p.next st1 k1) h2 λF2 H2 st2 k2=>?_
   refine hi.ok K ((p.next st1 k1).next st2 k2) h3 λF3 H3 st3 k3=>?_
   have r3:=(r1.mono st2.sub).mono st3.sub
   obtain⟨b,xs,rfl,ha,hr⟩:=r3.dB
   obtain⟨bs,g1,g2⟩:=hr.drop (HT.sIx ds.length 0 y)
   obtain⟨cs,g3,g4⟩:=g1.take (HT.sIx ds.length ds.length w-HT.sIx ds.length 0 y)
   have hc:ah F3 (cutV xs y w) (cR ds y w) cs:=by
    unfold cutV cR
    rw [hr.len]
    exact g3
   refine⟨b,xs,rfl,.inl (.inl (st3.sub' _ _ ha)),λe=>?_,λ_ pp np=>?_⟩
   ·rw [hr.len] at e
    have e2:=uC e
    refine q _ F3 H3 as ((st1.trans st2).trans st3) k3 ?_ f1
    show Rp F3 (.ref b) (.tuple (cR ds y w)) as
    rw [e2];exact r3
   ·have sa:br F3 H3 (upd F3 pp (.tup (cutV xs y w))) (upd H3 pp (.tup (cutV xs y w))):=.alloc st3.sub' np
    refine q _ _ _ cs (((st1.trans st2).trans st3).trans sa.any) (k3.keep sa) (.tup upd_same (hc.mono sa.sub)) λe=>?_
    obtain⟨f2,f3⟩:=f1 e
    have sb:=g4.trans g2
    exact⟨f2.sublist sb,λx m=>f3 x (sb.subset m)⟩
  ·cases hC
section
variable {α β γ:Type}[Enc α][Enc β][Enc γ]{ρ:List Slot}{s s1:ae}{a:SE}{w:Bool}
theorem JE.NW {p:T3 α β γ}(ha:JE a ρ s p s1 w):JE (SE.slO a SO.no (SO.at (SE.ac 2))) ρ s ((p.x,p.y):α×β) s1 w:=by
 obtain⟨w',e,g⟩:=ha
 refine⟨w',?_,g⟩
 show (a.ev ρ s).bind _=_
 rw [e];rfl
end
end Pu
namespace Pu
open PySem L2 Enc
end Pu
namespace Pu
variable [aO]
open PySem PySem.Spec PyProof.Rows L2 Enc
/-- slot i taken apart -/
def apart2 (ρ:List Slot)(i va vb:Nat)(d1:PyData)(ds:List PyData):List Slot:=((ρ.set i .emp).set va (.jy d1)).set vb (.aS ds true)
def Oa (ρ:List Slot)(i va vb:Nat)(d1:PyData)(ds:List PyData):List Slot:=((((ρ.set i .emp).set va (.jy d1)).set vb (.aS ds true)).set vb .emp).set va .emp |>.set i (.jy (.tuple [d1,.list ds]))
def stp (i va vb:Nat)(k e:SE)(ρ:List Slot)(s:ae):Option (List Slot×ae):=match ρ[i]? with
 |some (.jy (.tuple [d1,.list ds]))=>(e.ev (apart2 ρ i va vb d1 ds) s).bind λx=>(k.ev (apart2 ρ i va vb d1 ds) x.2).bind λy=>match y.1.1 with
  |.int j=>(ixN ds.length j).bind λn=>if gv ds=true/\aB x.1.1=true/\va<ρ.length/\vb<ρ.length/\i≠va/\i≠vb/\va≠vb then some (Oa ρ i va vb d1 (ds.set n x.1.1),y.2) else none
  |_=>none
 |_=>none
end Pu
namespace Pu
open PySem PySem.Spec PyProof.Rows L2 Enc
open Enc
variable [aO]
theorem Wd.NS {sk:Option Addr}{F0 H0 F H:Hp}{σ:L2.St}{ρ:List Slot}{aj:List (List Addr)}{s:ae}(w:Wd sk F0 H0 F H σ ρ aj s)(j:Nat)(x:Option V):∃az,Wd sk F0 H0 F H (σ.set j x) (ρ.set j .emp) az s:=
 ⟨aj.set j [],w.st,w.bj,w.slots.set rfl,w.fO.sublist iH,λa m=>w.cu a (iH.mem m)⟩
end Pu
namespace Pu
variable [aO]
open PySem PySem.Spec PyProof.Rows L2 Enc
theorem Slots.join {sk:Option Addr}{F H:Hp}:∀{xs ys:List (Option V)} {a b:List Slot},Slots sk F H xs a (kh a)->Slots sk F H ys b (kh b)->Slots sk F H (xs++ys) (a++b) (kh (a++b))
 |[],_,[],_,_,h=>h
 |_::_,_,_::_,_,.cons h r,g=>.cons h (Slots.join r g)
end Pu
namespace Pu
variable [aO]
open PySem PySem.Spec PyProof.Rows L2 Enc
def vP (C:Addr)(ta:TE)(f:Str):TE:=λσ H Q=>ta σ H λx H1=>∃a dx fs v,x=.ref a/\H1 a=some (.ins C dx fs)/\fs.lookup f=some v/\Q v H1
def zD (C:Addr)(ta tv:TE)(f:Str):TS:=λD σ H=>tv σ H λy H1=>ta σ H1 λx H2=>∃a dx fs,x=.ref a/\H2 a=some (.ins C dx fs)/\fs.length<1000/\D.nx σ (upd H2 a (.ins C dx (putF f y fs)))
section
variable {X:Cx}{o e value:Expr}{f:Str}{pos pos' tpos:Pos}{ta tv:TE}{C:Addr}
theorem iw (he:PE X e ta)(c:Cls X.K C)(n:NoAttr X.K C f)(hb:attributeBase e f X.env (eval e X.env)=eval e X.env:=by rfl):PE X (.Attribute e f pos) (vP C ta f):=by
 refine⟨λpins s σ H Q I h=>?_⟩
 refine attr_of hb (thn (he.run pins s σ H _ I h) λu s1 ⟨x,H1,I1,rx,a,dx,fs,v,ex,ea,l,q⟩=>?_)
 subst ex
 obtain rfl:u=Value.ref a:=rx
 exact getattr_ok I1 ea c n l λu' s2 I2 ru=>⟨v,H1,I2,ru,q⟩
theorem Sf (ha:PE X o ta)(hv:PE X value tv)(c:Cls X.K C)(n:NoAttr X.K C f)(hs:swapsWith value (some (.Attribute o f pos')) pos.line X.env=pure false:=by rfl):PS X (.Assign [.Attribute o f pos'] value pos) (zD C ta tv f):=by
 refine⟨λpins s σ H D I h=>?_⟩
 refine plainObj_wpAny_Assign_Attribute (thn (hv.run pins s σ H _ I h) λu s1 ⟨y,H1,I1,ry,q⟩=>thn (ha.run pins s1 σ H1 _ I1 q) λov s2 ⟨x,H2,I2,rx,a,dx,fs,ex,ea,l,q2⟩=>?_) hs
 subst ex
 obtain rfl:ov=Value.ref a:=rx
 exact setattr_ok I2 ea c n l ry λs3 I3=>⟨σ,_,I3,q2⟩
end
def mU (f:Str):List Str->List Str
 |[]=>[f]
 |g::nm=>if g=f then g::nm else g::mU f nm
def kW {α:Type}(f:Str)(x:α):List Str->List α->List α
 |[],_=>[x]
 |g::nm,y::r=>if g=f then x::r else y::kW f x nm r
 |_::_,[]=>[x]
theorem zU {α:Type}(f:Str)(v:V):∀{nm:List Str} {vs:List V},nm.length=vs.length->putF f v (nm.zip vs)=(mU f nm).zip (kW f v nm vs)
 |[],vs,_=>rfl
 |g::nm,[],h=>by cases h
 |g::nm,y::r,h=>by
  have ih:=zU (α:=α) f v (nm:=nm) (vs:=r) (by simpa using h)
  show (if g=f then (g,v)::nm.zip r else (g,y)::putF f v (nm.zip r))=(if g=f then g::nm else g::mU f nm).zip (if g=f then v::r else y::kW f v nm r)
  by_cases q:g=f
  ·rw [if_pos q,if_pos q,if_pos q];rfl
  ·rw [if_neg q,if_neg q,if_neg q,ih];rfl
theorem zx {α:Type}(f:Str)(x:α):∀{nm:List Str} {ds:List α},nm.length=ds.length->(mU f nm).length=(kW f x nm ds).length
 |[],ds,_=>by cases ds <;> rfl
 |g::nm,[],h=>by cases h
 |g::nm,y::r,h=>by
  have ih:=zx f x (nm:=nm) (ds:=r) (by simpa using h)
  show (if g=f then g::nm else g::mU f nm).length=(if g=f then x::r else y::kW f x nm r).length
  by_cases q:g=f
  ·rw [if_pos q,if_pos q];simpa using h
  ·rw [if_neg q,if_neg q];simp [ih]
theorem ah.kW {F:Hp}{f:Str}{v:V}{d:PyData}{bs:List Addr}(rv:Rp F v d bs){nm:List Str}:∀{vs:List V} {ds:List PyData} {as:List Addr},nm.length=ds.length->ah F vs ds as->∃cs,ah F (kW f v nm vs) (kW f d nm ds) cs:=by
 induction nm with
 |nil=>
  intro vs ds as h r
  cases ds with
  |nil=>cases r;exact⟨_,.cons rv .nil⟩
  |cons _ _=>cases h
 |cons g nm ih=>
  intro vs ds as h r
  cases r with
  |nil=>cases h
  |@cons y vs e ds as1 as2 r1 r2=>
   obtain⟨cs,ih⟩:=ih (by simpa using h) r2
   show ∃cs,ah F (if g=f then v::vs else y::Pu.kW f v nm vs) (if g=f then d::ds else e::Pu.kW f d nm ds) cs
   by_cases q:g=f
   ·rw [if_pos q,if_pos q];exact⟨_,.cons rv r2⟩
   ·rw [if_neg q,if_neg q];exact⟨_,.cons r1 ih⟩
theorem Lj {F:Hp}{f:Str}{d:PyData}{nm:List Str}:∀{vs:List V} {ds:List PyData} {as:List Addr},ah F vs ds as->(nm.zip ds).lookup f=some d->∃v bs,(nm.zip vs).lookup f=some v/\Rp F v d bs:=by
 induction nm with
 |nil=>intro vs ds as r h;cases h
 |cons g nm ih=>
  intro vs ds as r h
  cases r with
  |nil=>cases h
  |@cons y vs e ds as1 as2 r1 r2=>
   have h':(match f == g with|true=>some e|false=>(nm.zip ds).lookup f)=some d:=h
   show ∃v bs,(match f == g with|true=>some y|false=>(nm.zip vs).lookup f)=some v/\Rp F v d bs
   cases q:f == g with
   |true=>rw [q] at h';cases h';exact⟨y,_,rfl,r1⟩
   |false=>rw [q] at h';exact ih r2 h'
theorem u6 {α:Type}{f:Str}:∀{nm:List Str} {vs:List α},f∉nm->(nm.zip vs).lookup f=none
 |[],_,_=>rfl
 |g::nm,[],_=>rfl
 |g::nm,y::r,h=>by
  show (match f == g with|true=>some y|false=>(nm.zip r).lookup f)=none
  have:(f == g)=false:=by
   rw [beq_eq_false_iff_ne];exactλe=>h (by rw [e];exact Kaa)
  rw [this]
  exact u6 λm=>h (Kad _ m)
def yV (C:Addr):Option Slot->Option (List Str×List PyData)
 |some (.ins C' nm ds)=>if C'=C then some (nm,ds) else none
 |some (.obj C' _ nm ds)=>if C'=C then some (nm,ds) else none
 |_=>none
theorem Ec {C:Addr}{sk:Option Addr}{F H:Hp}{σ:L2.St}{ρ:List Slot}{aj:List (List Addr)}{s:ae}{i:Nat}{nm:List Str}{ds:List PyData}(p:Pre sk F H σ ρ aj s)(h:yV C ρ[i]? = some (nm,ds)):
  ∃a dx vs as,σ[i]? = some (some (.ref a))/\H a=some (.ins C dx (nm.zip vs))/\ah F vs ds as:=by
 unfold yV at h
 split at h
 ·rename_i C' nC ds' e
  split at h
  ·rename_i hC
   cases h;subst hC
   obtain⟨x,fp,e1,e2,z,a,dx,vs,as,rfl,e4,e5,r⟩:=p.slots.get e
   exact⟨a,dx,vs,as,e1,p.sub _ _ e4,r⟩
  ·cases h
 ·rename_i C' a nC ds' e
  split at h
  ·rename_i hC
   cases h;subst hC
   obtain⟨x,fp,e1,e2,dx,vs,as,rfl,e4,e5,e6,e7,e8,r,e9⟩:=p.slots.get e
   exact⟨a,dx,vs,as,e1,e4,r⟩
  ·cases h
 ·cases h
def iR (C:Addr)(i:Nat)(f:Str):SE where
 t:=λ_=>vP C (tVar i) f
 ev:=λρ s=>(yV C ρ[i]?).bind λx=>((x.1.zip x.2).lookup f).bind λd=>some ((d,false),s)
 ok:=by
  intro K sk F H σ ρ aj s vl s' Q p h q
  obtain⟨⟨nm,ds⟩,h1,h⟩:=aL h
  obtain⟨d,h2,h⟩:=aL h
  cases h
  obtain⟨a,dx,vs,as,e1,e2,r⟩:=Ec p h1
  obtain⟨v,bs,l,rv⟩:=Lj r h2
  exact⟨.ref a,e1,a,dx,_,v,rfl,e2,l,q v F H bs (.refl p.sub) p.bj rv .no⟩
theorem Wd.Fw {sk:Option Addr}{F0 H0 F H:Hp}{σ:L2.St}{ρ:List Slot}{aj:List (List Addr)}{s:ae}{i:Nat}{C a dx:Addr}{nC:List Str}{vs':List V}{ds':List PyData}{as:List Addr}(w:Wd sk F0 H0 F H σ ρ aj s)(e1:σ[i]? = some (some (.ref a)))(e2:aj[i]? = some [a,dx])
  (hF:F a=none) (hx:H dx=some (.own a)) (hFx:F dx=none) (hl:nC.length=ds'.length) (r:ah F vs' ds' as) {C0 dx0:Addr} {y0:List (Str×V)} (hP:H a=some (.ins C0 dx0 y0)):∃az,Wd sk F0 H0 F (L2.upd H a (.ins C dx (nC.zip vs'))) σ (ρ.set i (.obj C a nC ds')) az s:=by
 have fa:a∈aj.flatten:=Kaw.mpr ⟨_,Kaq e2,Kaa⟩
 obtain⟨a0,a1,a2⟩:=w.cu a fa
 obtain⟨n1,n2⟩:=Aj w.fO e2
 have n3:=Kag.mp n1
 have na:a∉(aj.set i []).flatten:=λm=>n3.2.2 a Kaa a m rfl
 have nax:dx≠a:=λz=>by
  have:=(KaP.mp n3.1).1
  rw [z] at this;exact this Kaa
 have st':Step sk F0 H0 F (L2.upd H a (.ins C dx (nC.zip vs'))):=by
  refine⟨w.st.sub,λb u e=>?_,λb u hb e hs=>?_,λb h=>?_,w.st.new⟩
  ·rw [upd_ne (λz=>by rw [z,hF] at e;cases e)];exact w.st.sub' b u e
  ·rw [upd_ne (λz=>by rw [z,a0] at e;cases e)];exact w.st.fr b u hb e
  ·by_cases z:b=a
   ·rw [z,upd_same];exact nofun
   ·rw [upd_ne z];exact w.st.dm b h
 have iQ:bw sk F (L2.upd H a (.ins C dx (nC.zip vs'))) s:=⟨λb e=>⟨by rw [upd_ne (λz=>a2 (by rw [<-z];exact e))];exact (w.bj b e).1,(w.bj b e).2⟩,Xl w.bj.tab hP (Xc trivial)⟩
 have sl:=(w.slots.drop (i:=i)).Bm (a:=a) (o:=.ins C dx (nC.zip vs')) na
 have BR:∀b,H b≠none->L2.upd H a (.ins C dx (nC.zip vs')) b≠none:=λb h=>by
  by_cases z:b=a
  ·rw [z,upd_same];exact nofun
  ·rw [upd_ne z];exact h
 have q:qB sk F (L2.upd H a (.ins C dx (nC.zip vs'))) (some (.ref a)) (.obj C a nC ds') [a,dx]:=⟨dx,vs',as,rfl,upd_same,hF,by rw [upd_ne nax];exact hx,hFx,hl,r,rfl⟩
 obtain⟨m1,m2⟩:=x8 (i:=i) n1
 have sl2:=sl.fill e1 q
 rw [Kaz,Kaz] at sl2
 rw [Kaz] at m1 m2
 refine⟨aj.set i [a,dx],st',iQ,sl2,m1,λb m=>?_⟩
 rcases m2 b m with z|z
 ·have:=w.cu b (n2 b (Kab _ z))
  exact⟨this.1,BR b this.2.1,this.2.2⟩
 ·have:=w.cu b (iH.mem z)
  exact⟨this.1,BR b this.2.1,this.2.2⟩
def PU (C:Addr)(i:Nat)(f:Str)(e:SE):SS where
 t:=λK=>zD C (tVar i) (e.t K) f
 ev:=λρ s=>match ρ[i]? with
  |some (.obj C' a nm ds)=>if C'=C/\nm.length<900 then (e.ev ρ s).bind λx=>some (.nx (ρ.set i (.obj C' a (mU f nm) (kW f x.1.1 nm ds))) x.2) else none
  |_=>none
 ok:=by
  intro K sk F0 H0 F H σ ρ aj s out D w h q
  dsimp only at h
  split at h
  ·rename_i C' a nm ds cS
   split at h
   ·rename_i hC
    obtain⟨rfl,hn⟩:=hC
    obtain⟨⟨x,s1⟩,h1,h2⟩:=aL h
    cases h2
    refine e.ok K w.pre h1 λv F1 H1 bs st k rr f1=>?_
    have w1:=w.next st k
    obtain⟨xv,fp,e1,e2,dx,vs,as,rfl,e4,e5,e6,e7,e8,r,rfl⟩:=w1.slots.get cS
    refine⟨.ref a,e1,a,dx,_,rfl,e4,?_,?_⟩
    ·rw [Kcb];omega
    ·have hl:nm.length=vs.length:=by rw [r.len];exact e8
     rw [zU (α:=V) f v hl]
     obtain⟨cs,r2⟩:=ah.kW (f:=f) rr e8 r
     obtain⟨az,w2⟩:=w1.Fw (C:=C') e1 e2 e5 e6 e7 (zx f x.1 e8) r2 e4
     exact q F1 _ σ az st.sub w2
   ·cases h
  ·cases h
abbrev Cb:=Addr->List Slot->ae->Option ((List Str×List PyData)×ae)
def Pp (C:Addr)(m:Cb):Sp:=λvs H Q _=>∃(H0:Hp) (x dx:Addr) (ws:List V),vs=.ref x::ws/\H=upd (upd H0 dx (.own x)) x (.ins C dx [])/\H0 x=none/\H0 dx=none/\dx≠x /\
 ∃(sk:Option Addr) (F:Hp) (args:List Slot) (s:ae) (nm:List Str) (ds:List PyData) (s':ae),Same F H0/\bw sk F H0 s/\Slots sk F H0 (ws.map some) args (kh args)/\m x args s=some ((nm,ds),s') /\
  ∀F' H' dx' vs' as,Step sk F H0 F' H'->bw sk F' H' s'->H' x=some (.ins C dx' (nm.zip vs'))->F' x=none->nm.length=ds.length->ah F' vs' ds as->Q .non H'
def KS (C:Addr)(np nl:Nat)(b:SS):Cb:=λx args s=>if args.length=np then match b.ev (.obj C x [] []::(args++Kay nl .emp)) s with
  |some (.nx (.obj C' a nm ds::_) s')=>if C'=C/\a=x then some ((nm,ds),s') else none
  |_=>none
 else none
open Classical in
noncomputable def allM (m:Cb)(args:List Slot)(s:ae):Option ((List Str×List PyData)×ae):=if h:∃y,∀x,m x args s=some y then some h.choose else none
theorem xZ {m:Cb}{args:List Slot}{s:ae}{y:(List Str×List PyData)×ae}(h:allM m args s=some y)(x:Addr):m x args s=some y:=by
 unfold allM at h
 split at h
 ·rename_i g
  cases h;exact g.choose_spec x
 ·cases h
theorem xY {m:Cb}{args:List Slot}{s:ae}{y:(List Str×List PyData)×ae}(h:∀x,m x args s=some y):allM m args s=some y:=by
 unfold allM
 have g:∃y,∀x,m x args s=some y:=⟨y,h⟩
 rw [dif_pos g]
 have:=(g.choose_spec 0).symm.trans (h 0)
 exact this
def SE.meth (C:Addr)(i:Nat)(m:Str)(f:Fn)(a:SR):SE where
 t:=λK=>tMeth C m (bx f) [] E0 (tVar i) (a.t K)
 ev:=λρ s=>match ρ[i]? with
  |some (.ins C' nm ds)=>if C'=C/\m∉nm then (a.ev ρ s).bind λx=>f (.ins C' nm ds::x.1) x.2 else none
  |_=>none
 ok:=by
  intro K sk F H σ ρ aj s vl s' Q p h q
  dsimp only at h
  split at h
  ·rename_i C' nm ds cS
   split at h
   ·rename_i hC
    obtain⟨rfl,hm⟩:=hC
    obtain⟨⟨x,s1⟩,h1,h⟩:=aL h
    obtain⟨xv,fp,e1,e2,z,a',dx,vs,as,rfl,e4,e5,r⟩:=p.slots.get cS
    refine⟨.ref a',e1,a',dx,_,rfl,p.sub _ _ e4,u6 hm,?_⟩
    refine a.ok K p h1 λws F1 H1 st1 k1 sl=>?_
    rw [KaC]
    refine⟨sk,F1,_,s1,vl,s',st1.sub',k1,.cons (show qB sk F1 H1 (some (.ref a')) (.ins C' nm ds) [] from ⟨rfl,a',dx,vs,as,rfl,st1.sub _ _ e4,e5,r.mono st1.sub⟩) sl,h,λv F2 H2 bs st2 k2 r2 f2=>?_⟩
    exact q v F2 H2 bs (st1.trans st2) k2 r2 (f2.back st1.dm)
   ·cases h
  ·cases h
/-- an instance is handed on -/
def SR.ins (i:Nat)(r:SR):SR where
 t:=λK=>tCons (tVar i) (r.t K)
 ev:=λρ s=>match ρ[i]? with
  |some (.ins C nm ds)=>(r.ev ρ s).bind λy=>some (.ins C nm ds::y.1,y.2)
  |_=>none
 ok:=by
  intro K sk F H σ ρ aj s vl s' Q p h q
  dsimp only at h
  split at h
  ·rename_i C nm ds e
   obtain⟨⟨y,s2⟩,h2,h⟩:=aL h
   cases h
   obtain⟨x,fp,e1,e2,z,a,dx,vs,as,rfl,e4,e5,r'⟩:=p.slots.get e
   refine⟨.ref a,e1,?_⟩
   refine r.ok K p h2 λvs F2 H2 st2 k2 r2=>?_
   exact q _ F2 H2 st2 k2 (.cons (show qB sk F2 H2 (some (.ref a)) (.ins C nm ds) [] from ⟨rfl,a,dx,_,as,rfl,st2.sub _ _ e4,e5,r'.mono st2.sub⟩) r2)
  ·cases h
abbrev sO (K:PySem.W.Frag)(x qn:Str)(st:Stmt)(f:Addr)(fd:FuncData):Prop:=FunD K x qn (defArgs st) (defBody st) (defScope st) [] [] f fd
theorem eZ {P:Program}{w:World}{K:PySem.W.Frag}{mg:Str->Option Value}{base:Heap}{x qn:Str}{st:Stmt}{f:Addr}{fd:FuncData}{N ps:List Str}{k np nl:Nat}{b:SS}(F:sO K x qn st f fd)(S:FnScope N ps (defScope st))(hp:ps.length=np)(hN:N.length=np+nl)
  (yx:∀(cdv:Value) (A:Around) (outer:List Env) (s:Shared) (H:Hp) (E:XK),Room k (A.deeper (envOfC qn (defScope st) s.heap.objs.size f cdv))->∃t,PSs (cxOf CX0 P w K mg base N qn (defScope st) f cdv A outer s H E).nox (defBody st) t/\t=b.t K):
  FnOk P w K mg base CX0 (k+1) f fd ps (bx (fnOf np nl b)):=
 F.ok S (gzu hp) λcdv A outer s H vs Q E hr h=>by
  obtain⟨t,ht,rfl⟩:=yx cdv A outer s H E hr
  exact⟨b.t K,PSs.nox ht,gqg hN h⟩
theorem IF {C:Addr}{np nl:Nat}{b:SS}{ps:List Str}(hp:ps.length=np+1)(vs:List V)(H:Hp)(Q:VK)(E:XK)(h:Pp C (KS C np nl b) vs H Q E):vs.length=ps.length:=by
 obtain⟨H0,x,dx,ws,rfl,_,_,_,_,sk,F,args,s,nm,ds,s',sub,bj,sl,hm,q⟩:=h
 unfold KS at hm
 split at hm
 ·rename_i hl
  have:=sl.length
  rw [Kaf] at this
  rw [Kah,this,hl,hp]
 ·cases hm
theorem xC {C:Addr}{K:Frag}{np nl:Nat}{b:SS}{N:List Str}{vs:List V}{H:Hp}{Q:VK}{E:XK}(hN:N.length=np+1+nl)(h:Pp C (KS C np nl b) vs H Q E):b.t K { nx:=λ_ H'=>Q .non H',rt:=Q } (L2.start N vs) H:=by
 obtain⟨H0,x,dx,ws,rfl,rfl,nx,Lq,Nm,sk,F,args,s,nm,ds,s',sub,bj,sl,hm,q⟩:=h
 unfold KS at hm
 split at hm
 ·rename_i hl
  have hvl:ws.length=np:=by
   have:=sl.length
   rw [Kaf] at this
   rw [this,hl]
  have hst:L2.start N (V.ref x::ws)=some (.ref x)::(ws.map some++Kay nl none):=by
   unfold L2.start
   rw [hN,Kah,hvl]
   show some (V.ref x)::(ws.map some)++_=_
   rw [KcX]
   congr 3
   omega
  rw [hst]
  have s0:Same H0 (L2.upd (L2.upd H0 dx (.own x)) x (.ins C dx [])):=λb o e=>by
   rw [upd_ne (ne_of_none e nx),upd_ne (ne_of_none e Lq)];exact e
  have fx:F x=none:=sub.free nx
  have fdx:F dx=none:=sub.free Lq
  have stp:Step sk F H0 F (L2.upd (L2.upd H0 dx (.own x)) x (.ins C dx [])):=⟨Same.refl _,sub.trans s0,λb o _ e _=>s0 b o e,λb e=>by
   cases z:H0 b with
   |none=>exact absurd z e
   |some o=>rw [s0 b o z];exact nofun,λb o e=>.inl e⟩
  have cqM:bw sk F (L2.upd (L2.upd H0 dx (.own x)) x (.ins C dx [])) s:=⟨λb e=>⟨s0 _ _ (bj b e).1,(bj b e).2⟩,Ww bj.tab s0⟩
  have sl2:=(sl.step stp (λa _ m=>by rw [WS] at m;cases m)).more nl
  have fl:=rE (kh args) nl (WS args)
  have slx:qB sk F (L2.upd (L2.upd H0 dx (.own x)) x (.ins C dx [])) (some (.ref x)) (.obj C x [] []) [x,dx]:=
   ⟨dx,[],[],rfl,upd_same,fx,by rw [upd_ne Nm,upd_same],fdx,rfl,.nil,rfl⟩
  have w:Wd sk F H0 F (L2.upd (L2.upd H0 dx (.own x)) x (.ins C dx [])) (some (.ref x)::(ws.map some++Kay nl none)) (.obj C x [] []::(args++Kay nl .emp)) ([x,dx]::(kh args++Kay nl [])) s:=by
   refine⟨stp,cqM,.cons slx sl2,?_,λa m=>?_⟩
   ·rw [Kap,fl,KaC]
    exact KaP.mpr ⟨λm=>Nm (show x=dx by simpa using m).symm,by simp⟩
   ·rw [Kap,fl,KaC] at m
    have:a=x∨a=dx:=by simpa using m
    rcases this with e|e
    ·rw [e]
     exact⟨nx,by rw [upd_same];exact nofun,λz=>by have:=(bj x z).1;rw [nx] at this;cases this⟩
    ·rw [e]
     exact⟨Lq,by rw [upd_ne Nm,upd_same];exact nofun,λz=>by have:=(bj dx z).1;rw [Lq] at this;cases this⟩
  split at hm
  ·rename_i C' a2 rV lq r2 s2 he
   split at hm
   ·rename_i hC
    cases hm
    obtain⟨rfl,rfl⟩:=hC
    refine b.ok K w he λF' H' σ' az sF w'=>?_
    obtain⟨xv,fp,e1,e2,dx',vs',as,rfl,e4,e5,e6,e7,e8,r,e9⟩:=w'.slots.get (i:=0) rfl
    exact q F' H' dx' vs' as w'.st w'.bj e4 e5 e8 r
   ·cases hm
  ·cases hm
 ·cases hm
theorem Nn {P:Program}{w:World}{K:PySem.W.Frag}{mg:Str->Option Value}{base:Heap}{x qn:Str}{st:Stmt}{f:Addr}{fd:FuncData}{N ps:List Str}{k np nl:Nat}{b:SS}{C:Addr}(F:sO K x qn st f fd)(S:FnScope N ps (defScope st))(hp:ps.length=np+1)(hN:N.length=np+1+nl)
  (yx:∀(cdv:Value) (A:Around) (outer:List Env) (s:Shared) (H:Hp) (E:XK),Room k (A.deeper (envOfC qn (defScope st) s.heap.objs.size f cdv))->∃t,PSs (cxOf CX0 P w K mg base N qn (defScope st) f cdv A outer s H E).nox (defBody st) t/\t=b.t K):
  FnOk P w K mg base CX0 (k+1) f fd ps (Pp C (KS C np nl b)):=
 F.ok S (IF hp) λcdv A outer s H vs Q E hr h=>by
  obtain⟨t,ht,rfl⟩:=yx cdv A outer s H E hr
  exact⟨b.t K,PSs.nox ht,xC hN h⟩
section
variable {ρ aH:List Slot}{s s1 s2 s3:ae}{w:Bool}{C:Addr}{i:Nat}{nm:List Str}{ds:List PyData}{f:Str}
theorem jc {α:Type}[Enc α]{x:α}(h:ρ[i]? = some (.ins C nm ds))(hf:(nm.zip ds).lookup f=some (enc x)):JE (iR C i f) ρ s x s false:=
 ⟨false,by
  show (yV C ρ[i]?).bind _=_
  rw [h]
  show (if C=C then some (nm,ds) else none).bind _=_
  rw [if_pos rfl]
  show ((nm.zip ds).lookup f).bind _=_
  rw [hf];rfl,nofun⟩
theorem JN.ag {α:Type}[Enc α]{x:α}{a:Addr}{e:SE}{nC:List Str}{ds':List PyData}(h:ρ[i]? = some (.obj C a nm ds))(he:JE e ρ s x s1 w)(hl:nm.length<900)(h1:mU f nm=nC)(h2:kW f (enc x) nm ds=ds'):JN (PU C i f e) ρ s (ρ.set i (.obj C a nC ds')) s1:=by
 obtain⟨w',e1,_⟩:=he
 unfold JN PU
 simp only [h]
 rw [if_pos ⟨trivial,hl⟩,e1]
 subst h1;subst h2;rfl
/-- an instance is made -/
def Oh (C:Addr)(m:Cb)(args:List Slot)(s:ae)(nm:List Str)(ds:List PyData)(s':ae):Prop:=∀x:Addr,m x args s=some ((nm,ds),s')
theorem JE.meth {α:Type}[Enc α]{x:α}{m:Str}{g:Fn}{r:SR}{sl:List Slot}(h:ρ[i]? = some (.ins C nm ds))(hn:m∉nm)(hr:JC r ρ s sl s1)(hm:JF g (.ins C nm ds::sl) s1 x s2 w):JE (SE.meth C i m g r) ρ s x s2 w:=by
 obtain⟨w',e,q⟩:=hm
 unfold JC at hr
 refine⟨w',?_,q⟩
 unfold SE.meth
 simp only [h]
 rw [if_pos ⟨trivial,hn⟩,hr]
 exact e
theorem JC.ins {r:SR}{sl:List Slot}(h:ρ[i]? = some (.ins C nm ds))(hr:JC r ρ s sl s2):JC (SR.ins i r) ρ s (.ins C nm ds::sl) s2:=by
 unfold JC at hr ⊢
 unfold SR.ins
 simp only [h]
 rw [hr];rfl
def Qj {α:Type}(C x:Addr)(nm:List Str)(df:α->List PyData)(s:ae)(v:α):Out->Prop:=λo=>∃r,o=.nx (.obj C x nm (df v)::r) s
theorem Oh.of {α:Type}{df:α->List PyData}{v:α}{np nl:Nat}{b:SS}{args:List Slot}(hn:args.length=np)(h:∀x:Addr,JB b (.obj C x [] []::(args++Kay nl .emp)) s (Qj C x nm df s1 v)):Oh C (KS C np nl b) args s nm (df v) s1:=λx=>by
 obtain⟨o,h1,r,rfl⟩:=h x
 unfold KS
 rw [if_pos hn]
 rw [h1]
 show (if C=C/\x=x then _ else none)=_
 rw [if_pos ⟨rfl,rfl⟩]
theorem hxr {α:Type}[Enc α]{x v:α}{a:Addr}{e:SE}{nC:List Str}{ds':List PyData}(h:ρ[i]? = some (.obj C a nm ds))(he:JE e ρ s v s1 w)(hx:x=v)(hl:nm.length<900)(h1:mU f nm=nC)(h2:kW f (enc x) nm ds=ds'):JN (PU C i f e) ρ s (ρ.set i (.obj C a nC ds')) s1:=by
 subst hx
 exact JN.ag h he hl h1 h2
end
end Pu
namespace Pu
variable [aO]
open PySem PySem.Spec PyProof.Rows L2 Enc
def vO:List PyData->Option (List Str)
 |[]=>some []
 |.str x::ds=>(vO ds).map λxs=>x::xs
 |_::_=>none
theorem sC:∀nm:List Str,vO (nm.map .str)=some nm
 |[]=>rfl
 |x::nm=>by
  show (vO (nm.map .str)).map _=_
  rw [sC nm];rfl
def fM:PyData->Option (Nat×List Str×List PyData)
 |.dict [(.int c,.list L),(.none,.list ds)]=>(vO L).map λnm=>(c.toNat,nm,ds)
 |_=>none
theorem KQ (C:Addr)(nm:List Str)(ds:List PyData):fM (bQ C nm ds)=some (C,nm,ds):=by
 show (vO (nm.map .str)).map _=_
 rw [sC];rfl
theorem Rp.jt {F:Hp}{v:V}{d:PyData}{as:List Addr}(r:Rp F v d as){C:Nat}{nm:List Str}{ds:List PyData}(h:fM d=some (C,nm,ds)):∃a dx vs,v=.ref a/\F a=some (.ins C dx (nm.zip vs))/\nm.length=ds.length/\ah F vs ds as:=by
 cases r with
 |@jA a C' dx nC vs ds' as h1 h2 h3=>
  have e:=KQ C' nC ds'
  rw [show fM (.dict [(.int (C':Nat),.list (nC.map .str)),(.none,.list ds')])=some (C',nC,ds') from e] at h
  cases h
  exact⟨a,dx,vs,rfl,h1,h2,h3⟩
 |_=>cases h
/-- a variable eA holds an instance,as data -/
def BV (i:Nat):SE where
 t:=λ_=>tVar i
 ev:=λρ s=>match ρ[i]? with
  |some (.ins C nm ds)=>some ((bQ C nm ds,false),s)
  |_=>none
 ok:=by
  intro K sk F H σ ρ aj s vl s' Q p h q
  dsimp only at h
  split at h
  ·rename_i C nm ds e
   cases h
   obtain⟨x,fp,e1,e2,z,a,dx,vs,as,rfl,e4,e5,r⟩:=p.slots.get e
   exact⟨.ref a,e1,q (.ref a) F H as (.refl p.sub) p.bj (.jA e4 e5 r) .no⟩
  ·cases h
section
variable {ρ:List Slot}{s s1:ae}{e:SE}{i:Nat}{w:Bool}{C:Addr}{nm:List Str}{ds:List PyData}{f:Str}
theorem hxi (h:ρ[i]? = some (.ins C nm ds)):JE (BV i) ρ s (bQ C nm ds) s false:=by
 refine⟨false,?_,nofun⟩
 show (match ρ[i]? with|some (.ins C nm ds)=>_|_=>_)=_
 rw [h];rfl
end
end Pu
namespace L2
open PySem PySem.Spec PyProof.Rows C8
/-- what isinstance says of an own class and of some uu-in ones -/
structure LC (K:PySem.W.Frag)(C:Addr):Prop where
 c:InsC K C
 nl:PySem.W.kitOne K (.type "list") (.ref C)=some false
 ni:PySem.W.kitOne K (.type "int") (.ref C)=some false
 ns:PySem.W.kitOne K (.type "str") (.ref C)=some false
/-- a number,a text,a list -/
def YE (x:V)(H:Hp):Prop:=(∃i,x=.int i)∨(∃y,x=.str y)∨∃a xs,x=.ref a/\H a=some (.lst xs)
/-- an instance of bh class at C,or su plain -/
def Qo (C:Addr)(x:V)(H:Hp):Prop:=(∃a dx fs,x=.ref a/\H a=some (.ins C dx fs))∨YE x H
def Uz (C:Addr):List V->Hp->VK->Prop:=λxs H Q=>(∃a dx fs,xs=[.ref a,.ref C]/\H a=some (.ins C dx fs)/\Q (.bl true) H)∨∃x,xs=[x,.ref C]/\YE x H/\Q (.bl false) H
def Uy (C:Addr)(sp:Sp)(E:XK):R2:=λx y H Q=>∃a dx fs,x=.ref a/\H a=some (.ins C dx fs)/\Qo C y H/\sp [x,y] H (λv H'=>∃b,v=.bl b/\Q v H') E
section
variable {X:Cx}{n:Nat}{C f:Addr}
theorem Au (i:LC X.K C):CallR X (.builtin "isinstance") (Uz C):=by
 intro pins s σ H xs us Q I r h
 rcases h with h|⟨x,rfl,hp,q⟩
 ·exact call_isC i.c pins s σ H xs us Q I r h
 ·obtain⟨u,w',rfl,ru,rw'⟩:=vals2 r
  cases rw'
  rcases hp with⟨j,rfl⟩|⟨y,rfl⟩|⟨a,ys,rfl,ha⟩
  ·exact isinst_ok I ru (TyOf.int j) i.ni λtk=>⟨.bl false,H,I.tok _,rfl,q⟩
  ·exact isinst_ok I ru (TyOf.str y) i.ns λtk=>⟨.bl false,H,I.tok _,rfl,q⟩
  ·exact isinst_ok I ru (TyOf.lst ha) i.nl λtk=>⟨.bl false,H,I.tok _,rfl,q⟩
theorem vm {pins:List (Addr×Obj)}{s:Shared}{σ:St}{H:Hp}{x:V}{u:Value}(I:Inv X pins σ H s)(h:Qo C x H)(r:RelV x u):
  ∃tb,PySem.W.Looks (model X.prog X.w) s.heap (typeOf u) tb/\(tb=.ref C∨tb=.type "int" ∨ tb=.type "str" ∨ tb=.type "list"):=by
 rcases h with⟨a,dx,fs,rfl,ha⟩|⟨j,rfl⟩|⟨y,rfl⟩|⟨a,ys,rfl,ha⟩
 ·cases r
  obtain⟨m,J,_⟩:=ins_get I.hok ha
  obtain⟨od,J,_⟩:=J.look
  exact⟨_,J.type,.inl rfl⟩
 ·obtain⟨t,rfl⟩:=r
  exact⟨_,PySem.W.Looks.of_pure rfl,.inr (.inl rfl)⟩
 ·obtain⟨t,rfl⟩:=r
  exact⟨_,PySem.W.Looks.of_pure rfl,.inr (.inr (.inl rfl))⟩
 ·cases r
  obtain⟨_,_,n,_,h1⟩:=(show ObjOk X.prog X.w H s.heap a (.lst ys) from I.hok a _ ha)
  exact⟨_,λA Q E s k q=>wpAny_typeOf_ref (k _ _ h1) q,.inr (.inr (.inr rfl))⟩
theorem Pj {CX:CXT}{fd:FuncData}{ps:List Str}{sp:Sp}{E:XK}(F:FnOk X.prog X.w X.K X.mg X.base CX n f fd ps sp)(hm:Meth X.K C "__eq__" f)(hb:Binds X.K fd ps [])(hx:Passes CX X E)(hr:Room n X.A)
  (hn:∀t,t = "int" ∨ t = "str" ∨ t = "list" -> PySem.W.notFirst X.K C (.type t)=true):OpR X (compareOp .Eq) (Uy C sp E):=by
 intro pins s σ H x y v u Q I rx ry hq
 obtain⟨a,dx,fs,rfl,ha,ho,hsp⟩:=hq
 show wpAny (model X.prog X.w) X.A (richCompare .Eq v u) (EP X pins σ Q) X.xe s
 cases rx
 obtain⟨mA,J,_⟩:=ins_get I.hok ha
 obtain⟨od,J,_⟩:=J.look
 obtain⟨m,hF⟩:=I.fr
 obtain⟨tb,hl,ht⟩:=vm I ho ry
 have hnf:PySem.W.notFirst X.K C tb=true:=by
  rcases ht with e|e|e|e
  ·rw [e];simp [PySem.W.notFirst]
  ·rw [e];exact hn _ (.inl rfl)
  ·rw [e];exact hn _ (.inr (.inl rfl))
  ·rw [e];exact hn _ (.inr (.inr rfl))
 refine PySem.W.cmp_K (op:=.Eq) (tb:=tb) hr.units0 hF I.ok.mod.kin J hl hnf hm.at_ hm.fn ?_
 have e0:Env0 X.prog X.w X.K X.mg X.base X.A X.stack s H:=I.env0
 have hlen:=F.len _ _ _ _ hsp
 have r2:Vals [V.ref a,y] [Value.ref a,u]:=.cons rfl (.cons ry .nil)
 refine wpAny_call (codeAny_mono (F.run X.A X.stack s H ⟨[.ref a,u],[]⟩ [.ref a,u] [.ref a,y] _ E hr e0 (by
  have:=hb s [.ref a,u] I.kIn (by simpa using hlen)
  simpa using this) r2 hsp) λr s' hq=>?_)
 cases r with
 |error e=>exact hx pins σ H s e s' I hq
 |ok fl=>
  cases fl with
  |ret w=>
   obtain⟨z,H',I',rz,b,ez,q⟩:=I.after hq
   subst ez
   cases rz
   exact⟨.bl b,H',I',rfl,q⟩
  |next=>exact False.elim hq
  |brk=>exact False.elim hq
  |cont=>exact False.elim hq
end
end L2
namespace Pu
variable [aO]
open PySem PySem.Spec PyProof.Rows L2 Enc
/-- an instance of bh class at C? none if IW eA nor plain -/
def kK (C:Addr):PyData->Option Bool
 |.int _=>some false
 |.str _=>some false
 |.list _=>some false
 |d=>match fM d with
  |some (C',_,_)=>if C'=C then some true else none
  |none=>none
theorem Rp.kK {F:Hp}{v:V}{d:PyData}{as:List Addr}(r:Rp F v d as){C:Addr}{b:Bool}(h:kK C d=some b):
  (b=true/\∃a dx fs,v=.ref a/\F a=some (.ins C dx fs))∨(b=false/\YE v F):=by
 have key:∀d,(match fM d with|some (C',_,_)=>if C'=C then some true else none|none=>none)=some b->Rp F v d as->b=true/\∃a dx fs,v=.ref a/\F a=some (.ins C dx fs):=by
  intro d h r
  split at h
  ·rename_i C' nm ds hu
   split at h
   ·rename_i e
    cases h
    subst e
    obtain⟨a,dx,vs,rfl,hF,_⟩:=r.jt hu
    exact⟨rfl,a,dx,_,rfl,hF⟩
   ·cases h
  ·cases h
 cases d with
 |int i=>cases h;exact .inr ⟨rfl,.inl ⟨i,r.int_inv⟩⟩
 |str x=>cases h;exact .inr ⟨rfl,.inr (.inl ⟨x,r.str_inv⟩)⟩
 |list ds=>
  cases h
  obtain⟨a,xs,bs,rfl,ha,_⟩:=r.aC
  exact .inr ⟨rfl,.inr (.inr ⟨a,xs,rfl,ha⟩)⟩
 |none=>exact .inl (key .none h r)
 |bool c=>exact .inl (key (.bool c) h r)
 |tuple ds=>exact .inl (key (.tuple ds) h r)
 |dict kvs=>exact .inl (key (.dict kvs) h r)
theorem Ef (C:Addr)(nm:List Str)(ds:List PyData):kK C (bQ C nm ds)=some true:=by
 show (match fM (bQ C nm ds) with|some (C',_,_)=>if C'=C then some true else none|none=>none)=_
 rw [KQ]
 show (if C=C then some true else none)=_
 rw [if_pos rfl]
/-- isinstance(e,C) -/
def SE.Tw (C:Addr)(e:SE):SE where
 t:=λK=>tCB (Uz C) (tCons (e.t K) (tCons (tC (.ref C)) tNil))
 ev:=λρ s=>(e.ev ρ s).bind λx=>(kK C x.1.1).map λb=>((.bool b,true),x.2)
 ok:=by
  intro K sk F H σ ρ aj s vl s' Q p h q
  obtain⟨⟨⟨x,fl⟩,s1⟩,h1,h0⟩:=aL h
  obtain⟨b,h2,h3⟩:=Kan.mp h0
  cases h3
  refine e.ok K p h1 λu F1 H1 as st k r ff=>?_
  rcases r.kK h2 with⟨rfl,a,dx,fs,rfl,hF⟩|⟨rfl,hp⟩
  ·exact .inl ⟨a,dx,fs,rfl,st.sub' _ _ hF,q _ F1 H1 [] st k (.bl true) .nil⟩
  ·refine .inr ⟨u,rfl,?_,q _ F1 H1 [] st k (.bl false) .nil⟩
   rcases hp with h|h|⟨a,xs,e1,e2⟩
   ·exact .inl h
   ·exact .inr (.inl h)
   ·exact .inr (.inr ⟨a,xs,e1,st.sub' _ _ e2⟩)
def lH (C:Addr)(f:Fn)(nm:List Str)(ds:List PyData)(y:PyData)(s:ae):Option (Vl×ae):=match fM y with
 |some (C2,rV,lq)=>if C2=C then f [.ins C nm ds,.ins C rV lq] s else none
 |none=>(kK C y).bind λ_=>f [.ins C nm ds,.dat y] s
def Hu (z:Vl×ae):Option (Vl×ae):=match z.1.1 with
 |.bool c=>some ((.bool c,true),z.2)
 |_=>none
/-- a == b,by bh own == of bh class at C -/
def K9 (C:Addr)(f:Fn)(a b:SE):SE where
 t:=λK=>tOp (Uy C (bx f) E0) (a.t K) (b.t K)
 ev:=λρ s=>(a.ev ρ s).bind λx=>(b.ev ρ x.2).bind λy=>match fM x.1.1 with
  |some (C',nm,ds)=>if C'=C then (lH C f nm ds y.1.1 y.2).bind Hu else none
  |none=>none
 ok:=by
  intro K sk F H σ ρ aj s vl s' Q p h q
  obtain⟨⟨⟨x,fl⟩,s1⟩,h1,h0⟩:=aL h
  obtain⟨⟨⟨y,Pc⟩,s2⟩,h2,h3⟩:=aL h0
  clear h h0
  dsimp only at h3
  split at h3
  ·rename_i C' nm ds hu
   split at h3
   ·rename_i e
    subst e
    obtain⟨⟨⟨z,Pd⟩,s3⟩,h4,h5⟩:=aL h3
    clear h3
    unfold Hu at h5
    dsimp only at h5
    split at h5
    ·rename_i c0 c
     cases h5
     refine a.ok K p h1 λu F1 H1 as st1 k1 r1 f1=>?_
     refine b.ok K (p.next st1 k1) h2 λv F2 H2 bs st2 k2 r2 f2=>?_
     obtain⟨a',dx,vs,rfl,hF,hl,rr⟩:=r1.jt hu
     have sa:qB sk F2 H2 (some (.ref a')) (.ins C' nm ds) []:=⟨rfl,a',dx,vs,as,rfl,st2.sub _ _ hF,hl,rr.mono st2.sub⟩
     have fin:∀(v2:V) (F3 H3:Hp) (cs:List Addr),Step sk F2 H2 F3 H3->bw sk F3 H3 s'->Rp F3 v2 (.bool c) cs->∃b,v2=.bl b/\Q v2 H3:=λv2 F3 H3 cs st3 k3 r3=>by
      have e3:=r3.bool_inv
      subst e3
      exact⟨c,rfl,q _ F3 H3 [] ((st1.trans st2).trans st3) k3 (.bl c) .nil⟩
     unfold lH at h4
     split at h4
     ·rename_i C2 rV lq MX
      split at h4
      ·rename_i e2
       subst e2
       obtain⟨b',dy,ws,rfl,hG,hl2,P_⟩:=r2.jt MX
       refine⟨a',dx,_,rfl,st2.sub' _ _ (st2.sub _ _ hF),.inl ⟨b',dy,_,rfl,st2.sub' _ _ hG⟩,?_⟩
       refine⟨sk,F2,_,s2,(.bool c,Pd),s',st2.sub',k2,.cons sa (.cons (show qB sk F2 H2 (some (.ref b')) (.ins C2 rV lq) [] from ⟨rfl,b',dy,ws,bs,rfl,hG,hl2,P_⟩) .nil),h4,λv2 F3 H3 cs st3 k3 r3 f3=>fin v2 F3 H3 cs st3 k3 r3⟩
      ·cases h4
     ·obtain⟨c2,h6,h7⟩:=aL h4
      have ho:Qo C' v H2:=by
       rcases r2.kK h6 with⟨_,b',dy,gs,rfl,hG⟩|⟨_,hp⟩
       ·exact .inl ⟨b',dy,gs,rfl,st2.sub' _ _ hG⟩
       ·rcases hp with h|h|⟨b',xs,e1,e2⟩
        ·exact .inr (.inl h)
        ·exact .inr (.inr (.inl h))
        ·exact .inr (.inr (.inr ⟨b',xs,e1,st2.sub' _ _ e2⟩))
      refine⟨a',dx,_,rfl,st2.sub' _ _ (st2.sub _ _ hF),ho,?_⟩
      refine⟨sk,F2,_,s2,(.bool c,Pd),s',st2.sub',k2,.cons sa (.cons (show qB sk F2 H2 (some v) (.dat y) [] from ⟨rfl,v,bs,rfl,r2⟩) .nil),h7,λv2 F3 H3 cs st3 k3 r3 f3=>fin v2 F3 H3 cs st3 k3 r3⟩
    ·cases h5
   ·cases h3
  ·cases h3
section
variable {ρ:List Slot}{s s1 s2 s3:ae}{a b e:SE}{w w1 w2:Bool}{C:Addr}{nm rV:List Str}{ds lq:List PyData}
theorem JE.Tw (h:JE e ρ s (bQ C nm ds) s1 w):JE (SE.Tw C e) ρ s true s1 true:=by
 obtain⟨_,h,_⟩:=h
 refine⟨true,?_,λ_=>rfl⟩
 show (e.ev ρ s).bind _=_
 rw [h]
 show (kK C (bQ C nm ds)).map _=_
 rw [Ef];rfl
theorem JE.Tz {α:Type}[Enc α]{x:α}(h:JE e ρ s x s1 w)(hx:kK C (enc x)=some false):JE (SE.Tw C e) ρ s false s1 true:=by
 obtain⟨_,h,_⟩:=h
 refine⟨true,?_,λ_=>rfl⟩
 show (e.ev ρ s).bind _=_
 rw [h]
 show (kK C (enc x)).map _=_
 rw [hx];rfl
theorem JE.eqI {f:Fn}{c w3:Bool}(ha:JE a ρ s (bQ C nm ds) s1 w1)(hb:JE b ρ s1 (bQ C rV lq) s2 w2)(hf:JF f [.ins C nm ds,.ins C rV lq] s2 c s3 w3):JE (K9 C f a b) ρ s c s3 true:=by
 obtain⟨_,ea,_⟩:=ha;obtain⟨_,eb,_⟩:=hb;obtain⟨w',ef,_⟩:=hf
 refine⟨true,?_,λ_=>rfl⟩
 show (a.ev ρ s).bind _=_
 rw [ea]
 show (b.ev ρ s1).bind _=_
 rw [eb]
 show (match fM (bQ C nm ds) with|some (C',nm,ds)=>_|none=>none)=_
 rw [KQ]
 show (if C=C then _ else _)=_
 rw [if_pos rfl]
 have e:lH C f nm ds (bQ C rV lq) s2=f [.ins C nm ds,.ins C rV lq] s2:=by
  unfold lH
  rw [KQ]
  show (if C=C then _ else _)=_
  rw [if_pos rfl]
 show (lH C f nm ds (bQ C rV lq) s2).bind Hu=_
 rw [e,ef]
 rfl
theorem JE.ME {α:Type}[Enc α]{x:α}{f:Fn}{c w3:Bool}(ha:JE a ρ s (bQ C nm ds) s1 w1)(hb:JE b ρ s1 x s2 w2)(hx:kK C (enc x)=some false)(hu:fM (enc x)=none)(hf:JF f [.ins C nm ds,.e x] s2 c s3 w3):JE (K9 C f a b) ρ s c s3 true:=by
 obtain⟨_,ea,_⟩:=ha;obtain⟨_,eb,_⟩:=hb;obtain⟨w',ef,_⟩:=hf
 refine⟨true,?_,λ_=>rfl⟩
 show (a.ev ρ s).bind _=_
 rw [ea]
 show (b.ev ρ s1).bind _=_
 rw [eb]
 show (match fM (bQ C nm ds) with|some (C',nm,ds)=>_|none=>none)=_
 rw [KQ]
 show (if C=C then _ else _)=_
 rw [if_pos rfl]
 have e:lH C f nm ds (enc x) s2=f [.ins C nm ds,.e x] s2:=by
  unfold lH
  rw [hu]
  show (kK C (enc x)).bind _=_
  rw [hx];rfl
 show (lH C f nm ds (enc x) s2).bind Hu=_
 rw [e,ef]
 rfl
end
end Pu
namespace Hg
open PySem PySem.Spec PyProof.Rows L2 He
open PySem.W (Frag)
open Ex (Uw Lu EO MK)
def zJ:List Value->List Str->Bool
 |[],[]=>true
 |.str y _::vs,z::zs=>decide (y=z) && zJ vs zs
 |_,_=>false
theorem vN:∀{vs:List Value} {zs:List Str},zJ vs zs=true->Vals (zs.map V.str) vs
 |[],[],_=>.nil
 |.str y t::vs,z::zs,h=>by
  have h2:(decide (y=z) && zJ vs zs)=true:=h
  obtain⟨h3,h4⟩:=ba h2
  have:=of_decide_eq_true h3
  subst this
  exact .cons ⟨t,rfl⟩ (vN h4)
 |[],_::_,h=>nomatch (show false=true from h)
 |.str _ _::_,[],h=>nomatch (show false=true from h)
 |.none::_,_,h=>by cases ‹List Str› <;> exact nomatch (show false=true from h)
 |.bool _::_,_,h=>by cases ‹List Str› <;> exact nomatch (show false=true from h)
 |.int _ _::_,_,h=>by cases ‹List Str› <;> exact nomatch (show false=true from h)
 |.float _ _::_,_,h=>by cases ‹List Str› <;> exact nomatch (show false=true from h)
 |.bytes _ _::_,_,h=>by cases ‹List Str› <;> exact nomatch (show false=true from h)
 |.ref _::_,_,h=>by cases ‹List Str› <;> exact nomatch (show false=true from h)
 |.type _::_,_,h=>by cases ‹List Str› <;> exact nomatch (show false=true from h)
 |.builtin _::_,_,h=>by cases ‹List Str› <;> exact nomatch (show false=true from h)
def tupK (K:Frag)(x:Str)(zs:List Str):Bool:=match K.lookup (ga K x) with
 |some ⟨.type t,_,.seq its _,_⟩=>decide (t = "tuple") && (decide (its.size<=1000) && zJ its.toList zs)
 |_=>false
theorem JJ {K:Frag}{x:Str}{zs:List Str}(h:tupK K x zs=true)(H:Hp):SqT K H (ga K x) (zs.map V.str):=by
 unfold tupK at h
 split at h
 ·rename_i t dd its n sl e
  obtain⟨h1,h2⟩:=ba h
  obtain⟨h3,h4⟩:=ba h2
  have:=of_decide_eq_true h1
  subst this
  exact .inr ⟨_,its,n,e,rfl,rfl,Kau (of_decide_eq_true h3) (by decide),vN h4⟩
 ·cases h
/-- what isinstance and == ask of an own class -/
def qG (K:Frag)(x:Str):Bool:=
 (eqO (PySem.W.findIn K (.ref (ga K x)) "__class__") (some (some (.builtin "object.__class__"))) && (eqO (PySem.W.specialIn K (.builtin "object.__class__") "__get__") (some (some (.builtin "getset_descriptor.__get__"))) &&
  (decide (PySem.W.takesIn K (.builtin "object.__class__")=some true) && (decide (PySem.W.mroIn K (ga K x) (.type "object")=some true) && decide (PySem.W.kitOne K (.ref (ga K x)) (.ref (ga K x))=some true))))) &&
 ((decide (PySem.W.kitOne K (.type "list") (.ref (ga K x))=some false) && (decide (PySem.W.kitOne K (.type "int") (.ref (ga K x))=some false) && decide (PySem.W.kitOne K (.type "str") (.ref (ga K x))=some false))) &&
  (PySem.W.notFirst K (ga K x) (.type "int") && (PySem.W.notFirst K (ga K x) (.type "str") && PySem.W.notFirst K (ga K x) (.type "list")))) &&
 eqO (PySem.W.findIn K (.ref (ga K x)) "__ne__") (some (some (.builtin "object.__ne__")))
/-- LC,and eA a uu-in type is never first -/
structure LG (K:Frag)(C:Addr):Prop where
 i:L2.LC K C
 n:∀t,t = "int" ∨ t = "str" ∨ t = "list" -> PySem.W.notFirst K C (.type t)=true
 ne:PySem.W.findIn K (.ref C) "__ne__" = some (some (.builtin "object.__ne__"))
theorem IG {K:Frag}{x:Str}(h:qG K x=true)(c:Cls K (ga K x)):LG K (ga K x):=by
 obtain⟨h,h9⟩:=ba h
 obtain⟨h1,h2⟩:=ba h
 obtain⟨a1,h1⟩:=ba h1
 obtain⟨a2,h1⟩:=ba h1
 obtain⟨a3,h1⟩:=ba h1
 obtain⟨a4,a5⟩:=ba h1
 obtain⟨h2,h3⟩:=ba h2
 obtain⟨b1,h2⟩:=ba h2
 obtain⟨b2,b3⟩:=ba h2
 obtain⟨c1,h3⟩:=ba h3
 obtain⟨c2,c3⟩:=ba h3
 refine⟨⟨⟨c,eqO_ok a1,eqO_ok a2,of_decide_eq_true a3,of_decide_eq_true a4,of_decide_eq_true a5⟩,of_decide_eq_true b1,of_decide_eq_true b2,of_decide_eq_true b3⟩,λt ht=>?_,eqO_ok h9⟩
 rcases ht with rfl|rfl|rfl
 ·exact c1
 ·exact c2
 ·exact c3
/-- a tuple of texts;no texts: an own class -/
def U1 (K:Frag)(x:Str)(zs:List Str):Bool:=if zs.isEmpty=true then qG K x else tupK K x zs
abbrev zV:Type:=AlD×Bool×List FnW
def EM (fa:List Fa)(fn ps:List DefD)(ts:List (Str×List Str))(K:Frag):zV:=(obsD fa fn K,ts.all (λp=>U1 K p.1 p.2) && ps.all (λd=>Uw K d.at_ && EO K (Lu K d.at_) d),ps.map λd=>MK K (Lu K d.at_))
def vU (fn ps:List DefD):zV:=(valD fn,true,ps.map DefD.val)
def kD (fa:List Fa)(fn ps:List DefD)(ts:List (Str×List Str))(K:Frag):Prop:=EM fa fn ps ts K=vU fn ps
/-- bh code of bh AH too -/
def asQ (g:Addr->Option Obj)(n:Nat):List Addr:=Hf.asF g n++(Hf.asF g n).flatMap λa=>match g a with
 |some o=>(match o.data with
  |.func fd=>refV fd.code
  |_=>[])
 |none=>[]
def mR (n:Nat)(fa:List Fa)(fn ps:List DefD)(ts:List (Str×List Str))(g:Addr->Option Obj):zV:=EM fa fn ps ts (frG g (asQ g n))
def D0 (n:Nat)(fa:List Fa)(fn ps:List DefD)(ts:List (Str×List Str)):PySem.W.Hook where
 α:=zV
 obs:=λs=>mR n fa fn ps ts s.heap.get?
 val:=λ_=>vU fn ps
 says:=λ_ h=>∃K:Frag,K.In h/\kD fa fn ps ts K
 of:=λ_ _ e=>⟨_,frG_in,e⟩
 keeps:=λ_ _ _ ⟨K,hK,c⟩ k=>⟨K,PySem.W.Frag.In.keeps hK k,c⟩
theorem EN {n:Nat}{fa:List Fa}{fn ps:List DefD}{ts:List (Str×List Str)}{g:Addr->Option Obj}{s:Shared}(h:∀a,g a=s.heap.get? a):mR n fa fn ps ts g=(D0 n fa fn ps ts).obs s:=by
 have e:g=s.heap.get?:=funext h
 rw [e] <;> rfl
section
variable {fa:List Fa}{fn ps:List DefD}{ts:List (Str×List Str)}{K:Frag}
theorem kD.d (c:kD fa fn ps ts K):SaysD fa fn K:=congrArg (λz:zV=>z.1) c
theorem kD.tup (c:kD fa fn ps ts K){x:Str}{zs:List Str}(h:(x,zs)∈ts)(H:Hp)(h0:zs.isEmpty=false:=by rfl):SqT K H (ga K x) (zs.map V.str):=by
 have c1:(ts.all (λp=>U1 K p.1 p.2) && ps.all (λd=>Uw K d.at_ && EO K (Lu K d.at_) d))=true:=congrArg (λz:zV=>z.2.1) c
 have c2:U1 K x zs=true:=Kbk.mp (ba c1).1 _ h
 unfold U1 at c2
 rw [if_neg (by rw [h0];exact Kdy)] at c2
 exact JJ c2 H
theorem kD.own (c:kD fa fn ps ts K){x:Str}(h:(x,[])∈ts)(hc:Cls K (ga K x)):LG K (ga K x):=by
 have c1:(ts.all (λp=>U1 K p.1 p.2) && ps.all (λd=>Uw K d.at_ && EO K (Lu K d.at_) d))=true:=congrArg (λz:zV=>z.2.1) c
 exact IG (Kbk.mp (ba c1).1 _ h) hc
end
end Hg
namespace Hg
open PySem PySem.Spec PyProof.Rows L2 He
open PySem.W (Frag)
theorem A6 {fa:List Fa}{fn ps:List DefD}{ts:List (Str×List Str)}{K:Frag}(k m:Nat)(h2:EM (fa.take k) (fn.take m) ps ts K=vU (fn.take m) ps)(h3:EM (fa.drop k) (fn.drop m) [] [] K=vU (fn.drop m) []):EM fa fn ps ts K=vU fn ps:=by
 have a1:=congrArg (λz:zV=>z.1.1) h2
 have a2:=congrArg (λz:zV=>z.1.2) h2
 have a3:=congrArg (λz:zV=>z.2) h2
 have b1:=congrArg (λz:zV=>z.1.1) h3
 have b2:=congrArg (λz:zV=>z.1.2) h3
 have a1:((fa.take k).all (λf=>f.ok K) && (fn.take m).all λd=>d.ok K)=true:=a1
 have b1:((fa.drop k).all (λf=>f.ok K) && (fn.drop m).all λd=>d.ok K)=true:=b1
 have a2:(fn.take m).map (λd=>fnW K d.at_)=(fn.take m).map DefD.val:=a2
 have b2:(fn.drop m).map (λd=>fnW K d.at_)=(fn.drop m).map DefD.val:=b2
 obtain⟨a4,a5⟩:=ba a1
 obtain⟨b4,b5⟩:=ba b1
 have c1:fa.all (λf=>f.ok K)=true:=by
  rw [<-Kbf k fa,Kc1,a4,b4];rfl
 have c2:fn.all (λd=>d.ok K)=true:=by
  rw [<-Kbf m fn,Kc1,a5,b5];rfl
 have c3:fn.map (λd=>fnW K d.at_)=fn.map DefD.val:=by
  rw [<-Kbf m fn,Kav,Kav,a2,b2]
 show ((fa.all (λf=>f.ok K) && fn.all λd=>d.ok K,fn.map λd=>fnW K d.at_),_)=((true,fn.map DefD.val),_)
 rw [c1,c2,c3]
 exact Prod.ext rfl a3
open PySem.W PySem.Calls HandSHeadRun in
/-- bh first part: what bh MR end looks like -/
def Qq (r:OpenRow)(q:Program)(M:Nat)(loose:List PySem.Str)(w:World):Prop:=
 ∀os:OsState,(endF (stepQ (denQ tabQ) r.prog w) M r.prog w os).map (λs=>(looksF r.prog (boot_heap w.params) s.abs,seenQ q loose (importedModules r.prog.main.body) (λs=>xlAt q [] s && recOk r.toRowW.records s) s.abs))=some (true,openGood q loose)
open PySem.W PySem.Calls HandSHeadRun in
/-- what is found at bh MR end -/
def uh (r:OpenRow)(M n:Nat)(fa:List Fa)(fn ps:List DefD)(ts:List (Str×List Str))(w:World):Prop:=
 ∀os:OsState,(endF (stepQ (denQ tabQ) r.prog w) M r.prog w os).map (λs=>mR n fa fn ps ts (getT s))=some (vU fn ps)
open PySem.W PySem.Calls HandSHeadRun in
theorem lX {r:OpenRow}{M n:Nat}{w:World}{fa:List Fa}{fn ps:List DefD}{ts:List (Str×List Str)}(k m:Nat)(h2:uh r M n (fa.take k) (fn.take m) ps ts w)(h3:uh r M n (fa.drop k) (fn.drop m) [] [] w):uh r M n fa fn ps ts w:=λos=>by
 have h2:=h2 os
 have h3:=h3 os
 revert h2 h3
 generalize endF (stepQ (denQ tabQ) r.prog w) M r.prog w os=x
 intro h2 h3
 obtain⟨s,rfl,e2⟩:=Kan.mp h2
 have e3:=Option.some.inj h3
 exact congrArg some (A6 k m e2 e3)
open PySem.W PySem.Calls HandSHeadRun in
theorem vF {r:OpenRow}{q:Program}{M n:Nat}{loose:List PySem.Str}{w:World}{fa:List Fa}{fn ps:List DefD}{ts:List (Str×List Str)}(h1:Qq r q M loose w)(h2:uh r M n fa fn ps ts w):
  RunEq r q (D0 n fa fn ps ts) (λs=>mR n fa fn ps ts (getT s)) M loose w:=λos=>by
 have h1:=h1 os
 have h2:=h2 os
 show (endF (stepQ (denQ tabQ) r.prog w) M r.prog w os).map (λs=>(looksF r.prog (boot_heap w.params) s.abs,seenQ q loose (importedModules r.prog.main.body) (λs=>xlAt q [] s && recOk r.toRowW.records s) s.abs,mR n fa fn ps ts (getT s)))=some (true,openGood q loose,vU fn ps)
 revert h1 h2
 generalize endF (stepQ (denQ tabQ) r.prog w) M r.prog w os=x
 intro h1 h2
 obtain⟨s,rfl,e1⟩:=Kan.mp h1
 have e:mR n fa fn ps ts (getT s)=vU fn ps:=Option.some.inj h2
 obtain⟨e4,e5⟩:=Prod.mk.inj e1
 show some (looksF r.prog (boot_heap w.params) s.abs,seenQ q loose (importedModules r.prog.main.body) (λs=>xlAt q [] s && recOk r.toRowW.records s) s.abs,mR n fa fn ps ts (getT s))=_
 rw [e,e4,e5]
open PySem.W PySem.Calls HandSHeadRun in
/-- bh first part in two: bh looks -/
def Qs (r:OpenRow)(M:Nat)(w:World):Prop:=
 ∀os:OsState,(endF (stepQ (denQ tabQ) r.prog w) M r.prog w os).map (λs=>looksF r.prog (boot_heap w.params) s.abs)=some true
open PySem.W PySem.Calls HandSHeadRun in
/-- what is seen -/
def Qt (r:OpenRow)(q:Program)(M:Nat)(loose:List PySem.Str)(w:World):Prop:=
 ∀os:OsState,(endF (stepQ (denQ tabQ) r.prog w) M r.prog w os).map (λs=>seenQ q loose (importedModules r.prog.main.body) (λs=>xlAt q [] s && recOk r.toRowW.records s) s.abs)=some (openGood q loose)
open PySem.W PySem.Calls HandSHeadRun in
theorem Bc {r:OpenRow}{q:Program}{M:Nat}{loose:List PySem.Str}{w:World}(h1:Qs r M w)(h2:Qt r q M loose w):Qq r q M loose w:=λos=>by
 have h1:=h1 os
 have h2:=h2 os
 show (endF (stepQ (denQ tabQ) r.prog w) M r.prog w os).map (λs=>(looksF r.prog (boot_heap w.params) s.abs,seenQ q loose (importedModules r.prog.main.body) (λs=>xlAt q [] s && recOk r.toRowW.records s) s.abs))=some (true,openGood q loose)
 revert h1 h2
 generalize endF (stepQ (denQ tabQ) r.prog w) M r.prog w os=x
 intro h1 h2
 obtain⟨s,rfl,e1⟩:=Kan.mp h1
 have e2:seenQ q loose (importedModules r.prog.main.body) (λs=>xlAt q [] s && recOk r.toRowW.records s) s.abs=openGood q loose:=Option.some.inj h2
 show some (looksF r.prog (boot_heap w.params) s.abs,seenQ q loose (importedModules r.prog.main.body) (λs=>xlAt q [] s && recOk r.toRowW.records s) s.abs)=_
 rw [e1,e2]
end Hg
set_option maxHeartbeats 0
namespace B9
open PySem PySem.Spec PyProof.Rows L2
def bN (i:Nat):Stmt:=PySem.Challenge.pw_ladderdays_k21_whole_calendars_told_apar.main.body.getD i (.Pass ⟨0,0,0,0⟩)
abbrev Wn:Stmt:=bN 10
abbrev VX:Stmt:=bN 11
abbrev Zk:Stmt:=bN 12
abbrev gja:Stmt:=bN 13
abbrev Z0:Stmt:=bN 14
abbrev fzf:Stmt:=bN 15
abbrev ZR:Stmt:=bN 16
abbrev ezc:Stmt:=bN 18
abbrev Rg:Stmt:=bN 19
abbrev ZY:Stmt:=bN 20
abbrev exo:Stmt:=bN 21
abbrev eqr:Stmt:=bN 22
abbrev Mv:Stmt:=bN 23
abbrev RC:Stmt:=bN 24
abbrev eqo:Stmt:=bN 26
abbrev ZE:Stmt:=bN 28
abbrev V_:Stmt:=bN 30
abbrev ZZ:Stmt:=bN 31
abbrev Kg:Stmt:=inClass (bN 32) 0
abbrev OF:Stmt:=inClass (bN 32) 2
abbrev QO:Stmt:=inClass (bN 32) 3
abbrev QN:Stmt:=inClass (bN 32) 4
abbrev Qy:Stmt:=inClass (bN 32) 5
abbrev Qw:Stmt:=inClass (bN 32) 6
abbrev OB:Stmt:=inClass (bN 32) 7
abbrev Q7:Stmt:=inClass (bN 32) 8
abbrev Ot:Stmt:=inClass (bN 32) 9
abbrev QM:Stmt:=inClass (bN 32) 10
abbrev QY:Stmt:=inClass (bN 32) 11
abbrev OI:Stmt:=inClass (bN 32) 12
abbrev QE:Stmt:=inClass (bN 32) 13
abbrev QK:Stmt:=inClass (bN 32) 14
abbrev OJ:Stmt:=inClass (bN 32) 15
abbrev QL:Stmt:=inClass (bN 32) 16
abbrev Ra:Stmt:=inClass (bN 32) 17
abbrev gjb:Stmt:=bN 34
abbrev gjl:Stmt:=bN 35
abbrev R8:Stmt:=bN 36
abbrev gxd:Stmt:=bN 37
abbrev WW:Stmt:=bN 40
abbrev WA:Stmt:=bN 38
abbrev WL:Stmt:=bN 39
abbrev ZC:Stmt:=bN 41
abbrev ZK:Stmt:=bN 42
abbrev exr:Stmt:=bN 43
abbrev WV:Stmt:=bN 44
abbrev Fj:Stmt:=bN 45
abbrev dP (n:Str)(s:Stmt):He.DefD:=⟨(n,none),n,n,defArgs s,defBody s,defScope s,[],[]⟩
def Cq:He.DefD:=dP "never_falls" Wn
def Aa:He.DefD:=dP "always_rises" VX
def Gp:He.DefD:=dP "is_ladder" Zk
def C5:He.DefD:=dP "is_set" gja
def CI:He.DefD:=dP "need_ladder" Z0
def Ai:He.DefD:=dP "need_set" fzf
def oz:He.DefD:=dP "need_number" ZR
def CM:He.DefD:=dP "prime_parts" ezc
def BD:He.DefD:=dP "comes_again" Rg
def Cj:He.DefD:=dP "least_length" ZY
def wD:He.DefD:=dP "least_way" exo
def yh:He.DefD:=dP "least_row" eqr
def As:He.DefD:=dP "set_row" Mv
def BG:He.DefD:=dP "set_from" RC
def CJ:He.DefD:=dP "least_set" eqo
def BC:He.DefD:=dP "least_ladder" ZE
def CL:He.DefD:=dP "are_years" V_
def Ag:He.DefD:=dP "least_cycle" ZZ
def x7:He.DefD:=⟨("Calendar",some "__init__"), "__init__", "Calendar.__init__",defArgs Kg,defBody Kg,defScope Kg,[],[]⟩
def yd:He.DefD:=⟨("Calendar",some "owners"), "owners", "Calendar.owners",defArgs OF,defBody OF,defScope OF,[],[]⟩
def BA:He.DefD:=⟨("Calendar",some "index_of"), "index_of", "Calendar.index_of",defArgs QO,defBody QO,defScope QO,[],[]⟩
def Ae:He.DefD:=⟨("Calendar",some "month_at"), "month_at", "Calendar.month_at",defArgs QN,defBody QN,defScope QN,[],[]⟩
def v8:He.DefD:=⟨("Calendar",some "set_of_cycle"), "set_of_cycle", "Calendar.set_of_cycle",defArgs Qy,defBody Qy,defScope Qy,[],[]⟩
def wB:He.DefD:=⟨("Calendar",some "ladder_of_cycle"), "ladder_of_cycle", "Calendar.ladder_of_cycle",defArgs Qw,defBody Qw,defScope Qw,[],[]⟩
def qY:He.DefD:=⟨("Calendar",some "date"), "date", "Calendar.date",defArgs OB,defBody OB,defScope OB,[],[]⟩
def BF:He.DefD:=⟨("Calendar",some "day"), "day", "Calendar.day",defArgs Q7,defBody Q7,defScope Q7,[],[]⟩
def By:He.DefD:=⟨("Calendar",some "year_starts"), "year_starts", "Calendar.year_starts",defArgs Ot,defBody Ot,defScope Ot,[],[]⟩
def Ci:He.DefD:=⟨("Calendar",some "month_starts"), "month_starts", "Calendar.month_starts",defArgs QM,defBody QM,defScope QM,[],[]⟩
def z_:He.DefD:=⟨("Calendar",some "dates"), "dates", "Calendar.dates",defArgs QY,defBody QY,defScope QY,[],[]⟩
def Bt:He.DefD:=⟨("Calendar",some "last_days"), "last_days", "Calendar.last_days",defArgs OI,defBody OI,defScope OI,[],[]⟩
def z9:He.DefD:=⟨("Calendar",some "months_on"), "months_on", "Calendar.months_on",defArgs QE,defBody QE,defScope QE,[],[]⟩
def Bv:He.DefD:=⟨("Calendar",some "year_on"), "year_on", "Calendar.year_on",defArgs QK,defBody QK,defScope QK,[],[]⟩
def Af:He.DefD:=⟨("Calendar",some "years_on"), "years_on", "Calendar.years_on",defArgs OJ,defBody OJ,defScope OJ,[],[]⟩
def BB:He.DefD:=⟨("Calendar",some "months"), "months", "Calendar.months",defArgs QL,defBody QL,defScope QL,[],[]⟩
def v9:He.DefD:=⟨("Calendar",some "__eq__"), "__eq__", "Calendar.__eq__",defArgs Ra,defBody Ra,defScope Ra,[],[]⟩
def Mx:He.DefD:=dP "_law_pail" gjb
def l8:He.DefD:=dP "_law_dip" gjl
def Pg:He.DefD:=dP "_law_own" R8
def yp:He.DefD:=dP "_law_same" gxd
def uq:He.DefD:=dP "_law_cycle" WW
def Aq:He.DefD:=dP "_law_years" WA
def Ar:He.DefD:=dP "_law_dates" WL
def BE:He.DefD:=dP "_law_other_years" ZC
def Bw:He.DefD:=dP "_law_first_apart" ZK
def Am:He.DefD:=dP "_law_telling" exr
def BK:He.DefD:=dP "_law_right" WV
def uF:He.DefD:=dP "law" Fj
def fn:List He.DefD:=[Cq,Aa,Gp,C5,CI,Ai,oz,CM,BD,Cj,wD,yh,As,BG,CJ,BC,CL,Ag,x7,yd,BA,Ae,v8,wB,qY,BF,By,Ci,z_,Bt,z9,Bv,Af,BB,v9,Mx,l8,Pg,yp,uq,Aq,Ar,BE,Bw,Am,BK,uF]
def ps:List He.DefD:=[]
def ts:List (Str×List Str):=[("Calendar",[])]
def fa:List He.Fa:=[.glo "never_falls",.glo "always_rises",.glo "is_ladder",.glo "is_set",.glo "need_ladder",.glo "need_set",.glo "need_number",.glo "prime_parts",.glo "comes_again",.glo "least_length",.glo "least_way",.glo "least_row",.glo "set_row",.glo "set_from",.glo "least_set",.glo "least_ladder",.glo "are_years",.glo "least_cycle",.glo "_law_pail",.glo "_law_dip",.glo "_law_own",.glo "_law_same",.glo "_law_cycle",.glo "_law_years",.glo "_law_dates",.glo "_law_other_years",.glo "_law_first_apart",.glo "_law_telling",.glo "_law_right",.glo "law",.free "zip",.free "all",.free "len",.free "range",.free "int",.free "enumerate",.free "min",.free "list",.free "divmod",.free "isinstance",.free "repr",.free "sum",.free "max",.free "abs",.free "tuple",.cls "Calendar",.mkr "Calendar",.glo "Calendar",.noat "Calendar" "own_years",.noat "Calendar" "spots",.noat "Calendar" "lengths",.noat "Calendar" "firsts",.noat "Calendar" "total",.meth "Calendar" "owners",.meth "Calendar" "index_of",.meth "Calendar" "month_at",.meth "Calendar" "set_of_cycle",.meth "Calendar" "ladder_of_cycle",.meth "Calendar" "date",.meth "Calendar" "day",.meth "Calendar" "year_starts",.meth "Calendar" "month_starts",.meth "Calendar" "dates",.meth "Calendar" "last_days",.meth "Calendar" "months_on",.meth "Calendar" "year_on",.meth "Calendar" "years_on",.meth "Calendar" "months",.meth "Calendar" "__eq__"]
abbrev R:PySem.W.OpenRow:=PySem.W.OpenLaw.row PySem.Challenge.rw_ladderdays_k21_whole_calendars_told_apar
abbrev hk:PySem.W.Hook:=Hg.D0 3 fa fn ps ts
def ob (s:PySem.W.SharedT):Hg.zV:=Hg.mR 3 fa fn ps ts (HandSHeadRun.getT s)
theorem Um (s:PySem.W.SharedT):ob s=hk.obs s.abs:=Hg.EN (HandSHeadRun.getT_eq s)
def lo:List PySem.Str:=(["__name__", "copied", "DaysError", "InvalidLadder", "InvalidSet", "InvalidNumber", "InvalidYears", "InvalidDate", "never_falls", "always_rises", "is_ladder", "is_set", "need_ladder", "need_set", "need_number", "prime_parts"]:List PySem.Str)++(["comes_again", "least_length", "least_way", "least_row", "set_row", "set_from", "least_set", "least_ladder", "are_years", "least_cycle", "Calendar", "_law_pail", "_law_dip", "_law_own", "_law_same", "_law_years"]:List PySem.Str)++(["_law_dates", "_law_cycle", "_law_other_years", "_law_first_apart", "_law_telling", "_law_right"]:List PySem.Str)
theorem UN (w:World):Hg.Qs R 5000 w:=by
 intro os
 kernel_rfl
theorem UO (w:World):Hg.Qt R (PySem.W.view R.prog [45]) 5000 lo w:=by
 intro os
 kernel_rfl
theorem UJ (w:World):Hg.uh R 5000 3 (((fa).take 34).take 17) (((fn).take 23).take 11) ps ts w:=by
 intro os
 kernel_rfl
theorem UK (w:World):Hg.uh R 5000 3 (((fa).take 34).drop 17) (((fn).take 23).drop 11) [] [] w:=by
 intro os
 kernel_rfl
theorem UL (w:World):Hg.uh R 5000 3 (((fa).drop 34).take 17) (((fn).drop 23).take 12) [] [] w:=by
 intro os
 kernel_rfl
theorem UM (w:World):Hg.uh R 5000 3 (((fa).drop 34).drop 17) (((fn).drop 23).drop 12) [] [] w:=by
 intro os
 kernel_rfl
theorem run (w:World):HandSHeadRun.RunEq R (PySem.W.view R.prog [45]) hk ob 5000 lo w:=Hg.vF (Hg.Bc (UN w) (UO w)) (Hg.lX 34 23 (Hg.lX 17 11 (UJ w) (UK w)) (Hg.lX 17 12 (UL w) (UM w)))
open PySem PySem.W PySem.Calls PyProof.Rows in
theorem early (call:WalkO (view (OpenLaw.row PySem.Challenge.rw_ladderdays_k21_whole_calendars_told_apar).prog [45]) lo (XL (view (OpenLaw.row PySem.Challenge.rw_ladderdays_k21_whole_calendars_told_apar).prog [45]) []) hk.says R.toRowW (HandSHeadRun.topDef (OpenLaw.row PySem.Challenge.rw_ladderdays_k21_whole_calendars_told_apar).prog 45) [] λf vs=>PySem.call f vs):PySem.Challenge.rw_ladderdays_k21_whole_calendars_told_apar.Holds:=by
 w_on;o_law
 refine HandSHeadRun.head_any (r:=OpenLaw.row PySem.Challenge.rw_ladderdays_k21_whole_calendars_told_apar) (q:=view (OpenLaw.row PySem.Challenge.rw_ladderdays_k21_whole_calendars_told_apar).prog [45]) (H:=hk) (ob:=ob) (M:=5000) (loose:=lo) (d:=HandSHeadRun.topDef (OpenLaw.row PySem.Challenge.rw_ladderdays_k21_whole_calendars_told_apar).prog 45) (kwd:=[]) Um
  (by kernel_rfl) (λs=>by kernel_rfl) run (by kernel_rfl) (by kernel_rfl) (by kernel_rfl) (by rfl) (by first|assumption|decide +kernel) (by decide +kernel) ⟨rfl,rfl,rfl,rfl,rfl,by decide +kernel⟩ ?hw call
 case hw=>w_witness2
end B9
set_option maxHeartbeats 4000000
set_option exponentiation.threshold 2000
namespace Pu
variable [aO]
open PySem L2 Enc
def Q8:SS:=SS.ag (MY (mG (M4 (ak 0) (hxk (ak 0) (SO.at (SE.ac 1)) (SO.no))) (SG.tup (iK (aY 1) (iK (aY 2) (jK)))) (cN) (tX (ak 1) (ak 2)) [1,2] (of_decide_eq_true rfl)))
def VR:Fn:=fnOf 1 2 Q8
def J6 (dj:List Int):Bool:=
 (Kc5 (Kaj (λ(x1:Int×Int)=>(decide (x1.1<x1.2))) (KbF dj (cut dj (some (1:Int)) none))) id)
def Aa (dj:List Int):Prop:=
 (KbF dj (cut dj (some (1:Int)) none)).length<=100000
theorem iz (dj:List Int)(s:ae)(h0:Aa dj):JF VR [.e dj] s (J6 dj) s false:=by
 unfold Aa at h0
 have h1:=h0
 refine iL rfl ?_
 unfold J6 Q8
 show JB _ [.e dj,.emp,.emp] _ _
 exact JB.ag (sX (JE.all (BX (λ(x1:Int×Int)=>[.e dj,.e x1.1,.e x1.2]) (JI.zip (aq rfl) (BW (aq rfl) (JO.at (JE.ac 1)) (JO.no))) (λ_=>rfl) (λx1 _=>wW (aq rfl) (aq rfl)) h1)))
def W3:SS:=SS.ac (hxb (SG.tup (iK (aY 1) (iK (aY 2) (iK (aY 3) (iK (aY 4) (jK)))))) (ak 0)) (SS.ac (jd (G1 (ST.ac (tX (ak 2) (SE.ac 0))) (ST.ac (tX (ak 3) (SE.ac 1)))) (SS.ag (SE.bool false)) (SS.am)) (SS.ag (K7 (SE.ag VR (cK (tW (tW (SE.lst (eK (SE.ar (SE.ac 1)) (fK))) (ak 1)) (SE.lst (eK (ak 2) (fK)))) (dK))) (SE.ag VR (cK (tW (tW (SE.lst (eK (SE.ar (SE.ac 1)) (fK))) (ak 4)) (SE.lst (eK (ak 3) (fK)))) (dK))))))
def gjg:Fn:=fnOf 1 4 W3
def O3 (ao:qy):Bool:=
 if (ao.y<(0:Int))∨(ao.z<(1:Int)) then
 false
 else
 (decide (((J6 (([(-(1:Int))]++ao.x)++[ao.y]))=true)/\((J6 (([(-(1:Int))]++ao.u)++[ao.z]))=true)))
def C5 (ao:qy):Prop:=
 (¬((ao.y<(0:Int))∨(ao.z<(1:Int)))->([(-(1:Int))].length+ao.x.length<=100000/\([(-(1:Int))]++ao.x).length+[ao.y].length<=100000/\Aa (([(-(1:Int))]++ao.x)++[ao.y])/\(((J6 (([(-(1:Int))]++ao.x)++[ao.y]))=true)->([(-(1:Int))].length+ao.u.length<=100000/\([(-(1:Int))]++ao.u).length+[ao.z].length<=100000/\Aa (([(-(1:Int))]++ao.u)++[ao.z])))))
theorem AU (ao:qy)(s:ae)(h0:C5 ao):JF gjg [.e ao] s (O3 ao) s false:=by
 unfold C5 at h0
 have h8:=h0
 refine iL rfl ?_
 unfold O3 W3
 show JB _ [.e ao,.emp,.emp,.emp,.emp] _ _
 refine JB.ac (aH:=[.e ao,.e ao.x,.e ao.y,.e ao.z,.e ao.u]) (wX (aq rfl) rfl) ?_
 refine GX (JT.or (JT.ac (wW (aq rfl) (JE.ac 0))) (λ_=>JT.ac (wW (aq rfl) (JE.ac 1)))) ?_ (λ_=>hxv) ?_
 ·intro hq
  exact JB.ag (sX (JE.bool false))
 intro hq
 obtain⟨h1,h2,h3,h7⟩:=h8 hq
 refine GU ?_
 exact JB.ag (PF (tZ (JE.ag (aK (BY (BY (JE.lst (xs:=[(-(1:Int))]) (gK (JE.neg (JE.ac 1)) (JA.nil)) (by show 1<=100000;decide)) (aq rfl) h1) (JE.lst (xs:=[ao.y]) (gK (aq rfl) (JA.nil)) (by show 1<=100000;decide)) h2) (bK)) (iz (([(-(1:Int))]++ao.x)++[ao.y]) _ h3))) (λhq=>(match h7 hq with|⟨h4,h5,h6⟩=>tZ (JE.ag (aK (BY (BY (JE.lst (xs:=[(-(1:Int))]) (gK (JE.neg (JE.ac 1)) (JA.nil)) (by show 1<=100000;decide)) (aq rfl) h4) (JE.lst (xs:=[ao.z]) (gK (aq rfl) (JA.nil)) (by show 1<=100000;decide)) h5) (bK)) (iz (([(-(1:Int))]++ao.u)++[ao.z]) _ h6)))))
def Wv:SS:=jd (K3 (ST.ac (SE.ag gjg (cK (ak 0) (dK))))) (Iz) (SS.am)
def fqb:Fn:=fnOf 1 0 Wv
def xH (ao:qy):Unit:=
 if ¬((O3 ao)=true) then
 ()
 else
 ()
def Ai (ao:qy):Prop:=
 C5 ao/\((¬((O3 ao)=true))->False)
theorem uV (ao:qy)(s:ae)(h0:Ai ao):JF fqb [.e ao] s (xH ao) s true:=by
 unfold Ai at h0
 obtain⟨h1,h3⟩:=h0
 show JF _ _ _ () _ _
 refine JF.ofN rfl ?_
 unfold Wv
 show JB _ [.e ao] _ (G5 s (if ¬((O3 ao)=true) then
 ()
 else
 ()))
 refine MU (P6 (JT.ac (tZ (JE.ag (aK (aq rfl) (bK)) (AU ao _ h1))))) ?_ ?_
 ·intro hq
  have h2:=h3 hq
  exact h2.elim
 ·intro hq
  exact JB.ar ⟨_,rfl⟩
def Hs:SS:=jd (ST.ac (tX (ak 0) (ak 1))) (Iz) (SS.am)
def Kh:Fn:=fnOf 2 0 Hs
def qL (kE:Int)(Ie:Int):Unit:=
 if kE<Ie then
 ()
 else
 ()
def oz (kE:Int)(Ie:Int):Prop:=
 ((kE<Ie)->False)
theorem OP (kE:Int)(Ie:Int)(s:ae)(h0:oz kE Ie):JF Kh [.e kE,.e Ie] s (qL kE Ie) s true:=by
 unfold oz at h0
 have h2:=h0
 show JF _ _ _ () _ _
 refine JF.ofN rfl ?_
 unfold Hs
 show JB _ [.e kE,.e Ie] _ (G5 s (if kE<Ie then
 ()
 else
 ()))
 refine MU (JT.ac (wW (aq rfl) (aq rfl))) ?_ ?_
 ·intro hq
  have h1:=h2 hq
  exact h1.elim
 ·intro hq
  exact JB.ar ⟨_,rfl⟩
def Wh:SS:=SS.ac (PL 1 (SB.own (SE.lst (fK)))) (SS.ac (SS.par 2 3 (K6 2 (ak 0) (K6 3 (SE.ac 2) (SP.nil))) (of_decide_eq_true rfl)) (SS.ac (MS fuel (ST.ac (SE.gt (ak 2) (SE.ac 1))) (kJ [] (SS.ac (jd (ST.ac (hxc (yP (ak 2) (ak 3)) (SE.ac 0))) (kJ [] (SS.ac (GS 1 (ak 3)) (MS fuel (ST.ac (hxc (yP (ak 2) (ak 3)) (SE.ac 0))) (kJ [] (iJ 2 (BS (ak 2) (ak 3))))))) (kJ [] (SS.am))) (SS.ar 3 (SE.ac 1) (λi j=>i+j))))) (K8 1 (SS.ag (ak 1)))))
def ZH:Fn:=fnOf 1 3 Wh
def Gv (st1:((List Int)×Int×Int))(st2:Int):Prop:=(st2 % st1.2.2)=(0:Int)
instance (st1:((List Int)×Int×Int)):DecidablePred (Gv st1):=λst=>by unfold Gv;infer_instance
def Kf (st1:((List Int)×Int×Int))(st2:Int):Int:=
 lt ((st2 / st1.2.2)) λEo=>
 Eo
def OG (st1:((List Int)×Int×Int))(st2:Int):Prop:=0<st1.2.2
def Oz (st1:((List Int)×Int×Int))(st2:Int):Prop:=
 (0<st1.2.2/\st1.2.2<1000000000000000000000000000000000000000000000000000000000000)
def J'  (st1:(List Int)×Int×Int):Prop:=(1:Int)<st1.2.1
instance  : DecidablePred (J' ):=λst=>by unfold J';infer_instance
def Ka  (st1:(List Int)×Int×Int):(List Int)×Int×Int:=
 lt (if (st1.2.1 % st1.2.2)=(0:Int) then
 lt (st1.1++[st1.2.2]) λfN=>
 lt (qA (Gv st1) (Kf st1) fuel st1.2.1) λp2=>
 (fN,p2)
 else
 (st1.1,st1.2.1)) λp1=>
 lt (st1.2.2+(1:Int)) λpart2=>
 (p1.1,p1.2,part2)
def ZT  (st1:(List Int)×Int×Int):Prop:=True
def Ov  (st1:(List Int)×Int×Int):Prop:=
 0<st1.2.2/\(((st1.2.1 % st1.2.2)=(0:Int))->(st1.1.length<100000/\(bT (st1.1++[st1.2.2]) λfN=>
 wL (Gv st1) (Kf st1) (OG st1) (Oz st1) fuel st1.2.1)))
def Hw (kE:Int):List Int:=
 lt (([]:List Int)) λcf=>
 lt (kE) λrQ=>
 lt ((2:Int)) λpart1=>
 lt (qA (J') (Ka) fuel (cf,rQ,part1)) λp3=>
 p3.1
def CM (kE:Int):Prop:=
 (bT (([]:List Int)) λcf=>
 (bT (kE) λrQ=>
 (bT ((2:Int)) λpart1=>
 wL (J') (Ka) (ZT) (Ov) fuel (cf,rQ,part1))))
theorem o9 (kE:Int)(s:ae)(h0:CM kE):JF ZH [.e kE] s (Hw kE) s false:=by
 unfold CM at h0
 have h11:=h0
 refine iL rfl ?_
 unfold Hw Wh
 show JB _ [.e kE,.emp,.emp,.emp] _ _
 refine bS λcf e1=>?_
 have h10:=cI h11 e1
 refine JB.ac (aH:=[.e kE,.aS (Kaj enc cf) true,.emp,.emp]) (JN.aS (X8 (JE.lst (xs:=[]) JA.nil)) e1) ?_
 refine bS λrQ e2=>?_
 have h9:=cI h10 e2
 refine bS λpart1 e3=>?_
 have h8:=cI h9 e3
 refine JB.ac (aH:=[.e kE,.aS (Kaj enc cf) true,.e rQ,.e part1]) (JN.par (JP.dat e2 (aq rfl) (JP.dat e3 (JE.ac 2) (JP.nil)))) ?_
 refine bS λp3 e9=>?_
 refine JB.ac (Tt (J:=λ(st1:(List Int)×Int×Int)=>[.e kE,.aS (Kaj enc st1.1) true,.e st1.2.1,.e st1.2.2]) (f:=(Ka)) (C:=(J')) (dc:=(ZT)) (d:=(Ov)) (st:=(cf,rQ,part1)) rfl ?_ ?_ h8 e9) ?_
 ·intro st1 hd
  exact JT.ac (JE.gt (aq rfl) (JE.ac 1))
 ·intro st1 hd
  unfold Ov at hd
  obtain⟨h1,h7⟩:=hd
  unfold Ka
  refine oQ ?_
  refine bS λp1 e4=>?_
  refine JB.ac (PY (J:=λ(p:(List Int)×Int)=>[.e kE,.aS (Kaj enc p.1) true,.e p.2,.e st1.2.2]) (JT.ac (oV (DY (aq rfl) (aq rfl) h1) (JE.ac 0))) ?_ ?_ e4) ?_
  ·intro hq
   obtain⟨h2,h6⟩:=h7 hq
   refine oQ ?_
   refine bS λfN e5=>?_
   have h5:=cI h6 e5
   refine JB.ac (aH:=[.e kE,.aS (Kaj enc fN) true,.e st1.2.1,.e st1.2.2]) (JN.aS (hjt rfl (aq rfl) h2) e5) ?_
   refine bS λp2 e7=>?_
   refine JB.am (Tt (J:=λ(st2:Int)=>[.e kE,.aS (Kaj enc fN) true,.e st2,.e st1.2.2]) (f:=(Kf st1)) (C:=(Gv st1)) (dc:=(OG st1)) (d:=(Oz st1)) (st:=st1.2.1) rfl ?_ ?_ h5 e7) ?_
   ·intro st2 hd
    unfold OG at hd
    have h3:=hd
    exact JT.ac (oV (DY (aq rfl) (aq rfl) h3) (JE.ac 0))
   ·intro st2 hd
    unfold Oz at hd
    have h4:=hd
    unfold Kf
    refine oQ ?_
    refine bS λEo e6=>?_
    refine JB.am (aH:=[.e kE,.aS (Kaj enc fN) true,.e Eo,.e st1.2.2]) (lK (IA (aq rfl) (aq rfl) h4) e6) ?_
    exact rfl
   exact rfl
  ·intro hq
   refine oQ ?_
   exact JB.ar rfl
  show JB _ [.e kE,.aS (Kaj enc p1.1) true,.e p1.2,.e st1.2.2] _ _
  refine bS λpart2 e8=>?_
  refine JB.am (aH:=[.e kE,.aS (Kaj enc p1.1) true,.e p1.2,.e part2]) (JN.QB rfl (JE.ac 1) e8) ?_
  exact rfl
 show JB _ [.e kE,.aS (Kaj enc p3.1) true,.e p3.2.1,.e p3.2.2] _ _
 refine JB.frz (i:=1) rfl ?_
 show JB _ [.e kE,.e p3.1,.e p3.2.1,.e p3.2.2] _ _
 exact JB.ag (aq rfl)
def V6:SS:=SS.ac (iJ 3 (BS (lu (ak 0)) (ak 2))) (SS.ac (jd (ST.ac (SE.ne (yP (ak 1) (ak 3)) (SE.ac 0))) (SS.ag (SE.bool false)) (SS.am)) (SS.ac (iJ 4 (tW (hxk (ak 0) (SO.at (ak 2)) (SO.no)) (mG (SI.list (hxk (ak 0) (SO.no) (SO.at (ak 2)))) (aY 5) (cN) (gZ (ak 5) (ak 1)) [5] (of_decide_eq_true rfl)))) (SS.ag (MY (mG (M4 (ak 0) (ak 4)) (SG.tup (iK (aY 5) (iK (aY 6) (jK)))) (cN) (hxc (gZ (ak 5) (BS (ak 1) (ak 3))) (ak 6)) [5,6] (of_decide_eq_true rfl))))))
def Z4:Fn:=fnOf 3 4 V6
def Rf (aI:List Int)(aF:Int)(cA:Int):Bool:=
 lt (((aI.length:Int) / cA)) λwe=>
 if (aF % we)≠(0:Int) then
 false
 else
 lt (((cut aI (some cA) none)++(Kaj (λ(x1:Int)=>(x1+aF)) (cut aI none (some cA))))) λMO=>
 (Kc5 (Kaj (λ(x2:Int×Int)=>(decide ((x2.1+(aF / we))=x2.2))) (KbF aI MO)) id)
def BD (aI:List Int)(aF:Int)(cA:Int):Prop:=
 (0<cA/\cA<1000000000000000000000000000000000000000000000000000000000000)/\(bT (((aI.length:Int) / cA)) λwe=>
 0<we/\(¬((aF % we)≠(0:Int))->((cut aI none (some cA)).length<=100000/\(cut aI (some cA) none).length+(Kaj (λ(x1:Int)=>(x1+aF)) (cut aI none (some cA))).length<=100000/\(bT (((cut aI (some cA) none)++(Kaj (λ(x1:Int)=>(x1+aF)) (cut aI none (some cA))))) λMO=>
 (∀x2∈(KbF aI MO),(0<we/\we<1000000000000000000000000000000000000000000000000000000000000))/\(KbF aI MO).length<=100000))))
theorem oZ (aI:List Int)(aF:Int)(cA:Int)(s:ae)(h0:BD aI aF cA):JF Z4 [.e aI,.e aF,.e cA] s (Rf aI aF cA) s false:=by
 unfold BD at h0
 obtain⟨h1,h10⟩:=h0
 refine iL rfl ?_
 unfold Rf V6
 show JB _ [.e aI,.e aF,.e cA,.emp,.emp,.emp,.emp] _ _
 refine bS λwe e1=>?_
 obtain⟨h2,h9⟩:=cI h10 e1
 refine JB.ac (aH:=[.e aI,.e aF,.e cA,.e we,.emp,.emp,.emp]) (lK (IA (hxa (aq rfl)) (aq rfl) h1) e1) ?_
 refine GX (JT.ac (JE.ne (DY (aq rfl) (aq rfl) h2) (JE.ac 0))) ?_ (λ_=>hxv) ?_
 ·intro hq
  exact JB.ag (sX (JE.bool false))
 intro hq
 obtain⟨h3,h4,h8⟩:=h9 hq
 refine GU ?_
 refine bS λMO e2=>?_
 obtain⟨h7,h6⟩:=cI h8 e2
 refine JB.ac (aH:=[.e aI,.e aF,.e cA,.e we,.e MO,.emp,.emp]) (lK (BY (BW (aq rfl) (JO.at (aq rfl)) (JO.no)) (BX (λ(x1:Int)=>[.e aI,.e aF,.e cA,.e we,.emp,.e x1,.emp]) (JI.list (BW (aq rfl) (JO.no) (JO.at (aq rfl)))) (λ_=>rfl) (λx1 _=>j8 (aq rfl) (aq rfl)) h3) h4) e2) ?_
 exact JB.ag (sX (JE.all (BX (λ(x2:Int×Int)=>[.e aI,.e aF,.e cA,.e we,.e MO,.e x2.1,.e x2.2]) (JI.zip (aq rfl) (aq rfl)) (λ_=>rfl) (λx2 hx=>(have h5:=h7 x2 hx;oV (j8 (aq rfl) (IA (aq rfl) (aq rfl) h5)) (aq rfl))) h6)))
def VG:SS:=SS.ac (iJ 2 (lu (ak 0))) (SS.ac (hxd (SI.list (SE.ag ZH (cK (ak 2) (dK)))) (aY 3) (kJ [3] (MS fuel (wk (ST.ac (hxc (yP (ak 2) (ak 3)) (SE.ac 0))) (ST.ac (SE.ag Z4 (cK (ak 0) (cK (ak 1) (cK (BS (ak 2) (ak 3)) (dK))))))) (kJ [] (iJ 2 (BS (ak 2) (ak 3))))))) (SS.ag (ak 2)))
def Zs:Fn:=fnOf 2 2 VG
def Gu (aI:List Int)(aF:Int)(x1:Int)(st2:Int):Prop:=((st2 % x1)=(0:Int))/\((Rf aI aF (st2 / x1))=true)
instance (aI:List Int)(aF:Int)(x1:Int):DecidablePred (Gu aI aF x1):=λst=>by unfold Gu;infer_instance
def J0 (aI:List Int)(aF:Int)(x1:Int)(st2:Int):Int:=
 lt ((st2 / x1)) λgqn=>
 gqn
def OE (aI:List Int)(aF:Int)(x1:Int)(st2:Int):Prop:=0<x1/\(((st2 % x1)=(0:Int))->((0<x1/\x1<1000000000000000000000000000000000000000000000000000000000000)/\BD aI aF (st2 / x1)))
def Ox (aI:List Int)(aF:Int)(x1:Int)(st2:Int):Prop:=
 (0<x1/\x1<1000000000000000000000000000000000000000000000000000000000000)
def Mf (aI:List Int)(aF:Int)(st1:Int)(x1:Int):Int:=
 lt (qA (Gu aI aF x1) (J0 aI aF x1) fuel st1) λp1=>
 p1
def VM (aI:List Int)(aF:Int)(st1:Int)(x1:Int):Prop:=
 wL (Gu aI aF x1) (J0 aI aF x1) (OE aI aF x1) (Ox aI aF x1) fuel st1
def OU (aI:List Int)(aF:Int):Int:=
 lt ((aI.length:Int)) λcA=>
 lt (Ka2 (Mf aI aF) cA (Hw cA)) λp2=>
 p2
def Cj (aI:List Int)(aF:Int):Prop:=
 (bT ((aI.length:Int)) λcA=>
 CM cA/\fg (Mf aI aF) (VM aI aF) (Hw cA) cA)
theorem nv (aI:List Int)(aF:Int)(s:ae)(h0:Cj aI aF):JF Zs [.e aI,.e aF] s (OU aI aF) s false:=by
 unfold Cj at h0
 have h9:=h0
 refine iL rfl ?_
 unfold OU VG
 show JB _ [.e aI,.e aF,.emp,.emp] _ _
 refine bS λcA e1=>?_
 obtain⟨h1,h8⟩:=cI h9 e1
 refine JB.ac (aH:=[.e aI,.e aF,.e cA,.emp]) (lK (hxa (aq rfl)) e1) ?_
 refine bS λp2 e4=>?_
 refine JB.ac (Th (J:=λ(st1:Int)=>[.e aI,.e aF,.e st1,.emp]) (R:=λ(st1:Int) (x1:Int)=>[.e aI,.e aF,.e st1,.e x1]) (f:=(Mf aI aF)) (d:=(VM aI aF)) (st:=cA) (JI.list (JE.ag (aK (aq rfl) (bK)) (o9 cA _ h1))) rfl (λ_ _=>rfl) ?_ h8 e4) ?_
 ·intro st1 x1 hd
  unfold VM at hd
  have h7:=hd
  unfold Mf
  refine oQ ?_
  refine bS λp1 e3=>?_
  refine JB.am (Tt (J:=λ(st2:Int)=>[.e aI,.e aF,.e st2,.e x1]) (f:=(J0 aI aF x1)) (C:=(Gu aI aF x1)) (dc:=(OE aI aF x1)) (d:=(Ox aI aF x1)) (st:=st1) rfl ?_ ?_ h7 e3) ?_
  ·intro st2 hd
   unfold OE at hd
   obtain⟨h2,h5⟩:=hd
   exact hjl (JT.ac (oV (DY (aq rfl) (aq rfl) h2) (JE.ac 0))) (λhq=>(match h5 hq with|⟨h3,h4⟩=>JT.ac (tZ (JE.ag (aK (aq rfl) (aK (aq rfl) (aK (IA (aq rfl) (aq rfl) h3) (bK)))) (oZ aI aF (st2 / x1) _ h4)))))
  ·intro st2 hd
   unfold Ox at hd
   have h6:=hd
   unfold J0
   refine oQ ?_
   refine bS λgqn e2=>?_
   refine JB.am (aH:=[.e aI,.e aF,.e gqn,.e x1]) (lK (IA (aq rfl) (aq rfl) h6) e2) ?_
   exact rfl
  exact rfl
 show JB _ [.e aI,.e aF,.e p2,.emp] _ _
 exact JB.ag (aq rfl)
def Rw:SS:=SS.ac (hxb (SG.tup (iK (aY 1) (iK (aY 2) (iK (aY 3) (jK))))) (ak 0)) (SS.ac (iJ 4 (SE.ag Zs (cK (ak 2) (cK (ak 3) (dK))))) (SS.ac (SS.set 5 (BS (GV (ak 3) (ak 4)) (lu (ak 2)))) (SS.ac (SS.par 6 7 (K6 6 (tW (ak 1) (hxk (ak 2) (SO.no) (SO.at (ak 4)))) (K6 7 (lu (ak 1)) (SP.nil))) (of_decide_eq_true rfl)) (SS.ac (MS fuel (wk (ST.ac (SE.gt (ak 7) (SE.ac 0))) (ST.ac (hxc (gZ (jh (ak 6) (uO (ak 7) (SE.ac 1))) (ak 5)) (jh (ak 6) (gZ (uO (ak 7) (SE.ac 1)) (ak 4)))))) (kJ [] (SS.ar 7 (SE.ac 1) (λi j=>i-j)))) (X4 (RE.tup (RA.cons (RE.e (hxk (ak 6) (SO.no) (SO.at (ak 7)))) (RA.cons (RE.e (hxk (ak 6) (SO.at (ak 7)) (SO.at (gZ (ak 7) (ak 4))))) (RA.cons (RE.e (ak 5)) (RA.nil))))))))))
def Wl:Fn:=fnOf 1 7 Rw
def Kc (cA:Int)(ck:Int)(dj:List Int)(st1:Int):Prop:=((0:Int)<st1)/\(((au dj (st1-(1:Int)))+ck)=(au dj ((st1-(1:Int))+cA)))
instance (cA:Int)(ck:Int)(dj:List Int):DecidablePred (Kc cA ck dj):=λst=>by unfold Kc;infer_instance
def OT (cA:Int)(ck:Int)(dj:List Int)(st1:Int):Int:=
 lt (st1-(1:Int)) λgxu=>
 gxu
def Rb (cA:Int)(ck:Int)(dj:List Int)(st1:Int):Prop:=(((0:Int)<st1)->((-(dj.length:Int)<=(st1-(1:Int))/\(st1-(1:Int))<(dj.length:Int))/\(-(dj.length:Int)<=((st1-(1:Int))+cA)/\((st1-(1:Int))+cA)<(dj.length:Int))))
def VY (cA:Int)(ck:Int)(dj:List Int)(st1:Int):Prop:=
 True
def iG (aU:lg):lg:=
 lt ((OU aU.y aU.z)) λcA=>
 lt (((aU.z*cA) / (aU.y.length:Int))) λck=>
 lt ((aU.x++(cut aU.y none (some cA)))) λdj=>
 lt ((aU.x.length:Int)) λPB=>
 lt (qA (Kc cA ck dj) (OT cA ck dj) fuel PB) λp2=>
 (T3.mk (cut dj none (some p2)) (cut dj (some p2) (some (p2+cA))) ck)
def wD (aU:lg):Prop:=
 Cj aU.y aU.z/\(bT ((OU aU.y aU.z)) λcA=>
 (Ka5 aU.z<18446744073709551616∨Ka5 cA<18446744073709551616)/\(0<(aU.y.length:Int)/\(aU.y.length:Int)<1000000000000000000000000000000000000000000000000000000000000)/\(bT (((aU.z*cA) / (aU.y.length:Int))) λck=>
 aU.x.length+(cut aU.y none (some cA)).length<=100000/\(bT ((aU.x++(cut aU.y none (some cA)))) λdj=>
 (bT ((aU.x.length:Int)) λPB=>
 wL (Kc cA ck dj) (OT cA ck dj) (Rb cA ck dj) (VY cA ck dj) fuel PB))))
theorem kN (aU:lg)(s:ae)(h0:wD aU):JF Wl [.e aU] s (iG aU) s true:=by
 unfold wD at h0
 obtain⟨h1,h12⟩:=h0
 refine iL rfl ?_
 unfold iG Rw
 show JB _ [.e aU,.emp,.emp,.emp,.emp,.emp,.emp,.emp] _ _
 refine JB.ac (aH:=[.e aU,.e aU.x,.e aU.y,.e aU.z,.emp,.emp,.emp,.emp]) (wX (aq rfl) rfl) ?_
 refine bS λcA e2=>?_
 obtain⟨h2,h3,h11⟩:=cI h12 e2
 refine JB.ac (aH:=[.e aU,.e aU.x,.e aU.y,.e aU.z,.e cA,.emp,.emp,.emp]) (lK (JE.ag (aK (aq rfl) (aK (aq rfl) (bK))) (nv aU.y aU.z _ h1)) e2) ?_
 refine bS λck e3=>?_
 obtain⟨h4,h10⟩:=cI h11 e3
 refine JB.ac (aH:=[.e aU,.e aU.x,.e aU.y,.e aU.z,.e cA,.own (enc ck),.emp,.emp]) (JN.UR (IA (P0 (aq rfl) (aq rfl) h2) (hxa (aq rfl)) h3) e3) ?_
 refine bS λdj e4=>?_
 have h9:=cI h10 e4
 refine bS λPB e5=>?_
 have h8:=cI h9 e5
 refine JB.ac (aH:=[.e aU,.e aU.x,.e aU.y,.e aU.z,.e cA,.own (enc ck),.e dj,.e PB]) (JN.par (JP.dat e4 (BY (aq rfl) (BW (aq rfl) (JO.no) (JO.at (aq rfl))) h4) (JP.dat e5 (hxa (aq rfl)) (JP.nil)))) ?_
 refine bS λp2 e7=>?_
 refine JB.ac (Tt (J:=λ(st1:Int)=>[.e aU,.e aU.x,.e aU.y,.e aU.z,.e cA,.own (enc ck),.e dj,.e st1]) (f:=(OT cA ck dj)) (C:=(Kc cA ck dj)) (dc:=(Rb cA ck dj)) (d:=(VY cA ck dj)) (st:=PB) rfl ?_ ?_ h8 e7) ?_
 ·intro st1 hd
  unfold Rb at hd
  have h7:=hd
  exact hjl (JT.ac (JE.gt (aq rfl) (JE.ac 0))) (λhq=>(match h7 hq with|⟨h5,h6⟩=>JT.ac (oV (j8 (rK (aq rfl) (AO (aq rfl) (JE.ac 1)) h5) (JE.U5 rfl)) (rK (aq rfl) (j8 (AO (aq rfl) (JE.ac 1)) (aq rfl)) h6))))
 ·intro st1 hd
  unfold OT
  refine oQ ?_
  refine bS λgxu e6=>?_
  refine JB.am (aH:=[.e aU,.e aU.x,.e aU.y,.e aU.z,.e cA,.own (enc ck),.e dj,.e gxu]) (JN.QB rfl (JE.ac 1) e6) ?_
  exact rfl
 show JB _ [.e aU,.e aU.x,.e aU.y,.e aU.z,.e cA,.own (enc ck),.e dj,.e p2] _ _
 exact JB.UD (qO.N7 (qm.cons (qO.se (BW (aq rfl) (JO.no) (JO.at (aq rfl)))) (qm.cons (qO.se (BW (aq rfl) (JO.at (aq rfl)) (JO.at (j8 (aq rfl) (aq rfl))))) (qm.uz (qO.se (JE.U5 rfl)) (qm.nil)))))
def Wf:SS:=SS.ac (hxb (SG.tup (iK (aY 1) (iK (aY 2) (jK)))) (ak 0)) (SS.ag (SE.slO (SE.ag Wl (cK (SE.tup (eK (ak 1) (eK (ak 2) (eK (SE.ac 0) (fK))))) (dK))) (SO.no) (SO.at (SE.ac 2))))
def ejq:Fn:=fnOf 1 2 Wf
def GB (aT:cU):cU:=
 ((iG (T3.mk aT.1 aT.2 (0:Int))).x,(iG (T3.mk aT.1 aT.2 (0:Int))).y)
def yh (aT:cU):Prop:=
 wD (T3.mk aT.1 aT.2 (0:Int))
theorem tw (aT:cU)(s:ae)(h0:yh aT):JF ejq [.e aT] s (GB aT) s true:=by
 unfold yh at h0
 have h1:=h0
 refine iL rfl ?_
 unfold GB Wf
 show JB _ [.e aT,.emp,.emp] _ _
 refine JB.ac (aH:=[.e aT,.e aT.1,.e aT.2]) (wX (aq rfl) rfl) ?_
 exact JB.ag (JE.NW (JE.ag (aK (ID (BU (aq rfl) (BU (aq rfl) (gK (JE.ac 0) (JA.nil))))) (bK)) (kN (T3.mk aT.1 aT.2 (0:Int)) _ h1)))
def WG:SS:=SS.ac (hxb (SG.tup (iK (aY 1) (iK (aY 2) (iK (aY 3) (iK (aY 4) (jK)))))) (ak 0)) (SS.ac (Tu 5 6 (SP.dc 5 (SI.list (ak 1)) (aY 7) (cN) (ak 7) (SE.bool true) [7] (of_decide_eq_true rfl) (SP.dc 6 (SI.list (ak 4)) (aY 8) (cN) (ak 8) (SE.bool true) [8] (of_decide_eq_true rfl) (SP.nil))) (of_decide_eq_true rfl)) (SS.ag (SE.tup (eK (mG (D7 (ak 2)) (aY 7) (cN) (yS (P5 5 (ak 7))) [7] (of_decide_eq_true rfl)) (eK (mG (D7 (ak 3)) (aY 8) (cN) (yS (P5 6 (ak 8))) [8] (of_decide_eq_true rfl)) (fK))))))
def fxu:Fn:=fnOf 1 8 WG
def tU (ao:qy):cU:=
 lt (Kck (Kaj (λ(x1:Int)=>(x1,true)) ao.x)) λaW=>
 lt (Kck (Kaj (λ(x2:Int)=>(x2,true)) ao.u)) λPo=>
 ((Kaj (λ(x3:Int)=>(b2i (decide (Kcc (wM aW x3)=true)))) (rng 0 ao.y)),(Kaj (λ(x4:Int)=>(b2i (decide (Kcc (wM Po x4)=true)))) (rng 0 ao.z)))
def As (ao:qy):Prop:=
 ao.x.length<=100000/\(bT (Kck (Kaj (λ(x1:Int)=>(x1,true)) ao.x)) λaW=>
 ao.u.length<=100000/\(bT (Kck (Kaj (λ(x2:Int)=>(x2,true)) ao.u)) λPo=>
 (-1000000<=ao.y/\ao.y<=1000000)/\(rng 0 ao.y).length<=100000/\(-1000000<=ao.z/\ao.z<=1000000)/\(rng 0 ao.z).length<=100000))
theorem wZ (ao:qy)(s:ae)(h0:As ao):JF fxu [.e ao] s (tU ao) s true:=by
 unfold As at h0
 obtain⟨h1,h8⟩:=h0
 refine iL rfl ?_
 unfold tU WG
 show JB _ [.e ao,.emp,.emp,.emp,.emp,.emp,.emp,.emp,.emp] _ _
 refine JB.ac (aH:=[.e ao,.e ao.x,.e ao.y,.e ao.z,.e ao.u,.emp,.emp,.emp,.emp]) (wX (aq rfl) rfl) ?_
 refine bS λaW e2=>?_
 obtain⟨h2,h7⟩:=cI h8 e2
 refine bS λPo e3=>?_
 obtain⟨h3,h4,h5,h6⟩:=cI h7 e3
 refine JB.ac (aH:=[.e ao,.e ao.x,.e ao.y,.e ao.z,.e ao.u,.gI (fc aW),.gI (fc Po),.emp,.emp]) (JN.LU (JP.dc e2 (λ(x1:Int)=>[.e ao,.e ao.x,.e ao.y,.e ao.z,.e ao.u,.emp,.emp,.e x1,.emp]) (JI.list (aq rfl)) (λ_=>rfl) (λ_ _=>aq rfl) (λ_ _=>JE.bool true) h1 (JP.dc e3 (λ(x2:Int)=>[.e ao,.e ao.x,.e ao.y,.e ao.z,.e ao.u,.emp,.emp,.emp,.e x2]) (JI.list (aq rfl)) (λ_=>rfl) (λ_ _=>aq rfl) (λ_ _=>JE.bool true) h2 (JP.nil)))) ?_
 exact JB.ag (PV (JA.cons (BX (λ(x3:Int)=>[.e ao,.e ao.x,.e ao.y,.e ao.z,.e ao.u,.gI (fc aW),.gI (fc Po),.e x3,.emp]) (MZ (aq rfl) h3) (λ_=>rfl) (λx3 _=>JE.FI (JE.din rfl (aq rfl))) h4) (JA.cons (BX (λ(x4:Int)=>[.e ao,.e ao.x,.e ao.y,.e ao.z,.e ao.u,.gI (fc aW),.gI (fc Po),.emp,.e x4]) (MZ (aq rfl) h5) (λ_=>rfl) (λx4 _=>JE.FI (JE.din rfl (aq rfl))) h6) (JA.nil))))
def WO:SS:=SS.ac (hxb (SG.tup (iK (aY 1) (iK (aY 2) (jK)))) (SE.ag ejq (cK (ak 0) (dK)))) (SS.ac (SS.set 3 (mG (IC (ak 1)) (SG.tup (iK (aY 4) (iK (aY 5) (jK)))) (ST.ac (hxc (ak 5) (SE.ac 1))) (ak 4) [4,5] (of_decide_eq_true rfl))) (X4 (RE.tup (RA.cons (RE.mv 3) (RA.cons (RE.e (lu (ak 1))) (RA.cons (RE.e (lu (ak 2))) (RA.cons (RE.e (mG (IC (ak 2)) (SG.tup (iK (aY 6) (iK (aY 5) (jK)))) (ST.ac (hxc (ak 5) (SE.ac 1))) (ak 6) [6,5] (of_decide_eq_true rfl))) (RA.nil))))))))
def fxc:Fn:=fnOf 1 6 WO
def GC (aT:cU):qy:=
 lt ((GB aT)) λp1=>
 lt ((Kaj (λ(x1:Int×Int)=>x1.1) (Kbx (λ(x1:Int×Int)=>decide (x1.2=(1:Int))) (aX 0 p1.1)))) λSo=>
 (T4.mk So (p1.1.length:Int) (p1.2.length:Int) (Kaj (λ(x2:Int×Int)=>x2.1) (Kbx (λ(x2:Int×Int)=>decide (x2.2=(1:Int))) (aX 0 p1.2))))
def BG (aT:cU):Prop:=
 yh aT/\(bT ((GB aT)) λp1=>
 (aX 0 p1.1).length<=100000/\(bT ((Kaj (λ(x1:Int×Int)=>x1.1) (Kbx (λ(x1:Int×Int)=>decide (x1.2=(1:Int))) (aX 0 p1.1)))) λSo=>
 (aX 0 p1.2).length<=100000))
theorem uW (aT:cU)(s:ae)(h0:BG aT):JF fxc [.e aT] s (GC aT) s true:=by
 unfold BG at h0
 obtain⟨h1,h5⟩:=h0
 refine iL rfl ?_
 unfold GC WO
 show JB _ [.e aT,.emp,.emp,.emp,.emp,.emp,.emp] _ _
 refine bS λp1 e1=>?_
 obtain⟨h2,h4⟩:=cI h5 e1
 refine JB.ac (aH:=[.e aT,.e p1.1,.e p1.2,.emp,.emp,.emp,.emp]) (wX (Iv (JE.ag (aK (aq rfl) (bK)) (tw aT _ h1)) e1.symm) rfl) ?_
 refine bS λSo e2=>?_
 have h3:=cI h4 e2
 refine JB.ac (aH:=[.e aT,.e p1.1,.e p1.2,.own (enc So),.emp,.emp,.emp]) (JN.UR (JE.TX (λ(x1:Int×Int)=>[.e aT,.e p1.1,.e p1.2,.emp,.e x1.1,.e x1.2,.emp]) (M3 (aq rfl)) (λ_=>rfl) (λx1 _=>JT.ac (oV (aq rfl) (JE.ac 1))) (λx1 _ _=>aq rfl) (za h2)) e2) ?_
 exact JB.UD (qO.N8 (qm.cons (qO.mvO rfl) (qm.uz (qO.se (hxa (aq rfl))) (qm.uz (qO.se (hxa (aq rfl))) (qm.cons (qO.se (JE.TX (λ(x2:Int×Int)=>[.e aT,.e p1.1,.e p1.2,.e So,.emp,.e x2.2,.e x2.1]) (M3 (aq rfl)) (λ_=>rfl) (λx2 _=>JT.ac (oV (aq rfl) (JE.ac 1))) (λx2 _ _=>aq rfl) (za h3))) (qm.nil))))))
def Wq:SS:=SS.ac (GY (SE.ag fqb (cK (ak 0) (dK)))) (SS.ag (SE.ag fxc (cK (SE.ag fxu (cK (ak 0) (dK))) (dK))))
def ejp:Fn:=fnOf 1 0 Wq
def Ry (ao:qy):qy:=
 (GC (tU ao))
def CJ (ao:qy):Prop:=
 Ai ao/\As ao/\BG (tU ao)
theorem tD (ao:qy)(s:ae)(h0:CJ ao):JF ejp [.e ao] s (Ry ao) s true:=by
 unfold CJ at h0
 obtain⟨h1,h2,h3⟩:=h0
 refine iL rfl ?_
 unfold Ry Wq
 show JB _ [.e ao] _ _
 refine JB.ac (aH:=[.e ao]) (K2 (JE.ag (aK (aq rfl) (bK)) (uV ao _ h1))) ?_
 exact JB.ag (JE.ag (aK (JE.ag (aK (aq rfl) (bK)) (wZ ao _ h2)) (bK)) (uW (tU ao) _ h3))
def OC  (st1:Int×Int):Prop:=(0:Int)<st1.2
instance  : DecidablePred (OC ):=λst=>by unfold OC;infer_instance
def Vw  (st1:Int×Int):Int×Int:=
 lt (st1.2) λUq=>
 lt ((st1.1 % st1.2)) λNy=>
 (Uq,Ny)
def eU  (st1:Int×Int):Prop:=True
def eR  (st1:Int×Int):Prop:=
 (bT (st1.2) λUq=>
 0<st1.2)
def VU (a_:Int)(lC:Int):Int:=
 lt (qA (OC) (Vw) fuel (a_,lC)) λp1=>
 p1.1
def gG (a_:Int)(lC:Int):Prop:=
 wL (OC) (Vw) (eU) (eR) fuel (a_,lC)
def OM (a_:Int)(lC:Int):Int:=
 ((a_*lC) / (VU a_ lC))
def QG (a_:Int)(lC:Int):Prop:=
 (Ka5 a_<18446744073709551616∨Ka5 lC<18446744073709551616)/\gG a_ lC/\(0<(VU a_ lC)/\(VU a_ lC)<1000000000000000000000000000000000000000000000000000000000000)
def Wc:SS:=SS.ag (MY (mG (M4 (ak 0) (hxk (ak 0) (SO.at (SE.ac 1)) (SO.no))) (SG.tup (iK (aY 1) (iK (aY 2) (jK)))) (cN) (SE.le (ak 1) (ak 2)) [1,2] (of_decide_eq_true rfl)))
def Zu:Fn:=fnOf 1 2 Wc
def QZ (dj:List Int):Bool:=
 (Kc5 (Kaj (λ(x1:Int×Int)=>(decide (x1.1<=x1.2))) (KbF dj (cut dj (some (1:Int)) none))) id)
def Cq (dj:List Int):Prop:=
 (KbF dj (cut dj (some (1:Int)) none)).length<=100000
theorem o8 (dj:List Int)(s:ae)(h0:Cq dj):JF Zu [.e dj] s (QZ dj) s false:=by
 unfold Cq at h0
 have h1:=h0
 refine iL rfl ?_
 unfold QZ Wc
 show JB _ [.e dj,.emp,.emp] _ _
 exact JB.ag (sX (JE.all (BX (λ(x1:Int×Int)=>[.e dj,.e x1.1,.e x1.2]) (JI.zip (aq rfl) (BW (aq rfl) (JO.at (JE.ac 1)) (JO.no))) (λ_=>rfl) (λx1 _=>JE.le (aq rfl) (aq rfl)) h1)))
def VT:SS:=SS.ac (hxb (SG.tup (iK (aY 1) (iK (aY 2) (iK (aY 3) (jK))))) (ak 0)) (SS.ac (jd (G1 (ST.ac (hxc (ak 2) (SE.lst (fK)))) (ST.ac (tX (ak 3) (SE.ac 0)))) (SS.ag (SE.bool false)) (SS.am)) (SS.ag (SE.ag Zu (cK (tW (tW (tW (SE.lst (eK (SE.ac 0) (fK))) (ak 1)) (ak 2)) (SE.lst (eK (gZ (jh (ak 2) (SE.ac 0)) (ak 3)) (fK)))) (dK)))))
def YZ:Fn:=fnOf 1 3 VT
def LY (aU:lg):Bool:=
 if (aU.y=([]:List Int))∨(aU.z<(0:Int)) then
 false
 else
 (QZ ((([(0:Int)]++aU.x)++aU.y)++[((au aU.y (0:Int))+aU.z)]))
def Gp (aU:lg):Prop:=
 (¬((aU.y=([]:List Int))∨(aU.z<(0:Int)))->([(0:Int)].length+aU.x.length<=100000/\([(0:Int)]++aU.x).length+aU.y.length<=100000/\(-(aU.y.length:Int)<=(0:Int)/\(0:Int)<(aU.y.length:Int))/\(([(0:Int)]++aU.x)++aU.y).length+[((au aU.y (0:Int))+aU.z)].length<=100000/\Cq ((([(0:Int)]++aU.x)++aU.y)++[((au aU.y (0:Int))+aU.z)])))
theorem jC (aU:lg)(s:ae)(h0:Gp aU):JF YZ [.e aU] s (LY aU) s false:=by
 unfold Gp at h0
 have h6:=h0
 refine iL rfl ?_
 unfold LY VT
 show JB _ [.e aU,.emp,.emp,.emp] _ _
 refine JB.ac (aH:=[.e aU,.e aU.x,.e aU.y,.e aU.z]) (wX (aq rfl) rfl) ?_
 refine GX (JT.or (JT.ac (oV (α:=List Int) (aq rfl) (JE.lst (xs:=[]) JA.nil))) (λ_=>JT.ac (wW (aq rfl) (JE.ac 0)))) ?_ (λ_=>hxv) ?_
 ·intro hq
  exact JB.ag (sX (JE.bool false))
 intro hq
 obtain⟨h1,h2,h3,h4,h5⟩:=h6 hq
 refine GU ?_
 exact JB.ag (JE.ag (aK (BY (BY (BY (JE.lst (xs:=[(0:Int)]) (gK (JE.ac 0) (JA.nil)) (by show 1<=100000;decide)) (aq rfl) h1) (aq rfl) h2) (JE.lst (xs:=[((au aU.y (0:Int))+aU.z)]) (gK (j8 (rK (aq rfl) (JE.ac 0) h3) (aq rfl)) (JA.nil)) (by show 1<=100000;decide)) h4) (bK)) (o8 ((([(0:Int)]++aU.x)++aU.y)++[((au aU.y (0:Int))+aU.z)]) _ h5))
def We:SS:=jd (K3 (ST.ac (SE.ag YZ (cK (ak 0) (dK))))) (Iz) (SS.am)
def ZQ:Fn:=fnOf 1 0 We
def qK (aU:lg):Unit:=
 if ¬((LY aU)=true) then
 ()
 else
 ()
def CI (aU:lg):Prop:=
 Gp aU/\((¬((LY aU)=true))->False)
theorem o7 (aU:lg)(s:ae)(h0:CI aU):JF ZQ [.e aU] s (qK aU) s true:=by
 unfold CI at h0
 obtain⟨h1,h3⟩:=h0
 show JF _ _ _ () _ _
 refine JF.ofN rfl ?_
 unfold We
 show JB _ [.e aU] _ (G5 s (if ¬((LY aU)=true) then
 ()
 else
 ()))
 refine MU (P6 (JT.ac (tZ (JE.ag (aK (aq rfl) (bK)) (jC aU _ h1))))) ?_ ?_
 ·intro hq
  have h2:=h3 hq
  exact h2.elim
 ·intro hq
  exact JB.ar ⟨_,rfl⟩
def Zb (aU:lg)(aR:Int):Int:=
 if aR<(aU.x.length:Int) then
 (au aU.x aR)
 else
 lt (((aR-(aU.x.length:Int)) / (aU.y.length:Int),(aR-(aU.x.length:Int)) % (aU.y.length:Int))) λp2=>
 ((au aU.y p2.2)+(aU.z*p2.1))
def fC (aU:lg)(aR:Int):Prop:=
 ((aR<(aU.x.length:Int))->(-(aU.x.length:Int)<=aR/\aR<(aU.x.length:Int)))/\(¬(aR<(aU.x.length:Int))->((0<(aU.y.length:Int)/\(aU.y.length:Int)<1000000000000000000000000000000000000000000000000000000000000)/\(bT (((aR-(aU.x.length:Int)) / (aU.y.length:Int),(aR-(aU.x.length:Int)) % (aU.y.length:Int))) λp2=>
 (-(aU.y.length:Int)<=p2.2/\p2.2<(aU.y.length:Int))/\(Ka5 aU.z<18446744073709551616∨Ka5 p2.1<18446744073709551616))))
def VH:SS:=SS.ac (GY (SE.ag ZQ (cK (ak 0) (dK)))) (SS.ag (SE.ag Wl (cK (ak 0) (dK))))
def Zt:Fn:=fnOf 1 0 VH
def Rj (aU:lg):lg:=
 (iG aU)
def BC (aU:lg):Prop:=
 CI aU/\wD aU
theorem nu (aU:lg)(s:ae)(h0:BC aU):JF Zt [.e aU] s (Rj aU) s true:=by
 unfold BC at h0
 obtain⟨h1,h2⟩:=h0
 refine iL rfl ?_
 unfold Rj VH
 show JB _ [.e aU] _ _
 refine JB.ac (aH:=[.e aU]) (K2 (JE.ag (aK (aq rfl) (bK)) (o7 aU _ h1))) ?_
 exact JB.ag (JE.ag (aK (aq rfl) (bK)) (kN aU _ h2))
end Pu
namespace Pu
open PySem PySem.Spec PyProof.Rows L2 Enc
end Pu
namespace L2
open PySem PySem.Spec PyProof.Rows
end L2
namespace Pu
open PySem PySem.Spec PyProof.Rows L2
end Pu
namespace Pu
open PySem PySem.Spec PyProof.Rows L2 Enc
end Pu
namespace Pu
open PySem L2 Enc
end Pu
namespace Pu
open PySem PySem.Spec PyProof.Rows L2
end Pu
namespace Pu
variable [aO]
open PySem PySem.Spec PyProof.Rows L2 Enc
structure xT (i:Nat)(b:SS):Prop where
 only:∀{ρ:List Slot} {s:ae} {o:Out},b.ev ρ s=some o->∃ρ' s',o=.nx ρ' s'
 ok:∀(K:Frag) {sk:Option Addr} {F0 H0 F H:Hp} {σ:L2.St} {ρ ρ':List Slot} {aj:List (List Addr)} {s s':ae} {D:Ends},Wd sk F0 H0 F H σ ρ aj s->b.ev ρ s=some (.nx ρ' s') ->
  (∀F' H' σ' az,Same F F'->σ'[i]? = σ[i]?->Wd sk F0 H0 F' H' σ' ρ' az s'->D.nx σ' H')->b.t K D σ H
theorem xT.of {i:Nat}{b:SS}(only:∀{ρ:List Slot} {s:ae} {o:Out},b.ev ρ s=some o->∃ρ' s',o=.nx ρ' s')(h:∀(K:Frag) (D:Ends) (σ:L2.St) (H:Hp),b.t K { D with nx:=λσ' H'=>σ'[i]? = σ[i]?->D.nx σ' H' } σ H->b.t K D σ H):xT i b:=
 ⟨only,λK {sk F0 H0 F H σ ρ ρ' aj s s' D} w he q=>h K D σ H (b.ok K w he (show l6 _ sk F0 H0 F (.nx ρ' s') fromλF' H' σ' az e w' g=>q F' H' σ' az e g w'))⟩
theorem xT.next {i:Nat}:xT i SS.am:=⟨λh=>by cases h;exact⟨_,_,rfl⟩,λK {sk F0 H0 F H σ ρ ρ' aj s s' D} w he q=>by
 cases he
 exact q F H σ aj (Same.refl _) rfl w⟩
theorem xT.seq {i:Nat}{a b:SS}(ha:xT i a)(hb:xT i b):xT i (SS.ac a b):=by
 refine⟨λ{ρ s o} h=>?_,λK {sk F0 H0 F H σ ρ ρ' aj s s' D} w he q=>?_⟩
 ·obtain⟨o1,h1,h2⟩:=aL h
  obtain⟨aH,s1,rfl⟩:=ha.only h1
  exact hb.only h2
 ·obtain⟨o1,h1,h2⟩:=aL he
  obtain⟨aH,s1,rfl⟩:=ha.only h1
  exact ha.ok K w h1 λF1 H1 σ1 jZ e1 g1 w1=>hb.ok K w1 h2 λF2 H2 σ2 dN e2 g2 w2=>q F2 H2 σ2 dN (e1.trans e2) (g2.trans g1) w2
theorem Cu {te:TE}{i j:Nat}(hj:j≠i){D:Ends}{σ:L2.St}{H:Hp}(h:tAsg te (gName j) { D with nx:=λσ' H'=>σ'[i]? = σ[i]?->D.nx σ' H' } σ H):tAsg te (gName j) D σ H:=by
 have E:(λ(x:V) (H1:Hp)=>((σ.set j (some x))[i]? = σ[i]?->D.nx (σ.set j (some x)) H1))=λx H1=>D.nx (σ.set j (some x)) H1:=funext λx=>funext λH1=>propext ⟨λh=>h (KaT hj),λh _=>h⟩
 have h:te σ H (λ(x:V) (H1:Hp)=>((σ.set j (some x))[i]? = σ[i]?->D.nx (σ.set j (some x)) H1)):=h
 rw [E] at h
 exact h
theorem xT.append {i j:Nat}{e:SE}:xT i (GS j e):=xT.of (λ{ρ s o} h=>by
 unfold GS at h
 dsimp only at h
 split at h
 ·obtain⟨x,_,h2⟩:=aL h
  split at h2
  ·cases h2;exact⟨_,_,rfl⟩
  ·cases h2
 ·cases h) λK D σ H h=>by
 have E:(λ(_:V) (H1:Hp)=>(σ[i]? = σ[i]?->D.nx σ H1))=λ_ H1=>D.nx σ H1:=funext λx=>funext λH1=>propext ⟨λh=>h rfl,λh _=>h⟩
 have h:(tBM K "list" rAppend (tVar j) (tCons (e.t K) tNil)) σ H (λ(_:V) (H1:Hp)=>(σ[i]? = σ[i]?->D.nx σ H1)):=h
 rw [E] at h
 exact h
end Pu
namespace Pu
open PySem PySem.Spec PyProof.Rows L2 Enc
variable [aO]
structure Ti where
 l:List Int
deriving DecidableEq
instance:Inhabited Ti:=⟨⟨[]⟩⟩
instance:Enc Ti:=⟨λt=>.tuple (t.l.map .int)⟩
abbrev Lk:=T3 Ti Ti Int
theorem pJ:∀ns:List Int,vd (ns.map .int)=some ns
 |[]=>rfl
 |n::ns=>by
  rw [Kal]
  unfold vd
  rw [pJ ns];rfl
theorem W2:∀{xs ys:List Int},xs.map NestedKey.num=ys.map NestedKey.num->xs=ys
 |[],[],_=>rfl
 |[],_::_,h=>by cases h
 |_::_,[],h=>by cases h
 |x::xs,y::ys,h=>by
  rw [Kal,Kal] at h
  injection h with h1 h2
  injection h1 with h1
  rw [h1,W2 h2]
instance:wz Lk:=⟨λt=>.tup [.tup (t.x.l.map .num),.tup (t.y.l.map .num),.num t.z],λt=>by
 show (fY [.tuple (t.x.l.map .int),.tuple (t.y.l.map .int),.int t.z]).map NestedKey.tup=_
 unfold fY fY fY fY TQ
 simp only [pJ,EK]
 rfl,λx y h=>by
 obtain⟨x1,x2,x3⟩:=x
 obtain⟨y1,y2,y3⟩:=y
 injection h with h
 injection h with h1 h
 injection h with h2 h
 injection h with h3 h
 injection h1 with h1
 injection h2 with h2
 injection h3 with h3
 obtain⟨l1⟩:=x1
 obtain⟨l2⟩:=y1
 obtain⟨l3⟩:=x2
 obtain⟨l4⟩:=y2
 have e1:l1=l2:=W2 h1
 have e2:l3=l4:=W2 h2
 subst e1 e2
 have e3:x3=y3:=h3
 rw [e3]⟩
end Pu
namespace Pu
variable [aO]
open PySem PySem.Spec PyProof.Rows L2 Enc
theorem xT.set {i j:Nat}{e:SE}(hj:j≠i):xT i (SS.set j e):=xT.of (λh=>by
 obtain⟨x,_,h2⟩:=aL h
 cases h2;exact⟨_,_,rfl⟩) λK D σ H h=>Cu hj h
end Pu
namespace Pu
open PySem PySem.Spec PyProof.Rows L2 Enc
variable [aO]
instance:bR Ti where
 dec:=inferInstance
 dep:=1
 lay:=λx=>by
  show PyData.canLay0 (.tuple (x.l.map enc))=true
  simpa [PyData.canLay0] using gju x.l
 dg:=λx=>by
  show PyData.depth (.tuple (x.l.map enc))<=_
  have:=gxv x.l
  have h0:bR.dep Int=0:=rfl
  simp only [PyData.depth];omega
 eqv:=λx y=>by
  show PyData.eqv (.tuple (x.l.map enc)) (.tuple (y.l.map enc))=_
  simp only [PyData.eqv]
  rw [gzt]
  obtain⟨a⟩:=x
  obtain⟨b⟩:=y
  exact decide_eq_decide.mpr ⟨λh=>congrArg Ti.mk h,λh=>by injection h⟩
theorem o_:∀ns:List Int,fY (ns.map .int)=some (ns.map .num)
 |[]=>rfl
 |n::ns=>by
  rw [Kal,Kal]
  unfold fY
  rw [o_ ns];rfl
instance:wz Ti:=⟨λt=>.tup (t.l.map .num),λt=>by
 show (fY (t.l.map .int)).map NestedKey.tup=_
 rw [o_];rfl,λx y h=>by
 obtain⟨x⟩:=x
 obtain⟨y⟩:=y
 injection h with h
 exact congrArg Ti.mk (W2 h)⟩
instance:wz (Int×Bool):=⟨λp=>.tup [.num p.1,.num (PpSet.b2 p.2)],λp=>rfl,λx y h=>by
 obtain⟨x1,x2⟩:=x
 obtain⟨y1,y2⟩:=y
 injection h with h
 injection h with h1 h
 injection h with h2 h
 injection h1 with h1
 injection h2 with h2
 have h1:x1=y1:=h1
 have h2:PpSet.b2 x2=PpSet.b2 y2:=h2
 rw [h1]
 cases x2 <;> cases y2 <;> first|rfl|exact absurd h2 (by decide)⟩
end Pu
namespace Pu
open PySem PySem.Spec PyProof.Rows L2 Enc
end Pu
namespace Pu
variable [aO]
open PySem PySem.Spec PyProof.Rows L2
abbrev xQ:=Str->Addr
inductive Cf where
 |val (vl:Vl)
 |BQ (nm:Str) (d:PyData)
inductive z7 where
 |out (o:Out)
 |BQ (nm:Str) (d:PyData) (ρ:List Slot) (s:ae)
abbrev Yt:=List Slot->ae->Option (Cf×ae)
abbrev Ys:=List Slot->ae->Option z7
def Yp (v:V):HO:=.xd [(("value" : Str),v)]
def spX (Γ:xQ)(m:Yt):Sp:=λvs H Q E=>∃(sk:Option Addr) (F:Hp) (args:List Slot) (s:ae) (r:Cf) (s':ae),Same F H/\bw sk F H s/\Slots sk F H (vs.map some) args (kh args)/\m args s=some (r,s') /\
 (∀vl,r=.val vl->∀v F' H' as,Step sk F H F' H'->bw sk F' H' s'->Rp F' v vl.1 as->bO vl.2 H as->Q v H') /\
 ∀nm d,r=.BQ nm d->∀v F' H' as dd,Step sk F H F' H'->bw sk F' H' s'->Rp F' v d as->H dd=none->H' dd=some (Yp v)->E (.ref (Γ nm)) (some dd) H'
def Yy (Γ:xQ)(t:Frag->WX->TE)(ev:List Slot->ae->Option (Cf×ae)):Prop:=∀(K:Frag) {sk:Option Addr} {F H:Hp} {σ:L2.St} {ρ:List Slot} {aj:List (List Addr)} {s:ae} {r:Cf} {s':ae} {W:WX} {Q:VK},Pre sk F H σ ρ aj s->ev ρ s=some (r,s') ->
 (∀vl,r=.val vl->∀v F' H' as,Step sk F H F' H'->bw sk F' H' s'->Rp F' v vl.1 as->bO vl.2 H as->Q v H') ->
 (∀nm d,r=.BQ nm d->∀v F' H' as dd,Step sk F H F' H'->bw sk F' H' s'->Rp F' v d as->H dd=none->H' dd=some (Yp v)->W (.ref (Γ nm)) (some dd) σ H')->t K W σ H Q
structure EX (Γ:xQ) where
 t:Frag->WX->TE
 ev:List Slot->ae->Option (Cf×ae)
 ok:Yy Γ t ev
variable {Γ:xQ}
def EX.call (m:Yt)(a:SR):EX Γ where
 t:=λK W=>tCallS (spX Γ m) (WE W) (a.t K)
 ev:=λρ s=>(a.ev ρ s).bind λx=>m x.1 x.2
 ok:=by
  intro K sk F H σ ρ aj s r s' W Q p h q qx
  obtain⟨⟨x,s1⟩,h1,h⟩:=aL h
  refine a.ok K p h1 λvs F1 H1 st1 k1 sl=>?_
  refine⟨sk,F1,x,s1,r,s',st1.sub',k1,sl,h,λvl e v F2 H2 as st2 k2 r2 f2=>?_,λnm d e v F2 H2 as dd st2 k2 r2 n2 e2=>?_⟩
  ·exact q vl e v F2 H2 as (st1.trans st2) k2 r2 (f2.back st1.dm)
  ·refine qx nm d e v F2 H2 as dd (st1.trans st2) k2 r2 ?_ e2
   cases z:H dd with
   |none=>rfl
   |some u=>exact absurd n2 (st1.dm dd (by rw [z];exact nofun))
def xU (D:Ends)(W:WX)(Γ:xQ)(sk:Option Addr)(F0 H0 F:Hp):z7->Prop
 |.out o=>l6 D sk F0 H0 F o
 |.BQ nm d ρ' s'=>∀v F' H' σ' az as dd,Same F F'->Wd sk F0 H0 F' H' σ' ρ' az s'->Rp F' v d as->H0 dd=none->H' dd=some (Yp v)->W (.ref (Γ nm)) (some dd) σ' H'
theorem xU.mono {D:Ends}{W:WX}{sk:Option Addr}{F0 H0 F F':Hp}{out:z7}(h:xU D W Γ sk F0 H0 F out)(e:Same F F'):xU D W Γ sk F0 H0 F' out:=by
 cases out with
 |out o=>exact l6.mono h e
 |BQ nm d ρ s=>exactλv F2 H2 σ2 dN as dd e2 w=>h v F2 H2 σ2 dN as dd (e.trans e2) w
def OkX (Γ:xQ)(t:Frag->WX->TS)(ev:Ys):Prop:=∀(K:Frag) {sk:Option Addr} {F0 H0 F H:Hp} {σ:L2.St} {ρ:List Slot} {aj:List (List Addr)} {s:ae} {out:z7} {D:Ends} {W:WX},Wd sk F0 H0 F H σ ρ aj s->ev ρ s=some out->xU D W Γ sk F0 H0 F out->t K W D σ H
structure SX (Γ:xQ) where
 t:Frag->WX->TS
 ev:Ys
 ok:OkX Γ t ev
def UP (b:Ys):z7->Option z7
 |.out (.nx ρ s)=>b ρ s
 |o=>some o
def SX.seq (a b:SX Γ):SX Γ where
 t:=λK W=>tSeq (a.t K W) (b.t K W)
 ev:=λρ s=>(a.ev ρ s).bind λo=>UP b.ev o
 ok:=by
  intro K sk F0 H0 F H σ ρ aj s out D W w h q
  obtain⟨o,h1,h2⟩:=aL h
  refine a.ok K w h1 ?_
  cases o with
  |out o=>
   cases o with
   |nx aH s1=>exactλF1 H1 σ1 jZ e1 w1=>b.ok K w1 h2 (q.mono e1)
   |brk aH s1=>cases h2;exact q
   |cnt aH s1=>cases h2;exact q
   |ret vl s1=>cases h2;exact q
  |BQ nm d aH s1=>cases h2;exact q
def SX.set (i:Nat)(e:EX Γ):SX Γ where
 t:=λK W=>tAsg (e.t K W) (gName i)
 ev:=λρ s=>(e.ev ρ s).bind λx=>match x.1 with
  |.val vl=>some (.out (.nx (ρ.set i (GK vl)) x.2))
  |.BQ nm d=>some (.BQ nm d ρ x.2)
 ok:=by
  intro K sk F0 H0 F H σ ρ aj s out D W w h q
  obtain⟨⟨x,s1⟩,h1,h2⟩:=aL h
  dsimp only at h2
  refine e.ok K w.pre h1 (λvl e v F1 H1 as st k r f=>?_) (λnm d e v F1 H1 as dd st k r n e2=>?_)
  ·subst e
   cases h2
   obtain⟨az,w'⟩:=w.zG st k (i:=i) r f
   exact q F1 H1 _ az st.sub w'
  ·subst e
   cases h2
   refine q v F1 H1 σ aj as dd st.sub (w.next st k) r ?_ e2
   cases z:H0 dd with
   |none=>rfl
   |some u=>exact absurd n (w.st.dm dd (by rw [z];exact nofun))
def SX.ret (e:EX Γ):SX Γ where
 t:=λK W=>tRet (e.t K W)
 ev:=λρ s=>(e.ev ρ s).bind λx=>match x.1 with
  |.val vl=>some (.out (.ret vl x.2))
  |.BQ nm d=>some (.BQ nm d ρ x.2)
 ok:=by
  intro K sk F0 H0 F H σ ρ aj s out D W w h q
  obtain⟨⟨x,s1⟩,h1,h2⟩:=aL h
  dsimp only at h2
  refine e.ok K w.pre h1 (λvl e v F1 H1 as st k r f=>?_) (λnm d e v F1 H1 as dd st k r n e2=>?_)
  ·subst e
   cases h2
   exact q v F1 H1 as (w.st.trans st) k r (w.oM f)
  ·subst e
   cases h2
   refine q v F1 H1 σ aj as dd st.sub (w.next st k) r ?_ e2
   cases z:H0 dd with
   |none=>rfl
   |some u=>exact absurd n (w.st.dm dd (by rw [z];exact nofun))
def SX.drop (e:EX Γ):SX Γ where
 t:=λK W=>tDrop (e.t K W)
 ev:=λρ s=>(e.ev ρ s).bind λx=>match x.1 with
  |.val vl=>some (.out (.nx ρ x.2))
  |.BQ nm d=>some (.BQ nm d ρ x.2)
 ok:=by
  intro K sk F0 H0 F H σ ρ aj s out D W w h q
  obtain⟨⟨x,s1⟩,h1,h2⟩:=aL h
  dsimp only at h2
  refine e.ok K w.pre h1 (λvl e v F1 H1 as st k r f=>?_) (λnm d e v F1 H1 as dd st k r n e2=>?_)
  ·subst e
   cases h2
   exact q F1 H1 σ aj st.sub (w.next st k)
  ·subst e
   cases h2
   refine q v F1 H1 σ aj as dd st.sub (w.next st k) r ?_ e2
   cases z:H0 dd with
   |none=>rfl
   |some u=>exact absurd n (w.st.dm dd (by rw [z];exact nofun))
structure Hx (Γ:xQ)(ns:List Str)(i:Nat)(dat:PyData)(sk:Option Addr)(F H:Hp)(σ:L2.St)(a:Addr)(cls:Value)(d:Option Addr):Prop where
 slot:σ[i]? = some (some (.ref a))
 cls:∃nm∈ns,cls=.ref (Γ nm)
 val:∃dd v as,d=some dd/\H dd=some (Yp v)/\Rp F v dat as/\sk≠some dd
theorem Hx.step {ns:List Str}{i:Nat}{dat:PyData}{sk:Option Addr}{F H F1 H1:Hp}{σ:L2.St}{a:Addr}{cls:Value}{d:Option Addr}(h:Hx Γ ns i dat sk F H σ a cls d)(st:Step sk F H F1 H1):Hx Γ ns i dat sk F1 H1 σ a cls d:=by
 obtain⟨h1,h2,dd,v,as,e1,e2,r,n⟩:=h
 exact⟨h1,h2,dd,v,as,e1,st.fr _ _ n e2,r.mono st.sub,n⟩
def Yx (Γ:xQ)(ns:List Str)(i:Nat)(t:Frag->Addr->Value->Option Addr->TE)(ev:PyData->JS):Prop:=∀(K:Frag) {sk:Option Addr} {F H:Hp} {σ:L2.St} {ρ:List Slot} {aj:List (List Addr)} {s:ae} {a:Addr} {cls:Value} {d:Option Addr} {dat:PyData} {vl:Vl} {s':ae} {Q:VK},
 Pre sk F H σ ρ aj s->Hx Γ ns i dat sk F H σ a cls d->ev dat ρ s=some (vl,s')->(∀v F' H' as,Step sk F H F' H'->bw sk F' H' s'->Rp F' v vl.1 as->bO vl.2 H as->Q v H')->t K a cls d σ H Q
structure EH (Γ:xQ)(ns:List Str)(i:Nat) where
 t:Frag->Addr->Value->Option Addr->TE
 ev:PyData->JS
 ok:Yx Γ ns i t ev
variable {ns:List Str}{i:Nat}
/-- e.value -/
def EH.val:EH Γ ns i where
 t:=λK a cls d=>UZ (ns.map Γ) a cls d (tVar i)
 ev:=λdat _ s=>some ((dat,aB dat),s)
 ok:=by
  intro K sk F H σ ρ aj s a cls d dat vl s' Q p hx h q
  obtain⟨h1,⟨nm,hn,h2⟩,dd,v,as,e1,e2,r,n⟩:=hx
  cases h
  refine⟨.ref a,h1,rfl,Γ nm,Kdb hn,h2,dd,v,e1,e2,q v F H as (.refl p.sub) p.bj r λz=>?_⟩
  rw [r.aB z];exact⟨KaY,λa m=>by cases m⟩
def YC (Γ:xQ)(ns:List Str)(i:Nat)(t:Frag->Addr->Value->Option Addr->TS)(ev:PyData->Bs):Prop:=∀(K:Frag) {sk:Option Addr} {F0 H0 F H:Hp} {σ:L2.St} {ρ:List Slot} {aj:List (List Addr)} {s:ae} {a:Addr} {cls:Value} {d:Option Addr} {dat:PyData} {out:Out} {D:Ends},
 Wd sk F0 H0 F H σ ρ aj s->Hx Γ ns i dat sk F H σ a cls d->ev dat ρ s=some out->l6 D sk F0 H0 F out->t K a cls d D σ H
structure SH (Γ:xQ)(ns:List Str)(i:Nat) where
 t:Frag->Addr->Value->Option Addr->TS
 ev:PyData->Bs
 ok:YC Γ ns i t ev
def SH.set (j:Nat)(e:EH Γ ns i):SH Γ ns i where
 t:=λK a cls d=>tAsg (e.t K a cls d) (gName j)
 ev:=λdat ρ s=>(e.ev dat ρ s).bind λx=>some (.nx (ρ.set j (GK x.1)) x.2)
 ok:=by
  intro K sk F0 H0 F H σ ρ aj s a cls d dat out D w hx h q
  obtain⟨⟨x,s1⟩,h1,h2⟩:=aL h
  cases h2
  refine e.ok K w.pre hx h1 λv F1 H1 as st k r f=>?_
  obtain⟨az,w'⟩:=w.zG st k (i:=j) r f
  exact q F1 H1 _ az st.sub w'
def SH.ret (e:EH Γ ns i):SH Γ ns i where
 t:=λK a cls d=>tRet (e.t K a cls d)
 ev:=λdat ρ s=>(e.ev dat ρ s).bind λx=>some (.ret x.1 x.2)
 ok:=by
  intro K sk F0 H0 F H σ ρ aj s a cls d dat out D w hx h q
  obtain⟨⟨x,s1⟩,h1,h2⟩:=aL h
  cases h2
  exact e.ok K w.pre hx h1 λv F1 H1 as st k r f=>q v F1 H1 as (w.st.trans st) k r (w.oM f)
theorem Wd.empty {sk:Option Addr}{F0 H0 F H:Hp}{σ:L2.St}{ρ:List Slot}{aj:List (List Addr)}{s:ae}(w:Wd sk F0 H0 F H σ ρ aj s)(i:Nat)(x:Option V):Wd sk F0 H0 F H (σ.set i x) (ρ.set i .emp) (aj.set i []) s:=
 ⟨w.st,w.bj,w.slots.set rfl,w.fO.sublist iH,λa m=>w.cu a (iH.mem m)⟩
end Pu
namespace Pu
open PySem PySem.Spec PyProof.Rows L2 Enc
inductive WN (α:Type) where
 |went (x:α)
 |num (n:Int)
deriving DecidableEq
instance {α:Type}:Inhabited (WN α):=⟨.num 0⟩
instance {α:Type}[Enc α]:Enc (WN α):=⟨λy=>match y with
 |.went x=>.tuple [.str "went",enc x]
 |.num n=>.tuple [.str "number",.int n]⟩
instance {α:Type}[bR α]:bR (WN α) where
 dec:=inferInstance
 dep:=bR.dep α+1
 lay:=λy=>by
  cases y with
  |went x=>
   show PyData.canLay0 (.tuple [.str "went",enc x])=true
   have h:PyData.strOk "went" = true:=by decide +kernel
   simp [PyData.canLay0,PyData.canLayAll0,bR.lay,h]
  |num n=>
   show PyData.canLay0 (.tuple [.str "number",.int n])=true
   have h:PyData.strOk "number" = true:=by decide +kernel
   simp [PyData.canLay0,PyData.canLayAll0,h]
 dg:=λy=>by
  cases y with
  |went x=>
   show PyData.depth (.tuple [.str "went",enc x])<=_
   have h1:=bR.dg x
   simp only [PyData.depth,PyData.depthAll];omega
  |num n=>
   show PyData.depth (.tuple [.str "number",.int n])<=_
   simp only [PyData.depth,PyData.depthAll];omega
 eqv:=λy z=>by
  have h1:(("went" : Str) == ("number" : Str))=false:=by decide +kernel
  have h2:(("number" : Str) == ("went" : Str))=false:=by decide +kernel
  cases y with
  |went x=>
   cases z with
   |went x2=>
    show PyData.eqv (.tuple [.str "went",enc x]) (.tuple [.str "went",enc x2])=_
    simp only [PyData.eqv,PyData.eqvAll,bR.eqv]
    simp
   |num n=>
    show PyData.eqv (.tuple [.str "went",enc x]) (.tuple [.str "number",.int n])=_
    have h3:("went" : Str)≠("number" : Str):=by decide +kernel
    simp only [PyData.eqv,PyData.eqvAll]
    simp [h3]
  |num n=>
   cases z with
   |went x=>
    show PyData.eqv (.tuple [.str "number",.int n]) (.tuple [.str "went",enc x])=_
    have h3:("number" : Str)≠("went" : Str):=by decide +kernel
    simp only [PyData.eqv,PyData.eqvAll]
    simp [h3]
   |num m=>
    show PyData.eqv (.tuple [.str "number",.int n]) (.tuple [.str "number",.int m])=_
    simp only [PyData.eqv,PyData.eqvAll]
    by_cases h:n=m <;> simp [h]
variable [aO]
section
variable {ρ aH dF:List Slot}{s s1 s2:ae}{i:Nat}{e e2:SE}{w:Bool}
theorem JE.cqP (z:Str):JE (SE.av z) ρ s z s true:=⟨true,rfl,λ_=>rfl⟩
theorem JE.went {α:Type}[Enc α]{x:α}(h:JE e ρ s x s1 w):JE (SE.tup (eK (SE.av "went") (eK e fK))) ρ s (WN.went x) s1 false:=(BU (JE.cqP "went") (BU h JA.nil)).tup (by simp)
end
variable {Γ:xQ}
/-- b goes: so cqY bX,alike -/
def Le (b:SS)(bX:SX Γ):Prop:=∀ρ s o,b.ev ρ s=some o->bX.ev ρ s=some (.out o)
theorem Le.never (x:SX Γ):Le Iz x:=λρ s o h=>nomatch h
theorem Le.seq {a b:SS}{a' b':SX Γ}(ha:Le a a')(hb:Le b b'):Le (SS.ac a b) (SX.seq a' b'):=λρ s o h=>by
 obtain⟨p,h1,h2⟩:=aL h
 show ((a'.ev ρ s).bind _)=_
 rw [ha ρ s p h1]
 show UP b'.ev (.out p)=_
 cases p with
 |nx aH s1=>exact hb aH s1 o h2
 |ret vl s1=>cases h2;rfl
 |brk aH s1=>cases h2;rfl
 |cnt aH s1=>cases h2;rfl
end Pu
namespace PySem.W
open PySem PySem.Spec PySem.Calls PyProof.Rows
end PySem.W
namespace L2
open PySem PySem.Spec PyProof.Rows
section
variable {X:Cx}{nm:Str}{C D fI cc cda:Addr}
/-- a class of bh module -/
theorem Jd {x:Str}{p:Pos}{c:Addr}(hg:Gl X x)(hm:X.mg x=some (.ref c))(hdb:(x == ("__debug__" : Str))=false:=by decide):PE X (.Name x p) (tC (.ref c)):=
 ⟨λpins s σ H Q I h=>ld_glob I hg hm ⟨.ref c,H,I,rfl,h⟩ hdb⟩
end
end L2
namespace Pu
variable [aO]
open PySem PySem.Spec PyProof.Rows L2 Enc
def vG (C:Addr)(ta tv:TE)(rd:V->V->Hp->VK->Prop)(f:Str):TS:=λD σ H=>ta σ H λx H1=>∃a dx fs v,x=.ref a/\H1 a=some (.ins C dx fs)/\fs.lookup f=some v /\
 tv σ H1 λy H2=>rd v y H2 λz H3=>∃dx' fs',H3 a=some (.ins C dx' fs')/\fs'.length<1000/\D.nx σ (upd H3 a (.ins C dx' (putF f z fs')))
section
variable {X:Cx}{o value:Expr}{f:Str}{pos tpos:Pos}{ta tv:TE}{C:Addr}
theorem xB {op:Operator}{rd:V->V->Hp->VK->Prop}(ha:PE X o ta)(hv:PE X value tv)(hop:InOp X op rd)(c:Cls X.K C)(n:NoAttr X.K C f):PS X (.AugAssign (.Attribute o f tpos) op value pos) (vG C ta tv rd f):=by
 refine⟨λpins s σ H D I h=>?_⟩
 refine wpAny_AugAssign_AttributeAny (thn (ha.run pins s σ H _ I h) λov s1 ⟨x,H1,I1,rx,a,dx,fs,v,ex,ea,l,q⟩=>?_)
 subst ex
 obtain rfl:ov=Value.ref a:=rx
 refine getattr_ok I1 ea c n l λu s2 I2 ru=>thn (hv.run pins s2 σ H1 _ I2 q) λw3 s3 ⟨y,H2,I3,ry,q3⟩=>thn (hop pins s3 σ H2 v y u w3 _ I3 ru ry q3) λw4 s4 ⟨z,H3,I4,rz,dx',fs',ea',l',q4⟩=>?_
 exact setattr_ok I4 ea' c n l' rz λs5 I5=>⟨σ,_,I5,q4⟩
end
def eu:Int->List Int->List Int
 |_,[]=>[]
 |t,l::r=>t::eu (t+l) r
theorem fxy (l:Int):∀(xs:List Int) (t:Int),eu t (xs++[l])=eu t xs++[t+xs.sum]
 |[],t=>by simp [eu]
 |x::xs,t=>by
  show t::eu (t+x) (xs++[l])=t::(eu (t+x) xs++[t+(x::xs).sum])
  rw [fxy l xs,Ka8,Int.add_assoc]
theorem uB:∀(xs:List Int) (t:Int),(eu t xs).length=xs.length
 |[],_=>rfl
 |x::xs,t=>by show (eu (t+x) xs).length+1=_;rw [uB xs];rfl
def Lw (K:Frag)(C:Addr)(i j:Nat)(fF fT fL:Str):TS:=tFor (iList K (vP C (tVar i) fL)) (gName j) (tSeq (tDrop (tBM K "list" rAppend (vP C (tVar i) fF) (tCons (vP C (tVar i) fT) tNil))) (vG C (tVar i) (tVar j) rAdd fT))
theorem Xd {β:Type}{f:Str}:∀{l r:List (Str×β)},(l++r).lookup f=(l.lookup f).or (r.lookup f)
 |[],r=>by simp
 |(g,v)::l,r=>by
  show (match f == g with|true=>some v|false=>(l++r).lookup f)=((match f == g with|true=>some v|false=>l.lookup f)).or _
  cases f == g with
  |true=>rfl
  |false=>exact Xd
theorem Xi {f:Str}{v:V}:∀{l r:List (Str×V)},l.lookup f=none->putF f v (l++r)=l++putF f v r
 |[],r,_=>rfl
 |(g,u)::l,r,h=>by
  have h':(match f == g with|true=>some u|false=>l.lookup f)=none:=h
  show (if g=f then _ else (g,u)::putF f v (l++r))=_
  cases q:f == g with
  |true=>rw [q] at h';cases h'
  |false=>
   rw [q] at h'
   rw [if_neg (λz=>by rw [z] at q;simp at q),Xi h'];rfl
section
variable {K:Frag}{C:Addr}{i j:Nat}{fF fT fL:Str}{a b p dx:Addr}{fs:List (Str×V)}{ns:List Int}{σ:L2.St}{H:Hp}{D:Ends}
/-- bh instance at a,t added up,F at p -/
def eO (fs:List (Str×V))(fF fT:Str)(p:Addr)(t:Int):List (Str×V):=fs++[(fF,.ref p),(fT,.int t)]
def gF (H:Hp)(C a p dx:Addr)(fs:List (Str×V))(fF fT:Str)(us:List Int):Hp:=upd (upd H p (.lst ((eu 0 us).map V.int))) a (.ins C dx (eO fs fF fT p us.sum))
theorem Bo {H:Hp}{a p:Addr}{o1 o2 o3 o4:HO}(h:p≠a):upd (upd (upd (upd H p o1) a o2) p o3) a o4=upd (upd H p o3) a o4:=by
 funext c
 by_cases h1:c=a
 ·rw [h1,upd_same,upd_same]
 ·rw [upd_ne h1,upd_ne h1]
  by_cases h2:c=p
  ·rw [h2,upd_same,upd_same]
  ·rw [upd_ne h2,upd_ne h2,upd_ne h1,upd_ne h2]
theorem C6 (hi:σ[i]? = some (some (.ref a)))(lj:j<σ.length)(Yd:i≠j)(hb:H b=some (.lst (ns.map V.int)))(nb:b≠a)(nbp:b≠p)(Lr:p≠a)(hL:fs.lookup fL=some (.ref b))(hF:fs.lookup fF=none)(hT:fs.lookup fT=none)(P8:fF≠fT)(hl:fs.length<900)(hn:ns.length<=100000)
  (q:∀σ':L2.St,σ'.length=σ.length->(∀n,n≠j->σ'[n]? = σ[n]?)->D.nx σ' (gF H C a p dx fs fF fT ns)):Lw K C i j fF fT fL D σ (gF H C a p dx fs fF fT []):=by
 have ha:∀us,gF H C a p dx fs fF fT us a=some (.ins C dx (eO fs fF fT p us.sum)):=λus=>upd_same
 have hp:∀us,gF H C a p dx fs fF fT us p=some (.lst ((eu 0 us).map V.int)):=λus=>by unfold gF;rw [upd_ne Lr,upd_same]
 have hbb:∀us,gF H C a p dx fs fF fT us b=some (.lst (ns.map V.int)):=λus=>by unfold gF;rw [upd_ne nb,upd_ne nbp];exact hb
 have bf:(fT == fF)=false:=by rw [beq_eq_false_iff_ne];exactλe=>P8 e.symm
 have kL:∀t,(eO fs fF fT p t).lookup fL=some (.ref b):=λt=>by unfold eO;rw [Xd,hL];rfl
 have kF:∀t,(eO fs fF fT p t).lookup fF=some (.ref p):=λt=>by
  unfold eO;rw [Xd,hF]
  show (match fF == fF with|true=>some (V.ref p)|false=>_)=_
  rw [beq_self_eq_true]
 have kT:∀t,(eO fs fF fT p t).lookup fT=some (.int t):=λt=>by
  unfold eO;rw [Xd,hT]
  show (match fT == fF with|true=>some (V.ref p)|false=>(match fT == fT with|true=>some (V.int t)|false=>_))=_
  rw [bf,beq_self_eq_true]
 have kP:∀t z,putF fT (.int z) (eO fs fF fT p t)=eO fs fF fT p z:=λt z=>by
  unfold eO
  rw [Xi hT]
  congr 1
  show (if fF=fT then _ else (fF,V.ref p)::(if fT=fT then [(fT,V.int z)] else _))=_
  rw [if_neg P8,if_pos rfl]
 refine⟨.ref a,hi,a,dx,_,.ref b,rfl,ha [],kL _,b,rfl,⟨ns.map V.int,.inl (.inl (hbb []))⟩,?_⟩
 refine⟨λk m σ' H'=>∃us ws,ns=us++ws/\us.length=k/\m=ws.length/\H'=gF H C a p dx fs fF fT us/\σ'.length=σ.length/\(∀n,n≠j->σ'[n]? = σ[n]?),⟨ns.length,[],ns,rfl,rfl,rfl,rfl,rfl,λ_ _=>rfl⟩,?_⟩
 rintro k m σ' H' ⟨us,ws,ex,ei,em,eH,g1,g2⟩
 subst eH
 cases ws with
 |nil=>
  refine .inl ⟨⟨ns.map V.int,.inl (.inl (hbb us)),?_⟩,?_⟩
  ·rw [ex,KaC,Kaf,ei];exact Kak _
  ·have e:ns=us:=by rw [ex,KaC]
   rw [<-e];exact q σ' g1 g2
 |cons l ws=>
  have eg:(ns.map V.int)[k]? = some (.int l):=by rw [ex,<-ei];simp
  refine .inr ⟨⟨ns.map V.int,.int l,.inl (.inl (hbb us)),eg⟩,λσ2 H2=>H2=gF H C a p dx fs fF fT (us++[l])/\σ2.length=σ.length/\(∀n,n≠j->σ2[n]? = σ[n]?),?_,?_⟩
  ·rintro σ2 H2 ⟨a1,a3,a4⟩
   exact⟨ws.length,by rw [em];exact Kbl _,us++[l],ws,by rw [ex];simp,by simp [ei],rfl,a1,a3,a4⟩
  ·rintro y H3 ⟨rfl,hy⟩
   have e3:=hy _ (.inl (.inl (hbb us)))
   rw [eg] at e3
   cases e3
   have s1:(σ'.set j (some (V.int l)))[i]? = some (some (.ref a)):=by rw [KaT (λz=>Yd z.symm),g2 i Yd];exact hi
   have s2:(σ'.set j (some (V.int l)))[j]? = some (some (.int l)):=Kbo (by omega)
   have hul:us.length<=ns.length:=by rw [ex,Kam];omega
   refine⟨.ref a,s1,a,dx,_,.ref p,rfl,ha us,kF _,.inl ⟨rfl,_,.inl (.inl (hp us))⟩,?_⟩
   refine⟨.ref a,s1,a,dx,_,.int us.sum,rfl,ha us,kT _,?_⟩
   refine⟨p,(eu 0 us).map V.int,.int us.sum,rfl,rfl,hp us,?_,?_⟩
   ·rw [Kaf,uB]
    exact KcC (show us.length<=100000 by omega) (by decide)
   ·have ha2:(upd (gF H C a p dx fs fF fT us) p (.lst ((eu 0 us).map V.int++[.int us.sum]))) a=some (.ins C dx (eO fs fF fT p us.sum)):=by rw [upd_ne (Ne.symm Lr)];exact ha us
    refine⟨.ref a,s1,a,dx,_,.int us.sum,rfl,ha2,kT _,?_⟩
    refine⟨.int l,s2,us.sum,l,rfl,rfl,dx,_,ha2,?_,?_⟩
    ·unfold eO
     rw [Kam]
     show fs.length+2<1000
     omega
    ·rw [kP]
     refine⟨?_,by rw [Kbs];exact g1,λn hn=>by rw [KaT (λz=>hn z.symm)];exact g2 n hn⟩
     unfold gF
     rw [Bo Lr]
     have e1:(eu 0 us).map V.int++[.int us.sum]=(eu 0 (us++[l])).map V.int:=by rw [fxy,Kav,Kds];rfl
     have e2:us.sum+l=(us++[l]).sum:=by simp
     rw [e1,e2]
end
theorem ah.x6 {F:Hp}{ws:List V}{es:List PyData}{bs:List Addr}(h2:ah F ws es bs):∀{vs:List V} {ds:List PyData} {as:List Addr},ah F vs ds as->ah F (vs++ws) (ds++es) (as++bs)
 |_,_,_,.nil=>h2
 |_,_,_,.cons (as:=a1) (bs:=a2) r rs=>by
  rw [Kbd]
  exact .cons r (ah.x6 h2 rs)
def SS.Ks (C:Addr)(i j:Nat)(fF fT fL:Str):SS where
 t:=λK=>tSeq (zD C (tVar i) ((SE.lst fK).t K) fF) (tSeq (zD C (tVar i) ((SE.ac 0).t K) fT) (Lw K C i j fF fT fL))
 ev:=λρ s=>match ρ[i]? with
  |some (.obj C' a nm ds)=>if C'=C/\nm.length<800/\fF∉nm/\fT∉nm/\fF≠fT/\i≠j/\j<ρ.length then ((nm.zip ds).lookup fL).bind λd=>match d with
   |.list es=>(GR es).bind λns=>if ns.length<=100000 then some (.nx ((ρ.set i (.obj C a (nm++[fF,fT]) (ds++[.list ((eu 0 ns).map PyData.int),.int ns.sum]))).set j .emp) s) else none
   |_=>none else none
  |_=>none
 ok:=by
  intro K sk F0 H0 F H σ ρ aj s out D w h q
  dsimp only at h
  split at h
  ·rename_i C' a nm ds cS
   split at h
   ·rename_i hC
    obtain⟨rfl,hn,nF,nT,P8,Yd,lj⟩:=hC
    obtain⟨d,h1,h⟩:=aL h
    split at h
    ·rename_i es
     obtain⟨ns,h2,h⟩:=aL h
     split at h
     ·rename_i hns
      cases h
      obtain⟨xv,fp,e1,e2,dx,vs,as,rfl,e4,e5,e6,e7,e8,r,rfl⟩:=w.slots.get cS
      have hlen:nm.length=vs.length:=by rw [r.len];exact e8
      obtain⟨vL,bs,l1,rv⟩:=Lj r h1
      obtain⟨b,ys,cs,rfl,hb,hr,_⟩:=rv.aC
      rw [fqf h2] at hr
      rw [hr.ints] at hb
      have lσ:=w.slots.length
      have Te:=w.st.sub' _ _ hb
      have nba:b≠a:=λz=>by rw [z,e5] at hb;cases hb
      refine⟨by show 0<=sizeLine;decide,λp np=>?_⟩
      have Lr:p≠a:=λz=>by rw [z,e4] at np;cases np
      have nbp:b≠p:=λz=>by rw [<-z,Te] at np;cases np
      have Ud:dx≠p:=λz=>by rw [<-z,e6] at np;cases np
      have fp0:F p=none:=w.st.sub'.free np
      have fa:a∈aj.flatten:=Kaw.mpr ⟨_,Kaq e2,Kaa⟩
      have fdx:dx∈aj.flatten:=Kaw.mpr ⟨_,Kaq e2,Kad _ Kaa⟩
      obtain⟨n1,n2⟩:=Aj w.fO e2
      have n3:=Kag.mp n1
      have cq6:dx≠a:=λz=>by
       have:=(KaP.mp n3.1).1
       rw [z] at this;exact this Kaa
      have lF:(nm.zip vs).lookup fF=none:=u6 nF
      have lT:(nm.zip vs).lookup fT=none:=u6 nT
      have pF:∀v,putF fF v (nm.zip vs)=nm.zip vs++[(fF,v)]:=λv=>by
       have:=Xi (v:=v) (r:=[]) lF
       rw [KaC] at this
       exact this
      have bf:(fT == fF)=false:=by rw [beq_eq_false_iff_ne];exactλe=>P8 e.symm
      have pT:∀v u,putF fT u (nm.zip vs++[(fF,v)])=nm.zip vs++[(fF,v),(fT,u)]:=λv u=>by
       rw [Xi lT]
       congr 1
       show (if fF=fT then _ else (fF,v)::[(fT,u)])=_
       rw [if_neg P8]
      have zl:(nm.zip vs).length<800:=by rw [Kcb];omega
      have ha1:upd H p (.lst []) a=some (.ins C' dx (nm.zip vs)):=by rw [upd_ne (Ne.symm Lr)];exact e4
      refine⟨.ref a,e1,a,dx,_,rfl,ha1,by omega,?_⟩
      refine⟨.ref a,e1,a,dx,_,rfl,upd_same,?_,?_⟩
      ·rw [pF,Kam];show (nm.zip vs).length+1<1000;omega
      rw [pF,pT]
      have eH:upd (upd (upd H p (.lst [])) a (.ins C' dx (nm.zip vs++[(fF,.ref p)]))) a (.ins C' dx (nm.zip vs++[(fF,.ref p),(fT,.int 0)]))=gF H C' a p dx (nm.zip vs) fF fT []:=by
       unfold gF eO
       funext c
       by_cases hc:c=a
       ·rw [hc,upd_same,upd_same];rfl
       ·rw [upd_ne hc,upd_ne hc,upd_ne hc];rfl
      rw [eH]
      refine C6 e1 (by omega) Yd Te nba nbp Lr l1 lF lT P8 (by omega) hns λσ2 g1 g2=>?_
      -- bh list is frozen
      have sF:Same F (upd F p (.lst ((eu 0 ns).map V.int))):=λc o e=>by rw [upd_ne (λz=>by rw [z,fp0] at e;cases e)];exact e
      have sa:br F H (upd F p (.lst ((eu 0 ns).map V.int))) (upd H p (.lst ((eu 0 ns).map V.int))):=.alloc w.st.sub' np
      have w1:=w.next (sa.any (sk:=sk)) (w.bj.keep sa)
      have rAll:ah (upd F p (.lst ((eu 0 ns).map V.int))) (vs++[.ref p,.int ns.sum]) (ds++[.list ((eu 0 ns).map PyData.int),.int ns.sum]) (as++((p::[])++([]++[]))):=by
       have ri:∀(G:Hp) (ms:List Int),ah G (ms.map V.int) (ms.map PyData.int) []:=λG ms=>by
        induction ms with
        |nil=>exact .nil
        |cons m ms ih=>exact .cons (as:=[]) (bs:=[]) (.int m) ih
       exact ah.x6 (.cons (.lst upd_same (ri _ _)) (.cons (.int _) .nil)) (r.mono sF)
      have cqV:eO (nm.zip vs) fF fT p ns.sum=(nm++[fF,fT]).zip (vs++[.ref p,.int ns.sum]):=by
       unfold eO
       rw [List.zip_append hlen];rfl
      obtain⟨az,w2⟩:=w1.Fw (C:=C') (nC:=nm++[fF,fT]) e1 e2 (by rw [upd_ne (Ne.symm Lr)];exact e5) (by rw [upd_ne Ud];exact e6) (by rw [upd_ne Ud];exact e7) (by rw [Kam,Kam,e8];rfl) rAll (by rw [upd_ne (Ne.symm Lr)];exact e4)
      rw [<-cqV] at w2
      have eσ:σ2=σ.set j (σ2.getD j none):=by
       refine Kdo λn=>?_
       by_cases hn:n=j
       ·rw [hn,Kbo (by omega),KaD,Kao (by omega)];rfl
       ·rw [KaT (Ne.symm hn)];exact g2 n hn
      obtain⟨dN,w3⟩:=w2.NS j (σ2.getD j none)
      rw [<-eσ] at w3
      exact q _ _ _ _ sF w3
     ·cases h
    ·cases h
   ·cases h
  ·cases h
end Pu
namespace Pu
variable [aO]
open PySem PySem.Spec PyProof.Rows L2 Enc
def N5 (C:Addr)(m:Str)(sp:Sp)(E:L2.St->XK)(ta:TE)(t:TA):TE:=λσ H Q=>ta σ H λx H1=>∃a dx fs,x=.ref a/\H1 a=some (.ins C dx fs)/\fs.lookup m=none/\t σ H1 λvs H2=>sp (x::vs) H2 Q (E σ)
variable {Γ:xQ}
theorem Du {H H1:Hp}{dd:Addr}(dm:∀a,H a≠none->H1 a≠none)(n2:H1 dd=none):H dd=none:=by
 cases z:H dd with
 |none=>rfl
 |some u=>exact absurd n2 (dm dd (by rw [z];exact nofun))
def EX.meth (C:Addr)(i:Nat)(m:Str)(f:Yt)(a:SR):EX Γ where
 t:=λK W=>N5 C m (spX Γ f) (WE W) (tVar i) (a.t K)
 ev:=λρ s=>match ρ[i]? with
  |some (.ins C' nm ds)=>if C'=C/\m∉nm then (a.ev ρ s).bind λx=>f (.ins C' nm ds::x.1) x.2 else none
  |_=>none
 ok:=by
  intro K sk F H σ ρ aj s r s' W Q p h q qx
  dsimp only at h
  split at h
  ·rename_i C' nm ds cS
   split at h
   ·rename_i hC
    obtain⟨rfl,hm⟩:=hC
    obtain⟨⟨x,s1⟩,h1,h⟩:=aL h
    obtain⟨xv,fp,e1,e2,z,a',dx,vs,as,rfl,e4,e5,r5⟩:=p.slots.get cS
    refine⟨.ref a',e1,a',dx,_,rfl,p.sub _ _ e4,u6 hm,?_⟩
    refine a.ok K p h1 λws F1 H1 st1 k1 sl=>?_
    refine⟨sk,F1,_,s1,r,s',st1.sub',k1,.cons (show qB sk F1 H1 (some (.ref a')) (.ins C' nm ds) [] from ⟨rfl,a',dx,vs,as,rfl,st1.sub _ _ e4,e5,r5.mono st1.sub⟩) sl,h,λvl e v F2 H2 bs st2 k2 r2 f2=>?_,λrV d e v F2 H2 bs dd st2 k2 r2 n2 e2=>?_⟩
    ·exact q vl e v F2 H2 bs (st1.trans st2) k2 r2 (f2.back st1.dm)
    ·exact qx rV d e v F2 H2 bs dd (st1.trans st2) k2 r2 (Du st1.dm n2) e2
   ·cases h
  ·cases h
end Pu
namespace Pu
open PySem PySem.Spec PyProof.Rows L2 Enc
variable [aO]
noncomputable def izc (C:Addr)(i:Nat)(m:Cb)(a:SR)(r:SP):SP where
 t:=λK=>tCons (tMake C (Pp C m) [] E0 (a.t K)) (r.t K)
 ts:=i::r.ts
 ev:=λρ d9 s=>(a.ev ρ s).bind λx=>(allM m x.1 x.2).bind λy=>r.ev ρ (d9.set i (.ins C y.1.1 y.1.2)) y.2
 ok:=by
  intro K sk F0 H0 F H σ wq ρ d9 nR aj gj s s' Q p w h q
  obtain⟨⟨args,s1⟩,h1,h⟩:=aL h
  obtain⟨⟨⟨nm,ds⟩,s2⟩,h2,h⟩:=aL h
  refine a.ok K p h1 λvs F1 H1 st1 k1 sl=>?_
  intro x dx nx Lq Nm
  rw [KaC]
  refine⟨H1,x,dx,vs,rfl,rfl,nx,Lq,Nm,sk,F1,args,s1,nm,ds,s2,st1.sub',k1,sl,xZ h2 x,λF2 H2 dx' vs' as st2 k2 hx fx hl rr=>⟨rfl,?_⟩⟩
  have cT:sk≠some x:=λe=>by
   have:=(k1 x e).1
   rw [nx] at this;cases this
  have sF:Same F2 (L2.upd F2 x (.ins C dx' (nm.zip vs'))):=λb o e=>by rw [upd_ne (λz=>by rw [z,fx] at e;cases e)];exact e
  have st3:Step sk F H (L2.upd F2 x (.ins C dx' (nm.zip vs'))) H2:=by
   have st:=st1.trans st2
   refine⟨st.sub.trans sF,λb o e=>?_,λa o x y z=>st.fr a o x y z,st.dm,λb o e=>?_⟩
   ·by_cases z:b=x
    ·rw [z,upd_same] at e;rw [z,<-e];exact hx
    ·rw [upd_ne z] at e;exact st.sub' b o e
   ·by_cases z:b=x
    ·rw [z];refine .inr ?_
     cases e2:H x with
     |none=>rfl
     |some u=>exact absurd nx (st1.dm x (by rw [e2];exact nofun))
    ·rw [upd_ne z] at e;exact st.new b o e
  have k3:bw sk (L2.upd F2 x (.ins C dx' (nm.zip vs'))) H2 s2:=⟨λb e=>⟨(k2 b e).1,by rw [upd_ne (λz=>cT (by rw [<-z];exact e))];exact (k2 b e).2⟩,k2.tab.vR⟩
  have w3:=w.next st3 k3
  have w4:Wd sk F0 H0 (L2.upd F2 x (.ins C dx' (nm.zip vs'))) H2 (wq.set i (some (.ref x))) (d9.set i (.ins C nm ds)) (gj.set i []) s2:=
   ⟨w3.st,w3.bj,w3.slots.set ⟨rfl,x,dx',vs',as,rfl,upd_same,hl,rr.mono sF⟩,w3.fO.sublist iH,λa m=>w3.cu a (iH.mem m)⟩
  refine r.ok K (p.next st3 k3) w4 h λvs F3 H3 fv NQ w5 hl=>?_
  exact q (.ref x::vs) F3 H3 fv (st3.sub.trans NQ) w5 (by rw [Kah,Kah,hl])
section
variable {ρ aH dF:List Slot}{s s1 s2 s3:ae}{C:Addr}{i j:Nat}{nm:List Str}{ds:List PyData}
theorem JP.Ll {α:Type}{df:α->List PyData}{x v:α}{m:Cb}{r:SR}{sl:List Slot}{p:SP}(hr:JC r ρ s sl s1)(hm:Oh C m sl s1 nm (df v) s2)(hx:x=v)(hp:JP p ρ (aH.set i (.ins C nm (df x))) s2 dF s3):JP (izc C i m r p) ρ aH s dF s3:=by
 subst hx
 unfold JC at hr
 show (r.ev ρ s).bind _=_
 rw [hr]
 show (allM m sl s1).bind _=_
 rw [xY hm]
 exact hp
theorem JN.Mm {a:Addr}{fF fT fL:Str}{lens x:List Int}{y:Int}{nC:List Str}{ds':List PyData}(h:ρ[i]? = some (.obj C a nm ds))(hc:nm.length<800/\fF∉nm/\fT∉nm/\fF≠fT/\i≠j/\j<ρ.length)
  (hL:(nm.zip ds).lookup fL=some (enc lens)) (hn:lens.length<=100000) (hx:x=eu 0 lens) (hy:y=lens.sum) (h1:nm++[fF,fT]=nC) (h2:ds++[enc x,enc y]=ds'):JN (SS.Ks C i j fF fT fL) ρ s ((ρ.set i (.obj C a nC ds')).set j .emp) s:=by
 subst hx hy h1 h2
 show (match ρ[i]? with|some (.obj C' a nm ds)=>_|_=>_)=_
 rw [h]
 show (if C=C/\nm.length<800/\fF∉nm/\fT∉nm/\fF≠fT/\i≠j/\j<ρ.length then _ else _)=_
 rw [if_pos ⟨rfl,hc⟩,hL]
 show ((GR (lens.map PyData.int)).bind _)=_
 rw [WJ]
 show (if lens.length<=100000 then _ else _)=_
 rw [if_pos hn]
 rfl
end
end Pu
namespace Pu
variable [aO]
open PySem PySem.Spec PyProof.Rows L2 Enc
noncomputable def SE.X9 (C:Addr)(m:Cb)(a:SR):SE where
 t:=λK=>tMake C (Pp C m) [] E0 (a.t K)
 ev:=λρ s=>(a.ev ρ s).bind λx=>(allM m x.1 x.2).bind λy=>some ((bQ C y.1.1 y.1.2,false),y.2)
 ok:=by
  intro K sk F H σ ρ aj s vl s' Q p h q
  obtain⟨⟨args,s1⟩,h1,h⟩:=aL h
  obtain⟨⟨⟨nm,ds⟩,s2⟩,h2,h⟩:=aL h
  cases h
  refine a.ok K p h1 λvs F1 H1 st1 k1 sl=>?_
  intro x dx nx Lq Nm
  rw [KaC]
  refine⟨H1,x,dx,vs,rfl,rfl,nx,Lq,Nm,sk,F1,args,s1,nm,ds,s2,st1.sub',k1,sl,xZ h2 x,λF2 H2 dx' vs' as st2 k2 hx fx hl rr=>⟨rfl,?_⟩⟩
  have cT:sk≠some x:=λe=>by
   have:=(k1 x e).1
   rw [nx] at this;cases this
  have sF:Same F2 (L2.upd F2 x (.ins C dx' (nm.zip vs'))):=λb o e=>by rw [upd_ne (λz=>by rw [z,fx] at e;cases e)];exact e
  have st3:Step sk F H (L2.upd F2 x (.ins C dx' (nm.zip vs'))) H2:=by
   have st:=st1.trans st2
   refine⟨st.sub.trans sF,λb o e=>?_,λa o x y z=>st.fr a o x y z,st.dm,λb o e=>?_⟩
   ·by_cases z:b=x
    ·rw [z,upd_same] at e;rw [z,<-e];exact hx
    ·rw [upd_ne z] at e;exact st.sub' b o e
   ·by_cases z:b=x
    ·rw [z];refine .inr ?_
     cases e2:H x with
     |none=>rfl
     |some u=>exact absurd nx (st1.dm x (by rw [e2];exact nofun))
    ·rw [upd_ne z] at e;exact st.new b o e
  have k3:bw sk (L2.upd F2 x (.ins C dx' (nm.zip vs'))) H2 s2:=⟨λb e=>⟨(k2 b e).1,by rw [upd_ne (λz=>cT (by rw [<-z];exact e))];exact (k2 b e).2⟩,k2.tab.vR⟩
  exact q (.ref x) _ _ as st3 k3 (.jA upd_same hl (rr.mono sF)) .no
section
variable {ρ aH:List Slot}{s s1 s2 s3:ae}{C:Addr}{i j:Nat}{nm:List Str}{ds:List PyData}{e k o:SE}{w w1 w2:Bool}
theorem JE.X9 {m:Cb}{r:SR}{sl:List Slot}(hr:JC r ρ s sl s1)(hm:Oh C m sl s1 nm ds s2):JE (SE.X9 C m r) ρ s (bQ C nm ds) s2 false:=by
 unfold JC at hr
 refine⟨false,?_,nofun⟩
 show (r.ev ρ s).bind _=_
 rw [hr]
 show (allM m sl s1).bind _=_
 rw [xY hm];rfl
end
/-- a dict with texts as keys,bh newest first -/
structure DT (β:Type) where
 l:List (Tx×β)
instance {β:Type}:Inhabited (DT β):=⟨⟨[]⟩⟩
instance {β:Type}[Enc β]:Enc (DT β):=⟨λx=>Ky (x.l.map λp=>p.1.str) (x.l.map λp=>enc p.2)⟩
def DT.has {β:Type}(x:DT β)(t:Tx):Bool:=(wM x.l t).isSome
def DT.at {β:Type}[Inhabited β](x:DT β)(t:Tx):β:=(wM x.l t).getD default
end Pu
namespace Pu
open PySem PySem.Spec PyProof.Rows L2 Enc
variable [aO]
structure H4 (α β γ δ:Type) where
 x:α
 y:β
 z:γ
 u:δ
instance {α β γ δ:Type}[Enc α][Enc β][Enc γ][Enc δ]:Enc (H4 α β γ δ):=⟨λp=>.list [enc p.x,enc p.y,enc p.z,enc p.u]⟩
instance {α β γ δ:Type}[Inhabited α][Inhabited β][Inhabited γ][Inhabited δ]:Inhabited (H4 α β γ δ):=⟨⟨default,default,default,default⟩⟩
end Pu
namespace Pu
open PySem PySem.Spec PyProof.Rows L2 Enc
inductive Pw
 |both|either|but|next|last
 deriving DecidableEq,Inhabited
def Pw.tx:Pw->Tx
 |.both=>k7 [98,111,116,104]
 |.either=>k7 [101,105,116,104,101,114]
 |.but=>k7 [98,117,116]
 |.next=>k7 [110,101,120,116]
 |.last=>k7 [108,97,115,116]
inductive Fe
 |on (ds:List Int)
 |nam (t:Tx)
 |each (l f:Int)
 |date (m d:Int)
 |starts
 |ends
 |no (a:Fe)
 |moved (n:Int) (a:Fe)
 |nth (n:Int) (a b:Fe)
 |pair (w:Pw) (a b:Fe)
 deriving Inhabited
def Fe.enc:Fe->PyData
 |.on ds=>.tuple [Enc.enc (Pu.k7 [111,110]),Enc.enc ds]
 |.nam t=>.tuple [Enc.enc (Pu.k7 [110,97,109,101]),Enc.enc t]
 |.each l f=>.tuple [Enc.enc (Pu.k7 [101,97,99,104]),Enc.enc l,Enc.enc f]
 |.date m d=>.tuple [Enc.enc (Pu.k7 [100,97,116,101]),Enc.enc m,Enc.enc d]
 |.starts=>.tuple [Enc.enc (Pu.k7 [115,116,97,114,116,115])]
 |.ends=>.tuple [Enc.enc (Pu.k7 [101,110,100,115])]
 |.no a=>.tuple [Enc.enc (Pu.k7 [110,111,116]),a.enc]
 |.moved n a=>.tuple [Enc.enc (Pu.k7 [109,111,118,101,100]),Enc.enc n,a.enc]
 |.nth n a b=>.tuple [Enc.enc (Pu.k7 [110,116,104]),Enc.enc n,a.enc,b.enc]
 |.pair w a b=>.tuple [Enc.enc w.tx,a.enc,b.enc]
instance:Enc Fe:=⟨Fe.enc⟩
def Fe.dep:Fe->Nat
 |.no a=>a.dep+1
 |.moved _ a=>a.dep+1
 |.nth _ a b=>max a.dep b.dep+1
 |.pair _ a b=>max a.dep b.dep+1
 |_=>0
def Fe.two (t:Tx)(a b:Fe):Fe:=.pair (if t=Pw.both.tx then .both else if t=Pw.either.tx then .either else if t=Pw.but.tx then .but else if t=Pw.next.tx then .next else .last) a b
variable [aO]
end Pu
namespace Pu
open PySem PySem.Spec PyProof.Rows L2 Enc
abbrev SetT:Type:=qy
inductive Nw
 |days|months|years|before
 deriving DecidableEq,Inhabited
def Nw.tx:Nw->Tx
 |.days=>k7 [100,97,121,115]
 |.months=>k7 [109,111,110,116,104,115]
 |.years=>k7 [121,101,97,114,115]
 |.before=>k7 [110,111,116,32,98,101,102,111,114,101]
/-- earlier,later -/
def gqs (l:Bool):Tx:=if l then k7 [108,97,116,101,114] else k7 [101,97,114,108,105,101,114]
/-- to,work -/
def Il (k:Bool):Tx:=if k then k7 [119,111,114,107] else k7 [116,111]
inductive uo
 |num (w:Nw) (n:Int)
 |go (f:Fe)
 |work (n:Int) (f:Fe)
 |pair (l:Bool) (a b:List uo)
 deriving Inhabited
inductive ue
 |num (w:Nw) (n:Int)
 |set (k:Bool) (n:Int) (t:SetT)
 |pair (l:Bool) (a b:List ue)
mutual
def uo.uJ:uo->PyData
 |.num w n=>.tuple [Enc.enc w.tx,Enc.enc n]
 |.go f=>.tuple [Enc.enc (Il false),Enc.enc f]
 |.work n f=>.tuple [Enc.enc (Il true),Enc.enc n,Enc.enc f]
 |.pair l a b=>.tuple [Enc.enc (gqs l),.list (uo.ac a),.list (uo.ac b)]
def uo.ac:List uo->List PyData
 |[]=>[]
 |x::xs=>x.uJ::uo.ac xs
end
mutual
def ue.uJ:ue->PyData
 |.num w n=>.tuple [Enc.enc w.tx,Enc.enc n]
 |.set k n t=>.tuple [Enc.enc (Il k),Enc.enc n,Enc.enc t]
 |.pair l a b=>.tuple [Enc.enc (gqs l),.list (ue.ac a),.list (ue.ac b)]
def ue.ac:List ue->List PyData
 |[]=>[]
 |x::xs=>x.uJ::ue.ac xs
end
instance:Enc uo:=⟨uo.uJ⟩
instance:Enc ue:=⟨ue.uJ⟩
mutual
def uo.dep:uo->Nat
 |.pair _ a b=>max (uo.oG a) (uo.oG b)+1
 |_=>0
def uo.oG:List uo->Nat
 |[]=>0
 |x::xs=>max x.dep (uo.oG xs)
end
mutual
def ue.dep:ue->Nat
 |.pair _ a b=>max (ue.oG a) (ue.oG b)+1
 |_=>0
def ue.oG:List ue->Nat
 |[]=>0
 |x::xs=>max x.dep (ue.oG xs)
end
variable [aO]
variable [aO]
section
variable {ρ:List Slot}{s s1:ae}{a b:SS}{c:ST}{P:Prop}[Decidable P]{Φ:Out->Prop}
/-- c and d,where c is not true -/
theorem JT.Qz {d:ST}(h:JT c ρ s P s)(p:¬P):JT (wk c d) ρ s False s:=by
 have q:=hjl (d:=d) (Q:=False) h (λz=>absurd z p)
 have e:(P/\False)↔False:=⟨λz=>z.2,λz=>z.elim⟩
 unfold JT at q ⊢
 rw [q]
 simp
end
end Pu
namespace Pu
open PySem PySem.Spec PyProof.Rows L2 Enc
end Pu
namespace Pu
variable [aO]
open PySem PySem.Spec PyProof.Rows PySem.W L2
open AutoSeq1 (wpAny_loadPart')
abbrev cz (h:Heap)(T:Addr)(a b c:Value):Prop:=h.get? T=some { cls:=.type "tuple",data:=.seq #[a,b,c] }
structure OV (z TI TO i1 i2 i3 l1 l2 l3:Addr):Prop where
 TIz:TI≠z
 TOz:TO≠z
 i1z:i1≠z
 i2z:i2≠z
 X0:i3≠z
 TITO:TI≠TO
 TIi1:TI≠i1
 TIi2:TI≠i2
 YH:TI≠i3
 TOi1:TO≠i1
 TOi2:TO≠i2
 G8:TO≠i3
 i12:i1≠i2
 i13:i1≠i3
 i23:i2≠i3
 l1z:l1≠z
 l1TO:l1≠TO
 l1i1:l1≠i1
 l1i2:l1≠i2
 cq3:l1≠i3
 l2z:l2≠z
 l2TO:l2≠TO
 l2i1:l2≠i1
 l2i2:l2≠i2
 cq4:l2≠i3
 l3z:l3≠z
 TR:l3≠TO
 bqX:l3≠i1
 bqY:l3≠i2
 cq5:l3≠i3
section
variable {prog:Program}{w:World}{A:Around}{E:Value->Shared->Prop}{s:Shared}
theorem gjv {T:Addr}{a b c x:Value}{k:Nat}{Q:Unit->Shared->Prop}(hT:cz s.heap T a b c)
  (h:∀h',h'.get? T=some { cls:=.type "tuple",data:=.seq ((#[a,b,c]:Array Value).setIfInBounds k x) }->Heap.SameBut T s.heap h'->Q () { s with heap:=h' }):
  wpAny (model prog w) A (updateSeq T (·.setIfInBounds k x)) Q E s:=by
 refine wpAny_updateSeq hT rfl (h _ ?_ (Heap.SameBut.update ..))
 rw [Heap.get?_update_self _ hT rfl]
 simp [Obj.mapSeq]
theorem qh {z TI TO i1 i2 i3 l1 l2 l3:Addr}{k1 k2 k3:Nat}{xs ys zs:Array Value}{x y u a b c:Value}{Q:Value->Shared->Prop}(D:OV z TI TO i1 i2 i3 l1 l2 l3)
  (hz:IsZip s.heap z TI TO .none) (hTI:cz s.heap TI (.ref i1) (.ref i2) (.ref i3)) (hTO:cz s.heap TO a b c)
  (h1:s.heap.IsListIter i1 l1 k1) (h2:s.heap.IsListIter i2 l2 k2) (h3:s.heap.IsListIter i3 l3 k3) (hl1:s.heap.IsList l1 xs) (hl2:s.heap.IsList l2 ys) (MV:s.heap.IsList l3 zs) (hx:xs[k1]? = some x) (hy:ys[k2]? = some y) (hu:zs[k3]? = some u)
  (hQ:∀h',IsZip h' z TI TO (rawInt s.heap.objs.size)->cz h' TO x y u->h'.IsListIter i1 l1 (k1+1)->h'.IsListIter i2 l2 (k2+1)->h'.IsListIter i3 l3 (k3+1)->cz h' s.heap.objs.size x y u->h'.objs.size=s.heap.objs.size+1 ->
   (∀c o,c≠z->c≠TO->c≠i1->c≠i2->c≠i3->s.heap.get? c=some o->h'.get? c=some o)->Q (.ref s.heap.objs.size) { s with heap:=h' }):
  wpAny (model prog w) A (Builtin.«zip.__next__» ⟨[.ref z],[]⟩) (λfin s'=>∃v,fin=.done (.ret v)/\Q v s') E s:=by
 show wpAny _ _ (field (.ref z) 2 >>= _) _ _ _
 refine wpAny_bind (wpAny_field hz rfl (x:=.bool false) rfl ?_)
 show wpAny _ _ (field (.ref z) 3 >>= _) _ _ _
 refine wpAny_bind (wpAny_field hz rfl (x:=.ref TI) rfl ?_)
 refine wpAny_bind (wpAny_seqItems hTI rfl ?_)
 show wpAny _ _ (Builtin.SmallTypes.ownedTupleIsFree (.ref z) >>= _) _ _ _
 refine wpAny_bind ?_
 unfold Builtin.SmallTypes.ownedTupleIsFree
 refine wpAny_bind (wpAny_field hz rfl (x:=.none) rfl (wpAny_pure ?_))
 simp only [if_true]
 refine wpAny_bind (wpAny_rule ?_)
 refine wpAny_bind (wpAny_field hz rfl (x:=.ref TO) rfl ?_)
 refine wpAny_bind (wpAny_setField_rec hz (by simp) λh₁ cW hs₁=>?_)
 replace cW:IsZip h₁ z TI TO .ellipsis:=cW
 refine wpAny_bind ?_
 simp only [Kco,Kcv,Kcw,KcG]
 refine wpAny_bind (wpAny_bind (wpAny_onRaise ?_))
 show wpAny _ _ (Builtin.SmallTypes.nextOf (.ref i1) >>= _) _ _ _
 refine wpAny_bind (wpAny_nextOf_list_item (h1.extBut hs₁.extBut D.i1z) (hl1.extBut hs₁.extBut D.l1z) hx λh₂ yK hs₂=>wpAny_pure ?_)
 have je:cz h₂ TO a b c:=hs₂.extBut _ _ D.TOi1 (hs₁.extBut _ _ D.TOz hTO)
 refine wpAny_bind (wpAny_seqItems je rfl ?_)
 refine wpAny_bind (gjv je λh₃ jf bL=>?_)
 replace jf:cz h₃ TO x b c:=jf
 refine wpAny_bind (wpAny_letGo (wpAny_pure ?_))
 refine wpAny_bind (wpAny_bind (wpAny_onRaise ?_))
 show wpAny _ _ (Builtin.SmallTypes.nextOf (.ref i2) >>= _) _ _ _
 refine wpAny_bind (wpAny_nextOf_list_item (((h2.extBut hs₁.extBut D.i2z).extBut hs₂.extBut D.i12.symm).extBut bL.extBut D.TOi2.symm)
  (((hl2.extBut hs₁.extBut D.l2z).extBut hs₂.extBut D.l2i1).extBut bL.extBut D.l2TO) hy λh₄ DM eX=>wpAny_pure ?_)
 have oR:cz h₄ TO x b c:=eX.extBut _ _ D.TOi2 jf
 refine wpAny_bind (wpAny_seqItems oR rfl ?_)
 refine wpAny_bind (gjv oR λh₅ jg cH=>?_)
 replace jg:cz h₅ TO x y c:=jg
 refine wpAny_bind (wpAny_letGo (wpAny_pure ?_))
 refine wpAny_bind (wpAny_bind (wpAny_onRaise ?_))
 show wpAny _ _ (Builtin.SmallTypes.nextOf (.ref i3) >>= _) _ _ _
 refine wpAny_bind (wpAny_nextOf_list_item (((((h3.extBut hs₁.extBut D.X0).extBut hs₂.extBut D.i13.symm).extBut bL.extBut D.G8.symm).extBut eX.extBut D.i23.symm).extBut cH.extBut D.G8.symm)
  (((((MV.extBut hs₁.extBut D.l3z).extBut hs₂.extBut D.bqX).extBut bL.extBut D.TR).extBut eX.extBut D.bqY).extBut cH.extBut D.TR) hu λEa S7 ji=>wpAny_pure ?_)
 have DN:cz Ea TO x y c:=ji.extBut _ _ D.G8 jg
 refine wpAny_bind (wpAny_seqItems DN rfl ?_)
 refine wpAny_bind (gjv DN λfQ sY fG=>?_)
 replace sY:cz fQ TO x y u:=sY
 refine wpAny_bind (wpAny_letGo (wpAny_pure (wpAny_pure ?_)))
 refine wpAny_bind (wpAny_seqItems sY rfl ?_)
 refine wpAny_bind (wpAny_newTuple ?_)
 have hsz:fQ.objs.size=s.heap.objs.size:=by rw [fG.1,ji.1,cH.1,eX.1,bL.1,hs₂.1,hs₁.1]
 have rL:IsZip fQ z TI TO .ellipsis:=fG.extBut _ _ D.TOz.symm (ji.extBut _ _ D.X0.symm (cH.extBut _ _ D.TOz.symm (eX.extBut _ _ D.i2z.symm (bL.extBut _ _ D.TOz.symm (hs₂.extBut _ _ D.i1z.symm cW)))))
 have To:∀c o,c≠z->c≠TO->c≠i1->c≠i2->c≠i3->s.heap.get? c=some o->fQ.get? c=some o:=λc o c1 c2 c3 c4 c5 e=>
  fG.extBut _ _ c2 (ji.extBut _ _ c5 (cH.extBut _ _ c2 (eX.extBut _ _ c4 (bL.extBut _ _ c2 (hs₂.extBut _ _ c3 (hs₁.extBut _ _ c1 e))))))
 have SJ:fQ.IsListIter i1 l1 (k1+1):=((((yK.extBut bL.extBut D.TOi1.symm).extBut eX.extBut D.i12).extBut cH.extBut D.TOi1.symm).extBut ji.extBut D.i13).extBut fG.extBut D.TOi1.symm
 have S4:fQ.IsListIter i2 l2 (k2+1):=((DM.extBut cH.extBut D.TOi2.symm).extBut ji.extBut D.i23).extBut fG.extBut D.TOi2.symm
 have S8:fQ.IsListIter i3 l3 (k3+1):=S7.extBut fG.extBut D.G8.symm
 have D8:z<fQ.objs.size:=Heap.lt_size rL
 show wpAny _ _ (Builtin.SmallTypes.ownedTupleHandOut (.ref z) (.ref fQ.objs.size) >>= _) _ _ _
 refine wpAny_bind ?_
 unfold Builtin.SmallTypes.ownedTupleHandOut
 have rM:IsZip (fQ.push { cls:=.type "tuple",data:=.seq #[x,y,u] }) z TI TO .ellipsis:=Heap.get?_push_of_some _ rL
 refine wpAny_bind (wpAny_setField_rec rM (by simp) λbqT D9 D5=>?_)
 replace D9:IsZip bqT z TI TO (rawInt fQ.objs.size):=D9
 refine wpAny_setField_rec D9 (by simp) λhA XX hsA=>?_
 replace XX:IsZip hA z TI TO (rawInt fQ.objs.size):=XX
 have up:∀c o,c≠z->fQ.get? c=some o->hA.get? c=some o:=λc o c1 e=>hsA.extBut _ _ c1 (D5.extBut _ _ c1 (Heap.get?_push_of_some _ e))
 have hTA:cz hA fQ.objs.size x y u:=hsA.extBut _ _ (Kb8 D8) (D5.extBut _ _ (Kb8 D8) (Heap.get?_push_size _ rfl))
 have hzs:hA.objs.size=fQ.objs.size+1:=by rw [hsA.1,D5.1,Heap.size_push]
 rw [hsz] at XX hTA hzs
 refine wpAny_pure ⟨_,rfl,?_⟩
 show Q (.ref fQ.objs.size) _
 rw [hsz]
 exact hQ hA XX (up _ _ D.TOz sY) (SJ.at λo e=>up _ o D.i1z e) (S4.at λo e=>up _ o D.i2z e) (S8.at λo e=>up _ o D.X0 e) hTA hzs λc o c1 c2 c3 c4 c5 e=>up c o c1 (To c o c1 c2 c3 c4 c5 e)
/-- bh first list ends -/
theorem qN {z TI TO i1 i2 i3 l1 l2 l3:Addr}{k1:Nat}{xs:Array Value}{a b c:Value}{Q:Fin->Shared->Prop}(hh:A.handled=none)(D:OV z TI TO i1 i2 i3 l1 l2 l3)
  (hz:IsZip s.heap z TI TO .none) (hTI:cz s.heap TI (.ref i1) (.ref i2) (.ref i3)) (hTO:cz s.heap TO a b c)
  (h1:s.heap.IsListIter i1 l1 k1) (hl1:s.heap.IsList l1 xs) (hx:xs[k1]? = none)
  (hE:∀h' e,(∀c o,c≠z->c≠i1->s.heap.get? c=some o->h'.get? c=some o)->(∃o,h'.get? e=some o/\o.cls=.type "StopIteration")->E (.ref e) { s with heap:=h' }):
  wpAny (model prog w) A (Builtin.«zip.__next__» ⟨[.ref z],[]⟩) Q E s:=by
 show wpAny _ _ (field (.ref z) 2 >>= _) _ _ _
 refine wpAny_bind (wpAny_field hz rfl (x:=.bool false) rfl ?_)
 show wpAny _ _ (field (.ref z) 3 >>= _) _ _ _
 refine wpAny_bind (wpAny_field hz rfl (x:=.ref TI) rfl ?_)
 refine wpAny_bind (wpAny_seqItems hTI rfl ?_)
 show wpAny _ _ (Builtin.SmallTypes.ownedTupleIsFree (.ref z) >>= _) _ _ _
 refine wpAny_bind ?_
 unfold Builtin.SmallTypes.ownedTupleIsFree
 refine wpAny_bind (wpAny_field hz rfl (x:=.none) rfl (wpAny_pure ?_))
 simp only [if_true]
 refine wpAny_bind (wpAny_rule ?_)
 refine wpAny_bind (wpAny_field hz rfl (x:=.ref TO) rfl ?_)
 refine wpAny_bind (wpAny_setField_rec hz (by simp) λh₁ cW hs₁=>?_)
 replace cW:IsZip h₁ z TI TO .ellipsis:=cW
 refine wpAny_bind ?_
 simp only [Kco,Kcv,Kcw,KcG]
 refine wpAny_bind (wpAny_bind (wpAny_onRaise ?_))
 show wpAny _ _ (Builtin.SmallTypes.nextOf (.ref i1) >>= _) _ _ _
 refine wpAny_bind (wpAny_nextOf_list_end hh (h1.extBut hs₁.extBut D.i1z) (hl1.extBut hs₁.extBut D.l1z) hx λh₂ e hs₂ he=>?_)
 obtain⟨oe,DZ,hce⟩:=he
 have uQ:IsZip h₂ z TI TO .ellipsis:=hs₂ _ _ D.i1z.symm cW
 have Tg:e≠z:=λx=>by subst x;rw [uQ] at DZ;cases DZ;simp at hce
 exact wpAny_setField_rec uQ (by simp) λh₃ _ bL=>hE h₃ e (λc o c1 c3 x=>bL.extBut _ _ c1 (hs₂ _ _ c3 (hs₁.extBut _ _ c1 x))) ⟨oe,bL.extBut _ _ Tg DZ,hce⟩
theorem lV {z TI TO i1 i2 i3 l1 l2 l3:Addr}{k1 k2 k3:Nat}{xs ys zs:Array Value}{x y u a b c:Value}{Q:Option Value->Shared->Prop}(D:OV z TI TO i1 i2 i3 l1 l2 l3)
  (hz:IsZip s.heap z TI TO .none) (hTI:cz s.heap TI (.ref i1) (.ref i2) (.ref i3)) (hTO:cz s.heap TO a b c)
  (h1:s.heap.IsListIter i1 l1 k1) (h2:s.heap.IsListIter i2 l2 k2) (h3:s.heap.IsListIter i3 l3 k3) (hl1:s.heap.IsList l1 xs) (hl2:s.heap.IsList l2 ys) (MV:s.heap.IsList l3 zs) (hx:xs[k1]? = some x) (hy:ys[k2]? = some y) (hu:zs[k3]? = some u)
  (hQ:∀h',IsZip h' z TI TO (rawInt s.heap.objs.size)->cz h' TO x y u->h'.IsListIter i1 l1 (k1+1)->h'.IsListIter i2 l2 (k2+1)->h'.IsListIter i3 l3 (k3+1)->cz h' s.heap.objs.size x y u->h'.objs.size=s.heap.objs.size+1 ->
   (∀c o,c≠z->c≠TO->c≠i1->c≠i2->c≠i3->s.heap.get? c=some o->h'.get? c=some o)->Q (some (.ref s.heap.objs.size)) { s with heap:=h' }):
  wpAny (model prog w) A (pyNext (.ref z)) Q E s:=by
 have hT:s.TypeIs (.ref z) "zip":=⟨_,hz,rfl⟩
 unfold pyNext
 exact wpAny_bind (wpAny_attempt (wpAny_callSpecial?_slot (name:=Str.ofString "__next__") hT F.slot_zip_next
  (wpAny_call_entry F.slot_zip_next hT F.entry_zip_next
   (qh D hz hTI hTO h1 h2 h3 hl1 hl2 MV hx hy hu λh' a1 a2 a3 a4 a5 a6 a7 a8=>wpAny_pure (hQ h' a1 a2 a3 a4 a5 a6 a7 a8)) (F.args_zip_next_1 _))))
theorem nK {z TI TO i1 i2 i3 l1 l2 l3:Addr}{k1:Nat}{xs:Array Value}{a b c:Value}{Q:Option Value->Shared->Prop}(hh:A.handled=none)(D:OV z TI TO i1 i2 i3 l1 l2 l3)
  (hz:IsZip s.heap z TI TO .none) (hTI:cz s.heap TI (.ref i1) (.ref i2) (.ref i3)) (hTO:cz s.heap TO a b c)
  (h1:s.heap.IsListIter i1 l1 k1) (hl1:s.heap.IsList l1 xs) (hx:xs[k1]? = none)
  (hQ:∀h',(∀c o,c≠z->c≠i1->s.heap.get? c=some o->h'.get? c=some o)->Q none { s with heap:=h' }):wpAny (model prog w) A (pyNext (.ref z)) Q E s:=by
 have hT:s.TypeIs (.ref z) "zip":=⟨_,hz,rfl⟩
 unfold pyNext
 refine wpAny_bind (wpAny_attempt (wpAny_callSpecial?_slot (name:=Str.ofString "__next__") hT F.slot_zip_next
  (wpAny_call_entry F.slot_zip_next hT F.entry_zip_next (qN hh D hz hTI hTO h1 hl1 hx λh' e hk he=>?_) (F.args_zip_next_1 _))))
 obtain⟨o,ho,hc⟩:=he
 refine wpAny_bind (wpAny_isInstance (T := "StopIteration") (b:=true) ⟨o,ho,hc⟩ isSubtype_stop ?_)
 exact wpAny_pure (hQ _ hk)
theorem qe (a b c:Value):checkTypeCall "zip" ⟨[a,b,c],[]⟩=pure ():=by kernel_rfl
theorem qI (a b c:Value):checkBuiltinCall "zip.__new__" ⟨[.type "zip",a,b,c],[]⟩=pure ():=by kernel_rfl
theorem jX (a b c d:Value):argsOk "object.__init__" ⟨[a,b,c,d],[]⟩:=by
 unfold argsOk; rw [signature?_of (id := "object.__init__") (n := ['_', '_', 't', 'i', 'n', 'i', '_', '_']) (o := ['t', 'c', 'e', 'j', 'b', 'o']) (by kernel_rfl) F.owner_object]; kernel_rfl
abbrev Gg (h:Heap)(l1:Addr):Heap:=h.push { cls:=.type "list_iterator",data:=.fields #[.ref l1,.int 0 0] }
abbrev Gh (h:Heap)(l1 l2:Addr):Heap:=(Gg h l1).push { cls:=.type "list_iterator",data:=.fields #[.ref l2,.int 0 0] }
abbrev Gi (h:Heap)(l1 l2 l3:Addr):Heap:=(Gh h l1 l2).push { cls:=.type "list_iterator",data:=.fields #[.ref l3,.int 0 0] }
abbrev Gj (h:Heap)(l1 l2 l3:Addr):Heap:=(Gi h l1 l2 l3).push { cls:=.type "tuple",data:=.seq #[.ref h.objs.size,.ref (Gg h l1).objs.size,.ref (Gh h l1 l2).objs.size] }
abbrev Gk (h:Heap)(l1 l2 l3:Addr):Heap:=(Gj h l1 l2 l3).push { cls:=.type "tuple",data:=.seq #[.none,.none,.none] }
abbrev k_ (h:Heap)(l1 l2 l3:Addr):Heap:=(Gk h l1 l2 l3).push { cls:=.type "zip",data:=.fields #[.none,.bool false,.bool false,.ref (Gi h l1 l2 l3).objs.size,.ref (Gj h l1 l2 l3).objs.size] }
set_option maxHeartbeats 4000000 in
theorem pe (l1 l2 l3:Addr)(xs ys zs:Array Value):
  Meets (Builtin.«zip.__new__» ⟨[.type "zip",.ref l1,.ref l2,.ref l3],[]⟩) (λ_ R s=>s.heap.IsList l1 xs/\s.heap.IsList l2 ys/\s.heap.IsList l3 zs /\
   R (.ok (.ret (.ref (Gk s.heap l1 l2 l3).objs.size))) { s with heap:=k_ s.heap l1 l2 l3 }):=
 .of_wp λprog w A R s h=>by
  obtain⟨hp,g,d,tk,os⟩:=s;obtain⟨hl1,hl2,MV,h⟩:=h
  have hsub:=sub_zip
  have hL1:Heap.IsList (Shared.heap ⟨hp,g,d,tk,os⟩) l1 xs:=hl1
  have hL2:Heap.IsList (Shared.heap ⟨hp.push { cls:=.type "list_iterator",data:=.fields #[.ref l1,.int 0 0] },g,d,tk,os⟩) l2 ys:=Heap.IsList.push hl2 _
  have hL3:Heap.IsList (Shared.heap ⟨(hp.push { cls:=.type "list_iterator",data:=.fields #[.ref l1,.int 0 0] }).push { cls:=.type "list_iterator",data:=.fields #[.ref l2,.int 0 0] },g,d,tk,os⟩) l3 zs:=Heap.IsList.push (Heap.IsList.push MV _) _
  wp_walk using wpAny_pyIter_list hL1,wpAny_pyIter_list hL2,wpAny_pyIter_list hL3
  exact⟨_,rfl,h⟩
theorem wG {l1 l2 l3:Addr}{xs ys zs:Array Value}{Q:Value->Shared->Prop}(hl1:s.heap.IsList l1 xs)(hl2:s.heap.IsList l2 ys)(MV:s.heap.IsList l3 zs)
  (h:∀h',IsZip h' (s.heap.objs.size+5) (s.heap.objs.size+3) (s.heap.objs.size+4) .none->cz h' (s.heap.objs.size+3) (.ref s.heap.objs.size) (.ref (s.heap.objs.size+1)) (.ref (s.heap.objs.size+2)) ->
   cz h' (s.heap.objs.size+4) .none .none .none->h'.IsListIter s.heap.objs.size l1 0->h'.IsListIter (s.heap.objs.size+1) l2 0->h'.IsListIter (s.heap.objs.size+2) l3 0->h'.objs.size=s.heap.objs.size+6 ->
   (∀c o,s.heap.get? c=some o->h'.get? c=some o)->Q (.ref (s.heap.objs.size+5)) { s with heap:=h' }):
  wpAny (model prog w) A (call (.type "zip") [.ref l1,.ref l2,.ref l3]) Q E s:=by
 refine callType_new F.called_zip (by decide) (qe _ _ _) (qI _ _ _) (λobj=>jX obj _ _ _) F.entry_zip_new
  (pe l1 l2 l3 xs ys zs) ⟨hl1,hl2,MV,?_⟩
 have z1:(Gg s.heap l1).objs.size=s.heap.objs.size+1:=Heap.size_push ..
 have z2:(Gh s.heap l1 l2).objs.size=s.heap.objs.size+2:=by rw [Heap.size_push,z1]
 have z3:(Gi s.heap l1 l2 l3).objs.size=s.heap.objs.size+3:=by rw [Heap.size_push,z2]
 have z4:(Gj s.heap l1 l2 l3).objs.size=s.heap.objs.size+4:=by rw [Heap.size_push,z3]
 have z5:(Gk s.heap l1 l2 l3).objs.size=s.heap.objs.size+5:=by rw [Heap.size_push,z4]
 have z6:(k_ s.heap l1 l2 l3).objs.size=s.heap.objs.size+6:=by rw [Heap.size_push,z5]
 have p1:∀{c o},(Gk s.heap l1 l2 l3).get? c=some o->(k_ s.heap l1 l2 l3).get? c=some o:=λe=>Heap.get?_push_of_some _ e
 have p2:∀{c o},(Gj s.heap l1 l2 l3).get? c=some o->(k_ s.heap l1 l2 l3).get? c=some o:=λe=>p1 (Heap.get?_push_of_some _ e)
 have p3:∀{c o},(Gi s.heap l1 l2 l3).get? c=some o->(k_ s.heap l1 l2 l3).get? c=some o:=λe=>p2 (Heap.get?_push_of_some _ e)
 have p4:∀{c o},(Gh s.heap l1 l2).get? c=some o->(k_ s.heap l1 l2 l3).get? c=some o:=λe=>p3 (Heap.get?_push_of_some _ e)
 have p5:∀{c o},(Gg s.heap l1).get? c=some o->(k_ s.heap l1 l2 l3).get? c=some o:=λe=>p4 (Heap.get?_push_of_some _ e)
 have p6:∀{c o},s.heap.get? c=some o->(k_ s.heap l1 l2 l3).get? c=some o:=λe=>p5 (Heap.get?_push_of_some _ e)
 have g6:(k_ s.heap l1 l2 l3).get? (Gk s.heap l1 l2 l3).objs.size=some _:=Heap.get?_push_size _ rfl
 have g5:(k_ s.heap l1 l2 l3).get? (Gj s.heap l1 l2 l3).objs.size=some _:=p1 (Heap.get?_push_size _ rfl)
 have g4:(k_ s.heap l1 l2 l3).get? (Gi s.heap l1 l2 l3).objs.size=some _:=p2 (Heap.get?_push_size _ rfl)
 have g3:(k_ s.heap l1 l2 l3).get? (Gh s.heap l1 l2).objs.size=some _:=p3 (Heap.get?_push_size _ rfl)
 have g2:(k_ s.heap l1 l2 l3).get? (Gg s.heap l1).objs.size=some _:=p4 (Heap.get?_push_size _ rfl)
 have g1:(k_ s.heap l1 l2 l3).get? s.heap.objs.size=some _:=p5 (Heap.get?_push_size _ rfl)
 show _/\_
 rw [z3,z4,z5] at g6
 rw [z4] at g5
 rw [z1,z2,z3] at g4
 rw [z2] at g3
 rw [z1] at g2
 rw [z5]
 exact⟨⟨_,g6,rfl⟩,h _ g6 g4 g5 ⟨_,g1,rfl,rfl⟩ ⟨_,g2,rfl,rfl⟩ ⟨_,g3,rfl,rfl⟩ z6 λc o x=>p6 x⟩
end
/-- bh lists at a,b,c as JH stand at each turn,bh items in new triples -/
def Qm (K:PySem.W.Frag)(a b c:Addr):It:=
 ⟨λi H=>∃(xs ys zs:List V) (x y u:V),SqL K H a xs/\SqL K H b ys/\SqL K H c zs/\xs[i]? = some x/\ys[i]? = some y/\zs[i]? = some u,
  λi H v H'=>∃T x y u,v=.ref T/\H T=none/\H'=upd H T (.tup [x,y,u])/\(∀xs,SqL K H a xs->xs[i]? = some x)/\(∀ys,SqL K H b ys->ys[i]? = some y)/\∀zs,SqL K H c zs->zs[i]? = some u,
  λi H=>∃xs:List V,SqL K H a xs/\xs.length<=i⟩
theorem Bl {P:Program}{w:World}{K:PySem.W.Frag}{elts:List Expr}{kk:Nat}{tpos:Pos}{a b c z TI TO i1 i2 i3:Addr}(D:OV z TI TO i1 i2 i3 a b c):
  Turn P w K (.Tuple elts kk tpos) (Qm K a b c) [z,TI,TO,i1,i2,i3] z (λi h=>IsZip h z TI TO .none/\cz h TI (.ref i1) (.ref i2) (.ref i3)/\(∃x y u,cz h TO x y u)/\h.IsListIter i1 a i/\h.IsListIter i2 b i/\h.IsListIter i3 c i) where
 mem:=by simp
 obj:=λi h st d hd=>by
  obtain⟨hz,hTI,⟨x,y,u,hTO⟩,⟨o1,e1,_,d1⟩,⟨o2,e2,_,d2⟩,⟨o3,e3,_,d3⟩⟩:=st
  have e':d=z∨d=TI∨d=TO∨d=i1∨d=i2∨d=i3:=by simpa using hd
  rcases e' with q|q|q|q|q|q
  ·rw [q];exact⟨_,hz,λv q=>nomatch q⟩
  ·rw [q];exact⟨_,hTI,λv q=>nomatch q⟩
  ·rw [q];exact⟨_,hTO,λv q=>nomatch q⟩
  ·rw [q];exact⟨o1,e1,λv q=>by rw [d1] at q;cases q⟩
  ·rw [q];exact⟨o2,e2,λv q=>by rw [d2] at q;cases q⟩
  ·rw [q];exact⟨o3,e3,λv q=>by rw [d3] at q;cases q⟩
 keep:=λi h h' st k=>by
  obtain⟨hz,hTI,⟨x,y,u,hTO⟩,h1,h2,h3⟩:=st
  exact⟨k z (by simp) _ hz,k TI (by simp) _ hTI,⟨x,y,u,k TO (by simp) _ hTO⟩,h1.at λo q=>k i1 (by simp) o q,h2.at λo q=>k i2 (by simp) o q,h3.at λo q=>k i3 (by simp) o q⟩
 item:=by
  intro X hP hw hK hc i pins s σ H E I hf st hg
  subst hP hw hK
  obtain⟨hz,hTI,⟨x0,y0,u0,hTO⟩,h1,h2,h3⟩:=st
  obtain⟨xs,ys,zs,x,y,v,AN,D3,XS,hx,hy,hv⟩:=hg
  obtain⟨its,rv,p,_⟩:=I.list AN
  obtain⟨its2,NO,p2,_⟩:=I.list D3
  obtain⟨bqV,rv3,p3,_⟩:=I.list XS
  obtain⟨u,hu,ru⟩:=rv.get hx
  obtain⟨u2,MX,ru2⟩:=NO.get hy
  obtain⟨u3,hu3,ru3⟩:=rv3.get hv
  have hzl:z<s.heap.objs.size:=Heap.lt_size hz
  refine lV D hz hTI hTO h1 h2 h3 p.isList p2.isList p3.isList (x:=u) (y:=u2) (u:=u3) (by simpa using hu) (by simpa using MX) (by simpa using hu3) λh' z' TO' KZ Ip S5 hT hsz hk=>?_
  refine⟨_,rfl,wpAny_letOwnedTupleGo_zip (s:={ s with heap:=h' }) z' λh'' z'' sb=>?_⟩
  have hT2:h''.get? s.heap.objs.size=some { cls:=.type "tuple",data:=.seq #[u,u2,u3] }:=(sb.2 _ (Kb8 hzl)).trans hT
  have new:ObjOk X.prog X.w (upd H s.heap.objs.size (.tup [x,y,v])) h'' s.heap.objs.size (.tup [x,y,v]):=
   ⟨by show 3<=sizeLine;decide,[u,u2,u3],.cons ru (.cons ru2 (.cons ru3 .nil)),⟨_,hT2,rfl,_,rfl⟩⟩
  have I1:Inv X pins σ (upd H s.heap.objs.size (.tup [x,y,v])) { s with heap:=h'' }:=
   I.turnedNew (t':=s.toks) (ch:=[z,TI,TO,i1,i2,i3]) (λc o hb q=>(sb.2 c (λq'=>hb (by simp [q']))).trans (hk c o (λq'=>hb (by simp [q'])) (λq'=>hb (by simp [q'])) (λq'=>hb (by simp [q'])) (λq'=>hb (by simp [q'])) (λq'=>hb (by simp [q'])) q)) hf (Kak _) new
  refine⟨.ref s.heap.objs.size,_,I1,rfl,⟨_,x,y,v,rfl,I.hok.fresh (Kak _),rfl,λl hl=>by rw [I.list_inj hl AN];exact hx,λl hl=>by rw [I.list_inj hl D3];exact hy,λl hl=>by rw [I.list_inj hl XS];exact hv⟩,⟨z'',?_,⟨u,u2,u3,?_⟩,?_,?_,?_⟩,λc Iu=>?_⟩
  ·exact (sb.2 _ D.TIz).trans (hk _ _ D.TIz D.TITO D.TIi1 D.TIi2 D.YH hTI)
  ·exact (sb.2 _ D.TOz).trans TO'
  ·exact KZ.at λo q=>(sb.2 _ D.i1z).trans q
  ·exact Ip.at λo q=>(sb.2 _ D.i2z).trans q
  ·exact S5.at λo q=>(sb.2 _ D.X0).trans q
  ·have hlt:c<s.heap.objs.size:=by
    have e':c=z∨c=TI∨c=TO∨c=i1∨c=i2∨c=i3:=by simpa using Iu
    rcases e' with q|q|q|q|q|q
    ·rw [q];exact hzl
    ·rw [q];exact Heap.lt_size hTI
    ·rw [q];exact Heap.lt_size hTO
    ·rw [q];obtain⟨_,e1,_⟩:=h1;exact Heap.lt_size e1
    ·rw [q];obtain⟨_,e2,_⟩:=h2;exact Heap.lt_size e2
    ·rw [q];obtain⟨_,e3,_⟩:=h3;exact Heap.lt_size e3
   rw [upd_ne (KcD hlt)]
   exact (hf c Iu).1
 done:=by
  intro X hP hw hK hc i pins s σ H E I hf st hg
  subst hP hw hK
  obtain⟨hz,hTI,⟨x0,y0,u0,hTO⟩,h1,h2,h3⟩:=st
  obtain⟨xs,AN,hend⟩:=hg
  obtain⟨its,rv,p,_⟩:=I.list AN
  have l1:=rv.length
  have he:its.toArray[i]? = none:=by simp;omega
  exact nK (I.ok.hd hc) D hz hTI hTO h1 p.isList he λh' hk=>⟨rfl,I.turnedL (t':=s.toks) (ch:=[z,TI,TO,i1,i2,i3]) (λc o hb q=>
   hk c o (λq'=>hb (by simp [q'])) (λq'=>hb (by simp [q'])) q) hf⟩
 self:=λA i s Q E st h=>wpAny_pyIter_zip st.1 h
def Lf (K:PySem.W.Frag)(ta:TA):TI:=λσ H R=>ta σ H λvs H1=>∃a b c xs ys zs,vs=[.ref a,.ref b,.ref c]/\SqL K H1 a xs/\SqL K H1 b ys/\SqL K H1 c zs/\R (Qm K a b c) H1
theorem Jg {X:Cx}{e e2 e3:Expr}{ta:TA}{p pos tpos:Pos}{elts:List Expr}{kk:Nat}(hg:Gl X "zip")(hm:X.mg "zip" = none)(ha:PA X [e,e2,e3] ta)
  (hs:starEach [e,e2,e3] X.env=(false,eval e X.env)::starEach [e2,e3] X.env:=by rfl) (hpl:(backTo pos (starEach [e2,e3] X.env)).any (·.1)=false:=by rfl):
  PI X (.Tuple elts kk tpos) (.Call (.Name "zip" p) [e,e2,e3] [] pos) (Lf X.K ta):=by
 refine⟨λpins s σ H R I h=>?_⟩
 refine Call_ (ld_blt I hg hm PyProof.Rows.boot_zip (PyProof.Rows.callWith_type1 (thn (ha.run pos pins s σ H _ I h) λus s1 ⟨vs,H1,I1,r1,q1⟩=>?_) hs hpl))
 obtain⟨a,b,c,xs,ys,zs,ex,AN,D3,XS,q⟩:=q1
 subst ex
 cases r1 with
 |cons r rr=>
  cases rr with
  |cons r' rr=>
   cases rr with
   |cons r'' rr=>
    cases rr
    cases r
    cases r'
    cases r''
    obtain⟨its,rv,p1,_⟩:=I1.list AN
    obtain⟨its2,NO,p2,_⟩:=I1.list D3
    obtain⟨bqV,rv3,p3,_⟩:=I1.list XS
    have la:a<s1.heap.objs.size:=p1.lt
    have lb:b<s1.heap.objs.size:=p2.lt
    have lc:c<s1.heap.objs.size:=p3.lt
    refine wG p1.isList p2.isList p3.isList λh' hz hTI hTO h1 h2 h3 hsz hk=>wpAny_pyIter_zip hz ?_
    have I2:Inv X pins σ H1 { s1 with heap:=h' }:=I1.kept (t':=s1.toks) hk
    have ap:∀(n a b c:Nat),a<n->b<n->c<n->OV (n+5) (n+3) (n+4) n (n+1) (n+2) a b c:=λn a b c la lb lc=>by
     constructor <;> (intro e;have e':(_:Nat)=(_:Nat):=e;clear e;omega)
    refine⟨s1.heap.objs.size+5,[s1.heap.objs.size+5,s1.heap.objs.size+3,s1.heap.objs.size+4,s1.heap.objs.size,s1.heap.objs.size+1,s1.heap.objs.size+2],_,_,H1,rfl,I2,Bl (ap s1.heap.objs.size a b c la lb lc),⟨hz,hTI,⟨_,_,_,hTO⟩,h1,h2,h3⟩,λd Iu=>?_,q⟩
    have e':d=s1.heap.objs.size+5∨d=s1.heap.objs.size+3∨d=s1.heap.objs.size+4∨d=s1.heap.objs.size∨d=s1.heap.objs.size+1∨d=s1.heap.objs.size+2:=by simpa using Iu
    have hle:s1.heap.objs.size<=d:=by
     rcases e' with z|z|z|z|z|z
     ·rw [z];exact Ka9 _ _
     ·rw [z];exact Ka9 _ _
     ·rw [z];exact Ka9 _ _
     ·rw [z];exact Kak _
     ·rw [z];exact Ka9 _ _
     ·rw [z];exact Ka9 _ _
    exact I1.fpOk hle (I1.hok.fresh hle)
def e_:List PyData->List PyData->List PyData->List PyData
 |d::ds,e::es,g::gs=>.tuple [d,e,g]::e_ ds es gs
 |_,_,_=>[]
theorem sL:∀{ds es gs:List PyData} {i:Nat} {d:PyData},(e_ ds es gs)[i]? = some d->∃a b c,ds[i]? = some a/\es[i]? = some b/\gs[i]? = some c/\d=.tuple [a,b,c]
 |[],_,_,_,_,h=>by simp [e_] at h
 |_::_,[],_,_,_,h=>by simp [e_] at h
 |_::_,_::_,[],_,_,h=>by simp [e_] at h
 |a::ds,b::es,c::gs,0,d,h=>by
  have e:PyData.tuple [a,b,c]=d:=Option.some.inj h
  exact⟨a,b,c,rfl,rfl,rfl,e.symm⟩
 |a::ds,b::es,c::gs,i+1,d,h=>sL (ds:=ds) (es:=es) (gs:=gs) (i:=i) h
theorem sM:∀(ds es gs:List PyData),ds.length=es.length->ds.length=gs.length->(e_ ds es gs).length=ds.length
 |[],_,_,_,_=>by simp [e_]
 |_::ds,[],_,h,_=>by simp at h
 |_::ds,_::_,[],_,h=>by simp at h
 |_::ds,_::es,_::gs,h1,h2=>by
  show (e_ ds es gs).length+1=ds.length+1
  rw [sM ds es gs (by simpa using h1) (by simpa using h2)]
/-- zip of three lists eA are as long as one Hi -/
def SI.fR (e e2 e3:SE):SI where
 t:=λK=>Lf K (tCons (e.t K) (tCons (e2.t K) (tCons (e3.t K) tNil)))
 ev:=λρ s=>(e.ev ρ s).bind λx=>(e2.ev ρ x.2).bind λy=>(e3.ev ρ y.2).bind λz=>match x.1.1,y.1.1,z.1.1 with
  |.list ds,.list es,.list gs=>if ds.length=es.length/\ds.length=gs.length then some (e_ ds es gs,z.2) else none
  |_,_,_=>none
 ok:=by
  intro K sk F H σ ρ aj s ds s' R p h q
  obtain⟨⟨⟨x,fl⟩,s1⟩,h1,h⟩:=aL h
  obtain⟨⟨⟨y,Pc⟩,s2⟩,h2,h⟩:=aL h
  obtain⟨⟨⟨z,Pd⟩,s3⟩,h3,h⟩:=aL h
  dsimp only at h
  split at h
  ·rename_i ds es gs
   split at h
   ·rename_i hl
    cases h
    refine e.ok K p h1 λv F1 H1 as st1 k1 r1 f1=>?_
    refine e2.ok K (p.next st1 k1) h2 λw F2 H2 bs st2 k2 r2 f2=>?_
    have p2:=(p.next st1 k1).next st2 k2
    refine e3.ok K p2 h3 λu F3 H3 gs' st3 k3 r3 f3=>?_
    obtain⟨a,xs,cs,rfl,ha,hr,_⟩:=((r1.mono st2.sub).mono st3.sub).aC
    obtain⟨b,ys,cs',rfl,hb,hr',_⟩:=(r2.mono st3.sub).aC
    obtain⟨c,zs,cqX,rfl,hc,bqQ,_⟩:=r3.aC
    refine⟨a,b,c,xs,ys,zs,rfl,.inl (.inl (st3.sub' _ _ ha)),.inl (.inl (st3.sub' _ _ hb)),.inl (.inl (st3.sub' _ _ hc)),q _ F3 H3 ((st1.trans st2).trans st3) k3 λF4 H4 i s1 s2=>?_⟩
    have hx:SqL K H4 a xs:=.inl (.inl (s2 _ _ (s1 _ _ ha)))
    have hy:SqL K H4 b ys:=.inl (.inl (s2 _ _ (s1 _ _ hb)))
    have hz:SqL K H4 c zs:=.inl (.inl (s2 _ _ (s1 _ _ hc)))
    refine⟨λd hd=>?_,λhq=>?_⟩
    ·obtain⟨d1,d2,d3,g1,g2,g3,rfl⟩:=sL hd
     obtain⟨v1,b1,e1,q1⟩:=hr.get g1
     obtain⟨v2,b2,e2,q2⟩:=hr'.get g2
     obtain⟨v3,b3,e3,q3⟩:=bqQ.get g3
     refine⟨⟨xs,ys,zs,v1,v2,v3,hx,hy,hz,e1,e2,e3⟩,λx H5 hu=>?_⟩
     obtain⟨T,x1,x2,x3,rfl,nT,rfl,z1,z2,z3⟩:=hu
     have z1:=z1 _ hx
     have z2:=z2 _ hy
     have z3:=z3 _ hz
     rw [e1] at z1
     rw [e2] at z2
     rw [e3] at z3
     cases z1
     cases z2
     cases z3
     have sa:br F4 H4 (upd F4 T (.tup [v1,v2,v3])) (upd H4 T (.tup [v1,v2,v3])):=.alloc s2 nT
     exact⟨_,_,sa,.tup upd_same (.cons ((q1.mono s1).mono sa.sub) (.cons ((q2.mono s1).mono sa.sub) (.cons ((q3.mono s1).mono sa.sub) .nil)))⟩
    ·refine⟨xs,hx,?_⟩
     rw [sM _ _ _ hl.1 hl.2] at hq
     rw [hr.len]
     exact hq
   ·cases h
  ·cases h
def fR {α β γ:Type}:List α->List β->List γ->List (T3 α β γ)
 |x::xs,y::ys,z::zs=>T3.mk x y z::fR xs ys zs
 |_,_,_=>[]
theorem sN {α β γ:Type}[Enc α][Enc β][Enc γ]:∀(xs:List α) (ys:List β) (zs:List γ),e_ (xs.map Enc.enc) (ys.map Enc.enc) (zs.map Enc.enc)=(fR xs ys zs).map Enc.enc
 |[],_,_=>by simp [e_,fR]
 |_::_,[],_=>by simp [e_,fR]
 |_::_,_::_,[]=>by simp [e_,fR]
 |x::xs,y::ys,z::zs=>by
  simp only [Kal,e_,fR,sN xs ys zs]
  rfl
theorem JI.fR {α β γ:Type}[Enc α][Enc β][Enc γ]{a b c:SE}{ρ:List Slot}{s s1 s2 s3:ae}{w1 w2 w3:Bool}{xs:List α}{ys:List β}{zs:List γ}(ha:JE a ρ s xs s1 w1)(hb:JE b ρ s1 ys s2 w2)(hc:JE c ρ s2 zs s3 w3)(hl:xs.length=ys.length/\xs.length=zs.length):JI (SI.fR a b c) ρ s (fR xs ys zs) s3:=by
 obtain⟨_,ea,_⟩:=ha;obtain⟨_,eb,_⟩:=hb;obtain⟨_,ec,_⟩:=hc
 unfold JI
 show ((a.ev ρ s).bind λx=>(b.ev ρ x.2).bind λy=>(c.ev ρ y.2).bind λz=>match x.1.1,y.1.1,z.1.1 with
  |.list ds,.list es,.list gs=>if ds.length=es.length/\ds.length=gs.length then some (e_ ds es gs,z.2) else none
  |_,_,_=>none)=_
 rw [ea]
 simp only [Kae]
 rw [eb]
 simp only [Kae]
 rw [ec]
 show (if (xs.map Enc.enc).length=(ys.map Enc.enc).length/\(xs.map Enc.enc).length=(zs.map Enc.enc).length then some (e_ (xs.map Enc.enc) (ys.map Enc.enc) (zs.map Enc.enc),s3) else none)=_
 rw [if_pos (by simp only [Kaf];exact hl),sN]
theorem xP {α β γ:Type}(f:Nat->α)(g:Nat->β)(h:Nat->γ)(n:Nat):fR ((Kac n).map f) ((Kac n).map g) ((Kac n).map h)=(Kac n).map λi=>T3.mk (f i) (g i) (h i):=by
 have key:∀xs:List Nat,fR (xs.map f) (xs.map g) (xs.map h)=xs.map λi=>T3.mk (f i) (g i) (h i):=λxs=>by
  induction xs with
  |nil=>rfl
  |cons x xs ih=>rw [Kal,Kal,Kal,Kal,<-ih];rfl
 exact key _
end Pu
namespace L2
open PySem PySem.Spec PyProof.Rows
end L2
namespace Pu
open PySem PySem.Spec PyProof.Rows L2 Enc
end Pu
namespace Pu
open PySem L2 Enc
def Wm:SS:=SS.ag (K7 (SE.ne (ak 0) (SE.lst (fK))) (MY (mG (SI.list (ak 0)) (aY 1) (cN) (K7 (SE.ne (ak 1) (SE.lst (fK))) (SE.ge (X5 (ak 1)) (SE.ac 1))) [1] (by decide))))
def exq:Fn:=fnOf 1 1 Wm
def Ml (bA:List (List Int)):Bool:=
 (decide ((bA≠([]:List (List Int)))/\((Kc5 (Kaj (λ(x1:List Int)=>(decide ((x1≠([]:List Int))/\((1:Int)<=(pq x1))))) bA) id)=true)))
def CL (bA:List (List Int)):Prop:=
 ((bA≠([]:List (List Int)))->((∀x1∈bA,((x1≠([]:List Int))->x1≠[]))/\bA.length<=100000))
theorem tu (bA:List (List Int))(s:ae)(h0:CL bA):JF exq [.e bA] s (Ml bA) s false:=by
 unfold CL at h0
 have h5:=h0
 refine iL rfl ?_
 unfold Ml Wm
 show JB _ [.e bA,.emp] _ _
 exact JB.ag (PF (JE.ne (α:=List (List Int)) (aq rfl) (JE.lst (xs:=[]) JA.nil)) (λhq=>(match h5 hq with|⟨h4,h3⟩=>tZ (JE.all (BX (λ(x1:List Int)=>[.e bA,.e x1]) (JI.list (aq rfl)) (λ_=>rfl) (λx1 hx=>(have h2:=h4 x1 hx;PF (JE.ne (α:=List Int) (aq rfl) (JE.lst (xs:=[]) JA.nil)) (λhq=>(have h1:=h2 hq;JE.ge (JE.bq6 (aq rfl) h1) (JE.ac 1))))) h3)))))
structure bI where
 own_years:List (List Int)
 spots:List (Int×Int)
 lengths:List Int
 firsts:List Int
 total:Int
def bE:List Str:=["own_years", "spots", "lengths", "firsts", "total"]
def bF (v:bI):List PyData:=[enc v.own_years,enc v.spots,enc v.lengths,enc v.firsts,enc v.total]
theorem LM (v:bI):(bE.zip (bF v)).lookup ("own_years" : Str)=some (enc v.own_years):=rfl
theorem QU (v:bI):(bE.zip (bF v)).lookup ("spots" : Str)=some (enc v.spots):=rfl
theorem OD (v:bI):(bE.zip (bF v)).lookup ("lengths" : Str)=some (enc v.lengths):=rfl
theorem Gz (v:bI):(bE.zip (bF v)).lookup ("firsts" : Str)=some (enc v.firsts):=rfl
theorem LZ (v:bI):(bE.zip (bF v)).lookup ("total" : Str)=some (enc v.total):=rfl
def OO (C:Str->Addr):SS:=SS.ac (jd (K3 (ST.ac (SE.ag exq (cK (ak 1) (dK))))) (Iz) (SS.am)) (SS.ac (PU (C "Calendar") 0 "own_years" (mG (SI.list (ak 1)) (aY 3) (cN) (PJ (ak 3)) [3] (by decide))) (SS.ac (PU (C "Calendar") 0 "spots" (SE.TV (IC (ak 1)) (SG.tup (iK (aY 4) (iK (aY 3) (jK)))) (cN) (D7 (lu (ak 3))) (aY 5) (cN) (SE.tup (eK (ak 4) (eK (ak 5) (fK)))) [4,3,5] [5] (by decide) (by decide))) (SS.ac (PU (C "Calendar") 0 "lengths" (SE.TV (SI.list (ak 1)) (aY 3) (cN) (SI.list (ak 3)) (aY 2) (cN) (ak 2) [3,2] [2] (by decide) (by decide))) (SS.Ks (C "Calendar") 0 2 "firsts" "total" "lengths"))))
def Rx (C:Str->Addr):Cb:=KS (C "Calendar") 1 4 (OO C)
def sR (bA:List (List Int)):bI:=
 if ¬((Ml bA)=true) then
 (bI.mk default default default default default)
 else
 lt ((Kaj (λ(x1:List Int)=>x1) bA)) λAb=>
 lt ((Kbg (λ(x2:Int×(List Int))=>(Kaj (λ(x3:Int)=>(x2.1,x3)) (rng 0 (x2.2.length:Int)))) (aX 0 bA))) λGI=>
 lt ((Kbg (λ(x4:List Int)=>(Kaj (λ(x5:Int)=>x5) x4)) bA)) λBJ=>
 lt (eu 0 BJ) λR4=>
 lt (KbW BJ) λRT=>
 (bI.mk Ab GI BJ R4 RT)
def x7 (bA:List (List Int)):Prop:=
 CL bA/\((¬((Ml bA)=true))->False)/\(¬(¬((Ml bA)=true))->(bA.length<=100000/\(bT ((Kaj (λ(x1:List Int)=>x1) bA)) λAb=>
 (∀x2∈(aX 0 bA),(-1000000<=(x2.2.length:Int)/\(x2.2.length:Int)<=1000000))/\(Kbg (λ(x2:Int×(List Int))=>(Kaj (λ(x3:Int)=>(x2.1,x3)) (rng 0 (x2.2.length:Int)))) (aX 0 bA)).length<=100000/\(bT ((Kbg (λ(x2:Int×(List Int))=>(Kaj (λ(x3:Int)=>(x2.1,x3)) (rng 0 (x2.2.length:Int)))) (aX 0 bA))) λGI=>
 (Kbg (λ(x4:List Int)=>(Kaj (λ(x5:Int)=>x5) x4)) bA).length<=100000/\(bT ((Kbg (λ(x4:List Int)=>(Kaj (λ(x5:Int)=>x5) x4)) bA)) λBJ=>
 BJ.length<=100000)))))
theorem eqn (C:Str->Addr)(bA:List (List Int))(s:ae)(h0:x7 bA):Oh (C "Calendar") (Rx C) [.e bA] s bE (bF (sR bA)) s:=by
 unfold x7 at h0
 obtain⟨h1,h12,h13⟩:=h0
 refine Oh.of rfl λxo=>?_
 unfold sR OO
 show JB _ [.obj (C "Calendar") xo [] [],.e bA,.emp,.emp,.emp,.emp] _ (Qj (C "Calendar") xo bE bF s (if ¬((Ml bA)=true) then
 (bI.mk default default default default default)
 else
 lt ((Kaj (λ(x1:List Int)=>x1) bA)) λAb=>
 lt ((Kbg (λ(x2:Int×(List Int))=>(Kaj (λ(x3:Int)=>(x2.1,x3)) (rng 0 (x2.2.length:Int)))) (aX 0 bA))) λGI=>
 lt ((Kbg (λ(x4:List Int)=>(Kaj (λ(x5:Int)=>x5) x4)) bA)) λBJ=>
 lt (eu 0 BJ) λR4=>
 lt (KbW BJ) λRT=>
 (bI.mk Ab GI BJ R4 RT)))
 refine GX (P6 (JT.ac (tZ (JE.ag (aK (aq rfl) (bK)) (tu bA _ h1))))) ?_ (λhq=>(h12 hq).elim) ?_
 ·intro hq
  have h2:=h12 hq
  exact h2.elim
 intro hq
 obtain⟨h3,h11⟩:=h13 hq
 refine GU ?_
 refine bS λAb e1=>?_
 obtain⟨h6,h5,h10⟩:=cI h11 e1
 refine JB.ac (aH:=[.obj (C "Calendar") xo ["own_years"] [enc Ab],.e bA,.emp,.emp,.emp,.emp]) (hxr rfl (JE.lc0 (λ(x1:List Int)=>[.obj (C "Calendar") xo [] [],.e bA,.emp,.e x1,.emp,.emp]) (JI.list (aq rfl)) (λ_=>rfl) (λx1 _=>hqu (aq rfl)) h3) e1 (by decide) (by decide) rfl) ?_
 refine bS λGI e2=>?_
 obtain⟨h7,h9⟩:=cI h10 e2
 refine JB.ac (aH:=[.obj (C "Calendar") xo ["own_years", "spots"] [enc Ab,enc GI],.e bA,.emp,.emp,.emp,.emp]) (hxr rfl (JE.M9 (λ(x2:Int×(List Int))=>[.obj (C "Calendar") xo ["own_years"] [enc Ab],.e bA,.emp,.e x2.2,.e x2.1,.emp]) (λ(x2:Int×(List Int)) (x3:Int)=>[.obj (C "Calendar") xo ["own_years"] [enc Ab],.e bA,.emp,.e x2.2,.e x2.1,.e x3]) (M3 (aq rfl)) (λ_=>rfl) (λ_ _=>rfl) (λx2 hx=>(have h4:=h6 x2 hx;MZ (hxa (aq rfl)) h4)) (λx2 _ x3 _=>PV (gK (aq rfl) (gK (aq rfl) (JA.nil)))) h5) e2 (by decide) (by decide) rfl) ?_
 refine bS λBJ e3=>?_
 have h8:=cI h9 e3
 refine JB.ac (aH:=[.obj (C "Calendar") xo ["own_years", "spots", "lengths"] [enc Ab,enc GI,enc BJ],.e bA,.emp,.emp,.emp,.emp]) (hxr rfl (JE.M9 (λ(x4:List Int)=>[.obj (C "Calendar") xo ["own_years", "spots"] [enc Ab,enc GI],.e bA,.emp,.e x4,.emp,.emp]) (λ(x4:List Int) (x5:Int)=>[.obj (C "Calendar") xo ["own_years", "spots"] [enc Ab,enc GI],.e bA,.e x5,.e x4,.emp,.emp]) (JI.list (aq rfl)) (λ_=>rfl) (λ_ _=>rfl) (λx4 _=>JI.list (aq rfl)) (λx4 _ x5 _=>aq rfl) h7) e3 (by decide) (by decide) rfl) ?_
 refine bS λR4 e4=>?_
 refine bS λRT e5=>?_
 refine JB.am (aH:=[.obj (C "Calendar") xo ["own_years", "spots", "lengths", "firsts", "total"] [enc Ab,enc GI,enc BJ,enc R4,enc RT],.e bA,.emp,.emp,.emp,.emp]) (JN.Mm rfl ⟨by decide,by decide,by decide,by decide,by decide,by show 2<6;decide⟩ rfl h8 e4 e5 rfl rfl) ?_
 exact⟨_,rfl⟩
structure zY where
 Jb:bI
 Nz:List (Tx×Fe)
def LV (C:Str->Addr):SS:=SS.ag (SE.ag ejp (cK (SE.tup (eK (SE.lst (fK)) (eK (SE.ac 0) (eK (iR (C "Calendar") 0 "total") (eK (ak 1) (fK)))))) (dK)))
def Om (C:Str->Addr):Fn:=fnOf 2 0 (LV C)
def Ho (aa:bI)(aW:List Int):qy:=
 (Ry (T4.mk ([]:List Int) (0:Int) aa.total aW))
def v8 (aa:bI)(aW:List Int):Prop:=
 CJ (T4.mk ([]:List Int) (0:Int) aa.total aW)
theorem Vy (C:Str->Addr)(aa:bI)(aW:List Int)(s:ae)(h0:v8 aa aW):JF (Om C) [.ins (C "Calendar") bE (bF aa),.e aW] s (Ho aa aW) s true:=by
 unfold v8 at h0
 have h1:=h0
 refine iL rfl ?_
 unfold Ho LV
 show JB _ [.ins (C "Calendar") bE (bF aa),.e aW] _ _
 exact JB.ag (JE.ag (aK (JE.N8 (JA.cons (JE.lst (xs:=[]) JA.nil) (gK (JE.ac 0) (gK (jc rfl (LZ aa)) (BU (aq rfl) (JA.nil)))))) (bK)) (tD (T4.mk ([]:List Int) (0:Int) aa.total aW) _ h1))
noncomputable def Ri (C:Str->Addr):SS:=SS.ac (GY (SE.ag Kh (cK (ak 1) (cK (SE.ac 0) (dK))))) (SS.ac (GY (SE.ag Kh (cK (ak 2) (cK (SE.ac 0) (dK))))) (SS.ac (PL 3 (SB.own (SE.lst (fK)))) (SS.ac (hxd (SI.fR (iR (C "Calendar") 0 "firsts") (iR (C "Calendar") 0 "lengths") (iR (C "Calendar") 0 "spots")) (SG.tup (iK (aY 4) (iK (aY 5) (iK (SG.tup (iK (aY 6) (iK (aY 7) (jK)))) (jK))))) (kJ [4,5,6,7] (jd (wk (ST.ac (hxc (ak 7) (ak 1))) (ST.ac (tX (ak 2) (ak 5)))) (GS 3 (gZ (ak 4) (ak 2))) (SS.am)))) (K8 3 (SS.ag (SE.meth (C "Calendar") 0 "set_of_cycle" (Om C) (cK (ak 3) (dK))))))))
noncomputable def VW (C:Str->Addr):Fn:=fnOf 3 5 (Ri C)
def LS (iZ:Int)(aR:Int)(st1:(List Int))(x1:T3 Int Int (Int×Int)):(List Int):=
 if (x1.z.2=iZ)/\(aR<x1.y) then
 lt (st1++[(x1.x+aR)]) λfN=>
 fN
 else
 st1
def VJ (iZ:Int)(aR:Int)(st1:(List Int))(x1:T3 Int Int (Int×Int)):Prop:=
 (((x1.z.2=iZ)/\(aR<x1.y))->st1.length<100000)
def v5 (aa:bI)(iZ:Int)(aR:Int):qy:=
 lt (([]:List Int)) λcf=>
 lt (Ka2 (LS iZ aR) cf (fR aa.firsts aa.lengths aa.spots)) λp1=>
 (Ho aa p1)
def z_ (aa:bI)(iZ:Int)(aR:Int):Prop:=
 oz iZ (0:Int)/\oz aR (0:Int)/\(bT (([]:List Int)) λcf=>
 ((aa.firsts.length)=(aa.lengths.length)/\(aa.firsts.length)=(aa.spots.length))/\fg (LS iZ aR) (VJ iZ aR) (fR aa.firsts aa.lengths aa.spots) cf/\(bT (Ka2 (LS iZ aR) cf (fR aa.firsts aa.lengths aa.spots)) λp1=>
 v8 aa p1))
theorem fX (C:Str->Addr)(aa:bI)(iZ:Int)(aR:Int)(s:ae)(h0:z_ aa iZ aR):JF (VW C) [.ins (C "Calendar") bE (bF aa),.e iZ,.e aR] s (v5 aa iZ aR) s true:=by
 unfold z_ at h0
 obtain⟨h1,h2,h9⟩:=h0
 refine iL rfl ?_
 unfold v5 Ri
 show JB _ [.ins (C "Calendar") bE (bF aa),.e iZ,.e aR,.emp,.emp,.emp,.emp,.emp] _ _
 refine JB.ac (aH:=[.ins (C "Calendar") bE (bF aa),.e iZ,.e aR,.emp,.emp,.emp,.emp,.emp]) (K2 (JE.ag (aK (aq rfl) (aK (JE.ac 0) (bK))) (OP iZ (0:Int) _ h1))) ?_
 refine JB.ac (aH:=[.ins (C "Calendar") bE (bF aa),.e iZ,.e aR,.emp,.emp,.emp,.emp,.emp]) (K2 (JE.ag (aK (aq rfl) (aK (JE.ac 0) (bK))) (OP aR (0:Int) _ h2))) ?_
 refine bS λcf e1=>?_
 obtain⟨h3,h6,h8⟩:=cI h9 e1
 refine JB.ac (aH:=[.ins (C "Calendar") bE (bF aa),.e iZ,.e aR,.aS (Kaj enc cf) true,.emp,.emp,.emp,.emp]) (JN.aS (X8 (JE.lst (xs:=[]) JA.nil)) e1) ?_
 refine bS λp1 e3=>?_
 have h7:=cI h8 e3
 refine JB.ac (Th (J:=λ(st1:(List Int))=>[.ins (C "Calendar") bE (bF aa),.e iZ,.e aR,.aS (Kaj enc st1) true,.emp,.emp,.emp,.emp]) (R:=λ(st1:(List Int)) (x1:T3 Int Int (Int×Int))=>[.ins (C "Calendar") bE (bF aa),.e iZ,.e aR,.aS (Kaj enc st1) true,.e x1.x,.e x1.y,.e x1.z.1,.e x1.z.2]) (f:=(LS iZ aR)) (d:=(VJ iZ aR)) (st:=cf) (JI.fR (jc rfl (Gz aa)) (jc rfl (OD aa)) (jc rfl (QU aa)) h3) rfl (λ_ _=>rfl) ?_ h6 e3) ?_
 ·intro st1 x1 hd
  unfold VJ at hd
  have h5:=hd
  unfold LS
  refine oQ ?_
  refine MU (hjl (JT.ac (oV (aq rfl) (aq rfl))) (λ_=>JT.ac (wW (aq rfl) (aq rfl)))) ?_ ?_
  ·intro hq
   have h4:=h5 hq
   refine bS λfN e2=>?_
   refine JB.am (aH:=[.ins (C "Calendar") bE (bF aa),.e iZ,.e aR,.aS (Kaj enc fN) true,.e x1.x,.e x1.y,.e x1.z.1,.e x1.z.2]) (JN.aS (hjt rfl (j8 (aq rfl) (aq rfl)) h4) e2) ?_
   exact rfl
  ·intro hq
   exact JB.ar rfl
 show JB _ [.ins (C "Calendar") bE (bF aa),.e iZ,.e aR,.aS (Kaj enc p1) true,.emp,.emp,.emp,.emp] _ _
 refine JB.frz (i:=3) rfl ?_
 show JB _ [.ins (C "Calendar") bE (bF aa),.e iZ,.e aR,.e p1,.emp,.emp,.emp,.emp] _ _
 exact JB.ag (JE.meth rfl (by decide) (aK (aq rfl) (bK)) (Vy C aa p1 _ h7))
noncomputable def Vu (C:Str->Addr):SS:=SS.ag (SE.meth (C "Calendar") 0 "set_of_cycle" (Om C) (cK (PJ (iR (C "Calendar") 0 "firsts")) (dK)))
noncomputable def YT (C:Str->Addr):Fn:=fnOf 1 0 (Vu C)
def LX (aa:bI):qy:=
 (Ho aa aa.firsts)
def Ci (aa:bI):Prop:=
 v8 aa aa.firsts
theorem gm (C:Str->Addr)(aa:bI)(s:ae)(h0:Ci aa):JF (YT C) [.ins (C "Calendar") bE (bF aa)] s (LX aa) s true:=by
 unfold Ci at h0
 have h1:=h0
 refine iL rfl ?_
 unfold LX Vu
 show JB _ [.ins (C "Calendar") bE (bF aa)] _ _
 exact JB.ag (JE.meth rfl (by decide) (aK (hqu (jc rfl (Gz aa))) (bK)) (Vy C aa aa.firsts _ h1))
noncomputable def VA (C:Str->Addr):SS:=SS.ag (SE.meth (C "Calendar") 0 "set_of_cycle" (Om C) (cK (mG (M4 (iR (C "Calendar") 0 "firsts") (iR (C "Calendar") 0 "lengths")) (SG.tup (iK (aY 1) (iK (aY 2) (jK)))) (cN) (uO (gZ (ak 1) (ak 2)) (SE.ac 1)) [1,2] (by decide)) (dK)))
noncomputable def Y6 (C:Str->Addr):Fn:=fnOf 1 2 (VA C)
def J3 (aa:bI):qy:=
 (Ho aa (Kaj (λ(x1:Int×Int)=>((x1.1+x1.2)-(1:Int))) (KbF aa.firsts aa.lengths)))
def Bt (aa:bI):Prop:=
 (KbF aa.firsts aa.lengths).length<=100000/\v8 aa (Kaj (λ(x1:Int×Int)=>((x1.1+x1.2)-(1:Int))) (KbF aa.firsts aa.lengths))
theorem iM (C:Str->Addr)(aa:bI)(s:ae)(h0:Bt aa):JF (Y6 C) [.ins (C "Calendar") bE (bF aa)] s (J3 aa) s true:=by
 unfold Bt at h0
 obtain⟨h1,h2⟩:=h0
 refine iL rfl ?_
 unfold J3 VA
 show JB _ [.ins (C "Calendar") bE (bF aa),.emp,.emp] _ _
 exact JB.ag (JE.meth rfl (by decide) (aK (BX (λ(x1:Int×Int)=>[.ins (C "Calendar") bE (bF aa),.e x1.1,.e x1.2]) (JI.zip (jc rfl (Gz aa)) (jc rfl (OD aa))) (λ_=>rfl) (λx1 _=>AO (j8 (aq rfl) (aq rfl)) (JE.ac 1)) h1) (bK)) (Vy C aa (Kaj (λ(x1:Int×Int)=>((x1.1+x1.2)-(1:Int))) (KbF aa.firsts aa.lengths)) _ h2))
def Q9:SS:=SS.ac (hxd (XW (SE.ac 1) (lu (ak 0))) (aY 1) (kJ [1] (jd (wk (ST.ac (hxc (yP (lu (ak 0)) (ak 1)) (SE.ac 0))) (ST.ac (hxc (ak 0) (SE.rep (hxk (ak 0) (SO.no) (SO.at (ak 1))) (BS (lu (ak 0)) (ak 1)))))) (SS.ag (hxk (ak 0) (SO.no) (SO.at (ak 1)))) (SS.am)))) (SS.ag (ak 0))
def Wg:Fn:=fnOf 1 1 Q9
def Gq (bA:List (List Int))(st1:Unit)(x1:Int):(List (List Int)) ⊕ (Unit):=
 if (((bA.length:Int) % x1)=(0:Int))/\(bA=(mulL (cut bA none (some x1)) ((bA.length:Int) / x1))) then
 .inl (cut bA none (some x1))
 else
 .inr ()
def Q5 (bA:List (List Int))(st1:Unit)(x1:Int):Prop:=
 0<x1/\((((bA.length:Int) % x1)=(0:Int))->((0<x1/\x1<1000000000000000000000000000000000000000000000000000000000000)/\((cut bA none (some x1)).length*(((bA.length:Int) / x1)).toNat<=100000/\-100000<=((bA.length:Int) / x1)/\((bA.length:Int) / x1)<=100000)))
def OQ (bA:List (List Int)):List (List Int):=
 iy (forR (Gq bA) (rng (1:Int) (bA.length:Int)) ()) (λr=>r) λp1=>
 bA
def Ag (bA:List (List Int)):Prop:=
 ((-1000000<=(1:Int)/\(1:Int)<=1000000)/\(-1000000<=(bA.length:Int)/\(bA.length:Int)<=1000000))/\ja (Gq bA) (Q5 bA) (rng (1:Int) (bA.length:Int)) ()
theorem jj (bA:List (List Int))(s:ae)(h0:Ag bA):JF Wg [.e bA] s (OQ bA) s false:=by
 unfold Ag at h0
 obtain⟨h1,h6⟩:=h0
 refine iL rfl ?_
 unfold OQ Q9
 show JB _ [.e bA,.emp] _ _
 refine JB.av (J:=λ(st1:Unit)=>[.e bA,.emp]) (R:=λ(st1:Unit) (x1:Int)=>[.e bA,.e x1]) (f:=(Gq bA)) (d:=(Q5 bA)) (st:=()) (w:=false) (JI.E9 (JE.ac 1) (hxa (aq rfl)) h1) rfl (λ_ _=>rfl) ?_ h6 (λ_ _ h=>h) ?_
 ·intro st1 x1 hd
  unfold Q5 at hd
  obtain⟨h2,h5⟩:=hd
  unfold Gq
  refine hjz ?_
  refine MU (hjl (JT.ac (oV (DY (hxa (aq rfl)) (aq rfl) h2) (JE.ac 0))) (λhq=>(match h5 hq with|⟨h3,h4⟩=>JT.ac (oV (α:=List (List Int)) (aq rfl) (JE.tms (JE.sl (aq rfl) (JO.no) (JO.at (aq rfl))) (IA (hxa (aq rfl)) (aq rfl) h3) h4))))) ?_ ?_
  ·intro hq
   exact hzz (JE.sl (aq rfl) (JO.no) (JO.at (aq rfl)))
  ·intro hq
   exact JB.ar rfl
 intro p1 e1
 show JB _ [.e bA,.emp] _ _
 exact JB.ag (aq rfl)
def Ou (C:Str->Addr):SS:=SS.ag (SE.TV (IC (iR (C "Calendar") 0 "lengths")) (SG.tup (iK (aY 1) (iK (aY 2) (jK)))) (cN) (D7 (ak 2)) (aY 3) (cN) (ak 1) [1,2,3] [3] (by decide) (by decide))
def QT (C:Str->Addr):Fn:=fnOf 1 3 (Ou C)
def sQ (aa:bI):List Int:=
 (Kbg (λ(x1:Int×Int)=>(Kaj (λ(x2:Int)=>x1.1) (rng 0 x1.2))) (aX 0 aa.lengths))
def yd (aa:bI):Prop:=
 (∀x1∈(aX 0 aa.lengths),(-1000000<=x1.2/\x1.2<=1000000))/\(Kbg (λ(x1:Int×Int)=>(Kaj (λ(x2:Int)=>x1.1) (rng 0 x1.2))) (aX 0 aa.lengths)).length<=100000
theorem Zj (C:Str->Addr)(aa:bI)(s:ae)(h0:yd aa):JF (QT C) [.ins (C "Calendar") bE (bF aa)] s (sQ aa) s true:=by
 unfold yd at h0
 obtain⟨h3,h2⟩:=h0
 refine iL rfl ?_
 unfold sQ Ou
 show JB _ [.ins (C "Calendar") bE (bF aa),.emp,.emp,.emp] _ _
 exact JB.ag (JE.M9 (λ(x1:Int×Int)=>[.ins (C "Calendar") bE (bF aa),.e x1.1,.e x1.2,.emp]) (λ(x1:Int×Int) (x2:Int)=>[.ins (C "Calendar") bE (bF aa),.e x1.1,.e x1.2,.e x2]) (M3 (jc rfl (OD aa))) (λ_=>rfl) (λ_ _=>rfl) (λx1 hx=>(have h1:=h3 x1 hx;MZ (aq rfl) h1)) (λx1 _ x2 _=>aq rfl) h2)
def QF (C:Str->Addr):SS:=SS.ag (SE.sZ (iR (C "Calendar") 0 "spots") (SE.tup (eK (ak 1) (eK (ak 2) (fK)))))
def Vs (C:Str->Addr):Fn:=fnOf 3 0 (QF C)
def CA (aa:bI)(m5:Int)(iZ:Int):Int:=
 ((Dm aa.spots (m5,iZ):Nat):Int)
def BA (aa:bI)(m5:Int)(iZ:Int):Prop:=
 (m5,iZ)∈aa.spots
theorem dO (C:Str->Addr)(aa:bI)(m5:Int)(iZ:Int)(s:ae)(h0:BA aa m5 iZ):JF (Vs C) [.ins (C "Calendar") bE (bF aa),.e m5,.e iZ] s (CA aa m5 iZ) s false:=by
 unfold BA at h0
 have h1:=h0
 refine iL rfl ?_
 unfold CA QF
 show JB _ [.ins (C "Calendar") bE (bF aa),.e m5,.e iZ] _ _
 exact JB.ag (sX (JE.sZ (jc rfl (QU aa)) (PV (gK (aq rfl) (gK (aq rfl) (JA.nil)))) h1))
def Oj (C:Str->Addr):SS:=SS.ag (SE.ag Zt (cK (SE.tup (eK (SE.lst (fK)) (eK (ak 1) (eK (ak 2) (fK))))) (dK)))
def QC (C:Str->Addr):Fn:=fnOf 3 0 (Oj C)
def JY (aa:bI)(ao:List Int)(aF:Int):lg:=
 (Rj (T3.mk ([]:List Int) ao aF))
def wB (aa:bI)(ao:List Int)(aF:Int):Prop:=
 BC (T3.mk ([]:List Int) ao aF)
theorem YQ (C:Str->Addr)(aa:bI)(ao:List Int)(aF:Int)(s:ae)(h0:wB aa ao aF):JF (QC C) [.ins (C "Calendar") bE (bF aa),.e ao,.e aF] s (JY aa ao aF) s true:=by
 unfold wB at h0
 have h1:=h0
 refine iL rfl ?_
 unfold JY Oj
 show JB _ [.ins (C "Calendar") bE (bF aa),.e ao,.e aF] _ _
 exact JB.ag (JE.ag (aK (ID (JA.cons (JE.lst (xs:=[]) JA.nil) (BU (aq rfl) (gK (aq rfl) (JA.nil))))) (bK)) (nu (T3.mk ([]:List Int) ao aF) _ h1))
def Gy (C:Str->Addr):SS:=SS.ac (GY (SE.ag Kh (cK (ak 1) (cK (SE.ac 0) (dK))))) (SS.ac (hxb (SG.tup (iK (aY 2) (iK (aY 3) (jK)))) (PM (ak 1) (iR (C "Calendar") 0 "total"))) (SS.ac (iJ 4 (uO (lu (mG (SI.list (iR (C "Calendar") 0 "firsts")) (aY 7) (ST.ac (SE.le (ak 7) (ak 3))) (ak 7) [7] (by decide))) (SE.ac 1))) (SS.ac (hxb (SG.tup (iK (aY 5) (iK (aY 6) (jK)))) (jh (iR (C "Calendar") 0 "spots") (ak 4))) (SS.ag (SE.tup (eK (gZ (GV (ak 2) (lu (iR (C "Calendar") 0 "own_years"))) (ak 5)) (eK (ak 6) (eK (uO (ak 3) (jh (iR (C "Calendar") 0 "firsts") (ak 4))) (fK)))))))))
def CB (C:Str->Addr):Fn:=fnOf 2 6 (Gy C)
def iY (aa:bI)(aR:Int):T3 Int Int Int:=
 lt ((aR / aa.total,aR % aa.total)) λp1=>
 lt ((((Kbx (λ(x1:Int)=>decide (x1<=p1.2)) aa.firsts).length:Int)-(1:Int))) λgh=>
 lt ((au aa.spots gh)) λp2=>
 (T3.mk ((p1.1*(aa.own_years.length:Int))+p2.1) p2.2 (p1.2-(au aa.firsts gh)))
def qY (aa:bI)(aR:Int):Prop:=
 oz aR (0:Int)/\(0<aa.total/\aa.total<1000000000000000000000000000000000000000000000000000000000000)/\(bT ((aR / aa.total,aR % aa.total)) λp1=>
 aa.firsts.length<=100000/\(bT ((((Kbx (λ(x1:Int)=>decide (x1<=p1.2)) aa.firsts).length:Int)-(1:Int))) λgh=>
 (-(aa.spots.length:Int)<=gh/\gh<(aa.spots.length:Int))/\(bT ((au aa.spots gh)) λp2=>
 (Ka5 p1.1<18446744073709551616∨Ka5 (aa.own_years.length:Int)<18446744073709551616)/\(-(aa.firsts.length:Int)<=gh/\gh<(aa.firsts.length:Int)))))
theorem Ma (C:Str->Addr)(aa:bI)(aR:Int)(s:ae)(h0:qY aa aR):JF (CB C) [.ins (C "Calendar") bE (bF aa),.e aR] s (iY aa aR) s false:=by
 unfold qY at h0
 obtain⟨h1,h2,h9⟩:=h0
 refine iL rfl ?_
 unfold iY Gy
 show JB _ [.ins (C "Calendar") bE (bF aa),.e aR,.emp,.emp,.emp,.emp,.emp,.emp] _ _
 refine JB.ac (aH:=[.ins (C "Calendar") bE (bF aa),.e aR,.emp,.emp,.emp,.emp,.emp,.emp]) (K2 (JE.ag (aK (aq rfl) (aK (JE.ac 0) (bK))) (OP aR (0:Int) _ h1))) ?_
 refine bS λp1 e1=>?_
 obtain⟨h3,h8⟩:=cI h9 e1
 refine JB.ac (aH:=[.ins (C "Calendar") bE (bF aa),.e aR,.e p1.1,.e p1.2,.emp,.emp,.emp,.emp]) (wX (Iv (XQ (aq rfl) (jc rfl (LZ aa)) h2) e1.symm) rfl) ?_
 refine bS λgh e2=>?_
 obtain⟨h4,h7⟩:=cI h8 e2
 refine JB.ac (aH:=[.ins (C "Calendar") bE (bF aa),.e aR,.e p1.1,.e p1.2,.e gh,.emp,.emp,.emp]) (lK (AO (hxa (JE.bq2 (λ(x1:Int)=>[.ins (C "Calendar") bE (bF aa),.e aR,.e p1.1,.e p1.2,.emp,.emp,.emp,.e x1]) (JI.list (jc rfl (Gz aa))) (λ_=>rfl) (λx1 _=>JT.ac (JE.le (aq rfl) (aq rfl))) (λx1 _ _=>aq rfl) (za h3))) (JE.ac 1)) e2) ?_
 refine bS λp2 e3=>?_
 obtain⟨h5,h6⟩:=cI h7 e3
 refine JB.ac (aH:=[.ins (C "Calendar") bE (bF aa),.e aR,.e p1.1,.e p1.2,.e gh,.e p2.1,.e p2.2,.emp]) (wX (Iv (rK (jc rfl (QU aa)) (aq rfl) h4) e3.symm) rfl) ?_
 exact JB.ag (sX (ID (gK (j8 (P0 (aq rfl) (hxa (jc rfl (LM aa))) h5) (aq rfl)) (gK (aq rfl) (gK (AO (aq rfl) (rK (jc rfl (Gz aa)) (aq rfl) h6)) (JA.nil))))))
noncomputable def V1 (C:Str->Addr):SS:=SS.ag (SE.meth (C "Calendar") 0 "ladder_of_cycle" (QC C) (cK (SE.meth (C "Calendar") 0 "owners" (QT C) (dK)) (cK (lu (iR (C "Calendar") 0 "lengths")) (dK))))
noncomputable def Y8 (C:Str->Addr):Fn:=fnOf 1 0 (V1 C)
def J4 (aa:bI):lg:=
 (JY aa (sQ aa) (aa.lengths.length:Int))
def BB (aa:bI):Prop:=
 yd aa/\wB aa (sQ aa) (aa.lengths.length:Int)
theorem j9 (C:Str->Addr)(aa:bI)(s:ae)(h0:BB aa):JF (Y8 C) [.ins (C "Calendar") bE (bF aa)] s (J4 aa) s true:=by
 unfold BB at h0
 obtain⟨h1,h2⟩:=h0
 refine iL rfl ?_
 unfold J4 V1
 show JB _ [.ins (C "Calendar") bE (bF aa)] _ _
 exact JB.ag (JE.meth rfl (by decide) (aK (JE.meth rfl (by decide) (bK) (Zj C aa _ h1)) (aK (hxa (jc rfl (OD aa))) (bK))) (YQ C aa (sQ aa) (aa.lengths.length:Int) _ h2))
end Pu
namespace Pu
open PySem PySem.Spec PyProof.Rows L2 Enc
end Pu
namespace Pu
open PySem PySem.Spec PyProof.Rows L2
end Pu
namespace Pu
open PySem PySem.Spec PyProof.Rows L2 Enc
section
variable [aO]
def SP.Q4 (i:Nat)(e:SE)(r:SP):SP where
 t:=λK=>tCons (e.t K) (r.t K)
 ts:=i::r.ts
 ev:=λρ d9 s=>(e.ev ρ s).bind λx=>match fM x.1.1 with
  |some (C,nm,ds)=>r.ev ρ (d9.set i (.ins C nm ds)) x.2
  |none=>none
 ok:=by
  intro K sk F0 H0 F H σ wq ρ d9 nR aj gj s s' Q p w h q
  obtain⟨⟨⟨x,fl⟩,s1⟩,h1,h⟩:=aL h
  dsimp only at h
  split at h
  ·rename_i C nm ds hu
   refine e.ok K p h1 λv F1 H1 as st k rr f=>?_
   have w1:=w.next st k
   obtain⟨a,dx,vs,rfl,hF,hl,r2⟩:=rr.jt hu
   obtain⟨m1,m2⟩:=x8 (i:=i) (fp:=[]) (by rw [Kbr];exact w1.fO)
   refine r.ok K (p.next st k) (gj:=gj.set i []) ⟨w1.st,w1.bj,w1.slots.set (show qB sk F1 H1 (some (.ref a)) (.ins C nm ds) [] from ⟨rfl,a,dx,vs,as,rfl,hF,hl,r2⟩),m1,λb m=>?_⟩ h λvs' F2 H2 fv sF w2 hl=>?_
   ·rcases m2 b m with z|z
    ·cases z
    ·exact w1.cu b z
   ·exact q (.ref a::vs') F2 H2 fv (st.sub.trans sF) w2 (by rw [Kah,Kah,hl])
  ·cases h
theorem JP.ins {e:SE}{i C:Nat}{nm:List Str}{ρ aH dF:List Slot}{s s1 s2:ae}{w:Bool}{p:SP}{α:Type}{df:α->List PyData}{x v:α}(hx:x=v)(h:JE e ρ s (bQ C nm (df v)) s1 w)(hp:JP p ρ (aH.set i (.ins C nm (df x))) s1 dF s2):JP (SP.Q4 i e p) ρ aH s dF s2:=by
 subst hx
 obtain⟨_,h,_⟩:=h
 show (e.ev ρ s).bind _=_
 rw [h]
 show (match fM (bQ C nm (df x)) with|some (C,nm,ds)=>_|none=>none)=_
 rw [KQ]
 exact hp
end
variable [aO]
def cqT (ks:List Str)(ds:List PyData)(f:List (Str×PyData)):PyData:=Ky (ks++[Va]) (ds++[HM false (f.map (·.1)) (f.map (·.2))])
end Pu
namespace Pu
open PySem PySem.Spec PyProof.Rows L2 Enc
end Pu
namespace Pu
open PySem PySem.Spec PyProof.Rows L2
end Pu
namespace Pu
open PySem PySem.Spec PyProof.Rows L2 Enc
variable [aO]
abbrev WlT:=List Str×List PyData×List (Str×PyData)
abbrev FnW:=List Slot->ae->Option (WlT×ae)
end Pu
namespace Pu
open PySem PySem.Spec PyProof.Rows L2 Enc
/-- a dict with texts as keys,in its order -/
structure DO (β:Type) where
 l:List (Tx×β)
instance {β:Type}:Inhabited (DO β):=⟨⟨[]⟩⟩
instance {β:Type}[Enc β]:Enc (DO β):=⟨λx=>HM false (x.l.map λp=>p.1.str) (x.l.map λp=>enc p.2)⟩
def DO.has {β:Type}(x:DO β)(t:Tx):Bool:=(wM x.l t).isSome
def DO.at {β:Type}[Inhabited β](x:DO β)(t:Tx):β:=(wM x.l t).getD default
structure G9 where
 years:List (List Int)
 months:List (T4 Int Int Int Int)
 days:Int
 base:Int
 ahead:Int
 round:Int
 rows:DO (List Bool)
instance:Inhabited G9:=⟨⟨[],[],0,0,0,0,default⟩⟩
def wks:List Str:=["round", "ahead", "base", "days", "months", "years"]
def G9.ds (w:G9):List PyData:=[enc w.round,enc w.ahead,enc w.base,enc w.days,enc w.months,enc w.years]
def G9.fs (w:G9):List (Str×PyData):=w.rows.l.map λp=>(p.1.str,enc p.2)
instance:Enc G9:=⟨λw=>cqT wks w.ds w.fs⟩
def G9.put (w:G9)(t:Tx)(x:List Bool):G9:={ w with rows:=⟨w.rows.l++[(t,x)]⟩ }
variable [aO]
end Pu
namespace Pu
open PySem PySem.Spec PyProof.Rows L2 Enc
variable [aO]
theorem Wd.yJ {sk:Option Addr}{F0 H0 F H:Hp}{σ:L2.St}{ρ:List Slot}{aj:List (List Addr)}{s:ae}{i:Nat}{a:Addr}{vs ws:List V}{es:List PyData}{t cs:List Addr}(w:Wd sk F0 H0 F H σ ρ aj s)(e1:σ[i]? = some (some (.ref a)))(e2:aj[i]? = some (a::t))(hH:H a=some (.lst vs))(hF:F a=none)
  (r:ah F ws es cs):∃az,Wd sk F0 H0 F (L2.upd H a (.lst ws)) σ (ρ.set i (.aS es false)) az s:=by
 have fa:a∈aj.flatten:=Kaw.mpr ⟨_,Kaq e2,Kaa⟩
 obtain⟨a0,a1,a2⟩:=w.cu a fa
 obtain⟨n1,n2⟩:=Aj w.fO e2
 have n3:=Kag.mp n1
 have na:a∉(aj.set i []).flatten:=λm=>n3.2.2 a Kaa a m rfl
 have st':Step sk F0 H0 F (L2.upd H a (.lst ws)):=by
  refine⟨w.st.sub,λb u e=>?_,λb u hb e hs=>?_,λb h=>?_,w.st.new⟩
  ·rw [upd_ne (λz=>by rw [z,hF] at e;cases e)];exact w.st.sub' b u e
  ·rw [upd_ne (λz=>by rw [z,a0] at e;cases e)];exact w.st.fr b u hb e
  ·by_cases z:b=a
   ·rw [z,upd_same];exact nofun
   ·rw [upd_ne z];exact w.st.dm b h
 have iQ:bw sk F (L2.upd H a (.lst ws)) s:=⟨λb e=>⟨by rw [upd_ne (λz=>a2 (by rw [<-z];exact e))];exact (w.bj b e).1,(w.bj b e).2⟩,RP w.bj.tab hH⟩
 have sl:=(w.slots.drop (i:=i)).Bm (a:=a) (o:=.lst ws) na
 have BR:∀b,H b≠none->L2.upd H a (.lst ws) b≠none:=λb h=>by
  by_cases z:b=a
  ·rw [z,upd_same];exact nofun
  ·rw [upd_ne z];exact h
 obtain⟨m1,m2⟩:=x8 (i:=i) (aj:=aj.set i []) (fp:=[a]) (Kag.mpr ⟨by simp,n3.2.1,λx hx y hy z=>by
  have:x=a:=by simpa using hx
  subst this;subst z
  exact na hy⟩)
 have sl2:=sl.fill (sl:=.aS es false) e1 ⟨a,ws,cs,rfl,upd_same,hF,r,rfl⟩
 rw [Kaz,Kaz] at sl2
 rw [Kaz] at m1 m2
 refine⟨aj.set i [a],st',iQ,sl2,m1,λb m=>?_⟩
 rcases m2 b m with z|z
 ·have:b=a:=by simpa using z
  subst this
  exact⟨a0,BR b a1,a2⟩
 ·have:=w.cu b (iH.mem z)
  exact⟨this.1,BR b this.2.1,this.2.2⟩
end Pu
namespace Pu
open PySem PySem.Spec PyProof.Rows L2 Enc
inductive ud
 |num (w:Nw) (n:Int)
 |row (k:Bool) (n:Int) (r:List Bool)
 |pair (l:Bool) (a b:List ud)
 deriving Inhabited
mutual
def ud.uJ:ud->PyData
 |.num w n=>.tuple [Enc.enc w.tx,Enc.enc n]
 |.row k n r=>.tuple [Enc.enc (Il k),Enc.enc n,Enc.enc r]
 |.pair l a b=>.tuple [Enc.enc (gqs l),.list (ud.ac a),.list (ud.ac b)]
def ud.ac:List ud->List PyData
 |[]=>[]
 |x::xs=>x.uJ::ud.ac xs
end
instance:Enc ud:=⟨ud.uJ⟩
mutual
def ud.dep:ud->Nat
 |.pair _ a b=>max (ud.oG a) (ud.oG b)+1
 |_=>0
def ud.oG:List ud->Nat
 |[]=>0
 |x::xs=>max x.dep (ud.oG xs)
end
variable [aO]
noncomputable section
abbrev Pk:=Int×Bool
abbrev PS:=List (Pk×Int)×List Int
end
end Pu
namespace Pu
open PySem PySem.Spec PyProof.Rows L2
end Pu
namespace Pu
open PySem PySem.Spec PyProof.Rows L2 Enc
end Pu
namespace Pu
open PySem L2 Enc
def QV (C:Str->Addr):SS:=SS.ac (hxb (SG.tup (iK (aY 2) (iK (aY 3) (jK)))) (PM (ak 1) (lu (iR (C "Calendar") 0 "lengths")))) (SS.ag (SE.tup (eK (gZ (GV (ak 2) (iR (C "Calendar") 0 "total")) (jh (iR (C "Calendar") 0 "firsts") (ak 3))) (eK (jh (iR (C "Calendar") 0 "lengths") (ak 3)) (fK)))))
def Vq (C:Str->Addr):Fn:=fnOf 2 2 (QV C)
def Bu (aa:bI)(gh:Int):Int×Int:=
 lt ((gh / (aa.lengths.length:Int),gh % (aa.lengths.length:Int))) λp1=>
 (((p1.1*aa.total)+(au aa.firsts p1.2)),(au aa.lengths p1.2))
def Ae (aa:bI)(gh:Int):Prop:=
 (0<(aa.lengths.length:Int)/\(aa.lengths.length:Int)<1000000000000000000000000000000000000000000000000000000000000)/\(bT ((gh / (aa.lengths.length:Int),gh % (aa.lengths.length:Int))) λp1=>
 (Ka5 p1.1<18446744073709551616∨Ka5 aa.total<18446744073709551616)/\(-(aa.firsts.length:Int)<=p1.2/\p1.2<(aa.firsts.length:Int))/\(-(aa.lengths.length:Int)<=p1.2/\p1.2<(aa.lengths.length:Int)))
theorem dQ (C:Str->Addr)(aa:bI)(gh:Int)(s:ae)(h0:Ae aa gh):JF (Vq C) [.ins (C "Calendar") bE (bF aa),.e gh] s (Bu aa gh) s false:=by
 unfold Ae at h0
 obtain⟨h1,h5⟩:=h0
 refine iL rfl ?_
 unfold Bu QV
 show JB _ [.ins (C "Calendar") bE (bF aa),.e gh,.emp,.emp] _ _
 refine bS λp1 e1=>?_
 obtain⟨h2,h3,h4⟩:=cI h5 e1
 refine JB.ac (aH:=[.ins (C "Calendar") bE (bF aa),.e gh,.e p1.1,.e p1.2]) (wX (Iv (XQ (aq rfl) (hxa (jc rfl (OD aa))) h1) e1.symm) rfl) ?_
 exact JB.ag (sX (PV (gK (j8 (P0 (aq rfl) (jc rfl (LZ aa)) h2) (rK (jc rfl (Gz aa)) (aq rfl) h3)) (gK (rK (jc rfl (OD aa)) (aq rfl) h4) (JA.nil)))))
noncomputable def QI (C:Str->Addr):SS:=SS.ac (GY (SE.ag Kh (cK (ak 1) (cK (SE.ac 0) (dK))))) (SS.ac (PL 2 (SB.own (SE.lst (fK)))) (SS.ac (hxd (IC (SE.meth (C "Calendar") 0 "owners" (QT C) (dK))) (SG.tup (iK (aY 3) (iK (aY 4) (jK)))) (kJ [3,4,5,6] (SS.ac (hxb (SG.tup (iK (aY 5) (iK (aY 6) (jK)))) (SE.meth (C "Calendar") 0 "month_at" (Vq C) (cK (gZ (ak 4) (ak 1)) (dK)))) (GS 2 (gZ (ak 5) (PR (uO (ak 3) (jh (iR (C "Calendar") 0 "firsts") (ak 4))) (uO (ak 6) (SE.ac 1)))))))) (K8 2 (SS.ag (SE.meth (C "Calendar") 0 "ladder_of_cycle" (QC C) (cK (ak 2) (cK (iR (C "Calendar") 0 "total") (dK))))))))
noncomputable def Vv (C:Str->Addr):Fn:=fnOf 2 5 (QI C)
def J2 (aa:bI)(gE:Int)(st1:(List Int))(x1:Int×Int):(List Int):=
 lt ((Bu aa (x1.2+gE))) λp1=>
 lt (st1++[(p1.1+(min (x1.1-(au aa.firsts x1.2)) (p1.2-(1:Int))))]) λfN=>
 fN
def Qx (aa:bI)(gE:Int)(st1:(List Int))(x1:Int×Int):Prop:=
 Ae aa (x1.2+gE)/\(bT ((Bu aa (x1.2+gE))) λp1=>
 (-(aa.firsts.length:Int)<=x1.2/\x1.2<(aa.firsts.length:Int))/\st1.length<100000)
def v7 (aa:bI)(gE:Int):lg:=
 lt (([]:List Int)) λcf=>
 lt (Ka2 (J2 aa gE) cf (aX 0 (sQ aa))) λp2=>
 (JY aa p2 aa.total)
def z9 (aa:bI)(gE:Int):Prop:=
 oz gE (0:Int)/\(bT (([]:List Int)) λcf=>
 yd aa/\fg (J2 aa gE) (Qx aa gE) (aX 0 (sQ aa)) cf/\(bT (Ka2 (J2 aa gE) cf (aX 0 (sQ aa))) λp2=>
 wB aa p2 aa.total))
theorem cX (C:Str->Addr)(aa:bI)(gE:Int)(s:ae)(h0:z9 aa gE):JF (Vv C) [.ins (C "Calendar") bE (bF aa),.e gE] s (v7 aa gE) s true:=by
 unfold z9 at h0
 obtain⟨h1,h10⟩:=h0
 refine iL rfl ?_
 unfold v7 QI
 show JB _ [.ins (C "Calendar") bE (bF aa),.e gE,.emp,.emp,.emp,.emp,.emp] _ _
 refine JB.ac (aH:=[.ins (C "Calendar") bE (bF aa),.e gE,.emp,.emp,.emp,.emp,.emp]) (K2 (JE.ag (aK (aq rfl) (aK (JE.ac 0) (bK))) (OP gE (0:Int) _ h1))) ?_
 refine bS λcf e1=>?_
 obtain⟨h2,h7,h9⟩:=cI h10 e1
 refine JB.ac (aH:=[.ins (C "Calendar") bE (bF aa),.e gE,.aS (Kaj enc cf) true,.emp,.emp,.emp,.emp]) (JN.aS (X8 (JE.lst (xs:=[]) JA.nil)) e1) ?_
 refine bS λp2 e4=>?_
 have h8:=cI h9 e4
 refine JB.ac (Th (J:=λ(st1:(List Int))=>[.ins (C "Calendar") bE (bF aa),.e gE,.aS (Kaj enc st1) true,.emp,.emp,.emp,.emp]) (R:=λ(st1:(List Int)) (x1:Int×Int)=>[.ins (C "Calendar") bE (bF aa),.e gE,.aS (Kaj enc st1) true,.e x1.1,.e x1.2,.emp,.emp]) (f:=(J2 aa gE)) (d:=(Qx aa gE)) (st:=cf) (M3 (JE.meth rfl (by decide) (bK) (Zj C aa _ h2))) rfl (λ_ _=>rfl) ?_ h7 e4) ?_
 ·intro st1 x1 hd
  unfold Qx at hd
  obtain⟨h3,h6⟩:=hd
  unfold J2
  refine oQ ?_
  refine bS λp1 e2=>?_
  obtain⟨h5,h4⟩:=cI h6 e2
  refine JB.ac (aH:=[.ins (C "Calendar") bE (bF aa),.e gE,.aS (Kaj enc st1) true,.e x1.1,.e x1.2,.e p1.1,.e p1.2]) (wX (Iv (JE.meth rfl (by decide) (aK (j8 (aq rfl) (aq rfl)) (bK)) (dQ C aa (x1.2+gE) _ h3)) e2.symm) rfl) ?_
  refine bS λfN e3=>?_
  refine JB.am (aH:=[.ins (C "Calendar") bE (bF aa),.e gE,.aS (Kaj enc fN) true,.e x1.1,.e x1.2,.e p1.1,.e p1.2]) (JN.aS (hjt rfl (j8 (aq rfl) (JE.am (AO (aq rfl) (rK (jc rfl (Gz aa)) (aq rfl) h5)) (AO (aq rfl) (JE.ac 1)))) h4) e3) ?_
  exact rfl
 show JB _ [.ins (C "Calendar") bE (bF aa),.e gE,.aS (Kaj enc p2) true,.emp,.emp,.emp,.emp] _ _
 refine JB.frz (i:=2) rfl ?_
 show JB _ [.ins (C "Calendar") bE (bF aa),.e gE,.e p2,.emp,.emp,.emp,.emp] _ _
 exact JB.ag (JE.meth rfl (by decide) (aK (aq rfl) (aK (jc rfl (LZ aa)) (bK))) (YQ C aa p2 aa.total _ h8))
noncomputable def VZ (C:Str->Addr):SS:=SS.ac (hxb (SG.tup (iK (aY 4) (iK (aY 5) (jK)))) (jh (iR (C "Calendar") 0 "spots") (ak 2))) (SS.ac (hxb (SG.tup (iK (aY 6) (iK (aY 7) (jK)))) (PM (gZ (ak 4) (ak 3)) (lu (iR (C "Calendar") 0 "own_years")))) (SS.ac (iJ 8 (lu (jh (iR (C "Calendar") 0 "own_years") (ak 7)))) (SS.ac (hxb (SG.tup (iK (aY 9) (iK (aY 10) (jK)))) (SE.meth (C "Calendar") 0 "month_at" (Vq C) (cK (SE.meth (C "Calendar") 0 "index_of" (Vs C) (cK (ak 7) (cK (PR (ak 5) (uO (ak 8) (SE.ac 1))) (dK)))) (dK)))) (SS.ac (iJ 11 (hxz (ST.ac (SE.ge (ak 5) (ak 8))) (uO (ak 10) (SE.ac 1)) (PR (uO (ak 1) (jh (iR (C "Calendar") 0 "firsts") (ak 2))) (uO (ak 10) (SE.ac 1))))) (SS.ag (gZ (gZ (GV (ak 6) (iR (C "Calendar") 0 "total")) (ak 9)) (ak 11)))))))
noncomputable def VL (C:Str->Addr):Fn:=fnOf 4 8 (VZ C)
def LW (aa:bI)(aR:Int)(gh:Int)(bA:Int):Int:=
 lt ((au aa.spots gh)) λp1=>
 lt (((p1.1+bA) / (aa.own_years.length:Int),(p1.1+bA) % (aa.own_years.length:Int))) λp2=>
 lt (((au aa.own_years p2.2).length:Int)) λyy=>
 lt ((Bu aa (CA aa p2.2 (min p1.2 (yy-(1:Int)))))) λp3=>
 lt ((if yy<=p1.2 then (p3.2-(1:Int)) else (min (aR-(au aa.firsts gh)) (p3.2-(1:Int))))) λXC=>
 (((p2.1*aa.total)+p3.1)+XC)
def Bv (aa:bI)(aR:Int)(gh:Int)(bA:Int):Prop:=
 (-(aa.spots.length:Int)<=gh/\gh<(aa.spots.length:Int))/\(bT ((au aa.spots gh)) λp1=>
 (0<(aa.own_years.length:Int)/\(aa.own_years.length:Int)<1000000000000000000000000000000000000000000000000000000000000)/\(bT (((p1.1+bA) / (aa.own_years.length:Int),(p1.1+bA) % (aa.own_years.length:Int))) λp2=>
 (-(aa.own_years.length:Int)<=p2.2/\p2.2<(aa.own_years.length:Int))/\(bT (((au aa.own_years p2.2).length:Int)) λyy=>
 BA aa p2.2 (min p1.2 (yy-(1:Int)))/\Ae aa (CA aa p2.2 (min p1.2 (yy-(1:Int))))/\(bT ((Bu aa (CA aa p2.2 (min p1.2 (yy-(1:Int)))))) λp3=>
 (¬(yy<=p1.2)->((-(aa.firsts.length:Int)<=gh/\gh<(aa.firsts.length:Int))))/\(bT ((if yy<=p1.2 then (p3.2-(1:Int)) else (min (aR-(au aa.firsts gh)) (p3.2-(1:Int))))) λXC=>
 (Ka5 p2.1<18446744073709551616∨Ka5 aa.total<18446744073709551616))))))
theorem jB (C:Str->Addr)(aa:bI)(aR:Int)(gh:Int)(bA:Int)(s:ae)(h0:Bv aa aR gh bA):JF (VL C) [.ins (C "Calendar") bE (bF aa),.e aR,.e gh,.e bA] s (LW aa aR gh bA) s false:=by
 unfold Bv at h0
 obtain⟨h1,h13⟩:=h0
 refine iL rfl ?_
 unfold LW VZ
 show JB _ [.ins (C "Calendar") bE (bF aa),.e aR,.e gh,.e bA,.emp,.emp,.emp,.emp,.emp,.emp,.emp,.emp] _ _
 refine bS λp1 e1=>?_
 obtain⟨h2,h12⟩:=cI h13 e1
 refine JB.ac (aH:=[.ins (C "Calendar") bE (bF aa),.e aR,.e gh,.e bA,.e p1.1,.e p1.2,.emp,.emp,.emp,.emp,.emp,.emp]) (wX (Iv (rK (jc rfl (QU aa)) (aq rfl) h1) e1.symm) rfl) ?_
 refine bS λp2 e2=>?_
 obtain⟨h3,h11⟩:=cI h12 e2
 refine JB.ac (aH:=[.ins (C "Calendar") bE (bF aa),.e aR,.e gh,.e bA,.e p1.1,.e p1.2,.e p2.1,.e p2.2,.emp,.emp,.emp,.emp]) (wX (Iv (XQ (j8 (aq rfl) (aq rfl)) (hxa (jc rfl (LM aa))) h2) e2.symm) rfl) ?_
 refine bS λyy e3=>?_
 obtain⟨h4,h5,h10⟩:=cI h11 e3
 refine JB.ac (aH:=[.ins (C "Calendar") bE (bF aa),.e aR,.e gh,.e bA,.e p1.1,.e p1.2,.e p2.1,.e p2.2,.e yy,.emp,.emp,.emp]) (lK (hxa (rK (jc rfl (LM aa)) (aq rfl) h3)) e3) ?_
 refine bS λp3 e4=>?_
 obtain⟨h7,h9⟩:=cI h10 e4
 refine JB.ac (aH:=[.ins (C "Calendar") bE (bF aa),.e aR,.e gh,.e bA,.e p1.1,.e p1.2,.e p2.1,.e p2.2,.e yy,.e p3.1,.e p3.2,.emp]) (wX (Iv (JE.meth rfl (by decide) (aK (JE.meth rfl (by decide) (aK (aq rfl) (aK (JE.am (aq rfl) (AO (aq rfl) (JE.ac 1))) (bK))) (dO C aa p2.2 (min p1.2 (yy-(1:Int))) _ h4)) (bK)) (dQ C aa (CA aa p2.2 (min p1.2 (yy-(1:Int)))) _ h5)) e4.symm) rfl) ?_
 refine bS λXC e5=>?_
 have h8:=cI h9 e5
 refine JB.ac (aH:=[.ins (C "Calendar") bE (bF aa),.e aR,.e gh,.e bA,.e p1.1,.e p1.2,.e p2.1,.e p2.2,.e yy,.e p3.1,.e p3.2,.e XC]) (lK (JE.ite (JT.ac (JE.ge (aq rfl) (aq rfl))) (λ_=>AO (aq rfl) (JE.ac 1)) (λhq=>(have h6:=h7 hq;JE.am (AO (aq rfl) (rK (jc rfl (Gz aa)) (aq rfl) h6)) (AO (aq rfl) (JE.ac 1))))) e5) ?_
 exact JB.ag (sX (j8 (j8 (P0 (aq rfl) (jc rfl (LZ aa)) h8) (aq rfl)) (aq rfl)))
noncomputable def QJ (C:Str->Addr):SS:=SS.ac (GY (SE.ag Kh (cK (ak 1) (cK (SE.ac 0) (dK))))) (SS.ac (iJ 2 (mG (IC (SE.meth (C "Calendar") 0 "owners" (QT C) (dK))) (SG.tup (iK (aY 3) (iK (aY 4) (jK)))) (cN) (SE.meth (C "Calendar") 0 "year_on" (VL C) (cK (ak 3) (cK (ak 4) (cK (ak 1) (dK))))) [3,4] (by decide))) (SS.ag (SE.meth (C "Calendar") 0 "ladder_of_cycle" (QC C) (cK (ak 2) (cK (iR (C "Calendar") 0 "total") (dK))))))
noncomputable def Vx (C:Str->Addr):Fn:=fnOf 2 3 (QJ C)
def vZ (aa:bI)(bA:Int):lg:=
 lt ((Kaj (λ(x1:Int×Int)=>(LW aa x1.1 x1.2 bA)) (aX 0 (sQ aa)))) λcf=>
 (JY aa cf aa.total)
def Af (aa:bI)(bA:Int):Prop:=
 oz bA (0:Int)/\yd aa/\(∀x1∈(aX 0 (sQ aa)),Bv aa x1.1 x1.2 bA)/\(aX 0 (sQ aa)).length<=100000/\(bT ((Kaj (λ(x1:Int×Int)=>(LW aa x1.1 x1.2 bA)) (aX 0 (sQ aa)))) λcf=>
 wB aa cf aa.total)
theorem dR (C:Str->Addr)(aa:bI)(bA:Int)(s:ae)(h0:Af aa bA):JF (Vx C) [.ins (C "Calendar") bE (bF aa),.e bA] s (vZ aa bA) s true:=by
 unfold Af at h0
 obtain⟨h1,h2,h5,h4,h7⟩:=h0
 refine iL rfl ?_
 unfold vZ QJ
 show JB _ [.ins (C "Calendar") bE (bF aa),.e bA,.emp,.emp,.emp] _ _
 refine JB.ac (aH:=[.ins (C "Calendar") bE (bF aa),.e bA,.emp,.emp,.emp]) (K2 (JE.ag (aK (aq rfl) (aK (JE.ac 0) (bK))) (OP bA (0:Int) _ h1))) ?_
 refine bS λcf e1=>?_
 have h6:=cI h7 e1
 refine JB.ac (aH:=[.ins (C "Calendar") bE (bF aa),.e bA,.e cf,.emp,.emp]) (lK (BX (λ(x1:Int×Int)=>[.ins (C "Calendar") bE (bF aa),.e bA,.emp,.e x1.1,.e x1.2]) (M3 (JE.meth rfl (by decide) (bK) (Zj C aa _ h2))) (λ_=>rfl) (λx1 hx=>(have h3:=h5 x1 hx;JE.meth rfl (by decide) (aK (aq rfl) (aK (aq rfl) (aK (aq rfl) (bK)))) (jB C aa x1.1 x1.2 bA _ h3))) h4) e1) ?_
 exact JB.ag (JE.meth rfl (by decide) (aK (aq rfl) (aK (jc rfl (LZ aa)) (bK))) (YQ C aa cf aa.total _ h6))
noncomputable def V3 (C:Str->Addr):SS:=SS.ac (hxd (SI.tup (ak 1)) (aY 2) (kJ [2] (GY (SE.ag Kh (cK (ak 2) (cK (SE.ac 0) (dK))))))) (SS.ac (hxb (SG.tup (iK (aY 3) (iK (aY 4) (iK (aY 5) (jK))))) (ak 1)) (SS.ac (hxb (SG.tup (iK (aY 6) (iK (aY 7) (jK)))) (PM (ak 3) (lu (iR (C "Calendar") 0 "own_years")))) (SS.ac (iJ 8 (jh (iR (C "Calendar") 0 "own_years") (ak 7))) (SS.ac (jd (G1 (ST.ac (SE.ge (ak 4) (lu (ak 8)))) (ST.ac (SE.ge (ak 5) (jh (ak 8) (ak 4))))) (Iz) (SS.am)) (SS.ag (gZ (gZ (GV (ak 6) (iR (C "Calendar") 0 "total")) (jh (iR (C "Calendar") 0 "firsts") (SE.meth (C "Calendar") 0 "index_of" (Vs C) (cK (ak 7) (cK (ak 4) (dK)))))) (ak 5)))))))
noncomputable def ZF (C:Str->Addr):Fn:=fnOf 2 7 (V3 C)
def QH  (st1:Unit)(x1:Int):Unit:=
 ()
def Ow  (st1:Unit)(x1:Int):Prop:=
 oz x1 (0:Int)
def Rk (aa:bI)(aQ:T3 Int Int Int):Int:=
 lt (Ka2 (QH) () [aQ.x,aQ.y,aQ.z]) λp1=>
 lt ((aQ.x / (aa.own_years.length:Int),aQ.x % (aa.own_years.length:Int))) λp3=>
 lt ((au aa.own_years p3.2)) λgE=>
 if ((gE.length:Int)<=aQ.y)∨((au gE aQ.y)<=aQ.z) then
 default
 else
 (((p3.1*aa.total)+(au aa.firsts (CA aa p3.2 aQ.y)))+aQ.z)
def BF (aa:bI)(aQ:T3 Int Int Int):Prop:=
 fg (QH) (Ow) [aQ.x,aQ.y,aQ.z] ()/\(bT (Ka2 (QH) () [aQ.x,aQ.y,aQ.z]) λp1=>
 (0<(aa.own_years.length:Int)/\(aa.own_years.length:Int)<1000000000000000000000000000000000000000000000000000000000000)/\(bT ((aQ.x / (aa.own_years.length:Int),aQ.x % (aa.own_years.length:Int))) λp3=>
 (-(aa.own_years.length:Int)<=p3.2/\p3.2<(aa.own_years.length:Int))/\(bT ((au aa.own_years p3.2)) λgE=>
 (¬((gE.length:Int)<=aQ.y)->((-(gE.length:Int)<=aQ.y/\aQ.y<(gE.length:Int))))/\((((gE.length:Int)<=aQ.y)∨((au gE aQ.y)<=aQ.z))->False)/\(¬(((gE.length:Int)<=aQ.y)∨((au gE aQ.y)<=aQ.z))->((Ka5 p3.1<18446744073709551616∨Ka5 aa.total<18446744073709551616)/\BA aa p3.2 aQ.y/\(-(aa.firsts.length:Int)<=(CA aa p3.2 aQ.y)/\(CA aa p3.2 aQ.y)<(aa.firsts.length:Int)))))))
theorem nq (C:Str->Addr)(aa:bI)(aQ:T3 Int Int Int)(s:ae)(h0:BF aa aQ):JF (ZF C) [.ins (C "Calendar") bE (bF aa),.e aQ] s (Rk aa aQ) s false:=by
 unfold BF at h0
 obtain⟨h2,h15⟩:=h0
 refine iL rfl ?_
 unfold Rk V3
 show JB _ [.ins (C "Calendar") bE (bF aa),.e aQ,.emp,.emp,.emp,.emp,.emp,.emp,.emp] _ _
 refine bS λp1 e1=>?_
 obtain⟨h3,Sw⟩:=cI h15 e1
 refine JB.ac (Th (J:=λ(st1:Unit)=>[.ins (C "Calendar") bE (bF aa),.e aQ,.emp,.emp,.emp,.emp,.emp,.emp,.emp]) (R:=λ(st1:Unit) (x1:Int)=>[.ins (C "Calendar") bE (bF aa),.e aQ,.e x1,.emp,.emp,.emp,.emp,.emp,.emp]) (f:=(QH)) (d:=(Ow)) (st:=()) (JI.N7 (aq rfl)) rfl (λ_ _=>rfl) ?_ h2 e1) ?_
 ·intro st1 x1 hd
  unfold Ow at hd
  have h1:=hd
  unfold QH
  refine oQ ?_
  refine JB.am (aH:=[.ins (C "Calendar") bE (bF aa),.e aQ,.e x1,.emp,.emp,.emp,.emp,.emp,.emp]) (K2 (JE.ag (aK (aq rfl) (aK (JE.ac 0) (bK))) (OP x1 (0:Int) _ h1))) ?_
  exact rfl
 show JB _ [.ins (C "Calendar") bE (bF aa),.e aQ,.emp,.emp,.emp,.emp,.emp,.emp,.emp] _ _
 refine JB.ac (aH:=[.ins (C "Calendar") bE (bF aa),.e aQ,.emp,.e aQ.x,.e aQ.y,.e aQ.z,.emp,.emp,.emp]) (wX (aq rfl) rfl) ?_
 refine bS λp3 e3=>?_
 obtain⟨h4,h13⟩:=cI Sw e3
 refine JB.ac (aH:=[.ins (C "Calendar") bE (bF aa),.e aQ,.emp,.e aQ.x,.e aQ.y,.e aQ.z,.e p3.1,.e p3.2,.emp]) (wX (Iv (XQ (aq rfl) (hxa (jc rfl (LM aa))) h3) e3.symm) rfl) ?_
 refine bS λgE e4=>?_
 obtain⟨h6,h11,h12⟩:=cI h13 e4
 refine JB.ac (aH:=[.ins (C "Calendar") bE (bF aa),.e aQ,.emp,.e aQ.x,.e aQ.y,.e aQ.z,.e p3.1,.e p3.2,.e gE]) (lK (rK (jc rfl (LM aa)) (aq rfl) h4) e4) ?_
 refine GX (JT.or (JT.ac (JE.ge (aq rfl) (hxa (aq rfl)))) (λhq=>(have h5:=h6 hq;JT.ac (JE.ge (aq rfl) (rK (aq rfl) (aq rfl) h5))))) ?_ (λ_=>hxv) ?_
 ·intro hq
  have h7:=h11 hq
  exact h7.elim
 intro hq
 obtain⟨h8,h9,h10⟩:=h12 hq
 refine GU ?_
 exact JB.ag (sX (j8 (j8 (P0 (aq rfl) (jc rfl (LZ aa)) h8) (rK (jc rfl (Gz aa)) (JE.meth rfl (by decide) (aK (aq rfl) (aK (aq rfl) (bK))) (dO C aa p3.2 aQ.y _ h9)) h10)) (aq rfl)))
end Pu
namespace Pu
variable [aO]
open PySem PySem.Spec PyProof.Rows L2 Enc
open PySem.W (Frag)
/-- a name eA holds an instance or su else,as data -/
def SE.LQ (i:Nat):SE where
 t:=λ_=>tVar i
 ev:=λρ s=>match ρ[i]? with
  |some (.ins C nm ds)=>some ((bQ C nm ds,false),s)
  |some (.dat d)=>some ((d,false),s)
  |_=>none
 ok:=by
  intro K sk F H σ ρ aj s vl s' Q p h q
  have h':=h
  dsimp only at h
  split at h
  ·rename_i C nm ds e
   exact (BV i).ok K p (by show (match ρ[i]? with|some (.ins C nm ds)=>_|_=>_)=_;rw [e];exact h) q
  ·rename_i d e
   exact (ak i).ok K p (by unfold ak;dsimp only;rw [e];exact h) q
  ·cases h
theorem JE.anyI {ρ:List Slot}{s:ae}{i:Nat}{C:Addr}{nm:List Str}{ds:List PyData}(h:ρ[i]? = some (.ins C nm ds)):JE (SE.LQ i) ρ s (bQ C nm ds) s false:=by
 refine⟨false,?_,nofun⟩
 show (match ρ[i]? with|some (.ins C nm ds)=>some ((bQ C nm ds,false),s)|some (.dat d)=>some ((d,false),s)|_=>none)=_
 rw [h];rfl
theorem JE.YK {α:Type}[Enc α]{x:α}{ρ:List Slot}{s:ae}{i:Nat}(h:ρ[i]? = some (.dat (enc x))):JE (SE.LQ i) ρ s x s false:=by
 refine⟨false,?_,nofun⟩
 show (match ρ[i]? with|some (.ins C nm ds)=>some ((bQ C nm ds,false),s)|some (.dat d)=>some ((d,false),s)|_=>none)=_
 rw [h]
end Pu
namespace Pu
open PySem PySem.Spec PyProof.Rows L2
open PpSet
section
variable {P:Program}{w:World}{A:Around}{R:Result->Shared->Prop}{I:Addr}{fp wr:List Addr}{G:Array GenState->Array GenState->Prop}{n:Nat}{Pv:Nat->Value->Prop}{St:Nat->Shared->Prop}
/-- some of bh first i numbers: a set of ints at most i many -/
def xX (w:World)(h:Heap)(a:Addr)(val:Nat->Bool)(i:Nat):Prop:=∃S m,SetB w h a S m/\m<=i/\∀k,S k=true↔∃j,j<i/\val j=k
theorem xX.step {h:Heap}{a:Addr}{val:Nat->Bool}{i:Nat}{S:Bool->Bool}{m:Nat}(hm:m<=i)(hS:∀k,S k=true↔∃j,j<i/\val j=k)(r:SetB w h a (λj=>S j ||decide (j=val i)) (if S (val i)=true then m else m+1)):xX w h a val (i+1):=by
 refine⟨_,_,r,by split <;> omega,λk=>?_⟩
 rw [Bool.or_eq_true,hS,decide_eq_true_eq]
 constructor
 ·rintro (⟨j,hj,e⟩|e)
  ·exact⟨j,by omega,e⟩
  ·exact⟨i,by omega,e.symm⟩
 ·rintro⟨j,hj,e⟩
  by_cases hji:j=i
  ·subst hji;exact .inr e.symm
  ·exact .inl ⟨j,by omega,e⟩
end
end Pu
namespace Pu
open PySem L2 Enc
noncomputable section
@[reducible] def Xw (C:Str->Addr):Enc bI:=⟨λv=>bQ (C "Calendar") bE (bF v)⟩
instance:Inhabited bI:=⟨⟨[],[],[],[],0⟩⟩
theorem XR {C:Str->Addr}{ρ:List Slot}{s s1:ae}{e:SE}{w:Bool}{x:bI}(h:letI:=Xw C;JE e ρ s x s1 w):JE e ρ s (bQ (C "Calendar") bE (bF x)) s1 w:=h
theorem XO {C:Str->Addr}{ρ:List Slot}{s s1:ae}{e:SE}{w:Bool}{x:bI}(h:JE e ρ s (bQ (C "Calendar") bE (bF x)) s1 w):letI:=Xw C;JE e ρ s x s1 w:=h
noncomputable def Vp (C:Str->Addr):SS:=SS.ag (SE.meth (C "Calendar") 0 "set_of_cycle" (Om C) (cK (mG (M4 (iR (C "Calendar") 0 "firsts") (iR (C "Calendar") 0 "spots")) (SG.tup (iK (aY 1) (iK (SG.tup (iK (aY 2) (iK (aY 3) (jK)))) (jK)))) (ST.ac (hxc (ak 3) (SE.ac 0))) (ak 1) [1,2,3] (by decide)) (dK)))
noncomputable def Y4 (C:Str->Addr):Fn:=fnOf 1 3 (Vp C)
def JX (aa:bI):qy:=
 (Ho aa (Kaj (λ(x1:Int×(Int×Int))=>x1.1) (Kbx (λ(x1:Int×(Int×Int))=>decide (x1.2.2=(0:Int))) (KbF aa.firsts aa.spots))))
def By (aa:bI):Prop:=
 (KbF aa.firsts aa.spots).length<=100000/\v8 aa (Kaj (λ(x1:Int×(Int×Int))=>x1.1) (Kbx (λ(x1:Int×(Int×Int))=>decide (x1.2.2=(0:Int))) (KbF aa.firsts aa.spots)))
theorem gR (C:Str->Addr)(aa:bI)(s:ae)(h0:By aa):JF (Y4 C) [.ins (C "Calendar") bE (bF aa)] s (JX aa) s true:=by
 unfold By at h0
 obtain⟨h1,h2⟩:=h0
 refine iL rfl ?_
 unfold JX Vp
 show JB _ [.ins (C "Calendar") bE (bF aa),.emp,.emp,.emp] _ _
 exact JB.ag (JE.meth rfl (by decide) (aK (JE.TX (λ(x1:Int×(Int×Int))=>[.ins (C "Calendar") bE (bF aa),.e x1.1,.e x1.2.1,.e x1.2.2]) (JI.zip (jc rfl (Gz aa)) (jc rfl (QU aa))) (λ_=>rfl) (λx1 _=>JT.ac (oV (aq rfl) (JE.ac 0))) (λx1 _ _=>aq rfl) (za h1)) (bK)) (Vy C aa (Kaj (λ(x1:Int×(Int×Int))=>x1.1) (Kbx (λ(x1:Int×(Int×Int))=>decide (x1.2.2=(0:Int))) (KbF aa.firsts aa.spots))) _ h2))
def Cz (C:Str->Addr):SS:=SS.ag (K7 (SE.Tw (C "Calendar") (SE.LQ 1)) (hxc (SE.ag Wg (cK (iR (C "Calendar") 0 "own_years") (dK))) (SE.ag Wg (cK (iR (C "Calendar") 1 "own_years") (dK)))))
def GA (C:Str->Addr):Fn:=fnOf 2 0 (Cz C)
def qk (aa lC:bI):Bool:=
 (decide ((true=true)/\((OQ aa.own_years)=(OQ lC.own_years))))
def v9 (aa lC:bI):Prop:=
 Ag aa.own_years/\Ag lC.own_years
theorem VC (C:Str->Addr)(aa lC:bI)(s:ae)(h0:v9 aa lC):JF (GA C) [.ins (C "Calendar") bE (bF aa),.ins (C "Calendar") bE (bF lC)] s (qk aa lC) s false:=by
 obtain⟨h1,h2⟩:=h0
 refine iL rfl ?_
 unfold qk Cz
 show JB _ [.ins (C "Calendar") bE (bF aa),.ins (C "Calendar") bE (bF lC)] _ _
 exact JB.ag (PF (tZ (JE.Tw (JE.anyI rfl))) (λ_=>oV (JE.ag (aK (jc rfl (LM aa)) (bK)) (jj aa.own_years _ h1)) (JE.ag (aK (jc rfl (LM lC)) (bK)) (jj lC.own_years _ h2))))
end
end Pu
namespace L2
open PySem PySem.Spec PyProof.Rows C8
open PySem.W (Frag findIn isFn InstAt Looks looks_subIn looks_findIn subIn ifBound_K)
section
variable {prog:Program}{w:World}{A:Around}{E:Value->Shared->Prop}{s:Shared}{K:Frag}{x C f:Addr}{ox:Obj}{od:Option Obj}{b:Value}
theorem CY (X:K.In s.heap)(I:InstAt s.heap x ox C od)(hm:PySem.W.mroIn K C (.type "object")=some true){Q:Unit->Shared->Prop}(hq:Q () s):wpAny (model prog w) A (checkBuiltinCall "object.__ne__" ⟨[.ref x,b],[]⟩) Q E s:=by
 have ha:=F.cmpArgs_ne (.ref x) b
 have hi:wpAny (model prog w) A (isInstance (.ref x) (.type "object")) (λr s'=>r=true/\s'=s) E s:=by
  unfold isInstance
  exact wpAny_bind (I.type.here ((looks_subIn X (show subIn K (.ref C) (.type "object")=some true from hm)).here ⟨rfl,rfl⟩))
 simp only [checkBuiltinCall,F.cmpKind_ne,F.cmpSplit_ne]
 refine wpAny_bind (wpAny_mono hi (λr s' hr=>?_) λ_ _ e=>e)
 obtain⟨rfl,rfl⟩:=hr
 simp only [Bool.not_true,KbJ,if_false]
 cases bqS:Manifest.signature? "object.__ne__" with
 |none=>exact wpAny_pure hq
 |some sig=>
  simp only [argsOk,bqS] at ha
  have h2:Bind.checkArgs "object.__ne__" sig ⟨[.ref x,b],[]⟩=pure ():=ha
  show wpAny _ A (Bind.checkArgs "object.__ne__" sig ⟨[.ref x,b],[]⟩) Q E _
  rw [h2];exact wpAny_pure hq
theorem ve (X:K.In s.heap)(I:InstAt s.heap x ox C od)(hs:findIn K (.ref C) "__eq__" = some (some (.ref f)))(hf:isFn K (.ref f)=true)(hu:A.units<cLine){Q:Fin->Shared->Prop}
  (hcall:wpAny (model prog w) A (call (.ref f) [.ref x,b]) (λv s'=>∃c,v=.bool c/\Q (.done (.ret (.bool (!c)))) s') E s):
  wpAny (model prog w) A (Builtin.«object.__ne__» ⟨[.ref x,b],[]⟩) Q E s:=by
 have hb:wpAny (model prog w) A (callSpecialIfBound? (.ref x) (Str.ofString "__eq__") [b]) (λr s'=>∃c,r=some (.bool c)/\Q (.done (.ret (.bool (!c)))) s') E s:=ifBound_K X I hs hf (wpAny_mono hcall (λv s' hv=>hv.elim λc q=>⟨c,congrArg some q.1,q.2⟩) λ_ _ e=>e)
 unfold Builtin.«object.__ne__»
 repeat (first|with_reducible refine wpAny_cRoomFor hu ?_|(refine wpAny_bind (m:=callSpecialIfBound? (.ref x) (Str.ofString "__eq__") [b]) (wpAny_mono hb (λr s' hr=>?_) λ_ _ e=>e);obtain⟨c,rfl,hq⟩:=hr)|exact hq|exact wpAny_pure hq|exact wpAny_truthy_bool hq|(refine wpAny_bind (m:=truthy (.bool _)) (wpAny_truthy_bool ?_))|wp_step)
theorem qM (X:K.In s.heap)(I:InstAt s.heap x ox C od)(hne:findIn K (.ref C) "__ne__" = some (some (.builtin "object.__ne__")))(hm:PySem.W.mroIn K C (.type "object")=some true)
  (hs:findIn K (.ref C) "__eq__" = some (some (.ref f))) (hf:isFn K (.ref f)=true) (hu:A.units+1<cLine) {Q:Option Value->Shared->Prop}
  (hcall:wpAny (model prog w) A.in1 (call (.ref f) [.ref x,b]) (λv s'=>∃c,v=.bool c/\Q (some (.bool (!c))) s') E s):
  wpAny (model prog w) A (tryCompare (.ref x) "__ne__" b) (λr s'=>∃c,r=some (.bool c)/\Q (some (.bool c)) s') E s:=by
 have go:wpAny (model prog w) A (call (.builtin "object.__ne__") [.ref x,b]) (λv s'=>∃c,v=.bool c/\Q (some (.bool c)) s') E s:=by
  refine wpAny_call (codeAny_call_builtin F.slot_object_ne.plain F.cmpEntry_ne (CY X I hm (ve (A:=A.in1) X I hs hf hu (wpAny_mono hcall (λv s' hv=>?_) λ_ _ e=>e))))
  obtain⟨c,rfl,hq⟩:=hv
  exact⟨c,rfl,!c,rfl,hq⟩
 unfold tryCompare
 refine wpAny_bind (m:=callSpecialIfBound? (.ref x) "__ne__" [b]) ?_
 simp only [callSpecialIfBound?,bindSpecialIfBound?]
 refine wpAny_holding (wpAny_bind (wpAny_bind (wpAny_bind (I.type.here ((looks_findIn X hne).here ?_)))))
 refine wpAny_bind (wpAny_askSetting (wpAny_ite ?_))
 have fin:wpAny (model prog w) A (call (.builtin "object.__ne__") ([.ref x]++[b]) >>= λv=>pure (some v)) (λa s'=>wpAny (model prog w) A
    (match a with
    |some Value.notImplemented=>pure none
    |none=>pure none
    |some v=>pure (some v)) (λr s'=>∃c,r=some (.bool c)/\Q (some (.bool c)) s') E s') E s:=wpAny_bind (wpAny_mono go (λv s' h'=>by
  obtain⟨c,rfl,q⟩:=h'
  exact wpAny_pure (wpAny_pure ⟨c,rfl,q⟩)) λ_ _ h'=>h')
 split
 ·exact wpAny_bind (wpAny_of_eq (F.slot_object_ne.bind _) (wpAny_pure (by exact fin)))
 ·exact wpAny_tryCatch (wpAny_bind (wpAny_of_eq (F.slot_object_ne.bind _) (wpAny_pure (by exact fin))))
theorem HF {h₀:Heap}{L:Addr}{m:Str->Option Value}{tb:Value}(Fr:Fr h₀ L s.heap m)(X₀:K.In h₀)(I:InstAt s.heap x ox C od)(hb:PySem.W.Looks (model prog w) s.heap (typeOf b) tb)(hn:PySem.W.notFirst K C tb=true)
  (hne:findIn K (.ref C) "__ne__" = some (some (.builtin "object.__ne__"))) (hm:PySem.W.mroIn K C (.type "object")=some true)
  (hs:findIn K (.ref C) "__eq__" = some (some (.ref f))) (hf:isFn K (.ref f)=true) (hu:A.units+1<cLine) {Q:Value->Shared->Prop}
  (hcall:wpAny (model prog w) A.in1 (call (.ref f) [.ref x,b]) (λv s'=>∃c,v=.bool c/\Q (.bool (!c)) s') E s):
  wpAny (model prog w) A (richCompare .NotEq (.ref x) b) Q E s:=by
 have X:=X₀.keeps Fr.keep
 have one:=qM (A:=A) (Q:=λr s'=>∃c,r=some (.bool c)/\Q (.bool c) s') X I hne hm hs hf hu (wpAny_mono hcall (λv s' hv=>by
  obtain⟨c,rfl,q⟩:=hv
  exact⟨c,rfl,!c,rfl,q⟩) λ_ _ e=>e)
 unfold richCompare
 simp only [oneThing_ref]
 refine wpAny_holding (wpAny_bind (wpAny_cRoomFor (Nat.lt_of_succ_lt hu) ?_))
 rw [cmpInfo_NotEq]
 dsimp only
 refine wpAny_bind (I.type.here (wpAny_bind (hb.here ?_)))
 split
 ·rename_i q
  have e:subIn K tb (.ref C)=some false:=by
   rcases Ka3.mp hn with e|e
   ·rw [beq_iff_eq.mp e] at q;simp at q
   ·exact beq_iff_eq.mp e
  refine wpAny_bind ((looks_subIn X e).here ?_)
  simp only [KbJ,if_false]
  refine wpAny_bind (wpAny_mono one (λr s' z=>?_) λ_ _ e=>e)
  obtain⟨c,rfl,_,ec,hq⟩:=z
  cases ec
  exact wpAny_pure hq
 ·refine wpAny_bind (wpAny_pure ?_)
  simp only [KbJ,if_false]
  refine wpAny_bind (wpAny_mono one (λr s' z=>?_) λ_ _ e=>e)
  obtain⟨c,rfl,_,ec,hq⟩:=z
  cases ec
  exact wpAny_pure hq
end
section
variable {X:Cx}{n:Nat}{C f:Addr}
def UA (C:Addr)(sp:Sp)(E:XK):R2:=λx y H Q=>∃a dx fs,x=.ref a/\H a=some (.ins C dx fs)/\Qo C y H/\sp [x,y] H (λv H'=>∃b,v=.bl b/\Q (.bl (!b)) H') E
theorem Nu {CX:CXT}{fd:FuncData}{ps:List Str}{sp:Sp}{E:XK}(F:FnOk X.prog X.w X.K X.mg X.base CX n f fd ps sp)(hm:Meth X.K C "__eq__" f)(hb:Binds X.K fd ps [])(hx:Passes CX X E)(hr:Room (n+1) X.A)(hne:PySem.W.findIn X.K (.ref C) "__ne__" = some (some (.builtin "object.__ne__")))(hmo:PySem.W.mroIn X.K C (.type "object")=some true)
  (hn:∀t,t = "int" ∨ t = "str" ∨ t = "list" -> PySem.W.notFirst X.K C (.type t)=true):OpR X (compareOp .NotEq) (UA C sp E):=by
 intro pins s σ H x y v u Q I rx ry hq
 obtain⟨a,dx,fs,rfl,ha,ho,hsp⟩:=hq
 show wpAny (model X.prog X.w) X.A (richCompare .NotEq v u) (EP X pins σ Q) X.xe s
 cases rx
 obtain⟨mA,J,_⟩:=ins_get I.hok ha
 obtain⟨od,J,_⟩:=J.look
 obtain⟨m,hF⟩:=I.fr
 obtain⟨tb,hl,ht⟩:=vm I ho ry
 have hnf:PySem.W.notFirst X.K C tb=true:=by
  rcases ht with e|e|e|e
  ·rw [e];simp [PySem.W.notFirst]
  ·rw [e];exact hn _ (.inl rfl)
  ·rw [e];exact hn _ (.inr (.inl rfl))
  ·rw [e];exact hn _ (.inr (.inr rfl))
 refine HF (tb:=tb) hF I.ok.mod.kin J hl hnf hne hmo hm.at_ hm.fn (by
  have h:=(show Room n X.A.in1 from hr.in1).units0
  simpa using h) ?_
 have e0:Env0 X.prog X.w X.K X.mg X.base X.A.in1 X.stack s H:=I.env0.in1
 have hlen:=F.len _ _ _ _ hsp
 have r2:Vals [V.ref a,y] [Value.ref a,u]:=.cons rfl (.cons ry .nil)
 refine wpAny_call (codeAny_mono (F.run X.A.in1 X.stack s H ⟨[.ref a,u],[]⟩ [.ref a,u] [.ref a,y] _ E hr.in1 e0 (by
  have:=hb s [.ref a,u] I.kIn (by simpa using hlen)
  simpa using this) r2 hsp) λr s' hq=>?_)
 cases r with
 |error e=>exact hx pins σ H s e s' I hq
 |ok fl=>
  cases fl with
  |ret w=>
   obtain⟨z,H',I',rz,b,ez,q⟩:=I.after hq
   subst ez
   cases rz
   exact⟨b,rfl,.bl (!b),H',I',rfl,q⟩
  |next=>exact False.elim hq
  |brk=>exact False.elim hq
  |cont=>exact False.elim hq
end
end L2
namespace Pu
variable [aO]
open PySem PySem.Spec PyProof.Rows L2 Enc
def Mc (z:Vl×ae):Option (Vl×ae):=match z.1.1 with
 |.bool c=>some ((.bool (!c),true),z.2)
 |_=>none
/-- a != b,by bh own == of bh class at C -/
def SE.Yc (C:Addr)(f:Fn)(a b:SE):SE where
 t:=λK=>tOp (UA C (bx f) E0) (a.t K) (b.t K)
 ev:=λρ s=>(a.ev ρ s).bind λx=>(b.ev ρ x.2).bind λy=>match fM x.1.1 with
  |some (C',nm,ds)=>if C'=C then (lH C f nm ds y.1.1 y.2).bind Mc else none
  |none=>none
 ok:=by
  intro K sk F H σ ρ aj s vl s' Q p h q
  obtain⟨⟨⟨x,fl⟩,s1⟩,h1,h0⟩:=aL h
  obtain⟨⟨⟨y,Pc⟩,s2⟩,h2,h3⟩:=aL h0
  clear h h0
  dsimp only at h3
  split at h3
  ·rename_i C' nm ds hu
   split at h3
   ·rename_i e
    subst e
    obtain⟨⟨⟨z,Pd⟩,s3⟩,h4,h5⟩:=aL h3
    clear h3
    unfold Mc at h5
    dsimp only at h5
    split at h5
    ·rename_i c0 c
     cases h5
     refine a.ok K p h1 λu F1 H1 as st1 k1 r1 f1=>?_
     refine b.ok K (p.next st1 k1) h2 λv F2 H2 bs st2 k2 r2 f2=>?_
     obtain⟨a',dx,vs,rfl,hF,hl,rr⟩:=r1.jt hu
     have sa:qB sk F2 H2 (some (.ref a')) (.ins C' nm ds) []:=⟨rfl,a',dx,vs,as,rfl,st2.sub _ _ hF,hl,rr.mono st2.sub⟩
     have fin:∀(v2:V) (F3 H3:Hp) (cs:List Addr),Step sk F2 H2 F3 H3->bw sk F3 H3 s'->Rp F3 v2 (.bool c) cs->∃b,v2=.bl b/\Q (.bl (!b)) H3:=λv2 F3 H3 cs st3 k3 r3=>by
      have e3:=r3.bool_inv
      subst e3
      exact⟨c,rfl,q _ F3 H3 [] ((st1.trans st2).trans st3) k3 (.bl (!c)) .nil⟩
     unfold lH at h4
     split at h4
     ·rename_i C2 rV lq MX
      split at h4
      ·rename_i e2
       subst e2
       obtain⟨b',dy,ws,rfl,hG,hl2,P_⟩:=r2.jt MX
       refine⟨a',dx,_,rfl,st2.sub' _ _ (st2.sub _ _ hF),.inl ⟨b',dy,_,rfl,st2.sub' _ _ hG⟩,?_⟩
       refine⟨sk,F2,_,s2,(.bool c,Pd),s',st2.sub',k2,.cons sa (.cons (show qB sk F2 H2 (some (.ref b')) (.ins C2 rV lq) [] from ⟨rfl,b',dy,ws,bs,rfl,hG,hl2,P_⟩) .nil),h4,λv2 F3 H3 cs st3 k3 r3 f3=>fin v2 F3 H3 cs st3 k3 r3⟩
      ·cases h4
     ·obtain⟨c2,h6,h7⟩:=aL h4
      have ho:Qo C' v H2:=by
       rcases r2.kK h6 with⟨_,b',dy,gs,rfl,hG⟩|⟨_,hp⟩
       ·exact .inl ⟨b',dy,gs,rfl,st2.sub' _ _ hG⟩
       ·rcases hp with h|h|⟨b',xs,e1,e2⟩
        ·exact .inr (.inl h)
        ·exact .inr (.inr (.inl h))
        ·exact .inr (.inr (.inr ⟨b',xs,e1,st2.sub' _ _ e2⟩))
      refine⟨a',dx,_,rfl,st2.sub' _ _ (st2.sub _ _ hF),ho,?_⟩
      refine⟨sk,F2,_,s2,(.bool c,Pd),s',st2.sub',k2,.cons sa (.cons (show qB sk F2 H2 (some v) (.dat y) [] from ⟨rfl,v,bs,rfl,r2⟩) .nil),h7,λv2 F3 H3 cs st3 k3 r3 f3=>fin v2 F3 H3 cs st3 k3 r3⟩
    ·cases h5
   ·cases h3
  ·cases h3
section
variable {ρ:List Slot}{s s1 s2 s3:ae}{a b e:SE}{w w1 w2:Bool}{C:Addr}{nm rV:List Str}{ds lq:List PyData}
theorem JE.Yc {f:Fn}{c w3:Bool}(ha:JE a ρ s (bQ C nm ds) s1 w1)(hb:JE b ρ s1 (bQ C rV lq) s2 w2)(hf:JF f [.ins C nm ds,.ins C rV lq] s2 c s3 w3):JE (SE.Yc C f a b) ρ s (!c) s3 true:=by
 obtain⟨_,ea,_⟩:=ha;obtain⟨_,eb,_⟩:=hb;obtain⟨w',ef,_⟩:=hf
 refine⟨true,?_,λ_=>rfl⟩
 show (a.ev ρ s).bind _=_
 rw [ea]
 show (b.ev ρ s1).bind _=_
 rw [eb]
 show (match fM (bQ C nm ds) with|some (C',nm,ds)=>_|none=>none)=_
 rw [KQ]
 show (if C=C then _ else _)=_
 rw [if_pos rfl]
 have e:lH C f nm ds (bQ C rV lq) s2=f [.ins C nm ds,.ins C rV lq] s2:=by
  unfold lH
  rw [KQ]
  show (if C=C then _ else _)=_
  rw [if_pos rfl]
 show (lH C f nm ds (bQ C rV lq) s2).bind Mc=_
 rw [e,ef]
 rfl
end
end Pu
namespace Pu
open PySem L2 Enc
noncomputable section
theorem Y0 (C:Str->Addr)(aa:bI){α:Type}[Enc α](x:α)(s:ae)(hx:kK (C "Calendar") (enc x)=some false):JF (GA C) [.ins (C "Calendar") bE (bF aa),.e x] s false s false:=by
 refine iL rfl ?_
 unfold Cz
 show JB _ [.ins (C "Calendar") bE (bF aa),.e x] _ _
 exact JB.ag (PF (Q:=False) (w2:=true) (tZ (JE.Tz (JE.YK (x:=x) rfl) hx)) (λh=>by cases h))
end
end Pu
namespace Pu
variable [aO]
open PySem PySem.Spec PyProof.Rows L2 Enc
def RE.lst (a:RA):RE where
 t:=λK=>tLst (a.t K)
 ev:=λρ s=>(a.ev ρ s).bind λx=>if x.1.length<=100000 then some ((.list (x.1.map (·.1)),x.1.all fP),x.2.1,x.2.2) else none
 ok:=by
  intro K sk F0 H0 F H σ ρ ρ' aj s s' vl Q w h q
  obtain⟨⟨x,aH,s1⟩,h1,h2⟩:=aL h
  dsimp only at h2
  split at h2
  ·rename_i hl
   cases h2
   refine a.ok K w h1 λvs F1 H1 as jZ Qa d1 w1 m1 r1 o1=>⟨?_,λpp np=>?_⟩
   ·have:=r1.len
    rw [Kaf] at this
    rw [this]
    exact Kau hl (by decide)
   ·have sa:br F1 H1 (L2.upd F1 pp (.lst vs)) (L2.upd H1 pp (.lst vs)):=.alloc w1.st.sub' np
    have none_of:∀{c:Addr} {G G':Hp},(∀a,G a≠none->G' a≠none)->G' c=none->G c=none:=λ{c G G'} dm z=>by
     cases q:G c with
     |none=>rfl
     |some u=>exact absurd z (dm c (by rw [q];exact nofun))
    refine q _ _ _ (pp::as) jZ (Qa.trans sa.sub) (λa h=>sa.dm a (d1 a h)) (w1.next sa.any (w1.bj.keep sa)) m1 (.lst upd_same (r1.mono sa.sub)) λe=>?_
    obtain⟨a1,a2⟩:=o1 e
    refine⟨KaP.mpr ⟨λm=>?_,a1⟩,λc m=>?_⟩
    ·obtain⟨zs,z⟩:=r1.dom pp m
     rw [w1.st.sub' _ _ z] at np;cases np
    ·rcases Kai.mp m with z|z
     ·subst z
      exact⟨none_of w1.st.dm np,λz=>(w1.cu c z).2.1 np,.inr (none_of d1 np)⟩
     ·exact a2 c z
  ·cases h2
end Pu
namespace Pu
variable [aO]
open PySem PySem.Spec PyProof.Rows L2 Enc
def XG (D:Ends)(sk:Option Addr)(F H:Hp)(σ:L2.St)(vs:List Nat):Out->Prop
 |.nx ρ' s'=>∀F' H' σ' az,Step sk F H F' H'->Pre sk F' H' σ' ρ' az s'->wipe σ' vs=wipe σ vs->D.nx σ' H'
 |.brk ρ' s'=>∀F' H' σ' az,Step sk F H F' H'->Pre sk F' H' σ' ρ' az s'->wipe σ' vs=wipe σ vs->D.bk σ' H'
 |.cnt ρ' s'=>∀F' H' σ' az,Step sk F H F' H'->Pre sk F' H' σ' ρ' az s'->wipe σ' vs=wipe σ vs->D.ct σ' H'
 |.ret vl s'=>∀v F' H' as,Step sk F H F' H'->bw sk F' H' s'->Rp F' v vl.1 as->bO vl.2 H as->D.rt v H'
def qu (vs:List Nat)(b:SS):Prop:=∀(K:Frag) {sk:Option Addr} {F H:Hp} {σ:L2.St} {ρ:List Slot} {aj:List (List Addr)} {s:ae} {out:Out} {D:Ends},Pre sk F H σ ρ aj s->b.ev ρ s=some out->XG D sk F H σ vs out->b.t K D σ H
theorem XG.mono {D:Ends}{sk:Option Addr}{F H F' H':Hp}{σ σ':L2.St}{vs:List Nat}{out:Out}(h:XG D sk F H σ vs out)(st:Step sk F H F' H')(e:wipe σ' vs=wipe σ vs):XG D sk F' H' σ' vs out:=by
 cases out with
 |nx ρ s=>exactλF2 H2 σ2 f2 st2 p2 e2=>h F2 H2 σ2 f2 (st.trans st2) p2 (e2.trans e)
 |brk ρ s=>exactλF2 H2 σ2 f2 st2 p2 e2=>h F2 H2 σ2 f2 (st.trans st2) p2 (e2.trans e)
 |cnt ρ s=>exactλF2 H2 σ2 f2 st2 p2 e2=>h F2 H2 σ2 f2 (st.trans st2) p2 (e2.trans e)
 |ret vl s=>exactλv F2 H2 as st2 k r f=>h v F2 H2 as (st.trans st2) k r (f.back st.dm)
theorem Pre.kr {sk:Option Addr}{F H:Hp}{σ:L2.St}{ρ:List Slot}{aj:List (List Addr)}{s:ae}(p:Pre sk F H σ ρ aj s){i:Nat}{v:V}{d:PyData}{as:List Addr}(r:Rp F v d as):Pre sk F H (σ.set i (some v)) (ρ.set i (.dat d)) (aj.set i []) s:=
 ⟨p.sub,p.bj,p.slots.set ⟨rfl,v,as,rfl,r⟩,λa e m=>p.nN a e (iH.mem m),p.fO.sublist iH⟩
section
variable {vs:List Nat}{a b:SS}
theorem qu.next:qu vs SS.am:=by
 intro K sk F H σ ρ aj s out D p h q
 cases h
 exact q F H σ aj (.refl p.sub) p rfl
theorem qu.never:qu vs Iz:=by
 intro K sk F H σ ρ aj s out D p h q
 cases h
theorem qu.seq (ha:qu vs a)(hb:qu vs b):qu vs (SS.ac a b):=by
 intro K sk F H σ ρ aj s out D p h q
 obtain⟨o,h1,h2⟩:=aL h
 refine ha K p h1 ?_
 cases o with
 |nx aH s1=>exactλF1 H1 σ1 jZ st p1 e1=>hb K p1 h2 (q.mono st e1)
 |brk aH s1=>cases h2;exact q
 |cnt aH s1=>cases h2;exact q
 |ret vl s1=>cases h2;exact q
theorem qu.ret {e:SE}:qu vs (SS.ag e):=by
 intro K sk F H σ ρ aj s out D p h q
 obtain⟨⟨x,s1⟩,h1,h2⟩:=aL h
 cases h2
 exact e.ok K p h1 λv F1 H1 as st k r f=>q v F1 H1 as st k r f
theorem Pre.forget {sk:Option Addr}{F H:Hp}{σ:L2.St}{s:ae}:∀(is:List Nat) {ρ:List Slot} {aj:List (List Addr)},Pre sk F H σ ρ aj s->∃az,Pre sk F H σ (bu ρ is) az s
 |[],ρ,aj,p=>⟨aj,p⟩
 |i::is,ρ,aj,p=>by
  obtain⟨f1,p1⟩:=p.forget is
  exact⟨f1.set i [],p1.sub,p1.bj,p1.slots.drop,λa e m=>p1.nN a e (iH.mem m),p1.fO.sublist iH⟩
end
end Pu
namespace Pu
open PySem PySem.Spec PyProof.Rows L2 Enc
variable [aO]
section
variable {sk:Option Addr}{F0 H0 F H:Hp}{σ:L2.St}{ρ:List Slot}{aj:List (List Addr)}{s s1:ae}{f r n:Nat}{ds es:List PyData}
theorem IT {a:Addr}{cs:List Addr}(hF:F a=none)(ha:a∉cs):del (j_ F H (a::cs)) a=j_ F H cs:=by
 funext b
 by_cases e:b=a
 ·subst e
  rw [MC,jW ha,hF]
 ·rw [yD e]
  by_cases m:b∈cs
  ·rw [l9 m,l9 (Kad _ m)]
  ·rw [jW m,jW (λz=>(Kai.mp z).elim e m)]
/-- a list of ES own Vo one eA may be uu on,its items frozen -/
theorem Wd.Cm (w:Wd sk F0 H0 F H σ ρ aj s)(cS:ρ[f]? = some (.jy (.list ds))):∃a xs as az F',σ[f]? = some (some (.ref a))/\H a=some (.lst xs)/\Same F F'/\ah F' xs ds as/\Wd sk F0 H0 F' H σ (ρ.set f (.aS ds false)) az s:=by
 obtain⟨v,fp,e1,e2,r,n1,i4,i5⟩:=w.use cS
 have n3:=Kag.mp n1
 obtain⟨a,xs,cs,rfl,ha,hr,rfl⟩:=r.aC
 have nc:=KaP.mp n3.1
 have K1:H a=some (.lst xs):=by rw [l9 Kaa] at ha;exact ha
 have ma:∀b∈cs,b∈a::cs:=λb m=>Kad _ m
 have hF:∀b∈cs,F b=none:=λb m=>(i4 b (ma b m)).1
 have XJ:F a=none:=(i4 a Kaa).1
 have na:∀b∈cs,b∉(aj.set f []).flatten:=λb m z=>n3.2.2 b (ma b m) b z rfl
 have hr':=hr.nP ha nc.1
 rw [IT XJ nc.1] at hr'
 have sl:=(w.slots.drop (i:=f)).Nb na hF
 have sl2:=sl.fill (sl:=.aS ds false) (fp:=[a]) e1 ⟨a,xs,cs,rfl,K1,by rw [jW nc.1];exact XJ,hr',rfl⟩
 rw [Kaz,Kaz] at sl2
 have sF:Same F (j_ F H cs):=λb o e=>by
  by_cases m:b∈cs
  ·rw [hF b m] at e;cases e
  ·rw [jW m];exact e
 have st':Step sk F0 H0 (j_ F H cs) H:=by
  refine⟨w.st.sub.trans sF,gjj w.st.sub',λa o x y z=>w.st.fr a o x y z,w.st.dm,λb o e=>?_⟩
  by_cases m:b∈cs
  ·exact .inr (i4 b (ma b m)).2.1
  ·rw [jW m] at e;exact w.st.new b o e
 have hl:∀b∈cs,∃ys,H b=some (.lst ys):=λb m=>by
  obtain⟨ys,z⟩:=(Rp.lst ha hr).dom b (ma b m)
  rw [l9 (ma b m)] at z;exact⟨ys,z⟩
 have iQ:bw sk (j_ F H cs) H s:=⟨λb e=>⟨(w.bj b e).1,by rw [jW (λm=>(i4 b (ma b m)).2.2 e)];exact (w.bj b e).2⟩,w.bj.tab.T_ hl⟩
 have fa:∀b∈a::cs,b∈aj.flatten:=λb m=>Kaw.mpr ⟨_,Kaq e2,m⟩
 have nd:([a]++(aj.set f []).flatten).Nodup:=KaP.mpr ⟨λz=>n3.2.2 a Kaa a z rfl,n3.2.1⟩
 have nd2:=x8 (i:=f) (aj:=aj.set f []) nd
 rw [Kaz] at nd2
 refine⟨a,xs,cs,aj.set f [a],j_ F H cs,e1,K1,sF,hr',st',iQ,sl2,nd2.1,λb m=>?_⟩
 rcases nd2.2 b m with z|z
 ·rw [KcE.mp z];exact w.cu a (fa a Kaa)
 ·exact w.cu b (iH.mem z)
theorem Wd.rowAt (w:Wd sk F0 H0 F H σ ρ aj s)(cS:ρ[f]? = some (.jy (.list ds)))(ek:ds[n]? = some (.list es)):∃a b xs vs,σ[f]? = some (some (.ref a))/\H a=some (.lst xs)/\xs.length=ds.length/\xs[n]? = some (.ref b)/\H b=some (.lst vs)/\vs.length=es.length/\sk≠some a/\sk≠some b:=by
 obtain⟨xv,fp,e1,e2,r',n1,i4,i5⟩:=w.use cS
 obtain⟨a,xs,VS,rfl,ha,rs,rfl⟩:=r'.aC
 rw [l9 Kaa] at ha
 have hl:=rs.len
 obtain⟨Oc,v,wm,lG,lq,as1,bs,as2,rfl,rfl,rfl,r1,r2,r3,l1,l2⟩:=rs.split n ek
 obtain⟨b,vs,cs,rfl,hb,rc,rfl⟩:=r2.aC
 have mem:b∈a::(as1++((b::cs)++as2)):=Kad _ (Kax _ (Kab _ Kaa))
 rw [l9 mem] at hb
 exact⟨a,b,_,vs,e1,ha,hl,by rw [Kbn (by omega),l2,Kc2];rfl,hb,rc.len,(i4 a Kaa).2.2,(i4 b mem).2.2⟩
/-- what reads bh row -/
theorem Wd.zy (w:Wd sk F0 H0 F H σ ρ aj s)(cS:ρ[f]? = some (.jy (.list ds)))(ek:ds[n]? = some (.list es)){a b:Addr}{xs:List V}(p1:σ[f]? = some (some (.ref a)))(p2:H a=some (.lst xs))(p3:xs[n]? = some (.ref b))(pr:σ[r]? = some (some (.ref b)))
  {K:Frag} {e:SE} {x:Vl} {Q:VK} (he:e.ev ((ρ.set f .emp).set r (.dat (.list es))) s=some (x,s1)) (hn:aB x.1=true) (q:∀v F' H',Step sk F H F' H'->bw sk F' H' s1->Rp F' v x.1 []->Q v H'):e.t K σ H Q:=by
 obtain⟨xv,fp,e1,e2,r',n1,i4,i5⟩:=w.use cS
 have n3:=Kag.mp n1
 have hF:∀b∈fp,F b=none:=λb m=>(i4 b m).1
 have na:∀b∈fp,b∉(aj.set f []).flatten:=λb m z=>n3.2.2 b m b z rfl
 rw [p1] at e1;cases e1
 have dm:=r'.dom
 have r0:=r'
 obtain⟨a',xs',VS,ea,ha,rs,rfl⟩:=r'.aC
 cases ea
 have K1:=ha
 rw [l9 Kaa,p2] at K1
 cases K1
 obtain⟨v,bs,q1,q2⟩:=rs.get ek
 rw [p3] at q1;cases q1
 have hl:∀c∈a::VS,∃ys,H c=some (.lst ys):=λc m=>by
  obtain⟨ys,z⟩:=dm c m
  rw [l9 m] at z;exact⟨ys,z⟩
 have sl:=(w.slots.drop (i:=f)).Nb na hF
 have sl2:=sl.fill (sl:=.dat (.list es)) (fp:=[]) pr ⟨rfl,_,_,rfl,q2⟩
 have pp:Pre sk (j_ F H (a::VS)) H σ ((ρ.set f .emp).set r (.dat (.list es))) ((aj.set f []).set r []) s:=by
  refine⟨gjj w.st.sub',⟨λc e=>⟨(w.bj c e).1,?_⟩,w.bj.tab.T_ hl⟩,sl2,λc e m=>(w.cu c (iH.mem (iH.mem m))).2.2 e,n3.2.1.sublist iH⟩
  rw [jW (λm=>(i4 c m).2.2 e)];exact (w.bj c e).2
 refine e.ok K pp he λv1 F1 H1 as st k rr ff=>?_
 have:=rr.aB hn
 subst this
 obtain⟨u1,u2⟩:=st.Ly hF k
 exact q v1 _ H1 u1 u2 (rr.minus (λc m=>by
  obtain⟨ys,z⟩:=hl c m
  exact⟨ys,st.sub c _ (by rw [l9 m];exact z)⟩) λc m=>by cases m)
/-- bh row is changed,and all is frozen but for bh outer list -/
theorem Wd.NK (w:Wd sk F0 H0 F H σ ρ aj s)(cS:ρ[f]? = some (.jy (.list ds)))(ek:ds[n]? = some (.list es))(hne:gv es=true){a b:Addr}{xs vs:List V}(p1:σ[f]? = some (some (.ref a)))(p2:H a=some (.lst xs))(p3:xs[n]? = some (.ref b))(pr:σ[r]? = some (some (.ref b)))(p4:H b=some (.lst vs))(fr:f≠r)
  {m:Nat} {z:Int}:∃F' az,Same F F'/\Wd sk F0 H0 F' (upd H b (.lst (vs.set m (.int z)))) σ ((ρ.set f (.aS (ds.set n (.list (es.set m (.int z)))) false)).set r (.dat (.list (es.set m (.int z))))) az s:=by
 obtain⟨xv,fp,e1,e2,r',n1,i4,i5⟩:=w.use cS
 have n3:=Kag.mp n1
 have nd:=n3.1
 rw [p1] at e1;cases e1
 obtain⟨a',xs',VS,ea,ha,rs,rfl⟩:=r'.aC
 cases ea
 have K1:=ha
 rw [l9 Kaa,p2] at K1
 cases K1
 obtain⟨Oc,v,wm,lG,lq,as1,bs,as2,rfl,rfl,rfl,r1,r2,r3,l1,l2⟩:=rs.split n ek
 have ev:v=.ref b:=by
  rw [Kbn (by omega),l2,Kc2] at p3
  exact Option.some.inj p3
 subst ev
 obtain⟨b',vs',cs,eb,hb,rc,rfl⟩:=r2.aC
 cases eb
 have ec:=rc.aB hne
 subst ec
 have bm1:b∈as1++([b]++as2):=Kax _ (Kab _ Kaa)
 have bm:b∈a::(as1++([b]++as2)):=Kad _ bm1
 have Te:=hb
 rw [l9 bm,p4] at Te
 cases Te
 have nda:=KaP.mp nd
 have hab:a≠b:=λq=>nda.1 (by rw [q];exact bm1)
 have na:=Kag.mp nda.2
 have nb:=Kag.mp na.2.1
 have nb1:b∉as1:=λm=>na.2.2 b m b (Kab _ Kaa) rfl
 have nb2:b∉as2:=λm=>nb.2.2 b Kaa b m rfl
 have w2:=i5 (upd H b (.lst (vs.set m (.int z)))) (Fr.put bm)
 have frx:∀(x:Addr) (o:HO),x≠b->j_ F H (a::(as1++([b]++as2))) x=some o->j_ F (upd H b (.lst (vs.set m (.int z)))) (a::(as1++([b]++as2))) x=some o:=λx o hx e=>by
  by_cases m:x∈a::(as1++([b]++as2))
  ·rw [l9 m] at e
   rw [l9 m,upd_ne hx];exact e
  ·rw [jW m] at e
   rw [jW m];exact e
 have fr1:Fr (j_ F H (a::(as1++([b]++as2)))) (j_ F (upd H b (.lst (vs.set m (.int z)))) (a::(as1++([b]++as2)))) [b]:=λx o hx e=>frx x o (λz=>hx (by rw [z];exact Kaa)) e
 have hbb:∀x∈[b],∃ys,j_ F H (a::(as1++([b]++as2))) x=some (.lst ys):=λx m=>by
  have:x=b:=by simpa using m
  rw [this,l9 bm];exact⟨_,p4⟩
 have ne:∀{zs:List Addr},b∉zs->∀x∈zs,x∉[b]:=λh x m m'=>by
  have:x=b:=by simpa using m'
  rw [this] at m;exact h m
 have q1:=ah.ac fr1 hbb r1 (ne nb1)
 have q3:=ah.ac fr1 hbb r3 (ne nb2)
 have q2:=ah.ac fr1 hbb rc (by intro x m;cases m)
 have rl:Rp (j_ F (upd H b (.lst (vs.set m (.int z)))) (a::(as1++([b]++as2)))) (.ref b) (.list (es.set m (.int z))) (b::[]):=.lst (by rw [l9 bm,upd_same]) (mC (.int z) es q2 hne)
 have rn:Rp (j_ F (upd H b (.lst (vs.set m (.int z)))) (a::(as1++([b]++as2)))) (.ref a) (.list (lG++.list (es.set m (.int z))::lq)) (a::(as1++([b]++as2))):=.lst (frx a _ hab ha) (ah.app q1 (.cons rl q3))
 have ed:(lG++PyData.list es::lq).set n (.list (es.set m (.int z)))=lG++.list (es.set m (.int z))::lq:=by
  rw [List.set_append_right _ _ (by omega),l1,Kc2]
  rfl
 obtain⟨az,w3⟩:=w2.Ft (i:=f) (x:=σ) rn nd (λx m=>(i4 x m).1) (λx m=>(i4 x m).2.2) (λx m=>(i4 x m).2.1) (λx m z=>n3.2.2 x m x z rfl)
 rw [Kaz,RY p1,<-ed] at w3
 have lf:f<ρ.length:=by
  rcases KaA f ρ.length with h|h
  ·exact h
  ·rw [KbI h] at cS;cases cS
 obtain⟨a2,cq9,as',dN,F',g1,g2,g3,g4,w4⟩:=w3.Cm (f:=f) (by rw [Kbo lf])
 rw [Kaz] at w4
 rw [p1] at g1;cases g1
 rw [upd_ne hab,p2] at g2;cases g2
 obtain⟨v,bs,k1,k2⟩:=g4.get (i:=n) (d:=.list (es.set m (.int z))) (by
  rw [ed,Kbn (by omega),l1,Kc2];rfl)
 rw [p3] at k1;cases k1
 obtain⟨bqG,w5⟩:=w4.kr (i:=r) k2
 rw [RY pr] at w5
 exact⟨F',bqG,g3,w5⟩
end
/-- x[i]=e,never Yh -/
def XY (r p:Nat)(e:SE):SS where
 t:=λK=>tAsg (e.t K) (gSub (tVar r) (tVar p) rSetL)
 ev:=λ_ _=>none
 ok:=by
  intro K sk F0 H0 F H σ ρ aj s out D w h q
  cases h
def SS.YJ (f:Nat)(b:SS):SS where
 t:=b.t
 ev:=λρ s=>match ρ[f]? with
  |some (.jy (.list ds))=>b.ev (ρ.set f (.aS ds false)) s
  |_=>none
 ok:=by
  intro K sk F0 H0 F H σ ρ aj s out D w h q
  dsimp only at h
  split at h
  ·rename_i ds cS
   obtain⟨a,xs,as,az,F',h1,h2,h3,h4,w'⟩:=w.Cm cS
   exact b.ok K w' h (q.mono h3)
  ·cases h
def Di (f q r p:Nat)(eP:SE)(T1:ST)(R:SS)(T2:ST)(eV:SE)(rest:SS):SS:=
 SS.YJ f (SS.ac (iJ r (MT f (ak q))) (SS.ac (iJ p eP) (SS.ac (jd T1 R SS.am) (SS.ac (jd T2 (XY r p eV) SS.am) rest))))
def Su (f q r p:Nat)(eP:SE)(T1 T2:ST)(eV:SE)(rest:SS):Bs:=λρ s=>match ρ[f]?,ρ[q]? with
 |some (.jy (.list ds)),some (.dat (.int j))=>(L2.ixN ds.length j).bind λn=>match ds[n]? with
  |some (.list es)=>(eP.ev (((ρ.set r .emp).set f .emp).set r (.dat (.list es))) s).bind λx=>match x.1.1 with
   |.int k=>(T1.ev ((ρ.set r .emp).set p (.dat (.int k))) x.2).bind λb1=>if b1.1=true then none else
    (T2.ev ((ρ.set r .emp).set p (.dat (.int k))) b1.2).bind λb2=>if b2.1=true then
     (eV.ev ((((ρ.set r .emp).set p (.dat (.int k))).set f .emp).set r (.dat (.list es))) b2.2).bind λy=>match y.1.1 with
     | .int z => (L2.ixN es.length k).bind fun m => if gv es = true ∧ (f ≠ r ∧ f ≠ p ∧ r ≠ p ∧ r < ρ.length ∧ p < ρ.length) then
       rest.ev ((((ρ.set r .emp).set p (.dat (.int k))).set f (.aS (ds.set n (.list (es.set m (.int z)))) false)).set r (.dat (.list (es.set m (.int z))))) y.2
      else none
     |_=>none
    else none
   |_=>none
  |_=>none
 |_,_=>none
theorem Ac {f q r p:Nat}{eP:SE}{T1 T2:ST}{R:SS}{eV:SE}{rest:SS}:OkS (Di f q r p eP T1 R T2 eV rest).t (Su f q r p eP T1 T2 eV rest):=by
 intro K sk F0 H0 F H σ ρ aj s out D w h Q
 unfold Su at h
 split at h
 ·rename_i ds j cS eq
  obtain⟨n,hn,h⟩:=aL h
  split at h
  ·rename_i es ek
   obtain⟨⟨⟨x,fx⟩,s1⟩,hP,h⟩:=aL h
   dsimp only at h
   split at h
   ·rename_i k
    obtain⟨⟨b1,s2⟩,h1,h⟩:=aL h
    dsimp only at h
    split at h
    ·cases h
    ·rename_i nb1
     obtain⟨⟨b2,s3⟩,h2,h⟩:=aL h
     dsimp only at h
     split at h
     ·rename_i nb2
      obtain⟨⟨⟨y,fy⟩,s4⟩,hV,h⟩:=aL h
      dsimp only at h
      split at h
      ·rename_i z
       obtain⟨m,hm,h⟩:=aL h
       split at h
       ·rename_i hc
        obtain⟨hne,c1,c2,c3,c4,c5⟩:=hc
        have hlen:=w.slots.length
        obtain⟨a,b,xs,vs,p1,p2,p3,p4,p5,p6,k1,k2⟩:=w.rowAt cS ek
        obtain⟨xq,fq,eq1,eq2,_,vq,_,rfl,rq⟩:=w.slots.get eq
        have evq:=rq.int_inv
        subst evq
        have gk:L2.atI xs j=some (V.ref b):=by
         unfold L2.atI
         rw [p3,hn];exact p4
        refine⟨.ref a,p1,.int j,eq1,.inl ⟨a,xs,j,.ref b,rfl,rfl,.inl (.inl p2),gk,?_⟩⟩
        show tSeq (tAsg (eP.t K) (gName p)) _ D (σ.set r (some (.ref b))) H
        have w1:=w.empty r (some (.ref b))
        have e1f:(ρ.set r .emp)[f]? = some (.jy (.list ds)):=by rw [KaT (Ne.symm c1)];exact cS
        have q1:(σ.set r (some (V.ref b)))[f]? = some (some (.ref a)):=by rw [KaT (Ne.symm c1)];exact p1
        have qr:(σ.set r (some (V.ref b)))[r]? = some (some (.ref b)):=Kbo (by rw [hlen];exact c4)
        refine w1.zy (r:=r) e1f ek q1 p2 p4 qr hP rfl λv1 F1 H1 st1 k1' rr1=>?_
        have ev1:=rr1.int_inv
        subst ev1
        obtain⟨dN,w2⟩:=(w1.next st1 k1').kr (i:=p) rr1
        show tSeq (tIfS (T1.t K) (R.t K) tNext) _ D ((σ.set r (some (.ref b))).set p (some (.int k))) H1
        have a1:H1 a=some (.lst xs):=st1.fr a _ k1 p2
        have b1':H1 b=some (.lst vs):=st1.fr b _ k2 p5
        refine T1.ok K w2.pre h1 λF2 H2 st2 k2'=>?_
        rw [if_neg nb1]
        have w3:=w2.next st2 k2'
        have a2:H2 a=some (.lst xs):=st2.fr a _ k1 a1
        have b2':H2 b=some (.lst vs):=st2.fr b _ k2 b1'
        show tSeq (tIfS (T2.t K) (tAsg (eV.t K) (gSub (tVar r) (tVar p) rSetL)) tNext) _ D ((σ.set r (some (.ref b))).set p (some (.int k))) H2
        refine T2.ok K w3.pre h2 λF3 H3 st3 k3'=>?_
        rw [if_pos nb2]
        have w4:=w3.next st3 k3'
        have a3:H3 a=some (.lst xs):=st3.fr a _ k1 a2
        have b3:H3 b=some (.lst vs):=st3.fr b _ k2 b2'
        have e2f:((ρ.set r .emp).set p (.dat (.int k)))[f]? = some (.jy (.list ds)):=by rw [KaT (Ne.symm c2)];exact e1f
        have q2:((σ.set r (some (V.ref b))).set p (some (.int k)))[f]? = some (some (.ref a)):=by rw [KaT (Ne.symm c2)];exact q1
        have qr2:((σ.set r (some (V.ref b))).set p (some (.int k)))[r]? = some (some (.ref b)):=by rw [KaT (Ne.symm c3)];exact qr
        have qp2:((σ.set r (some (V.ref b))).set p (some (.int k)))[p]? = some (some (.int k)):=Kbo (by rw [Kbs,hlen];exact c5)
        refine w4.zy (r:=r) e2f ek q2 a3 p4 qr2 hV rfl λv4 F4 H4 nY k4' rr4=>?_
        have ev4:=rr4.int_inv
        subst ev4
        have w5:=w4.next nY k4'
        have a4:H4 a=some (.lst xs):=nY.fr a _ k1 a3
        have b4:H4 b=some (.lst vs):=nY.fr b _ k2 b3
        refine⟨.ref b,qr2,.int k,qp2,b,vs,k,m,rfl,rfl,b4,by rw [p6];exact hm,?_⟩
        obtain⟨F6,cq1,s6,w6⟩:=w5.NK (r:=r) (m:=m) (z:=z) e2f ek hne q2 a4 p4 qr2 b4 c1
        exact rest.ok K w6 h (Q.mono ((((st1.sub.trans st2.sub).trans st3.sub).trans nY.sub).trans s6))
       ·cases h
      ·cases h
     ·cases h
   ·cases h
  ·cases h
 ·cases h
/-- row=xs[q];p=e;if t1: return ..;if t2: row[p]=v;bh rest -/
def SS.av (f q r p:Nat)(eP:SE)(T1:ST)(R:SS)(T2:ST)(eV:SE)(rest:SS):SS where
 t:=(Di f q r p eP T1 R T2 eV rest).t
 ev:=λρ s=>match (Di f q r p eP T1 R T2 eV rest).ev ρ s with
  |some o=>some o
  |none=>Su f q r p eP T1 T2 eV rest ρ s
 ok:=by
  intro K sk F0 H0 F H σ ρ aj s out D w h Q
  dsimp only at h
  split at h
  ·rename_i o e
   cases h
   exact (Di f q r p eP T1 R T2 eV rest).ok K w e Q
  ·exact Ac K w h Q
end Pu
namespace Pu
variable [aO]
open PySem PySem.Spec PyProof.Rows L2 Enc
section
variable {ρ:List Slot}{s s1:ae}{f q r p:Nat}{eP eV:SE}{T1 T2:ST}{R rest:SS}
theorem Xm {α:Type}{xs:List α}{j:Int}(h:-(xs.length:Int)<=j/\j<xs.length):L2.ixN xs.length j=some (if 0<=j then j.toNat else (j+xs.length).toNat):=by
 unfold L2.ixN
 by_cases h0:0<=j
 ·rw [if_pos h0,if_pos h.2,if_pos h0]
 ·rw [if_neg h0,if_pos (by omega),if_neg h0]
theorem Ii {α:Type}[Inhabited α]{xs:List α}{j:Int}(h:-(xs.length:Int)<=j/\j<xs.length):xs[(if 0<=j then j.toNat else (j+xs.length).toNat)]? = some (au xs j):=by
 have h1:=W5 h
 unfold L2.atI at h1
 rw [Xm h] at h1
 exact h1
theorem gqe {α:Type}[Enc α]{xs:List α}{j:Int}{x:α}:(di xs j x).map enc=(xs.map (enc:α->PyData)).set (if 0<=j then j.toNat else (j+xs.length).toNat) (enc x):=by
 unfold di
 rw [List.map_set]
theorem Bg {α:Type}{l:List α}{f r p:Nat}{a b c d:α}(c1:f≠r)(c2:f≠p)(c3:r≠p):(((l.set r a).set p b).set f c).set r d=((l.set f c).set r d).set p b:=by
 rw [Kca (l:=l) (i:=r) (j:=p) a b c3,Kca (l:=l.set p b) (i:=r) (j:=f) a c (Ne.symm c1),Kaz,Kca (l:=l) (i:=p) (j:=f) b c (Ne.symm c2),Kca (l:=l.set f c) (i:=p) (j:=r) b d (Ne.symm c3)]
theorem JB.aw {β:Type}{Ψ:β->Out->Prop}{x y:β}{P1 P2:Prop}[Decidable P1][Decidable P2]{xs wm:List (List Int)}{row row2:List Int}{j k z:Int}{w1 w2 w3:Bool}
  (hi:ρ[f]? = some (.jy (enc xs))) (hq:ρ[q]? = some (.dat (enc j))) (hj:-(xs.length:Int)<=j/\j<xs.length) (oW:row=au xs j)
  (hc:f≠r/\f≠p/\r≠p/\r<ρ.length/\p<ρ.length/\q≠f)
  (hPB:JE eP ((ρ.set f (.aS (xs.map enc) false)).set r (.dat (enc row))) s k s1 w1) (hPA:JE eP (((ρ.set r .emp).set f .emp).set r (.dat (enc row))) s k s1 w2)
  (h1:JT T1 (((ρ.set f (.aS (xs.map enc) false)).set r (.dat (enc row))).set p (.dat (enc k))) s1 P1 s1) (h1A:P2->JT T1 ((ρ.set r .emp).set p (.dat (enc k))) s1 False s1)
  (h2:JT T2 (((ρ.set f (.aS (xs.map enc) false)).set r (.dat (enc row))).set p (.dat (enc k))) s1 P2 s1) (h2A:JT T2 ((ρ.set r .emp).set p (.dat (enc k))) s1 P2 s1)
  (h12:P2->¬P1)
  (hVA:P2->JE eV ((((ρ.set r .emp).set p (.dat (enc k))).set f .emp).set r (.dat (enc row))) s1 z s1 w3)
  (hk:P2->-(row.length:Int)<=k/\k<row.length)
  (hx:wm=if P2 then di xs j (di row k z) else xs) (hr2:row2=if P2 then di row k z else row)
  (hR:P1->JB R (((ρ.set f (.aS (xs.map enc) false)).set r (.dat (enc row))).set p (.dat (enc k))) s1 (Ψ x)) (hret:P1->xR (Ψ x))
  (hrest:¬P1->JB rest (((ρ.set f (.aS (wm.map enc) false)).set r (.dat (enc row2))).set p (.dat (enc k))) s1 (Ψ y)):
  JB (SS.av f q r p eP T1 R T2 eV rest) ρ s (Ψ (if P1 then x else y)):=by
 subst oW
 obtain⟨c1,c2,c3,c4,c5,c6⟩:=hc
 have lf:f<ρ.length:=by
  rcases KaA f ρ.length with h|h
  ·exact h
  ·rw [KbI h] at hi;cases hi
 have hB0:(Di f q r p eP T1 R T2 eV rest).ev ρ s=(SS.ac (iJ r (MT f (ak q))) (SS.ac (iJ p eP) (SS.ac (jd T1 R SS.am) (SS.ac (jd T2 (XY r p eV) SS.am) rest)))).ev (ρ.set f (.aS (xs.map enc) false)) s:=by
  show (match ρ[f]? with|some (.jy (.list ds))=>_|_=>none)=_
  rw [hi]
  rfl
 have n1:JN (iJ r (MT f (ak q))) (ρ.set f (.aS (xs.map enc) false)) s ((ρ.set f (.aS (xs.map enc) false)).set r (.dat (enc (au xs j)))) s:=JN.set (JE.ixB (o:=false) (Kbo lf) (aq (by rw [KaT (Ne.symm c6)];exact hq)) hj)
 have n2:=JN.set (i:=p) hPB
 have lead:∀b,(SS.ac (iJ r (MT f (ak q))) (SS.ac (iJ p eP) b)).ev (ρ.set f (.aS (xs.map enc) false)) s=b.ev (((ρ.set f (.aS (xs.map enc) false)).set r (.dat (enc (au xs j)))).set p (.dat (enc k))) s1:=λb=>by
  unfold JN at n1 n2
  rw [uw,n1]
  show (SS.ac (iJ p eP) b).ev _ _=_
  rw [uw,n2]
  rfl
 by_cases p1:P1
 ·have p2:¬P2:=λz=>h12 z p1
  rw [if_pos p1]
  obtain⟨o,ho,hq⟩:=hR p1
  obtain⟨v,s',rfl⟩:=hret p1 _ hq
  refine⟨.ret v s',?_,hq⟩
  have e:(Di f q r p eP T1 R T2 eV rest).ev ρ s=some (.ret v s'):=by
   rw [hB0,lead]
   unfold JT at h1
   rw [uw,wO,h1]
   simp [p1,ho]
  show (match (Di f q r p eP T1 R T2 eV rest).ev ρ s with|some o=>some o|none=>_)=_
  rw [e]
 ·rw [if_neg p1]
  obtain⟨o,ho,hq'⟩:=hrest p1
  refine⟨o,?_,hq'⟩
  by_cases p2:P2
  ·have e:(Di f q r p eP T1 R T2 eV rest).ev ρ s=none:=by
    rw [hB0,lead]
    unfold JT at h1 h2
    rw [decide_eq_false p1] at h1
    rw [decide_eq_true p2] at h2
    rw [uw,wO,h1]
    show (SS.ac (jd T2 (XY r p eV) SS.am) rest).ev _ _=_
    rw [uw,wO,h2]
    rfl
   show (match (Di f q r p eP T1 R T2 eV rest).ev ρ s with|some o=>some o|none=>_)=_
   rw [e]
   show Su f q r p eP T1 T2 eV rest ρ s=_
   unfold Su
   rw [hi,hq]
   show (L2.ixN (xs.map (enc:List Int->PyData)).length j).bind _=_
   rw [Kaf,Xm hj]
   have g1:(xs.map (enc:List Int->PyData))[(if 0<=j then j.toNat else (j+xs.length).toNat)]? = some (.list ((au xs j).map enc)):=by
    rw [KaO,Ii hj];rfl
   simp only [Kae]
   rw [g1]
   obtain⟨_,eP2,_⟩:=hPA
   have eP3:eP.ev (((ρ.set r .emp).set f .emp).set r (.dat (.list ((au xs j).map enc)))) s=some ((enc k,_),s1):=eP2
   dsimp only
   rw [eP3]
   have a1:=h1A p2
   unfold JT at a1 h2A
   have a1':T1.ev ((ρ.set r .emp).set p (.dat (.int k))) s1=some (false,s1):=a1.trans (by rw [decide_eq_false (λz=>z)])
   have a2':T2.ev ((ρ.set r .emp).set p (.dat (.int k))) s1=some (true,s1):=by
    have:=h2A
    rw [decide_eq_true p2] at this
    exact this
   obtain⟨_,eV2,_⟩:=hVA p2
   have eV3:eV.ev ((((ρ.set r .emp).set p (.dat (.int k))).set f .emp).set r (.dat (.list ((au xs j).map enc)))) s1=some ((.int z,_),s1):=eV2
   show (T1.ev ((ρ.set r .emp).set p (.dat (.int k))) s1).bind _=_
   rw [a1']
   show (T2.ev ((ρ.set r .emp).set p (.dat (.int k))) s1).bind _=_
   rw [a2']
   show (eV.ev ((((ρ.set r .emp).set p (.dat (.int k))).set f .emp).set r (.dat (.list ((au xs j).map enc)))) s1).bind _=_
   rw [eV3]
   show (L2.ixN ((au xs j).map (enc:Int->PyData)).length k).bind _=_
   rw [Kaf,Xm (hk p2)]
   show (if gv ((au xs j).map (enc:Int->PyData))=true/\(f≠r/\f≠p/\r≠p/\r<ρ.length/\p<ρ.length) then _ else _)=_
   rw [if_pos ⟨pI _,c1,c2,c3,c4,c5⟩]
   rw [if_pos p2] at hx hr2
   rw [<-ho,hx,hr2]
   congr 1
   rw [gqe]
   show Kc6 (Kc6 (Kc6 (Kc6 ρ r .emp) p (.dat (.int k))) f (.aS ((xs.map enc).set _ (.list (((au xs j).map enc).set _ (.int z)))) false)) r (.dat (.list (((au xs j).map enc).set _ (.int z))))=Kc6 (Kc6 (Kc6 ρ f (.aS ((xs.map enc).set _ (.list ((di (au xs j) k z).map enc))) false)) r (.dat (.list ((di (au xs j) k z).map enc)))) p (.dat (.int k))
   rw [gqe]
   exact Bg c1 c2 c3
  ·have e:(Di f q r p eP T1 R T2 eV rest).ev ρ s=some o:=by
    rw [hB0,lead]
    unfold JT at h1 h2
    rw [decide_eq_false p1] at h1
    rw [decide_eq_false p2] at h2
    rw [uw,wO,h1]
    show (SS.ac (jd T2 (XY r p eV) SS.am) rest).ev _ _=_
    rw [uw,wO,h2]
    show rest.ev _ _=_
    rw [if_neg p2] at hx hr2
    rw [<-ho,hx,hr2]
   show (match (Di f q r p eP T1 R T2 eV rest).ev ρ s with|some o=>some o|none=>_)=_
   rw [e]
end
end Pu
namespace Pu
variable [aO]
open PySem PySem.Spec PyProof.Rows L2 Enc
def SS.P9 (f q:Nat):SS where
 t:=λK=>tAsg ((tW (hxk (ak f) (SO.at (ak q)) SO.no) (hxk (ak f) SO.no (SO.at (ak q)))).t K) (gName f)
 ev:=λρ s=>match ρ[f]?,ρ[q]? with
  |some (.aS ds o),some (.dat (.int j))=>if (cR ds (some j) none).length+(cR ds none (some j)).length<=100000 then some (.nx (ρ.set f (.aS (cR ds (some j) none++cR ds none (some j)) false)) s) else none
  |_,_=>none
 ok:=by
  intro K sk F0 H0 F H σ ρ aj s out D w h Q
  dsimp only at h
  split at h
  ·rename_i ds o j cS eq
   split at h
   ·rename_i hl
    cases h
    obtain⟨xv,fp,e1,e2,a,vs,as,rfl,hH,hF,r,rfl⟩:=w.slots.get cS
    obtain⟨xq,fq,eq1,eq2,_,vq,_,rfl,rq⟩:=w.slots.get eq
    have evq:=rq.int_inv
    subst evq
    obtain⟨bs1,c1⟩:=r.cut (some j) none
    obtain⟨bs2,c2⟩:=r.cut none (some j)
    refine⟨.ref a,e1,.int j,eq1,j,rfl,a,vs,rfl,.inl (.inl hH),λp1 np1=>?_⟩
    have n1:a≠p1:=λz=>by rw [z,np1] at hH;cases hH
    have uN:(upd H p1 (.lst (cutV vs (some j) none))) a=some (.lst vs):=by rw [upd_ne n1];exact hH
    refine⟨.ref a,e1,.int j,eq1,j,rfl,a,vs,rfl,.inl (.inl uN),λp2 Ye=>?_⟩
    have n2:p2≠p1:=λz=>by rw [z,upd_same] at Ye;cases Ye
    have cqE:H p2=none:=by rw [upd_ne n2] at Ye;exact Ye
    refine⟨p1,p2,cutV vs (some j) none,cutV vs none (some j),rfl,rfl,by rw [upd_ne (Ne.symm n2),upd_same],upd_same,by rw [c1.len,c2.len];exact Kau hl (by decide),λp3 EJ=>?_⟩
    have n32:p3≠p2:=λz=>by rw [z,upd_same] at EJ;cases EJ
    rw [upd_ne n32] at EJ
    have n31:p3≠p1:=λz=>by rw [z,upd_same] at EJ;cases EJ
    rw [upd_ne n31] at EJ
    let H1:=upd H p1 (.lst (cutV vs (some j) none))
    let H2:=upd H1 p2 (.lst (cutV vs none (some j)))
    have fF:∀{p:Addr},H p=none->F p=none:=λe=>w.st.sub'.free e
    have s1:=(br.raw (sk:=sk) (o:=.lst (cutV vs (some j) none)) w.st.sub' np1).any (sk:=sk)
    have k1:bw sk F H1 s:=w.bj.keep (br.raw (sk:=sk) w.st.sub' np1)
    have w1:=w.next s1 k1
    have Uk:H1 p2=none:=by show upd H p1 _ p2=none;rw [upd_ne n2];exact cqE
    have s2:=(br.raw (sk:=sk) (o:=.lst (cutV vs none (some j))) w1.st.sub' Uk).any (sk:=sk)
    have w2:=w1.next s2 (w1.bj.keep (br.raw (sk:=sk) w1.st.sub' Uk))
    have Ul:H2 p3=none:=by show upd (upd H p1 _) p2 _ p3=none;rw [upd_ne n32,upd_ne n31];exact EJ
    have s3:=(br.raw (sk:=sk) (o:=.lst (cutV vs (some j) none++cutV vs none (some j))) w2.st.sub' Ul).any (sk:=sk)
    have w3:=w2.next s3 (w2.bj.keep (br.raw (sk:=sk) w2.st.sub' Ul))
    have h0:H0 p3=none:=by
     cases z:H0 p3 with
     |none=>rfl
     |some u=>exact absurd EJ (w.st.dm p3 (by rw [z];exact nofun))
    have nf:p3∉aj.flatten:=λm=>(w.cu p3 m).2.1 EJ
    have nd3:([p3]++aj.flatten).Nodup:=KaP.mpr ⟨nf,w.fO⟩
    obtain⟨m1,m2⟩:=x8 (i:=f) nd3
    have sl:=w3.slots.set (i:=f) (x:=some (.ref p3)) (sl:=.aS (cR ds (some j) none++cR ds none (some j)) false) (fp:=[p3]) ⟨p3,_,_,rfl,upd_same,fF EJ,c1.app c2,rfl⟩
    refine Q F _ _ _ (Same.refl _) ⟨w3.st,w3.bj,sl,m1,λb m=>?_⟩
    rcases m2 b m with z|z
    ·rw [KcE.mp z]
     exact⟨h0,by rw [upd_same];exact nofun,mX w.bj EJ⟩
    ·exact w3.cu b z
   ·cases h
  ·cases h
theorem ah.US {F:Hp}{v:V}{d:PyData}{bs:List Addr}(r:Rp F v d bs):∀(ds:List PyData) {vs:List V} {n:Nat} {as:List Addr},ah F vs ds as->∃cs,ah F (vs.set n v) (ds.set n d) cs
 |[],_,_,_,h=>by cases h;exact⟨[],.nil⟩
 |e::es,_,n,_,h=>by
  cases h with
  |cons hu hr=>
   cases n with
   |zero=>exact⟨_,.cons r hr⟩
   |succ n=>
    obtain⟨cs,q⟩:=ah.US r es (n:=n) hr
    exact⟨_,.cons hu q⟩
def SS.tN (i:Nat)(k e:SE):SS where
 t:=λK=>tAsg (e.t K) (gSub (tVar i) (k.t K) rSetL)
 ev:=λρ s=>match ρ[i]? with
  |some (.aS ds o)=>(e.ev ρ s).bind λx=>(k.ev ρ x.2).bind λy=>match y.1.1 with
   |.int j=>(L2.ixN ds.length j).bind λn=>some (.nx (ρ.set i (.aS (ds.set n x.1.1) false)) y.2)
   |_=>none
  |_=>none
 ok:=by
  intro K sk F0 H0 F H σ ρ aj s out D w h q
  dsimp only at h
  split at h
  ·rename_i ds o cS
   obtain⟨⟨⟨x,fx⟩,s1⟩,h1,h2⟩:=aL h
   obtain⟨⟨⟨y,fy⟩,s2⟩,h3,h4⟩:=aL h2
   dsimp only at h3 h4
   split at h4
   ·rename_i j
    obtain⟨n,h5,h6⟩:=aL h4
    cases h6
    obtain⟨xv,fp,e1,e2,a,vs,as,rfl,hH,hF,r,rfl⟩:=w.slots.get cS
    have fa:a∈aj.flatten:=Kaw.mpr ⟨_,Kaq e2,Kaa⟩
    have cT:=(w.cu a fa).2.2
    refine e.ok K w.pre h1 λv F1 H1 bs st k1 rr f=>?_
    have w1:=w.next st k1
    refine⟨.ref a,e1,?_⟩
    refine k.ok K w1.pre h3 λu F2 H2 cs st2 k2 rk2 f2=>?_
    have w2:=w1.next st2 k2
    have Ir:H2 a=some (.lst vs):=st2.fr a _ cT (st.fr a _ cT hH)
    have S9:F2 a=none:=by
     cases z:F2 a with
     |none=>rfl
     |some u=>
      rcases st2.new a u z with y|y
      ·rcases st.new a u y with y|y
       ·rw [hF] at y;cases y
       ·rw [hH] at y;cases y
      ·rw [st.fr a _ cT hH] at y;cases y
    have hlen:L2.ixN vs.length j=some n:=by rw [r.len];exact h5
    refine⟨a,vs,j,n,rfl,rk2.int_inv,Ir,hlen,?_⟩
    obtain⟨cs2,r2⟩:=ah.US (rr.mono st2.sub) ds (n:=n) ((r.mono st.sub).mono st2.sub)
    obtain⟨az,w3⟩:=w2.yJ e1 e2 Ir S9 r2
    exact q F2 _ σ az (st.sub.trans st2.sub) w3
   ·cases h4
  ·cases h
section
variable {ρ:List Slot}{s s1 s2:ae}{f q i:Nat}{w1 w2:Bool}{k e:SE}
theorem JN.P9 {α:Type}[Enc α]{xs wm:List α}{j:Int}{o:Bool}(hi:ρ[f]? = some (.aS (xs.map enc) o))(hq:ρ[q]? = some (.dat (enc j)))(hl:(cut xs (some j) none).length+(cut xs none (some j)).length<=100000)(hx:wm=cut xs (some j) none++cut xs none (some j)):JN (SS.P9 f q) ρ s (ρ.set f (.aS (wm.map enc) false)) s:=by
 subst hx
 have c:∀lo hi,cR (xs.map (enc:α->PyData)) lo hi=(cut xs lo hi).map enc:=λlo hi=>by
  unfold cR cut
  simp [List.map_drop,KcO]
 show (match ρ[f]?,ρ[q]? with|some (.aS ds o),some (.dat (.int j))=>_|_,_=>none)=_
 rw [hi,hq]
 show (if (cR (xs.map enc) (some j) none).length+(cR (xs.map enc) none (some j)).length<=100000 then _ else _)=_
 rw [c,c,Kaf,Kaf,if_pos hl,Kav]
theorem JN.tN {α:Type}[Enc α]{xs wm:List α}{x:α}{j:Int}{o:Bool}(hi:ρ[i]? = some (.aS (xs.map enc) o))(he:JE e ρ s x s1 w1)(hk:JE k ρ s1 j s2 w2)(hj:-(xs.length:Int)<=j/\j<xs.length)(hx:wm=di xs j x):JN (SS.tN i k e) ρ s (ρ.set i (.aS (wm.map enc) false)) s2:=by
 subst hx
 obtain⟨_,e1,_⟩:=he
 obtain⟨_,e2,_⟩:=hk
 show (match ρ[i]? with|some (.aS ds o)=>_|_=>none)=_
 rw [hi]
 show (e.ev ρ s).bind _=_
 rw [e1]
 show (k.ev ρ s1).bind _=_
 rw [e2]
 show (L2.ixN (xs.map (enc:α->PyData)).length j).bind _=_
 rw [Kaf,Xm hj,gqe]
 rfl
end
end Pu
namespace Pu
open PySem PySem.Spec PyProof.Rows L2 Enc
end Pu
namespace Pu
open PySem PySem.Spec PyProof.Rows L2
end Pu
namespace Pu
open PySem L2 Enc
end Pu
namespace L2
open PySem PySem.Spec PyProof.Rows
end L2
namespace Pu
open PySem PySem.Spec PyProof.Rows L2 Enc
end Pu
namespace Pu
open PySem PySem.Spec PyProof.Rows L2
end Pu
namespace Pu
open PySem PySem.Spec PyProof.Rows L2 Enc
end Pu
namespace Pu
open PySem L2 Enc
noncomputable section
def Ay:SS:=SS.ac (jd (ST.ac (SE.gt (GW 0 0) (SE.ac 0))) (SS.ac (iJ 2 (yP (yS (GW 0 0)) (ak 1))) (SS.ac (Tq 0 0 (BS (GW 0 0) (ak 1))) (SS.ag (ak 2)))) (SS.am)) (SS.ac (Tq 0 2 (gZ (GW 0 2) (SE.ac 1))) (SS.ac (iJ 3 (yP (Iw (yS (gZ (GW 0 1) (GV (SE.ac 1442695041) (GW 0 2)))) (SE.ac 3)) (gZ (Iw (SE.ac 10) (SE.ac 27)) (SE.ac 103)))) (SS.ac (iJ 3 (yP (Iw (yS (gZ (ak 3) (SE.ac 1013904223))) (SE.ac 2)) (gZ (Iw (SE.ac 10) (SE.ac 25)) (SE.ac 13)))) (SS.ag (yP (yS (BS (ak 3) (SE.ac 4096))) (ak 1))))))
def Az:Fn:=fnOf 2 2 Ay
def cG (s:ae)(many1:Int):(Int)×ae:=
 if (0:Int)<s.1 then
 lt ((s.1 % many1)) λSj=>
 lt (((s.1 / many1),s.2.1,s.2.2)) λs1=>
 (Sj,s1)
 else
 lt ((s.1,s.2.1,(s.2.2+(1:Int)))) λs2=>
 lt ((((s2.2.1+((1442695041:Int)*s2.2.2)) ^ (Kbh (3:Int))) % (((10:Int) ^ (Kbh (27:Int)))+(103:Int)))) λPa=>
 lt ((((Pa+(1013904223:Int)) ^ (Kbh (2:Int))) % (((10:Int) ^ (Kbh (25:Int)))+(13:Int)))) λXD=>
 (((XD / (4096:Int)) % many1),s2)
def l8 (s:ae)(many1:Int):Prop:=
 (((0:Int)<s.1)->(0<many1/\(bT ((s.1 % many1)) λSj=>
 (0<many1/\many1<1000000000000000000000000000000000000000000000000000000000000))))/\(¬((0:Int)<s.1)->((bT ((s.1,s.2.1,(s.2.2+(1:Int)))) λs2=>
 iE (s2.2.1+((1442695041:Int)*s2.2.2)) (3:Int)=true/\0<(((10:Int) ^ (Kbh (27:Int)))+(103:Int))/\(bT ((((s2.2.1+((1442695041:Int)*s2.2.2)) ^ (Kbh (3:Int))) % (((10:Int) ^ (Kbh (27:Int)))+(103:Int)))) λPa=>
 iE (Pa+(1013904223:Int)) (2:Int)=true/\0<(((10:Int) ^ (Kbh (25:Int)))+(13:Int))/\(bT ((((Pa+(1013904223:Int)) ^ (Kbh (2:Int))) % (((10:Int) ^ (Kbh (25:Int)))+(13:Int)))) λXD=>
 0<many1)))))
theorem C7 (s:ae)(many1:Int)(h0:l8 s many1):JF Az [.bU,.e many1] s (cG s many1).1 (cG s many1).2 false:=by
 unfold l8 at h0
 obtain⟨h12,h13⟩:=h0
 refine JF.Uo rfl ?_
 unfold cG Ay
 show JB _ [.bU,.e many1,.emp,.emp] _ _
 refine GX (JT.ac (JE.gt (JE.UT rfl) (JE.ac 0))) ?_ (λ_=>PN) ?_
 ·intro hq
  obtain⟨h1,h3⟩:=h12 hq
  refine bS λSj e1=>?_
  have h2:=cI h3 e1
  refine JB.ac (aH:=[.bU,.e many1,.e Sj,.emp]) (lK (DY (PD (JE.UT rfl)) (aq rfl) h1) e1) ?_
  refine bS λs1 e2=>?_
  refine JB.ac (aH:=[.bU,.e many1,.e Sj,.emp]) (JN.UT rfl (IA (JE.UT rfl) (aq rfl) h2) e2) ?_
  exact D6 (aq rfl)
 intro hq
 have h11:=h13 hq
 refine GU ?_
 refine bS λs2 e3=>?_
 obtain⟨h4,h5,h10⟩:=cI h11 e3
 refine JB.ac (aH:=[.bU,.e many1,.emp,.emp]) (JN.Yj rfl (j8 (JE.Yj rfl) (JE.ac 1)) e3) ?_
 refine bS λPa e4=>?_
 obtain⟨h6,h7,h9⟩:=cI h10 e4
 refine JB.ac (aH:=[.bU,.e many1,.emp,.e Pa]) (lK (DY (JE.ar (PD (j8 (JE.sk1 rfl) (P0 (JE.ac 1442695041) (JE.Yj rfl) (.inl (by decide))))) (JE.ac 3) h4) (j8 (JE.ar (JE.ac 10) (JE.ac 27) (by decide)) (JE.ac 103)) h5) e4) ?_
 refine bS λXD e5=>?_
 have h8:=cI h9 e5
 refine JB.ac (aH:=[.bU,.e many1,.emp,.e XD]) (lK (DY (JE.ar (PD (j8 (aq rfl) (JE.ac 1013904223))) (JE.ac 2) h6) (j8 (JE.ar (JE.ac 10) (JE.ac 25) (by decide)) (JE.ac 13)) h7) e5) ?_
 exact D6 (sX (DY (PD (IA (aq rfl) (JE.ac 4096) (by decide))) (aq rfl) h8))
def eqk:SS:=SS.ag (SE.RK (X6 (ak 0)) (X6 (ak 1)))
def KH:Fn:=fnOf 2 0 eqk
def BL {α β:Type}[Enc α][Enc β](mW:α)(uG:β):Bool:=decide (rep mW=rep uG)
def yp {α β:Type}[Enc α][Enc β](mW:α)(uG:β):Prop:=BP (enc mW)=true/\BP (enc uG)=true
theorem Wy {α β:Type}[Enc α][Enc β](mW:α)(uG:β)(s:ae)(h0:yp mW uG):JF KH [.e mW,.e uG] s (BL mW uG) s true:=by
 obtain⟨h1,h2⟩:=h0
 refine iL rfl ?_
 exact JB.ag (JE.RK (JE.repr (aq (x:=mW) rfl) h1) (JE.repr (aq (x:=uG) rfl) h2))
def Kx:SS:=SS.ag (SE.sum (mG (SI.list (ak 0)) (aY 1) (cN) (SE.sum (ak 1)) [1] (by decide)))
def MB:Fn:=fnOf 1 1 Kx
def lB (aZ:List (List Int)):Int:=
 (KbW (Kaj (λ(x1:List Int)=>(KbW x1)) aZ))
def uq (aZ:List (List Int)):Prop:=
 aZ.length<=100000
theorem Rr (aZ:List (List Int))(s:ae)(h0:uq aZ):JF MB [.e aZ] s (lB aZ) s false:=by
 unfold uq at h0
 have h1:=h0
 refine iL rfl ?_
 unfold lB Kx
 show JB _ [.e aZ,.emp] _ _
 exact JB.ag (sX (JE.sum (BX (λ(x1:List Int)=>[.e aZ,.e x1]) (JI.list (aq rfl)) (λ_=>rfl) (λx1 _=>JE.sum (aq rfl)) h1)))
def RX:SS:=SS.ac (iJ 1 (SE.ag Az (tY 0 (cK (SE.ac 9) (dK))))) (SS.ac (iJ 2 (jh (SE.lst (eK (SE.tup (eK (SE.ac 3) (eK (SE.ac 3) (eK (SE.ac 5) (fK))))) (eK (SE.tup (eK (SE.ac 8) (eK (SE.ac 6) (eK (SE.ac 2) (fK))))) (eK (SE.tup (eK (SE.ac 2) (eK (SE.ac 5) (eK (SE.ac 12) (fK))))) (eK (SE.tup (eK (SE.ac 2) (eK (SE.ac 2) (eK (SE.ac 3) (fK))))) (eK (SE.tup (eK (SE.ac 4) (eK (SE.ac 4) (eK (SE.ac 7) (fK))))) (fK))))))) (jh (SE.lst (eK (SE.ac 1) (eK (SE.ac 2) (eK (SE.ac 3) (eK (SE.ac 3) (eK (SE.ac 0) (eK (SE.ac 0) (eK (SE.ac 0) (eK (SE.ac 0) (eK (SE.ac 4) (fK))))))))))) (ak 1)))) (SS.ac (PL 3 (SB.own (SE.lst (fK)))) (SS.ac (hxd (D7 (gZ (SE.ac 1) (SE.ag Az (tY 0 (cK (jh (ak 2) (SE.ac 0)) (dK)))))) (aY 4) (kJ [4] (GS 3 (mG (D7 (gZ (SE.ac 1) (SE.ag Az (tY 0 (cK (jh (ak 2) (SE.ac 1)) (dK)))))) (aY 5) (cN) (gZ (SE.ac 1) (SE.ag Az (tY 0 (cK (jh (ak 2) (SE.ac 2)) (dK))))) [5] (by decide))))) (K8 3 (SS.ac (jd (wk (ST.ac (SE.gt (ak 1) (SE.ac 2))) (wk (ST.ac (hxc (SE.ag Az (tY 0 (cK (SE.ac 3) (dK)))) (SE.ac 0))) (ST.ac (tX (SE.ag MB (cK (ak 3) (dK))) (SE.ac 61))))) (kJ [] (iJ 3 (tW (ak 3) (SE.ag (nW 9) (cK (ak 3) dK))))) (kJ [] (SS.am))) (SS.ag (ak 3)))))))
def WT:Fn:=fnOf 1 5 RX
def BH (gc:T3 Int Int Int)(sp:((List (List Int)))×ae)(x1:Int):((List (List Int)))×ae:=eY sp λst1 Jx=>eY (cG Jx gc.y) λa3 s3=>
 eY (cj (λ(x2:Int) (s4:ae)=>(true,s4)) (λ(x2:Int) (s4:ae)=>(eY (cG s4 gc.z) λa4 s5=>(((1:Int)+a4),s5))) (rng 0 ((1:Int)+a3)) s3) λa5 s6=>
 lt (st1++[a5]) λfN=>
 (fN,s6)
def Rh (gc:T3 Int Int Int)(sp:((List (List Int)))×ae)(x1:Int):Prop:=fH sp λst1 Jx=>l8 Jx gc.y/\(fH (cG Jx gc.y) λa3 s3=>
 (-1000000<=((1:Int)+a3)/\((1:Int)+a3)<=1000000)/\KU (λ(x2:Int) (s4:ae)=>(true,s4)) (λ(x2:Int) (s4:ae)=>(eY (cG s4 gc.z) λa4 s5=>(((1:Int)+a4),s5))) (λ(x2:Int) (s4:ae)=>True) (λ(x2:Int) (s4:ae)=>l8 s4 gc.z) (rng 0 ((1:Int)+a3)) s3/\(cj (λ(x2:Int) (s4:ae)=>(true,s4)) (λ(x2:Int) (s4:ae)=>(eY (cG s4 gc.z) λa4 s5=>(((1:Int)+a4),s5))) (rng 0 ((1:Int)+a3)) s3).1.length<=100000/\(fH (cj (λ(x2:Int) (s4:ae)=>(true,s4)) (λ(x2:Int) (s4:ae)=>(eY (cG s4 gc.z) λa4 s5=>(((1:Int)+a4),s5))) (rng 0 ((1:Int)+a3)) s3) λa5 s6=>
 st1.length<100000))
def An (s:ae)  : (List (List Int))×ae:=
 eY (cG s (9:Int)) λa1 s1=>
 lt (a1) λaD=>
 lt ((au [(T3.mk (3:Int) (3:Int) (5:Int)),(T3.mk (8:Int) (6:Int) (2:Int)),(T3.mk (2:Int) (5:Int) (12:Int)),(T3.mk (2:Int) (2:Int) (3:Int)),(T3.mk (4:Int) (4:Int) (7:Int))] (au [(1:Int),(2:Int),(3:Int),(3:Int),(0:Int),(0:Int),(0:Int),(0:Int),(4:Int)] aD))) λgc=>
 lt (([]:List (List Int))) λcf=>
 eY (cG s1 gc.x) λa2 s2=>
 eY (Ka2 (BH gc) (cf,s2) (rng 0 ((1:Int)+a2))) λp1 s7=>
 eY (if (2:Int)<aD then (eY (cG s7 (3:Int)) λa6 s8=>(decide ((a6=(0:Int))/\((lB p1)<(61:Int))),s8)) else (false,s7)) λa7 s9=>
 lt (if a7=true then
 lt ((p1++p1)) λuI=>
 uI
 else
 p1) λp2=>
 (p2,s9)
def Aq (s:ae)  : Prop:=
 l8 s (9:Int)/\(fH (cG s (9:Int)) λa1 s1=>
 (bT (a1) λaD=>
 (-([(1:Int),(2:Int),(3:Int),(3:Int),(0:Int),(0:Int),(0:Int),(0:Int),(4:Int)].length:Int)<=aD/\aD<([(1:Int),(2:Int),(3:Int),(3:Int),(0:Int),(0:Int),(0:Int),(0:Int),(4:Int)].length:Int))/\(-([(T3.mk (3:Int) (3:Int) (5:Int)),(T3.mk (8:Int) (6:Int) (2:Int)),(T3.mk (2:Int) (5:Int) (12:Int)),(T3.mk (2:Int) (2:Int) (3:Int)),(T3.mk (4:Int) (4:Int) (7:Int))].length:Int)<=(au [(1:Int),(2:Int),(3:Int),(3:Int),(0:Int),(0:Int),(0:Int),(0:Int),(4:Int)] aD)/\(au [(1:Int),(2:Int),(3:Int),(3:Int),(0:Int),(0:Int),(0:Int),(0:Int),(4:Int)] aD)<([(T3.mk (3:Int) (3:Int) (5:Int)),(T3.mk (8:Int) (6:Int) (2:Int)),(T3.mk (2:Int) (5:Int) (12:Int)),(T3.mk (2:Int) (2:Int) (3:Int)),(T3.mk (4:Int) (4:Int) (7:Int))].length:Int))/\(bT ((au [(T3.mk (3:Int) (3:Int) (5:Int)),(T3.mk (8:Int) (6:Int) (2:Int)),(T3.mk (2:Int) (5:Int) (12:Int)),(T3.mk (2:Int) (2:Int) (3:Int)),(T3.mk (4:Int) (4:Int) (7:Int))] (au [(1:Int),(2:Int),(3:Int),(3:Int),(0:Int),(0:Int),(0:Int),(0:Int),(4:Int)] aD))) λgc=>
 (bT (([]:List (List Int))) λcf=>
 l8 s1 gc.x/\(fH (cG s1 gc.x) λa2 s2=>
 (-1000000<=((1:Int)+a2)/\((1:Int)+a2)<=1000000)/\fg (BH gc) (Rh gc) (rng 0 ((1:Int)+a2)) (cf,s2)/\(fH (Ka2 (BH gc) (cf,s2) (rng 0 ((1:Int)+a2))) λp1 s7=>
 (((2:Int)<aD)->(l8 s7 (3:Int)/\(fH (cG s7 (3:Int)) λa6 s8=>((a6=(0:Int))->(uq p1)))))/\(fH (if (2:Int)<aD then (eY (cG s7 (3:Int)) λa6 s8=>(decide ((a6=(0:Int))/\((lB p1)<(61:Int))),s8)) else (false,s7)) λa7 s9=>
 ((a7=true)->(GN (enc p1)=true/\p1.length+p1.length<=100000)))))))))
theorem o6 (s:ae)  (h0:Aq s ):JF WT [.bU] s (An s ).1 (An s ).2 false:=by
 unfold Aq at h0
 obtain⟨h1,S6⟩:=h0
 refine JF.Uo rfl ?_
 unfold An RX
 show JB _ [.bU,.emp,.emp,.emp,.emp,.emp] _ _
 refine wh λa1 s1 hv1=>?_
 have h31:=v_ S6 hv1
 refine bS λaD e1=>?_
 obtain⟨h2,h3,h30⟩:=cI h31 e1
 refine JB.ac (aH:=[.bU,.e aD,.emp,.emp,.emp,.emp]) (lK (t6 (JE.ag (wj rfl (aK (JE.ac 9) (bK))) (C7 s (9:Int) h1)) hv1) e1) ?_
 refine bS λgc e2=>?_
 have h29:=cI h30 e2
 refine JB.ac (aH:=[.bU,.e aD,.e gc,.emp,.emp,.emp]) (lK (rK (JE.lst (xs:=[(T3.mk (3:Int) (3:Int) (5:Int)),(T3.mk (8:Int) (6:Int) (2:Int)),(T3.mk (2:Int) (5:Int) (12:Int)),(T3.mk (2:Int) (2:Int) (3:Int)),(T3.mk (4:Int) (4:Int) (7:Int))]) (gK (ID (gK (JE.ac 3) (gK (JE.ac 3) (gK (JE.ac 5) (JA.nil))))) (gK (ID (gK (JE.ac 8) (gK (JE.ac 6) (gK (JE.ac 2) (JA.nil))))) (gK (ID (gK (JE.ac 2) (gK (JE.ac 5) (gK (JE.ac 12) (JA.nil))))) (gK (ID (gK (JE.ac 2) (gK (JE.ac 2) (gK (JE.ac 3) (JA.nil))))) (gK (ID (gK (JE.ac 4) (gK (JE.ac 4) (gK (JE.ac 7) (JA.nil))))) (JA.nil)))))) (by show 5<=100000;decide)) (rK (JE.lst (xs:=[(1:Int),(2:Int),(3:Int),(3:Int),(0:Int),(0:Int),(0:Int),(0:Int),(4:Int)]) (gK (JE.ac 1) (gK (JE.ac 2) (gK (JE.ac 3) (gK (JE.ac 3) (gK (JE.ac 0) (gK (JE.ac 0) (gK (JE.ac 0) (gK (JE.ac 0) (gK (JE.ac 4) (JA.nil)))))))))) (by show 9<=100000;decide)) (aq rfl) h2) h3) e2) ?_
 refine bS λcf e3=>?_
 obtain⟨h4,h28⟩:=cI h29 e3
 refine JB.ac (aH:=[.bU,.e aD,.e gc,.aS (Kaj enc cf) true,.emp,.emp]) (JN.aS (X8 (JE.lst (xs:=[]) JA.nil)) e3) ?_
 refine wh λa2 s2 hv2=>?_
 obtain⟨h5,Sw,h27⟩:=v_ h28 hv2
 refine wh λp1 s7 hv6=>?_
 obtain⟨h19,SW⟩:=v_ h27 hv6
 refine JB.ac (JN.bqF (J:=λ(st1:(List (List Int)))=>[.bU,.e aD,.e gc,.aS (Kaj enc st1) true,.emp,.emp]) (R:=λ(st1:(List (List Int))) (x1:Int)=>[.bU,.e aD,.e gc,.aS (Kaj enc st1) true,.e x1,.emp]) (f:=(BH gc)) (d:=(Rh gc)) (st:=cf) (MZ (j8 (JE.ac 1) (t6 (JE.ag (wj rfl (aK (JE.p31 (aq rfl)) (bK))) (C7 s1 gc.x h4)) hv2)) h5) rfl (λ_ _=>rfl) ?_ Sw hv6) ?_
 ·intro st1 Jx x1 hd
  have hd:(l8 Jx gc.y/\(fH (cG Jx gc.y) λa3 s3=>
  (-1000000<=((1:Int)+a3)/\((1:Int)+a3)<=1000000)/\KU (λ(x2:Int) (s4:ae)=>(true,s4)) (λ(x2:Int) (s4:ae)=>(eY (cG s4 gc.z) λa4 s5=>(((1:Int)+a4),s5))) (λ(x2:Int) (s4:ae)=>True) (λ(x2:Int) (s4:ae)=>l8 s4 gc.z) (rng 0 ((1:Int)+a3)) s3/\(cj (λ(x2:Int) (s4:ae)=>(true,s4)) (λ(x2:Int) (s4:ae)=>(eY (cG s4 gc.z) λa4 s5=>(((1:Int)+a4),s5))) (rng 0 ((1:Int)+a3)) s3).1.length<=100000/\(fH (cj (λ(x2:Int) (s4:ae)=>(true,s4)) (λ(x2:Int) (s4:ae)=>(eY (cG s4 gc.z) λa4 s5=>(((1:Int)+a4),s5))) (rng 0 ((1:Int)+a3)) s3) λa5 s6=>
  st1.length<100000))):=hd
  obtain⟨h7,h13⟩:=hd
  show JB _ _ _ (Vk _ (eY (cG Jx gc.y) λa3 s3=>
  eY (cj (λ(x2:Int) (s4:ae)=>(true,s4)) (λ(x2:Int) (s4:ae)=>(eY (cG s4 gc.z) λa4 s5=>(((1:Int)+a4),s5))) (rng 0 ((1:Int)+a3)) s3) λa5 s6=>
  lt (st1++[a5]) λfN=>
  (fN,s6)))
  refine JB.U9 ?_
  refine wh λa3 s3 IB=>?_
  obtain⟨h8,h10,h11,h12⟩:=v_ h13 IB
  refine wh λa5 s6 K5=>?_
  have h6:=v_ h12 K5
  refine bS λfN e4=>?_
  refine JB.am (aH:=[.bU,.e aD,.e gc,.aS (Kaj enc fN) true,.e x1,.emp]) (JN.aS (JN.ac rfl (t6 (JE.bq3 (λ(x2:Int)=>[.bU,.e aD,.e gc,.aS (Kaj enc st1) true,.e x1,.e x2]) (MZ (j8 (JE.ac 1) (t6 (JE.ag (wj rfl (aK (JE.p32 (aq rfl)) (bK))) (C7 Jx gc.y h7)) IB)) h8) (λ_=>rfl) (λx2 s4 hq=>JT.cqU) (λx2 s4 hq=>(have h9:=hq;JE.eY λa4 s5 XT=>j8 (JE.ac 1) (t6 (JE.ag (wj rfl (aK (JE.p33 (aq rfl)) (bK))) (C7 s4 gc.z h9)) XT))) h10 h11) K5) h6) e4) ?_
  exact rfl
 show JB _ [.bU,.e aD,.e gc,.aS (Kaj enc p1) true,.emp,.emp] _ _
 refine JB.frz (i:=3) rfl ?_
 show JB _ [.bU,.e aD,.e gc,.e p1,.emp,.emp] _ _
 refine wh λa7 s9 XU=>?_
 have SV:=v_ SW XU
 refine bS λp2 e6=>?_
 refine JB.ac (PY (J:=λ(p:(List (List Int)))=>[.bU,.e aD,.e gc,.e p,.emp,.emp]) (JT.nm (JT.YI (JT.ac (JE.gt (aq rfl) (JE.ac 2))) (λhq=>(match h19 hq with|⟨h15,h18⟩=>JT.eY λa6 s8 hv7=>(have Sy:=v_ h18 hv7;JT.asB (hjl (JT.ac (oV (t6 (JE.ag (wj rfl (aK (JE.ac 3) (bK))) (C7 s7 (3:Int) h15)) hv7) (JE.ac 0))) (λhq=>(have Sx:=Sy hq;JT.ac (wW (JE.ag (aK (aq rfl) (bK)) (Rr p1 _ Sx)) (JE.ac 61))))))))) XU) ?_ ?_ e6) ?_
 ·intro hq
  obtain⟨SM,SQ⟩:=SV hq
  refine oQ ?_
  refine bS λuI e8=>?_
  refine JB.am (aH:=[.bU,.e aD,.e gc,.e uI,.emp,.emp]) (lK (JE.cat (aq rfl) (hxx (aq rfl) SM) SQ) e8) ?_
  exact rfl
 ·intro hq
  refine oQ ?_
  exact JB.ar rfl
 show JB _ [.bU,.e aD,.e gc,.e p2,.emp,.emp] _ _
 exact D6 (aq rfl)
def RH:SS:=SS.ac (Tu 2 3 (SP.EF 2 (K6 3 (SE.ac 0) (SP.nil))) (by decide)) (SS.ac (MS fuel (ST.ac (tX (X3 2) (ak 1))) (kJ [4,5] (SS.ac (hxd (IC (jh (ak 0) (yP (yS (ak 3)) (lu (ak 0))))) (SG.tup (iK (aY 4) (iK (aY 5) (jK)))) (kJ [4,5] (hzx 2 (mG (D7 (ak 5)) (aY 6) (cN) (SE.tup (eK (ak 3) (eK (ak 4) (eK (ak 6) (fK))))) [6] (by decide))))) (iJ 3 (gZ (ak 3) (SE.ac 1)))))) (K8 2 (SS.ag (hxk (ak 2) (SO.no) (SO.at (ak 1))))))
def WU:Fn:=fnOf 2 5 RH
def Ro (st1:((List (T3 Int Int Int))×Int))(st2:(List (T3 Int Int Int)))(x1:Int×Int):(List (T3 Int Int Int)):=
 lt (st2++(Kaj (λ(x2:Int)=>(T3.mk st1.2 x1.1 x2)) (rng 0 x1.2))) λfN=>
 fN
def V8 (st1:((List (T3 Int Int Int))×Int))(st2:(List (T3 Int Int Int)))(x1:Int×Int):Prop:=
 (-1000000<=x1.2/\x1.2<=1000000)/\(rng 0 x1.2).length<=100000/\st2.length+(Kaj (λ(x2:Int)=>(T3.mk st1.2 x1.1 x2)) (rng 0 x1.2)).length<=100000
def J7 (aZ:List (List Int))(many1:Int)(st1:(List (T3 Int Int Int))×Int):Prop:=(st1.1.length:Int)<many1
instance (aZ:List (List Int))(many1:Int):DecidablePred (J7 aZ many1):=λst=>by unfold J7;infer_instance
def Mn (aZ:List (List Int))(many1:Int)(st1:(List (T3 Int Int Int))×Int):(List (T3 Int Int Int))×Int:=
 lt (Ka2 (Ro st1) st1.1 (aX 0 (au aZ (st1.2 % (aZ.length:Int))))) λp1=>
 lt ((st1.2+(1:Int))) λfxr=>
 (p1,fxr)
def exe (aZ:List (List Int))(many1:Int)(st1:(List (T3 Int Int Int))×Int):Prop:=True
def Wk (aZ:List (List Int))(many1:Int)(st1:(List (T3 Int Int Int))×Int):Prop:=
 0<(aZ.length:Int)/\(-(aZ.length:Int)<=(st1.2 % (aZ.length:Int))/\(st1.2 % (aZ.length:Int))<(aZ.length:Int))/\fg (Ro st1) (V8 st1) (aX 0 (au aZ (st1.2 % (aZ.length:Int)))) st1.1
def KC (aZ:List (List Int))(many1:Int):List (T3 Int Int Int):=
 lt ((0:Int)) λOW=>
 lt (qA (J7 aZ many1) (Mn aZ many1) fuel (([]:List (T3 Int Int Int)),OW)) λp2=>
 (cut p2.1 none (some many1))
def Ar (aZ:List (List Int))(many1:Int):Prop:=
 (bT ((0:Int)) λOW=>
 wL (J7 aZ many1) (Mn aZ many1) (exe aZ many1) (Wk aZ many1) fuel (([]:List (T3 Int Int Int)),OW))
theorem o5 (aZ:List (List Int))(many1:Int)(s:ae)(h0:Ar aZ many1):JF WU [.e aZ,.e many1] s (KC aZ many1) s true:=by
 unfold Ar at h0
 have h8:=h0
 refine iL rfl ?_
 unfold KC RH
 show JB _ [.e aZ,.e many1,.emp,.emp,.emp,.emp,.emp] _ _
 refine bS λOW e2=>?_
 have h7:=cI h8 e2
 refine JB.ac (aH:=[.e aZ,.e many1,.aS (Kaj enc ([]:List (T3 Int Int Int))) true,.e OW,.emp,.emp,.emp]) (JN.LU (JP.EF (JP.dat e2 (JE.ac 0) (JP.nil)))) ?_
 refine bS λp2 e6=>?_
 refine JB.ac (Tt (J:=λ(st1:(List (T3 Int Int Int))×Int)=>[.e aZ,.e many1,.aS (Kaj enc st1.1) true,.e st1.2,.emp,.emp,.emp]) (f:=(Mn aZ many1)) (C:=(J7 aZ many1)) (dc:=(exe aZ many1)) (d:=(Wk aZ many1)) (st:=(([]:List (T3 Int Int Int)),OW)) rfl ?_ ?_ h7 e6) ?_
 ·intro st1 hd
  exact JT.ac (wW (JE.T7 rfl) (aq rfl))
 ·intro st1 hd
  unfold Wk at hd
  obtain⟨h1,h2,h6⟩:=hd
  unfold Mn
  refine oQ ?_
  refine bS λp1 e4=>?_
  refine JB.ac (Th (J:=λ(st2:(List (T3 Int Int Int)))=>[.e aZ,.e many1,.aS (Kaj enc st2) true,.e st1.2,.emp,.emp,.emp]) (R:=λ(st2:(List (T3 Int Int Int))) (x1:Int×Int)=>[.e aZ,.e many1,.aS (Kaj enc st2) true,.e st1.2,.e x1.1,.e x1.2,.emp]) (f:=(Ro st1)) (d:=(V8 st1)) (st:=st1.1) (M3 (rK (aq rfl) (DY (PD (aq rfl)) (hxa (aq rfl)) h1) h2)) rfl (λ_ _=>rfl) ?_ h6 e4) ?_
  ·intro st2 x1 hd
   unfold V8 at hd
   obtain⟨h4,h5,h3⟩:=hd
   unfold Ro
   refine oQ ?_
   refine bS λfN e3=>?_
   refine JB.am (aH:=[.e aZ,.e many1,.aS (Kaj enc fN) true,.e st1.2,.e x1.1,.e x1.2,.emp]) (JN.aS (JN.Ib rfl (BX (λ(x2:Int)=>[.e aZ,.e many1,.aS (Kaj enc st2) true,.e st1.2,.e x1.1,.e x1.2,.e x2]) (MZ (aq rfl) h4) (λ_=>rfl) (λx2 _=>ID (gK (aq rfl) (gK (aq rfl) (gK (aq rfl) (JA.nil))))) h5) h3) e3) ?_
   exact rfl
  show JB _ [.e aZ,.e many1,.aS (Kaj enc p1) true,.e st1.2,.emp,.emp,.emp] _ _
  refine bS λfxr e5=>?_
  refine JB.am (aH:=[.e aZ,.e many1,.aS (Kaj enc p1) true,.e fxr,.emp,.emp,.emp]) (lK (j8 (aq rfl) (JE.ac 1)) e5) ?_
  exact rfl
 show JB _ [.e aZ,.e many1,.aS (Kaj enc p2.1) true,.e p2.2,.emp,.emp,.emp] _ _
 refine JB.frz (i:=2) rfl ?_
 show JB _ [.e aZ,.e many1,.e p2.1,.e p2.2,.emp,.emp,.emp] _ _
 exact JB.ag (BW (aq rfl) (JO.no) (JO.at (aq rfl)))
def VE:SS:=SS.ac (SS.par 2 3 (SP.Ko 2 (SE.ag (nW 9) (cK (ak 1) dK)) (K6 3 (SE.ag Az (tY 0 (cK (SE.ac 8) (dK)))) (SP.nil))) (by decide)) (SS.ac (iJ 4 (iqb 2 (SE.ag Az (tY 0 (cK (lu (ak 2)) (dK)))))) (SS.av 2 4 5 6 (SE.ag Az (tY 0 (cK (lu (ak 5)) (dK)))) (wk (ST.ac (tX (ak 3) (SE.ac 2))) (wk (XZ 2 (ST.ac (tX (SE.ag MB (cK (ak 2) (dK))) (SE.ac 41)))) (ST.ac (tX (X3 2) (SE.ac 3))))) (K8 2 (SS.ag (SE.rep (ak 2) (gZ (SE.ac 2) (SE.ag Az (tY 0 (cK (SE.ac 2) (dK)))))))) (ST.ac (hxc (ak 3) (SE.ac 2))) (gZ (SE.ac 1) (yP (yS (jh (ak 5) (ak 6))) (SE.ac 3))) (SS.ac (jd (ST.ac (hxc (ak 3) (SE.ac 3))) (kJ [] (SS.P9 2 4)) (kJ [] (SS.am))) (SS.ac (jd (ST.ac (hxc (ak 3) (SE.ac 4))) (kJ [] (SS.tN 2 (ak 4) (tW (hxk (ak 5) (SO.at (ak 6)) (SO.no)) (hxk (ak 5) (SO.no) (SO.at (ak 6)))))) (kJ [] (SS.am))) (SS.ac (jd (wk (ST.ac (hxc (ak 3) (SE.ac 5))) (wk (ST.ac (tX (lu (ak 5)) (SE.ac 6))) (ST.ac (SE.gt (jh (ak 5) (ak 6)) (SE.ac 1))))) (kJ [] (SS.tN 2 (ak 4) (tW (tW (hxk (ak 5) (SO.no) (SO.at (ak 6))) (SE.lst (eK (SE.ac 1) (eK (uO (jh (ak 5) (ak 6)) (SE.ac 1)) (fK))))) (hxk (ak 5) (SO.at (gZ (ak 6) (SE.ac 1))) (SO.no))))) (kJ [] (SS.am))) (SS.ac (jd (XZ 2 (wk (ST.ac (hxc (ak 3) (SE.ac 6))) (wk (ST.ac (tX (lu (ak 2)) (SE.ac 8))) (ST.ac (tX (SE.ag MB (cK (ak 2) (dK))) (SE.ac 61)))))) (kJ [] (GS 2 (PJ (MT 2 (ak 4))))) (kJ [] (SS.am))) (K8 2 (SS.ag (hxz (ST.ac (hxc (ak 3) (SE.ac 7))) (SE.ag WT (tY 0 (dK))) (ak 2))))))))))
def Zp:Fn:=fnOf 2 5 VE
def Co (s:ae)(aZ:List (List Int)):(List (List Int))×ae:=
 eY (cG s (8:Int)) λa1 s1=>
 lt (aZ) λcf=>
 lt (a1) λaD=>
 eY (cG s1 (cf.length:Int)) λa2 s2=>
 lt (a2) λaG=>
 lt (au cf aG) λaT=>
 eY (cG s2 (aT.length:Int)) λa3 s3=>
 lt (if aD=(2:Int) then di cf aG (di aT a3 ((1:Int)+((au aT a3) % (3:Int)))) else cf) λfN=>
 lt (if aD=(2:Int) then di aT a3 ((1:Int)+((au aT a3) % (3:Int))) else aT) λrow2=>
 if (aD<(2:Int))/\(((lB cf)<(41:Int))/\((cf.length:Int)<(3:Int))) then
 eY (cG s3 (2:Int)) λa5 s5=>
 ((mulL cf ((2:Int)+a5)),s5)
 else
 lt (if aD=(3:Int) then
 lt (cut fN (some aG) none++cut fN none (some aG)) λuI=>
 uI
 else
 fN) λp1=>
 lt (if aD=(4:Int) then
 lt (di p1 aG ((cut row2 (some a3) none)++(cut row2 none (some a3)))) λAE=>
 AE
 else
 p1) λp2=>
 lt (if (aD=(5:Int))/\(((row2.length:Int)<(6:Int))/\((1:Int)<(au row2 a3))) then
 lt (di p2 aG (((cut row2 none (some a3))++[(1:Int),((au row2 a3)-(1:Int))])++(cut row2 (some (a3+(1:Int))) none))) λDt=>
 Dt
 else
 p2) λp3=>
 lt (if (aD=(6:Int))/\(((p3.length:Int)<(8:Int))/\((lB p3)<(61:Int))) then
 lt (p3++[(au p3 aG)]) λfh=>
 fh
 else
 p3) λp4=>
 eY (if aD=(7:Int) then (eY (An s3) λa8 s8=>(a8,s8)) else (p4,s3)) λa9 s9=>
 (a9,s9)
def BE (s:ae)(aZ:List (List Int)):Prop:=
 l8 s (8:Int)/\(fH (cG s (8:Int)) λa1 s1=>
 GN (enc aZ)=true/\(bT (aZ) λcf=>
 (bT (a1) λaD=>
 l8 s1 (cf.length:Int)/\(fH (cG s1 (cf.length:Int)) λa2 s2=>
 (bT (a2) λaG=>
 (-(cf.length:Int)<=aG/\aG<(cf.length:Int))/\(bT (au cf aG) λaT=>
 l8 s2 (aT.length:Int)/\(fH (cG s2 (aT.length:Int)) λa3 s3=>
 (bT (if aD=(2:Int) then di cf aG (di aT a3 ((1:Int)+((au aT a3) % (3:Int)))) else cf) λfN=>
 (bT (if aD=(2:Int) then di aT a3 ((1:Int)+((au aT a3) % (3:Int))) else aT) λrow2=>
 ((aD<(2:Int))->(uq cf))/\((aD=(2:Int))->(-(aT.length:Int)<=a3/\a3<(aT.length:Int)))/\((aD=(2:Int))->((-(aT.length:Int)<=a3/\a3<(aT.length:Int))))/\(((aD<(2:Int))/\(((lB cf)<(41:Int))/\((cf.length:Int)<(3:Int))))->(l8 s3 (2:Int)/\(fH (cG s3 (2:Int)) λa5 s5=>
 (cf.length*(((2:Int)+a5)).toNat<=100000/\-100000<=((2:Int)+a5)/\((2:Int)+a5)<=100000))))/\(¬((aD<(2:Int))/\(((lB cf)<(41:Int))/\((cf.length:Int)<(3:Int))))->(((aD=(3:Int))->(cut fN (some aG) none).length+(cut fN none (some aG)).length<=100000)/\(bT (if aD=(3:Int) then
 lt (cut fN (some aG) none++cut fN none (some aG)) λuI=>
 uI
 else
 fN) λp1=>
 ((aD=(4:Int))->((cut row2 (some a3) none).length+(cut row2 none (some a3)).length<=100000/\(-(p1.length:Int)<=aG/\aG<(p1.length:Int))))/\(bT (if aD=(4:Int) then
 lt (di p1 aG ((cut row2 (some a3) none)++(cut row2 none (some a3)))) λAE=>
 AE
 else
 p1) λp2=>
 ((aD=(5:Int))->((((row2.length:Int)<(6:Int))->((-(row2.length:Int)<=a3/\a3<(row2.length:Int))))))/\(((aD=(5:Int))/\(((row2.length:Int)<(6:Int))/\((1:Int)<(au row2 a3))))->((-(row2.length:Int)<=a3/\a3<(row2.length:Int))/\(cut row2 none (some a3)).length+[(1:Int),((au row2 a3)-(1:Int))].length<=100000/\((cut row2 none (some a3))++[(1:Int),((au row2 a3)-(1:Int))]).length+(cut row2 (some (a3+(1:Int))) none).length<=100000/\(-(p2.length:Int)<=aG/\aG<(p2.length:Int))))/\(bT (if (aD=(5:Int))/\(((row2.length:Int)<(6:Int))/\((1:Int)<(au row2 a3))) then
 lt (di p2 aG (((cut row2 none (some a3))++[(1:Int),((au row2 a3)-(1:Int))])++(cut row2 (some (a3+(1:Int))) none))) λDt=>
 Dt
 else
 p2) λp3=>
 ((aD=(6:Int))->((((p3.length:Int)<(8:Int))->(uq p3))))/\(((aD=(6:Int))/\(((p3.length:Int)<(8:Int))/\((lB p3)<(61:Int))))->((-(p3.length:Int)<=aG/\aG<(p3.length:Int))/\p3.length<100000))/\(bT (if (aD=(6:Int))/\(((p3.length:Int)<(8:Int))/\((lB p3)<(61:Int))) then
 lt (p3++[(au p3 aG)]) λfh=>
 fh
 else
 p3) λp4=>
 ((aD=(7:Int))->(Aq s3)))))))))))))))))
theorem lN (s:ae)(aZ:List (List Int))(h0:BE s aZ):JF Zp [.bU,.e aZ] s (Co s aZ).1 (Co s aZ).2 false:=by
 unfold BE at h0
 obtain⟨h2,h66⟩:=h0
 refine JF.Uo rfl ?_
 unfold Co VE
 show JB _ [.bU,.e aZ,.emp,.emp,.emp,.emp,.emp] _ _
 refine wh λa1 s1 hv1=>?_
 obtain⟨h1,h65⟩:=v_ h66 hv1
 refine bS λcf e1=>?_
 have h64:=cI h65 e1
 refine bS λaD e2=>?_
 obtain⟨h3,h63⟩:=cI h64 e2
 refine JB.ac (aH:=[.bU,.e aZ,.jy (enc cf),.e aD,.emp,.emp,.emp]) (JN.par (JP.jy e1 (hxx (aq rfl) h1) (JP.dat e2 (t6 (JE.ag (wj rfl (aK (JE.ac 8) (bK))) (C7 s (8:Int) h2)) hv1) (JP.nil)))) ?_
 refine wh λa2 s2 hv2=>?_
 have h62:=v_ h63 hv2
 refine bS λaG e3=>?_
 obtain⟨h4,h61⟩:=cI h62 e3
 refine JB.ac (aH:=[.bU,.e aZ,.jy (enc cf),.e aD,.e aG,.emp,.emp]) (lK (JE.CG rfl (t6 (JE.ag (wj rfl (aK (hxa (aq rfl)) (bK))) (C7 s1 (cf.length:Int) h3)) hv2)) e3) ?_
 refine bS λaT e4=>?_
 obtain⟨h5,h60⟩:=cI h61 e4
 refine wh λa3 s3 IB=>?_
 have h59:=v_ h60 IB
 refine bS λfN e5=>?_
 have h58:=cI h59 e5
 refine bS λrow2 e6=>?_
 obtain⟨h7,h56,h57,h54,h55⟩:=cI h58 e6
 refine JB.aw (xs:=cf) (wm:=fN) (row:=aT) (row2:=row2) (j:=aG) (k:=a3) (z:=((1:Int)+((au aT a3) % (3:Int)))) (P1:=(aD<(2:Int))/\(((lB cf)<(41:Int))/\((cf.length:Int)<(3:Int)))) (P2:=aD=(2:Int)) rfl rfl h4 e4 ⟨by decide,by decide,by decide,by simp,by simp,by decide⟩ (t6 (JE.ag (wj rfl (aK (hxa (aq rfl)) (bK))) (C7 s2 (aT.length:Int) h5)) IB) (t6 (JE.ag (wj rfl (aK (hxa (aq rfl)) (bK))) (C7 s2 (aT.length:Int) h5)) IB) (hjl (JT.ac (wW (aq rfl) (JE.ac 2))) (λhq=>(have h6:=h7 hq;hjl (JT.ag rfl (JT.ac (wW (JE.ag (aK (aq rfl) (bK)) (Rr cf _ h6)) (JE.ac 41)))) (λ_=>JT.ac (wW (JE.T7 rfl) (JE.ac 3)))))) (λhq=>JT.Qz (JT.ac (wW (aq rfl) (JE.ac 2))) (by omega)) (JT.ac (oV (aq rfl) (JE.ac 2))) (JT.ac (oV (aq rfl) (JE.ac 2))) (λhq hp=>by have:=hp.1;omega) (λhq=>(have h8:=h57 hq;j8 (JE.ac 1) (DY (PD (rK (aq rfl) (aq rfl) h8)) (JE.ac 3) (by decide)))) h56 e5 e6 ?_ (λ_=>PN) ?_
 ·intro hq
  obtain⟨h11,h13⟩:=h54 hq
  refine wh λa5 s5 K5=>?_
  have h12:=v_ h13 K5
  refine JB.frz (i:=2) rfl ?_
  show JB _ [.bU,.e aZ,.e cf,.e aD,.e aG,.e aT,.e a3] _ _
  exact D6 (JE.tms (aq rfl) (j8 (JE.ac 2) (t6 (JE.ag (wj rfl (aK (JE.ac 2) (bK))) (C7 s3 (2:Int) h11)) K5)) h12)
 intro hq
 obtain⟨Sy,h53⟩:=h55 hq
 show JB _ [.bU,.e aZ,.aS (Kaj enc fN) false,.e aD,.e aG,.e row2,.e a3] _ _
 refine bS λp1 e7=>?_
 obtain⟨SM,h52⟩:=cI h53 e7
 refine JB.ac (PY (J:=λ(p:(List (List Int)))=>[.bU,.e aZ,.aS (Kaj enc p) false,.e aD,.e aG,.e row2,.e a3]) (JT.ac (oV (aq rfl) (JE.ac 3))) ?_ ?_ e7) ?_
 ·intro hq
  have Sx:=Sy hq
  refine oQ ?_
  refine bS λuI e9=>?_
  refine JB.am (aH:=[.bU,.e aZ,.aS (Kaj enc uI) false,.e aD,.e aG,.e row2,.e a3]) (JN.P9 rfl rfl Sx e9) ?_
  exact rfl
 ·intro hq
  refine oQ ?_
  exact JB.ar rfl
 show JB _ [.bU,.e aZ,.aS (Kaj enc p1) false,.e aD,.e aG,.e row2,.e a3] _ _
 refine bS λp2 Wr=>?_
 obtain⟨SW,h36,h51⟩:=cI h52 Wr
 refine JB.ac (PY (J:=λ(p:(List (List Int)))=>[.bU,.e aZ,.aS (Kaj enc p) false,.e aD,.e aG,.e row2,.e a3]) (JT.ac (oV (aq rfl) (JE.ac 4))) ?_ ?_ Wr) ?_
 ·intro hq
  obtain⟨h21,h22⟩:=SM hq
  refine oQ ?_
  refine bS λAE O2=>?_
  refine JB.am (aH:=[.bU,.e aZ,.aS (Kaj enc AE) false,.e aD,.e aG,.e row2,.e a3]) (JN.tN rfl (BY (BW (aq rfl) (JO.at (aq rfl)) (JO.no)) (BW (aq rfl) (JO.no) (JO.at (aq rfl))) h21) (aq rfl) h22 O2) ?_
  exact rfl
 ·intro hq
  refine oQ ?_
  exact JB.ar rfl
 show JB _ [.bU,.e aZ,.aS (Kaj enc p2) false,.e aD,.e aG,.e row2,.e a3] _ _
 refine bS λp3 Ws=>?_
 obtain⟨h39,h45,h50⟩:=cI h51 Ws
 refine JB.ac (PY (J:=λ(p:(List (List Int)))=>[.bU,.e aZ,.aS (Kaj enc p) false,.e aD,.e aG,.e row2,.e a3]) (hjl (JT.ac (oV (aq rfl) (JE.ac 5))) (λhq=>(have SV:=SW hq;hjl (JT.ac (wW (hxa (aq rfl)) (JE.ac 6))) (λhq=>(have SQ:=SV hq;JT.ac (JE.gt (rK (aq rfl) (aq rfl) SQ) (JE.ac 1))))))) ?_ ?_ Ws) ?_
 ·intro hq
  obtain⟨S6,h33,h34,h35⟩:=h36 hq
  refine oQ ?_
  refine bS λDt Z2=>?_
  refine JB.am (aH:=[.bU,.e aZ,.aS (Kaj enc Dt) false,.e aD,.e aG,.e row2,.e a3]) (JN.tN rfl (BY (BY (BW (aq rfl) (JO.no) (JO.at (aq rfl))) (JE.lst (xs:=[(1:Int),((au row2 a3)-(1:Int))]) (gK (JE.ac 1) (gK (AO (rK (aq rfl) (aq rfl) S6) (JE.ac 1)) (JA.nil))) (by show 2<=100000;decide)) h33) (BW (aq rfl) (JO.at (j8 (aq rfl) (JE.ac 1))) (JO.no)) h34) (aq rfl) h35 Z2) ?_
  exact rfl
 ·intro hq
  refine oQ ?_
  exact JB.ar rfl
 show JB _ [.bU,.e aZ,.aS (Kaj enc p3) false,.e aD,.e aG,.e row2,.e a3] _ _
 refine bS λp4 Wt=>?_
 have h49:=cI h50 Wt
 refine JB.ac (PY (J:=λ(p:(List (List Int)))=>[.bU,.e aZ,.aS (Kaj enc p) false,.e aD,.e aG,.e row2,.e a3]) (JT.ag rfl (hjl (JT.ac (oV (aq rfl) (JE.ac 6))) (λhq=>(have h38:=h39 hq;hjl (JT.ac (wW (hxa (aq rfl)) (JE.ac 8))) (λhq=>(have h37:=h38 hq;JT.ac (wW (JE.ag (aK (aq rfl) (bK)) (Rr p3 _ h37)) (JE.ac 61)))))))) ?_ ?_ Wt) ?_
 ·intro hq
  obtain⟨h44,h43⟩:=h45 hq
  refine oQ ?_
  refine bS λfh Z3=>?_
  refine JB.am (aH:=[.bU,.e aZ,.aS (Kaj enc fh) false,.e aD,.e aG,.e row2,.e a3]) (JN.aS (JN.ac rfl (hqu (JE.ixB rfl (aq rfl) h44)) h43) Z3) ?_
  exact rfl
 ·intro hq
  refine oQ ?_
  exact JB.ar rfl
 show JB _ [.bU,.e aZ,.aS (Kaj enc p4) false,.e aD,.e aG,.e row2,.e a3] _ _
 refine wh λa9 s9 hv9=>?_
 refine JB.frz (i:=2) rfl ?_
 show JB _ [.bU,.e aZ,.e p4,.e aD,.e aG,.e row2,.e a3] _ _
 exact D6 (t6 (JE.bqU (JT.ac (oV (aq rfl) (JE.ac 7))) (λhq=>(have h48:=h49 hq;JE.eY λa8 s8 XU=>t6 (JE.ag (wj rfl (bK)) (o6 s3 h48)) XU)) (λ_=>aq rfl)) hv9)
def VQ:SS:=SS.ac (iJ 2 (gZ (gZ (SE.ag MB (cK (ak 0) (dK))) (SE.ag MB (cK (ak 1) (dK)))) (SE.ac 1))) (SS.ac (hxd (izb (SE.ag WU (cK (ak 0) (cK (ak 2) (dK)))) (SE.ag WU (cK (ak 1) (cK (ak 2) (dK))))) (SG.tup (iK (aY 3) (iK (aY 4) (jK)))) (kJ [3,4] (jd (ST.ac (SE.ne (jh (ak 4) (SE.ac 0)) (jh (ak 4) (SE.ac 1)))) (SS.ag (ak 3)) (SS.am)))) (SS.ag (SE.non)))
def ZL:Fn:=fnOf 2 3 VQ
def Hq  (st1:Unit)(x1:Int×((T3 Int Int Int)×(T3 Int Int Int))):(Option Int) ⊕ (Unit):=
 if x1.2.1≠x1.2.2 then
 .inl (some x1.1)
 else
 .inr ()
def fE  (st1:Unit)(x1:Int×((T3 Int Int Int)×(T3 Int Int Int))):Prop:=
 True
def Gr (aZ:List (List Int))(bz:List (List Int)):Option Int:=
 lt ((((lB aZ)+(lB bz))+(1:Int))) λmany1=>
 iy (forR (Hq) (aX 0 (KbF (KC aZ many1) (KC bz many1))) ()) (λr=>r) λp1=>
 (none:Option Int)
def Bw (aZ:List (List Int))(bz:List (List Int)):Prop:=
 uq aZ/\uq bz/\(bT ((((lB aZ)+(lB bz))+(1:Int))) λmany1=>
 Ar aZ many1/\Ar bz many1/\ja (Hq) (fE) (aX 0 (KbF (KC aZ many1) (KC bz many1))) ())
theorem lM (aZ:List (List Int))(bz:List (List Int))(s:ae)(h0:Bw aZ bz):JF ZL [.e aZ,.e bz] s (Gr aZ bz) s false:=by
 unfold Bw at h0
 obtain⟨h1,h2,h6⟩:=h0
 refine iL rfl ?_
 unfold Gr VQ
 show JB _ [.e aZ,.e bz,.emp,.emp,.emp] _ _
 refine bS λmany1 e1=>?_
 obtain⟨h3,h4,h5⟩:=cI h6 e1
 refine JB.ac (aH:=[.e aZ,.e bz,.e many1,.emp,.emp]) (lK (j8 (j8 (JE.ag (aK (aq rfl) (bK)) (Rr aZ _ h1)) (JE.ag (aK (aq rfl) (bK)) (Rr bz _ h2))) (JE.ac 1)) e1) ?_
 refine JB.av (J:=λ(st1:Unit)=>[.e aZ,.e bz,.e many1,.emp,.emp]) (R:=λ(st1:Unit) (x1:Int×((T3 Int Int Int)×(T3 Int Int Int)))=>[.e aZ,.e bz,.e many1,.e x1.1,.e x1.2]) (f:=(Hq)) (d:=(fE)) (st:=()) (w:=false) (JI.HU (JE.ag (aK (aq rfl) (aK (aq rfl) (bK))) (o5 aZ many1 _ h3)) (JE.ag (aK (aq rfl) (aK (aq rfl) (bK))) (o5 bz many1 _ h4))) rfl (λ_ _=>rfl) ?_ h5 (λ_ _ h=>h) ?_
 ·intro st1 x1 hd
  unfold Hq
  refine hjz ?_
  refine MU (JT.ac (JE.ne (α:=T3 Int Int Int) (JE.p21 (aq rfl)) (JE.p22 (aq rfl)))) ?_ ?_
  ·intro hq
   exact hzz (JE.jst (aq rfl))
  ·intro hq
   exact JB.ar rfl
 intro p1 e2
 show JB _ [.e aZ,.e bz,.e many1,.emp,.emp] _ _
 exact JB.ag (sX (JE.nov))
noncomputable def Rq (C:Str->Addr):SS:=SS.ac (iJ 2 (SE.lst (eK (SE.meth (C "Calendar") 0 "year_starts" (Y4 C) (dK)) (eK (SE.meth (C "Calendar") 0 "month_starts" (YT C) (dK)) (eK (SE.meth (C "Calendar") 0 "last_days" (Y6 C) (dK)) (eK (SE.meth (C "Calendar") 0 "months" (Y8 C) (dK)) (eK (SE.meth (C "Calendar") 0 "months_on" (Vv C) (cK (SE.ac 1) (dK))) (fK)))))))) (SS.ac (iJ 2 (tW (ak 2) (SE.lst (eK (SE.meth (C "Calendar") 0 "years_on" (Vx C) (cK (SE.ac 1) (dK))) (eK (SE.meth (C "Calendar") 0 "months_on" (Vv C) (cK (SE.ac 7) (dK))) (eK (SE.meth (C "Calendar") 0 "years_on" (Vx C) (cK (SE.ac 5) (dK))) (eK (SE.meth (C "Calendar") 0 "dates" (VW C) (cK (SE.ac 0) (cK (SE.ac 0) (dK)))) (eK (SE.meth (C "Calendar") 0 "dates" (VW C) (cK (SE.ac 1) (cK (SE.ac 1) (dK)))) (fK))))))))) (SS.ag (ak 2)))
noncomputable def WM (C:Str->Addr):Fn:=fnOf 2 1 (Rq C)
def Kr (s:ae)(aM:bI):(List PyData)×ae:=
 lt ([(enc (JX aM)),(enc (LX aM)),(enc (J3 aM)),(enc (J4 aM)),(enc (v7 aM (1:Int)))]) λao=>
 lt ((ao++[(enc (vZ aM (1:Int))),(enc (v7 aM (7:Int))),(enc (vZ aM (5:Int))),(enc (v5 aM (0:Int) (0:Int))),(enc (v5 aM (1:Int) (1:Int)))])) λFL=>
 (FL,s)
def Am (s:ae)(aM:bI):Prop:=
 By aM/\Ci aM/\Bt aM/\BB aM/\z9 aM (1:Int)/\(bT ([(enc (JX aM)),(enc (LX aM)),(enc (J3 aM)),(enc (J4 aM)),(enc (v7 aM (1:Int)))]) λao=>
 Af aM (1:Int)/\z9 aM (7:Int)/\Af aM (5:Int)/\z_ aM (0:Int) (0:Int)/\z_ aM (1:Int) (1:Int)/\ao.length+[(enc (vZ aM (1:Int))),(enc (v7 aM (7:Int))),(enc (vZ aM (5:Int))),(enc (v5 aM (0:Int) (0:Int))),(enc (v5 aM (1:Int) (1:Int)))].length<=100000)
theorem kM (C:Str->Addr)(s:ae)(aM:bI)(h0:Am s aM):JF (WM C) [.ins (C "Calendar") bE (bF aM),.bU] s (Kr s aM).1 (Kr s aM).2 false:=by
 letI:Enc bI:=Xw C
 unfold Am at h0
 obtain⟨h1,h2,h3,h4,h5,h12⟩:=h0
 refine JF.Uo rfl ?_
 unfold Kr Rq
 show JB _ [.ins (C "Calendar") bE (bF aM),.bU,.emp] _ _
 refine bS λao e1=>?_
 obtain⟨h6,h7,h8,h9,h10,h11⟩:=cI h12 e1
 refine JB.ac (aH:=[.ins (C "Calendar") bE (bF aM),.bU,.e ao]) (lK (JE.lst (xs:=[(enc (JX aM)),(enc (LX aM)),(enc (J3 aM)),(enc (J4 aM)),(enc (v7 aM (1:Int)))]) (JA.cons (GZ (JE.meth rfl (by decide) (bK) (gR C aM _ h1))) (JA.cons (GZ (JE.meth rfl (by decide) (bK) (gm C aM _ h2))) (JA.cons (GZ (JE.meth rfl (by decide) (bK) (iM C aM _ h3))) (JA.cons (GZ (JE.meth rfl (by decide) (bK) (j9 C aM _ h4))) (JA.cons (GZ (JE.meth rfl (by decide) (aK (JE.ac 1) (bK)) (cX C aM (1:Int) _ h5))) (JA.nil)))))) (by show 5<=100000;decide)) e1) ?_
 refine bS λFL e2=>?_
 refine JB.ac (aH:=[.ins (C "Calendar") bE (bF aM),.bU,.e FL]) (lK (JE.cat (aq rfl) (JE.lst (xs:=[(enc (vZ aM (1:Int))),(enc (v7 aM (7:Int))),(enc (vZ aM (5:Int))),(enc (v5 aM (0:Int) (0:Int))),(enc (v5 aM (1:Int) (1:Int)))]) (JA.cons (GZ (JE.meth rfl (by decide) (aK (JE.ac 1) (bK)) (dR C aM (1:Int) _ h6))) (JA.cons (GZ (JE.meth rfl (by decide) (aK (JE.ac 7) (bK)) (cX C aM (7:Int) _ h7))) (JA.cons (GZ (JE.meth rfl (by decide) (aK (JE.ac 5) (bK)) (dR C aM (5:Int) _ h8))) (JA.cons (GZ (JE.meth rfl (by decide) (aK (JE.ac 0) (aK (JE.ac 0) (bK))) (fX C aM (0:Int) (0:Int) _ h9))) (JA.cons (GZ (JE.meth rfl (by decide) (aK (JE.ac 1) (aK (JE.ac 1) (bK))) (fX C aM (1:Int) (1:Int) _ h10))) (JA.nil)))))) (by show 5<=100000;decide)) h11) e2) ?_
 exact D6 (aq rfl)
noncomputable def WR (C:Str->Addr):SS:=SS.ac (iJ 1 (SE.ag WT (tY 0 (dK)))) (SS.ac (iJ 2 (SE.ag Zp (tY 0 (cK (ak 1) (dK))))) (SS.ac (Tu 3 4 (izc (C "Calendar") 3 (Rx C) (cK (SE.ag (nW 9) (cK (ak 1) dK)) (dK)) (izc (C "Calendar") 4 (Rx C) (cK (SE.ag (nW 9) (cK (ak 2) dK)) (dK)) (SP.nil))) (of_decide_eq_true rfl)) (SS.ac (iJ 5 (SE.ag ZL (cK (ak 1) (cK (ak 2) (dK))))) (SS.ac (iJ 6 (SE.TF (ak 5) (SE.non))) (SS.ac (hxd (SI.list (SE.lst (eK (SE.tup (eK (BV 3) (eK (BV 4) (fK)))) (eK (SE.tup (eK (BV 4) (eK (BV 3) (fK)))) (fK))))) (SG.tup (iK (aY 7) (iK (aY 8) (jK)))) (kJ [7,8] (jd (G1 (ST.ac (SE.ne (K9 (C "Calendar") (GA C) (ak 7) (ak 8)) (ak 6))) (ST.ac (hxc (SE.Yc (C "Calendar") (GA C) (ak 7) (ak 8)) (ak 6)))) (SS.ag (SE.bool false)) (SS.am)))) (SS.ac (jd (G1 (K3 (ST.ac (K9 (C "Calendar") (GA C) (BV 3) (SE.X9 (C "Calendar") (Rx C) (cK (SE.ag (nW 9) (cK (ak 1) dK)) (dK)))))) (G1 (K3 (ST.ac (K9 (C "Calendar") (GA C) (BV 4) (BV 4)))) (G1 (ST.ac (K9 (C "Calendar") (GA C) (BV 3) (ak 1))) (G1 (ST.ac (K9 (C "Calendar") (GA C) (BV 3) (SE.ac 3))) (ST.ac (K9 (C "Calendar") (GA C) (BV 4) (SE.av "two"))))))) (SS.ag (SE.bool false)) (SS.am)) (SS.ac (jd (ST.ac (ak 6)) (SS.ac (jd (K3 (ST.ac (SE.ag KH (cK (SE.ag (WM C) (SR.ins 3 (tY 0 (dK)))) (cK (SE.ag (WM C) (SR.ins 4 (tY 0 (dK)))) (dK)))))) (SS.ag (SE.bool false)) (SS.am)) (SS.ac (iJ 9 (SE.ag Az (tY 0 (cK (Iw (SE.ac 10) (SE.ac 30)) (dK))))) (SS.ag (K7 (SE.ag KH (cK (SE.meth (C "Calendar") 3 "date" (CB C) (cK (ak 9) (dK))) (cK (SE.meth (C "Calendar") 4 "date" (CB C) (cK (ak 9) (dK))) (dK)))) (hxc (SE.meth (C "Calendar") 3 "day" (ZF C) (cK (SE.meth (C "Calendar") 4 "date" (CB C) (cK (ak 9) (dK))) (dK))) (ak 9)))))) (SS.am)) (SS.ac (jd (ST.ac (SE.ag KH (cK (SE.meth (C "Calendar") 3 "date" (CB C) (cK (ak 5) (dK))) (cK (SE.meth (C "Calendar") 4 "date" (CB C) (cK (ak 5) (dK))) (dK))))) (SS.ag (SE.bool false)) (SS.am)) (SS.ag (MY (mG (XW (hxy (SE.ac 0) (uO (ak 5) (SE.ac 3))) (ak 5)) (aY 9) (cN) (SE.ag KH (cK (SE.meth (C "Calendar") 3 "date" (CB C) (cK (ak 9) (dK))) (cK (SE.meth (C "Calendar") 4 "date" (CB C) (cK (ak 9) (dK))) (dK)))) [9] (by decide))))))))))))
noncomputable def RG (C:Str->Addr):Fn:=fnOf 1 9 (WR C)
def ye (ql:Bool)(st1:Unit)(x1:bI×bI):(Bool) ⊕ (Unit):=
 if ((qk x1.1 x1.2)≠ql)∨((!(qk x1.1 x1.2))=ql) then
 .inl false
 else
 .inr ()
def V7 (ql:Bool)(st1:Unit)(x1:bI×bI):Prop:=
 v9 x1.1 x1.2/\(¬((qk x1.1 x1.2)≠ql)->(v9 x1.1 x1.2))
def RN (s:ae)  : (Bool)×ae:=
 eY (An s) λa1 s1=>
 lt (a1) λaZ=>
 eY (Co s1 aZ) λa2 s2=>
 lt (a2) λbz=>
 lt (sR aZ) λa_=>
 lt (sR bz) λbG=>
 lt ((Gr aZ bz)) λiI=>
 lt ((decide (iI=none))) λql=>
 iy (forR (ye ql) [(a_,bG),(bG,a_)] ()) (λr=>(r,s2)) λp1=>
 if (¬((qk a_ (sR aZ))=true))∨((¬((qk bG bG)=true))∨((false=true)∨((false=true)∨(false=true)))) then
 (false,s2)
 else
 if ql=true then
 eY (Kr s2 a_) λa3 s3=>
 eY (Kr s3 bG) λa4 s4=>
 if ¬((BL a3 a4)=true) then
 (false,s4)
 else
 eY (cG s4 ((10:Int) ^ (Kbh (30:Int)))) λa5 s5=>
 lt (a5) λaG=>
 ((decide (((BL (iY a_ aG) (iY bG aG))=true)/\((Rk a_ (iY bG aG))=aG))),s5)
 else
 if (BL (iY a_ (KaN iI default)) (iY bG (KaN iI default)))=true then
 (false,s2)
 else
 ((Kc5 (Kaj (λ(x2:Int)=>(BL (iY a_ x2) (iY bG x2))) (rng (max (0:Int) ((KaN iI default)-(3:Int))) (KaN iI default))) id),s2)
def BK (s:ae)  : Prop:=
 Aq s/\(fH (An s) λa1 s1=>
 (bT (a1) λaZ=>
 BE s1 aZ/\(fH (Co s1 aZ) λa2 s2=>
 (bT (a2) λbz=>
 GN (enc aZ)=true/\x7 aZ/\(bT (sR aZ) λa_=>
 GN (enc bz)=true/\x7 bz/\(bT (sR bz) λbG=>
 Bw aZ bz/\(bT ((Gr aZ bz)) λiI=>
 (bT ((decide (iI=none))) λql=>
 ja (ye ql) (V7 ql) [(a_,bG),(bG,a_)] ()/\(∀p1,forR (ye ql) [(a_,bG),(bG,a_)] ()=.inr p1->(GN (enc aZ)=true/\x7 aZ/\v9 a_ (sR aZ)/\(¬(¬((qk a_ (sR aZ))=true))->(v9 bG bG))/\(¬((¬((qk a_ (sR aZ))=true))∨((¬((qk bG bG)=true))∨((false=true)∨((false=true)∨(false=true)))))->(((ql=true)->(Am s2 a_/\(fH (Kr s2 a_) λa3 s3=>
 Am s3 bG/\(fH (Kr s3 bG) λa4 s4=>
 yp a3 a4/\(¬(¬((BL a3 a4)=true))->(l8 s4 ((10:Int) ^ (Kbh (30:Int)))/\(fH (cG s4 ((10:Int) ^ (Kbh (30:Int)))) λa5 s5=>
 (bT (a5) λaG=>
 qY a_ aG/\qY bG aG/\yp (iY a_ aG) (iY bG aG)/\(((BL (iY a_ aG) (iY bG aG))=true)->(qY bG aG/\BF a_ (iY bG aG)))))))))))/\(¬(ql=true)->(Kcc iI=true/\qY a_ (KaN iI default)/\Kcc iI=true/\qY bG (KaN iI default)/\yp (iY a_ (KaN iI default)) (iY bG (KaN iI default))/\(¬((BL (iY a_ (KaN iI default)) (iY bG (KaN iI default)))=true)->(Kcc iI=true/\Kcc iI=true/\((-1000000<=(max (0:Int) ((KaN iI default)-(3:Int)))/\(max (0:Int) ((KaN iI default)-(3:Int)))<=1000000)/\(-1000000<=(KaN iI default)/\(KaN iI default)<=1000000))/\(∀x2∈(rng (max (0:Int) ((KaN iI default)-(3:Int))) (KaN iI default)),qY a_ x2/\qY bG x2/\yp (iY a_ x2) (iY bG x2))/\(rng (max (0:Int) ((KaN iI default)-(3:Int))) (KaN iI default)).length<=100000))))))))))))))))
theorem wY (C:Str->Addr)(s:ae)  (h0:BK s ):JF (RG C) [.bU] s (RN s ).1 (RN s ).2 false:=by
 letI:Enc bI:=Xw C
 unfold BK at h0
 obtain⟨h1,h57⟩:=h0
 refine JF.Uo rfl ?_
 unfold RN WR
 show JB _ [.bU,.emp,.emp,.emp,.emp,.emp,.emp,.emp,.emp,.emp] _ _
 refine wh λa1 s1 hv1=>?_
 have h56:=v_ h57 hv1
 refine bS λaZ e1=>?_
 obtain⟨h2,h55⟩:=cI h56 e1
 refine JB.ac (aH:=[.bU,.e aZ,.emp,.emp,.emp,.emp,.emp,.emp,.emp,.emp]) (lK (t6 (JE.ag (wj rfl (bK)) (o6 s h1)) hv1) e1) ?_
 refine wh λa2 s2 hv2=>?_
 have h54:=v_ h55 hv2
 refine bS λbz e2=>?_
 obtain⟨h3,h4,h53⟩:=cI h54 e2
 refine JB.ac (aH:=[.bU,.e aZ,.e bz,.emp,.emp,.emp,.emp,.emp,.emp,.emp]) (lK (t6 (JE.ag (wj rfl (aK (aq rfl) (bK))) (lN s1 aZ h2)) hv2) e2) ?_
 refine bS λa_ e3=>?_
 obtain⟨h5,h6,h52⟩:=cI h53 e3
 refine bS λbG e4=>?_
 obtain⟨h7,h51⟩:=cI h52 e4
 refine JB.ac (aH:=[.bU,.e aZ,.e bz,.ins (C "Calendar") bE (bF a_),.ins (C "Calendar") bE (bF bG),.emp,.emp,.emp,.emp,.emp]) (JN.LU (JP.Ll (aK (hxx (aq rfl) h3) (bK)) (eqn C aZ _ h4) e3 (JP.Ll (aK (hxx (aq rfl) h5) (bK)) (eqn C bz _ h6) e4 (JP.nil)))) ?_
 refine bS λiI e5=>?_
 have h50:=cI h51 e5
 refine JB.ac (aH:=[.bU,.e aZ,.e bz,.ins (C "Calendar") bE (bF a_),.ins (C "Calendar") bE (bF bG),.e iI,.emp,.emp,.emp,.emp]) (lK (JE.ag (aK (aq rfl) (aK (aq rfl) (bK))) (lM aZ bz _ h7)) e5) ?_
 refine bS λql e6=>?_
 obtain⟨h11,h49⟩:=cI h50 e6
 refine JB.ac (aH:=[.bU,.e aZ,.e bz,.ins (C "Calendar") bE (bF a_),.ins (C "Calendar") bE (bF bG),.e iI,.e ql,.emp,.emp,.emp]) (lK (JE.TF (aq rfl)) e6) ?_
 refine JB.av (J:=λ(st1:Unit)=>[.bU,.e aZ,.e bz,.ins (C "Calendar") bE (bF a_),.ins (C "Calendar") bE (bF bG),.e iI,.e ql,.emp,.emp,.emp]) (R:=λ(st1:Unit) (x1:bI×bI)=>[.bU,.e aZ,.e bz,.ins (C "Calendar") bE (bF a_),.ins (C "Calendar") bE (bF bG),.e iI,.e ql,.e x1.1,.e x1.2,.emp]) (f:=(ye ql)) (d:=(V7 ql)) (st:=()) (w:=false) (JI.list (JE.lst (xs:=[(a_,bG),(bG,a_)]) (BU (PV (BU (XO (hxi rfl)) (BU (XO (hxi rfl)) (JA.nil)))) (BU (PV (BU (XO (hxi rfl)) (BU (XO (hxi rfl)) (JA.nil)))) (JA.nil))) (by show 2<=100000;decide))) rfl (λ_ _=>rfl) ?_ h11 (λ_ _ h=>h) ?_
 ·intro st1 x1 hd
  unfold V7 at hd
  obtain⟨h8,h10⟩:=hd
  unfold ye
  refine hjz ?_
  refine MU (JT.or (JT.ac (JE.ne (JE.eqI (XR (aq rfl)) (XR (aq rfl)) (VC C x1.1 x1.2 _ h8)) (aq rfl))) (λhq=>(have h9:=h10 hq;JT.ac (oV (JE.Yc (XR (aq rfl)) (XR (aq rfl)) (VC C x1.1 x1.2 _ h9)) (aq rfl))))) ?_ ?_
  ·intro hq
   exact hzz (sX (JE.bool false))
  ·intro hq
   exact JB.ar rfl
 intro p1 e7
 have bqI:=h49 p1 e7
 obtain⟨h12,h13,Sw,Sx,h48⟩:=bqI
 show JB _ [.bU,.e aZ,.e bz,.ins (C "Calendar") bE (bF a_),.ins (C "Calendar") bE (bF bG),.e iI,.e ql,.emp,.emp,.emp] _ _
 refine GX (JT.or (P6 (JT.ac (tZ (JE.eqI (hxi rfl) (JE.X9 (aK (hxx (aq rfl) h12) (bK)) (eqn C aZ _ h13)) (VC C a_ (sR aZ) _ Sw))))) (λhq=>(have h15:=Sx hq;JT.or (P6 (JT.ac (tZ (JE.eqI (hxi rfl) (hxi rfl) (VC C bG bG _ h15))))) (λ_=>JT.or (JT.ac (tZ (JE.ME (hxi rfl) (aq rfl) rfl rfl (Y0 C a_ aZ _ rfl)))) (λ_=>JT.or (JT.ac (tZ (JE.ME (hxi rfl) (JE.ac 3) rfl rfl (Y0 C a_ (3:Int) _ rfl)))) (λ_=>JT.ac (tZ (JE.ME (hxi rfl) (JE.cqQ [116,119,111] (by decide +kernel)) rfl rfl (Y0 C bG (k7 [116,119,111]) _ rfl))))))))) ?_ (λ_=>PN) ?_
 ·intro hq
  exact D6 (sX (JE.bool false))
 intro hq
 obtain⟨h46,h47⟩:=h48 hq
 refine GU ?_
 refine GX (JT.ac (tZ (aq rfl))) ?_ (λ_=>PN) ?_
 ·intro hq
  obtain⟨Sy,h31⟩:=h46 hq
  refine wh λa3 s3 IB=>?_
  obtain⟨h18,h30⟩:=v_ h31 IB
  refine wh λa4 s4 XT=>?_
  obtain⟨h19,h29⟩:=v_ h30 XT
  refine GX (P6 (JT.ac (tZ (JE.ag (aK (t6 (JE.ag (JC.ins rfl (wj rfl (bK))) (kM C s2 a_ Sy)) IB) (aK (t6 (JE.ag (JC.ins rfl (wj rfl (bK))) (kM C s3 bG h18)) XT) (bK))) (Wy a3 a4 _ h19))))) ?_ (λ_=>PN) ?_
  ·intro hq
   exact D6 (sX (JE.bool false))
  intro hq
  obtain⟨h20,h28⟩:=h29 hq
  refine GU ?_
  refine wh λa5 s5 K5=>?_
  have h27:=v_ h28 K5
  refine bS λaG e8=>?_
  obtain⟨h21,h22,SM,SW⟩:=cI h27 e8
  refine JB.ac (aH:=[.bU,.e aZ,.e bz,.ins (C "Calendar") bE (bF a_),.ins (C "Calendar") bE (bF bG),.e iI,.e ql,.emp,.emp,.e aG]) (lK (t6 (JE.ag (wj rfl (aK (JE.ar (JE.ac 10) (JE.ac 30) (by decide)) (bK))) (C7 s4 ((10:Int) ^ (Kbh (30:Int))) h20)) K5) e8) ?_
  exact D6 (PF (tZ (JE.ag (aK (JE.meth rfl (by decide) (aK (aq rfl) (bK)) (Ma C a_ aG _ h21)) (aK (JE.meth rfl (by decide) (aK (aq rfl) (bK)) (Ma C bG aG _ h22)) (bK))) (Wy (iY a_ aG) (iY bG aG) _ SM))) (λhq=>(match SW hq with|⟨SQ,SV⟩=>oV (JE.meth rfl (by decide) (aK (JE.meth rfl (by decide) (aK (aq rfl) (bK)) (Ma C bG aG _ SQ)) (bK)) (nq C a_ (iY bG aG) _ SV)) (aq rfl))))
 intro hq
 obtain⟨S6,h33,h34,h35,h36,h45⟩:=h47 hq
 refine GU ?_
 refine GX (JT.ac (tZ (JE.ag (aK (JE.meth rfl (by decide) (aK (hxs (aq rfl) S6) (bK)) (Ma C a_ (KaN iI default) _ h33)) (aK (JE.meth rfl (by decide) (aK (hxs (aq rfl) h34) (bK)) (Ma C bG (KaN iI default) _ h35)) (bK))) (Wy (iY a_ (KaN iI default)) (iY bG (KaN iI default)) _ h36)))) ?_ (λ_=>PN) ?_
 ·intro hq
  exact D6 (sX (JE.bool false))
 intro hq
 obtain⟨h37,h38,h39,h44,h43⟩:=h45 hq
 refine GU ?_
 exact D6 (sX (JE.all (BX (λ(x2:Int)=>[.bU,.e aZ,.e bz,.ins (C "Calendar") bE (bF a_),.ins (C "Calendar") bE (bF bG),.e iI,.e ql,.emp,.emp,.e x2]) (JI.E9 (JE.max2 (JE.ac 0) (AO (hxs (aq rfl) h37) (JE.ac 3))) (hxs (aq rfl) h38) h39) (λ_=>rfl) (λx2 hx=>(match h44 x2 hx with|⟨h40,h41,h42⟩=>JE.ag (aK (JE.meth rfl (by decide) (aK (aq rfl) (bK)) (Ma C a_ x2 _ h40)) (aK (JE.meth rfl (by decide) (aK (aq rfl) (bK)) (Ma C bG x2 _ h41)) (bK))) (Wy (iY a_ x2) (iY bG x2) _ h42))) h43)))
end
end Pu
namespace Pu
variable [aO]
open PySem PySem.Spec PyProof.Rows L2
def turnT (K:Frag)(m:Fn)(sf:List Int->Int->ae):TS:=tIfS (tNot (tB (tCall (bx m) [] E0 (tCons (NR K sf) tNil)))) (tRet (tC (.bl false))) tNext
theorem w7 {K:Frag}{H:Hp}{a:Addr}{ns:List Int}{n:Int}(hs:SqL K H a (ns.map V.int))(hT:ow H)(hn:n<=1000){sf:List Int->Int->ae}{m:Fn}{D:Ends}
  (hB:∀(r:Int),0<=r->r<=1000->∃fl s',m [.bU] (sf ns r)=some ((.bool true,fl),s')) {xs:List (Option V)} (hx:xs.length=1) (q:∀H',D.rt (.bl true) H'):
  tSeq (tFor (iRng1 (tCons ((Xx n).t K) tNil)) (gName 1) (turnT K m sf)) (tRet (tC (.bl true))) D (some (.ref a)::xs) H:=by
 refine vz hs rfl λj j1 j2=>?_
 refine⟨j,rfl,by omega,by omega,?_⟩
 refine⟨λi k σ H'=>k=j.toNat-i/\i<=j.toNat/\Kp H H'/\∃xs,σ=some (.ref a)::xs/\xs.length=1,⟨_,rfl,Kbc _,⟨λ_ _ h _=>h,hT⟩,xs,rfl,hx⟩,λi k σ H1 hW=>?_⟩
 obtain⟨rfl,hi,keep,xs,rfl,hx⟩:=hW
 have yl:=gxs (lo:=0) (n:=j.toNat) (F:=λ_=>none) (λ_=>none) H1 i (Same.refl _) (λb o e=>by cases e)
 have hlen:(sU 0 j.toNat).length=j.toNat:=by rw [fzd];simp
 by_cases hlt:i<j.toNat
 ·have hd:(sU 0 j.toNat)[i]? = some (.int (i:Int)):=by rw [fzd];simp [hlt]
  obtain⟨go,yld⟩:=yl.1 _ hd
  refine .inr ⟨go,λσ' H'=>Kp H H'/\∃xs,σ'=some (.ref a)::xs/\xs.length=1,λσ' H' hN=>?_,λx H3 hy=>?_⟩
  ·obtain⟨k1,xs,e1,e2⟩:=hN
   exact⟨_,by omega,rfl,hlt,k1,xs,e1,e2⟩
  ·obtain⟨F3,Bx,sa,r3⟩:=yld x H3 hy
   rw [r3.int_inv]
   have y9:Kp H H3:=⟨λb o e hst=>sa.fr b o (λz=>by cases z) (keep.at' b o e hst),Ww keep.tab λb o e=>sa.fr b o (λz=>by cases z) e⟩
   match xs,hx with
   |[],hx=>exact absurd hx (by simp)
   |y1::ys,hx=>
    obtain⟨fl,s',hm⟩:=hB (i:Int) (by omega) (by omega)
    refine⟨.ref a,rfl,.int i,rfl,a,ns,(i:Int),rfl,FE hs y9.at',y9.tab,⟨by omega,by omega⟩,λp H4 hp Lg hq=>?_⟩
    refine Bj (E:=E0) hq Lg.tab hm λH5 k5 _ t5=>?_
    refine⟨true,rfl,?_⟩
    have TN:Kp H H5:=⟨λb o e hst=>k5 b o (λz=>by rw [z] at e;rw [y9.at' p o e hst] at hp;cases hp) (Lg.at' b o (y9.at' b o e hst) hst) hst,t5⟩
    exact⟨TN,some (.int i)::ys,rfl,hx⟩
 ·have e1:i=j.toNat:=by omega
  subst e1
  exact .inl ⟨yl.2 (by rw [hlen];exact Kak _),q H1⟩
theorem Np {P:Program}{w:World}{K:PySem.W.Frag}{mg:Str->Option Value}{base:Heap}{x:Str}{st:Stmt}{f:Addr}{fd:FuncData}{N ps:List Str}{k nn:Nat}{n:Int}{m:Fn}{sf:List Int->Int->ae}(F:iF K x st f fd)(S:FnScope N ps (defScope st))(hp:ps.length=1)(hN:N.length=2)(hn:n<=1000)
  (hB:∀(ns:List Int) (r:Int),ns.length<=nn->0<=r->r<=1000->∃fl s',m [.bU] (sf ns r)=some ((.bool true,fl),s'))
  (yx:∀(cdv:Value) (A:Around) (outer:List Env) (s:Shared) (H:Hp),(A.deeper (envOfC x (defScope st) s.heap.objs.size f cdv)).guards=some []->Room k (A.deeper (envOfC x (defScope st) s.heap.objs.size f cdv)) ->
   ∃t,PSs (cxOf CX0 P w K mg base N x (defScope st) f cdv A outer s H E0).nox (defBody st) t/\t=tSeq (tFor (iRng1 (tCons ((Xx n).t K) tNil)) (gName 1) (turnT K m sf)) (tRet (tC (.bl true)))):
  vX P w K mg base (k+1) f fd ps (zH K nn):=
 vX.body F S (λvs H Q h=>by obtain⟨a,ns,rfl,_⟩:=h;rw [hp];rfl) λcdv A outer s H vs Q hG hr h=>by
  obtain⟨t,ht,rfl⟩:=yx cdv A outer s H hG hr
  obtain⟨a,ns,rfl,hl,hs,hT,q⟩:=h
  refine⟨_,PSs.nox ht,?_⟩
  have hst:L2.start N [.ref a]=some (.ref a)::Kay 1 none:=by
   unfold L2.start
   rw [hN];rfl
  rw [hst]
  exact w7 hs hT hn (λr h1 h2=>hB ns r hl h1 h2) (by simp) q
end Pu
namespace Pu
open PySem PySem.Spec PyProof.Rows L2
end Pu
namespace Pu
open PySem PySem.Spec PyProof.Rows L2 Enc
end Pu
namespace B9
open PySem PySem.Spec PyProof.Rows L2 Pu
local macro_rules | `(tactic| walk_at "sc") => `(tactic| exact ⟨rfl, rfl, rfl, by decide +kernel, rfl, by decide +kernel, by decide +kernel⟩)
abbrev jI:List Str:=["numbers", "one", "other"]
theorem VF:FnScope jI ["numbers"] (defScope Wn):=(by walk_at "sc")
abbrev iX:List Str:=["numbers", "one", "other"]
theorem VO:FnScope iX ["numbers"] (defScope VX):=(by walk_at "sc")
abbrev jV:List Str:=["ladder", "early", "turn", "rise"]
theorem VB:FnScope jV ["ladder"] (defScope Zk):=(by walk_at "sc")
abbrev Cc:List Str:=["told", "early", "first", "length", "found"]
theorem RO:FnScope Cc ["told"] (defScope gja):=(by walk_at "sc")
abbrev qp:List Str:=["ladder"]
theorem pU:FnScope qp ["ladder"] (defScope Z0):=(by walk_at "sc")
abbrev wA:List Str:=["told"]
theorem vH:FnScope wA ["told"] (defScope fzf):=(by walk_at "sc")
abbrev qq:List Str:=["number", "least"]
theorem pV:FnScope qq ["number", "least"] (defScope ZR):=(by walk_at "sc")
abbrev qt:List Str:=["number", "found", "left", "part"]
theorem Rc:FnScope qt ["number"] (defScope ezc):=(by walk_at "sc")
abbrev Zv:List Str:=["turn", "rise", "length", "times", "later", "number", "more"]
theorem J9:FnScope Zv ["turn", "rise", "length"] (defScope Rg):=(by walk_at "sc")
abbrev ou:List Str:=["turn", "rise", "length", "part"]
theorem VD:FnScope ou ["turn", "rise"] (defScope ZY):=(by walk_at "sc")
abbrev uc:List Str:=["ladder", "early", "turn", "rise", "length", "gain", "numbers", "first"]
theorem Ke:FnScope uc ["ladder"] (defScope exo):=(by walk_at "sc")
abbrev t_:List Str:=["row", "early", "turn"]
theorem Z8:FnScope t_ ["row"] (defScope eqr):=(by walk_at "sc")
abbrev RW:List Str:=["told", "early", "first", "length", "found", "days", "places", "day", "place"]
theorem wF:FnScope RW ["told"] (defScope Mv):=(by walk_at "sc")
abbrev fqe:List Str:=["row", "begun", "again", "early", "day", "bit", "place"]
theorem Ht:FnScope fqe ["row"] (defScope RC):=(by walk_at "sc")
abbrev ua:List Str:=["told"]
theorem tO:FnScope ua ["told"] (defScope eqo):=(by walk_at "sc")
abbrev oh:List Str:=["ladder"]
theorem nM:FnScope oh ["ladder"] (defScope ZE):=(by walk_at "sc")
abbrev lZ:List Str:=["years", "months"]
theorem ezg:FnScope lZ ["years"] (defScope V_):=(by walk_at "sc")
abbrev qo:List Str:=["years", "count"]
theorem jr:FnScope qo ["years"] (defScope ZZ):=(by walk_at "sc")
abbrev VP:List Str:=["self", "years", "length", "months", "year", "month"]
theorem Cy:FnScope VP ["self", "years"] (defScope Kg):=(by walk_at "sc")
abbrev fV:List Str:=["self", "index", "length", "place"]
theorem QS:FnScope fV ["self"] (defScope OF):=(by walk_at "sc")
abbrev jv:List Str:=["self", "year", "month"]
theorem jq:FnScope jv ["self", "year", "month"] (defScope QO):=(by walk_at "sc")
abbrev jw:List Str:=["self", "index", "rounds", "rest"]
theorem Y_:FnScope jw ["self", "index"] (defScope QN):=(by walk_at "sc")
abbrev gB:List Str:=["self", "days"]
theorem gu:FnScope gB ["self", "days"] (defScope Qy):=(by walk_at "sc")
abbrev fB:List Str:=["self", "told", "rise"]
theorem fj:FnScope fB ["self", "told", "rise"] (defScope Qw):=(by walk_at "sc")
abbrev iu:List Str:=["self", "day", "rounds", "rest", "index", "year", "month", "first"]
theorem J5:FnScope iu ["self", "day"] (defScope OB):=(by walk_at "sc")
abbrev n_:List Str:=["self", "date", "number", "year", "month", "place", "rounds", "rest", "months"]
theorem J8:FnScope n_ ["self", "date"] (defScope Q7):=(by walk_at "sc")
abbrev cQ:List Str:=["self", "day", "year", "month"]
theorem QD:FnScope cQ ["self"] (defScope Ot):=(by walk_at "sc")
abbrev gA:List Str:=["self"]
theorem gr:FnScope gA ["self"] (defScope QM):=(by walk_at "sc")
abbrev lA:List Str:=["self", "month", "day", "found", "first", "length", "year", "own"]
theorem ON:FnScope lA ["self", "month", "day"] (defScope QY):=(by walk_at "sc")
abbrev dJ:List Str:=["self", "first", "length"]
theorem Vz:FnScope dJ ["self"] (defScope OI):=(by walk_at "sc")
abbrev iW:List Str:=["self", "months", "found", "day", "index", "first", "length"]
theorem Oo:FnScope iW ["self", "months"] (defScope QE):=(by walk_at "sc")
abbrev jU:List Str:=["self", "day", "index", "years", "year", "month", "rounds", "rest", "count", "first", "length", "place"]
theorem Hj:FnScope jU ["self", "day", "index", "years"] (defScope QK):=(by walk_at "sc")
abbrev eI:List Str:=["self", "years", "found", "day", "index"]
theorem Vr:FnScope eI ["self", "years"] (defScope OJ):=(by walk_at "sc")
abbrev kB:List Str:=["self"]
theorem kq:FnScope kB ["self"] (defScope QL):=(by walk_at "sc")
abbrev m6:List Str:=["self", "other"]
theorem lY:FnScope m6 ["self", "other"] (defScope Ra):=(by walk_at "sc")
abbrev Cd:List Str:=["_law_script", "_law_place", "_law_cell"]
theorem sq:FnScope Cd ["_law_script", "_law_place"] (defScope gjb):=(by walk_at "sc")
abbrev G6:List Str:=["_law_pail_here", "_law_many", "_law_drawn", "_law_mixed"]
theorem Xb:FnScope G6 ["_law_pail_here", "_law_many"] (defScope gjl):=(by walk_at "sc")
abbrev gxk:List Str:=["_law_thing", "_law_part"]
theorem R3:FnScope gxk ["_law_thing"] (defScope R8):=(by walk_at "sc")
abbrev Ce:List Str:=["_law_said", "_law_due"]
theorem Be:FnScope Ce ["_law_said", "_law_due"] (defScope gxd):=(by walk_at "sc")
abbrev qQ:List Str:=["_law_lengths", "_law_row"]
theorem fxf:FnScope qQ ["_law_lengths"] (defScope WW):=(by walk_at "sc")
abbrev qU:List Str:=["_law_pail_here", "_law_mode", "_law_limits", "_law_found", "_law_turn", "_law_month"]
theorem Kw:FnScope qU ["_law_pail_here"] (defScope WA):=(by walk_at "sc")
abbrev qR:List Str:=["_law_lengths", "_law_many", "_law_found", "_law_year_now", "_law_spot", "_law_size", "_law_place"]
theorem Ku:FnScope qR ["_law_lengths", "_law_many"] (defScope WL):=(by walk_at "sc")
abbrev m8:List Str:=["_law_pail_here", "_law_lengths", "_law_found", "_law_mode", "_law_spot", "_law_row", "_law_place"]
theorem OA:FnScope m8 ["_law_pail_here", "_law_lengths"] (defScope ZC):=(by walk_at "sc")
abbrev m7:List Str:=["_law_lengths", "_law_more", "_law_many", "_law_spot", "_law_pair"]
theorem VN:FnScope m7 ["_law_lengths", "_law_more"] (defScope ZK):=(by walk_at "sc")
abbrev t9:List Str:=["_law_made", "_law_pail_here", "_law_told"]
theorem Z7:FnScope t9 ["_law_made", "_law_pail_here"] (defScope exr):=(by walk_at "sc")
abbrev qT:List Str:=["_law_pail_here", "_law_lengths", "_law_more", "_law_one", "_law_two", "_law_apart_at", "_law_is_same", "_law_left", "_law_right_here", "_law_spot"]
theorem BI:FnScope qT ["_law_pail_here"] (defScope WV):=(by walk_at "sc")
abbrev Qn:List Str:=["_law_script", "_law_spot"]
theorem Fl:FnScope Qn ["_law_script"] (defScope Fj):=(by walk_at "sc")
set_option genInjectivity false in
set_option genSizeOf false in
structure Tp (K:PySem.W.Frag)(mg:Str->Option Value) where
 exb:Addr
 Cq:FuncData
 ZS:iF K "never_falls" Wn exb Cq
 qE:mg "never_falls" = some (.ref exb)
 ZX:Addr
 Aa:FuncData
 V2:iF K "always_rises" VX ZX Aa
 jb:mg "always_rises" = some (.ref ZX)
 Zh:Addr
 Gp:FuncData
 Za:iF K "is_ladder" Zk Zh Gp
 j7:mg "is_ladder" = some (.ref Zh)
 gzf:Addr
 C5:FuncData
 gzb:iF K "is_set" gja gzf C5
 DF:mg "is_set" = some (.ref gzf)
 Z5:Addr
 CI:FuncData
 eqc:iF K "need_ladder" Z0 Z5 CI
 qD:mg "need_ladder" = some (.ref Z5)
 fza:Addr
 Ai:FuncData
 fjf:iF K "need_set" fzf fza Ai
 wU:mg "need_set" = some (.ref fza)
 exc:Addr
 oz:FuncData
 Kd:iF K "need_number" ZR exc oz
 cy:mg "need_number" = some (.ref exc)
 Zw:Addr
 CM:FuncData
 eqa:iF K "prime_parts" ezc Zw CM
 qF:mg "prime_parts" = some (.ref Zw)
 Z1:Addr
 BD:FuncData
 ezb:iF K "comes_again" Rg Z1 BD
 qC:mg "comes_again" = some (.ref Z1)
 ZO:Addr
 Cj:FuncData
 ZN:iF K "least_length" ZY ZO Cj
 oO:mg "least_length" = some (.ref ZO)
 eqs:Addr
 wD:FuncData
 Wa:iF K "least_way" exo eqs wD
 mF:mg "least_way" = some (.ref eqs)
 ezr:Addr
 yh:FuncData
 ezp:iF K "least_row" eqr ezr yh
 uL:mg "least_row" = some (.ref ezr)
 fzv:Addr
 As:FuncData
 fjv:iF K "set_row" Mv fzv As
 AJ:mg "set_row" = some (.ref fzv)
 fxe:Addr
 BG:FuncData
 fjb:iF K "set_from" RC fxe BG
 wV:mg "set_from" = some (.ref fxe)
 eqp:Addr
 CJ:FuncData
 ezq:iF K "least_set" eqo eqp CJ
 uM:mg "least_set" = some (.ref eqp)
 ZW:Addr
 BC:FuncData
 ZM:iF K "least_ladder" ZE ZW BC
 oN:mg "least_ladder" = some (.ref ZW)
 Z_:Addr
 CL:FuncData
 exp:iF K "are_years" V_ Z_ CL
 uK:mg "are_years" = some (.ref Z_)
 ZP:Addr
 Ag:FuncData
 Wi:iF K "least_cycle" ZZ ZP Ag
 jN:mg "least_cycle" = some (.ref ZP)
 Zq:Addr
 x7:FuncData
 ir:sO K "__init__" "Calendar.__init__" Kg Zq x7
 Zm:Addr
 yd:FuncData
 fU:sO K "owners" "Calendar.owners" OF Zm yd
 Y7:Addr
 BA:FuncData
 eB:sO K "index_of" "Calendar.index_of" QO Y7 BA
 YX:Addr
 Ae:FuncData
 eE:sO K "month_at" "Calendar.month_at" QN YX Ae
 YV:Addr
 v8:FuncData
 cM:sO K "set_of_cycle" "Calendar.set_of_cycle" Qy YV v8
 YS:Addr
 wB:FuncData
 cE:sO K "ladder_of_cycle" "Calendar.ladder_of_cycle" Qw YS wB
 ZA:Addr
 qY:FuncData
 ik:sO K "date" "Calendar.date" OB ZA qY
 ZG:Addr
 BF:FuncData
 iU:sO K "day" "Calendar.day" Q7 ZG BF
 Ze:Addr
 By:FuncData
 cP:sO K "year_starts" "Calendar.year_starts" Ot Ze By
 Y9:Addr
 Ci:FuncData
 cL:sO K "month_starts" "Calendar.month_starts" QM Y9 Ci
 ZJ:Addr
 z_:FuncData
 gz:sO K "dates" "Calendar.dates" QY ZJ z_
 Y5:Addr
 Bt:FuncData
 dG:sO K "last_days" "Calendar.last_days" OI Y5 Bt
 Zf:Addr
 z9:FuncData
 dH:sO K "months_on" "Calendar.months_on" QE Zf z9
 Zi:Addr
 Bv:FuncData
 fu:sO K "year_on" "Calendar.year_on" QK Zi Bv
 Zg:Addr
 Af:FuncData
 eG:sO K "years_on" "Calendar.years_on" OJ Zg Af
 Zl:Addr
 BB:FuncData
 fS:sO K "months" "Calendar.months" QL Zl BB
 ZD:Addr
 v9:FuncData
 ig:sO K "__eq__" "Calendar.__eq__" Ra ZD v9
 Xj:Addr
 Mx:FuncData
 gxh:iF K "_law_pail" gjb Xj Mx
 DG:mg "_law_pail" = some (.ref Xj)
 gqj:Addr
 l8:FuncData
 BN:iF K "_law_dip" gjl gqj l8
 dw:mg "_law_dip" = some (.ref gqj)
 gjk:Addr
 Pg:FuncData
 HR:iF K "_law_own" R8 gjk Pg
 hU:mg "_law_own" = some (.ref gjk)
 Xg:Addr
 yp:FuncData
 O4:iF K "_law_same" gxd Xg yp
 kI:mg "_law_same" = some (.ref Xg)
 fjo:Addr
 uq:FuncData
 Mu:iF K "_law_cycle" WW fjo uq
 gO:mg "_law_cycle" = some (.ref fjo)
 fxt:Addr
 Aq:FuncData
 Wx:iF K "_law_years" WA fxt Aq
 rJ:mg "_law_years" = some (.ref fxt)
 fzu:Addr
 Ar:FuncData
 exs:iF K "_law_dates" WL fzu Ar
 rH:mg "_law_dates" = some (.ref fzu)
 Zo:Addr
 BE:FuncData
 Zn:iF K "_law_other_years" ZC Zo BE
 nj:mg "_law_other_years" = some (.ref Zo)
 ZU:Addr
 Bw:FuncData
 ZV:iF K "_law_first_apart" ZK ZU Bw
 nh:mg "_law_first_apart" = some (.ref ZU)
 ezo:Addr
 Am:FuncData
 V9:iF K "_law_telling" exr ezo Am
 mD:mg "_law_telling" = some (.ref ezo)
 WB:Addr
 BK:FuncData
 fzm:iF K "_law_right" WV WB BK
 AI:mg "_law_right" = some (.ref WB)
 Cg:Addr
 uF:FuncData
 JU:iF K "law" Fj Cg uF
 Sh:mg "law" = some (.ref Cg)
 pD:mg "zip" = none
 u_:mg "all" = none
 bZ:mg "len" = none
 dz:mg "range" = none
 kQ:mg "int" = none
 b_:mg "enumerate" = none
 vc:mg "min" = none
 tG:mg "list" = none
 kO:mg "divmod" = none
 ie:mg "isinstance" = none
 EA:mg "repr" = none
 Lp:mg "sum" = none
 Ez:mg "max" = none
 Uc:mg "abs" = none
 zh:mg "tuple" = none
 C:Str->Addr
 af:Cls K (C "Calendar")
 jl:Mk K (C "Calendar") Zq
 fW:mg "Calendar" = some (.ref (C "Calendar"))
 bM:Hg.LG K (C "Calendar")
 aN:NoAttr K (C "Calendar") "own_years"
 bH:NoAttr K (C "Calendar") "spots"
 aV:NoAttr K (C "Calendar") "lengths"
 aE:NoAttr K (C "Calendar") "firsts"
 aP:NoAttr K (C "Calendar") "total"
 cJ:Meth K (C "Calendar") "owners" Zm
 dU:Meth K (C "Calendar") "index_of" Y7
 dW:Meth K (C "Calendar") "month_at" YX
 bD:Meth K (C "Calendar") "set_of_cycle" YV
 bJ:Meth K (C "Calendar") "ladder_of_cycle" YS
 bC:Meth K (C "Calendar") "date" ZA
 nA:Meth K (C "Calendar") "day" ZG
 gU:Meth K (C "Calendar") "year_starts" Ze
 gn:Meth K (C "Calendar") "month_starts" Y9
 f_:Meth K (C "Calendar") "dates" ZJ
 iO:Meth K (C "Calendar") "last_days" Y5
 cY:Meth K (C "Calendar") "months_on" Zf
 jD:Meth K (C "Calendar") "year_on" Zi
 dX:Meth K (C "Calendar") "years_on" Zg
 kg:Meth K (C "Calendar") "months" Zl
 bB:Meth K (C "Calendar") "__eq__" ZD
local macro_rules | `(tactic| walk_at "bn1") => `(tactic| exact fun _ _ _ _ _ _ us hl => match us, hl with | [_], _ => rfl)
local macro_rules | `(tactic| walk_at "bn2") => `(tactic| exact fun _ _ _ _ _ _ us hl => match us, hl with | [_, _], _ => rfl)
local macro_rules | `(tactic| walk_at "bn3") => `(tactic| exact fun _ _ _ _ _ _ us hl => match us, hl with | [_, _, _], _ => rfl)
local macro_rules | `(tactic| walk_at "bn4") => `(tactic| exact fun _ _ _ _ _ _ us hl => match us, hl with | [_, _, _, _], _ => rfl)
section
variable {K:PySem.W.Frag}{mg:Str->Option Value}(T:Tp K mg)
theorem Tp.Wc:Binds K T.Cq ["numbers"] []:=T.ZS.bindsN (by walk_at "bn1")
theorem Tp.Q8:Binds K T.Aa ["numbers"] []:=T.V2.bindsN (by walk_at "bn1")
theorem Tp.VT:Binds K T.Gp ["ladder"] []:=T.Za.bindsN (by walk_at "bn1")
theorem Tp.W3:Binds K T.C5 ["told"] []:=T.gzb.bindsN (by walk_at "bn1")
theorem Tp.We:Binds K T.CI ["ladder"] []:=T.eqc.bindsN (by walk_at "bn1")
theorem Tp.Wv:Binds K T.Ai ["told"] []:=T.fjf.bindsN (by walk_at "bn1")
theorem Tp.Hs:Binds K T.oz ["number", "least"] []:=T.Kd.bindsN (by walk_at "bn2")
theorem Tp.Wh:Binds K T.CM ["number"] []:=T.eqa.bindsN (by walk_at "bn1")
theorem Tp.V6:Binds K T.BD ["turn", "rise", "length"] []:=T.ezb.bindsN (by walk_at "bn3")
theorem Tp.VG:Binds K T.Cj ["turn", "rise"] []:=T.ZN.bindsN (by walk_at "bn2")
theorem Tp.Rw:Binds K T.wD ["ladder"] []:=T.Wa.bindsN (by walk_at "bn1")
theorem Tp.Wf:Binds K T.yh ["row"] []:=T.ezp.bindsN (by walk_at "bn1")
theorem Tp.WG:Binds K T.As ["told"] []:=T.fjv.bindsN (by walk_at "bn1")
theorem Tp.WO:Binds K T.BG ["row"] []:=T.fjb.bindsN (by walk_at "bn1")
theorem Tp.Wq:Binds K T.CJ ["told"] []:=T.ezq.bindsN (by walk_at "bn1")
theorem Tp.VH:Binds K T.BC ["ladder"] []:=T.ZM.bindsN (by walk_at "bn1")
theorem Tp.Wm:Binds K T.CL ["years"] []:=T.exp.bindsN (by walk_at "bn1")
theorem Tp.Q9:Binds K T.Ag ["years"] []:=T.Wi.bindsN (by walk_at "bn1")
theorem Tp.OO:Binds K T.x7 ["self", "years"] []:=T.ir.bindsN (by walk_at "bn2")
theorem Tp.Ou:Binds K T.yd ["self"] []:=T.fU.bindsN (by walk_at "bn1")
theorem Tp.QF:Binds K T.BA ["self", "year", "month"] []:=T.eB.bindsN (by walk_at "bn3")
theorem Tp.QV:Binds K T.Ae ["self", "index"] []:=T.eE.bindsN (by walk_at "bn2")
theorem Tp.LV:Binds K T.v8 ["self", "days"] []:=T.cM.bindsN (by walk_at "bn2")
theorem Tp.Oj:Binds K T.wB ["self", "told", "rise"] []:=T.cE.bindsN (by walk_at "bn3")
theorem Tp.Gy:Binds K T.qY ["self", "day"] []:=T.ik.bindsN (by walk_at "bn2")
theorem Tp.V3:Binds K T.BF ["self", "date"] []:=T.iU.bindsN (by walk_at "bn2")
theorem Tp.Vp:Binds K T.By ["self"] []:=T.cP.bindsN (by walk_at "bn1")
theorem Tp.Vu:Binds K T.Ci ["self"] []:=T.cL.bindsN (by walk_at "bn1")
theorem Tp.Ri:Binds K T.z_ ["self", "month", "day"] []:=T.gz.bindsN (by walk_at "bn3")
theorem Tp.VA:Binds K T.Bt ["self"] []:=T.dG.bindsN (by walk_at "bn1")
theorem Tp.QI:Binds K T.z9 ["self", "months"] []:=T.dH.bindsN (by walk_at "bn2")
theorem Tp.VZ:Binds K T.Bv ["self", "day", "index", "years"] []:=T.fu.bindsN (by walk_at "bn4")
theorem Tp.QJ:Binds K T.Af ["self", "years"] []:=T.eG.bindsN (by walk_at "bn2")
theorem Tp.V1:Binds K T.BB ["self"] []:=T.fS.bindsN (by walk_at "bn1")
theorem Tp.Cz:Binds K T.v9 ["self", "other"] []:=T.ig.bindsN (by walk_at "bn2")
theorem Tp.CD:Binds K T.Mx ["_law_script", "_law_place"] []:=T.gxh.bindsN (by walk_at "bn2")
theorem Tp.Ay:Binds K T.l8 ["_law_pail_here", "_law_many"] []:=T.BN.bindsN (by walk_at "bn2")
theorem Tp.g_:Binds K T.Pg ["_law_thing"] []:=T.HR.bindsN (by walk_at "bn1")
theorem Tp.eqk:Binds K T.yp ["_law_said", "_law_due"] []:=T.O4.bindsN (by walk_at "bn2")
theorem Tp.Kx:Binds K T.uq ["_law_lengths"] []:=T.Mu.bindsN (by walk_at "bn1")
theorem Tp.RX:Binds K T.Aq ["_law_pail_here"] []:=T.Wx.bindsN (by walk_at "bn1")
theorem Tp.RH:Binds K T.Ar ["_law_lengths", "_law_many"] []:=T.exs.bindsN (by walk_at "bn2")
theorem Tp.VE:Binds K T.BE ["_law_pail_here", "_law_lengths"] []:=T.Zn.bindsN (by walk_at "bn2")
theorem Tp.VQ:Binds K T.Bw ["_law_lengths", "_law_more"] []:=T.ZV.bindsN (by walk_at "bn2")
theorem Tp.Rq:Binds K T.Am ["_law_made", "_law_pail_here"] []:=T.V9.bindsN (by walk_at "bn2")
theorem Tp.WR:Binds K T.BK ["_law_pail_here"] []:=T.fzm.bindsN (by walk_at "bn1")
end
end B9
namespace B9
open PySem PySem.Spec PyProof.Rows L2 Pu
section
variable {P:Program}{w:World}{K:PySem.W.Frag}{mg:Str->Option Value}{base:Heap}(T:Tp K mg)
theorem dh {X:Cx}{k m:Nat}{f:Addr}{x:Str}{fd:FuncData}{ps:List Str}{sp:Sp}{e:Expr}{es:List Expr}{t:TA}{p pos:Pos}{st:Stmt}{y:Str}(F:FnOk X.prog X.w X.K X.mg X.base CX0 k f fd ps sp)(hr:Room m X.A)(hm:X.mg x=some (.ref f))(hp:iF X.K y st f fd)(hb:Binds X.K fd ps [])(ha:PA X (e::es) t)(hk:k<=m:=by decide)(hg:Gl X x:=by rfl)(hdb:(x == ("__debug__" : Str))=false:=by decide)(he:starEach (e::es) X.env=(false,eval e X.env)::starEach es X.env:=by rfl)(hpl:(backTo pos (starEach es X.env)).any (·.1)=false:=by rfl):PE X (.Call (.Name x p) (e::es) [] pos) (tCall sp [] E0 t):=pe_call F (hr.mono hk) hg hm hp.kp hb .nil pass0 ha hdb he hpl
abbrev A_:=@pa_cons
abbrev B_:=@pa_nil
abbrev C_:=@pss_cons
abbrev D_:=@pss_one
abbrev E_:=@pg_name
abbrev F_:=@pgs_cons
abbrev G_:=@pgs_nil
abbrev H_:=@ps_set
abbrev I_:=@pe_callB
abbrev J_:=@pe_op
abbrev K_:=@pe_int
abbrev L_:=@ps_ret
abbrev M_:=@pe_lst
abbrev N_:=@pe_tup
abbrev O_:=@pe_ix
abbrev Q_:=@ps_if
abbrev R_:=@pss_nil
abbrev S_:=@pe_cmpR
theorem RU:∀n:Nat,FnOk P w K mg base CX0 n T.gjk T.Pg ["_law_thing"] (bx (nW n)):=by
 refine ER T.HR R3 rfl rfl λn G cdv A outer s H E hr=>⟨_,C_ (Q_ (pt_val (I_ call_isi (by rfl) T.ie (by decide +kernel) (A_ (pv 0) (A_ (pe_bltn (v:=.ty "list") (by rfl) T.tG (by decide +kernel) rfl) B_)))) (D_ (L_ (tV (aY 1) (cN) (SE.ag (nW n) (cK (ak 1) dK)) [("_law_part",1)] rfl R3.nd (pi_list (pv 0)) (blkOk_by (N:=gxk) (sc:=defScope R8) (by decide +kernel)) (λ_ _ _ _ _=>⟨_,E_ (i:=1) R3.nd rfl (.inl rfl),rfl⟩) (λ_ _ _ _ _=>⟨_,pts_nil,rfl⟩) (λ_ _ _ _ _=>⟨_,pe_call G (hr.mono (Kak _)) (by rfl) T.hU T.HR.kp T.g_ .nil pass0 (A_ (pv 1) (B_)),rfl⟩)))) (R_)) (C_ (Q_ (pt_val (I_ call_isi (by rfl) T.ie (by decide +kernel) (A_ (pv 0) (A_ (pe_bltn (v:=.ty "tuple") (by rfl) T.zh (by decide +kernel) rfl) B_)))) (D_ (L_ (pe_callTy call_tuple_of (by rfl) T.zh (by decide +kernel) (A_ (tV (aY 1) (cN) (SE.ag (nW n) (cK (ak 1) dK)) [("_law_part",1)] rfl R3.nd (pi_tup (pv 0)) (blkOk_by (N:=gxk) (sc:=defScope R8) (by decide +kernel)) (λ_ _ _ _ _=>⟨_,E_ (i:=1) R3.nd rfl (.inl rfl),rfl⟩) (λ_ _ _ _ _=>⟨_,pts_nil,rfl⟩) (λ_ _ _ _ _=>⟨_,pe_call G (hr.mono (Kak _)) (by rfl) T.hU T.HR.kp T.g_ .nil pass0 (A_ (pv 1) (B_)),rfl⟩)) (B_))))) (R_)) (D_ (L_ (pv 0)))),?_⟩
 kernel_rfl
theorem pO:FnOk P w K mg base CX0 1 T.exb T.Cq ["numbers"] (bx Zu):=by
 refine dY T.ZS VF rfl rfl λcdv A outer s H E hr=>⟨_,D_ (L_ (I_ (cr_all rfl) (by rfl) T.u_ (by decide +kernel) (A_ (tV (SG.tup (iK (aY 1) (iK (aY 2) (jK)))) (cN) (SE.le (ak 1) (ak 2)) [("one",1),("other",2)] rfl VF.nd (pi_zip (by rfl) T.pD (A_ (pv 0) (A_ (pe_slice sl_list (pv 0) (po_some (K_)) (po_none)) (B_)))) (blkOk_by (N:=jI) (sc:=defScope Wn) (by decide +kernel)) (λ_ _ _ _ _=>⟨_,pg_tup rfl (F_ (E_ (i:=1) VF.nd rfl (.inl rfl)) (F_ (E_ (i:=2) VF.nd rfl (.inl rfl)) (G_))),rfl⟩) (λ_ _ _ _ _=>⟨_,pts_nil,rfl⟩) (λ_ _ _ _ _=>⟨_,S_ op_le (pv 1) (pv 2) (nomark _),rfl⟩)) (B_)))),?_⟩
 kernel_rfl
theorem iD:FnOk P w K mg base CX0 1 T.ZX T.Aa ["numbers"] (bx VR):=by
 refine dY T.V2 VO rfl rfl λcdv A outer s H E hr=>⟨_,D_ (L_ (I_ (cr_all rfl) (by rfl) T.u_ (by decide +kernel) (A_ (tV (SG.tup (iK (aY 1) (iK (aY 2) (jK)))) (cN) (tX (ak 1) (ak 2)) [("one",1),("other",2)] rfl VO.nd (pi_zip (by rfl) T.pD (A_ (pv 0) (A_ (pe_slice sl_list (pv 0) (po_some (K_)) (po_none)) (B_)))) (blkOk_by (N:=iX) (sc:=defScope VX) (by decide +kernel)) (λ_ _ _ _ _=>⟨_,pg_tup rfl (F_ (E_ (i:=1) VO.nd rfl (.inl rfl)) (F_ (E_ (i:=2) VO.nd rfl (.inl rfl)) (G_))),rfl⟩) (λ_ _ _ _ _=>⟨_,pts_nil,rfl⟩) (λ_ _ _ _ _=>⟨_,S_ op_lt (pv 1) (pv 2) (nomark _),rfl⟩)) (B_)))),?_⟩
 kernel_rfl
theorem jF:FnOk P w K mg base CX0 2 T.Zh T.Gp ["ladder"] (bx YZ):=by
 refine dY T.Za VB rfl rfl λcdv A outer s H E hr=>⟨_,C_ (ps_asg (pv 0) (pg_tup rfl (F_ (E_ (i:=1) VB.nd rfl (.inl rfl)) (F_ (E_ (i:=2) VB.nd rfl (.inl rfl)) (F_ (E_ (i:=3) VB.nd rfl (.inl rfl)) (G_)))))) (C_ (Q_ (PW.pt (pw_or (pt_cmpR (op_eqD hr.units) (pv 2) (M_ (B_)) (nomark _)) (pw_or1 (pt_cmpR op_lt (pv 3) (K_) (nomark _))))) (D_ (L_ (pe_bl))) (R_)) (D_ (L_ (dh (pO T) hr T.qE T.ZS T.Wc (A_ (J_ op_cat (J_ op_cat (J_ op_cat (M_ (A_ (K_) (B_))) (pv 1)) (pv 2)) (M_ (A_ (J_ op_add (O_ ix_seq (pv 2) (K_) (λ_ _=>rfl)) (pv 3)) (B_)))) (B_)))))),?_⟩
 kernel_rfl
theorem A7:FnOk P w K mg base CX0 2 T.gzf T.C5 ["told"] (bx gjg):=by
 refine dY T.gzb RO rfl rfl λcdv A outer s H E hr=>⟨_,C_ (ps_asg (pv 0) (pg_tup rfl (F_ (E_ (i:=1) RO.nd rfl (.inl rfl)) (F_ (E_ (i:=2) RO.nd rfl (.inl rfl)) (F_ (E_ (i:=3) RO.nd rfl (.inl rfl)) (F_ (E_ (i:=4) RO.nd rfl (.inl rfl)) (G_))))))) (C_ (Q_ (PW.pt (pw_or (pt_cmpR op_lt (pv 2) (K_) (nomark _)) (pw_or1 (pt_cmpR op_lt (pv 3) (K_) (nomark _))))) (D_ (L_ (pe_bl))) (R_)) (D_ (L_ (pe_and (dh (iD T) hr T.jb T.V2 T.Q8 (A_ (J_ op_cat (J_ op_cat (M_ (A_ (pe_un un_neg (K_)) (B_))) (pv 1)) (M_ (A_ (pv 2) (B_)))) (B_))) (pe_one (dh (iD T) hr T.jb T.V2 T.Q8 (A_ (J_ op_cat (J_ op_cat (M_ (A_ (pe_un un_neg (K_)) (B_))) (pv 4)) (M_ (A_ (pv 3) (B_)))) (B_)))))))),?_⟩
 kernel_rfl
theorem pN:FnOk P w K mg base CX0 3 T.Z5 T.CI ["ladder"] (bx ZQ):=by
 refine dY T.eqc pU rfl rfl λcdv A outer s H E hr=>⟨_,D_ (Q_ (pt_not (pt_val (dh (jF T) hr T.j7 T.Za T.VT (A_ (pv 0) (B_))))) (D_ (ps_never)) (R_)),?_⟩
 kernel_rfl
theorem vg:FnOk P w K mg base CX0 3 T.fza T.Ai ["told"] (bx fqb):=by
 refine dY T.fjf vH rfl rfl λcdv A outer s H E hr=>⟨_,D_ (Q_ (pt_not (pt_val (dh (A7 T) hr T.DF T.gzb T.W3 (A_ (pv 0) (B_))))) (D_ (ps_never)) (R_)),?_⟩
 kernel_rfl
theorem OS:FnOk P w K mg base CX0 1 T.exc T.oz ["number", "least"] (bx Kh):=by
 refine dY T.Kd pV rfl rfl λcdv A outer s H E hr=>⟨_,D_ (Q_ (pt_cmpR op_lt (pv 0) (pv 1) (nomark _)) (D_ (ps_never)) (R_)),?_⟩
 kernel_rfl
theorem pP:FnOk P w K mg base CX0 1 T.Zw T.CM ["number"] (bx ZH):=by
 refine dY T.eqa Rc rfl rfl λcdv A outer s H E hr=>⟨_,C_ (H_ (i:=1) Rc.nd rfl (.inl rfl) (M_ (B_))) (C_ (ps_par (i:=2) (j:=3) rfl Rc.nd rfl rfl (by decide) rfl rfl (A_ (pv 0) (A_ (K_) (B_))) (by rfl)) (C_ (ps_while PassesOwn.never (pt_cmpR op_gt (pv 2) (K_) (nomark _)) (C_ (Q_ (pt_cmpR (op_eqD hr.units) (J_ op_mod (pv 2) (pv 3)) (K_) (nomark _)) (C_ (ps_expr (pe_bm PySem.F.plainAttrs_list PySem.F.slot_list_append PySem.F.type_list_append mt_append (pv 1) (A_ (pv 3) B_))) (D_ (ps_while PassesOwn.never (pt_cmpR (op_eqD hr.units) (J_ op_mod (pv 2) (pv 3)) (K_) (nomark _)) (D_ (H_ (i:=2) Rc.nd rfl (.inl rfl) (J_ op_fdivW (pv 2) (pv 3))))))) (R_)) (D_ (ps_aug (i:=3) Rc.nd rfl (.inl rfl) (K_) ip_add)))) (D_ (L_ (pv 1))))),?_⟩
 kernel_rfl
theorem pK:FnOk P w K mg base CX0 1 T.Z1 T.BD ["turn", "rise", "length"] (bx Z4):=by
 refine dY T.ezb J9 rfl rfl λcdv A outer s H E hr=>⟨_,C_ (H_ (i:=3) J9.nd rfl (.inr rfl) (J_ op_fdivW (I_ call_len (by rfl) T.bZ (by decide +kernel) (A_ (pv 0) (B_))) (pv 2))) (C_ (Q_ (pt_cmpR (op_neD hr.units) (J_ op_mod (pv 1) (pv 3)) (K_) (nomark _)) (D_ (L_ (pe_bl))) (R_)) (C_ (H_ (i:=4) J9.nd rfl (.inl rfl) (J_ op_cat (pe_slice sl_list (pv 0) (po_some (pv 2)) (po_none)) (tV (aY 5) (cN) (gZ (ak 5) (ak 1)) [("number",5)] rfl J9.nd (pi_list (pe_slice sl_list (pv 0) (po_none) (po_some (pv 2)))) (blkOk_by (N:=Zv) (sc:=defScope Rg) (by decide +kernel)) (λ_ _ _ _ _=>⟨_,E_ (i:=5) J9.nd rfl (.inl rfl),rfl⟩) (λ_ _ _ _ _=>⟨_,pts_nil,rfl⟩) (λ_ _ _ _ _=>⟨_,J_ op_add (pv 5) (pv 1),rfl⟩)))) (D_ (L_ (I_ (cr_all rfl) (by rfl) T.u_ (by decide +kernel) (A_ (tV (SG.tup (iK (aY 5) (iK (aY 6) (jK)))) (cN) (hxc (gZ (ak 5) (BS (ak 1) (ak 3))) (ak 6)) [("number",5),("more",6)] rfl J9.nd (pi_zip (by rfl) T.pD (A_ (pv 0) (A_ (pv 4) (B_)))) (blkOk_by (N:=Zv) (sc:=defScope Rg) (by decide +kernel)) (λ_ _ _ _ _=>⟨_,pg_tup rfl (F_ (E_ (i:=5) J9.nd rfl (.inl rfl)) (F_ (E_ (i:=6) J9.nd rfl (.inl rfl)) (G_))),rfl⟩) (λ_ _ _ _ _=>⟨_,pts_nil,rfl⟩) (λ_ _ _ _ _=>⟨_,S_ (op_eqD hr.units) (J_ op_add (pv 5) (J_ op_fdivW (pv 1) (pv 3))) (pv 6) (nomark _),rfl⟩)) (B_))))))),?_⟩
 kernel_rfl
theorem nJ:FnOk P w K mg base CX0 2 T.ZO T.Cj ["turn", "rise"] (bx Zs):=by
 refine dY T.ZN VD rfl rfl λcdv A outer s H E hr=>⟨_,C_ (H_ (i:=2) VD.nd rfl (.inl rfl) (I_ call_len (by rfl) T.bZ (by decide +kernel) (A_ (pv 0) (B_)))) (C_ (ps_for PassesOwn.never rfl (pi_list (dh (pP T) hr T.qF T.eqa T.Wh (A_ (pv 2) (B_)))) (E_ (i:=3) VD.nd rfl (.inl rfl)) (D_ (ps_while PassesOwn.never (PW.pt (pw_and (pt_cmpR (op_eqD hr.units) (J_ op_mod (pv 2) (pv 3)) (K_) (nomark _)) (pw_and1 (pt_val (dh (pK T) hr T.qC T.ezb T.V6 (A_ (pv 0) (A_ (pv 1) (A_ (J_ op_fdivW (pv 2) (pv 3)) (B_))))))))) (D_ (H_ (i:=2) VD.nd rfl (.inl rfl) (J_ op_fdivW (pv 2) (pv 3))))))) (D_ (L_ (pv 2)))),?_⟩
 kernel_rfl
theorem kU:FnOk P w K mg base CX0 3 T.eqs T.wD ["ladder"] (bx Wl):=by
 refine dY T.Wa Ke rfl rfl λcdv A outer s H E hr=>⟨_,C_ (ps_asg (pv 0) (pg_tup rfl (F_ (E_ (i:=1) Ke.nd rfl (.inl rfl)) (F_ (E_ (i:=2) Ke.nd rfl (.inl rfl)) (F_ (E_ (i:=3) Ke.nd rfl (.inl rfl)) (G_)))))) (C_ (H_ (i:=4) Ke.nd rfl (.inl rfl) (dh (nJ T) hr T.oO T.ZN T.VG (A_ (pv 2) (A_ (pv 3) (B_))))) (C_ (H_ (i:=5) Ke.nd rfl (.inl rfl) (J_ op_fdivW (J_ op_mul (pv 3) (pv 4)) (I_ call_len (by rfl) T.bZ (by decide +kernel) (A_ (pv 2) (B_))))) (C_ (ps_par (i:=6) (j:=7) rfl Ke.nd rfl rfl (by decide) rfl rfl (A_ (J_ op_cat (pv 1) (pe_slice sl_list (pv 2) (po_none) (po_some (pv 4)))) (A_ (I_ call_len (by rfl) T.bZ (by decide +kernel) (A_ (pv 1) (B_))) (B_))) (by rfl)) (C_ (ps_while PassesOwn.never (PW.pt (pw_and (pt_cmpR op_gt (pv 7) (K_) (nomark _)) (pw_and1 (pt_cmpR (op_eqD hr.units) (J_ op_add (O_ ix_seq (pv 6) (J_ op_sub (pv 7) (K_)) (λ_ _=>rfl)) (pv 5)) (O_ ix_seq (pv 6) (J_ op_add (J_ op_sub (pv 7) (K_)) (pv 4)) (λ_ _=>rfl)) (nomark _))))) (D_ (ps_aug (i:=7) Ke.nd rfl (.inl rfl) (K_) ip_sub))) (D_ (L_ (N_ (A_ (pe_slice sl_list (pv 6) (po_none) (po_some (pv 7))) (A_ (pe_slice sl_list (pv 6) (po_some (pv 7)) (po_some (J_ op_add (pv 7) (pv 4)))) (A_ (pv 5) (B_))))))))))),?_⟩
 kernel_rfl
theorem tJ:FnOk P w K mg base CX0 4 T.ezr T.yh ["row"] (bx ejq):=by
 refine dY T.ezp Z8 rfl rfl λcdv A outer s H E hr=>⟨_,C_ (ps_asg (pv 0) (pg_tup rfl (F_ (E_ (i:=1) Z8.nd rfl (.inl rfl)) (F_ (E_ (i:=2) Z8.nd rfl (.inl rfl)) (G_))))) (D_ (L_ (pe_slice sl_tupA (dh (kU T) hr T.mF T.Wa T.Rw (A_ (N_ (A_ (pv 1) (A_ (pv 2) (A_ (K_) (B_))))) (B_))) (po_none) (po_some (K_))))),?_⟩
 kernel_rfl
theorem xu:FnOk P w K mg base CX0 1 T.fzv T.As ["told"] (bx fxu):=by
 refine dY T.fjv wF rfl rfl λcdv A outer s H E hr=>⟨_,C_ (ps_asg (pv 0) (pg_tup rfl (F_ (E_ (i:=1) wF.nd rfl (.inl rfl)) (F_ (E_ (i:=2) wF.nd rfl (.inl rfl)) (F_ (E_ (i:=3) wF.nd rfl (.inl rfl)) (F_ (E_ (i:=4) wF.nd rfl (.inl rfl)) (G_))))))) (C_ (ps_asg (N_ (A_ (E2 (aY 7) (cN) (ak 7) (SE.bool true) [("day",7)] rfl wF.nd (pi_list (pv 1)) (blkOk_by (N:=RW) (sc:=defScope Mv) (by decide +kernel)) (λ_ _ _ _ _=>⟨_,E_ (i:=7) wF.nd rfl (.inl rfl),rfl⟩) (λ_ _ _ _ _=>⟨_,pts_nil,rfl⟩) (λ_ _ _ _ _=>⟨_,pv 7,rfl⟩) (λ_ _ _ _ _=>⟨_,pe_bl,rfl⟩)) (A_ (E2 (aY 8) (cN) (ak 8) (SE.bool true) [("place",8)] rfl wF.nd (pi_list (pv 4)) (blkOk_by (N:=RW) (sc:=defScope Mv) (by decide +kernel)) (λ_ _ _ _ _=>⟨_,E_ (i:=8) wF.nd rfl (.inl rfl),rfl⟩) (λ_ _ _ _ _=>⟨_,pts_nil,rfl⟩) (λ_ _ _ _ _=>⟨_,pv 8,rfl⟩) (λ_ _ _ _ _=>⟨_,pe_bl,rfl⟩)) (B_)))) (pg_tup rfl (F_ (E_ (i:=5) wF.nd rfl (.inr rfl)) (F_ (E_ (i:=6) wF.nd rfl (.inr rfl)) (G_))))) (D_ (L_ (N_ (A_ (tV (aY 7) (cN) (yS (P5 5 (ak 7))) [("day",7)] rfl wF.nd (pi_range1 (by rfl) T.dz (A_ (pv 2) (B_))) (blkOk_by (N:=RW) (sc:=defScope Mv) (by decide +kernel)) (λ_ _ _ _ _=>⟨_,E_ (i:=7) wF.nd rfl (.inl rfl),rfl⟩) (λ_ _ _ _ _=>⟨_,pts_nil,rfl⟩) (λ_ _ _ _ _=>⟨_,pe_callTy call_int1 (by rfl) T.kQ (by decide +kernel) (A_ (pe_cmp (pc_din (hu_of hr) (pv 7) (pv 5))) (B_)),rfl⟩)) (A_ (tV (aY 8) (cN) (yS (P5 6 (ak 8))) [("place",8)] rfl wF.nd (pi_range1 (by rfl) T.dz (A_ (pv 3) (B_))) (blkOk_by (N:=RW) (sc:=defScope Mv) (by decide +kernel)) (λ_ _ _ _ _=>⟨_,E_ (i:=8) wF.nd rfl (.inl rfl),rfl⟩) (λ_ _ _ _ _=>⟨_,pts_nil,rfl⟩) (λ_ _ _ _ _=>⟨_,pe_callTy call_int1 (by rfl) T.kQ (by decide +kernel) (A_ (pe_cmp (pc_din (hu_of hr) (pv 8) (pv 6))) (B_)),rfl⟩)) (B_))))))),?_⟩
 kernel_rfl
theorem vh:FnOk P w K mg base CX0 5 T.fxe T.BG ["row"] (bx fxc):=by
 refine dY T.fjb Ht rfl rfl λcdv A outer s H E hr=>⟨_,C_ (ps_asg (dh (tJ T) hr T.uL T.ezp T.Wf (A_ (pv 0) (B_))) (pg_tup rfl (F_ (E_ (i:=1) Ht.nd rfl (.inl rfl)) (F_ (E_ (i:=2) Ht.nd rfl (.inl rfl)) (G_))))) (C_ (rX (i:=3) (SG.tup (iK (aY 4) (iK (aY 5) (jK)))) (ST.ac (hxc (ak 5) (SE.ac 1))) (ak 4) [("day",4),("bit",5)] rfl Ht.nd rfl rfl (sw_true rfl rfl rfl (by decide +kernel)) (pi_enum (by rfl) T.b_ (A_ (pv 1) (B_))) (blkOk_by (N:=fqe) (sc:=defScope RC) (by decide +kernel)) (λ_ _ _ _ _=>⟨_,pg_tup rfl (F_ (E_ (i:=4) Ht.nd rfl (.inl rfl)) (F_ (E_ (i:=5) Ht.nd rfl (.inl rfl)) (G_))),rfl⟩) (λ_ _ _ _ _=>⟨_,pts_one (pt_cmpR (op_eqD hr.units) (pv 5) (K_) (nomark _)),rfl⟩) (λ_ _ _ _ _=>⟨_,pv 4,rfl⟩)) (D_ (L_ (N_ (A_ (pv 3) (A_ (I_ call_len (by rfl) T.bZ (by decide +kernel) (A_ (pv 1) (B_))) (A_ (I_ call_len (by rfl) T.bZ (by decide +kernel) (A_ (pv 2) (B_))) (A_ (tV (SG.tup (iK (aY 6) (iK (aY 5) (jK)))) (ST.ac (hxc (ak 5) (SE.ac 1))) (ak 6) [("place",6),("bit",5)] rfl Ht.nd (pi_enum (by rfl) T.b_ (A_ (pv 2) (B_))) (blkOk_by (N:=fqe) (sc:=defScope RC) (by decide +kernel)) (λ_ _ _ _ _=>⟨_,pg_tup rfl (F_ (E_ (i:=6) Ht.nd rfl (.inl rfl)) (F_ (E_ (i:=5) Ht.nd rfl (.inl rfl)) (G_))),rfl⟩) (λ_ _ _ _ _=>⟨_,pts_one (pt_cmpR (op_eqD hr.units) (pv 5) (K_) (nomark _)),rfl⟩) (λ_ _ _ _ _=>⟨_,pv 6,rfl⟩)) (B_))))))))),?_⟩
 kernel_rfl
theorem tK:FnOk P w K mg base CX0 6 T.eqp T.CJ ["told"] (bx ejp):=by
 refine dY T.ezq tO rfl rfl λcdv A outer s H E hr=>⟨_,C_ (ps_expr (dh (vg T) hr T.wU T.fjf T.Wv (A_ (pv 0) (B_)))) (D_ (L_ (dh (vh T) hr T.wV T.fjb T.WO (A_ (dh (xu T) hr T.AJ T.fjv T.WG (A_ (pv 0) (B_))) (B_))))),?_⟩
 kernel_rfl
theorem nI:FnOk P w K mg base CX0 4 T.ZW T.BC ["ladder"] (bx Zt):=by
 refine dY T.ZM nM rfl rfl λcdv A outer s H E hr=>⟨_,C_ (ps_expr (dh (pN T) hr T.qD T.eqc T.We (A_ (pv 0) (B_)))) (D_ (L_ (dh (kU T) hr T.mF T.Wa T.Rw (A_ (pv 0) (B_))))),?_⟩
 kernel_rfl
theorem tI:FnOk P w K mg base CX0 1 T.Z_ T.CL ["years"] (bx exq):=by
 refine dY T.exp ezg rfl rfl λcdv A outer s H E hr=>⟨_,D_ (L_ (pe_and (S_ (op_neD hr.units) (pv 0) (M_ (B_)) (nomark _)) (pe_one (I_ (cr_all rfl) (by rfl) T.u_ (by decide +kernel) (A_ (tV (aY 1) (cN) (K7 (SE.ne (ak 1) (SE.lst (fK))) (SE.ge (X5 (ak 1)) (SE.ac 1))) [("months",1)] rfl ezg.nd (pi_list (pv 0)) (blkOk_by (N:=lZ) (sc:=defScope V_) (by decide +kernel)) (λ_ _ _ _ _=>⟨_,E_ (i:=1) ezg.nd rfl (.inl rfl),rfl⟩) (λ_ _ _ _ _=>⟨_,pts_nil,rfl⟩) (λ_ _ _ _ _=>⟨_,pe_and (S_ (op_neD hr.units) (pv 1) (M_ (B_)) (nomark _)) (pe_one (S_ op_ge (I_ (cr_min rfl) (by rfl) T.vc (by decide +kernel) (A_ (pv 1) (B_))) (K_) (nomark _))),rfl⟩)) (B_)))))),?_⟩
 kernel_rfl
theorem jm:FnOk P w K mg base CX0 1 T.ZP T.Ag ["years"] (bx Wg):=by
 refine dY T.Wi jr rfl rfl λcdv A outer s H E hr=>⟨_,C_ (ps_for PassesOwn.never rfl (pi_range2 (by rfl) T.dz (A_ (K_) (A_ (I_ call_len (by rfl) T.bZ (by decide +kernel) (A_ (pv 0) (B_))) (B_)))) (E_ (i:=1) jr.nd rfl (.inl rfl)) (D_ (Q_ (PW.pt (pw_and (pt_cmpR (op_eqD hr.units) (J_ op_mod (I_ call_len (by rfl) T.bZ (by decide +kernel) (A_ (pv 0) (B_))) (pv 1)) (K_) (nomark _)) (pw_and1 (pt_cmpR (op_eqD hr.units) (pv 0) (J_ op_rep (pe_slice sl_list (pv 0) (po_none) (po_some (pv 1))) (J_ op_fdivW (I_ call_len (by rfl) T.bZ (by decide +kernel) (A_ (pv 0) (B_))) (pv 1))) (nomark _))))) (D_ (L_ (pe_slice sl_list (pv 0) (po_none) (po_some (pv 1))))) (R_)))) (D_ (L_ (pv 0))),?_⟩
 kernel_rfl
theorem Zz:FnOk P w K mg base CX0 2 T.Zq T.x7 ["self", "years"] (Pp (T.C "Calendar") (Rx T.C)):=by
 refine Nn T.ir Cy rfl rfl λcdv A outer s H E hr=>⟨_,C_ (Q_ (pt_not (pt_val (dh (tI T) hr T.uK T.exp T.Wm (A_ (pv 1) (B_))))) (D_ (ps_never)) (R_)) (C_ (Sf (pv 0) (tV (aY 3) (cN) (PJ (ak 3)) [("months",3)] rfl Cy.nd (pi_list (pv 1)) (blkOk_by (N:=VP) (sc:=defScope Kg) (by decide +kernel)) (λ_ _ _ _ _=>⟨_,E_ (i:=3) Cy.nd rfl (.inl rfl),rfl⟩) (λ_ _ _ _ _=>⟨_,pts_nil,rfl⟩) (λ_ _ _ _ _=>⟨_,pe_callTy call_list_of (by rfl) T.tG (by decide +kernel) (A_ (pv 3) (B_)),rfl⟩)) T.af T.aN) (C_ (Sf (pv 0) (gxn (SG.tup (iK (aY 4) (iK (aY 3) (jK)))) (cN) (D7 (lu (ak 3))) (aY 5) (cN) (SE.tup (eK (ak 4) (eK (ak 5) (fK)))) [("year",4),("months",3),("month",5)] [5] rfl Cy.nd (pi_enum (by rfl) T.b_ (A_ (pv 1) (B_))) (blkOk_by (N:=VP) (sc:=defScope Kg) (by decide +kernel)) (by decide) (λ_ _ _ _ _=>⟨_,pg_tup rfl (F_ (E_ (i:=4) Cy.nd rfl (.inl rfl)) (F_ (E_ (i:=3) Cy.nd rfl (.inl rfl)) (G_))),rfl⟩) (λ_ _ _ _ _=>⟨_,pts_nil,rfl⟩) (λ_ _ _ _ _=>⟨_,pi_range1 (by rfl) T.dz (A_ (I_ call_len (by rfl) T.bZ (by decide +kernel) (A_ (pv 3) (B_))) (B_)),rfl⟩) (λ_ _ _ _ _=>⟨_,E_ (i:=5) Cy.nd rfl (.inl rfl),rfl⟩) (λ_ _ _ _ _=>⟨_,pts_nil,rfl⟩) (λ_ _ _ _ _=>⟨_,N_ (A_ (pv 4) (A_ (pv 5) (B_))),rfl⟩)) T.af T.bH) (C_ (Sf (pv 0) (gxn (aY 3) (cN) (SI.list (ak 3)) (aY 2) (cN) (ak 2) [("months",3),("length",2)] [2] rfl Cy.nd (pi_list (pv 1)) (blkOk_by (N:=VP) (sc:=defScope Kg) (by decide +kernel)) (by decide) (λ_ _ _ _ _=>⟨_,E_ (i:=3) Cy.nd rfl (.inl rfl),rfl⟩) (λ_ _ _ _ _=>⟨_,pts_nil,rfl⟩) (λ_ _ _ _ _=>⟨_,pi_list (pv 3),rfl⟩) (λ_ _ _ _ _=>⟨_,E_ (i:=2) Cy.nd rfl (.inl rfl),rfl⟩) (λ_ _ _ _ _=>⟨_,pts_nil,rfl⟩) (λ_ _ _ _ _=>⟨_,pv 2,rfl⟩)) T.af T.aV) (C_ (Sf (pv 0) (M_ B_) T.af T.aE) (C_ (Sf (pv 0) (K_) T.af T.aP) (D_ (ps_for PassesOwn.never rfl (pi_list (iw (pv 0) T.af T.aV)) (E_ (i:=2) Cy.nd rfl (.inl rfl)) (C_ (ps_expr (pe_bm PySem.F.plainAttrs_list PySem.F.slot_list_append PySem.F.type_list_append mt_append (iw (pv 0) T.af T.aE) (A_ (iw (pv 0) T.af T.aP) B_))) (D_ (xB (pv 0) (pv 2) in_add T.af T.aP)))))))))),?_⟩
 kernel_rfl
theorem YY:FnOk P w K mg base CX0 1 T.Zm T.yd ["self"] (bx (QT T.C)):=by
 refine eZ T.fU QS rfl rfl λcdv A outer s H E hr=>⟨_,D_ (L_ (gxn (SG.tup (iK (aY 1) (iK (aY 2) (jK)))) (cN) (D7 (ak 2)) (aY 3) (cN) (ak 1) [("index",1),("length",2),("place",3)] [3] rfl QS.nd (pi_enum (by rfl) T.b_ (A_ (iw (pv 0) T.af T.aV) (B_))) (blkOk_by (N:=fV) (sc:=defScope OF) (by decide +kernel)) (by decide) (λ_ _ _ _ _=>⟨_,pg_tup rfl (F_ (E_ (i:=1) QS.nd rfl (.inl rfl)) (F_ (E_ (i:=2) QS.nd rfl (.inl rfl)) (G_))),rfl⟩) (λ_ _ _ _ _=>⟨_,pts_nil,rfl⟩) (λ_ _ _ _ _=>⟨_,pi_range1 (by rfl) T.dz (A_ (pv 2) (B_)),rfl⟩) (λ_ _ _ _ _=>⟨_,E_ (i:=3) QS.nd rfl (.inl rfl),rfl⟩) (λ_ _ _ _ _=>⟨_,pts_nil,rfl⟩) (λ_ _ _ _ _=>⟨_,pv 1,rfl⟩))),?_⟩
 kernel_rfl
theorem dZ:FnOk P w K mg base CX0 1 T.Y7 T.BA ["self", "year", "month"] (bx (Vs T.C)):=by
 refine eZ T.eB jq rfl rfl λcdv A outer s H E hr=>⟨_,D_ (L_ (pe_bm PySem.F.plainAttrs_list PySem.F.slot_list_index PySem.F.type_list_index (mt_indexD (JK hr)) (iw (pv 0) T.af T.bH) (A_ (N_ (A_ (pv 1) (A_ (pv 2) (B_)))) B_))),?_⟩
 kernel_rfl
theorem d7:FnOk P w K mg base CX0 1 T.YX T.Ae ["self", "index"] (bx (Vq T.C)):=by
 refine eZ T.eE Y_ rfl rfl λcdv A outer s H E hr=>⟨_,C_ (ps_asg (I_ call_divmodW (by rfl) T.kO (by decide +kernel) (A_ (pv 1) (A_ (I_ call_len (by rfl) T.bZ (by decide +kernel) (A_ (iw (pv 0) T.af T.aV) (B_))) (B_)))) (pg_tup rfl (F_ (E_ (i:=2) Y_.nd rfl (.inl rfl)) (F_ (E_ (i:=3) Y_.nd rfl (.inl rfl)) (G_))))) (D_ (L_ (N_ (A_ (J_ op_add (J_ op_mul (pv 2) (iw (pv 0) T.af T.aP)) (O_ ix_seq (iw (pv 0) T.af T.aE) (pv 3) (λ_ _=>rfl))) (A_ (O_ ix_seq (iw (pv 0) T.af T.aV) (pv 3) (λ_ _=>rfl)) (B_)))))),?_⟩
 kernel_rfl
theorem Vt:FnOk P w K mg base CX0 7 T.YV T.v8 ["self", "days"] (bx (Om T.C)):=by
 refine eZ T.cM gu rfl rfl λcdv A outer s H E hr=>⟨_,D_ (L_ (dh (tK T) hr T.uM T.ezq T.Wq (A_ (N_ (A_ (M_ (B_)) (A_ (K_) (A_ (iw (pv 0) T.af T.aP) (A_ (pv 1) (B_)))))) (B_)))),?_⟩
 kernel_rfl
theorem YU:FnOk P w K mg base CX0 5 T.YS T.wB ["self", "told", "rise"] (bx (QC T.C)):=by
 refine eZ T.cE fj rfl rfl λcdv A outer s H E hr=>⟨_,D_ (L_ (dh (nI T) hr T.oN T.ZM T.VH (A_ (N_ (A_ (M_ (B_)) (A_ (pv 1) (A_ (pv 2) (B_))))) (B_)))),?_⟩
 kernel_rfl
theorem Me:FnOk P w K mg base CX0 2 T.ZA T.qY ["self", "day"] (bx (CB T.C)):=by
 refine eZ T.ik J5 rfl rfl λcdv A outer s H E hr=>⟨_,C_ (ps_expr (dh (OS T) hr T.cy T.Kd T.Hs (A_ (pv 1) (A_ (K_) (B_))))) (C_ (ps_asg (I_ call_divmodW (by rfl) T.kO (by decide +kernel) (A_ (pv 1) (A_ (iw (pv 0) T.af T.aP) (B_)))) (pg_tup rfl (F_ (E_ (i:=2) J5.nd rfl (.inl rfl)) (F_ (E_ (i:=3) J5.nd rfl (.inr rfl)) (G_))))) (C_ (H_ (i:=4) J5.nd rfl (.inl rfl) (J_ op_sub (I_ call_len (by rfl) T.bZ (by decide +kernel) (A_ (tV (aY 7) (ST.ac (SE.le (ak 7) (ak 3))) (ak 7) [("first",7)] rfl J5.nd (pi_list (iw (pv 0) T.af T.aE)) (blkOk_by (N:=iu) (sc:=defScope OB) (by decide +kernel)) (λ_ _ _ _ _=>⟨_,E_ (i:=7) J5.nd rfl (.inl rfl),rfl⟩) (λ_ _ _ _ _=>⟨_,pts_one (pt_cmpR op_le (pv 7) (pv 3) (nomark _)),rfl⟩) (λ_ _ _ _ _=>⟨_,pv 7,rfl⟩)) (B_))) (K_))) (C_ (ps_asg (O_ ix_seq (iw (pv 0) T.af T.bH) (pv 4) (λ_ _=>rfl)) (pg_tup rfl (F_ (E_ (i:=5) J5.nd rfl (.inl rfl)) (F_ (E_ (i:=6) J5.nd rfl (.inl rfl)) (G_))))) (D_ (L_ (N_ (A_ (J_ op_add (J_ op_mul (pv 2) (I_ call_len (by rfl) T.bZ (by decide +kernel) (A_ (iw (pv 0) T.af T.aN) (B_)))) (pv 5)) (A_ (pv 6) (A_ (J_ op_sub (pv 3) (O_ ix_seq (iw (pv 0) T.af T.aE) (pv 4) (λ_ _=>rfl))) (B_)))))))))),?_⟩
 kernel_rfl
theorem nG:FnOk P w K mg base CX0 2 T.ZG T.BF ["self", "date"] (bx (ZF T.C)):=by
 refine eZ T.iU J8 rfl rfl λcdv A outer s H E hr=>⟨_,C_ (ps_for PassesOwn.never rfl (pi_tup (pv 1)) (E_ (i:=2) J8.nd rfl (.inl rfl)) (D_ (ps_expr (dh (OS T) hr T.cy T.Kd T.Hs (A_ (pv 2) (A_ (K_) (B_))))))) (C_ (ps_asg (pv 1) (pg_tup rfl (F_ (E_ (i:=3) J8.nd rfl (.inl rfl)) (F_ (E_ (i:=4) J8.nd rfl (.inl rfl)) (F_ (E_ (i:=5) J8.nd rfl (.inl rfl)) (G_)))))) (C_ (ps_asg (I_ call_divmodW (by rfl) T.kO (by decide +kernel) (A_ (pv 3) (A_ (I_ call_len (by rfl) T.bZ (by decide +kernel) (A_ (iw (pv 0) T.af T.aN) (B_))) (B_)))) (pg_tup rfl (F_ (E_ (i:=6) J8.nd rfl (.inl rfl)) (F_ (E_ (i:=7) J8.nd rfl (.inl rfl)) (G_))))) (C_ (H_ (i:=8) J8.nd rfl (.inl rfl) (O_ ix_seq (iw (pv 0) T.af T.aN) (pv 7) (λ_ _=>rfl))) (C_ (Q_ (PW.pt (pw_or (pt_cmpR op_ge (pv 4) (I_ call_len (by rfl) T.bZ (by decide +kernel) (A_ (pv 8) (B_))) (nomark _)) (pw_or1 (pt_cmpR op_ge (pv 5) (O_ ix_seq (pv 8) (pv 4) (λ_ _=>rfl)) (nomark _))))) (D_ (ps_never)) (R_)) (D_ (L_ (J_ op_add (J_ op_add (J_ op_mul (pv 6) (iw (pv 0) T.af T.aP)) (O_ ix_seq (iw (pv 0) T.af T.aE) (pe_meth (pv 0) T.af T.dU (dZ T) (hr.mono (by decide)) T.QF .nil pass0 (A_ (pv 7) (A_ (pv 4) (B_)))) (λ_ _=>rfl))) (pv 5)))))))),?_⟩
 kernel_rfl
theorem gW:FnOk P w K mg base CX0 8 T.Ze T.By ["self"] (bx (Y4 T.C)):=by
 refine eZ T.cP QD rfl rfl λcdv A outer s H E hr=>⟨_,D_ (L_ (pe_meth (pv 0) T.af T.bD (Vt T) (hr.mono (by decide)) T.LV .nil pass0 (A_ (tV (SG.tup (iK (aY 1) (iK (SG.tup (iK (aY 2) (iK (aY 3) (jK)))) (jK)))) (ST.ac (hxc (ak 3) (SE.ac 0))) (ak 1) [("day",1),("year",2),("month",3)] rfl QD.nd (pi_zip (by rfl) T.pD (A_ (iw (pv 0) T.af T.aE) (A_ (iw (pv 0) T.af T.bH) (B_)))) (blkOk_by (N:=cQ) (sc:=defScope Ot) (by decide +kernel)) (λ_ _ _ _ _=>⟨_,pg_tup rfl (F_ (E_ (i:=1) QD.nd rfl (.inl rfl)) (F_ (pg_tup rfl (F_ (E_ (i:=2) QD.nd rfl (.inl rfl)) (F_ (E_ (i:=3) QD.nd rfl (.inl rfl)) (G_)))) (G_))),rfl⟩) (λ_ _ _ _ _=>⟨_,pts_one (pt_cmpR (op_eqD hr.units) (pv 3) (K_) (nomark _)),rfl⟩) (λ_ _ _ _ _=>⟨_,pv 1,rfl⟩)) (B_)))),?_⟩
 kernel_rfl
theorem gp:FnOk P w K mg base CX0 8 T.Y9 T.Ci ["self"] (bx (YT T.C)):=by
 refine eZ T.cL gr rfl rfl λcdv A outer s H E hr=>⟨_,D_ (L_ (pe_meth (pv 0) T.af T.bD (Vt T) (hr.mono (by decide)) T.LV .nil pass0 (A_ (pe_callTy call_list_of (by rfl) T.tG (by decide +kernel) (A_ (iw (pv 0) T.af T.aE) (B_))) (B_)))),?_⟩
 kernel_rfl
theorem gb:FnOk P w K mg base CX0 8 T.ZJ T.z_ ["self", "month", "day"] (bx (VW T.C)):=by
 refine eZ T.gz ON rfl rfl λcdv A outer s H E hr=>⟨_,C_ (ps_expr (dh (OS T) hr T.cy T.Kd T.Hs (A_ (pv 1) (A_ (K_) (B_))))) (C_ (ps_expr (dh (OS T) hr T.cy T.Kd T.Hs (A_ (pv 2) (A_ (K_) (B_))))) (C_ (H_ (i:=3) ON.nd rfl (.inl rfl) (M_ (B_))) (C_ (ps_for PassesOwn.never rfl (Jg (by rfl) T.pD (A_ (iw (pv 0) T.af T.aE) (A_ (iw (pv 0) T.af T.aV) (A_ (iw (pv 0) T.af T.bH) (B_))))) (pg_tup rfl (F_ (E_ (i:=4) ON.nd rfl (.inl rfl)) (F_ (E_ (i:=5) ON.nd rfl (.inl rfl)) (F_ (pg_tup rfl (F_ (E_ (i:=6) ON.nd rfl (.inl rfl)) (F_ (E_ (i:=7) ON.nd rfl (.inl rfl)) (G_)))) (G_))))) (D_ (Q_ (PW.pt (pw_and (pt_cmpR (op_eqD hr.units) (pv 7) (pv 1) (nomark _)) (pw_and1 (pt_cmpR op_lt (pv 2) (pv 5) (nomark _))))) (D_ (ps_expr (pe_bm PySem.F.plainAttrs_list PySem.F.slot_list_append PySem.F.type_list_append mt_append (pv 3) (A_ (J_ op_add (pv 4) (pv 2)) B_)))) (R_)))) (D_ (L_ (pe_meth (pv 0) T.af T.bD (Vt T) (hr.mono (by decide)) T.LV .nil pass0 (A_ (pv 3) (B_)))))))),?_⟩
 kernel_rfl
theorem iP:FnOk P w K mg base CX0 8 T.Y5 T.Bt ["self"] (bx (Y6 T.C)):=by
 refine eZ T.dG Vz rfl rfl λcdv A outer s H E hr=>⟨_,D_ (L_ (pe_meth (pv 0) T.af T.bD (Vt T) (hr.mono (by decide)) T.LV .nil pass0 (A_ (tV (SG.tup (iK (aY 1) (iK (aY 2) (jK)))) (cN) (uO (gZ (ak 1) (ak 2)) (SE.ac 1)) [("first",1),("length",2)] rfl Vz.nd (pi_zip (by rfl) T.pD (A_ (iw (pv 0) T.af T.aE) (A_ (iw (pv 0) T.af T.aV) (B_)))) (blkOk_by (N:=dJ) (sc:=defScope OI) (by decide +kernel)) (λ_ _ _ _ _=>⟨_,pg_tup rfl (F_ (E_ (i:=1) Vz.nd rfl (.inl rfl)) (F_ (E_ (i:=2) Vz.nd rfl (.inl rfl)) (G_))),rfl⟩) (λ_ _ _ _ _=>⟨_,pts_nil,rfl⟩) (λ_ _ _ _ _=>⟨_,J_ op_sub (J_ op_add (pv 1) (pv 2)) (K_),rfl⟩)) (B_)))),?_⟩
 kernel_rfl
theorem cZ:FnOk P w K mg base CX0 6 T.Zf T.z9 ["self", "months"] (bx (Vv T.C)):=by
 refine eZ T.dH Oo rfl rfl λcdv A outer s H E hr=>⟨_,C_ (ps_expr (dh (OS T) hr T.cy T.Kd T.Hs (A_ (pv 1) (A_ (K_) (B_))))) (C_ (H_ (i:=2) Oo.nd rfl (.inl rfl) (M_ (B_))) (C_ (ps_for PassesOwn.never rfl (pi_enum (by rfl) T.b_ (A_ (pe_meth0 (pv 0) T.af T.cJ (YY T) (hr.mono (by decide)) T.Ou .nil pass0) (B_))) (pg_tup rfl (F_ (E_ (i:=3) Oo.nd rfl (.inl rfl)) (F_ (E_ (i:=4) Oo.nd rfl (.inl rfl)) (G_)))) (C_ (ps_asg (pe_meth (pv 0) T.af T.dW (d7 T) (hr.mono (by decide)) T.QV .nil pass0 (A_ (J_ op_add (pv 4) (pv 1)) (B_))) (pg_tup rfl (F_ (E_ (i:=5) Oo.nd rfl (.inl rfl)) (F_ (E_ (i:=6) Oo.nd rfl (.inl rfl)) (G_))))) (D_ (ps_expr (pe_bm PySem.F.plainAttrs_list PySem.F.slot_list_append PySem.F.type_list_append mt_append (pv 2) (A_ (J_ op_add (pv 5) (I_ (call_min2 rfl) (by rfl) T.vc (by decide +kernel) (A_ (J_ op_sub (pv 3) (O_ ix_seq (iw (pv 0) T.af T.aE) (pv 4) (λ_ _=>rfl))) (A_ (J_ op_sub (pv 6) (K_)) (B_))))) B_)))))) (D_ (L_ (pe_meth (pv 0) T.af T.bJ (YU T) (hr.mono (by decide)) T.Oj .nil pass0 (A_ (pv 2) (A_ (iw (pv 0) T.af T.aP) (B_)))))))),?_⟩
 kernel_rfl
theorem jE:FnOk P w K mg base CX0 2 T.Zi T.Bv ["self", "day", "index", "years"] (bx (VL T.C)):=by
 refine eZ T.fu Hj rfl rfl λcdv A outer s H E hr=>⟨_,C_ (ps_asg (O_ ix_seq (iw (pv 0) T.af T.bH) (pv 2) (λ_ _=>rfl)) (pg_tup rfl (F_ (E_ (i:=4) Hj.nd rfl (.inl rfl)) (F_ (E_ (i:=5) Hj.nd rfl (.inl rfl)) (G_))))) (C_ (ps_asg (I_ call_divmodW (by rfl) T.kO (by decide +kernel) (A_ (J_ op_add (pv 4) (pv 3)) (A_ (I_ call_len (by rfl) T.bZ (by decide +kernel) (A_ (iw (pv 0) T.af T.aN) (B_))) (B_)))) (pg_tup rfl (F_ (E_ (i:=6) Hj.nd rfl (.inl rfl)) (F_ (E_ (i:=7) Hj.nd rfl (.inl rfl)) (G_))))) (C_ (H_ (i:=8) Hj.nd rfl (.inl rfl) (I_ call_len (by rfl) T.bZ (by decide +kernel) (A_ (O_ ix_seq (iw (pv 0) T.af T.aN) (pv 7) (λ_ _=>rfl)) (B_)))) (C_ (ps_asg (pe_meth (pv 0) T.af T.dW (d7 T) (hr.mono (by decide)) T.QV .nil pass0 (A_ (pe_meth (pv 0) T.af T.dU (dZ T) (hr.mono (by decide)) T.QF .nil pass0 (A_ (pv 7) (A_ (I_ (call_min2 rfl) (by rfl) T.vc (by decide +kernel) (A_ (pv 5) (A_ (J_ op_sub (pv 8) (K_)) (B_)))) (B_)))) (B_))) (pg_tup rfl (F_ (E_ (i:=9) Hj.nd rfl (.inl rfl)) (F_ (E_ (i:=10) Hj.nd rfl (.inl rfl)) (G_))))) (C_ (H_ (i:=11) Hj.nd rfl (.inl rfl) (pe_ifExp (pt_cmpR op_ge (pv 5) (pv 8) (nomark _)) (J_ op_sub (pv 10) (K_)) (I_ (call_min2 rfl) (by rfl) T.vc (by decide +kernel) (A_ (J_ op_sub (pv 1) (O_ ix_seq (iw (pv 0) T.af T.aE) (pv 2) (λ_ _=>rfl))) (A_ (J_ op_sub (pv 10) (K_)) (B_)))))) (D_ (L_ (J_ op_add (J_ op_add (J_ op_mul (pv 6) (iw (pv 0) T.af T.aP)) (pv 9)) (pv 11)))))))),?_⟩
 kernel_rfl
theorem d8:FnOk P w K mg base CX0 6 T.Zg T.Af ["self", "years"] (bx (Vx T.C)):=by
 refine eZ T.eG Vr rfl rfl λcdv A outer s H E hr=>⟨_,C_ (ps_expr (dh (OS T) hr T.cy T.Kd T.Hs (A_ (pv 1) (A_ (K_) (B_))))) (C_ (rX (i:=2) (SG.tup (iK (aY 3) (iK (aY 4) (jK)))) (cN) (SE.meth (T.C "Calendar") 0 "year_on" (VL T.C) (cK (ak 3) (cK (ak 4) (cK (ak 1) (dK))))) [("day",3),("index",4)] rfl Vr.nd rfl rfl (sw_true rfl rfl rfl (by decide +kernel)) (pi_enum (by rfl) T.b_ (A_ (pe_meth0 (pv 0) T.af T.cJ (YY T) (hr.mono (by decide)) T.Ou .nil pass0) (B_))) (blkOk_by (N:=eI) (sc:=defScope OJ) (by decide +kernel)) (λ_ _ _ _ _=>⟨_,pg_tup rfl (F_ (E_ (i:=3) Vr.nd rfl (.inl rfl)) (F_ (E_ (i:=4) Vr.nd rfl (.inl rfl)) (G_))),rfl⟩) (λ_ _ _ _ _=>⟨_,pts_nil,rfl⟩) (λ_ _ _ _ _=>⟨_,pe_meth (pv 0) T.af T.jD (jE T) (hr.mono (by decide)) T.VZ .nil pass0 (A_ (pv 3) (A_ (pv 4) (A_ (pv 1) (B_)))),rfl⟩)) (D_ (L_ (pe_meth (pv 0) T.af T.bJ (YU T) (hr.mono (by decide)) T.Oj .nil pass0 (A_ (pv 2) (A_ (iw (pv 0) T.af T.aP) (B_))))))),?_⟩
 kernel_rfl
theorem ki:FnOk P w K mg base CX0 6 T.Zl T.BB ["self"] (bx (Y8 T.C)):=by
 refine eZ T.fS kq rfl rfl λcdv A outer s H E hr=>⟨_,D_ (L_ (pe_meth (pv 0) T.af T.bJ (YU T) (hr.mono (by decide)) T.Oj .nil pass0 (A_ (pe_meth0 (pv 0) T.af T.cJ (YY T) (hr.mono (by decide)) T.Ou .nil pass0) (A_ (I_ call_len (by rfl) T.bZ (by decide +kernel) (A_ (iw (pv 0) T.af T.aV) (B_))) (B_))))),?_⟩
 kernel_rfl
theorem Mg:FnOk P w K mg base CX0 2 T.ZD T.v9 ["self", "other"] (bx (GA T.C)):=by
 refine eZ T.ig lY rfl rfl λcdv A outer s H E hr=>⟨_,D_ (L_ (pe_and (I_ (Au T.bM.i) (by rfl) T.ie (by decide +kernel) (A_ (pv 1) (A_ (Jd (by rfl) T.fW) (B_)))) (pe_one (S_ (op_eqD hr.units) (dh (jm T) hr T.jN T.Wi T.Q9 (A_ (iw (pv 0) T.af T.aN) (B_))) (dh (jm T) hr T.jN T.Wi T.Q9 (A_ (iw (pv 1) T.af T.aN) (B_))) (nomark _))))),?_⟩
 kernel_rfl
theorem GG:FnOk P w K mg base CX0 1 T.gqj T.l8 ["_law_pail_here", "_law_many"] (bx Az):=by
 refine dY T.BN Xb rfl rfl λcdv A outer s H E hr=>⟨_,C_ (Q_ (pt_cmpR op_gt (O_ ix_seq (pv 0) K_ (λ_ _=>rfl)) (K_) (nomark _)) (C_ (H_ (i:=2) Xb.nd rfl (.inl rfl) (J_ op_mod (pe_callTy call_int1 (by rfl) T.kQ (by decide +kernel) (A_ (O_ ix_seq (pv 0) K_ (λ_ _=>rfl)) (B_))) (pv 1))) (C_ (ps_asg (J_ op_fdivW (O_ ix_seq (pv 0) K_ (λ_ _=>rfl)) (pv 1)) (pg_sub (pv 0) K_ set_list)) (D_ (L_ (pv 2))))) (R_)) (C_ (ps_asg (J_ op_add (O_ ix_seq (pv 0) K_ (λ_ _=>rfl)) (K_)) (pg_sub (pv 0) K_ set_list)) (C_ (H_ (i:=3) Xb.nd rfl (.inl rfl) (J_ op_mod (J_ MH (pe_callTy call_int1 (by rfl) T.kQ (by decide +kernel) (A_ (J_ op_add (O_ ix_seq (pv 0) K_ (λ_ _=>rfl)) (J_ op_mul (K_) (O_ ix_seq (pv 0) K_ (λ_ _=>rfl)))) (B_))) (K_)) (J_ op_add (J_ MH (K_) (K_)) (K_)))) (C_ (H_ (i:=3) Xb.nd rfl (.inl rfl) (J_ op_mod (J_ MH (pe_callTy call_int1 (by rfl) T.kQ (by decide +kernel) (A_ (J_ op_add (pv 3) (K_)) (B_))) (K_)) (J_ op_add (J_ MH (K_) (K_)) (K_)))) (D_ (L_ (J_ op_mod (pe_callTy call_int1 (by rfl) T.kQ (by decide +kernel) (A_ (J_ op_fdivW (pv 3) (K_)) (B_))) (pv 1))))))),?_⟩
 kernel_rfl
theorem A9:vX P w K mg base 1 T.Xg T.yp ["_law_said", "_law_due"] (bx KH):=by
 refine Ls T.O4 Be rfl rfl λcdv A outer s H hG hr=>⟨_,D_ (L_ (S_ op_eq (I_ (oA hG hr.units) (by rfl) T.EA (by decide +kernel) (A_ (pv 0) B_)) (I_ (oA hG hr.units) (by rfl) T.EA (by decide +kernel) (A_ (pv 1) B_)) (nomark _))),?_⟩
 kernel_rfl
theorem RB:FnOk P w K mg base CX0 1 T.fjo T.uq ["_law_lengths"] (bx MB):=by
 refine dY T.Mu fxf rfl rfl λcdv A outer s H E hr=>⟨_,D_ (L_ (I_ (cr_sum rfl) (by rfl) T.Lp (by decide +kernel) (A_ (tV (aY 1) (cN) (SE.sum (ak 1)) [("_law_row",1)] rfl fxf.nd (pi_list (pv 0)) (blkOk_by (N:=qQ) (sc:=defScope WW) (by decide +kernel)) (λ_ _ _ _ _=>⟨_,E_ (i:=1) fxf.nd rfl (.inl rfl),rfl⟩) (λ_ _ _ _ _=>⟨_,pts_nil,rfl⟩) (λ_ _ _ _ _=>⟨_,I_ (cr_sum rfl) (by rfl) T.Lp (by decide +kernel) (A_ (pv 1) (B_)),rfl⟩)) (B_)))),?_⟩
 kernel_rfl
theorem pM:FnOk P w K mg base CX0 10 T.fxt T.Aq ["_law_pail_here"] (bx WT):=by
 refine dY T.Wx Kw rfl rfl λcdv A outer s H E hr=>⟨_,C_ (H_ (i:=1) Kw.nd rfl (.inl rfl) (dh (GG T) hr T.dw T.BN T.Ay (A_ (pv 0) (A_ (K_) (B_))))) (C_ (H_ (i:=2) Kw.nd rfl (.inr rfl) (O_ ix_seq (M_ (A_ (N_ (A_ (K_) (A_ (K_) (A_ (K_) (B_))))) (A_ (N_ (A_ (K_) (A_ (K_) (A_ (K_) (B_))))) (A_ (N_ (A_ (K_) (A_ (K_) (A_ (K_) (B_))))) (A_ (N_ (A_ (K_) (A_ (K_) (A_ (K_) (B_))))) (A_ (N_ (A_ (K_) (A_ (K_) (A_ (K_) (B_))))) (B_))))))) (O_ ix_seq (M_ (A_ (K_) (A_ (K_) (A_ (K_) (A_ (K_) (A_ (K_) (A_ (K_) (A_ (K_) (A_ (K_) (A_ (K_) (B_))))))))))) (pv 1) (λ_ _=>rfl)) (λ_ _=>rfl))) (C_ (H_ (i:=3) Kw.nd rfl (.inl rfl) (M_ (B_))) (C_ (ps_for PassesOwn.never rfl (pi_range1 (by rfl) T.dz (A_ (J_ op_add (K_) (dh (GG T) hr T.dw T.BN T.Ay (A_ (pv 0) (A_ (O_ ix_seq (pv 2) (K_) (λ_ _=>rfl)) (B_))))) (B_))) (E_ (i:=4) Kw.nd rfl (.inl rfl)) (D_ (ps_expr (pe_bm PySem.F.plainAttrs_list PySem.F.slot_list_append PySem.F.type_list_append mt_append (pv 3) (A_ (tV (aY 5) (cN) (gZ (SE.ac 1) (SE.ag Az (tY 0 (cK (jh (ak 2) (SE.ac 2)) (dK))))) [("_law_month",5)] rfl Kw.nd (pi_range1 (by rfl) T.dz (A_ (J_ op_add (K_) (dh (GG T) hr T.dw T.BN T.Ay (A_ (pv 0) (A_ (O_ ix_seq (pv 2) (K_) (λ_ _=>rfl)) (B_))))) (B_))) (blkOk_by (N:=qU) (sc:=defScope WA) (by decide +kernel)) (λ_ _ _ _ _=>⟨_,E_ (i:=5) Kw.nd rfl (.inl rfl),rfl⟩) (λ_ _ _ _ _=>⟨_,pts_nil,rfl⟩) (λ_ _ _ _ _=>⟨_,J_ op_add (K_) (dh (GG T) hr T.dw T.BN T.Ay (A_ (pv 0) (A_ (O_ ix_seq (pv 2) (K_) (λ_ _=>rfl)) (B_)))),rfl⟩)) B_))))) (C_ (Q_ (PW.pt (pw_and (pt_cmpR op_gt (pv 1) (K_) (nomark _)) (pw_and (pt_cmpR (op_eqD hr.units) (dh (GG T) hr T.dw T.BN T.Ay (A_ (pv 0) (A_ (K_) (B_)))) (K_) (nomark _)) (pw_and1 (pt_cmpR op_lt (dh (RB T) hr T.gO T.Mu T.Kx (A_ (pv 3) (B_))) (K_) (nomark _)))))) (D_ (H_ (i:=3) Kw.nd rfl (.inl rfl) (J_ op_cat (pv 3) (dh (RU T 9) hr T.hU T.HR T.g_ (A_ (pv 3) (B_)))))) (R_)) (D_ (L_ (pv 3))))))),?_⟩
 kernel_rfl
theorem pL:FnOk P w K mg base CX0 1 T.fzu T.Ar ["_law_lengths", "_law_many"] (bx WU):=by
 refine dY T.exs Ku rfl rfl λcdv A outer s H E hr=>⟨_,C_ (ps_asg (N_ (A_ (M_ B_) (A_ (K_) (B_)))) (pg_tup rfl (F_ (E_ (i:=2) Ku.nd rfl (.inl rfl)) (F_ (E_ (i:=3) Ku.nd rfl (.inr rfl)) (G_))))) (C_ (ps_while PassesOwn.never (pt_cmpR op_lt (I_ call_len (by rfl) T.bZ (by decide +kernel) (A_ (pv 2) B_)) (pv 1) (nomark _)) (C_ (ps_for PassesOwn.never rfl (pi_enum (by rfl) T.b_ (A_ (O_ ix_seq (pv 0) (J_ op_mod (pe_callTy call_int1 (by rfl) T.kQ (by decide +kernel) (A_ (pv 3) (B_))) (I_ call_len (by rfl) T.bZ (by decide +kernel) (A_ (pv 0) (B_)))) (λ_ _=>rfl)) (B_))) (pg_tup rfl (F_ (E_ (i:=4) Ku.nd rfl (.inr rfl)) (F_ (E_ (i:=5) Ku.nd rfl (.inl rfl)) (G_)))) (D_ (ps_expr (pe_bm PySem.F.plainAttrs_list PySem.F.slot_list_extend PySem.F.type_list_extend mt_extend (pv 2) (A_ (tV (aY 6) (cN) (SE.tup (eK (ak 3) (eK (ak 4) (eK (ak 6) (fK))))) [("_law_place",6)] rfl Ku.nd (pi_range1 (by rfl) T.dz (A_ (pv 5) (B_))) (blkOk_by (N:=qR) (sc:=defScope WL) (by decide +kernel)) (λ_ _ _ _ _=>⟨_,E_ (i:=6) Ku.nd rfl (.inl rfl),rfl⟩) (λ_ _ _ _ _=>⟨_,pts_nil,rfl⟩) (λ_ _ _ _ _=>⟨_,N_ (A_ (pv 3) (A_ (pv 4) (A_ (pv 6) (B_)))),rfl⟩)) B_))))) (D_ (H_ (i:=3) Ku.nd rfl (.inr rfl) (J_ op_add (pv 3) (K_)))))) (D_ (L_ (pe_slice sl_list (pv 2) (po_none) (po_some (pv 1)))))),?_⟩
 kernel_rfl
theorem lP:FnOk P w K mg base CX0 11 T.Zo T.BE ["_law_pail_here", "_law_lengths"] (bx Zp):=by
 refine dY T.Zn OA rfl rfl λcdv A outer s H E hr=>⟨_,C_ (ps_par (i:=2) (j:=3) rfl OA.nd rfl rfl (by decide) rfl rfl (A_ (dh (RU T 9) hr T.hU T.HR T.g_ (A_ (pv 1) (B_))) (A_ (dh (GG T) hr T.dw T.BN T.Ay (A_ (pv 0) (A_ (K_) (B_)))) (B_))) (by rfl)) (C_ (H_ (i:=4) OA.nd rfl (.inl rfl) (dh (GG T) hr T.dw T.BN T.Ay (A_ (pv 0) (A_ (I_ call_len (by rfl) T.bZ (by decide +kernel) (A_ (pv 2) (B_))) (B_))))) (C_ (H_ (i:=5) OA.nd rfl (.inl rfl) (O_ ix_seq (pv 2) (pv 4) (λ_ _=>rfl))) (C_ (H_ (i:=6) OA.nd rfl (.inl rfl) (dh (GG T) hr T.dw T.BN T.Ay (A_ (pv 0) (A_ (I_ call_len (by rfl) T.bZ (by decide +kernel) (A_ (pv 5) (B_))) (B_))))) (C_ (Q_ (PW.pt (pw_and (pt_cmpR op_lt (pv 3) (K_) (nomark _)) (pw_and (pt_cmpR op_lt (dh (RB T) hr T.gO T.Mu T.Kx (A_ (pv 2) (B_))) (K_) (nomark _)) (pw_and1 (pt_cmpR op_lt (I_ call_len (by rfl) T.bZ (by decide +kernel) (A_ (pv 2) B_)) (K_) (nomark _)))))) (D_ (L_ (J_ op_rep (pv 2) (J_ op_add (K_) (dh (GG T) hr T.dw T.BN T.Ay (A_ (pv 0) (A_ (K_) (B_)))))))) (R_)) (C_ (Q_ (pt_cmpR (op_eqD hr.units) (pv 3) (K_) (nomark _)) (D_ (ps_asg (J_ op_add (K_) (J_ op_mod (pe_callTy call_int1 (by rfl) T.kQ (by decide +kernel) (A_ (O_ ix_seq (pv 5) (pv 6) (λ_ _=>rfl)) (B_))) (K_))) (pg_sub (pv 5) (pv 6) set_list))) (R_)) (C_ (Q_ (pt_cmpR (op_eqD hr.units) (pv 3) (K_) (nomark _)) (D_ (H_ (i:=2) OA.nd rfl (.inl rfl) (J_ op_cat (pe_slice sl_list (pv 2) (po_some (pv 4)) po_none) (pe_slice sl_list (pv 2) po_none (po_some (pv 4)))))) (R_)) (C_ (Q_ (pt_cmpR (op_eqD hr.units) (pv 3) (K_) (nomark _)) (D_ (ps_asg (J_ op_cat (pe_slice sl_list (pv 5) (po_some (pv 6)) (po_none)) (pe_slice sl_list (pv 5) (po_none) (po_some (pv 6)))) (pg_sub (pv 2) (pv 4) set_list))) (R_)) (C_ (Q_ (PW.pt (pw_and (pt_cmpR (op_eqD hr.units) (pv 3) (K_) (nomark _)) (pw_and (pt_cmpR op_lt (I_ call_len (by rfl) T.bZ (by decide +kernel) (A_ (pv 5) (B_))) (K_) (nomark _)) (pw_and1 (pt_cmpR op_gt (O_ ix_seq (pv 5) (pv 6) (λ_ _=>rfl)) (K_) (nomark _)))))) (D_ (ps_asg (J_ op_cat (J_ op_cat (pe_slice sl_list (pv 5) (po_none) (po_some (pv 6))) (M_ (A_ (K_) (A_ (J_ op_sub (O_ ix_seq (pv 5) (pv 6) (λ_ _=>rfl)) (K_)) (B_))))) (pe_slice sl_list (pv 5) (po_some (J_ op_add (pv 6) (K_))) (po_none))) (pg_sub (pv 2) (pv 4) set_list))) (R_)) (C_ (Q_ (PW.pt (pw_and (pt_cmpR (op_eqD hr.units) (pv 3) (K_) (nomark _)) (pw_and (pt_cmpR op_lt (I_ call_len (by rfl) T.bZ (by decide +kernel) (A_ (pv 2) (B_))) (K_) (nomark _)) (pw_and1 (pt_cmpR op_lt (dh (RB T) hr T.gO T.Mu T.Kx (A_ (pv 2) (B_))) (K_) (nomark _)))))) (D_ (ps_expr (pe_bm PySem.F.plainAttrs_list PySem.F.slot_list_append PySem.F.type_list_append mt_append (pv 2) (A_ (pe_callTy call_list_of (by rfl) T.tG (by decide +kernel) (A_ (O_ ix_seq (pv 2) (pv 4) (λ_ _=>rfl)) (B_))) B_)))) (R_)) (D_ (L_ (pe_ifExp (pt_cmpR (op_eqD hr.units) (pv 3) (K_) (nomark _)) (dh (pM T) hr T.rJ T.Wx T.RX (A_ (pv 0) (B_))) (pv 2))))))))))))),?_⟩
 kernel_rfl
theorem lO:FnOk P w K mg base CX0 2 T.ZU T.Bw ["_law_lengths", "_law_more"] (bx ZL):=by
 refine dY T.ZV VN rfl rfl λcdv A outer s H E hr=>⟨_,C_ (H_ (i:=2) VN.nd rfl (.inl rfl) (J_ op_add (J_ op_add (dh (RB T) hr T.gO T.Mu T.Kx (A_ (pv 0) (B_))) (dh (RB T) hr T.gO T.Mu T.Kx (A_ (pv 1) (B_)))) (K_))) (C_ (ps_for PassesOwn.never rfl (xy (by rfl) T.b_ (by rfl) T.pD (A_ (dh (pL T) hr T.rH T.exs T.RH (A_ (pv 0) (A_ (pv 2) (B_)))) (A_ (dh (pL T) hr T.rH T.exs T.RH (A_ (pv 1) (A_ (pv 2) (B_)))) B_))) (pg_tup rfl (F_ (E_ (i:=3) VN.nd rfl (.inl rfl)) (F_ (E_ (i:=4) VN.nd rfl (.inl rfl)) (G_)))) (D_ (Q_ (pt_cmpR (op_neD hr.units) (O_ ix_seq (pv 4) (K_) (λ_ _=>rfl)) (O_ ix_seq (pv 4) (K_) (λ_ _=>rfl)) (nomark _)) (D_ (L_ (pv 3))) (R_)))) (D_ (L_ (pe_non)))),?_⟩
 kernel_rfl
theorem kR:FnOk P w K mg base CX0 9 T.ezo T.Am ["_law_made", "_law_pail_here"] (bx (WM T.C)):=by
 refine dY T.V9 Z7 rfl rfl λcdv A outer s H E hr=>⟨_,C_ (H_ (i:=2) Z7.nd rfl (.inl rfl) (M_ (A_ (pe_meth0 (pv 0) T.af T.gU (gW T) (hr.mono (by decide)) T.Vp .nil pass0) (A_ (pe_meth0 (pv 0) T.af T.gn (gp T) (hr.mono (by decide)) T.Vu .nil pass0) (A_ (pe_meth0 (pv 0) T.af T.iO (iP T) (hr.mono (by decide)) T.VA .nil pass0) (A_ (pe_meth0 (pv 0) T.af T.kg (ki T) (hr.mono (by decide)) T.V1 .nil pass0) (A_ (pe_meth (pv 0) T.af T.cY (cZ T) (hr.mono (by decide)) T.QI .nil pass0 (A_ (K_) (B_))) (B_)))))))) (C_ (H_ (i:=2) Z7.nd rfl (.inl rfl) (J_ op_cat (pv 2) (M_ (A_ (pe_meth (pv 0) T.af T.dX (d8 T) (hr.mono (by decide)) T.QJ .nil pass0 (A_ (K_) (B_))) (A_ (pe_meth (pv 0) T.af T.cY (cZ T) (hr.mono (by decide)) T.QI .nil pass0 (A_ (K_) (B_))) (A_ (pe_meth (pv 0) T.af T.dX (d8 T) (hr.mono (by decide)) T.QJ .nil pass0 (A_ (K_) (B_))) (A_ (pe_meth (pv 0) T.af T.f_ (gb T) (hr.mono (by decide)) T.Ri .nil pass0 (A_ (K_) (A_ (K_) (B_)))) (A_ (pe_meth (pv 0) T.af T.f_ (gb T) (hr.mono (by decide)) T.Ri .nil pass0 (A_ (K_) (A_ (K_) (B_)))) (B_))))))))) (D_ (L_ (pv 2)))),?_⟩
 kernel_rfl
theorem xr:vX P w K mg base 12 T.WB T.BK ["_law_pail_here"] (bx (RG T.C)):=by
 have kA:vX P w K mg base 1 T.Xg T.yp ["_law_said", "_law_due"] (bx KH):=A9 T
 refine Ls T.fzm BI rfl rfl λcdv A outer s H hG hr=>⟨_,C_ (H_ (i:=1) BI.nd rfl (.inl rfl) (dh (pM T) hr T.rJ T.Wx T.RX (A_ (pv 0) (B_)))) (C_ (H_ (i:=2) BI.nd rfl (.inl rfl) (dh (lP T) hr T.nj T.Zn T.VE (A_ (pv 0) (A_ (pv 1) (B_))))) (C_ (ps_asg (N_ (A_ (pe_make T.jl (Zz T) (hr.mono (by decide)) (by rfl) T.fW T.OO .nil pass0 (A_ (dh (RU T 9) hr T.hU T.HR T.g_ (A_ (pv 1) (B_))) (B_))) (A_ (pe_make T.jl (Zz T) (hr.mono (by decide)) (by rfl) T.fW T.OO .nil pass0 (A_ (dh (RU T 9) hr T.hU T.HR T.g_ (A_ (pv 2) (B_))) (B_))) (B_)))) (pg_tup rfl (F_ (E_ (i:=3) BI.nd rfl (.inr rfl)) (F_ (E_ (i:=4) BI.nd rfl (.inr rfl)) (G_))))) (C_ (H_ (i:=5) BI.nd rfl (.inl rfl) (dh (lO T) hr T.nh T.ZV T.VQ (A_ (pv 1) (A_ (pv 2) (B_))))) (C_ (H_ (i:=6) BI.nd rfl (.inl rfl) (S_ op_isN (pv 5) (pe_non) (nomark _))) (C_ (ps_for PassesOwn.never rfl (pi_list (M_ (A_ (N_ (A_ (pv 3) (A_ (pv 4) (B_)))) (A_ (N_ (A_ (pv 4) (A_ (pv 3) (B_)))) (B_))))) (pg_tup rfl (F_ (E_ (i:=7) BI.nd rfl (.inl rfl)) (F_ (E_ (i:=8) BI.nd rfl (.inl rfl)) (G_)))) (D_ (Q_ (PW.pt (pw_or (pt_cmpR (op_neD hr.units) (S_ (Pj (Mg T) T.bB T.Cz pass0 (hr.mono (by decide)) T.bM.n) (pv 7) (pv 8) (nomark _)) (pv 6) (nomark _)) (pw_or1 (pt_cmpR (op_eqD hr.units) (S_ (Nu (Mg T) T.bB T.Cz pass0 (hr.mono (by decide)) T.bM.ne T.bM.i.c.hm T.bM.n) (pv 7) (pv 8) (nomark _)) (pv 6) (nomark _))))) (D_ (L_ (pe_bl))) (R_)))) (C_ (Q_ (PW.pt (pw_or (pt_not (pt_cmpR (Pj (Mg T) T.bB T.Cz pass0 (hr.mono (by decide)) T.bM.n) (pv 3) (pe_make T.jl (Zz T) (hr.mono (by decide)) (by rfl) T.fW T.OO .nil pass0 (A_ (dh (RU T 9) hr T.hU T.HR T.g_ (A_ (pv 1) (B_))) (B_))) (nomark _))) (pw_or (pt_not (pt_cmpR (Pj (Mg T) T.bB T.Cz pass0 (hr.mono (by decide)) T.bM.n) (pv 4) (pv 4) (nomark _))) (pw_or (pt_cmpR (Pj (Mg T) T.bB T.Cz pass0 (hr.mono (by decide)) T.bM.n) (pv 3) (pv 1) (nomark _)) (pw_or (pt_cmpR (Pj (Mg T) T.bB T.Cz pass0 (hr.mono (by decide)) T.bM.n) (pv 3) (K_) (nomark _)) (pw_or1 (pt_cmpR (Pj (Mg T) T.bB T.Cz pass0 (hr.mono (by decide)) T.bM.n) (pv 4) (pe_str) (nomark _)))))))) (D_ (L_ (pe_bl))) (R_)) (C_ (Q_ (pt_val (pv 6)) (C_ (Q_ (pt_not (pt_val (R5 kA hG (hr.mono (by decide)) (by rfl) T.kI T.O4.kp T.eqk (A_ (dh (kR T) hr T.mD T.V9 T.Rq (A_ (pv 3) (A_ (pv 0) (B_)))) (A_ (dh (kR T) hr T.mD T.V9 T.Rq (A_ (pv 4) (A_ (pv 0) (B_)))) (B_)))))) (D_ (L_ (pe_bl))) (R_)) (C_ (H_ (i:=9) BI.nd rfl (.inl rfl) (dh (GG T) hr T.dw T.BN T.Ay (A_ (pv 0) (A_ (J_ MH (K_) (K_)) (B_))))) (D_ (L_ (pe_and (R5 kA hG (hr.mono (by decide)) (by rfl) T.kI T.O4.kp T.eqk (A_ (pe_meth (pv 3) T.af T.bC (Me T) (hr.mono (by decide)) T.Gy .nil pass0 (A_ (pv 9) (B_))) (A_ (pe_meth (pv 4) T.af T.bC (Me T) (hr.mono (by decide)) T.Gy .nil pass0 (A_ (pv 9) (B_))) (B_)))) (pe_one (S_ (op_eqD hr.units) (pe_meth (pv 3) T.af T.nA (nG T) (hr.mono (by decide)) T.V3 .nil pass0 (A_ (pe_meth (pv 4) T.af T.bC (Me T) (hr.mono (by decide)) T.Gy .nil pass0 (A_ (pv 9) (B_))) (B_))) (pv 9) (nomark _)))))))) (R_)) (C_ (Q_ (pt_val (R5 kA hG (hr.mono (by decide)) (by rfl) T.kI T.O4.kp T.eqk (A_ (pe_meth (pv 3) T.af T.bC (Me T) (hr.mono (by decide)) T.Gy .nil pass0 (A_ (pv 5) (B_))) (A_ (pe_meth (pv 4) T.af T.bC (Me T) (hr.mono (by decide)) T.Gy .nil pass0 (A_ (pv 5) (B_))) (B_))))) (D_ (L_ (pe_bl))) (R_)) (D_ (L_ (I_ (cr_all rfl) (by rfl) T.u_ (by decide +kernel) (A_ (tV (aY 9) (cN) (SE.ag KH (cK (SE.meth (T.C "Calendar") 3 "date" (CB T.C) (cK (ak 9) (dK))) (cK (SE.meth (T.C "Calendar") 4 "date" (CB T.C) (cK (ak 9) (dK))) (dK)))) [("_law_spot",9)] rfl BI.nd (pi_range2 (by rfl) T.dz (A_ (I_ (call_max2 rfl) (by rfl) T.Ez (by decide +kernel) (A_ (K_) (A_ (J_ op_sub (pv 5) (K_)) (B_)))) (A_ (pv 5) (B_)))) (blkOk_by (N:=qT) (sc:=defScope WV) (by decide +kernel)) (λ_ _ _ _ _=>⟨_,E_ (i:=9) BI.nd rfl (.inl rfl),rfl⟩) (λ_ _ _ _ _=>⟨_,pts_nil,rfl⟩) (λ_ _ _ _ _=>⟨_,R5 kA hG (hr.mono (by decide)) (by rfl) T.kI T.O4.kp T.eqk (A_ (pe_meth (pv 3) T.af T.bC (Me T) (hr.mono (by decide)) T.Gy .nil pass0 (A_ (pv 9) (B_))) (A_ (pe_meth (pv 4) T.af T.bC (Me T) (hr.mono (by decide)) T.Gy .nil pass0 (A_ (pv 9) (B_))) (B_))),rfl⟩)) (B_))))))))))))),?_⟩
 kernel_rfl
def W9:SS:=SS.ag (SE.lst (eK (hxy (SE.ac 0) (uO (SE.abs (ak 2)) (Iw (SE.ac 10) (SE.ac 18)))) (eK (yP (yS (gZ (gZ (GV (ak 2) (SE.ac 48593)) (GV (ak 1) (SE.ac 7919))) (SE.ac 611953))) (gZ (Iw (SE.ac 10) (SE.ac 26)) (SE.ac 67))) (eK (SE.ac 0) (fK)))))
theorem A8 {sf:List Int->Int->ae}(hev:∀(ns:List Int) (r:Int) (x0:Slot),0<=r->r<=1000->W9.ev [x0,.dat (.int r),.dat (.int (uH ns r))] (0,0,0)=some (.ret (.list [.int (sf ns r).1,.int (sf ns r).2.1,.int (sf ns r).2.2],true) (0,0,0))):FnOk P w K mg base CX0 1 T.Xj T.Mx ["_law_script", "_law_place"] (Xq K sf):=by
 refine Nq T.gxh sq rfl rfl hev λcdv A outer s H E hr=>⟨_,C_ (H_ (i:=2) sq.nd rfl (.inl rfl) (pe_ifExp (pt_cmpR op_lt (pv 1) (I_ call_len (by rfl) T.bZ (by decide +kernel) (A_ (pv 0) (B_))) (nomark _)) (O_ ix_seq (pv 0) (pv 1) (λ_ _=>rfl)) (K_))) (D_ (L_ (M_ (A_ (I_ (call_max2 rfl) (by rfl) T.Ez (by decide +kernel) (A_ (K_) (A_ (J_ op_sub (I_ call_abs (by rfl) T.Uc (by decide +kernel) (A_ (pv 2) (B_))) (J_ MH (K_) (K_))) (B_)))) (A_ (J_ op_mod (pe_callTy call_int1 (by rfl) T.kQ (by decide +kernel) (A_ (J_ op_add (J_ op_add (J_ op_mul (pv 2) (K_)) (J_ op_mul (pv 1) (K_))) (K_)) (B_))) (J_ op_add (J_ MH (K_) (K_)) (K_))) (A_ (K_) (B_))))))),?_⟩
 kernel_rfl
theorem Nr {sf:List Int->Int->ae}(hev:∀(ns:List Int) (r:Int) (x0:Slot),0<=r->r<=1000->W9.ev [x0,.dat (.int r),.dat (.int (uH ns r))] (0,0,0)=some (.ret (.list [.int (sf ns r).1,.int (sf ns r).2.1,.int (sf ns r).2.2],true) (0,0,0))){nn:Nat}(hB:∀(ns:List Int) (r:Int),ns.length<=nn->0<=r->r<=1000->∃fl s',(RG T.C) [.bU] (sf ns r)=some ((.bool true,fl),s')):vX P w K mg base 13 T.Cg T.uF ["_law_script"] (zH K nn):=by
 have zX:vX P w K mg base 12 T.WB T.BK ["_law_pail_here"] (bx (RG T.C)):=xr T
 have Ca:FnOk P w K mg base CX0 1 T.Xj T.Mx ["_law_script", "_law_place"] (Xq K sf):=A8 T hev
 refine Np (n:=4) T.JU Fl rfl rfl (by decide) hB λcdv A outer s H hG hr=>⟨_,C_ (ps_for PassesOwn.never rfl (pi_range1 (by rfl) T.dz (A_ (I_ (call_max2 rfl) (by rfl) T.Ez (by decide +kernel) (A_ (K_) (A_ (I_ (call_min2 rfl) (by rfl) T.vc (by decide +kernel) (A_ (K_) (A_ (I_ call_len (by rfl) T.bZ (by decide +kernel) (A_ (pv 0) (B_))) (B_)))) (B_)))) (B_))) (E_ (i:=1) Fl.nd rfl (.inl rfl)) (D_ (Q_ (pt_not (pt_val (R5 zX hG (hr.mono (by decide)) (by rfl) T.AI T.fzm.kp T.WR (A_ (dh Ca hr T.DG T.gxh T.CD (A_ (pv 0) (A_ (pv 1) (B_)))) (B_))))) (D_ (L_ (pe_bl))) (R_)))) (D_ (L_ (pe_bl))),?_⟩
 kernel_rfl
end
end B9
namespace Pu
variable [aO]
open PySem L2 Enc
def vQ (aT:cU):Bool:=
 (decide (aT.2≠([]:List Int)))
def tR (aT:cU):Bool:=
 (decide (((vQ aT)=true)/\((Kc5 (Kaj (λ(x1:Int)=>(decide ((0:Int)<=x1))) (aT.1++aT.2)) id)=true)))
def sV (aT:cU):Prop:=
 (((vQ aT)=true)->(aT.1.length+aT.2.length<=100000/\(aT.1++aT.2).length<=100000))
def i_ (aT:cU):Prop:=
 sV aT/\((¬((tR aT)=true))->False)
end Pu
namespace Pu
variable [aO]
open PySem L2 Enc
def Gx (aT:cU)(aR:Int):Int:=
 (Zb (T3.mk aT.1 aT.2 (0:Int)) aR)
def Q6 (aT:cU)(aR:Int):Prop:=
 fC (T3.mk aT.1 aT.2 (0:Int)) aR
def OL (a_:cU)(lC:cU):Int×Int:=
 ((max (a_.1.length:Int) (lC.1.length:Int)),(OM (a_.2.length:Int) (lC.2.length:Int)))
def Zd (a_:cU)(lC:cU):Prop:=
 QG (a_.2.length:Int) (lC.2.length:Int)
def OR (cC:cU)(cB:cU)(st1:Int×(List Int))(x1:Int):Int×(List Int):=
 lt (st1.1+(Gx cC x1)) λW6=>
 lt (st1.2++[(min W6 (Gx cB x1))]) λfN=>
 lt (W6-(au fN (-(1:Int)))) λFU=>
 (FU,fN)
def eqq (cC:cU)(cB:cU)(st1:Int×(List Int))(x1:Int):Prop:=
 Q6 cC x1/\(bT (st1.1+(Gx cC x1)) λW6=>
 Q6 cB x1/\st1.2.length<100000/\(bT (st1.2++[(min W6 (Gx cB x1))]) λfN=>
 (-(fN.length:Int)<=(-(1:Int))/\(-(1:Int))<(fN.length:Int))))
def wK (cC:cU)(cB:cU)(aW:List Int)(Av:Int):(List Int)×Int:=
 lt (([]:List Int)) λcf=>
 lt (Ka2 (OR cC cB) (Av,cf) aW) λp1=>
 (p1.2,p1.1)
def GH (cC:cU)(cB:cU)(aW:List Int)(Av:Int):Prop:=
 (bT (([]:List Int)) λcf=>
 fg (OR cC cB) (eqq cC cB) aW (Av,cf))
def Mq (cC:cU)(cB:cU):Int:=
 lt ((OM (cC.2.length:Int) (cB.2.length:Int))) λcA=>
 lt (((KbW cC.2)*(cA / (cC.2.length:Int)))) λKn=>
 (Kn-((KbW cB.2)*(cA / (cB.2.length:Int))))
def Wj (cC:cU)(cB:cU):Prop:=
 QG (cC.2.length:Int) (cB.2.length:Int)/\(bT ((OM (cC.2.length:Int) (cB.2.length:Int))) λcA=>
 (0<(cC.2.length:Int)/\(cC.2.length:Int)<1000000000000000000000000000000000000000000000000000000000000)/\(Ka5 (KbW cC.2)<18446744073709551616∨Ka5 (cA / (cC.2.length:Int))<18446744073709551616)/\(bT (((KbW cC.2)*(cA / (cC.2.length:Int)))) λKn=>
 (0<(cB.2.length:Int)/\(cB.2.length:Int)<1000000000000000000000000000000000000000000000000000000000000)/\(Ka5 (KbW cB.2)<18446744073709551616∨Ka5 (cA / (cB.2.length:Int))<18446744073709551616)))
def Hz (cC:cU)(cB:cU)(aW:List Int)(st1:(List Int)×Int×(List Int)×Int):Prop:=st1.2.2.2≠st1.2.1
instance (cC:cU)(cB:cU)(aW:List Int):DecidablePred (Hz cC cB aW):=λst=>by unfold Hz;infer_instance
def Hy (cC:cU)(cB:cU)(aW:List Int)(st1:(List Int)×Int×(List Int)×Int):(List Int)×Int×(List Int)×Int:=
 lt (st1.1++st1.2.2.1) λfN=>
 lt (st1.2.2.2) λAv=>
 lt ((wK cC cB aW Av)) λp4=>
 (fN,Av,p4.1,p4.2)
def exa (cC:cU)(cB:cU)(aW:List Int)(st1:(List Int)×Int×(List Int)×Int):Prop:=True
def Wo (cC:cU)(cB:cU)(aW:List Int)(st1:(List Int)×Int×(List Int)×Int):Prop:=
 st1.1.length+st1.2.2.1.length<=100000/\(bT (st1.1++st1.2.2.1) λfN=>
 (bT (st1.2.2.2) λAv=>
 GH cC cB aW Av))
def p_ (cC:cU)(cB:cU):cU:=
 lt ((OL cC cB)) λp1=>
 lt ((wK cC cB (rng 0 p1.1) (0:Int))) λp2=>
 lt ((rng p1.1 (p1.1+p1.2))) λaW=>
 if (0:Int)<(Mq cC cB) then
 lt (p2.1++(wK cC cB aW p2.2).1) λcf=>
 (GB (cf,(Kaj (λ(x1:Int)=>(Gx cB x1)) aW)))
 else
 lt ((wK cC cB aW p2.2)) λp3=>
 lt (qA (Hz cC cB aW) (Hy cC cB aW) fuel (p2.1,p2.2,p3.1,p3.2)) λp5=>
 (GB (p5.1,p5.2.2.1))
def oE (cC:cU)(cB:cU):Prop:=
 Zd cC cB/\(bT ((OL cC cB)) λp1=>
 (-100000<=p1.1/\p1.1<=100000)/\GH cC cB (rng 0 p1.1) (0:Int)/\(bT ((wK cC cB (rng 0 p1.1) (0:Int))) λp2=>
 ((-1000000<=p1.1/\p1.1<=1000000)/\(-1000000<=(p1.1+p1.2)/\(p1.1+p1.2)<=1000000))/\(bT ((rng p1.1 (p1.1+p1.2))) λaW=>
 Wj cC cB/\(((0:Int)<(Mq cC cB))->(GH cC cB aW p2.2/\p2.1.length+((wK cC cB aW p2.2).1).length<=100000/\(bT (p2.1++(wK cC cB aW p2.2).1) λcf=>
 (∀x1∈aW,Q6 cB x1)/\aW.length<=100000/\yh (cf,(Kaj (λ(x1:Int)=>(Gx cB x1)) aW)))))/\(¬((0:Int)<(Mq cC cB))->(GH cC cB aW p2.2/\(bT ((wK cC cB aW p2.2)) λp3=>
 wL (Hz cC cB aW) (Hy cC cB aW) (exa cC cB aW) (Wo cC cB aW) fuel (p2.1,p2.2,p3.1,p3.2)/\(bT (qA (Hz cC cB aW) (Hy cC cB aW) fuel (p2.1,p2.2,p3.1,p3.2)) λp5=>
 yh (p5.1,p5.2.2.1))))))))
def nO  (st1:Unit)(x1:cU):Unit:=
 ()
def m_  (st1:Unit)(x1:cU):Prop:=
 i_ x1
def kH (UI:List (cU)):Prop:=
 fg (nO) (m_) UI ()
def OH (cC:cU)(cB:cU)(st1:Int×Int×Int)(x1:Int):Int×Int×Int:=
 lt ((wK cC cB [x1] st1.1).2) λAv=>
 if st1.2.1<Av then
 lt (Av) λAL=>
 lt (x1) λcf=>
 (Av,AL,cf)
 else
 (Av,st1.2.1,st1.2.2)
def gH (cC:cU)(cB:cU)(st1:Int×Int×Int)(x1:Int):Prop:=
 GH cC cB [x1] st1.1
def ZI (cC:cU)(cB:cU):Option (Int×Int):=
 if (0:Int)<(Mq cC cB) then
 (none:Option (Int×Int))
 else
 lt ((OL cC cB)) λp1=>
 lt ((T3.mk (0:Int) (0:Int) (0:Int))) λp2=>
 lt (Ka2 (OH cC cB) (p2.x,p2.y,p2.z) (rng 0 (p1.1+((2:Int)*p1.2)))) λp3=>
 (some (p3.2.1,p3.2.2))
def jM (cC:cU)(cB:cU):Prop:=
 kH [cC,cB]/\Wj cC cB/\(¬((0:Int)<(Mq cC cB))->(Zd cC cB/\(bT ((OL cC cB)) λp1=>
 (bT ((T3.mk (0:Int) (0:Int) (0:Int))) λp2=>
 (-1000000<=(p1.1+((2:Int)*p1.2))/\(p1.1+((2:Int)*p1.2))<=1000000)/\fg (OH cC cB) (gH cC cB) (rng 0 (p1.1+((2:Int)*p1.2))) (p2.x,p2.y,p2.z)))))
end Pu
namespace Pu
open PySem L2 Enc
variable [aO]
def l_ (aU:lg)(we:Int)(st1:Int×Int×Int):Prop:=(st1.1<we)/\(st1.2.2≠st1.2.1)
instance (aU:lg)(we:Int):DecidablePred (l_ aU we):=λst=>by unfold l_;infer_instance
def jL (aU:lg)(aR:Int)(st1:Int×Int):Prop:=((st1.2-aR) % (aU.y.length:Int))≠(0:Int)
instance (aU:lg)(aR:Int):DecidablePred (jL aU aR):=λst=>by unfold jL;infer_instance
def eL (aU:lg)(Ep:Int)(st1:Int×Int):Prop:=(Zb aU st1.1)≠st1.1
instance (aU:lg)(Ep:Int):DecidablePred (eL aU Ep):=λst=>by unfold eL;infer_instance
end Pu
namespace La
/-- from F on,p places WZ on it is g more -/
def bq (f:Nat->Int)(F p:Nat)(g:Int):Prop:=∀d,F<=d->f (d+p)=f d+g
section
variable {f:Nat->Int}{F F' p q:Nat}{g h:Int}
theorem bq.mono (a:bq f F p g)(e:F<=F'):bq f F' p g:=λd hd=>a d (Kau e hd)
theorem bq.zero:bq f F 0 0:=λd _=>by simp
theorem bq.add (a:bq f F p g)(b:bq f F q h):bq f F (p+q) (g+h):=λd hd=>by
 rw [<-Kcd,b (d+p) (by omega),a d hd];omega
theorem bq.mul (a:bq f F p g):∀k:Nat,bq f F (k*p) (k*g)
 |0=>by simpa using bq.zero
 |k+1=>by
  have:=(a.mul k).add a
  rw [Ka0]
  have e:((k+1:Nat):Int)*g=(k:Int)*g+g:=by rw [Kdz,KdF,KdG]
  rw [e];exact this
theorem bq.sub (a:bq f F p g)(b:bq f F q h)(hq:q<=p):bq f F (p-q) (g-h):=λd hd=>by
 have h1:=a d hd
 have h2:=b (d+(p-q)) (by omega)
 rw [show d+(p-q)+q=d+p by omega,h1] at h2
 omega
theorem bq.mod (a:bq f F p g)(b:bq f F q h):∃g',bq f F (p % q) g':=by
 have:=a.sub (b.mul (p / q)) (Nat.div_mul_le_self p q)
 refine⟨g-(p / q:Nat)*h,?_⟩
 have e:p-p / q*q=p % q:=by
  have:=Nat.div_add_mod p q
  rw [KaV] at this
  omega
 rw [<-e];exact this
theorem bq.gcd:∀{p q:Nat} {g h:Int},bq f F p g->bq f F q h->∃g',bq f F (Kby p q) g':=by
 intro p q
 induction p,q using Kby.induction with
 |H0 q=>intro g h a b;exact⟨h,by rw [Kdp];exact b⟩
 |H1 p q hp ih=>
  intro g h a b
  obtain⟨g',c⟩:=b.mod a
  obtain⟨g2,c2⟩:=ih c a
  exact⟨g2,by rw [KdH];exact c2⟩
/-- bh gain is told by bh length -/
theorem bq.gain (a:bq f F p g)(b:bq f F' p h):g=h:=by
 have h1:=a (max F F') (Nat.le_max_left _ _)
 have h2:=b (max F F') (KdA _ _)
 omega
/-- what holds far off holds from where it comes again on -/
theorem bq.down (a:bq f F p g)(hp:0<p)(b:bq f F' q h):bq f F q h:=λd hd=>by
 have e1:=(a.mul F') d hd
 have e2:=(a.mul F') (d+q) (by omega)
 have e3:=b (d+F'*p) (by
  have:=Nat.le_mul_of_pos_right F' hp
  omega)
 rw [show d+q+F'*p=d+F'*p+q by omega,e3,e1] at e2
 omega
/-- bh least way to tell f -/
structure Canon (f:Nat->Int)(F L:Nat)(g:Int):Prop where
 pos:0<L
 per:bq f F L g
 len:∀F' p g',0<p->bq f F' p g'->L<=p
 YN:∀F',bq f F' L g->F<=F'
theorem Canon.uniq {F L F' L':Nat}{g g':Int}(a:Canon f F L g)(b:Canon f F' L' g'):F=F'/\L=L'/\g=g':=by
 have e:L=L':=Kcx (a.len _ _ _ b.pos b.per) (b.len _ _ _ a.pos a.per)
 subst e
 have e2:=a.per.gain b.per
 subst e2
 exact⟨Kcx (a.YN _ b.per) (b.YN _ a.per),rfl,rfl⟩
theorem Canon.dvd {L:Nat}(a:Canon f F L g)(hq:0<q)(b:bq f F' q h):L∣q:=by
 have b':=a.per.down a.pos b
 obtain⟨g',c⟩:=a.per.gcd b'
 have hp:0<Kby L q:=KbQ _ a.pos
 have h1:=a.len _ _ _ hp c
 have h2:=Nat.gcd_le_left q a.pos
 have e:Kby L q=L:=Kcx h2 h1
 rw [<-e];exact Kb2 L q
end
/-- a length eA no AB part makes Jz is bh least -/
theorem En {f:Nat->Int}{F n L:Nat}{g:Int}{ps:List Nat}(hL:0<L)(hn:0<n)(hd:L∣n)(hp:bq f F L g)(two:∀p∈ps,2<=p)(all:∀q,2<=q->q∣n->∃p∈ps,p∣q)(no:∀p∈ps,p∣L->¬∃h,bq f F (L / p) h):∀F' p g',0<p->bq f F' p g'->L<=p:=by
 intro F' q h hq b
 have b':=hp.down hL b
 obtain⟨g',c⟩:=hp.gcd b'
 have hm:0<Kby L q:=KbQ _ hL
 have dm:Kby L q∣L:=Kcp L q
 have dq:Kby L q∣q:=Kb2 L q
 generalize Kby L q=m at c hm dm dq
 by_cases e:m=L
 ·exact KaH hq (e ▸ dq)
 ·exfalso
  obtain⟨k,hk⟩:=dm
  have hk2:2<=k:=by
   have:k≠0:=by intro z;rw [z] at hk;omega
   have:k≠1:=by intro z;rw [z,Nat.mul_one] at hk;exact e hk.symm
   omega
  have kn:k∣n:=KaQ ⟨m,by rw [KaV];exact hk⟩ hd
  obtain⟨p,hps,j,hj⟩:=all k hk2 kn
  have p2:=two p hps
  have ek:L=p*(m*j):=by rw [hk,hj,Nat.mul_left_comm]
  refine no p hps ⟨_,ek⟩ ?_
  have e3:L / p=j*m:=by rw [ek,KaF _ (by omega),KaV]
  exact⟨_,by rw [e3];exact c.mul j⟩
end La
namespace La
/-- a ladder -/
structure cD where
 early:List Int
 turn:List Int
 rise:Int
def cD.at (l:cD)(d:Nat):Int:=if d<l.early.length then l.early.getD d 0 else l.turn.getD ((d-l.early.length) % l.turn.length) 0+l.rise*(((d-l.early.length) / l.turn.length:Nat):Int)
theorem cD.Cv {l:cD}{d:Nat}(h:d<l.early.length):l.at d=l.early.getD d 0:=if_pos h
theorem cD.nS {l:cD}(i:Nat):l.at (l.early.length+i)=l.turn.getD (i % l.turn.length) 0+l.rise*((i / l.turn.length:Nat):Int):=by
 unfold cD.at
 rw [if_neg (by omega),Kbz]
theorem cD.per (l:cD)(h:l.turn≠[]):bq l.at l.early.length l.turn.length l.rise:=λd hd=>by
 have hn:0<l.turn.length:=Kar.mpr h
 obtain⟨i,rfl⟩:∃i,d=l.early.length+i:=⟨d-l.early.length,by omega⟩
 rw [Kcd,nS,nS,Kb3,Nat.add_div_right _ hn]
 have:((i / l.turn.length+1:Nat):Int)=((i / l.turn.length:Nat):Int)+1:=by omega
 rw [this,Int.mul_add];omega
/-- through bh first two rounds -/
theorem cD.wC {l:cD}{i:Nat}(h:i<2*l.turn.length):l.at (l.early.length+i)=if i<l.turn.length then l.turn.getD i 0 else l.turn.getD (i-l.turn.length) 0+l.rise:=by
 rw [nS]
 split
 ·rename_i h1
  rw [Kbm h1,KdB h1];simp
 ·rename_i h1
  have e:i / l.turn.length=1:=by
   rw [Nat.div_eq_iff (by omega)];omega
  have e2:i % l.turn.length=i-l.turn.length:=by
   rw [Nat.mod_eq_sub_mod (by omega),Kbm (by omega)]
  rw [e,e2];simp
theorem getD_eq {α:Type}{xs:List α}{d:α}{i:Nat}(h:i<xs.length):xs.getD i d=xs[i]:=by
 simp [KcK,h]
theorem zT {xs ys:List Int}(h:xs.length=ys.length)(p:Int->Int->Bool):(xs.zip ys).all (λq=>p q.1 q.2)=true↔∀r,r<xs.length->p (xs.getD r 0) (ys.getD r 0)=true:=by
 induction xs generalizing ys with
 |nil=>simp
 |cons x xs ih=>
  cases ys with
  |nil=>simp at h
  |cons y ys=>
   simp only [Kah,Nat.add_right_cancel_iff] at h
   simp only [KcF,Ka7,KaU,ih h]
   constructor
   ·rintro⟨h1,h2⟩ r hr
    cases r with
    |zero=>exact h1
    |succ r=>exact h2 r (by simpa using hr)
   ·intro z
    exact⟨z 0 (by simp),λr hr=>z (r+1) (by simpa using hr)⟩
/-- what bh program asks of a Jz round -/
def h_ (turn:List Int)(rise:Int)(k:Nat):List Int:=turn.drop k++(turn.take k).map λx=>x+rise
def sS (turn:List Int)(rise:Int)(k:Nat):Bool:=if rise % ((turn.length / k:Nat):Int)=0 then (turn.zip (h_ turn rise k)).all λq=>decide (q.1+rise / ((turn.length / k:Nat):Int)=q.2) else false
theorem fqq {turn:List Int}{rise:Int}{k:Nat}:(h_ turn rise k).length=turn.length:=by
 unfold h_
 simp only [Kam,KaW,Kaf,KaX]
 omega
theorem uX {l:cD}{k r:Nat}(hk:k<=l.turn.length)(hr:r<l.turn.length):(h_ l.turn l.rise k).getD r 0=l.at (l.early.length+r+k):=by
 rw [Kcd,cD.wC (by omega)]
 have hl:r<(l.turn.drop k++(l.turn.take k).map λx=>x+l.rise).length:=by
  have:=fqq (turn:=l.turn) (rise:=l.rise) (k:=k)
  unfold h_ at this
  omega
 unfold h_
 rw [getD_eq hl]
 by_cases h:r+k<l.turn.length
 ·rw [if_pos h,getD_eq h,List.getElem_append_left (by rw [KaW];omega),List.getElem_drop]
  congr 1;omega
 ·rw [if_neg h,getD_eq (show r+k-l.turn.length<l.turn.length by omega),List.getElem_append_right (by rw [KaW];omega),KbU,KcL]
  congr 2
  rw [KaW];omega
theorem qZ {l:cD}{k:Nat}(h:l.turn≠[])(k0:0<k)(hd:k∣l.turn.length):sS l.turn l.rise k=true↔∃g,bq l.at l.early.length k g:=by
 have hn:0<l.turn.length:=Kar.mpr h
 have hk:k<=l.turn.length:=KaH hn hd
 obtain⟨t,ht⟩:=hd
 have et:l.turn.length / k=t:=by rw [ht];exact KaF _ k0
 have t0:0<t:=by
  rcases KbX t with z|z
  ·rw [z] at ht;omega
  ·exact z
 have per:=l.per h
 unfold sS
 rw [et]
 constructor
 ·intro z
  split at z
  ·rename_i hr
   have hp:bq l.at l.early.length k (l.rise / (t:Int)):=λd hd=>by
    have z':=(zT (by rw [fqq]) (λa b=>decide (a+l.rise / (t:Int)=b))).mp z
    have key:∀r,r<l.turn.length->l.at (l.early.length+r+k)=l.at (l.early.length+r)+l.rise / (t:Int):=λr hr=>by
     have:=of_decide_eq_true (z' r hr)
     rw [uX hk hr] at this
     rw [<-this,cD.wC (by omega),if_pos hr]
    obtain⟨i,rfl⟩:∃i,d=l.early.length+i:=⟨d-l.early.length,by omega⟩
    have h1:=per.mul (i / l.turn.length) (l.early.length+i % l.turn.length) (by omega)
    have h2:=per.mul (i / l.turn.length) (l.early.length+i % l.turn.length+k) (by omega)
    have h3:=key (i % l.turn.length) (KaS _ hn)
    have ei:i % l.turn.length+i / l.turn.length*l.turn.length=i:=by
     have:=KbC i l.turn.length
     rw [KaV] at this;exact this
    rw [show l.early.length+i % l.turn.length+i / l.turn.length*l.turn.length=l.early.length+i by omega] at h1
    rw [show l.early.length+i % l.turn.length+k+i / l.turn.length*l.turn.length=l.early.length+i+k by omega] at h2
    omega
   exact⟨_,hp⟩
  ·cases z
 ·rintro⟨g,hp⟩
  have h1:=hp.mul t
  rw [show t*k=l.turn.length by rw [ht,KaV]] at h1
  have e1:=per.gain h1
  have e2:l.rise % (t:Int)=0:=by rw [e1];exact Int.mul_emod_right _ _
  have e3:l.rise / (t:Int)=g:=by rw [e1];exact KcM _ (by omega)
  rw [if_pos e2,e3]
  refine (zT (by rw [fqq]) (λa b=>decide (a+g=b))).mpr λr hr=>?_
  rw [uX hk hr,hp _ (by omega),cD.wC (by omega),if_pos hr]
  exact decide_eq_true rfl
end La
namespace Pu
open PySem L2 Enc
theorem KD (xs:List Int)(k:Nat):au xs (k:Int)=xs.getD k 0:=by
 unfold au L2.atI L2.ixN
 rw [if_pos (by omega:(0:Int)<=(k:Int))]
 by_cases h:k<xs.length
 ·rw [if_pos (by omega:(k:Int)<(xs.length:Int))]
  simp [KcK]
  try rfl
 ·rw [if_neg (by omega:¬(k:Int)<(xs.length:Int))]
  simp [KcK,KbI (show xs.length<=k by omega)]
  try rfl
theorem Ik {xs:List Int}{i:Int}(h:0<=i):au xs i=xs.getD i.toNat 0:=by
 rw [<-KD,KbD h]
theorem HX {α:Type}(xs:List α)(k:Nat):cut xs none (some (k:Int))=xs.take k:=by
 unfold cut
 rw [show HT.sIx xs.length 0 none=0 from rfl,HT.sIx_nat,Kc7,Nat.sub_zero]
 by_cases h:k<=xs.length
 ·rw [KbM h]
 ·rw [Kb6 (by omega),KbG (Kak _),KbG (by omega)]
theorem O0 {α:Type}(xs:List α)(k:Nat):cut xs (some (k:Int)) none=xs.drop k:=by
 unfold cut
 rw [show HT.sIx xs.length xs.length none=xs.length from rfl,HT.sIx_nat]
 by_cases h:k<=xs.length
 ·rw [KbM h]
  exact KbG (by rw [KaW];omega)
 ·rw [Kb6 (by omega),KbH,KcZ (by omega),Kdg]
theorem HG {α:Type}(xs:List α)(a b:Nat):cut xs (some (a:Int)) (some (b:Int))=(xs.drop a).take (b-a):=by
 unfold cut
 rw [HT.sIx_nat,HT.sIx_nat]
 by_cases h:a<=xs.length
 ·rw [KbM h]
  by_cases h2:b<=xs.length
  ·rw [KbM h2]
  ·rw [Kb6 (by omega),KbG (by rw [KaW];omega),KbG (by rw [KaW];omega)]
 ·rw [Kb6 (show xs.length<=a by omega),KbH,KcZ (show xs.length<=a by omega),Kdg,Kdg]
theorem Xz (n:Nat):rng 0 (n:Int)=(Kac n).map λ(k:Nat)=>(k:Int):=by
 unfold rng
 rw [Kdu,KaK]
 exact Kas λk _=>by omega
theorem HH (lo hi:Int):(rng lo hi).length=(hi-lo).toNat:=by
 unfold rng;simp
theorem KA {σ:Type}{c:σ->Prop}[DecidablePred c]{f:σ->σ}{dc d:σ->Prop}(Inv:σ->Prop)(μ:σ->Nat)(h:∀st,Inv st->dc st/\(c st->d st/\Inv (f st)/\μ (f st)<μ st)):
  ∀(n:Nat) (st:σ),Inv st->μ st<n->wL c f dc d n st/\Inv (qA c f n st)/\¬c (qA c f n st)
 |0,st,_,hm=>by omega
 |n+1,st,hi,hm=>by
  obtain⟨h1,h2⟩:=h st hi
  unfold wL qA
  by_cases p:c st
  ·obtain⟨h3,h4,h5⟩:=h2 p
   obtain⟨i1,i2,i3⟩:=KA Inv μ h n (f st) h4 (by omega)
   rw [if_pos p]
   exact⟨⟨h1,λ_=>⟨h3,i1⟩⟩,i2,i3⟩
  ·rw [if_neg p]
   exact⟨⟨h1,λq=>absurd q p⟩,hi,p⟩
theorem Mp {a b:Nat}:(b:Int) % (a:Int)=0↔a∣b:=by
 rw [<-KaI]
 constructor
 ·intro h
  exact KbV (by omega)
 ·intro h
  have:=Kch h
  omega
/-- q has no part in fs -/
def LF (fs:List Int)(q:Nat):Prop:=∀p∈fs,¬(p∣(q:Int))
/-- what is left of n behind bh parts fs,with no part below p -/
structure LH (n:Nat)(fs:List Int)(l p:Nat):Prop where
 n1:1<=n
 l1:1<=l
 p2:2<=p
 ln:l∣n
 two:∀q∈fs,2<=q
 A:∀q:Nat,q∣n->LF fs q->q∣l
 B:∀q:Nat,2<=q->q<p->¬q∣l
 len:fs.length+2<=p
theorem vp (n:Nat)(hn:n<1000000)(st:List Int×Int×Int)(l p:Nat)(hp:st.2.2=(p:Int))(p2:2<=p)(hl:1<=l)(hln:l<=n):
  wL (Gv st) (Kf st) (OG st) (Oz st) fuel (l:Int)/\∃l':Nat,qA (Gv st) (Kf st) fuel (l:Int)=(l':Int)/\1<=l'/\l'∣l/\¬p∣l'/\∀q:Nat,KdI q p->q∣l->q∣l':=by
 have key:=KA (c:=Gv st) (f:=Kf st) (dc:=OG st) (d:=Oz st)
  (λx=>∃l':Nat,x=(l':Int)/\1<=l'/\l'∣l/\∀q:Nat,KdI q p->q∣l->q∣l') (λx=>x.toNat) (λx hx=>by
   obtain⟨l',rfl,h1,h2,h3⟩:=hx
   unfold OG Oz Gv Kf lt
   rw [hp]
   have hle:p<=1000000∨1000000<p:=by omega
   refine⟨by omega,λhc=>?_⟩
   have hd:p∣l':=Mp.mp hc
   have e:(l':Int) / (p:Int)=((l' / p:Nat):Int):=by rw [KdC]
   obtain⟨k,hk⟩:=hd
   have hk1:l' / p=k:=by rw [hk];exact KaF _ (by omega)
   have k0:1<=k:=by
    rcases KbX k with z|z
    ·rw [z] at hk;omega
    ·exact z
   have hpl:p<=l':=KaH h1 ⟨k,hk⟩
   have hll:l'<=l:=KaH hl h2
   refine⟨⟨by omega,?_⟩,⟨k,by rw [e,hk1],k0,KaQ ⟨p,by rw [hk,KaV]⟩ h2,λq hq hql=>?_⟩,?_⟩
   ·omega
   ·have:=h3 q hq hql
    rw [hk] at this
    exact hq.dvd_of_dvd_mul_left this
   ·rw [e,hk1]
    simp only [KaK]
    have:2*k<=p*k:=KaZ k p2
    omega) fuel (l:Int) ⟨l,rfl,hl,Kbt _,λq _ h=>h⟩ (by unfold fuel;simp;omega)
 obtain⟨k1,⟨l',e,h1,h2,h3⟩,k3⟩:=key
 refine⟨k1,l',e,h1,h2,λhd=>k3 ?_,h3⟩
 rw [e]
 unfold Gv
 rw [hp]
 exact Mp.mpr hd
theorem xA (n:Nat)(hn:n<99000)(fs:List Int)(l p:Nat)(h:LH n fs l p)(hl:1<l):
  Ov (fs,(l:Int),(p:Int))/\∃fs' l',Ka (fs,(l:Int),(p:Int))=(fs',((l':Nat):Int),((p+1:Nat):Int))/\LH n fs' l' (p+1):=by
 have hln:l<=n:=KaH h.n1 h.ln
 have hpl:p<=l:=by
  rcases KaA l p with z|z
  ·exact absurd (Kbt l) (h.B l (by omega) z)
  ·exact z
 have hlen:=h.len
 have p2:=h.p2
 obtain⟨i1,l',i2,i3,i4,i5,i6⟩:=vp n (by omega) (fs,(l:Int),(p:Int)) l p rfl h.p2 h.l1 hln
 constructor
 ·unfold Ov bT
  exact⟨by show (0:Int)<(p:Int);omega,λ_=>⟨by show fs.length<100000;omega,i1⟩⟩
 ·unfold Ka lt
  by_cases hd:p∣l
  ·have pr:∀q:Nat,¬p∣q->KdI q p:=λq hq=>by
    have g1:Kby q p∣p:=Kb2 q p
    have g2:Kby q p∣q:=Kcp q p
    have g3:Kby q p<=p:=KaH (by omega) g1
    rcases KaA (Kby q p) 2 with z|z
    ·have:0<Kby q p:=Nat.gcd_pos_of_pos_right _ (by omega)
     exact (by omega:Kby q p=1)
    ·rcases KaA (Kby q p) p with y|y
     ·exact absurd (KaQ g1 hd) (h.B _ z y)
     ·have e:Kby q p=p:=by omega
      rw [e] at g2
      exact absurd g2 hq
   refine⟨fs++[(p:Int)],l',?_,⟨h.n1,i3,by omega,KaQ i4 h.ln,λq hq=>?_,λq hq hno=>?_,λq hq1 hq2=>?_,?_⟩⟩
   ·simp only [if_pos (Mp.mpr hd)]
    rw [i2]
    congr 1
   ·rcases Kat.mp hq with z|z
    ·exact h.two q z
    ·have:q=(p:Int):=by simpa using z
     omega
   ·have hp:¬p∣q:=λz=>hno (p:Int) (Kax _ (by simp)) (KcT.mpr z)
    exact i6 q (pr q hp) (h.A q hq λr hr=>hno r (Kab _ hr))
   ·intro hql
    rcases KaA q p with z|z
    ·exact h.B q hq1 z (KaQ hql i4)
    ·have:q=p:=by omega
     exact i5 (this ▸ hql)
   ·simp only [Kam,Kah,KbE];omega
  ·refine⟨fs,l,?_,⟨h.n1,h.l1,by omega,h.ln,h.two,h.A,λq hq1 hq2=>?_,by omega⟩⟩
   ·simp only [if_neg (λz=>hd (Mp.mp z))]
    congr 1
   ·rcases KaA q p with z|z
    ·exact h.B q hq1 z
    ·have:q=p:=by omega
     exact this ▸ hd
theorem lR (n:Nat)(h1:1<=n)(hn:n<99000):CM (n:Int)/\(∀p∈Hw (n:Int),2<=p)/\∀q:Nat,2<=q->q∣n->∃p∈Hw (n:Int),p∣(q:Int):=by
 have key:=KA (c:=J') (f:=Ka) (dc:=ZT) (d:=Ov)
  (λst=>∃fs l p,st=(fs,((l:Nat):Int),((p:Nat):Int))/\LH n fs l p) (λst=>n+2-st.2.2.toNat) (λst hst=>by
   obtain⟨fs,l,p,rfl,h⟩:=hst
   refine⟨trivial,λhc=>?_⟩
   have hl:1<l:=by
    have hc:(1:Int)<(l:Int):=hc
    omega
   obtain⟨h2,fs',l',e,h3⟩:=xA n hn fs l p h hl
   refine⟨h2,⟨fs',l',p+1,e,h3⟩,?_⟩
   rw [e]
   have hln:l<=n:=KaH h.n1 h.ln
   have hpl:p<=l:=by
    rcases KaA l p with z|z
    ·exact absurd (Kbt l) (h.B l (by omega) z)
    ·exact z
   simp only [KaK]
   omega) fuel ([],(n:Int),2) ⟨[],n,2,rfl,h1,h1,by omega,Kbt _,(by simp),λq hq _=>hq,λq _ _=>by omega,(by simp)⟩ (by unfold fuel;show n+2-2<1000000;omega)
 obtain⟨k1,⟨fs,l,p,e,h⟩,k3⟩:=key
 have hl:l=1:=by
  rw [e] at k3
  unfold J' at k3
  have:=h.l1
  have k4:¬(1:Int)<(l:Int):=k3
  omega
 have et:Hw (n:Int)=fs:=by
  show (qA J' Ka fuel ([],(n:Int),2)).1=fs
  rw [e]
 refine⟨k1,?_,λq hq hqn=>?_⟩
 ·rw [et];exact h.two
 ·rw [et]
  by_cases hno:∃p∈fs,p∣(q:Int)
  ·exact hno
  ·have:=h.A q hqn λp hp hd=>hno ⟨p,hp,hd⟩
   rw [hl] at this
   have:=KaH (by omega) this
   omega
abbrev cD:=lg
def la (L:cD):La.cD:=⟨L.x,L.y,L.z⟩
/-- what a ladder tells of a day -/
def lat (L:cD)(d:Nat):Int:=(la L).at d
theorem wg {a b:Nat}:(a:Int) / (b:Int)=((a / b:Nat):Int):=by rw [KdC]
theorem uy (turn:List Int)(rise:Int)(k:Nat):Rf turn rise (k:Int)=La.sS turn rise k:=by
 unfold Rf La.sS La.h_
 simp only [lt,wg,HX,O0]
 by_cases h:rise % ((turn.length / k:Nat):Int)=0
 ·rw [if_neg (by simpa using h),if_pos h,Kcl];rfl
 ·rw [if_pos h,if_neg h]
theorem Aw (turn:List Int)(rise:Int)(k:Nat)(k0:0<k)(hk:k<=turn.length)(hn:turn.length<=99000):BD turn rise (k:Int):=by
 unfold BD
 simp only [bT,wg,HX,O0]
 have t0:0<turn.length / k:=Kcy hk k0
 have t1:turn.length / k<=turn.length:=KbY _ _
 refine⟨⟨by omega,by omega⟩,by omega,λ_=>⟨?_,?_,λx _=>⟨by omega,by omega⟩,?_⟩⟩
 ·rw [KaX];omega
 ·rw [KaW,Kaf,KaX];omega
 ·rw [Kcb];omega
open La in
/-- a AB part is taken as long as bh round comes again -/
theorem tE (l:La.cD)(h:l.turn≠[])(hn:l.turn.length<=99000)(p:Nat)(p2:2<=p)(k:Nat)(k0:0<k)(hk:k∣l.turn.length)(hp:∃g,bq l.at l.early.length k g):
  wL (Gu l.turn l.rise (p:Int)) (J0 l.turn l.rise (p:Int)) (OE l.turn l.rise (p:Int)) (Ox l.turn l.rise (p:Int)) fuel (k:Int) /\
  ∃k':Nat,qA (Gu l.turn l.rise (p:Int)) (J0 l.turn l.rise (p:Int)) fuel (k:Int)=(k':Int)/\0<k'/\k'∣k/\(∃g,bq l.at l.early.length k' g)/\¬(p∣k'/\∃g,bq l.at l.early.length (k' / p) g):=by
 have n0:0<l.turn.length:=Kar.mpr h
 have hkn:k<=l.turn.length:=KaH n0 hk
 have key:=KA (c:=Gu l.turn l.rise (p:Int)) (f:=J0 l.turn l.rise (p:Int)) (dc:=OE l.turn l.rise (p:Int)) (d:=Ox l.turn l.rise (p:Int))
  (λx=>∃k':Nat,x=(k':Int)/\0<k'/\k'∣k/\∃g,bq l.at l.early.length k' g) (λx=>x.toNat) (λx hx=>by
   obtain⟨k',rfl,h1,h2,h3⟩:=hx
   have bqK:k'<=l.turn.length:=Kau (KaH k0 h2) hkn
   unfold OE Ox Gu J0
   simp only [lt,wg]
   have big:(p:Int)<1000000000000000000000000000000000000000000000000000000000000∨¬p∣k':=by
    by_cases z:p∣k'
    ·have:=KaH h1 z
     exact .inl (by omega)
    ·exact .inr z
   refine⟨⟨by omega,λhd=>?_⟩,λhc=>?_⟩
   ·have hd':=Mp.mp hd
    have hpk:=KaH h1 hd'
    refine⟨⟨by omega,by omega⟩,Aw _ _ _ (Kcy hpk (by omega)) (Kau (KbY _ _) bqK) hn⟩
   ·obtain⟨hd,hc⟩:=hc
    have hd':=Mp.mp hd
    have hpk:=KaH h1 hd'
    have hq0:0<k' / p:=Kcy hpk (by omega)
    have hqd:k' / p∣k':=Kdh hd'
    rw [uy] at hc
    have MW:=(qZ h hq0 (KaQ hqd (KaQ h2 hk))).mp hc
    refine⟨⟨by omega,by omega⟩,⟨_,rfl,hq0,KaQ hqd h2,MW⟩,?_⟩
    simp only [KaK]
    exact Nat.div_lt_self h1 (by omega)) fuel (k:Int) ⟨k,rfl,k0,Kbt _,hp⟩ (by unfold fuel;simp;omega)
 obtain⟨k1,⟨k',e,h1,h2,h3⟩,k3⟩:=key
 refine⟨k1,k',e,h1,h2,h3,λhc=>k3 ?_⟩
 rw [e]
 unfold Gu
 simp only [wg]
 have hpk:=KaH h1 hc.1
 refine⟨Mp.mpr hc.1,?_⟩
 rw [uy]
 exact (qZ h (Kcy hpk (by omega)) (KaQ (Kdh hc.1) (KaQ h2 hk))).mpr hc.2
open La in
theorem mK (l:La.cD)(h:l.turn≠[])(hn:l.turn.length<=99000):∀(ps:List Int) (done:List Int) (k:Nat),(∀p∈ps,2<=p)->0<k->k∣l.turn.length->(∃g,bq l.at l.early.length k g)->(∀p∈done,2<=p/\¬(p.toNat∣k/\∃g,bq l.at l.early.length (k / p.toNat) g)) ->
  fg (Mf l.turn l.rise) (VM l.turn l.rise) ps (k:Int)/\∃k':Nat,ps.foldl (Mf l.turn l.rise) (k:Int)=(k':Int)/\0<k'/\k'∣l.turn.length/\(∃g,bq l.at l.early.length k' g)/\∀p∈done++ps,¬(p.toNat∣k'/\∃g,bq l.at l.early.length (k' / p.toNat) g)
 |[],done,k,_,h1,h2,h3,h4=>⟨trivial,k,rfl,h1,h2,h3,λp hp=>(h4 p (by simpa using hp)).2⟩
 |p::ps,done,k,hps,h1,h2,h3,h4=>by
  have p2:=hps p Kaa
  have ep:((p.toNat:Nat):Int)=p:=KbD (by omega)
  obtain⟨i1,k',i2,i3,i4,i5,i6⟩:=tE l h hn p.toNat (by omega) k h1 h2 h3
  rw [ep] at i1 i2
  have e1:Mf l.turn l.rise (k:Int) p=(k':Int):=i2
  have carry:∀q∈done++[p],2<=q/\¬(q.toNat∣k'/\∃g,bq l.at l.early.length (k' / q.toNat) g):=λq hq=>by
   rcases Kat.mp hq with z|z
   ·obtain⟨q2,hno⟩:=h4 q z
    refine⟨q2,λhc=>hno ?_⟩
    obtain⟨⟨j,hj⟩,g,hg⟩:=hc
    obtain⟨t,ht⟩:=i4
    have q0:0<q.toNat:=by omega
    refine⟨⟨j*t,by rw [ht,hj,KcU]⟩,?_⟩
    have e2:k' / q.toNat=j:=by rw [hj];exact KaF _ q0
    have e3:k / q.toNat=t*j:=by rw [ht,hj,KcU,KaF _ q0,KaV]
    rw [e2] at hg
    rw [e3]
    exact⟨_,hg.mul t⟩
   ·have:q=p:=by simpa using z
    subst this
    exact⟨p2,i6⟩
  obtain⟨j1,k2,j2,j3,j4,j5,j6⟩:=mK l h hn ps (done++[p]) k' (λq hq=>hps q (Kad _ hq)) i3 (KaQ i4 h2) i5 carry
  refine⟨⟨i1,by rw [e1];exact j1⟩,k2,?_,j3,j4,j5,λq hq=>j6 q (by simpa using hq)⟩
  rw [Kcz,e1];exact j2
open La in
theorem u5 (l:La.cD)(h:l.turn≠[])(hn:l.turn.length<99000):Cj l.turn l.rise/\∃k:Nat,OU l.turn l.rise=(k:Int)/\0<k/\k∣l.turn.length/\(∃g,bq l.at l.early.length k g)/\∀F' p g',0<p->bq l.at F' p g'->k<=p:=by
 have n0:0<l.turn.length:=Kar.mpr h
 obtain⟨q1,q2,q3⟩:=lR l.turn.length n0 hn
 obtain⟨j1,k,j2,j3,j4,⟨g,j5⟩,j6⟩:=mK l h (by omega) (Hw (l.turn.length:Int)) [] l.turn.length q2 n0 (Kbt _) ⟨_,l.per h⟩ (by simp)
 refine⟨⟨q1,j1⟩,k,j2,j3,j4,⟨g,j5⟩,?_⟩
 refine En (ps:=(Hw (l.turn.length:Int)).map Kbh) j3 n0 j4 j5 ?_ ?_ ?_
 ·intro p hp
  obtain⟨q,hq,rfl⟩:=KaM.mp hp
  have:=q2 q hq
  omega
 ·intro q hq hd
  obtain⟨p,hp,hpd⟩:=q3 q hq hd
  have p2:=q2 p hp
  refine⟨p.toNat,Kdb hp,?_⟩
  rw [<-KbD (show 0<=p by omega)] at hpd
  exact KcT.mp hpd
 ·intro p hp hd MW
  obtain⟨q,hq,rfl⟩:=KaM.mp hp
  exact j6 q (by simpa using hq) ⟨hd,MW⟩
end Pu
namespace Pu
open PySem L2 Enc La
/-- bh ladder with this Ah,round and gain eA tells f -/
def iT (f:Nat->Int)(F k:Nat)(g:Int):cD:=T3.mk ((Kac F).map f) ((Kac k).map λi=>f (F+i)) g
theorem Cp {f:Nat->Int}{n i:Nat}(h:i<n):((Kac n).map f).getD i 0=f i:=by
 rw [La.getD_eq (by simpa using h)];simp
theorem GD {L:cD}{d:Nat}(h:d<L.x.length):lat L d=L.x.getD d 0:=La.cD.Cv h
theorem O5 (L:cD)(i:Nat):lat L (L.x.length+i)=L.y.getD (i % L.y.length) 0+L.z*((i / L.y.length:Nat):Int):=La.cD.nS i
theorem Se (L:cD)(h:L.y≠[]):bq (lat L) L.x.length L.y.length L.z:=La.cD.per (la L) h
theorem OX {L:cD}{i:Nat}(h:i<L.y.length):lat L (L.x.length+i)=L.y.getD i 0:=by
 rw [O5,Kbm h,KdB h];simp
/-- two eA Q0 again alike,and are alike through bh first round -/
theorem zu {f f':Nat->Int}{F k:Nat}{g:Int}(k0:0<k)(a:bq f F k g)(b:bq f' F k g)(h:∀d,d<F+k->f d=f' d):f=f':=by
 funext d
 by_cases hd:d<F+k
 ·exact h d hd
 ·have e:d=(F+(d-F) % k)+((d-F) / k)*k:=by
   have:=KbC (d-F) k
   rw [KaV] at this
   omega
  have hm:=KaS (d-F) k0
  have h1:=(a.mul ((d-F) / k)) (F+(d-F) % k) (by omega)
  have h2:=(b.mul ((d-F) / k)) (F+(d-F) % k) (by omega)
  rw [<-e] at h1 h2
  rw [h1,h2,h _ (by omega)]
theorem Xn {f:Nat->Int}{F k:Nat}{g:Int}(k0:0<k)(p:bq f F k g):lat (iT f F k g)=f:=by
 have hx:(iT f F k g).x.length=F:=by simp [iT]
 have hy:(iT f F k g).y.length=k:=by simp [iT]
 have ny:(iT f F k g).y≠[]:=λz=>by rw [z] at hy;simp at hy;omega
 have p2:=Se (iT f F k g) ny
 rw [hx,hy] at p2
 refine zu k0 p2 p λd hd=>?_
 by_cases h:d<F
 ·rw [GD (by rw [hx];exact h)]
  exact Cp h
 ·obtain⟨i,rfl⟩:∃i,d=F+i:=⟨d-F,by omega⟩
  have:=OX (L:=iT f F k g) (i:=i) (by rw [hy];omega)
  rw [hx] at this
  rw [this]
  exact Cp (f:=λi=>f (F+i)) (by omega)
theorem W4 (xs ys:List Int)(i:Nat):(xs++ys).getD i 0=if i<xs.length then xs.getD i 0 else ys.getD (i-xs.length) 0:=by
 simp only [KcK]
 by_cases h:i<xs.length
 ·rw [if_pos h,KcH h]
 ·rw [if_neg h,Kbn (by omega)]
theorem fqn (xs:List Int){i k:Nat}(h:i<k):(xs.take k).getD i 0=xs.getD i 0:=by
 simp only [KcK]
 rw [List.getElem?_take_of_lt h]
theorem HP {xs ys:List Int}(hl:xs.length=ys.length)(h:∀i,i<xs.length->xs.getD i 0=ys.getD i 0):xs=ys:=by
 apply Kb7 hl
 intro i h1 h2
 have:=h i h1
 rw [La.getD_eq h1,La.getD_eq h2] at this
 exact this
theorem KG (L:cD)(h:L.y≠[])(hn:L.x.length+L.y.length<99000):wD L/\∃F k g,Canon (lat L) F k g/\F<=L.x.length/\k∣L.y.length/\k<=L.y.length/\L.z=((L.y.length / k:Nat):Int)*g/\iG L=iT (lat L) F k g:=by
 have n0:0<L.y.length:=Kar.mpr h
 obtain⟨dl,k,ek,k0,kd,⟨g,hg⟩,hmin⟩:=u5 (la L) h (by show L.y.length<99000;omega)
 have ek:OU L.y L.z=(k:Int):=ek
 have kn:k<=L.y.length:=KaH n0 kd
 have hg:bq (lat L) L.x.length k g:=hg
 obtain⟨t,ht⟩:=kd
 have ht:L.y.length=k*t:=ht
 have t0:0<t:=by
  rcases KbX t with z|z
  ·rw [z] at ht;omega
  ·exact z
 have et:L.y.length / k=t:=by rw [ht];exact KaF _ k0
 have KO:L.z=(t:Int)*g:=by
  have h1:=hg.mul t
  rw [show t*k=L.y.length by rw [ht,KaV]] at h1
  exact (Se L h).gain h1
 have KJ:L.z*(k:Int) / (L.y.length:Int)=g:=by
  rw [KO,ht,Kbi,KbR,KbZ g,<-KbR,KbZ (t:Int)]
  exact KcM _ (by
   have:0<(k:Int)*(t:Int):=Int.mul_pos (by omega) (by omega)
   omega)
 have enum:∀i,i<L.x.length+k->(L.x++L.y.take k).getD i 0=lat L i:=λi hi=>by
  rw [W4]
  split
  ·rename_i z;rw [GD z]
  ·rename_i z
   rw [fqn _ (by omega)]
   have:=OX (L:=L) (i:=i-L.x.length) (by omega)
   rw [show L.x.length+(i-L.x.length)=i by omega] at this
   rw [this]
 have Uh:(L.x++L.y.take k).length=L.x.length+k:=by rw [Kam,KaX];omega
 have key:=KA (c:=Kc (k:Int) g (L.x++L.y.take k)) (f:=OT (k:Int) g (L.x++L.y.take k)) (dc:=Rb (k:Int) g (L.x++L.y.take k)) (d:=VY (k:Int) g (L.x++L.y.take k))
  (λx=>∃F:Nat,x=(F:Int)/\F<=L.x.length/\bq (lat L) F k g) (λx=>x.toNat) (λx hx=>by
   obtain⟨F,rfl,h1,h2⟩:=hx
   unfold Rb VY Kc OT
   simp only [lt]
   rw [Uh]
   refine⟨λhF=>⟨⟨by omega,by omega⟩,by omega,by omega⟩,λhc=>?_⟩
   obtain⟨hF,hc⟩:=hc
   obtain⟨G,rfl⟩:∃G:Nat,F=G+1:=⟨F-1,by omega⟩
   rw [show ((G+1:Nat):Int)-1=(G:Int) by omega,KD,show (G:Int)+(k:Int)=((G+k:Nat):Int) by omega,KD,enum _ (by omega),enum _ (by omega)] at hc
   refine⟨trivial,⟨G,by omega,by omega,λd hd=>?_⟩,by omega⟩
   by_cases e:d=G
   ·subst e;exact hc.symm
   ·exact h2 d (by omega)) fuel (L.x.length:Int) ⟨_,rfl,Kak _,hg⟩ (by unfold fuel;simp;omega)
 obtain⟨k1,⟨F,eF,Iq,S9⟩,k3⟩:=key
 refine⟨?_,F,k,g,⟨k0,S9,hmin,λF' hp=>?_⟩,Iq,⟨t,ht⟩,kn,by rw [et];exact KO,?_⟩
 ·unfold wD
  simp only [bT]
  rw [ek,KJ,HX]
  exact⟨dl,.inr (by simp;omega),⟨by omega,by omega⟩,by rw [KaX];omega,k1⟩
 ·rcases KaA F' F with z|z
  ·exfalso
   apply k3
   rw [eF]
   unfold Kc
   obtain⟨G,rfl⟩:∃G:Nat,F=G+1:=⟨F-1,by omega⟩
   rw [show ((G+1:Nat):Int)-1=(G:Int) by omega,KD,show (G:Int)+(k:Int)=((G+k:Nat):Int) by omega,KD,enum _ (by omega),enum _ (by omega)]
   exact⟨by omega,(hp G (by omega)).symm⟩
  ·exact z
 ·unfold iG
  simp only [lt]
  rw [ek,KJ,HX,eF,HX,show (F:Int)+(k:Int)=((F+k:Nat):Int) by omega,HG,Kbz]
  unfold iT
  congr 1
  ·refine HP (by simp;omega) λi hi=>?_
   have hi:i<F:=by rw [KaX,Uh] at hi;omega
   rw [fqn _ hi,enum _ (by omega),Cp hi]
  ·refine HP (by simp;omega) λi hi=>?_
   have hi:i<k:=by rw [KaX] at hi;omega
   rw [fqn _ hi,Cp (f:=λi=>lat L (F+i)) hi,<-enum _ (by omega)]
   simp only [KcK,Kdi]
/-- a ladder whose lists can be walked -/
structure Sm (B:Nat)(L:cD):Prop where
 y:L.y≠[]
 n:L.x.length+L.y.length<=B
theorem Sm.mono {B B':Nat}{L:cD}(h:Sm B L)(hb:B<=B'):Sm B' L:=⟨h.y,Kau h.n hb⟩
theorem zO {L:cD}(h:Sm 98000 L):wD L:=(KG L h.y (by have:=h.n;omega)).1
theorem sG {L L':cD}(h:Sm 98000 L)(h':Sm 98000 L')(e:lat L=lat L'):iG L=iG L':=by
 obtain⟨_,F,k,g,c,_,_,_,_,r⟩:=KG L h.y (by have:=h.n;omega)
 obtain⟨_,F',k',g',c',_,_,_,_,r'⟩:=KG L' h'.y (by have:=h'.n;omega)
 rw [<-e] at c'
 obtain⟨rfl,rfl,rfl⟩:=c.uniq c'
 rw [r,r',e]
theorem zP {L:cD}(h:Sm 98000 L):lat (iG L)=lat L:=by
 obtain⟨_,F,k,g,c,_,_,_,_,r⟩:=KG L h.y (by have:=h.n;omega)
 rw [r];exact Xn c.pos c.per
theorem gjt {B:Nat}{L:cD}(h:Sm B L)(hB:B<=98000):Sm B (iG L):=by
 obtain⟨_,F,k,g,c,hF,_,hk,_,r⟩:=KG L h.y (by have:=h.n;omega)
 rw [r]
 have k0:=c.pos
 refine⟨λz=>?_,by simp [iT];have:=h.n;omega⟩
 have:(iT (lat L) F k g).y.length=k:=by simp [iT]
 rw [z] at this
 simp at this
 omega
theorem Wz {L:cD}(h:Sm 98000 L):(iG L).x.length<=L.x.length/\(iG L).y.length<=L.y.length/\(iG L).y.length∣L.y.length/\L.z=((L.y.length / (iG L).y.length:Nat):Int)*(iG L).z:=by
 obtain⟨_,F,k,g,c,hF,hd,hk,hz,r⟩:=KG L h.y (by have:=h.n;omega)
 rw [r]
 simp only [iT,Kaf,KaB]
 exact⟨hF,hk,hd,hz⟩
theorem Dj (xs:List Int):∀k:Int,aX k xs=(Kac xs.length).map λ(i:Nat)=>(k+(i:Int),xs.getD i 0):=by
 induction xs with
 |nil=>intro k;rfl
 |cons x xs ih=>
  intro k
  unfold aX
  rw [ih,Kah,Kcg,Kal,KaL]
  congr 1
  ·simp
  ·refine Kas λi _=>?_
   simp
   omega
/-- bh places where a list holds 1 -/
def ones (xs:List Int):List Int:=((Kac xs.length).filter λi=>decide (xs.getD i 0=1)).map λ(i:Nat)=>(i:Int)
theorem zp (xs:List Int):Kaj (λ(x1:Int×Int)=>x1.1) (Kbx (λ(x1:Int×Int)=>decide (x1.2=(1:Int))) (aX 0 xs))=ones xs:=by
 rw [Dj,KcA,KaL]
 unfold ones
 refine Kas λi _=>?_
 simp
theorem gxg (xs:List Int)(d:Int):d∈ones xs↔0<=d/\d<xs.length/\xs.getD d.toNat 0=1:=by
 unfold ones
 rw [KaM]
 constructor
 ·rintro⟨i,hi,rfl⟩
  obtain⟨h1,h2⟩:=Kce.mp hi
  have:=KaJ.mp h1
  exact⟨by omega,by omega,by simpa using h2⟩
 ·rintro⟨h0,h1,h2⟩
  exact⟨d.toNat,Kce.mpr ⟨KaJ.mpr (by omega),by simpa using h2⟩,by omega⟩
theorem Ct (xs:List Int):(ones xs).Pairwise (·<·):=by
 unfold ones
 refine KcN.mpr ?_
 refine ((Kci (n:=xs.length)).sublist Kdc).imp ?_
 intro a b h;omega
abbrev DS:=qy
def qJ (S:DS)(d:Nat):Bool:=if (d:Int)<S.y then decide ((d:Int)∈S.x) else decide (((d:Int)-S.y) % S.z∈S.u)
/-- Oq,from 0 to below hi -/
structure B6 (ns:List Int)(hi:Int):Prop where
 pw:ns.Pairwise (·<·)
 rg:∀x∈ns,0<=x/\x<hi
structure Oi (S:DS):Prop where
 y0:0<=S.y
 z1:1<=S.z
 x:B6 S.x S.y
 u:B6 S.u S.z
/-- bh row of a set,or of bits,as a ladder -/
def rl (r:List Int×List Int):cD:=T3.mk r.1 r.2 0
theorem mq (xs:List Int)(k:Int):(wM (Kck (Kaj (λ(x1:Int)=>(x1,true)) xs)) k).isSome=true↔k∈xs:=by
 have key:∀f:List (Int×Bool),(wM f k).isSome=true↔∃v,(k,v)∈f:=by
  intro f
  induction f with
  |nil=>simp [wM]
  |cons p f ih=>
   obtain⟨a,v⟩:=p
   unfold wM
   by_cases h:a=k
   ·rw [if_pos h]
    simp [h]
   ·rw [if_neg h,ih]
    constructor
    ·rintro⟨w,hw⟩;exact⟨w,Kad _ hw⟩
    ·rintro⟨w,hw⟩
     rcases Kai.mp hw with z|z
     ·cases z;exact absurd rfl h
     ·exact⟨w,z⟩
 rw [key]
 simp
def Ic (xs:List Int)(n:Int):List Int:=(rng 0 n).map λd=>b2i (decide (d∈xs))
theorem WD (S:DS):tU S=(Ic S.x S.y,Ic S.u S.z):=by
 unfold tU Ic
 simp only [lt]
 congr 1
 ·refine Kas λd _=>?_
  congr 1
  exact decide_eq_decide.mpr (mq _ _)
 ·refine Kas λd _=>?_
  congr 1
  exact decide_eq_decide.mpr (mq _ _)
theorem gxf (xs:List Int)(n:Int):(Ic xs n).length=n.toNat:=by unfold Ic;rw [Kaf,HH];simp
theorem yg (xs:List Int)(n:Int)(i:Nat)(h:(i:Int)<n):(Ic xs n).getD i 0=b2i (decide ((i:Int)∈xs)):=by
 have hl:i<(Ic xs n).length:=by rw [gxf];omega
 rw [La.getD_eq hl]
 unfold Ic rng
 simp
theorem Fg (S:DS):(rl (tU S)).x.length=S.y.toNat:=by rw [WD];exact gxf _ _
theorem zB (S:DS):(rl (tU S)).y.length=S.z.toNat:=by rw [WD];exact gxf _ _
theorem Ff {S:DS}(h:Oi S):(rl (tU S)).y≠[]:=λz=>by
 have:=zB S
 rw [z] at this
 have:=h.z1
 simp at *
 omega
theorem Ju {S:DS}(h:Oi S)(d:Nat):lat (rl (tU S)) d=b2i (qJ S d):=by
 have y0:=h.y0
 have z1:=h.z1
 have hx:=Fg S
 have hy:=zB S
 unfold qJ
 by_cases hd:(d:Int)<S.y
 ·rw [if_pos hd,GD (by rw [hx];omega)]
  rw [WD]
  exact yg _ _ _ hd
 ·rw [if_neg hd]
  have:=O5 (rl (tU S)) (d-S.y.toNat)
  rw [hx,hy,show S.y.toNat+(d-S.y.toNat)=d by omega] at this
  rw [this]
  have hz:0<S.z.toNat:=by omega
  have hm:=KaS (d-S.y.toNat) hz
  show (rl (tU S)).y.getD _ 0+0*_=_
  rw [WD]
  show (Ic S.u S.z).getD _ 0+0*_=_
  rw [yg _ _ _ (by omega)]
  have e:(((d-S.y.toNat) % S.z.toNat:Nat):Int)=((d:Int)-S.y) % S.z:=by
   rw [KaI,KbD (by omega),Int.natCast_sub (by omega),KbD y0]
  rw [e];simp
theorem KR {ns:List Int}{hi:Int}(h:B6 ns hi)(h0:0<=hi):(ns.length:Int)<=hi:=by
 have key:∀(l:List Int) (lo:Int),l.Pairwise (·<·)->(∀x∈l,lo<=x/\x<hi)->lo<=hi->(l.length:Int)<=hi-lo:=by
  intro l
  induction l with
  |nil=>intro lo _ _ h;simp;omega
  |cons a l ih=>
   intro lo hp hr _
   have h1:=Ka1.mp hp
   have ha:=hr a Kaa
   have:=ih (a+1) h1.2 (λx hx=>⟨by have:=h1.1 x hx;omega,(hr x (Kad _ hx)).2⟩) (by omega)
   simp only [Kah]
   omega
 have:=key ns 0 h.pw h.rg h0
 omega
theorem Jt {S:DS}(h:Oi S)(hs:S.y+S.z<=98000):As S:=by
 have y0:=h.y0
 have z1:=h.z1
 have l1:=KR h.x y0
 have l2:=KR h.u (by omega)
 unfold As
 simp only [bT]
 rw [HH,HH]
 exact⟨by omega,by omega,⟨by omega,by omega⟩,by omega,⟨by omega,by omega⟩,by omega⟩
/-- set_from -/
theorem Pn (r:List Int×List Int):GC r=T4.mk (ones (iG (rl r)).x) ((iG (rl r)).x.length:Int) ((iG (rl r)).y.length:Int) (ones (iG (rl r)).y):=by
 unfold GC GB
 simp only [lt]
 rw [zp,zp];rfl
theorem wR {r r':List Int×List Int}(h:Sm 98000 (rl r))(h':Sm 98000 (rl r'))(e:lat (rl r)=lat (rl r')):GC r=GC r':=by
 rw [Pn,Pn,sG h h' e]
theorem fjt {α:Type}:∀(xs:List α) (k:Int),(aX k xs).length=xs.length
 |[],_=>rfl
 |x::xs,k=>by show (aX (k+1) xs).length+1=_;rw [fjt xs];rfl
theorem DC {r:List Int×List Int}(h:Sm 98000 (rl r)):BG r:=by
 unfold BG yh GB
 simp only [bT]
 have p:=Wz h
 have n:=h.n
 refine⟨zO h,?_,?_⟩
 ·rw [fjt];have:=p.1;simp only [rl] at *;omega
 ·rw [fjt];have:=p.2.1;simp only [rl] at *;omega
theorem x9 (xs:List Int):B6 (ones xs) (xs.length:Int):=⟨Ct xs,λx hx=>by have:=(gxg xs x).mp hx;omega⟩
theorem Ih {r:List Int×List Int}(h:Sm 98000 (rl r)):Oi (GC r):=by
 rw [Pn]
 have:=(gjt h (Kak _)).y
 have:=Kar.mpr this
 exact⟨by show (0:Int)<=((iG (rl r)).x.length:Int);omega,by show (1:Int)<=((iG (rl r)).y.length:Int);omega,x9 _,x9 _⟩
theorem DE {r:List Int×List Int}(h:Sm 98000 (rl r))(d:Nat):qJ (GC r) d=decide (lat (rl r) d=1):=by
 have hw:=zP h
 have hz:(iG (rl r)).z=0:=by
  obtain⟨_,_,hd,e⟩:=Wz h
  have n0:0<(iG (rl r)).y.length:=Kar.mpr (gjt h (Kak _)).y
  have m0:0<(rl r).y.length:=Kar.mpr h.y
  have e0:(0:Int)=(((rl r).y.length / (iG (rl r)).y.length:Nat):Int)*(iG (rl r)).z:=e
  have t0:0<(rl r).y.length / (iG (rl r)).y.length:=Kcy (KaH m0 hd) n0
  rcases Int.mul_eq_zero.mp e0.symm with q|q
  ·omega
  ·exact q
 rw [Pn,<-hw]
 unfold qJ
 generalize iG (rl r)=W at hz
 show (if (d:Int)<(W.x.length:Int) then decide ((d:Int)∈ones W.x) else decide (((d:Int)-(W.x.length:Int)) % (W.y.length:Int)∈ones W.y))=_
 by_cases hd:d<W.x.length
 ·rw [if_pos (by omega),GD hd]
  refine decide_eq_decide.mpr ?_
  rw [gxg]
  simp only [KaK]
  exact⟨λq=>q.2.2,λq=>⟨by omega,by omega,q⟩⟩
 ·rw [if_neg (by omega)]
  have:=O5 W (d-W.x.length)
  rw [show W.x.length+(d-W.x.length)=d by omega,hz] at this
  rw [this]
  have e:((d:Int)-(W.x.length:Int)) % (W.y.length:Int)=(((d-W.x.length) % W.y.length:Nat):Int):=by
   rw [KaI,Int.natCast_sub (by omega)]
  rw [e]
  refine decide_eq_decide.mpr ?_
  rw [gxg]
  simp only [KaK,Int.zero_mul,Int.add_zero]
  refine⟨λq=>q.2.2,λq=>⟨by omega,?_,q⟩⟩
  have n0:0<W.y.length:=by
   rcases KbX W.y.length with z|z
   ·have:W.y=[]:=KbS.mp z
    rw [this] at q
    simp at q
   ·exact z
  have:=KaS (d-W.x.length) n0
  omega
theorem DH (a b:Nat)(h:b<900000):gG (a:Int) (b:Int)/\VU (a:Int) (b:Int)=((Kby a b:Nat):Int):=by
 have key:=KA (c:=OC) (f:=Vw) (dc:=eU) (d:=eR)
  (λst=>∃x y:Nat,st=((x:Int),(y:Int))/\Kby x y=Kby a b) (λst=>st.2.toNat) (λst hst=>by
   obtain⟨x,y,rfl,e⟩:=hst
   refine⟨trivial,λhc=>?_⟩
   have hy:(0:Int)<(y:Int):=hc
   refine⟨hy,⟨y,x % y,?_,?_⟩,?_⟩
   ·show ((y:Int),(x:Int) % (y:Int))=_
    rw [<-KaI]
   ·rw [<-e,Nat.gcd_comm y (x % y),<-KdH,Nat.gcd_comm]
   ·show ((x:Int) % (y:Int)).toNat<(y:Int).toNat
    rw [<-KaI]
    simp only [KaK]
    exact KaS _ (by omega)) fuel ((a:Int),(b:Int)) ⟨a,b,rfl,rfl⟩ (by unfold fuel;simp;omega)
 obtain⟨k1,⟨x,y,e,eg⟩,k3⟩:=key
 refine⟨k1,?_⟩
 have hy:y=0:=by
  rw [e] at k3
  have k4:¬(0:Int)<(y:Int):=k3
  omega
 show (qA OC Vw fuel ((a:Int),(b:Int))).1=_
 rw [e,<-eg,hy];simp
theorem Em (a b:Nat)(ha:0<a)(hb:0<b)(h:a<900000)(h':b<900000):QG (a:Int) (b:Int)/\OM (a:Int) (b:Int)=((Nat.lcm a b:Nat):Int):=by
 obtain⟨g1,g2⟩:=DH a b h'
 have g0:0<Kby a b:=KbQ _ ha
 have gl:Kby a b<=a:=Nat.gcd_le_left _ ha
 constructor
 ·unfold QG
  rw [g2]
  exact⟨.inl (by simp;omega),g1,by omega,by omega⟩
 ·unfold OM
  rw [g2,<-Kbi,wg];rfl
structure c9 (F M:Nat)(f:Nat->Bool)(S:DS):Prop where
 ok:Oi S
 y:S.y<=F
 z:S.z.toNat∣M
 m0:0<M
 has:∀d,qJ S d=f d
theorem c9.zM {F M:Nat}{f:Nat->Bool}{S:DS}(h:c9 F M f S):S.z<=M:=by
 have:=KaH h.m0 h.z
 omega
theorem c9.mono {F F' M M':Nat}{f:Nat->Bool}{S:DS}(h:c9 F M f S)(hF:F<=F')(hM:M∣M')(h0:0<M'):c9 F' M' f S:=⟨h.ok,by have:=h.y;omega,KaQ h.z hM,h0,h.has⟩
/-- it comes again -/
theorem c9.per {F M:Nat}{f:Nat->Bool}{S:DS}(h:c9 F M f S){k:Nat}(hk:S.z.toNat∣k){d:Nat}(hd:S.y<=(d:Int)):f (d+k)=f d:=by
 rw [<-h.has,<-h.has]
 have y0:=h.ok.y0
 unfold qJ
 rw [if_neg (by omega),if_neg (by omega)]
 obtain⟨t,rfl⟩:=hk
 have e:((d+S.z.toNat*t:Nat):Int)-S.y=((d:Int)-S.y)+S.z*(t:Int):=by
  have:=h.ok.z1
  rw [Kc3,Kbi,KbD (by omega)]
  omega
 rw [e,Int.add_mul_emod_self_left]
theorem c9.row {F M:Nat}{f:Nat->Bool}{S:DS}(h:c9 F M f S):lat (rl (tU S))=λd=>b2i (f d):=by
 funext d
 rw [Ju h.ok,h.has]
/-- bh least way of what comes again -/
structure cF (F M:Nat)(f:Nat->Bool)(S:DS):Prop where
 ex:∃r:List Int×List Int,r.1.length<=F/\r.2≠[]/\r.2.length∣M/\(∀d,lat (rl r) d=b2i (f d))/\S=GC r
 m0:0<M
theorem Hr (b:Bool):decide (b2i b=1)=b:=by cases b <;> simp [b2i]
theorem cF.rep {F M:Nat}{f:Nat->Bool}{S:DS}(h:cF F M f S)(hb:F+M<=98000):c9 F M f S:=by
 obtain⟨⟨r,h1,h2,h3,h4,rfl⟩,m0⟩:=h
 have hM:=KaH m0 h3
 have sm:Sm 98000 (rl r):=⟨h2,by show r.1.length+r.2.length<=98000;omega⟩
 obtain⟨p1,p2,p3,_⟩:=Wz sm
 refine⟨Ih sm,?_,?_,m0,λd=>?_⟩
 ·rw [Pn]
  show ((iG (rl r)).x.length:Int)<=F
  have:(rl r).x.length=r.1.length:=rfl
  omega
 ·rw [Pn]
  show ((iG (rl r)).y.length:Int).toNat∣M
  rw [KaK]
  exact KaQ p3 h3
 ·rw [DE sm,h4,Hr]
theorem cF.uniq {F M F' M':Nat}{f:Nat->Bool}{S S':DS}(h:cF F M f S)(h':cF F' M' f S')(hb:F+M<=98000)(hb':F'+M'<=98000):S=S':=by
 obtain⟨⟨r,h1,h2,h3,h4,rfl⟩,m0⟩:=h
 obtain⟨⟨r',KZ,Ip,S5,h4',rfl⟩,m0'⟩:=h'
 have hM:=KaH m0 h3
 have hM':=KaH m0' S5
 exact wR ⟨h2,by show r.1.length+r.2.length<=98000;omega⟩ ⟨Ip,by show r'.1.length+r'.2.length<=98000;omega⟩ (by funext d;rw [h4,h4'])
theorem cF.congr {F M:Nat}{f g:Nat->Bool}{S:DS}(h:cF F M f S)(e:∀d,f d=g d):cF F M g S:=by
 have:f=g:=funext e
 subst this;exact h
theorem take_range {φ:Nat->Int}{F k:Nat}:((Kac (F+k)).map φ).take F=(Kac F).map φ:=by
 rw [<-KcO,List.take_range,KbM (by omega)]
theorem wN {φ:Nat->Int}{F k:Nat}:((Kac (F+k)).map φ).drop F=(Kac k).map λi=>φ (F+i):=by
 refine HP (by simp) λi hi=>?_
 have hi:i<k:=by simp at hi;omega
 rw [Cp (f:=λi=>φ (F+i)) hi]
 simp only [KcK,Kdi]
 rw [KaO,Kbq (by omega)];rfl
theorem tH {S:DS}(h:Oi S)(hs:S.y+S.z<=98000):Ai S:=by
 have y0:=h.y0
 have z1:=h.z1
 have l1:=KR h.x y0
 have l2:=KR h.u (by omega)
 have UE:∀{ns:List Int},ns.Pairwise (·<·)->J6 ns=true:=by
  intro ns
  unfold J6
  rw [show (some (1:Int))=some ((1:Nat):Int) from rfl,O0,Kcl]
  intro hp
  rw [Kbk]
  intro q hq
  have key:∀(ns:List Int),ns.Pairwise (·<·)->∀q∈ns.zip (ns.drop 1),q.1<q.2:=by
   intro ns
   induction ns with
   |nil=>intro _ q hq;simp at hq
   |cons a r ih=>
    intro hp q hq
    cases r with
    |nil=>simp at hq
    |cons b r=>
     have h1:=Ka1.mp hp
     simp only [Kdd,Kc7,KcF,Kai] at hq
     rcases hq with rfl|hq
     ·exact h1.1 b Kaa
     ·exact ih h1.2 q (by simpa using hq)
  simpa using key ns hp q hq
 have RD:∀{ns:List Int} {hi:Int},B6 ns hi->0<=hi->J6 (([(-(1:Int))]++ns)++[hi])=true:=by
  intro ns hi ha h0
  apply UE
  show List.Pairwise _ (-1::(ns++[hi]))
  refine Ka1.mpr ⟨λx hx=>?_,List.pairwise_append.mpr ⟨ha.pw,by simp,λx hx y hy=>?_⟩⟩
  ·rcases Kat.mp hx with z|z
   ·have:=(ha.rg x z).1;omega
   ·have:x=hi:=by simpa using z
    omega
  ·have:y=hi:=by simpa using hy
   have:=(ha.rg x hx).2
   omega
 have r1:=RD h.x h.y0
 have r2:=RD h.u (by omega)
 have dr:∀{ns:List Int},ns.length<=100000->Aa ns:=λhl=>by
  unfold Aa
  rw [Kcb];omega
 have hc:¬(S.y<0∨S.z<1):=by omega
 unfold Ai C5 O3
 rw [if_neg hc]
 refine⟨λ_=>⟨by simp;omega,by simp;omega,dr (by simp;omega),λ_=>⟨by simp;omega,by simp;omega,dr (by simp;omega)⟩⟩,λhn=>hn ?_⟩
 simp only [decide_eq_true_eq]
 exact⟨r1,r2⟩
theorem EC {F M:Nat}{f:Nat->Bool}{S:DS}(h:c9 F M f S)(hb:F+M<=98000):Ai S:=tH h.ok (by have:=h.y;have:=h.zM;omega)
theorem FF {F M:Nat}{f:Nat->Bool}{S:DS}(h:c9 F M f S)(hb:F+M<=98000):As S:=Jt h.ok (by have:=h.y;have:=h.zM;omega)
theorem getD_map {xs:List Int}{h:Int->Int}{i:Nat}(hi:i<xs.length):(xs.map h).getD i 0=h (xs.getD i 0):=by
 rw [La.getD_eq (by simpa using hi),KbU,La.getD_eq hi]
section
variable {F M:Nat}{f g:Nat->Bool}{A B:DS}
theorem Js (ha:c9 F M f A)(hb:F+M<=98000):cF F M f (Ry A):=by
 refine⟨⟨tU A,?_,Ff ha.ok,?_,λd=>by rw [ha.row],rfl⟩,ha.m0⟩
 ·have:=Fg A
  have:(tU A).1.length=A.y.toNat:=this
  have:=ha.y
  omega
 ·have:(tU A).2.length=A.z.toNat:=zB A
  rw [this];exact ha.z
theorem NL (ha:c9 F M f A)(hb:F+M<=98000):Sm 98000 (rl (tU A)):=by
 refine⟨Ff ha.ok,?_⟩
 rw [Fg,zB]
 have:=ha.y
 have:=ha.zM
 have:=ha.ok.z1
 omega
theorem w_ (ha:c9 F M f A)(hb:F+M<=98000):CJ A/\cF F M f (Ry A):=
 ⟨⟨EC ha hb,FF ha hb,DC (NL ha hb)⟩,Js ha hb⟩
/-- r is bh first day of P,none if there is none -/
def iV (P:Nat->Prop)(r:Option Int):Prop:=(r=none/\∀d,¬P d)∨∃d:Nat,r=some (d:Int)/\P d/\∀e,e<d->¬P e
theorem iV.uniq {P:Nat->Prop}{r r':Option Int}(h:iV P r)(h':iV P r'):r=r':=by
 rcases h with⟨rfl,h⟩|⟨d,rfl,h1,h2⟩
 ·rcases h' with⟨rfl,h'⟩|⟨d',rfl,KZ,Ip⟩
  ·rfl
  ·exact absurd KZ (h d')
 ·rcases h' with⟨rfl,h'⟩|⟨d',rfl,KZ,Ip⟩
  ·exact absurd h1 (h' d)
  ·have:d=d':=by
    rcases Kb4 d d' with z|z|z
    ·exact absurd h1 (Ip d z)
    ·exact z
    ·exact absurd KZ (h2 d' z)
   rw [this]
theorem iV.congr {P Q:Nat->Prop}{r:Option Int}(h:iV P r)(e:∀d,P d↔Q d):iV Q r:=by
 rcases h with⟨rfl,h⟩|⟨d,rfl,h1,h2⟩
 ·exact .inl ⟨rfl,λd q=>h d ((e d).mpr q)⟩
 ·exact .inr ⟨d,rfl,(e d).mp h1,λx hx q=>h2 x hx ((e x).mpr q)⟩
theorem oK {α σ ρ:Type}{f:σ->α->ρ ⊕ σ}{d:σ->α->Prop}(h:∀st x,d st x):∀(xs:List α) (st:σ),ja f d xs st
 |[],_=>trivial
 |x::xs,st=>by
  refine⟨h st x,?_⟩
  cases f st x with
  |inl r=>exact trivial
  |inr st'=>exact oK h xs st'
/-- two eA Q0 again,alike through both rounds,are alike -/
theorem cqS {φ ψ:Nat->Int}{F p q:Nat}{a b:Int}(p0:0<p)(q0:0<q)(hp:bq φ F p a)(hq:bq ψ F q b)(h:∀d,d<F+p+q->φ d=ψ d):φ=ψ:=by
 have hψ:bq ψ F p a:=λd hd=>by
  have e:d=F+(d-F) % q+(d-F) / q*q:=by
   have:=KbC (d-F) q
   rw [KaV] at this
   omega
  have hm:=KaS (d-F) q0
  have h1:=(hq.mul ((d-F) / q)) (F+(d-F) % q) (by omega)
  have h2:=(hq.mul ((d-F) / q)) (F+(d-F) % q+p) (by omega)
  have h3:=hp (F+(d-F) % q) (by omega)
  have h4:=h (F+(d-F) % q) (by omega)
  have h5:=h (F+(d-F) % q+p) (by omega)
  rw [show F+(d-F) % q+p+(d-F) / q*q=d+p by omega] at h2
  rw [<-e] at h1
  omega
 exact zu p0 hp hψ λd hd=>h d (by omega)
end
def Up (f:Nat->Int):Prop:=0<=f 0/\∀d,f d<=f (d+1)
theorem Up.mono {f:Nat->Int}(h:Up f){d e:Nat}(hd:d<=e):f d<=f e:=by
 induction hd with
 |refl=>exact Ka4 _
 |step _ ih=>exact KbN ih (h.2 _)
theorem Up.nn {f:Nat->Int}(h:Up f)(d:Nat):0<=f d:=KbN h.1 (h.mono (Kbc d))
structure bV (F M:Nat)(R:Int)(f:Nat->Int)(L:cD):Prop where
 x:L.x.length<=F
 y:L.y≠[]
 m:L.y.length∣M
 m0:0<M
 z0:0<=L.z
 zR:L.z*((M / L.y.length:Nat):Int)<=R
 lt:lat L=f
 up:Up f
section
variable {F M:Nat}{R:Int}{f:Nat->Int}{L:cD}
theorem bV.n0 (h:bV F M R f L):0<L.y.length:=Kar.mpr h.y
theorem bV.yM (h:bV F M R f L):L.y.length<=M:=KaH h.m0 h.m
theorem bV.t0 (h:bV F M R f L):0<M / L.y.length:=Kcy h.yM h.n0
theorem bV.zle (h:bV F M R f L):L.z<=R:=by
 have h1:=h.zR
 have h2:=h.t0
 have h3:L.z*1<=L.z*((M / L.y.length:Nat):Int):=Kba (by omega) h.z0
 omega
theorem bV.per (h:bV F M R f L):bq f L.x.length L.y.length L.z:=h.lt ▸ Se L h.y
theorem bV.Ut (h:bV F M R f L):bq f L.x.length M (((M / L.y.length:Nat):Int)*L.z):=by
 have:=h.per.mul (M / L.y.length)
 rwa [Kdj h.m] at this
theorem bV.mono {F' M':Nat}{R':Int}(h:bV F M R f L)(hF:F<=F')(hM:M∣M')(h0:0<M')(hR:R*((M' / M:Nat):Int)<=R'):bV F' M' R' f L:=by
 refine⟨Kau h.x hF,h.y,KaQ h.m hM,h0,h.z0,?_,h.lt,h.up⟩
 obtain⟨t,rfl⟩:=hM
 have m0:=h.m0
 have e1:M*t / M=t:=KaF _ m0
 have e2:M*t / L.y.length=M / L.y.length*t:=by
  obtain⟨q,hq⟩:=h.m
  have n0:=h.n0
  rw [hq,KcU,KaF _ n0,KaF _ n0]
 rw [e1] at hR
 rw [e2,Kbi,<-KbR]
 exact KbN (Kbu h.zR (by omega)) hR
theorem pG {ns:List Int}(h:ns.Pairwise (·<=·)):QZ ns=true:=by
 unfold QZ
 rw [show (some (1:Int))=some ((1:Nat):Int) from rfl,O0,Kcl,Kbk]
 intro q hq
 have key:∀(ns:List Int),ns.Pairwise (·<=·)->∀q∈ns.zip (ns.drop 1),q.1<=q.2:=by
  intro ns
  induction ns with
  |nil=>intro _ q hq;simp at hq
  |cons a r ih=>
   intro hp q hq
   cases r with
   |nil=>simp at hq
   |cons b r=>
    have h1:=Ka1.mp hp
    simp only [Kdd,Kc7,KcF,Kai] at hq
    rcases hq with rfl|hq
    ·exact h1.1 b Kaa
    ·exact ih h1.2 q (by simpa using hq)
 simpa using key ns h q hq
theorem bV.line (h:bV F M R f L):(([(0:Int)]++L.x)++L.y)++[au L.y (0:Int)+L.z]=0::(Kac (L.x.length+L.y.length+1)).map f:=by
 have n0:=h.n0
 refine HP (by simp;omega) λi hi=>?_
 have hi:i<L.x.length+L.y.length+2:=by simp at hi;omega
 cases i with
 |zero=>simp
 |succ i=>
  have e:((0:Int)::(Kac (L.x.length+L.y.length+1)).map f).getD (i+1) 0=f i:=by
   rw [<-Cp (f:=f) (n:=L.x.length+L.y.length+1) (by omega)];rfl
  rw [e,<-h.lt]
  show ((L.x++L.y)++[au L.y (0:Int)+L.z]).getD i 0=_
  rw [W4,W4,Kam]
  by_cases h1:i<L.x.length
  ·rw [if_pos (by omega),if_pos h1,GD h1]
  ·by_cases h2:i<L.x.length+L.y.length
   ·rw [if_pos h2,if_neg h1]
    have:=OX (L:=L) (i:=i-L.x.length) (by omega)
    rw [show L.x.length+(i-L.x.length)=i by omega] at this
    rw [this]
   ·rw [if_neg h2]
    have ei:i=L.x.length+0+L.y.length:=by omega
    rw [ei,Se L h.y (L.x.length+0) (by omega),OX (L:=L) (i:=0) n0]
    rw [show (0:Int)=((0:Nat):Int) from rfl,KD]
    simp
theorem xx {f:Nat->Int}(h:Up f)(n:Nat):((Kac n).map f).Pairwise (·<=·):=by
 refine KcN.mpr (Kci.imp ?_)
 intro a b hab
 exact h.mono (Kdw hab)
theorem A5 (h:bV F M R f L)(hb:F+M<=98000):CI L:=by
 have n0:=h.n0
 have hy:=h.yM
 have hx:=h.x
 have hc:¬(L.y=[]∨L.z<0):=by
  have:=h.y
  have:=h.z0
  intro z
  rcases z with z|z
  ·exact h.y z
  ·omega
 have tr:LY L=true:=by
  unfold LY
  rw [if_neg hc,h.line]
  refine pG (Ka1.mpr ⟨λx hx=>?_,xx h.up _⟩)
  obtain⟨d,_,rfl⟩:=KaM.mp hx
  exact h.up.nn d
 refine⟨λ_=>⟨by simp;omega,by simp;omega,⟨by omega,by omega⟩,by simp;omega,?_⟩,λhn=>hn tr⟩
 unfold Cq
 rw [Kcb]
 simp
 omega
/-- bh least way of a ladder eA tells f -/
structure AG (F M:Nat)(R:Int)(f:Nat->Int)(L:cD):Prop where
 ex:∃L0,bV F M R f L0/\L=iG L0
theorem AG.rep (h:AG F M R f L)(hb:F+M<=98000):bV F M R f L:=by
 obtain⟨⟨L0,h0,rfl⟩⟩:=h
 have sm:Sm 98000 L0:=⟨h0.y,by have:=h0.x;have:=h0.yM;omega⟩
 obtain⟨p1,p2,p3,p4⟩:=Wz sm
 have sm2:=gjt sm (Kak _)
 have n0:0<(iG L0).y.length:=Kar.mpr sm2.y
 have m0:=h0.n0
 obtain⟨t,ht⟩:=p3
 have t0:0<t:=by
  rcases KbX t with z|z
  ·rw [z] at ht;omega
  ·exact z
 have et:L0.y.length / (iG L0).y.length=t:=by rw [ht];exact KaF _ n0
 rw [et] at p4
 have z0:0<=(iG L0).z:=by
  have:=h0.z0
  rw [p4] at this
  rcases Int.lt_or_le (iG L0).z 0 with q|q
  ·have:(t:Int)*(iG L0).z<0:=Int.mul_neg_of_pos_of_neg (by omega) q
   omega
  ·exact q
 refine⟨Kau p1 h0.x,sm2.y,KaQ ⟨t,ht⟩ h0.m,h0.m0,z0,?_,by rw [zP sm,h0.lt],h0.up⟩
 obtain⟨q,hq⟩:=h0.m
 have e1:M / (iG L0).y.length=t*q:=by rw [hq,ht,KcU,KaF _ n0]
 have e2:M / L0.y.length=q:=by rw [hq,KaF _ m0]
 have hR:=h0.zR
 rw [e2,p4] at hR
 rw [e1,Kbi,<-KbR,KbZ _ (t:Int)]
 exact hR
theorem AG.uniq {F' M':Nat}{R':Int}{L':cD}(h:AG F M R f L)(h':AG F' M' R' f L')(hb:F+M<=98000)(hb':F'+M'<=98000):L=L':=by
 obtain⟨⟨L0,h0,rfl⟩⟩:=h
 obtain⟨⟨L1,h1,rfl⟩⟩:=h'
 exact sG ⟨h0.y,by have:=h0.x;have:=h0.yM;omega⟩ ⟨h1.y,by have:=h1.x;have:=h1.yM;omega⟩ (h0.lt.trans h1.lt.symm)
theorem AG.congr {g:Nat->Int}(h:AG F M R f L)(e:∀d,f d=g d):AG F M R g L:=by
 have:f=g:=funext e
 subst this;exact h
theorem CT (h:bV F M R f L)(hb:F+M<=98000):wD L:=zO ⟨h.y,by have:=h.x;have:=h.yM;omega⟩
/-- numbers of a Ah and a round -/
theorem HA {F0 k:Nat}{g:Int}(hF:F0<=F)(k0:0<k)(hk:k∣M)(m0:0<M)(hp:bq f F0 k g)(g0:0<=g)(hg:g*((M / k:Nat):Int)<=R)(up:Up f)(xs:List Int)(hx:xs=(Kac (F0+k)).map f):bV F M R f (T3.mk (xs.take F0) (xs.drop F0) g):=by
 subst hx
 have e:T3.mk (((Kac (F0+k)).map f).take F0) (((Kac (F0+k)).map f).drop F0) g=iT f F0 k g:=by
  unfold iT
  rw [take_range,wN]
 rw [e]
 have el:(iT f F0 k g).y.length=k:=by simp [iT]
 refine⟨by simp [iT];omega,λz=>?_,by rw [el];exact hk,m0,g0,by rw [el];exact hg,Xn k0 hp,up⟩
 rw [z] at el
 simp at el
 omega
theorem fZ (h:bV F M R f L)(hb:F+M<=98000):BC L/\AG F M R f (Rj L):=⟨⟨A5 h hb,CT h hb⟩,⟨⟨L,h,rfl⟩⟩⟩
end
def cnt (f:Nat->Bool):Nat->Int
 |0=>0
 |d+1=>cnt f d+b2i (f d)
theorem fqs {α σ:Type}{f:σ->α->σ}{d:σ->α->Prop}(x:α):∀(xs:List α) (st:σ),fg f d xs st->d (xs.foldl f st) x->fg f d (xs++[x]) st
 |[],_,_,h=>⟨h,trivial⟩
 |a::xs,st,h,hx=>⟨h.1,fqs x xs _ h.2 hx⟩
theorem Ga (L:cD):L.x++L.y=(Kac (L.x.length+L.y.length)).map (lat L):=by
 refine HP (by simp) λi hi=>?_
 have hi:i<L.x.length+L.y.length:=by simpa using hi
 rw [Cp hi,W4]
 by_cases h:i<L.x.length
 ·rw [if_pos h,GD h]
 ·rw [if_neg h]
  have:=OX (L:=L) (i:=i-L.x.length) (by omega)
  rw [show L.x.length+(i-L.x.length)=i by omega] at this
  exact this.symm
theorem zS (L:cD):L.y=(Kac L.y.length).map λi=>lat L (L.x.length+i):=by
 refine HP (by simp) λi hi=>?_
 rw [Cp (f:=λi=>lat L (L.x.length+i)) hi,OX hi]
/-- unfolding by a proved RQ keeps bh kernel from unfolding bh typed AH -/
theorem lt_eq {α β:Type}(v:α)(f:α->β):lt v f=f v:=(Eq.refl (lt v f)).trans (Eq.refl (f v))
theorem c_ {α:Type}(v:α)(f:α->Prop):bT v f=f v:=(Eq.refl (bT v f)).trans (Eq.refl (f v))
theorem Km {α:Type}(φ:Nat->α)(n:Nat):aX 0 ((Kac n).map φ)=(Kac n).map λ(i:Nat)=>((i:Int),φ i):=by
 have key:∀(n k:Nat),aX (k:Int) ((KcV k n).map φ)=(KcV k n).map λ(i:Nat)=>((i:Int),φ i):=by
  intro n
  induction n with
  |zero=>intro k;rfl
  |succ n ih=>
   intro k
   rw [KdD,Kal,Kal]
   unfold aX
   have:=ih (k+1)
   rw [show ((k+1:Nat):Int)=(k:Int)+1 by omega] at this
   rw [this]
 rw [List.range_eq_range']
 exact key n 0
section
variable {F M:Nat}{R S:Int}{f g:Nat->Int}{A B:cD}
theorem Up.add (h:Up f)(h':Up g):Up (λd=>f d+g d):=⟨by have:=h.1;have:=h'.1;show 0<=f 0+g 0;omega,λd=>by have:=h.2 d;have:=h'.2 d;show f d+g d<=f (d+1)+g (d+1);omega⟩
end
section
variable {F M G N:Nat}{R S:Int}{f g:Nat->Int}{A B:cD}
/-- many rounds on -/
theorem bq.many {F k:Nat}{a:Int}(h:bq f F k a)(t:Nat){d:Nat}(hd:F<=d):f (d+k*t)=f d+a*(t:Int):=by
 have:=h.mul t d hd
 rw [KaV,this,KbZ]
end
section
variable {F M G N:Nat}{R S:Int}{f g:Nat->Int}{A B:cD}
theorem zQ (L:cD):L.x=(Kac L.x.length).map (lat L):=by
 refine HP (by simp) λi hi=>?_
 rw [Cp hi,GD hi]
theorem AK {xs:List Int}(h:xs≠[]):au xs (-(1:Int))=xs.getD (xs.length-1) 0:=by
 have n0:0<xs.length:=Kar.mpr h
 unfold au L2.atI
 unfold L2.ixN
 rw [if_neg (by omega:¬(0:Int)<=-1)]
 rw [if_pos (by omega:-(xs.length:Int)<=-1)]
 rw [show (-1+(xs.length:Int)).toNat=xs.length-1 by omega,KaD]
 rfl
/-- one after bh other -/
theorem Up.comp (h:Up f)(h':Up g):Up (λd=>g (f d).toNat):=⟨h'.nn _,λd=>h'.mono (by have:=h.2 d;omega)⟩
end
end Pu
namespace Pu
open PySem L2 Enc PyProof.Rows
def tx (d:PyData):List Nat:=d.shown.cps.toList
theorem Pb (n:Nat):tx (.int (n:Int))=TL.numL n:=by
 unfold tx
 rw [PyData.shown_int]
 exact TL.tl_num n
theorem Pz (n:Nat):tx (.int (Int.negSucc n))=45::TL.numL (n+1):=by
 unfold tx
 rw [PyData.shown_int]
 show (Str.ofString (toString (Int.negSucc n))).cps.toList=_
 rw [signs_ofString]
 show (("-" ++ Nat.repr (n+1)).toList).map Char.toNat=_
 rw [String.toList_append,Kav,Nat.toList_repr]
 rfl
def dig (c:Nat):Bool:=decide (c=45∨(48<=c/\c<=57))
theorem gjm {n c:Nat}(h:c∈TL.numL n):48<=c/\c<=57:=by
 rcases KaA c 48 with z|z
 ·exact absurd h (TL.numL_free (.inl z))
 ·rcases KaA 57 c with q|q
  ·exact absurd h (TL.numL_free (.inr q))
  ·omega
theorem gzn (i:Int):∀c∈tx (.int i),dig c=true:=by
 intro c hc
 cases i with
 |ofNat n=>
  have:=gjm (n:=n) (by rw [<-Pb];exact hc)
  exact decide_eq_true (.inr this)
 |negSucc n=>
  rw [Pz] at hc
  rcases Kai.mp hc with rfl|hc
  ·decide
  ·exact decide_eq_true (.inr (gjm hc))
theorem s_ {i j:Int}(h:tx (.int i)=tx (.int j)):i=j:=by
 have no:∀n m:Nat,TL.numL n≠45::TL.numL m:=λn m e=>by
  have:=gjm (n:=n) (c:=45) (by rw [e];exact Kaa)
  omega
 cases i with
 |ofNat n=>
  cases j with
  |ofNat m=>
   have h:tx (.int (n:Int))=tx (.int (m:Int)):=h
   rw [Pb,Pb] at h
   rw [TL.numL_inj h]
  |negSucc m=>
   have h:tx (.int (n:Int))=_:=h
   rw [Pb,Pz] at h
   exact absurd h (no _ _)
 |negSucc n=>
  cases j with
  |ofNat m=>
   have h:_=tx (.int (m:Int)):=h
   rw [Pb,Pz] at h
   exact absurd h.symm (no _ _)
  |negSucc m=>
   rw [Pz,Pz] at h
   have:=TL.numL_inj (List.cons.inj h).2
   have:n=m:=by omega
   rw [this]
/-- what may stand behind an item -/
def Stop (s:List Nat):Prop:=s=[]∨∃c r,s=c::r/\(c=44∨c=93∨c=41)
class Tells (α:Type) [Enc α]:Prop where
 hd:∀a:α,∃c r,tx (enc a)=c::r/\c≠44/\c≠93/\c≠41
 un:∀(a b:α) (s t:List Nat),Stop s->Stop t->tx (enc a)++s=tx (enc b)++t->a=b/\s=t
theorem Jm {α:Type}[Enc α][Tells α]{a b:α}(h:rep a=rep b):a=b:=by
 have e:tx (enc a)=tx (enc b):=by
  unfold tx
  rw [show (enc a).shown=(enc b).shown from h]
 exact (Tells.un a b [] [] (.inl rfl) (.inl rfl) (by rw [e])).1
theorem fzz {s:List Nat}(hs:Stop s):∀{xs:List Nat},(∀c∈xs,dig c=true)->(xs++s).takeWhile dig=xs
 |[],_=>by
  rcases hs with rfl|⟨c,r,rfl,h⟩
  ·rfl
  ·show Kc8 dig (c::r)=[]
   rw [Kde]
   rw [if_neg]
   rcases h with rfl|rfl|rfl <;> decide
 |x::xs,h=>by
  show Kc8 dig (x::(xs++s))=_
  rw [Kde,if_pos (h x Kaa),fzz hs λc hc=>h c (Kad _ hc)]
instance:Tells Int where
 hd:=λa=>by
  have hc:=gzn a
  cases e:tx (enc a) with
  |nil=>
   exfalso
   cases a with
   |ofNat n=>
    have:tx (.int (n:Int))=[]:=e
    rw [Pb] at this
    exact TL.numL_ne n this
   |negSucc n=>
    have:tx (.int (Int.negSucc n))=[]:=e
    rw [Pz] at this
    cases this
  |cons c r=>
   have:=hc c (by rw [show tx (.int a)=tx (enc a) from rfl,e];exact Kaa)
   unfold dig at this
   have:=of_decide_eq_true this
   exact⟨c,r,rfl,by omega,by omega,by omega⟩
 un:=λa b s t hs ht e=>by
  have e:tx (.int a)++s=tx (.int b)++t:=e
  have e1:=congrArg (Kc8 dig) e
  rw [fzz hs (gzn a),fzz ht (gzn b)] at e1
  rw [e1] at e
  exact⟨s_ e1,KcW e⟩
def nQ:List PyData->List Nat
 |[]=>[]
 |x::r=>44::32::(tx x++nQ r)
theorem gzh:∀(x:PyData) (r:List PyData),(Str.join ", " (PyData.shownAll (x::r))).cps.toList=tx x++nQ r
 |x,[]=>by
  rw [PyData.shownAll_cons,PyData.shownAll_nil,join_one]
  show tx x=tx x++[]
  rw [KaC]
 |x,y::r=>by
  have ih:=gzh y r
  rw [PyData.shownAll_cons] at ih ⊢
  rw [PyData.shownAll_cons,join_cons_cons,cps_toList_append,cps_toList_append,ih,signs_sep]
  show tx x++[44,32]++(tx y++nQ r)=tx x++(44::32::(tx y++nQ r))
  simp
theorem Z9:tx (.list [])=[91,93]:=by
 unfold tx
 rw [PyData.shown_list]
 decide
theorem Sa (x:PyData)(r:List PyData):tx (.list (x::r))=91::(tx x++(nQ r++[93])):=by
 unfold tx
 rw [PyData.shown_list,cps_toList_append,cps_toList_append,gzh,signs_lbrack,signs_rbrack]
 simp [tx]
theorem RS (x y:PyData)(r:List PyData):tx (.tuple (x::y::r))=40::(tx x++(nQ (y::r)++[41])):=by
 unfold tx
 rw [PyData.shown_tuple,cps_toList_append,cps_toList_append,gzh,signs_lparen,if_neg (by simp)]
 show [40]++(tx x++nQ (y::r))++[41]=_
 simp [tx]
theorem KI (r:List PyData){c:Nat}(hc:c=93∨c=41)(s:List Nat):Stop (nQ r++(c::s)):=by
 cases r with
 |nil=>exact .inr ⟨c,s,rfl,by omega⟩
 |cons x r=>exact .inr ⟨44,_,rfl,.inl rfl⟩
theorem FP {α:Type}[Enc α][Tells α]:∀(xs ys:List α) (s t:List Nat),nQ (xs.map enc)++(93::s)=nQ (ys.map enc)++(93::t)->xs=ys/\s=t
 |[],[],s,t,h=>⟨rfl,(List.cons.inj h).2⟩
 |[],y::ys,s,t,h=>by have:=(List.cons.inj h).1;omega
 |x::xs,[],s,t,h=>by have:=(List.cons.inj h).1;omega
 |x::xs,y::ys,s,t,h=>by
  have h1:tx (enc x)++(nQ (xs.map enc)++(93::s))=tx (enc y)++(nQ (ys.map enc)++(93::t)):=by
   have:=(List.cons.inj (List.cons.inj h).2).2
   simpa using this
  obtain⟨rfl,h2⟩:=Tells.un x y _ _ (KI _ (.inl rfl) _) (KI _ (.inl rfl) _) h1
  obtain⟨rfl,rfl⟩:=FP xs ys s t h2
  exact⟨rfl,rfl⟩
instance {α:Type}[Enc α][Tells α]:Tells (List α) where
 hd:=λa=>by
  cases a with
  |nil=>exact⟨91,[93],Z9,by omega,by omega,by omega⟩
  |cons x r=>exact⟨91,_,Sa _ _,by omega,by omega,by omega⟩
 un:=λa b s t hs ht e=>by
  have nn:∀(y:α) (ys:List α) (s t:List Nat),[91,93]++s≠91::(tx (enc y)++(nQ (ys.map enc)++[93]))++t:=λy ys s t h=>by
   obtain⟨c,r,e,_,h2,_⟩:=Tells.hd y
   rw [e] at h
   have:=(List.cons.inj (List.cons.inj h).2).1
   omega
  cases a with
  |nil=>
   cases b with
   |nil=>exact⟨rfl,KcW e⟩
   |cons y ys=>
    have e:tx (.list [])++s=tx (.list (enc y::ys.map enc))++t:=e
    rw [Z9,Sa] at e
    exact absurd e (nn _ _ _ _)
  |cons x xs=>
   cases b with
   |nil=>
    have e:tx (.list (enc x::xs.map enc))++s=tx (.list [])++t:=e
    rw [Z9,Sa] at e
    exact absurd e.symm (nn _ _ _ _)
   |cons y ys=>
    have e:tx (.list (enc x::xs.map enc))++s=tx (.list (enc y::ys.map enc))++t:=e
    rw [Sa,Sa] at e
    have h1:tx (enc x)++(nQ (xs.map enc)++(93::s))=tx (enc y)++(nQ (ys.map enc)++(93::t)):=by
     have:=(List.cons.inj e).2
     simpa using this
    obtain⟨rfl,h2⟩:=Tells.un x y _ _ (KI _ (.inl rfl) _) (KI _ (.inl rfl) _) h1
    obtain⟨rfl,rfl⟩:=FP xs ys s t h2
    exact⟨rfl,rfl⟩
/-- one more item of a tuple -/
theorem Px {α:Type}[Enc α][Tells α]{a b:α}{r r':List PyData}{s t:List Nat}(h:nQ (enc a::r)++(41::s)=nQ (enc b::r')++(41::t)):a=b/\nQ r++(41::s)=nQ r'++(41::t):=by
 have h1:tx (enc a)++(nQ r++(41::s))=tx (enc b)++(nQ r'++(41::t)):=by
  have:=(List.cons.inj (List.cons.inj h).2).2
  simpa using this
 exact Tells.un a b _ _ (KI _ (.inr rfl) _) (KI _ (.inr rfl) _) h1
theorem gqt {α:Type}[Enc α][Tells α]{a b:α}{y y':PyData}{r r':List PyData}{s t:List Nat}(h:tx (.tuple (enc a::y::r))++s=tx (.tuple (enc b::y'::r'))++t):a=b/\nQ (y::r)++(41::s)=nQ (y'::r')++(41::t):=by
 rw [RS,RS] at h
 have h1:tx (enc a)++(nQ (y::r)++(41::s))=tx (enc b)++(nQ (y'::r')++(41::t)):=by
  have:=(List.cons.inj h).2
  simpa using this
 exact Tells.un a b _ _ (KI _ (.inr rfl) _) (KI _ (.inr rfl) _) h1
instance {α β:Type}[Enc α][Enc β][Tells α][Tells β]:Tells (α×β) where
 hd:=by
  intro p
  obtain⟨a,a1⟩:=p
  exact⟨40,_,RS (enc a) (enc a1) [],by omega,by omega,by omega⟩
 un:=by
  intro p q s t _ _ e
  obtain⟨a,a1⟩:=p
  obtain⟨b,b1⟩:=q
  have e:tx (.tuple [enc a,enc a1])++s=tx (.tuple [enc b,enc b1])++t:=e
  obtain⟨rfl,h0⟩:=gqt e
  obtain⟨rfl,h1⟩:=Px h0
  exact⟨rfl,(List.cons.inj h1).2⟩
instance {α β γ:Type}[Enc α][Enc β][Enc γ][Tells α][Tells β][Tells γ]:Tells (T3 α β γ) where
 hd:=by
  intro p
  obtain⟨a,a1,a2⟩:=p
  exact⟨40,_,RS (enc a) (enc a1) [enc a2],by omega,by omega,by omega⟩
 un:=by
  intro p q s t _ _ e
  obtain⟨a,a1,a2⟩:=p
  obtain⟨b,b1,b2⟩:=q
  have e:tx (.tuple [enc a,enc a1,enc a2])++s=tx (.tuple [enc b,enc b1,enc b2])++t:=e
  obtain⟨rfl,h0⟩:=gqt e
  obtain⟨rfl,h1⟩:=Px h0
  obtain⟨rfl,h2⟩:=Px h1
  exact⟨rfl,(List.cons.inj h2).2⟩
instance {α β γ δ:Type}[Enc α][Enc β][Enc γ][Enc δ][Tells α][Tells β][Tells γ][Tells δ]:Tells (T4 α β γ δ) where
 hd:=by
  intro p
  obtain⟨a,a1,a2,a3⟩:=p
  exact⟨40,_,RS (enc a) (enc a1) [enc a2,enc a3],by omega,by omega,by omega⟩
 un:=by
  intro p q s t _ _ e
  obtain⟨a,a1,a2,a3⟩:=p
  obtain⟨b,b1,b2,b3⟩:=q
  have e:tx (.tuple [enc a,enc a1,enc a2,enc a3])++s=tx (.tuple [enc b,enc b1,enc b2,enc b3])++t:=e
  obtain⟨rfl,h0⟩:=gqt e
  obtain⟨rfl,h1⟩:=Px h0
  obtain⟨rfl,h2⟩:=Px h1
  obtain⟨rfl,h3⟩:=Px h2
  exact⟨rfl,(List.cons.inj h3).2⟩
end Pu
namespace Pu
open PySem L2 Enc La
section
variable {F M:Nat}{f g:Nat->Bool}{S:DS}
theorem Nd.set (h:c9 F M f S)(hb:F+M<=1500):Nd 2 378023 (enc S):=by
 have y0:=h.ok.y0
 have z1:=h.ok.z1
 have hy:=h.y
 have zM:=h.zM
 have xl:=KR h.ok.x y0
 have ul:=KR h.ok.u (by omega)
 have e:(4*(94503+2)+3)=378023:=by omega
 rw [<-e]
 refine Nd.tuple (k:=1) (n:=4) (λd hd=>?_) (Kak _)
 rcases Kai.mp hd with rfl|hd
 ·exact (Nd.ints (n:=1500) (λx hx=>by have:=h.ok.x.rg x hx;omega) (by omega)).mono (Kak _) (by omega)
 rcases Kai.mp hd with rfl|hd
 ·exact (Nd.int (i:=S.y) (by omega) (by omega)).mono (by omega) (by omega)
 rcases Kai.mp hd with rfl|hd
 ·exact (Nd.int (i:=S.z) (by omega) (by omega)).mono (by omega) (by omega)
 rcases Kai.mp hd with rfl|hd
 ·exact (Nd.ints (n:=1500) (λx hx=>by have:=h.ok.u.rg x hx;omega) (by omega)).mono (Kak _) (by omega)
 ·cases hd
end
theorem iV.none {P:Nat->Prop}{r:Option Int}(h:iV P r)(hn:∀d,¬P d):r=none:=by
 rcases h with⟨rfl,_⟩|⟨d,rfl,h1,_⟩
 ·rfl
 ·exact absurd h1 (hn d)
section
variable {F M:Nat}{f:Nat->Bool}{A:DS}
theorem c9.congr {g:Nat->Bool}(h:c9 F M f A)(e:∀d,f d=g d):c9 F M g A:=by
 have:f=g:=funext e
 subst this;exact h
end
def nZ (h:Nat->Int)(r:Option Int):Prop:=(r=none/\∀b:Int,∃d,h d<b)∨∃d,r=some (h d)/\∀e,h d<=h e
def Xr (h:Nat->Int)(r:Option Int):Prop:=(r=none/\∀b:Int,∃d,b<h d)∨∃d,r=some (h d)/\∀e,h e<=h d
theorem nZ.neg {h:Nat->Int}{r:Option Int}(q:Xr h r):nZ (λd=>-h d) (r.map λv=>-v):=by
 rcases q with⟨rfl,q⟩|⟨d,rfl,q⟩
 ·exact .inl ⟨rfl,λb=>by obtain⟨d,hd⟩:=q (-b);exact⟨d,by show -h d<b;omega⟩⟩
 ·exact .inr ⟨d,rfl,λe=>by have:=q e;show -h d<=-h e;omega⟩
theorem nZ.uniq {h:Nat->Int}{r r':Option Int}(q:nZ h r)(q':nZ h r'):r=r':=by
 rcases q with⟨rfl,q⟩|⟨d,rfl,q⟩
 ·rcases q' with⟨rfl,_⟩|⟨e,rfl,q'⟩
  ·rfl
  ·obtain⟨x,hx⟩:=q (h e)
   have:=q' x
   omega
 ·rcases q' with⟨rfl,q'⟩|⟨e,rfl,q'⟩
  ·obtain⟨x,hx⟩:=q' (h d)
   have:=q x
   omega
  ·have:=q e
   have:=q' d
   rw [show h d=h e by omega]
theorem Xr.uniq {h:Nat->Int}{r r':Option Int}(q:Xr h r)(q':Xr h r'):r=r':=by
 have:=(nZ.neg q).uniq (nZ.neg q')
 cases r <;> cases r' <;> simp at this ⊢
 omega
theorem bV.own {L:cD}(hn:L.y≠[])(hz:0<=L.z)(hu:Up (lat L)):bV L.x.length L.y.length L.z (lat L) L:=by
 have n0:0<L.y.length:=Kar.mpr hn
 exact⟨Kak _,hn,Kbt _,n0,hz,by rw [Nat.div_self n0];omega,rfl,hu⟩
structure Cn (f:Nat->Int)(L:cD):Prop where
 ex:∃F M R,F+M<=98000/\AG F M R f L
section
variable {F M G N:Nat}{R S:Int}{f g:Nat->Int}{A B L L':cD}
theorem AG.cn (h:AG F M R f L)(hb:F+M<=98000):Cn f L:=⟨_,_,_,hb,h⟩
theorem Cn.uniq (h:Cn f L)(h':Cn f L'):L=L':=by
 obtain⟨F,M,R,hb,c⟩:=h.ex
 obtain⟨F',M',R',hb',c'⟩:=h'.ex
 exact c.uniq c' hb hb'
theorem Cn.congr (h:Cn f L)(e:∀d,f d=g d):Cn g L:=by
 have:f=g:=funext e
 subst this;exact h
theorem Cn.canon (h:Cn f L):Canon f L.x.length L.y.length L.z/\Up f/\lat L=f/\L.y≠[]/\0<=L.z:=by
 obtain⟨F,M,R,hb,c⟩:=h.ex
 have r:=c.rep hb
 obtain⟨⟨L0,h0,rfl⟩⟩:=c
 obtain⟨_,F1,k,g,cn,_,_,_,_,e⟩:=KG L0 h0.y (by have:=h0.x;have:=h0.yM;omega)
 refine⟨?_,r.up,r.lt,r.y,r.z0⟩
 rw [e]
 have e1:(iT (lat L0) F1 k g).x.length=F1:=by simp [iT]
 have e2:(iT (lat L0) F1 k g).y.length=k:=by simp [iT]
 rw [e1,e2]
 rw [h0.lt] at cn
 exact cn
theorem Cn.rep (h:Cn f L)(hp:bq f F M R)(m0:0<M):bV F M R f L:=by
 obtain⟨c,up,lt,y,z0⟩:=h.canon
 have hd:=c.dvd m0 hp
 refine⟨c.YN _ (hp.down m0 c.per),y,hd,m0,z0,?_,lt,up⟩
 have h1:=c.per.mul (M / L.y.length)
 rw [Kdj hd] at h1
 have h2:=hp.gain h1
 rw [h2,KbZ];exact Ka4 _
theorem bV.NC (h:bV F M R f L):bq f F M (((M / L.y.length:Nat):Int)*L.z):=h.Ut.mono h.x
theorem bV.gain (h:bV F M R f L)(hp:bq f F M S):S=((M / L.y.length:Nat):Int)*L.z:=hp.gain h.Ut
theorem gjf (h:bV F M R f L)(hb:F+M<=98000):BC L/\Cn f (Rj L):=⟨(fZ h hb).1,AG.cn (fZ h hb).2 hb⟩
theorem grow (hp:bq f F M R)(up:Up f)(hR:0<R)(n:Nat):(n:Int)<=f (F+M*n):=by
 rw [bq.many hp n (Kak _)]
 have h0:=up.nn F
 have h1:1*(n:Int)<=R*(n:Int):=Kbu (by omega) (by omega)
 omega
end
section
variable {F M F0 k:Nat}{R S:Int}{f g:Nat->Int}{A B:cD}
theorem bq.minus {F k:Nat}{a b:Int}(h:bq f F k a)(h':bq g F k b):bq (λd=>f d-g d) F k (a-b):=λd hd=>by
 have:=h d hd
 have:=h' d hd
 show f (d+k)-g (d+k)=f d-g d+(a-b)
 omega
theorem Up.min (h:Up f)(h':Up g):Up (λd=>min (f d) (g d)):=⟨by have:=h.1;have:=h'.1;show 0<=Min.min (f 0) (g 0);omega,λd=>by have:=h.2 d;have:=h'.2 d;show Min.min (f d) (g d)<=Min.min (f (d+1)) (g (d+1));omega⟩
theorem Up.max (h:Up f)(h':Up g):Up (λd=>max (f d) (g d)):=⟨by have:=h.1;have:=h'.1;show 0<=Max.max (f 0) (g 0);omega,λd=>by have:=h.2 d;have:=h'.2 d;show Max.max (f d) (g d)<=Max.max (f (d+1)) (g (d+1));omega⟩
end
/-- h tells bh first day of which f tells at least a number -/
structure tT (f h:Nat->Int):Prop where
 n0:∀n,0<=h n
 iff:∀n d:Nat,(n:Int)<=f d↔h n<=(d:Int)
section
variable {F M:Nat}{R:Int}{f g h h':Nat->Int}{A:cD}
theorem tT.uniq (a:tT f h)(b:tT f h'):h=h':=by
 funext n
 have h1:=(a.iff n (h' n).toNat).mp ((b.iff n (h' n).toNat).mpr (by have:=b.n0 n;omega))
 have h2:=(b.iff n (h n).toNat).mp ((a.iff n (h n).toNat).mpr (by have:=a.n0 n;omega))
 have:=a.n0 n
 have:=b.n0 n
 omega
theorem tT.up (a:tT f h):Up h:=⟨a.n0 0,λn=>by
 have h1:=(a.iff (n+1) (h (n+1)).toNat).mpr (by have:=a.n0 (n+1);omega)
 have h2:=(a.iff n (h (n+1)).toNat).mp (by omega)
 have:=a.n0 (n+1)
 omega⟩
theorem tT.per (a:tT f h)(up:Up f)(hp:bq f F M R)(r0:0<=R):bq h ((f F).toNat+1) R.toNat (M:Int):=λn hn=>by
 have hn':f F<(n:Int):=by have:=up.nn F;omega
 have key:∀d:Nat,h (n+R.toNat)<=(d:Int)↔h n+(M:Int)<=(d:Int):=λd=>by
  rw [<-a.iff]
  rcases KaA d (F+M) with z|z
  ·have h1:=up.mono (show d<=F+M by omega)
   rw [hp F (Kak _)] at h1
   constructor
   ·intro q;omega
   ·intro q
    have h2:(n:Int)<=f F:=(a.iff n F).mpr (by omega)
    omega
  ·have h1:=hp (d-M) (by omega)
   rw [show d-M+M=d by omega] at h1
   have h2:=a.iff n (d-M)
   constructor
   ·intro q
    have:=h2.mp (by omega)
    omega
   ·intro q
    have:=h2.mpr (by omega)
    omega
 have k1:=(key (h (n+R.toNat)).toNat).mp (by have:=a.n0 (n+R.toNat);omega)
 have k2:=(key (h n+(M:Int)).toNat).mpr (by have:=a.n0 n;omega)
 have:=a.n0 n
 have:=a.n0 (n+R.toNat)
 omega
theorem tT.comp {fi gi:Nat->Int}(a:tT f fi)(b:tT g gi)(uf:Up f):tT (λd=>g (f d).toNat) (λn=>fi (gi n).toNat):=⟨λn=>a.n0 _,λn d=>by
 have h1:=b.iff n (f d).toNat
 have h2:=a.iff (gi n).toNat d
 have:=uf.nn d
 have:=b.n0 n
 show (n:Int)<=g (f d).toNat↔fi (gi n).toNat<=_
 rw [h1,<-h2]
 constructor <;> intro q <;> omega⟩
theorem tT.mn {fi gi:Nat->Int}(a:tT f fi)(b:tT g gi):tT (λd=>min (f d) (g d)) (λn=>max (fi n) (gi n)):=⟨λn=>by have:=a.n0 n;show 0<=Max.max (fi n) (gi n);omega,λn d=>by
 have h1:=a.iff n d
 have h2:=b.iff n d
 show (n:Int)<=Min.min (f d) (g d)↔Max.max (fi n) (gi n)<=_
 omega⟩
end
structure Sk (n:Nat)(s:ae):Prop where
 a0:0<=s.1
 b0:0<=s.2.1
 b1:s.2.1<10 ^ 40
 c0:0<=s.2.2
 c1:s.2.2<=n
theorem Sk.mono {n m:Nat}{s:ae}(h:Sk n s)(hm:n<=m):Sk m s:=⟨h.a0,h.b0,h.b1,h.c0,by have:=h.c1;omega⟩
theorem vo {x:Int}{j:Int}(h0:0<=x)(h1:x<10 ^ 80)(j0:0<=j)(j1:j<=1000):iE x j=true:=by
 unfold iE
 rw [decide_eq_true j0,decide_eq_true j1]
 have h2:x.natAbs<2 ^ 1000:=by
  have h3:x.natAbs<10 ^ 80:=by omega
  exact Nat.lt_trans h3 (by decide +kernel)
 rw [decide_eq_true h2]
 rfl
theorem q7 {α β:Type}(v:α×ae)(f:α->ae->β):eY v f=f v.1 v.2:=(Eq.refl (eY v f)).trans (Eq.refl (f v.1 v.2))
theorem uv {α:Type}(v:α×ae)(f:α->ae->Prop):fH v f=f v.1 v.2:=(Eq.refl (fH v f)).trans (Eq.refl (f v.1 v.2))
theorem B6.sub {xs ys:List Int}{n:Int}(h:B6 ys n)(hs:xs.Sublist ys):B6 xs n:=⟨h.pw.sublist hs,λx hx=>h.rg x (hs.subset hx)⟩
theorem DI {xs:List Int}{i:Int}(h0:0<=i)(h1:i<xs.length):au xs i∈xs:=by
 rw [Ik h0,KaD,Kao (by omega)]
 exact Kbb _
structure LOk (L:cD):Prop where
 n0:L.y≠[]
 z0:0<=L.z
 up:Up (lat L)
 xb:∀v∈L.x,v<=100
 yb:∀v∈L.y,v<=100
theorem LOk.rep {L:cD}(h:LOk L):bV L.x.length L.y.length L.z (lat L) L:=bV.own h.n0 h.z0 h.up
theorem iV.up {P:Nat->Prop}{r:Option Int}(h:iV P r)(k:Nat):iV (λd=>k<=d/\P (d-k)) (r.map λv=>v+(k:Int)):=by
 rcases h with⟨rfl,h⟩|⟨d,rfl,h1,h2⟩
 ·exact .inl ⟨rfl,λd q=>h _ q.2⟩
 ·refine .inr ⟨d+k,rfl,⟨by omega,by rw [show d+k-k=d by omega];exact h1⟩,λe he q=>h2 (e-k) (by omega) q.2⟩
theorem Nd.cqK {F M n:Nat}{f:Nat->Bool}{S:DS}(h:c9 F M f S)(hb:F+M<=n)(hn:n<=98000)(h1:1<=n):Nd 2 (4*((n*63+3)+2)+3) (enc S):=by
 have y0:=h.ok.y0
 have z1:=h.ok.z1
 have hy:=h.y
 have zM:=h.zM
 have xl:=KR h.ok.x y0
 have ul:=KR h.ok.u (by omega)
 refine Nd.tuple (k:=1) (n:=4) (λd hd=>?_) (Kak _)
 rcases Kai.mp hd with rfl|hd
 ·exact Nd.ints (n:=n) (λx hx=>by have:=h.ok.x.rg x hx;omega) (by omega)
 rcases Kai.mp hd with rfl|hd
 ·exact (Nd.int (i:=S.y) (by omega) (by omega)).mono (by omega) (by omega)
 rcases Kai.mp hd with rfl|hd
 ·exact (Nd.int (i:=S.z) (by omega) (by omega)).mono (by omega) (by omega)
 rcases Kai.mp hd with rfl|hd
 ·exact Nd.ints (n:=n) (λx hx=>by have:=h.ok.u.rg x hx;omega) (by omega)
 ·cases hd
theorem Nd.two {k c:Nat}{a b:PyData}(ha:Nd k c a)(hb:Nd k c b):Nd (k+1) (2*(c+2)+3) (.list [a,b]):=by
 refine Nd.list (n:=2) (λd hd=>?_) (Kak _)
 rcases Kai.mp hd with rfl|hd
 ·exact ha
 rcases Kai.mp hd with rfl|hd
 ·exact hb
 ·cases hd
theorem tT.back {f h u2:Nat->Int}(a:tT f h)(b:tT (λn=>h (n+1)) u2)(up:Up f)(m:Nat):u2 (m+1)=f m:=by
 have key:∀n:Nat,u2 (m+1)<=(n:Int)↔f m<=(n:Int):=λn=>by
  rw [<-b.iff]
  have:=a.iff (n+1) m
  show ((m+1:Nat):Int)<=h (n+1)↔_
  omega
 have h1:=(key (u2 (m+1)).toNat).mp (by have:=b.n0 (m+1);omega)
 have h3:=(key (f m).toNat).mpr (by have:=up.nn m;omega)
 have:=b.n0 (m+1)
 have:=up.nn m
 omega
mutual
/-- how many lists -/
def nl:PyData->Nat
 |.list xs=>EG xs+1
 |.tuple xs=>EG xs
 |_=>0
def EG:List PyData->Nat
 |[]=>0
 |x::xs=>nl x+EG xs
end
theorem wJ (d:PyData):3<=cost d:=by cases d <;> simp [cost]
theorem gqf:∀xs:List PyData,5*xs.length<=Ax xs
 |[]=>by simp
 |x::xs=>by have:=gqf xs;have:=wJ x;simp only [Kah,Ax];omega
mutual
theorem Kq:∀d:PyData,small d=true->cost d<=500000->lD d=true
 |.none,_,_=>by simp [lD]
 |.bool _,_,_=>by simp [lD]
 |.int _,_,_=>by simp [lD]
 |.str _,_,_=>by simp [lD]
 |.dict _,h,_=>by simp [small] at h
 |.list xs,h,c=>by
  have hs:ur xs=true:=by simpa [small] using h
  simp only [cost] at c
  have:=gqf xs
  simp only [lD,KaU]
  exact⟨decide_eq_true (by omega),gqd xs hs (by omega)⟩
 |.tuple xs,h,c=>by
  have hs:ur xs=true:=by simpa [small] using h
  simp only [cost] at c
  have:=gqf xs
  simp only [lD,KaU]
  exact⟨decide_eq_true (by omega),gqd xs hs (by omega)⟩
theorem gqd:∀xs:List PyData,ur xs=true->Ax xs<=500000->mh xs=true
 |[],_,_=>by simp [mh]
 |x::xs,h,c=>by
  obtain⟨hx,hs⟩:small x=true/\ur xs=true:=by simpa [ur] using h
  simp only [Ax] at c
  simp only [mh,KaU]
  exact⟨Kq x hx (by omega),gqd xs hs (by omega)⟩
end
mutual
theorem De:∀d:PyData,dep d<=d.depth
 |.none=>by simp [dep]
 |.bool _=>by simp [dep]
 |.int _=>by simp [dep]
 |.str _=>by simp [dep]
 |.dict _=>by simp [dep]
 |.list xs=>by have:=fjm xs;simp only [dep,PyData.depth];omega
 |.tuple xs=>by have:=fjm xs;simp only [dep,PyData.depth];omega
theorem fjm:∀xs:List PyData,KW xs<=PyData.depthAll xs
 |[]=>by simp [KW]
 |x::xs=>by have:=De x;have:=fjm xs;simp only [KW,PyData.depthAll];omega
end
theorem Nd.copy {k c:Nat}{d:PyData}(h:Nd k c d)(hk:k<=8)(hc:c<=500000)(hn:aB d=false):GN d=true:=by
 have h1:=h.dep
 have h2:=h.co
 have:=De d
 unfold GN
 rw [Kq d h.sm (by omega),hn]
 simp only [Bool.not_false,KcS,decide_eq_true_eq]
 omega
/-- a ladder -/
structure LO (L:cD):Prop where
 n0:L.y≠[]
 z0:0<=L.z
 up:Up (lat L)
theorem LO.rep {L:cD}(h:LO L):bV L.x.length L.y.length L.z (lat L) L:=bV.own h.n0 h.z0 h.up
theorem rA {α σ β:Type}{st:σ}{f:α->β}{g:σ->β}:iy (.inr st) f g=g st:=rfl
/-- all numbers greater by as bq8 -/
theorem Ej (L:cD)(h:L.y≠[])(c:Int)(d:Nat):lat (T3.mk (L.x.map λv=>v+c) (L.y.map λv=>v+c) L.z) d=lat L d+c:=by
 have n0:=Kar.mpr h
 have lx:(L.x.map λv=>v+c).length=L.x.length:=by simp
 have ly:(L.y.map λv=>v+c).length=L.y.length:=by simp
 rcases KaA d L.x.length with q|q
 ·rw [GD q,GD (L:=T3.mk (L.x.map λv=>v+c) (L.y.map λv=>v+c) L.z) (by show d<(L.x.map λv=>v+c).length;omega)]
  exact getD_map q
 ·have e1:=O5 L (d-L.x.length)
  have e2:=O5 (T3.mk (L.x.map λv=>v+c) (L.y.map λv=>v+c) L.z) (d-L.x.length)
  have e2:lat (T3.mk (L.x.map λv=>v+c) (L.y.map λv=>v+c) L.z) ((L.x.map λv=>v+c).length+(d-L.x.length))=(L.y.map λv=>v+c).getD ((d-L.x.length) % (L.y.map λv=>v+c).length) 0+L.z*(((d-L.x.length) / (L.y.map λv=>v+c).length:Nat):Int):=e2
  rw [lx,ly,getD_map (KaS _ n0)] at e2
  rw [show L.x.length+(d-L.x.length)=d by omega] at e1 e2
  rw [e1,e2];omega
theorem LO.more {L:cD}(h:LO L){c:Int}(c0:0<=c):LO (T3.mk (L.x.map λv=>v+c) (L.y.map λv=>v+c) L.z):=by
 refine⟨by simpa using h.n0,h.z0,?_⟩
 have e:lat (T3.mk (L.x.map λv=>v+c) (L.y.map λv=>v+c) L.z)=λd=>lat L d+c:=funext (Ej L h.n0 c)
 rw [e]
 exact⟨by have:=h.up.1;show 0<=lat L 0+c;omega,λd=>by have:=h.up.2 d;show lat L d+c<=lat L (d+1)+c;omega⟩
/-- what is shown of a ladder,by how many numbers there are -/
theorem Nd.bq0 {L:cD}{a b:Nat}(hx:∀v∈L.x,-10 ^ 59<=v/\v<=10 ^ 59)(hy:∀v∈L.y,-10 ^ 59<=v/\v<=10 ^ 59)(hz:-10 ^ 59<=L.z/\L.z<=10 ^ 59)(la:L.x.length<=a)(lb:L.y.length<=b):Nd 2 ((a+b)*63+90) (enc L):=by
 have n1:=Nd.ints (n:=L.x.length) hx (Kak _)
 have n2:=Nd.ints (n:=L.y.length) hy (Kak _)
 have n3:=Nd.int (i:=L.z) hz.1 hz.2
 show Nd 2 _ (.tuple [.list (L.x.map .int),.list (L.y.map .int),.int L.z])
 generalize PyData.list (L.x.map .int)=p at *
 generalize PyData.list (L.y.map .int)=q at *
 generalize PyData.int L.z=r at *
 have d1:=n1.dep
 have d2:=n2.dep
 have d3:=n3.dep
 have c1:=n1.co
 have c2:=n2.co
 have c3:=n3.co
 refine⟨by simp [PyData.canLay0,PyData.canLayAll0,n1.lay,n2.lay,n3.lay],by simp only [PyData.depth,PyData.depthAll];omega,by simp [small,ur,n1.sm,n2.sm,n3.sm],by simp only [cost,Ax];omega⟩
theorem Nd.bqZ {F M a:Nat}{R:Int}{f:Nat->Int}{L:cD}(h:bV F M R f L)(hR:R<=10 ^ 50)(hf:f (F+M)<=10 ^ 50)(ha:F+M<=a):Nd 2 (a*63+90) (enc L):=by
 have hx:=h.x
 have hy:=h.yM
 have z0:=h.z0
 have zl:=h.zle
 have ex:=zQ L
 have ey:=zS L
 rw [h.lt] at ex ey
 have:=Nd.bq0 (L:=L) (a:=F) (b:=M) (λv hv=>by
  rw [ex] at hv
  obtain⟨i,hi,rfl⟩:=KaM.mp hv
  have hi:=KaJ.mp hi
  have:=h.up.nn i
  have:=h.up.mono (show i<=F+M by omega)
  omega) (λv hv=>by
  rw [ey] at hv
  obtain⟨i,hi,rfl⟩:=KaM.mp hv
  have hi:=KaJ.mp hi
  have:=h.up.nn (L.x.length+i)
  have:=h.up.mono (show L.x.length+i<=F+M by omega)
  omega) ⟨by omega,by omega⟩ hx hy
 exact this.mono (by omega) (by omega)
theorem rF {α β:Type}{P:α->Prop}[DecidablePred P]{g:α->β}{tb:List β->α->List β}(ht:∀st x,tb st x=if P x then st++[g x] else st):∀(xs:List α) (st:List β),xs.foldl tb st=st++(xs.filter λx=>decide (P x)).map g
 |[],st=>by simp
 |x::xs,st=>by
  rw [Kcz,rF ht xs,ht]
  by_cases c:P x
  ·rw [if_pos c]
   have:(x::xs).filter (λx=>decide (P x))=x::xs.filter λx=>decide (P x):=by simp [KdE,c]
   rw [this,Kal,Kbd];rfl
  ·rw [if_neg c]
   have:(x::xs).filter (λx=>decide (P x))=xs.filter λx=>decide (P x):=by simp [KdE,c]
   rw [this]
theorem rG {α β:Type}{P:α->Prop}[DecidablePred P]{g:α->β}{tb:List β->α->List β}{db:List β->α->Prop}{N:Nat}(ht:∀st x,tb st x=if P x then st++[g x] else st):∀(xs:List α) (st:List β),st.length+xs.length<=N->(∀st x,x∈xs->st.length<N->db st x)->fg tb db xs st
 |[],_,_,_=>trivial
 |x::xs,st,hl,h=>by
  have hl:st.length+(xs.length+1)<=N:=hl
  refine⟨h st x Kaa (by omega),rG ht xs _ ?_ λst x hx=>h st x (Kad _ hx)⟩
  rw [ht]
  split
  ·simp;omega
  ·omega
theorem bl {α:Type}{v:α}{f:α->Prop}{g:α->Bool×ae}(h:f v/\(g v).1=true):bT v f/\(lt v g).1=true:=h
/-- so many steps -/
def vj (g:Nat->Nat)(x:Nat):Nat->Nat
 |0=>x
 |k+1=>g (vj g x k)
theorem zq (g:Nat->Nat)(x:Nat)(j:Nat):∀k,vj g x (j+k)=vj g (vj g x j) k
 |0=>rfl
 |k+1=>congrArg g (zq g x j k)
def Mo (g:Nat->Nat):Prop:=∀a b,a<=b->g a<=g b
theorem EU {g:Nat->Nat}(h:Mo g){x:Nat}(hx:x<=g x):∀k,vj g x k<=vj g x (k+1)
 |0=>hx
 |k+1=>h _ _ (EU h hx k)
theorem ET {g:Nat->Nat}(h:Mo g){x:Nat}(hx:g x<=x):∀k,vj g x (k+1)<=vj g x k
 |0=>hx
 |k+1=>h _ _ (ET h hx k)
/-- no cqO day among bh first so many -/
def jH (g:Nat->Nat)(x k:Nat):Prop:=∀j,j<k->g (vj g x j)≠vj g x j
theorem jH.add {g:Nat->Nat}{x j k:Nat}(h:jH g x j)(h2:jH g (vj g x j) k):jH g x (j+k):=λi hi=>by
 rcases KaA i j with q|q
 ·exact h i q
 ·have:=h2 (i-j) (by omega)
  rwa [<-zq,show j+(i-j)=i by omega] at this
/-- each step up adds one at least -/
theorem jH.up {g:Nat->Nat}(hm:Mo g){x k:Nat}(hx:x<=g x)(h:jH g x k):∀j,j<=k->x+j<=vj g x j
 |0,_=>Kak _
 |j+1,hj=>by
  have h1:=jH.up hm hx h j (by omega)
  have h2:=EU hm hx j
  have h3:vj g x (j+1)≠vj g x j:=h j (by omega)
  omega
theorem jH.down {g:Nat->Nat}(hm:Mo g){x k:Nat}(hx:g x<=x)(h:jH g x k):∀j,j<=k->vj g x j+j<=x
 |0,_=>Kak _
 |j+1,hj=>by
  have h1:=jH.down hm hx h j (by omega)
  have h2:=ET hm hx j
  have h3:vj g x (j+1)≠vj g x j:=h j (by omega)
  omega
/-- from e on a round of m days adds m -/
structure Yu (g:Nat->Nat)(e m:Nat):Prop where
 mo:Mo g
 m0:0<m
 per:∀x,e<=x->g (x+m)=g x+m
section
variable {g:Nat->Nat}{e m:Nat}(h:Yu g e m)
include h
theorem Yu.mul (x:Nat)(hx:e<=x):∀q,g (x+q*m)=g x+q*m
 |0=>by simp
 |q+1=>by
  have h1:=Yu.mul x hx q
  have h2:=h.per (x+q*m) (by omega)
  rw [Ka0,<-Kcd,h2,h1]
  omega
end
end Pu
namespace Pu
def cst (c:Nat->Int):List Nat->Int
 |[]=>0
 |x::xs=>c x+cst c xs
def Cut (n:Nat)(xs:List Nat):Prop:=(∀x∈xs,1<=x)/\xs.sum=n
theorem Cut.app {a b:Nat}{xs ys:List Nat}(h:Cut a xs)(k:Cut b ys):Cut (a+b) (xs++ys):=
 ⟨λx hx=>(Kat.mp hx).elim (h.1 x) (k.1 x),by rw [KaE,h.2,k.2]⟩
def Lc (c:Nat->Int)(n:Nat)(v:Int):Prop:=(∃xs,Cut n xs/\cst c xs=v)/\∀xs,Cut n xs->v<=cst c xs
theorem Lc.uniq {c:Nat->Int}{n:Nat}{v w:Int}(h:Lc c n v)(k:Lc c n w):v=w:=by
 obtain⟨⟨xs,h1,h2⟩,h3⟩:=h
 obtain⟨⟨ys,k1,k2⟩,k3⟩:=k
 have a:=h3 ys k1
 have b:=k3 xs h1
 omega
theorem Et (φ:Nat->Int):∀b:Nat,∃p,p<=b/\∀q,q<=b->φ p<=φ q
 |0=>⟨0,Kak _,λq hq=>by rw [Nat.le_zero.mp hq];exact Ka4 _⟩
 |b+1=>by
  obtain⟨p,h1,h2⟩:=Et φ b
  by_cases c:φ p<=φ (b+1)
  ·refine⟨p,by omega,λq hq=>?_⟩
   rcases KaA q (b+1) with z|z
   ·exact h2 q (by omega)
   ·rw [show q=b+1 by omega];exact c
  ·refine⟨b+1,Kak _,λq hq=>?_⟩
   rcases KaA q (b+1) with z|z
   ·have:=h2 q (by omega);omega
   ·rw [show q=b+1 by omega];exact Ka4 _
theorem TZ (c:Nat->Int)(n:Nat):∃v,Lc c n v:=by
 induction n using Nat.strongRecOn with
 |ind n ih=>
  cases n with
  |zero=>
   refine⟨0,⟨[],⟨λx hx=>(by cases hx),rfl⟩,rfl⟩,λxs hx=>?_⟩
   cases xs with
   |nil=>exact Ka4 _
   |cons x xs=>
    have h1:=hx.1 x (Kaa ..)
    have h2:=hx.2
    rw [Ka8] at h2
    omega
  |succ n=>
   have w:∀p,∃v,p<=n->Lc c (n-p) v:=λp=>by
    obtain⟨v,hv⟩:=ih (n-p) (by omega)
    exact⟨v,λ_=>hv⟩
   obtain⟨p,p1,p2⟩:=Et (λp=>c (p+1)+Classical.choose (w p)) n
   have hp:=Classical.choose_spec (w p) p1
   refine⟨c (p+1)+Classical.choose (w p),?_,λxs hx=>?_⟩
   ·obtain⟨⟨ys,y1,y2⟩,_⟩:=hp
    refine⟨(p+1)::ys,⟨λx hx=>?_,?_⟩,by show c (p+1)+cst c ys=_;rw [y2]⟩
    ·rcases Kai.mp hx with rfl|hx
     ·omega
     ·exact y1.1 x hx
    ·rw [Ka8,y1.2];omega
   ·cases xs with
    |nil=>have:=hx.2;simp at this
    |cons x xs=>
     have h1:=hx.1 x (Kaa ..)
     have h2:=hx.2
     rw [Ka8] at h2
     have q:=p2 (x-1) (by omega)
     have hq:=Classical.choose_spec (w (x-1)) (by omega)
     have:=hq.2 xs ⟨λy hy=>hx.1 y (Kad _ hy),by omega⟩
     rw [show x-1+1=x by omega] at q
     show _<=c x+cst c xs
     omega
noncomputable def lsum (c:Nat->Int)(n:Nat):Int:=Classical.choose (TZ c n)
section
variable {c:Nat->Int}
/-- bh least sum with a last part from first on -/
def LD (c:Nat->Int)(first n:Nat)(v:Int):Prop:=(∃p,first<=p/\p<=n/\v=lsum c (n-p)+c p)/\∀p,first<=p->p<=n->v<=lsum c (n-p)+c p
end
section
variable {c:Nat->Int}
/-- what QX has found,behind bh places below n -/
structure Ve (c:Nat->Int)(rise:Int)(size n:Nat)(C:Int)(L:Nat)(b:Bool):Prop where
 L1:1<=L
 sl:∀p:Nat,1<=p->p<n->C*(p:Int)<=c p*(L:Int)
 rr:C*(size:Int)<=rise*(L:Int)
 yes:b=true->L<n/\c L=C
 no:b=false->C=rise/\L=size/\∀p:Nat,1<=p->p<n->C*(p:Int)<c p*(L:Int)
theorem uA {a b d:Int}{L p q:Nat}(L1:1<=L)(h1:a*(L:Int)<=b*(p:Int))(h2:b*(q:Int)<=d*(L:Int)):a*(q:Int)<=d*(p:Int):=by
 have e1:(a*(L:Int))*(q:Int)<=(b*(p:Int))*(q:Int):=Kbu h1 (by omega)
 have e2:(b*(q:Int))*(p:Int)<=(d*(L:Int))*(p:Int):=Kbu h2 (by omega)
 have e3:(b*(p:Int))*(q:Int)=(b*(q:Int))*(p:Int):=by rw [KbR,KbR,KbZ (p:Int)]
 have e4:(L:Int)*(a*(q:Int))<=(L:Int)*(d*(p:Int)):=by
  have f1:(L:Int)*(a*(q:Int))=(a*(L:Int))*(q:Int):=by rw [KbZ a (L:Int),KbR]
  have f2:(L:Int)*(d*(p:Int))=(d*(L:Int))*(p:Int):=by rw [KbZ d (L:Int),KbR]
  rw [f1,f2];omega
 exact Int.le_of_mul_le_mul_left e4 (by omega)
theorem Ve.step {rise:Int}{size n:Nat}{C:Int}{L:Nat}{b:Bool}(h:Ve c rise size n C L b)(n1:1<=n):
  ((0<C*(n:Int)-c n*(L:Int)∨(C*(n:Int)-c n*(L:Int)=0/\b=false))->Ve c rise size (n+1) (c n) n true)/\(¬(0<C*(n:Int)-c n*(L:Int)∨(C*(n:Int)-c n*(L:Int)=0/\b=false))->Ve c rise size (n+1) C L b):=by
 constructor
 ·intro g
  have g1:c n*(L:Int)<=C*(n:Int):=by rcases g with g|g <;> omega
  refine⟨n1,λp h1 h2=>?_,uA h.L1 g1 h.rr,λ_=>⟨by omega,rfl⟩,λz=>(by cases z)⟩
  rcases KaA p n with z|z
  ·exact uA h.L1 g1 (h.sl p h1 z)
  ·rw [show p=n by omega];exact Ka4 _
 ·intro g
  have g1:C*(n:Int)<=c n*(L:Int):=by
   rcases Int.lt_or_le 0 (C*(n:Int)-c n*(L:Int)) with z|z
   ·exact absurd (.inl z) g
   ·omega
  refine⟨h.L1,λp h1 h2=>?_,h.rr,λhb=>⟨by have:=(h.yes hb).1;omega,(h.yes hb).2⟩,λhb=>?_⟩
  ·rcases KaA p n with z|z
   ·exact h.sl p h1 z
   ·rw [show p=n by omega];exact g1
  ·obtain⟨i1,i2,i3⟩:=h.no hb
   refine⟨i1,i2,λp h1 h2=>?_⟩
   rcases KaA p n with z|z
   ·exact i3 p h1 z
   ·rw [show p=n by omega]
    have:C*(n:Int)-c n*(L:Int)≠0:=λw=>g (.inr ⟨w,hb⟩)
    omega
end
end Pu
namespace Pu
open PySem L2 Enc La
def sm (f:Nat->Int):Nat->Int
 |0=>0
 |n+1=>sm f n+f n
abbrev Row:=List Int×List Int
structure RRep (F M:Nat)(f:Nat->Int)(R:Row):Prop where
 x:R.1.length<=F
 y:R.2≠[]
 m:R.2.length∣M
 m0:0<M
 lt:lat (T3.mk R.1 R.2 0)=f
/-- Vm -/
structure B5 (F M:Nat)(f:Nat->Int)(R:Row):Prop extends RRep F M f R where
 nn:∀d,0<=f d
theorem sW (φ:Nat->Int)(a:Nat):au ((Kac (a+1)).map φ) (-(1:Int))=φ a:=by
 rw [AK (by simp),KaD,KaO]
 simp
section
variable {F M:Nat}{f g:Nat->Int}{R:Row}
theorem RRep.n0 (h:RRep F M f R):0<R.2.length:=Kar.mpr h.y
theorem RRep.yM (h:RRep F M f R):R.2.length<=M:=KaH h.m0 h.m
theorem RRep.per (h:RRep F M f R):bq f R.1.length R.2.length 0:=h.lt ▸ Se (T3.mk R.1 R.2 0) h.y
theorem RRep.list (h:RRep F M f R):R.1++R.2=(Kac (R.1.length+R.2.length)).map f:=by
 rw [<-h.lt];exact Ga (T3.mk R.1 R.2 0)
theorem RRep.early (h:RRep F M f R):R.1=(Kac R.1.length).map f:=by
 rw [<-h.lt];exact zQ (T3.mk R.1 R.2 0)
theorem RRep.turn (h:RRep F M f R):R.2=(Kac R.2.length).map λi=>f (R.1.length+i):=by
 rw [<-h.lt];exact zS (T3.mk R.1 R.2 0)
theorem RRep.own {x y:List Int}(hy:y≠[]):RRep x.length y.length (lat (T3.mk x y 0)) (x,y):=⟨Kak _,hy,Kbt _,Kar.mpr hy,rfl⟩
theorem RRep.congr (h:RRep F M f R)(e:∀d,f d=g d):RRep F M g R:=by
 have:f=g:=funext e
 subst this;exact h
theorem B5.congr (h:B5 F M f R)(e:∀d,f d=g d):B5 F M g R:=by
 have:f=g:=funext e
 subst this;exact h
/-- bh row of a function eA comes round -/
theorem zC {e m:Nat}(m0:0<m)(hp:bq f e m 0):RRep e m f ((Kac e).map f,(Kac m).map λi=>f (e+i)):=
 ⟨by simp,by simp;omega,by simp,m0,Xn m0 hp⟩
theorem Sd (f:Nat->Int)(n:Nat):sm f (n+1)=sm f n+f n:=rfl
theorem FA (nn:∀d,0<=f d):Up (sm f):=⟨Ka4 _,λd=>by have:=nn d;rw [Sd];omega⟩
theorem Xv {e m:Nat}(p:bq f e m 0):bq (sm f) e m (sm f (e+m)-sm f e):=λd hd=>by
 obtain⟨k,rfl⟩:∃k,d=e+k:=⟨d-e,by omega⟩
 clear hd
 induction k with
 |zero=>simp;omega
 |succ k ih=>
  have:=p (e+k) (by omega)
  rw [show e+(k+1)+m=(e+k+m)+1 by omega,Sd,ih,show e+(k+1)=(e+k)+1 by omega,Sd]
  omega
theorem FG (f:Nat->Int)(F:Nat):∀n:Nat,KbW ((Kac n).map λi=>f (F+i))=sm f (F+n)-sm f F
 |0=>by simp
 |n+1=>by
  rw [Kbj,Kav,KaE,FG f F n]
  show _+(f (F+n)+0)=sm f (F+n)+f (F+n)-_
  omega
theorem B5.IL (h:B5 F M f R):∀v∈R.1++R.2,0<=v:=λv hv=>by
 rw [h.list] at hv
 obtain⟨i,_,rfl⟩:=KaM.mp hv
 exact h.nn i
theorem B5.need (h:B5 F M f R)(hb:F+M<=98000):i_ R:=by
 have hx:=h.x
 have hy:=h.yM
 have l:R.1.length+R.2.length<=100000:=by omega
 refine⟨λ_=>⟨l,by rw [Kam];omega⟩,λz=>z ?_⟩
 refine decide_eq_true ⟨decide_eq_true h.y,?_⟩
 rw [Kbk]
 intro b hb
 obtain⟨v,hv,rfl⟩:=KaM.mp hb
 exact decide_eq_true (h.IL v hv)
theorem B5.up (h:B5 F M f R):Up (sm f):=FA h.nn
/-- bh Yi sum -/
theorem RRep.sum (h:RRep F M f R):KbW R.2=sm f (R.1.length+R.2.length)-sm f R.1.length:=by
 have e:=FG f R.1.length R.2.length
 rw [<-h.turn] at e
 exact e
structure Gn (f:Nat->Int)(R:Row):Prop where
 c:Canon f R.1.length R.2.length 0
 e:R=((Kac R.1.length).map f,(Kac R.2.length).map λi=>f (R.1.length+i))
theorem Gn.uniq {S:Row}(h:Gn f R)(h':Gn f S):R=S:=by
 obtain⟨e1,e2,_⟩:=h.c.uniq h'.c
 rw [h.e,h'.e,e1,e2]
theorem Gn.congr (h:Gn f R)(e:∀d,f d=g d):Gn g R:=by
 have:f=g:=funext e
 subst this;exact h
theorem Gn.rep (h:Gn f R):RRep R.1.length R.2.length f R:=by
 have hp:=h.c.per
 have p0:=h.c.pos
 refine⟨Kak _,λz=>by rw [z] at p0;simp at p0,Kbt _,p0,?_⟩
 have e:=Xn p0 hp
 have e2:iT f R.1.length R.2.length 0=T3.mk R.1 R.2 0:=by
  have:=h.e
  unfold iT
  have a:R.1=(Kac R.1.length).map f:=congrArg Prod.fst this
  have b:R.2=(Kac R.2.length).map λi=>f (R.1.length+i):=congrArg Prod.snd this
  rw [<-a,<-b]
 rwa [e2] at e
theorem r_ (h:RRep F M f R)(hb:F+M<=97000):yh R/\Gn f (GB R):=by
 have hx:=h.x
 have hy:=h.yM
 obtain⟨w1,F',k,g',w2,_,_,_,w4,w3⟩:=KG (T3.mk R.1 R.2 0) h.y (by show R.1.length+R.2.length<99000;omega)
 rw [h.lt] at w2 w3
 have g0:g'=0:=by
  have p1:=w2.per.mul R.2.length
  have p2:=h.per.mul k
  rw [KaV] at p1
  have e:=p1.gain p2
  have n0:=h.n0
  rcases Int.mul_eq_zero.mp (show (R.2.length:Int)*g'=0 by rw [e];simp) with z|z
  ·omega
  ·exact z
 subst g0
 refine⟨w1,?_⟩
 unfold GB
 rw [w3]
 have a:((iT f F' k 0).x.length=F'):=by simp [iT]
 have b:((iT f F' k 0).y.length=k):=by simp [iT]
 refine⟨?_,?_⟩
 ·show Canon f (iT f F' k 0).x.length (iT f F' k 0).y.length 0
  rw [a,b];exact w2
 ·show ((iT f F' k 0).x,(iT f F' k 0).y)=((Kac (iT f F' k 0).x.length).map f,(Kac (iT f F' k 0).y.length).map λi=>f ((iT f F' k 0).x.length+i))
  rw [a,b];rfl
def str (f:Nat->Int)(n d:Nat):Int:=sm f (d+n)-sm f d
def sgn (mx:Bool):Int:=if mx then 1 else -1
/-- v is bh best sum of a Yn of n days -/
def Yr (mx:Bool)(f:Nat->Int)(n:Nat)(v:Int):Prop:=(∃d,str f n d=v)/\∀d,if mx then str f n d<=v else v<=str f n d
theorem Yr.uniq {mx:Bool}{n:Nat}{v w:Int}(h:Yr mx f n v)(h':Yr mx f n w):v=w:=by
 obtain⟨⟨d,hd⟩,a⟩:=h
 obtain⟨⟨e,he⟩,b⟩:=h'
 have a1:=a e
 have b1:=b d
 cases mx
 ·simp only [KbJ,if_false] at a1 b1;omega
 ·simp only [if_true] at a1 b1;omega
end
def wt (a o:Nat->Int)(w:Int)(s:Nat):Nat->Int
 |0=>w
 |n+1=>max 0 (wt a o w s n+a (s+n)-o (s+n))
def qw (a o:Nat->Int)(d:Nat):Int:=wt a o 0 0 d
def dn (a o:Nat->Int)(d:Nat):Int:=min (qw a o d+a d) (o d)
section
variable {F M:Nat}{f g a o:Nat->Int}{A O R:Row}
theorem lW (h:RRep F M f R)(d:Nat)(hb:M<=98000):Q6 R (d:Int)/\Gx R (d:Int)=f d:=by
 have n0:=h.n0
 have hy:=h.yM
 have lt':=h.lt
 unfold Q6 Gx fC Zb
 simp only [c_,lt_eq]
 show (((d:Int)<(R.1.length:Int)->_)/\(¬(d:Int)<(R.1.length:Int)->_))/\(if (d:Int)<(R.1.length:Int) then au R.1 (d:Int) else _)=_
 by_cases hd:(d:Int)<(R.1.length:Int)
 ·rw [if_pos hd]
  refine⟨⟨λ_=>⟨by omega,hd⟩,λq=>absurd hd q⟩,?_⟩
  rw [KD,<-lt',GD (L:=T3.mk R.1 R.2 0) (show d<R.1.length by omega)]
 ·rw [if_neg hd]
  have e:(d:Int)-(R.1.length:Int)=((d-R.1.length:Nat):Int):=by omega
  have hm:=KaS (d-R.1.length) n0
  rw [e,<-KaI,wg]
  show (_/\(_->(0<(R.2.length:Int)/\(R.2.length:Int)<_)/\(-(R.2.length:Int)<=_/\_<(R.2.length:Int))/\_))/\au R.2 _+_=_
  rw [KD]
  refine⟨⟨λq=>absurd q hd,λ_=>⟨⟨by omega,by omega⟩,⟨by omega,by omega⟩,.inl (by show Ka5 0<_;decide)⟩⟩,?_⟩
  have:=O5 (T3.mk R.1 R.2 0) (d-R.1.length)
  rw [show (T3.mk R.1 R.2 (0:Int)).x.length+(d-R.1.length)=d by show R.1.length+_=_;omega,lt'] at this
  rw [this]
theorem HQ (a o:Nat->Int)(w:Int)(s n:Nat):wt a o w s (n+1)=max 0 (wt a o w s n+a (s+n)-o (s+n)):=rfl
theorem FW (a o:Nat->Int)(w:Int)(s m:Nat):∀n:Nat,wt a o w s (m+n)=wt a o (wt a o w s m) (s+m) n
 |0=>rfl
 |n+1=>by
  show wt a o w s ((m+n)+1)=_
  rw [HQ,HQ,FW a o w s m n,show s+(m+n)=s+m+n by omega]
theorem MN (a o:Nat->Int)(s n:Nat):qw a o (s+n)=wt a o (qw a o s) s n:=by
 have:=FW a o 0 0 s n
 rw [Kb0] at this
 exact this
theorem Jl (a o:Nat->Int)(d:Nat):qw a o (d+1)=max 0 (qw a o d+a d-o d):=by
 have:=HQ a o 0 0 d
 rw [Kb0] at this
 exact this
theorem Lz {a o:Nat->Int}{w:Int}(hw:0<=w)(s:Nat):∀n:Nat,0<=wt a o w s n
 |0=>hw
 |n+1=>by rw [HQ];omega
theorem rY (a o:Nat->Int)(d:Nat):0<=qw a o d:=Lz (Ka4 _) 0 d
theorem Xp {a o:Nat->Int}{F M:Nat}(pa:bq a F M 0)(po:bq o F M 0)(w:Int){s:Nat}(hs:F<=s):∀n:Nat,wt a o w (s+M) n=wt a o w s n
 |0=>rfl
 |n+1=>by
  have h1:=pa (s+n) (by omega)
  have h2:=po (s+n) (by omega)
  rw [HQ,HQ,Xp pa po w hs n,show s+M+n=s+n+M by omega,h1,h2]
  simp
/-- bh law of waiting lines -/
theorem FY {a o:Nat->Int}{w:Int}(hw:0<=w)(s:Nat):∀n:Nat,wt a o w s n=max (w+(sm a (s+n)-sm a s)-(sm o (s+n)-sm o s)) (wt a o 0 s n)
 |0=>by
  show w=max (w+(sm a s-sm a s)-(sm o s-sm o s)) 0
  omega
 |n+1=>by
  have:=FY (a:=a) (o:=o) hw s n
  rw [HQ,HQ,show s+(n+1)=s+n+1 by omega,Sd,Sd,this]
  omega
theorem NF (a o:Nat->Int)(s n:Nat):qw a o (s+n)=max (qw a o s+(sm a (s+n)-sm a s)-(sm o (s+n)-sm o s)) (wt a o 0 s n):=by
 rw [MN]
 exact FY (rY a o s) s n
end
section
variable {F M:Nat}{f g a o:Nat->Int}{A O R:Row}
theorem zA (s n:Nat){lo hi:Int}(h1:lo=(s:Int))(h2:hi=(s:Int)+(n:Int)):rng lo hi=(Kac n).map λi=>((s+i:Nat):Int):=by
 subst h1 h2
 unfold rng
 rw [show (s:Int)+(n:Int)-(s:Int)=(n:Int) by omega,KaK]
 exact Kas λk _=>by omega
theorem mZ (ha:RRep F M a A)(ho:RRep F M o O)(hb:M<=98000)(w:Int)(s:Nat):∀n:Nat,Ka2 (OR A O) (w,([]:List Int)) ((Kac n).map λi=>((s+i:Nat):Int))=(wt a o w s n,(Kac n).map λi=>min (wt a o w s i+a (s+i)) (o (s+i)))/\(n<=99000->fg (OR A O) (eqq A O) ((Kac n).map λi=>((s+i:Nat):Int)) (w,([]:List Int)))
 |0=>⟨rfl,λ_=>trivial⟩
 |n+1=>by
  obtain⟨h1,h2⟩:=mZ ha ho hb w s n
  obtain⟨a1,a2⟩:=lW ha (s+n) hb
  obtain⟨o1,o2⟩:=lW ho (s+n) hb
  have e:(Kac (n+1)).map (λi=>((s+i:Nat):Int))=(Kac n).map (λi=>((s+i:Nat):Int))++[((s+n:Nat):Int)]:=by
   rw [Kbj,Kav];rfl
  rw [e]
  constructor
  ·rw [Kdq,h1]
   show OR A O (wt a o w s n,_) ((s+n:Nat):Int)=_
   unfold OR
   simp only [lt_eq]
   rw [a2,o2]
   have e2:(Kac n).map (λi=>min (wt a o w s i+a (s+i)) (o (s+i)))++[min (wt a o w s n+a (s+n)) (o (s+n))]=(Kac (n+1)).map λi=>min (wt a o w s i+a (s+i)) (o (s+i)):=by
    rw [Kbj,Kav];rfl
   rw [e2,sW,HQ]
   congr 1
   omega
  ·intro hn
   refine fqs _ _ _ (h2 (by omega)) ?_
   rw [h1]
   unfold eqq
   simp only [c_]
   refine⟨a1,o1,?_,?_⟩
   ·show ((Kac n).map _).length<100000
    rw [Kaf,KaB];omega
   ·show -((((Kac n).map _)++[_]).length:Int)<=-1/\-1<((((Kac n).map _)++[_]).length:Int)
    rw [Kam,Kaf,KaB]
    simp
    omega
theorem m3 (ha:RRep F M a A)(ho:RRep F M o O)(hb:M<=98000)(w:Int)(s n:Nat)(hn:n<=99000){lo hi:Int}(h1:lo=(s:Int))(h2:hi=(s:Int)+(n:Int)):
  GH A O (rng lo hi) w/\wK A O (rng lo hi) w=((Kac n).map (λi=>min (wt a o w s i+a (s+i)) (o (s+i))),wt a o w s n):=by
 obtain⟨k1,k2⟩:=mZ ha ho hb w s n
 rw [zA s n h1 h2]
 unfold GH wK
 simp only [c_,lt_eq]
 rw [k1]
 exact⟨k2 hn,rfl⟩
/-- bh same from what U7 on day s -/
theorem fqu (ha:RRep F M a A)(ho:RRep F M o O)(hb:M<=98000)(s n:Nat)(hn:n<=99000){w lo hi:Int}(hw:w=qw a o s)(h1:lo=(s:Int))(h2:hi=(s:Int)+(n:Int)):
  GH A O (rng lo hi) w/\wK A O (rng lo hi) w=((Kac n).map (λi=>dn a o (s+i)),qw a o (s+n)):=by
 obtain⟨k1,k2⟩:=m3 ha ho hb w s n hn h1 h2
 refine⟨k1,?_⟩
 rw [k2,hw,<-MN]
 congr 1
 exact Kas λi _=>by unfold dn;rw [<-MN]
theorem Xy (pa:bq a F M 0)(po:bq o F M 0)(w:Int){s:Nat}(hs:F<=s)(n:Nat):∀k:Nat,wt a o w (s+k*M) n=wt a o w s n
 |0=>by simp
 |k+1=>by
  have:=Xp pa po w (s:=s+k*M) (by omega) n
  rw [show s+(k+1)*M=s+k*M+M by rw [Ka0];omega,this,Xy pa po w hs n k]
theorem xM (ha:RRep F M a A)(ho:RRep F M o O)(pa:bq a F M 0)(po:bq o F M 0)(hb:M<=98000)(k s n:Nat)(hF:F<=s)(hn:n<=99000){w lo hi:Int}(hw:w=qw a o (s+k*M))(h1:lo=(s:Int))(h2:hi=(s:Int)+(n:Int)):
  GH A O (rng lo hi) w/\wK A O (rng lo hi) w=((Kac n).map (λi=>dn a o (s+k*M+i)),qw a o (s+k*M+n)):=by
 obtain⟨k1,k2⟩:=m3 ha ho hb w s n hn h1 h2
 refine⟨k1,?_⟩
 rw [k2,hw,<-Xy pa po _ hF n k,<-MN]
 congr 1
 refine Kas λi _=>?_
 unfold dn
 have e1:a (s+k*M+i)=a (s+i):=by
  have:=bq.many pa k (d:=s+i) (by omega)
  rw [show s+i+M*k=s+k*M+i by rw [KaV];omega] at this
  rw [this];simp
 have e2:o (s+k*M+i)=o (s+i):=by
  have:=bq.many po k (d:=s+i) (by omega)
  rw [show s+i+M*k=s+k*M+i by rw [KaV];omega] at this
  rw [this];simp
 rw [e1,e2,MN a o (s+k*M) i,Xy pa po _ hF i k]
/-- two rows in U3 common way -/
structure QQ (F M:Nat)(a o:Nat->Int)(A O:Row):Prop where
 ha:B5 F M a A
 ho:B5 F M o O
 eF:F=max A.1.length O.1.length
 eM:M=Nat.lcm A.2.length O.2.length
 b:F+M<=40000
def t7 (a o:Nat->Int)(F M:Nat):Int:=(sm a (F+M)-sm a F)-(sm o (F+M)-sm o F)
theorem RRep.NC (h:RRep F M f R):bq f F M 0:=λd hd=>by
 obtain⟨k,hk⟩:=h.m
 have hx:=h.x
 have:=bq.many h.per k (d:=d) (by omega)
 rw [hk,this]
 simp
theorem RRep.sE (h:RRep F M f R):KbW R.2*((M / R.2.length:Nat):Int)=sm f (F+M)-sm f F:=by
 have p:=Xv h.per
 rw [<-h.sum] at p
 obtain⟨k,hk⟩:=h.m
 have n0:=h.n0
 have hx:=h.x
 have:=bq.many p k (d:=F) hx
 rw [<-hk] at this
 rw [this,show M / R.2.length=k by rw [hk,KaF _ n0]]
 omega
theorem QQ.lcm (h:QQ F M a o A O):QG (A.2.length:Int) (O.2.length:Int)/\OM (A.2.length:Int) (O.2.length:Int)=(M:Int):=by
 have h1:=h.ha.n0
 have h2:=h.ho.n0
 have h3:=h.ha.yM
 have h4:=h.ho.yM
 have hb:=h.b
 have:=Em A.2.length O.2.length h1 h2 (by omega) (by omega)
 rwa [<-h.eM] at this
theorem QQ.way (h:QQ F M a o A O):Zd A O/\OL A O=((F:Int),(M:Int)):=by
 obtain⟨l1,l2⟩:=h.lcm
 refine⟨l1,?_⟩
 unfold OL
 rw [l2]
 congr 1
 have:=h.eF
 omega
theorem QQ.zK (h:QQ F M a o A O):Wj A O/\Mq A O=t7 a o F M:=by
 obtain⟨l1,l2⟩:=h.lcm
 have h1:=h.ha.n0
 have h2:=h.ho.n0
 have h3:=h.ha.yM
 have h4:=h.ho.yM
 have hb:=h.b
 unfold Wj Mq
 simp only [c_,lt_eq]
 rw [l2,wg,wg,h.ha.sE,h.ho.sE]
 have q1:M / A.2.length<=M:=KbY _ _
 have q2:M / O.2.length<=M:=KbY _ _
 exact⟨⟨l1,⟨by omega,by omega⟩,.inr (by rw [Kdk];omega),⟨by omega,by omega⟩,.inr (by rw [Kdk];omega)⟩,rfl⟩
theorem QQ.pa (h:QQ F M a o A O):bq a F M 0:=h.ha.NC
theorem QQ.po (h:QQ F M a o A O):bq o F M 0:=h.ho.NC
theorem QQ.m0 (h:QQ F M a o A O):0<M:=h.ha.m0
theorem QQ.rows (h:QQ F M a o A O):kH [A,O]:=by
 have:=h.b
 exact⟨h.ha.need (by omega),h.ho.need (by omega),trivial⟩
theorem N4 (pa:bq a F M 0)(po:bq o F M 0){s:Nat}(hs:F<=s):(sm a (s+M)-sm a s)-(sm o (s+M)-sm o s)=t7 a o F M:=by
 have h1:=Xv pa s hs
 have h2:=Xv po s hs
 unfold t7
 omega
/-- one round later -/
theorem O6 (pa:bq a F M 0)(po:bq o F M 0){s:Nat}(hs:F<=s):qw a o (s+M)=max (qw a o s+t7 a o F M) (wt a o 0 s M):=by
 have:=NF a o s M
 have:=N4 pa po hs
 omega
theorem FZ (pa:bq a F M 0)(po:bq o F M 0)(k:Nat):wt a o 0 (F+k*M) M=wt a o 0 F M:=Xy pa po 0 (Kak _) M k
/-- what U7 after k+1 rounds -/
theorem fxv (pa:bq a F M 0)(po:bq o F M 0):∀k:Nat,qw a o (F+(k+1)*M)=max (qw a o F+(k+1:Nat)*t7 a o F M) (wt a o 0 F M+(k:Nat)*max 0 (t7 a o F M))
 |0=>by
  have:=O6 pa po (Kak F)
  rw [show F+(0+1)*M=F+M by omega,this]
  simp
 |k+1=>by
  have e:=O6 pa po (s:=F+(k+1)*M) (by omega)
  rw [show F+(k+1+1)*M=F+(k+1)*M+M by rw [Ka0 (k+1)];omega,e,fxv pa po k,FZ pa po (k+1)]
  generalize t7 a o F M=S
  generalize wt a o 0 F M=φ
  generalize qw a o F=W
  have e1:((k+1+1:Nat):Int)*S=((k+1:Nat):Int)*S+S:=by
   rw [show ((k+1+1:Nat):Int)=((k+1:Nat):Int)+1 by omega,KdF,KdG]
  have e2:((k+1:Nat):Int)*max 0 S=((k:Nat):Int)*max 0 S+max 0 S:=by
   rw [show ((k+1:Nat):Int)=((k:Nat):Int)+1 by omega,KdF,KdG]
  have e3:0<=((k:Nat):Int)*max 0 S:=Int.mul_nonneg (by omega) (by omega)
  rw [e1,e2]
  by_cases hS:0<=S
  ·generalize ((k+1:Nat):Int)*S=X at *
   rw [show max 0 S=S by omega] at *
   generalize ((k:Nat):Int)*S=Y at *
   omega
  ·rw [show max 0 S=0 by omega] at *
   rw [Kdx] at *
   generalize ((k+1:Nat):Int)*S=X at *
   omega
end
section
variable {F M:Nat}{R:Int}{f:Nat->Int}{L:cD}
def frs (L:cD):Nat:=max 1 L.x.length
def lst (L:cD):Nat:=frs L+L.y.length
theorem R9 (L:cD):L.x.length<=frs L:=KdA ..
/-- what bh parts cost -/
def cs (ls:Bool)(f:Nat->Int)(p:Nat):Int:=sgn ls*f p
/-- bh bound is small: what bh numbers of one round may be -/
structure Sml (V:Nat)(f:Nat->Int)(L:cD):Prop where
 v:∀p,p<=lst L->f p<=(V:Int)
 a:lst L<=300
 b:V*(L.y.length+lst L)*lst L+lst L<=90000
 c:lst L*(lst L+lst L*L.y.length)<=90000
end
section
variable {F M:Nat}{R:Int}{f:Nat->Int}{L:cD}
theorem Sml.z {V:Nat}(sm:Sml V f L)(h:bV F M R f L):L.z<=(V:Int):=by
 have h1:=h.per (frs L) (R9 L)
 have h2:=sm.v (lst L) (Kak _)
 have h3:=h.up.nn (frs L)
 unfold lst at h2
 omega
end
section
variable {F M:Nat}{R:Int}{f:Nat->Int}{L:cD}
theorem LD.uniq {c:Nat->Int}{first n:Nat}{v w:Int}(h:LD c first n v)(k:LD c first n w):v=w:=by
 obtain⟨⟨p,p1,p2,p3⟩,h2⟩:=h
 obtain⟨⟨q,q1,q2,q3⟩,k2⟩:=k
 have a:=h2 q q1 q2
 have b:=k2 p p1 p2
 omega
end
section
variable {F M:Nat}{f g a o:Nat->Int}{A O R:Row}
/-- where more comes N6 is done -/
theorem gzs (pa:bq a F M 0)(po:bq o F M 0)(m0:0<M)(hS:0<t7 a o F M){d:Nat}(hd:F+M<=d):dn a o d=o d:=by
 have h1:=O6 pa po (s:=d+1-M) (by omega)
 rw [show d+1-M+M=d+1 by omega] at h1
 have h2:=Jl a o d
 have h3:=rY a o (d+1-M)
 unfold dn
 omega
theorem Jf (pa:bq a F M 0)(po:bq o F M 0)(m0:0<M)(hS:0<t7 a o F M):bq (dn a o) (F+M) M 0:=λd hd=>by
 rw [gzs pa po m0 hS (by omega:F+M<=d+M),gzs pa po m0 hS hd]
 exact po d (by omega)
theorem Jk (pa:bq a F M 0)(po:bq o F M 0){e:Nat}(he:F<=e)(h:qw a o (e+M)=qw a o e)(n:Nat):qw a o (e+n+M)=qw a o (e+n):=by
 rw [show e+n+M=e+M+n by omega,MN a o (e+M) n,MN a o e n,h]
 exact Xp pa po _ he n
theorem E3 (pa:bq a F M 0)(po:bq o F M 0){e:Nat}(he:F<=e)(h:qw a o (e+M)=qw a o e):bq (dn a o) e M 0:=λd hd=>by
 obtain⟨n,rfl⟩:∃n,d=e+n:=⟨d-e,by omega⟩
 unfold dn
 rw [Jk pa po he h n,pa (e+n) (by omega),po (e+n) (by omega)]
 simp
theorem stays (pa:bq a F M 0)(po:bq o F M 0)(hS:¬0<t7 a o F M){k:Nat}(hk:(qw a o F).toNat+1<=k):qw a o (F+k*M+M)=qw a o (F+k*M):=by
 obtain⟨j,rfl⟩:∃j,k=j+1:=⟨k-1,by omega⟩
 have e1:=fxv pa po j
 have e2:=fxv pa po (j+1)
 have n0:=Lz (a:=a) (o:=o) (Ka4 0) F M
 have w0:=rY a o F
 rw [show F+(j+1)*M+M=F+(j+1+1)*M by rw [Ka0 (j+1)];omega,e1,e2]
 generalize t7 a o F M=S at *
 generalize wt a o 0 F M=φ at *
 generalize qw a o F=W at *
 rw [show max 0 S=0 by omega,Kdx,Kdx]
 by_cases z:S=0
 ·subst z;simp
 ·have a1:((j+1:Nat):Int)*S<=((j+1:Nat):Int)*(-1):=Kba (by omega) (by omega)
  have a2:((j+1+1:Nat):Int)*S<=((j+1+1:Nat):Int)*(-1):=Kba (by omega) (by omega)
  generalize ((j+1:Nat):Int)*S=X at *
  generalize ((j+1+1:Nat):Int)*S=Y at *
  omega
def Kz (a o:Nat->Int)(F M:Nat):Nat:=F+((qw a o F).toNat+1)*M
theorem pS (φ:Nat->Int)(x y:Nat):(Kac x).map φ++(Kac y).map (λi=>φ (x+i))=(Kac (x+y)).map φ:=by
 rw [Kcj,Kav,KaL];rfl
theorem AF (h:QQ F M a o A O)(hE:Kz a o F M+M<=90000)(hS:¬0<t7 a o F M){days:List Int}(hd:days=rng (F:Int) ((F:Int)+(M:Int))):
  let st0:List Int×Int×List Int×Int:=((Kac F).map (dn a o),qw a o F,(Kac M).map (λi=>dn a o (F+i)),qw a o (F+M))
  wL (Hz A O days) (Hy A O days) (exa A O days) (Wo A O days) fuel st0 /\
  ∃k,F+k*M<=Kz a o F M/\qw a o (F+k*M+M)=qw a o (F+k*M)/\(qA (Hz A O days) (Hy A O days) fuel st0).1=(Kac (F+k*M)).map (dn a o)/\(qA (Hz A O days) (Hy A O days) fuel st0).2.2.1=(Kac M).map (λi=>dn a o (F+k*M+i)):=by
 intro st0
 have m0:=h.m0
 have hb:=h.b
 have key:=KA (c:=Hz A O days) (f:=Hy A O days) (dc:=exa A O days) (d:=Wo A O days)
  (Inv:=λst=>∃k,k<=(qw a o F).toNat+1/\st=((Kac (F+k*M)).map (dn a o),qw a o (F+k*M),(Kac M).map (λi=>dn a o (F+k*M+i)),qw a o (F+k*M+M)))
  (μ:=λst=>Kz a o F M-st.1.length) (λst hst=>by
   obtain⟨k,hk,rfl⟩:=hst
   refine⟨trivial,λc=>?_⟩
   have c':qw a o (F+k*M+M)≠qw a o (F+k*M):=c
   have hk2:k<(qw a o F).toNat+1:=by
    rcases KaA k ((qw a o F).toNat+1) with z|z
    ·exact z
    ·exact absurd (stays h.pa h.po hS z) c'
   have hk3:(k+1)*M<=((qw a o F).toNat+1)*M:=KaZ _ hk2
   have e1:F+(k+1)*M=F+k*M+M:=by rw [Ka0];omega
   obtain⟨w1,w2⟩:=xM h.ha.toRRep h.ho.toRRep h.pa h.po (by omega) (k+1) F M (Kak _) (by omega) (w:=qw a o (F+k*M+M)) (by rw [e1]) (Eq.refl (F:Int)) (Eq.refl ((F:Int)+(M:Int)))
   rw [<-hd] at w1 w2
   rw [e1] at w2
   unfold Kz at *
   refine⟨?_,⟨k+1,by omega,?_⟩,?_⟩
   ·unfold Wo
    simp only [c_]
    refine⟨?_,w1⟩
    rw [Kaf,Kaf,KaB,KaB]
    omega
   ·unfold Hy
    simp only [lt_eq]
    rw [w2,e1,pS]
   ·unfold Hy
    simp only [lt_eq]
    rw [Kam,Kaf,Kaf,KaB,KaB]
    omega)
  fuel st0 ⟨0,by omega,by simp [st0]⟩ (by
   unfold fuel
   show _-((Kac F).map _).length<_
   rw [Kaf,KaB]
   omega)
 obtain⟨k1,⟨k,hk,e⟩,k3⟩:=key
 refine⟨k1,k,?_,?_,?_,?_⟩
 ·unfold Kz
  have:=KaZ M hk
  omega
 ·rw [e] at k3
  exact Classical.not_not.mp k3
 ·rw [e]
 ·rw [e]
theorem QQ.done (h:QQ F M a o A O)(hE:Kz a o F M+M<=90000):oE A O/\Gn (dn a o) (p_ A O):=by
 have hb:=h.b
 have m0:=h.m0
 obtain⟨p1,p2⟩:=h.way
 obtain⟨s1,s2⟩:=h.zK
 have hEF:F+M<=Kz a o F M:=by unfold Kz;rw [Ka0];omega
 obtain⟨w1,w2⟩:=fqu h.ha.toRRep h.ho.toRRep (by omega) 0 F (by omega) (w:=0) (lo:=0) (hi:=(F:Int)) rfl (by simp) (by simp)
 rw [Kb0] at w2
 have w2':wK A O (rng 0 (F:Int)) 0=((Kac F).map (dn a o),qw a o F):=by
  rw [w2];congr 1;exact Kas λi _=>by rw [Kb0]
 obtain⟨v1,v2⟩:=fqu h.ha.toRRep h.ho.toRRep (by omega) F M (by omega) (w:=qw a o F) rfl (Eq.refl (F:Int)) (Eq.refl ((F:Int)+(M:Int)))
 unfold oE p_
 simp only [c_,lt_eq]
 rw [p2]
 simp only []
 rw [w2',s2]
 simp only []
 rw [v2]
 simp only []
 by_cases hS:0<t7 a o F M
 ·rw [if_pos hS]
  have el:Kaj (λ(x2:Int)=>Gx O x2) (rng (F:Int) ((F:Int)+(M:Int)))=(Kac M).map (λi=>dn a o (F+M+i)):=by
   rw [zA F M rfl rfl,KaL]
   refine Kas λi _=>?_
   show Gx O ((F+i:Nat):Int)=_
   rw [(lW h.ho.toRRep (F+i) (by omega)).2,gzs h.pa h.po m0 hS (by omega)]
   have:=h.po (F+i) (by omega)
   rw [show F+M+i=F+i+M by omega,this]
   simp
  rw [el,pS]
  have r:=r_ (zC m0 (Jf h.pa h.po m0 hS)) (by omega)
  refine⟨⟨p1,⟨by omega,by omega⟩,w1,⟨⟨by omega,by omega⟩,by omega,by omega⟩,s1,λ_=>⟨v1,?_,?_,?_,r.1⟩,λq=>absurd hS q⟩,r.2⟩
  ·rw [Kaf,Kaf,KaB,KaB];omega
  ·intro x2 hx2
   rw [zA F M rfl rfl] at hx2
   obtain⟨i,_,rfl⟩:=KaM.mp hx2
   exact (lW h.ho.toRRep (F+i) (by omega)).1
  ·rw [HH];omega
 ·rw [if_neg hS]
  obtain⟨l1,k,l2,l3,l4,l5⟩:=AF h hE hS rfl
  rw [l4,l5]
  have r:=r_ (zC m0 (E3 h.pa h.po (by omega) l3)) (by omega)
  exact⟨⟨p1,⟨by omega,by omega⟩,w1,⟨⟨by omega,by omega⟩,by omega,by omega⟩,s1,λq=>absurd q hS,λ_=>⟨v1,l1,r.1⟩⟩,r.2⟩
end
section
variable {F M:Nat}{f g a o:Nat->Int}{A O R:Row}
theorem xN (h:QQ F M a o A O)(d:Nat):GH A O [(d:Int)] (qw a o d)/\(wK A O [(d:Int)] (qw a o d)).2=qw a o (d+1):=by
 have hb:=h.b
 obtain⟨w1,w2⟩:=fqu h.ha.toRRep h.ho.toRRep (by omega) d 1 (by omega) (w:=qw a o d) rfl (Eq.refl (d:Int)) (Eq.refl ((d:Int)+((1:Nat):Int)))
 rw [zA d 1 rfl rfl] at w1 w2
 exact⟨w1,congrArg Prod.snd w2⟩
theorem rS (h:QQ F M a o A O):∀n:Nat,(∃D:Nat,((D<n/\∀i,i<D->qw a o (i+1)<qw a o (D+1))∨(n=0/\D=0))/\(∀i,i<n->qw a o (i+1)<=qw a o (D+1))/\Ka2 (OH A O) ((0:Int),(0:Int),(0:Int)) ((Kac n).map λ(i:Nat)=>(i:Int))=(qw a o n,if n=0 then 0 else qw a o (D+1),(D:Int)))/\fg (OH A O) (gH A O) ((Kac n).map λ(i:Nat)=>(i:Int)) ((0:Int),(0:Int),(0:Int))
 |0=>⟨⟨0,.inr ⟨rfl,rfl⟩,λi hi=>by omega,rfl⟩,trivial⟩
 |n+1=>by
  obtain⟨⟨D,h1,h2,h3⟩,h4⟩:=rS h n
  obtain⟨w1,w2⟩:=xN h n
  have e:(Kac (n+1)).map (λ(i:Nat)=>(i:Int))=(Kac n).map (λ(i:Nat)=>(i:Int))++[(n:Int)]:=by
   rw [Kbj,Kav];rfl
  rw [e]
  have nn:=rY a o (n+1)
  have nD:=rY a o (D+1)
  refine⟨?_,fqs _ _ _ h4 (by rw [h3];exact w1)⟩
  rw [Kdq,h3]
  show ∃D',_/\_/\OH A O (qw a o n,if n=0 then 0 else qw a o (D+1),(D:Int)) (n:Int)=_
  unfold OH
  simp only [lt_eq]
  rw [w2]
  by_cases q:(if n=0 then 0 else qw a o (D+1))<qw a o (n+1)
  ·rw [if_pos q]
   refine⟨n,.inl ⟨by omega,λi hi=>?_⟩,λi hi=>?_,by rw [if_neg (by omega)]⟩
   ·rw [if_neg (by omega)] at q
    have:=h2 i hi
    omega
   ·rcases KaA i n with z|z
    ·rw [if_neg (by omega)] at q
     have:=h2 i z
     omega
    ·rw [show i=n by omega];exact Ka4 _
  ·rw [if_neg q]
   by_cases z:n=0
   ·subst z
    rw [if_pos rfl] at q
    rcases h1 with h1|h1
    ·omega
    obtain⟨_,rfl⟩:=h1
    refine⟨0,.inl ⟨by omega,λi hi=>by omega⟩,λi hi=>by rw [show i=0 by omega];exact Ka4 _,?_⟩
    rw [if_pos rfl,if_neg (by omega)]
    have:qw a o (0+1)=0:=by omega
    rw [this]
   ·rw [if_neg z] at q
    rcases h1 with⟨h0,h1⟩|h1
    ·refine⟨D,.inl ⟨by omega,h1⟩,λi hi=>?_,by rw [if_neg z,if_neg (by omega)]⟩
     rcases KaA i n with y|y
     ·exact h2 i y
     ·rw [show i=n by omega];omega
    ·omega
/-- no day has more waiting N6 a day of bh first rounds -/
theorem Jj (pa:bq a F M 0)(po:bq o F M 0)(hS:¬0<t7 a o F M){d:Nat}(hd:F+M<=d):qw a o (d+M)<=qw a o d:=by
 obtain⟨e,rfl⟩:∃e,d=e+M:=⟨d-M,by omega⟩
 have h1:=O6 pa po (s:=e) (by omega)
 have h2:=O6 pa po (s:=e+M) (by omega)
 have h3:=Xp pa po 0 (s:=e) (by omega) M
 omega
theorem E7 (pa:bq a F M 0)(po:bq o F M 0)(m0:0<M)(hS:¬0<t7 a o F M){G:Int}(hG:∀i,i<F+2*M->qw a o (i+1)<=G)(d:Nat):qw a o (d+1)<=G:=by
 induction d using Nat.strongRecOn with
 |ind d ih=>
  rcases KaA d (F+2*M) with z|z
  ·exact hG d z
  ·have:=Jj pa po hS (d:=d+1-M) (by omega)
   rw [show d+1-M+M=d+1 by omega] at this
   have:=ih (d-M) (by omega)
   rw [show d-M+1=d+1-M by omega] at this
   omega
theorem vy (pa:bq a F M 0)(po:bq o F M 0)(hS:0<t7 a o F M):∀k:Nat,(k:Int)<=qw a o (F+k*M)
 |0=>by have:=rY a o (F+0*M);omega
 |k+1=>by
  have:=vy pa po hS k
  have h1:=O6 pa po (s:=F+k*M) (by omega)
  rw [show F+(k+1)*M=F+k*M+M by rw [Ka0];omega]
  omega
/-- Lo: nothing,or bh Sq heap and its first day -/
structure Mst (a o:Nat->Int)(r:Option (Int×Int)):Prop where
 ex:(r=none/\∀b:Int,∃d,b<qw a o (d+1))∨∃D:Nat,r=some (qw a o (D+1),(D:Int))/\(∀i,qw a o (i+1)<=qw a o (D+1))/\∀i,i<D->qw a o (i+1)<qw a o (D+1)
theorem QQ.most (h:QQ F M a o A O):jM A O/\Mst a o (ZI A O)/\(ZI A O=none↔0<t7 a o F M):=by
 have hb:=h.b
 have m0:=h.m0
 obtain⟨p1,p2⟩:=h.way
 obtain⟨s1,s2⟩:=h.zK
 unfold jM ZI
 simp only [c_,lt_eq]
 rw [p2,s2]
 simp only []
 by_cases hS:0<t7 a o F M
 ·rw [if_pos hS]
  refine⟨⟨h.rows,s1,λq=>absurd hS q⟩,⟨.inl ⟨rfl,λb=>?_⟩⟩,⟨λ_=>hS,λ_=>rfl⟩⟩
  have g:=vy h.pa h.po hS (b.toNat+1)
  have e:F+(b.toNat+1)*M=F+(b.toNat+1)*M-1+1:=by
   have:=KaZ M (show 1<=b.toNat+1 by omega)
   omega
  rw [e] at g
  exact⟨F+(b.toNat+1)*M-1,by omega⟩
 ·rw [if_neg hS]
  have e:rng 0 ((F:Int)+(2:Int)*(M:Int))=(Kac (F+2*M)).map λ(i:Nat)=>(i:Int):=by
   rw [show (F:Int)+(2:Int)*(M:Int)=((F+2*M:Nat):Int) by omega,Xz]
  obtain⟨⟨D,k1,k2,k3⟩,k4⟩:=rS h (F+2*M)
  rw [e,k3]
  refine⟨⟨h.rows,s1,λ_=>⟨p1,⟨by omega,by omega⟩,k4⟩⟩,⟨.inr ⟨D,?_,λi=>E7 h.pa h.po m0 hS k2 i,?_⟩⟩,⟨λq=>by simp at q,λq=>absurd q hS⟩⟩
  ·rw [if_neg (by omega)]
  ·rcases k1 with k1|k1
   ·exact k1.2
   ·omega
end
/-- T tells of bh i-th thing bh day it comes on -/
def At (f T:Nat->Int):Prop:=∀i:Nat,∃d:Nat,T i=(d:Int)/\sm f d<=(i:Int)/\(i:Int)<sm f (d+1)
section
variable {F M:Nat}{f g a o T T':Nat->Int}{A O R:Row}
theorem At.nn (h:At f T)(i:Nat):0<=T i:=by obtain⟨d,e,_⟩:=h i;omega
theorem At.iff (nn:∀d,0<=f d)(h:At f T)(i d:Nat):(i:Int)<sm f (d+1)↔T i<=(d:Int):=by
 obtain⟨d0,e,h1,h2⟩:=h i
 have up:=FA nn
 constructor
 ·intro q
  rcases KaA d d0 with z|z
  ·have:=up.mono (show d+1<=d0 by omega)
   omega
  ·omega
 ·intro q
  have:=up.mono (show d0+1<=d+1 by omega)
  omega
theorem At.up (nn:∀d,0<=f d)(h:At f T):Up T:=⟨h.nn 0,λi=>by
 obtain⟨d,e,h1,h2⟩:=h (i+1)
 have:=(h.iff nn i d).mp (by omega)
 omega⟩
theorem At.uniq (nn:∀d,0<=f d)(h:At f T)(h':At f T')(i:Nat):T i=T' i:=by
 obtain⟨d,e,h1,h2⟩:=h i
 obtain⟨d',e',KZ,Ip⟩:=h' i
 have k1:=(h.iff nn i d').mp Ip
 have k2:=(h'.iff nn i d).mp h2
 omega
theorem At.per {e m:Nat}(nn:∀d,0<=f d)(hp:bq f e m 0)(h:At f T):bq T (sm f e).toNat (sm f (e+m)-sm f e).toNat (m:Int):=λi hi=>by
 have up:=FA nn
 have z:=up.nn e
 have z2:=up.mono (show e<=e+m by omega)
 have sp:=Xv hp
 obtain⟨d,e1,h1,h2⟩:=h i
 obtain⟨d',e1',KZ,Ip⟩:=h (i+(sm f (e+m)-sm f e).toNat)
 have he:e<=d:=by
  rcases KaA d e with q|q
  ·have:=up.mono (show d+1<=e by omega)
   omega
  ·exact q
 have s1:=sp d he
 have s2:=sp (d+1) (by omega)
 rw [show d+1+m=d+m+1 by omega] at s2
 have k1:=(h.iff nn (i+(sm f (e+m)-sm f e).toNat) (d+m)).mp (by omega)
 have k2:d+m<=d':=by
  rcases KaA d' (d+m) with q|q
  ·have:=up.mono (show d'+1<=d+m by omega)
   omega
  ·exact q
 omega
end
section
variable {F M F' M':Nat}{f g:Nat->Int}{R:Row}{B:lg}{S:Int}
def Vd (mx:Bool)(f g:Nat->Int)(n d:Nat):Prop:=0<sgn mx*(str f n d-g n)
def Pq (mx:Bool)(f g:Nat->Int)(r:Option (Option Int×Int)):Prop:=(r=none/\∀n d,¬Vd mx f g n d)∨∃n d:Nat,r=some (some (n:Int),(d:Int))/\Vd mx f g n d/\(∀n',n'<n->∀d',¬Vd mx f g n' d')/\∀d',d'<d->¬Vd mx f g n d'
theorem Pq.uniq {mx:Bool}{r r':Option (Option Int×Int)}(h:Pq mx f g r)(h':Pq mx f g r'):r=r':=by
 rcases h with⟨rfl,h⟩|⟨n,d,rfl,h1,h2,h3⟩
 ·rcases h' with⟨rfl,_⟩|⟨n,d,rfl,h1,_,_⟩
  ·rfl
  ·exact absurd h1 (h n d)
 ·rcases h' with⟨rfl,h⟩|⟨n',d',rfl,i1,i2,i3⟩
  ·exact absurd h1 (h n d)
  ·have e:n=n':=by
    rcases Kb4 n n' with z|z|z
    ·exact absurd h1 (i2 n z d)
    ·exact z
    ·exact absurd i1 (h2 n' z d')
   subst e
   have e:d=d':=by
    rcases Kb4 d d' with z|z|z
    ·exact absurd h1 (i3 d z)
    ·exact z
    ·exact absurd i1 (h3 d' z)
   subst e
   rfl
theorem Pq.congr {mx:Bool}{f' g':Nat->Int}{r:Option (Option Int×Int)}(h:Pq mx f g r)(ef:∀d,f d=f' d)(eg:∀d,g d=g' d):Pq mx f' g' r:=by
 have e1:f=f':=funext ef
 have e2:g=g':=funext eg
 rw [<-e1,<-e2];exact h
end
structure Mon (ln:Nat->Nat)(m:Nat):Prop where
 m0:0<m
 pos:∀k,1<=ln k
 per:∀k,ln (k+m)=ln k
def SN (ln:Nat->Nat):Nat->Nat
 |0=>0
 |k+1=>SN ln k+ln k
def ai (ln:Nat->Nat):Nat->Nat
 |0=>0
 |d+1=>if SN ln (ai ln d+1)<=d+1 then ai ln d+1 else ai ln d
section
variable {ln:Nat->Nat}{m:Nat}
theorem gY (ln:Nat->Nat)(k:Nat):SN ln (k+1)=SN ln k+ln k:=rfl
theorem m9 (ln:Nat->Nat){a b:Nat}(h:a<=b):SN ln a<=SN ln b:=by
 induction h with
 |refl=>exact Kak _
 |step h ih=>rw [Nat.succ_eq_add_one,gY];omega
theorem Mon.own (h:Mon ln m):∀d,SN ln (ai ln d)<=d/\d<SN ln (ai ln d+1)
 |0=>by
  have:=h.pos 0
  show SN ln 0<=0/\0<SN ln 0+ln 0
  exact⟨Kak _,by omega⟩
 |d+1=>by
  obtain⟨a,b⟩:=h.own d
  show SN ln (if SN ln (ai ln d+1)<=d+1 then ai ln d+1 else ai ln d)<=_/\_<SN ln ((if SN ln (ai ln d+1)<=d+1 then ai ln d+1 else ai ln d)+1)
  by_cases c:SN ln (ai ln d+1)<=d+1
  ·rw [if_pos c]
   have:=h.pos (ai ln d+1)
   rw [gY ln (ai ln d+1)]
   exact⟨c,by omega⟩
  ·rw [if_neg c]
   exact⟨by omega,by omega⟩
theorem Mon.uniq (h:Mon ln m){d k:Nat}(a:SN ln k<=d)(b:d<SN ln (k+1)):k=ai ln d:=by
 obtain⟨a',b'⟩:=h.own d
 rcases Kb4 k (ai ln d) with c|c|c
 ·have:=m9 ln (show k+1<=ai ln d by omega)
  omega
 ·exact c
 ·have:=m9 ln (show ai ln d+1<=k by omega)
  omega
theorem Mon.at (h:Mon ln m){k j:Nat}(b:j<ln k):ai ln (SN ln k+j)=k:=(h.uniq (by omega) (by rw [gY];omega)).symm
theorem Mon.eJ (h:Mon ln m):∀k,SN ln (k+m)=SN ln k+SN ln m
 |0=>by rw [Kb0];show _=0+_;omega
 |k+1=>by
  rw [show k+1+m=(k+m)+1 by omega,gY,gY,h.eJ k,h.per k];omega
theorem Mon.qX (h:Mon ln m)(k:Nat):∀q,SN ln (k+q*m)=SN ln k+q*SN ln m
 |0=>by rw [Kcm,Kcm];rfl
 |q+1=>by
  rw [show k+(q+1)*m=(k+q*m)+m by rw [Ka0];omega,h.eJ,h.qX k q,Ka0];omega
theorem Mon.zd (h:Mon ln m)(k:Nat):∀q,ln (k+q*m)=ln k
 |0=>by rw [Kcm];rfl
 |q+1=>by
  rw [show k+(q+1)*m=(k+q*m)+m by rw [Ka0];omega,h.per,h.zd k q]
theorem Mon.xV (h:Mon ln m)(k:Nat):SN ln k=k / m*SN ln m+SN ln (k % m):=by
 have:=h.qX (k % m) (k / m)
 rw [show k % m+k / m*m=k by rw [KaV];exact KbC k m] at this
 omega
theorem Mon.zc (h:Mon ln m)(k:Nat):ln k=ln (k % m):=by
 have:=h.zd (k % m) (k / m)
 rw [show k % m+k / m*m=k by rw [KaV];exact KbC k m] at this
 exact this
theorem Mon.z8 (h:Mon ln m):∀k,k<=SN ln k
 |0=>Kbc _
 |k+1=>by
  have:=h.z8 k
  have:=h.pos k
  rw [gY];omega
theorem Mon.T0 (h:Mon ln m):0<SN ln m:=Kbv h.m0 (h.z8 m)
theorem Mon.gq (h:Mon ln m)(d:Nat):ai ln (d+SN ln m)=ai ln d+m:=by
 obtain⟨a,b⟩:=h.own d
 refine (h.uniq ?_ ?_).symm
 ·rw [h.eJ];omega
 ·rw [show ai ln d+m+1=(ai ln d+1)+m by omega,h.eJ];omega
theorem Mon.pQ (h:Mon ln m){d k:Nat}(hd:d<SN ln k):ai ln d<k:=by
 obtain⟨a,b⟩:=h.own d
 rcases KaA (ai ln d) k with c|c
 ·exact c
 ·have:=m9 ln c
  omega
theorem Mon.jn (h:Mon ln m)(d:Nat):ai ln d<=d:=Kau (h.z8 _) (h.own d).1
theorem Mon.jo (h:Mon ln m)(d:Nat):ai ln (d+1)=ai ln d∨ai ln (d+1)=ai ln d+1:=by
 show (if SN ln (ai ln d+1)<=d+1 then ai ln d+1 else ai ln d)=_∨_
 by_cases c:SN ln (ai ln d+1)<=d+1
 ·exact .inr (if_pos c)
 ·exact .inl (if_neg c)
/-- months of all days,gone through month by month -/
theorem zE {α:Type}(ln:Nat->Nat)(G:Nat->α):∀n,(Kac n).flatMap (λk=>(Kac (ln k)).map λj=>G (SN ln k+j))=(Kac (SN ln n)).map G
 |0=>rfl
 |n+1=>by
  rw [Kbj,KcB,zE ln G n,gY,Kcj,Kav,KaL]
  simp [Function.comp]
theorem fjs {α β:Type}{f g:α->List β}:∀(xs:List α),(∀x∈xs,f x=g x)->xs.flatMap f=xs.flatMap g
 |[],_=>rfl
 |x::xs,h=>by
  rw [KbA,KbA,h x Kaa,fjs xs λy hy=>h y (Kad _ hy)]
theorem vI {α γ:Type}(ln:Nat->Nat)(c:Nat->γ)(H:Int×γ->List α)(G:Nat->α)(n:Nat)(hh:∀k:Nat,k<n->H ((k:Int),c k)=(Kac (ln k)).map λj=>G (SN ln k+j)):
  (aX 0 ((Kac n).map c)).flatMap H=(Kac (SN ln n)).map G:=by
 rw [Km,KcY,<-zE ln G n]
 refine fjs _ λk hk=>?_
 exact hh k (KaJ.mp hk)
theorem fxs {α β:Type}(h:α->List β)(f:List β->α->List β)(hf:∀st x,f st x=st++h x):∀(xs:List α) (st:List β),Ka2 f st xs=st++xs.flatMap h
 |[],st=>by simp
 |x::xs,st=>by rw [Kcz,hf,fxs h f hf xs,KbA,Kbd]
theorem fjd {α β:Type}(h:α->List β)(f:List β->α->List β)(d:List β->α->Prop)(B:Nat)(hf:∀st x,f st x=st++h x):∀(xs:List α) (st:List β),(∀st x,x∈xs->st.length+(h x).length<=B->d st x)->st.length+(xs.flatMap h).length<=B->fg f d xs st
 |[],st,_,_=>trivial
 |x::xs,st,hd,hl=>by
  rw [KbA,Kam] at hl
  refine⟨hd st x Kaa (by omega),?_⟩
  rw [hf]
  refine fjd h f d B hf xs _ (λs y hy=>hd s y (Kad _ hy)) ?_
  rw [Kam];omega
def iN (ln:Nat->Nat)(n d:Nat):Nat:=SN ln (ai ln d+n)+min (d-SN ln (ai ln d)) (ln (ai ln d+n)-1)
def Eu (ln:Nat->Nat)(n d:Nat):Int:=((iN ln n d:Nat):Int)
def nX (ln:Nat->Nat)(d:Nat):Int:=((ai ln d:Nat):Int)
theorem Mon.rR (h:Mon ln m)(n d:Nat):SN ln (ai ln d+n)<=iN ln n d/\iN ln n d<SN ln (ai ln d+n+1):=by
 have:=h.pos (ai ln d+n)
 unfold iN
 rw [gY]
 omega
theorem Mon.Ln (h:Mon ln m)(n:Nat):Up (Eu ln n):=⟨by unfold Eu;omega,λd=>by
 unfold Eu
 have h1:=h.rR n d
 have h2:=h.rR n (d+1)
 rcases h.jo d with e|e
 ·unfold iN
  rw [e]
  omega
 ·rw [e,show ai ln d+1+n=ai ln d+n+1 by omega] at h2
  omega⟩
theorem Mon.xg (h:Mon ln m)(n:Nat):bq (Eu ln n) 0 (SN ln m) (SN ln m:Nat):=λd _=>by
 unfold Eu iN
 rw [h.gq,show ai ln d+m+n=ai ln d+n+m by omega,h.eJ,h.eJ,h.per]
 have:=(h.own d).1
 omega
theorem Mon.Us (h:Mon ln m):Up (nX ln):=⟨by unfold nX;omega,λd=>by
 unfold nX
 rcases h.jo d with e|e <;> rw [e] <;> omega⟩
theorem Mon.EV (h:Mon ln m):bq (nX ln) 0 (SN ln m) (m:Nat):=λd _=>by
 unfold nX
 rw [h.gq];omega
theorem Mon.Ua (h:Mon ln m)(n d:Nat):iN ln n d<=(d+n+1)*SN ln m:=by
 have h1:=(h.rR n d).2
 have h2:=h.jn d
 have h3:=h.xV (ai ln d+n+1)
 have h4:=m9 ln (Kdw (KaS (ai ln d+n+1) h.m0))
 have h5:SN ln (ai ln d+n+1)<=(ai ln d+n+1)*SN ln m:=by
  have:∀k,SN ln k<=k*SN ln m:=λk=>by
   induction k with
   |zero=>exact Kbc _
   |succ k ih=>
    rw [gY,Ka0]
    have e:=h.zc k
    have:ln (k % m)<=SN ln m:=by
     have a:=m9 ln (show k % m+1<=m from KaS k h.m0)
     rw [gY] at a
     omega
    omega
  exact this _
 have h6:(ai ln d+n+1)*SN ln m<=(d+n+1)*SN ln m:=KaZ _ (by omega)
 omega
end
theorem bV.round {f:Nat->Int}{T:Nat}{G:Int}(t0:0<T)(up:Up f)(hp:bq f 0 T G)(g0:0<=G):bV 0 T G f (T3.mk [] ((Kac T).map f) G):=by
 have e:=HA (F:=0) (M:=T) (R:=G) (F0:=0) (k:=T) (g:=G) (Kak _) t0 (Kbt _) t0 hp g0 (by rw [Nat.div_self t0];omega) up ((Kac T).map f) (by rw [Kb0])
 exact e
structure qj (ln nm:Nat->Nat)(m N:Nat):Prop where
 ml:Mon ln m
 mn:Mon nm N
 all:SN nm N=m
/-- bh year of a month,and bh X_ place in it -/
def bW (nm:Nat->Nat)(k:Nat):Nat:=k-SN nm (ai nm k)
/-- bh day eA is n years later N6 a day -/
def B3 (ln nm:Nat->Nat)(n d:Nat):Nat:=SN ln (iN nm n (ai ln d))+if nm (ai nm (ai ln d)+n)<=bW nm (ai ln d) then ln (iN nm n (ai ln d))-1 else min (d-SN ln (ai ln d)) (ln (iN nm n (ai ln d))-1)
def Gb (ln nm:Nat->Nat)(n d:Nat):Int:=((B3 ln nm n d:Nat):Int)
def cg (ln nm:Nat->Nat)(d:Nat):T3 Int Int Int:=T3.mk ((ai nm (ai ln d):Nat):Int) ((bW nm (ai ln d):Nat):Int) ((d-SN ln (ai ln d):Nat):Int)
section
variable {ln nm:Nat->Nat}{m N:Nat}
theorem Mon.IV (h:Mon ln m)(n d:Nat):iN ln n (d+SN ln m)=iN ln n d+SN ln m:=by
 unfold iN
 rw [h.gq,show ai ln d+m+n=ai ln d+n+m by omega,h.eJ,h.eJ,h.per]
 have:=(h.own d).1
 omega
theorem Mon.Nc (h:Mon ln m)(n d:Nat):iN ln n d<=iN ln n (d+1):=by
 have:=(h.Ln n).2 d
 unfold Eu at this
 omega
theorem qj.Ge (h:qj ln nm m N)(n d:Nat):SN ln (iN nm n (ai ln d))<=B3 ln nm n d/\B3 ln nm n d<SN ln (iN nm n (ai ln d)+1):=by
 have:=h.ml.pos (iN nm n (ai ln d))
 unfold B3
 rw [gY]
 split <;> omega
theorem qj.Vc (h:qj ln nm m N)(n:Nat):Up (Gb ln nm n):=⟨by unfold Gb;omega,λd=>by
 unfold Gb
 have r1:=h.Ge n d
 have r2:=h.Ge n (d+1)
 rcases h.ml.jo d with e|e
 ·unfold B3
  rw [e]
  split <;> omega
 ·have up:=h.mn.Nc n (ai ln d)
  rw [e] at r2
  rcases KaA (iN nm n (ai ln d)) (iN nm n (ai ln d+1)) with c|c
  ·have:=m9 ln (show iN nm n (ai ln d)+1<=iN nm n (ai ln d+1) from c)
   omega
  ·have c:iN nm n (ai ln d+1)=iN nm n (ai ln d):=by omega
   have last:nm (ai nm (ai ln d+1)+n)<=bW nm (ai ln d+1):=by
    rcases h.mn.jo (ai ln d) with e2|e2
    ·unfold iN at c
     unfold bW
     rw [e2] at c ⊢
     have a:=(h.mn.own (ai ln d)).1
     have b:=h.mn.pos (ai nm (ai ln d)+n)
     omega
    ·have g1:=h.mn.rR n (ai ln d)
     have g2:=h.mn.rR n (ai ln d+1)
     rw [e2,show ai nm (ai ln d)+1+n=ai nm (ai ln d)+n+1 by omega] at g2
     omega
   have:B3 ln nm n (d+1)=SN ln (iN nm n (ai ln d))+(ln (iN nm n (ai ln d))-1):=by
    unfold B3
    rw [e,c,if_pos last]
   rw [this]
   rw [gY] at r1
   have:=h.ml.pos (iN nm n (ai ln d))
   omega⟩
theorem qj.tM (h:qj ln nm m N)(k:Nat):bW nm (k+m)=bW nm k:=by
 unfold bW
 rw [<-h.all,h.mn.gq,h.mn.eJ]
 have:=(h.mn.own k).1
 omega
theorem qj.xO (h:qj ln nm m N)(n:Nat):bq (Gb ln nm n) 0 (SN ln m) (SN ln m:Nat):=λd _=>by
 unfold Gb
 have e1:ai nm (ai ln d+m)=ai nm (ai ln d)+N:=by rw [<-h.all];exact h.mn.gq _
 have e2:iN nm n (ai ln d+m)=iN nm n (ai ln d)+m:=by have:=h.mn.IV n (ai ln d);rw [h.all] at this;exact this
 have e3:=h.tM (ai ln d)
 have:B3 ln nm n (d+SN ln m)=B3 ln nm n d+SN ln m:=by
  unfold B3
  rw [h.ml.gq,e1,e2,e3,show ai nm (ai ln d)+N+n=ai nm (ai ln d)+n+N by omega,h.mn.per,h.ml.eJ,h.ml.per,h.ml.eJ]
  have:=(h.ml.own d).1
  split <;> omega
 rw [this];omega
theorem qj.Vb (h:qj ln nm m N)(n d:Nat):B3 ln nm n d<=((d+n+1)*m+1)*SN ln m:=by
 have r:=(h.Ge n d).2
 have a:=h.mn.Ua n (ai ln d)
 rw [h.all] at a
 have b:=h.ml.jn d
 have c:(ai ln d+n+1)*m<=(d+n+1)*m:=KaZ _ (by omega)
 have d1:∀k,SN ln k<=k*SN ln m:=λk=>by
  induction k with
  |zero=>exact Kbc _
  |succ k ih=>
   rw [gY,Ka0]
   have e:=h.ml.zc k
   have:ln (k % m)<=SN ln m:=by
    have a:=m9 ln (show k % m+1<=m from KaS k h.ml.m0)
    rw [gY] at a
    omega
   omega
 have e:=d1 (iN nm n (ai ln d)+1)
 have f:(iN nm n (ai ln d)+1)*SN ln m<=((d+n+1)*m+1)*SN ln m:=KaZ _ (by omega)
 omega
/-- bh first day of a year -/
def SY (ln nm:Nat->Nat)(y:Nat):Nat:=SN ln (SN nm y)
theorem qj.YF (h:qj ln nm m N)(y:Nat):y<=SY ln nm y:=Kau (h.mn.z8 y) (h.ml.z8 _)
/-- bh dates of a aqC days,month by month -/
theorem qj.Bq (h:qj ln nm m N)(y:Nat):(Kac (nm y)).flatMap (λj=>(Kac (ln (SN nm y+j))).map λp=>T3.mk ((y:Nat):Int) ((j:Nat):Int) ((p:Nat):Int))=(Kac (SY ln nm (y+1)-SY ln nm y)).map λi=>cg ln nm (SY ln nm y+i):=by
 have key:∀c,c<=nm y->(Kac c).flatMap (λj=>(Kac (ln (SN nm y+j))).map λp=>T3.mk ((y:Nat):Int) ((j:Nat):Int) ((p:Nat):Int))=(Kac (SN ln (SN nm y+c)-SN ln (SN nm y))).map λi=>cg ln nm (SN ln (SN nm y)+i):=λc=>by
  induction c with
  |zero=>intro _;simp
  |succ c ih=>
   intro hc
   have mo:=m9 ln (show SN nm y<=SN nm y+c by omega)
   rw [Kbj,KcB,ih (by omega),show SN nm y+(c+1)=SN nm y+c+1 by omega,gY,show SN ln (SN nm y+c)+ln (SN nm y+c)-SN ln (SN nm y)=(SN ln (SN nm y+c)-SN ln (SN nm y))+ln (SN nm y+c) by omega,Kcj,Kav,KaL]
   congr 1
   rw [Kc0]
   refine Kas λp hp=>?_
   have hp:=KaJ.mp hp
   show _=cg ln nm (SN ln (SN nm y)+(SN ln (SN nm y+c)-SN ln (SN nm y)+p))
   rw [show SN ln (SN nm y)+(SN ln (SN nm y+c)-SN ln (SN nm y)+p)=SN ln (SN nm y+c)+p by omega]
   unfold cg bW
   rw [h.ml.at hp,h.mn.at (show c<nm y by omega)]
   congr 1
   ·congr 1;omega
   ·congr 1;omega
 have:=key (nm y) (Kak _)
 unfold SY
 rw [gY]
 exact this
end
section
variable {ln nm:Nat->Nat}{m N:Nat}
theorem Mon.E4 (h:Mon ln m)(d:Nat):bW ln d<ln (ai ln d):=by
 obtain⟨a,b⟩:=h.own d
 rw [gY] at b
 unfold bW
 omega
theorem Mon.lQ (h:Mon ln m)(r:Nat):ai ln (SN ln r)=r:=h.at (j:=0) (h.pos r)
theorem Mon.Uu (h:Mon ln m)(r:Nat):bW ln (SN ln r)=0:=by
 unfold bW
 rw [h.lQ];omega
def jR (ln:Nat->Nat)(d:Nat):Bool:=decide (bW ln d=0)
theorem Mon.wI (h:Mon ln m):∀d,cnt (jR ln) (d+1)=((ai ln d+1:Nat):Int)
 |0=>by
  show (0:Int)+b2i (jR ln 0)=_
  have:jR ln 0=true:=decide_eq_true (by unfold bW;omega)
  rw [this];rfl
 |d+1=>by
  show cnt (jR ln) (d+1)+b2i (jR ln (d+1))=_
  rw [h.wI d]
  obtain⟨a,b⟩:=h.own d
  by_cases c:SN ln (ai ln d+1)<=d+1
  ·have e:ai ln (d+1)=ai ln d+1:=if_pos c
   have:jR ln (d+1)=true:=decide_eq_true (by unfold bW;rw [e];omega)
   rw [this,e]
   show _+(1:Int)=_
   omega
  ·have e:ai ln (d+1)=ai ln d:=if_neg c
   have:jR ln (d+1)=false:=decide_eq_false (by unfold bW;rw [e];omega)
   rw [this,e]
   show _+(0:Int)=_
   omega
theorem Mon.N1 (h:Mon ln m)(d:Nat):jR ln (d+SN ln m)=jR ln d:=by
 unfold jR bW
 rw [h.gq,h.eJ]
 have:=(h.own d).1
 rw [show d+SN ln m-(SN ln (ai ln d)+SN ln m)=d-SN ln (ai ln d) by omega]
theorem Mon.tL (h:Mon ln m)(d:Nat):∀q,ai ln (d+q*SN ln m)=ai ln d+q*m
 |0=>by rw [Kcm,Kcm];rfl
 |q+1=>by rw [show d+(q+1)*SN ln m=(d+q*SN ln m)+SN ln m by rw [Ka0];omega,h.gq,h.tL d q,Ka0];omega
theorem qj.HL (h:qj ln nm m N)(d:Nat):cg ln nm d=T3.mk (((d / SN ln m*N+ai nm (ai ln (d % SN ln m)):Nat):Int)) ((bW nm (ai ln (d % SN ln m)):Nat):Int) ((bW ln (d % SN ln m):Nat):Int):=by
 have e:d=d % SN ln m+d / SN ln m*SN ln m:=by rw [KaV];exact (KbC d _).symm
 have e1:ai ln d=ai ln (d % SN ln m)+d / SN ln m*m:=by
  have:=h.ml.tL (d % SN ln m) (d / SN ln m)
  rwa [<-e] at this
 have e2:ai nm (ai ln d)=ai nm (ai ln (d % SN ln m))+d / SN ln m*N:=by
  have:=h.mn.tL (ai ln (d % SN ln m)) (d / SN ln m)
  rw [h.all] at this
  rw [e1,this]
 have e3:bW nm (ai ln d)=bW nm (ai ln (d % SN ln m)):=by
  have a:=h.mn.qX (ai nm (ai ln (d % SN ln m))) (d / SN ln m)
  rw [h.all] at a
  have b:=(h.mn.own (ai ln (d % SN ln m))).1
  unfold bW
  rw [e2,e1,a];omega
 have e4:d-SN ln (ai ln d)=bW ln (d % SN ln m):=by
  have a:=h.ml.qX (ai ln (d % SN ln m)) (d / SN ln m)
  have b:=(h.ml.own (d % SN ln m)).1
  unfold bW
  rw [e1,a];omega
 unfold cg
 rw [e2,e3,e4,Nat.add_comm]
theorem ux (K:Nat):∀n,((Kac n).filter (λk=>decide (k<=K))).length=min n (K+1)
 |0=>by simp
 |n+1=>by
  rw [Kbj,List.filter_append,Kam,ux K n]
  by_cases c:n<=K
  ·rw [KcQ (by simpa using c)];simp;omega
  ·rw [KcR (by simpa using c)];simp;omega
end
theorem Hl {g:Nat->Nat}{P:Nat->Bool}{m T:Nat}(hg:∀a b,a<b->g a<g b)(hT:∀k,k<m->P k=true->g k<T):B6 (((Kac m).filter P).map λk=>((g k:Nat):Int)) ((T:Nat):Int):=by
 refine⟨?_,λx hx=>?_⟩
 ·rw [KcN]
  exact (Kci.sublist Kdc).imp λ{a b} h=>by have:=hg a b h;omega
 ·obtain⟨k,hk,rfl⟩:=KaM.mp hx
  obtain⟨a,b⟩:=Kce.mp hk
  have:=hT k (KaJ.mp a) b
  omega
theorem CH {f:Nat->Bool}{T:Nat}(hp:∀d,f (d+T)=f d)(d:Nat):f (d % T)=f d:=by
 have:∀q r,f (r+q*T)=f r:=λq r=>by
  induction q with
  |zero=>rw [Kcm];rfl
  |succ q ih=>rw [show r+(q+1)*T=(r+q*T)+T by rw [Ka0];omega,hp,ih]
 have e:=this (d / T) (d % T)
 rw [show d % T+d / T*T=d by rw [KaV];exact KbC d T] at e
 exact e.symm
/-- bh set of a list of days of a Kv -/
theorem HK {f:Nat->Bool}{T:Nat}{xs:List Int}(t0:0<T)(hx:B6 xs ((T:Nat):Int))(hp:∀d,f (d+T)=f d)(hf:∀d:Nat,d<T->(f d=true↔(d:Int)∈xs)):c9 0 T f (T4.mk ([]:List Int) (0:Int) ((T:Nat):Int) xs):=by
 refine⟨⟨Ka4 _,by show (1:Int)<=((T:Nat):Int);omega,⟨List.Pairwise.nil,λx hx=>(nomatch hx)⟩,hx⟩,Ka4 _,?_,t0,λd=>?_⟩
 ·show (((T:Nat):Int)).toNat∣T
  rw [KaK]
  exact Kbt _
 ·unfold qJ
  dsimp only
  rw [if_neg (by omega),show ((d:Int)-0) % ((T:Nat):Int)=((d % T:Nat):Int) by rw [Kdu,<-KaI],<-CH hp d]
  have:=hf (d % T) (KaS d t0)
  cases h:f (d % T) with
  |true=>exact decide_eq_true (this.mp h)
  |false=>exact decide_eq_false λz=>by rw [this.mpr z] at h;cases h
/-- a list so many times -/
theorem A3 {α:Type}(f:Nat->α)(k:Nat):∀q,mulL ((Kac k).map f) ((q:Nat):Int)=(Kac (k*q)).map λi=>f (i % k):=by
 intro q
 unfold mulL
 rw [KaK]
 induction q with
 |zero=>rfl
 |succ q ih=>
  rw [List.replicate_succ',KaR,ih,List.flatten_singleton,Kc4,Kcj,Kav,KaL]
  congr 1
  refine Kas λi hi=>?_
  have hi:=KaJ.mp hi
  show f i=f ((k*q+i) % k)
  rw [Nat.mul_add_mod,Kbm hi]
def B0 (ln nm:Nat->Nat)(y:Nat):Nat:=SY ln nm (y+1)-SY ln nm y
section
variable {ln nm:Nat->Nat}{m N:Nat}
theorem xW (h:qj ln nm m N)(y:Nat):SY ln nm y<SY ln nm (y+1):=by
 have p:=h.mn.pos y
 have q:=h.ml.pos (SN nm y)
 have:=m9 ln (show SN nm y+1<=SN nm (y+1) by rw [gY];omega)
 rw [gY] at this
 unfold SY
 omega
theorem qW (h:qj ln nm m N):∀y,SN (B0 ln nm) y=SY ln nm y
 |0=>rfl
 |y+1=>by
  rw [gY,qW h y]
  have:=xW h y
  unfold B0
  omega
theorem gzv (h:qj ln nm m N):Mon (B0 ln nm) N:=⟨h.mn.m0,λy=>by have:=xW h y;unfold B0;omega,λy=>by
 have e:∀y,SY ln nm (y+N)=SY ln nm y+SN ln m:=λy=>by
  unfold SY
  have:=h.mn.eJ y
  rw [this,h.all,h.ml.eJ]
 unfold B0
 rw [show y+N+1=(y+1)+N by omega,e,e]
 omega⟩
theorem NB (h:qj ln nm m N)(d:Nat):ai (B0 ln nm) d=ai nm (ai ln d):=by
 obtain⟨a,b⟩:=h.ml.own d
 obtain⟨c,e⟩:=h.mn.own (ai ln d)
 refine ((gzv h).uniq ?_ ?_).symm
 ·rw [qW h]
  exact Kau (m9 ln c) a
 ·rw [qW h]
  exact Kbv b (m9 ln e)
theorem Uv (h:qj ln nm m N)(d:Nat):bW (B0 ln nm) d=0↔bW nm (ai ln d)=0/\bW ln d=0:=by
 have a:=(h.ml.own d).1
 have c:=(h.mn.own (ai ln d)).1
 have e:bW (B0 ln nm) d=d-SN ln (SN nm (ai nm (ai ln d))):=by
  have:bW (B0 ln nm) d=d-SN (B0 ln nm) (ai (B0 ln nm) d):=rfl
  rw [this,NB h,qW h]
  rfl
 rw [e]
 have mo:=m9 ln c
 constructor
 ·intro z
  have e2:SN ln (SN nm (ai nm (ai ln d)))=SN ln (ai ln d):=by omega
  have e3:SN nm (ai nm (ai ln d))=ai ln d:=by
   rcases KaA (SN nm (ai nm (ai ln d))) (ai ln d) with w|w
   ·have:=m9 ln (show SN nm (ai nm (ai ln d))+1<=ai ln d from w)
    have p:=h.ml.pos (SN nm (ai nm (ai ln d)))
    rw [gY] at this
    omega
   ·omega
  unfold bW
  exact⟨by omega,by omega⟩
 ·rintro⟨z1,z2⟩
  unfold bW at z1 z2
  have:SN nm (ai nm (ai ln d))=ai ln d:=by omega
  rw [this]
  omega
end
variable {F M:Nat}{f g:Nat->Bool}{S:DS}
theorem c9.early (h:c9 F M f S){v:Int}:v∈S.x↔∃d:Nat,v=(d:Int)/\(d:Int)<S.y/\f d=true:=by
 constructor
 ·intro hv
  have r:=h.ok.x.rg v hv
  refine⟨v.toNat,by omega,by omega,?_⟩
  rw [<-h.has]
  unfold qJ
  rw [if_pos (by omega),show ((v.toNat:Nat):Int)=v by omega]
  exact decide_eq_true hv
 ·rintro⟨d,rfl,h1,h2⟩
  rw [<-h.has] at h2
  unfold qJ at h2
  rw [if_pos h1] at h2
  exact of_decide_eq_true h2
theorem c9.late (h:c9 F M f S){d:Nat}(hd:S.y<=(d:Int)):f d=true↔((d:Int)-S.y) % S.z∈S.u:=by
 rw [<-h.has]
 unfold qJ
 rw [if_neg (by omega)]
 exact decide_eq_true_iff
theorem c9.round (h:c9 F M f S){v:Int}:v∈S.u↔∃i:Nat,v=(i:Int)/\(i:Int)<S.z/\f (S.y.toNat+i)=true:=by
 have y0:=h.ok.y0
 constructor
 ·intro hv
  have r:=h.ok.u.rg v hv
  refine⟨v.toNat,by omega,by omega,?_⟩
  rw [h.late (by omega),show ((S.y.toNat+v.toNat:Nat):Int)-S.y=v by omega,Kdr r.1 r.2]
  exact hv
 ·rintro⟨i,rfl,h1,h2⟩
  rw [h.late (by omega),show ((S.y.toNat+i:Nat):Int)-S.y=(i:Int) by omega,Kdr (by omega) h1] at h2
  exact h2
end Pu
namespace Pu
open PySem L2 Enc La
variable {F M:Nat}{f g:Nat->Bool}{S:DS}
/-- bh day behind bh last one ahead of a day,0 if there is none -/
def pv (g:Nat->Bool):Nat->Nat
 |0=>0
 |n+1=>if g n=true then n+1 else pv g n
/-- bh next day of g behind a day eA is less N6 T,T if there is none -/
def nx (g:Nat->Bool):Nat->Nat->Nat
 |0,d=>d
 |k+1,d=>if g d=true then d else nx g k (d+1)
end Pu
namespace Pu
open PySem L2 Enc La
variable {F M:Nat}{f g:Nat->Bool}{A B:DS}
theorem cF.mono {F F' M M':Nat}{f:Nat->Bool}{S:DS}(h:cF F M f S)(hF:F<=F')(hM:M∣M')(h0:0<M'):cF F' M' f S:=by
 obtain⟨r,a,b,c,d,e⟩:=h.ex
 exact⟨⟨r,Kau a hF,b,KaQ c hM,d,e⟩,h0⟩
end Pu
namespace Pu
open PySem L2 Enc La
theorem Ij {α:Type}[Inhabited α]{xs:List α}{i:Int}(h0:0<=i)(h1:i<xs.length):au xs i∈xs:=by
 obtain⟨k,rfl⟩:=KbT h0
 have hk:k<xs.length:=by omega
 unfold au L2.atI L2.ixN
 rw [if_pos (by omega),if_pos (by omega)]
 show ((xs[(k:Int).toNat]?)).getD default∈xs
 rw [KaK,Kao hk]
 exact Kbb hk
/-- drawn years: months of 1 and more days,120 days at most -/
structure YO (Y:List (List Int)):Prop where
 ne:Y≠[]
 rows:∀r∈Y,r≠[]/\∀x∈r,1<=x
 tot:Y.flatten.sum<=121
 few:Y.length<=16
theorem gzk {c:Int}:∀{xs:List Int},(∀x∈xs,x<=c)->xs.sum<=c*(xs.length:Int)
 |[],_=>by simp
 |x::xs,h=>by
  have:=gzk λy hy=>h y (Kad _ hy)
  have:=h x Kaa
  rw [Ka8,Kah,Kdz,Int.mul_add];omega
theorem Xs:∀{xs:List Int},(∀x∈xs,(1:Int)<=x)->(xs.length:Int)<=xs.sum
 |[],_=>by simp
 |x::xs,h=>by
  have:=Xs λy hy=>h y (Kad _ hy)
  have:=h x Kaa
  rw [Ka8,Kah];omega
theorem fqz:∀(Y:List (List Int)),Y.flatten.sum=(Y.map λr=>r.sum).sum
 |[]=>rfl
 |r::Y=>by rw [Kap,KaE,fqz Y,Kal,Ka8]
theorem Dy {K:Int}{Y:List (List Int)}(h:∀r∈Y,r.sum<=K):Y.flatten.sum<=K*(Y.length:Int):=by
 rw [fqz]
 have:=gzk (c:=K) (xs:=Y.map λr=>r.sum) λx hx=>by
  obtain⟨r,hr,rfl⟩:=KaM.mp hx
  exact h r hr
 rwa [Kaf] at this
theorem Nd.years {Y:List (List Int)}(h:∀r∈Y,r.length<=121/\∀x∈r,-10 ^ 59<=x/\x<=10 ^ 59):Nd 2 (Y.length*7628+3) (enc Y):=Nd.list (k:=1) (c:=7626) (n:=Y.length) (xs:=Y.map enc) (λx hx=>by
 obtain⟨r,hr,rfl⟩:=KaM.mp hx
 exact (Nd.ints (n:=121) (h r hr).2 (h r hr).1).mono (Kak _) (by omega)) (by rw [Kaf];omega)
theorem YO.lens {Y:List (List Int)}(h:YO Y):(Y.flatten.length:Int)<=Y.flatten.sum/\∀x∈Y.flatten,1<=x:=by
 have hp:∀x∈Y.flatten,(1:Int)<=x:=λx hx=>by
  obtain⟨r,hr,hx⟩:=Kaw.mp hx
  exact (h.rows r hr).2 x hx
 exact⟨Xs hp,hp⟩
theorem YO.many {Y:List (List Int)}(h:YO Y):Y.length<=Y.flatten.length:=by
 have:=h.rows
 clear h
 induction Y with
 |nil=>exact Kak _
 |cons r Y ih=>
  have h1:=ih λr hr=>this r (Kad _ hr)
  have h2:=Kar.mpr (this r Kaa).1
  rw [Kah,Kap,Kam];omega
theorem YO.row {Y:List (List Int)}(h:YO Y){r:List Int}(hr:r∈Y):r.length<=Y.flatten.length:=by
 have h1:=(List.sublist_flatten_of_mem hr).length_le
 exact h1
theorem JG {xs:List Int}(h:∀x∈xs,(1:Int)<=x){x:Int}(hx:x∈xs):x<=xs.sum:=by
 induction xs with
 |nil=>cases hx
 |cons y ys ih=>
  have h2:=Xs λz hz=>h z (Kad _ hz)
  have h3:=h y Kaa
  rw [Ka8]
  rcases Kai.mp hx with z|z
  ·rw [z];omega
  ·have:=ih (λz hz=>h z (Kad _ hz)) z
   omega
theorem YO.nd {Y:List (List Int)}(h:YO Y):Nd 2 122100 (enc Y):=by
 obtain⟨h1,h2⟩:=h.lens
 have h3:=h.many
 have h4:=h.tot
 have h5:=h.few
 refine (Nd.years (Y:=Y) λr hr=>⟨by have:=h.row hr;omega,λx hx=>?_⟩).mono (Kak _) (by omega)
 have hm:x∈Y.flatten:=Kaw.mpr ⟨r,hr,hx⟩
 have a:=h2 x hm
 have b:=JG h2 hm
 exact⟨by omega,by omega⟩
theorem YO.cp {Y:List (List Int)}(h:YO Y):GN (enc Y)=true:=h.nd.copy (by decide) (by decide) rfl
def aA (Y:List (List Int))(k:Nat):Nat:=(Y.flatten.getD (k % Y.flatten.length) 0).toNat
def mY (Y:List (List Int)):Nat:=Y.flatten.length
def TY (Y:List (List Int)):Nat:=SN (aA Y) (mY Y)
def HD (ln:Nat->Nat)(k:Nat):Int×Int:=(((SN ln k:Nat):Int),((ln k:Nat):Int))
theorem gqu (ln:Nat->Nat):∀n,((Kac n).map λk=>((ln k:Nat):Int)).sum=((SN ln n:Nat):Int)
 |0=>rfl
 |n+1=>by
  rw [Kbj,Kav,KaE,gqu ln n,gY]
  simp
theorem ym (ln:Nat->Nat):∀n,eu 0 ((Kac n).map λk=>((ln k:Nat):Int))=(Kac n).map λk=>((SN ln k:Nat):Int)
 |0=>rfl
 |n+1=>by
  rw [Kbj,Kav,Kav,Kdl,Kdl,fxy,ym ln n,gqu]
  simp
theorem fxp {α:Type}:∀(xs:List α) (k:Int) (p:Int×α),p∈aX k xs->∃i:Nat,p.1=k+(i:Int)/\xs[i]? = some p.2
 |[],k,p,h=>by cases h
 |x::xs,k,p,h=>by
  rcases Kai.mp h with rfl|h
  ·exact⟨0,by simp,rfl⟩
  ·obtain⟨i,h1,h2⟩:=fxp xs (k+1) p h
   exact⟨i+1,by rw [h1];omega,h2⟩
variable {Y:List (List Int)}
theorem YO.fne (h:YO Y):0<Y.flatten.length:=by
 have:=h.many
 have:=Kar.mpr h.ne
 omega
theorem YO.mon (h:YO Y):Mon (aA Y) (mY Y):=by
 have h0:=h.fne
 refine⟨h0,λk=>?_,λk=>?_⟩
 ·have hm:=KaS k h0
  unfold aA
  rw [getD_eq hm]
  have:=h.lens.2 _ (Kbb hm)
  omega
 ·unfold aA mY
  rw [Kb3]
theorem YO.xs (h:YO Y):Y.flatten=(Kac (mY Y)).map λk=>((aA Y k:Nat):Int):=by
 have h0:=h.fne
 refine HP (by simp [mY]) λi hi=>?_
 rw [Cp (f:=λk=>((aA Y k:Nat):Int)) (show i<mY Y from hi)]
 unfold aA
 rw [Kbm hi]
 have:=h.lens.2 _ (Kbb hi)
 rw [getD_eq hi]
 omega
theorem YO.sum (h:YO Y):Y.flatten.sum=((TY Y:Nat):Int):=by
 have:=gqu (aA Y) (mY Y)
 rw [<-h.xs] at this
 exact this
theorem YO.d_ (h:YO Y):TY Y<=121:=by have:=h.tot;rw [h.sum] at this;omega
theorem YO.mT (h:YO Y):mY Y<=TY Y:=h.mon.z8 _
theorem YO.T0 (h:YO Y):0<TY Y:=h.mon.T0
theorem HS {α:Type}[Inhabited α]{c:Nat->α}{n i:Nat}(h:i<n):au ((Kac n).map c) (i:Int)=c i:=by
 rw [WH,KaO,Kbq h];rfl
def cO (Y:List (List Int))(y:Nat):List Int:=Y.getD (y % Y.length) []
def aJ (Y:List (List Int))(y:Nat):Nat:=(cO Y y).length
theorem YO.n0 (h:YO Y):0<Y.length:=Kar.mpr h.ne
theorem Ph {q:Nat}(hq:q<Y.length):cO Y q=Y[q]:=by
 unfold cO
 rw [Kbm hq,KaD,Kao hq];rfl
theorem O7 (y:Nat):cO Y (y % Y.length)=cO Y y:=by
 unfold cO
 rw [Nat.mod_mod]
theorem gqv:∀n,n<=Y.length->SN (aJ Y) n=(Y.take n).flatten.length
 |0,_=>by simp [SN]
 |n+1,h=>by
  have hq:n<Y.length:=h
  rw [gY,gqv n (by omega),List.take_succ,Kao hq,KaR,Kam]
  unfold aJ
  rw [Ph hq]
  simp
theorem YO.jS (h:YO Y):qj (aA Y) (aJ Y) (mY Y) Y.length:=by
 have n0:=h.n0
 refine⟨h.mon,⟨n0,λk=>?_,λk=>?_⟩,?_⟩
 ·unfold aJ
  rw [<-O7,Ph (KaS k n0)]
  have:=Kar.mpr (h.rows _ (Kbb (KaS k n0))).1
  omega
 ·unfold aJ cO
  rw [Kb3]
 ·rw [gqv _ (Kak _),List.take_length];rfl
theorem YO.lW (h:YO Y){q:Nat}(hq:q<Y.length):cO Y q=(Kac (aJ Y q)).map λj=>((aA Y (SN (aJ Y) q+j):Nat):Int):=by
 refine HP (by simp [aJ]) λj hj=>?_
 have hj:j<aJ Y q:=hj
 rw [Cp (f:=λj=>((aA Y (SN (aJ Y) q+j):Nat):Int)) hj]
 have a:=m9 (aJ Y) (show q+1<=Y.length from hq)
 have b:=h.jS.all
 rw [gY] at a
 have hl:SN (aJ Y) q+j<Y.flatten.length:=by show _<mY Y;omega
 have e:Y.flatten.getD (SN (aJ Y) q+j) 0=(cO Y q).getD j 0:=by
  have e1:Y.flatten=(Y.take q).flatten++(cO Y q++(Y.drop (q+1)).flatten):=by
   rw [Ph hq,<-Kap,<-KaR,<-Ka6 hq,Kbf]
  rw [e1,gqv q (by omega),KaD,Kbn (by omega),Kbz,KcH hj,<-KaD]
 unfold aA
 rw [Kbm hl,e]
 have hm:(cO Y q).getD j 0∈cO Y q:=by rw [getD_eq hj];exact Kbb hj
 rw [Ph hq] at hm ⊢
 have:=(h.rows _ (Kbb hq)).2 _ hm
 omega
theorem YO.xj (h:YO Y)(y:Nat):SN (aJ Y) y=SN (aJ Y) (y % Y.length)+y / Y.length*mY Y:=by
 have:=h.jS.mn.xV y
 rw [h.jS.all] at this
 omega
theorem YO.kj (h:YO Y)(y:Nat):cO Y y=(Kac (aJ Y y)).map λj=>((aA Y (SN (aJ Y) y+j):Nat):Int):=by
 have e:=h.lW (KaS y h.n0)
 have e2:aJ Y (y % Y.length)=aJ Y y:=by unfold aJ;rw [O7]
 rw [O7,e2] at e
 rw [e]
 refine Kas λj _=>?_
 rw [h.xj y,show SN (aJ Y) (y % Y.length)+y / Y.length*mY Y+j=(SN (aJ Y) (y % Y.length)+j)+y / Y.length*mY Y by omega,h.mon.zd]
theorem gzg (h:YO Y)(y:Nat):au Y ((y:Int) % (Y.length:Int))=cO Y y:=by
 have hq:=KaS y h.n0
 rw [<-KaI,WH,Kao hq,<-O7,Ph hq];rfl
theorem YO.all (h:YO Y):Y=(Kac Y.length).map (cO Y):=by
 refine Kb7 (by simp) λi h1 h2=>?_
 rw [KbU,Kcf,Ph h1]
theorem Mon.T8 {ln:Nat->Nat}{m:Nat}(h:Mon ln m)(k:Nat):ln k<=SN ln m:=by
 have e:=h.zc k
 have a:=m9 ln (show k % m+1<=m from KaS k h.m0)
 rw [gY] at a
 omega
theorem YO.YG (h:YO Y)(y:Nat):SY (aA Y) (aJ Y) (y+1)<=SY (aA Y) (aJ Y) y+TY Y:=by
 have a:=h.jS.mn.T8 y
 rw [h.jS.all] at a
 unfold SY
 rw [gY]
 have b:=m9 (aA Y) (show SN (aJ Y) y+aJ Y y<=SN (aJ Y) y+mY Y by omega)
 rw [h.mon.eJ] at b
 exact b
theorem YO.LJ (y:Nat):SY (aA Y) (aJ Y) y<=SY (aA Y) (aJ Y) (y+1):=m9 _ (by rw [gY];omega)
variable {Y:List (List Int)}
theorem Cr (h:YO Y):CL Y/\Ml Y=true:=by
 have:=h.few
 refine⟨λ_=>⟨λx hx h=>h,by omega⟩,decide_eq_true ⟨h.ne,?_⟩⟩
 rw [Kcl,Kbk]
 intro r hr
 obtain⟨a,b⟩:=h.rows r hr
 exact decide_eq_true ⟨a,b _ (fjz a)⟩
theorem sA (g:Int×List Int->Int->Int×Int):∀(Y:List (List Int)) (k:Int),(Kbg (λ(x2:Int×(List Int))=>(Kaj (g x2) (rng 0 (x2.2.length:Int)))) (aX k Y)).length=Y.flatten.length
 |[],_=>rfl
 |r::Y,k=>by
  show (Kbg _ ((k,r)::aX (k+1) Y)).length=_
  rw [KbA,Kam,sA g Y (k+1),Kap,Kam,Kaf,HH]
  dsimp only
  omega
theorem yI (Y:List (List Int)):(Kbg (λ(x4:List Int)=>(Kaj (λ(x5:Int)=>x5) x4)) Y)=Y.flatten:=by
 have:(λ(x4:List Int)=>(Kaj (λ(x5:Int)=>x5) x4))=id:=funext λx=>Kdv x
 rw [this,List.flatMap_id]
/-- bh year of a month of bh Kv and its place in it -/
def xG (nm:Nat->Nat)(k:Nat):Int×Int:=(((ai nm k:Nat):Int),((bW nm k:Nat):Int))
theorem FD (h:YO Y):(Kbg (λ(x2:Int×(List Int))=>(Kaj (λ(x3:Int)=>(x2.1,x3)) (rng 0 (x2.2.length:Int)))) (aX 0 Y))=(Kac (mY Y)).map (xG (aJ Y)):=by
 have e:=vI (aJ Y) (cO Y) (λ(x2:Int×(List Int))=>(Kaj (λ(x3:Int)=>(x2.1,x3)) (rng 0 (x2.2.length:Int)))) (xG (aJ Y)) Y.length λk hk=>by
  dsimp only
  rw [show (cO Y k).length=aJ Y k from rfl,Xz,KaL]
  refine Kas λj hj=>?_
  have hj:=KaJ.mp hj
  show ((k:Int),(j:Int))=xG (aJ Y) (SN (aJ Y) k+j)
  unfold xG bW
  rw [h.jS.mn.at hj,Kbz]
 rw [<-h.all,h.jS.all] at e
 exact e
/-- what a CN of these years is made of -/
structure CO (Y:List (List Int))(c:bI):Prop where
 own:c.own_years=Y
 G2:c.spots=(Kac (mY Y)).map (xG (aJ Y))
 lens:c.lengths=(Kac (mY Y)).map λk=>((aA Y k:Nat):Int)
 fst:c.firsts=(Kac (mY Y)).map λk=>((SN (aA Y) k:Nat):Int)
 tot:c.total=((TY Y:Nat):Int)
theorem rN (h:YO Y):x7 Y/\CO Y (sR Y):=by
 obtain⟨a1,a2⟩:=Cr h
 have h1:=h.few
 have h2:=h.mT
 have h3:=h.d_
 have h4:Y.flatten.length=mY Y:=rfl
 constructor
 ·unfold x7
  rw [c_,c_,c_,yI,sA (λx2 x3=>(x2.1,x3))]
  refine⟨a1,λq=>q a2,λ_=>⟨by omega,λx hx=>?_,by omega,by omega,by omega⟩⟩
  obtain⟨i,_,hi⟩:=fxp Y 0 x hx
  have:=h.row (Kaq hi)
  omega
 ·unfold sR
  rw [if_neg (λq=>q a2)]
  simp only [lt_eq]
  rw [yI]
  refine⟨Kdv _,FD h,h.xs,?_,h.sum⟩
  show eu 0 Y.flatten=_
  rw [h.xs,ym]
theorem HJ (h:YO Y){c:bI}(k:CO Y c){f:Nat->Bool}{xs:List Int}(hx:B6 xs ((TY Y:Nat):Int))(hp:∀d,f (d+TY Y)=f d)(hf:∀d:Nat,d<TY Y->(f d=true↔(d:Int)∈xs)):v8 c xs/\cF 0 (TY Y) f (Ho c xs):=by
 have h3:=h.d_
 obtain⟨a,b⟩:=w_ (HK h.T0 hx hp hf) (by omega)
 unfold v8 Ho
 rw [k.tot]
 exact⟨a,b⟩
theorem qV (h:YO Y){a b:Nat}(hab:a<b):SN (aA Y) a<SN (aA Y) b:=by
 have:=m9 (aA Y) (show a+1<=b from hab)
 have p:=h.mon.pos a
 rw [gY] at this
 omega
theorem zw (h:YO Y)(d:Nat):bW (aA Y) (d+TY Y)=bW (aA Y) d/\bW (aJ Y) (ai (aA Y) (d+TY Y))=bW (aJ Y) (ai (aA Y) d):=by
 have M:=h.mon
 have e1:=M.gq d
 have e2:=M.eJ (ai (aA Y) d)
 have o:=(M.own d).1
 constructor
 ·unfold bW
  rw [show d+TY Y=d+SN (aA Y) (mY Y) from rfl,e1,e2];omega
 ·rw [show d+TY Y=d+SN (aA Y) (mY Y) from rfl,e1,h.jS.tM]
/-- bh days of months eA some of which is so -/
theorem Xe (h:YO Y){c:bI}(k:CO Y c){P:Nat->Bool}{j:Nat->Nat}(hP:∀q,q<mY Y->P q=true->j q<aA Y q)(hj:∀a b,a<b->SN (aA Y) a+j a<SN (aA Y) b+j b)(hPp:∀q,P (q+mY Y)=P q)(hjp:∀q,j (q+mY Y)=j q):
  v8 c (((Kac (mY Y)).filter P).map λq=>((SN (aA Y) q+j q:Nat):Int))/\cF 0 (TY Y) (λd=>P (ai (aA Y) d) && decide (bW (aA Y) d=j (ai (aA Y) d))) (Ho c (((Kac (mY Y)).filter P).map λq=>((SN (aA Y) q+j q:Nat):Int))):=by
 have M:=h.mon
 refine HJ h k (Hl (g:=λq=>SN (aA Y) q+j q) hj λq hq hp=>?_) (λd=>?_) λd hd=>?_
 ·have:=m9 (aA Y) (show q+1<=mY Y from hq)
  have:=hP q hq hp
  rw [gY] at *
  show _<SN (aA Y) (mY Y)
  omega
 ·show (P (ai (aA Y) (d+TY Y)) && decide (bW (aA Y) (d+TY Y)=j (ai (aA Y) (d+TY Y))))=_
  rw [(zw h d).1,show d+TY Y=d+SN (aA Y) (mY Y) from rfl,M.gq,hPp,hjp]
 ·have o:=(M.own d).1
  rw [KaM,KaU,decide_eq_true_iff]
  constructor
  ·rintro⟨a,b⟩
   refine⟨ai (aA Y) d,Kce.mpr ⟨KaJ.mpr (M.pQ hd),a⟩,?_⟩
   unfold bW at b
   omega
  ·rintro⟨q,hq,e⟩
   obtain⟨a,b⟩:=Kce.mp hq
   have a:=KaJ.mp a
   have e:d=SN (aA Y) q+j q:=by omega
   have oq:ai (aA Y) d=q:=by rw [e];exact M.at (hP q a b)
   rw [oq]
   refine⟨b,?_⟩
   unfold bW
   rw [oq];omega
variable {Y:List (List Int)}
/-- bh days of a place of a month -/
def Ru (Y:List (List Int))(mo pl d:Nat):Bool:=decide (bW (aJ Y) (ai (aA Y) d)=mo/\bW (aA Y) d=pl)
theorem zI (h:YO Y)(d:Nat):jR (aA Y) (d+TY Y)=jR (aA Y) d:=h.mon.N1 d
theorem ejr (h:YO Y){c:bI}(k:CO Y c):Ci c/\cF 0 (TY Y) (jR (aA Y)) (LX c):=by
 obtain⟨a,b⟩:=Xe h k (P:=λ_=>true) (j:=λ_=>0) (λq _ _=>by have:=h.mon.pos q;omega) (λa b hab=>by have:=qV h hab;omega) (λ_=>rfl) (λ_=>rfl)
 have e:(((Kac (mY Y)).filter λ_=>true).map λq=>((SN (aA Y) q+0:Nat):Int))=c.firsts:=by
  rw [k.fst,Kcu.mpr λ_ _=>rfl]
  rfl
 rw [e] at a b
 exact⟨a,b.congr λd=>by unfold jR;simp⟩
/-- bh first days of years -/
def t8 (Y:List (List Int))(d:Nat):Bool:=decide (bW (aJ Y) (ai (aA Y) d)=0/\bW (aA Y) d=0)
theorem fxq (h:YO Y){c:bI}(k:CO Y c):Bt c/\cF 0 (TY Y) (λd=>jR (aA Y) (d+1)) (J3 c):=by
 have M:=h.mon
 have h2:=h.mT
 have h3:=h.d_
 obtain⟨a,b⟩:=Xe h k (P:=λ_=>true) (j:=λq=>aA Y q-1) (λq _ _=>by have:=M.pos q;omega) (λa b hab=>by
  have p1:=M.pos a
  have p2:=M.pos b
  have:=qV h (show a+1<b+1 by omega)
  rw [gY,gY] at this
  omega) (λ_=>rfl) (λq=>by rw [M.per])
 have e:(Kaj (λ(x1:Int×Int)=>((x1.1+x1.2)-(1:Int))) (KbF c.firsts c.lengths))=(((Kac (mY Y)).filter λ_=>true).map λq=>((SN (aA Y) q+(aA Y q-1):Nat):Int)):=by
  rw [k.fst,k.lens,Kcs,KaL,Kcu.mpr λ_ _=>rfl]
  refine Kas λq _=>?_
  have:=M.pos q
  show (((SN (aA Y) q:Nat):Int)+((aA Y q:Nat):Int))-1=_
  omega
 unfold Bt J3
 rw [e]
 refine⟨⟨?_,a⟩,b.congr λd=>?_⟩
 ·rw [k.fst,k.lens,Kcs,Kaf,KaB];omega
 ·obtain⟨o1,o2⟩:=M.own d
  have p:=M.pos (ai (aA Y) d)
  rw [gY] at o2
  unfold jR
  rw [KcP]
  refine decide_eq_decide.mpr ⟨λz=>?_,λz=>?_⟩
  ·have:d+1=SN (aA Y) (ai (aA Y) d+1):=by rw [gY];unfold bW at z;omega
   rw [this,M.Uu]
  ·rcases M.jo d with e|e
   ·unfold bW at z
    rw [e] at z
    omega
   ·have:=(M.own (d+1)).1
    rw [e,gY] at this
    unfold bW
    omega
theorem OZ (h:YO Y){c:bI}(k:CO Y c)(mo pl:Nat):z_ c (mo:Int) (pl:Int)/\cF 0 (TY Y) (Ru Y mo pl) (v5 c (mo:Int) (pl:Int)):=by
 have M:=h.mon
 have h2:=h.mT
 have h3:=h.d_
 obtain⟨a,b⟩:=Xe h k (P:=λq=>decide (bW (aJ Y) q=mo/\pl<aA Y q)) (j:=λ_=>pl) (λq _ z=>(of_decide_eq_true z).2) (λa b hab=>by have:=qV h hab;omega) (λq=>by rw [h.jS.tM,M.per]) (λ_=>rfl)
 have ez:fR c.firsts c.lengths c.spots=(Kac (mY Y)).map λq=>T3.mk ((SN (aA Y) q:Nat):Int) ((aA Y q:Nat):Int) (xG (aJ Y) q):=by
  rw [k.fst,k.lens,k.G2,xP]
 have ht:∀(st:List Int) (x:T3 Int Int (Int×Int)),LS (mo:Int) (pl:Int) st x=if (x.z.2=(mo:Int))/\((pl:Int)<x.y) then st++[x.x+(pl:Int)] else st:=λst x=>by
  unfold LS
  split <;> first|rw [lt_eq]|rfl
 have ef:=rF (P:=λx:T3 Int Int (Int×Int)=>(x.z.2=(mo:Int))/\((pl:Int)<x.y)) (g:=λx=>x.x+(pl:Int)) ht (fR c.firsts c.lengths c.spots) []
 have e:((fR c.firsts c.lengths c.spots).filter λx=>decide ((x.z.2=(mo:Int))/\((pl:Int)<x.y))).map (λx=>x.x+(pl:Int))=(((Kac (mY Y)).filter λq=>decide (bW (aJ Y) q=mo/\pl<aA Y q)).map λq=>((SN (aA Y) q+pl:Nat):Int)):=by
  rw [ez,KcA,KaL]
  have:((λx:T3 Int Int (Int×Int)=>decide ((x.z.2=(mo:Int))/\((pl:Int)<x.y))) ∘ λq=>T3.mk ((SN (aA Y) q:Nat):Int) ((aA Y q:Nat):Int) (xG (aJ Y) q))=λq=>decide (bW (aJ Y) q=mo/\pl<aA Y q):=funext λq=>by
   show decide ((((bW (aJ Y) q:Nat):Int)=(mo:Int))/\((pl:Int)<((aA Y q:Nat):Int)))=_
   refine decide_eq_decide.mpr ⟨λz=>⟨by omega,by omega⟩,λz=>⟨by omega,by omega⟩⟩
  rw [this]
  refine Kas λq _=>?_
  show ((SN (aA Y) q:Nat):Int)+(pl:Int)=_
  omega
 rw [Kbr,e] at ef
 have lf:c.firsts.length=mY Y:=by rw [k.fst];simp
 have ll:c.lengths.length=mY Y:=by rw [k.lens];simp
 have ls:c.spots.length=mY Y:=by rw [k.G2];simp
 have lz:(fR c.firsts c.lengths c.spots).length=mY Y:=by rw [ez];simp
 unfold z_ v5
 rw [c_,lt_eq,ef,c_,lt_eq,lf,ll,ls]
 refine⟨⟨by unfold oz;intro q;omega,by unfold oz;intro q;omega,⟨rfl,rfl⟩,?_,a⟩,b.congr λd=>?_⟩
 ·exact rG (N:=1000) ht (fR c.firsts c.lengths c.spots) [] (by rw [lz,KbE];omega) λst x _ hl=>by
   unfold VJ
   intro _
   omega
 ·unfold Ru
  have p:=M.E4 d
  rw [<-Bool.decide_and]
  refine decide_eq_decide.mpr ⟨λz=>⟨z.1.1,z.2⟩,λz=>⟨⟨z.1,by omega⟩,z.2⟩⟩
end Pu
namespace Pu
open PySem L2 Enc La
variable {Y:List (List Int)}{M B:Nat}{nm:Tx->Nat->Bool}{nb:Tx->Nat}{ns:List Tx}
/-- how bq8 later bh days of two Q0 round -/
def Pw.more (M:Nat):Pw->Nat
 |.next=>M
 |.last=>M
 |_=>0
/-- an Ol CN,bh sets of bh names -/
structure KN (M:Nat)(nm:Tx->Nat->Bool)(nb:Tx->Nat)(ns:List Tx)(known:DT DS):Prop where
 has:∀t∈ns,known.has t=true
 can:∀t∈ns,cF (nb t) M (nm t) (known.at t)
end Pu
namespace Pu
open PySem L2 Enc La
variable {Y:List (List Int)}{M B:Nat}{nm:Tx->Nat->Bool}{nb:Tx->Nat}{ns:List Tx}
variable {L:List (Tx×Fe)}{self:zY}
theorem KN.mem {known:DT DS}(k:KN M nm nb ns known){ns':List Tx}(h:∀t∈ns',t∈ns):KN M nm nb ns' known:=⟨λt ht=>k.has t (h t ht),λt ht=>k.can t (h t ht)⟩
end Pu
namespace Pu
open PySem L2 Enc La
section
variable {Y:List (List Int)}
theorem W_ (h:YO Y){c:bI}(k:CO Y c):yd c/\sQ c=(Kac (TY Y)).map (nX (aA Y)):=by
 have M:=h.mon
 have h2:=h.mT
 have h3:=h.d_
 have e:sQ c=(Kac (TY Y)).map (nX (aA Y)):=by
  unfold sQ
  rw [k.lens]
  refine vI (aA Y) (λk=>((aA Y k:Nat):Int)) (λ(x1:Int×Int)=>(Kaj (λ(x2:Int)=>x1.1) (rng 0 x1.2))) (nX (aA Y)) (mY Y) λk hk=>?_
  dsimp only
  rw [Xz,KaL]
  refine Kas λj hj=>?_
  show (k:Int)=nX _ _
  unfold nX
  rw [M.at (KaJ.mp hj)]
 refine⟨?_,e⟩
 unfold yd
 refine⟨λx hx=>?_,by
  show (sQ c).length<=_
  rw [e,Kaf,KaB];omega⟩
 rw [k.lens,Km] at hx
 obtain⟨i,hi,rfl⟩:=KaM.mp hx
 have hi:=KaJ.mp hi
 have a:=m9 (aA Y) (show i+1<=mY Y from hi)
 rw [gY] at a
 have:SN (aA Y) (mY Y)=TY Y:=rfl
 dsimp only
 omega
theorem fqy (h:YO Y){c:bI}(k:CO Y c)(n:Nat):Ae c (n:Int)/\Bu c (n:Int)=HD (aA Y) n:=by
 have M:=h.mon
 have m0:=M.m0
 have h2:=h.mT
 have h3:=h.d_
 have hm:=KaS n m0
 have l1:c.lengths.length=mY Y:=by rw [k.lens];simp
 have l2:c.firsts.length=mY Y:=by rw [k.fst];simp
 have e2:(n:Int) % ((mY Y:Nat):Int)=((n % mY Y:Nat):Int):=by rw [<-KaI]
 constructor
 ·unfold Ae
  rw [c_,l1,l2,k.tot,wg,e2]
  exact⟨⟨by omega,by omega⟩,.inr (by omega),⟨by dsimp only;omega,by dsimp only;omega⟩,⟨by dsimp only;omega,by dsimp only;omega⟩⟩
 ·unfold Bu
  rw [lt_eq,l1,k.tot,k.fst,k.lens,wg,e2]
  dsimp only
  rw [HS hm,HS hm]
  unfold HD
  have e3:=M.xV n
  have e4:=M.zc n
  rw [<-e4,e3,Kc3,Kbi]
  rfl
theorem yY (h:YO Y){c:bI}(k:CO Y c){q j:Nat}(hq:q<Y.length)(hj:j<aJ Y q):BA c (q:Int) (j:Int)/\CA c (q:Int) (j:Int)=((SN (aJ Y) q+j:Nat):Int):=by
 have a:=m9 (aJ Y) (show q+1<=Y.length from hq)
 rw [gY,h.jS.all] at a
 have hl:SN (aJ Y) q+j<mY Y:=by omega
 have e:xG (aJ Y) (SN (aJ Y) q+j)=((q:Int),(j:Int)):=by
  unfold xG bW
  rw [h.jS.mn.at hj,Kbz]
 have hm:((q:Int),(j:Int))∈c.spots:=by
  rw [k.G2,<-e]
  exact KaM.mpr ⟨_,KaJ.mpr hl,rfl⟩
 refine⟨hm,?_⟩
 unfold CA
 have h1:=AR hm
 have h2:=AQ hm
 generalize Dm c.spots ((q:Int),(j:Int))=i at *
 rw [k.G2] at h1 h2
 rw [Kaf,KaB] at h1
 rw [KaO,Kbq h1] at h2
 have h3:=Option.some.inj h2
 unfold xG bW at h3
 have h4:=congrArg Prod.fst h3
 have h5:=congrArg Prod.snd h3
 dsimp only at h4 h5
 have h6:=(h.jS.mn.own i).1
 have h7:ai (aJ Y) i=q:=by omega
 rw [h7] at h5 h6
 omega
/-- so many years later,of a day of bh Kv -/
theorem vW (h:YO Y){c:bI}(k:CO Y c)(n:Nat){d:Nat}(hd:d<TY Y):Bv c (d:Int) (nX (aA Y) d) (n:Int)/\LW c (d:Int) (nX (aA Y) d) (n:Int)=Gb (aA Y) (aJ Y) n d:=by
 have M:=h.mon
 have n0:=h.n0
 have h2:=h.mT
 have h3:=h.d_
 have hN:=h.many
 have ho:=M.pQ (k:=mY Y) hd
 have l1:c.spots.length=mY Y:=by rw [k.G2];simp
 have l2:c.firsts.length=mY Y:=by rw [k.fst];simp
 have l3:Y.length<=mY Y:=hN
 have e1:au c.spots (nX (aA Y) d)=xG (aJ Y) (ai (aA Y) d):=by
  unfold nX
  rw [k.G2,HS ho]
 have o1:=(M.own d).1
 have o2:=(h.jS.mn.own (ai (aA Y) d)).1
 have e9:au c.firsts (nX (aA Y) d)=((SN (aA Y) (ai (aA Y) d):Nat):Int):=by
  unfold nX
  rw [k.fst,HS ho]
 generalize hk:ai (aA Y) d=kk at *
 generalize hy:ai (aJ Y) kk=y at *
 have hq:=KaS (y+n) n0
 have oW:au Y (((y+n) % Y.length:Nat):Int)=cO Y (y+n):=by
  rw [KaI]
  exact gzg h (y+n)
 have hc:=h.jS.mn.pos (y+n)
 have XM:aJ Y ((y+n) % Y.length)=aJ Y (y+n):=by unfold aJ;rw [O7]
 have hpl:bW (aJ Y) kk=kk-SN (aJ Y) y:=by unfold bW;rw [hy]
 have emin:min ((bW (aJ Y) kk:Nat):Int) (((aJ Y (y+n):Nat):Int)-1)=((min (bW (aJ Y) kk) (aJ Y (y+n)-1):Nat):Int):=by omega
 obtain⟨i1,i2⟩:=yY h k (q:=(y+n) % Y.length) (j:=min (bW (aJ Y) kk) (aJ Y (y+n)-1)) hq (by rw [XM];omega)
 obtain⟨c1,c2⟩:=fqy h k (SN (aJ Y) ((y+n) % Y.length)+min (bW (aJ Y) kk) (aJ Y (y+n)-1))
 have edm:((y:Int)+(n:Int))=((y+n:Nat):Int):=by omega
 have emo:iN (aJ Y) n kk=SN (aJ Y) ((y+n) % Y.length)+min (bW (aJ Y) kk) (aJ Y (y+n)-1)+(y+n) / Y.length*mY Y:=by
  unfold iN
  rw [hy,h.xj (y+n),hpl]
  omega
 have es:SN (aA Y) (iN (aJ Y) n kk)=SN (aA Y) (SN (aJ Y) ((y+n) % Y.length)+min (bW (aJ Y) kk) (aJ Y (y+n)-1))+(y+n) / Y.length*TY Y:=by
  rw [emo,M.qX];rfl
 have el:aA Y (iN (aJ Y) n kk)=aA Y (SN (aJ Y) ((y+n) % Y.length)+min (bW (aJ Y) kk) (aJ Y (y+n)-1)):=by
  rw [emo,M.zd]
 have lp:=M.pos (SN (aJ Y) ((y+n) % Y.length)+min (bW (aJ Y) kk) (aJ Y (y+n)-1))
 constructor
 ·unfold Bv
  rw [e1,c_,k.own]
  unfold xG
  dsimp only
  rw [hy,c_,edm,wg,<-KaI,oW,c_,show (cO Y (y+n)).length=aJ Y (y+n) from rfl,emin,i2,c_,c_,l1,l2,k.tot]
  unfold nX
  exact⟨⟨by omega,by omega⟩,⟨by omega,by omega⟩,⟨by omega,by omega⟩,i1,c1,λ_=>⟨by omega,by omega⟩,.inr (by omega)⟩
 ·unfold LW
  rw [e1,lt_eq,k.own]
  unfold xG
  dsimp only
  rw [hy,lt_eq,edm,wg,<-KaI,oW,lt_eq,show (cO Y (y+n)).length=aJ Y (y+n) from rfl,emin,i2,c2,lt_eq,lt_eq,e9,k.tot]
  unfold Gb B3 HD
  rw [hk,hy,es,el]
  dsimp only
  by_cases cc:aJ Y (y+n)<=bW (aJ Y) kk
  ·rw [if_pos cc,if_pos (by omega)]
   rw [<-Kbi]
   omega
  ·rw [if_neg cc,if_neg (by omega)]
   rw [<-Kbi]
   omega
/-- bh ladder of so many years later -/
theorem O8 (h:YO Y){c:bI}(k:CO Y c)(n:Nat):Af c (n:Int)/\Cn (Gb (aA Y) (aJ Y) n) (vZ c (n:Int)):=by
 have h2:=h.mT
 have h3:=h.d_
 have T0:=h.T0
 obtain⟨o1,o2⟩:=W_ h k
 have e:(Kaj (λ(x1:Int×Int)=>(LW c x1.1 x1.2 (n:Int))) (aX 0 (sQ c)))=(Kac (TY Y)).map (Gb (aA Y) (aJ Y) n):=by
  rw [o2,Km,KaL]
  exact Kas λd hd=>(vW h k n (KaJ.mp hd)).2
 obtain⟨l1,l2⟩:=gjf (bV.round T0 (h.jS.Vc n) (h.jS.xO n) (by omega)) (by show 0+SN _ _<=_;show 0+TY Y<=_;omega)
 unfold Af vZ wB JY
 rw [c_,lt_eq,e,k.tot]
 refine⟨⟨by unfold oz;intro q;omega,o1,λx hx=>?_,?_,l1⟩,l2⟩
 ·rw [o2,Km] at hx
  obtain⟨d,hd,rfl⟩:=KaM.mp hx
  exact (vW h k n (KaJ.mp hd)).1
 ·rw [o2,Km,Kaf,KaB];omega
theorem IU (h:YO Y){c:bI}(k:CO Y c)(n:Nat):fg (J2 c (n:Int)) (Qx c (n:Int)) (aX 0 (sQ c)) []/\Ka2 (J2 c (n:Int)) [] (aX 0 (sQ c))=(Kac (TY Y)).map (Eu (aA Y) n):=by
 have M:=h.mon
 have h2:=h.mT
 have h3:=h.d_
 have l2:c.firsts.length=mY Y:=by rw [k.fst];simp
 obtain⟨o1,o2⟩:=W_ h k
 have hat:∀d:Nat,nX (aA Y) d+(n:Int)=((ai (aA Y) d+n:Nat):Int):=λd=>by unfold nX;omega
 rw [o2,Km]
 have hH:∀(st:List Int) (x:Int×Int),J2 c (n:Int) st x=st++[((Bu c (x.2+(n:Int))).1+(min (x.1-(au c.firsts x.2)) ((Bu c (x.2+(n:Int))).2-(1:Int))))]:=λst x=>rfl
 constructor
 ·refine fjd (λx=>[((Bu c (x.2+(n:Int))).1+(min (x.1-(au c.firsts x.2)) ((Bu c (x.2+(n:Int))).2-(1:Int))))]) _ _ 1000 hH _ _ (λst x hx hb=>?_) ?_
  ·obtain⟨d,hd,rfl⟩:=KaM.mp hx
   have hd:=KaJ.mp hd
   have ho:=M.pQ (k:=mY Y) hd
   unfold Qx
   dsimp only at hb ⊢
   rw [hat d,c_,l2]
   obtain⟨a1,a2⟩:=fqy h k (ai (aA Y) d+n)
   rw [Kcn] at hb
   unfold nX
   exact⟨a1,⟨by omega,by omega⟩,by omega⟩
  ·have:∀(g:Int×Int->Int) (xs:List (Int×Int)),(xs.flatMap λx=>[g x]).length=xs.length:=λg xs=>by
    induction xs with
    |nil=>rfl
    |cons x xs ih=>rw [KbA,Kam,ih];simp;omega
   rw [this,Kaf,KaB,KbE]
   omega
 ·rw [fxs _ _ hH,Kbr,KcY]
  have:∀(g:Nat->Int) (n:Nat) (f:Nat->List Int),(∀d,d<n->f d=[g d])->(Kac n).flatMap f=(Kac n).map g:=λg n f hf=>by
   induction n with
   |zero=>rfl
   |succ n ih=>rw [Kbj,KcB,ih λd hd=>hf d (by omega),Kav,Kc0,hf n (by omega)];rfl
  refine this _ _ _ λd hd=>?_
  have ho:=M.pQ (k:=mY Y) hd
  dsimp only
  rw [hat d,(fqy h k (ai (aA Y) d+n)).2,k.fst]
  unfold nX
  rw [HS ho]
  unfold HD Eu iN
  have e1:=(M.own d).1
  have e3:=M.pos (ai (aA Y) d+n)
  dsimp only
  refine congrArg (λx=>[x]) ?_
  omega
/-- bh ladder of so many months later -/
theorem Py (h:YO Y){c:bI}(k:CO Y c)(n:Nat):z9 c (n:Int)/\Cn (Eu (aA Y) n) (v7 c (n:Int)):=by
 have M:=h.mon
 have h2:=h.mT
 have h3:=h.d_
 have T0:=h.T0
 obtain⟨a1,a2⟩:=IU h k n
 obtain⟨l1,l2⟩:=gjf (bV.round T0 (M.Ln n) (M.xg n) (by omega)) (by show 0+SN _ _<=_;show 0+TY Y<=_;omega)
 unfold z9 v7 wB JY
 rw [c_,c_,lt_eq,lt_eq,a2,k.tot]
 exact⟨⟨by unfold oz;intro q;omega,(W_ h k).1,a1,l1⟩,l2⟩
/-- bh ladder of bh months ahead -/
theorem fjq (h:YO Y){c:bI}(k:CO Y c):BB c/\Cn (nX (aA Y)) (J4 c):=by
 have M:=h.mon
 have h2:=h.mT
 have h3:=h.d_
 have T0:=h.T0
 obtain⟨o1,o2⟩:=W_ h k
 have l0:c.lengths.length=mY Y:=by rw [k.lens];simp
 obtain⟨l1,l2⟩:=gjf (bV.round T0 M.Us M.EV (by omega)) (by show 0+SN _ _<=_;show 0+TY Y<=_;omega)
 unfold BB J4 wB JY
 rw [o2,l0]
 exact⟨⟨o1,l1⟩,l2⟩
theorem fxn (h:YO Y){c:bI}(k:CO Y c)(d:Nat):qY c (d:Int)/\iY c (d:Int)=cg (aA Y) (aJ Y) d:=by
 have M:=h.mon
 have h2:=h.mT
 have h3:=h.d_
 have T0:=h.T0
 have hN:=h.many
 have hN:Y.length<=mY Y:=hN
 have hr:=KaS d T0
 have ho:=M.pQ (k:=mY Y) hr
 have l1:c.spots.length=mY Y:=by rw [k.G2];simp
 have l2:c.firsts.length=mY Y:=by rw [k.fst];simp
 have ef:(Kbx (λ(x1:Int)=>decide (x1<=((d % TY Y:Nat):Int))) c.firsts).length=ai (aA Y) (d % TY Y)+1:=by
  rw [k.fst,KcA,Kaf]
  have:Kbx ((λ(x1:Int)=>decide (x1<=((d % TY Y:Nat):Int))) ∘ λk=>((SN (aA Y) k:Nat):Int)) (Kac (mY Y))=Kbx (λk=>decide (k<=ai (aA Y) (d % TY Y))) (Kac (mY Y)):=List.filter_congr λq _=>by
   show decide (((SN (aA Y) q:Nat):Int)<=_)=decide _
   obtain⟨a,b⟩:=M.own (d % TY Y)
   refine decide_eq_decide.mpr ⟨λz=>?_,λz=>?_⟩
   ·rcases KaA (ai (aA Y) (d % TY Y)) q with w|w
    ·have:=m9 (aA Y) (show ai (aA Y) (d % TY Y)+1<=q from w)
     omega
    ·exact w
   ·have:=m9 (aA Y) z
    omega
  rw [this,ux,Kb6 (by omega)]
 have ei:((((ai (aA Y) (d % TY Y)+1:Nat):Int))-(1:Int))=((ai (aA Y) (d % TY Y):Nat):Int):=by omega
 constructor
 ·unfold qY
  rw [k.tot,wg,<-KaI,c_,c_]
  dsimp only
  rw [ef,ei,l2,l1,c_,k.own]
  exact⟨by unfold oz;intro q;omega,⟨by omega,by omega⟩,by omega,⟨by omega,by omega⟩,.inr (by omega),⟨by omega,by omega⟩⟩
 ·unfold iY
  rw [k.tot,wg,<-KaI,lt_eq,lt_eq]
  dsimp only
  rw [ef,ei,lt_eq,k.own,k.G2,k.fst,HS ho,HS ho,h.jS.HL d]
  have o:=(M.own (d % TY Y)).1
  unfold xG
  dsimp only
  have ep:((bW (aA Y) (d % TY Y):Nat):Int)=((d % TY Y:Nat):Int)-((SN (aA Y) (ai (aA Y) (d % TY Y)):Nat):Int):=by unfold bW;omega
  show _=T3.mk (((d / TY Y*Y.length+ai (aJ Y) (ai (aA Y) (d % TY Y)):Nat):Int)) _ ((bW (aA Y) (d % TY Y):Nat):Int)
  rw [ep,Kc3,Kbi]
  rfl
theorem Dc (h:YO Y){c:bI}(k:CO Y c)(d:Nat):BF c (cg (aA Y) (aJ Y) d)/\Rk c (cg (aA Y) (aJ Y) d)=(d:Int):=by
 have M:=h.mon
 have n0:=h.n0
 have h2:=h.mT
 have h3:=h.d_
 have hN:Y.length<=mY Y:=h.many
 have l2:c.firsts.length=mY Y:=by rw [k.fst];simp
 have o1:=(M.own d).1
 have p1:=M.E4 d
 have p2:=h.jS.mn.E4 (ai (aA Y) d)
 have o2:=(h.jS.mn.own (ai (aA Y) d)).1
 have ek:SN (aJ Y) (ai (aJ Y) (ai (aA Y) d))+bW (aJ Y) (ai (aA Y) d)=ai (aA Y) d:=by unfold bW;omega
 have ed:SN (aA Y) (ai (aA Y) d)+bW (aA Y) d=d:=by unfold bW;omega
 have e0:cg (aA Y) (aJ Y) d=T3.mk ((ai (aJ Y) (ai (aA Y) d):Nat):Int) ((bW (aJ Y) (ai (aA Y) d):Nat):Int) ((bW (aA Y) d:Nat):Int):=rfl
 rw [e0]
 generalize ai (aJ Y) (ai (aA Y) d)=y at *
 generalize bW (aJ Y) (ai (aA Y) d)=mo at *
 generalize bW (aA Y) d=pl at *
 have hq:=KaS y n0
 have XM:aJ Y (y % Y.length)=aJ Y y:=by unfold aJ;rw [O7]
 have oW:au Y (((y % Y.length:Nat):Int))=cO Y y:=by
  rw [KaI]
  exact gzg h y
 have el:au (cO Y y) (mo:Int)=((aA Y (ai (aA Y) d):Nat):Int):=by
  rw [h.kj y,HS p2,ek]
 have rl:(cO Y y).length=aJ Y y:=rfl
 obtain⟨i1,i2⟩:=yY h k (q:=y % Y.length) (j:=mo) hq (by rw [XM];exact p2)
 have sm:=m9 (aJ Y) (show y % Y.length+1<=Y.length from hq)
 rw [gY,h.jS.all,XM] at sm
 have ix:SN (aJ Y) (y % Y.length)+mo<mY Y:=by omega
 have nb:¬(((cO Y y).length:Int)<=(mo:Int)∨au (cO Y y) (mo:Int)<=(pl:Int)):=by
  rw [rl,el]
  omega
 have eS:SN (aA Y) (ai (aA Y) d)=SN (aA Y) (SN (aJ Y) (y % Y.length)+mo)+y / Y.length*TY Y:=by
  rw [<-ek,h.xj y,show SN (aJ Y) (y % Y.length)+y / Y.length*mY Y+mo=(SN (aJ Y) (y % Y.length)+mo)+y / Y.length*mY Y by omega,M.qX]
  rfl
 constructor
 ·unfold BF
  rw [k.own]
  dsimp only
  rw [c_,wg,<-KaI,c_]
  dsimp only
  rw [oW,c_,rl,i2,l2,k.tot]
  rw [rl] at nb
  refine⟨⟨?_,?_,?_,trivial⟩,⟨by omega,by omega⟩,⟨by omega,by omega⟩,λ_=>⟨by omega,by omega⟩,λq=>nb q,λ_=>⟨.inr (by omega),i1,⟨by omega,by omega⟩⟩⟩
  ·unfold Ow oz;intro q;omega
  ·unfold Ow oz;intro q;omega
  ·unfold Ow oz;intro q;omega
 ·unfold Rk
  rw [k.own]
  dsimp only
  rw [lt_eq,wg,<-KaI,lt_eq]
  dsimp only
  rw [oW,lt_eq,if_neg nb,i2,k.tot,k.fst,HS ix,<-Kbi]
  omega
end
def kG {α:Type}[Inhabited α](xs:List α)(i:Nat):α:=xs.getD (i % xs.length) default
theorem Xo {α:Type}[Inhabited α]{xs:List α}{i:Nat}(h:i<xs.length):kG xs i=xs[i]:=by
 unfold kG
 rw [Kbm h,KaD,Kao h];rfl
theorem yt {α:Type}[Inhabited α](xs:List α)(i:Nat):kG xs (i+xs.length)=kG xs i:=by unfold kG;rw [Kb3]
theorem yr {α:Type}[Inhabited α](xs:List α):xs=(Kac xs.length).map (kG xs):=by
 apply Kb7
 ·simp
 ·intro i h1 h2
  rw [KbU,Kcf,Xo h1]
theorem fqo {α:Type}{f:Nat->α}{p:Nat}(h:∀d,f (d+p)=f d)(d:Nat):∀q,f (d+p*q)=f d
 |0=>rfl
 |q+1=>by rw [Kc4,<-Kcd,h,fqo h d q]
theorem Xh {α:Type}{f:Nat->α}{p:Nat}(h:∀d,f (d+p)=f d)(d:Nat):f (d % p)=f d:=by
 have:=fqo h (d % p) (d / p)
 rw [<-this,Nat.add_comm,Nat.div_add_mod]
theorem Je {α:Type}{f:Nat->α}:∀(p q:Nat),(∀d,f (d+p)=f d)->(∀d,f (d+q)=f d)->∀d,f (d+Kby p q)=f d:=by
 intro p q
 induction p,q using Kby.induction with
 |H0 n=>intro _ h;rw [Kdp];exact h
 |H1 m n m0 ih=>
  intro h1 h2
  rw [KdH]
  refine ih (λd=>?_) h1
  have:=fqo h1 (d+n % m) (n / m)
  rw [<-this,Kcd,KbC,h2]
/-- bh test of least_cycle -/
def AA {α:Type}[DecidableEq α](xs:List α)(p:Nat):Bool:=decide (xs.length % p=0/\xs=mulL (xs.take p) (((xs.length / p:Nat)):Int))
theorem Ey {α:Type}[Inhabited α]{xs:List α}{p q:Nat}(hp:p<=xs.length):mulL (xs.take p) ((q:Nat):Int)=(Kac (p*q)).map λi=>kG xs (i % p):=by
 have e:xs.take p=(Kac p).map (kG xs):=by
  apply Kb7
  ·simp;omega
  ·intro i h1 h2
   rw [KbU,Kcf,KcL,Xo]
 rw [e,A3]
theorem gxm {α:Type}[Inhabited α][DecidableEq α]{xs:List α}{p:Nat}(p0:0<p)(hp:p<=xs.length):AA xs p=true↔xs.length % p=0/\∀d,kG xs (d+p)=kG xs d:=by
 unfold AA
 rw [decide_eq_true_iff]
 refine and_congr_right λhd=>?_
 rw [Ey hp]
 have hm:p*(xs.length / p)=xs.length:=Nat.mul_div_cancel' (KbV hd)
 rw [hm]
 have n0:0<xs.length:=by omega
 constructor
 ·intro e d
  have key:∀i,i<xs.length->kG xs i=kG xs (i % p):=λi hi=>by
   have e2:xs[i]? = ((Kac xs.length).map λi=>kG xs (i % p))[i]?:=by rw [<-e]
   rw [KaO,Kbq hi,Kao hi] at e2
   rw [Xo hi]
   exact Option.some.inj e2
  have all:∀d,kG xs d=kG xs (d % p):=λd=>by
   rw [<-Xh (yt xs) d,key _ (KaS _ n0),Nat.mod_mod_of_dvd _ (KbV hd)]
  rw [all (d+p),all d,Kb3]
 ·intro h
  have e:=yr xs
  refine e.trans (Kas λi _=>(Xh h i).symm)
/-- what least_cycle tells -/
structure Vi {α:Type}[Inhabited α](xs ys:List α)(p:Nat):Prop where
 p0:0<p
 pl:p∣xs.length
 e:ys=(Kac p).map (kG xs)
 per:∀d,kG xs (d+p)=kG xs d
 mn:∀q,0<q->q∣xs.length->(∀d,kG xs (d+q)=kG xs d)->p<=q
theorem FH {α:Type}[Inhabited α]{xs:List α}{p:Nat}(hp:p<=xs.length):xs.take p=(Kac p).map (kG xs):=by
 apply Kb7
 ·simp;omega
 ·intro i h1 h2
  rw [KbU,Kcf,KcL,Xo]
theorem gT {Y:List (List Int)}(hY:Y≠[])(hl:Y.length<=1000):Ag Y/\∃p,Vi Y (OQ Y) p:=by
 have n0:0<Y.length:=Kar.mpr hY
 have key:∀(k s:Nat),1<=s->s+k=Y.length->(∀q,0<q->q<s->AA Y q=false) ->
   ja (Gq Y) (Q5 Y) ((KcV s k).map λi=>((i:Nat):Int)) ()/\∃p,Vi Y (iy (forR (Gq Y) ((KcV s k).map λi=>((i:Nat):Int)) ()) (λr=>r) λ_=>Y) p:=by
  intro k
  induction k with
  |zero=>
   intro s s1 hs hq
   refine⟨trivial,Y.length,n0,Kbt _,yr Y,yt Y,λq q0 qd hq2=>?_⟩
   rcases KaA q Y.length with z|z
   ·exfalso
    have:=hq q q0 (by omega)
    rw [(gxm q0 (by omega)).mpr ⟨Kch qd,hq2⟩] at this
    cases this
   ·exact z
  |succ k ih=>
   intro s s1 hs hq
   rw [KdD,Kal]
   have c1:cut Y none (some ((s:Nat):Int))=Y.take s:=HX Y s
   have c2:((Y.length:Nat):Int) / ((s:Nat):Int)=((Y.length / s:Nat):Int):=rfl
   have c3:(((Y.length:Nat):Int) % ((s:Nat):Int)=0)↔Y.length % s=0:=by rw [<-KaI];omega
   have ec:((((Y.length:Nat):Int) % ((s:Nat):Int)=(0:Int))/\(Y=(mulL (cut Y none (some ((s:Nat):Int))) (((Y.length:Nat):Int) / ((s:Nat):Int)))))↔AA Y s=true:=by
    unfold AA
    rw [decide_eq_true_iff,c1,c2,c3]
   have dd:Q5 Y () ((s:Nat):Int):=⟨by omega,λz=>⟨⟨by omega,by omega⟩,by
    rw [c1,c2]
    have h1:Y.length / s<=Y.length:=KbY _ _
    have h2:s*(Y.length / s)<=Y.length:=Nat.mul_div_le _ _
    rw [KaX,KbM (by omega)]
    rw [KaK]
    generalize Y.length / s=q at *
    exact⟨by omega,by omega,by omega⟩⟩⟩
   by_cases z:AA Y s=true
   ·have eb:Gq Y () ((s:Nat):Int)=.inl (Y.take s):=by
     unfold Gq
     rw [if_pos (ec.mpr z),c1]
    obtain⟨z1,z2⟩:=(gxm s1 (by omega)).mp z
    refine⟨?_,s,s1,KbV z1,?_,z2,λq q0 qd hq2=>?_⟩
    ·unfold ja
     rw [eb]
     exact⟨dd,trivial⟩
    ·unfold forR
     rw [eb]
     exact FH (by omega)
    ·rcases KaA q s with y|y
     ·exfalso
      have:=hq q q0 y
      rw [(gxm q0 (by omega)).mpr ⟨Kch qd,hq2⟩] at this
      cases this
     ·exact y
   ·have eb:Gq Y () ((s:Nat):Int)=.inr ():=by
     unfold Gq
     rw [if_neg (λy=>z (ec.mp y))]
    obtain⟨i1,i2⟩:=ih (s+1) (by omega) (by omega) λq q0 hq2=>by
     rcases KaA q s with y|y
     ·exact hq q q0 y
     ·rw [show q=s by omega];exact Bool.eq_false_iff.mpr z
    refine⟨?_,?_⟩
    ·unfold ja
     rw [eb]
     exact⟨dd,i1⟩
    ·unfold forR
     rw [eb]
     exact i2
 have er:rng (1:Int) (Y.length:Int)=(KcV 1 (Y.length-1)).map λi=>((i:Nat):Int):=by
  unfold rng
  rw [show ((Y.length:Int)-1).toNat=Y.length-1 by omega]
  rw [List.range'_eq_map_range,KaL]
  exact Kas λi _=>by show (1:Int)+(i:Int)=((1+i:Nat):Int);omega
 obtain⟨k1,k2⟩:=key (Y.length-1) 1 (by omega) (by omega) λq q0 hq=>by omega
 unfold Ag OQ
 rw [er]
 exact⟨⟨⟨by omega,by omega⟩,k1⟩,k2⟩
theorem IJ {α:Type}[Inhabited α]{xs ys us vs:List α}{p q:Nat}(a:Vi xs us p)(b:Vi ys vs q):us=vs↔∀d,kG xs d=kG ys d:=by
 constructor
 ·intro e d
  have hp:p=q:=by
   have:=congrArg KbO (a.e.symm.trans (e.trans b.e))
   simpa using this
  subst hp
  rw [<-Xh a.per d,<-Xh b.per d]
  have e2:=a.e.symm.trans (e.trans b.e)
  have hd:=KaS d a.p0
  have e3:((Kac p).map (kG xs))[d % p]? = ((Kac p).map (kG ys))[d % p]?:=by rw [e2]
  rw [KaO,KaO,Kbq hd] at e3
  exact Option.some.inj e3
 ·intro h
  have hf:kG xs=kG ys:=funext h
  have pa:∀d,kG xs (d+Kby p q)=kG xs d:=Je p q a.per (by rw [hf];exact b.per)
  have g0:0<Kby p q:=KbQ _ a.p0
  have h1:=a.mn _ g0 (KaQ (Kcp p q) a.pl) pa
  have h2:=b.mn _ g0 (KaQ (Kb2 p q) b.pl) (by rw [<-hf];exact pa)
  have h3:=KaH a.p0 (Kcp p q)
  have h4:=KaH b.p0 (Kb2 p q)
  have:p=q:=by omega
  subst this
  rw [a.e,b.e,hf]
theorem lQ {Li ln2:Nat->Nat}{m1 m2:Nat}(a:Mon Li m1)(b:Mon ln2 m2)(h:∀d,jR Li d=jR ln2 d):∀k,SN Li k=SN ln2 k:=by
 have ho:∀d,ai Li d=ai ln2 d:=λd=>by
  have h1:=a.wI d
  have h2:=b.wI d
  rw [show jR Li=jR ln2 from funext h,h2] at h1
  omega
 have le:∀{l1 l2:Nat->Nat} {n1 n2:Nat},Mon l1 n1->Mon l2 n2->(∀d,ai l1 d=ai l2 d)->∀k,SN l2 k<=SN l1 k:=λ{l1 l2 n1 n2} a b ho k=>by
  have h1:=a.lQ k
  rw [ho] at h1
  have:=(b.own (SN l1 k)).1
  rw [h1] at this
  exact this
 intro k
 exact Kcx (le b a (λd=>(ho d).symm) k) (le a b ho k)
theorem gzc {Li ln2:Nat->Nat}(h:∀k,SN Li k=SN ln2 k)(k:Nat):Li k=ln2 k:=by
 have h1:=h (k+1)
 rw [gY,gY,h k] at h1
 omega
variable {Y Z:List (List Int)}
theorem LB (h:YO Y)(d:Nat):t8 Y d=jR (B0 (aA Y) (aJ Y)) d:=by
 unfold t8 jR
 exact decide_eq_decide.mpr (Uv h.jS d).symm
/-- two Od lists tell bh same years for good cq2 if U3 Yb and Od first days are alike -/
theorem vE (h:YO Y)(g:YO Z):(∀y,cO Y y=cO Z y)↔(∀d,jR (aA Y) d=jR (aA Z) d)/\∀d,t8 Y d=t8 Z d:=by
 constructor
 ·intro e
  have en:aJ Y=aJ Z:=funext λy=>by unfold aJ;rw [e]
  have el:aA Y=aA Z:=funext λk=>by
   have o1:=h.jS.mn.own k
   have hj:k-SN (aJ Y) (ai (aJ Y) k)<aJ Y (ai (aJ Y) k):=by
    have:=o1.2
    rw [gY] at this
    omega
   have r1:=h.kj (ai (aJ Y) k)
   have r2:=g.kj (ai (aJ Y) k)
   rw [<-e,<-en] at r2
   have r3:=congrArg (λl=>l[k-SN (aJ Y) (ai (aJ Y) k)]?) (r1.symm.trans r2)
   simp only [KaO,Kbq hj] at r3
   have r4:=Option.some.inj r3
   dsimp only at r4
   rw [show SN (aJ Y) (ai (aJ Y) k)+(k-SN (aJ Y) (ai (aJ Y) k))=k by have:=o1.1;omega] at r4
   omega
  exact⟨λd=>by rw [el],λd=>by unfold t8;rw [el,en]⟩
 ·rintro⟨h1,h2⟩ y
  have eS:=lQ h.mon g.mon h1
  have el:aA Y=aA Z:=funext (gzc eS)
  have e2:=lQ (gzv h.jS) (gzv g.jS) λd=>by rw [<-LB h,<-LB g];exact h2 d
  have e3:∀y,SN (aJ Y) y=SN (aJ Z) y:=λy=>by
   have z:=e2 y
   rw [qW h.jS,qW g.jS] at z
   unfold SY at z
   rw [el] at z
   rcases Kb4 (SN (aJ Y) y) (SN (aJ Z) y) with q|q|q
   ·have:=qV g q;omega
   ·exact q
   ·have:=qV g q;omega
  have en:aJ Y=aJ Z:=funext (gzc e3)
  rw [h.kj,g.kj,en,el]
theorem XA (h:YO Y)(g:YO Z){c e:bI}(k:CO Y c)(l:CO Z e):v9 c e/\(qk c e=true↔(∀d,jR (aA Y) d=jR (aA Z) d)/\∀d,t8 Y d=t8 Z d):=by
 obtain⟨a1,p,a2⟩:=gT h.ne (by have:=h.few;omega)
 obtain⟨b1,q,b2⟩:=gT g.ne (by have:=g.few;omega)
 unfold v9 qk
 rw [k.own,l.own]
 refine⟨⟨a1,b1⟩,?_⟩
 rw [decide_eq_true_iff,<-vE h g]
 have e2:=IJ a2 b2
 exact⟨λz=>e2.mp z.2,λz=>⟨rfl,e2.mpr z⟩⟩
end Pu
namespace Pu
open PySem L2 Enc La
section
variable {Y Z:List (List Int)}
theorem fjp (h:YO Y){c:bI}(k:CO Y c):By c/\cF 0 (TY Y) (t8 Y) (JX c):=by
 have h2:=h.mT
 have h3:=h.d_
 obtain⟨a,b⟩:=Xe h k (P:=λq=>decide (bW (aJ Y) q=0)) (j:=λ_=>0) (λq _ _=>by have:=h.mon.pos q;omega) (λa b hab=>by have:=qV h hab;omega) (λq=>by rw [h.jS.tM]) (λ_=>rfl)
 have e:(Kaj (λ(x1:Int×(Int×Int))=>x1.1) (Kbx (λ(x1:Int×(Int×Int))=>decide (x1.2.2=(0:Int))) (KbF c.firsts c.spots)))=(((Kac (mY Y)).filter λq=>decide (bW (aJ Y) q=0)).map λq=>((SN (aA Y) q+0:Nat):Int)):=by
  rw [k.fst,k.G2,Kcs,KcA,KaL]
  have:((λ(x1:Int×(Int×Int))=>decide (x1.2.2=(0:Int))) ∘ λa=>(((SN (aA Y) a:Nat):Int),xG (aJ Y) a))=λq=>decide (bW (aJ Y) q=0):=funext λq=>by
   show decide (((bW (aJ Y) q:Nat):Int)=0)=_
   refine decide_eq_decide.mpr ⟨λz=>by omega,λz=>by omega⟩
  rw [this]
  rfl
 unfold By JX
 rw [e]
 refine⟨⟨?_,a⟩,b.congr λd=>?_⟩
 ·rw [k.fst,k.G2,Kcs,Kaf,KaB];omega
 ·unfold t8
  rw [Bool.decide_and]
end
theorem GF {n:Nat}{s:ae}(h:Sk n s)(hn:n<1000000000){m:Int}(m0:0<m)(m1:m<10 ^ 50):l8 s m/\0<=(cG s m).1/\(cG s m).1<m/\Sk (n+1) (cG s m).2:=by
 have a0:=h.a0
 have b0:=h.b0
 have b1:=h.b1
 have c0:=h.c0
 have c1:=h.c1
 have pA:(10:Int) ^ (Kbh (27:Int))=10 ^ 27:=rfl
 have pB:(10:Int) ^ (Kbh (25:Int))=10 ^ 25:=rfl
 constructor
 ·unfold l8
  refine⟨λ_=>⟨m0,?_⟩,λ_=>?_⟩
  ·rw [c_]
   exact⟨m0,by omega⟩
  ·rw [c_]
   dsimp only
   have q1:iE (s.2.1+(1442695041:Int)*(s.2.2+1)) 3=true:=vo (by omega) (by omega) (by omega) (by omega)
   refine⟨q1,by rw [pA];omega,?_⟩
   rw [c_,pA]
   generalize (s.2.1+(1442695041:Int)*(s.2.2+1)) ^ (Kbh (3:Int))=v
   have e0:=Kb1 v (show ((10:Int) ^ 27+103)≠0 by omega)
   have e1:=KbK v (show (0:Int)<(10:Int) ^ 27+103 by omega)
   refine⟨vo (by omega) (by omega) (by omega) (by omega),by rw [pB];omega,?_⟩
   rw [c_]
   exact m0
 ·unfold cG
  by_cases hc:(0:Int)<s.1
  ·rw [if_pos hc]
   simp only [lt_eq]
   exact⟨Kb1 _ (by omega),KbK _ m0,⟨Int.ediv_nonneg (by omega) (by omega),b0,b1,c0,by show s.2.2<=_;omega⟩⟩
  ·rw [if_neg hc]
   simp only [lt_eq]
   exact⟨Kb1 _ (by omega),KbK _ m0,⟨a0,b0,b1,by show 0<=s.2.2+1;omega,by show s.2.2+1<=_;omega⟩⟩
theorem oB {α:Type}{f:Int->ae->α×ae}{d:Int->ae->Prop}{P:α->Prop}{N c:Nat}(hf:∀x s n,Sk n s->n<N->d x s/\P (f x s).1/\Sk (n+c) (f x s).2):∀(xs:List Int) (s:ae) (n:Nat),Sk n s->n+(c+1)*xs.length<=N ->
  KU (λ_ s=>(true,s)) f (λ_ _=>True) d xs s/\(cj (λ_ s=>(true,s)) f xs s).1.length=xs.length/\(∀v∈(cj (λ_ s=>(true,s)) f xs s).1,P v)/\Sk (n+c*xs.length) (cj (λ_ s=>(true,s)) f xs s).2
 |[],s,n,h,_=>⟨trivial,rfl,λv hv=>(nomatch hv),h⟩
 |x::xs,s,n,h,hn=>by
  rw [Kah,Kc4] at hn
  obtain⟨h1,h2,h3⟩:=hf x s n h (by omega)
  have hn2:(c+1)*xs.length=c*xs.length+xs.length:=by rw [Ka0]
  obtain⟨i1,i2,i3,i4⟩:=oB hf xs (f x s).2 (n+c) h3 (by omega)
  have e:n+c*(x::xs).length=n+c+c*xs.length:=by rw [Kah,Kc4];omega
  rw [e]
  unfold cj KU
  rw [if_pos rfl,if_pos rfl]
  refine⟨⟨trivial,h1,i1⟩,by simp only [Kah,i2],λv hv=>?_,i4⟩
  rcases Kai.mp hv with rfl|hv
  ·exact h2
  ·exact i3 v hv
def qH:List (T3 Int Int Int):=[(T3.mk (3:Int) (3:Int) (5:Int)),(T3.mk (8:Int) (6:Int) (2:Int)),(T3.mk (2:Int) (5:Int) (12:Int)),(T3.mk (2:Int) (2:Int) (3:Int)),(T3.mk (4:Int) (4:Int) (7:Int))]
def u9:List Int:=[(1:Int),(2:Int),(3:Int),(3:Int),(0:Int),(0:Int),(0:Int),(0:Int),(4:Int)]
theorem zb:∀l∈qH,(1<=l.x/\l.x<=8)/\(1<=l.y/\l.y<=12)/\(1<=l.z/\l.z<=12)/\l.z*l.y*l.x<=120:=by
 intro l hl
 simp only [qH,Kai,Kbw,or_false] at hl
 rcases hl with rfl|rfl|rfl|rfl|rfl <;> decide
theorem Ew:∀l∈u9,0<=l/\l<5:=by decide
/-- a row of drawn months -/
structure Qp (l:T3 Int Int Int)(r:List Int):Prop where
 ne:r≠[]
 pos:∀x∈r,1<=x
 sum:r.sum<=l.z*l.y
theorem xh {z:Int}(z0:1<=z)(z1:z<=12)(x:Int)(s:ae)(n:Nat)(h:Sk n s)(hn:n<999999):l8 s z/\(1<=(eY (cG s z) λa4 s5=>(((1:Int)+a4),s5)).1/\(eY (cG s z) λa4 s5=>(((1:Int)+a4),s5)).1<=z)/\Sk (n+1) (eY (cG s z) λa4 s5=>(((1:Int)+a4),s5)).2:=by
 obtain⟨a1,a2,a3,a4⟩:=GF h (by omega) (m:=z) (by omega) (by omega)
 rw [q7]
 exact⟨a1,⟨by show 1<=1+_;omega,by show 1+_<=z;omega⟩,a4⟩
theorem Br {l:T3 Int Int Int}(hl:l∈qH){st:List (List Int)}{s:ae}{n:Nat}(h:Sk n s)(hn:n<10000)(hs:st.length<1000)(x:Int):
  Rh l (st,s) x/\(∃r,(BH l (st,s) x).1=st++[r]/\Qp l r)/\Sk (n+20) (BH l (st,s) x).2:=by
 obtain⟨_,l2,l3,_⟩:=zb l hl
 unfold Rh BH
 rw [uv (st,s),q7 (st,s)]
 dsimp only
 obtain⟨a1,a2,a3,a4⟩:=GF h (by omega) (m:=l.y) (by omega) (by omega)
 rw [uv (cG s l.y),q7 (cG s l.y)]
 generalize cG s l.y=q1 at *
 have lr:=HH 0 ((1:Int)+q1.1)
 obtain⟨c1,c2,c3,c4⟩:=oB (c:=1) (N:=999999) (P:=λv=>1<=v/\v<=l.z) (f:=λ(x2:Int) (s4:ae)=>(eY (cG s4 l.z) λa4 s5=>(((1:Int)+a4),s5))) (d:=λ(x2:Int) (s4:ae)=>l8 s4 l.z) (λx s n h hn=>xh l3.1 l3.2 x s n h hn) (rng 0 ((1:Int)+q1.1)) q1.2 _ a4 (by omega)
 rw [uv (cj _ _ _ q1.2),q7 (cj _ _ _ q1.2)]
 generalize cj (λ(x2:Int) (s4:ae)=>(true,s4)) (λ(x2:Int) (s4:ae)=>(eY (cG s4 l.z) λa4 s5=>(((1:Int)+a4),s5))) (rng 0 ((1:Int)+q1.1)) q1.2=q2 at *
 refine⟨⟨a1,⟨by omega,by omega⟩,c1,by omega,by omega⟩,⟨q2.1,rfl,λz=>?_,λv hv=>(c3 v hv).1,?_⟩,c4.mono (by omega)⟩
 ·have:=KbS.mpr z
  omega
 ·have h1:=gzk (c:=l.z) λv hv=>(c3 v hv).2
  have h2:l.z*(q2.1.length:Int)<=l.z*l.y:=Kba (by omega) (by omega)
  omega
theorem sJ {l:T3 Int Int Int}(hl:l∈qH):∀(xs:List Int) (st:List (List Int)) (s:ae) (n:Nat),Sk n s->n+20*xs.length<10000->st.length+xs.length<1000 ->
  fg (BH l) (Rh l) xs (st,s)/\(∃R,(Ka2 (BH l) (st,s) xs).1=st++R/\R.length=xs.length/\∀r∈R,Qp l r)/\Sk (n+20*xs.length) (Ka2 (BH l) (st,s) xs).2
 |[],st,s,n,h,_,_=>⟨trivial,⟨[],by simp,rfl,λr hr=>(nomatch hr)⟩,h⟩
 |x::xs,st,s,n,h,hn,hs=>by
  rw [Kah] at hn hs
  obtain⟨t1,⟨r,t2,t3⟩,t4⟩:=Br hl h (by omega) (by omega:st.length<1000) x
  generalize hq:BH l (st,s) x=q at *
  obtain⟨st',s'⟩:=q
  dsimp only at t2 t4
  subst t2
  obtain⟨i1,⟨R,i2,i3,i4⟩,i5⟩:=sJ hl xs (st++[r]) s' (n+20) t4 (by omega) (by rw [Kam,Kcn];omega)
  unfold fg
  rw [Kcz,hq]
  refine⟨⟨t1,i1⟩,⟨r::R,by rw [i2,Kbd];rfl,by rw [Kah,i3,Kah],λy hy=>?_⟩,?_⟩
  ·rcases Kai.mp hy with z|z
   ·rw [z];exact t3
   ·exact i4 y z
  ·rw [Kah,show n+20*(xs.length+1)=n+20+20*xs.length by omega]
   exact i5
theorem fxz (Y:List (List Int)):lB Y=Y.flatten.sum:=by
 unfold lB
 rw [fqz]
theorem qf {s:ae}{n:Nat}(h:Sk n s)(hn:n<1000):Aq s/\(YO (An s).1/\(An s).1.flatten.sum<=120)/\Sk (n+170) (An s).2:=by
 unfold Aq An
 obtain⟨a1,a2,a3,a4⟩:=GF h (by omega) (m:=9) (by omega) (by omega)
 rw [uv (cG s 9),q7 (cG s 9)]
 generalize cG s (9:Int)=q1 at *
 rw [c_ q1.1,lt_eq q1.1]
 rw [show ([(T3.mk (3:Int) (3:Int) (5:Int)),(T3.mk (8:Int) (6:Int) (2:Int)),(T3.mk (2:Int) (5:Int) (12:Int)),(T3.mk (2:Int) (2:Int) (3:Int)),(T3.mk (4:Int) (4:Int) (7:Int))]:List (T3 Int Int Int))=qH from rfl,show ([(1:Int),(2:Int),(3:Int),(3:Int),(0:Int),(0:Int),(0:Int),(0:Int),(4:Int)]:List Int)=u9 from rfl]
 have lm:(u9.length:Int)=9:=rfl
 have ll:(qH.length:Int)=5:=rfl
 have m1:=Ew _ (DI (xs:=u9) a2 (by omega))
 rw [lm,ll]
 have hl:=Ij (xs:=qH) m1.1 (by omega)
 generalize au u9 q1.1=md at *
 rw [c_ (au qH md),lt_eq (au qH md)]
 generalize au qH md=l at *
 obtain⟨l1,l2,l3,l4⟩:=zb l hl
 rw [c_ ([]:List (List Int)),lt_eq ([]:List (List Int))]
 obtain⟨b1,b2,b3,b4⟩:=GF a4 (by omega) (m:=l.x) (by omega) (by omega)
 rw [uv (cG q1.2 l.x),q7 (cG q1.2 l.x)]
 generalize cG q1.2 l.x=q2 at *
 have lr:=HH 0 ((1:Int)+q2.1)
 obtain⟨c1,⟨R,c2,c3,c4⟩,c5⟩:=sJ hl (rng 0 ((1:Int)+q2.1)) [] q2.2 _ b4 (by omega) (by rw [KbE];omega)
 rw [uv (Ka2 _ _ _),q7 (Ka2 _ _ _)]
 generalize Ka2 (BH l) ([],q2.2) (rng 0 ((1:Int)+q2.1))=q3 at *
 rw [Kbr] at c2
 obtain⟨Y,s3⟩:=q3
 dsimp only at c2 c5 ⊢
 subst c2
 have yq:Y.flatten.sum<=120:=by
  ·have e1:=Dy (K:=l.z*l.y) λr hr=>(c4 r hr).sum
   have e2:(0:Int)<=l.z*l.y:=Int.mul_nonneg (by omega) (by omega)
   have e3:l.z*l.y*(Y.length:Int)<=l.z*l.y*l.x:=Kba (by omega) e2
   omega
 have yo:YO Y:=by
  refine⟨λz=>?_,λr hr=>⟨(c4 r hr).ne,(c4 r hr).pos⟩,by omega,by omega⟩
  rw [z,KbE] at c3;omega
 have c5:=c5.mono (show n+1+1+20*(rng 0 ((1:Int)+q2.1)).length<=n+162 by omega)
 have k3:(((2:Int)<q1.1)->(l8 s3 (3:Int)/\(fH (cG s3 (3:Int)) λa6 s8=>((a6=(0:Int))->(uq Y)))))/\((if (2:Int)<q1.1 then (eY (cG s3 (3:Int)) λa6 s8=>(decide ((a6=(0:Int))/\((lB Y)<(61:Int))),s8)) else (false,s3)).1=true->lB Y<61)/\Sk (n+163) (if (2:Int)<q1.1 then (eY (cG s3 (3:Int)) λa6 s8=>(decide ((a6=(0:Int))/\((lB Y)<(61:Int))),s8)) else (false,s3)).2:=by
  obtain⟨b1,_,_,b4⟩:=GF c5 (by omega) (m:=3) (by omega) (by omega)
  by_cases c:(2:Int)<q1.1
  ·rw [if_pos c,q7,uv]
   exact⟨λ_=>⟨b1,λ_=>by have:=yo.few;show Y.length<=100000;omega⟩,λq=>(of_decide_eq_true q).2,b4⟩
  ·rw [if_neg c]
   exact⟨λq=>absurd q c,λq=>(nomatch q),c5.mono (by omega)⟩
 rw [uv (if (2:Int)<q1.1 then _ else _),q7 (if (2:Int)<q1.1 then _ else _)]
 generalize (if (2:Int)<q1.1 then (eY (cG s3 (3:Int)) λa6 s8=>(decide ((a6=(0:Int))/\((lB Y)<(61:Int))),s8)) else (false,s3))=q4 at *
 obtain⟨k1,k2,k3⟩:=k3
 refine⟨⟨a1,⟨by omega,by omega⟩,⟨by omega,by omega⟩,b1,⟨by omega,by omega⟩,c1,k1,λ_=>⟨yo.cp,by have:=yo.few;omega⟩⟩,?_,k3.mono (by omega)⟩
 rw [lt_eq,lt_eq]
 by_cases c:q4.1=true
 ·rw [if_pos c]
  have h2:=k2 c
  rw [fxz] at h2
  have e9:(Y++Y).flatten.sum<=120:=by rw [KaR,KaE];omega
  refine⟨⟨λz=>yo.ne (Kbp.mp z).1,λr hr=>yo.rows r ((Kat.mp hr).elim id id),(by show (Y++Y).flatten.sum<=121;omega),?_⟩,e9⟩
  rw [Kam]
  omega
 ·rw [if_neg c]
  exact⟨yo,yq⟩
section
variable {Y Z:List (List Int)}
theorem uE (h:YO Y):uq Y/\lB Y=((TY Y:Nat):Int):=⟨by have:=h.few;show Y.length<=100000;omega,by rw [fxz,h.sum]⟩
def hdat (y:Int)(x1:Int×Int):List (T3 Int Int Int):=Kaj (λ(x2:Int)=>(T3.mk y x1.1 x2)) (rng 0 x1.2)
theorem yu (h:YO Y)(y:Nat):(aX 0 (cO Y y)).flatMap (hdat (y:Int))=(Kac (SY (aA Y) (aJ Y) (y+1)-SY (aA Y) (aJ Y) y)).map λi=>cg (aA Y) (aJ Y) (SY (aA Y) (aJ Y) y+i):=by
 rw [<-h.jS.Bq y,h.kj y,Km,KcY]
 refine fjs _ λj hj=>?_
 unfold hdat
 dsimp only
 rw [Xz,KaL]
 rfl
theorem oF (h:YO Y){n:Nat}(hn:n<=1000):Ar Y (n:Int)/\KC Y (n:Int)=(Kac n).map (cg (aA Y) (aJ Y)):=by
 have n0:=h.n0
 have h3:=h.d_
 obtain⟨w1,⟨y,w2,w3⟩,w4⟩:=KA (c:=J7 Y (n:Int)) (f:=Mn Y (n:Int)) (dc:=exe Y (n:Int)) (d:=Wk Y (n:Int))
  (λst=>∃y:Nat,st=((Kac (SY (aA Y) (aJ Y) y)).map (cg (aA Y) (aJ Y)),(y:Int))/\y<=n) (λst=>n-st.2.toNat) (by
   rintro st ⟨y,rfl,hy⟩
   refine⟨trivial,λc=>?_⟩
   unfold J7 at c
   dsimp only at c
   rw [Kaf,KaB] at c
   have c:SY (aA Y) (aJ Y) y<n:=by omega
   have g:=h.jS.YF y
   have g2:=h.YG y
   have g3:=YO.LJ (Y:=Y) y
   have er:cO Y y=au Y ((y:Int) % (Y.length:Int)):=(gzg h y).symm
   have hf:∀(st:List (T3 Int Int Int)) (x:Int×Int),Ro ((Kac (SY (aA Y) (aJ Y) y)).map (cg (aA Y) (aJ Y)),(y:Int)) st x=st++hdat (y:Int) x:=λst x=>rfl
   refine⟨⟨by omega,?_,?_⟩,⟨y+1,?_,by omega⟩,?_⟩
   ·have e6:=Kb1 (y:Int) (show (Y.length:Int)≠0 by omega)
    have e7:=KbK (y:Int) (show 0<(Y.length:Int) by omega)
    exact⟨by dsimp only;omega,by dsimp only;omega⟩
   ·dsimp only
    rw [<-er]
    refine fjd (hdat (y:Int)) _ _ 10000 hf _ _ (λst x hx hb=>?_) ?_
    ·unfold V8
     unfold hdat at hb
     rw [Kaf] at hb ⊢
     have lr:=HH 0 x.2
     obtain⟨i,_,hi⟩:=fxp (cO Y y) 0 x hx
     have hm:=Kaq hi
     rw [h.kj y] at hm
     obtain⟨j,_,hj⟩:=KaM.mp hm
     exact⟨⟨by omega,by omega⟩,by omega,by omega⟩
    ·rw [yu h y,Kaf,KaB,Kaf,KaB];omega
   ·unfold Mn
    rw [lt_eq,lt_eq]
    dsimp only
    rw [<-er,fxs (hdat (y:Int)) _ hf,yu h y]
    refine Prod.ext ?_ (by show (y:Int)+1=((y+1:Nat):Int);omega)
    show _=(Kac (SY (aA Y) (aJ Y) (y+1))).map (cg (aA Y) (aJ Y))
    rw [show SY (aA Y) (aJ Y) (y+1)=SY (aA Y) (aJ Y) y+(SY (aA Y) (aJ Y) (y+1)-SY (aA Y) (aJ Y) y) by omega,Kcj,Kav,KaL]
    have:SY (aA Y) (aJ Y) y+(SY (aA Y) (aJ Y) (y+1)-SY (aA Y) (aJ Y) y)-SY (aA Y) (aJ Y) y=SY (aA Y) (aJ Y) (y+1)-SY (aA Y) (aJ Y) y:=by omega
    rw [this]
    rfl
   ·unfold Mn
    rw [lt_eq,lt_eq]
    show n-((y:Int)+1).toNat<n-(y:Int).toNat
    omega) fuel (([]:List (T3 Int Int Int)),(0:Int)) ⟨0,rfl,by omega⟩ (by show n-(0:Int).toNat<fuel;unfold fuel;omega)
 unfold Ar KC
 rw [c_,lt_eq,lt_eq]
 refine⟨w1,?_⟩
 rw [w2] at w4 ⊢
 unfold J7 at w4
 dsimp only at w4 ⊢
 rw [Kaf,KaB] at w4
 rw [HX,<-KcO,List.take_range,KbM (by omega)]
end
theorem gzo:∀(Y:List (List Int)) (k:Nat) (r:List Int),k<Y.length->(Y.set k r).flatten.sum+(Y.getD k []).sum=Y.flatten.sum+r.sum
 |[],k,r,h=>by simp at h
 |y::Y,0,r,h=>by
  show (r++Y.flatten).sum+y.sum=(y++Y.flatten).sum+r.sum
  rw [KaE,KaE];omega
 |y::Y,k+1,r,h=>by
  have ih:=gzo Y k r (by simpa using h)
  show (y++(Y.set k r).flatten).sum+(Y.getD k []).sum=(y++Y.flatten).sum+r.sum
  rw [KaE,KaE];omega
theorem Xf {α:Type}(xs:List α)(k:Nat)(x:α):di xs (k:Int) x=xs.set k x:=by
 unfold di
 rw [if_pos (by omega),KaK]
theorem YO.put {Y:List (List Int)}(h:YO Y){k:Nat}(hk:k<Y.length){r:List Int}(hr:r≠[]/\∀x∈r,(1:Int)<=x)(hs:Y.flatten.sum+r.sum<=121+(Y.getD k []).sum):YO (Y.set k r):=by
 have e:=gzo Y k r hk
 refine⟨λz=>?_,λx hx=>?_,by omega,by rw [Kbs];exact h.few⟩
 ·have:=congrArg KbO z
  rw [Kbs] at this
  exact h.ne (KbS.mp this)
 ·rcases Kb5 hx with z|z
  ·exact h.rows x z
  ·rw [z];exact hr
theorem YO.UH {Y:List (List Int)}(h:YO Y){k:Nat}(hk:k<Y.length):au Y (k:Int)=Y.getD k []/\(Y.getD k []≠[]/\∀x∈Y.getD k [],(1:Int)<=x)/\Y.getD k []∈Y:=by
 have e:Y.getD k []=Y[k]:=by rw [KaD,Kao hk];rfl
 refine⟨?_,?_,?_⟩
 ·rw [WH,Kao hk,e];rfl
 ·rw [e];exact h.rows _ (Kbb hk)
 ·rw [e];exact Kbb hk
theorem YO.P9 {Y:List (List Int)}(h:YO Y)(k:Nat):YO (Y.drop k++Y.take k):=by
 have e0:=Kbf k Y
 refine⟨λz=>?_,λx hx=>h.rows x ?_,?_,?_⟩
 ·obtain⟨z1,z2⟩:=Kbp.mp z
  rw [z1,z2] at e0
  exact h.ne e0.symm
 ·rcases Kat.mp hx with z|z
  ·exact Kcq z
  ·exact Kcr z
 ·have e1:Y.flatten.sum=(Y.take k).flatten.sum+(Y.drop k).flatten.sum:=by rw [<-KaE,<-KaR,e0]
  have:=h.tot
  rw [KaR,KaE];omega
 ·have e2:=congrArg KbO e0
  rw [Kam] at e2
  have:=h.few
  rw [Kam];omega
theorem NU (r:List Int){p:Nat}(hp:p<r.length):r=r.take p++r.getD p 0::r.drop (p+1):=by
 have e:r.getD p 0=r[p]:=by rw [KaD,Kao hp];rfl
 rw [e,List.getElem_cons_drop,Kbf]
theorem xw {s:ae}{n:Nat}{Y:List (List Int)}(hY:YO Y)(hs:Y.flatten.sum<=120)(h:Sk n s)(hn:n<900):BE s Y/\YO (Co s Y).1/\Sk (n+180) (Co s Y).2:=by
 unfold BE Co
 obtain⟨a1,a2,a3,a4⟩:=GF h (by omega) (m:=8) (by omega) (by omega)
 rw [uv (cG s 8),q7 (cG s 8)]
 generalize cG s (8:Int)=q1 at *
 obtain⟨mode,s1⟩:=q1
 dsimp only at a2 a3 a4 ⊢
 rw [c_ Y,lt_eq Y,c_ mode,lt_eq mode]
 have n0:=Kar.mpr hY.ne
 have hf:=hY.few
 obtain⟨b1,b2,b3,b4⟩:=GF a4 (by omega) (m:=(Y.length:Int)) (by omega) (by omega)
 rw [uv (cG s1 (Y.length:Int)),q7 (cG s1 (Y.length:Int))]
 generalize cG s1 (Y.length:Int)=q2 at *
 obtain⟨sp,s2⟩:=q2
 dsimp only at b2 b3 b4 ⊢
 obtain⟨k,rfl⟩:=KbT b2
 have hk:k<Y.length:=by omega
 obtain⟨g1,g2,g3⟩:=hY.UH hk
 rw [c_ ((k:Int)),lt_eq ((k:Int)),g1,c_ (Y.getD k []),lt_eq (Y.getD k [])]
 generalize oW:Y.getD k []=row at *
 have r0:=Kar.mpr g2.1
 have rl:row.length<=121:=by
  have h1:=hY.row g3
  have h2:=hY.lens.1
  have h3:=hY.tot
  omega
 obtain⟨c1,c2,c3,c4⟩:=GF b4 (by omega) (m:=(row.length:Int)) (by omega) (by omega)
 rw [uv (cG s2 (row.length:Int)),q7 (cG s2 (row.length:Int))]
 generalize cG s2 (row.length:Int)=q3 at *
 obtain⟨pl,s3⟩:=q3
 dsimp only at c2 c3 c4 ⊢
 obtain⟨p,rfl⟩:=KbT c2
 have hp:p<row.length:=by omega
 have er:=NU row hp
 have ex:au row (p:Int)=row.getD p 0:=by
  rw [WH,KaD];rfl
 rw [ex]
 have x1:1<=row.getD p 0:=g2.2 _ (by rw [KaD,Kao hp];exact Kbb hp)
 generalize hx:row.getD p 0=x at *
 have ecy:∀Z,lB Z=Z.flatten.sum:=fxz
 -- bh row changed
 have bqP:YO (Y.set k (row.set p (1+x % 3)))/\(row.set p (1+x % 3)≠[]/\∀y∈row.set p (1+x % 3),(1:Int)<=y):=by
  have e3:=Kb1 x (show (3:Int)≠0 by omega)
  have e4:=KbK x (show (0:Int)<3 by omega)
  have e5:x % 3<=x:=by omega
  have es:(row.set p (1+x % 3)).sum<=row.sum+1:=by
   have e6:row.set p (1+x % 3)=row.take p++(1+x % 3)::row.drop (p+1):=by
    rw [List.set_eq_take_append_cons_drop,if_pos hp]
   have e7:=congrArg KbW er
   rw [KaE,Ka8] at e7
   rw [e6,KaE,Ka8,e7];omega
  have hh:row.set p (1+x % 3)≠[]/\∀y∈row.set p (1+x % 3),(1:Int)<=y:=by
   refine⟨λz=>?_,λy hy=>?_⟩
   ·have:=congrArg KbO z
    rw [Kbs] at this
    exact g2.1 (KbS.mp this)
   ·rcases Kb5 hy with z|z
    ·exact g2.2 y z
    ·omega
  exact⟨hY.put hk hh (by rw [oW];omega),hh⟩
 rw [Xf,Xf]
 have hf2:YO (if mode=2 then Y.set k (row.set p (1+x % 3)) else Y)/\(if mode=2 then Y.set k (row.set p (1+x % 3)) else Y).length=Y.length:=by
  by_cases c:mode=2
  ·rw [if_pos c];exact⟨bqP.1,Kbs ..⟩
  ·rw [if_neg c];exact⟨hY,rfl⟩
 have hr2:(if mode=2 then row.set p (1+x % 3) else row).length=row.length:=by
  by_cases c:mode=2
  ·rw [if_pos c,Kbs]
  ·rw [if_neg c]
 have hr3:mode≠2->(if mode=2 then row.set p (1+x % 3) else row)=row:=λc=>if_neg c
 have hf3:mode≠2->(if mode=2 then Y.set k (row.set p (1+x % 3)) else Y)=Y:=λc=>if_neg c
 rw [c_ (if mode=2 then Y.set k (row.set p (1+x % 3)) else Y),lt_eq (if mode=2 then Y.set k (row.set p (1+x % 3)) else Y)]
 rw [c_ (if mode=2 then row.set p (1+x % 3) else row),lt_eq (if mode=2 then row.set p (1+x % 3) else row)]
 generalize (if mode=2 then Y.set k (row.set p (1+x % 3)) else Y)=F2 at *
 generalize (if mode=2 then row.set p (1+x % 3) else row)=R2 at *
 obtain⟨yF,lF⟩:=hf2
 have MQ:∀(q:Nat),cut F2 (some (q:Int)) none=F2.drop q/\cut F2 none (some (q:Int))=F2.take q/\cut R2 (some (q:Int)) none=R2.drop q/\cut R2 none (some (q:Int))=R2.take q:=λq=>⟨O0 _ _,HX _ _,O0 _ _,HX _ _⟩
 have cqZ:=yF.few
 have dc:∀{Z:List (List Int)},YO Z->uq Z:=λz=>by have:=z.few;show KbO _<=100000;omega
 by_cases C1:mode<2/\lB Y<41/\(Y.length:Int)<3
 ·rw [if_pos C1]
  obtain⟨u1,u2,u3,u4⟩:=GF c4 (by omega) (m:=2) (by omega) (by omega)
  rw [uv (cG s3 2),q7 (cG s3 2)]
  generalize cG s3 (2:Int)=q5 at *
  obtain⟨a5,s5⟩:=q5
  dsimp only at u2 u3 u4 ⊢
  have hc:=C1.2.1
  rw [ecy] at hc
  have ha:a5=0∨a5=1:=by omega
  have hm:YO (mulL Y (2+a5)):=by
   rcases ha with rfl|rfl
   ·have e:mulL Y (2+0)=Y++Y:=by show Y++(Y++[])=_;rw [KaC]
    rw [e]
    exact⟨λz=>hY.ne (Kbp.mp z).1,λr hr=>hY.rows r ((Kat.mp hr).elim id id),by rw [KaR,KaE];omega,by rw [Kam];omega⟩
   ·have e:mulL Y (2+1)=Y++(Y++Y):=by show Y++(Y++(Y++[]))=_;rw [KaC]
    rw [e]
    exact⟨λz=>hY.ne (Kbp.mp z).1,λr hr=>hY.rows r ((Kat.mp hr).elim id λz=>(Kat.mp z).elim id id),by rw [KaR,KaR,KaE,KaE];omega,by rw [Kam,Kam];omega⟩
  refine⟨⟨a1,hY.cp,b1,⟨by omega,by omega⟩,c1,λ_=>dc hY,λ_=>⟨by omega,by omega⟩,λ_=>⟨by omega,by omega⟩,λ_=>⟨u1,?_,by omega,by omega⟩,λz=>absurd C1 z⟩,hm,u4.mono (by omega)⟩
  rcases ha with rfl|rfl
  ·show Y.length*2<=100000;omega
  ·show Y.length*3<=100000;omega
 ·rw [if_neg C1]
  obtain⟨h1,h2,h3,h4⟩:=MQ k
  -- mode 3
  have st3:YO (if mode=3 then lt (cut F2 (some (k:Int)) none++cut F2 none (some (k:Int))) λuI=>uI else F2)/\(if mode=3 then lt (cut F2 (some (k:Int)) none++cut F2 none (some (k:Int))) λuI=>uI else F2).length=Y.length/\(mode≠3->(if mode=3 then lt (cut F2 (some (k:Int)) none++cut F2 none (some (k:Int))) λuI=>uI else F2)=F2):=by
   by_cases c:mode=3
   ·rw [if_pos c,lt_eq,h1,h2]
    refine⟨yF.P9 k,?_,λz=>absurd c z⟩
    rw [Kam,KaW,KaX];omega
   ·rw [if_neg c];exact⟨yF,lF,λ_=>rfl⟩
  have k3:mode=3->(cut F2 (some (k:Int)) none).length+(cut F2 none (some (k:Int))).length<=100000:=λ_=>by
   rw [h1,h2,KaW,KaX];omega
  rw [c_ (if mode=3 then _ else F2),lt_eq (if mode=3 then _ else F2)]
  generalize (if mode=3 then lt (cut F2 (some (k:Int)) none++cut F2 none (some (k:Int))) λuI=>uI else F2)=P1 at *
  obtain⟨y1,l1,e1⟩:=st3
  obtain⟨_,_,h5,h6⟩:=MQ p
  -- mode 4
  have rr:R2=row->YO (Y.set k (R2.drop p++R2.take p)):=λe=>by
   subst e
   have e0:=Kbf p R2
   have e2:=congrArg KbW e0
   rw [KaE] at e2
   refine hY.put hk ⟨λz=>?_,λy hy=>?_⟩ (by rw [oW,KaE];omega)
   ·obtain⟨z1,z2⟩:=Kbp.mp z
    rw [z1,z2] at e0
    exact g2.1 e0.symm
   ·rcases Kat.mp hy with z|z
    ·exact g2.2 y (Kcq z)
    ·exact g2.2 y (Kcr z)
  have nY:YO (if mode=4 then lt (di P1 (k:Int) (cut R2 (some (p:Int)) none++cut R2 none (some (p:Int)))) λAE=>AE else P1)/\(if mode=4 then lt (di P1 (k:Int) (cut R2 (some (p:Int)) none++cut R2 none (some (p:Int)))) λAE=>AE else P1).length=Y.length/\(mode≠4->(if mode=4 then lt (di P1 (k:Int) (cut R2 (some (p:Int)) none++cut R2 none (some (p:Int)))) λAE=>AE else P1)=P1):=by
   by_cases c:mode=4
   ·rw [if_pos c,lt_eq,h5,h6,Xf,e1 (by omega),hf3 (by omega)]
    exact⟨rr (hr3 (by omega)),Kbs ..,λz=>absurd c z⟩
   ·rw [if_neg c];exact⟨y1,l1,λ_=>rfl⟩
  have k4:mode=4->(cut R2 (some (p:Int)) none).length+(cut R2 none (some (p:Int))).length<=100000/\-(P1.length:Int)<=(k:Int)/\(k:Int)<(P1.length:Int):=λ_=>by
   rw [h5,h6,KaW,KaX];omega
  rw [c_ (if mode=4 then _ else P1),lt_eq (if mode=4 then _ else P1)]
  generalize (if mode=4 then lt (di P1 (k:Int) (cut R2 (some (p:Int)) none++cut R2 none (some (p:Int)))) λAE=>AE else P1)=P2 at *
  obtain⟨y2,l2',e2⟩:=nY
  obtain⟨_,_,h7,h8⟩:=MQ (p+1)
  have ep:((p:Int)+1)=((p+1:Nat):Int):=by omega
  rw [ep]
  have ex2:mode≠2->au R2 (p:Int)=x:=λc=>by rw [hr3 c,ex]
  -- mode 5
  have r5:R2=row->1<x->YO (Y.set k ((R2.take p++[1,x-1])++R2.drop (p+1))):=λe hx1=>by
   subst e
   have e3:=congrArg KbW er
   rw [KaE,Ka8] at e3
   refine hY.put hk ⟨λz=>?_,λy hy=>?_⟩ (by
    rw [oW,KaE,KaE]
    simp only [Ka8,List.sum_nil]
    omega)
   ·have:=congrArg KbO z
    simp at this
   ·rcases Kat.mp hy with z|z
    ·rcases Kat.mp z with z|z
     ·exact g2.2 y (Kcr z)
     ·simp only [Kai,Kbw,or_false] at z
      rcases z with z|z <;> omega
    ·exact g2.2 y (Kcq z)
  have st5:YO (if mode=5/\(R2.length:Int)<6/\1<au R2 (p:Int) then lt (di P2 (k:Int) (cut R2 none (some (p:Int))++[(1:Int),au R2 (p:Int)-1]++cut R2 (some ((p+1:Nat):Int)) none)) λDt=>Dt else P2)/\(if mode=5/\(R2.length:Int)<6/\1<au R2 (p:Int) then lt (di P2 (k:Int) (cut R2 none (some (p:Int))++[(1:Int),au R2 (p:Int)-1]++cut R2 (some ((p+1:Nat):Int)) none)) λDt=>Dt else P2).length=Y.length:=by
   by_cases c:mode=5/\(R2.length:Int)<6/\1<au R2 (p:Int)
   ·have cx:=c.2.2
    rw [ex2 (by omega)] at cx
    rw [if_pos c,lt_eq,h6,h7,Xf,e2 (by omega),e1 (by omega),hf3 (by omega),ex2 (by omega)]
    exact⟨r5 (hr3 (by omega)) cx,Kbs ..⟩
   ·rw [if_neg c];exact⟨y2,l2'⟩
  have k5:(mode=5/\(R2.length:Int)<6/\1<au R2 (p:Int))->(-(R2.length:Int)<=(p:Int)/\(p:Int)<(R2.length:Int))/\(cut R2 none (some (p:Int))).length+[(1:Int),au R2 (p:Int)-1].length<=100000/\(cut R2 none (some (p:Int))++[(1:Int),au R2 (p:Int)-1]).length+(cut R2 (some ((p+1:Nat):Int)) none).length<=100000/\(-(P2.length:Int)<=(k:Int)/\(k:Int)<(P2.length:Int)):=λ_=>by
   rw [h6,h7,Kam,KaW,KaX]
   simp only [Kah,KbE]
   omega
  rw [c_ (if mode=5/\_ then _ else P2),lt_eq (if mode=5/\_ then _ else P2)]
  generalize (if mode=5/\(R2.length:Int)<6/\1<au R2 (p:Int) then lt (di P2 (k:Int) (cut R2 none (some (p:Int))++[(1:Int),au R2 (p:Int)-1]++cut R2 (some ((p+1:Nat):Int)) none)) λDt=>Dt else P2)=P3 at *
  obtain⟨y3,l3⟩:=st5
  -- mode 6
  obtain⟨w1,w2,w3⟩:=y3.UH (show k<P3.length by omega)
  have Ym:YO (if mode=6/\(P3.length:Int)<8/\lB P3<61 then lt (P3++[au P3 (k:Int)]) λfh=>fh else P3):=by
   by_cases c:mode=6/\(P3.length:Int)<8/\lB P3<61
   ·have hc:=c.2.2
    rw [ecy] at hc
    rw [if_pos c,lt_eq,w1]
    have hs2:(P3.getD k []).sum<=P3.flatten.sum:=by
     have e:=gzo P3 k [] (show k<P3.length by omega)
     have e4:(0:Int)<=(P3.set k []).flatten.sum:=by
      have:=Xs (xs:=(P3.set k []).flatten) λv hv=>by
       obtain⟨r,hr,hv⟩:=Kaw.mp hv
       rcases Kb5 hr with z|z
       ·exact (y3.rows r z).2 v hv
       ·rw [z] at hv;cases hv
      omega
     rw [List.sum_nil] at e
     omega
    refine⟨λz=>y3.ne (Kbp.mp z).1,λr hr=>?_,?_,?_⟩
    ·rcases Kat.mp hr with z|z
     ·exact y3.rows r z
     ·rw [KcE.mp z];exact w2
    ·rw [KaR,KaE]
     simp only [Kap,List.flatten_nil,KaC]
     omega
    ·rw [Kam,Kcn];omega
   ·rw [if_neg c];exact y3
  have cq0:=y3.few
  rw [c_ (if mode=6/\_ then _ else P3),lt_eq (if mode=6/\_ then _ else P3)]
  generalize (if mode=6/\(P3.length:Int)<8/\lB P3<61 then lt (P3++[au P3 (k:Int)]) λfh=>fh else P3)=P4 at *
  obtain⟨v1,v2,v3⟩:=qf c4 (by omega)
  refine⟨⟨a1,hY.cp,b1,⟨by omega,by omega⟩,c1,λ_=>dc hY,λ_=>⟨by omega,by omega⟩,λ_=>⟨by omega,by omega⟩,λz=>absurd z C1,λ_=>⟨k3,k4,λ_=>λ_=>⟨by omega,by omega⟩,k5,λ_=>λ_=>dc y3,λ_=>⟨⟨by omega,by omega⟩,by omega⟩,λ_=>v1⟩⟩,?_⟩
  rw [q7]
  by_cases c:mode=7
  ·rw [if_pos c,q7]
   exact⟨v2.1,v3.mono (by omega)⟩
  ·rw [if_neg c]
   exact⟨Ym,c4.mono (by omega)⟩
section
variable {Y Z:List (List Int)}
theorem EW (h:YO Y)(g:YO Z)(h1:∀d,jR (aA Y) d=jR (aA Z) d)(h2:∀d,t8 Y d=t8 Z d):aA Y=aA Z/\aJ Y=aJ Z:=by
 have e:=(vE h g).mpr ⟨h1,h2⟩
 exact⟨funext (gzc (lQ h.mon g.mon h1)),funext λy=>by unfold aJ;rw [e]⟩
theorem XH (Y:List (List Int))(d:Nat):jR (aA Y) d=decide ((cg (aA Y) (aJ Y) d).z=0)/\t8 Y d=decide ((cg (aA Y) (aJ Y) d).y=0/\(cg (aA Y) (aJ Y) d).z=0):=by
 refine⟨?_,?_⟩
 ·unfold jR cg bW
  exact decide_eq_decide.mpr ⟨λz=>by dsimp only;omega,λz=>by dsimp only at z;omega⟩
 ·unfold t8 cg
  refine decide_eq_decide.mpr ⟨λz=>?_,λz=>?_⟩
  ·dsimp only
   obtain⟨z1,z2⟩:=z
   unfold bW at z2
   exact⟨by omega,by omega⟩
  ·dsimp only at z
   obtain⟨z1,z2⟩:=z
   exact⟨by omega,by unfold bW;omega⟩
theorem yf {f g:Nat->Bool}{p q:Nat}(p0:0<p)(q0:0<q)(hf:∀d,f (d+p)=f d)(hg:∀d,g (d+q)=g d)(e:∀d,d<p+q->f d=g d):∀d,f d=g d:=by
 have w:=cqS (φ:=λd=>b2i (f d)) (ψ:=λd=>b2i (g d)) (F:=0) (a:=0) (b:=0) p0 q0 (λd _=>by show b2i (f (d+p))=b2i (f d)+0;rw [hf];omega) (λd _=>by show b2i (g (d+q))=b2i (g d)+0;rw [hg];omega) λd hd=>by show b2i (f d)=b2i (g d);rw [e d (by omega)]
 intro d
 have:b2i (f d)=b2i (g d):=congrFun w d
 cases hx:f d <;> cases hy:g d <;> rw [hx,hy] at this <;> first|rfl|(simp [b2i] at this)
theorem Gf (h:YO Y)(d:Nat):t8 Y (d+TY Y)=t8 Y d:=by
 obtain⟨a,b⟩:=zw h d
 unfold t8
 rw [a,b]
/-- both Mh days have bh same dates -/
def Alike (Y Z:List (List Int)):Prop:=(∀d,jR (aA Y) d=jR (aA Z) d)/\∀d,t8 Y d=t8 Z d
theorem Ck (h:YO Y)(g:YO Z)(e:∀d,d<TY Y+TY Z+1->cg (aA Y) (aJ Y) d=cg (aA Z) (aJ Z) d):Alike Y Z:=by
 refine⟨yf h.T0 g.T0 (zI h) (zI g) λd hd=>?_,yf h.T0 g.T0 (Gf h) (Gf g) λd hd=>?_⟩
 ·rw [(XH Y d).1,(XH Z d).1,e d (by omega)]
 ·rw [(XH Y d).2,(XH Z d).2,e d (by omega)]
theorem Alike.dat (a:Alike Y Z)(h:YO Y)(g:YO Z)(d:Nat):cg (aA Y) (aJ Y) d=cg (aA Z) (aJ Z) d:=by
 obtain⟨e1,e2⟩:=EW h g a.1 a.2
 rw [e1,e2]
theorem jn (ln:Nat->Nat):∀d,ai ln d<=d
 |0=>Kak _
 |d+1=>by
  have:=jn ln d
  unfold ai
  split <;> omega
theorem LA (h:YO Y){n d:Nat}(hn:n<=10 ^ 30)(hd:d<=10 ^ 30+1000):Gb (aA Y) (aJ Y) n d<=10 ^ 40:=by
 have h1:=h.jS.Vb n d
 have h2:SN (aA Y) (mY Y)<=121:=h.d_
 have hm:=h.mT
 have hT:=h.d_
 have h3:(d+n+1)*mY Y<=(3*10 ^ 30)*121:=Kc9 (by omega) (by omega)
 have h4:=Kc9 (show (d+n+1)*mY Y+1<=(3*10 ^ 30)*121+1 by omega) h2
 unfold Gb
 omega
theorem Lm (h:YO Y){n d:Nat}(hn:n<=100)(hd:d<=1000):Eu (aA Y) n d<=10 ^ 40:=by
 have h1:=(h.mon.rR n d).2
 have h2:=h.mon.xV (ai (aA Y) d+n+1)
 have h3:SN (aA Y) (mY Y)<=121:=h.d_
 have h4:=jn (aA Y) d
 have h5:=KbY (ai (aA Y) d+n+1) (mY Y)
 have h6:(ai (aA Y) d+n+1) / mY Y*SN (aA Y) (mY Y)<=1101*121:=Kc9 (by omega) h3
 have h7:=m9 (aA Y) (Kdw (KaS (ai (aA Y) d+n+1) h.mon.m0))
 unfold Eu
 omega
theorem Ur {n:Nat}(hn:n<=1000):nX (aA Y) n<=10 ^ 40:=by
 have:=jn (aA Y) n
 unfold nX
 omega
abbrev vY (d:PyData):Prop:=Nd 2 30531 d
theorem vY.set {f:Nat->Bool}{S:DS}(h:YO Y)(c:cF 0 (TY Y) f S):vY (enc S):=by
 have h3:=h.d_
 exact (Nd.cqK (n:=121) (c.rep (by omega)) (by omega) (by decide) (by decide)).mono (Kak _) (by decide)
theorem vY.TU {f:Nat->Int}{L:cD}{R:Int}(h:YO Y)(c:Cn f L)(hp:bq f 0 (TY Y) R)(hR:R<=10 ^ 50)(hf:f (TY Y)<=10 ^ 50):vY (enc L):=by
 have h3:=h.d_
 exact (Nd.bqZ (a:=121) (c.rep hp h.T0) hR (by rw [Kb0];exact hf) (by omega)).mono (Kak _) (by decide)
def fJ (c:bI):List PyData:=[(enc (JX c)),(enc (LX c)),(enc (J3 c)),(enc (J4 c)),(enc (v7 c (1:Int)))]++[(enc (vZ c (1:Int))),(enc (v7 c (7:Int))),(enc (vZ c (5:Int))),(enc (v5 c (0:Int) (0:Int))),(enc (v5 c (1:Int) (1:Int)))]
theorem kZ (h:YO Y){c:bI}(k:CO Y c)(s:ae):Am s c/\Kr s c=(fJ c,s)/\∀x∈fJ c,vY x:=by
 have h3:=h.d_
 have hm:=h.mT
 have T0:=h.T0
 obtain⟨a1,b1⟩:=fjp h k
 obtain⟨a2,b2⟩:=ejr h k
 obtain⟨a3,b3⟩:=fxq h k
 obtain⟨a4,b4⟩:=fjq h k
 obtain⟨a5,b5⟩:=Py h k 1
 obtain⟨a6,b6⟩:=O8 h k 1
 obtain⟨a7,b7⟩:=Py h k 7
 obtain⟨a8,b8⟩:=O8 h k 5
 obtain⟨a9,b9⟩:=OZ h k 0 0
 obtain⟨a10,YM⟩:=OZ h k 1 1
 refine⟨?_,rfl,?_⟩
 ·unfold Am
  rw [c_]
  exact⟨a1,a2,a3,a4,a5,a6,a7,a8,a9,a10,by simp only [Kah,KbE];omega⟩
 ·intro x hx
  have eT:((SN (aA Y) (mY Y):Nat):Int)=((TY Y:Nat):Int):=rfl
  simp only [fJ,KcX,Kbr,Kai,Kbw,or_false] at hx
  rcases hx with rfl|rfl|rfl|rfl|rfl|rfl|rfl|rfl|rfl|rfl
  ·exact vY.set h b1
  ·exact vY.set h b2
  ·exact vY.set h b3
  ·exact vY.TU h b4 h.mon.EV (by omega) (KbN (Ur (by omega)) (by omega))
  ·exact vY.TU h b5 (h.mon.xg 1) (by rw [eT];omega) (KbN (Lm h (by omega) (by omega)) (by omega))
  ·exact vY.TU h b6 (h.jS.xO 1) (by rw [eT];omega) (KbN (LA h (by omega) (by omega)) (by omega))
  ·exact vY.TU h b7 (h.mon.xg 7) (by rw [eT];omega) (KbN (Lm h (by omega) (by omega)) (by omega))
  ·exact vY.TU h b8 (h.jS.xO 5) (by rw [eT];omega) (KbN (LA h (by omega) (by omega)) (by omega))
  ·exact vY.set h b9
  ·exact vY.set h YM
theorem Bk (h:YO Y)(g:YO Z)(a:Alike Y Z){c e:bI}(k:CO Y c)(l:CO Z e):fJ c=fJ e:=by
 have h3:=h.d_
 have g3:=g.d_
 obtain⟨e1,e2⟩:=EW h g a.1 a.2
 have cs:∀{f g':Nat->Bool} {S S':DS},cF 0 (TY Y) f S->cF 0 (TY Z) g' S'->f=g'->S=S':=λx y z=>by
  subst z
  exact x.uniq y (by omega) (by omega)
 have cl:∀{f g':Nat->Int} {S S':cD},Cn f S->Cn g' S'->f=g'->S=S':=λx y z=>by
  subst z
  exact x.uniq y
 have r1:=cs (fjp h k).2 (fjp g l).2 (funext a.2)
 have r2:=cs (ejr h k).2 (ejr g l).2 (funext a.1)
 have r3:=cs (fxq h k).2 (fxq g l).2 (funext λd=>a.1 (d+1))
 have r4:=cl (fjq h k).2 (fjq g l).2 (by rw [e1])
 have r5:=cl (Py h k 1).2 (Py g l 1).2 (by rw [e1])
 have r6:=cl (O8 h k 1).2 (O8 g l 1).2 (by rw [e1,e2])
 have r7:=cl (Py h k 7).2 (Py g l 7).2 (by rw [e1])
 have r8:=cl (O8 h k 5).2 (O8 g l 5).2 (by rw [e1,e2])
 have dt:∀m p,Ru Y m p=Ru Z m p:=λm p=>funext λd=>by unfold Ru;rw [e1,e2]
 have r9:=cs (OZ h k 0 0).2 (OZ g l 0 0).2 (dt 0 0)
 have r10:=cs (OZ h k 1 1).2 (OZ g l 1 1).2 (dt 1 1)
 unfold fJ
 have i1:v7 c (1:Int)=v7 e (1:Int):=r5
 have i6:vZ c (1:Int)=vZ e (1:Int):=r6
 have i7:v7 c (7:Int)=v7 e (7:Int):=r7
 have i8:vZ c (5:Int)=vZ e (5:Int):=r8
 have i9:v5 c (0:Int) (0:Int)=v5 e (0:Int) (0:Int):=r9
 have i10:v5 c (1:Int) (1:Int)=v5 e (1:Int) (1:Int):=r10
 rw [r1,r2,r3,r4,i1,i6,i7,i8,i9,i10]
theorem zL {c:bI}(h:∀x∈fJ c,vY x):BP (enc (fJ c))=true:=
 (Nd.list (k:=2) (c:=30531) (n:=10) (xs:=(fJ c).map enc) (λx hx=>by
  obtain⟨y,hy,rfl⟩:=KaM.mp hx
  exact h y hy) (by rw [Kaf];exact Kak 10)).repr (by decide) (by decide)
theorem C9 (h:YO Y){d:Nat}(hd:d<=10 ^ 31):BP (enc (cg (aA Y) (aJ Y) d))=true:=by
 have b1:=jn (aA Y) d
 have b2:=jn (aJ Y) (ai (aA Y) d)
 refine (Nd.tuple (k:=0) (c:=61) (n:=3) (xs:=[enc (cg (aA Y) (aJ Y) d).x,enc (cg (aA Y) (aJ Y) d).y,enc (cg (aA Y) (aJ Y) d).z]) (λz hz=>?_) (Kak 3)).repr (by decide) (by decide)
 simp only [Kai,Kbw,or_false] at hz
 unfold cg bW at hz
 rcases hz with rfl|rfl|rfl
 ·exact Nd.int (by dsimp only;omega) (by dsimp only;omega)
 ·exact Nd.int (by dsimp only;omega) (by dsimp only;omega)
 ·exact Nd.int (by dsimp only;omega) (by dsimp only;omega)
end
set_option maxHeartbeats 2000000
section
variable {Y Z:List (List Int)}
theorem oJ (u v:Nat->T3 Int Int Int):∀(xs:List Nat),forR Hq (xs.map λ(i:Nat)=>((i:Int),(u i,v i))) ()=match xs.find? (λi=>decide (u i≠v i)) with
  |some i=>.inl (some (i:Int))
  |none=>.inr ()
 |[]=>rfl
 |x::xs=>by
  rw [Kal,Kct]
  show iy (Hq () ((x:Int),(u x,v x))) Sum.inl (forR Hq (xs.map λ(i:Nat)=>((i:Int),(u i,v i))))=_
  by_cases c:u x≠v x
  ·have e:Hq () ((x:Int),(u x,v x))=.inl (some (x:Int)):=if_pos c
   rw [e,decide_eq_true c];rfl
  ·have e:Hq () ((x:Int),(u x,v x))=.inr ():=if_neg c
   rw [e,decide_eq_false c]
   exact oJ u v xs
theorem wQ (h:YO Y)(g:YO Z):Bw Y Z/\((Gr Y Z=none/\Alike Y Z)∨∃d:Nat,Gr Y Z=some (d:Int)/\d<=242/\cg (aA Y) (aJ Y) d≠cg (aA Z) (aJ Z) d/\∀e,e<d->cg (aA Y) (aJ Y) e=cg (aA Z) (aJ Z) e):=by
 have h3:=h.d_
 have g3:=g.d_
 obtain⟨a1,a2⟩:=uE h
 obtain⟨b1,b2⟩:=uE g
 have em:((TY Y:Nat):Int)+((TY Z:Nat):Int)+1=((TY Y+TY Z+1:Nat):Int):=by omega
 obtain⟨c1,c2⟩:=oF h (n:=TY Y+TY Z+1) (by omega)
 obtain⟨d1,d2⟩:=oF g (n:=TY Y+TY Z+1) (by omega)
 unfold Bw Gr
 rw [a2,b2,em,c_,lt_eq,c2,d2]
 refine⟨⟨a1,b1,c1,d1,oK (λ_ _=>trivial) _ _⟩,?_⟩
 rw [Kcs,Km (λi=>(cg (aA Y) (aJ Y) i,cg (aA Z) (aJ Z) i)),oJ]
 cases e:(Kac (TY Y+TY Z+1)).find? (λi=>decide (cg (aA Y) (aJ Y) i≠cg (aA Z) (aJ Z) i)) with
 |none=>
  refine .inl ⟨rfl,Ck h g λd hd=>?_⟩
  have q:=List.find?_eq_none.mp e d (KaJ.mpr hd)
  exact Classical.byContradiction λz=>q (decide_eq_true z)
 |some d=>
  have q:=List.find?_range_eq_some.mp e
  refine .inr ⟨d,rfl,?_,of_decide_eq_true q.1,λx hx=>?_⟩
  ·have:=KaJ.mp q.2.1
   omega
  ·have:=q.2.2 x hx
   exact Classical.byContradiction λz=>by
    rw [decide_eq_true z] at this
    cases this
theorem WK (h:YO Y)(g:YO Z){c e:bI}(k:CO Y c)(l:CO Z e){d:Nat}(hd:d<=10 ^ 31):qY c (d:Int)/\qY e (d:Int)/\yp (iY c (d:Int)) (iY e (d:Int)) /\
  (BL (iY c (d:Int)) (iY e (d:Int))=true↔cg (aA Y) (aJ Y) d=cg (aA Z) (aJ Z) d):=by
 obtain⟨a1,a2⟩:=fxn h k d
 obtain⟨b1,b2⟩:=fxn g l d
 refine⟨a1,b1,?_,?_⟩
 ·rw [a2,b2];exact⟨C9 h hd,C9 g hd⟩
 ·rw [a2,b2]
  unfold BL
  rw [decide_eq_true_iff]
  refine⟨λz=>?_,λz=>by rw [z]⟩
  exact Jm z
theorem ze {b:Bool}{c e:bI}(h1:qk c e=b)(h2:qk e c=b)(d1:v9 c e)(d2:v9 e c):ja (ye b) (V7 b) [(c,e),(e,c)] ()/\forR (ye b) [(c,e),(e,c)] ()=.inr ():=by
 have e1:ye b () (c,e)=.inr ():=by
  unfold ye
  rw [if_neg]
  dsimp only
  rw [h1]
  cases b <;> simp
 have e2:ye b () (e,c)=.inr ():=by
  unfold ye
  rw [if_neg]
  dsimp only
  rw [h2]
  cases b <;> simp
 refine⟨⟨⟨d1,λ_=>d1⟩,?_⟩,?_⟩
 ·rw [e1]
  refine⟨⟨d2,λ_=>d2⟩,?_⟩
  rw [e2];trivial
 ·show iy (ye b () (c,e)) Sum.inl (λst=>iy (ye b st (e,c)) Sum.inl λst=>.inr st)=_
  rw [e1]
  show iy (ye b () (e,c)) Sum.inl (λst=>.inr st)=_
  rw [e2];rfl
theorem gxt {n d:Nat}(h:n<d)(hd:d<=243):n<=10 ^ 31:=Kau (show n<=243 by omega) (by decide)
theorem xD {s:ae}(h:Sk 0 s):BK s/\(RN s).1=true:=by
 unfold BK RN
 obtain⟨a1,⟨yo,a2⟩,a3⟩:=qf h (by omega)
 rw [uv (An s),q7 (An s)]
 generalize An s=q1 at *
 obtain⟨Y,s1⟩:=q1
 dsimp only at yo a2 a3 ⊢
 rw [c_ Y,lt_eq Y]
 obtain⟨b1,zo,b3⟩:=xw yo a2 a3 (by omega)
 rw [uv (Co s1 Y),q7 (Co s1 Y)]
 generalize Co s1 Y=q2 at *
 obtain⟨Z,s2⟩:=q2
 dsimp only at zo b3 ⊢
 rw [c_ Z,lt_eq Z]
 obtain⟨c1,k⟩:=rN yo
 obtain⟨c2,l⟩:=rN zo
 rw [c_ (sR Y),lt_eq (sR Y)]
 generalize sR Y=c at *
 rw [c_ (sR Z),lt_eq (sR Z)]
 generalize sR Z=e at *
 obtain⟨f1,f2⟩:=wQ yo zo
 rw [c_ (Gr Y Z),lt_eq (Gr Y Z)]
 generalize Gr Y Z=ap at *
 rw [c_ (decide (ap=none)),lt_eq (decide (ap=none))]
 obtain⟨g1,g2⟩:=XA yo zo k l
 obtain⟨g3,g4⟩:=XA zo yo l k
 obtain⟨g5,g6⟩:=XA yo yo k k
 obtain⟨g7,g8⟩:=XA zo zo l l
 have g6:=g6.mpr ⟨λ_=>rfl,λ_=>rfl⟩
 have g8:=g8.mpr ⟨λ_=>rfl,λ_=>rfl⟩
 have test:¬((¬(qk c c=true))∨((¬(qk e e=true))∨((false=true)∨((false=true)∨(false=true))))):=by
  rw [g6,g8];simp
 rcases f2 with⟨rfl,al⟩|⟨d,rfl,hd,ne,before⟩
 ·have s1e:qk c e=true:=g2.mpr al
  have s2e:qk e c=true:=g4.mpr ⟨λd=>(al.1 d).symm,λd=>(al.2 d).symm⟩
  have es:decide ((none:Option Int)=none)=true:=rfl
  rw [es]
  obtain⟨l1,l2⟩:=ze s1e s2e g1 g3
  rw [l2,rA,if_neg test,if_pos rfl]
  obtain⟨t1,t2,t3⟩:=kZ yo k s2
  obtain⟨u1,u2,u3⟩:=kZ zo l s2
  rw [t2,q7 (fJ c,s2),uv (fJ c,s2)]
  dsimp only
  rw [u2,q7 (fJ e,s2),uv (fJ e,s2)]
  dsimp only
  have te:=Bk yo zo al k l
  have ts:BL (fJ c) (fJ e)=true:=by rw [te];exact decide_eq_true rfl
  rw [if_neg (by rw [ts];simp)]
  obtain⟨v1,v2,v3,v4⟩:=GF b3 (by omega) (m:=(10:Int) ^ (Kbh (30:Int))) (by decide) (by decide)
  rw [uv (cG s2 _),q7 (cG s2 _)]
  generalize cG s2 ((10:Int) ^ (Kbh (30:Int)))=q3 at *
  obtain⟨sp,s3⟩:=q3
  dsimp only at v2 v3 v4 ⊢
  rw [c_ sp,lt_eq sp]
  obtain⟨n,rfl⟩:=KbT v2
  have hn:n<=10 ^ 31:=by
   have:((n:Nat):Int)<1000000000000000000000000000000:=v3
   omega
  obtain⟨w1,w2,w3,w4⟩:=WK yo zo k l hn
  obtain⟨x1,x2⟩:=fxn zo l n
  obtain⟨y1,y2⟩:=Dc yo k n
  have ed:=al.dat yo zo n
  refine⟨⟨a1,b1,yo.cp,c1,zo.cp,c2,f1,l1,λ_ _=>⟨yo.cp,c1,g5,λ_=>g7,λ_=>⟨λ_=>⟨t1,u1,⟨zL t3,zL u3⟩,λ_=>⟨v1,w1,w2,w3,λ_=>⟨w2,?_⟩⟩⟩,λz=>absurd rfl z⟩⟩⟩,?_⟩
  ·rw [x2,<-ed];exact y1
  ·show decide _=true
   rw [decide_eq_true_iff]
   refine⟨w4.mpr ed,?_⟩
   rw [x2,<-ed];exact y2
 ·have na:¬Alike Y Z:=λal=>ne (al.dat yo zo d)
  have s1e:qk c e=false:=by
   cases z:qk c e with
   |false=>rfl
   |true=>exact absurd (g2.mp z) na
  have s2e:qk e c=false:=by
   cases z:qk e c with
   |false=>rfl
   |true=>
    have q:=g4.mp z
    exact absurd ⟨λd=>(q.1 d).symm,λd=>(q.2 d).symm⟩ na
  have es:decide (some (d:Int)=none)=false:=rfl
  rw [es]
  obtain⟨l1,l2⟩:=ze s1e s2e g1 g3
  rw [l2,rA,if_neg test,if_neg (by simp)]
  have eg:KaN (some (d:Int)) default=(d:Int):=rfl
  rw [eg]
  obtain⟨w1,w2,w3,w4⟩:=WK yo zo k l (d:=d) (gxt (Kbl d) (by omega))
  have wf:¬(BL (iY c (d:Int)) (iY e (d:Int))=true):=λz=>ne (w4.mp z)
  rw [if_neg wf]
  have lr:=HH (max 0 ((d:Int)-3)) (d:Int)
  have each:∀x∈rng (max 0 ((d:Int)-3)) (d:Int),∃n:Nat,x=(n:Int)/\n<d:=λx hx=>by
   obtain⟨i,hi,rfl⟩:=KaM.mp hx
   have:=KaJ.mp hi
   exact⟨(max 0 ((d:Int)-3)+(i:Int)).toNat,by omega,by omega⟩
  refine⟨⟨a1,b1,yo.cp,c1,zo.cp,c2,f1,l1,λ_ _=>⟨yo.cp,c1,g5,λ_=>g7,λ_=>⟨λz=>Kdy z,λ_=>⟨rfl,w1,rfl,w2,w3,λ_=>⟨rfl,rfl,⟨⟨by omega,by omega⟩,by omega,by omega⟩,λx hx=>?_,by omega⟩⟩⟩⟩⟩,?_⟩
  ·obtain⟨n,rfl,hn⟩:=each x hx
   have q:=WK yo zo k l (d:=n) (gxt hn (Kau hd (by decide)))
   exact⟨q.1,q.2.1,q.2.2.1⟩
  ·show Kc5 _ id=true
   rw [Kcl,Kbk]
   intro x hx
   obtain⟨n,rfl,hn⟩:=each x hx
   exact (WK yo zo k l (d:=n) (gxt hn (Kau hd (by decide)))).2.2.2.mpr (before n hn)
end
end Pu
set_option maxHeartbeats 1000000
namespace Pu
open PySem L2 Enc
local macro_rules | `(tactic| walk_at "ev") => `(tactic| simp only [gqm, gjs, Ed, Hv, EI, gxl, MD, FO, Es, RJ, LL, N2, Nh, Ig, Nf, ND, T9, T6, Ss, Si, ED, RL, Ue, M6, IY, TJ, Nt, EL, Fz, NX, Na, Mi, HC, NI, M5, LK, IM, IQ, FJ, N3, IP, IS, LP, LR, Bh, AY, AD, gqo, Nv, IZ, FT, Sl, gzl, FN, zN, Sv, Jr, vA, Fi, yi, CQ, uU, oX, oY, yZ, uT, DJ, DL, AM, Io, Im, DK, rP, Mb, gqk, Ak, qb, Xu, y_, Ei, A4, Ms, Df, Jo, Nj, MF, NJ, AS, gql, CW, uS, Ek, Dg, E1, Fv, ya, zj, EE, uw, zF, Fq, Fo, Fp, yE, XF, Jq, wO, NV, vJ, x_, EY, Jc, Jh, EZ, E5, E6, IX, yC, Cw, fjr, rB, CZ, MM, R7, sH, gxb, Jp, UC, Ub, Fb, Ba, Jv, Kah, KbE, Kay, KcX, Kbr, List.getElem?_cons_zero, KbP, List.set_cons_zero, List.set_cons_succ, Kae, Option.map_some, Option.bind_none, bu, Kal, Kdt, Ka7, List.all_nil, aB, gv, Bool.or_true, Bool.or_false, KcS, Bool.and_false, Bool.false_or, Bool.true_or, KcP, Bool.false_and, GK, fP, HV, Dk, yW, Yk, JD, X7, IK, HB, IE, xm, mQ, vM, pX, KbJ, if_true, if_false, sw2, sw3, Nat.reduceAdd, Nat.reduceLeDiff, Nat.reduceEqDiff, Kb0, reduceIte, Int.reduceNeg, Int.reduceToNat, Nat.reduceSub, Nat.reduceMul, decide_true, decide_false, Bool.not_true, Bool.not_false])
def Qv (c:Int):Int:=if c<0 then -c else c
def xE (ns:List Int)(r:Int):ae:=(max 0 (Qv (uH ns r)-1000000000000000000),(uH ns r*48593+r*7919+611953) % 100000000000000000000000067,0)
theorem Jy (ns:List Int)(r:Int)(r0:0<=r)(r1:r<=1000):Sk 0 (xE ns r):=by
 have e0:=Kb1 (uH ns r*48593+r*7919+611953) (show (100000000000000000000000067:Int)≠0 by omega)
 have e1:=KbK (uH ns r*48593+r*7919+611953) (show (0:Int)<100000000000000000000000067 by omega)
 refine⟨by show 0<=max 0 _;omega,?_,?_,Ka4 _,Ka4 _⟩
 ·show 0<=_ % _;exact e0
 ·show _ % _<_;omega
theorem Jw (ns:List Int)(r:Int)(x0:Slot)(_:0<=r)(_:r<=1000):B9.W9.ev [x0,.dat (.int r),.dat (.int (uH ns r))] (0,0,0)=some (.ret (.list [.int (xE ns r).1,.int (xE ns r).2.1,.int (xE ns r).2.2],true) (0,0,0)):=by
 unfold B9.W9 xE
 generalize uH ns r=c
 have m2:mL r 7919=true:=by unfold mL;simp
 have m1:mL c 48593=true:=by unfold mL;simp
 walk_at "ev"
 rw [show iE 10 18=true by decide +kernel]
 walk_at "ev"
 rw [m1]
 walk_at "ev"
 rw [m2]
 walk_at "ev"
 rw [show iE 10 26=true by decide +kernel]
 walk_at "ev"
 simp only [Int.reduceToNat,Int.reducePow,Int.reduceAdd,Int.reduceLT]
 walk_at "ev"
 unfold Qv
 by_cases h:c<0 <;> simp [h]
theorem M8 (C:Str->Addr)(ns:List Int)(r:Int)(r0:0<=r)(r1:r<=1000):∃fl s',RG C [.bU] (xE ns r)=some ((.bool true,fl),s'):=by
 obtain⟨h1,h2⟩:=xD (Jy ns r r0 r1)
 obtain⟨w',e,_⟩:=wY C (xE ns r) h1
 rw [h2] at e
 exact⟨w',_,e⟩
end Pu
set_option maxHeartbeats 0
namespace B9
open PySem PySem.Spec PyProof.Rows L2 Pu
theorem mkT {K:PySem.W.Frag}{h:Heap}{mg:Str->Option Value}(X:K.In h)(G:h.Ns mainGlobals mg)(c1:Hg.kD fa fn ps ts K):Nonempty (Tp K mg):=by
 have c:=c1.d
 obtain⟨fd0,F0⟩:=c.def_ 0 (d:=Cq) rfl
 obtain⟨fd1,F1⟩:=c.def_ 1 (d:=Aa) rfl
 obtain⟨fd2,F2⟩:=c.def_ 2 (d:=Gp) rfl
 obtain⟨fd3,F3⟩:=c.def_ 3 (d:=C5) rfl
 obtain⟨fd4,F4⟩:=c.def_ 4 (d:=CI) rfl
 obtain⟨fd5,F5⟩:=c.def_ 5 (d:=Ai) rfl
 obtain⟨fd6,F6⟩:=c.def_ 6 (d:=oz) rfl
 obtain⟨fd7,F7⟩:=c.def_ 7 (d:=CM) rfl
 obtain⟨fd8,F8⟩:=c.def_ 8 (d:=BD) rfl
 obtain⟨fd9,F9⟩:=c.def_ 9 (d:=Cj) rfl
 obtain⟨aqE,F10⟩:=c.def_ 10 (d:=wD) rfl
 obtain⟨aqF,F11⟩:=c.def_ 11 (d:=yh) rfl
 obtain⟨aqG,F12⟩:=c.def_ 12 (d:=As) rfl
 obtain⟨aqH,F13⟩:=c.def_ 13 (d:=BG) rfl
 obtain⟨aqI,F14⟩:=c.def_ 14 (d:=CJ) rfl
 obtain⟨aqJ,F15⟩:=c.def_ 15 (d:=BC) rfl
 obtain⟨aqK,F16⟩:=c.def_ 16 (d:=CL) rfl
 obtain⟨aqL,F17⟩:=c.def_ 17 (d:=Ag) rfl
 obtain⟨aqM,F18⟩:=c.def_ 18 (d:=x7) rfl
 obtain⟨aqN,F19⟩:=c.def_ 19 (d:=yd) rfl
 obtain⟨aqO,F20⟩:=c.def_ 20 (d:=BA) rfl
 obtain⟨aqP,F21⟩:=c.def_ 21 (d:=Ae) rfl
 obtain⟨aqQ,F22⟩:=c.def_ 22 (d:=v8) rfl
 obtain⟨aqR,F23⟩:=c.def_ 23 (d:=wB) rfl
 obtain⟨aqS,F24⟩:=c.def_ 24 (d:=qY) rfl
 obtain⟨aqT,F25⟩:=c.def_ 25 (d:=BF) rfl
 obtain⟨aqU,F26⟩:=c.def_ 26 (d:=By) rfl
 obtain⟨aqV,F27⟩:=c.def_ 27 (d:=Ci) rfl
 obtain⟨aqW,F28⟩:=c.def_ 28 (d:=z_) rfl
 obtain⟨aqX,F29⟩:=c.def_ 29 (d:=Bt) rfl
 obtain⟨aqY,F30⟩:=c.def_ 30 (d:=z9) rfl
 obtain⟨aqZ,F31⟩:=c.def_ 31 (d:=Bv) rfl
 obtain⟨aq0,F32⟩:=c.def_ 32 (d:=Af) rfl
 obtain⟨aq1,F33⟩:=c.def_ 33 (d:=BB) rfl
 obtain⟨aq2,F34⟩:=c.def_ 34 (d:=v9) rfl
 obtain⟨aq3,F35⟩:=c.def_ 35 (d:=Mx) rfl
 obtain⟨aq4,F36⟩:=c.def_ 36 (d:=l8) rfl
 obtain⟨aq5,F37⟩:=c.def_ 37 (d:=Pg) rfl
 obtain⟨aq6,F38⟩:=c.def_ 38 (d:=yp) rfl
 obtain⟨aq7,F39⟩:=c.def_ 39 (d:=uq) rfl
 obtain⟨aq8,F40⟩:=c.def_ 40 (d:=Aq) rfl
 obtain⟨aq9,F41⟩:=c.def_ 41 (d:=Ar) rfl
 obtain⟨bqA,F42⟩:=c.def_ 42 (d:=BE) rfl
 obtain⟨bqB,F43⟩:=c.def_ 43 (d:=Bw) rfl
 obtain⟨bqC,F44⟩:=c.def_ 44 (d:=Am) rfl
 obtain⟨bqD,F45⟩:=c.def_ 45 (d:=BK) rfl
 obtain⟨bqE,F46⟩:=c.def_ 46 (d:=uF) rfl
 exact⟨⟨_,fd0,F0,He.glo_ok X G (c.fact 0 (f:=.glo "never_falls") rfl),_,fd1,F1,He.glo_ok X G (c.fact 1 (f:=.glo "always_rises") rfl),_,fd2,F2,He.glo_ok X G (c.fact 2 (f:=.glo "is_ladder") rfl),_,fd3,F3,He.glo_ok X G (c.fact 3 (f:=.glo "is_set") rfl),_,fd4,F4,He.glo_ok X G (c.fact 4 (f:=.glo "need_ladder") rfl),_,fd5,F5,He.glo_ok X G (c.fact 5 (f:=.glo "need_set") rfl),_,fd6,F6,He.glo_ok X G (c.fact 6 (f:=.glo "need_number") rfl),_,fd7,F7,He.glo_ok X G (c.fact 7 (f:=.glo "prime_parts") rfl),_,fd8,F8,He.glo_ok X G (c.fact 8 (f:=.glo "comes_again") rfl),_,fd9,F9,He.glo_ok X G (c.fact 9 (f:=.glo "least_length") rfl),_,aqE,F10,He.glo_ok X G (c.fact 10 (f:=.glo "least_way") rfl),_,aqF,F11,He.glo_ok X G (c.fact 11 (f:=.glo "least_row") rfl),_,aqG,F12,He.glo_ok X G (c.fact 12 (f:=.glo "set_row") rfl),_,aqH,F13,He.glo_ok X G (c.fact 13 (f:=.glo "set_from") rfl),_,aqI,F14,He.glo_ok X G (c.fact 14 (f:=.glo "least_set") rfl),_,aqJ,F15,He.glo_ok X G (c.fact 15 (f:=.glo "least_ladder") rfl),_,aqK,F16,He.glo_ok X G (c.fact 16 (f:=.glo "are_years") rfl),_,aqL,F17,He.glo_ok X G (c.fact 17 (f:=.glo "least_cycle") rfl),_,aqM,F18,_,aqN,F19,_,aqO,F20,_,aqP,F21,_,aqQ,F22,_,aqR,F23,_,aqS,F24,_,aqT,F25,_,aqU,F26,_,aqV,F27,_,aqW,F28,_,aqX,F29,_,aqY,F30,_,aqZ,F31,_,aq0,F32,_,aq1,F33,_,aq2,F34,_,aq3,F35,He.glo_ok X G (c.fact 18 (f:=.glo "_law_pail") rfl),_,aq4,F36,He.glo_ok X G (c.fact 19 (f:=.glo "_law_dip") rfl),_,aq5,F37,He.glo_ok X G (c.fact 20 (f:=.glo "_law_own") rfl),_,aq6,F38,He.glo_ok X G (c.fact 21 (f:=.glo "_law_same") rfl),_,aq7,F39,He.glo_ok X G (c.fact 22 (f:=.glo "_law_cycle") rfl),_,aq8,F40,He.glo_ok X G (c.fact 23 (f:=.glo "_law_years") rfl),_,aq9,F41,He.glo_ok X G (c.fact 24 (f:=.glo "_law_dates") rfl),_,bqA,F42,He.glo_ok X G (c.fact 25 (f:=.glo "_law_other_years") rfl),_,bqB,F43,He.glo_ok X G (c.fact 26 (f:=.glo "_law_first_apart") rfl),_,bqC,F44,He.glo_ok X G (c.fact 27 (f:=.glo "_law_telling") rfl),_,bqD,F45,He.glo_ok X G (c.fact 28 (f:=.glo "_law_right") rfl),_,bqE,F46,He.glo_ok X G (c.fact 29 (f:=.glo "law") rfl),He.free_ok X G (c.fact 30 (f:=.free "zip") rfl),He.free_ok X G (c.fact 31 (f:=.free "all") rfl),He.free_ok X G (c.fact 32 (f:=.free "len") rfl),He.free_ok X G (c.fact 33 (f:=.free "range") rfl),He.free_ok X G (c.fact 34 (f:=.free "int") rfl),He.free_ok X G (c.fact 35 (f:=.free "enumerate") rfl),He.free_ok X G (c.fact 36 (f:=.free "min") rfl),He.free_ok X G (c.fact 37 (f:=.free "list") rfl),He.free_ok X G (c.fact 38 (f:=.free "divmod") rfl),He.free_ok X G (c.fact 39 (f:=.free "isinstance") rfl),He.free_ok X G (c.fact 40 (f:=.free "repr") rfl),He.free_ok X G (c.fact 41 (f:=.free "sum") rfl),He.free_ok X G (c.fact 42 (f:=.free "max") rfl),He.free_ok X G (c.fact 43 (f:=.free "abs") rfl),He.free_ok X G (c.fact 44 (f:=.free "tuple") rfl),λx=>He.ga K x,He.cls_ok (c.fact 45 (f:=.cls "Calendar") rfl),He.mkr_ok (c.fact 46 (f:=.mkr "Calendar") rfl),He.glo_ok X G (c.fact 47 (f:=.glo "Calendar") rfl),c1.own (x := "Calendar") (by decide) (He.cls_ok (c.fact 45 (f:=.cls "Calendar") rfl)),He.noat_ok (c.fact 48 (f:=.noat "Calendar" "own_years") rfl),He.noat_ok (c.fact 49 (f:=.noat "Calendar" "spots") rfl),He.noat_ok (c.fact 50 (f:=.noat "Calendar" "lengths") rfl),He.noat_ok (c.fact 51 (f:=.noat "Calendar" "firsts") rfl),He.noat_ok (c.fact 52 (f:=.noat "Calendar" "total") rfl),He.meth_ok (c.fact 53 (f:=.meth "Calendar" "owners") rfl),He.meth_ok (c.fact 54 (f:=.meth "Calendar" "index_of") rfl),He.meth_ok (c.fact 55 (f:=.meth "Calendar" "month_at") rfl),He.meth_ok (c.fact 56 (f:=.meth "Calendar" "set_of_cycle") rfl),He.meth_ok (c.fact 57 (f:=.meth "Calendar" "ladder_of_cycle") rfl),He.meth_ok (c.fact 58 (f:=.meth "Calendar" "date") rfl),He.meth_ok (c.fact 59 (f:=.meth "Calendar" "day") rfl),He.meth_ok (c.fact 60 (f:=.meth "Calendar" "year_starts") rfl),He.meth_ok (c.fact 61 (f:=.meth "Calendar" "month_starts") rfl),He.meth_ok (c.fact 62 (f:=.meth "Calendar" "dates") rfl),He.meth_ok (c.fact 63 (f:=.meth "Calendar" "last_days") rfl),He.meth_ok (c.fact 64 (f:=.meth "Calendar" "months_on") rfl),He.meth_ok (c.fact 65 (f:=.meth "Calendar" "year_on") rfl),He.meth_ok (c.fact 66 (f:=.meth "Calendar" "years_on") rfl),He.meth_ok (c.fact 67 (f:=.meth "Calendar" "months") rfl),He.meth_ok (c.fact 68 (f:=.meth "Calendar" "__eq__") rfl)⟩⟩
theorem facts {P:Program}{w:World}{K:PySem.W.Frag}{h:Heap}{mg:Str->Option Value}{f:Addr}(X:K.In h)(G:h.Ns mainGlobals mg)(hfa:mg ("law" : Str)=some (.ref f))(c:Hg.kD fa fn ps ts K)(nn:Nat):
  ∃fd:FuncData,(∀(s:Shared) (v:Value),BindsTo s fd ⟨[v],[]⟩ [("_law_script",v)])/\∀base:Heap,K.In base->base.Ns mainGlobals mg->vX P w K mg base 13 f fd ["_law_script"] (zH K nn):=by
 obtain⟨T⟩:=mkT X G c
 have e:=hfa.symm.trans T.Sh
 cases e
 have b:=FunD.bindsA (ps:=["_law_script"]) T.JU λ_ _ _ _ _ _ us hl=>match us,hl with|[_],_=>rfl
 exact⟨_,λs v=>b s [v] rfl,λbase _ _=>Nr T Jw (λns r _ r0 r1=>M8 T.C ns r r0 r1)⟩
end B9
open PySem PySem.W PySem.Calls PyProof.Rows
theorem PySem.Challenge.cw_ladderdays_k21_whole_calendars_told_apar_holds : PySem.Challenge.rw_ladderdays_k21_whole_calendars_told_apar.Holds := by
 refine B9.early ?hc
 case hc =>
  refine Pu.U8 (l := PySem.Challenge.rw_ladderdays_k21_whole_calendars_told_apar) (n := 63) (k := 13) (x := "_law_script") rfl (by decide) (by kernel_rfl) ⟨rfl, by decide, by decide⟩ ?F
  intro w mg fa h Y G bqM
  obtain ⟨K, KX, c⟩ := Y
  have hmg : mg ("law" : PySem.Str) = some (.ref fa) := by
   have e : (HandSHeadRun.topDef (OpenLaw.row PySem.Challenge.rw_ladderdays_k21_whole_calendars_told_apar).prog 45).name = ("law" : PySem.Str) := by kernel_rfl
   rw [← e]
   exact bqM
  obtain ⟨fd, hb, hF⟩ := B9.facts (P := (PySem.Challenge.rw_ladderdays_k21_whole_calendars_told_apar).prog) (w := w) KX G hmg c 63
  exact ⟨K, fd, Pu.zH K 63, KX, hb, fun T a ns hl hS => ⟨a, ns, rfl, hl, hS, ⟨fun p hp => absurd hp Kbw, fun _ _ z => nomatch z⟩, fun _ => rfl⟩, hF⟩
