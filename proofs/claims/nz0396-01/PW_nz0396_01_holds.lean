import PyProof.Rows.All
import Wide.All
import OpenK.AllK
import Wide.FinOn
import Lean
import PySem.Challenge.RW_nz0396_01
open PySem PySem.W PySem.Calls PyProof.Rows
set_option autoImplicit false
set_option linter.all false
set_option maxRecDepth 100000
set_option Elab.async false
set_option tactic.hygienic false
set_option maxHeartbeats 1000000
set_option genSizeOf false
set_option genSizeOfSpec false
set_option bootstrap.genMatcherCode false
namespace Mine.Internal
open List (reverse_cons getElem?_set_ne length_set getElem?_append_left getElem?_append_right all_cons getD_eq_getElem?_getD nodup_cons findIdx?_cons mem_of_getElem? mem_iff_getElem? mem_filter append_assoc mem_append_left any_eq_true find?_cons_of_neg pairwise_singleton map_nil mem_singleton size_toArray drop_length drop_eq_getElem_cons nodup_nil forIn_nil forIn_cons filter_cons range' range_eq_range' range'_succ take_succ take_length length_range ext_getElem toArray map_congr_left length_take length_drop drop_zero zip_cons_cons any_cons any_toArray lookup_cons filterMap_cons mem_map_of_mem mem_append mem_map contains_iff_mem length_zipIdx cons_ne_nil length_nil flatMap_cons getElem?_drop tail_drop tail_cons all_eq_true mem_cons mem_of_ne_of_mem zip nil_append prefix_refl find?_cons all_nil map_take length_range' cons_append mem_of_mem_drop filter_append any_map filter_nil contains_append sum_nil sum_cons replicate mem_range'_1 filter_map)
open Nat (le_antisymm le_of_sub_eq_zero le_max_left le_of_succ_le le_max_right ble beq beq_refl lt_or_ge lt_succ_self lt_succ_of_lt blt le_of_lt_succ lt_add_of_pos_right le_add_right_of_le pred zero_le sub_le sub_lt one_pos le_sub_one_of_lt succ_pos add_sub_of_le lt_of_not_le add_lt_add_right mul_two lt_succ_of_le not_lt_zero lt_asymm le_of_not_lt lt_of_succ_lt min_le_right lt_of_le_of_ne le_add_left le_succ mod_lt rec le_succ_of_le le_of_add_right_le pow_le_pow_right le_sub_of_add_le mul_comm succ_mul lt_add_right mul_le_mul_right le_of_add_left_le mul_succ lt_of_add_lt_add_left lt_add_left mul_le_mul)
open Int (toNat_natCast)
open PySem.Str (ofString)
open PySem.Heap (get?_push_size lt_size get?_push_of_some get?_update_self get?_update_other get?_none_of_le)
open Option (getD_some map_some map_eq_some_iff bind_some)
open Array (length_toList any_toList getD getD_eq_getD_getElem? getElem?_toList)
open Bool (false_eq_true and_eq_true or_eq_true)
open PySem.Obj (mapSeq cls_mapSeq mapFields data_mapFields putName)
open List.Pairwise (of_map)
open PySem.SetTable (freeSlot relaid laid grown)
theorem AA{b c:Type}{M:Model}{A:Around}{E:Value->Shared->Prop}{s:Shared}{m:Sem b}{f:b->Sem c}{Q:c->Shared->Prop}(h:wpAny M A m (fun a t=>wpAny M A (f a) Q E t) E s):wpAny M A (m>>=f) Q E s:=wpAny_bind h
theorem AB{b:Type}{M:Model}{A:Around}{E:Value->Shared->Prop}{s:Shared}{a:b}{Q:b->Shared->Prop}(h:Q a s):wpAny M A (pure a) Q E s:=wpAny_pure h
theorem AC{a:Type}{M:Model}{A:Around}{E:Value->Shared->Prop}{s:Shared}{b:List Value}{m:Sem a}{Q:a->Shared->Prop}(h:wpAny M A m Q E s):wpAny M A (holding b m) Q E s:=wpAny_holding h
theorem AD{a:Type _}{l:List a}{i:Nat}(h:i<l.length):l[i]? =some l[i]:=List.getElem?_eq_getElem h
theorem AE{b:Type _}{a:b}{l:List b}{i:Nat}(h:l[i]? =some a):∃h:i<l.length,l[i]=a:=List.getElem?_eq_some_iff.mp h
theorem AF{n m k:Nat}(h:n<=m)(j:m<=k):n<=k:=Nat.le_trans h j
theorem AG{a:Type _}{c:Type _}{b:List a}(f:a->c):(b.map f).length=b.length:=List.length_map f
theorem AH{n m k:Nat}(h:n<=m)(j:m<k):n<k:=Nat.lt_of_le_of_lt h j
theorem AI{b:Type _}{as a:List b}:(as++a).length=as.length+a.length:=List.length_append
theorem AJ{c:Type _}{a b:c}(h:a ∈ [b]):a=b:=List.mem_singleton.mp h
theorem AK{n m k:Nat}(h:n<m)(j:m<=k):n<k:=Nat.lt_of_lt_of_le h j
theorem AL{c:Type _}{d:Type _}{f:c->d}{a b:List c}:(a++b).map f=a.map f++b.map f:=List.map_append
theorem AM(n:Nat):n<=n:=Nat.le_refl n
theorem AN:false≠true:=Bool.false_ne_true
theorem AO{n m:Nat}(h:n<=m)(k:Nat):k+n<=k+m:=Nat.add_le_add_left h k
theorem AP{n m:Nat}(h:n<=m)(k:Nat):n+k<=m+k:=Nat.add_le_add_right h k
theorem AQ{b:Type _}{a:b}{c:List b}:(a::c).length=c.length+1:=List.length_cons
theorem AR{n m:Nat}(h:n<m):n<=m:=Nat.le_of_lt h
theorem AS{c:Type _}{d:Type _}{b:d}{f:c->d}{l:List c}(h:b ∈ l.map f):∃a,a ∈ l/\f a=b:=List.mem_map.mp h
theorem AT{n m:Nat}(h:n=m):n<=m:=Nat.le_of_eq h
theorem AU(n k:Nat):n<=n+k:=Nat.le_add_right n k
theorem AV{n m k:Nat}(h:n<m)(j:m<k):n<k:=Nat.lt_trans h j
theorem AW{b:Type _}{c:Type _}{f:b->c}{a:b}{l:List b}:(a::l).map f=f a::l.map f:=List.map_cons
theorem AX{b:Type _}{a:b}:[a].length=1:=List.length_singleton
theorem AY{b:Type _}{a:b}{s t:List b}(h:a ∈ s++t):a ∈ s\/a ∈ t:=List.mem_append.mp h
theorem AZ{a:Type _}{b:a}(c:List a){d:List a}(h:b ∈ d):b ∈ c++d:=List.mem_append_right c h
theorem Aa{x y:Bool}(h:(x&&y)=true):x=true/\y=true:=Bool.and_eq_true_iff.mp h
theorem Ab{n m:Nat}(h:n<=m):n.succ<=m.succ:=Nat.succ_le_succ h
theorem Ac{n m:Nat}(k:Nat)(h:n<=m):k*n<=k*m:=Nat.mul_le_mul_left k h
theorem Ad{a b c d:Nat}(h:a<=b)(j:c<=d):a+c<=b+d:=Nat.add_le_add h j
theorem Ae{c:Type _}{b:c}{l:List c}{a:c}(h:a ∈ b::l):a=b\/a ∈ l:=List.mem_cons.mp h
theorem Af{a:Type _}(p:a->Bool)(l:List a):(l.filter p).length<=l.length:=List.length_filter_le p l
theorem Ag(n m k:Nat):n+m+k=n+k+m:=Nat.add_right_comm n m k
theorem Ah{b:Type _}(a:List b):a++[]=a:=List.append_nil a
theorem Ai(n:Nat):0<=(n:Int):=Int.natCast_nonneg n
theorem cE_l{b:Type _}{motive:List b->Prop}(t:List b)(nil:motive [])(cons:∀a l,motive (a::l)):motive t:=match t with |[]=>nil |a::l=>cons a l
theorem cE_b{motive:Bool->Prop}(t:Bool)(false:motive false)(true:motive true):motive t:=match t with |.false=>false |.true=>true
theorem cE_o{b:Type _}{motive:Option b->Prop}(t:Option b)(none:motive none)(some:∀a,motive (some a)):motive t:=match t with |.none=>none |.some a=>some a
theorem cE_n{motive:Nat->Prop}(t:Nat)(zero:motive 0)(succ:∀n,motive (n+1)):motive t:=match t with |.zero=>zero |.succ n=>succ n
@[elab_as_elim] theorem rwl{c:Sort _}{a b:c}{p:c->Prop}(h:a=b)(x:p b):p a:=h▸x
@[elab_as_elim] theorem rwr{c:Sort _}{a b:c}{p:c->Prop}(h:b=a)(x:p b):p a:=h▸x
@[elab_as_elim] theorem rwi{a b:Prop}{p:Prop->Prop}(h:a↔b)(x:p b):p a:=propext h▸x
@[elab_as_elim] theorem rwj{a b:Prop}{p:Prop->Prop}(h:b↔a)(x:p b):p a:=propext h▸x
@[elab_as_elim] theorem Ce{motive:Bool->Prop}(t:Bool)(x:t=true->motive true)(y:t=false->motive false):motive t:=match t,x,y with |true,x,_=>x rfl |false,_,y=>y rfl
@[elab_as_elim] theorem EY{motive:Bool->Prop}(t:Bool)(y:t=false->motive false)(x:t=true->motive true):motive t:=Ce t x y
@[elab_as_elim] theorem CK{b:Type _}{motive:Option b->Prop}(t:Option b)(x:t=none->motive none)(y:∀a,t=some a->motive (some a)):motive t:=match t,x,y with |none,x,_=>x rfl |some a,_,y=>y a rfl
@[elab_as_elim] theorem MC{b:Type _}{motive:Option b->Prop}(t:Option b)(y:∀a,t=some a->motive (some a))(x:t=none->motive none):motive t:=CK t x y
@[elab_as_elim] theorem Z1{b:Type _}{motive:List b->Prop}(t:List b)(x:t=[]->motive [])(y:∀a l,t=a::l->motive (a::l)):motive t:=match t,x,y with |[],x,_=>x rfl |a::l,_,y=>y a l rfl
theorem room_lt{u d c:Nat}(h:u+8*d+100<cLine)(a:c<=100):u+c<cLine:=AH (Ad (AU u (8*d)) a) h
theorem room_lt2{u d a c:Nat}(h:u+8*d+100<cLine)(b:a+c<=100):u+a+c<cLine:=by rw[Nat.add_assoc];exact room_lt h b
theorem room_lt0{u d:Nat}(h:u+8*d+100<cLine):u<cLine:=AH (AF (AU u (8*d)) (AU _ 100)) h
theorem WV{b:Type _}{a:b}{o:Option b}{p:Prop}(h:o=none)(e:o=some a):p:=nomatch h.symm.trans e
theorem la{a b c:Nat}(h:a<b)(k:b<=c):a<=c:=AR (AK h k)
theorem mx{a b c:Nat}(h:a<=c)(k:b<=c):max a b<=c:=Nat.max_le.mpr ⟨h,k⟩
theorem mx1{a b c:Nat}(h:a<=c)(k:b<=c):max a b+1<=c+1:=Ab (mx h k)
theorem lr{a b c:Nat}(h:a+b<=c):a<=c:=AF (AU _ _) h
theorem lr1{a b c:Nat}(h:a+b<c):a<c:=AH (AU _ _) h
theorem sb1{l i n:Nat}(h:l-i=n+1):l-(i+1)=n:=by rw[Nat.sub_add_eq,h];rfl
theorem sb2{l i n:Nat}(h:l-i=n+1):n=l-(i+1):=(sb1 h).symm
theorem sb0{l i:Nat}(h:l-i=0)(k:i<=l):i=l:=le_antisymm k (le_of_sub_eq_zero h)
theorem mxa{a b c:Nat}(h:max a b+1<=c):a<=c:=AF (le_max_left a b) (le_of_succ_le h)
theorem mxb{a b c:Nat}(h:max a b+1<=c):b<=c:=AF (le_max_right a b) (le_of_succ_le h)
theorem mxl{a b k c:Nat}:k*a+c<=k*max a b+c:=AP (Ac k (le_max_left a b)) c
theorem mxr{a b k c:Nat}:k*b+c<=k*max a b+c:=AP (Ac k (le_max_right a b)) c
theorem mxl1{a b d k c:Nat}(h:a<=b):k*a+c<=k*max b d+c:=AP (Ac k (AF h (le_max_left b d))) c
theorem mxr1{a b d k c:Nat}(h:a<=b):k*a+c<=k*max d b+c:=AP (Ac k (AF h (le_max_right d b))) c
theorem mx2{a b c d:Nat}(h:a<=c)(k:b<=d):max a b+1<=max c d+1:=Ab (Nat.max_le.mpr ⟨AF h (le_max_left c d),AF k (le_max_right c d)⟩)
theorem lrd{a b c m:Nat}(h:a+b<=c)(k:c<m):a<m:=AH (lr h) k
theorem lrd1{a b c m:Nat}(h:a+b<c)(k:c<=m):a<m:=AK (lr1 h) k
theorem llt{a b c d:Nat}(h:a<b)(k:b<=c)(j:c<=d):a<d:=AK h (AF k j)
theorem lle{a b c d:Nat}(h:a<=b)(k:b<=c)(j:c<=d):a<=d:=AF h (AF k j)
theorem tr1{a b c:Nat}(h:a<=b)(k:b+1<=c):a+1<=c:=AF (Ab h) k
theorem tr2{a b c:Nat}(h:a<=b+1)(k:b<=c):a<=c+1:=AF h (Ab k)
theorem aC{a b c:Nat}(h:a<=b)(k:b+1<=c):a<c:=AH h k
theorem X9{a b c:Nat}(h:a+b+1<c):a+1+b<c:=Ag a 1 b▸h
theorem XT{a b c:Nat}(h:a+(b+1)<c):a+1+b<c:=X9 h
theorem XU{a b c:Nat}(h:a+(b+1)<=c):a+1+b<=c:=Ag a 1 b▸h
theorem Zz{a b c k:Nat}(h:a+(b+1)+k<=c):a+1+b+k<=c:=Ag a 1 b▸h
@[elab_as_elim] theorem Ig{p:Nat->Prop}{a:Nat}(h:a=2\/a=3)(x:p 2)(y:p 3):p a:=h.elim (fun e=>e▸x) fun e=>e▸y
theorem nz{a b:Nat}(h:0<=a/\a<0+b):a<b:=Nat.zero_add b▸h.2
theorem X7{i:Int}{k:Nat}(h:i.natAbs<k):i<k:=by omega
theorem U8{i:Int}{k:Nat}(h:i.natAbs<k):-(k:Int)<i:=Int.neg_lt_of_neg_lt (Int.lt_of_le_of_lt (Int.natAbs_neg i▸Int.le_natAbs) (Int.ofNat_lt.mpr h))
theorem ZW{i:Int}{k:Nat}(h:0<=i)(a:i<k):i.natAbs<k:=Int.ofNat_lt.mp ((Int.natAbs_of_nonneg h).symm▸a)
theorem leb{n m:Nat}(h:ble n m=true):n<=m:=Nat.le_of_ble_eq_true h
theorem ltb{n m:Nat}(h:ble (n+1) m=true):n<m:=Nat.le_of_ble_eq_true h
def nd(k:String)(l:List Lean.Syntax):Lean.Syntax:=.node .none k.toName l.toArray
def bl(a:List Lean.Syntax)(s:String):Lean.Syntax:=((((s.replace "%" "null~1 #actic.tacticSeq1Indented~1 #actic.tacticSeq~1").replace "#" "Lean.Parser.T").splitOn " ").foldl (fun st t=>
 let p:=t.splitOn "~";let h:=p.head!;let x:=p.getLast!
 if h== "a" then .atom .none x::st else if h== "i" then(Lean.mkIdent x.toName).raw::st else if h== "s" then a[x.toNat!]! ::st else
  nd h (st.take x.toNat!).reverse::st.drop x.toNat!) []).head!
def fi(l:List Lean.Syntax):Lean.Syntax:=bl [nd "null" (l.map fun t=>bl [t] "a~| s~0 % group~2")] "a~first s~0 #actic.first~2"
def mp(f:String->Lean.Syntax)(s:String):List Lean.Syntax:=(s.splitOn ",").map f
def ex(q:String):Lean.Syntax:=
 let l:=q.splitOn " "
 bl [] ("a~exact i~" ++l.head! ++String.join (l.tail.map fun p=>if p== "a" then " a~by a~assumption #actic.assumption~1 % #erm.byTactic~2" else if p== "d" then " a~by a~decide null~0 #actic.optConfig~1 #actic.decide~2 % #erm.byTactic~2" else if p== "e" then " a~.. #erm.ellipsis~1" else " a~_ #erm.hole~1")++ " null~" ++toString (l.length-1)++ " #erm.app~2 #actic.exact~2")
def om:Lean.Syntax:=
 fi (bl [fi (bl [] "a~assumption #actic.assumption~1" ::mp ex "Nat.le_of_lt a,Mine.Internal.la a a,Nat.ne_of_lt a,Nat.ne_of_gt a,Nat.le_refl _,Nat.le_add_right _ _,Nat.le_add_left _ _,Nat.lt_succ_self _,Nat.lt_add_left _ d,Nat.lt_add_of_pos_right d,Nat.le_trans a a,Nat.lt_of_lt_of_le a a,Nat.lt_of_le_of_lt a a,Nat.lt_of_le_of_lt a d,Nat.lt_of_lt_of_le a d,Nat.le_trans a d,Nat.lt_irrefl _ a,Nat.succ_le_succ a,Nat.add_le_add_right a _,Nat.add_le_add_left a _,Mine.Internal.mx a a,Mine.Internal.mx1 a a,Mine.Internal.lr a,Mine.Internal.lr1 a,Nat.lt_of_succ_lt a,Nat.le_of_succ_le a,Mine.Internal.room_lt a d,Mine.Internal.room_lt2 a d,Mine.Internal.room_lt0 a,Nat.lt_of_sub_eq_succ a,Mine.Internal.sb1 a,Mine.Internal.sb2 a,Mine.Internal.sb0 a a,Mine.Internal.mxa a,Mine.Internal.mxb a,Mine.Internal.mxl e,Mine.Internal.mxr e,Mine.Internal.mxl1 a,Mine.Internal.mxr1 a,Mine.Internal.mx2 a a,Mine.Internal.lrd a d,Mine.Internal.lrd1 a d,Mine.Internal.tr1 a a,Mine.Internal.tr2 a a,Mine.Internal.llt a a a,Mine.Internal.lle a a a")] "a~with_reducible s~0 % #actic.withReducible~2" ::
  mp ex "Nat.lt_of_le_of_lt a d,Nat.lt_of_lt_of_le a d,Nat.lt_succ_self _,Nat.lt_of_lt_of_le a a,Mine.Internal.lrd a d,Mine.Internal.lrd1 a d" ++[bl [] "a~lia null~0 #actic.optConfig~1 #actic.lia~2"])
def Z7(s:Lean.Syntax):Lean.MacroM Lean.Syntax:=
 if s[1][0].getNumArgs != 0 then Lean.Macro.throwUnsupported else return fi (mp (bl []) "a~exact i~Mine.Internal.ltb i~rfl null~1 #erm.app~2 #actic.exact~2,a~exact i~Mine.Internal.leb i~rfl null~1 #erm.app~2 #actic.exact~2,a~decide a~- i~revert #actic.negConfigItem~2 #actic.configItem~1 null~1 #actic.optConfig~1 #actic.decide~2")
def aA(s:Lean.Syntax):Lean.MacroM Lean.Syntax:=
 let t:=s[1][0];let e:=t[1];let a:=s[3];let b:=e::["q", "r", "t"].map fun x=>(Lean.mkIdent (e.getId.appendAfter x)).raw
 if !t[0].isNone|| !s[2].isNone||s[1].getNumArgs != 1|| !(if a.isNone then e.isIdent else !e.isOfKind ``Lean.Parser.Term.paren)then Lean.Macro.throwUnsupported else
 return fi ((if a.isNone then mp (bl [e]) "a~subst s~0 null~1 #actic.subst~2,a~( a~exfalso #actic.tacticExfalso~1 a~; a~injection s~0 null~0 #actic.injection~3 a~; a~done #actic.done~1 null~5 #actic.tacticSeq1Indented~1 #actic.tacticSeq~1 a~) #actic.paren~3"
   ++mp (fun q=>bl b ("a~( a~have null~0 #erm.letConfig~1 s~1 #erm.letId~1 null~0 null~0 a~:= i~" ++q++ ".inj s~0 null~1 #erm.app~2 #erm.letIdDecl~5 #erm.letDecl~1 #actic.tacticHave__~3 a~; a~try a~clear s~0 null~1 #actic.clear~2 a~; a~cases null~0 s~1 #actic.elimTarget~2 null~1 null~0 null~0 #actic.cases~4 null~3 #actic.tacticSeq1Indented~1 #actic.tacticSeq~1 #actic.tacticTry_~2 null~3 #actic.tacticSeq1Indented~1 #actic.tacticSeq~1 a~) #actic.paren~3")) "Option.some,Mine.Internal.V.int,Mine.Internal.V.tup,Mine.Internal.V.str,Mine.Internal.V.loc,Mine.Internal.V.bool,Mine.Internal.HO.list,Mine.Internal.HO.dict,Except.ok"
   ++mp (fun q=>bl b ("a~( a~have null~0 #erm.letConfig~1 s~1 #erm.letId~1 null~0 null~0 a~:= i~" ++q++ ".inj s~0 null~1 #erm.app~2 #erm.letIdDecl~5 #erm.letDecl~1 #actic.tacticHave__~3 a~; a~try a~clear s~0 null~1 #actic.clear~2 a~; a~have null~0 #erm.letConfig~1 s~2 #erm.letId~1 null~0 null~0 a~:= s~1 a~. a~1 fieldIdx~1 #erm.proj~3 #erm.letIdDecl~5 #erm.letDecl~1 #actic.tacticHave__~3 a~; a~have null~0 #erm.letConfig~1 s~3 #erm.letId~1 null~0 null~0 a~:= s~1 a~. a~2 fieldIdx~1 #erm.proj~3 #erm.letIdDecl~5 #erm.letDecl~1 #actic.tacticHave__~3 a~; a~clear s~1 null~1 #actic.clear~2 a~; a~cases null~0 s~2 #actic.elimTarget~2 null~1 null~0 null~0 #actic.cases~4 a~; a~cases null~0 s~3 #actic.elimTarget~2 null~1 null~0 null~0 #actic.cases~4 null~11 #actic.tacticSeq1Indented~1 #actic.tacticSeq~1 #actic.tacticTry_~2 null~3 #actic.tacticSeq1Indented~1 #actic.tacticSeq~1 a~) #actic.paren~3")) "List.cons,Prod.mk" else[])
  ++mp (fun q=>bl [e,a] ("a~induction null~0 s~0 #actic.elimTarget~2 null~1 a~using i~" ++q++ " null~2 null~0 s~1 #actic.induction~5")) "Mine.Internal.cE_l,Mine.Internal.cE_b,Mine.Internal.cE_o,Mine.Internal.cE_n,Mine.Internal.V.casesOn,PySem.Expr.casesOn,PySem.Stmt.casesOn"
  ++mp (bl [e,a]) "a~induction null~0 s~0 #actic.elimTarget~2 null~1 null~0 null~0 s~1 #actic.induction~5,a~cases null~0 a~( i~ hygieneInfo~1 #erm.hygienicLParen~2 s~0 a~) #erm.paren~3 #actic.elimTarget~2 null~1 null~0 s~1 #actic.cases~4")
def Z3(s:Lean.Syntax):Lean.MacroM Lean.Syntax:=
 if !s[3].isNone then Lean.Macro.throwUnsupported else
 return bl [nd "null" ((s[2][1].getSepArgs.toList.map fun r=>
  let n:=if r[0].isNone then "Mine.Internal.rwl" else "Mine.Internal.rwr"
  let m:=if r[0].isNone then "Mine.Internal.rwi" else "Mine.Internal.rwj"
  [fi [bl [fi (mp (bl [r[1]]) ("a~refine i~" ++n++ " s~0 a~? a~_ #erm.syntheticHole~2 null~2 #erm.app~2 #actic.refine~2,a~refine i~" ++n++ " s~0 a~.. #erm.ellipsis~1 null~1 #erm.app~2 a~? a~_ #erm.syntheticHole~2 null~2 #erm.app~2 #actic.refine~2,a~refine i~" ++m++ " s~0 a~.. #erm.ellipsis~1 null~1 #erm.app~2 a~? a~_ #erm.syntheticHole~2 null~2 #erm.app~2 #actic.refine~2"))] "a~with_reducible_and_instances s~0 % #actic.withReducibleAndInstances~2",
   bl [r] "a~rewrite null~0 #actic.optConfig~1 a~[ s~0 null~1 a~] #actic.rwRuleSeq~3 null~0 #actic.rewriteSeq~4"],.atom .none ";"]).flatten++[bl [] "a~try a~with_reducible a~rfl #actic.tacticRfl~1 % #actic.withReducible~2 % #actic.tacticTry_~2"])] "a~( s~0 #actic.tacticSeq1Indented~1 #actic.tacticSeq~1 a~) #actic.paren~3"
def Zv(s:Lean.Syntax):Lean.MacroM Lean.Syntax:=
 if s[0][4].isNone&&(s[1].isOfKind ``Lean.Parser.Command.definition||s[1].isOfKind ``Lean.Parser.Command.abbrev)then return s.setArg 0 (s[0].setArg 4 (bl [] "a~noncomputable Lean.Parser.Command.noncomputable~1 null~1"))else Lean.Macro.throwUnsupported
def rf:Lean.Syntax:=bl [] "a~rfl #actic.tacticRfl~1 null~1 #actic.tacticSeq1Indented~1 #actic.tacticSeq~1"
def dc:Lean.Syntax:=bl [] "a~decide null~0 #actic.optConfig~1 #actic.decide~2 null~1 #actic.tacticSeq1Indented~1 #actic.tacticSeq~1"
def wl:Lean.Syntax:=bl [] "a~conv null~0 null~0 a~=> a~whnf #actic.Conv.whnf~1 null~1 #actic.Conv.convSeq1Indented~1 #actic.Conv.convSeq~1 #actic.Conv.conv~5"
def wd(s:Lean.Syntax):Lean.Syntax:=fi (mp (bl [s[1],wl]) "a~refine i~Mine.Internal.objA_i s~0 a~? a~_ #erm.syntheticHole~2 null~2 #erm.app~2 #actic.refine~2,a~refine i~Mine.Internal.tg_i s~0 a~fun a~_ #erm.hole~1 null~1 null~0 a~=> a~? a~_ #erm.syntheticHole~2 #erm.basicFun~4 #erm.fun~2 null~2 #erm.app~2 #actic.refine~2,a~( s~1 a~; a~rw null~0 #actic.optConfig~1 a~[ null~0 s~0 #actic.rwRule~2 null~1 a~] #actic.rwRuleSeq~3 null~0 #actic.rwSeq~4 null~3 #actic.tacticSeq1Indented~1 #actic.tacticSeq~1 a~) #actic.paren~3")
local macro_rules (kind := Lean.Parser.Tactic.omega) | _s => return om
local macro_rules (kind := Lean.Parser.Tactic.cases) | s => aA s
local macro_rules (kind := Lean.Parser.Tactic.rwSeq) | s => Z3 s
local macro_rules (kind := Lean.Parser.Tactic.decide) | s => Z7 s
local macro_rules (kind := Lean.Parser.Command.declaration) | s => Zv s
variable {n k:Nat}
variable {x:Value}
variable {a:List Value}
variable {t:List Int}
variable {S:List (List Int)}
variable {Q:Value->Shared->Prop}
variable {b:Addr}
variable {e:Expr}
variable {i:Int}
variable {y:Str}
variable {h:Heap}
variable {c:List (Str×NameKind)}
variable {p:Nat->Bool}
variable {f:String}
variable {d:List Expr}
variable {g:Unit->Shared->Prop}
variable {j:Option Value->Shared->Prop}
variable {q:Pos}
variable {s:Bool}
variable {u:List DictEntry}
variable {A:Shared}
variable {T:List Bool}
variable {D:List Comprehension}
variable {W:Nat->Prop}
variable {P:Addr->Prop}
variable {O:SetTable}
variable {R:Bool->Shared->Prop}
variable {U:Array (Int×Value)}
variable {Y:World}
variable {Z:Addr->Option (List Value)}
variable {i0:List Nat}
variable {j0:Bool->Bool}
variable {u0:Result->Shared->Prop}
variable {y0:Comprehension}
variable {j1:Array Nat}
variable {j2:List Stmt}
variable {j3:Option Nat->Shared->Prop}
variable {z3:Around}
variable {i4:Bool->Prop}
variable {m4:List Str}
variable {u4:Array DictEntry}
variable {z4:Option Addr}
variable {i5:Program}
variable {m5:List (Option Expr)}
variable {u5:Str->Option Value}
variable {u6:Sem Value}
variable {z6:Nat×Array Nat->Shared->Prop}
variable {c7:Option Value}
variable {d7:Nat->Shared->Prop}
variable {i7:Option (List Int)}
variable {m7:Array Value}
variable {q7:Nat->Int}
variable {r7:List CmpOp}
variable {u7:Array Nat->Shared->Prop}
variable {v7:List Int->Bool}
variable {w7:List (Bool×Sem Value)}
variable {c8:Int->Bool}
variable {d8:List Int×Int}
variable {f8:List Int->Int}
variable {i8:Str->Option NameKind}
variable {j8:Option Expr}
inductive EC{a:Type}(p:a->Prop):Prop
 |mk (b:a) (h:p b):EC p
inductive Dd{a b:Type}(p:a->b->Prop):Prop
 |mk (c:a) (d:b) (h:p c d):Dd p
inductive Ks{a b c:Type}(p:a->b->c->Prop):Prop
 |mk (d:a) (e:b) (f:c) (h:p d e f):Ks p
inductive Vn{a b c d:Type}(p:a->b->c->d->Prop):Prop
 |mk (e:a) (f:b) (g:c) (i:d) (h:p e f g i):Vn p
inductive YK{a b c d e:Type}(p:a->b->c->d->e->Prop):Prop
 |mk (f:a) (g:b) (i:c) (j:d) (k:e) (h:p f g i j k):YK p
inductive Zc{a b c d e f:Type}(p:a->b->c->d->e->f->Prop):Prop
 |mk (g:a) (i:b) (j:c) (k:d) (l:e) (m:f) (h:p g i j k l m):Zc p
inductive ZY{a b c d e f g:Type}(p:a->b->c->d->e->f->g->Prop):Prop
 |mk (i:a) (j:b) (k:c) (l:d) (m:e) (n:f) (o:g) (h:p i j k l m n o):ZY p
inductive ZZ{a b c d e f g i:Type}(p:a->b->c->d->e->f->g->i->Prop):Prop
 |mk (j:a) (k:b) (l:c) (m:d) (n:e) (o:f) (q:g) (r:i) (h:p j k l m n o q r):ZZ p
inductive ZS{a b c d e f g i j:Type}(p:a->b->c->d->e->f->g->i->j->Prop):Prop
 |mk (k:a) (l:b) (m:c) (n:d) (o:e) (q:f) (r:g) (s:i) (t:j) (h:p k l m n o q r s t):ZS p
inductive XJ{g i j k l m n o q r a b c:Type}(p:g->i->j->k->l->m->n->o->q->r->a->b->c->Prop):Prop
 |mk (s:g) (t:i) (u:j) (v:k) (w:l) (x:m) (y:n) (z:o) (A:q) (B:r) (d:a) (e:b) (f:c) (h:p s t u v w x y z A B d e f):XJ p
inductive EU(a b:Prop):Prop
 |mk (c:a) (d:b):EU a b
inductive DD(a b c:Prop):Prop
 |mk (d:a) (e:b) (f:c):DD a b c
inductive KT(a b c d:Prop):Prop
 |mk (e:a) (f:b) (g:c) (h:d):KT a b c d
inductive QZ(a b c d e:Prop):Prop
 |mk (f:a) (g:b) (h:c) (i:d) (j:e):QZ a b c d e
inductive WC(a b c d e f:Prop):Prop
 |mk (g:a) (h:b) (i:c) (j:d) (k:e) (l:f):WC a b c d e f
inductive UV(a b c d e f g:Prop):Prop
 |mk (h:a) (i:b) (j:c) (k:d) (l:e) (m:f) (n:g):UV a b c d e f g
inductive ZQ(a b c d e f g h:Prop):Prop
 |mk (i:a) (j:b) (k:c) (l:d) (m:e) (n:f) (o:g) (p:h):ZQ a b c d e f g h
inductive Xx(a b c d e f g h i:Prop):Prop
 |mk (j:a) (k:b) (l:c) (m:d) (n:e) (o:f) (p:g) (q:h) (r:i):Xx a b c d e f g h i
inductive Vc(a b c d e f g h i j:Prop):Prop
 |mk (k:a) (l:b) (m:c) (n:d) (o:e) (p:f) (q:g) (r:h) (s:i) (t:j):Vc a b c d e f g h i j
inductive Yu(b c d e f g h i j k a:Prop):Prop
 |mk (m:b) (n:c) (o:d) (p:e) (q:f) (r:g) (s:h) (t:i) (u:j) (v:k) (l:a):Yu b c d e f g h i j k a
inductive Xd(c d e f g h i j k l a b:Prop):Prop
 |mk (o:c) (p:d) (q:e) (r:f) (s:g) (t:h) (u:i) (v:j) (w:k) (x:l) (m:a) (n:b):Xd c d e f g h i j k l a b
theorem Cr{b:Type}{r:List b}(h:r.length=n+1):Dd fun a t=>EU (r=a::t) (t.length=n):=by
 cases r with
 |nil=>cases h
 |cons a t=>exact⟨a,t,rfl,Nat.succ.inj h⟩
inductive V where
 |none
 |bool (b:Bool)
 |int (i:Int)
 |str (x:Str)
 |tup (l:List V)
 |loc (n:Nat)
 |ty (t:String)
variable {l:List V}
variable {v:V}
variable {m:List (V×V)}
variable {o:List (Str×V)}
variable {j4:List V->List V->Prop}
variable {i6:Str×Option V}
variable {s7:V->Prop}
inductive HO where
 |list (l:List V)
 |dict (l:List (V×V))
 |inst (c:String) (fs:List (Str×V))
 |set (l:List V)
 |items (n:Nat)
 |range (a b c:Int)
 |flist (l:List V)
variable {L:HO}
variable {j7:HO->Prop}
theorem N3{y:Value}(h:beq x.ctorIdx y.ctorIdx=false){p:Prop}(e:x=y):p:=by
 subst e;rw[beq_refl]at h;exact absurd h.symm AN
theorem aB{y:V}(h:beq v.ctorIdx y.ctorIdx=false){p:Prop}(e:v=y):p:=by
 subst e;rw[beq_refl]at h;exact absurd h.symm AN
theorem aD{y:HO}(h:beq L.ctorIdx y.ctorIdx=false){p:Prop}(e:L=y):p:=by
 subst e;rw[beq_refl]at h;exact absurd h.symm AN
set_option genInjectivity false
abbrev Aj:=List HO
variable {H:Aj}
variable {r:List V->(Aj->Prop)->Aj->Prop}
variable {w:V->HO->Aj->(HO->Aj->Prop)->Prop}
variable {z:V->Aj->Prop}
variable {K:Aj->Prop}
variable {N:HO->Aj->Prop}
variable {t0:Bool->Aj->Prop}
abbrev BA:=List (Str×Option V)
variable {B:BA->HO->Aj->(HO->Aj->Prop)->Prop}
variable {E:BA}
variable {F:BA->Prop}
variable {I:BA->Aj->Prop}
variable {w5:V->BA->Aj->(BA->Aj->Prop)->Prop}
structure Gh where
 tup:Addr->Option (List Value)
 loc:Nat->Option Addr
 aux:Nat->Option Addr
variable {G:Gh}
def Gh.isLoc(G:Gh)(b:Addr):Prop:=(∃n,G.loc n=some b)\/(∃n,G.aux n=some b)
structure Gh.Le(G G':Gh):Prop where
 tup:∀a vs,G.tup a=some vs->G'.tup a=some vs
 loc:∀n a,G.loc n=some a->G'.loc n=some a
 aux:∀n a,G.aux n=some a->G'.aux n=some a
theorem Gh.Le.refl(G:Gh):G.Le G:=⟨fun a a e=>e,fun a a e=>e,fun a a e=>e⟩
theorem Gh.Le.trans{d b:Gh}(h:G.Le d)(c:d.Le b):G.Le b:=
 ⟨fun a f e=>c.tup a f (h.tup a f e),fun n a e=>c.loc n a (h.loc n a e),fun n a e=>c.aux n a (h.aux n a e)⟩
theorem Gh.Le.isLoc{a:Gh}(h:G.Le a)(x:G.isLoc b):a.isLoc b:=
 x.imp (by rintro⟨n,e⟩;exact⟨n,h.loc n b e⟩) (by rintro⟨n,e⟩;exact⟨n,h.aux n b e⟩)
mutual
inductive VR (G:Gh):V->Value->Prop
 |none:VR G .none .none
 |bool (b:Bool):VR G (.bool b) (.bool b)
 |int (i:Int) (t:Tok):VR G (.int i) (.int i t)
 |str (x:Str) (t:Tok):VR G (.str x) (.str x t)
 |tup {l:List V} {a:Addr} {vs:List Value}:G.tup a=some vs->BJ G l vs->VR G (.tup l) (.ref a)
 |loc {n:Nat} {a:Addr}:G.loc n=some a->VR G (.loc n) (.ref a)
 |ty (t:String):VR G (.ty t) (.type t)
inductive BJ (G:Gh):List V->List Value->Prop
 |nil:BJ G [] []
 |cons {v:V} {x:Value} {vs:List V} {xs:List Value}:VR G v x->BJ G vs xs->BJ G (v::vs) (x::xs)
end
theorem BJ.ind{p:List V->List Value->Prop}(nil:p [] [])(cons:∀ {v x l a},VR G v x->BJ G l a->p l a->p (v::l) (x::a))(r:BJ G l a):p l a:=
 BJ.rec (motive_1:=fun b b b=>True) (motive_2:=fun v x b=>p v x) trivial (fun b=>trivial) (fun b b=>trivial) (fun b b=>trivial) (fun b b b=>trivial) (fun b=>trivial) (fun b=>trivial) nil (fun c r b d=>cons c r d) r
theorem VR.le{b:Gh}(h:G.Le b)(r:VR G v x):VR b v x:=
 VR.rec (motive_1:=fun v x c=>VR b v x) (motive_2:=fun v x c=>BJ b v x) .none .bool .int .str (fun e c r=>.tup (h.tup _ _ e) r) (fun e=>.loc (h.loc _ _ e)) .ty .nil (fun c c a r=>.cons a r) r
theorem BJ.le{c:Gh}(h:G.Le c)(r:BJ G l a):BJ c l a:=
 r.ind .nil fun b d r=>.cons (b.le h) r
theorem BJ.length(r:BJ G l a):l.length=a.length:=
 r.ind (p:=fun l a=>l.length=a.length) rfl fun b b e=>congrArg (· + 1) e
theorem BJ.get(r:BJ G l a):∀{i:Nat}{v:V},l[i]? =some v->∃x,a[i]? =some x/\VR G v x:=
 r.ind (p:=fun l a=>∀{i:Nat}{v:V},l[i]? =some v->∃x,a[i]? =some x/\VR G v x) (fun e=>nomatch e) fun{_ x _ _} b _ c {i} _ e=>by
  cases i with
  |zero=>cases e;exact⟨x,rfl,b⟩
  |succ i=>exact c (i:=i) e
theorem BJ.get'(r:BJ G l a):∀{i:Nat}{x:Value},a[i]? =some x->∃v,l[i]? =some v/\VR G v x:=
 r.ind (p:=fun l a=>∀{i:Nat}{x:Value},a[i]? =some x->∃v,l[i]? =some v/\VR G v x) (fun e=>nomatch e) fun{v _ _ _} b _ c {i} _ e=>by
  cases i with
  |zero=>cases e;exact⟨v,rfl,b⟩
  |succ i=>exact c (i:=i) e
theorem BJ.append{c:List V}{d:List Value}(r:BJ G l a)(e:BJ G c d):BJ G (l++c) (a++d):=
 r.ind (p:=fun l a=>BJ G (l++c) (a++d)) e fun b f r=>.cons b r
theorem BJ.take(r:BJ G l a):∀n:Nat,BJ G (l.take n) (a.take n):=
 r.ind (p:=fun l a=>∀n:Nat,BJ G (l.take n) (a.take n)) (fun n=>by rw[List.take_nil,List.take_nil];exact .nil) fun b d c n=>by
  cases n with
  |zero=>exact .nil
  |succ n=>exact .cons b (c n)
theorem BJ.drop(r:BJ G l a):∀n:Nat,BJ G (l.drop n) (a.drop n):=
 r.ind (p:=fun l a=>∀n:Nat,BJ G (l.drop n) (a.drop n)) (fun n=>by rw[List.drop_nil,List.drop_nil];exact .nil) fun b r c n=>by
  cases n with
  |zero=>exact .cons b r
  |succ n=>exact c n
theorem BJ.reverse(r:BJ G l a):BJ G l.reverse a.reverse:=
 r.ind (p:=fun l a=>BJ G l.reverse a.reverse) .nil fun b c r=>by rw[reverse_cons,reverse_cons];exact r.append (.cons b .nil)
inductive Pd:Nat->V->Prop
 |int (n:Nat) (i:Int):Pd n (.int i)
 |str (n:Nat) (x:Str):Pd n (.str x)
 |tup {n:Nat} {l:List V}:(∀v∈l,Pd n v)->Pd (n+1) (.tup l)
inductive Vv(G:Gh)(l:List V):Value->Prop
 |mk (a:Addr) (b:List Value):G.tup a=some b->BJ G l b->Vv G l (.ref a)
inductive Oa(G:Gh)(v:V)(l:List V):List Value->Prop
 |mk (x:Value) (a:List Value):VR G v x->BJ G l a->Oa G v l (x::a)
def Zp(G:Gh)(x:Value)(v:V):Prop:=v.casesOn (x=.none) (fun b=>x=.bool b) (fun i=>∃t,x=.int i t) (fun s=>∃t,x=.str s t) (fun l=>Vv G l x) (fun n=>∃a,G.loc n=some a/\x=.ref a) (fun t=>x=.type t)
theorem VR.inv(r:VR G v x):Zp G x v:=VR.casesOn (motive_1:=fun v x a=>Zp G x v) r rfl (fun a=>rfl) (fun a t=>⟨t,rfl⟩) (fun a t=>⟨t,rfl⟩) (fun e r=>⟨_,_,e,r⟩) (fun e=>⟨_,e,rfl⟩) (fun a=>rfl)
theorem BJ.inv(r:BJ G l a):l.casesOn (motive:=fun d=>Prop) (a=[]) (fun v l=>Oa G v l a):=BJ.casesOn (motive_2:=fun l a d=>l.casesOn (motive:=fun d=>Prop) (a=[]) (fun v l=>Oa G v l a)) r rfl fun c b=>⟨_,_,c,b⟩
theorem VR.tup_l(r:VR G (.tup l) x):Vv G l x:=r.inv
theorem BJ.cons_l(r:BJ G (v::l) a):Oa G v l a:=r.inv
theorem BJ.nil_l(r:BJ G [] a):a=[]:=r.inv
theorem VR.none_l(r:VR G .none x):x=.none:=r.inv
theorem VR.bool_l(r:VR G (.bool s) x):x=.bool s:=r.inv
theorem VR.ty_l(r:VR G (.ty f) x):x=.type f:=r.inv
theorem VR.loc_l(r:VR G (.loc n) x):∃a,G.loc n=some a/\x=.ref a:=r.inv
theorem VR.int_l(r:VR G (.int i) x):∃t,x=.int i t:=r.inv
theorem VR.str_l(r:VR G (.str y) x):∃t,x=.str y t:=r.inv
inductive PV(G:Gh):Nat->V->Value->Prop
 |int (n:Nat) (i:Int) (t:Tok):PV G n (.int i) (.int i t)
 |str (n:Nat) (i:Str) (t:Tok):PV G n (.str i) (.str i t)
 |tup (n:Nat) (l:List V) (a:Addr) (b:List Value):(∀v∈l,Pd n v)->G.tup a=some b->BJ G l b->PV G (n+1) (.tup l) (.ref a)
theorem Pd.view(p:Pd n v)(r:VR G v x):PV G n v x:=by
 cases p with
 |int n i=>obtain⟨t,rfl⟩:=r.int_l;exact .int _ _ _
 |str n i=>obtain⟨t,rfl⟩:=r.str_l;exact .str _ _ _
 |tup p=>obtain⟨a,c,e,b⟩:=r.tup_l;exact .tup _ _ _ _ p e b
def kh(w:World):V->Int
 |.int i=>hashInt i
 |.str x=>hashStr w x
 |.tup l=>reduceHash (Builtin.Tuple.tupleHashOf (khs w l))
 |_=>0
where khs (w:World):List V->List Int
 |[]=>[]
 |v::r=>kh w v::khs w r
inductive ER(w:World)(G:Gh):List (V×V)->List DictEntry->Prop
 |nil:ER w G [] []
 |cons {k v:V} {e:DictEntry} {a:List (V×V)} {b:List DictEntry}:Pd 8 k->e.hash=kh w k->VR G k e.key->VR G v e.val->ER w G a b->ER w G ((k,v)::a) (e::b)
theorem ER.le{c:Gh}(h:G.Le c)(r:ER Y G m u):ER Y c m u:=by
 induction r with
 |nil=>exact .nil
 |cons p q a b _ d=>exact .cons p q (a.le h) (b.le h) d
theorem ER.length(r:ER Y G m u):m.length=u.length:=by
 induction r with
 |nil=>rfl
 |cons _ _ _ _ _ a=>exact congrArg (· + 1) a
inductive ML(G:Gh):List (Str×V)->List DictEntry->Prop
 |nil:ML G [] []
 |cons {x:Str} {t:Tok} {v:V} {e:DictEntry} {a:List (Str×V)} {b:List DictEntry}:e.key=.str x t->VR G v e.val->ML G a b->ML G ((x,v)::a) (e::b)
theorem ML.le{b:Gh}(h:G.Le b)(r:ML G o u):ML b o u:=by
 induction r with
 |nil=>exact .nil
 |cons e a _ c=>exact .cons e (a.le h) c
theorem ML.length(r:ML G o u):o.length=u.length:=by
 induction r with
 |nil=>rfl
 |cons _ _ _ a=>exact congrArg (· + 1) a
structure Cx where
 prog:Program
 w:World
 base:Heap
 K:Frag
 mg:Str->Option Value
 mb:Str->Option Value
 fn:String->Addr
 cls:String->Addr
 gtup:Addr->Option (List Value)
 fz:Addr->Option Obj
def Lb(a:Array Nat):Prop:=a.toList.Pairwise (· < ·)
structure MN{K:Type}[DecidableEq K]{prog:Program}(w:World)(knd:KeyKind prog w K)(S:K->Bool)(es:Array (Int×Value))(t:SetTable):Prop where
 el:ElemsOf knd es.toList
 mem:∀k,S k=true↔∃e∈es.toList,knd.is k e.2=true
 lt:es.size<scanBound
 fits:t.fits es.size=true
 up:Lb t.place
 led:w.params.followText "set-order" =true\/t.led=true
inductive Cq{K:Type}[DecidableEq K]{prog:Program}{w:World}(b:KeyKind prog w K)(h:Heap)(a:Addr)(S:K->Bool)(n:Nat):Prop
 |mk (o:Obj) (c:Array (Int×Value)) (ep:Nat) (t:SetTable):h.get? a=some o->o.ExactSet->o.data=.set c ep t->c.size=n->MN w b S c t->Cq b h a S n
def SR(prog:Program)(w:World)(h:Heap)(a:Addr)(l:List V):Prop:=
 (∃b:List Int,l=b.map V.int/\b.Nodup/\Cq (intKind prog w) h a (fun k=>b.contains k) b.length) \/
 (∃c:List Str,l=c.map V.str/\c.Nodup/\Cq (PySem.strKind prog w) h a (fun k=>c.contains k) c.length)
theorem Cq.at{K:Type}[DecidableEq K]{a:KeyKind i5 Y K}{c:Heap}{S:K->Bool}(x:Cq a h b S n)(k:∀o,h.get? b=some o->c.get? b=some o):Cq a c b S n:=by
 obtain⟨o,d,ep,t,e,f,g,i,j⟩:=x;exact⟨o,d,ep,t,k o e,f,g,i,j⟩
theorem SR.at{c:Heap}(x:SR i5 Y h b l)(k:∀o,h.get? b=some o->c.get? b=some o):SR i5 Y c b l:=
 x.imp (by rintro⟨a,e,n,y⟩;exact⟨a,e,n,y.at k⟩) (by rintro⟨a,e,n,y⟩;exact⟨a,e,n,y.at k⟩)
def LI(h:Heap)(a:Addr)(b:List Value):Prop:=h.IsList a b.toArray/\∀o,h.get? a=some o->o.dict=none
theorem LI.at{c:Heap}(x:LI h b a)(k:∀o,h.get? b=some o->c.get? b=some o):LI c b a:=
 ⟨x.1.at k,fun o e=>by
  obtain⟨f,d,_⟩:=x.1;have:=k f d;rw[e]at this;cases this;exact x.2 o d⟩
inductive ZF(G:Gh)(h:Heap)(n:Nat)(l:List V):Prop
 |mk (a:Addr) (b:List Value):G.loc n=some a->G.aux n=none->LI h a b->BJ G l b->ZF G h n l
inductive ZT(X:Cx)(G:Gh)(h:Heap)(n:Nat)(l:List (V×V)):Prop
 |mk (a:Addr) (o:Obj) (b:Array DictEntry) (k:Nat):G.loc n=some a->G.aux n=none->h.get? a=some o->o.ExactDict->o.data=.dict b k->ER X.w G l b.toList->(l.map (·.1)).Nodup->ZT X G h n l
inductive Zl(X:Cx)(G:Gh)(h:Heap)(n:Nat)(c:String)(d:List (Str×V)):Prop
 |mk (a b:Addr) (o:Obj) (e:Array DictEntry) (k:Nat):G.loc n=some a->G.aux n=some b->h.get? a=some (instObj (X.cls c) b)->h.get? b=some o->o.data=.dict e k->ML G d e.toList->Zl X G h n c d
inductive Zt(X:Cx)(G:Gh)(h:Heap)(n:Nat)(l:List V):Prop
 |mk (a:Addr) (o:Obj):G.loc n=some a->G.aux n=none->h.get? a=some o->SR X.prog X.w h a l->Zt X G h n l
inductive Zf(G:Gh)(h:Heap)(n m:Nat):Prop
 |mk (a:Addr) (o:Obj) (d:Addr):G.loc n=some a->G.aux n=none->h.get? a=some o->o.cls=.type "dict_items" ->o.data=.fields #[.ref d]->G.loc m=some d->Zf G h n m
inductive Zk(G:Gh)(h:Heap)(n:Nat)(i j k:Int):Prop
 |mk (a:Addr) (t u v:Tok):G.loc n=some a->G.aux n=none->IsRange h a i j k t u v->Zk G h n i j k
inductive Zj(X:Cx)(G:Gh)(h:Heap)(n:Nat)(l:List V):Prop
 |mk (a:Addr) (o:Obj) (b:List Value):G.loc n=some a->G.aux n=none->h.get? a=some o->X.fz a=some o->LI h a b->BJ G l b->Zj X G h n l
def OR(X:Cx)(G:Gh)(h:Heap)(n:Nat):HO->Prop
 |.list l=>ZF G h n l
 |.dict l=>ZT X G h n l
 |.inst c a=>Zl X G h n c a
 |.set l=>Zt X G h n l
 |.items m=>Zf G h n m
 |.range i j k=>Zk G h n i j k
 |.flist l=>Zj X G h n l
structure Az(X:Cx)(G:Gh)(H:Aj)(s:Shared):Prop where
 base:∀b o,X.base.get? b=some o->s.heap.get? b=some o
 off:∀b,G.isLoc b->X.base.get? b=none
 loc:∀n o,H[n]? =some o->OR X G s.heap n o
 dom:∀n a,(G.loc n=some a\/G.aux n=some a)->n<H.length
 inj:∀n m a,G.loc n=some a->G.loc m=some a->n=m
 inj':∀n m a,G.aux n=some a->G.aux m=some a->n=m
 apart:∀n m a,G.loc n=some a->G.aux m≠some a
 tup:∀a vs,G.tup a=some vs->s.heap.IsTuple a vs.toArray
 gtup:∀a vs,X.gtup a=some vs->G.tup a=some vs
structure FV(s s':Shared):Prop where
 gens:s'.gens=s.gens
 os:s'.os=s.os
theorem FV.of{a:Shared}(h:∃h b,a={ A with heap:=h,toks:=b }):FV A a:=by obtain⟨h,b,rfl⟩:=h;exact⟨rfl,rfl⟩
theorem FV.trans{b a:Shared}(h:FV A b)(c:FV b a):FV A a:=⟨c.gens.trans h.gens,c.os.trans h.os⟩
structure At(G:Gh)(own:Addr->Prop)(s:Shared)(G':Gh)(s':Shared):Prop where
 le:G.Le G'
 same:FV s s'
 keep:∀b o,s.heap.get? b=some o->¬G.isLoc b->¬own b->s'.heap.get? b=some o
 fresh:∀b,G'.isLoc b->G.isLoc b\/s.heap.get? b=none
 alive:∀b o,s.heap.get? b=some o->∃o',s'.heap.get? b=some o'
theorem At.refl(G:Gh)(own:Addr->Prop)(s:Shared):At G own s G s:=
 ⟨.refl G,⟨rfl,rfl⟩,fun a a e a a=>e,fun a x=>.inl x,fun a o e=>⟨o,e⟩⟩
theorem At.trans{a c:Gh}{d f:Shared}(p:At G P A a d)(q:At a P d c f):At G P A c f where
 le:=p.le.trans q.le
 same:=p.same.trans q.same
 keep:=fun b o e n m=>q.keep b o (p.keep b o e n m) (fun x=>(p.fresh b x).elim n fun y=>by rw[e]at y;cases y) m
 fresh:=fun b x=>by
  rcases q.fresh b x with y |y
  .exact p.fresh b y
  .refine .inr ?_;refine CK (A.heap.get? b) (fun e=>?_) fun o e=>?_
   .rfl
   .obtain⟨h,g⟩:=p.alive b o e;rw[y]at g;cases g
 alive:=fun b o e=>by obtain⟨h,g⟩:=p.alive b o e;exact q.alive b h g
abbrev Cs:Addr->Prop:=fun a=>False
theorem OR.le{X:Cx}{A:Gh}{D:Heap}(x:OR X G h n L)(p:G.Le A)(z:A.aux n=G.aux n)
  (s:∀b g,(G.loc n=some b\/G.aux n=some b)->h.get? b=some g->D.get? b=some g):OR X A D n L:=by
 cases L with
 |list l=>
  obtain⟨a,B,f,o,q,r⟩:=x;exact⟨a,B,p.loc _ _ f,z.trans o,q.at fun g e=>s a g (.inl f) e,r.le p⟩
 |dict l=>
  obtain⟨a,g,C,k,f,o,q,r,w,y,E⟩:=x;exact⟨a,g,C,k,p.loc _ _ f,z.trans o,s _ _ (.inl f) q,r,w,y.le p,E⟩
 |inst c H=>
  obtain⟨a,F,g,C,k,f,o,q,r,w,y⟩:=x;exact⟨a,F,g,C,k,p.loc _ _ f,p.aux _ _ o,s _ _ (.inl f) q,s _ _ (.inr o) r,w,y.le p⟩
 |set l=>
  obtain⟨a,g,f,o,q,r⟩:=x;exact⟨a,g,p.loc _ _ f,z.trans o,s _ _ (.inl f) q,r.at fun g e=>s a g (.inl f) e⟩
 |items m=>
  obtain⟨a,g,d,f,o,q,r,w,y⟩:=x;exact⟨a,g,d,p.loc _ _ f,z.trans o,s _ _ (.inl f) q,r,w,p.loc _ _ y⟩
 |range i j k=>
  obtain⟨a,t,u,v,f,o,q⟩:=x;exact⟨a,t,u,v,p.loc _ _ f,z.trans o,s _ _ (.inl f) q⟩
 |flist l=>
  obtain⟨a,L,B,f,o,q,r,w,y⟩:=x;exact⟨a,L,B,p.loc _ _ f,z.trans o,s _ _ (.inl f) q,r,w.at fun g e=>s a g (.inl f) e,y.le p⟩
section
variable {X:Cx} {G:Gh} {H:Aj} {s s':Shared}
theorem Az.keeps(x:Az X G H s)(c:∀b o,s.heap.get? b=some o->s'.heap.get? b=some o):Az X G H s' where
 base:=fun b o e=>c b o (x.base b o e)
 off:=x.off
 loc:=fun n o e=>(x.loc n o e).le (.refl G) rfl fun b d g q=>c b d q
 dom:=x.dom
 inj:=x.inj
 inj':=x.inj'
 apart:=x.apart
 tup:=fun a f e=>(x.tup a f e).at fun o q=>c a o q
 gtup:=x.gtup
theorem At.ofKeeps(d:∃h f,s'={ s with heap:=h,toks:=f })(a:∀b o,s.heap.get? b=some o->s'.heap.get? b=some o)(own:Addr->Prop):At G own s G s':=
 ⟨.refl G,.of d,fun b o e c c=>a b o e,fun c y=>.inl y,fun b o e=>⟨o,a b o e⟩⟩
theorem At.tok(n:Nat)(own:Addr->Prop):At G own s G { s with toks:=n }:=.ofKeeps ⟨_,_,rfl⟩ (fun a a e=>e) own
theorem At.own{c:Gh}{a:Addr->Prop}(p:At G P s c s')(h:∀b,P b->a b):At G a s c s':=
 ⟨p.le,p.same,fun b o e n m=>p.keep b o e n fun y=>m (h b y),p.fresh,p.alive⟩
theorem At.nil{a:Gh}(p:At G Cs s a s')(own:Addr->Prop):At G own s a s':=p.own fun b y=>y.elim
theorem Az.upd{c:Addr}(x:Az X G H s)(i:n<H.length)(d:G.loc n=some c\/G.aux n=some c)(g:∀f,¬s.heap.IsTuple c f)
  (h:∀b o,b≠c->s.heap.get? b=some o->s'.heap.get? b=some o) (j:OR X G s'.heap n L):Az X G (H.set n L) s' where
 base:=fun b o e=>h b o (fun q=>by
  have:=x.off c (d.imp (fun z=>⟨n,z⟩) fun z=>⟨n,z⟩);rw[<- q,e]at this;cases this) (x.base b o e)
 off:=x.off
 loc:=fun m o e=>by
  by_cases q:m=n
  .subst q;rw[List.getElem?_set_self i]at e;cases e;exact j
  .rw[getElem?_set_ne (Ne.symm q)]at e;refine(x.loc m o e).le (.refl G) rfl fun b k hb l=>h b k (fun z=>?_) l;subst z;rcases hb with hb |hb<;>rcases d with d |d
   .exact q (x.inj _ _ _ hb d)
   .exact x.apart _ _ _ hb d
   .exact x.apart _ _ _ d hb
   .exact q (x.inj' _ _ _ hb d)
 dom:=fun m a e=>by rw[length_set];exact x.dom m a e
 inj:=x.inj
 inj':=x.inj'
 apart:=x.apart
 tup:=fun a f e=>(x.tup a f e).at fun o q=>h a o (fun z=>g _ (z▸x.tup a f e)) q
 gtup:=x.gtup
theorem At.upd{c:Addr}(d:G.isLoc c)(f:∃h g,s'={ s with heap:=h,toks:=g })
  (a:∀b o,b≠c->s.heap.get? b=some o->s'.heap.get? b=some o) (i:∃o,s'.heap.get? c=some o):At G Cs s G s':=
 ⟨.refl G,.of f,fun b o e n j=>a b o (fun q=>n (q▸d)) e,fun j y=>.inl y,fun b o e=>by
  by_cases q:b=c
  .subst q;exact i
  .exact⟨o,a b o q e⟩⟩
def Gh.addLoc(G:Gh)(n:Nat)(a:Addr)(b:Option Addr):Gh:={ G with loc:=fun m=>if m=n then some a else G.loc m,aux:=fun m=>if m=n then b else G.aux m }
def Gh.addTup(G:Gh)(a:Addr)(c:List Value):Gh:={ G with tup:=fun b=>if b=a then some c else G.tup b }
theorem Az.noLoc(x:Az X G H s):G.loc H.length=none:=by
 refine CK (G.loc H.length) (fun e=>?_) fun a e=>?_
 .rfl
 .exact absurd (x.dom _ _ (.inl e)) (Nat.lt_irrefl _)
theorem Az.noAux(x:Az X G H s):G.aux H.length=none:=by
 refine CK (G.aux H.length) (fun e=>?_) fun a e=>?_
 .rfl
 .exact absurd (x.dom _ _ (.inr e)) (Nat.lt_irrefl _)
theorem Az.leLoc(x:Az X G H s)(a:Addr)(b:Option Addr):G.Le (G.addLoc H.length a b) where
 tup:=fun d d e=>e
 loc:=fun n c e=>by
  show(if n=H.length then some a else G.loc n)=some c
  rw[if_neg (fun q=>by rw[q,x.noLoc]at e;cases e)];exact e
 aux:=fun n c e=>by
  show(if n=H.length then b else G.aux n)=some c
  rw[if_neg (fun q=>by rw[q,x.noAux]at e;cases e)];exact e
set_option tactic.hygienic true in
theorem BP{c:Addr}(e:(G.addLoc n b z4).loc k=some c):(k=n/\c=b)\/(k≠n/\G.loc k=some c):=by
 have a:(if k=n then some b else G.loc k)=some c:=e
 split at a
 .rename_i h;cases a;exact .inl ⟨h,rfl⟩
 .rename_i h;exact .inr ⟨h,a⟩
set_option tactic.hygienic true in
theorem BQ{c:Addr}(e:(G.addLoc n b z4).aux k=some c):(k=n/\z4=some c)\/(k≠n/\G.aux k=some c):=by
 have a:(if k=n then z4 else G.aux k)=some c:=e
 split at a
 .rename_i h;exact .inl ⟨h,a⟩
 .rename_i h;exact .inr ⟨h,a⟩
theorem OR.ad(q:OR X G h n L):∃a,G.loc n=some a/\(∃L,h.get? a=some L)/\∀c,G.aux n=some c->∃L,h.get? c=some L:=by
 cases L with
 |inst c y=>
  obtain⟨a,z,p,r,k,b,f,g,w,_⟩:=q;exact⟨a,b,⟨_,g⟩,fun c e=>by cases f.symm.trans e;exact⟨_,w⟩⟩
 |list l=>obtain⟨a,x,b,f,⟨⟨p,g,_⟩,_⟩,_⟩:=q;exact⟨a,b,⟨_,g⟩,fun o=>WV f⟩
 |dict l=>obtain⟨a,p,r,k,b,f,g,_⟩:=q;exact⟨a,b,⟨_,g⟩,fun o=>WV f⟩
 |set l=>obtain⟨a,p,b,f,g,_⟩:=q;exact⟨a,b,⟨_,g⟩,fun o=>WV f⟩
 |items m=>obtain⟨a,p,d,b,f,g,_⟩:=q;exact⟨a,b,⟨_,g⟩,fun o=>WV f⟩
 |range i j k=>obtain⟨a,t,u,v,b,f,g⟩:=q;exact⟨a,b,⟨_,g⟩,fun o=>WV f⟩
 |flist l=>obtain⟨a,L,x,b,f,g,_⟩:=q;exact⟨a,b,⟨_,g⟩,fun o=>WV f⟩
theorem Az.alive(x:Az X G H s)(c:G.isLoc b):∃o,s.heap.get? b=some o:=by
 rcases c with⟨n,e⟩ |⟨n,e⟩
 .obtain⟨a,d,f,_⟩:=(x.loc n _ (AD (x.dom n b (.inl e)))).ad;cases d.symm.trans e;exact f
 .obtain⟨a,_,_,g⟩:=(x.loc n _ (AD (x.dom n b (.inr e)))).ad;exact g b e
theorem Az.alloc{o:HO}(x:Az X G H s)(l:s.heap.get? b=none)(k:∀c,z4=some c->s.heap.get? c=none/\c≠b)
  (u:∀z4 o,s.heap.get? z4=some o->s'.heap.get? z4=some o) (w:OR X (G.addLoc H.length b z4) s'.heap H.length o):Az X (G.addLoc H.length b z4) (H++[o]) s':=by
 have g:∀c,s.heap.get? c=none->¬G.isLoc c:=fun c h y=>by
  obtain⟨f,e⟩:=x.alive y;rw[h]at e;cases e
 refine⟨fun c f e=>u c f (x.base c f e),fun c h=>?_,fun n f e=>?_,fun n c e=>?_,fun n m c a d=>?_,fun n m c a d=>?_,fun n m c a d=>?_,fun c z e=>(x.tup c z e).at fun f q=>u c f q,x.gtup⟩
 .have fr:∀c,s.heap.get? c=none->X.base.get? c=none:=fun c h=>by
   refine CK (X.base.get? c) (fun q=>?_) fun f q=>?_
   .rfl
   .rw[x.base c f q]at h;cases h
  rcases h with⟨n,e⟩ |⟨n,e⟩
  .rcases BP e with⟨_,rfl⟩ |⟨_,e⟩
   .exact fr _ l
   .exact x.off c (.inl ⟨n,e⟩)
  .rcases BQ e with⟨_,e⟩ |⟨_,e⟩
   .exact fr _ (k _ e).1
   .exact x.off c (.inr ⟨n,e⟩)
 .rcases lt_or_ge n H.length with p |p
  .rw[getElem?_append_left p]at e;refine(x.loc n f e).le (x.leLoc b z4) ?_ fun c A B q=>u c A q;show(if n=H.length then z4 else G.aux n)=G.aux n
   rw[if_neg (Nat.ne_of_lt p)]
  .have v:n=H.length:=by
    have:=(AE e).1;rw[AI,AX]at this;exact Nat.eq_of_le_of_lt_succ p this
   subst v;rw[getElem?_append_right (AM _),Nat.sub_self]at e;cases e;exact w
 .rw[AI,AX];rcases e with e |e
  .rcases BP e with⟨rfl,_⟩ |⟨_,e⟩
   .exact lt_succ_self _
   .exact lt_succ_of_lt (x.dom n c (.inl e))
  .rcases BQ e with⟨rfl,_⟩ |⟨_,e⟩
   .exact lt_succ_self _
   .exact lt_succ_of_lt (x.dom n c (.inr e))
 .rcases BP a with⟨r,i⟩ |⟨_,a⟩<;>rcases BP d with⟨t,j⟩ |⟨_,d⟩
  .rw[r,t]
  .exact absurd (.inl ⟨m,i▸d⟩) (g b l)
  .exact absurd (.inl ⟨n,j▸a⟩) (g b l)
  .exact x.inj n m c a d
 .rcases BQ a with⟨r,i⟩ |⟨_,a⟩<;>rcases BQ d with⟨t,j⟩ |⟨_,d⟩
  .rw[r,t]
  .exact absurd (.inr ⟨m,d⟩) (g c (k c i).1)
  .exact absurd (.inr ⟨n,a⟩) (g c (k c j).1)
  .exact x.inj' n m c a d
 .rcases BP a with⟨r,i⟩ |⟨_,a⟩<;>rcases BQ d with⟨t,j⟩ |⟨_,d⟩
  .exact(k c j).2 i
  .exact absurd (.inr ⟨m,i▸d⟩) (g b l)
  .exact absurd (.inl ⟨n,a⟩) (g c (k c j).1)
  .exact x.apart n m c a d
theorem At.alloc(x:Az X G H s)(d:s.heap.get? b=none)(f:∀c,z4=some c->s.heap.get? c=none)(g:∃h i,s'={ s with heap:=h,toks:=i })
  (a:∀z4 o,s.heap.get? z4=some o->s'.heap.get? z4=some o):At G Cs s (G.addLoc H.length b z4) s':=
 ⟨x.leLoc b z4,.of g,fun c o e j j=>a c o e,fun c k=>by
  rcases k with⟨n,e⟩ |⟨n,e⟩
  .rcases BP e with⟨_,rfl⟩ |⟨_,e⟩
   .exact .inr d
   .exact .inl (.inl ⟨n,e⟩)
  .rcases BQ e with⟨_,e⟩ |⟨_,e⟩
   .exact .inr (f _ e)
   .exact .inl (.inr ⟨n,e⟩),fun c o e=>⟨o,a c o e⟩⟩
theorem Az.leTup(x:Az X G H s)(h:s.heap.get? b=none)(d:List Value):G.Le (G.addTup b d) where
 tup:=fun a f e=>by
  show(if a=b then some d else G.tup a)=some f
  rw[if_neg (fun q=>by
   obtain⟨o,g,_⟩:=x.tup a f e;rw[q,h]at g;cases g)]
  exact e
 loc:=fun c c e=>e
 aux:=fun c c e=>e
set_option tactic.hygienic true in
theorem Az.newTup(x:Az X G H s)(i:s.heap.get? b=none)
  (f:∀c o,s.heap.get? c=some o->s'.heap.get? c=some o) (j:s'.heap.IsTuple b a.toArray):Az X (G.addTup b a) H s' where
 base:=fun c o e=>f c o (x.base c o e)
 off:=x.off
 loc:=fun n o e=>(x.loc n o e).le (x.leTup i a) rfl fun c k _ q=>f c k q
 dom:=x.dom
 inj:=x.inj
 inj':=x.inj'
 apart:=x.apart
 tup:=fun c d e=>by
  have g:(if c=b then some a else G.tup c)=some d:=e
  split at g
  .rename_i h;cases g;rw[h];exact j
  .exact(x.tup c d g).at fun o q=>f c o q
 gtup:=fun c d e=>(x.leTup i a).tup c d (x.gtup c d e)
theorem At.newTup(x:Az X G H s)(g:s.heap.get? b=none)(i:∃h j,s'={ s with heap:=h,toks:=j })
  (d:∀c o,s.heap.get? c=some o->s'.heap.get? c=some o):At G Cs s (G.addTup b a) s':=
 ⟨x.leTup g a,.of i,fun c o e f f=>d c o e,fun f k=>.inl k,fun c o e=>⟨o,d c o e⟩⟩
theorem I7(x:Az X G H s)(c:s.heap.get? b=none)(r:BJ G l a):VR (G.addTup b a) (.tup l) (.ref b):=
 .tup (by show(if b=b then some a else G.tup b)=some a;rw[if_pos rfl]) (r.le (x.leTup c a))
theorem As:(G.addLoc n b z4).loc n=some b:=by show(if n=n then some b else G.loc n)=some b;rw[if_pos rfl]
theorem BD:(G.addLoc n b z4).aux n=z4:=by show(if n=n then z4 else G.aux n)=z4;rw[if_pos rfl]
end
def lk(a:BA)(x:Str):Option (Option V):=a.lookup x
inductive XZ(G:Gh)(h:Heap)(L:Addr)(p:Str->Option (Option V))(a:List (Str×NameKind)):Prop
 |mk (m:Str->Option Value):h.Ns L m->(∀x v,p x=some (some v)->a.lookup x=some .local->∃val,m x=some val/\VR G v val)->XZ G h L p a
inductive Uz(G:Gh)(h:Heap)(env:Env)(x:Str)(o:Option (Option V)):Prop
 |mk (kk:env.kindOf x=some .cell\/env.kindOf x=some .free) (c:Addr) (a:Option Value):env.cells.lookup x=some c->h.IsCell c a->(∀v,o=some (some v)->∃val,a=some val/\VR G v val)->Uz G h env x o
structure Vs(X:Cx)(G:Gh)(h:Heap)(b:Addr):Prop where
 base:X.base.get? b=none
 off:¬G.isLoc b
 there:∃o,h.get? b=some o
structure Vl(G:Gh)(h:Heap)(L c:Addr):Prop where
 off:¬G.isLoc c
 ne:c≠L
 there:∃o,h.get? c=some o
structure He(X:Cx)(G:Gh)(sc:List (Str×NameKind))(ρ:BA)(env:Env)(own:Addr->Prop)(h:Heap):Prop where
 kind:env.scope.kind=.function
 glob:env.globals=mainGlobals
 bi:env.builtins=builtinsNs
 ns:XZ G h env.locals (lk ρ) sc
 ownL:own env.locals
 kl:∀x,sc.lookup x=some .local->env.kindOf x=some .local
 kg:∀x,sc.lookup x=some .globalImplicit->env.kindOf x=some .globalImplicit
 cell:∀x,(sc.lookup x=some .cell\/sc.lookup x=some .free)->Uz G h env x (lk ρ x)
 ownC:∀x,sc.lookup x=some .cell->env.kindOf x=some .cell/\∀c,env.cells.lookup x=some c->own c
 cinj:∀x y c,env.cells.lookup x=some c->env.cells.lookup y=some c->x=y
 ownOff:∀b,own b->Vs X G h b
 cellOff:∀x c,env.cells.lookup x=some c->Vl G h env.locals c
structure St(X:Cx)(G:Gh)(H:Aj)(sc:List (Str×NameKind))(ρ:BA)(env:Env)(own:Addr->Prop)(s:Shared):Prop where
 h:Az X G H s
 f:He X G sc ρ env own s.heap
theorem At.old{a:Gh}{c:Shared}{o:Obj}(p:At G P A a c)(e:A.heap.get? b=some o)(z:a.isLoc b):G.isLoc b:=(p.fresh b z).elim id fun q=>WV q e
theorem He.off{X:Cx}{env:Env}(x:He X G c E env P h)(q:P b\/∃y,env.cells.lookup y=some b):¬G.isLoc b:=
 q.elim (fun a=>(x.ownOff b a).off) (by rintro⟨y,d⟩;exact(x.cellOff y b d).off)
theorem He.keep{X:Cx}{n:Gh}{env:Env}{p:Heap}(x:He X G c E env P h)(le:G.Le n)(l:∀b o,(P b\/∃y,env.cells.lookup y=some b)->h.get? b=some o->p.get? b=some o)(s:∀b o,h.get? b=some o->n.isLoc b->G.isLoc b):He X n c E env P p where
 kind:=x.kind
 glob:=x.glob
 bi:=x.bi
 ns:=by obtain⟨m,u,w⟩:=x.ns;exact⟨m,u.at' fun o e=>l _ o (.inl x.ownL) e,fun y v e k=>by obtain⟨d,q,r⟩:=w y v e k;exact⟨d,q,r.le le⟩⟩
 ownL:=x.ownL
 kl:=x.kl
 kg:=x.kg
 cell:=fun y k=>by obtain⟨kk,a,A,f,⟨B,g,i⟩,C⟩:=x.cell y k;exact⟨kk,a,A,f,⟨B,l _ _ (.inr ⟨y,f⟩) g,i⟩,fun v e=>by obtain⟨d,q,r⟩:=C v e;exact⟨d,q,r.le le⟩⟩
 ownC:=x.ownC
 cinj:=x.cinj
 ownOff:=fun b t=>by obtain⟨g,i,o,j⟩:=x.ownOff b t;exact⟨g,fun z=>i (s b o j z),o,l b o (.inl t) j⟩
 cellOff:=fun y a f=>by obtain⟨g,i,o,j⟩:=x.cellOff y a f;exact⟨fun z=>g (s a o j z),i,o,l a o (.inr ⟨y,f⟩) j⟩
theorem St.step{X:Cx}{a:Gh}{g:Aj}{env:Env}{d:Shared}(x:St X G H c E env P A)(p:At G Cs A a d)(h:Az X a g d) :
  St X a g c E env P d:=⟨h,x.f.keep p.le (fun b o q e=>p.keep b o e (x.f.off q) id) fun i i e z=>p.old e z⟩
theorem CZ{b:String}(h:ofString f=ofString b):f=b:=by
 rw[Str.ofString_eq_toList,Str.ofString_eq_toList]at h;have a:(f.toList.map Char.toNat)=(b.toList.map Char.toNat):=by simpa using h
 exact String.toList_inj.mp (List.map_inj_right (fun x y e=>Char.ext (UInt32.toNat_inj.mp e)) |>.mp a)
theorem Tw(a b:String):(ofString a==ofString b)=(a==b):=by
 by_cases h:a=b
 .subst h;simp
 .have:ofString a≠ofString b:=fun e=>h (CZ e);rw[beq_eq_false_iff_ne.mpr this,beq_eq_false_iff_ne.mpr h]
theorem Uy(a b:String):(ofString a=ofString b)=(a=b):=propext ⟨CZ,fun h=>h▸rfl⟩
def BY:V->V->Bool
 |.none,.none=>true
 |.bool a,.bool b=>a==b
 |.int a,.int b=>a==b
 |.str a,.str b=>a==b
 |.tup a,.tup b=>peqs a b
 |.loc a,.loc b=>a==b
 |.ty a,.ty b=>a==b
 |_,_=>false
where peqs:List V->List V->Bool
 |[],[]=>true
 |a::r,b::t=>BY a b&&peqs r t
 |_,_=>false
mutual
theorem RF:∀a b:V,BY a b=true->a=b
 |.none,b,h=>by cases b<;>first |exact absurd h AN |rfl
 |.bool _,b,h=>by cases b<;>first |exact absurd h AN |exact congrArg V.bool (eq_of_beq h)
 |.int _,b,h=>by cases b<;>first |exact absurd h AN |exact congrArg V.int (eq_of_beq h)
 |.str _,b,h=>by cases b<;>first |exact absurd h AN |exact congrArg V.str (eq_of_beq h)
 |.loc _,b,h=>by cases b<;>first |exact absurd h AN |exact congrArg V.loc (eq_of_beq h)
 |.ty _,b,h=>by cases b<;>first |exact absurd h AN |exact congrArg V.ty (eq_of_beq h)
 |.tup l,b,h=>by cases b<;>first |exact absurd h AN |exact congrArg V.tup (KS l _ h)
theorem KS:∀a b:List V,BY.peqs a b=true->a=b
 |[],[],_=>rfl
 |[],_::_,h=>absurd h AN
 |_::_,[],h=>absurd h AN
 |a::r,b::t,h=>by
  have h:=Aa (show(BY a b&&BY.peqs r t)=true from h);rw[RF a b h.1,KS r t h.2]
end
mutual
theorem LG:∀a:V,BY a a=true
 |.none=>rfl
 |.bool _=>beq_self_eq_true _
 |.int _=>beq_self_eq_true _
 |.str _=>beq_self_eq_true _
 |.loc _=>beq_self_eq_true _
 |.ty _=>beq_self_eq_true _
 |.tup l=>F8 l
theorem F8:∀a:List V,BY.peqs a a=true
 |[]=>rfl
 |a::r=>Bool.and_eq_true_iff.mpr ⟨LG a,F8 r⟩
end
theorem BB(a b:V):BY a b=true↔a=b:=⟨RF a b,fun h=>h▸LG a⟩
theorem Fp(a b:List V):BY.peqs a b=true↔a=b:=⟨KS a b,fun h=>h▸F8 a⟩
def BI(l:List (V×V))(k:V):Option V:=(l.find? fun p=>BY p.1 k).map (·.2)
def BK:List (V×V)->V->V->List (V×V)
 |[],k,v=>[(k,v)]
 |p::r,k,v=>if BY p.1 k then(p.1,v)::r else p::BK r k v
theorem NI:∀k v,BK [] k v=[(k,v)]:=fun a a=>rfl
theorem Ch:∀p r k v,BK (p::r) k v=if BY p.1 k then(p.1,v)::r else p::BK r k v:=fun a a a a=>rfl
def Ck:BA->Str->V->BA
 |[],_,_=>[]
 |p::r,x,v=>if p.1==x then(p.1,some v)::r else p::Ck r x v
def B3:List (Str×V)->Str->V->List (Str×V)
 |[],x,v=>[(x,v)]
 |p::r,x,v=>if p.1==x then(p.1,v)::r else p::B3 r x v
theorem SD:∀p r x v,B3 (p::r) x v=(if p.1==x then(p.1,v)::r else p::B3 r x v):=fun a a a a=>rfl
inductive Bi where
 |len |range |max |tuple |list |sorted |set |dict |abs |sum |enumerate |int |str |isinstance |bool
inductive GV where
 |fn (p:String)
 |cls (c:String)
 |bi (b:Bi)
 |val (v:V)
def B4(d:Nat)(A:Around):Prop:=A.handled=none/\A.depth+d<recursionLimit/\A.units+8*d+100<cLine
structure Ap(X:Cx)(d:Nat)(f:String)(args:List V)(H:Aj)(Φ:V->Aj->Prop):Prop where
 go:∀(A:Around)(G:Gh)(s:Shared)(vals:List Value),B4 d A->Az X G H s->BJ G args vals->∀R:Result->Shared->Prop,
  (∀G' H' v val s',At G Cs s G' s'->Az X G' H' s'->VR G' v val->Φ v H'->R (.ok (.ret val)) s') ->
  codeAny (model X.prog X.w) A (.call (.ref (X.fn f)) ⟨vals,[]⟩) R s
theorem Ap.mono{X:Cx}{d:V->Aj->Prop}(h:Ap X n f l H z)(e:∀v a,z v a->d v a):Ap X n f l H d:=
 ⟨fun A G s b g i j R k=>h.go A G s b g i j R fun m a v c o p q r x=>k m a v c o p q r (e v a x)⟩
theorem B4.le(h:B4 n z3)(hd:k<=n):B4 k z3:=⟨h.1,AH (AO hd _) h.2.1,AH (AP (AO (Ac 8 hd) _) _) h.2.2⟩
theorem Ap.deep{X:Cx}{d:Nat}(h:Ap X d f l H z)(hd:d<=n):Ap X n f l H z:=
 ⟨fun A G s a b=>h.go A G s a (b.le hd)⟩
def MI:List (String×GV):=[
 ("len",.bi .len),("range",.bi .range),("max",.bi .max),("tuple",.bi .tuple),("list",.bi .list),("sorted",.bi .sorted),("set",.bi .set),("dict",.bi .dict),
 ("abs",.bi .abs),("sum",.bi .sum),("enumerate",.bi .enumerate),("int",.bi .int),("str",.bi .str),("isinstance",.bi .isinstance),("bool",.bi .bool),
 ("YES",.val (.int 1)),("NO",.val (.int (-1))),("DECLARING",.val (.tup [.str "all",.str "exists",.str "comp",.str "sum"])),
 ("place_of",.fn "place_of"),("trimmed",.fn "trimmed"),("parts_of",.fn "parts_of"),("minus",.fn "minus"),("is_within",.fn "is_within"),
 ("Binary",.cls "Binary"),("Matrices",.cls "Matrices"),("FreeNames",.cls "FreeNames"),("Translator",.cls "Translator"),("Circuit",.cls "Circuit"),("Universe",.cls "Universe"),("Bounds",.cls "Bounds"),
 ("_law_tape",.fn "_law_tape"),("_law_draw",.fn "_law_draw"),("_law_lots",.fn "_law_lots"),("_law_set",.fn "_law_set"),("_law_with",.fn "_law_with"),("_law_body",.fn "_law_body"),
 ("_law_atoms",.fn "_law_atoms"),("_law_worth",.fn "_law_worth"),("_law_truths",.fn "_law_truths"),("_law_read",.fn "_law_read"),("law",.fn "law")]
def N5:List (String×GV)->Str->Option GV
 |[],_=>none
 |p::r,x=>if ofString p.1==x then some p.2 else N5 r x
def gv(x:Str):Option GV:=N5 MI x
def Sf:List (String×String×String):=[
 ("Binary", "constant", "Binary.constant"),("Binary", "added", "Binary.added"),("Binary", "plus", "Binary.plus"),("Binary", "less", "Binary.less"),("Binary", "total", "Binary.total"),("Binary", "of_gates", "Binary.of_gates"),("Binary", "chosen", "Binary.chosen"),
 ("Matrices", "made", "PlainMatrices.made"),("Matrices", "keys_of", "PlainMatrices.keys_of"),("Matrices", "gates_of", "PlainMatrices.gates_of"),("Matrices", "union", "PlainMatrices.union"),("Matrices", "minus", "PlainMatrices.minus"),("Matrices", "join", "PlainMatrices.join"),
 ("FreeNames", "of", "FreeNames.of"),("FreeNames", "within", "FreeNames.within"),
 ("Translator", "matrix_of", "Translator.matrix_of"),("Translator", "inputs", "Translator.inputs"),("Translator", "opened", "Translator.opened"),("Translator", "matrix", "Translator.matrix"),("Translator", "matrix_of_plain", "Translator.matrix_of_plain"),
 ("Translator", "of_two", "Translator.of_two"),("Translator", "number", "Translator.number"),("Translator", "number_of_plain", "Translator.number_of_plain"),
 ("Circuit", "size", "Circuit.size"),("Circuit", "kind", "Circuit.kind"),("Circuit", "parts", "Circuit.parts"),("Circuit", "new_gate", "Circuit.new_gate"),("Circuit", "new_input", "Circuit.new_input"),("Circuit", "all_of", "Circuit.all_of"),("Circuit", "any_of", "Circuit.any_of"),
 ("Circuit", "both", "Circuit.both"),("Circuit", "either", "Circuit.either"),("Circuit", "implies", "Circuit.implies"),("Circuit", "iff", "Circuit.iff"),("Circuit", "unlike", "Circuit.unlike"),("Circuit", "choose", "Circuit.choose"),
 ("Universe", "size", "Universe.size"),("Bounds", "add", "Bounds.add"),("Bounds", "want_set", "Bounds.want_set"),("Bounds", "bound", "Bounds.bound"),("Bounds", "size", "Bounds.size")]
def OB:List (String×String×String)->String->Str->Option String
 |[],_,_=>none
 |p::r,c,x=>if p.1==c&&ofString p.2.1==x then some p.2.2 else OB r c x
def Fl(c:String)(x:Str):Option String:=OB Sf c x
def IP:List (String×List String):=[
 ("Binary",["circuit"]),("Matrices",["circuit", "n"]),("FreeNames",["known"]),("Translator",["circuit", "matrices", "binary", "names", "memory", "asked", "relations"]),
 ("Circuit",["kinds", "parts_now", "known"]),("Universe",["names", "numbers"]),("Bounds",["universe", "bounds", "numbers"])]
def Dw(c:String)(x:Str):Bool:=IP.any fun p=>p.1==c&&p.2.any fun f=>ofString f==x
def Cf(c:String):Bool:=IP.any fun p=>p.1==c
def Hl(c:String):String:=if c== "Matrices" then "PlainMatrices.__init__" else c++ ".__init__"
def WJ:V->Nat->Option Nat
 |.none,_=>some 0
 |.int i,n=>some (clipAt n i)
 |_,_=>none
def Vo:V->Nat->Option Nat
 |.none,n=>some n
 |.int i,n=>some (clipAt n i)
 |_,_=>none
def Gd(l:List V)(a b:V):Option (List V):=
 match WJ a l.length,Vo b l.length with
 |some i,some j=>some ((l.take j).drop i)
 |_,_=>none
def Ar:Nat:=1000000
def FL(b:Bool)(p:Prop):Prop:=match b with |true=>p |false=>False
theorem Oc{b:Bool}{p:Prop}(h:FL b p):b=true/\p:=by
 cases b with
 |true=>exact⟨rfl,h⟩
 |false=>exact False.elim h
theorem Nj{p:Prop}(h:s=true)(x:p):FL s p:=h▸x
def ov{a:Type}(o:Option a)(p:a->Prop):Prop:=match o with |some v=>p v |none=>False
theorem JS{a:Type}{o:Option a}{p:a->Prop}(h:ov o p):∃v,o=some v/\p v:=by
 cases o with
 |none=>exact False.elim h
 |some v=>exact⟨v,rfl,h⟩
theorem KQ{a:Type}{o:Option a}{v:a}{p:a->Prop}(h:o=some v)(x:p v):ov o p:=h▸x
@[irreducible] noncomputable def Bk(f:HO->Prop)(H:Aj)(n:Nat):Prop:=ov H[n]? f
theorem objA_i(h:H[n]? =some L)(x:j7 L):Bk j7 H n:=by unfold Bk;exact KQ h x
theorem CE(h:Bk j7 H n):∃o,H[n]? =some o/\j7 o:=by unfold Bk at h;exact JS h
def Qe(f:List V->Prop):HO->Prop
 |.list l=>f l
 |_=>False
def Ve(f:List (V×V)->Prop):HO->Prop
 |.dict l=>f l
 |_=>False
theorem HV{f:List V->Prop}(h:Qe f L):∃l,L=.list l/\f l:=by
 cases L with
 |list l=>exact⟨l,rfl,h⟩
 |_=>exact False.elim h
theorem Kh{f:List (V×V)->Prop}(h:Ve f L):∃l,L=.dict l/\f l:=by
 cases L with
 |dict l=>exact⟨l,rfl,h⟩
 |_=>exact False.elim h
def Hw(i:Int):Bool:=blt i.natAbs 4611686018427387904
def VP:List V->Nat->Option V
 |[],_=>none
 |a::_,0=>some a
 |_::r,n+1=>VP r n
def M5(l:List V):Int->Option V
 |.ofNat n=>VP l n
 |i=>(seqIndex? i l.length).bind (l[·]?)
def Xy(i:V)(H:Aj)(a:V->Aj->Prop):HO->Prop
 |.list l=>∃k v,i=.int k/\0<=k/\k<2 ^ 62/\l[k.toNat]? =some v/\a v H
 |.dict l=>∃v,Pd 8 i/\BI l i=some v/\a v H
 |_=>False
def Ir(a i:V)(H:Aj)(b:V->Aj->Prop):Prop:=
 match a with
 |.tup l=>(match i with |.int k=>FL (Hw k) (ov (M5 l k) fun v=>b v H) |_=>False)
 |.loc n=>Bk (Xy i H b) H n
 |_=>False
def Jm(lo a:V)(H:Aj)(b:V->Aj->Prop)(l:List V):Prop:=∃m,l.length<=Ar/\Gd l lo a=some m/\b (.loc H.length) (H++[.list m])
def KL(a lo b:V)(H:Aj)(c:V->Aj->Prop):Prop:=
 match a with
 |.tup l=>∃m,l.length<=Ar/\Gd l lo b=some m/\c (.tup m) H
 |.loc n=>Bk (fun o=>match o with |.list l=>Jm lo b H c l |.flist l=>Jm lo b H c l |_=>False) H n
 |_=>False
def Xb(x:Str)(H:Aj)(a:V->Aj->Prop):HO->Prop
 |.inst c b=>FL (Dw c x) (ov (b.lookup x) fun v=>a v H)
 |_=>False
def L8(a:V)(x:Str)(H:Aj)(b:V->Aj->Prop):Prop:=
 match a with
 |.loc n=>Bk (Xb x H b) H n
 |_=>False
def i2(f:Int->Int->Prop):V->V->Prop
 |.int i,b=>(match b with |.int j=>f i j |_=>False)
 |_,_=>False
def s2(f:Str->Str->Prop):V->V->Prop
 |.str i,b=>(match b with |.str j=>f i j |_=>False)
 |_,_=>False
def t2(f:List V->List V->Prop):V->V->Prop
 |.tup i,b=>(match b with |.tup j=>f i j |_=>False)
 |_,_=>False
def b2(f:Bool->Bool->Prop):V->V->Prop
 |.bool i,b=>(match b with |.bool j=>f i j |_=>False)
 |_,_=>False
def l2(f:List V->List V->Prop)(H:Aj):V->V->Prop
 |.loc n,b=>(match b with
  |.loc m=>Bk (Qe fun l=>Bk (Qe fun k=>f l k) H m) H n
  |_=>False)
 |_,_=>False
theorem Wj{f:Int->Int->Prop}{b:V}(h:i2 f v b):∃i j,v=.int i/\b=.int j/\f i j:=by
 cases v<;>first |exact h.elim |(cases b<;>first |exact h.elim |exact⟨_,_,rfl,rfl,h⟩)
theorem WB{f:Str->Str->Prop}{b:V}(h:s2 f v b):∃i j,v=.str i/\b=.str j/\f i j:=by
 cases v<;>first |exact h.elim |(cases b<;>first |exact h.elim |exact⟨_,_,rfl,rfl,h⟩)
theorem Vi{b:V}(h:t2 j4 v b):∃i j,v=.tup i/\b=.tup j/\j4 i j:=by
 cases v<;>first |exact h.elim |(cases b<;>first |exact h.elim |exact⟨_,_,rfl,rfl,h⟩)
theorem VZ{f:Bool->Bool->Prop}{b:V}(h:b2 f v b):∃i j,v=.bool i/\b=.bool j/\f i j:=by
 cases v<;>first |exact h.elim |(cases b<;>first |exact h.elim |exact⟨_,_,rfl,rfl,h⟩)
theorem V7{b:V}(h:l2 j4 H v b):Vn fun n m l k=>QZ (v=.loc n) (b=.loc m) (H[n]? =some (.list l)) (H[m]? =some (.list k)) (j4 l k):=by
 cases v with
 |loc n=>
  cases b with
  |loc m=>
   obtain⟨o,a,h⟩:=CE (show Bk (Qe fun l=>Bk (Qe fun k=>j4 l k) H m) H n from h);obtain⟨l,rfl,h⟩:=HV h;obtain⟨o,c,h⟩:=CE h;obtain⟨k,rfl,h⟩:=HV h;exact⟨_,_,_,_,rfl,rfl,a,c,h⟩
  |_=>exact False.elim h
 |_=>exact False.elim h
def W7(a b:V)(H:Aj)(c:V->Aj->Prop):Prop:=
 match a with
 |.int _=>i2 (fun i j=>c (.int (i+j)) H) a b
 |.str _=>s2 (fun x y=>x.length+y.length<=1000/\c (.str (x++y)) H) a b
 |.tup _=>t2 (fun l m=>l.length+m.length<=Ar/\c (.tup (l++m)) H) a b
 |.loc _=>l2 (fun l k=>l.length+k.length<=Ar/\c (.loc H.length) (H++[.list (l++k)])) H a b
 |_=>False
def TH(d:Operator)(a b:V)(H:Aj)(c:V->Aj->Prop):Prop:=
 match d with
 |.Add=>W7 a b H c
 |.Sub=>i2 (fun i j=>c (.int (i-j)) H) a b
 |.Mult=>i2 (fun i j=>i.natAbs<2 ^ 62/\j.natAbs<2 ^ 62/\c (.int (i*j)) H) a b
 |.Mod=>i2 (fun i j=>0<j/\c (.int (i % j)) H) a b
 |.FloorDiv=>i2 (fun i j=>0<j/\j<1000000/\c (.int (i / j)) H) a b
 |.Pow=>i2 (fun i j=>i=2/\0<=j/\j<1000/\c (.int (2 ^ j.toNat)) H) a b
 |.RShift=>i2 (fun i j=>0<=i/\0<=j/\j<1000/\c (.int (i / 2 ^ j.toNat)) H) a b
 |.BitAnd=>i2 (fun i j=>0<=i/\j=1/\c (.int (i % 2)) H) a b
 |_=>False
def V0(v:V)(f:Int->Prop):Prop:=match v with
 |.int l=>f l
 |_=>False
def JB(v:V)(f:Bool->Prop):Prop:=match v with
 |.bool l=>f l
 |_=>False
theorem Vr{f:Int->Prop}(h:V0 v f):∃l,v=.int l/\f l:=by
 cases v<;>first |exact h.elim |exact⟨_,rfl,h⟩
theorem OX(h:JB v i4):∃l,v=.bool l/\i4 l:=by
 cases v<;>first |exact h.elim |exact⟨_,rfl,h⟩
def ZX(d:UnaryOp)(a:V)(H:Aj)(c:V->Aj->Prop):Prop:=
 match d with
 |.USub=>V0 a fun i=>c (.int (-i)) H
 |.Not=>JB a fun b=>c (.bool !b) H
 |_=>False
def DY:List V->List V->Bool
 |[],[]=>false
 |[],_::_=>true
 |_::_,[]=>false
 |.int a::r,.int b::t=>if a=b then DY r t else decide (a<b)
 |_,_=>false
def Ge:V->V->Bool
 |.int a,.int b=>decide (a<b)
 |.str a,.str b=>decide (a.cps.toList<b.cps.toList)
 |.tup a,.tup b=>DY a b
 |_,_=>false
def KP(l:List V):Prop:=∃a:List Int,l=a.map V.int
def IO(l:List V):Prop:=∃a:List Str,l=a.map V.str
def FT(l:List V):Prop:=∃a:List (List Int),l=a.map (fun t=>V.tup (t.map V.int))/\∀t∈a,t≠[]
def Yw(a b:V)(H:Aj)(c:Bool->Prop):Prop:=
 match a with
 |.int _=>i2 (fun i j=>c (i==j)) a b
 |.str _=>s2 (fun x y=>c (x==y)) a b
 |.bool _=>b2 (fun x y=>c (x==y)) a b
 |.tup _=>t2 (fun l m=>Pd 20 (.tup l)/\Pd 20 (.tup m)/\c (BY (.tup l) (.tup m))) a b
 |.loc _=>l2 (fun l k=>Pd 20 (.tup l)/\Pd 20 (.tup k)/\c (BY.peqs l k)) H a b
 |_=>False
def ZD(a b:V)(H:Aj)(c:Bool->Prop):Prop:=
 match a with
 |.int _=>i2 (fun i j=>c (i != j)) a b
 |.str _=>s2 (fun x y=>c (x != y)) a b
 |.bool _=>b2 (fun x y=>c (x != y)) a b
 |.tup _=>t2 (fun l m=>Pd 20 (.tup l)/\Pd 20 (.tup m)/\c (!BY (.tup l) (.tup m))) a b
 |.loc _=>l2 (fun l k=>Pd 20 (.tup l)/\Pd 20 (.tup k)/\c (!BY.peqs l k)) H a b
 |_=>False
def Z5(v:V)(a:Bool->Prop):HO->Prop
 |.list l=>Pd 20 (.tup (v::l))/\a (l.any fun u=>BY u v)
 |.dict l=>Pd 8 v/\a (BI l v).isSome
 |_=>False
def XG(v b:V)(H:Aj)(a:Bool->Prop):Prop:=
 match b with
 |.loc n=>Bk (Z5 v a) H n
 |_=>False
def IW(e:CmpOp)(a b:V)(H:Aj)(d:Bool->Prop):Prop:=
 match e with
 |.Eq=>Yw a b H d
 |.NotEq=>ZD a b H d
 |.Lt=>(match a with
  |.int _=>i2 (fun i j=>d (decide (i<j))) a b
  |.tup _=>t2 (fun l m=>KP l/\KP m/\l.length=m.length/\d (DY l m)) a b
  |_=>False)
 |.Gt=>i2 (fun i j=>d (decide (j<i))) a b
 |.LtE=>i2 (fun i j=>d (decide (i<=j))) a b
 |.In=>(match b with
  |.tup l=>IO l/\(∃x,a=.str x)/\d (l.any fun u=>BY u a)
  |_=>XG a b H d)
 |.NotIn=>XG a b H fun c=>d !c
 |_=>False
inductive U2:List V->List (V×V)->Prop
 |nil:U2 [] []
 |cons {k v:V} {l:List V} {m:List (V×V)}:Pd 8 k->U2 l m->U2 (.tup [k,v]::l) ((k,v)::m)
def BG(l:List (V×V)):List (V×V)->List (V×V)
 |[]=>l
 |p::r=>BG (BK l p.1 p.2) r
theorem Ua:∀l,BG l []=l:=fun a=>rfl
theorem Gw:∀l p r,BG l (p::r)=BG (BK l p.1 p.2) r:=fun a a a=>rfl
def B7:List V->List V->List V
 |acc,[]=>acc
 |acc,v::r=>B7 (if acc.any fun u=>BY u v then acc else acc++[v]) r
theorem KI:∀a v r,B7 a (v::r)=(B7 (if a.any fun u=>BY u v then a else a++[v]) r):=fun b b b=>rfl
def D7(l:List V)(H:Aj)(c:V->Aj->Prop):Prop:=
 l.length<60/\l.Nodup/\(KP l\/IO l\/FT l)/\∀m:List V,m.Perm l->m.Pairwise (fun a b=>Ge a b=true)->c (.loc H.length) (H++[.list m])
def Bc(a b c:Int):List V:=(List.range ((if 0<c then(b-a+c-1) / c else 0).toNat)).map fun(k:Nat)=>V.int (a+c*(k:Int))
def J2(f:V->Prop):List V->Prop
 |[]=>False
 |v::r=>(match r with |[]=>f v |_::_=>False)
def PO(f:V->V->Prop):List V->Prop
 |[]=>False
 |v::r=>J2 (f v) r
theorem Dz{f:V->Prop}(h:J2 f l):∃v,l=[v]/\f v:=by
 cases l with
 |nil=>exact h.elim
 |cons v r=>
  cases r with
  |nil=>exact⟨v,rfl,h⟩
  |cons _ _=>exact h.elim
theorem HX{f:V->V->Prop}(h:PO f l):∃v u,l=[v,u]/\f v u:=by
 cases l with
 |nil=>exact h.elim
 |cons v r=>
  obtain⟨u,rfl,h⟩:=Dz (f:=f v) h;exact⟨v,u,rfl,h⟩
def Wz(H:Aj)(a:V->Aj->Prop):HO->Prop
 |.list l=>l.length<2 ^ 62/\a (.int l.length) H
 |.dict l=>l.length<2 ^ 62/\a (.int l.length) H
 |_=>False
def Yd(H:Aj)(a:V->Aj->Prop):V->Prop
 |.tup l=>l.length<2 ^ 62/\a (.int l.length) H
 |.loc n=>Bk (Wz H a) H n
 |_=>False
def WS(H:Aj)(b:V->Aj->Prop):List V->Prop
 |[]=>False
 |a::r=>(match r with
  |[]=>(match a with |.int n=>n.natAbs<2 ^ 30/\b (.loc H.length) (H++[.range 0 n 1]) |_=>False)
  |n::r=>(match r with
   |[]=>i2 (fun a n=>a.natAbs<2 ^ 30/\n.natAbs<2 ^ 30/\b (.loc H.length) (H++[.range a n 1])) a n
   |c::r=>(match r with
    |[]=>i2 (fun a n=>a.natAbs<2 ^ 30/\n.natAbs<2 ^ 30/\c=.int 2/\b (.loc H.length) (H++[.range a n 2])) a n
    |_::_=>False)))
def WN(H:Aj)(a:V->Aj->Prop):V->Prop
 |.tup l=>a (.tup l) H
 |.loc n=>Bk (Qe fun l=>l.length<=Ar/\a (.tup l) H) H n
 |_=>False
def UG(f:HO->Prop)(H:Aj):V->Prop
 |.loc n=>Bk f H n
 |_=>False
def Z6(f:Int->Prop):V->Prop
 |.int i=>f i
 |_=>False
def Mh(f:HO->Prop)(H:Aj)(a:List V):Prop:=J2 (UG f H) a
def Rj(f:Int->Prop)(a:List V):Prop:=J2 (Z6 f) a
theorem S6(h:Mh j7 H l):∃n o,l=[.loc n]/\H[n]? =some o/\j7 o:=by
 obtain⟨v,rfl,h⟩:=Dz h;cases v with
 |loc n=>
  obtain⟨o,e,h⟩:=CE (show Bk j7 H n from h);exact⟨n,o,rfl,e,h⟩
 |_=>exact False.elim h
theorem Qc{f:Int->Prop}(h:Rj f l):∃i,l=[.int i]/\f i:=by
 obtain⟨v,rfl,h⟩:=Dz h;cases v<;>first |exact h.elim |exact⟨_,rfl,h⟩
def W6(H:Aj)(a:V->Aj->Prop):HO->Prop
 |.list l=>l.length<=Ar/\a (.loc H.length) (H++[.list l])
 |.items m=>Bk (Ve fun l=>l.length<=Ar/\(∃b:List Str,l.map (·.1)=b.map V.str)/\a (.loc H.length) (H++[.list (l.map fun p=>.tup [p.1,p.2])])) H m
 |_=>False
def Ee(H:Aj)(a:V->Aj->Prop):HO->Prop
 |.list l=>D7 l H a
 |.set l=>D7 l H a
 |.dict l=>D7 (l.map (·.1)) H a
 |_=>False
def Ye(H:Aj)(a:V->Aj->Prop):HO->Prop
 |.list l=>l.length<60/\(KP l\/IO l)/\a (.loc H.length) (H++[.set (B7 [] l)])
 |_=>False
def XB(H:Aj)(a:V->Aj->Prop):HO->Prop
 |.list l=>∃m,U2 l m/\l.length<=Ar/\a (.loc H.length) (H++[.dict (BG [] m)])
 |.dict l=>l.length<=Ar/\(∃b:List Str,l.map (·.1)=b.map V.str)/\a (.loc H.length) (H++[.dict l])
 |_=>False
def Yj(H:Aj)(b:V->Aj->Prop):HO->Prop
 |.list l=>∃a:List Int,l=a.map V.int/\(∀j,InLong (a.getD j 0)/\InLong (a.take j).sum)/\b (.int a.sum) H
 |_=>False
def Yb(H:Aj)(a:V->Aj->Prop)(v:V):V->Prop
 |.ty t=>(match v with
  |.int _=>if t= "int" then a (.bool true) H else if t= "bool" then a (.bool false) H else False
  |.tup _=>if t= "tuple" then a (.bool true) H else False
  |_=>False)
 |_=>False
def Nu(b:Bi)(vs:List V)(H:Aj)(Φ:V->Aj->Prop):Prop:=
 match b with
 |.len=>J2 (Yd H Φ) vs
 |.range=>WS H Φ vs
 |.max=>PO (i2 fun i j=>Φ (.int (if i<j then j else i)) H) vs
 |.tuple=>J2 (WN H Φ) vs
 |.list=>Mh (W6 H Φ) H vs
 |.sorted=>Mh (Ee H Φ) H vs
 |.set=>Mh (Ye H Φ) H vs
 |.dict=>Mh (XB H Φ) H vs
 |.abs=>Rj (fun i=>Φ (.int i.natAbs) H) vs
 |.sum=>Mh (Yj H Φ) H vs
 |.int=>Rj (fun i=>Φ (.int i) H) vs
 |.str=>Rj (fun i=>0<=i/\i<10/\Φ (.str (ofString (toString i))) H) vs
 |.isinstance=>PO (Yb H Φ) vs
 |_=>False
def Qd:Bi->Option String
 |.int=>some "int" |.tuple=>some "tuple" |.bool=>some "bool" |_=>none
inductive Xn where
 |append |extend |get |setdefault |items
def E9(m:Xn)(n:Nat)(b:List V)(H:Aj)(a:V->Aj->Prop):HO->Prop
 |.list l=>(match m with
  |.append=>J2 (fun v=>l.length<Ar/\a .none (H.set n (.list (l++[v])))) b
  |.extend=>J2 (fun v=>match v with
   |.tup m=>l.length+m.length<Ar/\a .none (H.set n (.list (l++m)))
   |.loc k=>Bk (Qe fun m=>k≠n/\l.length+m.length<Ar/\a .none (H.set n (.list (l++m)))) H k
   |_=>False) b
  |_=>False)
 |.dict l=>(match m with
  |.get=>PO (fun k v=>Pd 8 k/\a ((BI l k).getD v) H) b
  |.setdefault=>PO (fun k v=>Pd 8 k/\l.length<Ar/\(match BI l k with |some u=>a u H |none=>a v (H.set n (.dict (l++[(k,v)]))))) b
  |.items=>(match b with |[]=>a (.loc H.length) (H++[.items n]) |_::_=>False)
  |_=>False)
 |_=>False
def NG(a i v:V)(H:Aj)(k:Aj->Prop):Prop:=
 match a with
 |.loc n=>Bk (Ve fun l=>Pd 8 i/\l.length<Ar/\k (H.set n (.dict (BK l i v)))) H n
 |_=>False
def RX(n:Nat)(x:Str)(v:V)(H:Aj)(k:Aj->Prop):HO->Prop
 |.inst c a=>FL (Dw c x&&blt a.length 100) (k (H.set n (.inst c (B3 a x v))))
 |_=>False
def DH(a:V)(x:Str)(v:V)(H:Aj)(k:Aj->Prop):Prop:=
 match a with
 |.loc n=>Bk (RX n x v H k) H n
 |_=>False
def W8(X:Cx)(d:Nat)(c:String)(a:List V)(H:Aj)(b:V->Aj->Prop):Prop:=
 2<=d/\Cf c=true/\Ap X (d-2) (Hl c) (.loc H.length::a) (H++[.inst c []]) fun r e=>r=.none/\b (.loc H.length) e
def U6(X:Cx)(d:Nat)(g:Option GV)(a:List V)(H:Aj)(e:V->Aj->Prop):Prop:=
 match g with
 |some (.fn p)=>1<=d/\Ap X (d-1) p a H e
 |some (.cls c)=>W8 X d c a H e
 |some (.bi b)=>Nu b a H e
 |_=>False
inductive Tg where
 |fn (p:String)
 |obj (m:Xn)
def YQ(x:Str):HO->Option Tg
 |.inst c a=>bif Cf c&&(a.lookup x).isNone then(Fl c x).map Tg.fn else none
 |.list _=>bif x==ofString "append" then some (.obj .append)else bif x==ofString "extend" then some (.obj .extend)else none
 |.dict _=>bif x==ofString "get" then some (.obj .get)else bif x==ofString "setdefault" then some (.obj .setdefault)else bif x==ofString "items" then some (.obj .items)else none
 |_=>none
def FZ:HO->HO->Bool
 |.list _,.list _=>true
 |.dict _,.dict _=>true
 |_,_=>false
def SM(X:Cx)(d:Nat)(t:Tg)(o:HO)(n:Nat)(a:List V)(H:Aj)(b:V->Aj->Prop):Prop:=
 match t with
 |.fn p=>1<=d/\Ap X (d-1) p (.loc n::a) H b
 |.obj m=>Bk (fun c=>FL (FZ o c) (E9 m n a H b c)) H n
def Zd(g:Option GV)(H:Aj)(a:V->Aj->Prop):Prop:=match g with
 |some (.val v)=>a v H
 |some (.bi b)=>ov (Qd b) fun t=>a (.ty t) H
 |_=>False
def Yr(k:NameKind):Bool:=k.ctorIdx==NameKind.globalImplicit.ctorIdx
def GX(b:List (Str×NameKind))(x:Str)(c:BA)(H:Aj)(a:V->Aj->Prop):Prop:=
 ov (b.lookup x) fun k=>bif Yr k then Zd (gv x) H a else bif k.ctorIdx==NameKind.globalExplicit.ctorIdx then False else ov (lk c x).join fun v=>a v H
@[irreducible] noncomputable def Cd(a:V)(H:Aj)(b:List V->(Aj->Prop)->Aj->Prop):Prop:=
 match a with
 |.tup l=>b l (fun c=>True) H
 |.loc n=>match H[n]? with
  |some (.list l)=>b l (fun d=>d[n]? =some (.list l)) H
  |some (.range i j k)=>i.natAbs<2 ^ 30/\j.natAbs<2 ^ 30/\(k=1\/k=2)/\b (Bc i j k) (fun c=>True) H
  |_=>False
 |_=>False
def CU(a:V->HO->Aj->(HO->Aj->Prop)->Prop)(guard:Aj->Prop):List V->HO->Aj->(HO->Aj->Prop)->Prop
 |[],b,H,k=>k b H
 |x::r,b,H,k=>a x b H fun c d=>guard d/\CU a guard r c d k
def GJ(a:V->BA->Aj->(BA->Aj->Prop)->Prop)(guard:Aj->Prop):List V->BA->Aj->(BA->Aj->Prop)->Prop
 |[],b,H,k=>k b H
 |x::r,b,H,k=>a x b H fun c d=>guard d/\GJ a guard r c d k
def XQ:Option NameKind->Bool
 |some .local=>true
 |some .cell=>true
 |_=>false
def WE:Option NameKind->Bool
 |some .globalImplicit=>true
 |_=>false
theorem Qu{o:Option NameKind}(h:WE o=true):o=some .globalImplicit:=by
 cases o with
 |none=>cases h
 |some k=>cases k<;>first |rfl |cases h
def EO(b:List (Str×NameKind))(x:Str)(v:V)(a:BA)(k:BA->Prop):Prop:=
 FL (XQ (b.lookup x)&&(lk a x).isSome) (k (Ck a x v))
theorem Vq{o:Option NameKind}(h:XQ o=true):o=some .local\/o=some .cell:=by
 cases o with
 |none=>cases h
 |some k=>cases k<;>first |exact .inl rfl |exact .inr rfl |cases h
theorem KZ(h:EO c y v E F):(c.lookup y=some .local\/c.lookup y=some .cell)/\(lk E y).isSome=true/\F (Ck E y v):=by
 have h:=Oc h;have q:=Aa h.1;exact⟨Vq q.1,q.2,h.2⟩
def EK(e:Expr):Option Str:=if h:e.ctorIdx=23 then Expr.Name.elim (motive_1:=fun a=>Option Str) e h fun x a=>some x else none
def Uh(e:Expr):Option (List Expr):=if h:e.ctorIdx=25 then Expr.Tuple.elim (motive_1:=fun a=>Option (List Expr)) e h fun x a a=>some x else none
theorem Ff(h:e.ctorIdx=23):∃x p,e=.Name x p:=Expr.Name.elim (motive_1:=fun e=>∃x p,e=.Name x p) e h fun x p=>⟨x,p,rfl⟩
theorem Go(h:e.ctorIdx=25):∃a c p,e=.Tuple a c p:=Expr.Tuple.elim (motive_1:=fun e=>∃a c p,e=.Tuple a c p) e h fun a c p=>⟨a,c,p,rfl⟩
theorem SL(h:e.ctorIdx=16):∃f a b p,e=.Call f a b p:=Expr.Call.elim (motive_1:=fun e=>∃f a b p,e=.Call f a b p) e h fun f a b p=>⟨f,a,b,p,rfl⟩
theorem Gi{a:Type _}{x:a}{p:Prop}(h:none=some x):p:=nomatch h
theorem Kc(h:EK e=some y):∃p,e=.Name y p:=by
 by_cases q:e.ctorIdx=23
 .obtain⟨a,p,rfl⟩:=Ff q;exact⟨p,congrArg (Expr.Name · p) (Option.some.inj h)⟩
 .unfold EK at h;rw[dif_neg q]at h;exact Gi h
theorem VL(h:Uh e=some d):∃c p,e=.Tuple d c p:=by
 by_cases q:e.ctorIdx=25
 .obtain⟨y,c,p,rfl⟩:=Go q;exact⟨c,p,congrArg (Expr.Tuple · c p) (Option.some.inj h)⟩
 .unfold Uh at h;rw[dif_neg q]at h;exact Gi h
def TN(v:V)(f:List V->Prop):Prop:=match v with
 |.tup l=>f l
 |_=>False
theorem RU{f:List V->Prop}(h:TN v f):∃l,v=.tup l/\f l:=by
 cases v<;>first |exact h.elim |exact⟨_,rfl,h⟩
def BW(c:List (Str×NameKind)):List Expr->List V->BA->(BA->Prop)->Prop
 |[],[],a,k=>k a
 |e::r,v::t,a,k=>ov (EK e) fun x=>EO c x v a fun b=>BW c r t b k
 |_,_,_,_=>False
def GH(a:List (Str×NameKind))(t:Expr)(v:V)(b:BA)(k:BA->Prop):Prop:=
 match EK t with
 |some x=>EO a x v b k
 |none=>ov (Uh t) fun c=>TN v fun l=>BW a c l b k
inductive Y2(a:List (Str×NameKind))(b:BA)(k:BA->Prop):Expr->V->Prop
 |name (x:Str) (p:Pos) (v:V):EO a x v b k->Y2 a b k (.Name x p) v
 |tup (d:List Expr) (c:Nat) (p:Pos) (l:List V):BW a d l b k->Y2 a b k (.Tuple d c p) (.tup l)
theorem Qp(h:GH c e v E F):Y2 c E F e v:=by
 unfold GH at h;refine MC (EK e) (fun x q=>?_) fun q=>?_
 .rw[q]at h;obtain⟨p,rfl⟩:=Kc q;exact .name _ _ _ h
 .rw[q]at h;obtain⟨b,q,h⟩:=JS h;obtain⟨a,p,rfl⟩:=VL q;obtain⟨l,rfl,h⟩:=RU h;exact .tup _ _ _ _ h
def KE(a out:List (Str×NameKind)):Prop:=∀x,a.lookup x=some .free->out.lookup x=some .cell\/out.lookup x=some .free
def PJ(a out:List (Str×NameKind)):Bool:=a.all fun p=>p.2 != .free||(out.lookup p.1==some .cell||out.lookup p.1==some .free)
def CG(a:List (Str×NameKind))(b:BA):BA:=
 a.filterMap fun p=>match p.2 with
  |.local=>some (p.1,none)
  |.free=>some (p.1,(lk b p.1).join)
  |_=>none
def JT:List (Aj->(V->Aj->Prop)->Prop)->List (Aj->(V->Aj->Prop)->Prop)->Aj->(List (V×V)->Aj->Prop)->Prop
 |[],[],H,f=>f [] H
 |k::r,v::t,H,f=>k H fun a c=>v c fun b d=>JT r t d fun g e=>Pd 8 a/\f ((a,b)::g) e
 |_,_,_,_=>False
abbrev XM(b:List CmpOp)(k:CmpOp->Prop):Prop:=match b with |[a]=>k a |_=>False
abbrev Ww(c:List CmpOp)(k:CmpOp->CmpOp->Prop):Prop:=match c with |[a,b]=>k a b |_=>False
theorem SY{k:CmpOp->Prop}(h:XM r7 k):EC fun a=>EU (r7=[a]) (k a):=by
 cases r7 with
 |nil=>exact False.elim h
 |cons a r=>
  cases r with
  |nil=>exact⟨a,rfl,h⟩
  |cons _ _=>exact False.elim h
theorem RJ{k:CmpOp->CmpOp->Prop}(h:Ww r7 k):Dd fun a b=>EU (r7=[a,b]) (k a b):=by
 cases r7 with
 |nil=>exact False.elim h
 |cons a r=>
  cases r with
  |nil=>exact False.elim h
  |cons b r=>
   cases r with
   |nil=>exact⟨a,b,rfl,h⟩
   |cons _ _=>exact False.elim h
abbrev Xz(a:List Keyword)(p:Prop):Prop:=match a with |[]=>p |_=>False
abbrev XF(a:V)(k:Nat->Prop):Prop:=match a with |.loc n=>k n |_=>False
abbrev YY(c:Const)(H:Aj)(a:V->Aj->Prop):Prop:=match c with
  |.int i=>a (.int i) H
  |.str x=>a (.str x) H
  |.bool b=>a (.bool b) H
  |.none=>a .none H
  |_=>False
abbrev Zy(c:List (Option Expr))(d:List (Aj->(V->Aj->Prop)->Prop))(k:(Aj->(V->Aj->Prop)->Prop)->(Aj->(V->Aj->Prop)->Prop)->Prop)(p:Prop):Prop:=bif c.all (·.isNone)&&c.length==2 then(match d with |[a,b]=>k a b |_=>False)else p
abbrev tK(e:Expr):Bool:=let n:=e.ctorIdx;n==0||n==1||n==3||n==5||n==15
mutual
noncomputable def Br (X:Cx) (d:Nat) (e:Expr) (sc:List (Str×NameKind)) (ρ:BA) (H:Aj) (Φ:V->Aj->Prop):Prop:=e.casesOn (motive_1:=fun zz=>Prop) (fun zz zz zz=>False) (fun zz zz zz=>False)
  (fun l op r zz=>Br X d l sc ρ H fun a H₁=>Br X d r sc ρ H₁ fun b H₂=>TH op a b H₂ Φ)
  (fun op x zz=>Br X d x sc ρ H fun a H₁=>ZX op a H₁ Φ)
  (fun zz zz zz zz=>False)
  (fun t b o zz=>Qa X d t sc ρ H (fun k=>Br X d t sc ρ H k) fun c H₁=>(if c=true then Br X d b sc ρ H₁ Φ else Br X d o sc ρ H₁ Φ))
  (fun ks vs zz=>Zy ks (Qw X d vs sc ρ) (fun fa fb=>fa H fun x H₁=>UG (Ve fun l=>FT (l.map (·.1))/\(l.map (fun p=>kh X.w p.1)).Nodup/\l.length<=Ar /\
    fb H₁ fun y H₂=>UG (Ve fun k=>FT (k.map (·.1))/\(k.map (fun p=>kh X.w p.1)).Nodup/\l.length+k.length<=Ar/\Φ (.loc H₂.length) (H₂++[.dict (BG l k)])) H₂ y) H₁ x)
   (JT (Qy X d ks sc ρ) (Qw X d vs sc ρ) H fun ps H₁=>FL (ble ps.length 8) (Φ (.loc H₁.length) (H₁++[.dict (BG [] ps)]))))
  (fun zz zz zz=>False)
  (fun e gs scope zz=>FL (PJ scope.names sc) (Jg X d gs sc ρ scope.names (CG scope.names ρ) (fun ρ' acc H' k=>Br X d e scope.names ρ' H' fun v H''=>Qe (fun l=>l.length<Ar/\k (.list (l++[v])) H'') acc) (.list []) H
   fun acc H'=>Φ (.loc H'.length) (H'++[acc])))
  (fun zz zz zz zz=>False)
  (fun a b gs scope zz=>FL (PJ scope.names sc) (Jg X d gs sc ρ scope.names (CG scope.names ρ) (fun ρ' acc H' k=>Br X d a scope.names ρ' H' fun x H₁=>Br X d b scope.names ρ' H₁ fun y H₂=>Ve (fun l=>Pd 8 x/\l.length<Ar/\k (.dict (BK l x y)) H₂) acc) (.dict []) H
   fun acc H'=>Φ (.loc H'.length) (H'++[acc])))
  (fun zz zz zz zz=>False) (fun zz zz=>False) (fun zz zz=>False) (fun zz zz=>False)
  (fun l ops cs zz=>FL (ops.length==1) (Br X d l sc ρ H fun a H₁=>XH X d a ops cs sc ρ H₁ fun b H₂=>Φ (.bool b) H₂))
  (fun f as ks zz=>f.casesOn (motive_1:=fun zz=>Prop) (fun zz zz zz=>False) (fun zz zz zz=>False) (fun zz zz zz zz=>False) (fun zz zz zz=>False) (fun zz zz zz zz=>False) (fun zz zz zz zz=>False) (fun zz zz zz=>False) (fun zz zz zz=>False) (fun zz zz zz zz=>False) (fun zz zz zz zz=>False) (fun zz zz zz zz zz=>False) (fun zz zz zz zz=>False) (fun zz zz=>False) (fun zz zz=>False) (fun zz zz=>False) (fun zz zz zz zz=>False) (fun zz zz zz zz=>False) (fun zz zz zz zz=>False) (fun zz zz=>False) (fun zz zz zz=>False)
   (fun o x zz=>Xz ks (Br X d o sc ρ H fun a H₁=>XF a fun n=>Bk (fun o=>ov (YQ x o) fun t=>Gb X d as sc ρ H₁ fun vs H₂=>SM X d t o n vs H₂ Φ) H₁ n))
   (fun zz zz zz=>False) (fun zz zz=>False)
   (fun f zz=>Xz ks (FL (WE (sc.lookup f)) (Gb X d as sc ρ H fun vs H₁=>U6 X d (gv f) vs H₁ Φ)))
   (fun zz zz=>False) (fun zz zz zz=>False) (fun zz zz zz zz=>False))
  (fun zz zz zz zz=>False) (fun zz zz=>False)
  (fun c zz zz=>YY c H Φ)
  (fun o x zz=>Br X d o sc ρ H fun a H₁=>L8 a x H₁ Φ)
  (fun v i zz=>Br X d v sc ρ H fun a H₁=>bif i.ctorIdx==26 then ZI X d i sc ρ H₁ fun i j H₃=>KL a i j H₃ Φ else Br X d i sc ρ H₁ fun b H₂=>Ir a b H₂ Φ)
  (fun zz zz=>False)
  (fun x zz=>GX sc x ρ H Φ)
  (fun es zz=>Gb X d es sc ρ H fun vs H₁=>Φ (.loc H₁.length) (H₁++[.list vs]))
  (fun es zz zz=>Gb X d es sc ρ H fun vs H₁=>Φ (.tup vs) H₁)
  (fun zz zz zz zz=>False)
noncomputable def ZI (X:Cx) (d:Nat) (e:Expr) (sc:List (Str×NameKind)) (ρ:BA) (H:Aj) (k:V->V->Aj->Prop):Prop:=e.casesOn (motive_1:=fun zz=>Prop) (fun zz zz zz=>False) (fun zz zz zz=>False) (fun zz zz zz zz=>False) (fun zz zz zz=>False) (fun zz zz zz zz=>False) (fun zz zz zz zz=>False) (fun zz zz zz=>False) (fun zz zz zz=>False) (fun zz zz zz zz=>False) (fun zz zz zz zz=>False) (fun zz zz zz zz zz=>False) (fun zz zz zz zz=>False) (fun zz zz=>False) (fun zz zz=>False) (fun zz zz=>False) (fun zz zz zz zz=>False) (fun zz zz zz zz=>False) (fun zz zz zz zz=>False) (fun zz zz=>False) (fun zz zz zz=>False) (fun zz zz zz=>False) (fun zz zz zz=>False) (fun zz zz=>False) (fun zz zz=>False) (fun zz zz=>False) (fun zz zz zz=>False)
  (fun lo hi st zz=>bif st.isNone then Yh X d lo sc ρ H fun a H₂=>Yh X d hi sc ρ H₂ fun b H₃=>k a b H₃ else False)
noncomputable def Gb (X:Cx) (d:Nat):List Expr->List (Str×NameKind)->BA->Aj->(List V->Aj->Prop)->Prop
 |[],_,_,H,Φ=>Φ [] H
 |e::r,sc,ρ,H,Φ=>Br X d e sc ρ H fun v H₁=>Gb X d r sc ρ H₁ fun vs H₂=>Φ (v::vs) H₂
noncomputable def Yh (X:Cx) (d:Nat):Option Expr->List (Str×NameKind)->BA->Aj->(V->Aj->Prop)->Prop
 |none,_,_,H,Φ=>Φ .none H
 |some e,sc,ρ,H,Φ=>Br X d e sc ρ H Φ
noncomputable def Qy (X:Cx) (d:Nat):List (Option Expr)->List (Str×NameKind)->BA->List (Aj->(V->Aj->Prop)->Prop)
 |[],_,_=>[]
 |none::r,sc,ρ=>(fun zz zz=>False)::Qy X d r sc ρ
 |some e::r,sc,ρ=>(fun H Φ=>Br X d e sc ρ H Φ)::Qy X d r sc ρ
noncomputable def Qw (X:Cx) (d:Nat):List Expr->List (Str×NameKind)->BA->List (Aj->(V->Aj->Prop)->Prop)
 |[],_,_=>[]
 |e::r,sc,ρ=>(fun H Φ=>Br X d e sc ρ H Φ)::Qw X d r sc ρ
noncomputable def Qa (X:Cx) (d:Nat) (e:Expr) (sc:List (Str×NameKind)) (ρ:BA) (H:Aj) (whole:(V->Aj->Prop)->Prop) (Φ:Bool->Aj->Prop):Prop:=bif !tK e then whole fun v H₁=>JB v fun b=>Φ b H₁ else e.casesOn (motive_1:=fun zz=>Prop)
  (fun op vs zz=>Mc X d op vs sc ρ H Φ)
  (fun zz zz zz=>False) (fun zz zz zz zz=>False)
  (fun op x zz=>bif op.ctorIdx==1 then Qa X d x sc ρ H (fun k=>Br X d x sc ρ H k) fun b H₁=>Φ (!b) H₁ else whole fun v H₁=>JB v fun b=>Φ b H₁)
  (fun zz zz zz zz=>False) (fun zz zz zz zz=>False) (fun zz zz zz=>False) (fun zz zz zz=>False) (fun zz zz zz zz=>False) (fun zz zz zz zz=>False) (fun zz zz zz zz zz=>False) (fun zz zz zz zz=>False) (fun zz zz=>False) (fun zz zz=>False) (fun zz zz=>False)
  (fun l ops cs zz=>Br X d l sc ρ H fun a H₁=>XH X d a ops cs sc ρ H₁ Φ)
  (fun zz zz zz zz=>False) (fun zz zz zz zz=>False) (fun zz zz=>False) (fun zz zz zz=>False) (fun zz zz zz=>False) (fun zz zz zz=>False) (fun zz zz=>False) (fun zz zz=>False) (fun zz zz=>False) (fun zz zz zz=>False) (fun zz zz zz zz=>False)
noncomputable def Mc (X:Cx) (d:Nat):BoolOp->List Expr->List (Str×NameKind)->BA->Aj->(Bool->Aj->Prop)->Prop
 |op,[],_,_,H,Φ=>(match op with |.And=>Φ true H |.Or=>Φ false H)
 |op,e::r,sc,ρ,H,Φ=>Qa X d e sc ρ H (fun k=>Br X d e sc ρ H k) fun b H₁=>match op,b with
  |.And,false=>Φ false H₁
  |.Or,true=>Φ true H₁
  |_,_=>Mc X d op r sc ρ H₁ Φ
noncomputable def XH (X:Cx) (d:Nat):V->List CmpOp->List Expr->List (Str×NameKind)->BA->Aj->(Bool->Aj->Prop)->Prop
 |a,ops,[e],sc,ρ,H,Φ=>XM ops fun op=>Br X d e sc ρ H fun b H₁=>IW op a b H₁ fun c=>Φ c H₁
 |a,ops,[e,e2],sc,ρ,H,Φ=>Ww ops fun op op2=>Br X d e sc ρ H fun b H₁=>IW op a b H₁ fun c=>(if c=true then Br X d e2 sc ρ H₁ fun b2 H₂=>IW op2 b b2 H₂ fun c2=>Φ c2 H₂ else Φ false H₁)
 |_,_,_,_,_,_,_=>False
noncomputable def O7 (X:Cx) (d:Nat):List Expr->List (Str×NameKind)->BA->Aj->(Bool->Aj->Prop)->Prop
 |[],_,_,H,Φ=>Φ true H
 |e::r,sc,ρ,H,Φ=>Qa X d e sc ρ H (fun k=>Br X d e sc ρ H k) fun b H₁=>(if b=true then O7 X d r sc ρ H₁ Φ else Φ false H₁)
noncomputable def Jg (X:Cx) (d:Nat):List Comprehension->List (Str×NameKind)->BA->List (Str×NameKind)->BA->(BA->HO->Aj->(HO->Aj->Prop)->Prop)->HO->Aj->(HO->Aj->Prop)->Prop
 |[],_,_,_,_,_,_,_,_=>False
 |[⟨t,it,ifs,0⟩],so,ρo,sc,ρ,emit,acc,H,Φ=>Br X d it so ρo H fun a H₁=>Cd a H₁ fun l guard H₂=>CU (fun x acc H₃ k=>GH sc t x ρ fun ρ'=>O7 X d ifs sc ρ' H₃ fun b H₄=>(if b=true then emit ρ' acc H₄ k else k acc H₄)) guard l acc H₂ Φ
 |⟨t,it,ifs,0⟩::gs,so,ρo,sc,ρ,emit,acc,H,Φ=>Br X d it so ρo H fun a H₁=>Cd a H₁ fun l guard H₂=>CU (fun x acc H₃ k=>GH sc t x ρ fun ρ'=>O7 X d ifs sc ρ' H₃ fun b H₄=>
   (if b=true then Jg X d gs sc ρ' sc ρ' emit acc H₄ k else k acc H₄)) guard l acc H₂ Φ
 |_,_,_,_,_,_,_,_,_=>False
end
def Yv(e:Expr):Bool:=e.ctorIdx==25
def ON(e:Expr):Option (Str×Expr):=if h:e.ctorIdx=16 then Expr.Call.elim (motive_1:=fun b=>Option (Str×Expr)) e h fun f a c b=>(if c.isEmpty&&a.length==1 then(EK f).map fun x=>(x,a.headD e)else none)else none
theorem UI{r:Str×Expr}(h:ON e=some r):∃q p,e=.Call (.Name r.1 q) [r.2] [] p:=by
 by_cases q:e.ctorIdx=16
 .obtain⟨g,as,ks,p,rfl⟩:=SL q;have h:(if ks.isEmpty&&as.length==1 then(EK g).map fun x=>(x,as.headD (.Call g as ks p))else none)=some r:=h
  refine EY (ks.isEmpty&&as.length==1) (fun z=>?_) fun z=>?_
  .rw[z]at h;exact Gi h
  .rw[z,if_pos rfl]at h;have z:=Aa z;obtain⟨a,t,rfl,z2⟩:=Cr (eq_of_beq z.2);cases List.eq_nil_of_length_eq_zero z2;cases List.isEmpty_iff.mp z.1;obtain⟨x,hx,e⟩:=Option.map_eq_some_iff.mp h;obtain⟨y,rfl⟩:=Kc hx;subst e;exact⟨y,p,rfl⟩
 .unfold ON at h;rw[dif_neg q]at h;exact Gi h
def HM(e:Expr):Option (Str×Expr):=match ON e with
 |some p=>if p.1=ofString "enumerate" then some p else none
 |none=>none
theorem T5{p:Str×Expr}(h:HM e=some p):p.1=ofString "enumerate" /\∃q r,e=.Call (.Name p.1 q) [p.2] [] r:=by
 unfold HM at h;refine CK (ON e) (fun q=>?_) fun a q=>?_
 .rw[q]at h;exact Gi h
 .rw[q]at h;dsimp only at h;by_cases z:a.1=ofString "enumerate"
  .rw[if_pos z]at h;cases h;exact⟨z,UI q⟩
  .rw[if_neg z]at h;exact Gi h
def Nf(X:Cx)(d:Nat)(t it:Expr)(c:List (Str×NameKind))(e:BA)(H:Aj)(k:List V->(Aj->Prop)->Aj->Prop):Prop:=
 match HM it with
 |some p=>FL (Yv t&&WE (c.lookup p.1)) (Br X d p.2 c e H fun a b=>match a with
   |.tup l=>l.length<Ar/\k (l.zipIdx.map fun p=>.tup [.int p.2,p.1]) (fun f=>True) b
   |_=>False)
 |none=>Br X d it c e H fun a b=>Cd a b k
structure Ny(X:Cx)(d:Nat)(t:Expr)(b:List Stmt)(sc:List (Str×NameKind))(ρ:BA)(H:Aj)(kn:BA->Aj->Prop)(kr:V->Aj->Prop):Prop where
 go:∀(A:Around)(G:Gh)(env:Env)(own:Addr->Prop)(s:Shared),B4 d A->St X G H sc ρ env own s->∀R:Result->Shared->Prop,
  (∀G' H' ρ' s',At G own s G' s'->St X G' H' sc ρ' env own s'->kn ρ' H'->R (.ok .next) s') ->
  (∀G' H' v val s',At G own s G' s'->Az X G' H' s'->VR G' v val->kr v H'->R (.ok (.ret val)) s') ->
  codeAny (model X.prog X.w) A (.whileLoop t b [] env) R s
def Ug(X:Cx)(d:Nat)(t:Expr)(v:V)(j:List (Str×NameKind))(g:BA)(H:Aj)(kn:BA->Aj->Prop):Prop:=
 t.casesOn (fun c c c=>False) (fun c c c=>False) (fun c c c c=>False) (fun c c c=>False) (fun c c c c=>False) (fun c c c c=>False) (fun c c c=>False) (fun c c c=>False) (fun c c c c=>False) (fun c c c c=>False) (fun c c c c c=>False) (fun c c c c=>False) (fun c c=>False) (fun c c=>False) (fun c c=>False) (fun c c c c=>False) (fun c c c c=>False) (fun c c c c=>False) (fun c c=>False) (fun c c c=>False) (fun o x c=>Br X d o j g H fun a e=>DH a x v e fun f=>kn g f) (fun o i c=>Br X d o j g H fun a e=>Br X d i j g e fun b f=>NG a b v f fun k=>kn g k) (fun c c=>False) (fun x c=>EO j x v g fun h=>kn h H) (fun c c=>False) (fun m c c=>TN v fun l=>BW j m l g fun h=>kn h H) (fun c c c c=>False)
def ZO:V->Bool
 |.none=>true
 |.int _=>true
 |_=>false
abbrev Xe(l:List Stmt)(p:Prop):Prop:=match l with |[]=>p |_=>False
abbrev ZP(o:Option Expr)(k:Expr->Prop):Prop:=match o with |some e=>k e |none=>False
abbrev ZN(l:List Expr)(k:Expr->Prop):Prop:=match l with |[e]=>k e |_=>False
mutual
noncomputable def FF (X:Cx) (d:Nat):List Stmt->List (Str×NameKind)->BA->Aj->(BA->Aj->Prop)->(V->Aj->Prop)->Prop
 |[],_,ρ,H,kn,_=>kn ρ H
 |st::r,sc,ρ,H,kn,kr=>Lj X d st sc ρ H (fun ρ' H'=>FF X d r sc ρ' H' kn kr) kr
noncomputable def Lj (X:Cx) (d:Nat) (st:Stmt) (sc:List (Str×NameKind)) (ρ:BA) (H:Aj) (kn:BA->Aj->Prop) (kr:V->Aj->Prop):Prop:=st.casesOn (motive_2:=fun zz=>Prop) (fun zz zz zz zz zz zz zz zz zz zz=>False) (fun zz zz zz zz zz zz zz zz zz zz=>False) (fun zz zz zz zz zz zz zz zz zz zz zz=>False)
  (fun e zz=>ZP e fun e=>Br X d e sc ρ H kr)
  (fun zz zz=>False)
  (fun ts e zz=>ZN ts fun t=>Br X d e sc ρ H fun v H₁=>Ug X d t v sc ρ H₁ kn)
  (fun zz zz zz zz zz zz zz=>False) (fun zz zz zz zz=>False) (fun zz zz zz zz zz=>False)
  (fun t it b o zz=>Xe o (Nf X d t it sc ρ H fun l guard H₂=>GJ (fun x ρ' H₃ k=>GH sc t x ρ' fun ρ''=>FF X d b sc ρ'' H₃ k kr) guard l ρ H₂ kn))
  (fun zz zz zz zz zz=>False)
  (fun t b o zz=>Xe o (Ny X d t b sc ρ H kn kr))
  (fun t b o zz=>Qa X d t sc ρ H (fun k=>Br X d t sc ρ H k) fun c H₁=>(if c=true then FF X d b sc ρ H₁ kn kr else FF X d o sc ρ H₁ kn kr))
  (fun zz zz zz=>False) (fun zz zz zz=>False) (fun zz zz zz=>False) (fun zz zz zz=>False) (fun zz zz zz zz zz=>False) (fun zz zz zz zz zz=>False) (fun zz zz zz=>False) (fun zz zz=>False) (fun zz zz zz zz=>False) (fun zz zz=>False) (fun zz zz=>False)
  (fun e zz=>Br X d e sc ρ H fun v H₁=>FL (ZO v) (kn ρ H₁))
  (fun zz=>False) (fun zz=>False) (fun zz=>False)
end
def Sr(a:List (Str×NameKind))(b:List (Str×V)):BA:=
 a.filterMap fun p=>match p.2 with
  |.local |.cell=>some (p.1,b.lookup p.1)
  |_=>none
def DW(X:Cx)(d:Nat)(e:List (Str×NameKind))(t:Env->Sem Value)(f:BA)(H:Aj)(g:V->Aj->Prop):Prop:=
 ∀(A:Around)(G:Gh)(env:Env)(own:Addr->Prop)(s:Shared),B4 d A->St X G H e f env own s->∀Q:Value->Shared->Prop,
  (∀a c v val b,At G Cs s a b->Az X a c b->VR a v val->g v c->Q val b)->wpAny (model X.prog X.w) A (t env) Q (fun h h=>False) s
def Xt(X:Cx)(d:Nat)(e:List (Str×NameKind))(t:Env->Sem (List Value))(f:BA)(H:Aj)(g:List V->Aj->Prop):Prop:=
 ∀(A:Around)(G:Gh)(env:Env)(own:Addr->Prop)(s:Shared),B4 d A->St X G H e f env own s->∀Q:List Value->Shared->Prop,
  (∀a c v val b,At G Cs s a b->Az X a c b->BJ a v val->g v c->Q val b)->wpAny (model X.prog X.w) A (t env) Q (fun h h=>False) s
def QC(X:Cx)(d:Nat)(f:List (Str×NameKind))(t:Env->Sem Bool)(g:BA)(H:Aj)(h:Bool->Aj->Prop):Prop:=
 ∀(A:Around)(G:Gh)(env:Env)(own:Addr->Prop)(s:Shared),B4 d A->St X G H f g env own s->∀Q:Bool->Shared->Prop,
  (∀c e b a,At G Cs s c a->Az X c e a->h b e->Q b a)->wpAny (model X.prog X.w) A (t env) Q (fun i i=>False) s
def Zh(X:Cx)(d:Nat)(t:Sem Value)(G:Gh)(H:Aj)(e:V->Aj->Prop):Prop:=
 ∀(A:Around)(s:Shared),B4 d A->Az X G H s->∀Q:Value->Shared->Prop,
  (∀a c v val b,At G Cs s a b->Az X a c b->VR a v val->e v c->Q val b)->wpAny (model X.prog X.w) A t Q (fun f f=>False) s
structure Cx.Ok(X:Cx):Prop where
 kin:X.K.In X.base
 nolimit:X.base.NoLimit
 g:X.base.Ns mainGlobals X.mg
 b:X.base.Ns builtinsNs X.mb
 builtins:∀x:Str,x≠ "__name__" ->X.mb x=bootBuiltins x
 low:∃o,X.base.get? sysModules=some o
structure N0(X:Cx)(c:String):Prop where
 makes:makesIn X.K (X.cls c)=true
 init:findIn X.K (.ref (X.cls c)) "__init__" =some (some (.ref (X.fn (Hl c))))
 initF:typeIn X.K (.ref (X.fn (Hl c)))=some (.type "function")
 ga:findIn X.K (.ref (X.cls c)) "__getattribute__" =some (some (.builtin "object.__getattribute__"))
 gat:findIn X.K (.ref (X.cls c)) "__getattr__" =some none
 sa:findIn X.K (.ref (X.cls c)) "__setattr__" =some (some (.builtin "object.__setattr__"))
 over:plainOver X.K (X.cls c)=true
 hasD:hasDictIn X.K (X.cls c)=true
 fld:∀x,Dw c x=true->findIn X.K (.ref (X.cls c)) x=some none
 met:∀x p,Fl c x=some p->findIn X.K (.ref (X.cls c)) x=some (some (.ref (X.fn p)))/\typeIn X.K (.ref (X.fn p))=some (.type "function")
def Re:Bi->Value
 |.len=>.builtin "len" |.range=>.type "range" |.max=>.builtin "max" |.tuple=>.type "tuple" |.list=>.type "list" |.sorted=>.builtin "sorted" |.set=>.type "set" |.dict=>.type "dict"
 |.abs=>.builtin "abs" |.sum=>.builtin "sum" |.enumerate=>.type "enumerate" |.int=>.type "int" |.str=>.type "str" |.isinstance=>.builtin "isinstance" |.bool=>.type "bool"
def Z9(X:Cx)(x:Str):GV->Prop
 |.fn p=>X.mg x=some (.ref (X.fn p))
 |.cls c=>X.mg x=some (.ref (X.cls c))/\Cf c=true
 |.bi b=>X.mg x=none/\bootBuiltins x=some (Re b)
 |.val v=>∃val,X.mg x=some val/\∀G:Gh,(∀a d,X.gtup a=some d->G.tup a=some d)->VR G v val
structure Cx.All(X:Cx):Prop where
 ok:X.Ok
 cls:∀c,Cf c=true->N0 X c
 g:∀x v,gv x=some v->Z9 X x v
 fnK:∀x p,gv x=some (.fn p)->keepIn X.K (.ref (X.fn p))=true
 clsK:∀c,Cf c=true->keepIn X.K (.ref (X.cls c))=true
 metK:∀c x p,Fl c x=some p->keepIn X.K (.ref (X.fn p))=true
structure WO(X:Cx)(p:String)(ps:List Str)(body:List Stmt)(sc:List (Str×NameKind)):Prop where
 obj:Dd fun o fd=>Xd (X.base.get? (X.fn p)=some o) (o.data=.func fd) (X.base.CodeRec fd.code fd.qualname) (fd.body=.stmts body) (fd.closure=[]) (fd.scope.names=sc) (fd.scope.kind=.function) (fd.scope.isCoroutine=false) (fd.scope.isGenerator=false) (fd.globals=mainGlobals) (fd.builtins=builtinsNs) (∀vals:List Value,vals.length=ps.length->bindArgs fd ⟨vals,[]⟩=pure (ps.zip vals))
def N4(a:List (Str×NameKind))(b:List Str):Bool:=
 b.all (fun x=>a.lookup x==some .local||(a.lookup x==some .cell&&a.any fun q=>q.1==x&&q.2==.cell))&&decide (b.Nodup)&&decide ((a.map (·.1)).Nodup)&&a.all (fun q=>q.2 != .free)
def E2:List Stmt->Nat->Stmt
 |[],_=>.Pass default
 |a::_,0=>a
 |_::r,n+1=>E2 r n
def Bg(s:Stmt):List Stmt:=if h:s.ctorIdx=0 then Stmt.FunctionDef.elim (motive_2:=fun a=>List Stmt) s h fun a a b a a a a a a a=>b else if h:s.ctorIdx=2 then Stmt.ClassDef.elim (motive_2:=fun a=>List Stmt) s h fun a a a b a a a a a a a=>b else[]
def Cn(s:Stmt):List (Str×NameKind):=if h:s.ctorIdx=0 then Stmt.FunctionDef.elim (motive_2:=fun a=>List (Str×NameKind)) s h fun a a a a a a s a a a=>s.names else[]
def FC(s:Stmt):List Str:=if h:s.ctorIdx=0 then Stmt.FunctionDef.elim (motive_2:=fun b=>List Str) s h fun b a b b b b b b b b=>a.args.map (·.arg)else[]
def Zb:Nat->Stmt:=E2 PySem.Challenge.pw_nz0396_01.main.body
def Yq(i:Nat):Option Nat->Stmt
 |none=>Zb i
 |some j=>E2 (Bg (Zb i)) j
def RE:List (String×Nat×Option Nat):=[
 ("place_of",4,none),("trimmed",5,none),("Binary.__init__",6,some 0),("Binary.constant",6,some 1),("Binary.added",6,some 2),("Binary.plus",6,some 3),("Binary.less",6,some 4),("Binary.total",6,some 6),("Binary.of_gates",6,some 7),("Binary.chosen",6,some 10),
 ("PlainMatrices.__init__",8,some 0),("PlainMatrices.made",8,some 1),("PlainMatrices.keys_of",8,some 5),("PlainMatrices.gates_of",8,some 6),("PlainMatrices.union",8,some 7),("PlainMatrices.minus",8,some 9),("PlainMatrices.join",8,some 11),
 ("parts_of",13,none),("FreeNames.__init__",14,some 0),("FreeNames.of",14,some 1),("FreeNames.within",14,some 2),
 ("Translator.__init__",15,some 0),("Translator.matrix_of",15,some 1),("Translator.inputs",15,some 2),("Translator.opened",15,some 3),("Translator.matrix",15,some 4),("Translator.matrix_of_plain",15,some 5),("Translator.of_two",15,some 7),("Translator.number",15,some 9),("Translator.number_of_plain",15,some 10),
 ("Circuit.__init__",17,some 0),("Circuit.size",17,some 1),("Circuit.kind",17,some 2),("Circuit.parts",17,some 3),("Circuit.new_gate",17,some 4),("Circuit.new_input",17,some 5),("Circuit.all_of",17,some 6),("Circuit.any_of",17,some 7),("Circuit.both",17,some 8),("Circuit.either",17,some 9),("Circuit.implies",17,some 10),("Circuit.iff",17,some 11),("Circuit.unlike",17,some 12),("Circuit.choose",17,some 13),
 ("minus",22,none),("is_within",23,none),("Universe.__init__",25,some 0),("Universe.size",25,some 1),("Bounds.__init__",26,some 0),("Bounds.add",26,some 1),("Bounds.want_set",26,some 2),("Bounds.bound",26,some 4),("Bounds.size",26,some 5),
 ("_law_tape",28,none),("_law_draw",29,none),("_law_lots",30,none),("_law_set",31,none),("_law_with",32,none),("_law_body",33,none),("_law_atoms",34,none),("_law_worth",35,none),("_law_truths",36,none),("_law_read",37,none),("law",38,none)]
def Ni:List (String×Nat×Option Nat)->Nat->String×Nat×Option Nat
 |[],_=>default
 |a::_,0=>a
 |_::r,n+1=>Ni r n
def Rb(k:Nat):String:=(Ni RE k).1
def Bt(k:Nat):Stmt:=Yq (Ni RE k).2.1 (Ni RE k).2.2
structure BN(X:Cx):Prop where
 all:X.All
 fn:∀k,k<64->WO X (Rb k) (FC (Bt k)) (Bg (Bt k)) (Cn (Bt k))
def OA(X:Cx):Prop:=∀(H:Aj)(ls:Nat)(a:List Int),H[ls]? =some (.flist (a.map V.int))->a.length<=63->Ap X 101 "law" [.loc ls] H (fun v b=>v=.bool true/\b[ls]? =some (.flist (a.map V.int)))
def X:Cx:= @Classical.epsilon Cx ⟨⟨PySem.Challenge.pw_nz0396_01,⟨fun a a=>0,⟨fun a=>0,id,id,fun a=>0,fun a a=>0,fun a=>false,fun a=>0,.refcount,.text,fun a=>0,fun a=>none,fun a=>false,fun a a a=>true,fun a a a=>true,true,fun a=>false,fun a=>none,fun a=>none,fun a a a=>0,fun a a=>none,fun a=>none,fun a=>(0,false, "UTC"),fun a=>none,id,fun a=>false⟩⟩,default,[],fun a=>none,fun a=>none,fun a=>0,fun a=>0,fun a=>none,fun a=>none⟩⟩ fun X=>BN X/\¬OA X
theorem TP(h:BN X->OA X){Y:Cx}(F:BN Y):OA Y:=Classical.byContradiction fun n=>let q:=Classical.epsilon_spec (p:=fun X=>BN X/\¬OA X) ⟨Y,F,n⟩;q.2 (h q.1)
def Qr:List (String×Nat):=[
 ("place_of",28),("trimmed",35),("parts_of",322),("minus",624),("is_within",631),("_law_tape",769),("_law_draw",776),("_law_lots",783),("_law_set",790),("_law_with",797),("_law_body",804),("_law_atoms",809),("_law_worth",814),("_law_truths",819),("_law_read",826),("law",831),
 ("Binary.constant",56),("Binary.added",63),("Binary.plus",70),("Binary.less",75),("Binary.total",87),("Binary.of_gates",92),("Binary.chosen",109),("PlainMatrices.made",154),("PlainMatrices.keys_of",176),("PlainMatrices.gates_of",181),("PlainMatrices.union",186),("PlainMatrices.minus",196),("PlainMatrices.join",206),
 ("FreeNames.of",343),("FreeNames.within",348),("Translator.matrix_of",372),("Translator.inputs",379),("Translator.opened",386),("Translator.matrix",393),("Translator.matrix_of_plain",400),("Translator.of_two",414),("Translator.number",428),("Translator.number_of_plain",435),
 ("Circuit.size",489),("Circuit.kind",496),("Circuit.parts",503),("Circuit.new_gate",510),("Circuit.new_input",517),("Circuit.all_of",524),("Circuit.any_of",529),("Circuit.both",536),("Circuit.either",543),("Circuit.implies",550),("Circuit.iff",557),("Circuit.unlike",564),("Circuit.choose",571),
 ("Universe.size",652),("Bounds.add",708),("Bounds.want_set",715),("Bounds.bound",729),("Bounds.size",736),
 ("Binary.__init__",49),("PlainMatrices.__init__",149),("FreeNames.__init__",336),("Translator.__init__",367),("Circuit.__init__",482),("Universe.__init__",645),("Bounds.__init__",701)]
def Ub:List (String×Nat):=[("Binary",131),("Matrices",312),("FreeNames",351),("Translator",464),("Circuit",574),("Universe",683),("Bounds",760)]
def NR:List (String×Nat)->String->Addr
 |[],_=>0
 |p::r,x=>if p.1==x then p.2 else NR r x
def Ln:String->Addr:=NR Qr
def FK:String->Addr:=NR Ub
def ZE:List Addr:=Qr.map (·.2)++[131,130,234,233,262,261,312,311,351,350,464,463,574,573,683,682,760,759]
def KoG(g:Nat->Option Obj):Frag:=ZE.filterMap fun a=>(g a).map (a,·)
def Kf(h:Heap):Frag:=KoG h.get?
def PM(o:Obj):Bool:=match o.data with |.seq .. =>(match o.cls with |.type t=>t== "list" |_=>false) |_=>false
def QN(h:Heap):Heap:={ h with objs:=h.objs.map fun o=>if PM o then{ o with data:=.freed }else o }
def N1(h:Nat->Option Obj)(code:Value)(a:Str):Bool:=match code with
 |.ref c=>(match h c with |some o=>(match o.data with |.fields b=>(match b[1]? with |some (Value.str q _)=>q==a |_=>false) |_=>false) |none=>false)
 |_=>false
def YR(h:Nat->Option Obj)(o:Obj)(fd:FuncData):Bool:=
 fd.closure.isEmpty&&fd.scope.kind==.function&& !fd.scope.isCoroutine&& !fd.scope.isGenerator&&beq fd.globals mainGlobals&&beq fd.builtins builtinsNs &&
 fd.params.posonlyargs.isEmpty&&fd.params.kwonlyargs.isEmpty&&fd.params.vararg.isNone&&fd.params.kwarg.isNone&&(match fd.defaults with |.none=>true |_=>false) &&
 N1 h fd.code fd.qualname
def TU(h:Nat->Option Obj)(a:Addr):Option (Bool×FuncBody×List (Str×NameKind)×List Str):=match h a with
 |some o=>(match o.data with |.func b=>some (YR h o b,b.body,b.scope.names,b.params.args.map (·.arg)) |_=>none)
 |none=>none
def W3(k:Nat):Option (Bool×FuncBody×List (Str×NameKind)×List Str):=some (true,.stmts (Bg (Bt k)),Cn (Bt k),FC (Bt k))
def XY(K:Frag)(c:String):(Bool×Bool×Bool)×List (Option (Option Value))×Option Value:=
 ((makesIn K (FK c),plainOver K (FK c),hasDictIn K (FK c)),[findIn K (.ref (FK c)) "__init__",findIn K (.ref (FK c)) "__getattribute__",findIn K (.ref (FK c)) "__getattr__",findIn K (.ref (FK c)) "__setattr__"],typeIn K (.ref (Ln (Hl c))))
def XL(c:String):(Bool×Bool×Bool)×List (Option (Option Value))×Option Value:=
 ((true,true,true),[some (some (.ref (Ln (Hl c)))),some (some (.builtin "object.__getattribute__")),some none,some (some (.builtin "object.__setattr__"))],some (.type "function"))
def ZG:GV->Option Value
 |.fn p=>some (.ref (Ln p))
 |.cls c=>some (.ref (FK c))
 |.bi _=>none
 |.val (.int i)=>some (.int i (if i=1 then 196 else 199))
 |.val _=>some (.ref 315)
def SaG(g:Nat->Option Obj)(h:Heap):Bool:=
 h.isNs mainGlobals&&h.isNs cStatics&&(KoG g).all (fun p=> !PM p.2)&&(match h.get? sysModules with |some o=> !PM o |none=>false) &&
 MI.all (fun p=>match p.2 with |.fn f=>keepIn (KoG g) (.ref (Ln f)) |_=>true)&&IP.all (fun p=>keepIn (KoG g) (.ref (FK p.1)))&&Sf.all (fun p=>keepIn (KoG g) (.ref (Ln p.2.2)))
def SA(h:Heap):=SaG h.get? h
def Pn(h:Heap):Option (Value×Array Value):=match h.get? 315 with
 |some o=>(match o.data with |.seq a _=>some (o.cls,a) |_=>none)
 |none=>none
def XC:Option (Value×Array Value):=some (.type "tuple",#[.str (ofString "all") 584,.str (ofString "exists") 585,.str (ofString "comp") 586,.str (ofString "sum") 587])
def VfG(g:Nat->Option Obj)(h:Heap):=(SaG g h,MI.map (fun p=>h.nsMap mainGlobals (ofString p.1)),(List.range 64).map (fun k=>TU g (Ln (Rb k))),IP.map (fun p=>XY (KoG g) p.1),
 (IP.flatMap fun p=>p.2.map fun x=>findIn (KoG g) (.ref (FK p.1)) (ofString x)),Sf.map (fun p=>(findIn (KoG g) (.ref (FK p.1)) (ofString p.2.1),typeIn (KoG g) (.ref (Ln p.2.2)))),Pn h)
def VF(h:Heap):=VfG h.get? h
def M6:=(true,MI.map (fun p=>ZG p.2),(List.range 64).map W3,IP.map (fun p=>XL p.1),(IP.flatMap fun p=>p.2.map fun a=>(some none:Option (Option Value))),Sf.map (fun p=>((some (some (.ref (Ln p.2.2))):Option (Option Value)),(some (.type "function"):Option Value))),XC)
section
open PySem.W.Fast
section
def Wo(p:Program)(w:World)(a:Option Value):Nat->SharedT->Thread->Option (SharedT×Thread)
 |0,s,t=>some (s,t)
 |n+1,s,t=>match through t with
  |true=>some (s,t)
  |false=>match tw6613529449190102663 11 a t with
   |false=>none
   |true=>match tw10156331382660048174 (tw11892475500146522536 tw14364793385576792824) p w s t with
    |some (b,c)=>Wo p w a n b c
    |none=>none
theorem Xp{s:SharedT}{t:Thread}:Wo i5 Y c7 (n+1) s t=((through t).rec ((tw6613529449190102663 11 c7 t).rec none ((tw10156331382660048174 (tw11892475500146522536 tw14364793385576792824) i5 Y s t).rec none fun r=>Wo i5 Y c7 n r.1 r.2)) (some (s,t)):Option (SharedT×Thread)):=by kernel_rfl
theorem Nv:∀{n:Nat}{s:SharedT}{t:Thread}{a:SharedT}{b:Thread},Wo i5 Y c7 n s t=some (a,b)->through b=true->topRun treeTable i5 Y 11 c7 (n+1) s.abs t=some a.abs
 |0,s,t,a,b,h,d=>by
  have h:some (s,t)=some (a,b):=h;cases h;unfold topRun;rw[d]
 |n+1,s,t,a,b,h,d=>by
  rw[Xp]at h;unfold topRun;refine Ce (through t) (fun q=>?_) fun q=>?_
  .rw[q]at h;cases h;rfl
  .rw[q,<- te6613529449190102663,<- te10156331382660048174,<- te11892475500146522536,<- te14364793385576792824]at h;dsimp only at h⊢;refine EY (stepOk 11 c7 t) (fun e=>?_) fun e=>?_
   .rw[e]at h;cases h
   .rw[e]at h;dsimp only at h⊢;refine CK (stepT (denote treeTable) i5 Y s t) (fun c=>?_) fun r c=>?_
    .rw[c]at h;cases h
    .obtain⟨f,g⟩:=r;rw[c]at h;rw[stepT_spec c];exact Nv h d
def bt(P:Params):BT:=.node (boot_o_0 P) (.node (boot_o_1 P) (.node (boot_o_3 P) (.node (boot_o_7 P) .nil .nil) .nil) (.node (boot_o_5 P) (.node (boot_o_9 P) .nil .nil) .nil)) (.node (boot_o_2 P) (.node (boot_o_4 P) (.node (boot_o_8 P) .nil .nil) .nil) (.node (boot_o_6 P) (.node (boot_o_10 P) .nil .nil) .nil))
def s0(w:World)(os:OsState):SharedT:=⟨bt w.params,11,{},#[],boot_drawn,boot_toks,os⟩
abbrev pr:=PySem.Challenge.pw_nz0396_01
def qr:Program:=view pr [38]
def IC:List Str:=(["_wall", "YES", "NO", "place_of", "trimmed", "Binary", "PlainMatrices", "Closures", "Matrices",
  "DECLARING", "parts_of", "FreeNames", "Translator", "Circuit", "FinderError", "BoundFault", "minus", "is_within",
  "Universe", "Bounds", "_law_tape", "_law_draw", "_law_lots", "_law_set", "_law_with", "_law_body", "_law_atoms",
  "_law_worth", "_law_truths", "_law_read"]:List String).map ofString
def gTr(s:SharedT)(a:Nat):Option Obj:=match Nat.blt a s.n with |true=>alive ((s.tree.get a).getD default) |false=>none
theorem gTe(s:SharedT):s.abs.heap.get? =gTr s:=funext fun a=>by
 show(absHeap s.tree s.n s.life).get? a=_;unfold gTr;by_cases h:a<s.n
 .rw[show Nat.blt a s.n=true from Nat.ble_eq_true_of_le h];unfold Heap.get?;rw[absHeap_at,if_pos h];generalize (s.tree.get a).getD default=o;obtain⟨c,d,e,f⟩:=o;cases e<;>rfl
 .rw[show Nat.blt a s.n=false from Bool.eq_false_iff.mpr fun z=>h (Nat.le_of_ble_eq_true z),abs_get_none h]
theorem Vz:∀(w:World)(os:OsState),((Wo pr w (some (.ref 6)) 6000 (s0 w os) (topStub pr)).map fun r=>(through r.2,(staticsOk (importedModules pr.main.body) (boot_heap w.params) r.1.abs.heap&&namesBound pr r.1.abs.heap&&gensDone r.1.abs&&laidKept (boot_heap w.params) r.1.abs.heap),
  openSeen qr IC (importedModules pr.main.body) (fun a=>true) true r.1.abs,VfG (gTr r.1) r.1.abs.heap))=some (true,true,openGood qr IC,M6):=fun w os=>by kernel_rfl
theorem VY(w:World)(os:OsState):(s0 w os).abs=⟨boot_heap w.params,#[],boot_drawn,boot_toks,os⟩:=rfl
theorem RD:opening pr=plainProg pr.main.scope.names:=by kernel_rfl
theorem S9:∀s,fenceModules? pr s=some s:=fun s=>by kernel_rfl
theorem GC(w:World):((boot_heap w.params).isNs mainGlobals,(boot_heap w.params).objs.size,(boot_heap w.params).nsMap mainGlobals "__annotations__")=(true,11,some (.ref 6)):=by kernel_rfl
theorem UT{d e:Type}{f:Shared->d}{b:d}{ob:Shared->e}{ex:e}{os:OsState}{g:SharedT×Thread->Bool}{a:SharedT×Thread->e}
  (run:((Wo pr Y (some (.ref 6)) 6000 (s0 Y os) (topStub pr)).map fun r=>(through r.2,g r,f r.1.abs,a r))=some (true,true,b,ex))(aa:∀r,a r=ob r.1.abs)
  (i:∀r:SharedT×Thread,g r=(staticsOk (importedModules pr.main.body) (boot_heap Y.params) r.1.abs.heap&&namesBound pr r.1.abs.heap&&gensDone r.1.abs&&laidKept (boot_heap Y.params) r.1.abs.heap)) :
  (topFrom treeTable pr Y 10000 ⟨boot_heap Y.params,#[],boot_drawn,boot_toks,os⟩).map (fun s=>(f s,ob s))=some (b,ex):=by
 obtain⟨⟨j,o⟩,k,c⟩:=Option.map_eq_some_iff.mp run;obtain⟨l,c⟩:=Prod.mk.inj c;obtain⟨h,c⟩:=Prod.mk.inj c;obtain⟨m,n⟩:=Prod.mk.inj c;rw[i]at h;have r:=topRun_mono (10000-6001) _ _ _ _ (Nv k l);rw[VY]at r;have a:(boot_heap Y.params).isNs mainGlobals=true/\(boot_heap Y.params).objs.size=11/\(boot_heap Y.params).nsMap mainGlobals "__annotations__" =some (.ref 6):=⟨congrArg (·.1) (GC Y),congrArg (·.2.1) (GC Y),congrArg (·.2.2) (GC Y)⟩;have t:topFrom treeTable pr Y 10000 ⟨boot_heap Y.params,#[],boot_drawn,boot_toks,os⟩=some j.abs:=by
  unfold topFrom;dsimp only;rw[a.1,a.2.1,a.2.2];rw[show(true&&((#[]:Array GenState).size==0))=true from rfl];dsimp only;rw[show(10000:Nat)=6000+1+(10000-6001)from rfl,r];dsimp only[bind_some];rw[h]
 rw[t,map_some];rw[<- m,<- n,aa]
theorem HU:LeftO pr qr IC (fun a=>true) (fun s=>VF s.heap) (fun a=>M6) 10000 true:=fun w=>by
 obtain⟨⟨h,c,d,k,os⟩,e,b⟩:=Option.map_eq_some_iff.mp (boot_open (p:=pr) (N:=10000) RD rfl S9 w);simp only[Prod.mk.injEq]at b;obtain⟨rfl,rfl,rfl,rfl⟩:=b;unfold openEnds;rw[e,bind_some];exact UT (ob:=fun s=>VF s.heap) (Vz w os) (fun r=>(congrArg (VfG · r.1.abs.heap) (gTe r.1)).symm) fun a=>rfl
end
end
theorem Uq:(defOf qr (ofString "law")).map (fun x=>(x.1.name,(pr.theDef (ofString "law")),kwWritten? x.1.params.kwonlyargs x.1.params.kw_defaults))=some (ofString "law",(defOf qr (ofString "law")).map (fun x=>(x.1.params,x.1.body,x.1.scope)),(defOf qr (ofString "law")).map (·.2)):=by kernel_rfl
abbrev TD:OpenRow:=PySem.Challenge.rw_nz0396_01.row
theorem nrA(k:Look):∀(l:List Stmt)(n:Nat),noRoadLSs k (l.take n)=true->noRoadLSs k (l.drop n)=true->noRoadLSs k l=true:=by
 intro l;induction l with
 |nil=>intro n a b;rfl
 |cons s r i=>
  intro n a b;cases n with
  |zero=>exact b
  |succ n=>
   have a:(noRoadLS k s&&noRoadLSs k (r.take n))=true:=a
   obtain⟨c,d⟩:=Aa a;show(noRoadLS k s&&noRoadLSs k r)=true;rw[c,i n d b];rfl
theorem nrb{k:Bool}{b:List Str}{l:List Stmt}(e:b=[])(h:noRoadLSs {strict:=k,foot:=none,bare:=[]} l=true):noRoadLSs {strict:=k,foot:=none,bare:=b} l=true:=by rw[e];exact h
theorem UQ:PySem.Challenge.rw_nz0396_01.wellSaid=true:=by
 delta OpenLaw.wellSaid OpenRow.wellSaid OpenRow.partSaid looksOpen;repeat' with_reducible refine look_both ?_ ?_
 rotate_left 4;refine nrb ?_ (nrA _ _ 8 ?_ (nrA _ _ 8 ?_ (nrA _ _ 8 ?_ (nrA _ _ 8 ?_ ?_))))
 all_goals decide +kernel
theorem Xf:chainsOk qr=true:=by decide +kernel
theorem Ws:opensWell TD.prog=true:=by decide +kernel
theorem X1:(frees TD.toRowW&&TD.within.isEmpty)=true:=by decide +kernel
theorem Xw:(chainsOk qr&&opensWell TD.prog&&(frees TD.toRowW&&TD.within.isEmpty))=true:=by rw[Xf,Ws,X1];rfl
theorem T4:TD.prog.bare:=⟨rfl,rfl,rfl,rfl,rfl,by decide +kernel⟩
theorem Td:TD.toRowW.promised:=⟨[.list []],by decide +kernel,by decide +kernel⟩
section
variable {d:Nat} {G:Gh} {H:Aj} {s s':Shared} {Φ:V->Aj->Prop} {Q:Value->Shared->Prop} {A:Around}
def Bj(X:Cx)(G:Gh)(s:Shared)(Φ:V->Aj->Prop)(Q:Value->Shared->Prop):Prop:=
 ∀a b v val s',At G Cs s a s'->Az X a b s'->VR a v val->Φ v b->Q val s'
theorem PF:∀b o,s.heap.get? b=some o->({ s with toks:=n }:Shared).heap.get? b=some o:=fun a a e=>e
theorem BX(k:Bj X G s Φ Q)(a:Az X G H s)(n:Nat)(r:VR G v x)(b:Φ v H):Q x { s with toks:=n }:=
 k G H v x _ (.tok n _) (a.keeps PF) r b
theorem CM(k:Bj X G s Φ Q)(a:Az X G H s)(r:VR G v x)(b:Φ v H):Q x s:=k G H v x _ (.refl ..) a r b
theorem Fs(h:Heap)(a:List Value):(h.push { cls:=.type "tuple",data:=.seq a.toArray }).IsTuple h.objs.size a.toArray:=⟨_,get?_push_size _ rfl,rfl,0,rfl⟩
theorem GN(h:Heap)(a:List Value):LI (h.push { cls:=.type "list",data:=.seq a.toArray }) h.objs.size a:=
 ⟨⟨_,get?_push_size _ rfl,rfl,0,rfl⟩,fun o e=>by rw[get?_push_size _ rfl]at e;cases e;rfl⟩
theorem LI.of(e:h.get? b=some { cls:=.type "list",data:=.seq a.toArray n }):LI h b a:=
 ⟨⟨_,e,rfl,n,rfl⟩,fun o c=>by rw[e]at c;cases c;rfl⟩
theorem Aw(h:Heap):h.get? h.objs.size=none:=by
 refine CK (h.get? h.objs.size) (fun e=>?_) fun o e=>?_
 .rfl
 .exact absurd (lt_size e) (Nat.lt_irrefl _)
theorem Jk(k:Bj X G s Φ Q)(c:Az X G H s)(r:BJ G l a)(f:Φ (.tup l) H):Q (.ref s.heap.objs.size) { s with heap:=s.heap.push { cls:=.type "tuple",data:=.seq a.toArray } }:=
 k _ H _ _ _ (.newTup c (Aw _) ⟨_,_,rfl⟩ fun b o e=>get?_push_of_some _ e) (c.newTup (Aw _) (fun b o e=>get?_push_of_some _ e) (Fs _ _)) (I7 c (Aw _) r) f
theorem Ot(k:Bj X G s Φ Q)(e:Az X G H s)(r:BJ G l a)(i:Φ (.tup l) H)(f:s.heap.get? b=none)(g:∀c o,s.heap.get? c=some o->h.get? c=some o)(j:h.IsTuple b a.toArray) :
  Q (.ref b) { s with heap:=h,toks:=n }:=
 k _ H _ _ _ (.newTup e f ⟨_,_,rfl⟩ g) (e.newTup f g j) (I7 e f r) i
theorem FD{tk:Nat}(k:Bj X G s Φ Q)(f:Az X G H s)(r:BJ G l a)(j:Φ (.loc H.length) (H++[.list l]))(g:s.heap.get? b=none)(i:∀c o,s.heap.get? c=some o->h.get? c=some o)
  (m:LI h b a):Q (.ref b) { s with heap:=h,toks:=tk }:=
 k (G.addLoc H.length b none) _ _ _ _ (.alloc f g (fun n e=>by cases e) ⟨_,_,rfl⟩ i)
  (f.alloc (o:=.list l) g (fun n e=>by cases e) i ⟨b,a,As,BD,m,r.le (f.leLoc b none)⟩) (.loc As) j
theorem HR(k:Bj X G s Φ Q)(c:Az X G H s)(r:BJ G l a)(f:Φ (.loc H.length) (H++[.list l])):Q (.ref s.heap.objs.size) { s with heap:=s.heap.push { cls:=.type "list",data:=.seq a.toArray } }:=
 FD k c r f (Aw _) (fun b o e=>get?_push_of_some _ e) (GN _ _)
theorem Bh(h:n<=Ar):n<=sizeLine:=by
 have:Ar=1000000:=rfl;rw[sizeLine_eq];omega
theorem Sq{j:Int}(h:0<j):i.fmod j=i % j:=Int.fmod_eq_emod_of_nonneg i (Int.le_of_lt h)
theorem Kt{j:Int}(h:0<j):i.fdiv j=i / j:=Int.fdiv_eq_ediv_of_nonneg i (Int.le_of_lt h)
theorem WR{b:UnaryOp}(a:ZX b v H Φ)(r:VR G v x):Zh X d (unaryOp b x) G H Φ:=by
 intro A s e c Q k;cases b with
 |USub=>
  obtain⟨i,rfl,a⟩:=Vr (show V0 v _ from a);obtain⟨t,rfl⟩:=r.int_l;exact neg_int (BX k c _ (.int _ _) a)
 |Not=>
  obtain⟨i,rfl,a⟩:=OX (show JB v _ from a);obtain rfl:=r.bool_l;exact not_value (wpAny_truthy_bool (CM k c (.bool _) a))
 |_=>exact a.elim
theorem UA{t:Addr}{e:List Value}{Q:Value->Shared->Prop}{E:Value->Shared->Prop}(x:s.heap.IsTuple t a.toArray)(y:s.heap.IsTuple b e.toArray)(z:a=[]->Q (.ref b) s)(B:a≠[]->e=[]->Q (.ref t) s)
  (C:Q (.ref s.heap.objs.size) { s with heap:=s.heap.push { cls:=.type "tuple",data:=.seq (a++e).toArray } }) (l:a.length+e.length<=sizeLine) :
  wpAny (model X.prog X.w) A (binaryOp .Add (.ref t) (.ref b)) Q E s:=by
 obtain⟨⟨D,m,r,o⟩,h,u,n,hd⟩:=id x;obtain⟨⟨v,f,data2,g⟩,c,i,p,j⟩:=id y;simp only at u hd i j;subst u hd i j;by_cases k:a=[]
 .exact concat_meets ⟨_,h,rfl⟩ ⟨_,c,rfl⟩ noFill_tuple_add seq_tuple_add PySem.F.slot_tuple_add PySem.F.entry_tuple_add (PySem.F.args_tuple_add_2 _ _)
   (tuple_addW0 t b a.toArray e.toArray n p m f o g (by simp[k])) ⟨h,c,z k⟩
 .by_cases q:e=[]
  .exact concat_meets ⟨_,h,rfl⟩ ⟨_,c,rfl⟩ noFill_tuple_add seq_tuple_add PySem.F.slot_tuple_add PySem.F.entry_tuple_add (PySem.F.args_tuple_add_2 _ _)
    (tuple_addW1 t b a.toArray e.toArray n p m f o g (by simpa using k) (by simp[q])) ⟨h,c,B k q⟩
  .refine concat_meets ⟨_,h,rfl⟩ ⟨_,c,rfl⟩ noFill_tuple_add seq_tuple_add PySem.F.slot_tuple_add PySem.F.entry_tuple_add (PySem.F.args_tuple_add_2 _ _)
    (tuple_addW2 t b a.toArray e.toArray n p m f o g (by simpa using k) (by simpa using q) (by simpa using l)) ⟨h,c,?_⟩
   rw[show a.toArray++e.toArray=(a++e).toArray by simp];exact C
theorem RY{l:Addr}{c:List Value}{Q:Value->Shared->Prop}{E:Value->Shared->Prop}(q:s.heap.IsList l a.toArray)(r:s.heap.IsList b c.toArray)
  (t:Q (.ref s.heap.objs.size) { s with heap:=s.heap.push { cls:=.type "list",data:=.seq (a++c).toArray } }) (h:a.length+c.length<=sizeLine) :
  wpAny (model X.prog X.w) A (binaryOp .Add (.ref l) (.ref b)) Q E s:=by
 obtain⟨⟨u,v,k,x⟩,m,o,n,hd⟩:=id q;obtain⟨⟨p,i,data2,j⟩,e,f,y,g⟩:=id r;simp only at o hd f g;subst o hd f g;refine concat_meets ⟨_,m,rfl⟩ ⟨_,e,rfl⟩ noFill_list_add seq_list_add PySem.F.slot_list_add PySem.F.entry_list_add (PySem.F.args_list_add_2 _ _)
  (list_addW l b a.toArray c.toArray n y v i x j (h)) ⟨m,e,?_⟩
 rw[show a.toArray++c.toArray=(a++c).toArray by simp];exact t
theorem Az.listI(a:Az X G H s)(e:H[n]? =some (.list l)):ZF G s.heap n l:=a.loc n _ e
inductive Y0(G:Gh)(h:Heap)(n:Nat)(l:List V):Prop
 |mk (a:Addr) (b:List Value):G.loc n=some a->h.IsList a b.toArray->BJ G l b->Y0 G h n l
theorem Az.list(b:Az X G H s)(e:H[n]? =some (.list l)):Y0 G s.heap n l:=by
 obtain⟨a,c,f,_,g,h⟩:=b.listI e;exact⟨a,c,f,g.1,h⟩
theorem Az.flist(b:Az X G H s)(e:H[n]? =some (.flist l)):Y0 G s.heap n l:=by
 obtain⟨a,o,c,f,_,_,_,g,h⟩:=b.loc n _ e;exact⟨a,c,f,g.1,h⟩
theorem VR.at(r:VR G (.loc n) x)(e:G.loc n=some b):x=.ref b:=by
 let⟨_,a,q⟩:=r.loc_l;exact q.trans (congrArg Value.ref (Option.some.inj (a.symm.trans e)))
inductive I2(f:Int->Int->Prop):Value->Value->Prop
 |mk (i j:Int) (t u:Tok):f i j->I2 f (.int i t) (.int j u)
theorem Bo{f:Int->Int->Prop}{b:V}{y:Value}(h:i2 f v b)(a:VR G v x)(c:VR G b y):I2 f x y:=by
 obtain⟨i,j,rfl,rfl,h⟩:=Wj h;obtain⟨_,rfl⟩:=a.int_l;obtain⟨_,rfl⟩:=c.int_l;exact⟨_,_,_,_,h⟩
inductive S2(f:Str->Str->Prop):Value->Value->Prop
 |mk (i j:Str) (t u:Tok):f i j->S2 f (.str i t) (.str j u)
theorem KX{f:Str->Str->Prop}{b:V}{y:Value}(h:s2 f v b)(a:VR G v x)(c:VR G b y):S2 f x y:=by
 obtain⟨i,j,rfl,rfl,h⟩:=WB h;obtain⟨_,rfl⟩:=a.str_l;obtain⟨_,rfl⟩:=c.str_l;exact⟨_,_,_,_,h⟩
inductive B2(f:Bool->Bool->Prop):Value->Value->Prop
 |mk (i j:Bool):f i j->B2 f (.bool i) (.bool j)
theorem OU{f:Bool->Bool->Prop}{b:V}{y:Value}(h:b2 f v b)(a:VR G v x)(c:VR G b y):B2 f x y:=by
 obtain⟨i,j,rfl,rfl,h⟩:=VZ h;obtain rfl:=a.bool_l;obtain rfl:=c.bool_l;exact⟨_,_,h⟩
inductive T2(G:Gh)(f:List V->List V->Prop):Value->Value->Prop
 |mk (l m:List V) (a b:Addr) (c e:List Value):G.tup a=some c->BJ G l c->G.tup b=some e->BJ G m e->f l m->T2 G f (.ref a) (.ref b)
theorem Gz{b:V}{y:Value}(h:t2 j4 v b)(a:VR G v x)(c:VR G b y):T2 G j4 x y:=by
 obtain⟨i,j,rfl,rfl,h⟩:=Vi h;obtain⟨_,_,e,f⟩:=a.tup_l;obtain⟨_,_,g,k⟩:=c.tup_l;exact⟨_,_,_,_,_,_,e,f,g,k,h⟩
inductive L2(G:Gh)(h:Heap)(f:List V->List V->Prop):Value->Value->Prop
 |mk (l m:List V) (a b:Addr) (c e:List Value):h.IsList a c.toArray->BJ G l c->h.IsList b e.toArray->BJ G m e->f l m->L2 G h f (.ref a) (.ref b)
theorem JZ{b:V}{y:Value}(a:Az X G H s)(h:l2 j4 H v b)(c:VR G v x)(e:VR G b y):L2 G s.heap j4 x y:=by
 obtain⟨n,m,l,k,rfl,rfl,f,g,i⟩:=V7 h;obtain⟨u,w,j,o,p⟩:=a.list f;obtain⟨z,B,q,r,t⟩:=a.list g;cases c.at j;cases e.at q;exact⟨_,_,_,_,_,_,o,p,r,t,i⟩
theorem Uv(h:0<=i):Builtin.bitAnd i 1=i % 2:=by
 unfold Builtin.bitAnd;rw[decide_eq_true h];show((i.toNat &&&(1:Int).toNat:Nat):Int)=i % 2;rw[show(1:Int).toNat=1 from rfl,Nat.and_one_is_mod,Int.natCast_emod,Int.toNat_of_nonneg h];rfl
theorem TK{r:Operator}{b:V}{y:Value}(a:TH r v b H Φ)(g:VR G v x)(h:VR G b y):Zh X d (binaryOp r x y) G H Φ:=by
 intro A s E c Q k;cases r with
 |Add=>
  delta TH W7 at a;dsimp only at a;cases v with
  |int i=>
   obtain⟨i,j,_,_,a⟩:=Bo a g h;exact add_int (BX k c _ (.int _ _) a)
  |str x=>
   obtain⟨i,j,_,_,m,a⟩:=KX a g h;exact add_str (fun F I=>BX k c _ (.str _ _) a) (by rw[sizeLine_eq];omega)
  |tup l=>
   obtain⟨_,_,_,_,_,_,t,p,u,q,m,a⟩:=Gz a g h
   ·.refine UA (c.tup _ _ t) (c.tup _ _ u) (fun e=>?_) (fun J e=>?_) (Jk k c (p.append q) a) (by rw[<- p.length,<- q.length];exact Bh m)
     .subst e;cases p;exact CM k c (.tup u q) a
     .subst e;cases q;rw[Ah]at a;exact CM k c (.tup t p) a
  |loc n=>
   obtain⟨_,_,_,_,_,_,B,w,C,z,m,a⟩:=JZ c a g h;exact RY B C (HR k c (w.append z) a) (by rw[<- w.length,<- z.length];exact Bh m)
  |_=>exact a.elim
 |Sub=>
  obtain⟨i,j,_,_,a⟩:=Bo a g h;exact sub_int (BX k c _ (.int _ _) a)
 |Mult=>
  obtain⟨i,j,_,_,f,o,a⟩:=Bo a g h;exact mul_int (BX k c _ (.int _ _) a) (.of_left (intBits_le_64 (Int.lt_trans (by decide) (U8 f)) (Int.lt_trans (X7 f) (by decide))))
 |Mod=>
  obtain⟨i,j,_,_,f,a⟩:=Bo a g h;refine mod_int' (Int.ne_of_gt f) (BX k c _ (.int _ _) ?_);rw[Sq f];exact a
 |FloorDiv=>
  obtain⟨i,j,_,_,f,o,a⟩:=Bo a g h;refine floordiv_int (hp:=.inl (PyProof.noPylong_small (ZW (Int.le_of_lt f) (Int.lt_trans o (by decide))))) (Int.ne_of_gt f) (BX k c _ (.int _ _) ?_);rw[Kt f];exact a
 |Pow=>
  obtain⟨i,j,_,_,rfl,f,o,a⟩:=Bo a g h;exact pow_int_small f (Int.le_of_lt (Int.lt_of_lt_of_le o (by decide))) (by decide) (BX k c _ (.int _ _) a)
 |RShift=>
  obtain⟨i,j,_,_,m,f,o,a⟩:=Bo a g h;refine rshift_int f (BX k c _ (.int _ _) ?_);rw[Kt (Int.pow_pos (by decide))];exact a
 |BitAnd=>
  obtain⟨i,j,_,_,m,f,D⟩:=Bo a g h;subst f;refine and_int (BX k c _ (.int _ _) ?_);rw[(Uv m)];exact D
 |_=>exact a.elim
end
section
open PySem.SeqAt
theorem Pd.up(h:Pd n v):∀m:Nat,n<=m->Pd m v:=by
 induction h with
 |int n i=>intro m _;exact .int m i
 |str n x=>intro m _;exact .str m x
 |tup _ a=>
  intro m b;cases m with
  |zero=>omega
  |succ m=>exact .tup fun v c=>a v c m (le_of_lt_succ b)
inductive JQ(G:Gh)(x:Value)(a:List Value):List V->Prop
 |mk (v:V) (l:List V):VR G v x->BJ G l a->JQ G x a (v::l)
theorem BJ.inr(r:BJ G l a):a.casesOn (motive:=fun e=>Prop) (l=[]) (fun y d=>JQ G y d l):=BJ.casesOn (motive_2:=fun l a e=>a.casesOn (motive:=fun e=>Prop) (l=[]) (fun y d=>JQ G y d l)) r rfl fun c b=>⟨_,_,c,b⟩
theorem BJ.inj'(r:BJ G l a){n:Nat}(f:∀c∈l,∀v y,VR G c y->VR G v y->Pd k v->c=v):∀{v},BJ G v a->(∀c∈v,Pd k c)->l=v:=
 r.ind (p:=fun l a=>(∀c∈l,∀v y,VR G c y->VR G v y->Pd k v->c=v)->∀{v},BJ G v a->(∀c∈v,Pd k c)->l=v) (fun e e g e=>(show _=[]from g.inr).symm)
  (fun c e f d e g q=>by
   obtain⟨i,j,b,t⟩:JQ G _ _ _:=g.inr;rw[d _ (.head _) _ _ c b (q _ (.head _)),f (fun z h=>d z (.tail _ h)) t fun z h=>q z (.tail _ h)]) f
theorem VR.int_inv{t:Tok}(r:VR G v x):x=.int i t->v=.int i:=VR.casesOn (motive_1:=fun v x a=>x=.int i t->v=.int i) r (N3 rfl) (fun a=>N3 rfl) (fun a a e=>congrArg V.int (Value.int.inj e).1) (fun a a=>N3 rfl) (fun a a=>N3 rfl) (fun a=>N3 rfl) (fun a=>N3 rfl)
theorem VR.str_inv'{t:Tok}(r:VR G v x):x=.str y t->v=.str y:=VR.casesOn (motive_1:=fun v x a=>x=.str y t->v=.str y) r (N3 rfl) (fun a=>N3 rfl) (fun a a=>N3 rfl) (fun a a e=>congrArg V.str (Value.str.inj e).1) (fun a a=>N3 rfl) (fun a=>N3 rfl) (fun a=>N3 rfl)
inductive ZK(G:Gh)(a:Addr):Nat->V->Prop
 |mk (n:Nat) (l:List V) (b:List Value):(∀v∈l,Pd n v)->G.tup a=some b->BJ G l b->ZK G a (n+1) (.tup l)
theorem PV.rf(p:PV G n v x):x=.ref b->ZK G b n v:=PV.casesOn (motive:=fun n v x a=>x=.ref b->ZK G b n v) p (fun a a a=>N3 rfl) (fun a a a=>N3 rfl) fun c l d f q g r e=>⟨c,l,f,q,Value.ref.inj e▸g,r⟩
theorem VR.inj(p:Pd n v):∀{m:Nat}{b:V}{x:Value},VR G v x->VR G b x->Pd m b->v=b:=by
 induction p with
 |int n i=>intro m b x r c q;obtain⟨t,rfl⟩:=r.int_l;exact(c.int_inv rfl).symm
 |str n i=>intro m b x r c q;obtain⟨t,rfl⟩:=r.str_l;exact(c.str_inv' rfl).symm
 |tup _ d=>
  intro m b x r c q;obtain⟨a,w,e,f⟩:=r.tup_l;obtain⟨k,z,A,g,h,j⟩:=(q.view c).rf rfl;cases e.symm.trans h;rw[BJ.inj' f (n:=0) (fun a l b y o s u=>d a l o s u) j g]
theorem CA:∀(l m:List V),BY.peqs l m=((List.range (min l.length m.length)).all (fun j=>BY (l.getD j .none) (m.getD j .none))&&l.length==m.length)
 |[],[]=>rfl
 |[],b::t=>rfl
 |a::r,[]=>rfl
 |a::r,b::t=>by
  rw[show BY.peqs (a::r) (b::t)=(BY a b&&BY.peqs r t)from rfl,CA r t];have e:min (a::r).length (b::t).length=min r.length t.length+1:=by simp only[AQ];exact Nat.succ_min_succ _ _
  rw[e,List.range_succ_eq_map,all_cons,List.all_map];simp only[List.getD_cons_zero,AQ,Function.comp_def,List.getD_cons_succ,Bool.and_assoc]
  congr 2
  simp
section
variable {d:Nat} {G:Gh} {H:Aj} {s s':Shared} {Φ:V->Aj->Prop} {Q:Value->Shared->Prop} {A:Around}
theorem W9{y:Value}{b:Bool}(h:EqAt A s x y b):EqAt A s x y b:=h
theorem Vy(c:Az X G H s):∀(n:Nat){u v:V}{x y:Value}{m:Nat}{A:Around},Pd n u->Pd m v->VR G u x->VR G v y->A.units+n<cLine->EqAt A s x y (BY u v):=by
 intro n;induction n with
 |zero=>
  intro u v x y m A o f t w E;have f:=f.view w;cases o.view t with
  |int _ i=>
   cases f with
   |int _ j=>exact EqAt.int_int _ _ _ _
   |str _ j=>exact EqAt.int_str _ _ _ _
   |tup _ _ _ _ _ e=>exact .int_tuple _ _ (c.tup _ _ e) (by omega)
  |str _ i=>
   cases f with
   |int _ j=>exact EqAt.str_int _ _ _ _
   |str _ j=>exact EqAt.str_str _ _ _ _
   |tup _ _ _ _ _ e=>exact .str_tuple _ _ (c.tup _ _ e) (by omega)
 |succ n F=>
  intro u v x y m A o f t w E;have C:=f.view w;cases o.view t with
  |int _ i=>
   cases C with
   |int _ j=>exact EqAt.int_int _ _ _ _
   |str _ j=>exact EqAt.int_str _ _ _ _
   |tup _ _ _ _ _ e=>exact .int_tuple _ _ (c.tup _ _ e) (by omega)
  |str _ i=>
   cases C with
   |int _ j=>exact EqAt.str_int _ _ _ _
   |str _ j=>exact EqAt.str_str _ _ _ _
   |tup _ _ _ _ _ e=>exact .str_tuple _ _ (c.tup _ _ e) (by omega)
  |tup _ l a I p e r=>
   cases C with
   |int _ j=>exact .tuple_int _ _ (c.tup _ _ e) (by omega)
   |str _ j=>exact .tuple_str _ _ (c.tup _ _ e) (by omega)
   |tup _ B b J q K D=>
    by_cases k:a=b
    .subst k;rw[(BB _ _).mpr (VR.inj o t w f)];exact .same _
    .refine .of_refs k ?_;have z:=RcAt.tuples (A:=A) (e:=fun j=>BY (l.getD j .none) (B.getD j .none)) (c.tup _ _ e) (c.tup _ _ K) (by omega) (fun j L M=>?_)
     .rw[show BY (.tup l) (.tup B)=BY.peqs l B from rfl,CA,r.length,D.length];simpa using z
     .have g:j<l.length:=by rw[r.length];exact L
      have h:j<B.length:=by rw[D.length];exact M
      obtain⟨N,O,P⟩:=r.get (AD g);obtain⟨R,S,T⟩:=D.get (AD h);rw[((AE O).2:I.toArray[j]=N),((AE S).2:J.toArray[j]=R),getD_eq_getElem?_getD,getD_eq_getElem?_getD,AD g,AD h,getD_some,getD_some];exact F (A:=A.in1) (p _ (List.getElem_mem g)) (q _ (List.getElem_mem h)) P T (by show A.units+1+n<cLine;exact XT E)
theorem Ec{f:List V}{g:List Value}(o:Az X G H s)(r:BJ G l a)(h:BJ G f g)(p:∀b∈l,Pd n b)(q:∀b∈f,Pd k b)(t:A.units+n<cLine) :
  ∀j (i:j<a.toArray.size) (m:j<g.toArray.size),EqAt A s a.toArray[j] g.toArray[j] (BY (l.getD j .none) (f.getD j .none)):=fun j i m=>by
 have c:j<l.length:=by rw[r.length];simpa using i
 have e:j<f.length:=by rw[h.length];simpa using m
 obtain⟨u,v,w⟩:=r.get (AD c);obtain⟨x,y,z⟩:=h.get (AD e);have B:a.toArray[j]=u:=by
  have:=(AE v).2;simpa using this
 have C:g.toArray[j]=x:=by
  have:=(AE y).2;simpa using this
 rw[B,C,getD_eq_getElem?_getD,getD_eq_getElem?_getD,AD c,AD e,getD_some,getD_some];exact Vy o n (p _ (List.getElem_mem c)) (q _ (List.getElem_mem e)) w z t
theorem Vk(t:Az X G H s){g:List V}{c:Addr}{i:List Value}(m:s.heap.IsList c a.toArray)(o:s.heap.IsList b i.toArray)(r:BJ G l a)(h:BJ G g i)(p:∀c∈l,Pd n c)(q:∀c∈g,Pd k c)
  (u:A.units+n+1<cLine):RcAt A s (.ref c) (.ref b) (BY.peqs l g):=by
 by_cases f:l.length=g.length
 .rw[CA,<- f,Nat.min_self];simpa [r.length]using(RcAt.lists (A:=A) (e:=fun j=>BY (l.getD j .none) (g.getD j .none)) m o (by simp[<- r.length,<- h.length,f]) (by omega) (Ec t r h p q (by show A.units+1+n<cLine;exact X9 u)))
 .rw[CA];have:(l.length==g.length)=false:=beq_eq_false_iff_ne.mpr f;rw[this,Bool.and_false];exact(RcAt.lists_lengths (A:=A) m o (by simpa [<- r.length,<- h.length]using f) (by omega))
theorem Q6(t:Az X G H s){g:List V}{c:Addr}{i:List Value}(m:s.heap.IsList c a.toArray)(o:s.heap.IsList b i.toArray)(r:BJ G l a)(h:BJ G g i)(p:∀c∈l,Pd n c)(q:∀c∈g,Pd k c)
  (u:A.units+n+1<cLine):RcNeAt A s (.ref c) (.ref b) (!BY.peqs l g):=by
 by_cases f:l.length=g.length
 .rw[CA,<- f,Nat.min_self];simpa [r.length]using(RcNeAt.lists (A:=A) (e:=fun j=>BY (l.getD j .none) (g.getD j .none)) m o (by simp[<- r.length,<- h.length,f]) (by omega) (Ec t r h p q (by show A.units+1+n<cLine;exact X9 u)))
 .rw[CA];have:(l.length==g.length)=false:=beq_eq_false_iff_ne.mpr f;rw[this,Bool.and_false];exact(RcNeAt.lists_lengths (A:=A) m o (by simpa [<- r.length,<- h.length]using f) (by omega))
theorem YG(i:Az X G H s){f:List V}{c:Addr}{g:List Value}(m:s.heap.IsTuple c a.toArray)(o:s.heap.IsTuple b g.toArray)(r:BJ G l a)(h:BJ G f g)(p:∀c∈l,Pd n c)(q:∀c∈f,Pd k c)
  (t:A.units+n+1<cLine):RcAt A s (.ref c) (.ref b) (BY.peqs l f):=by
 rw[CA,r.length,h.length];simpa using(RcAt.tuples (A:=A) (e:=fun j=>BY (l.getD j .none) (f.getD j .none)) m o (by omega) (Ec i r h p q (by show A.units+1+n<cLine;exact X9 t)))
theorem T1(i:Az X G H s){f:List V}{c:Addr}{g:List Value}(m:s.heap.IsTuple c a.toArray)(o:s.heap.IsTuple b g.toArray)(r:BJ G l a)(h:BJ G f g)(p:∀c∈l,Pd n c)(q:∀c∈f,Pd k c)
  (t:A.units+n+1<cLine):RcNeAt A s (.ref c) (.ref b) (!BY.peqs l f):=by
 rw[CA,r.length,h.length];simpa using(RcNeAt.tuples (A:=A) (e:=fun j=>BY (l.getD j .none) (f.getD j .none)) m o (by omega) (Ec i r h p q (by show A.units+1+n<cLine;exact X9 t)))
end
theorem UO(w:World):∀l:List V,kh.khs w l=l.map (kh w):=by
 intro a;induction a with
 |nil=>
  exact rfl
 |cons v r b=>
  exact congrArg (kh w v:: ·) (b)
section
variable {d:Nat} {G:Gh} {H:Aj} {s s':Shared} {Φ:V->Aj->Prop} {A:Around} {E:Value->Shared->Prop}
theorem Az.tok(a:Az X G H s)(n:Nat):Az X G H { s with toks:=n }:=a.keeps fun b b e=>e
theorem Mb:∀(n:Nat){k:V}{x:Value}{A:Around}{s:Shared}{Q:Int->Shared->Prop},Az X G H s->Pd n k->VR G k x->A.units+n<cLine->(∀t,Q (kh X.w k) { s with toks:=t })->wpAny (model X.prog X.w) A (pyHash x) Q E s:=by
 intro n;induction n with
 |zero=>
  intro k x A s Q y p r B h;cases p.view r with
  |int _ i=>exact wpAny_pyHash_int (h _)
  |str _ i=>exact wpAny_pyHash_str (h _)
 |succ n I=>
  intro k x A s Q y p r B h;cases p.view r with
  |int _ i=>exact wpAny_pyHash_int (h _)
  |str _ i=>exact wpAny_pyHash_str (h _)
  |tup _ l a O J e K=>
   .obtain⟨o,C,L,ne,hd⟩:=y.tup _ _ e;have u:s.TypeIs (.ref a) "tuple" :=⟨o,C,L⟩
    first |unfold pyHashByItsType |skip
    first |refine AA (wpAny_cRoomFor_or (.inr (by omega)) ?_) |skip
    refine AA (wpAny_specialOf u F.slot_tuple_hash.lookup ?_);rw[if_neg (by rw[beq_builtin_none];exact AN)];refine AA (wpAny_specialOf u F.slot_tuple_hash.lookup ?_);refine AA (wpAny_callSpecialIfBoundUnlessNone?_slot u F.slot_tuple_hash (wpAny_call_entry F.slot_tuple_hash u F.entry_tuple_hash ?_ (F.args_tuple_hash_1 _)));show wpAny _ _ (Builtin.Tuple.tupleItemsOf (.ref a) >>= _) _ _ s;refine AA (wpAny_tupleItemsOf C hd ?_);refine AA ?_;rw[<- Array.forIn_toList];refine wpAny_forIn_list _
     (fun c (b:Array Int) s'=>Dd fun done HU=>KT (l=done++HU) (BJ G HU c) (b.toList=done.map (kh X.w)) (∃t,s'={ s with toks:=t }))
     _ ?_ ?_ _ _ ⟨[],l,rfl,K,rfl,s.toks,rfl⟩
    .rintro x c b s' ⟨done,HU,g,f,v,t,rfl⟩
     .obtain⟨z,m,M,q⟩:JQ G _ _ _:=f.inr;have N:z∈l:=by rw[g];simp
      refine AA (I (y.tok t) (J _ N) M (by show A.units+1+n<cLine;exact XT B) fun D=>?_)
      first
       |exact AB ⟨done++[z],m,by simp[g],q,by simp[v],D,rfl⟩
       |exact AA (AB (AB ⟨done++[z],m,by simp[g],q,by simp[v],D,rfl⟩))
    .rintro b s' ⟨done,HU,g,f,v,t,rfl⟩;obtain rfl:HU=[]:=f.inr;rw[Ah]at g;subst g;show wpAny _ _ (retInt (Builtin.Tuple.tupleHashOf b.toList)) _ _ _;rw[v];refine wpAny_ret_mkInt ?_;show wpAny _ _ (if(decide (-(2:Int) ^ 63<=Builtin.Tuple.tupleHashOf (l.map (kh X.w)))&&decide (Builtin.Tuple.tupleHashOf (l.map (kh X.w))<2 ^ 63))=true then _ else _) Q E _
     have j:=h;rw[show kh X.w (.tup l)=reduceHash (Builtin.Tuple.tupleHashOf (l.map (kh X.w)))from by rw[<- UO];rfl]at j;unfold reduceHash at j;by_cases f:(decide (-(2:Int) ^ 63<=Builtin.Tuple.tupleHashOf (l.map (kh X.w)))&&decide (Builtin.Tuple.tupleHashOf (l.map (kh X.w))<2 ^ 63))=true
     .rw[if_pos f];simp only[f,if_true]at j;exact AB (j _)
     .rw[if_neg f];simp only[f,if_false]at j;exact AA (wpAny_rule (AB (j _)))
theorem Nl:∀(n:Nat){k:V}{x:Value}{A:Around}{Q:Bool->Shared->Prop},Az X G H s->Pd n k->VR G k x->Q true s->wpAny (model X.prog X.w) A (eqIsQuiet n x) Q E s:=by
 intro n;induction n with
 |zero=>
  intro k x A Q c p r h;cases p.view r with
  |int _ i=>rw[eqIsQuiet_byValue _ rfl];exact AB h
  |str _ i=>rw[eqIsQuiet_byValue _ rfl];exact AB h
 |succ n t=>
  intro k x A Q c p r h;cases p.view r with
  |int _ i=>rw[eqIsQuiet_byValue _ rfl];exact AB h
  |str _ i=>rw[eqIsQuiet_byValue _ rfl];exact AB h
  |tup _ l a K y e z=>
   .obtain⟨o,j,B,ne,hd⟩:=c.tup _ _ e;have m:s.TypeIs (.ref a) "tuple" :=⟨o,j,B⟩;unfold eqIsQuiet;refine AA (wpAny_specialOf m F.slot_tuple_eq.lookup ?_);refine AA (wpAny_isInstance m isSubtype_tuple_tuple ?_);simp only[Bool.not_true,false_eq_true,if_false];refine AA (wpAny_seqItems j hd ?_);refine AA ?_;rw[<- Array.forIn_toList];refine wpAny_forIn_list _ (fun b r s'=>r.1=none/\s'=s/\∃HU,BJ G HU b/\∀v∈HU,Pd n v) _ ?_ ?_ _ _ ⟨rfl,rfl,l,z,y⟩
    .rintro v b r s' ⟨f,rfl,HU,C,q⟩
     .obtain⟨L,D,I,g⟩:JQ G _ _ _:=C.inr;refine AA (t c (q _ (.head _)) I ?_);simp only[Bool.not_true,false_eq_true,if_false];exact AB ⟨rfl,rfl,_,g,fun u J=>q u (.tail _ J)⟩
    .rintro⟨M,N⟩ s' ⟨f,rfl,_⟩;simp only at f;subst f;exact AB h
inductive Zg(w:World)(G:Gh)(o:Option (V×V))(e:DictEntry):Prop
 |mk (k v:V):o=some (k,v)->Pd 8 k->e.hash=kh w k->VR G k e.key->VR G v e.val->Zg w G o e
theorem ER.get(r:ER Y G m u):∀{i:Nat}{e:DictEntry},u[i]? =some e->Zg Y G m[i]? e:=by
 induction r with
 |nil=>intro i e h;cases h
 |cons p q a b _ c=>
  intro i e h;cases i with
  |zero=>cases h;exact⟨_,_,rfl,p,q,a,b⟩
  |succ i=>exact c (i:=i) h
theorem DK{k:V}(nd:(m.map (·.1)).Nodup)(h:m[n]? =some (k,v)):(m.findIdx? fun p=>BY p.1 k)=some n:=by
 induction m generalizing n with
 |nil=>simp at h
 |cons p r b=>
  rw[AW,nodup_cons]at nd;rw[findIdx?_cons];cases n with
  |zero=>
   simp only[List.getElem?_cons_zero,Option.some.injEq]at h;subst h;rw[if_pos ((BB _ _).mpr rfl)]
  |succ n=>
   simp only[List.getElem?_cons_succ]at h;have a:¬BY p.1 k=true:=fun e=>nd.1 (by
    rw[(BB _ _).mp e];exact List.mem_map.mpr ⟨(k,v),mem_of_getElem? h,rfl⟩)
   rw[if_neg a,b nd.2 h];rfl
theorem Jy(h:∀(i:Nat) (a:V),m[i]?≠some (v,a)):(m.findIdx? fun p=>BY p.1 v)=none:=by
 rw[List.findIdx?_eq_none_iff];intro p b;refine EY (BY p.1 v) (fun e=>?_) fun e=>?_
 .rfl
 .obtain⟨i,c⟩:=mem_iff_getElem?.mp b;exact absurd (by rw[c,<- (BB _ _).mp e]) (h i p.2)
theorem FJ{f:Nat->Option Int}:k∈placesWithHash n f i↔k<n/\(f k==some i)=true:=by
 unfold placesWithHash;rw[mem_filter,List.mem_range]
end
section
variable {d:Nat} {G:Gh} {H:Aj} {s s':Shared} {Φ:V->Aj->Prop} {A:Around} {E:Value->Shared->Prop}
structure Fd(X:Cx)(A:Around)(E:Value->Shared->Prop)(s:Shared)(D:Addr)(x:Value)(h:Int)(es:Array DictEntry)(l:List (V×V))(k:V)(P:List Nat)(Q:Option Nat->Shared->Prop):Prop where
 nd:P.Nodup
 hit:∀i∈P,Ks fun e k' v=>KT (es[i]? =some e) ((e.hash==h)=true) (l[i]? =some (k',v)) (∀Q':Bool->Shared->Prop,Q' (BY k' k) s->wpAny (model X.prog X.w) A (eqBool e.key x) Q' E s)
 ep:∃n,∀Q':Nat->Shared->Prop,Q' n s->wpAny (model X.prog X.w) A (dictEpoch D (keyPart x)) Q' E s
 one:∀(i j:Nat)(v v':V),l[i]? =some (k,v)->l[j]? =some (k,v')->i=j
 yes:∀(i:Nat)(v:V),l[i]? =some (k,v)->Q (some i) s
 no:(∀i∈P,∀k' v,l[i]? =some (k',v)->BY k' k=false)->Q none s
def U7{b:Type}(D:Addr)(x:Value)(h:Int)(c:Array DictEntry)(i:Nat)(f:Bool->Sem b)(z:Sem b):Sem b:=do
 if let some e:=c[i]? then
  if e.hash==h then
   let a <- dictEpoch D (keyPart x);let same <- eqBool e.key x
   if(<- dictEpoch D (keyPart x)) != a then unsupported "dict.changed-during-lookup"
   f same
  else z
 else z
theorem Fd.lap(F:Fd X A E s b x i u4 m v i0 j3)(l:n∈i0){h:Type}{f:Bool->Sem h}{z:Sem h}{R:h->Shared->Prop}
  (g:∀c a,m[n]? =some (c,a)->wpAny (model X.prog X.w) A (f (BY c v)) R E s):wpAny (model X.prog X.w) A (U7 b x i u4 n f z) R E s:=by
 obtain⟨e,c,a,o,p,q,r⟩:=F.hit n l;obtain⟨j,k⟩:=F.ep;unfold U7;rw[o];show wpAny _ _ (if(e.hash==i)=true then _ else _) _ E _
 rw[if_pos p];refine AA (k _ (AA (r _ (AA (k _ ?_)))));rw[if_neg (by simp)];exact g c a q
theorem Fd.more{b c:List Nat}(o:i0=b++n::c){k e:V}(p:∀n∈b,∀e v,m[n]? =some (e,v)->BY e k=false)(a:m[n]? =some (e,v))(g:BY e k=false):i0=(b++[n])++c/\∀j∈b++[n],∀e v,m[j]? =some (e,v)->BY e k=false:=
 ⟨by rw[o,append_assoc];rfl,fun j f h i l=>(AY f).elim (fun f=>p j f h i l) fun f=>by cases AJ f;cases a.symm.trans l;exact g⟩
theorem Fd.plain(F:Fd X A E s b x i u4 m v i0 j3):wpAny (model X.prog X.w) A (dictWalkPlain b x i u4 i0) j3 E s:=by
 refine AA ?_;refine wpAny_forIn_list _ (fun j e s'=>s'=s/\e=(none,())/\∃g,i0=g++j/\∀c∈g,∀l h,m[c]? =some (l,h)->BY l v=false) _ ?_ ?_ _ _ ⟨rfl,rfl,[],rfl,fun q n=>nomatch n⟩
 .rintro c j e s' ⟨rfl,rfl,g,o,p⟩;refine F.lap (f:=fun same=>if same then _ else _) (by rw[o];exact AZ _ (.head _)) fun l h a=>?_
  refine Ce (BY l v) (fun k=>?_) fun k=>?_
  .exact AA (wpAny_rule (AB (AB (F.yes c h ((BB _ _).mp k▸a)))))
  .exact AA (wpAny_rule (AB ⟨rfl,rfl,g++[c],Fd.more o p a k⟩))
 .rintro e s' ⟨rfl,rfl,g,o,p⟩;exact AB (F.no fun c n=>p c (by rw[o,Ah]at n;exact n))
def Mv(D:Addr)(x:Value)(h:Int)(c:Array DictEntry)(P:List Nat)(stored:List Value)(a:Bool):Sem (Option Nat):=do
 if a&&stored.length>=2 then unsupported "dict.find:order-among-keys-of-one-hash"
 let mut hit:Option Nat:=none
 for i in P do
  if let some e:=c[i]? then
   if e.hash==h then
    let b <- dictEpoch D (keyPart x);let same <- eqBool e.key x
    if(<- dictEpoch D (keyPart x)) != b then unsupported "dict.changed-during-lookup"
    if same then
     if hit.isSome then unsupported "dict.find:order-among-keys-of-one-hash"
     rule "dict.find.hit"
     if stored.length<2 then return some i
     hit:=some i
    else
     rule "dict.find.same-hash-other-key"
     if a&& !(0<=h&&h<32)then unsupported "dict.find:asked-again-or-not-hangs-on-the-table"
 return hit
theorem Fd.tail(F:Fd X A E s b x i u4 m v i0 j3)(st:List Value):wpAny (model X.prog X.w) A (Mv b x i u4 i0 st false) j3 E s:=by
 refine AA ?_;refine wpAny_forIn_list _ (fun n l s'=>s'=s/\Dd fun k h=>DD (l=(none,k)) (i0=h++n) (((k=none/\∀c∈h,∀y g,m[c]? =some (y,g)->BY y v=false)\/Dd fun c g=>DD (k=some c) (c∈h) (m[c]? =some (v,g))))) _ ?_ ?_ _ _ ⟨rfl,none,[],rfl,rfl,.inl ⟨rfl,fun D z=>nomatch z⟩⟩
 .rintro c n l s' ⟨rfl,k,h,rfl,o,p⟩;refine F.lap (f:=fun same=>if same then _ else _) (by rw[o];exact AZ _ (.head _)) fun y g a=>?_
  refine Ce (BY y v) (fun r=>?_) fun r=>?_
  .have a:=(BB _ _).mp r▸a;rcases p with⟨rfl,p⟩ |⟨j,B,rfl,C,t⟩
   .refine AA (wpAny_rule ?_);refine wpAny_ite_split (fun D=>?_) (fun D=>?_)
    .exact AB (AB (F.yes c g a))
    .exact AB ⟨rfl,some c,h++[c],rfl,by rw[o,append_assoc];rfl,.inr ⟨c,g,rfl,AZ _ (.head _),a⟩⟩
   .have u:=F.nd;rw[o,F.one c j g B a t]at u;exact absurd rfl ((List.nodup_append.mp u).2.2 j C j (.head _))
  .refine AA (wpAny_rule (AB ⟨rfl,k,h++[c],rfl,by rw[o,append_assoc];rfl,?_⟩));exact p.imp (fun q=>⟨q.1,(Fd.more o q.2 a r).2⟩) (by rintro⟨j,B,e,C,t⟩;exact⟨j,B,e,mem_append_left _ C,t⟩)
 .rintro l s' ⟨rfl,k,h,rfl,o,p⟩;rw[Ah]at o;rcases p with⟨rfl,p⟩ |⟨c,g,rfl,z,t⟩
  .exact AB (F.no fun c z=>p c (o▸z))
  .exact AB (F.yes c g t)
theorem S4(h:Az X G H s)(j:Pd 8 v)(k:VR G v x)(g:∀c∈a,∃f,Pd 8 f/\VR G f c)(i:R false s):wpAny (model X.prog X.w) A (tableMayTell x a) R E s:=by
 refine wpAny_ite_split (fun l=>AB i) fun l=>?_;refine AA (Nl 8 h j k (AA ?_));refine wpAny_forIn_list _ (fun e b s'=>b=(none,())/\s'=s/\∀c∈e,∃f,Pd 8 f/\VR G f c) _ ?_ ?_ _ _ ⟨rfl,rfl,g⟩
 .rintro c e b s' ⟨rfl,rfl,g⟩;obtain⟨f,m,n⟩:=g c (.head _);exact AA (Nl 8 h m n (AB ⟨rfl,rfl,fun u o=>g u (.tail _ o)⟩))
 .rintro b s' ⟨rfl,rfl,_⟩;exact AB i
theorem Vg{a:Type}{f:Str->Sem a}{g:Sem a}{R:a->Shared->Prop}(b:∀i t,x=.str i t->wpAny (model X.prog X.w) A (f i) R E s)(c:wpAny (model X.prog X.w) A g R E s) :
  wpAny (model X.prog X.w) A (match x with |.str i _=>f i |_=>g) R E s:=by
 cases x with
 |str i t=>exact b i t rfl
 |_=>exact c
theorem VV{b:Type}{f:Addr->Sem b}{g:Sem b}{R:b->Shared->Prop}(c:∀a,x=.ref a->wpAny (model X.prog X.w) A (f a) R E s)(e:wpAny (model X.prog X.w) A g R E s) :
  wpAny (model X.prog X.w) A (match x with |.ref a=>f a |_=>g) R E s:=by
 cases x with
 |ref a=>exact c a rfl
 |_=>exact e
theorem VR.str_inv{t:Tok}(r:VR G v (.str y t)):v=.str y:=r.str_inv' rfl
theorem JE(b:Pd n v)(r:VR G v x):x.isStr y=BY v (.str y):=
 PV.casesOn (motive:=fun a v x a=>x.isStr y=BY v (.str y)) (b.view r) (fun a a a=>rfl) (fun a a a=>rfl) fun a a a a a a a=>rfl
theorem Eo{o:Obj}(Y:Az X G H s)(N:s.heap.get? b=some o)(hd:o.data=.dict u4 n)
  (Z:ER X.w G m u4.toList) (nd:(m.map (·.1)).Nodup) (Q:Pd 8 v) (O:VR G v x) (hu:A.units+8<cLine) (h:j3 (m.findIdx? fun p=>BY p.1 v) s) :
  wpAny (model X.prog X.w) A (dictFind b x (kh X.w v)) j3 E s:=by
 have z:∀{i:Nat}{e:DictEntry},u4[i]? =some e->Dd fun l g=>KT (m[i]? =some (l,g)) (Pd 8 l) (e.hash=kh X.w l) (VR G l e.key):=fun{i e} y=>by
  obtain⟨l,g,a,f,c,d',_⟩:=Z.get (i:=i) (e:=e) (by simpa using y);exact⟨l,g,a,f,c,d'⟩
 have J:∀{e:DictEntry}{l:V}{P:Bool->Shared->Prop},Pd 8 l->VR G l e.key->P (BY l v) s->wpAny (model X.prog X.w) A (eqBool e.key x) P E s:=
  fun p r hq=>Vy Y 8 p Q r O (by omega) X.prog X.w E _ hq
 have F:Fd X A E s b x (kh X.w v) u4 m v (placesWithHash u4.size (fun i=>u4[i]?.map (·.hash)) (kh X.w v)) j3:={
  nd:=List.nodup_range.filter _
  hit:=fun i y=>by
   obtain⟨k,B⟩:=FJ.mp y;rw[Array.getElem?_eq_getElem k]at B;obtain⟨l,g,a,f,c,r⟩:=z (Array.getElem?_eq_getElem k);exact⟨_,l,g,Array.getElem?_eq_getElem k,B,a,fun P=>J f r⟩
  ep:=⟨n,fun P=>wpAny_dictEpoch N hd⟩
  one:=fun i j g I a f=>Option.some.inj ((DK nd a).symm.trans (DK nd f))
  yes:=fun i g R=>DK nd R▸h
  no:=fun hn=>by
   rw[Jy fun i g y=>?_]at h
   .exact h
   .have k:i<u4.size:=by rw[<- (Z.length.trans length_toList)];exact(AE y).1
    obtain⟨l,I,a,f,c,_⟩:=z (Array.getElem?_eq_getElem k);rw[y]at a;cases a;have:=hn i (FJ.mpr ⟨k,by rw[Array.getElem?_eq_getElem k,map_some,c];exact beq_self_eq_true _⟩) v g y;rw[(BB _ _).mpr rfl]at this;cases this }
 have S:∀g∈(placesWithHash u4.size (fun i=>u4[i]?.map (·.hash)) (kh X.w v)).filterMap (fun i=>u4[i]?.map (·.key)),∃l,Pd 8 l/\VR G l g:=fun g hv=>by
  obtain⟨i,_,y⟩:=List.mem_filterMap.mp hv;refine CK (u4[i]?) (fun C=>?_) fun e C=>?_
  .rw[C]at y;cases y
  .rw[C]at y;cases y;obtain⟨l,I,_,f,_,r⟩:=z C;exact⟨l,f,r⟩
 have K:∀a,x=.ref a->¬(u4.any fun e=>e.key==Value.ref a&&e.hash != kh X.w v)=true:=fun a ha=>by
  subst ha;rw[<- any_toList,any_eq_true];rintro⟨e,T,U⟩;obtain⟨i,y⟩:=mem_iff_getElem?.mp T;obtain⟨l,I,_,f,c,r⟩:=z (by simpa using y);simp only[and_eq_true,beq_iff_eq,bne_iff_ne,ne_eq]at U;rw[U.1]at r;exact U.2 (by rw[c,VR.inj f r O Q])
 refine AC (AA (wpAny_dictEntries N hd ?_));have D:∀c:Bool,wpAny (model X.prog X.w) A (do
   let u <- if c then pure false else tableMayTell x ((placesWithHash u4.size (fun i=>u4[i]?.map (·.hash)) (kh X.w v)).filterMap fun i=>u4[i]?.map (·.key))
   Mv b x (kh X.w v) u4 (placesWithHash u4.size (fun i=>u4[i]?.map (·.hash)) (kh X.w v)) ((placesWithHash u4.size (fun i=>u4[i]?.map (·.hash)) (kh X.w v)).filterMap fun i=>u4[i]?.map (·.key)) u) j3 E s:=fun c=>by
  cases c with
  |true=>exact AA (AB (F.tail _))
  |false=>exact AA (S4 Y Q O S (F.tail _))
 have L:wpAny (model X.prog X.w) A (do
   let Ec:=placesWithHash u4.size (fun i=>u4[i]?.map (·.hash)) (kh X.w v);let stored:=Ec.filterMap fun i=>u4[i]?.map (·.key)
   if(x::stored).all carriedByValue then return <- dictWalkPlain b x (kh X.w v) u4 Ec
   if let .ref _:=x then
    if u4.any fun e=>e.key==x&&e.hash != kh X.w v then unsupported "dict.find:a-stored-key-whose-hash-has-changed"
   let u <- if stored==[x]then pure false else tableMayTell x stored
   Mv b x (kh X.w v) u4 Ec stored u:Sem (Option Nat)) j3 E s:=by
  exact wpAny_ite_split (fun W=>F.plain) (fun W=>VV (fun a e=>wpAny_ite_split (fun q=>absurd q (e▸K a e)) (fun W=>D _)) (D _))
 refine Vg (fun i t e=>wpAny_ite_split (fun a0=>?_) (fun W=>L)) L;have ek:=VR.str_inv (e▸O);unfold foundByValue;cases hf:(u4.findIdx? (·.key.isStr i))with
 |none=>
  refine AB (F.no fun j M l g R=>?_);obtain⟨k,_⟩:=FJ.mp M;obtain⟨b0,I,a,f,_,r⟩:=z (Array.getElem?_eq_getElem k);cases R.symm.trans a;rw[ek,<- JE f r];exact(Array.findIdx?_eq_none_iff.mp hf u4[j] (Array.getElem_mem k))
 |some j=>
  obtain⟨k,M,_⟩:=Array.findIdx?_eq_some_iff_getElem.mp hf;obtain⟨l,I,a,f,c,r⟩:=z (Array.getElem?_eq_getElem k);rw[JE f r,<- ek]at M;simp only[Array.getElem?_eq_getElem k];refine AA (wpAny_dictEpoch N hd (AA (J f r (AA (wpAny_dictEpoch N hd ?_)))));rw[if_neg (by simp),M];exact AA (wpAny_rule (AB (F.yes j I ((BB _ _).mp M▸a))))
end
end
inductive DV(X:Cx)(G:Gh)(h:Heap)(D:Addr)(l:List (V×V)):Prop
 |mk (o:Obj) (a:Array DictEntry) (ep:Nat):h.get? D=some o->o.ExactDict->o.data=.dict a ep->ER X.w G l a.toList->(l.map (·.1)).Nodup->DV X G h D l
inductive Zi(X:Cx)(G:Gh)(h:Heap)(n:Nat)(l:List (V×V)):Prop
 |mk (a:Addr):G.loc n=some a->G.aux n=none->DV X G h a l->Zi X G h n l
inductive Wv(h:Heap)(D:Addr)(n:Nat):Prop
 |mk (o:Obj) (a:Array DictEntry) (ep:Nat):h.get? D=some o->o.data=.dict a ep->a.size=n->Wv h D n
theorem ER.modify{k:V}(r:ER Y G m u):∀{i:Nat},(m.findIdx? fun p=>BY p.1 k)=some i->VR G v x ->
  ER Y G (BK m k v) (u.modify i fun e=>{ e with val:=x }):=by
 induction r with
 |nil=>exact fun c=>Gi c
 | @cons g n e m u p q a b r h=>
  intro i c f;rw[findIdx?_cons]at c;rw[Ch];by_cases d:BY g k=true
  .rw[if_pos d]at c;rw[<- Option.some.inj c,if_pos d];exact .cons p q a f r
  .rw[if_neg d]at c;obtain⟨j,l,e⟩:=Option.map_eq_some_iff.mp c;rw[<- e,if_neg d];exact .cons p q a b (h l f)
theorem EA:∀{l:List (V×V)}{k v:V},(l.findIdx? fun p=>BY p.1 k)=none->BK l k v=l++[(k,v)]:=by
 intro b;induction b with
 |nil=>
  intro _ _ _;exact rfl
 |cons p r c=>
  intro k v h;rw[findIdx?_cons]at h;by_cases a:BY p.1 k=true
  .rw[if_pos a]at h;cases h
  .rw[if_neg a,Option.map_eq_none_iff]at h;rw[Ch,if_neg a,c h];rfl
theorem I4:∀{l:List (V×V)}{k v:V}{i:Nat},(l.findIdx? fun p=>BY p.1 k)=some i->(BK l k v).map (·.1)=l.map (·.1):=by
 intro b;induction b with
 |nil=>
  intro _ _ _ h;exact Gi h
 |cons p r c=>
  intro k v i h;rw[findIdx?_cons]at h;by_cases a:BY p.1 k=true
  .rw[Ch,if_pos a];rfl
  .rw[if_neg a,map_eq_some_iff]at h;obtain⟨j,d,rfl⟩:=h;rw[Ch,if_neg a,AW,c d];rfl
theorem Io:∀{l:List (V×V)}{k:V},(l.findIdx? fun p=>BY p.1 k)=none->BI l k=none:=by
 intro b;induction b with
 |nil=>
  intro _ _;exact rfl
 |cons p r c=>
  intro k h;rw[findIdx?_cons]at h;by_cases a:BY p.1 k=true
  .rw[if_pos a]at h;cases h
  .rw[if_neg a,Option.map_eq_none_iff]at h;have:=c h;unfold BI at this⊢;rw[find?_cons_of_neg (by simpa using a)];exact this
theorem Il:∀{l:List (V×V)}{k:V}{i:Nat},(l.findIdx? fun p=>BY p.1 k)=some i->Dd fun b v=>EU (l[i]? =some (b,v)) (BI l k=some v):=by
 intro d;induction d with
 |nil=>
  intro _ _ h;exact Gi h
 |cons p r e=>
  intro k i h;rw[findIdx?_cons]at h;by_cases a:BY p.1 k=true
  .rw[if_pos a]at h;cases h;exact⟨p.1,p.2,rfl,by unfold BI;rw[List.find?_cons_of_pos (by simpa using a)];rfl⟩
  .rw[if_neg a,map_eq_some_iff]at h;obtain⟨j,f,rfl⟩:=h;obtain⟨b,v,g,c⟩:=e f;refine⟨b,v,by simpa using g,?_⟩;unfold BI at c⊢;rw[find?_cons_of_neg (by simpa using a)];exact c
theorem ER.append{k:V}{c:Value}(d:Pd 8 k)(e:VR G k x)(f:VR G v c)(r:ER Y G m u):ER Y G (m++[(k,v)]) (u++[⟨kh Y k,x,c⟩]):=by
 induction r with
 |nil=>exact .cons d rfl e f .nil
 |cons p q a b r g=>exact .cons p q a b g
theorem IS(h:(m.findIdx? fun p=>BY p.1 v)=none):v∉m.map (·.1):=by
 intro a;obtain⟨p,b,rfl⟩:=AS a;have:=List.findIdx?_eq_none_iff.mp h p b;rw[(BB _ _).mpr rfl]at this;cases this
theorem DG{k:V}(nd:(m.map (·.1)).Nodup):((BK m k v).map (·.1)).Nodup:=by
 refine MC (m.findIdx? fun p=>BY p.1 k) (fun i h=>?_) fun h=>?_
 .rw[I4 h];exact nd
 .rw[EA h,AL,List.nodup_append];refine⟨nd,by exact pairwise_singleton _ _,fun a d b c=>?_⟩;simp only[AW,map_nil,mem_singleton]at c;subst c;exact fun e=>IS h (e▸d)
section
variable {d:Nat} {G:Gh} {H:Aj} {s s':Shared} {A:Around} {E:Value->Shared->Prop} {D:Addr} {l:List (V×V)} {k v:V} {x val:Value}
theorem DV.typeIs(h:DV X G s.heap D l):s.TypeIs (.ref D) "dict" :=by obtain⟨o,_,_,a,b,_,_,_⟩:=h;exact⟨o,a,b.1⟩
theorem DV.keep{g:Gh}{i:Heap}(x:DV X G h D l)(j:G.Le g)(m:∀o,h.get? D=some o->i.get? D=some o):DV X g i D l:=
 by obtain⟨o,n,ep,a,b,c,e,f⟩:=x;exact⟨o,n,ep,m o a,b,c,e.le j,f⟩
theorem Az.dict(b:Az X G H s)(e:H[n]? =some (.dict l)):Zi X G s.heap n l:=
 by obtain⟨a,o,c,k,f,g,h,i,j,m,p⟩:=b.loc n _ e;exact⟨a,f,g,o,c,k,h,i,j,m,p⟩
theorem Az.ofDV(a:G.loc n=some b)(c:G.aux n=none)(x:DV X G h b l):OR X G h n (.dict l):=
 by obtain⟨o,e,k,f,g,i,j,m⟩:=x;exact⟨b,o,e,k,a,c,f,g,i,j,m⟩
theorem DV.len(h:DV X G s.heap D l):Wv s.heap D l.length:=by
 obtain⟨o,g,ep,a,b,c,e,f⟩:=h;exact⟨o,g,ep,a,c,by rw[e.length];simp⟩
theorem DV.notTup(h:DV X G s.heap D l):∀c,¬s.heap.IsTuple D c:=by
 rintro c ⟨g,e,f,_⟩;obtain⟨o,i,ep,a,b,_⟩:=h;rw[a]at e;cases e;rw[b.1]at f;exact absurd f (by decide)
theorem Hi(e:Az X G H s)(hD:DV X G s.heap D l)(f:Pd 8 k)(g:VR G k x)(h:A.units+8<cLine)
  (u:∀v val t,BI l k=some v->VR G v val->j (some val) { s with toks:=t }) (y:∀t,BI l k=none->j none { s with toks:=t }) :
  wpAny (model X.prog X.w) A (dictGet D x) j E s:=by
 obtain⟨o,a,ep,m,F,hd,c,nd⟩:=hD;unfold dictGet
 try with_reducible refine AC ?_
 refine AA (Mb 8 e f g h fun t=>?_);refine AA (Eo (s:={ s with toks:=t }) (e.tok t) m hd c nd f g h ?_);cases n:(l.findIdx? fun p=>BY p.1 k)with
 |none=>exact AB (y t (Io n))
 |some i=>
  obtain⟨I,v,q,z⟩:=Il n;have b:i<a.toList.length:=by rw[<- c.length];exact(AE q).1
  obtain⟨B,J,r,_,_,_,C⟩:=c.get (AD b);rw[q]at r;cases r;refine AA (wpAny_dictEntries (s:={ s with toks:=t }) m hd (AB ?_));have:(a[i]?.map (·.val))=some a.toList[i].val:=by
   rw[show a[i]? =a.toList[i]? by simp,AD b];rfl
  rw[this];exact u v _ t z C
theorem Fe(n:Az X G H s)(hD:DV X G s.heap D l)(c:Pd 8 k)(e:VR G k x)(q:VR G v val)(r:A.units+8<cLine)(z:l.length<=sizeLine)
  (h:∀f t,DV X G f D (BK l k v)->Heap.SameBut D s.heap f->g () { s with heap:=f,toks:=t }) :
  wpAny (model X.prog X.w) A (dictSet D x val) g E s:=by
 obtain⟨o,j,ep,a,u,hd,b,nd⟩:=hD;have m:j.size<=sizeLine:=by have:=b.length;simp at this;exact AF (AT (Eq.symm this)) z
 unfold dictSet
 try with_reducible refine AC ?_
 refine AA (Mb 8 n c e r fun t=>?_);unfold dictSetHashed
 try with_reducible refine AC ?_
 refine AA (Eo (s:={ s with toks:=t }) (n.tok t) a hd b nd c e r ?_);cases y:(l.findIdx? fun p=>BY p.1 k)with
 |some i=>
  refine AA (wpAny_rule (AA (wpAny_updateDict (s:={ s with toks:=t }) a hd (wpAny_point (h _ t ⟨_,_,ep,get?_update_self _ a (Obj.isFreed_of_dict (Obj.data_mapDict hd _)),
   u.mapDict _,Obj.data_mapDict hd _,?_,DG nd⟩ (Heap.SameBut.update ..))))))
  have:=b.modify y q;obtain⟨B⟩:=j;simpa using this
 |none=>
  refine AA (wpAny_rule (wpAny_updateDictKeys (hz:=m) (s:={ s with toks:=t }) a hd (h _ t ⟨_,_,ep+1,get?_update_self _ a (Obj.isFreed_of_dict (Obj.data_mapDictKeys hd _)),
   u.mapDictKeys _,Obj.data_mapDictKeys hd _,?_,DG nd⟩ (Heap.SameBut.update ..))))
  have:=b.append c e q;rw[<- EA y]at this;obtain⟨B⟩:=j;simpa using this
theorem Rn(b:Az X G H s)(hD:DV X G s.heap D l)(c:Pd 8 k)(f:VR G k x)(g:A.units+10<cLine)(a:BI l k=some v)
  (h:∀val t,VR G v val->Q val { s with toks:=t }):wpAny (model X.prog X.w) A (getItem (.ref D) x) Q E s:=by
 unfold getItem
 try with_reducible refine AC ?_
 refine AA (wpAny_sequenceKey hD.typeIs (by decide) ?_);refine AA (wpAny_callSpecial?_slot (name:=ofString "__getitem__") hD.typeIs slot_dict_getitem
  (wpAny_call_entry slot_dict_getitem hD.typeIs entry_dict_getitem ?_ (args_dict_getitem _ _)))
 show wpAny _ _ (dictGet D x >>= _) _ _ s;refine AA (Hi b hD c f (by show A.units+1+8<cLine;omega) (fun i val t e r=>?_) fun t e=>?_)
 .rw[a]at e;cases e;exact AB ⟨val,rfl,AB (h val t r)⟩
 .rw[a]at e;cases e
theorem Iw(a:Az X G H s)(lo:(D==sysModules)=false)(hD:DV X G s.heap D l)(b:Pd 8 k)(c:VR G k x)(f:A.units+10<cLine)
  (h:∀t,R (BI l k).isSome { s with toks:=t }):wpAny (model X.prog X.w) A (contains (.ref D) x) R E s:=by
 unfold contains
 try with_reducible refine AC ?_
 refine AA (wpAny_specialOf hD.typeIs slot_dict_contains.lookup ?_);rw[if_neg (by rw[beq_builtin_none];exact AN)];refine AA (wpAny_callSpecialUnlessNone?_slot (name:=ofString "__contains__") hD.typeIs slot_dict_contains
  (wpAny_call_entry slot_dict_contains hD.typeIs entry_dict_contains ?_ (args_dict_contains _ _)))
 show wpAny _ _ (dictGet D x >>= _) _ _ s;refine AA (Hi a hD b c (by show A.units+1+8<cLine;omega) (fun g val t e r=>?_) fun t e=>?_)
 .have:=h t;rw[e]at this;exact AB ⟨_,rfl,wpAny_truthy_bool this⟩
 .have:=h t;rw[e]at this;exact AA (wpAny_pendingKey_other lo (AB ⟨_,rfl,wpAny_truthy_bool this⟩))
theorem RZ(e:Az X G H s)(hD:DV X G s.heap D l)(f:Pd 8 k)(i:VR G k x)(j:VR G v val)(n:A.units+10<cLine)(m:l.length<=sizeLine)
  (h:∀a t,DV X G a D (BK l k v)->Heap.SameBut D s.heap a->g () { s with heap:=a,toks:=t }):wpAny (model X.prog X.w) A (setItem (.ref D) x val) g E s:=by
 unfold setItem
 try with_reducible refine AC ?_
 refine AA (wpAny_sequenceKey hD.typeIs (by decide) ?_);refine AA (wpAny_callSpecial?_slot (name:=ofString "__setitem__") hD.typeIs slot_dict_setitem
  (wpAny_call_entry slot_dict_setitem hD.typeIs entry_dict_setitem ?_ (args_dict_setitem _ _ _)))
 refine AA (wpAny_notOrdered_dict hD.typeIs ?_);show wpAny _ _ (dictSet D x val >>= _) _ _ s;exact AA (Fe e hD f i j (by show A.units+1+8<cLine;omega) m fun a t b c=>AB ⟨.none,rfl,AB (h a t b c)⟩)
end
section
variable {d:Nat} {G:Gh} {H:Aj} {s s':Shared} {Φ:V->Aj->Prop} {Q:Value->Shared->Prop} {A:Around}
theorem Az.notMod(a:Az X G H s)(c:X.Ok)(e:G.isLoc b):(b==sysModules)=false:=by
 rw[beq_eq_false_iff_ne];intro q;obtain⟨o,f⟩:=c.low;have:=a.off b e;rw[q,f]at this;cases this
theorem Az.len(a:Az X G H s)(e:H[n]? =some (.list l)):True:=trivial
theorem KF{tk:Nat}(k:Bj X G s Φ Q)(g:Az X G H s)(i:n<H.length)(e:G.loc n=some b\/G.aux n=some b)(c:∀j,¬s.heap.IsTuple b j)
  (f:∀a o,a≠b->s.heap.get? a=some o->h.get? a=some o) (l:OR X G h n L) (m:∃o,h.get? b=some o) (r:VR G v x) (p:Φ v (H.set n L)):Q x { s with heap:=h,toks:=tk }:=
 k G (H.set n L) v x _ (.upd (e.imp (fun z=>⟨n,z⟩) fun z=>⟨n,z⟩) ⟨_,_,rfl⟩ f m) (g.upd i e c f l) r p
theorem LI.notTup(x:LI h b a):∀e,¬h.IsTuple b e:=by
 rintro e ⟨i,f,g,_⟩;obtain⟨⟨o,b,c,_⟩,_⟩:=x;rw[b]at f;cases f;rw[c]at g;exact absurd g (by decide)
theorem Du{a:Type}{l:List a}{x:a}(e:l[n]? =some x):n<l.length:=(AE e).1
theorem Tl(c:Az X G H s)(e:G.tup b=some a)(r:BJ G l a)(f:Φ (.int l.length) H)(g:l.length<2 ^ 62)(k:Bj X G s Φ Q) :
  wpAny (model X.prog X.w) A (call (.builtin "len") [.ref b]) Q (fun h h=>False) s:=by
 refine PyProof.Rows.len_tuple (c.tup _ _ e) (by rw[size_toArray,<- r.length];exact Int.lt_of_lt_of_le (Int.ofNat_lt.mpr g) (by decide)) ?_;rw[size_toArray,<- r.length];exact BX k c _ (.int _ _) f
theorem V2:sizeLine<2 ^ 62:=by rw[sizeLine_eq];decide
theorem TR{t:Tok}(a:Az X G H s)(b:Φ (.int i.natAbs) H)(k:Bj X G s Φ Q):wpAny (model X.prog X.w) A (call (.builtin "abs") [.int i t]) Q (fun c c=>False) s:=by
 refine call_abs_int fun u e=>?_;have:(if i<0 then -i else i)=(i.natAbs:Int):=by split<;>omega
 rw[this];exact BX k a _ (.int _ _) b
theorem TF{j:Int}{t u:Tok}(b:A.handled=none)(e:Az X G H s)(f:Φ (.int (if i<j then j else i)) H)(k:Bj X G s Φ Q) :
  wpAny (model X.prog X.w) A (call (.builtin "max") [.int i t,.int j u]) Q (fun g g=>False) s:=by
 refine max_two_ints b fun h l a=>?_;refine k G H (.int (if i<j then j else i)) _ _ (.ofKeeps ⟨_,_,rfl⟩ a _) (e.keeps a) ?_ f
 by_cases c:i<j
 .rw[if_pos (by omega),if_pos c];exact .int _ _
 .rw[if_neg (by omega),if_neg c];exact .int _ _
theorem M3(c:Az X G H s)(e:H[n]? =some (.list l))(r:VR G (.loc n) x)(h:l.length<=Ar)(i:Φ (.tup l) H)(k:Bj X G s Φ Q) :
  wpAny (model X.prog X.w) A (call (.type "tuple") [x]) Q (fun j j=>False) s:=by
 obtain⟨a,u,m,p,f⟩:=c.list e;obtain rfl:=r.at m;refine call_tuple_list p (fun t g=>?_) (by rw[size_toArray,<- f.length];exact Bh h);refine Ot k c f i ?_ (fun b o e=>get?_push_of_some _ (g b o e)) (Fs _ _);refine CK (s.heap.get? t.objs.size) (fun q=>?_) fun o q=>?_
 .rfl
 .exact absurd (lt_size (g _ _ q)) (Nat.lt_irrefl _)
theorem Pk(b:Az X G H s)(e:H[n]? =some (.list l))(r:VR G (.loc n) x)(f:l.length<=Ar)(g:Φ (.loc H.length) (H++[.list l]))(k:Bj X G s Φ Q) :
  wpAny (model X.prog X.w) A (call (.type "list") [x]) Q (fun h h=>False) s:=by
 obtain⟨a,v,i,⟨o,j,p,m,q⟩,c⟩:=b.list e;obtain rfl:=r.at i;refine call_list_seq a (.inl rfl) j p q (fun y z t u=>?_) (by rw[size_toArray,<- c.length];exact Bh f);exact FD k b c g (Aw _) t (LI.of u)
theorem NM{y:Value}(t:Az X G H s)(e:H[n]? =some (.list l))(r:VR G (.loc n) x)(C:VR G v y)(D:l.length<Ar)(E:Φ .none (H.set n (.list (l++[v]))))(k:Bj X G s Φ Q) :
  wpAny (model X.prog X.w) A (call (.builtin "list.append") [x,y]) Q (fun u u=>False) s:=by
 obtain⟨a,z,j,F,g,B⟩:=t.listI e;obtain rfl:=r.at j;obtain⟨o,p,I,m,hd⟩:=g.1;obtain⟨J,f⟩:=Obj.data_mapSeq hd (·.push y);refine wpAny_call_entry slot_list_append g.1.typeIs entry_list_append ?_ (args_list_append _ _);show wpAny _ _ (updateSeq a (·.push y) >>= fun u=>ret .none) _ _ s;refine AA ?_;have M:z.toArray.size<=sizeLine:=by rw[size_toArray,<- B.length];exact Bh (AR D)
 refine wpAny_updateSeq p hd (AB ⟨.none,rfl,?_⟩);have q:=get?_update_self (h:=s.heap) (mapSeq (·.push y)) p (Obj.isFreed_of_seq f);refine KF (tk:=s.toks) k t (Du e) (.inl j) g.notTup (fun b N K i=>(get?_update_other _ _ (Ne.symm K)).trans i) ?_ ⟨_,q⟩ .none E;refine⟨a,z++[y],j,F,⟨⟨_,q,(cls_mapSeq ..).trans I,J,?_⟩,fun O i=>?_⟩,B.append (.cons C .nil)⟩
 .rw[f];simp
 .rw[q]at i;cases i;obtain⟨c,L,P,R⟩:=o;simp only at hd;subst hd;exact(g.2 _ p:L=none)
theorem P4(hD:DV X G s.heap b m)(lo:(b==sysModules)=false){E:Value->Shared->Prop}(a:m.length<2 ^ 62)(h:∀t c,Q (.int m.length t) { s with toks:=c }) :
  wpAny (model X.prog X.w) A (call (.builtin "len") [.ref b]) Q E s:=by
 obtain⟨o,i,ep,e,hd,f⟩:=hD.len;refine call_len_slot (n:=m.length) hD.typeIs F.slot_dict_len (fun j g=>?_) (Int.not_lt_of_ge (Ai _)) (Int.not_le_of_gt (Int.lt_of_lt_of_le (Int.ofNat_lt.mpr a) (by decide))) (h _ _);refine wpAny_call_entry F.slot_dict_len hD.typeIs F.entry_dict_len ?_ (F.args_dict_len_1 _);show wpAny _ _ (dictSize b >>= _) _ _ s;refine AA (AA (wpAny_dictEntries e hd (AB ?_)));refine AA (wpAny_pendingCount_other lo ?_);refine wpAny_ret_mkInt ?_;rw[Nat.add_zero,f];exact g
theorem Ju{kk:V}{y:Value}(c:Az X G H s)(lo:(b==sysModules)=false)(hD:DV X G s.heap b m)(g:Pd 8 kk)(h:VR G kk x)(i:VR G v y)(l:A.units+10<cLine)
  (a:Φ ((BI m kk).getD v) H) (k:Bj X G s Φ Q):wpAny (model X.prog X.w) A (call (.builtin "dict.get") [.ref b,x,y]) Q (fun j j=>False) s:=by
 refine wpAny_call_entry F.slot_dict_get hD.typeIs F.entry_dict_get ?_ (F.args_dict_get_3 _ _ _);show wpAny _ _ (dictGet b x >>= _) _ _ s;refine AA (Hi c hD g h (by show A.units+1+8<cLine;omega) (fun n f t e r=>?_) fun t e=>?_)
 .rw[e]at a;exact AB ⟨f,rfl,BX k c _ r a⟩
 .rw[e]at a;exact AA (wpAny_missed_other lo (AB ⟨y,rfl,BX k c _ i a⟩))
set_option tactic.hygienic true in
theorem E3{kk:V}{y:Value}(j:Az X G H s)(lo:(b==sysModules)=false)(D:G.loc n=some b)(M:G.aux n=none)(e:H[n]? =some (.dict m))(hD:DV X G s.heap b m)
  (r:Pd 8 kk) (z:VR G kk x) (E:VR G v y) (Y:A.units+10<cLine) (N:m.length<Ar)
  (l:match BI m kk with |some u=>Φ u H |none=>Φ v (H.set n (.dict (m++[(kk,v)])))) (k:Bj X G s Φ Q) :
  wpAny (model X.prog X.w) A (call (.builtin "dict.setdefault") [.ref b,x,y]) Q (fun _ _=>False) s:=by
 refine wpAny_call_entry F.slot_dict_setdefault hD.typeIs F.entry_dict_setdefault ?_ (F.args_dict_setdefault_3 _ _ _);refine AA ?_;refine AA (wpAny_notOrdered_dict hD.typeIs ?_);refine AB ?_;show wpAny _ _ (if(b==sysModules)=true then _ else(dictSetDefault b x y >>= _)) _ _ s
 rw[if_neg (by rw[lo];exact AN)];refine AA ?_;unfold dictSetDefault
 try with_reducible refine AC ?_
 have a:A.in1.units+8<cLine:=by show A.units+1+8<cLine;omega
 refine AA (Mb 8 j r z a fun t=>?_);obtain⟨o,c,ep,q,O,hd,f,nd⟩:=id hD;have B:c.size<=sizeLine:=by
  have:=f.length;simp at this;have:=Bh (AR N);omega
 refine AA (Eo (s:={ s with toks:=t }) (j.tok t) q hd f nd r z a ?_);cases C:(m.findIdx? fun p=>BY p.1 kk);rotate_left
 .rename_i i;obtain⟨Z,v',I,P⟩:=Il C;rw[P]at l;have g:i<c.toList.length:=by rw[<- f.length];exact(AE I).1
  obtain⟨R,S,J,_,_,_,T⟩:=f.get (AD g);rw[I]at J;cases J;refine AA (wpAny_dictEntries (s:={ s with toks:=t }) q hd ?_);rw[show c[i]? =c.toList[i]? by simp,AD g];exact AA (wpAny_rule (AB (AB ⟨_,rfl,BX k j _ T l⟩)))
 .rw[Io C]at l;refine AA (wpAny_rule (AA (wpAny_updateDictKeys (hz:=B) (s:={ s with toks:=t }) q hd (AB (AB ⟨_,rfl,?_⟩)))));have K:=get?_update_self (h:=s.heap) (Obj.mapDictKeys (·.push ⟨kh X.w kk,x,y⟩)) q (Obj.isFreed_of_dict (Obj.data_mapDictKeys hd _));refine KF (s:=s) (tk:=t) k j (Du e) (.inl D) hD.notTup (fun L ob U W=>(get?_update_other _ _ (Ne.symm U)).trans W) ?_ ⟨_,K⟩ E l;refine⟨b,_,_,ep+1,D,M,K,O.mapDictKeys _,Obj.data_mapDictKeys hd _,?_,?_⟩
  .have:=f.append r z E;obtain⟨l'⟩:=c;simpa using this
  .have:=DG (k:=kk) (v:=v) nd;rw[EA C]at this;exact this
theorem G6(c:Az X G H s)(lo:(b==sysModules)=false)(h:G.loc n=some b)(hD:DV X G s.heap b m)
  (i:Φ (.loc H.length) (H++[.items n])) (k:Bj X G s Φ Q) :
  wpAny (model X.prog X.w) A (call (.builtin "dict.items") [.ref b]) Q (fun f f=>False) s:=by
 refine wpAny_call_entry F.slot_dict_items hD.typeIs F.entry_dict_items ?_ (F.args_dict_items_1 _);refine AA ?_;refine AA (wpAny_notOrdered_dict hD.typeIs ?_);refine AB ?_;unfold Builtin.Dict.showsAll;rw[if_neg (by rw[lo];exact AN)];refine AA (AB ?_);refine AA (wpAny_newObj_type (AB ⟨_,rfl,?_⟩));have g:∀a o,s.heap.get? a=some o->(s.heap.push { cls:=.type "dict_items",data:=.fields #[.ref b] }).get? a=some o:=fun a o e=>get?_push_of_some _ e;exact k (G.addLoc H.length s.heap.objs.size none) _ _ _ _ (.alloc c (Aw _) (fun f e=>by cases e) ⟨_,_,rfl⟩ g)
  (c.alloc (o:=.items n) (Aw _) (fun f e=>by cases e) g ⟨_,_,b,As,BD,get?_push_size _ rfl,rfl,rfl,(c.leLoc _ _).loc _ _ h⟩) (.loc As) i
end
section
open AutoSeq1 (wpAny_loadPart')
theorem Xo(h:∀b,R b A):wpAny (model i5 Y) z3 (pure s) R Q A:=AB (h s)
theorem Pz(l:Addr)(items:Array Value)(n:Nat)(c:Option Addr)(j:Array (Option Value)) :
  Meets (Builtin.«enumerate.__new__» ⟨[.type "enumerate",.ref l],[]⟩) (fun o R s=>s.heap.get? l=some { cls:=.type "tuple",dict:=c,data:=.seq items n,slots:=j } /\
   R (.ok (.ret (.ref (s.heap.push { cls:=.type "tuple_iterator",data:=.fields #[.ref l,.int 0 0] }).objs.size)))
    { s with heap:=(s.heap.push { cls:=.type "tuple_iterator",data:=.fields #[.ref l,.int 0 0] }).push { cls:=.type "enumerate",data:=.fields #[.none,.bool false,.ref s.heap.objs.size,rawInt 0,.none,.none] } }):=
 .of_wp fun e w A R s h=>by
  obtain⟨k,g,d,m,os⟩:=s;obtain⟨a,h⟩:=h;have f:=sub_enumerate;have i:Heap.IsTuple (Shared.heap ⟨k,g,d,m,os⟩) l items:=⟨_,a,rfl,n,rfl⟩;wp_walk using wpAny_loadPart' a;refine wpAny_stack_any fun st=>Xo fun b=>?_;cases b
  .wp_walk using wpAny_loadPart' a,wpAny_pyIter_tuple i;exact⟨_,rfl,h⟩
  .wp_walk using wpAny_loadPart' a,wpAny_pyIter_tuple i;exact⟨_,rfl,h⟩
theorem Qq(l:Addr)(items:Array Value)(n:Nat)(k:Option Addr)(m:Array (Option Value))(b:Addr)(a:Array Value)(o:Nat)(p:Option Addr)(s2:Array (Option Value))
  (q:¬(!items.isEmpty&&Builtin.List.listTooLong (items.size+a.size))=true) (c:items.size<=sizeLine) (e:items.size+a.size<=sizeLine+1) :
  Meets (Builtin.«list.extend» ⟨[.ref l,.ref b],[]⟩) (fun t R s=>s.heap.get? l=some { cls:=.type "list",dict:=k,data:=.seq items n,slots:=m }/\s.heap.get? b=some { cls:=.type "list",dict:=p,data:=.seq a o,slots:=s2 }/\R (.ok (.ret Value.none)) { s with heap:=s.heap.update l (mapSeq fun x=>x++a),toks:=s.toks }):=
 .of_wp fun i w A R s h=>by
  obtain⟨u,g,d,v,os⟩:=s;obtain⟨j,r,h⟩:=h;have y:=AutoSeq1.idx_int;have z:=AutoSeq1.sub_tuple_tuple;have B:=AutoSeq1.sub_list_list;have C:=AutoSeq1.sub_tuple_list;have D:=AutoSeq1.sub_list_tuple;have f:(items++a).size<=sizeLine+1:=by rw[Array.size_append];exact e
  wp_walk using(wpAny_updateSeq j rfl (hz:=c) (_hz':=f)),wpAny_loadPart' j,wpAny_loadPart' r;exact⟨_,rfl,h⟩
theorem Pc(l:Addr)(items:Array Value)(n:Nat)(k:Option Addr)(m:Array (Option Value))(b:Addr)(a:Array Value)(o:Nat)(p:Option Addr)(s2:Array (Option Value))
  (q:¬(!items.isEmpty&&Builtin.List.listTooLong (items.size+a.size))=true) (c:items.size<=sizeLine) (e:items.size+a.size<=sizeLine+1) :
  Meets (Builtin.«list.extend» ⟨[.ref l,.ref b],[]⟩) (fun t R s=>s.heap.get? l=some { cls:=.type "list",dict:=k,data:=.seq items n,slots:=m }/\s.heap.get? b=some { cls:=.type "tuple",dict:=p,data:=.seq a o,slots:=s2 }/\R (.ok (.ret Value.none)) { s with heap:=s.heap.update l (mapSeq fun x=>x++a),toks:=s.toks }):=
 .of_wp fun i w A R s h=>by
  obtain⟨u,g,d,v,os⟩:=s;obtain⟨j,r,h⟩:=h;have y:=AutoSeq1.idx_int;have z:=AutoSeq1.sub_tuple_tuple;have B:=AutoSeq1.sub_list_list;have C:=AutoSeq1.sub_tuple_list;have D:=AutoSeq1.sub_list_tuple;have f:(items++a).size<=sizeLine+1:=by rw[Array.size_append];exact e
  wp_walk using(wpAny_updateSeq j rfl (hz:=c) (_hz':=f)),wpAny_loadPart' j,wpAny_loadPart' r;exact⟨_,rfl,h⟩
section
variable {d:Nat} {G:Gh} {H:Aj} {s s':Shared} {Φ:V->Aj->Prop} {Q:Value->Shared->Prop} {A:Around}
theorem Ez{o:HO}{tk:Nat}(k:Bj X G s Φ Q)(c:Az X G H s)(f:s.heap.get? b=none)(g:∀a o,s.heap.get? a=some o->h.get? a=some o)
  (i:OR X (G.addLoc H.length b none) h H.length o) (j:Φ (.loc H.length) (H++[o])):Q (.ref b) { s with heap:=h,toks:=tk }:=
 k (G.addLoc H.length b none) _ _ _ _ (.alloc c f (fun l e=>by cases e) ⟨_,_,rfl⟩ g) (c.alloc f (fun l e=>by cases e) g i) (.loc As) j
theorem M1{t:Tok}(a:Az X G H s)(c:Φ (.loc H.length) (H++[.range 0 i 1]))(k:Bj X G s Φ Q):wpAny (model X.prog X.w) A (call (.type "range") [.int i t]) Q (fun f f=>False) s:=
 call_range_1 (Ez (o:=.range 0 i 1) k a (Aw _) (fun b o e=>get?_push_of_some _ e) (by exact⟨_,_,_,_,As,BD,get?_push_size _ rfl⟩) c)
theorem NY{n:Int}{t u:Tok}(a:Az X G H s)(c:Φ (.loc H.length) (H++[.range i n 1]))(k:Bj X G s Φ Q):wpAny (model X.prog X.w) A (call (.type "range") [.int i t,.int n u]) Q (fun f f=>False) s:=
 call_range_2 (Ez (o:=.range i n 1) k a (Aw _) (fun b o e=>get?_push_of_some _ e) (by exact⟨_,_,_,_,As,BD,get?_push_size _ rfl⟩) c)
theorem MZ{n:Int}{t u v:Tok}(a:Az X G H s)(c:Φ (.loc H.length) (H++[.range i n 2]))(k:Bj X G s Φ Q):wpAny (model X.prog X.w) A (call (.type "range") [.int i t,.int n u,.int 2 v]) Q (fun f f=>False) s:=
 call_range_3 (by decide) (Ez (o:=.range i n 2) k a (Aw _) (fun b o e=>get?_push_of_some _ e) (by exact⟨_,_,_,_,As,BD,get?_push_size _ rfl⟩) c) (hp:=.inl (PyProof.noPylong_small (by decide)))
theorem PT(h:i.natAbs<2 ^ 100):i.natAbs.log2<1920:=by
 rcases Nat.eq_zero_or_pos i.natAbs with e |e
 .rw[e];decide
 .have:=(Nat.log2_lt (by omega)).mpr h;omega
theorem GP{m:List V}{v:V}{f b:Addr}{g:List Value}(u:Az X G H s)(e:H[n]? =some (.list l))(r:G.loc n=some f)(w:G.aux n=none)(p:LI s.heap f a)(y:BJ G l a)(z:BJ G m g)
  (B:Φ .none (H.set n (.list (l++m)))) (k:Bj X G s Φ Q):Q Value.none { s with heap:=s.heap.update f (mapSeq fun x=>x++g.toArray),toks:=s.toks }:=by
 obtain⟨o,t,C,I,hd⟩:=p.1;obtain⟨D,i⟩:=Obj.data_mapSeq hd (fun x=>x++g.toArray);have q:=get?_update_self (h:=s.heap) (mapSeq fun x=>x++g.toArray) t (Obj.isFreed_of_seq i);refine KF (s:=s) (tk:=s.toks) k u (Du e) (.inl r) p.notTup (fun b J E j=>(get?_update_other _ _ (Ne.symm E)).trans j) ?_ ⟨_,q⟩ .none B;refine⟨f,a++g,r,w,⟨⟨_,q,(cls_mapSeq ..).trans C,D,?_⟩,fun K j=>?_⟩,y.append z⟩
 .rw[i];simp
 .rw[q]at j;cases j;obtain⟨c,F,L,M⟩:=o;simp only at hd;subst hd;exact(p.2 _ t:F=none)
theorem OE(h:n<Ar):Builtin.List.listTooLong n=false:=by
 have:=Bh (AR h);unfold Builtin.List.listTooLong;simpa using this
theorem NK{m:List V}(h:Az X G H s)(e:H[n]? =some (.list l))(r:VR G (.loc n) x)(D:G.tup b=some a)(q:BJ G m a)(i:l.length+m.length<Ar)
  (E:Φ .none (H.set n (.list (l++m)))) (k:Bj X G s Φ Q):wpAny (model X.prog X.w) A (call (.builtin "list.extend") [x,.ref b]) Q (fun I I=>False) s:=by
 obtain⟨c,t,u,J,j,y⟩:=h.listI e;obtain rfl:=r.at u;obtain⟨⟨K,L,z,M⟩,N,B,O,hd⟩:=j.1;obtain⟨⟨C,P,data2,s2⟩,o,f,R,g⟩:=h.tup _ _ D;simp only at B hd f g;subst B hd f g;have p:t.toArray.size+a.toArray.size=l.length+m.length:=by rw[size_toArray,size_toArray,y.length,q.length]
 refine call_meets F.slot_list_extend j.1.typeIs F.entry_list_extend (F.args_list_extend_2 _ _) (Pc c t.toArray O L M b a.toArray R P s2 ?_ (AR (AK (AH (AF (AU _ _) (AT p)) i) (by decide))) (AR (AV (AK (AH (AT p) i) (by decide)) (lt_add_of_pos_right (by decide))))) ⟨N,o,(GP (v:=.none) (b:=b) h e u J j y q E k)⟩;rw[p,OE i];simp
theorem K1{m:List V}{y:Value}(h:Az X G H s)(e:H[n]? =some (.list l))(I:H[k]? =some (.list m))(r:VR G (.loc n) x)(J:VR G (.loc k) y)(i:l.length+m.length<Ar)
  (K:Φ .none (H.set n (.list (l++m)))) (c:Bj X G s Φ Q):wpAny (model X.prog X.w) A (call (.builtin "list.extend") [x,y]) Q (fun L L=>False) s:=by
 obtain⟨a,q,t,M,j,u⟩:=h.listI e;obtain⟨b,z,N,Z,O,B⟩:=h.listI I;obtain rfl:=r.at t;obtain rfl:=J.at N;obtain⟨⟨P,R,C,S⟩,T,D,U,hd⟩:=j.1;obtain⟨⟨E,W,data2,s2⟩,o,f,Y,g⟩:=O.1;simp only at D hd f g;subst D hd f g;have p:q.toArray.size+z.toArray.size=l.length+m.length:=by rw[size_toArray,size_toArray,u.length,B.length]
 refine call_meets F.slot_list_extend j.1.typeIs F.entry_list_extend (F.args_list_extend_2 _ _) (Qq a q.toArray U R S b z.toArray Y W s2 ?_ (AR (AK (AH (AF (AU _ _) (AT p)) i) (by decide))) (AR (AV (AK (AH (AT p) i) (by decide)) (lt_add_of_pos_right (by decide))))) ⟨T,o,(GP (v:=.none) (b:=b) h e t M j u B K c)⟩;rw[p,OE i];simp
theorem EW:∀{c:List Value},BJ G (t.map V.int) c->∃b:List (Int×Tok),c=b.map (fun p=>Value.int p.1 p.2)/\b.map (·.1)=t:=by
 induction t with
 |nil=>exact fun h=>⟨[],h.nil_l,rfl⟩
 |cons i t e=>
  intro c h;obtain⟨y,l,f,g⟩:=h.cons_l;obtain⟨a,rfl⟩:=f.int_l;obtain⟨b,j,k⟩:=e g;exact⟨(i,a)::b,by rw[AW,j],by rw[AW,k]⟩
theorem Te(i:A.handled=none)(c:Az X G H s)(e:H[n]? =some (.list (t.map V.int)))(r:VR G (.loc n) x)(f:∀j,InLong (t.getD j 0)/\InLong (t.take j).sum)
  (l:Φ (.int t.sum) H) (k:Bj X G s Φ Q):wpAny (model X.prog X.w) A (call (.builtin "sum") [x]) Q (fun m m=>False) s:=by
 obtain⟨a,v,o,g,q⟩:=c.list e;obtain rfl:=r.at o;obtain⟨b,rfl,rfl⟩:=EW q;have:(b.map (fun p=>Value.int p.1 p.2)).toArray=intItems b.toArray:=by simp[intItems]
 rw[this]at g;refine sum_intList i g (fun j u=>?_) fun y z B h=>?_
 .rw[preSum_eq];refine⟨?_,((f (j+1)).2)⟩;have e:numAt b.toArray j=(b.map (·.1)).getD j 0:=by
   simp[numAt,u]
  rw[e];exact((f j).1)
 .rw[preSum_eq,List.take_of_length_le (by simp)];exact k G H (.int (b.map (·.1)).sum) _ _ (.ofKeeps ⟨_,_,rfl⟩ h _) (c.keeps h) (.int _ _) l
end
theorem Jw:typeLookup (.type "list") "keys" =pure none:=by rw[typeLookup_type,builtinLookup_eq_fast];kernel_rfl
theorem B5:plainId "dict.update.loop" =true:=by decide +kernel
theorem Da:entryFor table "dict.update.loop" =some Builtin.«dict.update.loop» :=entryFor_of_tree (by kernel_rfl)
section
variable {prog:Program} {w:World} {A:Around} {E:Value->Shared->Prop}
set_option maxHeartbeats 1000000 in
theorem Jv{s:Shared}{l:Array (Option Value)}
  (m:s.heap.get? b=some { cls:=.type "list",dict:=none,data:=.seq m7 k,slots:=l }) (q:A.handled=none)
  (h:∀i n,(∀a o,s.heap.get? a=some o->i.get? a=some o)->j none { s with heap:=i,toks:=n }) :
  wpAny (model prog w) A (getAttr? (.ref b) "keys") j E s:=by
 obtain⟨r,g,d,n,os⟩:=s;have p:∀c,(⟨r,g,d,c,os⟩:Shared).TypeIs (.ref b) "list" :=fun t=>⟨_,m,rfl⟩;have u:=sub_AttributeError;have v:=F.slot_list_getattribute.lookup;have x:=F.slot_list_getattribute.bind (.ref b);have y:=am_list_getattr_none
 repeat (any_goals (first |assumption |exact p _ |((with_reducible show wpAny _ _ (call (Value.builtin "list.__getattribute__") _ _) _ _ _);refine call_meets F.slot_list_getattribute (p _) am_entry_list_getattribute (F.args_list_getattribute_2 _ _) (meets_getattribute_miss_list b m7 k l "keys" _ Jw (by decide +kernel) (by rw[sizeLine_eq];decide)) ⟨m,q,fun i c e f=>?_⟩) |wp_step))
 obtain⟨z,B,C⟩:=f.there;unfold getattributeRaised
 repeat (any_goals (first |assumption |wp_step))
 exact h _ _ f.keeps
end
section
variable {d:Nat} {G:Gh} {H:Aj} {s s':Shared} {Φ:V->Aj->Prop} {Q:Value->Shared->Prop} {A:Around}
theorem DO(l:List (V×V))(k v:V):(BK l k v).length<=l.length+1:=by
 refine MC (l.findIdx? fun p=>BY p.1 k) (fun i h=>?_) fun h=>?_
 .have:=congrArg List.length (I4 (v:=v) h);simp only[AG]at this;exact le_add_right_of_le (AT this)
 .rw[EA h];simp
theorem IsListIter.at'{c:Heap}{a:Addr}(x:h.IsListIter b a n)(e:∀o,h.get? b=some o->c.get? b=some o):c.IsListIter b a n:=x.at e
inductive U0(G:Gh)(k v:V):Value->Prop
 |mk (b:Addr) (a c:Value):G.tup b=some [a,c]->VR G k a->VR G v c->U0 G k v (.ref b)
theorem VR.pair{k:V}(r:VR G (.tup [k,v]) x):U0 G k v x:=by
 obtain⟨_,_,e,c⟩:=r.tup_l;obtain⟨_,_,a,f⟩:=c.cons_l;obtain⟨_,_,b,g⟩:=f.cons_l;obtain rfl:=g.nil_l;exact⟨_,_,_,e,a,b⟩
set_option tactic.hygienic true in
theorem LP{D I:Addr}(hA:A.handled=none)(hu:A.units+20<cLine)(hh:Az X G H s)(hL:s.heap.IsList b a.toArray)(r:BJ G l a)
  (a0:s.heap.get? D=none) (E:s.heap.get? I=none) (ne:I≠D) :
  ∀(n i:Nat)(m f:List (V×V))(h:Heap)(L:Nat)(t:Tok),l.length-i=n->i<=l.length->U2 (l.drop i) f->(∀c o,s.heap.get? c=some o->h.get? c=some o)->DV X G h D m->h.IsListIter I b i ->
   m.length+n<=Ar->(∀C j,(∀c o,s.heap.get? c=some o->C.get? c=some o)->DV X G C D (BG m f)->u0 (.ok (.ret x)) { s with heap:=C,toks:=j }) ->
   codeAny (model X.prog X.w) A (.builtin "dict.update.loop" ⟨[.ref D,.ref I,.int i t,x],[]⟩) u0 { s with heap:=h,toks:=L }:=by
 have b0:b≠I:=fun e=>by obtain⟨o,M,_⟩:=hL;rw[e,E]at M;cases M
 have W:=Walks.list (prog:=X.prog) (w:=X.w) (A:=A.in1) hA I b b0 a.toArray;have N:a.toArray.size=l.length:=by rw[size_toArray,r.length]
 intro n;induction n with
 |zero=>
  intro i m f h L t Z hi K O hD F hz hR;have:i=l.length:=le_antisymm hi (le_of_sub_eq_zero Z);subst this;rw[drop_length]at K;cases K;refine codeAny_builtin Da ?_;rw[Around.under_plainId B5 _];refine AA (W.done { s with heap:=h,toks:=L } _ _ ⟨by rw[N];exact F,hL.at fun o e=>O b o e⟩ fun C j u=>?_);have g:∀c o,s.heap.get? c=some o->C.get? c=some o:=fun c o e=>u c o (fun q=>by
   rw[AJ q,E]at e;cases e) (O c o e)
  exact AA (AB (AB (hR C j g (hD.keep (.refl G) fun o e=>u D o (fun q=>ne (AJ q).symm) e))))
 |succ n ih=>
  intro i m f h L t Z hi K O hD F hz hR;have z:i<l.length:=Nat.lt_of_sub_eq_succ Z;obtain⟨p,J⟩:∃p,l[i]? =some p:=⟨l[i],AD z⟩;rw[drop_eq_getElem_cons z]at K;obtain⟨P,hx,rx⟩:=r.get J;have c0:l[i]=p:=by rw[AD z]at J;exact Option.some.inj J
  rw[c0]at K;cases K with
  |cons pk d0=>
   rename_i k v m';refine codeAny_builtin Da ?_;rw[Around.under_plainId B5 _];refine AA (W.item i { s with heap:=h,toks:=L } _ _ (by rw[N];exact z) ⟨F,hL.at fun o e=>O b o e⟩ fun y C j hy f0 u=>?_);have g:∀c o,s.heap.get? c=some o->C.get? c=some o:=fun c o e=>u c o (fun q=>by
    rw[AJ q,E]at e;cases e) (O c o e)
   have g0:y=P:=by
    have R:a[i]? =some y:=by simpa using hy
    rw[hx]at R;exact(Option.some.inj R).symm
   subst g0;obtain⟨c,kx,vx,e1,rk,rv⟩:=rx.pair
   ··.have S:Az X G H { s with heap:=C,toks:=j }:=hh.keeps g;obtain⟨o,M,hc,i0,hd⟩:=S.tup _ _ e1;refine AA (AC (AA (wpAny_tryCatch ?_)));refine AA (wpAny_typeOf (T:= "tuple") ⟨o,M,hc⟩ ?_);rw[if_pos (by decide)];refine AA ?_;refine AA (wpAny_load M ?_);rw[hd];refine AB (AB ?_);refine AC (Fe S (hD.keep (.refl G) fun o e=>u D o (fun q=>ne (AJ q).symm) e) pk rk rv (AH (AO (by decide:9<=20) A.units) hu) (Bh (AF (AU _ _) hz)) fun U h0 Y hs=>?_);refine AB ⟨plainId_quiet B5 _,?_⟩;have B:∀c o,c≠D->C.get? c=some o->U.get? c=some o:=fun c o q e=>(hs.2 c q).trans e;refine ih (i+1) (BK m k v) m' U h0 0 (congrArg pred Z) z d0 (fun c o e=>B c o (fun q=>by rw[q,a0]at e;cases e) (g c o e)) Y (f0.1.at fun o e=>B I o ne e) ?_ hR;exact AF (AP (DO m k v) n) (AF (AT (Nat.succ_add_eq_add_succ _ _)) hz)
theorem IU(D:A.handled=none)(S:A.units+30<cLine)(q:Az X G H s)(e:H[n]? =some (.list l))(r:VR G (.loc n) x)(K:U2 l m)(L:l.length<=Ar)
  (M:Φ (.loc H.length) (H++[.dict (BG [] m)])) (k:Bj X G s Φ Q):wpAny (model X.prog X.w) A (call (.type "dict") [x]) Q (fun E E=>False) s:=by
 obtain⟨a,N,O,U,v,P⟩:=q.listI e;obtain rfl:=r.at O;obtain⟨⟨c,y,V,W⟩,t,I,ne,hd⟩:=id v.1;have j:y=none:=v.2 _ t;simp only at I hd;subst I hd j;refine callType_codes (Q₁:=fun p h=>p=.ref s.heap.objs.size/\h={ s with heap:=s.heap.push { cls:=.type "dict",data:=.dict #[] } }) F.kt_called_dict (F.kt_typeCall_dict_1 _) F.entry_dict_init (kt_code_dict_new _ ⟨rfl,rfl⟩) ?_;rintro p h ⟨rfl,rfl⟩;have J:({ s with heap:=s.heap.push { cls:=.type "dict",data:=.dict #[] } }:Shared).TypeIs (.ref s.heap.objs.size) "dict" :=⟨_,get?_push_size _ rfl,rfl⟩;refine⟨J,F.args_dict_init_2 _ _,?_⟩;refine AA ?_;refine AA (wpAny_notOrdered_dict J ?_);refine AB ?_;have f:∀b o,s.heap.get? b=some o->(s.heap.push { cls:=.type "dict",data:=.dict #[] }).get? b=some o:=fun b o e=>get?_push_of_some _ e;refine AA (wpAny_typeOf (T:= "list") ⟨_,f _ _ t,rfl⟩ ?_);rw[if_pos (by decide)];refine AA (Jv (f _ _ t) D fun u t2 g=>?_);rw[if_pos (by rfl)];refine AA (wpAny_rule ?_);refine AA (wpAny_pyIter_list (s:={ s with heap:=u,toks:=t2 }) (⟨_,g _ _ (f _ _ t),rfl,ne,rfl⟩:u.IsList a N.toArray) ?_);refine AB ⟨plainId_quiet B5 _,?_⟩;have z:∀b o,s.heap.get? b=some o->(u.push { cls:=.type "list_iterator",data:=.fields #[.ref a,.int 0 0] }).get? b=some o:=fun b o e=>get?_push_of_some _ (g _ _ (f _ _ e));have i:s.heap.objs.size<u.objs.size:=lt_size (g _ _ (show(s.heap.push { cls:=.type "dict",data:=.dict #[] }).get? s.heap.objs.size=_ from get?_push_size _ rfl));refine LP (A:=A.in1) (s:=s) D (by show A.units+1+20<cLine;omega) q v.1 P (Aw _) (get?_none_of_le (AR i)) (Nat.ne_of_gt i) l.length 0 [] m _ _ 0 rfl (zero_le _) (K) z
  ⟨_,#[],0,get?_push_of_some _ (g _ _ (get?_push_size _ rfl)),⟨rfl,rfl,rfl⟩,rfl,.nil,nodup_nil⟩ ⟨_,get?_push_size _ rfl,rfl,rfl⟩ (by simpa using L) fun Y R B C=>?_
 exact⟨rfl,Ez k q (Aw _) B (Az.ofDV As BD (C.keep (q.leLoc _ _) fun E e=>e)) M⟩
end
end
section
variable {d:Nat} {G:Gh} {H:Aj} {s s':Shared} {Φ:V->Aj->Prop} {Q:Value->Shared->Prop} {A:Around} {D:Addr}
theorem Ty(r:ER X.w G m u):∀{b:List Str},m.map (·.1)=b.map V.str ->
  EC fun(a:List (Str×Value))=>KT (a.map (·.1)=b) (Pairs (PySem.strKind X.prog X.w) u a) ((∀e∈u,∃k,(PySem.strKind X.prog X.w).is k e.key=true/\e.hash=(PySem.strKind X.prog X.w).hash k)) (BJ G (m.map (·.2)) (a.map (·.2))):=by
 induction r with
 |nil=>
  intro b e;cases List.map_eq_nil_iff.mp e.symm;exact⟨[],rfl,.nil,(fun E h=>nomatch h),.nil⟩
 | @cons k v f m u F g i l r n=>
  intro b e;cases b with
  |nil=>exact nomatch e
  |cons x b=>
   have o:k=.str x:=(List.cons.inj e).1;obtain⟨a,p,q,y,B⟩:=n (List.cons.inj e).2;rw[o]at i g;have j:(PySem.strKind X.prog X.w).is x f.key=true:=by
    obtain⟨t,z⟩:=i.str_l;rw[z];exact beq_self_eq_true _
   refine⟨(x,f.val)::a,by rw[AW,p],.cons j rfl q,fun C c=>?_,.cons l B⟩;rcases Ae c with z |z
   .rw[z];exact⟨x,j,g⟩
   .exact y C z
theorem DV.toStr(x:DV X G h D m)(e:m.map (·.1)=m4.map V.str):EC fun(c:List (Str×Value))=>DD (h.DictOf (PySem.strKind X.prog X.w) D c) (c.map (·.1)=m4) (BJ G (m.map (·.2)) (c.map (·.2))):=by
 obtain⟨o,j,ep,k,l,hd,n,nd⟩:=x;obtain⟨c,i,p,q,r⟩:=Ty n e;refine⟨c,⟨o,j,ep,k,l,hd,fun t f=>q t (by simpa using f),p,?_⟩,i,r⟩;rw[i];rw[e]at nd;exact of_map V.str (fun a b g u=>g (congrArg _ u)) nd
theorem PY{c:List (Str×Value)}(q:Pairs (PySem.strKind X.prog X.w) u c):∀{l:List (V×V)},(∀e∈u,∃k,(PySem.strKind X.prog X.w).is k e.key=true/\e.hash=(PySem.strKind X.prog X.w).hash k) ->
  l.map (·.1)=c.map (fun p=>V.str p.1)->BJ G (l.map (·.2)) (c.map (·.2))->ER X.w G l u:=by
 induction q with
 |nil=>
  intro l _ e _;cases List.map_eq_nil_iff.mp e;exact .nil
 | @cons B f u c h j C m=>
  intro l i e r;cases l with
  |nil=>exact nomatch e
  |cons p l=>
   obtain⟨y,E,n,o⟩:=(show BJ G (p.2::l.map (·.2)) (f.2::c.map (·.2))from r).cons_l;obtain⟨k,a,b⟩:=i _ (.head _);obtain rfl:=(PySem.strKind X.prog X.w).inj _ _ _ h a;obtain⟨t,v⟩:=Value.isStrOf_shape h;have x:p.1=.str f.1:=(List.cons.inj e).1;rw[show p=(V.str f.1,p.2)from x▸rfl];refine .cons (.str _ _) b ?_ (by rw[j];exact n) (m (fun z g=>i z (.tail _ g)) (List.cons.inj e).2 o);rw[v];exact .str _ _
theorem DV.ofStr{c:List (Str×Value)}(x:h.DictOf (PySem.strKind X.prog X.w) D c)(e:m.map (·.1)=c.map (fun p=>V.str p.1))(r:BJ G (m.map (·.2)) (c.map (·.2))):DV X G h D m:=by
 obtain⟨o,i,ep,j,k,hd,l,n,nd⟩:=x;refine⟨o,i,ep,j,k,hd,PY n (fun q f=>l q (by simpa using f)) e r,?_⟩;rw[e,show(c.map fun p=>V.str p.1)=(c.map (·.1)).map V.str by rw[List.map_map];rfl];refine List.Pairwise.map V.str (fun a b g t=>g ?_) nd;cases t<;>rfl
theorem Ib(t:X.Ok)(f:Az X G H s)(e:H[n]? =some (.dict m))(r:VR G (.loc n) x)(j:m.map (·.1)=m4.map V.str)(u:m.length<=Ar)
  (v:Φ (.loc H.length) (H++[.dict m])) (k:Bj X G s Φ Q):wpAny (model X.prog X.w) A (call (.type "dict") [x]) Q (fun l l=>False) s:=by
 obtain⟨a,p,C,y⟩:=f.dict e;obtain rfl:=r.at p;obtain⟨g,z,B,q⟩:=y.toStr j;have c:g.length=m.length:=by have:=q.length;simp at this;exact Eq.symm this
 refine kt_call_dict (f.notMod t (.inl ⟨n,p⟩)) z (by rw[c];exact Bh u) fun E h i=>?_;refine Ez (tk:=s.toks) k f (Aw _) (fun b o e=>(i.2 b (Nat.ne_of_lt (lt_size e))).trans (get?_push_of_some _ e)) (Az.ofDV As BD (DV.keep (G:=G) (DV.ofStr h ?_ q) (f.leLoc _ _) fun l e=>e)) v;rw[j,<- B,List.map_map];rfl
def Gh.addTups(G:Gh)(T:Addr->Option (List Value)):Gh:={ G with tup:=fun b=>match T b with |some a=>some a |none=>G.tup b }
theorem Kw(e:(G.addTups Z).tup b=some a):Z b=some a\/(Z b=none/\G.tup b=some a):=by
 have c:(match Z b with |some f=>some f |none=>G.tup b)=some a:=e
 refine MC (Z b) (fun f h=>?_) fun h=>?_
 .rw[h]at c;exact .inl c
 .rw[h]at c;exact .inr ⟨rfl,c⟩
theorem K9(e:Z b=some a):(G.addTups Z).tup b=some a:=by
 show(match Z b with |some c=>some c |none=>G.tup b)=some a
 rw[e]
theorem Az.leTups(x:Az X G H s)(j:∀a c,Z a=some c->s.heap.get? a=none):G.Le (G.addTups Z) where
 tup:=fun b g e=>by
  show(match Z b with |some c=>some c |none=>G.tup b)=some g
  refine CK (Z b) (fun h=>?_) fun c h=>?_
  .exact e
  .obtain⟨o,i,_⟩:=x.tup b g e;rw[j b c h]at i;cases i
 loc:=fun f f e=>e
 aux:=fun f f e=>e
theorem Az.newTups(x:Az X G H s)(i:∀a f,Z a=some f->s.heap.get? a=none)
  (g:∀b o,s.heap.get? b=some o->s'.heap.get? b=some o) (j:∀a f,Z a=some f->s'.heap.IsTuple a f.toArray):Az X (G.addTups Z) H s' where
 base:=fun b o e=>g b o (x.base b o e)
 off:=x.off
 loc:=fun n o e=>(x.loc n o e).le (x.leTups i) rfl fun b k l q=>g b k q
 dom:=x.dom
 inj:=x.inj
 inj':=x.inj'
 apart:=x.apart
 tup:=fun b c e=>by
  rcases Kw e with h |⟨_,h⟩
  .exact j b c h
  .exact(x.tup b c h).at fun o q=>g b o q
 gtup:=fun b c e=>(x.leTups i).tup b c (x.gtup b c e)
theorem At.newTups(x:Az X G H s)(g:∀a i,Z a=some i->s.heap.get? a=none)(j:∃h k,s'={ s with heap:=h,toks:=k })
  (c:∀b o,s.heap.get? b=some o->s'.heap.get? b=some o):At G Cs s (G.addTups Z) s':=
 ⟨x.leTups g,.of j,fun b o e f f=>c b o e,fun f l=>.inl l,fun b o e=>⟨o,c b o e⟩⟩
theorem E1{c:Gh}:∀{l:List V}{b:List Value},l.length=b.length->(∀(j:Nat)(v:V)(x:Value),l[j]? =some v->b[j]? =some x->VR c v x)->BJ c l b
 |[],[],_,_=>.nil
 |v::l,x::b,a,h=>.cons (h 0 v x rfl rfl) (E1 (Nat.succ.inj a) fun j=>h (j+1))
 |[],_::_,a,_=>Nat.noConfusion a
 |_::_,[],a,_=>Nat.noConfusion a
theorem IG(hA:A.handled=none)(ok:X.Ok)(C:Az X G H s)(e:H[n]? =some (.items k))(e':H[k]? =some (.dict m))(r:VR G (.loc n) x)(hs:m.map (·.1)=m4.map V.str)(hl:m.length<=Ar)
  (φ:Φ (.loc H.length) (H++[.list (m.map fun p=>.tup [p.1,p.2])])) (M:Bj X G s Φ Q):wpAny (model X.prog X.w) A (call (.type "list") [x]) Q (fun J J=>False) s:=by
 obtain⟨a,o,D,f1,f0,f2,f3,f4,f5⟩:=C.loc n _ e;obtain rfl:=r.at f1;obtain⟨D',g1,g0,g2⟩:=C.dict e';rw[g1]at f5;cases f5;obtain⟨N,p1,p2,p3⟩:=g2.toStr hs;have E:N.length=m.length:=by have:=p3.length;simp at this;exact Eq.symm this
 obtain⟨ep,a0⟩:=p1.dictAt;refine kdx_call hA ⟨o,f2,f3,f4⟩ a0 (by rw[E];exact Bh hl) fun F tk d0 c B O hS hn hG P=>?_;let T:Addr->Option (List Value):=fun b=>if b∈B then(match F.get? b with |some ob=>(match ob.data with |.seq zs _=>some zs.toList |_=>none) |none=>none)else none
 have f:∀(i:Nat)(b:Addr),B[i]? =some b->Ks fun kk l f=>DD (N[i]? =some (kk,l)) ((PySem.strKind X.prog X.w).is kk f=true) (F.get? b=some { cls:=.type "tuple",data:=.seq #[f,l] }):=fun i b h=>by
  obtain⟨f,kk,l,q1,q2,L⟩:=hG.pairs i b h;exact⟨kk,l,f,q1,q2,L⟩
 have fresh:∀b∈B,s.heap.get? b=none:=fun b h=>get?_none_of_le (AR (hG.above b h));have R:∀b j,T b=some j->b∈B:=fun b j I=>by
  by_cases h:b∈B
  .exact h
  .have:T b=none:=if_neg h;rw[this]at I;cases I
 have S:∀(i:Nat)(b:Addr)(f l:Value),B[i]? =some b->F.get? b=some { cls:=.type "tuple",data:=.seq #[f,l] }->T b=some [f,l]:=fun i b f l h q=>by
  show(if b∈B then _ else _)=_
  rw[if_pos (mem_of_getElem? h),q]
 have K:∀b j,T b=some j->s.heap.get? b=none:=fun b j I=>fresh b (R b j I);have U:∀b j,T b=some j->F.IsTuple b j.toArray:=fun b j I=>by
  obtain⟨i,hi⟩:=mem_iff_getElem?.mp (R b j I);obtain⟨kk,l,f,_,_,L⟩:=f i b hi;rw[S i b f l hi L]at I;cases I;exact⟨_,L,rfl,0,rfl⟩
 have u:Az X (G.addTups T) H { s with heap:=F,toks:=tk }:=C.newTups K O U;have i0:At G Cs s (G.addTups T) { s with heap:=F,toks:=tk }:=.newTups C K ⟨_,_,rfl⟩ O;have W:s.heap.get? s.heap.objs.size=none:=Aw _;have le:=C.leTups K;have Y:LI F s.heap.objs.size (B.map Value.ref):=by rw[<- P];exact LI.of (n:=c) (hS)
 have vr:BJ (G.addTups T) (m.map fun p=>V.tup [p.1,p.2]) (B.map Value.ref):=by
  refine E1 (by simp[hn,E]) fun i v x hv hx=>?_;rw[List.getElem?_map]at hv hx;obtain⟨p,hp,rfl⟩:=Option.map_eq_some_iff.mp hv;obtain⟨b,h,rfl⟩:=Option.map_eq_some_iff.mp hx;obtain⟨kk,l,f,q1,q2,L⟩:=f i b h;refine .tup (K9 (S i b f l h L)) (.cons ?_ (.cons ?_ .nil))
  .obtain⟨t,rfl⟩:=Value.isStrOf_shape q2;have:p.1=V.str kk:=by
    have u:=congrArg (·[i]?) hs;rw[<- p2]at u;simp only[List.getElem?_map,hp,q1,map_some,Option.some.injEq]at u;exact u
   rw[this];exact .str _ _
  .obtain⟨y,hy,ry⟩:=p3.get (i:=i) (v:=p.2) (by rw[List.getElem?_map,hp];rfl);rw[List.getElem?_map,q1]at hy;cases hy;exact ry.le le
 have b0:∀b,s.heap.get? b=none->¬G.isLoc b:=fun b h y=>by
  obtain⟨ob,q⟩:=C.alive y;rw[h]at q;cases q
 have fin:Az X ((G.addTups T).addLoc H.length s.heap.objs.size none) (H++[.list (m.map fun p=>.tup [p.1,p.2])]) { s with heap:=F,toks:=tk }:=by
  have Z:Az X (G.addLoc H.length s.heap.objs.size none) (H++[.list []]) { s with heap:=s.heap.push { cls:=.type "list",data:=.seq #[] } }:=
   C.alloc W (fun J q=>by cases q) (fun b o q=>get?_push_of_some _ q) ⟨_,[],As,BD,GN _ [],.nil⟩
  refine⟨fun b o q=>O b o (C.base b o q),Z.off,fun g o q=>?_,fun g b q=>?_,Z.inj,Z.inj',Z.apart,u.tup,u.gtup⟩
  .rcases lt_or_ge g H.length with hm |hm
   .rw[getElem?_append_left hm]at q;refine(u.loc g o q).le ⟨fun J J z=>z,fun i b z=>?_,fun i b z=>?_⟩ ?_ fun b ob J z=>z
    .exact(u.leLoc _ none).loc i b z
    .exact(u.leLoc s.heap.objs.size none).aux i b z
    .show(if g=H.length then none else G.aux g)=G.aux g
     rw[if_neg (Nat.ne_of_lt hm)]
   .have c0:g=H.length:=by
     have:=(AE q).1;rw[AI,AX]at this;exact Nat.eq_of_le_of_lt_succ hm this
    subst c0;rw[getElem?_append_right (AM _),Nat.sub_self]at q;cases q;exact⟨_,_,As,BD,Y,vr.le (u.leLoc _ none)⟩
  .have:=Z.dom g b q;simpa using this
 refine M _ _ (.loc H.length) _ _ ⟨⟨fun b j q=>?_,fun i b q=>?_,fun i b q=>?_⟩,.of ⟨_,_,rfl⟩,fun b o q J J=>O b o q,fun b q=>?_,fun b o q=>⟨o,O b o q⟩⟩ fin (.loc As) φ
 .exact le.tup b j q
 .exact(u.leLoc _ none).loc i b q
 .exact(u.leLoc s.heap.objs.size none).aux i b q
 .rcases q with⟨i,q⟩ |⟨i,q⟩
  .rcases BP q with⟨_,rfl⟩ |⟨_,q⟩
   .exact .inr W
   .exact .inl (.inl ⟨i,q⟩)
  .rcases BQ q with⟨_,q⟩ |⟨_,q⟩
   .cases q
   .exact .inl (.inr ⟨i,q⟩)
end
structure By(X:Cx)(G:Gh)(h:Heap)(D:Addr):Prop where
 off:¬G.isLoc D
 base:X.base.get? D=none
 there:∃o,h.get? D=some o
section
variable {d:Nat} {G G':Gh} {H H':Aj} {s s':Shared} {Φ:V->Aj->Prop} {Q:Value->Shared->Prop} {A:Around} {D:Addr} {l m:List (V×V)} {E:Value->Shared->Prop}
theorem Az.priv(x:Az X G H s)(p:By X G s.heap D)(f:∀c,¬s.heap.IsTuple D c)(g:∀b o,b≠D->s.heap.get? b=some o->s'.heap.get? b=some o):Az X G H s' where
 base:=fun b o e=>g b o (fun q=>by rw[q,p.base]at e;cases e) (x.base b o e)
 off:=x.off
 loc:=fun n o e=>(x.loc n o e).le (.refl G) rfl fun b h i q=>g b h (fun z=>p.off (z▸(i.imp (fun z=>⟨n,z⟩) fun z=>⟨n,z⟩))) q
 dom:=x.dom
 inj:=x.inj
 inj':=x.inj'
 apart:=x.apart
 tup:=fun a c e=>(x.tup a c e).at fun o q=>g a o (fun z=>f _ (z▸x.tup a c e)) q
 gtup:=x.gtup
theorem By.new(x:Az X G H s)(a:s.heap.get? D=none)(b:∃o,h.get? D=some o):By X G h D where
 off:=fun y=>by
  obtain⟨o,e⟩:=x.alive y;rw[a]at e;cases e
 base:=by
  refine CK (X.base.get? D) (fun q=>?_) fun o q=>?_
  .rfl
  .rw[x.base D o q]at a;cases a
 there:=b
theorem By.post(p:By X G s.heap D)(q:At G Cs s G' s'):By X G' s'.heap D where
 off:=fun y=>(q.fresh D y).elim p.off fun z=>by
  obtain⟨o,e⟩:=p.there;rw[z]at e;cases e
 base:=p.base
 there:=by obtain⟨o,e⟩:=p.there;exact q.alive D o e
theorem By.keep(p:By X G s.heap D)(q:At G Cs s G' s'):∀o,s.heap.get? D=some o->s'.heap.get? D=some o:=fun o e=>q.keep D o e p.off id
theorem Az.adopt(x:Az X G H s)(p:By X G s.heap D)(o:OR X (G.addLoc H.length D none) s.heap H.length L):Az X (G.addLoc H.length D none) (H++[L]) s:=by
 refine⟨x.base,fun c r=>?_,fun n t e=>?_,fun n c e=>?_,fun n m c b a=>?_,fun n m c b a=>?_,fun n m c b a=>?_,x.tup,x.gtup⟩
 .rcases r with⟨n,e⟩ |⟨n,e⟩
  .rcases BP e with⟨_,rfl⟩ |⟨_,e⟩
   .exact p.base
   .exact x.off c (.inl ⟨n,e⟩)
  .rcases BQ e with⟨_,e⟩ |⟨_,e⟩
   .cases e
   .exact x.off c (.inr ⟨n,e⟩)
 .rcases lt_or_ge n H.length with h |h
  .rw[getElem?_append_left h]at e;refine(x.loc n t e).le (x.leLoc D none) ?_ fun c u v q=>q;show(if n=H.length then none else G.aux n)=G.aux n
   rw[if_neg (Nat.ne_of_lt h)]
  .have i:n=H.length:=by
    have:=(AE e).1;rw[AI,AX]at this;exact Nat.eq_of_le_of_lt_succ h this
   subst i;rw[getElem?_append_right (AM _),Nat.sub_self]at e;cases e;exact o
 .rw[AI,AX];rcases e with e |e
  .rcases BP e with⟨rfl,_⟩ |⟨_,e⟩
   .exact lt_succ_self _
   .exact lt_succ_of_lt (x.dom n c (.inl e))
  .rcases BQ e with⟨rfl,_⟩ |⟨_,e⟩
   .exact lt_succ_self _
   .exact lt_succ_of_lt (x.dom n c (.inr e))
 .rcases BP b with⟨j,f⟩ |⟨_,b⟩<;>rcases BP a with⟨k,g⟩ |⟨_,a⟩
  .rw[j,k]
  .exact absurd (.inl ⟨m,f▸a⟩) p.off
  .exact absurd (.inl ⟨n,g▸b⟩) p.off
  .exact x.inj n m c b a
 .rcases BQ b with⟨j,f⟩ |⟨_,b⟩<;>rcases BQ a with⟨k,g⟩ |⟨_,a⟩
  .cases f
  .cases f
  .cases g
  .exact x.inj' n m c b a
 .rcases BP b with⟨j,f⟩ |⟨_,b⟩<;>rcases BQ a with⟨k,g⟩ |⟨_,a⟩
  .cases g
  .exact absurd (.inr ⟨m,f▸a⟩) p.off
  .cases g
  .exact x.apart n m c b a
theorem At.adopt{n:Nat}{b:Gh}{a:Shared}(q:At b P a G s)(x:Az X G H s)(f:a.heap.get? D=none):At b P a (G.addLoc H.length D none) s:=
 ⟨q.le.trans (x.leLoc D none),q.same,q.keep,fun c g=>by
  rcases g with⟨i,e⟩ |⟨i,e⟩
  .rcases BP e with⟨_,rfl⟩ |⟨_,e⟩
   .exact .inr f
   .exact q.fresh c (.inl ⟨i,e⟩)
  .rcases BQ e with⟨_,e⟩ |⟨_,e⟩
   .exact Gi e
   .exact q.fresh c (.inr ⟨i,e⟩),q.alive⟩
theorem At.priv{c:Gh}{a:Shared}(q:At c Cs a G s)(i:a.heap.get? D=none)(j:∃h k,s'={ s with heap:=h,toks:=k })(f:∀b o,b≠D->s.heap.get? b=some o->s'.heap.get? b=some o)
  (p:∃o,s'.heap.get? D=some o):At c Cs a G s':=
 ⟨q.le,q.same.trans (.of j),fun b o e n m=>f b o (fun z=>by rw[z,i]at e;cases e) (q.keep b o e n m),q.fresh,fun b o e=>by
  obtain⟨g,r⟩:=q.alive b o e;by_cases z:b=D
  .rw[z];exact p
  .exact⟨g,f b g z r⟩⟩
theorem DV.there'(x:DV X G h D l):∃o,h.get? D=some o:=by obtain⟨o,_,_,e,_,_,_,_⟩:=x;exact⟨o,e⟩
theorem DV.new(D:Addr)(e:h.get? D=some { cls:=.type "dict",data:=.dict #[] }):DV X G h D []:=⟨_,#[],0,e,⟨rfl,rfl,rfl⟩,rfl,.nil,nodup_nil⟩
set_option tactic.hygienic true in
theorem Qg{k:V}{a:Value}(y:Az X G H s)(hD:DV X G s.heap D l)(n:Pd 8 k)(q:VR G k x)(r:VR G v a)(z:A.units+8<cLine)(B:l.length<=sizeLine)
  (h:∀e,DV X G e D (BK l k v)->Heap.SameBut D s.heap e->g () { s with heap:=e }) :
  wpAny (model X.prog X.w) A (dictPut D (kh X.w k) x a) g E s:=by
 obtain⟨o,f,ep,b,t,hd,c,nd⟩:=hD;have j:f.size<=sizeLine:=by have:=c.length;simp at this;exact AF (AT (Eq.symm this)) B
 refine AA (Eo y b hd c nd n q z ?_);cases u:(l.findIdx? fun p=>BY p.1 k);rotate_left
 .rename_i i;refine wpAny_updateDict b hd (h _ ⟨_,_,ep,get?_update_self _ b (Obj.isFreed_of_dict (Obj.data_mapDict hd _)),
   t.mapDict _,Obj.data_mapDict hd _,?_,DG nd⟩ (Heap.SameBut.update ..))
  have:=c.modify u r;obtain⟨C⟩:=f;simpa using this
 .refine wpAny_updateDictKeys (hz:=j) b hd (h _ ⟨_,_,ep+1,get?_update_self _ b (Obj.isFreed_of_dict (Obj.data_mapDictKeys hd _)),
   t.mapDictKeys _,Obj.data_mapDictKeys hd _,?_,DG nd⟩ (Heap.SameBut.update ..))
  have:=c.append n q r;rw[<- EA u]at this;obtain⟨C⟩:=f;simpa using this
inductive Xi(G:Gh):List (V×V)->List (Value×Value)->Prop
 |nil:Xi G [] []
 |cons {k v:V} {x y:Value} {a:List (V×V)} {b:List (Value×Value)}:Pd 8 k->VR G k x->VR G v y->Xi G a b->Xi G ((k,v)::a) ((x,y)::b)
theorem Pm(C:A.units+8<cLine):∀{c:List (V×V)}{j:List (Value×Value)}{l:List (V×V)}{s:Shared},Xi G c j->Az X G H s->By X G s.heap D->DV X G s.heap D l->l.length+c.length<=sizeLine ->
  (∀a t,DV X G a D (BG l c)->(∀b o,b≠D->s.heap.get? b=some o->a.get? b=some o)->g () { s with heap:=a,toks:=t })->wpAny (model X.prog X.w) A (storeAll D j) g E s:=by
 intro c j l s q;induction q generalizing l s with
 |nil=>
  intro n p hD u h;rw[storeAll,forIn_nil];exact AB (h s.heap s.toks hD fun z z z e=>e)
 | @cons k v _ _ c _ F I J r K=>
  intro n p hD u h;rw[storeAll,forIn_cons];simp only[AQ]at u;refine AA (AA (Fe n hD F I J C (by omega) fun a t f L=>AB ?_));have B:∀b o,b≠D->s.heap.get? b=some o->a.get? b=some o:=fun b o q e=>(L.2 b q).trans e;refine K (s:={ s with heap:=a,toks:=t }) (n.priv p hD.notTup B) ⟨p.off,p.base,f.there'⟩ f ?_ fun x M i y=>h x M i fun b o q e=>y b o q (B b o q e);have:=DO l k v;exact AF (AP this _) (XU u)
theorem IY:typeLookup (.type "tuple") "__eq__" =pure (some (.builtin "tuple.__eq__")):=F.slot_tuple_eq.lookup
theorem Hu:∀(l m:List (V×V))(k v:V),BG m (l++[(k,v)])=BK (BG m l) k v:=by
 intro a;induction a with
 |nil=>
  intro _ _ _;exact rfl
 |cons p l b=>
  intro m k v;exact b _ k v
theorem PH:∀{l:List (V×V)}{a:List DictEntry},ER Y G l a->a.map (·.hash)=l.map fun q=>kh Y q.1:=
 @fun l a r=>ER.rec (motive:=fun l a b=>a.map (·.hash)=l.map fun q=>kh Y q.1) rfl (fun b h b b b i=>congr (congrArg List.cons h) i) r
set_option tactic.hygienic true in
theorem K6{l:List DictEntry}{h:Int}(nd:(l.map (·.hash)).Nodup):(l.filter (fun x=>x.hash==h)).length<=1:=by
 induction l with
 |nil=>simp
 |cons e l ih=>
  rw[AW,nodup_cons]at nd;rw[filter_cons]
  split
  .rename_i q;have:l.filter (fun x=>x.hash==h)=[]:=by
    rw[List.filter_eq_nil_iff];intro x hx hq;refine nd.1 (List.mem_map.mpr ⟨x,hx,?_⟩);rw[eq_of_beq hq,eq_of_beq q]
   rw[this];simp
  .exact ih nd.2
theorem WZ(lo:(b==sysModules)=false)(hu:A.units+8<cLine)(hh:Az X G H s)(p:By X G s.heap D)(hD:DV X G s.heap D m)(ha:DV X G s.heap b l)(ne:b≠D)
  (K:∀q∈l,∃t,q.1=V.tup t) (a0:(l.map fun q=>kh X.w q.1).Nodup) (hl:m.length+l.length<=sizeLine)
  (h:∀f,DV X G f D (BG m l)->(∀a o,a≠D->s.heap.get? a=some o->f.get? a=some o)->g () { s with heap:=f }) :
  wpAny (model X.prog X.w) A (mergeMapping D (.ref b) false) g E s:=by
 obtain⟨o,k,ep,L,hc,hd,Y,nd⟩:=id ha;obtain⟨oD,k0,l0,b0,m0,c0,n0,o0⟩:=id hD;have u:k.size=l.length:=by rw[Y.length];simp
 refine AA (wpAny_isInstance ha.typeIs isSubtype_dict_dict ?_);refine AA (wpAny_specialOf ha.typeIs F.slot_dict_iter.lookup ?_);refine AA (AB ?_);rw[show(some (Value.builtin "dict.__iter__")==some (.builtin "dict.__iter__"))=true from beq_self_eq_true _];dsimp only;rw[lo];refine AA (wpAny_dictEntries b0 c0 ?_);have v:wpAny (model X.prog X.w) A (do
   let k <- dictEntries b;let M:=k.size;let C <- dictEpoch b
   for i in List.range M do
    let some e:=(<- dictEntries b)[i]? |unsupported "dict.changed-during-merge"
    holding [e.key,e.val] do
     dictPut D e.hash e.key e.val
    if(<- dictEpoch b) != C then unsupported "dict.changed-during-merge") g E s:=by
  refine AA (wpAny_dictEntries L hd (AA (wpAny_dictEpoch L hd ?_)));refine AA ?_;refine wpAny_forIn_list _ (fun c (a:PUnit) s'=>Dd fun(n:Nat) (f:Heap)=>WC (s'={ s with heap:=f }) (c=range' n (l.length-n)) (n<=l.length) (DV X G f D (BG m (l.take n))) ((∀a o,a≠D->s.heap.get? a=some o->f.get? a=some o)) ((BG m (l.take n)).length<=m.length+n))
   _ ?_ ?_ (List.range k.size) _ ⟨0,s.heap,rfl,by rw[u,range_eq_range',Nat.sub_zero],zero_le _,by rw[List.take_zero];exact hD,fun y y y e=>e,by simp[BG]⟩
  .rintro i c a s' ⟨n,f,rfl,I,hn,r,N,hz⟩;have O:0<l.length-n:=by
    rcases Nat.eq_zero_or_pos (l.length-n)with q |q
    .rw[q]at I;cases I
    .exact q
   obtain⟨j,Z⟩:∃j,l.length-n=j+1:=⟨_,(Nat.sub_add_cancel (Nat.sub_pos_of_lt (Nat.lt_of_sub_ne_zero (Nat.ne_of_gt O)))).symm⟩;rw[Z,range'_succ]at I;injection I with d0 f0;subst d0;have P:i<l.length:=by omega
   have B:i<k.toList.length:=by simpa [u]using P
   obtain⟨k',v',e1,pk,hash,rk,rv⟩:=Y.get (AD B);have g0:Az X G H { s with heap:=f }:=hh.priv p hD.notTup N;refine AA (wpAny_dictEntries (s:={ s with heap:=f }) (N b o ne L) hd ?_);rw[show k[i]? =k.toList[i]? by simp,AD B];dsimp only;rw[hash];refine AA (AC (Qg (s:={ s with heap:=f }) g0 r pk rk rv hu (AF hz (AF (AO hn _) hl)) fun J R hs=>?_));have S:∀a o,a≠D->s.heap.get? a=some o->J.get? a=some o:=fun a o q e=>(hs.2 a q).trans (N a o q e);refine AA (wpAny_dictEpoch (s:={ s with heap:=J }) (S b o ne L) hd ?_);rw[if_neg (by simp)];refine AB ⟨i+1,J,rfl,?_,P,?_,S,?_⟩
   .rw[f0];congr 1;exact sb2 Z
   .have:l.take (i+1)=l.take i++[(k',v')]:=by
     rw[take_succ,e1];rfl
    rw[this,Hu];exact R
   .have:l.take (i+1)=l.take i++[(k',v')]:=by
     rw[take_succ,e1];rfl
    rw[this,Hu];have:=DO (BG m (l.take i)) k' v';exact AF this (Ab hz)
  .rintro a s' ⟨n,f,rfl,I,hn,r,N,hz⟩;have:n=l.length:=by
    rcases lt_or_ge n l.length with q |q
    .exfalso;obtain⟨j,Z⟩:∃j,l.length-n=j+1:=⟨_,(Nat.sub_add_cancel (Nat.sub_pos_of_lt (by omega))).symm⟩;rw[Z,range'_succ]at I;cases I
    .exact le_antisymm hn q
   subst this;rw[take_length]at r;exact AB (h f r N)
 refine wpAny_ite_split (fun y=>?_) (fun y=>v);refine AA (wpAny_dictEntries L hd ?_);refine AA ?_;rw[<- Array.forIn_toList];refine wpAny_forIn_list _ (fun c (a:PUnit) s'=>s'=s/\∀e∈c,e∈k.toList) _ ?_ ?_ k.toList _ ⟨rfl,fun y z=>z⟩
 .rintro e c a s' ⟨rfl,U⟩;have fin:∀e'∈c,e'∈k.toList:=fun e' h0=>U e' (.tail _ h0);cases W:e.key with
  |ref a=>
   dsimp only;obtain⟨i,hi⟩:=mem_iff_getElem?.mp (U e (.head _));obtain⟨k',v',e1,pk,hash,rk,rv⟩:=Y.get hi;obtain⟨t,ht⟩:=K _ (mem_of_getElem? e1);simp only at ht;rw[W,ht]at rk;obtain⟨_,_,f1,f2⟩:=rk.tup_l
   .obtain⟨ob,i0,j0,_⟩:=hh.tup _ _ f1;refine AA (wpAny_specialOf (T:= "tuple") ⟨ob,i0,j0⟩ IY ?_);refine wpAny_ite_split (fun y=>?_) (fun y=>AB ⟨rfl,fin⟩);refine wpAny_ite_split (fun q=>?_) (fun y=>AB ⟨rfl,fin⟩);exfalso;have nc:=K6 (h:=e.hash) (l:=k.toList) (by rw[PH Y];exact a0);have:(Array.filter (fun x=>x.hash==e.hash) k).size=(k.toList.filter (fun x=>x.hash==e.hash)).length:=by
     rw[<- Array.toList_filter,length_toList]
    omega
  |_=>exact AB ⟨rfl,fin⟩
 .rintro a s' ⟨rfl,_⟩;exact v
end
section
variable {n:Nat} {p:Array Nat} {lt:Nat->Nat->Bool} {cmp:Nat->Nat->(Bool->Shared->Prop)->Shared->Prop} {s:Shared}
structure Nt(n:Nat)(lt:Nat->Nat->Bool):Prop where
 irr:∀i,i<n->lt i i=false
 trans:∀i j k,i<n->j<n->k<n->lt i j=true->lt j k=true->lt i k=true
 tot:∀i j,i<n->j<n->i≠j->lt i j=true\/lt j i=true
theorem Nt.asymm(O:Nt n lt){j:Nat}(a:k<n)(b:j<n)(h:lt k j=true):lt j k=false:=by
 refine EY (lt j k) (fun e=>?_) fun e=>?_
 .rfl
 .have:=O.trans k j k a b a h e;rw[O.irr k a]at this;cases this
structure Pl(n:Nat)(p:Array Nat):Prop where
 size:p.size=n
 perm:p.toList.Perm (List.range n)
theorem Pl.below(P:Pl n p)(a:k<n):p.getD k 0<n:=by
 have h:k<p.size:=by rw[P.size];exact a
 have:p.getD k 0=p[k]:=by simp[getD,h]
 rw[this];have:=P.perm.mem_iff.mp (show p[k]∈p.toList by simp);simpa using this
theorem Pl.inj(P:Pl n p){j:Nat}(b:k<n)(c:j<n)(e:p.getD k 0=p.getD j 0):k=j:=by
 have h:k<p.toList.length:=by rw[length_toList,P.size];exact b
 have a:j<p.toList.length:=by rw[length_toList,P.size];exact c
 have nd:p.toList.Nodup:=P.perm.nodup_iff.mpr List.nodup_range;have d:p.getD k 0=p.toList[k]:=by simp at h;simp[getD,h]
 have f:p.getD j 0=p.toList[j]:=by simp at a;simp[getD,a]
 rw[d,f]at e;rcases Nat.lt_trichotomy k j with q |q |q
 .exact absurd e (List.pairwise_iff_getElem.mp nd k j h a q)
 .exact q
 .exact absurd e.symm (List.pairwise_iff_getElem.mp nd j k a h q)
theorem Pl.of(P:Pl n p)(h:j1.Perm p):Pl n j1:=⟨h.size_eq.trans P.size,(Array.perm_iff_toList_perm.mp h).trans P.perm⟩
def Up(lt:Nat->Nat->Bool)(p:Array Nat)(m:Nat):Prop:=∀i j,i<j->j<m->lt (p.getD i 0) (p.getD j 0)=true
def Dn(lt:Nat->Nat->Bool)(p:Array Nat)(m:Nat):Prop:=∀i j,i<j->j<m->lt (p.getD j 0) (p.getD i 0)=true
theorem T3(O:Nt n lt)(P:Pl n p)(b:k<n)(c:1<=k)(u:Up lt p k)(h:lt (p.getD (k-1) 0) (p.getD k 0)=true):Up lt p (k+1):=fun i j a d=>by
 rcases lt_or_ge j k with q |q
 .exact u i j a q
 .cases le_antisymm (le_of_lt_succ d) q;rcases lt_or_ge i (k-1)with q |q
  .exact O.trans _ _ _ (P.below (AV a b)) (P.below (AH (sub_le _ _) b)) (P.below b) (u i (k-1) q (sub_lt c one_pos)) h
  .rw[le_antisymm (le_sub_one_of_lt a) q];exact h
theorem TV(O:Nt n lt)(P:Pl n p)(b:k<n)(c:1<=k)(u:Dn lt p k)(h:lt (p.getD k 0) (p.getD (k-1) 0)=true):Dn lt p (k+1):=fun i j a d=>by
 rcases lt_or_ge j k with q |q
 .exact u i j a q
 .cases le_antisymm (le_of_lt_succ d) q;rcases lt_or_ge i (k-1)with q |q
  .exact O.trans _ _ _ (P.below b) (P.below (AH (sub_le _ _) b)) (P.below (AV a b)) h (u i (k-1) q (sub_lt c one_pos))
  .rw[le_antisymm (le_sub_one_of_lt a) q];exact h
def U9(n:Nat)(lt:Nat->Nat->Bool)(cmp:Nat->Nat->(Bool->Shared->Prop)->Shared->Prop)(s:Shared):Prop:=∀i j C,i<n->j<n->C (lt i j) s->cmp i j C s
theorem SK(O:Nt n lt)(P:Pl n p)(a:U9 n lt cmp s):∀(f m:Nat),1<=m->m+f=n->Up lt p m ->
  (∀k,m<=k->k<=n->Up lt p k->(k<n->lt (p.getD k 0) (p.getD (k-1) 0)=true)->d7 k s)->(kas_asc p f m).kasWp cmp d7 s:=by
 intro j;induction j with
 |zero=>
  intro m g i u h;exact h m (AM _) (AT i) u (fun q=>absurd i (Nat.ne_of_lt q))
 |succ f l=>
  intro m g i u h;have b:m<n:=i▸lt_add_of_pos_right (succ_pos f);have d:m-1<n:=AH (sub_le m 1) b;refine a _ _ _ (P.below b) (P.below d) ?_;refine Ce (lt (p.getD m 0) (p.getD (m-1) 0)) (fun c=>?_) fun c=>?_
  .exact h m (AM _) (AR b) u fun v=>c
  .exact l (m+1) (succ_pos m) ((Ag m 1 f).trans i) (T3 O P b g u ((O.tot _ _ (P.below b) (P.below d) fun e=>Nat.ne_of_gt (sub_lt g one_pos) (P.inj b d e)).resolve_left fun q=>AN (c.symm.trans q))) fun k g o r t=>h k (le_of_succ_le g) o r t
theorem Ta(O:Nt n lt)(P:Pl n p)(a:U9 n lt cmp s){Q:Array Nat×Nat×Nat->Shared->Prop}:∀(f m:Nat),1<=m->m+f=n->Dn lt p m ->
  (∀k,m<=k->k<=n->Dn lt p k->Q (p,k,0) s)->(kas_desc f p m 0).kasWp cmp Q s:=by
 intro l;induction l with
 |zero=>
  intro m g i u h;exact h m (AM _) (AT i) u
 |succ f o=>
  intro m g i u h;have b:m<n:=i▸lt_add_of_pos_right (succ_pos f);have d:m-1<n:=AH (sub_le m 1) b;refine a _ _ _ (P.below b) (P.below d) ?_;refine Ce (lt (p.getD m 0) (p.getD (m-1) 0)) (fun c=>?_) fun c=>?_
  .simp only[if_true];rw[if_neg (by decide)];exact o (m+1) (succ_pos m) ((Ag m 1 f).trans i) (TV O P b g u c) fun k g r t=>h k (le_of_succ_le g) r t
  .simp only[false_eq_true,if_false];refine a _ _ _ (P.below d) (P.below b) ?_;have j:lt (p.getD (m-1) 0) (p.getD m 0)=true:=(O.tot _ _ (P.below b) (P.below d) fun e=>Nat.ne_of_gt (sub_lt g one_pos) (P.inj b d e)).resolve_left fun q=>AN (c.symm.trans q);rw[j];exact h m (AM _) (AR b) u
theorem IK(b:k<=p.size)(a:Nat):(kas_rev p 0 k).getD a 0=if a<k then p.getD (k-1-a) 0 else p.getD a 0:=by
 have:=getElem?_mirror_all (xs:=p) (i:=0) b a;unfold kas_rev;rw[getD_eq_getD_getElem?,this];by_cases h:a<k
 .rw[if_pos ⟨zero_le _,h⟩,if_pos h,getD_eq_getD_getElem?];congr 2;omega
 .rw[if_neg (fun q=>h q.2),if_neg h,getD_eq_getD_getElem?]
theorem KB(P:Pl n p)(i j:Nat):Pl n (kas_rev p i j):=P.of (mirror_perm _ _ _ _)
theorem WK(P:Pl n p)(c:k<=n)(d:Dn lt p k):Up lt (kas_rev p 0 k) k:=fun i j a b=>by
 rw[IK (by rw[P.size];exact c),IK (by rw[P.size];exact c),if_pos (AV a b),if_pos b];exact d _ _ (Nat.sub_lt_sub_left (AK a (le_sub_one_of_lt b)) a) (AH (sub_le _ _) (sub_lt (AH (zero_le j) b) one_pos))
theorem S8(O:Nt n lt)(P:Pl n p)(a:U9 n lt cmp s)(f:1<=k)(e:k<=n)(d:Dn lt p k)
  (h:∀b c,Pl n c->Up lt c b->1<=b->b<=n->z6 (b,c) s):(kas_tail3 k n p).kasWp cmp z6 s:=by
 unfold kas_tail3;rw[KasT.kasWp_bind];exact SK O (KB P 0 k) a (n-k) k f (Nat.add_sub_cancel' e) (WK P e d) fun b j g i l=>h b _ (KB P 0 k) i (by omega) g
theorem RW(O:Nt n lt)(P:Pl n p)(a:U9 n lt cmp s)(f:2<=n)
  (h:∀k q,Pl n q->Up lt q k->1<=k->k<=n->z6 (k,q) s):(kas_count n p).kasWp cmp z6 s:=by
 unfold kas_count;rw[KasT.kasWp_bind];refine SK O P a (n-1) 1 (AM _) (add_sub_of_le (AR f)) (fun i j b r=>absurd (AH (zero_le i) b) (Nat.not_lt.mpr (le_of_lt_succ r))) fun m g l u t=>?_;by_cases e:(m==n)=true
 .rw[if_pos e];exact h m p P u g l
 .rw[if_neg e];by_cases c:m > 1
  .rw[if_pos c];refine a _ _ _ (P.below (AV one_pos f)) (P.below (AK (sub_lt g one_pos) l)) ?_;rw[u 0 (m-1) (Nat.sub_pos_of_lt c) (sub_lt g one_pos)];exact h m p P u g l
  .rw[if_neg c];cases le_antisymm (Nat.not_lt.mp c) g;have d:∀k,(kas_rev p 0 1).getD k 0=p.getD k 0:=fun k=>by
    rw[IK (by rw[P.size];exact AR f)];cases k with
    |zero=>rfl
    |succ k=>exact if_neg (Nat.not_lt.mpr (succ_pos k))
   unfold kas_descPart;rw[KasT.kasWp_bind];refine Ta O (KB P 0 1) a (n-(1+1)) 2 (by decide) (add_sub_of_le f) (fun i j b r=>?_) fun k g f l=>?_
   .have o:j<=1:=le_of_lt_succ r;cases Nat.lt_one_iff.mp (AK b o);cases le_antisymm o b;rw[d,d];exact(t f)
   .dsimp only;rw[if_neg (by decide)];exact S8 O (KB P 0 1) a (by omega) f l h
theorem SJ(O:Nt n lt)(P:Pl n p)(a:U9 n lt cmp s)(v:k<n)(u:Up lt p k):∀(f l r:Nat),l<=r->r<=k->r-l<=f ->
  (∀i,i<l->lt (p.getD i 0) (p.getD k 0)=true)->(∀i,r<=i->i<k->lt (p.getD k 0) (p.getD i 0)=true) ->
  (∀m,m<=k->(∀i,i<m->lt (p.getD i 0) (p.getD k 0)=true)->(∀i,m<=i->i<k->lt (p.getD k 0) (p.getD i 0)=true)->d7 m s)->(kas_place p k f l r).kasWp cmp d7 s:=by
 intro F;induction F with
 |zero=>
  intro l r w x A B C h;have:l=r:=le_antisymm w (le_of_sub_eq_zero (le_antisymm A (zero_le _)));subst this;exact h l x B C
 |succ f E=>
  intro l r w x A B C h;unfold kas_place;by_cases g:l>=r
  .rw[if_pos g];have:l=r:=le_antisymm w g;subst this;exact h l x B C
  .rw[if_neg g];have d:l<r:=lt_of_not_le g;have j:(l+r) / 2<r:=Nat.div_lt_of_lt_mul (by rw[Nat.two_mul];exact add_lt_add_right d r);have o:l<=(l+r) / 2:=(Nat.le_div_iff_mul_le (by decide)).mpr (by rw[mul_two];exact AO (AR d) l);generalize(l+r) / 2=c at j o⊢;have t:=AK j x;have b:=AV t v;refine a _ _ _ (P.below v) (P.below b) ?_;refine Ce (lt (p.getD k 0) (p.getD c 0)) (fun e=>?_) fun e=>?_
   .refine E l c o (AR t) (le_of_lt_succ (AK (Nat.sub_lt_sub_right o j) A)) B (fun i D y=>?_) h;rcases Nat.eq_or_lt_of_le D with q |q
    .rw[<- q];exact e
    .exact O.trans _ _ _ (P.below v) (P.below b) (P.below (AV y v)) e (u _ _ q y)
   .have z:lt (p.getD c 0) (p.getD k 0)=true:=(O.tot _ _ (P.below v) (P.below b) fun e=>Nat.ne_of_gt t (P.inj v b e)).resolve_left fun q=>AN (e.symm.trans q);refine E (c+1) r j x (le_of_lt_succ (AK (Nat.sub_lt_sub_left d (lt_succ_of_le o)) A)) (fun i D=>?_) C h;rcases lt_or_ge i c with q |q
    .exact O.trans _ _ _ (P.below (AV q b)) (P.below b) (P.below v) (u _ _ q t) z
    .rw[le_antisymm (le_of_lt_succ D) q];exact z
theorem GI{m:Nat}(a:k<p.size)(b:m<=k)(i:Nat):(bubble p k (k-m)).getD i 0=if i=m then p.getD k 0 else if m<i/\i<=k then p.getD (i-1) 0 else p.getD i 0:=by
 have:=getElem?_bubble (xs:=p) a (k-m) (sub_le _ _) i;rw[(Nat.sub_sub_self b)]at this;simp only[getD_eq_getD_getElem?];rw[this]
 split
 .rfl
 .split<;>rfl
theorem Wh(O:Nt n lt)(a:U9 n lt cmp s):∀(f:Nat)(p:Array Nat)(k:Nat),Pl n p->k+f=n->Up lt p k->(∀r,Pl n r->Up lt r n->u7 r s)->(kas_bin f p k).kasWp cmp u7 s:=by
 intro A;induction A with
 |zero=>
  intro p k P q u h;exact h p P (by have:k=n:=q;subst this;exact u)
 |succ f B=>
  intro p k P q u h;show((kas_place p k k 0 k).bind fun l=>kas_bin f (bubble p k (k-l)) (k+1)).kasWp cmp u7 s;rw[KasT.kasWp_bind];have g:k<n:=by rw[<- q,Nat.add_succ];exact lt_succ_of_le (AU k f)
  refine SJ O P a g u k 0 k (zero_le _) (AM _) (AM _) (fun i C=>absurd C (not_lt_zero _)) (fun i t v=>absurd v (Nat.not_lt.mpr t)) fun m w t v=>?_;have o:k<p.size:=by rw[P.size];exact g
  refine B _ (k+1) (P.of (bubble_perm _ _ _)) (by rw[<- q,Ag];rfl) (fun i j b D=>?_) h;have c:=le_of_lt_succ D;have d:j-1<k:=Nat.sub_one_lt_of_le (AH (zero_le i) b) c;rw[GI o w,GI o w];by_cases x:i=m
  .subst x;rw[if_pos rfl,if_neg (Nat.ne_of_gt b),if_pos ⟨b,c⟩];exact v _ (le_sub_one_of_lt b) d
  .rw[if_neg x];by_cases y:j=m
   .subst y;rw[if_neg (fun z=>lt_asymm z.1 b),if_pos rfl];exact t _ b
   .rw[if_neg y];rcases Nat.lt_or_gt_of_ne x with e |e
    .rw[if_neg (fun z=>lt_asymm z.1 e)];rcases Nat.lt_or_gt_of_ne y with q2 |q2
     .rw[if_neg (fun z=>lt_asymm z.1 q2)];exact u _ _ b (AK q2 w)
     .rw[if_pos ⟨q2,c⟩];exact u _ _ (AK e (le_sub_one_of_lt q2)) d
    .rw[if_pos ⟨e,AF (AR b) c⟩,if_pos ⟨AV e b,c⟩];exact u _ _ (Nat.sub_lt_sub_right (AH (zero_le m) e) b) d
theorem UX(O:Nt n lt)(a:U9 n lt cmp s)(d:2<=n)(h:∀p,Pl n p->Up lt p n->u7 p s):(kas_sort n).kasWp cmp u7 s:=by
 unfold kas_sort;rw[KasT.kasWp_bind];refine RW O ⟨by exact length_range,by rfl⟩ a d fun k p P u e b=>?_;by_cases c:k<n
 .rw[if_pos c];have:max k 1=k:=le_antisymm (Nat.max_le_of_le_of_le (AM _) e) (le_max_left _ _);rw[this];exact Wh O a (n-k) p k P (Nat.add_sub_cancel' b) u h
 .rw[if_neg c];have:k=n:=le_antisymm b (le_of_not_lt c);subst this;exact h p P u
end
theorem XP{y:Int}(h:(if i=y then s else decide (i<y))=true):i<y\/i=y/\s=true:=by
 by_cases e:i=y
 .rw[if_pos e]at h;exact .inr ⟨e,h⟩
 .rw[if_neg e]at h;exact .inl (of_decide_eq_true h)
theorem Qn{y:Int}(h:i<y):(if i=y then s else decide (i<y))=true:=by
 rw[if_neg (Int.ne_of_lt h)];exact decide_eq_true h
theorem VX(h:s=true):(if i=i then s else decide (i<i))=true:=by
 rw[if_pos rfl];exact h
theorem ST(l:List Int):DY (l.map V.int) (l.map V.int)=false:=by
 induction l with
 |nil=>rfl
 |cons a r b=>exact(if_pos rfl).trans b
theorem Na(a:List Int):∀b c:List Int,DY (a.map V.int) (b.map V.int)=true->DY (b.map V.int) (c.map V.int)=true->DY (a.map V.int) (c.map V.int)=true:=by
 induction a with
 |nil=>
  intro b c d e;cases b with
  |nil=>exact absurd d AN
  |cons _ _=>
   cases c with
   |nil=>exact absurd e AN
   |cons _ _=>rfl
 |cons x a h=>
  intro b c d e;cases b with
  |nil=>exact absurd d AN
  |cons y b=>
   cases c with
   |nil=>exact absurd e AN
   |cons z c=>
    rcases XP d with f |⟨rfl,f⟩<;>rcases XP e with g |⟨rfl,g⟩
    .exact Qn (Int.lt_trans f g)
    .exact Qn f
    .exact Qn g
    .exact VX (h _ _ f g)
theorem Qj(a:List Int):∀b:List Int,a≠b->DY (a.map V.int) (b.map V.int)=true\/DY (b.map V.int) (a.map V.int)=true:=by
 induction a with
 |nil=>
  intro b h;cases b with
  |nil=>exact absurd rfl h
  |cons _ _=>exact .inl rfl
 |cons x a c=>
  intro b h;cases b with
  |nil=>exact .inr rfl
  |cons y b=>
   rcases Int.lt_trichotomy x y with q |rfl |q
   .exact .inl (Qn q)
   .exact(c b fun q=>h (congrArg _ q)).imp VX VX
   .exact .inr (Qn q)
theorem Ng{b:Str}(h:y.cps.toList=b.cps.toList):y=b:=by
 cases y;cases b;simp only[Str.mk.injEq];exact Array.toList_inj.mp h
def DN(l:List V):Prop:=l.Nodup/\(KP l\/IO l\/FT l)
theorem JX{m:Type}{f:m->V}{lt:m->m->Bool}(g:∀a b,Ge (f a) (f b)=lt a b)(r:∀a,lt a a=false)(z:∀a b c,lt a b=true->lt b c=true->lt a c=true)(s:∀a b,f a≠f b->lt a b=true\/lt b a=true){l:List m}(nd:(l.map f).Nodup) :
  Nt (l.map f).length fun i j=>Ge ((l.map f).getD i .none) ((l.map f).getD j .none):=by
 have h:∀(i:Nat)(d:i<(l.map f).length),EC fun a:m=>EU ((l.map f).getD i .none=f a) ((l.map f)[i]=f a):=fun i d=>⟨l[i]'(by rw[AG]at d;exact d),by rw[getD_eq_getElem?_getD,AD d,List.getElem_map];rfl,List.getElem_map ..⟩;refine⟨fun i d=>?_,fun i j k d n A u v=>?_,fun i j d n t=>?_⟩
 .obtain⟨a,e,_⟩:=h i d;rw[e,g];exact r a
 .obtain⟨a,o,_⟩:=h i d;obtain⟨b,p,_⟩:=h j n;obtain⟨c,w,_⟩:=h k A;rw[o,p,g]at u;rw[p,w,g]at v;rw[o,w,g];exact z _ _ _ u v
 .obtain⟨a,o,x⟩:=h i d;obtain⟨b,p,y⟩:=h j n;rw[o,p,g,g];refine s _ _ fun e=>?_;rcases Nat.lt_or_gt_of_ne t with q |q
  .exact List.pairwise_iff_getElem.mp nd i j d n q ((x.trans e).trans y.symm)
  .exact List.pairwise_iff_getElem.mp nd j i n d q ((y.trans e.symm).trans x.symm)
theorem Wi(h:DN l):Nt l.length fun i j=>Ge (l.getD i .none) (l.getD j .none):=by
 obtain⟨nd,⟨k,rfl⟩ |⟨m,rfl⟩ |⟨n,rfl,_⟩⟩:=h
 .exact JX (lt:=fun a b=>decide (a<b)) (fun d d=>rfl) (fun a=>decide_eq_false (Int.lt_irrefl a)) (fun a b c f g=>decide_eq_true (Int.lt_trans (of_decide_eq_true f) (of_decide_eq_true g)))
   (fun a b h=>(Int.lt_or_gt_of_ne fun e=>h (congrArg _ e)).imp decide_eq_true decide_eq_true) nd
 .exact JX (lt:=fun a b=>decide (a.cps.toList<b.cps.toList)) (fun d d=>rfl) (fun a=>decide_eq_false (List.lt_irrefl _)) (fun a b c f g=>decide_eq_true (List.lt_trans (of_decide_eq_true f) (of_decide_eq_true g)))
   (fun a b h=>(Decidable.em (a.cps.toList<b.cps.toList)).imp decide_eq_true fun q=>decide_eq_true (Std.lt_of_le_of_ne (List.not_lt.mp q) fun e=>h (congrArg _ (Ng e.symm)))) nd
 .exact JX (lt:=fun a b=>DY (a.map V.int) (b.map V.int)) (fun d d=>rfl) ST Na (fun a b h=>Qj a b fun e=>h (congrArg _ e)) nd
theorem Hd{b:Type}(l:List b)(dflt:b)(P:Pl l.length j1):(j1.toList.map fun i=>l.getD i dflt).Perm l:=by
 have a:((List.range l.length).map fun i=>l.getD i dflt)=l:=by
  apply ext_getElem
  .simp
  .intro i a c;simp at a;simp[a]
 have:=P.perm.map fun i=>l.getD i dflt;rwa[a]at this
section
variable {prog:Program} {w:World} {A:Around} {E:Value->Shared->Prop} {s:Shared}
theorem IR{P:PySem.Fin->Shared->Prop}{lt:Nat->Nat->Bool}(F:s.heap.get? b=some (seqObj "list" a.toArray n))(H:a.length<64)(O:Nt a.length lt)
  (T:2<=a.length->∀l,(∀d o,d≠b->s.heap.get? d=some o->l.get? d=some o)->∃m,(∀(Q:SortKind->Shared->Prop) E,Q m { s with heap:=l }->wpAny (model prog w) A (keyKind' a.toArray) Q E { s with heap:=l }) /\
   ∀(i j:Nat)(C:Bool->Shared->Prop),i<a.length->j<a.length->C (lt i j) { s with heap:=l }->wpAny (model prog w) A (keyLt' m (a.getD i .none) (a.getD j .none)) C (fun g g=>False) { s with heap:=l })
  (h:∀l c p,Pl a.length p->Up lt p a.length->l.get? b=some (seqObj "list" (p.toList.map fun i=>a.getD i Value.none).toArray c)->(∀d o,d≠b->s.heap.get? d=some o->l.get? d=some o)->P (.done (.ret .none)) { s with heap:=l }) :
  wpAny (model prog w) A (Builtin.«list.sort» ⟨[.ref b],[]⟩) P E s:=by
 rw[list_sort_plain];refine AA (listItems_at F rfl ?_);refine AA (listUpdate_at F rfl ?_ (by rw[size_toArray,sizeLine_eq];omega) (zero_le _));obtain⟨I,x⟩:∃I,(s.heap.update b (mapSeq fun g=>(#[]:Array Value))).get? b=some (seqObj "list" #[] I):=⟨_,get?_update_seq F fun g=> #[]⟩;refine AA (seqEpoch_at x rfl ?_);refine AA (wpAny_newTuple ?_ (by show a.length<=_;rw[sizeLine_eq];omega));refine AA (wpAny_newList ?_ (zero_le _));refine AC ?_;have f:(((s.heap.update b (mapSeq fun g=>(#[]:Array Value))).push (seqObj "tuple" a.toArray 0)).push (seqObj "list" #[] 0)).get? b=some (seqObj "list" #[] I):=
  get?_push_of_some _ (get?_push_of_some _ x)
 have keep:∀d o,d≠b->s.heap.get? d=some o->(((s.heap.update b (mapSeq fun g=>(#[]:Array Value))).push (seqObj "tuple" a.toArray 0)).push (seqObj "list" #[] 0)).get? d=some o:=
  fun d o q e=>get?_push_of_some _ (get?_push_of_some _ ((get?_update_other _ _ (Ne.symm q)).trans e))
 generalize hH:(((s.heap.update b (mapSeq fun g=>(#[]:Array Value))).push (seqObj "tuple" a.toArray 0)).push (seqObj "list" #[] 0))=u at f keep;have fin:∀(p:Array Nat)(out:Array Value),Pl a.length p->Up lt p a.length->out=(p.toList.map fun i=>a.getD i Value.none).toArray ->
   P (.done (.ret .none)) { s with heap:=u.update b (mapSeq fun g=>out) }:=fun p out v y U=>by
  subst U;refine h _ _ p v y (get?_update_seq f fun g=>_) fun d o q e=>(get?_update_other _ _ (Ne.symm q)).trans (keep d o q e)
 dsimp only;by_cases r:a.toArray.size<2
 .rw[if_pos r,if_pos r];refine AA (AB ?_);rw[StateT.run_pure];refine AA (AB ?_);dsimp only;refine AA (seqEpoch_at f rfl ?_);have V:(arrOf (SortSt.mk' general' (a.toArray.zip a.toArray) #[] 7 none)).map (·.2)=a.toArray:=by
   show(a.toArray.zip a.toArray).map (·.2)=a.toArray;apply Array.ext
   .simp
   .intro i R r;simp
  rw[V];refine AA (listUpdate_at f rfl ?_ (zero_le _) (by rw[size_toArray,sizeLine_eq];omega));simp only[bne_self_eq_false,false_eq_true,if_false];have D:a.length<2:=r;refine AB (fin (toArray (List.range a.length)) _ ⟨by exact length_range,by rfl⟩ (fun i j W S=>by omega) ?_)
  congr 1
  apply ext_getElem
  .simp
  .intro i R r;simp[R]
 .rw[if_neg r,if_neg r];have D:2<=a.length:=by simpa using r
  obtain⟨m,t,J⟩:=T D u keep;refine AA (t _ _ ?_);have K:SortSt.mk' m (a.toArray.zip a.toArray) #[] 7 none=kas_st m (pairsOf a) (toArray (List.range a.length)):=by
   have e:=kas_range (pairsOf a);rw[pairsOf_size]at e;show SortSt.mk' m (pairsOf a) #[] 7 none=SortSt.mk' m ((toArray (List.range a.length)).map (kas_item (pairsOf a))) #[] 7 none;rw[e]
  have L:U9 a.length lt (kas_cmp prog w A m (pairsOf a)) { s with heap:=u }:=fun i j C X S Y=>by
   rw[<- kas_ask_eq];exact J i j C X S Y
  have run:=kas_runs (E:=E) (prog:=prog) (w:=w) (A:=A) (κ:=m) (it:=pairsOf a) (s:={ s with heap:=u }) (Q:=fun g k z=>z={ s with heap:=u }/\EC fun(p:Array Nat)=>KT (Pl a.length p) (Up lt p a.length) (arrOf k=p.map (kas_item (pairsOf a))) (failedOf k=none))
   (G:=fun p z=>z={ s with heap:=u }/\Pl a.length p/\Up lt p a.length)
   D H (fun Z k z a1 a2 a3 M=>⟨M.1,Z,M.2.1,M.2.2,a2,a3⟩) (UX O L D fun p v y=>⟨rfl,v,y⟩)
  rw[<- K]at run;refine AA (wpAny_mono run ?_ fun g g e=>e);rintro⟨⟨⟩,k⟩ z ⟨rfl,p,v,y,N,hf⟩;have B:(arrOf k).map (·.2)=toArray (p.toList.map fun i=>a.getD i Value.none):=by
   apply Array.toList_inj.mp;rw[N,Array.map_map,Array.toList_map];exact map_congr_left fun i g=>by show(kas_item (pairsOf a) i).2=_;rw[kas_item_eq]
  rw[B];refine AA (seqEpoch_at f rfl ?_);refine AA (listUpdate_at f rfl ?_ (zero_le _) (by rw[size_toArray,AG,length_toList,v.size,sizeLine_eq];omega));rw[hf];simp only[bne_self_eq_false,false_eq_true,if_false];exact AB (fin p _ v y rfl)
end
section
variable {d:Nat} {G:Gh} {H:Aj} {s s':Shared} {Φ:V->Aj->Prop} {Q:Value->Shared->Prop} {A:Around}
theorem JU(r:BJ G l a){i:Nat}(b:i<l.length):VR G (l.getD i .none) (a.getD i .none):=by
 obtain⟨x,e,c⟩:=r.get (AD b);have f:l.getD i .none=l[i]:=by simp[b]
 have g:a.getD i .none=x:=by simp[e]
 rw[f,g];exact c
theorem Pa(r:BJ G (t.map V.int) a)(l:2<=a.length) :
  (∀(Q:SortKind->Shared->Prop) E,Q oneType' s->wpAny (model X.prog X.w) A (keyKind' a.toArray) Q E s) /\
  ∀(i j:Nat)(C:Bool->Shared->Prop),i<a.length->j<a.length->C (Ge ((t.map V.int).getD i .none) ((t.map V.int).getD j .none)) s->wpAny (model X.prog X.w) A (keyLt' oneType' (a.getD i .none) (a.getD j .none)) C (fun m m=>False) s:=by
 obtain⟨b,rfl,rfl⟩:=EW r;refine⟨fun Q E n=>?_,fun i j C c e f=>?_⟩
 .refine kas_kind (T:=Value.type "int") l (fun v o=>?_) (by decide) (by decide) n;obtain⟨p,_,rfl⟩:=AS o;exact Looks.of_pure rfl
 .simp only[AG]at c e;have g:∀k,k<b.length->∃p:Int×Tok,((b.map (fun p=>Value.int p.1 p.2)).getD k .none)=.int p.1 p.2/\(((b.map (·.1)).map V.int).getD k .none)=.int p.1:=fun k h=>⟨b[k],by simp[h],by simp[h]⟩;obtain⟨p,u,x⟩:=g i c;obtain⟨q,y,z⟩:=g j e;rw[u,y];rw[x,z]at f;exact kat_lt_int f
theorem SN:∀{b:List Value},BJ G (m4.map V.str) b->∃a:List (Str×Tok),b=a.map (fun p=>Value.str p.1 p.2)/\a.map (·.1)=m4:=by
 induction m4 with
 |nil=>exact fun h=>⟨[],h.nil_l,rfl⟩
 |cons i m4 c=>
  intro b h;obtain⟨y,k,e,f⟩:=h.cons_l;obtain⟨t,rfl⟩:=e.str_l;obtain⟨a,g,j⟩:=c f;exact⟨(i,t)::a,by rw[AW,g],by rw[AW,j]⟩
theorem QS(r:BJ G (m4.map V.str) a)(l:2<=a.length) :
  (∀(Q:SortKind->Shared->Prop) E,Q oneType' s->wpAny (model X.prog X.w) A (keyKind' a.toArray) Q E s) /\
  ∀(i j:Nat)(C:Bool->Shared->Prop),i<a.length->j<a.length->C (Ge ((m4.map V.str).getD i .none) ((m4.map V.str).getD j .none)) s->wpAny (model X.prog X.w) A (keyLt' oneType' (a.getD i .none) (a.getD j .none)) C (fun m m=>False) s:=by
 obtain⟨b,rfl,rfl⟩:=SN r;refine⟨fun Q E n=>?_,fun i j C c e f=>?_⟩
 .refine kas_kind (T:=Value.type "str") l (fun v o=>?_) (by decide) (by decide) n;obtain⟨p,_,rfl⟩:=AS o;exact Looks.of_pure rfl
 .simp only[AG]at c e;have g:∀k,k<b.length->∃p:Str×Tok,((b.map (fun p=>Value.str p.1 p.2)).getD k .none)=.str p.1 p.2/\(((b.map (·.1)).map V.str).getD k .none)=.str p.1:=fun k h=>⟨b[k],by simp[h],by simp[h]⟩;obtain⟨p,t,u⟩:=g i c;obtain⟨q,x,y⟩:=g j e;rw[t,x];rw[u,y]at f;exact kas_lt_str f
theorem V6{b a:List (Int×Tok)}{fin:Bool}:∀{i:Nat},R (DY ((b.map (·.1)).map V.int) ((a.map (·.1)).map V.int)) s->(fin=decide (b.length<a.length)) ->
  KatLex X.prog X.w A true fin R ((b.map (fun p=>Value.int p.1 p.2)).zip (a.map (fun p=>Value.int p.1 p.2))) i s:=by
 induction b generalizing a fin with
 |nil=>
  intro i h c;show R fin s;cases a with
  |nil=>rw[c];exact h
  |cons q a=>rw[c,decide_eq_true (Nat.zero_lt_succ _)];exact h
 |cons p b f=>
  intro i h c;cases a with
  |nil=>
   rw[c,decide_eq_false (not_lt_zero _)];exact h
  |cons q a=>
   refine kat_cons (wpAny_eqBool_int ?_);have h:R (if p.1=q.1 then DY ((b.map (·.1)).map V.int) ((a.map (·.1)).map V.int)else decide (p.1<q.1)) s:=h
   by_cases e:p.1=q.1
   .rw[beq_iff_eq.mpr e];rw[if_pos e]at h;exact kat_yes (f h (c.trans (decide_eq_decide.mpr Nat.succ_lt_succ_iff)))
   .rw[beq_eq_false_iff_ne.mpr e];rw[if_neg e]at h;refine kat_no ?_;cases g:(true&&i==0)with
    |true=>exact oneLt_int h
    |false=>exact kat_one _ _ (lt_int h)
theorem PA(P:Az X G H s)(r:BJ G (S.map (fun t=>V.tup (t.map V.int))) a)(u:∀t∈S,t≠[])(J:2<=a.length) :
  (∀(Q:SortKind->Shared->Prop) E,Q (tuples' true) s->wpAny (model X.prog X.w) A (keyKind' a.toArray) Q E s) /\
  ∀(i j:Nat)(C:Bool->Shared->Prop),i<a.length->j<a.length->C (Ge ((S.map (fun t=>V.tup (t.map V.int))).getD i .none) ((S.map (fun t=>V.tup (t.map V.int))).getD j .none)) s->wpAny (model X.prog X.w) A (keyLt' (tuples' true) (a.getD i .none) (a.getD j .none)) C (fun K K=>False) s:=by
 have one:∀{t:List Int}{x:Value},VR G (V.tup (t.map V.int)) x->∃c o n,EC fun(f:List (Int×Tok))=>QZ (x=.ref c) (s.heap.get? c=some o) (o.cls=.type "tuple") (o.data=.seq (f.map (fun p=>Value.int p.1 p.2)).toArray n) (f.map (·.1)=t):=fun{t x} R=>by
  cases R with
  |tup e r=>
   obtain⟨f,rfl,rfl⟩:=EW r;obtain⟨o,y,g,n,hd⟩:=P.tup _ _ e;exact⟨_,o,n,f,rfl,y,g,hd,rfl⟩
 refine⟨fun Q E L=>?_,fun i j C U W g=>?_⟩
 .have:EC fun(q:List Value)=>DD (KatTups s.heap a q) (q.length=a.length) (∀v∈q,∃i t,v=Value.int i t):=by
   clear J L Q;induction S generalizing a with
   |nil=>obtain rfl:=r.nil_l;exact⟨[],.nil,rfl,fun K h=>nomatch h⟩
   |cons t S Y=>
    cases r with
    |cons Z r2=>
     obtain⟨c,o,n,f,rfl,y,g,hd,rfl⟩:=one Z;obtain⟨q,z,B,D⟩:=Y r2 (fun t ht=>u t (.tail _ ht));cases f with
     |nil=>exact absurd rfl (u _ (.head _))
     |cons p f=>
      refine⟨Value.int p.1 p.2::q,.cons y g hd rfl z,by simp[B],fun v hv=>?_⟩;rcases Ae hv with rfl |hv
      .exact⟨_,_,rfl⟩
      .exact D v hv
  obtain⟨q,z,B,D⟩:=this;refine kat_kind z (AK (lt_of_succ_lt J) (AT (Eq.symm B))) (T:=Value.type "int") (fun v hv=>?_) (by decide) L;obtain⟨i,t,rfl⟩:=D v hv;exact Looks.of_pure rfl
 .have l:i<S.length:=by have:=r.length;simp at this;exact AK U (AT (Eq.symm this))
  have m:j<S.length:=by have:=r.length;simp at this;exact AK W (AT (Eq.symm this))
  have M:=JU r (i:=i) (by simpa using l);have N:=JU r (i:=j) (by simpa using m);have e:∀k,k<S.length->(S.map (fun t=>V.tup (t.map V.int))).getD k .none=V.tup ((S[k]!).map V.int):=fun k hk=>by simp[hk]
  rw[e i l]at M;rw[e j m]at N;rw[e i l,e j m]at g;obtain⟨c,o,n,f,e1,y,a0,hd,e2⟩:=one M;obtain⟨b,o',n',ys,z,F,O,I,B⟩:=one N;rw[e1,z];refine kat_lt y hd F I ?_;rw[<- e2,<- B]at g;exact V6 g (by simp)
theorem US(f:Az X G H s)(r:BJ G l a)(g:DN l)(b:2<=a.length) :
  ∃e,(∀(Q:SortKind->Shared->Prop) E,Q e s->wpAny (model X.prog X.w) A (keyKind' a.toArray) Q E s) /\
  ∀(i j:Nat)(C:Bool->Shared->Prop),i<a.length->j<a.length->C (Ge (l.getD i .none) (l.getD j .none)) s->wpAny (model X.prog X.w) A (keyLt' e (a.getD i .none) (a.getD j .none)) C (fun h h=>False) s:=by
 rcases g.2 with⟨k,rfl⟩ |⟨k,rfl⟩ |⟨m,rfl,c⟩
 .exact⟨_,Pa r b⟩
 .exact⟨_,QS r b⟩
 .exact⟨_,PA f r c b⟩
end
theorem all_map{c:Type}{f:c->V}{P:V->Prop}:∀{l:List V},(∀v∈l,∃a,v=f a)->∃b:List c,l=b.map f:=by
 intro d;induction d with
 |nil=>
  intro _;exact⟨[],rfl⟩
 |cons v l e=>
  intro h;obtain⟨a,rfl⟩:=h v (.head _);obtain⟨b,rfl⟩:=e fun u g=>h u (.tail _ g);exact⟨a::b,rfl⟩
theorem DN.perm{m:List V}(h:DN l)(p:m.Perm l):DN m:=by
 refine⟨p.nodup_iff.mpr h.1,?_⟩;rcases h.2 with⟨j,rfl⟩ |⟨j,rfl⟩ |⟨q,rfl,b⟩
 .refine .inl (all_map (P:=fun d=>True) fun v a=>?_);obtain⟨i,_,rfl⟩:=AS (p.mem_iff.mp a);exact⟨i,rfl⟩
 .refine .inr (.inl (all_map (P:=fun d=>True) fun v a=>?_));obtain⟨i,_,rfl⟩:=AS (p.mem_iff.mp a);exact⟨i,rfl⟩
 .obtain⟨k,rfl⟩:=all_map (P:=fun d=>True) (f:=fun t:List Int=>V.tup (t.map V.int)) (l:=m) fun v a=>by
   obtain⟨i,_,rfl⟩:=AS (p.mem_iff.mp a);exact⟨i,rfl⟩
  refine .inr (.inr ⟨k,rfl,fun t n e=>?_⟩);have:=p.mem_iff.mp (List.mem_map.mpr ⟨t,n,rfl⟩);obtain⟨o,c,g⟩:=AS this;simp only[V.tup.injEq]at g;subst e;exact b o c (by simpa using g)
section
variable {d:Nat} {G:Gh} {H:Aj} {s s':Shared} {Φ:V->Aj->Prop} {Q:Value->Shared->Prop} {A:Around}
theorem F5(F:D7 l H Φ)(k:Bj X G s Φ Q)
  (u:∀R:List Value->Shared->Prop,(∀(t:List V) f a,At G Cs s G a->Az X G H a->BJ G t f->t.Perm l->R f a)->wpAny (model X.prog X.w) A.in1 (collect x) R (fun I I=>False) s) :
  wpAny (model X.prog X.w) A (call (.builtin "sorted") [x]) Q (fun I I=>False) s:=by
 obtain⟨U,nd,hs,F⟩:=F;refine Calls.call_function_entry kind_sorted plain_sorted entry_sorted (args_sorted1 _) ?_;refine AA (m:=checkCount "sorted" 1 1 _) (AB ?_);refine AA (u _ fun t f a p W r J=>?_);have g:f.length=l.length:=by rw[<- r.length,J.length_eq]
 refine AA (wpAny_newList ?_ (by rw[sizeLine_eq];exact AR (AV (AH (AT g) U) (by decide))));have Y:(a.heap.push (seqObj "list" f.toArray 0)).get? a.heap.objs.size=some (seqObj "list" f.toArray 0):=get?_push_size _ rfl;have B:DN t:=DN.perm (l:=l) ⟨nd,hs⟩ J;have O:=Wi B;rw[r.length]at O;refine AA (AC (wpAny_call_entry slot_list_sort ⟨_,Y,rfl⟩ entry_list_sort ?_ (args_list_sort _)));have K:a.heap.get? a.heap.objs.size=none:=Aw _;refine IR (s:={ a with heap:=a.heap.push (seqObj "list" f.toArray 0) }) Y (AK (AH (AT g) U) (by decide)) O (fun h2 L M=>?_) fun L c q D hU hg M=>?_
 .exact US (s:={ a with heap:=L }) (W.keeps (fun b o e=>M b o (fun z=>by rw[z,K]at e;cases e) (get?_push_of_some _ e))) r B h2
 .refine⟨_,rfl,AB ⟨_,rfl,?_⟩⟩;have vr:BJ G (q.toList.map fun i=>t.getD i V.none) (q.toList.map fun i=>f.getD i Value.none):=by
   refine E1 (by simp) fun j v y Z E=>?_;rw[List.getElem?_map]at Z E;obtain⟨i,C,rfl⟩:=Option.map_eq_some_iff.mp Z;rw[C]at E;simp only[map_some,Option.some.injEq]at E;subst E;have:i<f.length:=by
    have:=D.perm.mem_iff.mp (mem_of_getElem? C);simpa using this
   exact JU r (AK this (AT (Eq.symm r.length)))
  refine FD (s:=a) (h:=L) (tk:=a.toks) (fun G' H' v N s' p' q' r' x'=>k G' H' v N s' (p.trans p') q' r' x') W vr (F _ ((Hd t V.none ⟨by rw[D.size,r.length],by rw[r.length];exact D.perm⟩).trans J) ?_) K (fun b o e=>M b o (fun z=>by rw[z,K]at e;cases e) (get?_push_of_some _ e)) (LI.of (n:=c) hg);rw[List.pairwise_map];rw[List.pairwise_iff_getElem];intro i j C P S;have T:q.toList.length=f.length:=by rw[length_toList,D.size]
  have:=hU i j S (AK P (AT T));have e1:q.getD i 0=q.toList[i]:=by simp at C;simp[getD,C]
  have e2:q.getD j 0=q.toList[j]:=by simp at P;simp[getD,P]
  rw[e1,e2]at this;exact this
theorem LT(f:Az X G H s)(e:H[n]? =some (.list l))(r:VR G (.loc n) x)(g:D7 l H Φ)(k:Bj X G s Φ Q) :
  wpAny (model X.prog X.w) A (call (.builtin "sorted") [x]) Q (fun j j=>False) s:=by
 obtain⟨a,c,m,p,h⟩:=f.list e;obtain rfl:=r.at m;refine F5 g k fun R t=>?_;have u:c.length<=sizeLine:=by rw[<- h.length,sizeLine_eq];have:=g.1;exact AR (AK this (by decide))
 refine collect_list p ?_ u;have i:∀b o,s.heap.get? b=some o->((s.heap.push (seqObj "list" #[] 0)).update s.heap.objs.size (mapSeq (· ++c.toArray))).get? b=some o:=fun b o q=>
  (get?_update_other _ _ (Ne.symm (Nat.ne_of_lt (lt_size q)))).trans (get?_push_of_some _ q)
 exact t l c { s with heap:=(s.heap.push (seqObj "list" #[] 0)).update s.heap.objs.size (mapSeq (· ++c.toArray)) } (.ofKeeps ⟨_,s.toks,rfl⟩ i _) (f.keeps i) h (.refl _)
section
variable {prog:Program} {w:World} {E:Value->Shared->Prop} {D I:Addr} {o:Obj} {es:Array DictEntry} {ep:Nat}
theorem KA{Q:Value->Shared->Prop}(lo:(D==sysModules)=false)(a:s.heap.get? D=some o)(c:o.cls=.type "dict")(hd:o.data=.dict es ep)
  (e:Q (.ref s.heap.objs.size) { s with heap:=s.heap.push { cls:=.type "dict_keyiterator",data:=.fields #[.ref D,.int 0 0,.int es.size 0,.int ep 0] } }) :
  wpAny (model prog w) A (pyIter (.ref D)) Q E s:=by
 have b:s.TypeIs (.ref D) "dict" :=⟨o,a,c⟩;refine wpAny_pyIter_slot b F.slot_dict_iter (wpAny_call_entry F.slot_dict_iter b F.entry_dict_iter ?_ (F.args_dict_iter_1 _));refine AA ?_;refine AA (wpAny_notOrdered_dict b ?_);show wpAny _ _ (pure (Value.ref D)) _ _ s;refine AB ?_;show wpAny _ _ (Builtin.Dict.showsAll D >>= _) _ _ s;unfold Builtin.Dict.showsAll;rw[if_neg (by rw[lo];exact AN)];refine AA (AB ?_);refine AA (wpAny_dictEntries a hd ?_);refine AA (wpAny_dictEpoch a hd ?_);refine AA (wpAny_newObj_type (AB ⟨_,rfl, "dict_keyiterator",_,⟨_,get?_push_size _ rfl,rfl⟩,F.slot_dict_keyiterator_next.lookup,?_⟩));simpa [rawInt]using e
theorem FE{α:Type}{M:Model}{A:Around}{E:Value->Shared->Prop}{s:Shared}{Q:α->Shared->Prop}(hA:A.handled=none)
  (h:∀h' e,(∀b o,s.heap.get? b=some o->h'.get? b=some o)->({ s with heap:=h' }:Shared).TypeIs (.ref e) "StopIteration" ->E (.ref e) { s with heap:=h' }):wpAny M A (newExc (.type "StopIteration") [] >>= fun e=>(raiseNew e:Sem α)) Q E s:=by
 refine AA ?_;delta newExc newTuple;refine AA (wpAny_newObj_type ?_ (by size_fits));refine AA (m:=firstArgMember _ _) (wpAny_of_eq (a:=Value.none) rfl ?_);exact wpAny_newObj_type (wpAny_raiseNew_none hA (h _ _ (fun b o e=>get?_push_of_some _ (get?_push_of_some _ e)) ⟨_,get?_push_size _ rfl,rfl⟩)) (by size_fits)
theorem J0(a:s.heap.IsKeyIter I D n es.size ep)(i:s.heap.get? D=some o)(hd:o.data=.dict es ep)(f:n<es.size)
  (k:∀g,g.IsKeyIter I D (n+1) es.size ep->Heap.SameBut I s.heap g->j (some es[n].key) { s with heap:=g }):wpAny (model prog w) A (pyNext (.ref I)) j E s:=by
 obtain⟨p,h,l,b⟩:=id a;refine AA (wpAny_attempt (wpAny_callSpecial?_slot (name:=ofString "__next__") a.typeIs F.slot_dict_keyiterator_next
  (wpAny_call_entry F.slot_dict_keyiterator_next a.typeIs F.entry_dict_keyiterator_next ?_ (F.args_dict_keyiterator_next_1 _))))
 refine AA (AB ?_);refine AA ?_;refine AA ?_
 first |refine AA (wpAny_typeNameOfWhole_keyiter a.typeIs (AB ?_)) |refine AA (wpAny_typeNameOf_keyiter a.typeIs (AB ?_))
 refine AA (wpAny_fieldsOf h b ?_);have e:Builtin.Dict_items.ownsTuple "dict_keyiterator" =false:=by decide
 rw[e];show wpAny _ _ (if(Value.ref D==Value.none)=true then _ else _) _ _ s
 rw[if_neg (show ¬((Value.ref D==Value.none)=true)from AN)];refine AA (AB ?_);refine AA (wpAny_dictEntries i hd ?_);rw[if_neg (by simp)];refine AA (AB ?_);refine AA (wpAny_dictEpoch i hd ?_);rw[if_neg (by simp)];refine AB ?_;have m:(if(n:Int)<0 then none else es[(n:Int).toNat]?)=some es[n]:=by rw[if_neg (show ¬((n:Int)<0)from Int.not_lt_of_ge (Ai _)),toNat_natCast,Array.getElem?_eq_getElem f]
 dsimp only;rw[m];refine AA ?_
 first |refine AA (wpAny_typeNameOfWhole_keyiter a.typeIs (AB ?_)) |refine AA (wpAny_typeNameOf_keyiter a.typeIs (AB ?_))
 refine AA (wpAny_isOneOf_keyiter a.typeIs ?_);show wpAny _ _ (setField (.ref I) 1 (rawInt ((n:Int)+1)) >>= _) _ _ s;refine AA (wpAny_setField h b (by simp) ?_);have c:(s.heap.update I (mapFields (·.setIfInBounds 1 (rawInt ((n:Int)+1))))).IsKeyIter I D (n+1) es.size ep:=
  ⟨_,get?_update_self _ h (Obj.isFreed_of_fields (data_mapFields b _)),(Obj.cls_mapFields ..).trans l,by rw[data_mapFields b];simp[rawInt]⟩
 refine AA (AC ?_);refine AA (wpAny_isOneOf_keyiter (s:={ s with heap:=s.heap.update I (mapFields (·.setIfInBounds 1 (rawInt ((n:Int)+1)))) }) c.typeIs ?_);exact AB (AB ⟨_,rfl,AB (k _ c (Heap.SameBut.update ..))⟩)
theorem HZ(l:A.handled=none)(a:s.heap.IsKeyIter I D es.size es.size ep)(h:s.heap.get? D=some o)(hd:o.data=.dict es ep)
  (m:∀g,Heap.ExtBut I s.heap g->j none { s with heap:=g }):wpAny (model prog w) A (pyNext (.ref I)) j E s:=by
 obtain⟨r,i,t,c⟩:=id a;refine AA (wpAny_attempt (wpAny_callSpecial?_slot (name:=ofString "__next__") a.typeIs F.slot_dict_keyiterator_next
  (wpAny_call_entry F.slot_dict_keyiterator_next a.typeIs F.entry_dict_keyiterator_next ?_ (F.args_dict_keyiterator_next_1 _))))
 refine AA (AB ?_);refine AA ?_;refine AA ?_
 first |refine AA (wpAny_typeNameOfWhole_keyiter a.typeIs (AB ?_)) |refine AA (wpAny_typeNameOf_keyiter a.typeIs (AB ?_))
 refine AA (wpAny_fieldsOf i c ?_);have f:Builtin.Dict_items.ownsTuple "dict_keyiterator" =false:=by decide
 rw[f];show wpAny _ _ (if(Value.ref D==Value.none)=true then _ else _) _ _ s
 rw[if_neg (show ¬((Value.ref D==Value.none)=true)from AN)];refine AA (AB ?_);refine AA (wpAny_dictEntries h hd ?_);rw[if_neg (by simp)];refine AA (AB ?_);refine AA (wpAny_dictEpoch h hd ?_);rw[if_neg (by simp)];refine AB ?_;have p:(if(es.size:Int)<0 then none else es[(es.size:Int).toNat]?)=none:=by rw[if_neg (show ¬((es.size:Int)<0)from Int.not_lt_of_ge (Ai _)),toNat_natCast,Array.getElem?_eq_none (AM _)]
 dsimp only;rw[p];refine AA ?_
 first |refine AA (wpAny_typeNameOfWhole_keyiter a.typeIs (AB ?_)) |refine AA (wpAny_typeNameOf_keyiter a.typeIs (AB ?_))
 show wpAny _ _ (setField (.ref I) 0 .none >>= _) _ _ s;refine AA (wpAny_setField i c (by simp) ?_);refine FE (A:=A.in1) l fun g e k q=>?_;refine AA (wpAny_isInstance (T:= "StopIteration") (b:=true) q isSubtype_stop ?_);exact AB (m _ fun b o n e=>k b o ((Heap.SameBut.update ..).extBut b o n e))
theorem Lo(q:A.handled=none)(k:D≠I)(hd:o.data=.dict es ep) :
  Walks prog w A I [I,D] [I] es.size (fun i v=>∃e,es[i]? =some e/\v=e.key) (fun i h=>h.IsKeyIter I D i es.size ep/\h.get? D=some o) where
 sub:=fun b a=>by simp at a;simp[a]
 frame:=fun c c c st n=>⟨st.1.at fun o e=>n I (.head _) o e,n D (by exact .tail _ (.head _)) _ st.2⟩
 item:=fun i s Q E p st f=>by
  refine J0 st.1 st.2 hd p fun l g j=>?_;exact f _ l s.toks ⟨es[i],Array.getElem?_eq_getElem p,rfl⟩ ⟨g,(j.2 D k).trans st.2⟩ fun b o a e=>j.extBut b o (fun h=>a (by simp[h])) e
 done:=fun s Q E st f=>HZ q st.1 st.2 hd fun l m=>f l s.toks fun b o a e=>m b o (fun h=>a (by simp[h])) e
 self:=fun c c c c st f=>wpAny_pyIter_keyiter st.1 f
theorem QP(lo:(D==sysModules)=false)(c:o.cls=.type "dict")(hd:o.data=.dict es ep) :
  KdlSrc prog w "dict" D D es.size (fun i v=>∃e,es[i]? =some e/\v=e.key) (fun h=>h.get? D=some o) where
 type:=fun b a=>⟨o,a,c⟩
 there:=fun b a=>⟨lt_size a,lt_size a⟩
 keep:=fun b b a g=>g D (.inl rfl) o a
 notList:=by decide
 notTuple:=by decide
 hint:=fun b b s b a f=>kdl_hint_dict (s:=s) ⟨o,a,c⟩ f
 iter:=fun b s j a=>⟨_,_,(fun b b f=>KA lo a c hd f),Lo j (Nat.ne_of_lt (lt_size a)) hd,⟨⟨_,get?_push_size _ rfl,rfl,rfl⟩,get?_push_of_some _ a⟩⟩
end
theorem Ki(z:A.handled=none)(B:X.Ok)(f:Az X G H s)(e:H[n]? =some (.dict m))(r:VR G (.loc n) x)(h:D7 (m.map (·.1)) H Φ)(k:Bj X G s Φ Q) :
  wpAny (model X.prog X.w) A (call (.builtin "sorted") [x]) Q (fun C C=>False) s:=by
 obtain⟨a,l,T,D⟩:=f.dict e;obtain rfl:=r.at l;obtain⟨o,p,ep,E,F,hd,q,nd⟩:=D;have c:p.size=m.length:=by rw[q.length];simp
 refine F5 h k fun R I=>?_;have J:p.size<=sizeLine:=by rw[c,sizeLine_eq];have:=h.1;simp at this;exact AR (AK this (by decide))
 refine kdu_collect (A:=A.in1) (QP (f.notMod B (.inl ⟨n,l⟩)) F.1 hd) z E J fun K L g t b=>?_;refine I (m.map (·.1)) g.toList { s with heap:=K,toks:=L } (.ofKeeps ⟨_,_,rfl⟩ t _) (f.keeps t) ?_ (.refl _);refine E1 (by simp[b.1,c]) fun j v y u M=>?_;obtain⟨N,O,rfl⟩:=b.2 j y (by simpa using M);obtain⟨U,V,P,_,_,S,_⟩:=q.get (i:=j) (e:=N) (by simpa using O);rw[List.getElem?_map,P]at u;cases u;exact S
end
section
variable {prog:Program} {w:World} {A:Around} {E:Value->Shared->Prop} {s:Shared}
def Be(n:Nat)(o:Option Int):Nat:=o.elim 0 (clipAt n)
def CI(n:Nat)(o:Option Int):Nat:=o.elim n (clipAt n)
theorem M2(lo d:Option Int)(n:Nat):Builtin.Slice.sliceAdjust lo d 1 (n:Int)=((Be n lo:Int),(CI n d:Int)):=by
 have c:∀i:Int,(if i<0 then max (i+(n:Int)) 0 else min i (n:Int))=(clipAt n i:Int):=fun i=>by
  rw[clipAt_cast];by_cases h:i<0
  .rw[if_pos h,if_pos h,Int.min_eq_left (by have:=Int.add_le_add_right (Int.le_of_lt h) (n:Int);rw[Int.zero_add]at this;exact this),Int.max_comm]
  .rw[if_neg h,if_neg h,Int.max_eq_right (Int.le_min.mpr ⟨Int.not_lt.mp h,Ai n⟩)]
 cases lo with
 |none=>cases d with
  |none=>rfl
  |some b=>exact congrArg (Prod.mk _) (c b)
 |some a=>cases d with
  |none=>exact congrArg (Prod.mk · _) (c a)
  |some b=>exact(congrArg (Prod.mk · _) (c a)).trans (congrArg (Prod.mk _) (c b))
theorem NE(a b:Nat):Builtin.Slice.slicePlaces (a:Int) (b:Int) 1=b-a:=by
 show(if(a:Int)<b then((b:Int)-a-1) / 1+1 else 0).toNat=b-a
 by_cases h:(a:Int)<b
 .rw[if_pos h,Int.ediv_one,Int.sub_add_cancel];exact Int.toNat_sub b a
 .rw[if_neg h];exact(Nat.sub_eq_zero_of_le (Int.ofNat_le.mp (Int.not_lt.mp h))).symm
theorem E6{k:Option Int}{Q:Option Int->Shared->Prop}(p:IsPart x k)(h:Q k s):wpAny (model prog w) A (Builtin.Slice.slicePartIndex x) Q E s:=by
 cases p with
 |none=>exact slicePart_none h
 |int i t=>exact slicePart_int h
theorem RQ(b:Array Value)(a n:Nat):((List.range n).filterMap fun(k:Nat)=>b[((a:Int)+(k:Int)*1).toNat]?).toArray=((b.toList.drop a).take n).toArray:=by
 have e:(fun(k:Nat)=>b[((a:Int)+(k:Int)*1).toNat]?)=fun k=>b[a+k]?:=by
  funext k;have:((a:Int)+(k:Int)*1).toNat=a+k:=by omega
  rw[this]
 rw[e];have:=pick_run b a n;rw[List.filterMap_map]at this;have c:((fun x=>b[x]?)∘fun x=>a+x)=fun k=>b[a+k]?:=rfl;rw[c]at this;rw[this]
theorem GG{e:Value}{lo d:Option Int}{Q:Int×Int×Nat->Shared->Prop}(f:s.heap.IsSliceOf b x e .none)(g:IsPart x lo)(i:IsPart e d)
  (h:Q ((Be n lo:Int),1,CI n d-Be n lo) s):wpAny (model prog w) A (Builtin.Slice.sliceApplied (.ref b) (pure (n:Int))) Q E s:=by
 obtain⟨os,a,j,c⟩:=id f;refine AA (AA (wpAny_field a c (x:=x) rfl (AA (wpAny_field a c (x:=e) rfl (AA (wpAny_field a c (x:=.none) rfl (AB ?_)))))));refine AA (slicePart_none ?_);rw[if_neg (by decide)];refine AA (E6 g (AA (E6 i (AA (AB ?_)))));show wpAny _ _ (match Builtin.Slice.sliceAdjust lo d 1 (n:Int)with |(lo,d)=>pure (lo,(1:Int),Builtin.Slice.slicePlaces lo d 1)) _ _ s
 rw[M2];show wpAny _ _ (pure ((Be n lo:Int),(1:Int),Builtin.Slice.slicePlaces (Be n lo:Int) (CI n d:Int) 1)) _ _ s;rw[NE];exact AB h
theorem E5{j:Addr}{l:Value}{lo c:Option Int}(d:IsTup s.heap b m7)(n:s.heap.IsSliceOf j x l .none)(o:IsPart x lo)(p:IsPart l c)
  (r:(m7.toList.drop (Be m7.size lo)).take (CI m7.size c-Be m7.size lo)=m7.toList->Q (.ref b) s)
  (h:Q (.ref s.heap.objs.size) { s with heap:=s.heap.push { cls:=.type "tuple",data:=.seq ((m7.toList.drop (Be m7.size lo)).take (CI m7.size c-Be m7.size lo)).toArray } })
  (f:m7.size<=sizeLine):wpAny (model prog w) A (getItem (.ref b) (.ref j)) Q E s:=by
 have a:sizeOk (.seq ((m7.toList.drop (Be m7.size lo)).take (CI m7.size c-Be m7.size lo)).toArray):=by
  show((m7.toList.drop (Be m7.size lo)).take (CI m7.size c-Be m7.size lo)).toArray.size<=sizeLine;rw[size_toArray,length_take,length_drop,length_toList];exact AF (min_le_right _ _) (AF (sub_le _ _) f)
 obtain⟨os,g,i,t⟩:=id n;unfold getItem
 try with_reducible refine AC ?_
 first |refine AA (AB ?_) |skip
 refine AA (wpAny_sequenceKey d.typeIs (by decide) ?_);refine AA (wpAny_callSpecial?_slot (name:=ofString "__getitem__") d.typeIs slot_tuple_getitem
  (wpAny_call_entry slot_tuple_getitem d.typeIs entry_tuple_getitem ?_ (args_tuple_getitem _ _)))
 show wpAny _ _ (Builtin.Tuple.tupleItemsOf (.ref b) >>= _) _ _ s;refine AA (tupleItemsOf_ d ?_);refine AA (wpAny_typeOf ⟨os,g,i⟩ ?_);rw[if_pos (by decide)];refine AA (GG n o p ?_);have out:wpAny (model prog w) A.in1 (do return <- ret (<- Builtin.Tuple.tupleExact ((List.range (CI m7.size c-Be m7.size lo)).filterMap fun(k:Nat)=>m7[((Be m7.size lo:Int)+(k:Int)*1).toNat]?).toArray))
   (fun fin u=>∃v,fin=.done (.ret v)/\wpAny (model prog w) A (pure v) Q E u) E s:=by
  rw[RQ]
  first
   |exact AA (m:=Builtin.Tuple.tupleExact _) (wpAny_newObj_type (AB ⟨_,rfl,AB h⟩) a)
   |exact AA (m:=Builtin.Tuple.tupleExact _) (wpAny_newObj_type (AA (AB (AB ⟨_,rfl,AB h⟩))) a)
 refine wpAny_ite_split (fun q=>?_) (fun B=>?_)
 .simp only[and_eq_true,beq_iff_eq]at q;obtain⟨⟨y,_⟩,z⟩:=q;have e:(m7.toList.drop (Be m7.size lo)).take (CI m7.size c-Be m7.size lo)=m7.toList:=by
   have:Be m7.size lo=0:=Int.natCast_eq_zero.mp y;rw[z,this,drop_zero,List.take_of_length_le (by simp)]
  refine AA ?_;refine AA (wpAny_typeOf d.typeIs (AB ?_));rw[if_pos (by decide)];exact AA (wpAny_rule (AB ⟨_,rfl,AB (r e)⟩))
 .exact out
end
section
variable {d:Nat} {G:Gh} {H:Aj} {s s':Shared} {Φ:V->Aj->Prop} {Q:Value->Shared->Prop} {A:Around}
theorem OS(r:VR G v x)(h:WJ v n=some k):∃a,IsPart x a/\Be n a=k:=by
 cases v<;>first |exact Gi h |skip
 .obtain rfl:=r.none_l;exact⟨none,.none,Option.some.inj h⟩
 .obtain⟨t,rfl⟩:=r.int_l;exact⟨some _,.int _ _,Option.some.inj h⟩
theorem L6(r:VR G v x)(h:Vo v n=some k):∃a,IsPart x a/\CI n a=k:=by
 cases v<;>first |exact Gi h |skip
 .obtain rfl:=r.none_l;exact⟨none,.none,Option.some.inj h⟩
 .obtain⟨t,rfl⟩:=r.int_l;exact⟨some _,.int _ _,Option.some.inj h⟩
theorem Kz{a:Type}(l:List a)(i j:Nat):(l.take j).drop i=(l.drop i).take (j-i):=List.drop_take
theorem Sm{m:List V}{b:V}(h:Gd l v b=some m):Dd fun i j=>DD (WJ v l.length=some i) (Vo b l.length=some j) ((l.take j).drop i=m):=by
 unfold Gd at h;cases a:WJ v l.length with
 |none=>rw[a]at h;exact Gi h
 |some i=>cases c:Vo b l.length with
  |none=>rw[a,c]at h;exact Gi h
  |some j=>rw[a,c]at h;exact⟨i,j,rfl,rfl,Option.some.inj h⟩
theorem HT{f:Expr}{n:V}{o:Value}{c:Addr}{m:List V}(t:Az X G H s)(p:s.heap.IsList c a.toArray)(g:BJ G l a)(u:l.length<=Ar)(h:Gd l v n=some m)(y:Φ (.loc H.length) (H++[.list m]))(z:VR G v x)(B:VR G n o)(C:s.heap.IsSliceOf b x o .none)
  (D:subscripted f false (.ref c) (.ref b)=operate [.ref b,.ref c] (getItem (.ref c) (.ref b))) (k:Bj X G s Φ Q) :
  wpAny (model X.prog X.w) A (subscriptTail e f (.ref c) (.ref b)) Q (fun E E=>False) s:=by
 obtain⟨i,j,F,I,h⟩:=Sm h;obtain⟨J,K,q⟩:=OS z F;obtain⟨L,M,r⟩:=L6 B I;subst h;rw[g.length]at q r;have N:BJ G ((l.take j).drop i) ((a.drop i).take (j-i)):=by
  rw[<- Kz];exact(g.take j).drop i
 refine tail_any p.typeIs slot_list_getitem.lookup (wpAny_getItem_list_slice p C K M .none (by decide) ?_ (by rw[size_toArray,<- g.length];exact Bh u)) D;rw[slicePick_plain];simp only[size_toArray];have O:J.elim 0 (clipAt a.length)=i:=q;have P:L.elim a.length (clipAt a.length)=j:=r;rw[O,P];exact HR k t N y
theorem Og{f:Expr}{lo q:V}{L M:Value}(h:Az X G H s)(c:KL v lo q H Φ)(t:VR G v x)(u:VR G lo L)(y:VR G q M)(z:s.heap.IsSliceOf b L M .none)
  (B:subscripted f false x (.ref b)=operate [.ref b,x] (getItem x (.ref b))) (k:Bj X G s Φ Q) :
  wpAny (model X.prog X.w) A (subscriptTail e f x (.ref b)) Q (fun R R=>False) s:=by
 cases v with
 |tup l=>
  obtain⟨m,p,o,c⟩:=c;obtain⟨N,C,a,r⟩:=t.tup_l
  .have O:=h.tup _ _ a;have g:=r.length;obtain⟨i,j,S,T,o⟩:=Sm o;obtain⟨Z,U,D⟩:=OS u S;obtain⟨k2,W,E⟩:=L6 y T;subst o;rw[g]at D E;have P:BJ G ((l.take j).drop i) ((C.drop i).take (j-i)):=by
    rw[<- Kz];exact(r.take j).drop i
   refine tail_any O.typeIs slot_tuple_getitem.lookup (E5 O z U W (fun F=>?_) ?_ (by rw[size_toArray,<- g];exact Bh p)) B
   .simp only[size_toArray]at F;rw[D,E]at F;have:(l.take j).drop i=l:=by
     apply List.Sublist.eq_of_length
     .exact(List.drop_sublist _ _).trans (List.take_sublist _ _)
     .rw[P.length,F,g]
    rw[this]at c;exact CM k h (.tup a r) c
   .simp only[size_toArray];rw[D,E];exact Jk k h P c
 |loc n=>
  obtain⟨Y,a,c⟩:=CE (show Bk _ H n from c);cases Y with
  |list l=>
   obtain⟨m,p,o,c⟩:=(c:Jm lo q H Φ l);obtain⟨v,C,I,J,K⟩:=h.list a;obtain rfl:=t.at I;exact HT h J K p o c u y z B k
  |flist l=>
   obtain⟨m,p,o,c⟩:=(c:Jm lo q H Φ l);obtain⟨v,C,I,J,K⟩:=h.flist a;obtain rfl:=t.at I;exact HT h J K p o c u y z B k
  |_=>exact False.elim c
 |_=>exact False.elim c
theorem OO(h:k<n):seqIndex? (k:Int) n=some k:=by
 unfold seqIndex?;rw[if_neg (Int.not_lt.mpr (Ai k))];exact if_pos (by rw[decide_eq_true (Ai k),decide_eq_true (Int.ofNat_lt.mpr h)];rfl)
theorem Ji:∀(l:List V)(n:Nat),VP l n=l[n]?
 |[],_=>rfl
 |_::_,0=>rfl
 |_::r,n+1=>Ji r n
theorem WL(h:M5 l i=some v):∃j,seqIndex? i l.length=some j/\l[j]? =some v:=by
 cases i with
 |ofNat n=>
  have h:l[n]? =some v:=(Ji l n).symm.trans h;exact⟨n,OO (AE h).1,h⟩
 |negSucc n=>exact Option.bind_eq_some_iff.mp h
theorem Rx(h:Hw i=true):i.natAbs<2 ^ 62:=Nat.blt_eq.mp h
theorem SZ{c:Expr}{i:V}{o:Value}(g:Az X G H s)(I:B4 d A)(a:Ir v i H Φ)(m:VR G v o)(p:VR G i x)
  (q:subscripted c false o x=operate [o,x] (getItem o x)) (k:Bj X G s Φ Q) :
  wpAny (model X.prog X.w) A (subscriptTail e c o x) Q (fun J J=>False) s:=by
 cases v with
 |tup l=>
  cases i with
  |int i=>
   obtain⟨u,a⟩:=Oc a;have u:=Rx u;obtain⟨f,z,a⟩:=JS a;obtain⟨j,K,L⟩:=WL z;obtain⟨_,_,b,r⟩:=m.tup_l;obtain⟨_,rfl⟩:=p.int_l;obtain⟨y,B,C⟩:=r.get L;exact item_tupleT (g.tup _ _ b) (Int.le_trans (by decide) (Int.le_of_lt (U8 u))) (by omega) (by rw[<- r.length];exact K) B (CM k g C a) q
  |_=>exact False.elim a
 |loc n=>
  obtain⟨M,b,a⟩:=CE (show Bk _ H n from a);cases M with
  |list l=>
   obtain⟨j,f,rfl,D,E,z,a⟩:=a;obtain⟨v,P,F,h,N⟩:=g.list b;obtain rfl:=m.at F;obtain⟨_,rfl⟩:=p.int_l;obtain⟨y,B,C⟩:=N.get z;exact tail_any h.typeIs slot_list_getitem.lookup (wpAny_getItem_list h D (Int.lt_of_lt_of_le E (by decide)) (by simpa using B) (CM k g C a)) q
  |dict l=>
   obtain⟨f,D,E,a⟩:=a;obtain⟨v,F,R,h⟩:=g.dict b;obtain rfl:=m.at F;exact tail_any h.typeIs slot_dict_getitem.lookup (Rn g h D p (by have:=I.2.2;omega) E fun O t r=>BX k g _ r a) q
  |_=>exact False.elim a
 |_=>exact False.elim a
end
section
open PySem.SeqAt
open AutoSeq1 (wpAny_loadPart')
theorem IT(l b:Addr)(f i:List (Int×Tok))(n G:Nat)(H u:Option Addr)(I v:Array (Option Value)) :
  Meets (Builtin.«tuple.__lt__» ⟨[.ref l,.ref b],[]⟩)
   (fun A R s=>s.heap.get? l=some { cls:=.type "tuple",dict:=H,data:=.seq (f.map (fun p=>Value.int p.1 p.2)).toArray n,slots:=I }/\s.heap.get? b=some { cls:=.type "tuple",dict:=u,data:=.seq (i.map (fun p=>Value.int p.1 p.2)).toArray G,slots:=v } /\
    R (.ok (.ret (.bool (DY ((f.map (·.1)).map V.int) ((i.map (·.1)).map V.int))))) s):=
 .of_wp fun t w A R s h=>by
  obtain⟨z,g,d,B,os⟩:=s;obtain⟨J,K,h⟩:=h;have L:=AutoSeq1.sub_tuple_tuple;wp_walk using wpAny_loadPart' J,wpAny_loadPart' K,wpAny_forIn_list _ (fun j b C=>b.1=none/\C=⟨z,g,d,B,os⟩/\Dd fun(c a:List (Int×Tok))=>DD (j=(c.map (fun p=>Value.int p.1 p.2)).zip (a.map (fun p=>Value.int p.1 p.2))) (DY ((f.map (·.1)).map V.int) ((i.map (·.1)).map V.int)=DY ((c.map (·.1)).map V.int) ((a.map (·.1)).map V.int)) ((f.length<i.length↔c.length<a.length))) _
  case turn=>
   rintro⟨y,x⟩ j b C ⟨m,rfl,c,a,r,k,D⟩;cases c with
   |nil=>simp at r
   |cons p c=>
    cases a with
    |nil=>simp at r
    |cons q a=>
     simp only[AW,zip_cons_cons,List.cons.injEq,Prod.mk.injEq]at r;obtain⟨⟨rfl,rfl⟩,o⟩:=r;have k:_=(if p.1=q.1 then DY ((c.map (·.1)).map V.int) ((a.map (·.1)).map V.int)else decide (p.1<q.1)):=k
     refine AA (wpAny_eqBool_int ?_);by_cases e:p.1=q.1
     .rw[beq_iff_eq.mpr e];rw[if_pos e]at k;wp_walk;exact⟨rfl,rfl,c,a,o,k,by simpa using D⟩
     .rw[beq_eq_false_iff_ne.mpr e];rw[if_neg e]at k;rw[k]at h;wp_walk using(show ∀{Q:Value->Shared->Prop}{E:Value->Shared->Prop},Q (.bool (decide (p.1<q.1))) ⟨z,g,d,B,os⟩->wpAny (model t w) A.in1 (richCompare .Lt (.int p.1 p.2) (.int q.1 q.2)) Q E ⟨z,g,d,B,os⟩from fun h=>lt_int h)
      all_goals first |exact⟨_,rfl,h⟩ |exact h
  case fin=>
   rintro b C ⟨m,rfl,c,a,r,k,D⟩;have F:DY ((c.map (·.1)).map V.int) ((a.map (·.1)).map V.int)=decide (c.length<a.length):=by
    cases c with
    |nil=>cases a with
     |nil=>rfl
     |cons _ _=>exact(decide_eq_true (Nat.zero_lt_succ _)).symm
    |cons p c=>cases a with
     |nil=>exact(decide_eq_false (not_lt_zero _)).symm
     |cons q a=>simp at r
   rw[k,F]at h;rw[(decide_eq_decide.mpr D.symm:decide (c.length<a.length)=decide (f.length<i.length))]at h;obtain⟨M,b2⟩:=b;simp only at m;subst m;refine AB ⟨_,rfl,?_⟩;have:Builtin.Tuple.tupleCompareSizes .Lt (f.map (fun p=>Value.int p.1 p.2)).toArray.size (i.map (fun p=>Value.int p.1 p.2)).toArray.size=Value.bool (decide (f.length<i.length)):=by
    simp[Builtin.Tuple.tupleCompareSizes]
   rw[this];exact h
  all_goals exact⟨rfl,rfl,f,i,by rfl,rfl,Iff.rfl⟩
section
variable {d:Nat} {G:Gh} {H:Aj} {s s':Shared} {A:Around}
open Classical in
def Nh (G:Gh) (l:List V) (k:V) (y:Value):Bool:=if h:∃v,v∈l/\VR G v y then BY h.choose k else false
theorem LZ{k:V}(p:∀a∈l,Pd n a)(b:v∈l)(r:VR G v x):Nh G l k x=BY v k:=by
 have h:∃v,v∈l/\VR G v x:=⟨v,b,r⟩;unfold Nh;rw[dif_pos h];have:=h.choose_spec;rw[VR.inj (p _ this.1) this.2 r (p _ b)]
theorem Fv(p:∀a∈l,Pd n a):∀{m:List V}{b:List Value},(∀a∈m,a∈l)->BJ G m b->b.any (Nh G l v)=m.any fun u=>BY u v:=by
 intro e;induction e with
 |nil=>
  intro _ _ h;exact h.nil_l▸rfl
 |cons f g i=>
  intro _ c h;obtain⟨x,o,r,j⟩:=h.cons_l;rw[any_cons,any_cons,LZ p (c _ (.head _)) r,i (fun a k=>c a (.tail _ k)) j]
theorem IE(g:Az X G H s)(r:BJ G l a)(p:∀b∈l,Pd n b)(q:Pd k v)(h:VR G v x)(j:A.units+n<cLine) :
  ∀y,y∈a.toArray->EqAt A s y x (Nh G l v y):=fun y m=>by
 obtain⟨i,o⟩:=mem_iff_getElem?.mp (by simpa using m:y∈a);obtain⟨c,e,f⟩:=r.get' o;rw[LZ p (mem_of_getElem? e) f];exact Vy g n (p _ (mem_of_getElem? e)) q f h j
theorem Dj(h:Pd (n+1) (.tup l)):∀a∈l,Pd n a:=by cases h;assumption
theorem N7(h:IO l):∀a∈l,Pd 0 a:=by
 obtain⟨c,rfl⟩:=h;intro a b;obtain⟨x,_,rfl⟩:=AS b;exact .str _ _
theorem LO(a b:Str):(a==b)=(a.cps.toList==b.cps.toList):=by
 by_cases h:a=b
 .subst h;simp
 .rw[beq_eq_false_iff_ne.mpr h,beq_eq_false_iff_ne.mpr (fun e=>h (Ng e))]
section
variable {a b:V} {x y:Value} {Φ:Bool->Prop} {Q:Value->Shared->Prop}
theorem Tx(E:X.Ok)(m:B4 d A)(f:Az X G H s)(e:Yw a b H Φ)(g:VR G a x)(h:VR G b y)(k:∀c,Φ c->Q (.bool c) s):wpAny (model X.prog X.w) A (compareOp .Eq x y) Q (fun o o=>False) s:=by
 have F:=m.2.2;delta Yw at e;cases a with
 |int i=>
  obtain⟨i,j,_,_,e⟩:=Bo e g h;exact eq_int (k _ e)
 |str i=>
  obtain⟨i,j,_,_,e⟩:=KX e g h;rw[LO]at e;exact PySem.P.eq_str (k _ e)
 |bool i=>
  obtain⟨i,j,e⟩:=OU e g h;exact RcAt.bool_bool _ _ _ _ _ _ (k _ e)
 |tup l=>
  obtain⟨_,_,_,_,_,_,r,t,u,v,p,q,e⟩:=Gz e g h;exact YG f (f.tup _ _ r) (f.tup _ _ u) t v (Dj p) (Dj q) (by omega) _ _ _ _ (k _ e)
 |loc n=>
  obtain⟨_,_,_,_,_,_,z,B,C,D,p,q,e⟩:=JZ f e g h;exact Vk f z C B D (Dj p) (Dj q) (by omega) _ _ _ _ (k _ e)
 |_=>exact e.elim
theorem UD(E:X.Ok)(m:B4 d A)(f:Az X G H s)(e:ZD a b H Φ)(g:VR G a x)(h:VR G b y)(k:∀c,Φ c->Q (.bool c) s):wpAny (model X.prog X.w) A (compareOp .NotEq x y) Q (fun o o=>False) s:=by
 have F:=m.2.2;delta ZD at e;cases a with
 |int i=>
  obtain⟨i,j,_,_,e⟩:=Bo e g h;exact ne_int (k _ e)
 |str i=>
  obtain⟨i,j,_,_,e⟩:=KX e g h;rw[bne,LO]at e;exact PySem.P.ne_str (k _ e)
 |bool i=>
  obtain⟨i,j,e⟩:=OU e g h;exact RcNeAt.bool_bool _ _ _ _ _ _ (k _ e)
 |tup l=>
  obtain⟨_,_,_,_,_,_,r,t,u,v,p,q,e⟩:=Gz e g h;exact T1 f (f.tup _ _ r) (f.tup _ _ u) t v (Dj p) (Dj q) (by omega) _ _ _ _ (k _ e)
 |loc n=>
  obtain⟨_,_,_,_,_,_,z,B,C,D,p,q,e⟩:=JZ f e g h;exact Q6 f z C B D (Dj p) (Dj q) (by omega) _ _ _ _ (k _ e)
 |_=>exact e.elim
theorem OP(h:XG a b H Φ):∃n,b=.loc n/\((∃l,H[n]? =some (.list l)/\Pd 20 (.tup (a::l))/\Φ (l.any fun u=>BY u a))\/∃l,H[n]? =some (.dict l)/\Pd 8 a/\Φ (BI l a).isSome):=by
 cases b with
 |loc n=>
  refine⟨n,rfl,?_⟩;obtain⟨o,e,h⟩:=CE (show Bk _ H n from h);cases o with
  |list l=>exact .inl ⟨l,e,h⟩
  |dict l=>exact .inr ⟨l,e,h⟩
  |_=>exact False.elim h
 |_=>exact False.elim h
end
theorem Yx{b:V}(a:¬ ∃l,b=.tup l)(c:IW .In v b H i4):XG v b H i4:=by
 cases b<;>first |exact c |exact absurd ⟨_,rfl⟩ a
theorem KD{M:CmpOp}{b:V}{y:Value}(K:X.Ok)(N:B4 d A)(f:Az X G H s)(a:IW M v b H i4)(o:VR G v x)(q:VR G b y)
  (k:∀c t,i4 c->Q (.bool c) { s with toks:=t }):wpAny (model X.prog X.w) A (compareOp M x y) Q (fun zz zz=>False) s:=by
 have hu:=N.2.2;have r:∀c,i4 c->Q (.bool c) s:=fun c h=>k c s.toks h;cases M with
 |Eq=>exact Tx K N f a o q r
 |NotEq=>exact UD K N f a o q r
 |Lt=>
  cases v with
  |int i=>
   obtain⟨i,j,_,_,a⟩:=Bo (show i2 (fun i j=>i4 (decide (i<j))) (.int i) b from a) o q;exact lt_int (r _ a)
  |tup l=>
   obtain⟨_,_,_,_,_,_,e1,r1,O,L,⟨is,rfl⟩,⟨js,rfl⟩,_,ψ⟩:=Gz (show t2 (fun l m=>KP l/\KP m/\l.length=m.length/\i4 (DY l m)) (.tup l) b from a) o q
   .obtain⟨xs,rfl,rfl⟩:=EW r1;obtain⟨ys,rfl,rfl⟩:=EW L;obtain⟨⟨b0,dd,W,sl⟩,Y,Z,n,hd⟩:=f.tup _ _ e1;obtain⟨⟨a0,P,data2,R⟩,B,C,n2,E⟩:=f.tup _ _ O;simp only at Z hd C E;subst Z hd C E;exact richCompare_meets_room (op:=.Lt) ⟨_,Y,rfl⟩ ⟨_,B,rfl⟩ F.slot_tuple_lt F.entry_tuple_lt (F.args_tuple_lt_2 _ _) (IT _ _ xs ys n n2 dd P sl R) ⟨Y,B,(fun z=>nomatch z),r _ ψ⟩ (by omega)
  |_=>exact a.elim
 |Gt=>
  obtain⟨i,j,_,_,a⟩:=Bo (show i2 (fun i j=>i4 (decide (j<i))) v b from a) o q;exact gt_int (r _ a)
 |LtE=>
  obtain⟨i,j,_,_,a⟩:=Bo (show i2 (fun i j=>i4 (decide (i<=j))) v b from a) o q;exact le_int (r _ a)
 |In=>
  by_cases hb:∃l,b=.tup l
  .obtain⟨l,rfl⟩:=hb;obtain⟨p,⟨z,rfl⟩,a⟩:=a;obtain⟨_,_,O,L⟩:=q.tup_l
   .refine in_tupleAt _ (f.tup _ _ O) (IE (A:=A.in1) f L (N7 p) (.str 0 z) o (by show A.units+1+0<cLine;omega)) ?_;rw[any_toArray,Fv (N7 p) (fun v g=>g) L];exact r _ a
  .have a:=Yx hb a;obtain⟨n,rfl,⟨l,e,p,a⟩ |⟨l,e,p,a⟩⟩:=OP a
   .obtain⟨a2,ws,S,T,I⟩:=f.list e;obtain rfl:=q.at S;have u:=Dj p;refine in_listAt _ T (IE (A:=A.in1) f I (fun v g=>u v (.tail _ g)) (u _ (.head _)) o (by show A.units+1+19<cLine;omega)) ?_;rw[any_toArray,Fv (fun v g=>u v (.tail _ g)) (fun v g=>g) I];exact r _ a
   .obtain⟨D,J,f0,U⟩:=f.dict e;obtain rfl:=q.at J;exact AA (Iw f (f.notMod K (.inl ⟨_,J⟩)) U p o (by omega) fun t=>AB (k _ t a))
 |NotIn=>
  have a:XG v b H fun c=>i4 !c:=a;obtain⟨n,rfl,⟨l,e,p,a⟩ |⟨l,e,p,a⟩⟩:=OP a
  .obtain⟨a2,ws,S,T,I⟩:=f.list e;obtain rfl:=q.at S;have u:=Dj p;refine notIn_listAt _ T (IE (A:=A.in1) f I (fun v g=>u v (.tail _ g)) (u _ (.head _)) o (by show A.units+1+19<cLine;omega)) ?_;rw[any_toArray,Fv (fun v g=>u v (.tail _ g)) (fun v g=>g) I];exact r _ a
  .obtain⟨D,J,f0,U⟩:=f.dict e;obtain rfl:=q.at J;exact AA (Iw f (f.notMod K (.inl ⟨_,J⟩)) U p o (by omega) fun t=>AB (k _ t a))
 |_=>exact a.elim
end
end
section
open Builtin Builtin.ObjectAttr
theorem I5(h:Dw f y=true):Cf f=true:=by
 unfold Dw at h;unfold Cf;rw[any_eq_true]at h⊢;obtain⟨p,b,a⟩:=h;simp only[and_eq_true]at a;exact⟨p,b,a.1⟩
theorem HD{e:DictEntry}{x:Str}{t:Tok}(h:e.key=.str y t):e.key.isStr x=(y==x)/\e.refKey=false:=by
 unfold DictEntry.refKey;rw[h];exact⟨rfl,rfl⟩
theorem LQ(x y:Str):(y==x)=(x==y):=by
 by_cases h:x=y
 .rw[h]
 .rw[beq_eq_false_iff_ne.mpr h,beq_eq_false_iff_ne.mpr (Ne.symm h)]
theorem UK(r:ML G o u):o.lookup y=some v->∃e,u.find? (·.key.isStr y)=some e/\VR G v e.val:=by
 induction r with
 |nil=>exact fun h=>Gi h
 | @cons b t k e o u a d r f=>
  intro h;have a:=(HD (x:=y) a).1;rw[LQ]at a;rw[lookup_cons]at h;cases c:y==b with
  |true=>
   rw[c]at h a;exact⟨e,List.find?_cons_of_pos a,Option.some.inj h▸d⟩
  |false=>
   rw[c]at h a;obtain⟨g,i,j⟩:=f h;exact⟨g,(find?_cons_of_neg (by rw[a];exact AN)).trans i,j⟩
theorem UC(r:ML G o u):o.lookup y=none->u.find? (·.key.isStr y)=none/\u.any (·.refKey)=false:=by
 induction r with
 |nil=>exact fun j=>⟨rfl,rfl⟩
 | @cons b t k e o u a l r f=>
  intro h;have c:=(HD (x:=y) a).2;have a:=(HD (x:=y) a).1;rw[LQ]at a;rw[lookup_cons]at h;cases d:y==b with
  |true=>rw[d]at h;exact Gi h.symm
  |false=>
   rw[d]at h a;obtain⟨g,i⟩:=f h;exact⟨(find?_cons_of_neg (by rw[a];exact AN)).trans g,by rw[any_cons,i,Bool.or_false];exact c⟩
theorem O1(r:ML G o u):u.any (·.refKey)=false:=by
 induction r with
 |nil=>rfl
 |cons a c r b=>rw[any_cons,b,Bool.or_false];exact(HD (x:=default) a).2
set_option tactic.hygienic true in
theorem Vf{x:Str}{t:Tok}{a:Value}{hs:Int}(g:VR G v a)(r:ML G o u) :
  ML G (B3 o x v) (match u.findIdx? (·.key.isStr x)with |some i=>u.modify i fun e=>{ e with val:=a } |none=>u++[⟨hs,.str x t,a⟩]):=by
 induction r with
 |nil=>exact .cons rfl g .nil
 | @cons y j k e o u c b r d=>
  rw[findIdx?_cons,(HD c).1,SD];by_cases f:(y==x)=true
  .rw[if_pos f,if_pos f];exact .cons c g r
  .rw[if_neg f,if_neg f];cases h:(u.findIdx? (·.key.isStr x));rotate_left
   .rename_i i;rw[h]at d;exact .cons c b d
   .rw[h]at d;exact .cons c b d
set_option tactic.hygienic true in
theorem Th{x:Str}{t:Tok}{b:Value}{hs:Int}{d:Obj}(f:VR G v b)(hd:d.data=.dict u4 k)(r:ML G o u4.toList) :
  Dd fun a g=>DD ((putName x hs (.str x t) b d).data=.dict a g) (ML G (B3 o x v) a.toList) (a.size<=u4.size+1):=by
 obtain⟨c,j,m,n⟩:=d;simp only at hd;subst hd;have:=Vf (x:=x) (t:=t) (hs:=hs) f r;rw[Obj.putName_eq];simp only[Obj.putNameByArray];cases h:(u4.findIdx? (·.key.isStr x));rotate_left
 .rename_i i;have e:u4.toList.findIdx? (·.key.isStr x)=some i:=by rw[<- h];obtain⟨l⟩:=u4;simp
  rw[e]at this;refine⟨_,_,rfl,?_,by simp⟩;obtain⟨l⟩:=u4;simpa using this
 .have e:u4.toList.findIdx? (·.key.isStr x)=none:=by rw[<- h];obtain⟨l⟩:=u4;simp
  rw[e]at this;refine⟨_,_,rfl,?_,by simp⟩;obtain⟨l⟩:=u4;simpa using this
theorem QU(r:VR G v x):handedIn x=true:=VR.casesOn (motive_1:=fun a x a=>handedIn x=true) r rfl (fun a=>rfl) (fun a a=>rfl) (fun a a=>rfl) (fun a a=>rfl) (fun a=>rfl) (fun a=>rfl)
section
variable {d:Nat} {G:Gh} {H:Aj} {s s':Shared} {Φ:V->Aj->Prop} {Q:Value->Shared->Prop} {A:Around}
inductive ZV(X:Cx)(G:Gh)(h:Heap)(n:Nat)(c:String)(e:List (Str×V)):Prop
 |mk (a b:Addr) (o:Obj) (f:Array DictEntry) (k:Nat):G.loc n=some a->G.aux n=some b->InstAt h a (instObj (X.cls c) b) (X.cls c) (some o)->h.get? b=some o->o.data=.dict f k->ML G e f.toList->ZV X G h n c e
theorem Az.inst(g:Az X G H s)(e:H[n]? =some (.inst f o)):ZV X G s.heap n f o:=by
 obtain⟨a,h,b,i,k,j,l,m,c,p,q⟩:=g.loc n _ e;exact⟨a,h,b,i,k,j,l,⟨m,rfl,rfl,c⟩,c,p,q⟩
theorem Az.kin(a:Az X G H s)(c:X.Ok):X.K.In s.heap:=fun b o e=>a.base b o (c.kin b o e)
theorem TL(b:L8 v y H Φ):Vn fun n c f a=>QZ (v=.loc n) (H[n]? =some (.inst c f)) (Dw c y=true) (f.lookup y=some a) (Φ a H):=by
 cases v with
 |loc n=>
  obtain⟨g,e,b⟩:=CE (show Bk _ H n from b);cases g with
  |inst c f=>
   obtain⟨h,b⟩:=Oc b;obtain⟨a,i,b⟩:=JS b;exact⟨n,c,f,a,rfl,e,h,i,b⟩
  |_=>exact False.elim b
 |_=>exact False.elim b
theorem Rt{a:Bool}(l:X.Ok)(b:∀c,Cf c=true->N0 X c)(f:Az X G H s)(m:L8 v y H Φ)(r:VR G v x)(k:Bj X G s Φ Q) :
  wpAny (model X.prog X.w) A (getAttr x y a) Q (fun o o=>False) s:=by
 obtain⟨n,c,I,h,rfl,e,i,p,g⟩:=TL m;obtain⟨J,K,q,L,kk,t,M,u,N,z,B⟩:=f.inst e;obtain rfl:=r.at t;have C:=b c (I5 i);obtain⟨D,E,j⟩:=UK B p;have F:lookIn y q=some (some D.val):=by
  unfold lookIn;rw[z];dsimp only;rw[E]
 exact get_value (f.kin l) u C.ga (findObj_own C.hasD (C.fld y i) rfl F) (QU j) (BX k f _ j g)
theorem NV{p:String}{g:Sem Bool}{Q:Value×List Value->Shared->Prop}(h:X.Ok)(a:∀f,Cf f=true->N0 X f)(b:Az X G H s)(e:H[n]? =some (.inst f o))
  (i:Cf f=true) (j:o.lookup y=none) (c:Fl f y=some p) (r:VR G (.loc n) x) (k:Q (.ref (X.fn p),[x]) s):wpAny (model X.prog X.w) A (getMethod x y g) Q (fun l l=>False) s:=by
 obtain⟨E,F,m,I,kk,q,J,t,K,u,v⟩:=b.inst e;obtain rfl:=r.at q;have C:=a f i;obtain⟨z,B⟩:=UC v j;have D:lookIn y m=some none:=by
  unfold lookIn;rw[u];dsimp only;rw[z];rw[B];rfl
 refine method_fn (b.kin h) t C.ga C.gat (C.met y p c).1 (C.met y p c).2 ?_ k;unfold shadowIn;simp only[D,map_some,Option.isSome_none]
theorem NJ{a:V}(b:DH a y v H K):Ks fun n c f=>QZ (a=.loc n) (H[n]? =some (.inst c f)) (Dw c y=true) (f.length<100) (K (H.set n (.inst c (B3 f y v)))):=by
 cases a with
 |loc n=>
  obtain⟨h,e,b⟩:=CE (show Bk _ H n from b);cases h with
  |inst c f=>
   obtain⟨g,b⟩:=Oc b;have g:=Aa g;exact⟨n,c,f,rfl,e,g.1,Nat.blt_eq.mp g.2,b⟩
  |_=>exact False.elim b
 |_=>exact False.elim b
theorem K3{a:V}{f:Value}{k:Aj->Prop}(ok:X.Ok)(B:∀c,Cf c=true->N0 X c)(m:Az X G H s)(φ:DH a y v H k)(r:VR G a x)(rv:VR G v f)
  (hQ:∀U s',At G Cs s G s'->Az X G U s'->k U->g () s'):wpAny (model X.prog X.w) A (setAttr x y f) g (fun zz zz=>False) s:=by
 obtain⟨n,c,fs,rfl,e,W,D,E⟩:=NJ φ;obtain⟨F,j,od,es,kk,I,o,u,z,J,L⟩:=m.inst e;obtain rfl:=r.at I;have C:=B c (I5 W);have M:=m.kin ok;refine set_plain M u C.sa ?_;have ht:takerIn X.K (X.cls c) y=some none:=by
  unfold takerIn;rw[C.fld y W];rfl
 refine osa_open (s:={ s with toks:=s.toks+1 }) M u C.over ht fun b=>?_;obtain⟨cd,hc,N⟩:=any_some C.hasD;have O:X.K.In ({ s with toks:=s.toks+1 }:Shared).heap:=M;refine AA (AB (AA (AA (wpAny_loadPart u.at_ (AA ((looks_clsIn O hc).here ?_))))));rw[N];refine AB (a:=some j) (AA (AB (AA ?_)));refine AA (AA (wpAny_askSetting (AB (AA (wpAny_mkText (AA (wpAny_loadPart z ?_)))))));rw[J];dsimp only;have cc:(!es.any (·.key.isStr y)&&es.any (·.refKey))=false:=by
  rw[<- any_toList (p:=fun e:DictEntry=>e.refKey),O1 L,Bool.and_false]
 rw[aRefKeyMayBeTheName_at,cc];refine wpAny_updatePart z ?_;obtain⟨l,k',P,p2,p3⟩:=Th (x:=y) (t:=s.toks+1) (hs:=PyData.keyHash X.w.params y) rv J L;have hz:l.size<=sizeLine+1:=by
  have:=L.length;simp at this;rw[sizeLine_eq];omega
 have R:=get?_update_self (h:=s.heap) (putName y (PyData.keyHash X.w.params y) (.str y (s.toks+1)) f) z (Obj.isFreed_of_dict P);refine AA (wpAny_lookBehind (s:={ s with heap:=_,toks:=s.toks+1+1 }) R (by rw[P];exact pastItsLine_dict hz) ?_);have i:∀b S,b≠j->s.heap.get? b=some S->(s.heap.update j (putName y (PyData.keyHash X.w.params y) (.str y (s.toks+1)) f)).get? b=some S:=fun b S hb e'=>(get?_update_other _ _ (Ne.symm hb)).trans e';have T:∀Y,¬s.heap.IsTuple j Y:=by
  rintro Y ⟨o',Z,g2,_,g3⟩;rw[z]at Z;cases Z;rw[J]at g3;cases g3
 refine AB ?_;refine hQ (H.set _ (.inst c (B3 fs y v))) _ (.upd (c:=j) (.inr ⟨_,o⟩) ⟨_,_,rfl⟩ i ⟨_,R⟩) (m.upd (Du e) (.inr o) T i ?_) E;exact⟨F,j,_,l,k',I,o,i F _ (fun q=>m.apart _ _ F I (q▸o)) u.at_,R,P,p2⟩
end
end
section
variable {d:Nat} {G:Gh} {H:Aj} {sc:List (Str×NameKind)} {ρ:BA} {env:Env} {own:Addr->Prop} {s s':Shared} {Φ:V->Aj->Prop} {Q:Value->Shared->Prop} {A:Around}
theorem Ns.notTup(x:h.Ns b u5):∀a,¬h.IsTuple b a:=by
 rintro a ⟨i,c,j,n,e⟩;obtain⟨o,k,ep,f,g,_⟩:=x;rw[f]at c;cases c;rw[g]at e;cases e
theorem IsCell.notTup(x:h.IsCell b c7):∀a,¬h.IsTuple b a:=by
 rintro a ⟨i,c,j,n,e⟩;obtain⟨o,f,g⟩:=x;rw[f]at c;cases c;rw[g]at e;cases e
def Cg(x:Str):Bool:=x != ofString "__debug__" &&x != ofString "__classdict__" &&x != ofString "__name__"
theorem HL(h:(i6.1==y)=true):Ck (i6::E) y v=(i6.1,some v)::E:=if_pos h
theorem EE{p:Str×Option V}(h:¬(p.1==y)=true):Ck (p::E) y v=p::Ck E y v:=if_neg h
theorem Wk(h:y=i6.1):lk (i6::E) y=some i6.2:=by
 show(i6::E).lookup y=_;rw[lookup_cons,beq_iff_eq.mpr h]
theorem Ss{p:Str×Option V}(h:y≠p.1):lk (p::E) y=lk E y:=by
 show(p::E).lookup y=_;rw[lookup_cons,beq_eq_false_iff_ne.mpr h];rfl
theorem Dg{x:Str}:(lk E x).isSome=true->lk (Ck E x v) y=if y=x then some (some v)else lk E y:=by
 induction E with
 |nil=>exact fun h=>nomatch h
 |cons p r ih=>
  intro h;by_cases e:(p.1==x)=true
  .have e':=eq_of_beq e;rw[HL e];by_cases h2:y=x
   .rw[if_pos h2];exact Wk (h2.trans e'.symm)
   .rw[if_neg h2,Ss (p:=(p.1,some v)) fun q=>h2 (q.trans e'),Ss fun q=>h2 (q.trans e')]
  .have e':x≠p.1:=fun q=>e (beq_iff_eq.mpr q.symm);rw[EE e];rw[Ss e']at h;by_cases h2:y=p.1
   .rw[Wk h2,Wk h2,if_neg fun q=>e' (q.symm.trans h2)]
   .rw[Ss h2,Ss h2];exact ih h
set_option tactic.hygienic true in
theorem Ef{x:Str}(h:(lk E x).isSome=true):(lk (Ck E x v) y).isSome=(lk E y).isSome:=by
 rw[Dg h]
 split
 .rename_i e;subst e;rw[h];rfl
 .rfl
theorem KC(j:Cg y=true)(st:St X G H sc ρ env own s)(h:sc.lookup y=some .local\/sc.lookup y=some .cell\/sc.lookup y=some .free)(l:lk ρ y=some (some v))
  (k:∀a,VR G v a->Q a s):wpAny (model X.prog X.w) A (loadName env y) Q (fun o o=>False) s:=by
 simp only[Cg,and_eq_true,bne_iff_ne,ne_eq]at j;rcases h with h |h |h
 .obtain⟨m,p,q⟩:=st.f.ns;obtain⟨a,e,r⟩:=q y v l h;exact wpAny_loadName_local st.f.kind (st.f.kl y h) p e (k a r)
 all_goals
  obtain⟨b,c,t,n,g,i⟩:=st.f.cell y (by first |exact .inl h |exact .inr h)
  obtain⟨a,rfl,r⟩:=i v l;rcases b with b |b
  .exact wpAny_loadName_cell st.f.kind b n g (k a r)
  .exact wpAny_loadName_free st.f.kind b n g (k a r) (beq_eq_false_iff_ne.mpr j.1.2)
theorem SO{pos:Pos}(all:X.All)(m:Cg y=true)(a:GX sc y ρ H Φ):DW X d sc (eval (.Name y pos)) ρ H Φ:=by
 intro A G env own s z st Q k;have c:=m;simp only[Cg,and_eq_true,bne_iff_ne,ne_eq]at c;have hd:(y==("__debug__":Str))=false:=beq_eq_false_iff_ne.mpr c.1.1;obtain⟨kk,j,a⟩:=JS (show ov (sc.lookup y) _ from a);have lo:sc.lookup y=some .local\/sc.lookup y=some .cell\/sc.lookup y=some .free->ov (lk ρ y).join (fun v=>Φ v H)->wpAny (model X.prog X.w) A (eval (.Name y pos) env) Q (fun q q=>False) s:=fun u a=>by
  obtain⟨v,i,a⟩:=JS a;exact wpAny_Name (KC m st u (Option.join_eq_some_iff.mp i) fun val r=>k G H v val s (.refl ..) st.h r a) hd
 cases kk with
 | «local» =>exact lo (.inl j) a
 |cell=>exact lo (.inr (.inl j)) a
 |free=>exact lo (.inr (.inr j)) a
 |globalExplicit=>exact a.elim
 |globalImplicit=>
  refine Name_function_global st.f.kind (st.f.kg y j) ?_ hd;have n:s.heap.Ns env.globals X.mg:=by rw[st.f.glob];exact all.ok.g.at' fun o e=>st.h.base _ _ e
  have a:Zd (gv y) H Φ:=a;refine CK (gv y) (fun i=>?_) fun g i=>?_
  .rw[i]at a;exact a.elim
  .rw[i]at a;have l:=all.g y _ i;cases g with
   |val v=>
    obtain⟨val,e,r⟩:=l;exact loadGlobal_global n e (k G H _ _ _ (.refl ..) st.h (r G st.h.gtup) a)
   |bi b=>
    obtain⟨t,p,a⟩:=JS (show ov (Qd b) _ from a);have x:s.heap.Ns env.builtins X.mb:=by rw[st.f.bi];exact all.ok.b.at' fun o e=>st.h.base _ _ e
    refine loadGlobal_builtin n l.1 x ((all.ok.builtins y c.2).trans l.2) (k G H (.ty t) _ _ (.refl ..) st.h ?_ a);cases b<;>first |exact Gi p |(obtain rfl:=Option.some.inj p;exact .ty _)
   |_=>exact a.elim
theorem Oh{k:BA->Prop}(st:St X G H sc ρ env own s)(U:EO sc y v ρ k)(r:VR G v x)
  (hQ:∀M s',At G own s G s'->St X G H sc M env own s'->k M->g () s'):wpAny (model X.prog X.w) A (storeName env y x) g (fun zz zz=>False) s:=by
 obtain⟨B,N,U⟩:=KZ U;rcases B with B |B
 .obtain⟨m,V,Y⟩:=st.f.ns;have hp:(env.scope.kind==.class||(env.scope.kind==.module&&env.locals != env.globals))=false:=by rw[st.f.kind];rfl
  refine wpAny_storeName_local (st.f.kl y B) V (fun C O L=>?_) hp;have j:∀b o,b≠env.locals->s.heap.get? b=some o->C.get? b=some o:=fun b o q e=>(L.2 b q).trans e;obtain⟨Z,o2,o3⟩:=st.f.ownOff _ st.f.ownL;have D:Az X G H { s with heap:=C,toks:=s.toks+1 }:=st.h.priv ⟨o2,Z,o3⟩ (Ns.notTup V) j;have alive:∀b o,s.heap.get? b=some o->∃E,C.get? b=some E:=fun b o e=>by
   by_cases q:b=env.locals
   .obtain⟨E,es,ep,e',_⟩:=O;exact⟨E,q▸e'⟩
   .exact⟨o,j b o q e⟩
  refine hQ (Ck ρ y v) _ ⟨.refl G,⟨rfl,rfl⟩,fun b o e n1 n2=>j b o (fun q=>n2 (q▸st.f.ownL)) e,fun b a=>.inl a,alive⟩ ⟨D,?_⟩ U;exact{
   kind:=st.f.kind
   glob:=st.f.glob
   bi:=st.f.bi
   ns:=⟨_,O,fun a u e k=>by
    rw[Dg N]at e;by_cases q:a=y
    .rw[if_pos q]at e⊢;cases e;exact⟨x,rfl,r⟩
    .rw[if_neg q]at e⊢;exact Y a u e k⟩
   ownL:=st.f.ownL
   kl:=st.f.kl
   kg:=st.f.kg
   cell:=fun a k=>by
    obtain⟨kk,c,vo,n,i,hv⟩:=st.f.cell a k;refine⟨kk,c,vo,n,i.sameBut L ((st.f.cellOff a c n).ne),fun u e=>hv u ?_⟩;rw[Dg N,if_neg (fun q=>by subst q;rcases k with k |k<;>rw[B]at k<;>cases k)]at e
    exact e
   ownC:=st.f.ownC
   cinj:=st.f.cinj
   ownOff:=fun b hb=>by
    obtain⟨F,I,o,J⟩:=st.f.ownOff b hb;exact⟨F,I,alive b o J⟩
   cellOff:=fun a c n=>by
    obtain⟨F,I,o,J⟩:=st.f.cellOff a c n;exact⟨F,I,alive c o J⟩ }
 .obtain⟨kk,c,vo,n,i,hv⟩:=st.f.cell y (.inl B);obtain⟨K,P⟩:=st.f.ownC y B;have R:=P c n;refine wpAny_storeName_cell st.f.kind K n i fun C t L=>?_;have j:∀b o,b≠c->s.heap.get? b=some o->C.get? b=some o:=fun b o q e=>(L.2 b q).trans e;obtain⟨Z,o2,o3⟩:=st.f.ownOff _ R;have D:Az X G H { s with heap:=C }:=st.h.priv ⟨o2,Z,o3⟩ (IsCell.notTup i) j;have alive:∀b o,s.heap.get? b=some o->∃E,C.get? b=some E:=fun b o e=>by
   by_cases q:b=c
   .obtain⟨E,e',_⟩:=t;exact⟨E,q▸e'⟩
   .exact⟨o,j b o q e⟩
  refine hQ (Ck ρ y v) _ ⟨.refl G,⟨rfl,rfl⟩,fun b o e n1 n2=>j b o (fun q=>n2 (q▸R)) e,fun b a=>.inl a,alive⟩ ⟨D,?_⟩ U;exact{
   kind:=st.f.kind
   glob:=st.f.glob
   bi:=st.f.bi
   ns:=by
    obtain⟨m,V,Y⟩:=st.f.ns;refine⟨m,V.sameBut L (fun q=>(st.f.cellOff y c n).ne q.symm),fun a u e k=>Y a u ?_ k⟩;rw[Dg N,if_neg (fun q=>by subst q;rw[B]at k;cases k)]at e;exact e
   ownL:=st.f.ownL
   kl:=st.f.kl
   kg:=st.f.kg
   cell:=fun a k=>by
    obtain⟨S,W,a0,l,p,T⟩:=st.f.cell a k;by_cases q:a=y
    .subst q;rw[n]at l;cases l;refine⟨S,c,some x,n,t,fun u e=>?_⟩;rw[Dg N,if_pos rfl]at e;cases e;exact⟨x,rfl,r⟩
    .refine⟨S,W,a0,l,p.sameBut L (fun z=>q (st.f.cinj a y c (z▸l) n)),fun u e=>T u ?_⟩;rw[Dg N,if_neg q]at e;exact e
   ownC:=st.f.ownC
   cinj:=st.f.cinj
   ownOff:=fun b hb=>by
    obtain⟨F,I,o,J⟩:=st.f.ownOff b hb;exact⟨F,I,alive b o J⟩
   cellOff:=fun a W t=>by
    obtain⟨F,I,o,J⟩:=st.f.cellOff a W t;exact⟨F,I,alive W o J⟩ }
end
theorem EG(d:Nat)(h:n<j1.size):j1.getD n d=j1[n]:=by
 unfold getD;rw[dif_pos h];rfl
theorem MA(h:Lb j1)(b:k<j1.size)(a:n<k):j1.getD n 0<j1.getD k 0:=by
 have c:n<j1.size:=AV a b;rw[EG 0 c,EG 0 b];exact List.pairwise_iff_getElem.mp h n k (c) (by simpa using b) a
theorem Ql(h:Lb j1)(a:Nat):∀(lo b:Nat),lo<=b->b<=j1.size->b-lo<=a->(∀k,k<lo->j1.getD k 0<n)->(∀k,b<=k->k<j1.size->n<=j1.getD k 0) ->
  (∀k,k<SetTable.below.go j1 n a lo b->j1.getD k 0<n)/\(∀k,SetTable.below.go j1 n a lo b<=k->k<j1.size->n<=j1.getD k 0)/\SetTable.below.go j1 n a lo b<=j1.size:=by
 induction a with
 |zero=>
  intro lo b p i j l m;cases le_antisymm p (le_of_sub_eq_zero (Nat.eq_zero_of_le_zero j));exact⟨l,m,i⟩
 |succ a t=>
  intro lo b p i j l m;by_cases q:lo<b
  .have d:(lo+b) / 2<b:=Nat.div_lt_of_lt_mul (by rw[Nat.two_mul];exact add_lt_add_right q b);have f:lo<=(lo+b) / 2:=(Nat.le_div_iff_mul_le (by decide)).mpr (by rw[mul_two];exact AO (AR q) lo);have e:SetTable.below.go j1 n (a+1) lo b=if j1.getD ((lo+b) / 2) n<n then SetTable.below.go j1 n a ((lo+b) / 2+1) b else SetTable.below.go j1 n a lo ((lo+b) / 2):=if_pos q
   rw[e];generalize(lo+b) / 2=c at d f⊢;have o:=AK d i;rw[EG n o,<- EG 0 o];by_cases g:j1.getD c 0<n
   .rw[if_pos g];refine t _ b d i (le_of_lt_succ (AK (Nat.sub_lt_sub_left q (lt_succ_of_le f)) j)) (fun k r=>?_) m;rcases Nat.eq_or_lt_of_le (le_of_lt_succ r)with e |e
    .rw[e];exact g
    .exact AV (MA h o e) g
   .rw[if_neg g];refine t lo _ f (AR o) (le_of_lt_succ (AK (Nat.sub_lt_sub_right f d) j)) l (fun k r s=>?_);rcases Nat.eq_or_lt_of_le r with e |e
    .rw[<- e];exact Nat.not_lt.mp g
    .exact AR (AH (Nat.not_lt.mp g) (MA h s e))
  .cases le_antisymm p (Nat.not_lt.mp q);rw[show SetTable.below.go j1 n (a+1) lo lo=lo from if_neg q];exact⟨l,m,i⟩
theorem Li{j:Nat}(h:Lb j1):(∀k,k<SetTable.below j1 j->j1.getD k 0<j)/\(∀k,SetTable.below j1 j<=k->k<j1.size->j<=j1.getD k 0)/\SetTable.below j1 j<=j1.size:=
 Ql h j1.size 0 j1.size (zero_le _) (AM _) (AM _) (fun a q=>absurd q (not_lt_zero _)) fun a q b=>absurd b (Nat.not_lt.mpr q)
theorem PE(h:Lb j1)(g:j1[SetTable.below j1 n]?≠some n):Lb (SetTable.insertAt j1 (SetTable.below j1 n) n):=by
 obtain⟨l,b2,q⟩:=Li (j:=n) h;unfold Lb at h⊢;rw[SetTable.toList_insertAt];generalize SetTable.below j1 n=p at l b2 q g⊢;have lo:∀a∈j1.toList.take p,a<n:=fun a c=>by
  obtain⟨k,d,rfl⟩:=List.mem_iff_getElem.mp c;rw[length_take,length_toList]at d;have:=l k (AK d (Nat.min_le_left _ _));rw[EG 0 (AK d (min_le_right _ _))]at this;rw[List.getElem_take];exact this
 have m:∀a∈j1.toList.drop p,n<a:=fun a c=>by
  obtain⟨k,d,rfl⟩:=List.mem_iff_getElem.mp c;rw[length_drop,length_toList]at d;have f:p+k<j1.size:=by rw[Nat.add_comm];exact Nat.add_lt_of_lt_sub d
  rw[List.getElem_drop];show n<j1[p+k];rw[<- EG 0 f];cases k with
  |zero=>exact lt_of_le_of_ne (b2 p (AM _) f) fun e=>g ((Array.getElem?_eq_getElem (i:=p) f).trans (congrArg some ((EG 0 f).symm.trans e.symm)))
  |succ k=>
   have o:p<p+(k+1):=lt_add_of_pos_right (succ_pos k);exact AH (b2 p (AM _) (AV o f)) (MA h f o)
 refine List.pairwise_append.mpr ⟨h.sublist (List.take_sublist _ _),List.pairwise_cons.mpr ⟨m,h.sublist (List.drop_sublist _ _)⟩,fun a c b hb=>?_⟩;rcases Ae hb with rfl |hb
 .exact lo a c
 .exact AV (lo a c) (m b hb)
theorem Fg(n:Nat):Lb (Array.range n):=by
 unfold Lb;rw[Array.toList_range];exact List.pairwise_lt_range
theorem QD(h:∀i,O.slot n≠.live i):O.place[SetTable.below O.place n]?≠some n:=fun e=>by
 unfold SetTable.slot at h;dsimp only at h;rw[e]at h;simp at h
theorem Iu(t:SetTable)(p:SetTable.Probe):(t.advance p).dummy=p.dummy:=by
 unfold SetTable.advance
 split<;>rfl
theorem YX{p:SetTable.Probe}{o:SetTable.Slot}(q:O.slot p.j=o):SetTable.probe.go O q7 i (n+1) p=(o.rec (some (.empty p.j p.dummy)) (SetTable.probe.go O q7 i n (O.advance { p with dummy:=some p.j })) (fun a=>if q7 a==i then some (.candidate p.j a (O.advance p))else SetTable.probe.go O q7 i n (O.advance p)):Option SetTable.Met):=by subst q;kernel_rfl
theorem Q9(c:Nat):∀(p:SetTable.Probe)(j:Nat)(d:Option Nat),(∀d,p.dummy=some d->∀a,O.slot d≠.live a)->SetTable.probe.go O q7 i c p=some (.empty j d)->∀a,O.slot (d.getD j)≠.live a:=by
 induction c with
 |zero=>exact fun f f f f e=>nomatch (show(none:Option SetTable.Met)=_ from e)
 |succ c g=>
  intro p j d h e;cases q:O.slot p.j with
  |empty=>
   obtain⟨m,n⟩:=SetTable.Met.empty.inj (Option.some.inj ((YX q).symm.trans e));subst m;subst n;intro a;refine CK p.dummy (fun k=>?_) fun d k=>?_
   .show O.slot p.j≠_;rw[q];exact fun z=>by cases z
   .exact h d k a
  |dummy=>
   refine g _ j d (fun l b a=>?_) ((YX q).symm.trans e);rw[Iu]at b;injection b with b;subst b;rw[q];exact fun z=>by cases z
  |live a=>
   have e:(if q7 a==i then some (.candidate p.j a (O.advance p))else SetTable.probe.go O q7 i c (O.advance p))=some _:=(YX q).symm.trans e
   by_cases z:(q7 a==i)=true
   .rw[if_pos z]at e;cases e
   .rw[if_neg z]at e;exact g _ j d (fun l b=>h l (by rw[Iu]at b;exact b)) e
theorem O2(e:O.freeSlot i=some (n,s)):O.place[SetTable.below O.place n]?≠some n:=by
 have b:O.freeSlot i=none->O.place[SetTable.below O.place n]?≠some n:=fun z=>nomatch z.symm.trans e;cases q:O.probe (fun h=>i+1) i (O.probeStart i)with
 |none=>exact b (by unfold freeSlot;rw[q])
 |some m=>
  cases m with
  |empty c d=>
   have f:O.freeSlot i=some (d.getD c,d.isSome):=by unfold freeSlot;rw[q]
   rw[<- (Prod.mk.inj (Option.some.inj (f.symm.trans e))).1];exact QD (Q9 _ _ _ _ (fun g a=>nomatch (show none=some g from a)) q)
  |candidate=>exact b (by unfold freeSlot;rw[q])
theorem Xl{t:SetTable}(u:Lb t.place):Lb (t.orStandIn n).place/\(t.orStandIn n).led=t.led:=by
 unfold SetTable.orStandIn
 split
 .exact⟨u,rfl⟩
 .exact⟨Fg _,rfl⟩
set_option tactic.hygienic true in
theorem Qm(u:Lb O.place):Lb (layNew O U i x).2.1.place/\(layNew O U i x).2.1.led=O.led:=by
 unfold layNew
 split
 .rename_i j b e;exact Xl (t:=(O.put j).1) (PE u (O2 e))
 .exact⟨Fg _,rfl⟩
theorem We{d:Type}(f:Nat->Option d):∀l:List Nat,((l.filterMap fun j=>(f j).map (j,·)).map (·.1)).Sublist l:=by
 intro e;induction e with
 |nil=>
  exact .slnil
 |cons a l c=>
  rw[filterMap_cons];cases f a with
  |none=>exact(c).cons _
  |some b=>exact(c).cons_cons _
theorem O3{a:SetTable}{b:Array Int}(e:O.relaid b n=some (a,j1)):Lb a.place/\a.led=O.led:=by
 unfold relaid laid at e;refine CK (SetTable.layClean (SetTable.sizeAbove n-1) b) (fun q=>?_) fun w q=>?_
 .rw[q]at e;cases e
 .rw[q]at e;injection e with e;injection e with c d;subst c;refine⟨?_,rfl⟩;exact List.pairwise_lt_range.sublist (We (fun j=>w.getD j none) _)
set_option tactic.hygienic true in
theorem Lk(u:Lb O.place):Lb (relayAll O U n).2.1.place/\(relayAll O U n).2.1.led=O.led:=by
 unfold relayAll
 split
 .rename_i a o e;dsimp only
  split
  .exact O3 e
  .exact⟨Fg _,rfl⟩
 .exact⟨Fg _,rfl⟩
section
variable {prog:Program} {w:World} {A:Around} {E:Value->Shared->Prop} {s:Shared} {K:Type} [DecidableEq K] {knd:KeyKind prog w K}
theorem Cq.els{S:K->Bool}(x:Cq knd h b S n):Cq knd h b S n:=x
theorem Cq.of{S:K->Bool}{o:Obj}(a:h.get? b=some o)(c:o.ExactSet)(hd:o.data=.set U n O)(x:MN w knd S U O):Cq knd h b S U.size:=
 ⟨o,U,n,O,a,c,hd,rfl,x⟩
theorem MN.relay{S:K->Bool}(x:MN w knd S U O)(n:Nat):MN w knd S (relayAll O U n).1 (relayAll O U n).2.1/\(relayAll O U n).1.size=U.size:=by
 have a:=relayAll_perm O U n;have b:(relayAll O U n).1.size=U.size:=by rw[<- length_toList,a.length_eq,length_toList]
 refine⟨⟨x.el.perm a,fun k=>(x.mem k).trans ⟨(by rintro⟨e,h,q⟩;exact⟨e,a.mem_iff.mpr h,q⟩),(by rintro⟨e,h,q⟩;exact⟨e,a.mem_iff.mp h,q⟩)⟩,b▸x.lt,relayAll_fits O U n,(Lk x.up).1,x.led.imp_right fun h=>(Lk x.up).2.trans h⟩,b⟩
theorem MN.push{S:K->Bool}{k:K}(a:MN w knd S U O)(c:knd.is k x=true)(f:x.scannable=true)(g:U.size+1<scanBound) :
  MN w knd (fun d=>S d||decide (d=k)) (layNew O U (knd.hash k) x).1 (layNew O U (knd.hash k) x).2.1/\(layNew O U (knd.hash k) x).1.size=U.size+1:=by
 have b:=layNew_perm O U (knd.hash k) x;have e:(layNew O U (knd.hash k) x).1.size=U.size+1:=by rw[<- length_toList,b.length_eq,length_toList,Array.size_push]
 rw[Array.toList_push]at b;exact⟨⟨(a.el.push c f).perm b,mem_push_iff c a.mem b,e▸g,layNew_fits O U _ x,(Qm a.up).1,a.led.imp_right fun h=>(Qm a.up).2.trans h⟩,e⟩
theorem MN.plainOff{S:K->Bool}(x:MN w knd S U O):MN w knd S U { O with plain:=false }:=⟨x.el,x.mem,x.lt,SetTable.fits_plain_off x.fits,x.up,x.led⟩
theorem I6{o:Obj}{a:Array (Int×Value)}{c:SetTable}{S:K->Bool}(e:s.heap.get? b=some o)(hd:o.data=.set U n O)(x:MN w knd S a c)
  (h:∀d,Heap.SameBut b s.heap d->d.get? b=some { o with data:=.set a (n+1) c }->g () { s with heap:=d }):wpAny (model prog w) A (storeSet b a c) g E s:=by
 refine wpAny_storeSet_of e hd (h _ (Heap.SameBut.update s.heap b _) ?_) (fits_of_scanBound x.lt);have:=get?_update_self (Obj.putSet a c) e (by rw[putSet_of a c hd];rfl);exact putSet_of a c hd▸this
set_option tactic.hygienic true in
theorem Uk{S:K->Bool}{k:K}{Q:Bool->Shared->Prop}(T:knd.is k x=true)(H:x.scannable=true)(Y:Cq knd s.heap b S n)(Z:n+1<scanBound)
  (h:∀d I,Heap.SameBut b s.heap I->Cq knd I b (fun p=>S p||decide (p=k)) (if S k then n else n+1)->Q d { s with heap:=I }):wpAny (model prog w) A (setAddHashed b x (knd.hash k)) Q E s:=by
 obtain⟨o,U,ep,t,F,C,hd,rfl,a⟩:=Y.els;refine AC (AA (wpAny_setState_of F hd a.fits ?_));dsimp only;rw[byScan_of H a.lt a.el,if_pos rfl];refine AA (AA (wpAny_rule (AA (wpAny_setScan_of T F hd a.fits a.el ?_))));cases V:(U.toList.findIdx? (fun e=>knd.is k e.2));rotate_left
 .rename_i j;obtain⟨hj,J,_⟩:=List.findIdx?_eq_some_iff_getElem.mp V;have G:S k=true:=(a.mem k).mpr ⟨_,List.getElem_mem hj,J⟩;have:=h false s.heap (Heap.SameBut.refl b s.heap) (by
   rw[G];refine Cq.of F C hd ⟨a.el,fun p=>?_,a.lt,a.fits,a.up,a.led⟩;rw[<- a.mem p,or_eq_true,decide_eq_true_eq];exact⟨fun q=>q.elim id fun e=>e▸G,.inl⟩)
  exact AB (AB this)
 .have G:S k=false:=Bool.eq_false_iff.mpr fun q=>by
   obtain⟨e,he,J⟩:=(a.mem k).mp q;have:=List.findIdx?_eq_none_iff.mp V e he;rw[J]at this;cases this
  obtain⟨y,M⟩:=a.push T H Z;rw[G]at h;generalize layNew t U (knd.hash k) x=L at y M⊢;obtain⟨c,N,dm,gv⟩:=L;have tail:∀(t2:SetTable),MN w knd (fun p=>S p||decide (p=k)) c t2->∀B,Heap.SameBut b s.heap B->B.get? b=some { o with data:=.set c (ep+1) t2 } ->
    ∀(m:Sem (Option Bool)),(m=pure (some true)\/∃g:Bool->Sem Unit,(∀(d:Bool)(i:Shared)(D:Unit->Shared->Prop),D () i->wpAny (model prog w) A (g d) D E i) /\
     m=g (relayAll t2 c (grown c.size)).2.2 >>= fun _=>storeSet b (relayAll t2 c (grown c.size)).1 (relayAll t2 c (grown c.size)).2.1 >>= fun _=>pure (some true)) ->
     wpAny (model prog w) A m (fun r l=>r=some true/\Q true l) E { s with heap:=B }:=by
   rintro t2 z B u v m (rfl |⟨g,hg,rfl⟩)
   .have:=h true B u (by rw[if_neg AN,<- M];exact Cq.of v ⟨C.1,C.2.1,C.2.2⟩ rfl z);exact AB ⟨rfl,this⟩
   .obtain⟨W,zs⟩:=z.relay (grown c.size);refine AA (hg _ _ _ (AA (I6 (s:={ s with heap:=B }) v rfl W fun h2 O P=>AB ⟨rfl,?_⟩)));exact h true h2 (u.trans O) (by rw[if_neg AN,<- M,<- zs];exact Cq.of P ⟨C.1,C.2.1,C.2.2⟩ rfl W)
  have X:∀(d:Bool)(i:Shared)(D:Unit->Shared->Prop),D () i->wpAny (model prog w) A (match d with |true=>rule "set.scan.the-table-gave-way" |false=>pure ()) D E i:=fun d i D q=>by
   cases d with
   |true=>exact wpAny_rule q
   |false=>exact AB q
  refine AA (X _ _ _ ?_);rw[hashByValue_scannable 8 H];have go:∀(t2:SetTable),MN w knd (fun p=>S p||decide (p=k)) c t2->wpAny (model prog w) A (storeSet b c t2 >>= fun _=>if(!dm&&t2.tooFull)=true then(match (relayAll t2 c (grown c.size)).2.2 with |true=>rule "set.scan.the-table-gave-way" |false=>pure ()) >>= fun _=>storeSet b (relayAll t2 c (grown c.size)).1 (relayAll t2 c (grown c.size)).2.1 >>= fun _=>pure (some true)else pure (some true)) (fun r l=>r=some true/\Q true l) E s:=fun t2 z=>by
   refine AA (I6 F hd z fun B u v=>tail t2 z B u v _ ?_);cases(!dm&&t2.tooFull)with
   |true=>exact .inr ⟨_,X,rfl⟩
   |false=>exact .inl rfl
  have out:∀{m:Sem (Option Bool)}{R:Option Bool->Shared->Prop},(∀l,Q true l->R (some true) l)->wpAny (model prog w) A m (fun r l=>r=some true/\Q true l) E s->wpAny (model prog w) A m R E s:=fun f h=>wpAny_mono h (by rintro r l ⟨e,q⟩;exact e▸f l q) fun _ _ q=>q;cases N.plain with
  |true=>
   refine AA (AB ?_);cases plainKind x with
   |true=>exact out (fun l q=>AB q) (go N y)
   |false=>exact out (fun l q=>AB q) (go _ y.plainOff)
  |false=>
   exact AA (AB (out (fun l q=>AB q) (go N y)))
end
section
variable {K:Type} [DecidableEq K]
def CP:List K->List K->List K
 |acc,[]=>acc
 |acc,k::r=>CP (if k∈acc then acc else acc++[k]) r
theorem Lr:∀(a:List K) k r,CP a (k::r)=(CP (if k∈a then a else a++[k]) r):=fun b b b=>rfl
theorem QV:∀(d c:List K),c.Nodup->(CP c d).Nodup:=by
 intro f;induction f with
 |nil=>
  intro _ h;exact h
 |cons k r g=>
  intro c h;refine g _ ?_;by_cases q:k∈c
  .rw[if_pos q];exact h
  .rw[if_neg q];exact List.nodup_append.mpr ⟨h,by exact pairwise_singleton _ _,fun a i b j e=>q (by rw[AJ j]at e;exact e▸i)⟩
theorem PC{f:K->V}(i:∀a b,f a=f b->a=b):∀(d c:List K),B7 (c.map f) (d.map f)=(CP c d).map f:=by
 intro j;induction j with
 |nil=>
  intro _;exact rfl
 |cons k r g=>
  intro c;have e:((c.map f).any fun u=>BY u (f k))=decide (k∈c):=by
   rw[Bool.eq_iff_iff,any_eq_true,decide_eq_true_eq];exact⟨by
    rintro⟨u,l,q⟩;obtain⟨b,m,rfl⟩:=AS l;rw[<- i _ _ ((BB _ _).mp q)];exact m,fun h=>⟨f k,mem_map_of_mem h,(BB _ _).mpr rfl⟩⟩
  rw[AW,KI,e,Lr];by_cases q:k∈c
  .rw[if_pos (decide_eq_true q),if_pos q];exact g c
  .rw[if_neg (by simpa using q),if_neg q,show c.map f++[f k]=(c++[k]).map f by rw[AL];rfl];exact g _
variable {prog:Program} {w:World} {A:Around} {E:Value->Shared->Prop} {s:Shared} {knd:KeyKind prog w K}
theorem Cq.congr{S c:K->Bool}(x:Cq knd h b S n)(e:∀a,S a=c a)(d:n=k):Cq knd h b c k:=by
 have:S=c:=funext e;subst this;subst d;exact x
theorem QH{D I:Addr}{f:List K}(Z:A.handled=none)(O:s.heap.IsList b a.toArray)(hv:∀(i:Nat) v,a[i]? =some v->∃k,f[i]? =some k/\knd.is k v=true/\v.scannable=true)(x:a.length=f.length)
  (B:b≠D) (p:s.heap.get? I=none) (ne:I≠D) :
  ∀(n i:Nat)(d:List K)(h:Heap)(C:Nat),f.length-i=n->i<=f.length->(∀c o,c≠D->s.heap.get? c=some o->h.get? c=some o)->Cq knd h D (fun k=>decide (k∈d)) d.length->h.IsListIter I b i->d.length+n<60 ->
   (∀r l,(∀c o,c≠D->s.heap.get? c=some o->r.get? c=some o)->Cq knd r D (fun k=>decide (k∈CP d (f.drop i))) (CP d (f.drop i)).length->u0 (.ok (.ret .none)) { s with heap:=r,toks:=l }) ->
   codeAny (model prog w) A (.builtin "set.update.loop" ⟨[.ref D,.ref I],[]⟩) u0 { s with heap:=h,toks:=C }:=by
 have P:b≠I:=fun e=>by obtain⟨o,V,_⟩:=O;rw[e,p]at V;cases V
 have W:=Walks.list (prog:=prog) (w:=w) (A:=A.in1) Z I b P a.toArray;have G:a.toArray.size=f.length:=by rw[size_toArray,x]
 intro n;induction n with
 |zero=>
  intro i d h C u X H hD t N J;have:i=f.length:=le_antisymm X (le_of_sub_eq_zero u);subst this;rw[drop_length]at J;refine codeAny_builtin F.entry_set_update_loop ?_;rw[Around.under_plainId F.plain_set_update_loop _];refine AA (W.done { s with heap:=h,toks:=C } _ _ ⟨by rw[G];exact t,O.at fun o e=>H b o B e⟩ fun r l g=>?_);exact AB (J r l (fun c o Q e=>g c o (fun q=>by rw[AJ q,p]at e;cases e) (H c o Q e)) (hD.at fun o e=>g D o (fun q=>ne (AJ q).symm) e))
 |succ n ih=>
  intro i d h C u X H hD t N J;have m:i<f.length:=Nat.lt_of_sub_eq_succ u;have u:=congrArg pred u;refine codeAny_builtin F.entry_set_update_loop ?_;rw[Around.under_plainId F.plain_set_update_loop _];refine AA (W.item i { s with heap:=h,toks:=C } _ _ (by rw[G];exact m) ⟨t,O.at fun o e=>H b o B e⟩ fun y r l hy R g=>?_);obtain⟨k,L,M,S⟩:=hv i y (by simpa using hy);refine AA (AC ?_);refine AC (AA (knd.pyHash M ?_));refine Uk M S (hD.at fun o e=>g D o (fun q=>ne (AJ q).symm) e) (AV (AH (AO (le_add_left 1 n) _) N) (by decide)) fun c Y T U=>?_;refine AB ⟨plainId_quiet F.plain_set_update_loop _,?_⟩;have j:∀c o,c≠D->r.get? c=some o->Y.get? c=some o:=fun c o q e=>(T.2 c q).trans e;have hd:f.drop i=k::f.drop (i+1):=by
   rw[drop_eq_getElem_cons m]
   congr 1
   rw[AD m]at L;exact Option.some.inj L
  rw[hd,Lr]at J;refine ih (i+1) _ Y _ u m (fun c o q e=>j c o q ((fun c o Q e=>g c o (fun q=>by rw[AJ q,p]at e;cases e) (H c o Q e)) c o q e)) (U.congr (fun k'=>?_) ?_) (R.1.at fun o e=>j I o ne e) ?_ J
  .by_cases q:k∈d
   .rw[if_pos q,Bool.eq_iff_iff,or_eq_true,decide_eq_true_eq,decide_eq_true_eq];exact⟨fun z=>z.elim id fun z=>z▸q,.inl⟩
   .rw[if_neg q,Bool.eq_iff_iff,or_eq_true,decide_eq_true_eq,decide_eq_true_eq,decide_eq_true_eq,mem_append,mem_singleton]
  .by_cases q:k∈d
   .rw[if_pos q,if_pos (decide_eq_true q)]
   .rw[if_neg q,if_neg (by simpa using q),AI];rfl
  .by_cases q:k∈d
   .rw[if_pos q];exact AH (le_succ _) N
   .rw[if_neg q,AI,AX];exact AH (AT (Nat.succ_add_eq_add_succ _ _)) N
theorem LW(a:Value)
  (h:∀b:Bool,(w.params.followText "set-order" =true\/b=true)->Q (.ref s.heap.objs.size) { s with heap:=s.heap.push { cls:=.type "set",dict:=none,data:=.set #[] 0 (.fresh 0 0 b) } }) :
  codeAny (model prog w) A (.call (.builtin "set.__new__") ⟨[.type "set",a],[]⟩) (wants Q E) s:=by
 refine codeAny_of_tree ?_;refine AA (wpAny_of_eq (F.newCall_set_1 a) (AB ⟨plainId_quiet F.plain_set_new _,codeAny_builtin F.entry_set_new ?_⟩));rw[Around.under_plainId F.plain_set_new _];have c:=sub_set_self;obtain⟨e,g,d,f,os⟩:=s;wp_walk;refine wpAny_askSetting (AB ?_);dsimp only;simp only[newObj];refine AA (wpAny_alloc (AB ?_));refine AB (h _ ?_);by_cases q:w.params.followText "set-order" =true
 .exact .inl q
 .refine .inr ?_;show(!w.params.followText "set-order")=true;rw[Bool.eq_false_iff.mpr q];rfl
end
section
variable {K:Type} [DecidableEq K] {prog:Program} {w:World} {A:Around} {E:Value->Shared->Prop} {s:Shared} {knd:KeyKind prog w K}
theorem KH{D:Addr}{m:List K}{n:Bool}{h:Fin->Shared->Prop}(M:A.handled=none)(x:s.heap.IsList b a.toArray)(N:∀(i:Nat) v,a[i]? =some v->∃k,m[i]? =some k/\knd.is k v=true/\v.scannable=true)(p:a.length=m.length)(O:m.length<60)
  (hD:s.heap.get? D=some { cls:=.type "set",dict:=none,data:=.set #[] 0 (.fresh 0 0 n) }) (q:w.params.followText "set-order" =true\/n=true)
  (P:∀r j,(∀c o,c≠D->s.heap.get? c=some o->r.get? c=some o)->Cq knd r D (fun k=>decide (k∈CP [] m)) (CP [] m).length->h (.done (.ret .none)) { s with heap:=r,toks:=j }) :
  wpAny (model prog w) A (Builtin.«set.__init__» ⟨[.ref D,.ref b],[]⟩) h Q s:=by
 have X:s.TypeIs (.ref D) "set" :=⟨_,hD,rfl⟩;obtain⟨R,l,f,Y,t⟩:=id x;have S:s.TypeIs (.ref b) "list" :=⟨_,l,f⟩;have I:=F.sub_list_set;have J:=F.sub_list_frozenset;have T:(Value.type "list" ==Value.type "dict")=false:=by decide
 have y:b≠D:=fun e=>by
  rw[e,hD]at l;cases l;exact absurd (show Value.type "set" =Value.type "list" from f) (by decide)
 unfold Builtin.«set.__init__» noKeywords Builtin.Frozenset.updateFrom;obtain⟨U,g,d,V,os⟩:=s;generalize z:pyIter=Z;obtain⟨L,B,C,u⟩:=R;simp only at f t;subst f;subst t;wp_walk;subst z;refine wpAny_pyIter_list x ?_;refine AA (wpAny_runValue ?_);refine QH (A:=A) (s:=⟨U,g,d,V,os⟩) M x N p y (get?_none_of_le (AM _)) (Nat.ne_of_gt (lt_size hD)) m.length 0 [] _ _ rfl (zero_le _) (fun c o zz e=>get?_push_of_some _ e)
  ⟨_,#[],0,_,get?_push_of_some _ hD,⟨rfl,rfl,rfl⟩,rfl,rfl,⟨(fun e W=>by simp at W),(fun k=>by simp),by decide,by rfl,List.Pairwise.nil,q⟩⟩ ⟨_,get?_push_size _ rfl,rfl,rfl⟩ (by simpa using O) fun r j G H=>?_
 exact AB (AB (P r j G H))
set_option maxHeartbeats 1000000 in
theorem J1{ks:List K}(hA:A.handled=none)(hL:s.heap.IsList b a.toArray)(hv:∀(i:Nat) v,a[i]? =some v->∃k,ks[i]? =some k/\knd.is k v=true/\v.scannable=true)(hlen:a.length=ks.length)(hb:ks.length<60)
  (hQ:∀h' tk',(∀zqbq o,s.heap.get? zqbq=some o->h'.get? zqbq=some o)->Cq knd h' s.heap.objs.size (fun k=>decide (k∈CP [] ks)) (CP [] ks).length->Q (.ref s.heap.objs.size) { s with heap:=h',toks:=tk' }) :
  wpAny (model prog w) A (call (.type "set") [.ref b]) Q E s:=by
 obtain⟨c,tl,hmro⟩:=F.called_set.mro;have hmade:=F.called_set.made;have hsub:=F.called_set.sub;refine wpAny_call (codeAny_of_tree ?_);refine AB ⟨Code.quiet_builtin _ (by decide +kernel),codeAny_builtin F.entry_type_call ?_⟩;rw[Around.under_plain (weight_type_call_type "set" [.ref b] []) rfl];have hct:=F.typeCall_set_1 (.ref b)
 repeat (any_goals (first |assumption |wp_step))
 refine codeAny_mono (LW (.ref b) (E:=E) (Q:=fun obj s₁=>∃led:Bool,(w.params.followText "set-order" =true\/led=true)/\obj=.ref s.heap.objs.size/\s₁={ s with heap:=s.heap.push { cls:=.type "set",dict:=none,data:=.set #[] 0 (.fresh 0 0 led) } }) fun led hl=>⟨led,hl,rfl,rfl⟩) fun r s₁ hr=>?_;cases r with
 |error e=>exact hr
 |ok fl=>
  cases fl with
  |ret obj=>
   obtain⟨led,hl,rfl,rfl⟩:=hr;have hS:(s.heap.push { cls:=.type "set",dict:=none,data:=.set #[] 0 (.fresh 0 0 led) }).get? s.heap.objs.size=some { cls:=.type "set",dict:=none,data:=.set #[] 0 (.fresh 0 0 led) }:=get?_push_size _ rfl;have hT:Shared.TypeIs { s with heap:=s.heap.push { cls:=.type "set",dict:=none,data:=.set #[] 0 (.fresh 0 0 led) } } (.ref s.heap.objs.size) "set" :=⟨_,hS,rfl⟩;have hli:=F.called_set.init.lookup;have hbi:=F.called_set.init.bind (.ref s.heap.objs.size)
   repeat (any_goals (first |assumption |wp_step))
   refine codeAny_mono (codeAny_call_builtin (R:=wants (fun r s₂=>r=.none/\∃h' tk,s₂={ s with heap:=h',toks:=tk }/\(∀zqbq o,s.heap.get? zqbq=some o->h'.get? zqbq=some o) /\
     Cq knd h' s.heap.objs.size (fun k=>decide (k∈CP [] ks)) (CP [] ks).length) E) F.called_set.init.plain F.entry_set_init (check_set_init_1 hT ?_)) fun r₂ s₂ hr₂=>?_
   .refine KH (s:={ s with heap:=s.heap.push { cls:=.type "set",dict:=none,data:=.set #[] 0 (.fresh 0 0 led) } }) ?_ (hL.push _) hv hlen hb hS hl fun h' tk' hk' hD'=>⟨rfl,h',tk',rfl,fun zqbq o e=>hk' zqbq o (fun q=>by rw[q]at e;exact absurd (lt_size e) (Nat.lt_irrefl _)) (get?_push_of_some _ e),hD'⟩;exact hA
   .cases r₂ with
    |error e=>exact hr₂
    |ok fl₂=>
     cases fl₂ with
     |ret r=>
      obtain⟨rfl,h',tk,rfl,hk',hD'⟩:=hr₂
      repeat (any_goals (first |assumption |wp_step))
      exact hQ _ _ hk' hD'
     |_=>exact hr₂.elim
  |_=>exact hr.elim
end
theorem Lg:Manifest.owners.lookup (String.ofList ['r','o','t','a','r','e','t','i','_','t','e','s'].reverse)=some Manifest.sig_set_iterator:=by kernel_rfl
theorem BM:Slot "set_iterator" "__next__" "set_iterator.__next__" :=
 .of (owner:= "set_iterator") (n:= "__next__") (by rw[typeLookup_type,builtinLookup_eq_fast];kernel_rfl) (by decide +kernel) (by decide +kernel) (by decide +kernel)
  (by first |exact .inl (by decide +kernel) |exact .inr (by decide +kernel)) (by rw[isSubtype_type];kernel_rfl)
theorem Cl:entryFor table "set_iterator.__next__" =some Builtin.«set_iterator.__next__» :=entryFor_of_tree (by kernel_rfl)
theorem DC(a:Value):argsOk "set_iterator.__next__" ⟨[a],[]⟩:=by
 unfold argsOk;rw[signature?_of (id:= "set_iterator.__next__") (n:=['_','_','t','x','e','n','_','_']) (o:=['r','o','t','a','r','e','t','i','_','t','e','s']) (by kernel_rfl) Lg];kernel_rfl
theorem Fq:Slot "set_iterator" "__iter__" "set_iterator.__iter__" :=
 .of (owner:= "set_iterator") (n:= "__iter__") (by rw[typeLookup_type,builtinLookup_eq_fast];kernel_rfl) (by decide +kernel) (by decide +kernel) (by decide +kernel)
  (by first |exact .inl (by decide +kernel) |exact .inr (by decide +kernel)) (by rw[isSubtype_type];kernel_rfl)
theorem Ia:entryFor table "set_iterator.__iter__" =some Builtin.«dict_keyiterator.__iter__» :=
 entryFor_alias (id':= "dict_keyiterator.__iter__") (by kernel_rfl) rfl (by decide +kernel) (by kernel_rfl)
theorem JY(a:Value):argsOk "set_iterator.__iter__" ⟨[a],[]⟩:=by
 unfold argsOk;rw[signature?_of (id:= "set_iterator.__iter__") (n:=['_','_','r','e','t','i','_','_']) (o:=['r','o','t','a','r','e','t','i','_','t','e','s']) (by kernel_rfl) Lg];kernel_rfl
theorem Ha:entryFor table "set.__iter__" =some Builtin.«frozenset.__iter__» :=
 entryFor_alias (id':= "frozenset.__iter__") (by kernel_rfl) rfl (by decide +kernel) (by kernel_rfl)
section
variable {K:Type} [DecidableEq K] {prog:Program} {w:World} {A:Around} {E:Value->Shared->Prop} {s:Shared} {knd:KeyKind prog w K} {S:K->Bool} {D:Addr} {o:Obj} {es:Array (Int×Value)} {ep:Nat} {t:SetTable}
theorem NB{M:Model}{a:Source}(b:n≠0)(h:∀i c,i<n->d7 i { s with drawn:=c }):wpAny M A (PySem.choose a n) d7 E s:=fun e p d=>
 ⟨b,h _ _ (mod_lt _ (Nat.pos_of_ne_zero b))⟩
theorem IF{b:Type}{a:List b}(c:n<a.length):(a[n]::a.eraseIdx n).Perm a:=by
 have h:a=a.take n++a[n]::a.drop (n+1):=by rw[<- drop_eq_getElem_cons c,List.take_append_drop]
 rw[List.eraseIdx_eq_take_drop_succ];exact List.perm_middle.symm.trans (.of_eq h.symm)
theorem Iq{e:Type}:∀(n:Nat)(a:List e)(s:Shared)(Q:List e->Shared->Prop),a.length=n->(∀b f,b.Perm a->Q b { s with drawn:=f })->wpAny (model prog w) A (drawOrder n a) Q E s
 |0,a,s,Q,h,k=>by
  have:a=[]:=List.length_eq_zero_iff.mp h;subst this;exact AB (k [] s.drawn (.refl _))
 |n+1,[],s,Q,h,k=>by cases h
 |n+1,x::a,s,Q,h,k=>by
  refine AA (NB (by simp) fun i f c=>?_);rw[AD c];refine AA (Iq n _ _ _ (by rw[List.length_eraseIdx,if_pos c,h];rfl) fun b d g=>AB (k _ d ?_));exact(g.cons _).trans (IF c)
theorem QI{b:Type}{nx:Nat->Nat}:∀(n k:Nat)(a:List b)(out:Array b),a.length=n->(pickOrder.go nx n k a out).toList.Perm (out.toList++a):=by
 intro d;induction d with
 |zero=>
  intro k a out h;have:a=[]:=List.length_eq_zero_iff.mp h;subst this;show out.toList.Perm (out.toList++[]);rw[Ah]
 |succ n e=>
  intro k a out h;have c:nx k % a.length<a.length:=mod_lt _ (Nat.lt_of_sub_eq_succ h);rw[show pickOrder.go nx (n+1) k a out=((a[nx k % a.length]?).rec out fun x=>pickOrder.go nx n (k+1) (a.eraseIdx (nx k % a.length)) (out.push x):Array b) by kernel_rfl,AD c];refine(e (k+1) _ _ (by rw[List.length_eraseIdx,if_pos c,h];rfl)).trans ?_;rw[Array.toList_push,append_assoc];exact(List.Perm.append_left _ (IF c))
end
def Ea(h:Heap)(I:Addr)(f:Value)(D:Addr)(i n ep:Nat):Prop:=∃o,h.get? I=some o/\o.cls=.type "set_iterator" /\o.data=.fields #[f,.int i 0,.ref D,.int n 0,.int ep 0]
theorem Ea.at{f:Heap}{D:Addr}{ep:Nat}(c:Ea h b x D k n ep)(d:∀o,h.get? b=some o->f.get? b=some o):Ea f b x D k n ep:=by obtain⟨o,a,e⟩:=c;exact⟨o,d o a,e⟩
section
variable {K:Type} [DecidableEq K] {prog:Program} {w:World} {A:Around} {E:Value->Shared->Prop} {s:Shared} {knd:KeyKind prog w K} {S:K->Bool} {I D:Addr} {o:Obj} {es:Array (Int×Value)} {ep:Nat} {t:SetTable}
theorem KO{g:Value}{i j:Nat}{v:Value}(a:Ea h I x D i n ep)(e:(#[x,.int i 0,.ref D,.int n 0,.int ep 0]:Array Value).setIfInBounds k v= #[g,.int j 0,.ref D,.int n 0,.int ep 0]) :
  Ea (h.update I (mapFields (·.setIfInBounds k v))) I g D j n ep:=by
 obtain⟨o,c,d,b⟩:=a;exact⟨_,get?_update_self _ c (Obj.isFreed_of_fields (data_mapFields b _)),(Obj.cls_mapFields ..).trans d,by rw[data_mapFields b,e]⟩
theorem Nm{nx i:Nat}{v:Value}(a:Ea s.heap I (.int k 0) D i n ep)(g:I≠D)(h:s.heap.get? D=some o)(hd:o.data=.set es ep t)(l:t.fits es.size=true)(m:es.size=n)
  (hN:∀(A:Around)(E:Value->Shared->Prop)(j:Option (Value×Nat)->Shared->Prop),j (some (v,nx)) s->wpAny (model prog w) A (setNext D k i ep) j E s)
  (p:∀c,Ea c I (.int nx 0) D (i+1) n ep->Heap.SameBut I s.heap c->j (some v) { s with heap:=c }):wpAny (model prog w) A (pyNext (.ref I)) j E s:=by
 obtain⟨q,d,r,b⟩:=id a;have e:s.TypeIs (.ref I) "set_iterator" :=⟨q,d,r⟩;refine AA (wpAny_attempt (wpAny_callSpecial?_slot (name:=ofString "__next__") e BM (wpAny_call_entry BM e Cl ?_ (DC _))));refine AA (AB ?_);refine AA (wpAny_fieldsOf d b ?_);refine AA (wpAny_setEntries_of h hd l ?_);rw[if_neg (by simp[m])];refine AA (hN _ _ _ ?_);refine AA (wpAny_setField d b (by simp) ?_);have f:Ea (s.heap.update I (mapFields (·.setIfInBounds 0 (rawInt nx)))) I (.int nx 0) D i n ep:=KO a rfl;obtain⟨y,u,z,x⟩:=id f;refine AA (wpAny_setField u x (by simp) ?_);exact AB ⟨_,rfl,AB (p _ (KO f rfl) ((Heap.SameBut.update ..).trans (Heap.SameBut.update ..)))⟩
theorem OJ(d:A.handled=none)(k:Heap.SameBut I s.heap h)(f:∀a,Heap.ExtBut I s.heap a->j none { s with heap:=a }) :
  wpAny (model prog w) A.in1 (newExc (.type "StopIteration") [] >>= fun e=>raiseNew e) (fun fin c=>∃v,fin=Fin.done (Flow.ret v)/\wpAny (model prog w) A (pure (some v)) j E c)
   (fun e c=>wpAny (model prog w) A (isInstance e (Value.type "StopIteration") >>= fun b=>if b=true then pure none else throw e) j E c) { s with heap:=h }:=by
 refine FE (A:=A.in1) d fun a e g i=>?_;refine AA (wpAny_isInstance (T:= "StopIteration") (b:=true) i isSubtype_stop ?_);exact AB (f _ fun b o n e=>g b o (k.extBut b o n e))
theorem II{i:Nat}(f:A.handled=none)(b:Ea s.heap I (.int k 0) D i n ep)(g:s.heap.get? D=some o)(hd:o.data=.set es ep t)(h:t.fits es.size=true)(l:es.size=n)
  (hN:∀(A:Around)(E:Value->Shared->Prop)(j:Option (Value×Nat)->Shared->Prop),j none s->wpAny (model prog w) A (setNext D k i ep) j E s)
  (m:∀d,Heap.ExtBut I s.heap d->j none { s with heap:=d }):wpAny (model prog w) A (pyNext (.ref I)) j E s:=by
 obtain⟨p,c,q,a⟩:=id b;have e:s.TypeIs (.ref I) "set_iterator" :=⟨p,c,q⟩;refine AA (wpAny_attempt (wpAny_callSpecial?_slot (name:=ofString "__next__") e BM (wpAny_call_entry BM e Cl ?_ (DC _))));refine AA (AB ?_);refine AA (wpAny_fieldsOf c a ?_);refine AA (wpAny_setEntries_of g hd h ?_);rw[if_neg (by simp[l])];refine AA (hN _ _ _ ?_);refine AA (wpAny_setField c a (by simp) ?_);exact OJ f (Heap.SameBut.update ..) m
theorem Tb{a p:Nat}(b:Ea s.heap I (.ref k) D a n ep)(m:s.heap.IsTuple k (i0.map fun p:Nat=>rawInt p).toArray)(g:s.heap.get? D=some o)(hd:o.data=.set es ep t)(h:t.fits es.size=true)(q:es.size=n)
  (r:i0[a]? =some p) (i:es[p]? =some (i,x)) (u:∀d,Ea d I (.ref k) D (a+1) n ep->Heap.SameBut I s.heap d->j (some x) { s with heap:=d }):wpAny (model prog w) A (pyNext (.ref I)) j E s:=by
 obtain⟨v,f,y,c⟩:=id b;obtain⟨C,z,_,_,B⟩:=m;have l:s.TypeIs (.ref I) "set_iterator" :=⟨v,f,y⟩;refine AA (wpAny_attempt (wpAny_callSpecial?_slot (name:=ofString "__next__") l BM (wpAny_call_entry BM l Cl ?_ (DC _))));refine AA (AB ?_);refine AA (wpAny_fieldsOf f c ?_);refine AA (wpAny_setEntries_of g hd h ?_);dsimp only;rw[if_neg (by simp[q])];refine AA ?_;refine AA (wpAny_load z ?_);rw[B];refine AB ?_;dsimp only;have e:(i0.map fun p:Nat=>rawInt p).toArray[a]? =some (rawInt p):=by simp[r]
 rw[show((a:Int).toNat)=a from rfl,e];show wpAny _ _ (setNextDrawn D p ep >>= _) _ _ s;refine AA ?_;refine AA (wpAny_setState_of g hd h ?_);dsimp only;rw[if_neg (by simp),i];refine AB ?_;refine AA (wpAny_setField f c (by simp) ?_);exact AB ⟨_,rfl,AB (u _ (KO b rfl) (Heap.SameBut.update ..))⟩
theorem NL(g:A.handled=none)(a:Ea s.heap I (.ref k) D i0.length n ep)(h:s.heap.IsTuple k (i0.map fun p:Nat=>rawInt p).toArray)(i:s.heap.get? D=some o)(hd:o.data=.set es ep t)(l:t.fits es.size=true)(m:es.size=n)
  (q:∀d,Heap.ExtBut I s.heap d->j none { s with heap:=d }):wpAny (model prog w) A (pyNext (.ref I)) j E s:=by
 obtain⟨r,c,u,b⟩:=id a;obtain⟨C,x,_,_,y⟩:=h;have f:s.TypeIs (.ref I) "set_iterator" :=⟨r,c,u⟩;refine AA (wpAny_attempt (wpAny_callSpecial?_slot (name:=ofString "__next__") f BM (wpAny_call_entry BM f Cl ?_ (DC _))));refine AA (AB ?_);refine AA (wpAny_fieldsOf c b ?_);refine AA (wpAny_setEntries_of i hd l ?_);dsimp only;rw[if_neg (by simp[m])];refine AA ?_;refine AA (wpAny_load x ?_);rw[y];refine AB ?_;dsimp only;have e:(i0.map fun p:Nat=>rawInt p).toArray[i0.length]? =none:=by simp
 rw[show((i0.length:Int).toNat)=i0.length from rfl,e];refine AA (wpAny_setField c b (by simp) ?_);obtain⟨F,z,G,B⟩:=KO (v:=rawInt 0) (k:=0) a rfl;refine AA (wpAny_setField z B (by simp) ?_);exact OJ (s:=s) g ((Heap.SameBut.update ..).trans (Heap.SameBut.update ..)) q
theorem JW(a:Ea s.heap I x D k n ep)(h:Q (.ref I) s):wpAny (model prog w) A (pyIter (.ref I)) Q E s:=by
 obtain⟨c,d,e,f⟩:=a;have b:s.TypeIs (.ref I) "set_iterator" :=⟨c,d,e⟩;refine wpAny_pyIter_slot b Fq (wpAny_call_entry Fq b Ia ?_ (JY _));exact AB ⟨_,rfl, "set_iterator",_,b,BM.lookup,h⟩
end
section
variable {K:Type} [DecidableEq K] {prog:Program} {w:World} {A:Around} {E:Value->Shared->Prop} {s:Shared} {knd:KeyKind prog w K} {S:K->Bool} {I D:Addr} {o:Obj} {es:Array (Int×Value)} {ep:Nat} {t:SetTable}
theorem JL(a:w.params.followText "set-order" =true)(b:s.heap.get? D=some o)(hd:o.data=.set es ep t)(c:t.fits es.size=true) :
  ∀(A:Around)(E:Value->Shared->Prop)(Q:Option (Value×Nat)->Shared->Prop),Q (((pickOrder (w.params.setOrder D ep) es)[k]?).map fun e=>(e.2,n)) s->wpAny (model prog w) A (setNext D n k ep) Q E s:=fun A E Q h=>by
 refine AA (wpAny_setState_of b hd c (AA (AA (wpAny_askSetting (AB ?_)))));rw[if_pos (show(model prog w).w.params.followText "set-order" =true from a),if_neg (by simp)];refine AA ?_;refine AA (wpAny_setState_of b hd c (AA (AA (wpAny_askSetting (AB ?_)))));rw[if_pos (show(model prog w).w.params.followText "set-order" =true from a)];exact AA (wpAny_askSetting (AB (AB h)))
theorem Kl(b:¬w.params.followText "set-order" =true)(c:s.heap.get? D=some o)(hd:o.data=.set es ep t)(d:t.fits es.size=true)(a:t.plain=true\/es.size<=1)(e:t.led=true) :
  ∀(A:Around)(E:Value->Shared->Prop)(Q:Option (Value×Nat)->Shared->Prop),Q (match es[SetTable.below t.place n]?,t.place[SetTable.below t.place n]? with |some (_,x),some j=>some (x,j+1) |_,_=>none) s->wpAny (model prog w) A (setNext D n k ep) Q E s:=fun A E Q h=>by
 refine AA (wpAny_setState_of c hd d (AA (AA (wpAny_askSetting (AB ?_)))));rw[if_neg (show ¬(model prog w).w.params.followText "set-order" =true from b)];have f:(!t.plain&&decide (es.size > 1))=false:=by
  rcases a with a |a
  .rw[a];rfl
  .rw[decide_eq_false (Nat.not_lt_of_ge a),Bool.and_false]
 show wpAny _ _ (if(!t.plain&&decide (es.size > 1))=true then _ else _) _ _ _
 rw[f,if_neg AN];refine AA ?_;show wpAny _ _ (if(!t.led&& !es.isEmpty)=true then _ else pure ()) _ _ _
 rw[e];exact AB (AB h)
def Eh(a:Array Nat)(i:Nat):Nat:=match i with |0=>0 |i+1=>a.getD i 0+1
theorem Hq(u:Lb j1)(c:n<=j1.size):SetTable.below j1 (Eh j1 n)=n:=by
 obtain⟨d,b2,h⟩:=Li (j:=Eh j1 n) u;have f:∀k,k<n->j1.getD k 0<Eh j1 n:=fun k a=>by
  cases n with
  |zero=>exact absurd a (not_lt_zero _)
  |succ n=>
   by_cases e:k=n
   .rw[e];exact lt_succ_self _
   .exact lt_succ_of_lt (MA u c (lt_of_le_of_ne (le_of_lt_succ a) e))
 have g:∀k,n<=k->k<j1.size->Eh j1 n<=j1.getD k 0:=fun k a b=>by
  cases n with
  |zero=>exact zero_le _
  |succ n=>exact MA u b a
 rcases Nat.lt_trichotomy (SetTable.below j1 (Eh j1 n)) n with q |q |q
 .have:=f _ q;have:=b2 _ (AM _) (by omega);omega
 .exact q
 .have:=g n (AM _) (by omega);have:=d n q;omega
theorem RN(es:Array (Int×Value)):((List.range es.size).map fun i=>(es[i]?.map (·.2)).getD Value.none)=es.toList.map (·.2):=by
 refine ext_getElem (by simp) fun i a b=>?_;have:i<es.size:=by simpa using a
 simp[this]
theorem SQ(hA:A.handled=none)(ho:s.heap.get? D=some o)(hx:o.ExactSet)(hd:o.data=.set es ep t)(x:MN w knd S es t)
  (h:∀(s':Shared)(I:Addr)(σ:List Value)(fp:List Addr)(St:Nat->Heap->Prop),s'.gens=s.gens->s'.os=s.os->(∀b o,s.heap.get? b=some o->s'.heap.get? b=some o)->s.heap.objs.size<=I->(∀b∈fp,b=D\/s.heap.objs.size<=b)->σ.Perm (es.toList.map (·.2)) ->
   (∀A:Around,A.handled=none->Walks prog w A I fp [I] es.size (fun i v=>σ[i]? =some v) St)->St 0 s'.heap->Q (.ref I) s'):wpAny (model prog w) A (pyIter (.ref D)) Q E s:=by
 have hT:s.TypeIs (.ref D) "set" :=⟨o,ho,hx.1⟩;have hDlt:=lt_size ho;refine wpAny_pyIter_slot hT F.slot_set_iter (wpAny_call_entry F.slot_set_iter hT Ha ?_ (F.args_set_iter_1 _));refine AA (AB ?_);refine AA (AA (wpAny_setEntries_of ho hd x.fits (AB ?_)));refine AA ?_;refine AA (wpAny_setState_of ho hd x.fits (AA (AA (wpAny_askSetting (AB ?_)))));refine AB ?_;show wpAny _ _ (if(!w.params.followText "set-order" &&(!t.plain&&decide (es.size > 1)))=true then _ else _) _ _ _
 have post:∀(s1:Shared)(f:Value),s1.heap.get? D=some o->(∃T' r,({ s1 with heap:=s1.heap.push { cls:=.type "set_iterator",data:=.fields #[f,.int 0 0,.ref D,.int es.size 0,.int ep 0] } }:Shared).TypeIs (.ref s1.heap.objs.size) T'/\typeLookup (.type T') "__next__" =pure (some r) /\
   Q (.ref s1.heap.objs.size) { s1 with heap:=s1.heap.push { cls:=.type "set_iterator",data:=.fields #[f,.int 0 0,.ref D,.int es.size 0,.int ep 0] } }) ->
   wpAny (model prog w) A.in1 (setEpoch D >>= fun e=>newFields "set_iterator" [f,rawInt 0,.ref D,rawInt es.size,rawInt e] >>= fun r=>ret r) (fun fin s'=>∃v,fin=Fin.done (Flow.ret v)/\∃T' r,s'.TypeIs v T'/\typeLookup (.type T') "__next__" =pure (some r)/\Q v s') E s1:=fun s1 f ho1 hq=>by
  refine AA (wpAny_setEpoch_of ho1 hd x.fits (AA ?_));refine wpAny_newObj_type (AB ⟨_,rfl,?_⟩) (by size_fits);simpa [rawInt]using hq
 by_cases hb:w.params.followText "set-order" =true
 .rw[hb];refine AA (AB (post s _ ho ⟨"set_iterator",_,⟨_,get?_push_size _ rfl,rfl⟩,BM.lookup,?_⟩));have ps:(pickOrder (w.params.setOrder D ep) es).toList.Perm es.toList:=by simpa [pickOrder]using(QI (nx:=w.params.setOrder D ep) es.size 0 es.toList #[] rfl)
  have pl:(pickOrder (w.params.setOrder D ep) es).size=es.size:=by rw[<- length_toList,ps.length_eq,length_toList]
  have ne:s.heap.objs.size≠D:=Nat.ne_of_gt hDlt;refine h { s with heap:=s.heap.push { cls:=.type "set_iterator",data:=.fields #[.int 0 0,.int 0 0,.ref D,.int es.size 0,.int ep 0] } } _ ((pickOrder (w.params.setOrder D ep) es).toList.map (·.2)) [s.heap.objs.size,D] (fun i h=>Ea h s.heap.objs.size (.int 0 0) D i es.size ep/\h.get? D=some o) rfl rfl (fun b o e=>get?_push_of_some _ e) (AM _) (fun b hb=>?_) (ps.map _) (fun A hA=>?_) ⟨⟨_,get?_push_size _ rfl,rfl,rfl⟩,get?_push_of_some _ ho⟩
  .rcases Ae hb with rfl |hb
   .exact .inr (AM _)
   .exact .inl (AJ hb)
  .refine⟨fun b hb=>by rw[AJ hb];exact .head _,fun i h h' st hk=>⟨st.1.at fun o e=>hk _ (.head _) o e,hk _ (.tail _ (.head _)) _ st.2⟩,fun i s Q E hi st hQ=>?_,fun s Q E st hQ=>?_,fun i s Q E st hq=>?_⟩
   .have e1:(pickOrder (w.params.setOrder D ep) es)[i]? =some ((pickOrder (w.params.setOrder D ep) es)[i]'(by omega)):=Array.getElem?_eq_getElem (by omega);refine Nm st.1 ne st.2 hd x.fits rfl (v:=((pickOrder (w.params.setOrder D ep) es)[i]'(by omega)).2) (nx:=0) (fun A E Q q=>JL hb st.2 hd x.fits A E Q (by rw[e1];exact q)) fun h' hit hs=>?_;refine hQ _ h' s.toks ?_ ⟨hit,(hs.2 D ne.symm).trans st.2⟩ fun b o hb e=>(hs.2 b fun z=>hb (by rw[z];exact .head _)).trans e;rw[List.getElem?_map,getElem?_toList,e1];rfl
   .refine II hA st.1 st.2 hd x.fits rfl (fun A E Q q=>JL hb st.2 hd x.fits A E Q (by rw[Array.getElem?_eq_none (AT pl)];exact q)) fun h' he=>hQ h' s.toks fun b o hb e=>he b o (fun z=>hb (by rw[z];exact .head _)) e
   .exact JW st.1 hq
 .have hl:t.led=true:=x.led.resolve_left hb;rw[Bool.eq_false_iff.mpr hb];by_cases hp:(!t.plain&&decide (es.size > 1))=true
  .rw[if_pos (by rw[hp];rfl)];refine AA (Iq es.size (List.range es.size) s _ (by exact length_range) fun ys dr hpm=>AA ?_);have hyl:ys.length=es.size:=by rw[hpm.length_eq,length_range]
   refine wpAny_newTuple ?_ (by rw[AG,hyl];exact(fits_of_scanBound x.lt));have g1:(s.heap.push { cls:=.type "tuple",data:=.seq (ys.map fun i:Nat=>rawInt i).toArray }).get? D=some o:=get?_push_of_some _ ho;have hsp:(s.heap.push { cls:=.type "tuple",data:=.seq (ys.map fun i:Nat=>rawInt i).toArray }).objs.size=s.heap.objs.size+1:=Heap.size_push ..;refine post { s with heap:=s.heap.push { cls:=.type "tuple",data:=.seq (ys.map fun i:Nat=>rawInt i).toArray },drawn:=dr } _ g1 ⟨"set_iterator",_,⟨_,get?_push_size _ rfl,rfl⟩,BM.lookup,?_⟩;have hP:(s.heap.push { cls:=.type "tuple",data:=.seq (ys.map fun i:Nat=>rawInt i).toArray }).IsTuple s.heap.objs.size (ys.map fun i:Nat=>rawInt i).toArray:=⟨_,get?_push_size _ rfl,rfl,_,rfl⟩;have neI:(s.heap.push { cls:=.type "tuple",data:=.seq (ys.map fun i:Nat=>rawInt i).toArray }).objs.size≠D:=by rw[hsp];exact Nat.ne_of_gt (lt_succ_of_lt hDlt)
   have neP:s.heap.objs.size≠(s.heap.push { cls:=.type "tuple",data:=.seq (ys.map fun i:Nat=>rawInt i).toArray }).objs.size:=by rw[hsp];exact Nat.ne_of_lt (lt_succ_self _)
   have hle:s.heap.objs.size<=(s.heap.push { cls:=.type "tuple",data:=.seq (ys.map fun i:Nat=>rawInt i).toArray }).objs.size:=by rw[hsp];exact le_succ _
   have hs2:∀b o',(s.heap.push { cls:=.type "tuple",data:=.seq (ys.map fun i:Nat=>rawInt i).toArray }).get? b=some o'->((s.heap.push { cls:=.type "tuple",data:=.seq (ys.map fun i:Nat=>rawInt i).toArray }).push { cls:=.type "set_iterator",data:=.fields #[.ref s.heap.objs.size,.int 0 0,.ref D,.int es.size 0,.int ep 0] }).get? b=some o':=fun b o' e=>get?_push_of_some _ e;have hsI:Ea ((s.heap.push { cls:=.type "tuple",data:=.seq (ys.map fun i:Nat=>rawInt i).toArray }).push { cls:=.type "set_iterator",data:=.fields #[.ref s.heap.objs.size,.int 0 0,.ref D,.int es.size 0,.int ep 0] }) (s.heap.push { cls:=.type "tuple",data:=.seq (ys.map fun i:Nat=>rawInt i).toArray }).objs.size (.ref s.heap.objs.size) D 0 es.size ep:=⟨_,get?_push_size _ rfl,rfl,rfl⟩;refine h { s with heap:=((s.heap.push { cls:=.type "tuple",data:=.seq (ys.map fun i:Nat=>rawInt i).toArray }).push { cls:=.type "set_iterator",data:=.fields #[.ref s.heap.objs.size,.int 0 0,.ref D,.int es.size 0,.int ep 0] }),drawn:=dr } _ (ys.map fun i=>(es[i]?.map (·.2)).getD .none)
    [(s.heap.push { cls:=.type "tuple",data:=.seq (ys.map fun i:Nat=>rawInt i).toArray }).objs.size,D,s.heap.objs.size] (fun i h=>Ea h (s.heap.push { cls:=.type "tuple",data:=.seq (ys.map fun i:Nat=>rawInt i).toArray }).objs.size (.ref s.heap.objs.size) D i es.size ep/\h.get? D=some o/\h.IsTuple s.heap.objs.size (ys.map fun i:Nat=>rawInt i).toArray) rfl rfl
    (fun b o e=>hs2 b o (get?_push_of_some _ e)) hle (fun b hb=>?_) ?_ (fun A hA=>?_) ⟨hsI,hs2 _ _ g1,hP.at fun o e=>hs2 _ _ e⟩
   .rcases Ae hb with rfl |hb
    .exact .inr hle
    rcases Ae hb with rfl |hb
    .exact .inl rfl
    .rw[AJ hb];exact .inr (AM _)
   .exact(hpm.map _).trans (.of_eq (RN es))
   .generalize(s.heap.push { cls:=.type "tuple",data:=.seq (ys.map fun i:Nat=>rawInt i).toArray }).objs.size=I at neI neP;refine⟨fun b hb=>by rw[AJ hb];exact .head _,fun i h h' st hk=>⟨st.1.at fun o e=>hk _ (.head _) o e,hk _ (.tail _ (.head _)) _ st.2.1,st.2.2.at fun o e=>hk _ (.tail _ (.tail _ (.head _))) o e⟩,fun i s' Q E hi st hQ=>?_,fun s' Q E st hQ=>?_,fun i s' Q E st hq=>?_⟩
    .have e1:ys[i]? =some (ys[i]'(by omega)):=AD (by omega);have hlt:ys[i]'(by omega)<es.size:=List.mem_range.mp (hpm.mem_iff.mp (List.getElem_mem _));have e2:es[ys[i]'(by omega)]? =some (es[ys[i]'(by omega)]'hlt):=Array.getElem?_eq_getElem hlt;refine Tb st.1 st.2.2 st.2.1 hd x.fits rfl e1 e2 fun h' hit hs=>?_;refine hQ _ h' s'.toks ?_ ⟨hit,(hs.2 D neI.symm).trans st.2.1,st.2.2.at fun o e=>(hs.2 _ neP).trans e⟩ fun b o hb e=>(hs.2 b fun z=>hb (z▸.head _)).trans e;rw[List.getElem?_map,e1,map_some,e2];rfl
    .rw[<- hyl]at st;refine NL hA ?_ st.2.2 st.2.1 hd x.fits rfl fun h' he=>hQ h' s'.toks fun b o hb e=>he b o (fun z=>hb (z▸.head _)) e;rw[<- hyl];exact st.1
    .exact JW st.1 hq
  .have hp':t.plain=true\/es.size<=1:=by
    refine Ce t.plain (fun q=>?_) fun q=>?_
    .exact .inl rfl
    .rw[q]at hp;exact .inr (Nat.not_lt.mp fun z=>hp ((decide_eq_true z).trans rfl))
   have ne:s.heap.objs.size≠D:=Nat.ne_of_gt hDlt;have hpl:t.place.size=es.size:=by
    have:=x.fits;unfold SetTable.fits at this;rw[and_eq_true,beq_iff_eq]at this;exact this.1
   rw[if_neg (by rw[Bool.eq_false_iff.mpr hp];exact AN)];refine AA (AB (post s _ ho ⟨"set_iterator",_,⟨_,get?_push_size _ rfl,rfl⟩,BM.lookup,?_⟩));refine h { s with heap:=s.heap.push { cls:=.type "set_iterator",data:=.fields #[.int 0 0,.int 0 0,.ref D,.int es.size 0,.int ep 0] } } _ (es.toList.map (·.2)) [s.heap.objs.size,D] (fun i h=>Ea h s.heap.objs.size (.int (Eh t.place i) 0) D i es.size ep/\h.get? D=some o) rfl rfl (fun b o e=>get?_push_of_some _ e) (AM _) (fun b hb=>?_) (.refl _) (fun A hA=>?_) ⟨⟨_,get?_push_size _ rfl,rfl,rfl⟩,get?_push_of_some _ ho⟩
   .rcases Ae hb with rfl |hb
    .exact .inr (AM _)
    .exact .inl (AJ hb)
   .refine⟨fun b hb=>by rw[AJ hb];exact .head _,fun i h h' st hk=>⟨st.1.at fun o e=>hk _ (.head _) o e,hk _ (.tail _ (.head _)) _ st.2⟩,fun i s Q E hi st hQ=>?_,fun s Q E st hQ=>?_,fun i s Q E st hq=>?_⟩
    .have e1:es[i]? =some es[i]:=Array.getElem?_eq_getElem hi;refine Nm st.1 ne st.2 hd x.fits rfl (v:=es[i].2) (nx:=Eh t.place (i+1)) (fun A E Q q=>Kl hb st.2 hd x.fits hp' hl A E Q ?_) fun h' hit hs=>?_
     .rw[Hq x.up (AF (AR hi) (AT (Eq.symm hpl))),e1,(Array.getElem?_eq_getElem (by omega))];have:Eh t.place (i+1)=t.place[i]'(by omega)+1:=by show t.place.getD i 0+1=_;simp[getD,show i<t.place.size by omega]
      rw[this]at q;exact q
     .refine hQ _ h' s.toks ?_ ⟨hit,(hs.2 D ne.symm).trans st.2⟩ fun b o hb e=>(hs.2 b fun z=>hb (z▸.head _)).trans e;rw[List.getElem?_map,getElem?_toList,e1];rfl
    .refine II hA st.1 st.2 hd x.fits rfl (fun A E Q q=>Kl hb st.2 hd x.fits hp' hl A E Q ?_) fun h' he=>hQ h' s.toks fun b o hb e=>he b o (fun z=>hb (z▸.head _)) e;rw[Hq x.up (AT (Eq.symm hpl)),Array.getElem?_eq_none (AM _)];exact q
    .exact JW st.1 hq
end
section
variable {K:Type} [DecidableEq K] {prog:Program} {w:World} {A:Around} {E:Value->Shared->Prop} {s:Shared} {knd:KeyKind prog w K} {S:K->Bool} {D:Addr} {o:Obj} {es:Array (Int×Value)} {ep:Nat} {t:SetTable}
theorem Q0(d:s.TypeIs (.ref D) "set")(h:R false s):wpAny (model prog w) A (Builtin.List.listLengthHint (.ref D)) R E s:=by
 refine AA (wpAny_specialOf d F.slot_set_len.lookup ?_);generalize c:("set.__len__":String)=e
 wp_delta
 rw[show splitId e=some ("set", "__len__")from by subst c;decide +kernel];subst c;refine AA (wpAny_isInstance (T:= "set") (b:=true) d (by rw[isSubtype_type];kernel_rfl) ?_);refine wpAny_ite_split (fun a=>absurd a (by decide)) (fun f=>?_);refine wpAny_ite_split (fun f=>?_) (fun a=>absurd (by decide +kernel) a);refine AA (wpAny_typeOf d ?_);exact AB h
theorem MK{R:List Value->Shared->Prop}(hA:A.handled=none)(ho:s.heap.get? D=some o)(hx:o.ExactSet)(hd:o.data=.set es ep t)(x:MN w knd S es t)
  (h:∀(s':Shared)(vs:List Value),s'.gens=s.gens->s'.os=s.os->(∀b o,s.heap.get? b=some o->s'.heap.get? b=some o)->vs.Perm (es.toList.map (·.2))->R vs s'):wpAny (model prog w) A (collect (.ref D)) R E s:=by
 refine AA (wpAny_runValue (codeAny_builtin entry_proto_collect' ?_));rw[Around.under_plainId PySem.F.plain_proto_collect _];refine AA (wpAny_newObj_type ?_);refine AB ⟨plainId_quiet PySem.F.plain_list_iadd _,codeAny_builtin entry_list_iadd' ?_⟩;rw[Around.under_plainId PySem.F.plain_list_iadd _];have neL:s.heap.objs.size≠D:=Nat.ne_of_gt (lt_size ho);have hS₁:(s.heap.push { cls:=.type "list",data:=.seq ([]:List Value).toArray }).get? s.heap.objs.size=some { cls:=.type "list",data:=.seq #[] }:=get?_push_size _ rfl;have ho1:(s.heap.push { cls:=.type "list",data:=.seq ([]:List Value).toArray }).get? D=some o:=get?_push_of_some _ ho;have hsp:(s.heap.push { cls:=.type "list",data:=.seq ([]:List Value).toArray }).objs.size=s.heap.objs.size+1:=Heap.size_push ..;show wpAny _ A.in1 (Builtin.List.listExtendWith (.ref s.heap.objs.size) (.ref D) (.ref s.heap.objs.size)) _ _ _;refine AA (wpAny_typeOf (T:= "set") ⟨o,ho1,hx.1⟩ ?_);have h1:Builtin.List.listSameRef (.ref s.heap.objs.size) (.ref D)=false:=by simp[Builtin.List.listSameRef,neL]
 rw[h1];simp only[show(Value.type "set" ==Value.type "list")=false by decide,show(Value.type "set" ==Value.type "tuple")=false by decide,Bool.or_false,false_eq_true,if_false];refine AA (SQ (s:={ s with heap:=s.heap.push { cls:=.type "list",data:=.seq ([]:List Value).toArray } }) hA ho1 hx hd x fun s' I σ fp St eg eo hk hI hfp hσ W st=>?_);have hS₂:=hk _ _ hS₁;have hSf:s.heap.objs.size∉fp:=fun q=>(hfp _ q).elim neL fun z=>by
  exact absurd (AF (AT hsp.symm) z) (Nat.not_succ_le_self _)
 have hl:σ.length=es.size:=by rw[hσ.length_eq];simp
 have loop:∀(s1:Shared)(c₁:Nat),s1.gens=s'.gens->s1.os=s'.os->(∀b o,b≠s.heap.objs.size->s'.heap.get? b=some o->s1.heap.get? b=some o)->s1.heap.get? s.heap.objs.size=some { cls:=.type "list",data:=.seq #[] c₁ } ->
   codeAny (model prog w) A (.builtin "list.extend.loop" ⟨[.ref s.heap.objs.size,.ref I,.ref s.heap.objs.size],[]⟩) (fun r s₂=>∃(acc:Array Value) (c':Nat),r=.ok (.ret (.ref s.heap.objs.size))/\s₂.gens=s.gens/\s₂.os=s.os/\(∀b o,s.heap.get? b=some o->s₂.heap.get? b=some o) /\
    s₂.heap.get? s.heap.objs.size=some { cls:=.type "list",dict:=none,data:=.seq acc c',slots:= #[] }/\acc.toList=σ) s1:=fun s1 c₁ e1 e2 hk1 g1=>by
  refine codeAny_extend_loopS (W A.in1 hA).toS (fits_of_scanBound x.lt) s.heap.objs.size hSf (.ref s.heap.objs.size) es.size 0 s1 #[] c₁ rfl (zero_le _) ((W A.in1 hA).frame 0 _ _ st fun b hb o e=>hk1 b o (fun z=>hSf (z▸hb)) e) g1 (ItemsOf.nil _) fun s₂ acc c' hm gS hacc=>?_;rw[Moved.eq_with hm]at gS⊢;refine⟨acc,c',rfl,e1.trans eg,e2.trans eo,fun b o e=>?_,gS,?_⟩
  .have hb:b≠s.heap.objs.size:=Nat.ne_of_lt (lt_size e);refine hm.heap b o (fun q=>?_) (hk1 b o hb (hk b o (get?_push_of_some _ e)));rcases Ae q with q |q
   .exact hb q
   .rw[AJ q]at e;exact absurd (AV (lt_size e) (AK (lt_succ_self _) (AF (AT hsp.symm) hI))) (Nat.lt_irrefl _)
  .refine List.ext_getElem? fun i=>?_;by_cases q:i<es.size
   .have hi:i<acc.size:=by rw[hacc.1];exact q
    have:=hacc.2 i acc[i] (Array.getElem?_eq_getElem hi);rw[this,getElem?_toList,Array.getElem?_eq_getElem hi]
   .rw[List.getElem?_eq_none (by rw[length_toList,hacc.1];exact le_of_not_lt q),List.getElem?_eq_none (AF (AT hl) (le_of_not_lt q))]
 have out:∀(r:Result)(s₂:Shared),(∃(acc:Array Value) (c':Nat),r=.ok (.ret (.ref s.heap.objs.size))/\s₂.gens=s.gens/\s₂.os=s.os/\(∀b o,s.heap.get? b=some o->s₂.heap.get? b=some o) /\
    s₂.heap.get? s.heap.objs.size=some { cls:=.type "list",dict:=none,data:=.seq acc c',slots:= #[] }/\acc.toList=σ)->(match r with |.ok (.ret v)=>wpAny (model prog w) A (match v with |.ref a=>load a >>= fun ob=>(match ob.data with |.seq xs _=>pure xs.toList |_=>unsupported "internal:collect") |_=>unsupported "internal:collect") R E s₂ |.ok _=>False |.error e=>E e s₂):=by
  rintro r s₂ ⟨acc,c',rfl,q1,q2,q3,q4,q5⟩;refine AA (wpAny_load q4 ?_);exact AB (h s₂ _ q1 q2 q3 (q5▸hσ))
 refine AA (AC (Q0 ⟨o,hk _ _ ho1,hx.1⟩ ?_));refine wpAny_ite_split (fun zz=>?_) (fun zz=>AB ⟨plainId_quiet PySem.F.plain_extend_loop _,codeAny_mono (loop s' _ rfl rfl (fun zz zz zz e=>e) hS₂) out⟩);refine AA (wpAny_rule ?_);refine AA ?_;refine AA (wpAny_updateSeq hS₂ rfl ?_);have hS₃:=get?_update_self (mapSeq (·.push Value.none)) hS₂ rfl;refine wpAny_updateSeq (hz:=by seq_fits) hS₃ rfl ?_;exact AB ⟨plainId_quiet PySem.F.plain_extend_loop _,codeAny_mono (loop { s' with heap:=_ } _ rfl rfl (fun b o hb e=>(get?_update_other _ _ (Ne.symm hb)).trans ((get?_update_other _ _ (Ne.symm hb)).trans e)) (get?_update_self (mapSeq (·.pop)) hS₃ rfl)) out⟩
end
theorem UU{b:Type}[DecidableEq b]:∀{l m:List b},l.Nodup->(∀k∈l,k∈m)->m.length<=l.length->m.Perm l:=by
 intro g;induction g with
 |nil=>
  intro m _ _ h;have:m=[]:=List.length_eq_zero_iff.mp (Nat.le_zero.mp h);rw[this]
 |cons a r i=>
  intro m nd c h;obtain⟨j,n⟩:=List.nodup_cons.mp nd;have d:=c a (.head _);refine(List.perm_cons_erase d).trans (.cons a (i n (fun k f=>(List.mem_erase_of_ne fun e=>j (by rw[<- e];exact f)).mpr (c k (.tail _ f))) ?_));rw[List.length_erase_of_mem d];rw[AQ]at h;exact Nat.sub_le_of_le_add h
section
variable {d:Nat} {G:Gh} {H:Aj} {s s':Shared} {Φ:V->Aj->Prop} {Q:Value->Shared->Prop} {A:Around} {K:Type} [DecidableEq K] {knd:KeyKind X.prog X.w K} {f:K->V}
theorem Nd{c:List K}(y:∀a b,f a=f b->a=b)(z:∀k v,VR G (f k) v->knd.is k v=true/\v.scannable=true)
  (B:∀h a (c:List K),c.Nodup->Cq knd h a (fun k=>decide (k∈c)) c.length->SR X.prog X.w h a (c.map f)) (C:A.handled=none) (l:Az X G H s) (e:H[n]? =some (.list (c.map f))) (r:VR G (.loc n) x) (D:c.length<60)
  (m:Φ (.loc H.length) (H++[.set (B7 [] (c.map f))])) (k:Bj X G s Φ Q):wpAny (model X.prog X.w) A (call (.type "set") [x]) Q (fun E E=>False) s:=by
 obtain⟨a,N,F,I,p⟩:=l.list e;obtain rfl:=r.at F;refine J1 (knd:=knd) (ks:=c) C I (fun i v J=>?_) (by rw[<- p.length,AG]) D fun O P g hD=>?_
 .obtain⟨u,q,L⟩:=p.get' J;rw[List.getElem?_map]at q;obtain⟨k,j,rfl⟩:=Option.map_eq_some_iff.mp q;exact⟨k,j,z k v L⟩
 .obtain⟨o,R,ep,t,M,S⟩:=id hD;rw[show B7 [] (c.map f)=(CP [] c).map f from PC y c []]at m;exact Ez (o:=.set ((CP [] c).map f)) k l (Aw _) g ⟨_,o,As,BD,M,B _ _ _ (QV c [] .nil) hD⟩ m
theorem Hn{n:List K}(F:∀k v,knd.is k v=true->VR G (f k) v)(I:A.handled=none)(J:Az X G H s)(nd:n.Nodup)(x:Cq knd s.heap b (fun k=>decide (k∈n)) n.length)(L:D7 (n.map f) H Φ)(k:Bj X G s Φ Q) :
  wpAny (model X.prog X.w) A (call (.builtin "sorted") [.ref b]) Q (fun i i=>False) s:=by
 obtain⟨o,M,ep,t,N,O,hd,P,y⟩:=x.els;refine F5 L k fun R S=>MK I N O hd y fun s' a T U j E=>?_;have p:∀a:List Value,(∀v∈a,∃k,knd.is k v=true)->∃l:List K,BJ G (l.map f) a/\l.length=a.length/\∀k v,v∈a->knd.is k v=true->k∈l:=by
  intro a;induction a with
  |nil=>exact fun i=>⟨[],.nil,rfl,fun i i h=>by cases h⟩
  |cons v a V=>
   intro h;obtain⟨k,m⟩:=h v (.head _);obtain⟨l,q,r,B⟩:=V fun u hu=>h u (.tail _ hu);refine⟨k::l,.cons (F k v m) q,congrArg (· + 1) r,fun W u hu g=>?_⟩;rcases Ae hu with rfl |hu
   .rw[knd.inj _ _ _ g m];exact .head _
   .exact .tail _ (B W u hu g)
 have mem:∀v,v∈a↔∃e∈M.toList,e.2=v:=fun v=>by rw[E.mem_iff,mem_map]
 obtain⟨l,q,r,B⟩:=p a fun v Y=>by
  obtain⟨e,C,rfl⟩:=(mem v).mp Y;exact y.el.keys e C
 refine S (l.map f) a s' ⟨.refl G,⟨T,U⟩,fun c o e i i=>j c o e,fun i z=>.inl z,fun c o e=>⟨o,j c o e⟩⟩ (J.keeps j) q (.map _ (UU nd (fun k D=>?_) ?_))
 .obtain⟨e,C,Z⟩:=(y.mem k).mp (decide_eq_true D);exact B k _ ((mem _).mpr ⟨e,C,rfl⟩) Z
 .rw[r,E.length_eq,AG,length_toList,P];exact AM _
end
section
variable {d:Nat} {G:Gh} {H:Aj} {s s':Shared} {Φ:V->Aj->Prop} {Q:Value->Shared->Prop} {A:Around}
theorem Uc(g:A.handled=none)(i:Az X G H s)(e:H[n]? =some (.list l))(r:VR G (.loc n) x)(j:l.length<60)(o:KP l\/IO l)(m:Φ (.loc H.length) (H++[.set (B7 [] l)]))(k:Bj X G s Φ Q) :
  wpAny (model X.prog X.w) A (call (.type "set") [x]) Q (fun p p=>False) s:=by
 rcases o with⟨q,rfl⟩ |⟨t,rfl⟩
 .refine Nd (knd:=intKind X.prog X.w) (f:=V.int) (fun a b h=>by cases h<;>rfl) (fun k v r=>by obtain⟨_,rfl⟩:=r.int_l;exact⟨intKind_is _ _ _ _,rfl⟩) (fun h a c nd x=>.inl ⟨c,rfl,nd,x.congr (fun k=>?_) rfl⟩) g i e r (by simpa using j) m k
  rw[Bool.eq_iff_iff,decide_eq_true_eq,contains_iff_mem]
 .refine Nd (knd:=PySem.strKind X.prog X.w) (f:=V.str) (fun a b h=>by cases h<;>rfl) (fun k v r=>by obtain⟨_,rfl⟩:=r.str_l;exact⟨strKind_is _ _ _ _,rfl⟩) (fun h a c nd x=>.inr ⟨c,rfl,nd,x.congr (fun k=>?_) rfl⟩) g i e r (by simpa using j) m k
  rw[Bool.eq_iff_iff,decide_eq_true_eq,contains_iff_mem]
theorem NQ(c:A.handled=none)(b:Az X G H s)(e:H[n]? =some (.set l))(r:VR G (.loc n) x)(g:D7 l H Φ)(k:Bj X G s Φ Q) :
  wpAny (model X.prog X.w) A (call (.builtin "sorted") [x]) Q (fun i i=>False) s:=by
 obtain⟨a,o,j,p,q,m⟩:=b.loc n _ e;obtain rfl:=r.at j;rcases m with⟨u,rfl,nd,x⟩ |⟨y,rfl,nd,x⟩
 .refine Hn (knd:=intKind X.prog X.w) (f:=V.int) (fun k v h=>by obtain⟨t,rfl⟩:=Value.isInt_shape h;exact .int _ _) c b nd (x.congr (fun k=>?_) rfl) g k;rw[Bool.eq_iff_iff,decide_eq_true_eq,contains_iff_mem]
 .refine Hn (knd:=PySem.strKind X.prog X.w) (f:=V.str) (fun k v h=>by obtain⟨t,rfl⟩:=Value.isStrOf_shape h;exact .str _ _) c b nd (x.congr (fun k=>?_) rfl) g k;rw[Bool.eq_iff_iff,decide_eq_true_eq,contains_iff_mem]
end
section
variable {M:Model} {A:Around} {E:Value->Shared->Prop} {s:Shared}
theorem Cy{Q:Args->Shared->Prop}(c:w7.any (·.1)=false)(h:wpAny M A (spliced w7) (fun d e=>Q ⟨d,[]⟩ e) E s):wpAny M A (evalArgs x true w7 []) Q E s:=by
 cases w7 with
 |nil=>
  refine AA (wpAny_mono h (fun d e g=>?_) fun i i a=>a);refine AC ?_;exact AA (AB (AA (AB (AB g))))
 |cons p f=>
  obtain⟨b,a⟩:=p;simp only[any_cons,Bool.or_eq_false_iff]at c;obtain⟨rfl,_⟩:=c;exact evalArgs_plain h
theorem UN{pos:Pos}{f:Keeper}{first:List Value}(g:f=.frame\/f=.machine)(b:w7.any (·.1)=false)
  (h:wpAny M A (spliced w7) (fun i a=>(∀(j:Keeper->Shared->Prop),j f a->wpAny M A (keeperOf x) j E a)/\wpAny M A (call x (first++i) []) Q E a) E s) :
  wpAny M A (callWith pos x first w7 []) Q E s:=by
 refine AA (AC (Cy b (wpAny_mono h (fun i a c=>?_) fun e e d=>d)));refine AA (wpAny_standAt ?_);have tail:∀{t:Sem Value},wpAny M A t Q E a->wpAny M A (t >>= fun r=>holding [r] point >>= fun e=>pure r) Q E a:=
  fun l=>AA (wpAny_mono l (fun r k m=>AA (AC (wpAny_point (AB m)))) fun e e d=>d)
 rw[b];refine AA (c.1 _ ?_);rcases g with rfl |rfl
 .exact wpAny_ite_split (fun e=>tail c.2) (fun e=>tail (by unfold callMarked;exact wpAny_keep c.2))
 .exact tail c.2
end
section
variable {d:Nat} {G:Gh} {H:Aj} {s s':Shared} {Φ:V->Aj->Prop} {Q:Value->Shared->Prop} {A:Around}
theorem LJ(h:BJ G [v] a):∃x,a=[x]/\VR G v x:=by
 obtain⟨_,_,b,r⟩:=h.cons_l;obtain rfl:=r.nil_l;exact⟨_,rfl,b⟩
theorem Qt{u:V}(h:BJ G [v,u] a):Dd fun x y=>DD (a=[x,y]) (VR G v x) (VR G u y):=by
 obtain⟨_,_,c,r⟩:=h.cons_l;obtain⟨_,rfl,b⟩:=LJ r;exact⟨_,_,rfl,c,b⟩
theorem YV{u t:V}(h:BJ G [v,u,t] a):Ks fun x y z=>KT (a=[x,y,z]) (VR G v x) (VR G u y) (VR G t z):=by
 obtain⟨_,_,e,r⟩:=h.cons_l;obtain⟨_,_,rfl,b,c⟩:=Qt r;exact⟨_,_,_,rfl,e,b,c⟩
inductive X8(G:Gh)(H:Aj)(f:HO->Prop):List Value->Prop
 |mk (n:Nat) (o:HO) (x:Value):H[n]? =some o->VR G (.loc n) x->f o->X8 G H f [x]
theorem D5(h:Mh j7 H l)(r:BJ G l a):X8 G H j7 a:=by
 obtain⟨n,o,rfl,e,h⟩:=S6 h;obtain⟨x,rfl,b⟩:=LJ r;exact⟨n,o,x,e,b,h⟩
inductive Xv(f:Int->Prop):List Value->Prop
 |mk (i:Int) (t:Tok):f i->Xv f [.int i t]
theorem GA{f:Int->Prop}(h:Rj f l)(r:BJ G l a):Xv f a:=by
 obtain⟨i,rfl,h⟩:=Qc h;obtain⟨x,rfl,b⟩:=LJ r;obtain⟨_,rfl⟩:=b.int_l;exact⟨_,_,h⟩
inductive Xs(G:Gh)(f:V->Prop):List Value->Prop
 |mk (v:V) (x:Value):VR G v x->f v->Xs G f [x]
theorem JC(h:J2 s7 l)(r:BJ G l a):Xs G s7 a:=by
 obtain⟨i,rfl,h⟩:=Dz h;obtain⟨x,rfl,b⟩:=LJ r;exact⟨_,_,b,h⟩
inductive XR(G:Gh)(f:V->V->Prop):List Value->Prop
 |mk (v u:V) (x y:Value):VR G v x->VR G u y->f v u->XR G f [x,y]
theorem Iz{f:V->V->Prop}(h:PO f l)(r:BJ G l a):XR G f a:=by
 obtain⟨v,u,rfl,h⟩:=HX h;obtain⟨x,y,rfl,b,c⟩:=Qt r;exact⟨_,_,_,_,b,c,h⟩
theorem V5{b:Bi}(F:X.Ok)(S:B4 d A)(j:Az X G H s)(f:Nu b l H Φ)(r:BJ G l a)(k:Bj X G s Φ Q) :
  wpAny (model X.prog X.w) A (call (Re b) a) Q (fun J J=>False) s:=by
 have B:=S.1;have hu:=S.2.2;cases b with
 |len=>
  obtain⟨v,x,h,f⟩:=JC f r;cases v with
  |tup g=>
   obtain⟨_,_,e,K⟩:=h.tup_l;exact Tl j e K f.2 f.1 k
  |loc n=>
   obtain⟨o,e,f⟩:=CE (show Bk (Wz H Φ) H n from f);cases o with
   |list g=>
    obtain⟨p,ws,I,L,T⟩:=j.list e;obtain rfl:=h.at I;refine call_len_list L (by rw[size_toArray,<- T.length];exact Int.lt_of_lt_of_le (Int.ofNat_lt.mpr f.1) (by decide)) ?_;rw[size_toArray,<- T.length];exact BX k j _ (.int _ _) f.2
   |dict g=>
    obtain⟨D,I,f0,L⟩:=j.dict e;obtain rfl:=h.at I;exact P4 L (j.notMod F (.inl ⟨_,I⟩)) f.1 fun t tk=>BX k j _ (.int _ _) f.2
   |_=>exact False.elim f
  |_=>exact f.elim
 |range=>
  cases l with
  |nil=>exact False.elim f
  |cons p l=>
   cases l with
   |nil=>
    obtain⟨x,rfl,h⟩:=LJ r;cases p with
    |int n=>
     obtain⟨_,rfl⟩:=h.int_l;exact M1 j f.2 k
    |_=>exact False.elim f
   |cons n l=>
    cases l with
    |nil=>
     obtain⟨x,y,rfl,h,C⟩:=Qt r;obtain⟨p,n,_,_,M⟩:=Bo f h C;exact NY j M.2.2 k
    |cons c l=>
     cases l with
     |nil=>
      obtain⟨x,y,z,rfl,h,C,N⟩:=YV r;obtain⟨p,n,_,_,_,_,rfl,M⟩:=Bo f h C;obtain⟨_,rfl⟩:=N.int_l;exact MZ j M k
     |cons _ _=>exact False.elim f
 |max=>
  obtain⟨v,u,x,y,h,C,f⟩:=Iz f r;obtain⟨p,n,_,_,f⟩:=Bo f h C;exact TF B j f k
 |tuple=>
  obtain⟨v,x,h,f⟩:=JC f r;cases v with
  |tup g=>
   obtain⟨_,_,e,K⟩:=h.tup_l;exact call_tuple_same (j.tup _ _ e) (CM k j (.tup e K) f)
  |loc n=>
   obtain⟨o,e,f⟩:=CE (show Bk _ H n from f);obtain⟨g,rfl,f⟩:=HV f;exact M3 j e h f.1 f.2 k
  |_=>exact f.elim
 |list=>
  obtain⟨n,o,x,e,h,f⟩:=D5 f r;cases o with
  |list g=>exact Pk j e h f.1 f.2 k
  |items m=>
   obtain⟨o,U,f⟩:=CE (show Bk _ H m from f);obtain⟨g,rfl,E,⟨V,O⟩,f⟩:=Kh f;exact IG B F j e U h O E f k
  |_=>exact f.elim
 |sorted=>
  obtain⟨n,o,x,e,h,f⟩:=D5 f r;cases o with
  |list g=>exact LT j e h f k
  |set g=>exact NQ B j e h f k
  |dict g=>exact Ki B F j e h f k
  |_=>exact f.elim
 |set=>
  obtain⟨n,o,x,e,h,f⟩:=D5 f r;obtain⟨g,rfl,f⟩:=HV (show Qe _ o from f);exact Uc B j e h f.1 f.2.1 f.2.2 k
 |dict=>
  obtain⟨n,o,x,e,h,f⟩:=D5 f r;cases o with
  |list g=>
   obtain⟨m,W,E,f⟩:=f;exact IU B (by omega) j e h W E f k
  |dict g=>
   obtain⟨E,⟨V,O⟩,f⟩:=f;exact Ib F j e h O E f k
  |_=>exact f.elim
 |abs=>
  obtain⟨i,t,f⟩:=GA f r;exact TR j f k
 |sum=>
  obtain⟨n,o,x,e,h,f⟩:=D5 f r;obtain⟨g,rfl,f⟩:=HV (show Qe _ o from f);obtain⟨is,rfl,Y,f⟩:=f;exact Te B j e h Y f k
 |int=>
  obtain⟨i,t,f⟩:=GA f r;exact call_int_int (CM k j (.int _ _) f)
 |str=>
  obtain⟨i,t,Z,h2,f⟩:=GA f r;exact PySem.P.str_of_int (PT (ZW Z (Int.lt_trans h2 (by decide)))) (BX k j _ (.str _ _) f)
 |isinstance=>
  obtain⟨v,u,x,y,h,C,f⟩:=Iz f r;cases u with
  |ty t=>
   obtain rfl:=C.ty_l;cases v with
   |int i=>
    have f:(if t= "int" then Φ (.bool true) H else if t= "bool" then Φ (.bool false) H else False):=f
    by_cases q:t= "int"
    .rw[if_pos q]at f;subst q;obtain⟨_,rfl⟩:=h.int_l;exact IsiPair.int_int (CM k j (.bool _) f)
    .rw[if_neg q]at f;by_cases R:t= "bool"
     .rw[if_pos R]at f;subst R;obtain⟨_,rfl⟩:=h.int_l;exact IsiPair.int_bool (BX k j _ (.bool _) f)
     .rw[if_neg R]at f;exact f.elim
   |tup g=>
    have f:(if t= "tuple" then Φ (.bool true) H else False):=f
    by_cases q:t= "tuple"
    .rw[if_pos q]at f;subst q;obtain⟨_,_,e,_⟩:=h.tup_l;exact IsiPair.isTuple_tuple (j.tup _ _ e) (fun J J e=>e) (CM k j (.bool _) f)
    .rw[if_neg q]at f;exact f.elim
   |_=>exact f.elim
  |_=>exact f.elim
 |_=>exact f.elim
def Uw:Xn->String
 |.append=> "list.append" |.extend=> "list.extend" |.get=> "dict.get" |.setdefault=> "dict.setdefault" |.items=> "dict.items"
theorem SX{m:Xn}(t:X.Ok)(B:B4 d A)(c:Az X G H s)(e:H[n]? =some L)(b:E9 m n l H Φ L)(h:VR G (.loc n) x)(r:BJ G l a)(k:Bj X G s Φ Q) :
  wpAny (model X.prog X.w) A (call (.builtin (Uw m)) (x::a)) Q (fun C C=>False) s:=by
 have I:=B.2.2;cases L with
 |list g=>
  cases m with
  |append=>
   obtain⟨v,rfl,b⟩:=Dz b;obtain⟨y,rfl,f⟩:=LJ r;exact NM c e h f b.1 b.2 k
  |extend=>
   obtain⟨v,rfl,b⟩:=Dz b;obtain⟨y,rfl,f⟩:=LJ r;cases v with
   |tup m=>
    obtain⟨_,_,o,E⟩:=f.tup_l;exact NK c e h o E b.1 b.2 k
   |loc j=>
    obtain⟨J,o,b⟩:=CE (show Bk _ H j from b);obtain⟨m,rfl,b⟩:=HV b;exact K1 c e o h f b.2.1 b.2.2 k
   |_=>exact False.elim b
  |_=>exact False.elim b
 |dict g=>
  obtain⟨D,i,F,p⟩:=c.dict e;obtain rfl:=h.at i;have lo:=c.notMod t (.inl ⟨_,i⟩);cases m with
  |get=>
   obtain⟨v,u,rfl,b⟩:=HX b;obtain⟨y,z,rfl,f,q⟩:=Qt r;exact Ju c lo p b.1 f q (by omega) b.2 k
  |setdefault=>
   obtain⟨v,u,rfl,b⟩:=HX b;obtain⟨y,z,rfl,f,q⟩:=Qt r;exact E3 c lo i F e p b.1 f q (by omega) b.2.1 b.2.2 k
  |items=>
   cases l with
   |nil=>
    obtain rfl:=r.nil_l;exact G6 c lo i p b k
   |cons _ _=>exact False.elim b
  |_=>exact False.elim b
 |_=>exact False.elim b
end
inductive MM where
 |tup (t:Addr) (vs:List Value) (l:List V)
 |list (n:Nat) (a:Addr) (l:List V)
 |range (a b c:Int)
 |enum (b t:Addr) (vs:List Value) (l:List V)
def MM.items:MM->List V
 |.tup _ _ l=>l
 |.list _ _ l=>l
 |.range a b c=>Bc a b c
 |.enum _ _ _ l=>l.zipIdx.map fun p=>.tup [.int p.2,p.1]
def MM.guard:MM->Aj->Prop
 |.list n _ l=>fun H=>H[n]? =some (.list l)
 |_=>fun a=>True
def Do(X:Cx)(G:Gh)(h:Heap)(I:Addr)(i:Nat):MM->Prop
 |.tup t d l=>By X G h I/\h.IsTupleIter I t i/\G.tup t=some d/\BJ G l d
 |.list n a l=>By X G h I/\h.IsListIter I a i/\G.loc n=some a
 |.range a b c=>By X G h I/\IsRangeIter h I (a+c*i) ((Bc a b c).length-i) c
 |.enum b t d l=>By X G h I/\By X G h b/\b≠I/\(∃old,IsEnum h I b i old)/\h.IsTupleIter b t i/\G.tup t=some d/\BJ G l d
section
variable {prog:Program} {w:World} {A:Around} {E:Value->Shared->Prop} {s:Shared}
theorem Fn{t:Addr}(a:s.heap.IsTupleIter b t n)
  (g:s.heap.IsTuple t m7) (h:m7[n]? =some x)
  (i:∀d,d.IsTupleIter b t (n+1)->Heap.SameBut b s.heap d->Q x { s with heap:=d }) :
  wpAny (model prog w) A (Builtin.SmallTypes.nextOf (.ref b)) Q E s:=by
 obtain⟨o,c,j,hd⟩:=id a;obtain⟨k,e,_,l,f⟩:=g;refine AA (wpAny_callSpecial?_slot (name:=ofString "__next__") a.typeIs F.slot_tuple_iterator_next
  (wpAny_call_entry F.slot_tuple_iterator_next a.typeIs F.entry_tuple_iterator_next ?_ (F.args_tuple_iterator_next_1 _)))
 show wpAny _ _ (field (.ref b) 0 >>= _) _ _ s;refine AA (wpAny_field c hd (x:=.ref t) rfl ?_);rw[if_neg (show ¬((Value.ref t==Value.none)=true)from AN)];refine AA (wpAny_field c hd (x:=.int n 0) rfl ?_);refine AA (wpAny_seqItems e f ?_);simp only[toNat_natCast,h];refine AA (wpAny_setField c hd (by simp) (AB ⟨x,rfl,AB (i _ ?_ (Heap.SameBut.update ..))⟩));exact⟨_,get?_update_self _ c (Obj.isFreed_of_fields (data_mapFields hd _)),(Obj.cls_mapFields ..).trans j,by
  rw[data_mapFields hd];simp[rawInt]⟩
theorem Fu{t:Addr}(j:A.handled=none)
  (c:s.heap.IsTupleIter b t n) (l:s.heap.IsTuple t m7) (m:m7[n]? =none)
  (p:∀f e,Heap.ExtBut b s.heap f->(∃o,f.get? e=some o/\o.cls=.type "StopIteration")->E (.ref e) { s with heap:=f }) :
  wpAny (model prog w) A (Builtin.SmallTypes.nextOf (.ref b)) Q E s:=by
 obtain⟨o,g,r,hd⟩:=id c;obtain⟨u,h,_,v,i⟩:=l;refine AA (wpAny_callSpecial?_slot (name:=ofString "__next__") c.typeIs F.slot_tuple_iterator_next
  (wpAny_call_entry F.slot_tuple_iterator_next c.typeIs F.entry_tuple_iterator_next ?_ (F.args_tuple_iterator_next_1 _)))
 show wpAny _ _ (field (.ref b) 0 >>= _) _ _ s;refine AA (wpAny_field g hd (x:=.ref t) rfl ?_);rw[if_neg (show ¬((Value.ref t==Value.none)=true)from AN)];refine AA (wpAny_field g hd (x:=.int n 0) rfl ?_);refine AA (wpAny_seqItems h i ?_);simp only[toNat_natCast,m];refine AA (wpAny_rule (AA (wpAny_setField g hd (by simp) ?_)));exact FE j fun f e k q=>p _ _ (fun a o d e=>k a o ((Heap.SameBut.update ..).extBut a o d e)) q
end
theorem GZ{prog:Program}{w:World}{A:Around}(k:A.handled=none)(a l:Addr)(f:l≠a)(items:Array Value) :
  Draws prog w A a [a,l] items.size (fun i v=>items[i]? =some v) (fun i h=>h.IsTupleIter a l i/\h.IsTuple l items) where
 live:=fun d d st=>by obtain⟨o,m,_⟩:=st.1;exact⟨o,m⟩
 frame:=fun d d d st g=>⟨st.1.at fun o e=>g a (.head _) o e,st.2.at fun o e=>g l (by exact .tail _ (.head _)) o e⟩
 item:=fun i s Q E j st n=>by
  refine Fn st.1 st.2 (x:=items[i]) (by simp[j]) fun p b c=>?_;exact n _ p s.toks (by simp[j]) ⟨b,st.2.extBut c.extBut f⟩ c
 done:=fun s Q E st q=>Fu k st.1 st.2 (by simp) q
section
variable {d:Nat} {G G':Gh} {H:Aj} {s s':Shared} {A:Around} {I:Addr} {i:Nat} {K:MM} {E:Value->Shared->Prop}
theorem Do.post(x:Do X G s.heap I i K)(p:At G P s G' s')(f:∀b,P b->b≠I/\∀C t v l,K=.enum C t v l->b≠C):Do X G' s'.heap I i K:=by
 have j:∀D,By X G s.heap D->(¬P D)->By X G' s'.heap D/\∀o,s.heap.get? D=some o->s'.heap.get? D=some o:=fun D q n=>by
  refine⟨⟨fun y=>(p.fresh D y).elim q.off fun z=>?_,q.base,?_⟩,fun o e=>p.keep D o e q.off n⟩
  .obtain⟨o,e⟩:=q.there;rw[z]at e;cases e
  .obtain⟨o,e⟩:=q.there;exact p.alive D o e
 have u:¬P I:=fun z=>(f I z).1 rfl;cases K with
 |tup t v l=>
  obtain⟨k,m,r,w⟩:=x;obtain⟨g,h⟩:=j I k u;exact⟨g,m.at h,p.le.tup _ _ r,w.le p.le⟩
 |list n a l=>
  obtain⟨k,m,r⟩:=x;obtain⟨g,h⟩:=j I k u;exact⟨g,m.at h,p.le.loc _ _ r⟩
 |range a b c=>
  obtain⟨g,h⟩:=j I x.1 u;exact⟨g,h _ x.2⟩
 |enum b t v l=>
  obtain⟨k,B,F,⟨old,m⟩,r,w,J⟩:=x;obtain⟨g,h⟩:=j I k u;obtain⟨L,M⟩:=j b B (fun z=>(f b z).2 _ _ _ _ rfl rfl);exact⟨g,L,F,⟨old,h _ m⟩,r.at M,p.le.tup _ _ w,J.le p.le⟩
theorem Ic(a b c:Int):(Bc a b c).length=(if 0<c then(b-a+c-1) / c else 0).toNat:=by unfold Bc;simp
theorem MU{a b c:Int}(h:(Bc a b c)[n]? =some v):v=.int (a+c*n)/\n<(Bc a b c).length:=by
 have e:=(AE h).1;refine⟨?_,e⟩;unfold Bc at h e;simp only[AG,length_range]at e;rw[List.getElem?_map,List.getElem?_range e]at h;simpa using h.symm
structure W5(X:Cx)(G G':Gh)(H:Aj)(D:Addr->Prop)(s s':Shared):Prop where
 le:G.Le G'
 same:FV s s'
 keep:∀b o,¬D b->s.heap.get? b=some o->s'.heap.get? b=some o
 alive:∀b o,s.heap.get? b=some o->∃o',s'.heap.get? b=some o'
 loc:∀b,G'.isLoc b->G.isLoc b
 ok:Az X G' H s'
def MM.own(K:MM)(I:Addr):Addr->Prop:=fun b=>b=I\/∃a t c l,K=.enum a t c l/\b=a
theorem UP{a:Heap}(x:Heap.ExtBut b h a):∀c o,c≠b->h.get? c=some o->a.get? c=some o:=fun c o n e=>x c o n e
theorem SF(L:A.handled=none)(r:Az X G H s)(x:Do X G s.heap I K.items.length K)(g:K.guard H)
  (M:∀s',Az X G H s'->FV s s'->(∀b o,¬K.own I b->s.heap.get? b=some o->s'.heap.get? b=some o)->j none s'):wpAny (model X.prog X.w) A (pyNext (.ref I)) j E s:=by
 cases K with
 |tup t B l=>
  obtain⟨N,q,u,O⟩:=x;have f:∀h,¬s.heap.IsTuple I h:=by
   rintro h ⟨P,k,m,_⟩;obtain⟨o,C,F,_⟩:=q;rw[C]at k;cases k;rw[F]at m;exact absurd m (by decide)
  refine wpAny_pyNext_tuple_end L q (r.tup _ _ u) (Array.getElem?_eq_none (AT O.length.symm)) fun v y=>?_;have p:∀b o,b≠I->s.heap.get? b=some o->v.get? b=some o:=fun b o n e=>y b o n e;exact M _ (r.priv N f p) ⟨rfl,rfl⟩ fun b o n e=>p b o (fun z=>n (.inl z)) e
 |list n a l=>
  obtain⟨N,q,u⟩:=x;obtain⟨W,B,R,T,U⟩:=r.list g;rw[u]at R;cases R;have f:∀h,¬s.heap.IsTuple I h:=by
   rintro h ⟨P,k,m,_⟩;obtain⟨o,C,F,_⟩:=q;rw[C]at k;cases k;rw[F]at m;exact absurd m (by decide)
  refine wpAny_pyNext_list_end L q T (Array.getElem?_eq_none (AT U.length.symm)) fun v y=>?_;have p:∀b o,b≠I->s.heap.get? b=some o->v.get? b=some o:=fun b o n e=>y b o n e;exact M _ (r.priv N f p) ⟨rfl,rfl⟩ fun b o n e=>p b o (fun z=>n (.inl z)) e
 |range a b c=>
  have f:∀h,¬s.heap.IsTuple I h:=by
   rintro h ⟨P,k,m,_⟩;rw[x.2]at k;cases k;simp only at m;exact absurd (Value.type.inj m) (by decide)
  refine wpAny_pyNext_range_end L x.2 (by show((Bc a b c).length:Int)-((Bc a b c).length:Int)<=0;exact Int.le_of_eq (Int.sub_self _)) fun v y=>?_;have p:∀b o,b≠I->s.heap.get? b=some o->v.get? b=some o:=fun b o n e=>y b o n e;exact M _ (r.priv x.1 f p) ⟨rfl,rfl⟩ fun b o n e=>p b o (fun z=>n (.inl z)) e
 |enum b t B l=>
  obtain⟨N,Q,Y,⟨old,q⟩,u,O,V⟩:=x;have f:∀h,¬s.heap.IsTuple b h:=by
   rintro h ⟨P,k,m,_⟩;obtain⟨o,C,F,_⟩:=u;rw[C]at k;cases k;rw[F]at m;exact absurd (Value.type.inj m) (by decide)
  have S:=r.tup _ _ O;have J:(MM.enum b t B l).items.length=B.length:=(AG ..).trans (List.length_zipIdx.trans V.length);rw[J]at q u;refine wpAny_pyNext_enum_endD (D:=GZ (prog:=X.prog) (w:=X.w) (A:=A.in1) L b t (fun z=>f _ (z▸S)) B.toArray) q (by simpa using⟨u,S⟩) fun v y=>?_;have p:∀c o,c≠b->s.heap.get? c=some o->v.get? c=some o:=fun c o n e=>y c o n e;exact M _ (r.priv Q f p) ⟨rfl,rfl⟩ fun c o n e=>p c o (fun z=>n (.inr ⟨b,t,B,l,rfl,z⟩)) e
theorem Pt{j:Int}{t:Tok}(h:g () s):wpAny (model X.prog X.w) A (letOwnedTupleGo e (.ref b) (.int j t)) g E s:=by
 cases e<;>exact AB h
def MM.fits(K:MM)(a:Expr):Prop:=match K with |.enum .. =>∃b x p,a=.Tuple b x p |_=>True
theorem Gr{o:Obj}(e:h.get? b=some o)(n:o.cls≠.type "tuple"):∀a,¬h.IsTuple b a:=(by rintro a ⟨g,c,f,_⟩;exact n (by cases e.symm.trans c;exact f))
theorem Ko{t:Addr}(x:h.IsTupleIter b t n):∀a,¬h.IsTuple b a:=by
 obtain⟨o,c,e,_⟩:=x;exact Gr c (by rw[e];decide)
theorem RO{t:Addr}(x:h.IsListIter b t n):∀a,¬h.IsTuple b a:=by
 obtain⟨o,c,e,_⟩:=x;exact Gr c (by rw[e];decide)
theorem NA(m:Az X G H s)(f:By X G s.heap I)(j:∀p,¬s.heap.IsTuple I p)(q:Heap.SameBut I s.heap h)(l:∃o,h.get? I=some o)
  (c:∀G' s',Az X G' H s'->FV s s'->G.Le G'->(∀b,G'.isLoc b->G.isLoc b)->(∀b o,¬K.own I b->s.heap.get? b=some o->s'.heap.get? b=some o)->(∀b o,s.heap.get? b=some o->∃r,s'.heap.get? b=some r) ->
    Do X G' s'.heap I (i+1) K->VR G' v x->g () s') (t:By X G h I->Do X G h I (i+1) K) (u:VR G v x):g () { s with heap:=h,toks:=n }:=by
 have k:∀b o,b≠I->s.heap.get? b=some o->h.get? b=some o:=fun b o a e=>(q.2 b a).trans e;exact c G _ (m.priv f j k) ⟨rfl,rfl⟩ (.refl G) (fun w z=>z) (fun b o a e=>k b o (fun z=>a (.inl z)) e)
   (fun b o e=>if z:b=I then z▸l else⟨o,k b o z e⟩) (t ⟨f.off,f.base,l⟩) u
set_option tactic.hygienic true in
theorem Nq{target:Expr}{Q:Option Value->Shared->Prop}(hA:A.handled=none)(k:Az X G H s)(x:Do X G s.heap I i K)(g:K.guard H)(T:K.items[i]? =some v)(ft:K.fits target)
  (hQ:∀y L,(∀j:Unit->Shared->Prop,(∀G' s',Az X G' H s'->FV s s'->G.Le G'->(∀b,G'.isLoc b->G.isLoc b)->(∀b o,¬K.own I b->s.heap.get? b=some o->s'.heap.get? b=some o)->(∀b o,s.heap.get? b=some o->∃o',s'.heap.get? b=some o') ->
    Do X G' s'.heap I (i+1) K->VR G' v y->j () s')->wpAny (model X.prog X.w) A (letOwnedTupleGo target (.ref I) y) j E L)->Q (some y) L) :
  wpAny (model X.prog X.w) A (pyNext (.ref I)) Q E s:=by
 cases K with
 |tup t U l=>
  obtain⟨C,M,N,W⟩:=x;obtain⟨y,Y,Z⟩:=W.get T;refine wpAny_pyNext_tuple_item M (k.tup _ _ N) (x:=y) (by simpa using Y) fun S f F=>?_;exact hQ y _ fun j h=>letGo_tupleiter (s':={ s with heap:=S }) f (NA k C (Ko M) F (by obtain⟨o,e,_⟩:=f;exact⟨o,e⟩) h (fun p=>⟨p,f,N,W⟩) Z)
 |list n a l=>
  obtain⟨C,M,N⟩:=x;obtain⟨a',U,f1,f2,f3⟩:=k.list g;rw[N]at f1;cases f1;obtain⟨y,Y,Z⟩:=f3.get T;refine wpAny_pyNext_list_item M f2 (x:=y) (by simpa using Y) fun S f F=>?_;exact hQ y _ fun j h=>letGo_listiter (s':={ s with heap:=S }) f (NA k C (RO M) F (by obtain⟨o,e,_⟩:=f;exact⟨o,e⟩) h (fun p=>⟨p,f,N⟩) Z)
 |range a b c=>
  obtain⟨rfl,i0⟩:=MU T;refine wpAny_pyNext_range_item x.2 (Int.sub_pos_of_lt (Int.ofNat_lt.mpr i0)) fun S f F=>?_;refine hQ _ _ fun j h=>Pt (NA k x.1 (Gr x.2 fun g=>absurd (Value.type.inj g) (by decide)) F ⟨_,f⟩ h (fun p=>⟨p,?_⟩) (.int _ _));have e1:a+c*(i:Int)+c=a+c*((i+1:Nat):Int):=by rw[Int.natCast_add,Int.mul_add];simp[Int.add_assoc]
  rw[e1,(Int.sub_sub _ _ _)]at f;exact f
 |enum b t U l=>
  obtain⟨C,J,h0,⟨old,M⟩,N,W,h5⟩:=x;obtain⟨es,x1,pp,rfl⟩:=ft;have a0:=Ko N;have O:∀u,¬s.heap.IsTuple I u:=Gr M fun g=>absurd (Value.type.inj g) (by decide);have ht:=k.tup _ _ W;have j0:I≠t:=fun z=>O _ (z▸ht);have hi:i<l.length:=by
   have:i<(l.zipIdx.map _).length:=(AE T).1;rw[AG,length_zipIdx]at this;exact this
  have k0:v=.tup [.int i,l[i]]:=by
   have:((l.zipIdx.map fun p=>V.tup [.int p.2,p.1])[i]?)=some v:=T;rw[List.getElem?_map,List.getElem?_zipIdx,AD hi]at this;simpa using this.symm
  obtain⟨y,Y,Z⟩:=h5.get (AD hi);refine wpAny_pyNext_enum_itemD (D:=GZ (prog:=X.prog) (w:=X.w) (A:=A.in1) hA b t (fun z=>a0 _ (z▸ht)) U.toArray) M ⟨N,ht⟩ (by simpa [<- h5.length]using hi) h0.symm (by simp[h0.symm,j0]) fun x S P hx b0 l0 m0 hz hk=>?_;have n0:x=y:=by
   have:U[i]? =some x:=by simpa using hx
   rw[Y]at this;exact(Option.some.inj this).symm
  subst n0;refine hQ _ _ fun j h=>wpAny_letOwnedTupleGo_enum (s:={ s with heap:=S,toks:=P+1 }) b0 fun m he F=>?_;have c0:s.heap.get? s.heap.objs.size=none:=Aw _;have o0:s.heap.objs.size≠I:=fun z=>by obtain⟨o,e⟩:=C.there;rw[<- z,c0]at e;cases e
  have B:∀c o,c≠I->c≠b->s.heap.get? c=some o->m.get? c=some o:=fun c o n1 n2 e=>(F.2 c n1).trans (hk c o n1 n2 e);have d0:∃o,m.get? I=some o:=⟨_,he⟩;have R:m.IsTupleIter b t (i+1):=l0.1.at fun o e=>(F.2 b h0).trans e;have f0:∃o,m.get? b=some o:=by obtain⟨o,e,_⟩:=R;exact⟨o,e⟩
  have p0:m.IsTuple s.heap.objs.size [Value.int i P,x].toArray:=⟨_,(F.2 _ o0).trans m0,rfl,0,rfl⟩;have al:∀c o,s.heap.get? c=some o->∃o',m.get? c=some o':=fun c o e=>by
   by_cases z1:c=I
   .rw[z1];exact d0
   .by_cases z2:c=b
    .rw[z2];exact f0
    .exact⟨o,B c o z1 z2 e⟩
  have r:Az X G H { s with heap:=m,toks:=P+1 }:=by
   refine⟨fun c o e=>B c o (fun q=>by rw[q,C.base]at e;cases e) (fun q=>by rw[q,J.base]at e;cases e) (k.base c o e),k.off,fun n o e=>?_,k.dom,k.inj,k.inj',k.apart,fun a u e=>?_,k.gtup⟩
   .exact(k.loc n o e).le (.refl G) rfl fun c ob hb q=>B c ob (fun z=>C.off (z▸(hb.imp (fun z=>⟨n,z⟩) fun z=>⟨n,z⟩))) (fun z=>J.off (z▸(hb.imp (fun z=>⟨n,z⟩) fun z=>⟨n,z⟩))) q
   .exact(k.tup a u e).at fun o q=>B a o (fun z=>O _ (z▸k.tup a u e)) (fun z=>a0 _ (z▸k.tup a u e)) q
  have le:G.Le (G.addTup s.heap.objs.size [Value.int i P,x]):=k.leTup c0 _;have g0:Az X (G.addTup s.heap.objs.size [Value.int i P,x]) H { s with heap:=m,toks:=P+1 }:=by
   refine⟨r.base,r.off,fun n o e=>(r.loc n o e).le le rfl fun c ob _ q=>q,r.dom,r.inj,r.inj',r.apart,fun a u e=>?_,fun a u e=>le.tup a u (k.gtup a u e)⟩;have e':(if a=s.heap.objs.size then some [Value.int i P,x]else G.tup a)=some u:=e
   split at e'
   .rename_i z;cases e';rw[z];exact p0
   .exact r.tup a u e'
  refine h _ _ g0 ⟨rfl,rfl⟩ le (fun _ z=>z) (fun c o n e=>B c o (fun z=>n (.inl z)) (fun z=>n (.inr ⟨b,t,U,l,rfl,z⟩)) e) al ?_ ?_
  .exact⟨⟨C.off,C.base,d0⟩,⟨J.off,J.base,f0⟩,h0,⟨x,he⟩,R,le.tup _ _ W,h5.le le⟩
  .rw[k0];refine .tup (by show(if s.heap.objs.size=s.heap.objs.size then some [Value.int i P,x]else _)=_;rw[if_pos rfl]) (.cons (.int _ _) (.cons (Z.le le) .nil))
end
theorem Mr{j k:Int}(c:k=1\/k=2):Builtin.Range.rangeSize i j k=((Bc i j k).length:Int):=by
 have b:0<k:=by rcases c with rfl |rfl<;>decide
 rw[Ic];unfold Builtin.Range.rangeSize;rw[if_pos b,if_pos b];by_cases h:i<j
 .have e:j-i+k-1=(j-i-1)+1*k:=by rw[Int.one_mul,Int.sub_eq_add_neg,Int.sub_eq_add_neg (a:=j-i),Int.add_right_comm]
  rw[if_pos h,e,Int.add_mul_ediv_right _ _ (Int.ne_of_gt b)];exact(Int.toNat_of_nonneg (Int.add_nonneg (Int.ediv_nonneg (by rw[Int.sub_sub];exact Int.sub_nonneg.mpr h) (Int.le_of_lt b)) (by decide))).symm
 .rw[if_neg h];exact(congrArg Int.ofNat (Int.toNat_of_nonpos (Int.le_of_lt_add_one (Int.ediv_lt_of_lt_mul b (by show j-i+k-1<1*k;omega))))).symm
theorem Z0(a:-(n:Int)<i)(b:i<n):i.natAbs<n:=by
 cases i with
 |ofNat k=>exact Int.ofNat_lt.mp b
 |negSucc k=>exact Int.ofNat_lt.mp (Int.lt_of_neg_lt_neg a)
theorem Mj(h:i.natAbs<n):-(n:Int)<i:=Int.neg_lt_of_neg_lt (Int.lt_of_le_of_lt (Int.natAbs_neg i▸Int.le_natAbs) (Int.ofNat_lt.mpr h))
theorem M7(h:i.natAbs<n):i<n:=Int.lt_of_le_of_lt Int.le_natAbs (Int.ofNat_lt.mpr h)
set_option tactic.hygienic true in
theorem Kx{j k:Int}(d:i.natAbs<2 ^ 30)(e:j.natAbs<2 ^ 30)(g:k=1\/k=2):Builtin.Range.small i j k=true:=by
 have c:∀x:Int,-1152921504606846976<x->x<1152921504606846976->Builtin.Range.rangeFitsLong x=true:=fun x d e=>by
  unfold Builtin.Range.rangeFitsLong;rw[decide_eq_true (Int.le_of_lt (Int.lt_trans (by decide) d)),decide_eq_true (Int.lt_trans e (by decide))];rfl
 have l:-1073741824<i:=Mj d;have m:i<1073741824:=M7 d;have n:-1073741824<j:=Mj e;have b2:j<1073741824:=M7 e;have f:0<k:=by rcases g with rfl |rfl<;>decide
 have o:k<3:=by rcases g with rfl |rfl<;>decide
 unfold Builtin.Range.small;have h:-1152921504606846976<Builtin.Range.rangeSize i j k/\Builtin.Range.rangeSize i j k<1152921504606846976:=by
  unfold Builtin.Range.rangeSize;rw[if_pos f]
  split
  .rename_i q;have p:=Int.ediv_nonneg (a:=j-i-1) (b:=k) (by lia) (Int.le_of_lt f);have r:=Int.ediv_le_self k (show 0<=j-i-1 by lia);generalize(j-i-1) / k=z at p r;exact⟨by lia,by lia⟩
  .exact⟨by decide,by decide⟩
 rw[c i (Int.lt_trans (by decide) l) (Int.lt_trans m (by decide)),c j (Int.lt_trans (by decide) n) (Int.lt_trans b2 (by decide)),c k (Int.lt_trans (by decide) f) (Int.lt_trans o (by decide)),c _ h.1 h.2,if_pos f,c _ (by lia) (by lia)];simp only[Bool.true_and,Bool.or_true]
section
variable {d:Nat} {G G':Gh} {H:Aj} {s s':Shared} {A:Around} {I:Addr} {i:Nat} {K:MM} {E:Value->Shared->Prop}
theorem CR{o:Obj}:∀b a,s.heap.get? b=some a->(s.heap.push o).get? b=some a:=fun b a e=>get?_push_of_some _ e
inductive OM(H:Aj)(a:List V->(Aj->Prop)->Aj->Prop):V->Prop
 |tup (l:List V):a l (fun b=>True) H->OM H a (.tup l)
 |list (n:Nat) (l:List V):H[n]? =some (.list l)->a l (fun c=>c[n]? =some (.list l)) H->OM H a (.loc n)
 |range (n:Nat) (i j k:Int):H[n]? =some (.range i j k)->i.natAbs<2 ^ 30->j.natAbs<2 ^ 30->(k=1\/k=2)->a (Bc i j k) (fun b=>True) H->OM H a (.loc n)
theorem Vd(a:Cd v H r):OM H r v:=by
 unfold Cd at a;cases v with
 |tup l=>exact .tup _ a
 |loc n=>
  refine CK (H[n]?) (fun e=>?_) fun o e=>?_
  .dsimp only at a;rw[e]at a;exact a.elim
  .dsimp only at a;rw[e]at a;cases o with
   |list l=>exact .list _ _ e a
   |range i j k=>exact .range _ _ _ _ e a.1 a.2.1 a.2.2.1 a.2.2.2
   |_=>exact a.elim
 |_=>exact a.elim
theorem Hh(f:Az X G H s)(p:Cd v H r)(a:VR G v x)
  (J:∀I K s',Az X G H s'->At G Cs s G s'->s.heap.get? I=none->(∀b,K.own I b->s.heap.get? b=none)->Do X G s'.heap I 0 K->K.guard H->(∀t,K.fits t)->r K.items K.guard H->Q (.ref I) s') :
  wpAny (model X.prog X.w) A (pyIter x) Q E s:=by
 have go:∀{K:MM}{o:Obj},(∀b,K.own s.heap.objs.size b->b=s.heap.objs.size)->Do X G (s.heap.push o) s.heap.objs.size 0 K->K.guard H->(∀t,K.fits t)->r K.items K.guard H->Q (.ref s.heap.objs.size) { s with heap:=s.heap.push o }:=fun L M g N p=>
  J _ _ _ (f.keeps CR) (.ofKeeps ⟨_,s.toks,rfl⟩ CR _) (Aw _) (fun b z=>L b z▸Aw _) M g N p
 have q:∀{o:Obj}(h:autoParam (o.isFreed=false) rf),By X G (s.heap.push o) s.heap.objs.size:=fun h=>.new f (Aw _) ⟨_,get?_push_size _ h⟩;cases Vd p with
 |tup l c=>
  obtain⟨t,B,e,O⟩:=a.tup_l;refine wpAny_pyIter_tuple (f.tup _ _ e) (go (K:=.tup t B l) (fun b z=>z.elim id (by rintro⟨_,_,_,_,z,_⟩;cases z)) ⟨q,⟨_,get?_push_size _ rfl,rfl,rfl⟩,e,O⟩ trivial (fun C=>trivial) c)
 |list n l e c=>
  obtain⟨v,B,m,y,U⟩:=f.list e;obtain rfl:=a.at m;refine wpAny_pyIter_list y (go (K:=.list _ v l) (fun b z=>z.elim id (by rintro⟨_,_,_,_,z,_⟩;cases z)) ⟨q,⟨_,get?_push_size _ rfl,rfl,rfl⟩,m⟩ e (fun C=>trivial) c)
 |range n i j k e P R D c=>
  obtain⟨v,t,u,F,m,_,y⟩:=f.loc _ _ e;obtain rfl:=a.at m;refine wpAny_pyIter_range y (Kx P R D) (go (K:=.range i j k) (fun b z=>z.elim id (by rintro⟨_,_,_,_,z,_⟩;cases z)) ⟨q,?_⟩ trivial (fun C=>trivial) c);have S:i+k*((0:Nat):Int)=i:=by simp
  have T:((Bc i j k).length:Int)-((0:Nat):Int)=Builtin.Range.rangeSize i j k:=by rw[Mr D];simp
  rw[S,T];exact get?_push_size _ rfl
theorem Oq(g:Az X G H s)(e:G.tup b=some a)(r:BJ G l a)
  (v:∀I f s',Az X G H s'->At G Cs s G s'->s.heap.get? I=none->s.heap.get? f=none->Do X G s'.heap I 0 (.enum f b a l)->Q (.ref I) s') :
  wpAny (model X.prog X.w) A (call (.type "enumerate") [.ref b]) Q E s:=by
 obtain⟨⟨c,h,x,y⟩,z,j,n,hd⟩:=g.tup _ _ e;replace j:c=.type "tuple" :=j;replace hd:x=.seq a.toArray n:=hd;subst j hd;refine callType_new F.called_enumerate (by decide) (F.typeCall_enumerate_1 _) (F.newCall_enumerate_1 _) (fun k=>F.args_object_init_2 k _) F.entry_enumerate_new
  (Pz b a.toArray n h y) ⟨z,?_⟩
 have p:(s.heap.push { cls:=.type "tuple_iterator",data:=.fields #[.ref b,.int 0 0] }).objs.size=s.heap.objs.size+1:=Heap.size_push ..;rw[p];have m:((s.heap.push { cls:=.type "tuple_iterator",data:=.fields #[.ref b,.int 0 0] }).push
   { cls:=.type "enumerate",data:=.fields #[.none,.bool false,.ref s.heap.objs.size,rawInt 0,.none,.none] }).get? (s.heap.objs.size+1)=some { cls:=.type "enumerate",data:=.fields #[.none,.bool false,.ref s.heap.objs.size,rawInt 0,.none,.none] }:=by
  rw[<- p];exact get?_push_size _ rfl
 refine⟨⟨_,m,rfl⟩,?_⟩;have q:∀f o,s.heap.get? f=some o->((s.heap.push { cls:=.type "tuple_iterator",data:=.fields #[.ref b,.int 0 0] }).push
   { cls:=.type "enumerate",data:=.fields #[.none,.bool false,.ref s.heap.objs.size,rawInt 0,.none,.none] }).get? f=some o:=fun f o e=>get?_push_of_some _ (get?_push_of_some _ e)
 have t:s.heap.get? (s.heap.objs.size+1)=none:=get?_none_of_le (le_succ _);have u:((s.heap.push { cls:=.type "tuple_iterator",data:=.fields #[.ref b,.int 0 0] }).push
   { cls:=.type "enumerate",data:=.fields #[.none,.bool false,.ref s.heap.objs.size,rawInt 0,.none,.none] }).get? s.heap.objs.size=some { cls:=.type "tuple_iterator",data:=.fields #[.ref b,.int 0 0] }:=get?_push_of_some _ (get?_push_size _ rfl)
 refine v _ s.heap.objs.size _ (g.keeps q) (.ofKeeps ⟨_,s.toks,rfl⟩ q _) t (Aw _) ⟨.new g t ⟨_,m⟩,.new g (Aw _) ⟨_,u⟩,Nat.ne_of_lt (lt_succ_self _),⟨_,m⟩,⟨_,u,rfl,rfl⟩,e,r⟩
end
section
variable {d:Nat} {G G':Gh} {H:Aj} {sc:List (Str×NameKind)} {ρ:BA} {env:Env} {own:Addr->Prop} {s s':Shared} {A:Around}
theorem St.move{g:Aj}(x:St X G H sc ρ env own s)(p:At G P s G' s')(h:Az X G' g s')(a:∀b,P b->¬own b/\b≠env.locals/\∀x c,env.cells.lookup x=some c->b≠c):St X G' g sc ρ env own s':=⟨h,x.f.keep p.le (fun b o q e=>p.keep b o e (x.f.off q) fun z=>q.elim (a b z).1 (by rintro⟨y,i⟩;exact(a b z).2.2 y b i rfl)) fun j j e z=>p.old e z⟩
theorem At.mono{a:Addr->Prop}(p:At G P s G' s')(h:∀b,P b->a b):At G a s G' s':=p.own h
theorem C0{k:BA->Prop}(st:St X G H sc ρ env own s)(c:EO sc y v ρ k)(r:VR G v x)
  (e:∀a s',At G own s G s'->St X G H sc a env own s'->k a->g () s'):wpAny (model X.prog X.w) A (bindName env y x) g (fun f f=>False) s:=by
 refine AA (AC (wpAny_point (AA (Oh st c r fun a s' p b kk=>?_))));exact wpAny_point (e a s' p b kk)
theorem Gm{k:BA->Prop}(a:sc.lookup y=some .local\/sc.lookup y=some .cell)(b:(lk E y).isSome=true)(h:k (Ck E y v)):EO sc y v E k:=
 Nj (Bool.and_eq_true_iff.mpr ⟨a.elim (fun e=>by rw[e];rfl) (fun e=>by rw[e];rfl),b⟩) h
theorem LU{a:List Expr}(c:sc.lookup y=some .local\/sc.lookup y=some .cell)(e:(lk E y).isSome=true)(h:BW sc a l (Ck E y v) F):BW sc (.Name y q::a) (v::l) E F:=
 show EO sc y v E (fun b=>BW sc a l b F)from Gm c e h
theorem WX(h:EO sc y v E F):GH sc (.Name y q) v E F:=h
theorem BW.ind{P:List Expr->List V->BA->(BA->Prop)->Prop}(nil:∀ρ k,k ρ->P [] [] ρ k)
  (cons:∀x p a v l ρ k,(sc.lookup x=some .local\/sc.lookup x=some .cell)->(lk ρ x).isSome=true->BW sc a l (Ck ρ x v) k->P a l (Ck ρ x v) k->P (.Name x p::a) (v::l) ρ k) {a:List Expr}:∀{l:List V}{ρ:BA}{k:BA->Prop},BW sc a l ρ k->P a l ρ k:=by
 induction a with
 |nil=>
  intro l ρ k h;cases l with
  |nil=>exact nil _ _ h
  |cons _ _=>exact h.elim
 |cons e a f=>
  intro l ρ k h;cases l with
  |nil=>exact h.elim
  |cons v l=>
   obtain⟨x,q,b⟩:=JS (show ov (EK e) (fun x=>EO sc x v ρ fun c=>BW sc a l c k)from h);obtain⟨p,rfl⟩:=Kc q;have b:=KZ b;exact cons _ p _ _ _ _ _ b.1 b.2.1 b.2.2 (f b.2.2)
theorem Pi{c:List Expr}{s:Shared}(st:St X G H sc E env own s)(j:BW sc c l E F)(r:BJ G l a)
  (e:∀b s',At G own s G s'->St X G H sc b env own s'->F b->g () s'):wpAny (model X.prog X.w) A (assignInOrder ((assignEach c env).map (·.2)) a) g (fun i i=>False) s:=by
 refine BW.ind (P:=fun c l E F=>∀{a:List Value}{s:Shared},St X G H sc E env own s->BJ G l a->(∀b s',At G own s G s'->St X G H sc b env own s'->F b->g () s') ->
  wpAny (model X.prog X.w) A (assignInOrder ((assignEach c env).map (·.2)) a) g (fun i i=>False) s) (fun E F j a s st r e=>?_) (fun x p c v l E F t u i z a s st r e=>?_) j st r e
 .obtain rfl:=r.nil_l;exact AB (e E s (.refl ..) st j)
 .obtain⟨y,I,B,C⟩:=r.cons_l;refine AA (AC (AA (wpAny_standAt (C0 (k:=fun b=>b=Ck E x v) st (Gm t u rfl) B fun b s' D m kk=>?_))));subst kk;exact z m C fun f n o h q=>e f n (D.trans o) h q
theorem QG{b:List Expr}(h:BW sc b l E F):b.length=l.length:=
 BW.ind (P:=fun b l a a=>b.length=l.length) (fun a a a=>rfl) (fun a a a a a a a a a a c=>congrArg (· + 1) c) h
theorem KN{b:List Expr}(h:BW sc b l E F):(assignEach b env).length=b.length/\(assignEach b env).findIdx? (·.1)=none:=
 BW.ind (P:=fun b a a a=>(assignEach b env).length=b.length/\(assignEach b env).findIdx? (·.1)=none) (fun a a a=>⟨rfl,rfl⟩) (fun x p b a a a a a a a c=>
  ⟨congrArg (· + 1) c.1,by show List.findIdx? _ ((false,assign (.Name x p) env)::assignEach b env)=none;rw[findIdx?_cons,c.2];rfl⟩) h
theorem Gq{t:Expr}{k:BA->Prop}{Q:Unit->Shared->Prop}(z:A.handled=none)(st:St X G H sc ρ env own s)(f:GH sc t v ρ k)(r:VR G v x)
  (m:∀c s',At G own s G s'->St X G H sc c env own s'->k c->Q () s'):wpAny (model X.prog X.w) A (assign t env x) Q (fun B B=>False) s:=by
 cases Qp f with
 |name n p _ f=>exact AA (wpAny_standAt (C0 st f r m))
 |tup C K p l f=>
  obtain⟨a,D,e,q⟩:=r.tup_l;rw[arm_assign_Tuple];refine AA (wpAny_standAt ?_);unfold unpack;obtain⟨E,F⟩:=KN (env:=env) f;rw[E,F];have g:C.length=D.toArray.size:=by rw[QG f,q.length];simp
  rw[g];refine AA (AC (wpAny_unpackItems_tuple z (st.h.tup _ _ e) fun i I=>?_));have u:∀b o,s.heap.get? b=some o->i.get? b=some o:=fun b o e=>I b o (Nat.ne_of_lt (lt_size e)) e;have y:At G Cs s G { s with heap:=i }:=.ofKeeps ⟨_,s.toks,rfl⟩ u _;exact Pi (s:={ s with heap:=i }) (st.step y (st.h.keeps u)) f (q) fun c s' J j kk=>m c s' ((y.nil own).trans J) j kk
end
structure ES(X:Cx)(d:Nat)(e:Expr):Prop where
 val:∀sc ρ H Φ,Br X d e sc ρ H Φ->DW X d sc (eval e) ρ H Φ
 test:∀sc ρ H Φ,Qa X d e sc ρ H (fun k=>Br X d e sc ρ H k) Φ->QC X d sc (fun env=>isTrue e env (eval e env)) ρ H Φ
section
variable {d:Nat} {sc:List (Str×NameKind)} {ρ:BA} {H:Aj} {Φ:V->Aj->Prop}
theorem Pr{c:Const}(a:Br X d (.Constant c n q) sc ρ H Φ):DW X d sc (eval (.Constant c n q)) ρ H Φ:=by
 intro A G env own s e st Q k;rw[arm_eval_Constant];cases c with
 |none=>(conv at a=>whnf);exact AB (k G H .none _ _ (.refl ..) st.h .none a)
 |bool b=>(conv at a=>whnf);exact AB (k G H (.bool b) _ _ (.refl ..) st.h (.bool b) a)
 |int i=>(conv at a=>whnf);exact wpAny_mkInt (k G H (.int i) _ _ (.tok _ _) (st.h.tok _) (.int i _) a)
 |str x=>(conv at a=>whnf);exact wpAny_mkText (k G H (.str x) _ _ (.tok _ _) (st.h.tok _) (.str x _) a)
 |_=>exact False.elim a
theorem Oo{r:Expr}{i:Operator}(n:ES X d e)(o:ES X d r)(j:Br X d (.BinOp e i r q) sc ρ H Φ):DW X d sc (eval (.BinOp e i r q)) ρ H Φ:=by
 intro A G env own s c st Q k
 (conv at j=>whnf)
 rw[arm_eval_BinOp];refine AA (n.val _ _ _ _ j A G env own s c st _ fun p L a x t l u w f=>?_);refine AA (AC (o.val _ _ _ _ f A p env own t c (st.step l u) _ fun M N b y s2 m B C g=>?_));refine AA (wpAny_standAt ?_);exact wpAny_operating (TK (d:=d) g (w.le m.le) C A s2 c B Q fun D E v z F I J K h=>k D E v z F (l.trans (m.trans I)) J K h)
theorem MJ{f:UnaryOp}(i:ES X d e)(g:Br X d (.UnaryOp f e q) sc ρ H Φ):DW X d sc (eval (.UnaryOp f e q)) ρ H Φ:=by
 intro A G env own s h st Q k
 (conv at g=>whnf)
 rw[arm_eval_UnaryOp];refine AA (i.val _ _ _ _ g A G env own s h st _ fun x y a e j l m n b=>?_);refine AA (wpAny_standAt (AC ?_));exact WR (d:=d) b n A j h m Q fun o p v z r t u w c=>k o p v z r (l.trans t) u w c
theorem Pp{b o:Expr}(w:ES X d e)(x:ES X d b)(y:ES X d o)(p:Br X d (.IfExp e b o q) sc ρ H Φ):DW X d sc (eval (.IfExp e b o q)) ρ H Φ:=by
 intro A G env own s h st Q k
 (conv at p=>whnf)
 rw[arm_eval_IfExp];refine AA (w.test _ _ _ _ p A G env own s h st _ fun r B c t g u f=>?_);cases c with
 |true=>
  exact x.val _ _ _ _ f A r env own t h (st.step g u) Q fun i j v z s2 l m n a=>k i j v z s2 (g.trans l) m n a
 |false=>
  exact y.val _ _ _ _ f A r env own t h (st.step g u) Q fun i j v z s2 l m n a=>k i j v z s2 (g.trans l) m n a
def nS(e:Expr):Bool:=e.ctorIdx != 22
theorem RI(h:nS e=true)(a:List Expr)(env:Env):starEach (e::a) env=(false,eval e env)::starEach a env:=by
 cases e<;>first |rfl |exact absurd h AN
def CN(a:List Expr):Bool:=a.all nS
theorem aL{b:Bool}(h:(s&&b)=true):s=true:=(Aa h).1
theorem aR{b:Bool}(h:(s&&b)=true):b=true:=(Aa h).2
theorem Z4(h:k≠n):Nat.hasNotBit (2 ^ n) k:=fun e=>by
 have q:(1 &&&(2 ^ n >>> k) != 0)=false:=Nat.testBit_two_pow_of_ne (Ne.symm h);rw[show(1 &&&2 ^ n >>> k)=1 from e]at q;exact absurd q (by decide)
theorem X2(h:k≠23):Nat.hasNotBit 8388608 k:=Z4 h
theorem Ej{pos:Pos}{b:List Expr}:(∀e∈b,ES X d e)->CN b=true->∀{sc:List (Str×NameKind)}{ρ:BA}{H:Aj}{Φ:List V->Aj->Prop},Gb X d b sc ρ H Φ ->
  Xt X d sc (fun env=>spliced (backTo pos (starEach b env))) ρ H (fun f r=>f.length=b.length/\Φ f r):=by
 induction b with
 |nil=>exact fun g g sc ρ H Φ i A G env own s j st Q k=>spliced_nil (k G H [] [] s (.refl ..) st.h .nil ⟨rfl,i⟩)
 |cons e b t=>
  intro m n sc ρ H Φ i A G env own s j st Q k;refine rwl (p:=fun y=>wpAny (model X.prog X.w) A (spliced (backTo pos y)) Q (fun g g=>False) s) (RI (aL n) b env) (spliced_cons ?_);refine(m e (.head _)).val _ _ _ _ i A G env own s j st _ fun u K a x v o z B l=>?_;exact t (fun e C=>m e (.tail _ C)) (aR n) l A u env own v j (st.step o z) _ fun D E f F s2 q I J c=>k D E (a::f) (x::F) s2 (o.trans q) I (.cons (B.le q.le) J) ⟨congrArg (· + 1) c.1,c.2⟩
theorem DL{pos:Pos}{env:Env}{a:List Expr}(h:CN a=true):(backTo pos (starEach a env)).any (·.1)=false/\(backTo pos (starEach a env)).length=a.length/\((backTo pos (starEach a env)).all (fun x=> !x.1))=true:=by
 induction a with
 |nil=>exact⟨rfl,rfl,rfl⟩
 |cons e a b=>
  have h:=Aa h;have b:=b h.2;refine rwl (p:=fun y=>(backTo pos y).any (·.1)=false/\(backTo pos y).length=(e::a).length/\((backTo pos y).all (fun x=> !x.1))=true) (RI h.1 a env) ⟨b.1,congrArg (· + 1) b.2.1,b.2.2⟩
theorem QE{a:List Expr}(i:∀e∈a,ES X d e)(j:CN a=true)(y:a.length<=100)(g:Br X d (.Tuple a n q) sc ρ H Φ):DW X d sc (eval (.Tuple a n q)) ρ H Φ:=by
 intro A G env own s l st Q k
 (conv at g=>whnf)
 rw[arm_eval_Tuple];refine AA (wpAny_standAt (AA (Ej i j g A G env own s l st _ fun z B C D E m o h b=>?_)));exact wpAny_newTuple (Jk (fun p r v c t u w x f=>k p r v c t (m.trans u) w x f) o h b.2) (by rw[<- h.length,b.1,sizeLine_eq];omega)
theorem Se{a:List Expr}(i:∀e∈a,ES X d e)(j:CN a=true)(x:a.length<=100)(g:Br X d (.List a q) sc ρ H Φ):DW X d sc (eval (.List a q)) ρ H Φ:=by
 intro A G env own s l st Q k
 (conv at g=>whnf)
 rw[arm_eval_List];refine AA (wpAny_standAt (AA (Ej i j g A G env own s l st _ fun y z B C D m n h b=>?_)));exact wpAny_newList (HR (fun o p v c r t u w f=>k o p v c r (m.trans t) u w f) n h b.2) (by rw[<- h.length,b.1,sizeLine_eq];omega)
def Fo(e:Expr):Bool:=e.casesOn (fun a a a=>true) (fun a a a=>true) (fun a a a a=>true) (fun a a a=>true) (fun a a a a=>true) (fun a a a a=>true) (fun a a a=>true) (fun a a a=>true) (fun a a a a=>true) (fun a a a a=>true) (fun a a a a a=>true) (fun a a a a=>true) (fun a a=>true) (fun a a=>true) (fun a a=>true) (fun a a a a=>true) (fun f a a a=>f.ctorIdx==20) (fun a a a a=>true) (fun a a=>true) (fun a a a=>true) (fun a a a=>true) (fun a a a=>true) (fun a a=>true) (fun a a=>true) (fun a a=>true) (fun a a a=>true) (fun a a a a=>true)
theorem Rk(h:e.ctorIdx=20):∃o x p,e=.Attribute o x p:=Expr.Attribute.elim (motive_1:=fun e=>∃o x p,e=.Attribute o x p) e h fun o x p=>⟨o,x,p,rfl⟩
theorem Dr{env:Env}(h:Fo e=true):attributeBase e y env u6=u6:=by
 cases e<;>first |rfl |skip
 obtain⟨_,_,_,zqeq⟩:=Rk (eq_of_beq h);rw[zqeq];rfl
theorem IQ(all:X.All)(h:ES X d e)(i:Fo e=true)(f:Br X d (.Attribute e y q) sc ρ H Φ):DW X d sc (eval (.Attribute e y q)) ρ H Φ:=by
 intro A G env own s j st Q k
 (conv at f=>whnf)
 rw[arm_eval_Attribute,Dr i];refine AA (h.val _ _ _ _ f A G env own s j st _ fun C D a y E l m n b=>?_);refine AA (wpAny_standAt (AA (AC ?_)));refine Rt (Q:=fun r o=>wpAny (model X.prog X.w) A (letTemporaryGo e _ r >>= fun g=>pure r) Q (fun g g=>False) o) all.ok all.cls m b n fun p t v z s2 u x B c=>?_;exact AA (wpAny_letTemporaryGo (AB (k p t v z s2 (l.trans u) x B c)))
def Fk(e:Expr):Bool:=e.ctorIdx != 26
theorem HC{o:Value}(h:Fk e=true):subscripted e false o x=operate [o,x] (getItem o x):=by
 cases e<;>first |rfl |exact absurd h AN
theorem PX{i:Expr}(o:ES X d e)(p:ES X d i)(r:Fk i=true)(t:Br X d e sc ρ H fun a c=>Br X d i sc ρ c fun b f=>Ir a b f Φ):DW X d sc (eval (.Subscript e i q)) ρ H Φ:=by
 intro A G env own s g st Q k;refine Subscript_ ?_;refine o.val _ _ _ _ t A G env own s g st _ fun v N a x w m B C h=>?_;refine p.val _ _ _ _ h A v env own w g (st.step m B) _ fun O P b y s2 n D E j=>?_;exact SZ D g j (C.le n.le) E (HC r) fun F I u z J K L M l=>k F I u z J (m.trans (n.trans K)) L M l
theorem OT(b:∀e,j8=some e->ES X d e)(a:Yh X d j8 sc ρ H Φ):DW X d sc (fun env=>valueOrNone (evalOpt j8 env)) ρ H Φ:=by
 intro A G env own s c st Q k;cases j8 with
 |none=>exact AB (k G H .none _ _ (.refl ..) st.h .none a)
 |some e=>exact(b e rfl).val _ _ _ _ a A G env own s c st Q k
theorem NS{h:Option Expr}{p:Pos}(D:ES X d e)(i:∀f,j8=some f->ES X d f)(j:∀f,h=some f->ES X d f)(B:Br X d (.Subscript e (.Slice j8 h none q) p) sc ρ H Φ) :
  DW X d sc (eval (.Subscript e (.Slice j8 h none q) p)) ρ H Φ:=by
 intro A G env own s l st Q k
 (conv at B=>whnf)
 refine Subscript_ ?_;refine D.val _ _ _ _ B A G env own s l st _ fun E Y a x F m C I n=>?_;rw[arm_eval_Slice];refine AA (OT i n A E env own F l (st.step m C) _ fun J Z b y s2 o K L r=>?_);refine AA (AC (OT j r A J env own s2 l ((st.step m C).step o K) _ fun M H3 c z g t N O u=>?_));refine AA (AC (AB ?_));refine wpAny_newObj_type ?_;have P:Bj X M { g with heap:=g.heap.push { cls:=.type "slice",data:=.fields #[y,z,.none] } } Φ Q:=fun R S e v T U V W w=>
  k R S e v T (m.trans (o.trans (t.trans ((At.ofKeeps ⟨_,g.toks,rfl⟩ CR Cs).trans U)))) V W w
 exact Og (s:={ g with heap:=g.heap.push { cls:=.type "slice",data:=.fields #[y,z,.none] } }) (N.keeps CR) u (I.le (o.le.trans t.le)) (L.le t.le) O (Heap.IsSliceOf.new ..) rfl P
def D8(e:Expr):Bool:=e.casesOn (fun a a a=>false) (fun a a a=>false) (fun a a a a=>true) (fun o a a=>o.ctorIdx != 1) (fun a a a a=>true) (fun a a a a=>false) (fun a a a=>true) (fun a a a=>true) (fun a a a a=>true) (fun a a a a=>true) (fun a a a a a=>true) (fun a a a a=>true) (fun a a=>true) (fun a a=>true) (fun a a=>true) (fun a a a a=>false) (fun a a a a=>true) (fun a a a a=>true) (fun a a=>true) (fun a a a=>true) (fun a a a=>true) (fun a a a=>true) (fun a a=>true) (fun a a=>true) (fun a a=>true) (fun a a a=>true) (fun a a a a=>true)
set_option tactic.hygienic true in
theorem Qi(h:D8 e=true)(env:Env)(w:Sem Value):isTrue e env w=(do let v <- w;standAt e.pos;holding [v] (truthy v)):=by
 cases e<;>first |rfl |exact absurd h AN |(rename_i o _ _;cases o<;>first |rfl |exact absurd h AN)
set_option tactic.hygienic true in
theorem YC(h:D8 e=true){W:(V->Aj->Prop)->Prop}(c:Qa X d e sc ρ H W t0):W (fun v a=>JB v fun b=>t0 b a):=by
 cases e<;>first |exact c |exact absurd h AN |(rename_i o _ _;cases o<;>first |exact c |exact absurd h AN)
theorem Jo(h:D8 e=true)(f:∀sc ρ H Φ,Br X d e sc ρ H Φ->DW X d sc (eval e) ρ H Φ)(g:Qa X d e sc ρ H (fun k=>Br X d e sc ρ H k) t0) :
  QC X d sc (fun env=>isTrue e env (eval e env)) ρ H t0:=by
 intro A G env own s i st Q k;refine rwl (p:=fun y=>wpAny (model X.prog X.w) A y Q (fun j j=>False) s) (Qi h env _) (AA (f _ _ _ _ (YC h g) A G env own s i st _ fun l m a x n o q r c=>?_));refine AA (wpAny_standAt (AC ?_));obtain⟨b,rfl,c⟩:=OX c;obtain rfl:=r.bool_l;exact wpAny_truthy_bool (k l m b n o q c)
theorem RC(f:ES X d e)(c:Qa X d (.UnaryOp .Not e q) sc ρ H (fun k=>Br X d (.UnaryOp .Not e q) sc ρ H k) t0) :
  QC X d sc (fun env=>isTrue (.UnaryOp .Not e q) env (eval (.UnaryOp .Not e q) env)) ρ H t0:=by
 intro A G env own s g st Q k
 (conv at c=>whnf)
 exact AA (f.test _ _ _ _ c A G env own s g st _ fun h i b j l m a=>AB (k h i (!b) j l m a))
theorem RH{a:BoolOp}:Mc X d a [] sc ρ H t0->(match a with |.And=>t0 true H |.Or=>t0 false H):=by
 intro b;cases a<;>exact b
def Su(X:Cx)(d:Nat)(e:BoolOp)(f:List Expr)(sc:List (Str×NameKind))(ρ:BA)(c:Bool->Aj->Prop)(b:Bool)(a:Aj):Prop:=
 match e,b with
 |.And,false=>c false a
 |.Or,true=>c true a
 |_,_=>Mc X d e f sc ρ a c
theorem QO{a:BoolOp}{f:List Expr}(g:Mc X d a (e::f) sc ρ H t0):Qa X d e sc ρ H (fun k=>Br X d e sc ρ H k) (Su X d a f sc ρ t0):=by
 have:Su X d a f sc ρ t0=fun b c=>Su X d a f sc ρ t0 b c:=rfl;rw[this];cases a<;>exact g
theorem LM{g:BoolOp}:∀{i:List Expr},(∀e∈i,ES X d e)->∀{ρ:BA}{H:Aj}{j:Bool->Aj->Prop},Mc X d g i sc ρ H j->QC X d sc (fun env=>allTrue g i env) ρ H j:=by
 intro v;induction v with
 |nil=>
  intro _ ρ H j c;intro A G env own s n st Q k;replace c:=RH c;cases g with
  |And=>exact AB (k G H true s (.refl ..) st.h c)
  |Or=>exact AB (k G H false s (.refl ..) st.h c)
 |cons e i x=>
  intro u ρ H j c;intro A G env own s n st Q k;replace c:=QO c;show wpAny _ _ (allTrue g (e::i) env) _ _ _;rw[arm_allTrue_cons];refine AA ((u e (.head _)).test _ _ _ _ c A G env own s n st _ fun o p b l m q a=>?_);have f:Mc X d g i sc ρ p j->wpAny (model X.prog X.w) A (allTrue g i env) Q (fun y y=>False) l:=fun r=>
   x (fun e z=>u e (.tail _ z)) r A o env own l n (st.step m q) Q fun B C b s2 D E t=>k B C b s2 (m.trans D) E t
  cases g<;>cases b
  .exact AB (k o p false l m q a)
  .exact f a
  .exact f a
  .exact AB (k o p true l m q a)
theorem VS{a:CmpOp}(h:behindInMarks a e=false):markedBehindIn a e u6=u6:=by
 unfold markedBehindIn;rw[h]
theorem Kq{f:CmpOp}{env:Env}(all:X.All)(p:ES X d e)
  (s:Br X d e sc ρ H fun b a=>IW f v b a fun c=>t0 c a) (i:B4 d z3) (st:St X G H sc ρ env P A) (r:VR G v x) (k:∀j l b g,At G Cs A j g->Az X j l g->t0 b l->R b g) :
  wpAny (model X.prog X.w) z3 (testChain q x [f] [eval e env]) R (fun u u=>False) A:=by
 show wpAny _ _ (do let m <- holding [x] (eval e env);standAt q;let c <- operate [x,m] (compareOp f x m);holding [c] (truthy c)) _ _ _
 refine AA (AC (p.val _ _ _ _ s z3 G env P A i st _ fun z B b y E n o C h=>?_));refine AA (wpAny_standAt (AA (wpAny_operating ?_)));exact KD all.ok i o h (r.le n.le) C fun c t D=>AC (wpAny_truthy_bool (k z B c _ (n.trans (.tok _ _)) (o.tok t) D))
theorem L3{h:List Expr}(all:X.All)(u:ES X d e)(v:∀f∈h,ES X d f)(w:lastMarks r7 h=false)(i:Br X d (.Compare e r7 h q) sc ρ H Φ):DW X d sc (eval (.Compare e r7 h q)) ρ H Φ:=by
 intro A G env own s j st Q k;obtain⟨z,i⟩:=Oc (b:=r7.length==1) i;rw[arm_eval_Compare];refine AA (u.val _ _ _ _ i A G env own s j st _ fun B L a x C n D E g=>?_);cases h with
 |nil=>exact False.elim g
 |cons f h=>
  cases h with
  |cons M h=>
   cases h with
   |nil=>obtain⟨a,b,rfl,_⟩:=RJ g;exact Bool.noConfusion z
   |cons _ _=>exact False.elim g
  |nil=>
   obtain⟨l,rfl,g⟩:=SY g;show wpAny _ _ (compareChain q x [l] [markedBehindIn l f (eval f env)]) _ _ _;rw[VS w];show wpAny _ _ (do let o <- holding [x] (eval f env);standAt q;operate [x,o] (compareOp l x o)) _ _ _
   refine AA (AC ((v f (.head _)).val _ _ _ _ g A B env own C j (st.step n D) _ fun F I b y s2 p r J m=>?_));refine AA (wpAny_standAt (wpAny_operating ?_));exact KD all.ok j r m (E.le p.le) J fun c t K=>k F I (.bool c) _ _ ((n.trans p).trans (.tok _ _)) (r.tok t) (.bool c) K
theorem Jf{h:List Expr}(all:X.All)(P:ES X d e)(r:∀f∈h,ES X d f)(F:lastMarks r7 h=false)
  (I:Qa X d (.Compare e r7 h q) sc ρ H (fun k=>Br X d (.Compare e r7 h q) sc ρ H k) t0):QC X d sc (fun env=>isTrue (.Compare e r7 h q) env (eval (.Compare e r7 h q) env)) ρ H t0:=by
 intro A G env own s j st Q k
 (conv at I=>whnf)
 show wpAny _ _ (isTrue (.Compare e r7 h q) env (eval (.Compare e r7 h q) env)) _ _ _;rw[arm_isTrue_Compare];refine AA (P.val _ _ _ _ I A G env own s j st _ fun u T a x v J R K g=>?_);have w:=fun n z b o (i:At u Cs v n o)=>k n z b o (J.trans i);have st:=st.step J R;cases h with
 |nil=>exact False.elim g
 |cons f h=>
  cases h with
  |nil=>
   obtain⟨p,rfl,g⟩:=SY g;show wpAny _ _ (testChain q x [p] [markedBehindIn p f (eval f env)]) _ _ _;rw[VS F];exact Kq all (r f (.head _)) g j st K w
  |cons B h=>
   cases h with
   |cons _ _=>exact False.elim g
   |nil=>
    obtain⟨p,l,rfl,g⟩:=RJ g;show wpAny _ _ (do let m <- holding [x] (eval f env);standAt q;let c <- holding [x,m] (compareOp p x m);release [x,m] [c];if <- holding [c,m] (truthy c)then testChain q m [l] [markedBehindIn l B (eval B env)]else pure false) _ _ _
    rw[VS F];refine AA (AC ((r f (.head _)).val _ _ _ _ g A u env own v j st _ fun L S b y s2 M C N D=>?_));refine AA (wpAny_standAt (AA (AC ?_)));refine KD all.ok j C D (K.le M.le) N fun c t O=>?_;refine AA (wpAny_releaseD (AA (AC (wpAny_truthy_bool ?_))));have E:At u Cs v L { s2 with toks:=t }:=M.trans (.tok _ _);cases c with
    |true=>exact Kq all (r B (.tail _ (.head _))) O j (st.step E (C.tok t)) N fun n z b o i=>w n z b o (E.trans i)
    |false=>exact AB (w L S false _ E (C.tok t) O)
end
def Y5(d:Addr)(m:Value):Sem Unit:=
 (((holding [.ref d,m] (mergeMapping d m false)).onRaise fun x=>do let _ <- holding [.ref d,m,x] (runValue (.builtin "proto.let_go" {}))).tryCatch fun e=>do
    if <- isInstance e (.type "AttributeError")then
     rule "dict.display.not-a-mapping";raiseError "TypeError" s!"'{← typeNameOf m}' object is not a mapping"
    throw e).onRaise fun x=>do let _ <- holding [.ref d,x] (runValue (.builtin "proto.let_go" {}))
theorem Sg(v1 v2:Sem Value):dictDisplay [(none,v1),(none,v2)]=(do
  let d <- alloc { cls:=.type "dict",data:=.dict #[] };let m <- holding [.ref d] v1
  Y5 d m
  let m2 <- holding [.ref d] v2
  Y5 d m2
  pure (.ref d)):=by
 unfold dictDisplay;dsimp only;simp only[List.isEmpty_nil,if_true,pure_bind,bind_assoc,forIn_cons,forIn_nil,↓reduceIte];rfl
section
variable {d:Nat} {sc:List (Str×NameKind)} {ρ:BA} {G:Gh} {H:Aj} {s:Shared} {A:Around} {D:Addr} {Φ:V->Aj->Prop}
theorem Os:∀{l m:List (V×V)},(l.map (·.1)).Nodup->(∀p∈m,∀q∈l,p.1≠q.1)->BG m l=m++l:=by
 intro g;induction g with
 |nil=>
  intro m _ _;simp[Ua]
 |cons p r c=>
  intro m nd hd;have i:BK m p.1 p.2=m++[p]:=by
   have:∀m:List (V×V),(∀q∈m,q.1≠p.1)->BK m p.1 p.2=m++[p]:=by
    intro m;induction m with
    |nil=>intro _;rfl
    |cons q t j=>
     intro h;have a:BY q.1 p.1=false:=by
      refine EY (BY q.1 p.1) (fun e=>?_) fun e=>?_
      .rfl
      .exact absurd ((BB _ _).mp e) (h q (.head _))
     rw[Ch,a,j fun z k=>h z (.tail _ k)];rfl
   exact this m fun q a=>hd q a p (.head _)
  rw[Gw,i,c (by simpa using(List.nodup_cons.mp nd).2)]
  .simp
  .intro x b q a;rcases AY b with b |b
   .exact hd x b q (.tail _ a)
   .rw[AJ b];have:=(List.nodup_cons.mp nd).1;exact fun e=>this (show p.1∈r.map (·.1)from e.symm▸mem_map_of_mem (f:=fun x:V×V=>x.1) a)
theorem OC{l:List (V×V)}(r:X.Ok)(u:A.units+8<cLine)(k:Az X G H s)(p:By X G s.heap D)(hD:DV X G s.heap D m)(f:G.loc n=some b)(v:DV X G s.heap b l)
  (x:FT (l.map (·.1))) (i:(l.map fun q=>kh X.w q.1).Nodup) (y:m.length+l.length<=sizeLine)
  (h:∀j,DV X G j D (BG m l)->(∀a o,a≠D->s.heap.get? a=some o->j.get? a=some o)->g () { s with heap:=j }) :
  wpAny (model X.prog X.w) A (Y5 D (.ref b)) g (fun c c=>False) s:=by
 refine wpAny_onRaise (wpAny_tryCatch (wpAny_onRaise (AC ?_)));refine wpAny_mono (WZ (E:=fun c c=>False) (k.notMod r (.inl ⟨_,f⟩)) u k p hD v (fun e=>p.off (.inl ⟨n,e▸f⟩)) (fun q z=>?_) i y h) (fun c c q=>q) fun c c q=>q.elim;obtain⟨B,e,_⟩:=x;have:q.1∈l.map (·.1):=mem_map_of_mem z;rw[e]at this;obtain⟨t,_,e⟩:=AS this;exact⟨_,e.symm⟩
theorem Sx{H:Aj}(h:UG j7 H v):Dd fun n o=>DD (v=.loc n) (H[n]? =some o) (j7 o):=by
 cases v with
 |loc n=>
  obtain⟨o,e,h⟩:=CE (show Bk j7 H n from h);exact⟨n,o,rfl,e,h⟩
 |_=>exact False.elim h
theorem Ol{b:Expr}(all:X.All)(ha:ES X d e)(hb:ES X d b)(V:Br X d (.Dict [none,none] [e,b] q) sc ρ H Φ):DW X d sc (eval (.Dict [none,none] [e,b] q)) ρ H Φ:=by
 intro A G env own s I st Q k
 (conv at V=>whnf)
 rw[arm_eval_Dict];refine AA (wpAny_standAt ?_);show wpAny _ _ (dictDisplay [(none,_),(none,_)]) _ _ _;rw[Sg];have W:A.units+8<cLine:=by have:=I.2.2;omega
 refine AA (wpAny_alloc ?_);have u:s.heap.get? s.heap.objs.size=none:=Aw _;have Y:At G Cs s G { s with heap:=s.heap.push { cls:=.type "dict",data:=.dict #[] } }:=At.ofKeeps ⟨_,s.toks,rfl⟩ CR Cs;have x0:Az X G H { s with heap:=s.heap.push { cls:=.type "dict",data:=.dict #[] } }:=st.h.keeps CR;have Z:By X G (s.heap.push { cls:=.type "dict",data:=.dict #[] }) s.heap.objs.size:=By.new st.h u ⟨_,get?_push_size _ rfl⟩;have d0:DV X G (s.heap.push { cls:=.type "dict",data:=.dict #[] }) s.heap.objs.size []:=DV.new _ (get?_push_size _ rfl);refine AA (AC (AA (ha.val _ _ _ _ V A G env own _ I (st.step Y x0) _ fun i H1 va x v w J r1 K=>AA (wpAny_standAt (AB ?_)))));have z:=Z.post w;have d1:DV X i v.heap s.heap.objs.size []:=d0.keep w.le (Z.keep w);have q1:=Y.trans w;obtain⟨_,_,rfl,e1,L⟩:=Sx K;obtain⟨l,rfl,t1,n1,l1,M⟩:=Kh L;obtain⟨a1,f1,_,g1⟩:=J.dict e1;obtain rfl:=r1.at f1;have m1:BG [] l=l:=by
  obtain⟨o,es,ep,_,_,_,_,nd⟩:=g1;exact Os nd fun q hp=>by cases hp
 refine AA (OC all.ok W J z d1 f1 g1 t1 n1 (by simpa using Bh l1) fun B C m=>?_);rw[m1]at C;have N:Az X i H1 { v with heap:=B }:=J.priv z d1.notTup m;have p:At G Cs s i { v with heap:=B }:=q1.priv u ⟨B,v.toks,rfl⟩ m C.there';have r:By X i B s.heap.objs.size:=⟨z.off,z.base,C.there'⟩;refine AA (AC (AA (hb.val _ _ _ _ M A i env own _ I (st.step p N) _ fun O H2 vb y s2 E P r2 R=>AA (wpAny_standAt (AB ?_)))));have F:=r.post E;have d2:DV X O s2.heap s.heap.objs.size l:=C.keep E.le (r.keep E);have q2:=p.trans E;obtain⟨_,_,rfl,e2,S⟩:=Sx R;obtain⟨j,rfl,t2,n2,l2,T⟩:=Kh S;obtain⟨a2,f2,_,g2⟩:=P.dict e2;obtain rfl:=r2.at f2;refine AA (OC all.ok W P F d2 f2 g2 t2 n2 (Bh l2) fun c f a=>?_);have g:Az X O H2 { s2 with heap:=c }:=P.priv F d2.notTup a;have U:At G Cs s O { s2 with heap:=c }:=q2.priv u ⟨c,s2.toks,rfl⟩ a f.there';refine AB (k _ _ _ _ _ (At.adopt (n:=0) U g u) (g.adopt ⟨F.off,F.base,f.there'⟩ (Az.ofDV As BD (f.keep (g.leLoc _ _) fun zz t=>t))) (.loc As) T)
theorem O5{pos:Pos}:∀{c:List Expr},(∀e,some e∈m5->ES X d e)->(∀e∈c,ES X d e)->m5.all (·.isSome)=true->m5.length=c.length->∀{ρ:BA}{H:Aj}{Φ:List (V×V)->Aj->Prop},
  JT (Qy X d m5 sc ρ) (Qw X d c sc ρ) H Φ->∀(A:Around)(G:Gh)(env:Env)(own:Addr->Prop)(s:Shared),B4 d A->St X G H sc ρ env own s->∀Q:List (Value×Value)->Shared->Prop,
  (∀j z g l m,At G Cs s j m->Az X j z m->Xi j g l->g.length=m5.length->Φ g z->Q l m)->wpAny (model X.prog X.w) A (evalPairs (pairTrees m5 c env pos)) Q (fun J J=>False) s:=by
 induction m5 with
 |nil=>
  intro c _ _ _ K ρ H Φ n A G env own s i st Q k;cases List.length_eq_zero_iff.mp K.symm;exact pairTrees_nil_walk (k G H [] [] s (.refl ..) st.h .nil rfl n)
 |cons o m5 L=>
  intro c B C E F ρ H Φ n A G env own s i st Q k;cases c with
  |nil=>exact nomatch F
  |cons b c=>
   cases o with
   |none=>exact absurd E AN
   |some a=>
    refine pairTrees_cons_walk ?_;refine(B a (.head _)).val _ _ _ _ n A G env own s i st _ fun M H1 va x N p I O q=>?_;refine(C b (.head _)).val _ _ _ _ q A M env own N i (st.step p I) _ fun P H2 vb y s2 r R S t=>?_;refine L (fun e u=>B e (.tail _ u)) (fun e u=>C e (.tail _ u)) E (Nat.succ.inj F) t A P env own s2 i ((st.step p I).step r R) _ fun T U g l W v Y Z e3 f=>?_;exact k T U _ _ W (p.trans (r.trans v)) Y (.cons f.1 (O.le (r.le.trans v.le)) (S.le v.le) Z) (congrArg (· + 1) e3) f.2
theorem Rc{g:List Expr}(O:∀e,some e∈m5->ES X d e)(P:∀e∈g,ES X d e)(v:m5.all (·.isSome)=true)(w:m5.length=g.length)(V:m5.length<=8)(J:Br X d (.Dict m5 g q) sc ρ H Φ):DW X d sc (eval (.Dict m5 g q)) ρ H Φ:=by
 intro A G env own s K st Q k;have c:JT (Qy X d m5 sc ρ) (Qw X d g sc ρ) H fun x b=>FL (ble x.length 8) (Φ (.loc b.length) (b++[.dict (BG [] x)])):=by
  cases m5 with
  |nil=>exact J
  |cons o r=>
   cases o with
   |none=>cases v
   |some a=>exact J
 have R:A.units+8<cLine:=by have:=K.2.2;omega
 have l:s.heap.get? s.heap.objs.size=none:=Aw _;have y:At G Cs s G { s with heap:=s.heap.push { cls:=.type "dict",data:=.dict #[] } }:=At.ofKeeps ⟨_,s.toks,rfl⟩ CR Cs;have m:Az X G H { s with heap:=s.heap.push { cls:=.type "dict",data:=.dict #[] } }:=st.h.keeps CR;have z:By X G (s.heap.push { cls:=.type "dict",data:=.dict #[] }) s.heap.objs.size:=By.new st.h l ⟨_,get?_push_size _ rfl⟩;have L:DV X G (s.heap.push { cls:=.type "dict",data:=.dict #[] }) s.heap.objs.size []:=DV.new _ (get?_push_size _ rfl);cases m5 with
 |nil=>
  cases g with
  |cons _ _=>cases w
  |nil=>
   (conv at c=>whnf)
   rw[arm_eval_Dict];refine AA (wpAny_standAt ?_);show wpAny _ _ newDict _ _ _;refine wpAny_newObj_type ?_;exact k _ _ _ _ _ (At.adopt (n:=0) y m l) (m.adopt z (Az.ofDV As BD (L.keep (m.leLoc _ _) fun S e=>e))) (.loc As) c
 |cons o r=>
  refine wpAny_Dict_any v w (cons_ne_nil _ _) (by omega) ?_;refine O5 O P v w c A G env own _ K (st.step y m) _ fun B T x W C p M U Y i=>?_;have u:=z.post p;have N:DV X B C.heap s.heap.objs.size []:=L.keep p.le (z.keep p);refine Pm R U M u N (by simp only[length_nil];exact Bh (by have:=Nat.le_of_ble_eq_true (Oc i).1;unfold Ar;omega)) fun E t F j=>?_;have f:Az X B T { C with heap:=E,toks:=t }:=M.priv u N.notTup j;have I:At G Cs s B { C with heap:=E,toks:=t }:=(y.trans p).priv l ⟨E,t,rfl⟩ j F.there';exact k _ _ _ _ _ (At.adopt (n:=0) I f l) (f.adopt ⟨u.off,u.base,F.there'⟩ (Az.ofDV As BD (F.keep (f.leLoc _ _) fun S e=>e))) (.loc As) (Oc i).2
end
section
variable {d:Nat} {sc:List (Str×NameKind)} {ρ:BA} {G:Gh} {H:Aj} {s:Shared} {A:Around} {Φ:V->Aj->Prop}
theorem B4.in1(h:B4 d A)(k:1<=d):B4 (d-1) A:=h.le (sub_le d 1)
theorem XV(b:VR G v x)(r:BJ G l a):BJ G (v::l) (x::a):=.cons b r
theorem R3(c:B4 d A)(e:Az X G H s)(h:1<=d)(g:Ap X (d-1) f l H Φ)(r:BJ G l a)(k:Bj X G s Φ Q) :
  wpAny (model X.prog X.w) A (call (.ref (X.fn f)) a) Q (fun i i=>False) s:=
 wpAny_call (g.go A G s a (c.in1 h) e r _ fun j m v b n o p q x=>k j m v b n o p q x)
theorem Az.newInst{c:String}(a:Az X G H s):Az X (G.addLoc H.length (s.heap.objs.size+1) (some s.heap.objs.size)) (H++[.inst c []]) { s with heap:=(s.heap.push emptyDict).push (instObj (X.cls c) s.heap.objs.size) } /\
  At G Cs s (G.addLoc H.length (s.heap.objs.size+1) (some s.heap.objs.size)) { s with heap:=(s.heap.push emptyDict).push (instObj (X.cls c) s.heap.objs.size) }:=by
 have f:s.heap.get? (s.heap.objs.size+1)=none:=get?_none_of_le (le_succ _);have g:∀c,some s.heap.objs.size=some c->s.heap.get? c=none/\c≠s.heap.objs.size+1:=fun c e=>by
  cases e;exact⟨Aw _,Nat.ne_of_lt (lt_succ_self _)⟩
 have h:∀b o,s.heap.get? b=some o->((s.heap.push emptyDict).push (instObj (X.cls c) s.heap.objs.size)).get? b=some o:=fun b o e=>get?_push_of_some _ (get?_push_of_some _ e);refine⟨a.alloc (s':={ s with heap:=(s.heap.push emptyDict).push (instObj (X.cls c) s.heap.objs.size) }) f g h ⟨_,_,emptyDict,#[],0,As,BD,?_,?_,rfl,.nil⟩,.alloc a f (fun c e=>(g c e).1) ⟨_,s.toks,rfl⟩ h⟩
 .show((s.heap.push emptyDict).push _).get? (s.heap.objs.size+1)=_;rw[<- (Heap.size_push ..:(s.heap.push emptyDict).objs.size=s.heap.objs.size+1)];exact get?_push_size _ rfl
 .exact get?_push_of_some _ (get?_push_size _ rfl)
theorem YS{l:Nat}(a:2<=k)(h:n+k<l):n+1+(k-2)<l:=by
 obtain⟨e,rfl⟩:=Nat.exists_eq_add_of_le' a;exact AH (by show n+1+e<=n+(e+2);rw[Nat.add_assoc,Nat.add_comm 1 e];exact AO (le_succ _) _) h
theorem Yg{d l:Nat}(a:2<=d)(b:k<=8)(h:n+8*d+100<l):n+k+8*(d-2)+100<l:=by
 obtain⟨e,rfl⟩:=Nat.exists_eq_add_of_le' a;exact AH (AP (by show n+k+8*e<=n+8*(e+2);rw[Nat.add_assoc,Nat.mul_add,Nat.add_comm (8*e)];exact AO (AP (AF b (by decide)) _) _) 100) h
theorem Tj(all:X.All)(i:B4 d A)(e:Az X G H s)(j:W8 X d f l H Φ)(r:BJ G l a)(k:Bj X G s Φ Q) :
  wpAny (model X.prog X.w) A (call (.ref (X.cls f)) a) Q (fun p p=>False) s:=by
 obtain⟨h,q,j⟩:=j;have C:=all.cls f q;obtain⟨u,n⟩:=e.newInst (c:=f);refine wpAny_call ?_;obtain⟨x,g,E,t,os⟩:=s;refine make_core (makes_of (e.kin all.ok) C.makes) (looks_findIn (e.kin all.ok) C.init) (fun self=>bind_fn (e.kin all.ok) self C.initF) (.inl rfl) ?_;have m:B4 (d-2) (A.under (.builtin "type.__call__" ⟨.ref (X.cls f)::a,[]⟩)):=by
  refine⟨i.1,?_,?_⟩
  .show A.depth+(Code.builtin "type.__call__" ⟨.ref (X.cls f)::a,[]⟩).weight+(d-2)<recursionLimit;rw[(rfl:(Code.builtin "type.__call__" ⟨.ref (X.cls f)::a,[]⟩).weight=1)];exact YS h i.2.1
  .show A.units+(Code.builtin "type.__call__" ⟨.ref (X.cls f)::a,[]⟩).cUnits+8*(d-2)+100<cLine;exact Yg h (Nat.le_of_ble_eq_true rfl) i.2.2
 refine j.go _ _ _ (.ref (x.objs.size+1)::a) m u (.cons (.loc As) (r.le n.le)) _ fun y z v B s2 o h D b=>?_;obtain⟨rfl,b⟩:=b;obtain rfl:=D.none_l;exact⟨rfl,k y z (.loc H.length) _ s2 (n.trans o) h (.loc (o.le.loc _ _ As)) b⟩
theorem U5:∀{a:List Expr}{H:Aj}{Φ:List V->Aj->Prop},CN a=true->True:=fun b=>trivial
def Fc(f:Str):Bool:=match gv f with |some (.fn _)=>true |some (.cls _)=>true |some (.bi _)=>true |_=>false
theorem J5{pos:Pos}{B:List Expr}(all:X.All)(M:Cg y=true)(j:Fc y=true)(T:∀e∈B,ES X d e)(N:CN B=true)(F:Br X d (.Call (.Name y q) B [] pos) sc ρ H Φ) :
  DW X d sc (eval (.Call (.Name y q) B [] pos)) ρ H Φ:=by
 intro A G env own s I st Q k
 (conv at F=>whnf)
 obtain⟨U,F⟩:=Oc F;rw[arm_eval_Call_Name'];simp only[Cg,and_eq_true,bne_iff_ne,ne_eq]at M;have l:((backTo pos (starEach B env)).any (·.1)||(backToKw pos (keywordEach [] env)).any (·.1.isNone))=false:=by
  rw[(DL (pos:=pos) (env:=env) N).1];rfl
 refine AA ?_;refine Name_function_global st.f.kind (st.f.kg y (Qu U)) ?_ (beq_eq_false_iff_ne.mpr M.1.1);have O:s.heap.Ns env.globals X.mg:=by rw[st.f.glob];exact all.ok.g.at' fun o e=>st.h.base _ _ e
 have fin:∀{v:Value}{P:Shared},P.heap=s.heap->∀(fv:Value),(∀h,X.K.In h->∃k,(k=Keeper.frame\/k=Keeper.machine\/k=Keeper.boundFrame)/\Looks (model X.prog X.w) h (keeperOf fv) k) ->
   (∀(m:Gh)(t:Aj)(u:List V)(a:List Value)(n:Shared),Az X m t n->BJ m u a->U6 X d (gv y) u t Φ->∀Q:Value->Shared->Prop,Bj X m n Φ Q->wpAny (model X.prog X.w) A (call fv a) Q (fun J J=>False) n) ->
   wpAny (model X.prog X.w) A (callWith pos fv [] (backTo pos (starEach B env)) (backToKw pos (keywordEach [] env))) Q (fun J J=>False) s:=fun J fv R x=>by
  refine callWith_of l R ?_;refine Cy (DL (pos:=pos) (env:=env) N).1 ?_;refine Ej T N F A G env own s I st _ fun m t u a n W r z i=>?_;exact⟨r.kin all.ok,x m t u a n r z i.2 Q fun Y Z v val P p' h' r' S=>k Y Z v val P (W.trans p') h' r' S⟩
 refine CK (gv y) (fun C=>?_) fun g C=>?_
 .unfold Fc at j;rw[C]at j;cases j
 .have D:=all.g y g C;rw[C]at fin;cases g with
  |fn p=>
   exact loadGlobal_global O D (fin (v:=.none) rfl _ (fun h L=>keeps_K (all.fnK y p C) h L) fun m t u a n r z i Q E=>R3 I r i.1 i.2 z E)
  |cls c=>
   exact loadGlobal_global O D.1 (fin (v:=.none) rfl _ (fun h L=>keeps_K (all.clsK c D.2) h L) fun m t u a n r z i Q E=>Tj all I r i z E)
  |bi b=>
   refine loadGlobal_builtin O D.1 (show s.heap.Ns env.builtins X.mb by rw[st.f.bi];exact all.ok.b.at' fun o e=>st.h.base _ _ e) ((all.ok.builtins y M.2).trans D.2) ?_;refine fin (v:=.none) rfl _ (fun h L=>⟨.machine,.inr (.inl rfl),?_⟩) fun m t u a n r z i Q E=>V5 all.ok I r i z E;cases b<;>exact Looks.now
  |val v=>
   unfold Fc at j;rw[C]at j;cases j
theorem J9{pos:Pos}{as:List Expr}(all:X.All)(ho:ES X d e)(hb:Fo e=true)(hl:as.length<29)(hline:(q.endLine==pos.line)=true)(hs:∀zqeq∈as,ES X d zqeq)(hn:CN as=true)
  (φ:Br X d (.Call (.Attribute e y q) as [] pos) sc ρ H Φ):DW X d sc (eval (.Call (.Attribute e y q) as [] pos)) ρ H Φ:=by
 intro A G env own s rm st Q k
 (conv at φ=>whnf)
 rw[arm_eval_Call,Dr hb];obtain⟨n1,n2,n3⟩:=DL (pos:=pos) (env:=env) hn;have hform:methodCallForm (as.length+([]:List Keyword).length) (backTo pos (starEach as env)) (backToKw pos (keywordEach [] env))=true:=by
  unfold methodCallForm;rw[n3];show(true&&true&&decide (as.length+0+0<30))=true;simp;omega
 have hpos:methodCallPos true e env q pos=pure pos:=by unfold methodCallPos;simp[hline]
 have hplain:((backTo pos (starEach as env)).any (·.1)||(backToKw pos (keywordEach [] env)).any (·.1.isNone))=false:=by
  rw[n1];rfl
 refine AA (ho.val _ _ _ _ φ A G env own s rm st _ fun G1 H1 a ov s1 p1 h1 r1 φ1=>?_);refine AA (wpAny_standAt ?_);unfold methodCall;rw[hform];simp only[if_true];have fin:∀(fv:Value),(∀h,X.K.In h->∃k,(k=Keeper.frame\/k=Keeper.machine\/k=Keeper.boundFrame)/\Looks (model X.prog X.w) h (keeperOf fv) k) ->
   ∀Ψ:List V->Aj->Prop,Gb X d as sc ρ H1 Ψ ->
   (∀(G2:Gh)(H2:Aj)(vs:List V)(vals:List Value)(s2:Shared),At G1 Cs s1 G2 s2->Az X G2 H2 s2->BJ G2 vs vals->Ψ vs H2->∀Q:Value->Shared->Prop,Bj X G2 s2 Φ Q->wpAny (model X.prog X.w) A (call fv (ov::vals)) Q (fun zz zz=>False) s2) ->
   wpAny (model X.prog X.w) A (methodCallPos true e env q pos >>= fun cp=>callWith cp fv [ov] (backTo pos (starEach as env)) (backToKw pos (keywordEach [] env))) Q (fun zz zz=>False) s1:=fun fv hkp Ψ ψ hcall=>by
  rw[hpos];refine AA (AB (callWith_of hplain hkp (Cy n1 ?_)));refine Ej hs hn ψ A G1 env own s1 rm (st.step p1 h1) _ fun G2 H2 vs vals s2 p2 h2 r2 φ2=>?_;exact⟨h2.kin all.ok,hcall G2 H2 vs vals s2 p2 h2 r2 φ2.2 Q fun G' H' v val s' p' h' r' φ'=>k G' H' v val s' (p1.trans (p2.trans p')) h' r' φ'⟩
 cases a with
 |loc n=>
  obtain⟨ob,e1,φ1⟩:=CE (show Bk _ H1 n from φ1);obtain⟨t,ht,φ1⟩:=JS φ1;have go:∀m:Xn,t=.obj m->wpAny (model X.prog X.w) A (methodCallPos true e env q pos >>= fun cp=>callWith cp (.builtin (Uw m)) [ov] (backTo pos (starEach as env)) (backToKw pos (keywordEach [] env))) Q (fun zz zz=>False) s1:=fun m zqeq=>by
   subst zqeq;refine fin _ ((fun id h zz=>⟨.machine,.inr (.inl rfl),.now⟩:∀(id:String)(h:Heap),X.K.In h->∃k,(k=Keeper.frame\/k=Keeper.machine\/k=Keeper.boundFrame)/\Looks (model X.prog X.w) h (keeperOf (.builtin id)) k) _) _ φ1 fun G2 H2 vs vals s2 p2 h2 r2 φ2 Q k2=>?_;obtain⟨o',e2,φ2⟩:=CE (show Bk _ H2 n from φ2);exact SX all.ok rm h2 e2 (Oc φ2).2 (r1.le p2.le) r2 k2
  cases ob with
  |inst c fs=>
   have ht:(bif Cf c&&(fs.lookup y).isNone then(Fl c y).map Tg.fn else none)=some t:=ht;refine EY (Cf c&&(fs.lookup y).isNone) (fun zqqq=>?_) fun zqqq=>?_
   .rw[zqqq]at ht;exact Gi ht
   .rw[zqqq]at ht;have zqqq:=Aa zqqq;obtain⟨p,i3,rfl⟩:=Option.map_eq_some_iff.mp ht;refine AA (AC (NV all.ok all.cls h1 e1 zqqq.1 (Option.isNone_iff_eq_none.mp zqqq.2) i3 r1 ?_));refine fin _ (fun h Xh=>keeps_K (all.metK c y p i3) h Xh) _ φ1 fun G2 H2 vs vals s2 p2 h2 r2 φ2 Q k2=>?_;exact R3 rm h2 φ2.1 φ2.2 (.cons (r1.le p2.le) r2) k2
  |list l=>
   have ht:(bif y==ofString "append" then some (Tg.obj .append)else bif y==ofString "extend" then some (.obj .extend)else none)=some t:=ht;obtain⟨a',ws,f1,f2,f3,f4⟩:=h1.listI e1;obtain rfl:=r1.at f1;obtain⟨ob,g1,g2,g3⟩:=f3.1;have hT:s1.TypeIs (.ref a') "list" :=⟨ob,g1,g2⟩;have hd:∀b,Value.ref a'=.ref b->∃e,s1.heap.get? b=some e/\e.dict=none:=fun b zqeq=>by cases zqeq;exact⟨ob,g1,f3.2 ob g1⟩
   refine Ce (y==ofString "append") (fun hx=>?_) fun hx=>?_
   .rw[hx]at ht;obtain rfl:=eq_of_beq hx;exact AA (AC (getMethod_builtin hT PySem.F.plainAttrs_list PySem.F.slot_list_append PySem.F.type_list_append hd (go .append (Option.some.inj ht).symm)))
   .rw[hx]at ht;refine Ce (y==ofString "extend") (fun hx2=>?_) fun hx2=>?_
    .rw[hx2]at ht;obtain rfl:=eq_of_beq hx2;exact AA (AC (getMethod_builtin hT PySem.F.plainAttrs_list PySem.F.slot_list_extend PySem.F.type_list_extend hd (go .extend (Option.some.inj ht).symm)))
    .rw[hx2]at ht;cases ht
  |dict l=>
   have ht:(bif y==ofString "get" then some (Tg.obj .get)else bif y==ofString "setdefault" then some (.obj .setdefault)else bif y==ofString "items" then some (.obj .items)else none)=some t:=ht;obtain⟨a',f1,f2,f3⟩:=h1.dict e1;obtain rfl:=r1.at f1;have f3':=f3;obtain⟨ob,es,ep,g1,g2,g3,g4,g5⟩:=f3;have hd:∀b,Value.ref a'=.ref b->∃e,s1.heap.get? b=some e/\e.dict=none:=fun b zqeq=>by cases zqeq;exact⟨ob,g1,g2.2.1⟩
   refine Ce (y==ofString "get") (fun hx=>?_) fun hx=>?_
   .rw[hx]at ht;obtain rfl:=eq_of_beq hx;exact AA (AC (getMethod_builtin f3'.typeIs PySem.F.plainAttrs_dict PySem.F.slot_dict_get PySem.F.type_dict_get hd (go .get (Option.some.inj ht).symm)))
   .rw[hx]at ht;refine Ce (y==ofString "setdefault") (fun hx2=>?_) fun hx2=>?_
    .rw[hx2]at ht;obtain rfl:=eq_of_beq hx2;exact AA (AC (getMethod_builtin f3'.typeIs PySem.F.plainAttrs_dict PySem.F.slot_dict_setdefault PySem.F.type_dict_setdefault hd (go .setdefault (Option.some.inj ht).symm)))
    .rw[hx2]at ht;refine Ce (y==ofString "items") (fun hx3=>?_) fun hx3=>?_
     .rw[hx3]at ht;obtain rfl:=eq_of_beq hx3;exact AA (AC (getMethod_builtin f3'.typeIs PySem.F.plainAttrs_dict PySem.F.slot_dict_items PySem.F.type_dict_items hd (go .items (Option.some.inj ht).symm)))
     .rw[hx3]at ht;cases ht
  |_=>exact Gi ht
 |_=>exact False.elim φ1
end
theorem JV{env:Env}(f:Str×NameKind->List (Str×Addr)->Sem (ForInStep (List (Str×Addr))))
  (hf:∀n k cs,f (n,k) cs=if(k==.free)=true then(do let a <- cellOf env n;pure (.yield ((n,a)::cs)))else pure (.yield cs)) :
  ∀(names:List (Str×NameKind))(acc:List (Str×Addr)),(∀p∈names,p.2=.free->∃c,env.cells.lookup p.1=some c)->(∀n c,acc.lookup n=some c->env.cells.lookup n=some c) ->
   EC fun cl=>KT ((forIn names acc f:Sem _)=pure cl) ((∀n c,cl.lookup n=some c->env.cells.lookup n=some c)) ((∀n,(acc.lookup n).isSome=true->(cl.lookup n).isSome=true)) ((∀p∈names,p.2=.free->(cl.lookup p.1).isSome=true)):=by
 intro names;induction names with
 |nil=>exact fun acc zz h2=>⟨acc,forIn_nil ..,h2,fun zz h=>h,fun zz h=>nomatch h⟩
 |cons p r ih=>
  obtain⟨n,k⟩:=p;intro acc h1 h2;rw[forIn_cons,hf];by_cases hk:(k==NameKind.free)=true
  .rw[if_pos hk];obtain⟨c,hc⟩:=h1 (n,k) (.head _) (eq_of_beq hk);have e:cellOf env n=pure c:=by unfold cellOf;rw[hc]
   rw[e];simp only[pure_bind];obtain⟨cl,e1,e2,e3,e4⟩:=ih ((n,c)::acc) (fun p hp=>h1 p (.tail _ hp)) fun m b hm=>by
    rw[lookup_cons]at hm;by_cases q:(m==n)=true
    .rw[q]at hm;cases hm;rw[eq_of_beq q];exact hc
    .rw[(Bool.eq_false_iff.mpr q)]at hm;exact h2 m b hm
   refine⟨cl,e1,e2,fun m hm=>e3 m ?_,fun p hp hf'=>?_⟩
   .rw[lookup_cons];cases m==n<;>first |rfl |exact hm
   .rcases Ae hp with z |z
    .rw[z];exact e3 n (by rw[lookup_cons,beq_self_eq_true];rfl)
    .exact e4 p z hf'
  .rw[if_neg hk];simp only[pure_bind];obtain⟨cl,e1,e2,e3,e4⟩:=ih acc (fun p hp=>h1 p (.tail _ hp)) h2;refine⟨cl,e1,e2,e3,fun p hp hf'=>?_⟩;rcases Ae hp with z |z
   .rw[z]at hf';exact absurd (by rw[show k=.free from hf'];rfl) hk
   .exact e4 p z hf'
theorem MR{env:Env}{b:Scope}(h:∀p∈b.names,p.2=.free->∃c,env.cells.lookup p.1=some c) :
  EC fun g=>DD (closureFor b env=pure g) ((∀n c,g.lookup n=some c->env.cells.lookup n=some c)) ((∀p∈b.names,p.2=.free->(g.lookup p.1).isSome=true)):=by
 obtain⟨g,j,l,_,m⟩:=JV (env:=env) (fun x d=>if(x.2==.free)=true then(do let a <- cellOf env x.1;pure (.yield ((x.1,a)::d)))else pure (.yield d)) (fun i i i=>rfl) b.names [] h (fun i i q=>by cases q)
 refine⟨g,?_,l,m⟩;simp only[closureFor];have e:(fun(x:Str×NameKind) (d:List (Str×Addr))=>if(x.2==.free)=true then(do let a <- cellOf env x.1;pure (ForInStep.yield ((x.1,a)::d)):Sem (ForInStep (List (Str×Addr))))else pure (.yield d))=fun x d=>(match x with
   |(f,kind)=>if(kind==NameKind.free)=true then(do let a <- cellOf env f;pure (ForInStep.yield ((f,a)::d)))else pure (ForInStep.yield d)):=by
  funext x d;obtain⟨n,k⟩:=x;rfl
 rw[e]at j;rw[show(forIn b.names ([]:List (Str×Addr)) fun(x:Str×NameKind) d=>_)=_ from j];rfl
theorem DP{env:Env}:∀{names:List (Str×NameKind)}{x:Str}{k:NameKind},names.lookup x=some k ->
  (names.map fun(n,k)=>if(k==NameKind.free&&env.scope.kind==.function&&env.kindOf n==some .cell)then(n,NameKind.cell)else(n,k)).lookup x=some (if(k==NameKind.free&&env.scope.kind==.function&&env.kindOf x==some .cell)then .cell else k)
 |[],_,_,h=>Gi h
 |(n,k)::r,x,kk,h=>by
  show List.lookup x ((if(k==NameKind.free&&env.scope.kind==.function&&env.kindOf n==some .cell)=true then(n,NameKind.cell)else(n,k))::_)=_
  refine Ce (x==n) (fun hx=>?_) fun hx=>?_
  .simp only[lookup_cons,hx]at h;cases h;have:=eq_of_beq hx;subst this;by_cases hc:(k==NameKind.free&&env.scope.kind==.function&&env.kindOf x==some .cell)=true
   .simp[hc,lookup_cons]
   .simp only[hc];simp[lookup_cons]
  .simp only[lookup_cons,hx]at h;have ih:= @DP env r x kk h;by_cases hc:(k==NameKind.free&&env.scope.kind==.function&&env.kindOf n==some .cell)=true
   .rw[if_pos hc];simp only[lookup_cons,hx];exact ih
   .rw[if_neg hc];simp only[lookup_cons,hx];exact ih
theorem GS:c.lookup y=some .local->lk (CG c E) y≠some (some v):=by
 induction c with
 |nil=>exact fun h=>Gi h
 |cons p r d=>
  obtain⟨n,k⟩:=p;intro h e;rw[lookup_cons]at h;unfold lk CG at e d;rw[filterMap_cons]at e;by_cases b:(y==n)=true
  .rw[b]at h;cases h;have e:List.lookup y ((n,none)::_)=some (some v):=e;rw[lookup_cons,b]at e;cases e
  .have a:(y==n)=false:=Bool.eq_false_iff.mpr b;rw[a]at h;refine d h ?_;have go:∀{o r},List.lookup y ((n,o)::r)=some (some v)->List.lookup y r=some (some v):=fun e=>by rw[lookup_cons,a]at e;exact e
   cases k<;>first |exact e |exact go e
theorem MS(e:lk (CG c E) y=some (some v)):lk E y=some (some v):=by
 have:(y,some v)∈CG c E:=by
  exact mem_of_lookup e
 unfold CG at this;rw[List.mem_filterMap]at this;obtain⟨p,a,q⟩:=this;obtain⟨n,k⟩:=p;cases k<;>simp at q
 obtain⟨rfl,q⟩:=q
 revert q
 refine CK (lk E n) (fun h=>?_) fun o h=>?_
 .intro q;cases q
 .intro q;exact congrArg some q
section
variable {d:Nat} {G G':Gh} {H:Aj} {sc:List (Str×NameKind)} {ρ:BA} {env:Env} {own:Addr->Prop} {s s':Shared} {A:Around} {scope:Scope} {cl:List (Str×Addr)} {C:Addr}
abbrev Rm(C:Addr):Addr->Prop:=fun b=>b=C
theorem Ys{out:List (Str×NameKind)}(h:PJ c out=true):KE c out:=fun x a=>by
 have:=List.all_eq_true.mp h _ (mem_of_lookup a);simpa using this
theorem He.inner(x:He X G sc ρ env own s.heap)(h:Az X G H s)(i:s.heap.get? C=none)(keep:∀b o,s.heap.get? b=some o->s'.heap.get? b=some o)(t:s'.heap.Ns C fun M=>none)
  (w:scope.kind=.function) (a:∀y∈scope.names,y.2≠.cell) (l:KE scope.names sc)
  (j:∀n c,cl.lookup n=some c->env.cells.lookup n=some c) (B:∀p∈scope.names,p.2=.free->(cl.lookup p.1).isSome=true) :
  He X G scope.names (CG scope.names ρ) (compEnvC scope cl C env) (Rm C) s'.heap where
 kind:=w
 glob:=x.glob
 bi:=x.bi
 ns:=⟨_,t,fun y v e q=>absurd e (GS q)⟩
 ownL:=rfl
 kl:=fun y e=>by
  exact lookup_relabel_local e
 kg:=fun y e=>by
  exact(DP (env:=env) e).trans rfl
 cell:=fun y e=>by
  have m:scope.names.lookup y=some .free:=e.resolve_left fun q=>a _ (mem_of_lookup q) rfl;obtain⟨c,k⟩:=Option.isSome_iff_exists.mp (B _ (mem_of_lookup m) rfl);obtain⟨_,N,D,g,f,E⟩:=x.cell y (l y m);rw[j y c k]at g;cases g;refine⟨?_,c,D,k,f.keeps keep,fun v e=>E v (MS e)⟩;have e:=DP (env:=env) m
  split at e
  .exact .inl e
  .exact .inr e
 ownC:=fun y e=>absurd rfl (a _ (mem_of_lookup e))
 cinj:=fun y z c F I=>x.cinj y z c (j _ _ F) (j _ _ I)
 ownOff:=fun b J=>by
  subst J;obtain⟨o,_,_,e,_⟩:=t;refine⟨?_,fun y=>?_,o,e⟩
  .refine CK (X.base.get? b) (fun q=>?_) fun K q=>?_
   .rfl
   .rw[h.base b K q]at i;cases i
  .obtain⟨O,u⟩:=h.alive y;rw[i]at u;cases u
 cellOff:=fun y c k=>by
  obtain⟨L,P,o,r⟩:=x.cellOff y c (j _ _ k);refine⟨L,?_,o,keep _ _ r⟩;show c≠C;intro q;rw[q,i]at r;cases r
theorem St.weak(x:St X G H sc E env own s)(h:∀y v,lk ρ y=some (some v)->lk E y=some (some v)):St X G H sc ρ env own s where
 h:=x.h
 f:={
  kind:=x.f.kind
  glob:=x.f.glob
  bi:=x.f.bi
  ns:=by obtain⟨m,a,b⟩:=x.f.ns;exact⟨m,a,fun y v e k=>b y v (h y v e) k⟩
  ownL:=x.f.ownL
  kl:=x.f.kl
  kg:=x.f.kg
  cell:=fun y k=>by obtain⟨a,c,g,b,e,f⟩:=x.f.cell y k;exact⟨a,c,g,b,e,fun v q=>f v (h y v q)⟩
  ownC:=x.f.ownC
  cinj:=x.f.cinj
  ownOff:=x.f.ownOff
  cellOff:=x.f.cellOff }
theorem PG{cenv:Env}:∀(l:List Expr),(forIn l false fun c r=>if r=true then do let ok <- isTrue c cenv (eval c cenv);pure (ForInStep.yield ok)else pure (ForInStep.yield r):Sem Bool)=pure false:=by
 intro zl;induction zl with
 |nil=>
  exact forIn_nil
 |cons c r ih=>
  rw[forIn_cons];simp only[false_eq_true,if_false,pure_bind];exact ih
theorem Ul{ifs:List Expr}:(∀e∈ifs,ES X d e)->∀{ρ:BA}{H:Aj}{f:Bool->Aj->Prop},O7 X d ifs sc ρ H f ->
  QC X d sc (fun env=>forIn ifs true fun c r=>if r=true then do let q <- isTrue c env (eval c env);pure (ForInStep.yield q)else pure (ForInStep.yield r)) ρ H f:=by
 induction ifs with
 |nil=>
  intro _ ρ H f g A G env own s i st Q k;show wpAny _ _ (forIn ([]:List Expr) true _) _ _ _;rw[forIn_nil];exact AB (k G H true s (.refl ..) st.h g)
 |cons e r t=>
  intro m ρ H f g A G env own s i st Q k
  (conv at g=>whnf)
  show wpAny _ _ (forIn (e::r) true _) _ _ _;rw[forIn_cons];refine AA (AA ((m e (.head _)).test _ _ _ _ g A G env own s i st _ fun n u b o j p a=>AB ?_));cases b with
  |true=>
   exact t (fun e v=>m e (.tail _ v)) a A n env own o i (st.step j p) Q fun w x b s2 y z l=>k w x b s2 (j.trans y) z l
  |false=>
   show wpAny _ _ (forIn r false _) _ _ _;rw[PG];exact AB (k n u false o j p a)
end
def ET(X:Cx)(G:Gh)(h:Heap)(D:Addr):HO->Prop
 |.list l=>∃a,LI h D a/\BJ G l a
 |.dict l=>DV X G h D l
 |_=>False
section
variable {d:Nat} {G G':Gh} {H:Aj} {sc:List (Str×NameKind)} {ρ:BA} {env:Env} {own:Addr->Prop} {s s':Shared} {A:Around} {D C:Addr} {acc:HO}
theorem ET.keep{c:Heap}(x:ET X G h D acc)(e:G.Le G')(f:∀o,h.get? D=some o->c.get? D=some o):ET X G' c D acc:=by
 cases acc with
 |list l=>obtain⟨g,a,b⟩:=x;exact⟨g,a.at f,b.le e⟩
 |dict l=>exact DV.keep x e f
 |_=>exact x.elim
theorem ET.notTup(x:ET X G h D acc):∀c,¬h.IsTuple D c:=by
 cases acc with
 |list l=>obtain⟨c,a,b⟩:=x;exact a.notTup
 |dict l=>
  obtain⟨o,i,ep,g,j,hd,_⟩:=x;rintro c ⟨k,e,m,n,f⟩;rw[g]at e;cases e;rw[hd]at f;cases f
 |_=>exact x.elim
theorem ET.or(x:ET X G h D acc)(c:G.loc n=some D)(e:G.aux n=none):OR X G h n acc:=by
 cases acc with
 |list l=>obtain⟨f,a,b⟩:=x;exact⟨D,f,c,e,a,b⟩
 |dict l=>exact Az.ofDV c e x
 |_=>exact x.elim
theorem Rz{E:Value->Shared->Prop}(a:ET X G s.heap D (.list l))(q:VR G v x)(r:l.length<Ar)
  (h:∀f,ET X G f D (.list (l++[v]))->(∀b o,b≠D->s.heap.get? b=some o->f.get? b=some o)->(∃o,f.get? D=some o)->Q .none { s with heap:=f }) :
  wpAny (model X.prog X.w) A (call (.builtin "list.append") [.ref D,x]) Q E s:=by
 obtain⟨n,i,p⟩:=a;obtain⟨o,j,t,m,hd⟩:=i.1;obtain⟨u,e⟩:=Obj.data_mapSeq hd (·.push x);refine wpAny_call_entry slot_list_append i.1.typeIs entry_list_append ?_ (args_list_append _ _);show wpAny _ _ (updateSeq D (·.push x) >>= fun B=>ret .none) _ _ s;refine AA ?_;have F:n.toArray.size<=sizeLine:=by rw[size_toArray,<- p.length];exact Bh (AR r)
 refine wpAny_updateSeq j hd (AB ⟨.none,rfl,?_⟩);have k:=get?_update_self (h:=s.heap) (mapSeq (·.push x)) j (Obj.isFreed_of_seq e);refine h _ ⟨n++[x],⟨⟨_,k,(cls_mapSeq ..).trans t,u,?_⟩,fun I g=>?_⟩,p.append (.cons q .nil)⟩ (fun b J y g=>(get?_update_other _ _ (Ne.symm y)).trans g) ⟨_,k⟩
 .rw[e];simp
 .rw[k]at g;cases g;obtain⟨c,z,K,L⟩:=o;simp only at hd;subst hd;exact(i.2 _ j:z=none)
def QX(X:Cx)(d:Nat)(sc:List (Str×NameKind))(D:Addr)(m:Env->Sem Unit)(em:BA->HO->Aj->(HO->Aj->Prop)->Prop):Prop:=
 ∀(A:Around)(G:Gh)(env:Env)(own:Addr->Prop)(s:Shared)(ρ:BA)(H:Aj)(acc:HO)(b:HO->Aj->Prop),B4 d A->St X G H sc ρ env own s->By X G s.heap D->ET X G s.heap D acc->em ρ acc H b->∀Q:Unit->Shared->Prop,
  (∀G' c a s',At G (Rm D) s G' s'->Az X G' c s'->By X G' s'.heap D->ET X G' s'.heap D a->b a c->Q () s')->wpAny (model X.prog X.w) A (m env) Q (fun e e=>False) s
theorem At.one{a:Gh}{c:Shared}(q:At a Cs c G s){tk:Nat}(p:By X a c.heap D)(f:∀b o,b≠D->s.heap.get? b=some o->h.get? b=some o)(i:∃o,h.get? D=some o):At a (Rm D) c G { s with heap:=h,toks:=tk }:=
 ⟨q.le,q.same.trans (.of ⟨_,_,rfl⟩),fun b o e n m=>f b o m (q.keep b o e n id),q.fresh,fun b o e=>by
  obtain⟨g,j⟩:=q.alive b o e;by_cases z:b=D
  .subst z;exact i
  .exact⟨g,f b g z j⟩⟩
def MW(X:Cx)(d:Nat)(e:Expr)(sc:List (Str×NameKind)):BA->HO->Aj->(HO->Aj->Prop)->Prop:=fun a acc c k=>Br X d e sc a c fun v b=>Qe (fun l=>l.length<Ar/\k (.list (l++[v])) b) acc
def NU(X:Cx)(d:Nat)(a b:Expr)(sc:List (Str×NameKind)):BA->HO->Aj->(HO->Aj->Prop)->Prop:=fun c acc g k=>Br X d a sc c g fun x e=>Br X d b sc c e fun y f=>Ve (fun l=>Pd 8 x/\l.length<Ar/\k (.dict (BK l x y)) f) acc
theorem I1(j:ES X d e):QX X d sc D (fun env=>eval e env >>= fun x=>call (.builtin "list.append") [.ref D,x] >>= fun w=>pure ()) (MW X d e sc):=by
 intro A G env own s ρ H acc z m st f g n Q k;refine AA (j.val _ _ _ _ n A G env own s m st _ fun o p v y q c r t a=>?_);obtain⟨l,rfl,a⟩:=HV a;refine AA (Rz (g.keep c.le (f.keep c)) t a.1 fun B u h i=>AB ?_);have b:=f.post c;exact k o p _ _ (c.one (tk:=q.toks) f h i) (r.priv b (ET.notTup (g.keep c.le (f.keep c))) h) ⟨b.off,b.base,i⟩ u a.2
theorem Ik{b:Expr}{pos:Pos}(I:ES X d e)(J:ES X d b):QX X d sc D (fun env=>eval e env >>= fun g=>holding [g] (eval b env) >>= fun p=>standAt pos >>= fun Y=>holding [g,p] (dictSet D g p)) (NU X d e b sc):=by
 intro A G env own s ρ H acc Z h st i K L Q k;have hu:=h.2.2;refine AA (I.val _ _ _ _ L A G env own s h st _ fun M H1 v x N r O P j=>?_);refine AA (AC (J.val _ _ _ _ j A M env own N h (st.step r O) _ fun w R u y s2 z B S a=>?_));obtain⟨l,rfl,a⟩:=Kh a;obtain⟨T,U,a⟩:=a;have q:=r.trans z;have E:DV X w s2.heap D l:=ET.keep (acc:=.dict l) K q.le (i.keep q);refine AA (wpAny_standAt (AC (Fe B E T (P.le z.le) S (by omega) (Bh (AR U)) fun V t m W=>?_)));have F:∀b o,b≠D->s2.heap.get? b=some o->V.get? b=some o:=fun b o n f=>(W.2 b n).trans f;have c:=i.post q;exact k w R (.dict (BK l v u)) _ (q.one (tk:=t) i F m.there') (B.priv c E.notTup F) ⟨c.off,c.base,m.there'⟩ m a
inductive Cj:Expr->Prop
 |list (e:Expr) (gens:List Comprehension) (c:Scope) (pos:Pos):Cj (.ListComp e gens c pos)
 |dict (a b:Expr) (gens:List Comprehension) (c:Scope) (pos:Pos):Cj (.DictComp a b gens c pos)
def HE(e:Expr)(D:Addr)(env:Env):Sem Unit:=e.casesOn (motive_1:=fun a=>Sem Unit) (fun a a a=>pure ()) (fun a a a=>pure ()) (fun a a a a=>pure ()) (fun a a a=>pure ()) (fun a a a a=>pure ()) (fun a a a a=>pure ()) (fun a a a=>pure ()) (fun a a a=>pure ()) (fun b a a a=>eval b env >>= fun x=>call (.builtin "list.append") [.ref D,x] >>= fun a=>pure ()) (fun a a a a=>pure ()) (fun k v a a a=>eval k env >>= fun c=>holding [c] (eval v env) >>= fun f=>standAt { k.pos with endLine:=v.pos.endLine,endCol:=v.pos.endCol } >>= fun a=>holding [c,f] (dictSet D c f)) (fun a a a a=>pure ()) (fun a a=>pure ()) (fun a a=>pure ()) (fun a a=>pure ()) (fun a a a a=>pure ()) (fun a a a a=>pure ()) (fun a a a a=>pure ()) (fun a a=>pure ()) (fun a a a=>pure ()) (fun a a a=>pure ()) (fun a a a=>pure ()) (fun a a=>pure ()) (fun a a=>pure ()) (fun a a=>pure ()) (fun a a a=>pure ()) (fun a a a a=>pure ())
theorem N8{t iter:Expr}{ifs:List Expr}{it:Value}{env:Env}(l:Cj e)(h:(clausesOf e)[n]? =some ⟨t,iter,ifs,0⟩) :
  compTurn e n it (.ref D) env=(standAt iter.pos >>= fun j=>pyNext it >>= fun r=>match r with
   |none=>pure (.done .next)
   |some v=>letOwnedTupleGo t it v >>= fun j=>assign t env v >>= fun j=>
    (forIn ifs true fun c r=>if r=true then do let k <- isTrue c env (eval c env);pure (ForInStep.yield k)else pure (ForInStep.yield r):Sem Bool) >>= fun k=>
    if k=true then
     (match (clausesOf e)[n+1]? with
     |some i=>(do
      let x <- eval i.iter env
      standAt i.iter.pos
      let x <- if i.is_async != 0 then foldedIterable i.iter x else foldedSetIterable i.iter env x
      let _ <- runOwn (.compStart e (n+1) (<- holding [x] (if i.is_async != 0 then asyncIter x else pyIter x)) (.ref D) env) env
      again (.compLoop e n it (.ref D) env))
     |none=>(HE e D env >>= fun j=>again (.compLoop e n it (.ref D) env)))
    else again (.compLoop e n it (.ref D) env)):=by
 cases l with
 |list m f g pos=>
  have h:f[n]? =some ⟨t,iter,ifs,0⟩:=h;delta compTurn;dsimp only;rw[h];rfl
 |dict a b f g pos=>
  have h:f[n]? =some ⟨t,iter,ifs,0⟩:=h;delta compTurn;dsimp only;rw[h];rfl
end
def EF(t:Expr):List Str:=match EK t with
 |some x=>[x]
 |none=>match Uh t with
  |some a=>a.flatMap fun e=>(EK e).toList
  |none=>[]
def Dk(gs:List Comprehension):List Str:=gs.flatMap fun g=>EF g.target
def Ci:List Comprehension->Bool
 |[]=>true
 |g::gs=>((EF g.target).all fun x=> !(Dk gs).contains x)&&Ci gs
theorem Ls:∀g a,Ci (g::a)=(((EF g.target).all fun x=> !(Dk a).contains x)&&Ci a):=fun b b=>rfl
def YL(a:BA)(ns:List Str):Prop:=∀x∈ns,∀v,lk a x≠some (some v)
theorem Kk(h:BW c d l E F):∀{b:BA->Prop},(∀r,F r->b r)->BW c d l E b:=
 BW.ind (P:=fun d l E F=>∀{b:BA->Prop},(∀r,F r->b r)->BW c d l E b) (fun a a h a e=>e _ h) (fun a a a a a a a f g a i a e=>LU f g (i e)) h
theorem Mz(h:BW c d l E F) :
  BW c d l E fun a=>F a/\∀y,y∉(d.flatMap fun e=>(EK e).toList)->lk a y=lk E y:=
 BW.ind (P:=fun d l E F=>BW c d l E fun a=>F a/\∀y,y∉(d.flatMap fun e=>(EK e).toList)->lk a y=lk E y) (fun b b h=>⟨h,fun b b=>rfl⟩)
  (fun x p d v l E F j g b k=>LU j g (Kk k fun r i=>⟨i.1,fun y f=>by
   rw[flatMap_cons,mem_append]at f;rw[i.2 y fun q=>f (.inr q),Dg g,if_neg fun q=>f (.inl (by rw[q];exact .head _))]⟩)) h
theorem SB(h:GH c e v E F):GH c e v E fun a=>F a/\∀y,y∉EF e->lk a y=lk E y:=by
 cases Qp h with
 |name x p v h=>
  have h:=KZ h;exact WX <|Gm (k:=fun a=>F a/\∀y,y∉EF (.Name x p)->lk a y=lk E y) h.1 h.2.1 ⟨h.2.2,fun y d=>by rw[Dg h.2.1,if_neg (fun q=>d (by rw[q];exact .head _))]⟩
 |tup f b p l h=>exact Mz h
section
variable {d:Nat} {sc:List (Str×NameKind)}
def Zm(X:Cx)(d:Nat)(sc:List (Str×NameKind))(a:BA->HO->Aj->(HO->Aj->Prop)->Prop):List Comprehension->BA->HO->Aj->(HO->Aj->Prop)->Prop
 |[]=>a
 |g::gs=>fun b c H k=>Jg X d (g::gs) sc b sc b a c H k
def Ht(X:Cx)(d:Nat)(sc:List (Str×NameKind))(t:Expr)(ifs:List Expr)(g:BA)(inner:BA->HO->Aj->(HO->Aj->Prop)->Prop):V->HO->Aj->(HO->Aj->Prop)->Prop:=
 fun x c e k=>GH sc t x g fun f=>O7 X d ifs sc f e fun b a=>(if b=true then inner f c a k else k c a)
theorem Nw{i:Expr}{ifs:List Expr}{j:BA}
  (h:Jg X d (⟨e,i,ifs,0⟩::D) c E sc j B L H N):Br X d i c E H fun a b=>Cd a b fun l guard f=>CU (Ht X d sc e ifs j (Zm X d sc B D)) guard l L f N:=by
 cases D with
 |nil=>exact h
 |cons g D=>exact h
structure N6(X:Cx)(d:Nat)(g:Comprehension):Prop where
 it:ES X d g.iter
 ifs:∀e∈g.ifs,ES X d e
 sync:g.is_async=0
 set:∀env x,foldedSetIterable g.iter env x=pure x
theorem HS{a:Value}{env:Env}(b:Cj e):z3.under (.compLoop e n x a env)=z3:=by
 cases b<;>exact Around.under_of_weight rfl rfl
theorem LD{a:Value}{env:Env}(b:Cj e):z3.under (.compStart e n x a env)=z3:=by
 cases b<;>exact Around.under_of_weight rfl rfl
theorem Lh{b:Value}{env:Env}(c:Cj e):(model i5 Y).den (.compLoop e n x b env)=(compTurn e n x b env).onRaise (fun a=>do noteFrame a env;theTreesLotGoes a):=by
 cases c<;>rfl
theorem Ou{a:Value}{env:Env}(c:Cj e):(model i5 Y).den (.compStart e n x a env)=(compStart e n x a env).onRaise (fun b=>do noteFrame b env;standAt theWindowsPlace):=by
 cases c<;>rfl
section
variable {G G₀:Gh} {H:Aj} {s s₀:Shared} {A:Around} {I:Addr} {i:Nat} {K:MM}
theorem TE{i j k:Int}:True:=trivial
theorem Pu{E:Value->Shared->Prop}(x:Do X G s.heap I i K)(f:∀t,K.fits t)(h:Q (.ref I) s):wpAny (model X.prog X.w) A (pyIter (.ref I)) Q E s:=by
 cases K with
 |tup t g l=>exact wpAny_pyIter_tupleiter x.2.1 h
 |list n a l=>exact wpAny_pyIter_listiter x.2.1 h
 |range a b c=>
  have e:s.TypeIs (.ref I) "range_iterator" :=⟨_,x.2,rfl⟩;refine wpAny_pyIter_slot e PySem.F.slot_range_iterator_iter (wpAny_call_entry PySem.F.slot_range_iterator_iter e PySem.F.entry_range_iterator_iter ?_ (PySem.F.args_range_iterator_iter_1 _));exact AB ⟨_,rfl, "range_iterator",_,e,PySem.F.slot_range_iterator_next.lookup,h⟩
 |enum b t g l=>
  obtain⟨j,x,p,q⟩:=f (.Constant .none 0 default);cases q
theorem Is{t iter:Expr}{ifs:List Expr}{env:Env}(b:Cj e)(c:(clausesOf e)[n]? =some ⟨t,iter,ifs,0⟩)(a:Do X G s.heap I i K)(f:∀t,K.fits t)
  (h:codeAny (model X.prog X.w) A (.compLoop e n (.ref I) x env) u0 s):codeAny (model X.prog X.w) A (.compStart e n (.ref I) x env) u0 s:=by
 refine codeAny_of_tree ?_;rw[LD b,Ou b];refine wpAny_notedAt ?_;unfold compStart;rw[c];simp only[Option.elim_some,bne_self_eq_false,false_eq_true,if_false];refine AA (wpAny_askSetting (wpAny_ite ?_))
 split
 .first
   |exact AA (AB (AB (And.intro rfl h)))
   |exact AB (And.intro rfl h)
 .refine AA (wpAny_rule ?_);refine AA (wpAny_standAt (AA (Pu a f ?_)));exact AB (And.intro rfl h)
structure LS(X:Cx)(sc:List (Str×NameKind))(cenv:Env)(D:Addr)(G₀:Gh)(s₀:Shared)(ρ:BA)(G:Gh)(H:Aj)(acc:HO)(s:Shared):Prop where
 post:At G₀ (fun b=>b=cenv.locals\/b=D) s₀ G s
 st:St X G H sc ρ cenv (Rm cenv.locals) s
 pv:By X G s.heap D
 av:ET X G s.heap D acc
variable {cenv:Env} {D:Addr} {ρ:BA} {acc:HO}
theorem LS.step{a:Gh}{c:Aj}{b:Shared}(x:LS X sc cenv D G₀ s₀ ρ G H acc s)(p:At G Cs s a b)(e:Az X a c b):LS X sc cenv D G₀ s₀ ρ a c acc b:=
 ⟨x.post.trans (p.nil _),x.st.step p e,x.pv.post p,x.av.keep p.le (x.pv.keep p)⟩
theorem By.there2(p:By X G h D):∃o,h.get? D=some o:=p.there
theorem LS.far{g:Gh}{h:Shared}(x:LS X sc cenv D G₀ s₀ ρ G H acc s)(u:Az X g H h)(v:FV s h)(le:G.Le g)(j:∀b,g.isLoc b->G.isLoc b)
  (a:∀b o,¬P b->s.heap.get? b=some o->h.heap.get? b=some o) (k:∀b,P b->s₀.heap.get? b=none/\b≠cenv.locals/\b≠D) (l:∀x c,cenv.cells.lookup x=some c->∃o,s₀.heap.get? c=some o) :
  LS X sc cenv D G₀ s₀ ρ g H acc h:=by
 have r:¬P D:=fun q=>(k _ q).2.2 rfl;have p:∀b o,s₀.heap.get? b=some o->¬P b:=fun b o e q=>by rw[(k _ q).1]at e;cases e
 have w:∀x c,cenv.cells.lookup x=some c->¬P c:=fun x c e=>by obtain⟨o,q⟩:=l x c e;exact p c o q
 refine⟨⟨x.post.le.trans le,x.post.same.trans v,fun b o e n m=>a b o (p b o e) (x.post.keep b o e n m),fun b y=>x.post.fresh b (j b y),fun b o e=>?_⟩,⟨u,?_⟩,⟨fun y=>x.pv.off (j _ y),x.pv.base,?_⟩,x.av.keep le fun o e=>a D o r e⟩
 .obtain⟨t,B⟩:=x.post.alive b o e;exact⟨t,a b t (p b o e) B⟩
 .exact x.st.f.keep le (fun b o q e=>a b o (q.elim (fun C=>by rw[show b=cenv.locals from C];exact(fun q=>(k _ q).2.1 rfl)) (by rintro⟨y,E⟩;exact w y b E)) e) fun b F F z=>j b z
 .obtain⟨o,e⟩:=x.pv.there;exact⟨o,a _ _ r e⟩
theorem La{t iter:Expr}{ifs:List Expr}{Z:Sem PySem.Fin}{ns:List Str}{G₀:Gh}{s₀:Shared}(hc:Cj e)(rm:B4 d A)
  (l0:cenv.locals≠D) (a0:∀x c,cenv.cells.lookup x=some c->∃o,s₀.heap.get? c=some o) (q0:∀x c,cenv.cells.lookup x=some c->c≠D)
  (b0:compTurn e n (.ref I) (.ref D) cenv=(standAt iter.pos >>= fun j=>pyNext (.ref I) >>= fun r=>match r with
   |none=>pure (.done .next)
   |some v=>letOwnedTupleGo t (.ref I) v >>= fun j=>assign t cenv v >>= fun j=>
    (forIn ifs true fun c r=>if r=true then do let ok <- isTrue c cenv (eval c cenv);pure (ForInStep.yield ok)else pure (ForInStep.yield r):Sem Bool) >>= fun ok=>
    if ok=true then Z else again (.compLoop e n (.ref I) (.ref D) cenv)))
  (c0:∀e∈ifs,ES X d e) (ft:∀t,K.fits t) (hI:∀b,K.own I b->s₀.heap.get? b=none/\b≠cenv.locals/\b≠D)
  (d0:YL ρ (EF t++ns)) (m0:∀x∈EF t,x∉ns)
  (f0:∀(a:BA)(G:Gh)(H:Aj)(acc:HO)(s:Shared)(k:HO->Aj->Prop)(Q:PySem.Fin->Shared->Prop),YL a ns->LS X sc cenv D G₀ s₀ a G H acc s->B a acc H k ->
   (∀G' p f M,At G (fun b=>b=cenv.locals\/b=D) s G' M->LS X sc cenv D G₀ s₀ a G' p f M->k f p->Q (.again (.compLoop e n (.ref I) (.ref D) cenv)) M)->wpAny (model X.prog X.w) A Z Q (fun j j=>False) s)
  (hR:∀G' p f M,LS X sc cenv D G₀ s₀ ρ G' p f M->N f p->u0 (.ok .next) M) :
  ∀(l:List V)(i:Nat)(G:Gh)(H:Aj)(acc:HO)(s:Shared),K.items.drop i=l->i<=K.items.length->LS X sc cenv D G₀ s₀ ρ G H acc s->Do X G s.heap I i K->K.guard H->CU (Ht X d sc t ifs ρ B) K.guard l acc H N ->
   codeAny (model X.prog X.w) A (.compLoop e n (.ref I) (.ref D) cenv) u0 s:=by
 intro l;induction l with
 |nil=>
  intro i G H acc s hl hi L it g φ;refine codeAny_of_tree ?_;rw[HS hc,Lh hc];refine wpAny_noted ?_;rw[b0];have n0:i=K.items.length:=by
   have:=congrArg List.length hl;rw[length_drop,length_nil]at this;omega
  rw[n0]at it;refine AA (wpAny_standAt (AA ?_));refine SF rm.1 L.st.h it g fun M h' sm hk=>AB ?_;exact hR G H acc M (L.far h' sm (.refl G) (fun j y=>y) hk hI a0) φ
 |cons x r ih=>
  intro i G H acc s hl hi L it g φ;have hx:K.items[i]? =some x:=by
   have:(K.items.drop i)[0]? =some x:=by rw[hl];rfl
   rwa[getElem?_drop,Nat.add_zero]at this
  have g0:i<K.items.length:=(AE hx).1;have hr:K.items.drop (i+1)=r:=by
   have:=congrArg List.tail hl;rwa[tail_drop,tail_cons]at this
  refine codeAny_of_tree ?_;rw[HS hc,Lh hc];refine wpAny_noted ?_;rw[b0];refine AA (wpAny_standAt (AA ?_));refine Nq (target:=t) rm.1 L.st.h it g hx (ft t) fun y s1 hy=>?_;refine AA (hy _ fun U s2 h2 sm le lc hk al o0 r2=>?_);have L2:=L.far h2 sm le lc hk hI a0;refine AA (wpAny_mono (Gq (Q:=fun j S=>EC fun a=>DD (At U (Rm cenv.locals) s2 U S) (St X U H sc a cenv (Rm cenv.locals) S) (((fun a=>O7 X d ifs sc a H fun b u=>(if b=true then B a acc u (fun f p=>K.guard p/\CU (Ht X d sc t ifs ρ B) K.guard r f p N)else K.guard u/\CU (Ht X d sc t ifs ρ B) K.guard r acc u N)) a/\∀y,y∉EF t->lk a y=lk ρ y))) rm.1 L2.st (SB φ) r2 fun a S W F k3=>⟨a,W,F,k3⟩) (fun j S z=>?_) fun j j z=>z.elim)
  obtain⟨a,W,F,p0,h0⟩:=z;have i0:∀b,(b=cenv.locals\/b=D)->b≠I/\∀bb t vs l,K=.enum bb t vs l->b≠bb:=fun b C=>by
   have O:∀b',K.own I b'->b≠b':=fun b' j0 q=>by
    subst q;rcases C with C |C
    .exact(hI _ j0).2.1 C
    .exact(hI _ j0).2.2 C
   exact⟨O I (.inl rfl),fun bb t vs l e=>O bb (.inr ⟨bb,t,vs,l,e,rfl⟩)⟩
  refine AA (wpAny_mono (Ul c0 p0 A U cenv (Rm cenv.locals) S rm F (fun b T=>Dd fun P J=>DD (At U Cs S P T) (Az X P J T) ((if b=true then B a acc J (fun f p=>K.guard p/\CU (Ht X d sc t ifs ρ B) K.guard r f p N)else K.guard J/\CU (Ht X d sc t ifs ρ B) K.guard r acc J N)))
   fun P J b T p4 h4 E=>⟨P,J,p4,h4,E⟩) (fun b T z=>?_) fun j j z=>z.elim)
  obtain⟨P,J,p4,h4,E⟩:=z;have L4:=(⟨L2.post.trans (W.own fun b C=>.inl C),F,⟨L2.pv.off,L2.pv.base,by obtain⟨o,e⟩:=L2.pv.there;exact W.alive _ _ e⟩,L2.av.keep (.refl _) fun o e=>W.keep _ o e L2.pv.off (fun q=>l0 q.symm)⟩:LS X sc cenv D G₀ s₀ a U H acc S).step p4 h4;have k0:Do X P T.heap I (i+1) K:=(o0.post W fun b C=>i0 b (.inl C)).post p4 fun b C=>C.elim;have wk:∀y v,lk ρ y=some (some v)->lk a y=some (some v):=fun y v e=>by
   rw[h0 y (fun q=>d0 y (mem_append_left _ q) v e)];exact e
  have R:∀{G5 H5 m s5},LS X sc cenv D G₀ s₀ a G5 H5 m s5->LS X sc cenv D G₀ s₀ ρ G5 H5 m s5:=fun Y=>⟨Y.post,Y.st.weak wk,Y.pv,Y.av⟩;cases b with
  |false=>
   exact AB ⟨rfl,ih (i+1) P J acc T hr g0 (R L4) k0 E.1 E.2⟩
  |true=>
   refine wpAny_mono (f0 a P J acc T _ _ (fun y hy v e=>?_) L4 E fun G5 H5 m s5 p5 Y k5=>⟨rfl,ih (i+1) G5 H5 m s5 hr g0 (R Y) (k0.post p5 i0) k5.1 k5.2⟩) (fun j j z=>z) fun j j z=>z.elim;rw[h0 y (fun q=>m0 y q hy)]at e;exact d0 y (AZ _ hy) v e
theorem RT(N:Cj e)(E:cenv.locals≠D)(O:∀x c,cenv.cells.lookup x=some c->c≠D)(em:QX X d sc D (HE e D) B)(rm:B4 d A) :
  ∀(u:List Comprehension)(t iter:Expr)(ifs:List Expr)(j:Nat),(clausesOf e).drop j=⟨t,iter,ifs,0⟩::u->(∀e∈ifs,ES X d e)->(∀g∈u,N6 X d g)->Ci (⟨t,iter,ifs,0⟩::u)=true ->
  ∀{R:Result->Shared->Prop}{Φ:HO->Aj->Prop}{ρ:BA}{G₀:Gh}{s₀:Shared}{I:Addr}{K:MM},(∀x c,cenv.cells.lookup x=some c->∃o,s₀.heap.get? c=some o)->YL ρ (Dk (⟨t,iter,ifs,0⟩::u))->(∀t,K.fits t)->(∀b,K.own I b->s₀.heap.get? b=none/\b≠cenv.locals/\b≠D) ->
  (∀G' H' M s',LS X sc cenv D G₀ s₀ ρ G' H' M s'->Φ M H'->R (.ok .next) s') ->
  ∀(l:List V)(i:Nat)(G:Gh)(H:Aj)(acc:HO)(s:Shared),K.items.drop i=l->i<=K.items.length->LS X sc cenv D G₀ s₀ ρ G H acc s->Do X G s.heap I i K->K.guard H->CU (Ht X d sc t ifs ρ (Zm X d sc B u)) K.guard l acc H Φ ->
   codeAny (model X.prog X.w) A (.compLoop e j (.ref I) (.ref D) cenv) R s:=by
 intro u;induction u with
 |nil=>
  intro t iter ifs j hd v P dt R Φ ρ G₀ s₀ I K S T ft hI hR l i G H acc s hl hi L it g φ;have hj:(clausesOf e)[j]? =some ⟨t,iter,ifs,0⟩:=by
   have:((clausesOf e).drop j)[0]? =some ⟨t,iter,ifs,0⟩:=by rw[hd];rfl
   rwa[getElem?_drop,Nat.add_zero]at this
  have F:(clausesOf e)[j+1]? =none:=by
   have:((clausesOf e).drop j)[1]? =none:=by rw[hd];rfl
   rwa[getElem?_drop]at this
  have y:=N8 (it:=.ref I) (env:=cenv) (D:=D) N hj;rw[F]at y;refine La (ns:=[]) N rm E S O y v ft hI (by simpa [Dk]using T) (fun zz zz q=>by cases q) ?_ hR l i G H acc s hl hi L it g φ;intro z G1 H1 r U k Q _ p W kk;refine AA (em A G1 cenv (Rm cenv.locals) U z H1 r k rm p.st p.pv p.av W _ fun G2 H2 a0 s2 Z h2 g0 h0 k2=>AB ?_);refine kk G2 H2 a0 s2 (Z.own fun b Y=>.inr Y) ⟨p.post.trans (Z.own fun b Y=>.inr Y),p.st.move Z h2 fun b Y=>?_,g0,h0⟩ k2;cases Y;exact⟨fun q=>E q.symm,fun q=>E q.symm,fun x c N q=>O x c N q.symm⟩
 |cons g' u i0=>
  intro t iter ifs j hd v P dt R Φ ρ G₀ s₀ I K S T ft hI hR l i G H acc s hl hi L it g φ;have hj:(clausesOf e)[j]? =some ⟨t,iter,ifs,0⟩:=by
   have:((clausesOf e).drop j)[0]? =some ⟨t,iter,ifs,0⟩:=by rw[hd];rfl
   rwa[getElem?_drop,Nat.add_zero]at this
  have F:(clausesOf e)[j+1]? =some g':=by
   have:((clausesOf e).drop j)[1]? =some g':=by rw[hd];rfl
   rwa[getElem?_drop]at this
  have j0:(clausesOf e).drop (j+1)=g'::u:=by
   have:=congrArg List.tail hd;rwa[tail_drop,tail_cons]at this
  have J:=P g' (.head _);obtain⟨t',m,n,a'⟩:=g';have ha:a'=0:=J.sync;subst ha;have y:=N8 (it:=.ref I) (env:=cenv) (D:=D) N hj;rw[F]at y;have b0:(∀x∈EF t,x∉Dk (⟨t',m,n,0⟩::u))/\Ci (⟨t',m,n,0⟩::u)=true:=by
   rw[Ls,and_eq_true,all_eq_true]at dt;exact⟨fun x hx q=>by have:=dt.1 x hx;simp at this;exact this q,dt.2⟩
  refine La (ns:=Dk (⟨t',m,n,0⟩::u)) N rm E S O y v ft hI (by simpa [Dk]using T) b0.1 ?_ hR l i G H acc s hl hi L it g φ;intro z G1 H1 r U k Q k0 p W kk;dsimp only;refine AA (J.it.val _ _ _ _ (Nw (show Jg X d (⟨t',m,n,0⟩::u) sc z sc z B r H1 k from W)) A G1 cenv (Rm cenv.locals) U rm p.st _ fun G2 H2 a x s2 Z h2 r2 l0=>?_);refine AA (wpAny_standAt ?_);simp only[bne_self_eq_false,false_eq_true,if_false];rw[J.set];refine AA (AB (AA (AC ?_)));refine Hh h2 l0 r2 fun I' K' s3 h3 p3 f1 f2 c0 g3 d0 m0=>?_;have C:=Z.trans p3;have fresh:∀b,s2.heap.get? b=none->U.heap.get? b=none:=fun b e=>by
   refine CK (U.heap.get? b) (fun q=>?_) fun o q=>?_
   .rfl
   .obtain⟨o',e'⟩:=Z.alive b o q;rw[e]at e';cases e'
  obtain⟨oC,eC⟩:=(p.st.f.ownOff _ rfl).there;obtain⟨oD,eD⟩:=p.pv.there;have n0:∀b,K'.own I' b->U.heap.get? b=none/\b≠cenv.locals/\b≠D:=fun b Y=>by
   have:=fresh b (f2 b Y);refine⟨this,?_,?_⟩
   .intro q;rw[q,eC]at this;cases this
   .intro q;rw[q,eD]at this;cases this
  refine AA (wpAny_runOwn (h:=none) ?_);refine Is N F c0 d0 ?_;refine i0 t' m n (j+1) j0 J.ifs (fun g hg=>P g (.tail _ hg)) b0.2 (Φ:=k) (ρ:=z) (G₀:=G1) (s₀:=U) (K:=K') (fun x c e=>(p.st.f.cellOff x c e).there) k0 d0 n0 (fun G5 H5 f0 s5 L5 k5=>?_) K'.items 0 G2 H2 r s3 rfl (zero_le _) ⟨C.nil _,p.st.step C h3,p.pv.post C,p.av.keep C.le (p.pv.keep C)⟩ c0 g3 m0;exact AB (kk G5 H5 f0 s5 L5.post ⟨p.post.trans L5.post,L5.st,L5.pv,L5.av⟩ k5)
end
end
structure NW(scope:Scope)(g:Comprehension)(gs:List Comprehension):Prop where
 kind:scope.kind=.function
 cell:∀y∈scope.names,y.2≠.cell
 names:∀y∈scope.names,y.2=.local->scope.names.lookup y.1=some .local
 free:∀y∈scope.names,y.2=.free->scope.names.lookup y.1=some .free
 loc:∀x∈Dk (g::gs),scope.names.lookup x=some .local
 dist:Ci (g::gs)=true
section
variable {d:Nat} {G:Gh} {H:Aj} {sc:List (Str×NameKind)} {ρ:BA} {env:Env} {own:Addr->Prop} {s:Shared} {A:Around} {scope:Scope}
structure Vx(X:Cx)(G:Gh)(s:Shared)(D C:Addr)(G':Gh)(H':Aj)(acc':HO)(s':Shared):Prop where
 post:At G Cs s G' s'
 h:Az X G' H' s'
 pv:By X G' s'.heap D
 av:ET X G' s'.heap D acc'
 hD:s.heap.get? D=none
 hC:s.heap.get? C=none
 ns:∃m,s'.heap.Ns C m
 ne:C≠D
 offC:By X G' s'.heap C
theorem Ix{k:List (Str×Addr)}{o0:Obj}{RR:Value->Addr->Result->Shared->Prop}
  (hc:Cj e) (Z:clausesOf e=y0::D) (hg:N6 X d y0) (p0:∀y0∈D,N6 X d y0) (S:NW scope y0 D) (q0:o0.isFreed=false)
  (a0:∀(s:Shared)(Q:Value->Shared->Prop),Q (.ref s.heap.objs.size) { s with heap:=s.heap.push o0 }->wpAny (model X.prog X.w) A u6 Q (fun l l=>False) s)
  (h0:∀(G:Gh)(h:Heap)(g:Addr),h.get? g=some o0->ET X G h g L)
  (em:∀g,QX X d scope.names g (HE e g) B) (rm:B4 d A) (st:St X G H sc ρ env own s)
  (h1:∀n c,k.lookup n=some c->env.cells.lookup n=some c) (h2:∀p∈scope.names,p.2=.free->(k.lookup p.1).isSome=true)
  (φ:FL (PJ scope.names sc) (Jg X d (y0::D) sc ρ scope.names (CG scope.names ρ) B L H N))
  (r0:∀g C G' H' i s',Vx X G s g C G' H' i s'->N i H'->RR (.ref g) C (.ok .next) s') :
  wpAny (model X.prog X.w) A (eval y0.iter env) (fun x b0=>wpAny (model X.prog X.w) A (pyIter x) (fun it c0=>wpAny (model X.prog X.w) A u6 (fun d0 f0=>
   wpAny (model X.prog X.w) A (newFunctionEnv scope env.globals k [] env.qual none .none (some env)) (fun F g0=>
    codeAny (model X.prog X.w) A (.compStart e 0 it d0 { F with scope:=relabel scope env }) (RR d0 F.locals) g0) (fun l l=>False) f0) (fun l l=>False) c0) (fun l l=>False) b0) (fun l l=>False) s:=by
 obtain⟨t,iter,ifs,a⟩:=y0;have ha:a=0:=hg.sync;subst ha;obtain⟨O,φ⟩:=Oc φ;have O:=Ys O;refine hg.it.val _ _ _ _ (Nw φ) A G env own s rm st _ fun P H1 a x s1 p1 x1 r1 t0=>?_;refine Hh x1 t0 r1 fun I K s2 x2 p2 f1 f2 j g2 i0 u0=>?_;refine a0 s2 _ ?_;have R:=p1.trans p2;refine wpAny_newFunctionEnv S.cell (by intro y hy;simp at hy) (fun h3 T u=>?_) S.kind;dsimp only at T u⊢;rw[(Heap.size_push ..)]at T u⊢;have U:∀b o,s2.heap.get? b=some o->h3.get? b=some o:=fun b o e=>by
  exact(u.2 b (Nat.ne_of_lt (lt_succ_of_lt (lt_size e)))).trans (get?_push_of_some _ (get?_push_of_some _ e))
 have j0:h3.get? s2.heap.objs.size=some o0:=(u.2 _ (Nat.ne_of_lt (lt_succ_self _))).trans (get?_push_of_some _ (get?_push_size _ q0));have k0:s2.heap.get? (s2.heap.objs.size+1)=none:=get?_none_of_le (le_succ _);have V:s2.heap.get? s2.heap.objs.size=none:=Aw _;have J:∀b,s2.heap.get? b=none->s.heap.get? b=none:=fun b e=>by
  refine CK (s.heap.get? b) (fun q=>?_) fun o q=>?_
  .rfl
  .obtain⟨o',e'⟩:=R.alive b o q;rw[e]at e';cases e'
 let W:Shared:={ s2 with heap:=h3,toks:=s2.toks+([]:List (Str×Value)).length };have p3:At P Cs s2 P W:=.ofKeeps ⟨_,_,rfl⟩ U _;have fr:He X P scope.names (CG scope.names ρ) (compEnvC scope k (s2.heap.objs.size+1) env) (Rm (s2.heap.objs.size+1)) W.heap:=by
  refine He.inner (s:=s2) (s':=W) ((st.step p1 x1).step p2 x2).f x2 k0 U (by simpa using T) S.kind S.cell O h1 h2
 have l0:Do X P W.heap I 0 K:=j.post p3 fun b E=>E.elim;have M:∀x c,k.lookup x=some c->∃o,s.heap.get? c=some o:=fun x c e=>(st.f.cellOff x c (h1 x c e)).there;have Y:∀x c,k.lookup x=some c->∃o,s2.heap.get? c=some o:=fun x c e=>by obtain⟨o,q⟩:=M x c e;exact R.alive c o q
 have hj:(clausesOf e)[0]? =some ⟨t,iter,ifs,0⟩:=by rw[Z];rfl
 refine Is hc hj l0 i0 ?_;have v0:YL (CG scope.names ρ) (Dk (⟨t,iter,ifs,0⟩::D)):=fun y hy v=>GS (S.loc y hy);let s0:Shared:={ s1 with heap:=s1.heap,toks:=s1.toks };have kI:∀b,K.own I b->b<s2.heap.objs.size:=fun b E=>by
  obtain⟨o,e⟩:∃o,s2.heap.get? b=some o:=by
   rcases E with E |⟨bb,t',vs,l',e1,e2⟩
   .subst E;cases K with
    |tup _ _ _=>exact j.1.there
    |list _ _ _=>exact j.1.there
    |range _ _ _=>exact j.1.there
    |enum _ _ _ _=>exact j.1.there
   .subst e1;subst e2;exact j.2.1.there
  exact lt_size e
 have base:LS X scope.names (compEnvC scope k (s2.heap.objs.size+1) env) s2.heap.objs.size G s (CG scope.names ρ) P H1 L W:=
  ⟨(R.trans p3).nil _,(⟨(x2.keeps U),fr⟩:St X P H1 scope.names (CG scope.names ρ) (compEnvC scope k (s2.heap.objs.size+1) env) (Rm (s2.heap.objs.size+1)) W),(By.new x2 V ⟨_,j0⟩),(h0 _ _ _ j0)⟩
 refine RT hc (cenv:=compEnvC scope k (s2.heap.objs.size+1) env) (D:=s2.heap.objs.size) (show s2.heap.objs.size+1≠s2.heap.objs.size by omega)
  (fun x c e q=>by obtain⟨o,z⟩:=Y x c e;rw[q,V]at z;cases z) (em _) rm D t iter ifs 0 ((Z ..).trans rfl) hg.ifs p0 S.dist (Φ:=N) (ρ:=CG scope.names ρ) (G₀:=G) (s₀:=s) (K:=K) M v0 i0
  (fun b E=>⟨?_,?_,?_⟩) (fun G' H' i s' r w0=>r0 _ _ G' H' i s' ?_ w0) K.items 0 P H1 L W rfl (zero_le _) base l0 g2 u0
 .refine CK (s.heap.get? b) (fun q=>?_) fun o q=>?_
  .rfl
  .obtain⟨o',e'⟩:=p1.alive b o q;rw[f2 b E]at e';cases e'
 .show b≠s2.heap.objs.size+1;exact Nat.ne_of_lt (lt_succ_of_lt (kI b E))
 .exact Nat.ne_of_lt (kI b E)
 .have m0:=J _ k0;have n0:=J _ V;have oC:=r.st.f.ownOff (s2.heap.objs.size+1) rfl;obtain⟨m,hm,_⟩:=r.st.f.ns;refine⟨⟨r.post.le,r.post.same,fun b o e n l=>r.post.keep b o e n ?_,r.post.fresh,r.post.alive⟩,r.st.h,r.pv,r.av,n0,m0,⟨m,hm⟩,(show s2.heap.objs.size+1≠s2.heap.objs.size by omega),⟨oC.off,oC.base,oC.there⟩⟩;rintro(q |q)
  .rw[q]at e;rw[show(compEnvC scope k (s2.heap.objs.size+1) env).locals=s2.heap.objs.size+1 from rfl,m0]at e;cases e
  .rw[q,n0]at e;cases e
theorem Vx.adopt{C:Addr}{f:Gh}{g:Aj}{c:Shared}(x:Vx X G s b C f g L c)(l:Heap.SameBut C c.heap h) :
  At G Cs s (f.addLoc g.length b none) { c with heap:=h }/\Az X (f.addLoc g.length b none) (g++[L]) { c with heap:=h }/\VR (f.addLoc g.length b none) (.loc g.length) (.ref b):=by
 have i:∀a o,a≠C->c.heap.get? a=some o->h.get? a=some o:=fun a o n e=>(l.2 a n).trans e;obtain⟨m,p⟩:=x.ns;have j:Az X f g { c with heap:=h }:=x.h.priv x.offC (Ns.notTup p) i;have r:At G Cs s f { c with heap:=h }:=⟨x.post.le,x.post.same.trans (.of ⟨h,c.toks,rfl⟩),fun a o e n z=>i a o (fun q=>by rw[q,x.hC]at e;cases e) (x.post.keep a o e n z),x.post.fresh,fun a o e=>by
  obtain⟨k,t⟩:=x.post.alive a o e;exact⟨k,i a k (fun q=>by rw[q,x.hC]at e;cases e) t⟩⟩
 exact⟨At.adopt (n:=0) r j x.hD,j.adopt (⟨x.pv.off,x.pv.base,by obtain⟨o,e⟩:=x.pv.there;exact⟨o,i b o (Ne.symm x.ne) e⟩⟩:By X f h b) ((x.av.keep (j.leLoc _ _) fun o e=>i b o (Ne.symm x.ne) e).or As BD),.loc As⟩
end
section
variable {d:Nat} {G:Gh} {H:Aj} {sc:List (Str×NameKind)} {ρ:BA} {env:Env} {own:Addr->Prop} {s:Shared} {A:Around} {scope:Scope}
theorem Ob(S:NW scope y0 D)(st:St X G H sc ρ env own s)(a:KE scope.names sc) :
  EC fun b=>DD (closureFor scope env=pure b) ((∀n c,b.lookup n=some c->env.cells.lookup n=some c)) ((∀p∈scope.names,p.2=.free->(b.lookup p.1).isSome=true)):=
 MR fun p g h=>by obtain⟨_,c,_,e,_,_⟩:=st.f.cell p.1 (a _ (S.free p g h));exact⟨c,e⟩
theorem LA{g:Obj}{acc0:HO}{emit:BA->HO->Aj->(HO->Aj->Prop)->Prop}{pos:Pos}
  (v:Cj e) (c:clausesOf e=y0::D) (q:N6 X d y0) (i:∀y0∈D,N6 X d y0) (S:NW scope y0 D) (j:g.isFreed=false)
  (f:∀(A:Around)(s:Shared)(Q:Value->Shared->Prop),Q (.ref s.heap.objs.size) { s with heap:=s.heap.push g }->wpAny (model X.prog X.w) A u6 Q (fun l l=>False) s)
  (y:∀(G:Gh)(h:Heap)(a:Addr),h.get? a=some g->ET X G h a acc0)
  (em:∀a,QX X d scope.names a (HE e a) emit)
  (t:FL (PJ scope.names sc) (Jg X d (y0::D) sc ρ scope.names (CG scope.names ρ) emit acc0 H fun b n=>z (.loc n.length) (n++[b]))) :
  DW X d sc (fun env=>comprehension e scope env pos u6 false (eval y0.iter env)) ρ H z:=by
 intro A G env own s B st Q k;obtain⟨M,E,F,I⟩:=Ob S st (Ys (Oc t).1);refine wpAny_comprehension_free (use:=none) c (q.set env) E S.kind S.names ?_;refine Ix (RR:=fun b C=>compPost (model X.prog X.w) A (fun l l=>False) none Q b C) v c q i S j (f A) y em B st F I t fun a C N n u O x o=>?_;obtain⟨m,J⟩:=x.ns;refine⟨m,J,fun K L=>?_⟩;obtain⟨p,h,r⟩:=x.adopt L;exact k _ _ _ _ _ p h r o
theorem LK{U:Obj}{acc0:HO}{emit:BA->HO->Aj->(HO->Aj->Prop)->Prop}{pos:Pos}{kn:BA->Aj->Prop}
  (V:Cj e) (K:clausesOf e=y0::D) (hg:N6 X d y0) (W:∀y0∈D,N6 X d y0) (S:NW scope y0 D) (Y:U.isFreed=false)
  (L:∀(A:Around)(s:Shared)(Q:Value->Shared->Prop),Q (.ref s.heap.objs.size) { s with heap:=s.heap.push U }->wpAny (model X.prog X.w) A u6 Q (fun B B=>False) s)
  (h0:∀(G:Gh)(h:Heap)(g:Addr),h.get? g=some U->ET X G h g acc0)
  (em:∀g,QX X d scope.names g (HE e g) emit)
  (φ:FL (PJ scope.names sc) (Jg X d (y0::D) sc ρ scope.names (CG scope.names ρ) emit acc0 H fun F u=>EO sc y (.loc u.length) ρ fun j=>kn j (u++[F])))
  (rm:B4 d A) (st:St X G H sc ρ env own s)
  (k:∀I u j J v,At G own s I J->St X I u sc j env own J->kn j u->Q v J) :
  wpAny (model X.prog X.w) A (comprehension e scope env pos u6 false (eval y0.iter env) (some (assign (.Name y q) env))) Q (fun B B=>False) s:=by
 obtain⟨cl,e1,e2,e3⟩:=Ob S st (Ys (Oc φ).1);refine wpAny_comprehension_free (use:=some (assign (.Name y q) env)) K (hg.set env) e1 S.kind S.names ?_;refine Ix (RR:=fun F C=>compPost (model X.prog X.w) A (fun B B=>False) (some (assign (.Name y q) env)) Q F C) V K hg W S Y (L A) h0 em rm st e2 e3 φ fun g C I u M J x Z=>?_;obtain⟨m,hm⟩:=x.ns;obtain⟨p,h,r⟩:=x.adopt (Heap.SameBut.refl C J.heap);have oC:¬own C:=fun a=>by
  obtain⟨_,_,o,e⟩:=st.f.ownOff C a;rw[x.hC]at e;cases e
 have pC:By X (I.addLoc u.length g none) J.heap C:=⟨fun i=>by
  rcases i with⟨n,e⟩ |⟨n,e⟩
  .rcases BP e with⟨_,a⟩ |⟨_,e⟩
   .exact x.ne a
   .exact x.offC.off (.inl ⟨n,e⟩)
  .rcases BQ e with⟨_,e⟩ |⟨_,e⟩
   .exact Gi e
   .exact x.offC.off (.inr ⟨n,e⟩),x.offC.base,x.offC.there⟩
 refine AA (wpAny_standAt (C0 (st.step p h) Z r fun j l N E kk=>?_));have t:l.heap.Ns C m:=hm.at' fun o e=>N.keep C o e pC.off oC;refine⟨m,t,fun P a0=>?_⟩;have R:∀b o,b≠C->l.heap.get? b=some o->P.get? b=some o:=fun b o n e=>(a0.2 b n).trans e;have b0:Az X (I.addLoc u.length g none) (u++[M]) { l with heap:=P }:=E.h.priv ⟨pC.off,pC.base,by obtain⟨o,_,_,e,_⟩:=t;exact⟨o,e⟩⟩ (Ns.notTup t) R;have O:∀b o,s.heap.get? b=some o->b≠C:=fun b o e a=>by rw[a,x.hC]at e;cases e
 have p3:At G own s (I.addLoc u.length g none) { l with heap:=P }:=by
  have a:=(p.nil own).trans N;refine⟨a.le,a.same.trans (.of ⟨P,l.toks,rfl⟩),fun b o e n z=>R b o (O b o e) (a.keep b o e n z),a.fresh,fun b o e=>?_⟩;obtain⟨o',T⟩:=a.alive b o e;exact⟨o',R b o' (O b o e) T⟩
 refine k _ _ j _ _ p3 ⟨b0,?_⟩ kk;have nl:∀i c,env.cells.lookup i=some c->c≠C:=fun i c e a=>by
  obtain⟨_,_,o,T⟩:=st.f.cellOff i c e;rw[a,x.hC]at T;cases T
 exact E.f.keep (.refl _) (fun b o a e=>R b o (a.elim (fun hb z=>oC (z▸hb)) (by rintro⟨i,V⟩;exact nl i b V)) e) fun B B B z=>z
theorem X0{E:Value->Shared->Prop}(A:Around)(s:Shared)(h:Q (.ref s.heap.objs.size) { s with heap:=s.heap.push { cls:=.type "list",data:=.seq ([]:List Value).toArray } }):wpAny (model X.prog X.w) A (newList []) Q E s:=
 wpAny_newObj_type h
theorem XA{E:Value->Shared->Prop}(A:Around)(s:Shared)(h:Q (.ref s.heap.objs.size) { s with heap:=s.heap.push { cls:=.type "dict",data:=.dict #[] } }):wpAny (model X.prog X.w) A newDict Q E s:=by
 exact wpAny_newObj_type h
theorem KR{pos:Pos}(g:N6 X d y0)(f:∀y0∈D,N6 X d y0)(S:NW scope y0 D)(j:ES X d e)
  (i:Br X d (.ListComp e (y0::D) scope pos) sc ρ H z):DW X d sc (eval (.ListComp e (y0::D) scope pos)) ρ H z:=by
 obtain⟨t,iter,ifs,a⟩:=y0;have l:a=0:=g.sync;subst l
 (conv at i=>whnf)
 intro A G env own s m st Q k;exact LA (e:=.ListComp e (⟨t,iter,ifs,0⟩::D) scope pos) (acc0:=.list []) (emit:=MW X d e scope.names) (.list ..) rfl g f S rfl (fun A s Q h=>X0 A s h) (fun G h b c=>⟨[],LI.of c,.nil⟩) (fun b=>I1 j) i A G env own s m st Q k
theorem J7{c:Expr}{pos:Pos}(i:N6 X d y0)(g:∀y0∈D,N6 X d y0)(S:NW scope y0 D)(l:ES X d e)(m:ES X d c)
  (j:Br X d (.DictComp e c (y0::D) scope pos) sc ρ H z):DW X d sc (eval (.DictComp e c (y0::D) scope pos)) ρ H z:=by
 obtain⟨t,iter,ifs,a⟩:=y0;have n:a=0:=i.sync;subst n
 (conv at j=>whnf)
 intro A G env own s o st Q k;exact LA (e:=.DictComp e c (⟨t,iter,ifs,0⟩::D) scope pos) (acc0:=.dict []) (emit:=NU X d e c scope.names) (.dict ..) rfl i g S rfl (fun A s Q h=>XA A s h) (fun G h b f=>DV.new b f) (fun b=>Ik l m) j A G env own s o st Q k
end
def Gv(e:Expr):Bool:=e.ctorIdx != 7
theorem JA(h:Gv e=true)(env:Env)(x:Value):foldedSetIterable e env x=pure x:=by
 cases e<;>first |rfl |exact absurd h AN
def UZ(a:Scope)(gs:List Comprehension):Bool:=
 a.kind==.function&&a.names.all (fun y=>y.2 != .cell)&&a.names.all (fun y=>y.2 != .local||a.names.lookup y.1==some .local)&&a.names.all (fun y=>y.2 != .free||a.names.lookup y.1==some .free)
  &&(Dk gs).all (fun x=>a.names.lookup x==some .local)&&Ci gs
theorem Nc{a:Scope}(h:UZ a (y0::D)=true):NW a y0 D:=by
 unfold UZ at h;simp only[and_eq_true,all_eq_true,beq_iff_eq,bne_iff_ne,ne_eq,or_eq_true]at h;obtain⟨⟨⟨⟨⟨c,d⟩,f⟩,g⟩,i⟩,j⟩:=h;exact⟨c,d,fun y b e=>(f y b).resolve_left (fun q=>q e),fun y b e=>(g y b).resolve_left (fun q=>q e),i,j⟩
def Xm(e:Expr):Bool:=e.casesOn (fun a a a=>true) (fun a a a=>true) (fun a a a a=>true) (fun a a a=>true) (fun a a a a=>true) (fun a a a a=>true) (fun a a a=>true) (fun a a a=>true) (fun a a a a=>true) (fun a a a a=>true) (fun a a a a a=>true) (fun a a a a=>true) (fun a a=>true) (fun a a=>true) (fun a a=>true) (fun a a a a=>true) (fun a a a a=>true) (fun a a a a=>true) (fun a a=>true) (fun a a a=>true) (fun a a a=>true) (fun a a a=>true) (fun a a=>true) (fun a a=>true) (fun a a=>true) (fun a a a=>true) (fun a a s a=>s.isNone)
def KW(a:List (Option Expr))(b:List Expr):Bool:=a.length==2&&b.length==2&&a.all (·.isNone)
def ZM(a:List (Option Expr))(b:List Expr):Bool:=KW a b||(a.all (·.isSome)&&decide (a.length=b.length)&&decide (a.length<=8))
def Yz(ok:Expr->Bool)(g:Comprehension):Bool:=ok g.iter&&g.ifs.all ok&&g.is_async==0&&Gv g.iter
def Zs(ok:Expr->Bool)(f:Expr)(c:List Expr)(p:Pos):Bool:=f.casesOn (fun b b b=>false) (fun b b b=>false) (fun b b b b=>false) (fun b b b=>false) (fun b b b b=>false) (fun b b b b=>false) (fun b b b=>false) (fun b b b=>false) (fun b b b b=>false) (fun b b b b=>false) (fun b b b b b=>false) (fun b b b b=>false) (fun b b=>false) (fun b b=>false) (fun b b=>false) (fun b b b b=>false) (fun b b b b=>false) (fun b b b b=>false) (fun b b=>false) (fun b b b=>false) (fun o b a=>ok o&&Fo o&&decide (c.length<29)&&a.endLine==p.line) (fun b b b=>false) (fun b b=>false) (fun x b=>Cg x&&Fc x) (fun b b=>false) (fun b b b=>false) (fun b b b b=>false)
def Yt(ok:Expr->Bool)(e:Expr):Bool:=e.casesOn (fun d j d=>j.all ok) (fun d d d=>false) (fun l d r d=>ok l&&ok r) (fun d x d=>ok x) (fun d d d d=>false) (fun t b o d=>ok t&&ok b&&ok o) (fun k j d=>k.all (fun o=>o.all ok)&&j.all ok&&ZM k j) (fun d d d=>false) (fun e gs c d=>ok e&&gs.all (Yz ok)&&UZ c gs&& !gs.isEmpty) (fun d d d d=>false) (fun a b gs c d=>ok a&&ok b&&gs.all (Yz ok)&&UZ c gs&& !gs.isEmpty) (fun d d d d=>false) (fun d d=>false) (fun d d=>false) (fun d d=>false) (fun l os n d=>ok l&&n.all ok&& !lastMarks os n) (fun f m k p=>Zs ok f m p&&m.all ok&&CN m&&k.isEmpty) (fun d d d d=>false) (fun d d=>false) (fun d d d=>true) (fun o d d=>ok o&&Fo o) (fun v i d=>ok v&&ok i&&Xm i) (fun d d=>false) (fun x d=>Cg x) (fun g d=>g.all ok&&CN g&&decide (g.length<=100)) (fun g d d=>g.all ok&&CN g&&decide (g.length<=100)) (fun l h d d=>l.all ok&&h.all ok)
def Zu(n:Nat):Expr->Bool:=rec (fun a=>false) (fun a ok=>Yt ok) n
abbrev KM:Expr->Bool:=Yt (Zu 40)
section
variable {d:Nat}
theorem Ud(h:∀a b H c,¬Br X d e a b H c)(g:D8 e=true):ES X d e where
 val:=fun a b H c f=>(h a b H c f).elim
 test:=fun a b H c f=>Jo g (fun a b H c f=>(h a b H c f).elim) f
theorem Bq(f:∀a b H c,Br X d e a b H c->DW X d a (eval e) b H c)(g:D8 e=true):ES X d e where
 val:=f
 test:=fun a b H c h=>Jo g f h
def EP(X:Cx)(d:Nat)(e:Expr):Prop:=ES X d e/\∀lo b q,e=.Slice lo b none q->(∀a,lo=some a->ES X d a)/\(∀a,b=some a->ES X d a)
theorem ep(x:ES X d e)(h:Fk e=true):EP X d e:=⟨x,fun lo b q a=>by subst a;cases h⟩
theorem Ie{i:Expr}(l:ES X d e)(m:EP X d i)(h:Xm i=true):ES X d (.Subscript e i q):=by
 refine Bq (fun r s H t n=>?_) rfl;by_cases j:Fk i=true
 .exact PX l m.1 j (by cases i<;>first |exact n |cases j)
 .have j:i.ctorIdx=26:=Classical.not_not.mp fun z=>j (bne_iff_ne.mpr z);obtain⟨lo,g,st,f,rfl⟩:∃lo g st f,i=.Slice lo g st f:=Expr.Slice.elim (motive_1:=fun k=>∃lo g st f,k=.Slice lo g st f) i j fun a b c d=>⟨a,b,c,d,rfl⟩;cases st with
  |none=>
   obtain⟨o,p⟩:=m.2 lo g f rfl;exact NS l o p n
  |some _=>exact Bool.noConfusion h
theorem K5{vs:List Expr}(q:KW m5 vs=true):Dd fun a b=>EU (m5=[none,none]) (vs=[a,b]):=by
 obtain⟨q,q3⟩:=Aa q;obtain⟨q1,q2⟩:=Aa q;obtain⟨k1,ks1,rfl,p1⟩:=Cr (eq_of_beq q1);obtain⟨k2,ks2,rfl,p2⟩:=Cr p1;cases List.eq_nil_of_length_eq_zero p2;obtain⟨a,vs1,rfl,p3⟩:=Cr (eq_of_beq q2);obtain⟨b,vs2,rfl,p4⟩:=Cr p3;cases List.eq_nil_of_length_eq_zero p4;have h:=List.all_eq_true.mp q3;exact⟨a,b,by rw[Option.isNone_iff_eq_none.mp (h k1 (.head _)),Option.isNone_iff_eq_none.mp (h k2 (.tail _ (.head _)))],rfl⟩
theorem Kb{ok:Expr->Bool}(ih:∀e,ok e=true->EP X d e)(h:D.all (Yz ok)=true)(g:Comprehension)(hg:g∈D):N6 X d g:=
 have h:=List.all_eq_true.mp h g hg
 ⟨(ih _ (aL (aL (aL h)))).1,fun e he=>(ih e (List.all_eq_true.mp (aR (aL (aL h))) e he)).1,eq_of_beq (aR (aL h)),JA (aR h)⟩
theorem TS{f:List Expr}(all:X.All)(hd:ZM m5 f=true)(i:∀e,some e∈m5->ES X d e)(g:∀e∈f,ES X d e):ES X d (.Dict m5 f q):=by
 unfold ZM at hd;refine Ce (KW m5 f) (fun c=>?_) fun c=>?_
 .obtain⟨a,b,rfl,rfl⟩:=K5 c;exact Bq (fun j k H l h=>Ol all (g a (.head _)) (g b (.tail _ (.head _))) h) rfl
 .rw[c,Bool.false_or]at hd;exact Bq (fun j k H l h=>Rc i g (aL (aL hd)) (of_decide_eq_true (aR (aL hd))) (of_decide_eq_true (aR hd)) h) rfl
theorem T6{f:Expr->Bool}{b:List Expr}(all:X.All)(h:Zs f e b q=true)(g:CN b=true)(j:∀a,f a=true->EP X d a)(i:∀a∈b,ES X d a):ES X d (.Call e b [] q):=by
 cases e<;>first |exact absurd h AN |skip
 .exact Bq (fun k l H m c=>J9 all (j _ (aL (aL (aL h)))).1 (aR (aL (aL h))) (of_decide_eq_true (aR (aL h))) (aR h) i g c) rfl
 .exact Bq (fun k l H m c=>J5 all (aL h) (aR h) i g c) rfl
theorem Nz(all:X.All){C:Expr->Bool}(k:∀e,C e=true->EP X d e)(e:Expr)(h:Yt C e=true):EP X d e:=by
 have l:∀{D:List Expr},D.all C=true->∀e∈D,ES X d e:=fun h e y=>(k e (List.all_eq_true.mp h e y)).1;have o:∀{lo:Option Expr},lo.all C=true->∀e,lo=some e->ES X d e:=fun h e y=>by subst y;exact(k e h).1
 cases e with
 |Constant c n p=>exact ep (Bq (fun m r H s j=>Pr j) rfl) rfl
 |Name x p=>exact ep (Bq (fun m r H s j=>SO all h j) rfl) rfl
 |BinOp a E b p=>exact ep (Bq (fun m r H s j=>Oo (k a (aL h)).1 (k b (aR h)).1 j) rfl) rfl
 |UnaryOp E x p=>
  refine ep ⟨fun m r H s j=>MJ (k x h).1 j,fun m r H s j=>?_⟩ rfl;cases E with
  |Not=>exact RC (k x h).1 j
  |_=>exact Jo rfl (fun m r H s j=>MJ (k x h).1 j) j
 |BoolOp E K p=>exact ep ⟨fun m r H s j=>j.elim,fun m r H s j=>LM (l h) j⟩ rfl
 |IfExp t b c p=>exact ep ⟨fun m r H s j=>Pp (k t (aL (aL h))).1 (k b (aR (aL h))).1 (k c (aR h)).1 j,fun m r H s j=>j.elim⟩ rfl
 |Tuple D c p=>exact ep (Bq (fun m r H s j=>QE (l (aL (aL h))) (aR (aL h)) (of_decide_eq_true (aR h)) j) rfl) rfl
 |List D p=>exact ep (Bq (fun m r H s j=>Se (l (aL (aL h))) (aR (aL h)) (of_decide_eq_true (aR h)) j) rfl) rfl
 |Dict G K p=>exact ep (TS all (aR h) (fun e y=>o (List.all_eq_true.mp (aL (aL h)) _ y) e rfl) (l (aR (aL h)))) rfl
 |ListComp a z u p=>
  have A:=Kb k (aR (aL (aL h)));cases z with
  |nil=>exact absurd (aR h) AN
  |cons g z=>exact ep (Bq (fun m r H s j=>KR (A g (.head _)) (fun F w=>A F (.tail _ w)) (Nc (aR (aL h))) (k a (aL (aL (aL h)))).1 j) rfl) rfl
 |DictComp a b z u p=>
  have A:=Kb k (aR (aL (aL h)));cases z with
  |nil=>exact absurd (aR h) AN
  |cons g z=>exact ep (Bq (fun m r H s j=>J7 (A g (.head _)) (fun F w=>A F (.tail _ w)) (Nc (aR (aL h))) (k a (aL (aL (aL (aL h))))).1 (k b (aR (aL (aL (aL h))))).1 j) rfl) rfl
 |Compare a B I p=>
  have J:lastMarks B I=false:=by cases q:lastMarks B I with
   |true=>have h:=aR h;rw[q]at h;exact absurd h AN
   |false=>rfl
  exact ep ⟨fun m r H s j=>L3 all (k a (aL (aL h))).1 (l (aR (aL h))) J j,fun m r H s j=>Jf all (k a (aL (aL h))).1 (l (aR (aL h))) J j⟩ rfl
 |Call f N G p=>
  cases G with
  |nil=>exact ep (T6 all (aL (aL (aL h))) (aR (aL h)) k (l (aR (aL (aL h))))) rfl
  |cons _ _=>exact absurd (aR h) AN
 |Attribute a x p=>exact ep (Bq (fun m r H s j=>IQ all (k a (aL h)).1 (aR h) j) rfl) rfl
 |Subscript v i p=>exact ep (Ie (k v (aL (aL h))).1 (k i (aR (aL h))) (aR h)) rfl
 |Slice lo O st p=>exact⟨Ud (fun m r H s j=>j) rfl,fun L M q e=>by cases(e);exact⟨o (aL h),o (aR h)⟩⟩
 |_=>exact absurd h AN
theorem Jj(all:X.All):∀(n:Nat)(e:Expr),Zu n e=true->EP X d e:=by
 intro a;induction a with
 |zero=>
  intro _ h;exact absurd h AN
 |succ n b=>
  intro e h;exact Nz all (b) e h
theorem Hb(all:X.All)(e:Expr)(h:KM e=true):EP X d e:=Nz all (Jj all 40) e h
end
section
variable {d:Nat} {G:Gh} {H:Aj} {sc:List (Str×NameKind)} {ρ:BA} {env:Env} {own:Addr->Prop} {s:Shared} {A:Around}
theorem L7{a i:V}{o f:Value}(C:B4 d A)(j:Az X G H s)(q:NG a i v H K)(E:VR G a o)(F:VR G i x)(I:VR G v f)
  (J:∀r k,At G Cs s G k->Az X G r k->K r->g () k):wpAny (model X.prog X.w) A (setItem o x f) g (fun L L=>False) s:=by
 have Q:=C.2.2;cases a with
 |loc n=>
  obtain⟨R,e,m⟩:=CE (show Bk _ H n from q);obtain⟨l,rfl,M,N,p⟩:=Kh m;obtain⟨D,h,O,u⟩:=j.dict e;obtain rfl:=E.at h;refine RZ j u M F I (by omega) (Bh (AR N)) fun y t z P=>?_;have B:∀b o,b≠D->s.heap.get? b=some o->y.get? b=some o:=fun b o n e=>(P.2 b n).trans e;exact J _ _ (.upd (c:=D) (.inl ⟨_,h⟩) ⟨_,_,rfl⟩ B z.there') (j.upd (s':={ s with heap:=y,toks:=t }) (Du e) (.inl h) u.notTup B (Az.ofDV h O z)) p
 |_=>exact False.elim q
theorem MP(all:X.All)(h:KM e=true)(u:B4 d A)(st:St X G H sc ρ env own s)(z:Ug X d e v sc ρ H I)(r:VR G v x)
  (C:∀L M c j,At G own s L j->St X L M sc c env own j->I c M->g () j):wpAny (model X.prog X.w) A (assign e env x) g (fun Q Q=>False) s:=by
 cases e with
 |Name f p=>exact Gq (t:=.Name f p) (k:=fun c=>I c H) u.1 st z r fun c j F l kk=>C _ _ c j F l kk
 |Tuple R f p=>exact Gq (t:=.Tuple R f p) (k:=fun c=>I c H) u.1 st z r fun c j F l kk=>C _ _ c j F l kk
 |Attribute o f p=>
  rw[arm_assign_Attribute];refine AA (AC ((Jj all 40 o (aL h)).1.val _ _ _ _ z A G env own s u st _ fun N S a ov O y D J m=>?_));refine AA (wpAny_standAt (AA (AC (K3 all.ok all.cls D m J (r.le y.le) fun T s2 B E n=>wpAny_releaseD ?_))));exact C _ _ ρ s2 ((y.trans B).nil own) ((st.step y D).step B E) n
 |Subscript o i p=>
  rw[arm_assign_Subscript];refine AA (AC ((Jj all 40 o (aL (aL h))).1.val _ _ _ _ z A G env own s u st _ fun N S a ov O y D J m=>?_));refine AA (AC ((Jj all 40 i (aR (aL h))).1.val _ _ _ _ m A N env own O u (st.step y D) _ fun Y T b Z s2 B E U n=>?_));have q:=y.trans B;refine AA (wpAny_standAt (AA (AC (L7 u E n (J.le B.le) U (r.le q.le) fun H3 V P W K=>wpAny_releaseD ?_))));exact C _ _ ρ V ((q.trans P).nil own) ((st.step q E).step P W) K
 |_=>exact False.elim z
def DS(ρ:BA):List (Str×V)->BA
 |[]=>ρ
 |p::r=>DS (Ck ρ p.1 p.2) r
theorem OQ:∀ρ p r,DS ρ (p::r)=DS (Ck ρ p.1 p.2) r:=fun a a a=>rfl
theorem J8:∀{l m:List (Str×V)}{ρ:BA},DS ρ (l++m)=DS (DS ρ l) m:=by
 intro a;induction a with
 |nil=>
  intro _ _;exact rfl
 |cons b l c=>
  intro m ρ;exact c
theorem Oj{x:Str}{w:V}(h:x≠y):∀{ρ:BA},Ck (Ck ρ x v) y w=Ck (Ck ρ y w) x v:=by
 intro zl;induction zl with
 |nil=>
  exact rfl
 |cons p r ih=>
  by_cases hx:(p.1==x)=true
  .have hy:¬(p.1==y)=true:=fun q=>h ((eq_of_beq hx).symm.trans (eq_of_beq q));rw[HL hx,EE (p:=(p.1,some v)) hy,EE hy,HL hx]
  .by_cases hy:(p.1==y)=true
   .rw[EE hx,HL hy,HL hy,EE (p:=(p.1,some w)) hx]
   .rw[EE hx,EE hy,EE hy,EE hx,ih]
theorem Mp:∀{l:List (Str×V)}{ρ:BA},y∉l.map (·.1)->DS (Ck ρ y v) l=Ck (DS ρ l) y v:=by
 intro a;induction a with
 |nil=>
  intro _ _;exact rfl
 |cons p l b=>
  intro ρ h;rw[AW,mem_cons,not_or]at h;rw[OQ,OQ,Oj h.1];exact b h.2
theorem PZ:∀{l:List (Str×V)}{ρ:BA},(l.map (·.1)).Nodup->DS ρ l.reverse=DS ρ l:=by
 intro a;induction a with
 |nil=>
  intro _ _;exact rfl
 |cons p l b=>
  intro ρ h;rw[AW,nodup_cons]at h;rw[reverse_cons,J8,b h.2];show Ck (DS ρ l) p.1 p.2=DS (Ck ρ p.1 p.2) l;rw[Mp h.1]
def Q2(sc:List (Str×NameKind))(ρ:BA)(x:Str):Prop:=(sc.lookup x=some .local\/sc.lookup x=some .cell)/\(lk ρ x).isSome=true
theorem Kg{c:List Expr}(h:BW sc c l E F):EC fun(a:List Str)=>KT (a.length=l.length) ((∃b:List Pos,b.length=a.length/\c=(a.zip b).map fun p=>Expr.Name p.1 p.2)) ((∀x∈a,Q2 sc E x)) (F (DS E (a.zip l))):=
 BW.ind (P:=fun c l E F=>EC fun(a:List Str)=>KT (a.length=l.length) ((∃b:List Pos,b.length=a.length/\c=(a.zip b).map fun p=>Expr.Name p.1 p.2)) ((∀x∈a,Q2 sc E x)) (F (DS E (a.zip l)))) (fun e e h=>⟨[],rfl,⟨[],rfl,rfl⟩,(fun e h=>by cases h),h⟩) (fun x p c v l E F i f e j=>by
  obtain⟨a,k,⟨b,m,n⟩,g,o⟩:=j;refine⟨x::a,congrArg (· + 1) k,⟨p::b,congrArg (· + 1) m,by rw[n];rfl⟩,fun y hy=>?_,o⟩;rcases Ae hy with rfl |hy
  .exact⟨i,f⟩
  .exact⟨(g y hy).1,by rw[<- (g y hy).2];exact(Ef f).symm⟩) h
theorem Ox{ns:List Str}:∀{l:List V}{e:List Value}{ρ:BA}{Q:Unit->Shared->Prop}{s:Shared},ns.length=l.length->(∀x∈ns,Q2 sc ρ x)->St X G H sc ρ env own s->BJ G l e ->
  (∀f,At G own s G f->St X G H sc (DS ρ (ns.zip l)) env own f->Q () f)->wpAny (model X.prog X.w) A (assignInOrder (ns.map fun n=>bindName env n) e) Q (fun q q=>False) s:=by
 induction ns with
 |nil=>
  intro l e ρ Q s g _ st r h;cases List.length_eq_zero_iff.mp g.symm;obtain rfl:=r.nil_l;exact AB (h s (.refl ..) st)
 |cons n ns t=>
  intro l e ρ Q s g i st r h;cases l with
  |nil=>exact nomatch g
  |cons v l=>
   obtain⟨y,C,u,z⟩:=r.cons_l;have j:=i n (.head _);refine AA (AC (C0 (k:=fun a=>a=Ck ρ n v) st (Gm j.1 j.2 rfl) u fun a f B b kk=>?_));rw[kk]at b;exact t (Nat.succ.inj g) (fun x p=>⟨(i x (.tail _ p)).1,(Ef j.2).trans ((i x (.tail _ p)).2)⟩) b z fun m o c=>h m (B.trans o) c
theorem Tf{e f:Type}{l:List e}:∀{m:List f},l.length=m.length->l.reverse.zip m.reverse=(l.zip m).reverse:=by
 induction l with
 |nil=>exact fun i=>rfl
 |cons a l g=>
  intro m h;cases m with
  |nil=>exact nomatch h
  |cons b m=>
   have c:l.length=m.length:=Nat.succ.inj h;rw[reverse_cons,reverse_cons,zip_cons_cons,reverse_cons,<- g c,List.zip_append (by rw[List.length_reverse,List.length_reverse,c])];rfl
theorem FN{c e:Type}:∀{l:List c}{m:List e},l.length=m.length->(l.zip m).map (·.1)=l
 |[],_,_=>by rfl
 |_::_,[],h=>by cases h
 |a::l,b::m,h=>congrArg (a:: ·) (FN (Nat.succ.inj h))
theorem I3:∀(n:Nat)(l:List Str),l.length<=n->l.eraseDups.length<=l.length
 |_,[],_=>AM _
 |0,_::_,h=>absurd h (by simp)
 |n+1,a::l,h=>by
  rw[List.eraseDups_cons,AQ,AQ];have c:=Af (fun b=> !b==a) l;have e:=I3 n (l.filter fun b=> !b==a) (by simp at h;omega);omega
theorem G9:∀{l:List Str},l.eraseDups.length=l.length->l.Nodup:=by
 intro e;induction e with
 |nil=>
  intro _;exact nodup_nil
 |cons a l f=>
  intro h;rw[List.eraseDups_cons,AQ,AQ]at h;have c:(l.filter fun b=> !b==a)=l:=List.filter_eq_self.mpr (List.length_filter_eq_length_iff.mp (le_antisymm (Af (fun b=> !b==a) l) (AF (le_of_lt_succ (AT (Eq.symm h))) (I3 _ (l.filter fun b=> !b==a) (AM _)))));rw[c]at h;refine List.nodup_cons.mpr ⟨fun q=>?_,f (Nat.eq_of_le_of_lt_succ (le_of_lt_succ (AT (Eq.symm h))) (AT h))⟩;have:=List.filter_eq_self.mp c a q;simp at this
end
def Wr(t e:Expr):Bool:=nS t&&t.ctorIdx != 24&&(t.ctorIdx != 25||e.casesOn (fun a a a=>true) (fun a a a=>true) (fun a a a a=>true) (fun a a a=>true) (fun a a a a=>true) (fun a a a a=>true) (fun a a a=>true) (fun a a a=>true) (fun a a a a=>true) (fun a a a a=>true) (fun a a a a a=>true) (fun a a a a=>true) (fun a a=>true) (fun a a=>true) (fun a a=>true) (fun a a a a=>true) (fun a a a a=>true) (fun a a a a=>true) (fun a a=>true) (fun a a a=>true) (fun a a a=>true) (fun a a a=>true) (fun a a=>true) (fun a a=>true) (fun a a=>true) (fun b a a=> !(b.all (constantsAlone 8))||b.all (foldedForSure 8)) (fun a a a a=>true))
theorem I0{g:Expr->Option Str}{c:Str->Pos->Bool}(e:∀n p,g (.Name n p)=if c n p=true then some n else none):∀{a:List Str}{b:List Pos},b.length=a.length->(((a.zip b).map fun p=>Expr.Name p.1 p.2).filterMap g).length=((a.zip b).map fun p=>Expr.Name p.1 p.2).length ->
  (((a.zip b).map fun p=>Expr.Name p.1 p.2).filterMap g)=a
 |[],_,_,_=>by simp
 |n::a,[],h,_=>by cases h
 |n::a,p::b,h,d=>by
  have f:∀l:List Expr,(l.filterMap g).length<=l.length:=fun l=>List.length_filterMap_le _ _;rw[zip_cons_cons,AW,filterMap_cons,e]at d ⊢;by_cases q:c n p=true
  .simp only[q,if_true,AQ]at d ⊢;rw[I0 e (Nat.succ.inj h) (Nat.succ.inj d)]
  .simp only[q,if_false,AQ]at d;have:=f ((a.zip b).map fun p=>Expr.Name p.1 p.2);exfalso;simp only[false_eq_true,if_false]at d;omega
section
variable {env:Env}
theorem Ih{t:Expr}(h:Wr t e=true)(a:(t.ctorIdx==25&&e.ctorIdx==25)=false):swappedStores [t] e env=pure none:=by
 cases t<;>first |rfl |exact absurd (aR (aL h)) AN |(cases e<;>first |rfl |exact absurd a.symm AN)
theorem ifs{α:Type _}{N U S:α}{b2 b3 b4 b5:Bool}(h:(!b5||b4)=true):(if s=true then N else if b2=true then N else if b3=true then N else if b4=true then N else if b5=true then U else S)=N\/b3=false/\(if s=true then N else if b2=true then N else if b3=true then N else if b4=true then N else if b5=true then U else S)=S:=by
 cases s with
 |true=>exact .inl rfl
 |false=>cases b2 with
  |true=>exact .inl rfl
  |false=>cases b3 with
   |true=>exact .inl rfl
   |false=>cases b4 with
    |true=>exact .inl rfl
    |false=>cases b5 with
     |true=>exact absurd h AN
     |false=>exact .inr ⟨rfl,rfl⟩
theorem Lq{c:List Expr}{e:Pos}(h:Wr (.Tuple d n q) (.Tuple c k e)=true) :
  swappedStores [.Tuple d n q] (.Tuple c k e) env=pure none\/Dd fun(g:Expr->Option Str) (a:Str->Pos->Bool)=>KT (∀b q,g (.Name b q)=if a b q=true then some b else none) (swappedStores [.Tuple d n q] (.Tuple c k e) env=pure (some (d.filterMap g))) ((d.filterMap g).length=d.length) ((d.filterMap g).eraseDups.length=(d.filterMap g).length):=by
 have f:(!(c.all (constantsAlone 8))||c.all (foldedForSure 8))=true:=aR h;refine(ifs f).imp id fun a=>⟨_,fun id pos=>(env.kindOf id==some NameKind.local&&pos.line==(Option.map (fun x=>x.pos.line) d.head?).getD 0),fun i i=>rfl,a.2,?_,?_⟩
 .exact bne_eq_false_iff_eq.mp (Bool.or_eq_false_iff.mp a.1).1
 .exact bne_eq_false_iff_eq.mp (Bool.or_eq_false_iff.mp a.1).2
end
def T9(X:Cx)(d:Nat)(f:List (Str×NameKind))(t:Env->Sem Flow)(g:BA)(H:Aj)(kn:BA->Aj->Prop)(h:V->Aj->Prop):Prop:=
 ∀(A:Around)(G:Gh)(env:Env)(own:Addr->Prop)(s:Shared),B4 d A->St X G H f g env own s->∀Q:Flow->Shared->Prop,
  (∀b c e a,At G own s b a->St X b c f e env own a->kn e c->Q .next a) ->
  (∀b c v val a,At G own s b a->Az X b c a->VR b v val->h v c->Q (.ret val) a) ->
  wpAny (model X.prog X.w) A (t env) Q (fun i i=>False) s
section
variable {d:Nat} {G:Gh} {H:Aj} {sc:List (Str×NameKind)} {ρ:BA} {env:Env} {own:Addr->Prop} {s:Shared} {A:Around}
def GE(e:Expr):Bool:= !(e.ctorIdx==8||e.ctorIdx==9||e.ctorIdx==10)
theorem Lx(h:GE e=true):swapsWith e j8 n env=pure false:=by
 cases e<;>first |rfl |exact absurd h AN
theorem KV(h:nS e=true):(assignEach [e] env).map (·.2)=[assign e env]:=by
 cases e<;>first |rfl |exact absurd h AN
theorem EH{t:Expr}{Q:Flow->Shared->Prop}(all:X.All)(ht:KM t=true)(he:KM e=true)(ha:Wr t e=true)(rm:B4 d A)(st:St X G H sc ρ env own s)
  (φ:Br X d e sc ρ H fun v H₁=>Ug X d t v sc ρ H₁ I) (k1:∀G' H' ρ' s',At G own s G' s'->St X G' H' sc ρ' env own s'->I ρ' H'->Q .next s') :
  wpAny (model X.prog X.w) A (eval e env >>= fun v=>swappedStores [t] e env >>= fun sw=>assignStores env v sw ((assignEach [t] env).map (·.2))) Q (fun zz zz=>False) s:=by
 refine AA ((Hb all e he).1.val _ _ _ _ φ A G env own s rm st _ fun G1 H1 v val s1 p1 h1 r1 φ1=>?_);have st1:=st.step p1 h1;have none_:wpAny (model X.prog X.w) A ((pure none:Sem (Option (List Str))) >>= fun sw=>assignStores env val sw ((assignEach [t] env).map (·.2))) Q (fun zz zz=>False) s1:=by
  refine AA (AB ?_);rw[(KV (env:=env) (aL (aL ha)))];exact AA (MP all ht rm st1 φ1 r1 fun G2 H2 ρ2 s2 p2 st2 kk=>AB (k1 G2 H2 ρ2 s2 ((p1.nil own).trans p2) st2 kk))
 cases hq:(t.ctorIdx==25&&e.ctorIdx==25)with
 |true=>
  obtain⟨ts,c,p,rfl⟩:=Go (eq_of_beq (aL hq));obtain⟨vs,c',p',rfl⟩:=Go (eq_of_beq (aR hq));rcases Lq (env:=env) ha with q |⟨f,c,hg,q,q1,q2⟩
  .rw[q];exact none_
  .rw[q];refine AA (AB ?_);obtain⟨l,rfl,φ1⟩:=RU (show TN v _ from φ1);obtain⟨ns,e1,⟨ps,e2,e3⟩,e4,e5⟩:=Kg φ1;have hns:ts.filterMap f=ns:=by
    rw[e3];exact I0 hg e2 (by rw[e3]at q1;exact q1)
   rw[hns]at q1 q2⊢
   .obtain⟨a,us,er,rr⟩:=r1.tup_l;refine AA (wpAny_rule ?_);have hlen:ns.length=us.toArray.size:=by rw[e1,rr.length];simp
    rw[hlen];refine AA (wpAny_unpackItems_tuple rm.1 (h1.tup _ _ er) fun h' hx=>?_);have hk:∀b o,s1.heap.get? b=some o->h'.get? b=some o:=fun b o e=>hx b o (Nat.ne_of_lt (lt_size e)) e;have p2:At G1 Cs s1 G1 { s1 with heap:=h' }:=.ofKeeps ⟨_,s1.toks,rfl⟩ hk _;refine AA (Ox (s:={ s1 with heap:=h' }) (l:=l.reverse) (ns:=ns.reverse) (by simp[e1]) (fun x hx=>e4 x (List.mem_reverse.mp hx)) (st1.step p2 (h1.keeps hk)) (rr.reverse) fun s3 p3 st3=>AB ?_);rw[Tf e1,PZ (by rw[FN e1];exact(G9 q2))]at st3;exact k1 G1 H1 _ s3 ((p1.nil own).trans ((p2.nil own).trans p3)) st3 e5
 |false=>
  rw[Ih ha hq];exact none_
theorem Lc{Q:Flow->Shared->Prop}(all:X.All)(f:KM e=true)(O:GE e=false)
  (L:B4 d A) (st:St X G H sc ρ env own s) (x:Br X d e sc ρ H fun v z=>Ug X d (.Name y q) v sc ρ z I) (M:∀r u c j,At G own s r j->St X r u sc c env own j->I c u->Q .next j) :
  wpAny (model X.prog X.w) A (evalThenUse e env (fun v=>assignAll v ((assignEach [.Name y q] env).map (·.2))) >>= fun N=>pure Flow.next) Q (fun N N=>False) s:=by
 rw[(rfl:(fun v=>assignAll v ((assignEach [.Name y q] env).map (·.2)))=assign (.Name y q) env)];cases e with
 |ListComp k i b p=>
  have P:=(Jj (d:=d) all 40 k (aL (aL (aL f)))).1;have B:=Kb (Jj (d:=d) all 40) (aR (aL (aL f)));cases i with
  |nil=>exact absurd (aR f) AN
  |cons g i=>
   have C:=B g (.head _);have l:∀m∈i,N6 X d m:=fun m n=>B m (.tail _ n);have S:=Nc (aR (aL f));obtain⟨t,iter,ifs,a⟩:=g;have E:a=0:=C.sync;subst E
   (conv at x=>whnf)
   rw[arm_evalThenUse_ListComp];refine AA (AA ?_);refine LK (e:=.ListComp k (⟨t,iter,ifs,0⟩::i) b p) (acc0:=.list []) (emit:=MW X d k b.names) (kn:=I) (.list ..) rfl C l S rfl (fun A s Q h=>X0 A s h) (fun G h D e=>⟨[],LI.of e,.nil⟩) (fun D=>I1 P) x L st ?_;intro r u c j v F o kk;exact AB (AB (M r u c j F o kk))
 |DictComp J K i b p=>
  have B:=Kb (Jj (d:=d) all 40) (aR (aL (aL f)));cases i with
  |nil=>exact absurd (aR f) AN
  |cons g i=>
   have C:=B g (.head _);have l:∀m∈i,N6 X d m:=fun m n=>B m (.tail _ n);have S:=Nc (aR (aL f));obtain⟨t,iter,ifs,a⟩:=g;have E:a=0:=C.sync;subst E
   (conv at x=>whnf)
   rw[arm_evalThenUse_DictComp];refine AA (AA ?_);refine LK (e:=.DictComp J K (⟨t,iter,ifs,0⟩::i) b p) (acc0:=.dict []) (emit:=NU X d J K b.names) (kn:=I) (.dict ..) rfl C l S rfl (fun A s Q h=>XA A s h) (fun G h D e=>DV.new D e) (fun D=>Ik ((Jj (d:=d) all 40 J (aL (aL (aL (aL f))))).1) ((Jj (d:=d) all 40 K (aR (aL (aL (aL f))))).1)) x L st ?_;intro r u c j v F o kk;exact AB (AB (M r u c j F o kk))
 |_=>first |exact False.elim x |exact absurd O.symm AN
theorem YU{x:Str}{p:Pos}:∃b,swapsWith e (some (.Name x p)) n env=pure b:=by
 cases e<;>exact⟨_,rfl⟩
theorem Y3{o:Option Scope}:(match o with |some _=>(pure false:Sem Bool) |_=>pure false)=pure false:=by
 cases o<;>rfl
theorem Ym{t:Expr}(a:(t.ctorIdx != 23)=true):swapsWith e (some t) n env=pure false:=by
 cases t<;>first |exact Y3 |exact absurd a AN
theorem Kv{t:Expr}{pos:Pos}(all:X.All)(h:KM t=true)(c:KM e=true)(i:Wr t e=true)(a:Lj X d (.Assign [t] e pos) sc ρ H I z) :
  T9 X d sc (exec (.Assign [t] e pos)) ρ H I z:=by
 intro A G env own s f st Q g o
 (conv at a=>whnf)
 rw[arm_exec_Assign];refine AA (wpAny_standAt ?_);show wpAny _ _ (swapsWith e (some t) pos.line env >>= _) _ _ _;by_cases l:GE e=true
 .rw[Lx l];exact AA (AB (EH all h c i f st a g))
 .have j:GE e=false:=by simpa using l
  refine Ce (t.ctorIdx != 23) (fun k=>?_) fun k=>?_
  .rw[Ym k];refine AA (AB ?_);exact EH all h c i f st a g
  .obtain⟨x,p,rfl⟩:=Ff (bne_eq_false_iff_eq.mp k);obtain⟨b,m⟩:=YU (env:=env) (e:=e) (x:=x) (p:=p) (n:=pos.line);rw[m];refine AA (AB ?_);cases b with
   |false=>exact EH all h c i f st a g
   |true=>exact Lc all c j f st a g
end
section
variable {d:Nat} {G:Gh} {H:Aj} {sc:List (Str×NameKind)} {ρ:BA} {env:Env} {own:Addr->Prop} {s:Shared} {A:Around}
theorem Ja:gv (ofString "enumerate")=some (.bi .enumerate):=by rfl
theorem Px{pos:Pos}(all:X.All)(S:y=ofString "enumerate")(T:sc.lookup y=some .globalImplicit)(D:Cg y=true)(U:ES X d e)(E:CN [e]=true)
  (V:B4 d A) (st:St X G H sc ρ env own s) (W:Br X d e sc ρ H z)
  (Y:∀n m l u,At G Cs s n u->Az X n m u->z (.tup l) m->∀I b t C i,Az X n m i->At n Cs u n i->u.heap.get? I=none->u.heap.get? b=none->Do X n i.heap I 0 (.enum b t C l)->Q (.ref I) i)
  (F:∀a m,z a m->∃l,a=.tup l) :
  wpAny (model X.prog X.w) A (eval (.Call (.Name y q) [e] [] pos) env) Q (fun Z Z=>False) s:=by
 rw[arm_eval_Call_Name'];simp only[Cg,and_eq_true,bne_iff_ne,ne_eq]at D;have j:((backTo pos (starEach [e] env)).any (·.1)||(backToKw pos (keywordEach [] env)).any (·.1.isNone))=false:=by
  rw[(DL (pos:=pos) (env:=env) E).1];rfl
 refine AA ?_;refine Name_function_global st.f.kind (st.f.kg y T) ?_ (beq_eq_false_iff_ne.mpr D.1.1);have hg:s.heap.Ns env.globals X.mg:=by rw[st.f.glob];exact all.ok.g.at' fun o e=>st.h.base _ _ e
 have hv:gv y=some (.bi .enumerate):=by rw[S];exact Ja
 have N:=all.g y _ hv;refine loadGlobal_builtin hg N.1 (show s.heap.Ns env.builtins X.mb by rw[st.f.bi];exact all.ok.b.at' fun o e=>st.h.base _ _ e) ((all.ok.builtins y D.2).trans N.2) ?_;refine callWith_of (P:=X.K.In) j (fun h Xh=>⟨.machine,.inr (.inl rfl),Looks.now⟩) ?_;refine Cy (DL (pos:=pos) (env:=env) E).1 ?_;have J:Gb X d [e] sc ρ H (fun C m=>∃v,C=[v]/\z v m):=by
  show Br X d e sc ρ H (fun v c=>∃p,[v]=[p]/\z p c);have:(fun v c=>∃p,[v]=[p]/\z p c)=z:=by
   funext v c;exact propext ⟨fun⟨p,B,L⟩=>by rw[(List.cons.inj B).1];exact L,fun h=>⟨v,rfl,h⟩⟩
  rw[this];exact W
 refine Ej (fun O M=>(Ae M).elim (fun e=>e▸U) fun M=>(by cases M)) E J A G env own s V st _ fun G1 H1 C R s1 p1 B r1 k=>?_;obtain⟨_,v,rfl,k⟩:=k;obtain⟨x,rfl,r⟩:=LJ r1;obtain⟨l,rfl⟩:=F _ _ k;refine⟨B.kin all.ok,?_⟩;obtain⟨_,_,O,r2⟩:=r.tup_l;exact Oq B O r2 fun I b s2 L p2 f1 f2 it=>Y G1 H1 l s1 p1 B k I b _ _ s2 L p2 f1 f2 it
theorem QK{it:Expr}(all:X.All)(hi:KM it=true)(ne:∀p,HM it=some p->KM p.2=true/\CN [p.2]=true/\Cg p.1=true)(rm:B4 d A)(st:St X G H sc ρ env own s)(φ:Nf X d e it sc ρ H r)
  (hQ:∀I K G' H' s',Az X G' H' s'->At G Cs s G' s'->s.heap.get? I=none->(∀b,K.own I b->s.heap.get? b=none)->Do X G' s'.heap I 0 K->K.guard H'->K.fits e->r K.items K.guard H'->Q (.ref I) s') :
  wpAny (model X.prog X.w) A (eval it env) (fun x s₁=>wpAny (model X.prog X.w) A (pyIter x) Q (fun zz zz=>False) s₁) (fun zz zz=>False) s:=by
 have back:∀{G₁:Gh}{s₁:Shared}{b:Addr},At G Cs s G₁ s₁->s₁.heap.get? b=none->s.heap.get? b=none:=fun{G₁ s₁ b} p zqeq=>by
  refine CK (s.heap.get? b) (fun q=>?_) fun o q=>?_
  .rfl
  .obtain⟨o',e'⟩:=p.alive b o q;rw[zqeq]at e';cases e'
 have plain:Br X d it sc ρ H (fun a H₁=>Cd a H₁ r)->wpAny (model X.prog X.w) A (eval it env) (fun x s₁=>wpAny (model X.prog X.w) A (pyIter x) Q (fun zz zz=>False) s₁) (fun zz zz=>False) s:=fun φ=>by
  refine(Hb all it hi).1.val _ _ _ _ φ A G env own s rm st _ fun G1 H1 a x s1 p1 h1 r1 φ1=>?_;refine Hh h1 φ1 r1 fun I K s2 h2 p2 f1 f2 it2 g2 ft2 φ2=>?_;exact hQ I K G1 H1 s2 h2 (p1.trans p2) (back p1 f1) (fun b hb=>back p1 (f2 b hb)) it2 g2 (ft2 e) φ2
 unfold Nf at φ;refine CK (HM it) (fun q=>?_) fun p q=>?_
 .rw[q]at φ;exact plain φ
 .rw[q]at φ;obtain⟨n1,n2,n3⟩:=ne p q;obtain⟨hf,y,zqrq,rfl⟩:=T5 q;obtain⟨hb,φ⟩:=Oc φ;refine Px all hf (Qu (aR hb)) n3 (Hb all _ n1).1 n2 rm st φ (fun G1 H1 l s1 p1 h1 φ1 I b tt vs s2 h2 p2 f1 f2 it2=>?_) (fun a H' h=>?_)
  .obtain⟨old,he⟩:=it2.2.2.2.1;refine wpAny_pyIter_enum he ?_;refine hQ I (.enum b tt vs l) G1 H1 s2 h2 (p1.trans p2) (back p1 f1) (fun b' hb=>?_) it2 trivial (Go (eq_of_beq (aL hb))) φ1.2;rcases hb with rfl |⟨_,_,_,_,z,rfl⟩
   .exact back p1 f1
   .cases z;exact back p1 f2
  .cases a<;>first |exact⟨_,rfl⟩ |exact h.elim
theorem St.far{a:Gh}{g:Shared}{s₀:Shared}{G₀:Gh}(x:St X G H sc ρ env own s)(k:Az X a H g)(le:G.Le a)(l:∀b,a.isLoc b->G.isLoc b)
  (m:∀b o,¬P b->s.heap.get? b=some o->g.heap.get? b=some o) (i:∀b,P b->s₀.heap.get? b=none) (n:∀b,own b->∃o,s₀.heap.get? b=some o) (h:∀x c,env.cells.lookup x=some c->∃o,s₀.heap.get? c=some o) :
  St X a H sc ρ env own g:=by
 have p:∀b,own b->¬P b:=fun b r q=>by obtain⟨o,e⟩:=n b r;rw[i b q]at e;cases e
 have t:∀x c,env.cells.lookup x=some c->¬P c:=fun x c e q=>by obtain⟨o,j⟩:=h x c e;rw[i c q]at j;cases j
 exact⟨k,x.f.keep le (fun b o q e=>m b o (q.elim (p b) (by rintro⟨y,h⟩;exact t y b h)) e) fun b u u z=>l b z⟩
theorem Rq{K:MM}{G₀:Gh}{s₀:Shared}(rm:B4 d A)
  (hb:∀ρ H I z,FF X d j2 sc ρ H I z->T9 X d sc (execs j2) ρ H I z) (ft:K.fits e) (Z:∀a,K.own b a->s₀.heap.get? a=none)
  (ho:∀a,own a->∃o,s₀.heap.get? a=some o) (hc:∀x c,env.cells.lookup x=some c->∃o,s₀.heap.get? c=some o)
  (hn:∀F O u B,At G₀ own s₀ F B->St X F O sc u env own B->I u O->u0 (.ok .next) B)
  (hr:∀F O v D B,At G₀ own s₀ F B->Az X F O B->VR F v D->z v O->u0 (.ok (.ret D)) B) :
  ∀(l:List V)(i:Nat)(ρ:BA)(G:Gh)(H:Aj)(s:Shared),K.items.drop i=l->i<=K.items.length->At G₀ own s₀ G s->St X G H sc ρ env own s->Do X G s.heap b i K->K.guard H ->
   GJ (fun x u L k=>GH sc e x u fun M=>FF X d j2 sc M L k z) K.guard l ρ H I->codeAny (model X.prog X.w) A (.forLoop e (.ref b) j2 [] env) u0 s:=by
 have far:∀{G F:Gh}{H:Aj}{ρ:BA}{s B:Shared},At G₀ own s₀ G s->St X G H sc ρ env own s->Az X F H B->FV s B->G.Le F->(∀a,F.isLoc a->G.isLoc a) ->
   (∀a o,¬K.own b a->s.heap.get? a=some o->B.heap.get? a=some o)->At G₀ own s₀ F B/\St X F H sc ρ env own B:=fun{G F H ρ s B} p st h' S le Y N=>by
  refine⟨⟨p.le.trans le,p.same.trans S,fun a o t n m=>N a o (fun q=>by rw[Z a q]at t;cases t) (p.keep a o t n m),fun a y=>p.fresh a (Y a y),fun a o t=>?_⟩,st.far (P:=K.own b) (s₀:=s₀) (G₀:=G₀) h' le Y N Z ho hc⟩;obtain⟨o',e'⟩:=p.alive a o t;exact⟨o',N a o' (fun q=>by rw[Z a q]at t;cases t) e'⟩
 have R:∀a,own a->a≠b/\∀bb e vs l,K=.enum bb e vs l->a≠bb:=fun a hb=>by
  obtain⟨o,t⟩:=ho a hb;refine⟨fun q=>?_,fun bb e vs l q q'=>?_⟩
  .rw[Z a (.inl q)]at t;cases t
  .rw[Z a (.inr ⟨bb,e,vs,l,q,q'⟩)]at t;cases t
 intro l;induction l with
 |nil=>
  intro i ρ G H s hl hi p st it g φ;refine codeAny_of_tree ?_;refine wpAny_noted ?_;simp only[forTurn];have b0:i=K.items.length:=by
   have:=congrArg List.length hl;rw[length_drop,length_nil]at this;omega
  rw[b0]at it;refine AA (wpAny_standAt (AA (wpAny_onRaise ?_)));refine SF rm.1 st.h it g fun B h' S N=>AB ?_;obtain⟨p',c0⟩:=far p st h' S (.refl G) (fun C y=>y) N;refine⟨rfl,codeAny_block ?_⟩;rw[arm_execs_nil];exact AB (hn G H ρ B p' c0 φ)
 |cons x r ih=>
  intro i ρ G H s hl hi p st it g φ;have hx:K.items[i]? =some x:=by
   have:(K.items.drop i)[0]? =some x:=by rw[hl];rfl
   rwa[getElem?_drop,Nat.add_zero]at this
  have d0:K.items.drop (i+1)=r:=by
   have:=congrArg List.tail hl;rwa[tail_drop,tail_cons]at this
  refine codeAny_of_tree ?_;show wpAny _ A ((forTurn e (.ref b) j2 [] env).onRaise (fun x=>do noteFrame x env;theTreesLotGoes x)) _ _ s
  refine wpAny_noted ?_;simp only[forTurn];refine AA (wpAny_standAt (AA (wpAny_onRaise ?_)));refine wpAny_mono (Nq (E:=fun C C=>False) (Q:=fun r s1=>∃y,r=some y/\wpAny (model X.prog X.w) A (letOwnedTupleGo e (.ref b) y) (fun C s2=>EC fun J=>UV (Az X J H s2) (FV s s2) (G.Le J) ((∀a,J.isLoc a->G.isLoc a)) ((∀a o,¬K.own b a->s.heap.get? a=some o->s2.heap.get? a=some o)) (Do X J s2.heap b (i+1) K) (VR J x y)) (fun C C=>False) s1) (target:=e) rm.1 st.h it g hx ft fun y s1 hy=>⟨y,rfl,hy _ fun J s2 h2 S le Y N al T r2=>⟨J,h2,S,le,Y,N,T,r2⟩⟩) (fun r' s1 j=>?_) fun C C j=>j.elim;obtain⟨y,rfl,hy⟩:=j;refine AA (wpAny_mono hy (fun C s2 j=>?_) fun C C j=>j.elim);obtain⟨J,h2,S,le,Y,N,T,r2⟩:=j;obtain⟨p2,f0⟩:=far p st h2 S le Y N;refine AA (wpAny_mono (Gq (Q:=fun C s3=>EC fun u=>DD (At J own s2 J s3) (St X J H sc u env own s3) (FF X d j2 sc u H (fun u O=>K.guard O/\GJ (fun x u L k=>GH sc e x u fun M=>FF X d j2 sc M L k z) K.guard r u O I) z)) rm.1 f0 φ r2 fun u s3 p3 U k3=>⟨u,p3,U,k3⟩) (fun C s3 j=>?_) fun C C j=>j.elim);obtain⟨u,p3,U,g0⟩:=j;have a0:=p2.trans p3;refine AA (wpAny_mono (hb _ _ _ _ g0 A J env own s3 rm U (fun f W=>match f with
   |.next=>codeAny (model X.prog X.w) A (.forLoop e (.ref b) j2 [] env) u0 W
   |.ret D=>u0 (.ok (.ret D)) W
   |_=>False) (fun G4 H4 h0 W p4 i0 k4=>?_) (fun G4 H4 v D W p4 h4 r4 k4=>?_)) (fun f W j=>?_) fun C C j=>j.elim)
  .exact ih (i+1) h0 G4 H4 W d0 ((AE hx).1) (a0.trans p4) i0 ((T.post p3 R).post p4 R) k4.1 k4.2
  .exact hr G4 H4 v D W (a0.trans p4) h4 r4 k4
  .cases f with
   |next=>exact AB ⟨rfl,j⟩
   |ret D=>exact AB j
   |brk=>exact j.elim
   |cont=>exact j.elim
end
def VQ(it:Expr):Bool:=match HM it with
 |some p=>KM p.2&&CN [p.2]&&Cg p.1
 |none=>true
def Xr(ok:Stmt->Bool)(s:Stmt):Bool:=s.casesOn (fun a a a a a a a a a a=>true) (fun a a a a a a a a a a=>true) (fun a a a a a a a a a a a=>true) (fun e a=>e.all KM) (fun a a=>true) (fun c e a=>c.all fun t=>KM t&&KM e&&Wr t e) (fun a a a a a a a=>true) (fun a a a a=>true) (fun a a a a a=>true) (fun a it b a a=>KM it&&Gv it&&VQ it&&b.all ok) (fun a a a a a=>true) (fun a a a a=>true) (fun t b o a=>KM t&&b.all ok&&o.all ok) (fun a a a=>true) (fun a a a=>true) (fun a a a=>true) (fun a a a=>true) (fun a a a a a=>true) (fun a a a a a=>true) (fun a a a=>true) (fun a a=>true) (fun a a a a=>true) (fun a a=>true) (fun a a=>true) (fun e a=>KM e&&GE e) (fun a=>true) (fun a=>true) (fun a=>true)
def Zq(n:Nat):Stmt->Bool:=rec (fun a=>false) (fun a ok=>Xr ok) n
def UH(b:List Stmt):Bool:=b.all (Zq 40)
def SS(X:Cx)(d:Nat)(s:Stmt):Prop:=∀a b H kn c,Lj X d s a b H kn c->T9 X d a (exec s) b H kn c
def Xj(X:Cx)(d:Nat)(b:List Stmt):Prop:=∀a c H kn e,FF X d b a c H kn e->T9 X d a (execs b) c H kn e
section
variable {d:Nat} {G:Gh} {H:Aj} {sc:List (Str×NameKind)} {ρ:BA} {env:Env} {own:Addr->Prop} {s:Shared} {A:Around}
theorem On(f:ES X d e):SS X d (.Return (some e) q):=by
 intro sc ρ H o p c A G env own s g st Q r h
 (conv at c=>whnf)
 exact wpAny_Return_some (f.val _ _ _ _ c A G env own s g st _ fun i j v a k l m n b=>h i j v a k (l.nil own) m n b)
theorem PD:dropValue e q .none=pure .next:=by
 by_cases a:e.ctorIdx=23
 .obtain⟨x,b,rfl⟩:=Ff a;rfl
 .delta dropValue dropValue.match_1;exact PySem.letTemporaryGo._sparseCasesOn_1.else_eq (motive_1:=fun c=>Sem Flow) _ _ _ (X2 a)
theorem Q7{t:Tok}:dropValue e q (.int i t)=pure .next:=by
 by_cases a:e.ctorIdx=23
 .obtain⟨x,b,rfl⟩:=Ff a;rfl
 .delta dropValue dropValue.match_1;exact PySem.letTemporaryGo._sparseCasesOn_1.else_eq (motive_1:=fun c=>Sem Flow) _ _ _ (X2 a)
theorem VO{G:Gh}(h:ZO v=true)(r:VR G v x):dropValue e q x=pure .next:=by
 cases v with
 |none=>rw[r.none_l];exact PD
 |int i=>obtain⟨t,e⟩:=r.int_l;rw[e];exact Q7
 |_=>exact absurd h AN
theorem Ut(h:ES X d e)(i:GE e=true):SS X d (.Expr e q):=by
 intro sc ρ H j x c A G env own s k st Q l y;have c:Br X d e sc ρ H fun v b=>FL (ZO v) (j ρ b):=c;rw[arm_exec_Expr];refine AA (wpAny_standAt ?_);have m:interactive env=false:=by
  unfold interactive;rw[st.f.kind];rfl
 rw[m];rw[Lx i];refine AA (AB ?_);refine AA (h.val _ _ _ _ c A G env own s k st _ fun n o v p r g t u a=>?_);obtain⟨w,a⟩:=Oc a;rw[VO w u];exact AB (l n o ρ r (g.nil own) (st.step g t) a)
theorem Xg{o:List Stmt}(x:ES X d e)(y:Xj X d j2)(z:Xj X d o):SS X d (.If e j2 o q):=by
 intro sc ρ H B C n A G env own s l st Q p r
 (conv at n=>whnf)
 rw[arm_exec_If];refine AA (wpAny_standAt (AA (x.test _ _ _ _ n A G env own s l st _ fun t D c u m w k=>?_)));have a:=m.nil own;cases c with
 |true=>
  exact y _ _ _ _ _ k A t env own u l (st.step m w) Q (fun b f g h i=>p b f g h (a.trans i)) (fun b f v j h i=>r b f v j h (a.trans i))
 |false=>
  exact z _ _ _ _ _ k A t env own u l (st.step m w) Q (fun b f g h i=>p b f g h (a.trans i)) (fun b f v j h i=>r b f v j h (a.trans i))
theorem RK:SS X d (.While e j2 [] q):=by
 intro sc ρ H g i a A G env own s b st Q c f
 (conv at a=>whnf)
 rw[arm_exec_While];refine AA (wpAny_standAt (wpAny_runOwn (h:=none) ?_));exact a.go A G env own s b st _ c f
theorem Vt{a:Expr}(all:X.All)(y:KM a=true)(z:Gv a=true)(b:VQ a=true)(B:Xj X d j2):SS X d (.For e a j2 [] q):=by
 intro sc ρ H C D n A G env own s v st Q E F;have n:Nf X d e a sc ρ H (fun l guard g=>GJ (fun x o i k=>GH sc e x o fun j=>FF X d j2 sc j i k D) guard l ρ g C):=n;refine wpAny_For ?_ (JA z env);have ne:∀q,HM a=some q->KM q.2=true/\CN [q.2]=true/\Cg q.1=true:=fun q h=>by
  unfold VQ at b;rw[h]at b;exact⟨aL (aL b),aR (aL b),aR b⟩
 refine QK all y ne v st n fun I K J L M N w R O p P r t=>?_;refine Rq (G₀:=G) (s₀:=s) v (B sc) r O (fun j2 u=>(st.f.ownOff j2 u).there) (fun x c m=>(st.f.cellOff x c m).there) E F K.items 0 ρ J L M rfl (zero_le _) (w.nil own) (st.step w N) p P t
theorem Et{s:Stmt}(h:∀sc ρ H a b,¬Lj X d s sc ρ H a b):SS X d s:=fun sc ρ H a b c=>(h sc ρ H a b c).elim
theorem KU{u:Stmt->Bool}(x:∀s,u s=true->SS X d s)(h:j2.all u=true):Xj X d j2:=by
 induction j2 with
 |nil=>
  intro sc ρ H y z e A G env own s g st Q i j
  (conv at e=>whnf)
  rw[arm_execs_nil];exact AB (i G H ρ s (.refl ..) st e)
 |cons a r B=>
  intro sc ρ H y z e A G env own s g st Q i j
  (conv at e=>whnf)
  rw[arm_execs_cons];refine AA (x a (aL h) _ _ _ _ _ e A G env own s g st _ (fun k w C l f m b=>?_) fun k w v c l f D E b=>?_)
  .exact(B (aR h)) _ _ _ _ _ b A k env own l g m Q (fun n o p q t=>i n o p q (f.trans t)) (fun n o v c q t=>j n o v c q (f.trans t))
  .exact AB (j k w v c l f D E b)
theorem Uf(all:X.All){j:Stmt->Bool}(g:∀s,j s=true->SS X d s)(s:Stmt)(h:Xr j s=true):SS X d s:=by
 cases s with
 |Return e p=>
  cases e with
  |some e=>exact On (Hb all e h).1
  |none=>exact Et fun sc ρ H c f a=>a
 |Assign i e p=>
  cases i with
  |nil=>exact Et fun sc ρ H c f a=>a
  |cons t i=>
   cases i with
   |nil=>exact fun sc ρ H c f a=>Kv all (aL (aL (aL h))) (aR (aL (aL h))) (aR (aL h)) a
   |cons _ _=>exact Et fun sc ρ H c f a=>a
 |Expr e p=>exact Ut (Hb all e (aL h)).1 (aR h)
 |If t b o p=>exact Xg (Hb all t (aL (aL h))).1 (KU g (aR (aL h))) (KU g (aR h))
 |While t b o p=>
  cases o with
  |nil=>exact RK
  |cons _ _=>exact Et fun sc ρ H c f a=>a
 |For t k b o p=>
  cases o with
  |nil=>exact Vt all (aL (aL (aL h))) (aR (aL (aL h))) (aR (aL h)) (KU g (aR h))
  |cons _ _=>exact Et fun sc ρ H c f a=>a
 |_=>exact Et fun sc ρ H c f a=>a
theorem ZR(all:X.All):∀(n:Nat)(e:Stmt),Zq n e=true->SS X d e:=by
 intro a;induction a with
 |zero=>
  intro _ h;exact absurd h AN
 |succ n b=>
  intro e h;exact Uf all (b) e h
theorem YB(all:X.All)(h:UH j2=true):Xj X d j2:=KU (ZR all 40) h
end
theorem JR(d:i8 y=some .local):∀{b:List Str}{a:List Value}{m:Str->Option Value},b.Nodup->b.length=a.length ->
  bindL i8 (b.zip a) m y=if y∈b then(b.zip a).lookup y else m y
 |[],[],m,_,_=>by simp[bindL]
 |[],_::_,_,_,h=>by cases h
 |_::_,[],_,_,h=>by cases h
 |p::b,v::a,m,c,f=>by
  rw[nodup_cons]at c;rw[zip_cons_cons,bindL,JR d c.2 (Nat.succ.inj f),lookup_cons];by_cases e:y=p
  .subst e;rw[if_neg c.1,if_pos d,if_pos rfl];simp
  .rw[(beq_eq_false_iff_ne.mpr e)];simp only[(propext ⟨mem_of_ne_of_mem e,.tail _⟩:(y∈p::b)=(y∈b))];by_cases h:y∈b
   .rw[if_pos h,if_pos h]
   .rw[if_neg h,if_neg h]
    split
    .simp only[if_neg e]
    .rfl
theorem I8(d:i8 y≠some .local):∀{b:List Str}{a:List Value}{m:Str->Option Value},b.Nodup->b.length=a.length ->
  bindC i8 (b.zip a) m y=if y∈b then(b.zip a).lookup y else m y
 |[],[],m,_,_=>by simp[bindC]
 |[],_::_,_,_,h=>by cases h
 |_::_,[],_,_,h=>by cases h
 |p::b,v::a,m,c,f=>by
  rw[nodup_cons]at c;rw[zip_cons_cons,bindC,I8 d c.2 (Nat.succ.inj f),lookup_cons];by_cases e:y=p
  .subst e;rw[if_neg c.1,if_neg d,if_pos rfl];simp
  .rw[(beq_eq_false_iff_ne.mpr e)];simp only[(propext ⟨mem_of_ne_of_mem e,.tail _⟩:(y∈p::b)=(y∈b))];by_cases h:y∈b
   .rw[if_pos h,if_pos h]
   .rw[if_neg h,if_neg h]
    split
    .rfl
    .simp only[if_neg e]
theorem F0{ps:List (Str×V)}{x:Str}{v:V}:∀{sc:List (Str×NameKind)},lk (Sr sc ps) x=some (some v)->ps.lookup x=some v
 |[],h=>nomatch (show(none:Option (Option V))=_ from h)
 |(n,k)::r,h=>by
  unfold lk Sr at h;rw[filterMap_cons]at h;have a:=F0 (ps:=ps) (x:=x) (v:=v) (sc:=r);have go:List.lookup x ((n,ps.lookup n)::_)=some (some v)->ps.lookup x=some v:=fun h=>by
   rw[lookup_cons]at h;by_cases e:x=n
   .subst e;rw[beq_self_eq_true]at h;exact Option.some.inj h
   .rw[(beq_eq_false_iff_ne.mpr e)]at h;exact a h
  cases k<;>first |exact a h |exact go h
theorem Kd:∀{f:List Str}{b:List V}{c:List Value},BJ G b c->(f.zip b).lookup y=some v->EC fun a=>DD ((f.zip c).lookup y=some a) (VR G v a) (y∈f)
 |[],_,_,_,h=>Gi h
 |_::_,[],_,_,h=>Gi h
 |p::f,_::_,_,r,h=>by
  obtain⟨d,_,g,i⟩:=r.cons_l;rw[zip_cons_cons,lookup_cons]at h⊢;by_cases e:y=p
  .subst e;simp only[beq_self_eq_true]at h⊢;cases h;exact⟨d,rfl,g,.head _⟩
  .rw[(beq_eq_false_iff_ne.mpr e)]at h⊢;obtain⟨a,j,k,l⟩:=Kd i h;exact⟨a,j,k,.tail _ l⟩
theorem DQ:∀{names:List (Str×NameKind)}{n:Nat}{a:List (Str×Addr)}{x:Str},(a.lookup x).isSome=true->((cellsFrom n names a).lookup x).isSome=true
 |[],_,_,_,h=>h
 |(y,k)::r,n,a,x,h=>by
  unfold cellsFrom
  split
  .refine DQ ?_;rw[lookup_cons]
   split<;>first |rfl |exact h
  .exact DQ h
theorem Dl:∀{names:List (Str×NameKind)}{n:Nat}{a:List (Str×Addr)}{x:Str},(x,NameKind.cell)∈names->((cellsFrom n names a).lookup x).isSome=true
 |(y,k)::r,n,a,x,h=>by
  unfold cellsFrom;rcases Ae h with e |h
  .obtain⟨rfl,rfl⟩:=Prod.mk.inj e;simp only[beq_self_eq_true,if_true];exact DQ (by rw[lookup_cons,beq_self_eq_true];rfl)
  .split<;>exact Dl h
set_option tactic.hygienic true in
theorem FA:∀{names:List (Str×NameKind)}{n:Nat}{acc:List (Str×Addr)}{x:Str}{c:Addr},(x,c)∈cellsFrom n names acc->(x,NameKind.cell)∈names\/(x,c)∈acc
 |[],_,_,_,_,h=>.inr h
 |(y,k)::r,n,acc,x,c,h=>by
  unfold cellsFrom at h
  split at h
  .rename_i hk;rcases FA h with h |h
   .exact .inl (.tail _ h)
   .exact(Ae h).imp (fun q=>List.mem_cons.mpr (.inl (by rw[(Prod.mk.inj q).1,show k=.cell from eq_of_beq hk]))) id
  .exact(FA h).imp (fun z=>.tail _ z) id
section
variable {d:Nat} {H:Aj} {p:String} {ps:List Str} {body:List Stmt} {sc:List (Str×NameKind)} {args:List V} {Φ:V->Aj->Prop}
theorem UB(all:X.All)(F:WO X p ps body sc)(hs:UH body=true)(O:N4 sc ps=true)(hl:args.length=ps.length)(hd:1<=d)
  (φ:FF X (d-1) body sc (Sr sc (ps.zip args)) H (fun C D=>Φ .none D) Φ):Ap X d p args H Φ:=by
 refine⟨fun A G s g L P Q R hR=>?_⟩;obtain⟨o,l,e1,e2,e3,e4,e5,S,e7,e8,e9,T,U,V⟩:=F.obj;unfold N4 at O;simp only[and_eq_true,all_eq_true,or_eq_true,beq_iff_eq,decide_eq_true_eq,bne_iff_ne,ne_eq,any_eq_true]at O;obtain⟨⟨⟨W,E⟩,c0⟩,Y⟩:=O;have t:g.length=ps.length:=by rw[<- Q.length,hl]
 have M:∀b o,X.base.get? b=some o->s.heap.get? b=some o:=P.base;refine codeAny_call_cells (fd:=l) (body:=body) (binds:=ps.zip g) (by have:=L.2.1;omega) (M _ _ e1) e2 (all.ok.nolimit.keeps M) (e3.keeps M) e4 (V g t) e5 (fun x hx=>?_) (fun a x=>?_) e8 e9 e7
 .have Z:x.1∈ps:=(List.of_mem_zip hx).1;rw[S];rcases W _ Z with h |⟨h,q,hq,B,h4⟩
  .exact .inl h
  .refine .inr ⟨h,Dl ?_⟩;obtain⟨q1,q2⟩:=q;simp only at B h4;subst B h4;exact hq
 .have a0:B4 (d-1) (A.deeper (callEnvC l s.heap.objs.size (X.fn p))):=by
   refine⟨L.1,?_,?_⟩
   .show A.depth+1+(d-1)<recursionLimit;have:=L.2.1;exact by rw[Nat.add_assoc,add_sub_of_le hd];exact this
   .show A.units+3+8*(d-1)+100<cLine;have:=L.2.2;omega
  have nl:∀b,s.heap.objs.size<=b->s.heap.get? b=none:=fun b k=>get?_none_of_le k;have off:∀b,s.heap.objs.size<=b->X.base.get? b=none/\¬G.isLoc b:=fun b k=>by
   refine⟨?_,fun y=>?_⟩
   .refine CK (X.base.get? b) (fun q=>?_) fun u q=>?_
    .rfl
    .have:=M b u q;rw[nl b k]at this;cases this
   .obtain⟨o',e'⟩:=P.alive y;rw[nl b k]at e';cases e'
  have m:∀y c,(callEnvC l s.heap.objs.size (X.fn p)).cells.lookup y=some c->s.heap.objs.size<c:=fun y c i=>x.above y c (mem_of_lookup i);have kin:∀y,(callEnvC l s.heap.objs.size (X.fn p)).kindOf y=sc.lookup y:=fun y=>by
   show l.scope.names.lookup y=_;rw[S]
  have st:St X G H sc (Sr sc (ps.zip args)) (callEnvC l s.heap.objs.size (X.fn p)) (fun b=>b=s.heap.objs.size\/∃y,(callEnvC l s.heap.objs.size (X.fn p)).cells.lookup y=some b) a:=⟨P.keeps x.toInCall.keep,{
   kind:=e7
   glob:=T
   bi:=U
   ns:=⟨_,x.toInCall.ns,fun y v hv I=>by
    have:=F0 hv;obtain⟨j,h1,h2,B⟩:=Kd Q this;refine⟨j,?_,h2⟩;rw[JR ((kin ..).trans I) E t.symm,if_pos B,h1]⟩
   ownL:=.inl rfl
   kl:=fun y h=>(kin ..).trans h
   kg:=fun y h=>(kin ..).trans h
   cell:=fun y h=>by
    have i:sc.lookup y=some .cell:=h.resolve_right fun q=>Y _ (mem_of_lookup q) rfl;obtain⟨c,J⟩:=Option.isSome_iff_exists.mp (Dl (by rw[S];exact mem_of_lookup i):((cellsFrom (s.heap.objs.size+1) l.scope.names []).lookup y).isSome=true);refine⟨.inl ((kin ..).trans i),c,_,J,x.cell y c J,fun v hv=>?_⟩;have:=F0 hv;obtain⟨j,h1,h2,B⟩:=Kd Q this;refine⟨j,?_,h2⟩;rw[I8 (by rw[kin,i];decide) E t.symm,if_pos B,h1]
   ownC:=fun y h=>⟨(kin ..).trans h,fun c i=>.inr ⟨y,i⟩⟩
   cinj:=fun y z c N hz=>name_of_addr x.apart (mem_of_lookup N) (mem_of_lookup hz)
   ownOff:=fun b k=>by
    rcases k with k |⟨y,N⟩
    .subst k;obtain⟨u,_,_,h,_⟩:=x.toInCall.ns;exact⟨(off _ (AM _)).1,(off _ (AM _)).2,u,h⟩
    .have:=off b (AR (m y b N));obtain⟨u,h,_⟩:=x.cell y b N;exact⟨this.1,this.2,u,h⟩
   cellOff:=fun y c i=>by
    have:=off c (AR (m y c i));obtain⟨u,h,_⟩:=x.cell y c i;exact⟨this.2,Nat.ne_of_gt (m y c i),u,h⟩ }⟩
  have fin:∀{w:Gh}{r:Shared},At G (fun b=>b=s.heap.objs.size\/∃y,(callEnvC l s.heap.objs.size (X.fn p)).cells.lookup y=some b) a w r->At G Cs s w r:=fun{w r} q=>by
   have K:=((.ofKeeps x.toInCall.same x.toInCall.keep _:At G Cs s G a).nil _).trans q;refine⟨K.le,K.same,fun b o e n C=>K.keep b o e n fun z=>?_,K.fresh,K.alive⟩;have k:s.heap.objs.size<=b:=by
    rcases z with z |⟨y,z⟩
    .exact AT z.symm
    .exact AR (m y b z)
   rw[nl b k]at e;cases e
  refine wpAny_mono (YB all hs sc _ H _ _ φ _ G _ _ a a0 st (fun f r=>R (.ok (.ret (match f with |.ret v=>v |_=>.none))) r) (fun w D d0 r p' b0 kk=>?_) (fun w D v j r p' h' r' kk=>?_)) (fun C C z=>z) fun C C z=>z.elim
  .exact hR w D .none .none r (fin p') b0.h .none kk
  .exact hR w D v j r (fin p') h' r' kk
theorem FW(all:X.All)(W:KM e=true)(Y:UH j2=true)(i:Nat->BA->Aj->Prop)
  (turn:∀n E H,i n E H->Qa X d e sc E H (fun k=>Br X d e sc E H k) fun c q=>(if c=true then FF X d j2 sc E q (fun r J=>∃m,m<n/\i m r J) z else I E q)) (n:Nat) (h:i n E H):Ny X d e j2 sc E H I z:=by
 refine⟨fun A G env own s V st R Z hr=>?_⟩;have K:∀(g:Gh)(b:Shared),At G own s g b->∀(n:Nat)(E:BA)(H:Aj),i n E H->St X g H sc E env own b->codeAny (model X.prog X.w) A (.whileLoop e j2 [] env) R b:=by
  intro g b C n;induction n using Nat.strongRecOn generalizing g b with
  |ind n ih=>
   intro E H hI j;refine codeAny_of_tree ?_;show wpAny _ A ((whileTurn e j2 [] env).onRaise (fun x=>do noteFrame x env;theTreesLotGoes x)) _ _ b
   refine wpAny_noted ?_;simp only[whileTurn];refine AA (wpAny_mono ((Hb all e W).1.test _ _ _ _ (turn n E H hI) A g env own b V j (fun c s2=>Dd fun t u=>DD (At g Cs b t s2) (Az X t u s2) ((if c=true then FF X d j2 sc E u (fun r J=>∃m,m<n/\i m r J) z else I E u)))
    fun t u c s2 F L l=>⟨t,u,F,L,l⟩) (fun c s2 a=>?_) fun M M a=>a.elim)
   obtain⟨t,u,F,L,l⟩:=a;have D:=j.step F L;have y:=C.trans (F.nil own);cases c with
   |false=>
    rw[arm_execs_nil];exact AA (AB (AB (Z t u E s2 y D l)))
   |true=>
    refine AA (wpAny_mono (YB all Y _ _ _ _ _ l A t env own s2 V D (fun f B=>match f with
     |.next=>codeAny (model X.prog X.w) A (.whileLoop e j2 [] env) R B
     |.ret o=>R (.ok (.ret o)) B
     |_=>False) (fun N O P B Q S T=>?_) (fun N O v o B Q h4 r4 T=>?_)) (fun f B a=>?_) fun M M a=>a.elim)
    .obtain⟨m,hm,U⟩:=T;exact ih m hm N B (y.trans Q) P O U S
    .exact hr N O v o B (y.trans Q) h4 r4 T
    .cases f with
     |next=>exact AB ⟨rfl,a⟩
     |ret o=>exact AB a
     |brk=>exact a.elim
     |cont=>exact a.elim
 exact K G s (.refl ..) n E H h st
end
def WH(k:Nat):Bool:=UH (Bg (Bt k))&&N4 (Cn (Bt k)) (FC (Bt k))
theorem VA:(List.range 64).all WH=true:=by kernel_rfl
theorem Ao(F:BN X)(k:Nat)(b:l.length=(FC (Bt k)).length)
  (c:FF X n (Bg (Bt k)) (Cn (Bt k)) (Sr (Cn (Bt k)) ((FC (Bt k)).zip l)) H (fun e d=>z .none d) z) (a:autoParam (k<64) dc):Ap X (n+1) (Rb k) l H z:=by
 have h:=List.all_eq_true.mp VA k (List.mem_range.mpr a);unfold WH at h;rw[and_eq_true]at h;exact UB F.all (F.fn k a) h.1 h.2 b (le_add_left 1 n) c
theorem Au(h:H[n]? =some L)(l:Aj):(H++l)[n]? =some L:=by
 rw[getElem?_append_left (AE h).1];exact h
theorem Ak{o:HO}:(H++[o])[H.length]? =some o:=by simp
theorem BE{o':HO}(h:H[n]? =some L):(H.set n o')[n]? =some o':=List.getElem?_set_self (AE h).1
theorem Aq{o':HO}(h:H[k]? =some L)(a:k≠n):(H.set n o')[k]? =some L:=by
 rw[getElem?_set_ne (Ne.symm a)];exact h
theorem Ax(h:H[n]? =some L):n<H.length:=(AE h).1
structure Fr(W:Nat->Prop)(H H':Aj):Prop where
 len:H.length<=H'.length
 old:∀{n o},H[n]? =some o->¬W n->H'[n]? =some o
section
variable {W:Nat->Prop} {H H' H'':Aj} {n:Nat} {o:HO}
theorem Fr.refl:Fr W H H:=⟨AM _,fun h a=>h⟩
theorem Fr.trans(a:Fr W H H')(b:Fr W H' H''):Fr W H H'':=⟨AF a.len b.len,fun h w=>b.old (a.old h w) w⟩
theorem Fr.app(a:Fr W H H')(l:Aj):Fr W H (H'++l):=⟨by rw[AI];exact AF a.len (AU _ _),fun h w=>Au (a.old h w) l⟩
theorem Fr.set(a:Fr W H H')(b:H.length<=n\/W n)(o:HO):Fr W H (H'.set n o):=⟨by rw[length_set];exact a.len,fun{m _} h w=>Aq (a.old h w) fun e=>b.elim (fun q=>Nat.lt_irrefl _ (AK (e▸Ax h) q)) (fun q=>w (e▸q))⟩
theorem Fr.new(l:Aj):Fr W H (H++l):=Fr.refl.app l
theorem Fr.weak{b:Nat->Prop}(a:Fr W H H')(h:∀n,W n->b n):Fr b H H':=⟨a.len,fun e w=>a.old e fun q=>w (h _ q)⟩
theorem Fr.pure(a:Fr (fun b=>False) H H'):Fr W H H':=a.weak fun b h=>h.elim
end
section
variable {d:Nat} {H:Aj} {Φ:V->Aj->Prop} {n m:Nat} {c:String} {fs:List (Str×V)} {x:Str} {v:V} {l l':List V} {kv:List (V×V)}
theorem An{a:List V}(hd:k<d)(h:Ap X k f a H Φ):1<=d/\Ap X (d-1) f a H Φ:=⟨AH (zero_le _) hd,h.deep (le_sub_one_of_lt hd)⟩
theorem Uj(h:H[n]? =some (.inst c fs))(a:Φ v H)(b:autoParam (Dw c x=true) rf)(e:autoParam (fs.lookup x=some v) rf):L8 (.loc n) x H Φ:=objA_i h (Nj b (KQ e a))
theorem Xc(h:H[n]? =some (.list l))(a:l.length<2 ^ 62)(b:Φ (.int l.length) H):Nu .len [.loc n] H Φ:=objA_i h ⟨a,b⟩
theorem W4(h:H[n]? =some (.dict kv))(a:kv.length<2 ^ 62)(b:Φ (.int kv.length) H):Nu .len [.loc n] H Φ:=objA_i h ⟨a,b⟩
theorem P9(h:H[n]? =some (.list l))(a:0<=i)(b:i<2 ^ 62)(e:l[i.toNat]? =some v)(f:Φ v H):Ir (.loc n) (.int i) H Φ:=objA_i h ⟨i,v,rfl,a,b,e,f⟩
theorem Wq{i:V}(h:H[n]? =some (.dict kv))(a:Pd 8 i)(b:BI kv i=some v)(e:Φ v H):Ir (.loc n) i H Φ:=objA_i h ⟨v,a,b,e⟩
theorem R8(a:Hw i=true)(b:M5 l i=some v)(e:s7 v):FL (Hw i) (ov (M5 l i) s7):=Nj a (KQ b e)
theorem Eg(a:k<Ar)(b:l[k]? =some v)(f:s7 v)(e:autoParam (i=(k:Int)) rf):FL (Hw i) (ov (M5 l i) s7):=by
 subst e;exact R8 (Nat.blt_eq.mpr (AV a (by decide))) ((Ji l k).trans b) f
theorem JD(h:H[n]? =some (.list l))(a:k<Ar)(b:l[k]? =some v)(f:Φ v H)(e:autoParam (i=(k:Int)) rf):Ir (.loc n) (.int i) H Φ:=by
 subst e;exact P9 h (Ai k) (Int.ofNat_lt.mpr (AV a (by decide))) b f
theorem GR(h:H[n]? =some (.list l))(a:l.length<=Ar)(b:Φ (.tup l) H):Nu .tuple [.loc n] H Φ:=objA_i h ⟨a,b⟩
theorem UR(h:H[n]? =some (.dict kv))(a:D7 (kv.map (·.1)) H Φ):Nu .sorted [.loc n] H Φ:=objA_i h a
theorem TI(h:H[n]? =some (.list l))(a:D7 l H Φ):Nu .sorted [.loc n] H Φ:=objA_i h a
theorem Sa{i:V}(h:H[n]? =some (.dict kv))(a:Pd 8 i)(b:kv.length<Ar)(e:K (H.set n (.dict (BK kv i v)))):NG (.loc n) i v H K:=objA_i h ⟨a,b,e⟩
theorem YJ(h:H[n]? =some (.dict kv))(a:Pd 8 v)(b:i4 (BI kv v).isSome):IW .In v (.loc n) H i4:=objA_i h ⟨a,b⟩
theorem V3(h:H[n]? =some (.dict kv))(a:Pd 8 v)(b:i4 (!(BI kv v).isSome)):IW .NotIn v (.loc n) H i4:=objA_i h ⟨a,b⟩
theorem Hg(h:H[n]? =some (.inst c fs))(a:K (H.set n (.inst c (B3 fs x v))))(b:autoParam ((Dw c x&&blt fs.length 100)=true) rf):DH (.loc n) x v H K:=objA_i h (Nj b a)
inductive Ga(H:Aj)(n:Nat)(x:Str)(p:String):Prop
 |mk (o:HO) (h:H[n]? =some o) (t:YQ x o=some (.fn p))
theorem CC{p:String}(h:H[n]? =some (.inst c fs))(a:Cf c=true)(b:fs.lookup x=none)(e:Fl c x=some p):Ga H n x p:=⟨_,h,by
 show(bif Cf c&&(fs.lookup x).isNone then(Fl c x).map Tg.fn else none)=some (.fn p);rw[a,b,e];rfl⟩
theorem tg_i{k:HO->Tg->Prop}(t:Ga H n x f)(a:∀o,k o (.fn f)):Bk (fun o=>ov (YQ x o) (k o)) H n:=by obtain⟨_,h,t⟩:=t;exact objA_i h (KQ t (a _))
theorem Bf{a:Aj}(e:a[n]? =some (.list l'))(f:l'.length<Ar)(g:Φ .none (a.set n (.list (l'++[v])))):Bk (fun b=>FL (FZ (.list l) b) (E9 .append n [v] a Φ b)) a n:=objA_i e ⟨f,g⟩
theorem Sk{b:Aj}{a:List V}(f:b[n]? =some (.list l'))(g:b[k]? =some (.list a))(h:k≠n)(i:l'.length+a.length<Ar)(j:Φ .none (b.set n (.list (l'++a)))) :
  Bk (fun e=>FL (FZ (.list l) e) (E9 .extend n [.loc k] b Φ e)) b n:=objA_i f (objA_i g ⟨h,i,j⟩)
theorem QA{b:Aj}{a:List V}(f:b[n]? =some (.list l'))(g:l'.length+a.length<Ar)(h:Φ .none (b.set n (.list (l'++a)))):Bk (fun e=>FL (FZ (.list l) e) (E9 .extend n [.tup a] b Φ e)) b n:=objA_i f ⟨g,h⟩
theorem OV{b:Aj}{a:List (V×V)}{k:V}(f:b[n]? =some (.dict a))(g:Pd 8 k)(h:Φ ((BI a k).getD v) b):Bk (fun e=>FL (FZ (.dict kv) e) (E9 .get n [k,v] b Φ e)) b n:=objA_i f ⟨g,h⟩
theorem Jz{b:Aj}{a:List (V×V)}{k:V}(f:b[n]? =some (.dict a))(g:Pd 8 k)(h:a.length<Ar)
  (i:match BI a k with |some u=>Φ u b |none=>Φ v (b.set n (.dict (a++[(k,v)])))):Bk (fun e=>FL (FZ (.dict kv) e) (E9 .setdefault n [k,v] b Φ e)) b n:=objA_i f ⟨g,h,i⟩
theorem Ue{a:Aj}{b:List (V×V)}(f:a[n]? =some (.dict b))(g:Φ (.loc a.length) (a++[.items n])):Bk (fun e=>FL (FZ (.dict kv) e) (E9 .items n [] a Φ e)) a n:=objA_i f g
end
theorem Ld:∀{a:List Str}{b:List Value},b.length=a.length->y∈a->∃v,(a.zip b).lookup y=some v
 |[],_,_,h=>by cases h
 |p::a,[],h,_=>by cases h
 |p::a,v::b,h,c=>by
  rw[zip_cons_cons,lookup_cons];by_cases e:(y==p)=true
  .rw[e];exact⟨v,rfl⟩
  .rw[Bool.eq_false_iff.mpr e];rcases Ae c with rfl |c
   .exact absurd (beq_self_eq_true _) e
   .exact Ld (Nat.succ.inj h) c
theorem Kp:∀{a:List Str}{b:List Value},b.length=a.length->a.Nodup->(a.filterMap fun n=>((a.zip b).lookup n).map (n,·))=a.zip b
 |[],[],_,_=>rfl
 |[],_::_,h,_=>by cases h
 |p::a,[],h,_=>by cases h
 |p::a,v::b,h,nd=>by
  obtain⟨f,g⟩:=List.nodup_cons.mp nd;rw[zip_cons_cons,filterMap_cons,lookup_cons,beq_self_eq_true];show(p,v)::_=_
  congr 1
  have i:=Kp (Nat.succ.inj h) g;have e:∀l:List Str,(∀x∈l,x≠p)->(l.filterMap fun n=>(List.lookup n ((p,v)::a.zip b)).map (n,·))=l.filterMap fun n=>((a.zip b).lookup n).map (n,·):=by
   intro l;induction l with
   |nil=>exact fun m=>rfl
   |cons x l j=>
    intro d;have c:(x==p)=false:=beq_eq_false_iff_ne.mpr (d x (.head _));rw[filterMap_cons,filterMap_cons,lookup_cons,c,j fun y k=>d y (.tail _ k)]
  rw[e a fun x c z=>f (z▸c)];exact i
theorem NH{c:FuncData}(e:c.params.posonlyargs=[])(f:c.params.kwonlyargs=[])(g:c.params.vararg=none)(h:c.params.kwarg=none)(i:c.defaults=.none)(nd:(c.params.args.map (·.arg)).Nodup)
  (d:a.length=(c.params.args.map (·.arg)).length):bindArgs c ⟨a,[]⟩=pure ((c.params.args.map (·.arg)).zip a):=by
 obtain⟨j,s,⟨t,b,u,w,y,z,A⟩,k,B,C,D,E,l⟩:=c;simp only at e f g h i nd d;subst e f g h i;have m:((b.map (·.arg)).filter fun n=>(((b.map (·.arg)).zip a).lookup n).isNone)=[]:=by
  rw[List.filter_eq_nil_iff];intro x o;obtain⟨v,p⟩:=Ld d o;rw[p];exact AN
 have q:=Kp d nd;have r:¬(decide (a.length > (b.map (·.arg)).length)&&true)=true:=by rw[d,decide_eq_false (Nat.lt_irrefl _)];exact AN
 show(if(decide (a.length > (b.map (·.arg)).length)&&true)=true then _ else _)=_
 rw[if_neg r];refine(if_neg ?_).trans ?_
 .show ¬(!(List.filter (fun n=>(((b.map (·.arg)).zip a).lookup n).isNone) (List.take ((b.map (·.arg)).length-(List.drop (0-(b.map (·.arg)).length) ([]:List Value)).length) (b.map (·.arg)))).isEmpty)=true;rw[List.drop_nil,length_nil,Nat.sub_zero,take_length,m];decide
 show(forIn (zip (List.drop _ (b.map fun x:Arg=>x.arg)) (List.drop (0-(b.map fun x:Arg=>x.arg).length) ([]:List Value))) _ _ >>= _)=_;rw[List.drop_nil,List.zip_nil_right];show(pure (((b.map fun x:Arg=>x.arg)++[]).filterMap fun n=>(((b.map fun x:Arg=>x.arg).zip a).lookup n).map (n,·)):Sem (List (Str×Value)))=_;rw[Ah,q]
theorem DR{o:Obj}:(QN h).get? b=some o↔h.get? b=some o/\PM o=false:=by
 have a:(QN h).objs[b]? =(h.objs[b]?).map fun o=>if PM o then{ o with data:=.freed }else o:=by
  unfold QN;rw[Array.getElem?_map]
 rw[Heap.get?_some_iff,Heap.get?_some_iff,a];cases h.objs[b]? with
 |none=>exact⟨(fun e=>by cases e.1),fun e=>by cases e.1.1⟩
 |some c=>
  rw[map_some];by_cases q:PM c=true
  .rw[if_pos q];refine⟨(fun e=>by cases e.1;cases e.2),fun⟨⟨e,_⟩,f⟩=>?_⟩;cases e;exact absurd (f.symm.trans q) AN
  .rw[if_neg q];exact⟨fun e=>⟨e,by cases e.1;exact Bool.eq_false_iff.mpr q⟩,fun e=>e.1⟩
theorem Js{o:Obj}(h:∀a n,o.data≠.seq a n):PM o=false:=by
 unfold PM;cases q:o.data<;>first |rfl |exact absurd q (h _ _)
set_option tactic.hygienic true in
theorem YO{o:Obj}(h:o.cls≠.type "list"):PM o=false:=by
 unfold PM;cases q:o.data<;>try rfl
 cases a:o.cls<;>try rfl
 rename_i t;exact beq_eq_false_iff_ne.mpr fun e=>h (by rw[a,e])
theorem KY(x:h.Ns b u5):(QN h).Ns b u5:=by
 obtain⟨o,c,ep,d,a,r⟩:=x;exact⟨o,c,ep,DR.mpr ⟨d,Js fun f n e=>by rw[a]at e;cases e⟩,a,r⟩
theorem Wm{a:Str->Option Value}(x:h.Ns b u5)(y:h.Ns b a):u5=a:=by
 obtain⟨o,l,ep,c,d,_,e⟩:=x;obtain⟨m,f,g,i,j,_,k⟩:=y;obtain rfl:=Option.some.inj (c.symm.trans i);obtain⟨rfl,rfl⟩:=Data.dict.inj (d.symm.trans j);exact funext fun n=>(e n).symm.trans (k n)
theorem Uu{o:Obj}:∀{l:List Addr},((l.filterMap fun b=>(h.get? b).map (b,·)):Frag).lookup b=some o->h.get? b=some o/\(b,o)∈(l.filterMap fun b=>(h.get? b).map (b,·)):=by
 intro zl;induction zl with
 |nil=>
  intro e;cases e
 |cons zqbq l ih=>
  intro e;rw[filterMap_cons]at e⊢;refine CK (h.get? zqbq) (fun q=>?_) fun o' q=>?_
  .rw[q]at e;exact ih e
  .rw[q]at e;dsimp only[map_some]at e⊢;rw[lookup_cons]at e;by_cases z:(b==zqbq)=true
   .rw[z]at e;cases e;have:=eq_of_beq z;subst this;exact⟨q,.head _⟩
   .rw[Bool.eq_false_iff.mpr z]at e;exact⟨(ih e).1,.tail _ (ih e).2⟩
theorem It{v:GV}:∀{l:List (String×GV)},N5 l y=some v->∃p∈l,ofString p.1=y/\p.2=v:=by
 intro zl;induction zl with
 |nil=>
  intro h;cases h
 |cons p r ih=>
  intro h;have h:(if(ofString p.1==y)=true then some p.2 else N5 r y)=some v:=h
  by_cases q:(ofString p.1==y)=true
  .rw[if_pos q]at h;cases h;exact⟨p,.head _,eq_of_beq q,rfl⟩
  .rw[if_neg q]at h;obtain⟨p',h1,h2⟩:=ih h;exact⟨p',.tail _ h1,h2⟩
theorem Ov{p:String}:∀{l:List (String×String×String)},OB l f y=some p->∃q∈l,q.1=f/\ofString q.2.1=y/\q.2.2=p:=by
 intro zl;induction zl with
 |nil=>
  intro h;cases h
 |cons q r ih=>
  intro h;have h:(if(q.1==f&&ofString q.2.1==y)=true then some q.2.2 else OB r f y)=some p:=h
  by_cases z:(q.1==f&&ofString q.2.1==y)=true
  .rw[if_pos z]at h;cases h;obtain⟨z1,z2⟩:=Aa z;exact⟨q,.head _,eq_of_beq z1,eq_of_beq z2,rfl⟩
  .rw[if_neg z]at h;obtain⟨q',h1,h2⟩:=ih h;exact⟨q',.tail _ h1,h2⟩
theorem OW(h:Cf f=true):∃p∈IP,p.1=f:=by
 obtain⟨p,hp,q⟩:=List.any_eq_true.mp h;exact⟨p,hp,eq_of_beq q⟩
theorem Tc(h:Dw f y=true):∃p∈IP,p.1=f/\∃zqfq∈p.2,ofString zqfq=y:=by
 obtain⟨p,hp,q⟩:=List.any_eq_true.mp h;obtain⟨q1,q2⟩:=Aa q;obtain⟨zqfq,hf,q3⟩:=List.any_eq_true.mp q2;exact⟨p,hp,eq_of_beq q1,zqfq,hf,eq_of_beq q3⟩
theorem Hp{b c:Type}{f g:b->c}{l:List b}(h:l.map f=l.map g):∀a∈l,f a=g a:=List.map_inj_left.mp h
theorem TG{b d i:Type}{f:b->List d}{g g':b->d->i}:∀{l:List b},(l.flatMap fun p=>(f p).map (g p))=(l.flatMap fun p=>(f p).map (g' p))->∀p∈l,∀x∈f p,g p x=g' p x:=by
 intro j;induction j with
 |nil=>
  intro _ _ h _ _;cases h
 |cons a l k=>
  intro h p c x e;rw[flatMap_cons,flatMap_cons]at h;obtain⟨m,n⟩:=List.append_inj h (by rw[AG,AG]);rcases Ae c with rfl |c
  .exact Hp m x e
  .exact k n p c x e
theorem Qx:(MI.all fun p=>match p.2 with |.bi b=>bootBuiltins (ofString p.1)==some (Re b) |_=>true)=true:=by decide +kernel
theorem P5:(MI.all fun p=>match p.2 with |.cls c=>Cf c |_=>true)=true:=by decide +kernel
inductive VN:GV->Prop
 |fn (f:String):VN (.fn f)
 |cls (c:String):VN (.cls c)
 |bi (b:Bi):VN (.bi b)
 |i1:VN (.val (.int 1))
 |i2:VN (.val (.int (-1)))
 |t:VN (.val (.tup [.str (ofString "all"),.str (ofString "exists"),.str (ofString "comp"),.str (ofString "sum")]))
theorem QJ:∀p∈MI,VN p.2:=by
 repeat (first |exact List.forall_mem_nil _ |refine List.forall_mem_cons.mpr ⟨by constructor,?_⟩)
def YD(w:World)(h₀ h:Heap)(mb:Str->Option Value)(fz:Addr->Option Obj):Cx where
 prog:=PySem.Challenge.pw_nz0396_01
 w:=w
 base:=QN h
 K:=Kf h₀
 mg:=h₀.nsMap mainGlobals
 mb:=mb
 fn:=Ln
 cls:=FK
 gtup:=fun a=>if a=315 then(match Pn h₀ with |some p=>some p.2.toList |none=>none)else none
 fz:=fz
section
variable {w:World} {h₀ h:Heap} {mb:Str->Option Value} {fz:Addr->Option Obj}
theorem Hc(e:SA h₀=true):h₀.isNs mainGlobals=true/\(∀p∈Kf h₀,PM p.2=false)/\(∃o,h₀.get? sysModules=some o/\PM o=false) /\
  (∀p∈MI,∀f,p.2=.fn f->keepIn (Kf h₀) (.ref (Ln f))=true)/\(∀p∈IP,keepIn (Kf h₀) (.ref (FK p.1))=true)/\∀p∈Sf,keepIn (Kf h₀) (.ref (Ln p.2.2))=true:=by
 unfold SA SaG at e;simp only[and_eq_true]at e;obtain⟨⟨⟨⟨⟨⟨c,_⟩,d⟩,b⟩,g⟩,i⟩,j⟩:=e;refine⟨c,fun p a=>by simpa using List.all_eq_true.mp d p a,?_,fun p a f k=>?_,fun p a=>List.all_eq_true.mp i p a,fun p a=>List.all_eq_true.mp j p a⟩
 .refine CK (h₀.get? sysModules) (fun q=>?_) fun o q=>?_
  .rw[q]at b;cases b
  .rw[q]at b;exact⟨o,rfl,by simpa using b⟩
 .have:=List.all_eq_true.mp g p a;rw[k]at this;exact this
inductive Wu(h:Heap)(a:Addr)(b:FuncBody)(d:List (Str×NameKind))(e:List Str):Prop
 |mk (o:Obj) (c:FuncData):h.get? a=some o->o.data=.func c->YR h.get? o c=true->c.body=b->c.scope.names=d->c.params.args.map (·.arg)=e->Wu h a b d e
theorem SP{h:Heap}{a:FuncBody}(e:TU h.get? b=some (true,a,c,m4)):Wu h b a c m4:=by
 delta TU at e;refine CK (h.get? b) (fun q=>?_) fun o q=>?_
 .rw[q]at e;cases e
 .rw[q]at e;dsimp only at e;cases d:o.data with
  |func i=>
   rw[d]at e;injection e with e;obtain⟨j,f⟩:=Prod.mk.inj e;obtain⟨f,g⟩:=Prod.mk.inj f;obtain⟨g,k⟩:=Prod.mk.inj g;exact⟨o,i,q,d,j,f,g,k⟩
  |_=>rw[d]at e;cases e
inductive VB(h:Heap)(a:FuncData):Prop
 |mk:a.closure=[]->a.scope.kind=.function->a.scope.isCoroutine=false->a.scope.isGenerator=false->a.globals=mainGlobals->a.builtins=builtinsNs->a.params.posonlyargs=[]->a.params.kwonlyargs=[]->a.params.vararg=none->a.params.kwarg=none->a.defaults=.none->N1 h.get? a.code a.qualname=true->VB h a
theorem Tn{h:Heap}{o:Obj}{fd:FuncData}(e:YR h.get? o fd=true):VB h fd:=by
 delta YR at e;obtain⟨e,b12⟩:=Aa e;obtain⟨e,b11⟩:=Aa e;obtain⟨e,b10⟩:=Aa e;obtain⟨e,b9⟩:=Aa e;obtain⟨e,b8⟩:=Aa e;obtain⟨e,b7⟩:=Aa e;obtain⟨e,b6⟩:=Aa e;obtain⟨e,b5⟩:=Aa e;obtain⟨e,b4⟩:=Aa e;obtain⟨e,b3⟩:=Aa e;obtain⟨b1,b2⟩:=Aa e;have hdf:fd.defaults=.none:=by
  cases q3:fd.defaults<;>first |rfl |(rw[q3]at b11;cases b11)
 exact⟨List.isEmpty_iff.mp b1,eq_of_beq b2,Bool.not_eq_true' _▸b3,Bool.not_eq_true' _▸b4,Nat.eq_of_beq_eq_true b5,Nat.eq_of_beq_eq_true b6,List.isEmpty_iff.mp b7,List.isEmpty_iff.mp b8,Option.isNone_iff_eq_none.mp b9,Option.isNone_iff_eq_none.mp b10,hdf,b12⟩
inductive X3(h:Heap)(code:Value)(a:Str):Prop
 |mk (c:Addr) (o:Obj) (b:Array Value) (t:Tok):code=.ref c->h.get? c=some o->o.data=.fields b->b[1]? =some (.str a t)->X3 h code a
theorem TZ{f:Addr->Bool}(e:(match x with |.ref c=>f c |_=>false)=true):∃c,x=.ref c/\f c=true:=by
 cases x<;>first |exact⟨_,rfl,e⟩ |exact absurd e AN
theorem NC{d:Data}{f:Array Value->Bool}(e:(match d with |.fields a=>f a |_=>false)=true):∃a,d=.fields a/\f a=true:=by
 cases d<;>first |exact⟨_,rfl,e⟩ |exact absurd e AN
theorem Ui{d:Option Obj}{f:Obj->Bool}(e:(match d with |some o=>f o |none=>false)=true):∃o,d=some o/\f o=true:=by
 cases d<;>first |exact⟨_,rfl,e⟩ |exact absurd e AN
theorem Q3(e:(match c7 with |some (Value.str q _)=>q==y |_=>false)=true):∃t,c7=some (.str y t):=by
 cases c7 with
 |none=>exact absurd e AN
 |some v=>cases v<;>first |exact⟨_,by rw[eq_of_beq e]⟩ |exact absurd e AN
theorem QQ{h:Heap}(e:N1 h.get? x y=true):X3 h x y:=by
 delta N1 at e;obtain⟨c,rfl,e⟩:=TZ e;obtain⟨o,a,e⟩:=Ui e;obtain⟨b,d,e⟩:=NC e;obtain⟨t,f⟩:=Q3 e;exact⟨c,o,b,t,rfl,a,d,f⟩
theorem W0(k:∀b o,h₀.get? b=some o->h.get? b=some o)(p:n<64)(e:TU h₀.get? (Ln (Rb n))=W3 n):WO (YD w h₀ h mb fz) (Rb n) (FC (Bt n)) (Bg (Bt n)) (Cn (Bt n)):=by
 obtain⟨o,r,q,g,s,u,v,x⟩:=SP e;obtain⟨y,b2,A,B,C,D,E,F,G,a,d,f⟩:=Tn s;obtain⟨c,H,I,t,J,K,i,L⟩:=QQ f;have nd:(FC (Bt n)).Nodup:=by
  have h:=List.all_eq_true.mp VA n (List.mem_range.mpr p);unfold WH N4 at h;simp only[and_eq_true,decide_eq_true_eq]at h;exact h.2.1.1.2
 refine⟨o,r,DR.mpr ⟨k _ _ q,Js fun M m z=>by rw[g]at z;cases z⟩,g,⟨c,H,I,t,J,DR.mpr ⟨k _ _ K,Js fun M m z=>by rw[i]at z;cases z⟩,i,L⟩,u,y,v,b2,A,B,C,D,fun j l=>?_⟩;rw[<- x]at nd l⊢;exact NH E F G a d nd l
theorem VH(e:VF h₀=M6)(k:∀b o,h₀.get? b=some o->h.get? b=some o)(hn:h.NoLimit)(hb:h.Ns builtinsNs mb)(hbi:∀x:Str,x≠ "__name__" ->mb x=bootBuiltins x):BN (YD w h₀ h mb fz):=by
 obtain⟨e1,e⟩:=Prod.mk.inj e;obtain⟨e2,e⟩:=Prod.mk.inj e;obtain⟨e3,e⟩:=Prod.mk.inj e;obtain⟨e4,e⟩:=Prod.mk.inj e;obtain⟨e5,e⟩:=Prod.mk.inj e;obtain⟨e6,e7⟩:=Prod.mk.inj e;obtain⟨p1,p2,⟨ol,p3,p3'⟩,p4,p5,p6⟩:=Hc e1;have cls:∀c,Cf c=true->XY (Kf h₀) c=XL c:=fun c hc=>by
  obtain⟨p,hp,rfl⟩:=OW hc;exact Hp e4 p hp
 have met:∀c x p,Fl c x=some p->(findIn (Kf h₀) (.ref (FK c)) x=some (some (.ref (Ln p)))/\typeIn (Kf h₀) (.ref (Ln p))=some (.type "function"))/\keepIn (Kf h₀) (.ref (Ln p))=true:=fun c x p hm=>by
  obtain⟨q,hq,rfl,rfl,rfl⟩:=Ov hm;have:=Prod.mk.inj (Hp e6 q hq);exact⟨this,p6 q hq⟩
 refine⟨⟨⟨fun a o hk=>?_,?_,KY ((Heap.Ns.of_isNs p1).keeps k),KY hb,hbi,ol,DR.mpr ⟨k _ _ p3,p3'⟩⟩,fun c hc=>?_,fun x v hv=>?_,fun x p hv=>?_,fun c hc=>?_,fun c x p hm=>(met c x p hm).2⟩,fun n hn=>W0 k hn (Hp e3 n (List.mem_range.mpr hn))⟩
 .obtain⟨h1,h2⟩:=Uu hk;exact DR.mpr ⟨k _ _ h1,p2 _ h2⟩
 .obtain⟨mc,x,y⟩:=hn;exact⟨mc,KY x,y⟩
 .obtain⟨c1,c2⟩:=Prod.mk.inj (cls c hc);obtain⟨c2,c3⟩:=Prod.mk.inj c2;obtain⟨c4,c5⟩:=Prod.mk.inj c1;obtain⟨c5,c6⟩:=Prod.mk.inj c5;obtain⟨d1,d2⟩:=List.cons.inj c2;obtain⟨d2,d3⟩:=List.cons.inj d2;obtain⟨d3,d4⟩:=List.cons.inj d3;obtain⟨d4,_⟩:=List.cons.inj d4;refine⟨c4,d1,c3,d2,d3,d4,c5,c6,fun x hx=>?_,fun x p hm=>(met c x p hm).1⟩;obtain⟨p,hp,rfl,f,hf,rfl⟩:=Tc hx;exact TG (f:=fun p:String×List String=>p.2) (g:=fun(p:String×List String) (x:String)=>findIn (Kf h₀) (.ref (FK p.1)) (ofString x)) (g':=fun zz zz=>some none) e5 p hp f hf
 .obtain⟨p,hp,rfl,rfl⟩:=It hv;have hg:=Hp e2 p hp;cases q:p.2 with
  |fn f=>rw[q]at hg;exact hg
  |cls c=>
   rw[q]at hg;have:=List.all_eq_true.mp P5 p hp;rw[q]at this;exact⟨hg,this⟩
  |bi b=>
   rw[q]at hg;have:=List.all_eq_true.mp Qx p hp;rw[q]at this;exact⟨hg,eq_of_beq this⟩
  |val v=>
   rw[q]at hg;have hvn:=QJ p hp;rw[q]at hvn;cases hvn with
   |i1=>exact⟨_,hg,fun G zz=>.int _ _⟩
   |i2=>exact⟨_,hg,fun G zz=>.int _ _⟩
   |t=>
    refine⟨_,hg,fun G hgt=>.tup (hgt 315 [.str (ofString "all") 584,.str (ofString "exists") 585,.str (ofString "comp") 586,.str (ofString "sum") 587] ?_) (.cons (.str _ _) (.cons (.str _ _) (.cons (.str _ _) (.cons (.str _ _) .nil))))⟩;show(match Pn h₀ with |some p=>some p.2.toList |none=>none)=_
    rw[e7];rfl
 .obtain⟨q,hq,rfl,hf⟩:=It hv;exact p4 q hq p hf
 .obtain⟨q,hq,rfl⟩:=OW hc;exact p5 q hq
end
abbrev BS:=List (Option (List Int))
def tv(T:List Bool)(g:Int):Bool:=T.getD g.natAbs false==decide (0<g)
def ev(a:Nat->Bool)(T:List Bool):Option (List Int)->Bool
 |none=>a T.length
 |some b=>b.all (tv T)
def Ij(a:Nat->Bool)(C:BS):List Bool:=C.foldl (fun T g=>T++[ev a T g]) [false,true]
def BL(C:BS)(a:Nat->Bool)(g:Int):Bool:=tv (Ij a C) g
structure BV(C:BS)(g:Int):Prop where
 nz:g≠0
 lt:g.natAbs<C.length+2
def WF(C:BS):Prop:=∀(i:Nat)(a:List Int),C[i]? =some (some a)->∀q∈a,q≠0/\q.natAbs<i+2
section
variable {ρ:Nat->Bool} {C D C' C'':BS} {g:Int}
theorem HP(g:Option (List Int)):Ij ρ (C++[g])=Ij ρ C++[ev ρ (Ij ρ C) g]:=by unfold Ij;rw[List.foldl_append];rfl
theorem J4:∀D,∃E,Ij ρ (C++D)=Ij ρ C++E/\E.length=D.length:=by
 intro D;induction D generalizing C with
 |nil=>exact⟨[],by simp,rfl⟩
 |cons g D a=>
  obtain⟨E,h,b⟩:=a (C:=C++[g]);rw[append_assoc,HP]at h;exact⟨ev ρ (Ij ρ C) g::E,by rw[List.singleton_append]at h;rw[h];simp,by simp[b]⟩
theorem Er:(Ij ρ C).length=C.length+2:=by
 obtain⟨E,h,a⟩:=J4 (ρ:=ρ) (C:=[]) C;rw[nil_append]at h;rw[h,AI,a];exact Nat.add_comm _ _
theorem BV.ext(x:BV C g)(h:C <+: C'):BV C' g:=⟨x.nz,AK x.lt (AP h.length_le 2)⟩
theorem BV.neg(x:BV C g):BV C (-g):=⟨fun e=>x.nz (Int.neg_eq_zero.mp e),by rw[Int.natAbs_neg];exact x.lt⟩
theorem BV.one:BV C 1:=⟨by decide,AK (by decide:1<2) (le_add_left 2 _)⟩
theorem BV.mone:BV C (-1):=⟨by decide,AK (by decide:1<2) (le_add_left 2 _)⟩
theorem TJ{E:List Bool}(h:g.natAbs<T.length):tv (T++E) g=tv T g:=by
 unfold tv;rw[getD_eq_getElem?_getD,getD_eq_getElem?_getD,getElem?_append_left h]
theorem Av(x:BV C g)(h:C <+: C'):BL C' ρ g=BL C ρ g:=by
 obtain⟨D,rfl⟩:=h;obtain⟨E,h,_⟩:=J4 (ρ:=ρ) (C:=C) D;unfold BL;rw[h,TJ (by rw[Er];exact x.lt)]
theorem WA(h:g≠0):tv T (-g)= !tv T g:=by
 unfold tv;rw[Int.natAbs_neg];have:decide (0 < -g)= !decide (0<g):=by
  by_cases q:0<g
  .rw[decide_eq_true q,decide_eq_false (Int.not_lt.mpr (Int.neg_nonpos_of_nonneg (Int.le_of_lt q)))];rfl
  .rw[decide_eq_false q,decide_eq_true (by omega)];rfl
 rw[this];cases T.getD g.natAbs false<;>cases decide (0<g)<;>rfl
theorem B6(x:BV C g):BL C ρ (-g)= !BL C ρ g:=WA x.nz
theorem Tr:∃E,Ij ρ C=false::true::E:=by
 obtain⟨E,h,_⟩:=J4 (ρ:=ρ) (C:=[]) C;exact⟨E,h⟩
theorem Db:BL C ρ 1=true:=by
 obtain⟨E,h⟩:=Tr (ρ:=ρ) (C:=C);unfold BL tv;rw[h];rfl
theorem Co:BL C ρ (-1)=false:=by rw[B6 .one,Db];rfl
theorem OK:BL (C++[i7]) ρ ((C.length:Int)+2)=ev ρ (Ij ρ C) i7:=by
 unfold BL tv;rw[HP];have e:((C.length:Int)+2).natAbs=(Ij ρ C).length:=by rw[Er];rfl
 rw[e,getD_eq_getElem?_getD,getElem?_append_right (AM _),Nat.sub_self,decide_eq_true (Int.add_pos_of_nonneg_of_pos (Ai _) (by decide))];simp
theorem JN{c:Type}{p q:c->Bool}{l:List c}(h:∀a∈l,p a=q a):l.all p=l.all q:=by
 induction l with
 |nil=>rfl
 |cons a r d=>rw[all_cons,all_cons,h a (.head _),d fun b e=>h b (.tail _ e)]
theorem Rp(w:WF C)(h:C[n]? =some (some t)):BL C ρ ((n:Int)+2)=t.all (BL C ρ):=by
 have b:=(AE h).1;have e:C=C.take n++some t::C.drop (n+1):=by
  rw[<- (AE h).2,<- drop_eq_getElem_cons b,List.take_append_drop]
 have a:(C.take n).length=n:=(length_take ..).trans (Nat.min_eq_left (AR b));rw[Av (⟨Int.ne_of_gt (Int.add_pos_of_nonneg_of_pos (Ai _) (by decide)),by rw[AI,a];simp;omega⟩:BV (C.take n++[some t]) ((n:Int)+2)) ⟨C.drop (n+1),(append_assoc ..).trans e.symm⟩,show((n:Int)+2)=((C.take n).length:Int)+2 by rw[a],OK];refine JN fun q c=>?_;obtain⟨d,f⟩:=w n t h q c;exact(Av ⟨d,by rw[a];exact f⟩ (List.take_prefix n C)).symm
theorem WF.snoc(w:WF C)(h:∀a,i7=some a->∀q∈a,BV C q):WF (C++[i7]):=by
 intro i a b q d;by_cases c:i<C.length
 .rw[getElem?_append_left c]at b;exact w i a b q d
 .have:i=C.length:=by
   have:=(AE b).1;rw[AI,AX]at this;exact Nat.eq_of_le_of_lt_succ (le_of_not_lt c) this
  subst this;rw[getElem?_append_right (AM _),Nat.sub_self]at b;have:=h a (by simpa using b) q d;exact⟨this.nz,this.lt⟩
end
abbrev sS(s:String):V:=.str (ofString s)
abbrev Am(l:List Int):V:=.tup (l.map V.int)
def CO(C:BS):List V:=sS "" ::sS "true" ::C.map fun g=>match g with |none=>sS "input" |some _=>sS "and"
def Cv(C:BS):List V:=.tup []::.tup []::C.map fun g=>match g with |none=>.tup [] |some a=>Am a
structure CL where
 c:Nat
 k:Nat
 p:Nat
 d:Nat
 n:Nat
structure BC(W:Nat->Prop)(H:Aj)(L:CL)(C:BS)(B:Nat):Prop where
 kl:H[L.k]? =some (.list (CO C))
 pl:H[L.p]? =some (.list (Cv C))
 dl:∃kn,H[L.d]? =some (.dict kn)/\kn.length<=C.length/\∀key v,(key,v)∈kn->∃(ps:List Int) (i:Nat),key=Am ps/\v=.int ((i:Int)+2)/\C[i]? =some (some ps)
 cl:H[L.c]? =some (.inst "Circuit" [(ofString "kinds",.loc L.k),(ofString "parts_now",.loc L.p),(ofString "known",.loc L.d)])
 wc:¬W L.c
 wk:W L.k
 wp:W L.p
 wd:W L.d
 kp:L.k≠L.p
 wf:WF C
 wl:∀n,W n->n<H.length
 bud:C.length+B+16<=900000
 ip:∀i:Nat,C[i]? =some none->i<L.n
 sh:∀(i:Nat)(ps:List Int),C[i]? =some (some ps)->ps.length<=60
section
variable {W:Nat->Prop} {H H':Aj} {L:CL} {C:BS} {B B':Nat}
theorem BC.small(x:BC W H L C B):C.length+8<Ar:=by have:=x.bud;unfold Ar;exact AH (Ad (AU _ _) (by decide)) (AH this (by decide))
theorem BC.new(x:BC W H L C B):¬W H.length:=fun w=>Nat.lt_irrefl _ (x.wl _ w)
theorem BC.le(x:BC W H L C B)(h:B'<=B):BC W H L C B':={ x with bud:=AF (AP (AO h _) _) x.bud }
theorem BC.keep(x:BC W H L C B)(d:H.length<=H'.length)(f:∀n o,W n\/n=L.c->H[n]? =some o->H'[n]? =some o):BC W H' L C B:=
 ⟨f _ _ (.inl x.wk) x.kl,f _ _ (.inl x.wp) x.pl,by obtain⟨e,a,b⟩:=x.dl;exact⟨e,f _ _ (.inl x.wd) a,b⟩,f _ _ (.inr rfl) x.cl,x.wc,x.wk,x.wp,x.wd,x.kp,x.wf,fun n w=>AK (x.wl n w) d,x.bud,x.ip,x.sh⟩
theorem BC.fr(x:BC W H L C B)(f:Fr (fun a=>False) H H'):BC W H' L C B:=x.keep f.len fun a a a h=>f.old h id
theorem BC.set{o:HO}(x:BC W H L C B)(a:¬W n)(b:n≠L.c):BC W (H.set n o) L C B:=
 x.keep (by rw[length_set];exact AM _) fun m f d h=>Aq h fun e=>d.elim (fun w=>a (e▸w)) (fun q=>b (e▸q))
end
structure Dq(W:Nat->Prop)(L:CL)(H:Aj)(C:BS)(B:Nat)(H':Aj)(C':BS):Prop where
 fr:Fr W H H'
 at_:BC W H' L C' B
 ext:C <+: C'
section
variable {W:Nat->Prop} {H H' H'':Aj} {L:CL} {C C' C'':BS} {B B':Nat}
theorem Dq.trans(a:Dq W L H C B H' C')(b:Dq W L H' C' B' H'' C''):Dq W L H C B' H'' C'':=⟨a.fr.trans b.fr,b.at_,a.ext.trans b.ext⟩
theorem Dq.le(a:Dq W L H C B H' C')(h:B'<=B):Dq W L H C B' H' C':=⟨a.fr,a.at_.le h,a.ext⟩
theorem Dq.of(x:BC W H' L C B)(f:Fr W H H'):Dq W L H C B H' C:=⟨f,x,prefix_refl _⟩
theorem Dq.self(x:BC W H L C B)(f:Fr (fun a=>False) H H'):Dq W L H C B H' C:=⟨f.pure,x.fr f,prefix_refl _⟩
end
local macro_rules (kind := PySem.W.tacticW_left) | _s => return wl
local macro_rules (kind := PySem.W.tacticW_dflts_) | s => return wd s
section
variable {W:Nat->Prop} {H:Aj} {L:CL} {C:BS} {B:Nat} {Φ:V->Aj->Prop}
theorem Ew:(CO C).length=C.length+2:=by unfold CO;simp
theorem QT:(Cv C).length=C.length+2:=by unfold Cv;simp
theorem Of(F:BN X)(x:BC W H L C B)(a:Φ (.int ((C.length:Int)+1)) H):Ap X 1 "Circuit.size" [.loc L.c] H Φ:=by
 refine Ao F 31 rfl ?_;w_dflts x.cl;w_dflts x.kl;refine⟨?_,?_⟩
 .have:=x.small;rw[Ew];unfold Ar at this;omega
 .have e:((CO C).length:Int)-1=(C.length:Int)+1:=by rw[Ew];exact Int.sub_eq_iff_eq_add.mpr rfl
  rw[<- e]at a;exact a
theorem QM(F:BN X)(x:BC W H L C B)(a:i.natAbs<2 ^ 60)(b:(CO C)[i.natAbs]? =some v)(d:Φ v H):Ap X 1 "Circuit.kind" [.loc L.c,.int i] H Φ:=by
 refine Ao F 32 rfl ?_;w_dflts x.cl;w_dflts x.kl;exact⟨_,v,rfl,Ai _,Int.lt_of_lt_of_le (Int.ofNat_lt.mpr a) (by decide),by simpa using b,d⟩
theorem Mg(F:BN X)(x:BC W H L C B)(a:i.natAbs<2 ^ 60)(b:(Cv C)[i.natAbs]? =some v)(d:Φ v H):Ap X 1 "Circuit.parts" [.loc L.c,.int i] H Φ:=by
 refine Ao F 33 rfl ?_;w_dflts x.cl;w_dflts x.pl;exact⟨_,v,rfl,Ai _,Int.lt_of_lt_of_le (Int.ofNat_lt.mpr a) (by decide),by simpa using b,d⟩
def kindOf:Option (List Int)->V
 |none=>sS "input"
 |some _=>sS "and"
def F6:Option (List Int)->V
 |none=>.tup []
 |some a=>Am a
theorem NP(o:Option (List Int)):CO (C++[o])=CO C++[kindOf o]:=by unfold CO;cases o<;>simp[kindOf]
theorem Mf(o:Option (List Int)):Cv (C++[o])=Cv C++[F6 o]:=by unfold Cv;cases o<;>simp[F6]
theorem E8(F:BN X){o:Option (List Int)}(x:BC W H L C (B+1))(D:∀b,o=some b->∀q∈b,BV C q)(E:o=none->C.length<L.n)(G:∀b,o=some b->b.length<=60)
  (I:∀m,Dq W L H C B m (C++[o])->m[L.d]? =H[L.d]?->Φ (.int ((C.length:Int)+2)) m):Ap X 1 "Circuit.new_gate" [.loc L.c,kindOf o,F6 o] H Φ:=by
 refine Ao F 34 rfl ?_;have Q:=x.small;have f:(CO C).length<Ar:=by rw[Ew];omega
 have r:(Cv C).length<Ar:=by rw[QT];omega
 w_dflts x.cl;refine objA_i x.kl ?_;refine Bf x.kl f ?_;have u:=Aq (n:=L.k) (o':=.list (CO C++[kindOf o])) x.cl (Ne.symm (fun e=>x.wc (e▸x.wk)));w_dflts u;have s:=Aq (n:=L.k) (o':=.list (CO C++[kindOf o])) x.pl (Ne.symm x.kp);refine objA_i s ?_;refine Bf s r ?_;have y:=Aq (n:=L.p) (o':=.list (Cv C++[F6 o])) (BE (o':=.list (CO C++[kindOf o])) x.kl) x.kp;have z:=Aq (n:=L.p) (o':=.list (Cv C++[F6 o])) u (fun e=>x.wc (e▸x.wp));w_dflts z;w_dflts y;refine⟨by rw[AI];unfold Ar at f;simp;omega,?_⟩;obtain⟨J,g,K,M⟩:=x.dl;have h:L.d≠L.k:=fun e=>by rw[e,x.kl]at g;cases g
 have j:L.d≠L.p:=fun e=>by rw[e,x.pl]at g;cases g
 have q:=I ((H.set L.k (.list (CO C++[kindOf o]))).set L.p (.list (Cv C++[F6 o]))) ⟨(Fr.refl.set (.inr x.wk) _).set (.inr x.wp) _,⟨by rw[NP];exact y,by rw[Mf];exact BE s,
  ⟨J,Aq (Aq g h) j,by rw[AI];exact le_add_right_of_le K,fun t v N=>by obtain⟨b,i,O,P,A⟩:=M t v N;exact⟨b,i,O,P,(getElem?_append_left (AE A).1).trans A⟩⟩,
  z,x.wc,x.wk,x.wp,x.wd,x.kp,x.wf.snoc D,fun n w=>by rw[length_set,length_set];exact x.wl n w,by have:=x.bud;rw[AI,AX];exact Zz this,fun i a=>by
   by_cases q:i<C.length
   .rw[getElem?_append_left q]at a;exact x.ip i a
   .rw[getElem?_append_right (le_of_not_lt q)]at a;have l:i-C.length=0:=by
     have:=(AE a).1;rw[AX]at this;exact le_antisymm (le_of_lt_succ this) (zero_le _)
    rw[l]at a;have:=E (Option.some.inj a);exact AH (le_of_sub_eq_zero l) this,fun i b a=>by
   by_cases q:i<C.length
   .rw[getElem?_append_left q]at a;exact x.sh i b a
   .rw[getElem?_append_right (le_of_not_lt q)]at a;have l:i-C.length=0:=by
     have:=(AE a).1;rw[AX]at this;exact le_antisymm (le_of_lt_succ this) (zero_le _)
    rw[l]at a;exact G b (Option.some.inj a)⟩,List.prefix_append _ _⟩
  (by rw[getElem?_set_ne (Ne.symm j),getElem?_set_ne (Ne.symm h)])
 have e:((CO C++[kindOf o]).length:Int)-1=(C.length:Int)+2:=by have:=Ew (C:=C);simp only[AI,AX];omega
 rw[<- e]at q;exact q
theorem H0(F:BN X)(x:BC W H L C (B+1))(d:C.length<L.n)(f:∀a,Dq W L H C B a (C++[none])->Φ (.int ((C.length:Int)+2)) a):Ap X 3 "Circuit.new_input" [.loc L.c] H Φ:=by
 refine Ao F 35 rfl ?_;refine tg_i (CC (x:=ofString "new_gate") (p:= "Circuit.new_gate") x.cl rfl rfl rfl) fun b=>?_;exact An (by decide) (E8 F (o:=none) x (fun g e=>by cases e) (fun b=>d) (fun g e=>by cases e) fun a h b=>f a h)
end
def CW(k:Nat)(a:List (Option V)):BA:=((Cn (Bt k)).filterMap fun p=>match p.2 with |.local |.cell=>some p.1 |_=>none).zip a
def Ze(a b:Option V):BA:=CW 1 [a,b]
def YW(a b c:Option V):BA:=CW 3 [a,b,c]
def Z2(a b c d e f g h i:Option V):BA:=CW 4 [a,b,c,d,e,f,g,h,i]
def Zw(a b c d:Option V):BA:=CW 7 [a,b,c,d]
def Wg(a b c d e f g:Option V):BA:=CW 16 [a,b,c,d,e,f,g]
def XE(a b c d e f g:Option V):BA:=CW 20 [a,b,c,d,e,f,g]
def Y4(a b c d e f g h i j:Option V):BA:=CW 22 [a,b,c,d,e,f,g,h,i,j]
def WU(e f g h i j k l m n a b c d:Option V):BA:=CW 24 [e,f,g,h,i,j,k,l,m,n,a,b,c,d]
def Ya(c d e f g h i j k l a b:Option V):BA:=CW 29 [c,d,e,f,g,h,i,j,k,l,a,b]
def ZA(a b c d e:Option V):BA:=CW 36 [a,b,c,d,e]
def Y8(a b c:Option V):BA:=CW 46 [a,b,c]
def Vj(a b c d e f g:Option V):BA:=CW 50 [a,b,c,d,e,f,g]
def Xq(a b c d e f g h:Option V):BA:=CW 55 [a,b,c,d,e,f,g,h]
def Vp(a b c d e f:Option V):BA:=CW 56 [a,b,c,d,e,f]
def Y1(a b c d e f g h:Option V):BA:=CW 58 [a,b,c,d,e,f,g,h]
def Yp(a b c d e f:Option V):BA:=CW 60 [a,b,c,d,e,f]
def Yc(a b c d:Option V):BA:=CW 61 [a,b,c,d]
def XS(a b c d e f:Option V):BA:=CW 62 [a,b,c,d,e,f]
def CF(m n o p q r s t u v a b c d e f g h i j k l:Option V):BA:=CW 63 [m,n,o,p,q,r,s,t,u,v,a,b,c,d,e,f,g,h,i,j,k,l]
theorem BU{b:Type}{l a post:List b}{x:b}(e:l=a++x::post):a.length<l.length:=by rw[e,AI];exact lt_add_of_pos_right (succ_pos _)
theorem B1(a:List V->BA->Aj->Prop)
  (step:∀x r b H (e:BA->Aj->Prop),a (x::r) b H->(∀c d,K d->a r c d->e c d)->w5 x b H e) (fin:∀b H,a [] b H->I b H) :
  ∀l b H,a l b H->GJ w5 K l b H I:=by
 intro f;induction f with
 |nil=>
  intro b H h;exact fin b H h
 |cons x r j=>
  intro b H h;exact step x r b H _ h fun c d g i=>⟨g,j c d i⟩
theorem Dy(I:List V->HO->Aj->Prop)
  (step:∀x r a H (d:HO->Aj->Prop),I (x::r) a H->(∀c b,K b->I r c b->d c b)->w x a H d) (fin:∀a H,I [] a H->N a H) :
  ∀l a H,I l a H->CU w K l a H N:=by
 intro e;induction e with
 |nil=>
  intro a H h;exact fin a H h
 |cons x r f=>
  intro a H h;exact step x r a H _ h fun c b g i=>⟨g,f c b i⟩
theorem Bp{l:Type}{f:l->V}{xs:List l}(c:List l->List l->BA->Aj->Prop)
  (step:∀b a post d H (m:BA->Aj->Prop),xs=b++a::post->c b (a::post) d H->(∀j k,K k->c (b++[a]) post j k->m j k)->w5 (f a) d H m) (fin:∀d H,c xs [] d H->I d H)
  (d:BA) (H:Aj) (h:c [] xs d H):GJ w5 K (xs.map f) d H I:=by
 have go:∀post b d H,xs=b++post->c b post d H->GJ w5 K (post.map f) d H I:=fun post=>by
  induction post with
  |nil=>exact fun b d H e i=>fin d H (by rw[e,Ah];exact i)
  |cons a post n=>exact fun b d H e i=>step b a post d H _ e i fun j k g o=>⟨g,n (b++[a]) j k (by rw[e,append_assoc];rfl) o⟩
 exact go xs [] d H rfl h
theorem BF{k:Type}{f:k->V}{xs:List k}(I:List k->List k->HO->Aj->Prop)
  (step:∀b a post c H (l:HO->Aj->Prop),xs=b++a::post->I b (a::post) c H->(∀d j,K j->I (b++[a]) post d j->l d j)->w (f a) c H l) (fin:∀c H,I xs [] c H->N c H)
  (c:HO) (H:Aj) (h:I [] xs c H):CU w K (xs.map f) c H N:=by
 have go:∀post b c H,xs=b++post->I b post c H->CU w K (post.map f) c H N:=fun post=>by
  induction post with
  |nil=>exact fun b c H e i=>fin c H (by rw[e,Ah];exact i)
  |cons a post m=>exact fun b c H e i=>step b a post c H _ e i fun d j g n=>⟨g,m (b++[a]) d j (by rw[e,append_assoc];rfl) n⟩
 exact go xs [] c H rfl h
def Zr(W:Nat->Prop)(H:Aj)(a:V)(l:List V):Prop:=a=.tup l\/EC fun n=>DD (a=.loc n) (H[n]? =some (.list l)) (¬W n)
theorem Ay{H₀:Aj}(h:Zr W H₀ v l)(f:Fr W H₀ H)(b:∀guard:Aj->Prop,(∀a,Fr W H₀ a->guard a)->r l guard H):Cd v H r:=by
 rcases h with rfl |⟨n,rfl,h,c⟩
 .unfold Cd;exact b _ fun d d=>trivial
 .unfold Cd;simp only[f.old h c];exact b _ fun a f=>f.old h c
section
variable {W:Nat->Prop} {H:Aj} {L:CL} {C:BS} {B:Nat} {Φ:V->Aj->Prop}
theorem Pf:(BI (t.map fun i=>(V.int i,V.bool true)) (.int i)).isSome=t.contains i:=by
 induction t with
 |nil=>rfl
 |cons a r b=>
  unfold BI at b⊢;rw[AW,find?_cons,List.contains_cons];have:BY (.int a) (.int i)=(i==a):=(show BY (.int a) (.int i)=(a==i)from rfl).trans Bool.beq_comm;rw[this];cases i==a with
  |true=>rfl
  |false=>exact b
theorem QW(h:i∉t):BK (t.map fun i=>(V.int i,V.bool true)) (.int i) (.bool true)=(t++[i]).map fun i=>(V.int i,V.bool true):=by
 induction t with
 |nil=>rfl
 |cons a r b=>
  rw[AW,Ch,if_neg,b fun q=>h (.tail _ q)]
  .rfl
  .intro q;have:=(BB _ _).mp q;cases this;exact h (.head _)
theorem NZ(h:i∈t):BK (t.map fun i=>(V.int i,V.bool true)) (.int i) (.bool true)=t.map fun i=>(V.int i,V.bool true):=by
 induction t with
 |nil=>cases h
 |cons a r b=>
  rw[AW,Ch];by_cases e:a=i
  .subst e;rw[if_pos ((BB _ _).mpr rfl)]
  .rw[if_neg (fun q=>e (by have:=(BB _ _).mp q;cases this<;>rfl)),b]
   rcases Ae h with rfl |h
   .exact absurd rfl e
   .exact h
theorem Op(h:l.Perm (t.map V.int)):∃c:List Int,l=c.map V.int/\c.Perm t:=by
 have d:∀l:List V,(∀v∈l,∃i:Int,v=.int i)->∃c:List Int,l=c.map V.int:=by
  intro l g;induction l with
  |nil=>exact⟨[],rfl⟩
  |cons v r f=>
   obtain⟨i,rfl⟩:=g v (.head _);obtain⟨c,rfl⟩:=f fun u j=>g u (.tail _ j);exact⟨i::c,rfl⟩
 obtain⟨c,rfl⟩:=d l fun v k=>by
  obtain⟨i,_,rfl⟩:=AS (h.mem_iff.mp k);exact⟨i,rfl⟩
 refine⟨c,rfl,?_⟩;have e:∀b:List Int,(b.map V.int).filterMap (fun v=>match v with |.int i=>some i |_=>none)=b:=fun b=>by
  induction b with
  |nil=>rfl
  |cons a r f=>rw[AW,filterMap_cons];simp only[f]
 have:=h.filterMap (fun v=>match v with |.int i=>some i |_=>none)
 rwa[e,e]at this
theorem NF(h:t.Nodup):(t.map V.int).Nodup:=List.Pairwise.map _ (fun a b q e=>q (V.int.inj e)) h
theorem BH(l:List Int):Pd 8 (Am l):=.tup fun v a=>by obtain⟨i,_,rfl⟩:=AS a;exact .int _ _
theorem Rf{k:V}(h:BI m k=some v):(k,v)∈m:=by
 unfold BI at h;rw[map_eq_some_iff]at h;obtain⟨p,a,rfl⟩:=h;have:=List.mem_of_find?_eq_some a;rw[<- ((BB _ _).mp (List.find?_some (p:=fun p:V×V=>BY p.1 k) a))];exact this
set_option tactic.hygienic true in
theorem So{k:V}{p:V×V}(h:p∈BK m k v):p∈m\/p=(k,v):=by
 induction m with
 |nil=>rw[NI]at h;exact .inr (AJ h)
 |cons a r b=>
  rw[Ch]at h
  split at h
  .rename_i e;rw[(BB _ _).mp e]at h;rcases Ae h with rfl |h
   .exact .inr rfl
   .exact .inl (.tail _ h)
  .rcases Ae h with rfl |h
   .exact .inl (.head _)
   .exact(b h).imp (fun z=>.tail _ z) id
theorem Ei{l:List (V×V)}{k:V}:(BK l k v).length<=l.length+1:=by
 induction l with
 |nil=>exact AM _
 |cons a r b=>
  rw[Ch]
  split
  .exact le_succ _
  .rw[AQ,AQ];omega
set_option tactic.hygienic true in
theorem B0{k:V}:BI (BK m k v) k=some v:=by
 induction m with
 |nil=>
  unfold BI;rw[NI,find?_cons,(BB k k).mpr rfl];rfl
 |cons a r b=>
  rw[Ch]
  split
  .rename_i e;unfold BI;rw[find?_cons];simp only[e];rfl
  .rename_i e;unfold BI at b⊢;rw[find?_cons];simp only[Bool.not_eq_true]at e;simp only[e];exact b
def Lv(W:Nat->Prop)(L:CL)(H:Aj)(C:BS)(B:Nat)(f:(Nat->Bool)->Bool)(Φ:V->Aj->Prop):Prop:=∀b a g,Dq W L H C B b a->BV a g->(∀c,BL a c g=f c)->Φ (.int g) b
theorem CQ(F:BN X)(x:BC W H L C (B+1)){gs:List Int}(hi:Zr W H v (gs.map V.int))(hg:∀g∈gs,BV C g)(hl:gs.length<60)
  (φ:Lv W L H C B (fun f=>gs.all (BL C f)) Φ):Ap X 5 "Circuit.all_of" [.loc L.c,v] H Φ:=by
 refine Ao F 36 rfl ?_;have hc:=x.small;have I:∀{T:Aj},Fr (fun U=>False) H T->(∃g∈gs,∀f,gs.all (BL C f)=false)->Φ (.int (-1)) T:=fun fr ⟨_,_,h⟩=>φ _ C (-1) ((Dq.self x fr).le (le_succ _)) .mone fun f=>(Co ..).trans ((h f).symm);have b0:∀{g:Int},g∈gs-> -g∈gs->∀f,gs.all (BL C f)=false:=fun{g} h h' f=>by
  refine EY (BL C f g) (fun e=>?_) fun e=>?_
  .exact List.all_eq_false.mpr ⟨g,h,by rw[e];decide⟩
  .exact List.all_eq_false.mpr ⟨-g,h',by rw[B6 (hg g h),e];decide⟩
 refine Ay hi (Fr.new [.dict []]) fun guard Z=>?_;refine B1 (fun c0 f T=>Vn fun(u t post:List Int) (o:Option V)=>Xx (gs=t++post) (c0=post.map V.int) (f=ZA (some (.loc L.c)) (some v) (some (.loc H.length)) o none) (Fr (fun U=>False) H T) (T[H.length]? =some (.dict (u.map fun g=>(.int g,.bool true)))) (u.Nodup) ((∀g∈u,g∈t)) ((∀g∈t,g=1\/g∈u)) (u.length<=t.length)) ?_ ?_ _ _ _
  ⟨[],[],gs,none,rfl,rfl,rfl,Fr.new _,Ak,nodup_nil,(fun U h=>by cases h),(fun U h=>by cases h),AM _⟩
 .rintro D r f T k' ⟨u,t,post,o,J,e2,rfl,fr,hd,nd,h1,h2,h3⟩ hk;cases post with
  |nil=>cases e2
  |cons g post=>
  cases e2;have N:g∈gs:=by rw[J];simp
  w_left;cases hq:(g== -1)with
  |true=>exact I fr ⟨g,N,(fun{g} h e f=>List.all_eq_false.mpr ⟨g,h,by rw[e,Co];decide⟩:∀{g:Int},g∈gs->g= -1->∀f,gs.all (BL C f)=false) N (of_decide_eq_true hq)⟩
  |false=>
   w_dflts hd;refine⟨.int _ _,?_⟩;rw[Pf];refine Ce (u.contains (-g)) (fun d0=>?_) fun d0=>?_
   .have E:-g∈gs:=by rw[J];exact mem_append_left _ (h1 _ (by simpa using d0))
    exact I fr ⟨g,N,b0 N E⟩
   .w_left;cases i0:(g != 1)with
    |false=>
     exact hk _ _ (Z _ fr.pure) ⟨u,t++[g],post,some (.int g),by rw[J];simp,rfl,rfl,fr,hd,nd,fun a j=>mem_append_left _ (h1 a j),fun a j=>by
      rcases AY j with j |j
      .exact h2 a j
      .rw[AJ j];exact .inl (by simpa using i0),by rw[AI];exact AF h3 (AU _ _)⟩
    |true=>
     w_dflts hd;have O:u.length<60:=by rw[J,AI]at hl;exact AH (AF h3 (AU _ _)) hl
     refine⟨.int _ _,by rw[AG];exact AF O (by decide:60<=Ar),?_⟩;have P:=fr.set (.inl (AM _)) (n:=H.length);have f0:∀Q:List Int,(∀a∈u,a∈Q)->g∈Q->∀a∈t++[g],a=1\/a∈Q:=fun Q hs j0 a j=>by
      rcases AY j with j |j
      .exact(h2 a j).imp id (hs a)
      .rw[AJ j];exact .inr j0
     by_cases E:g∈u
     .rw[NZ E];exact hk _ _ (Z _ (P _).pure) ⟨u,t++[g],post,some (.int g),by rw[J];simp,rfl,rfl,P _,BE hd,nd,fun a j=>mem_append_left _ (h1 a j),f0 u (fun U z=>z) E,by rw[AI];exact AF h3 (AU _ _)⟩
     .rw[QW E];refine hk _ _ (Z _ (P _).pure) ⟨u++[g],t++[g],post,some (.int g),by rw[J];simp,rfl,rfl,P _,BE hd,?_,fun a j=>?_,f0 _ (fun U z=>mem_append_left _ z) (AZ _ (.head _)),by rw[AI,AI];exact AP h3 _⟩
      .exact List.nodup_append.mpr ⟨nd,by simp,fun a j b hb e=>E (by rw[AJ hb]at e;exact e▸j)⟩
      .rcases AY j with j |j
       .exact mem_append_left _ (h1 a j)
       .exact AZ _ j
 .rintro f T ⟨u,t,post,o,J,e2,rfl,fr,hd,nd,h1,h2,h3⟩;w_dflts hd;have O:u.length<60:=by rw[J,AI]at hl;exact AH (AF h3 (AU _ _)) hl
  have em:(u.map fun g=>(V.int g,V.bool true)).map (·.1)=u.map V.int:=by rw[List.map_map];rfl
  have g0:∀f,u.all (BL C f)=gs.all (BL C f):=fun f=>by
   cases post with
   |cons _ _=>cases e2
   |nil=>
    rw[Ah]at J;subst J;rw[Bool.eq_iff_iff,all_eq_true,all_eq_true];exact⟨fun h a j=>(h2 a j).elim (fun e=>by rw[e];exact Db) (h a),fun h a j=>h a (h1 a j)⟩
  refine⟨by rw[em,AG];exact O,by rw[em];exact NF nd,.inl ⟨u,em⟩,fun m hp U=>?_⟩;rw[em]at hp;obtain⟨s,rfl,pp⟩:=Op hp;have A:∀f,s.all (BL C f)=gs.all (BL C f):=fun f=>by rw[<- g0 f];exact pp.all_eq
  have h0:s.length<60:=by rw[pp.length_eq];exact O
  have a0:∀a∈s,BV C a:=fun a j=>(fun a j=>hg a (by rw[J];exact mem_append_left _ (h1 a j))) a (pp.mem_iff.mp j);have K:Fr (fun U=>False) H (T++[HO.list (s.map V.int)]):=fr.app _;refine objA_i Ak ?_;refine⟨by rw[AG];unfold Ar;exact AF (AR h0) (by decide),by rw[AG];omega,?_⟩;have M:=x.fr K;cases s with
  |nil=>exact⟨by simp,φ _ C 1 ((Dq.self x K).le (le_succ _)) .one fun f=>Db.trans (A f)⟩
  |cons a s=>
   cases s with
   |nil=>
    refine⟨by simp,φ _ C a ((Dq.self x K).le (le_succ _)) (a0 a (.head _)) fun f=>?_⟩;exact Eq.trans (by simp) (A f)
   |cons b s=>
    have R:=M.cl;w_dflts R;obtain⟨kn,S,d2,d3⟩:=M.dl;w_dflts S;refine⟨BH (a::b::s),?_⟩;refine MC (BI kn (Am (a::b::s))) (fun D hk=>?_) fun hk=>?_
    .w_dflts R;w_dflts S;obtain⟨qs,i,q1,q2,q3⟩:=d3 _ _ (Rf hk);refine⟨D,BH (a::b::s),hk,?_⟩;subst q2;have eq:qs=a::b::s:=by
      have:=V.tup.inj q1;exact((List.map_inj_right fun x y e=>V.int.inj e).mp this).symm
     subst eq;exact φ _ C _ ((Dq.self x K).le (le_succ _)) ⟨by omega,by have:=(AE q3).1;omega⟩ fun f=>(Rp x.wf q3).trans (A f)
    .refine tg_i (CC (x:=ofString "new_gate") (p:= "Circuit.new_gate") R rfl rfl rfl) fun U=>?_;refine An (by decide) (E8 F (o:=some (a::b::s)) M (fun qs e q hq=>by cases e;exact a0 q hq) (fun e=>by cases e) (fun qs e=>by cases e;exact AR h0) fun H4 G k0=>?_);refine objA_i G.at_.cl ?_;have d4:H4[L.d]? =some (.dict kn):=k0.trans S;w_dflts d4;refine⟨BH (a::b::s),by omega,?_⟩;have l0:L.c≠L.d:=fun e=>by rw[<- e,R]at S;cases S
     have m0:L.k≠L.d:=fun e=>by rw[<- e,M.kl]at S;cases S
     have n0:L.p≠L.d:=fun e=>by rw[<- e,M.pl]at S;cases S
     have c5:=Aq (n:=L.d) (o':=.dict (BK kn (V.tup ((a::b::s).map V.int)) (.int ((C.length:Int)+2)))) G.at_.cl l0;w_dflts c5;have d5:=BE (o':=.dict (BK kn (V.tup ((a::b::s).map V.int)) (.int ((C.length:Int)+2)))) d4;w_dflts d5;refine⟨_,BH (a::b::s),B0,?_⟩;have lt:C.length<(C++[some (a::b::s)]).length:=by simp
     have Y:(C++[some (a::b::s)])[C.length]? =some (some (a::b::s)):=by simp
     refine φ _ (C++[some (a::b::s)]) _ ⟨(K.pure.trans G.fr).set (.inr x.wd) _,⟨Aq G.at_.kl m0,Aq G.at_.pl n0,⟨_,d5,by have:=Ei (l:=kn) (k:=V.tup ((a::b::s).map V.int)) (v:=.int ((C.length:Int)+2));simp only[AI,AX];omega,fun o0 D E=>?_⟩,c5,x.wc,x.wk,x.wp,x.wd,x.kp,G.at_.wf,fun n w=>by rw[length_set];exact G.at_.wl n w,G.at_.bud,G.at_.ip,G.at_.sh⟩,G.ext⟩
      ⟨by omega,by omega⟩ fun f=>?_
     .rcases So E with E |E
      .obtain⟨qs,i,q1,q2,q3⟩:=d3 o0 D E;exact⟨qs,i,q1,q2,by rw[getElem?_append_left (AE q3).1];exact q3⟩
      .cases E;exact⟨a::b::s,C.length,rfl,rfl,Y⟩
     .refine(Rp G.at_.wf Y).trans (Eq.trans ?_ (A f));exact JN fun q hq=>Av (a0 q hq) (List.prefix_append _ _)
end
section
variable {W:Nat->Prop} {H:Aj} {L:CL} {C:BS} {B:Nat} {Φ:V->Aj->Prop} {a b c:Int}
theorem BC.tg(x:BC W H L C B){m p:String}(e:autoParam (List.lookup (ofString m) [(ofString "kinds",V.loc L.k),(ofString "parts_now",.loc L.p),(ofString "known",.loc L.d)]=none) rf)(f:autoParam (Fl "Circuit" (ofString m)=some p) rf) :
  Ga H L.c (ofString m) p:=CC x.cl rfl e f
theorem P7{b:Int}(e:BV C i)(f:BV C b):∀g∈[i,b],BV C g:=fun g d=>by
 rcases Ae d with rfl |d
 .exact e
 .rw[AJ d];exact f
theorem Dt{d:Type}{p q:d->Bool}{l:List d}(h:∀a∈l,p a=q a):l.any p=l.any q:=by
 induction l with
 |nil=>rfl
 |cons a r e=>rw[any_cons,any_cons,h a (.head _),e fun b f=>h b (.tail _ f)]
theorem D6(F:BN X)(x:BC W H L C (B+1))(e:BV C a)(f:BV C b)(i:Lv W L H C B (fun d=>BL C d a&&BL C d b) Φ):Ap X 7 "Circuit.both" [.loc L.c,.int a,.int b] H Φ:=by
 refine Ao F 38 rfl ?_;refine tg_i (x.tg (m:= "all_of") (p:= "Circuit.all_of")) fun l=>?_;refine An (by decide) (CQ F x (gs:=[a,b]) (.inl rfl) (P7 e f) (by simp) fun j k g s h q=>i j k g s h fun d=>(q d).trans ?_);simp
theorem GU(F:BN X)(x:BC W H L C (B+1))(e:BV C a)(f:BV C b)(i:Lv W L H C B (fun d=>BL C d a||BL C d b) Φ):Ap X 7 "Circuit.either" [.loc L.c,.int a,.int b] H Φ:=by
 refine Ao F 39 rfl ?_;refine tg_i (x.tg (m:= "all_of") (p:= "Circuit.all_of")) fun l=>?_;refine An (by decide) (CQ F x (gs:=[-a,-b]) (.inl rfl) (P7 e.neg f.neg) (by simp) fun j k g s h q=>i j k (-g) s h.neg fun d=>?_);rw[B6 h,q d];simp[B6 e,B6 f]
theorem C7(F:BN X)(x:BC W H L C (B+1))(f:BV C a)(e:BV C b)(i:Lv W L H C B (fun d=> !BL C d a||BL C d b) Φ):Ap X 7 "Circuit.implies" [.loc L.c,.int a,.int b] H Φ:=by
 refine Ao F 40 rfl ?_;refine tg_i (x.tg (m:= "all_of") (p:= "Circuit.all_of")) fun l=>?_;refine An (by decide) (CQ F x (gs:=[a,-b]) (.inl rfl) (P7 f e.neg) (by simp) fun j k g s h q=>i j k (-g) s h.neg fun d=>?_);rw[B6 h,q d];simp[B6 e]
theorem Rh(F:BN X)(x:BC W H L C (B+3))(f:BV C a)(i:BV C b)(l:Lv W L H C B (fun d=>BL C d a==BL C d b) Φ):Ap X 9 "Circuit.iff" [.loc L.c,.int a,.int b] H Φ:=by
 refine Ao F 41 rfl ?_;refine tg_i (x.tg (m:= "all_of") (p:= "Circuit.all_of")) fun j=>?_;refine tg_i (x.tg (m:= "implies") (p:= "Circuit.implies")) fun j=>?_;refine An (by decide) (C7 F x f i fun y z n e k o=>?_);refine tg_i (e.at_.tg (m:= "implies") (p:= "Circuit.implies")) fun j=>?_;refine An (by decide) (C7 F e.at_ (i.ext e.ext) (f.ext e.ext) fun A D r s2 s t=>?_);refine An (by decide) (CQ F s2.at_ (gs:=[n,r]) (.inl rfl) (P7 (k.ext s2.ext) s) (by simp) fun u v g w h q=>l u v g ((e.trans s2).trans w) h fun d=>(q d).trans ?_);simp only[all_cons,all_nil,Bool.and_true,Av k s2.ext,o d,t d,Av f e.ext,Av i e.ext];cases BL C d a<;>cases BL C d b<;>rfl
theorem GO(F:BN X)(x:BC W H L C (B+3))(e:BV C a)(f:BV C b)(i:Lv W L H C B (fun d=>BL C d a != BL C d b) Φ):Ap X 11 "Circuit.unlike" [.loc L.c,.int a,.int b] H Φ:=by
 refine Ao F 42 rfl ?_;refine tg_i (x.tg (m:= "iff") (p:= "Circuit.iff")) fun l=>?_;refine An (by decide) (Rh F x e f fun j k g s h q=>i j k (-g) s h.neg fun d=>?_);rw[B6 h,q d];rfl
theorem choose_spec(F:BN X)(x:BC W H L C (B+3))(e:BV C c)(i:BV C a)(j:BV C b)(n:Lv W L H C B (fun d=>if BL C d c=true then BL C d a else BL C d b) Φ):Ap X 9 "Circuit.choose" [.loc L.c,.int c,.int a,.int b] H Φ:=by
 refine Ao F 43 rfl ?_;refine tg_i (x.tg (m:= "all_of") (p:= "Circuit.all_of")) fun k=>?_;refine tg_i (x.tg (m:= "implies") (p:= "Circuit.implies")) fun k=>?_;refine An (by decide) (C7 F x e i fun z A o f l r=>?_);refine tg_i (f.at_.tg (m:= "implies") (p:= "Circuit.implies")) fun k=>?_;refine An (by decide) (C7 F f.at_ (e.ext f.ext).neg (j.ext f.ext) fun D E s s2 t u=>?_);refine An (by decide) (CQ F s2.at_ (gs:=[o,s]) (.inl rfl) (P7 (l.ext s2.ext) t) (by simp) fun v w g y h q=>n v w g ((f.trans s2).trans y) h fun d=>(q d).trans ?_);simp only[all_cons,all_nil,Bool.and_true,Av l s2.ext,r d,u d,Av e f.ext,Av i f.ext,Av j f.ext,B6 (e.ext f.ext)];cases BL C d c<;>cases BL C d a<;>cases BL C d b<;>rfl
theorem MH(F:BN X)(x:BC W H L C (B+1))(v:H[n]? =some (.list (t.map V.int)))(w:¬W n)(q:∀g∈t,BV C g)(r:t.length<60)
  (y:Lv W L H C B (fun h=>t.any (BL C h)) Φ):Ap X 7 "Circuit.any_of" [.loc L.c,.loc n] H Φ:=by
 refine Ao F 37 rfl ?_;refine tg_i (x.tg (m:= "all_of") (p:= "Circuit.all_of")) fun z=>?_;refine Ay (W:=W) (.inr ⟨n,rfl,v,w⟩) .refl fun guard k=>?_;refine BF (xs:=t) (f:=V.int) (fun(i post:List Int) d j=>EU (j=H) (d=.list (i.map fun g=>.int (-g)))) ?_ ?_ _ _ ⟨rfl,rfl⟩
 .rintro i g post d j J A ⟨rfl,rfl⟩ D;refine⟨by rw[AG];exact AV (AV (BU A) r) (by decide:60<Ar),D _ _ (k _ .refl) ⟨rfl,?_⟩⟩;rw[AL];rfl
 .rintro d j ⟨rfl,rfl⟩;have fr:Fr (fun z=>False) j (j++[HO.list (t.map fun g=>V.int (-g))]):=Fr.new _;have e:(t.map fun g=>V.int (-g))=(t.map fun g=> -g).map V.int:=by rw[List.map_map];rfl
  have s:=x.fr fr;refine An (by decide) (CQ F s (gs:=t.map fun g=> -g) (.inr ⟨_,rfl,by rw[<- e];exact Ak,x.new⟩) (fun g l=>by obtain⟨a,o,rfl⟩:=AS l;exact(q a o).neg) (by rw[AG];exact r) fun E G g s2 u I=>?_);refine y E G (-g) ((Dq.of s fr.pure).trans s2) u.neg fun h=>?_;rw[B6 u,I h];show(!(t.map fun g=> -g).all (BL C h))=t.any (BL C h);rw[List.all_map,List.not_all_eq_any_not];exact Dt fun a o=>by show(!BL C h (-a))=_;rw[B6 (q a o),Bool.not_not]
end
abbrev DF(b:Bool):Int:=cond b 1 0
def Dp:List Bool->Int
 |[]=>0
 |b::r=>match r with
  |[]=> -(DF b)
  |_::_=>DF b+2*Dp r
def rd(C:BS)(b:Nat->Bool)(a:List Int):Int:=Dp (a.map (BL C b))
structure Num(C:BS)(a:List Int):Prop where
 ne:a≠[]
 g:∀g∈a,BV C g
theorem Num.ext{C a:BS}(x:Num C t)(h:C <+: a):Num a t:=⟨x.ne,fun g b=>(x.g g b).ext h⟩
theorem FH{C a:BS}(x:∀g∈t,BV C g)(h:C <+: a):rd a p t=rd C p t:=by
 unfold rd;rw[map_congr_left fun g b=>Av (x g b) h]
def sq(x:Nat->Bool)(i:Nat):Nat->List Bool
 |0=>[]
 |n+1=>x i::sq x (i+1) n
theorem ZJ:∀x i,sq x i 0=[]:=fun a a=>rfl
theorem VU:∀x i n,sq x i (n+1)=x i::sq x (i+1) n:=fun a a a=>rfl
theorem Yl:∀{n i:Nat},(sq p i n).length=n:=by
 intro a;induction a with
 |zero=>
  intro _;exact rfl
 |succ n b=>
  intro i;rw[VU,AQ,b]
theorem Gs:Dp (sq p k (n+2))=DF (p k)+2*Dp (sq p (k+1) (n+1)):=rfl
theorem Nk:∀{n i:Nat},p (i+n+1)=p (i+n)->Dp (sq p i (n+2))=Dp (sq p i (n+1)):=by
 intro a;induction a with
 |zero=>
  intro i h;show DF (p i)+2 * -(DF (p (i+1)))= -(DF (p i));have b:p (i+1)=p i:=h;rw[b];exact by rw[Int.mul_neg,Int.two_mul,Int.neg_add,Int.add_neg_cancel_left]
 |succ n c=>
  intro i h;rw[Gs,(Gs:Dp (sq p i (n+1+1))=DF (p i)+2*Dp (sq p (i+1) (n+1))),c (i:=i+1) (by rw[Ag i 1 n];exact h)]
def place(a:List Int)(i:Nat):Int:=a.getD i (a.getD (a.length-1) 0)
theorem Ep{i:Nat}(h:t≠[]):place t i∈t:=by
 have e:t.getD (t.length-1) 0∈t:=by
  rw[getD_eq_getElem?_getD,AD (sub_lt (List.length_pos_iff.mpr h) one_pos)];exact List.getElem_mem _
 unfold place;rw[getD_eq_getElem?_getD];refine CK (t[i]?) (fun q=>?_) fun g q=>?_
 .exact e
 .exact mem_of_getElem? q
theorem OH{f:Int->Bool}{b:List Int}:∀{a:List Int}{i:Nat},(∀k,k<a.length->b.getD (i+k) 0=a.getD k 0)->i+a.length<=b.length->sq (fun j=>f (place b j)) i a.length=a.map f:=by
 intro l;induction l with
 |nil=>
  intro i _ _;exact rfl
 |cons g r m=>
  intro i h c;rw[AQ]at c⊢;rw[VU,AW,m (i:=i+1) (fun k n=>by
   have:=h (k+1) (Nat.succ_lt_succ n);rw[Ag i 1 k,show i+k+1=i+(k+1)from rfl,this];rfl) (by rw[Ag];exact c)]
  have e:place b i=g:=by
   have:=h 0 (succ_pos _);have d:i<b.length:=AK (lt_add_of_pos_right (succ_pos _)) c;unfold place;rw[getD_eq_getElem?_getD,AD d];rw[Nat.add_zero,getD_eq_getElem?_getD,AD d]at this;simpa using this
  rw[e]
theorem DE(h:t.length-1<=n):place t n=t.getD (t.length-1) 0:=by
 unfold place;by_cases e:n=t.length-1
 .subst e;rw[getD_eq_getElem?_getD,getD_eq_getElem?_getD];cases t[t.length-1]?<;>rfl
 .rw[getD_eq_getElem?_getD (l:=t) (i:=n),List.getElem?_eq_none (Nat.le_of_pred_lt (lt_of_le_of_ne h (Ne.symm e)))];rfl
theorem Gj(h:t≠[]):∀k:Nat,Dp (sq (fun j=>c8 (place t j)) 0 (t.length+k))=Dp (t.map c8):=by
 intro c;induction c with
 |zero=>
  rw[Nat.add_zero,OH (fun k e=>by rw[Nat.zero_add]) (AT (Nat.zero_add _))]
 |succ k d=>
  have a:t.length+k-1+1=t.length+k:=Nat.sub_add_cancel (AF (List.length_pos_iff.mpr h) (AU _ _));have b:t.length-1<=t.length+k-1:=Nat.sub_le_sub_right (AU _ _) 1;rw[<- d,show t.length+(k+1)=(t.length+k-1)+2 from(congrArg (· + 1) a).symm,Nk,a];rw[Nat.zero_add,DE (le_succ_of_le b),DE b]
def Id(x y:Nat->Bool)(c:Bool)(i:Nat):Nat->List Bool
 |0=>[]
 |n+1=>((x i != y i) != c)::Id x y ((x i&&y i)||((x i != y i)&&c)) (i+1) n
theorem V9:∀x y c i,Id x y c i 0=[]:=fun a a a a=>rfl
theorem VM:∀x y c i n,Id x y c i (n+1)=(((x i != y i) != c)::Id x y ((x i&&y i)||((x i != y i)&&c)) (i+1) n):=fun a a a a a=>rfl
theorem QL{y:Nat->Bool}:Dp (Id p y s k (n+2))=DF ((p k != y k) != s)+2*Dp (Id p y ((p k&&y k)||((p k != y k)&&s)) (k+1) (n+1)):=rfl
theorem Wa{d x y c u v:Int}(h:i+2*d=x+y+c):i+2*(u+v+d)=(x+2*u)+(y+2*v)+c:=by omega
theorem Tq{y:Nat->Bool}:∀{n i:Nat}{c:Bool},p (i+n+1)=p (i+n)->y (i+n+1)=y (i+n)->Dp (Id p y c i (n+2))=Dp (sq p i (n+2))+Dp (sq y i (n+2))+DF c:=by
 intro d;induction d with
 |zero=>
  intro i c a b;show DF ((p i != y i) != c)+2 * -(DF ((p (i+1) != y (i+1)) != ((p i&&y i)||((p i != y i)&&c))))=(DF (p i)+2 * -(DF (p (i+1))))+(DF (y i)+2 * -(DF (y (i+1))))+DF c;rw[a,b];cases p i<;>cases y i<;>cases c<;>rfl
 |succ n e=>
  intro i c a b;rw[Gs,(Gs:Dp (sq y i (n+1+2))=DF (y i)+2*Dp (sq y (i+1) (n+2))),QL,e (i:=i+1) (by rw[Ag i 1 n];exact a) (by rw[Ag i 1 n];exact b)];generalize Dp (sq p (i+1) (n+2))=u;generalize Dp (sq y (i+1) (n+2))=v;have:DF ((p i != y i) != c)+2*DF ((p i&&y i)||((p i != y i)&&c))=DF (p i)+DF (y i)+DF c:=by cases p i<;>cases y i<;>cases c<;>rfl
  exact Wa this
theorem Wf{f:Int->Bool}{b:List Int}(c:t≠[])(h:b≠[]) :
  Dp (Id (fun j=>f (place t j)) (fun j=>f (place b j)) s 0 (max t.length b.length+1))=Dp (t.map f)+Dp (b.map f)+DF s:=by
 obtain⟨k,a⟩:∃k,max t.length b.length=k+1:=⟨max t.length b.length-1,(Nat.sub_add_cancel (AF (List.length_pos_iff.mpr c) (le_max_left _ _))).symm⟩;have d:max t.length b.length+1=k+2:=congrArg (· + 1) a;have e:t.length-1<=0+k:=by rw[Nat.zero_add];exact Nat.sub_le_of_le_add (a▸le_max_left _ _)
 have g:b.length-1<=0+k:=by rw[Nat.zero_add];exact Nat.sub_le_of_le_add (a▸le_max_right _ _)
 rw[d,Tq (by show f (place _ _)=f (place _ _);rw[DE (le_succ_of_le e),DE e]) (by show f (place _ _)=f (place _ _);rw[DE (le_succ_of_le g),DE g]),<- d];rw[<- Gj c (max t.length b.length+1-t.length),<- Gj h (max t.length b.length+1-b.length)];rw[add_sub_of_le (le_succ_of_le (le_max_left _ _)),add_sub_of_le (le_succ_of_le (le_max_right _ _))]
theorem Tp(h:n+2<=t.length)(e:c8 (t.getD (n+1) 0)=c8 (t.getD n 0)):Dp ((t.take (n+1)).map c8)=Dp ((t.take (n+2)).map c8):=by
 have d:∀k,k<=t.length->sq (fun j=>c8 (place t j)) 0 k=(t.take k).map c8:=fun k c=>by
  have:=OH (f:=c8) (b:=t) (a:=t.take k) (i:=0) (fun j g=>by
   rw[length_take]at g;rw[Nat.zero_add,getD_eq_getElem?_getD,getD_eq_getElem?_getD,List.getElem?_take,if_pos (AK g (Nat.min_le_left _ _))]) (by rw[Nat.zero_add,length_take];exact min_le_right _ _)
  rw[length_take,Nat.min_eq_left c]at this;exact this
 have l:∀k,k<t.length->place t k=t.getD k 0:=fun k c=>by
  unfold place;simp[getD_eq_getElem?_getD,AD c]
 rw[<- d _ (le_of_succ_le h),<- d _ h,Nk];simp only[Nat.zero_add];rw[l _ h,l _ (lt_of_succ_lt h)];exact e
section
variable {W:Nat->Prop} {H:Aj} {L:CL} {C:BS} {Φ:V->Aj->Prop}
theorem SW(h:0<n):seqIndex? (-1) n=some (n-1):=by
 cases n with
 |zero=>exact absurd h (Nat.lt_irrefl 0)
 |succ k=>
  unfold seqIndex?;have e0:(if(-1:Int)<0 then -1+((k+1:Nat):Int)else -1)=(k:Int):=(if_pos (by decide)).trans ((Int.add_comm ..).trans (Int.add_neg_cancel_right (k:Int) 1))
  rw[e0];exact if_pos (by rw[decide_eq_true (Ai k),decide_eq_true (Int.ofNat_lt.mpr (lt_succ_self k))];rfl)
theorem cb(h:n<1000000):-2 ^ 62<(n:Int)/\(n:Int)<2 ^ 62:=⟨Int.lt_of_lt_of_le (by decide) (Ai _),Int.lt_trans (Int.ofNat_lt.mpr h) (by decide)⟩
theorem Cm(F:BN X)(h:t≠[])(f:t.length<Ar)(g:n<Ar)(e:Φ (.int (place t n)) H):Ap X 1 "place_of" [Am t,.int n] H Φ:=by
 have c:0<t.length:=List.length_pos_iff.mpr h;have b:(t.map V.int).length=t.length:=AG ..;refine Ao F 0 rfl ⟨by rw[b];exact AV f (by decide),?_⟩;w_left;refine Ce (decide ((n:Int)<((t.map V.int).length:Int))) (fun d=>?_) fun d=>?_
 .have a:n<t.length:=by have:=of_decide_eq_true d;rw[b]at this;exact Int.ofNat_lt.mp this
  refine Eg g ?_ e;rw[List.getElem?_map,AD a];unfold place;rw[getD_eq_getElem?_getD,AD a];rfl
 .have a:t.length<=n:=by have:=of_decide_eq_false d;rw[b]at this;exact Nat.not_lt.mp fun q=>this (Int.ofNat_lt.mpr q)
  refine KQ (v:=.int (place t n)) ?_ e;show(seqIndex? (-1) (t.map V.int).length).bind _=_;rw[b,SW c];show(t.map V.int)[t.length-1]? =_;rw[List.getElem?_map,AD (sub_lt c one_pos)];unfold place;rw[getD_eq_getElem?_getD,List.getElem?_eq_none a,getD_eq_getElem?_getD,AD (sub_lt c one_pos)];rfl
structure HI(a r:List Int):Prop where
 le:r.length<=a.length
 ne:r≠[]
 mem:∀g∈r,g∈a
 rd:∀(f:Int->Bool),Dp (r.map f)=Dp (a.map f)
theorem LL:clipAt n (k:Int)=min k n:=by
 unfold clipAt;rw[if_neg (Int.not_lt.mpr (Ai k)),Int.max_eq_right (Int.le_min.mpr ⟨Ai _,Ai _⟩)];rcases Nat.le_total k n with h |h
 .rw[Int.min_eq_left (Int.ofNat_le.mpr h),Nat.min_eq_left h];rfl
 .rw[Int.min_eq_right (Int.ofNat_le.mpr h),Nat.min_eq_right h];rfl
theorem F9{i:Nat}:Gd l .none (.int (i:Int))=some (l.take i):=by
 unfold Gd WJ Vo;simp only[LL,drop_zero];rw[List.take_eq_take_iff.mpr];simp
theorem HI.refl(h:t≠[]):HI t t:=⟨AM _,h,fun a z=>z,fun a=>rfl⟩
theorem HI.step(a:HI t (t.take (n+2)))(h:n+2<=t.length)(e:t.getD (n+1) 0=t.getD n 0):HI t (t.take (n+1)) where
 le:=by rw[length_take];exact min_le_right _ _
 ne:=fun q=>by have:=congrArg List.length q;rw[length_take,length_nil]at this;exact Nat.ne_of_gt (Nat.lt_min.mpr ⟨succ_pos n,AK (succ_pos _) h⟩) this
 mem:=fun g b=>List.mem_of_mem_take b
 rd:=fun f=>(Tp h (congrArg f e)).trans (a.rd f)
theorem R7(h:k<t.length):(t.map V.int)[k]? =some (.int (t.getD k 0)):=by
 rw[List.getElem?_map,getD_eq_getElem?_getD,AD h];rfl
theorem Rl(F:BN X){a:List Int}(h:a≠[])(d:a.length<Ar)(o:∀r,HI a r->Φ (Am r) H):Ap X 1 "trimmed" [Am a] H Φ:=by
 have e:(a.map V.int).length=a.length:=AG ..;refine Ao F 1 rfl ⟨by rw[e];exact AV d (by decide),?_⟩;have ret:∀n,n<=a.length->HI a (a.take n)->KL (Am a) .none (.int (n:Int)) H (fun v c=>Nu .tuple [v] c Φ):=fun n p t=>
  ⟨_,by rw[e];exact AR d,F9,by
   rw[<- map_take];exact o _ t⟩
 refine FW F.all (by kernel_rfl) (by kernel_rfl) (fun n g i=>n<=a.length/\1<=n/\g=Ze (some (Am a)) (some (.int n))/\i=H/\HI a (a.take n)) ?_ a.length ⟨AM _,(List.length_pos_iff.mpr h),by rw[e];rfl,rfl,by rw[take_length];exact .refl h⟩;rintro n g i ⟨b,q,rfl,rfl,t⟩;w_left;refine EY (decide (1<(n:Int))) (fun j=>?_) fun j=>?_
 .exact(ret n b t)
 .obtain⟨m,rfl⟩:∃m,n=m+2:=⟨n-2,(Nat.sub_add_cancel (show 2<=n from Int.ofNat_lt.mp (of_decide_eq_true j))).symm⟩;have k:((m+2:Nat):Int)-1=((m+1:Nat):Int):=Int.add_sub_cancel ((m+1:Nat):Int) 1;have l:m<a.length:=lt_of_succ_lt b;refine Eg (AV b d) (R7 b) ?_ k;refine Eg (AV l d) (R7 l) ?_ (Int.add_sub_cancel (m:Int) 2);w_left;cases f:(a.getD (m+1) 0==a.getD m 0)with
  |false=>exact(ret _ b t)
  |true=>exact⟨m+1,lt_succ_self _,AR b,succ_pos m,by rw[<- k];rfl,rfl,t.step b (of_decide_eq_true f)⟩
theorem JJ(F:BN X)(f:H[k]? =some (.list (t.map V.int)))(h:t≠[])(c:t.length<Ar)(q:∀r d,Fr (fun s=>False) H d->HI t r->Φ (Am r) d):Ap X 1 "trimmed" [.loc k] H Φ:=by
 have g:(t.map V.int).length=t.length:=AG ..;refine Ao F 1 rfl ?_;w_dflts f;refine⟨by rw[g];exact AV c (by decide),?_⟩;have ret:∀n,n<=t.length->HI t (t.take n)->KL (.loc k) .none (.int (n:Int)) H (fun v e=>Nu .tuple [v] e Φ):=fun n u a=>by
  refine objA_i f ⟨_,by rw[g];exact AR c,F9,?_⟩;refine GR Ak (by rw[length_take,g];exact AF (min_le_right _ _) (AR c)) ?_;rw[<- map_take];exact q _ _ (Fr.new _) a
 refine FW F.all (by kernel_rfl) (by kernel_rfl) (fun n j d=>n<=t.length/\1<=n/\j=Ze (some (.loc k)) (some (.int n))/\d=H/\HI t (t.take n)) ?_ t.length ⟨AM _,(List.length_pos_iff.mpr h),by rw[g];rfl,rfl,by rw[take_length];exact .refl h⟩;rintro n j d ⟨b,w,rfl,rfl,a⟩;w_left;refine EY (decide (1<(n:Int))) (fun l=>?_) fun l=>?_
 .exact(ret n b a)
 .obtain⟨m,rfl⟩:∃m,n=m+2:=⟨n-2,(Nat.sub_add_cancel (show 2<=n from Int.ofNat_lt.mp (of_decide_eq_true l))).symm⟩;have o:((m+2:Nat):Int)-1=((m+1:Nat):Int):=Int.add_sub_cancel ((m+1:Nat):Int) 1;have p:m<t.length:=lt_of_succ_lt b;refine JD f (AV b c) (R7 b) ?_ o;refine JD f (AV p c) (R7 p) ?_ (Int.add_sub_cancel (m:Int) 2);w_left;cases i:(t.getD (m+1) 0==t.getD m 0)with
  |false=>exact(ret _ b a)
  |true=>exact⟨m+1,lt_succ_self _,AR b,succ_pos m,by rw[<- o];rfl,rfl,a.step b (of_decide_eq_true i)⟩
end
def up(l:List Bool)(k:Int):Int:=l.foldr (fun b r=>DF b+2*r) k
theorem Tt:up (T++[s]) i=up T (DF s+2*i):=by unfold up;rw[List.foldr_append];rfl
theorem W2:∀{l:List Bool},Dp (l++[s])=up l (-(DF s)):=by
 intro a;induction a with
 |nil=>
  exact rfl
 |cons b r c=>
  have:Dp (b::r++[s])=DF b+2*Dp (r++[s]):=by cases r<;>rfl
  rw[this,c];rfl
theorem Bw(h:H[n]? =some (.range 0 k 1))(b:k<2 ^ 30)(c:r ((range' 0 k).map fun a:Nat=>V.int a) (fun d=>True) H):Cd (.loc n) H r:=by
 unfold Cd;simp only[h];refine⟨by decide,by simpa using b,by decide,?_⟩;have:Bc 0 k 1=(range' 0 k).map fun a:Nat=>V.int a:=by
  unfold Bc;rw[range_eq_range'];have e:(if(0:Int)<1 then((k:Int)-0+1-1) / 1 else 0).toNat=k:=by simp
  rw[e];exact map_congr_left fun a d=>by simp
 rw[this];exact c
theorem VE(h:v::l=(range' n (k-n)).map fun a:Nat=>V.int a):n<k/\v=.int n/\l=(range' (n+1) (k-(n+1))).map fun a:Nat=>V.int a:=by
 obtain⟨a,b⟩:∃a,k-n=a+1:=by
  cases e:k-n with
  |zero=>rw[e]at h;cases h
  |succ a=>exact⟨a,rfl⟩
 rw[b,range'_succ,AW]at h;cases h;exact⟨Nat.lt_of_sub_eq_succ b,rfl,by rw[Nat.sub_add_eq,b];rfl⟩
section
variable {W:Nat->Prop} {H:Aj} {L:CL} {C:BS} {Φ:V->Aj->Prop}
structure Cw(W:Nat->Prop)(H:Aj)(b:Nat)(L:CL):Prop where
 at_:H[b]? =some (.inst "Binary" [(ofString "circuit",.loc L.c)])
 w:¬W b
theorem Cw.fr{a:Aj}(x:Cw W H n L)(f:Fr W H a):Cw W a n L:=⟨f.old x.at_ x.w,x.w⟩
theorem Cw.tg(x:Cw W H n L){m p:String}(a:autoParam (List.lookup (ofString m) [(ofString "circuit",V.loc L.c)]=none) rf)(b:autoParam (Fl "Binary" (ofString m)=some p) rf):Ga H n (ofString m) p:=CC x.at_ rfl a b
theorem N9(a:i≠0)(b:i≠ -1):(i / 2).natAbs<i.natAbs:=by
 rcases i with(_ |n) |(_ |n)
 .exact absurd rfl a
 .exact Nat.div_lt_self (succ_pos n) (by decide)
 .exact absurd rfl b
 .exact Nat.succ_lt_succ (Nat.div_lt_self (succ_pos n) (by decide))
theorem Dm(F:BN X)(J:i.natAbs<1000)(K:∀r b,Fr (fun z=>False) H b->(∀g∈r,g=1\/g= -1)->r≠[]->r.length<=i.natAbs+1->(∀C d,rd C d r=i)->Φ (Am r) b):Ap X 1 "Binary.constant" [.loc n,.int i] H Φ:=by
 refine Ao F 3 rfl ?_;have E:∀{C:BS}{d:Nat->Bool}{g:Int},g=1\/g= -1->BL C d g=decide (g=1):=fun{C d g} h=>by
  rcases h with rfl |rfl
  .rw[Db];rfl
  .rw[Co];rfl
 refine FW F.all (by kernel_rfl) (by kernel_rfl) (fun j d b=>Dd fun(c:Int) (a:List Int)=>UV (j=c.natAbs) (d=YW (some (.loc n)) (some (.int c)) (some (.loc H.length))) (Fr (fun z=>False) H b) (b[H.length]? =some (.list (a.map V.int))) ((∀g∈a,g=1\/g= -1)) (a.length+c.natAbs<=i.natAbs) (up (a.map fun g=>decide (g=1)) c=i)) ?_ i.natAbs ⟨i,[],rfl,rfl,Fr.new _,Ak,(fun z h=>by cases h),by simp,rfl⟩;rintro j d b ⟨c,a,rfl,rfl,fr,q,A,B,G⟩;have D:a.length<1000:=AH (AF (AU _ _) B) J;w_left;have fin:∀s:Int,(s=1\/s= -1)-> -(DF (decide (s=1)))=c->Φ (Am (a++[s])) (b++[.list [.int s]]++[.list (a.map V.int++[.int s])]):=fun s o e=>by
  refine K _ _ ((fr.app _).app _) (fun g l=>?_) (by simp) (by rw[AI,AX];exact Ab (le_of_add_right_le B)) fun C d=>?_
  .rcases AY l with h |h
   .exact A g h
   .rw[AJ h];exact o
  .unfold rd;have:(a++[s]).map (BL C d)=(a.map fun g=>decide (g=1))++[decide (s=1)]:=by
    rw[AL,map_congr_left fun g h=>E (A g h)];show _++[BL C d s]=_;rw[E o]
   rw[this,W2,e,G]
 have ret:∀s:Int,(s=1\/s= -1)-> -(DF (decide (s=1)))=c->Nu .tuple [.loc (b++[HO.list [V.int s]]).length] (b++[.list [.int s]]++[.list (a.map V.int++[.int s])]) Φ:=fun s o e=>by
  refine GR Ak (by simp;unfold Ar;omega) ?_;have:=fin s o e;unfold Am at this;rw[AL]at this;exact this
 have t:∀s,(b++[HO.list [V.int s]])[H.length]? =some (.list (a.map V.int)):=fun s=>Au q _;have u:∀s,(b++[HO.list [V.int s]])[b.length]? =some (.list [V.int s]):=fun s=>Ak;cases I:(c != 0)with
 |false=>
  have p:c=0:=by simpa using I
  subst p;exact objA_i (t (-1)) (objA_i (u (-1)) ⟨by simp;unfold Ar;omega,ret (-1) (.inr rfl) rfl⟩)
 |true=>
  have p:c≠0:=by simpa using I
  w_left;cases v:(c != -1)with
  |false=>
   have p:c= -1:=by simpa using v
   subst p;exact objA_i (t 1) (objA_i (u 1) ⟨by simp;unfold Ar;exact AF D (by decide),ret 1 (.inl rfl) rfl⟩)
  |true=>
   have w:c≠ -1:=by simpa using v
   refine objA_i q ?_;have step:∀s:Int,(s=1\/s= -1)->DF (decide (s=1))=c % 2->∃m,m<c.natAbs/\Dd fun(y:Int) (f:List Int)=>UV (m=y.natAbs) (Ck (YW (some (.loc n)) (some (.int c)) (some (.loc H.length))) (ofString "k") (.int (c / 2))=YW (some (.loc n)) (some (.int y)) (some (.loc H.length))) (Fr (fun z=>False) H (b.set H.length (.list (a.map V.int++[.int s])))) ((b.set H.length (.list (a.map V.int++[.int s])))[H.length]? =some (.list (f.map V.int))) ((∀g∈f,g=1\/g= -1)) (f.length+y.natAbs<=i.natAbs) (up (f.map fun g=>decide (g=1)) y=i):=fun s o e=>by
    refine⟨(c / 2).natAbs,N9 p w,c / 2,a++[s],rfl,rfl,fr.set (.inl (AM _)) _,by rw[AL];exact BE q,fun g l=>?_,by rw[AI,AX,Nat.add_assoc,Nat.add_comm 1];exact AF (AO (N9 p w) _) B,?_⟩
    .rcases AY l with h |h
     .exact A g h
     .rw[AJ h];exact o
    .rw[AL];show up (_++[decide (s=1)]) _=i;rw[Tt,e,Int.emod_add_mul_ediv c 2];exact G
   refine⟨by decide,?_⟩;w_left;cases x:(c % 2==1)with
   |true=>
    refine Bf q (by rw[AG];unfold Ar;omega) ?_;refine⟨by decide,by decide,?_⟩;exact step 1 (.inl rfl) (by have:c % 2=1:=(of_decide_eq_true x);rw[this];rfl)
   |false=>
    refine Bf q (by rw[AG];unfold Ar;omega) ?_;refine⟨by decide,by decide,?_⟩;exact step (-1) (.inr rfl) (by have:c % 2≠1:=(of_decide_eq_false x);have:c % 2=0:=((Int.emod_two_eq _).resolve_right this);rw[this];rfl)
end
section
variable {W:Nat->Prop} {H:Aj} {L:CL} {C:BS} {B:Nat} {Φ:V->Aj->Prop}
def O6(W:Nat->Prop)(L:CL)(H:Aj)(C:BS)(B w:Nat)(f:(Nat->Bool)->Int)(Φ:V->Aj->Prop):Prop:=∀b a r,Dq W L H C B b a->Num a r->r.length<=w->(∀c,rd a c r=f c)->Φ (Am r) b
theorem Al{st:Stmt}
  (h:∀a:BA->Aj->Prop,(∀b d,FF X n j2 c b d I z->a b d)->Lj X n st c E H a z):FF X n (st::j2) c E H I z:=h _ fun e e h=>h
theorem EL{s:Nat}{p:String}{i:String}(j:GX c (ofString "self") E H=fun Φ=>Φ (.loc s) H)(l:H[s]? =some (.inst i o))(m:Dw i (ofString "circuit")=true)
  (q:o.lookup (ofString "circuit")=some (.loc n)) (r:Ga H n (ofString f) p) (u:Gb X k d c E H fun h e=>1<=k/\Ap X (k-1) p (.loc n::h) e Φ) :
  Br X k (.Call (.Attribute (.Attribute (.Name (ofString "self") default) (ofString "circuit") default) (ofString f) default) d [] default) c E H Φ:=by
 show GX c (ofString "self") E H fun a b=>L8 a (ofString "circuit") b fun a b=>XF a fun n=>Bk (fun g=>ov (YQ (ofString f) g) fun t=>Gb X k d c E b fun h e=>SM X k t g n h e Φ) b n;rw[j];exact Uj (v:=.loc n) l (tg_i r fun w=>u) m q
set_option tactic.hygienic true in
theorem G7(F:BN X){b:List Int}(x:BC W H L C (B+9*(max t.length b.length+1)))(y:Cw W H n L)(Y:Num C t)(Z:Num C b)(hc:BV C i)(wa:t.length<=60)(wb:b.length<=60)
  (φ:O6 W L H C B (max t.length b.length+1) (fun c=>rd C c t+rd C c b+DF (BL C c i)) Φ):Ap X 13 "Binary.added" [.loc n,Am t,Am b,.int i] H Φ:=by
 have la:(t.map V.int).length=t.length:=AG ..;have lb:(b.map V.int).length=b.length:=AG ..;have Q:=x.new;refine Ao F 4 rfl (Al fun kn M=>(M _ _ (Al fun kn M=>⟨by rw[la];exact AH wa (by decide),by rw[lb];exact AH wb (by decide),?_⟩)));generalize hm:max t.length b.length+1=m at φ x;have em:(if((t.map V.int).length:Int)<((b.map V.int).length:Int)then((b.map V.int).length:Int)else((t.map V.int).length:Int))+1=(m:Int):=by
  rw[la,lb]
  split
  .rename_i q;rw[<- hm,Nat.max_eq_right (AR (Int.ofNat_lt.mp q))];rfl
  .rename_i q;rw[<- hm,Nat.max_eq_left (Nat.not_lt.mp fun z=>q (Int.ofNat_lt.mpr z))];rfl
 w_left;rw[em];have s:m<=61:=hm▸Ab (Nat.max_le.mpr ⟨wa,wb⟩);have b0:0<m:=hm▸succ_pos _;have R:∀{k:Nat},k<=61->k<Ar:=fun h=>AH h (by decide);refine⟨(AH s (by decide):m<2 ^ 30),?_⟩;refine Bw Ak (AH s (by decide)) ?_;let S:=fun(c:Nat->Bool) (j:Nat)=>BL C c (place t j);let T:=fun(c:Nat->Bool) (j:Nat)=>BL C c (place b j);refine B1 (fun l c H'=>ZZ fun(a:Nat) (A:List Int) (N:Int) (D:BS) (o1 o2 o3 o4:Option V)=>Xx (a+l.length=m) (l=((range' a l.length).map fun k:Nat=>V.int k)) (c=Z2 (some (.loc n)) (some (Am t)) (some (Am b)) (some (.int N)) (some (.loc H.length)) o1 o2 o3 o4) (Dq W L H C (B+9*l.length) H' D) (H'[H.length]? =some (.list (A.map V.int))) (A.length=a) ((∀g∈A,BV D g)) (BV D N) (∀c,A.map (BL D c)++Id (S c) (T c) (BL D c N) a l.length=Id (S c) (T c) (BL C c i) 0 m)) ?_ ?_ _ _ _
  (by
   have e:((range' 0 m).map fun k:Nat=>V.int k).length=m:=by simp
   refine⟨0,[],i,C,none,none,none,none,by rw[e,Nat.zero_add],by rw[e],rfl,Dq.self (by rw[e];exact x) ((Fr.new _).app _),Au Ak _,rfl,(fun _ h=>by cases h),hc,fun c=>by rw[e];rfl⟩)
 .rintro v r c H' k' ⟨a,A,N,D,o1,o2,o3,o4,hi,e2,rfl,st,hf,E,hg,o,G⟩ hk;rw[AQ,range'_succ,AW]at e2;obtain⟨rfl,c0⟩:=List.cons.inj e2;rw[AQ]at hi;have I:a<=61:=AF (AR (hi▸lt_add_of_pos_right (succ_pos _))) s;have pa:=Ep (i:=a) Y.ne;have pb:=Ep (i:=a) Z.ne;refine(Al fun kn p=>(An (by decide) (Cm F Y.ne (R (le_succ_of_le wa)) (R I) (An (by decide) (Cm F Z.ne (R (le_succ_of_le wb)) (R I) (p _ _ (Al fun kn p=>?_)))))));have gx:=(Y.g _ pa).ext st.ext;have gy:=(Z.g _ pb).ext st.ext;have y1:=y.fr st.fr;refine EL rfl y1.at_ rfl rfl st.at_.tg (An (by decide) (GO F (B:=B+9*r.length+6) st.at_ gx gy fun H1 C1 g1 d h1 q1=>(p _ _ (Al fun kn p=>?_))));have f1:=d.fr.old hf Q;refine objA_i f1 ?_;refine EL rfl (y1.fr d.fr).at_ rfl rfl d.at_.tg (An (by decide) (GO F (B:=B+9*r.length+3) d.at_ h1 (o.ext d.ext) fun H2 C2 O s2 h2 q2=>?_));have f2:=s2.fr.old f1 Q;refine Bf f2 (by rw[AG,E];exact R I) (p _ _ (Al fun kn p=>?_));have K:BC W (H2.set H.length (.list (A.map V.int++[.int O]))) L C2 _:=s2.at_.set Q (fun e=>Nat.lt_irrefl _ (e▸Ax x.cl));have y3:Cw W (H2.set H.length (.list (A.map V.int++[.int O]))) n L:=⟨Aq ((y1.fr d.fr).fr s2.fr).at_ (fun e=>Nat.lt_irrefl _ (e▸Ax y.at_)),y.w⟩;refine EL rfl y3.at_ rfl rfl K.tg ?_;refine EL rfl y3.at_ rfl rfl K.tg (An (by decide) (D6 F (B:=B+9*r.length+2) K ((gx.ext d.ext).ext s2.ext) ((gy.ext d.ext).ext s2.ext) fun H3 C3 g3 J h3 q3=>?_));refine EL rfl (y3.fr J.fr).at_ rfl rfl J.at_.tg (An (by decide) (D6 F (B:=B+9*r.length+1) J.at_ ((h1.ext s2.ext).ext J.ext) (((o.ext d.ext).ext s2.ext).ext J.ext) fun H4 C4 g4 U h4 q4=>?_));refine An (by decide) (GU F (B:=B+9*r.length) U.at_ (h3.ext U.ext) h4 fun H5 C5 g5 s5 h5 q5=>(p _ _ ?_));have f5:H5[H.length]? =some (.list ((A++[O]).map V.int)):=by
   rw[AL];exact s5.fr.old (U.fr.old (J.fr.old (BE f2) Q) Q) Q
  dsimp only at q1 q2 q3 q4 q5;have P:=(J.ext.trans U.ext).trans s5.ext;have a0:=d.ext.trans (s2.ext.trans P);refine hk _ _ trivial ⟨a+1,A++[O],g5,C5,some (.int a),some (.int (place t a)),some (.int (place b a)),some (.int g1),(Ag a 1 _).trans hi,c0,rfl,(((⟨((st.fr.trans d.fr).trans s2.fr).set (.inl (AM _)) _,K,(st.ext.trans d.ext).trans s2.ext⟩:Dq W L H C _ (H2.set H.length (.list (A.map V.int++[.int O]))) C2).trans J).trans U).trans s5,f5,by rw[AI,E];rfl,fun g d0=>?_,h5,fun c=>?_⟩
  .rcases AY d0 with h |h
   .exact(hg g h).ext a0
   .rw[AJ h];exact h2.ext P
  .rw[<- G c,AQ,VM,AL,append_assoc];have sx:BL D c (place t a)=S c a:=Av (Y.g _ pa) st.ext;have sy:BL D c (place b a)=T c a:=Av (Z.g _ pb) st.ext;have e2:BL C5 c O=((S c a != T c a) != BL D c N):=by
    rw[Av h2 P,q2 c,q1 c,Av o d.ext,sx,sy]
   have e3:BL C5 c g5=((S c a&&T c a)||((S c a != T c a)&&BL D c N)):=by
    rw[q5 c,Av h3 U.ext,q3 c,q4 c,Av (h1.ext s2.ext) J.ext,Av h1 s2.ext,q1 c,Av ((o.ext d.ext).ext s2.ext) J.ext,Av (o.ext d.ext) s2.ext,Av o d.ext,
     Av (gx.ext d.ext) s2.ext,Av gx d.ext,Av (gy.ext d.ext) s2.ext,Av gy d.ext,sx,sy]
   rw[(map_congr_left fun g h=>Av (hg g h) a0:A.map (BL C5 c)=A.map (BL D c)),e3];show _++(BL C5 c O::_)=_;rw[e2];rfl
 .rintro c H' ⟨a,A,N,D,o1,o2,o3,o4,rfl,e2,rfl,st,hf,E,hg,o,G⟩;refine M _ _ ?_;refine(An (by decide) (JJ F hf (fun q=>absurd b0 (by rw[<- E,q];exact Nat.lt_irrefl 0)) (R (AF (AT E) s)) fun r H2 fr u=>?_));refine φ H2 D r ⟨st.fr.trans fr.pure,st.at_.fr fr,st.ext⟩ ⟨u.ne,fun g h=>hg g (u.mem g h)⟩ (AF u.le (AT E)) fun c=>?_;have:=G c;rw[length_nil,V9,Ah]at this;unfold rd;rw[u.rd,this,show a+0=max t.length b.length+1 from hm.symm];exact Wf (f:=BL C c) Y.ne Z.ne
end
section
variable {W:Nat->Prop} {H:Aj} {L:CL} {C:BS} {B:Nat} {Φ:V->Aj->Prop}
theorem Pb(F:BN X){b:List Int}(x:BC W H L C (B+9*(max t.length b.length+1)))(y:Cw W H n L)(d:Num C t)(e:Num C b)(f:t.length<=60)(g:b.length<=60)
  (h:O6 W L H C B (max t.length b.length+1) (fun a=>rd C a t+rd C a b) Φ):Ap X 15 "Binary.plus" [.loc n,Am t,Am b] H Φ:=by
 refine Ao F 5 rfl ?_;refine tg_i (y.tg (m:= "added") (p:= "Binary.added")) fun k=>?_;refine An (by decide) (G7 F x y d e .mone f g fun i j r st c l q=>h i j r st c l fun a=>(q a).trans ?_);show _+DF (BL C a (-1))=_;rw[Co];show rd C a t+rd C a b+0=rd C a t+rd C a b;exact Int.add_zero _
theorem OZ{C:BS}{ρ:Nat->Bool}:∀{b:List Int},b≠[]->(∀g∈b,BV C g)->rd C ρ (b.map fun g=> -g)= -(rd C ρ b)-1
 |[],h,_=>absurd rfl h
 |[g],_,d=>by
  show -(DF (BL C ρ (-g)))= -(-(DF (BL C ρ g)))-1;rw[B6 (d g (.head _))];cases BL C ρ g<;>rfl
 |g::c::r,_,d=>by
  rw[(rfl:rd C ρ ((g::c::r).map fun g=> -g)=DF (BL C ρ (-g))+2*rd C ρ ((c::r).map fun g=> -g)),(rfl:rd C ρ (g::c::r)=DF (BL C ρ g)+2*rd C ρ (c::r)),(OZ (C:=C) (ρ:=ρ) (b:=c::r) (cons_ne_nil _ _) fun a e=>d a (.tail _ e)),B6 (d g (.head _))];cases BL C ρ g
  .show 1+2*_= -(0+2*_)-1;omega
  .show 0+2*_= -(1+2*_)-1;omega
theorem Ow(F:BN X){b:List Int}(x:BC W H L C (B+9*(max t.length b.length+1)))(y:Cw W H n L)(v:Num C t)(j:Num C b)(w:t.length<=60)(u:b.length<=60)
  (z:O6 W L H C B (max t.length b.length+1) (fun a=>rd C a t-rd C a b) Φ):Ap X 15 "Binary.less" [.loc n,Am t,Am b] H Φ:=by
 have k:(b.map fun g=> -g).length=b.length:=AG ..;refine Ao F 6 rfl ?_;refine tg_i (y.tg (m:= "added") (p:= "Binary.added")) fun A=>?_;refine Ay (W:=W) (.inl rfl) .refl fun guard o=>?_;refine BF (xs:=b) (f:=V.int) (fun(c post:List Int) d e=>EU (e=H) (d=.list ((c.map fun g=> -g).map V.int))) ?_ ?_ _ _ ⟨rfl,rfl⟩
 .rintro c g post d e K D ⟨rfl,rfl⟩ E;have s:c.length<=60:=by have:=BU D;omega
  refine⟨by rw[AG,AG];exact AH s (by decide),E _ _ (o _ .refl) ⟨rfl,?_⟩⟩;rw[AL,AL];rfl
 .rintro d e ⟨rfl,rfl⟩;have fr:Fr (fun A=>False) e (e++[HO.list ((b.map fun g=> -g).map V.int)]):=Fr.new _;refine objA_i Ak ?_;refine⟨by rw[AG,k];exact AF u (by decide),?_⟩;refine An (by decide) (G7 F (B:=B) (b:=b.map fun g=> -g) (by rw[k];exact x.fr fr) (y.fr fr.pure) v ⟨fun q=>j.ne (List.map_eq_nil_iff.mp q),fun g G=>by obtain⟨t,h,rfl⟩:=AS G;exact(j.g t h).neg⟩ .one w (by rw[k];exact u) fun I J r s2 i l q=>z I J r ⟨fr.pure.trans s2.fr,s2.at_,s2.ext⟩ i (by rw[k]at l;exact l) fun a=>(q a).trans ?_);show _+DF (BL C a 1)=_;rw[Db,OZ j.ne j.g];show rd C a t+(-(rd C a b)-1)+1=rd C a t-rd C a b;omega
end
section
variable {W:Nat->Prop} {H:Aj} {L:CL} {C:BS} {B:Nat} {Φ:V->Aj->Prop}
theorem EJ:((range' 0 n).map fun k:Nat=>V.int k).length=n:=by rw[AG,length_range']
theorem K4{y:Nat->Bool}(h:∀j,p j=y j):sq p k n=sq y k n:=by rw[show p=y from funext h]
set_option tactic.hygienic true in
theorem Kj(F:BN X){b:List Int}(x:BC W H L C (B+3*max t.length b.length))(y:Cw W H n L)(A:Num C t)(E:Num C b)(U:BV C i)(J:t.length<=60)(K:b.length<=60)
  (Y:O6 W L H C B (max t.length b.length) (fun c=>if BL C c i=true then rd C c t else rd C c b) Φ):Ap X 11 "Binary.chosen" [.loc n,.int i,Am t,Am b] H Φ:=by
 have la:(t.map V.int).length=t.length:=AG ..;have Z:(b.map V.int).length=b.length:=AG ..;refine Ao F 9 rfl (Al fun kn M=>⟨by rw[la];exact AH J (by decide),by rw[Z];exact AH K (by decide),?_⟩);generalize G:max t.length b.length=m at Y x;have em:(if((t.map V.int).length:Int)<((b.map V.int).length:Int)then((b.map V.int).length:Int)else((t.map V.int).length:Int))=(m:Int):=by
  rw[la,Z]
  split
  .rename_i q;rw[<- G,Nat.max_eq_right (AR (Int.ofNat_lt.mp q))]
  .rename_i q;rw[<- G,Nat.max_eq_left (Nat.not_lt.mp fun z=>q (Int.ofNat_lt.mpr z))]
 have e:m<=61:=G▸Nat.max_le.mpr ⟨le_succ_of_le J,le_succ_of_le K⟩;have D:∀{k:Nat},k<=61->k<Ar:=fun h=>AH h (by decide);w_left;rw[em];refine(M _ _ ⟨(AH e (by decide):m<2 ^ 30),?_⟩);refine Bw Ak (AH e (by decide)) ?_;let fx:=fun(c:Nat->Bool) (j:Nat)=>if BL C c i=true then BL C c (place t j)else BL C c (place b j)
 refine Dy (fun d u N=>Ks fun(a:Nat) (s:List Int) (w:BS)=>UV (a+d.length=m) (d=((range' a d.length).map fun k:Nat=>V.int k)) (u=.list (s.map V.int)) (Dq W L H C (B+3*d.length) N w) (s.length=a) ((∀g∈s,BV w g)) (∀c,s.map (BL w c)++sq (fx c) a d.length=sq (fx c) 0 m)) ?_ ?_ _ _ _
  ⟨0,[],C,by rw[EJ,Nat.zero_add],by rw[EJ],rfl,Dq.self (by rw[EJ];exact x) (Fr.new _),rfl,(fun _ h=>by cases h),fun c=>by rw[EJ];rfl⟩
 .rintro v r u N k' ⟨a,s,w,O,P,rfl,st,l,I,o⟩ hk;rw[AQ,range'_succ,AW]at P;obtain⟨rfl,Q⟩:=List.cons.inj P;rw[AQ]at O;have p:a<=61:=AF (AR (O▸lt_add_of_pos_right (succ_pos _))) e;have pa:=Ep (i:=a) A.ne;have pb:=Ep (i:=a) E.ne;show Br X 10 _ _ _ _ _;refine EL rfl (y.fr st.fr).at_ rfl rfl st.at_.tg ?_;refine(An (by decide) (Cm F A.ne (D (le_succ_of_le J)) (D p) (An (by decide) (Cm F E.ne (D (le_succ_of_le K)) (D p) ?_))));refine An (by decide) (choose_spec F (B:=B+3*r.length) st.at_ (U.ext st.ext) ((A.g _ pa).ext st.ext) ((E.g _ pb).ext st.ext) fun H1 R g1 S h1 q1=>⟨by rw[AG,l];exact D p,hk _ _ trivial ⟨a+1,s++[g1],R,(Ag a 1 _).trans O,Q,by rw[AL];rfl,st.trans S,by rw[AI,l];rfl,fun g T=>?_,fun c=>?_⟩⟩)
  .rcases AY T with h |h
   .exact(I g h).ext S.ext
   .rw[AJ h];exact h1
  .rw[<- o c,AQ,VU,AL,append_assoc];dsimp only at q1;rw[(map_congr_left fun g h=>Av (I g h) S.ext:s.map (BL R c)=s.map (BL w c))];show _++(BL R c g1::_)=_;rw[q1 c,Av U st.ext,Av (A.g _ pa) st.ext,Av (E.g _ pb) st.ext];rfl
 .rintro u N ⟨a,s,w,rfl,P,rfl,st,l,I,o⟩;refine An (by decide) (JJ F Ak (fun q=>absurd (AK (List.length_pos_iff.mpr A.ne) (G▸le_max_left _ _)) (by rw[<- l,q];exact Nat.lt_irrefl 0)) (D (AF (AT l) e)) fun r H2 fr f=>?_);refine Y H2 w r ⟨st.fr.trans ((Fr.new _).trans fr.pure),(st.at_.fr (Fr.new _)).fr fr,st.ext⟩ ⟨f.ne,fun g h=>I g (f.mem g h)⟩ (AF f.le (AT l)) fun c=>?_;have:=o c;rw[length_nil,ZJ,Ah,show a+0=max t.length b.length from G.symm]at this;unfold rd;rw[f.rd,this];dsimp only;refine Ce (BL C c i) (fun q=>?_) fun q=>?_
  .rw[K4 (y:=fun j=>BL C c (place t j)) fun j=>by show(if BL C c i=true then _ else _)=_;rw[q];rfl]
   rw[<- add_sub_of_le (le_max_left t.length b.length),Gj A.ne];rfl
  .rw[K4 (y:=fun j=>BL C c (place b j)) fun j=>by show(if BL C c i=true then _ else _)=_;rw[q];rfl]
   rw[<- add_sub_of_le (le_max_right t.length b.length),Gj E.ne];rfl
end
def Ek(C:BS)(b:Nat->Bool):List (List Int)->Int
 |[]=>0
 |a::r=>rd C b a+Ek C b r
theorem Jr:∀C b a r,Ek C b (a::r)=rd C b a+Ek C b r:=fun c c c c=>rfl
theorem Fa{C:BS}:∀{a:List (List Int)},Ek C p (a++S)=Ek C p a+Ek C p S:=by
 intro b;induction b with
 |nil=>
  exact(Int.zero_add _).symm
 |cons a r c=>
  rw[cons_append,Jr,Jr,c];exact Eq.symm (Int.add_assoc _ _ _)
theorem Hr{C c:BS}(h:C <+: c):∀{a:List (List Int)},(∀r∈a,Num C r)->Ek c p a=Ek C p a:=by
 intro d;induction d with
 |nil=>
  intro _;exact rfl
 |cons a r e=>
  intro k;rw[Jr,Jr,FH (k a (.head _)).g h,e fun b f=>k b (.tail _ f)]
structure Rows(C:BS)(w:Nat)(rows:List (List Int)):Prop where
 num:∀r∈rows,Num C r
 le:∀r∈rows,r.length<=w
theorem Rows.ext{C a:BS}(x:Rows C n S)(h:C <+: a):Rows a n S:=⟨fun r b=>(x.num r b).ext h,x.le⟩
theorem Rows.wide{C:BS}(x:Rows C n S)(h:n<=k):Rows C k S:=⟨x.num,fun r a=>AF (x.le r a) h⟩
theorem Rows.app{C:BS}{b:List (List Int)}(x:Rows C n S)(y:Rows C n b):Rows C n (S++b):=⟨fun r a=>(AY a).elim (x.num r) (y.num r),fun r a=>(AY a).elim (x.le r) (y.le r)⟩
theorem Rows.one{C:BS}(h:Num C t)(b:t.length<=n):Rows C n [t]:=⟨fun r a=>by rw[AJ a];exact h,fun r a=>by rw[AJ a];exact b⟩
abbrev CX(a:List (List Int)):List V:=a.map Am
theorem Fw{i:Nat}:Gd l (.int (i:Int)) .none=some (l.drop i):=by
 unfold Gd WJ Vo;simp only[LL,take_length];by_cases h:i<=l.length
 .rw[Nat.min_eq_left h]
 .rw[Nat.min_eq_right (AR (lt_of_not_le h)),drop_length,List.drop_eq_nil_of_le (AR (lt_of_not_le h))]
theorem K0(h:H[n]? =some (.range 0 ((k:Int)-1) 2))(d:1<=k)(f:k<2 ^ 30)(b:r ((range' 0 (k / 2)).map fun a:Nat=>V.int (2*(a:Int))) (fun c=>True) H):Cd (.loc n) H r:=by
 unfold Cd;simp only[h];refine⟨by decide,by omega,by decide,?_⟩;have:Bc 0 ((k:Int)-1) 2=(range' 0 (k / 2)).map fun a:Nat=>V.int (2*(a:Int)):=by
  unfold Bc;rw[range_eq_range'];have e:(if(0:Int)<2 then((k:Int)-1-0+2-1) / 2 else 0).toNat=k / 2:=by rw[if_pos (by decide)];omega
  rw[e];exact map_congr_left fun a c=>by simp
 rw[this];exact b
theorem VK{c:Type}{l:List c}(h:2<=l.length):Ks fun a b r=>l=a::b::r:=by
 rcases l with _ |⟨a,_ |⟨b,r⟩⟩
 .exact absurd h (Nat.not_succ_le_zero 1)
 .exact absurd (Nat.le_of_succ_le_succ h) (Nat.not_succ_le_zero 0)
 .exact⟨a,b,r,rfl⟩
theorem VJ(h:n<=16):2*(n:Int)<2 ^ 62/\2*(n:Int)+1<2 ^ 62/\0<=2*(n:Int)/\0<=2*(n:Int)+1:=by omega
section
variable {W:Nat->Prop} {H:Aj} {L:CL} {C:BS} {B:Nat} {Φ:V->Aj->Prop}
theorem IJ(F:BN X){w:Nat}(x:BC W H L C (B+9*(w+5)*S.length))(y:Cw W H k L)(hn:H[n]? =some (.list (CX S)))(hr:Rows C w S)(hw:w<=50)(h1:1<=w)(hl:S.length<=16)
  (φ:O6 W L H C B (w+4) (fun s=>Ek C s S) Φ):Ap X 17 "Binary.total" [.loc k,.loc n] H Φ:=by
 have sm:∀{A:Nat},A<=16->A<Ar:=fun h=>AH h (by decide);have G:∀S:List (List Int),(CX S).length=S.length:=fun zz=>AG ..;refine Ao F 7 rfl (Al fun kn T=>?_);w_dflts hn;refine⟨by rw[G];exact AR (sm hl),T _ _ (Al fun kn T=>?_)⟩;refine FW F.all (by kernel_rfl) (by kernel_rfl) (fun m s H'=>YK fun(f:List (List Int)) (j r:Nat) (P:BS) (o1:Option V)=>Xx (m=f.length) (s=Zw (some (.loc k)) (some (.loc n)) (some (.loc r)) o1) (Dq W L H C (B+9*(w+5)*f.length) H' P) (H'[r]? =some (.list (CX f))) (¬W r) (f.length<=2 ^ j) (j<=4) (Rows P (w+(4-j)) f) (∀s,Ek P s f=Ek C s S)) ?_ S.length
  ⟨S,4,H.length,C,none,rfl,rfl,Dq.self x (Fr.new _),Ak,x.new,hl,AM _,hr.wide (AU _ _),fun zz=>rfl⟩
 rintro m s H' ⟨f,j,r,P,o1,rfl,rfl,st,I,c0,hj,U,D,M⟩;have o:f.length<=16:=AF hj (pow_le_pow_right (by decide) U:2 ^ j<=2 ^ 4);w_dflts I;refine⟨by rw[G];exact AH o (by decide),?_⟩;w_left;refine EY (decide (1<((CX f).length:Int))) (fun hq=>?_) fun hq=>?_
 .have N:f.length<=1:=by have:=of_decide_eq_false hq;rw[G]at this;omega
  refine T _ _ ?_;w_dflts I;refine⟨by rw[G];exact AH o (by decide),?_⟩;cases f with
  |nil=>
   refine tg_i ((y.fr st.fr).tg (m:= "constant") (p:= "Binary.constant")) fun zz=>?_;refine An (by decide) (Dm F (by decide) fun r Y fr hg ne l0 E=>?_);exact φ Y P r ((st.trans (Dq.self st.at_ fr)).le (AU _ _)) ⟨ne,fun g h=>(hg g h).elim (fun e=>e▸.one) fun e=>e▸.mone⟩ (AF l0 (by simp)) fun s=>(E P s).trans (M s)
  |cons a f=>
   have:f=[]:=by simp at N;exact N
   subst this;w_dflts I;refine⟨_,_,rfl,by decide,by decide,rfl,?_⟩;refine φ H' P a (st.le (AU _ _)) (D.num a (.head _)) (AF (D.le a (.head _)) (AO (sub_le _ _) _)) fun s=>?_;exact(Int.add_zero _).symm.trans (M s)
 .have N:2<=f.length:=by have:=of_decide_eq_true hq;rw[G]at this;omega
  have d0:1<=j:=by
   cases j with
   |zero=>simp at hj;omega
   |succ j=>omega
  refine Al fun kn m0=>?_;w_dflts I;refine⟨by rw[G];exact AH o (by decide),by decide,by rw[G];omega,rfl,?_⟩;rw[G];generalize hc:f.length-f.length / 2=c;generalize hh:f.length / 2=h;generalize hK:9*(w+5)=K at st x;have J:f.length=c+h:=by rw[<- hc,<- hh];exact(Nat.sub_add_cancel (Nat.div_le_self _ _)).symm
  have f0:2*h<=f.length:=by rw[<- hh];exact Nat.mul_div_le _ 2
  have g0:0<h:=by rw[<- hh];exact Nat.div_pos N (by decide)
  have h0:4-(j-1)=4-j+1:=(Nat.sub_sub_right 4 d0).trans (Nat.succ_sub U);have w4:w+(4-j)<=54:=Ad hw (sub_le 4 j);have i0:c<=16:=AF (by rw[J];exact AU c h) o;have j0:h<=16:=AF (by rw[J];exact le_add_left h c) o;refine K0 Ak (le_of_succ_le N) (AH o (by decide)) ?_;rw[hh];have e0:((range' 0 h).map fun A:Nat=>V.int (2*(A:Int))).length=h:=by rw[AG,length_range']
  refine Dy (fun t Z Y=>Ks fun(i:Nat) (d:List (List Int)) (O:BS)=>UV (i+t.length=h) (t=((range' i t.length).map fun A:Nat=>V.int (2*(A:Int)))) (Z=.list (CX d)) (Dq W L H' P (B+K*(c+t.length)) Y O) (d.length=i) (Rows O (w+(4-j)+1) d) (∀s,Ek O s d+Ek O s (f.drop (2*i))=Ek C s S)) ?_ ?_ _ _ _
   ⟨0,[],P,by rw[e0,Nat.zero_add],by rw[e0],rfl,Dq.self (by rw[e0,<- J];exact st.at_) (Fr.new _),rfl,⟨(fun zz h=>by cases h),(fun zz h=>by cases h)⟩,fun s=>by rw[<- M s];exact Int.zero_add _⟩
  .rintro v q Z Y k' ⟨i,d,O,hi,e2,rfl,s2,u,Q,E⟩ hk;rw[AQ,range'_succ,AW]at e2;obtain⟨rfl,n0⟩:=List.cons.inj e2;rw[AQ]at hi;have a0:i+1<=h:=hi▸AO (Ab (zero_le _)) i;obtain⟨x1,x2,x3,x4⟩:=VJ (AF (le_of_succ_le a0) j0);obtain⟨a,b,t,hd⟩:=VK (l:=f.drop (2*i)) (by rw[length_drop];exact le_sub_of_add_le (by rw[Nat.add_comm];exact AF (Ac 2 a0) f0));have ga:(CX f)[2*i]? =some (Am a):=by
    have:(f.drop (2*i))[0]? =some a:=by rw[hd];rfl
    rw[getElem?_drop,Nat.add_zero]at this;rw[List.getElem?_map,this];rfl
   have gb:(CX f)[2*i+1]? =some (Am b):=by
    have:(f.drop (2*i))[1]? =some b:=by rw[hd];rfl
    rw[getElem?_drop]at this;rw[List.getElem?_map,this];rfl
   have ma:a∈f:=mem_of_mem_drop (by rw[hd];exact .head _);have mb:b∈f:=mem_of_mem_drop (by rw[hd];exact .tail _ (.head _));have wa:=D.le a ma;have wb:=D.le b mb;have R:max a.length b.length<=w+(4-j):=Nat.max_le.mpr ⟨wa,wb⟩;have r2:=s2.fr.old I c0;refine tg_i (((y.fr st.fr).fr s2.fr).tg (m:= "plus") (p:= "Binary.plus")) fun zz=>?_;w_dflts r2;refine⟨_,_,rfl,x3,x1,ga,?_⟩;w_dflts r2;refine⟨_,_,rfl,x4,x2,gb,?_⟩;refine An (by decide) (Pb F (B:=B+K*(c+q.length)) (s2.at_.le ?_) ((y.fr st.fr).fr s2.fr) ((D.num a ma).ext s2.ext) ((D.num b mb).ext s2.ext) (AF wa (AF w4 (by decide))) (AF wb (AF w4 (by decide))) fun H3 C3 g s3 ng lg vg=>⟨by rw[G,u];exact sm (AF (le_of_succ_le a0) j0),hk _ _ trivial ⟨i+1,d++[g],C3,(Ag i 1 _).trans hi,n0,by show HO.list _=HO.list ((d++[g]).map Am);rw[AL];rfl,s2.trans s3,by rw[AI,u];rfl,(Q.ext s3.ext).app (.one ng (AF lg (Ab R))),fun s=>?_⟩⟩)
   .rw[AQ,<- Nat.add_assoc c];exact AF (AO (hK▸Ac 9 (Ab (AF R (AO (sub_le _ _) _)))) _) (AT (Nat.add_assoc B (K*(c+q.length)) K))
   .have o0:f.drop (2*(i+1))=t:=by
     rw[show 2*(i+1)=2*i+2 from rfl,<- List.drop_drop,hd];rfl
    have nr:∀z∈a::b::t,Num O z:=fun z hz=>(D.num z (mem_of_mem_drop (by rw[hd];exact hz))).ext s2.ext;rw[Fa,Hr s3.ext Q.num,o0,Hr s3.ext fun z hz=>nr z (.tail _ (.tail _ hz)),<- E s,hd];show _+(rd C3 s g+0)+_=_+(rd O s a+(rd O s b+_));have p0:=vg s;dsimp only at p0;omega
  .rintro Z Y ⟨i,d,O,hi,e2,rfl,s2,u,Q,E⟩;have r2:(Y++[HO.list (CX d)])[r]? =some (.list (CX f)):=Au (s2.fr.old I c0) _;refine(m0 _ _ (Al fun kn q0=>?_));w_dflts r2;refine⟨by rw[G];exact AH o (by decide),objA_i r2 ?_⟩;refine⟨by rw[G];exact AH o (by decide),by decide,?_⟩;have ei:(((CX f).length:Int)-((CX f).length:Int) % 2)=((2*h:Nat):Int):=by rw[G];omega
   w_left;rw[ei];refine objA_i r2 ?_;refine⟨_,by rw[G];exact AR (sm o),Fw,?_⟩;rw[List.map_drop.symm];refine objA_i (Au Ak _) (objA_i Ak ?_);have r0:i=h:=by simp at hi;exact hi
   subst r0;have k0:i+(f.length-2*i)=c:=by rw[J,Nat.two_mul,Nat.add_sub_add_right];exact add_sub_of_le (Nat.le_of_add_le_add_right (by rw[<- J,<- Nat.two_mul];exact f0))
   refine⟨by rw[G,G,length_drop,u,k0];exact AR (sm i0),q0 _ _ ?_⟩;have b0:(d++f.drop (2*i)).length=c:=by rw[AI,u,length_drop];exact k0
   have t0:2 ^ j=2*2 ^ (j-1):=by rw[show j=(j-1)+1 from(Nat.sub_add_cancel d0).symm,Nat.pow_succ,Nat.add_sub_cancel];exact mul_comm _ _
   refine⟨c,by rw[J];exact lt_add_of_pos_right g0,d++f.drop (2*i),j-1,_,O,some (.loc Y.length),b0.symm,rfl,(st.trans s2).trans ((Dq.self s2.at_ (((Fr.new _).app _).app _)).le (by rw[b0,hK];exact AO (Ac _ (AU _ _)) _)),by rw[List.map_append.symm];exact Ak,?_,by rw[b0];omega,AF (sub_le _ _) U,
    (Q.wide (by rw[h0];exact AM _)).app ⟨fun z hz=>(D.num z (mem_of_mem_drop hz)).ext s2.ext,fun z hz=>AF (D.le z (mem_of_mem_drop hz)) (by rw[h0];exact AO (le_succ _) _)⟩,fun s=>by rw[Fa];exact E s⟩
   exact((s2.at_.fr (Fr.new [HO.list (CX d)])).fr (Fr.new [HO.list (CX (f.drop (2*i)))])).new
end
def Jq(C:BS)(a:Nat->Bool):List Int->Int
 |[]=>0
 |g::r=>DF (BL C a g)+Jq C a r
theorem NT:∀C a g r,Jq C a (g::r)=DF (BL C a g)+Jq C a r:=fun b b b b=>rfl
theorem RP{C:BS}:∀{a:List Int},Jq C p (a++t)=Jq C p a+Jq C p t:=by
 intro b;induction b with
 |nil=>
  exact(Int.zero_add _).symm
 |cons a r c=>
  rw[cons_append,NT,NT,c];exact Eq.symm (Int.add_assoc _ _ _)
section
variable {W:Nat->Prop} {H:Aj} {L:CL} {C:BS} {B:Nat} {Φ:V->Aj->Prop}
theorem IX(F:BN X)(x:BC W H L C (B+63*t.length))(y:Cw W H k L)(D:H[n]? =some (.list (t.map V.int)))(E:¬W n)(G:∀g∈t,BV C g)(I:t.length<=16)
  (J:O6 W L H C B 6 (fun d=>Jq C d t) Φ):Ap X 19 "Binary.of_gates" [.loc k,.loc n] H Φ:=by
 refine Ao F 8 rfl ?_;have c:=y.tg (m:= "total") (p:= "Binary.total");w_dflts c;refine Ay (W:=W) (.inr ⟨n,rfl,D,E⟩) .refl fun guard o=>?_;refine BF (xs:=t) (f:=V.int) (fun(i post:List Int) j l=>EU (l=H) (EC fun(b:List (List Int))=>KT (j=.list (CX b)) (b.length=i.length) (Rows C 2 b) (∀d,Ek C d b=Jq C d i))) ?_ ?_ _ _
  ⟨rfl,[],rfl,rfl,⟨(fun s h=>by cases h),(fun s h=>by cases h)⟩,fun s=>rfl⟩
 .rintro i g post j l R A ⟨rfl,b,rfl,e,u,v⟩ K;have z:i.length<=16:=by have:=BU A;omega
  refine An (by decide) (Rl F (a:=[g,-1]) (cons_ne_nil _ _) (by simp;decide) fun q c=>⟨by rw[AG,e];exact AH z (by decide),K _ _ (o _ .refl) ⟨rfl,b++[q],?_,by rw[AI,AI,e];rfl,u.app (.one ⟨c.ne,fun a M=>P7 (G g (by rw[A];exact AZ _ (.head _))) .mone a (c.mem a M)⟩ c.le),fun d=>?_⟩⟩)
  .show HO.list _=HO.list ((b++[q]).map Am);rw[AL];rfl
  .rw[Fa,RP,v d];have:rd C d q=DF (BL C d g):=by
    unfold rd;rw[c.rd];show DF (BL C d g)+2 * -(DF (BL C d (-1)))=_;rw[Co];show DF (BL C d g)+2 * -0=DF (BL C d g);exact Eq.symm (Eq.trans (Eq.symm (Int.add_zero _)) (Eq.refl _))
   show _+(rd C d q+0)=_+(DF (BL C d g)+0);rw[this]
 .rintro j l ⟨rfl,b,rfl,e,u,v⟩;have fr:Fr (fun s=>False) l (l++[HO.list (CX b)]):=Fr.new _;exact An (by decide) (IJ F (B:=B) (w:=2) (by rw[e];exact x.fr fr) (y.fr fr.pure) Ak u (by decide) (by decide) (by rw[e];exact I) fun N O r s2 P lr Q=>J N O r ⟨fr.pure.trans s2.fr,s2.at_,s2.ext⟩ P lr fun d=>(Q d).trans (v d))
theorem LB(F:BN X)(h:H[n]? =some (.inst "Binary" []))(a:Φ .none (H.set n (.inst "Binary" [(ofString "circuit",v)]))):Ap X 1 "Binary.__init__" [.loc n,v] H Φ:=by
 refine Ao F 2 rfl ?_;exact objA_i h a
theorem Jn(F:BN X)(h:H[n]? =some (.inst "Circuit" []))(s:∀b,Fr (fun a=>a=n) H b->b[n]? =some (.inst "Circuit" [(ofString "kinds",.loc H.length),(ofString "parts_now",.loc (H.length+1)),(ofString "known",.loc (H.length+2))]) ->
  b[H.length]? =some (.list [sS "",sS "true"])->b[H.length+1]? =some (.list [.tup [],.tup []])->b[H.length+2]? =some (.dict [])->b.length=H.length+3->Φ .none b):Ap X 1 "Circuit.__init__" [.loc n] H Φ:=by
 refine Ao F 30 rfl (Al fun t i=>?_);have u:=Ax h;have k:(H++[HO.list [sS "",sS "true"]])[n]? =some (.inst "Circuit" []):=Au h _;refine objA_i k (i _ _ (Al fun t i=>?_));have l:=BE (o':=.inst "Circuit" (B3 [] (ofString "kinds") (.loc H.length))) k;have l2:((H++[HO.list [sS "",sS "true"]]).set n (.inst "Circuit" (B3 [] (ofString "kinds") (.loc H.length)))).length=H.length+1:=by rw[length_set,AI];rfl
 generalize m:(H++[HO.list [sS "",sS "true"]]).set n (.inst "Circuit" (B3 [] (ofString "kinds") (.loc H.length)))=d at l l2;have v:d[H.length]? =some (.list [sS "",sS "true"]):=by rw[<- m];exact Aq Ak (Nat.ne_of_gt u)
 have w:Fr (fun a=>a=n) H d:=by rw[<- m];exact(Fr.new (W:=fun a=>a=n) _).set (.inr rfl) _
 have p:=Au l [.list [.tup [],.tup []]];w_dflts p;refine(i _ _ ?_);have q:=BE (o':=.inst "Circuit" (B3 (B3 [] (ofString "kinds") (.loc H.length)) (ofString "parts_now") (.loc d.length))) p;have f:H.length≠n:=fun e=>by omega
 generalize g:(d++[HO.list [V.tup [],V.tup []]]).set n (.inst "Circuit" (B3 (B3 [] (ofString "kinds") (.loc H.length)) (ofString "parts_now") (.loc d.length)))=c at q;have j:c.length=H.length+2:=by rw[<- g,length_set,AI,l2];rfl
 have x:c[H.length]? =some (.list [sS "",sS "true"]):=by rw[<- g];exact Aq (Au v _) f
 have y:c[d.length]? =some (.list [.tup [],.tup []]):=by rw[<- g];exact Aq Ak (Ne.symm (fun e=>by omega))
 have z:Fr (fun a=>a=n) H c:=by rw[<- g];exact(w.app _).set (.inr rfl) _
 have r:=Au q [.dict []];show DH (.loc n) (ofString "known") (.loc c.length) (c++[.dict []]) _;refine Hg r ?_;refine s _ ((z.app _).set (.inr rfl) _) ?_ (Aq (Au x _) f) (Aq (Au (l2▸y) _) (fun e=>by omega)) (Aq (by have:=Ak (H:=c) (o:=.dict []);rw[j]at this;exact this) (fun e=>by omega)) (by rw[length_set,AI,j];rfl);rw[BE r,l2,j];rfl
end
abbrev Mx:=List (List Int×Int)
variable {C:Mx}
abbrev CH(m:Mx):List (V×V):=m.map fun p=>(Am p.1,V.int p.2)
def ms(C:BS)(a:Nat->Bool)(m:Mx)(t:List Int):Bool:=m.any fun p=>p.1==t&&BL C a p.2
def DI(m:Mx)(t:List Int):Int:=((m.find? fun p=>p.1==t).map (·.2)).getD (-1)
structure Uo(C:BS)(m:Mx):Prop where
 nd:(m.map (·.1)).Nodup
 g:∀p∈m,BV C p.2
theorem Uo.ext{a b:BS}(x:Uo a C)(h:a <+: b):Uo b C:=⟨x.nd,fun p c=>(x.g p c).ext h⟩
theorem Hy{a c:BS}(x:∀b∈C,BV a b.2)(h:a <+: c):ms c p C t=ms a p C t:=
 Dt fun b d=>congrArg _ (Av (x b d) h)
theorem CV{s:List Int}(h:Am s=Am t):s=t:=(List.map_inj_right fun x y e=>V.int.inj e).mp (V.tup.inj h)
theorem RL{s:List Int}:BY (Am s) (Am t)=(s==t):=by
 by_cases h:s=t
 .subst h;rw[(BB _ _).mpr rfl];simp
 .have:(s==t)=false:=beq_eq_false_iff_ne.mpr h;rw[this];exact Bool.eq_false_iff.mpr fun q=>h (CV ((BB _ _).mp q))
theorem Oi:CH (d8::C)=(Am d8.1,V.int d8.2)::CH C:=rfl
theorem LF{b:Mx}:CH (C++b)=CH C++CH b:=AL ..
theorem HG:BI (CH C) (Am t)=(C.find? fun p=>p.1==t).map fun p=>V.int p.2:=by
 induction C with
 |nil=>rfl
 |cons p r a=>
  unfold BI at a⊢;rw[Oi,find?_cons,find?_cons,RL];cases p.1==t with
  |true=>rfl
  |false=>exact a
theorem F7:(BI (CH C) (Am t)).getD (.int (-1))=.int (DI C t):=by
 rw[HG];unfold DI;cases C.find? fun p=>p.1==t<;>rfl
theorem CS{a:BS}(x:∀p∈C,BV a p.2):BV a (DI C t):=by
 unfold DI;cases e:(C.find? fun p=>p.1==t)with
 |none=>exact .mone
 |some p=>exact x p (List.mem_of_find?_eq_some e)
theorem CJ{C:BS}:∀{m:Mx},(m.map (·.1)).Nodup->BL C p (DI m t)=ms C p m t:=by
 intro zl;induction zl with
 |nil=>
  intro _;exact Co
 |cons zqpq r ihh=>
  intro nd;rw[AW,nodup_cons]at nd;have ih:=ihh nd.2;unfold DI ms at ih⊢;rw[find?_cons,any_cons];refine EY (zqpq.1==t) (fun e=>?_) fun e=>?_
  .rw[Bool.false_and,Bool.false_or];exact ih
  .rw[Bool.true_and];have:(r.any fun zqpq=>zqpq.1==t&&BL C p zqpq.2)=false:=List.any_eq_false.mpr fun q hq=>by
    have:¬q.1=t:=fun h=>nd.1 (List.mem_map.mpr ⟨q,hq,h.trans (eq_of_beq e).symm⟩);simp[this]
   rw[this,Bool.or_false];rfl
theorem DJ{zqCq:BS}(h:ms zqCq p C t=true):t∈C.map (·.1):=by
 obtain⟨zqpq,hp,h⟩:=List.any_eq_true.mp h;rw[and_eq_true]at h;exact List.mem_map.mpr ⟨zqpq,hp,eq_of_beq h.1⟩
theorem UY{b:BS}:ms b p (C.filter fun a=>a.2 != -1) t=ms b p C t:=by
 unfold ms;induction C with
 |nil=>rfl
 |cons a r c=>
  rw[filter_cons,any_cons,<- c];by_cases h:a.2= -1
  .have:(a.2 != -1)=false:=by simpa using h
   rw[this];simp only[false_eq_true,if_false];rw[h,Co,Bool.and_false,Bool.false_or]
  .have:(a.2 != -1)=true:=by simpa using h
   rw[this];simp only[if_true];rw[any_cons]
theorem Ur{C:BS}:∀{m:Mx},(∀a∈m,BL C p a.2=v7 a.1)->ms C p m t=((m.map (·.1)).contains t&&v7 t):=by
 intro d;induction d with
 |nil=>
  intro _;exact rfl
 |cons a r b=>
  intro h;have c:=b fun q f=>h q (.tail _ f);unfold ms at c⊢;rw[any_cons,AW,List.contains_cons,c,h a (.head _)];by_cases e:a.1=t
  .subst e;simp
  .have g:(a.1==t)=false:=by simpa using e
   have i:(t==a.1)=false:=by simpa using fun q:t=a.1=>e q.symm
   rw[g,i];simp
section
variable {W:Nat->Prop} {H H':Aj} {L:CL} {C:BS} {B:Nat} {Φ:V->Aj->Prop}
def Cb(W:Nat->Prop)(H:Aj)(v:V)(a:Int)(m:Mx):Prop:=EC fun n=>DD (v=.tup [.int a,.loc n]) (H[n]? =some (.dict (CH m))) (¬W n)
theorem Cb.fr{m:Mx}(x:Cb W H v i m)(f:Fr W H H'):Cb W H' v i m:=by obtain⟨n,a,b,c⟩:=x;exact⟨n,a,f.old b c,c⟩
structure Fz(W:Nat->Prop)(H:Aj)(s:Nat)(L:CL):Prop where
 at_:∃k,H[s]? =some (.inst "Matrices" [(ofString "circuit",.loc L.c),(ofString "n",k)])
 w:¬W s
theorem Fz.fr(x:Fz W H n L)(f:Fr W H H'):Fz W H' n L:=⟨by obtain⟨k,a⟩:=x.at_;exact⟨k,f.old a x.w⟩,x.w⟩
theorem Fz.tg(x:Fz W H n L){m p:String}(b:autoParam ((ofString m==ofString "circuit")=false) rf)(c:autoParam ((ofString m==ofString "n")=false) rf)(d:autoParam (Fl "Matrices" (ofString m)=some p) rf):Ga H n (ofString m) p:=by
 obtain⟨k,a⟩:=x.at_;exact CC a rfl (by rw[lookup_cons,b,lookup_cons,c];rfl) d
abbrev Bu(m:Mx):List V:=m.map fun p=>V.tup [Am p.1,V.int p.2]
theorem FQ{k:V}(h:∀p∈m,p.1≠k):BK m k v=m++[(k,v)]:=by
 induction m with
 |nil=>rfl
 |cons p r a=>
  rw[Ch,if_neg (fun q=>h p (.head _) ((BB _ _).mp q)),a fun q b=>h q (.tail _ b)];rfl
theorem P0(F:BN X){m:Mx}(o:H[n]? =some (.list (Bu m)))(r:¬W n)(s:∀n,W n->n<H.length)(nd:(m.map (·.1)).Nodup)(A:m.length<=60)
  (t:∀v H',Fr (fun D=>False) H H'->Cb W H' v i (m.filter fun p=>p.2 != -1)->Φ v H'):Ap X 1 "PlainMatrices.made" [.loc k,.int i,.loc n] H Φ:=by
 refine Ao F 11 rfl ?_;refine Ay (W:=W) (.inr ⟨n,rfl,o,r⟩) .refl fun guard d=>?_;refine BF (xs:=m) (f:=(fun p=>V.tup [Am p.1,.int p.2])) (fun(b post:Mx) c H'=>EU (H'=H) (c=.dict (CH (b.filter fun p=>p.2 != -1)))) ?_ ?_ _ _ ⟨rfl,rfl⟩
 .rintro b p post c H' u j ⟨rfl,rfl⟩ x;have step:∀a,a=HO.dict (CH ((b++[p]).filter fun p=>p.2 != -1))->u a H':=fun a e=>x _ _ (d _ .refl) ⟨rfl,e⟩;w_left;cases l:(p.2 != -1)with
  |false=>
   refine step _ ?_;rw[filter_append,filter_cons,l];simp
  |true=>
   have g:(CH (b.filter fun p=>p.2 != -1)).length<=60:=by
    rw[AG];refine AF (Af _ _) ?_;have:=congrArg List.length j;rw[AI]at this;omega
   refine⟨BH _,AH g (by decide),step _ ?_⟩;rw[FQ,filter_append,filter_cons,l,LF]
   .rfl
   .intro q h e;obtain⟨y,z,rfl⟩:=AS h;rw[j,AL]at nd;exact(List.nodup_append.mp nd).2.2 y.1 (mem_map_of_mem (List.mem_filter.mp z).1) p.1 (.head _) (CV e)
 .rintro c H' ⟨rfl,rfl⟩;exact t _ _ (Fr.new _) ⟨_,rfl,Ak,fun w=>Nat.lt_irrefl _ (s _ w)⟩
def Yk:V->Int
 |.int i=>i
 |_=>0
def Za:V->List Int
 |.tup l=>l.map Yk
 |_=>[]
theorem TY:∀{l:List Int},(l.map V.int).map Yk=l:=by
 intro b;induction b with
 |nil=>
  exact rfl
 |cons a r c=>
  rw[AW,AW,c];rfl
theorem OF:∀{l:List (List Int)},(l.map Am).map Za=l:=by
 intro b;induction b with
 |nil=>
  exact rfl
 |cons a r c=>
  rw[AW,AW,c];show(a.map V.int).map Yk::r=_;rw[TY]
theorem PL(h:l.Perm (S.map Am)):∃a:List (List Int),l=a.map Am/\a.Perm S:=by
 have c:∀m:List V,(∀v∈m,∃t,v=Am t)->∃b:List (List Int),m=b.map Am:=by
  intro m d;induction m with
  |nil=>exact⟨[],rfl⟩
  |cons v r e=>
   obtain⟨i,rfl⟩:=d v (.head _);obtain⟨b,rfl⟩:=e fun u f=>d u (.tail _ f);exact⟨i::b,rfl⟩
 obtain⟨b,rfl⟩:=c l fun v g=>by
  obtain⟨i,_,rfl⟩:=AS (h.mem_iff.mp g);exact⟨i,rfl⟩
 refine⟨b,rfl,?_⟩;have:=h.map Za;rwa[OF,OF]at this
theorem Bz(f:S.length<60)(nd:S.Nodup)(ne:∀t∈S,t≠[])(g:∀c:List (List Int),c.Perm S->(c.map Am).Pairwise (fun a b=>Ge a b=true)->z (.loc H.length) (H++[.list (c.map Am)])):D7 (S.map Am) H z:=by
 refine⟨by rw[AG];exact f,List.Pairwise.map _ (fun a b q e=>q (CV e)) nd,.inr (.inr ⟨S,rfl,ne⟩),fun m h i=>?_⟩;obtain⟨c,rfl,d⟩:=PL h;exact g c d i
theorem B9{m:Mx}:(CH m).map (·.1)=(m.map (·.1)).map Am:=by rw[List.map_map,List.map_map];rfl
theorem IV(F:BN X){m:Mx}(x:Cb W H v i m)(nd:(m.map (·.1)).Nodup)(ne:∀t∈m.map (·.1),t≠[])(q:m.length<60)(r:∀c,W c->c<H.length)
  (y:∀c H' (d:List (List Int)),Fr (fun E=>False) H H'->d.Perm (m.map (·.1))->(d.map Am).Pairwise (fun a b=>Ge a b=true)->H'[c]? =some (.list ((d.map (DI m)).map V.int))->¬W c->Φ (.loc c) H'):Ap X 1 "PlainMatrices.gates_of" [.loc n,v] H Φ:=by
 obtain⟨c,rfl,s,G⟩:=x;refine Ao F 13 rfl ?_;w_dflts s
 try (delta Ee;dsimp only)
 rw[B9];refine Bz (by rw[AG];exact q) nd ne fun d j z=>?_;refine Ay (W:=W) (H₀:=H++[.list (d.map Am)]) (.inr ⟨_,rfl,Ak,(fun w=>Nat.lt_irrefl _ (r _ w))⟩) .refl fun guard k=>?_;refine BF (xs:=d) (f:=Am) (fun g post h H'=>EU (H'=H++[.list (d.map Am)]) (h=.list ((g.map (DI m)).map V.int))) ?_ ?_ _ _ ⟨rfl,rfl⟩
 .rintro g t post h H' I u ⟨rfl,rfl⟩ A;have D:BI (CH m) (Am t)=some (.int (DI m t)):=by
   rw[HG];unfold DI;cases e:(m.find? fun p=>p.1==t)with
   |some p=>rfl
   |none=>
    obtain⟨p,l,rfl⟩:=AS (j.mem_iff.mp (by rw[u];exact AZ _ (.head _)));have:=List.find?_eq_none.mp e p l;simp at this
  refine objA_i (Au s [.list (d.map Am)]) ?_;have o:g.length<=m.length:=by have:=j.length_eq;rw[u,AI,AG]at this;omega
  refine⟨_,BH t,D,by rw[AG,AG];exact AV (AH o q) (by decide),A _ _ (k _ .refl) ⟨rfl,?_⟩⟩;rw[AL,AL];rfl
 .rintro h H' ⟨rfl,rfl⟩;exact y _ _ d ((Fr.new _).app _) j z Ak fun w=>by have:=r _ w;rw[AI]at this;simp at this;omega
end
def Un(u:Nat)(b:List (List Int)):Prop:=∀t∈b,∃a:Nat,a<u/\t=[(a:Int)]
theorem JP:∀{n:Nat}{l:List Nat},l.Nodup->(∀a∈l,a<n)->l.length<=n:=by
 intro d;induction d with
 |zero=>
  intro l m h;cases l with
  |nil=>exact AM _
  |cons a r=>exact absurd (h a (.head _)) (not_lt_zero _)
 |succ n c=>
  intro l nd h;have f:=c (l:=l.filter (· != n)) (nd.filter _) fun a g=>by
   have:=List.mem_filter.mp g;have i:a≠n:=by simpa using this.2
   exact lt_of_le_of_ne (le_of_lt_succ (h a this.1)) i
  have o:l.length<=(l.filter (· != n)).length+1:=by
   clear f h;induction l with
   |nil=>simp
   |cons a r j=>
    rw[nodup_cons]at nd;rw[filter_cons];by_cases e:a=n
    .subst e;have:r.filter (· != a)=r:=List.filter_eq_self.mpr fun b k=>by
      have:b≠a:=fun q=>nd.1 (q▸k);simpa using this
     simp[this]
    .have:(a != n)=true:=by simpa using e
     rw[this];simp only[if_true,AQ];have:=j nd.2;omega
  omega
theorem Qk(h:Un n S):∃l:List Nat,S=l.map (fun a:Nat=>[(a:Int)])/\∀a∈l,a<n:=by
 induction S with
 |nil=>exact⟨[],rfl,fun k h=>by cases h⟩
 |cons t r d=>
  obtain⟨a,f,rfl⟩:=h t (.head _);obtain⟨l,rfl,g⟩:=d fun i j=>h i (.tail _ j);exact⟨a::l,rfl,fun b c=>(Ae c).elim (fun e=>e▸f) fun c=>g b c⟩
theorem Di(h:Un n S)(nd:S.Nodup):S.length<=n:=by
 obtain⟨l,rfl,c⟩:=Qk h;rw[AG];exact JP (of_map (R:=fun a b=>a≠b) _ (fun a b q e=>q (by rw[e])) nd) c
theorem Qv:∀a<3,∀b<3,(reduceHash (Builtin.Tuple.tupleHashOf [hashInt (Int.ofNat a)])==reduceHash (Builtin.Tuple.tupleHashOf [hashInt (Int.ofNat b)]))=(a==b):=by decide +kernel
theorem Km(i:n<=3)(h:Un n S)(nd:S.Nodup):(S.map fun t=>kh Y (Am t)).Nodup:=by
 refine List.pairwise_map.mpr ?_;refine nd.imp_of_mem fun{s t} d f c e=>?_;obtain⟨a,j,rfl⟩:=h s d;obtain⟨b,k,rfl⟩:=h t f;have:=Qv a (by omega) b (by omega);have g:reduceHash (Builtin.Tuple.tupleHashOf [hashInt (Int.ofNat a)])=reduceHash (Builtin.Tuple.tupleHashOf [hashInt (Int.ofNat b)]):=e;rw[g]at this;simp at this;exact c (by rw[this])
theorem Gx{k:V}(h:k∈m.map (·.1)):(BK m k v).map (·.1)=m.map (·.1):=by
 induction m with
 |nil=>cases h
 |cons p r a=>
  rw[Ch];by_cases e:p.1=k
  .rw[if_pos ((BB _ _).mpr e)];rfl
  .rw[if_neg fun q=>e ((BB _ _).mp q),AW,a (mem_of_ne_of_mem (fun q=>e q.symm) h),AW]
theorem D3{k:V}(h:k∉m.map (·.1)):(BK m k v).map (·.1)=m.map (·.1)++[k]:=by
 rw[FQ fun p a (e:p.1=k)=>h (by rw[<- e];exact mem_map_of_mem a),AL];rfl
theorem HQ:∀{k l:List (V×V)},(l.map (·.1)).Nodup->((BG l k).map (·.1)).Nodup/\∀x,x∈(BG l k).map (·.1)↔x∈l.map (·.1)\/x∈k.map (·.1):=by
 intro g;induction g with
 |nil=>
  intro l nd;exact⟨nd,fun x=>⟨.inl,fun h=>h.elim id fun h=>by cases h⟩⟩
 |cons p r f=>
  intro l nd;by_cases h:p.1∈l.map (·.1)
  .have e:=Gx (v:=p.2) h;obtain⟨c,d⟩:=f (l:=BK l p.1 p.2) (by rw[e];exact nd);refine⟨c,fun x=>(d x).trans ?_⟩;rw[e,AW,mem_cons];exact⟨fun q=>q.elim .inl fun q=>.inr (.inr q),fun q=>q.elim .inl fun q=>q.elim (fun q=>.inl (q▸h)) .inr⟩
  .have e:=D3 (v:=p.2) h;obtain⟨c,d⟩:=f (l:=BK l p.1 p.2) (by
    rw[e];exact List.nodup_append.mpr ⟨nd,by exact pairwise_singleton _ _,fun a i b j q=>h (by rw[AJ j]at q;exact q▸i)⟩)
   refine⟨c,fun x=>(d x).trans ?_⟩;rw[e,AW,mem_cons,mem_append,mem_singleton];exact⟨fun q=>q.elim (fun q=>q.elim .inl fun q=>.inr (.inl q)) fun q=>.inr (.inr q),fun q=>q.elim (fun q=>.inl (.inl q)) fun q=>q.elim (fun q=>.inl (.inr q)) .inr⟩
section
variable {W:Nat->Prop} {H H':Aj} {L:CL} {C:BS} {B:Nat} {Φ:V->Aj->Prop}
theorem Jd(F:BN X){J:V}{O:Int}{a b:Mx}(P:Cb W H v i a)(Q:Cb W H J O b)(A:(a.map (·.1)).Nodup)(K:(b.map (·.1)).Nodup)(y:Un k (a.map (·.1)))(z:Un k (b.map (·.1)))(g:k<=3)
  (S:∀(c:List (List Int))(H':Aj)(f:Nat),Fr (fun zz=>False) H H'->H.length<=f->H'[f]? =some (.list (c.map Am))->c.Nodup->Un k c->(∀t,t∈c↔t∈a.map (·.1)\/t∈b.map (·.1))->Φ (.loc f) H'):Ap X 1 "PlainMatrices.keys_of" [.loc n,v,J] H Φ:=by
 obtain⟨f,rfl,T,_⟩:=P;obtain⟨m,rfl,U,_⟩:=Q;have ne:∀{c:List (List Int)},Un k c->∀t∈c,t≠[]:=fun h t u=>by obtain⟨x,_,rfl⟩:=h t u;simp
 have la:=Di y A;have M:=Di z K;rw[AG]at la M;have kk:∀{m:Mx},(CH m).map (fun p=>kh X.w p.1)=(m.map (·.1)).map fun t=>kh X.w (Am t):=fun{m}=>by rw[List.map_map,List.map_map];rfl
 refine Ao F 12 rfl ?_;w_dflts T;refine⟨⟨_,B9,ne y⟩,by rw[kk];exact Km g y A,by rw[AG];exact AF la (AF g (by decide)),?_⟩;w_dflts U;refine⟨⟨_,B9,ne z⟩,by rw[kk];exact Km g z K,by rw[AG,AG];exact AF (Ad (AF la g) (AF M g)) (by decide),?_⟩;have D:((CH a).map (·.1)).Nodup:=by rw[B9];exact List.Pairwise.map _ (fun a b q e=>q (CV e)) A
 obtain⟨N,E⟩:=HQ (k:=CH b) D;obtain⟨c,e,k3⟩:∃c:List (List Int),(BG (CH a) (CH b)).map (·.1)=c.map Am/\True:=by
  have:∀l:List V,(∀d∈l,∃t,d=Am t)->∃c:List (List Int),l=c.map Am:=by
   intro l h;induction l with
   |nil=>exact⟨[],rfl⟩
   |cons d r Y=>
    obtain⟨t,rfl⟩:=h d (.head _);obtain⟨c,rfl⟩:=Y fun k g=>h k (.tail _ g);exact⟨t::c,rfl⟩
  obtain⟨c,e⟩:=this _ fun d Z=>by
   rcases(E d).mp Z with h |h
   all_goals
    rw[B9]at h;obtain⟨t,_,rfl⟩:=AS h;exact⟨t,rfl⟩
  exact⟨c,e,trivial⟩
 rw[e]at N E;have mem:∀t,t∈c↔t∈a.map (·.1)\/t∈b.map (·.1):=fun t=>by
  have inj:∀{l:List (List Int)},Am t∈l.map Am↔t∈l:=fun{l}=>⟨fun h=>by obtain⟨t',h1,h2⟩:=AS h;rw[<- CV h2];exact h1,fun h=>mem_map_of_mem h⟩;have:=E (Am t);rw[B9,B9,inj,inj,inj]at this;exact this
 have j:c.Nodup:=of_map (R:=fun a b=>a≠b) _ (fun a b q e=>q (congrArg _ e)) N;have s:Un k c:=fun t u=>((mem t).mp u).elim (y t) (z t);refine objA_i (Ak (H:=H) (o:=.dict (BG (CH a) (CH b)))) ?_
 try (delta Ee;dsimp only)
 rw[e];refine Bz (AH (AF (Di s j) g) (by decide)) j (ne s) fun G I hs=>?_;exact S G _ _ ((Fr.new _).app _) (by rw[AI];exact AU _ _) Ak (I.nodup_iff.mpr j) (fun t u=>s t (I.mem_iff.mp u)) fun t=>I.mem_iff.trans (mem t)
end
structure Um(W:Nat->Prop)(H:Aj)(C:BS)(u:Nat)(v:V)(m:Mx):Prop where
 at_:Cb W H v 1 m
 mat:Uo C m
 un:Un u (m.map (·.1))
section
variable {W:Nat->Prop} {H H':Aj} {L:CL} {C C':BS} {B u s:Nat} {Φ:V->Aj->Prop} {va vb:V} {a b:Mx}
theorem Um.go(x:Um W H C u va a)(f:Fr W H H')(h:C <+: C'):Um W H' C' u va a:=⟨x.at_.fr f,x.mat.ext h,x.un⟩
theorem Um.len(x:Um W H C u va a):a.length<=u:=by have:=Di x.un x.mat.nd;rwa[AG]at this
def XK(W d:Nat->Prop)(L:CL)(H:Aj)(C:BS)(B u:Nat)(f:(Nat->Bool)->List Int->Bool)(Φ:V->Aj->Prop):Prop:=∀H' C' v m,Dq W L H C B H' C'->Um d H' C' u v m->(∀c t,ms C' c m t=f c t)->Φ v H'
theorem Jc{i:Pos}(h:GX c y E H=fun Φ=>Φ v H)(j:Gb X n [e] c E H fun g d=>Φ (.tup (v::g)) d) :
  Br X n (.Tuple [.Name y q,e] k i) c E H Φ:=by
 show GX c y E H fun v d=>Gb X n [e] c E d fun g f=>Φ (.tup (v::g)) f;rw[h];exact j
theorem Fr.at{W:Nat->Prop}{L:CL}(x:BC W H L C B)(f:Fr (fun c=>False) H H'):Dq W L H C B H' C:=Dq.self x f
theorem HY{f:List Int->Bool}{m:Mx}(h:∀c∈m,BL C p c.2=f c.1)(d:∀t,f t=true->t∈m.map (·.1)):ms C p (m.filter fun c=>c.2 != -1) t=f t:=by
 rw[UY,Ur h];refine EY (f t) (fun e=>?_) fun e=>?_
 .exact Bool.and_false _
 .rw[Bool.and_true,contains_iff_mem];exact d t e
theorem YE{m:Mx}:t∈m.map (·.1)↔∃p∈m,p.1=t:=mem_map
theorem TW{m:Mx}{q:List Int×Int->Bool}(h:(m.map (·.1)).Nodup):((m.filter q).map (·.1)).Nodup:=h.sublist (List.filter_sublist.map _)
theorem UF{m:Mx}{q:List Int×Int->Bool}(h:Un u (m.map (·.1))):Un u ((m.filter q).map (·.1)):=fun t c=>h t ((List.filter_sublist.map _).subset c)
theorem Ka(F:BN X){m:Mx}(h:u<=3)(e:H[n]? =some (.list (Bu m)))(f:∀k,W k->k<n)(d:Uo C m)(c:Un u (m.map (·.1)))
  (i:∀H' v,Fr (fun o=>False) H H'->Um W H' C u v (m.filter fun p=>p.2 != -1)->Φ v H'):Ap X 1 "PlainMatrices.made" [.loc s,.int 1,.loc n] H Φ:=
 P0 F e (fun w=>Nat.lt_irrefl _ (f _ w)) (fun k w=>AV (f k w) (Ax e)) d.nd (by have:=Di c d.nd;rw[AG]at this;exact AF this (AF h (by decide))) fun v H' fr j=>i H' v fr ⟨j,⟨TW d.nd,fun p l=>d.g p (List.mem_filter.mp l).1⟩,UF c⟩
theorem Eb{f:(Nat->Bool)->List Int->Bool}(D:∀H',Fr W H H'->K H')(E:S.length<60)(x:BC W H L C (B+S.length))
  (step:∀c,c∈S->∀(l:List (List Int×Int)) H' C' y (n:HO->Aj->Prop),l.length<60->Dq W L H C (y+1) H' C'->(∀r j g,Dq W L H' C' y r j->BV j g->(∀e,BL j e g=f e c)->n (.list (Bu l++[.tup [Am c,.int g]])) r)->w (Am c) (.list (Bu l)) H' n)
  (fin:∀H' C' m,Dq W L H C B H' C'->m.map (·.1)=S->(∀p∈m,BV C' p.2)->(∀e,∀p∈m,BL C' e p.2=f e p.1)->N (.list (Bu m)) H'):CU w K (S.map Am) (.list (Bu [])) H N:=by
 refine BF (xs:=S) (f:=Am) (fun(k post:List (List Int)) i H'=>Dd fun(m:Mx) (C':BS)=>QZ (i=.list (Bu m)) (m.map (·.1)=k) (Dq W L H C (B+post.length) H' C') (∀p∈m,BV C' p.2) (∀e,∀p∈m,BL C' e p.2=f e p.1)) ?_ ?_ _ _
  ⟨[],C,rfl,rfl,Dq.self x .refl,(fun z h=>nomatch h),fun z z h=>nomatch h⟩
 .rintro k c post i H' n A ⟨m,C',rfl,o,st,q,t⟩ v;have F:m.length<S.length:=by rw[<- AG (f:=(·.1)),o];exact BU A
  refine step c (A▸AZ _ (.head _)) m H' C' (B+post.length) n (AV F E) st fun r j g s2 G I=>?_;rw[show Bu m++[V.tup [Am c,.int g]]=Bu (m++[(c,g)]) by unfold Bu;rw[AL];rfl];refine v _ _ (D _ (st.fr.trans s2.fr)) ⟨_,j,rfl,by rw[AL,o];rfl,st.trans s2,fun p d=>?_,fun e p d=>?_⟩
  .rcases AY d with d |d
   .exact(q p d).ext s2.ext
   .rw[AJ d];exact G
  .rcases AY d with d |d
   .rw[Av (q p d) s2.ext];exact t e p d
   .rw[AJ d];exact I e
 .rintro i H' ⟨m,C',rfl,o,st,q,t⟩;exact fin H' C' m st o q t
theorem Hv{l:List (List Int×Int)}(h:l.length<60):(Bu l).length<Ar:=by unfold Bu;rw[AG];exact AV h (by decide)
theorem Mo(F:BN X){E:Nat->Prop}(M:∀n,E n->n<H.length)(r:u<=3)(x:BC W H L C (B+3))(y:Fz W H s L)(e:Um W H C u va a)(i:Um W H C u vb b)
  (N:XK W E L H C B u (fun c t=>ms C c a t||ms C c b t) Φ):Ap X 9 "PlainMatrices.union" [.loc s,va,vb] H Φ:=by
 obtain⟨na,rfl,O,P⟩:=e.at_;obtain⟨nb,rfl,Q,R⟩:=i.at_;refine Ao F 14 rfl (Al fun kn z=>?_);have t:=y.tg (m:= "keys_of") (p:= "PlainMatrices.keys_of");w_dflts t;refine An (by decide) (Jd F e.at_ i.at_ e.mat.nd i.mat.nd e.un i.un r fun ks H1 n fr S T nd G mem=>(z _ _ ?_));refine tg_i ((y.fr fr.pure).tg (m:= "made") (p:= "PlainMatrices.made")) fun I=>?_;have lk:=Di G nd;refine Ay (W:=W) (.inr ⟨n,rfl,T,(fun w=>Nat.lt_irrefl _ (AK (x.wl _ w) S))⟩) .refl fun guard A=>?_;refine Eb (B:=B) (f:=fun c t=>ms C c a t||ms C c b t) A (AH (AF lk r) (by decide)) ((x.fr fr).le (AO (AF lk r) _)) (fun d I m H' C' B' k' U st z=>?_) fun H' C' m st D V Y=>?_
 .have j:=st.fr.old (fr.old O id) P;have l:=st.fr.old (fr.old Q id) R;obtain⟨_,Z⟩:=((y.fr fr.pure).fr st.fr).at_;show Br X 8 _ _ _ _ _;refine Jc rfl ?_;refine EL rfl Z rfl rfl st.at_.tg ?_;refine objA_i j ?_;refine OV j (BH d) ?_;rw[F7];refine objA_i l ?_;refine OV l (BH d) ?_;rw[F7];have J:=CS (t:=d) e.mat.g;have K:=CS (t:=d) i.mat.g;exact An (by decide) (GU F st.at_ (J.ext st.ext) (K.ext st.ext) fun H2 C2 g s2 h2 q2=>⟨Hv U,z H2 C2 g s2 h2 fun c=>(q2 c).trans (show(BL C' c (DI a d)||BL C' c (DI b d))=_ by rw[Av J st.ext,Av K st.ext,CJ e.mat.nd,CJ i.mat.nd])⟩)
 .have o:Fr (fun I=>False) H' (H'++[.list (Bu m)]):=Fr.new _;refine An (by decide) (Ka F r Ak (fun k w=>AK (M k w) (AF fr.len st.fr.len)) ⟨by rw[D];exact nd,V⟩ (by rw[D];exact G) fun H4 v q hm=>N H4 C' v _ ⟨fr.pure.trans (st.fr.trans (o.trans q).pure),(st.at_.fr o).fr q,st.ext⟩ hm fun c t=>?_);exact HY (f:=fun t=>ms C c a t||ms C c b t) (Y c) fun t h=>by
   rw[D];exact(mem t).mpr ((or_eq_true _ _▸h:ms C c a t=true\/ms C c b t=true).imp DJ DJ)
set_option tactic.hygienic true in
theorem Gp{m:Mx}(h:t∈m.map (·.1)):BI (CH m) (Am t)=some (.int (DI m t)):=by
 rw[HG];unfold DI;cases e:(m.find? fun p=>p.1==t);rotate_left
 .rename_i p;rfl
 .obtain⟨p,c,rfl⟩:=AS h;have:=List.find?_eq_none.mp e p c;simp at this
theorem Lw(h:Un u S):∀t∈S,t≠[]:=fun t c=>by obtain⟨x,_,rfl⟩:=h t c;simp
theorem M0(F:BN X){K:Nat->Prop}(R:∀n,K n->n<H.length)(q:u<=3)(x:BC W H L C (B+3))(y:Fz W H s L)(e:Um W H C u va a)(A:Um W H C u vb b)
  (S:XK W K L H C B u (fun c t=>ms C c a t&& !ms C c b t) Φ):Ap X 9 "PlainMatrices.minus" [.loc s,va,vb] H Φ:=by
 obtain⟨na,rfl,M,T⟩:=e.at_;obtain⟨nb,rfl,U,V⟩:=A.at_;refine Ao F 15 rfl ?_;refine tg_i (y.tg (m:= "made") (p:= "PlainMatrices.made")) fun N=>?_;have lk:=e.len;w_dflts M
 try (delta Ee;dsimp only)
 rw[B9];refine Bz (by rw[AG];exact AH (AF lk q) (by decide)) e.mat.nd (Lw e.un) fun r z hs=>?_;generalize i:H++[.list (r.map Am)]=O;have fr:Fr (fun N=>False) H O:=by rw[<- i];exact Fr.new _
 have D:O[H.length]? =some (.list (r.map Am)):=by rw[<- i];exact Ak
 have nd:r.Nodup:=z.nodup_iff.mpr e.mat.nd;have P:Un u r:=fun t Y=>e.un t (z.mem_iff.mp Y);have lk:=Di P nd;refine Ay (W:=W) (.inr ⟨_,rfl,D,x.new⟩) .refl fun guard E=>?_;refine Eb (B:=B) (f:=fun c t=>ms C c a t&& !ms C c b t) E (AH (AF lk q) (by decide)) ((x.fr fr).le (AO (AF lk q) _)) (fun d G m H' C' B' k' Z st hk=>?_) fun H' C' m st I hg hv=>?_
 .have j:=st.fr.old (fr.old U id) V;obtain⟨_,ym⟩:=((y.fr fr.pure).fr st.fr).at_;show Br X 8 _ _ _ _ _;refine Jc rfl ?_;refine EL rfl ym rfl rfl st.at_.tg ?_;refine objA_i (st.fr.old (fr.old M id) T) ?_;refine⟨_,BH d,Gp (z.mem_iff.mp G),?_⟩;refine objA_i j ?_;refine OV j (BH d) ?_;rw[F7];have Q:=CS (t:=d) e.mat.g;have J:=CS (t:=d) A.mat.g;exact An (by decide) (D6 F st.at_ (Q.ext st.ext) (J.ext st.ext).neg fun H2 C2 g s2 h2 q2=>⟨Hv Z,hk H2 C2 g s2 h2 fun c=>(q2 c).trans (show(BL C' c (DI a d)&&BL C' c (-DI b d))=_ by rw[B6 (J.ext st.ext),Av Q st.ext,Av J st.ext,CJ e.mat.nd,CJ A.mat.nd])⟩)
 .have l:Fr (fun N=>False) H' (H'++[.list (Bu m)]):=Fr.new _;refine An (by decide) (Ka F q Ak (fun k w=>AK (R k w) (AF fr.len st.fr.len)) ⟨by rw[I];exact nd,hg⟩ (by rw[I];exact P) fun H4 v o hm=>S H4 C' v _ ⟨fr.pure.trans (st.fr.trans (l.trans o).pure),(st.at_.fr l).fr o,st.ext⟩ hm fun c t=>?_);exact HY (f:=fun t=>ms C c a t&& !ms C c b t) (hv c) fun t h=>by
   rw[I];exact z.mem_iff.mpr (DJ ((and_eq_true _ _▸h:ms C c a t=true/\_).1))
end
structure Pg{K:Type}(kV:K->V)(base:Nat)(H:Aj)(n:Nat)(keys:List K)(loc:K->Nat)(cont:K->List V):Prop where
 at_:H[n]? =some (.dict (keys.map fun k=>(kV k,.loc (loc k))))
 ls:∀k∈keys,H[loc k]? =some (.list (cont k))/\base<=loc k/\loc k≠n
 inj:∀k∈keys,∀k'∈keys,loc k=loc k'->k=k'
 nd:keys.Nodup
 off:∀k,k∉keys->cont k=[]
section
variable {K:Type} [DecidableEq K] {kV:K->V} {base n:Nat} {H H':Aj} {keys:List K} {loc:K->Nat} {cont:K->List V} {k:K} {v:V} {Φ:V->Aj->Prop}
theorem KK(d:∀a b,kV a=kV b->a=b):BI (keys.map fun k=>(kV k,V.loc (loc k))) (kV k)=if k∈keys then some (.loc (loc k))else none:=by
 induction keys with
 |nil=>rfl
 |cons a r c=>
  unfold BI at c⊢;rw[AW,find?_cons];by_cases e:a=k
  .subst e;have:BY (kV a) (kV a)=true:=(BB _ _).mpr rfl;rw[if_pos (.head _)];simp only[this];rfl
  .have:BY (kV a) (kV k)=false:=Bool.eq_false_iff.mpr fun q=>e (d _ _ ((BB _ _).mp q));simp only[this];rw[c];by_cases h:k∈r
   .rw[if_pos h,if_pos (.tail _ h)]
   .rewrite[if_neg h,if_neg fun q=>h (mem_of_ne_of_mem (fun q=>e q.symm) q)];rfl
theorem Pg.keep(x:Pg kV base H n keys loc cont)(f:∀m o,m=n\/base<=m->H[m]? =some o->H'[m]? =some o):Pg kV base H' n keys loc cont:=
 ⟨f _ _ (.inl rfl) x.at_,fun k a=>⟨f _ _ (.inr (x.ls k a).2.1) (x.ls k a).1,(x.ls k a).2⟩,x.inj,x.nd,x.off⟩
theorem Lf(s:∀a b,kV a=kV b->a=b)(x:Pg kV base H n keys loc cont)(t:base<=H.length)(u:Pd 8 (kV k))(w:keys.length<Ar)
  (j:∀(f:List K)(i:K->Nat)(H':Aj),Pg kV base H' n f i cont->k∈f->(∀a,a∈f↔a∈keys\/a=k)->f.length<=keys.length+1->Fr (fun m=>m=n) H H'->Φ (.loc (i k)) H') :
  Bk (fun l=>FL (FZ (.dict (keys.map fun k=>(kV k,V.loc (loc k)))) l) (E9 .setdefault n [kV k,.loc H.length] (H++[.list []]) Φ l)) (H++[.list []]) n:=by
 refine Jz (Au x.at_ _) u (by rw[AG];exact w) ?_;rw[KK s];by_cases h:k∈keys
 .rw[if_pos h];exact j keys loc _ (x.keep fun m o B e=>Au e _) h (fun a=>⟨.inl,fun q=>q.elim id fun e=>e▸h⟩) (le_succ _) (Fr.new _)
 .rw[if_neg h];have p:H.length≠n:=fun e=>Nat.lt_irrefl _ (e▸Ax x.at_);have g:∀a∈keys,a≠k:=fun a ha e=>h (e▸ha);refine Eq.mp (congrArg (fun z=>Φ (V.loc z) _) (if_pos (c:=k=k) rfl:(if k=k then H.length else loc k)=H.length)) ?_
  refine j (keys++[k]) (fun a=>if a=k then H.length else loc a) _ ⟨?_,fun a ha=>?_,fun a ha b d e=>?_,?_,fun a ha=>x.off a fun q=>ha (mem_append_left _ q)⟩ (AZ _ (.head _)) (fun a=>by rw[mem_append,mem_singleton]) (by rw[AI];exact AM _) ((Fr.new (W:=fun m=>m=n) _).set (.inr rfl) _)
  .rw[BE (Au x.at_ _),AL];have:(keys.map fun a=>(kV a,V.loc (if a=k then H.length else loc a)))=keys.map fun a=>(kV a,V.loc (loc a)):=map_congr_left fun a ha=>by rw[if_neg (g a ha)]
   rw[this];show _=some (HO.dict (_++[(kV k,V.loc (if k=k then H.length else loc k))]))
   rw[if_pos rfl]
  .rcases AY ha with ha |ha
   .skip
    rw[if_neg (g a ha)];obtain⟨y,A,r⟩:=x.ls a ha;exact⟨Aq (Au y _) r,A,r⟩
   .rw[AJ ha,x.off k h];rw[if_pos rfl];exact⟨Aq Ak p,t,p⟩
  .have old:∀a∈keys,loc a≠H.length:=fun a ha e=>Nat.lt_irrefl _ (e▸Ax (x.ls a ha).1);rcases AY ha with ha |ha<;>rcases AY d with d |d
   .skip
    rw[if_neg (g a ha),if_neg (g b d)]at e;exact x.inj a ha b d e
   .rw[AJ d]at e;rw[if_neg (g a ha),if_pos rfl]at e;exact absurd e (old a ha)
   .rw[AJ ha]at e;rw[if_neg (g b d),if_pos rfl]at e;exact absurd e.symm (old b d)
   .rw[AJ ha,AJ d]
  .exact List.nodup_append.mpr ⟨x.nd,by exact pairwise_singleton _ _,fun a ha b d e=>h (by rw[AJ d]at e;exact e▸ha)⟩
theorem OI(x:Pg kV base H n keys loc cont)(h:k∈keys){b:Aj}(s:b[loc k]? =some (.list l))(j:(cont k).length<Ar)
  (o:∀H':Aj,Pg kV base H' n keys loc (fun a=>if a=k then cont k++[v]else cont a)->Fr (fun m=>m=loc k) H H'->Φ .none H') :
  Bk (fun d=>FL (FZ (.list (cont k)) d) (E9 .append (loc k) [v] H Φ d)) H (loc k):=by
 obtain⟨f,t,p⟩:=x.ls k h;refine Bf f j (o _ ⟨Aq x.at_ (Ne.symm p),fun a c=>?_,x.inj,x.nd,fun a c=>?_⟩ ((Fr.refl (W:=fun m=>m=loc k)).set (.inr rfl) _))
 .obtain⟨r,g,i⟩:=x.ls a c;by_cases e:a=k
  .subst e;rw[if_pos rfl];exact⟨BE f,g,i⟩
  .rw[if_neg e];exact⟨Aq r fun q=>e (x.inj a c k h q),g,i⟩
 .show(if a=k then _ else cont a)=[]
  rw[if_neg fun e:a=k=>c (by rw[e];exact h)];exact x.off a c
end
abbrev PK(s:List Int):Int:=s.getLastD 0
abbrev hd(s:List Int):Int:=s.headD 0
abbrev kk(s t:List Int):List Int:=s.dropLast++t.tail
theorem Fr.step{d c:Aj}(a:Fr W H d)(b:Fr (fun m=>m=n) d c)(h:H.length<=n\/W n):Fr W H c:=
 ⟨AF a.len b.len,fun{f o} e w=>b.old (a.old e w) fun q=>h.elim (fun z=>Nat.lt_irrefl _ (AK (q▸Ax e) z)) fun z=>w (q▸z)⟩
theorem BC.one{a:Aj}{L:CL}{C:BS}(x:BC W H L C n)(f:Fr (fun m=>m=k) H a)(d:¬W k)(g:k≠L.c):BC W a L C n:=
 x.keep f.len fun b o h e=>f.old e fun q=>h.elim (fun w=>d (q▸w)) fun z=>g (q▸z)
theorem R4(h:t≠[]):M5 (t.map V.int) (-1)=some (.int (PK t)):=by
 show(seqIndex? (-1) (t.map V.int).length).bind ((t.map V.int)[·]?)=some (.int (PK t));have a:0<t.length:=List.length_pos_iff.mpr h;have e:seqIndex? (-1) (t.map V.int).length=some (t.length-1):=by
  unfold seqIndex?;rw[AG];have b:(if(-1:Int)<0 then -1+(t.length:Int)else -1)=((t.length-1:Nat):Int):=by rw[if_pos (by decide)];omega
  simp only[b];rw[if_pos (by simp;exact Nat.sub_lt_of_pos_le (by decide) a)];simp
 rw[e];show(t.map V.int)[t.length-1]? =_;rw[List.getElem?_map,<- List.getLast?_eq_getElem?,List.getLast?_eq_some_getLast h,map_some];unfold PK;rw[List.getLastD_eq_getLast?,List.getLast?_eq_some_getLast h];rfl
theorem TA(h:t≠[]):Gd (t.map V.int) .none (.int (-1))=some (t.dropLast.map V.int):=by
 have e:clipAt (t.map V.int).length (-1)=t.length-1:=by
  cases t with
  |nil=>exact absurd rfl h
  |cons a r=>
   rw[AG];show(max (0:Int) (min (-1+((r.length+1:Nat):Int)) ((r.length+1:Nat):Int))).toNat=r.length;rw[show(-1:Int)+((r.length+1:Nat):Int)=(r.length:Int) by omega,Int.min_eq_left (Int.ofNat_le.mpr (le_succ _)),Int.max_eq_right (Ai _)];rfl
 unfold Gd WJ Vo;simp only[e,drop_zero];rw[List.dropLast_eq_take,map_take]
theorem Rv(h:t≠[]):Gd (t.map V.int) (.int 1) .none=some (t.tail.map V.int):=by
 have:=Fw (l:=t.map V.int) (i:=1);rw[<- List.map_drop,List.drop_one]at this;exact this
theorem WP(h:t≠[]):M5 (t.map V.int) 0=some (.int (hd t)):=by
 cases t with
 |nil=>exact absurd rfl h
 |cons a r=>rfl
section
variable {W:Nat->Prop} {H H':Aj} {L:CL} {C C':BS} {B u s:Nat} {Φ:V->Aj->Prop} {va vb:V} {a b:Mx}
def Cu(c:List (List Int))(d:List (List Int)):List (List Int×List Int):=d.flatMap fun s=>(c.filter fun t=>hd t==PK s).map fun t=>(s,t)
theorem JO{bs:List (List Int)}:∀{as:List (List Int)},(Cu bs as).length<=as.length*bs.length:=by
 intro c;induction c with
 |nil=>
  exact zero_le _
 |cons s r d=>
  unfold Cu;rw[flatMap_cons,AI,AG,AQ,succ_mul,Nat.add_comm];exact Ad d (Af _ _)
theorem Hm{d:List (List Int)}:Cu S (d++[t])=Cu S d++(S.filter fun c=>hd c==PK t).map fun c=>(t,c):=by
 unfold Cu;rw[List.flatMap_append,flatMap_cons,List.flatMap_nil,Ah]
theorem Fx{as:List (List Int)}{q:List Int×List Int}:q∈Cu S as↔q.1∈as/\q.2∈S/\hd q.2=PK q.1:=by
 unfold Cu;rw[List.mem_flatMap];constructor
 .rintro⟨s,h1,h2⟩;obtain⟨t,h3,rfl⟩:=AS h2;exact⟨h1,(List.mem_filter.mp h3).1,eq_of_beq (List.mem_filter.mp h3).2⟩
 .rintro⟨h1,h2,h3⟩;exact⟨q.1,h1,List.mem_map.mpr ⟨q.2,List.mem_filter.mpr ⟨h2,beq_iff_eq.mpr h3⟩,rfl⟩⟩
theorem Pg.congr{K:Type}{g:K->V}{e:List K}{f:K->Nat}{d c:K->List V}(x:Pg g k H n e f d)(h:∀a,c a=d a):Pg g k H n e f c:=(funext h:c=d)▸x
theorem Ti{q:List Int}(h:(t.map V.int).length+(q.map V.int).length<=Ar)(c:Φ (Am (t++q)) H):TH .Add (.tup (t.map V.int)) (.tup (q.map V.int)) H Φ:=
 ⟨h,by rw[<- AL];exact c⟩
def J6(R:Mx)(c:List Int):List V:=(R.filter fun p=>p.1==c).map fun p=>V.int p.2
structure JI(W:Nat->Prop)(L:CL)(a b:Mx)(C:BS)(H4 H':Aj)(nf B:Nat)(P:List (List Int×List Int))(C':BS):Prop where
 fr:Fr (fun n=>W n\/n=nf) H4 H'
 at_:∃r,r+P.length=27/\BC W H' L C' (B+3+r)
 ext:C <+: C'
 ex:Ks fun(R:Mx) (keys:List (List Int)) (loc:List Int->Nat)=>WC (Pg Am H4.length H' nf keys loc (J6 R)) ((∀x,x∈keys↔x∈R.map (·.1))) ((∀p∈R,BV C' p.2)) ((∀ρ,R.map (fun p=>(p.1,BL C' ρ p.2))=P.map fun q=>(kk q.1 q.2,BL C ρ (DI a q.1)&&BL C ρ (DI b q.2)))) (keys.length<=R.length) (R.length=P.length)
theorem JK(F:BN X){V':Nat->Prop}(hV:∀n,V' n->n<H.length){ra rb:Int}(hu:u<=3)(hr:ra+rb=3)(x:BC W H L C (B+30))(y:Fz W H s L)(ha:Cb W H va ra a)(hb:Cb W H vb rb b)(ma:Uo C a)(mb:Uo C b)
  (nea:∀t∈a.map (·.1),t≠[]/\t.length<=2) (neb:∀t∈b.map (·.1),t≠[]/\t.length<=2) (hl:a.length*b.length<=27) (la:a.length<=27) (lb:b.length<=27) (hun:∀s∈a.map (·.1),∀t∈b.map (·.1),hd t=PK s->∃q:Nat,q<u/\kk s t=[(q:Int)])
  (φ:∀H' C' v m,Dq W L H C B H' C'->Um V' H' C' u v m->(∀ρ t,ms C' ρ m t=true↔Dd fun p q=>KT (hd q=PK p) (kk p q=t) (ms C ρ a p=true) (ms C ρ b q=true))->Φ v H'):Ap X 9 "PlainMatrices.join" [.loc s,va,vb] H Φ:=by
 obtain⟨na,rfl,ga,wa⟩:=ha;obtain⟨nb,rfl,gb,wb⟩:=hb;have hW:=x.wl;refine Ao F 16 rfl (Al fun kn hk0=>hk0 _ _ (Al fun kn hk1=>?_));generalize eH1:H++[HO.dict (BG [] [])]++[HO.dict (BG [] [])]=H1;have fr1:Fr (fun zz=>False) H H1:=by rw[<- eH1];exact(Fr.new _).app _
 have l0:(H++[HO.dict (BG [] [])]).length=H.length+1:=by rw[AI];rfl
 have l1:H1.length=H.length+2:=by rw[<- eH1,AI,AI];rfl
 have d1:H1[H.length]? =some (.dict []):=by rw[<- eH1];exact Au Ak _
 have d2:H1[H.length+1]? =some (.dict []):=by
  have:H.length+1=(H++[HO.dict (BG [] [])]).length:=by rw[AI];rfl
  rw[<- eH1,this];exact Ak
 refine objA_i (fr1.old gb id) ?_
 try (delta Ee;dsimp only)
 rw[B9];refine Bz (by rw[AG];exact AH lb (by decide)) mb.nd (fun t h=>(neb t h).1) fun kb hpb hsb=>?_;generalize eH2:H1++[HO.list (kb.map Am)]=H2;have fr2:Fr (fun zz=>False) H1 H2:=by rw[<- eH2];exact Fr.new _
 have hkb:H2[H1.length]? =some (.list (kb.map Am)):=by rw[<- eH2];exact Ak
 have lkb:kb.length<=27:=by rw[hpb.length_eq,AG];exact lb
 have neb':∀t∈kb,t≠[]/\t.length<=2:=fun t h=>neb t (hpb.mem_iff.mp h);refine Ay (W:=fun m=>m=H.length+1) (.inr ⟨_,rfl,hkb,by omega⟩) .refl fun guard hgd=>?_;refine Bp (xs:=kb) (f:=Am) (fun(pre post:List (List Int)) ρ H'=>Ks fun(keys:List Int) (loc:Int->Nat) (o:Option V)=>KT (ρ=Wg (some (.loc s)) (some (.tup [.int ra,.loc na])) (some (.tup [.int rb,.loc nb])) (some (.loc H.length)) (some (.loc (H.length+1))) o none) (Fr (fun m=>m=H.length+1) H2 H') (Pg V.int H2.length H' (H.length+1) keys loc (fun i=>(pre.filter (hd · ==i)).map Am)) (keys.length<=pre.length)) ?_ ?_ _ _
  ⟨[],fun zz=>0,none,by rw[l0];rfl,.refl,⟨fr2.old d2 id,(fun zz h=>by cases h),(fun zz h=>by cases h),nodup_nil,fun zz zz=>rfl⟩,AM _⟩
 .rintro pre t post ρ H' k' e1 ⟨keys,loc,o,rfl,fr,g,hkl⟩ hk;have htm:t∈kb:=by rw[e1];simp
  have hpl:pre.length<=27:=by have:=BU e1;omega
  refine objA_i g.at_ ?_;w_left;refine KQ (WP (neb' t htm).1) ?_;refine Lf (fun a b e=>V.int.inj e) g fr.len (.int _ _) (AH (AF hkl hpl) (by decide)) fun keys' loc' H3 g3 hin mem len f3=>?_;refine objA_i ((g3.ls _ hin).1) ?_;refine OI g3 hin (g3.ls _ hin).1 (by rw[AG];exact AH (AF (Af _ _) hpl) (by decide)) fun H4 g4 f4=>?_;have fr':=(fr.step f3 (.inr rfl)).step f4 (.inl (g3.ls _ hin).2.1);refine hk _ _ (hgd _ fr') ⟨keys',loc',some (Am t),rfl,fr',g4.congr fun i=>?_,by rw[AI];exact AF len (AP hkl 1)⟩;rw[filter_append,AL,filter_cons];by_cases e:i=hd t
  .subst e;rw[if_pos rfl,if_pos (by simp)];rfl
  .rw[if_neg e,if_neg (fun q=>e (eq_of_beq q).symm)];exact Ah _
 .rintro ρ H3 ⟨keysB,locB,o,rfl,fr3,gB,hkl⟩;refine hk1 _ _ (Al fun kn hk2=>?_);have old3:∀{m:Nat}{o:HO},H[m]? =some o->H3[m]? =some o:=fun{m o} e=>fr3.old (fr2.old (fr1.old e id) id) (by have:=Ax e;exact Nat.ne_of_lt (lt_add_right _ this));have ga3:=old3 ga;w_left;w_dflts ga3
  try (delta Ee;dsimp only)
  rw[B9];refine Bz (by rw[AG];exact AH la (by decide)) ma.nd (fun t h=>(nea t h).1) fun ka hpa hsa=>?_;have len3:H2.length<=H3.length:=fr3.len;have len2:H1.length+1=H2.length:=by rw[<- eH2,AI];rfl
  have lka:ka.length=a.length:=by rw[hpa.length_eq,AG]
  have lkb':kb.length=b.length:=by rw[hpb.length_eq,AG]
  generalize eH4:H3++[HO.list (ka.map Am)]=H4;have fr4:Fr (fun zz=>False) H3 H4:=by rw[<- eH4];exact Fr.new _
  have len4:H3.length+1=H4.length:=by rw[<- eH4,AI];rfl
  have hka:H4[H3.length]? =some (.list (ka.map Am)):=by rw[<- eH4];exact Ak
  have nea':∀t∈ka,t≠[]/\t.length<=2:=fun t h=>nea t (hpa.mem_iff.mp h);have hWm:∀{m:Nat},H.length<m->¬(W m\/m=H.length):=fun h q=>q.elim (fun w=>by have:=hW _ w;omega) fun e=>by omega
  have hWo:∀{m:Nat},¬W m->m<H.length->¬(W m\/m=H.length):=fun h h2 q=>q.elim h fun e=>by omega
  have gB4:Pg V.int H2.length H4 (H.length+1) keysB locB _:=gB.keep fun m o zz e=>fr4.old e id;have lcl:=Ax x.cl;refine Ay (W:=fun m=>W m\/m=H.length) (.inr ⟨_,rfl,hka,hWm (AK (AH (le_of_add_right_le (AT (Eq.symm l1))) (AT len2)) len3)⟩) .refl fun guard hgd=>?_;refine Bp (xs:=ka) (f:=Am) (fun(apre post:List (List Int)) ρ H'=>Ks fun(C':BS) (o1 o2:Option V)=>EU (ρ=Wg (some (.loc s)) (some (.tup [.int ra,.loc na])) (some (.tup [.int rb,.loc nb])) (some (.loc H.length)) (some (.loc (H.length+1))) o1 o2) (JI W L a b C H4 H' H.length B (Cu kb apre) C')) ?_ ?_ _ _
   ⟨C,_,_,rfl,⟨.refl,⟨27,rfl,(x.keep (AR (AK (AV (AK (AK (AV (AK (lt_add_of_pos_right (by decide)) (AT l1.symm)) (lt_add_of_pos_right (by decide))) (AT len2)) len3) (lt_add_of_pos_right (by decide))) (AT len4))) fun n o h e=>fr4.old (old3 e) id)⟩,prefix_refl _,⟨[],[],fun zz=>0,⟨fr4.old (fr3.old (fr2.old d1 id) (Nat.ne_of_lt (lt_succ_self _))) id,(fun zz h=>by cases h),(fun zz h=>by cases h),nodup_nil,fun zz zz=>rfl⟩,fun zz=>Iff.rfl,(fun zz h=>by cases h),fun zz=>rfl,AM _,rfl⟩⟩⟩
  .rintro apre p post ρ H' k' e1 ⟨C',o1,o2,rfl,j⟩ hk;have hpm:p∈ka:=by rw[e1];simp
   have hap:apre.length+1<=ka.length:=by rw[e1,AI,AQ];exact Ab (AU _ _)
   have gB':=gB4.keep (H':=H') fun m o h e=>j.fr.old e (hWm (h.elim (fun e=>by omega) fun e=>by omega));refine objA_i gB'.at_ ?_;w_left;refine KQ (R4 (nea' p hpm).1) ?_;refine OV (Au gB'.at_ _) (.int _ _) ?_;rw[KK fun a b e=>V.int.inj e];have fr5:Fr (fun zz=>False) H' (H'++[HO.list []]):=Fr.new _;have j5:JI W L a b C H4 (H'++[HO.list []]) H.length B (Cu kb apre) C':=⟨j.fr.trans fr5.pure,by obtain⟨r,h1,h2⟩:=j.at_;exact⟨r,h1,h2.fr fr5⟩,j.ext,by obtain⟨R,keys,loc,g,h1,h2,h3,h4,h5⟩:=j.ex;exact⟨R,keys,loc,g.keep (fun m o zz e=>fr5.old e id),h1,h2,h3,h4,h5⟩⟩;have hl4:=j.fr.len;by_cases h:PK p∈keysB
   case neg=>
    rw[if_neg h];have fe:(kb.filter fun t=>hd t==PK p)=[]:=List.map_eq_nil_iff.mp (gB'.off _ h);refine Ay (W:=W) (.inr ⟨_,rfl,Ak,fun w=>by have:=hW _ w;omega⟩) .refl fun guard' hgd'=>?_;refine hk _ _ (hgd _ j5.fr) ⟨C',o1,_,rfl,?_⟩;rw[Hm,fe,map_nil,Ah];exact j5
   rw[if_pos h];obtain⟨q1,q2,_⟩:=gB'.ls _ h;refine Ay (W:=fun m=>W m\/m=H.length\/H4.length<=m) (.inr ⟨_,rfl,Au q1 _,(fun h h2 h3 q=>q.elim h fun q=>q.elim h3 fun e=>by omega:∀{m:Nat},¬W m->m<H4.length->m≠H.length->¬(W m\/m=H.length\/H4.length<=m)) (fun w=>by have:=hW _ w;omega) (Ax (gB4.ls _ h).1) (Nat.ne_of_gt (AK (AK (AV (AK (lt_add_of_pos_right (by decide)) (AT l1.symm)) (lt_add_of_pos_right (by decide))) (AT len2)) q2))⟩) .refl fun guard' hgd'=>?_;refine Bp (xs:=(kb.filter fun t=>hd t==PK p)) (f:=Am) (fun(tpre tpost:List (List Int)) ρ H''=>Dd fun(C'':BS) (o1:Option V)=>DD (ρ=Wg (some (.loc s)) (some (.tup [.int ra,.loc na])) (some (.tup [.int rb,.loc nb])) (some (.loc H.length)) (some (.loc (H.length+1))) o1 (some (Am p))) (Fr (fun m=>W m\/m=H.length\/H4.length<=m) (H'++[HO.list []]) H'') (JI W L a b C H4 H'' H.length B (Cu kb apre++tpre.map fun t=>(p,t)) C'')) ?_ ?_ _ _
    ⟨C',_,rfl,.refl,by rw[map_nil,Ah];exact j5⟩
   .rintro tpre t tpost ρ H6 k'' f1 ⟨C6,o6,rfl,fr6,j6⟩ hk'';have htb:=(List.mem_filter.mp (show t∈kb.filter (fun t=>hd t==PK p) by rw[f1];simp)).1;obtain⟨rr,hr1,x6⟩:=j6.at_;obtain⟨R,keys,loc,g,hmem,hgate,hval,hkl2,hRl⟩:=j6.ex;have hP:(Cu kb apre++tpre.map fun t=>(p,t)).length+1<=27:=by
     have h1:=JO (bs:=kb) (as:=apre);have h2:tpre.length+1<=kb.length:=by
      have h3:=congrArg List.length f1;have h4:=Af (fun t=>hd t==PK p) kb;rw[AI,AQ]at h3;exact AF (AF (Ab (AU _ _)) (AT (Eq.symm h3))) h4
     have h3:=mul_le_mul_right kb.length hap;rw[succ_mul,lka,lkb']at h3;rw[AI,AG];rw[lkb']at h1 h2;omega
    obtain⟨rr',rfl⟩:∃rr',rr=rr'+1:=⟨rr-1,(Nat.sub_add_cancel (Nat.pos_of_ne_zero fun e=>by rw[e,Nat.zero_add]at hr1;rw[hr1]at hP;exact absurd hP (by decide))).symm⟩;refine objA_i g.at_ ?_;have lp:=(nea' p hpm).2;have lt:=(neb' t htb).2;have sm:∀{k:Nat},k<=27->k<Ar:=fun h=>AH h (by decide);refine⟨_,by rw[AG];exact AR (sm (by omega)),TA (nea' p hpm).1,_,by rw[AG];exact AR (sm (by omega)),Rv (neb' t htb).1,Ti (by rw[AG,AG,List.length_dropLast,List.length_tail];exact AR (sm (AF (Ad (AF (sub_le _ _) (by assumption)) (AF (sub_le _ _) (by assumption))) (by decide:2+2<=27)))) ?_⟩;refine Lf (fun a b e=>CV e) g j6.fr.len (BH _) (sm (AF hkl2 (AF (AT hRl) (AR hP)))) fun keys' loc' H7 g7 hin mem len f7=>?_;refine objA_i (g7.ls _ hin).1 ?_;have fr7:=j6.fr.step f7 (.inr (.inr rfl));have x7:=x6.one f7 x.new (by omega);obtain⟨kS,ys⟩:=y.at_;refine EL rfl (fr7.old (fr4.old (old3 ys) id) (hWo y.w (Ax ys))) rfl rfl x7.tg ?_;refine objA_i (fr7.old (fr4.old ga3 id) (hWo wa (Ax ga))) ?_;refine⟨_,BH p,Gp (hpa.mem_iff.mp hpm),?_⟩;refine objA_i (fr7.old (fr4.old (old3 gb) id) (hWo wb (Ax gb))) ?_;refine⟨_,BH t,Gp (hpb.mem_iff.mp htb),?_⟩;have g1:=CS (t:=p) ma.g;have g2:=CS (t:=t) mb.g;refine An (by decide) (D6 F (B:=B+3+rr') x7 (g1.ext j6.ext) (g2.ext j6.ext) fun H8 C8 gt s8 h8 q8=>?_);have hnW:∀{m:Nat},m=H.length\/H4.length<=m->¬W m:=fun h w=>by have:=hW _ w;omega
    have hb7:=(g7.ls _ hin).2.1;refine OI (g7.keep fun m o h e=>s8.fr.old e (hnW h)) hin (g7.ls _ hin).1 (by unfold J6;rw[AG];exact AH (Af _ _) (sm (AR (AH (AT hRl) hP)))) fun H9 g9 f9=>?_;have fr9:=((fr6.step f7 (.inr (.inr (.inl rfl)))).trans (s8.fr.weak fun n w=>.inl w)).step f9 (.inr (.inr (.inr hb7)));refine hk'' _ _ (hgd' _ fr9) ⟨C8,some (Am t),rfl,fr9,?_⟩;rw[AL,<- append_assoc];refine⟨(fr7.trans (s8.fr.weak fun n w=>.inl w)).step f9 (.inl hb7),⟨rr',by rw[AI];show rr'+(_+1)=27;exact Eq.symm (Eq.trans (Eq.symm hr1) (Ag _ _ _)),s8.at_.one f9 (hnW (.inr hb7)) (Nat.ne_of_gt (AK (AK (AV (AK (AK (AV (AK (AV lcl (lt_add_of_pos_right (by decide))) (AT l1.symm)) (lt_add_of_pos_right (by decide))) (AT len2)) len3) (lt_add_of_pos_right (by decide))) (AT len4)) hb7))⟩,j6.ext.trans s8.ext,R++[(kk p t,gt)],keys',loc',g9.congr fun key=>?_,fun z=>?_,fun z hz=>?_,fun ρ=>?_,?_,?_⟩
    .unfold J6;rw[filter_append,AL,filter_cons];by_cases e:key=kk p t
     .subst e;rw[if_pos rfl,if_pos (by simp)];rfl
     .rw[if_neg e,if_neg (fun q=>e (eq_of_beq q).symm)];exact Ah _
    .rw[mem z,hmem z,AL,mem_append];exact or_congr Iff.rfl List.mem_singleton.symm
    .rcases AY hz with hz |hz
     .exact(hgate z hz).ext s8.ext
     .rw[AJ hz];exact h8
    .rw[AL,AL,<- hval ρ];have q8':=q8 ρ;dsimp only at q8';rw[Av g1 j6.ext,Av g2 j6.ext]at q8';rw[show R.map (fun p=>(p.1,BL C8 ρ p.2))=R.map fun p=>(p.1,BL C6 ρ p.2)from map_congr_left fun z hz=>by rw[Av (hgate z hz) s8.ext]];show _++[(kk p t,BL C8 ρ gt)]=_;rw[q8'];rfl
    .rw[AI];exact AF len (AP hkl2 1)
    .rw[AI,hRl,AI (as:=_++_)];rfl
   .rintro ρ H6 ⟨C6,o6,rfl,fr6,j6⟩;refine hk _ _ (hgd _ j6.fr) ⟨C6,o6,_,rfl,?_⟩;rw[Hm];exact j6
  .rintro ρ H5 ⟨C5,o1,o2,rfl,j⟩;refine hk2 _ _ ?_;obtain⟨rr,hr1,x5⟩:=j.at_;obtain⟨R,keys,loc,g,hmem,hgate,hval,hkl2,hRl⟩:=j.ex;obtain⟨kS,ys⟩:=y.at_;have hs5:=j.fr.old (fr4.old (old3 ys) id) (hWo y.w (Ax ys));have hnW:∀{m:Nat},m=H.length\/H4.length<=m->¬W m:=fun h w=>by have:=hW _ w;omega
   have hRP:R.length<=27:=by
    have:=JO (bs:=kb) (as:=ka);rw[lka,lkb']at this;exact AF (AT hRl) (le_of_add_left_le (AT hr1))
   have hRk:∀z∈R.map (·.1),∃q∈Cu kb ka,kk q.1 q.2=z:=fun z hz=>by
    have:=congrArg (List.map (·.1)) (hval fun zz=>true);rw[List.map_map,List.map_map]at this;rw[show R.map (·.1)=_ from this]at hz;exact AS hz
   have un:Un u keys:=fun z hz=>by
    obtain⟨q,hq,rfl⟩:=hRk z ((hmem z).mp hz);obtain⟨h1,h2,h3⟩:=Fx.mp hq;exact hun _ (hpa.mem_iff.mp h1) _ (hpb.mem_iff.mp h2) h3
   refine tg_i ((⟨⟨kS,hs5⟩,y.w⟩:Fz W H5 s L).tg (m:= "made") (p:= "PlainMatrices.made")) fun zz=>?_;refine objA_i g.at_ ?_
   try (delta Ee;dsimp only)
   rw[List.map_map,show keys.map ((·.1)∘fun k=>(Am k,V.loc (loc k)))=keys.map Am from rfl];refine Bz (AH (AF (Di un g.nd) hu) (by decide)) g.nd (Lw un) fun kc hpc hsc=>?_;generalize eH6:H5++[HO.list (kc.map Am)]=H6;have fr6:Fr (fun zz=>False) H5 H6:=by rw[<- eH6];exact Fr.new _
   have hkc:H6[H5.length]? =some (.list (kc.map Am)):=by rw[<- eH6];exact Ak
   have ndc:kc.Nodup:=hpc.nodup_iff.mpr g.nd;have unc:Un u kc:=fun t ht=>un t (hpc.mem_iff.mp ht);have lkc:=Di unc ndc;have l5:=j.fr.len;have hll:=Ax d2;refine Ay (W:=W) (.inr ⟨_,rfl,hkc,hnW (Or.inr l5)⟩) .refl fun guard hgd=>?_;refine Eb (B:=B) (f:=fun ρ=>ms C5 ρ R) hgd (AH (AF lkc hu) (by decide)) ((x5.fr fr6).le (le_add_right_of_le (AO (AF lkc hu) _))) (fun key hkm m H' C' B' k' lm st hk=>?_) fun H' C' m st e3 hg hv=>?_
   .have hin:key∈keys:=hpc.mem_iff.mp hkm;have g7:=(g.keep fun m o zz e=>fr6.old e id).keep fun m o h e=>st.fr.old e (hnW h);show Br X 8 _ _ _ _ _;refine Jc rfl ?_;show Br X 8 _ _ _ _ _;refine EL rfl (st.fr.old (fr6.old hs5 id) y.w) rfl rfl st.at_.tg ?_;refine objA_i g7.at_ ?_;refine⟨_,BH key,(KK fun a b e=>CV e).trans (if_pos hin),?_⟩;have eg:J6 R key=((R.filter fun p=>p.1==key).map (·.2)).map V.int:=by rw[List.map_map];rfl
    have hls:=(g7.ls _ hin).1;rw[eg]at hls;have gg:∀q∈(R.filter fun p=>p.1==key).map (·.2),BV C5 q:=fun q hq=>by
     obtain⟨p,hp,rfl⟩:=AS hq;exact hgate p (List.mem_filter.mp hp).1
    refine An (by decide) (MH F st.at_ hls (hnW (.inr (g7.ls _ hin).2.1)) (fun q hq=>(gg q hq).ext st.ext) (by rw[AG];exact AH (AF (Af _ _) hRP) (by decide)) fun H2 C2 gt s2 h2 q2=>⟨Hv lm,hk H2 C2 gt s2 h2 fun ρ=>(q2 ρ).trans ?_⟩);show(((R.filter fun p=>p.1==key).map (·.2)).any (BL C' ρ))=_;rw[any_map,List.any_filter];exact Dt fun z hz=>by
     show(z.1==key&&BL C' ρ z.2)=_;rw[Av (hgate z hz) st.ext]
   .have fr7:Fr (fun zz=>False) H' (H'++[.list (Bu m)]):=Fr.new _;have er:ra+rb-2=1:=hr▸rfl;rw[er];have frA:Fr W H H5:=⟨AR (AK (AK (AV (AK (AK (AV (AK (lt_add_of_pos_right (by decide)) (AT l1.symm)) (lt_add_of_pos_right (by decide))) (AT len2)) len3) (lt_add_of_pos_right (by decide))) (AT len4)) l5),fun{n o} e w=>j.fr.old (fr4.old (old3 e) id) (hWo w (Ax e))⟩;refine An (by decide) (Ka F hu Ak (fun k w=>AK (hV k w) (AF frA.len (AF fr6.len st.fr.len))) ⟨by rw[e3];exact ndc,hg⟩ (by rw[e3];exact unc) fun H8 v fr8 hm=>φ H8 C' v _ ⟨frA.trans (fr6.pure.trans (st.fr.trans (fr7.trans fr8).pure)),(st.at_.fr fr7).fr fr8,j.ext.trans st.ext⟩ hm fun ρ t=>?_);rw[HY (f:=ms C5 ρ R) (hv ρ) fun t h=>by rw[e3];exact hpc.mem_iff.mpr ((hmem t).mpr (DJ h))];have ev:ms C5 ρ R t=(R.map fun p=>(p.1,BL C5 ρ p.2)).any fun z=>z.1==t&&z.2:=by rw[any_map];rfl
    rw[ev,hval ρ,any_map,any_eq_true];constructor
    .rintro⟨q,hq,h⟩;have h:(kk q.1 q.2==t&&(BL C ρ (DI a q.1)&&BL C ρ (DI b q.2)))=true:=h;rw[and_eq_true,and_eq_true,CJ ma.nd,CJ mb.nd]at h;exact⟨q.1,q.2,(Fx.mp hq).2.2,eq_of_beq h.1,h.2.1,h.2.2⟩
    .rintro⟨p,q,h1,h2,h3,h4⟩;refine⟨(p,q),Fx.mpr ⟨hpa.mem_iff.mpr (DJ h3),hpb.mem_iff.mpr (DJ h4),h1⟩,?_⟩;show(kk p q==t&&(BL C ρ (DI a p)&&BL C ρ (DI b q)))=true;rw[CJ ma.nd,CJ mb.nd,h3,h4,h2];simp
end
inductive Sn where
 |rel
 |var (x:Bool)
 |jl (a:Sn)
 |jr (a:Sn)
 |uni (a b:Sn)
 |min (a b:Sn)
variable {J:List (Bool×Sn)}
inductive Nn where
 |cnt (a:Sn)
 |num (k:Int)
 |less (a b:Nn)
 |sum (ds:List (Bool×Sn)) (b:Nn)
inductive Ky where
 |r1
 |s (a:Sn)
 |n (a:Nn)
def Bl(x:Bool):V:=sS (cond x "y" "x")
def Gc:V:=.tup [sS "rel",.int 1]
def BO:Sn->V
 |.rel=>.tup [sS "rel",.int 0]
 |.var x=>.tup [sS "var",Bl x]
 |.jl a=>.tup [sS "join",BO a,Gc]
 |.jr a=>.tup [sS "join",Gc,BO a]
 |.uni a b=>.tup [sS "union",BO a,BO b]
 |.min a b=>.tup [sS "minus",BO a,BO b]
def Dx(d:Bool×Sn):V:=.tup [Bl d.1,BO d.2]
def Ba:Nn->V
 |.cnt a=>.tup [sS "count",BO a]
 |.num k=>.tup [sS "num",.int k]
 |.less a b=>.tup [sS "less",Ba a,Ba b]
 |.sum ds b=>.tup [sS "sum",.tup (ds.map Dx),Ba b]
def DU:Ky->V
 |.r1=>Gc
 |.s a=>BO a
 |.n a=>Ba a
theorem FM{b:String}{m:List V}(h:V.tup (sS f::l)=V.tup (sS b::m)):f=b:=CZ (V.str.inj (List.cons.inj (V.tup.inj h)).1)
theorem Jp{b:V}{m:List V}(h:V.tup (v::l)=V.tup (b::m)):l=m:=(List.cons.inj (V.tup.inj h)).2
theorem E0{y:Bool}(h:Bl s=Bl y):s=y:=by
 have:=CZ (V.str.inj h);cases s<;>cases y<;>first |rfl |exact absurd this (by decide)
def YI:Sn->String
 |.rel=> "rel" |.var _=> "var" |.jl _=> "join" |.jr _=> "join" |.uni .. => "union" |.min .. => "minus"
def ZB:Sn->List V
 |.rel=>[.int 0] |.var x=>[Bl x] |.jl a=>[BO a,Gc] |.jr a=>[Gc,BO a] |.uni a b=>[BO a,BO b] |.min a b=>[BO a,BO b]
theorem DB(a:Sn):BO a=.tup (sS (YI a)::ZB a):=by cases a<;>rfl
def Xu:Nn->String
 |.cnt _=> "count" |.num _=> "num" |.less .. => "less" |.sum .. => "sum"
def Yo:Nn->List V
 |.cnt a=>[BO a] |.num k=>[.int k] |.less a b=>[Ba a,Ba b] |.sum ds b=>[.tup (ds.map Dx),Ba b]
theorem Eu(a:Nn):Ba a=.tup (sS (Xu a)::Yo a):=by cases a<;>rfl
theorem Hs(a:Sn):BO a≠Gc:=fun h=>by
 rw[DB]at h;have b:=Jp h;cases a with
 |rel=>cases(List.cons.inj b).1
 |_=>exact absurd (FM h) (by dsimp only[YI];decide)
theorem Ca:∀{a b:Sn},BO a=BO b->a=b
 |a,b,h=>by
  have d:=FM (DB a▸DB b▸h);have c:ZB a=ZB b:=Jp (DB a▸DB b▸h);induction a using Sn.casesOn<;>induction b using Sn.casesOn<;>first |exact absurd d (by dsimp only[YI,Xu];decide) |skip
  .rfl
  .rw[E0 (List.cons.inj c).1]
  .rw[Ca (List.cons.inj c).1]
  .exact absurd (List.cons.inj c).1 (Hs _)
  .exact absurd (List.cons.inj c).1.symm (Hs _)
  .rw[Ca (List.cons.inj (List.cons.inj c).2).1]
  .rw[Ca (List.cons.inj c).1,Ca (List.cons.inj (List.cons.inj c).2).1]
  .rw[Ca (List.cons.inj c).1,Ca (List.cons.inj (List.cons.inj c).2).1]
theorem Q1{d e:Bool×Sn}(h:Dx d=Dx e):d=e:=by
 have a:=List.cons.inj (V.tup.inj h);exact Prod.ext (E0 a.1) (Ca (List.cons.inj a.2).1)
theorem FP:∀{a b:Nn},Ba a=Ba b->a=b
 |a,b,h=>by
  have d:=FM (Eu a▸Eu b▸h);have c:Yo a=Yo b:=Jp (Eu a▸Eu b▸h);induction a using Nn.casesOn<;>induction b using Nn.casesOn<;>first |exact absurd d (by dsimp only[YI,Xu];decide) |skip
  .rw[Ca (List.cons.inj c).1]
  .rw[V.int.inj (List.cons.inj c).1]
  .rw[FP (List.cons.inj c).1,FP (List.cons.inj (List.cons.inj c).2).1]
  .rw[(List.map_inj_right fun x y e=>Q1 e).mp (V.tup.inj (List.cons.inj c).1),FP (List.cons.inj (List.cons.inj c).2).1]
theorem Ry(a:Sn)(b:Nn):BO a≠Ba b:=fun h=>by
 rw[DB,Eu]at h;induction a using Sn.casesOn<;>induction b using Nn.casesOn<;>exact absurd (FM h) (by dsimp only[YI,Xu];decide)
theorem Sy(b:Nn):Ba b≠Gc:=fun h=>by
 rw[Eu]at h;have a:=FM h;cases b<;>exact absurd a (by dsimp only[Xu];decide)
theorem OL{a b:Ky}(h:DU a=DU b):a=b:=by
 cases a<;>cases b
 .rfl
 .exact absurd h.symm (Hs _)
 .exact absurd h.symm (Sy _)
 .exact absurd h (Hs _)
 .rw[Ca h]
 .exact absurd h (Ry _ _)
 .exact absurd h (Sy _)
 .exact absurd h.symm (Ry _ _)
 .rw[FP h]
def Bx:Sn->Bool->Bool
 |.rel,_=>false
 |.var x,y=>x==y
 |.jl a,y=>Bx a y
 |.jr a,y=>Bx a y
 |.uni a b,y=>Bx a y||Bx b y
 |.min a b,y=>Bx a y||Bx b y
theorem Ux:∀x y,Bx (.var x) y=(x==y):=fun a a=>rfl
theorem Hz:∀a b y,Bx (.uni a b) y=(Bx a y||Bx b y):=fun c c c=>rfl
theorem GL:∀a b y,Bx (.min a b) y=(Bx a y||Bx b y):=fun c c c=>rfl
def IN:List (Bool×Sn)->(Bool->Bool)->Bool->Bool
 |[],f,y=>f y
 |d::r,f,y=>Bx d.2 y||(IN r f y&&(d.1 != y))
theorem HN:∀d r f y,IN (d::r) f y=(Bx d.2 y||(IN r f y&&(d.1 != y))):=fun a a a a=>rfl
def Cp:Nn->Bool->Bool
 |.cnt a,y=>Bx a y
 |.num _,_=>false
 |.less a b,y=>Cp a y||Cp b y
 |.sum ds b,y=>IN ds (Cp b) y
theorem OG:∀a b y,Cp (.less a b) y=(Cp a y||Cp b y):=fun c c c=>rfl
def fv:Ky->Bool->Bool
 |.r1,_=>false
 |.s a,y=>Bx a y
 |.n a,y=>Cp a y
def MO(f:Bool->Bool):List V:=([false,true].filter f).map Bl
def UE:Sn->Nat
 |.rel=>1 |.var _=>1 |.jl a=>UE a+2 |.jr a=>UE a+2 |.uni a b=>UE a+UE b+1 |.min a b=>UE a+UE b+1
def Z8(ds:List (Bool×Sn)):Nat:=(ds.map fun d=>UE d.2).sum
def YM:Nn->Nat
 |.cnt a=>UE a+1 |.num _=>1 |.less a b=>YM a+YM b+1 |.sum ds b=>Z8 ds+YM b+1
def sz:Ky->Nat
 |.r1=>1
 |.s a=>UE a
 |.n a=>YM a
theorem Pd.mem(h:Pd n (.tup l))(b:v∈l):Pd n v:=
 Pd.casesOn (motive:=fun n u a=>V.casesOn (motive_1:=fun a=>Prop) u True (fun a=>True) (fun a=>True) (fun a=>True) (fun l=>∀v∈l,Pd n v) (fun a=>True) (fun a=>True)) h (fun a a=>⟨⟩) (fun a a=>⟨⟩) (fun p v b=>(p v b).up _ (le_succ _)) v b
theorem CY{k a:V}(h:a≠k):BI (BK m k v) a=BI m a:=by
 induction m with
 |nil=>
  unfold BI;rw[NI,find?_cons,Bool.eq_false_iff.mpr fun q=>h ((BB _ _).mp q).symm]
 |cons p r b=>
  rw[Ch];by_cases e:p.1=k
  .rw[if_pos ((BB _ _).mpr e)];unfold BI;rw[find?_cons,find?_cons];have:BY p.1 a=false:=Bool.eq_false_iff.mpr fun q=>h (((BB _ _).mp q).symm.trans e);simp only[this]
  .rw[if_neg fun q=>e ((BB _ _).mp q)];unfold BI at b⊢;rw[find?_cons,find?_cons];cases BY p.1 a with
   |true=>rfl
   |false=>exact b
theorem FX:(l.any fun u=>BY u v)=true↔v∈l:=by
 rw[any_eq_true];exact⟨(by rintro⟨u,a,b⟩;exact(BB _ _).mp b▸a),fun h=>⟨v,h,(BB _ _).mpr rfl⟩⟩
theorem FB:∀{l acc:List V},acc.Nodup->(B7 acc l).Nodup/\∀x,x∈B7 acc l↔x∈acc\/x∈l:=by
 intro g;induction g with
 |nil=>
  intro acc nd;exact⟨nd,fun x=>⟨.inl,fun h=>h.elim id fun h=>by cases h⟩⟩
 |cons v r f=>
  intro acc nd;rw[KI];by_cases h:(acc.any fun u=>BY u v)=true
  .rw[if_pos h];obtain⟨c,d⟩:=f nd;refine⟨c,fun x=>(d x).trans ?_⟩;rw[mem_cons];exact⟨fun q=>q.imp id .inr,fun q=>q.elim .inl fun q=>q.elim (fun e=>.inl (e▸FX.mp h)) .inr⟩
  .rw[if_neg h];obtain⟨c,d⟩:=f (acc:=acc++[v]) (List.nodup_append.mpr ⟨nd,by exact pairwise_singleton _ _,fun a i b j e=>h (FX.mpr (by rw[AJ j]at e;exact e▸i))⟩);refine⟨c,fun x=>(d x).trans ?_⟩;rw[mem_append,mem_singleton,mem_cons];exact⟨fun q=>q.elim (fun q=>q.imp id .inl) fun q=>.inr (.inr q),fun q=>q.elim (fun q=>.inl (.inl q)) fun q=>q.elim (fun q=>.inl (.inr q)) .inr⟩
def X4:V->Str
 |.str x=>x
 |_=>ofString ""
theorem Ey(h:(l.map X4).map V.str=l):IO l:=⟨_,h.symm⟩
theorem Gl:IO (T.map Bl):=⟨T.map fun x=>ofString (cond x "y" "x"),by rw[List.map_map];rfl⟩
theorem Wc(a b:Bool)(h:a≠b):[a,b]=[]\/[a,b]=[false]\/[a,b]=[true]\/[a,b]=[false,true]\/[a,b]=[true,false]:=by
 cases a<;>cases b<;>first |exact absurd rfl h |exact .inr (.inr (.inr (.inl rfl))) |exact .inr (.inr (.inr (.inr rfl)))
theorem Va(a b c:Bool)(h:a≠b)(d:a≠c)(e:b≠c):False:=by
 cases a<;>cases b<;>cases c<;>first |exact h rfl |exact d rfl |exact e rfl
theorem Hk:∀{m:List Bool},m.Nodup->m=[]\/m=[false]\/m=[true]\/m=[false,true]\/m=[true,false]
 |[],_=>.inl rfl
 |[a],_=>by cases a;exact .inr (.inl rfl);exact .inr (.inr (.inl rfl))
 |[a,b],h=>Wc a b fun e=>(List.nodup_cons.mp h).1 (e▸.head _)
 |a::b::c::r,h=>by obtain⟨d,f⟩:=List.nodup_cons.mp h;exact(Va a b c (fun e=>d (e▸.head _)) (fun e=>d (e▸.tail _ (.head _))) fun e=>(List.nodup_cons.mp f).1 (e▸.head _)).elim
theorem I9(h:∀v∈l,v∈T.map Bl):∃m:List Bool,l=m.map Bl:=by
 induction l with
 |nil=>exact⟨[],rfl⟩
 |cons v r a=>
  obtain⟨b,_,rfl⟩:=AS (h v (.head _));obtain⟨m,rfl⟩:=a fun u c=>h u (.tail _ c);exact⟨b::m,rfl⟩
theorem ID:Bl s∈T.map Bl↔s∈T:=⟨fun h=>by obtain⟨c,a,b⟩:=AS h;rw[<- E0 b];exact a,fun h=>mem_map_of_mem h⟩
theorem WM:Ge (Bl true) (Bl false)=false:=by decide +kernel
theorem Ke(h:∀b,T.contains b=j0 b)(d:l.Perm (B7 [] (T.map Bl)))(i:l.Pairwise (fun a b=>Ge a b=true)):l=MO j0:=by
 obtain⟨j,k⟩:=FB (l:=T.map Bl) (acc:=[]) .nil;have f:∀x,x∈l↔x∈T.map Bl:=fun x=>d.mem_iff.trans ((k x).trans ⟨fun q=>q.elim (fun q=>by cases q) id,.inr⟩);obtain⟨c,rfl⟩:=I9 fun v m=>(f v).mp m;have n:c.Nodup:=of_map (R:=fun a b=>a≠b) _ (fun a b q e=>q (congrArg _ e)) (d.nodup_iff.mpr j);have g:∀b,j0 b=true↔b∈c:=fun b=>by rw[<- h b,contains_iff_mem,<- ID,<- f,ID]
 have o:j0 false=decide (false∈c):=by rw[Bool.eq_iff_iff,g,decide_eq_true_iff]
 have p:j0 true=decide (true∈c):=by rw[Bool.eq_iff_iff,g,decide_eq_true_iff]
 unfold MO;rw[filter_cons,filter_cons,filter_nil,o,p];rcases Hk n with rfl |rfl |rfl |rfl |rfl
 .rfl
 .rfl
 .rfl
 .rfl
 .have:=(List.pairwise_cons.mp i).1 (Bl false) (.head _);rw[WM]at this;cases this
theorem Y7(e:(l.any fun u=>BY u v)=s)(h:IO l)(a:∃x,v=.str x)(b:i4 s):IW .In v (.tup l) H i4:=
 ⟨h,a,e▸b⟩
theorem VD(h:H[n]? =some (.list l))(a:l.length<60)(b:KP l\/IO l)(c:z (.loc H.length) (H++[.set (B7 [] l)])):Nu .set [.loc n] H z:=objA_i h ⟨a,b,c⟩
theorem VC(h:H[n]? =some (.set l))(a:D7 l H z):Nu .sorted [.loc n] H z:=objA_i h a
theorem F2:∀{l a:List V},(B7 a l).length<=a.length+l.length:=by
 intro b;induction b with
 |nil=>
  intro a;exact AM _
 |cons v r c=>
  intro a;rw[KI];refine AF c ?_
  split
  .rw[AQ];exact le_succ _
  .rw[AI,AQ,AQ,length_nil];exact AT (Ag _ _ _)
structure DX(H:Aj)(nm kn:Nat)(B:Nat):Prop where
 at_:H[nm]? =some (.inst "FreeNames" [(ofString "known",.loc kn)])
 kd:EC fun kv=>DD (H[kn]? =some (.dict kv)) ((∀k v,BI kv (DU k)=some v->v=.tup (MO (fv k)))) (kv.length+B<=900000)
theorem DX.ne{B:Nat}(x:DX H n k B):n≠k:=fun e=>by
 obtain⟨a,h,_⟩:=x.kd;rw[<- e,x.at_]at h;cases h
theorem DX.le{B B':Nat}(x:DX H n k B)(h:B'<=B):DX H n k B':=⟨x.at_,by obtain⟨d,a,b,c⟩:=x.kd;exact⟨d,a,b,AF (AO h _) c⟩⟩
theorem DX.keep{H':Aj}{B:Nat}(x:DX H n k B)(f:∀m o,m=n\/m=k->H[m]? =some o->H'[m]? =some o):DX H' n k B:=⟨f _ _ (.inl rfl) x.at_,by obtain⟨d,a,b,c⟩:=x.kd;exact⟨d,f _ _ (.inr rfl) a,b,c⟩⟩
theorem DX.fr{a:Aj}{B:Nat}(x:DX H n k B)(f:Fr (fun b=>False) H a):DX a n k B:=x.keep fun m o b e=>f.old e id
theorem DX.tg{B:Nat}(x:DX H n k B){m p:String}(a:autoParam (List.lookup (ofString m) [(ofString "known",V.loc k)]=none) rf)(b:autoParam (Fl "FreeNames" (ofString m)=some p) rf):Ga H n (ofString m) p:=CC x.at_ rfl a b
def D2(X:Cx)(nm kn:Nat)(k:Ky)(d c:Nat):Prop:=∀(H:Aj)(B:Nat)(b:V->Aj->Prop),DX H nm kn (B+c)->(∀a,Fr (fun m=>m=kn) H a->DX a nm kn B->b (.tup (MO (fv k))) a)->Ap X d "FreeNames.of" [.loc nm,DU k] H b
def Pj(X:Cx)(nm kn:Nat)(k:Ky)(d c:Nat):Prop:=∀(H:Aj)(B:Nat)(f:V->Aj->Prop),DX H nm kn (B+c) ->
 (∀a n (e:List Bool),Fr (fun m=>m=kn) H a->DX a nm kn B->a[n]? =some (.list (e.map Bl))->n≠kn->e.length<60->(∀b,e.contains b=fv k b)->f (.loc n) a)->Ap X d "FreeNames.within" [.loc nm,DU k] H f
section
variable {nm kn d c:Nat} {k:Ky}
theorem D2.up(h:D2 X nm kn k d c){d':Nat}(hd:d<=d'):D2 X nm kn k d' c:=fun H B a x b=>(h H B a x b).deep hd
theorem Gk(F:BN X)(t:Pd 8 (DU k))(M:Pj X nm kn k d c):D2 X nm kn k (d+2) (c+1):=fun H B Φ x I=>by
 obtain⟨N,J,y,kb⟩:=x.kd;refine Ao F 19 rfl (Al fun O K=>?_);refine objA_i x.at_ ?_;w_dflts J;refine⟨t,?_⟩;refine MC (BI N (DU k)) (fun v z=>?_) fun z=>?_
 .refine K _ _ ?_;refine objA_i x.at_ ?_;w_dflts J;refine⟨v,t,z,?_⟩;rw[y k v z];exact I H .refl (x.le (by omega))
 .refine tg_i (x.tg (m:= "within") (p:= "FreeNames.within")) fun P=>?_;refine An (k:=d) (by omega) (M H (B+1) _ (x.le (AT (Ag _ _ _))) fun u n w fr Q R S A T=>?_);w_dflts R;refine⟨by rw[AG];exact A,.inr Gl,?_⟩;obtain⟨C,D⟩:=FB (l:=w.map Bl) (acc:=[]) .nil;have U:=Ak (H:=u) (o:=.set (B7 [] (w.map Bl)));w_dflts U;refine⟨AH F2 (by rw[AG];simpa using A),C,.inr (.inl ?_),fun m a V=>?_⟩
  .obtain⟨m,e⟩:=I9 fun v W=>((D v).mp W).elim (fun q=>by cases q) id;rw[e];exact Gl
  have em:=Ke T a V;subst em;refine objA_i (Ak (H:=u++[HO.set (B7 [] (w.map Bl))]) (o:=.list (MO (fv k)))) ?_;refine⟨(by rw[a.length_eq];exact AF F2 (by rw[AG,length_nil,Nat.zero_add];exact AF (AR A) (by decide))),?_⟩;generalize E:u++[HO.set (B7 [] (w.map Bl))]++[HO.list (MO (fv k))]=Y;have b:Fr (fun P=>False) u Y:=by rw[<- E];exact(Fr.new _).app _
  have G:=Q.fr b;obtain⟨f,g,i,j⟩:=G.kd;refine objA_i G.at_ ?_;refine Sa g t (AH (AF (AU _ _) j) (by decide:900000<Ar)) (K _ _ ?_);have r:=Aq (n:=kn) (o':=.dict (BK f (DU k) (.tup (MO (fv k))))) G.at_ x.ne;w_dflts r;have s:=BE (o':=.dict (BK f (DU k) (.tup (MO (fv k))))) g;w_dflts s;refine⟨_,t,B0,I _ ((fr.trans b.pure).set (.inr rfl) _) ⟨r,_,s,fun L Z h=>?_,?_⟩⟩
  .by_cases e:L=k
   .subst e;rw[B0]at h;cases h;rfl
   .rw[CY fun q=>e (OL q)]at h;exact i L Z h
  .exact AF (AP Ei _) (AF (AT (Nat.succ_add_eq_add_succ _ _)) j)
end
def MG:List V:=[sS "and",sS "or"]
def MT:List V:=[sS "rel",sS "var",sS "tuples",sS "univ",sS "iden",sS "none",sS "num",sS "true",sS "false"]
def Lm:List V:=[sS "all",sS "exists",sS "comp",sS "sum"]
def EN(l:List V)(a:String):Bool:=l.any fun u=>BY u (sS a)
section
variable {nm kn d c:Nat} {k:Ky} {H:Aj} {Φ:V->Aj->Prop} {op:String} {args:List V}
theorem ZU:(seqIndex? 0 (v::l).length).bind ((v::l)[·]?)=some v:=by
 rw[show(0:Int)=((0:Nat):Int)from rfl,OO (by simp)];rfl
theorem Lp(F:BN X)(h:EN MG op=false)(j:args.length<=3)(f:Φ (.tup (cond (EN MT op) [] args)) H):Ap X 1 "parts_of" [.tup (sS op::args)] H Φ:=by
 refine Ao F 17 rfl (Al fun kn g=>?_);refine⟨Ey (l:=MG) rfl,⟨_,rfl⟩,?_⟩;generalize a:List.any _ _=b;obtain rfl:b=false:=a.symm.trans h;refine g _ _ (Al fun kn g=>?_);refine Ce (EN MT op) (fun e=>?_) fun e=>?_
 .rw[e]at f;refine⟨Ey (l:=MT) rfl,⟨_,rfl⟩,?_⟩;generalize a:List.any _ _=b;obtain rfl:b=true:=a.symm.trans e;exact f
 .rw[e]at f;refine⟨Ey (l:=MT) rfl,⟨_,rfl⟩,?_⟩;generalize a:List.any _ _=b;obtain rfl:b=false:=a.symm.trans e;refine g _ _ ?_;refine(⟨_,by rw[AQ];unfold Ar;omega,Fw (i:=1),f⟩)
theorem Bm(a:r l (fun b=>True) H):Cd (.tup l) H r:=by unfold Cd;exact a
theorem Em:(([false,true].filter j0).length)<=2:=Af _ _
theorem Q5:(MO j0).length<=2:=by unfold MO;rw[AG];exact Em
theorem Gg{f:Bool->Bool}:([false,true].filter f).contains s=f s:=by
 rw[Bool.eq_iff_iff,contains_iff_mem,mem_filter];exact⟨fun h=>h.2,fun h=>⟨by cases s<;>simp,h⟩⟩
theorem FO(F:BN X)(v:List Ky)(U:DU k=.tup (sS op::args))(W:(ofString op==ofString "var")=false)(hd:EN Lm op=false)(Y:EN MG op=false)(Z:args.length<=3)(hp:cond (EN MT op) [] args=v.map DU)
  (y:v.length<=2) (I:1<=d) (J:∀w∈v,D2 X nm kn w d c) (hf:∀b,fv k b=v.any fun w=>fv w b):Pj X nm kn k (d+2) (c*v.length):=fun H B Φ x φ=>by
 rw[U];refine Ao F 20 rfl (Al fun j hk=>?_);w_left;cases Q:(ofString op==ofString "var")with
 |true=>rw[W]at Q;cases Q
 |false=>
  refine hk _ _ (Al fun j n=>?_);refine(n _ _ (Al fun j n=>?_));refine⟨Ey (l:=Lm) rfl,⟨_,rfl⟩,?_⟩;generalize K:List.any _ _=bb;obtain rfl:bb=false:=K.symm.trans hd;refine n _ _ (Al fun j y=>?_);generalize A:H++[HO.list []]++[HO.list []]=R;have C:Fr (fun S=>False) H R:=by rw[<- A];exact(Fr.new _).app _
  have L:R[H.length]? =some (.list []):=by rw[<- A];exact Au Ak _
  obtain⟨a0,M,_⟩:=x.kd;have r:H.length≠kn:=fun e=>Nat.lt_irrefl _ (e▸Ax M);refine(An (k:=1) (lt_succ_of_le I) (Lp F Y Z ?_));rw[hp];refine Bm ?_;refine Bp (xs:=v) (f:=DU) (fun(a post:List Ky) N s=>Dd fun(i:List Bool) (o:Option V)=>WC (N=XE (some (.loc nm)) (some (.tup (sS op::args))) (some (.loc H.length)) (some (.loc (H.length+1))) none none o) (Fr (fun m=>m=kn) H s) (DX s nm kn (B+c*post.length)) (s[H.length]? =some (.list (i.map Bl))) (i.length<=2*a.length) (∀b,i.contains b=a.any fun w=>fv w b)) ?_ ?_ _ _
   ⟨[],none,List.length_append.symm▸rfl,C.pure,x.fr C,L,AM _,fun S=>rfl⟩
  .rintro a q post N s w T ⟨i,o,rfl,fr,D,g,t,u⟩ O;have P:a.length<=2:=by have:=BU T;omega
   refine objA_i g ?_;refine tg_i (D.tg (m:= "of") (p:= "FreeNames.of")) fun S=>?_;rw[AQ,mul_succ,<- Nat.add_assoc]at D;refine An (k:=d) (by omega) (J q (by rw[T];exact AZ _ (.head _)) s _ _ D fun H2 E x2=>?_);have G:=E.old g r;refine QA G (by rw[AG];exact AH (Ad t Q5) (AH (AF (AP (Ac _ P) _) (by decide):_<=60) (by decide))) ?_;refine O _ _ trivial ⟨i++[false,true].filter (fv q),some (DU q),rfl,((fr.trans E).set (.inl (AM _)) (.list (i.map Bl++MO (fv q)))),x2.keep fun m o h e=>Aq e fun z=>?_,by rw[AL];exact BE G,?_,fun b=>?_⟩
   .have:=Ax x.at_;exact h.elim (fun q=>by omega) fun q=>r (z.symm.trans q)
   .rw[AI,AI];exact Ad t Em
   .rw[contains_append,Gg,u b,List.any_append];simp
  .rintro N s ⟨i,o,rfl,fr,D,g,t,u⟩;refine y _ _ ?_;exact φ s _ i fr D g r (by omega) fun b=>(u b).trans (hf b).symm
theorem ND(F:BN X):Pj X nm kn (.s (.var s)) 1 0:=fun H B Φ y f=>by
 refine Ao F 20 rfl (Al fun g i=>?_);obtain⟨h,a,_⟩:=y.kd;exact f _ _ [s] (Fr.new _) (y.fr (Fr.new _)) Ak (fun e=>Nat.lt_irrefl _ (e▸Ax a)) (by simp) fun b=>by
  cases s<;>cases b<;>rfl
theorem NN:((T.map Bl).any fun u=>BY u (Bl s))=T.contains s:=by
 rw[Bool.eq_iff_iff,FX,ID,contains_iff_mem]
theorem Ip{bb:List Bool}(step:∀(b:Bool) (l:List Bool) (f:HO->Aj->Prop),l.length<60->f (.list ((if bb.contains b=true then l else l++[b]).map Bl)) H->w (Bl b) (.list (l.map Bl)) H f) :
  ∀(L l:List Bool),L.length+l.length<60->N (.list ((l++L.filter fun b=> !bb.contains b).map Bl)) H->CU w (fun j=>True) (L.map Bl) (.list (l.map Bl)) H N:=by
 intro i;induction i with
 |nil=>
  intro l _ a;rw[filter_nil,Ah]at a;exact a
 |cons b L g=>
  intro l e a;rw[AQ]at e;refine step b l _ (lt_of_add_lt_add_left (lt_add_left _ e)) ⟨trivial,?_⟩;rw[filter_cons]at a;by_cases h:bb.contains b=true
  .rw[if_pos h];refine g l (AK (add_lt_add_right (lt_succ_self _) _) (AR e)) ?_;rw[if_neg (by rw[h];decide)]at a;exact a
  .rw[if_neg h];refine g (l++[b]) (by rw[AI,AX];exact AK (add_lt_add_right (lt_succ_self _) _) e) ?_;rw[if_pos (by rw[Bool.not_eq_true]at h;rw[h];rfl)]at a;rw[append_assoc];exact a
theorem Mk:Pd (n+1) (.tup (Bl s::T.map Bl)):=.tup fun v a=>by
 rcases Ae a with rfl |h
 .exact .str _ _
 .obtain⟨c,_,rfl⟩:=AS h;exact .str _ _
theorem M4(F:BN X){b:Nn}(hl:J.length<=2)(l0:1<=d)(a0:∀p∈J,D2 X nm kn (.s p.2) d c)(b0:D2 X nm kn (.n b) d c):Pj X nm kn (.n (.sum J b)) (d+2) (c*(J.length+1)):=fun H B Φ x φ=>by
 refine Ao F 20 rfl (Al fun w hk=>?_);refine(hk _ _ (Al fun w R=>?_));refine(R _ _ (Al fun w R=>?_));refine⟨Ey (l:=Lm) rfl,⟨_,rfl⟩,?_⟩;generalize hq:List.any _ _=bb;obtain rfl:bb=true:=hq.symm.trans (by kernel_rfl);refine Al fun w c0=>?_;generalize I:H++[HO.list []]++[HO.list []]=H1;have S:Fr (fun Z=>False) H H1:=by rw[<- I];exact(Fr.new _).app _
 have d0:H1[H.length]? =some (.list []):=by rw[<- I];exact Au Ak _
 have l1:(H++[HO.list []]).length=H.length+1:=by rw[AI];rfl
 have f0:H1[H.length+1]? =some (.list []):=by rw[<- I,<- l1];exact Ak
 obtain⟨m0,T,_⟩:=x.kd;have U:=Ax T;have n0:=Ax x.at_;refine Bm ?_;refine Bp (xs:=J) (f:=Dx) (fun(a post:List (Bool×Sn)) ρ G=>Ks fun(j:List Bool) (o1 o2:Option V)=>UV (ρ=XE (some (.loc nm)) (some (Ba (.sum J b))) (some (.loc H.length)) (some (.loc (H.length+1))) o1 o2 none) (Fr (fun m=>m=kn) H G) (DX G nm kn (B+c*(post.length+1))) (G[H.length]? =some (.list (j.map Bl))) (G[H.length+1]? =some (.list ((a.map (·.1)).map Bl))) (j.length<=2*a.length) (∀f y,IN J f y=(j.contains y||(IN post f y&& !(a.map (·.1)).contains y)))) ?_ ?_ _ _
  ⟨[],none,none,by rw[l1];rfl,S.pure,x.fr S,d0,f0,AM _,fun f y=>by simp⟩
 .rintro a q post ρ G k' e1 ⟨j,o1,o2,rfl,fr,K,A,M,r,t⟩ g0;have h0:a.length<=2:=by have:=BU e1;omega
  refine(Al fun w i0=>?_);refine objA_i A ?_;refine tg_i (K.tg (m:= "of") (p:= "FreeNames.of")) fun Z=>?_;rw[AQ,mul_succ,mul_succ,<- Nat.add_assoc,<- Nat.add_assoc]at K;refine An (k:=d) (by omega) (a0 q (by rw[e1];exact AZ _ (.head _)) G (B+c*(post.length+1)) _ (K.le (by rw[mul_succ];omega)) fun Q g x2=>?_);have C:=g.old A (by omega);have u:=g.old M (Nat.ne_of_gt (lt_add_right _ U));refine Bm (Ip (bb:=a.map (·.1)) ?_ ([false,true].filter (Bx q.2)) [] (AH (AP Em _) (by decide)) ?_)
  .intro z l k' N h;w_dflts u;refine⟨Mk,?_⟩;rw[NN];cases W:((a.map (·.1)).contains z);rotate_left
   .rw[W]at h;exact h
   .rw[W]at h;exact⟨by rw[AG];exact AV N (by decide),by rw[if_neg (by decide),AL]at h;exact h⟩
  generalize Y:([]++([false,true].filter (Bx q.2)).filter fun b=> !(a.map (·.1)).contains b)=L;have v:L.length<=2:=by rw[<- Y];exact AF (Af _ _) Em
  have O:∀y,L.contains y=(Bx q.2 y&& !(a.map (·.1)).contains y):=fun y=>by
   rw[<- Y,nil_append,Bool.eq_iff_iff,contains_iff_mem,mem_filter,and_eq_true,<- Gg (f:=Bx q.2),contains_iff_mem]
  have i:Fr (fun Z=>False) Q (Q++[HO.list (L.map Bl)]):=Fr.new _;have o0:=fr.len;have j0:=Ax u;refine Sk (i.old C id) Ak (Nat.ne_of_gt (lt_of_succ_lt j0)) (by rw[AG,AG];exact AH (Ad r v) (AH (by omega:_<=60) (by decide))) (i0 _ _ ?_);generalize D:(Q++[HO.list (L.map Bl)]).set H.length (.list (j.map Bl++L.map Bl))=H3;have E:Fr (fun m=>m=kn) H H3:=by rw[<- D];exact((fr.trans g).trans i.pure).set (.inl (AM _)) _
  have P:H3[H.length+1]? =some (.list ((a.map (·.1)).map Bl)):=by rw[<- D];exact Aq (i.old u id) (Nat.ne_of_gt (lt_succ_self _))
  have k0:H3[H.length]? =some (.list ((j++L).map Bl)):=by rw[<- D,AL];exact BE (i.old C id)
  have x3:DX H3 nm kn (B+c*(post.length+1)):=by rw[<- D];exact(x2.fr i).keep fun m o h e=>Aq e fun z=>h.elim (fun q=>by omega) fun q=>by omega
  refine objA_i P ?_;refine Bf P (by rw[AG,AG];exact AH h0 (by decide)) ?_;refine g0 _ _ trivial ⟨j++L,some (Bl q.1),some (BO q.2),rfl,E.set (.inl (le_succ _)) _,x3.keep fun m o h e=>Aq e fun z=>h.elim (fun q=>by omega) fun q=>by omega,Aq k0 (Nat.ne_of_lt (lt_succ_self _)),by rw[AL,AL];exact BE P,by rw[AI,AI];exact Ad r v,fun f y=>?_⟩;rw[t f y,HN,contains_append,O y,AL,contains_append];show _=(_||(IN post f y&& !(_||(y==q.1||false))));cases j.contains y<;>cases Bx q.2 y<;>cases(a.map (·.1)).contains y<;>cases IN post f y<;>cases y<;>cases q.1<;>rfl
 .rintro ρ G ⟨j,o1,o2,rfl,fr,K,A,M,r,t⟩;refine c0 _ _ ?_;refine tg_i (K.tg (m:= "of") (p:= "FreeNames.of")) fun Z=>?_;rw[length_nil,mul_succ,Nat.mul_zero,Nat.zero_add]at K;refine An (k:=d) (by omega) (b0 G B _ K fun Q g x2=>?_);have C:=g.old A (by omega);have u:=g.old M (Nat.ne_of_gt (lt_add_right _ U));refine Bm (Ip (bb:=J.map (·.1)) ?_ ([false,true].filter (Cp b)) [] (AH (AP Em _) (by decide)) ?_)
  .intro z l k' N h;w_dflts u;refine⟨Mk,?_⟩;rw[NN];cases W:((J.map (·.1)).contains z);rotate_left
   .rw[W]at h;exact h
   .rw[W]at h;exact⟨by rw[AG];exact AV N (by decide),by rw[if_neg (by decide),AL]at h;exact h⟩
  generalize Y:([]++([false,true].filter (Cp b)).filter fun b=> !(J.map (·.1)).contains b)=L;have v:L.length<=2:=by rw[<- Y];exact AF (Af _ _) Em
  have O:∀y,L.contains y=(Cp b y&& !(J.map (·.1)).contains y):=fun y=>by
   rw[<- Y,nil_append,Bool.eq_iff_iff,contains_iff_mem,mem_filter,and_eq_true,<- Gg (f:=Cp b),contains_iff_mem]
  have i:Fr (fun Z=>False) Q (Q++[HO.list (L.map Bl)]):=Fr.new _;refine objA_i (i.old C id) ?_;refine objA_i Ak ?_;refine⟨by rw[AG,AG];exact AR (AH (Ad r v) (AH (by omega:_<=60) (by decide))),?_⟩;have E:=(i.app [HO.list (j.map Bl++L.map Bl)]);refine φ _ _ (j++L) ((fr.trans g).trans E.pure) (x2.fr E) (by rw[AL];exact Ak) (fun e=>by have:=Ax T;have:=fr.len;have:=g.len;rw[AI]at e;omega) (by rw[AI];exact AH (Ad (AF r (Ac 2 hl)) v) (by decide)) fun y=>?_;rw[contains_append,O y];exact(t (Cp b) y).symm
end
def hS:Sn->Nat
 |.rel=>0 |.var _=>0 |.jl a=>hS a+1 |.jr a=>hS a+1 |.uni a b=>max (hS a) (hS b)+1 |.min a b=>max (hS a) (hS b)+1
theorem Yf:hS (.rel)=0:=rfl
theorem XX:∀a,hS (.jl a)=hS a+1:=fun b=>rfl
theorem Wy:∀a,hS (.jr a)=hS a+1:=fun b=>rfl
theorem Tv:∀a b,hS (.uni a b)=max (hS a) (hS b)+1:=fun c c=>rfl
theorem RA:∀a b,hS (.min a b)=max (hS a) (hS b)+1:=fun c c=>rfl
def hD:List (Bool×Sn)->Nat
 |[]=>0
 |d::r=>max (hS d.2) (hD r)
theorem Yy:hD []=0:=rfl
def hN:Nn->Nat
 |.cnt a=>hS a+1 |.num _=>0 |.less a b=>max (hN a) (hN b)+1 |.sum ds b=>max (hD ds) (hN b)+1
theorem WD:∀a,hN (.cnt a)=hS a+1:=fun b=>rfl
theorem Y6:∀a,hN (.num a)=0:=fun b=>rfl
theorem TQ:∀a b,hN (.less a b)=max (hN a) (hN b)+1:=fun c c=>rfl
theorem TT:∀a b,hN (.sum a b)=max (hD a) (hN b)+1:=fun c c=>rfl
def cK:Nat->Nat
 |0=>1
 |h+1=>cK h*3+1
theorem ZL:cK 0=1:=rfl
def VG:Nn->Prop
 |.cnt _=>True |.num _=>True |.less a b=>VG a/\VG b |.sum ds b=>ds.length<=2/\VG b
theorem Np(a:n<=k):cK n<=cK k:=by
 induction k with
 |zero=>rw[Nat.le_zero.mp a];exact AM _
 |succ b c=>
  by_cases e:n=b+1
  .rw[e];exact AM _
  .rw[ZL];exact AF (c (le_of_lt_succ (lt_of_le_of_ne a e))) (AF (Nat.le_mul_of_pos_right _ (by decide)) (AU _ _))
section
variable {nm kn:Nat}
theorem D2.at(k:Ky){h:Nat}(x:D2 X nm kn k (4*h+5) (cK h))(a:h<=n):D2 X nm kn k (4*n+5) (cK n):=fun H B b y c=>
 (x H B b (y.le (AO (Np a) _)) c).deep (Ad (Ac _ a) (by decide))
theorem U3{a:Ky}{b:Nat}(x:Pj X nm kn a n k)(h:k<=b):Pj X nm kn a n b:=fun H B c y d=>x H B c (y.le (AO h _)) d
theorem D4(F:BN X){k:Ky}{op:String}{args:List V}(a:List Ky)(g:DU k=.tup (sS op::args))(d:Pd 8 (DU k))(h:(ofString op==ofString "var")=false)(hd:EN Lm op=false)(i:EN MG op=false)(j:args.length<=3)(l:cond (EN MT op) [] args=a.map DU)
  (c:a.length<=2) (e:∀f∈a,D2 X nm kn f (4*n+5) (cK n)) (m:∀b,fv k b=a.any fun f=>fv f b):D2 X nm kn k (4*(n+1)+5) (cK (n+1)):=
 Gk F d (U3 (FO F a g h hd i j l c (by omega) e m) (AF (Ac _ c) (Ac _ (by decide))))
theorem Je(F:BN X){k:Ky}{op:String}{args:List V}(e:DU k=.tup (sS op::args))(a:Pd 8 (DU k))(f:(ofString op==ofString "var")=false)(hd:EN Lm op=false)(g:EN MG op=false)(i:args.length<=3)(j:cond (EN MT op) [] args=[])
  (l:∀b,fv k b=false):D2 X nm kn k (4*0+5) (cK 0):=
 Gk F a (FO F (d:=1) (c:=0) [] e f hd g i j (by decide) (by decide) (fun m h=>by cases h) l)
theorem Vu(F:BN X):D2 X nm kn .r1 (4*0+5) (cK 0):=
 Je F (op:= "rel") (args:=[.int 1]) rfl (.tup fun v a=>by
  rcases Ae a with rfl |a
  .exact .str _ _
  .rw[AJ a];exact .int _ _) (by kernel_rfl) (by kernel_rfl) (by kernel_rfl) (by decide) (by kernel_rfl) fun b=>rfl
theorem Ll{P:Ky->Prop}{a b:Ky}(d:P a)(e:P b):∀k∈[a,b],P k:=fun k c=>by
 rcases Ae c with rfl |c
 .exact d
 .rw[AJ c];exact e
theorem Ii(F:BN X):∀a:Sn,Pd 8 (BO a)->D2 X nm kn (.s a) (4*hS a+5) (cK (hS a))
 |.rel,e=>Je F (op:= "rel") (args:=[.int 0]) rfl e (by kernel_rfl) (by kernel_rfl) (by kernel_rfl) (by decide) (by kernel_rfl) fun h=>rfl
 |.var x,e=>fun H B f y g=>(Gk F (d:=1) (c:=0) (k:=.s (.var x)) e (ND F) H B f y g).deep (by omega)
 |.jl a,e=>D4 F [.s a,.r1] (op:= "join") (args:=[BO a,Gc]) rfl e (by kernel_rfl) (by kernel_rfl) (by kernel_rfl) (by simp) (by kernel_rfl) (by simp) (Ll (Ii F a (e.mem (by exact .tail _ (.head _)))) ((Vu F).at _ (zero_le _))) fun b=>by
   show Bx a b=(Bx a b||(false||false));cases Bx a b<;>rfl
 |.jr a,e=>D4 F [.r1,.s a] (op:= "join") (args:=[Gc,BO a]) rfl e (by kernel_rfl) (by kernel_rfl) (by kernel_rfl) (by simp) (by kernel_rfl) (by simp) (Ll ((Vu F).at _ (zero_le _)) (Ii F a (e.mem (by simp)))) fun b=>by
   show Bx a b=(false||(Bx a b||false));cases Bx a b<;>rfl
 |.uni a c,e=>D4 F [.s a,.s c] (op:= "union") (args:=[BO a,BO c]) rfl e (by kernel_rfl) (by kernel_rfl) (by kernel_rfl) (by simp) (by kernel_rfl) (by simp) (Ll ((Ii F a (e.mem (by exact .tail _ (.head _)))).at _ (le_max_left _ _)) ((Ii F c (e.mem (by simp))).at _ (le_max_right _ _))) fun b=>by
   show(Bx a b||Bx c b)=(Bx a b||(Bx c b||false));cases Bx a b<;>cases Bx c b<;>rfl
 |.min a c,e=>D4 F [.s a,.s c] (op:= "minus") (args:=[BO a,BO c]) rfl e (by kernel_rfl) (by kernel_rfl) (by kernel_rfl) (by simp) (by kernel_rfl) (by simp) (Ll ((Ii F a (e.mem (by exact .tail _ (.head _)))).at _ (le_max_left _ _)) ((Ii F c (e.mem (by simp))).at _ (le_max_right _ _))) fun b=>by
   show(Bx a b||Bx c b)=(Bx a b||(Bx c b||false));cases Bx a b<;>cases Bx c b<;>rfl
theorem RB{p:Bool×Sn}(h:p∈J):hS p.2<=hD J:=by
 induction J with
 |nil=>cases h
 |cons d r a=>
  rcases Ae h with rfl |h
  .exact le_max_left _ _
  .exact AF (a h) (le_max_right _ _)
theorem M9(F:BN X):∀a:Nn,Pd 8 (Ba a)->VG a->D2 X nm kn (.n a) (4*hN a+5) (cK (hN a))
 |.num k,d,_=>Je F (op:= "num") (args:=[.int k]) rfl d (by kernel_rfl) (by kernel_rfl) (by kernel_rfl) (by simp) (by kernel_rfl) fun i=>rfl
 |.cnt a,d,_=>D4 F [.s a] (op:= "count") (args:=[BO a]) rfl d (by kernel_rfl) (by kernel_rfl) (by kernel_rfl) (by simp) (by kernel_rfl) (by simp) (fun k h=>by rw[AJ h];exact Ii F a (d.mem (by exact .tail _ (.head _)))) fun b=>by
   show Bx a b=(Bx a b||false);cases Bx a b<;>rfl
 |.less a c,d,e=>D4 F [.n a,.n c] (op:= "less") (args:=[Ba a,Ba c]) rfl d (by kernel_rfl) (by kernel_rfl) (by kernel_rfl) (by simp) (by kernel_rfl) (by simp) (Ll ((M9 F a (d.mem (by exact .tail _ (.head _))) e.1).at _ (le_max_left _ _)) ((M9 F c (d.mem (by simp)) e.2).at _ (le_max_right _ _))) fun b=>by
   show(Cp a b||Cp c b)=(Cp a b||(Cp c b||false));cases Cp a b<;>cases Cp c b<;>rfl
 |.sum f b,d,e=>Gk F d (U3 (M4 F (c:=cK (max (hD f) (hN b))) e.1 (by omega) (fun p g=>(Ii F p.2 ((d.mem (v:=.tup (f.map Dx)) (by exact .tail _ (.head _))).mem (mem_map_of_mem g) |>.mem (v:=BO p.2) (by simp[Dx]))).at _ (AF (RB g) (le_max_left _ _))) ((M9 F b (d.mem (by simp)) e.2).at _ (le_max_right _ _)))
   (Ac _ (by have:=e.1;omega)))
end
structure Wd where
 s:Nat->Bool
 r:Nat->Nat->Bool
abbrev En:=Bool->Option Nat
variable {M:En->Aj->BS->V->Prop}
def upd(e:En)(x:Bool)(a:Nat):En:=fun y=>if y=x then some a else e y
def Bb(u:Nat)(w:Wd)(e:En):Sn->Nat->Bool
 |.rel,a=>w.s a
 |.var x,a=>e x==some a
 |.jl s,b=>(List.range u).any fun a=>Bb u w e s a&&w.r a b
 |.jr s,a=>(List.range u).any fun b=>Bb u w e s b&&w.r a b
 |.uni s t,a=>Bb u w e s a||Bb u w e t a
 |.min s t,a=>Bb u w e s a&& !Bb u w e t a
theorem G8:∀u w e x a,Bb u w e (.var x) a=(e x==some a):=fun b b b b b=>rfl
theorem Mu:∀u w e s b,Bb u w e (.jl s) b=((List.range u).any fun a=>Bb u w e s a&&w.r a b):=fun c c c c c=>rfl
theorem Mi:∀u w e s a,Bb u w e (.jr s) a=((List.range u).any fun b=>Bb u w e s b&&w.r a b):=fun c c c c c=>rfl
theorem HW:∀u w e s t a,Bb u w e (.uni s t) a=(Bb u w e s a||Bb u w e t a):=fun b b b b b b=>rfl
theorem Jb:∀u w e s t a,Bb u w e (.min s t) a=(Bb u w e s a&& !Bb u w e t a):=fun b b b b b b=>rfl
def DZ(u:Nat)(w:Wd):List (Bool×Sn)->En->(En->Int)->Int
 |[],e,f=>f e
 |d::r,e,f=>((List.range u).map fun a=>if Bb u w e d.2 a=true then DZ u w r (upd e d.1 a) f else 0).sum
theorem Vw:∀u w e f,DZ u w [] e f=f e:=fun a a a a=>rfl
theorem MV:∀u w d r e f,DZ u w (d::r) e f=(((List.range u).map fun a=>if Bb u w e d.2 a=true then DZ u w r (upd e d.1 a) f else 0).sum):=fun b b b b b b=>rfl
def DA(u:Nat)(w:Wd):Nn->En->Int
 |.cnt s,e=>(((List.range u).filter (Bb u w e s)).length:Int)
 |.num k,_=>k
 |.less a b,e=>DA u w a e-DA u w b e
 |.sum ds b,e=>DZ u w ds e fun c=>DA u w b c
theorem IB:∀u w s e,DA u w (.cnt s) e=(((List.range u).filter (Bb u w e s)).length:Int):=fun a a a a=>rfl
theorem Hx:∀u w a b e,DA u w (.less a b) e=DA u w a e-DA u w b e:=fun c c c c c=>rfl
theorem IM:∀u w c b e,DA u w (.sum c b) e=(DZ u w c e fun d=>DA u w b d):=fun a a a a a=>rfl
section
variable {u:Nat} {w:Wd} {e e':En}
theorem Cc:∀{s:Sn}{a:Nat},(∀x,Bx s x=true->e x=e' x)->Bb u w e s a=Bb u w e' s a
 |.rel,a,h=>rfl
 |.var x,a,h=>by rw[G8,G8,h x (by rw[Ux];simp)]
 |.jl s,b,h=>by rw[Mu,Mu];exact Dt fun a d=>by rw[Cc (s:=s) h]
 |.jr s,b,h=>by rw[Mi,Mi];exact Dt fun a d=>by rw[Cc (s:=s) h]
 |.uni s t,a,h=>by rw[HW,HW,Cc (s:=s) fun x c=>h x (by rw[Hz,c];rfl),Cc (s:=t) fun x c=>h x (by rw[Hz,c,Bool.or_true])]
 |.min s t,a,h=>by rw[Jb,Jb,Cc (s:=s) fun x c=>h x (by rw[GL,c];rfl),Cc (s:=t) fun x c=>h x (by rw[GL,c,Bool.or_true])]
theorem RM:∀{b:List (Bool×Sn)}{e e':En}{g:Bool->Bool}{f:En->Int},(∀e e':En,(∀x,g x=true->e x=e' x)->f e=f e')->(∀x,IN b g x=true->e x=e' x)->DZ u w b e f=DZ u w b e' f:=by
 intro j;induction j with
 |nil=>
  intro e e' g f c h;exact c e e' h
 |cons d r k=>
  intro e e' g f c h;rw[MV,MV];refine congrArg List.sum (map_congr_left fun a l=>?_);rewrite[Cc (s:=d.2) (e':=e') fun x i=>h x (by rw[HN,i];rfl),k (g:=g) (e:=upd e d.1 a) (e':=upd e' d.1 a) c fun x i=>?_]
  .rfl
  unfold upd;by_cases q:x=d.1
  .rw[if_pos q,if_pos q]
  .rw[if_neg q,if_neg q];exact h x (by rw[HN,i,Bool.true_and,bne_iff_ne.mpr (Ne.symm q),Bool.or_true])
theorem Ft:∀{n:Nn}{e e':En},(∀x,Cp n x=true->e x=e' x)->DA u w n e=DA u w n e'
 |.cnt s,e,e',h=>by
  rw[IB,IB,show Bb u w e s=Bb u w e' s from funext fun a=>Cc h]
 |.num _,_,_,_=>rfl
 |.less a b,e,e',h=>by rw[Hx,Hx,Ft (n:=a) fun x c=>h x (by rw[OG,c];rfl),Ft (n:=b) fun x c=>h x (by rw[OG,c,Bool.or_true])]
 |.sum d b,e,e',h=>by rw[IM,IM];exact RM (g:=Cp b) (fun e e' q=>Ft (n:=b) q) h
end
def wN:Nn->Nat
 |.cnt _=>6 |.num k=>k.natAbs+1 |.less a b=>max (wN a) (wN b)+1 |.sum _ b=>max (wN b) 1+4
theorem Xa:∀k,wN (.num k)=k.natAbs+1:=fun a=>rfl
theorem WQ:∀a b,wN (.less a b)=max (wN a) (wN b)+1:=fun c c=>rfl
theorem Vm:∀a b,wN (.sum a b)=max (wN b) 1+4:=fun c c=>rfl
structure T0 where
 W:Nat->Prop
 L:CL
 t:Nat
 ms:Nat
 bn:Nat
 nm:Nat
 kn:Nat
 me:Nat
 ask:Nat
 rl:Nat
 u:Nat
 v0:V
 v1:V
 m0:Mx
 m1:Mx
 wd:(Nat->Bool)->Wd
 pin:List (V×V)
def T0.W1(E:T0)(n:Nat):Prop:=E.W n\/n=E.kn\/n=E.me
structure YN(E:T0)(H:Aj):Prop where
 at_:H[E.t]? =some (.inst "Translator" [(ofString "circuit",.loc E.L.c),(ofString "matrices",.loc E.ms),(ofString "binary",.loc E.bn),(ofString "names",.loc E.nm),(ofString "memory",.loc E.me),(ofString "asked",.loc E.ask),(ofString "relations",.loc E.rl)])
 ms:Fz E.W1 H E.ms E.L
 bn:Cw E.W1 H E.bn E.L
 rl:H[E.rl]? =some (.list [E.v0,E.v1])
 wt:¬E.W1 E.t
 wrl:¬E.W1 E.rl
 wnm:¬E.W1 E.nm
 wc:¬E.W1 E.L.c
 wkn:¬E.W E.kn
 wme:¬E.W E.me
 km:E.kn≠E.me
 u3:E.u<=3
structure Tu(E:T0)(H:Aj)(C:BS):Prop where
 r0:Um E.W1 H C E.u E.v0 E.m0
 r1:Cb E.W1 H E.v1 2 E.m1
 g1:Uo C E.m1
 k1:∀t∈E.m1.map (·.1),Dd fun(a b:Nat)=>DD (a<E.u) (b<E.u) (t=[(a:Int),(b:Int)])
 s0:∀ρ (a:Nat),Mine.Internal.ms C ρ E.m0 [(a:Int)]=(E.wd ρ).s a
 s1:∀ρ (a b:Nat),Mine.Internal.ms C ρ E.m1 [(a:Int),(b:Int)]=(E.wd ρ).r a b
def IL(E:T0)(H:Aj)(C:BS)(e:En)(s:Sn)(v:V):Prop:=∃m,Um E.W1 H C E.u v m/\∀b (a:Nat),Mine.Internal.ms C b m [(a:Int)]=Bb E.u (E.wd b) e s a
def Hj(E:T0)(C:BS)(e:En)(n:Nn)(v:V):Prop:=EC fun r=>KT (v=Am r) (Num C r) (r.length<=wN n) (∀a,rd C a r=DA E.u (E.wd a) n e)
abbrev e0:En:=fun a=>none
structure IA(E:T0)(H:Aj)(C:BS)(kv:List (V×V)):Prop where
 s:∀s v,BI kv (BO s)=some v->IL E H C e0 s v
 n:∀n v,BI kv (Ba n)=some v->Hj E C e0 n v
 r:∀v,BI kv Gc=some v->v=E.v1
 pin:∀p∈E.pin,BI kv p.1=some p.2
structure BZ(E:T0)(H:Aj)(C:BS)(B:Nat):Prop where
 cir:BC E.W H E.L C B
 nm:DX H E.nm E.kn B
 me:EC fun kv=>DD (H[E.me]? =some (.dict kv)) (IA E H C kv) (kv.length+B<=900000)
 fx:YN E H
 rs:Tu E H C
section
variable {E:T0} {H H':Aj} {C C':BS} {B B':Nat} {e:En} {s:Sn} {n:Nn} {v:V} {kv:List (V×V)}
theorem T0.sub(E:T0)(h:E.W k):E.W1 k:=.inl h
theorem YN.go(x:YN E H)(f:Fr E.W1 H H'):YN E H':=⟨f.old x.at_ x.wt,x.ms.fr f,x.bn.fr f,f.old x.rl x.wrl,x.wt,x.wrl,x.wnm,x.wc,x.wkn,x.wme,x.km,x.u3⟩
theorem Tu.go(x:Tu E H C)(f:Fr E.W1 H H')(h:C <+: C'):Tu E H' C':=⟨x.r0.go f h,x.r1.fr f,x.g1.ext h,x.k1,fun c a=>(Hy x.r0.mat.g h).trans (x.s0 c a),fun c a b=>(Hy x.g1.g h).trans (x.s1 c a b)⟩
theorem IL.go(x:IL E H C e s v)(f:Fr E.W1 H H')(h:C <+: C'):IL E H' C' e s v:=by obtain⟨m,a,b⟩:=x;exact⟨m,a.go f h,fun c q=>(Hy a.mat.g h).trans (b c q)⟩
theorem Hj.go(x:Hj E C e n v)(h:C <+: C'):Hj E C' e n v:=by obtain⟨r,a,b,c,d⟩:=x;exact⟨r,a,b.ext h,c,fun f=>(FH b.g h).trans (d f)⟩
theorem IA.go(x:IA E H C kv)(f:Fr E.W1 H H')(h:C <+: C'):IA E H' C' kv:=⟨fun s v q=>(x.s s v q).go f h,fun n v q=>(x.n n v q).go h,x.r,x.pin⟩
theorem BZ.step(x:BZ E H C B)(f:Fr E.W H H')(c:BC E.W H' E.L C' B')(h:C <+: C')(i:B'<=B):BZ E H' C' B':=by
 have g:Fr E.W1 H H':=f.weak fun n=>E.sub;obtain⟨kv,a,b,d⟩:=x.me;exact⟨c,(x.nm.keep fun m o j q=>f.old q (j.elim (fun e w=>x.fx.wnm (e▸E.sub w)) fun e w=>x.fx.wkn (e▸w))).le i,⟨kv,f.old a x.fx.wme,b.go g h,AF (AO i _) d⟩,x.fx.go g,x.rs.go g h⟩
theorem BZ.fr(x:BZ E H C B)(f:Fr (fun a=>False) H H'):BZ E H' C B:=x.step f.pure (x.cir.fr f) (prefix_refl _) (AM _)
theorem BZ.ste(x:BZ E H C B)(s:Dq E.W E.L H C B' H' C')(a:B'<=B):BZ E H' C' B':=x.step s.fr s.at_ s.ext a
theorem BZ.le(x:BZ E H C B)(a:B'<=B):BZ E H C B':=x.step .refl (x.cir.le a) (prefix_refl _) a
theorem BZ.names(x:BZ E H C B)(f:Fr (fun m=>m=E.kn) H H')(h:DX H' E.nm E.kn B')(g:B'<=B):BZ E H' C B':=by
 have c:Fr E.W1 H H':=f.weak fun n e=>.inr (.inl e);obtain⟨kv,a,b,d⟩:=x.me;exact⟨(x.cir.keep f.len fun n o i q=>f.old q (i.elim (fun w e=>x.fx.wkn (e▸w)) fun j k=>x.fx.wc (.inr (.inl (j.symm.trans k))))).le g,h,⟨kv,f.old a fun e=>x.fx.km e.symm,b.go c (prefix_refl _),AF (AO g _) d⟩,x.fx.go c,x.rs.go c (prefix_refl _)⟩
theorem BZ.store(x:BZ E H C (B+1))(g:IA E H C m)(j:m.length+B<=900000):BZ E (H.set E.me (.dict m)) C B:=by
 obtain⟨kv,a,b,d⟩:=x.me;have f:Fr (fun c=>c=E.me) H (H.set E.me (.dict m)):=(Fr.refl (W:=fun c=>c=E.me)).set (.inr rfl) _;have h:Fr E.W1 H (H.set E.me (.dict m)):=f.weak fun n e=>.inr (.inr e);exact⟨(x.cir.keep f.len fun n o k q=>f.old q (k.elim (fun w e=>x.fx.wme (e▸w)) fun l p=>x.fx.wc (.inr (.inr (l.symm.trans p))))).le (le_succ _),(x.nm.keep fun c o g q=>f.old q (g.elim (fun e i=>x.fx.wnm (.inr (.inr (e.symm.trans i)))) fun e i=>x.fx.km (e.symm.trans i))).le (le_succ _),
  ⟨m,BE a,g.go h (prefix_refl _),j⟩,x.fx.go h,x.rs.go h (prefix_refl _)⟩
theorem BZ.tg(x:BZ E H C B){m p:String}(a:autoParam (List.lookup (ofString m) [(ofString "circuit",V.loc E.L.c),(ofString "matrices",.loc E.ms),(ofString "binary",.loc E.bn),(ofString "names",.loc E.nm),(ofString "memory",.loc E.me),(ofString "asked",.loc E.ask),(ofString "relations",.loc E.rl)]=none) rf)
  (b:autoParam (Fl "Translator" (ofString m)=some p) rf):Ga H E.t (ofString m) p:=CC x.fx.at_ rfl a b
theorem BZ.new(x:BZ E H C B):¬E.W1 H.length:=fun w=>by
 obtain⟨kv,a,_⟩:=x.me;obtain⟨b,c,_⟩:=x.nm.kd;rcases w with w |w |w
 .exact x.cir.new w
 .exact Nat.lt_irrefl _ (w▸Ax c)
 .exact Nat.lt_irrefl _ (w▸Ax a)
end
theorem Um.sub{f:Nat->Prop}{e:BS}(x:Um W H e n v C)(h:∀d,f d->W d):Um f H e n v C:=⟨by obtain⟨d,a,b,c⟩:=x.at_;exact⟨d,a,b,fun w=>c (h d w)⟩,x.mat,x.un⟩
theorem Fz.sub{b:Nat->Prop}{L:CL}(x:Fz W H n L)(h:∀a,b a->W a):Fz b H n L:=⟨x.at_,fun w=>x.w (h _ w)⟩
theorem Cw.sub{b:Nat->Prop}{L:CL}(x:Cw W H n L)(h:∀a,b a->W a):Cw b H n L:=⟨x.at_,fun w=>x.w (h _ w)⟩
structure Ds(E:T0)(H:Aj)(l:Nat)(e:En):Prop where
 at_:Dd fun(ks:List Bool) (kv:List (V×V))=>KT (H[l]? =some (.dict kv)) (kv.map (·.1)=ks.map Bl) (ks.Nodup) (∀x a,e x=some a->EC fun v=>DD (BI kv (Bl x)=some v) (a<E.u) (Cb E.W1 H v 1 [([(a:Int)],1)]))
 w:¬E.W1 l
def MQ(E:T0)(H:Aj)(C:BS)(B:Nat)(P:Aj->BS->V->Prop)(c:V->Aj->Prop):Prop:=∀a b v,Fr E.W1 H a->BZ E a b B->C <+: b->P a b v->c v a
def Bn(X:Cx)(E:T0)(f:String)(k:Ky)(P:En->Aj->BS->V->Prop)(d c:Nat):Prop:=∀(H:Aj)(C:BS)(B:Nat)(a:V->Aj->Prop)(l:Nat)(e:En),BZ E H C (B+c)->Ds E H l e->(∀x,fv k x=true->(e x).isSome=true) ->
 MQ E H C B (P e) a->Ap X d f [.loc E.t,DU k,.loc l] H a
def PS(E:T0)(s:Sn)(e:En)(H:Aj)(C:BS)(v:V):Prop:=IL E H C e s v
def PR(E:T0)(e:En)(H:Aj)(C:BS)(v:V):Prop:=v=E.v1
def PN(E:T0)(n:Nn)(e:En)(H:Aj)(C:BS)(v:V):Prop:=Hj E C e n v
structure WG(E:T0)(k:Ky)(P:En->Aj->BS->V->Prop):Prop where
 get:∀H C kv v,IA E H C kv->BI kv (DU k)=some v->P e0 H C v
 put:∀H C kv v,P e0 H C v->(∀p∈E.pin,p.1≠DU k)->IA E H C kv->IA E H C (BK kv (DU k) v)
 go:∀e H H' C C' v,P e H C v->Fr E.W1 H H'->C <+: C'->P e H' C' v
 env:∀e e' H C v,(∀x,fv k x=false)->P e H C v->P e' H C v
section
variable {E:T0} {H H':Aj} {C C':BS} {B B' l d c:Nat} {e:En} {s:Sn} {v:V} {kv:List (V×V)} {Φ:V->Aj->Prop}
theorem Ds.go(x:Ds E H l e)(f:Fr E.W1 H H'):Ds E H' l e:=⟨by obtain⟨g,kv,a,b,c,d⟩:=x.at_;exact⟨g,kv,f.old a x.w,b,c,fun x a q=>by obtain⟨v,p,r,t⟩:=d x a q;exact⟨v,p,r,t.fr f⟩⟩,x.w⟩
theorem UW(h:∀x,j0 x=false):MO j0=[]:=by
 unfold MO;rw[filter_cons,h false,filter_cons,h true];rfl
theorem Wl(h:¬ ∀x,j0 x=false):MO j0≠[]:=fun q=>h fun x=>by
 rw[<- Gg (f:=j0),show([false,true].filter j0)=[]from List.map_eq_nil_iff.mp q];rfl
theorem RV:Pd (n+1) (.tup (MO j0)):=.tup fun v a=>by
 obtain⟨b,_,rfl⟩:=AS a;exact .str _ _
theorem Gn:BY (.tup (MO j0)) (.tup [])=decide (∀x,j0 x=false):=by
 by_cases h:∀x,j0 x=false
 .rw[UW h,decide_eq_true h];rfl
 .rw[decide_eq_false h];exact Bool.eq_false_iff.mpr fun q=>Wl h (V.tup.inj ((BB _ _).mp q))
theorem IA.put(x:IA E H C kv){k:Ky}(m:∀s,k=.s s->IL E H C e0 s v)(o:∀n,k=.n n->Hj E C e0 n v)(t:k=.r1->v=E.v1)(f:∀p∈E.pin,p.1≠DU k):IA E H C (BK kv (DU k) v):=by
 have b:∀g a,BI (BK kv (DU k) v) (DU g)=some a->(g=k/\a=v)\/BI kv (DU g)=some a:=fun g a h=>by
  by_cases q:g=k
  .subst q;rw[B0]at h;cases h;exact .inl ⟨rfl,rfl⟩
  .rw[CY fun z=>q (OL z)]at h;exact .inr h
 refine⟨fun s a h=>?_,fun n a h=>?_,fun a h=>?_,fun p j=>(CY (f p j)).trans (x.pin p j)⟩
 .rcases b (.s s) a h with⟨i,rfl⟩ |h
  .exact m s i.symm
  .exact x.s s a h
 .rcases b (.n n) a h with⟨i,rfl⟩ |h
  .exact o n i.symm
  .exact x.n n a h
 .rcases b .r1 a h with⟨i,rfl⟩ |h
  .exact t i.symm
  .exact x.r a h
theorem IL.env{g:En}(x:IL E H C e s v)(h:∀x,Bx s x=false):IL E H C g s v:=by obtain⟨m,a,b⟩:=x;exact⟨m,a,fun i q=>(b i q).trans (Cc fun x f=>by rw[h x]at f;cases f)⟩
theorem Hj.env{n:Nn}{g:En}(x:Hj E C e n v)(h:∀x,Cp n x=false):Hj E C g n v:=by obtain⟨m,a,b,c,d⟩:=x;exact⟨m,a,b,c,fun i=>(d i).trans (Ft fun x f=>by rw[h x]at f;cases f)⟩
theorem My(F:BN X){x:Bool}:Bn X E "Translator.matrix" (.s (.var x)) (PS E (.var x)) 1 0:=fun H C B Φ l e y ev hd g=>by
 refine Ao F 25 rfl (Al fun h u=>?_);obtain⟨a,f⟩:=Option.isSome_iff_exists.mp (hd x (by show(x==x)=true;simp));obtain⟨w,kv,i,A,D,j⟩:=ev.at_;obtain⟨v,k,m,n⟩:=j x a f;w_dflts i;refine⟨v,.str _ _,k,g H C v .refl y (prefix_refl _) ⟨_,⟨n,⟨by exact pairwise_singleton _ _,fun p o=>by rw[AJ o];exact .one⟩,fun t r=>⟨a,m,AJ r⟩⟩,fun G b=>?_⟩⟩;rw[G8,f];unfold ms;rw[any_cons,List.any_nil,Db,Bool.and_true,Bool.or_false];by_cases q:a=b
 .subst q;simp
 .rw[beq_eq_false_iff_ne.mpr fun z:[(a:Int)]=[(b:Int)]=>q (Int.ofNat_inj.mp (List.cons.inj z).1),beq_eq_false_iff_ne.mpr fun z:some a=some b=>q (by simpa using z)]
theorem SC:WG E (.s s) (PS E s):=⟨fun H C kv v m h=>m.s s v h,fun H C kv v p a m=>m.put (k:=.s s) (fun g z=>by cases z;exact p) (fun i z=>by cases z) (fun z=>by cases z) a,fun e H H' C C' v p f h=>IL.go p f h,fun e j H C v b p=>IL.env p b⟩
theorem YH:WG E .r1 (PR E):=⟨fun H C kv v m h=>m.r v h,fun H C kv v p a m=>m.put (k:=.r1) (fun b z=>by cases z) (fun g z=>by cases z) (fun z=>p) a,fun e H H' C C' v p f h=>p,fun e i H C v j p=>p⟩
theorem Ts{n:Nn}:WG E (.n n) (PN E n):=⟨fun H C kv v m h=>m.n n v h,fun H C kv v p a m=>m.put (k:=.n n) (fun g z=>by cases z) (fun i z=>by cases z;exact p) (fun z=>by cases z) a,fun e H H' C C' v p f h=>Hj.go p h,fun e j H C v b p=>Hj.env p b⟩
theorem EZ(F:BN X){a:Ky}{op:String}{args:List V}(b:WG E a M)(u:DU a=.tup (sS op::args))(hv:(ofString op==ofString "var")=false)(i:Pd 8 (DU a))(hd:n<=d)(j:D2 X E.nm E.kn a n k)
  (h:Bn X E "Translator.matrix_of_plain" a M d c):Bn X E "Translator.matrix" a M (d+2) (c+k+1):=fun H C B Φ l e y ev w P=>by
 have Q:=i;unfold D2 at j;unfold Bn at h;rw[u]at j h i⊢;refine Ao F 25 rfl (Al fun A r=>?_);w_left;cases t:(ofString op==ofString "var")with
 |true=>rw[hv]at t;cases t
 |false=>
  refine r _ _ (Al fun A r=>?_);refine objA_i y.fx.at_ ?_;refine tg_i (y.nm.tg (m:= "of") (p:= "FreeNames.of")) fun R=>?_;refine An (k:=n) (lt_succ_of_le hd) (j H (B+c+1) _ (y.nm.le (by omega)) fun L D x1=>?_);have g:=y.names D x1 (Ab (AO (AU _ _) _));have f:Fr E.W1 H L:=D.weak fun U e=>.inr (.inl e);have G:=ev.go f;refine⟨RV,.tup fun R h=>(by cases h),?_⟩;by_cases N:∀x,fv a x=false
  case neg=>
   generalize t:BY _ _=S;obtain rfl:S=false:=t.symm.trans (Gn.trans (decide_eq_false N));refine tg_i (g.tg (m:= "matrix_of_plain") (p:= "Translator.matrix_of_plain")) fun R=>?_;exact An (k:=d) (by omega) (h L C B Φ l e (g.le (by omega)) G w fun I T v o J ex p=>P I T v (f.trans o) J ex p)
  generalize t:BY _ _=S;obtain rfl:S=true:=t.symm.trans (Gn.trans (decide_eq_true N));refine r _ _ (Al fun A r=>?_);obtain⟨kv,Y,Z,m3⟩:=g.me;refine objA_i g.fx.at_ ?_;w_dflts Y;refine⟨i,?_⟩;refine MC (BI kv (V.tup (sS op::args))) (fun v O=>?_) fun O=>?_
  .refine r _ _ ?_;refine objA_i g.fx.at_ ?_;w_dflts Y;exact⟨v,i,O,P L C v f (g.le (le_add_right_of_le (AU _ _))) (prefix_refl _) (b.env _ _ _ _ _ N (b.get _ _ _ v Z (by rw[u];exact O)))⟩
  .refine tg_i (g.tg (m:= "matrix_of_plain") (p:= "Translator.matrix_of_plain")) fun R=>?_;refine An (k:=d) (by omega) (h L C (B+1) _ l e (g.le (AT (Ag _ _ _))) G w fun I T v o J ex p=>?_);obtain⟨q,n1,n2,n3⟩:=J.me;refine objA_i J.fx.at_ ?_;w_dflts n1;refine⟨i,AH (AF (AU _ _) n3) (by decide:900000<Ar),r _ _ ?_⟩;rw[<- u];have y3:=J.store (b.put _ _ _ v (b.env _ _ _ _ _ N p) (fun p i z=>by have:=Z.pin p i;rw[z,u,O]at this;cases this) n2) (AF (AP Ei _) (AF (AT (Nat.succ_add_eq_add_succ _ _)) n3));have k3:(I.set E.me (.dict (BK q (DU a) v)))[E.me]? =some (.dict (BK q (DU a) v)):=by rw[u];exact BE n1
   have K:Fr E.W1 I (I.set E.me (.dict (BK q (DU a) v))):=(Fr.refl (W:=E.W1)).set (.inr (.inr (.inr rfl))) _;refine objA_i y3.fx.at_ ?_;w_dflts k3;exact⟨v,Q,B0,P _ T v ((f.trans o).trans K) y3 ex (b.go _ _ _ _ _ _ p K (prefix_refl _))⟩
end
section
variable {E:T0} {H H':Aj} {C C':BS} {B B' l d c:Nat} {e:En} {s:Sn} {v:V} {kv:List (V×V)} {Φ:V->Aj->Prop}
theorem O4(F:BN X):Bn X E "Translator.matrix_of_plain" (.s .rel) (PS E .rel) 1 0:=fun H C B Φ l e y ev hd f=>by
 refine Ao F 26 rfl (Al fun a b=>(b _ _ (Al fun a b=>?_)));refine objA_i y.fx.at_ ?_;refine objA_i y.fx.rl ?_;exact⟨_,E.v0,rfl,by decide,by decide,rfl,f H C E.v0 .refl y (prefix_refl _) ⟨E.m0,y.rs.r0,y.rs.s0⟩⟩
theorem Ro(F:BN X):Bn X E "Translator.matrix_of_plain" .r1 (PR E) 1 0:=fun H C B Φ l e y ev hd f=>by
 refine Ao F 26 rfl (Al fun a b=>(b _ _ (Al fun a b=>?_)));refine objA_i y.fx.at_ ?_;refine objA_i y.fx.rl ?_;exact⟨_,E.v1,rfl,by decide,by decide,rfl,f H C E.v1 .refl y (prefix_refl _) rfl⟩
theorem B8{g:List (Str×NameKind)}{i:BA}{x:Str}{y:String}{r:List Stmt}{m n o:Pos}(h:GX g x i H=fun Φ=>Φ (sS y) H)(p:(ofString y==ofString f)=false)
  (t:FF X d r g i H I z):FF X d (.If (.Compare (.Name x q) [.Eq] [.Constant (.str (ofString f)) k m] n) j2 [] o::r) g i H I z:=by
 show GX g x i H fun a b=>IW .Eq a (sS f) b fun c=>if c=true then FF X d j2 g i b (fun j H'=>FF X d r g j H' I z) z else FF X d r g i b I z
 rw[h];show(if(ofString y==ofString f)=true then _ else _)
 rw[p];exact t
theorem QB(F:BN X){k o u:Ky}{w O:En->Aj->BS->V->Prop}{z:Nat}(a:f= "join" \/f= "union" \/f= "minus")(R:DU k=.tup [sS f,DU o,DU u])(b:WG E o w)(A:∀x,fv o x=true->fv k x=true)(D:∀x,fv u x=true->fv k x=true)
  (S:Bn X E "Translator.matrix" o w d n) (T:Bn X E "Translator.matrix" u O d z) (hd:11<=d)
  (U:∀H C B Φ q r e,BZ E H C (B+30)->w e H C q->O e H C r->MQ E H C B (M e) Φ->Ap X 11 "Translator.of_two" [.loc E.t,sS f,q,r] H Φ) :
  Bn X E "Translator.matrix_of_plain" k M (d+2) (n+z+30):=fun H C B Φ l e y ev g W=>by
 rw[R];refine Ao F 26 rfl (Al fun G I=>(I _ _ ?_));refine B8 rfl (by rcases a with rfl |rfl |rfl<;>kernel_rfl) ?_
 refine B8 rfl (by rcases a with rfl |rfl |rfl<;>kernel_rfl) ?_
 refine B8 rfl (by rcases a with rfl |rfl |rfl<;>kernel_rfl) ?_
 refine B8 rfl (by rcases a with rfl |rfl |rfl<;>kernel_rfl) ?_
 refine B8 rfl (by rcases a with rfl |rfl |rfl<;>kernel_rfl) ?_
 refine B8 rfl (by rcases a with rfl |rfl |rfl<;>kernel_rfl) ?_
 refine B8 rfl (by rcases a with rfl |rfl |rfl<;>kernel_rfl) (Al fun G I=>?_)
 refine⟨Ey (l:=[sS "turn",sS "closure",sS "star"]) rfl,⟨_,rfl⟩,?_⟩;generalize Y:List.any _ _=Z;obtain rfl:Z=false:=Y.symm.trans (by rcases a with rfl |rfl |rfl<;>kernel_rfl)
 refine I _ _ ?_;refine tg_i (y.tg (m:= "of_two") (p:= "Translator.of_two")) fun P=>?_;refine tg_i (y.tg (m:= "matrix") (p:= "Translator.matrix")) fun P=>?_;refine An (k:=d) (by omega) (S H C (B+z+30) _ l e (y.le (by omega)) ev (fun x J=>g x (A x J)) fun H1 C1 q h Q K p1=>?_);refine tg_i (Q.tg (m:= "matrix") (p:= "Translator.matrix")) fun P=>?_;refine An (k:=d) (by omega) (T H1 C1 (B+30) _ l e (Q.le (AT (Ag _ _ _))) (ev.go h) (fun x J=>g x (D x J)) fun H2 C2 r i y2 j p2=>?_);exact An (k:=11) (lt_succ_of_le hd) (U H2 C2 B Φ q r e y2 (b.go _ _ _ _ _ _ p1 i j) p2 fun H3 C3 v L y3 N p3=>W H3 C3 v ((h.trans i).trans L) y3 ((K.trans j).trans N) p3)
end
section
variable {E:T0} {H H':Aj} {C C':BS} {B B' l d c:Nat} {e:En} {s:Sn} {v va vb:V} {kv:List (V×V)} {Φ:V->Aj->Prop}
theorem BZ.lt(x:BZ E H C B):∀n,E.W1 n->n<H.length:=fun n w=>by
 obtain⟨kv,a,_⟩:=x.me;obtain⟨b,f,_⟩:=x.nm.kd;rcases w with w |w |w
 .exact x.cir.wl n w
 .exact w▸Ax f
 .exact w▸Ax a
theorem BZ.out(x:BZ E H C (B+c))(s:Dq E.W E.L H C B H' C'):BZ E H' C' B:=x.ste s (AU _ _)
theorem Ri(F:BN X){s t:Sn}(y:BZ E H C (B+30))(g:PS E s e H C va)(h:PS E t e H C vb)(i:MQ E H C B (PS E (.uni s t) e) Φ):Ap X 11 "Translator.of_two" [.loc E.t,sS "union",va,vb] H Φ:=by
 obtain⟨a,j,o⟩:=g;obtain⟨b,r,u⟩:=h;refine Ao F 27 rfl (Al fun w G=>?_);refine objA_i y.fx.at_ ?_;refine tg_i (y.fx.ms.tg (m:= "union") (p:= "PlainMatrices.union")) fun I=>?_;refine An (k:=9) (by decide) (Mo F y.lt y.fx.u3 (y.cir.le (B':=B+3) (AO (by decide) _)) (y.fx.ms.sub fun n=>E.sub) (j.sub fun n=>E.sub) (r.sub fun n=>E.sub) fun x z v m st A D=>i x z v (st.fr.weak fun n=>E.sub) (y.out st) st.ext ⟨m,A,fun f q=>?_⟩);rw[D f];show(ms C f a _||ms C f b _)=_;rw[o f,u f];rfl
theorem Si(F:BN X){s t:Sn}(y:BZ E H C (B+30))(g:PS E s e H C va)(h:PS E t e H C vb)(i:MQ E H C B (PS E (.min s t) e) Φ):Ap X 11 "Translator.of_two" [.loc E.t,sS "minus",va,vb] H Φ:=by
 obtain⟨a,j,o⟩:=g;obtain⟨b,r,u⟩:=h;refine Ao F 27 rfl (B8 rfl (by kernel_rfl) (B8 rfl (by kernel_rfl) (Al fun w G=>?_)));refine objA_i y.fx.at_ ?_;refine tg_i (y.fx.ms.tg (m:= "minus") (p:= "PlainMatrices.minus")) fun I=>?_;refine An (k:=9) (by decide) (M0 F y.lt y.fx.u3 (y.cir.le (B':=B+3) (AO (by decide) _)) (y.fx.ms.sub fun n=>E.sub) (j.sub fun n=>E.sub) (r.sub fun n=>E.sub) fun x z v m st A D=>i x z v (st.fr.weak fun n=>E.sub) (y.out st) st.ext ⟨m,A,fun f q=>?_⟩);rw[D f];show(ms C f a _&& !ms C f b _)=_;rw[o f,u f];rfl
theorem G0(f:n<=3)(h:∀t∈S,Dd fun(a b:Nat)=>DD (a<n) (b<n) (t=[(a:Int),(b:Int)]))(nd:S.Nodup):S.length<=9:=by
 have g:∃l:List Nat,S=l.map (fun c:Nat=>[((c / 3:Nat):Int),((c % 3:Nat):Int)])/\∀c∈l,c<9:=by
  clear nd;induction S with
  |nil=>exact⟨[],rfl,fun u h=>by cases h⟩
  |cons t r m=>
   obtain⟨a,b,o,i,rfl⟩:=h t (.head _);obtain⟨l,rfl,j⟩:=m fun t p=>h t (.tail _ p);refine⟨(a*3+b)::l,?_,fun c k=>?_⟩
   .rw[AW,show(a*3+b) / 3=a by rw[mul_comm,Nat.mul_add_div (by decide),Nat.div_eq_of_lt (AK i f),Nat.add_zero],show(a*3+b) % 3=b by rw[mul_comm,Nat.mul_add_mod,Nat.mod_eq_of_lt (AK i f)]]
   .rcases Ae k with rfl |k
    .exact AK (Nat.add_lt_add_left (AK i f) (a*3)) (succ_mul a 3▸mul_le_mul_right 3 (AK o f))
    .exact j c k
 obtain⟨l,rfl,j⟩:=g;rw[AG];exact JP (of_map (R:=fun a b=>a≠b) _ (fun a b q e=>q (by rw[e])) nd) j
theorem TC(h:t=[(n:Int),(k:Int)]):t≠[]/\t.length<=2:=by subst h;exact⟨cons_ne_nil _ _,by simp⟩
theorem Rg(h:Un n S):∀t∈S,t≠[]/\t.length<=2:=fun t a=>by obtain⟨x,_,rfl⟩:=h t a;simp
theorem X6(F:BN X){s:Sn}(y:BZ E H C (B+30))(G:PS E s e H C va)(I:PR E e H C vb)(J:MQ E H C B (PS E (.jl s) e) Φ):Ap X 11 "Translator.of_two" [.loc E.t,sS "join",va,vb] H Φ:=by
 obtain⟨a,g,r⟩:=G;cases I;have j:=y.fx.u3;have f:=y.rs;have l2:=G0 j f.k1 f.g1.nd;rw[AG]at l2;refine Ao F 27 rfl (B8 rfl (by kernel_rfl) (B8 rfl (by kernel_rfl) (B8 rfl (by kernel_rfl) (Al fun K hk=>?_))));refine objA_i y.fx.at_ ?_;have t:=y.fx.ms.tg (m:= "join") (p:= "PlainMatrices.join");w_dflts t;have L:Cb E.W H E.v1 2 E.m1:=by obtain⟨n,a,b,c⟩:=f.r1;exact⟨n,a,b,fun w=>c (E.sub w)⟩
 refine An (k:=9) (by decide) (JK F y.lt (ra:=1) (rb:=2) j rfl y.cir (y.fx.ms.sub fun n=>E.sub) (g.sub fun n=>E.sub).at_ L g.mat f.g1 (Rg g.un) (fun t M=>by obtain⟨x,z,_,_,h⟩:=f.k1 t M;exact TC h)
  (AF (mul_le_mul (AF g.len j) l2) (by decide)) (AF g.len (AF j (by decide))) (by omega) (fun p N q O h=>by
   obtain⟨x,o,rfl⟩:=g.un p N;obtain⟨z,w,P,u,rfl⟩:=f.k1 q O;exact⟨w,u,rfl⟩) fun Q R v m st S T=>J Q R v (st.fr.weak fun n=>E.sub) (y.out st) st.ext ⟨m,S,fun i q=>?_⟩)
 rw[Bool.eq_iff_iff,T i,Mu,any_eq_true];constructor
 .rintro⟨p,t,U,V,A,D⟩;obtain⟨x,o,rfl⟩:=g.un p (DJ A);obtain⟨z,w,P,u,rfl⟩:=f.k1 t (DJ D);have Y:z=x:=Int.ofNat_inj.mp U;have Z:w=q:=Int.ofNat_inj.mp (List.cons.inj V).1;subst Y Z;exact⟨z,List.mem_range.mpr o,by rw[<- r i,<- f.s1 i,A,D];rfl⟩
 .rintro⟨x,o,h⟩;rw[and_eq_true,<- r i,<- f.s1 i]at h;exact⟨[(x:Int)],[(x:Int),(q:Int)],rfl,rfl,h.1,h.2⟩
theorem XI(F:BN X){s:Sn}(y:BZ E H C (B+30))(G:PR E e H C va)(I:PS E s e H C vb)(J:MQ E H C B (PS E (.jr s) e) Φ):Ap X 11 "Translator.of_two" [.loc E.t,sS "join",va,vb] H Φ:=by
 obtain⟨b,g,r⟩:=I;cases G;have j:=y.fx.u3;have f:=y.rs;have l2:=G0 j f.k1 f.g1.nd;rw[AG]at l2;refine Ao F 27 rfl (B8 rfl (by kernel_rfl) (B8 rfl (by kernel_rfl) (B8 rfl (by kernel_rfl) (Al fun K hk=>?_))));refine objA_i y.fx.at_ ?_;have t:=y.fx.ms.tg (m:= "join") (p:= "PlainMatrices.join");w_dflts t;have L:Cb E.W H E.v1 2 E.m1:=by obtain⟨n,a,b,c⟩:=f.r1;exact⟨n,a,b,fun w=>c (E.sub w)⟩
 refine An (k:=9) (by decide) (JK F y.lt (ra:=2) (rb:=1) j rfl y.cir (y.fx.ms.sub fun n=>E.sub) L (g.sub fun n=>E.sub).at_ f.g1 g.mat (fun t M=>by obtain⟨x,z,_,_,h⟩:=f.k1 t M;exact TC h) (Rg g.un)
  (AF (mul_le_mul l2 (AF g.len j)) (by decide)) (by omega) (AF g.len (AF j (by decide))) (fun p N q O h=>by
   obtain⟨x,o,rfl⟩:=g.un q O;obtain⟨z,w,u,P,rfl⟩:=f.k1 p N;exact⟨z,u,rfl⟩) fun Q R v m st S T=>J Q R v (st.fr.weak fun n=>E.sub) (y.out st) st.ext ⟨m,S,fun i q=>?_⟩)
 rw[Bool.eq_iff_iff,T i,Mi,any_eq_true];constructor
 .rintro⟨p,t,U,V,A,D⟩;obtain⟨x,o,rfl⟩:=g.un t (DJ D);obtain⟨z,w,u,P,rfl⟩:=f.k1 p (DJ A);have Y:x=w:=Int.ofNat_inj.mp U;have Z:z=q:=Int.ofNat_inj.mp (List.cons.inj V).1;subst Y Z;exact⟨x,List.mem_range.mpr o,by rw[<- r i,<- f.s1 i,A,D];rfl⟩
 .rintro⟨x,o,h⟩;rw[and_eq_true,<- r i,<- f.s1 i]at h;exact⟨[(q:Int),(x:Int)],[(x:Int)],rfl,rfl,h.2,h.1⟩
def cM:Nat->Nat
 |0=>2
 |h+1=>cM h*2+30+cK (h+1)+1
theorem ZC:cM 0=2:=rfl
theorem YZ:∀h,cM (h+1)=cM h*2+30+cK (h+1)+1:=fun a=>rfl
theorem Qf(a:n<=k):cM n<=cM k:=by
 induction k with
 |zero=>rw[Nat.le_zero.mp a];exact AM _
 |succ b f=>
  by_cases e:n=b+1
  .rw[e];exact AM _
  .rw[ZC];exact AF (f (le_of_lt_succ (lt_of_le_of_ne a e))) (AF (Nat.le_mul_of_pos_right _ (by decide)) (AF (AU _ 30) (AF (AU _ _) (AU _ _))))
theorem Bn.at{k:Ky}{h:Nat}(x:Bn X E f k M (4*h+20) (cM h))(a:h<=n):Bn X E f k M (4*n+20) (cM n):=fun H C B Φ l e y ev hd b=>
 (x H C B Φ l e (y.le (AO (Qf a) _)) ev hd b).deep (Ad (Ac _ a) (by decide))
theorem Bn.up{a:Ky}{d' g:Nat}(x:Bn X E f a M n k)(hd:n<=d')(h:k<=g):Bn X E f a M d' g:=fun H C B Φ l e y ev b i=>
 (x H C B Φ l e (y.le (AO h _)) ev b i).deep hd
theorem U1(F:BN X):Bn X E "Translator.matrix" .r1 (PR E) 20 (cM 0):=
 (EZ F YH (op:= "rel") (args:=[.int 1]) (d:=5) rfl (by kernel_rfl) (.tup fun v a=>by
  rcases Ae a with rfl |a
  .exact .str _ _
  .rw[AJ a];exact .int _ _) (AM _) (Vu F) ((Ro F).up (by decide) (AM 0))).up (by decide) (AM _)
theorem Gf(F:BN X){s:Sn}{k1 k2:Ky}{i:En->Aj->BS->V->Prop}(a:f= "join" \/f= "union" \/f= "minus")(j:BO s=.tup [sS f,DU k1,DU k2])(m:Pd 8 (BO s))(o:hS s=n+1)(b:WG E k1 M)(g:∀x,fv k1 x=true->Bx s x=true)(h:∀x,fv k2 x=true->Bx s x=true)
  (p:Bn X E "Translator.matrix" k1 M (4*n+20) (cM n)) (r:Bn X E "Translator.matrix" k2 i (4*n+20) (cM n))
  (u:∀H C B Φ va vb e,BZ E H C (B+30)->M e H C va->i e H C vb->MQ E H C B (PS E s e) Φ->Ap X 11 "Translator.of_two" [.loc E.t,sS f,va,vb] H Φ) :
  Bn X E "Translator.matrix" (.s s) (PS E s) (4*hS s+20) (cM (hS s)):=by
 have q:=Ii (nm:=E.nm) (kn:=E.kn) F s m;rw[o]at q⊢;exact(EZ F SC (op:=f) (args:=[DU k1,DU k2]) j (by rcases a with rfl |rfl |rfl<;>kernel_rfl) m (AP (AO (by decide) _) _) q (QB F (k:=.s s) a j b g h p r (by omega) u)).up (by omega) (by rw[YZ];omega)
theorem GT(F:BN X):∀s:Sn,Pd 8 (BO s)->Bn X E "Translator.matrix" (.s s) (PS E s) (4*hS s+20) (cM (hS s))
 |.rel,f=>(EZ F (SC (s:=.rel)) (op:= "rel") (args:=[.int 0]) (d:=5) rfl (by kernel_rfl) f (AM _) (Ii F .rel f) ((O4 F).up (by decide) (AM 0))).up (le_add_left 7 13 |> AF (by decide)) (AM _)
 |.var x,f=>(My F).up (by omega) (zero_le _)
 |.jl a,f=>Gf F (.inl rfl) (k1:=.s a) (k2:=.r1) rfl f rfl SC (fun x h=>h) (fun x h=>by cases h) (GT F a (f.mem (by exact .tail _ (.head _)))) ((U1 F).at (h:=0) (zero_le _)) fun H C B Φ va vb e y g i j=>X6 F y g i j
 |.jr a,f=>Gf F (.inl rfl) (k1:=.r1) (k2:=.s a) rfl f rfl YH (fun x h=>by cases h) (fun x h=>h) ((U1 F).at (h:=0) (zero_le _)) (GT F a (f.mem (by simp))) fun H C B Φ va vb e y g i j=>XI F y g i j
 |.uni a b,f=>Gf F (.inr (.inl rfl)) (k1:=.s a) (k2:=.s b) rfl f rfl SC (fun x h=>by rw[Hz,show Bx a x=true from h];rfl) (fun x h=>by rw[Hz,show Bx b x=true from h,Bool.or_true]) ((GT F a (f.mem (by exact .tail _ (.head _)))).at (le_max_left _ _)) ((GT F b (f.mem (by simp))).at (le_max_right _ _)) fun H C B Φ va vb e y g i j=>Ri F y g i j
 |.min a b,f=>Gf F (.inr (.inr rfl)) (k1:=.s a) (k2:=.s b) rfl f rfl SC (fun x h=>by rw[GL,show Bx a x=true from h];rfl) (fun x h=>by rw[GL,show Bx b x=true from h,Bool.or_true]) ((GT F a (f.mem (by exact .tail _ (.head _)))).at (le_max_left _ _)) ((GT F b (f.mem (by simp))).at (le_max_right _ _)) fun H C B Φ va vb e y g i j=>Si F y g i j
end
theorem D9:∀{a b:List Int},(a++b).sum=a.sum+b.sum:=by
 intro c;induction c with
 |nil=>
  intro b;rw[nil_append,sum_nil,Int.zero_add]
 |cons x a d=>
  intro b;rw[cons_append,sum_cons,sum_cons,d,Int.add_assoc]
theorem Ps{b:List Int}(h:t.Perm b):t.sum=b.sum:=by
 induction h with
 |nil=>rfl
 |cons x _ a=>rw[sum_cons,sum_cons,a]
 |swap x y l=>rw[sum_cons,sum_cons,sum_cons,sum_cons];exact Int.add_left_comm _ _ _
 |trans _ _ c d=>rw[c,d]
theorem M8:∀{u:Nat}{l:List Nat},l.Nodup->(∀a∈l,a<u)->(∀a,a<u->a∉l->q7 a=0)->(l.map q7).sum=((List.range u).map q7).sum:=by
 intro j;induction j with
 |zero=>
  intro l nd d f;cases l with
  |nil=>rfl
  |cons a r=>exact absurd (d a (.head _)) (not_lt_zero _)
 |succ u i=>
  intro l nd d f;rw[List.range_succ,AL,D9];show _=_+(q7 u+0);by_cases h:u∈l
  .have p:=List.perm_cons_erase h;have c:=p.nodup_iff.mp nd;rw[nodup_cons]at c;have mem:∀a,a∈l.erase u↔a≠u/\a∈l:=fun a=>by
    rw[p.mem_iff (a:=a),mem_cons];exact⟨fun q=>⟨fun e=>c.1 (e▸q),.inr q⟩,fun q=>q.2.resolve_left q.1⟩
   rw[Ps (p.map q7),AW,sum_cons,i c.2 (fun a b=>by have:=(mem a).mp b;have:=d a this.2;omega) fun a b g=>f a (lt_add_right _ b) fun q=>g ((mem a).mpr ⟨by omega,q⟩)];exact(Int.add_comm _ _).trans (congrArg _ (Int.add_zero _).symm)
  .rw[i nd (fun a b=>by have:=d a b;have:a≠u:=fun e=>h (e▸b);omega) fun a b g=>f a (lt_add_right _ b) g,f u (by omega) h];exact Eq.trans (Eq.symm (Int.add_zero _)) (Eq.refl _)
structure Qb where
 at_:List Int
 g:Int
 l:Nat
 e:En
abbrev NX(w:Qb):V:=.tup [Am w.at_,.int w.g,.loc w.l]
structure El(E:T0)(H:Aj)(C:BS)(g:Bool->Bool)(k:Nat)(w:Qb):Prop where
 gate:BV C w.g
 env:Ds E H w.l w.e
 dom:∀x,g x=true->(w.e x).isSome=true
 len:w.at_.length<=k
def E4(C:BS)(a:Nat->Bool)(b:List Qb)(f:En->Int):Int:=(b.map fun w=>if BL C a w.g=true then f w.e else 0).sum
section
variable {E:T0} {H H':Aj} {C C':BS} {ρ:Nat->Bool} {f:En->Int} {g:Bool->Bool} {k:Nat} {w:Qb} {ws:List Qb}
theorem El.go(x:El E H C g k w)(fr:Fr E.W1 H H')(h:C <+: C'):El E H' C' g k w:=⟨x.gate.ext h,x.env.go fr,x.dom,x.len⟩
theorem HK{a:List Qb}:E4 C ρ (ws++a) f=E4 C ρ ws f+E4 C ρ a f:=by unfold E4;rw[AL,D9]
theorem FS:E4 C ρ [w] f=if BL C ρ w.g=true then f w.e else 0:=Int.add_zero _
theorem DM(a:∀w∈ws,BV C w.g)(h:C <+: C'):E4 C' ρ ws f=E4 C ρ ws f:=by
 exact congrArg List.sum (map_congr_left fun w b=>by rw[Av (a w b) h])
theorem L9{m:Mx}{F:Nat->Int}(c:S.Perm (m.map (·.1)))(nd:S.Nodup)(d:Un n S)(h:∀a:Nat,ms C ρ m [(a:Int)]=p a) :
  (S.map fun t=>if ms C ρ m t=true then F (hd t).toNat else 0).sum=((List.range n).map fun a=>if p a=true then F a else 0).sum:=by
 obtain⟨l,rfl,i⟩:=Qk d;rw[List.map_map];have e:l.map ((fun t=>if ms C ρ m t=true then F (hd t).toNat else 0)∘fun a:Nat=>[(a:Int)])=l.map fun a=>if p a=true then F a else 0:=map_congr_left fun a r=>by
  show(if ms C ρ m [(a:Int)]=true then F ((a:Int)).toNat else 0)=_
  rw[h a,toNat_natCast]
 rw[e];refine M8 (of_map (R:=fun a b=>a≠b) _ (fun a b q e=>q (by rw[e])) nd) i fun a s j=>?_;rw[if_neg];intro q;rw[<- h a]at q;obtain⟨b,o,e⟩:=AS (c.mem_iff.mpr (DJ q));have:b=a:=Int.ofNat_inj.mp (List.cons.inj e).1;exact j (this▸o)
end
def bud(K:Nat):Nat->Nat->Nat
 |0,_=>0
 |n+1,N=>K*N+bud K n (3*N)
theorem Sw:∀K n N,bud K (n+1) N=K*N+bud K n (3*N):=fun a a a=>rfl
theorem VT:∀{a N b:Nat},N<=b->bud n a N<=bud n a b:=by
 intro c;induction c with
 |zero=>
  intro _ _ _;exact AM _
 |succ a d=>
  intro N b h;rw[Sw,Sw];exact Ad (Ac _ h) (d (Ac _ h))
section
variable {E:T0} {H H':Aj} {C C':BS} {B l d c:Nat} {e:En} {v:V} {Φ:V->Aj->Prop}
theorem Ds.put(x:Ds E H l e){v:V}(h:H[l]? =some (.dict m))(p:H'[n]? =some (.dict (BK m (Bl s) v)))(fr:Fr E.W1 H H')(r:¬E.W1 n)(j:k<E.u)(y:Cb E.W1 H' v 1 [([(k:Int)],1)]):Ds E H' n (upd e s k):=by
 obtain⟨o,A,t,g,w,D⟩:=x.at_;rw[h]at t;cases t;have a:∀b f,upd e s k b=some f->EC fun i=>DD (BI (BK m (Bl s) v) (Bl b)=some i) (f<E.u) (Cb E.W1 H' i 1 [([(f:Int)],1)]):=fun b f q=>by
  unfold upd at q;by_cases z:b=s
  .rw[if_pos z]at q;cases q;exact⟨v,by rw[z];exact B0,j,y⟩
  .rw[if_neg z]at q;obtain⟨i,F,G,I⟩:=D b f q;exact⟨i,(CY fun J=>z (E0 J)).trans F,G,I.fr fr⟩
 by_cases q:s∈o
 .exact⟨⟨o,_,p,by rw[Gx (by rw[g];exact mem_map_of_mem q)];exact g,w,a⟩,r⟩
 .refine⟨⟨o++[s],_,p,?_,List.nodup_append.mpr ⟨w,by exact pairwise_singleton _ _,fun k j L K e=>q (by rw[AJ K]at e;exact e▸j)⟩,a⟩,r⟩;rw[D3 (by rw[g];exact fun z=>q (ID.mp z)),g,AL];rfl
theorem GY{l a:List V}(h:H[n]? =some (.list l))(q:H[k]? =some L)(b:∀l,L≠.list l):(H.set n (.list a))[k]? =some L:=
 Aq q fun e=>by rw[e,h]at q;cases q;exact b _ rfl
theorem Cb.list{l f:List V}{v:V}{m:Mx}(x:Cb W H v i m)(h:H[n]? =some (.list l)):Cb W (H.set n (.list f)) v i m:=by obtain⟨k,a,b,c⟩:=x;exact⟨k,a,GY h b (fun g e=>by cases e),c⟩
theorem Um.list{l a:List V}{v:V}{m:Mx}(x:Um W H C k v m)(h:H[n]? =some (.list l)):Um W (H.set n (.list a)) C k v m:=⟨x.at_.list h,x.mat,x.un⟩
theorem BZ.list(x:BZ E H C B){l o:List V}(h:H[n]? =some (.list l))(t:n≠E.rl)(u:¬E.W1 n):BZ E (H.set n (.list o)) C B:=by
 obtain⟨j,a,b,d⟩:=x.me;have f:=x.fx;have g:=x.rs;exact⟨x.cir.set (fun w=>u (E.sub w)) (fun e=>by have:=x.cir.cl;rw[<- e,h]at this;cases this),⟨GY h x.nm.at_ (fun i e=>by cases e),by obtain⟨j,a,b,c⟩:=x.nm.kd;exact⟨j,GY h a (fun i e=>by cases e),b,c⟩⟩,
  ⟨j,GY h a (fun i e=>by cases e),⟨fun s v q=>by obtain⟨m,p,r⟩:=b.s s v q;exact⟨m,p.list h,r⟩,b.n,b.r,b.pin⟩,d⟩,
  ⟨GY h f.at_ (fun i e=>by cases e),⟨by obtain⟨k,p⟩:=f.ms.at_;exact⟨k,GY h p (fun i e=>by cases e)⟩,f.ms.w⟩,⟨GY h f.bn.at_ (fun i e=>by cases e),f.bn.w⟩,Aq f.rl (Ne.symm t),f.wt,f.wrl,f.wnm,f.wc,f.wkn,f.wme,f.km,f.u3⟩,
  ⟨g.r0.list h,g.r1.list h,g.g1,g.k1,g.s0,g.s1⟩⟩
theorem Ds.list(x:Ds E H l e){f g:List V}(h:H[n]? =some (.list f)):Ds E (H.set n (.list g)) l e:=
 ⟨by obtain⟨i,j,a,b,c,d⟩:=x.at_;exact⟨i,j,GY h a (fun k e=>by cases e),b,c,fun x a q=>by obtain⟨v,p,r,t⟩:=d x a q;exact⟨v,p,r,t.list h⟩⟩,x.w⟩
theorem El.list{w:Qb}(x:El E H C j0 k w){a b:List V}(h:H[n]? =some (.list a)):El E (H.set n (.list b)) C j0 k w:=⟨x.gate,x.env.list h,x.dom,x.len⟩
theorem Nr(h:T.Nodup):T.length<=2:=by
 rcases Hk h with rfl |rfl |rfl |rfl |rfl<;>decide
set_option maxHeartbeats 4000000 in
theorem ME(F:BN X){g:Bool->Bool}(n1:J.length<=2)(f2:7<=d)(p1:∀p∈J,Bn X E "Translator.matrix" (.s p.2) (PS E p.2) d c)(y:BZ E H C (B+bud (c+3) J.length 1))(ev:Ds E H l e)(q1:∀x,IN J g x=true->(e x).isSome=true)
  (φ:∀H' C' n T,Fr E.W1 H H'->BZ E H' C' B->C <+: C'->H'[n]? =some (.list (T.map NX))->¬E.W1 n->H.length<=n->(∀w∈T,El E H' C' g 2 w)->T.length<=9->(∀b f,E4 C' b T f=DZ E.u (E.wd b) J e f)->Φ (.loc n) H') :
  Ap X (d+2) "Translator.opened" [.loc E.t,.tup (J.map Dx),.loc l] H Φ:=by
 refine Ao F 24 rfl (Al fun kn h2=>(h2 _ _ (Al fun kn j2=>?_)));have a1:Fr (fun zz=>False) H (H++[HO.list [.tup [.tup [],.int 1,.loc l]]]):=Fr.new _;refine Bm ?_;refine Bp (xs:=J) (f:=Dx) (fun(O post:List (Bool×Sn)) b H'=>XJ fun(T:List Qb) (C':BS) (nf:Nat) (o1 o2 o3 o4 o5 o6 o7 o8 o9 oa:Option V)=>Vc (b=WU (some (.loc E.t)) (some (.tup (J.map Dx))) (some (.loc l)) (some (.loc nf)) o1 o2 o3 o4 o5 o6 o7 o8 o9 oa) (Fr E.W1 H H') (BZ E H' C' (B+bud (c+3) post.length T.length)) (C <+: C') (H'[nf]? =some (.list (T.map NX))) (¬E.W1 nf) (H.length<=nf) (∀w∈T,El E H' C' (IN post g) O.length w) (T.length<=3 ^ O.length) (∀b f,E4 C' b T (fun e=>DZ E.u (E.wd b) post e f)=DZ E.u (E.wd b) J e f)) ?_ ?_ _ _
  ⟨[⟨[],1,l,e⟩],C,H.length,none,none,none,none,none,none,none,none,none,none,rfl,a1.pure,y.fr a1,prefix_refl _,Ak,y.new,AM _,fun w P=>by
   rw[AJ P];exact⟨.one,ev.go a1.pure,q1,AM _⟩,AM _,fun b f=>by rw[FS,if_pos Db]⟩
 .rintro O q post b Q k' e1 ⟨T,C1,nf,o1,o2,o3,o4,o5,o6,o7,o8,o9,oa,rfl,fr,y1,b1,c1,d1,r1,i0,t0,l0⟩ hk;have k2:O.length+1<=2:=by have:=BU e1;omega
  have b3:T.length<=3:=AF t0 (pow_le_pow_right (by decide) (le_of_lt_succ k2:O.length<=1):3 ^ O.length<=3 ^ 1);have m2:q∈J:=by rw[e1];simp
  refine(Al fun kn n2=>(n2 _ _ (Al fun kn p2=>?_)));have h1:Fr (fun zz=>False) Q (Q++[HO.list []]):=Fr.new _;have u0:=y1.new;refine Ay (W:=E.W1) (H₀:=Q) (.inr ⟨nf,rfl,c1,d1⟩) h1.pure fun guard q2=>?_;generalize hA:B+bud (c+3) post.length (3*T.length)=A;refine Bp (xs:=T) (f:=NX) (fun(g0 I:List Qb) b H'=>ZS fun(K:List Qb) (C':BS) (o4 o5 o6 o7 o8 o9 oa:Option V)=>ZQ (b=WU (some (.loc E.t)) (some (.tup (J.map Dx))) (some (.loc l)) (some (.loc nf)) (some (Bl q.1)) (some (BO q.2)) (some (.loc Q.length)) o4 o5 o6 o7 o8 o9 oa) (Fr E.W1 Q H') (BZ E H' C' (A+(c+3)*I.length)) (C1 <+: C') (H'[Q.length]? =some (.list (K.map NX))) (∀w∈K,El E H' C' (IN post g) (O.length+1) w) (K.length<=3*g0.length) (∀b f,E4 C' b K (fun e=>DZ E.u (E.wd b) post e f)=E4 C' b g0 (fun e=>DZ E.u (E.wd b) (q::post) e f))) ?_ ?_ _ _
   ⟨[],C1,_,_,_,_,_,_,_,rfl,h1.pure,(y1.fr h1).le (by rw[<- hA,AQ,Sw];exact AT (Eq.trans (Nat.add_comm _ _) (Nat.add_left_comm _ _ _))),prefix_refl _,Ak,(fun zz h=>by cases h),AM _,fun zz zz=>rfl⟩
  .rintro g0 w I b H2 d3 f1 ⟨K,C2,o4,o5,o6,o7,o8,o9,oa,rfl,U,y2,Y,i1,R,v0,m0⟩ s1;have P:=(i0 w (by rw[f1];exact AZ _ (.head _))).go U Y;have e3:g0.length+1<=3:=by have:=BU f1;omega
   refine(Al fun kn r2=>?_);have t:=y2.tg (m:= "matrix") (p:= "Translator.matrix");w_dflts t;rw[AQ,mul_succ]at y2;refine An (k:=d) (by omega) (p1 q m2 H2 C2 (A+(c+3)*I.length+3) _ w.l w.e (y2.le (by omega)) P.env (fun x hx=>P.dom x (by rw[HN];rw[show Bx q.2 x=true from hx];rfl)) fun H3 C3 v3 j0 y3 k0 p3=>?_);obtain⟨m,hm,u2⟩:=p3;obtain⟨ng,rfl,w0,v2⟩:=hm.at_;refine(r2 _ _ ?_);w_left;w_dflts w0
   try (delta Ee;dsimp only)
   rw[B9];refine Bz (by rw[AG];exact AH (AF hm.len y.fx.u3) (by decide)) hm.mat.nd (Lw hm.un) fun kc x0 f3=>?_;generalize t1:H3++[HO.list (kc.map Am)]=H4;have S:Fr (fun zz=>False) H3 H4:=by rw[<- t1];exact Fr.new _
   have w2:H4[H3.length]? =some (.list (kc.map Am)):=by rw[<- t1];exact Ak
   have j1:Un E.u kc:=fun t ht=>hm.un t (x0.mem_iff.mp ht);have u1:kc.Nodup:=x0.nodup_iff.mpr hm.mat.nd;have x2:kc.length<=3:=AF (Di j1 u1) y.fx.u3;have n0:=j0.old i1 u0;have c3:=Ax n0;refine Ay (W:=fun m=>E.W1 m\/m=Q.length) (.inr ⟨_,rfl,w2,fun q=>q.elim y3.new fun e=>by omega⟩) .refl fun e2 y0=>?_;refine B1 (fun v1 b H'=>ZY fun(D i:List (List Int)) (j:List Qb) (C':BS) (o8 o9 oa:Option V)=>Vc (kc=D++i) (v1=i.map Am) (b=WU (some (.loc E.t)) (some (.tup (J.map Dx))) (some (.loc l)) (some (.loc nf)) (some (Bl q.1)) (some (BO q.2)) (some (.loc Q.length)) (some (Am w.at_)) (some (.int w.g)) (some (.loc w.l)) (some (.loc ng)) o8 o9 oa) (Fr (fun m=>E.W1 m\/m=Q.length) H4 H') (BZ E H' C' (A+(c+3)*I.length+i.length)) (C3 <+: C') (H'[Q.length]? =some (.list (j.map NX))) ((∀w∈j,El E H' C' (IN post g) (O.length+1) w)) (j.length<=K.length+D.length) (∀b (f:En->Int),E4 C' b j f=E4 C' b K f+if BL C' b w.g=true then(D.map fun t=>if ms C' b m t=true then f (upd w.e q.1 (hd t).toNat)else 0).sum else 0)) ?_ ?_ _ _ _
    ⟨[],kc,K,C3,_,_,_,rfl,rfl,rfl,.refl,(y3.fr S).le (by omega),prefix_refl _,S.old n0 id,fun w P=>((R w P).go j0 k0).go S.pure (prefix_refl _),AM _,fun b f=>by rw[map_nil,sum_nil,ite_self,Int.add_zero]⟩
   .rintro v r b H6 k3 ⟨D,i,j,C6,o8,o9,oa,g1,g2,rfl,Z,y6,L,o0,M,p0,a0⟩ z0;cases i with
    |nil=>cases g2
    |cons t i=>
    cases g2;have w1:t∈kc:=by rw[g1];simp
    obtain⟨a,ha,rfl⟩:=j1 t w1;have x1:=(Y.trans k0).trans L;have b0:=(i0 w (by rw[f1];exact AZ _ (.head _))).go ⟨AF U.len (AF j0.len (AF S.len Z.len)),fun{n o} e w=>Z.old (S.old (j0.old (U.old e w) w) id) fun q=>q.elim w fun z=>by have:=Ax e;omega⟩ x1;have z1:=Z.old (S.old w0 id) fun q=>q.elim v2 fun e=>by rw[e,n0]at w0;cases w0
    obtain⟨ks,kv,A1,q0,z2,_⟩:=b0.env.at_;have D1:kv.length<=2:=by have:=congrArg List.length q0;rw[AG,AG]at this;rw[this];exact Nr z2
    refine(Al fun kn A2=>?_);w_dflts A1;refine⟨AF D1 (by decide),by rw[q0];exact Gl,?_⟩;have k1:Fr (fun zz=>False) H6 (H6++[HO.dict kv]):=Fr.new _;have y7:=y6.fr k1;have G1:=k1.old z1 id;have l1:=y6.new;have gm:=CS (t:=[(a:Int)]) hm.mat.g;refine EL rfl y7.fx.at_ rfl rfl y7.cir.tg ?_;w_dflts G1;refine⟨_,BH [(a:Int)],Gp (x0.mem_iff.mp w1),?_⟩;refine An (k:=7) (lt_succ_of_le f2) (D6 F (B:=A+(c+3)*I.length+i.length) y7.cir b0.gate (gm.ext L) fun H8 C8 gb s8 G2 q8=>(A2 _ _ (Al fun kn P2=>?_)));have w8:=(y7.ste s8 (by rw[AQ];exact le_succ _)).new;have L1:Fr E.W H6 H8:=k1.pure.trans s8.fr;have l8:=L1.len;have P1:=s8.fr.len;rw[AI,AX]at P1;have R1:H8[H6.length]? =some (.dict kv):=s8.fr.old Ak fun w=>l1 (E.sub w);have A0:=Au R1 [HO.dict (BG [] [(Am [(a:Int)],.int 1)])];refine⟨BH [(a:Int)],?_⟩;w_dflts A0;refine⟨.str _ _,AH D1 (by decide),P2 _ _ ?_⟩;generalize h0:(H8++[HO.dict (BG [] [(Am [(a:Int)],.int 1)])]).set H6.length (.dict (BK kv (Bl q.1) (.tup [.int 1,.loc H8.length])))=c0;have D0:Fr E.W H6 c0:=by rw[<- h0];exact(L1.app _).set (.inl (AM _)) _
    have N:Fr E.W1 H6 c0:=D0.weak fun n=>E.sub;have g3:=Ax y6.cir.cl;have S1:BZ E c0 C8 (A+(c+3)*I.length+i.length):=y6.step D0 (by rw[<- h0];exact(s8.at_.fr (Fr.new _)).set (fun w=>l1 (E.sub w)) (by omega)) s8.ext (by rw[AQ];exact le_succ _);have a2:c0[H8.length]? =some (.dict (CH [([(a:Int)],1)])):=by rw[<- h0];exact Aq Ak (Nat.ne_of_gt P1)
    have m1:c0[H6.length]? =some (.dict (BK kv (Bl q.1) (.tup [.int 1,.loc H8.length]))):=by rw[<- h0];exact BE A0
    have G:=N.old o0 u0;have d0:Fr (fun m=>E.W1 m\/m=Q.length) H4 c0:=Z.trans (N.weak fun n=>.inl);have c2:∀b,BL C8 b gb=(BL C6 b w.g&&ms C6 b m [(a:Int)]):=fun b=>by
     have:=q8 b;dsimp only at this;rw[this,CJ hm.mat.nd]
    have r0:∀b (f:En->Int),E4 C8 b j f+(if BL C8 b gb=true then f (upd w.e q.1 a)else 0)=E4 C8 b K f+if BL C8 b w.g=true then((D++[[(a:Int)]]).map fun t=>if ms C8 b m t=true then f (upd w.e q.1 (hd t).toNat)else 0).sum else 0:=fun b f=>by
     rw[DM (fun w P=>(M w P).gate) s8.ext,DM (fun w P=>((R w P).gate.ext k0).ext L) s8.ext,(a0 b f),Av b0.gate s8.ext,c2 b,show(fun t=>if ms C8 b m t=true then f (upd w.e q.1 (hd t).toNat)else 0)=fun t=>if ms C6 b m t=true then f (upd w.e q.1 (hd t).toNat)else 0 from funext fun t=>by rw[(fun b t=>Hy (hm.mat.ext L).g s8.ext:∀b t,ms C8 b m t=ms C6 b m t)],AL,D9]
     show _=_+if BL C6 b w.g=true then _+((if ms C6 b m [(a:Int)]=true then f (upd w.e q.1 ((a:Int)).toNat)else 0)+0)else 0
     rw[toNat_natCast];cases BL C6 b w.g<;>cases ms C6 b m [(a:Int)]<;>simp<;>exact Int.add_assoc _ _ _
    have R0:kc=(D++[[(a:Int)]])++i:=by rw[g1];simp
    have d2:j.length+1<=K.length+(D++[[(a:Int)]]).length:=by rw[AI,AX];exact Ab p0
    w_left;cases hq:(gb != -1)with
    |false=>
     have a3:gb= -1:=by simpa using hq
     refine z0 _ _ (y0 _ d0) ⟨D++[[(a:Int)]],i,j,C8,_,_,_,R0,rfl,rfl,d0,S1,L.trans s8.ext,G,fun w P=>(M w P).go N s8.ext,by omega,fun b f=>?_⟩;rw[<- r0 b f,a3,Co];exact(Int.add_zero _).symm
    |true=>
     refine objA_i G ?_;refine⟨by rw[AG];exact AF (AP b0.len _) (AF (by show O.length+1<=60;omega) (by decide)),?_⟩;refine Bf G (by rw[AG];have:j.length<=60:=(by have:=congrArg List.length g1;rw[AI]at this;omega);exact AH this (by decide)) ?_;have S0:Fr (fun m=>E.W1 m\/m=Q.length) H4 (c0.set Q.length (.list (j.map NX++[.tup [.tup (w.at_.map V.int++[(a:Int)].map V.int),.int gb,.loc H6.length]]))):=d0.set (.inr (.inr rfl)) _;refine z0 _ _ (y0 _ S0) ⟨D++[[(a:Int)]],i,j++[⟨w.at_++[(a:Int)],gb,H6.length,upd w.e q.1 a⟩],C8,_,_,_,R0,rfl,rfl,S0,S1.list G (fun e=>by have:=Ax y1.fx.rl;omega) u0,L.trans s8.ext,by rw[AL];show _=some (HO.list (_++[V.tup [V.tup ((w.at_++[(a:Int)]).map V.int),_,_]]));rw[AL];exact BE G,fun w' f0=>?_,by rw[AI];exact d2,fun b f=>?_⟩
     .rcases AY f0 with f0 |f0
      .exact((M w' f0).go N s8.ext).list G
      .rw[AJ f0];refine⟨G2,(b0.env.put A1 m1 N l1 ha ⟨_,rfl,a2,w8⟩).list G,fun x hx=>?_,by show(w.at_++[(a:Int)]).length<=_;rw[AI];exact AP b0.len 1⟩;show(upd w.e q.1 a x).isSome=true;unfold upd;by_cases z:x=q.1
       .rw[if_pos z];rfl
       .rw[if_neg z];exact b0.dom x (by rw[HN,hx,Bool.true_and,bne_iff_ne.mpr (Ne.symm z),Bool.or_true])
     .rw[HK,FS];exact r0 b f
   .rintro b H6 ⟨D,i,j,C6,o8,o9,oa,g1,g2,rfl,Z,y6,L,o0,M,p0,a0⟩;cases i with
    |cons _ _=>cases g2
    |nil=>
    rw[Ah]at g1;subst g1;have FR:Fr E.W1 Q H6:=⟨AF U.len (AF j0.len (AF S.len Z.len)),fun{n o} e w=>Z.old (S.old (j0.old (U.old e w) w) id) fun q=>q.elim w fun z=>by have:=Ax e;omega⟩;refine s1 _ _ (q2 _ FR) ⟨j,C6,_,_,_,_,_,_,_,rfl,FR,y6.le (AM _),(Y.trans k0).trans L,o0,M,by rw[AI,AX];exact AF p0 (Ad v0 x2),fun b f=>?_⟩;rw[a0 b,HK,FS,DM (fun w P=>(R w P).gate) (k0.trans L),m0 b f,DM (C:=C2) (fun w' f0=>((i0 w' (by rw[f1];exact mem_append_left _ f0)).gate.ext Y)) (k0.trans L),
     L9 (p:=Bb E.u (E.wd b) w.e q.2) (F:=fun a=>DZ E.u (E.wd b) post (upd w.e q.1 a) f) x0 u1 j1 fun a=>(Hy hm.mat.g L).trans (u2 b a)]
    rfl
  .rintro b H2 ⟨K,C2,o4,o5,o6,o7,o8,o9,oa,rfl,U,y2,Y,i1,R,v0,m0⟩;refine p2 _ _ (hk _ _ trivial ⟨K,C2,Q.length,_,_,_,_,_,_,_,_,_,_,rfl,fr.trans U,y2.le ?_,b1.trans Y,i1,u0,fr.len,?_,?_,fun b f=>?_⟩)
   .rw[<- hA,length_nil,Nat.mul_zero,Nat.add_zero];exact AO (VT v0) _
   .rw[AI];exact R
   .rw[AI];exact AF v0 (by rw[AX,Nat.pow_succ];exact AF (Ac _ t0) (AT (mul_comm _ _)))
   .rw[m0 b f,DM (fun w P=>(i0 w P).gate) Y];exact l0 b f
 .rintro b Q ⟨T,C1,nf,o1,o2,o3,o4,o5,o6,o7,o8,o9,oa,rfl,fr,y1,b1,c1,d1,r1,i0,t0,l0⟩;exact j2 _ _ (φ Q C1 nf T fr y1 b1 c1 d1 r1 (fun w P=>let q:=i0 w P;⟨q.gate,q.env,q.dom,AF q.len n1⟩) (AF t0 ((fun h=>pow_le_pow_right (by decide) h) n1)) l0)
end
section
variable {E:T0} {H H':Aj} {C C':BS} {B l d c:Nat} {e:En} {v:V} {Φ:V->Aj->Prop}
def PP(E:T0)(k:Ky)(P:En->Aj->BS->V->Prop)(e:En)(H:Aj)(C:BS)(v:V):Prop:=P e H C v/\((∀x,fv k x=false)->∃a,H[E.me]? =some (.dict a)/\BI a (DU k)=some v)
theorem Bn.imp{k:Ky}{a:En->Aj->BS->V->Prop}(x:Bn X E f k M d c)(h:∀e H C v,M e H C v->a e H C v):Bn X E f k a d c:=fun H C B Φ l e y ev hd b=>x H C B Φ l e y ev hd fun H' C' v fr y ex p=>b H' C' v fr y ex (h _ _ _ _ p)
theorem Dc(F:BN X){a:Ky}{op:String}{args:List V}(b:WG E a M)(r:DU a=.tup (sS op::args))(i:Pd 8 (DU a))(hd:n<=d)(j:D2 X E.nm E.kn a n k)
  (h:Bn X E "Translator.number_of_plain" a M d c):Bn X E "Translator.number" a (PP E a M) (d+2) (c+k+1):=fun H C B Φ l e y ev s N=>by
 have O:=i;unfold D2 at j;unfold Bn at h;rw[r]at j h i⊢;refine Ao F 28 rfl (Al fun P K=>?_)
 ·
  refine objA_i y.fx.at_ ?_;refine tg_i (y.nm.tg (m:= "of") (p:= "FreeNames.of")) fun t=>?_;refine An (k:=n) (lt_succ_of_le hd) (j H (B+c+1) _ (y.nm.le (by omega)) fun L u x1=>?_);have g:=y.names u x1 (Ab (AO (AU _ _) _));have f:Fr E.W1 H L:=u.weak fun U e=>.inr (.inl e);have w:=ev.go f;refine⟨RV,.tup fun t h=>(by cases h),?_⟩;by_cases A:∀x,fv a x=false
  case neg=>
   generalize Q:BY _ _=R;obtain rfl:R=false:=Q.symm.trans (Gn.trans (decide_eq_false A));refine tg_i (g.tg (m:= "number_of_plain") (p:= "Translator.number_of_plain")) fun t=>?_;exact An (k:=d) (by omega) (h L C B Φ l e (g.le (by omega)) w s fun D S v o G ex p=>N D S v (f.trans o) G ex ⟨p,fun h=>absurd h A⟩)
  generalize Q:BY _ _=R;obtain rfl:R=true:=Q.symm.trans (Gn.trans (decide_eq_true A));refine K _ _ (Al fun P K=>?_);obtain⟨Y,T,Z,m3⟩:=g.me;refine objA_i g.fx.at_ ?_;w_dflts T;refine⟨i,?_⟩;refine MC (BI Y (V.tup (sS op::args))) (fun v I=>?_) fun I=>?_
  .refine K _ _ ?_;refine objA_i g.fx.at_ ?_;w_dflts T;exact⟨v,i,I,N L C v f (g.le (le_add_right_of_le (AU _ _))) (prefix_refl _) ⟨b.env _ _ _ _ _ A (b.get _ _ _ v Z (by rw[r];exact I)),fun t=>⟨Y,T,by rw[r];exact I⟩⟩⟩
  .refine tg_i (g.tg (m:= "number_of_plain") (p:= "Translator.number_of_plain")) fun t=>?_;refine An (k:=d) (by omega) (h L C (B+1) _ l e (g.le (AT (Ag _ _ _))) w s fun D S v o G ex p=>?_);obtain⟨q,n1,n2,n3⟩:=G.me;refine objA_i G.fx.at_ ?_;w_dflts n1;refine⟨i,AH (AF (AU _ _) n3) (by decide:900000<Ar),K _ _ ?_⟩;rw[<- r];have y3:=G.store (b.put _ _ _ v (b.env _ _ _ _ _ A p) (fun p i z=>by have:=Z.pin p i;rw[z,r,I]at this;cases this) n2) (AF (AP Ei _) (AF (AT (Nat.succ_add_eq_add_succ _ _)) n3));have k3:(D.set E.me (.dict (BK q (DU a) v)))[E.me]? =some (.dict (BK q (DU a) v)):=by rw[r];exact BE n1
   have J:Fr E.W1 D (D.set E.me (.dict (BK q (DU a) v))):=(Fr.refl (W:=E.W1)).set (.inr (.inr (.inr rfl))) _;refine objA_i y3.fx.at_ ?_;w_dflts k3;exact⟨v,O,B0,N _ S v ((f.trans o).trans J) y3 ex ⟨b.go _ _ _ _ _ _ p J (prefix_refl _),fun t=>⟨_,k3,B0⟩⟩⟩
theorem P3(F:BN X)(a:i.natAbs<1000):Bn X E "Translator.number_of_plain" (.n (.num i)) (PN E (.num i)) 3 0:=fun H C B Φ l e y ev hd o=>by
 refine Ao F 29 rfl (Al fun b j=>(j _ _ (Al fun b j=>?_)));refine objA_i y.fx.at_ ?_;refine tg_i (y.fx.bn.tg (m:= "constant") (p:= "Binary.constant")) fun x=>?_;refine An (k:=1) (by decide) (Dm F a fun r q fr s f t u=>?_);exact o q C (Am r) fr.pure (y.fr fr) (prefix_refl _) ⟨r,rfl,⟨f,fun g h=>(s g h).elim (fun e=>e▸.one) fun e=>e▸.mone⟩,t,fun w=>u C w⟩
theorem Rs{m:Mx}(nd:(m.map (·.1)).Nodup):∀{a:List (List Int)},Jq C p (a.map (DI m))=(a.map fun t=>if ms C p m t=true then(1:Int)else 0).sum:=by
 intro b;induction b with
 |nil=>
  exact rfl
 |cons t r f=>
  rw[AW,NT,f,AW,sum_cons,CJ nd];cases ms C p m t<;>rfl
theorem Mt:∀{l:List Nat},((l.filter p).length:Int)=(l.map fun a=>if p a=true then(1:Int)else 0).sum:=by
 intro b;induction b with
 |nil=>
  exact rfl
 |cons a r f=>
  rw[filter_cons,AW,sum_cons,<- f];cases p a
  .rw[if_neg (by decide),if_neg (by decide),Int.zero_add]
  .rw[if_pos rfl,if_pos rfl,AQ];exact Eq.symm (Eq.trans (Int.add_comm _ _) (Eq.refl _))
theorem PB(F:BN X){s:Sn}(hd:19<=d)(J:Bn X E "Translator.matrix" (.s s) (PS E s) d n):Bn X E "Translator.number_of_plain" (.n (.cnt s)) (PN E (.cnt s)) (d+2) (n+189):=fun H C B Φ l e y ev j K=>by
 have L:=y.fx.u3;refine Ao F 29 rfl (Al fun o D=>(D _ _ ?_));refine B8 (y:= "count") rfl (by kernel_rfl) (Al fun o D=>?_);refine objA_i y.fx.at_ ?_;have t:=y.fx.bn.tg (m:= "of_gates") (p:= "Binary.of_gates");w_dflts t;refine objA_i y.fx.at_ ?_;have t:=y.fx.ms.tg (m:= "gates_of") (p:= "PlainMatrices.gates_of");w_dflts t;have t:=y.tg (m:= "matrix") (p:= "Translator.matrix");w_dflts t;refine An (k:=d) (by omega) (J H C (B+189) _ l e (y.le (AT (Ag _ _ _))) ev (fun x M=>j x M) fun H1 C1 v q G u N=>?_);obtain⟨m,b,z⟩:=N;have O:=b.len;refine An (k:=1) (lt_succ_of_le (le_of_add_left_le hd)) (IV F b.at_ b.mat.nd (Lw b.un) (AH (AF O L) (by decide)) G.lt fun f H2 P h i hs Q R=>?_);have lk:P.length<=3:=by rw[i.length_eq,AG];omega
 have A:=G.fr h;refine An (k:=19) (lt_succ_of_le hd) (IX F (B:=B) (A.cir.le (by rw[AG];exact AF (AO (Ac _ lk) _) (AM _))) (A.fx.bn.sub fun f=>E.sub) Q (fun w=>R (E.sub w)) (fun g S=>by
  obtain⟨t,_,rfl⟩:=AS S;exact CS b.mat.g) (by rw[AG];omega) fun T U r st V W Y=>?_)
 refine K T U (Am r) ((q.trans h.pure).trans (st.fr.weak fun f=>E.sub)) (A.out st) (u.trans st.ext) ⟨r,rfl,V,W,fun I=>?_⟩;rw[Y I,IB,Mt];exact(Rs b.mat.nd).trans (L9 (F:=fun zz=>1) i (i.nodup_iff.mpr b.mat.nd) (fun t Z=>b.un t (i.mem_iff.mp Z)) fun a=>z I a)
theorem Mn(F:BN X){a b:Nn}(hd:15<=d)(wa:wN a<=60)(wb:wN b<=60)(I:Bn X E "Translator.number" (.n a) (PN E a) d n)(J:Bn X E "Translator.number" (.n b) (PN E b) d k) :
  Bn X E "Translator.number_of_plain" (.n (.less a b)) (PN E (.less a b)) (d+2) (n+k+9*(max (wN a) (wN b)+1)):=fun H C B Φ l e y ev h L=>by
 generalize M:9*(max (wN a) (wN b)+1)=K at y;refine Ao F 29 rfl (Al fun s t=>(t _ _ ?_));refine B8 (y:= "less") rfl (by kernel_rfl) (B8 (y:= "less") rfl (by kernel_rfl) (B8 (y:= "less") rfl (by kernel_rfl) (B8 (y:= "less") rfl (by kernel_rfl) (Al fun s t=>?_))));refine tg_i (y.tg (m:= "number") (p:= "Translator.number")) fun N=>?_;refine An (k:=d) (by omega) (I H C (B+k+K) _ l e (y.le (by omega)) ev (fun x u=>h x (by show(Cp a x||Cp b x)=true;rw[show Cp a x=true from u];rfl)) fun O P va i A w Q=>?_);have t2:=A.tg (m:= "number") (p:= "Translator.number");w_dflts t2;refine An (k:=d) (by omega) (J O P (B+K) _ l e (A.le (AT (Ag _ _ _))) (ev.go i) (fun x u=>h x (by show(Cp a x||Cp b x)=true;rw[show Cp b x=true from u,Bool.or_true])) fun H2 D vb z j f R=>(t _ _ ?_));obtain⟨S,rfl,G,la,T⟩:=Q;obtain⟨U,rfl,V,W,Y⟩:=R;refine B8 (y:= "less") rfl (by kernel_rfl) ?_;refine objA_i j.fx.at_ ?_;refine tg_i (j.fx.bn.tg (m:= "less") (p:= "Binary.less")) fun N=>?_;refine An (k:=15) (lt_succ_of_le hd) (Ow F (B:=B) (j.cir.le (M▸AO (Ac 9 (mx2 la W)) B)) (j.fx.bn.sub fun o=>E.sub) (G.ext f) V (by omega) (by omega) fun Z C3 r st hr hl hv=>?_);refine L Z C3 (Am r) ((i.trans z).trans (st.fr.weak fun o=>E.sub)) (j.out st) ((w.trans f).trans st.ext) ⟨r,rfl,hr,AF hl (by rw[WQ];omega),fun q=>?_⟩;rw[hv q,Hx];show rd D q S-rd D q U=_;rw[FH G.g f,T q,Y q]
end
section
variable {E:T0} {H H':Aj} {C C':BS} {B l d c:Nat} {e:En} {v:V} {Φ:V->Aj->Prop}
theorem O8(F:BN X){b:Nn}(u0:J.length<=2)(hd:17<=d)(wb:wN b<=50)(j0:∀p∈J,Bn X E "Translator.matrix" (.s p.2) (PS E p.2) d n)(hb:Bn X E "Translator.number" (.n b) (PN E b) d k) :
  Bn X E "Translator.number_of_plain" (.n (.sum J b)) (PN E (.sum J b)) (d+4) (bud (n+3) J.length 1+(k+3*max (wN b) 1)*9+9*(max (wN b) 1+5)*9):=fun H C B Φ l e y ev v0 φ=>by
 refine Ao F 29 rfl (Al fun f0 hk=>(hk _ _ ?_));refine B8 (y:= "sum") rfl (by kernel_rfl) (B8 (y:= "sum") rfl (by kernel_rfl) (Al fun f0 hk=>?_));generalize R:max (wN b) 1=w at y;have k0:1<=w:=R▸le_max_right _ _;generalize hK:k+3*w=K at y;generalize hT:9*(w+5)=T at y;refine Al fun f0 w0=>?_;generalize N:H++[HO.list []]=H1;have l0:Fr (fun zz=>False) H H1:=by rw[<- N];exact Fr.new _
 have b0:H1[H.length]? =some (.list []):=by rw[<- N];exact Ak
 have y1:=y.fr l0;have S:=y.new;have ya:=y1.fx.at_;rw[<- N]at ya;w_dflts ya;have tb:=y1.fx.bn.tg (m:= "constant") (p:= "Binary.constant");rw[<- N]at tb;w_dflts tb;rw[N];refine An (k:=1) (by omega) (Dm F (by decide) fun r0 H2 U x0 m0 y0 z0=>(w0 _ _ (Al fun f0 A0=>?_)));have y2:=y1.fr U;have O:=l0.trans U;have n0:=U.old b0 id;have t:=y2.tg (m:= "opened") (p:= "Translator.opened");w_dflts t;refine An (k:=d+2) (by omega) (ME F (g:=Cp b) (B:=B+K*9+T*9) u0 (le_of_add_left_le hd) j0 (y2.le (by omega)) (ev.go O.pure) (fun x hx=>v0 x hx) fun H3 C3 i ws g0 y3 D0 hn wn ln o0 h0 p0=>?_);have l2:=U.len;have g1:=Ax b0;have R0:H.length≠E.rl:=fun e=>by have:=Ax y.fx.rl;omega
 refine Ay (W:=fun m=>E.W1 m\/m=H.length) (.inr ⟨i,rfl,hn,fun q=>q.elim wn fun e=>by omega⟩) .refl fun guard S0=>?_;refine Bp (xs:=ws) (f:=NX) (fun(Y post:List Qb) D H'=>YK fun(a:List (List Int)) (C':BS) (o1 o2 o3:Option V)=>Xx (D=Ya (some (.loc E.t)) (some (Ba (.sum J b))) (some (.loc l)) (some (sS "sum")) (some (.loc H.length)) (some (Am r0)) o1 o2 o3 none none none) (Fr (fun m=>E.W1 m\/m=H.length) H3 H') (BZ E H' C' (B+K*post.length+T*9)) (C3 <+: C') (H'[H.length]? =some (.list (CX a))) (Rows C' w a) (a.length=Y.length) (∀w∈ws,El E H' C' (Cp b) 2 w) (∀D,Ek C' D a=E4 C' D Y (DA E.u (E.wd D) b))) ?_ ?_ _ _
  ⟨[],C3,none,none,none,rfl,.refl,y3.le (AP (AO (Ac _ h0) _) _),prefix_refl _,(g0.old n0 S),⟨(fun zz h=>by cases h),(fun zz h=>by cases h)⟩,rfl,o0,fun zz=>rfl⟩
 .rintro Y q post D H4 k' e1 ⟨a,C4,o1,o2,o3,rfl,Z,M,a0,G,A,P,I,Q⟩ a1;have hq:=I q (by rw[e1];exact AZ _ (.head _));have b1:Y.length<=9:=by have:=BU e1;omega
  rw[AQ,mul_succ,<- hK]at M;rw[hK]at M;refine objA_i G ?_;refine objA_i M.fx.at_ ?_;have t:=M.fx.bn.tg (m:= "chosen") (p:= "Binary.chosen");w_dflts t;have t:=M.tg (m:= "number") (p:= "Translator.number");w_dflts t;refine An (k:=d) (by omega) (hb H4 C4 (B+K*post.length+3*w+T*9) _ q.l q.e (M.le (by omega)) hq.env hq.dom fun H5 C5 v5 q0 y5 i0 p5=>?_);obtain⟨ra,rfl,na,la,qa⟩:=p5;have c0:max ra.length r0.length<=w:=Nat.max_le.mpr ⟨AF la (R▸le_max_left _ _),AF y0 k0⟩;refine An (k:=11) (lt_succ_of_le (le_add_right_of_le (le_of_add_left_le hd))) (Kj F (B:=B+K*post.length+T*9) (y5.cir.le (by have:=Ac 3 c0;omega)) (y5.fx.bn.sub fun i=>E.sub) na ((fun C=>⟨m0,fun g h=>(x0 g h).elim (fun e=>e▸.one) fun e=>e▸.mone⟩) C5) (hq.gate.ext i0) (AF la (AF wb (by decide))) (by omega) fun H6 C6 r6 s6 c1 d1 f1=>?_);have L:=s6.fr.old (q0.old G S) fun w=>S (E.sub w);refine Bf L (by rw[AG,P];exact AH b1 (by decide)) ?_;have d0:Fr E.W1 H4 H6:=q0.trans (s6.fr.weak fun i=>E.sub);have t0:=(Z.trans (d0.weak fun i=>.inl)).set (.inr (.inr rfl)) (.list (CX a++[Am r6]));have j:=i0.trans s6.ext;refine a1 _ _ (S0 _ t0) ⟨a++[r6],C6,_,_,_,rfl,t0,(y5.ste s6 (AP (AU _ _) _)).list L R0 S,a0.trans j,by rw[show CX (a++[r6])=CX a++[Am r6]from AL];exact BE L,(A.ext j).app (.one c1 (AF d1 c0)),by rw[AI,AI,P];rfl,fun w R=>((I w R).go d0 j).list L,fun D=>?_⟩;rw[Fa,HK,FS,Hr j A.num,Q D,DM (fun w R=>(I w (by rw[e1];exact mem_append_left _ R)).gate) j];have h6:=f1 D;dsimp only at h6;show _+(rd C6 D r6+0)=_;rw[h6,Av hq.gate j,Av hq.gate i0,z0 C5 D,qa D];exact Eq.trans (Eq.symm (Int.add_assoc _ _ _)) (Int.add_zero _)
 .rintro D H4 ⟨a,C4,o1,o2,o3,rfl,Z,M,a0,G,A,P,I,Q⟩;refine A0 _ _ ?_;refine objA_i M.fx.at_ ?_;have t:=M.fx.bn.tg (m:= "total") (p:= "Binary.total");w_dflts t;refine An (k:=17) (lt_succ_of_le (le_add_right_of_le hd)) (IJ F (B:=B) (w:=w) (M.cir.le (by rw[hT,length_nil];exact AO (Ac _ (AF (AT P) h0)) _)) (M.fx.bn.sub fun i=>E.sub) G A (AF (AT (Eq.symm R)) (Nat.max_le_of_le_of_le wb (by decide))) k0 (AF (AT P) (AF h0 (by decide))) fun H5 C5 r st hr hl hv=>?_);refine φ H5 C5 (Am r) ((⟨by have:=O.len;have:=g0.len;have:=Z.len;omega,fun{m o} q w=>Z.old (g0.old (O.old q id) w) fun z=>z.elim w fun z=>by have:=Ax q;omega⟩:Fr E.W1 H H4).trans (st.fr.weak fun i=>E.sub)) (M.ste st (AU _ _)) ((D0.trans a0).trans st.ext) ⟨r,rfl,hr,AF hl (by rw[Vm,R];exact AM _),fun D=>?_⟩;rw[hv D,IM];show Ek C4 D a=_;rw[Q D,DM (fun w R=>(o0 w R).gate) a0];exact p0 D _
end
def nC:Nn->Nat
 |.num _=>0+cK 0+1
 |.cnt s=>cM (hS s)+189+cK (hS s+1)+1
 |.less a b=>nC a+nC b+9*(max (wN a) (wN b)+1)+cK (max (hN a) (hN b)+1)+1
 |.sum ds b=>bud (cM (hD ds)+3) ds.length 1+(nC b+3*max (wN b) 1)*9+9*(max (wN b) 1+5)*9+cK (max (hD ds) (hN b)+1)+1
theorem Y9:∀a b,nC (.less a b)=nC a+nC b+9*(max (wN a) (wN b)+1)+cK (max (hN a) (hN b)+1)+1:=fun c c=>rfl
theorem Yi:∀a b,nC (.sum a b)=bud (cM (hD a)+3) a.length 1+(nC b+3*max (wN b) 1)*9+9*(max (wN b) 1+5)*9+cK (max (hD a) (hN b)+1)+1:=fun c c=>rfl
section
variable {E:T0}
theorem LN(F:BN X):∀a:Nn,Pd 8 (Ba a)->VG a->wN a<=50->Bn X E "Translator.number" (.n a) (PP E (.n a) (PN E a)) (6*hN a+20) (nC a)
 |.num k,c,e,g=>(Dc F (Ts (n:=.num k)) (op:= "num") (args:=[.int k]) (d:=5) rfl c (AM _) (M9 F (.num k) c e) ((P3 F (by rw[Xa]at g;omega)).up (by decide) (AM 0))).up (by rw[Y6];omega) (AM _)
 |.cnt s,c,e,g=>(Dc F (Ts (n:=.cnt s)) (op:= "count") (args:=[BO s]) rfl c (by rw[WD];exact AP (AO (by decide) _) _) (M9 F (.cnt s) c e) (PB F (d:=4*hS s+20) (by omega) (GT F s (c.mem (by simp))))).up (by rw[WD];omega) (AM _)
 |.less a b,c,e,g=>by
  rw[WQ]at g;exact(Dc F (Ts (n:=.less a b)) (op:= "less") (args:=[Ba a,Ba b]) rfl c (by rw[TQ];omega) (M9 F (.less a b) c e) (Mn F (by omega) (AF (AF (le_add_right_of_le (le_max_left _ _)) g) (by decide)) (AF (AF (le_add_right_of_le (le_max_right _ _)) g) (by decide)) ((Bn.imp (LN F a (c.mem (by simp)) e.1 (by omega)) fun f f f f p=>p.1).up (d':=6*max (hN a) (hN b)+20) (by omega) (AM _)) ((Bn.imp (LN F b (c.mem (by simp)) e.2 (by omega)) fun f f f f p=>p.1).up (d':=6*max (hN a) (hN b)+20) (by omega) (AM _)))).up (by rw[TQ];exact le_of_succ_le (le_succ _)) (AM _)
 |.sum h b,c,e,g=>by
  rw[Vm]at g;have j:=(Bn.imp (LN F b (c.mem (by simp)) e.2 (AF (le_add_right_of_le (le_max_left _ _)) g)) fun f f f f p=>p.1).up (d':=6*max (hD h) (hN b)+20) (by omega) (AM _);have l:∀p∈h,Bn X E "Translator.matrix" (.s p.2) (PS E p.2) (6*max (hD h) (hN b)+20) (cM (hD h)):=fun p i=>
   ((GT F p.2 ((c.mem (v:=.tup (h.map Dx)) (by simp)).mem (mem_map_of_mem i) |>.mem (v:=BO p.2) (by simp[Dx]))).at (RB i)).up (AP (mul_le_mul (by decide) (le_max_left _ _)) 20) (AM _)
  exact(Dc F (Ts (n:=.sum h b)) (op:= "sum") (args:=[.tup (h.map Dx),Ba b]) rfl c (by rw[TT];omega) (M9 F (.sum h b) c e) (O8 F e.1 (by omega) (AF (le_add_right_of_le (le_max_left _ _)) g) l j)).up (by rw[TT];omega) (AM _)
end
theorem Dv:(BI m v).isSome=true↔v∈m.map (·.1):=by
 unfold BI;rw[Option.isSome_map,List.find?_isSome];exact⟨(by rintro⟨p,a,b⟩;exact List.mem_map.mpr ⟨p,a,(BB _ _).mp b⟩),fun h=>by obtain⟨p,a,b⟩:=AS h;exact⟨p,a,(BB _ _).mpr b⟩⟩
theorem Sz:∀{t:List (List Int)},U2 (t.map fun r=>V.tup [Am r,.bool true]) (t.map fun r=>(Am r,V.bool true)):=by
 intro a;induction a with
 |nil=>
  exact .nil
 |cons r t b=>
  exact .cons (BH r) b
section
variable {H:Aj} {Φ:V->Aj->Prop}
theorem IZ(F:BN X){t:List (List Int)}(z:∀r∈S,r∈t)(A:t.length<=60)(B:∀b,Fr (fun w=>False) H b->Φ (.tup []) b):Ap X 1 "minus" [.tup (S.map Am),.tup (t.map Am)] H Φ:=by
 refine Ao F 44 rfl (Al fun E d=>?_);refine Bm ?_;refine BF (xs:=t) (f:=Am) (fun c post a b=>EU (b=H) (a=.list (c.map fun r=>V.tup [Am r,.bool true]))) ?_ ?_ _ _ ⟨rfl,rfl⟩
 .rintro c q post a b C e ⟨rfl,rfl⟩ d;have j:c.length<=60:=by have:=BU e;omega
  refine⟨by rw[AG];exact AH j (by decide),d _ _ trivial ⟨rfl,?_⟩⟩;rw[AL];rfl
 .rintro a b ⟨rfl,rfl⟩;refine objA_i (Ak (H:=b) (o:=.list (t.map fun r=>V.tup [Am r,.bool true]))) ?_;refine⟨_,Sz,by rw[AG];exact AF A (by decide),d _ _ ?_⟩;obtain⟨D,x⟩:=HQ (k:=t.map fun r=>(Am r,V.bool true)) (l:=[]) .nil;generalize BG [] (t.map fun r=>(Am r,V.bool true))=m at D x;generalize g:b++[HO.list (t.map fun r=>V.tup [Am r,.bool true])]++[HO.dict m]=n;have p:Fr (fun w=>False) b n:=by rw[<- g];exact(Fr.new _).app _
  have s:n[(b++[HO.list (t.map fun r=>V.tup [Am r,.bool true])]).length]? =some (.dict m):=by rw[<- g];exact Ak
  refine Bm ?_;refine Dy (fun i a b=>DD (b=n) (a=.list []) (EC fun post=>EU ((∀r∈post,r∈S)) (i=post.map Am))) ?_ ?_ _ _ _ ⟨rfl,rfl,S,fun w h=>h,rfl⟩
  .rintro v r a y C ⟨rfl,rfl,post,e,u⟩ d;cases post with
   |nil=>cases u
   |cons q post=>
   cases u;w_dflts s;refine⟨BH q,?_⟩;have:(BI m (Am q)).isSome=true:=Dv.mpr ((x _).mpr (.inr (List.mem_map.mpr ⟨(Am q,.bool true),mem_map_of_mem (z q (e q (.head _))),rfl⟩)));rw[this];exact d _ _ trivial ⟨rfl,rfl,post,fun r h=>e r (.tail _ h),rfl⟩
  .rintro a y ⟨rfl,rfl,post,e,u⟩;refine objA_i (Ak (H:=y) (o:=.list [])) ?_;exact⟨zero_le _,B _ (p.app _)⟩
theorem KJ(F:BN X){t:List (List Int)}(c:∀r∈S,r∈t)(d:t.length<=60)(e:∀a,Fr (fun b=>False) H a->Φ (.bool true) a):Ap X 3 "is_within" [.tup (S.map Am),.tup (t.map Am)] H Φ:=by
 refine Ao F 45 rfl (An (by decide) (IZ F c d fun a fr=>⟨.tup fun b h=>(by cases h),.tup fun b h=>(by cases h),e a fr⟩))
def Wp(a:Nat):V:=.str (ofString "N" ++ofString (toString (a:Int)))
theorem V4:((List.range 3).map Wp).Nodup:=by
 have:((List.range 3).map fun a:Nat=>(ofString "N" ++ofString (toString (a:Int)))).Nodup:=by decide +kernel
 rw[show(List.range 3).map Wp=((List.range 3).map fun a:Nat=>(ofString "N" ++ofString (toString (a:Int)))).map V.str from rfl];exact List.Pairwise.map _ (fun a b q e=>q (V.str.inj e)) this
structure N2(H:Aj)(lu u:Nat):Prop where
 at_:Dd fun ns nu=>EU (H[lu]? =some (.inst "Universe" [(ofString "names",.tup ns),(ofString "numbers",nu)])) (ns.length=u)
theorem HJ(F:BN X)(x:N2 H n k)(c:k<=3)(b:Φ (.int k) H):Ap X 1 "Universe.size" [.loc n] H Φ:=by
 obtain⟨d,e,h,a⟩:=x.at_;refine Ao F 47 rfl ?_;w_dflts h;exact⟨by rw[a];omega,by rw[a];exact b⟩
theorem Ms(F:BN X)(h:H[n]? =some (.inst "Universe" []))(N:H[k]? =some (.list l))(O:∀v∈l,∃x,v=.str x)(nd:l.Nodup)(P:l.length<=60)
  (Q:∀c,Fr (fun m=>m=n) H c->N2 c n l.length->Φ .none c):Ap X 1 "Universe.__init__" [.loc n,.loc k] H Φ:=by
 have p:=Ax h;refine Ao F 46 rfl (Al fun C s=>?_);w_dflts N;refine⟨AF P (by decide),?_⟩;w_dflts h;refine s _ _ (Al fun C s=>?_);generalize t:H.set n (.inst "Universe" (B3 [] (ofString "names") (.tup l)))=f;have D:f[n]? =some (.inst "Universe" (B3 [] (ofString "names") (.tup l))):=by rw[<- t];exact BE h
 have d:Fr (fun m=>m=n) H f:=by rw[<- t];exact(Fr.refl (W:=fun m=>m=n)).set (.inr rfl) _
 have B:=Au D [HO.dict (BG [] [])];w_dflts B;refine(s _ _ (Al fun C s=>?_));generalize i:(f++[HO.dict (BG [] [])]).set n (.inst "Universe" (B3 (B3 [] (ofString "names") (.tup l)) (ofString "numbers") (.loc f.length)))=E;have M:E[n]? =some (.inst "Universe" (B3 (B3 [] (ofString "names") (.tup l)) (ofString "numbers") (.loc f.length))):=by rw[<- i];exact BE B
 have hd:E[f.length]? =some (.dict []):=by rw[<- i];exact Aq Ak (Nat.ne_of_gt (AK p d.len))
 have G:Fr (fun m=>m=n) H E:=by rw[<- i];exact(d.app _).set (.inr rfl) _
 w_dflts M;refine(Bm ?_);refine B1 (fun u I c=>Ks fun a o g=>WC (l=a++u) (I=Y8 (some (.loc n)) (some (.loc k)) o) (Fr (fun m=>m=n) H c) (c[n]? =some (.inst "Universe" (B3 (B3 [] (ofString "names") (.tup l)) (ofString "numbers") (.loc f.length)))) (c[f.length]? =some (.dict g)) (g.map (·.1)=a)) ?_ ?_ _ _ _
  ⟨[],none,[],rfl,rfl,G,M,hd,rfl⟩
 .rintro v r I c R ⟨a,o,g,y,rfl,fr,j,b,e⟩ J;have K:v∈l:=by rw[y];simp
  obtain⟨x,rfl⟩:=O v K;have z:BI g (.str x)=none:=by
   refine CK (BI g (.str x)) (fun q=>?_) fun w q=>?_
   .rfl
   .have:=Dv.mp (by rw[q];rfl:(BI g (.str x)).isSome=true);rw[e]at this;rw[y]at nd;exact absurd rfl ((List.nodup_append.mp nd).2.2 _ this _ (.head _))
  have A:g.length<=60:=by
   have D:=congrArg List.length e;have B:=congrArg List.length y;rw[AG]at D;rw[AI]at B;omega
  refine(Al fun C L=>?_);w_dflts j;w_dflts b;refine⟨.str _ _,?_⟩;rw[z];refine L _ _ ?_;w_dflts j;w_dflts b;refine⟨AH A (by decide),?_⟩;w_dflts j;w_dflts b;refine⟨.str _ _,AH A (by decide),J _ _ trivial ⟨a++[.str x],some (.str x),_,by rw[y];simp,rfl,fr.set (.inl d.len) _,Aq j (Nat.ne_of_lt (AK p d.len)),BE b,?_⟩⟩;rw[D3 (fun q=>by rw[<- Dv,z]at q;cases q),e]
 .rintro I c ⟨a,o,g,y,rfl,fr,j,b,e⟩;exact s _ _ (Q c fr ⟨⟨l,_,j,rfl⟩⟩)
end
structure CT(H:Aj)(lb ll ld lu u:Nat)(items ks:List V):Prop where
 at_:H[lb]? =some (.inst "Bounds" [(ofString "universe",.loc lu),(ofString "bounds",.loc ll),(ofString "numbers",.loc ld)])
 ls:H[ll]? =some (.list items)
 ds:∃kv,H[ld]? =some (.dict kv)/\kv.map (·.1)=ks
 un:N2 H lu u
section
variable {H:Aj} {Φ:V->Aj->Prop} {lb ll ld lu u:Nat} {items ks:List V}
theorem CT.tg(x:CT H lb ll ld lu u items ks){m p:String}(a:autoParam (List.lookup (ofString m) [(ofString "universe",V.loc lu),(ofString "bounds",.loc ll),(ofString "numbers",.loc ld)]=none) rf)(b:autoParam (Fl "Bounds" (ofString m)=some p) rf) :
  Ga H lb (ofString m) p:=CC x.at_ rfl a b
theorem Me(F:BN X)(x:CT H lb ll ld lu u items ks)(b:items.length<=60)(a:Φ (.int items.length) H):Ap X 1 "Bounds.size" [.loc lb] H Φ:=by
 refine Ao F 52 rfl ?_;refine objA_i x.at_ ?_;refine objA_i x.ls ?_;exact⟨by omega,a⟩
theorem GQ(F:BN X)(x:CT H lb ll ld lu u items ks)(a:k<=60)(b:items[k]? =some v)(c:Φ v H):Ap X 1 "Bounds.bound" [.loc lb,.int k] H Φ:=by
 refine Ao F 51 rfl ?_;refine objA_i x.at_ ?_;refine objA_i x.ls ?_;exact⟨_,v,rfl,Ai _,Int.lt_of_le_of_lt (Int.ofNat_le.mpr a) (by decide),by simpa using b,c⟩
theorem Ml(F:BN X)(h:H[lb]? =some (.inst "Bounds" []))(t:N2 H lu u)(n:lu≠lb)(v:∀o ll ld,Fr (fun m=>m=lb) H o->H.length<=ll->H.length<=ld->ll≠ld->CT o lb ll ld lu u [] []->Φ .none o):Ap X 1 "Bounds.__init__" [.loc lb,.loc lu] H Φ:=by
 have d:=Ax h;refine Ao F 48 rfl (Al fun w p=>?_);w_dflts h;refine p _ _ (Al fun w p=>?_);generalize f:H.set lb (.inst "Bounds" (B3 [] (ofString "universe") (.loc lu)))=c;have x:c[lb]? =some (.inst "Bounds" (B3 [] (ofString "universe") (.loc lu))):=by rw[<- f];exact BE h
 have g:Fr (fun m=>m=lb) H c:=by rw[<- f];exact(Fr.refl (W:=fun m=>m=lb)).set (.inr rfl) _
 have q:=Au x [HO.list []];w_dflts q;refine(p _ _ ?_);generalize e:(c++[HO.list []]).set lb (.inst "Bounds" (B3 (B3 [] (ofString "universe") (.loc lu)) (ofString "bounds") (.loc c.length)))=i;have l:=g.len;have y:i[lb]? =some (.inst "Bounds" (B3 (B3 [] (ofString "universe") (.loc lu)) (ofString "bounds") (.loc c.length))):=by rw[<- e];exact BE q
 have r:i[c.length]? =some (.list []):=by rw[<- e];exact Aq Ak (Nat.ne_of_gt (AK d l))
 have j:Fr (fun m=>m=lb) H i:=by rw[<- e];exact(g.app _).set (.inr rfl) _
 have l2:=Ax r;have s:=Au y [HO.dict (BG [] [])];w_dflts s;have k:=(j.app [HO.dict (BG [] [])]).set (.inr rfl) (.inst "Bounds" (B3 (B3 (B3 [] (ofString "universe") (.loc lu)) (ofString "bounds") (.loc c.length)) (ofString "numbers") (.loc i.length)));exact v _ c.length i.length k l j.len (by omega) ⟨BE s,Aq (Au r _) (Nat.ne_of_gt (AK d l)),⟨[],Aq Ak (Nat.ne_of_gt (AV d (AH l l2))),rfl⟩,⟨by obtain⟨z,A,a,b⟩:=t.at_;exact⟨z,A,k.old a n,b⟩⟩⟩
theorem Df{b c:Int}(h:H[n]? =some (.range i b c))(a:i.natAbs<2 ^ 30)(d:b.natAbs<2 ^ 30)(e:c=1\/c=2)(f:r (Bc i b c) (fun g=>True) H):Cd (.loc n) H r:=by
 unfold Cd;simp only[h];exact⟨a,d,e,f⟩
structure Ct(u:Nat)(ar:Nat)(rows:List (List Int)):Prop where
 len:∀r∈rows,r.length=ar
 atoms:∀r∈rows,∀a∈r,0<=a/\a<(u:Int)
 asc:∀k r s,rows[k]? =some r->rows[k+1]? =some s->DY (r.map V.int) (s.map V.int)=true
 le:rows.length<=60
theorem FU(F:BN X)(x:CT H lb ll ld lu u items ks)(W:u<=3)(l:Ct u n S)(Y:n<=60)(Z:∀m,Fr (fun C=>False) H m->Φ .none m):Ap X 3 "Bounds.want_set" [.loc lb,v,.int n,.tup (S.map Am)] H Φ:=by
 refine Ao F 50 rfl (Al fun T D=>?_);refine(D _ _ (Al fun T E=>?_));refine Bm ?_;refine B1 (fun d g m=>EU (m=H) (Ks fun(post:List (List Int)) (i f:Option V)=>DD ((∀r∈post,r∈S)) (d=post.map Am) (g=Vj (some (.loc lb)) (some v) (some (.int n)) (some (.tup (S.map Am))) i f none))) ?_ ?_ _ _ _ ⟨rfl,S,none,none,fun C h=>h,rfl,rfl⟩
 .rintro c r g m k' ⟨rfl,post,i,f,G,I,rfl⟩ hk;cases post with
  |nil=>cases I
  |cons q post=>
  cases I;have w:=G q (.head _);have U:(q.map V.int).length=n:=(AG ..).trans (l.len q w);refine(Al fun T J=>⟨by rw[U];omega,?_⟩);rw[U];w_left;generalize y:((n:Int) != (n:Int))=A;obtain rfl:A=false:=y.symm.trans (by simp);refine J _ _ (Bm ?_);refine B1 (fun d g e=>EU (e=m) (Dd fun(b:List Int) (f:Option V)=>DD ((∀a∈b,a∈q)) (d=b.map V.int) (g=Vj (some (.loc lb)) (some v) (some (.int n)) (some (.tup (S.map Am))) (some (Am q)) f none))) ?_ ?_ _ _ _ ⟨rfl,q,f,fun C h=>h,rfl,rfl⟩
  .rintro c r g e K ⟨rfl,b,f,o,L,rfl⟩ s;cases b with
   |nil=>cases L
   |cons a b=>
   cases L;obtain⟨a0,au⟩:=l.atoms q w a (o a (.head _));w_left;generalize y:decide ((0:Int)<=a)=A;obtain rfl:A=true:=y.symm.trans (decide_eq_true a0);refine objA_i x.at_ ?_;obtain⟨ns,nu,M,b0⟩:=x.un.at_;have t:=CC (x:=ofString "size") (p:= "Universe.size") M rfl rfl rfl;w_dflts t;refine An (by decide) (HJ F x.un W ?_);w_left;generalize y:decide (a<(u:Int))=A;obtain rfl:A=true:=y.symm.trans (decide_eq_true au);exact s _ _ trivial ⟨rfl,b,_,fun z N=>o z (.tail _ N),rfl,rfl⟩
  .rintro g e ⟨rfl,b,f,o,L,rfl⟩;exact hk _ _ trivial ⟨rfl,post,_,f,fun z N=>G z (.tail _ N),rfl,rfl⟩
 .rintro g m ⟨rfl,post,i,f,G,I,rfl⟩;have lr:(S.map Am).length=S.length:=AG ..;have le:=l.le;refine E _ _ ?_;refine⟨by rw[lr];omega,by decide,by rw[lr];omega,?_⟩;rw[lr];refine Df Ak (by decide) (by omega) (.inl rfl) ?_;refine B1 (fun d g e=>EU (Fr (fun C=>False) m e) (Ks fun(i f O:Option V)=>EU ((∀c∈d,∃k:Nat,c=.int ((k:Int)+1)/\k+1<S.length)) (g=Vj (some (.loc lb)) (some v) (some (.int n)) (some (.tup (S.map Am))) i f O))) ?_ ?_ _ _ _ ⟨Fr.new _,i,f,none,fun c B=>?_,rfl⟩
  .rintro c r g e K ⟨fr,i,f,O,o,rfl⟩ s;obtain⟨k,rfl,j⟩:=o c (.head _);have P:S[k]? =some S[k]:=AD (AV (lt_succ_self k) j);have Q:S[k+1]? =some S[k+1]:=AD j;refine Eg (k:=k) (v:=Am S[k]) (AK (AV (lt_succ_self k) j) (AF l.le (by decide:60<=Ar))) (by rw[List.getElem?_map,P];rfl) ?_ (Int.add_sub_cancel _ _);refine Eg (k:=k+1) (v:=Am S[k+1]) (AK j (AF l.le (by decide:60<=Ar))) (by rw[List.getElem?_map,Q];rfl) ?_;refine⟨⟨_,rfl⟩,⟨_,rfl⟩,by rw[AG,AG,l.len _ (mem_of_getElem? P),l.len _ (mem_of_getElem? Q)],?_⟩;rw[l.asc k _ _ P Q];exact s _ _ trivial ⟨fr,i,f,_,fun c B=>o c (.tail _ B),rfl⟩
  .rintro g e ⟨fr,i,f,O,o,rfl⟩;exact Z e fr
  .unfold Bc at B;obtain⟨k,R,rfl⟩:=AS B;have:=List.mem_range.mp R;exact⟨k,by rw[show(1:Int)+1*(k:Int)=(k:Int)+1 by rw[Int.one_mul,Int.add_comm]],by rw[if_pos (by decide)]at this;omega⟩
theorem Ku(F:BN X){up:List (List Int)}(x:CT H lb ll ld lu u items ks)(G:u<=3)(Q:1<=n)(R:V.str y∉ks)(T:Ct u n S)(I:Ct u n up)(U:∀r∈S,r∈up)(o:n<=60)(v:items.length<=60)(W:ks.length<=60)
  (c:ll≠lb/\ll≠ld/\ld≠lb/\lu≠ll/\lu≠ld) (Y:∀j (i:Int),Fr (fun m=>m=ll\/m=ld) H j->CT j lb ll ld lu u (items++[.tup [.str y,.int n,.tup (S.map Am),.tup (up.map Am)]]) (ks++[.str y])->Φ (.int i) j) :
  Ap X 5 "Bounds.add" [.loc lb,.str y,.int n,.tup (S.map Am),.tup (up.map Am)] H Φ:=by
 obtain⟨h,J,w⟩:=x.ds;refine Ao F 49 rfl (Al fun k d=>?_);refine objA_i x.at_ ?_;w_dflts J;refine⟨.str _ _,?_⟩;have s:(BI h (.str y)).isSome=false:=by
  refine EY ((BI h (.str y)).isSome) (fun q=>?_) fun q=>?_
  .rfl
  .exact absurd (w▸Dv.mp q) R
 rw[s];refine d _ _ (Al fun k d=>?_);w_left;generalize Z:decide ((n:Int)<1)=bb;obtain rfl:bb=false:=Z.symm.trans (decide_eq_false (Int.not_lt_of_ge (Int.ofNat_le.mpr Q)));refine d _ _ (Al fun k d=>?_);have go:∀{j},Fr (fun K=>False) H j->CT j lb ll ld lu u items ks:=fun f=>⟨f.old x.at_ id,f.old x.ls id,by obtain⟨h,a,b⟩:=x.ds;exact⟨h,f.old a id,b⟩,⟨by obtain⟨z,A,a,b⟩:=x.un.at_;exact⟨z,A,f.old a id,b⟩⟩⟩;refine tg_i (x.tg (m:= "want_set") (p:= "Bounds.want_set")) fun K=>?_;refine An (by decide) (FU F x G T o fun H1 t=>(d _ _ (Al fun k d=>?_)));have L:=go t;refine tg_i (L.tg (m:= "want_set") (p:= "Bounds.want_set")) fun K=>?_;refine An (by decide) (FU F L G I o fun H2 B=>(d _ _ (Al fun k d=>?_)));refine(An (by decide) (KJ F U I.le fun H3 C=>d _ _ (Al fun k d=>?_)));have e:=(t.trans B).trans C;have l:=go e;refine objA_i l.at_ ?_;refine objA_i l.ls ?_;refine⟨by omega,?_⟩;refine objA_i l.at_ ?_;have M:=e.old J id;w_dflts M;have kl:h.length<=60:=by have:=congrArg List.length w;rw[AG]at this;omega
 refine⟨.str _ _,AH kl (by decide),d _ _ (Al fun k d=>?_)⟩;have N:=Aq (n:=ld) (o':=.dict (BK h (.str y) (.int items.length))) l.at_ (Ne.symm c.2.2.1);have D:=Aq (n:=ld) (o':=.dict (BK h (.str y) (.int items.length))) l.ls c.2.1;w_dflts N;refine objA_i D ?_;refine Bf D (AH v (by decide)) (d _ _ ?_);generalize g:(H3.set ld (.dict (BK h (.str y) (.int items.length)))).set ll (.list (items++[.tup [.str y,.int n,.tup (S.map Am),.tup (up.map Am)]]))=E;have O:E[lb]? =some (.inst "Bounds" [(ofString "universe",.loc lu),(ofString "bounds",.loc ll),(ofString "numbers",.loc ld)]):=g▸Aq N (Ne.symm c.1);have P:E[ll]? =some (.list (items++[.tup [.str y,.int n,.tup (S.map Am),.tup (up.map Am)]])):=g▸BE D;w_dflts O;w_dflts P;refine⟨by rw[AI,AX];omega,?_⟩;refine Y E _ ?_ ⟨O,P,⟨BK h (.str y) (.int items.length),?_,?_⟩,?_⟩
 .rw[<- g];exact(e.pure.set (.inr (.inr rfl)) _).set (.inr (.inl rfl)) _
 .rw[<- g];exact Aq (BE M) (Ne.symm c.2.1)
 .rw[D3 (fun q=>by rw[<- Dv,s]at q;cases q),w]
 .obtain⟨z,A,a,b⟩:=l.un.at_;exact⟨z,A,by rw[<- g];exact Aq (Aq a c.2.2.2.2) c.2.2.2.1,b⟩
end
theorem UJ{C:BS}(h:C[n]? =some none):BL C p ((n:Int)+2)=p (n+2):=by
 have b:=(AE h).1;have e:C=C.take n++none::C.drop (n+1):=by
  rw[<- (AE h).2,<- drop_eq_getElem_cons b,List.take_append_drop]
 have a:(C.take n).length=n:=(length_take ..).trans (Nat.min_eq_left (AR b));rw[Av (⟨Int.ne_of_gt (Int.add_pos_of_nonneg_of_pos (Ai _) (by decide)),by rw[AI,a];simp;omega⟩:BV (C.take n++[none]) ((n:Int)+2)) ⟨C.drop (n+1),(append_assoc ..).trans e.symm⟩,show((n:Int)+2)=((C.take n).length:Int)+2 by rw[a],OK,ev,Er,a]
def Mw(r:Int)(p:List Int×Int):V:=.tup [.int r,Am p.1,.int p.2]
def dub(lo up:List (List Int)):List (List Int):=up.filter fun r=> !lo.contains r
structure FG(lo up:List (List Int))(n:Nat)(m A:Mx):Prop where
 keys:m.map (·.1)=up
 gs:∀p∈m,(p.1∈lo/\p.2=1)\/(p.1∉lo/\p∈A)
 ask:A.map (·.1)=dub lo up
 nums:A.map (·.2)=(range' n A.length).map fun k:Nat=>(k:Int)+2
section
variable {W:Nat->Prop} {H:Aj} {L:CL} {C:BS} {B:Nat} {Φ:V->Aj->Prop}
theorem EX(F:BN X){t la:Nat}{fs:List (Str×V)}{nm:V}{r ar:Int}{lo up:List (List Int)}{a:List V}(x:BC W H L C (B+up.length))(ht:H[t]? =some (.inst "Translator" fs))(wt:¬W t)
  (h1:fs.lookup (ofString "circuit")=some (.loc L.c)) (h2:fs.lookup (ofString "asked")=some (.loc la)) (O:H[la]? =some (.list a)) (a0:¬W la) (nd:up.Nodup) (hl:lo.length<=60) (A0:up.length<=60) (l0:a.length<=60) (hn:C.length+(dub lo up).length<=L.n)
  (φ:∀d g m A j,Fr (fun k=>W k\/k=la) H d->BC W d L j B->j=C++replicate A.length none->FG lo up C.length m A->d[g]? =some (.dict (CH m))->H.length<=g->d[la]? =some (.list (a++A.map (Mw r)))->Φ (.tup [.int ar,.loc g]) d) :
  Ap X 5 "Translator.matrix_of" [.loc t,.int r,.tup [nm,.int ar,.tup (lo.map Am),.tup (up.map Am)]] H Φ:=by
 refine Ao F 22 rfl (Al fun kn m0=>(m0 _ _ (Al fun kn n0=>?_)));w_left;generalize P:H++[HO.dict (BG [] [])]=H1;have o0:Fr (fun zz=>False) H H1:=by rw[<- P];exact Fr.new _
 have p0:H1[H.length]? =some (.dict (CH [])):=by rw[<- P];exact Ak
 refine Bm ?_;refine BF (xs:=lo) (f:=Am) (fun(b post:List (List Int)) Q d=>EU (d=H1) (EC fun(kv:List (V×V))=>DD (Q=.dict kv) (∀z,z∈kv.map (·.1)↔z∈b.map Am) (kv.length<=b.length))) ?_ ?_ _ _ ⟨rfl,[],rfl,fun zz=>Iff.rfl,AM _⟩
 .rintro b q post Q d k' e1 ⟨rfl,kv,rfl,hm,R⟩ hk;have D:b.length<=60:=by have:=BU e1;omega
  refine⟨BH q,AH (AF R D) (by decide),hk _ _ trivial ⟨rfl,_,rfl,fun z=>?_,?_⟩⟩
  .rw[AL,mem_append,<- hm z];by_cases h:Am q∈kv.map (·.1)
   .rw[Gx h];exact⟨.inl,fun w=>w.elim id fun w=>by rewrite[AJ w];exact h⟩
   .rw[D3 h,mem_append];exact Iff.rfl
  .rw[AI];exact AF Ei (AP R 1)
 .rintro Q d ⟨rfl,i,rfl,hm,R⟩;have E:Fr (fun zz=>False) H (d++[HO.dict i]):=o0.app _;have b0:(d++[HO.dict i])[d.length]? =some (.dict i):=Ak;have c0:=Au p0 [HO.dict i];have l1:d.length=H.length+1:=by rw[<- P,AI];rfl
  have S:∀q,(BI i (Am q)).isSome=lo.contains q:=fun q=>by
   rw[Bool.eq_iff_iff,Dv,hm,contains_iff_mem];exact⟨fun h=>by obtain⟨z,h1,h2⟩:=AS h;rw[<- CV h2];exact h1,fun h=>mem_map_of_mem h⟩
  have hW:=x.wl;have D0:=Ax x.cl;have d0:=Ax O;have R0:=Ax ht;refine(n0 _ _ (Al fun kn q0=>?_));generalize S0:d++[HO.dict i]=H2 at E b0 c0;refine Bm ?_;refine Bp (xs:=up) (f:=Am) (fun(b post:List (List Int)) ρ M=>Vn fun(m A:Mx) (j:BS) (o:Option V)=>ZQ (ρ=Y4 (some (.loc t)) (some (.int r)) (some (.tup [nm,.int ar,.tup (lo.map Am),.tup (up.map Am)])) (some nm) (some (.int ar)) (some (.tup (lo.map Am))) (some (.tup (up.map Am))) o (some (.loc H.length)) (some (.loc d.length))) (Fr (fun k=>W k\/k=la) H M) (BC W M L j (B+post.length)) (j=C++replicate A.length none) (FG lo b C.length m A) (M[H.length]? =some (.dict (CH m))) (M[d.length]? =some (.dict i)) (M[la]? =some (.list (a++A.map (Mw r))))) ?_ ?_ _ _
   ⟨[],[],C,none,rfl,E.pure,x.fr E,by simp,⟨rfl,(fun zz h=>by cases h),rfl,rfl⟩,c0,b0,by rw[map_nil,Ah];exact E.old O id⟩
  .rintro b q post ρ M k' e1 ⟨m,A,j,o,rfl,v,U,eC,l,y,G,I⟩ hk;have D:b.length<=60:=by have:=BU e1;omega
   have hq:q∉m.map (·.1):=by
    rw[l.keys];intro h;rw[e1]at nd;exact(List.nodup_append.mp nd).2.2 _ h q (.head _) rfl
   have f0:(CH m).length<=60:=by rw[AG];have:=congrArg List.length l.keys;rw[AG]at this;exact AF (AT this) D
   have r0:A.length=(dub lo b).length:=by have:=congrArg List.length l.ask;rwa[AG]at this
   have t0:A.length<=60:=by rw[r0];exact AF (Af _ _) D
   have u0:t≠la:=fun e=>by rw[e,O]at ht;cases ht
   have g0:=v.old ht fun z=>z.elim wt u0;have N:∀g:Int,BK (CH m) (Am q) (.int g)=CH (m++[(q,g)]):=fun g=>by
    rw[FQ (fun p s e=>by obtain⟨z,h1,rfl⟩:=AS s;exact hq (CV e▸mem_map_of_mem h1)),LF];rfl
   have Y:=S q;have v0:up=(b++[q])++post:=by rw[e1];simp
   refine(Al fun kn h0=>?_);w_dflts G;refine⟨BH q,?_⟩;refine Ce (lo.contains q) (fun J=>?_) fun J=>?_
   .rw[J]at Y;rw[Y];w_dflts y;refine⟨BH q,AH f0 (by decide),h0 _ _ ?_⟩;rw[N];have i0:=Aq (n:=H.length) (o':=.dict (CH (m++[(q,1)]))) G (Nat.ne_of_gt (AT (Eq.symm l1)));w_dflts i0;refine⟨BH q,?_⟩;rw[Y];refine hk _ _ trivial ⟨m++[(q,1)],A,j,some (Am q),rfl,v.set (.inl (AM _)) _,(U.set x.new (by omega)).le (by rw[AQ];exact le_succ _),eC,⟨?_,?_,?_,l.nums⟩,BE y,i0,Aq I (by omega)⟩
    .rw[AL,l.keys];rfl
    .intro p s;rcases AY s with s |s
     .exact l.gs p s
     .rw[AJ s];exact .inl ⟨List.contains_iff_mem.mp J,rfl⟩
    .rw[l.ask];unfold dub;rw[filter_append,filter_cons,J];exact(Ah _).symm
   .rw[J]at Y;rw[Y];have w0:j.length=C.length+A.length:=by rw[eC,AI,List.length_replicate]
    have a1:(dub lo up).length=(dub lo b).length+1+(dub lo post).length:=by
     unfold dub;rw[v0,filter_append,filter_append,AI,AI,show([q].filter fun r=> !lo.contains r)=[q]from by rw[filter_cons,J];rfl];rfl
    rw[AQ,<- Nat.add_assoc]at U;refine EL rfl g0 rfl h1 U.tg ?_;refine An (by decide) (H0 F U (by omega) fun H4 Z=>?_);have j0:=Z.fr.old y x.new;have x0:¬W d.length:=fun w=>by have:=hW _ w;omega
    w_dflts j0;refine⟨BH q,AH f0 (by decide),h0 _ _ ?_⟩;generalize u:H4.set H.length (.dict (BK (CH m) (Am q) (.int ((j.length:Int)+2))))=H5;have T:H5[H.length]? =some (.dict (BK (CH m) (Am q) (.int ((j.length:Int)+2)))):=by rw[<- u];exact BE j0
    have k0:H5[d.length]? =some (.dict i):=by rw[<- u];exact Aq (Z.fr.old G x0) (Nat.ne_of_gt (AT (Eq.symm l1)))
    have K:H5[la]? =some (.list (a++A.map (Mw r))):=by rw[<- u];exact Aq (Z.fr.old I a0) (by omega)
    have y0:H5[t]? =some (.inst "Translator" fs):=by rw[<- u];exact Aq (Z.fr.old g0 wt) (by omega)
    have x5:BC W H5 L (j++[none]) (B+post.length):=by rw[<- u];exact Z.at_.set x.new (by omega)
    have z0:Fr (fun k=>W k\/k=la) H H5:=by rw[<- u];exact(v.trans (Z.fr.weak fun n=>.inl)).set (.inl (AM _)) _
    w_dflts k0;refine⟨BH q,?_⟩;rw[Y];refine objA_i y0 ?_;refine KQ h2 ?_;refine objA_i K ?_;w_dflts T;refine⟨_,BH q,B0,?_⟩;refine Bf K (by rw[AI,AG];exact AH (Ad l0 t0) (by decide)) ?_;rw[N]at T;refine hk _ _ trivial ⟨m++[(q,(j.length:Int)+2)],A++[(q,(j.length:Int)+2)],j++[none],some (Am q),rfl,z0.set (.inr (.inr rfl)) _,x5.set a0 (fun e=>by have:=x5.cl;rw[<- e,K]at this;cases this),?_,⟨?_,?_,?_,?_⟩,Aq T (by omega),Aq k0 (Nat.ne_of_gt (AH (AR d0) (AT (Eq.symm l1)))),?_⟩
    .rw[eC,AI,AX,List.replicate_succ',append_assoc]
    .rw[AL,l.keys];rfl
    .intro p s;rcases AY s with s |s
     .exact(l.gs p s).imp id fun h=>⟨h.1,mem_append_left _ h.2⟩
     .rw[AJ s];exact .inr ⟨(fun h=>by rw[List.contains_iff_mem.mpr h]at J;cases J),AZ _ (.head _)⟩
    .rw[AL,l.ask];unfold dub;rw[filter_append,filter_cons,J];rfl
    .rw[AL,l.nums,AI,AX,List.range'_concat,AL,w0];simp
    .rw[AL,<- append_assoc];exact BE K
  .rintro ρ M ⟨m,A,j,o,rfl,v,U,eC,l,y,G,I⟩;exact q0 _ _ (φ M H.length m A j v U eC l y (AM _) I)
end
theorem GF(a:0<=i)(h:i<n):i.toNat<n/\((i.toNat:Nat):Int)=i:=
 ⟨Int.ofNat_lt.mp (by rw[Int.toNat_of_nonneg a];exact h),Int.toNat_of_nonneg a⟩
theorem FG.mat{up:List (List Int)}{m A:Mx}{C:BS}(x:FG S up n m A)(nd:up.Nodup)(h:n+A.length<=C.length):Uo C m:=⟨by rw[x.keys];exact nd,fun p a=>by
 rcases x.gs p a with⟨_,e⟩ |⟨_,b⟩
 .rw[e];exact .one
 .have:p.2∈A.map (·.2):=mem_map_of_mem b;rw[x.nums]at this;obtain⟨k,c,e⟩:=AS this;have:=mem_range'_1.mp c;rw[<- e];exact⟨(Int.ne_of_gt (Int.ofNat_lt.mpr (succ_pos (k+1))):((k+2:Nat):Int)≠((0:Nat):Int)),(add_lt_add_right (AK this.2 h) 2:k+2<C.length+2)⟩⟩
theorem No(h:Ct n 1 S):Un n S:=fun r b=>by
 obtain⟨a,t,e,f⟩:=Cr (h.len r b);rw[List.eq_nil_of_length_eq_zero f]at e;rw[e]at b⊢;obtain⟨c,d⟩:=h.atoms _ b a (.head _);exact⟨a.toNat,(GF c d).1,by rw[(GF c d).2]⟩
theorem Ly(h:Ct n 2 S):∀r∈S,Dd fun(a b:Nat)=>DD (a<n) (b<n) (r=[(a:Int),(b:Int)]):=fun r c=>by
 obtain⟨a,t,e,l⟩:=Cr (h.len r c);obtain⟨b,m,f,d⟩:=Cr l;rw[List.eq_nil_of_length_eq_zero d]at f;rw[f]at e;rw[e]at c⊢;obtain⟨g,i⟩:=h.atoms _ c a (.head _);obtain⟨j,k⟩:=h.atoms _ c b (.tail _ (.head _));exact⟨a.toNat,b.toNat,(GF g i).1,(GF j k).1,by rw[(GF g i).2,(GF j k).2]⟩
section
variable {W:Nat->Prop} {H:Aj} {L:CL} {C:BS} {B:Nat} {Φ:V->Aj->Prop}
theorem Mm(F:BN X){a:V}(h:H[n]? =some (.inst "Matrices" []))(b:Φ .none (H.set n (.inst "Matrices" [(ofString "circuit",v),(ofString "n",a)]))):Ap X 1 "PlainMatrices.__init__" [.loc n,v,a] H Φ:=by
 refine Ao F 10 rfl (Al fun d c=>?_);w_dflts h;refine c _ _ ?_;refine objA_i (BE (o':=.inst "Matrices" (B3 [] (ofString "circuit") v)) h) ?_;w_left;rw[List.set_set];exact b
theorem MX(F:BN X)(h:H[n]? =some (.inst "FreeNames" []))(a:Φ .none ((H++[HO.dict []]).set n (.inst "FreeNames" [(ofString "known",.loc H.length)]))):Ap X 1 "FreeNames.__init__" [.loc n] H Φ:=by
 refine Ao F 18 rfl ?_;refine objA_i (Au h [HO.dict (BG [] [])]) ?_;exact a
theorem Lu(F:BN X)(b:H[n]? =some (.inst "Translator" o))(c:o.lookup (ofString "asked")=some (.loc k))(a:H[k]? =some (.list l))(d:l.length<=60)(e:Φ (.loc H.length) (H++[.list l])):Ap X 1 "Translator.inputs" [.loc n] H Φ:=by
 refine Ao F 23 rfl ?_;refine objA_i b (KQ c (objA_i a ?_));exact⟨AF d (by decide),e⟩
structure XN(E:T0)(H:Aj)(C C':BS)(lo0 up0 lo1 up1:List (List Int))(A0 A1:Mx):Prop where
 m0:FG lo0 up0 C.length E.m0 A0
 m1:FG lo1 up1 (C.length+A0.length) E.m1 A1
 c:C'=C++replicate (A0.length+A1.length) none
 ask:H[E.ask]? =some (.list (A0.map (Mw 0)++A1.map (Mw 1)))
 wask:¬E.W1 E.ask
 wd:∀ρ,E.wd ρ=⟨fun a=>ms C' ρ E.m0 [(a:Int)],fun a b=>ms C' ρ E.m1 [(a:Int),(b:Int)]⟩
theorem SG:(B3 o y v).length<=o.length+1:=by
 induction o with
 |nil=>exact AM _
 |cons p r a=>
  rw[SD];by_cases h:(p.1==y)=true
  .rw[if_pos h];exact le_succ _
  .rw[if_neg h];exact Ab a
theorem EV(h:H[n]? =some (.inst f o))(c:o.length<=k)
  (d:∀b a,B3 o y v=a->a.length<=k+1->b[n]? =some (.inst f a)->(∀{m:Nat}{q:HO},m≠n->H[m]? =some q->b[m]? =some q)->H.length<=b.length->K b) (e:autoParam (Dw f y=true) rf) (g:autoParam (k<100) dc):DH (.loc n) y v H K:=
 Hg h (d _ _ rfl (AF SG (Ab c)) (BE h) (fun z q=>Aq q z) (by rw[length_set];exact AM _)) (Bool.and_eq_true_iff.mpr ⟨e,Nat.blt_eq.mpr (AH c g)⟩)
theorem HB{b:HO}(h:H[n]? =some (.inst f o))(g:o.length<=k)
  (i:∀c a,B3 o y (.loc H.length)=a->a.length<=k+1->c[n]? =some (.inst f a)->(∀{m:Nat}{q:HO},m≠n->H[m]? =some q->c[m]? =some q)->H.length<c.length->c[H.length]? =some b->K c) (j:autoParam (Dw f y=true) rf) (l:autoParam (k<100) dc):DH (.loc n) y (.loc H.length) (H++[b]) K:=
 EV (Au h _) g (fun c a e p r d s=>i c a e p r (fun z q=>d z (Au q _)) (AK (by rw[AI];exact lt_succ_self _) s) (d (Nat.ne_of_gt (Ax h)) Ak)) j l
theorem Ho{o:HO}{H:Aj}:H.length<(H++[o]).length:=by rw[AI];exact lt_succ_self _
theorem YF(F:BN X){n:V}(b:∀a,H.length<a.length->a[H.length]? =some (.inst "Matrices" [(ofString "circuit",v),(ofString "n",n)])->(∀ {m:Nat} {q:HO},H[m]? =some q->a[m]? =some q)->Φ .none a):Ap X 1 "PlainMatrices.__init__" [.loc H.length,v,n] (H++[.inst "Matrices" []]) Φ:=
 Mm F Ak (b _ (by rw[length_set];exact Ho) (BE Ak) fun q=>Aq (Au q _) (Nat.ne_of_lt (Ax q)))
theorem Wt(F:BN X)(b:∀a,H.length<a.length->a[H.length]? =some (.inst "Binary" [(ofString "circuit",v)])->(∀ {m:Nat} {q:HO},H[m]? =some q->a[m]? =some q)->Φ .none a):Ap X 1 "Binary.__init__" [.loc H.length,v] (H++[.inst "Binary" []]) Φ:=
 LB F Ak (b _ (by rw[length_set];exact Ho) (BE Ak) fun q=>Aq (Au q _) (Nat.ne_of_lt (Ax q)))
theorem X5(F:BN X)(b:∀a k,H.length<k->k<a.length->a[H.length]? =some (.inst "FreeNames" [(ofString "known",.loc k)])->a[k]? =some (.dict [])->(∀ {m:Nat} {q:HO},H[m]? =some q->a[m]? =some q)->Φ .none a):Ap X 1 "FreeNames.__init__" [.loc H.length] (H++[.inst "FreeNames" []]) Φ:=
 MX F Ak (b _ _ Ho (by rw[length_set];exact Ho) (BE (Au Ak _)) (Aq Ak (Nat.ne_of_gt Ho)) fun q=>Aq (Au (Au q _) _) (Nat.ne_of_lt (Ax q)))
theorem Ma(F:BN X){ll ld lu u:Nat}{n1:V}{j lo1 up1:List (List Int)}(x:BC W H L C (B+up1.length+j.length))(ht:H[n]? =some (.inst "Translator" []))(U:¬W n)
  (y:CT H k ll ld lu u [.tup [v,.int 1,.tup (S.map Am),.tup (j.map Am)],.tup [n1,.int 2,.tup (lo1.map Am),.tup (up1.map Am)]] l) (hw:¬W k/\¬W ll/\¬W ld/\¬W lu) (hu:u<=3) (r0:Ct u 1 j) (r1:Ct u 2 up1) (i0:j.Nodup) (j0:up1.Nodup) (k1:S.length<=60) (q1:lo1.length<=60)
  (hn:C.length+(dub S j).length+(dub lo1 up1).length<=L.n) (hc:¬L.c=n)
  (φ:∀(E:T0) Y C' Z A1,E.W=W->E.L=L->E.t=n->E.u=u->E.pin=[]->Fr (fun m=>W m\/m=n) H Y->BZ E Y C' B->XN E Y C C' S j lo1 up1 Z A1->Φ .none Y) :
  Ap X 9 "Translator.__init__" [.loc n,.loc L.c,.loc k] H Φ:=by
 have k0:∀{m:Nat}{o:HO},H[m]? =some o->(∀c fs,o≠.inst c fs)->m≠n:=fun h q e=>by rw[e,ht]at h;cases h;exact q _ _ rfl
 have s1:k≠n:=fun e=>by have:=y.at_;rw[e,ht]at this;exact absurd (HO.inst.inj (Option.some.inj this)).1 (by decide)
 have x1:lu≠n:=fun e=>by obtain⟨ns,nu,a,b⟩:=y.un.at_;rw[e,ht]at a;exact absurd (HO.inst.inj (Option.some.inj a)).1 (by decide)
 have a0:∀{Y},(∀{m:Nat}{q:HO},m≠n->H[m]? =some q->Y[m]? =some q)->CT Y k ll ld lu u [.tup [v,.int 1,.tup (S.map Am),.tup (j.map Am)],.tup [n1,.int 2,.tup (lo1.map Am),.tup (up1.map Am)]] l:=fun f=>
  ⟨f s1 y.at_,f (k0 y.ls fun r r e=>by cases e) y.ls,by obtain⟨kv,a,b⟩:=y.ds;exact⟨kv,f (k0 a fun r r e=>by cases e) a,b⟩,⟨by obtain⟨ns,nu,a,b⟩:=y.un.at_;exact⟨ns,nu,f x1 a,b⟩⟩⟩
 refine Ao F 21 rfl (Al fun kn A=>?_);refine EV ht (AM 0) fun H1 f1 P n1 t1 o1 l1=>A _ _ (Al fun kn A=>?_);have y1:=a0 o1;refine objA_i y1.at_ ?_;obtain⟨ns,nu,u1,u2⟩:=y1.un.at_;refine tg_i (CC (x:=ofString "size") (p:= "Universe.size") u1 rfl rfl rfl) fun r=>?_;refine An (by decide) (HJ F y1.un hu ?_);w_left;refine⟨by decide,rfl,(YF F fun G1 K g1 p1=>⟨rfl,?_⟩).deep (by decide)⟩;refine EV (p1 t1) n1 fun H2 f2 Q n2 t2 o2 l2=>A _ _ (Al fun kn A=>?_);have c1:n<H1.length:=AK (Ax ht) l1;have a1:H1.length<H2.length:=AK K l2;refine⟨by decide,rfl,(Wt F fun G2 w2 g2 p2=>⟨rfl,?_⟩).deep (by decide)⟩;refine EV (p2 t2) n2 fun H3 f3 e3 n3 t3 o3 l3=>A _ _ (Al fun kn A=>?_);have a2:H2.length<H3.length:=AK w2 l3;refine⟨by decide,rfl,(X5 F fun G3 k3 w3 z1 g3 l0 p3=>⟨rfl,?_⟩).deep (by decide)⟩;refine EV (p3 t3) n3 fun H4 f4 e4 n4 t4 o4 l4=>A _ _ (Al fun kn A=>?_);have a3:k3<H4.length:=AK z1 l4;refine HB t4 n4 fun H5 f5 e5 n5 t5 o5 w4 g4=>A _ _ (Al fun kn A=>?_);refine HB t5 n5 fun H6 f6 e6 n6 t6 o6 a6 g5=>A _ _ ?_;have c2:=AV c1 a1;have c3:=AV c2 a2;have ck:=AV c3 w3;have c4:=AV ck a3;have c5:=AV c4 w4;have b2:=AF l1 (AR a1);have b3:=AF b2 (AR a2);have bk:=AF b3 (AR w3);have b4:=AF bk (AR a3);have b5:=AF b4 (AR w4);have n0:=AF b5 (AR a6);have dk:=AV a3 w4;have d3:=AV w3 dk;have d2:=AV a2 d3;have d1:=AV a1 d2;have m6:=o6 (by omega) (o5 (by omega) (o4 (by omega) (p3 (o3 (by omega) (p2 (o2 (Nat.ne_of_gt c1) g1))))));have b6:=o6 (by omega) (o5 (by omega) (o4 (by omega) (p3 (o3 (by omega) g2))));have q6:=o6 (by omega) (o5 (by omega) (o4 (by omega) g3));have k6:=o6 (by omega) (o5 (by omega) (o4 (by omega) l0));have d6:=o6 (by omega) g4;have D:∀{m:Nat}{q:HO},m≠n->H[m]? =some q->H6[m]? =some q:=fun z q=>o6 z (o5 z (o4 z (p3 (o3 z (p2 (o2 z (p1 (o1 z q))))))));clear o1 p1 o2 p2 o3 p3 o4 o5 o6 g1 g2 g3 l0 g4 t1 t2 t3 t4 t5 n1 n2 n3 n4 n5 y1 u1 u2;have o0:f6.lookup (ofString "circuit")=some (.loc L.c):=by rw[<- e6,<- e5,<- e4,<- e3,<- Q,<- P];rfl
 have p0:f6.lookup (ofString "asked")=some (.loc H5.length):=by rw[<- e6,<- e5,<- e4,<- e3,<- Q,<- P];rfl
 have q0:f6.lookup (ofString "matrix_of")=none:=by rw[<- e6,<- e5,<- e4,<- e3,<- Q,<- P];rfl
 have y6:=a0 D;refine tg_i (y6.tg (m:= "size") (p:= "Bounds.size")) fun r=>?_;w_left;refine An (by decide) (Me F y6 (by simp) ⟨by show 2<2 ^ 30;decide,?_⟩);generalize t0:H6++[HO.range 0 _ 1]=H7;have i:Fr (fun r=>False) H6 H7:=by rw[<- t0];exact Fr.new _
 refine Df (by rw[<- t0];exact Ak) (by decide) (by show 2<2 ^ 30;decide) (.inl rfl) ?_;generalize er:Bc _ _ _=rg;obtain rfl:rg=[.int 0,.int 1]:=er.symm.trans (by show Bc 0 2 1=_;rfl);have b0:Fr (fun m=>m=n) H H7:=(⟨n0,fun q w=>D w q⟩:Fr (fun m=>m=n) H H6).trans i.pure;have t7:=i.old t6 id;have y7:=a0 fun z q=>i.old (D z q) id;have c0:=AK a6 i.len;have z7:H.length<=H7.length:=AF n0 i.len;have d0:∀{d:Nat},H.length<=d->¬W d:=fun h w=>Nat.lt_irrefl _ (AK (x.wl _ w) h);have nb:∀{m:Nat}{o:HO},H[m]? =some o->m≠H5.length:=fun q=>Nat.ne_of_lt (AK (Ax q) b5);refine tg_i (CC (x:=ofString "matrix_of") (p:= "Translator.matrix_of") t7 rfl q0 rfl) fun r=>?_;refine tg_i (y7.tg (m:= "bound") (p:= "Bounds.bound")) fun r=>?_;w_left;refine An (by decide) (GQ F (k:=0) y7 (by decide) rfl ?_);refine An (by decide) (EX F (B:=B+up1.length) (x.keep b0.len fun d o h q=>b0.old q (h.elim (fun w e=>U (e▸w)) fun P Q=>hc (P.symm.trans Q))) t7 U o0 p0 (i.old g5 id) (d0 (by omega)) i0 k1 r0.le (by decide) (by omega) fun H8 g0 m0 Z C8 u0 x8 w0 M C1 x0 D1=>⟨by decide,trivial,?_⟩);have y0:Z.length=(dub S j).length:=by have:=congrArg List.length M.ask;rwa[AG]at this
 have z0:Z.length<=60:=by rw[y0];exact AF (Af _ _) r0.le
 have N:C8.length=C.length+Z.length:=by rw[w0,AI,List.length_replicate]
 have f0:=AK c0 x0;have gz:=AF z7 x0;have o8:∀{m:Nat}{o:HO},¬W m->m≠H5.length->H7[m]? =some o->H8[m]? =some o:=fun R T q=>u0.old q fun z=>z.elim R T;have t8:=o8 U (by omega) t7;have y8:CT H8 k ll ld lu u [.tup [v,.int 1,.tup (S.map Am),.tup (j.map Am)],.tup [n1,.int 2,.tup (lo1.map Am),.tup (up1.map Am)]] l:=
  ⟨o8 hw.1 (nb y.at_) y7.at_,o8 hw.2.1 (nb y.ls) y7.ls,by obtain⟨kv,a,b⟩:=y7.ds;exact⟨kv,o8 hw.2.2.1 (by obtain⟨kv,a,_⟩:=y.ds;exact nb a) a,b⟩,⟨by obtain⟨ns,nu,a,b⟩:=y7.un.at_;exact⟨ns,nu,o8 hw.2.2.2 (by obtain⟨ns,nu,a,_⟩:=y.un.at_;exact nb a) a,b⟩⟩⟩
 refine tg_i (CC (x:=ofString "matrix_of") (p:= "Translator.matrix_of") t8 rfl q0 rfl) fun r=>?_;refine tg_i (y8.tg (m:= "bound") (p:= "Bounds.bound")) fun r=>?_;w_left;refine An (by decide) (GQ F (k:=1) y8 (by decide) rfl ?_);have G:=u0.len;have z8:=AF z7 G;refine An (by decide) (EX F (B:=B) x8 t8 U o0 p0 D1 (d0 (by omega)) j0 q1 r1.le (by rw[nil_append,AG];exact z0) (by rw[N,y0];exact hn) fun H9 g1 m1 A1 C9 h0 x9 D0 O L1 R0 P1=>⟨by show 1<Ar;decide,trivial,?_⟩);have o9:∀{m:Nat}{o:HO},¬W m->m≠H5.length->H8[m]? =some o->H9[m]? =some o:=fun R T q=>h0.old q fun z=>z.elim R T;refine HB (o9 U (by omega) t8) n6 fun HF f7 e7 n7 tF oF w6 rF=>?_;have z2:A1.length=(dub lo1 up1).length:=by have:=congrArg List.length O.ask;rwa[AG]at this
 have S0:C9.length=C.length+Z.length+A1.length:=by rw[D0,AI,List.length_replicate,N]
 have j5:=AK (AK c0 G) R0;have jz:=AF z8 R0;have b1:=AK (AK c0 G) h0.len;have A2:=AF z8 h0.len;have I:∀{m:Nat}{o:HO},¬W m->m≠H5.length->m≠n->H6[m]? =some o->HF[m]? =some o:=fun R T h3 q=>oF h3 (o9 R T (o8 R T (i.old q id)));have g:∀{d:Nat},H.length<=d->¬W d:=d0;have mF:=I (g (by omega)) (by omega) (by omega) m6;have eF:=I (g (by omega)) (by omega) (by omega) d6;have R1:H9.length<=HF.length:=AR w6;have xF:BC W HF L C9 B:=x9.keep R1 fun d o h q=>oF (h.elim (fun w e=>U (e▸w)) fun P Q=>hc (P.symm.trans Q)) q;let E:T0:={ W:=W,L:=L,t:=n,ms:=H1.length,bn:=H2.length,nm:=H3.length,kn:=k3,me:=H4.length,ask:=H5.length,rl:=H9.length,u:=u,v0:=.tup [.int 1,.loc g0],v1:=.tup [.int 2,.loc g1],m0:=m0,m1:=m1,wd:=fun ρ=>⟨fun a=>ms C9 ρ m0 [(a:Int)],fun a b=>ms C9 ρ m1 [(a:Int),(b:Int)]⟩,pin:=[] };have K:∀{d:Nat},H.length<=d->d≠k3->d≠H4.length->¬E.W1 d:=fun R T h3 w=>w.elim (g R) fun w=>w.elim T h3;have i1:=Ax x.cl;have S1:¬E.W1 L.c:=fun w=>w.elim x.wc fun w=>w.elim (fun e:L.c=k3=>Nat.lt_irrefl _ (AK (e▸i1) bk)) fun e:L.c=H4.length=>Nat.lt_irrefl _ (AK (e▸i1) b4);have j1:=AV a2 w3;have j2:=AV a1 j1;have C2:=AV w3 a3;have P2:=AV j1 a3;have i3:=AV j2 a3;have f9:=AV dk b1;have j3:=AV w4 b1;have fg:=AV dk f0;have m3:=AV w4 f0;have fj:=AV dk j5;have q3:=AV w4 j5;have k2:¬E.W1 H1.length:=K (by omega) (by omega) (by omega);have m2:¬E.W1 H2.length:=K (by omega) (by omega) (by omega);have q2:¬E.W1 H3.length:=K (by omega) (by omega) (by omega);have r2:¬E.W1 H9.length:=K (by omega) (by omega) (by omega);have v2:¬W (k3):=g (by omega);have x2:¬W H4.length:=g (by omega);refine φ E HF C9 Z A1 rfl rfl rfl rfl rfl ⟨by omega,fun{d o} q w=>?_⟩ ⟨xF,⟨(I (g (by omega)) (by omega) (by omega) q6),[],(I (g (by omega)) (by omega) (by omega) k6),(fun y2 J h=>by cases h),?_⟩,⟨[],eF,⟨(fun s J h=>by cases h),(fun s J h=>by cases h),(fun J h=>by cases h),fun p hp=>by cases hp⟩,?_⟩,⟨?_,⟨⟨_,mF⟩,k2⟩,⟨(I (g (by omega)) (by omega) (by omega) b6),m2⟩,rF,?_,r2,q2,S1,v2,x2,?_,hu⟩,
  ⟨⟨⟨g0,rfl,(oF (Nat.ne_of_gt (AV c5 f0)) (o9 (g (by omega)) (by omega) C1)),(K (by omega) (by omega) (by omega))⟩,(M.mat i0 (C:=C9) (le_of_add_right_le (AT (Eq.symm S0)))),by rw[M.keys];exact No r0⟩,⟨g1,rfl,(oF (Nat.ne_of_gt (AV c5 j5)) L1),(K (by omega) (by omega) (by omega))⟩,(O.mat j0 (C:=C9) (AF (AP (AT N) _) (AT (Eq.symm S0)))),by show ∀n∈m1.map (·.1),_;rw[O.keys];exact Ly r1,fun r r=>rfl,fun r r r=>rfl⟩⟩
  ⟨M,by rw[<- N];exact O,by rw[D0,w0,append_assoc,List.replicate_append_replicate],(oF (by omega) P1),(K (by omega) (by omega) (by omega)),fun r=>rfl⟩
 .have hn:=Ax q;exact oF (fun e=>w (.inr e)) (o9 (fun z=>w (.inl z)) (Nat.ne_of_lt (AK hn b5)) (o8 (fun z=>w (.inl z)) (Nat.ne_of_lt (AK hn b5)) (b0.old q fun e=>w (.inr e))))
 .show 0+B<=900000;rw[Nat.zero_add];exact AF (le_add_left _ _) (le_of_add_right_le xF.bud)
 .show 0+B<=900000;rw[Nat.zero_add];exact AF (le_add_left _ _) (le_of_add_right_le xF.bud)
 .show HF[n]? =_;rw[tF,<- e7,<- e6,<- e5,<- e4,<- e3,<- Q,<- P];rfl
 .exact fun w=>w.elim U fun w=>w.elim (fun e:n=k3=>Nat.ne_of_lt ck e) fun e:n=H4.length=>Nat.ne_of_lt c4 e
 .show k3≠H4.length;omega
end
def GK(a:Nat)(k:Nat):List (V×V):=[(sS "cells",.loc a),(sS "spot",.int k)]
structure BR(H:Aj)(lt K:Nat):Prop where
 at_:Ks fun(lc:Nat) (cells:List Int) (k:Nat)=>QZ (H[lt]? =some (.dict (GK lc k))) (H[lc]? =some (.list (cells.map V.int))) (k+K<=10000) (cells.length<=60) (lc<lt)
theorem BR.le{i:Nat}(x:BR H n k)(h:i<=k):BR H n i:=⟨by obtain⟨j,g,f,a,b,c,d,e⟩:=x.at_;exact⟨j,g,f,a,b,AF (AO h f) c,d,e⟩⟩
theorem BR.set{K:Nat}(x:BR H k K)(h:k<n):BR (H.set n L) k K:=⟨by obtain⟨i,f,g,a,b,c,d,e⟩:=x.at_;exact⟨i,f,g,Aq a (Nat.ne_of_lt h),Aq b (Nat.ne_of_lt (AV e h)),c,d,e⟩⟩
theorem BR.fr{i:Aj}(x:BR H n k)(f:Fr (fun l=>False) H i):BR i n k:=⟨by obtain⟨j,g,h,a,b,c,d,e⟩:=x.at_;exact⟨j,g,h,f.old a id,f.old b id,c,d,e⟩⟩
section
variable {H:Aj} {Φ:V->Aj->Prop} {lt lk K:Nat}
theorem QY(F:BN X)(h:H[n]? =some (.flist (t.map V.int)))(r:t.length<=900000)(s:∀b a,Fr (fun o=>False) H b->H.length<=a->BR b a 10000->Φ (.loc a) b):Ap X 1 "_law_tape" [.loc n] H Φ:=by
 refine Ao F 53 rfl ?_;w_dflts h;have u:(t.map V.int).length=t.length:=AG ..;refine⟨_,by rw[u];exact AF r (by decide:900000<=Ar),F9 (i:=40),?_⟩;rw[<- map_take];have p:(t.take 40).length<=60:=by rw[length_take];exact AF (Nat.min_le_left _ _) (by decide)
 generalize t.take 40=j at p;generalize e:H++[HO.list (j.map V.int)]=k;have g:Fr (fun o=>False) H k:=by rw[<- e];exact Fr.new _
 have v:k[H.length]? =some (.list (j.map V.int)):=by rw[<- e];exact Ak
 refine Ay (W:=fun o=>False) (.inr ⟨_,rfl,v,id⟩) .refl fun guard l=>?_;refine BF (xs:=j) (f:=V.int) (fun(c post:List Int) d b=>EU (b=k) (d=.list (c.map V.int))) ?_ ?_ _ _ ⟨rfl,rfl⟩
 .rintro c q post d b y w ⟨rfl,rfl⟩ x;have m:c.length<=60:=by have:=BU w;omega
  exact⟨by rw[AG];exact AH m (by decide),x _ _ (l _ .refl) ⟨rfl,by rw[AL];rfl⟩⟩
 .rintro d b ⟨rfl,rfl⟩;refine⟨.str _ _,.str _ _,?_⟩;exact s _ _ (g.trans ((Fr.new _).app _)) (by rw[AI];have:=g.len;exact le_add_right_of_le this) ⟨⟨b.length,j,0,Ak,Au Ak _,by omega,p,by rw[AI];exact lt_succ_self _⟩⟩
theorem Oe:BI (GK n k) (sS "cells")=some (.loc n):=by rfl
theorem P8:BI (GK n k) (sS "spot")=some (.int k):=by rfl
theorem SH:BK (GK n k) (sS "spot") (.int ((k:Int)+1))=GK n (k+1):=by rfl
theorem CB(F:BN X){many:Int}(x:BR H lt (K+1))(l:1<=many)(A:many<=1000)(u:∀n (r:Nat),Fr (fun m=>m=lt) H n->BR n lt K->(r:Int)<many->Φ (.int r) n):Ap X 1 "_law_draw" [.loc lt,.int many] H Φ:=by
 obtain⟨c,a,k,d,t2,v,w,y⟩:=x.at_;have o:c≠lt:=fun e=>by rw[e,d]at t2;cases t2
 refine Ao F 54 rfl (Al fun s f=>?_);w_dflts d;refine⟨_,.str _ _,P8,?_⟩;w_dflts d;refine⟨_,.str _ _,Oe,f _ _ (Al fun s f=>?_)⟩;w_dflts d;refine⟨.str _ _,(by show 2<Ar;decide),?_⟩;rw[show BK (GK c k) (V.str (ofString "spot")) (.int ((k:Int)+1))=GK c (k+1)from SH];refine f _ _ (Al fun s f=>?_);generalize b:H.set lt (.dict (GK c (k+1)))=g;have p:Fr (fun m=>m=lt) H g:=by rw[<- b];exact(Fr.refl (W:=fun m=>m=lt)).set (.inr rfl) _
 have h:g[c]? =some (.list (a.map V.int)):=by rw[<- b];exact Aq t2 o
 have j:(a.map V.int).length=a.length:=AG ..;have ret:∀i:Int,Φ (.int (i % many)) g:=fun i=>by
  have B:=Int.emod_nonneg i (Int.ne_of_gt l:many≠0);have z:=Int.emod_lt_of_pos i (l:0<many);have:=u g (i % many).toNat p ⟨⟨c,a,k+1,by rw[<- b];exact BE d,h,XU v,w,y⟩⟩ (by rw[Int.toNat_of_nonneg (Int.emod_nonneg _ (Int.ne_of_gt l))];exact z);rwa[show(((i % many).toNat:Nat):Int)=i % many by omega]at this
 w_dflts h;refine⟨by rw[j];omega,?_⟩;w_left;refine Ce (decide ((k:Int)<((a.map V.int).length:Int))) (fun t=>?_) fun t=>?_
 .have q:k<a.length:=by have:=of_decide_eq_true t;rw[j]at this;omega
  w_dflts h;refine⟨_,_,rfl,by omega,by omega,(by rw[show((k:Int)).toNat=k by omega];exact R7 q),?_⟩;exact⟨by omega,ret _⟩
 .refine f _ _ ⟨by decide,by omega,by omega,by omega,by decide,by omega,objA_i h ?_⟩;exact⟨by rw[j];omega,by decide,by rw[j];omega,by decide,by omega,ret _⟩
end
def Gu(X:Cx)(f d c h:Nat):Prop:=∀(H:Aj)(e:V->Aj->Prop)(lt lk K:Nat)(a:List Bool),BR H lt (K+c)->H[lk]? =some (.list (a.map Bl))->a.length<=10 ->
 (∀b s,Fr (fun m=>m=lt) H b->BR b lt K->(∀x,Bx s x=true->x∈a)->hS s<=h->e (BO s) b)->Ap X d "_law_set" [.loc lt,.loc lk,.int f] H e
section
variable {H:Aj} {Φ:V->Aj->Prop} {lt lk K:Nat}
theorem Jh(x:BR H lt K)(h:H[lk]? =some (.list (T.map Bl))):lk≠lt:=fun e=>by
 obtain⟨c,a,k,b,_⟩:=x.at_;rw[e,b]at h;cases h
theorem Tk:Pd (n+1) (.tup (T.map Bl)):=.tup fun v a=>by
 obtain⟨c,_,rfl⟩:=AS a;exact .str _ _
theorem Kn(F:BN X){d c h:Nat}(hdp:n<=1)(hrec:n=1->Gu X 0 d c h)(hd:1<=d):Gu X n (d+2) (c*2+2) (h+1):=fun H Φ lt lk K bs x hlk hbl φ=>by
 have hne:=Jh x hlk;refine Ao F 56 rfl (Al fun kn hk=>?_);have draw:∀(zqnq:Int)(Ψ:V->Aj->Prop),1<=zqnq->zqnq<=1000->(∀H' (r:Nat),Fr (fun m=>m=lt) H H'->BR H' lt (K+c*2+1)->(r:Int)<zqnq->Ψ (.int r) H')->Ap X d "_law_draw" [.loc lt,.int zqnq] H Ψ:=fun zqnq Ψ h1 h2 ψ=>(CB F (K:=K+c*2+1) (x.le (by omega)) h1 h2 ψ).deep hd;have rest:∀(H1:Aj)(way:Nat),Fr (fun m=>m=lt) H H1->BR H1 lt (K+c*2+1)->(5<=way->n=1)->way<7->FF X (d+1) ((Bg (Bt 56)).drop 1) (Cn (Bt 56)) (Vp (some (.loc lt)) (some (.loc lk)) (some (.int n)) (some (.int way)) none none) H1 (fun zz H'=>Φ .none H') Φ:=fun H1 way fr1 x1 hw0 hw7=>by
  have hlk1:=fr1.old hlk hne;by_cases z0:way=0
  .subst z0;exact φ H1 .rel fr1 (x1.le (by omega)) (fun x h=>by cases h) (zero_le _)
  by_cases z5:5<=way
  .have hd1:=hw0 z5;subst hd1;have h2:way=5\/way=6:=by omega
   have go:∀op:String,(op= "union" /\way=5)\/(op= "minus" /\way=6)->FF X (d+1) ((Bg (Bt 56)).drop 1) (Cn (Bt 56)) (Vp (some (.loc lt)) (some (.loc lk)) (some (.int ((1:Nat):Int))) (some (.int way)) none none) H1 (fun zz H'=>Φ .none H') Φ:=fun op hop=>by
    have fin:∀(H2:Aj)(a:Sn),Fr (fun m=>m=lt) H H2->BR H2 lt (K+c)->(∀x,Bx a x=true->x∈bs)->hS a<=h->Ap X d "_law_set" [.loc lt,.loc lk,.int ((0:Nat):Int)] H2 fun v H'=>Φ (.tup [sS op,BO a,v]) H':=fun H2 a fr2 x2 ha1 ha2=>
     hrec rfl H2 _ lt lk K bs x2 (fr2.old hlk hne) hbl fun H3 b fr3 x3 hb1 hb2=>by
      rcases hop with⟨rfl,_⟩ |⟨rfl,_⟩
      .exact φ H3 (.uni a b) (fr2.trans fr3) x3 (fun x h=>by rw[Hz,or_eq_true]at h;exact h.elim (ha1 x) (hb1 x)) (by rw[Tv];omega)
      .exact φ H3 (.min a b) (fr2.trans fr3) x3 (fun x h=>by rw[GL,or_eq_true]at h;exact h.elim (ha1 x) (hb1 x)) (by rw[RA];omega)
    rcases hop with⟨rfl,rfl⟩ |⟨rfl,rfl⟩
    all_goals
     refine Al fun kn hk=>hk _ _ (Al fun kn hk=>?_);refine Al fun kn hk=>(An (k:=d) (by omega) (hrec rfl H1 _ lt lk (K+c) bs (x1.le (le_succ_of_le (AT (by rw[mul_two,Nat.add_assoc])))) hlk1 hbl fun H2 a fr2 x2 ha1 ha2=>(hk _ _ ?_)));refine objA_i (Ak (H:=H2) (o:=.list [V.str (ofString "union"),V.str (ofString "minus")])) ?_;refine⟨_,_,rfl,by decide,by decide,rfl,An (k:=d) (by omega) ?_⟩;exact fin _ a ((fr1.trans fr2).app _) (x2.fr (Fr.new _)) ha1 ha2
   exact h2.elim (fun e=>go "union" (.inl ⟨rfl,e⟩)) fun e=>go "minus" (.inr ⟨rfl,e⟩)
  have own:∀Ψ:V->Aj->Prop,(∀(H2:Aj)(s:Sn),Fr (fun m=>m=lt) H H2->BR H2 lt K->(∀x,Bx s x=true->x∈bs)->hS s=0->Ψ (BO s) H2) ->
    ((H1++[HO.list []])[lk]? =some (.list (bs.map Bl)))->(bs=[]->Ψ (BO .rel) (H1++[HO.list []]))/\(bs≠[]->Ap X d "_law_draw" [.loc lt,.int bs.length] (H1++[HO.list []]) fun r H2=>EC fun(k:Nat)=>KT (r=.int k) (k<bs.length) (H2[lk]? =some (.list (bs.map Bl))) (Ψ (.tup [sS "var",Bl (bs.getD k false)]) H2)):=fun Ψ hΨ h1=>by
   have fr2:Fr (fun m=>m=lt) H (H1++[HO.list []]):=fr1.app _;have x2:=x1.fr (Fr.new (W:=fun zz=>False) [HO.list []]);refine⟨fun zz=>hΨ _ .rel fr2 (x2.le (by omega)) (fun x h=>by cases h) rfl,fun hb=>?_⟩;refine(CB F (K:=K) (x2.le (Ab (AU _ _))) (Int.ofNat_le.mpr (List.length_pos_iff.mpr hb)) (by omega) fun H3 r fr3 x3 hr=>⟨r,rfl,Int.ofNat_lt.mp hr,fr3.old h1 hne,?_⟩).deep hd;have hr':r<bs.length:=Int.ofNat_lt.mp hr;refine hΨ H3 (.var (bs.getD r false)) (fr2.trans fr3) x3 (fun y hy=>?_) rfl;have:bs.getD r false=y:=eq_of_beq hy;rw[<- this,getD_eq_getElem?_getD,AD hr'];exact List.getElem_mem hr'
  have hcase:way=1\/way=2\/way=3\/way=4:=by omega
  have fin:∀s:Sn,hS s=0->(∀x,Bx s x=true->x∈bs)->∀H2,Fr (fun m=>m=lt) H H2->BR H2 lt K->Φ (BO s) H2/\Φ (BO (.jl s)) H2/\Φ (BO (.jr s)) H2/\Φ (BO (.min .rel s)) H2:=fun s h0 hs H2 fr2 x2=>
   ⟨φ H2 s fr2 x2 hs (AR (AK (AH (AT h0) (by decide)) (le_add_left _ _))),φ H2 (.jl s) fr2 x2 hs (by rw[XX];omega),φ H2 (.jr s) fr2 x2 hs (by rw[Wy];omega),φ H2 (.min .rel s) fr2 x2 (fun x h=>by rw[GL,or_eq_true]at h;exact h.elim (fun q=>by cases q) (hs x)) (by rw[RA,h0,Yf];exact Nat.le_add_left_of_le (by decide))⟩
  have hown:=fun Ψ hΨ=>own Ψ hΨ (Au hlk1 _);clear own;refine Al fun kn hk=>?_;w_left;generalize hq:((way:Int)==0)=bb;obtain rfl:bb=false:=hq.symm.trans (beq_eq_false_iff_ne.mpr (Int.ne_of_gt (Int.ofNat_lt.mpr (Nat.pos_of_ne_zero z0))));refine hk _ _ (Al fun kn hk=>?_);w_left;generalize hq:decide ((4:Int)<(way:Int))=bb;obtain rfl:bb=false:=hq.symm.trans (decide_eq_false (Int.not_lt_of_ge (Int.ofNat_le.mpr (le_of_lt_succ (lt_of_not_le z5)))));refine hk _ _ (Al fun kn hk=>?_);have h2:=Au hlk1 [HO.list []];have last:∀(s:Sn) H2,hS s=0->(∀x,Bx s x=true->x∈bs)->Fr (fun m=>m=lt) H H2->BR H2 lt K->kn (Vp (some (.loc lt)) (some (.loc lk)) (some (.int n)) (some (.int way)) none (some (BO s))) H2:=fun s H2 h0 hs fr2 x2=>by
   have f:=fin s h0 hs H2 fr2 x2;refine hk _ _ ?_;rcases hcase with rfl |rfl |rfl |rfl
   .exact f.1
   .exact f.2.1
   .exact f.2.2.1
   .exact f.2.2.2
  refine objA_i h2 (objA_i (Ak (H:=H1) (o:=.list [])) ?_);refine⟨Tk,.tup fun zz h=>(by cases h),?_⟩;by_cases hb:bs=[]
  .subst hb;exact last .rel _ rfl (fun x h=>by cases h) (fr1.app _) ((x1.fr (Fr.new _)).le (by omega))
  .generalize hq:BY.peqs _ _=bb;obtain rfl:bb=false:=hq.symm.trans (Bool.eq_false_iff.mpr fun q=>hb (List.map_eq_nil_iff.mp ((Fp _ _).mp q)));w_dflts h2;refine⟨by rw[AG];omega,An (k:=d) (by omega) ?_⟩;rw[AG];refine((hown (fun v H'=>EC fun s=>QZ (v=BO s) (hS s=0) ((∀x,Bx s x=true->x∈bs)) (Fr (fun m=>m=lt) H H') (BR H' lt K)) fun H2 s fr2 x2 hs h0=>⟨s,rfl,h0,hs,fr2,x2⟩).2 hb).mono fun r H2 hr=>?_;obtain⟨k,rfl,hkl,hk2,s,es,h0,hs,fr2,x2⟩:=hr;w_dflts hk2;refine⟨_,_,rfl,by omega,by omega,(by rw[show((k:Int)).toNat=k by omega,List.getElem?_map,AD hkl];rfl),?_⟩;have e2:V.tup [sS "var",Bl bs[k]]=BO s:=by rw[<- es,getD_eq_getElem?_getD,AD hkl];rfl
   have:=last s H2 h0 hs fr2 x2;rw[<- e2]at this;exact this
 by_cases hq:n=0
 .subst hq;refine An (k:=d) (by omega) (draw 5 _ (by decide) (by decide) fun H1 r fr1 x1 hr=>(hk _ _ (rest H1 r fr1 x1 (fun h=>by omega) (AV (Int.ofNat_lt.mp hr) (by decide)))))
 .obtain rfl:n=1:=le_antisymm hdp (le_of_lt_succ (Nat.lt_of_sub_ne_zero hq));refine An (k:=d) (by omega) (draw 7 _ (by decide) (by decide) fun H1 r fr1 x1 hr=>(hk _ _ (rest H1 r fr1 x1 (fun h=>rfl) (Int.ofNat_lt.mp hr))))
theorem GB(F:BN X):Gu X 0 3 2 1:=Kn F (d:=1) (c:=0) (h:=0) (by decide) (fun h=>by cases h) (by decide)
theorem Ex(F:BN X):Gu X 1 5 6 2:=Kn F (d:=3) (c:=2) (h:=1) (by decide) (fun a=>GB F) (by decide)
end
inductive Bd:Nn->Prop
 |cnt {s:Sn}:hS s<=2->Bd (.cnt s)
 |less {s:Sn} {k:Int}:hS s<=2-> -2<=k->k<=2->Bd (.less (.cnt s) (.num k))
 |sum {ds:List (Bool×Sn)} {s:Sn}:1<=ds.length->ds.length<=2->(∀p∈ds,hS p.2<=2)->hS s<=2->Bd (.sum ds (.cnt s))
section
variable {H:Aj} {Φ:V->Aj->Prop} {lt lk K:Nat} {bs:List Bool}
theorem Iy(F:BN X)(h:H[lk]? =some (.list (bs.map Bl)))(f:bs.length<=9)(c:∀b n (a:List Bool),Fr (fun g=>False) H b->b[n]? =some (.list (a.map Bl))->a.length<=bs.length+1->(∀x,x∈a↔x∈bs\/x=s)->Φ (.loc n) b):Ap X 1 "_law_with" [.loc lk,Bl s] H Φ:=by
 refine Ao F 57 rfl ?_;w_dflts h;refine⟨Mk,?_⟩;rw[NN];refine Ce (bs.contains s) (fun d=>?_) fun d=>?_
 .exact c H lk bs .refl h (le_succ _) fun x=>⟨.inl,fun q=>q.elim id fun e=>e▸List.contains_iff_mem.mp d⟩
 .refine objA_i (Au h [HO.list [Bl s]]) (objA_i (Ak (H:=H) (o:=.list [Bl s])) ?_);refine⟨by rw[AG];exact AR (AH (AP f _) (by show 10<Ar;decide)),c _ _ (bs++[s]) ((Fr.new _).app _) (by rw[AL];exact Ak) (by rw[AI];exact AM _) fun x=>by rw[mem_append,mem_singleton]⟩
set_option maxHeartbeats 2000000 in
theorem PU(F:BN X)(x:BR H lt (K+20))(h1:1<=i)(h2:i<=4)(φ:∀H' n,Fr (fun m=>m=lt) H H'->BR H' lt K->Bd n->(∀x,Cp n x=true->x=false)->Φ (Ba n) H'):Ap X 7 "_law_body" [.loc lt,.int i] H Φ:=by
 refine Ao F 58 rfl (Al fun u c=>(An (by decide) (CB F (K:=K+19) x h1 (Int.le_trans h2 (by decide)) fun H1 l b0 x1 l0=>(c _ _ (Al fun u c=>?_)))));generalize C:H1++[HO.list [V.str (ofString "x")]]=D;have E:Fr (fun m=>m=lt) H D:=by rw[<- C];exact b0.app _
 have x2:BR D lt (K+19):=by rw[<- C];exact x1.fr (Fr.new _)
 have k2:D[H1.length]? =some (.list ([false].map Bl)):=by rw[<- C];exact Ak
 have G:=Jh x2 k2;w_left;refine Ce (decide ((l:Int)<2)) (fun hq=>?_) fun hq=>?_
 .refine Al fun u c=>(An (by decide) (Ex F D _ lt H1.length (K+13) [false] x2 k2 (by decide) fun H3 s O x3 d a=>(c _ _ ?_)));have P:∀x,Bx s x=true->x=false:=fun x h=>AJ (d x h);w_left;cases m0:((l:Int)==0)with
  |true=>exact φ H3 (.cnt s) (E.trans O) (x3.le (by omega)) (.cnt a) P
  |false=>
   refine(An (by decide) (CB F (K:=K) (x3.le (by omega)) (by decide) (by decide) fun H4 r b x4 hr=>?_));exact φ H4 (.less (.cnt s) (.num ((r:Int)-2))) ((E.trans O).trans b) x4 (.less a (by omega) (by omega)) fun x h=>by
    have h:(Bx s x||false)=true:=h;rw[Bool.or_false]at h;exact P x h
 .refine c _ _ (Al fun u c=>?_);have f3:Fr (fun zz=>False) D (D++[HO.list [V.str (ofString "x"),V.str (ofString "y")]]):=Fr.new _;have n3:=Ak (H:=D) (o:=.list [V.str (ofString "x"),V.str (ofString "y")]);have v:∀r:Nat,(r:Int)<2->[V.str (ofString "x"),V.str (ofString "y")][((r:Int)).toNat]? =some (Bl (r==1)):=fun r hr=>by
   have:r=0\/r=1:=by omega
   rcases this with rfl |rfl<;>rfl
  refine(An (by decide) (CB F (K:=K+18) (x2.fr f3) (by decide) (by decide) fun H4 r b x4 hr=>?_));have k3:=f3.old k2 id;refine objA_i (b.old n3 (fun e=>by obtain⟨lc,I,k,Q,_⟩:=(x2.fr f3).at_;rw[<- e,n3]at Q;cases Q)) ?_;refine⟨_,_,rfl,by omega,by omega,v r hr,An (by decide) (Ex F H4 _ lt H1.length (K+12) [false] x4 (b.old k3 G) (by decide) fun H5 M R x5 d a=>(c _ _ (Al fun u c=>?_)))⟩;have w:∀x,Bx M x=true->x=false:=fun x h=>AJ (d x h);refine(An (by decide) (Iy F (R.old (b.old k3 G) G) (by decide) fun H6 S J T k6 l6 m6=>(c _ _ (Al fun u c=>?_))));have x6:=x5.fr T;have z:=(((E.app [HO.list [V.str (ofString "x"),V.str (ofString "y")]]).trans b).trans R).trans T.pure;have U:=Jh x6 k6;have A:∀(N:Aj)(t:Nat)(g:List Bool)(L:List (Bool×Sn))(o1 o2 o3:Option V),Fr (fun m=>m=lt) H N->BR N lt (K+6)->N[t]? =some (.list (g.map Bl))->g.length<=10->1<=L.length->L.length<=2->(∀p∈L,hS p.2<=2)->(∀f x,(∀y,f y=true->y∈g)->IN L f x=true->x=false) ->
    u (Y1 (some (.loc lt)) (some (.int i)) (some (.int l)) (some (.loc t)) none o1 o2 (some (.tup (L.map Dx)))) N:=fun N t g L o1 o2 o3 c0 x7 k7 l7 d1 d2 d3 d4=>by
   refine c _ _ (An (by decide) (Ex F N _ lt t K g x7 k7 l7 fun H8 s j x8 d a=>?_));exact φ H8 (.sum L (.cnt s)) (c0.trans j) x8 (.sum d1 d2 d3 a) fun x h=>d4 (Bx s) x d h
  w_left;cases n0:((l:Int)==3)with
  |false=>
   refine A H6 S J [(r==1,M)] (some (Bl (r==1))) (some (BO M)) none z (x6.le (by omega)) k6 (AF l6 (by decide)) (AM _) (by show 1<=2;decide) (fun p W=>by rw[AJ W];exact a) fun f x hf h=>?_;have h:(Bx M x||(f x&&((r==1) != x)))=true:=h;rw[or_eq_true,and_eq_true]at h;rcases h with h |⟨h,B⟩
   .exact w x h
   .rcases(m6 x).mp (hf x h)with q |q
    .exact AJ q
    .rw[q]at B;simp at B
  |true=>
   refine Al fun u d0=>?_;have f7:Fr (fun zz=>False) H6 (H6++[HO.list [V.str (ofString "x"),V.str (ofString "y")]]):=Fr.new _;have n7:=Ak (H:=H6) (o:=.list [V.str (ofString "x"),V.str (ofString "y")]);have x7:=x6.fr f7;refine(An (by decide) (CB F (K:=K+11) x7 (by decide) (by decide) fun H8 r2 j x8 f0=>?_));have k8:=j.old (f7.old k6 id) U;refine objA_i (j.old n7 (fun e=>by obtain⟨lc,I,k,Q,_⟩:=x7.at_;rw[<- e,n7]at Q;cases Q)) ?_;refine⟨_,_,rfl,by omega,by omega,v r2 f0,An (by decide) (GB F H8 _ lt S (K+9) J x8 k8 (AF l6 (by decide)) fun H9 s2 Y x9 g0 h0=>(d0 _ _ (Al fun u i0=>?_)))⟩;refine(An (by decide) (Iy F (Y.old k8 U) (AF l6 (by decide)) fun HA j0 k0 Z kA lA mA=>⟨(by show 2<=Ar;decide),i0 _ _ ?_⟩));refine A HA j0 k0 [(r==1,M),(r2==1,s2)] (some (Bl (r2==1))) (some (BO s2)) none (((z.trans f7.pure).trans (j.trans Y)).trans Z.pure) ((x9.fr Z).le (by omega)) kA (AF lA (AF (AP l6 1) (by decide))) (by show 1<=2;decide) (by show 2<=2;decide) (fun p W=>?_) fun f x hf h=>?_
   .rcases Ae W with rfl |W
    .exact a
    .rw[AJ W];exact AF h0 (by decide)
   .have h:(Bx M x||((Bx s2 x||(f x&&((r2==1) != x)))&&((r==1) != x)))=true:=h;rw[or_eq_true,and_eq_true,or_eq_true,and_eq_true]at h;have out:x∈J->((r==1) != x)=true->x=false:=fun q B=>by
     rcases(m6 x).mp q with q |q
     .exact AJ q
     .rw[q]at B;simp at B
    rcases h with h |⟨h |⟨h,a0⟩,B⟩
    .exact w x h
    .exact out (g0 x h) B
    .rcases(mA x).mp (hf x h)with q |q
     .exact out q B
     .rw[q]at a0;simp at a0
end
structure F1(rows S D:List (List Int))(most:Nat):Prop where
 s:S.Sublist rows
 d:D.Sublist rows
 off:∀r∈S,r∉D
 le:D.length<=most
section
variable {H:Aj} {Φ:V->Aj->Prop} {lt K:Nat}
theorem JM(F:BN X){lr most:Nat}{wide:Int}{rows:List (List Int)}(x:BR H lt (K+rows.length))(h:H[lr]? =some (.list (rows.map Am)))(h1:1<=wide)(h2:wide<=100)(hl:rows.length<=9)(nd:rows.Nodup)(hm:most<=10)
  (φ:∀l O ld S D,Fr (fun m=>m=lt) H l->BR l lt K->H.length<=O->H.length<=ld->O≠ld->l[O]? =some (.list (S.map Am))->l[ld]? =some (.list (D.map Am))->F1 rows S D most->Φ (.tup [.loc O,.loc ld]) l):Ap X 3 "_law_lots" [.loc lt,.loc lr,.int wide,.int most] H Φ:=by
 have U:lr≠lt:=fun e=>by obtain⟨lc,u,k,P,_⟩:=x.at_;rw[<- e,h]at P;cases P
 refine Ao F 55 rfl (Al fun Y Z=>(Z _ _ (Al fun Y Z=>?_)));generalize v:H++[HO.list []]++[HO.list []]=H1;have l0:(H++[HO.list []]).length=H.length+1:=by rw[AI];rfl
 have w:Fr (fun zz=>False) H H1:=by rw[<- v];exact(Fr.new _).app _
 have s1:H1[H.length]? =some (.list ([].map Am)):=by rw[<- v];exact Au Ak _
 have d1:H1[H.length+1]? =some (.list ([].map Am)):=by rw[<- v,<- l0];exact Ak
 have y:lt<H.length:=by obtain⟨lc,u,k,P,_⟩:=x.at_;exact Ax P
 rw[l0];refine Ay (W:=fun m=>m=lt) (H₀:=H) (.inr ⟨lr,rfl,h,U⟩) w.pure fun guard a0=>?_;refine Bp (xs:=rows) (f:=Am) (fun(c post:List (List Int)) z l=>Vn fun(S D:List (List Int)) (o1 o2:Option V)=>WC (z=Xq (some (.loc lt)) (some (.loc lr)) (some (.int wide)) (some (.int most)) (some (.loc H.length)) (some (.loc (H.length+1))) o1 o2) (Fr (fun m=>m=lt) H l) (BR l lt (K+post.length)) (l[H.length]? =some (.list (S.map Am))) (l[H.length+1]? =some (.list (D.map Am))) (F1 c S D most)) ?_ ?_ _ _
  ⟨[],[],none,none,rfl,w.pure,x.fr w,s1,d1,⟨.slnil,.slnil,(fun zz h=>by cases h),zero_le _⟩⟩
 .rintro c q post z H2 k' e1 ⟨S,D,o1,o2,rfl,A,Q,s2,d2,b⟩ b0;rw[AQ,<- Nat.add_assoc]at Q;have hq:q∉c:=fun hp=>by rw[e1]at nd;exact(List.nodup_append.mp nd).2.2 _ hp q (.head _) rfl
  have c0:c.length<=9:=by have:=BU e1;omega
  refine(Al fun Y d0=>(An (by decide) (CB F Q h1 (Int.le_trans h2 (by decide)) fun H3 g B x3 f0=>(d0 _ _ ?_))));have J:=B.old s2 (by omega);have G:=B.old d2 (Nat.ne_of_gt (lt_add_right _ y));have i:=A.trans B;have keep:F1 (c++[q]) S D most:=⟨b.s.trans (List.sublist_append_left _ _),b.d.trans (List.sublist_append_left _ _),b.off,b.le⟩;have j:(if decide ((g:Int)<2)=true then F1 (c++[q]) (S++[q]) D most else True):=by
   cases decide ((g:Int)<2)with
   |false=>exact trivial
   |true=>exact⟨b.s.append (.refl _),keep.d,fun r n hd=>by
     rcases AY n with n |n
     .exact b.off r n hd
     .rw[AJ n]at hd;exact hq (b.d.subset hd),b.le⟩
  have fin:∀(I:Aj)(R T:List (List Int)) z,Fr (fun m=>m=lt) H I->BR I lt (K+post.length)->I[H.length]? =some (.list (R.map Am))->I[H.length+1]? =some (.list (T.map Am))->F1 (c++[q]) R T most ->
    z=Xq (some (.loc lt)) (some (.loc lr)) (some (.int wide)) (some (.int most)) (some (.loc H.length)) (some (.loc (H.length+1))) (some (Am q)) (some (.int g))->k' z I:=fun I R T z fr x s d lo e=>b0 _ _ (a0 _ fr) ⟨R,T,_,_,e,fr,x,s,d,lo⟩
  have o:lt<H.length/\lt<H.length+1:=⟨y,lt_succ_of_lt y⟩;refine(fun p:?E=>?r) ?a
  case r=>
   w_left;cases C:((g:Int)==4-wide)with
   |false=>exact p
   |true=>
    w_dflts G;refine⟨by rw[AG];exact AH b.le (AH hm (by decide)),?_⟩;w_left;refine EY (decide (((D.map Am).length:Int)<(most:Int))) (fun L=>?_) fun L=>?_
    .exact p
    .have M:=of_decide_eq_true L;rw[AG]at M;refine objA_i G ?_;refine Bf G (by rw[AG];exact AH (AF b.le hm) (by decide)) ?_;refine fin _ S (D++[q]) _ (i.set (.inl (le_succ _)) _) (x3.set o.2) (Aq J (by omega)) (by rw[AL];exact BE G) ⟨keep.s,b.d.append (.refl _),fun r n hd=>?_,by rw[AI,AX];omega⟩ rfl;rcases AY hd with hd |hd
     .exact b.off r n hd
     .rw[AJ hd]at n;exact hq (b.s.subset n)
  case a=>
   refine Al fun Y N=>?_;w_left;refine EY (decide ((g:Int)<2)) (fun C=>?_) fun C=>?_
   .exact N _ _ (fin H3 S D _ i x3 J G keep rfl)
   .have t:=J;w_dflts t;rw[C]at j;refine Bf J (by rw[AG];exact AH (AF b.s.length_le c0) (by decide)) ?_;refine N _ _ (fin _ (S++[q]) D _ (i.set (.inl (AM _)) _) (x3.set o.1) (by rw[AL];exact BE J) (Aq G (by omega)) j rfl)
 .rintro z H2 ⟨S,D,o1,o2,rfl,A,Q,s2,d2,b⟩;exact Z _ _ (φ H2 _ _ S D A Q (AM _) (le_succ _) (Nat.ne_of_lt (lt_succ_self _)) s2 d2 b)
end
theorem Es:∀{l m:List Int},l.Pairwise (· < ·)->m.Pairwise (· < ·)->(∀x,x∈l↔x∈m)->l=m
 |[],[],_,_,_=>rfl
 |[],b::m,_,_,h=>absurd ((h b).mpr (.head _)) (by simp)
 |a::l,[],_,_,h=>absurd ((h a).mp (.head _)) (by simp)
 |a::l,b::m,f,g,h=>by
  obtain⟨c,l2⟩:=List.pairwise_cons.mp f;obtain⟨d,i⟩:=List.pairwise_cons.mp g;have e:a=b:=by
   rcases Ae ((h a).mp (.head _))with q |q
   .exact q
   .rcases Ae ((h b).mpr (.head _))with r |r
    .exact r.symm
    .have:=d a q;have:=c b r;omega
  subst e;rw[Es l2 i fun x=>⟨fun q=>by
   rcases Ae ((h x).mp (.tail _ q))with r |r
   .have:=c x q;omega
   .exact r,fun q=>by
   rcases Ae ((h x).mpr (.tail _ q))with r |r
   .have:=d x q;omega
   .exact r⟩]
def FY(u:Nat)(p:Nat->Bool):List Int:=((List.range u).filter p).map fun a:Nat=>(a:Int)
theorem Fm:(FY n p).Pairwise (· < ·):=by
 refine List.pairwise_map.mpr (List.Pairwise.imp (fun h=>Int.ofNat_lt.mpr h) ((List.pairwise_lt_range (n:=n)).filter p))
theorem Cz:i∈FY n p↔EC fun(a:Nat)=>DD (a<n) (p a=true) (i=a):=by
 unfold FY;rw[mem_map];exact⟨(by rintro⟨a,b,c⟩;exact⟨a,List.mem_range.mp (List.mem_filter.mp b).1,(List.mem_filter.mp b).2,c.symm⟩),(by rintro⟨a,b,c,d⟩;exact⟨a,List.mem_filter.mpr ⟨List.mem_range.mpr b,c⟩,d.symm⟩)⟩
theorem Ev{u:Nat}:(FY u p).length<=u:=by
 unfold FY;rw[AG];exact AF (Af _ _) (by rw[length_range];exact AM _)
theorem IH{l:List Int}:V.int i∈l.map V.int↔i∈l:=⟨fun h=>by obtain⟨c,a,b⟩:=AS h;rw[<- V.int.inj b];exact a,fun h=>mem_map_of_mem h⟩
theorem GW(h:∀v∈l,v∈t.map V.int):∃m:List Int,l=m.map V.int:=by
 induction l with
 |nil=>exact⟨[],rfl⟩
 |cons v r a=>
  obtain⟨b,_,rfl⟩:=AS (h v (.head _));obtain⟨m,rfl⟩:=a fun u c=>h u (.tail _ c);exact⟨b::m,rfl⟩
section
variable {H:Aj} {Φ:V->Aj->Prop}
theorem E7{u:Nat}(o:u<=3)(g:t.length<60)(i:∀x,x∈t↔EC fun(a:Nat)=>DD (a<u) (p a=true) (x=a))(j:Φ (.loc (H.length+1)) (H++[.set (B7 [] (t.map V.int))]++[.list ((FY u p).map V.int)])) :
  D7 (B7 [] (t.map V.int)) (H++[.set (B7 [] (t.map V.int))]) Φ:=by
 obtain⟨k,b⟩:=FB (l:=t.map V.int) (acc:=[]) .nil;refine⟨AH F2 (by rw[AG];simpa using g),k,.inl ?_,fun m d n=>?_⟩
 .obtain⟨m,e⟩:=GW fun v c=>((b v).mp c).elim (fun q=>by cases q) id;exact⟨m,e⟩
 .obtain⟨f,rfl⟩:=GW fun v c=>((b v).mp (d.mem_iff.mp c)).elim (fun q=>by cases q) id;have:f=FY u p:=Es ((List.pairwise_map.mp n).imp fun h=>of_decide_eq_true h) Fm fun x=>by
   rw[Cz,<- i x,<- IH (l:=f),d.mem_iff,b,IH];exact⟨fun q=>q.elim (fun q=>by cases q) id,.inr⟩
  rw[this,show(H++[HO.set (B7 [] (t.map V.int))]).length=H.length+1 by rw[AI];rfl];exact j
structure HH(H:Aj)(u:Nat)(w:Wd)(w0 w1:Nat):Prop where
 s:H[w0]? =some (.list ((FY u w.s).map V.int))
 r:EC fun(R:List (List Int))=>KT (H[w1]? =some (.list (R.map Am))) (R.length<=9) ((∀t∈R,Dd fun(a b:Nat)=>DD (a<u) (b<u) (t=[(a:Int),(b:Int)]))) (∀a b:Nat,a<u->b<u->(w.r a b=true↔[(a:Int),(b:Int)]∈R))
structure Jl(H:Aj)(u l:Nat)(e:En):Prop where
 at_:Dd fun(ks:List Bool) (kv:List (V×V))=>KT (H[l]? =some (.dict kv)) (kv.map (·.1)=ks.map Bl) (ks.Nodup) (∀x a,e x=some a->BI kv (Bl x)=some (.int a)/\a<u)
theorem HH.fr{e:Aj}{g:Nat}{w:Wd}(x:HH H n w k g)(f:Fr (fun h=>False) H e):HH e n w k g:=⟨f.old x.s id,by obtain⟨R,a,b,c,d⟩:=x.r;exact⟨R,f.old a id,b,c,d⟩⟩
theorem Jl.fr{g:Aj}{e:En}(x:Jl H n k e)(f:Fr (fun j=>False) H g):Jl g n k e:=⟨by obtain⟨h,i,a,b,c,d⟩:=x.at_;exact⟨h,i,f.old a id,b,c,d⟩⟩
def ED(X:Cx)(u:Nat)(w:Wd)(s:Sn)(d:Nat):Prop:=∀(H:Aj)(Φ:V->Aj->Prop)(b c l:Nat)(e:En),HH H u w b c->Jl H u l e->(∀x,Bx s x=true->(e x).isSome=true) ->
 (∀a n,Fr (fun f=>False) H a->a[n]? =some (.list ((FY u (Bb u w e s)).map V.int))->Φ (.loc n) a)->Ap X d "_law_atoms" [BO s,.tup [.loc b,.loc c],.loc l] H Φ
variable {u d:Nat} {w:Wd}
theorem P6(F:BN X):ED X u w .rel 1:=fun H Φ a f l e b g hd c=>by
 refine Ao F 59 rfl (Al fun h i=>?_);exact(c H a .refl b.s)
theorem Py(F:BN X):ED X u w (.var s) 1:=fun H Φ w0 w1 l e hw he hd φ=>by
 obtain⟨a,ha⟩:=Option.isSome_iff_exists.mp (hd s (by rw[Ux];simp));obtain⟨ks,kv,h1,h2,h3,h4⟩:=he.at_;obtain⟨q1,q2⟩:=h4 s a ha;refine Ao F 59 rfl (Al fun kn hk=>(hk _ _ (Al fun kn hk=>?_)));w_dflts h1;refine⟨_,.str _ _,q1,φ _ _ (Fr.new _) ?_⟩;have:FY u (Bb u w e (.var s))=[(a:Int)]:=Es Fm (pairwise_singleton _ _) fun z=>by
  rw[Cz,mem_singleton];constructor
  .rintro⟨b,hb,hs,rfl⟩;rw[G8,ha]at hs;have:=eq_of_beq hs;cases this;rfl
  .rintro rfl;exact⟨a,q2,by rw[G8,ha];simp,rfl⟩
 rw[this];exact Ak
end
theorem J3:((t.map V.int).any fun u=>BY u (.int i))=t.contains i:=by
 rw[Bool.eq_iff_iff,FX,IH,contains_iff_mem]
theorem KG:Pd (n+1) (.tup (.int i::t.map V.int)):=.tup fun v a=>by
 rcases Ae a with rfl |h
 .exact .int _ _
 .obtain⟨c,_,rfl⟩:=AS h;exact .int _ _
theorem Gy(h:k<n):(FY n p).contains (k:Int)=p k:=by
 rw[Bool.eq_iff_iff,contains_iff_mem,Cz];exact⟨fun⟨b,_,a,c⟩=>by rw[Int.ofNat_inj.mp c];exact a,fun q=>⟨k,h,q,rfl⟩⟩
theorem TB{L A B:Prop}(h:if s=true then A else B)(x:L):if s=true then(L/\A)else B:=by
 cases s with
 |false=>exact h
 |true=>exact⟨x,h⟩
theorem LV{d n:Type}{f:d->V}{c:List d}(p:d->Bool)(g:d->n)(j:n->V)(o:K H)
  (step:∀a,a∈c->∀(l:List V)(i:HO->Aj->Prop),l.length<c.length->(if p a=true then i (.list (l++[j (g a)])) H else i (.list l) H)->w (f a) (.list l) H i) (fin:N (.list (((c.filter p).map g).map j)) H):CU w K (c.map f) (.list []) H N:=by
 have go:∀post:List d,(∀a,a∈post->a∈c)->∀l:List V,l.length+post.length<=c.length->N (.list (l++((post.filter p).map g).map j)) H->CU w K (post.map f) (.list l) H N:=fun post=>by
  induction post with
  |nil=>exact fun r l r h=>by rw[filter_nil,map_nil,map_nil,Ah]at h;exact h
  |cons a post s=>
   intro k l t h;have e:l.length+1+post.length<=c.length:=AF (AT (Ag _ _ _)) t;refine step a (k a (.head _)) l _ (AK (lt_add_of_pos_right (succ_pos _)) t) ?_;rw[filter_cons]at h
   revert h
   refine Ce (p a) (fun q h=>?_) fun q h=>?_
   .exact⟨o,s (fun b m=>k b (.tail _ m)) _ (by rw[AI];exact e) (by rw[append_assoc];exact h)⟩
   .exact⟨o,s (fun b m=>k b (.tail _ m)) _ (AF (AP (le_succ _) _) e) h⟩
 exact go c (fun r h=>h) [] (AT (Nat.zero_add _)) fin
theorem Sb{o:List Int->Int}{r:Nat->Nat->Bool}(g:∀t,t∈S->Dd fun(a b:Nat)=>QZ (a<n) (b<n) (f8 t=a) (o t=b) (r a b=true))(h:∀a b,a<n->b<n->r a b=true->EC fun t=>DD (t∈S) (f8 t=a) (o t=b))(x:Int) :
  x∈(S.filter fun t=>p (f8 t).toNat).map o↔EC fun(b:Nat)=>DD (b<n) (((List.range n).any fun a=>p a&&r a b)=true) (x=b):=by
 rw[mem_map];constructor
 .rintro⟨t,i,rfl⟩;obtain⟨m,q⟩:=List.mem_filter.mp i;obtain⟨a,b,c,d,e,f,j⟩:=g t m;rw[e]at q;exact⟨b,d,List.any_eq_true.mpr ⟨a,List.mem_range.mpr c,Bool.and_eq_true_iff.mpr ⟨q,j⟩⟩,f⟩
 .rintro⟨b,d,q,rfl⟩;obtain⟨a,c,q⟩:=List.any_eq_true.mp q;have q:=Aa q;obtain⟨t,m,e,f⟩:=h a b (List.mem_range.mp c) d q.2;exact⟨t,List.mem_filter.mpr ⟨m,by rw[e];exact q.1⟩,f⟩
section
variable {u d:Nat} {w:Wd}
theorem LE(f:u<=3)(e:t.length<60)(g:∀x,x∈t↔EC fun(a:Nat)=>DD (a<u) (p a=true) (x=a))(h:∀c n,Fr (fun i=>False) H c->c[n]? =some (.list ((FY u p).map V.int))->z (.loc n) c) :
  Nu .set [.loc H.length] (H++[.list (t.map V.int)]) fun v b=>Nu .sorted [v] b z:=by
 refine objA_i (Ak (H:=H) (o:=.list (t.map V.int))) ?_;refine⟨by rw[AG];exact e,.inl ⟨t,rfl⟩,?_⟩;refine objA_i (Ak (H:=H++[HO.list (t.map V.int)]) (o:=.set (B7 [] (t.map V.int)))) ?_;refine E7 f e g (h _ _ (((Fr.new _).app _).app _) ?_);rw[show(H++[HO.list (t.map V.int)]).length+1=(H++[HO.list (t.map V.int)]++[HO.set (B7 [] (t.map V.int))]).length by rw[AI (as:=_++_)];rfl];exact Ak
theorem XO(h:S.length<=9):((S.filter v7).map f8).length<60:=by rw[AG];exact AH (AF (Af _ _) h) (by decide)
theorem Sl:Pd 20 (.tup [.str y,.int i]):=.tup fun v a=>by
 rcases Ae a with rfl |a
 .exact .str _ _
 .rw[AJ a];exact .int _ _
theorem SV(F:BN X){s:Sn}(A:u<=3)(B:ED X u w s d):ED X u w (.jl s) (d+2):=fun H O C y l e z D E G=>by
 refine Ao F 59 rfl (Al fun v c=>(c _ _ (Al fun v c=>(c _ _ (Al fun v c=>?_)))));refine⟨Sl,Sl,?_⟩;generalize I:BY _ _=J;obtain rfl:J=true:=I.symm.trans ((BB _ _).mpr rfl);refine Al fun v c=>(An (k:=d) (lt_succ_self _) (B H _ C y l e z D E fun P n h K=>(c _ _ ?_)));obtain⟨R,L,i,j,m⟩:=(z.fr h).r;refine Ay (W:=fun Q=>False) (.inr ⟨y,rfl,L,id⟩) .refl fun guard x=>?_;refine LV (fun t=>Bb u w e s (hd t).toNat) (fun t=>hd t.tail) V.int (x _ .refl) (fun t p l S M c=>?_) ?_
 .obtain⟨a,b,g,o,rfl⟩:=j t p;w_dflts K;refine⟨KG,?_⟩;rw[J3,Gy g];exact TB c (AV (AK M i) (by decide))
 .exact LE A (XO i) (Sb (fun t p=>by obtain⟨a,b,g,o,e⟩:=j t p;exact⟨a,b,g,o,by rw[e];rfl,by rw[e];rfl,(m a b g o).mpr (e▸p)⟩) fun a b g o q=>⟨_,(m a b g o).mp q,rfl,rfl⟩) fun N n f=>G N n (h.trans f)
theorem SU(F:BN X){s:Sn}(D:u<=3)(A:Pd 20 (BO s))(y:ED X u w s d):ED X u w (.jr s) (d+2):=fun H Q E B l e C G I J=>by
 unfold ED at y;rw[show BO (.jr s)=.tup [sS "join",Gc,BO s]from rfl,DB s];rw[DB s]at y;refine Ao F 59 rfl (Al fun v c=>(c _ _ (Al fun v c=>(c _ _ (Al fun v c=>?_)))));have h:BO s≠Gc:=Hs s;rw[DB s]at h A;refine⟨A,Sl,?_⟩;generalize K:BY _ _=L;obtain rfl:L=false:=K.symm.trans (Bool.eq_false_iff.mpr fun q=>h ((BB _ _).mp q));refine c _ _ (Al fun v c=>?_);refine Al fun v c=>(An (k:=d) (lt_succ_self _) (y H _ E B l e C G I fun S n i M=>(c _ _ ?_)));obtain⟨R,N,j,m,o⟩:=(C.fr i).r;refine Ay (W:=fun T=>False) (.inr ⟨B,rfl,N,id⟩) .refl fun guard z=>?_;refine LV (fun t=>Bb u w e s (hd t.tail).toNat) hd V.int (z _ .refl) (fun t x l U O c=>?_) ?_
 .obtain⟨b,a,p,g,rfl⟩:=m t x;w_dflts M;refine⟨KG,?_⟩;rw[J3,Gy g];exact TB c (AV (AK O j) (by decide))
 .exact LE D (XO j) (Sb (fun t x=>by obtain⟨b,a,p,g,e⟩:=m t x;exact⟨a,b,g,p,by rw[e];rfl,by rw[e];rfl,(o b a p g).mpr (e▸x)⟩) fun a b g p q=>⟨_,(o b a p g).mp q,rfl,rfl⟩) fun P n f=>J P n (i.trans f)
end
section
variable {u d:Nat} {w:Wd}
theorem QR(F:BN X){s t:Sn}(j:u<=3)(r:ED X u w s d)(v:ED X u w t d):ED X u w (.uni s t) (d+2):=fun H M B C l e D E hd J=>by
 refine Ao F 59 rfl (Al fun m b=>(b _ _ (Al fun m b=>(b _ _ (Al fun m b=>(b _ _ (Al fun m b=>(b _ _ (Al fun m b=>?_)))))))));refine(An (k:=d) (by omega) (r H _ B C l e D E (fun x y=>hd x (by rw[Hz,y];rfl)) fun K N f z=>?_));refine(An (k:=d) (by omega) (v K _ B C l e (D.fr f) (E.fr f) (fun x y=>hd x (by rw[Hz,y,Bool.or_true])) fun q O n A=>(b _ _ (Al fun m b=>?_))));have c:=n.old z id;have G:=Ev (u:=u) (p:=Bb u w e s);have l2:=Ev (u:=u) (p:=Bb u w e t);refine objA_i c (objA_i A ?_);refine⟨by rw[AG,AG];exact AR (AH (Ad G l2) (AH (Ad j j) (by decide))),?_⟩;rw[<- AL];generalize I:FY u (Bb u w e s)++FY u (Bb u w e t)=L;have P:L.length<=6:=by rw[<- I,AI];exact AF (Ad G l2) (Ad j j)
 refine objA_i (Ak (H:=q) (o:=.list (L.map V.int))) ?_;refine⟨by rw[AG];omega,.inl ⟨L,rfl⟩,?_⟩;refine objA_i (Ak (H:=q++[HO.list (L.map V.int)]) (o:=.set (B7 [] (L.map V.int)))) ?_;refine E7 (u:=u) (p:=Bb u w e (.uni s t)) j (by omega) (fun x=>?_) (J _ _ ((f.trans n).trans (((Fr.new _).app _).app _)) ?_)
 .rw[<- I,mem_append,Cz,Cz];constructor
  .rintro(⟨a,c,g,i⟩ |⟨a,c,g,i⟩)
   .exact⟨a,c,by rw[HW,g];rfl,i⟩
   .exact⟨a,c,by rw[HW,g,Bool.or_true],i⟩
  .rintro⟨a,c,g,i⟩;rw[HW,or_eq_true]at g;exact g.imp (fun h=>⟨a,c,h,i⟩) fun h=>⟨a,c,h,i⟩
 .have:(q++[HO.list (L.map V.int)]).length+1=(q++[HO.list (L.map V.int)]++[HO.set (B7 [] (L.map V.int))]).length:=by rw[AI (as:=_++_)];rfl
  rw[this];exact Ak
theorem Pw(F:BN X){s t:Sn}(Q:u<=3)(r:ED X u w s d)(v:ED X u w t d):ED X u w (.min s t) (d+2):=fun H R E G l e I J hd L=>by
 refine Ao F 59 rfl (Al fun j b=>(b _ _ (Al fun j b=>(b _ _ (Al fun j b=>(b _ _ (Al fun j b=>(b _ _ (Al fun j b=>?_)))))))));refine(An (k:=d) (by omega) (r H _ E G l e I J (fun x y=>hd x (by rw[GL,y];rfl)) fun M N c z=>?_));refine(An (k:=d) (by omega) (v M _ E G l e (I.fr c) (J.fr c) (fun x y=>hd x (by rw[GL,y,Bool.or_true])) fun O S m A=>(b _ _ (Al fun j b=>(b _ _ ?_)))));have g:=m.old z id;have T:=Ev (u:=u) (p:=Bb u w e s);refine Ay (W:=fun U=>False) (.inr ⟨N,rfl,g,id⟩) .refl fun guard n=>?_;refine BF (xs:=(FY u (Bb u w e s))) (f:=V.int) (fun(h post:List Int) i B=>EU (B=O) (i=.list ((h.filter fun x=> !(FY u (Bb u w e t)).contains x).map V.int))) ?_ ?_ _ _ ⟨rfl,rfl⟩
 .rintro h q post i B Y P ⟨rfl,rfl⟩ b;have C:h.length<=3:=by exact AF (AR (BU P)) (by first |assumption |omega)
  w_dflts A;refine⟨KG,?_⟩;rw[J3];refine Ce ((FY u (Bb u w e t)).contains q) (fun D=>?_) fun D=>?_
  .exact b _ _ (n _ .refl) ⟨rfl,by rw[filter_append,filter_cons,D];simp⟩
  .refine⟨by rw[AG];exact AH (AF (Af _ _) C) (by decide),b _ _ (n _ .refl) ⟨rfl,?_⟩⟩;rw[filter_append,filter_cons,D,AL];rfl
 .rintro i B ⟨rfl,rfl⟩;refine L _ _ ((c.trans m).trans (Fr.new _)) ?_;have:FY u (Bb u w e (.min s t))=(FY u (Bb u w e s)).filter fun x=> !(FY u (Bb u w e t)).contains x:=Es Fm (Fm.filter _) fun x=>by
   rw[mem_filter,Cz,Cz];constructor
   .rintro⟨a,g,o,rfl⟩;rw[Jb,and_eq_true]at o;exact⟨⟨a,g,o.1,rfl⟩,by rw[Gy g];exact o.2⟩
   .rintro⟨⟨a,g,o,rfl⟩,K⟩;rw[Gy g]at K;exact⟨a,g,by rw[Jb,o,K];rfl,rfl⟩
  rw[this];exact Ak
theorem ED.up{s:Sn}{d':Nat}(x:ED X u w s d)(h:d<=d'):ED X u w s d':=fun H a b c l e f g hd i=>(x H a b c l e f g hd i).deep h
theorem De(F:BN X)(c:u<=3):∀s:Sn,Pd 8 (BO s)->ED X u w s (2*hS s+1)
 |.rel,_=>P6 F
 |.var x,_=>Py F
 |.jl a,e=>(SV F c (De F c a (e.mem (by simp)))).up (by rw[XX];omega)
 |.jr a,e=>(SU F c ((e.mem (v:=BO a) (by simp)).up _ (by decide)) (De F c a (e.mem (by simp)))).up (by rw[Wy];omega)
 |.uni a b,e=>(QR F c ((De F c a (e.mem (by simp))).up (by omega:2*hS a+1<=2*max (hS a) (hS b)+1)) ((De F c b (e.mem (by simp))).up (by omega))).up (by rw[Tv];omega)
 |.min a b,e=>(Pw F c ((De F c a (e.mem (by simp))).up (by omega:2*hS a+1<=2*max (hS a) (hS b)+1)) ((De F c b (e.mem (by simp))).up (by omega))).up (by rw[RA];omega)
end
def bN:Nn->Nat
 |.cnt _=>3 |.num k=>k.natAbs |.less a b=>bN a+bN b |.sum ds b=>3 ^ ds.length*bN b
theorem Yn:∀a,bN (.cnt a)=3:=fun b=>rfl
theorem ZH:∀k,bN (.num k)=k.natAbs:=fun a=>rfl
theorem V8:∀a b,bN (.less a b)=bN a+bN b:=fun c c=>rfl
theorem WY:∀a b,bN (.sum a b)=3 ^ a.length*bN b:=fun c c=>rfl
theorem MB{M:Nat}:∀{l:List Int},(∀x∈l,x.natAbs<=M)->l.sum.natAbs<=l.length*M:=by
 intro a;induction a with
 |nil=>
  intro _;rw[sum_nil];simp
 |cons x r b=>
  intro h;rw[sum_cons,AQ,succ_mul,Nat.add_comm];exact AF (Int.natAbs_add_le _ _) (Ad (h x (.head _)) (b fun y c=>h y (.tail _ c)))
section
variable {u:Nat} {w:Wd}
theorem Qh(c:u<=3):∀{b:List (Bool×Sn)}{e:En}{f:En->Int},(∀e,(f e).natAbs<=n)->(DZ u w b e f).natAbs<=3 ^ b.length*n:=by
 intro g;induction g with
 |nil=>
  intro e f h;rw[Vw,length_nil,Nat.pow_zero,Nat.one_mul];exact h e
 |cons d r i=>
  intro e f h;rw[MV,AQ,Nat.pow_succ];refine AF (MB (M:=3 ^ r.length*n) fun x j=>?_) ?_
  .obtain⟨a,_,rfl⟩:=AS j;by_cases q:Bb u w e d.2 a=true
   .rw[if_pos q];exact i h
   .rw[if_neg q];exact zero_le _
  .rw[AG,length_range,mul_comm (3 ^ r.length) 3,Nat.mul_assoc];exact mul_le_mul_right _ c
theorem Fh(c:u<=3):∀{n:Nn}{e:En},(DA u w n e).natAbs<=bN n
 |.cnt s,e=>by
  rw[IB,Yn];have:=Af (Bb u w e s) (List.range u);rw[length_range]at this;exact AF this c
 |.num k,e=>AM _
 |.less a b,e=>by
  rw[Hx,V8];exact AF (Int.natAbs_sub_le _ _) (Ad (Fh c (n:=a) (e:=e)) (Fh c (n:=b) (e:=e)))
 |.sum d b,e=>by rw[IM,WY];exact Qh c fun e=>Fh c
theorem Us{F:Nat->Int}:((FY u p).map fun x=>F x.toNat).sum=((List.range u).map fun a=>if p a=true then F a else 0).sum:=by
 unfold FY;rw[List.map_map];generalize List.range u=l;induction l with
 |nil=>rfl
 |cons a r b=>
  rw[filter_cons,AW,sum_cons,<- b];cases p a
  .rw[if_neg (by decide),if_neg (by decide),Int.zero_add]
  .rw[if_pos rfl,if_pos rfl,AW,sum_cons];show F ((a:Int)).toNat+_=_;rw[toNat_natCast]
end
theorem PW:∀{a l b:List (V×V)},BG l (a++b)=BG (BG l a) b:=by
 intro c;induction c with
 |nil=>
  intro _ _;exact rfl
 |cons p r d=>
  intro l b;rw[cons_append,Gw,Gw,d]
theorem LR:∀{a l:List (V×V)},((l++a).map (·.1)).Nodup->BG l a=l++a:=by
 intro b;induction b with
 |nil=>
  intro l _;rw[Ah];rfl
 |cons p r c=>
  intro l nd;rw[Gw,FQ,c (by rw[append_assoc];exact nd),append_assoc];rfl;intro q d e;rw[AL]at nd;exact(List.nodup_append.mp nd).2.2 q.1 (mem_map_of_mem d) p.1 (.head _) e
theorem Rd(h:∀p∈m,Pd 8 p.1):U2 (m.map fun p=>V.tup [p.1,p.2]) m:=by
 induction m with
 |nil=>exact .nil
 |cons p r a=>exact .cons (h p (.head _)) (a fun q b=>h q (.tail _ b))
def FI(X:Cx)(u:Nat)(w:Wd)(n:Nn)(d:Nat):Prop:=∀(H:Aj)(a:V->Aj->Prop)(b c l:Nat)(e:En),HH H u w b c->Jl H u l e->(∀x,Cp n x=true->(e x).isSome=true) ->
 (∀f,Fr (fun g=>False) H f->a (.int (DA u w n e)) f)->Ap X d "_law_worth" [Ba n,.tup [.loc b,.loc c],.loc l] H a
section
variable {u d:Nat} {w:Wd}
theorem PQ(F:BN X):FI X u w (.num i) 1:=fun H b c f l e g h hd a=>by
 refine Ao F 60 rfl (Al fun j k=>?_);exact(a H .refl)
theorem Pe(F:BN X){s:Sn}(c:u<=3)(h:ED X u w s d):FI X u w (.cnt s) (d+2):=fun H t f g l e i j hd m=>by
 refine Ao F 60 rfl (Al fun o b=>(b _ _ (Al fun o b=>?_)));refine(An (k:=d) (by omega) (h H _ f g l e i j hd fun q n a r=>?_));w_dflts r;refine⟨by rw[AG];exact AH (Ev (u:=u) (p:=Bb u w e s)) (AH c (by decide)),?_⟩;have:=m q a;rw[IB]at this;unfold FY;rw[AG,AG];exact this
theorem Md(F:BN X){a b:Nn}(p:FI X u w a d)(q:FI X u w b d):FI X u w (.less a b) (d+2):=fun H v i j l e m n hd r=>by
 refine Ao F 60 rfl (Al fun o f=>(f _ _ (Al fun o f=>(f _ _ (Al fun o f=>?_)))));refine(An (k:=d) (by omega) (p H _ i j l e m n (fun x g=>hd x (by rw[OG,g];rfl)) fun s c=>?_));refine(An (k:=d) (by omega) (q s _ i j l e (m.fr c) (n.fr c) (fun x g=>hd x (by rw[OG,g,Bool.or_true])) fun t h=>?_));have:=r t (c.trans h);rw[Hx]at this;exact this
theorem Q8(h:i.natAbs<=n)(a:autoParam (n<=9000000) dc):InLong i:=
 have k:i.natAbs<9223372036854775808:=AH (AF h a) (by decide)
 ⟨Int.le_of_lt (Mj k),M7 k⟩
theorem O9(F:BN X){b:Nn}(hu:u<=3)(t0:J.length<=2)(hM:bN b<=1000000)(u0:∀p∈J,ED X u w p.2 d)(hb:FI X u w b d):FI X u w (.sum J b) (d+2):=fun H Φ w0 w1 l e hw he hd φ=>by
 refine Ao F 60 rfl (Al fun kn hk=>(hk _ _ (Al fun kn hk=>(hk _ _ (Al fun kn hk=>(hk _ _ (Al fun kn hk=>(hk _ _ (Al fun kn v0=>?_)))))))));refine Bm ?_;refine Bp (xs:=J) (f:=Dx) (fun(Q post:List (Bool×Sn)) ρ R=>Vn fun(ws:List (Nat×En)) (nf:Nat) (o1 o2:Option V)=>WC (ρ=Yp (some (Ba (.sum J b))) (some (.tup [.loc w0,.loc w1])) (some (.loc l)) (some (.loc nf)) o1 o2) (Fr (fun S=>False) H R) (R[nf]? =some (.list (ws.map fun p=>V.loc p.1))) (∀p∈ws,Jl R u p.1 p.2/\∀x,IN post (Cp b) x=true->(p.2 x).isSome=true) (ws.length<=3 ^ Q.length) (∀f,(ws.map fun p=>DZ u w post p.2 f).sum=DZ u w J e f)) ?_ ?_ _ _
  ⟨[(l,e)],H.length,none,none,rfl,Fr.new _,Ak,fun p D=>by rw[AJ D];exact⟨he.fr (Fr.new _),hd⟩,AM _,fun f=>Int.add_zero _⟩
 .rintro Q q post ρ H1 k' e1 ⟨ws,nf,o1,o2,rfl,T,d0,f0,b0,U⟩ x0;have y0:Q.length+1<=2:=by have:=BU e1;omega
  have t1:ws.length<=3:=AF b0 (pow_le_pow_right (by decide) (le_of_lt_succ y0:Q.length<=1):3 ^ Q.length<=3 ^ 1);refine Ay (W:=fun S=>False) (.inr ⟨nf,rfl,d0,id⟩) .refl fun guard g0=>?_;refine BF (xs:=ws) (f:=(fun p=>V.loc p.1)) (fun(s E:List (Nat×En)) t R=>EC fun(C:List (Nat×En))=>QZ (t=.list (C.map fun p=>V.loc p.1)) (Fr (fun S=>False) H1 R) (∀p∈C,Jl R u p.1 p.2/\∀x,IN post (Cp b) x=true->(p.2 x).isSome=true) (C.length<=3*s.length) (∀f,(C.map fun p=>DZ u w post p.2 f).sum=(s.map fun p=>DZ u w (q::post) p.2 f).sum)) ?_ ?_ _ _
   ⟨[],rfl,.refl,(fun S h=>nomatch h),AM _,fun S=>rfl⟩
  .rintro s z E t H2 u1 g1 ⟨C,rfl,m,Y,c0,h0⟩ z0;have hz:=f0 z (by rw[g1];exact AZ _ (.head _));have A0:s.length+1<=3:=by have:=BU g1;omega
   have l0:=hz.1.fr m;refine(An (k:=d) (by omega) (u0 q (by rw[e1];exact AZ _ (.head _)) H2 _ w0 w1 z.1 z.2 ((hw.fr T).fr m) l0 (fun x hx=>hz.2 x (by rw[HN,hx];rfl)) fun H3 n3 I D0=>?_));refine Ay (W:=fun S=>False) (.inr ⟨n3,rfl,D0,id⟩) .refl fun r0 m0=>?_;refine Dy (fun n0 t R=>Ks fun(A g:List Int) (i:List (Nat×En))=>UV (FY u (Bb u w z.2 q.2)=A++g) (n0=g.map V.int) (t=.list (i.map fun p=>V.loc p.1)) (Fr (fun S=>False) H3 R) ((∀p∈i,Jl R u p.1 p.2/\∀x,IN post (Cp b) x=true->(p.2 x).isSome=true)) (i.length<=C.length+A.length) (∀f:En->Int,(i.map fun p=>f p.2).sum=(C.map fun p=>f p.2).sum+(A.map fun x=>f (upd z.2 q.1 x.toNat)).sum)) ?_ ?_ _ _ _
    ⟨[],_,C,rfl,rfl,rfl,.refl,fun p D=>⟨(Y p D).1.fr I,(Y p D).2⟩,AM _,fun f=>(Int.add_zero _).symm⟩
   .rintro v r t H4 k3 ⟨A,g,i,i1,i2,rfl,P,N,O,Z⟩ R0;cases g with
    |nil=>cases i2
    |cons a g=>
    cases i2;have S0:a∈FY u (Bb u w z.2 q.2):=by rw[i1];simp
    obtain⟨B,b1,_,rfl⟩:=Cz.mp S0;have c1:A.length<=3:=by have:=congrArg List.length i1;have:=Ev (u:=u) (p:=Bb u w z.2 q.2);rw[AI]at *;omega
    obtain⟨ks,K,h1,h2,h3,h4⟩:=((l0.fr I).fr P).at_;have i0:=Nr h3;have a0:K.length=ks.length:=by have:=congrArg List.length h2;rwa[AG,AG]at this
    refine objA_i h1 ?_;refine Ue h1 ?_;have n1:=Ak (H:=H4) (o:=.items z.1);have d1:=Au h1 [HO.items z.1];w_dflts n1;w_dflts d1;refine⟨by rw[a0];exact AF i0 (by decide),by rw[h2];exact Gl,?_⟩;generalize o0:H4++[HO.items z.1]++[HO.list (K.map fun p=>V.tup [p.1,p.2])]=H5;have f1:Fr (fun S=>False) H4 H5:=by rw[<- o0];exact(Fr.new _).app _
    have n5:H5[(H4++[HO.items z.1]).length]? =some (.list (K.map fun p=>V.tup [p.1,p.2])):=by rw[<- o0];exact Ak
    have j1:=Au n5 [HO.list [V.tup [Bl q.1,V.int B]]];have n6:=Ak (H:=H5) (o:=.list [V.tup [Bl q.1,V.int B]]);refine objA_i j1 (objA_i n6 ?_);refine⟨by rw[AG,a0];exact AR (AH (AP i0 _) (by show 3<Ar;decide)),?_⟩;rw[show(K.map fun p=>V.tup [p.1,p.2])++[V.tup [Bl q.1,V.int B]]=(K++[(Bl q.1,V.int B)]).map fun p=>V.tup [p.1,p.2]from by rw[AL];rfl];refine objA_i (Ak (H:=H5++[HO.list [V.tup [Bl q.1,V.int B]]]) (o:=.list ((K++[(Bl q.1,V.int B)]).map fun p=>V.tup [p.1,p.2]))) ?_;have k1:∀p∈K++[(Bl q.1,V.int B)],Pd 8 p.1:=fun p D=>by
     rcases AY D with D |D
     .have:p.1∈ks.map Bl:=h2▸mem_map_of_mem D;obtain⟨c,_,e⟩:=AS this;rw[<- e];exact .str _ _
     .rw[AJ D];exact .str _ _
    have l1:(K.map (·.1)).Nodup:=by rw[h2];exact List.Pairwise.map _ (fun a b q e=>q (E0 e)) h3
    have m1:BG [] (K++[(Bl q.1,V.int B)])=BK K (Bl q.1) (.int B):=by
     rw[PW,LR (l:=[]) (by rw[nil_append];exact l1),nil_append];rfl
    refine⟨_,Rd k1,by rw[AG,AI,a0];exact AR (AH (AP i0 _) (by show 3<Ar;decide)),?_⟩;rw[m1];generalize eG:H5++[HO.list [V.tup [Bl q.1,V.int B]]]++[HO.list ((K++[(Bl q.1,V.int B)]).map fun p=>V.tup [p.1,p.2])]=G;have q1:Fr (fun S=>False) H4 G:=by rw[<- eG];exact(f1.app _).app _
    have j0:Fr (fun S=>False) H4 (G++[HO.dict (BK K (Bl q.1) (.int B))]):=q1.app _;have nN:=Ak (H:=G) (o:=.dict (BK K (Bl q.1) (.int B)));have r1:Jl (G++[HO.dict (BK K (Bl q.1) (.int B))]) u G.length (upd z.2 q.1 B):=by
     have p0:∀x' a1,upd z.2 q.1 B x'=some a1->BI (BK K (Bl q.1) (.int B)) (Bl x')=some (.int a1)/\a1<u:=fun x' a1 hq=>by
      unfold upd at hq;by_cases y:x'=q.1
      .rw[if_pos y]at hq;cases hq;exact⟨by rw[y];exact B0,b1⟩
      .rw[if_neg y]at hq;obtain⟨p1,p2⟩:=h4 x' a1 hq;exact⟨(CY fun z'=>y (E0 z')).trans p1,p2⟩
     by_cases y:q.1∈ks
     .exact⟨⟨ks,_,nN,by rw[Gx (by rw[h2];exact mem_map_of_mem y)];exact h2,h3,p0⟩⟩
     .exact⟨⟨ks++[q.1],_,nN,by rw[D3 (by rw[h2];exact fun z=>y (ID.mp z)),h2,AL];rfl,List.nodup_append.mpr ⟨h3,by simp,fun a ha b' hb e=>y (by rw[AJ hb]at e;exact e▸ha)⟩,p0⟩⟩
    refine⟨by rw[AG];exact AH (AF O (AF (Ad (AF c0 (Ac 3 (le_of_succ_le A0))) c1) (by decide)):i.length<=60) (by decide),R0 _ _ (m0 _ (P.trans j0)) ⟨A++[(B:Int)],g,i++[(G.length,upd z.2 q.1 B)],by rw[i1];simp,rfl,by rw[AL];rfl,P.trans j0,fun p D=>?_,by rw[AI,AI];show _+1<=_+(_+1);exact Ab O,fun f=>?_⟩⟩
    .rcases AY D with D |D
     .exact⟨(N p D).1.fr j0,(N p D).2⟩
     .rw[AJ D];refine⟨r1,fun x hx=>?_⟩;show(upd z.2 q.1 B x).isSome=true;unfold upd;by_cases y:x=q.1
      .rw[if_pos y];rfl
      .rw[if_neg y];exact hz.2 x (by rw[HN,hx,Bool.true_and,bne_iff_ne.mpr (Ne.symm y),Bool.or_true])
    .rw[AL,D9,AL,D9,Z f];show _+(f (upd z.2 q.1 B)+0)=_+(_+(f (upd z.2 q.1 ((B:Int)).toNat)+0));rw[toNat_natCast];exact Int.add_assoc _ _ _
   .rintro t H4 ⟨A,g,i,i1,i2,rfl,P,N,O,Z⟩;cases g with
    |cons _ _=>cases i2
    |nil=>
    rw[Ah]at i1;subst i1;refine z0 _ _ (g0 _ ((m.trans I).trans P)) ⟨i,rfl,(m.trans I).trans P,N,by rw[AI,AX];exact AF O (Ad c0 (AF (Ev (u:=u) (p:=Bb u w z.2 q.2)) hu)),fun f=>?_⟩;rw[Z fun e=>DZ u w post e f,h0 f,AL,D9];show _+_=_+(DZ u w (q::post) z.2 f+0);rw[Us (F:=fun a=>DZ u w post (upd z.2 q.1 a) f),Int.add_zero];rfl
  .rintro t H2 ⟨C,rfl,m,Y,c0,h0⟩;refine(x0 _ _ trivial ⟨C,H2.length,_,_,rfl,(T.trans m).app _,Ak,fun p D=>⟨(Y p D).1.fr (Fr.new _),(Y p D).2⟩,?_,fun f=>(h0 f).trans (U f)⟩);rw[AI,AX,Nat.pow_succ];exact AF c0 (AF (Ac _ b0) (AT (mul_comm _ _)))
 .rintro ρ H1 ⟨ws,nf,o1,o2,rfl,T,d0,f0,b0,U⟩;have s1:ws.length<=9:=AF b0 (pow_le_pow_right (n:=3) (by decide) t0);refine v0 _ _ ?_;refine Ay (W:=fun S=>False) (.inr ⟨nf,rfl,d0,id⟩) .refl fun guard g0=>?_;refine BF (xs:=ws) (f:=(fun p=>V.loc p.1)) (fun(s E:List (Nat×En)) t R=>EC fun(L:List Int)=>DD (t=.list (L.map V.int)) (Fr (fun S=>False) H1 R) (L=s.map fun p=>DA u w b p.2)) ?_ ?_ _ _ ⟨[],rfl,.refl,rfl⟩
  .rintro s q E t H2 k' g1 ⟨L,rfl,m,hi⟩ hk;have hq:=f0 q (by rw[g1];exact AZ _ (.head _));have k0:L.length<=9:=by rw[hi,AG];have:=congrArg List.length g1;rw[AI]at this;omega
   refine(An (k:=d) (by omega) (hb H2 _ w0 w1 q.1 q.2 ((hw.fr T).fr m) (hq.1.fr m) hq.2 fun H3 I=>⟨by rw[AG];exact AH k0 (by decide),hk _ _ (g0 _ (m.trans I)) ⟨L++[DA u w b q.2],by rw[AL];rfl,m.trans I,by rw[hi,AL];rfl⟩⟩))
  .rintro t H2 ⟨L,rfl,m,hi⟩;have k0:L.length<=9:=by rw[hi,AG];exact s1
   have q0:∀x∈L,x.natAbs<=1000000:=fun x hx=>by
    rw[hi]at hx;obtain⟨p,_,rfl⟩:=AS hx;exact AF (Fh hu) hM
   refine objA_i (Ak (H:=H2) (o:=.list (L.map V.int))) ?_;refine⟨L,rfl,fun j=>⟨?_,?_⟩,?_⟩
   .have:(L.getD j 0).natAbs<=1000000:=by
     rw[getD_eq_getElem?_getD];refine CK (L[j]?) (fun q=>?_) fun x q=>?_
     .simp
     .exact q0 x (mem_of_getElem? q)
    exact Q8 this
   .have h2:(L.take j).length<=9:=by rw[length_take];exact AF (min_le_right _ _) k0
    exact Q8 (AF (MB (l:=L.take j) (M:=1000000) fun x hx=>q0 x (List.mem_of_mem_take hx)) (mul_le_mul_right 1000000 h2))
   .have:=φ (H2++[HO.list (L.map V.int)]) ((T.trans m).app _);rw[IM,<- U]at this;rw[hi]at this⊢;exact this
end
section
variable {u d:Nat} {w:Wd}
theorem FI.up{n:Nn}{d':Nat}(x:FI X u w n d)(h:d<=d'):FI X u w n d':=fun H a b c l e f g hd i=>(x H a b c l e f g hd i).deep h
theorem Fj(F:BN X)(c:u<=3):∀n:Nn,Pd 8 (Ba n)->VG n->bN n<=1000000->FI X u w n (2*hN n+1)
 |.num k,_,_,_=>PQ F
 |.cnt s,e,_,_=>Pe F c (De F c s (e.mem (by exact .tail _ (.head _))))
 |.less a b,e,f,g=>by
  rw[V8]at g;exact(Md F ((Fj F c a (e.mem (by exact .tail _ (.head _))) f.1 (by omega)).up (by omega:2*hN a+1<=2*max (hN a) (hN b)+1)) ((Fj F c b (e.mem (by simp)) f.2 (le_of_add_left_le g)).up (by omega))).up (by rw[TQ];omega)
 |.sum h b,e,f,g=>by
  rw[WY]at g;have i:bN b<=1000000:=AF (Nat.le_mul_of_pos_left _ (Nat.pow_pos (by decide))) g;exact(O9 F c f.1 i (fun p j=>(De F c p.2 ((e.mem (v:=.tup (h.map Dx)) (by exact .tail _ (.head _))).mem (mem_map_of_mem j) |>.mem (v:=BO p.2) (by simp[Dx]))).up (by have:=RB j;omega:2*hS p.2+1<=2*max (hD h) (hN b)+1)) ((Fj F c b (e.mem (by simp)) f.2 i).up (by omega))).up (by rw[TT];omega)
end
section
variable {W:Nat->Prop} {H:Aj} {L:CL} {C:BS} {B:Nat} {Φ:V->Aj->Prop}
theorem Kr(h:T≠[]):Dp (s::T)=DF s+2*Dp T:=by
 cases T with
 |nil=>exact absurd rfl h
 |cons c T=>rfl
theorem QF(F:BN X)(h:H[n]? =some (.list (T.map V.bool)))(K:∀g∈t,g.natAbs<T.length)(M:T.length<=1000000)(N:t.length<=60)(I:Φ (.int (Dp (t.map (tv T)))) H):Ap X 1 "_law_read" [Am t,.loc n] H Φ:=by
 have lr:(t.map V.int).length=t.length:=AG ..;refine Ao F 62 rfl (Al fun J u=>⟨by rw[lr];omega,u _ _ (Al fun J u=>?_)⟩);refine⟨by rw[lr];exact AH N (by decide),?_⟩;rw[lr];refine B1 (fun d w m=>EU (m=H) (YK fun(i:Nat) (post:List Int) (a:Int) (x y:Option V)=>QZ (i+post.length=t.length) ((∀g∈post,g∈t)) (d=((post.map V.int).zipIdx i).map (fun p=>V.tup [.int p.2,p.1])) (w=XS (some (Am t)) (some (.loc n)) (some (.int a)) (some (.int ((t.length:Int)-1))) x y) (a+2 ^ i*Dp (post.map (tv T))=Dp (t.map (tv T))))) ?_ ?_ _ _ _
  ⟨rfl,0,t,0,none,none,Nat.add_comm _ _,fun S h=>h,rfl,rfl,by rw[Int.pow_zero,Int.one_mul,Int.zero_add]⟩
 .rintro v d w m O ⟨rfl,i,post,a,x,y,j,z,o,rfl,b⟩ A;cases post with
  |nil=>cases o
  |cons g post=>
  cases o;rw[AQ]at j;have D:=K g (z g (.head _));have P:(T.map V.bool)[g.natAbs]? =some (.bool (T.getD g.natAbs false)):=by
   rw[List.getElem?_map,AD D,getD_eq_getElem?_getD,AD D];rfl
  have next:∀r:Int,r+2 ^ (i+1)*Dp (post.map (tv T))=Dp (t.map (tv T))->O (XS (some (Am t)) (some (.loc n)) (some (.int r)) (some (.int ((t.length:Int)-1))) (some (.int i)) (some (.int g))) m:=fun r Q=>
   A _ _ trivial ⟨rfl,i+1,post,r,_,_,Eq.trans (Ag _ _ _) j,fun q s=>z q (.tail _ s),rfl,rfl,Q⟩
  have k:∀R:Int,(2:Int) ^ (i+1)*R=2 ^ i*(2*R):=fun R=>by rw[Int.pow_succ,Int.mul_assoc]
  rw[AW]at b;refine(Al fun J e=>?_);w_dflts h;refine⟨_,_,rfl,Ai _,Int.lt_of_lt_of_le (Int.ofNat_lt.mpr (AK D M)) (by decide),P,?_⟩;w_left;cases s:(T.getD g.natAbs false==decide (0<g))with
  |true=>
   have f:tv T g=true:=s;rw[f]at b;w_left;refine Ce (decide ((i:Int)<(t.length:Int)-1)) (fun E=>?_) fun E=>?_
   .have G:post.map (tv T)≠[]:=fun q=>by have:=List.map_eq_nil_iff.mp q;rw[this]at j;simp at j;omega
    rw[Kr G,Int.mul_add]at b;refine⟨rfl,by omega,by omega,e _ _ (next _ ?_)⟩;rw[k];show a+2 ^ i+_=_;have:(2:Int) ^ i*DF true=2 ^ i:=Int.mul_one _;omega
   .have l:post=[]:=List.length_eq_zero_iff.mp (by omega);subst l;refine⟨rfl,by omega,by omega,e _ _ (next _ ?_)⟩;show a + -(2 ^ i)+2 ^ (i+1)*0=_;have b:a+2 ^ i * -1=Dp (t.map (tv T)):=b;have:(2:Int) ^ i * -1= -(2 ^ i):=by rw[Int.mul_neg,Int.mul_one]
    omega
  |false=>
   have f:tv T g=false:=s;rw[f]at b;refine e _ _ (next a ?_);rw[k];cases post with
   |nil=>
    rw[<- b];rfl
   |cons c post=>
    rw[AW,Kr (cons_ne_nil _ _)]at b;have b:a+2 ^ i*(0+2*Dp (tv T c::post.map (tv T)))=Dp (t.map (tv T)):=b;rw[Int.zero_add]at b;exact b
 .rintro w m ⟨rfl,i,post,a,x,y,j,z,o,rfl,b⟩;cases post with
  |cons _ _=>cases o
  |nil=>
  refine u _ _ ?_;rw[map_nil,show Dp []=0 from rfl,Int.mul_zero,Int.add_zero]at b;rw[<- b]at I;exact I
theorem L0(F:BN X){ρ₀:Nat->Bool}(x:BC W H L C B)(h:H[n]? =some (.dict m))(hr:∀i:Nat,C[i]? =some none->BI m (.int ((i:Int)+2))=some (.bool (ρ₀ (i+2))))
  (φ:∀q u,Fr (fun G=>False) H q->q[u]? =some (.list ((Ij ρ₀ C).map V.bool))->Φ (.loc u) q):Ap X 3 "_law_truths" [.loc L.c,.loc n] H Φ:=by
 have sm:=x.small;refine Ao F 61 rfl (Al fun kn Y=>(Y _ _ (Al fun kn Y=>?_)));have J:Fr (fun G=>False) H (H++[HO.list [V.bool false,V.bool true]]):=Fr.new _;have x1:=x.fr J;have t:=x1.tg (m:= "size") (p:= "Circuit.size");w_dflts t;unfold Ar at sm;refine An (by decide) (Of F x1 ⟨by decide,by omega,?_⟩);refine Df Ak (by decide) (by omega) (.inl rfl) ?_;have er:Bc 2 ((C.length:Int)+1+1) 1=(range' 0 C.length).map fun k:Nat=>V.int ((k:Int)+2):=by
  unfold Bc;rw[if_pos (by decide),show(((C.length:Int)+1+1-2+1-1) / 1).toNat=C.length by omega,range_eq_range'];exact map_congr_left fun k G=>by rw[show(2:Int)+1*(k:Int)=(k:Int)+2 by rw[Int.one_mul,Int.add_comm]]
 rw[er];refine B1 (fun j Z q=>Dd fun(i:Nat) (o:Option V)=>QZ (i+j.length=C.length) (j=((range' i j.length).map fun k:Nat=>V.int ((k:Int)+2))) (Z=Yc (some (.loc L.c)) (some (.loc n)) (some (.loc H.length)) o) (Fr (fun G=>False) H q) (q[H.length]? =some (.list ((Ij ρ₀ (C.take i)).map V.bool)))) ?_ ?_ _ _ _
  ⟨0,none,by rw[AG,length_range'];exact Nat.add_comm _ _,by rw[AG,length_range'],rfl,J.app _,Au Ak _⟩
 .rintro v r Z q k' ⟨i,o,w,e2,rfl,fr,s⟩ K;rw[AQ,range'_succ,AW]at e2;obtain⟨rfl,M⟩:=List.cons.inj e2;rw[AQ]at w;have y:i<C.length:=AK (Nat.lt_sub_of_add_lt (AT w)) (sub_le _ _);obtain⟨A,e⟩:∃A,C[i]? =some A:=⟨_,AD y⟩;have U:=x.fr fr;have a0:C.take (i+1)=C.take i++[A]:=by rw[take_succ,e];rfl
  have l:(Ij ρ₀ (C.take i)).length=i+2:=by rw[Er,length_take];omega
  have nw:∀b:Bool,b=ev ρ₀ (Ij ρ₀ (C.take i)) A->(Ij ρ₀ (C.take i)).map V.bool++[V.bool b]=(Ij ρ₀ (C.take (i+1))).map V.bool:=fun b hb=>by
   rw[a0,HP,AL,<- hb];rfl
  have b0:(CO C)[((i:Int)+2).natAbs]? =some (kindOf A):=by
   rw[show((i:Int)+2).natAbs=i+2 from rfl];show(C.map _)[i]? =_;rw[List.getElem?_map,e];cases A<;>rfl
  refine(Al fun kn N=>?_);have t:=U.tg (m:= "kind") (p:= "Circuit.kind");w_dflts t;refine An (by decide) (QM F U (by omega) b0 ?_);cases A with
  |none=>
   refine objA_i s ?_;refine objA_i (fr.old h id) ?_;refine⟨_,.int _ _,hr i e,?_⟩;refine Bf s (by rw[AG,l];exact AV (Nat.add_lt_add y (by decide:2<8)) x.small) (N _ _ ?_);rw[nw (ρ₀ (i+2)) (by rw[ev,l])];exact K _ _ trivial ⟨i+1,_,Eq.trans (Ag _ _ _) w,M,rfl,fr.set (.inl (AM _)) _,BE s⟩
  |some I=>
   refine objA_i s ?_;refine tg_i (U.tg (m:= "parts") (p:= "Circuit.parts")) fun G=>?_;have c0:(Cv C)[((i:Int)+2).natAbs]? =some (Am I):=by
    rw[show((i:Int)+2).natAbs=i+2 from rfl];show(C.map _)[i]? =_;rw[List.getElem?_map,e];rfl
   refine An (by decide) (Mg F U (by omega) c0 ?_);have g0:=x.sh i I e;refine Bm ?_;generalize hT:Ij ρ₀ (C.take i)=T at s nw l;refine BF (xs:=I) (f:=V.int) (fun(D post:List Int) E d=>EU (d=q) (E=.list ((D.filter fun g=> !tv T g).map V.int))) ?_ ?_ _ _ ⟨rfl,rfl⟩
   .rintro D g post E d h0 f1 ⟨rfl,rfl⟩ O;have P:g.natAbs<T.length:=by rw[l];exact(x.wf i I e g (by rw[f1];exact AZ _ (.head _))).2
    have gT:(T.map V.bool)[g.natAbs]? =some (.bool (T.getD g.natAbs false)):=by
     rw[List.getElem?_map,AD P,getD_eq_getElem?_getD,AD P];rfl
    have Q:D.length<=60:=by have:=BU f1;omega
    w_dflts s;refine⟨_,_,rfl,Ai _,by omega,gT,?_⟩;w_left;have d0:(T.getD g.natAbs false != decide (0<g))= !tv T g:=by unfold tv;rfl
    rw[d0];refine Ce (tv T g) (fun hq=>?_) fun hq=>?_
    .refine O _ _ trivial ⟨rfl,?_⟩;rw[filter_append,filter_cons,hq];simp
    .refine⟨by rw[AG];exact AH (AF (Af _ _) Q) (by decide),O _ _ trivial ⟨rfl,?_⟩⟩;rw[filter_append,filter_cons,hq,AL];rfl
   .rintro E d ⟨rfl,rfl⟩;generalize f0:I.filter (fun g=> !tv T g)=l2;refine objA_i (Au (Ak (H:=d) (o:=.list (l2.map V.int))) [HO.list []]) (objA_i (Ak (H:=d++[HO.list (l2.map V.int)]) (o:=.list [])) ?_);refine⟨.tup fun v hv=>(by obtain⟨z,_,rfl⟩:=AS hv;exact .int _ _),.tup fun G h=>(by cases h),?_⟩;have R:Fr (fun G=>False) d (d++[HO.list (l2.map V.int)]++[HO.list []]):=(Fr.new _).app _;have S:=R.old s id;have eb:BY.peqs (l2.map V.int) []=ev ρ₀ T (some I):=by
     rw[ev,Bool.eq_iff_iff,Fp,List.map_eq_nil_iff,<- f0,List.filter_eq_nil_iff,all_eq_true];exact⟨fun h a ha=>by have:=h a ha;simpa using this,fun h a ha=>by rw[h a ha];decide⟩
    rw[eb];refine Bf S (by rw[AG,l];exact AV (Nat.add_lt_add y (by decide:2<8)) x.small) (N _ _ ?_);rw[nw _ rfl];exact K _ _ trivial ⟨i+1,_,Eq.trans (Ag _ _ _) w,M,rfl,(fr.trans R).set (.inl (AM _)) _,BE S⟩
 .rintro Z q ⟨i,o,w,e2,rfl,fr,s⟩;refine Y _ _ (φ q _ fr ?_);rw[length_nil,Nat.add_zero]at w;rw[w,take_length]at s;exact s
end
abbrev Qs:=List (Int×List Int)
def Bv(Q:Qs):List V:=Q.zipIdx.map fun p=>V.tup [.int p.1.1,Am p.1.2,.int ((p.2:Int)+2)]
theorem EI{Q:Qs}{q:Int×List Int}(h:Q[k]? =some q):(Bv Q)[k]? =some (.tup [.int q.1,Am q.2,.int ((k:Int)+2)]):=by
 unfold Bv;rw[List.getElem?_map,List.getElem?_zipIdx,h];simp
theorem Bs{Q:Qs}:(Bv Q).length=Q.length:=by unfold Bv;rw[AG,length_zipIdx]
def F3(a:List Nat)(j:Nat):Bool:=a.contains (j-2)
def Zn(Q:Qs)(a:List Nat):Qs:=a.filterMap fun k=>Q[k]?
def UL(s:Stmt):List Stmt:=if h:s.ctorIdx=9 then Stmt.For.elim (motive_2:=fun a=>List Stmt) s h fun a a b a a=>b else[]
def JF:List Stmt:=UL (E2 (Bg (Bt 63)) 19)
theorem GM:(k:Int).toNat=k:=toNat_natCast k
theorem Rw:V.int n∈i0.map (fun k:Nat=>V.int k)↔n∈i0:=⟨fun h=>by obtain⟨c,a,b⟩:=AS h;rw[<- Int.ofNat_inj.mp (V.int.inj b)];exact a,fun h=>mem_map_of_mem h⟩
theorem TM:((i0.map fun k:Nat=>V.int k).any fun u=>BY u (.int n))=i0.contains n:=by
 rw[Bool.eq_iff_iff,FX,Rw,contains_iff_mem]
section
variable {d:Nat} {H:Aj} {Φ:V->Aj->Prop} {la lap:Nat} {Q:Qs} {kn:BA->Aj->Prop}
abbrev JH:List (Str×NameKind):=Cn (Bt 63)
theorem Tm(F:BN X){z A B C D E G I J g i j l m o w p r s t:Option V}(h:H[la]? =some (.list (Bv Q)))(M:Q.length<=60)
  (N:∀b n (a:List Nat),Fr (fun O=>False) H b->H.length<=n->b[n]? =some (.list (a.map fun k:Nat=>V.int k))->a.Sublist (List.range Q.length)->kn (CF z A B C D E G I J g i j l m o (some (.loc la)) (some (.int lap)) (some (.loc n)) p r s t) b) :
  Lj X d (E2 JF 0) JH (CF z A B C D E G I J g i j l m o (some (.loc la)) (some (.int lap)) w p r s t) H kn Φ:=by
 w_dflts h;refine⟨by rw[Bs];omega,by rw[Bs];omega,?_⟩;rw[Bs];have u:Fr (fun O=>False) H (H++[HO.range 0 Q.length 1]):=Fr.new _;refine Bw Ak (by omega) ?_;refine BF (xs:=(range' 0 Q.length)) (f:=(fun k:Nat=>V.int k)) (fun(c post:List Nat) e b=>EU (b=H++[HO.range 0 Q.length 1]) (EC fun(a:List Nat)=>EU (e=.list (a.map fun k:Nat=>V.int k)) (a.Sublist c))) ?_ ?_ _ _ ⟨rfl,[],rfl,.slnil⟩
 .rintro c q post e b P K ⟨rfl,a,rfl,v⟩ L;have x:q<Q.length:=by
   have:q∈range' 0 Q.length:=by rw[K];simp
   have:=mem_range'_1.mp this;exact AK this.2 (AT (Nat.add_comm _ _))
  have y:c.length<=60:=by have:=BU K;rw[length_range']at this;omega
  refine⟨Ai _,Ai _,Int.lt_of_lt_of_le (Int.ofNat_lt.mpr (AK x M)) (by decide),(Int.ediv_nonneg (Ai _) (Int.pow_nonneg (by decide))),rfl,?_⟩;w_left;cases R:((lap:Int) / 2 ^ ((q:Int).toNat) % 2==1)with
  |true=>exact⟨by rw[AG];exact AH (AF v.length_le y) (by decide),L _ _ trivial ⟨rfl,a++[q],by rw[AL];rfl,v.append (.refl _)⟩⟩
  |false=>exact L _ _ trivial ⟨rfl,a,rfl,v.trans (List.sublist_append_left _ _)⟩
 .rintro e b ⟨rfl,a,rfl,v⟩;refine N _ _ a (u.app _) u.len Ak ?_;rw[range_eq_range'];exact v
end
section
variable {d:Nat} {H:Aj} {Φ:V->Aj->Prop} {la lap lh:Nat} {Q:Qs} {had:List Nat} {kn:BA->Aj->Prop} {W:Nat->Prop} {L:CL} {C:BS} {B:Nat}
 {a1 a2 a3 a4 a5 a6 a7 a8 a9 a10 a11 a12 a13 a14 a15 o17 o18 o19 o20 o21 o22:Option V}
def K2(Q:Qs)(had:List Nat):List V:=had.filterMap fun k:Nat=>(Q[k]?).map fun q=>V.tup [.int q.1,Am q.2,.int ((k:Int)+2)]
theorem Zo{b c:V}:(seqIndex? 2 [v,b,c].length).bind ([v,b,c][·]?)=some c:=by rfl
theorem Mq(F:BN X)(hd:4<=d)(x:BC W H L C B)(h:H[la]? =some (.list (Bv Q)))(hh:H[lh]? =some (.list (had.map fun k:Nat=>V.int k)))(S:Q.length<=60)(hn:L.n=Q.length)
  (φ:∀j n,Fr (fun T=>False) H j->j[n]? =some (.list ((Ij (F3 had) C).map V.bool))->kn (CF a1 a2 a3 a4 a5 a6 a7 a8 a9 a10 a11 (some (.loc L.c)) a13 a14 a15 (some (.loc la)) o17 (some (.loc lh)) (some (.loc n)) o20 o21 o22) j) :
  Lj X d (E2 JF 1) JH (CF a1 a2 a3 a4 a5 a6 a7 a8 a9 a10 a11 (some (.loc L.c)) a13 a14 a15 (some (.loc la)) o17 (some (.loc lh)) o19 o20 o21 o22) H kn Φ:=by
 w_dflts h;refine⟨by rw[Bs];omega,by rw[Bs];omega,?_⟩;rw[Bs];generalize w:H++[HO.range 0 Q.length 1]=U;have m:Fr (fun T=>False) H U:=by rw[<- w];exact Fr.new _
 have h1:=m.old h id;have G:=m.old hh id;refine Bw (by rw[<- w];exact Ak) (by omega) ?_;refine BF (xs:=(range' 0 Q.length)) (f:=(fun k:Nat=>V.int k)) (fun(g post:List Nat) s j=>EU (j=U) (s=.list ((g.map fun k:Nat=>(V.int ((k:Int)+2),V.bool (had.contains k))).map fun p=>V.tup [p.1,p.2]))) ?_ ?_ _ _ ⟨rfl,rfl⟩
 .rintro g q post s j k' u ⟨rfl,rfl⟩ hk;have y:q<Q.length:=by
   have:q∈range' 0 Q.length:=by rw[u];simp
   have:=mem_range'_1.mp this;exact AK this.2 (AT (Nat.add_comm _ _))
  have t:g.length<=60:=by have:=BU u;rw[length_range']at this;omega
  obtain⟨z,hz⟩:∃z,Q[q]? =some z:=⟨_,AD y⟩;w_dflts h1;refine⟨_,_,rfl,Ai _,Int.lt_of_lt_of_le (Int.ofNat_lt.mpr (AK y S)) (by decide),(by rw[GM];exact EI hz),?_⟩;w_dflts G;refine⟨.tup fun v I=>?_,?_⟩
  .rcases Ae I with rfl |I
   .exact .int _ _
   .obtain⟨c,_,rfl⟩:=AS I;exact .int _ _
  rw[TM];refine⟨by rw[AG,AG];exact AH t (by decide),hk _ _ trivial ⟨rfl,?_⟩⟩;rw[AL,AL];rfl
 .rintro s j ⟨rfl,rfl⟩;generalize u:(range' 0 Q.length)=g;have nl:=Ak (H:=j) (o:=.list ((g.map fun k:Nat=>(V.int ((k:Int)+2),V.bool (had.contains k))).map fun p=>V.tup [p.1,p.2]));have t:g.length<=60:=by have:=congrArg List.length u;rw[length_range']at this;exact AF (AT (Eq.symm this)) S
  w_dflts nl;have A:g.Nodup:=by rw[<- u];exact List.nodup_range'
  have J:((g.map fun k:Nat=>(V.int ((k:Int)+2),V.bool (had.contains k))).map (·.1)).Nodup:=by
   rw[List.map_map];exact List.Pairwise.map _ (fun a b q e=>q (by have:=V.int.inj e;omega)) A
  refine⟨_,Rd (fun p hp=>by obtain⟨c,_,rfl⟩:=AS hp;exact .int _ _),by rw[AG,AG];exact AF t (by decide),?_⟩;rw[LR (l:=[]) (by rw[nil_append];exact J),nil_append];generalize K:j++[HO.list ((g.map fun k:Nat=>(V.int ((k:Int)+2),V.bool (had.contains k))).map fun p=>V.tup [p.1,p.2])]=H2;have D:Fr (fun T=>False) H (H2++[HO.dict (g.map fun k:Nat=>(V.int ((k:Int)+2),V.bool (had.contains k)))]):=by rw[<- K];exact(m.app _).app _
  refine An (k:=3) hd (L0 F (ρ₀:=F3 had) (x.fr D) Ak (fun i hi=>?_) fun H3 n M N=>(φ H3 n (D.trans M) N));have E:=x.ip i hi;rw[hn]at E;have O:i∈g:=by rw[<- u];exact mem_range'_1.mpr ⟨zero_le _,lt_add_left _ E⟩
  have P:F3 had (i+2)=had.contains i:=by unfold F3;rw[Nat.add_sub_cancel]
  rw[P];have R:∀l:List Nat,l.Nodup->i∈l->BI (l.map fun k:Nat=>(V.int ((k:Int)+2),V.bool (had.contains k))) (.int ((i:Int)+2))=some (.bool (had.contains i)):=by
   intro l nd Y;induction l with
   |nil=>cases Y
   |cons a r Z=>
    rw[nodup_cons]at nd;unfold BI at Z⊢;rw[AW,find?_cons];by_cases e:a=i
    .subst e;have:BY (V.int ((a:Int)+2)) (V.int ((a:Int)+2))=true:=(BB _ _).mpr rfl;simp only[this];rfl
    .have:BY (V.int ((a:Int)+2)) (V.int ((i:Int)+2))=false:=Bool.eq_false_iff.mpr fun q=>e (by have:=V.int.inj ((BB _ _).mp q);omega);simp only[this];exact Z nd.2 (mem_of_ne_of_mem (fun q=>e q.symm) Y)
  exact R g A O
theorem R9(F:BN X)(h:H[la]? =some (.list (Bv Q)))(r:H[lh]? =some (.list (had.map fun k:Nat=>V.int k)))(s:Q.length<=60)(l:had.Sublist (List.range Q.length))
  (t:∀e n a,Fr (fun u=>False) H e->e[n]? =some (.list a)->a.length<=60->a=K2 Q had->kn (CF a1 a2 a3 a4 a5 a6 a7 a8 a9 a10 a11 a12 a13 a14 a15 (some (.loc la)) o17 (some (.loc lh)) o19 (some (.loc n)) o21 o22) e) :
  Lj X d (E2 JF 2) JH (CF a1 a2 a3 a4 a5 a6 a7 a8 a9 a10 a11 a12 a13 a14 a15 (some (.loc la)) o17 (some (.loc lh)) o19 o20 o21 o22) H kn Φ:=by
 refine Ay (W:=fun u=>False) (.inr ⟨lh,rfl,r,id⟩) .refl fun guard m=>?_;refine BF (xs:=had) (f:=(fun k:Nat=>V.int k)) (fun(b post:List Nat) g e=>EU (e=H) (EC fun(a:List V)=>DD (g=.list a) (a.length<=b.length) (a=K2 Q b))) ?_ ?_ _ _ ⟨rfl,[],rfl,AM _,rfl⟩
 .rintro b q post g e w o ⟨rfl,a,rfl,c,ev⟩ v;have j:q<Q.length:=List.mem_range.mp (l.subset (by rw[o];exact AZ _ (.head _)));have i:b.length<=60:=by have:=l.length_le;have:=congrArg List.length o;rw[AI]at this;rw[length_range]at *;omega
  obtain⟨z,p⟩:∃z,Q[q]? =some z:=⟨_,AD j⟩;w_dflts h;refine⟨_,_,rfl,Ai _,Int.lt_of_lt_of_le (Int.ofNat_lt.mpr (AK j s)) (by decide),(by rw[GM];exact EI p),?_⟩;refine⟨AH (AF c i) (by decide),v _ _ (m _ .refl) ⟨rfl,_,rfl,by rw[AI,AI];exact AP c 1,?_⟩⟩;unfold K2 at ev⊢;rw[List.filterMap_append,ev,filterMap_cons,p];rfl
 .rintro g e ⟨rfl,a,rfl,c,ev⟩;have i:had.length<=60:=by have:=l.length_le;rw[length_range]at this;omega
  exact(t _ _ a (Fr.new _) Ak (AF c i) ev)
end
abbrev Lt:=List ((Int×List Int)×Int)
def lV(p:(Int×List Int)×Int):V:=.tup [.int p.1.1,Am p.1.2,.int p.2]
def EB(Q:Qs)(a:List Nat):Lt:=a.filterMap fun k:Nat=>(Q[k]?).map fun q=>(q,(k:Int)+2)
theorem Sh{Q:Qs}:∀{a:List Nat},K2 Q a=(EB Q a).map lV:=by
 intro d;induction d with
 |nil=>
  exact rfl
 |cons k r b=>
  have c:=b;unfold K2 EB at c⊢;rw[filterMap_cons,filterMap_cons];cases Q[k]? with
  |none=>exact c
  |some q=>rw[map_some,map_some,AW,<- c];rfl
def CD(L:Lt)(c:Int):List (List Int):=(L.filter fun p=>p.1.1==c).map (·.1.2)
theorem JG{c:Int}(f:K H)
  (step:∀(p:(Int×List Int)×Int)(l:List (List Int))(d:HO->Aj->Prop),l.length<=60->d (.list ((if(p.1.1==c)=true then l++[p.1.2]else l).map Am)) H->w (lV p) (.list (l.map Am)) H d) :
  ∀(L:Lt)(l:List (List Int)),l.length+L.length<=60->N (.list ((l++CD L c).map Am)) H->CU w K (L.map lV) (.list (l.map Am)) H N:=by
 intro g;induction g with
 |nil=>
  intro l _ a;rw[show CD [] c=[]from rfl,Ah]at a;exact a
 |cons p r e=>
  intro l b a;rw[AQ]at b;refine step p l _ (by omega) ⟨f,?_⟩;unfold CD at a;rw[filter_cons]at a;by_cases h:(p.1.1==c)=true
  .rw[if_pos h]at a⊢;refine e (l++[p.1.2]) (by rw[AI,AX];exact AF (AT (Ag _ _ _)) b) ?_;rw[append_assoc];exact a
  .rw[if_neg h]at a⊢;exact e l (AR b) a
section
variable {d:Nat} {H:Aj} {Φ:V->Aj->Prop} {s0 d0 s1 d1 ln u:Nat} {S0 S1:List (List Int)} {Lz:Lt} {kn:BA->Aj->Prop} {w:Wd}
 {a1 a2 a3 a4 a5 a6 a7 a8 a9 a10 a11 a12 a13 a14 a15 o16 o17 o18 o19 o20 o21 o22:Option V}
theorem OD{b:Int}(h:Ge (Am [i]) (Am [b])=true):i<b:=by
 have h:(if i=b then DY [] []else decide (i<b))=true:=h
 by_cases e:i=b
 .rw[if_pos e]at h;cases h
 .rw[if_neg e]at h;exact of_decide_eq_true h
theorem Pq(F:BN X)(T:H[s0]? =some (.list (S0.map Am)))(U:H[s1]? =some (.list (S1.map Am)))(B:H[ln]? =some (.list (Lz.map lV)))(M:S0.length+Lz.length<=50)(h0:S1.length+Lz.length<=50)
  (Y:Un u (S0++CD Lz 0)) (nd:(S0++CD Lz 0).Nodup) (C:∀t∈S1++CD Lz 1,Dd fun(a b:Nat)=>DD (a<u) (b<u) (t=[(a:Int),(b:Int)])) (l9:(S1++CD Lz 1).length<=9)
  (Z:∀a:Nat,a<u->(w.s a=true↔[(a:Int)]∈S0++CD Lz 0)) (wr:∀a b:Nat,a<u->b<u->(w.r a b=true↔[(a:Int),(b:Int)]∈S1++CD Lz 1))
  (φ:∀f w0 w1,Fr (fun k=>False) H f->HH f u w w0 w1->kn (CF a1 a2 a3 (some (.tup [.loc s0,.loc d0])) (some (.tup [.loc s1,.loc d1])) a6 a7 a8 a9 a10 a11 a12 a13 a14 a15 o16 o17 o18 o19 (some (.loc ln)) (some (.tup [.loc w0,.loc w1])) o22) f) :
  Lj X d (E2 JF 3) JH (CF a1 a2 a3 (some (.tup [.loc s0,.loc d0])) (some (.tup [.loc s1,.loc d1])) a6 a7 a8 a9 a10 a11 a12 a13 a14 a15 o16 o17 o18 o19 (some (.loc ln)) o21 o22) H kn Φ:=by
 have step:∀(c:Int)(p:(Int×List Int)×Int)(l:List (List Int))(i:HO->Aj->Prop)(H:Aj),l.length<=60->i (.list ((if(p.1.1==c)=true then l++[p.1.2]else l).map Am)) H ->
   (if(p.1.1==c)=true then(l.map Am).length<Ar/\i (.list (l.map Am++[Am p.1.2])) H else i (.list (l.map Am)) H):=fun c p l i H M h=>by
  by_cases q:(p.1.1==c)=true
  .rw[if_pos q]at h⊢;rw[AL]at h;exact⟨by rw[AG];exact AH M (by decide),h⟩
  .rw[if_neg q]at h⊢;exact h
 refine Ay (W:=fun k=>False) (.inr ⟨ln,rfl,B,id⟩) .refl fun guard a0=>?_;refine JG (c:=0) (a0 _ .refl) (fun p l i m h=>(step 0 p l i H m h)) Lz [] (by simp;omega) ?_;rw[nil_append];generalize b0:CD Lz 0=g at Y nd Z;have D:g.length<=Lz.length:=by rw[<- b0];unfold CD;rw[AG];exact Af _ _
 have f1:Fr (fun k=>False) H (H++[HO.list (g.map Am)]):=Fr.new _;refine objA_i (f1.old T id) (objA_i (Ak (H:=H) (o:=.list (g.map Am))) ?_);refine⟨by rw[AG,AG];exact AR (AH (by omega:S0.length+g.length<=60) (by decide)),?_⟩;rw[<- AL];refine objA_i (Ak (H:=H++[HO.list (g.map Am)]) (o:=.list ((S0++g).map Am))) ?_
 try (delta Ee;dsimp only)
 refine Bz (by rw[AI];exact AH (AF (AO D _) M) (by decide)) nd (Lw Y) fun n N hs=>?_;generalize E:H++[HO.list (g.map Am)]++[HO.list ((S0++g).map Am)]++[HO.list (n.map Am)]=H3;have f3:Fr (fun k=>False) H H3:=by rw[<- E];exact((f1.app _).app _)
 have n3:H3[(H++[HO.list (g.map Am)]++[HO.list ((S0++g).map Am)]).length]? =some (.list (n.map Am)):=by rw[<- E];exact Ak
 have j:Un u n:=fun t z=>Y t (N.mem_iff.mp z);have i0:n.length<=50:=by have:=N.length_eq;rw[AI]at this;exact AF (AT this) (AF (AO D _) M)
 refine Ay (W:=fun k=>False) (.inr ⟨_,rfl,n3,id⟩) .refl fun O G=>?_;refine Dy (fun I y f=>EU (f=H3) (Dd fun(e post:List (List Int))=>DD (n=e++post) (I=post.map Am) (y=.list ((e.map hd).map V.int)))) ?_ ?_ _ _ _ ⟨rfl,[],n,rfl,rfl,rfl⟩
 .rintro v r y f i ⟨rfl,e,post,A,P,rfl⟩ hk;cases post with
  |nil=>cases P
  |cons q post=>
  cases P;obtain⟨a,J,rfl⟩:=j q (by rw[A];exact AZ _ (.head _));have c0:e.length<=50:=by have:=BU A;omega
  exact⟨by rw[AG,AG];exact AH c0 (by decide),hk _ _ (G _ .refl) ⟨rfl,e++[[(a:Int)]],post,by rw[A];simp,rfl,by rw[AL,AL];rfl⟩⟩
 .rintro y f ⟨rfl,e,post,A,P,rfl⟩;cases post with
  |cons _ _=>cases P
  |nil=>
  rw[Ah]at A;subst A;have eA:n.map hd=FY u w.s:=by
   refine Es ?_ Fm fun x=>?_
   .refine List.pairwise_map.mpr ((List.pairwise_map.mp hs).imp_of_mem fun{s t} hs z h=>?_);obtain⟨a,_,rfl⟩:=j s hs;obtain⟨b,_,rfl⟩:=j t z;exact OD h
   .rw[Cz,mem_map];constructor
    .rintro⟨t,z,rfl⟩;obtain⟨a,J,rfl⟩:=j t z;exact⟨a,J,(Z a J).mpr (N.mem_iff.mp z),rfl⟩
    .rintro⟨a,J,h,rfl⟩;exact⟨_,N.mem_iff.mpr ((Z a J).mp h),rfl⟩
  rw[eA];have Q:Fr (fun k=>False) f (f++[HO.list ((FY u w.s).map V.int)]):=Fr.new _;refine Ay (W:=fun k=>False) (.inr ⟨ln,rfl,(Q.old (f3.old B id) id),id⟩) .refl fun R K=>?_;refine JG (c:=1) (K _ .refl) (fun p l i m h=>(step 1 p l i _ m h)) Lz [] (by simp;omega) ?_;rw[nil_append];generalize f0:CD Lz 1=L at C l9 wr;have j0:L.length<=Lz.length:=by rw[<- f0];unfold CD;rw[AG];exact Af _ _
  generalize g0:f++[HO.list ((FY u w.s).map V.int)]=S at Q;have n5:S[f.length]? =some (.list ((FY u w.s).map V.int)):=by rw[<- g0];exact Ak
  have f6:Fr (fun k=>False) S (S++[HO.list (L.map Am)]):=Fr.new _;refine objA_i (f6.old (Q.old (f3.old U id) id) id) (objA_i (Ak (H:=S) (o:=.list (L.map Am))) ?_);refine⟨by rw[AG,AG];exact AR (AH (by omega:S1.length+L.length<=60) (by decide)),?_⟩;rw[<- AL];refine(φ _ _ _ (f3.trans ((Q.trans f6).app _)) ⟨(f6.app _).old n5 id,S1++L,Ak,l9,C,wr⟩)
end
theorem Nx:Pd (n+1) (.tup (t.map V.int)):=.tup fun v a=>by obtain⟨c,_,rfl⟩:=AS a;exact .int _ _
def Sp(u:Nat)(w:Wd)(b n:Nn)(c:List Int):List Int:=DA u w b e0::c.map fun a=>DA u w n (upd e0 false a.toNat)
section
variable {d:Nat} {H:Aj} {Φ:V->Aj->Prop} {u w0 w1 ll:Nat} {wh n:Nn} {as:List Int} {kn:BA->Aj->Prop} {w:Wd}
 {a1 a2 a3 a4 a5 a6 a7 a8 a9 a10 a11 a12 a13 a14 a15 o16 o17 o18 o19 o20 o21 o22:Option V}
theorem TO(F:BN X){v:Nat}(O:FI X u w wh k)(P:FI X u w n v)(z:k<d)(A:v<d)(J:HH H u w w0 w1)(B:H[ll]? =some (.list (as.map V.int)))(C:∀a∈as,0<=a/\a<u)(Q:as.length<=9)(R:∀x,Cp wh x=false)(S:∀x,Cp n x=true->x=false)
  (T:∀b g,Fr (fun l=>False) H b->b[g]? =some (.list ((Sp u w wh n as).map V.int))->kn (CF a1 a2 a3 a4 a5 a6 (some (Ba n)) a8 a9 (some (Ba wh)) a11 a12 a13 (some (.loc ll)) a15 o16 o17 o18 o19 o20 (some (.tup [.loc w0,.loc w1])) (some (.loc g))) b) :
  Lj X d (E2 JF 4) JH (CF a1 a2 a3 a4 a5 a6 (some (Ba n)) a8 a9 (some (Ba wh)) a11 a12 a13 (some (.loc ll)) a15 o16 o17 o18 o19 o20 (some (.tup [.loc w0,.loc w1])) o22) H kn Φ:=by
 have m:Fr (fun l=>False) H (H++[HO.dict (BG [] [])]):=Fr.new _;refine An (k:=k) z (O _ _ w0 w1 H.length e0 (J.fr m) ⟨⟨[],[],Ak,rfl,.nil,fun x a q=>by cases q⟩⟩ (fun x t=>by rw[R x]at t;cases t) fun K D=>?_);w_left;generalize p:K++[HO.list [V.int (DA u w wh e0)]]=E;have h:Fr (fun l=>False) H E:=by rw[<- p];exact(m.trans D).app _
 have U:E[K.length]? =some (.list [V.int (DA u w wh e0)]):=by rw[<- p];exact Ak
 refine Ay (W:=fun l=>False) (.inr ⟨ll,rfl,(h.old B id),id⟩) .refl fun guard G=>?_;refine BF (xs:=as) (f:=V.int) (fun(i post:List Int) j b=>EU (Fr (fun l=>False) E b) (j=.list ((i.map fun a=>DA u w n (upd e0 false a.toNat)).map V.int))) ?_ ?_ _ _ ⟨.refl,rfl⟩
 .rintro i q post j b k' M ⟨c,rfl⟩ Y;obtain⟨Z,qu⟩:=C q (by rw[M];exact AZ _ (.head _));have I:i.length<=9:=by have:=BU M;omega
  refine⟨.str _ _,?_⟩;have e:Fr (fun l=>False) b (b++[HO.dict (BG [] [(sS "x",V.int q)])]):=Fr.new _;refine An (k:=v) A (P _ _ w0 w1 b.length (upd e0 false q.toNat) ((J.fr h).fr (c.trans e)) ⟨⟨[false],[(sS "x",.int q)],Ak,rfl,by simp,fun x a r=>?_⟩⟩ (fun x t=>?_) fun H6 s=>⟨by rw[AG,AG];exact AH I (by decide),Y _ _ (G _ ((c.trans e).trans s)) ⟨(c.trans e).trans s,by rw[AL,AL];rfl⟩⟩)
  .unfold upd at r;by_cases y:x=false
   .rw[if_pos y]at r;cases r;subst y;exact⟨by show some (V.int q)=some (V.int ((q.toNat:Nat):Int));rw[show((q.toNat:Nat):Int)=q by omega],(Int.toNat_lt Z).mpr qu⟩
   .rw[if_neg y]at r;cases r
  .rw[S x t];unfold upd;rw[if_pos rfl];rfl
 .rintro j b ⟨c,rfl⟩;generalize N:(as.map fun a=>DA u w n (upd e0 false a.toNat))=L;have lL:L.length<=9:=by rw[<- N,AG];exact Q
  have e:Fr (fun l=>False) b (b++[HO.list (L.map V.int)]):=Fr.new _;refine objA_i (e.old (c.old U id) id) (objA_i (Ak (H:=b) (o:=.list (L.map V.int))) ?_);refine⟨by rw[AG];exact AR (AH (AO lL _) (by show 1+9<Ar;decide)),T _ _ ((h.trans c).trans (e.app _)) ?_⟩;unfold Sp;rw[N,AW];exact Ak
theorem WT(F:BN X){lo lt:Nat}(hd:2<=d)(i:H[lo]? =some (.list (S.map Am)))(j:H[lt]? =some (.list (T.map V.bool)))(y:H[k]? =some (.list (t.map V.int)))(z:∀r∈S,r.length<=60/\∀g∈r,g.natAbs<T.length)(A:T.length<=1000000)(G:S.length<=20)
  (e:S.map (fun r=>Dp (r.map (tv T)))=t) (B:∀a,Fr (fun s=>False) H a->kn (CF a1 a2 a3 a4 a5 a6 a7 a8 a9 a10 a11 a12 a13 a14 (some (.loc lo)) o16 o17 o18 (some (.loc lt)) o20 o21 (some (.loc k))) a) :
  Lj X d (E2 JF 5) JH (CF a1 a2 a3 a4 a5 a6 a7 a8 a9 a10 a11 a12 a13 a14 (some (.loc lo)) o16 o17 o18 (some (.loc lt)) o20 o21 (some (.loc k))) H kn Φ:=by
 refine Ay (W:=fun s=>False) (.inr ⟨lo,rfl,i,id⟩) .refl fun guard l=>?_;refine BF (xs:=S) (f:=Am) (fun(b post:List (List Int)) c a=>EU (a=H) (c=.list ((b.map fun r=>Dp (r.map (tv T))).map V.int))) ?_ ?_ _ _ ⟨rfl,rfl⟩
 .rintro b q post c a I v ⟨rfl,rfl⟩ m;have h:=z q (by rw[v];exact AZ _ (.head _));have p:b.length<=20:=by have:=BU v;omega
  refine(An (k:=1) hd (QF F j h.2 A h.1 ⟨by rw[AG,AG];exact AH p (by decide),m _ _ (l _ .refl) ⟨rfl,by rw[AL,AL];rfl⟩⟩))
 .rintro c a ⟨rfl,rfl⟩;rw[e];have x:Fr (fun s=>False) a (a++[HO.list (t.map V.int)]):=Fr.new _;have C:=Ak (H:=a) (o:=.list (t.map V.int));have D:=x.old y id;refine objA_i C (objA_i D ?_);refine⟨Nx,Nx,?_⟩;generalize h:BY.peqs _ _=E;obtain rfl:E=true:=h.symm.trans ((Fp _ _).mpr rfl);exact B _ x
end
structure U4(u:Nat)(w:Wd)(S0 S1 R0 R1:List (List Int)):Prop where
 un:Un u (S0++R0)
 nd:(S0++R0).Nodup
 two:∀t∈S1++R1,Dd fun(a b:Nat)=>DD (a<u) (b<u) (t=[(a:Int),(b:Int)])
 l9:(S1++R1).length<=9
 s:∀a:Nat,a<u->(w.s a=true↔[(a:Int)]∈S0++R0)
 r:∀a b:Nat,a<u->b<u->(w.r a b=true↔[(a:Int),(b:Int)]∈S1++R1)
section
variable {d:Nat} {H:Aj} {W:Nat->Prop} {L:CL} {C:BS} {B u d1 d2 s0 d0 s1 ds1 la lo ll:Nat} {S0 S1 rs:List (List Int)} {Q:Qs} {wh n:Nn} {as:List Int} {wd:(Nat->Bool)->Wd} {kn:BA->Aj->Prop} {Φ:V->Aj->Prop}
 {a1 a2 a3 a6 a8 a9 a11 a13:Option V}
theorem Sc(F:BN X)(hd:4<=d)(x:BC W H L C B)(hn:L.n=Q.length)(hQ:Q.length<=2)(Y:H[s0]? =some (.list (S0.map Am)))(Z:H[s1]? =some (.list (S1.map Am)))(o0:S0.length<=9)(p0:S1.length<=9)
  (l:H[la]? =some (.list (Bv Q))) (a0:H[lo]? =some (.list (rs.map Am))) (b0:H[ll]? =some (.list (as.map V.int))) (c0:∀a∈as,0<=a/\a<u) (f0:as.length<=9) (g0:rs.length<=20)
  (o:∀r∈rs,Num C r/\r.length<=60) (M:∀I,rs.map (rd C I)=Sp u (wd I) wh n as) (N:∀b:List Nat,b.Sublist (List.range Q.length)->U4 u (wd (F3 b)) S0 S1 (CD (EB Q b) 0) (CD (EB Q b) 1))
  (h1:∀w,FI X u w wh d1) (h2:∀w,FI X u w n d2) (h0:d1<d) (i0:d2<d) (f1:∀x,Cp wh x=false) (f2:∀x,Cp n x=true->x=false) (φ:∀U,Fr (fun zz=>False) H U->Φ (.bool true) U) :
  FF X d ((Bg (Bt 63)).drop 19) JH (CF a1 a2 a3 (some (.tup [.loc s0,.loc d0])) (some (.tup [.loc s1,.loc ds1])) a6 (some (Ba n)) a8 a9 (some (Ba wh)) a11 (some (.loc L.c)) a13 (some (.loc ll)) (some (.loc lo)) (some (.loc la)) none none none none none none) H kn Φ:=by
 refine Al fun q0 f=>?_;w_dflts l;have j0:(Bv Q).length<=2:=by rw[Bs];exact hQ
 refine⟨by omega,rfl,Ai _,Int.lt_of_le_of_lt (Int.ofNat_le.mpr j0) (by decide),?_⟩;have hb:((2:Int) ^ (((Bv Q).length:Int)).toNat).natAbs<2 ^ 30:=by
  rw[toNat_natCast];have:(Bv Q).length=0\/(Bv Q).length=1\/(Bv Q).length=2:=by omega
  rcases this with e |e |e<;>rw[e]<;>decide
 refine⟨hb,?_⟩;refine Df Ak (by decide) hb (.inl rfl) ?_;refine B1 (fun O I U=>DD ((∀v∈O,∃k:Nat,v=.int k)) (Fr (fun zz=>False) H U) (Zc fun(y z A D E G:Option V)=>I=CF a1 a2 a3 (some (.tup [.loc s0,.loc d0])) (some (.tup [.loc s1,.loc ds1])) a6 (some (Ba n)) a8 a9 (some (Ba wh)) a11 (some (.loc L.c)) a13 (some (.loc ll)) (some (.loc lo)) (some (.loc la)) y z A D E G)) ?_ ?_ _ _ _
  ⟨fun v J=>?_,Fr.new _,_,_,_,_,_,_,rfl⟩
 .rintro v r I H1 k' ⟨J,m,y,z,A,D,E,G,rfl⟩ k0;obtain⟨lap,rfl⟩:=J v (.head _);refine Al fun kn f=>Tm F (m.old l id) (by omega) fun H2 lh b l0 zz hh h=>f _ _ ?_;have i:=m.trans l0;refine Al fun kn f=>Mq F hd (x.fr i) (i.old l id) hh (by omega) hn fun H3 lt P ht=>f _ _ ?_;have p:=i.trans P;refine Al fun kn f=>R9 F (p.old l id) (P.old hh id) (by omega) h fun H4 lz lv R hz r0 ez=>f _ _ ?_;subst ez;rw[Sh]at hz;have j:=p.trans R;have K:=N b h;have t0:(EB Q b).length<=2:=by
   refine AF (List.length_filterMap_le _ _) (AF h.length_le ?_);rw[length_range];exact hQ
  refine Al fun kn f=>Pq F (j.old Y id) (j.old Z id) hz (by omega) (by omega) K.un K.nd K.two K.l9 K.s K.r fun H5 w0 w1 S hw=>f _ _ ?_;have q:=j.trans S;refine Al fun kn f=>TO F (h1 _) (h2 _) h0 i0 hw (q.old b0 id) c0 f0 f1 f2 fun H6 k6 T h6=>f _ _ ?_;have t:=q.trans T;refine WT F (le_of_add_left_le hd) (t.old a0 id) (((R.trans S).trans T).old ht id) h6 (fun r hr=>⟨(o r hr).2,fun g hg=>by rw[Er];exact((o r hr).1.g g hg).lt⟩) (by rw[Er];have:=x.bud;exact AF (Ad (AU _ _) (by decide)) (AF this (by decide))) g0 ?_ fun H7 m0=>?_
  .exact M (F3 b)
  .exact k0 _ _ trivial ⟨fun v n0=>J v (.tail _ n0),t.trans m0,_,_,_,_,_,_,rfl⟩
 .rintro I H1 ⟨J,m,y,z,A,D,E,G,rfl⟩;exact f _ _ (φ _ m)
 .unfold Bc at J;obtain⟨k,_,rfl⟩:=AS J;exact⟨k,by rw[show(0:Int)+1*(k:Int)=(k:Int) by rw[Int.one_mul,Int.zero_add]]⟩
end
theorem GD(nd:(C.map (·.1)).Nodup){q:List Int×Int}(c:d8∈C)(b:q∈C)(e:d8.1=q.1):d8=q:=by
 induction C with
 |nil=>cases c
 |cons a r d=>
  rw[AW,nodup_cons]at nd;exact(Ae c).elim (fun f=>(Ae b).elim (fun g=>f.trans g.symm) fun b=>absurd (List.mem_map.mpr ⟨q,b,f▸e.symm⟩) nd.1) fun c=>(Ae b).elim (fun g=>absurd (List.mem_map.mpr ⟨d8,c,g▸e⟩) nd.1) fun b=>d nd.2 c b
theorem FG.get{up:List (List Int)}{A:Mx}(b:FG S up n C A)(h:A[k]? =some d8):d8.2=((n+k:Nat):Int)+2:=by
 have a:(A.map (·.2))[k]? =some d8.2:=by rw[List.getElem?_map,h];rfl
 rw[b.nums,List.getElem?_map,List.getElem?_range' ((AE h).1)]at a;have:=Option.some.inj a;rw[<- this];simp
theorem K7{up:List (List Int)}{A:Mx}{zqCq:BS}(md:FG S up n C A)(hC:∀k:Nat,k<A.length->zqCq[n+k]? =some none)(hlo:∀r∈S,r∈up)(nd:up.Nodup) :
  ms zqCq (F3 i0) C t=true↔t∈S\/Dd fun k g=>EU (A[k]? =some (t,g)) (n+k∈i0):=by
 have sat:∀k p,A[k]? =some p->BL zqCq (F3 i0) p.2=i0.contains (n+k):=fun k p h=>by
  rw[md.get h,UJ (hC k (AE h).1)];unfold F3;rw[Nat.add_sub_cancel]
 have ndA:(A.map (·.1)).Nodup:=by rw[md.ask];exact nd.filter _
 unfold ms;rw[any_eq_true];constructor
 .rintro⟨p,hp,h⟩;rw[and_eq_true]at h;have e:=eq_of_beq h.1;rcases md.gs p hp with⟨h1,_⟩ |⟨_,h2⟩
  .exact .inl (e▸h1)
  .obtain⟨k,hk⟩:=List.getElem?_of_mem h2;refine .inr ⟨k,p.2,by rw[hk,<- e],?_⟩;rw[sat k p hk]at h;exact List.contains_iff_mem.mp h.2
 .rintro(h |⟨k,g,hk,hh⟩)
  .have:t∈C.map (·.1):=by rw[md.keys];exact hlo t h
   obtain⟨p,hp,rfl⟩:=AS this;refine⟨p,hp,?_⟩;rcases md.gs p hp with⟨_,h2⟩ |⟨h1,_⟩
   .rw[h2,Db];simp
   .exact absurd h h1
  .have hm:=mem_of_getElem? hk;have hd:t∈dub S up:=by rw[<- md.ask];exact List.mem_map.mpr ⟨(t,g),hm,rfl⟩
   obtain⟨hu,hn⟩:=List.mem_filter.mp hd;have:t∈C.map (·.1):=by rw[md.keys];exact hu
   obtain⟨p,hp,e⟩:=AS this;refine⟨p,hp,?_⟩;rcases md.gs p hp with⟨h1,_⟩ |⟨_,h2⟩
   .rw[e]at h1;rw[List.contains_iff_mem.mpr h1]at hn;cases hn
   .have:p=(t,g):=GD ndA h2 hm e;rw[this,sat k _ hk,List.contains_iff_mem.mpr hh];simp
theorem Iv{Q:Qs}:t∈CD (EB Q i0) i↔∃k∈i0,Q[k]? =some (i,t):=by
 unfold CD EB;rw[mem_map];constructor
 .rintro⟨p,hp,rfl⟩;obtain⟨h1,h2⟩:=List.mem_filter.mp hp;obtain⟨k,hk,h3⟩:=List.mem_filterMap.mp h1;rw[map_eq_some_iff]at h3;obtain⟨q,h4,rfl⟩:=h3;exact⟨k,hk,by rw[h4,<- eq_of_beq h2]⟩
 .rintro⟨k,hk,h⟩;exact⟨((i,t),(k:Int)+2),List.mem_filter.mpr ⟨List.mem_filterMap.mpr ⟨k,hk,by rw[h];rfl⟩,by simp⟩,rfl⟩
theorem R6{Q:Qs}:∀{a:List Nat},(EB Q a).map (·.1)=a.filterMap fun k:Nat=>Q[k]?:=by
 intro d;induction d with
 |nil=>
  exact rfl
 |cons k r b=>
  have c:=b;unfold EB at c⊢;rw[filterMap_cons,filterMap_cons];cases Q[k]? with
  |none=>exact c
  |some q=>rw[map_some,AW,c]
theorem RG:∀{Q P:Qs},(range' P.length Q.length).filterMap (fun k:Nat=>(P++Q)[k]?)=Q:=by
 intro a;induction a with
 |nil=>
  intro P;exact rfl
 |cons q Q b=>
  intro P;rw[AQ,range'_succ,filterMap_cons,getElem?_append_right (AM _),Nat.sub_self];have:=b (P:=P++[q]);rw[AI,append_assoc]at this;exact congrArg (q:: ·) this
theorem Ru{L:Lt}:CD L i=((L.map (·.1)).filter fun q=>q.1==i).map (·.2):=by
 rw[filter_map,List.map_map];rfl
theorem Im{Q:Qs}{c:Int}(h:i0.Sublist (List.range Q.length)):(CD (EB Q i0) c).Sublist ((Q.filter fun q=>q.1==c).map (·.2)):=by
 rw[Ru,R6];have:=RG (Q:=Q) (P:=[]);rw[nil_append]at this;have a:=(h.filterMap fun k:Nat=>Q[k]?);rw[range_eq_range',show range' 0 Q.length=range' ([]:Qs).length Q.length from rfl,this]at a;exact(a.filter _).map _
def EQ(a b:Mx):Qs:=a.map (fun p=>((0:Int),p.1))++b.map fun p=>((1:Int),p.1)
theorem Wn{b:Mx}:((EQ C b).filter fun q=>q.1==0).map (·.2)=C.map (·.1):=by
 unfold EQ;rw[filter_append,AL,filter_map,filter_map,(List.filter_eq_self.mpr fun a a=>rfl:C.filter ((fun q:Int×List Int=>q.1==0)∘fun p=>((0:Int),p.1))=C),(List.filter_eq_nil_iff.mpr fun a a h=>by cases h),map_nil,map_nil,Ah,List.map_map];rfl
theorem V1{a:Mx}:((EQ C a).filter fun q=>q.1==1).map (·.2)=a.map (·.1):=by
 unfold EQ;rw[filter_append,AL,filter_map,filter_map,(List.filter_eq_nil_iff.mpr fun b b h=>by cases h),(List.filter_eq_self.mpr fun b b=>rfl:a.filter ((fun q:Int×List Int=>q.1==1)∘fun p=>((1:Int),p.1))=a),map_nil,map_nil,nil_append,List.map_map];rfl
theorem LC{a:Mx}:(EQ C a).length=C.length+a.length:=by unfold EQ;rw[AI,AG,AG]
theorem F4{c:Mx}:(EQ C c)[k]? =some (0,t)↔∃g,C[k]? =some (t,g):=by
 unfold EQ;by_cases h:k<C.length
 .rw[getElem?_append_left (by rw[AG];exact h),List.getElem?_map,map_eq_some_iff];exact⟨(by rintro⟨p,a,b⟩;exact⟨p.2,by rw[a,<- (Prod.mk.inj b).2]⟩),fun⟨g,a⟩=>⟨_,a,rfl⟩⟩
 .rw[getElem?_append_right (by rw[AG];exact Nat.not_lt.mp h),List.getElem?_map,map_eq_some_iff];exact⟨(by rintro⟨p,_,b⟩;exact(by have:=(Prod.mk.inj b).1;cases this)),fun⟨g,a⟩=>absurd (AE a).1 h⟩
theorem Fy{c:Mx}:(EQ C c)[k]? =some (1,t)↔Dd fun j g=>EU (k=C.length+j) (c[j]? =some (t,g)):=by
 unfold EQ;by_cases h:k<C.length
 .rw[getElem?_append_left (by rw[AG];exact h),List.getElem?_map,map_eq_some_iff];exact⟨(by rintro⟨p,_,a⟩;exact(by have:=(Prod.mk.inj a).1;cases this)),fun⟨j,g,b,_⟩=>absurd h (Nat.not_lt.mpr (b▸AU _ _))⟩
 .rw[getElem?_append_right (by rw[AG];exact Nat.not_lt.mp h),List.getElem?_map,map_eq_some_iff,AG];exact⟨(by rintro⟨p,b,a⟩;exact⟨k-C.length,p.2,(add_sub_of_le (Nat.not_lt.mp h)).symm,by rw[b,<- (Prod.mk.inj a).2]⟩),fun⟨j,g,b,a⟩=>⟨_,by rw[b,Nat.add_sub_cancel_left];exact a,rfl⟩⟩
theorem VI{i lo1 up1:List (List Int)}{y m p:Mx}{d:BS}{w:Wd}(M:n<=3)(D:FG S i 0 C m)(E:FG lo1 up1 m.length y p)(F:∀k:Nat,k<m.length+p.length->d[k]? =some none)(G:∀r∈S,r∈i)(H:∀r∈lo1,r∈up1)(I:i.Nodup)(J:up1.Nodup)(z:S.Nodup)(A:lo1.Nodup)
  (K:Un n i) (s:∀t∈up1,Dd fun(a b:Nat)=>DD (a<n) (b<n) (t=[(a:Int),(b:Int)])) (N:w=⟨fun a=>ms d (F3 i0) C [(a:Int)],fun a b=>ms d (F3 i0) y [(a:Int),(b:Int)]⟩) (L:i0.Sublist (List.range (EQ m p).length)) :
  U4 n w S lo1 (CD (EB (EQ m p) i0) 0) (CD (EB (EQ m p) i0) 1):=by
 have s0:=Im (c:=0) L;have v:=Im (c:=1) L;rw[Wn,D.ask]at s0;rw[V1,E.ask]at v;have off:∀{lo up:List (List Int)}{r:List Int},r∈dub lo up->r∈up/\r∉lo:=fun{lo up r} h=>by
  obtain⟨a,b⟩:=List.mem_filter.mp h;exact⟨a,fun q=>by rw[List.contains_iff_mem.mpr q]at b;cases b⟩
 have l:∀t∈lo1++CD (EB (EQ m p) i0) 1,Dd fun(a b:Nat)=>DD (a<n) (b<n) (t=[(a:Int),(b:Int)]):=fun t f=>by
  rcases AY f with f |f
  .exact s t (H t f)
  .exact s t (off (v.subset f)).1
 subst N;refine⟨fun t f=>?_,(List.nodup_append.mpr ⟨z,(I.filter _).sublist s0,fun a u b x e=>(off (s0.subset x)).2 (e▸u)⟩),l,G0 M l (List.nodup_append.mpr ⟨A,(J.filter _).sublist v,fun a u b x e=>(off (v.subset x)).2 (e▸u)⟩),fun a u=>?_,fun a b u x=>?_⟩
 .rcases AY f with f |f
  .exact K t (G t f)
  .exact K t (off (s0.subset f)).1
 .show ms d (F3 i0) C [(a:Int)]=true↔_;rw[K7 D (fun k o=>by rw[Nat.zero_add];exact F k (lt_add_right _ o)) G I,mem_append,Iv];refine or_congr Iff.rfl ⟨(by rintro⟨k,g,h,B⟩;exact⟨k,by rwa[Nat.zero_add]at B,F4.mpr ⟨g,h⟩⟩),fun⟨k,o,h⟩=>?_⟩;obtain⟨g,h⟩:=F4.mp h;exact⟨k,g,h,by rw[Nat.zero_add];exact o⟩
 .show ms d (F3 i0) y [(a:Int),(b:Int)]=true↔_;rw[K7 E (fun k o=>F _ (Nat.add_lt_add_left o _)) H J,mem_append,Iv];refine or_congr Iff.rfl ⟨(by rintro⟨k,g,h,B⟩;exact⟨_,B,Fy.mpr ⟨k,g,rfl,h⟩⟩),fun⟨k,o,h⟩=>?_⟩;obtain⟨j,g,rfl,O⟩:=Fy.mp h;exact⟨j,g,O,o⟩
theorem Rr{d lo1 up1:List (List Int)}{f a c:Mx}(g:FG S d 0 C a)(i:FG lo1 up1 a.length f c):a.map (Mw 0)++c.map (Mw 1)=Bv (EQ a c):=by
 refine List.ext_getElem? fun k=>?_;by_cases h:k<a.length
 .obtain⟨p,b⟩:∃p,a[k]? =some p:=⟨_,AD h⟩;rw[getElem?_append_left (by rw[AG];exact h),List.getElem?_map,b,EI (F4.mpr ⟨p.2,b⟩)];have:=g.get b;rw[Nat.zero_add]at this;show some (V.tup [.int 0,Am p.1,.int p.2])=_;rw[this]
 .rw[getElem?_append_right (by rw[AG];exact Nat.not_lt.mp h),AG];by_cases e:k-a.length<c.length
  .obtain⟨p,b⟩:∃p,c[k-a.length]? =some p:=⟨_,AD e⟩;rw[List.getElem?_map,b,EI (Fy.mpr ⟨k-a.length,p.2,(add_sub_of_le (Nat.not_lt.mp h)).symm,b⟩)];have:=i.get b;rw[add_sub_of_le (Nat.not_lt.mp h)]at this;show some (V.tup [.int 1,Am p.1,.int p.2])=_;rw[this]
  .rw[List.getElem?_eq_none (by rw[AG];exact Nat.not_lt.mp e),List.getElem?_eq_none (by rw[Bs,LC];exact AF (AO (Nat.not_lt.mp e) _) (AT (add_sub_of_le (Nat.not_lt.mp h))))]
theorem Ed{b:Type}{g f:b->V}(e:K H)
  (step:∀(x:b)(l:List V)(c:HO->Aj->Prop),l.length<Ar/\c (.list (l++[f x])) H->w (g x) (.list l) H c) :
  ∀(L:List b)(l:List V),l.length+L.length<=60->N (.list (l++L.map f)) H->CU w K (L.map g) (.list l) H N:=by
 intro h;induction h with
 |nil=>
  intro l _ a;rw[map_nil,Ah]at a;exact a
 |cons p r i=>
  intro l d a;rw[AQ]at d;refine step p l _ ⟨AH (by omega:l.length<=60) (by decide),e,i (l++[f p]) (by rw[AI,AX];exact AF (AT (Ag _ _ _)) d) ?_⟩;rw[append_assoc];exact a
def DT(q:Int×List Int):V:=.tup [.int q.1,Am q.2]
theorem Tz(q:Int×List Int):Pd 19 (DT q):=.tup fun v a=>by
 rcases Ae a with rfl |a
 .exact .int _ _
 .rw[AJ a];exact(BH q.2).up _ (by decide)
theorem OY(L:Qs):Pd 20 (.tup (L.map DT)):=.tup fun v a=>by obtain⟨q,_,rfl⟩:=AS a;exact Tz q
section
variable {d:Nat} {H:Aj} {kn:BA->Aj->Prop} {Φ:V->Aj->Prop} {t la d0 d1:Nat} {Q:Qs} {D0 D1:List (List Int)} {w s0 s1:V}
 {a1 a2 a3 a6 a7 a8 a9 a10 a11 a12 a14 a15:Option V}
theorem Om(F:BN X)(hd:2<=d)(P:H[t]? =some (.inst "Translator" o))(R:Ga H t (ofString "inputs") "Translator.inputs")(S:o.lookup (ofString "asked")=some (.loc la))(B:H[la]? =some (.list (Bv Q)))(y:Q.length<=20)
  (C:H[d0]? =some (.list (D0.map Am))) (D:H[d1]? =some (.list (D1.map Am))) (L:Q=D0.map (fun r=>((0:Int),r))++D1.map fun r=>((1:Int),r))
  (T:∀E n,Fr (fun a=>False) H E->E[n]? =some (.list (Bv Q))->FF X d ((Bg (Bt 63)).drop 19) JH (CF a1 a2 a3 (some (.tup [s0,.loc d0])) (some (.tup [s1,.loc d1])) a6 a7 a8 a9 a10 a11 a12 (some (.loc t)) a14 a15 (some (.loc n)) none none none none none none) E kn Φ) :
  FF X d ((Bg (Bt 63)).drop 17) JH (CF a1 a2 a3 (some (.tup [s0,.loc d0])) (some (.tup [s1,.loc d1])) a6 a7 a8 a9 a10 a11 a12 (some (.loc t)) a14 a15 none none none none none none none) H kn Φ:=by
 refine Al fun U G=>?_;w_dflts R;refine An (k:=1) hd (Lu F P S B (by rw[Bs];omega) (G _ _ (Al fun M G=>?_)));generalize j:H++[HO.list (Bv Q)]=m;have I:Fr (fun a=>False) H m:=by rw[<- j];exact Fr.new _
 have N:m[H.length]? =some (.list (Bv Q)):=by rw[<- j];exact Ak
 have b:=congrArg List.length L;rw[AI,AG,AG]at b;refine Ay (W:=fun a=>False) (.inr ⟨_,rfl,N,id⟩) .refl fun guard J=>?_;refine Ed (f:=fun p:(Int×List Int)×Nat=>DT p.1) (J _ .refl) (fun p l O h=>h) Q.zipIdx [] (by rw[length_zipIdx,length_nil];exact AF (AO y _) (by decide)) ?_;rw[nil_append,show Q.zipIdx.map (fun p=>DT p.1)=Q.map DT from by rw[show(fun p:(Int×List Int)×Nat=>DT p.1)=DT∘Prod.fst from rfl,<- List.map_map,List.zipIdx_map_fst]];generalize c:m++[HO.list (Q.map DT)]=e;have g:Fr (fun a=>False) H e:=by rw[<- c];exact I.app _
 have V:e[m.length]? =some (.list (Q.map DT)):=by rw[<- c];exact Ak
 refine Ay (W:=fun a=>False) (.inr ⟨_,rfl,g.old C id,id⟩) .refl fun z q=>?_;refine Ed (f:=fun r:List Int=>DT (0,r)) (q _ .refl) (fun p l O h=>h) D0 [] (by rw[length_nil];exact by rw[Nat.zero_add];exact AF (AF (AU _ _) (AT b.symm)) (AF y (by decide))) ?_;rw[nil_append];generalize s:e++[HO.list (D0.map fun r=>DT (0,r))]=i;have u:Fr (fun a=>False) e i:=by rw[<- s];exact Fr.new _
 have Y:i[e.length]? =some (.list (D0.map fun r=>DT (0,r))):=by rw[<- s];exact Ak
 refine Ay (W:=fun a=>False) (.inr ⟨_,rfl,(g.trans u).old D id,id⟩) .refl fun A v=>?_;refine Ed (f:=fun r:List Int=>DT (1,r)) (v _ .refl) (fun p l O h=>h) D1 [] (by rw[length_nil];exact by rw[Nat.zero_add];exact AF (AF (le_add_left _ _) (AT b.symm)) (AF y (by decide))) ?_;rw[nil_append];have x:Fr (fun a=>False) i (i++[HO.list (D1.map fun r=>DT (1,r))]):=Fr.new _;refine objA_i (x.old Y id) (objA_i (Ak (H:=i) (o:=.list (D1.map fun r=>DT (1,r)))) ?_);refine⟨by rw[AG,AG];exact AR (AH (AF (AT (Eq.symm b)) (AF y (by decide)):D0.length+D1.length<=60) (by decide)),?_⟩;rw[show(D0.map fun r=>DT (0,r))++(D1.map fun r=>DT (1,r))=Q.map DT from by rw[L,AL,List.map_map,List.map_map];rfl];have K:Fr (fun a=>False) e (i++[HO.list (D1.map fun r=>DT (1,r))]++[HO.list (Q.map DT)]):=(u.trans x).app _;refine objA_i (K.old V id) (objA_i (Ak (H:=i++[HO.list (D1.map fun r=>DT (1,r))]) (o:=.list (Q.map DT))) ?_);refine⟨OY Q,OY Q,?_⟩;generalize Z:BY.peqs _ _=bb;obtain rfl:bb=true:=Z.symm.trans ((Fp _ _).mpr rfl);have f1:Fr (fun a=>False) m e:=by rw[<- c];exact Fr.new _
 exact G _ _ (T _ _ (g.trans K) ((f1.trans K).old N id))
end
section
variable {d:Nat} {H H':Aj} {kn:BA->Aj->Prop} {Φ:V->Aj->Prop} {E:T0} {C C':BS} {B u bg:Nat} {wh n:Nn}
 {a1 a2 a4 a5 a6 a8 a9 a12:Option V}
def T0.pinned(E:T0)(k v:V):T0:={ E with pin:=[(k,v)] }
theorem BZ.pinned(x:BZ E H C B){k:V}(h:∃e,H[E.me]? =some (.dict e)/\BI e k=some v):BZ (E.pinned k v) H C B:=by
 obtain⟨e,a,b,c⟩:=x.me;obtain⟨g,f,i⟩:=h;rw[a]at f;cases f;exact⟨x.cir,x.nm,⟨e,a,⟨b.s,b.n,b.r,fun p j=>by rewrite[AJ j];exact i⟩,c⟩,⟨x.fx.at_,x.fx.ms,x.fx.bn,x.fx.rl,x.fx.wt,x.fx.wrl,x.fx.wnm,x.fx.wc,x.fx.wkn,x.fx.wme,x.fx.km,x.fx.u3⟩,⟨x.rs.r0,x.rs.r1,x.rs.g1,x.rs.k1,x.rs.s0,x.rs.s1⟩⟩
theorem S7(F:BN X)(m:1<=u)(o:u<=3){v g i:Option V}(y:∀H' p (b:List Int),Fr (fun w=>False) H H'->H.length<=p->H'[p]? =some (.list (b.map V.int))->(∀a∈b,0<=a/\a<u)->b.length<=9->kn (CF a1 a2 (some (.int u)) a4 a5 a6 v a8 a9 g (some (.int bg)) a12 i (some (.loc p)) none none none none none none none none) H') :
  Lj X d (E2 (Bg (Bt 63)) 14) JH (CF a1 a2 (some (.int u)) a4 a5 a6 v a8 a9 g (some (.int bg)) a12 i none none none none none none none none none) H kn Φ:=by
 refine⟨by omega,?_⟩;refine Bw Ak (by omega) ?_;generalize r:H++[HO.range 0 u 1]=x;have j:Fr (fun w=>False) H x:=by rw[<- r];exact Fr.new _
 refine BF (xs:=(range' 0 u)) (f:=(fun k:Nat=>V.int k)) (fun(c post:List Nat) e H'=>EU (H'=x) (EC fun(b:List Int)=>DD (e=.list (b.map V.int)) (b.length<=c.length) (∀a∈b,0<=a/\a<u))) ?_ ?_ _ _ ⟨rfl,[],rfl,AM _,fun w h=>by cases h⟩
 .rintro c q post e H' D z ⟨rfl,b,rfl,l,s⟩ A;have t:c.length<=3:=by have:=BU z;rw[length_range']at this;omega
  refine⟨Int.ofNat_lt.mpr m,by rw[AG];exact AH (AF l t) (by decide),A _ _ trivial ⟨rfl,b++[((bg:Int)+(q:Int)) % (u:Int)],by rw[AL];rfl,by rw[AI,AI];exact AP l 1,fun a h=>?_⟩⟩;rcases AY h with h |h
  .exact s a h
  .rw[AJ h];exact⟨Int.emod_nonneg _ (Int.ne_of_gt (Int.ofNat_lt.mpr m)),Int.emod_lt_of_pos _ (Int.ofNat_lt.mpr m)⟩
 .rintro e H' ⟨rfl,b,rfl,l,s⟩;rw[length_range']at l;exact(y _ _ b (j.app _) j.len Ak s (AF l (AF o (by decide))))
theorem RS(F:BN X){dn:Nat}(hd:dn<d)(y:BZ E H C (B+(nC wh+nC wh+9*nC n)))(g0:H[k]? =some (.list (t.map V.int)))(Y:¬E.W1 k)(h0:∀a∈t,0<=a/\a<E.u)(M:t.length<=9)
  (h1:∀E,Bn X E "Translator.number" (.n wh) (PP E (.n wh) (PN E wh)) dn (nC wh)) (h2:∀E,Bn X E "Translator.number" (.n n) (PP E (.n n) (PN E n)) dn (nC n)) (f1:∀x,Cp wh x=false) (f2:∀x,Cp n x=true->x=false) (w1:wN wh<=50) (w2:wN n<=50)
  (φ:∀H' C' lo (b:List (List Int)),Fr E.W1 H H'->BC E.W H' E.L C' B->C <+: C'->H'[lo]? =some (.list (b.map Am))->b.length<=20->(∀r∈b,Num C' r/\r.length<=60)->(∀s,b.map (rd C' s)=Sp E.u (E.wd s) wh n t) ->
   FF X d ((Bg (Bt 63)).drop 17) JH (CF a1 a2 (some (.int u)) a4 a5 a6 (some (Ba n)) a8 a9 (some (Ba wh)) (some (.int bg)) a12 (some (.loc E.t)) (some (.loc k)) (some (.loc lo)) none none none none none none none) H' kn Φ) :
  FF X d ((Bg (Bt 63)).drop 15) JH (CF a1 a2 (some (.int u)) a4 a5 a6 (some (Ba n)) a8 a9 (some (Ba wh)) (some (.int bg)) a12 (some (.loc E.t)) (some (.loc k)) none none none none none none none none) H kn Φ:=by
 refine Al fun i0 hk=>?_;refine tg_i (y.tg (m:= "number") (p:= "Translator.number")) fun v=>?_;have f0:Fr (fun v=>False) H (H++[HO.dict (BG [] [])]):=Fr.new _;refine An (k:=dn) (by omega) (h1 E _ C (B+(nC wh+9*nC n)) _ H.length e0 ((y.fr f0).le (by omega)) ⟨⟨[],[],Ak,rfl,.nil,fun x a q=>by cases q⟩,y.new⟩ (fun x N=>by rw[show fv (.n wh) x=Cp wh x from rfl,f1 x]at N;cases N) fun H2 C2 v0 j0 y2 k0 p2=>?_);obtain⟨⟨j,rfl,n0,l0,q0⟩,pm⟩:=p2;w_left;generalize Z:H2++[HO.list [Am j]]=H3;have f3:Fr (fun v=>False) H2 H3:=by rw[<- Z];exact Fr.new _
 have n3:H3[H2.length]? =some (.list [Am j]):=by rw[<- Z];exact Ak
 have b0:Fr E.W1 H H3:=(f0.pure.trans j0).trans f3.pure;refine Ay (W:=E.W1) (.inr ⟨k,rfl,b0.old g0 Y,Y⟩) .refl fun guard m0=>?_;refine BF (xs:=t) (f:=V.int) (fun(I post:List Int) O H'=>Dd fun(b:List (List Int)) (C':BS)=>UV (O=.list (b.map Am)) (Fr E.W1 H3 H') (BZ (E.pinned (Ba wh) (Am j)) H' C' (B+nC wh+nC n*post.length)) (C2 <+: C') (b.length<=I.length) (∀r∈b,Num C' r/\r.length<=60) (∀s,b.map (rd C' s)=I.map fun a=>DA E.u (E.wd s) n (upd e0 false a.toNat))) ?_ ?_ _ _
  ⟨[],C2,rfl,.refl,((y2.pinned (k:=Ba wh) (pm f1)).fr f3).le (by have:=Ac (nC n) M;exact AF (AT (Nat.add_assoc _ _ _)) (AO (AO (AF this (AT (mul_comm _ _))) _) _)),prefix_refl _,AM _,(fun v h=>by cases h),fun v=>rfl⟩
 .rintro I a post O c k' e1 ⟨b,C4,rfl,A,P,l,D,e,hv⟩ o0;obtain⟨a0,au⟩:=h0 a (by rw[e1];exact AZ _ (.head _));have p0:I.length<=9:=by have:=BU e1;omega
  rw[AQ,mul_succ,<- Nat.add_assoc]at P;refine tg_i (P.tg:Ga c E.t (ofString "number") "Translator.number") fun v=>?_;refine⟨BH [a],.str _ _,?_⟩;obtain⟨T,Q⟩:∃h,h=c++[HO.dict (BG [] [(Am [a],V.int 1)])]:=⟨_,rfl⟩;have f5:Fr (fun v=>False) c T:=by rw[Q];exact Fr.new _
  have y5:=P.fr f5;have U:Fr (fun v=>False) T (T++[HO.dict (BG [] [(sS "x",V.tup [.int 1,.loc c.length])])]):=Fr.new _;have ev:Ds (E.pinned (Ba wh) (Am j)) (T++[HO.dict (BG [] [(sS "x",V.tup [.int 1,.loc c.length])])]) T.length (upd e0 false a.toNat):=by
   refine⟨⟨[false],[(sS "x",V.tup [.int 1,.loc c.length])],Ak,rfl,by exact pairwise_singleton _ _,fun x a' R=>?_⟩,y5.new⟩;unfold upd at R;by_cases z:x=false
   .rw[if_pos z]at R;cases R;subst z;have t0:(T++[HO.dict (BG [] [(sS "x",V.tup [.int 1,.loc c.length])])])[c.length]? =some (.dict (CH [([((a.toNat:Nat):Int)],1)])):=by
     rw[show((a.toNat:Nat):Int)=a by omega];refine U.old ?_ id;rw[Q];exact Ak
    exact⟨_,rfl,(by show a.toNat<E.u;exact(Int.toNat_lt a0).mpr au),_,rfl,t0,P.new⟩
   .rw[if_neg z]at R;cases R
  subst Q;refine An (k:=dn) (by omega) (h2 (E.pinned (Ba wh) (Am j)) _ C4 (B+nC wh+nC n*post.length) _ _ (upd e0 false a.toNat) (y5.fr U) ev (fun x N=>by rw[f2 x N];unfold upd;rw[if_pos rfl];rfl) fun J C6 v6 u0 y6 S p6=>?_);obtain⟨⟨r6,rfl,n6,l6,q6⟩,_⟩:=p6;have K:Fr E.W1 c J:=(f5.trans U).pure.trans u0;refine⟨by rw[AG];exact AH (AF D p0) (by decide),o0 _ _ (m0 _ (A.trans K)) ⟨b++[r6],C6,by rw[AL];rfl,A.trans K,y6,l.trans S,by rw[AI,AI];exact AP D 1,fun r i=>?_,fun s=>?_⟩⟩
  .rcases AY i with i |i
   .exact⟨(e r i).1.ext S,(e r i).2⟩
   .rw[AJ i];exact⟨n6,AF l6 (by omega)⟩
  .rw[AL,AL,<- hv s,map_congr_left fun r i=>FH (e r i).1.g S];show _++[rd C6 s r6]=_;rw[q6 s];rfl
 .rintro O c ⟨b,C4,rfl,A,P,l,D,e,hv⟩;have f5:Fr (fun v=>False) c (c++[HO.list (b.map Am)]):=Fr.new _;refine objA_i (f5.old (A.old n3 y2.new) id) (objA_i (Ak (H:=c) (o:=.list (b.map Am))) ?_);refine⟨by rw[AG];exact AR (AH (AO (AF D M) _) (by show 1+9<Ar;decide)),hk _ _ (Al fun i0 hk=>?_)⟩;generalize c0:c++[HO.list (b.map Am)]++[HO.list ([Am j]++b.map Am)]=J;have U:Fr (fun v=>False) c J:=by rw[<- c0];exact f5.app _
  have n6:J[(c++[HO.list (b.map Am)]).length]? =some (.list ((j::b).map Am)):=by rw[<- c0];exact Ak
  have y6:=P.fr U;refine tg_i (y6.tg:Ga J E.t (ofString "number") "Translator.number") fun v=>?_;have f7:Fr (fun v=>False) J (J++[HO.dict (BG [] [])]):=Fr.new _;refine An (k:=dn) (by omega) (h1 (E.pinned (Ba wh) (Am j)) _ C4 B _ J.length e0 ((y6.fr f7).le (by rw[length_nil,Nat.mul_zero,Nat.add_zero];exact AM _)) ⟨⟨[],[],Ak,rfl,.nil,fun x a q=>by cases q⟩,y6.new⟩ (fun x N=>by rw[show fv (.n wh) x=Cp wh x from rfl,f1 x]at N;cases N) fun H8 C8 v8 d0 y8 G p8=>?_);have e8:v8=Am j:=by
   obtain⟨kv,k1,k2⟩:=p8.2 f1;obtain⟨w0,k3,k4,_⟩:=y8.me;rw[k1]at k3;cases k3;have:=k4.pin (Ba wh,Am j) (.head _);exact Option.some.inj (k2.symm.trans this)
  subst e8;have w6:¬E.W1 (c++[HO.list (b.map Am)]).length:=fun w=>by have:=P.lt _ w;rw[AI]at this;omega
  have n8:=(f7.pure (W:=E.W1) |>.trans d0).old n6 w6;w_dflts n8;refine⟨_,Am j,rfl,by decide,by decide,rfl,(BH j).up _ (by decide),(BH j).up _ (by decide),?_⟩;generalize R:BY _ _=bb;obtain rfl:bb=true:=R.symm.trans ((BB _ _).mpr rfl);refine hk _ _ (φ H8 C8 _ (j::b) (((b0.trans A).trans U.pure).trans (f7.pure.trans d0)) y8.cir ((k0.trans l).trans G) n8 (by rw[AQ];exact AF (Ab (AF D M)) (by decide)) (fun r i=>?_) fun s=>?_)
  .rcases Ae i with rfl |i
   .exact⟨(n0.ext l).ext G,AF l0 (by omega)⟩
   .exact⟨(e r i).1.ext G,(e r i).2⟩
  .unfold Sp;rw[AW,FH (n0.ext l).g G,FH n0.g l,q0 s,<- hv s,map_congr_left fun r i=>FH (e r i).1.g G]
end
section
variable {d:Nat} {H:Aj} {Φ:V->Aj->Prop}
def Sv(c n:Nat):CL:={ c:=c,k:=c+1,p:=c+2,d:=c+3,n:=n }
def Q4(c:Nat)(m:Nat):Prop:=m=c+1\/m=c+2\/m=c+3
theorem T8(F:BN X){B:Nat}(l:B+16<=900000)(p:∀a,Fr (fun b=>False) H a->BC (Q4 H.length) a (Sv H.length n) [] B->Φ .none a) :
  Ap X 1 "Circuit.__init__" [.loc H.length] (H++[.inst "Circuit" []]) Φ:=by
 have c:(H++[HO.inst "Circuit" []]).length=H.length+1:=by rw[AI];rfl
 refine Jn F Ak fun a fr f g j hd k=>p a ⟨by rw[k,c];exact le_add_right_of_le (AU _ _),fun{m o} q _=>fr.old (Au q _) fun e=>by have:=Ax q;omega⟩ ?_;rw[c]at f g j hd k;exact⟨g,j,⟨[],hd,AM _,fun b b h=>(by cases h)⟩,f,(fun w=>by unfold Q4 Sv at w;simp only at w;omega),.inl rfl,.inr (.inl rfl),.inr (.inr rfl),(by unfold Sv;simp),(fun i r h=>by cases h),(fun m w=>by unfold Q4 at w;omega),(by rw[length_nil];exact(Nat.zero_add _).symm▸l),(fun i h=>by cases h),(fun i r h=>by cases h)⟩
end
structure T7(n:Nn):Prop where
 pd:Pd 8 (Ba n)
 wf:VG n
 w:wN n<=50
 b:bN n<=1000000
 h:hN n<=10
section
variable {d:Nat} {H:Aj} {kn:BA->Aj->Prop} {Φ:V->Aj->Prop} {lt K u lb ll ld lu s0 d0 s1 ds1:Nat} {ks:List V} {n0 n1:V} {lo0 up0 lo1 up1 D0 D1:List (List Int)} {wh n:Nn} {a1 a8 a9:Option V}
theorem UM(F:BN X)(hd:100<=d)(x:BR H lt (K+1))(k0:2<=u)(i:u<=3)
  (y:CT H lb ll ld lu u [.tup [n0,.int 1,.tup (lo0.map Am),.tup (up0.map Am)],.tup [n1,.int 2,.tup (lo1.map Am),.tup (up1.map Am)]] ks) (o0:ld≠lt)
  (p0:H[s0]? =some (.list (lo0.map Am))) (q0:H[d0]? =some (.list (D0.map Am))) (t0:H[s1]? =some (.list (lo1.map Am))) (u0:H[ds1]? =some (.list (D1.map Am)))
  (e0:dub lo0 up0=D0) (e1:dub lo1 up1=D1) (hD:D0.length+D1.length<=2) (h0:∀r∈lo0,r∈up0) (h1:∀r∈lo1,r∈up1) (Q:up0.Nodup) (R:up1.Nodup) (v0:lo0.Nodup) (w0:lo1.Nodup) (r0:Ct u 1 up0) (r1:Ct u 2 up1) (l0:lo0.length<=9) (l1:lo1.length<=9) (x0:up0.length<=9) (y0:up1.length<=9)
  (t:T7 wh) (v:T7 n) (f1:∀x,Cp wh x=false) (f2:∀x,Cp n x=true->x=false) (hc:nC wh+nC wh+9*nC n<=800000) (φ:∀H':Aj,(∀(m:Nat)(l:List V),H[m]? =some (HO.flist l)->H'[m]? =some (HO.flist l))->Φ (.bool true) H') :
  FF X d ((Bg (Bt 63)).drop 12) JH (CF a1 (some (.loc lt)) (some (.int u)) (some (.tup [.loc s0,.loc d0])) (some (.tup [.loc s1,.loc ds1])) (some (.loc lb)) (some (Ba n)) a8 a9 (some (Ba wh)) none none none none none none none none none none none none) H kn Φ:=by
 refine Al fun S C=>(An (k:=1) (lt_of_add_lt_add_left (lt_add_left _ hd)) (CB F x (Int.le_of_lt (Int.ofNat_lt.mpr k0)) (Int.le_trans (Int.ofNat_le.mpr i) (by decide)) fun H1 bg T x1 k1=>?_));refine⟨le_of_add_left_le hd,rfl,Ap.deep (d:=1) (T8 F (n:=D0.length+D1.length) (B:=800000+up1.length+up0.length) (AF (AP (Ad (AO y0 _) x0) _) (by decide)) fun H2 U xc=>?_) (le_sub_of_add_le (le_of_add_left_le hd))⟩;refine⟨rfl,C _ _ (Al fun S C=>?_)⟩;have D:∀{m:Nat}{l:List V},H[m]? =some (.list l)->m≠lt:=fun h e=>by obtain⟨lc,j,k,W,_⟩:=x.at_;rw[e,W]at h;cases h
 have Y:∀{m:Nat}{c:String}{fs:List (Str×V)},H[m]? =some (.inst c fs)->m≠lt:=fun h e=>by obtain⟨lc,j,k,W,_⟩:=x.at_;rw[e,W]at h;cases h
 have Z:∀{m:Nat}{o:HO},H[m]? =some o->m≠lt->H2[m]? =some o:=fun q h=>U.old (T.old q h) id;have o1:=T.len;have l2:=U.len;have M:Fr (fun zz=>False) H2 (H2++[HO.inst "Translator" []]):=Fr.new _;have s:=Ax y.ls;have z0:lu<H.length:=by obtain⟨ns,nu,a,_⟩:=y.un.at_;exact Ax a
 have R0:ld<H.length:=by obtain⟨N,a,_⟩:=y.ds;exact Ax a
 have p1:=Ax xc.cl;have z:CT (H2++[HO.inst "Translator" []]) lb ll ld lu u [.tup [n0,.int 1,.tup (lo0.map Am),.tup (up0.map Am)],.tup [n1,.int 2,.tup (lo1.map Am),.tup (up1.map Am)]] ks:=
  ⟨M.old (Z y.at_ (Y y.at_)) id,M.old (Z y.ls (D y.ls)) id,by obtain⟨N,a,b⟩:=y.ds;exact⟨N,M.old (Z a o0) id,b⟩,⟨by obtain⟨ns,nu,a,b⟩:=y.un.at_;exact⟨ns,nu,M.old (Z a (Y a)) id,b⟩⟩⟩
 have g:∀{m:Nat},m<H.length->¬Q4 H1.length m:=fun h w=>by unfold Q4 at w;omega
 refine⟨le_of_add_left_le hd,rfl,Ap.deep (d:=9) (Ma F (B:=800000) (xc.fr M) Ak (fun w=>Nat.lt_irrefl _ (xc.wl _ w)) z ⟨g (Ax y.at_),g s,g R0,g z0⟩ i r0 r1 Q R (by omega) (by omega) ?_ (fun e=>by omega) fun E H3 C3 A0 A1 eW eL et eu ep S0 z f=>⟨rfl,C _ _ (Al fun S C=>?_)⟩) (le_sub_of_add_le (le_of_add_left_le hd))⟩
 .rw[e0,e1];show 0+D0.length+D1.length<=D0.length+D1.length;exact AP (AT (Nat.add_comm _ _)) _
 have o3:∀{m:Nat}{o:HO},H[m]? =some o->m≠lt->H3[m]? =some o:=fun{m o} q h=>S0.old (M.old (Z q h) id) fun w=>by
  have:=Ax q;exact w.elim (g this) fun e=>by omega
 have b1:A0.length=D0.length:=by have:=congrArg List.length f.m0.ask;rwa[AG,e0]at this
 have c1:A1.length=D1.length:=by have:=congrArg List.length f.m1.ask;rwa[AG,e1]at this
 have G:FG lo0 up0 0 E.m0 A0:=f.m0;have I:FG lo1 up1 A0.length E.m1 A1:=by have:=f.m1;rwa[length_nil,Nat.zero_add]at this
 have d1:E.L.c=H1.length:=by rw[eL];rfl
 have nW:∀{m:Nat}{l:List V},H[m]? =some (.list l)->¬E.W1 m:=fun{m l} q w=>by
  have O:=o3 q (D q);rcases w with w |w |w
  .rw[eW]at w;exact g (Ax q) w
  .obtain⟨N,a,_⟩:=z.nm.kd;rw[<- w,O]at a;cases a
  .obtain⟨N,a,_⟩:=z.me;rw[<- w,O]at a;cases a
 have a0:∀{m:Nat}{l:List V},H[m]? =some (.flist l)->H3[m]? =some (.flist l)/\¬E.W1 m:=fun{m l} q=>by
  have O:=o3 q fun e=>by obtain⟨lc,j,k,W,_⟩:=x.at_;rw[e,W]at q;cases q
  refine⟨O,fun w=>?_⟩;rcases w with w |w |w
  .rw[eW]at w;exact g (Ax q) w
  .obtain⟨N,a,_⟩:=z.nm.kd;rw[<- w,O]at a;cases a
  .obtain⟨N,a,_⟩:=z.me;rw[<- w,O]at a;cases a
 refine S7 F (by omega) i fun H4 ll as f4 q1 s b0 c0=>C _ _ ?_;have y4:=z.fr f4;have f0:¬E.W1 ll:=fun w=>by have:=z.lt _ w;omega
 have u1:=t.h;have v1:=v.h;rw[<- et,<- d1];refine RS F (E:=E) (B:=0) (dn:=80) (lt_of_add_lt_add_left (lt_add_left _ hd)) (y4.le (AF (AO hc _) (by decide))) s f0 (fun a ha=>by rw[eu];exact b0 a ha) c0 (fun E=>(LN F wh t.pd t.wf t.w).up (by omega) (AM _)) (fun E=>(LN F n v.pd v.wf v.w).up (by omega) (AM _)) f1 f2 t.w v.w fun H5 C5 lo rs p x5 w1 g1 i1 g0 A=>?_;have i0:=y4.fx.go p;have j0:H5[E.ask]? =some (.list (Bv (EQ A0 A1))):=by rw[<- Rr G I];exact p.old (f4.old f.ask id) f.wask
 have o5:∀{m:Nat}{l:List V},H[m]? =some (.list l)->H5[m]? =some (.list l):=fun q=>p.old (f4.old (o3 q (D q)) id) (nW q);have J:(EQ A0 A1).length=D0.length+D1.length:=by rw[LC,b1,c1]
 refine Om F (le_of_add_left_le hd) i0.at_ (CC i0.at_ rfl rfl rfl) rfl j0 (AR (AH (AF (AT J) hD) (by decide))) (o5 q0) (o5 u0) ?_ fun H6 n6 P j1=>?_
 .unfold EQ;rw[<- e0,<- e1,<- G.ask,<- I.ask,List.map_map,List.map_map];rfl
 rw[eu]at A;exact Sc F (AR (AK (by decide) hd)) (x5.fr P) (by rw[eL,J];rfl) (AF (AT J) hD) (P.old (o5 p0) id) (P.old (o5 t0) id) l0 l1 j1 (P.old g1 id) (P.old (p.old s f0) id) b0 c0 i1 g0 A
  (fun y1 hs=>VI i G I (fun k C=>by rw[f.c,nil_append,List.getElem?_replicate,if_pos C]) h0 h1 Q R v0 w0 (No r0) (Ly r1) (f.wd _) hs) (fun w=>Fj F i wh t.pd t.wf t.b) (fun w=>Fj F i n v.pd v.wf v.b) (by omega) (by omega) f1 f2 fun H7 f7=>φ H7 fun m l q=>f7.old (P.old (p.old (f4.old (a0 q).1 id) (a0 q).2) id) id
end
theorem Po{b:V}(d:Pd n v)(e:Pd n b):Pd (n+1) (.tup [sS f,v,b]):=.tup fun c a=>by
 rcases Ae a with rfl |a
 .exact .str _ _
 .rcases Ae a with rfl |a
  .exact d
  .rw[AJ a];exact e
theorem MD(h:Pd 0 v):Pd (n+1) (.tup [sS f,v]):=.tup fun u a=>by
 rcases Ae a with rfl |a
 .exact .str _ _
 .rw[AJ a];exact h.up _ (zero_le _)
theorem LX:∀s:Sn,Pd (hS s+1) (BO s)
 |.rel=>MD (.int _ _)
 |.var x=>MD (.str _ _)
 |.jl a=>Po (LX a) (MD (.int _ _))
 |.jr a=>Po (MD (.int _ _)) (LX a)
 |.uni a b=>Po ((LX a).up _ (by rw[Tv];exact Ab (le_max_left _ _))) ((LX b).up _ (by rw[Tv];exact Ab (le_max_right _ _)))
 |.min a b=>Po ((LX a).up _ (by rw[RA];exact Ab (le_max_left _ _))) ((LX b).up _ (by rw[RA];exact Ab (le_max_right _ _)))
theorem XD(h:∀p∈J,Pd n (BO p.2)):Pd (n+2) (.tup (J.map Dx)):=.tup fun v a=>by
 obtain⟨p,b,rfl⟩:=AS a;exact .tup fun v a=>by
  rcases Ae a with rfl |a
  .exact .str _ _
  .rw[AJ a];exact h p b
theorem VW(x:∀p∈J,hS p.2<=n):hD J<=n:=by
 induction J with
 |nil=>exact zero_le _
 |cons d r a=>rw[Yy];exact Nat.max_le.mpr ⟨x d (.head _),a fun p b=>x p (.tail _ b)⟩
theorem Qo:cK 3=40/\cK 4=121/\cK 5=364/\cK 6=1093/\cK 7=3280:=⟨rfl,rfl,rfl,rfl,rfl⟩
theorem YA:cM 2=122:=rfl
structure Sj(n:Nn)(p w h b c:Nat):Prop where
 pd:Pd p (Ba n)
 wf:VG n
 w:wN n<=w
 h:hN n<=h
 b:bN n<=b
 c:nC n<=c
theorem Jt{s:Sn}(h:hS s<=2):Sj (.cnt s) 4 6 3 3 352:=⟨b ((LX s).up _ (by omega)),trivial,AM _,by rw[WD];omega,AM _,AF (Ab (Ad (AP (Qf h) 189) (Np (Ab h)))) (by rw[Qo.1,YA];decide)⟩
where
 b {n:Nat} {a:V} (d:Pd n a):Pd (n+1) (.tup [sS "count",a]):=.tup fun v c=>by
  rcases Ae c with rfl |c
  .exact .str _ _
  .rw[AJ c];exact d
theorem YT(a:k<=125)(h:n<=2):bud k n 1<=500:=by
 cases n with
 |zero=>exact zero_le _
 |succ n=>
  cases n with
  |zero=>exact AF (mul_le_mul_right 1 a) (by decide)
  |succ n=>
   obtain rfl:n=0:=Nat.le_zero.mp (Nat.le_of_succ_le_succ (Nat.le_of_succ_le_succ h));exact AF (Ad (mul_le_mul_right 1 a) (mul_le_mul_right 3 a)) (by decide)
theorem Jx{b:Nn}{h e c:Nat}(x:Sj b n k h e c)(j:5<=n)(l:6<=k)(m:3<=h)(hd:J.length<=2)(f:∀q∈J,hS q.2<=2):Sj (.sum J b) (n+1) (k+4) (h+1) (9*e) (500+(c+3*k)*9+9*(k+5)*9+cK (h+1)+1):=by
 have d:=VW f;have a:max (wN b) 1<=k:=Nat.max_le.mpr ⟨x.w,AF (by decide) l⟩;have g:max (hD J) (hN b)<=h:=Nat.max_le.mpr ⟨AF d (AF (by decide) m),x.h⟩;refine⟨Po ((XD fun q o=>(LX q.2).up 3 (Ab (f q o))).up _ j) x.pd,⟨hd,x.wf⟩,by rw[Vm];exact AP a 4,by rw[TT];exact Ab g,?_,?_⟩
 .rw[WY];exact mul_le_mul (pow_le_pow_right (n:=3) (by decide) hd) x.b
 .rw[Yi];have i:=Qf d;rw[YA]at i;have p:=YT (AP i 3) hd;exact Ab (Ad (Ad (Ad p (mul_le_mul_right 9 (Ad x.c (Ac 3 a)))) (mul_le_mul_right 9 (Ac 9 (AP a 5)))) (Np (Ab g)))
theorem Sj.up{a:Nn}{h b c p' d e f g:Nat}(x:Sj a n k h b c)(i:n<=p')(j:k<=d)(l:h<=e)(m:b<=f)(o:c<=g):Sj a p' d e f g:=⟨x.pd.up _ i,x.wf,AF x.w j,AF x.h l,AF x.b m,AF x.c o⟩
theorem TX(a:-2<=i)(b:i<=2):Sj (.num i) 4 6 3 3 2:=⟨MD (.int _ _),trivial,by rw[Xa];omega,zero_le _,by rw[ZH];omega,AM _⟩
theorem LH{a b:Nn}{h d c:Nat}(x:Sj a n k h d c)(y:Sj b n k h d c):Sj (.less a b) (n+1) (k+1) (h+1) (d+d) (c+c+9*(k+1)+cK (h+1)+1):=by
 refine⟨Po x.pd y.pd,⟨x.wf,y.wf⟩,by rw[WQ];exact Ab (Nat.max_le.mpr ⟨x.w,y.w⟩),by rw[TQ];exact Ab (Nat.max_le.mpr ⟨x.h,y.h⟩),by rw[V8];exact Ad x.b y.b,?_⟩;rw[Y9];exact Ab (Ad (Ad (Ad x.c y.c) (Ac 9 (Ab (Nat.max_le.mpr ⟨x.w,y.w⟩)))) (Np (Ab (Nat.max_le.mpr ⟨x.h,y.h⟩))))
theorem Vb{n:Nn}(x:Bd n):Sj n 6 10 4 27 5000:=by
 cases x with
 |cnt h=>exact(Jt h).up (by decide) (by decide) (by decide) (by decide) (by decide)
 |less h b a=>exact(LH (Jt h) ((TX b a).up (AM _) (AM _) (AM _) (AM _) (by decide))).up (by decide) (by decide) (by decide) (by decide) (by rw[Qo.2.1];decide)
 |sum b a c d=>exact(Jx ((Jt d).up (p':=5) (by decide) (AM _) (AM _) (AM _) (AM _)) (by decide) (by decide) (by decide) a c).up (by decide) (by decide) (by decide) (by decide) (by rw[Qo.2.1];decide)
theorem Oy{n:Nn}{a:List (Bool×Sn)}(x:Bd n)(d:J.length<=2)(l2:a.length<=2)(e:∀q∈J,hS q.2<=2)(f:∀q∈a,hS q.2<=2):T7 (.less (.sum J n) (.sum a n))/\T7 n/\nC (.less (.sum J n) (.sum a n))+nC (.less (.sum J n) (.sum a n))+9*nC n<=800000:=by
 have b:=Vb x;have w:=LH (Jx b (by decide) (by decide) (by decide) d e) (Jx b (by decide) (by decide) (by decide) l2 f);rw[Qo.2.2.1]at w;rw[Qo.2.2.2.1]at w;refine⟨⟨w.pd,w.wf,AF w.w (by decide),AF w.b (by decide),AF w.h (by decide)⟩,⟨b.pd.up _ (by decide),b.wf,AF b.w (by decide),AF b.b (by decide),AF b.h (by decide)⟩,?_⟩;exact AF (Ad (Ad w.c w.c) (Ac 9 b.c)) (by decide)
section
variable {d:Nat} {H:Aj} {kn:BA->Aj->Prop} {Φ:V->Aj->Prop} {lt K u:Nat} {a1 a4 a5 a6:Option V}
theorem Oz(F:BN X)(hd:10<=d)(x:BR H lt (K+40))(z:u=2\/u=3)
  (R:∀A (n:Nn) (g h:List (Bool×Sn)) (Z o8:Option V),Fr (fun m=>m=lt) H A->BR A lt (K+1)->Bd n->(∀x,Cp n x=true->x=false)->g.length<=2->h.length<=2->(∀q∈g,hS q.2<=2)->(∀q∈h,hS q.2<=2)->(∀x,Cp (.less (.sum g n) (.sum h n)) x=false) ->
   FF X d ((Bg (Bt 63)).drop 12) JH (CF a1 (some (.loc lt)) (some (.int u)) a4 a5 a6 (some (Ba n)) o8 Z (some (Ba (.less (.sum g n) (.sum h n)))) none none none none none none none none none none none none) A kn Φ) :
  FF X d ((Bg (Bt 63)).drop 7) JH (CF a1 (some (.loc lt)) (some (.int u)) a4 a5 a6 none none none none none none none none none none none none none none none none) H kn Φ:=by
 refine Al fun c a=>(An (k:=7) (lt_of_succ_lt (lt_of_succ_lt hd)) (PU F (K:=K+20) x (Ig z (by decide) (by decide)) (Ig z (by decide) (by decide)) fun B n C x1 S D=>(a _ _ (Al fun c a=>?_))));have T:Fr (fun E=>False) B (B++[HO.list []]):=Fr.new _;have e:=Ex F;refine An (k:=5) (lt_of_add_lt_add_left (lt_add_left _ hd)) (e _ _ lt B.length (K+14) [] (x1.fr T) Ak (by decide) fun t j G U I v=>(a _ _ (Al fun c a=>?_)));have l:=(C.trans T.pure).trans G;have W:∀x,Bx j x=false:=fun x=>by cases q:Bx j x with |false=>rfl |true=>cases I x q
 have b:∀(s:Sn) x,Bx s x=false->IN [(false,s)] (Cp n) x=false:=fun s x hc=>by
  show(Bx s x||(Cp n x&&(false != x)))=false;rw[hc,Bool.false_or];refine EY (Cp n x) (fun q=>?_) fun q=>?_
  .rfl
  .rw[D x q];rfl
 rcases z with rfl |rfl
 .have Y:Fr (fun E=>False) t (t++[HO.list []]):=Fr.new _;refine(An (k:=3) (lt_of_add_lt_add_left (lt_add_left _ hd)) ((GB F) _ _ lt t.length (K+12) [] (U.le (by omega) |>.fr Y) Ak (by decide) fun J s2 L x3 M N=>(a _ _ (Al fun c a=>?_))));have w:Fr (fun E=>False) J (J++[HO.list [V.str (ofString "y")]]):=Fr.new _;refine An (k:=5) (lt_of_add_lt_add_left (lt_add_left _ hd)) (e _ _ lt J.length (K+6) [true] (x3.fr w) Ak (by decide) fun O f o P p r=>⟨(by show 2<=Ar;decide),a _ _ (Al fun c a=>(a _ _ ?_))⟩);refine R O n [(false,j)] [(true,s2),(false,f)] _ _ (((l.trans Y.pure).trans L).trans (w.pure.trans o)) (P.le (Ab (AU _ _))) S D (by show 1<=2;decide) (by show 2<=2;decide) (fun q i=>by rw[AJ i];exact v) (fun q i=>?_) fun x=>?_
  .rcases Ae i with rfl |i
   .exact AF N (by decide)
   .rw[AJ i];exact r
  .show(IN [(false,j)] (Cp n) x||(Bx s2 x||(IN [(false,f)] (Cp n) x&&(true != x))))=false;have c2:Bx s2 x=false:=by cases q:Bx s2 x with |false=>rfl |true=>cases M x q
   rw[b j x (W x),c2,Bool.false_or,Bool.false_or];cases x with
   |true=>exact Bool.and_false _
   |false=>
    have Q:Bx f false=false:=by cases q:Bx f false with |false=>rfl |true=>have:=AJ (p false q);cases this
    rw[b f false Q];rfl
 .refine(a _ _ (Al fun c a=>?_));have w:Fr (fun E=>False) t (t++[HO.list []]):=Fr.new _;refine An (k:=5) (lt_of_add_lt_add_left (lt_add_left _ hd)) (e _ _ lt t.length (K+6) [] (U.le (le_of_succ_le (le_succ _)) |>.fr w) Ak (by decide) fun O f o P p r=>⟨(by show 1<=Ar;decide),a _ _ (Al fun c a=>(a _ _ ?_))⟩);refine R O n [(false,j)] [(false,f)] _ _ ((l.trans w.pure).trans o) (P.le (Ab (AU _ _))) S D (by show 1<=2;decide) (by show 1<=2;decide) (fun q i=>by rw[AJ i];exact v) (fun q i=>by rw[AJ i];exact r) fun x=>?_;have Q:Bx f x=false:=by cases q:Bx f x with |false=>rfl |true=>cases p x q
  show(IN [(false,j)] (Cp n) x||IN [(false,f)] (Cp n) x)=false;rw[b j x (W x),b f x Q];rfl
end
theorem Ra(h:(S.map Am).Pairwise fun a b=>Ge a b=true):∀k r s,S[k]? =some r->S[k+1]? =some s->DY (r.map V.int) (s.map V.int)=true:=fun k r s c d=>by
 obtain⟨e,f⟩:=AE c;obtain⟨l2,g⟩:=AE d;have:=List.pairwise_iff_getElem.mp (List.pairwise_map.mp h) k (k+1) e l2 (lt_succ_self k);rw[f,g]at this;exact this
def code:List Int->Int
 |[a]=>a
 |[a,b]=>3*a+b
 |_=>0
theorem S5{b:Int}(h:Ge (Am [i]) (Am [b])=true):code [i]<code [b]:=OD h
theorem SI{b c e:Int}(d:0<=b/\b<3)(f:0<=e/\e<3)(h:Ge (Am [i,b]) (Am [c,e])=true):code [i,b]<code [c,e]:=by
 have h:(if i=c then(if b=e then DY [] []else decide (b<e))else decide (i<c))=true:=h
 show 3*i+b<3*c+e;by_cases q:i=c
 .rw[if_pos q]at h;by_cases a:b=e
  .rw[if_pos a]at h;cases h
  .rw[if_neg a]at h;have:=of_decide_eq_true h;omega
 .rw[if_neg q]at h;have:=of_decide_eq_true h;omega
theorem Hf{f:List Int->Int}:∀{l m:List (List Int)},(∀r∈l,∀s∈m,f r=f s->r=s)->l.map f=m.map f->l=m
 |[],[],_,_=>rfl
 |[],_::_,_,h=>by cases h
 |_::_,[],_,h=>by cases h
 |a::l,b::m,c,h=>by
  rw[AW,AW]at h;obtain⟨d,e⟩:=List.cons.inj h;rw[c a (.head _) b (.head _) d,Hf (fun r g s i=>c r (.tail _ g) s (.tail _ i)) e]
theorem Vh{D g:List (List Int)}(c:List Int->Prop)(i:∀r s,c r->c s->Ge (Am r) (Am s)=true->code r<code s)(j:∀r s,c r->c s->code r=code s->r=s)
  (p:g.Perm (S++D)) (n:(g.map Am).Pairwise fun a b=>Ge a b=true) (hD:(D.map Am).Pairwise fun a b=>Ge a b=true) (off:∀r∈S,r∉D) (o:∀r∈g,c r):dub S g=D:=by
 have m:∀r∈D,c r:=fun r h=>o r (p.mem_iff.mpr (AZ _ h));have mem:∀r,r∈dub S g↔r∈D:=fun r=>by
  unfold dub;rw[mem_filter,p.mem_iff,mem_append];constructor
  .rintro⟨d |d,e⟩
   .rw[List.contains_iff_mem.mpr d]at e;cases e
   .exact d
  .intro h;refine⟨.inr h,?_⟩;refine EY (S.contains r) (fun q=>?_) fun q=>?_
   .rfl
   .exact absurd h (off r (List.contains_iff_mem.mp q))
 refine Hf (f:=code) (fun r k s l=>j r s (m r ((mem r).mp k)) (m s l)) (Es ?_ ?_ fun x=>?_)
 .refine List.pairwise_map.mpr (((List.pairwise_map.mp n).filter _).imp_of_mem fun{r s} k l h=>?_);exact i r s (o r (List.mem_filter.mp k).1) (o s (List.mem_filter.mp l).1) h
 .exact List.pairwise_map.mpr ((List.pairwise_map.mp hD).imp_of_mem fun{r s} k l h=>i r s (m r k) (m s l) h)
 .rw[mem_map,mem_map];exact⟨(by rintro⟨r,d,e⟩;exact⟨r,(mem r).mp d,e⟩),(by rintro⟨r,d,e⟩;exact⟨r,(mem r).mpr d,e⟩)⟩
section
variable {d:Nat} {H:Aj} {kn:BA->Aj->Prop} {Φ:V->Aj->Prop} {u:Nat} {a1 a2 a4 a5:Option V}
theorem MY(F:BN X)(hd:6<=d)(hu:u<=3)(φ:∀H' lb ll ld lu,Fr (fun zz=>False) H H'->H.length<=lb->H.length<=ll->H.length<=ld->H.length<=lu->(ll≠lb/\ll≠ld/\ld≠lb/\lu≠ll/\lu≠ld)->CT H' lb ll ld lu u [] []->kn (CF a1 a2 (some (.int u)) a4 a5 (some (.loc lb)) none none none none none none none none none none none none none none none none) H') :
  Lj X d (E2 (Bg (Bt 63)) 4) JH (CF a1 a2 (some (.int u)) a4 a5 none none none none none none none none none none none none none none none none none) H kn Φ:=by
 refine⟨by omega,?_⟩;refine Bw Ak (by omega) ?_;generalize eH1:H++[HO.range 0 u 1]=H1;have fr1:Fr (fun zz=>False) H H1:=by rw[<- eH1];exact Fr.new _
 refine BF (xs:=(range' 0 u)) (f:=(fun k:Nat=>V.int k)) (fun(pre post:List Nat) acc H'=>EU (H'=H1) (acc=.list (pre.map Wp))) ?_ ?_ _ _ ⟨rfl,rfl⟩
 .rintro pre q post acc H' k' e1 ⟨rfl,rfl⟩ hk;have hq:q<u:=by
   have:q∈range' 0 u:=by rw[e1];simp
   have:=mem_range'_1.mp this;exact AK this.2 (AT (Nat.add_comm _ _))
  have hpl:pre.length<=3:=by have:=BU e1;rw[length_range']at this;omega
  have hln:(ofString "N").length+(ofString (toString (q:Int))).length<=1000:=by
   have:q=0\/q=1\/q=2:=by omega
   rcases this with rfl |rfl |rfl<;>decide +kernel
  exact⟨Ai _,Int.lt_of_lt_of_le (Int.ofNat_lt.mpr (AK hq hu)) (by decide),hln,by rw[AG];exact AH hpl (by decide),hk _ _ trivial ⟨rfl,by rw[AL];rfl⟩⟩
 .rintro acc H' ⟨rfl,rfl⟩;generalize e1:(range' 0 u)=pre;have hpl:pre.length=u:=by have:=congrArg List.length e1;rw[length_range']at this;exact this.symm
  have nd:(pre.map Wp).Nodup:=by
   rw[<- e1,<- range_eq_range'];exact V4.sublist ((List.range_sublist.mpr hu).map _)
  generalize eH2:H'++[HO.list (pre.map Wp)]=H2;have fr2:Fr (fun zz=>False) H H2:=by rw[<- eH2];exact fr1.app _
  have n2:H2[H'.length]? =some (.list (pre.map Wp)):=by rw[<- eH2];exact Ak
  have f2:Fr (fun zz=>False) H2 (H2++[HO.inst "Universe" []]):=Fr.new _;refine⟨le_of_add_left_le hd,rfl,Ap.deep (d:=1) (Ms F (Ak (H:=H2) (o:=.inst "Universe" [])) (f2.old n2 id) (fun v hv=>by obtain⟨a,_,rfl⟩:=AS hv;exact⟨_,rfl⟩) nd (by rw[AG];exact AF (AT hpl) (AF hu (by decide))) fun H3 fr3 hu3=>?_) (le_sub_of_add_le (le_of_add_left_le hd))⟩;rw[AG,hpl]at hu3;have l3:=fr3.len;rw[AI,AX]at l3;have fr4:Fr (fun zz=>False) H H3:=⟨by have:=fr2.len;exact AR (AH this l3),fun{m o} q _=>fr3.old (f2.old (fr2.old q id) id) fun e=>by have:=Ax q;have:=fr2.len;omega⟩;have f5:Fr (fun zz=>False) H3 (H3++[HO.inst "Bounds" []]):=Fr.new _;refine⟨rfl,le_of_add_left_le hd,rfl,Ap.deep (d:=1) (Ml F (Ak (H:=H3) (o:=.inst "Bounds" [])) ⟨by obtain⟨ns,nu,a,b⟩:=hu3.at_;exact⟨ns,nu,f5.old a id,b⟩⟩ (Nat.ne_of_lt l3) fun H6 ll ld fr6 h1 h2 h3 hb=>?_) (le_sub_of_add_le (le_of_add_left_le hd))⟩;rw[AI,AX]at h1 h2;have l2:=fr2.len;exact⟨rfl,φ H6 H3.length ll ld H2.length ⟨by have:=fr6.len;rw[AI]at this;exact AR (AH l2 (AV l3 this)),fun{m o} q _=>fr6.old (f5.old (fr4.old q id) id) fun e=>by have:=Ax q;omega⟩ (AR (AH l2 l3)) (AR (AH l2 (AV l3 h1))) (AR (AV (AH l2 l3) h2)) (by omega) ⟨Nat.ne_of_gt h1,h3,Nat.ne_of_gt h2,Nat.ne_of_lt (AV l3 h1),by omega⟩ hb⟩
end
def EM(u:Nat):List (List Int):=(range' 0 u).map fun a:Nat=>[(a:Int)]
def Fb(u:Nat):List (List Int):=(range' 0 u).flatMap fun a:Nat=>(range' 0 u).map fun b:Nat=>[(a:Int),(b:Int)]
theorem Wb{c:Nat}:∀{l:List Nat},(∀z∈l,z<=c)->l.sum<=l.length*c:=by
 intro b;induction b with
 |nil=>
  intro _;exact zero_le _
 |cons a l d=>
  intro h;rw[sum_cons,AQ,Nat.add_mul,Nat.one_mul,Nat.add_comm];exact Ad (d fun z e=>h z (.tail _ e)) (h a (.head _))
section
variable {d:Nat} {H:Aj} {kn:BA->Aj->Prop} {Φ:V->Aj->Prop} {u lt:Nat} {a1 a4:Option V}
theorem LY(F:BN X){K:Nat}(hd:6<=d)(x:BR H lt (K+4))(e:u=2\/u=3)(i:∀b c ld S D,Fr (fun m=>m=lt) H b->BR b lt K->H.length<=c->H.length<=ld->c≠ld->b[c]? =some (.list (S.map Am))->b[ld]? =some (.list (D.map Am))->F1 (EM u) S D 2 ->
   kn (CF a1 (some (.loc lt)) (some (.int u)) (some (.tup [.loc c,.loc ld])) none none none none none none none none none none none none none none none none none none) b) :
  Lj X d (E2 (Bg (Bt 63)) 2) JH (CF a1 (some (.loc lt)) (some (.int u)) none none none none none none none none none none none none none none none none none none none) H kn Φ:=by
 refine⟨Ig e (by decide) (by decide),?_⟩;refine Bw Ak (Ig e (by decide) (by decide)) ?_;refine Ed (f:=fun a:Nat=>Am [(a:Int)]) trivial (fun p l s h=>h) (range' 0 u) [] (by rw[length_range',length_nil];exact Ig e (by decide) (by decide)) ?_;rw[nil_append,show(range' 0 u).map (fun a:Nat=>Am [(a:Int)])=(EM u).map Am from by unfold EM;rw[List.map_map];rfl];have t:(EM u).length=u:=by unfold EM;rw[AG,length_range']
 have nd:(EM u).Nodup:=by rcases e with rfl |rfl<;>decide +kernel
 have g:=(Fr.new _:Fr (fun v=>False) H (H++[HO.range 0 u 1])).app [HO.list ((EM u).map Am)];refine An (k:=3) (lt_of_succ_lt (lt_of_succ_lt hd)) (JM F (K:=K) (lr:=(H++[HO.range 0 u 1]).length) (wide:=3) (most:=2) (rows:=EM u) ((x.le (by omega)).fr g) Ak (by decide) (by decide) (by omega) nd (by decide) fun b c ld S D fr j w y n o q r=>?_);have:=g.len;exact i b c ld S D (g.pure.trans fr) j (by omega) (by omega) n o q r
theorem Sd(F:BN X){K:Nat}{j:List (List Int)}(hd:6<=d)(x:BR H lt (K+9))(t:u=2\/u=3)(v:H[k]? =some (.list (j.map Am)))(hD:j.length<=2)(A:∀e o ld S D,Fr (fun m=>m=lt) H e->BR e lt K->H.length<=o->H.length<=ld->o≠ld->e[o]? =some (.list (S.map Am))->e[ld]? =some (.list (D.map Am))->F1 (Fb u) S D (2-j.length) ->
   kn (CF a1 (some (.loc lt)) (some (.int u)) (some (.tup [.loc n,.loc k])) (some (.tup [.loc o,.loc ld])) none none none none none none none none none none none none none none none none none) e) :
  Lj X d (E2 (Bg (Bt 63)) 3) JH (CF a1 (some (.loc lt)) (some (.int u)) (some (.tup [.loc n,.loc k])) none none none none none none none none none none none none none none none none none none) H kn Φ:=by
 have w:u<=3:=Ig t (by decide) (by decide);refine⟨by omega,?_⟩;refine Bw Ak (by omega) ?_;have B:Fr (fun C=>False) H (H++[HO.range 0 u 1]):=Fr.new _;refine BF (xs:=(range' 0 u)) (f:=(fun r:Nat=>V.int r)) (fun(g post:List Nat) i e=>EU (Fr (fun C=>False) H e) (i=.list ((g.flatMap fun a:Nat=>(range' 0 u).map fun b:Nat=>[(a:Int),(b:Int)]).map Am))) ?_ ?_ _ _ ⟨B,rfl⟩
 .rintro g a post i e E G ⟨fr,rfl⟩ I;have y:g.length<=3:=by have:=BU G;rw[length_range']at this;omega
  refine⟨by omega,?_⟩;refine Bw Ak (by omega) ?_;refine Ed (f:=fun b:Nat=>Am [(a:Int),(b:Int)]) trivial (fun p l E h=>h) (range' 0 u) _ ?_ (I _ _ trivial ⟨fr.app _,?_⟩)
  .rw[AG,List.length_flatMap,length_range'];have:(g.map fun a:Nat=>((range' 0 u).map fun b:Nat=>[(a:Int),(b:Int)]).length).sum<=3*3:=by
    refine AF (Wb (c:=3) fun z J=>?_) (by rw[AG];exact mul_le_mul_right 3 y);obtain⟨q,_,rfl⟩:=AS J;rw[AG,length_range'];exact w
   exact AF (Ad this (Ig (p:=(· <=3)) t (by decide) (by decide))) (by decide)
  .rw[List.flatMap_append,AL,flatMap_cons,List.flatMap_nil,Ah,List.map_map];rfl
 .rintro i e ⟨fr,rfl⟩;have L:(Fb u).length<=9:=by rcases t with rfl |rfl<;>decide +kernel
  have nd:(Fb u).Nodup:=by rcases t with rfl |rfl<;>decide +kernel
  have s:=fr.app [HO.list ((Fb u).map Am)];refine objA_i (s.old v id) ?_;refine⟨by rw[AG];omega,?_⟩;rw[AG];w_left;rw[show(2:Int)-(j.length:Int)=((2-j.length:Nat):Int) by omega];refine An (k:=3) (lt_of_succ_lt (lt_of_succ_lt hd)) (JM F (K:=K) (lr:=e.length) (wide:=4) (most:=2-j.length) (rows:=Fb u) ((x.le (by omega)).fr s) Ak (by decide) (by decide) L nd (Nat.sub_le_of_le_add (le_add_right_of_le (by decide))) fun e o ld S D fr M N O P Q R T=>?_);exact A _ o ld S D (s.pure.trans fr) M (AF s.len N) (AF s.len O) P Q R T
end
structure Fi(u ar:Nat)(S D ks:List (List Int)):Prop where
 lo:Ct u ar S
 up:Ct u ar ks
 dub:dub S ks=D
 sub:∀r∈S,r∈ks
 nd:ks.Nodup
 ns:S.Nodup
 ls:S.length<=9
 lk:ks.length<=9
theorem K8{g:Nat}{R D i:List (List Int)}(c:List Int->Prop)(q:∀r s,c r->c s->Ge (Am r) (Am s)=true->code r<code s)(j:∀r s,c r->c s->code r=code s->r=s)
  (u:(R.map Am).Pairwise fun a b=>Ge a b=true) (t:∀r∈R,c r/\r.length=k/\∀a∈r,0<=a/\a<(n:Int)) (v:R.Nodup) (w:R.length<=9) (x:F1 R S D g) (o:i.Perm (S++D)) (m:(i.map Am).Pairwise fun a b=>Ge a b=true):Fi n k S D i:=by
 have nS:=v.sublist x.s;have sub:∀r∈i,r∈R:=fun r f=>(AY (o.mem_iff.mp f)).elim (x.s.subset ·) (x.d.subset ·);have y:i.Nodup:=o.nodup_iff.mpr (List.nodup_append.mpr ⟨nS,(v.sublist x.d),fun a B b C e=>x.off a B (e▸C)⟩);have lk:=AF (y.length_le_of_subset sub) w;have z:=AF x.s.length_le w;have A:∀{l:List (List Int)},(∀r∈l,r∈R)->((l.map Am).Pairwise fun a b=>Ge a b=true)->l.length<=9->Ct n k l:=fun h p l=>⟨fun r f=>(t r (h r f)).2.1,fun r f=>(t r (h r f)).2.2,Ra p,by omega⟩;exact⟨A (fun r f=>x.s.subset f) (List.Pairwise.sublist (x.s.map Am) u) z,A sub m lk,Vh c q j o m (List.Pairwise.sublist (x.d.map Am) u) x.off fun r f=>(t r (sub r f)).1,fun r f=>o.mem_iff.mpr (mem_append_left _ f),y,nS,z,lk⟩
theorem S3{D c:List (List Int)}(d:n=2\/n=3)(x:F1 (EM n) S D k)(i:c.Perm (S++D))(g:(c.map Am).Pairwise fun a b=>Ge a b=true):Fi n 1 S D c:=by
 refine K8 (fun r=>∃a,r=[a]) (fun r s ⟨a,e⟩ ⟨b,f⟩ h=>?_) (fun r s ⟨a,e⟩ ⟨b,f⟩ h=>?_) ?_ (fun r j=>?_) ?_ ?_ x i g
 .subst e;subst f;exact S5 h
 .subst e;subst f;exact congrArg (fun z:Int=>[z]) h
 .rcases d with rfl |rfl<;>decide +kernel
 .obtain⟨a,l,rfl⟩:=AS j;have:=mem_range'_1.mp l;refine⟨⟨_,rfl⟩,rfl,fun b m=>?_⟩;rw[AJ m];exact⟨Ai _,Int.ofNat_lt.mpr (nz this)⟩
 .rcases d with rfl |rfl<;>decide +kernel
 .rcases d with rfl |rfl<;>decide +kernel
theorem O0{D l:List (List Int)}(j:n=2\/n=3)(x:F1 (Fb n) S D k)(y:l.Perm (S++D))(m:(l.map Am).Pairwise fun a b=>Ge a b=true):Fi n 2 S D l:=by
 refine K8 (fun r=>Dd fun a b=>DD (r=[a,b]) (0<=b) (b<3)) (fun r s ⟨a,b,e,d,g⟩ ⟨o,v,f,q,t⟩ h=>?_) (fun r s ⟨a,b,e,d,g⟩ ⟨o,v,f,q,t⟩ h=>?_) ?_ (fun r u=>?_) ?_ ?_ x y m
 .subst e;subst f;exact SI ⟨d,g⟩ ⟨q,t⟩ h
 .subst e;subst f;have h:3*a+b=3*o+v:=h;have i:∀{a b:Int},0<=b->b<3->(3*a+b) / 3=a:=fun d g=>by rw[Int.add_comm,Int.add_mul_ediv_left _ _ (by decide),Int.ediv_eq_zero_of_lt d g,Int.zero_add]
  have w:a=o:=(i d g).symm.trans ((congrArg (· / 3) h).trans (i q t));rw[w]at h;rw[w,Int.add_left_cancel h]
 .rcases j with rfl |rfl<;>decide +kernel
 .obtain⟨a,z,u⟩:=List.mem_flatMap.mp u;obtain⟨b,A,rfl⟩:=AS u;have:=mem_range'_1.mp z;have:=mem_range'_1.mp A;refine⟨⟨_,_,rfl,Ai _,Int.ofNat_lt.mpr (AK (nz this) (Ig (p:=(· <=3)) j (by decide) (by decide)))⟩,rfl,fun c hc=>?_⟩;rcases Ae hc with rfl |hc
  .omega
  .rw[AJ hc];omega
 .rcases j with rfl |rfl<;>decide +kernel
 .rcases j with rfl |rfl<;>decide +kernel
theorem Nb{R D:List (List Int)}(x:F1 R S D n)(h:∀r∈R,r≠[])(c:R.Nodup)(j:R.length<=9):(S++D).length<60/\(S++D).Nodup/\∀t∈S++D,t≠[]:=by
 refine⟨?_,List.nodup_append.mpr ⟨c.sublist x.s,c.sublist x.d,fun a f b g e=>x.off a f (e▸g)⟩,fun t i=>h t ((AY i).elim (x.s.subset ·) (x.d.subset ·))⟩;have:=x.s.length_le;have:=x.d.length_le;rw[AI];omega
section
variable {d:Nat} {H:Aj} {kn:BA->Aj->Prop} {Φ:V->Aj->Prop} {u lb ll ld lu s0 d0 s1 d1 most:Nat} {S D:List (List Int)} {items ks:List V} {a1 a2 a3:Option V} {v4 v5:V}
theorem SE(F:BN X)(hd:8<=d)(j:u=2\/u=3)(x:F1 (EM u) S D most)(A:H[s0]? =some (.list (S.map Am)))(l:H[d0]? =some (.list (D.map Am)))(y:CT H lb ll ld lu u items ks)(n:items.length<=60)(q:ks.length<=60)(C:V.str (ofString "s")∉ks)
  (t:ll≠lb/\ll≠ld/\ld≠lb/\lu≠ll/\lu≠ld) (E:∀g up,Fr (fun m=>m=ll\/m=ld) H g->Fi u 1 S D up->CT g lb ll ld lu u (items++[.tup [.str (ofString "s"),.int 1,.tup (S.map Am),.tup (up.map Am)]]) (ks++[.str (ofString "s")]) ->
   kn (CF a1 a2 a3 (some (.tup [.loc s0,.loc d0])) (some v5) (some (.loc lb)) none none none none none none none none none none none none none none none none) g) :
  Lj X d (E2 (Bg (Bt 63)) 5) JH (CF a1 a2 a3 (some (.tup [.loc s0,.loc d0])) (some v5) (some (.loc lb)) none none none none none none none none none none none none none none none none) H kn Φ:=by
 have G:(EM u).Nodup:=by rcases j with rfl |rfl<;>decide +kernel
 have v:(EM u).length<=9:=by rcases j with rfl |rfl<;>decide +kernel
 obtain⟨I,J,K⟩:=Nb x (fun r L e=>by obtain⟨a,_,rfl⟩:=AS L;cases e) G v;have M:=x.s.length_le;refine tg_i (y.tg (m:= "add") (p:= "Bounds.add")) fun N=>?_;w_dflts A;refine⟨AF (by rw[AG];omega) (by decide:9<=Ar),?_⟩;refine objA_i A (objA_i l ?_);refine⟨AF (by rw[AG,AG];exact AF (AF (Ad M x.d.length_le) (Ad v v)) (by decide)) (by decide:18<=Ar),?_⟩;refine objA_i Ak ?_
 try (delta Ee;dsimp only)
 rw[<- AL];refine Bz I J K fun up O f=>?_;have h:=S3 j x O f;generalize w:H++[HO.list ((S++D).map Am)]=B;have z:Fr (fun N=>False) H B:=by rw[<- w];exact Fr.new _
 have c:=z.app [HO.list (up.map Am)];refine objA_i (Ak (H:=B) (o:=HO.list (up.map Am))) ?_;have lk:=h.lk;refine⟨AF (by rw[AG];exact lk) (by decide:9<=Ar),?_⟩;refine An (k:=5) (lt_of_succ_lt (lt_of_succ_lt hd)) (Ku F ⟨c.old y.at_ id,c.old y.ls id,by obtain⟨P,a,b⟩:=y.ds;exact⟨P,c.old a id,b⟩,⟨let⟨Q,R,a,b⟩:=y.un.at_;⟨Q,R,c.old a id,b⟩⟩⟩ (Ig j (by decide) (by decide)) (by decide) C h.lo h.up h.sub (by decide) n q t fun g i fr T=>(E g up (c.pure.trans fr) h T))
theorem R2(F:BN X)(hd:8<=d)(j:u=2\/u=3)(x:F1 (Fb u) S D most)(B:H[s0]? =some (.list (S.map Am)))(l:H[d0]? =some (.list (D.map Am)))(y:CT H lb ll ld lu u items ks)(n:items.length<=60)(q:ks.length<=60)(E:V.str (ofString "r")∉ks)
  (t:ll≠lb/\ll≠ld/\ld≠lb/\lu≠ll/\lu≠ld) (G:∀g up,Fr (fun m=>m=ll\/m=ld) H g->Fi u 2 S D up->CT g lb ll ld lu u (items++[.tup [.str (ofString "r"),.int 2,.tup (S.map Am),.tup (up.map Am)]]) (ks++[.str (ofString "r")]) ->
   kn (CF a1 a2 a3 (some v4) (some (.tup [.loc s0,.loc d0])) (some (.loc lb)) none none none none none none none none none none none none none none none none) g) :
  Lj X d (E2 (Bg (Bt 63)) 6) JH (CF a1 a2 a3 (some v4) (some (.tup [.loc s0,.loc d0])) (some (.loc lb)) none none none none none none none none none none none none none none none none) H kn Φ:=by
 have I:(Fb u).Nodup:=by rcases j with rfl |rfl<;>decide +kernel
 have v:(Fb u).length<=9:=by rcases j with rfl |rfl<;>decide +kernel
 obtain⟨J,K,L⟩:=Nb x (fun r w e=>by obtain⟨a,_,w⟩:=List.mem_flatMap.mp w;obtain⟨b,_,rfl⟩:=AS w;cases e) I v;have M:=x.s.length_le;refine tg_i (y.tg (m:= "add") (p:= "Bounds.add")) fun N=>?_;w_dflts B;refine⟨AF (by rw[AG];omega) (by decide:9<=Ar),?_⟩;refine objA_i B (objA_i l ?_);refine⟨AF (by rw[AG,AG];exact AF (AF (Ad M x.d.length_le) (Ad v v)) (by decide)) (by decide:18<=Ar),?_⟩;refine objA_i Ak ?_
 try (delta Ee;dsimp only)
 rw[<- AL];refine Bz J K L fun up O f=>?_;have h:=O0 j x O f;generalize z:H++[HO.list ((S++D).map Am)]=C;have A:Fr (fun N=>False) H C:=by rw[<- z];exact Fr.new _
 have c:=A.app [HO.list (up.map Am)];refine objA_i (Ak (H:=C) (o:=HO.list (up.map Am))) ?_;have lk:=h.lk;refine⟨AF (by rw[AG];exact lk) (by decide:9<=Ar),?_⟩;refine An (k:=5) (lt_of_succ_lt (lt_of_succ_lt hd)) (Ku F ⟨c.old y.at_ id,c.old y.ls id,by obtain⟨P,a,b⟩:=y.ds;exact⟨P,c.old a id,b⟩,⟨let⟨Q,R,a,b⟩:=y.un.at_;⟨Q,R,c.old a id,b⟩⟩⟩ (Ig j (by decide) (by decide)) (by decide) E h.lo h.up h.sub (by decide) n q t fun g i fr T=>(G g up (c.pure.trans fr) h T))
end
section
variable {H:Aj}
theorem R5(F:BN X)(h:H[n]? =some (.flist (t.map V.int)))(hl:t.length<=63):Ap X 101 "law" [.loc n] H (fun v H'=>v=.bool true/\H'[n]? =some (.flist (t.map V.int))):=by
 refine Ao F 63 rfl (Al fun A p=>(An (k:=1) (by decide) (QY F h (by omega) fun H1 lt x g0 O=>(p _ _ (Al fun A p=>?_)))));refine(An (k:=1) (by decide) (CB F (K:=9999) (many:=2) O (by decide) (by decide) fun H2 r E x2 hr=>(p _ _ (Al fun A p=>?_))));have B:2+r=2\/2+r=3:=by omega
 generalize eu:2+r=u at B;have eI:(2:Int)+(r:Int)=(u:Int):=by omega
 rw[eI];refine LY F (K:=9900) (by decide) (x2.le (by decide)) B fun H3 s0 d0 S D G x3 g1 g2 g3 I y z=>p _ _ (Al fun A p=>?_);refine Sd F (K:=9800) (by decide) (x3.le (by decide)) B y z.le fun W s1 d1 S' D' s x4 g4 g5 g6 J L lo1=>p _ _ (Al fun A p=>?_);refine MY F (by decide) (by omega) fun H5 lb Y ld lu d g7 g8 g9 h0 M y5=>p _ _ (Al fun A p=>?_);have o1:lt<H1.length:=by obtain⟨P,g,k,C,_⟩:=O.at_;exact Ax C
 have l2:=E.len;have l3:=G.len;have l4:=s.len;have l5:=d.len;have Z:=d.old (s.old I (by omega)) id;have a1:=d.old (s.old y (by omega)) id;have a2:=d.old J id;have a3:=d.old L id;have b0:=Ax I;have b1:=Ax y;have b2:=Ax J;have Q:=Ax L;refine SE F (by decide) B z Z a1 y5 (by decide) (by decide) (fun q=>by cases q) M fun H6 i0 c i y6=>p _ _ (Al fun A p=>?_);have off:∀{l},l<W.length->¬(l=Y\/l=ld):=fun h=>by omega
 refine R2 F (by decide) B lo1 (c.old a2 (off b2)) (c.old a3 (off Q)) y6 (show 1<=60 by decide) (show 1<=60 by decide) (fun q=>by
  have:=AJ q;injection this with this;exact absurd (CZ this) (by decide)) M fun R up1 f j N=>p _ _ ?_
 have x7:BR R lt (9760+40):=by
  obtain⟨P,g,k,C,t2,t3,t4,t5⟩:=x4.at_;have c1:=Ax C;exact⟨P,g,k,f.old (c.old (d.old C id) (off c1)) (off c1),f.old (c.old (d.old t2 id) (off (by omega))) (off (by omega)),t3,t4,t5⟩
 have c0:W.length<=R.length:=by have:=c.len;have:=f.len;omega
 have e0:=f.old (c.old Z (off (by omega))) (off (by omega));have e1:=f.old (c.old a1 (off (by omega))) (off (by omega));have e2:=f.old (c.old a2 (off b2)) (off b2);have e3:=f.old (c.old a3 (off Q)) (off Q);refine Oz F (by decide) x7 B fun H8 l j0 k0 o9 o8 T x8 hb hf q1 q2 q3 q4 q5=>?_;obtain⟨kw,kb,hc⟩:=Oy hb q1 q2 q3 q4;have go:∀{m o},R[m]? =some o->m≠lt->H8[m]? =some o:=fun q h=>T.old q h;have y8:CT H8 lb Y ld lu u _ _:=⟨go N.at_ (by omega),go N.ls (by omega),by obtain⟨kv,a,b⟩:=N.ds;exact⟨kv,go a (by omega),b⟩,⟨by obtain⟨ns,nu,a,b⟩:=N.un.at_;exact⟨ns,nu,go a (by omega),b⟩⟩⟩;have U:=x.old h id;have f0:=Ax h;have w:n≠lt:=fun e=>by obtain⟨P,g,k,C,_⟩:=O.at_;rw[e,C]at U;cases U
 have h8:=go (f.old (c.old (d.old (s.old (G.old (E.old U w) w) w) id) (off (by have:=x.len;omega))) (off (by have:=x.len;omega))) w;have hD:=lo1.le;have l0:=z.le;exact UM F (by decide) x8 (by omega) (by omega) y8 (by omega) (go e0 (by omega)) (go e1 (by omega)) (go e2 (by omega)) (go e3 (by omega)) i.dub j.dub (by omega) i.sub j.sub i.nd j.nd i.ns j.ns i.up j.up i.ls j.ls i.lk j.lk kw kb q5 hf hc fun H9 k=>⟨rfl,k _ _ h8⟩
end
theorem Ph{R:WRecords}:∀{a:List WData},WShape.hasItems R a .int=true->∃b:List Int,a=b.map WData.int:=by
 intro c;induction c with
 |nil=>
  intro _;exact⟨[],rfl⟩
 |cons x a d=>
  intro h;exact let⟨f,g⟩:=Aa h
   let⟨b,e⟩:=d g;let⟨i,q⟩:=hasW_int f
   ⟨i::b,q▸e▸rfl⟩
def XW(P:Params)(h:Heap)(x:Value)(c:List WData):Prop:=∃a b,x=.ref a/\h.get? a=some { cls:=.type "list",data:=.seq b.toArray }/\WellAll P h b c
def WI(P:Params)(h:Heap)(x:Value)(d:WData):Prop:=WData.casesOn (motive_1:=fun a=>Prop) d True (fun a=>True) (fun i=>∃t,x=.int i t) (fun a=>True) (XW P h x) (fun a=>True) (fun a=>True) (fun a=>True) (fun a=>True) (fun a=>True) (fun a=>True) (fun a=>True) (fun a a=>True)
theorem MF{P:Params}{d:WData}(w:Well P h x d):WI P h x d:=
 Well.casesOn (motive_1:=fun x d c=>WI P h x d) w ⟨⟩ (fun c=>⟨⟩) (fun c t=>⟨t,rfl⟩) (fun c c=>⟨⟩) (fun c c=>⟨⟩) (fun c c=>⟨⟩) (fun c=>⟨⟩) (fun a b=>⟨_,_,rfl,a,b⟩) (fun c c=>⟨⟩) (fun c c=>⟨⟩) (fun c c c c=>⟨⟩) (fun c c c c=>⟨⟩) (fun c c c c=>⟨⟩)
theorem Dh{P:Params}{x:List WData}(w:WellAll P h a x):x.casesOn (motive:=fun g=>Prop) (a=[]) (fun d f=>∃v c,a=v::c/\Well P h v d/\WellAll P h c f):=
 WellAll.casesOn (motive_2:=fun a x g=>x.casesOn (motive:=fun g=>Prop) (a=[]) (fun d f=>∃v c,a=v::c/\Well P h v d/\WellAll P h c f)) w rfl fun e b=>⟨_,_,rfl,e,b⟩
theorem Od{P:Params}:∀{c:List Int}{d:List Value},WellAll P h d (c.map WData.int)->BJ G (c.map V.int) d:=by
 intro f;induction f with
 |nil=>
  intro _ h;exact(Dh h:_=_)▸.nil
 |cons i c g=>
  intro _ h;exact let⟨v,d,e,a,b⟩:=Dh h
   let⟨t,q⟩:=MF a
   e▸q▸.cons (.int _ _) (g b)
theorem Pv{r:RowW}(A:r.records=[])(n:r.args=[.list .int])(o:r.pre=.and (.not (.lt (.lit (.int 63)) (.len (.arg 0)))) (.lit (.bool true))){P:Params}{b:List WData}(g:r.claim.pre b=true)(i:WellAll P h a b) :
  ∃(c:Addr) (j:List Value) (e:List Int),b=[.list (e.map WData.int)]/\a=[.ref c]/\h.get? c=some { cls:=.type "list",data:=.seq j.toArray }/\(∀G:Gh,BJ G (e.map V.int) j)/\e.length<=63:=by
 obtain⟨l,m⟩:=pre_splitW g;rw[n]at l;obtain⟨d,B,rfl,p,s⟩:=hasAllW_cons l;obtain rfl:=hasAllW_nil s;obtain⟨C,rfl,t⟩:=hasW_list p;obtain⟨e,rfl⟩:=Ph t;obtain⟨v,k,rfl,u,w⟩:=Dh i;obtain rfl:k=[]:=Dh w;obtain⟨c,j,rfl,x,y⟩:=MF u;refine⟨_,_,e,rfl,rfl,x,fun G=>Od y,?_⟩;rw[o]at m;have f:=(holds_andW m).1;refine Nat.not_lt.mp fun q=>?_;have z:decide ((63:Int)<((e.map WData.int).length:Int))=true:=decide_eq_true (by rw[AG];exact Int.ofNat_lt.mpr q);have e0:([WData.list (e.map WData.int)]:List WData)[0]? =some (.list (e.map WData.int)):=rfl;unfold WTm.holds at f;rw[WTm.value,WTm.value,WTm.value,WTm.value,WTm.value]at f;rw[e0]at f;dsimp only at f;rw[less?,Num.less?,z]at f;exact absurd f AN
def YP(w:World)(h:Heap):Prop:=∃a,VF a=M6/\∀b o,a.get? b=some o->h.get? b=some o
abbrev Wx:RowW:=PySem.Challenge.rw_nz0396_01.row.toRowW
theorem WW{w:World}{c:Heap}{mb:Str->Option Value}{fz:Addr->Option Obj}(e:VF c=M6)(k:∀b o,c.get? b=some o->h.get? b=some o)(a:Addr)(i:List Value)(g:(YD w c h mb fz).gtup a=some i):h.IsTuple a i.toArray:=by
 have g:(if a=315 then(match Pn c with |some p=>some p.2.toList |none=>none)else none)=some i:=g
 by_cases q:a=315
 .rw[if_pos q]at g;have d:Pn c=XC:=congrArg (fun x=>x.2.2.2.2.2.2) e;unfold Pn at d g;refine CK (c.get? 315) (fun f=>?_) fun o f=>?_
  .rw[f]at d;cases d
  .rw[f]at d g;dsimp only at d g;cases j:o.data with
   |seq l n=>
    rw[j]at d g;dsimp only at d g;injection g with g;injection d with d;subst g;rw[q];exact⟨o,k _ _ f,congrArg Prod.fst d,n,j⟩
   |_=>rw[j]at d;cases d
 .rw[if_neg q]at g;cases g
theorem Qz{d:DefRec}{H:List (Str×Expr)}(Z:d.name=ofString "law"):WalkO qr IC (fun y y=>True) YP Wx d H fun f I=>PySem.call f I:=by
 intro w O c mg J G Y fa o pm cd a0 dV kV ho hd b0 hD j hg P Q as A R c0 K d0;obtain⟨t,e,k⟩:=Y;obtain⟨a,I,S,rfl,rfl,i,L,B⟩:=Pv (r:=Wx) rfl rfl rfl A K;have F:BN (YD w t c.heap J fun b=>c.heap.get? b):=VH e k G.T.nolimit G.T.b G.T.builtins;have x:=F.all.g (ofString "law") (.fn "law") (by rfl);have M:fa=Ln "law" :=by
  have x:t.nsMap mainGlobals (ofString "law")=some (.ref (Ln "law")):=x;rw[Z,(Wm G.T.g ((Heap.Ns.of_isNs (Hc (congrArg (·.1) e)).1).keeps k)),x]at j;injection j with j;injection j with j;exact j.symm
 subst M;have hL:∀s,c.heap.get? a=some s->PM s=true:=fun s q=>by rw[i]at q;cases q;rfl
 refine wpAny_call ((TP (fun F y y y h l=>R5 F h l) F [HO.flist (S.map V.int)] 0 S rfl B).go callerA ⟨(YD w t c.heap J fun b=>c.heap.get? b).gtup,fun n=>if n=0 then some a else none,fun y=>none⟩ c [.ref a] ⟨rfl,by decide,by decide⟩ ?_ (.cons (.loc rfl) .nil) _ fun G' H' v f0 s' p hh r φ=>?_)
 .have one:∀{n:Nat}{b:Addr},(if n=0 then some a else none:Option Addr)=some b->n=0/\b=a:=fun{n b} q=>by
   by_cases z:n=0
   .rw[if_pos z]at q;cases q;exact⟨z,rfl⟩
   .rw[if_neg z]at q;cases q
  refine⟨fun b s q=>(DR.mp q).1,fun b q=>?_,fun n s q=>?_,fun n b q=>?_,fun n m b D E=>(one D).1.trans (one E).1.symm,(fun n m b D E=>by cases D),(fun n m b D E=>by cases E),fun b U q=>WW (w:=w) (mb:=J) (fz:=fun b=>c.heap.get? b) e k b U q,fun b U q=>q⟩
  .rcases q with⟨n,q⟩ |⟨n,q⟩
   .obtain⟨_,rfl⟩:=one q;cases W:((QN c.heap).get? b)with
    |none=>exact W
    |some s=>
     obtain⟨z1,C⟩:=DR.mp W;rw[hL _ z1]at C;cases C
   .cases q
  .cases n with
   |zero=>
    cases q;exact⟨a,_,I,rfl,rfl,i,i,⟨⟨_,i,rfl,_,rfl⟩,fun s q=>by rw[i]at q;cases q;rfl⟩,L _⟩
   |succ n=>cases q
  .rcases q with q |q
   .rw[(one q).1];exact Nat.zero_lt_one
   .cases q
 .obtain⟨rfl,h0⟩:=φ;obtain rfl:=r.bool_l;have hk:∀b s,c.heap.get? b=some s->s'.heap.get? b=some s:=fun b s q=>by
   by_cases z:b=a
   .subst z;obtain⟨a',o',g0,e1,_,e3,N,_⟩:=hh.loc 0 _ h0;have X:=p.le.loc 0 b rfl;rw[e1]at X;cases(X);have N:c.heap.get? b=some o':=N;rw[N]at q;cases q;exact e3
   .refine p.keep b s q (fun u=>?_) id;rcases u with⟨n,u⟩ |⟨n,u⟩
    .have u:(if n=0 then some a else none:Option Addr)=some b:=u
     by_cases C:n=0
     .rw[if_pos C]at u;cases u;exact z rfl
     .rw[if_neg C]at u;cases u
    .cases u
  exact⟨.inl ⟨.bool true,.bool true,[],rfl,raisesW_false (fun ct h=>by cases h),.bool true,postW_of rfl rfl (by decide +kernel),fun y=>⟨.nil,fun b h=>by cases h⟩⟩,.of_keep hk,p.same.os,.of_eq (p.same.gens.trans hg)⟩
theorem hY(w:World)(s:Shared)(e:VF s.heap=M6):YP w s.heap:=⟨s.heap,e,fun a a q=>q⟩
theorem Zx(w:World)(h c:Heap)(y:YP w h)(k:∀b o,h.get? b=some o->c.get? b=some o):YP w c:=let⟨a,e,z⟩:=y;⟨a,e,fun b o q=>k b o (z b o q)⟩
theorem To:LeftO TD.prog qr IC (fun a=>true) (fun s=>VF s.heap) (fun a=>M6) 10000:=HU
end Mine.Internal
open Mine.Internal in
theorem PySem.Challenge.cw_nz0396_01_holds : PySem.Challenge.rw_nz0396_01.Holds := by
  obtain ⟨⟨d, kwd⟩, hd, he⟩ := Option.map_eq_some_iff.mp Uq
  rw [hd] at he
  obtain ⟨h1, he⟩ := Prod.mk.inj he
  obtain ⟨h2, h3⟩ := Prod.mk.inj he
  exact holds_law UQ fun said => holds_open (r := TD) To hY Zx (fun _ _ => trivial) (fun _ _ _ _ _ => trivial) hd h2 h3 (fun s _ => recFacts_nil rfl) rfl said Xw T4 Td (Qz h1)
