import PyProof.Rows.All
import Wide.All
import OpenK.AllK
import Wide.FinOn
import KE.KStateDown
import HandS.ForMost
import HandS.Exc
import HandS.ExcOwn
import HandS.Head0
import HandS.Head1
import HandS.Head2
import HandS.HeadEnd
import HandS.HeadHook1
import HandS.HeadHook2
import HandS.HeadHook3
import HandS.Defaults
import HandS.Ends
import Lean
import PySem.Challenge.RW_stillmain_k82_texts_refused
import HandS.HotCalls
import HandS.Wide
import HandS.Flow
import HandS.Deep
import HandS.TupAny
import HandS.IsInst
import HandS.Text
import HandS.WordsDict
import HandS.Style
import PyProof.ReprRoads
import PyProof.ReprBulk
import KE.KIntText
import HandS.Conv
import HandS.More
import HandS.ListItems
import HandS.ExcInit
import HandS.ExcInitHot
import KE.KDictList
import HandS.SetKeys
import KE.DataFind
import PyProof.ListStr
import HandS.SetTxt0
import HandS.Set
import HandS.SetFor
import HandS.Strs
import KE.DataMinMax
import KE.SortData
import KE.GoesEnum
import HandS.Iter
import KE.GoesZip
import KE.GoesMore
import HandS.Codes
import HandS.Comp
import HandS.ForList
import HandS.ExcIs
import HandS.ExcField
import KE.KIsAll
import HandS.Small
import PyProof.FitsInt
import PyProof.ReprRoom
import KE.DatumOrd
set_option Elab.async false
set_option linter.all false
set_option maxRecDepth 100000
set_option maxHeartbeats 0
def zag:=@List.length_map
def zah:=@decide_eq_true_eq
def zai:=@PySem.sizeLine_eq
def zaj:=@List.mem_singleton
def zak:=@Bool.and_eq_true
def zal:=@List.mem_cons_self
def zam:=@Option.map_eq_some_iff
def zan:=@List.mem_map
def zao:=@List.mem_cons_of_mem
def zap:=@List.mem_append
def zaq:=@List.mem_of_getElem?
def zar:=@List.mem_append_left
def zas:=@List.mem_append_right
def zat:=@List.map_map
def zau:=@List.mem_cons
def zav:=@List.map_append
def zaw:=@List.length_append
def zax:=@List.map_cons
def zay:=@List.mem_filter
def zaz:=@List.length_cons
def zba:=@List.not_mem_nil
def zbb:=@List.length_filter_le
def zbc:=@List.filter_eq_self
def zbd:=@List.nodup_cons
def zbe:=@Bool.false_ne_true
def zbf:=@decide_eq_false
def zbg:=@decide_eq_true
def zbh:=@List.getElem?_map
def zbi:=@List.getElem?_eq_getElem
abbrev zbj:=PySem.W.Frag
namespace Qt
def Put (p:Prop):Prop:=p
theorem put_in {p:Prop} (h:Put p):p:=h
theorem keep {p:Prop} (h:p):p:=h
theorem put_off {p:Prop} (h:p):Put p=True:=eq_true h
end Qt
noncomputable section
namespace Sv
open PySem PySem.Spec PyProof.Rows L2 PySem.W PySem.Calls
inductive Fx where
 | oex (x:Str) | ini (x:Str) | bas (x:Str) | exf (x:Str) | insf (x:Str) | nov (x f:Str)
 | kit (x y:Str) (b:Bool) | kitT (x:Str) (n:String) (b:Bool)
 | exfs (xs:List Str) | sib (xs:List Str) | veT (xs:List Str) (n:String) | exA (xs:List Str) (y:Str) | tyo (x:Str)
def b9i (K:Frag) (C:Addr):Bool:=(match K.lookup C with
 | some ⟨.type "type",_,.cls cd,sl⟩=>(match cd.mro,sl.toList with
  | .ref C' :: bm,[_,_,_,_,some (.builtin n),_]=>decide (C'=C) && decide (n = "ValueError.__new__") && !cd.hasDel && cd.hasDict && PySem.HandSPX.refsVE bm
  | _,_=>false)
 | _=>false) && (He.eqO (findIn K (.ref C) "__setattr__") (some (some (.builtin "object.__setattr__"))) && (decide (subIn K (.ref C) (.type "BaseException")=some true) && (decide (typeIn K (.ref C)=some (.type "type")) && keepIn K (.ref C))))
def cvB (r:Option CFound) (v:Value):Bool:=match r with
 | some (.val u)=>decide (u=v)
 | _=>false
def c1m (K:Frag) (x:Str):Bool:=He.eqO (findIn K (.ref (He.ga K x)) "__getattribute__") (some (some (.builtin "BaseException.__getattribute__"))) && (He.eqO (findIn K (.ref (He.ga K x)) "__getattr__") (some none) && (decide (subIn K (.ref (He.ga K x)) (.type "BaseException")=some true) && (hasDictIn K (He.ga K x) &&
   (He.eqO (findIn K (.ref (He.ga K x)) "__class__") (some (some (.builtin "object.__class__"))) && (He.eqO (specialIn K (.builtin "object.__class__") "__get__") (some (some (.builtin "getset_descriptor.__get__"))) && (decide (takesIn K (.builtin "object.__class__")=some true) && decide (mroIn K (He.ga K x) (.type "object")=some true)))))))
def Fx.ok (K:Frag):Fx→Bool
 | .oex x=>b9i K (He.ga K x)
 | .ini x=>He.eqO (findIn K (.ref (He.ga K x)) "__init__") (some (some (.ref (He.ma K (He.ga K x) "__init__")))) && decide (typeIn K (.ref (He.ma K (He.ga K x) "__init__"))=some (.type "function"))
 | .bas x=>readsIn K (He.ga K x) (.type "type") && (He.eqO (specialIn K (.ref (He.ga K x)) "__getattribute__") (some (some (.builtin "type.__getattribute__"))) && cvB (findCls K (.ref (He.ga K x)) (.type "type") "__init__") (.builtin "ValueError.__init__"))
 | .exf x=>c1m K x
 | .exfs xs=>xs.all (c1m K)
 | .insf x=>He.eqO (findIn K (.ref (He.ga K x)) "__class__") (some (some (.builtin "object.__class__"))) && (He.eqO (specialIn K (.builtin "object.__class__") "__get__") (some (some (.builtin "getset_descriptor.__get__"))) && (decide (takesIn K (.builtin "object.__class__")=some true) && (decide (mroIn K (He.ga K x) (.type "object")=some true) && decide (kitOne K (.ref (He.ga K x)) (.ref (He.ga K x))=some true))))
 | .nov x f=>He.eqO (findIn K (.ref (He.ga K x)) f) (some none)
 | .kit x y b=>decide (kitOne K (.ref (He.ga K x)) (.ref (He.ga K y))=some b)
 | .kitT x n b=>decide (kitOne K (.ref (He.ga K x)) (.type n)=some b)
 | .sib xs=>xs.all fun x=>xs.all fun y=>decide (kitOne K (.ref (He.ga K x)) (.ref (He.ga K y))=some (decide (x=y)))
 | .veT xs n=>xs.all fun x=>decide (kitOne K (.ref (He.ga K x)) (.type n)=some true)
 | .exA xs y=>xs.all fun x=>decide (exmOne K (.ref (He.ga K x)) (.ref (He.ga K y))=some true)
 | .tyo x=>decide (typeIn K (.ref (He.ga K x))=some (.type "type"))
abbrev AlX:Type:=He.AlD × Bool
def foL {β:Type} {α:Type} (f:{α:Type}→β→(β→α)→α) (l:List β):(List β→α)→α :=
 List.rec (motive:=fun _=>(List β→α)→α) (fun k=>k []) (fun a _ ih k=>f a fun a=>ih fun r=>k (a :: r)) l
def foN {α:Type} (n:Nat) (k:Nat→α):α:=HandSHeadRun.frNat n k
def foS {α:Type} (s:Str) (k:Str→α):α:=match s with
 | ⟨⟨l⟩⟩=>foL foN l fun l=>k ⟨⟨l⟩⟩
def foV {α:Type} (v:Value) (k:Value→α):α:=match v with
 | .ref a=>foN a fun a=>k (.ref a)
 | .str s t=>foS s fun s=>k (.str s t)
 | .none=>k .none
 | .ellipsis=>k .ellipsis
 | .notImplemented=>k .notImplemented
 | .bool b=>k (.bool b)
 | .int i t=>k (.int i t)
 | .float b t=>k (.float b t)
 | .bytes b t=>k (.bytes b t)
 | .type n=>k (.type n)
 | .builtin n=>k (.builtin n)
def foE {α:Type} (e:DictEntry) (k:DictEntry→α):α:=match e with
 | ⟨h,x,v⟩=>foV x fun x=>foV v fun v=>k ⟨h,x,v⟩
def foD {α:Type} (d:Data) (k:Data→α):α:=match d with
 | .dict ⟨es⟩ n=>foL foE es fun es=>k (.dict ⟨es⟩ n)
 | .seq ⟨es⟩ n=>foL foV es fun es=>k (.seq ⟨es⟩ n)
 | .cls ⟨a1,a2,mro,ns,a3,a4,a5,a6,a7,a8,a9⟩=>foL foV mro fun mro=>foN ns fun ns=>k (.cls ⟨a1,a2,mro,ns,a3,a4,a5,a6,a7,a8,a9⟩)
 | .func ⟨n1,n2,n3,n4,n5,n6,n7,n8,n9,n10,n11,n12,n13,n14,n15⟩=>foN n6 fun n6=>foV n8 fun n8=>foV n9 fun n9=>foV n13 fun n13=>foN n15 fun n15=>k (.func ⟨n1,n2,n3,n4,n5,n6,n7,n8,n9,n10,n11,n12,n13,n14,n15⟩)
 | .plain=>k .plain
 | .prim v=>k (.prim v)
 | .set a b c=>k (.set a b c)
 | .bytearray a b=>k (.bytearray a b)
 | .cell v=>k (.cell v)
 | .fields ⟨es⟩=>foL foV es fun es=>k (.fields ⟨es⟩)
 | .freed=>k .freed
def foO {α:Type} (o:Obj) (k:Obj→α):α:=match o with
 | ⟨c,d,dt,sl⟩=>foV c fun c=>foD dt fun dt=>k ⟨c,d,dt,sl⟩
def codeS (x:Str):Nat:=x.cps.toList.foldl (fun n c=>Nat.add (Nat.mul 256 n) c) 1
abbrev Tab:Type:=List (Addr × Option (List (Nat × DictEntry)))
def a3e (e:DictEntry):Nat:=match e.key with
 | .str x _=>codeS x
 | _=>0
def foC {α:Type} (es:List DictEntry):(List (Nat × DictEntry)→α)→α :=
 List.rec (motive:=fun _=>(List (Nat × DictEntry)→α)→α) (fun k=>k []) (fun e _ ih k=>foN (a3e e) fun n=>ih fun r=>k ((n,e) :: r)) es
def foP {α:Type} (o:Obj) (k:Option (List (Nat × DictEntry))→α):α:=match o with
 | ⟨_,_,.dict ⟨es⟩ _,_⟩=>foC es fun l=>k (some l)
 | _=>k none
def foT {α:Type} (K:Frag):(Tab→α)→α :=
 List.rec (motive:=fun _=>(Tab→α)→α) (fun k=>k []) (fun p _ ih k=>match p with
  | (a,o)=>foP o fun t=>ih fun T=>k ((a,t) :: T)) K
def a1b {β:Type} (l:List (Nat × β)) (a:Nat):Option β :=
 List.rec none (fun p _ ih=>match p with
  | (b,v)=>match Nat.beq a b with
   | true=>some v
   | false=>ih) l
def a8v (c:Nat) (x:Str) (l:List (Nat × DictEntry)):Option DictEntry :=
 List.rec none (fun p _ ih=>match p with
  | (n,e)=>match Nat.beq n c with
   | true=>(match e.key.isStr x with
    | true=>some e
    | false=>ih)
   | false=>ih) l
section
variable {α:Type} (g:Addr→Option Obj)
def b1g (l:List Addr):Nat→List Addr→(Nat→List Addr→α)→α :=
 List.rec (motive:=fun _=>Nat→List Addr→(Nat→List Addr→α)→α) (fun m f k=>k m f) (fun a _ ih m f k=>match Nat.beq (Nat.land (Nat.shiftRight m a) 1) 0 with
  | true=>foN a fun a=>foN (Nat.lor m (Nat.shiftLeft 1 a)) fun m=>ih m (a :: f) k
  | false=>ih m f k) l
end
section
variable {α:Type} (g:Addr→Option Obj)
def a3a (l:List Addr):Nat→List Addr→Frag→(Nat→List Addr→Frag→α)→α :=
 List.rec (motive:=fun _=>Nat→List Addr→Frag→(Nat→List Addr→Frag→α)→α) (fun m f K k=>k m f K) (fun a _ ih m f K k=>match g a with
  | none=>ih m f K k
  | some o=>foO o fun o=>b1g (He.refsD o) m f fun m f=>ih m f ((a,o) :: K) k) l
end
section
variable {α:Type} (g:Addr→Option Obj)
def b0G:Nat→List Addr→Nat→Frag→(Frag→α)→α
 | 0,l,m,K,k=>a3a g l m [] K fun _ _ K=>k K
 | n + 1,l,m,K,k=>a3a g l m [] K fun m f K=>b0G n f m K k
end
section
variable {α:Type} (g:Addr→Option Obj)
def b2k (n:Nat) (k:Frag→α):α:=b0G g n [mainGlobals,cStatics] (Nat.lor (Nat.shiftLeft 1 mainGlobals) (Nat.shiftLeft 1 cStatics)) [] fun K=>k K.reverse
end
inductive Cw where
 | str (z:Str) | tup (zs:List Str)
abbrev TbW:Type:=Str × List (Str × Cw)
def b0W:List Value→List Str→Bool
 | [],[]=>true
 | .str x _ :: vs,z :: zs=>decide (x=z) && b0W vs zs
 | _,_=>false
def cwB (K:Frag) (v:Cw) (u:Value):Bool:=match v with
 | .str z=>(match u with
  | .str x _=>decide (x=z)
  | _=>false)
 | .tup zs=>(match u with
  | .ref a=>(match K.lookup a with
   | some ⟨.type c,_,.seq its _,_⟩=>decide (c = "tuple") && (decide (its.size≤1000) && b0W its.toList zs)
   | _=>false)
  | _=>false)
def c68 (K:Frag) (t:TbW):Bool:=t.2.all fun q=>match nsIn K (He.ga K t.1) q.1 with
 | some (some u)=>cwB K q.2 u
 | _=>false
def a1K (ts:List TbW) (K:Frag):Bool × List (Option (List (Option (Str × Int)))):=(ts.all (c68 K),ts.map fun t=>He.dicW K (He.ga K t.1))
def a1f (ts:List TbW) (w:World):Bool × List (Option (List (Option (Str × Int)))):=(true,ts.map fun t=>some (He.keysIn w.params (t.2.map (·.1))))
abbrev AlT:Type:=AlX × (Bool × List (Option (List (Option (Str × Int)))))
section
open HandSHeadRun
abbrev ROW:String := "special-get-raises"
end
section
variable (L:Addr→Option Obj) (K:Frag) (N:Addr→Str→Option (Option Value))
def gaM (x:Str):Addr:=match N mainGlobals x with
 | some (some (.ref a))=>a
 | _=>0
end
section
variable (L:Addr→Option Obj) (K:Frag) (N:Addr→Str→Option (Option Value))
def c4k (name:Str):Value→Option (Option Value)
 | .type n=>some (fastBuiltinOwn n name)
 | .ref a=>(match L a with
   | some ⟨_,_,.cls cd,_⟩=>N cd.ns name
   | _=>none)
 | _=>some none
end
section
variable (L:Addr→Option Obj) (K:Frag) (N:Addr→Str→Option (Option Value))
def a7u (name:Str):List Value→Option (Option Value)
 | []=>some none
 | c :: r=>match c4k L N name c with
  | some (some v)=>some (some v)
  | some none=>a7u name r
  | none=>none
end
section
variable (L:Addr→Option Obj) (K:Frag) (N:Addr→Str→Option (Option Value))
def a6T (t:Value) (name:Str):Option (Option Value):=match t with
 | .type n=>fastLookup n name
 | .ref a=>(match L a with
   | some ⟨_,_,.cls cd,_⟩=>a7u L N name cd.mro
   | _=>none)
 | _=>none
end
section
variable (L:Addr→Option Obj) (K:Frag) (N:Addr→Str→Option (Option Value))
def maM (C:Addr) (m:Str):Addr:=match a6T L N (.ref C) m with
 | some (some (.ref a))=>a
 | _=>0
end
section
variable (L:Addr→Option Obj) (K:Frag) (N:Addr→Str→Option (Option Value))
def b9d (p:Str × Option Str):Addr:=match p.2 with
 | none=>gaM N p.1
 | some m=>maM L N (gaM N p.1) m
end
section
variable (L:Addr→Option Obj) (K:Frag) (N:Addr→Str→Option (Option Value))
def keepM (a:Addr):Bool:=match L a with
 | some ⟨_,_,.func _,_⟩=>true
 | some ⟨_,_,.cls _,_⟩=>specialIn K (.ref a) "__call__" == some (some (.builtin "type.__call__"))
 | _=>false
end
section
variable (L:Addr→Option Obj) (K:Frag) (N:Addr→Str→Option (Option Value))
def c0V (cd:Value) (q:Str):Bool:=match cd with
 | .ref c=>(match L c with
   | some ⟨_,_,.fields vs,_⟩=>(match vs.toList with | _ :: .str n _ :: _=>n == q | _=>false)
   | _=>false)
 | _=>false
end
section
variable (L:Addr→Option Obj) (K:Frag) (N:Addr→Str→Option (Option Value))
def c1A (a:Addr):Bool:=(L a).map (·.cls) == some (.type "function")
end
section
variable (L:Addr→Option Obj) (K:Frag) (N:Addr→Str→Option (Option Value))
def faM:He.Fa→Bool
 | .glo x=>He.eqO (N mainGlobals x) (some (some (.ref (gaM N x))))
 | .free x=>He.eqO (N mainGlobals x) (some none)
 | .int x i=>(match N mainGlobals x with
  | some (some (.int j _))=>decide (j=i)
  | _=>false)
 | .str x z=>(match N mainGlobals x with
  | some (some (.str y _))=>decide (y=z)
  | _=>false)
 | .cls x=>plainGet K (gaM N x) Str.empty && (hasDictIn K (gaM N x) && (plainOver K (gaM N x) && He.eqO (findIn K (.ref (gaM N x)) "__setattr__") (some (some (.builtin "object.__setattr__")))))
 | .noat x f=>He.eqO (a6T L N (.ref (gaM N x)) f) (some none)
 | .meth x m=>He.eqO (a6T L N (.ref (gaM N x)) m) (some (some (.ref (maM L N (gaM N x) m)))) && (c1A L (maM L N (gaM N x) m) && keepM L K (maM L N (gaM N x) m))
 | f=>f.ok K
end
section
variable (L:Addr→Option Obj) (K:Frag) (N:Addr→Str→Option (Option Value))
def okM (d:He.DefD) (a:Addr):Bool:=keepM L K a && (match L a with
 | some ⟨_,_,.func fd,_⟩=>c0V L fd.code d.qual && (He.dflB K fd.defaults (d.dvs K) && He.kwdB K fd.kwdefaults (d.kws K))
 | _=>false)
end
section
variable (L:Addr→Option Obj) (K:Frag) (N:Addr→Str→Option (Option Value))
def fnM (a:Addr):He.FnW:=match L a with
 | some ⟨_,_,.func fd,_⟩=>some (fd.name,fd.qualname,fd.params,fd.body,fd.scope,fd.globals,fd.closure,fd.builtins)
 | _=>none
end
section
variable (L:Addr→Option Obj) (K:Frag) (N:Addr→Str→Option (Option Value))
def fxM:Fx→Bool
 | .oex x=>b9i K (gaM N x)
 | .ini x=>He.eqO (a6T L N (.ref (gaM N x)) "__init__") (some (some (.ref (maM L N (gaM N x) "__init__")))) && decide (typeIn K (.ref (maM L N (gaM N x) "__init__"))=some (.type "function"))
 | .nov x f=>He.eqO (a6T L N (.ref (gaM N x)) f) (some none)
 | .kit x y b=>decide (kitOne K (.ref (gaM N x)) (.ref (gaM N y))=some b)
 | .kitT x n b=>decide (kitOne K (.ref (gaM N x)) (.type n)=some b)
 | .sib xs=>xs.all fun x=>xs.all fun y=>decide (kitOne K (.ref (gaM N x)) (.ref (gaM N y))=some (decide (x=y)))
 | .veT xs n=>xs.all fun x=>decide (kitOne K (.ref (gaM N x)) (.type n)=some true)
 | .exA xs y=>xs.all fun x=>decide (exmOne K (.ref (gaM N x)) (.ref (gaM N y))=some true)
 | f=>f.ok K
end
section
variable (L:Addr→Option Obj) (K:Frag) (N:Addr→Str→Option (Option Value))
def c1O (fa:List He.Fa) (fn:List He.DefD) (fx:List Fx):AlX:=(((fa.all fun f=>faM L K N f) && fn.all fun d=>okM L K d (b9d L N d.at_),fn.map fun d=>fnM L (b9d L N d.at_)),fx.all fun f=>fxM L K N f)
end
def a6U (g:Addr→Option Obj) (n:Nat):Frag:=(List.range n).filterMap fun a=>(g a).map fun o=>(a,o)
def nsU (T:Tab) (K:Frag) (ns:Addr) (x:Str):Option (Option Value):=match a1b T ns with
 | some (some l)=>foN (codeS x) fun c=>(match a8v c x l with
  | some e=>some (some e.val)
  | none=>if l.any (fun p=>p.2.refKey) then none else some none)
 | _=>nsIn K ns x
def a69 (n N:Nat) (fa:List He.Fa) (fn:List He.DefD) (fx:List Fx) (ts:List TbW) (g:Addr→Option Obj):AlT :=
 b2k g n fun K=>foT K fun T=>(c1O g (K ++ a6U g N) (nsU T (K ++ a6U g N)) fa fn fx,a1K ts (K ++ a6U g N))
section
open HandSHeadRun
def a83 (r:OpenRow) (M:Nat) (b:Bool) (w:World):Prop :=
 ∀ os:OsState,(endF (stepQ (denQ tabQ) r.prog (w.withFollow ROW b)) M r.prog w os).map (fun s=>looksF r.prog (boot_heap w.params) s.abs)=some true
end
section
open HandSHeadRun
def a84 (r:OpenRow) (q:Program) (M:Nat) (loose:List Str) (b:Bool) (w:World):Prop :=
 ∀ os:OsState,(endF (stepQ (denQ tabQ) r.prog (w.withFollow ROW b)) M r.prog w os).map (fun s=>seenQ q loose (importedModules r.prog.main.body) (fun s=>xlAt q [] s && recOk r.toRowW.records s) s.abs)=some (openGood q loose)
end
section
open HandSHeadRun
def a3u (r:OpenRow) (M n:Nat) (fa:List He.Fa) (fn:List He.DefD) (fx:List Fx) (ts:List TbW) (b:Bool) (w:World):Prop :=
 ∀ os:OsState,(endF (stepQ (denQ tabQ) r.prog (w.withFollow ROW b)) M r.prog w os).map (fun s=>a69 n s.n fa fn fx ts (getT s))=some ((He.valD fn,true),a1f ts w)
end
end Sv
end
namespace Cl
open PySem PySem.Spec PyProof.Rows L2 Sv
def top (i:Nat):Stmt:=PySem.Challenge.pw_stillmain_k82_texts_refused.main.body.getD i (.Pass ⟨0,0,0,0⟩)
def fd (a:Str × Option Str) (n u:Str) (s:Stmt):He.DefD:=⟨a,n,u,defArgs s,defBody s,defScope s,[],[]⟩
def fn:List He.DefD:=[
 fd ("_law_bag",none) "_law_bag" "_law_bag" (top 26),
 fd ("_law_take",none) "_law_take" "_law_take" (top 27),
 fd ("_law_words",none) "_law_words" "_law_words" (top 34),
 fd ("_law_shown",none) "_law_shown" "_law_shown" (top 36),
 fd ("_law_form",none) "_law_form" "_law_form" (top 38),
 fd ("_law_is_name",none) "_law_is_name" "_law_is_name" (top 37),
 fd ("part_read",none) "part_read" "part_read" (top 23),
 fd ("is_name",none) "is_name" "is_name" (top 13),
 fd ("is_whole",none) "is_whole" "is_whole" (top 12),
 fd ("is_position",none) "is_position" "is_position" (top 15),
 fd ("_law_alike",none) "_law_alike" "_law_alike" (top 28),
 fd ("_law_name",none) "_law_name" "_law_name" (top 30),
 fd ("_law_one",none) "_law_one" "_law_one" (top 32),
 fd ("_law_fits",none) "_law_fits" "_law_fits" (top 39),
 fd ("is_cost",none) "is_cost" "is_cost" (top 14),
 fd ("are_names",none) "are_names" "are_names" (top 16),
 fd ("_law_sign",none) "_law_sign" "_law_sign" (top 29),
 fd ("_law_names",none) "_law_names" "_law_names" (top 31),
 fd ("_law_any",none) "_law_any" "_law_any" (top 33),
 fd ("_law_is_deed",none) "_law_is_deed" "_law_is_deed" (top 40),
 fd ("is_stretch",none) "is_stretch" "is_stretch" (top 17),
 fd ("_law_word_spoilt",none) "_law_word_spoilt" "_law_word_spoilt" (top 41),
 fd ("_law_stock",none) "_law_stock" "_law_stock" (top 35),
 fd ("_law_read",none) "_law_read" "_law_read" (top 43),
 fd ("part_fits",none) "part_fits" "part_fits" (top 21),
 fd ("_law_spoilt",none) "_law_spoilt" "_law_spoilt" (top 42),
 fd ("is_deed",none) "is_deed" "is_deed" (top 22),
 fd ("read_deed",none) "read_deed" "read_deed" (top 24),
 fd ("_law_told",none) "_law_told" "_law_told" (top 44),
 fd ("_law_right",none) "_law_right" "_law_right" (top 45),
 fd ("law",none) "law" "law" (top 46),
 fd ("Wrong",some "__init__") "__init__" "Wrong.__init__" (inClass (top 2) 0),
 fd ("Lacks",some "__init__") "__init__" "Lacks.__init__" (inClass (top 3) 0)]
def fa:List He.Fa:=[
 .glo "_law_bag",
 .glo "_law_take",
 .glo "_law_words",
 .glo "_law_shown",
 .glo "_law_form",
 .glo "_law_is_name",
 .glo "part_read",
 .glo "is_name",
 .glo "is_whole",
 .glo "is_position",
 .glo "_law_alike",
 .glo "_law_name",
 .glo "_law_one",
 .glo "_law_fits",
 .glo "is_cost",
 .glo "are_names",
 .glo "_law_sign",
 .glo "_law_names",
 .glo "_law_any",
 .glo "_law_is_deed",
 .glo "is_stretch",
 .glo "_law_word_spoilt",
 .glo "_law_stock",
 .glo "_law_read",
 .glo "part_fits",
 .glo "_law_spoilt",
 .glo "is_deed",
 .glo "read_deed",
 .glo "_law_told",
 .glo "_law_right",
 .glo "law",
 .glo "MainsError",
 .glo "Wrong",
 .glo "Lacks",
 .glo "NoText",
 .glo "NoRow",
 .free "len",
 .free "abs",
 .free "max",
 .free "min",
 .free "range",
 .free "isinstance",
 .free "repr",
 .free "list",
 .free "tuple",
 .free "dict",
 .free "sorted",
 .free "sum",
 .free "enumerate",
 .free "zip",
 .free "reversed",
 .free "str",
 .free "int",
 .free "bool",
 .free "set",
 .free "ValueError",
 .free "any",
 .free "all",
 .str "LETTERS" "abcdefghijklmnopqrstuvwxyz",
 .int "LONGEST" 8,
 .int "MOST_COST" 99,
 .int "MOST_NAMES" 60,
 .int "MOST_STRETCH" 24,
 .glo "FORMS",
 .int "MOST_FIGURES" 100,
 .exc "NoText",
 .exc "NoRow"]
def fx:List Fx:=[
 .oex "Wrong",
 .ini "Wrong",
 .nov "Wrong" "at",
 .oex "Lacks",
 .ini "Lacks",
 .nov "Lacks" "name",
 .bas "MainsError",
 .sib ["Wrong", "Lacks", "NoText", "NoRow"],
 .veT ["Wrong", "Lacks", "NoText", "NoRow"] "ValueError",
 .exA ["Wrong", "Lacks", "NoText", "NoRow"] "MainsError",
 .exfs ["Wrong", "Lacks", "NoText", "NoRow"]]
def a0P:TbW:=("FORMS",[("add_room",.tup ["name"]),("take_room",.tup ["name"]),("add_line",.tup ["name", "name", "name", "cost"]),("take_line",.tup ["name"]),("add_drain",.tup ["name", "name"]),("take_drain",.tup ["name"]),("add_source",.tup ["name"]),("take_source",.tup ["name"]),("turn",.tup ["name", "position"]),("stick",.tup ["name"]),("mend",.tup ["name"]),("ask",.tup ["name", "name", "rooms"]),("begin",.tup ["name"]),("step",.tup ["name"]),("give",.tup ["name"]),("end",.tup ["name"]),("put_by",.tup ["name"]),("try_out",.tup ["name"]),("go_on",.tup ["name"]),("sign_on",.tup ["name", "name"]),("sign_off",.tup ["name", "name"]),("hand_over",.tup ["name", "name", "name"]),("relieve",.tup ["name", "name"])])
def tbs:List TbW:=[a0P]
def nm0:List Str:=["__name__", "MainsError", "Wrong", "Lacks", "NoText", "NoRow", "LETTERS", "LONGEST", "MOST_COST", "MOST_NAMES", "MOST_STRETCH", "is_whole", "is_name", "is_cost", "is_position", "are_names", "is_stretch", "FORMS", "MOST_FIGURES", "part_fits", "is_deed", "part_read", "read_deed", "_law_bag", "_law_take", "_law_alike", "_law_sign", "_law_name", "_law_names", "_law_one"]
def nm1:List Str:=["_law_any", "_law_words", "_law_stock", "_law_shown", "_law_is_name", "_law_form", "_law_fits", "_law_is_deed", "_law_word_spoilt", "_law_spoilt", "_law_read", "_law_told", "_law_right"]
def names:List Str:=nm0 ++ nm1
abbrev R:PySem.W.OpenRow:=PySem.W.OpenLaw.row PySem.Challenge.rw_stillmain_k82_texts_refused
theorem c11 (w:World):a83 R 20000 false w:=by
 intro os
 kernel_rfl
theorem c13 (w:World):a83 R 20000 true w:=by
 intro os
 kernel_rfl
theorem c14 (w:World):a84 R (PySem.W.view R.prog [46]) 20000 names false w:=by
 intro os
 kernel_rfl
theorem c15 (w:World):a84 R (PySem.W.view R.prog [46]) 20000 names true w:=by
 intro os
 kernel_rfl
theorem b76 (w:World):a3u R 20000 2 (fa.take 53) (fn.take 0) (fx.take 0) (tbs.take 0) false w:=by
 intro os
 kernel_rfl
theorem b77 (w:World):a3u R 20000 2 (fa.take 53) (fn.take 0) (fx.take 0) (tbs.take 0) true w:=by
 intro os
 kernel_rfl
theorem b78 (w:World):a3u R 20000 2 ((fa.drop 53).take 14) ((fn.drop 0).take 12) ((fx.drop 0).take 0) ((tbs.drop 0).take 0) false w:=by
 intro os
 kernel_rfl
theorem b79 (w:World):a3u R 20000 2 ((fa.drop 53).take 14) ((fn.drop 0).take 12) ((fx.drop 0).take 0) ((tbs.drop 0).take 0) true w:=by
 intro os
 kernel_rfl
theorem b8a (w:World):a3u R 20000 2 (((fa.drop 53).drop 14).take 0) (((fn.drop 0).drop 12).take 19) (((fx.drop 0).drop 0).take 0) (((tbs.drop 0).drop 0).take 0) false w:=by
 intro os
 kernel_rfl
theorem b8b (w:World):a3u R 20000 2 (((fa.drop 53).drop 14).take 0) (((fn.drop 0).drop 12).take 19) (((fx.drop 0).drop 0).take 0) (((tbs.drop 0).drop 0).take 0) true w:=by
 intro os
 kernel_rfl
theorem b8c (w:World):a3u R 20000 2 (((fa.drop 53).drop 14).drop 0) (((fn.drop 0).drop 12).drop 19) (((fx.drop 0).drop 0).drop 0) (((tbs.drop 0).drop 0).drop 0) false w:=by
 intro os
 kernel_rfl
theorem b8d (w:World):a3u R 20000 2 (((fa.drop 53).drop 14).drop 0) (((fn.drop 0).drop 12).drop 19) (((fx.drop 0).drop 0).drop 0) (((tbs.drop 0).drop 0).drop 0) true w:=by
 intro os
 kernel_rfl
theorem hd1:PySem.W.opening R.prog=PySem.W.plainProg R.prog.main.scope.names:=by kernel_rfl
theorem hd2:∀ s,PySem.fenceModules? R.prog s=some s:=fun s=>by kernel_rfl
theorem hd3:PySem.W.defOf (PySem.W.view R.prog [46]) R.name=some ((HandSHeadRun.topDef R.prog 46),[]):=by kernel_rfl
theorem hd4:R.prog.theDef R.name=some ((HandSHeadRun.topDef R.prog 46).params,(HandSHeadRun.topDef R.prog 46).body,(HandSHeadRun.topDef R.prog 46).scope):=by kernel_rfl
theorem hd5:PySem.W.kwWritten? (HandSHeadRun.topDef R.prog 46).params.kwonlyargs (HandSHeadRun.topDef R.prog 46).params.kw_defaults=some []:=by kernel_rfl
theorem hd6:(!R.writes || R.records.isEmpty)=true:=by rfl
theorem hd7:(PySem.W.chainsOk (PySem.W.view R.prog [46]) && PySem.W.opensWell R.prog && (PySem.W.frees R.toRowW && R.within.isEmpty))=true:=by decide +kernel
theorem hd8:R.prog.bare:=⟨rfl,rfl,rfl,rfl,rfl,by decide +kernel⟩
theorem hd0 (h : R.wellSaid = true → R.Holds) : PySem.Challenge.rw_stillmain_k82_texts_refused.Holds := by
  open PySem.W PySem.Calls in
  (w_on; o_law
   exact h (by assumption))
end Cl
namespace Sv
open PySem PySem.Spec PyProof.Rows L2
inductive D where
 | non | bl (b:Bool) | int (i:Int) | str (x:Str)
 | lst (xs:List D) | tup (xs:List D) | dic (kvs:List (Key × D))
 | obj (a:Addr) | exc (a:Addr) (oe:Obj) (C:Addr) (fs:List (Str × D))
 | err (a C:Addr) (fs:List (Str × D)) (bare:Bool)
inductive Cell where
 | lst (xs:List D) | dic (kvs:List (Key × D)) | loc (kvs:List (Key × D)) | ins (C:Addr) (fs:List (Str × D))
abbrev SS:=Addr→Option Cell
def SS.set (S:SS) (a:Addr) (c:Cell):SS:=fun b=>if b=a then some c else S b
def SS.del (S:SS) (a:Addr):SS:=fun b=>if b=a then none else S b
theorem zab {S:SS} {a:Addr} {c:Cell}:S.set a c a=some c:=if_pos rfl
theorem zaa {S:SS} {a b:Addr} {c:Cell} (h:b≠a):S.set a c b=S b:=if_neg h
theorem SS.del_same {S:SS} {a:Addr}:S.del a a=none:=if_pos rfl
theorem SS.del_ne {S:SS} {a b:Addr} (h:b≠a):S.del a b=S b:=if_neg h
theorem zac {S:SS} {p:Addr} {x y:Cell}:(S.set p x).set p y=S.set p y:=by
 funext q
 unfold SS.set
 by_cases h:q=p
 ·rw [if_pos h,if_pos h]
 ·rw [if_neg h,if_neg h,if_neg h]
theorem SS.set_id {S:SS} {p:Addr} {x:Cell} (h:S p=some x):S.set p x=S:=by
 funext q
 unfold SS.set
 by_cases e:q=p
 ·rw [if_pos e,e,h]
 ·rw [if_neg e]
theorem zae {S:SS} {a b:Addr} {x y:Cell} (h:a≠b):(S.set a x).set b y=(S.set b y).set a x:=by
 funext q
 unfold SS.set
 by_cases h1:q=b
 ·have h2:q≠a:=fun e=>h (e.symm.trans h1)
  rw [if_pos h1,if_neg h2,if_pos h1]
 ·rw [if_neg h1]
  by_cases h2:q=a
  ·rw [if_pos h2,if_pos h2]
  ·rw [if_neg h2,if_neg h2,if_neg h1]
theorem zaf {S:SS} {p:Addr} {x:Cell} (h:S p=none):(S.set p x).del p=S:=by
 funext q
 unfold SS.set SS.del
 by_cases e:q=p
 ·simp [e,h]
 ·simp [e]
theorem SS.set_del {S:SS} {p:Addr} {x:Cell}:(S.set p x).del p=S.del p:=by
 funext q
 unfold SS.set SS.del
 by_cases e:q=p
 ·simp [e]
 ·simp [e]
theorem zad {S:SS} {a b:Addr} {c:Cell} (h:S a=some c) (h2:S b=none):a≠b:=fun e=>by rw [e,h2] at h;cases h
structure Gd where
 K:zbj
abbrev noH:Hp:=fun _=>none
def LstAt (g:Gd) (S:SS) (H:Hp) (p:Addr) (vs:List V):Prop:=(S p=none∧Rd H p (.lst vs))∨SqL g.K noH p vs
def TupAt (g:Gd) (S:SS) (H:Hp) (p:Addr) (vs:List V):Prop:=(S p=none∧H p=some (.tup vs))∨SqT g.K noH p vs
def b3H (H:Hp) (a C:Addr) (d:Option Addr) (bare:Bool):Prop:=∃ φ:Heap→Prop,H a=some (.ext φ)∧∀ h,φ h→∃ oe,h.get? a=some oe∧Zc (.ref C) d oe∧∃ vs,oe.data=.fields vs∧(bare=true→d=none∧∃ t0,vs[0]?=some (.ref t0)∧h.TupAt t0 [])
mutual
def Rep (g:Gd) (S:SS) (H:Hp):D→V→Prop
 | .non,v=>v=.non
 | .bl b,v=>v=.bl b
 | .int i,v=>v=.int i
 | .str x,v=>v=.str x
 | .lst ds,v=>∃ p vs,v=.ref p∧LstAt g S H p vs∧a0e g S H ds vs
 | .tup ds,v=>∃ p vs,v=.ref p∧TupAt g S H p vs∧a0e g S H ds vs
 | .dic kvs,v=>∃ p ws,v=.ref p∧S p=none∧H p=some (.dK ws)∧a0K g S H kvs ws
 | .obj a,v=>v=.ref a
 | .exc a oe C fs,v=>∃ d,v=.ref a∧(Zc (.ref C) d oe∧∃ vs,oe.data=.fields vs)∧((d=none∧fs=[])∨∃ dd ws,d=some dd∧S dd=none∧H dd=some (.xd ws)∧a1X g S H fs ws)
 | .err a C fs bare,v=>∃ d,v=.ref a∧S a=none∧b3H H a C d bare∧((d=none∧fs=[])∨∃ dd ws,d=some dd∧S dd=none∧H dd=some (.xd ws)∧a1X g S H fs ws)
def a0e (g:Gd) (S:SS) (H:Hp):List D→List V→Prop
 | [],vs=>vs=[]
 | d :: ds,vs=>∃ v r,vs=v :: r∧Rep g S H d v∧a0e g S H ds r
def a0K (g:Gd) (S:SS) (H:Hp):List (Key × D)→List (Key × V)→Prop
 | [],ws=>ws=[]
 | (k,d) :: r,ws=>∃ v q,ws=(k,v) :: q∧Rep g S H d v∧a0K g S H r q
def a1X (g:Gd) (S:SS) (H:Hp):List (Str × D)→List (Str × V)→Prop
 | [],ws=>ws=[]
 | (k,d) :: r,ws=>∃ v q,ws=(k,v) :: q∧Rep g S H d v∧a1X g S H r q
end
structure PostW (S:SS) (H:Hp) (S':SS) (H':Hp):Prop where
 kp:∀ p o,S p=none→H p=some o→H' p=some o
 fr:∀ a,S' a≠none→S a≠none∨H a=none
structure a0d (S:SS) (H:Hp) (S':SS) (H':Hp):Prop extends PostW S H S' H' where
 lk:∀ p k o,S p=some (.loc k)→H p=some o→S' p=some (.loc k)∧H' p=some o
def Cell.free:Cell→Bool
 | .loc _=>false | _=>true
theorem a0d.refl (S:SS) (H:Hp):a0d S H S H:=⟨⟨fun _ _ _ h=>h,fun _ h=>.inl h⟩,fun _ _ _ h q=>⟨h,q⟩⟩
theorem PostW.none_of {S:SS} {H:Hp} {S':SS} {H':Hp} (P:PostW S H S' H') {p:Addr} {o:HO} (h:S p=none) (e:H p=some o):S' p=none:=by
 cases q:S' p with
 | none=>rfl
 | some c =>
  rcases P.fr p (by rw [q];exact fun z=>nomatch z) with z | z
  ·exact absurd h z
  ·rw [e] at z;cases z
theorem PostW.trans {S:SS} {H:Hp} {S1:SS} {H1:Hp} {S2:SS} {H2:Hp} (a:PostW S H S1 H1) (b:PostW S1 H1 S2 H2):PostW S H S2 H2:=by
 refine ⟨fun p o h e=>b.kp p o (a.none_of h e) (a.kp p o h e),fun x h=>?_⟩
 rcases b.fr x h with z | z
 ·exact a.fr x z
 ·cases q:S x with
  | some c=>exact .inl (fun z=>nomatch z)
  | none =>
   cases r:H x with
   | none=>exact .inr rfl
   | some o =>
    rw [a.kp x o q r] at z
    cases z
theorem a0d.trans {S:SS} {H:Hp} {S1:SS} {H1:Hp} {S2:SS} {H2:Hp} (a:a0d S H S1 H1) (b:a0d S1 H1 S2 H2):a0d S H S2 H2 :=
 ⟨a.toPostW.trans b.toPostW,fun p k o h e=>have ⟨h1,e1⟩:=a.lk p k o h e;b.lk p k o h1 e1⟩
section
variable {g:Gd} {S S':SS} {H H':Hp}
theorem Rd.kpW {p:Addr} {u:HO} (P:PostW S H S' H') (h:S p=none) (r:Rd H p u):Rd H' p u:=by
 rcases r with r | ⟨o,r⟩
 ·exact .inl (P.kp _ _ h r)
 ·exact .inr ⟨o,P.kp _ _ h r⟩
theorem Rd.none'W {p:Addr} {u:HO} (P:PostW S H S' H') (h:S p=none) (r:Rd H p u):S' p=none:=by
 rcases r with r | ⟨o,r⟩
 ·exact P.none_of h r
 ·exact P.none_of h r
theorem LstAt.monoW {p:Addr} {vs:List V} (P:PostW S H S' H') (h:LstAt g S H p vs):LstAt g S' H' p vs:=by
 rcases h with ⟨h,r⟩ | h
 ·exact .inl ⟨Rd.none'W P h r,Rd.kpW P h r⟩
 ·exact .inr h
theorem TupAt.monoW {p:Addr} {vs:List V} (P:PostW S H S' H') (h:TupAt g S H p vs):TupAt g S' H' p vs:=by
 rcases h with ⟨h,r⟩ | h
 ·exact .inl ⟨P.none_of h r,P.kp _ _ h r⟩
 ·exact .inr h
theorem b5l {p:Addr} {vs:List V} (h:SqL g.K noH p vs):SqL g.K H p vs:=by
 rcases h with h | h
 ·rcases h with h | ⟨o,h⟩ <;> cases h
 ·exact .inr h
theorem b5m {p:Addr} {vs:List V} (h:SqT g.K noH p vs):SqT g.K H p vs:=by
 rcases h with h | h
 ·rcases h with h | ⟨o,h⟩ <;> cases h
 ·exact .inr h
theorem LstAt.sq {p:Addr} {vs:List V} (h:LstAt g S H p vs):SqL g.K H p vs:=by
 rcases h with ⟨h,r⟩ | h
 ·exact .inl r
 ·exact b5l h
theorem TupAt.sq {p:Addr} {vs:List V} (h:TupAt g S H p vs):SqT g.K H p vs:=by
 rcases h with ⟨h,r⟩ | h
 ·exact .inl (.inl r)
 ·exact b5m h
mutual
theorem Rep.monoW (P:PostW S H S' H'):∀ {d:D} {v:V},Rep g S H d v→Rep g S' H' d v
 | .non,_,h=>by simp only [Rep] at h ⊢;exact h
 | .bl _,_,h=>by simp only [Rep] at h ⊢;exact h
 | .int _,_,h=>by simp only [Rep] at h ⊢;exact h
 | .str _,_,h=>by simp only [Rep] at h ⊢;exact h
 | .lst ds,_,h=>by
  simp only [Rep] at h ⊢
  obtain ⟨p,vs,e,a,r⟩:=h
  exact ⟨p,vs,e,a.monoW P,a0e.monoW P r⟩
 | .tup ds,_,h=>by
  simp only [Rep] at h ⊢
  obtain ⟨p,vs,e,a,r⟩:=h
  exact ⟨p,vs,e,a.monoW P,a0e.monoW P r⟩
 | .dic kvs,_,h=>by
  simp only [Rep] at h ⊢
  obtain ⟨p,ws,e,a,b,r⟩:=h
  exact ⟨p,ws,e,P.none_of a b,P.kp _ _ a b,a0K.monoW P r⟩
 | .obj _,_,h=>by simp only [Rep] at h ⊢;exact h
 | .exc a oe C fs,_,h=>by
  simp only [Rep] at h ⊢
  obtain ⟨d,e,x,r⟩:=h
  refine ⟨d,e,x,?_⟩
  rcases r with r | ⟨dd,ws,e1,n,q,r⟩
  ·exact .inl r
  ·exact .inr ⟨dd,ws,e1,P.none_of n q,P.kp _ _ n q,a1X.monoW P r⟩
 | .err a C fs bare,_,h=>by
  simp only [Rep] at h ⊢
  obtain ⟨d,e,n,⟨φ,here,says⟩,r⟩:=h
  refine ⟨d,e,P.none_of n here,⟨φ,P.kp _ _ n here,says⟩,?_⟩
  rcases r with r | ⟨dd,ws,e1,n,q,r⟩
  ·exact .inl r
  ·exact .inr ⟨dd,ws,e1,P.none_of n q,P.kp _ _ n q,a1X.monoW P r⟩
theorem a0e.monoW (P:PostW S H S' H'):∀ {ds:List D} {vs:List V},a0e g S H ds vs→a0e g S' H' ds vs
 | [],_,h=>by simp only [a0e] at h ⊢;exact h
 | d :: ds,_,h=>by
  simp only [a0e] at h ⊢
  obtain ⟨v,r,e,a,b⟩:=h
  exact ⟨v,r,e,Rep.monoW P a,a0e.monoW P b⟩
theorem a0K.monoW (P:PostW S H S' H'):∀ {ds:List (Key × D)} {vs:List (Key × V)},a0K g S H ds vs→a0K g S' H' ds vs
 | [],_,h=>by simp only [a0K] at h ⊢;exact h
 | (k,d) :: ds,_,h=>by
  simp only [a0K] at h ⊢
  obtain ⟨v,r,e,a,b⟩:=h
  exact ⟨v,r,e,Rep.monoW P a,a0K.monoW P b⟩
theorem a1X.monoW (P:PostW S H S' H'):∀ {ds:List (Str × D)} {vs:List (Str × V)},a1X g S H ds vs→a1X g S' H' ds vs
 | [],_,h=>by simp only [a1X] at h ⊢;exact h
 | (k,d) :: ds,_,h=>by
  simp only [a1X] at h ⊢
  obtain ⟨v,r,e,a,b⟩:=h
  exact ⟨v,r,e,Rep.monoW P a,a1X.monoW P b⟩
end
theorem LstAt.mono {p:Addr} {vs:List V} (P:a0d S H S' H') (h:LstAt g S H p vs):LstAt g S' H' p vs:=h.monoW P.toPostW
theorem Rep.mono (P:a0d S H S' H') {d:D} {v:V} (h:Rep g S H d v):Rep g S' H' d v:=h.monoW P.toPostW
theorem a0e.mono (P:a0d S H S' H') {ds:List D} {vs:List V} (h:a0e g S H ds vs):a0e g S' H' ds vs:=h.monoW P.toPostW
theorem a0K.mono (P:a0d S H S' H') {ds:List (Key × D)} {vs:List (Key × V)} (h:a0K g S H ds vs):a0K g S' H' ds vs:=h.monoW P.toPostW
theorem a1X.mono (P:a0d S H S' H') {ds:List (Str × D)} {vs:List (Str × V)} (h:a1X g S H ds vs):a1X g S' H' ds vs:=h.monoW P.toPostW
def a1A (g:Gd) (S:SS) (H:Hp) (a:Addr):Cell→Prop
 | .lst ds=>∃ vs,H a=some (.lst vs)∧a0e g S H ds vs
 | .dic kvs=>∃ ws,H a=some (.dK ws)∧a0K g S H kvs ws
 | .loc kvs=>∃ ws o,H a=some (.frz o (.dK ws))∧a0K g S H kvs ws
 | .ins C fs=>∃ dx ws,H a=some (.ins C dx ws)∧a1X g S H fs ws
def CellsOk (g:Gd) (S:SS) (H:Hp):Prop:=∀ a c,S a=some c→a1A g S H a c
theorem a1A.there {a:Addr} {c:Cell} (h:a1A g S H a c):∃ o,H a=some o:=by
 cases c with
 | lst _=>obtain ⟨_,e,_⟩:=h;exact ⟨_,e⟩
 | dic _=>obtain ⟨_,e,_⟩:=h;exact ⟨_,e⟩
 | loc _=>obtain ⟨_,_,e,_⟩:=h;exact ⟨_,e⟩
 | ins _ _=>obtain ⟨_,_,e,_⟩:=h;exact ⟨_,e⟩
theorem a1A.monoW {a:Addr} {c:Cell} (P:PostW S H S' H') (e:H' a=H a) (h:a1A g S H a c):a1A g S' H' a c:=by
 cases c with
 | lst _=>obtain ⟨x,q,r⟩:=h;exact ⟨x,by rw [e];exact q,r.monoW P⟩
 | dic _=>obtain ⟨x,q,r⟩:=h;exact ⟨x,by rw [e];exact q,r.monoW P⟩
 | loc _=>obtain ⟨x,y,q,r⟩:=h;exact ⟨x,y,by rw [e];exact q,r.monoW P⟩
 | ins _ _=>obtain ⟨x,y,q,r⟩:=h;exact ⟨x,y,by rw [e];exact q,r.monoW P⟩
theorem a1A.mono {a:Addr} {c:Cell} (P:a0d S H S' H') (e:H' a=H a) (h:a1A g S H a c):a1A g S' H' a c:=h.monoW P.toPostW e
theorem CellsOk.free (h:CellsOk g S H) {p:Addr} (e:H p=none):S p=none:=by
 cases q:S p with
 | none=>rfl
 | some c =>
  obtain ⟨o,z⟩:=(h p c q).there
  rw [e] at z;cases z
theorem a0d.new {p:Addr} {o:HO} (e:H p=none):a0d S H S (upd H p o) :=
 ⟨⟨fun q u _ z=>by rw [upd_ne (ne_of_none z e)];exact z,fun _ h=>.inl h⟩,fun q k u h z=>⟨h,by rw [upd_ne (ne_of_none z e)];exact z⟩⟩
theorem CellsOk.new {p:Addr} {o:HO} (h:CellsOk g S H) (e:H p=none):CellsOk g S (upd H p o):=fun a c q=>by
 obtain ⟨u,z⟩:=(h a c q).there
 exact (h a c q).mono (a0d.new e) (upd_ne (ne_of_none z e))
theorem a0d.newC {p:Addr} {o:HO} {c:Cell} (e:H p=none):a0d S H (S.set p c) (upd H p o) :=
 ⟨⟨fun q u _ z=>by rw [upd_ne (ne_of_none z e)];exact z,fun a h=>by
  by_cases q:a=p
  ·exact .inr (q ▸ e)
  ·rw [zaa q] at h;exact .inl h⟩,fun q k u h z=>⟨by rw [zaa (ne_of_none z e)];exact h,by rw [upd_ne (ne_of_none z e)];exact z⟩⟩
theorem CellsOk.newC {p:Addr} {o:HO} {c:Cell} (h:CellsOk g S H) (e:H p=none) (hc:a1A g (S.set p c) (upd H p o) p c):CellsOk g (S.set p c) (upd H p o):=fun a d q=>by
 by_cases z:a=p
 ·subst z;rw [zab] at q;cases q;exact hc
 ·rw [zaa z] at q
  exact (h a d q).mono (a0d.newC e) (upd_ne z)
theorem PostW.write {a:Addr} {o:HO} {c c0:Cell} (e:S a=some c0):PostW S H (S.set a c) (upd H a o) :=
 ⟨fun q u n z=>by rw [upd_ne (fun y=>by rw [y,e] at n;cases n)];exact z,fun b h=>by
  by_cases q:b=a
  ·exact .inl (by rw [q,e];exact fun z=>nomatch z)
  ·rw [zaa q] at h;exact .inl h⟩
theorem a0d.write {a:Addr} {o:HO} {c c0:Cell} (e:S a=some c0) (fr:c0.free=true:=by rfl):a0d S H (S.set a c) (upd H a o) :=
 ⟨.write e,fun q k u h z=>by
  have apart:q≠a:=fun y=>by rw [y,e] at h;cases h;cases fr
  exact ⟨by rw [zaa apart];exact h,by rw [upd_ne apart];exact z⟩⟩
theorem CellsOk.writeW {a:Addr} {o:HO} {c c0:Cell} (h:CellsOk g S H) (e:S a=some c0) (hc:a1A g (S.set a c) (upd H a o) a c):CellsOk g (S.set a c) (upd H a o):=fun b d q=>by
 by_cases z:b=a
 ·subst z;rw [zab] at q;cases q;exact hc
 ·rw [zaa z] at q
  exact (h b d q).monoW (.write e) (upd_ne z)
theorem CellsOk.write {a:Addr} {o:HO} {c c0:Cell} (h:CellsOk g S H) (e:S a=some c0) (hc:a1A g (S.set a c) (upd H a o) a c):CellsOk g (S.set a c) (upd H a o):=h.writeW e hc
theorem a0d.freeze {a:Addr} {c:Cell} (e:S a=some c) (fr:c.free=true:=by rfl):a0d S H (S.del a) H :=
 ⟨⟨fun _ _ _ z=>z,fun b h=>by
  by_cases q:b=a
  ·rw [q,SS.del_same] at h;exact absurd rfl h
  ·rw [SS.del_ne q] at h;exact .inl h⟩,fun q k u h z=>⟨by rw [SS.del_ne (fun y=>by rw [y,e] at h;cases h;cases fr)];exact h,z⟩⟩
theorem CellsOk.freeze {a:Addr} {c:Cell} (h:CellsOk g S H) (e:S a=some c) (fr:c.free=true:=by rfl):CellsOk g (S.del a) H:=fun b d q=>by
 by_cases z:b=a
 ·rw [z,SS.del_same] at q;cases q
 ·rw [SS.del_ne z] at q
  exact (h b d q).mono (a0d.freeze e fr) rfl
theorem Rep.freeze {a:Addr} {ds:List D} (h:CellsOk g S H) (e:S a=some (.lst ds)):Rep g (S.del a) H (.lst ds) (.ref a):=by
 obtain ⟨vs,q,r⟩:=h a _ e
 simp only [Rep]
 exact ⟨a,vs,rfl,.inl ⟨SS.del_same,.inl q⟩,r.mono (a0d.freeze e)⟩
theorem Rep.freezeK {a:Addr} {ds:List (Key × D)} (h:CellsOk g S H) (e:S a=some (.dic ds)):Rep g (S.del a) H (.dic ds) (.ref a):=by
 obtain ⟨vs,q,r⟩:=h a _ e
 simp only [Rep]
 exact ⟨a,vs,rfl,SS.del_same,q,r.mono (a0d.freeze e)⟩
theorem CellsOk.lock {a:Addr} {kvs:List (Key × D)} {ws:List (Key × V)} {o:Obj} (h:CellsOk g S H) (e:S a=some (.dic kvs)) (at_a:H a=some (.dK ws)) (r:a0K g S H kvs ws):CellsOk g (S.set a (.loc kvs)) (upd H a (.frz o (.dK ws))) :=
 h.writeW e ⟨ws,o,upd_same,r.mono (a0d.write e)⟩
theorem PostW.unlock {a:Addr} {kvs:List (Key × D)} {ws:List (Key × V)} {o:Obj} (e:S a=some (.dic kvs)) (P:a0d (S.set a (.loc kvs)) (upd H a (.frz o (.dK ws))) S' H'):S' a=some (.loc kvs)∧H' a=some (.frz o (.dK ws)) :=
 P.lk a kvs _ zab upd_same
theorem a0d.unlock {a:Addr} {kvs:List (Key × D)} {ws:List (Key × V)} {o:Obj} (e:S a=some (.dic kvs)) (P:a0d (S.set a (.loc kvs)) (upd H a (.frz o (.dK ws))) S' H'):a0d S H (S'.set a (.dic kvs)) (upd H' a (.dK ws)) :=
 ⟨(PostW.write e).trans (P.toPostW.trans (.write (PostW.unlock e P).1)),fun q k u h z=>by
  have apart:q≠a:=fun y=>by rw [y,e] at h;cases h
  have:=P.lk q k u (by rw [zaa apart];exact h) (by rw [upd_ne apart];exact z)
  exact ⟨by rw [zaa apart];exact this.1,by rw [upd_ne apart];exact this.2⟩⟩
theorem CellsOk.unlock {a:Addr} {kvs:List (Key × D)} {ws:List (Key × V)} {o:Obj} (e:S a=some (.dic kvs)) (r:a0K g S H kvs ws) (P:a0d (S.set a (.loc kvs)) (upd H a (.frz o (.dK ws))) S' H') (h:CellsOk g S' H'):CellsOk g (S'.set a (.dic kvs)) (upd H' a (.dK ws)) :=
 h.writeW (PostW.unlock e P).1 ⟨ws,upd_same,r.mono (a0d.unlock e P)⟩
abbrev DS:=List (Option D)
structure a6y (g:Gd) (S:SS) (H:Hp) (δ:DS) (σ:L2.St):Prop where
 len:δ.length=σ.length
 at_:∀ (i:Nat) d,δ[i]?=some (some d)→∃ v,σ[i]?=some (some v)∧Rep g S H d v
theorem a6y.mono {δ:DS} {σ:L2.St} (P:a0d S H S' H') (h:a6y g S H δ σ):a6y g S' H' δ σ:=⟨h.len,fun i d e =>
 let ⟨v,e1,r⟩:=h.at_ i d e
 ⟨v,e1,r.mono P⟩⟩
theorem a6y.set {δ:DS} {σ:L2.St} {i:Nat} {d:D} {v:V} (h:a6y g S H δ σ) (r:Rep g S H d v):a6y g S H (δ.set i (some d)) (σ.set i (some v)):=by
 refine ⟨by rw [List.length_set,List.length_set,h.len],fun j e q=>?_⟩
 by_cases hj:i=j
 ·subst hj
  by_cases hi:i < δ.length
  ·rw [List.getElem?_set_self hi] at q
   cases q
   exact ⟨v,List.getElem?_set_self (by rw [← h.len];exact hi),r⟩
  ·rw [List.getElem?_eq_none (by simpa using hi)] at q;cases q
 ·rw [List.getElem?_set_ne hj] at q
  obtain ⟨w,e1,r1⟩:=h.at_ j e q
  exact ⟨w,by rw [List.getElem?_set_ne hj];exact e1,r1⟩
theorem a6y.setN {δ:DS} {σ:L2.St} {i:Nat} {x:Option V} (h:a6y g S H δ σ):a6y g S H (δ.set i none) (σ.set i x):=by
 refine ⟨by rw [List.length_set,List.length_set,h.len],fun j e q=>?_⟩
 by_cases hj:i=j
 ·subst hj
  by_cases hi:i < δ.length
  ·rw [List.getElem?_set_self hi] at q;cases q
  ·rw [List.getElem?_eq_none (by simpa using hi)] at q;cases q
 ·rw [List.getElem?_set_ne hj] at q
  obtain ⟨w,e1,r1⟩:=h.at_ j e q
  exact ⟨w,by rw [List.getElem?_set_ne hj];exact e1,r1⟩
theorem a6y.start {N:List Str}:∀ {ds:List D} {vs:List V},a0e g S H ds vs→a6y g S H (ds.map some ++ List.replicate (N.length - ds.length) none) (L2.start N vs):=by
 have key:∀ (n:Nat) (ds:List D) (vs:List V),a0e g S H ds vs→a6y g S H (ds.map some ++ List.replicate n none) (vs.map some ++ List.replicate n none):=by
  intro n ds
  induction ds with
  | nil =>
   intro vs h
   simp only [a0e] at h
   subst h
   refine ⟨by simp,fun i d e=>?_⟩
   simp only [List.map_nil,List.nil_append,List.getElem?_replicate] at e
   split at e <;> cases e
  | cons d ds ih =>
   intro vs h
   simp only [a0e] at h
   obtain ⟨v,r,e,a,b⟩:=h
   subst e
   have q:=ih r b
   refine ⟨by simpa using q.len,fun i x e=>?_⟩
   cases i with
   | zero=>cases e;exact ⟨v,rfl,a⟩
   | succ i=>exact q.at_ i x e
 intro ds vs h
 have hl:ds.length=vs.length:=by
  induction ds generalizing vs with
  | nil=>simp only [a0e] at h;subst h;rfl
  | cons d ds ih =>
   simp only [a0e] at h
   obtain ⟨v,r,e,a,b⟩:=h
   subst e
   rw [zaz,zaz,ih b]
 unfold L2.start
 rw [← hl]
 exact key _ _ _ h
structure Rel (g:Gd) (S:SS) (H:Hp) (δ:DS) (σ:L2.St):Prop where
 sl:a6y g S H δ σ
 ce:CellsOk g S H
end
end Sv
namespace Sv
open PySem PySem.Spec PyProof.Rows L2
open L2H (RoomH Hot1 PinOk)
def c3X (A:Around) (outer:List Env) (H:Hp) (s:Shared):Option (Addr × Obj)→Prop
 | none=>A.handled=none
 | some p=>Hot1 A p∧PinOk outer H s p
def Mode (A:Around) (outer:List Env) (H:Hp) (s:Shared) (m:Option (Addr × Obj)):Prop:=A.guards=some []∧c3X A outer H s m
abbrev SpM:=Option (Addr × Obj)→Sp
structure FnG (P:Program) (w:World) (K:zbj) (mg:Str→Option Value) (base:Heap) (hot:Bool) (k:Nat) (f:Addr) (fd:FuncData) (ps:List Str) (sp:SpM):Prop where
 len:∀ m vs H Q E,m.isSome=hot→sp m vs H Q E→vs.length=ps.length
 run:∀ (A:Around) (outer:List Env) (s:Shared) (H:Hp) (args:Args) (us:List Value) (vs:List V) (Q:VK) (E:XK) (m:Option (Addr × Obj)),m.isSome=hot→RoomH k A→Mode A outer H s m→Env0 P w K mg base A outer s H →
  BindsTo s fd args (ps.zip us)→Vals vs us→sp m vs H Q E→codeAny (model P w) A (.call (.ref f) args) (CR (L2N.CX P w) outer P w H s Q E) s
theorem FnG.mono {P:Program} {w:World} {K:zbj} {mg:Str→Option Value} {base:Heap} {hot:Bool} {j k:Nat} {f:Addr} {fd:FuncData} {ps:List Str} {sp:SpM} (F:FnG P w K mg base hot j f fd ps sp) (h:j≤k) :
  FnG P w K mg base hot k f fd ps sp:=⟨F.len,fun A outer s H args us vs Q E m hm hr=>F.run A outer s H args us vs Q E m hm (hr.mono h)⟩
theorem FnG.imp {P:Program} {w:World} {K:zbj} {mg:Str→Option Value} {base:Heap} {hot:Bool} {k:Nat} {f:Addr} {fd:FuncData} {ps:List Str} {sp sp':SpM} (F:FnG P w K mg base hot k f fd ps sp)
  (h:∀ m vs H Q E,sp' m vs H Q E→sp m vs H Q E):FnG P w K mg base hot k f fd ps sp' :=
 ⟨fun m vs H Q E z q=>F.len m vs H Q E z (h _ _ _ _ _ q),fun A outer s H args us vs Q E m hm hr hM he hb hv hs=>F.run A outer s H args us vs Q E m hm hr hM he hb hv (h _ _ _ _ _ hs)⟩
def cxM (P:Program) (w:World) (K:zbj) (mg:Str→Option Value) (base:Heap) (N:List Str) (qual:Str) (scope:Scope) (f:Addr) (cd:Value) (A:Around) (outer:List Env) (s:Shared) (H:Hp) (E:XK) (m:Option (Addr × Obj)):Cx :=
 { cxOf (L2N.CX P w) P w K mg base N qual scope f cd A outer s H E with calm:=m.isNone,pn:=m.toList }
theorem a8y {P:Program} {w:World} {K:zbj} {mg:Str→Option Value} {base:Heap} {N ps:List Str} {qual:Str} {scope:Scope} {f:Addr} {cd:Value} {A:Around} {outer:List Env} {s s1:Shared} {H:Hp} {E:XK} {us:List Value} {vs:List V}
  (S:FnScope N ps scope) {m:Option (Addr × Obj)} (hM:Mode A outer H s m) (e0:Env0 P w K mg base A outer s H) (hl:vs.length=ps.length) (r:Vals vs us)
  (x:InCallC s s.heap.objs.size (bindL (envOfC qual scope s.heap.objs.size f cd).kindOf (ps.zip us) (fun _=>none)) (cellsFrom (s.heap.objs.size + 1) scope.names []) (bindC (envOfC qual scope s.heap.objs.size f cd).kindOf (ps.zip us) (fun _=>none)) s1) :
  Inv (cxM P w K mg base N qual scope f cd A outer s H E m) [] (L2.start N vs) H s1:=by
 cases m with
 | none=>exact L2.inv_start S hM.2 e0 hl r x
 | some p=>exact L2H.inv_startH S hM.2.2 e0 hl r x
theorem b0z {N ps:List Str} {scope:Scope} {us:List Value} {n:Nat} (S:FnScope N ps scope) (y:Str × Value) (hy:y∈ps.zip us) :
  scope.names.lookup y.1=some .local∨(scope.names.lookup y.1=some .cell∧((cellsFrom n scope.names []).lookup y.1).isSome=true) :=
 (S.par y.1 (List.of_mem_zip (show (y.1,y.2)∈ps.zip us from hy)).1).imp id fun c=>⟨c,PySem.W.cellsFrom_some _ _ _ (.inl c)⟩
theorem a8w {P:Program} {w:World} {K:zbj} {mg:Str→Option Value} {base:Heap} {N:List Str} {qual:Str} {scope:Scope} {f:Addr} {cd:Value} {A:Around} {outer:List Env} {s:Shared} {H:Hp} {Q:VK} {E:XK} {m:Option (Addr × Obj)} :
  ∀ (fl:Flow) (t:Shared),SP (cxM P w K mg base N qual scope f cd A outer s H E m) [] { nx:=fun _ H1=>Q .non H1,rt:=Q } fl t →
   match fl with
   | .ret u=>CE outer P w H s Q u t
   | .next=>CE outer P w H s Q .none t
   | _=>False
 | .ret _,_,⟨v,_,H1,I,rv,q⟩=>⟨v,H1,I.os,I.bare,I.base,I.hok,rv,q⟩
 | .next,_,⟨_,H1,I,q⟩=>⟨.non,H1,I.os,I.bare,I.base,I.hok,rfl,q⟩
 | .brk,_,⟨_,_,_,q⟩=>q
 | .cont,_,⟨_,_,_,q⟩=>q
theorem b3h {P:Program} {w:World} {K:zbj} {mg:Str→Option Value} {base:Heap} {hot:Bool} {k:Nat} {f:Addr} {name qual:Str} {params:Arguments} {body:List Stmt} {scope:Scope} {dV kV doc pm cdv ct oc:Value} {an od:Option Addr}
  {osl:Array (Option Value)} {N ps:List Str} {sp:SpM} (at_f:K.lookup f=some ⟨oc,od,.func (PySem.W.fnOf name qual params body scope dV kV doc pm an cdv ct),osl⟩) (at_cd:PySem.W.codeIn K cdv qual=true) (S:FnScope N ps scope)
  (len:∀ m vs H Q E,m.isSome=hot→sp m vs H Q E→vs.length=ps.length)
  (hbody:∀ (A:Around) (outer:List Env) (s:Shared) (H:Hp) (vs:List V) (Q:VK) (E:XK) (m:Option (Addr × Obj)),m.isSome=hot→Mode A outer H s m→RoomH k (A.deeper (envOfC qual scope s.heap.objs.size f cdv))→sp m vs H Q E →
   ∃ t,PSs (cxM P w K mg base N qual scope f cdv A outer s H E m) body t∧t { nx:=fun _ H'=>Q .non H',rt:=Q } (L2.start N vs) H) :
  FnG P w K mg base hot (k + 1) f (PySem.W.fnOf name qual params body scope dV kV doc pm an cdv ct) ps sp where
 len:=len
 run A outer s H args us vs Q E m hm hr hM e0 hb r hsp:=by
  have grown:∀ {b o},base.get? b=some o→s.heap.get? b=some o:=fun {b o} e=>(e0.bs b o e).1
  have inK:K.In s.heap:=e0.mod.kin.keeps fun _ _=>grown
  apply codeAny_call_function hr.depth (inK _ _ at_f) rfl S.co S.gen rfl (PySem.W.codeRec_of inK at_cd)
  apply hb
  apply wpAny_newFunctionEnv_cells S.kind (b0z S)
  rintro _ rfl s1 laid
  obtain ⟨t,walks,wants⟩:=hbody A outer s H vs Q E m hm hM (hr.deeper _) hsp
  have I0:=a8y (E:=E) S hM e0 (len _ _ _ _ _ hm hsp) r laid
  refine ⟨(e0.mod.nolimit.keeps fun _ _=>grown).keeps laid.toInCall.keep,codeAny_func (wpAny_mono (walks.run _ _ _ _ _ I0 wants) (fun fl t ended=>?_) fun _ _ x=>x)⟩
  have told:=a8w fl t ended
  cases fl <;> first | exact told | exact told.elim
def b3J (X:Cx):Option (Addr × Obj)→Prop
 | none=>X.calm=true
 | some p=>Hot1 X.A p∧p∈X.pn
def a1g (X:Cx) (m:Option (Addr × Obj)):Prop:=X.A.guards=some []∧b3J X m
theorem b3J.at {X:Cx} {m0:Option (Addr × Obj)} {pins:List (Addr × Obj)} {σ:L2.St} {H:Hp} {s:Shared} (c:b3J X m0) (I:Inv X pins σ H s):c3X X.A X.stack H s m0:=by
 match m0,c with
 | none,c=>exact I.ok.hd c
 | some p,⟨h,hp⟩ =>
  have ⟨get,free,noLoc,noFs,noCell⟩:=I.pin p (zar pins hp)
  refine ⟨h,get,free,fun z=>?_,noCell⟩
  rcases zau.mp (I.stkSub _ z) with z | z
  ·exact noLoc z
  ·exact noFs z
theorem a1g.at {X:Cx} {m0:Option (Addr × Obj)} {pins:List (Addr × Obj)} {σ:L2.St} {H:Hp} {s:Shared} (c:a1g X m0) (I:Inv X pins σ H s):Mode X.A X.stack H s m0:=⟨c.1,c.2.at I⟩
section
variable {X:Cx} {hot:Bool} {m0:Option (Addr × Obj)} {k:Nat} {f:Addr} {fd:FuncData} {ps:List Str} {sp:SpM} {dvs:List V} {ds:List Value} {E:L2.St→XK} {x:Str} {q pos:Pos} {e:Expr} {es:List Expr} {t:TA}
theorem a7e {pins:List (Addr × Obj)} {σ:L2.St} {H:Hp} {s:Shared} {Q:VK} {us:List Value} {vs:List V} (F:FnG X.prog X.w X.K X.mg X.base hot k f fd ps sp) (hh:m0.isSome=hot) (room:RoomH k X.A) (mode:a1g X m0) (binds:L2.Binds X.K fd ps ds) (hd:Vals dvs ds)
  (out:PassesAt (L2N.CX X.prog X.w) X σ (E σ)) (I:Inv X pins σ H s) (rv:Vals vs us) (want:sp m0 (vs ++ dvs) H Q (E σ)):wpAny (model X.prog X.w) X.A (call (.ref f) us) (EP X pins σ Q) X.xe s:=by
 have all:=rv.append hd
 have whole:=F.run X.A X.stack s H ⟨us,[]⟩ (us ++ ds) _ Q (E σ) m0 hh room (mode.at I) I.env0 (binds s us I.kIn (all.length ▸ F.len _ _ _ _ _ hh want)) all want
 apply wpAny_call
 refine codeAny_mono whole ?_
 rintro (err | (_ | u | _ | _)) s' told
 ·exact out _ _ _ _ _ I told
 all_goals first | exact I.after told | exact told.elim
def tCallG (m0:Option (Addr × Obj)) (sp:SpM) (dvs:List V) (E:L2.St→XK) (t:TA):TE:=fun σ H Q=>t σ H fun vs H1=>sp m0 (vs ++ dvs) H1 Q (E σ)
structure Named (X:Cx) (x:Str) (f:Addr):Prop where
 gl:Gl X x
 mg:X.mg x=some (.ref f)
 kp:PySem.W.keepIn X.K (.ref f)=true
 db:(x == ("__debug__" : Str))=false
theorem pe_callG (F:FnG X.prog X.w X.K X.mg X.base hot k f fd ps sp) (hh:m0.isSome=hot) (room:RoomH k X.A) (mode:a1g X m0) (nm:Named X x f) (binds:L2.Binds X.K fd ps ds) (hd:Vals dvs ds)
  (out:∀ σ,PassesAt (L2N.CX X.prog X.w) X σ (E σ)) (args:PA X (e :: es) t) (plain:starEach (e :: es) X.env=(false,eval e X.env) :: starEach es X.env) (rest:(backTo pos (starEach es X.env)).any (·.1)=false) :
  PE X (.Call (.Name x q) (e :: es) [] pos) (tCallG m0 sp dvs E t) where
 run pins s σ H Q I want:=wpAny_Call_Name_kw (ld_glob I nm.gl nm.mg (PySem.W.callWith_K (h₀:=X.base) I.ok.mod.kin nm.kp
  (thn (args.run pos pins s σ H _ I want) fun _ _ ⟨_,_,J,rv,go⟩=>⟨J.kIn,a7e F hh room mode binds hd (out σ) J rv go⟩) plain rest) nm.db)
theorem b0A (F:FnG X.prog X.w X.K X.mg X.base hot k f fd ps sp) (hh:m0.isSome=hot) (room:RoomH k X.A) (mode:a1g X m0) (nm:Named X x f) (binds:L2.Binds X.K fd ps ds) (hd:Vals dvs ds) (out:∀ σ,PassesAt (L2N.CX X.prog X.w) X σ (E σ)) :
  PE X (.Call (.Name x q) [] [] pos) (tCallG m0 sp dvs E tNil) where
 run pins s σ H Q I want:=wpAny_Call_Name_kw (ld_glob I nm.gl nm.mg (PySem.W.callWith_K0 I.kIn nm.kp (a7e F hh room mode binds hd (out σ) I .nil want)) nm.db)
end
end Sv
namespace Sv
open PySem PySem.Spec PyProof.Rows L2
abbrev DK:=D→SS→Prop
section
variable {α β:Type} {F:α→β→Prop}
theorem a6k {xs:List α} {us:List β} (h:Paired F xs us):∃ ps:List {p:α × β // F p.1 p.2},ps.map (fun p=>p.1.1)=xs∧ps.map (fun p=>p.1.2)=us:=by
 induction h with
 | nil=>exact ⟨[],rfl,rfl⟩
 | cons r _ more =>
  obtain ⟨ps,rfl,rfl⟩:=more
  exact ⟨⟨(_,_),r⟩ :: ps,rfl,rfl⟩
theorem b5a (ps:List {p:α × β // F p.1 p.2}):Paired F (ps.map fun p=>p.1.1) (ps.map fun p=>p.1.2):=by
 induction ps with
 | nil=>exact .nil
 | cons p ps more=>exact .cons p.2 more
theorem a3T (f:∀ {γ:Type},List γ→List γ) (nat:∀ {γ δ:Type} (h:γ→δ) (l:List γ),f (l.map h)=(f l).map h) {xs:List α} {us:List β} (r:Paired F xs us):Paired F (f xs) (f us):=by
 obtain ⟨ps,rfl,rfl⟩:=a6k r
 rw [nat,nat]
 exact b5a _
theorem b0F {xs:List α} {us:List β} {i:Nat} {x:α} (r:Paired F xs us) (e:xs[i]?=some x):∃ u,us[i]?=some u∧F x u:=by
 obtain ⟨ps,rfl,rfl⟩:=a6k r
 rw [zbh] at e
 rw [zbh]
 cases at_i:ps[i]? with
 | none=>rw [at_i] at e;exact nomatch e
 | some p =>
  rw [at_i] at e
  cases e
  exact ⟨p.1.2,rfl,p.2⟩
theorem b71 {x:α} {u:β} (r:F x u) {xs:List α} {us:List β} (i:Nat) (rs:Paired F xs us):Paired F (xs.set i x) (us.set i u):=by
 obtain ⟨ps,rfl,rfl⟩:=a6k rs
 have put:=b5a (ps.set i ⟨(x,u),r⟩)
 rwa [List.map_set,List.map_set] at put
theorem a6j {xs ys:List α} {us ws:List β} (r:Paired F xs us) (q:Paired F ys ws):Paired F (xs ++ ys) (us ++ ws):=by
 obtain ⟨ps,rfl,rfl⟩:=a6k r
 obtain ⟨qs,rfl,rfl⟩:=a6k q
 rw [← zav,← zav]
 exact b5a _
theorem b5b {xs:List α} {us:List β} (n:Nat):Paired F xs us→Paired F (xs.take n) (us.take n):=a3T (fun l=>l.take n) fun h l=>List.map_take.symm
theorem b49 {xs:List α} {us:List β} (n:Nat):Paired F xs us→Paired F (xs.drop n) (us.drop n):=a3T (fun l=>l.drop n) fun h l=>List.map_drop.symm
theorem a8E {xs:List α} {us:List β}:Paired F xs us→Paired F xs.reverse us.reverse:=a3T List.reverse fun h l=>List.map_reverse.symm
theorem a7c {xs:List α} {us:List β}:Paired F xs us→Paired F xs.dropLast us.dropLast:=a3T List.dropLast fun h l=>List.map_dropLast.symm
end
section
variable {g:Gd} {S S':SS} {H H':Hp}
abbrev RP (g:Gd) (S:SS) (H:Hp):List D→List V→Prop:=Paired fun d v=>Rep g S H d v
theorem a3g:∀ {ds:List D} {vs:List V},a0e g S H ds vs→RP g S H ds vs
 | [],_,h=>by simp only [a0e] at h;subst h;exact .nil
 | d :: ds,_,h=>by
  simp only [a0e] at h
  obtain ⟨v,r,e,a,b⟩:=h
  subst e
  exact .cons a (a3g b)
theorem a3O:∀ {ds:List D} {vs:List V},RP g S H ds vs→a0e g S H ds vs
 | _,_,.nil=>by simp only [a0e]
 | _,_,.cons a b=>by simp only [a0e];exact ⟨_,_,rfl,a,a3O b⟩
abbrev RPK (g:Gd) (S:SS) (H:Hp):List (Key × D)→List (Key × V)→Prop:=Paired fun d v=>d.1=v.1∧Rep g S H d.2 v.2
theorem a0T:∀ {ds:List (Key × D)} {vs:List (Key × V)},a0K g S H ds vs→RPK g S H ds vs
 | [],_,h=>by simp only [a0K] at h;subst h;exact .nil
 | (k,d) :: ds,_,h=>by
  simp only [a0K] at h
  obtain ⟨v,r,e,a,b⟩:=h
  subst e
  exact .cons ⟨rfl,a⟩ (a0T b)
theorem b0s:∀ {ds:List (Key × D)} {vs:List (Key × V)},RPK g S H ds vs→a0K g S H ds vs
 | _,_,.nil=>by simp only [a0K]
 | (k,d) :: _,(k',v) :: _,.cons a b=>by
  obtain ⟨e,a⟩:=a
  cases e
  simp only [a0K]
  exact ⟨v,_,rfl,a,b0s b⟩
theorem a0e.length {ds:List D} {vs:List V} (h:a0e g S H ds vs):ds.length=vs.length:=Paired.length (a3g h)
theorem a0e.get {ds:List D} {vs:List V} (h:a0e g S H ds vs) {i:Nat} {d:D} (e:ds[i]?=some d):∃ v,vs[i]?=some v∧Rep g S H d v:=b0F (a3g h) e
theorem a0e.append {ds es:List D} {vs us:List V} (h:a0e g S H ds vs) (h':a0e g S H es us):a0e g S H (ds ++ es) (vs ++ us):=a3O (a6j (a3g h) (a3g h'))
theorem a0e.take {ds:List D} {vs:List V} (h:a0e g S H ds vs) (n:Nat):a0e g S H (ds.take n) (vs.take n):=a3O (b5b n (a3g h))
theorem a0e.drop {ds:List D} {vs:List V} (h:a0e g S H ds vs) (n:Nat):a0e g S H (ds.drop n) (vs.drop n):=a3O (b49 n (a3g h))
theorem a0e.set {ds:List D} {vs:List V} (h:a0e g S H ds vs) {i:Nat} {d:D} {v:V} (r:Rep g S H d v):a0e g S H (ds.set i d) (vs.set i v):=a3O (b71 r i (a3g h))
theorem a0e.reverse {ds:List D} {vs:List V} (h:a0e g S H ds vs):a0e g S H ds.reverse vs.reverse:=a3O (a8E (a3g h))
theorem a0e.at {ds:List D} {vs:List V} (h:a0e g S H ds vs) {i:Int} {d:D} (e:atI ds i=some d):∃ v,atI vs i=some v∧Rep g S H d v:=by
 unfold atI at e ⊢
 rw [← h.length]
 cases q:ixN ds.length i with
 | none=>rw [q] at e;cases e
 | some j =>
  rw [q] at e
  exact h.get e
def vw (S:SS):D→D
 | .obj a=>match S a with
  | some (.lst ds)=>.lst ds
  | some (.dic k)=>.dic k
  | some (.loc k)=>.dic k
  | _=>.obj a
 | d=>d
def dv (S:SS):Nat→D→D
 | 0,d=>d
 | n + 1,d=>match vw S d with
  | .lst ds=>.lst (ds.map (dv S n))
  | .tup ds=>.tup (ds.map (dv S n))
  | d=>d
theorem a0j {d:D} {ds:List D} {v:V} (hc:CellsOk g S H) (r:Rep g S H d v) (e:vw S d=.lst ds):∃ p vs,v=.ref p∧SqL g.K H p vs∧a0e g S H ds vs:=by
 cases d with
 | lst xs =>
  have e':D.lst xs=.lst ds:=e
  cases e'
  simp only [Rep] at r
  obtain ⟨p,vs,e1,a,b⟩:=r
  exact ⟨p,vs,e1,a.sq,b⟩
 | obj a =>
  simp only [Rep] at r
  have e':(match S a with | some (.lst ds)=>D.lst ds | some (.dic k)=>.dic k | some (.loc k)=>.dic k | _=>.obj a)=.lst ds:=e
  cases q:S a with
  | none=>rw [q] at e';cases e'
  | some c =>
   rw [q] at e'
   cases c with
   | lst xs =>
    cases e'
    obtain ⟨vs,h1,h2⟩:=hc a _ q
    exact ⟨a,vs,r,.inl (.inl h1),h2⟩
   | _=>cases e'
 | _=>cases e
theorem a0B {d:D} {ds:List D} {v:V} (r:Rep g S H d v) (e:vw S d=.tup ds):∃ p vs,v=.ref p∧SqT g.K H p vs∧a0e g S H ds vs:=by
 cases d with
 | tup xs =>
  have e':D.tup xs=.tup ds:=e
  cases e'
  simp only [Rep] at r
  obtain ⟨p,vs,e1,a,b⟩:=r
  exact ⟨p,vs,e1,a.sq,b⟩
 | obj a =>
  have e':(match S a with | some (.lst ds)=>D.lst ds | some (.dic k)=>.dic k | some (.loc k)=>.dic k | _=>.obj a)=.tup ds:=e
  cases q:S a with
  | none=>rw [q] at e';cases e'
  | some c =>
   rw [q] at e'
   cases c <;> cases e'
 | _=>cases e
theorem a1s {d:D} {ds:List (Key × D)} {v:V} (hc:CellsOk g S H) (r:Rep g S H d v) (e:vw S d=.dic ds):∃ p vs,v=.ref p∧Rd H p (.dK vs)∧a0K g S H ds vs:=by
 cases d with
 | dic xs =>
  have e':D.dic xs=.dic ds:=e
  cases e'
  simp only [Rep] at r
  obtain ⟨p,vs,e1,_,a,b⟩:=r
  exact ⟨p,vs,e1,.inl a,b⟩
 | obj a =>
  simp only [Rep] at r
  have e':(match S a with | some (.lst ds)=>D.lst ds | some (.dic k)=>.dic k | some (.loc k)=>.dic k | _=>.obj a)=.dic ds:=e
  cases q:S a with
  | none=>rw [q] at e';cases e'
  | some c =>
   rw [q] at e'
   cases c with
   | dic xs =>
    cases e'
    obtain ⟨vs,h1,h2⟩:=hc a _ q
    exact ⟨a,vs,r,.inl h1,h2⟩
   | loc xs =>
    cases e'
    obtain ⟨vs,o,h1,h2⟩:=hc a _ q
    exact ⟨a,vs,r,.inr ⟨o,h1⟩,h2⟩
   | _=>cases e'
 | _=>cases e
theorem a3h {d x:D} {v:V} (r:Rep g S H d v) (e:vw S d=x) (h:∀ ds,x≠.lst ds) (h2:∀ ds,x≠.dic ds):Rep g S H x v:=by
 cases d with
 | obj a =>
  have e':(match S a with | some (.lst ds)=>D.lst ds | some (.dic k)=>.dic k | some (.loc k)=>.dic k | _=>.obj a)=x:=e
  cases q:S a with
  | none=>rw [q] at e';subst e';exact r
  | some c =>
   rw [q] at e'
   cases c with
   | lst xs=>subst e';exact absurd rfl (h _)
   | dic xs=>subst e';exact absurd rfl (h2 _)
   | loc xs=>subst e';exact absurd rfl (h2 _)
   | ins _ _=>subst e';exact r
 | _=>subst e;exact r
def Res (g:Gd) (S:SS) (H:Hp) (K:DK) (Q:VK):Prop:=∀ d S' v H',K d S'→a0d S H S' H'→CellsOk g S' H'→Rep g S' H' d v→Q v H'
theorem Res.val {K:DK} {Q:VK} {d:D} {v:V} (r:Res g S H K Q) (k:K d S) (hc:CellsOk g S H) (h:Rep g S H d v):Q v H:=r d S v H k (a0d.refl _ _) hc h
theorem Res.int {K:DK} {Q:VK} {i:Int} (r:Res g S H K Q) (k:K (.int i) S) (hc:CellsOk g S H):Q (.int i) H:=r.val k hc (by simp only [Rep])
theorem Res.bl {K:DK} {Q:VK} {i:Bool} (r:Res g S H K Q) (k:K (.bl i) S) (hc:CellsOk g S H):Q (.bl i) H:=r.val k hc (by simp only [Rep])
theorem Res.str {K:DK} {Q:VK} {i:Str} (r:Res g S H K Q) (k:K (.str i) S) (hc:CellsOk g S H):Q (.str i) H:=r.val k hc (by simp only [Rep])
theorem Res.non {K:DK} {Q:VK} (r:Res g S H K Q) (k:K .non S) (hc:CellsOk g S H):Q .non H:=r.val k hc (by simp only [Rep])
theorem Res.lst {K:DK} {Q:VK} {ds:List D} {vs:List V} {p:Addr} (r:Res g S H K Q) (k:K (.lst ds) S) (hc:CellsOk g S H) (h:a0e g S H ds vs) (e:H p=none):Q (.ref p) (upd H p (.lst vs)) :=
 r _ S _ _ k (a0d.new e) (hc.new e) (by simp only [Rep];exact ⟨p,vs,rfl,.inl ⟨hc.free e,.inl upd_same⟩,h.mono (a0d.new e)⟩)
theorem Res.tup {K:DK} {Q:VK} {ds:List D} {vs:List V} {p:Addr} (r:Res g S H K Q) (k:K (.tup ds) S) (hc:CellsOk g S H) (h:a0e g S H ds vs) (e:H p=none):Q (.ref p) (upd H p (.tup vs)) :=
 r _ S _ _ k (a0d.new e) (hc.new e) (by simp only [Rep];exact ⟨p,vs,rfl,.inl ⟨hc.free e,upd_same⟩,h.mono (a0d.new e)⟩)
theorem Res.dic {K:DK} {Q:VK} {ds:List (Key × D)} {vs:List (Key × V)} {p:Addr} (r:Res g S H K Q) (k:K (.dic ds) S) (hc:CellsOk g S H) (h:a0K g S H ds vs) (e:H p=none):Q (.ref p) (upd H p (.dK vs)) :=
 r _ S _ _ k (a0d.new e) (hc.new e) (by simp only [Rep];exact ⟨p,vs,rfl,hc.free e,upd_same,h.mono (a0d.new e)⟩)
theorem Res.lstC {K:DK} {Q:VK} {ds:List D} {vs:List V} {p:Addr} (r:Res g S H K Q) (k:∀ p,S p=none→K (.obj p) (S.set p (.lst ds))) (hc:CellsOk g S H) (h:a0e g S H ds vs) (e:H p=none):Q (.ref p) (upd H p (.lst vs)) :=
 r _ _ _ _ (k p (hc.free e)) (a0d.newC e) (hc.newC e ⟨vs,upd_same,h.mono (a0d.newC e)⟩) (by simp only [Rep])
theorem Res.dicC {K:DK} {Q:VK} {ds:List (Key × D)} {vs:List (Key × V)} {p:Addr} (r:Res g S H K Q) (k:∀ p,S p=none→K (.obj p) (S.set p (.dic ds))) (hc:CellsOk g S H) (h:a0K g S H ds vs) (e:H p=none):Q (.ref p) (upd H p (.dK vs)) :=
 r _ _ _ _ (k p (hc.free e)) (a0d.newC e) (hc.newC e ⟨vs,upd_same,h.mono (a0d.newC e)⟩) (by simp only [Rep])
def rD2 (g:Gd) (t:D→D→SS→DK→Prop):R2:=fun v u H Q=>∃ x y S K,CellsOk g S H∧Rep g S H x v∧Rep g S H y u∧t x y S K∧Res g S H K Q
def rDc (g:Gd) (t:List D→SS→DK→Prop):List V→Hp→VK→Prop:=fun vs H Q=>∃ xs S K,CellsOk g S H∧a0e g S H xs vs∧t xs S K∧Res g S H K Q
def rDm (g:Gd) (t:D→List D→SS→DK→Prop):V→List V→Hp→VK→Prop:=fun v vs H Q=>∃ x xs S K,CellsOk g S H∧Rep g S H x v∧a0e g S H xs vs∧t x xs S K∧Res g S H K Q
end
def b4U (x y:D) (S:SS) (Q:DK):Prop:=match vw S x,vw S y with
 | .int i,.int j=>Q (.int (i + j)) S
 | .str a,.str b=>a.length + b.length≤sizeLine∧Q (.str (a ++ b)) S
 | .lst a,.lst b=>a.length + b.length≤sizeLine∧Q (.lst (a ++ b)) S
 | .tup a,.tup b=>a.length + b.length≤sizeLine∧Q (.tup (a ++ b)) S
 | _,_=>False
def b1o (x y:D) (S:SS) (Q:DK):Prop:=match vw S x,vw S y with
 | .lst a,.lst b=>a.length + b.length≤sizeLine∧∀ p,S p=none→Q (.obj p) (S.set p (.lst (a ++ b)))
 | _,_=>False
def b4Z (x y:D) (S:SS) (Q:DK):Prop:=match x,y with
 | .int i,.int j=>Q (.int (i - j)) S
 | _,_=>False
def b73 (z:Str) (k:Nat):Str:=⟨(List.replicate k z.cps).foldl (· ++ ·) #[]⟩
def b4X (x y:D) (S:SS) (Q:DK):Prop:=match x,y with
 | .int i,.int j=>(CMul i j∨CMulW i j)∧Q (.int (i * j)) S
 | .lst xs,.int k=>-(2 ^ 63)≤k∧k < 2 ^ 63∧xs.length * k.toNat≤sizeLine∧Q (.lst (List.replicate k.toNat xs).flatten) S
 | .str z,.int k=>2≤k∧k < 1000∧0 < z.length∧z.length * k.toNat≤1000000∧Q (.str (b73 z k.toNat)) S
 | _,_=>False
def b4V (x y:D) (S:SS) (Q:DK):Prop:=match x,y with
 | .int i,.int j=>CDivW i j∧Q (.int (i / j)) S
 | _,_=>False
def b4W (x y:D) (S:SS) (Q:DK):Prop:=match x,y with
 | .int i,.int j=>0 < j∧Q (.int (i % j)) S
 | _,_=>False
def b4Y (x y:D) (S:SS) (Q:DK):Prop:=match x,y with
 | .int i,.int j=>CPow i j∧Q (.int (i ^ j.toNat)) S
 | _,_=>False
def opD:Operator→D→D→SS→DK→Prop
 | .Add=>b4U | .Sub=>b4Z | .Mult=>b4X | .FloorDiv=>b4V | .Mod=>b4W | .Pow=>b4Y | _=>fun _ _ _ _=>False
section
variable {X:Cx} {g:Gd}
theorem b0t:OpR X (binaryOp .Add) (fun x y H Q=>∃ l b xs zs,x=.ref l∧y=.ref b∧SqL X.K H l xs∧SqL X.K H b zs∧xs.length + zs.length≤sizeLine∧∀ p,H p=none→Q (.ref p) (upd H p (.lst (xs ++ zs)))):=by
 intro pins s σ H x y v u Q I rx ry h
 obtain ⟨l,b,xs,zs,rfl,rfl,hl,hb,hz,q⟩:=h
 cases rx
 cases ry
 obtain ⟨its,r1,p1,z1⟩:=I.list hl
 obtain ⟨its2,r2,p2,z2⟩:=I.list hb
 obtain ⟨⟨cls,dd,data,sl⟩,n,ho,hc,hdd,hd⟩:=p1
 obtain ⟨⟨cls2,dd2,data2,sl2⟩,n2,ho2,hc2,hdd2,hd2⟩:=p2
 simp only at hc hd hc2 hd2
 subst hc hd hc2 hd2
 have e1:=r1.length
 have e2:=r2.length
 have e:its.toArray ++ its2.toArray=(its ++ its2).toArray:=by simp
 refine PySem.concat_meets ⟨_,ho,rfl⟩ ⟨_,ho2,rfl⟩ PySem.noFill_list_add PySem.seq_list_add PySem.F.slot_list_add PySem.F.entry_list_add (PySem.F.args_list_add_2 _ _) (list_addW l b its.toArray its2.toArray n n2 dd dd2 sl sl2 (by simpa [← e1,← e2] using hz)) ⟨ho,ho2,?_⟩
 rw [e]
 exact ⟨.ref _,_,I.lnew (t':=s.toks) (r1.append r2) (by rw [zaw];omega),rfl,q _ I.fresh⟩
theorem b40:OpR X (binaryOp .Mult) (fun x y H Q=>∃ l k xs,x=.ref l∧y=.int k∧SqL X.K H l xs∧-(2 ^ 63)≤k∧k < 2 ^ 63∧xs.length * k.toNat≤sizeLine∧∀ p,H p=none→Q (.ref p) (upd H p (.lst (List.replicate k.toNat xs).flatten))):=by
 intro pins s σ H x y v u Q I rx ry h
 obtain ⟨l,k,xs,rfl,rfl,hl,lo,hi,few,q⟩:=h
 cases rx
 obtain ⟨t,rfl⟩:=ry
 obtain ⟨its,rv,pl,z⟩:=I.list hl
 obtain ⟨⟨cls,dd,data,sl⟩,n,ho,hc,hdd,hd⟩:=pl
 simp only at hc hd
 subst hc hd
 have len:=rv.length
 have few':its.toArray.size * k.toNat≤sizeLine:=by rw [List.size_toArray,← len];exact few
 have cap:(sizeLine:Nat)≤(2 ^ 63 - 1) / 8:=by decide
 have flat:List.foldl (fun x1 x2=>x1 ++ x2) #[] (List.replicate (if its.toArray.isEmpty=true then 0 else k.toNat) its.toArray)=(List.replicate k.toNat its).flatten.toArray:=by
  have go:∀ m:Nat,List.foldl (fun x1 x2=>x1 ++ x2) #[] (List.replicate m its.toArray)=(List.replicate m its).flatten.toArray:=fun m=>by
   have:=foldl_rep its m []
   rwa [List.nil_append] at this
  rw [go]
  cases its with
  | nil=>simp
  | cons a r=>rw [if_neg (by simp)]
 refine wpAny_binaryOp_repeat_ref (T := "list") (U := "int") (by decide) ⟨_,ho,rfl⟩ (fun s'=>typeIs_int s' k t) noFill_list_mul F.fills_int_mul F.slot_int_rmul repeat_list F.slot_int_index.lookup
  (call_meets F.slot_int_rmul (typeIs_int s k t) F.entry_int_rmul (F.args_int_rmul_2 _ _) (lm_int_rmul_list_any k t l its.toArray n dd sl)
   ⟨ho,rfl,⟨_,ho,rfl⟩,call_meets F.slot_list_mul ⟨_,ho,rfl⟩ F.entry_list_mul (F.args_list_mul_2 _ _) (lm_list_mul_any l its.toArray n dd sl k t (by rw [fitsIndex_both lo hi];exact zbe) (by omega) (by rw [notLongL few'];exact zbe)) ⟨ho,?_⟩⟩)
 rw [flat]
 exact ⟨.ref _,_,I.lnew (t':=s.toks) (rv.rep k.toNat) (by rw [PyProof.Rows.lm_len_rep_flat,Nat.mul_comm];exact few),rfl,q _ I.fresh⟩
theorem a5L (a:Array Nat):∀ (n:Nat) (acc:Array Nat),((List.replicate n a).foldl (· ++ ·) acc).size=acc.size + n * a.size
 | 0,acc=>by simp
 | n + 1,acc=>by
  rw [List.replicate_succ,List.foldl_cons,a5L a n,Array.size_append,Nat.succ_mul]
  omega
theorem b2t (z:Str) (n:Nat):(b73 z n).length=z.length * n:=by
 show ((List.replicate n z.cps).foldl (· ++ ·) #[]).size=z.cps.size * n
 rw [a5L,Nat.mul_comm]
 simp
theorem b41:OpR X (binaryOp .Mult) (fun x y H Q=>∃ z k,x=.str z∧y=.int k∧2≤k∧k < 1000∧0 < z.length∧z.length * k.toNat≤1000000∧Q (.str (b73 z k.toNat)) H):=by
 intro pins s σ H x y v u Q I rx ry h
 obtain ⟨z,k,rfl,rfl,lo,hi,ln,few,q⟩:=h
 obtain ⟨t,rfl⟩:=rx
 obtain ⟨t',rfl⟩:=ry
 have big:(2:Int) ^ 63=9223372036854775808:=by decide
 refine PySem.P.mul_str ?_ (fun _ _=>?_) (fun _ _=>?_) ?_
 ·rw [zbf (by omega),zbf (by omega)];rfl
 ·have e:=Int.toNat_of_nonneg (show 0≤k by omega)
  have hk:0 < k:=by omega
  have e2:(z.length:Int) * k=((z.length * k.toNat:Nat):Int):=by rw [Int.natCast_mul,e]
  rw [show ((2:Int) ^ 63 - 1)=9223372036854775807 by decide]
  have h2:(z.length:Int)≤9223372036854775807 / k:=by
   rw [Int.le_ediv_iff_mul_le hk,e2]
   omega
  omega
 ·unfold Builtin.Str.tooLong
  simp only [decide_eq_false_iff_not]
  have:(sizeLine:Nat)=16777216:=rfl
  omega
 ·rw [if_neg (by omega),if_neg (by
   rw [Bool.or_eq_true,not_or]
   refine ⟨fun e=>?_,fun e=>?_⟩
   ·have:=eq_of_beq e
    omega
   ·have:=eq_of_beq e
    omega)]
  refine ⟨?_,.str (b73 z k.toNat),H,I.tok _,⟨_,rfl⟩,q⟩
  have:=b2t z k.toNat
  have e:(sizeLine:Nat)=16777216:=rfl
  show (b73 z k.toNat).length≤sizeLine
  omega
theorem a0e.rep {g:Gd} {S:SS} {H:Hp} {ds:List D} {vs:List V} (h:a0e g S H ds vs):∀ k:Nat,a0e g S H (List.replicate k ds).flatten (List.replicate k vs).flatten
 | 0=>by simp only [List.replicate_zero,List.flatten_nil,a0e]
 | k + 1=>by
  rw [List.replicate_succ,List.replicate_succ,List.flatten_cons,List.flatten_cons]
  exact h.append (a0e.rep h k)
theorem a0g {S:SS} {H:Hp} {i:Int} {v:V} (h:Rep g S H (.int i) v):v=.int i:=by simpa only [Rep] using h
theorem a2x {S:SS} {H:Hp} {i:Bool} {v:V} (h:Rep g S H (.bl i) v):v=.bl i:=by simpa only [Rep] using h
theorem a0u {S:SS} {H:Hp} {i:Str} {v:V} (h:Rep g S H (.str i) v):v=.str i:=by simpa only [Rep] using h
theorem a5r {S:SS} {H:Hp} {v:V} (h:Rep g S H .non v):v=.non:=by simpa only [Rep] using h
theorem a0r {S:SS} {H:Hp} {a:Addr} {v:V} (h:Rep g S H (.obj a) v):v=.ref a:=by simpa only [Rep] using h
theorem a8k {S:SS} {H:Hp} {d:D} {i:Int} {v:V} (r:Rep g S H d v) (e:vw S d=.int i):v=.int i:=a0g (a3h r e (fun _ z=>nomatch z) (fun _ z=>nomatch z))
theorem b88 {S:SS} {H:Hp} {d:D} {i:Bool} {v:V} (r:Rep g S H d v) (e:vw S d=.bl i):v=.bl i:=a2x (a3h r e (fun _ z=>nomatch z) (fun _ z=>nomatch z))
theorem a2I {S:SS} {H:Hp} {d:D} {i:Str} {v:V} (r:Rep g S H d v) (e:vw S d=.str i):v=.str i:=a0u (a3h r e (fun _ z=>nomatch z) (fun _ z=>nomatch z))
theorem b3C {S:SS} {H:Hp} {d:D} {v:V} (r:Rep g S H d v) (e:vw S d=.non):v=.non:=a5r (a3h r e (fun _ z=>nomatch z) (fun _ z=>nomatch z))
theorem b56 (hK:g.K=X.K):OpR X (binaryOp .Add) (rD2 g b1o):=by
 intro pins s σ H v1 v2 u1 u2 Q I r1 r2 h
 obtain ⟨x,y,S,K,hc,p1,p2,ht,res⟩:=h
 unfold b1o at ht
 split at ht
 ·rename_i a b e1 e2
  obtain ⟨p,vs,rfl,hl,hr⟩:=a0j hc p1 e1
  obtain ⟨q,us,rfl,hl2,hr2⟩:=a0j hc p2 e2
  rw [hK] at hl hl2
  exact b0t pins s σ H _ _ _ _ Q I r1 r2 ⟨p,q,vs,us,rfl,rfl,hl,hl2,by rw [← hr.length,← hr2.length];exact ht.1,fun r hn=>res.lstC ht.2 hc (hr.append hr2) hn⟩
 ·exact ht.elim
theorem b7Q (hK:g.K=X.K):∀ op:Operator,OpR X (binaryOp op) (rD2 g (opD op)):=by
 intro op pins s σ H v1 v2 u1 u2 Q I r1 r2 h
 obtain ⟨x,y,S,K,hc,p1,p2,ht,res⟩:=h
 cases op with
 | Add =>
  change b4U x y S K at ht
  unfold b4U at ht
  split at ht
  ·rename_i i j e1 e2
   cases a8k p1 e1
   cases a8k p2 e2
   exact op_add pins s σ H _ _ _ _ Q I r1 r2 ⟨i,j,rfl,rfl,res.int ht hc⟩
  ·rename_i i j e1 e2
   cases a2I p1 e1
   cases a2I p2 e2
   exact op_add_str pins s σ H _ _ _ _ Q I r1 r2 ⟨i,j,rfl,rfl,ht.1,res.str ht.2 hc⟩
  ·rename_i i j e1 e2
   obtain ⟨p,vs,rfl,hl,hr⟩:=a0j hc p1 e1
   obtain ⟨q,us,rfl,hl2,hr2⟩:=a0j hc p2 e2
   rw [hK] at hl hl2
   exact b0t pins s σ H _ _ _ _ Q I r1 r2 ⟨p,q,vs,us,rfl,rfl,hl,hl2,by rw [← hr.length,← hr2.length];exact ht.1,fun z hz=>res.lst ht.2 hc (hr.append hr2) hz⟩
  ·rename_i i j e1 e2
   obtain ⟨p,vs,rfl,hl,hr⟩:=a0B p1 e1
   obtain ⟨q,us,rfl,hl2,hr2⟩:=a0B p2 e2
   have hl':=hl
   have hl2':=hl2
   rw [hK] at hl hl2
   have f1:vw S x=x:=by
    cases x with
    | tup _=>rfl
    | obj a =>
     have e':(match S a with | some (.lst ds)=>D.lst ds | some (.dic k)=>.dic k | some (.loc k)=>.dic k | _=>.obj a)=.tup i:=e1
     cases q:S a with
     | none=>rw [q] at e';cases e'
     | some c=>rw [q] at e';cases c <;> cases e'
    | _=>cases e1
   have f2:vw S y=y:=by
    cases y with
    | tup _=>rfl
    | obj a =>
     have e':(match S a with | some (.lst ds)=>D.lst ds | some (.dic k)=>.dic k | some (.loc k)=>.dic k | _=>.obj a)=.tup j:=e2
     cases q:S a with
     | none=>rw [q] at e';cases e'
     | some c=>rw [q] at e';cases c <;> cases e'
    | _=>cases e2
   have g1:x=.tup i:=f1.symm.trans e1
   have g2:y=.tup j:=f2.symm.trans e2
   subst g1 g2
   refine op_catA pins s σ H _ _ _ _ Q I r1 r2 ⟨p,q,vs,us,rfl,rfl,hl,hl2,by rw [← hr.length,← hr2.length];exact ht.1,fun z=>?_,fun _ z=>?_,fun _ _ a ha=>res.tup ht.2 hc (hr.append hr2) ha⟩
   ·have hi:i=[]:=by
     have e:=hr.length
     rw [z] at e
     exact List.eq_nil_of_length_eq_zero e
    refine res.val (d:=.tup (i ++ j)) ht.2 hc ?_
    rw [hi]
    exact p2
   ·have hi:j=[]:=by
     have e:=hr2.length
     rw [z] at e
     exact List.eq_nil_of_length_eq_zero e
    refine res.val (d:=.tup (i ++ j)) ht.2 hc ?_
    rw [hi,List.append_nil]
    exact p1
  ·exact ht.elim
 | Sub =>
  change b4Z x y S K at ht
  unfold b4Z at ht
  split at ht
  ·rename_i i j
   cases a0g p1
   cases a0g p2
   exact op_sub pins s σ H _ _ _ _ Q I r1 r2 ⟨i,j,rfl,rfl,res.int ht hc⟩
  ·exact ht.elim
 | Mult =>
  change b4X x y S K at ht
  unfold b4X at ht
  split at ht
  ·rename_i i j
   cases a0g p1
   cases a0g p2
   rcases ht.1 with hm | hm
   ·exact op_mul pins s σ H _ _ _ _ Q I r1 r2 ⟨i,j,rfl,rfl,hm,res.int ht.2 hc⟩
   ·exact op_mulW pins s σ H _ _ _ _ Q I r1 r2 ⟨i,j,rfl,rfl,hm,res.int ht.2 hc⟩
  ·rename_i xs j
   cases a0g p2
   obtain ⟨p,vs,rfl,hl,hr⟩:=a0j hc p1 rfl
   rw [hK] at hl
   exact b40 pins s σ H _ _ _ _ Q I r1 r2 ⟨p,j,vs,rfl,rfl,hl,ht.1,ht.2.1,by rw [← hr.length];exact ht.2.2.1,fun z hz=>res.lst ht.2.2.2 hc (hr.rep _) hz⟩
  ·rename_i z j
   cases a0u p1
   cases a0g p2
   exact b41 pins s σ H _ _ _ _ Q I r1 r2 ⟨z,j,rfl,rfl,ht.1,ht.2.1,ht.2.2.1,ht.2.2.2.1,res.str ht.2.2.2.2 hc⟩
  ·exact ht.elim
 | FloorDiv =>
  change b4V x y S K at ht
  unfold b4V at ht
  split at ht
  ·rename_i i j
   cases a0g p1
   cases a0g p2
   exact op_fdivW pins s σ H _ _ _ _ Q I r1 r2 ⟨i,j,rfl,rfl,ht.1,res.int ht.2 hc⟩
  ·exact ht.elim
 | Mod =>
  change b4W x y S K at ht
  unfold b4W at ht
  split at ht
  ·rename_i i j
   cases a0g p1
   cases a0g p2
   exact op_mod pins s σ H _ _ _ _ Q I r1 r2 ⟨i,j,rfl,rfl,ht.1,res.int ht.2 hc⟩
  ·exact ht.elim
 | Pow =>
  change b4Y x y S K at ht
  unfold b4Y at ht
  split at ht
  ·rename_i i j
   cases a0g p1
   cases a0g p2
   exact op_pow pins s σ H _ _ _ _ Q I r1 r2 ⟨i,j,rfl,rfl,ht.1,res.int ht.2 hc⟩
  ·exact ht.elim
 | _=>exact False.elim ht
end
mutual
def D.py:D→PyData
 | .non=>.none | .bl b=>.bool b | .int i=>.int i | .str x=>.str x
 | .lst xs=>.list (D.pys xs) | .tup xs=>.tuple (D.pys xs)
 | _=>.none
def D.pys:List D→List PyData
 | []=>[] | d :: ds=>D.py d :: D.pys ds
end
mutual
def D.okd:Nat→D→Bool
 | _,.non=>true | _,.bl _=>true | _,.int _=>true | _,.str x=>PyData.strOk x
 | n,.lst xs=>decide (0 < n) && D.okds (n - 1) xs
 | n,.tup xs=>decide (0 < n) && D.okds (n - 1) xs
 | _,_=>false
def D.okds:Nat→List D→Bool
 | _,[]=>true | n,d :: ds=>D.okd n d && D.okds n ds
end
mutual
theorem a3Q:∀ (d:D) (n:Nat),D.okd n d=true→d.py.canLay0=true∧d.py.depth≤n
 | .non,n,_=>by simp [D.py,PyData.canLay0,PyData.depth]
 | .bl _,n,_=>by simp [D.py,PyData.canLay0,PyData.depth]
 | .int _,n,_=>by simp [D.py,PyData.canLay0,PyData.depth]
 | .str _,n,h=>by simpa [D.py,PyData.canLay0,PyData.depth,D.okd] using h
 | .lst xs,n,h=>by
  simp only [D.okd,zak,zah] at h
  have q:=a5n xs (n - 1) h.2
  simp only [D.py,PyData.canLay0,PyData.depth]
  exact ⟨q.1,by omega⟩
 | .tup xs,n,h=>by
  simp only [D.okd,zak,zah] at h
  have q:=a5n xs (n - 1) h.2
  simp only [D.py,PyData.canLay0,PyData.depth]
  exact ⟨q.1,by omega⟩
 | .dic _,n,h=>by simp [D.okd] at h
 | .obj _,n,h=>by simp [D.okd] at h
 | .exc _ _ _ _,n,h=>by simp [D.okd] at h
 | .err _ _ _ _,n,h=>by simp [D.okd] at h
theorem a5n:∀ (ds:List D) (n:Nat),D.okds n ds=true→PyData.canLayAll0 (D.pys ds)=true∧PyData.depthAll (D.pys ds)≤n
 | [],n,_=>by simp [D.pys,PyData.canLayAll0,PyData.depthAll]
 | d :: ds,n,h=>by
  simp only [D.okds,zak] at h
  have q:=a3Q d n h.1
  have q2:=a5n ds n h.2
  simp only [D.pys,PyData.canLayAll0,PyData.depthAll,zak]
  exact ⟨⟨q.1,q2.1⟩,by omega⟩
end
section
variable {X:Cx} {g:Gd} {S:SS} {H:Hp}
mutual
theorem a4r:∀ {d:D} {v:V} (n:Nat),D.okd n d=true→Rep g S H d v→Dp g.K H v d.py
 | .non,_,n,_,r=>by simp only [Rep] at r;subst r;exact .non
 | .bl _,_,n,_,r=>by simp only [Rep] at r;subst r;exact .bl _
 | .int _,_,n,_,r=>by simp only [Rep] at r;subst r;exact .int _
 | .str _,_,n,_,r=>by simp only [Rep] at r;subst r;exact .str _
 | .lst xs,_,n,h,r=>by
  simp only [D.okd,zak] at h
  simp only [Rep] at r
  obtain ⟨p,vs,rfl,a,b⟩:=r
  exact .lst a.sq (a3A (n - 1) h.2 b)
 | .tup xs,_,n,h,r=>by
  simp only [D.okd,zak] at h
  simp only [Rep] at r
  obtain ⟨p,vs,rfl,a,b⟩:=r
  exact .tup a.sq (a3A (n - 1) h.2 b)
 | .dic _,_,n,h,_=>by simp [D.okd] at h
 | .obj _,_,n,h,_=>by simp [D.okd] at h
 | .exc _ _ _ _,_,n,h,_=>by simp [D.okd] at h
 | .err _ _ _ _,_,n,h,_=>by simp [D.okd] at h
theorem a3A:∀ {ds:List D} {vs:List V} (n:Nat),D.okds n ds=true→a0e g S H ds vs→DpAll g.K H vs (D.pys ds)
 | [],_,n,_,r=>by simp only [a0e] at r;subst r;exact .nil
 | d :: ds,_,n,h,r=>by
  simp only [D.okds,zak] at h
  simp only [a0e] at r
  obtain ⟨v,q,rfl,a,b⟩:=r
  exact .cons (a4r n h.1 a) (a3A n h.2 b)
end
theorem a2R {d x:D} {v:V} (hc:CellsOk g S H) (r:Rep g S H d v) (e:vw S d=x) (h:D.okd 60 x=true):Dp g.K H v x.py:=by
 cases x with
 | lst ds =>
  obtain ⟨p,vs,rfl,hl,hr⟩:=a0j hc r e
  simp only [D.okd,zak] at h
  exact .lst hl (a3A _ h.2 hr)
 | tup ds =>
  obtain ⟨p,vs,rfl,hl,hr⟩:=a0B r e
  simp only [D.okd,zak] at h
  exact .tup hl (a3A _ h.2 hr)
 | dic ds=>simp [D.okd] at h
 | obj a=>simp [D.okd] at h
 | exc _ _ _ _=>simp [D.okd] at h
 | err _ _ _ _=>simp [D.okd] at h
 | non=>exact a4r 60 h (a3h r e (fun _ z=>nomatch z) (fun _ z=>nomatch z))
 | bl _=>exact a4r 60 h (a3h r e (fun _ z=>nomatch z) (fun _ z=>nomatch z))
 | int _=>exact a4r 60 h (a3h r e (fun _ z=>nomatch z) (fun _ z=>nomatch z))
 | str _=>exact a4r 60 h (a3h r e (fun _ z=>nomatch z) (fun _ z=>nomatch z))
theorem a8t (hc : CellsOk g S H) : ∀ (n : Nat) {d : D} {v : V} (m : Nat), D.okd m (dv S n d) = true → Rep g S H d v → Dp g.K H v (dv S n d).py
  | 0, d, v, m, h, r => a4r m h r
  | n + 1, d, v, m, h, r => by
    have all : ∀ (ds : List D) {vs : List V} (m : Nat), D.okds m (ds.map (dv S n)) = true → a0e g S H ds vs → DpAll g.K H vs (D.pys (ds.map (dv S n))) := by
      intro ds
      induction ds with
      | nil =>
        intro vs m _ r
        simp only [a0e] at r
        subst r
        exact .nil
      | cons d ds ih =>
        intro vs m h r
        simp only [zax, D.okds, zak] at h
        simp only [a0e] at r
        obtain ⟨v, q, rfl, a, b⟩ := r
        exact .cons (a8t hc n m h.1 a) (ih m h.2 b)
    cases e : vw S d with
    | lst ds =>
      have ed : dv S (n + 1) d = .lst (ds.map (dv S n)) := by simp only [dv, e]
      rw [ed] at h ⊢
      obtain ⟨p, vs, rfl, hl, hr⟩ := a0j hc r e
      simp only [D.okd, zak] at h
      exact .lst hl (all ds _ h.2 hr)
    | tup ds =>
      have ed : dv S (n + 1) d = .tup (ds.map (dv S n)) := by simp only [dv, e]
      rw [ed] at h ⊢
      obtain ⟨p, vs, rfl, hl, hr⟩ := a0B r e
      simp only [D.okd, zak] at h
      exact .tup hl (all ds _ h.2 hr)
    | dic ds => have ed : dv S (n + 1) d = .dic ds := by simp only [dv, e]
                rw [ed] at h; simp [D.okd] at h
    | obj a => have ed : dv S (n + 1) d = .obj a := by simp only [dv, e]
               rw [ed] at h; simp [D.okd] at h
    | exc a b c x => have ed : dv S (n + 1) d = .exc a b c x := by simp only [dv, e]
                     rw [ed] at h; simp [D.okd] at h
    | err a b c x => have ed : dv S (n + 1) d = .err a b c x := by simp only [dv, e]
                     rw [ed] at h; simp [D.okd] at h
    | non => have ed : dv S (n + 1) d = .non := by simp only [dv, e]
             rw [ed] at h ⊢; exact a4r m h (a3h r e (fun _ z => nomatch z) (fun _ z => nomatch z))
    | bl x => have ed : dv S (n + 1) d = .bl x := by simp only [dv, e]
              rw [ed] at h ⊢; exact a4r m h (a3h r e (fun _ z => nomatch z) (fun _ z => nomatch z))
    | int x => have ed : dv S (n + 1) d = .int x := by simp only [dv, e]
               rw [ed] at h ⊢; exact a4r m h (a3h r e (fun _ z => nomatch z) (fun _ z => nomatch z))
    | str x => have ed : dv S (n + 1) d = .str x := by simp only [dv, e]
               rw [ed] at h ⊢; exact a4r m h (a3h r e (fun _ z => nomatch z) (fun _ z => nomatch z))
theorem a0m {d:D} (h:D.okd 60 d=true):SeqAt.shaped d.py=true:=by
 have q:=a3Q d 60 h
 unfold SeqAt.shaped
 rw [q.1,zbg (by omega:d.py.depth≤64)]
 rfl
end
def D.eqv (x y:D):Bool:=PyData.eqv x.py y.py
def cEq (neg:Bool) (x y:D) (S:SS) (Q:DK):Prop:=(D.okd 60 (vw S x)=true∧D.okd 60 (vw S y)=true∧Q (.bl (neg ^^ D.eqv (vw S x) (vw S y))) S)∨(∃ a b,x=.str a∧y=.str b∧Q (.bl (neg ^^ decide (a=b))) S)∨(D.okd 60 (dv S 60 x)=true∧D.okd 60 (dv S 60 y)=true∧Q (.bl (neg ^^ D.eqv (dv S 60 x) (dv S 60 y))) S)∨(∃ p kvs,x=.obj p∧S p=some (.dic kvs)∧y=.dic []∧Q (.bl (neg ^^ kvs.isEmpty)) S)∨(∃ ds es,vw S x=.lst ds∧vw S y=.lst es∧ds.length≠es.length∧Q (.bl neg) S)
def cLt (f:Int→Int→Bool) (h:List Nat→List Nat→Bool) (x y:D) (S:SS) (Q:DK):Prop:=match x,y with
 | .int i,.int j=>Q (.bl (f i j)) S
 | .str a,.str b=>Q (.bl (h a.cps.toList b.cps.toList)) S
 | _,_=>False
def keyD:D→Option Key
 | .int i=>some (.inl i) | .str x=>some (.inr x) | _=>none
def valD (kvs:List (Key × D)) (k:Key):Option D:=(kvs.find? fun kv=>decide (kv.1=k)).map (·.2)
def putD (kvs:List (Key × D)) (k:Key) (v:D):List (Key × D) :=
 if (kvs.any fun kv=>decide (kv.1=k))=true then kvs.map fun kv=>if kv.1=k then (kv.1,v) else kv else kvs ++ [(k,v)]
def a8u (kvs:List (Key × D)) (k:Key):List (Key × D):=kvs.filter fun kv=>decide (kv.1≠k)
def cIn (neg:Bool) (x y:D) (S:SS) (Q:DK):Prop:=match vw S y with
 | .lst ds=>D.okd 60 (vw S x)=true∧D.okds 59 ds=true∧Q (.bl (neg ^^ ds.any fun z=>D.eqv z (vw S x))) S
 | .tup ds=>(∃ z,x=.str z∧∃ zs:List Str,ds=zs.map D.str∧Q (.bl (neg ^^ zs.any fun y=>y == z)) S)∨(∃ z,x=.int z∧∃ zs:List Int,ds=zs.map D.int∧Q (.bl (neg ^^ zs.any fun y=>y == z)) S)
 | .str b=>match x with
  | .str a=>a.length=1∧Q (.bl (neg ^^ decide (a.cps.getD 0 0∈b.cps.toList))) S
  | _=>False
 | .dic kvs=>∃ k,keyD x=some k∧Q (.bl (neg ^^ (valD kvs k).isSome)) S
 | _=>False
def isNon:D→Bool
 | .non=>true | _=>false
def cIs (neg:Bool) (x y:D) (S:SS) (Q:DK):Prop:=match y with
 | .non=>Q (.bl (neg ^^ isNon x)) S
 | .bl b=>∃ a,x=.bl a∧Q (.bl (neg ^^ decide (a=b))) S
 | _=>False
def c32:CmpOp→D→D→SS→DK→Prop
 | .Eq=>cEq false | .NotEq=>cEq true
 | .Lt=>cLt (fun i j=>decide (i < j)) (fun a b=>decide (a < b)) | .LtE=>cLt (fun i j=>decide (i≤j)) (fun a b=>!decide (b < a))
 | .Gt=>cLt (fun i j=>decide (j < i)) (fun a b=>decide (b < a)) | .GtE=>cLt (fun i j=>decide (j≤i)) (fun a b=>!decide (a < b))
 | .In=>cIn false | .NotIn=>cIn true | .Is=>cIs false | .IsNot=>cIs true
section
variable {X:Cx} {g:Gd} {S:SS} {H:Hp}
theorem a1z {ds:List (Key × D)} {vs:List (Key × V)} (h:a0K g S H ds vs) (k:Key):(valD ds k=none∧valV vs k=none)∨∃ d v,valD ds k=some d∧valV vs k=some v∧Rep g S H d v:=by
 have q:=a0T h
 clear h
 induction q with
 | nil=>exact .inl ⟨rfl,rfl⟩
 | @cons x y l l2 r _ ih =>
  obtain ⟨k1,d1⟩:=x
  obtain ⟨k2,v2⟩:=y
  obtain ⟨e,r⟩:=r
  cases e
  by_cases z:k1=k
  ·refine .inr ⟨d1,v2,?_,valV_pos z,r⟩
   simp [valD,List.find?_cons,z]
  ·have e1:valD ((k1,d1) :: l) k=valD l k:=by simp [valD,List.find?_cons,z]
   rw [e1,valV_neg z]
   exact ih
theorem a6w {ds:List (Key × D)} {vs:List (Key × V)} (h:a0K g S H ds vs) (k:Key):(valV vs k).isSome=(valD ds k).isSome:=by
 rcases a1z h k with ⟨a,b⟩ | ⟨d,v,a,b,_⟩ <;> rw [a,b] <;> rfl
theorem a7b {ds:List (Key × D)} {vs:List (Key × V)} (h:a0K g S H ds vs) (k:Key) {d:D} {v:V} (r:Rep g S H d v):a0K g S H (putD ds k d) (putK vs k v):=by
 have q:=a0T h
 refine b0s ?_
 have ea:(ds.any fun kv=>decide (kv.1=k))=(vs.any fun kv=>decide (kv.1=k)):=by
  clear h
  induction q with
  | nil=>rfl
  | cons r _ ih=>rw [List.any_cons,List.any_cons,ih,r.1]
 unfold putD putK
 rw [ea]
 split
 ·rename_i hz
  clear h ea hz
  induction q with
  | nil=>exact .nil
  | @cons x y l l2 r1 _ ih =>
   rw [zax,zax]
   refine .cons ?_ ih
   obtain ⟨k1,d1⟩:=x
   obtain ⟨k2,v2⟩:=y
   obtain ⟨e,r1⟩:=r1
   cases e
   dsimp only
   split <;> rename_i z
   ·exact ⟨rfl,r⟩
   ·exact ⟨rfl,r1⟩
 ·exact a6j q (.cons ⟨rfl,r⟩ .nil)
end
end Sv
namespace Sv
open PySem PySem.Spec PyProof.Rows L2
def a1G:D→Bool
 | .non=>true | .bl _=>true | .int _=>true | .str _=>true | _=>false
section
variable {X:Cx} {g:Gd} {S:SS} {H:Hp}
theorem a2y {d:D} {v:V} (h:a1G d=true) (r:Rep g S H d v):flatV v=true:=by
 cases d <;> simp only [Rep] at r <;> first | (subst r;rfl) | cases h
theorem a1H:∀ {ds:List D} {vs:List V},ds.all a1G=true→a0e g S H ds vs→vs.all flatV=true
 | [],_,_,r=>by simp only [a0e] at r;subst r;rfl
 | d :: ds,_,h,r=>by
  simp only [a0e] at r
  obtain ⟨v,q,rfl,a,b⟩:=r
  rw [List.all_cons,zak] at h
  rw [List.all_cons,a2y h.1 a,a1H h.2 b];rfl
theorem a3D {d e:D} {v u:V} (h:a1G d=true) (h2:a1G e=true) (r:Rep g S H d v) (r2:Rep g S H e u):eqV v u=D.eqv d e:=by
 cases d <;> (first | (cases h;done) | skip) <;> cases e <;> (first | (cases h2;done) | skip) <;> simp only [Rep] at r r2 <;> subst r r2 <;> simp [eqV,D.eqv,D.py,PyData.eqv]
theorem a6Y {x:D} {u:V} (h:a1G x=true) (rx:Rep g S H x u):∀ {ds:List D} {vs:List V},ds.all a1G=true→a0e g S H ds vs→inV u vs=ds.any fun z=>D.eqv z x
 | [],_,_,r=>by simp only [a0e] at r;subst r;rfl
 | d :: ds,_,hd,r=>by
  simp only [a0e] at r
  obtain ⟨v,q,rfl,a,b⟩:=r
  rw [List.all_cons,zak] at hd
  have ih:=a6Y h rx hd.2 b
  unfold inV at ih ⊢
  rw [List.any_cons,List.any_cons,ih,a3D hd.1 h a rx]
theorem a5T {d:D} {v:V} (r:Rep g S H d v):decide (v=.non)=isNon d:=by
 cases d with
 | non=>simp only [Rep] at r;subst r;rfl
 | bl _=>simp only [Rep] at r;subst r;rfl
 | int _=>simp only [Rep] at r;subst r;rfl
 | str _=>simp only [Rep] at r;subst r;rfl
 | obj _=>simp only [Rep] at r;subst r;rfl
 | lst _=>simp only [Rep] at r;obtain ⟨_,_,rfl,_⟩:=r;rfl
 | tup _=>simp only [Rep] at r;obtain ⟨_,_,rfl,_⟩:=r;rfl
 | dic _=>simp only [Rep] at r;obtain ⟨_,_,rfl,_⟩:=r;rfl
 | exc _ _ _ _=>simp only [Rep] at r;obtain ⟨_,rfl,_⟩:=r;rfl
 | err _ _ _ _=>simp only [Rep] at r;obtain ⟨_,rfl,_⟩:=r;rfl
theorem a01 {d:D} {k:Key} {v:V} (e:keyD d=some k) (r:Rep g S H d v):v=kV k:=by
 cases d <;> first | (cases e;done) | skip
 ·simp only [Rep] at r;cases e;exact r
 ·simp only [Rep] at r;cases e;exact r
theorem a7o {d:D} {ds:List D} (e:vw S d=.tup ds):d=.tup ds:=by
 cases d with
 | tup _=>exact e
 | obj a =>
  have e':(match S a with | some (.lst ds)=>D.lst ds | some (.dic k)=>.dic k | some (.loc k)=>.dic k | _=>.obj a)=.tup ds:=e
  cases q:S a with
  | none=>rw [q] at e';cases e'
  | some c=>rw [q] at e';cases c <;> cases e'
 | _=>cases e
end
def a6A (neg:Bool) (x y:D) (S:SS) (Q:DK):Prop:=match vw S y with
 | .lst ds=>D.okd 60 (vw S x)=true∧D.okds 59 ds=true∧Q (.bl (neg ^^ ds.any fun z=>D.eqv z (vw S x))) S
 | .tup ds=>(a1G x=true∧ds.all a1G=true∧Q (.bl (neg ^^ ds.any fun z=>D.eqv z x)) S)∨(D.okd 60 (vw S x)=true∧D.okds 59 ds=true∧Q (.bl (neg ^^ ds.any fun z=>D.eqv z (vw S x))) S)
 | .str b=>match x with
  | .str a=>∃ c,a=⟨#[c]⟩∧Q (.bl (neg ^^ decide (c∈b.cps.toList))) S
  | _=>False
 | .dic kvs=>∃ k,keyD x=some k∧Q (.bl (neg ^^ (valD kvs k).isSome)) S
 | _=>False
def c4S (x y:D) (S:SS) (Q:DK):Prop:=∃ ns ms:List Int,x=.tup (ns.map D.int)∧y=.tup (ms.map D.int)∧Q (.bl (HT.lexLt ns ms)) S
def a0D:CmpOp→D→D→SS→DK→Prop
 | .In=>a6A false | .NotIn=>a6A true | .Lt=>fun x y S Q=>c32 .Lt x y S Q∨c4S x y S Q | o=>c32 o
section
variable {X:Cx} {g:Gd}
theorem a7w {op:CmpOp} {f:Int→Int→Bool} {h:List Nat→List Nat→Bool} (hi:OpR X (compareOp op) (rI0 fun i j=>.bl (f i j)))
  (hs:OpR X (compareOp op) (fun x y H Q=>∃ i j,x=.str i∧y=.str j∧Q (.bl (h i.cps.toList j.cps.toList)) H)):OpR X (compareOp op) (rD2 g (cLt f h)):=by
 intro pins s σ H v1 v2 u1 u2 Q I r1 r2 hh
 obtain ⟨x,y,S,K,hc,p1,p2,ht,res⟩:=hh
 unfold cLt at ht
 split at ht
 ·cases a0g p1
  cases a0g p2
  exact hi pins s σ H _ _ _ _ Q I r1 r2 ⟨_,_,rfl,rfl,res.bl ht hc⟩
 ·cases a0u p1
  cases a0u p2
  exact hs pins s σ H _ _ _ _ Q I r1 r2 ⟨_,_,rfl,rfl,res.bl ht hc⟩
 ·exact ht.elim
theorem a3X {S:SS} {H:Hp}:∀ (ns:List Int) {vs:List V},a0e g S H (ns.map D.int) vs→vs=ns.map V.int
 | [],_,r=>by simp only [List.map_nil,a0e] at r;exact r
 | n :: ns,_,r=>by
  simp only [zax,a0e] at r
  obtain ⟨v,q,rfl,one,more⟩:=r
  rw [a0g one,a3X ns more,zax]
theorem a7J {X:Cx} {A:Around} {s:Shared} {ks:List (Key × V)} {va vb:List (Key × Value)} (ra:KV ks va) (rb:KV [] vb) (e:va.length=vb.length):PySem.W.KeqHits A s vb va true:=by
 cases rb
 cases ra with
 | nil=>exact .nil
 | cons _ _=>cases e
theorem b89 {S:SS} {b:Addr} {l:List (Key × D)} (h:S b=some (.dic l)):vw S (.obj b)=.dic l:=by simp only [vw,h]
theorem b0v {X:Cx} (hu:X.A.units < cLine):OpR X (compareOp .Eq) (fun x y H Q=>∃ a b ks,x=.ref a∧y=.ref b∧Rd H a (.dK ks)∧Rd H b (.dK [])∧Q (.bl (ks:List (Key × V)).isEmpty) H):=by
 intro pins s σ H x y v u Q I rx ry h
 obtain ⟨a,b,ks,rfl,rfl,ea,eb,q⟩:=h
 obtain rfl:v=Value.ref a:=rx
 obtain rfl:u=Value.ref b:=ry
 obtain ⟨_,ya,va,ra,da⟩:=dk_rd I.hok ea
 obtain ⟨_,yb,vb,rb,db⟩:=dk_rd I.hok eb
 have e1:ks.length=va.length:=ra.length
 have e2:0=vb.length:=rb.length
 exact PySem.W.keq_eq (knd:=mixKind X.prog X.w) (r:=true) ya yb da db hu (fun e=>a7J (X:=X) ra rb e) (fin_bl I q (by rw [← e1,← e2];cases ks <;> simp))
theorem b0x {X:Cx} (hu:X.A.units < cLine):OpR X (compareOp .NotEq) (fun x y H Q=>∃ a b ks,x=.ref a∧y=.ref b∧Rd H a (.dK ks)∧Rd H b (.dK [])∧Q (.bl (!(ks:List (Key × V)).isEmpty)) H):=by
 intro pins s σ H x y v u Q I rx ry h
 obtain ⟨a,b,ks,rfl,rfl,ea,eb,q⟩:=h
 obtain rfl:v=Value.ref a:=rx
 obtain rfl:u=Value.ref b:=ry
 obtain ⟨_,ya,va,ra,da⟩:=dk_rd I.hok ea
 obtain ⟨_,yb,vb,rb,db⟩:=dk_rd I.hok eb
 have e1:ks.length=va.length:=ra.length
 have e2:0=vb.length:=rb.length
 exact PySem.W.keq_ne (knd:=mixKind X.prog X.w) (r:=true) ya yb da db hu (fun e=>a7J (X:=X) ra rb e) (fin_bl I q (by rw [← e1,← e2];cases ks <;> simp))
theorem b0u {X:Cx} (hu:X.A.units < cLine):OpR X (compareOp .Eq) (fun x y H Q=>∃ a b xs ys,x=.ref a∧y=.ref b∧SqL X.K H a xs∧SqL X.K H b ys∧xs.length≠ys.length∧Q (.bl false) H):=by
 intro pins s σ H x y v u Q I rx ry h
 obtain ⟨a,b,xs,ys,rfl,rfl,ea,eb,ne,q⟩:=h
 obtain rfl:v=Value.ref a:=rx
 obtain rfl:u=Value.ref b:=ry
 obtain ⟨va,ra,pa,_⟩:=I.list ea
 obtain ⟨vb,rb,pb,_⟩:=I.list eb
 have la:=ra.length
 have lb:=rb.length
 exact SeqAt.RcAt.lists_lengths pa.isList pb.isList (by rw [List.size_toArray,List.size_toArray];exact bne_iff_ne.mpr (by omega)) hu X.prog X.w _ _ (fin_bl I q rfl)
theorem b0w {X:Cx} (hu:X.A.units < cLine):OpR X (compareOp .NotEq) (fun x y H Q=>∃ a b xs ys,x=.ref a∧y=.ref b∧SqL X.K H a xs∧SqL X.K H b ys∧xs.length≠ys.length∧Q (.bl true) H):=by
 intro pins s σ H x y v u Q I rx ry h
 obtain ⟨a,b,xs,ys,rfl,rfl,ea,eb,ne,q⟩:=h
 obtain rfl:v=Value.ref a:=rx
 obtain rfl:u=Value.ref b:=ry
 obtain ⟨va,ra,pa,_⟩:=I.list ea
 obtain ⟨vb,rb,pb,_⟩:=I.list eb
 have la:=ra.length
 have lb:=rb.length
 exact SeqAt.RcNeAt.lists_lengths pa.isList pb.isList (by rw [List.size_toArray,List.size_toArray];exact bne_iff_ne.mpr (by omega)) hu X.prog X.w _ _ (fin_bl I q rfl)
theorem b7R (hu:X.A.units + 65 < cLine):OpR X (compareOp .In) (fun x y H Q=>∃ d ds,Dp X.K H x d∧Dp X.K H y (.tuple ds)∧SeqAt.shaped d=true∧SeqAt.shaped (.tuple ds)=true∧Q (.bl ((ds.any fun z=>PyData.eqv z d))) H):=by
 intro pins s σ H x y v u Q I rx ry h
 obtain ⟨d,ds,hd,he,sd,se,q⟩:=h
 obtain ⟨as,r1⟩:=Dp.reads I d x v hd rx
 obtain ⟨bs,r2⟩:=Dp.reads I (.tuple ds) y u he ry
 exact SeqAt.in_tuple_reads r2 r1 (SeqAt.canLay_of_shaped se) (SeqAt.canLay_of_shaped sd) (room_in_shaped sd hu) ⟨.bl _,H,I,rfl,q⟩
theorem b0y (hu:X.A.units + 65 < cLine):OpR X (compareOp .NotIn) (fun x y H Q=>∃ d ds,Dp X.K H x d∧Dp X.K H y (.tuple ds)∧SeqAt.shaped d=true∧SeqAt.shaped (.tuple ds)=true∧Q (.bl (!(ds.any fun z=>PyData.eqv z d))) H):=by
 intro pins s σ H x y v u Q I rx ry h
 obtain ⟨d,ds,hd,he,sd,se,q⟩:=h
 obtain ⟨as,r1⟩:=Dp.reads I d x v hd rx
 obtain ⟨bs,r2⟩:=Dp.reads I (.tuple ds) y u he ry
 exact SeqAt.notIn_tuple_reads r2 r1 (SeqAt.canLay_of_shaped se) (SeqAt.canLay_of_shaped sd) (room_in_shaped sd hu) ⟨.bl _,H,I,rfl,q⟩
theorem a2Q (hK:g.K=X.K) (hu:X.A.units + 65 < cLine):∀ op:CmpOp,OpR X (compareOp op) (rD2 g (a0D op)):=by
 intro op
 cases op with
 | Eq =>
  intro pins s σ H v1 v2 u1 u2 Q I r1 r2 ⟨x,y,S,K,hc,p1,p2,ht,res⟩
  rcases ht with ⟨o1,o2,k⟩ | ⟨a,b,rfl,rfl,k⟩ | ⟨o1,o2,k⟩ | ⟨p,kvs,rfl,hp,rfl,k⟩ | ⟨ds,es,e1,e2,ne,k⟩
  case inr.inr.inr.inr =>
   obtain ⟨p',vs,rfl,hl,hr⟩:=a0j hc p1 e1
   obtain ⟨b',ws,rfl,hl2,hr2⟩:=a0j hc p2 e2
   rw [hK] at hl hl2
   exact b0u (by omega) pins s σ H _ _ _ _ Q I r1 r2 ⟨p',b',vs,ws,rfl,rfl,hl,hl2,by rw [← hr.length,← hr2.length];exact ne,res.bl k hc⟩
  case inr.inr.inr.inl =>
   obtain ⟨p',vs,rfl,hl,hr⟩:=a1s hc p1 (b89 hp)
   obtain ⟨b',ws,rfl,hl2,hr2⟩:=a1s hc p2 rfl
   have ew:ws=[]:=by simpa only [a0K] using hr2
   subst ew
   have es:vs.isEmpty=kvs.isEmpty:=by cases a0T hr <;> rfl
   rw [Bool.false_xor,← es] at k
   exact b0v (by omega) pins s σ H _ _ _ _ Q I r1 r2 ⟨p',b',vs,rfl,rfl,hl,hl2,res.bl k hc⟩
  case inr.inr.inl =>
   rw [Bool.false_xor] at k
   exact op_eqD (by omega) pins s σ H _ _ _ _ Q I r1 r2 ⟨_,_,hK ▸ a8t hc 60 60 o1 p1,hK ▸ a8t hc 60 60 o2 p2,a0m o1,a0m o2,res.bl k hc⟩
  case inr.inl =>
   cases a0u p1
   cases a0u p2
   rw [Bool.false_xor] at k
   exact op_eq pins s σ H _ _ _ _ Q I r1 r2 ⟨rfl,by rw [show decide (V.str a=V.str b)=decide (a=b) from decide_eq_decide.mpr ⟨fun h=>by cases h;rfl,fun h=>by rw [h]⟩];exact res.bl k hc⟩
  rw [Bool.false_xor] at k
  exact op_eqD (by omega) pins s σ H _ _ _ _ Q I r1 r2 ⟨_,_,hK ▸ a2R hc p1 rfl o1,hK ▸ a2R hc p2 rfl o2,a0m o1,a0m o2,res.bl k hc⟩
 | NotEq =>
  intro pins s σ H v1 v2 u1 u2 Q I r1 r2 ⟨x,y,S,K,hc,p1,p2,ht,res⟩
  rcases ht with ⟨o1,o2,k⟩ | ⟨a,b,rfl,rfl,k⟩ | ⟨o1,o2,k⟩ | ⟨p,kvs,rfl,hp,rfl,k⟩ | ⟨ds,es,e1,e2,ne,k⟩
  case inr.inr.inr.inr =>
   obtain ⟨p',vs,rfl,hl,hr⟩:=a0j hc p1 e1
   obtain ⟨b',ws,rfl,hl2,hr2⟩:=a0j hc p2 e2
   rw [hK] at hl hl2
   exact b0w (by omega) pins s σ H _ _ _ _ Q I r1 r2 ⟨p',b',vs,ws,rfl,rfl,hl,hl2,by rw [← hr.length,← hr2.length];exact ne,res.bl k hc⟩
  case inr.inr.inr.inl =>
   obtain ⟨p',vs,rfl,hl,hr⟩:=a1s hc p1 (b89 hp)
   obtain ⟨b',ws,rfl,hl2,hr2⟩:=a1s hc p2 rfl
   have ew:ws=[]:=by simpa only [a0K] using hr2
   subst ew
   have es:vs.isEmpty=kvs.isEmpty:=by cases a0T hr <;> rfl
   rw [Bool.true_xor,← es] at k
   exact b0x (by omega) pins s σ H _ _ _ _ Q I r1 r2 ⟨p',b',vs,rfl,rfl,hl,hl2,res.bl k hc⟩
  case inr.inr.inl =>
   rw [Bool.true_xor] at k
   exact op_neD (by omega) pins s σ H _ _ _ _ Q I r1 r2 ⟨_,_,hK ▸ a8t hc 60 60 o1 p1,hK ▸ a8t hc 60 60 o2 p2,a0m o1,a0m o2,res.bl k hc⟩
  case inr.inl =>
   cases a0u p1
   cases a0u p2
   rw [Bool.true_xor] at k
   exact op_ne pins s σ H _ _ _ _ Q I r1 r2 ⟨rfl,by rw [show decide (V.str a=V.str b)=decide (a=b) from decide_eq_decide.mpr ⟨fun h=>by cases h;rfl,fun h=>by rw [h]⟩];exact res.bl k hc⟩
  rw [Bool.true_xor] at k
  exact op_neD (by omega) pins s σ H _ _ _ _ Q I r1 r2 ⟨_,_,hK ▸ a2R hc p1 rfl o1,hK ▸ a2R hc p2 rfl o2,a0m o1,a0m o2,res.bl k hc⟩
 | Lt =>
  intro pins s σ H v1 v2 u1 u2 Q I r1 r2 ⟨x,y,S,K,hc,p1,p2,ht,res⟩
  rcases ht with ht | ⟨ns,ms,rfl,rfl,k⟩
  ·exact a7w (f:=fun i j=>decide (i < j)) (h:=fun a b=>decide (a < b)) op_lt op_lt_str pins s σ H v1 v2 u1 u2 Q I r1 r2 ⟨x,y,S,K,hc,p1,p2,ht,res⟩
  ·obtain ⟨a,vs,rfl,hl,hr⟩:=a0B p1 rfl
   obtain ⟨b,ws,rfl,hl2,hr2⟩:=a0B p2 rfl
   have e1:=a3X ns hr
   have e2:=a3X ms hr2
   subst e1 e2
   exact op_ltT (by omega) pins s σ H _ _ _ _ Q I r1 r2 ⟨a,b,ns,ms,rfl,rfl,hK ▸ hl,hK ▸ hl2,res.bl k hc⟩
 | LtE=>exact a7w (f:=fun i j=>decide (i≤j)) (h:=fun a b=>!decide (b < a)) op_le op_le_str
 | Gt=>exact a7w (f:=fun i j=>decide (j < i)) (h:=fun a b=>decide (b < a)) op_gt op_gt_str
 | GtE=>exact a7w (f:=fun i j=>decide (j≤i)) (h:=fun a b=>!decide (a < b)) op_ge op_ge_str
 | Is =>
  intro pins s σ H v1 v2 u1 u2 Q I r1 r2 ⟨x,y,S,K,hc,p1,p2,ht,res⟩
  change cIs false x y S K at ht
  unfold cIs at ht
  split at ht
  ·cases a5r p2
   rw [Bool.false_xor] at ht
   exact op_isN pins s σ H _ _ _ _ Q I r1 r2 ⟨rfl,by rw [a5T p1];exact res.bl ht hc⟩
  ·obtain ⟨a,rfl,ht⟩:=ht
   cases a2x p1
   cases a2x p2
   rw [Bool.false_xor] at ht
   exact op_isBl pins s σ H _ _ _ _ Q I r1 r2 ⟨_,_,rfl,rfl,res.bl ht hc⟩
  ·exact ht.elim
 | IsNot =>
  intro pins s σ H v1 v2 u1 u2 Q I r1 r2 ⟨x,y,S,K,hc,p1,p2,ht,res⟩
  change cIs true x y S K at ht
  unfold cIs at ht
  split at ht
  ·cases a5r p2
   rw [Bool.true_xor] at ht
   exact op_notN pins s σ H _ _ _ _ Q I r1 r2 ⟨rfl,by rw [a5T p1];exact res.bl ht hc⟩
  ·obtain ⟨a,rfl,ht⟩:=ht
   cases a2x p1
   cases a2x p2
   rw [Bool.true_xor] at ht
   exact op_notBl pins s σ H _ _ _ _ Q I r1 r2 ⟨_,_,rfl,rfl,res.bl ht hc⟩
  ·exact ht.elim
 | In =>
  intro pins s σ H v1 v2 u1 u2 Q I r1 r2 ⟨x,y,S,K,hc,p1,p2,ht,res⟩
  change a6A false x y S K at ht
  unfold a6A at ht
  split at ht
  ·rename_i ds e
   obtain ⟨o1,o2,k⟩:=ht
   rw [Bool.false_xor] at k
   have o3:D.okd 60 (.lst ds)=true:=by simp only [D.okd,zak];exact ⟨rfl,o2⟩
   have w:((D.pys ds).any fun z=>PyData.eqv z (vw S x).py)=ds.any fun z=>D.eqv z (vw S x):=by
    clear e o2 k o3
    induction ds with
    | nil=>rfl
    | cons a l ih=>rw [D.pys,List.any_cons,List.any_cons,ih];rfl
   exact op_inD hu pins s σ H _ _ _ _ Q I r1 r2 ⟨(vw S x).py,D.pys ds,hK ▸ a2R hc p1 rfl o1,hK ▸ a2R hc p2 e o3,a0m o1,a0m o3,by rw [w];exact res.bl k hc⟩
  ·rename_i ds e
   rcases ht with ⟨f1,f2,k⟩ | ⟨o1,o2,k⟩
   case inr =>
    rw [Bool.false_xor] at k
    have o3:D.okd 60 (.tup ds)=true:=by simp only [D.okd,zak];exact ⟨rfl,o2⟩
    have w:((D.pys ds).any fun z=>PyData.eqv z (vw S x).py)=ds.any fun z=>D.eqv z (vw S x):=by
     clear e o2 k o3
     induction ds with
     | nil=>rfl
     | cons a l ih=>rw [D.pys,List.any_cons,List.any_cons,ih];rfl
    exact b7R hu pins s σ H _ _ _ _ Q I r1 r2 ⟨(vw S x).py,D.pys ds,hK ▸ a2R hc p1 rfl o1,hK ▸ a2R hc p2 e o3,a0m o1,a0m o3,by rw [w];exact res.bl k hc⟩
   obtain ⟨p,vs,rfl,hl,hr⟩:=a0B p2 e
   rw [hK] at hl
   rw [Bool.false_xor] at k
   exact op_in_seq pins s σ H _ _ _ _ Q I r1 r2 ⟨p,vs,rfl,.inr hl,a2y f1 p1,a1H f2 hr,by rw [a6Y f1 p1 f2 hr];exact res.bl k hc⟩
  ·rename_i b e
   cases a2I p2 e
   split at ht
   ·obtain ⟨c,rfl,k⟩:=ht
    cases a0u p1
    rw [Bool.false_xor] at k
    exact op_in_sign pins s σ H _ _ _ _ Q I r1 r2 ⟨c,b,rfl,rfl,res.bl k hc⟩
   ·exact ht.elim
  ·rename_i kvs e
   obtain ⟨k,ek,q⟩:=ht
   obtain ⟨p,vs,rfl,hl,hr⟩:=a1s hc p2 e
   cases a01 ek p1
   cases (show u2=Value.ref p from r2)
   rw [Bool.false_xor] at q
   exact d_in (by omega) I (.inl ⟨vs,k,hl,rfl,rfl⟩) r1 fun s' I'=>⟨.bl _,H,I',rfl,by rw [a6w hr];exact res.bl q hc⟩
  ·exact ht.elim
 | NotIn =>
  intro pins s σ H v1 v2 u1 u2 Q I r1 r2 ⟨x,y,S,K,hc,p1,p2,ht,res⟩
  change a6A true x y S K at ht
  unfold a6A at ht
  split at ht
  ·rename_i ds e
   obtain ⟨o1,o2,k⟩:=ht
   rw [Bool.true_xor] at k
   have o3:D.okd 60 (.lst ds)=true:=by simp only [D.okd,zak];exact ⟨rfl,o2⟩
   have w:((D.pys ds).any fun z=>PyData.eqv z (vw S x).py)=ds.any fun z=>D.eqv z (vw S x):=by
    clear e o2 k o3
    induction ds with
    | nil=>rfl
    | cons a l ih=>rw [D.pys,List.any_cons,List.any_cons,ih];rfl
   exact op_notInD hu pins s σ H _ _ _ _ Q I r1 r2 ⟨(vw S x).py,D.pys ds,hK ▸ a2R hc p1 rfl o1,hK ▸ a2R hc p2 e o3,a0m o1,a0m o3,by rw [w];exact res.bl k hc⟩
  ·rename_i ds e
   rcases ht with ⟨f1,f2,k⟩ | ⟨o1,o2,k⟩
   case inr =>
    rw [Bool.true_xor] at k
    have o3:D.okd 60 (.tup ds)=true:=by simp only [D.okd,zak];exact ⟨rfl,o2⟩
    have w:((D.pys ds).any fun z=>PyData.eqv z (vw S x).py)=ds.any fun z=>D.eqv z (vw S x):=by
     clear e o2 k o3
     induction ds with
     | nil=>rfl
     | cons a l ih=>rw [D.pys,List.any_cons,List.any_cons,ih];rfl
    exact b0y hu pins s σ H _ _ _ _ Q I r1 r2 ⟨(vw S x).py,D.pys ds,hK ▸ a2R hc p1 rfl o1,hK ▸ a2R hc p2 e o3,a0m o1,a0m o3,by rw [w];exact res.bl k hc⟩
   obtain ⟨p,vs,rfl,hl,hr⟩:=a0B p2 e
   rw [hK] at hl
   rw [Bool.true_xor] at k
   exact op_notIn_seq pins s σ H _ _ _ _ Q I r1 r2 ⟨p,vs,rfl,.inr hl,a2y f1 p1,a1H f2 hr,by rw [a6Y f1 p1 f2 hr];exact res.bl k hc⟩
  ·rename_i b e
   cases a2I p2 e
   split at ht
   ·obtain ⟨c,rfl,k⟩:=ht
    cases a0u p1
    rw [Bool.true_xor] at k
    exact op_notIn_sign pins s σ H _ _ _ _ Q I r1 r2 ⟨c,b,rfl,rfl,res.bl k hc⟩
   ·exact ht.elim
  ·rename_i kvs e
   obtain ⟨k,ek,q⟩:=ht
   obtain ⟨p,vs,rfl,hl,hr⟩:=a1s hc p2 e
   cases a01 ek p1
   cases (show u2=Value.ref p from r2)
   rw [Bool.true_xor] at q
   exact d_notIn (by omega) I (.inl ⟨vs,k,hl,rfl,rfl⟩) r1 fun s' I'=>⟨.bl _,H,I',rfl,by rw [a6w hr];exact res.bl q hc⟩
  ·exact ht.elim
end
def ixD (x y:D) (S:SS) (Q:DK):Prop:=match vw S x with
 | .lst ds=>match y with
  | .int i=>∃ d,atI ds i=some d∧Q d S
  | _=>False
 | .tup ds=>match y with
  | .int i=>∃ d,atI ds i=some d∧Q d S
  | _=>False
 | .str z=>match y with
  | .int i=>∃ c,z.length≤sizeLine∧atI z.cps.toList i=some c∧Q (.str ⟨#[c]⟩) S
  | _=>False
 | .dic kvs=>∃ k d,keyD y=some k∧valD kvs k=some d∧Q d S
 | _=>False
section
variable {X:Cx} {g:Gd}
theorem b4t (hu:X.A.units + 1 < cLine):IxR X (fun x y H Q=>∃ a v,x=.ref a∧DGet H a y (some v)∧Q v H):=by
 intro value slice pins s σ H x y v u Q I rx ry h hs
 obtain ⟨a,w,rfl,g,q⟩:=h
 cases (show v=Value.ref a from rx)
 exact tail_any (dict_typeIs I g) PySem.F.slot_dict_getitem.lookup (d_getItem hu I g ry fun w' s3 I3 rw'=>⟨w,H,I3,rw',q⟩) hs
theorem b7u (hK:g.K=X.K) (hu:X.A.units + 65 < cLine):IxR X (rD2 g ixD):=by
 intro value slice pins s σ H v1 v2 u1 u2 Q I r1 r2 h hs
 obtain ⟨x,y,S,K,hc,p1,p2,ht,res⟩:=h
 unfold ixD at ht
 split at ht
 ·rename_i ds e
  obtain ⟨p,vs,rfl,hl,hr⟩:=a0j hc p1 e
  rw [hK] at hl
  split at ht
  ·obtain ⟨d,ed,k⟩:=ht
   obtain ⟨w,ew,rw'⟩:=hr.at ed
   cases a0g p2
   exact ix_list value slice pins s σ H _ _ _ _ Q I r1 r2 ⟨p,vs,_,w,rfl,rfl,hl,ew,res.val k hc rw'⟩ hs
  ·exact ht.elim
 ·rename_i ds e
  obtain ⟨p,vs,rfl,hl,hr⟩:=a0B p1 e
  rw [hK] at hl
  split at ht
  ·obtain ⟨d,ed,k⟩:=ht
   obtain ⟨w,ew,rw'⟩:=hr.at ed
   cases a0g p2
   exact ix_tup value slice pins s σ H _ _ _ _ Q I r1 r2 ⟨p,vs,_,w,rfl,rfl,hl,ew,res.val k hc rw'⟩ hs
  ·exact ht.elim
 ·rename_i z e
  cases a2I p1 e
  split at ht
  ·obtain ⟨c,hz,ec,k⟩:=ht
   cases a0g p2
   exact ix_str value slice pins s σ H _ _ _ _ Q I r1 r2 ⟨z,_,c,rfl,rfl,hz,ec,res.str k hc⟩ hs
  ·exact ht.elim
 ·rename_i kvs e
  obtain ⟨k,d,ek,ed,q⟩:=ht
  obtain ⟨p,vs,rfl,hl,hr⟩:=a1s hc p1 e
  cases a01 ek p2
  rcases a1z hr k with ⟨z,_⟩ | ⟨d2,w,z1,z2,rw'⟩
  ·rw [ed] at z;cases z
  ·rw [ed] at z1
   cases z1
   exact b4t (by omega) value slice pins s σ H _ _ _ _ Q I r1 r2 ⟨p,w,rfl,.inl ⟨vs,k,hl,rfl,z2.symm⟩,res.val q hc rw'⟩ hs
 ·exact ht.elim
end
def cutD (xs:List D) (lo hi:Option Int):List D:=(xs.drop (HT.sIx xs.length 0 lo)).take (HT.sIx xs.length xs.length hi - HT.sIx xs.length 0 lo)
def slD (x:D) (lo hi:Option Int) (S:SS) (Q:DK):Prop:=match vw S x with
 | .lst ds=>Q (.lst (cutD ds lo hi)) S
 | .tup ds=>Q (.tup (cutD ds lo hi)) S
 | .str z=>z.length≤sizeLine∧Q (.str (cutS z lo hi)) S
 | _=>False
def b5I (x:D) (lo hi:Option Int) (S:SS) (Q:DK):Prop:=match vw S x with
 | .lst ds=>∀ p,S p=none→Q (.obj p) (S.set p (.lst (cutD ds lo hi)))
 | _=>False
section
variable {X:Cx} {g:Gd}
def rDs (g:Gd) (t:D→Option Int→Option Int→SS→DK→Prop):V→Option Int→Option Int→Hp→VK→Prop:=fun v lo hi H Q=>∃ x S K,CellsOk g S H∧Rep g S H x v∧t x lo hi S K∧Res g S H K Q
theorem b5k (hK:g.K=X.K):SlR X (rDs g b5I):=by
 intro pins s σ H v1 u1 vl vu lo hi sl Q I r1 hs pl pu h
 obtain ⟨x,S,K,hc,p1,ht,res⟩:=h
 unfold b5I at ht
 split at ht
 ·rename_i ds e
  obtain ⟨p,vs,rfl,hl,hr⟩:=a0j hc p1 e
  rw [hK] at hl
  refine sl_list pins s σ H _ _ vl vu lo hi sl Q I r1 hs pl pu ⟨p,vs,rfl,hl,fun q hq=>res.lstC ht hc ?_ hq⟩
  unfold cutD cutV
  rw [hr.length]
  exact (hr.drop _).take _
 ·exact ht.elim
theorem b8n (hK:g.K=X.K):SlR X (rDs g slD):=by
 intro pins s σ H v1 u1 vl vu lo hi sl Q I r1 hs pl pu h
 obtain ⟨x,S,K,hc,p1,ht,res⟩:=h
 unfold slD at ht
 split at ht
 ·rename_i ds e
  obtain ⟨p,vs,rfl,hl,hr⟩:=a0j hc p1 e
  rw [hK] at hl
  refine sl_list pins s σ H _ _ vl vu lo hi sl Q I r1 hs pl pu ⟨p,vs,rfl,hl,fun q hq=>res.lst ht hc ?_ hq⟩
  unfold cutD cutV
  rw [hr.length]
  exact (hr.drop _).take _
 ·rename_i ds e
  cases a7o e
  obtain ⟨p,vs,rfl,hl,hr⟩:=a0B p1 e
  rw [hK] at hl
  refine sl_tupA pins s σ H _ _ vl vu lo hi sl Q I r1 hs pl pu ⟨p,vs,rfl,hl,fun whole=>?_,fun part q hq=>res.tup ht hc ?_ hq⟩
  ·refine res.val (d:=.tup (cutD ds lo hi)) ht hc ?_
   have all:cutD ds lo hi=ds:=by
    unfold cutD
    rw [hr.length,whole.1,whole.2,List.drop_zero,Nat.sub_zero,← hr.length,List.take_length]
   rw [all]
   exact p1
  ·unfold cutD cutV
   rw [hr.length]
   exact (hr.drop _).take _
 ·rename_i z e
  cases a2I p1 e
  exact sl_str pins s σ H _ _ vl vu lo hi sl Q I r1 hs pl pu ⟨z,rfl,ht.1,res.str ht.2 hc⟩
 ·exact ht.elim
end
def b7x (xs:List D) (S:SS) (Q:DK):Prop:=match xs with
 | [x]=>match vw S x with
  | .lst ds=>Q (.int ds.length) S
  | .tup ds=>Q (.int ds.length) S
  | .str z=>z.length≤sizeLine∧Q (.int z.length) S
  | .dic kvs=>Q (.int kvs.length) S
  | _=>False
 | _=>False
def c0k (xs:List D) (S:SS) (Q:DK):Prop:=match xs with
 | [.int i]=>Q (.int (if i < 0 then -i else i)) S
 | _=>False
def maxD (xs:List D) (S:SS) (Q:DK):Prop:=match xs with
 | [.int i,.int j]=>Q (.int (if j > i then j else i)) S
 | _=>False
def minD (xs:List D) (S:SS) (Q:DK):Prop:=match xs with
 | [.int i,.int j]=>Q (.int (if j < i then j else i)) S
 | _=>False
section
variable {X:Cx} {g:Gd} {S:SS} {H:Hp}
theorem a5s {d:D} {vs:List V} (r:a0e g S H [d] vs):∃ v,vs=[v]∧Rep g S H d v:=by
 simp only [a0e] at r
 obtain ⟨v,q,rfl,a,rfl⟩:=r
 exact ⟨v,rfl,a⟩
theorem a08 {d e:D} {vs:List V} (r:a0e g S H [d,e] vs):∃ v u,vs=[v,u]∧Rep g S H d v∧Rep g S H e u:=by
 simp only [a0e] at r
 obtain ⟨v,q,rfl,a,u,q2,rfl,b,rfl⟩:=r
 exact ⟨v,u,rfl,a,b⟩
theorem b7y (hK:g.K=X.K):CallR X (.builtin "len") (rDc g b7x):=by
 intro pins s σ H vs us Q I r h
 obtain ⟨xs,S,K,hc,p1,ht,res⟩:=h
 unfold b7x at ht
 split at ht
 ·rename_i x
  obtain ⟨v,rfl,p2⟩:=a5s p1
  split at ht
  ·rename_i ds e
   obtain ⟨p,ws,rfl,hl,hr⟩:=a0j hc p2 e
   rw [hK] at hl
   exact call_len_seq pins s σ H _ _ Q I r ⟨p,ws,rfl,.inl hl,by rw [← hr.length];exact res.int ht hc⟩
  ·rename_i ds e
   obtain ⟨p,ws,rfl,hl,hr⟩:=a0B p2 e
   rw [hK] at hl
   exact call_len_seq pins s σ H _ _ Q I r ⟨p,ws,rfl,.inr hl,by rw [← hr.length];exact res.int ht hc⟩
  ·rename_i z e
   cases a2I p2 e
   exact call_len_str pins s σ H _ _ Q I r ⟨z,rfl,ht.1,res.int ht.2 hc⟩
  ·rename_i kvs e
   obtain ⟨p,ws,rfl,hl,hr⟩:=a1s hc p2 e
   obtain ⟨u1,rfl,r1⟩:=Vals.one r
   cases (show u1=Value.ref p from r1)
   exact d_len I hl fun t s' I'=>⟨.int ws.length,H,I',⟨t,rfl⟩,by rw [← Paired.length (a0T hr)];exact res.int ht hc⟩
  ·exact ht.elim
 ·exact ht.elim
theorem b55:CallR X (.builtin "abs") (rDc g c0k):=by
 intro pins s σ H vs us Q I r h
 obtain ⟨xs,S,K,hc,p1,ht,res⟩:=h
 unfold c0k at ht
 split at ht
 ·obtain ⟨v,rfl,p2⟩:=a5s p1
  cases a0g p2
  exact call_abs pins s σ H _ _ Q I r ⟨_,rfl,res.int ht hc⟩
 ·exact ht.elim
theorem b7D (hc:X.calm=true):CallR X (.builtin "max") (rDc g maxD):=by
 intro pins s σ H vs us Q I r h
 obtain ⟨xs,S,K,hce,p1,ht,res⟩:=h
 unfold maxD at ht
 split at ht
 ·obtain ⟨v,u,rfl,p3,p4⟩:=a08 p1
  cases a0g p3
  cases a0g p4
  exact call_max2 hc pins s σ H _ _ Q I r ⟨_,_,rfl,res.int ht hce⟩
 ·exact ht.elim
theorem b7E (hc:X.calm=true):CallR X (.builtin "min") (rDc g minD):=by
 intro pins s σ H vs us Q I r h
 obtain ⟨xs,S,K,hce,p1,ht,res⟩:=h
 unfold minD at ht
 split at ht
 ·obtain ⟨v,u,rfl,p3,p4⟩:=a08 p1
  cases a0g p3
  cases a0g p4
  exact call_min2 hc pins s σ H _ _ Q I r ⟨_,_,rfl,res.int ht hce⟩
 ·exact ht.elim
def a1n (x:D) (S:SS) (Q:Bool→Prop):Prop:=match vw S x with
 | .non=>Q false
 | .bl b=>Q b
 | .int i=>Q (i != 0)
 | .str z=>z.length≤sizeLine∧Q ((z.length:Int) != 0)
 | .lst ds=>Q (!ds.isEmpty)
 | .tup ds=>Q (!ds.isEmpty)
 | _=>False
theorem a1k {ds:List D} {vs:List V} (r:a0e g S H ds vs):vs.isEmpty=ds.isEmpty:=by
 cases a3g r <;> rfl
theorem a7j (hK:g.K=X.K) {x:D} {v:V} {Q:Bool→Prop} (hc:CellsOk g S H) (r:Rep g S H x v) (h:a1n x S Q):∃ k,TruV X.K v H k∧Q k:=by
 unfold a1n at h
 split at h
 ·rename_i e;cases b3C r e;exact ⟨false,rfl,h⟩
 ·rename_i b e;cases b88 r e;exact ⟨b,rfl,h⟩
 ·rename_i b e;cases a8k r e;exact ⟨_,rfl,h⟩
 ·rename_i b e;cases a2I r e;exact ⟨_,⟨h.1,rfl⟩,h.2⟩
 ·rename_i ds e
  obtain ⟨p,vs,rfl,hl,hr⟩:=a0j hc r e
  rw [hK] at hl
  exact ⟨_,.inl ⟨vs,hl,rfl⟩,by rw [a1k hr];exact h⟩
 ·rename_i ds e
  obtain ⟨p,vs,rfl,hl,hr⟩:=a0B r e
  rw [hK] at hl
  exact ⟨_,.inr (.inl ⟨vs,hl,rfl⟩),by rw [a1k hr];exact h⟩
 ·exact h.elim
end
end Sv
namespace Sv
open PySem PySem.Spec PyProof.Rows L2
mutual
def pdD:D→Option PyData
 | .non=>some .none
 | .bl b=>some (.bool b)
 | .int i=>some (.int i)
 | .str x=>some (.str x)
 | .lst ds=>(b1i ds).map .list
 | .tup ds=>(b1i ds).map .tuple
 | .dic _ | .obj _ | .exc _ _ _ _ | .err _ _ _ _=>none
def b1i:List D→Option (List PyData)
 | []=>some []
 | d :: ds=>match pdD d,b1i ds with
  | some p,some ps=>some (p :: ps)
  | _,_=>none
end
section
variable {X:Cx} {g:Gd} {S:SS} {pins:List (Addr × Obj)} {σ:L2.St} {H:Hp} {s:Shared}
mutual
theorem a8a (hK:g.K=X.K) (I:Inv X pins σ H s):∀ (d:D) {v:V} {u:Value} {p:PyData},Rep g S H d v→RelV v u→pdD d=some p→∃ as,Reads s.heap u p as
 | .non,_,_,_,r,q,e=>by
  simp only [Rep] at r;subst r;cases e;cases (show _=Value.none from q);exact ⟨_,.none⟩
 | .bl b,_,_,_,r,q,e=>by
  simp only [Rep] at r;subst r;cases e;cases (show _=Value.bool b from q);exact ⟨_,.bool b⟩
 | .int i,_,_,_,r,q,e=>by
  simp only [Rep] at r;subst r;cases e
  obtain ⟨t,rfl⟩:=(show ∃ t,_=Value.int i t from q)
  exact ⟨_,.int i t⟩
 | .str x,_,_,_,r,q,e=>by
  simp only [Rep] at r;subst r;cases e
  obtain ⟨t,rfl⟩:=(show ∃ t,_=Value.str x t from q)
  exact ⟨_,.str x t⟩
 | .lst ds,_,_,_,r,q,e=>by
  simp only [Rep] at r
  obtain ⟨a,vs,rfl,at_a,rs⟩:=r
  have seq:=at_a.sq
  rw [hK] at seq
  obtain ⟨its,rel,⟨o,n,here,cls,_,data⟩,_⟩:=I.list seq
  cases (show _=Value.ref a from q)
  simp only [pdD,zam] at e
  obtain ⟨ps,all,rfl⟩:=e
  have ⟨as,each⟩:=a1y hK I ds rs rel all
  exact ⟨_,.list here cls data (by simpa using each)⟩
 | .tup ds,_,_,_,r,q,e=>by
  simp only [Rep] at r
  obtain ⟨a,vs,rfl,at_a,rs⟩:=r
  have seq:=at_a.sq
  rw [hK] at seq
  obtain ⟨its,rel,⟨o,here,cls,n,data⟩,_⟩:=I.tuple seq
  cases (show _=Value.ref a from q)
  simp only [pdD,zam] at e
  obtain ⟨ps,all,rfl⟩:=e
  have ⟨as,each⟩:=a1y hK I ds rs rel all
  exact ⟨_,.tuple here cls data (by simpa using each)⟩
 | .dic _,_,_,_,_,_,e=>nomatch e
 | .obj _,_,_,_,_,_,e=>nomatch e
 | .exc _ _ _ _,_,_,_,_,_,e=>nomatch e
 | .err _ _ _ _,_,_,_,_,_,e=>nomatch e
theorem a1y (hK:g.K=X.K) (I:Inv X pins σ H s):∀ (ds:List D) {vs:List V} {us:List Value} {ps:List PyData},a0e g S H ds vs→Vals vs us→b1i ds=some ps→∃ as,ReadsAll s.heap us ps as
 | [],_,_,_,r,q,e=>by
  simp only [a0e] at r;subst r;cases q;cases e;exact ⟨_,.nil⟩
 | d :: ds,_,_,_,r,q,e=>by
  simp only [a0e] at r
  obtain ⟨v,vs,rfl,r1,r2⟩:=r
  cases q with
  | cons q1 q2 =>
   simp only [b1i] at e
   split at e
   ·rename_i p ps e1 e2
    cases e
    have ⟨_,x⟩:=a8a hK I d r1 q1 e1
    have ⟨_,y⟩:=a1y hK I ds r2 q2 e2
    exact ⟨_,.cons x y⟩
   ·cases e
end
end
def a8T:Key→PyData
 | .inl i=>.int i
 | .inr x=>.str x
mutual
def pdE:D→Option PyData
 | .non=>some .none
 | .bl b=>some (.bool b)
 | .int i=>some (.int i)
 | .str x=>some (.str x)
 | .lst ds=>(b44 ds).map .list
 | .tup ds=>(b44 ds).map .tuple
 | .dic kvs=>(b9j kvs).map .dict
 | .obj _ | .exc _ _ _ _ | .err _ _ _ _=>none
def b9j:List (Key × D)→Option (List (PyData × PyData))
 | []=>some []
 | (k,d) :: r=>match pdE d,b9j r with
  | some p,some ps=>some ((a8T k,p) :: ps)
  | _,_=>none
def b44:List D→Option (List PyData)
 | []=>some []
 | d :: ds=>match pdE d,b44 ds with
  | some p,some ps=>some (p :: ps)
  | _,_=>none
end
section
variable {X:Cx} {g:Gd} {S:SS} {pins:List (Addr × Obj)} {σ:L2.St} {H:Hp} {s:Shared}
theorem noE {p:PyData} (h:p.hasDict=false) {as:List Addr}:p.hasDict=true→sysModules∉as:=fun e=>by rw [h] at e;cases e
theorem b4w {k:Key} {u:Value} (h:(mixKind X.prog X.w).is k u=true) (hs:(a8T k).showable=true) (hz:(a8T k).shown.length≤sizeLine) :
  Reads s.heap u (a8T k) []∧∃ bs,ReadAtMost s.heap (a8T k).depth bs∧ReprK X.prog X.w bs s.heap (a8T k).depth u (a8T k).shown:=by
 rcases keyIs_shape h with ⟨i,t,rfl,rfl⟩ | ⟨x,t,rfl,rfl⟩
 ·exact ⟨.int i t,ReprK.of_reads (prog:=X.prog) (w:=X.w) (h₀:=s.heap) (.int i t) hs (noE rfl) hz⟩
 ·exact ⟨.str x t,ReprK.of_reads (prog:=X.prog) (w:=X.w) (h₀:=s.heap) (.str x t) hs (noE rfl) hz⟩
mutual
theorem a7d (hK:g.K=X.K) (I:Inv X pins σ H s):∀ (d:D) {v:V} {u:Value} {p:PyData},Rep g S H d v→RelV v u→pdE d=some p→p.showable=true→p.shown.length≤sizeLine →
  ∃ as bs,Reads s.heap u p as∧ReadAtMost s.heap p.depth bs∧ReprK X.prog X.w bs s.heap p.depth u p.shown
 | .non,_,_,_,r,q,e,hs,hz=>by
  simp only [Rep] at r;subst r;cases e;cases (show _=Value.none from q)
  obtain ⟨bs,h1,h2⟩:=ReprK.of_reads (prog:=X.prog) (w:=X.w) (h₀:=s.heap) .none hs (noE rfl) hz
  exact ⟨_,bs,.none,h1,h2⟩
 | .bl b,_,_,_,r,q,e,hs,hz=>by
  simp only [Rep] at r;subst r;cases e;cases (show _=Value.bool b from q)
  obtain ⟨bs,h1,h2⟩:=ReprK.of_reads (prog:=X.prog) (w:=X.w) (h₀:=s.heap) (.bool b) hs (noE rfl) hz
  exact ⟨_,bs,.bool b,h1,h2⟩
 | .int i,_,_,_,r,q,e,hs,hz=>by
  simp only [Rep] at r;subst r;cases e
  obtain ⟨t,rfl⟩:=(show ∃ t,_=Value.int i t from q)
  obtain ⟨bs,h1,h2⟩:=ReprK.of_reads (prog:=X.prog) (w:=X.w) (h₀:=s.heap) (.int i t) hs (noE rfl) hz
  exact ⟨_,bs,.int i t,h1,h2⟩
 | .str x,_,_,_,r,q,e,hs,hz=>by
  simp only [Rep] at r;subst r;cases e
  obtain ⟨t,rfl⟩:=(show ∃ t,_=Value.str x t from q)
  obtain ⟨bs,h1,h2⟩:=ReprK.of_reads (prog:=X.prog) (w:=X.w) (h₀:=s.heap) (.str x t) hs (noE rfl) hz
  exact ⟨_,bs,.str x t,h1,h2⟩
 | .lst ds,_,_,_,r,q,e,hs,hz=>by
  simp only [Rep] at r
  obtain ⟨a,vs,rfl,at_a,rs⟩:=r
  have seq:=at_a.sq
  rw [hK] at seq
  obtain ⟨its,rel,⟨o,n,here,cls,_,data⟩,_⟩:=I.list seq
  cases (show _=Value.ref a from q)
  simp only [pdE,zam] at e
  obtain ⟨ps,all,rfl⟩:=e
  have hz':(listText (PyData.shownAll ps)).length≤sizeLine:=by simpa only [PyData.shown] using hz
  obtain ⟨as,bs,each,hb,hk⟩:=a2w hK I ds rs rel all (by simpa [PyData.showable] using hs) (fun t ht=>Nat.le_trans (listText_mem_le ht) hz')
  have r:Reads s.heap (.ref a) (.list ps) _:=.list here cls data (by simpa using each)
  have hna:a∉bs:=not_mem_of_deeper r (by simp only [PyData.depth];omega) hb
  refine ⟨_,a :: bs,r,ReadAtMost.cons r (by simp only [PyData.depth];omega) hb,?_⟩
  simp only [PyData.depth,PyData.shown]
  cases its with
  | nil =>
   cases each
   simp only [PyData.shownAll,listText_nil]
   exact ReprK.listEmpty here cls data
  | cons x l=>exact ReprK.list here cls data hna (by simpa using hk.length_eq) (fun i y e=>hk.item i y (by simpa using e))
 | .tup ds,_,_,_,r,q,e,hs,hz=>by
  simp only [Rep] at r
  obtain ⟨a,vs,rfl,at_a,rs⟩:=r
  have seq:=at_a.sq
  rw [hK] at seq
  obtain ⟨its,rel,⟨o,here,cls,n,data⟩,_⟩:=I.tuple seq
  cases (show _=Value.ref a from q)
  simp only [pdE,zam] at e
  obtain ⟨ps,all,rfl⟩:=e
  have hz':(tupleText (PyData.shownAll ps)).length≤sizeLine:=by simpa only [PyData.shown] using hz
  obtain ⟨as,bs,each,hb,hk⟩:=a2w hK I ds rs rel all (by simpa [PyData.showable] using hs) (fun t ht=>Nat.le_trans (tupleText_mem_le ht) hz')
  have r:Reads s.heap (.ref a) (.tuple ps) _:=.tuple here cls data (by simpa using each)
  have hna:a∉bs:=not_mem_of_deeper r (by simp only [PyData.depth];omega) hb
  refine ⟨_,a :: bs,r,ReadAtMost.cons r (by simp only [PyData.depth];omega) hb,?_⟩
  simp only [PyData.depth,PyData.shown]
  exact ReprK.tuple here cls data hna (by simpa using hk)
 | .dic kvs,_,_,_,r,q,e,hs,hz=>by
  simp only [Rep] at r
  obtain ⟨a,ws,rfl,_,at_a,rk⟩:=r
  cases (show _=Value.ref a from q)
  simp only [pdE,zam] at e
  obtain ⟨ps,all,rfl⟩:=e
  obtain ⟨_,hsys,vs,kv,o,es,ep,here,ex,data,_,pr,_⟩:=dk_of I.hok at_a
  have hz':(dictText (PyData.shownKv ps)).length≤sizeLine:=by simpa only [PyData.shown] using hz
  obtain ⟨a1,a2,bs,e1,e2,hb,k1,k2⟩:=a5p hK I kvs rk kv pr all (by simpa [PyData.showable] using hs) (fun t ht=>let ⟨p,hp,hl⟩:=PyData.shownKv_key_le ps t ht;Nat.le_trans hl (Nat.le_trans (dictText_mem_le hp) hz')) (fun t ht=>let ⟨p,hp,hl⟩:=PyData.shownKv_val_le ps t ht;Nat.le_trans hl (Nat.le_trans (dictText_mem_le hp) hz'))
  have r:Reads s.heap (.ref a) (.dict ps) _:=.dict here ex.1 data e1 e2
  have hna:a∉bs:=not_mem_of_deeper r (by simp only [PyData.depth];omega) hb
  refine ⟨_,a :: bs,r,ReadAtMost.cons r (by simp only [PyData.depth];omega) hb,?_⟩
  simp only [PyData.depth,PyData.shown,PyData.shownKv_eq]
  exact ReprK.dict here ex.1 data hsys hna (ReprEntriesK.of_two es.toList _ _ k1 k2)
 | .obj _,_,_,_,_,_,e,_,_=>nomatch e
 | .exc _ _ _ _,_,_,_,_,_,e,_,_=>nomatch e
 | .err _ _ _ _,_,_,_,_,_,e,_,_=>nomatch e
theorem a5p (hK:g.K=X.K) (I:Inv X pins σ H s):∀ (kvs:List (Key × D)) {ws:List (Key × V)} {vs:List (Key × Value)} {es:List DictEntry} {ps:List (PyData × PyData)},a0K g S H kvs ws→KV ws vs→Pairs (mixKind X.prog X.w) es vs→b9j kvs=some ps→PyData.showableKv ps=true →
  (∀ t∈PyData.shownAll (ps.map (·.1)),t.length≤sizeLine)→(∀ t∈PyData.shownAll (ps.map (·.2)),t.length≤sizeLine) →
  ∃ a1 a2 bs,ReadsAll s.heap (es.map (·.key)) (ps.map (·.1)) a1∧ReadsAll s.heap (es.map (·.val)) (ps.map (·.2)) a2∧ReadAtMost s.heap (PyData.depthKv ps) bs ∧
   ReprAllK X.prog X.w bs s.heap (PyData.depthKv ps) (es.map (·.key)) (PyData.shownAll (ps.map (·.1)))∧ReprAllK X.prog X.w bs s.heap (PyData.depthKv ps) (es.map (·.val)) (PyData.shownAll (ps.map (·.2)))
 | [],_,_,_,_,r,kv,pr,e,_,_,_=>by
  simp only [a0K] at r;subst r;cases kv;cases pr;cases e
  exact ⟨_,_,[],.nil,.nil,(fun _ h=>nomatch h),by simp only [List.map_nil,PyData.shownAll];exact .nil,by simp only [List.map_nil,PyData.shownAll];exact .nil⟩
 | (k,d) :: kvs,_,_,_,_,r,kv,pr,e,hs,hz1,hz2=>by
  simp only [a0K] at r
  obtain ⟨v,ws,rfl,r1,r2⟩:=r
  cases kv with
  | cons q1 q2 =>
   cases pr with
   | cons is1 ev pr =>
    simp only [b9j] at e
    split at e
    ·rename_i p ps e1 e2
     cases e
     obtain ⟨q0,q1⟩:=q1
     rw [← q0] at is1
     rw [← ev] at q1
     have hs':((a8T k).showable=true∧p.showable=true)∧PyData.showableKv ps=true:=by simpa [PyData.showableKv] using hs
     simp only [zax,PyData.shownAll] at hz1 hz2
     obtain ⟨x0,b0,hb0,k0⟩:=b4w (X:=X) (s:=s) is1 hs'.1.1 (hz1 _ (zal ..))
     obtain ⟨a1,b1,x1,hb1,k1⟩:=a7d hK I d r1 q1 e1 hs'.1.2 (hz2 _ (zal ..))
     obtain ⟨c1,c2,b2,y1,y2,hb2,m1,m2⟩:=a5p hK I kvs r2 q2 pr e2 hs'.2 (fun t ht=>hz1 t (zao _ ht)) (fun t ht=>hz2 t (zao _ ht))
     have d0:(a8T k).depth≤PyData.depthKv ((a8T k,p) :: ps):=by simp only [PyData.depthKv];omega
     have d1:p.depth≤PyData.depthKv ((a8T k,p) :: ps):=by simp only [PyData.depthKv];omega
     have d2:PyData.depthKv ps≤PyData.depthKv ((a8T k,p) :: ps):=by simp only [PyData.depthKv];omega
     refine ⟨_,_,b0 ++ (b1 ++ b2),.cons x0 y1,.cons x1 y2,(hb0.mono d0).append ((hb1.mono d1).append (hb2.mono d2)),?_,?_⟩
     ·simp only [zax,PyData.shownAll]
      exact .cons ((k0.more fun b hb=>zar _ hb).level_le d0) (m1.more_le (fun b hb=>zas _ (zas _ hb)) d2)
     ·simp only [zax,PyData.shownAll]
      exact .cons ((k1.more fun b hb=>zas _ (zar _ hb)).level_le d1) (m2.more_le (fun b hb=>zas _ (zas _ hb)) d2)
    ·cases e
theorem a2w (hK:g.K=X.K) (I:Inv X pins σ H s):∀ (ds:List D) {vs:List V} {us:List Value} {ps:List PyData},a0e g S H ds vs→Vals vs us→b44 ds=some ps→PyData.showableAll ps=true→(∀ t∈PyData.shownAll ps,t.length≤sizeLine) →
  ∃ as bs,ReadsAll s.heap us ps as∧ReadAtMost s.heap (PyData.depthAll ps) bs∧ReprAllK X.prog X.w bs s.heap (PyData.depthAll ps) us (PyData.shownAll ps)
 | [],_,_,_,r,q,e,_,_=>by
  simp only [a0e] at r;subst r;cases q;cases e
  exact ⟨_,[],.nil,(fun _ h=>nomatch h),by simp only [PyData.shownAll];exact .nil⟩
 | d :: ds,_,_,_,r,q,e,hs,hz=>by
  simp only [a0e] at r
  obtain ⟨v,vs,rfl,r1,r2⟩:=r
  cases q with
  | cons q1 q2 =>
   simp only [b44] at e
   split at e
   ·rename_i p ps e1 e2
    cases e
    have hs':p.showable=true∧PyData.showableAll ps=true:=by simpa [PyData.showableAll] using hs
    obtain ⟨a1,b1,x1,hb1,k1⟩:=a7d hK I d r1 q1 e1 hs'.1 (hz _ (by simp only [PyData.shownAll];exact zal ..))
    obtain ⟨a2,b2,x2,hb2,k2⟩:=a2w hK I ds r2 q2 e2 hs'.2 (fun t ht=>hz t (by simp only [PyData.shownAll];exact zao _ ht))
    refine ⟨_,b1 ++ b2,.cons x1 x2,?_,?_⟩
    ·intro b hm
     simp only [PyData.depthAll]
     rcases zap.mp hm with hm | hm
     ·obtain ⟨d',as',r',hd'⟩:=hb1 b hm
      exact ⟨d',as',r',Nat.le_trans hd' (Nat.le_max_left _ _)⟩
     ·obtain ⟨d',as',r',hd'⟩:=hb2 b hm
      exact ⟨d',as',r',Nat.le_trans hd' (Nat.le_max_right _ _)⟩
    ·simp only [PyData.depthAll,PyData.shownAll]
     exact .cons ((k1.more fun b hb=>zar _ hb).level_le (Nat.le_max_left _ _)) (k2.more_le (fun b hb=>zas _ hb) (Nat.le_max_right _ _))
   ·cases e
end
theorem b0N (hK:g.K=X.K) (I:Inv X pins σ H s):∀ (d:D) {v:V} {a:Addr} {p:PyData},Rep g S H d v→RelV v (.ref a)→pdE d=some p→p.showable=true→p.shown.length≤sizeLine→∃ T idr,ShowsBy X.prog X.w s.heap a p T idr
 | .non,_,_,_,r,q,e,_,_=>by
  simp only [Rep] at r;subst r;cases (show _=Value.none from q)
 | .bl b,_,_,_,r,q,e,_,_=>by
  simp only [Rep] at r;subst r;cases (show _=Value.bool b from q)
 | .int i,_,_,_,r,q,e,_,_=>by
  simp only [Rep] at r;subst r
  obtain ⟨t,h⟩:=(show ∃ t,_=Value.int i t from q)
  cases h
 | .str x,_,_,_,r,q,e,_,_=>by
  simp only [Rep] at r;subst r
  obtain ⟨t,h⟩:=(show ∃ t,_=Value.str x t from q)
  cases h
 | .lst ds,_,a,_,r,q,e,hs,hz=>by
  simp only [Rep] at r
  obtain ⟨a1,vs,rfl,at_a,rs⟩:=r
  have ea:a=a1:=by cases (show Value.ref a=Value.ref a1 from q);rfl
  subst ea
  have seq:=at_a.sq
  rw [hK] at seq
  obtain ⟨its,rel,⟨o,n,here,cls,_,data⟩,_⟩:=I.list seq
  simp only [pdE,zam] at e
  obtain ⟨ps,all,rfl⟩:=e
  have hz':(listText (PyData.shownAll ps)).length≤sizeLine:=by simpa only [PyData.shown] using hz
  obtain ⟨as,bs,each,hb,hk⟩:=a2w hK I ds rs rel all (by simpa [PyData.showable] using hs) (fun t ht=>Nat.le_trans (listText_mem_le ht) hz')
  have r:Reads s.heap (.ref a) (.list ps) _:=.list here cls data (by simpa using each)
  have hna:a∉bs:=not_mem_of_deeper r (by simp only [PyData.depth];omega) hb
  refine ⟨"list", "list.__repr__",F.slot_list_repr.toG,F.slot_list_str,F.slot_list_format,fun s hk0=>⟨o,hk0 _ _ here,cls⟩,fun A E s Q hg hu hk0 hQ=>?_⟩
  simp only [PyData.depth] at hu
  simp only [PyData.shown] at hQ
  cases its with
  | nil =>
   cases each
   simp only [PyData.shownAll,listText_nil] at hQ
   exact call_list_repr_empty ⟨o,hk0 _ _ here,cls⟩ (hk0 _ _ here) data (hQ s.heap _ _ fun _ _ e=>e)
  | cons x l=>exact call_list_reprK here cls data hna (by simpa using hk.length_eq) (fun i y e=>hk.item i y (by simpa using e)) hg (fun b _=>Clear.nil b) hu hk0 hQ hz'
 | .tup ds,_,a,_,r,q,e,hs,hz=>by
  simp only [Rep] at r
  obtain ⟨a1,vs,rfl,at_a,rs⟩:=r
  have ea:a=a1:=by cases (show Value.ref a=Value.ref a1 from q);rfl
  subst ea
  have seq:=at_a.sq
  rw [hK] at seq
  obtain ⟨its,rel,⟨o,here,cls,n,data⟩,_⟩:=I.tuple seq
  simp only [pdE,zam] at e
  obtain ⟨ps,all,rfl⟩:=e
  have hz':(tupleText (PyData.shownAll ps)).length≤sizeLine:=by simpa only [PyData.shown] using hz
  obtain ⟨as,bs,each,hb,hk⟩:=a2w hK I ds rs rel all (by simpa [PyData.showable] using hs) (fun t ht=>Nat.le_trans (tupleText_mem_le ht) hz')
  have r:Reads s.heap (.ref a) (.tuple ps) _:=.tuple here cls data (by simpa using each)
  have hna:a∉bs:=not_mem_of_deeper r (by simp only [PyData.depth];omega) hb
  refine ⟨"tuple", "tuple.__repr__",F.slot_tuple_repr,F.slot_tuple_str,F.slot_tuple_format,fun s hk0=>⟨o,hk0 _ _ here,cls⟩,fun A E s Q hg hu hk0 hQ=>?_⟩
  simp only [PyData.depth] at hu
  simp only [PyData.shown] at hQ
  exact call_tuple_reprK here cls data hna (by simpa using hk) hg (fun b _=>Clear.nil b) hu hk0 hQ hz'
 | .dic kvs,_,a,_,r,q,e,hs,hz=>by
  simp only [Rep] at r
  obtain ⟨a1,ws,rfl,_,at_a,rk⟩:=r
  have ea:a=a1:=by cases (show Value.ref a=Value.ref a1 from q);rfl
  subst ea
  simp only [pdE,zam] at e
  obtain ⟨ps,all,rfl⟩:=e
  obtain ⟨_,hsys,vs,kv,o,es,ep,here,ex,data,_,pr,_⟩:=dk_of I.hok at_a
  have hz':(dictText (PyData.shownKv ps)).length≤sizeLine:=by simpa only [PyData.shown] using hz
  obtain ⟨a1,a2,bs,e1,e2,hb,k1,k2⟩:=a5p hK I kvs rk kv pr all (by simpa [PyData.showable] using hs) (fun t ht=>let ⟨p,hp,hl⟩:=PyData.shownKv_key_le ps t ht;Nat.le_trans hl (Nat.le_trans (dictText_mem_le hp) hz')) (fun t ht=>let ⟨p,hp,hl⟩:=PyData.shownKv_val_le ps t ht;Nat.le_trans hl (Nat.le_trans (dictText_mem_le hp) hz'))
  have r:Reads s.heap (.ref a) (.dict ps) _:=.dict here ex.1 data e1 e2
  have hna:a∉bs:=not_mem_of_deeper r (by simp only [PyData.depth];omega) hb
  refine ⟨"dict", "dict.__repr__",F.slot_dict_repr,F.slot_dict_str,F.slot_dict_format,fun s hk0=>⟨o,hk0 _ _ here,ex.1⟩,fun A E s Q hg hu hk0 hQ=>?_⟩
  simp only [PyData.depth] at hu
  simp only [PyData.shown,PyData.shownKv_eq] at hQ
  exact call_dict_reprK here ex.1 data hsys hna (ReprEntriesK.of_two es.toList _ _ k1 k2) hg (fun b _=>Clear.nil b) hu hk0 hQ (by rw [← PyData.shownKv_eq];exact hz')
 | .obj _,_,_,_,_,_,e,_,_=>nomatch e
 | .exc _ _ _ _,_,_,_,_,_,e,_,_=>nomatch e
 | .err _ _ _ _,_,_,_,_,_,e,_,_=>nomatch e
end
structure b5W (p:PyData):Prop where
 can:p.showable=true
 noDict:p.hasDict=false
 fits:p.shown.length≤sizeLine
 flat:p.depth≤20
structure a7s (p:PyData):Prop where
 can:p.showable=true
 fits:p.shown.length≤sizeLine
 flat:p.depth≤20
def pdS (S:SS):D→Option PyData
 | .obj a=>match S a with
  | some (.lst ds)=>(b1i ds).map .list
  | _=>none
 | d=>pdD d
theorem b0H {X:Cx} {g:Gd} {S:SS} {pins:List (Addr × Obj)} {σ:L2.St} {H:Hp} {s:Shared} (hK:g.K=X.K) (I:Inv X pins σ H s) (cells:CellsOk g S H) {d:D} {v:V} {u:Value} {p:PyData} (r:Rep g S H d v) (q:RelV v u) (e:pdS S d=some p):∃ as,Reads s.heap u p as:=by
 unfold pdS at e
 split at e
 ·rename_i a
  simp only [Rep] at r
  subst r
  split at e
  ·rename_i ds at_a
   obtain ⟨vs,tracked,rs⟩:=cells a _ at_a
   simp only [zam] at e
   obtain ⟨ps,all,rfl⟩:=e
   obtain ⟨its,rel,⟨o,n,here,cls,_,data⟩,_⟩:=I.list (.inl (.inl tracked))
   cases (show u=Value.ref a from q)
   have ⟨as,each⟩:=a1y hK I ds rs rel all
   exact ⟨_,.list here cls data (by simpa using each)⟩
  ·cases e
 ·exact a8a hK I d r q e
def b5d (xs:List D) (S:SS) (K:DK):Prop:=match xs with
 | [d]=>∃ p,(((pdS S d=some p∨(D.okd 60 (dv S 60 d)=true∧p=(dv S 60 d).py))∧b5W p)∨(pdE d=some p∧a7s p))∧K (.str p.shown) S
 | _=>False
theorem a9m {X:Cx} {g:Gd} (hK:g.K=X.K) (guards:X.A.guards=some []) (units:X.A.units + 21 < cLine):CallR X (.builtin "repr") (rDc g b5d):=by
 rintro pins s σ H _ _ Q I given ⟨xs,S,K,cells,reps,told,res⟩
 unfold b5d at told
 split at told
 case h_2=>exact told.elim
 rename_i d
 obtain ⟨p,told,k⟩:=told
 simp only [a0e] at reps
 obtain ⟨v,_,rfl,rep,rfl⟩:=reps
 have want:Q (.str p.shown) H:=res.val k cells (by simp only [Rep])
 cases given with
 | cons one rest =>
  cases rest
  rcases told with ⟨plain,shows⟩ | ⟨plain,shows⟩
  case inr =>
   obtain ⟨as,bs,reads,_⟩:=a7d hK I d rep one plain shows.can shows.fits
   have big:=fun (a:Addr) (q:RelV _ (.ref a)) =>
    have ⟨T,idr,sb⟩:=b0N hK I d rep q plain shows.can shows.fits
    call_repr_slot (prog:=X.prog) (w:=X.w) (A:=X.A) (E:=X.xe) (s:=s) (Q:=EP X pins σ Q) (by omega) (sb.typeIs s fun _ _ e=>e) sb.slotRepr (sb.call X.A.in1 X.xe s _ guards (by show X.A.units + 1 + p.depth < cLine;have:=shows.flat;omega) (fun _ _ e=>e) fun h' u tk keeps=>⟨_,_,rfl,⟨.str p.shown,H,I.kept keeps,⟨u,rfl⟩,want⟩⟩)
   cases reads with
   | none=>exact PySem.P.repr_of_none ⟨.str _,H,I.tok _,⟨_,rfl⟩,want⟩
   | bool b=>exact PySem.P.repr_of_bool ⟨.str _,H,I.tok _,⟨_,rfl⟩,by cases b <;> exact want⟩
   | int i t=>exact PySem.P.repr_of_int (by simpa [PyData.showable] using shows.can) ⟨.str _,H,I.tok _,⟨_,rfl⟩,want⟩
   | str x t=>exact PySem.P.repr_of_str ⟨.str _,H,I.tok _,⟨_,rfl⟩,want⟩ shows.fits
   | list e1 e2 e3 e4=>exact big _ one
   | tuple e1 e2 e3 e4=>exact big _ one
   | dict e1 e2 e3 e4 e5=>exact big _ one
  obtain ⟨as,reads⟩:∃ as,Reads s.heap _ p as:=by
   rcases plain with plain | ⟨okd,rfl⟩
   ·exact b0H hK I cells rep one plain
   ·exact Dp.reads I _ _ _ (hK ▸ a8t cells 60 60 okd rep) one
  have big:=fun (a:Addr) (reads:Reads s.heap (.ref a) p as)=>repr_of_reads' (prog:=X.prog) (w:=X.w) (A:=X.A) (E:=X.xe) (s:=s) (Q:=EP X pins σ Q) reads shows.can (PyData.noDict_hsm shows.noDict) guards (by have:=shows.flat;omega) (fun _ _ e=>e)
   (fun h' u tk keeps=>⟨.str p.shown,H,I.kept keeps,⟨u,rfl⟩,want⟩) shows.fits
  cases reads with
  | none=>exact PySem.P.repr_of_none ⟨.str _,H,I.tok _,⟨_,rfl⟩,want⟩
  | bool b=>exact PySem.P.repr_of_bool ⟨.str _,H,I.tok _,⟨_,rfl⟩,by cases b <;> exact want⟩
  | int i t=>exact PySem.P.repr_of_int (by simpa [PyData.showable] using shows.can) ⟨.str _,H,I.tok _,⟨_,rfl⟩,want⟩
  | str x t=>exact PySem.P.repr_of_str ⟨.str _,H,I.tok _,⟨_,rfl⟩,want⟩ shows.fits
  | list e1 e2 e3 e4=>exact big _ (.list e1 e2 e3 e4)
  | tuple e1 e2 e3 e4=>exact big _ (.tuple e1 e2 e3 e4)
  | dict e1 e2 e3 e4 e5=>exact big _ (.dict e1 e2 e3 e4 e5)
end Sv
namespace Sv
open PySem PySem.Spec PyProof.Rows L2
def intD (xs:List D) (S:SS) (K:DK):Prop:=match xs with
 | [.int i]=>K (.int i) S
 | [.bl b]=>K (.int (if b then 1 else 0)) S
 | [.str x]=>x.length≤640∧∃ n,PySem.intText? x=some n∧K (.int n) S
 | _=>False
def b04 (xs:List D) (S:SS) (K:DK):Prop:=match xs with
 | [d]=>match vw S d with
  | .lst ds=>K (.tup ds) S
  | .tup ds=>K (.tup ds) S
  | _=>False
 | _=>False
def b4C (cell:Bool) (xs:List D) (S:SS) (K:DK):Prop:=match xs with
 | [d]=>∃ ds,(vw S d=.lst ds∨vw S d=.tup ds)∧if cell=true then ∀ p,S p=none→K (.obj p) (S.set p (.lst ds)) else K (.lst ds) S
 | _=>False
section
variable {X:Cx} {g:Gd}
theorem one_of {S:SS} {H:Hp} {d:D} {vs:List V} (r:a0e g S H [d] vs):∃ v,vs=[v]∧Rep g S H d v:=by
 simp only [a0e] at r
 obtain ⟨v,_,rfl,rep,rfl⟩:=r
 exact ⟨v,rfl,rep⟩
theorem int_ok:CallR X (.type "int") (rDc g intD):=by
 rintro pins s σ H vs us Q I given ⟨xs,S,K,cells,reps,told,res⟩
 unfold intD at told
 split at told
 ·obtain ⟨v,rfl,rep⟩:=one_of reps
  cases a0g rep
  exact call_int1 _ _ _ _ _ _ _ I given (.inl ⟨_,rfl,res.int told cells⟩)
 ·obtain ⟨v,rfl,rep⟩:=one_of reps
  simp only [Rep] at rep
  subst rep
  exact call_int1 _ _ _ _ _ _ _ I given (.inr ⟨_,rfl,res.int told cells⟩)
 ·obtain ⟨v,rfl,rep⟩:=one_of reps
  cases a0u rep
  obtain ⟨short,n,reads,k⟩:=told
  obtain ⟨u,rfl,t,rfl⟩:=vals1 given
  exact PySem.W.KIN.call_text reads short ⟨.int n,H,I.tok _,⟨_,rfl⟩,res.int k cells⟩
 ·exact told.elim
theorem b2I (hK:g.K=X.K):CallR X (.type "tuple") (rDc g b04):=by
 rintro pins s σ H vs us Q I given ⟨xs,S,K,cells,reps,told,res⟩
 unfold b04 at told
 split at told
 ·obtain ⟨v,rfl,rep⟩:=one_of reps
  split at told
  ·rename_i ds seen
   obtain ⟨p,ws,rfl,seq,all⟩:=a0j cells rep seen
   rw [hK] at seq
   exact call_tuple_of _ _ _ _ _ _ _ I given ⟨_,_,rfl,.inl ⟨seq,fun l free=>res.tup told cells all free⟩⟩
  ·rename_i ds seen
   have is:=a7o seen
   subst is
   obtain ⟨p,ws,rfl,seq,all⟩:=a0B rep seen
   rw [hK] at seq
   exact call_tuple_of _ _ _ _ _ _ _ I given ⟨_,_,rfl,.inr ⟨seq,res.val told cells rep⟩⟩
  ·exact told.elim
 ·exact told.elim
theorem b4D (hK:g.K=X.K) (cell:Bool):CallR X (.type "list") (rDc g (b4C cell)):=by
 rintro pins s σ H vs us Q I given ⟨xs,S,K,cells,reps,told,res⟩
 unfold b4C at told
 split at told
 ·obtain ⟨v,rfl,rep⟩:=one_of reps
  obtain ⟨ds,seen,told⟩:=told
  have laid:∃ p ws,v=.ref p∧(SqL X.K H p ws∨SqT X.K H p ws)∧a0e g S H ds ws:=by
   rw [← hK]
   rcases seen with seen | seen
   ·exact (a0j cells rep seen).imp fun _ z=>z.imp fun _ z=>⟨z.1,.inl z.2.1,z.2.2⟩
   ·exact (a0B rep seen).imp fun _ z=>z.imp fun _ z=>⟨z.1,.inr z.2.1,z.2.2⟩
  obtain ⟨p,ws,rfl,seq,all⟩:=laid
  refine call_list_of _ _ _ _ _ _ _ I given ⟨_,_,rfl,seq,fun l free=>?_⟩
  cases cell with
  | true=>exact res.lstC told cells all free
  | false=>exact res.lst told cells all free
 ·exact told.elim
end
end Sv
namespace Sv
open PySem PySem.Spec PyProof.Rows L2
def leS (a b:Str):Bool:=!decide (b.cps.toList < a.cps.toList)
def a1e (zs:List Str):List Str:=zs.mergeSort leS
theorem a3I (a b:Str):leS a b=true∨leS b a=true:=by
 unfold leS
 simp only [Bool.not_eq_true',decide_eq_false_iff_not]
 by_cases h:b.cps.toList < a.cps.toList
 ·exact .inr fun z=>List.lt_irrefl _ (List.lt_trans h z)
 ·exact .inl h
theorem a3J (a b c:Str) (h:leS a b=true) (k:leS b c=true):leS a c=true:=by
 unfold leS at h k ⊢
 simp only [Bool.not_eq_true',decide_eq_false_iff_not] at h k ⊢
 exact List.le_trans (List.not_lt.mp h) (List.not_lt.mp k)
theorem a5i {a b:Str} (h:leS a b=true) (k:leS b a=true):a=b:=by
 unfold leS at h k
 simp only [Bool.not_eq_true',decide_eq_false_iff_not] at h k
 have same:=List.le_antisymm (List.not_lt.mp h) (List.not_lt.mp k)
 cases a;cases b
 congr 1
 exact Array.toList_inj.mp same
theorem a6n:∀ (zs:List Str) (p:Str),risingS p zs=true→(p :: zs).Pairwise fun a b=>leS a b=true
 | [],_,_=>List.pairwise_singleton _ _
 | x :: r,p,h=>by
  simp only [risingS,zak] at h
  have rest:=a6n r x h.2
  have first:leS p x=true:=by
   unfold leS
   rw [← ltCps_eq]
   exact h.1
  refine List.pairwise_cons.mpr ⟨fun y hy=>?_,rest⟩
  rcases zau.mp hy with rfl | hy
  ·exact first
  ·exact a3J _ _ _ first ((List.pairwise_cons.mp rest).1 y hy)
theorem a4c {ys zs:List Str} (perm:ys.Perm zs) (up:sortedS ys=true):ys=a1e zs:=by
 have rises:ys.Pairwise fun a b=>leS a b=true:=by
  cases ys with
  | nil=>exact .nil
  | cons x r=>exact a6n r x up
 have rises2:(a1e zs).Pairwise fun a b=>leS a b=true:=List.pairwise_mergeSort a3J (fun a b=>by
  have:=a3I a b
  simpa using this) zs
 exact List.Perm.eq_of_pairwise (fun a b _ _ h k=>a5i h k) rises rises2 (perm.trans (List.mergeSort_perm zs leS).symm)
def outL (cell:Bool) (ds:List D) (S:SS) (K:DK):Prop:=if cell=true then ∀ p,S p=none→K (.obj p) (S.set p (.lst ds)) else K (.lst ds) S
def outK (cell:Bool) (kvs:List (Key × D)) (S:SS) (K:DK):Prop:=if cell=true then ∀ p,S p=none→K (.obj p) (S.set p (.dic kvs)) else K (.dic kvs) S
theorem Res.outL {g:Gd} {S:SS} {H:Hp} {K:DK} {Q:VK} {cell:Bool} {ds:List D} {vs:List V} {p:Addr} (res:Res g S H K Q) (k:outL cell ds S K) (cells:CellsOk g S H) (all:a0e g S H ds vs) (free:H p=none):Q (.ref p) (upd H p (.lst vs)):=by
 cases cell with
 | true=>exact res.lstC k cells all free
 | false=>exact res.lst k cells all free
theorem Res.outK {g:Gd} {S:SS} {H:Hp} {K:DK} {Q:VK} {cell:Bool} {kvs:List (Key × D)} {ws:List (Key × V)} {p:Addr} (res:Res g S H K Q) (k:outK cell kvs S K) (cells:CellsOk g S H) (all:a0K g S H kvs ws) (free:H p=none):Q (.ref p) (upd H p (.dK ws)):=by
 cases cell with
 | true=>exact res.dicC k cells all free
 | false=>exact res.dic k cells all free
theorem a1I {g:Gd} {S:SS} {H:Hp}:∀ (zs:List Str) {vs:List V},a0e g S H (zs.map D.str) vs→vs=zs.map V.str
 | [],_,r=>by simp only [List.map_nil,a0e] at r;exact r
 | z :: zs,_,r=>by
  simp only [zax,a0e] at r
  obtain ⟨v,q,rfl,one,more⟩:=r
  rw [a0u one,a1I zs more,zax]
theorem a2F {g:Gd} {S:SS} {H:Hp}:∀ (zs:List Str),a0e g S H (zs.map D.str) (zs.map V.str)
 | []=>by simp only [List.map_nil,a0e]
 | z :: zs=>by
  simp only [zax,a0e]
  exact ⟨_,_,rfl,by simp only [Rep],a2F zs⟩
theorem b0K {g:Gd} {S:SS} {H:Hp} {kvs:List (Key × D)} {ws:List (Key × V)} (r:a0K g S H kvs ws):ws.map (·.1)=kvs.map (·.1):=by
 have q:=a0T r
 clear r
 induction q with
 | nil=>rfl
 | cons h _ ih=>rw [zax,zax,ih,h.1]
theorem b0L {g:Gd} {S:SS} {H:Hp} {kvs:List (Key × D)} {ws:List (Key × V)} (r:a0K g S H kvs ws):a0e g S H (kvs.map (·.2)) (ws.map (·.2)):=by
 have q:=a0T r
 clear r
 refine a3O ?_
 induction q with
 | nil=>exact .nil
 | cons h _ ih=>exact .cons h.2 ih
def a7g (cell:Bool) (xs:List D) (S:SS) (K:DK):Prop:=match xs with
 | [d]=>∃ zs:List Str,(vw S d=.lst (zs.map D.str)∨∃ kvs,vw S d=.dic kvs∧kvs.map (·.1)=zs.map Sum.inr)∧zs.length < 64∧outL cell ((a1e zs).map D.str) S K
 | _=>False
def b36 (cell:Bool) (xs:List D) (S:SS) (K:DK):Prop:=match xs with
 | [d]=>∃ kvs,vw S d=.dic kvs∧outK cell kvs S K
 | _=>False
section
variable {X:Cx} {g:Gd}
theorem b0S (calm:X.calm=true) (hK:g.K=X.K) (cell:Bool):CallR X (.builtin "sorted") (rDc g (a7g cell)):=by
 rintro pins s σ H vs us Q I given ⟨xs,S,K,cells,reps,told,res⟩
 unfold a7g at told
 split at told
 ·obtain ⟨v,rfl,rep⟩:=one_of reps
  obtain ⟨zs,seen | ⟨kvs,seen,keys⟩,few,k⟩:=told
  ·obtain ⟨p,ws,rfl,seq,all⟩:=a0j cells rep seen
   rw [hK] at seq
   cases a1I zs all
   exact cr_sortedS _ _ _ _ _ _ _ I given ⟨p,zs,rfl,seq,few,fun ys q perm up free=>by
    rw [a4c perm up]
    exact res.outL k cells (a2F _) free⟩
  ·obtain ⟨p,ws,rfl,at_p,all⟩:=a1s cells rep seen
   exact call_sortedD calm _ _ _ _ _ _ _ I given ⟨p,ws,zs,rfl,at_p,(b0K all).trans keys,few,fun ys q perm up free=>by
    rw [a4c perm up]
    exact res.outL k cells (a2F _) free⟩
 ·exact told.elim
theorem b37 (cell:Bool):CallR X (.type "dict") (rDc g (b36 cell)):=by
 rintro pins s σ H vs us Q I given ⟨xs,S,K,cells,reps,told,res⟩
 unfold b36 at told
 split at told
 ·obtain ⟨v,rfl,rep⟩:=one_of reps
  obtain ⟨kvs,seen,k⟩:=told
  obtain ⟨p,ws,rfl,at_p,all⟩:=a1s cells rep seen
  exact call_dictD _ _ _ _ _ _ _ I given ⟨p,ws,rfl,at_p,fun q free=>res.outK k cells all free⟩
 ·exact told.elim
def b4u (x:D) (xs:List D) (S:SS) (K:DK):Prop:=match x,xs with
 | .str a,[d]=>∃ zs:List Str,(vw S d=.lst (zs.map D.str)∨vw S d=.tup (zs.map D.str))∧(zs.map (·.length)).sum + zs.length * a.length≤16777216∧K (.str (Txt.join a zs)) S
 | _,_=>False
def b08 (x:D) (xs:List D) (S:SS) (K:DK):Prop:=match x,xs with
 | .str a,[]=>a.length≤5592405∧K (.str (Txt.upper a)) S
 | _,_=>False
def c0C (x:D) (xs:List D) (S:SS) (K:DK):Prop:=match x,xs with
 | .obj p,[d]=>∃ ds,S p=some (.lst ds)∧ds.length < sizeLine∧K .non (S.set p (.lst (ds ++ [d])))
 | _,_=>False
def c1y (x:D) (xs:List D) (S:SS) (K:DK):Prop:=match x,xs with
 | .obj p,[.int i,d]=>∃ ds,S p=some (.lst ds)∧ds.length < sizeLine∧0≤i∧i < 2 ^ 63∧K .non (S.set p (.lst (ds.take i.toNat ++ [d] ++ ds.drop i.toNat)))
 | _,_=>False
def c1T (x:D) (xs:List D) (S:SS) (K:DK):Prop:=match x,xs with
 | .obj p,[]=>∃ ds d,S p=some (.lst ds)∧ds[ds.length - 1]?=some d∧K d (S.set p (.lst ds.dropLast))
 | .obj p,[.int i]=>∃ (ds:List D) (d:D) (k:Nat),S p=some (.lst ds)∧i=(k:Int)∧ds[k]?=some d∧i < 2 ^ 63∧K d (S.set p (.lst (ds.eraseIdx k)))
 | _,_=>False
def a9o (x:D) (xs:List D) (S:SS) (K:DK):Prop:=match x,xs with
 | .obj p,[]=>∃ ds,S p=some (.lst ds)∧K .non (S.set p (.lst []))
 | _,_=>False
def c0U (x:D) (xs:List D) (S:SS) (K:DK):Prop:=match xs with
 | [d]=>∃ ds,vw S x=.lst ds∧D.okds 59 ds=true∧D.okd 60 (vw S d)=true∧K (.int (ds.countP fun z=>D.eqv z (vw S d):Nat)) S
 | _=>False
def b38 (x:D) (xs:List D) (S:SS) (K:DK):Prop:=match x,xs with
 | .obj p,[k]=>∃ kvs key d,S p=some (.dic kvs)∧keyD k=some key∧valD kvs key=some d∧K d (S.set p (.dic (a8u kvs key)))
 | _,_=>False
theorem b4v (hK:g.K=X.K):MtR X "str.join" (rDm g b4u):=by
 rintro pins s σ H v vs u us Q I rv given ⟨x,xs,S,K,cells,rep,reps,told,res⟩
 unfold b4u at told
 split at told
 ·obtain ⟨w,rfl,rep2⟩:=one_of reps
  cases a0u rep
  obtain ⟨zs,seen,few,k⟩:=told
  have laid:∃ p,w=.ref p∧(SqL X.K H p (zs.map V.str)∨SqT X.K H p (zs.map V.str)):=by
   rw [← hK]
   rcases seen with seen | seen
   ·obtain ⟨p,ws,e,seq,all⟩:=a0j cells rep2 seen
    rw [a1I zs all] at seq
    exact ⟨p,e,.inl seq⟩
   ·obtain ⟨p,ws,e,seq,all⟩:=a0B rep2 seen
    rw [a1I zs all] at seq
    exact ⟨p,e,.inr seq⟩
  obtain ⟨p,rfl,seq⟩:=laid
  exact mt_join _ _ _ _ _ _ _ _ _ I rv given ⟨_,p,zs,rfl,rfl,seq,few,res.str k cells⟩
 ·exact told.elim
theorem b2M:MtR X "str.upper" (rDm g b08):=by
 rintro pins s σ H v vs u us Q I rv given ⟨x,xs,S,K,cells,rep,reps,told,res⟩
 unfold b08 at told
 split at told
 ·simp only [a0e] at reps
  subst reps
  cases a0u rep
  exact mt_upper _ _ _ _ _ _ _ _ _ I rv given ⟨_,rfl,rfl,told.1,res.str told.2 cells⟩
 ·exact told.elim
theorem app_ok:MtR X "list.append" (rDm g c0C):=by
 rintro pins s σ H v vs u us Q I rv given ⟨x,xs,S,K,cells,rep,reps,told,res⟩
 unfold c0C at told
 split at told
 ·rename_i p d
  obtain ⟨w,rfl,rep2⟩:=one_of reps
  cases a0r rep
  obtain ⟨ds,at_p,few,k⟩:=told
  obtain ⟨ws,here,all⟩:=cells p _ at_p
  have P:=a0d.write (H:=H) (o:=.lst (ws ++ [w])) (c:=.lst (ds ++ [d])) at_p
  exact mt_append _ _ _ _ _ _ _ _ _ I rv given ⟨p,ws,w,rfl,rfl,here,by rw [← all.length];exact few,res _ _ _ _ k P (cells.write at_p ⟨_,upd_same,(all.append reps).mono P⟩) (by simp only [Rep])⟩
 ·exact told.elim
theorem b7p:MtR X "list.insert" (rDm g c1y):=by
 rintro pins s σ H v vs u us Q I rv given ⟨x,xs,S,K,cells,rep,reps,told,res⟩
 unfold c1y at told
 split at told
 ·rename_i p i d
  obtain ⟨wi,w,rfl,repi,rep2⟩:=a08 reps
  cases a0r rep
  cases a0g repi
  obtain ⟨ds,at_p,few,lo,hi,k⟩:=told
  obtain ⟨ws,here,all⟩:=cells p _ at_p
  have P:=a0d.write (H:=H) (o:=.lst (ws.take i.toNat ++ [w] ++ ws.drop i.toNat)) (c:=.lst (ds.take i.toNat ++ [d] ++ ds.drop i.toNat)) at_p
  have one:a0e g S H [d] [w]:=by simp only [a0e];exact ⟨w,[],rfl,rep2,rfl⟩
  exact mt_insert _ _ _ _ _ _ _ _ _ I rv given ⟨p,ws,i,w,rfl,rfl,here,by rw [← all.length];exact few,lo,hi,res _ _ _ _ k P (cells.write at_p ⟨_,upd_same,(((all.take _).append one).append (all.drop _)).mono P⟩) (by simp only [Rep])⟩
 ·exact told.elim
theorem a0e.dropLast {S:SS} {H:Hp} {ds:List D} {vs:List V} (h:a0e g S H ds vs):a0e g S H ds.dropLast vs.dropLast:=a3O (a7c (a3g h))
theorem b70:MtR X "list.pop" (rDm g c1T):=by
 rintro pins s σ H v vs u us Q I rv given ⟨x,xs,S,K,cells,rep,reps,told,res⟩
 unfold c1T at told
 split at told
 ·rename_i p
  simp only [a0e] at reps
  subst reps
  cases a0r rep
  obtain ⟨ds,d,at_p,last,k⟩:=told
  obtain ⟨ws,here,all⟩:=cells p _ at_p
  obtain ⟨w,at_last,like⟩:=all.get last
  have P:=a0d.write (H:=H) (o:=.lst ws.dropLast) (c:=.lst ds.dropLast) at_p
  exact mt_pop _ _ _ _ _ _ _ _ _ I rv given ⟨p,ws,w,rfl,rfl,here,by rw [← all.length];exact at_last,res _ _ _ _ k P (cells.write at_p ⟨_,upd_same,all.dropLast.mono P⟩) (like.mono P)⟩
 ·rename_i p i
  obtain ⟨w0,rfl,repi⟩:=one_of reps
  cases a0r rep
  cases a0g repi
  obtain ⟨ds,d,k,at_p,rfl,at_k,small,kk⟩:=told
  obtain ⟨ws,here,all⟩:=cells p _ at_p
  obtain ⟨w,at_w,like⟩:=all.get at_k
  have lt:k < ws.length:=(List.getElem?_eq_some_iff.mp at_w).1
  have six:=(ixN_seq (n:=ws.length) (i:=(k:Int)) (j:=k) (by unfold ixN;rw [if_pos (by omega),if_pos (by omega)];simp)).1
  have P:=a0d.write (H:=H) (o:=.lst (ws.eraseIdx k)) (c:=.lst (ds.eraseIdx k)) at_p
  have er:a0e g S H (ds.eraseIdx k) (ws.eraseIdx k):=by
   rw [List.eraseIdx_eq_take_drop_succ,List.eraseIdx_eq_take_drop_succ]
   exact (all.take k).append (all.drop (k + 1))
  exact mt_popAt _ _ _ _ _ _ _ _ _ I rv given ⟨p,ws,k,k,w,rfl,rfl,here,by omega,small,six,at_w,res _ _ _ _ kk P (cells.write at_p ⟨_,upd_same,er.mono P⟩) (like.mono P)⟩
 ·exact told.elim
theorem b1v:MtR X "list.clear" (rDm g a9o):=by
 rintro pins s σ H v vs u us Q I rv given ⟨x,xs,S,K,cells,rep,reps,told,res⟩
 unfold a9o at told
 split at told
 ·rename_i p
  simp only [a0e] at reps
  subst reps
  cases a0r rep
  obtain ⟨ds,at_p,k⟩:=told
  obtain ⟨ws,here,all⟩:=cells p _ at_p
  exact mt_clear _ _ _ _ _ _ _ _ _ I rv given ⟨p,ws,rfl,rfl,here,res _ _ _ _ k (a0d.write at_p) (cells.write at_p ⟨[],upd_same,by simp only [a0e]⟩) (by simp only [Rep])⟩
 ·exact told.elim
theorem a7A {S:SS} {H:Hp} {kvs:List (Key × D)} {ws:List (Key × V)} (k:Key) (h:a0K g S H kvs ws):a0K g S H (a8u kvs k) (dropK ws k):=by
 have q:=a0T h
 refine b0s ?_
 clear h
 unfold a8u dropK
 induction q with
 | nil=>exact .nil
 | @cons x y l m r _ ih =>
  have same:decide (x.1≠k)=decide (y.1≠k):=by rw [r.1]
  rw [List.filter_cons,List.filter_cons]
  by_cases z:y.1≠k
  ·rw [same,zbg z,if_pos rfl,if_pos rfl]
   exact .cons r ih
  ·rw [same,zbf z,if_neg zbe,if_neg zbe]
   exact ih
theorem b39:MtR X "dict.pop" (rDm g b38):=by
 rintro pins s σ H v vs u us Q I rv given ⟨x,xs,S,K,cells,rep,reps,told,res⟩
 unfold b38 at told
 split at told
 ·rename_i p k0
  obtain ⟨w,rfl,rep2⟩:=one_of reps
  cases a0r rep
  cases (show u=Value.ref p from rv)
  obtain ⟨kvs,key,d,at_p,is,found,k⟩:=told
  obtain ⟨ws,here,all⟩:=cells p _ at_p
  cases a01 is rep2
  obtain ⟨uk,rfl,rk⟩:=Vals.one given
  rcases a1z all key with ⟨z,_⟩ | ⟨d2,w2,z1,z2,like⟩
  ·rw [found] at z;cases z
  ·rw [found] at z1
   cases z1
   have P:=a0d.write (H:=H) (o:=.dK (dropK ws key)) (c:=.dic (a8u kvs key)) at_p
   exact d_pop I here rk z2 (.inl rfl) fun w' s' I' rw'=>⟨w2,_,I',rw',res _ _ _ _ k P (cells.write at_p ⟨_,upd_same,(a7A key all).mono P⟩) (like.mono P)⟩
 ·exact told.elim
def a0O (kvs more:List (Key × D)):List (Key × D):=more.foldl (fun acc kv=>putD acc kv.1 kv.2) kvs
def c3S (x:D) (xs:List D) (S:SS) (K:DK):Prop:=match x,xs with
 | .obj p,[.dic more]=>∃ kvs,S p=some (.dic kvs)∧kvs.length + more.length≤sizeLine∧K .non (S.set p (.dic (a0O kvs more)))
 | _,_=>False
theorem a3L {g:Gd} {S:SS} {H:Hp} {more:List (Key × D)}:∀ {ws:List (Key × V)} {kvs:List (Key × D)} {us:List (Key × V)},a0K g S H more ws→a0K g S H kvs us→a0K g S H (a0O kvs more) (mergeK us ws):=by
 induction more with
 | nil =>
  intro ws kvs us h q
  simp only [a0K] at h
  subst h
  exact q
 | cons p more ih =>
  intro ws kvs us h q
  obtain ⟨k,d⟩:=p
  simp only [a0K] at h
  obtain ⟨v,ws,rfl,r,h⟩:=h
  show a0K g S H (a0O (putD kvs k d) more) (mergeK (putK us k v) ws)
  exact ih h (a7b q k r)
theorem b86:MtR X "dict.update" (rDm g c3S):=by
 rintro pins s σ H v vs u us Q I rv given ⟨x,xs,S,K,cells,rep,reps,told,res⟩
 unfold c3S at told
 split at told
 ·rename_i p more
  obtain ⟨w,rfl,rep2⟩:=one_of reps
  cases a0r rep
  cases (show u=Value.ref p from rv)
  obtain ⟨kvs,at_p,few,k⟩:=told
  obtain ⟨ws,here,all⟩:=cells p _ at_p
  simp only [Rep] at rep2
  obtain ⟨q,vs2,rfl,own,rd,all2⟩:=rep2
  obtain ⟨uk,rfl,rk⟩:=Vals.one given
  cases (show uk=Value.ref q from rk)
  have ne:p≠q:=fun e=>by rw [e,own] at at_p;cases at_p
  obtain ⟨z,hd,vals,rel,dd⟩:=dk_of I.hok here
  obtain ⟨z2,hd2,vals2,rel2,dd2⟩:=dk_rd I.hok (.inl rd)
  have l1:kvs.length=ws.length:=(a0T all).length
  have l2:more.length=vs2.length:=(a0T all2).length
  have room:(mergeK ws vs2).length≤sizeLine:=Nat.le_trans (length_mergeK vs2 ws) (by rw [← l1,← l2];exact few)
  refine call_meetsIn PySem.F.slot_dict_update dd.typeIs PySem.F.entry_dict_update (PySem.F.args_dict_update_2 _ _) (meets_dict_update (mixKind X.prog X.w) p q ne hd2) ⟨vals,vals2,dd,dd2,by rw [← rel.length,← rel2.length,← l1,← l2];exact few,fun h' dd' _ hs=>?_⟩
  have he:∃ o,h'.get? p=some o:=let ⟨o,_,_,ho,_⟩:=dd';⟨o,ho⟩
  have P:=a0d.write (H:=H) (o:=.dK (mergeK ws vs2)) (c:=.dic (a0O kvs more)) at_p
  exact ⟨.non,_,d_write I (by rw [here];exact True.intro) hs he (dk_new room hd (rel2.merge rel) dd'),rfl,res _ _ _ _ k P (cells.write at_p ⟨_,upd_same,(a3L all2 all).mono P⟩) (by simp only [Rep])⟩
 ·exact told.elim
theorem c5n {its:List Value} {h:Heap} {ds:List PyData} {d:PyData} (is:its.map (SeqAt.readOf h)=ds):its.countP (fun u=>PyData.eqv (SeqAt.readOf h u) d)=ds.countP fun z=>PyData.eqv z d:=by
 rw [← is,List.countP_map]
 rfl
theorem b0E:∀ ds:List D,D.pys ds=ds.map D.py
 | []=>rfl
 | d :: ds=>by rw [D.pys,b0E ds,zax]
theorem b6r (hK:g.K=X.K) (units:X.A.units + 65 < cLine):MtR X "list.count" (rDm g c0U):=by
 rintro pins s σ H v vs u us Q I rv given ⟨x,xs,S,K,cells,rep,reps,told,res⟩
 unfold c0U at told
 split at told
 ·rename_i d
  obtain ⟨w,rfl,rep2⟩:=one_of reps
  obtain ⟨ds,seen,flat,fine,k⟩:=told
  have fine2:D.okd 60 (.lst ds)=true:=by simp only [D.okd,zak];exact ⟨rfl,flat⟩
  have lay:Dp X.K H w (vw S d).py:=hK ▸ a2R cells rep2 rfl fine
  obtain ⟨p,ws,rfl,seq,all⟩:=a0j cells rep seen
  have lays:DpAll X.K H ws (D.pys ds):=hK ▸ a3A 59 flat all
  rw [hK] at seq
  cases (show u=Value.ref p from rv)
  obtain ⟨uw,rfl,rw2⟩:=Vals.one given
  obtain ⟨bs,r1⟩:=Dp.reads I _ _ _ lay rw2
  obtain ⟨its,rel,⟨⟨cls,dd,data,sls⟩,n,here,isL,_,dt⟩,_⟩:=I.list seq
  simp only at isL dt
  subst isL dt
  obtain ⟨as,r2⟩:=Dp.readsAll I _ _ its lays rel
  have can:PyData.canLayAll0 (D.pys ds)=true:=SeqAt.canLay_of_shaped (d:=.list (D.pys ds)) (a0m fine2)
  have room:X.A.units + 1 + min (PyData.depthAll (D.pys ds)) (vw S d).py.depth < cLine:=room_in_shaped (a0m fine) units
  have is:its.map (SeqAt.readOf s.heap)=D.pys ds:=SeqAt.readsAll_map _ its as can r2
  refine call_meets PySem.F.slot_list_count ⟨_,here,rfl⟩ PySem.F.entry_list_count (PySem.F.args_list_count_2 _ _) (SeqAt.list_countAt p its.toArray n dd sls uw fun u=>PyData.eqv (SeqAt.readOf s.heap u) (vw S d).py) ⟨here,SeqAt.items_eqAt (vs:=its.toArray) (show ReadsAll s.heap its.toArray.toList _ as from r2) r1 can (SeqAt.canLay_of_shaped (a0m fine)) room,?_⟩
  refine ⟨.int (ds.countP fun z=>D.eqv z (vw S d):Nat),H,I.tok _,⟨s.toks,?_⟩,res.int k cells⟩
  show Value.int ((its.toArray.toList.countP fun u=>PyData.eqv (SeqAt.readOf s.heap u) (vw S d).py:Nat):Int) s.toks=_
  rw [List.toList_toArray,c5n is,b0E,List.countP_map]
  rfl
 ·exact told.elim
end
end Sv
namespace Sv
open PySem PySem.Spec PyProof.Rows L2
open L2H (RoomH)
def tOm (C:Addr) (m:Str) (m0:Option (Addr × Obj)) (sp:SpM) (E:L2.St→XK) (to:TE) (t:TA):TE:=fun σ H Q=>to σ H fun x H1=>∃ a dx fs,x=.ref a∧H1 a=some (.ins C dx fs)∧fs.lookup m=none∧t σ H1 fun vs H2=>sp m0 (x :: vs) H2 Q (E σ)
def b5s (C:Addr) (sp:SpM) (E:L2.St→XK) (t:TA):TE:=fun σ H Q=>t σ H fun vs H1=>∀ x dx,H1 x=none→H1 dx=none→dx≠x →
 sp none (.ref x :: vs) (upd (upd H1 dx (.own x)) x (.ins C dx [])) (fun v H2=>v=.non∧Q (.ref x) H2) (E σ)
section
variable {X:Cx} {hot:Bool} {m0:Option (Addr × Obj)} {k:Nat} {f C:Addr} {fd:FuncData} {ps:List Str} {sp:SpM} {E:L2.St→XK} {x m:Str} {q apos pos:Pos} {o e:Expr} {es:List Expr} {to:TE} {t:TA}
def b5Q (X:Cx) (o:Expr) (m:Str) (apos:Pos) (es:List Expr) (pos:Pos) (pl:Sem Bool):Prop:=eval (.Call (.Attribute o m apos) es [] pos) X.env=(do
 let ov ← eval o X.env
 standAt apos.atName
 let (f,first) ← holding [ov] (getMethod ov m pl)
 callWith pos f first (backTo pos (starEach es X.env)) (backToKw pos (keywordEach [] X.env)))
theorem a8d {pins:List (Addr × Obj)} {σ:L2.St} {H:Hp} {s:Shared} {Q:VK} {us:List Value} {vs:List V} {a:Addr} (F:FnG X.prog X.w X.K X.mg X.base hot k f fd ps sp) (hh:m0.isSome=hot) (room:RoomH k X.A) (mode:a1g X m0) (binds:L2.Binds X.K fd ps [])
  (out:PassesAt (L2N.CX X.prog X.w) X σ (E σ)) (I:Inv X pins σ H s) (rv:Vals vs us) (want:sp m0 (.ref a :: vs) H Q (E σ)):wpAny (model X.prog X.w) X.A (call (.ref f) (.ref a :: us)) (EP X pins σ Q) X.xe s :=
 a7e (dvs:=[]) (vs:=.ref a :: vs) F hh room mode binds .nil out I (.cons rfl rv) (by rw [List.append_nil];exact want)
theorem c1S {pl:Sem Bool} (F:FnG X.prog X.w X.K X.mg X.base hot k f fd ps sp) (hh:m0.isSome=hot) (room:RoomH k X.A) (mode:a1g X m0) (cls:Cls X.K C) (is:Meth X.K C m f) (binds:L2.Binds X.K fd ps [])
  (out:∀ σ,PassesAt (L2N.CX X.prog X.w) X σ (E σ)) (recv:PE X o to) (args:PA X (e :: es) t) (form:b5Q X o m apos (e :: es) pos pl) (plain:starEach (e :: es) X.env=(false,eval e X.env) :: starEach es X.env) (rest:(backTo pos (starEach es X.env)).any (·.1)=false) :
  PE X (.Call (.Attribute o m apos) (e :: es) [] pos) (tOm C m m0 sp E to t) where
 run pins s σ H Q I want:=PySem.W.methodCall_KW (thn (recv.run pins s σ H _ I want) fun u s1 ⟨x,H1,J,rx,a,dx,fs,isRef,at_a,free,go⟩=>by
  subst isRef
  cases (show u=Value.ref a from rx)
  exact getmeth_ok J at_a cls is free (PySem.W.callWith_K (first:=[.ref a]) (h₀:=X.base) J.ok.mod.kin is.kp
   (thn (args.run pos pins s1 σ H1 _ J go) fun us s2 ⟨vs,H2,J2,rv,want2⟩=>⟨J2.kIn,a8d F hh room mode binds (out σ) J2 rv want2⟩) plain rest)) form
theorem b7Y {pl:Sem Bool} (F:FnG X.prog X.w X.K X.mg X.base hot k f fd ps sp) (hh:m0.isSome=hot) (room:RoomH k X.A) (mode:a1g X m0) (cls:Cls X.K C) (is:Meth X.K C m f) (binds:L2.Binds X.K fd ps [])
  (out:∀ σ,PassesAt (L2N.CX X.prog X.w) X σ (E σ)) (recv:PE X o to) (form:b5Q X o m apos [] pos pl):PE X (.Call (.Attribute o m apos) [] [] pos) (tOm C m m0 sp E to tNil) where
 run pins s σ H Q I want:=PySem.W.methodCall_KW (thn (recv.run pins s σ H _ I want) fun u s1 ⟨x,H1,J,rx,a,dx,fs,isRef,at_a,free,go⟩=>by
  subst isRef
  cases (show u=Value.ref a from rx)
  exact getmeth_ok J at_a cls is free (PySem.W.callWith_K0 (first:=[.ref a]) J.kIn is.kp (a8d F hh room mode binds (out σ) J .nil go))) form
theorem b3z {pins:List (Addr × Obj)} {σ:L2.St} {H:Hp} {s:Shared} {Q:VK} {us:List Value} {vs:List V} (M:Mk X.K C f) (F:FnG X.prog X.w X.K X.mg X.base false k f fd ps sp) (room:RoomH (k + 1) X.A) (mode:a1g X none) (binds:L2.Binds X.K fd ps [])
  (out:PassesAt (L2N.CX X.prog X.w) X σ (E σ)) (I:Inv X pins σ H s) (rv:Vals vs us)
  (want:∀ x dx,H x=none→H dx=none→dx≠x→sp none (.ref x :: vs) (upd (upd H dx (.own x)) x (.ins C dx [])) (fun v H2=>v=.non∧Q (.ref x) H2) (E σ)):wpAny (model X.prog X.w) X.A (call (.ref C) us) (EP X pins σ Q) X.xe s:=by
 have young:=fun n (h:s.heap.objs.size≤n)=>I.hok.fresh h
 have asked:=want (s.heap.objs.size + 1) _ (young _ (Nat.le_add_right _ 1)) (young _ (Nat.le_refl _)) (Nat.ne_of_lt (Nat.lt_succ_self _))
 have J:=Inv.made (C:=C) I
 have given:Vals (V.ref (s.heap.objs.size + 1) :: vs) (Value.ref (s.heap.objs.size + 1) :: us):=.cons rfl rv
 have bound:=binds _ (Value.ref (s.heap.objs.size + 1) :: us) J.kIn (by rw [List.append_nil,← given.length];exact F.len _ _ _ _ _ rfl asked)
 rw [List.append_nil] at bound
 have inner:=F.run _ X.stack _ _ ⟨Value.ref (s.heap.objs.size + 1) :: us,[]⟩ _ _ _ (E σ) none rfl (room.make C us []) ⟨mode.1,show (X.A.under _).handled=none from J.ok.hd mode.2⟩ (J.env0.make C us []) bound given asked
 apply wpAny_call
 apply make_map (f:=f) I.kIn M.makes M.init (beq_iff_eq.mp M.fn)
 apply codeAny_mono inner
 rintro (err | (_ | u | _ | _)) s2 told
 ·exact out _ _ _ _ _ J told
 all_goals first | exact told.elim | skip
 obtain ⟨v,H2,J2,like,rfl,done⟩:=J.after told
 exact ⟨like,.ref _,H2,J2,rfl,done⟩
theorem pe_mk (M:Mk X.K C f) (F:FnG X.prog X.w X.K X.mg X.base false k f fd ps sp) (room:RoomH (k + 1) X.A) (mode:a1g X none) (gl:Gl X x) (at_x:X.mg x=some (.ref C)) (db:(x == ("__debug__" : Str))=false) (binds:L2.Binds X.K fd ps [])
  (out:∀ σ,PassesAt (L2N.CX X.prog X.w) X σ (E σ)) (args:PA X (e :: es) t) (plain:starEach (e :: es) X.env=(false,eval e X.env) :: starEach es X.env) (rest:(backTo pos (starEach es X.env)).any (·.1)=false) :
  PE X (.Call (.Name x q) (e :: es) [] pos) (b5s C sp E t) where
 run pins s σ H Q I want:=wpAny_Call_Name_kw (ld_glob I gl at_x (PySem.W.callWith_K (h₀:=X.base) I.ok.mod.kin M.kp
  (thn (args.run pos pins s σ H _ I want) fun us s1 ⟨vs,H1,J,rv,go⟩=>⟨J.kIn,b3z M F room mode binds (out σ) J rv go⟩) plain rest) db)
theorem b7V (M:Mk X.K C f) (F:FnG X.prog X.w X.K X.mg X.base false k f fd ps sp) (room:RoomH (k + 1) X.A) (mode:a1g X none) (gl:Gl X x) (at_x:X.mg x=some (.ref C)) (db:(x == ("__debug__" : Str))=false) (binds:L2.Binds X.K fd ps [])
  (out:∀ σ,PassesAt (L2N.CX X.prog X.w) X σ (E σ)):PE X (.Call (.Name x q) [] [] pos) (b5s C sp E tNil) where
 run pins s σ H Q I want:=wpAny_Call_Name_kw (ld_glob I gl at_x (PySem.W.callWith_K0 I.kIn M.kp (b3z M F room mode binds (out σ) I .nil want)) db)
end
def c3F (te:TE):TE:=fun σ H Q=>te σ H fun x H1=>∃ (d:Addr) (kvs:List (Key × V)),x=.ref d∧H1 d=some (.dK kvs)∧∀ p,H1 p=none→Q (.ref p) (upd H1 p (.lst (kvs.map (·.2))))
section
variable {X:Cx} {e:Expr} {te:TE} {p apos cpos pos:Pos}
theorem b46 (calm:X.calm=true) (he:PE X e te) (gl:Gl X "list") (free:X.mg "list" = none) (base:attributeBase e "values" X.env (eval e X.env)=eval e X.env) (line:(apos.endLine == cpos.line)=true) :
  PE X (.Call (.Name "list" p) [.Call (.Attribute e "values" apos) [] [] cpos] [] pos) (c3F te) where
 run pins s σ H Q I want:=by
  refine wpAny_Call_Name_kw (ld_blt I gl free (u:=.type "list") (by decide +kernel) (PyProof.Rows.callWith_type1 (Calls.spliced_cons ?_) rfl rfl))
  refine wpAny_Call_method (T := "dict") (id := "dict.values") base rfl line PySem.F.plainAttrs_dict PySem.F.slot_dict_values PySem.F.type_dict_values (thn (he.run pins s σ H _ I want) ?_)
  rintro u s1 ⟨x,H1,J,rx,d,kvs,rfl,at_d,go⟩
  cases (show u=Value.ref d from rx)
  obtain ⟨few,notSys,vs,kv,isD⟩:=J.hok d _ at_d
  obtain ⟨ep,lies⟩:=isD.dictAt
  have same:kvs.length=vs.length:=Paired.length kv
  have J2:Inv X pins σ H1 { s1 with heap:=s1.heap.push { cls:=.type "dict_values",data:=.fields #[.ref d] } }:=J.kept (t':=s1.toks) fun b ob z=>Heap.get?_push_of_some _ z
  refine ⟨isD.typeIs,isD.mapOf.noDict,?_⟩
  refine method_meetsIn PySem.F.slot_dict_values PySem.F.entry_dict_values rfl (PySem.evalArgs_none ⟨rfl,isD.typeIs,PySem.F.args_dict_values_1 _,_,meets_dict_values (mixKind X.prog X.w) d notSys,⟨vs,isD⟩,?_⟩)
  refine Calls.spliced_nil ?_
  refine PySem.W.kdl_call (PySem.W.kdl_values (knd:=mixKind X.prog X.w) (kvs:=vs) (ep:=ep)) (J.ok.hd calm) ⟨⟨_,Heap.get?_push_size _ rfl,rfl,rfl⟩,lies.push _⟩ (by rw [← same];exact few) fun h' tk acc c keep made told=>?_
  have like:Vals (kvs.map (·.2)) acc.toList:=vals_of_at (by rw [zag,same];simpa using told.1.symm) fun j x w h1 h2=>by
   obtain ⟨k,at_j⟩:=told.2 j w (by rw [← Array.getElem?_toList];exact h2)
   rw [zbh,zam] at h1
   obtain ⟨y,at_y,rfl⟩:=h1
   obtain ⟨z,at_z,_,rel⟩:=LiI.paired_get kv at_y
   rw [at_j] at at_z
   cases at_z
   exact rel
  exact ⟨.ref _,_,J2.laid (t':=tk) (o:=.lst (kvs.map (·.2))) keep (Nat.le_refl _) ⟨by rw [zag];exact few,acc.toList,c,like,by rw [Array.toArray_toList];exact made⟩,rfl,go _ (J2.hok.fresh (Nat.le_refl _))⟩
end
end Sv
namespace Sv
open PySem PySem.Spec PyProof.Rows L2
def a74:List D→Option (List (Key × D))
 | []=>some []
 | .tup [k,v] :: r=>match keyD k,a74 r with
  | some key,some q=>some ((key,v) :: q)
  | _,_=>none
 | _=>none
def a9v (cell:Bool) (xs:List D) (S:SS) (K:DK):Prop:=match xs with
 | [d]=>∃ ps kvs,vw S d=.lst ps∧a74 ps=some kvs∧outK cell (a0O [] kvs) S K
 | _=>False
def c0B (xs:List D) (S:SS) (K:DK):Prop:=match xs with
 | [d]=>∃ bs:List Bool,vw S d=.lst (bs.map D.bl)∧K (.bl (bs.all id)) S
 | _=>False
def c3E (xs:List D) (S:SS) (K:DK):Prop:=match xs with
 | [d]=>∃ ns:List Int,vw S d=.lst (ns.map D.int)∧K (.int ns.sum) S
 | _=>False
def c3C (xs:List D) (S:SS) (K:DK):Prop:=match xs with
 | [.int i]=>i.natAbs.log2 < 1920∧K (.str (toString i)) S
 | [.str z]=>K (.str z) S
 | _=>False
def keyV:Key→D
 | .inl i=>.int i | .inr x=>.str x
def a99 (cell:Bool) (xs:List D) (S:SS) (K:DK):Prop:=match xs with
 | [d]=>∃ kvs,vw S d=.dic kvs∧outL cell (kvs.map fun kv=>keyV kv.1) S K
 | _=>False
def b0a (cell:Bool) (xs:List D) (S:SS) (K:DK):Prop:=match xs with
 | [d]=>∃ z,d=.str z∧z.cps.size≤sizeLine∧outL cell (z.cps.toList.map fun c=>D.str ⟨#[c]⟩) S K
 | _=>False
def c1n (x:D) (xs:List D) (S:SS) (K:DK):Prop:=match x,xs with
 | .obj p,[d]=>∃ ds q es,S p=some (.lst ds)∧d=.obj q∧S q=some (.lst es)∧ds.length + es.length≤sizeLine∧K .non (S.set p (.lst (ds ++ es)))
 | _,_=>False
def b3l (x:D) (S:SS):Prop:=(∃ kvs,x=.dic kvs)∨∃ p kvs,x=.obj p∧S p=some (.dic kvs)
def b34 (x:D) (xs:List D) (S:SS) (K:DK):Prop:=match xs with
 | [k]=>∃ kvs key,vw S x=.dic kvs∧keyD k=some key∧K ((valD kvs key).getD .non) S
 | [k,z]=>∃ kvs key,vw S x=.dic kvs∧keyD k=some key∧K ((valD kvs key).getD z) S
 | _=>False
def b4a (x:D) (xs:List D) (S:SS) (K:DK):Prop:=match x,xs with
 | .obj p,[k,z]=>∃ kvs key,S p=some (.dic kvs)∧keyD k=some key∧kvs.length < sizeLine∧(∀ d,valD kvs key=some d→K d S)∧(valD kvs key=none→K z (S.set p (.dic (putD kvs key z))))
 | _,_=>False
def a9w (x:D) (xs:List D) (S:SS) (K:DK):Prop:=match x,xs with
 | .obj p,[k,z]=>∃ kvs key,S p=some (.dic kvs)∧keyD k=some key∧(∀ d,valD kvs key=some d→K d (S.set p (.dic (a8u kvs key))))∧(valD kvs key=none→K z S)
 | _,_=>False
def c1x (x:D) (xs:List D) (S:SS) (K:DK):Prop:=match xs with
 | [d]=>∃ ds j z,vw S x=.lst ds∧a1G d=true∧ds.all a1G=true∧ds[j]?=some z∧D.eqv z d=true∧(∀ m z',m < j→ds[m]?=some z'→D.eqv z' d=false)∧K (.int (j:Nat)) S
 | _=>False
section
variable {X:Cx} {g:Gd} {S:SS} {H:Hp}
theorem a8c:∀ (bs:List Bool) {vs:List V},a0e g S H (bs.map D.bl) vs→vs=bs.map V.bl
 | [],_,r=>by simp only [List.map_nil,a0e] at r;exact r
 | z :: zs,_,r=>by
  simp only [zax,a0e] at r
  obtain ⟨v,q,rfl,one,more⟩:=r
  rw [a2x one,a8c zs more,zax]
theorem a3W:∀ (bs:List Int) {vs:List V},a0e g S H (bs.map D.int) vs→vs=bs.map V.int
 | [],_,r=>by simp only [List.map_nil,a0e] at r;exact r
 | z :: zs,_,r=>by
  simp only [zax,a0e] at r
  obtain ⟨v,q,rfl,one,more⟩:=r
  rw [a0g one,a3W zs more,zax]
theorem pairs_at (hK:g.K=X.K):∀ {ps:List D} {kvs:List (Key × D)} {vs:List V},a74 ps=some kvs→a0e g S H ps vs→∃ as ws,vs=as.map V.ref∧Paired (fun p kv=>SqT X.K H p [kV kv.1,kv.2]) as ws∧a0K g S H kvs ws
 | [],kvs,vs,e,r=>by
  cases e
  simp only [a0e] at r
  subst r
  exact ⟨[],[],rfl,.nil,by simp only [a0K]⟩
 | d :: r0,kvs,vs,e,r=>by
  simp only [a0e] at r
  obtain ⟨v,q,rfl,one,more⟩:=r
  unfold a74 at e
  split at e
  ·rename_i e0
   cases e0
  ·rename_i k z r1 e0
   obtain ⟨rfl,rfl⟩:=List.cons.inj e0
   split at e
   ·rename_i key kv ek er
    cases e
    obtain ⟨as,ws,rfl,pw,rk⟩:=pairs_at hK er more
    simp only [Rep] at one
    obtain ⟨p,us,rfl,at_p,all⟩:=one
    obtain ⟨w1,w2,rfl,r1,r2⟩:=a08 all
    cases a01 ek r1
    refine ⟨p :: as,(key,w2) :: ws,rfl,.cons ?_ pw,by simp only [a0K];exact ⟨w2,ws,rfl,r2,rk⟩⟩
    rw [← hK]
    exact at_p.sq
   ·cases e
  ·cases e
theorem b1C (calm:X.calm=true) (hK:g.K=X.K) (cell:Bool):CallR X (.type "dict") (rDc g (a9v cell)):=by
 rintro pins s σ H vs us Q I given ⟨xs,S,K,cells,reps,told,res⟩
 unfold a9v at told
 split at told
 ·obtain ⟨v,rfl,rep⟩:=one_of reps
  obtain ⟨ps,kvs,seen,is,k⟩:=told
  obtain ⟨p,ws,rfl,seq,all⟩:=a0j cells rep seen
  rw [hK] at seq
  obtain ⟨as,us2,rfl,pw,rk⟩:=pairs_at hK is all
  exact call_dictP calm _ _ _ _ _ _ _ I given ⟨p,as,us2,rfl,seq,pw,fun q free=>res.outK k cells (a3L rk (by simp only [a0K])) free⟩
 ·exact told.elim
theorem b1T {kvs:List (Key × D)} {ws:List (Key × V)} (h:a0K g S H kvs ws):a0e g S H (kvs.map fun kv=>keyV kv.1) (ws.map fun kv=>kV kv.1):=by
 have q:=a0T h
 clear h
 refine a3O ?_
 induction q with
 | nil=>exact .nil
 | @cons x y l m r _ ih =>
  refine .cons ?_ ih
  show Rep g S H (keyV x.1) (kV y.1)
  rw [r.1]
  cases y.1 <;> (show Rep g S H _ _;unfold keyV;simp only [Rep];rfl)
theorem b1Z (calm:X.calm=true) (cell:Bool):CallR X (.type "list") (rDc g (a99 cell)):=by
 rintro pins s σ H vs us Q I given ⟨xs,S,K,cells,reps,told,res⟩
 unfold a99 at told
 split at told
 ·obtain ⟨v,rfl,rep⟩:=one_of reps
  obtain ⟨kvs,seen,k⟩:=told
  obtain ⟨p,ws,rfl,rd,all⟩:=a1s cells rep seen
  exact call_listD calm _ _ _ _ _ _ _ I given ⟨p,ws,rfl,rd,fun q free=>res.outL k cells (b1T all) free⟩
 ·exact told.elim
theorem a4O:∀ {l:List Nat} {us:List Value},us.length=l.length→(∀ (j:Nat) (v:Value),us[j]?=some v→∃ c u,l[j]?=some c∧v=.str ⟨#[c]⟩ u)→Vals (l.map fun c=>V.str ⟨#[c]⟩) us
 | [],[],_,_=>.nil
 | c :: l,v :: us,hl,h=>by
  obtain ⟨c',u,e1,e2⟩:=h 0 v rfl
  have e1:c=c':=Option.some.inj e1
  subst e1
  rw [zax]
  exact .cons ⟨u,e2⟩ (a4O (by simpa using hl) fun j v e=>by
   obtain ⟨c,u,a,b⟩:=h (j + 1) v (by simpa using e)
   exact ⟨c,u,by simpa using a,b⟩)
theorem a8p (hcalm:X.calm=true):CallR X (.type "list") (fun xs H Q=>∃ z:Str,xs=[.str z]∧z.cps.size≤sizeLine∧∀ p,H p=none→Q (.ref p) (upd H p (.lst (z.cps.toList.map fun c=>V.str ⟨#[c]⟩)))):=by
 intro pins s σ H xs us Q I r q
 obtain ⟨z,ex,hz,q⟩:=q
 subst ex
 obtain ⟨u,eu,rx⟩:=vals1 r
 subst eu
 obtain ⟨t,rfl⟩:=rx
 refine call_list_str (I.ok.hd hcalm) z t (fun h' tk acc c' hk hD hacc=>?_) hz
 have hv:Vals (z.cps.toList.map fun c=>V.str ⟨#[c]⟩) acc.toList:=a4O (by rw [Array.length_toList,Array.length_toList];exact hacc.1) fun j v e=>by
  obtain ⟨c,u,h1,h2⟩:=hacc.2 j v (by rw [← Array.getElem?_toList];exact e)
  exact ⟨c,u,by rw [Array.getElem?_toList];exact h1,h2⟩
 exact ⟨.ref s.heap.objs.size,upd H s.heap.objs.size (.lst (z.cps.toList.map fun c=>V.str ⟨#[c]⟩)),I.laid (t':=tk) hk (Nat.le_refl _)
  (show ObjOk X.prog X.w _ _ _ (.lst _) from ⟨by rw [zag,Array.length_toList];exact hz,acc.toList,c',hv,by rw [Array.toArray_toList];exact hD⟩),rfl,q _ (I.hok.fresh (Nat.le_refl _))⟩
theorem b0O {l:List Nat}:a0e g S H (l.map fun c=>D.str ⟨#[c]⟩) (l.map fun c=>V.str ⟨#[c]⟩):=by
 refine a3O ?_
 induction l with
 | nil=>exact .nil
 | cons c l ih =>
  refine .cons ?_ ih
  show Rep g S H (.str _) (V.str _)
  simp only [Rep]
theorem b60:MtR X "list.extend" (rDm g c1n):=by
 rintro pins s σ H v vs u us Q I rv given ⟨x,xs,S,K,cells,rep,reps,told,res⟩
 unfold c1n at told
 split at told
 ·rename_i p d
  obtain ⟨w,rfl,rep2⟩:=one_of reps
  cases a0r rep
  obtain ⟨ds,q,es,at_p,rfl,at_q,few,k⟩:=told
  cases a0r rep2
  obtain ⟨ws,here,all⟩:=cells p _ at_p
  obtain ⟨ws2,here2,all2⟩:=cells q _ at_q
  have P:=a0d.write (H:=H) (o:=.lst (ws ++ ws2)) (c:=.lst (ds ++ es)) at_p
  exact mt_extend _ _ _ _ _ _ _ _ _ I rv given ⟨p,q,ws,ws2,rfl,rfl,here,here2,by rw [← all.length,← all2.length];exact few,res _ _ _ _ k P (cells.write at_p ⟨_,upd_same,(all.append all2).mono P⟩) (by simp only [Rep])⟩
 ·exact told.elim
theorem b2a (calm:X.calm=true) (cell:Bool):CallR X (.type "list") (rDc g (b0a cell)):=by
 rintro pins s σ H vs us Q I given ⟨xs,S,K,cells,reps,told,res⟩
 unfold b0a at told
 split at told
 ·obtain ⟨v,rfl,rep⟩:=one_of reps
  obtain ⟨z,rfl,hz,k⟩:=told
  have ev:v=.str z:=by simpa only [Rep] using rep
  subst ev
  exact a8p calm _ _ _ _ _ _ _ I given ⟨z,rfl,hz,fun q free=>res.outL k cells b0O free⟩
 ·exact told.elim
theorem b6b (calm:X.calm=true) (hK:g.K=X.K):CallR X (.builtin "all") (rDc g c0B):=by
 rintro pins s σ H vs us Q I given ⟨xs,S,K,cells,reps,told,res⟩
 unfold c0B at told
 split at told
 ·obtain ⟨v,rfl,rep⟩:=one_of reps
  obtain ⟨bs,seen,k⟩:=told
  obtain ⟨p,ws,rfl,seq,all⟩:=a0j cells rep seen
  rw [hK] at seq
  cases a8c bs all
  exact cr_all calm _ _ _ _ _ _ _ I given ⟨p,bs,rfl,seq,res.bl k cells⟩
 ·exact told.elim
theorem b8Y (calm:X.calm=true) (hK:g.K=X.K):CallR X (.builtin "sum") (rDc g c3E):=by
 rintro pins s σ H vs us Q I given ⟨xs,S,K,cells,reps,told,res⟩
 unfold c3E at told
 split at told
 ·obtain ⟨v,rfl,rep⟩:=one_of reps
  obtain ⟨bs,seen,k⟩:=told
  obtain ⟨p,ws,rfl,seq,all⟩:=a0j cells rep seen
  rw [hK] at seq
  cases a3W bs all
  exact cr_sum calm _ _ _ _ _ _ _ I given ⟨p,bs,rfl,seq,res.int k cells⟩
 ·exact told.elim
theorem str_ok:CallR X (.type "str") (rDc g c3C):=by
 rintro pins s σ H vs us Q I given ⟨xs,S,K,cells,reps,told,res⟩
 unfold c3C at told
 split at told
 ·obtain ⟨v,rfl,rep⟩:=one_of reps
  cases a0g rep
  exact call_str_int _ _ _ _ _ _ _ I given ⟨_,rfl,told.1,res.str told.2 cells⟩
 ·obtain ⟨v,rfl,rep⟩:=one_of reps
  cases a0u rep
  obtain ⟨u,rfl,t,rfl⟩:=vals1 given
  exact PySem.P.str_of_str ⟨.str _,H,I,⟨t,rfl⟩,res.str told cells⟩
 ·exact told.elim
theorem b2L {x:D} {v:V} {K:zbj} (cells:CellsOk g S H) (rep:Rep g S H x v) (h:b3l x S):tyV K "dict" v H:=by
 rcases h with ⟨kvs,rfl⟩ | ⟨p,kvs,rfl,at_p⟩
 ·simp only [Rep] at rep
  obtain ⟨p,ws,rfl,_,here,_⟩:=rep
  exact .inr (.inr (.inl ⟨rfl,.inl ⟨ws,here⟩⟩))
 ·cases a0r rep
  obtain ⟨ws,here,_⟩:=cells p _ at_p
  exact .inr (.inr (.inl ⟨rfl,.inl ⟨ws,here⟩⟩))
theorem b35 (hu:X.A.units + 1 < cLine):MtR X "dict.get" (rDm g b34):=by
 rintro pins s σ H v vs u us Q I rv given ⟨x,xs,S,K,cells,rep,reps,told,res⟩
 unfold b34 at told
 split at told
 ·obtain ⟨w,rfl,rep2⟩:=one_of reps
  obtain ⟨kvs,key,seen,is,k⟩:=told
  obtain ⟨p,ws,rfl,rd,all⟩:=a1s cells rep seen
  cases a01 is rep2
  cases (show u=Value.ref p from rv)
  obtain ⟨uk,rfl,rk⟩:=Vals.one given
  refine d_get1 hu I (.inl ⟨ws,key,rd,rfl,rfl⟩) rk fun w' s' I' rw'=>?_
  rcases a1z all key with ⟨z1,z2⟩ | ⟨d2,w2,z1,z2,like⟩
  ·rw [z2] at rw'
   rw [z1] at k
   exact ⟨_,H,I',rw',res.non k cells⟩
  ·rw [z2] at rw'
   rw [z1] at k
   exact ⟨_,H,I',rw',res.val k cells like⟩
 ·obtain ⟨w,w2,rfl,rep2,rep3⟩:=a08 reps
  obtain ⟨kvs,key,seen,is,k⟩:=told
  obtain ⟨p,ws,rfl,rd,all⟩:=a1s cells rep seen
  cases a01 is rep2
  cases (show u=Value.ref p from rv)
  obtain ⟨uk,ud,rfl,rk,rd2⟩:=Vals.two given
  refine d_get2 hu I (.inl ⟨ws,key,rd,rfl,rfl⟩) rk rd2 fun w' s' I' rw'=>?_
  rcases a1z all key with ⟨z1,z2⟩ | ⟨d2,w3,z1,z2,like⟩
  ·rw [z2] at rw'
   rw [z1] at k
   exact ⟨_,H,I',rw',res.val k cells rep3⟩
  ·rw [z2] at rw'
   rw [z1] at k
   exact ⟨_,H,I',rw',res.val k cells like⟩
 ·exact told.elim
theorem b4b:MtR X "dict.setdefault" (rDm g b4a):=by
 rintro pins s σ H v vs u us Q I rv given ⟨x,xs,S,K,cells,rep,reps,told,res⟩
 unfold b4a at told
 split at told
 ·rename_i p k0 z0
  obtain ⟨w,w2,rfl,rep2,rep3⟩:=a08 reps
  cases a0r rep
  cases (show u=Value.ref p from rv)
  obtain ⟨kvs,key,at_p,is,few,k1,k2⟩:=told
  obtain ⟨ws,here,all⟩:=cells p _ at_p
  cases a01 is rep2
  obtain ⟨uk,ud,rfl,rk,rd2⟩:=Vals.two given
  refine d_setd I here rk rd2 (by rw [← (a0T all).length];exact few) (fun v hv w' s' I' rw'=>?_) (fun hn w' s' I' rw'=>?_)
  ·rcases a1z all key with ⟨z1,z2⟩ | ⟨d2,w3,z1,z2,like⟩
   ·rw [hv] at z2;cases z2
   ·rw [hv] at z2
    cases z2
    exact ⟨_,H,I',rw',res.val (k1 _ z1) cells like⟩
  ·rcases a1z all key with ⟨z1,z2⟩ | ⟨d2,w3,z1,z2,like⟩
   ·have P:=a0d.write (H:=H) (o:=.dK (putK ws key w2)) (c:=.dic (putD kvs key z0)) at_p
    exact ⟨_,_,I',rw',res _ _ _ _ (k2 z1) P (cells.write at_p ⟨_,upd_same,(a7b all key rep3).mono P⟩) (rep3.mono P)⟩
   ·rw [hn] at z2;cases z2
 ·exact told.elim
theorem b1D:MtR X "dict.pop" (rDm g a9w):=by
 rintro pins s σ H v vs u us Q I rv given ⟨x,xs,S,K,cells,rep,reps,told,res⟩
 unfold a9w at told
 split at told
 ·rename_i p k0 z0
  obtain ⟨w,w2,rfl,rep2,rep3⟩:=a08 reps
  cases a0r rep
  cases (show u=Value.ref p from rv)
  obtain ⟨kvs,key,at_p,is,k1,k2⟩:=told
  obtain ⟨ws,here,all⟩:=cells p _ at_p
  cases a01 is rep2
  obtain ⟨uk,ud,rfl,rk,rd2⟩:=Vals.two given
  rcases a1z all key with ⟨z1,z2⟩ | ⟨d2,w3,z1,z2,like⟩
  ·exact d_popD I here rk z2 fun s' I'=>⟨_,H,I',rd2,res.val (k2 z1) cells rep3⟩
  ·have P:=a0d.write (H:=H) (o:=.dK (dropK ws key)) (c:=.dic (a8u kvs key)) at_p
   exact d_pop I here rk z2 (.inr ⟨_,rfl⟩) fun w' s' I' rw'=>⟨w3,_,I',rw',res _ _ _ _ (k1 _ z1) P (cells.write at_p ⟨_,upd_same,(a7A key all).mono P⟩) (like.mono P)⟩
 ·exact told.elim
theorem b7o (hK:g.K=X.K):MtR X "list.index" (rDm g c1x):=by
 rintro pins s σ H v vs u us Q I rv given ⟨x,xs,S,K,cells,rep,reps,told,res⟩
 unfold c1x at told
 split at told
 ·rename_i d
  obtain ⟨w,rfl,rep2⟩:=one_of reps
  obtain ⟨ds,j,z,seen,fd,fds,at_j,same,other,k⟩:=told
  obtain ⟨p,ws,rfl,seq,all⟩:=a0j cells rep seen
  rw [hK] at seq
  obtain ⟨wz,at_w,rz⟩:=all.get at_j
  have fz:a1G z=true:=List.all_eq_true.mp fds z (zaq at_j)
  refine mt_index _ _ _ _ _ _ _ _ _ I rv given ⟨p,ws,w,j,wz,rfl,rfl,seq,a2y fd rep2,a1H fds all,at_w,(a3D fz fd rz rep2).trans same,fun m z' hm hz'=>?_,res.int k cells⟩
  have hlt:m < ds.length:=by rw [all.length];exact (List.getElem?_eq_some_iff.mp hz').1
  have at_m:ds[m]?=some ds[m]:=zbi hlt
  obtain ⟨w',at_w',r'⟩:=all.get at_m
  rw [hz'] at at_w'
  cases at_w'
  have fm:a1G ds[m]=true:=List.all_eq_true.mp fds _ (List.getElem_mem hlt)
  exact (a3D fm fd r' rep2).trans (other m _ hm at_m)
 ·exact told.elim
def c6h:V→List V→Hp→VK→Prop:=fun x xs H Q=>∃ (a:Addr) (ys:List V) (y:V) (j:Nat) (z:V),x=V.ref a∧xs=[y]∧H a=some (.lst ys)∧flatV y=true∧ys.all flatV=true∧ys[j]?=some z∧eqV z y=true ∧
 (∀ (m:Nat) (z':V),m < j→ys[m]?=some z'→eqV z' y=false)∧Q .non (upd H a (.lst (ys.eraseIdx j)))
theorem b7G:MtR X "list.remove" c6h:=by
 intro pins s σ H x xs v us Q I rx rxs h
 obtain ⟨a,ys,y,j,z,rfl,rfl,hH,fy,fys,hz,hzj,hno,q⟩:=h
 cases rx
 cases rxs with
 | cons ry rt =>
  rename_i uy ut
  cases rt
  obtain ⟨sz,its,n,rv,hl,e⟩:=I.lstM hH
  obtain ⟨u,hu,ru⟩:=rv.get hz
  obtain ⟨hjl,hje⟩:=List.getElem?_eq_some_iff.mp hu
  have hvl:=rv.length
  have hj:j < its.toArray.size:=by simpa using hjl
  refine call_meets PySem.F.slot_list_remove ⟨_,e,rfl⟩ PySem.F.entry_list_remove (PySem.F.args_list_remove_2 _ _)
   (SeqAt.list_removeAt a its.toArray n none #[] uy (eqU y) j hj ?_ ?_ (by rw [List.size_toArray];omega)) ⟨e,fun u' hu'=>mem_eqAt ry fy rv fys u' (by simpa using hu'),?_⟩
  ·have e1:its.toArray[j]=u:=by simpa using hje
   rw [e1,eqU_of ru (flat_at fys hz)]
   exact hzj
  ·intro m hm hmj
   have hml:m < its.length:=by simpa using hm
   have hmy:m < ys.length:=by omega
   have hy':ys[m]?=some ys[m]:=zbi hmy
   obtain ⟨u2,hu2,ru2⟩:=rv.get hy'
   obtain ⟨_,hme⟩:=List.getElem?_eq_some_iff.mp hu2
   have e1:its.toArray[m]=u2:=by simpa using hme
   rw [e1,eqU_of ru2 (flat_at fys hy')]
   exact hno m _ hmj hy'
  ·refine ⟨.non,_,I.lset (its':=its.eraseIdx j) hH e ?_ (rv.eraseIdx j) ?_,rfl,q⟩
   ·show its.toArray.eraseIdxIfInBounds j=(its.eraseIdx j).toArray
    rw [List.eraseIdxIfInBounds_toArray]
   ·have:=len_erase ys j
    omega
def c10 (x:D) (xs:List D) (S:SS) (K:DK):Prop:=match x,xs with
 | .obj p,[d]=>∃ ds j z,S p=some (.lst ds)∧a1G d=true∧ds.all a1G=true∧ds[j]?=some z∧D.eqv z d=true∧(∀ m z',m < j→ds[m]?=some z'→D.eqv z' d=false)∧K .non (S.set p (.lst (ds.eraseIdx j)))
 | _,_=>False
theorem b72:MtR X "list.remove" (rDm g c10):=by
 rintro pins s σ H v vs u us Q I rv given ⟨x,xs,S,K,cells,rep,reps,told,res⟩
 unfold c10 at told
 split at told
 ·rename_i p d
  obtain ⟨w,rfl,rep2⟩:=one_of reps
  cases a0r rep
  obtain ⟨ds,j,z,at_p,fd,fds,at_j,same,other,k⟩:=told
  obtain ⟨ws,here,all⟩:=cells p _ at_p
  obtain ⟨wz,at_w,rz⟩:=all.get at_j
  have fz:a1G z=true:=List.all_eq_true.mp fds z (zaq at_j)
  have P:=a0d.write (H:=H) (o:=.lst (ws.eraseIdx j)) (c:=.lst (ds.eraseIdx j)) at_p
  have er:a0e g S H (ds.eraseIdx j) (ws.eraseIdx j):=by
   rw [List.eraseIdx_eq_take_drop_succ,List.eraseIdx_eq_take_drop_succ]
   exact (all.take j).append (all.drop (j + 1))
  refine b7G _ _ _ _ _ _ _ _ _ I rv given ⟨p,ws,w,j,wz,rfl,rfl,here,a2y fd rep2,a1H fds all,at_w,(a3D fz fd rz rep2).trans same,fun m z' hm hz'=>?_,res _ _ _ _ k P (cells.write at_p ⟨_,upd_same,er.mono P⟩) (by simp only [Rep])⟩
  have hlt:m < ds.length:=by rw [all.length];exact (List.getElem?_eq_some_iff.mp hz').1
  have at_m:ds[m]?=some ds[m]:=zbi hlt
  obtain ⟨w',at_w',r'⟩:=all.get at_m
  rw [hz'] at at_w'
  cases at_w'
  have fm:a1G ds[m]=true:=List.all_eq_true.mp fds _ (List.getElem_mem hlt)
  exact (a3D fm fd r' rep2).trans (other m _ hm at_m)
 ·exact told.elim
end
end Sv
namespace Sv
open PySem PySem.Spec PyProof.Rows L2 PySem.Froz
def b1f (P:Program) (w:World) (h:Heap) (a:Addr) (l:List Str):Prop :=
 ∃ D:SD,h.get? a=some (sObj "set" D)∧TxOk P w D l∧Ris D.2.2.place.toList∧(w.params.followText "set-order" = true∨D.2.2.led=true)
theorem b1f.keep {P:Program} {w:World} {h h':Heap} {a:Addr} {l:List Str} (t:b1f P w h a l) (k:∀ o,h.get? a=some o→h'.get? a=some o):b1f P w h' a l:=by
 obtain ⟨D,at_a,r⟩:=t
 exact ⟨D,k _ at_a,r⟩
theorem a9a {h:Int} {v:Value} {D:SD} (r:Ris D.2.2.place.toList):Ris (addTx h v D).2.2.place.toList∧(addTx h v D).2.2.led=D.2.2.led:=by
 have r1:=layNew_ris D.2.2 D.1 h v r
 have l1:=layNew_led D.2.2 D.1 h v
 have key:∀ t2:SetTable,Ris t2.place.toList→t2.led=D.2.2.led→Ris (tailTx D.2.1 (layNew D.2.2 D.1 h v).1 t2 (layNew D.2.2 D.1 h v).2.2.1).2.2.place.toList∧(tailTx D.2.1 (layNew D.2.2 D.1 h v).1 t2 (layNew D.2.2 D.1 h v).2.2.1).2.2.led=D.2.2.led:=fun t2 a b=>by
  unfold tailTx
  split
  ·exact ⟨relayAll_ris _ _ _,(relayAll_led _ _ _).trans b⟩
  ·exact ⟨a,b⟩
 unfold addTx
 split
 ·exact key _ r1 l1
 ·exact key _ r1 l1
def a1B (l:List Str) (k:Str):List Str:=if k∈l then l else k :: l
section
variable {P:Program} {w:World} {A:Around} {E:Value→Shared→Prop} {s:Shared}
theorem c1Q {a:Addr} {D:SD} {l:List Str} {k:Str} {u:Tok} {Q:Bool→Shared→Prop} (ho:s.heap.get? a=some (sObj "set" D)) (F:TxOk P w D l) (hk:k∈l) (hb:l.length < scanBound) (h:Q false s) :
  wpAny (model P w) A (setAddHashed a (.str k u) (hashStr w k)) Q E s:=by
 obtain ⟨es,ep,t⟩:=D
 have few:es.size < scanBound:=by rw [show es.size=l.length from F.sz];exact hb
 obtain ⟨e,me,se⟩:=(F.mem k).mp hk
 unfold setAddHashed setAddHashedIn
 refine wpAny_holding (wpAny_bind (wpAny_setState_of ho rfl F.fit ?_))
 dsimp only
 rw [byScan_of rfl few F.el]
 simp only [↓reduceIte]
 unfold setAddByScan
 refine wpAny_bind ?_
 refine wpAny_bind (wpAny_rule ?_)
 refine wpAny_bind (wpAny_setScan_of (knd:=strKind P w) (is_str k u) ho rfl F.fit F.el ?_)
 cases hf:List.findIdx? (fun e=>(strKind P w).is k e.2) es.toList with
 | none=>exact absurd se (by have:=List.findIdx?_eq_none_iff.mp hf e me;simpa using this)
 | some j =>
  dsimp only
  exact wpAny_pure (wpAny_pure h)
theorem c1X {a:Addr} {l:List Str} {k:Str} {u:Tok} {Q:Bool→Shared→Prop} (t:b1f P w s.heap a l) (few:l.length + 1 < scanBound)
  (h:∀ b h',b1f P w h' a (a1B l k)→(∀ b o,b≠a→s.heap.get? b=some o→h'.get? b=some o)→Q b { s with heap:=h',toks:=s.toks + 1 }):wpAny (model P w) A (setAdd a (.str k u)) Q E s:=by
 obtain ⟨D,at_a,F,r,led⟩:=t
 unfold setAdd
 refine wpAny_holding (wpAny_bind ((strKind P w).pyHash (k:=k) (is_str k u) ?_))
 unfold a1B at h
 by_cases hk:k∈l
 ·rw [if_pos hk] at h
  exact c1Q (s:={ s with toks:=s.toks + 1 }) at_a F hk (by omega) (h _ _ ⟨D,at_a,F,r,led⟩ fun _ _ _ e=>e)
 ·rw [if_neg hk] at h
  obtain ⟨r2,l2⟩:=a9a (h:=hashStr w k) (v:=.str k u) r
  refine add_x (s:={ s with toks:=s.toks + 1 }) at_a F hk few (h _ _ ⟨_,get_upd _ at_a rfl,add_ok u F,r2,led.imp id fun q=>l2.trans q⟩ fun b o hb e=>Heap.get?_update_of_ne _ (Ne.symm hb) e)
theorem b65 {a I:Addr} {fp wr:List Addr} {n:Nat} {Pv:Nat→Value→Prop} {St:Nat→Heap→Prop} {R:Result→Shared→Prop} (W:Walks P w A.in1 I fp wr n Pv St) (off:a∉fp) {zs:List Str} (len:zs.length=n) (few:n + 1 < scanBound)
  (val:∀ i v,Pv i v→∃ z u,zs[i]?=some z∧v=.str z u):∀ (rest:List Str) (i:Nat) (l:List Str) (s:Shared),zs.drop i=rest→i≤n→l.length≤i→St i s.heap→b1f P w s.heap a l →
   (∀ h' tk,b1f P w h' a (rest.foldl a1B l)→(∀ b o,b∉a :: wr→s.heap.get? b=some o→h'.get? b=some o)→R (.ok (.ret .none)) { s with heap:=h',toks:=tk }) →
   codeAny (model P w) A (.builtin "set.update.loop" ⟨[.ref a,.ref I],[]⟩) R s:=by
 have off2:a∉wr:=fun h=>off (W.sub _ h)
 intro rest
 induction rest with
 | nil =>
  intro i l s hd hi hl st t h
  have e:i=n:=by
   have:=congrArg List.length hd
   rw [List.length_drop,List.length_nil] at this
   omega
  subst e
  refine codeAny_builtin PyProof.Rows.F.entry_set_update_loop ?_
  rw [Around.under_plainId PyProof.Rows.F.plain_set_update_loop _]
  show wpAny _ A.in1 (pyNext (.ref I) >>= _) _ _ s
  refine wpAny_bind (W.done s _ _ st fun h' tk k=>?_)
  exact wpAny_pure (h h' tk (t.keep fun o e=>k _ o off2 e) fun b o hb e=>k b o (fun z=>hb (zao _ z)) e)
 | cons z rest ih =>
  intro i l s hd hi hl st t h
  have at_i:zs[i]?=some z:=by
   have:=congrArg (fun q:List Str=>q[0]?) hd
   rw [List.getElem?_drop] at this
   exact this
  have lt:i < n:=by rw [← len];exact (List.getElem?_eq_some_iff.mp at_i).1
  have hd2:zs.drop (i + 1)=rest:=by
   have:=congrArg (List.drop 1) hd
   rw [List.drop_drop] at this
   exact this
  refine codeAny_builtin PyProof.Rows.F.entry_set_update_loop ?_
  rw [Around.under_plainId PyProof.Rows.F.plain_set_update_loop _]
  show wpAny _ A.in1 (pyNext (.ref I) >>= _) _ _ s
  refine wpAny_bind (W.item i s _ _ lt st fun v h1 tk hv st1 k1=>?_)
  obtain ⟨z',u,ez,rfl⟩:=val i v hv
  rw [at_i] at ez
  cases ez
  show wpAny _ A.in1 (holding [Value.str z u] (setAdd a (.str z u)) >>= _) _ _ _
  refine wpAny_bind (wpAny_holding ?_)
  refine c1X (s:={ s with heap:=h1,toks:=tk }) (t.keep fun o e=>k1 _ o off2 e) (by omega) fun b h2 t2 k2=>?_
  refine wpAny_pure ⟨plainId_quiet PyProof.Rows.F.plain_set_update_loop _,ih (i + 1) (a1B l z) _ hd2 lt (by unfold a1B;split;omega;show l.length + 1≤_;omega) (W.frame _ h1 h2 st1 fun b hb o e=>k2 b o (fun q=>off (q ▸ hb)) e) t2 fun h3 tk3 t3 k3=>?_⟩
  refine h h3 tk3 t3 fun b o hb e=>k3 b o hb ?_
  refine k2 b o (fun q=>hb (q ▸ zal)) ?_
  exact k1 b o (fun q=>hb (zao _ q)) e
theorem a5w:∀ {us:List Value} {zs:List Str},StrsAre us zs→∀ {i:Nat} {v:Value},us[i]?=some v→∃ z u,zs[i]?=some z∧v=.str z u
 | _,_,.nil,i,v,h=>by simp at h
 | _,_,.cons z t r,0,v,h=>⟨z,t,rfl,(Option.some.inj h).symm⟩
 | _,_,.cons z t r,i + 1,v,h=>a5w r (i:=i) h
theorem a7V {l:Addr} {us:List Value} {Fin:Heap→Prop} {Q:Value→Shared→Prop} (hh:A.handled=none) (at_l:s.heap.IsList l us.toArray)
  (fills:∀ (A':Around) (R:Result→Shared→Prop),A'.handled=none→(∀ h' tk,Fin h'→(∀ b o,s.heap.get? b=some o→h'.get? b=some o)→R (.ok (.ret .none)) { s with heap:=h',toks:=tk }) →
   codeAny (model P w) A' (.builtin "set.update.loop" ⟨[.ref s.heap.objs.size,.ref (s.heap.push { cls:=.type "set",dict:=none,data:=.set #[] 0 (.fresh 0 0 (!w.params.followText "set-order")) }).objs.size],[]⟩) R { s with heap:=(s.heap.push { cls:=.type "set",dict:=none,data:=.set #[] 0 (.fresh 0 0 (!w.params.followText "set-order")) }).push { cls:=.type "list_iterator",data:=.fields #[.ref l,.int 0 0] } })
  (h:∀ h' tk,Fin h'→(∀ b o,s.heap.get? b=some o→h'.get? b=some o)→Q (.ref s.heap.objs.size) { s with heap:=h',toks:=tk }) :
  wpAny (model P w) A (call (.type "set") [.ref l]) Q E s:=by
 obtain ⟨mro,tail,of_mro⟩:=F.called_set.mro
 have made:=F.called_set.made
 have sub:=F.called_set.sub
 have proper:=F.called_set.notType
 have can:=F.called_set.canCreate
 have told:=F.typeCall_set_1 (.ref l)
 let o0:Obj:={ cls:=.type "set",dict:=none,data:=.set #[] 0 (.fresh 0 0 (!w.params.followText "set-order")) }
 have init:∀ (A':Around) (R:Result→Shared→Prop),A'.handled=none→(∀ h' tk,Fin h'→(∀ b o,s.heap.get? b=some o→h'.get? b=some o)→R (.ok (.ret .none)) { s with heap:=h',toks:=tk }) →
   codeAny (model P w) A' (.call (.builtin "set.__init__") ⟨[.ref s.heap.objs.size,.ref l],[]⟩) R { s with heap:=s.heap.push o0 }:=fun A' R hA' k=>by
  have ty:Shared.TypeIs { s with heap:=s.heap.push o0 } (.ref s.heap.objs.size) "set" := ⟨_,Heap.get?_push_size _ rfl,rfl⟩
  obtain ⟨ol,hol,cls,n,dat⟩:=id at_l
  obtain ⟨c0,d0,p0,x0⟩:=ol
  cases (show c0=_ from cls)
  cases (show p0=_ from dat)
  have here:(s.heap.push o0).get? l=some _:=Heap.get?_push_of_some o0 hol
  have noSet:=F.sub_list_set
  have noFroz:=F.sub_list_frozenset
  have noDict:(Value.type "list" == Value.type "dict")=false:=by decide
  refine codeAny_call_builtin F.called_set.init.plain F.entry_set_init (check_set_init_1 ty ?_)
  unfold Builtin.«set.__init__» noKeywords Builtin.Frozenset.updateFrom
  generalize eI:pyIter=PI
  wp_walk
  subst eI
  refine wpAny_pyIter_list (at_l.push _) ?_
  refine wpAny_bind (wpAny_runValue (fills _ _ (by simp [hA']) fun h' tk t k2=>?_))
  exact wpAny_pure (wpAny_pure (k h' tk t k2))
 refine wpAny_call (codeAny_of_tree ?_)
 show wpAny _ _ (callAny (.type "set") _) _ _ _
 refine wpAny_pure ⟨Code.quiet_builtin _ (by decide +kernel),codeAny_builtin F.entry_type_call ?_⟩
 rw [Around.under_plain (weight_type_call_type "set" [.ref l] []) rfl]
 repeat (any_goals (first | assumption | wp_step))
 refine codeAny_mono (code_set_led1 (.ref l) (E:=E) (Q₁:=fun v s1=>v=.ref s.heap.objs.size∧s1={ s with heap:=s.heap.push o0 }) ⟨rfl,rfl⟩) fun r s1 hr=>?_
 match r,hr with
 | .error _,hr=>exact hr
 | .ok (.ret _),⟨e1,e2⟩ =>
  subst e1 e2
  have here:(s.heap.push o0).get? s.heap.objs.size=some o0:=Heap.get?_push_size _ rfl
  have ty:Shared.TypeIs { s with heap:=s.heap.push o0 } (.ref s.heap.objs.size) "set" := ⟨_,here,rfl⟩
  have look:=F.called_set.init.lookup
  have bound:=F.called_set.init.bind (.ref s.heap.objs.size)
  repeat (any_goals (first | assumption | wp_step))
  refine codeAny_mono (init _ (fun r s2=>r=.ok (.ret .none)∧∃ h' tk,s2={ s with heap:=h',toks:=tk }∧Fin h'∧∀ b o,s.heap.get? b=some o→h'.get? b=some o) (by simp [hh]) fun h' tk t k=>⟨rfl,h',tk,rfl,t,k⟩) fun r2 s2 hr2=>?_
  obtain ⟨rfl,h',tk,rfl,t,k⟩:=hr2
  repeat (any_goals (first | assumption | wp_step))
  exact h h' tk t k
 | .ok .next,hr=>exact hr.elim
 | .ok .brk,hr=>exact hr.elim
 | .ok .cont,hr=>exact hr.elim
theorem b3o {l:Addr} {us:List Value} {zs:List Str} {Q:Value→Shared→Prop} (hh:A.handled=none) (at_l:s.heap.IsList l us.toArray) (all:StrsAre us zs) (few:zs.length + 1 < scanBound)
  (h:∀ h' tk,b1f P w h' s.heap.objs.size (zs.foldl a1B [])→(∀ b o,s.heap.get? b=some o→h'.get? b=some o)→Q (.ref s.heap.objs.size) { s with heap:=h',toks:=tk }) :
  wpAny (model P w) A (call (.type "set") [.ref l]) Q E s:=by
 have len:us.length=zs.length:=all.length
 refine a7V hh at_l (fun A' R hA' k=>?_) h
 let o0:Obj:={ cls:=.type "set",dict:=none,data:=.set #[] 0 (.fresh 0 0 (!w.params.followText "set-order")) }
 obtain ⟨ol,hol,_⟩:=id at_l
 have lt:=Heap.lt_size hol
 have sz:(s.heap.push o0).objs.size=s.heap.objs.size + 1:=size_push' _ _
 have ne:l≠(s.heap.push o0).objs.size:=by rw [sz];exact Nat.ne_of_lt (Nat.lt_succ_of_lt lt)
 have off:s.heap.objs.size∉[(s.heap.push o0).objs.size,l]:=fun hm=>by
  rw [sz] at hm
  rcases zau.mp hm with q | q
  ·exact Nat.ne_of_lt (Nat.lt_succ_self _) q
  ·exact Nat.ne_of_gt lt (zaj.mp q)
 have here:((s.heap.push o0).push { cls:=.type "list_iterator",data:=.fields #[.ref l,.int 0 0] }).get? s.heap.objs.size=some o0:=Heap.get?_push_of_some _ (Heap.get?_push_size _ rfl)
 refine b65 (Walks.list (by exact hA') _ l ne us.toArray) off (zs:=zs) (by rw [List.size_toArray,len]) (by rw [List.size_toArray,len];exact few) (fun i v hv=>a5w all (by rw [← List.getElem?_toArray];exact hv)) zs 0 [] _ rfl (Nat.zero_le _) (Nat.zero_le _)
  ⟨⟨_,Heap.get?_push_size _ rfl,rfl,rfl⟩,(at_l.push _).push _⟩ ⟨(#[],0,.fresh 0 0 (!w.params.followText "set-order")),here,.nil rfl,List.Pairwise.nil,?_⟩ fun h' tk t k2=>k h' tk t fun b o e=>?_
 ·cases q:w.params.followText "set-order"
  ·exact .inr rfl
  ·exact .inl rfl
 ·have hb:=Heap.lt_size e
  refine k2 b o (fun hm=>?_) (Heap.get?_push_of_some _ (Heap.get?_push_of_some _ e))
  rw [sz] at hm
  rcases zau.mp hm with q | q
  ·exact Nat.ne_of_lt hb q
  ·exact Nat.ne_of_lt (Nat.lt_succ_of_lt hb) (zaj.mp q)
end
def uniq (zs:List Str):List Str:=zs.foldl a1B []
theorem a89 {l:List Str} {k:Str} (u:l.Nodup):(a1B l k).Nodup:=by
 unfold a1B
 split
 ·exact u
 ·rename_i h
  exact zbd.mpr ⟨h,u⟩
theorem a9L:∀ {zs l:List Str},l.Nodup→(zs.foldl a1B l).Nodup
 | [],_,u=>u
 | _ :: zs,_,u=>a9L (zs:=zs) (a89 u)
theorem b5u {zs:List Str}:(uniq zs).Nodup:=a9L List.nodup_nil
theorem a7G:∀ {zs l:List Str},(zs.foldl a1B l).length≤l.length + zs.length
 | [],_=>Nat.le_refl _
 | y :: zs,l=>by
  refine Nat.le_trans (a7G (zs:=zs)) ?_
  rw [zaz]
  unfold a1B
  split
  ·omega
  ·rw [zaz];omega
theorem a8j {zs:List Str}:(uniq zs).length≤zs.length:=by
 have:=a7G (zs:=zs) (l:=[])
 rw [List.length_nil,Nat.zero_add] at this
 exact this
theorem perm_of:∀ {l m:List Str},l.Nodup→(∀ z∈l,z∈m)→m.length≤l.length→m.Perm l
 | [],m,_,_,few=>by
  cases m with
  | nil=>exact .nil
  | cons _ _=>exact absurd few (by simp)
 | z :: l,m,u,sub,few=>by
  obtain ⟨nz,u⟩:=zbd.mp u
  have mz:=sub z zal
  refine (List.perm_cons_erase mz).trans (.cons z (perm_of u (fun y hy=>(List.mem_erase_of_ne fun e=>nz (by rw [← e];exact hy)).mpr (sub y (zao _ hy))) ?_))
  rw [List.length_erase_of_mem mz]
  rw [zaz] at few
  omega
section
variable {X:Cx} {pins:List (Addr × Obj)} {σ:L2.St} {H:Hp} {s:Shared} {a:Addr} {l:List Str}
theorem b2F {P:Program} {w:World} {es:List (Int × Value)} (el:ElemsOf (PySem.strKind P w) es):∃ zs,StrsAre (es.map (·.2)) zs:=by
 induction es with
 | nil=>exact ⟨[],.nil⟩
 | cons e es ih =>
  obtain ⟨zs,h⟩:=ih fun e he=>el e (zao _ he)
  obtain ⟨⟨k,is,_⟩,_⟩:=el e zal
  obtain ⟨t,et⟩:=Value.isStrOf_shape (x:=k) (v:=e.2) is
  refine ⟨k :: zs,?_⟩
  rw [zax,et]
  exact .cons k t h
theorem a8h:∀ {us:List Value} {zs:List Str},StrsAre us zs→∀ {z:Str},z∈zs↔∃ t,Value.str z t∈us
 | _,_,.nil,z=>⟨fun h=>absurd h zba,fun ⟨_,h⟩=>absurd h zba⟩
 | _,_,.cons y t r,z=>by
  rw [zau,a8h r]
  constructor
  ·rintro (rfl | ⟨u,h⟩)
   ·exact ⟨t,zal⟩
   ·exact ⟨u,zao _ h⟩
  ·rintro ⟨u,h⟩
   rcases zau.mp h with h | h
   ·injection h with h1 _
    exact .inl h1
   ·exact .inr ⟨u,h⟩
theorem b2B:∀ {us vs:List Value},us.Perm vs→∀ {zs:List Str},StrsAre vs zs→∃ ys,StrsAre us ys∧ys.Perm zs:=by
 intro us vs p zs h
 have all:∀ v∈us,∃ z t,v=.str z t:=fun v hv=>by
  obtain ⟨i,hi⟩:=List.mem_iff_getElem?.mp (p.mem_iff.mp hv)
  obtain ⟨z,t,_,e⟩:=a5w h hi
  exact ⟨z,t,e⟩
 let f:Value→Str:=fun v=>match v with
  | .str z _=>z
  | _=>⟨#[]⟩
 have back:∀ {us:List Value},(∀ v∈us,∃ z t,v=.str z t)→StrsAre us (us.map f):=fun {us}=>by
  induction us with
  | nil=>exact fun _=>.nil
  | cons v us ih =>
   intro h
   obtain ⟨z,t,rfl⟩:=h v zal
   exact .cons z t (ih fun v hv=>h v (zao _ hv))
 have of:∀ {us:List Value} {zs:List Str},StrsAre us zs→us.map f=zs:=fun {us zs} h=>by
  induction h with
  | nil=>rfl
  | cons z t _ ih=>rw [zax,ih]
 exact ⟨us.map f,back all,by rw [← of h];exact p.map f⟩
theorem c3y (calm:X.calm=true) (I:Inv X pins σ H s) (t:b1f X.prog X.w s.heap a l) (few:l.length < 64) (u:l.Nodup) {Q:VK} (q:∀ p,H p=none→Q (.ref p) (upd H p (.lst ((a1e l).map V.str)))) :
  wpAny (model X.prog X.w) X.A (call (.builtin "sorted") [.ref a]) (EP X pins σ Q) X.xe s:=by
 obtain ⟨⟨es,ep,tb⟩,at_a,F,r,led⟩:=t
 have sz:es.size=l.length:=F.sz
 have el:ElemsOf (PySem.strKind X.prog X.w) es.toList:=F.el
 have mem:∀ k:Str,k∈l↔∃ e∈es.toList,(PySem.strKind X.prog X.w).is k e.2=true:=F.mem
 obtain ⟨zs,hz⟩:=b2F el
 have zl:zs.length=es.toList.length:=by rw [← hz.length,zag]
 have pz:zs.Perm l:=perm_of u (fun k hk=>by
  obtain ⟨e,he,is⟩:=(mem k).mp hk
  obtain ⟨t,et⟩:=Value.isStrOf_shape (x:=k) (v:=e.2) is
  exact (a8h hz).mpr ⟨t,zan.mpr ⟨e,he,et⟩⟩) (by rw [zl,Array.length_toList,sz];exact Nat.le_refl _)
 refine Calls.call_function_entry PyProof.Rows.kind_sorted PyProof.Rows.plain_sorted PyProof.Rows.entry_sorted (PyProof.Rows.args_sorted1 _) ?_
 unfold Builtin.«sorted»
 refine wpAny_bind (m:=checkCount "sorted" 1 1 _) (wpAny_pure ?_)
 refine wpAny_bind (collect_set (A:=X.A.in1) (es:=es) (ep:=ep) (t:=tb) (I.ok.hd calm) ⟨_,at_a,rfl,rfl⟩ F.fit (by rw [sz];unfold scanBound;omega) r led fun s1 out k1 le1 g_1 o1 po=>?_)
 obtain ⟨ys,hy,py⟩:=b2B po hz
 have yl:out.length=l.length:=by rw [po.length_eq,zag,Array.length_toList,sz]
 have e1:s1={ s with heap:=s1.heap,gens:=s1.gens,drawn:=s1.drawn,toks:=s1.toks }:=by
  cases s1
  cases s
  cases o1
  rfl
 rw [e1]
 refine wpAny_bind (wpAny_newList ?_ (by rw [yl,zai];omega))
 have at_p:(s1.heap.push (seqObj "list" out.toArray 0)).get? s1.heap.objs.size=some (seqObj "list" out.toArray 0):=Heap.get?_push_size _ rfl
 show wpAny _ _ _ _ _ { s with heap:=s1.heap.push (seqObj "list" out.toArray 0),gens:=s1.gens,drawn:=s1.drawn,toks:=s1.toks }
 refine wpAny_bind (wpAny_holding (wpAny_call_entry PyProof.Rows.slot_list_sort ⟨_,at_p,rfl⟩ PyProof.Rows.entry_list_sort
  (list_sort_treeK strKind_oneLt (s:={ s with heap:=s1.heap.push (seqObj "list" out.toArray 0),gens:=s1.gens,drawn:=s1.drawn,toks:=s1.toks }) at_p hy.keysOf (fun v₁ v₂ rest e=>keyKind_strs (by rw [← e];exact hy)) (by rw [yl];exact few) fun st hp hs=>⟨_,rfl,?_⟩)
  (PyProof.Rows.args_list_sort _)))
 obtain ⟨qs,g1,g2,g3⟩:=sorted_out_str hy hp hs
 obtain ⟨e',at_q⟩:=PyProof.Rows.sortedHeap_at (vs:=out) (out:=(arrOf st).map (·.2)) at_p
 have eq:qs=a1e l:=a4c (g2.trans (py.trans pz)) g3
 subst eq
 have ql:((a1e l).map V.str).length≤sizeLine:=by rw [zag,show (a1e l).length=l.length from (List.mergeSort_perm l leS).length_eq,zai];omega
 have k3:∀ b o,s.heap.get? b=some o→(sortedHeap (s1.heap.push (seqObj "list" out.toArray 0)) s1.heap.objs.size out ((arrOf st).map (·.2))).get? b=some o:=fun b o e=>by
  have e:=k1 b o e
  have lt:=Heap.lt_size e
  rw [PyProof.Rows.sortedHeap_old (Nat.ne_of_lt lt) (by rw [size_push'];exact Nat.lt_succ_of_lt lt)]
  exact Heap.get?_push_of_some _ e
 have free:H s1.heap.objs.size=none:=I.hok.fresh le1
 have J:Inv X pins σ (upd H s1.heap.objs.size (.lst ((a1e l).map V.str))) { s with heap:=sortedHeap (s1.heap.push (seqObj "list" out.toArray 0)) s1.heap.objs.size out ((arrOf st).map (·.2)),gens:=s1.gens,drawn:=s1.drawn,toks:=s1.toks } :=
  I.call (ch:=[]) (Un.laid k3 le1 free) (I.hok.laid k3 le1 ⟨ql,((arrOf st).map (·.2)).toList,e',vals_of_strs g1,by rw [Array.toArray_toList];exact at_q⟩) (by rw [g_1];exact I.bare) (fun _ z=>nomatch z)
 exact wpAny_pure ⟨_,rfl,.ref s1.heap.objs.size,_,J,rfl,q _ free⟩
theorem c1F (I:Inv X pins σ H s) (t:b1f X.prog X.w s.heap a l) (few:l.length < 64) {Q:VK} (q:Q (.int (l.length:Nat)) H) :
  wpAny (model X.prog X.w) X.A (call (.builtin "len") [.ref a]) (EP X pins σ Q) X.xe s:=by
 obtain ⟨⟨es,ep,tb⟩,at_a,F,r,led⟩:=t
 have sz:es.size=l.length:=F.sz
 refine call_len_set (o:=sObj "set" (es,ep,tb)) at_a ⟨rfl,rfl,rfl⟩ rfl F.fit (by rw [sz];omega) ⟨.int (l.length:Nat),H,I.tok _,⟨_,by rw [sz]⟩,q⟩
def c64 (K:zbj) (srt:Bool) (ta:TE):TE:=fun σ H Q=>ta σ H fun x H1=>∃ p ks,x=.ref p∧SqL K H1 p (ks.map V.str)∧(ks.length < 64∨((uniq ks).length < 64∧ks.length < 1000)) ∧
 if srt=true then ∀ q,H1 q=none→Q (.ref q) (upd H1 q (.lst ((a1e (uniq ks)).map V.str))) else Q (.int ((uniq ks).length:Nat)) H1
def b7N (srt:Bool):Str:=if srt=true then "sorted" else "len"
end
section
variable {X:Cx}
theorem b7X {srt:Bool} {a:Expr} {ta:TE} {p p2 q pos:Pos} (calm:X.calm=true) (hg:Gl X (b7N srt)) (hm:X.mg (b7N srt)=none) (hg2:Gl X "set") (hm2:X.mg "set" = none) (ha:PE X a ta)
  (na:starEach [a] X.env=(false,eval a X.env) :: starEach [] X.env):PE X (.Call (.Name (b7N srt) p) [.Call (.Name "set" p2) [a] [] q] [] pos) (c64 X.K srt ta):=by
 refine ⟨fun pins s σ H Q I h=>?_⟩
 cases srt with
 | true =>
  refine Call_ (ld_blt I hg hm PyProof.Rows.boot_sorted ?_)
  refine PyProof.Rows.callWith_builtin1 (PyProof.Rows.args_cons ?_ rfl) rfl rfl
  refine Call_ (ld_blt I hg2 hm2 boot_set ?_)
  refine PyProof.Rows.callWith_type1 (PyProof.Rows.args_cons (thn (ha.run pins s σ H _ I h) fun v s1 ⟨x,H1,I1,r1,q1⟩=>PyProof.Rows.args_nil ?_) na) na rfl
  obtain ⟨l,ks,rfl,seq,few,q1⟩:=q1
  cases r1
  obtain ⟨its,rv,hl,_⟩:=I1.list seq
  refine b3o (us:=its) (I1.ok.hd calm) hl.isList rv.strs (by unfold scanBound;rcases few with few | few <;> omega) fun h' tk t k=>PyProof.Rows.args_nil ?_
  have I2:Inv X pins σ H1 { s1 with heap:=h',toks:=tk }:=I1.kept k
  have fu:(uniq ks).length < 64:=few.elim (fun few=>Nat.lt_of_le_of_lt a8j few) (·.1)
  exact c3y calm I2 t fu b5u q1
 | false =>
  refine Call_ (ld_blt I hg hm boot_len ?_)
  refine PyProof.Rows.callWith_builtin1 (PyProof.Rows.args_cons ?_ rfl) rfl rfl
  refine Call_ (ld_blt I hg2 hm2 boot_set ?_)
  refine PyProof.Rows.callWith_type1 (PyProof.Rows.args_cons (thn (ha.run pins s σ H _ I h) fun v s1 ⟨x,H1,I1,r1,q1⟩=>PyProof.Rows.args_nil ?_) na) na rfl
  obtain ⟨l,ks,rfl,seq,few,q1⟩:=q1
  cases r1
  obtain ⟨its,rv,hl,_⟩:=I1.list seq
  refine b3o (us:=its) (I1.ok.hd calm) hl.isList rv.strs (by unfold scanBound;rcases few with few | few <;> omega) fun h' tk t k=>PyProof.Rows.args_nil ?_
  have I2:Inv X pins σ H1 { s1 with heap:=h',toks:=tk }:=I1.kept k
  have fu:(uniq ks).length < 64:=few.elim (fun few=>Nat.lt_of_le_of_lt a8j few) (·.1)
  exact c1F I2 t fu q1
end
end Sv
namespace Sv
open PySem PySem.Spec PyProof.Rows L2 PySem.Froz
section
variable {P:Program} {w:World} {A:Around} {E:Value→Shared→Prop} {s:Shared}
theorem c1W {a:Addr} {S:Int→Bool} {n:Nat} {k:Int} {u:Tok} {Q:Bool→Shared→Prop} (R:SetR w s.heap a S n) (few:n + 1 < scanBound)
  (h:∀ b h',SetR w h' a (fun j=>S j || decide (j=k)) (if S k=true then n else n + 1)→(∀ b o,b≠a→s.heap.get? b=some o→h'.get? b=some o)→Q b { s with heap:=h',toks:=s.toks + 1 }):wpAny (model P w) A (setAdd a (.int k u)) Q E s:=by
 unfold setAdd
 refine wpAny_holding (wpAny_bind ((intKind P w).pyHash (intKind_is P w k u) ?_))
 exact setR_add_hashed (s:={ s with toks:=s.toks + 1 }) R few fun h' sb r=>h _ _ r fun b o hb e=>(sb.2 b hb).trans e
theorem b64 {a I:Addr} {fp wr:List Addr} {n:Nat} {Pv:Nat→Value→Prop} {St:Nat→Heap→Prop} {R:Result→Shared→Prop} (W:Walks P w A.in1 I fp wr n Pv St) (off:a∉fp) {zs:List Int} (len:zs.length=n) (few:n + 1 < scanBound)
  (val:∀ i v,Pv i v→∃ z u,zs[i]?=some z∧v=.int z u):∀ (rest:List Int) (i:Nat) (F:Int→Bool) (m:Nat) (s:Shared),zs.drop i=rest→i≤n→m≤i→St i s.heap→SetR w s.heap a F m →
   (∀ h' tk m',m'≤n→SetR w h' a (fun j=>F j || decide (j∈rest)) m'→(∀ b o,b∉a :: wr→s.heap.get? b=some o→h'.get? b=some o)→R (.ok (.ret .none)) { s with heap:=h',toks:=tk }) →
   codeAny (model P w) A (.builtin "set.update.loop" ⟨[.ref a,.ref I],[]⟩) R s:=by
 have off2:a∉wr:=fun h=>off (W.sub _ h)
 intro rest
 induction rest with
 | nil =>
  intro i F m s hd hi hm st t h
  have e:i=n:=by
   have:=congrArg List.length hd
   rw [List.length_drop,List.length_nil] at this
   omega
  subst e
  refine codeAny_builtin PyProof.Rows.F.entry_set_update_loop ?_
  rw [Around.under_plainId PyProof.Rows.F.plain_set_update_loop _]
  show wpAny _ A.in1 (pyNext (.ref I) >>= _) _ _ s
  refine wpAny_bind (W.done s _ _ st fun h' tk k=>?_)
  exact wpAny_pure (h h' tk m hm ((t.at fun o e=>k _ o off2 e).congr fun j=>by simp) fun b o hb e=>k b o (fun z=>hb (zao _ z)) e)
 | cons z rest ih =>
  intro i F m s hd hi hm st t h
  have at_i:zs[i]?=some z:=by
   have:=congrArg (fun q:List Int=>q[0]?) hd
   rw [List.getElem?_drop] at this
   exact this
  have lt:i < n:=by rw [← len];exact (List.getElem?_eq_some_iff.mp at_i).1
  have hd2:zs.drop (i + 1)=rest:=by
   have:=congrArg (List.drop 1) hd
   rw [List.drop_drop] at this
   exact this
  refine codeAny_builtin PyProof.Rows.F.entry_set_update_loop ?_
  rw [Around.under_plainId PyProof.Rows.F.plain_set_update_loop _]
  show wpAny _ A.in1 (pyNext (.ref I) >>= _) _ _ s
  refine wpAny_bind (W.item i s _ _ lt st fun v h1 tk hv st1 k1=>?_)
  obtain ⟨z',u,ez,rfl⟩:=val i v hv
  rw [at_i] at ez
  cases ez
  show wpAny _ A.in1 (holding [Value.int z u] (setAdd a (.int z u)) >>= _) _ _ _
  refine wpAny_bind (wpAny_holding ?_)
  refine c1W (s:={ s with heap:=h1,toks:=tk }) (t.at fun o e=>k1 _ o off2 e) (by omega) fun b h2 t2 k2=>?_
  refine wpAny_pure ⟨plainId_quiet PyProof.Rows.F.plain_set_update_loop _,ih (i + 1) _ _ _ hd2 lt (by split <;> omega) (W.frame _ h1 h2 st1 fun b hb o e=>k2 b o (fun q=>off (q ▸ hb)) e) t2 fun h3 tk3 m3 hm3 t3 k3=>?_⟩
  refine h h3 tk3 m3 hm3 (t3.congr fun j=>?_) fun b o hb e=>k3 b o hb ?_
  ·show (F j || decide (j∈z :: rest))=((F j || decide (j=z)) || decide (j∈rest))
   rw [Bool.or_assoc]
   congr 1
   rw [Bool.eq_iff_iff]
   simp
  ·refine k2 b o (fun q=>hb (q ▸ zal)) ?_
   exact k1 b o (fun q=>hb (zao _ q)) e
theorem ints_get:∀ {us:List Value} {zs:List Int},IntsAre us zs→∀ {i:Nat} {v:Value},us[i]?=some v→∃ z u,zs[i]?=some z∧v=.int z u
 | _,_,.nil,i,v,h=>by simp at h
 | _,_,.cons z t r,0,v,h=>⟨z,t,rfl,(Option.some.inj h).symm⟩
 | _,_,.cons z t r,i + 1,v,h=>ints_get r (i:=i) h
theorem b7C {l:Addr} {us:List Value} {zs:List Int} {Q:Value→Shared→Prop} (hh:A.handled=none) (at_l:s.heap.IsList l us.toArray) (all:IntsAre us zs) (few:zs.length + 1 < scanBound)
  (h:∀ h' tk,(∃ m,m≤zs.length∧SetR w h' s.heap.objs.size (fun j=>decide (j∈zs)) m)→(∀ b o,s.heap.get? b=some o→h'.get? b=some o)→Q (.ref s.heap.objs.size) { s with heap:=h',toks:=tk }) :
  wpAny (model P w) A (call (.type "set") [.ref l]) Q E s:=by
 have len:us.length=zs.length:=all.length
 refine a7V hh at_l (fun A' R hA' k=>?_) h
 let o0:Obj:={ cls:=.type "set",dict:=none,data:=.set #[] 0 (.fresh 0 0 (!w.params.followText "set-order")) }
 obtain ⟨ol,hol,_⟩:=id at_l
 have lt:=Heap.lt_size hol
 have sz:(s.heap.push o0).objs.size=s.heap.objs.size + 1:=size_push' _ _
 have ne:l≠(s.heap.push o0).objs.size:=by rw [sz];exact Nat.ne_of_lt (Nat.lt_succ_of_lt lt)
 have off:s.heap.objs.size∉[(s.heap.push o0).objs.size,l]:=fun hm=>by
  rw [sz] at hm
  rcases zau.mp hm with q | q
  ·exact Nat.ne_of_lt (Nat.lt_succ_self _) q
  ·exact Nat.ne_of_gt lt (zaj.mp q)
 refine b64 (Walks.list (by exact hA') _ l ne us.toArray) off (zs:=zs) (by rw [List.size_toArray,len]) (by rw [List.size_toArray,len];exact few) (fun i v hv=>ints_get all (by rw [← List.getElem?_toArray];exact hv)) zs 0 (fun _=>false) 0 _ rfl (Nat.zero_le _) (Nat.zero_le _)
  ⟨⟨_,Heap.get?_push_size _ rfl,rfl,rfl⟩,(at_l.push _).push _⟩ ((setR_fresh w).at fun o e=>Heap.get?_push_of_some _ e) fun h' tk m hm t k2=>k h' tk ⟨m,by rw [List.size_toArray,len] at hm;exact hm,t.congr fun j=>by simp⟩ fun b o e=>?_
 have hb:=Heap.lt_size e
 refine k2 b o (fun hm=>?_) (Heap.get?_push_of_some _ (Heap.get?_push_of_some _ e))
 rw [sz] at hm
 rcases zau.mp hm with q | q
 ·exact Nat.ne_of_lt hb q
 ·exact Nat.ne_of_lt (Nat.lt_succ_of_lt hb) (zaj.mp q)
end
theorem a5R {g:Gd} {S:SS} {H:Hp}:∀ (zs:List Int),a0e g S H (zs.map D.int) (zs.map V.int)
 | []=>by simp only [List.map_nil,a0e]
 | z :: zs=>by
  simp only [zax,a0e]
  exact ⟨_,_,rfl,by simp only [Rep],a5R zs⟩
section
variable {X:Cx} {pins:List (Addr × Obj)} {σ:L2.St} {H:Hp} {s:Shared} {a:Addr}
theorem c3x {S:Int→Bool} {n:Nat} (calm:X.calm=true) (I:Inv X pins σ H s) (R:SetR X.w s.heap a S n) (h64:n < 64) {Q:VK} (q:∀ (ns:List Int) p,ns.Pairwise (· < ·)→(∀ k:Int,k∈ns↔S k=true)→H p=none→Q (.ref p) (upd H p (.lst (ns.map V.int)))) :
  wpAny (model X.prog X.w) X.A (call (.builtin "sorted") [.ref a]) (EP X pins σ Q) X.xe s:=by
 refine sorted_set R (I.ok.hd calm) h64 fun s' p out c ns k g o hp hg hi hs hm hl=>?_
 have hlen:(ns.map V.int).length≤sizeLine:=by rw [zag,hl,zai];omega
 have hn:H p=none:=I.hok.fresh hp
 have J:Inv X pins σ (upd H p (.lst (ns.map V.int))) { s with heap:=s'.heap,gens:=s'.gens,drawn:=s'.drawn,toks:=s'.toks } :=
  I.call (ch:=[]) (Un.laid k hp hn) (I.hok.laid k hp ⟨hlen,out.toList,c,vals_of_ints hi,hg⟩) (by rw [g];exact I.bare) (fun _ z=>nomatch z)
 have e:s'={ s with heap:=s'.heap,gens:=s'.gens,drawn:=s'.drawn,toks:=s'.toks }:=by
  cases s'
  cases s
  cases o
  rfl
 rw [e]
 exact ⟨.ref p,_,J,rfl,q ns p hs hm hn⟩
def c63 (K:zbj) (ta:TE):TE:=fun σ H Q=>ta σ H fun x H1=>∃ p,∃ ks:List Int,x=.ref p∧SqL K H1 p (ks.map V.int)∧ks.length < 64 ∧
 ∀ (ns:List Int) q,ns.Pairwise (· < ·)→(∀ k,k∈ns↔k∈ks)→H1 q=none→Q (.ref q) (upd H1 q (.lst (ns.map V.int)))
end
section
variable {X:Cx}
theorem b7W {a:Expr} {ta:TE} {p p2 q pos:Pos} (calm:X.calm=true) (hg:Gl X "sorted") (hm:X.mg "sorted" = none) (hg2:Gl X "set") (hm2:X.mg "set" = none) (ha:PE X a ta)
  (na:starEach [a] X.env=(false,eval a X.env) :: starEach [] X.env):PE X (.Call (.Name "sorted" p) [.Call (.Name "set" p2) [a] [] q] [] pos) (c63 X.K ta):=by
 refine ⟨fun pins s σ H Q I h=>?_⟩
 refine Call_ (ld_blt I hg hm PyProof.Rows.boot_sorted ?_)
 refine PyProof.Rows.callWith_builtin1 (PyProof.Rows.args_cons ?_ rfl) rfl rfl
 refine Call_ (ld_blt I hg2 hm2 boot_set ?_)
 refine PyProof.Rows.callWith_type1 (PyProof.Rows.args_cons (thn (ha.run pins s σ H _ I h) fun v s1 ⟨x,H1,I1,r1,q1⟩=>PyProof.Rows.args_nil ?_) na) na rfl
 obtain ⟨l,ks,rfl,seq,few,q1⟩:=q1
 cases r1
 obtain ⟨its,rv,hl,_⟩:=I1.list seq
 refine b7C (us:=its) (I1.ok.hd calm) hl.isList rv.ints (by unfold scanBound;omega) fun h' tk ⟨m,hm,t⟩ k=>PyProof.Rows.args_nil ?_
 have I2:Inv X pins σ H1 { s1 with heap:=h',toks:=tk }:=I1.kept k
 exact c3x calm I2 t (by omega) fun ns q hs hm free=>q1 ns q hs (fun k=>(hm k).trans decide_eq_true_iff) free
end
end Sv
namespace Sv
open PySem PySem.Spec PyProof.Rows L2
def ev2 {α:Type} (k:Nat) (xs:List α):List α:=((List.range ((xs.length + 1 - k) / 2)).map fun i=>k + 2 * i).filterMap (xs[·]?)
theorem b4e {α β:Type} (f:α→β) (k:Nat) (xs:List α):ev2 k (xs.map f)=(ev2 k xs).map f:=by
 unfold ev2
 rw [zag,List.map_filterMap]
 exact congrArg (fun f=>List.filterMap f _) (funext fun i=>zbh)
theorem b4d {α:Type} (k:Nat) (xs:List α):(ev2 k xs).length≤xs.length:=by
 unfold ev2
 refine Nat.le_trans (List.length_filterMap_le _ _) ?_
 rw [zag,List.length_range]
 omega
theorem b2n (its:Array Value):slicePick its none none (some 2)=(ev2 0 its.toList).toArray:=by
 unfold slicePick ev2
 have b:sliceBounds none none (some 2) its.size=(0,(its.size:Int),2):=rfl
 rw [b]
 have r:sliceRange 0 (its.size:Int) 2=(List.range ((its.toList.length + 1 - 0) / 2)).map fun i=>0 + 2 * i:=by
  unfold sliceRange
  rw [Array.length_toList]
  have e:(if (2:Int) > 0 then (if (0:Int) < (its.size:Int) then ((its.size:Int) - 0 + 2 - 1) / 2 else 0) else (if (0:Int) > (its.size:Int) then (0 - (its.size:Int) - 2 - 1) / (-2) else 0)).toNat=(its.size + 1 - 0) / 2:=by
   rw [if_pos (by decide)]
   split <;> omega
  dsimp only
  rw [e]
  exact List.map_congr_left fun i _=>by omega
 rw [r]
 exact congrArg List.toArray (congrArg (fun f=>List.filterMap f _) (funext fun i=>Array.getElem?_toList.symm))
theorem b0C (its:Array Value):slicePick its (some 1) none (some 2)=(ev2 1 its.toList).toArray:=by
 unfold slicePick ev2
 have b:sliceBounds (some 1) none (some 2) its.size=(max 0 (min 1 (its.size:Int)),(its.size:Int),2):=rfl
 rw [b]
 have r:sliceRange (max 0 (min 1 (its.size:Int))) (its.size:Int) 2=(List.range ((its.toList.length + 1 - 1) / 2)).map fun i=>1 + 2 * i:=by
  rw [Array.length_toList]
  by_cases h0:its.size=0
  ·rw [h0];rfl
  ·have e1:max 0 (min 1 (its.size:Int))=1:=by omega
   rw [e1]
   unfold sliceRange
   have e:(if (2:Int) > 0 then (if (1:Int) < (its.size:Int) then ((its.size:Int) - 1 + 2 - 1) / 2 else 0) else (if (1:Int) > (its.size:Int) then (1 - (its.size:Int) - 2 - 1) / (-2) else 0)).toNat=(its.size + 1 - 1) / 2:=by
    rw [if_pos (by decide)]
    split <;> omega
   dsimp only
   rw [e]
   exact List.map_congr_left fun i _=>by omega
 rw [r]
 exact congrArg List.toArray (congrArg (fun f=>List.filterMap f _) (funext fun i=>Array.getElem?_toList.symm))
theorem a7m:∀ {xs:List V} {us:List Value},Vals xs us→∀ i:Nat,(xs[i]?=none∧us[i]?=none)∨∃ x u,xs[i]?=some x∧us[i]?=some u∧RelV x u
 | _,_,.nil,i=>.inl ⟨rfl,rfl⟩
 | _,_,.cons r rs,0=>.inr ⟨_,_,rfl,rfl,r⟩
 | _,_,.cons r rs,i + 1=>a7m rs i
theorem a4j {xs:List V} {us:List Value} (r:Vals xs us):∀ is:List Nat,Vals (is.filterMap (xs[·]?)) (is.filterMap (us[·]?))
 | []=>.nil
 | i :: is=>by
  rcases a7m r i with ⟨e1,e2⟩ | ⟨x,u,e1,e2,q⟩
  ·rw [List.filterMap_cons_none e1,List.filterMap_cons_none e2];exact a4j r is
  ·rw [List.filterMap_cons_some e1,List.filterMap_cons_some e2];exact .cons q (a4j r is)
theorem b2P {xs:List V} {us:List Value} (r:Vals xs us) (k:Nat):Vals (ev2 k xs) (ev2 k us):=by
 unfold ev2
 rw [r.length]
 exact a4j r _
section
variable {X:Cx} {e:Expr} {te:TE}
def loE (k:Nat):Option Expr→Bool
 | none=>k == 0
 | some (.Constant (.int 1) _ _)=>k == 1
 | _=>false
theorem b7U {k kk:Nat} {lo:Option Expr} {p2 p3 pos:Pos} (he:PE X e te) (hlo:loE k lo=true):PE X (.Subscript e (.Slice lo none (some (.Constant (.int 2) kk p2)) p3) pos) (fun σ H Q=>te σ H fun x H1=>∃ a xs,x=.ref a∧SqL X.K H1 a xs∧∀ p,H1 p=none→Q (.ref p) (upd H1 p (.lst (ev2 k xs)))):=by
 obtain ⟨o,to,hp,hto,pick⟩:∃ (o:Option Int) (to:TO),PO X lo to∧(∀ σ H Q,Q o H→to σ H Q)∧∀ its:Array Value,slicePick its o none (some 2)=(ev2 k its.toList).toArray:=by
  unfold loE at hlo
  split at hlo
  ·rw [beq_iff_eq] at hlo;subst hlo
   exact ⟨none,_,po_none,fun _ _ _ q=>q,b2n⟩
  ·rw [beq_iff_eq] at hlo;subst hlo
   exact ⟨some 1,_,po_some pe_int,fun _ _ _ q=>⟨1,rfl,q⟩,b0C⟩
  ·cases hlo
 constructor
 intro pins s σ H Q inv asked
 apply Subscript_
 refine thn (he.run pins s σ H _ inv asked) ?_
 rintro v s1 ⟨x,H1,i1,r1,a,xs,rfl,at_a,q⟩
 cases r1
 apply wpAny_Slice
 refine thn (hp.run pins s1 σ H1 (fun z H2=>z=o∧H2=H1) i1 (hto _ _ _ ⟨rfl,rfl⟩)) ?_
 rintro vl s2 ⟨z,H2,i2,part,rfl,rfl⟩
 refine thn (po_none.run pins s2 σ H2 (fun z H3=>z=none∧H3=H2) i2 ⟨rfl,rfl⟩) ?_
 rintro vu s3 ⟨z2,H3,i3,part2,rfl,rfl⟩
 refine thn ((po_some pe_int).run pins s3 σ H3 (fun z H4=>z=some 2∧H4=H3) i3 ⟨2,rfl,rfl,rfl⟩) ?_
 rintro vs s4 ⟨z3,H4,i4,part3,rfl,rfl⟩
 have laid:=i4.kept (t':=s4.toks) (h':=s4.heap.push { cls:=.type "slice",data:=.fields #[vl,vu,vs] }) fun b ob there=>Heap.get?_push_of_some _ there
 obtain ⟨its,rel,at_its,fits⟩:=laid.list at_a
 have same:its.length=xs.length:=rel.length.symm
 refine tail_any (ops:=[.ref a,.ref s4.heap.objs.size]) at_its.isList.typeIs (PySem.slot_list_getitem.lookup) ?_ (by with_unfolding_all rfl)
 refine wpAny_getItem_list_slice at_its.isList (Heap.IsSliceOf.new _ vl vu vs) part part2 part3 (by decide) ?_ (by rw [List.size_toArray,same];exact fits)
 rw [pick]
 refine ⟨.ref _,_,laid.laid (t':=s4.toks) (o:=.lst (ev2 k xs)) (fun b ob there=>Heap.get?_push_of_some _ there) (Nat.le_refl _) ?_,rfl,q _ (laid.hok.fresh (Nat.le_refl _))⟩
 exact ⟨Nat.le_trans (b4d k xs) fits,_,0,b2P rel k,Heap.get?_push_size _ rfl⟩
end
section
variable {X:Cx} {g:Gd} {S:SS} {H:Hp}
theorem b2v {ds:List D} {vs:List V} (h:a0e g S H ds vs) (k:Nat):a0e g S H (ev2 k ds) (ev2 k vs):=a3O (a3T (fun l=>ev2 k l) (fun h l=>b4e h k l) (a3g h))
def b0T (x:D) (xs:List D) (S:SS) (K:DK):Prop:=match x,xs with
 | .str z,[.str b]=>(b.length == 0)=false∧z.length + 2≤sizeLine∧∃ cell,outL cell ((Txt.split z b).map D.str) S K
 | _,_=>False
theorem a4L:∀ (zs:List Str),a0e g S H (zs.map D.str) (zs.map V.str)
 | []=>by simp only [List.map_nil,a0e]
 | z :: zs=>by
  simp only [zax,a0e]
  exact ⟨_,_,rfl,by simp only [Rep],a4L zs⟩
theorem b2A:MtR X "str.split" (rDm g b0T):=by
 rintro pins s σ H v vs u us Q inv rv given ⟨x,xs,S,K,cells,rep,reps,told,res⟩
 unfold b0T at told
 split at told
 ·rename_i z b
  obtain ⟨w,rfl,rep2⟩:=one_of reps
  cases a0u rep
  cases a0u rep2
  obtain ⟨h1,h2,cell,k⟩:=told
  exact mt_split _ _ _ _ _ _ _ _ _ inv rv given ⟨z,b,rfl,rfl,h1,h2,fun p free=>res.outL (cell:=cell) k cells (a4L _) free⟩
 ·exact told.elim
def b4G (xs:List D) (S:SS) (K:DK):Prop:=match xs with
 | [d]=>∃ x rest,vw S d=.lst (x :: rest)∧D.okd 60 (.lst (x :: rest))=true∧PySem.W.AlikeAll (D.pys (x :: rest))∧∀ y,y∈x :: rest→y.py=PySem.W.minD x.py (D.pys rest)→K y S
 | [x,y]=>D.okd 60 (.lst [x,y])=true∧PySem.W.AlikeAll (D.pys [x,y])∧∀ z,z∈[x,y]→z.py=PySem.W.minD x.py [y.py]→K z S
 | _=>False
section
open PySem.W
variable {prog:Program} {w:World} {A:Around} {E:Value→Shared→Prop} {s:Shared}
theorem a5a {a b:Value} {Q:Value→Shared→Prop}
  (h:wpAny (model prog w) A.in1 (pyIter (.ref s.heap.objs.size)) (fun it s₂=>∃ I fp wr G n P St H bt,it=.ref I∧WalksS prog w A.in1 I fp wr G n P St∧St 0 s₂∧(∀ b∈fp,b < s₂.heap.objs.size)∧0 < n ∧
   (∀ b o,H.get? b=some o→b∉wr)∧(∀ b o,H.get? b=some o→s₂.heap.get? b=some o)∧CmpIn prog w A.in1 .Lt H P bt∧∀ v s',P (argBest bt (n - 1)) v→Moved wr G s₂ s'→Q v s') E { s with heap:=s.heap.push { cls:=.type "tuple",data:=.seq #[a,b] } }) :
  wpAny (model prog w) A (call (.builtin "min") [a,b]) Q E s:=by
 have hname:(toString "min" ++ toString ".loop" : String) = "min.loop" := by decide
 refine call_function_tree F.kind_min F.plain_min F.entry_min (F.args_min2 _ _) ?_
 show wpAny _ A.in1 (Builtin.Builtins.bindParams "min" ["key", "default"] 0 ⟨[],[]⟩ >>= _) _ _ s
 refine wpAny_bind (wpAny_of_eq (show Builtin.Builtins.bindParams "min" ["key", "default"] 0 ⟨[],[]⟩=pure [none,none] from rfl) ?_)
 show wpAny _ A.in1 (newTuple [a,b] >>= _) _ _ s
 refine wpAny_bind (wpAny_newObj_type ?_)
 refine wpAny_bind (wpAny_mono h (fun it s₂ h₂=>?_) fun _ _ e=>e)
 obtain ⟨I,fp,wr,G,n,P,St,H,bt,rfl,W,hst,hfp,hn,hw,hkeep,hcmp,hQ⟩:=h₂
 refine wpAny_bind (wpAny_newObj_type ?_)
 have hSf:s₂.heap.objs.size∉fp:=fun hm=>Nat.lt_irrefl _ (hfp _ hm)
 rw [hname]
 refine wpAny_pure ⟨plainId_quiet F.plain_min_loop _,codeAny_min_loop_firstH W H hw bt hcmp s₂.heap.objs.size hSf (fresh_in hkeep) _ hn (fun b o e=>Heap.get?_push_of_some _ (hkeep b o e)) (W.frame 0 s₂ _ s₂.toks hst (Nat.le_refl _) fun b _ o e=>Heap.get?_push_of_some _ e) (Heap.get?_push_size _ rfl) fun v s' hP hm=>?_⟩
 exact hQ v s' hP (Moved.drop_new (tk:=s₂.toks) hm (Nat.le_refl _))
theorem a3V {h h':Heap} (k:∀ b o,h.get? b=some o→h'.get? b=some o):∀ {vs:List Value} {xs:List PyData} {as:List Addr},ReadsAll h vs xs as→ReadsAll h' vs xs as
 | _,_,_,.nil=>.nil
 | _,_,_,.cons r rs=>.cons (reads_keeps k r) (a3V k rs)
theorem a6d {a b:Value} {x y:PyData} {as:List Addr} {Q:Value→Shared→Prop} (hh:A.handled=none) (hr:ReadsAll s.heap [a,b] [x,y] as) (ha:AlikeAll [x,y]) (hu:A.units + 1 + PyData.depthAll [x,y] < cLine)
  (h:∀ (i:Nat) v h' tk bs,[a,b][i]?=some v→Reads h' v (PySem.W.minD x [y]) bs→(∀ b o,s.heap.get? b=some o→h'.get? b=some o)→Q v { s with heap:=h',toks:=tk }) :
  wpAny (model prog w) A (call (.builtin "min") [a,b]) Q E s:=by
 have hT:(s.heap.push { cls:=.type "tuple",data:=.seq #[a,b] }).IsTuple s.heap.objs.size #[a,b]:=⟨_,Heap.get?_push_size _ rfl,rfl,0,rfl⟩
 have hr2:ReadsAll (s.heap.push { cls:=.type "tuple",data:=.seq #[a,b] }) (#[a,b]:Array Value).toList [x,y] as:=a3V (fun c o e=>Heap.get?_push_of_some _ e) hr
 refine a5a (iter_tupleW (A:=A.in1) (s:={ s with heap:=s.heap.push { cls:=.type "tuple",data:=.seq #[a,b] } }) hh hT fun s₂ e W st hfp hw hk=>?_)
 refine ⟨_,_,_,_,_,_,_,s.heap.push { cls:=.type "tuple",data:=.seq #[a,b] },_,rfl,W,st,hfp,Nat.zero_lt_succ 1,hw,hk,cmpIn_lt (A:=A.in1) (s:={ s with heap:=s.heap.push { cls:=.type "tuple",data:=.seq #[a,b] } }) hr2 ha (by show A.units + 1 + _ < _;exact hu),fun v s' hP m=>?_⟩
 obtain ⟨h',tk,rfl,hk'⟩:=moved_old e rfl m
 obtain ⟨bs,r,_,_,_⟩:=readsAll_atA hr2 _ v hP
 have e2:=(argBest_fold dataLt PyData.none x [y] 1 (Nat.le_refl _)).2
 refine h _ v h' tk bs (by have:=hP;rw [← Array.getElem?_toList] at this;exact this) (reads_keeps hk' (by unfold PySem.W.minD;have e3:[y].take 1=[y]:=rfl;rw [e3] at e2;rw [← e2];exact r)) fun c o e=>hk' c o (Heap.get?_push_of_some _ e)
end
theorem a3z {ds:List D} (h:D.okd 60 (.lst ds)=true):PyData.depthAll (D.pys ds)≤59:=by
 have:=(a3Q (.lst ds) 60 h).2
 simp only [D.py,PyData.depth] at this
 omega
theorem b3x:∀ {ds:List D} {i:Nat},(D.pys ds)[i]?=(ds[i]?).map D.py
 | [],_=>by simp [D.pys]
 | d :: ds,0=>by simp [D.pys]
 | d :: ds,i + 1=>by simp [D.pys,b3x (ds:=ds) (i:=i)]
theorem a9x {ds:List D} {vs:List V} (ok:D.okd 60 (.lst ds)=true) (all:a0e g S H ds vs):DpAll g.K H vs (D.pys ds):=by
 simp only [D.okd,zak] at ok
 exact a3A 59 ok.2 all
theorem a92 {ds:List D} (ok:D.okd 60 (.lst ds)=true) {d:D} (h:d∈ds):d.py.canLay0=true:=by
 simp only [D.okd,zak] at ok
 obtain ⟨_,ok⟩:=ok
 have all:∀ (es:List D),D.okds 59 es=true→∀ e∈es,D.okd 59 e=true:=by
  intro es
  induction es with
  | nil=>exact fun _ _ h=>nomatch h
  | cons x es ih =>
   intro h e he
   simp only [D.okds,zak] at h
   rcases zau.mp he with rfl | he
   ·exact h.1
   ·exact ih h.2 e he
 exact (a3Q d 59 (all ds ok d h)).1
theorem b4H (calm:X.calm=true) (hK:g.K=X.K) (room:X.A.units + 65 < cLine):CallR X (.builtin "min") (rDc g b4G):=by
 rintro pins s σ H vs us Q inv given ⟨xs,S,K,cells,reps,told,res⟩
 unfold b4G at told
 split at told
 ·rename_i d
  obtain ⟨v,rfl,rep⟩:=one_of reps
  obtain ⟨x,rest,seen,okd,al,k⟩:=told
  obtain ⟨a,ws,rfl,seq,all⟩:=a0j cells rep seen
  have dp:=a9x okd all
  rw [hK] at seq dp
  obtain ⟨its,rel,at_its,fits⟩:=inv.list seq
  obtain ⟨as,reads⟩:=Dp.readsAll inv _ ws its dp rel
  have deep:=a3z okd
  rw [Vals.ref1 given]
  refine PySem.W.min_list_data (inv.ok.hd calm) at_its.isList reads al (by show _ + 1 + PyData.depthAll (D.pys (x :: rest)) < _;omega) fun i u h' tk bs at_u least keep=>?_
  have at_u:its[i]?=some u:=by rw [← at_u];simp
  obtain ⟨w,u',e1,e2,rw'⟩:=(a7m rel i).resolve_left fun h=>by rw [h.2] at at_u;cases at_u
  rw [at_u] at e2
  cases e2
  have hlt:i < (x :: rest).length:=by rw [all.length];exact (List.getElem?_eq_some_iff.mp e1).1
  have e3:(x :: rest)[i]?=some (x :: rest)[i]:=zbi hlt
  obtain ⟨w2,e4,one⟩:=all.get e3
  rw [e1] at e4
  cases e4
  have mem:=List.getElem_mem hlt
  obtain ⟨bs2,r2,_⟩:=PySem.W.readsAll_at reads i u at_u
  have e5:(D.pys (x :: rest)).getD i .none=((x :: rest)[i]).py:=by rw [List.getD_eq_getElem?_getD,b3x,e3];rfl
  rw [e5] at r2
  have same:=PySem.SeqAt.Reads.unique _ _ _ _ _ (a92 okd mem) (PyProof.Rows.Reads.keeps keep r2) least
  exact ⟨w,H,inv.kept (t':=tk) keep,rw',res.val (k _ mem same) cells one⟩
 ·rename_i x y
  obtain ⟨okd,al,k⟩:=told
  have dp:=a9x okd reps
  rw [hK] at dp
  obtain ⟨v1,v2,rfl,p3,p4⟩:=a08 reps
  obtain ⟨as,reads⟩:=Dp.readsAll inv _ _ us dp given
  obtain ⟨u1,u2,rfl,r1,r2⟩:=vals2 given
  have deep:=a3z okd
  refine a6d (inv.ok.hd calm) (x:=x.py) (y:=y.py) (as:=as) (by simpa only [D.pys] using reads) (by simpa only [D.pys] using al) (by simp only [D.pys] at deep;omega) fun i u h' tk bs at_u least keep=>?_
  have reads:ReadsAll s.heap [u1,u2] [x.py,y.py] as:=by simpa only [D.pys] using reads
  obtain ⟨bs2,rd,_⟩:=PySem.W.readsAll_at reads i u at_u
  match i,at_u with
  | 0,at_u =>
   cases at_u
   have same:=PySem.SeqAt.Reads.unique _ _ _ _ _ (a92 okd (zal)) (PyProof.Rows.Reads.keeps keep rd) least
   exact ⟨v1,H,inv.kept (t':=tk) keep,r1,res.val (k x zal same) cells p3⟩
  | 1,at_u =>
   cases at_u
   have same:=PySem.SeqAt.Reads.unique _ _ _ _ _ (a92 okd (zao _ zal)) (PyProof.Rows.Reads.keeps keep rd) least
   exact ⟨v2,H,inv.kept (t':=tk) keep,r2,res.val (k y (zao _ zal) same) cells p4⟩
  | n + 2,at_u=>simp at at_u
 ·exact told.elim
def a5u (cell:Bool) (xs:List D) (S:SS) (K:DK):Prop:=match xs with
 | [d]=>∃ ds,vw S d=.lst ds∧D.okd 60 (.lst ds)=true∧PySem.W.AllAlike (ds.map D.py)∧PySem.W.Sortable (ds.map D.py)∧outL cell (ds.mergeSort (PySem.W.dataLe false D.py)) S K
 | _=>False
theorem a3C:∀ {us:List Value} {ds:List D},PySem.W.EachIs (fun u d=>∃ v,RelV v u∧Rep g S H d v) us ds→∃ vs,Vals vs us∧a0e g S H ds vs
 | _,_,.nil=>⟨[],.nil,by simp only [a0e]⟩
 | _,_,.cons ⟨v,r,q⟩ more=>by
  obtain ⟨vs,a,b⟩:=a3C more
  exact ⟨v :: vs,.cons r a,by simp only [a0e];exact ⟨_,_,rfl,q,b⟩⟩
theorem a4i:∀ {us:List Value} {ds:List D} {vs:List V},Vals vs us→a0e g S H ds vs→PySem.W.EachIs (fun u d=>∃ v,RelV v u∧Rep g S H d v) us ds
 | _,[],_,r,all=>by
  simp only [a0e] at all
  subst all
  cases r
  exact .nil
 | _,d :: ds,_,r,all=>by
  simp only [a0e] at all
  obtain ⟨v,q,rfl,one,more⟩:=all
  cases r with
  | cons r1 r2=>exact .cons ⟨v,r1,one⟩ (a4i r2 more)
theorem a4J {h:Heap}:∀ {us:List Value} {ds:List D} {as:List Addr},ReadsAll h us (D.pys ds) as→PySem.W.EachIs (fun u (d:D)=>∃ as,Reads h u d.py as) us ds
 | _,[],_,r=>by
  simp only [D.pys] at r
  cases r
  exact .nil
 | _,d :: ds,_,r=>by
  simp only [D.pys] at r
  cases r with
  | cons r1 r2=>exact .cons ⟨_,r1⟩ (a4J r2)
theorem a8I (calm:X.calm=true) (hK:g.K=X.K) (room:X.A.units + 65 < cLine) (cell:Bool):CallR X (.builtin "sorted") (rDc g (a5u cell)):=by
 rintro pins s σ H vs us Q inv given ⟨xs,S,K,cells,reps,told,res⟩
 unfold a5u at told
 split at told
 ·rename_i d
  obtain ⟨v,rfl,rep⟩:=one_of reps
  obtain ⟨ds,seen,okd,al,so,k⟩:=told
  obtain ⟨a,ws,rfl,seq,all⟩:=a0j cells rep seen
  have dp:=a9x okd all
  rw [hK] at seq dp
  obtain ⟨its,rel,at_its,fits⟩:=inv.list seq
  obtain ⟨as,reads⟩:=Dp.readsAll inv _ ws its dp rel
  have deep:=a3z okd
  have each:∀ d∈ds,d.py.depth≤59:=by
   have gen:∀ es:List D,PyData.depthAll (D.pys es)≤59→∀ d∈es,d.py.depth≤59:=by
    intro es
    induction es with
    | nil=>exact fun _ _ h=>nomatch h
    | cons x es ih =>
     intro h d hd
     simp only [D.pys,PyData.depthAll] at h
     rcases zau.mp hd with rfl | hd
     ·omega
     ·exact ih (by omega) d hd
   exact gen ds deep
  rw [Vals.ref1 given]
  refine PySem.W.sorted_data (bs:=ds) (enc:=D.py) (R:=fun u d=>∃ v,RelV v u∧Rep g S H d v) at_its.isList (a4i rel all) (a4J reads) al so (by rw [all.length];exact fits) (fun b hb=>by have:=each b hb;omega) fun out len is=>?_
  obtain ⟨vs2,r1,r2⟩:=a3C is
  obtain ⟨ep,here⟩:=PyProof.Rows.sortedAll_at s.heap its out.toArray
  have few:vs2.length≤sizeLine:=by rw [r1.length,len,all.length];exact fits
  refine ⟨.ref _,upd H (s.heap.objs.size + 1) (.lst vs2),inv.laid (t':=s.toks) (fun _ _=>PyProof.Rows.sortedAll_old) (Nat.le_succ _) ⟨few,out,ep,r1,here⟩,rfl,res.outL k cells r2 (inv.hok.fresh (Nat.le_succ _))⟩
 ·exact told.elim
end
end Sv
namespace Sv
open PySem PySem.Spec PySem.Calls PyProof.Rows L2
def Head3 (h:Heap) (v:Value) (p:Int × Int):Prop:=∃ a o n t u x,v=.ref a∧h.get? a=some o∧o.cls=.type "tuple" ∧ o.data=.seq #[.int p.1 t,.int p.2 u,.ref x] n
theorem Head3.one {h:Heap} {v:Value} {p q:Int × Int} (a:Head3 h v p) (b:Head3 h v q):p=q:=by
 obtain ⟨a,o,n,t,u,x,rfl,h1,_,h3⟩:=a
 obtain ⟨a',o',n',t',u',x',e,k1,_,k3⟩:=b
 cases e
 rw [h1] at k1
 cases k1
 rw [h3] at k3
 injection k3 with k3 _
 have k3:=congrArg Array.toList k3
 simp only [List.cons.injEq,Value.int.injEq] at k3
 exact Prod.ext k3.1.1 k3.2.1.1
theorem Head3.keep {h h':Heap} {v:Value} {p:Int × Int} (k:∀ b o,h.get? b=some o→h'.get? b=some o) (a:Head3 h v p):Head3 h' v p:=by
 obtain ⟨a,o,n,t,u,x,e,h1,h2,h3⟩:=a
 exact ⟨a,o,n,t,u,x,e,k _ _ h1,h2,h3⟩
def a1r (p:Int × Int):List (Int ⊕ List Nat):=[.inl p.1,.inl p.2]
noncomputable def a5g (h:Heap) (us:List Value):PyProof.Rows.KeyKind where
 toKeyOrd:=listOrd itemOrd
 keyOf v:=open Classical in if q:∃ p,Head3 h v p∧v∈us then some (a1r q.choose) else none
 dflt:=([]:List (Int ⊕ List Nat))
theorem a4F {h:Heap} {us:List Value} {v:Value} {p:Int × Int} (hv:v∈us) (q:Head3 h v p):(a5g h us).keyOf v=some (a1r p):=by
 have q':∃ p,Head3 h v p∧v∈us:=⟨p,q,hv⟩
 show (open Classical in if q:∃ p,Head3 h v p∧v∈us then some (a1r q.choose) else none)=_
 rw [dif_pos q',q'.choose_spec.1.one q]
theorem a5Y {h:Heap} {us:List Value} {v:Value} {k:List (Int ⊕ List Nat)} (e:(a5g h us).keyOf v=some k):∃ p,v∈us∧Head3 h v p∧k=a1r p:=by
 have e:(open Classical in if q:∃ p,Head3 h v p∧v∈us then some (a1r q.choose) else none)=some k:=e
 split at e
 ·rename_i q
  cases e
  exact ⟨_,q.choose_spec.2,q.choose_spec.1,rfl⟩
 ·cases e
section
variable {prog:Program} {w:World} {A:Around} {E:Value→Shared→Prop} {s:Shared}
theorem a6S {l:Addr} {Q:Bool→Shared→Prop} (h:Q true s):wpAny (model prog w) A (eqBool (.ref l) (.ref l)) Q E s:=by
 unfold eqBool
 refine wpAny_holding ?_
 show wpAny _ _ (if (Value.ref l == Value.ref l)=true then _ else _) Q E s
 rw [if_pos (by simp)]
 exact wpAny_bind (wpAny_rule (wpAny_pure h))
theorem b02 {p q:Int × Int} {t u t' u':Tok} {x x':Addr} {b fin:Bool} {Q:Bool→Shared→Prop} (same:p=q→x=x'∧fin=false) (h:Q (lexLt itemOrd (a1r p) (a1r q)) s) :
  PySem.W.KatLex prog w A b fin Q [(.int p.1 t,.int q.1 t'),(.int p.2 u,.int q.2 u'),(.ref x,.ref x')] 0 s:=by
 refine PySem.W.kat_cons (wpAny_eqBool_int ?_)
 refine PySem.W.kat_go (fun e=>PySem.W.kat_yes ?_) (fun e=>PySem.W.kat_no ?_)
 ·have e1:p.1=q.1:=by simpa using e
  refine PySem.W.kat_cons (wpAny_eqBool_int ?_)
  refine PySem.W.kat_go (fun e=>PySem.W.kat_yes ?_) (fun e=>PySem.W.kat_no ?_)
  ·have e2:p.2=q.2:=by simpa using e
   obtain ⟨rfl,rfl⟩:=same (Prod.ext e1 e2)
   have e3:p=q:=Prod.ext e1 e2
   subst e3
   rw [lex_irrefl] at h
   exact PySem.W.kat_cons (a6S (PySem.W.kat_go (fun _=>PySem.W.kat_yes (PySem.W.kat_nil h)) (fun e=>by cases e)))
  ·have e2:¬ p.2=q.2:=by simpa using e
   have e:lexLt itemOrd (a1r p) (a1r q)=decide (p.2 < q.2):=by
    unfold a1r
    rw [e1,lex_self,lex_diff (fun z=>e2 (Sum.inl.inj z))]
    rfl
   rw [e] at h
   exact oneLt_any_int h
 ·have e1:¬ p.1=q.1:=by simpa using e
  have e:lexLt itemOrd (a1r p) (a1r q)=decide (p.1 < q.1):=by
   unfold a1r
   rw [lex_diff (fun z=>e1 (Sum.inl.inj z))]
   rfl
  rw [e] at h
  exact oneLt_any_int h
theorem b84 {h:Heap}:∀ {us:List Value} {ps:List (Int × Int)},PySem.W.EachIs (Head3 h) us ps→∃ fs,PySem.W.KatTups h us fs∧fs.length=us.length∧∀ f∈fs,∃ i t,f=Value.int i t
 | _,_,.nil=>⟨[],PySem.W.KatTups.nil,rfl,fun _ h=>nomatch h⟩
 | _,_,.cons (as:=us) ⟨a,o,n,t,u,x,e,h1,h2,h3⟩ more=>by
  obtain ⟨fs,k1,k2,k3⟩:=b84 more
  subst e
  refine ⟨_ :: fs,PySem.W.KatTups.cons h1 h2 h3 rfl k1,by rw [zaz,k2];rfl,fun f hf=>?_⟩
  rcases zau.mp hf with rfl | hf
  ·exact ⟨_,_,rfl⟩
  ·exact k3 f hf
theorem b8q {us:List Value} {ps:List (Int × Int)} (e:PySem.W.EachIs (Head3 s.heap) us ps) (ne:∀ u∈us,∀ u'∈us,∀ p,Head3 s.heap u p→Head3 s.heap u' p→u=u'):PySem.W.SortsAt prog w A s (a5g s.heap us) us:=by
 refine ⟨fun v hv=>?_,tuples' (Value.type "int" != Value.type "tuple"),?_,fun h2 E Q hq=>?_⟩
 ·obtain ⟨p,_,hp⟩:=e.left v hv
  exact ⟨_,a4F hv hp⟩
 ·intro E x y a b Q ha hb hq
  obtain ⟨p,mx,hx,rfl⟩:=a5Y ha
  obtain ⟨q,my,hy,rfl⟩:=a5Y hb
  have same:p=q→x=y:=fun e=>ne x mx y my p hx (e ▸ hy)
  obtain ⟨a,o,n,t,u,z,rfl,h1,_,h3⟩:=hx
  obtain ⟨a',o',n',t',u',z',rfl,k1,_,k3⟩:=hy
  refine PySem.W.kat_lt h1 h3 k1 k3 ?_
  refine b02 (fun e=>⟨?_,rfl⟩) hq
  have e:=same e
  cases e
  rw [h1] at k1
  cases k1
  rw [h3] at k3
  injection k3 with k3 _
  have k3:=congrArg Array.toList k3
  simp only [List.cons.injEq,Value.ref.injEq] at k3
  exact k3.2.2.1
 ·obtain ⟨fs,t1,t2,t3⟩:=b84 e
  refine PySem.W.kat_kind (T:=Value.type "int") t1 (by omega) (fun f hf=>?_) (beq_self_eq_true _) hq
  obtain ⟨i,t,rfl⟩:=t3 f hf
  exact PySem.W.looks_reads (Reads.int i t)
end
def leP (p q:Int × Int × List D):Bool:=decide (p.1 < q.1∨p.1=q.1∧p.2.1≤q.2.1)
def b2H (p:Int × Int × List D):D:=.tup [.int p.1,.int p.2.1,.tup p.2.2]
def hd3 (p:Int × Int × List D):Int × Int:=(p.1,p.2.1)
def a5v (cell:Bool) (xs:List D) (S:SS) (K:DK):Prop:=match xs with
 | [d]=>∃ ps:List (Int × Int × List D),vw S d=.lst (ps.map b2H)∧(ps.map hd3).Nodup∧outL cell ((ps.mergeSort leP).map b2H) S K
 | _=>False
theorem b1W (p q:Int × Int × List D):PySem.W.sortLe (listOrd itemOrd) false (fun p:Int × Int × List D=>a1r (hd3 p)) p q=leP p q:=by
 show (!lexLt itemOrd (a1r (hd3 q)) (a1r (hd3 p)))=leP p q
 unfold leP a1r hd3
 by_cases e1:q.1=p.1
 ·dsimp only
  rw [e1,lex_self]
  by_cases e2:q.2.1=p.2.1
  ·rw [e2,lex_irrefl,zbg (.inr ⟨rfl,Int.le_refl _⟩)]
   rfl
  ·rw [lex_diff (fun z=>e2 (Sum.inl.inj z))]
   show (!decide (q.2.1 < p.2.1))=_
   rw [Bool.eq_iff_iff]
   simp
 ·dsimp only
  rw [lex_diff (fun z=>e1 (Sum.inl.inj z))]
  show (!decide (q.1 < p.1))=_
  rw [Bool.eq_iff_iff]
  simp
  omega
theorem a3B {β γ:Type} {R:Value→γ→Prop} (f:β→γ):∀ {vs:List Value} {bs:List β},PySem.W.EachIs (fun v b=>R v (f b)) vs bs→PySem.W.EachIs R vs (bs.map f)
 | _,_,.nil=>.nil
 | _,_,.cons h1 t=>.cons h1 (a3B f t)
theorem a5O {h:Heap}:∀ {us:List Value} {ps:List (Int × Int × List D)},PySem.W.EachIs (fun u p=>Head3 h u (hd3 p)) us ps→(ps.map hd3).Nodup→∀ u∈us,∀ u'∈us,∀ q,Head3 h u q→Head3 h u' q→u=u'
 | _,_,.nil,_,_,hu,_,_,_,_,_=>nomatch hu
 | u0 :: us,p0 :: ps,.cons h0 more,nd,u,hu,u',hu',q,k,k'=>by
  rw [zax,zbd] at nd
  have out:∀ v∈us,Head3 h v q→hd3 p0≠q:=fun v hv kv e=>by
   obtain ⟨p1,hp1,k1⟩:=more.left v hv
   have:=k1.one kv
   exact nd.1 (zan.mpr ⟨p1,hp1,this.trans e.symm⟩)
  rcases zau.mp hu with e1 | m1
  ·rcases zau.mp hu' with e2 | m2
   ·rw [e1,e2]
   ·exact absurd (h0.one (e1 ▸ k)) (out u' m2 k')
  ·rcases zau.mp hu' with e2 | m2
   ·exact absurd (h0.one (e2 ▸ k')) (out u m1 k)
   ·exact a5O more nd.2 u m1 u' m2 q k k'
section
variable {X:Cx} {g:Gd}
theorem b2u {S:SS} {H:Hp} {v:V} {p:Int × Int × List D} (r:Rep g S H (b2H p) v):∃ a x,v=.ref a∧SqT g.K H a [.int p.1,.int p.2.1,.ref x]:=by
 obtain ⟨a,vs,rfl,at_,all⟩:=a0B r (show vw S (b2H p)=.tup [.int p.1,.int p.2.1,.tup p.2.2] from rfl)
 simp only [a0e] at all
 obtain ⟨v1,r1,rfl,e1,v2,r2,rfl,e2,v3,r3,rfl,e3,rfl⟩:=all
 simp only [Rep] at e1 e2 e3
 subst e1
 subst e2
 obtain ⟨x,_,rfl,_⟩:=e3
 exact ⟨a,x,rfl,at_⟩
theorem a8J (calm:X.calm=true) (hK:g.K=X.K) (room:X.A.units + 65 < cLine) (cell:Bool):CallR X (.builtin "sorted") (rDc g (a5v cell)):=by
 rintro pins s σ H vs us Q inv given ⟨xs,S,K,cells,reps,told,res⟩
 unfold a5v at told
 split at told
 ·rename_i d
  obtain ⟨v,rfl,rep⟩:=one_of reps
  obtain ⟨ps,seen,nd,k⟩:=told
  obtain ⟨a,ws,rfl,seq,all⟩:=a0j cells rep seen
  rw [hK] at seq
  obtain ⟨its,rel,at_its,fits⟩:=inv.list seq
  have lay:∀ (u:Value) (v:V) (p:Int × Int × List D),RelV v u→Rep g S H (b2H p) v→Head3 s.heap u (hd3 p):=fun u v p hu hr=>by
   obtain ⟨a,x,rfl,at_⟩:=b2u hr
   rw [hK] at at_
   obtain ⟨its2,rel2,⟨o,h1,h2,n,h3⟩,_⟩:=inv.tuple at_
   have hu:u=.ref a:=hu
   subst hu
   cases rel2 with
   | cons q1 q2 =>
    cases q2 with
    | cons q2 q3 =>
     cases q3 with
     | cons q3 q4 =>
      cases q4
      obtain ⟨t1,rfl⟩:=q1
      obtain ⟨t2,rfl⟩:=q2
      cases q3
      exact ⟨a,o,n,t1,t2,x,rfl,h1,h2,h3⟩
  have e:PySem.W.EachIs (fun u p=>∃ v,RelV v u∧Rep g S H (b2H p) v) its ps:=PySem.W.each_of_map b2H (a4i rel all)
  have eh:PySem.W.EachIs (fun u p=>Head3 s.heap u (hd3 p)) its ps:=e.mono fun u p ⟨v,h1,h2⟩=>lay u v p h1 h2
  have eh':PySem.W.EachIs (fun u p=>Head3 (PySem.W.sortingHeap (PySem.W.copyHeap s.heap its) (s.heap.objs.size + 1) its) u (hd3 p)) its ps:=eh.mono fun u p h=>h.keep fun _ _=>PySem.W.sorting_copy_old
  have l1:its.length=ps.length:=e.length
  have hk:PySem.W.EachIs (fun v p=>(a5g (PySem.W.sortingHeap (PySem.W.copyHeap s.heap its) (s.heap.objs.size + 1) its) its).keyOf v=some (a1r (hd3 p))) its ps:=PySem.W.EachIs.of_zip l1 fun q hq=>a4F (List.of_mem_zip hq).1 (eh'.zip q hq)
  have so:=PySem.W.sortVals_each (κ:=a5g (PySem.W.sortingHeap (PySem.W.copyHeap s.heap its) (s.heap.objs.size + 1) its) its) (rev:=false) (fun p=>a1r (hd3 p)) e hk
  have el:PySem.W.sortLe (listOrd itemOrd) false (fun p:Int × Int × List D=>a1r (hd3 p))=leP:=funext fun p=>funext fun q=>b1W p q
  have so:PySem.W.EachIs (fun u p=>∃ v,RelV v u∧Rep g S H (b2H p) v) (PySem.W.sortVals (a5g (PySem.W.sortingHeap (PySem.W.copyHeap s.heap its) (s.heap.objs.size + 1) its) its) false its its) (ps.mergeSort leP):=by rw [← el];exact so
  rw [Vals.ref1 given]
  refine PySem.W.sorted_vals (κ:=a5g (PySem.W.sortingHeap (PySem.W.copyHeap s.heap its) (s.heap.objs.size + 1) its) its) at_its.isList (b8q (s:={ s with heap:=PySem.W.sortingHeap (PySem.W.copyHeap s.heap its) (s.heap.objs.size + 1) its }) (ps:=ps.map hd3) (a3B hd3 eh') (a5O eh' nd)) (by have:=rel.length;omega) ?_
  have len:=PySem.W.sortVals_length (κ:=a5g (PySem.W.sortingHeap (PySem.W.copyHeap s.heap its) (s.heap.objs.size + 1) its) its) (ks:=its) (vs:=its) false rfl
  generalize PySem.W.sortVals (a5g (PySem.W.sortingHeap (PySem.W.copyHeap s.heap its) (s.heap.objs.size + 1) its) its) false its its=out at so len ⊢
  obtain ⟨vs2,r1,r2⟩:=a3C (a3B (R:=fun u d=>∃ v,RelV v u∧Rep g S H d v) b2H so)
  obtain ⟨ep,here⟩:=PyProof.Rows.sortedAll_at s.heap its out.toArray
  have few:vs2.length≤sizeLine:=by rw [r1.length,len,rel.length.symm];exact fits
  exact ⟨.ref _,upd H (s.heap.objs.size + 1) (.lst vs2),inv.laid (t':=s.toks) (fun _ _=>PyProof.Rows.sortedAll_old) (Nat.le_succ _) ⟨few,out,ep,r1,here⟩,rfl,res.outL k cells r2 (inv.hok.fresh (Nat.le_succ _))⟩
 ·exact told.elim
end
end Sv
namespace Sv
open PySem PySem.Spec PyProof.Rows L2
theorem a9E {v:Value} {o:Obj} {Hd:Heap→Prop} (B:Begins v o Hd) :
  Meets (Builtin.«enumerate.__new__» ⟨[.type "enumerate",v],[]⟩) (fun _ R s=>Hd s.heap ∧
   R (.ok (.ret (.ref (s.heap.push o).objs.size))) { s with heap:=(s.heap.push o).push { cls:=.type "enumerate",data:=.fields #[.none,.bool false,.ref s.heap.objs.size,rawInt 0,.none,.none] } }) :=
 .of_wp fun prog w A R s ⟨stands,want⟩=>by
  obtain ⟨hp,gen,dr,tk,os⟩:=s
  have below:=sub_enumerate
  have starts:∀ {A':Around} {E Q:Value→Shared→Prop},Q (.ref hp.objs.size) ⟨hp.push o,gen,dr,tk,os⟩→wpAny (model prog w) A' (pyIter v) Q E ⟨hp,gen,dr,tk,os⟩:=fun q=>B.iter prog w _ _ ⟨hp,gen,dr,tk,os⟩ _ stands q
  wp_walk using starts
  refine wpAny_stack_any fun top=>wpAny_pure ?_
  split
  ·rename_i cl _ _ _ _ _
   cases (cl == Value.type "enumerate") <;> (wp_walk using starts) <;> exact ⟨_,rfl,want⟩
  ·wp_walk using starts
   exact ⟨_,rfl,want⟩
section
variable {prog:Program} {w:World} {A:Around} {E:Value→Shared→Prop} {s:Shared}
theorem a9D {v:Value} {o:Obj} {Hd:Heap→Prop} {Q:Value→Shared→Prop} (B:Begins v o Hd) (stands:Hd s.heap)
  (want:∀ h',IsEnum h' (s.heap.objs.size + 1) s.heap.objs.size 0 .none→h'.get? s.heap.objs.size=some o→h'.objs.size=s.heap.objs.size + 2→(∀ b u,s.heap.get? b=some u→h'.get? b=some u)→Q (.ref (s.heap.objs.size + 1)) { s with heap:=h' }) :
  wpAny (model prog w) A (call (.type "enumerate") [v]) Q E s:=by
 have one:(s.heap.push o).objs.size=s.heap.objs.size + 1:=Heap.size_push ..
 have top:=Heap.get?_push_size (s.heap.push o) (o:=⟨.type "enumerate",none,.fields #[.none,.bool false,.ref s.heap.objs.size,rawInt 0,.none,.none],#[]⟩) rfl
 rw [one] at top
 refine callType_new F.called_enumerate (by decide) (F.typeCall_enumerate_1 _) (F.newCall_enumerate_1 _) (fun obj=>F.args_object_init_2 obj _) F.entry_enumerate_new (a9E B) ⟨stands,?_⟩
 refine ⟨?_,?_⟩
 ·rw [one]
  exact ⟨_,top,rfl⟩
 ·rw [one]
  exact want _ top (Heap.get?_push_of_some _ (Heap.get?_push_size _ B.free)) (by rw [Heap.size_push,one]) fun b u x=>Heap.get?_push_of_some _ (Heap.get?_push_of_some _ x)
end
def b99 (K:zbj) (a:Addr):It :=
 ⟨fun i H=>∃ xs x,SqT K H a xs∧xs[i]?=some x,fun i H v H'=>∃ T x,v=.ref T∧H T=none∧H'=upd H T (.tup [.int (i:Nat),x])∧∀ xs,SqT K H a xs→xs[i]?=some x,fun i H=>∃ xs:List V,SqT K H a xs∧xs.length≤i⟩
theorem a3R {h:Heap} {a b:Addr} {o u:Obj} (ha:h.get? a=some o) (hb:h.get? b=some u) (ne:o.cls≠u.cls):a≠b:=fun e=>ne (by rw [e,hb] at ha;cases ha;rfl)
theorem a8N {P:Program} {w:World} {K:zbj} {elts:List Expr} {kk:Nat} {tpos:Pos} (a e it:Addr) :
  Turn P w K (.Tuple elts kk tpos) (b99 K a) [e,it] e (fun i h=>(∃ old,IsEnum h e it ((i:Nat):Int) old)∧h.IsTupleIter it a i) where
 mem:=zal
 obj:=fun i h ⟨⟨old,en⟩,⟨o,at_it,_,dt⟩⟩ b hb=>by
  rcases zau.mp hb with rfl | hb
  ·exact ⟨_,en,nofun⟩
  ·rw [zaj.mp hb]
   exact ⟨o,at_it,fun v q=>by rw [dt] at q;cases q⟩
 keep:=fun i h h' ⟨⟨old,en⟩,walk⟩ k=>⟨⟨old,k e zal _ en⟩,walk.at fun o q=>k it (zao _ zal) o q⟩
 item:=by
  intro X hP hw hK calm i pins s σ H E I free st g
  subst hP hw hK
  obtain ⟨⟨old,en⟩,walk⟩:=st
  obtain ⟨xs,x,seq,at_i⟩:=g
  obtain ⟨its,vals,tup,_⟩:=I.tuple seq
  obtain ⟨oi,gi,ci,_⟩:=id walk
  obtain ⟨oa,ga,ca,_⟩:=id tup
  have ei:e≠it:=a3R en gi (by rw [ci];exact (by decide:Value.type "enumerate" ≠ .type "tuple_iterator"))
  have ea:e≠a:=a3R en ga (by rw [ca];exact (by decide:Value.type "enumerate" ≠ .type "tuple"))
  have ai:a≠it:=a3R ga gi (by rw [ca,ci];decide)
  have inside:i < its.toArray.size:=by
   have l:=vals.length
   have:=(List.getElem?_eq_some_iff.mp at_i).1
   rw [List.size_toArray]
   omega
  have W:=WalksT.enumerateD (prog:=X.prog) (w:=X.w) (A:=X.A) (fp:=[it,a]) (Draws.tuple (A:=X.A.in1) (I.ok.hd calm) it a ai its.toArray) e ei (by simp [ei,ea]) zal
  refine W.item i s _ _ inside ⟨⟨old,en⟩,walk,tup⟩ fun T got h1 tk told young isT mid kept=>?_
  obtain ⟨t0,v,here,rfl⟩:=told
  refine ⟨_,rfl,W.go elts kk tpos i T _ _ _ mid fun h2 st2 kept2=>?_⟩
  obtain ⟨u,hu,ru⟩:=vals.get at_i
  have uv:u=v:=by
   have:its.toArray[i]?=some u:=by simpa using hu
   rw [here] at this
   exact (Option.some.inj this).symm
  subst uv
  obtain ⟨oT,gT,cT,nT,dT⟩:=isT
  have gT2:=kept2 T oT (W.apart i T h1 mid) gT
  have new:ObjOk X.prog X.w (upd H T (.tup [.int (i:Nat),x])) h2 T (.tup [.int (i:Nat),x]):=⟨by show 2≤sizeLine;decide,[.int i t0,u],.cons ⟨_,rfl⟩ (.cons ru .nil),oT,gT2,cT,nT,dT⟩
  have J:=I.turnedNew (t':=tk) (ch:=[e,it]) (fun b o hb q=>kept2 b o hb (kept b o hb q)) free young new
  refine ⟨.ref T,_,J,rfl,⟨T,x,rfl,I.hok.fresh young,rfl,fun ys hy=>by rw [I.tuple_inj hy seq];exact at_i⟩,?_,fun b hb=>?_⟩
  ·obtain ⟨⟨old2,en2⟩,walk2,_⟩:=st2
   exact ⟨⟨old2,en2⟩,walk2⟩
  ·have ne:b≠T:=fun q=>W.apart i T h1 mid (by rw [← q];exact hb)
   rw [upd_ne ne]
   exact (free b hb).1
 done:=by
  intro X hP hw hK calm i pins s σ H E I free st g
  subst hP hw hK
  obtain ⟨⟨old,en⟩,walk⟩:=st
  obtain ⟨xs,seq,past⟩:=g
  obtain ⟨its,vals,tup,_⟩:=I.tuple seq
  obtain ⟨oi,gi,ci,di⟩:=id walk
  obtain ⟨oa,ga,ca,_⟩:=id tup
  have l:=vals.length
  have gone:its.toArray[i]?=none:=by rw [List.getElem?_toArray];exact List.getElem?_eq_none (by omega)
  have over:Draws X.prog X.w X.A.in1 it [it,a] 0 (fun _ _=>False) (fun _ h=>h.IsTupleIter it a i∧h.IsTuple a its.toArray) :=
   {
    live:=fun _ _ ⟨⟨o,q,_⟩,_⟩=>⟨o,q⟩
    frame:=fun _ _ _ st k=>⟨st.1.at fun o q=>k it zal o q,st.2.at fun o q=>k a (zao _ zal) o q⟩
    item:=fun _ _ _ _ none _ _=>absurd none (Nat.not_lt_zero _)
    done:=fun _ _ _ st hE=>wpAny_nextOf_tuple_end (I.ok.hd calm) st.1 st.2 gone hE }
  refine wpAny_pyNext_enum_endD over en ⟨walk,tup⟩ fun h' kept=>⟨rfl,?_⟩
  obtain ⟨f0,f1,f2,f3,f4,f5⟩:=free it (zao _ zal)
  exact I.turned (t':=s.toks) (fun b o hb q=>kept b o hb q) f0 f1 f3 f4 f5
 self:=fun A i s Q E ⟨⟨_,en⟩,_⟩ h=>wpAny_pyIter_enum en h
def b7i (K:zbj) (ta:TA):TI:=fun σ H R=>ta σ H fun vs H1=>∃ a xs,vs=[.ref a]∧SqT K H1 a xs∧R (b99 K a) H1
theorem b2m {X:Cx} {x:Expr} {ta:TA} {p pos tpos:Pos} {elts:List Expr} {kk:Nat} (glob:Gl X "enumerate") (free:X.mg "enumerate" = none) (arg:PA X [x] ta) (plain:starEach [x] X.env=[(false,eval x X.env)]) :
  PI X (.Tuple elts kk tpos) (.Call (.Name "enumerate" p) [x] [] pos) (b7i X.K ta):=by
 refine ⟨fun pins s σ H R I h=>?_⟩
 refine Call_ (ld_blt I glob free boot_enumerate (callWith_type1 (thn (arg.run pos pins s σ H _ I h) fun us s1 ⟨vs,H1,I1,like,want⟩=>?_) plain rfl))
 obtain ⟨a,xs,rfl,seq,want⟩:=want
 cases like with
 | cons one rest =>
  cases rest
  cases one
  obtain ⟨its,vals,tup,_⟩:=I1.tuple seq
  refine a9D (begins_tuple a its.toArray) tup fun h' en at_it _ kept=>wpAny_pyIter_enum en ?_
  refine ⟨_,[s1.heap.objs.size + 1,s1.heap.objs.size],_,_,H1,rfl,I1.kept (t':=s1.toks) kept,a8N a (s1.heap.objs.size + 1) s1.heap.objs.size,⟨⟨.none,en⟩,⟨_,at_it,rfl,rfl⟩⟩,fun b hb=>?_,want⟩
  have late:s1.heap.objs.size≤b:=by
   rcases zau.mp hb with rfl | hb
   ·exact Nat.le_add_right _ _
   ·exact Nat.le_of_eq (zaj.mp hb).symm
  exact I1.fpOk late (I1.hok.fresh late)
end Sv
namespace Sv
open PySem PySem.Spec PyProof.Rows L2
def SqB (K:zbj):Bool→Hp→Addr→List V→Prop
 | true=>SqT K
 | false=>SqL K
def IsB:Bool→Heap→Addr→Array Value→Prop
 | true=>Heap.IsTuple
 | false=>Heap.IsList
def ItB:Bool→Heap→Addr→Addr→Nat→Prop
 | true=>Heap.IsTupleIter
 | false=>Heap.IsListIter
def c4j:Bool→Addr→Obj
 | true,a=>{ cls:=.type "tuple_iterator",data:=.fields #[.ref a,.int 0 0] }
 | false,a=>{ cls:=.type "list_iterator",data:=.fields #[.ref a,.int 0 0] }
theorem c30 (t:Bool) (a:Addr) (its:Array Value):Begins (.ref a) (c4j t a) fun h=>IsB t h a its:=by
 cases t
 ·exact begins_list a its
 ·exact begins_tuple a its
theorem c4e {t:Bool} {h:Heap} {it a:Addr} (e:h.get? it=some (c4j t a)):ItB t h it a 0:=by
 cases t <;> exact ⟨_,e,rfl,rfl⟩
theorem ItB.at_ {t:Bool} {h h':Heap} {it a:Addr} {i:Nat} (x:ItB t h it a i) (k:∀ o,h.get? it=some o→h'.get? it=some o):ItB t h' it a i:=by
 cases t
 ·exact Heap.IsListIter.at x k
 ·exact Heap.IsTupleIter.at x k
theorem ItB.obj {t:Bool} {h:Heap} {it a:Addr} {i:Nat} (x:ItB t h it a i):∃ o,h.get? it=some o∧∀ v,o.data≠.cell v:=by
 cases t <;> (obtain ⟨o,e,_,d⟩:=x;exact ⟨o,e,fun v q=>by rw [d] at q;cases q⟩)
theorem a7z {prog:Program} {w:World} {A:Around} (t:Bool) (hh:A.handled=none) (it a:Addr) (ne:a≠it) (its:Array Value) (i:Nat) :
  Draws prog w A it [it,a] (its.size - i) (fun j v=>its[i + j]?=some v) (fun j h=>ItB t h it a (i + j)∧IsB t h a its):=by
 cases t
 ·exact {
   live:=fun _ _ st=>let ⟨o,ho,_⟩:=st.1;⟨o,ho⟩
   frame:=fun _ _ _ st hk=>⟨Heap.IsListIter.at st.1 fun o e=>hk it (by simp) o e,Heap.IsList.at st.2 fun o e=>hk a (by simp) o e⟩
   item:=fun j s Q E hj st hQ=>by
    have hi:i + j < its.size:=by omega
    refine wpAny_nextOf_list_item st.1 st.2 (x:=its[i + j]) (by simp [hi]) fun h' hit' hs'=>?_
    exact hQ _ h' s.toks (by simp [hi]) ⟨hit',Heap.IsList.extBut st.2 hs'.extBut ne⟩ hs'
   done:=fun s Q E st hE=>wpAny_nextOf_list_end hh st.1 st.2 (Array.getElem?_eq_none (by omega)) hE }
 ·exact {
   live:=fun _ _ st=>let ⟨o,ho,_⟩:=st.1;⟨o,ho⟩
   frame:=fun _ _ _ st hk=>⟨Heap.IsTupleIter.at st.1 fun o e=>hk it (by simp) o e,Heap.IsTuple.at st.2 fun o e=>hk a (by simp) o e⟩
   item:=fun j s Q E hj st hQ=>by
    have hi:i + j < its.size:=by omega
    refine wpAny_nextOf_tuple_item st.1 st.2 (x:=its[i + j]) (by simp [hi]) fun h' hit' hs'=>?_
    exact hQ _ h' s.toks (by simp [hi]) ⟨hit',Heap.IsTuple.extBut st.2 hs'.extBut ne⟩ hs'
   done:=fun s Q E st hE=>wpAny_nextOf_tuple_end hh st.1 st.2 (Array.getElem?_eq_none (by omega)) hE }
theorem b5D {X:Cx} {pins:List (Addr × Obj)} {σ:L2.St} {H:Hp} {s:Shared} (I:Inv X pins σ H s) (t:Bool) {a:Addr} {xs:List V} (h:SqB X.K t H a xs):∃ its:List Value,Vals xs its∧IsB t s.heap a its.toArray:=by
 cases t
 ·obtain ⟨its,rv,p,_⟩:=I.list h
  exact ⟨its,rv,p.isList⟩
 ·obtain ⟨its,rv,p,_⟩:=I.tuple h
  exact ⟨its,rv,p⟩
theorem c4b {X:Cx} {pins:List (Addr × Obj)} {σ:L2.St} {H:Hp} {s:Shared} (I:Inv X pins σ H s) {t:Bool} {a:Addr} {xs ys:List V} (h:SqB X.K t H a xs) (h':SqB X.K t H a ys):xs=ys:=by
 cases t
 ·exact I.list_inj h h'
 ·exact I.tuple_inj h h'
theorem b3u {N d:Addr} (h:d < N):∀ c∈([N + 4,N + 2,N + 3,N,N + 1]:List Addr),c≠d:=fun c hc e=>by
 have e':c=N + 4∨c=N + 2∨c=N + 3∨c=N∨c=N + 1:=by simpa using hc
 have lo:N≤c:=by
  rcases e' with z | z | z | z | z
  ·rw [z];exact Nat.le_add_right _ _
  ·rw [z];exact Nat.le_add_right _ _
  ·rw [z];exact Nat.le_add_right _ _
  ·rw [z];exact Nat.le_refl _
  ·rw [z];exact Nat.le_add_right _ _
 exact absurd (Nat.lt_of_lt_of_le h lo) (by rw [e];exact Nat.lt_irrefl _)
theorem ltB {t:Bool} {h:Heap} {a:Addr} {its:Array Value} (x:IsB t h a its):a < h.objs.size:=by
 cases t <;> (obtain ⟨o,e,_⟩:=x;exact Heap.lt_size e)
def c0a (K:zbj) (t1:Bool) (a:Addr) (t2:Bool) (b:Addr):It :=
 ⟨fun i H=>∃ (xs ys:List V) (x y:V),SqB K t1 H a xs∧SqB K t2 H b ys∧xs[i]?=some x∧ys[i]?=some y,
  fun i H v H'=>∃ T x y,v=.ref T∧H T=none∧H'=upd H T (.tup [x,y])∧(∀ xs,SqB K t1 H a xs→xs[i]?=some x)∧∀ ys,SqB K t2 H b ys→ys[i]?=some y,
  fun i H=>∃ xs ys:List V,SqB K t1 H a xs∧SqB K t2 H b ys∧(xs.length≤i∨ys.length≤i)⟩
theorem c4E {N a b:Addr} (ha:∀ c∈([N + 4,N + 2,N + 3,N,N + 1]:List Addr),c≠a) (hb:∀ c∈([N + 4,N + 2,N + 3,N,N + 1]:List Addr),c≠b):ZipSep2 (N + 4) (N + 2) (N + 3) N (N + 1) [N,a] [N + 1,b]:=by
 have q:∀ {i j:Nat},i≠j→(N + i:Addr)≠(N + j:Addr):=fun {i j} h e=>h (Nat.add_left_cancel e)
 have q0:∀ {i:Nat},i≠0→(N + i:Addr)≠N:=fun {i} h e=>h (Nat.add_left_cancel (e.trans (Nat.add_zero N).symm))
 have no:∀ {c x y:Addr},c≠x→c≠y→c∉([x,y]:List Addr):=fun h1 h2 h=>by
  rcases zau.mp h with e | h
  ·exact h1 e
  ·exact h2 (zaj.mp h)
 exact {
  TIz:=q (by decide),TOz:=q (by decide),TITO:=q (by decide),TIi1:=q0 (by decide),mem1:=zal
  zf1:=no (q0 (by decide)) (ha _ (by simp)),Tf1:=no (q0 (by decide)) (ha _ (by simp)),TIi2:=q (by decide),mem2:=zal
  zf2:=no (q (by decide)) (hb _ (by simp)),Tf2:=no (q (by decide)) (hb _ (by simp))
  sep1_2:=no (q0 (by decide)).symm (hb _ (by simp)),sep2_1:=no (q0 (by decide)) (ha _ (by simp)) }
theorem b06 {P:Program} {w:World} {K:zbj} {elts:List Expr} {kk:Nat} {tpos:Pos} (t1 t2:Bool) {a b N:Addr} (la:a < N) (lb:b < N) :
  Turn P w K (.Tuple elts kk tpos) (c0a K t1 a t2 b) [N + 4,N + 2,N + 3,N,N + 1] (N + 4) (fun i h=>IsZip h (N + 4) (N + 2) (N + 3) .none∧IsTupOf2 h (N + 2) (.ref N) (.ref (N + 1))∧(∃ x y,IsTupOf2 h (N + 3) x y)∧ItB t1 h N a i∧ItB t2 h (N + 1) b i) where
 mem:=by simp
 obj:=fun i h st c hc=>by
  obtain ⟨hz,hTI,⟨x,y,hTO⟩,h1,h2⟩:=st
  have e':c=N + 4∨c=N + 2∨c=N + 3∨c=N∨c=N + 1:=by simpa using hc
  rcases e' with q | q | q | q | q
  ·rw [q];exact ⟨_,hz,fun v q=>nomatch q⟩
  ·rw [q];exact ⟨_,hTI,fun v q=>nomatch q⟩
  ·rw [q];exact ⟨_,hTO,fun v q=>nomatch q⟩
  ·rw [q];exact h1.obj
  ·rw [q];exact h2.obj
 keep:=fun i h h' st k=>by
  obtain ⟨hz,hTI,⟨x,y,hTO⟩,h1,h2⟩:=st
  exact ⟨k _ (by simp) _ hz,k _ (by simp) _ hTI,⟨x,y,k _ (by simp) _ hTO⟩,h1.at_ fun o q=>k N (by simp) o q,h2.at_ fun o q=>k (N + 1) (by simp) o q⟩
 item:=by
  intro X hP hw hK hc i pins s σ H E I hf st hg
  subst hP hw hK
  obtain ⟨hz,hTI,⟨x0,y0,hTO⟩,h1,h2⟩:=st
  obtain ⟨xs,ys,x,y,hqx,hqy,hx,hy⟩:=hg
  obtain ⟨its,rv,p⟩:=b5D I t1 hqx
  obtain ⟨its2,rv2,p2⟩:=b5D I t2 hqy
  obtain ⟨u,hu,ru⟩:=rv.get hx
  obtain ⟨u2,hu2,ru2⟩:=rv2.get hy
  have S:=c4E (b3u la) (b3u lb)
  have n1:i < its.length:=(List.getElem?_eq_some_iff.mp hu).1
  have n2:i < its2.length:=(List.getElem?_eq_some_iff.mp hu2).1
  have hzl:N + 4 < s.heap.objs.size:=Heap.lt_size hz
  refine wpAny_pyNext_zipD2_item (i:=0) S (a7z (prog:=X.prog) (w:=X.w) (A:=X.A.in1) t1 (I.ok.hd hc) N a (b3u la N (by simp)).symm its.toArray i) (a7z (prog:=X.prog) (w:=X.w) (A:=X.A.in1) t2 (I.ok.hd hc) (N + 1) b (b3u lb (N + 1) (by simp)).symm its2.toArray i) hz hTI hTO ⟨h1,p⟩ ⟨h2,p2⟩ (by rw [List.size_toArray];omega) (by rw [List.size_toArray];omega) fun v1 v2 h' tk p1 p2 z' TO' s1 s2 hT hsz hk=>?_
  have e1:v1=u:=by
   have p1:its.toArray[i + 0]?=some v1:=p1
   rw [Nat.add_zero,List.getElem?_toArray,hu] at p1
   exact (Option.some.inj p1).symm
  have e2:v2=u2:=by
   have p2:its2.toArray[i + 0]?=some v2:=p2
   rw [Nat.add_zero,List.getElem?_toArray,hu2] at p2
   exact (Option.some.inj p2).symm
  subst e1 e2
  refine ⟨_,rfl,wpAny_letOwnedTupleGo_zip (s:={ s with heap:=h',toks:=tk }) z' fun h'' z'' sb=>?_⟩
  have hT2:h''.get? s.heap.objs.size=some { cls:=.type "tuple",data:=.seq #[v1,v2] }:=(sb.2 _ (Nat.ne_of_gt hzl)).trans hT
  have new:ObjOk X.prog X.w (upd H s.heap.objs.size (.tup [x,y])) h'' s.heap.objs.size (.tup [x,y]) :=
   ⟨by show 2≤sizeLine;decide,[v1,v2],.cons ru (.cons ru2 .nil),⟨_,hT2,rfl,_,rfl⟩⟩
  have I1:Inv X pins σ (upd H s.heap.objs.size (.tup [x,y])) { s with heap:=h'',toks:=tk } :=
   I.turnedNew (t':=tk) (ch:=[N + 4,N + 2,N + 3,N,N + 1]) (fun c o hb q=>(sb.2 c (fun q'=>hb (by simp [q']))).trans (hk c o (fun q'=>hb (by simp [q'])) (fun q'=>hb (by simp [q'])) (fun q'=>hb (by simp [q'])) (fun q'=>hb (by simp [q'])) q)) hf (Nat.le_refl _) new
  refine ⟨.ref s.heap.objs.size,_,I1,rfl,⟨_,x,y,rfl,I.hok.fresh (Nat.le_refl _),rfl,fun l hl=>by rw [c4b I hl hqx];exact hx,fun l hl=>by rw [c4b I hl hqy];exact hy⟩,⟨z'',?_,⟨v1,v2,?_⟩,?_,?_⟩,fun c hcm=>?_⟩
  ·exact (sb.2 _ S.TIz).trans (hk _ _ S.TIz S.TITO S.TIi1 S.TIi2 hTI)
  ·exact (sb.2 _ S.TOz).trans TO'
  ·exact ItB.at_ s1.1 fun o q=>(sb.2 _ S.zi1.symm).trans q
  ·exact ItB.at_ s2.1 fun o q=>(sb.2 _ S.zi2.symm).trans q
  ·have hlt:c < s.heap.objs.size:=by
    have e':c=N + 4∨c=N + 2∨c=N + 3∨c=N∨c=N + 1:=by simpa using hcm
    rcases e' with q | q | q | q | q
    ·rw [q];exact hzl
    ·rw [q];exact Heap.lt_size hTI
    ·rw [q];exact Heap.lt_size hTO
    ·rw [q];obtain ⟨_,e1,_⟩:=h1.obj;exact Heap.lt_size e1
    ·rw [q];obtain ⟨_,e2,_⟩:=h2.obj;exact Heap.lt_size e2
   rw [upd_ne (Nat.ne_of_lt hlt)]
   exact (hf c hcm).1
 done:=by
  intro X hP hw hK hc i pins s σ H E I hf st hg
  subst hP hw hK
  obtain ⟨hz,hTI,⟨x0,y0,hTO⟩,h1,h2⟩:=st
  obtain ⟨xs,ys,hqx,hqy,hend⟩:=hg
  obtain ⟨its,rv,p⟩:=b5D I t1 hqx
  obtain ⟨its2,rv2,p2⟩:=b5D I t2 hqy
  have l1:=rv.length
  have l2:=rv2.length
  have S:=c4E (b3u la) (b3u lb)
  refine wpAny_pyNext_zipD2_end (i:=0) S (a7z (prog:=X.prog) (w:=X.w) (A:=X.A.in1) t1 (I.ok.hd hc) N a (b3u la N (by simp)).symm its.toArray i) (a7z (prog:=X.prog) (w:=X.w) (A:=X.A.in1) t2 (I.ok.hd hc) (N + 1) b (b3u lb (N + 1) (by simp)).symm its2.toArray i) hz hTI hTO ⟨h1,p⟩ ⟨h2,p2⟩ (Nat.zero_le _) (Nat.zero_le _) (by rw [List.size_toArray,List.size_toArray];omega) fun h' tk hk=>⟨rfl,I.turnedL (t':=tk) (ch:=[N + 4,N + 2,N + 3,N,N + 1]) (fun c o hb q =>
   hk c o (fun q'=>hb (by simp [q'])) (fun q'=>hb (by simp [q'])) (fun q'=>hb (by simp [q'])) (fun q'=>hb (by simp [q'])) q) hf⟩
 self:=fun A i s Q E st h=>wpAny_pyIter_zip st.1 h
def c1t (K:zbj) (t1 t2:Bool) (ta:TA):TI:=fun σ H R=>ta σ H fun vs H1=>∃ a b xs ys,vs=[.ref a,.ref b]∧SqB K t1 H1 a xs∧SqB K t2 H1 b ys∧R (c0a K t1 a t2 b) H1
theorem b47 {X:Cx} {e e2:Expr} {ta:TA} {p pos tpos:Pos} {elts:List Expr} {kk:Nat} (t1 t2:Bool) (hg:Gl X "zip") (hm:X.mg "zip" = none) (ha:PA X [e,e2] ta)
  (hs:starEach [e,e2] X.env=(false,eval e X.env) :: starEach [e2] X.env) (hpl:(backTo pos (starEach [e2] X.env)).any (·.1)=false) :
  PI X (.Tuple elts kk tpos) (.Call (.Name "zip" p) [e,e2] [] pos) (c1t X.K t1 t2 ta):=by
 refine ⟨fun pins s σ H R I h=>?_⟩
 refine Call_ (ld_blt I hg hm PyProof.Rows.boot_zip (PyProof.Rows.callWith_type1 (thn (ha.run pos pins s σ H _ I h) fun us s1 ⟨vs,H1,I1,r1,q1⟩=>?_) hs hpl))
 obtain ⟨a,b,xs,ys,ex,hqx,hqy,q⟩:=q1
 subst ex
 cases r1 with
 | cons r rr =>
  cases rr with
  | cons r' rr =>
   cases rr
   cases r
   cases r'
   obtain ⟨its,rv,p1⟩:=b5D I1 t1 hqx
   obtain ⟨its2,rv2,p2⟩:=b5D I1 t2 hqy
   refine zip_begins2 (c30 t1 a its.toArray) (c30 t2 b its2.toArray) p1 p2 fun h' hz hTI hTO h1 h2 hsz hk=>wpAny_pyIter_zip hz ?_
   have I2:Inv X pins σ H1 { s1 with heap:=h' }:=I1.kept (t':=s1.toks) hk
   refine ⟨s1.heap.objs.size + 4,[s1.heap.objs.size + 4,s1.heap.objs.size + 2,s1.heap.objs.size + 3,s1.heap.objs.size,s1.heap.objs.size + 1],_,_,H1,rfl,I2,b06 t1 t2 (ltB p1) (ltB p2),⟨hz,hTI,⟨_,_,hTO⟩,c4e h1,c4e h2⟩,fun c hcm=>?_,q⟩
   have e':c=s1.heap.objs.size + 4∨c=s1.heap.objs.size + 2∨c=s1.heap.objs.size + 3∨c=s1.heap.objs.size∨c=s1.heap.objs.size + 1:=by simpa using hcm
   have hle:s1.heap.objs.size≤c:=by
    rcases e' with z | z | z | z | z
    ·rw [z];exact Nat.le_add_right _ _
    ·rw [z];exact Nat.le_add_right _ _
    ·rw [z];exact Nat.le_add_right _ _
    ·rw [z];exact Nat.le_refl _
    ·rw [z];exact Nat.le_add_right _ _
   exact I1.fpOk hle (I1.hok.fresh hle)
end Sv
namespace Sv
open PySem PySem.Spec PyProof.Rows L2
open L2H (RoomH)
abbrev XK':=Addr→List (Str × D)→SS→Prop
abbrev XD':=Addr→List (Str × D)→DS→SS→Prop
abbrev TR:=Option (Addr × Obj)→List D→SS→DK→XK'→Prop
structure SE where
 nx:DS→SS→Prop
 rt:DK
 bk:DS→SS→Prop
 ct:DS→SS→Prop
def XDk (g:Gd) (S:SS) (H:Hp) (d:Option Addr) (fs:List (Str × D)):Prop:=(d=none∧fs=[])∨∃ dd ws,d=some dd∧S dd=none∧H dd=some (.xd ws)∧a1X g S H fs ws
def b9b (g:Gd) (S:SS) (H:Hp) (Y:XK') (E:XK):Prop:=∀ C fs S' d H',Y C fs S'→a0d S H S' H'→CellsOk g S' H'→XDk g S' H' d fs→E (.ref C) d H'
def spD (g:Gd) (T:TR):SpM:=fun m vs H Q E=>∃ ds S K Y,CellsOk g S H∧a0e g S H ds vs∧T m ds S K Y∧Res g S H K Q∧b9b g S H Y E
def a6z (g:Gd) (S:SS) (H:Hp) (Y:XD') (W:WX):Prop:=∀ C fs δ' S' d σ' H',Y C fs δ' S'→a0d S H S' H'→Rel g S' H' δ' σ'→XDk g S' H' d fs→W (.ref C) d σ' H'
structure b5R (g:Gd) (S:SS) (H:Hp) (F:SE) (D:Ends):Prop where
 nx:∀ δ' S' σ' H',F.nx δ' S'→a0d S H S' H'→Rel g S' H' δ' σ'→D.nx σ' H'
 rt:Res g S H F.rt D.rt
 bk:∀ δ' S' σ' H',F.bk δ' S'→a0d S H S' H'→Rel g S' H' δ' σ'→D.bk σ' H'
 ct:∀ δ' S' σ' H',F.ct δ' S'→a0d S H S' H'→Rel g S' H' δ' σ'→D.ct σ' H'
structure a80 (g:Gd) (S1:SS) (H1:Hp) (J:It) (ds:List D) (ok:SS→Prop):Prop where
 go:∀ i S H,i < ds.length→a0d S1 H1 S H→CellsOk g S H→ok S→J.go i H
 yl:∀ i S H x H' d,ds[i]?=some d→a0d S1 H1 S H→CellsOk g S H→ok S→J.yld i H x H'→a0d S H S H'∧CellsOk g S H'∧Rep g S H' d x
 st:∀ i S H,ds.length≤i→a0d S1 H1 S H→CellsOk g S H→ok S→J.stop i H
abbrev RdE:=DS→SS→XD'→DK→Prop
abbrev RdT:=DS→SS→XD'→(Bool→SS→Prop)→Prop
abbrev RdL:=DS→SS→XD'→(List D→SS→Prop)→Prop
abbrev RdI:=DS→SS→XD'→(List D→(SS→Prop)→SS→Prop)→Prop
abbrev RdS:=DS→SS→XD'→SE→Prop
section
variable (g:Gd) (W:WX)
def LE (t:RdE):TE:=fun σ H Q=>∃ δ S Y K,Rel g S H δ σ∧t δ S Y K∧Res g S H K Q∧a6z g S H Y W
def LT (t:RdT):TT:=fun σ H Q=>∃ δ S Y K,Rel g S H δ σ∧t δ S Y K∧(∀ b S' H',K b S'→a0d S H S' H'→CellsOk g S' H'→Q b H')∧a6z g S H Y W
def LA (t:RdL):TA:=fun σ H Q=>∃ δ S Y K,Rel g S H δ σ∧t δ S Y K∧(∀ ds S' vs H',K ds S'→a0d S H S' H'→CellsOk g S' H'→a0e g S' H' ds vs→Q vs H')∧a6z g S H Y W
def LI (t:RdI):TI:=fun σ H R=>∃ δ S Y K,Rel g S H δ σ∧t δ S Y K∧(∀ ds ok S' H' J,K ds ok S'→a0d S H S' H'→CellsOk g S' H'→a80 g S' H' J ds ok→R J H')∧a6z g S H Y W
def LS (t:RdS):TS:=fun D σ H=>∃ δ S Y F,Rel g S H δ σ∧t δ S Y F∧b5R g S H F D∧a6z g S H Y W
end
section
variable {g:Gd} {W:WX} {S S1 S':SS} {H H1 H':Hp} {δ:DS} {σ:L2.St}
theorem Rel.mono (P:a0d S H S' H') (c:CellsOk g S' H') (h:Rel g S H δ σ):Rel g S' H' δ σ:=⟨h.sl.mono P,c⟩
theorem XDk.mono {d:Option Addr} {fs:List (Str × D)} (P:a0d S H S' H') (h:XDk g S H d fs):XDk g S' H' d fs:=by
 rcases h with h | ⟨dd,ws,e,n,q,r⟩
 ·exact .inl h
 ·exact .inr ⟨dd,ws,e,P.none_of n q,P.kp _ _ n q,r.mono P⟩
theorem Res.mono {K:DK} {Q:VK} (P:a0d S H S1 H1) (h:Res g S H K Q):Res g S1 H1 K Q:=fun d S' v H' k p c r=>h d S' v H' k (P.trans p) c r
theorem b9b.mono {Y:XK'} {E:XK} (P:a0d S H S1 H1) (h:b9b g S H Y E):b9b g S1 H1 Y E:=fun C fs S' d H' y p c x=>h C fs S' d H' y (P.trans p) c x
theorem a6z.mono {Y:XD'} (P:a0d S H S1 H1) (h:a6z g S H Y W):a6z g S1 H1 Y W:=fun C fs δ' S' d σ' H' y p c x=>h C fs δ' S' d σ' H' y (P.trans p) c x
theorem b5R.mono {F:SE} {D:Ends} (P:a0d S H S1 H1) (h:b5R g S H F D):b5R g S1 H1 F D :=
 ⟨fun δ' S' σ' H' y p c=>h.nx δ' S' σ' H' y (P.trans p) c,h.rt.mono P,fun δ' S' σ' H' y p c=>h.bk δ' S' σ' H' y (P.trans p) c,fun δ' S' σ' H' y p c=>h.ct δ' S' σ' H' y (P.trans p) c⟩
end
section
variable {X:Cx} {e:Expr}
theorem PE.imp {t t':TE} (h:PE X e t) (w:∀ σ H Q,t' σ H Q→t σ H Q):PE X e t':=⟨fun pins s σ H Q I q=>h.run pins s σ H Q I (w σ H Q q)⟩
theorem PT.imp {t t':TT} (h:PT X e t) (w:∀ σ H Q,t' σ H Q→t σ H Q):PT X e t':=⟨fun pins s σ H Q I q=>h.run pins s σ H Q I (w σ H Q q)⟩
theorem PW.imp {t t':TT} (h:PW X e t) (w:∀ σ H Q,t' σ H Q→t σ H Q):PW X e t':=⟨fun whole pins s σ H Q I q=>h.run whole pins s σ H Q I (w σ H Q q)⟩
theorem PA.imp {es:List Expr} {t t':TA} (h:PA X es t) (w:∀ σ H Q,t' σ H Q→t σ H Q):PA X es t':=⟨fun pos pins s σ H Q I q=>h.run pos pins s σ H Q I (w σ H Q q)⟩
theorem PI.imp {tg:Expr} {t t':TI} (h:PI X tg e t) (w:∀ σ H Q,t' σ H Q→t σ H Q):PI X tg e t':=⟨fun pins s σ H Q I q=>h.run pins s σ H Q I (w σ H Q q)⟩
theorem PS.imp {st:Stmt} {t t':TS} (h:PS X st t) (w:∀ D σ H,t' D σ H→t D σ H):PS X st t':=⟨fun pins s σ H D I q=>h.run pins s σ H D I (w D σ H q)⟩
theorem PSs.imp {st:List Stmt} {t t':TS} (h:PSs X st t) (w:∀ D σ H,t' D σ H→t D σ H):PSs X st t':=⟨fun pins s σ H D I q=>h.run pins s σ H D I (w D σ H q)⟩
end
inductive RC where
 | non | bl (b:Bool) | int (i:Int) | str (x:Str)
def RC.d:RC→D
 | .non=>.non | .bl b=>.bl b | .int i=>.int i | .str x=>.str x
inductive Bn where
 | len | abs | max | min | rpr | int | tup | lst (cell:Bool) | srt (cell:Bool) | dic (cell:Bool) | dcp (cell:Bool) | all | sum | str | lsk (cell:Bool) | lss (cell:Bool) | mnl | srl (cell:Bool) | srp (cell:Bool)
def Bn.nm:Bn→Str
 | .len => "len" | .abs => "abs" | .max => "max" | .min => "min" | .rpr => "repr" | .int => "int" | .tup => "tuple" | .lst _ => "list" | .srt _ => "sorted" | .dic _ => "dict" | .dcp _ => "dict" | .all => "all" | .sum => "sum" | .str => "str" | .lsk _ => "list" | .lss _ => "list" | .mnl => "min" | .srl _ => "sorted" | .srp _ => "sorted"
def Bn.den:Bn→List D→SS→DK→Prop
 | .len=>b7x | .abs=>c0k | .max=>maxD | .min=>minD | .rpr=>b5d | .int=>intD | .tup=>b04 | .lst cell=>b4C cell | .srt cell=>a7g cell | .dic cell=>b36 cell | .dcp cell=>a9v cell | .all=>c0B | .sum=>c3E | .str=>c3C | .lsk cell=>a99 cell | .lss cell=>b0a cell | .mnl=>b4G | .srl cell=>a5u cell | .srp cell=>a5v cell
def Bn.needs (m0:Option (Addr × Obj)):Bn→Prop
 | .len=>True | .abs=>True | .max=>m0=none | .min=>m0=none | .rpr=>True | .int=>True | .tup=>True | .lst _=>True | .srt _=>m0=none | .dic _=>True | .dcp _=>m0=none | .all=>m0=none | .sum=>m0=none | .str=>True | .lsk _=>m0=none | .lss _=>m0=none | .mnl=>m0=none | .srl _=>m0=none | .srp _=>m0=none
inductive Mn where
 | join | upper | app | ins | pop | clr | cnt | dpop | upd | dget | dset | dpop2 | idx | spl | rem | ext
def Mn.nm:Mn→Str
 | .join => "join" | .upper => "upper" | .app => "append" | .ins => "insert" | .pop => "pop" | .clr => "clear" | .cnt => "count" | .dpop => "pop" | .upd => "update" | .dget => "get" | .dset => "setdefault" | .dpop2 => "pop" | .idx => "index" | .spl => "split" | .rem => "remove" | .ext => "extend"
def Mn.den:Mn→D→List D→SS→DK→Prop
 | .join=>b4u | .upper=>b08 | .app=>c0C | .ins=>c1y | .pop=>c1T | .clr=>a9o | .cnt=>c0U | .dpop=>b38 | .upd=>c3S | .dget=>b34 | .dset=>b4a | .dpop2=>a9w | .idx=>c1x | .spl=>b0T | .rem=>c10 | .ext=>c1n
def a5U (x:D):Prop:=∃ z,x=.str z
def a2b (x:D) (S:SS):Prop:=∃ ds,vw S x=.lst ds
def a5S (x:D) (S:SS):Prop:=∃ p kvs,x=.obj p∧S p=some (.dic kvs)
def Mn.rc:Mn→D→SS→Prop
 | .join=>fun x _=>a5U x | .upper=>fun x _=>a5U x
 | .app=>a2b | .ins=>a2b | .pop=>a2b | .clr=>a2b | .cnt=>a2b | .dpop=>a5S | .upd=>a5S | .dget=>b3l | .dset=>a5S | .dpop2=>a5S | .idx=>a2b | .spl=>fun x _=>a5U x | .rem=>a2b | .ext=>a2b
inductive En where
 | fn (x:Str) | mt (C m:Str)
 deriving DecidableEq
inductive Cn where
 | ty (n:String) | own (j:Nat)
mutual
inductive RE where
 | var (i:Nat) | con (c:RC) | glb (j:Nat)
 | bin (op:Operator) (a b:RE) | neg (a:RE) | nt (a:RE)
 | and (es:RL) | or (es:RL) | ife (c a b:RE)
 | cmp (op:CmpOp) (a b:RE) | chn (o1 o2:CmpOp) (a b c:RE)
 | lst (cell:Bool) (es:RL) | tup (es:RL)
 | ix (a b:RE) | sl (a:RE) (lo hi:RO) | fld (a:RE) (f:Str)
 | call (j:Nat) (es:RL) | bi (b:Bn) (es:RL) | isi (a:RE) (c:Cn) | ist (a:RE) (js:List Nat)
 | lc (cell:Bool) (elt:RE) (tg:List Nat) (one:Bool) (it:RI) (c:RO) (own:List (Str × Nat))
 | dct (cell:Bool) (ps:RQ) | mth (b:Mn) (a:RE) (es:RL) | om (j:Nat) (m:Str) (a:RE) (es:RL) | mk (j:Nat) (es:RL)
 | lck (e:RE) | fz (e:RE) | vls (cell:Bool) (a:RE) | ofs (srt:Bool) (a:RE) | rev (cell:Bool) (a:RE) | sl2 (k:Nat) (a:RE) | kin (neg:Bool) (j:Nat) (a:RE) | kix (j:Nat) (a:RE) | adc (a b:RE) | slc (a:RE) (lo hi:RO) | ofi (a:RE) | fzt (k:Nat) (e:RE) | nev
inductive RO where
 | nn | ss (e:RE)
inductive RL where
 | nil | cons (e:RE) (es:RL)
inductive RQ where
 | nil | cons (k v:RE) (r:RQ)
inductive RI where
 | lst (e:RE) | tup (e:RE) | rng1 (a:RE) | rng2 (a b:RE) | str (e:RE) | keys (e:RE) | enum (e:RE) | items (e:RE) | enumt (e:RE) | zip (t1 t2:Bool) (a b:RE)
end
def RI.two:RI→Bool
 | .enum _=>true | .items _=>true | .enumt _=>true | .zip _ _ _ _=>true | _=>false
structure SN where
 N:List Str
 fns:List En
 cls:List Str
 gvs:List Str
structure Gm extends Gd where
 m0:Option (Addr × Obj)
 fn:Bool→Nat→Option TR
 gv:Nat→D
 cl:Nat→Addr
 mc:Nat→Addr
 kd:Nat→Option (List (Key × D))
def Cn.val (G:Gm):Cn→Value
 | .ty n=>.type n | .own j=>.ref (G.cl j)
def tyD (S:SS):D→Option Value
 | .non=>some (.type "NoneType") | .bl _=>some (.type "bool") | .int _=>some (.type "int") | .str _=>some (.type "str")
 | .lst _=>some (.type "list") | .tup _=>some (.type "tuple") | .dic _=>some (.type "dict")
 | .obj a=>match S a with
  | some (.lst _)=>some (.type "list") | some (.dic _)=>some (.type "dict") | some (.loc _)=>some (.type "dict") | some (.ins C _)=>some (.ref C) | none=>none
 | .exc _ _ C _=>some (.ref C)
 | .err _ C _ _=>some (.ref C)
def a0U (z:Str):List D:=z.cps.toList.map fun c=>.str ⟨#[c]⟩
def a1F (ds:List D):List D:=ds.zipIdx.map fun p=>.tup [.int (p.2:Nat),p.1]
def a9Y:List (D × D)→Option (List (Key × D))
 | []=>some []
 | (k,v) :: r=>match keyD k,a9Y r with
  | some key,some q=>some ((key,v) :: q)
  | _,_=>none
def sqv:Bool→List D→D
 | true,ds=>.tup ds
 | false,ds=>.lst ds
def a02:List D→List D→List D
 | x :: xs,y :: ys=>.tup [x,y] :: a02 xs ys
 | _,_=>[]
def a4o (lo:Int) (n:Nat):List D:=(List.range n).map fun (i:Nat)=>.int (lo + (i:Int))
abbrev c4H:zbj→Addr→Prop:=C8.InsC
abbrev b1e:zbj→Addr→Prop:=ExcC
def a2L (G:Gm) (S:SS):D→Prop
 | .obj a=>∀ C fs,S a=some (.ins C fs)→c4H G.K C
 | .exc y oe C _=>G.m0=some (y,oe)∧b1e G.K C
 | .err _ C _ _=>b1e G.K C
 | _=>True
def b1F (G:Gm) (f:Str) (x:D) (S:SS) (K:DK):Prop:=match x with
 | .obj a=>∃ C fs d,S a=some (.ins C fs)∧Cls G.K C∧NoAttr G.K C f∧fs.lookup f=some d∧K d S
 | .exc y oe C fs=>G.m0=some (y,oe)∧b1e G.K C∧NoAttr G.K C f∧∃ d,fs.lookup f=some d∧K d S
 | .err _ C fs _=>b1e G.K C∧NoAttr G.K C f∧∃ d,fs.lookup f=some d∧K d S
 | _=>False
def omD (G:Gm) (j:Nat) (m:Str) (x:D) (S:SS) (p:Addr):Prop:=x=.obj p∧∃ fs,S p=some (.ins (G.mc j) fs)∧fs.lookup m=none
def noX:XD':=fun _ _ _ _=>False
def a3Z:DS→List Nat→List D→DS
 | δ,i :: is,d :: ds=>a3Z (δ.set i (some d)) is ds
 | δ,_,_=>δ
def a1E (tg:List Nat) (one:Bool) (d:D) (δ:DS) (S:SS) (Q:DS→SS→Prop):Prop :=
 if one=true then (match tg with
  | [i]=>Q (δ.set i (some d)) S
  | _=>False)
 else ∃ ds,vw S d=.tup ds∧ds.length=tg.length∧Q (a3Z δ tg ds) S
def a7p (δ:DS):List Nat→DS
 | []=>δ
 | v :: vs=>(a7p δ vs).set v none
mutual
def den (G:Gm):RE→RdE
 | .var i=>fun δ S _ K=>match δ[i]? with
  | some (some d)=>K d S
  | _=>False
 | .con c=>fun _ S _ K=>K c.d S
 | .glb j=>fun _ S _ K=>K (G.gv j) S
 | .bin op a b=>fun δ S Y K=>den G a δ S Y fun x S1=>den G b δ S1 Y fun y S2=>opD op x y S2 K
 | .neg a=>fun δ S Y K=>den G a δ S Y fun x S1=>∃ i,x=.int i∧K (.int (-i)) S1
 | .nt a=>fun δ S Y K=>den G a δ S Y fun x S1=>a1n x S1 fun b=>K (.bl (!b)) S1
 | .and es=>a0S G es
 | .or es=>a1C G es
 | .ife c a b=>fun δ S Y K=>a0o G c δ S Y fun k S1=>if k=true then den G a δ S1 Y K else den G b δ S1 Y K
 | .cmp op a b=>fun δ S Y K=>den G a δ S Y fun x S1=>den G b δ S1 Y fun y S2=>a0D op x y S2 K
 | .chn o1 o2 a b c=>fun δ S Y K=>den G a δ S Y fun x S1=>den G b δ S1 Y fun y S2=>a0D o1 x y S2 fun z S3=>∃ k,z=.bl k ∧
   if k=true then den G c δ S3 Y fun w S4=>a0D o2 y w S4 K else K (.bl false) S3
 | .lst cell es=>fun δ S Y K=>a0q G es δ S Y fun ds S1=>ds.length≤sizeLine∧if cell=true then ∀ p,S1 p=none→K (.obj p) (S1.set p (.lst ds)) else K (.lst ds) S1
 | .tup es=>fun δ S Y K=>a0q G es δ S Y fun ds S1=>ds.length≤sizeLine∧K (.tup ds) S1
 | .ix a b=>fun δ S Y K=>den G a δ S Y fun x S1=>den G b δ S1 Y fun y S2=>ixD x y S2 K
 | .sl a lo hi=>fun δ S Y K=>den G a δ S Y fun x S1=>a2k G lo δ S1 Y fun l S2=>a2k G hi δ S2 Y fun u S3=>slD x l u S3 K
 | .fld a f=>fun δ S Y K=>den G a δ S Y fun x S1=>b1F G f x S1 K
 | .call j es=>fun δ S Y K=>∃ T,G.fn G.m0.isSome j=some T∧a0q G es δ S Y fun ds S1=>T G.m0 ds S1 K fun C fs S'=>Y C fs δ S'
 | .bi b es=>fun δ S Y K=>b.needs G.m0∧a0q G es δ S Y fun ds S1=>b.den ds S1 K
 | .isi a c=>fun δ S Y K=>den G a δ S Y fun x S1=>∃ t b,tyD S1 x=some t∧a2L G S1 x∧PySem.W.kitOne G.K t (c.val G)=some b∧K (.bl b) S1
 | .ist a js=>fun δ S Y K=>den G a δ S Y fun x S1=>∃ t b,tyD S1 x=some t∧a2L G S1 x∧PySem.W.kitAny G.K t (js.map fun j=>Value.ref (G.cl j))=some b∧K (.bl b) S1
 | .lc cell elt tg one it c own=>fun δ S Y K=>G.m0=none∧a0R G it δ S Y fun ds ok S1=>∀ p,S1 p=none→∃ Iv:Nat→SS→Prop,Iv 0 (S1.set p (.lst []))∧(∀ i S',Iv i S'→i≤ds.length→ok S') ∧
   (∀ i d S',ds[i]?=some d→Iv i S'→a1E tg one d (a7p δ (own.map (·.2))) S' fun δ2 S2=>a6C G c δ2 S2 noX fun b S3 =>
    if b=true then den G elt δ2 S3 noX fun y S4=>∃ acc,S4 p=some (.lst acc)∧acc.length < sizeLine∧Iv (i + 1) (S4.set p (.lst (acc ++ [y]))) else Iv (i + 1) S3) ∧
   (∀ S',Iv ds.length S'→∃ acc,S' p=some (.lst acc)∧if cell=true then K (.obj p) S' else K (.lst acc) (S'.del p))
 | .dct cell ps=>fun δ S Y K=>∀ p,S p=none→a6D G ps δ (S.set p (.dic [])) Y fun ks S2=>S2 p=some (.dic [])∧∃ kvs,a9Y ks=some kvs∧kvs.length≤15∧if cell=true then K (.obj p) (S2.set p (.dic (a0O [] kvs))) else K (.dic (a0O [] kvs)) (S2.del p)
 | .mth b a es=>fun δ S Y K=>den G a δ S Y fun x S1=>b.rc x S1∧a0q G es δ S1 Y fun ds S2=>b.den x ds S2 K
 | .om j m a es=>fun δ S Y K=>∃ T,G.fn G.m0.isSome j=some T∧den G a δ S Y fun x S1=>∃ p,omD G j m x S1 p∧a0q G es δ S1 Y fun ds S2=>T G.m0 (.obj p :: ds) S2 K fun C fs S'=>Y C fs δ S'
 | .mk j es=>fun δ S Y K=>G.m0=none∧∃ T,G.fn false j=some T∧a0q G es δ S Y fun ds S1=>∀ p,S1 p=none→T none (.obj p :: ds) (S1.set p (.ins (G.mc j) [])) (fun d S'=>d=.non∧K (.obj p) S') fun C fs S'=>Y C fs δ S'
 | .lck e=>fun δ S Y K=>∃ a kvs,S a=some (.dic kvs)∧den G e δ (S.set a (.loc kvs)) Y fun d S'=>K d (S'.set a (.dic kvs))
 | .fz e=>fun δ S Y K=>den G e δ S Y fun d S1=>∃ a,d=.obj a∧((∃ ds,S1 a=some (.lst ds)∧K (.lst ds) (S1.del a))∨∃ kvs,S1 a=some (.dic kvs)∧K (.dic kvs) (S1.del a))
 | .fzt k e=>fun δ S Y K=>den G e δ S Y fun d S1=>∃ ds a l,d=.tup ds∧ds[k]?=some (.obj a)∧S1 a=some (.lst l)∧K (.tup (ds.set k (.lst l))) (S1.del a)
 | .ofs srt a=>fun δ S Y K=>G.m0=none∧den G a δ S Y fun x S1=>∃ zs:List Str,vw S1 x=.lst (zs.map D.str)∧(zs.length < 64∨((uniq zs).length < 64∧zs.length < 1000))∧if srt=true then ∃ cell,outL cell ((a1e (uniq zs)).map D.str) S1 K else K (.int ((uniq zs).length:Nat)) S1
 | .ofi a=>fun δ S Y K=>G.m0=none∧den G a δ S Y fun x S1=>∃ zs:List Int,vw S1 x=.lst (zs.map D.int)∧zs.length < 64∧∀ ns:List Int,ns.Pairwise (· < ·)→(∀ k,k∈ns↔k∈zs)→K (.lst (ns.map D.int)) S1
 | .vls cell a=>fun δ S Y K=>G.m0=none∧den G a δ S Y fun x S1=>∃ p kvs,x=.obj p∧S1 p=some (.dic kvs)∧outL cell (kvs.map (·.2)) S1 K
 | .rev cell a=>fun δ S Y K=>den G a δ S Y fun x S1=>∃ ds,vw S1 x=.lst ds∧outL cell ds.reverse S1 K
 | .sl2 k a=>fun δ S Y K=>den G a δ S Y fun x S1=>∃ ds,vw S1 x=.lst ds∧K (.lst (ev2 k ds)) S1
 | .kin neg j a=>fun δ S Y K=>∃ kvs,G.kd j=some kvs∧den G a δ S Y fun x S1=>∃ z,x=.str z∧K (.bl (neg ^^ (valD kvs (.inr z)).isSome)) S1
 | .kix j a=>fun δ S Y K=>∃ kvs,G.kd j=some kvs∧den G a δ S Y fun x S1=>∃ z d,x=.str z∧valD kvs (.inr z)=some d∧K d S1
 | .slc a lo hi=>fun δ S Y K=>den G a δ S Y fun x S1=>a2k G lo δ S1 Y fun l S2=>a2k G hi δ S2 Y fun u S3=>b5I x l u S3 K
 | .adc a b=>fun δ S Y K=>den G a δ S Y fun x S1=>den G b δ S1 Y fun y S2=>b1o x y S2 K
 | .nev=>fun _ _ _ _=>False
def a6D (G:Gm):RQ→DS→SS→XD'→(List (D × D)→SS→Prop)→Prop
 | .nil=>fun _ S _ K=>K [] S
 | .cons k v r=>fun δ S Y K=>den G k δ S Y fun x S1=>den G v δ S1 Y fun y S2=>a6D G r δ S2 Y fun ps S3=>K ((x,y) :: ps) S3
def a0q (G:Gm):RL→RdL
 | .nil=>fun _ S _ K=>K [] S
 | .cons e es=>fun δ S Y K=>den G e δ S Y fun d S1=>a0q G es δ S1 Y fun ds S2=>K (d :: ds) S2
def a0S (G:Gm):RL→RdE
 | .nil=>fun _ _ _ _=>False
 | .cons e .nil=>den G e
 | .cons e (.cons f r)=>fun δ S Y K=>den G e δ S Y fun x S1=>a1n x S1 fun k=>if k=true then a0S G (.cons f r) δ S1 Y K else K x S1
def a1C (G:Gm):RL→RdE
 | .nil=>fun _ _ _ _=>False
 | .cons e .nil=>den G e
 | .cons e (.cons f r)=>fun δ S Y K=>den G e δ S Y fun x S1=>a1n x S1 fun k=>if k=true then K x S1 else a1C G (.cons f r) δ S1 Y K
def a0o (G:Gm):RE→RdT
 | .nt a=>fun δ S Y K=>a0o G a δ S Y fun b S1=>K (!b) S1
 | .and es=>a0G G es
 | .or es=>a04 G es
 | .ife _ _ _=>fun _ _ _ _=>False
 | .cmp op a b=>fun δ S Y K=>den G a δ S Y fun x S1=>den G b δ S1 Y fun y S2=>a0D op x y S2 fun d S'=>∃ k,d=.bl k∧K k S'
 | .chn o1 o2 a b c=>fun δ S Y K=>den G a δ S Y fun x S1=>den G b δ S1 Y fun y S2=>a0D o1 x y S2 fun z S3=>∃ k,z=.bl k ∧
   if k=true then den G c δ S3 Y fun w S4=>a0D o2 y w S4 fun d S'=>∃ k,d=.bl k∧K k S' else ∃ k,D.bl false=.bl k∧K k S3
 | .var i=>fun δ S _ K=>match δ[i]? with
  | some (some d)=>a1n d S fun b=>K b S
  | _=>False
 | .con c=>fun _ S _ K=>a1n c.d S fun b=>K b S
 | .glb j=>fun _ S _ K=>a1n (G.gv j) S fun b=>K b S
 | .ix a b=>fun δ S Y K=>den G a δ S Y fun x S1=>den G b δ S1 Y fun y S2=>ixD x y S2 fun d S3=>a1n d S3 fun b=>K b S3
 | .fld a f=>fun δ S Y K=>den G a δ S Y fun x S1=>b1F G f x S1 fun d S3=>a1n d S3 fun b=>K b S3
 | .call j es=>fun δ S Y K=>∃ T,G.fn G.m0.isSome j=some T∧a0q G es δ S Y fun ds S1=>T G.m0 ds S1 (fun d S3=>a1n d S3 fun b=>K b S3) fun C fs S'=>Y C fs δ S'
 | .isi a c=>fun δ S Y K=>den G a δ S Y fun x S1=>∃ t b,tyD S1 x=some t∧a2L G S1 x∧PySem.W.kitOne G.K t (c.val G)=some b∧K b S1
 | .ist a js=>fun δ S Y K=>den G a δ S Y fun x S1=>∃ t b,tyD S1 x=some t∧a2L G S1 x∧PySem.W.kitAny G.K t (js.map fun j=>Value.ref (G.cl j))=some b∧K b S1
 | .kin neg j a=>fun δ S Y K=>∃ kvs,G.kd j=some kvs∧den G a δ S Y fun x S1=>∃ z,x=.str z∧∃ k,D.bl (neg ^^ (valD kvs (.inr z)).isSome)=.bl k∧K k S1
 | .om j m a es=>fun δ S Y K=>∃ T,G.fn G.m0.isSome j=some T∧den G a δ S Y fun x S1=>∃ p,omD G j m x S1 p∧a0q G es δ S1 Y fun ds S2=>T G.m0 (.obj p :: ds) S2 (fun d S3=>a1n d S3 fun b=>K b S3) fun C fs S'=>Y C fs δ S'
 | .mth b a es=>fun δ S Y K=>den G a δ S Y fun x S1=>b.rc x S1∧a0q G es δ S1 Y fun ds S2=>b.den x ds S2 fun d S3=>a1n d S3 fun b=>K b S3
 | .bi b es=>fun δ S Y K=>b.needs G.m0∧a0q G es δ S Y fun ds S1=>b.den ds S1 fun d S3=>a1n d S3 fun b=>K b S3
 | _=>fun _ _ _ _=>False
def a0G (G:Gm):RL→RdT
 | .nil=>fun _ _ _ _=>False
 | .cons e .nil=>a0o G e
 | .cons e (.cons f r)=>fun δ S Y K=>a0o G e δ S Y fun k S1=>if k=true then a0G G (.cons f r) δ S1 Y K else K false S1
def a04 (G:Gm):RL→RdT
 | .nil=>fun _ _ _ _=>False
 | .cons e .nil=>a0o G e
 | .cons e (.cons f r)=>fun δ S Y K=>a0o G e δ S Y fun k S1=>if k=true then K true S1 else a04 G (.cons f r) δ S1 Y K
def a6C (G:Gm):RO→RdT
 | .nn=>fun _ S _ K=>K true S
 | .ss e=>a0o G e
def a2k (G:Gm):RO→DS→SS→XD'→(Option Int→SS→Prop)→Prop
 | .nn=>fun _ S _ K=>K none S
 | .ss e=>fun δ S Y K=>den G e δ S Y fun d S1=>∃ i,d=.int i∧K (some i) S1
def a0R (G:Gm):RI→RdI
 | .lst e=>fun δ S Y K=>den G e δ S Y fun d S1=>∃ ds,vw S1 d=.lst ds∧K ds (fun S'=>vw S' d=.lst ds) S1
 | .tup e=>fun δ S Y K=>den G e δ S Y fun d S1=>∃ ds,vw S1 d=.tup ds∧K ds (fun S'=>True) S1
 | .rng1 a=>fun δ S Y K=>den G a δ S Y fun d S1=>∃ j,d=.int j∧-(2 ^ 62)≤j∧j < 2 ^ 62∧K (a4o 0 j.toNat) (fun _=>True) S1
 | .rng2 a b=>fun δ S Y K=>den G a δ S Y fun d S1=>den G b δ S1 Y fun d2 S2=>∃ i j,d=.int i∧d2=.int j∧(-(2 ^ 62)≤i∧i < 2 ^ 62∧-(2 ^ 62)≤j∧j < 2 ^ 62)∧K (a4o i (j - i).toNat) (fun _=>True) S2
 | .str e=>fun δ S Y K=>den G e δ S Y fun d S1=>∃ z,d=.str z∧K (a0U z) (fun _=>True) S1
 | .keys e=>fun δ S Y K=>den G e δ S Y fun d S1=>∃ a kvs,d=.obj a∧S1 a=some (.loc kvs)∧K (kvs.map fun kv=>keyV kv.1) (fun _=>True) S1
 | .enumt e=>fun δ S Y K=>den G e δ S Y fun d S1=>∃ ds,d=.tup ds∧K (a1F ds) (fun _=>True) S1
 | .zip t1 t2 a b=>fun δ S Y K=>den G a δ S Y fun d S1=>den G b δ S1 Y fun d2 S2=>∃ xs ys,d=sqv t1 xs∧d2=sqv t2 ys∧K (a02 xs ys) (fun _=>True) S2
 | .enum e=>fun δ S Y K=>den G e δ S Y fun d S1=>∃ ds,vw S1 d=.lst ds∧K (a1F ds) (fun S'=>vw S' d=.lst ds) S1
 | .items e=>fun δ S Y K=>den G e δ S Y fun d S1=>∃ a kvs,d=.obj a∧S1 a=some (.loc kvs)∧K (kvs.map fun kv=>.tup [keyV kv.1,kv.2]) (fun _=>True) S1
end
def nmB (l:List Str) (i:Nat) (x:Str):Bool:=decide (l[i]?=some x) && decide ((x == ("__debug__" : Str))=false∧(x == ("__classdict__" : Str))=false)
def enB (l:List En) (i:Nat) (e:En):Bool:=decide (l[i]?=some e)
def fnB (l:List En) (i:Nat) (x:Str):Bool:=enB l i (.fn x) && decide ((x == ("__debug__" : Str))=false)
theorem a9J {l:List En} {i:Nat} {x:Str} (h:fnB l i x=true):l[i]?=some (.fn x)∧(x == ("__debug__" : Str))=false:=by
 unfold fnB enB at h
 rw [zak,zah,zah] at h
 exact h
def a4y:List Str:=["len", "abs", "max", "min", "range", "isinstance", "repr", "list", "tuple", "dict", "sorted", "sum", "enumerate", "zip", "reversed", "str", "int", "bool", "set", "ValueError", "any", "all"]
def b2Q (sc:Scope) (x:Str):Bool:=match sc.names.lookup x with
 | some .local=>true | some .cell=>true | some .free=>true | _=>false
def a8U (sc:Scope) (x:Str):Bool:=match sc.names.lookup x with
 | some .local=>true | some .cell=>true | _=>false
def glB (sc:Scope) (x:Str):Bool:=match sc.names.lookup x with
 | some .globalImplicit=>true | _=>false
theorem a0A {l:List Str} {i:Nat} {x:Str} (h:nmB l i x=true):l[i]?=some x∧(x == ("__debug__" : Str))=false∧(x == ("__classdict__" : Str))=false:=by
 unfold nmB at h
 rw [zak,zah,zah] at h
 exact h
theorem a7n {sc:Scope} {x:Str} (h:b2Q sc x=true):Vis sc x:=by
 unfold b2Q at h
 split at h <;> first | exact .inl (by assumption) | exact .inr (.inl (by assumption)) | exact .inr (.inr (by assumption)) | cases h
theorem b0c {sc:Scope} {x:Str} (h:a8U sc x=true):Loc sc x:=by
 unfold a8U at h
 split at h <;> first | exact .inl (by assumption) | exact .inr (by assumption) | cases h
theorem a9N {sc:Scope} {x:Str} (h:glB sc x=true):sc.names.lookup x=some .globalImplicit:=by
 unfold glB at h
 split at h <;> first | assumption | cases h
def a0s:Expr→Bool
 | .Starred _ _=>false | _=>true
def a8V:Expr→Bool
 | .Call (.Name x _) [] [] _=>decide (x≠("super" : Str)) | _=>true
def a2t:Expr→Bool
 | .Slice _ _ _ _=>false | _=>true
def a1Z:Expr→Bool
 | .Set _ _ _=>false | _=>true
def plainT:Expr→Bool
 | .UnaryOp .Not _ _=>false | .BoolOp _ _ _=>false | .IfExp _ _ _ _=>false | .Compare _ _ _ _=>false | _=>true
def b31 (l:List Str) (sc:Scope):List Nat→List Expr→Bool
 | [],[]=>true
 | j :: js,x :: es=>(match x with
  | .Name z _=>glB sc z && nmB l j z
  | _=>false) && a0s x && b31 l sc js es
 | _,_=>false
theorem a0f {e:Expr} {es:List Expr} {env:Env} (h:a0s e=true):starEach (e :: es) env=(false,eval e env) :: starEach es env:=by
 cases e <;> first | rfl | cases h
theorem a6e {e:Expr} (h:a2t e=true) (o i:Value):subscripted e false o i=operate [o,i] (getItem o i):=by
 cases e <;> first | rfl | cases h
theorem a1T {e:Expr} (h:a1Z e=true) (op:CmpOp):behindInMarks op e=false:=by
 cases e <;> first | rfl | cases h
theorem plainT_ok {e:Expr} {env:Env} (h:plainT e=true) (whole:Sem Value):isTrue e env whole=(do let v ← whole;standAt e.pos;holding [v] (truthy v)):=by
 cases e <;> first | rfl | (cases h;done) | (rename_i op _ _;cases op <;> first | rfl | cases h)
theorem a3o {e:Expr} {env:Env} (h:a1Z e=true) (x:Value):foldedSetIterable e env x=pure x:=by
 cases e <;> first | rfl | cases h
theorem a2V {e:Expr} {f:Str} {env:Env} {whole:Sem Value} (h:a8V e=true):attributeBase e f env whole=whole:=by
 unfold attributeBase
 split
 ·rename_i id _ _
  have q:(id != ("super" : Str))=true:=by
   have h':decide (id≠("super" : Str))=true:=h
   simpa using h'
  rw [q]
  simp
 ·rfl
theorem a0Y:∀ {es:List Expr} {env:Env} {pos:Pos},es.all a0s=true→(backTo pos (starEach es env)).any (·.1)=false
 | [],_,_,_=>rfl
 | e :: es,env,pos,h=>by
  rw [List.all_cons,zak] at h
  rw [a0f h.1]
  have q:=a0Y (env:=env) (pos:=pos) h.2
  simpa [backTo] using q
def a9n (n:SN) (sc:Scope):List Nat→List Expr→Bool
 | [],xs=>xs.isEmpty
 | i :: is,xs=>match xs with
  | .Name y _ :: xs=>nmB n.N i y && a8U sc y && a9n n sc is xs
  | _=>false
def a0Z (n:SN) (sc:Scope) (tg:List Nat) (one:Bool) (x:Expr):Bool :=
 if one=true then (match tg,x with
  | [i],.Name y _=>nmB n.N i y && a8U sc y
  | _,_=>false)
 else (match x with
  | .Tuple xs _ _=>a9n n sc tg xs
  | _=>false)
def mtB (l:List En) (j:Nat) (m:Str):Bool:=match l[j]? with
 | some (.mt _ m')=>decide (m'=m)
 | _=>false
theorem b7F {l:List En} {j:Nat} {m:Str} (h:mtB l j m=true):∃ C,l[j]?=some (.mt C m):=by
 unfold mtB at h
 split at h
 ·rename_i C m' e
  cases of_decide_eq_true h
  exact ⟨C,e⟩
 ·cases h
mutual
def chk (n:SN) (sc:Scope):RE→Expr→Bool
 | .var i,x=>match x with
  | .Name y _=>nmB n.N i y && b2Q sc y
  | _=>false
 | .con c,x=>match c,x with
  | .non,.Constant .none _ _=>true
  | .bl b,.Constant (.bool b') _ _=>b == b'
  | .int i,.Constant (.int i') _ _=>decide (i=i')
  | .str s,.Constant (.str s') _ _=>decide (s=s')
  | _,_=>false
 | .glb j,x=>match x with
  | .Name y _=>nmB n.gvs j y && glB sc y
  | _=>false
 | .bin op a b,x=>match x with
  | .BinOp l o r _=>decide (o=op) && (chk n sc a l && chk n sc b r)
  | _=>false
 | .neg a,x=>match x with
  | .UnaryOp .USub l _=>chk n sc a l
  | _=>false
 | .nt a,x=>match x with
  | .UnaryOp .Not l _=>chk n sc a l
  | _=>false
 | .and es,x=>match x with
  | .BoolOp .And xs _=>a6B n sc es xs
  | _=>false
 | .or es,x=>match x with
  | .BoolOp .Or xs _=>a6B n sc es xs
  | _=>false
 | .ife c a b,x=>match x with
  | .IfExp t l r _=>chk n sc c t && (chk n sc a l && chk n sc b r)
  | _=>false
 | .cmp op a b,x=>match x with
  | .Compare l [o] [r] _=>decide (o=op) && a1Z r && (chk n sc a l && chk n sc b r)
  | _=>false
 | .chn o1 o2 a b c,x=>match x with
  | .Compare l [o,o'] [r,t] _=>decide (o=o1) && decide (o'=o2) && a1Z t && (chk n sc a l && (chk n sc b r && chk n sc c t))
  | _=>false
 | .lst _ es,x=>match x with
  | .List xs _=>a6B n sc es xs
  | _=>false
 | .tup es,x=>match x with
  | .Tuple xs _ _=>a6B n sc es xs
  | _=>false
 | .ix a b,x=>match x with
  | .Subscript l r _=>a2t r && (chk n sc a l && chk n sc b r)
  | _=>false
 | .slc a lo hi,x=>match x with
  | .Subscript l (.Slice p q none _) _=>chk n sc a l && (b3Z n sc lo p && b3Z n sc hi q)
  | _=>false
 | .sl a lo hi,x=>match x with
  | .Subscript l (.Slice p q none _) _=>chk n sc a l && (b3Z n sc lo p && b3Z n sc hi q)
  | _=>false
 | .fld a f,x=>match x with
  | .Attribute l f' _=>decide (f'=f) && a8V l && chk n sc a l
  | _=>false
 | .call j es,x=>match x with
  | .Call (.Name y _) xs [] _=>fnB n.fns j y && glB sc y && a6B n sc es xs
  | _=>false
 | .mth b a es,x=>match x with
  | .Call (.Attribute l m ap) xs [] p=>decide (m=b.nm) && a8V l && (ap.endLine == p.line) && decide (xs.length < 30) && chk n sc a l && a6B n sc es xs
  | _=>false
 | .om j m a es,x=>match x with
  | .Call (.Attribute l m' ap) xs [] p=>decide (m'=m) && a8V l && (ap.endLine == p.line) && decide (xs.length < 30) && mtB n.fns j m && chk n sc a l && a6B n sc es xs
  | _=>false
 | .mk j es,x=>match x with
  | .Call (.Name y _) xs [] _=>enB n.fns j (.mt y "__init__") && decide ((y == ("__debug__" : Str))=false) && glB sc y && a6B n sc es xs
  | _=>false
 | .lck e,x=>chk n sc e x
 | .fz e,x=>chk n sc e x
 | .fzt _ e,x=>chk n sc e x
 | .ofs srt a,x=>match x with
  | .Call (.Name y _) [.Call (.Name z _) [l] [] _] [] _=>decide (y=b7N srt) && glB sc y && decide (z=("set" : Str)) && glB sc z && a0s l && chk n sc a l
  | _=>false
 | .ofi a,x=>match x with
  | .Call (.Name y _) [.Call (.Name z _) [l] [] _] [] _=>decide (y=("sorted" : Str)) && glB sc y && decide (z=("set" : Str)) && glB sc z && a0s l && chk n sc a l
  | _=>false
 | .vls _ a,x=>match x with
  | .Call (.Name y _) [.Call (.Attribute l m ap) [] [] p] [] _=>decide (y=("list" : Str)) && glB sc y && decide (m=("values" : Str)) && a8V l && (ap.endLine == p.line) && chk n sc a l
  | _=>false
 | .rev _ a,x=>match x with
  | .Subscript l (.Slice none none (some (.UnaryOp .USub (.Constant (.int 1) _ _) _)) _) _=>chk n sc a l
  | _=>false
 | .sl2 k a,x=>match x with
  | .Subscript l (.Slice lo none (some (.Constant (.int 2) _ _)) _) _=>loE k lo && chk n sc a l
  | _=>false
 | .kin neg j a,x=>match x with
  | .Compare l [o] [.Name y _] _=>decide (o=(if neg=true then CmpOp.NotIn else CmpOp.In)) && nmB n.gvs j y && glB sc y && chk n sc a l
  | _=>false
 | .adc a b,x=>match x with
  | .BinOp l o r _=>decide (o=Operator.Add) && (chk n sc a l && chk n sc b r)
  | _=>false
 | .kix j a,x=>match x with
  | .Subscript (.Name y _) r _=>nmB n.gvs j y && glB sc y && a2t r && chk n sc a r
  | _=>false
 | .dct _ ps,x=>match x with
  | .Dict ks vs _=>decide (ks.length≤15) && b6p n sc ps ks vs
  | _=>false
 | .nev,_=>true
 | .bi b es,x=>match x with
  | .Call (.Name y _) xs [] _=>decide (y=b.nm) && glB sc y && !xs.isEmpty && a6B n sc es xs
  | _=>false
 | .isi a c,x=>match x with
  | .Call (.Name y _) [l,.Name z _] [] _=>decide (y=("isinstance" : Str)) && glB sc y && glB sc z && a0s l && chk n sc a l && (match c with
   | .ty t=>decide (bootBuiltins z=some (.type t)) && decide (z≠("__name__" : Str)) && decide ((z == ("__debug__" : Str))=false) && decide (z∈a4y)
   | .own j=>nmB n.cls j z)
  | _=>false
 | .ist a js,x=>match x with
  | .Call (.Name y _) [l,.Tuple es _ _] [] _=>decide (y=("isinstance" : Str)) && glB sc y && a0s l && chk n sc a l && b31 n.cls sc js es && decide (js.length≤100)
  | _=>false
 | .lc _ elt tg one it c own,x=>match x with
  | .ListComp xe [⟨xt,xi,ifs,0⟩] scope _=>blkC n.N sc scope own && a1Z xi && a6O n sc it xi && (tg.all fun i=>decide (i∈own.map (·.2))) && a0Z n scope tg one xt && b6o n scope c ifs && chk n scope elt xe && (!it.two || !one)
  | _=>false
def b6p (n:SN) (sc:Scope):RQ→List (Option Expr)→List Expr→Bool
 | .nil,ks,vs=>ks.isEmpty && vs.isEmpty
 | .cons k v r,ks,vs=>match ks,vs with
  | some x :: ks,y :: vs=>chk n sc k x && chk n sc v y && b6p n sc r ks vs
  | _,_=>false
def a6B (n:SN) (sc:Scope):RL→List Expr→Bool
 | .nil,xs=>xs.isEmpty
 | .cons e es,xs=>match xs with
  | x :: xs=>a0s x && (chk n sc e x && a6B n sc es xs)
  | []=>false
def b3Z (n:SN) (sc:Scope):RO→Option Expr→Bool
 | .nn,x=>x.isNone
 | .ss e,x=>match x with
  | some x=>chk n sc e x
  | none=>false
def b6o (n:SN) (sc:Scope):RO→List Expr→Bool
 | .nn,x=>x.isEmpty
 | .ss e,x=>match x with
  | [x]=>chk n sc e x
  | _=>false
def a6O (n:SN) (sc:Scope):RI→Expr→Bool
 | .lst e,x=>chk n sc e x
 | .tup e,x=>chk n sc e x
 | .rng1 a,x=>match x with
  | .Call (.Name y _) [l] [] _=>decide (y=("range" : Str)) && glB sc y && a0s l && chk n sc a l
  | _=>false
 | .rng2 a b,x=>match x with
  | .Call (.Name y _) [l,r] [] _=>decide (y=("range" : Str)) && glB sc y && a0s l && a0s r && (chk n sc a l && chk n sc b r)
  | _=>false
 | .str e,x=>chk n sc e x
 | .keys e,x=>chk n sc e x
 | .zip _ _ a b,x=>match x with
  | .Call (.Name y _) [l,r] [] _=>decide (y=("zip" : Str)) && glB sc y && a0s l && a0s r && (chk n sc a l && chk n sc b r)
  | _=>false
 | .enumt e,x=>match x with
  | .Call (.Name y _) [l] [] _=>decide (y=("enumerate" : Str)) && glB sc y && a0s l && chk n sc e l
  | _=>false
 | .enum e,x=>match x with
  | .Call (.Name y _) [l] [] _=>decide (y=("enumerate" : Str)) && glB sc y && a0s l && chk n sc e l
  | _=>false
 | .items e,x=>match x with
  | .Call (.Attribute l m ap) [] [] p=>decide (m=("items" : Str)) && a8V l && (ap.endLine == p.line) && chk n sc e l
  | _=>false
end
end Sv
namespace PySem.W
open PySem PySem.Spec PySem.Calls PyProof.Rows
section
variable {prog:Program} {w:World} {A:Around} {E:Value→Shared→Prop} {s:Shared} {K:Frag} {x D:Addr} {ox:Obj} {od:Option Obj}
theorem a9G (hd:hasDictIn K D=true) (ha:findIn K (.ref D) "__class__" = some (some (.builtin "object.__class__"))) (gt:specialIn K (.builtin "object.__class__") "__get__" = some (some (.builtin "getset_descriptor.__get__"))) (tk:takesIn K (.builtin "object.__class__")=some true) :
  findObj K D od "__class__" = some (.bind (.builtin "getset_descriptor.__get__") (.builtin "object.__class__")):=by
 have known:(clsIn K D).isSome=true:=by
  have ⟨_,e,_⟩:=any_some hd
  simp [e]
 match od with
 | none=>exact findObj_dataN known ha gt tk
 | some _=>exact findObj_data known ha gt tk
theorem a9F (own:findIn K (.ref D) "__getattribute__" = some (some (.builtin "BaseException.__getattribute__"))) (noHook:findIn K (.ref D) "__getattr__" = some none) (err:subIn K (.ref D) (.type "BaseException")=some true) (obj:mroIn K D (.type "object")=some true)
  (fnd:findObj K D od "__class__" = some (.bind (.builtin "getset_descriptor.__get__") (.builtin "object.__class__"))) (inK:K.In s.heap) (I:InstAt s.heap x ox D od) {Q:Option Value→Shared→Prop} (want:Q (some (.ref D)) { s with toks:=s.toks + 1 }):wpAny (model prog w) A (getAttr? (.ref x) "__class__") Q E s:=by
 rcases s with ⟨hp,gs,dr,tk,os⟩
 have ty {M:Model}:=I.type (M:=M)
 have own' {M:Model}:=looks_findIn (M:=M) inK own
 have hook' {M:Model}:=looks_findIn (M:=M) inK noHook
 have fnd' {M:Model}:=looks_find (M:=M) inK I fnd
 have isErr {M:Model}:Looks M hp (isInstance (.ref x) (.type "BaseException")) true:=ty.andThen (looks_subIn inK err)
 simp only [getAttr?,getAttrBy?,getAttrBy,getAttrByItsOwn,hookBefore,callGetattribute,boundAndCalled]
 repeat (first | with_reducible refine ty.at ?_ | with_reducible refine own'.at ?_ | with_reducible refine hook'.at ?_ | wp_step)
 refine wpAny_of_eq (PySem.F.excAttr_ValueError.ga.bind (.ref x)) ?_
 apply wpAny_call
 refine codeAny_call_builtin PySem.F.excAttr_ValueError.ga.plain PySem.F.entry_bexc_ga ?_
 have kind:builtinKind "BaseException.__getattribute__" = some .slot:=by decide +kernel
 have split:splitId "BaseException.__getattribute__" = some ("BaseException", "__getattribute__"):=by decide +kernel
 refine check_slot (i := "BaseException.__getattribute__") (self:=.ref x) (rest:=[.str "__class__" tk]) (kw:=[]) kind split isErr (PySem.F.args_bexc_ga _ _) ?_
 unfold Builtin.«object.__getattribute__»
 refine wpAny_bind (wpAny_of_eq (a:=((Value.ref x:Value),[Value.str "__class__" tk])) (by first | rfl | (simp only [slotArgs];rfl)) ?_)
 dsimp only
 repeat (first | with_reducible refine ty.at ?_ | with_reducible refine fnd'.at ?_ | wp_step)
 refine class_get (s:=⟨hp,gs,dr,tk + 1,os⟩) inK I obj (wpAny_pure ?_)
 dsimp only
 rw [handedOut_of (v:=.ref D) rfl]
 exact wpAny_pure (wpAny_pure want)
theorem err_kit (f:L2.ExcC K D):KitX K (.ref x) (.ref D) fun h=>InstAt h x ox D od where
 ty _ _ _ I:=I.type
 ca inK I want:=a9F f.hg f.hk f.hs f.hm (a9G f.hd f.ha f.hn f.ht) inK I want
 it:=by
  intro M h inK _
  have ⟨_,known,_⟩:=any_some f.hd
  revert known
  unfold clsIn
  split
  ·rename_i at_D
   intro _ A Q E t k q
   unfold isType loadHead
   exact wpAny_bind (wpAny_loadPart (k _ _ (inK _ _ at_D)) (wpAny_pure q))
  ·exact nofun
 ne:=by
  intro h tp dd its n sl inK at_tp
  have ⟨_,known,_⟩:=any_some f.hd
  cases same:(Value.ref D == Value.ref tp) with
  | false=>rfl
  | true =>
   cases beq_iff_eq.mp same
   revert known
   unfold clsIn
   split
   ·rename_i at_D
    cases (inK _ _ at_D).symm.trans at_tp
   ·exact nofun
end
end PySem.W
namespace Sv
open PySem PySem.Spec PyProof.Rows L2
open L2H (RoomH)
structure ExcAt (X:Cx) (H:Hp) (a C:Addr) (oe:Obj) (d:Option Addr):Prop where
 pin:(a,oe)∈X.pn
 z:Zc (.ref C) d oe
 f:∃ vs,oe.data=.fields vs
 d:d=none∨∃ dd ws,d=some dd∧H dd=some (.xd ws)
section
variable {X:Cx} {pins:List (Addr × Obj)} {σ:L2.St} {H:Hp} {s:Shared}
theorem a3m (I:Inv X pins σ H s) {d:Addr} {ws:List (Str × V)} (at_d:H d=some (.xd ws)):∃ od,s.heap.get? d=some od∧∀ (f:Str) (w:V),ws.lookup f=some w→∃ u,PySem.W.lookIn f od=some (some u)∧RelV w u:=by
 have laid:ObjOk X.prog X.w H s.heap d (.xd ws):=I.hok d _ at_d
 have ⟨keeps,named,alike⟩:=laid
 have ⟨od,there,tells⟩:=lookIn_ns named
 refine ⟨od,there,fun f w is=>?_⟩
 have like:=alike f
 rw [is] at like
 have told:=tells f
 cases found:keeps f with
 | none=>rw [found] at like;exact like.elim
 | some u=>rw [found] at like told;exact ⟨u,told,like⟩
theorem a1Q {a C:Addr} {oe:Obj} {d:Option Addr} {od:Option Obj} (dict:match d,od with | some p,some o=>s.heap.get? p=some o | none,none=>True | _,_=>False)
  (zc:Zc (.ref C) d oe) (fields:∃ vs,oe.data=.fields vs) (here:s.heap.get? a=some oe):PySem.W.InstAt s.heap a oe C od where
 at_:=here
 cls:=zc.1
 no:=by
  have ⟨_,e⟩:=fields
  simp only [PySem.W.notCls,e]
 dict:=by rw [zc.2];exact dict
theorem ExcAt.inst {a C:Addr} {oe:Obj} {d:Option Addr} (x:ExcAt X H a C oe d) (I:Inv X pins σ H s):∃ od,PySem.W.InstAt s.heap a oe C od:=by
 have here:=(I.pin (a,oe) (zar _ x.pin)).1
 rcases x.d with rfl | ⟨p,ws,rfl,at_p⟩
 ·exact ⟨none,a1Q trivial x.z x.f here⟩
 ·have ⟨od,there,_⟩:=a3m I at_p
  exact ⟨some od,a1Q there x.z x.f here⟩
end
theorem a5P {X:Cx} {pins:List (Addr × Obj)} {σ:L2.St} {H:Hp} {s:Shared} {a C:Addr} {d:Option Addr} {bare:Bool} (I:Inv X pins σ H s) (x:b3H H a C d bare) (dict:d=none∨∃ dd ws,d=some dd∧H dd=some (.xd ws)) :
  ∃ oe od,PySem.W.InstAt s.heap a oe C od:=by
 obtain ⟨φ,at_a,says⟩:=x
 have laid:ObjOk X.prog X.w H s.heap a (.ext φ):=I.hok a _ at_a
 obtain ⟨oe,here,zc,vs,fields,_⟩:=says _ laid.1
 rcases dict with rfl | ⟨p,ws,rfl,at_p⟩
 ·exact ⟨oe,none,a1Q trivial zc ⟨vs,fields⟩ here⟩
 ·have ⟨od,there,_⟩:=a3m I at_p
  exact ⟨oe,some od,a1Q there zc ⟨vs,fields⟩ here⟩
inductive TyP (X:Cx) (H:Hp):V→Value→Prop where
 | held {a C:Addr} {d:Option Addr} {bare:Bool} (h:b3H H a C d bare) (dict:d=none∨∃ dd ws,d=some dd∧H dd=some (.xd ws)) (c:ExcC X.K C):TyP X H (.ref a) (.ref C)
 | base {v:V} {t:Value} (h:TyX X.K H v t):TyP X H v t
 | exc {a C:Addr} {oe:Obj} {d:Option Addr} (h:ExcAt X H a C oe d) (c:ExcC X.K C):TyP X H (.ref a) (.ref C)
def c6e (X:Cx):List V→Hp→VK→Prop:=fun xs H Q=>∃ (x c:V) (t u:Value) (b:Bool),xs=[x,c]∧ClsV c u∧TyP X H x t∧PySem.W.kitOne X.K t u=some b∧Q (.bl b) H
theorem b1t {X:Cx}:CallR X (.builtin "isinstance") (c6e X):=by
 rintro pins s σ H _ us Q I given ⟨_,_,_,_,b,rfl,names,kind,asks,want⟩
 cases kind with
 | base plain=>exact call_isi _ _ _ _ _ _ _ I given ⟨_,_,_,_,b,rfl,names,plain,asks,want⟩
 | held at_a dict cls =>
  obtain ⟨_,rfl,one⟩:∃ u,us=[.ref _,u]∧RelV _ u:=by
   cases given with
   | cons one rest =>
    cases rest with
    | cons two none_left =>
     cases none_left
     cases one
     exact ⟨_,rfl,two⟩
  cases names.eq one
  have ⟨_,_,J⟩:=a5P I at_a dict
  exact PySem.W.kia_one (PySem.W.err_kit cls) I.kIn J asks nofun fun t=>⟨.bl b,_,I.tok t,rfl,want⟩
 | exc at_a cls =>
  cases given with
  | cons one rest =>
   cases rest with
   | cons two none_left =>
    cases none_left
    cases one
    cases names.eq two
    have ⟨_,J⟩:=at_a.inst I
    exact PySem.W.kia_one (PySem.W.err_kit cls) I.kIn J asks nofun fun t=>⟨.bl b,_,I.tok t,rfl,want⟩
def c1Y (X:Cx):List V→Hp→VK→Prop:=fun xs H Q=>∃ (x:V) (tp:Addr) (cs:List V) (t:Value) (us:List Value) (b:Bool),xs=[x,.ref tp]∧H tp=some (.tup cs)∧Paired ClsV cs us∧TyP X H x t∧PySem.W.kitAny X.K t us=some b∧Q (.bl b) H
theorem a9l {X:Cx}:CallR X (.builtin "isinstance") (c1Y X):=by
 rintro pins s σ H _ us Q I given ⟨x,tp,cs,t,ws,b,rfl,hT,names,kind,asks,want⟩
 cases kind with
 | base plain=>exact call_isiT _ _ _ _ _ _ _ I given ⟨x,tp,cs,t,ws,b,rfl,hT,names,plain,asks,want⟩
 | held at_a dict cls =>
  obtain ⟨u1,u2,rfl,r1,r2⟩:=vals2 given
  cases (show u2=Value.ref tp from r2)
  cases r1
  obtain ⟨_,its,rv,o,h1,h2,n,h3⟩:=(show ObjOk X.prog X.w H s.heap tp (.tup cs) from I.hok tp _ hT)
  have e3:=ClsV.all names rv
  subst e3
  obtain ⟨oc,od,dt,sl⟩:=o
  simp only at h2 h3
  subst h2 h3
  have ⟨_,_,J⟩:=a5P I at_a dict
  exact PySem.W.kia_tup (PySem.W.err_kit cls) I.kIn J h1 asks nofun fun t=>⟨.bl b,_,I.tok t,rfl,want⟩
 | exc at_a cls =>
  obtain ⟨u1,u2,rfl,r1,r2⟩:=vals2 given
  cases (show u2=Value.ref tp from r2)
  cases r1
  obtain ⟨_,its,rv,o,h1,h2,n,h3⟩:=(show ObjOk X.prog X.w H s.heap tp (.tup cs) from I.hok tp _ hT)
  have e3:=ClsV.all names rv
  subst e3
  obtain ⟨oc,od,dt,sl⟩:=o
  simp only at h2 h3
  subst h2 h3
  have ⟨_,J⟩:=at_a.inst I
  exact PySem.W.kia_tup (PySem.W.err_kit cls) I.kIn J h1 asks nofun fun t=>⟨.bl b,_,I.tok t,rfl,want⟩
def b3I (X:Cx) (m0:Option (Addr × Obj)):Prop:=∀ p,m0=some p→p∈X.pn
theorem a1g.p {X:Cx} {m0:Option (Addr × Obj)} (h:a1g X m0):b3I X m0:=fun p e=>by
 subst e
 exact h.2.2
section
variable {X:Cx} {G:Gm} {S:SS} {H:Hp}
theorem b3B (hK:G.K=X.K) (hm:b3I X G.m0) (hc:CellsOk G.toGd S H) {d:D} {v:V} {t:Value} (r:Rep G.toGd S H d v) (e:tyD S d=some t) (ok:a2L G S d):TyP X H v t:=by
 cases d with
 | non=>simp only [Rep] at r;subst r;cases e;exact .base (.base .non)
 | bl _=>simp only [Rep] at r;subst r;cases e;exact .base (.base (.bl _))
 | int _=>simp only [Rep] at r;subst r;cases e;exact .base (.base (.int _))
 | str _=>simp only [Rep] at r;subst r;cases e;exact .base (.base (.str _))
 | lst ds =>
  simp only [Rep] at r
  obtain ⟨p,vs,rfl,a,b⟩:=r
  cases e
  rcases a.sq with (a | ⟨o,a⟩) | ⟨o,its,n,a,c,_⟩
  ·exact .base (.base (.lst a))
  ·exact .base (.base (.frz a))
  ·rw [hK] at a
   exact .base (.kList a c)
 | tup ds =>
  simp only [Rep] at r
  obtain ⟨p,vs,rfl,a,b⟩:=r
  cases e
  rcases a.sq with (a | ⟨o,a⟩) | ⟨o,its,n,a,c,_⟩
  ·exact .base (.base (.tup a))
  ·exact .base (.fTuple a)
  ·rw [hK] at a
   exact .base (.kTuple a c)
 | dic ds =>
  simp only [Rep] at r
  obtain ⟨p,vs,rfl,_,a,b⟩:=r
  cases e
  exact .base (.base (.dK a))
 | obj a =>
  simp only [Rep] at r
  subst r
  have e':(match S a with | some (.lst _)=>some (Value.type "list") | some (.dic _)=>some (.type "dict") | some (.loc _)=>some (.type "dict") | some (.ins C _)=>some (.ref C) | none=>none)=some t:=e
  cases q:S a with
  | none=>rw [q] at e';cases e'
  | some c =>
   rw [q] at e'
   have k:=hc a c q
   cases c with
   | lst _=>cases e';obtain ⟨_,h,_⟩:=k;exact .base (.base (.lst h))
   | dic _=>cases e';obtain ⟨_,h,_⟩:=k;exact .base (.base (.dK h))
   | loc _=>cases e';obtain ⟨_,_,h,_⟩:=k;exact .base (.fDict h)
   | ins C fs =>
    cases e'
    obtain ⟨dx,ws,h,_⟩:=k
    have F:=ok C fs q
    rw [hK] at F
    exact .base (.base (.ins h F.cl F.ha F.hn F.htk F.hm))
 | exc y oe C fs =>
  simp only [Rep] at r
  obtain ⟨d,rfl,⟨z,f⟩,x⟩:=r
  cases e
  have F:=ok.2
  rw [hK] at F
  refine .exc (oe:=oe) (d:=d) ⟨hm _ ok.1,z,f,?_⟩ F
  rcases x with ⟨x,_⟩ | ⟨dd,ws,x,_,y,_⟩
  ·exact .inl x
  ·exact .inr ⟨dd,ws,x,y⟩
 | err y C fs bare =>
  simp only [Rep] at r
  obtain ⟨d,rfl,_,held,x⟩:=r
  cases e
  have F:b1e G.K C:=ok
  rw [hK] at F
  refine .held held ?_ F
  rcases x with ⟨x,_⟩ | ⟨dd,ws,x,_,y,_⟩
  ·exact .inl x
  ·exact .inr ⟨dd,ws,x,y⟩
theorem a5q {g:Gd} {fs:List (Str × D)}:∀ {ws:List (Str × V)},a1X g S H fs ws→∀ {f:Str} {d:D},fs.lookup f=some d→∃ v,ws.lookup f=some v∧Rep g S H d v:=by
 induction fs with
 | nil=>intro ws _ f d e;cases e
 | cons p fs ih =>
  intro ws r f d e
  obtain ⟨k,x⟩:=p
  simp only [a1X] at r
  obtain ⟨v,q,rfl,a,b⟩:=r
  rw [List.lookup_cons] at e ⊢
  cases h:f == k with
  | true=>rw [h] at e;cases e;exact ⟨v,rfl,a⟩
  | false=>rw [h] at e;exact ih b e
theorem b0I {g:Gd} {fs:List (Str × D)}:∀ {ws:List (Str × V)},a1X g S H fs ws→∀ {f:Str},fs.lookup f=none→ws.lookup f=none:=by
 induction fs with
 | nil=>intro ws r f _;simp only [a1X] at r;subst r;rfl
 | cons p fs ih =>
  intro ws r f e
  obtain ⟨k,x⟩:=p
  simp only [a1X] at r
  obtain ⟨v,q,rfl,a,b⟩:=r
  rw [List.lookup_cons] at e ⊢
  cases h:f == k with
  | true=>rw [h] at e;cases e
  | false=>rw [h] at e;exact ih b e
theorem b45 {W:WX} {e:Expr} {f:Str} {pos:Pos} {t:RdE} (hK:G.K=X.K) (hm:b3I X G.m0) (he:PE X e (LE G.toGd W t)) (hb:attributeBase e f X.env (eval e X.env)=eval e X.env) :
  PE X (.Attribute e f pos) (LE G.toGd W fun δ S Y K=>t δ S Y fun x S1=>b1F G f x S1 K):=by
 refine ⟨fun pins s σ H Q I h=>?_⟩
 obtain ⟨δ,S,Y,K,R,ht,res,rw'⟩:=h
 refine attr_of hb (thn (he.run pins s σ H (fun v H1=>∃ d S1,b1F G f d S1 K∧a0d S H S1 H1∧CellsOk G.toGd S1 H1∧Rep G.toGd S1 H1 d v) I ⟨δ,S,Y,_,R,ht,fun d S1 v H1 k P c r=>⟨d,S1,k,P,c,r⟩,rw'⟩) fun u s1 hh=>?_)
 obtain ⟨v,H1,I1,rv,d,S1,k,P,c,r⟩:=hh
 unfold b1F at k
 split at k
 ·rename_i a
  cases a0r r
  cases rv
  obtain ⟨C,fs,x,e1,cl,na,l,q⟩:=k
  obtain ⟨dx,ws,ha,hf⟩:=c _ _ e1
  obtain ⟨w,lw,rw2⟩:=a5q hf l
  rw [hK] at cl na
  exact getattr_ok I1 ha cl na lw fun u s' I' ru=>⟨w,H1,I',ru,res _ S1 _ _ q P c rw2⟩
 ·rename_i y oe C fs
  obtain ⟨mine,cls,apart,x,has,q⟩:=k
  simp only [Rep] at r
  obtain ⟨d,rfl,⟨zc,fields⟩,bare | ⟨p,ws,hasD,_,at_p,same⟩⟩:=r
  ·rw [bare.2] at has
   exact nomatch has
  ·cases rv
   rw [hK] at cls apart
   have ⟨w,is,like⟩:=a5q same has
   have ⟨od,there,keeps⟩:=a3m I1 at_p
   have ⟨u,kept,ru⟩:=keeps f w is
   have here:=(I1.pin (y,oe) (zar _ (hm _ mine))).1
   exact HandSPX.exc_get I1.kIn (a1Q (by rw [hasD];exact there) zc fields here) cls.hg cls.hk cls.hs (PySem.W.findObj_own cls.hd apart rfl kept) (handed_of ru) ⟨w,H1,I1.tok _,ru,res _ S1 _ _ q P c like⟩
 ·rename_i y C fs bare
  obtain ⟨cls,apart,x,has,q⟩:=k
  simp only [Rep] at r
  obtain ⟨d,rfl,_,⟨φ,at_y,says⟩,none_ | ⟨p,ws,hasD,_,at_p,same⟩⟩:=r
  ·rw [none_.2] at has
   exact nomatch has
  ·cases rv
   rw [hK] at cls apart
   have laid:ObjOk X.prog X.w H1 s1.heap y (.ext φ):=I1.hok y _ at_y
   obtain ⟨oe,here,zc,vs,fields,_⟩:=says _ laid.1
   have ⟨w,is,like⟩:=a5q same has
   have ⟨od,there,keeps⟩:=a3m I1 at_p
   have ⟨u,kept,ru⟩:=keeps f w is
   exact HandSPX.exc_get I1.kIn (a1Q (by rw [hasD];exact there) zc ⟨vs,fields⟩ here) cls.hg cls.hk cls.hs (PySem.W.findObj_own cls.hd apart rfl kept) (handed_of ru) ⟨w,H1,I1.tok _,ru,res _ S1 _ _ q P c like⟩
 ·exact k.elim
end
end Sv
namespace Sv
open PySem PySem.Spec PyProof.Rows L2
open L2H (RoomH)
def b51 (K:zbj) (w:World) (p:Addr) (kvs:List (Key × D)):Prop:=∃ es n,KDict K w p es n∧∀ z:Str,match valD kvs (.inr z) with
 | some d=>∃ u v,PySem.W.nsIn K p z=some (some u)∧RelV v u∧∀ S H,Rep ⟨K⟩ S H d v
 | none=>PySem.W.nsIn K p z=some none
structure GOk (n:SN) (P:Program) (w:World) (KK:zbj) (mg:Str→Option Value) (base:Heap) (G:Gm) (k:Nat):Prop where
 K:G.K=KK
 nd:n.N.Nodup
 fn:∀ h j T x,G.fn h j=some T→n.fns[j]?=some (.fn x)→∃ f fd ps,mg x=some (.ref f)∧PySem.W.keepIn KK (.ref f)=true∧L2.Binds KK fd ps []∧FnG P w KK mg base h k f fd ps (spD G.toGd T)
 meth:∀ h j T C m,G.fn h j=some T→n.fns[j]?=some (.mt C m)→∃ f fd ps,Cls KK (G.mc j)∧Meth KK (G.mc j) m f∧L2.Binds KK fd ps []∧FnG P w KK mg base h k f fd ps (spD G.toGd T)
 made:∀ j T C,G.fn false j=some T→n.fns[j]?=some (.mt C "__init__")→mg C=some (.ref (G.mc j))∧∃ f fd ps kI,Mk KK (G.mc j) f∧L2.Binds KK fd ps []∧kI + 1≤k∧FnG P w KK mg base false kI f fd ps (spD G.toGd T)
 gv:∀ j x,n.gvs[j]?=some x→∃ v u,mg x=some u∧RelV v u∧∀ S H,Rep G.toGd S H (G.gv j) v
 cl:∀ j x,n.cls[j]?=some x→mg x=some (.ref (G.cl j))
 bt:∀ x,x∈a4y→mg x=none
 kd:∀ j x kvs,n.gvs[j]?=some x→G.kd j=some kvs→∃ p,mg x=some (.ref p)∧b51 KK w p kvs
structure b3N (X:Cx) (sc:Scope):Prop where
 vis:∀ x,b2Q sc x=true→Vis X.env.scope x
 loc:∀ x,a8U sc x=true→Loc X.env.scope x∧(X.fn x=true∨X.env.scope.names.lookup x=some .local)
 gl:∀ x,glB sc x=true→Gl X x
 fr:∀ x,sc.names.lookup x=some .cell∨sc.names.lookup x=some .free→X.env.scope.names.lookup x=some .cell∨X.env.scope.names.lookup x=some .free
structure XC (n:SN) (X:Cx) (G:Gm) (W:WX) (k:Nat) (sc:Scope):Prop where
 ok:GOk n X.prog X.w X.K X.mg X.base G k
 N:X.N=n.N
 sc:b3N X sc
 rm:RoomH k X.A
 md:a1g X G.m0
 tk:L2N.Takes X W
 ps:PassesOwn (model X.prog X.w) X.A X.env X.xe
abbrev noW:WX:=fun _ _ _ _=>False
theorem a4K {env:Env}:∀ {names:List (Str × NameKind)} {x:Str} {k:NameKind},names.lookup x=some k →
  (names.map fun (n,k)=>if (k == NameKind.free && env.scope.kind == .function && env.kindOf n == some .cell) then (n,NameKind.cell) else (n,k)).lookup x=some k ∨
  (k=.free∧(names.map fun (n,k)=>if (k == NameKind.free && env.scope.kind == .function && env.kindOf n == some .cell) then (n,NameKind.cell) else (n,k)).lookup x=some .cell)
 | [],_,_,h=>by simp at h
 | (m,j) :: r,x,k,h=>by
  have ih:=@a4K env r x k
  rw [zax]
  cases hx:x == m with
  | true =>
   rw [List.lookup_cons,hx] at h
   cases h
   by_cases q:(j == NameKind.free && env.scope.kind == .function && env.kindOf m == some .cell)=true
   ·right
    refine ⟨?_,?_⟩
    ·simp only [zak,beq_iff_eq] at q
     cases j <;> first | rfl | (have:=q.1.1;simp at this;done) | (exact absurd q.1.1 (by decide))
    ·simp only [q,if_true];rw [List.lookup_cons,hx]
   ·left
    simp only [q,if_false,Bool.false_eq_true];rw [List.lookup_cons,hx]
  | false =>
   rw [List.lookup_cons,hx] at h
   have e:∀ z:NameKind,List.lookup x ((m,z) :: r.map fun (n,k)=>if (k == NameKind.free && env.scope.kind == .function && env.kindOf n == some .cell) then (n,NameKind.cell) else (n,k)) =
     List.lookup x (r.map fun (n,k)=>if (k == NameKind.free && env.scope.kind == .function && env.kindOf n == some .cell) then (n,NameKind.cell) else (n,k)):=fun z=>by rw [List.lookup_cons,hx]
   dsimp only
   split
   ·rw [e];exact ih h
   ·rw [e];exact ih h
section
variable {n:SN} {X:Cx} {G:Gm} {W:WX} {k:Nat} {sc:Scope}
theorem b3N.self (hf:∀ x,X.fn x=true):b3N X X.env.scope :=
 ⟨fun _ h=>a7n h,fun x h=>⟨b0c h,.inl (hf x)⟩,fun _ h=>a9N h,fun _ h=>h⟩
theorem XC.nd (c:XC n X G W k sc):X.N.Nodup:=c.N ▸ c.ok.nd
theorem XC.un (c:XC n X G W k sc):X.A.units + 65 < cLine:=by have:=c.rm.un;omega
theorem XC.at (c:XC n X G W k sc) {i:Nat} {x:Str} (h:nmB n.N i x=true):X.N[i]?=some x:=c.N ▸ (a0A h).1
theorem b3N.blk {s:Shared} {H:Hp} {scope:Scope} {C:Addr} {cl:List (Str × Addr)} {fp:List Addr}:b3N (X.blk s H scope (compEnvC scope cl C X.env) fp) scope:=by
 have key:∀ {x k},scope.names.lookup x=some k→(X.blk s H scope (compEnvC scope cl C X.env) fp).env.scope.names.lookup x=some k∨(k=.free∧(X.blk s H scope (compEnvC scope cl C X.env) fp).env.scope.names.lookup x=some .cell):=fun {x k} h=>a4K (env:=X.env) h
 refine ⟨fun x h=>?_,fun x h=>?_,fun x h=>?_,fun x h=>?_⟩
 ·rcases a7n h with h | h | h <;> rcases key h with q | ⟨_,q⟩
  ·exact .inl q
  ·exact .inr (.inl q)
  ·exact .inr (.inl q)
  ·exact .inr (.inl q)
  ·exact .inr (.inr q)
  ·exact .inr (.inl q)
 ·rcases b0c h with h | h <;> rcases key h with q | ⟨e,q⟩
  ·exact ⟨.inl q,.inr q⟩
  ·cases e
  ·refine ⟨.inr q,.inl ?_⟩
   show (scope.names.lookup x == some .cell)=true
   rw [h];rfl
  ·cases e
 ·rcases key (a9N h) with q | ⟨e,_⟩
  ·exact q
  ·cases e
 ·rcases h with h | h <;> rcases key h with q | ⟨_,q⟩
  ·exact .inl q
  ·exact .inl q
  ·exact .inr q
  ·exact .inl q
theorem XC.blk (c:XC n X G W k sc) (hm:G.m0=none) {s:Shared} {H:Hp} {scope:Scope} {C:Addr} {cl:List (Str × Addr)} {fp:List Addr}:XC n (X.blk s H scope (compEnvC scope cl C X.env) fp) G noW k scope :=
 ⟨c.ok,c.N,b3N.blk,c.rm,by have:=c.md;rw [hm] at this ⊢;exact this,fun u s' ⟨_,_,_,_,_,_,_,_,_,_,_,_,_,_,_,_,z⟩=>z.elim,PassesOwn.never⟩
theorem XC.vis (c:XC n X G W k sc) {x:Str} (h:b2Q sc x=true):Vis X.env.scope x:=c.sc.vis x h
theorem XC.loc (c:XC n X G W k sc) {x:Str} (h:a8U sc x=true):Loc X.env.scope x:=(c.sc.loc x h).1
theorem XC.sto (c:XC n X G W k sc) {x:Str} (h:a8U sc x=true):X.fn x=true∨X.env.scope.names.lookup x=some .local:=(c.sc.loc x h).2
theorem XC.gl (c:XC n X G W k sc) {x:Str} (h:glB sc x=true):Gl X x:=c.sc.gl x h
end
def LG (g:Gd) (t:D→DS→SS→(DS→SS→Prop)→Prop):TG:=fun v σ H Q=>∃ d δ S K,Rel g S H δ σ∧Rep g S H d v∧t d δ S K∧∀ δ' S' σ' H',K δ' S'→a0d S H S' H'→Rel g S' H' δ' σ'→Q σ' H'
section
variable {n:SN} {X:Cx} {G:Gm} {W:WX} {k:Nat} {sc:Scope}
theorem PG.imp {e:Expr} {t t':TG} (h:PG X e t) (w:∀ v σ H Q,t' v σ H Q→t v σ H Q):PG X e t':=⟨fun pins s σ H v u Q I r q=>h.run pins s σ H v u Q I r (w v σ H Q q)⟩
def a5N:List Nat→TGs
 | []=>gNil
 | i :: is=>gCons (gName i) (a5N is)
theorem a3S (c:XC n X G W k sc):∀ (is:List Nat) (xs:List Expr),a9n n sc is xs=true→PGs X xs (a5N is)∧(assignEach xs X.env).length=is.length∧(assignEach xs X.env).findIdx? (·.1)=none
 | [],xs,h=>by
  unfold a9n at h
  cases xs with
  | nil=>exact ⟨pgs_nil,rfl,rfl⟩
  | cons _ _=>cases h
 | i :: is,xs,h=>by
  unfold a9n at h
  split at h
  ·rename_i y p ys
   simp only [zak] at h
   obtain ⟨h1,h2,h3⟩:=a3S c is ys h.2
   refine ⟨pgs_cons (pg_name c.nd (c.at h.1.1) (c.loc h.1.2) (c.sto h.1.2)) h1,?_,?_⟩
   ·show (assignEach (Expr.Name y p :: ys) X.env).length=_
    unfold assignEach
    rw [zaz,zaz,h2]
   ·show (assignEach (Expr.Name y p :: ys) X.env).findIdx? _=none
    unfold assignEach
    rw [List.findIdx?_cons,h3];rfl
  ·cases h
theorem a4M {g:Gd} {S:SS} {H:Hp}:∀ (is:List Nat) (ds:List D) (vs:List V) (δ:DS) (σ:L2.St) (Q:L2.St→Hp→Prop),Rel g S H δ σ→a0e g S H ds vs→ds.length=is.length→(∀ σ',Rel g S H (a3Z δ is ds) σ'→Q σ' H)→a5N is vs σ H Q
 | [],ds,vs,δ,σ,Q,R,r,l,h=>by
  cases ds with
  | nil=>simp only [a0e] at r;subst r;exact ⟨rfl,h σ R⟩
  | cons _ _=>cases l
 | i :: is,ds,vs,δ,σ,Q,R,r,l,h=>by
  cases ds with
  | nil=>cases l
  | cons d ds =>
   simp only [a0e] at r
   obtain ⟨v,q,rfl,a,b⟩:=r
   exact ⟨v,q,rfl,a4M is ds q _ _ Q ⟨R.sl.set a,R.ce⟩ b (by simpa using l) h⟩
end
section
variable {g:Gd} {W:WX}
def LE1 (g:Gd) (W:WX) (t:D→RdE) (v:V):TE:=fun σ H Q=>∃ x δ S Y K,Rel g S H δ σ∧Rep g S H x v∧t x δ S Y K∧Res g S H K Q∧a6z g S H Y W
theorem a0w {t1:RdE} {t2:D→RdE} {σ:L2.St} {H:Hp} {Q:VK} (h:LE g W (fun δ S Y K=>t1 δ S Y fun x S1=>t2 x δ S1 Y K) σ H Q):LE g W t1 σ H fun v H1=>LE1 g W t2 v σ H1 Q:=by
 obtain ⟨δ,S,Y,K,R,ht,res,rw'⟩:=h
 exact ⟨δ,S,Y,_,R,ht,fun d S1 v H1 k P c r=>⟨d,δ,S1,Y,K,R.mono P c,r,k,res.mono P,rw'.mono P⟩,rw'⟩
def LE2 (g:Gd) (W:WX) (t:D→D→RdE) (v u:V):TE:=fun σ H Q=>∃ x y δ S Y K,Rel g S H δ σ∧Rep g S H x v∧Rep g S H y u∧t x y δ S Y K∧Res g S H K Q∧a6z g S H Y W
theorem a1S {t1:RdE} {t2:D→D→RdE} {σ:L2.St} {H:Hp} {Q:VK} {v:V} (h:LE1 g W (fun x δ S Y K=>t1 δ S Y fun y S1=>t2 x y δ S1 Y K) v σ H Q):LE g W t1 σ H fun u H1=>LE2 g W t2 v u σ H1 Q:=by
 obtain ⟨x,δ,S,Y,K,R,r0,ht,res,rw'⟩:=h
 exact ⟨δ,S,Y,_,R,ht,fun d S1 u H1 k P c r=>⟨x,d,δ,S1,Y,K,R.mono P c,r0.mono P,r,k,res.mono P,rw'.mono P⟩,rw'⟩
theorem a5Z {t:D→D→SS→DK→Prop} {σ:L2.St} {H:Hp} {Q:VK} {v u:V} (h:LE2 g W (fun x y _ S _ K=>t x y S K) v u σ H Q):rD2 g t v u H Q:=by
 obtain ⟨x,y,δ,S,Y,K,R,r1,r2,ht,res,_⟩:=h
 exact ⟨x,y,S,K,R.ce,r1,r2,ht,res⟩
theorem b4E {t:RdE} {σ:L2.St} {H:Hp} {Q:Bool→Hp→Prop} (h:LT g W (fun δ S Y K=>t δ S Y fun d S'=>∃ k,d=.bl k∧K k S') σ H Q):LE g W t σ H fun v H'=>∃ k,v=.bl k∧Q k H':=by
 obtain ⟨δ,S,Y,K,R,ht,res,rw'⟩:=h
 refine ⟨δ,S,Y,_,R,ht,fun d S1 v H1 k P c r=>?_,rw'⟩
 obtain ⟨b,rfl,k⟩:=k
 exact ⟨b,a2x r,res b S1 H1 k P c⟩
theorem b7B {K:zbj} (hK:g.K=K) {t:RdE} {σ:L2.St} {H:Hp} {Q:Bool→Hp→Prop} (h:LT g W (fun δ S Y K=>t δ S Y fun d S'=>a1n d S' fun b=>K b S') σ H Q):LE g W t σ H fun v H'=>∃ k,TruV K v H' k∧Q k H':=by
 obtain ⟨δ,S,Y,K',R,ht,res,rw'⟩:=h
 refine ⟨δ,S,Y,_,R,ht,fun d S1 v H1 k P c r=>?_,rw'⟩
 subst hK
 have X0:∃ k,TruV g.K v H1 k∧K' k S1:=by
  have k:a1n d S1 fun b=>K' b S1:=k
  unfold a1n at k
  split at k
  ·rename_i e;cases b3C r e;exact ⟨false,rfl,k⟩
  ·rename_i b e;cases b88 r e;exact ⟨b,rfl,k⟩
  ·rename_i b e;cases a8k r e;exact ⟨_,rfl,k⟩
  ·rename_i b e;cases a2I r e;exact ⟨_,⟨k.1,rfl⟩,k.2⟩
  ·rename_i ds e
   obtain ⟨p,vs,rfl,hl,hr⟩:=a0j c r e
   exact ⟨_,.inl ⟨vs,hl,rfl⟩,by rw [a1k hr];exact k⟩
  ·rename_i ds e
   obtain ⟨p,vs,rfl,hl,hr⟩:=a0B r e
   exact ⟨_,.inr (.inl ⟨vs,hl,rfl⟩),by rw [a1k hr];exact k⟩
  ·exact k.elim
 obtain ⟨b,tv,k⟩:=X0
 exact ⟨b,tv,res b S1 H1 k P c⟩
end
section
variable {n:SN} {X:Cx} {G:Gm} {W:WX} {k:Nat} {sc:Scope}
theorem a0L {x:Expr} {t:RdE} (h:∀ δ S Y K,¬ t δ S Y K):PE X x (LE G.toGd W t):=⟨fun _ _ _ _ _ _ ⟨_,_,_,_,_,q,_⟩=>(h _ _ _ _ q).elim⟩
theorem a77 {x:Expr} {t:RdT} (h:∀ δ S Y K,¬ t δ S Y K):PT X x (LT G.toGd W t):=⟨fun _ _ _ _ _ _ ⟨_,_,_,_,_,q,_⟩=>(h _ _ _ _ q).elim⟩
theorem a79 {x:Expr} {t:RdT} (h:∀ δ S Y K,¬ t δ S Y K):PW X x (LT G.toGd W t):=⟨fun _ _ _ _ _ _ _ ⟨_,_,_,_,_,q,_⟩=>(h _ _ _ _ q).elim⟩
theorem c1V {x:Expr} {t:RdE} (c:XC n X G W k sc) (h:PE X x (LE G.toGd W t)) (hp:plainT x=true):PT X x (LT G.toGd W fun δ S Y K=>t δ S Y fun d S'=>a1n d S' fun b=>K b S') :=
 PT.imp (pt_truth h fun whole=>plainT_ok hp whole) fun σ H Q q=>b7B c.ok.K q
end
end Sv
namespace Sv
open PySem PySem.Spec PySem.Calls PyProof.Rows L2
section
variable {prog:Program} {w:World} {A:Around} {E:Value→Shared→Prop} {s:Shared}
theorem a7T {h h':Heap} {it l:Addr} {us:Array Value} (a:h.IsList l us) (k:Heap.SameBut it h h') (ne:l≠it):h'.IsList l us:=by
 obtain ⟨o,e,r⟩:=a
 exact ⟨o,k.extBut l o ne e,r⟩
theorem a9z {it l:Addr} {us:Array Value} (ne:l≠it):∀ (k i:Nat) (s:Shared) (Q:List Value→Shared→Prop),s.heap.IsListIter it l i→s.heap.IsList l us→i + k≤us.size →
  (∀ h',h'.IsListIter it l (i + k)→Heap.SameBut it s.heap h'→Q ((us.toList.drop i).take k) { s with heap:=h' })→wpAny (model prog w) A (draw (.ref it) k) Q E s
 | 0,i,s,Q,a,_,_,fin=>by
  have:=fin s.heap a (Heap.SameBut.refl ..)
  rw [List.take_zero] at this
  exact wpAny_pure this
 | k + 1,i,s,Q,a,b,le,fin=>by
  have lt:i < us.size:=by omega
  have at_i:us[i]?=some us[i]:=by simp [lt]
  show wpAny _ _ (pyNext _ >>= _) Q E s
  refine wpAny_bind (wpAny_pyNext_list_item a b at_i fun h1 a1 k1=>?_)
  refine wpAny_bind (wpAny_holding (a9z ne k (i + 1) _ _ a1 (a7T b k1 ne) (by omega) fun h2 a2 k2=>?_))
  refine wpAny_pure ?_
  have r:=fin h2 (by rw [show i + (k + 1)=i + 1 + k by omega];exact a2) (k1.trans k2)
  rw [List.drop_eq_getElem_cons (by rw [Array.length_toList];exact lt),List.take_succ_cons] at r
  exact r
theorem b3R {l:Addr} {us:Array Value} {Q:List Value→Shared→Prop} (calm:A.handled=none) (b:s.heap.IsList l us) (fin:∀ h',Heap.ExtBut s.heap.objs.size s.heap h'→Q us.toList { s with heap:=h' }) :
  wpAny (model prog w) A (unpackItems (.ref l) us.size none) Q E s:=by
 have ne:l≠s.heap.objs.size:=by
  obtain ⟨o,e,_⟩:=b
  exact Nat.ne_of_lt (Heap.lt_size e)
 unfold unpackItems
 refine wpAny_bind ?_
 unfold notIterableAtAll
 refine wpAny_bind (wpAny_specialOf b.typeIs slot_list_iter.lookup ?_)
 refine wpAny_pure ?_
 simp only [Bool.false_eq_true,if_false]
 refine wpAny_bind (wpAny_holding ?_)
 refine wpAny_pyIter_list b ?_
 have bp:(s.heap.push { cls:=.type "list_iterator",data:=.fields #[.ref l,.int 0 0] }).IsList l us:=by
  obtain ⟨o,e,r⟩:=b
  exact ⟨o,Heap.get?_push_of_some _ e,r⟩
 refine wpAny_bind (wpAny_holding ?_)
 refine a9z ne us.size 0 _ _ ⟨_,Heap.get?_push_size _ rfl,rfl,rfl⟩ bp (by omega) fun h1 a1 k1=>?_
 rw [List.drop_zero,List.take_of_length_le (by simp),if_neg (by simp)]
 refine wpAny_bind (wpAny_holding ?_)
 refine wpAny_pyNext_list_end calm a1 (a7T bp k1 ne) (by simp) fun h2 k2=>?_
 simp only [Option.isSome_none,Bool.false_eq_true,if_false]
 exact wpAny_pure (fin h2 fun b o hb e=>k2 b o hb (k1.extBut b o hb (Heap.get?_push_of_some _ e)))
theorem b4J {env:Env} {es:List Expr} {x1} {pos:Pos} {l:Addr} {us:Array Value} {Q:Unit→Shared→Prop} (calm:A.handled=none) (b:s.heap.IsList l us) (len:(assignEach es env).length=us.size) (nostar:(assignEach es env).findIdx? (·.1)=none)
  (fin:∀ h',Heap.ExtBut s.heap.objs.size s.heap h'→wpAny (model prog w) A (assignInOrder ((assignEach es env).map (·.2)) us.toList) Q E { s with heap:=h' }):wpAny (model prog w) A (assign (.Tuple es x1 pos) env (.ref l)) Q E s:=by
 rw [assign_Tuple]
 refine wpAny_bind (wpAny_standAt ?_)
 unfold unpack
 rw [len,nostar]
 exact wpAny_bind (wpAny_holding (b3R calm b fin))
end
section
variable {X:Cx} {pos:Pos}
def gLst (K:zbj) (n:Nat) (t:TGs):TG:=fun v σ H Q=>∃ a xs,v=.ref a∧SqL K H a xs∧xs.length=n∧t xs σ H Q
theorem pg_lst {es:List Expr} {k:Nat} {t:TGs} {n:Nat} (calm:X.calm=true) (h:PGs X es t) (len:(assignEach es X.env).length=n) (nostar:(assignEach es X.env).findIdx? (·.1)=none):PG X (.Tuple es k pos) (gLst X.K n t):=by
 constructor
 rintro pins s σ H v u Q inv rel ⟨a,xs,rfl,seq,lx,told⟩
 cases rel
 obtain ⟨its,vals,at_its,_⟩:=inv.list seq
 refine b4J (inv.ok.hd calm) at_its.isList (by simp [len,← lx,vals.length]) nostar fun h' keep=>?_
 have inv2:Inv X pins σ H { s with heap:=h' }:=inv.kept (t':=s.toks) fun b o e=>keep b o (Nat.ne_of_lt (Heap.lt_size e)) e
 exact h.run pins _ σ H xs _ Q inv2 (by simpa using vals) told
end
section
variable {n:SN} {X:Cx} {G:Gm} {W:WX} {k:Nat} {sc:Scope}
theorem c6c (c:XC n X G W k sc) {tg:List Nat} {x:Expr} (calm:X.calm=true) (h:a0Z n sc tg false x=true):PG X x (LG G.toGd fun d δ S K=>∃ ds,vw S d=.lst ds∧ds.length=tg.length∧K (a3Z δ tg ds) S):=by
 unfold a0Z at h
 rw [if_neg zbe] at h
 split at h
 ·rename_i xs kk p
  obtain ⟨h1,h2,h3⟩:=a3S c _ _ h
  refine PG.imp (pg_lst calm h1 h2 h3) ?_
  rintro v σ H Q ⟨d,δ,S,K,R,r,⟨ds,e,l,hk⟩,q⟩
  obtain ⟨p,vs,rfl,hl,hr⟩:=a0j R.ce r e
  rw [c.ok.K] at hl
  refine ⟨p,vs,rfl,hl,by rw [← hr.length];exact l,?_⟩
  exact a4M tg ds vs δ σ Q R hr l fun σ' R'=>q _ _ _ _ hk (a0d.refl _ _) R'
 ·cases h
end
end Sv
namespace Sv
open PySem PySem.Spec PyProof.Rows L2
open L2H (RoomH)
theorem a4e:∀ {es:List Expr} {env:Env} {pos:Pos},es.all a0s=true→(backTo pos (starEach es env)).all (fun x=>!x.1)=true
 | [],_,_,_=>rfl
 | e :: es,env,pos,h=>by
  rw [List.all_cons,zak] at h
  rw [a0f h.1]
  have q:=a4e (env:=env) (pos:=pos) h.2
  simpa [backTo] using q
theorem a67 {o:Expr} {args:List Expr} {name:Str} {apos pos:Pos} {env:Env} (h1:a8V o=true) (h2:args.all a0s=true) (h3:args.length < 30) (h4:(apos.endLine == pos.line)=true) :
  eval (.Call (.Attribute o name apos) args [] pos) env=(do
   let ov ← eval o env
   standAt apos.atName
   let (f,first) ← holding [ov] (getMethod ov name (do return (← importBound o env).getD true))
   callWith pos f first (backTo pos (starEach args env)) (backToKw pos (keywordEach [] env))):=by
 show (do
  let ov ← attributeBase o name env (eval o env)
  standAt apos.atName
  methodCall o name apos pos env ov (args.length + ([]:List Keyword).length) (backTo pos (starEach args env)) (backToKw pos (keywordEach [] env)))=_
 rw [a2V h1]
 have hform:methodCallForm (args.length + ([]:List Keyword).length) (backTo pos (starEach args env)) (backToKw pos (keywordEach [] env))=true:=by
  unfold methodCallForm
  rw [a4e h2]
  show (true && true && decide (args.length + 0 + (if true=true then 0 else 1) < 30))=true
  simpa using h3
 have hpos:methodCallPos true o env apos pos=pure pos:=by unfold methodCallPos;simp [h4]
 congr 1
 funext ov
 congr 1
 funext _
 unfold methodCall
 rw [hform,hpos]
 unfold calleeOf
 simp
end Sv
namespace Sv
open PySem PySem.Spec PyProof.Rows L2
open L2H (RoomH)
def RL.len:RL→Nat
 | .nil=>0 | .cons _ r=>r.len + 1
structure b3O (n:SN) (sc:Scope) (e:RE) (x:Expr):Prop where
 v:∀ X G W k,XC n X G W k sc→PE X x (LE G.toGd W (den G e))
 t:∀ X G W k,XC n X G W k sc→PT X x (LT G.toGd W (a0o G e))
structure a8Q (n:SN) (sc:Scope) (es:RL) (xs:List Expr):Prop where
 a:∀ X G W k,XC n X G W k sc→PA X xs (LA G.toGd W (a0q G es))
 and:∀ X G W k pos,XC n X G W k sc→PE X (.BoolOp .And xs pos) (LE G.toGd W (a0S G es))
 or:∀ X G W k pos,XC n X G W k sc→PE X (.BoolOp .Or xs pos) (LE G.toGd W (a1C G es))
 tand:∀ X G W k pos,XC n X G W k sc→PW X (.BoolOp .And xs pos) (LT G.toGd W (a0G G es))
 tor:∀ X G W k pos,XC n X G W k sc→PW X (.BoolOp .Or xs pos) (LT G.toGd W (a04 G es))
 st:xs.all a0s=true
 nl:xs=[]→es=.nil
 ne:es.len=xs.length
def b5Y (n:SN) (sc:Scope) (i:RI) (x:Expr):Prop:=∀ X G W k tg,XC n X G W k sc→G.m0=none→(i.two=true→∃ elts kk tpos,tg=.Tuple elts kk tpos)→PI X tg x (LI G.toGd W (a0R G i))
theorem LE.then {g:Gd} {W:WX} {t:RdE} {σ:L2.St} {H:Hp} {Q Q':VK} (h:LE g W t σ H Q) (w:∀ v H',Q v H'→Q' v H'):LE g W t σ H Q':=by
 obtain ⟨δ,S,Y,K,R,ht,res,rw'⟩:=h
 exact ⟨δ,S,Y,K,R,ht,fun d S1 v H1 k P c r=>w _ _ (res d S1 v H1 k P c r),rw'⟩
theorem LT.then {g:Gd} {W:WX} {t:RdT} {σ:L2.St} {H:Hp} {Q Q':Bool→Hp→Prop} (h:LT g W t σ H Q) (w:∀ v H',Q v H'→Q' v H'):LT g W t σ H Q':=by
 obtain ⟨δ,S,Y,K,R,ht,res,rw'⟩:=h
 exact ⟨δ,S,Y,K,R,ht,fun d S1 v k P c=>w _ _ (res d S1 v k P c),rw'⟩
theorem LA.then {g:Gd} {W:WX} {t:RdL} {σ:L2.St} {H:Hp} {Q Q':List V→Hp→Prop} (h:LA g W t σ H Q) (w:∀ v H',Q v H'→Q' v H'):LA g W t σ H Q':=by
 obtain ⟨δ,S,Y,K,R,ht,res,rw'⟩:=h
 exact ⟨δ,S,Y,K,R,ht,fun d S1 v H1 k P c r=>w _ _ (res d S1 v H1 k P c r),rw'⟩
theorem LE.re {g:Gd} {W:WX} {t t':RdE} {σ:L2.St} {H:Hp} {Q:VK} (h:LE g W t σ H Q) (w:∀ δ S Y K,t δ S Y K→t' δ S Y K):LE g W t' σ H Q:=by
 obtain ⟨δ,S,Y,K,R,ht,res,rw'⟩:=h
 exact ⟨δ,S,Y,K,R,w _ _ _ _ ht,res,rw'⟩
theorem LT.re {g:Gd} {W:WX} {t t':RdT} {σ:L2.St} {H:Hp} {Q:Bool→Hp→Prop} (h:LT g W t σ H Q) (w:∀ δ S Y K,t δ S Y K→t' δ S Y K):LT g W t' σ H Q:=by
 obtain ⟨δ,S,Y,K,R,ht,res,rw'⟩:=h
 exact ⟨δ,S,Y,K,R,w _ _ _ _ ht,res,rw'⟩
section
variable {n:SN} {X:Cx} {G:Gm} {W:WX} {k:Nat} {sc:Scope} {a b c':RE} {l r t:Expr} {pos:Pos} {es:RL} {xs:List Expr}
theorem a3G {g:Gd} {t1:RdL} {t2:List D→RdE} {σ:L2.St} {H:Hp} {Q:VK} (h:LE g W (fun δ S Y K=>t1 δ S Y fun x S1=>t2 x δ S1 Y K) σ H Q) :
  LA g W t1 σ H fun vs H1=>∃ xs δ S Y K,Rel g S H1 δ σ∧a0e g S H1 xs vs∧t2 xs δ S Y K∧Res g S H1 K Q∧a6z g S H1 Y W:=by
 obtain ⟨δ,S,Y,K,R,ht,res,rw'⟩:=h
 exact ⟨δ,S,Y,_,R,ht,fun d S1 v H1 k P c r=>⟨d,δ,S1,Y,K,R.mono P c,r,k,res.mono P,rw'.mono P⟩,rw'⟩
theorem c2e {op:Operator} (c:XC n X G W k sc) (ha:PE X l (LE G.toGd W (den G a))) (hb:PE X r (LE G.toGd W (den G b))):PE X (.BinOp l op r pos) (LE G.toGd W (den G (.bin op a b))) :=
 PE.imp (pe_op (b7Q c.ok.K op) ha hb) fun σ H Q h=>by
  rw [den] at h
  exact (a0w (t1:=den G a) (t2:=fun x δ S1 Y K=>den G b δ S1 Y fun y S2=>opD op x y S2 K) h).then fun v H1 q =>
   (a1S (t1:=den G b) (t2:=fun x y δ S2 Y K=>opD op x y S2 K) q).then fun u H2 q=>a5Z q
theorem c2c (c:XC n X G W k sc) (ha:PE X l (LE G.toGd W (den G a))) (hb:PE X r (LE G.toGd W (den G b))):PE X (.BinOp l .Add r pos) (LE G.toGd W (den G (.adc a b))) :=
 PE.imp (pe_op (b56 c.ok.K) ha hb) fun σ H Q h=>by
  rw [den] at h
  exact (a0w (t1:=den G a) (t2:=fun x δ S1 Y K=>den G b δ S1 Y fun y S2=>b1o x y S2 K) h).then fun v H1 q =>
   (a1S (t1:=den G b) (t2:=fun x y δ S2 Y K=>b1o x y S2 K) q).then fun u H2 q=>a5Z q
theorem c26 (ha:PE X l (LE G.toGd W (den G a))):PE X (.UnaryOp .USub l pos) (LE G.toGd W (den G (.neg a))) :=
 PE.imp (pe_un un_neg ha) fun σ H Q h=>by
  rw [den] at h
  refine (a0w (t1:=den G a) (t2:=fun x δ S1 Y K=>∃ i,x=.int i∧K (.int (-i)) S1) h).then fun v H1 q=>?_
  obtain ⟨x,δ,S,Y,K,R,r,⟨i,rfl,q⟩,res,_⟩:=q
  exact ⟨i,a0g r,res.int q R.ce⟩
theorem c6D (c:XC n X G W k sc) (ha:PE X l (LE G.toGd W (den G a))):PE X (.UnaryOp .Not l pos) (LE G.toGd W (den G (.nt a))) :=
 PE.imp (pe_notT ha) fun σ H Q h=>by
  rw [den] at h
  refine (a0w (t1:=den G a) (t2:=fun x δ S1 Y K=>a1n x S1 fun b=>K (.bl (!b)) S1) h).then fun v H1 q=>?_
  obtain ⟨x,δ,S,Y,K,R,r,q,res,_⟩:=q
  obtain ⟨b,tv,q⟩:=a7j c.ok.K R.ce r q
  exact ⟨b,tv,res.bl q R.ce⟩
theorem c29 (ha:PT X l (LT G.toGd W (a0o G a))):PT X (.UnaryOp .Not l pos) (LT G.toGd W (a0o G (.nt a))) :=
 PT.imp (pt_not ha) fun σ H Q h=>by
  rw [a0o] at h
  obtain ⟨δ,S,Y,K,R,ht,res,rw'⟩:=h
  exact ⟨δ,S,Y,_,R,ht,fun b S' H' k P c=>res _ S' H' k P c,rw'⟩
theorem c2R (hc:PT X t (LT G.toGd W (a0o G c'))) (ha:PE X l (LE G.toGd W (den G a))) (hb:PE X r (LE G.toGd W (den G b))):PE X (.IfExp t l r pos) (LE G.toGd W (den G (.ife c' a b))) :=
 PE.imp (pe_ifExp hc ha hb) fun σ H Q h=>by
  rw [den] at h
  obtain ⟨δ,S,Y,K,R,ht,res,rw'⟩:=h
  refine ⟨δ,S,Y,_,R,ht,fun b S' H' k P c=>?_,rw'⟩
  cases b with
  | true=>exact ⟨δ,S',Y,K,R.mono P c,k,res.mono P,rw'.mono P⟩
  | false=>exact ⟨δ,S',Y,K,R.mono P c,k,res.mono P,rw'.mono P⟩
theorem c2r {op:CmpOp} (c:XC n X G W k sc) (hs:a1Z r=true) (ha:PE X l (LE G.toGd W (den G a))) (hb:PE X r (LE G.toGd W (den G b))):PE X (.Compare l [op] [r] pos) (LE G.toGd W (den G (.cmp op a b))) :=
 PE.imp (pe_cmpR (a2Q c.ok.K c.un op) ha hb (a1T hs op)) fun σ H Q h=>by
  rw [den] at h
  exact (a0w (t1:=den G a) (t2:=fun x δ S1 Y K=>den G b δ S1 Y fun y S2=>a0D op x y S2 K) h).then fun v H1 q =>
   (a1S (t1:=den G b) (t2:=fun x y δ S2 Y K=>a0D op x y S2 K) q).then fun u H2 q=>a5Z q
theorem b8f {op:CmpOp} (c:XC n X G W k sc) (hs:a1Z r=true) (ha:PE X l (LE G.toGd W (den G a))) (hb:PE X r (LE G.toGd W (den G b))):PT X (.Compare l [op] [r] pos) (LT G.toGd W (a0o G (.cmp op a b))) :=
 PT.imp (pt_cmpR (a2Q c.ok.K c.un op) ha hb (a1T hs op)) fun σ H Q h=>by
  rw [a0o] at h
  have h:=b4E (t:=fun δ S Y K=>den G a δ S Y fun x S1=>den G b δ S1 Y fun y S2=>a0D op x y S2 K) h
  exact (a0w (t1:=den G a) (t2:=fun x δ S1 Y K=>den G b δ S1 Y fun y S2=>a0D op x y S2 K) h).then fun v H1 q =>
   (a1S (t1:=den G b) (t2:=fun x y δ S2 Y K=>a0D op x y S2 K) q).then fun u H2 q=>a5Z q
theorem a7x {o1 o2:CmpOp} {σ:L2.St} {H:Hp} {Q:VK} (h:LE G.toGd W (den G (.chn o1 o2 a b c')) σ H Q):tChain (rD2 G.toGd (a0D o1)) (rD2 G.toGd (a0D o2)) (LE G.toGd W (den G a)) (LE G.toGd W (den G b)) (LE G.toGd W (den G c')) σ H Q:=by
 rw [den] at h
 refine (a0w (t1:=den G a) (t2:=fun x δ S1 Y K=>den G b δ S1 Y fun y S2=>a0D o1 x y S2 fun z S3=>∃ k,z=.bl k∧if k=true then den G c' δ S3 Y fun w S4=>a0D o2 y w S4 K else K (.bl false) S3) h).then fun v H1 q=>?_
 refine (a1S (t1:=den G b) (t2:=fun x y δ S2 Y K=>a0D o1 x y S2 fun z S3=>∃ k,z=.bl k∧if k=true then den G c' δ S3 Y fun w S4=>a0D o2 y w S4 K else K (.bl false) S3) q).then fun u H2 q=>?_
 obtain ⟨x,y,δ,S,Y,K,R,r1,r2,ht,res,rw'⟩:=q
 refine ⟨x,y,S,_,R.ce,r1,r2,ht,fun z S3 zv H3 k P c r=>?_⟩
 obtain ⟨b0,rfl,k⟩:=k
 refine ⟨b0,a2x r,?_⟩
 cases b0 with
 | false=>exact (res.mono P).bl k c
 | true=>exact ⟨δ,S3,Y,_,R.mono P c,k,fun w S4 wv H4 k P2 c2 r'=>⟨y,w,S4,K,c2,(r2.mono P).mono P2,r',k,(res.mono P).mono P2⟩,rw'.mono P⟩
theorem c2q {o1 o2:CmpOp} (c:XC n X G W k sc) (hs:a1Z t=true) (ha:PE X l (LE G.toGd W (den G a))) (hb:PE X r (LE G.toGd W (den G b))) (hc:PE X t (LE G.toGd W (den G c'))):PE X (.Compare l [o1,o2] [r,t] pos) (LE G.toGd W (den G (.chn o1 o2 a b c'))) :=
 PE.imp (pe_chain (a2Q c.ok.K c.un o1) (a2Q c.ok.K c.un o2) ha hb hc (by show lastMarks [o2] [t]=false;exact a1T hs o2)) fun σ H Q h=>a7x h
theorem b8e {o1 o2:CmpOp} (c:XC n X G W k sc) (hs:a1Z t=true) (ha:PE X l (LE G.toGd W (den G a))) (hb:PE X r (LE G.toGd W (den G b))) (hc:PE X t (LE G.toGd W (den G c'))):PT X (.Compare l [o1,o2] [r,t] pos) (LT G.toGd W (a0o G (.chn o1 o2 a b c'))) :=
 PT.imp (pt_chain (a2Q c.ok.K c.un o1) (a2Q c.ok.K c.un o2) ha hb hc (by show lastMarks [o2] [t]=false;exact a1T hs o2)) fun σ H Q h=>by
  refine a7x (b4E (t:=den G (.chn o1 o2 a b c')) ?_)
  refine h.re fun δ S Y K q=>?_
  rw [a0o] at q
  rw [den]
  refine q
theorem c23 {cell:Bool} (ha:PA X xs (LA G.toGd W (a0q G es))):PE X (.List xs pos) (LE G.toGd W (den G (.lst cell es))) :=
 PE.imp (pe_lst ha) fun σ H Q h=>by
  rw [den] at h
  refine (a3G (t1:=a0q G es) (t2:=fun ds δ S1 Y K=>ds.length≤sizeLine∧if cell=true then ∀ p,S1 p=none→K (.obj p) (S1.set p (.lst ds)) else K (.lst ds) S1) h).then fun vs H1 q=>?_
  obtain ⟨ds,δ,S,Y,K,R,r,⟨hz,q⟩,res,_⟩:=q
  refine ⟨by rw [← r.length];exact hz,fun p hp=>?_⟩
  cases cell with
  | true=>exact res.lstC q R.ce r hp
  | false=>exact res.lst q R.ce r hp
theorem c3u {kk:Nat} (ha:PA X xs (LA G.toGd W (a0q G es))):PE X (.Tuple xs kk pos) (LE G.toGd W (den G (.tup es))) :=
 PE.imp (pe_tup ha) fun σ H Q h=>by
  rw [den] at h
  refine (a3G (t1:=a0q G es) (t2:=fun ds δ S1 Y K=>ds.length≤sizeLine∧K (.tup ds) S1) h).then fun vs H1 q=>?_
  obtain ⟨ds,δ,S,Y,K,R,r,⟨hz,q⟩,res,_⟩:=q
  exact ⟨by rw [← r.length];exact hz,fun p hp=>res.tup q R.ce r hp⟩
theorem c6x (c:XC n X G W k sc) (hs:a2t r=true) (ha:PE X l (LE G.toGd W (den G a))) (hb:PE X r (LE G.toGd W (den G b))):PE X (.Subscript l r pos) (LE G.toGd W (den G (.ix a b))) :=
 PE.imp (pe_ix (b7u c.ok.K c.un) ha hb (a6e hs)) fun σ H Q h=>by
  rw [den] at h
  exact (a0w (t1:=den G a) (t2:=fun x δ S1 Y K=>den G b δ S1 Y fun y S2=>ixD x y S2 K) h).then fun v H1 q =>
   (a1S (t1:=den G b) (t2:=fun x y δ S2 Y K=>ixD x y S2 K) q).then fun u H2 q=>a5Z q
def LO (g:Gd) (W:WX) (t:DS→SS→XD'→(Option Int→SS→Prop)→Prop):TO:=fun σ H Q=>∃ δ S Y K,Rel g S H δ σ∧t δ S Y K∧(∀ o S' H',K o S'→a0d S H S' H'→CellsOk g S' H'→Q o H')∧a6z g S H Y W
theorem PO.imp {e:Option Expr} {t t':TO} (h:PO X e t) (w:∀ σ H Q,t' σ H Q→t σ H Q):PO X e t':=⟨fun pins s σ H Q I q=>h.run pins s σ H Q I (w σ H Q q)⟩
theorem c6F {lo hi:RO} {p q:Option Expr} {p2:Pos} (c:XC n X G W k sc) (ha:PE X l (LE G.toGd W (den G a))) (hl:PO X p (LO G.toGd W (a2k G lo))) (hh:PO X q (LO G.toGd W (a2k G hi))):PE X (.Subscript l (.Slice p q none p2) pos) (LE G.toGd W (den G (.sl a lo hi))) :=
 PE.imp (pe_slice (b8n c.ok.K) ha hl hh) fun σ H Q h=>by
  rw [den] at h
  refine (a0w (t1:=den G a) (t2:=fun x δ S1 Y K=>a2k G lo δ S1 Y fun l S2=>a2k G hi δ S2 Y fun u S3=>slD x l u S3 K) h).then fun v H1 q=>?_
  obtain ⟨x,δ,S,Y,K,R,r,q,res,rw'⟩:=q
  refine ⟨δ,S,Y,_,R,q,fun o S1 H1 k P c=>⟨δ,S1,Y,_,R.mono P c,k,fun o2 S2 H2 k P2 c2=>⟨x,S2,K,c2,(r.mono P).mono P2,k,(res.mono P).mono P2⟩,rw'.mono P⟩,rw'⟩
theorem c3h {lo hi:RO} {p q:Option Expr} {p2:Pos} (c:XC n X G W k sc) (ha:PE X l (LE G.toGd W (den G a))) (hl:PO X p (LO G.toGd W (a2k G lo))) (hh:PO X q (LO G.toGd W (a2k G hi))):PE X (.Subscript l (.Slice p q none p2) pos) (LE G.toGd W (den G (.slc a lo hi))) :=
 PE.imp (pe_slice (b5k c.ok.K) ha hl hh) fun σ H Q h=>by
  rw [den] at h
  refine (a0w (t1:=den G a) (t2:=fun x δ S1 Y K=>a2k G lo δ S1 Y fun l S2=>a2k G hi δ S2 Y fun u S3=>b5I x l u S3 K) h).then fun v H1 q=>?_
  obtain ⟨x,δ,S,Y,K,R,r,q,res,rw'⟩:=q
  refine ⟨δ,S,Y,_,R,q,fun o S1 H1 k P c=>⟨δ,S1,Y,_,R.mono P c,k,fun o2 S2 H2 k P2 c2=>⟨x,S2,K,c2,(r.mono P).mono P2,k,(res.mono P).mono P2⟩,rw'.mono P⟩,rw'⟩
theorem s_call {j:Nat} {x:Str} {p:Pos} (c:XC n X G W k sc) (hn:fnB n.fns j x=true) (hg:glB sc x=true) (hL:a8Q n sc es xs):PE X (.Call (.Name x p) xs [] pos) (LE G.toGd W (den G (.call j es))):=by
 cases hT:G.fn G.m0.isSome j with
 | none =>
  refine a0L fun δ S Y K h=>?_
  rw [den] at h
  obtain ⟨T,e,_⟩:=h
  rw [hT] at e;cases e
 | some T =>
  obtain ⟨f,fd,ps,h1,h2,h3,F⟩:=c.ok.fn _ j T x hT (a9J hn).1
  have hs:=hL.st
  have ha:=hL.a X G W k c
  have fin:∀ {σ:L2.St} {H:Hp} {Q:VK},LE G.toGd W (den G (.call j es)) σ H Q→tCallG G.m0 (spD G.toGd T) [] (WE W) (LA G.toGd W (a0q G es)) σ H Q:=by
   intro σ H Q h
   have h:=h.re (t':=fun δ S Y K=>a0q G es δ S Y fun ds S1=>T G.m0 ds S1 K fun C fs S'=>Y C fs δ S') fun δ S Y K q=>by
    rw [den] at q
    obtain ⟨T',e,q⟩:=q
    rw [hT] at e;cases e
    exact q
   refine (a3G (t1:=a0q G es) (t2:=fun ds δ S1 Y K=>T G.m0 ds S1 K fun C fs S'=>Y C fs δ S') h).then fun vs H1 q=>?_
   obtain ⟨ds,δ,S,Y,K,R,r,q,res,rw'⟩:=q
   rw [List.append_nil]
   exact ⟨ds,S,K,_,R.ce,r,q,res,fun C fs S' d H' y P cc x=>rw' C fs δ S' d σ H' y P (R.mono P cc) x⟩
  cases xs with
  | nil =>
   refine PE.imp (b0A F rfl c.rm c.md ⟨c.gl hg,h1,h2,(a9J hn).2⟩ h3 .nil (fun σ=>L2N.passAt c.tk σ)) fun σ H Q h=>?_
   have hes:=hL.nl rfl
   obtain ⟨δ,S,Y,K,R,ht,res,rw'⟩:=fin h
   rw [hes,a0q] at ht
   exact res [] S [] H ht (a0d.refl _ _) R.ce (by simp only [a0e])
  | cons y ys =>
   rw [List.all_cons,zak] at hs
   exact PE.imp (pe_callG F rfl c.rm c.md ⟨c.gl hg,h1,h2,(a9J hn).2⟩ h3 .nil (fun σ=>L2N.passAt c.tk σ) ha (a0f hs.1) (a0Y hs.2)) fun σ H Q h=>fin h
theorem c0H (c:XC n X G W k sc) (b:Bn) (hb:b.needs G.m0):∃ f,((∃ id,f=.builtin id)∨∃ T,f=.type T)∧CallR X f (rDc G.toGd b.den)∧bootBuiltins b.nm=some f∧b.nm∈a4y∧b.nm ≠ "__name__" ∧ (b.nm == ("__debug__" : Str))=false:=by
 have calm:G.m0=none→X.calm=true:=fun e=>by have:=c.md;rw [e] at this;exact this.2
 cases b with
 | len=>exact ⟨_,.inl ⟨"len",rfl⟩,b7y c.ok.K,by decide +kernel,by decide +kernel,by decide +kernel,by decide +kernel⟩
 | abs=>exact ⟨_,.inl ⟨"abs",rfl⟩,b55,by decide +kernel,by decide +kernel,by decide +kernel,by decide +kernel⟩
 | max=>exact ⟨_,.inl ⟨"max",rfl⟩,b7D (calm hb),by decide +kernel,by decide +kernel,by decide +kernel,by decide +kernel⟩
 | min=>exact ⟨_,.inl ⟨"min",rfl⟩,b7E (calm hb),by decide +kernel,by decide +kernel,by decide +kernel,by decide +kernel⟩
 | rpr=>exact ⟨_,.inl ⟨"repr",rfl⟩,a9m c.ok.K c.md.1 (by have:=c.rm.un;omega),by decide +kernel,by decide +kernel,by decide +kernel,by decide +kernel⟩
 | int=>exact ⟨_,.inr ⟨"int",rfl⟩,int_ok,by decide +kernel,by decide +kernel,by decide +kernel,by decide +kernel⟩
 | tup=>exact ⟨_,.inr ⟨"tuple",rfl⟩,b2I c.ok.K,by decide +kernel,by decide +kernel,by decide +kernel,by decide +kernel⟩
 | lst cell=>cases cell <;> exact ⟨_,.inr ⟨"list",rfl⟩,b4D c.ok.K _,by decide +kernel,by decide +kernel,by decide +kernel,by decide +kernel⟩
 | srt cell=>cases cell <;> exact ⟨_,.inl ⟨"sorted",rfl⟩,b0S (calm hb) c.ok.K _,by decide +kernel,by decide +kernel,by decide +kernel,by decide +kernel⟩
 | dic cell=>cases cell <;> exact ⟨_,.inr ⟨"dict",rfl⟩,b37 _,by decide +kernel,by decide +kernel,by decide +kernel,by decide +kernel⟩
 | dcp cell=>cases cell <;> exact ⟨_,.inr ⟨"dict",rfl⟩,b1C (calm hb) c.ok.K _,by decide +kernel,by decide +kernel,by decide +kernel,by decide +kernel⟩
 | all=>exact ⟨_,.inl ⟨"all",rfl⟩,b6b (calm hb) c.ok.K,by decide +kernel,by decide +kernel,by decide +kernel,by decide +kernel⟩
 | sum=>exact ⟨_,.inl ⟨"sum",rfl⟩,b8Y (calm hb) c.ok.K,by decide +kernel,by decide +kernel,by decide +kernel,by decide +kernel⟩
 | lsk cell=>cases cell <;> exact ⟨_,.inr ⟨"list",rfl⟩,b1Z (calm hb) _,by decide +kernel,by decide +kernel,by decide +kernel,by decide +kernel⟩
 | lss cell=>cases cell <;> exact ⟨_,.inr ⟨"list",rfl⟩,b2a (calm hb) _,by decide +kernel,by decide +kernel,by decide +kernel,by decide +kernel⟩
 | str=>exact ⟨_,.inr ⟨"str",rfl⟩,str_ok,by decide +kernel,by decide +kernel,by decide +kernel,by decide +kernel⟩
 | mnl=>exact ⟨_,.inl ⟨"min",rfl⟩,b4H (calm hb) c.ok.K c.un,by decide +kernel,by decide +kernel,by decide +kernel,by decide +kernel⟩
 | srl cell=>cases cell <;> exact ⟨_,.inl ⟨"sorted",rfl⟩,a8I (calm hb) c.ok.K c.un _,by decide +kernel,by decide +kernel,by decide +kernel,by decide +kernel⟩
 | srp cell=>cases cell <;> exact ⟨_,.inl ⟨"sorted",rfl⟩,a8J (calm hb) c.ok.K c.un _,by decide +kernel,by decide +kernel,by decide +kernel,by decide +kernel⟩
theorem c6k {b:Bn} {p:Pos} (c:XC n X G W k sc) (hg:glB sc b.nm=true) (hne:xs.isEmpty=false) (hL:a8Q n sc es xs):PE X (.Call (.Name b.nm p) xs [] pos) (LE G.toGd W (den G (.bi b es))):=by
 by_cases hb:b.needs G.m0
 ·obtain ⟨f,hf,hc,hv,hm,hn,hd⟩:=c0H c b hb
  have hs:=hL.st
  cases xs with
  | nil=>cases hne
  | cons y ys =>
   rw [List.all_cons,zak] at hs
   have rule:PE X (.Call (.Name b.nm p) (y :: ys) [] pos) (tCB (rDc G.toGd b.den) (LA G.toGd W (a0q G es))):=by
    rcases hf with ⟨id,rfl⟩ | ⟨T,rfl⟩
    ·exact pe_callB hc (c.gl hg) (c.ok.bt _ hm) hv (hL.a X G W k c) hn hd (a0f hs.1) (a0Y hs.2)
    ·exact pe_callTy hc (c.gl hg) (c.ok.bt _ hm) hv (hL.a X G W k c) hn hd (a0f hs.1) (a0Y hs.2)
   refine PE.imp rule fun σ H Q h=>?_
   have h:=h.re (t':=fun δ S Y K=>a0q G es δ S Y fun ds S1=>b.den ds S1 K) fun δ S Y K q=>by
    rw [den] at q
    exact q.2
   refine (a3G (t1:=a0q G es) (t2:=fun ds δ S1 Y K=>b.den ds S1 K) h).then fun vs H1 q=>?_
   obtain ⟨ds,δ,S,Y,K,R,r,q,res,_⟩:=q
   exact ⟨ds,S,K,R.ce,r,q,res⟩
 ·refine a0L fun δ S Y K h=>?_
  rw [den] at h
  exact hb h.1
theorem c2T {cn:Cn} {x z:Str} {p p2:Pos} (c:XC n X G W k sc) (ex:x=("isinstance" : Str)) (hg:glB sc x=true) (hz:glB sc z=true) (hst:a0s l=true) (ha:PE X l (LE G.toGd W (den G a)))
  (hc:(match cn with
   | .ty t=>decide (bootBuiltins z=some (.type t)) && decide (z≠("__name__" : Str)) && decide ((z == ("__debug__" : Str))=false) && decide (z∈a4y)
   | .own j=>nmB n.cls j z)=true):PE X (.Call (.Name x p) [l,.Name z p2] [] pos) (LE G.toGd W (den G (.isi a cn))):=by
 subst ex
 have hcl:∃ cv,PE X (.Name z p2) (tC cv)∧ClsV cv (cn.val G):=by
  cases cn with
  | ty t =>
   simp only [zak,zah] at hc
   obtain ⟨⟨⟨h1,h2⟩,h3⟩,h4⟩:=hc
   exact ⟨.ty t,pe_bltn (c.gl hz) (c.ok.bt _ h4) h1 rfl h2 h3,.ty t⟩
  | own j =>
   have h:=c.ok.cl j z (a0A hc).1
   exact ⟨.ref (G.cl j),pe_glob (c.gl hz) h rfl (a0A hc).2.1,.own _⟩
 obtain ⟨cv,pz,cz⟩:=hcl
 refine PE.imp (pe_callB b1t (c.gl hg) (c.ok.bt _ (by decide +kernel)) (by decide +kernel) (pa_cons ha (pa_cons pz pa_nil rfl) (a0f hst)) (by decide +kernel) (by decide +kernel) (a0f hst) rfl) fun σ H Q h=>?_
 rw [den] at h
 refine (a0w (t1:=den G a) (t2:=fun x δ S1 Y K=>∃ t b,tyD S1 x=some t∧a2L G S1 x∧PySem.W.kitOne G.K t (cn.val G)=some b∧K (.bl b) S1) h).then fun v H1 q=>?_
 obtain ⟨x,δ,S,Y,K,R,r,⟨t,b,e1,e2,e3,q⟩,res,_⟩:=q
 rw [c.ok.K] at e3
 exact ⟨v,cv,t,_,b,rfl,cz,b3B c.ok.K c.md.p R.ce r e1 e2,e3,res.bl q R.ce⟩
theorem b3d (c:XC n X G W k sc):∀ {js:List Nat} {es:List Expr},b31 n.cls sc js es=true→∃ cvs,PA X es (fun _ H Q=>Q cvs H)∧cvs.length=js.length∧Paired ClsV cvs (js.map fun j=>Value.ref (G.cl j))
 | [],[],_=>⟨[],pa_nil,rfl,.nil⟩
 | j :: js,x :: es,h=>by
  unfold b31 at h
  simp only [zak] at h
  obtain ⟨⟨h1,h2⟩,h3⟩:=h
  split at h1
  ·rename_i z p
   rw [zak] at h1
   obtain ⟨hz,hn⟩:=h1
   have hc:=c.ok.cl j z (a0A hn).1
   have pz:PE X (.Name z p) (tC (.ref (G.cl j))):=pe_glob (c.gl hz) hc rfl (a0A hn).2.1
   obtain ⟨cvs,pa,len,pr⟩:=b3d c h3
   exact ⟨.ref (G.cl j) :: cvs,PA.imp (pa_cons pz pa (a0f h2)) (fun σ H Q q=>q),by rw [zaz,len];rfl,.cons (.own _) pr⟩
  ·cases h1
 | [],_ :: _,h=>by unfold b31 at h;cases h
 | _ :: _,[],h=>by unfold b31 at h;cases h
theorem c2U {js:List Nat} {es:List Expr} {kk:Nat} {x:Str} {p p2:Pos} (c:XC n X G W k sc) (ex:x=("isinstance" : Str)) (hg:glB sc x=true) (hst:a0s l=true) (ha:PE X l (LE G.toGd W (den G a)))
  (hc:b31 n.cls sc js es=true) (few:js.length≤100):PE X (.Call (.Name x p) [l,.Tuple es kk p2] [] pos) (LE G.toGd W (den G (.ist a js))):=by
 subst ex
 obtain ⟨cvs,pa,len,pr⟩:=b3d c hc
 refine PE.imp (pe_callB a9l (c.gl hg) (c.ok.bt _ (by decide +kernel)) (by decide +kernel) (pa_cons ha (pa_cons (pe_tup pa) pa_nil rfl) (a0f hst)) (by decide +kernel) (by decide +kernel) (a0f hst) rfl) fun σ H Q h=>?_
 rw [den] at h
 refine (a0w (t1:=den G a) (t2:=fun x δ S1 Y K=>∃ t b,tyD S1 x=some t∧a2L G S1 x∧PySem.W.kitAny G.K t (js.map fun j=>Value.ref (G.cl j))=some b∧K (.bl b) S1) h).then fun v H1 q=>?_
 obtain ⟨x,δ,S,Y,K,R,r,⟨t,b,e1,e2,e3,q⟩,res,_⟩:=q
 rw [c.ok.K] at e3
 refine ⟨by rw [len,zai];omega,fun tp free=>?_⟩
 have P:a0d S H1 S (upd H1 tp (.tup cvs)):=a0d.new free
 exact ⟨v,tp,cvs,t,_,b,rfl,upd_same,pr,b3B c.ok.K c.md.p (R.ce.new free) (r.mono P) e1 e2,e3,res _ S _ _ q P (R.ce.new free) (by simp only [Rep])⟩
theorem a1M {x:D} {v:V} {S:SS} {H:Hp} (hK:G.K=X.K) (cells:CellsOk G.toGd S H) (rep:Rep G.toGd S H x v) (h:a2b x S):tyV X.K "list" v H:=by
 obtain ⟨ds,seen⟩:=h
 obtain ⟨p,vs,rfl,seq,_⟩:=a0j cells rep seen
 rw [hK] at seq
 exact .inl ⟨rfl,vs,seq⟩
theorem a7l {x:D} {v:V} {S:SS} {H:Hp} (rep:Rep G.toGd S H x v) (h:a5U x):tyV X.K "str" v H:=by
 obtain ⟨z,rfl⟩:=h
 cases a0u rep
 exact rfl
theorem a5y {x:D} {v:V} {S:SS} {H:Hp} (cells:CellsOk G.toGd S H) (rep:Rep G.toGd S H x v) (h:a5S x S):tyV X.K "dict" v H:=by
 obtain ⟨p,kvs,rfl,at_p⟩:=h
 cases a0r rep
 obtain ⟨ws,here,_⟩:=cells p _ at_p
 exact .inr (.inr (.inl ⟨rfl,.inl ⟨ws,here⟩⟩))
theorem c1H (c:XC n X G W k sc) (b:Mn):∃ T id,PlainAttrs T∧Slot T b.nm id∧typeOf (.builtin id)=pure (.type "method_descriptor")∧MtR X id (rDm G.toGd b.den)∧∀ x v S H,CellsOk G.toGd S H→Rep G.toGd S H x v→b.rc x S→tyV X.K T v H:=by
 have un:=c.un
 cases b with
 | join=>exact ⟨_,_,PySem.F.plainAttrs_str,PySem.F.slot_str_join,PySem.F.type_str_join,b4v c.ok.K,fun _ _ _ _ _ r h=>a7l r h⟩
 | upper=>exact ⟨_,_,PySem.F.plainAttrs_str,PySem.F.slot_str_upper,PySem.F.type_str_upper,b2M,fun _ _ _ _ _ r h=>a7l r h⟩
 | app=>exact ⟨_,_,PySem.F.plainAttrs_list,PySem.F.slot_list_append,PySem.F.type_list_append,app_ok,fun _ _ _ _ q r h=>a1M c.ok.K q r h⟩
 | ins=>exact ⟨_,_,PySem.F.plainAttrs_list,PySem.F.slot_list_insert,PySem.F.type_list_insert,b7p,fun _ _ _ _ q r h=>a1M c.ok.K q r h⟩
 | pop=>exact ⟨_,_,PySem.F.plainAttrs_list,PySem.F.slot_list_pop,PySem.F.type_list_pop,b70,fun _ _ _ _ q r h=>a1M c.ok.K q r h⟩
 | clr=>exact ⟨_,_,PySem.F.plainAttrs_list,PySem.F.slot_list_clear,PySem.F.type_list_clear,b1v,fun _ _ _ _ q r h=>a1M c.ok.K q r h⟩
 | cnt=>exact ⟨_,_,PySem.F.plainAttrs_list,PySem.F.slot_list_count,PySem.F.type_list_count,b6r c.ok.K un,fun _ _ _ _ q r h=>a1M c.ok.K q r h⟩
 | dpop=>exact ⟨_,_,PySem.F.plainAttrs_dict,PySem.F.slot_dict_pop,PySem.F.type_dict_pop,b39,fun _ _ _ _ q r h=>a5y q r h⟩
 | upd=>exact ⟨_,_,PySem.F.plainAttrs_dict,PySem.F.slot_dict_update,PySem.F.type_dict_update,b86,fun _ _ _ _ q r h=>a5y q r h⟩
 | dget=>exact ⟨_,_,PySem.F.plainAttrs_dict,PySem.F.slot_dict_get,PySem.F.type_dict_get,b35 (by omega),fun _ _ _ _ q r h=>b2L q r h⟩
 | dset=>exact ⟨_,_,PySem.F.plainAttrs_dict,PySem.F.slot_dict_setdefault,PySem.F.type_dict_setdefault,b4b,fun _ _ _ _ q r h=>a5y q r h⟩
 | dpop2=>exact ⟨_,_,PySem.F.plainAttrs_dict,PySem.F.slot_dict_pop,PySem.F.type_dict_pop,b1D,fun _ _ _ _ q r h=>a5y q r h⟩
 | idx=>exact ⟨_,_,PySem.F.plainAttrs_list,PySem.F.slot_list_index,PySem.F.type_list_index,b7o c.ok.K,fun _ _ _ _ q r h=>a1M c.ok.K q r h⟩
 | rem=>exact ⟨_,_,PySem.F.plainAttrs_list,PySem.F.slot_list_remove,PySem.F.type_list_remove,b72,fun _ _ _ _ q r h=>a1M c.ok.K q r h⟩
 | ext=>exact ⟨_,_,PySem.F.plainAttrs_list,PySem.F.slot_list_extend,PySem.F.type_list_extend,b60,fun _ _ _ _ q r h=>a1M c.ok.K q r h⟩
 | spl=>exact ⟨_,_,PySem.F.plainAttrs_str,PySem.F.slot_str_split,PySem.F.type_str_split,b2A,fun _ _ _ _ _ r h=>a7l r h⟩
theorem b63 {es:List Expr} {env:Env} {p:Pos} (st:es.all a0s=true) (few:es.length < 30):((backTo p (starEach es env)).all (fun x=>!x.1) && (backToKw p (keywordEach [] env)).all (fun x=>x.1.isSome) && decide (es.length + ([]:List Keyword).length + (if ([]:List Keyword).isEmpty then 0 else 1) < 30))=true:=by
 rw [a4e st]
 show (true && true && decide (es.length + 0 + 0 < 30))=true
 simpa using few
theorem a7Q {g:Gd} {t1:RdL} {t2:D→List D→RdE} {σ:L2.St} {H:Hp} {Q:VK} {v:V} (h:LE1 g W (fun x δ S Y K=>t1 δ S Y fun ds S1=>t2 x ds δ S1 Y K) v σ H Q) :
  LA g W t1 σ H fun vs H1=>∃ x ds δ S Y K,Rel g S H1 δ σ∧Rep g S H1 x v∧a0e g S H1 ds vs∧t2 x ds δ S Y K∧Res g S H1 K Q∧a6z g S H1 Y W:=by
 obtain ⟨x,δ,S,Y,K,R,r0,ht,res,rw'⟩:=h
 exact ⟨δ,S,Y,_,R,ht,fun d S1 u H1 k P c r=>⟨x,d,δ,S1,Y,K,R.mono P c,r0.mono P,r,k,res.mono P,rw'.mono P⟩,rw'⟩
theorem c25 {b:Mn} {ap:Pos} (c:XC n X G W k sc) (hs:a8V l=true) (hl:(ap.endLine == pos.line)=true) (few:xs.length < 30) (ha:PE X l (LE G.toGd W (den G a))) (hL:a8Q n sc es xs):PE X (.Call (.Attribute l b.nm ap) xs [] pos) (LE G.toGd W (den G (.mth b a es))):=by
 obtain ⟨T,id,pa,slot,ty,rule,typed⟩:=c1H c b
 have st:=hL.st
 have split:∀ {σ H Q},LE G.toGd W (den G (.mth b a es)) σ H Q→LE G.toGd W (den G a) σ H fun v H1=>tyV X.K T v H1∧LA G.toGd W (a0q G es) σ H1 fun vs H2=>rDm G.toGd b.den v vs H2 Q:=fun {σ H Q} h=>by
  rw [den] at h
  refine (a0w (t1:=den G a) (t2:=fun x δ S1 Y K=>b.rc x S1∧a0q G es δ S1 Y fun ds S2=>b.den x ds S2 K) h).then fun v H1 q=>?_
  obtain ⟨x,δ,S,Y,K,R,r,⟨rc,q⟩,res,rw'⟩:=q
  refine ⟨typed x v S H1 R.ce r rc,?_⟩
  refine (a7Q (t1:=a0q G es) (t2:=fun x ds δ S2 Y K=>b.den x ds S2 K) ⟨x,δ,S,Y,K,R,r,q,res,rw'⟩).then fun vs H2 q=>?_
  obtain ⟨x,ds,δ,S,Y,K,R,r0,r1,q,res,_⟩:=q
  exact ⟨x,ds,S,K,R.ce,r0,r1,q,res⟩
 cases xs with
 | nil =>
  have hes:=hL.nl rfl
  refine PE.imp (pe_bm0 pa slot ty rule ha (a2V hs) hl) fun σ H Q h=>(split h).then fun v H1 q=>⟨q.1,?_⟩
  obtain ⟨δ,S,Y,K,R,ht,res,_⟩:=q.2
  rw [hes,a0q] at ht
  exact res [] S [] H1 ht (a0d.refl _ _) R.ce (by simp only [a0e])
 | cons y ys =>
  have st2:=st
  rw [List.all_cons,zak] at st2
  exact PE.imp (pe_bm pa slot ty rule ha (hL.a X G W k c) (a2V hs) (b63 st few) hl (a0f st2.1) (a0Y st2.2)) fun σ H Q h=>split h
theorem c6E {j:Nat} {m:Str} {ap:Pos} (c:XC n X G W k sc) (hs:a8V l=true) (hl:(ap.endLine == pos.line)=true) (few:xs.length < 30) (hm:mtB n.fns j m=true) (ha:PE X l (LE G.toGd W (den G a))) (hL:a8Q n sc es xs) :
  PE X (.Call (.Attribute l m ap) xs [] pos) (LE G.toGd W (den G (.om j m a es))):=by
 cases hT:G.fn G.m0.isSome j with
 | none =>
  refine a0L fun δ S Y K h=>?_
  rw [den] at h
  obtain ⟨T,e,_⟩:=h
  rw [hT] at e;cases e
 | some T =>
  obtain ⟨C0,at_j⟩:=b7F hm
  obtain ⟨f,fd,ps,cls,is,binds,F⟩:=c.ok.meth _ j T C0 m hT at_j
  have st:=hL.st
  have split:∀ {σ H Q},LE G.toGd W (den G (.om j m a es)) σ H Q→LE G.toGd W (den G a) σ H fun x H1=>∃ p dx fs,x=.ref p∧H1 p=some (.ins (G.mc j) dx fs)∧fs.lookup m=none∧LA G.toGd W (a0q G es) σ H1 fun vs H2=>spD G.toGd T G.m0 (x :: vs) H2 Q (WE W σ):=fun {σ H Q} h=>by
   have h:=h.re (t':=fun δ S Y K=>den G a δ S Y fun x S1=>∃ p,omD G j m x S1 p∧a0q G es δ S1 Y fun ds S2=>T G.m0 (.obj p :: ds) S2 K fun C fs S'=>Y C fs δ S') fun δ S Y K q=>by
    rw [den] at q
    obtain ⟨T',e,q⟩:=q
    rw [hT] at e;cases e
    exact q
   refine (a0w (t1:=den G a) (t2:=fun x δ S1 Y K=>∃ p,omD G j m x S1 p∧a0q G es δ S1 Y fun ds S2=>T G.m0 (.obj p :: ds) S2 K fun C fs S'=>Y C fs δ S') h).then fun v H1 q=>?_
   obtain ⟨x,δ,S,Y,K,R,r,⟨p,⟨rfl,fs,at_p,free⟩,q⟩,res,rw'⟩:=q
   cases a0r r
   obtain ⟨dx,ws,here,fields⟩:=R.ce p _ at_p
   refine ⟨p,dx,ws,rfl,here,b0I fields free,?_⟩
   refine (a7Q (t1:=a0q G es) (t2:=fun x ds δ S2 Y K=>T G.m0 (x :: ds) S2 K fun C fs S'=>Y C fs δ S') ⟨.obj p,δ,S,Y,K,R,r,q,res,rw'⟩).then fun vs H2 q=>?_
   obtain ⟨x,ds,δ,S,Y,K,R,r0,r1,q,res,rw'⟩:=q
   exact ⟨x :: ds,S,K,_,R.ce,by simp only [a0e];exact ⟨_,_,rfl,r0,r1⟩,q,res,fun C fs S' d H' y P cc z=>rw' C fs δ S' d σ H' y P (R.mono P cc) z⟩
  cases xs with
  | nil =>
   have hes:=hL.nl rfl
   refine PE.imp (b7Y F rfl c.rm c.md cls is binds (fun σ=>L2N.passAt c.tk σ) ha (a67 hs rfl few hl)) fun σ H Q h=>(split h).then fun v H1 q=>?_
   obtain ⟨p,dx,fs,e,here,free,q⟩:=q
   refine ⟨p,dx,fs,e,here,free,?_⟩
   obtain ⟨δ,S,Y,K,R,ht,res,_⟩:=q
   rw [hes,a0q] at ht
   exact res [] S [] H1 ht (a0d.refl _ _) R.ce (by simp only [a0e])
  | cons y ys =>
   have st2:=st
   rw [List.all_cons,zak] at st2
   exact PE.imp (c1S F rfl c.rm c.md cls is binds (fun σ=>L2N.passAt c.tk σ) ha (hL.a X G W k c) (a67 hs st few hl) (a0f st2.1) (a0Y st2.2)) fun σ H Q h=>split h
theorem c6C {j:Nat} {y:Str} {p:Pos} (c:XC n X G W k sc) (hj:enB n.fns j (.mt y "__init__")=true) (hd:(y == ("__debug__" : Str))=false) (hg:glB sc y=true) (hL:a8Q n sc es xs):PE X (.Call (.Name y p) xs [] pos) (LE G.toGd W (den G (.mk j es))):=by
 by_cases hm:G.m0=none
 ·cases hT:G.fn false j with
  | none =>
   refine a0L fun δ S Y K h=>?_
   rw [den] at h
   obtain ⟨_,T,e,_⟩:=h
   rw [hT] at e;cases e
  | some T =>
   obtain ⟨at_y,f,fd,ps,kI,M,binds,hk,F⟩:=c.ok.made j T y hT (of_decide_eq_true hj)
   have mode:a1g X none:=by have:=c.md;rw [hm] at this;exact this
   have st:=hL.st
   have fin:∀ {σ H Q},LE G.toGd W (den G (.mk j es)) σ H Q→b5s (G.mc j) (spD G.toGd T) (WE W) (LA G.toGd W (a0q G es)) σ H Q:=fun {σ H Q} h=>by
    have h:=h.re (t':=fun δ S Y K=>a0q G es δ S Y fun ds S1=>∀ p,S1 p=none→T none (.obj p :: ds) (S1.set p (.ins (G.mc j) [])) (fun d S'=>d=.non∧K (.obj p) S') fun C fs S'=>Y C fs δ S') fun δ S Y K q=>by
     rw [den] at q
     obtain ⟨_,T',e,q⟩:=q
     rw [hT] at e;cases e
     exact q
    refine (a3G (t1:=a0q G es) (t2:=fun ds δ S1 Y K=>∀ p,S1 p=none→T none (.obj p :: ds) (S1.set p (.ins (G.mc j) [])) (fun d S'=>d=.non∧K (.obj p) S') fun C fs S'=>Y C fs δ S') h).then fun vs H1 q x dx fx fd apart=>?_
    obtain ⟨ds,δ,S,Y,K,R,r,q,res,rw'⟩:=q
    have young:upd H1 dx (.own x) x=none:=by rw [upd_ne (Ne.symm apart)];exact fx
    have P1:a0d S H1 S (upd H1 dx (.own x)):=a0d.new fd
    have P:a0d S H1 (S.set x (.ins (G.mc j) [])) (upd (upd H1 dx (.own x)) x (.ins (G.mc j) dx [])):=P1.trans (a0d.newC young)
    have cells:CellsOk G.toGd (S.set x (.ins (G.mc j) [])) (upd (upd H1 dx (.own x)) x (.ins (G.mc j) dx [])):=(R.ce.new fd).newC young ⟨dx,[],upd_same,by simp only [a1X]⟩
    exact ⟨.obj x :: ds,_,_,_,cells,by simp only [a0e];exact ⟨_,_,rfl,by simp only [Rep],r.mono P⟩,q x (R.ce.free fx),fun d S' v H' kk P2 c2 r2=>by
     obtain ⟨rfl,kk⟩:=kk
     exact ⟨a5r r2,res _ S' _ H' kk (P.trans P2) c2 (by simp only [Rep])⟩,fun C fs S' d H' y P2 cc z=>rw' C fs δ S' d σ H' y (P.trans P2) (R.mono (P.trans P2) cc) z⟩
   cases xs with
   | nil =>
    have hes:=hL.nl rfl
    refine PE.imp (b7V M F (c.rm.mono hk) mode (c.gl hg) at_y hd binds (fun σ=>L2N.passAt c.tk σ)) fun σ H Q h=>?_
    obtain ⟨δ,S,Y,K,R,ht,res,_⟩:=fin h
    rw [hes,a0q] at ht
    exact res [] S [] H ht (a0d.refl _ _) R.ce (by simp only [a0e])
   | cons z zs =>
    rw [List.all_cons,zak] at st
    exact PE.imp (pe_mk M F (c.rm.mono hk) mode (c.gl hg) at_y hd binds (fun σ=>L2N.passAt c.tk σ) (hL.a X G W k c) (a0f st.1) (a0Y st.2)) fun σ H Q h=>fin h
 ·refine a0L fun δ S Y K h=>?_
  rw [den] at h
  exact hm h.1
theorem c2Z {x:Expr} (ha:PE X x (LE G.toGd W (den G a))):PE X x (LE G.toGd W (den G (.lck a))) :=
 PE.imp (pe_lock ha) fun σ H Q h=>by
  obtain ⟨δ,S,Y,K,R,ht,res,rw'⟩:=h
  rw [den] at ht
  obtain ⟨d,kvs,at_d,ht⟩:=ht
  obtain ⟨ws,here,all⟩:=R.ce d _ at_d
  refine ⟨d,_,here,trivial,fun od=>?_⟩
  have P:a0d S H (S.set d (.loc kvs)) (upd H d (.frz od (.dK ws))):=a0d.write at_d
  refine ⟨δ,_,Y,_,R.mono P (R.ce.lock at_d here all),ht,fun x S1 v H1 kk P1 c1 r1=>⟨(PostW.unlock at_d P1).2,?_⟩,rw'.mono P⟩
  exact res _ _ v _ kk (a0d.unlock at_d P1) (CellsOk.unlock at_d all P1 c1) (r1.monoW (.write (PostW.unlock at_d P1).1))
theorem c6r {x:Expr} (ha:PE X x (LE G.toGd W (den G a))):PE X x (LE G.toGd W (den G (.fz a))) :=
 PE.imp ha fun σ H Q h=>by
  obtain ⟨δ,S,Y,K,R,ht,res,rw'⟩:=h
  rw [den] at ht
  refine ⟨δ,S,Y,_,R,ht,fun d S1 v H1 kk P c r=>?_,rw'⟩
  obtain ⟨p,rfl,⟨ds,at_p,q⟩ | ⟨ds,at_p,q⟩⟩:=kk
  ·cases a0r r
   exact res _ _ _ _ q (P.trans (a0d.freeze at_p)) (c.freeze at_p) (Rep.freeze c at_p)
  ·cases a0r r
   exact res _ _ _ _ q (P.trans (a0d.freeze at_p)) (c.freeze at_p) (Rep.freezeK c at_p)
theorem c2Q {i:Nat} {x:Expr} (ha:PE X x (LE G.toGd W (den G a))):PE X x (LE G.toGd W (den G (.fzt i a))) :=
 PE.imp ha fun σ H Q h=>by
  obtain ⟨δ,S,Y,K,R,ht,res,rw'⟩:=h
  rw [den] at ht
  refine ⟨δ,S,Y,_,R,ht,fun d S1 v H1 kk P c r=>?_,rw'⟩
  obtain ⟨ds,p,l,rfl,at_i,at_p,q⟩:=kk
  refine res _ _ _ _ q (P.trans (a0d.freeze at_p)) (c.freeze at_p) ?_
  have r1:=r.mono (a0d.freeze at_p)
  simp only [Rep] at r1 ⊢
  obtain ⟨T,vs,rfl,at_T,all⟩:=r1
  refine ⟨T,vs,rfl,at_T,?_⟩
  obtain ⟨w,hw,rw2⟩:=all.get at_i
  cases a0r rw2
  have:=all.set (i:=i) (Rep.freeze c at_p)
  have e:vs.set i (V.ref p)=vs:=by
   apply List.ext_getElem?
   intro j
   by_cases e:i=j
   ·subst e;rw [List.getElem?_set_self (List.getElem?_eq_some_iff.mp hw).1,hw]
   ·rw [List.getElem?_set_ne e]
  rw [e] at this
  exact this
theorem c3c {x y:Str} {p p2 cp:Pos} (c:XC n X G W k sc) (ex:x=("sorted" : Str)) (hg:glB sc x=true) (ey:y=("set" : Str)) (hg2:glB sc y=true) (hn:a0s l=true) (ha:PE X l (LE G.toGd W (den G a))) :
  PE X (.Call (.Name x p) [.Call (.Name y p2) [l] [] cp] [] pos) (LE G.toGd W (den G (.ofi a))):=by
 subst ex ey
 by_cases hm:G.m0=none
 ·have calm:X.calm=true:=by have:=c.md;rw [hm] at this;exact this.2
  refine PE.imp (b7W calm (c.gl hg) (c.ok.bt _ (by decide +kernel)) (c.gl hg2) (c.ok.bt _ (by decide +kernel)) ha (a0f hn)) fun σ H Q h=>?_
  have h:=h.re (t':=fun δ S Y K=>den G a δ S Y fun x S1=>∃ zs:List Int,vw S1 x=.lst (zs.map D.int)∧zs.length < 64∧∀ ns:List Int,ns.Pairwise (· < ·)→(∀ k,k∈ns↔k∈zs)→K (.lst (ns.map D.int)) S1) fun δ S Y K q=>by
   rw [den] at q
   exact q.2
  refine (a0w (t1:=den G a) (t2:=fun x δ S1 Y K=>∃ zs:List Int,vw S1 x=.lst (zs.map D.int)∧zs.length < 64∧∀ ns:List Int,ns.Pairwise (· < ·)→(∀ k,k∈ns↔k∈zs)→K (.lst (ns.map D.int)) S1) h).then fun v H1 q=>?_
  obtain ⟨x,δ,S,Y,K,R,r,⟨zs,seen,few,q⟩,res,_⟩:=q
  obtain ⟨d,ws,rfl,seq,all⟩:=a0j R.ce r seen
  rw [c.ok.K] at seq
  cases a3W zs all
  exact ⟨d,zs,rfl,seq,few,fun ns q' hs hm free=>res.outL (cell:=false) (q ns hs hm) R.ce (a5R _) free⟩
 ·refine a0L fun δ S Y K h=>?_
  rw [den] at h
  exact hm h.1
theorem c3d {srt:Bool} {x y:Str} {p p2 cp:Pos} (c:XC n X G W k sc) (ex:x=b7N srt) (hg:glB sc x=true) (ey:y=("set" : Str)) (hg2:glB sc y=true) (hn:a0s l=true) (ha:PE X l (LE G.toGd W (den G a))) :
  PE X (.Call (.Name x p) [.Call (.Name y p2) [l] [] cp] [] pos) (LE G.toGd W (den G (.ofs srt a))):=by
 subst ex ey
 by_cases hm:G.m0=none
 ·have calm:X.calm=true:=by have:=c.md;rw [hm] at this;exact this.2
  refine PE.imp (b7X calm (c.gl hg) (c.ok.bt _ (by cases srt <;> decide +kernel)) (c.gl hg2) (c.ok.bt _ (by decide +kernel)) ha (a0f hn)) fun σ H Q h=>?_
  have h:=h.re (t':=fun δ S Y K=>den G a δ S Y fun x S1=>∃ zs:List Str,vw S1 x=.lst (zs.map D.str)∧(zs.length < 64∨((uniq zs).length < 64∧zs.length < 1000))∧if srt=true then ∃ cell,outL cell ((a1e (uniq zs)).map D.str) S1 K else K (.int ((uniq zs).length:Nat)) S1) fun δ S Y K q=>by
   rw [den] at q
   exact q.2
  refine (a0w (t1:=den G a) (t2:=fun x δ S1 Y K=>∃ zs:List Str,vw S1 x=.lst (zs.map D.str)∧(zs.length < 64∨((uniq zs).length < 64∧zs.length < 1000))∧if srt=true then ∃ cell,outL cell ((a1e (uniq zs)).map D.str) S1 K else K (.int ((uniq zs).length:Nat)) S1) h).then fun v H1 q=>?_
  obtain ⟨x,δ,S,Y,K,R,r,⟨zs,seen,few,q⟩,res,_⟩:=q
  obtain ⟨d,ws,rfl,seq,all⟩:=a0j R.ce r seen
  rw [c.ok.K] at seq
  cases a1I zs all
  refine ⟨d,zs,rfl,seq,few,?_⟩
  cases srt with
  | true =>
   obtain ⟨cell,q⟩:=q
   exact fun q' free=>res.outL (cell:=cell) q R.ce (a2F _) free
  | false=>exact res.int q R.ce
 ·refine a0L fun δ S Y K h=>?_
  rw [den] at h
  exact hm h.1
theorem c3v {cell:Bool} {x m:Str} {p cp ap:Pos} (c:XC n X G W k sc) (ex:x=("list" : Str)) (hg:glB sc x=true) (em:m=("values" : Str)) (hs:a8V l=true) (hl:(ap.endLine == cp.line)=true) (ha:PE X l (LE G.toGd W (den G a))) :
  PE X (.Call (.Name x p) [.Call (.Attribute l m ap) [] [] cp] [] pos) (LE G.toGd W (den G (.vls cell a))):=by
 subst ex em
 by_cases hm:G.m0=none
 ·have calm:X.calm=true:=by have:=c.md;rw [hm] at this;exact this.2
  refine PE.imp (b46 calm ha (c.gl hg) (c.ok.bt _ (by decide +kernel)) (a2V hs) hl) fun σ H Q h=>?_
  have h:=h.re (t':=fun δ S Y K=>den G a δ S Y fun x S1=>∃ p kvs,x=.obj p∧S1 p=some (.dic kvs)∧outL cell (kvs.map (·.2)) S1 K) fun δ S Y K q=>by
   rw [den] at q
   exact q.2
  refine (a0w (t1:=den G a) (t2:=fun x δ S1 Y K=>∃ p kvs,x=.obj p∧S1 p=some (.dic kvs)∧outL cell (kvs.map (·.2)) S1 K) h).then fun v H1 q=>?_
  obtain ⟨x,δ,S,Y,K,R,r,⟨d,kvs,rfl,at_d,q⟩,res,_⟩:=q
  cases a0r r
  obtain ⟨ws,here,all⟩:=R.ce d _ at_d
  exact ⟨d,ws,rfl,here,fun q' free=>res.outL q R.ce (b0L all) free⟩
 ·refine a0L fun δ S Y K h=>?_
  rw [den] at h
  exact hm h.1
theorem c3f {cell:Bool} {kk:Nat} {p1 p2 p3:Pos} (c:XC n X G W k sc) (ha:PE X l (LE G.toGd W (den G a))):PE X (.Subscript l (.Slice none none (some (.UnaryOp .USub (.Constant (.int 1) kk p1) p2)) p3) pos) (LE G.toGd W (den G (.rev cell a))) :=
 PE.imp (pe_revL ha) fun σ H Q h=>by
  rw [den] at h
  refine (a0w (t1:=den G a) (t2:=fun x δ S1 Y K=>∃ ds,vw S1 x=.lst ds∧outL cell ds.reverse S1 K) h).then fun v H1 q=>?_
  obtain ⟨x,δ,S,Y,K,R,r,⟨ds,seen,q⟩,res,_⟩:=q
  obtain ⟨p,vs,rfl,seq,all⟩:=a0j R.ce r seen
  rw [c.ok.K] at seq
  exact ⟨p,vs,rfl,seq,fun q' free=>res.outL q R.ce all.reverse free⟩
theorem c3g {j kk:Nat} {lo:Option Expr} {p2 p3:Pos} (c:XC n X G W k sc) (hlo:loE j lo=true) (ha:PE X l (LE G.toGd W (den G a))):PE X (.Subscript l (.Slice lo none (some (.Constant (.int 2) kk p2)) p3) pos) (LE G.toGd W (den G (.sl2 j a))) :=
 PE.imp (b7U ha hlo) fun σ H Q h=>by
  rw [den] at h
  refine (a0w (t1:=den G a) (t2:=fun x δ S1 Y K=>∃ ds,vw S1 x=.lst ds∧K (.lst (ev2 j ds)) S1) h).then fun v H1 q=>?_
  obtain ⟨x,δ,S,Y,K,R,r,⟨ds,seen,q⟩,res,_⟩:=q
  obtain ⟨p,vs,rfl,seq,all⟩:=a0j R.ce r seen
  rw [c.ok.K] at seq
  exact ⟨p,vs,rfl,seq,fun q' free=>res.lst q R.ce (b2v all j) free⟩
def c6f (g:Gd) (p:Addr) (kvs:List (Key × D)):R2:=fun v u H Q=>∃ y S K,CellsOk g S H∧v=.ref p∧Rep g S H y u∧(∃ z d,y=.str z∧valD kvs (.inr z)=some d∧K d S)∧Res g S H K Q
theorem b4s {g:Gd} {p:Addr} {kvs:List (Key × D)} (hK:g.K=X.K) (T:b51 X.K X.w p kvs):IxR X (c6f g p kvs):=by
 intro value slice pins s σ H v1 v2 u1 u2 Q I r1 r2 h hs
 obtain ⟨y,S,K,hc,rfl,ry,⟨z,d,rfl,e,k⟩,res⟩:=h
 cases a0u ry
 obtain ⟨es,n,D,at_⟩:=T
 have h:=at_ z
 rw [e] at h
 obtain ⟨u,v,e1,e2,e3⟩:=h
 have eg:(⟨X.K⟩:Gd)=g:=by cases g;cases hK;rfl
 rw [eg] at e3
 exact ix_kdict value slice pins s σ H _ _ _ _ Q I r1 r2 ⟨p,z,v,rfl,rfl,⟨es,n,u,D.at_,D.lit,e1,e2⟩,res.val k hc (e3 S H)⟩ hs
def c6g (g:Gd) (p:Addr) (kvs:List (Key × D)) (neg:Bool):R2:=fun u v H Q=>∃ y S K,CellsOk g S H∧v=.ref p∧Rep g S H y u∧(∃ z,y=.str z∧K (.bl (neg ^^ (valD kvs (.inr z)).isSome)) S)∧Res g S H K Q
theorem a9P {g:Gd} {p:Addr} {kvs:List (Key × D)} (T:b51 X.K X.w p kvs):∀ neg:Bool,OpR X (compareOp (if neg=true then CmpOp.NotIn else CmpOp.In)) (c6g g p kvs neg):=by
 intro neg pins s σ H u1 v1 u2 v2 Q I r1 r2 h
 obtain ⟨y,S,K,hc,rfl,ry,⟨z,rfl,k⟩,res⟩:=h
 cases a0u ry
 obtain ⟨es,n,D,at_⟩:=T
 have h:=at_ z
 have key:∃ r,PySem.W.nsIn X.K p z=some r∧r.isSome=(valD kvs (.inr z)).isSome:=by
  cases e:valD kvs (.inr z) with
  | none=>rw [e] at h;exact ⟨none,h,rfl⟩
  | some d =>
   rw [e] at h
   obtain ⟨u,v,e1,_⟩:=h
   exact ⟨some u,e1,rfl⟩
 obtain ⟨r,e,er⟩:=key
 rw [← er] at k
 cases neg with
 | false =>
  rw [Bool.false_xor] at k
  exact op_in_kd D pins s σ H _ _ _ _ Q I r1 r2 ⟨z,r,rfl,rfl,e,res.bl k hc⟩
 | true =>
  rw [Bool.true_xor] at k
  exact op_notIn_kd D pins s σ H _ _ _ _ Q I r1 r2 ⟨z,r,rfl,rfl,e,res.bl k hc⟩
theorem c2X {j:Nat} {y:Str} {p1:Pos} (c:XC n X G W k sc) (hn:nmB n.gvs j y=true) (hg:glB sc y=true) (hs:a2t r=true) (ha:PE X r (LE G.toGd W (den G a))):PE X (.Subscript (.Name y p1) r pos) (LE G.toGd W (den G (.kix j a))):=by
 cases e:G.kd j with
 | none =>
  refine ⟨fun pins s σ H Q I h=>?_⟩
  obtain ⟨δ,S,Y,K,R,ht,_⟩:=h
  rw [den] at ht
  obtain ⟨_,e',_⟩:=ht
  rw [e] at e'
  cases e'
 | some kvs =>
  obtain ⟨p,h1,T⟩:=c.ok.kd j y kvs (a0A hn).1 e
  refine PE.imp (pe_ix (b4s c.ok.K T) (pe_glob (v:=.ref p) (c.gl hg) h1 rfl (a0A hn).2.1) ha (a6e hs)) fun σ H Q h=>?_
  obtain ⟨δ,S,Y,K,R,ht,res,rw'⟩:=h
  rw [den] at ht
  obtain ⟨kvs',e',q⟩:=ht
  rw [e] at e'
  cases e'
  exact ⟨δ,S,Y,_,R,q,fun x S1 v1 H1 kk P cc r=>⟨x,S1,K,cc,rfl,r,kk,res.mono P⟩,rw'⟩
theorem c2V {neg:Bool} {j:Nat} {y:Str} {p1:Pos} (c:XC n X G W k sc) (hn:nmB n.gvs j y=true) (hg:glB sc y=true) (ha:PE X l (LE G.toGd W (den G a))):PE X (.Compare l [if neg=true then CmpOp.NotIn else CmpOp.In] [.Name y p1] pos) (LE G.toGd W (den G (.kin neg j a))):=by
 cases e:G.kd j with
 | none =>
  refine ⟨fun pins s σ H Q I h=>?_⟩
  obtain ⟨δ,S,Y,K,R,ht,_⟩:=h
  rw [den] at ht
  obtain ⟨_,e',_⟩:=ht
  rw [e] at e'
  cases e'
 | some kvs =>
  obtain ⟨p,h1,T⟩:=c.ok.kd j y kvs (a0A hn).1 e
  refine PE.imp (pe_cmpR (a9P (g:=G.toGd) T neg) ha (pe_glob (v:=.ref p) (c.gl hg) h1 rfl (a0A hn).2.1) (a1T (e:=.Name y p1) rfl _)) fun σ H Q h=>?_
  obtain ⟨δ,S,Y,K,R,ht,res,rw'⟩:=h
  rw [den] at ht
  obtain ⟨kvs',e',q⟩:=ht
  rw [e] at e'
  cases e'
  exact ⟨δ,S,Y,_,R,q,fun x S1 v1 H1 kk P cc r=>⟨x,S1,K,cc,rfl,r,kk,res.mono P⟩,rw'⟩
theorem b8g {neg:Bool} {j:Nat} {y:Str} {p1:Pos} (c:XC n X G W k sc) (hn:nmB n.gvs j y=true) (hg:glB sc y=true) (ha:PE X l (LE G.toGd W (den G a))):PT X (.Compare l [if neg=true then CmpOp.NotIn else CmpOp.In] [.Name y p1] pos) (LT G.toGd W (a0o G (.kin neg j a))):=by
 cases e:G.kd j with
 | none =>
  refine ⟨fun pins s σ H Q I h=>?_⟩
  obtain ⟨δ,S,Y,K,R,ht,_⟩:=h
  rw [a0o] at ht
  obtain ⟨_,e',_⟩:=ht
  rw [e] at e'
  cases e'
 | some kvs =>
  obtain ⟨p,h1,T⟩:=c.ok.kd j y kvs (a0A hn).1 e
  refine PT.imp (pt_cmpR (a9P (g:=G.toGd) T neg) ha (pe_glob (v:=.ref p) (c.gl hg) h1 rfl (a0A hn).2.1) (a1T (e:=.Name y p1) rfl _)) fun σ H Q h=>?_
  rw [a0o] at h
  have h:=b4E (t:=fun δ S Y K=>∃ kvs,G.kd j=some kvs∧den G a δ S Y fun x S1=>∃ z,x=.str z∧K (.bl (neg ^^ (valD kvs (.inr z)).isSome)) S1) h
  obtain ⟨δ,S,Y,K,R,⟨kvs',e',q⟩,res,rw'⟩:=h
  rw [e] at e'
  cases e'
  exact ⟨δ,S,Y,_,R,q,fun x S1 v1 H1 kk P cc r=>⟨x,S1,K,cc,rfl,r,kk,res.mono P⟩,rw'⟩
end
end Sv
namespace Sv
open PySem PySem.Spec PyProof.Rows L2
open L2H (RoomH)
section
variable {g:Gd} {S1:SS} {H1:Hp}
theorem b1O {d:D} {v:V} {ds:List D} {a:Addr} (e:v=.ref a) (r:Rep g S1 H1 d v):a80 g S1 H1 (Itl g.K a) ds fun S'=>vw S' d=.lst ds:=by
 subst e
 have get:∀ {S H},a0d S1 H1 S H→CellsOk g S H→vw S d=.lst ds→∃ vs,SqL g.K H a vs∧a0e g S H ds vs:=fun {S H} P c ok=>by
  obtain ⟨p,vs,e,hl,hr⟩:=a0j c (r.mono P) ok
  cases e
  exact ⟨vs,hl,hr⟩
 refine ⟨fun i S H hi P c ok=>?_,fun i S H x H' d' hd P c ok y=>?_,fun i S H hi P c ok=>?_⟩
 ·obtain ⟨vs,hl,hr⟩:=get P c ok
  have:=hr.length
  exact ⟨vs,vs[i]'(by omega),hl,by simp⟩
 ·obtain ⟨vs,hl,hr⟩:=get P c ok
  obtain ⟨e,y⟩:=y
  subst e
  obtain ⟨w,hw,rw'⟩:=hr.get hd
  have:=y vs hl
  rw [hw] at this
  cases this
  exact ⟨a0d.refl _ _,c,rw'⟩
 ·obtain ⟨vs,hl,hr⟩:=get P c ok
  exact ⟨vs,hl,by rw [← hr.length];exact hi⟩
theorem b1Q {d:D} {v:V} {ds:List D} {a:Addr} (e:v=.ref a) (r:Rep g S1 H1 d v) (ed:vw S1 d=.tup ds):a80 g S1 H1 (Itt g.K a) ds fun S'=>True:=by
 subst e
 have ed':=a7o ed
 subst ed'
 have get:∀ {S H},a0d S1 H1 S H→∃ vs,SqT g.K H a vs∧a0e g S H ds vs:=fun {S H} P=>by
  obtain ⟨p,vs,e,hl,hr⟩:=a0B (S:=S) (d:=.tup ds) (r.mono P) rfl
  cases e
  exact ⟨vs,hl,hr⟩
 refine ⟨fun i S H hi P c ok=>?_,fun i S H x H' d' hd P c ok y=>?_,fun i S H hi P c ok=>?_⟩
 ·obtain ⟨vs,hl,hr⟩:=get P
  have:=hr.length
  exact ⟨vs,vs[i]'(by omega),hl,by simp⟩
 ·obtain ⟨vs,hl,hr⟩:=get P
  obtain ⟨e,y⟩:=y
  subst e
  obtain ⟨w,hw,rw'⟩:=hr.get hd
  have:=y vs hl
  rw [hw] at this
  cases this
  exact ⟨a0d.refl _ _,c,rw'⟩
 ·obtain ⟨vs,hl,hr⟩:=get P
  exact ⟨vs,hl,by rw [← hr.length];exact hi⟩
theorem a0F {lo:Int} {n:Nat}:(a4o lo n).length=n:=by simp [a4o]
theorem b5g {lo:Int} {n i:Nat} {d:D} (h:(a4o lo n)[i]?=some d):i < n∧d=.int (lo + (i:Int)):=by
 unfold a4o at h
 rw [zbh] at h
 cases e:(List.range n)[i]? with
 | none=>rw [e] at h;cases h
 | some j =>
  rw [e] at h
  cases h
  obtain ⟨h1,h2⟩:=List.getElem?_eq_some_iff.mp e
  rw [List.getElem_range] at h2
  subst h2
  exact ⟨by simpa using h1,rfl⟩
theorem a7K {lo:Int} {n:Nat}:a80 g S1 H1 (Itr lo n) (a4o lo n) fun S'=>True:=by
 refine ⟨fun i S H hi P c ok=>?_,fun i S H x H' d' hd P c ok y=>?_,fun i S H hi P c ok=>?_⟩
 ·rw [a0F] at hi;exact hi
 ·obtain ⟨e,y⟩:=y
  subst e y
  obtain ⟨_,rfl⟩:=b5g hd
  exact ⟨a0d.refl _ _,c,by simp only [Rep]⟩
 ·rw [a0F] at hi;exact hi
theorem b1P {z:Str}:a80 g S1 H1 (Its z) (a0U z) fun S'=>True:=by
 have len:(a0U z).length=z.cps.size:=by unfold a0U;rw [zag,Array.length_toList]
 refine ⟨fun i S H hi P c ok=>?_,fun i S H x H' d' hd P c ok y=>?_,fun i S H hi P c ok=>?_⟩
 ·rw [len] at hi;exact hi
 ·obtain ⟨rfl,code,at_i,rfl⟩:=y
  unfold a0U at hd
  rw [zbh,Array.getElem?_toList,at_i] at hd
  cases hd
  exact ⟨a0d.refl _ _,c,by simp only [Rep]⟩
 ·rw [len] at hi;exact hi
theorem a2l {ds:List D}:(a1F ds).length=ds.length:=by unfold a1F;rw [zag,List.length_zipIdx]
theorem a5c {ds:List D} {i:Nat} {d:D} (h:(a1F ds)[i]?=some d):∃ e,ds[i]?=some e∧d=.tup [.int (i:Nat),e]:=by
 unfold a1F at h
 rw [zbh,List.getElem?_zipIdx] at h
 cases q:ds[i]? with
 | none=>rw [q] at h;cases h
 | some e=>rw [q] at h;cases h;exact ⟨e,rfl,by simp⟩
theorem a3p {S:SS} {H:Hp} {T:Addr} {d e:D} {v u:V} (c:CellsOk g S H) (free:H T=none) (r1:Rep g S H d v) (r2:Rep g S H e u):a0d S H S (upd H T (.tup [v,u]))∧CellsOk g S (upd H T (.tup [v,u]))∧Rep g S (upd H T (.tup [v,u])) (.tup [d,e]) (.ref T):=by
 have P:a0d S H S (upd H T (.tup [v,u])):=a0d.new free
 refine ⟨P,c.new free,?_⟩
 simp only [Rep,a0e]
 exact ⟨T,_,rfl,.inl ⟨c.free free,upd_same⟩,v,_,rfl,r1.mono P,u,_,rfl,r2.mono P,rfl⟩
theorem a9T {d:D} {v:V} {ds:List D} {a:Addr} (e:v=.ref a) (r:Rep g S1 H1 d v):a80 g S1 H1 (Ite g.K a) (a1F ds) fun S'=>vw S' d=.lst ds:=by
 subst e
 have get:∀ {S H},a0d S1 H1 S H→CellsOk g S H→vw S d=.lst ds→∃ vs,SqL g.K H a vs∧a0e g S H ds vs:=fun {S H} P c ok=>by
  obtain ⟨p,vs,e,hl,hr⟩:=a0j c (r.mono P) ok
  cases e
  exact ⟨vs,hl,hr⟩
 refine ⟨fun i S H hi P c ok=>?_,fun i S H x H' d' hd P c ok y=>?_,fun i S H hi P c ok=>?_⟩
 ·obtain ⟨vs,hl,hr⟩:=get P c ok
  have same:=hr.length
  rw [a2l] at hi
  exact ⟨vs,vs[i]'(by omega),hl,by simp⟩
 ·obtain ⟨vs,hl,hr⟩:=get P c ok
  obtain ⟨T,x0,rfl,free,rfl,at_i⟩:=y
  obtain ⟨e0,he,rfl⟩:=a5c hd
  obtain ⟨w,hw,rw'⟩:=hr.get he
  have:=at_i vs hl
  rw [hw] at this
  cases this
  exact a3p c free (by simp only [Rep]) rw'
 ·obtain ⟨vs,hl,hr⟩:=get P c ok
  rw [a2l] at hi
  exact ⟨vs,hl,by rw [← hr.length];exact hi⟩
theorem a2K:∀ {xs ys:List D},(a02 xs ys).length=min xs.length ys.length
 | [],_=>by simp [a02]
 | _ :: _,[]=>by simp [a02]
 | _ :: xs,_ :: ys=>by simp only [a02,zaz,a2K (xs:=xs) (ys:=ys)];omega
theorem a5z:∀ {xs ys:List D} {i:Nat} {d:D},(a02 xs ys)[i]?=some d→∃ x y,xs[i]?=some x∧ys[i]?=some y∧d=.tup [x,y]
 | [],_,_,_,h=>by simp [a02] at h
 | _ :: _,[],_,_,h=>by simp [a02] at h
 | x :: xs,y :: ys,0,d,h=>by
  simp only [a02,List.getElem?_cons_zero,Option.some.injEq] at h
  exact ⟨x,y,rfl,rfl,h.symm⟩
 | x :: xs,y :: ys,i + 1,d,h=>by
  simp only [a02,List.getElem?_cons_succ] at h ⊢
  exact a5z h
theorem a3b {t:Bool} {S:SS} {H:Hp} {xs:List D} {a:Addr} (c:CellsOk g S H) (r:Rep g S H (sqv t xs) (.ref a)):∃ vs,SqB g.K t H a vs∧a0e g S H xs vs:=by
 cases t
 ·obtain ⟨p,vs,e,hl,hr⟩:=a0j (S:=S) (d:=.lst xs) c r rfl
  cases e
  exact ⟨vs,hl,hr⟩
 ·obtain ⟨p,vs,e,hl,hr⟩:=a0B (S:=S) (d:=.tup xs) r rfl
  cases e
  exact ⟨vs,hl,hr⟩
theorem b3A {t:Bool} {S:SS} {H:Hp} {xs:List D} {v:V} (c:CellsOk g S H) (r:Rep g S H (sqv t xs) v):∃ a,v=.ref a:=by
 cases t
 ·obtain ⟨p,vs,e,_⟩:=a0j (S:=S) (d:=.lst xs) c r rfl
  exact ⟨p,e⟩
 ·obtain ⟨p,vs,e,_⟩:=a0B (S:=S) (d:=.tup xs) r rfl
  exact ⟨p,e⟩
theorem b1R {t1 t2:Bool} {xs ys:List D} {a b:Addr} (r1:Rep g S1 H1 (sqv t1 xs) (.ref a)) (r2:Rep g S1 H1 (sqv t2 ys) (.ref b)):a80 g S1 H1 (c0a g.K t1 a t2 b) (a02 xs ys) fun _=>True:=by
 refine ⟨fun i S H hi P c ok=>?_,fun i S H x H' d' hd P c ok y=>?_,fun i S H hi P c ok=>?_⟩
 ·obtain ⟨vs,hl,hr⟩:=a3b c (r1.mono P)
  obtain ⟨us,hl2,hr2⟩:=a3b c (r2.mono P)
  have l1:=hr.length
  have l2:=hr2.length
  rw [a2K] at hi
  exact ⟨vs,us,vs[i]'(by omega),us[i]'(by omega),hl,hl2,by simp,by simp⟩
 ·obtain ⟨vs,hl,hr⟩:=a3b c (r1.mono P)
  obtain ⟨us,hl2,hr2⟩:=a3b c (r2.mono P)
  obtain ⟨T,x0,y0,rfl,free,rfl,at1,at2⟩:=y
  obtain ⟨e1,e2,h1,h2,rfl⟩:=a5z hd
  obtain ⟨w1,hw1,q1⟩:=hr.get h1
  obtain ⟨w2,hw2,q2⟩:=hr2.get h2
  have k1:=at1 vs hl
  rw [hw1] at k1
  cases k1
  have k2:=at2 us hl2
  rw [hw2] at k2
  cases k2
  exact a3p c free q1 q2
 ·obtain ⟨vs,hl,hr⟩:=a3b c (r1.mono P)
  obtain ⟨us,hl2,hr2⟩:=a3b c (r2.mono P)
  have l1:=hr.length
  have l2:=hr2.length
  rw [a2K] at hi
  exact ⟨vs,us,hl,hl2,by omega⟩
theorem a8z {v:V} {ds:List D} {a:Addr} (e:v=.ref a) (r:Rep g S1 H1 (.tup ds) v):a80 g S1 H1 (b99 g.K a) (a1F ds) fun _=>True:=by
 subst e
 have get:∀ {S H},a0d S1 H1 S H→∃ vs,SqT g.K H a vs∧a0e g S H ds vs:=fun {S H} P=>by
  obtain ⟨p,vs,e,hl,hr⟩:=a0B (S:=S) (d:=.tup ds) (r.mono P) rfl
  cases e
  exact ⟨vs,hl,hr⟩
 refine ⟨fun i S H hi P c ok=>?_,fun i S H x H' d' hd P c ok y=>?_,fun i S H hi P c ok=>?_⟩
 ·obtain ⟨vs,hl,hr⟩:=get P
  have same:=hr.length
  rw [a2l] at hi
  exact ⟨vs,vs[i]'(by omega),hl,by simp⟩
 ·obtain ⟨vs,hl,hr⟩:=get P
  obtain ⟨T,x0,rfl,free,rfl,at_i⟩:=y
  obtain ⟨e0,he,rfl⟩:=a5c hd
  obtain ⟨w,hw,rw'⟩:=hr.get he
  have:=at_i vs hl
  rw [hw] at this
  cases this
  exact a3p c free (by simp only [Rep]) rw'
 ·obtain ⟨vs,hl,hr⟩:=get P
  rw [a2l] at hi
  exact ⟨vs,hl,by rw [← hr.length];exact hi⟩
theorem a8b {S:SS} {H:Hp} (k:Key):Rep g S H (keyV k) (kV k):=by
 cases k <;> simp only [keyV,kV,Rep]
theorem a5m {S:SS} {H:Hp} {a:Addr} {kvs:List (Key × D)} {ws:List (Key × V)} {o:Obj} (at_a:S1 a=some (.loc kvs)) (here:H1 a=some (.frz o (.dK ws))) (all:a0K g S1 H1 kvs ws) (P:a0d S1 H1 S H):H a=some (.frz o (.dK ws))∧a0K g S H kvs ws :=
 ⟨(P.lk a kvs _ at_a here).2,all.mono P⟩
theorem b0J {S:SS} {H:Hp} {kvs:List (Key × D)} {ws:List (Key × V)} {i:Nat} {p:Key × D} (r:a0K g S H kvs ws) (e:kvs[i]?=some p):∃ w,ws[i]?=some (p.1,w)∧Rep g S H p.2 w:=by
 obtain ⟨q,e2,same,like⟩:=b0F (a0T r) e
 obtain ⟨k,w⟩:=q
 cases same
 exact ⟨w,e2,like⟩
theorem a9U {a:Addr} {kvs:List (Key × D)} {ws:List (Key × V)} {o:Obj} (at_a:S1 a=some (.loc kvs)) (here:H1 a=some (.frz o (.dK ws))) (all:a0K g S1 H1 kvs ws):a80 g S1 H1 (Itk a o ws) (kvs.map fun kv=>keyV kv.1) fun S'=>True:=by
 have same:kvs.length=ws.length:=Paired.length (a0T all)
 refine ⟨fun i S H hi P c ok=>?_,fun i S H x H' d' hd P c ok y=>?_,fun i S H hi P c ok=>?_⟩
 ·rw [zag] at hi
  exact ⟨(a5m at_a here all P).1,by omega⟩
 ·obtain ⟨rfl,k,v,at_i,rfl⟩:=y
  rw [zbh,zam] at hd
  obtain ⟨p,hp,rfl⟩:=hd
  obtain ⟨w,hw,_⟩:=b0J all hp
  rw [at_i] at hw
  cases hw
  exact ⟨a0d.refl _ _,c,a8b _⟩
 ·rw [zag] at hi
  exact ⟨(a5m at_a here all P).1,by omega⟩
theorem a8A {a:Addr} {kvs:List (Key × D)} {ws:List (Key × V)} {o:Obj} (at_a:S1 a=some (.loc kvs)) (here:H1 a=some (.frz o (.dK ws))) (all:a0K g S1 H1 kvs ws):a80 g S1 H1 (Iti a o ws) (kvs.map fun kv=>.tup [keyV kv.1,kv.2]) fun S'=>True:=by
 have same:kvs.length=ws.length:=Paired.length (a0T all)
 refine ⟨fun i S H hi P c ok=>?_,fun i S H x H' d' hd P c ok y=>?_,fun i S H hi P c ok=>?_⟩
 ·rw [zag] at hi
  exact ⟨(a5m at_a here all P).1,by omega⟩
 ·obtain ⟨T,k,v,at_i,rfl,free,rfl⟩:=y
  rw [zbh,zam] at hd
  obtain ⟨p,hp,rfl⟩:=hd
  obtain ⟨w,hw,like⟩:=b0J (all.mono P) hp
  rw [at_i] at hw
  cases hw
  exact a3p c free (a8b _) like
 ·rw [zag] at hi
  exact ⟨(a5m at_a here all P).1,by omega⟩
end
section
variable {n:SN} {X:Cx} {G:Gm} {W:WX} {k:Nat} {sc:Scope} {a b c':RE} {l r t:Expr} {pos:Pos} {es:RL} {xs:List Expr}
theorem b1h {tg:Expr} {g:Gd} {t1:RdE} {t2:D→RdI} {σ:L2.St} {H:Hp} {R:It→Hp→Prop} (h:LI g W (fun δ S Y K=>t1 δ S Y fun x S1=>t2 x δ S1 Y K) σ H R) :
  LE g W t1 σ H fun v H1=>∃ x δ S Y K,Rel g S H1 δ σ∧Rep g S H1 x v∧t2 x δ S Y K∧(∀ ds ok S' H' J,K ds ok S'→a0d S H1 S' H'→CellsOk g S' H'→a80 g S' H' J ds ok→R J H')∧a6z g S H1 Y W:=by
 obtain ⟨δ,S,Y,K,R0,ht,res,rw'⟩:=h
 exact ⟨δ,S,Y,_,R0,ht,fun d S1 v H1 k P c r=>⟨d,δ,S1,Y,K,R0.mono P c,r,k,fun ds ok S' H' J q P2=>res ds ok S' H' J q (P.trans P2),rw'.mono P⟩,rw'⟩
theorem c1u {tg:Expr} (c:XC n X G W k sc) (ha:PE X l (LE G.toGd W (den G a))):PI X tg l (LI G.toGd W (a0R G (.lst a))) :=
 PI.imp (pi_list ha) fun σ H R h=>by
  have h:LI G.toGd W (fun δ S Y K=>den G a δ S Y fun d S1=>∃ ds,vw S1 d=.lst ds∧K ds (fun S'=>vw S' d=.lst ds) S1) σ H R:=by
   obtain ⟨δ,S,Y,K,R,ht,q⟩:=h
   rw [a0R] at ht
   exact ⟨δ,S,Y,K,R,ht,q⟩
  refine (b1h (tg:=tg) (t1:=den G a) (t2:=fun d δ S1 Y K=>∃ ds,vw S1 d=.lst ds∧K ds (fun S'=>vw S' d=.lst ds) S1) h).then fun v H1 q=>?_
  obtain ⟨x,δ,S,Y,K,R,r,⟨ds,e,q⟩,res,_⟩:=q
  obtain ⟨p,vs,rfl,hl,hr⟩:=a0j R.ce r e
  rw [c.ok.K] at hl
  refine ⟨p,rfl,⟨vs,hl⟩,?_⟩
  have:=res ds _ S H1 _ q (a0d.refl _ _) R.ce (b1O rfl r)
  rwa [c.ok.K] at this
theorem c1w {tg:Expr} (c:XC n X G W k sc) (ha:PE X l (LE G.toGd W (den G a))):PI X tg l (LI G.toGd W (a0R G (.tup a))) :=
 PI.imp (pi_tup ha) fun σ H R h=>by
  have h:LI G.toGd W (fun δ S Y K=>den G a δ S Y fun d S1=>∃ ds,vw S1 d=.tup ds∧K ds (fun S'=>True) S1) σ H R:=by
   obtain ⟨δ,S,Y,K,R,ht,q⟩:=h
   rw [a0R] at ht
   exact ⟨δ,S,Y,K,R,ht,q⟩
  refine (b1h (tg:=tg) (t1:=den G a) (t2:=fun d δ S1 Y K=>∃ ds,vw S1 d=.tup ds∧K ds (fun S'=>True) S1) h).then fun v H1 q=>?_
  obtain ⟨x,δ,S,Y,K,R,r,⟨ds,e,q⟩,res,_⟩:=q
  obtain ⟨p,vs,rfl,hl,hr⟩:=a0B r e
  rw [c.ok.K] at hl
  refine ⟨p,rfl,⟨vs,hl⟩,?_⟩
  have:=res ds _ S H1 _ q (a0d.refl _ _) R.ce (b1Q rfl r e)
  rwa [c.ok.K] at this
theorem b7l {tg:Expr} {p:Pos} (c:XC n X G W k sc) (hg:glB sc "range" = true) (hs:a0s l=true) (ha:PE X l (LE G.toGd W (den G a))):PI X tg (.Call (.Name "range" p) [l] [] pos) (LI G.toGd W (a0R G (.rng1 a))) :=
 PI.imp (pi_range1 (c.gl hg) (c.ok.bt _ (by decide +kernel)) (pa_cons ha pa_nil (a0f hs)) (a0f hs)) fun σ H R h=>by
  have h:LI G.toGd W (fun δ S Y K=>den G a δ S Y fun d S1=>∃ j,d=.int j∧-(2 ^ 62)≤j∧j < 2 ^ 62∧K (a4o 0 j.toNat) (fun _=>True) S1) σ H R:=by
   obtain ⟨δ,S,Y,K,R,ht,q⟩:=h
   rw [a0R] at ht
   exact ⟨δ,S,Y,K,R,ht,q⟩
  refine (b1h (tg:=tg) (t1:=den G a) (t2:=fun d δ S1 Y K=>∃ j,d=.int j∧-(2 ^ 62)≤j∧j < 2 ^ 62∧K (a4o 0 j.toNat) (fun _=>True) S1) h).then fun v H1 q=>?_
  obtain ⟨x,δ,S,Y,K,R,r,⟨j,rfl,h1,h2,q⟩,res,_⟩:=q
  cases a0g r
  exact ⟨j,rfl,h1,h2,res _ _ S H1 _ q (a0d.refl _ _) R.ce a7K⟩
theorem b7m {tg:Expr} {p:Pos} (c:XC n X G W k sc) (hg:glB sc "range" = true) (hs:a0s l=true) (hs2:a0s r=true) (ha:PE X l (LE G.toGd W (den G a))) (hb:PE X r (LE G.toGd W (den G b))):PI X tg (.Call (.Name "range" p) [l,r] [] pos) (LI G.toGd W (a0R G (.rng2 a b))) :=
 PI.imp (pi_range2 (c.gl hg) (c.ok.bt _ (by decide +kernel)) (pa_cons ha (pa_cons hb pa_nil (a0f hs2)) (a0f hs)) (by rw [a0f hs,a0f hs2];rfl) (by rw [a0f hs2];rfl)) fun σ H R h=>by
  have h:LI G.toGd W (fun δ S Y K=>den G a δ S Y fun d S1=>den G b δ S1 Y fun d2 S2=>∃ i j,d=.int i∧d2=.int j∧(-(2 ^ 62)≤i∧i < 2 ^ 62∧-(2 ^ 62)≤j∧j < 2 ^ 62)∧K (a4o i (j - i).toNat) (fun _=>True) S2) σ H R:=by
   obtain ⟨δ,S,Y,K,R,ht,q⟩:=h
   rw [a0R] at ht
   exact ⟨δ,S,Y,K,R,ht,q⟩
  refine (b1h (tg:=tg) (t1:=den G a) (t2:=fun d δ S1 Y K=>den G b δ S1 Y fun d2 S2=>∃ i j,d=.int i∧d2=.int j∧(-(2 ^ 62)≤i∧i < 2 ^ 62∧-(2 ^ 62)≤j∧j < 2 ^ 62)∧K (a4o i (j - i).toNat) (fun _=>True) S2) h).then fun v H1 q=>?_
  obtain ⟨x,δ,S,Y,K,R,r,q,res,rw'⟩:=q
  refine ⟨δ,S,Y,_,R,q,fun d S1 v2 H2 kk P cc r2=>?_,rw'⟩
  obtain ⟨i,j,rfl,rfl,hb,q⟩:=kk
  cases a0g r
  cases a0g r2
  exact ⟨i,j,rfl,hb,res _ _ S1 H2 _ q P cc a7K⟩
theorem a98 {g:Gd} {t t':RdI} {σ:L2.St} {H:Hp} {R:It→Hp→Prop} (h:LI g W t σ H R) (w:∀ δ S Y K,t δ S Y K→t' δ S Y K):LI g W t' σ H R:=by
 obtain ⟨δ,S,Y,K,R0,ht,q⟩:=h
 exact ⟨δ,S,Y,K,R0,w _ _ _ _ ht,q⟩
theorem c1v {tg:Expr} (ha:PE X l (LE G.toGd W (den G a))):PI X tg l (LI G.toGd W (a0R G (.str a))) :=
 PI.imp (pi_str ha) fun σ H R h=>by
  refine (b1h (tg:=tg) (t1:=den G a) (t2:=fun d δ S1 Y K=>∃ z,d=.str z∧K (a0U z) (fun _=>True) S1) (a98 h fun δ S Y K q=>by rw [a0R] at q;exact q)).then fun v H1 q=>?_
  obtain ⟨x,δ,S,Y,K,R,r,⟨z,rfl,q⟩,res,_⟩:=q
  exact ⟨z,a0u r,res _ _ S H1 _ q (a0d.refl _ _) R.ce b1P⟩
theorem b7k {tg:Expr} (ha:PE X l (LE G.toGd W (den G a))):PI X tg l (LI G.toGd W (a0R G (.keys a))) :=
 PI.imp (pi_keys ha) fun σ H R h=>by
  refine (b1h (tg:=tg) (t1:=den G a) (t2:=fun d δ S1 Y K=>∃ a kvs,d=.obj a∧S1 a=some (.loc kvs)∧K (kvs.map fun kv=>keyV kv.1) (fun _=>True) S1) (a98 h fun δ S Y K q=>by rw [a0R] at q;exact q)).then fun v H1 q=>?_
  obtain ⟨x,δ,S,Y,K,R,r,⟨d,kvs,rfl,at_d,q⟩,res,_⟩:=q
  cases a0r r
  obtain ⟨ws,o,here,all⟩:=R.ce d _ at_d
  exact ⟨d,o,rfl,.inl ⟨ws,here,res _ _ S H1 _ q (a0d.refl _ _) R.ce (a9U at_d here all)⟩⟩
theorem b4p {elts:List Expr} {kk:Nat} {tpos cp ap:Pos} (hs:a8V l=true) (hl:(ap.endLine == cp.line)=true) (ha:PE X l (LE G.toGd W (den G a))):PI X (.Tuple elts kk tpos) (.Call (.Attribute l "items" ap) [] [] cp) (LI G.toGd W (a0R G (.items a))) :=
 PI.imp (pi_items ha (a2V hs) hl) fun σ H R h=>by
  refine (b1h (tg:=.Tuple elts kk tpos) (t1:=den G a) (t2:=fun d δ S1 Y K=>∃ a kvs,d=.obj a∧S1 a=some (.loc kvs)∧K (kvs.map fun kv=>.tup [keyV kv.1,kv.2]) (fun _=>True) S1) (a98 h fun δ S Y K q=>by rw [a0R] at q;exact q)).then fun v H1 q=>?_
  obtain ⟨x,δ,S,Y,K,R,r,⟨d,kvs,rfl,at_d,q⟩,res,_⟩:=q
  cases a0r r
  obtain ⟨ws,o,here,all⟩:=R.ce d _ at_d
  exact ⟨d,o,ws,rfl,here,res _ _ S H1 _ q (a0d.refl _ _) R.ce (a8A at_d here all)⟩
theorem b7j {elts:List Expr} {kk:Nat} {tpos p:Pos} (c:XC n X G W k sc) (hg:glB sc "enumerate" = true) (hs:a0s l=true) (ha:PE X l (LE G.toGd W (den G a))):PI X (.Tuple elts kk tpos) (.Call (.Name "enumerate" p) [l] [] pos) (LI G.toGd W (a0R G (.enum a))) :=
 PI.imp (pi_enum (c.gl hg) (c.ok.bt _ (by decide +kernel)) (pa_cons ha pa_nil (a0f hs)) (a0f hs)) fun σ H R h=>by
  refine (b1h (tg:=.Tuple elts kk tpos) (t1:=den G a) (t2:=fun d δ S1 Y K=>∃ ds,vw S1 d=.lst ds∧K (a1F ds) (fun S'=>vw S' d=.lst ds) S1) (a98 h fun δ S Y K q=>by rw [a0R] at q;exact q)).then fun v H1 q=>?_
  obtain ⟨x,δ,S,Y,K,R,r,⟨ds,e,q⟩,res,_⟩:=q
  obtain ⟨p,vs,rfl,hl,hr⟩:=a0j R.ce r e
  rw [c.ok.K] at hl
  refine ⟨p,vs,rfl,hl,?_⟩
  have:=res (a1F ds) _ S H1 _ q (a0d.refl _ _) R.ce (a9T rfl r)
  rwa [c.ok.K] at this
theorem b4o {elts:List Expr} {kk:Nat} {tpos p:Pos} (c:XC n X G W k sc) (hg:glB sc "enumerate" = true) (hs:a0s l=true) (ha:PE X l (LE G.toGd W (den G a))):PI X (.Tuple elts kk tpos) (.Call (.Name "enumerate" p) [l] [] pos) (LI G.toGd W (a0R G (.enumt a))) :=
 PI.imp (b2m (c.gl hg) (c.ok.bt _ (by decide +kernel)) (pa_cons ha pa_nil (a0f hs)) (a0f hs)) fun σ H R h=>by
  refine (b1h (tg:=.Tuple elts kk tpos) (t1:=den G a) (t2:=fun d δ S1 Y K=>∃ ds,d=.tup ds∧K (a1F ds) (fun _=>True) S1) (a98 h fun δ S Y K q=>by rw [a0R] at q;exact q)).then fun v H1 q=>?_
  obtain ⟨x,δ,S,Y,K,R,r,⟨ds,rfl,q⟩,res,_⟩:=q
  obtain ⟨p,vs,rfl,hl,hr⟩:=a0B (S:=S) r rfl
  rw [c.ok.K] at hl
  refine ⟨p,vs,rfl,hl,?_⟩
  have:=res (a1F ds) _ S H1 _ q (a0d.refl _ _) R.ce (a8z rfl r)
  rwa [c.ok.K] at this
theorem b7n {elts:List Expr} {kk:Nat} {tpos p:Pos} {t1 t2:Bool} (c:XC n X G W k sc) (hg:glB sc "zip" = true) (hs:a0s l=true) (hs2:a0s r=true) (ha:PE X l (LE G.toGd W (den G a))) (hb:PE X r (LE G.toGd W (den G b))):PI X (.Tuple elts kk tpos) (.Call (.Name "zip" p) [l,r] [] pos) (LI G.toGd W (a0R G (.zip t1 t2 a b))) :=
 PI.imp (b47 t1 t2 (c.gl hg) (c.ok.bt _ (by decide +kernel)) (pa_cons ha (pa_cons hb pa_nil (a0f hs2)) (a0f hs)) (a0f hs) (by rw [a0f hs2];rfl)) fun σ H R h=>by
  have h:LI G.toGd W (fun δ S Y K=>den G a δ S Y fun d S1=>den G b δ S1 Y fun d2 S2=>∃ xs ys,d=sqv t1 xs∧d2=sqv t2 ys∧K (a02 xs ys) (fun _=>True) S2) σ H R:=by
   obtain ⟨δ,S,Y,K,R,ht,q⟩:=h
   rw [a0R] at ht
   exact ⟨δ,S,Y,K,R,ht,q⟩
  refine (b1h (tg:=.Tuple elts kk tpos) (t1:=den G a) (t2:=fun d δ S1 Y K=>den G b δ S1 Y fun d2 S2=>∃ xs ys,d=sqv t1 xs∧d2=sqv t2 ys∧K (a02 xs ys) (fun _=>True) S2) h).then fun v H1 q=>?_
  obtain ⟨x,δ,S,Y,K,R,r,q,res,rw'⟩:=q
  refine ⟨δ,S,Y,_,R,q,fun d S1 v2 H2 kk P cc r2=>?_,rw'⟩
  obtain ⟨xs,ys,rfl,rfl,q⟩:=kk
  have r:=r.mono P
  obtain ⟨a1,rfl⟩:=b3A cc r
  obtain ⟨a2,rfl⟩:=b3A cc r2
  obtain ⟨vs,hl,_⟩:=a3b cc r
  obtain ⟨us,hl2,_⟩:=a3b cc r2
  rw [c.ok.K] at hl hl2
  refine ⟨a1,a2,vs,us,rfl,hl,hl2,?_⟩
  have:=res _ _ S1 H2 _ q P cc (b1R r r2)
  rwa [c.ok.K] at this
def b5Z (n:SN) (sc:Scope) (ps:RQ) (ks:List (Option Expr)) (vs:List Expr):Prop:=ks.all (·.isSome)=true∧ks.length=vs.length∧(ks=[]→ps=.nil) ∧
 ∀ X G W k pos,XC n X G W k sc→∃ trs,PPs X pos ks vs trs∧∀ σ H (Q:List (V × V)→Hp→Prop),(∃ δ S Y K,Rel G.toGd S H δ σ∧a6D G ps δ S Y K∧(∀ xs S' ys H',K xs S'→a0d S H S' H'→CellsOk G.toGd S' H'→Paired (fun (x:D × D) (y:V × V)=>Rep G.toGd S' H' x.1 y.1∧Rep G.toGd S' H' x.2 y.2) xs ys→Q ys H')∧a6z G.toGd S H Y W)→tPairs trs σ H Q
theorem b2y:b5Z n sc .nil [] []:=⟨rfl,rfl,fun _=>rfl,fun X G W k pos c=>⟨[],pps_nil,fun σ H Q ⟨δ,S,Y,K,R,ht,res,_⟩=>by
 rw [a6D] at ht
 exact res [] S [] H ht (a0d.refl _ _) R.ce .nil⟩⟩
theorem b0R {kx vx:RE} {ps:RQ} {x y:Expr} {ks:List (Option Expr)} {vs:List Expr} (hk:b3O n sc kx x) (hv:b3O n sc vx y) (hr:b5Z n sc ps ks vs):b5Z n sc (.cons kx vx ps) (some x :: ks) (y :: vs):=by
 obtain ⟨h1,h2,_,h3⟩:=hr
 refine ⟨by rw [List.all_cons,h1];rfl,by rw [zaz,zaz,h2],(fun z=>nomatch z),fun X G W k pos c=>?_⟩
 obtain ⟨trs,rule,reads⟩:=h3 X G W k pos c
 refine ⟨_,pps_cons (hk.v X G W k c) (hv.v X G W k c) rule,fun σ H Q ⟨δ,S,Y,K,R,ht,res,rw'⟩=>?_⟩
 rw [a6D] at ht
 refine ⟨δ,S,Y,_,R,ht,fun d S1 v H1 kk P c1 r1=>⟨δ,S1,Y,_,R.mono P c1,kk,fun e S2 u H2 kk P2 c2 r2=>reads σ H2 _ ⟨δ,S2,Y,_,(R.mono P c1).mono P2 c2,kk,fun xs S3 ys H3 kk P3 c3 all=>?_,(rw'.mono P).mono P2⟩,rw'.mono P⟩,rw'⟩
 exact res _ S3 _ H3 kk ((P.trans P2).trans P3) c3 (.cons ⟨(r1.mono P2).mono P3,r2.mono P3⟩ all)
theorem a9Z {g:Gd} {S:SS} {H:Hp} {xs:List (D × D)} {ys:List (V × V)} (all:Paired (fun (x:D × D) (y:V × V)=>Rep g S H x.1 y.1∧Rep g S H x.2 y.2) xs ys):∀ {kvs:List (Key × D)},a9Y xs=some kvs→∃ ws:List (Key × V),ys=ws.map (fun kv=>(kV kv.1,kv.2))∧a0K g S H kvs ws:=by
 induction all with
 | nil =>
  intro kvs h
  cases h
  exact ⟨[],rfl,by simp only [a0K]⟩
 | @cons x y l m r _ ih =>
  intro kvs h
  obtain ⟨k,v⟩:=x
  obtain ⟨a,b⟩:=y
  simp only [a9Y] at h
  split at h
  ·rename_i key q e1 e2
   cases h
   obtain ⟨ws,rfl,more⟩:=ih e2
   have e:=a01 e1 r.1
   cases e
   exact ⟨(key,b) :: ws,rfl,by simp only [a0K];exact ⟨b,ws,rfl,r.2,more⟩⟩
  ·cases h
theorem c2P {cell:Bool} {ps:RQ} {ks:List (Option Expr)} {vs:List Expr} (c:XC n X G W k sc) (few:ks.length≤15) (hp:b5Z n sc ps ks vs):PE X (.Dict ks vs pos) (LE G.toGd W (den G (.dct cell ps))):=by
 obtain ⟨h1,h2,h3,h4⟩:=hp
 obtain ⟨trs,rule,reads⟩:=h4 X G W k pos c
 by_cases none_:ks=[]
 ·have ep:=h3 none_
  subst none_
  cases vs with
  | cons _ _=>cases h2
  | nil =>
   refine PE.imp pe_dnewK fun σ H Q h=>?_
   obtain ⟨δ,S,Y,K,R,ht,res,rw'⟩:=h
   rw [den,ep] at ht
   intro p free
   have ht:=ht p (R.ce.free free)
   rw [a6D] at ht
   obtain ⟨_,kvs,e,_,q⟩:=ht
   cases e
   cases cell with
   | true=>exact res _ _ _ _ (show K (.obj p) (S.set p (.dic [])) from by have q:K (.obj p) ((S.set p (.dic [])).set p (.dic [])):=q;rwa [zac] at q) (a0d.newC free) (R.ce.newC free ⟨[],upd_same,by simp only [a0K]⟩) (by simp only [Rep])
   | false =>
    have q:K (.dic []) ((S.set p (.dic [])).del p):=q
    rw [zaf (R.ce.free free)] at q
    exact res.dic q R.ce (by simp only [a0K]) free
 ·refine PE.imp (pe_disp rule h1 h2 none_ few) fun σ H Q h=>?_
  obtain ⟨δ,S,Y,K,R,ht,res,rw'⟩:=h
  rw [den] at ht
  intro p free
  have P0:a0d S H (S.set p (.dic [])) (upd H p (.dK [])):=a0d.newC free
  have C0:CellsOk G.toGd (S.set p (.dic [])) (upd H p (.dK [])):=R.ce.newC free ⟨[],upd_same,by simp only [a0K]⟩
  refine reads σ _ _ ⟨δ,_,Y,_,R.mono P0 C0,ht p (R.ce.free free),fun xs S2 ys H2 kk P2 c2 all=>?_,rw'.mono P0⟩
  obtain ⟨at_p,kvs,e,small,q⟩:=kk
  obtain ⟨ws0,here,nothing⟩:=c2 p _ at_p
  simp only [a0K] at nothing
  subst nothing
  obtain ⟨ws,rfl,more⟩:=a9Z all e
  have made:a0K G.toGd S2 H2 (a0O [] kvs) (mergeK [] ws):=a3L more (by simp only [a0K])
  have same:kvs.length=ws.length:=Paired.length (a0T more)
  have P3:a0d S2 H2 (S2.set p (.dic (a0O [] kvs))) (upd H2 p (.dK (mergeK [] ws))):=a0d.write at_p
  have C3:CellsOk G.toGd (S2.set p (.dic (a0O [] kvs))) (upd H2 p (.dK (mergeK [] ws))):=c2.write at_p ⟨_,upd_same,made.mono P3⟩
  refine ⟨here,ws,rfl,by rw [← same];exact small,?_⟩
  cases cell with
  | true=>exact res _ _ _ _ q ((P0.trans P2).trans P3) C3 (by simp only [Rep])
  | false =>
   have q:K (.dic (a0O [] kvs)) (S2.del p):=q
   rw [← SS.set_del (x:=.dic (a0O [] kvs))] at q
   exact res _ _ _ _ q (((P0.trans P2).trans P3).trans (a0d.freeze zab)) (C3.freeze zab) (Rep.freezeK C3 zab)
theorem a8l {g:Gd} {S:SS} {H:Hp} {δ:DS} {σ:L2.St} (h:a6y g S H δ σ):∀ vs:List Nat,a6y g S H (a7p δ vs) (wipe σ vs)
 | []=>h
 | v :: vs=>(a8l h vs).setN
theorem a8m {σ:L2.St} {i:Nat} {x:Option V}:∀ {vs:List Nat},i∈vs→wipe (σ.set i x) vs=wipe σ vs
 | v :: vs,h=>by
  unfold wipe
  by_cases e:i=v
  ·subst e
   have key:∀ (ws:List Nat),(wipe (σ.set i x) ws).set i none=(wipe σ ws).set i none:=by
    intro ws
    induction ws with
    | nil=>show (σ.set i x).set i none=σ.set i none;rw [List.set_set]
    | cons w ws ih =>
     unfold wipe
     by_cases ew:w=i
     ·subst ew;rw [List.set_set,List.set_set];exact ih
     ·rw [List.set_comm _ _ (Ne.symm (Ne.symm ew)),ih,List.set_comm _ _ ew]
   exact key vs
  ·rcases zau.mp h with h | h
   ·exact absurd h e
   ·rw [a8m h]
theorem b09 {σ:L2.St}:∀ vs:List Nat,wipe (wipe σ vs) vs=wipe σ vs:=by
 intro vs
 apply List.ext_getElem?
 intro i
 by_cases h:i∈vs
 ·have key:∀ (ws:List Nat) (τ:L2.St),i∈ws→(wipe τ ws)[i]?=if i < τ.length then some none else none:=by
   intro ws
   induction ws with
   | nil=>intro τ h;cases h
   | cons w ws ih =>
    intro τ h
    unfold wipe
    by_cases e:w=i
    ·subst e
     rw [List.getElem?_set]
     simp [wipe_length]
    ·rw [List.getElem?_set_ne e]
     exact ih τ (by rcases zau.mp h with h | h;exact absurd h.symm e;exact h)
  rw [key vs _ h,key vs _ h,wipe_length]
 ·rw [wipe_out h]
def gTg (K:zbj) (tg:List Nat) (one:Bool):TG:=if one=true then (match tg with
 | [i]=>gName i
 | _=>fun _ _ _ _=>False) else gTup K tg.length (a5N tg)
theorem b0B (c:XC n X G W k sc) {tg:List Nat} {one:Bool} {x:Expr} (hc:one=false→X.calm=true) (h:a0Z n sc tg one x=true):PG X x (gTg X.K tg one):=by
 cases one with
 | true =>
  unfold a0Z at h
  rw [if_pos rfl] at h
  split at h
  ·rw [zak] at h
   exact pg_name c.nd (c.at h.1) (c.loc h.2) (c.sto h.2)
  ·cases h
 | false =>
  unfold a0Z at h
  rw [if_neg zbe] at h
  split at h
  ·obtain ⟨h1,h2,h3⟩:=a3S c _ _ h
   exact pg_tup (hc rfl) h1 h2 h3
  ·cases h
theorem a7Y {g:Gd} {S:SS} {H:Hp} {I:L2.St→Prop}:∀ (is:List Nat) (ds:List D) (vs:List V) (δ:DS) (σ:L2.St) (Q:L2.St→Hp→Prop),(∀ σ i v,i∈is→I σ→I (σ.set i (some v)))→Rel g S H δ σ→I σ→a0e g S H ds vs→ds.length=is.length →
  (∀ σ',Rel g S H (a3Z δ is ds) σ'→I σ'→Q σ' H)→a5N is vs σ H Q
 | [],ds,vs,δ,σ,Q,hI,R,i0,r,l,h=>by
  cases ds with
  | nil=>simp only [a0e] at r;subst r;exact ⟨rfl,h σ R i0⟩
  | cons _ _=>cases l
 | i :: is,ds,vs,δ,σ,Q,hI,R,i0,r,l,h=>by
  cases ds with
  | nil=>cases l
  | cons d ds =>
   simp only [a0e] at r
   obtain ⟨v,q,rfl,a,b⟩:=r
   exact ⟨v,q,rfl,a7Y is ds q _ _ Q (fun σ j w hj=>hI σ j w (zao _ hj)) ⟨R.sl.set a,R.ce⟩ (hI _ _ _ zal i0) b (by simpa using l) h⟩
theorem a7I {g:Gd} {S:SS} {H:Hp} {I:L2.St→Prop} {tg:List Nat} {one:Bool} {d:D} {v:V} {δ:DS} {σ:L2.St} {K:DS→SS→Prop} {Q:L2.St→Hp→Prop} (hI:∀ σ i v,i∈tg→I σ→I (σ.set i (some v))) (hd:a1E tg one d δ S K) (r:Rep g S H d v) (R:Rel g S H δ σ) (i0:I σ)
  (h:∀ δ' σ',K δ' S→Rel g S H δ' σ'→I σ'→Q σ' H):gTg g.K tg one v σ H Q:=by
 cases one with
 | true =>
  unfold a1E at hd
  rw [if_pos rfl] at hd
  unfold gTg
  rw [if_pos rfl]
  split at hd
  ·exact h _ _ hd ⟨R.sl.set r,R.ce⟩ (hI _ _ _ zal i0)
  ·exact hd.elim
 | false =>
  unfold a1E at hd
  rw [if_neg zbe] at hd
  unfold gTg
  rw [if_neg zbe]
  obtain ⟨ds,e,l,hk⟩:=hd
  obtain ⟨p,vs,rfl,hl,hr⟩:=a0B r e
  exact ⟨p,vs,rfl,hl,by rw [← hr.length];exact l,a7Y tg ds vs δ σ Q hI R i0 hr l fun σ' R' i'=>h _ _ hk R' i'⟩
theorem b7w {cell:Bool} {elt:RE} {cnd:RO} {tg:List Nat} {one:Bool} {it:RI} {own:List (Str × Nat)} (hK:G.K=X.K) (htg:(tg.all fun i=>decide (i∈own.map (·.2)))=true) {σ:L2.St} {H:Hp} {Q:VK} (h:LE G.toGd W (den G (.lc cell elt tg one it cnd own)) σ H Q) :
  tLc (LI G.toGd W (a0R G it)) (gTg X.K tg one) (LT G.toGd noW (a6C G cnd)) (LE G.toGd noW (den G elt)) (own.map (·.2)) σ H Q:=by
 rw [den] at h
 obtain ⟨δ,S,Y,K,R,⟨_,ht⟩,res,rw'⟩:=h
 refine ⟨δ,S,Y,_,R,ht,fun ds ok S1 H1 J hk P1 c1 io L hL=>?_,rw'⟩
 obtain ⟨Iv,i0,hok,step,last⟩:=hk L (c1.free hL)
 have PL:a0d S1 H1 (S1.set L (.lst [])) (upd H1 L (.lst [])):=a0d.newC hL
 have cL:CellsOk G.toGd (S1.set L (.lst [])) (upd H1 L (.lst [])):=c1.newC hL ⟨[],upd_same,by simp only [a0e]⟩
 refine ⟨fun i m H'=>m=ds.length - i∧i≤ds.length∧∃ S',Iv i S'∧a0d S1 H1 S' H'∧CellsOk G.toGd S' H',⟨_,rfl,Nat.zero_le _,_,i0,PL,cL⟩,?_⟩
 rintro i m H' ⟨rfl,hi,S',iv,P',c'⟩
 have ok':=hok i S' iv hi
 by_cases hlt:i < ds.length
 ·refine .inr ⟨io.go i S' H' hlt P' c' ok',fun H''=>i + 1≤ds.length∧∃ S'',Iv (i + 1) S''∧a0d S1 H1 S'' H''∧CellsOk G.toGd S'' H'',fun H'' q=>⟨_,by omega,rfl,q⟩,fun x H2 y=>?_⟩
  obtain ⟨P2,c2,r2⟩:=io.yl i S' H' x H2 ds[i] (by simp) P' c' ok' y
  have P12:=P'.trans P2
  have R2:Rel G.toGd S' H2 (a7p δ (own.map (·.2))) (wipe σ (own.map (·.2))):=⟨a8l (R.sl.mono (P1.trans P12)) _,c2⟩
  have hstep:=step i ds[i] S' (by simp) iv
  rw [← hK]
  refine a7I (I:=fun τ=>wipe τ (own.map (·.2))=wipe σ (own.map (·.2))) (fun τ j w hj e=>?_) hstep r2 R2 (b09 _) fun δ3 σ3 hq R3 e3=>⟨e3,?_⟩
  ·rw [a8m (by simpa using (List.all_eq_true.mp htg) j hj)]
   exact e
  ·refine ⟨δ3,S',noX,_,R3,hq,fun b S4 H4 hb4 P4 c4=>?_,fun _ _ _ _ _ _ _ z=>z.elim⟩
   cases b with
   | true =>
    refine ⟨δ3,S4,noX,_,R3.mono P4 c4,hb4,fun d5 S5 v5 H5 h5 P5 c5 r5=>?_,fun _ _ _ _ _ _ _ z=>z.elim⟩
    obtain ⟨acc,ea,hz,iv5⟩:=h5
    obtain ⟨vs,hL5,rvs⟩:=c5 L _ ea
    have P6:a0d S5 H5 (S5.set L (.lst (acc ++ [d5]))) (upd H5 L (.lst (vs ++ [v5]))):=a0d.write ea
    refine ⟨vs,hL5,by rw [← rvs.length];exact hz,hlt,_,iv5,((P12.trans P4).trans P5).trans P6,c5.write ea ⟨_,upd_same,(rvs.append (show a0e G.toGd S5 H5 [d5] [v5] from by simp only [a0e];exact ⟨v5,[],rfl,r5,rfl⟩)).mono P6⟩⟩
   | false=>exact ⟨hlt,S4,hb4,P12.trans P4,c4⟩
 ·have e:i=ds.length:=by omega
  subst e
  refine .inl ⟨io.st _ S' H' (Nat.le_refl _) P' c' ok',?_⟩
  obtain ⟨acc,ea,hk⟩:=last S' iv
  cases cell with
  | true=>exact res _ S' _ H' hk (P1.trans P') c' (by simp only [Rep])
  | false=>exact res _ (S'.del L) _ H' hk ((P1.trans P').trans (a0d.freeze ea)) (c'.freeze ea) (Rep.freeze c' ea)
theorem b03 {n:SN} {scope:Scope} {tg:List Nat} {one:Bool} {xt:Expr} {it:RI} (h:a0Z n scope tg one xt=true) (h2:(!it.two || !one)=true) (two:it.two=true):∃ elts kk tpos,xt=.Tuple elts kk tpos:=by
 rw [two] at h2
 cases one with
 | true=>cases h2
 | false =>
  unfold a0Z at h
  rw [if_neg zbe] at h
  split at h
  ·exact ⟨_,_,_,rfl⟩
  ·cases h
theorem c6B {cell:Bool} {elt:RE} {cnd:RO} {tg:List Nat} {one:Bool} {it:RI} {own:List (Str × Nat)} {xe xt xi:Expr} {ifs:List Expr} {scope:Scope} (c:XC n X G W k sc) (hb:blkC n.N sc scope own=true) (hsd:a1Z xi=true) (hI:b5Y n sc it xi)
  (htg:(tg.all fun i=>decide (i∈own.map (·.2)))=true) (hct:a0Z n scope tg one xt=true) (h2:(!it.two || !one)=true) (hcnd:∀ X G W k,XC n X G W k scope→PTs X ifs (LT G.toGd W (a6C G cnd))) (he:∀ X G W k,XC n X G W k scope→PE X xe (LE G.toGd W (den G elt))) :
  PE X (.ListComp xe [⟨xt,xi,ifs,0⟩] scope pos) (LE G.toGd W (den G (.lc cell elt tg one it cnd own))):=by
 by_cases hm:G.m0=none
 ·have calm:X.calm=true:=by have:=c.md;rw [hm] at this;exact this.2
  have bo:BlkOk X.N X.env.scope scope own:=by
   have h:=blkOk_by hb
   exact ⟨h.kind,h.uniq,fun p hp=>c.N ▸ h.ix p hp,fun y hy e=>c.sc.fr _ (h.free y hy e),fun y hy e=>c.N ▸ h.own y hy e⟩
  refine PE.imp (pe_lc (wi:=LI G.toGd W (a0R G it)) (g:=gTg X.K tg one) (tt:=LT G.toGd noW (a6C G cnd)) (te:=LE G.toGd noW (den G elt)) calm c.nd (hI X G W k xt c hm (b03 hct h2)) bo (fun s H C cl fp=>b0B (c.blk hm) (fun _=>calm) hct) (fun s H C cl fp=>hcnd _ G noW k (c.blk hm)) (fun s H C cl fp=>he _ G noW k (c.blk hm)) (fun x=>a3o hsd x)) fun σ H Q h=>b7w c.ok.K htg h
 ·refine a0L fun δ S Y K h=>?_
  rw [den] at h
  exact hm h.1
end
end Sv
namespace Sv
open PySem PySem.Spec PyProof.Rows L2
open L2H (RoomH)
variable {n:SN}
theorem b8p {sc:Scope} {x:Expr} {e:RE} (hv:∀ G δ S Y K,¬ den G e δ S Y K) (ht:∀ G δ S Y K,¬ a0o G e δ S Y K):b3O n sc e x :=
 ⟨fun X G W k _=>a0L (hv G),fun X G W k _=>a77 (ht G)⟩
theorem a0v {sc:Scope} {x:Expr} {e:RE} (hp:plainT x=true) (hv:∀ X G W k,XC n X G W k sc→PE X x (LE G.toGd W (den G e))) (ht:∀ G δ S Y K,a0o G e δ S Y K→den G e δ S Y fun d S'=>a1n d S' fun b=>K b S'):b3O n sc e x :=
 ⟨hv,fun X G W k c=>PT.imp (c1V c (hv X G W k c) hp) fun σ H Q h=>h.re fun δ S Y K q=>ht G δ S Y K q⟩
theorem a0i {sc:Scope} {x:Expr} {e:RE} (hv:∀ X G W k,XC n X G W k sc→PE X x (LE G.toGd W (den G e))) (ht:∀ G δ S Y K,¬ a0o G e δ S Y K):b3O n sc e x :=
 ⟨hv,fun X G W k _=>a77 (ht G)⟩
section
variable {sc:Scope} {e f:RE} {es r:RL} {x y:Expr} {xs:List Expr}
theorem b2x:a8Q n sc .nil [] where
 a:=fun X G W k c=>PA.imp pa_nil fun σ H Q h=>by
  obtain ⟨δ,S,Y,K,R,ht,res,_⟩:=h
  rw [a0q] at ht
  exact res [] S [] H ht (a0d.refl _ _) R.ce (by simp only [a0e])
 and:=fun X G W k pos c=>a0L fun δ S Y K h=>by rw [a0S] at h;exact h
 or:=fun X G W k pos c=>a0L fun δ S Y K h=>by rw [a1C] at h;exact h
 tand:=fun X G W k pos c=>a79 fun δ S Y K h=>by rw [a0G] at h;exact h
 tor:=fun X G W k pos c=>a79 fun δ S Y K h=>by rw [a04] at h;exact h
 st:=rfl
 nl:=fun _=>rfl
 ne:=rfl
theorem b0Q (hs:a0s x=true) (he:b3O n sc e x) (hL:a8Q n sc es xs):a8Q n sc (.cons e es) (x :: xs) where
 a:=fun X G W k c=>PA.imp (pa_cons (he.v X G W k c) (hL.a X G W k c) (a0f hs)) fun σ H Q h=>by
  have h':LE G.toGd W (den G e) σ H fun v H1=>LA G.toGd W (a0q G es) σ H1 fun vs H2=>Q (v :: vs) H2:=by
   obtain ⟨δ,S,Y,K,R,ht,res,rw'⟩:=h
   rw [a0q] at ht
   refine ⟨δ,S,Y,_,R,ht,fun d S1 v H1 k P c r=>⟨δ,S1,Y,_,R.mono P c,k,fun ds S2 vs H2 k2 P2 c2 r2=>res (d :: ds) S2 (v :: vs) H2 k2 (P.trans P2) c2 ?_,rw'.mono P⟩,rw'⟩
   simp only [a0e]
   exact ⟨v,vs,rfl,r.mono P2,r2⟩
  exact h'
 and:=fun X G W k pos c=>by
  cases xs with
  | nil =>
   have he':=hL.nl rfl
   subst he'
   exact PE.imp (pe_one (he.v X G W k c)) fun σ H Q h=>h.re fun δ S Y K q=>by rw [a0S] at q;exact q
  | cons z zs =>
   cases es with
   | nil=>exact absurd (hL.ne) (by simp [RL.len])
   | cons f r =>
    refine PE.imp (pe_andT (he.v X G W k c) (hL.and X G W k pos c)) fun σ H Q h=>?_
    have h:=h.re (t':=fun δ S Y K=>den G e δ S Y fun x S1=>a1n x S1 fun k=>if k=true then a0S G (.cons f r) δ S1 Y K else K x S1) fun δ S Y K q=>by rw [a0S] at q;exact q
    refine (a0w (t1:=den G e) (t2:=fun x δ S1 Y K=>a1n x S1 fun k=>if k=true then a0S G (.cons f r) δ S1 Y K else K x S1) h).then fun v H1 q=>?_
    obtain ⟨x,δ,S,Y,K,R,r1,q,res,rw'⟩:=q
    obtain ⟨b,tv,q⟩:=a7j c.ok.K R.ce r1 q
    refine ⟨b,tv,?_⟩
    cases b with
    | true=>exact ⟨δ,S,Y,K,R,q,res,rw'⟩
    | false=>exact res.val q R.ce r1
 or:=fun X G W k pos c=>by
  cases xs with
  | nil =>
   have he':=hL.nl rfl
   subst he'
   exact PE.imp (pe_one (he.v X G W k c)) fun σ H Q h=>h.re fun δ S Y K q=>by rw [a1C] at q;exact q
  | cons z zs =>
   cases es with
   | nil=>exact absurd (hL.ne) (by simp [RL.len])
   | cons f r =>
    refine PE.imp (pe_orT (he.v X G W k c) (hL.or X G W k pos c)) fun σ H Q h=>?_
    have h:=h.re (t':=fun δ S Y K=>den G e δ S Y fun x S1=>a1n x S1 fun k=>if k=true then K x S1 else a1C G (.cons f r) δ S1 Y K) fun δ S Y K q=>by rw [a1C] at q;exact q
    refine (a0w (t1:=den G e) (t2:=fun x δ S1 Y K=>a1n x S1 fun k=>if k=true then K x S1 else a1C G (.cons f r) δ S1 Y K) h).then fun v H1 q=>?_
    obtain ⟨x,δ,S,Y,K,R,r1,q,res,rw'⟩:=q
    obtain ⟨b,tv,q⟩:=a7j c.ok.K R.ce r1 q
    refine ⟨b,tv,?_⟩
    cases b with
    | true=>exact res.val q R.ce r1
    | false=>exact ⟨δ,S,Y,K,R,q,res,rw'⟩
 tand:=fun X G W k pos c=>by
  cases xs with
  | nil =>
   have he':=hL.nl rfl
   subst he'
   exact PW.imp (pw_and1 (he.t X G W k c)) fun σ H Q h=>h.re fun δ S Y K q=>by rw [a0G] at q;exact q
  | cons z zs =>
   cases es with
   | nil=>exact absurd (hL.ne) (by simp [RL.len])
   | cons f r =>
    refine PW.imp (pw_and (he.t X G W k c) (hL.tand X G W k pos c)) fun σ H Q h=>?_
    obtain ⟨δ,S,Y,K,R,ht,res,rw'⟩:=h
    rw [a0G] at ht
    refine ⟨δ,S,Y,_,R,ht,fun b S1 H1 k P c1=>?_,rw'⟩
    cases b with
    | true=>exact ⟨δ,S1,Y,K,R.mono P c1,k,fun b S2 H2 k2 P2=>res b S2 H2 k2 (P.trans P2),rw'.mono P⟩
    | false=>exact res false S1 H1 k P c1
 tor:=fun X G W k pos c=>by
  cases xs with
  | nil =>
   have he':=hL.nl rfl
   subst he'
   exact PW.imp (pw_or1 (he.t X G W k c)) fun σ H Q h=>h.re fun δ S Y K q=>by rw [a04] at q;exact q
  | cons z zs =>
   cases es with
   | nil=>exact absurd (hL.ne) (by simp [RL.len])
   | cons f r =>
    refine PW.imp (pw_or (he.t X G W k c) (hL.tor X G W k pos c)) fun σ H Q h=>?_
    obtain ⟨δ,S,Y,K,R,ht,res,rw'⟩:=h
    rw [a04] at ht
    refine ⟨δ,S,Y,_,R,ht,fun b S1 H1 k P c1=>?_,rw'⟩
    cases b with
    | true=>exact res true S1 H1 k P c1
    | false=>exact ⟨δ,S1,Y,K,R.mono P c1,k,fun b S2 H2 k2 P2=>res b S2 H2 k2 (P.trans P2),rw'.mono P⟩
 st:=by rw [List.all_cons,hs,hL.st];rfl
 nl:=fun h=>nomatch h
 ne:=by simp [RL.len,hL.ne]
end
theorem b1y {H:Hp} {g:Gd} {W:WX} {G:Gm} {c:RC} {v:V} {σ:L2.St} {Q:VK} (hv:∀ S H,Rep g S H c.d v) (h:LE g W (den G (.con c)) σ H Q):Q v H:=by
 obtain ⟨δ,S,Y,K,R,ht,res,_⟩:=h
 rw [den] at ht
 exact res.val ht R.ce (hv _ _)
mutual
theorem sE:∀ (e:RE) (sc:Scope) (x:Expr),chk n sc e x=true→b3O n sc e x
 | .var i,sc,x,h=>by
  unfold chk at h
  split at h
  ·rename_i y p
   rw [zak] at h
   refine a0v rfl (fun X G W k c=>PE.imp (pe_var (c.at h.1) (c.vis h.2) (a0A h.1).2.1 (a0A h.1).2.2) fun σ H Q q=>?_) (fun G δ S Y K q=>by rw [a0o] at q;rw [den];exact q)
   obtain ⟨δ,S,Y,K,R,ht,res,_⟩:=q
   rw [den] at ht
   split at ht
   ·rename_i d e
    obtain ⟨v,e1,r⟩:=R.sl.at_ i d e
    exact ⟨v,e1,res.val ht R.ce r⟩
   ·exact ht.elim
  ·cases h
 | .con c,sc,x,h=>by
  unfold chk at h
  split at h
  ·exact a0v rfl (fun X G W k _=>PE.imp pe_non fun σ H Q q=>b1y (v:=.non) (fun _ _=>by simp only [RC.d,Rep]) q) (fun G δ S Y K q=>by rw [a0o] at q;rw [den];exact q)
  ·have e:=eq_of_beq h
   subst e
   exact a0v rfl (fun X G W k _=>PE.imp pe_bl fun σ H Q q=>b1y (v:=.bl _) (fun _ _=>by simp only [RC.d,Rep]) q) (fun G δ S Y K q=>by rw [a0o] at q;rw [den];exact q)
  ·have e:=of_decide_eq_true h
   subst e
   exact a0v rfl (fun X G W k _=>PE.imp pe_int fun σ H Q q=>b1y (v:=.int _) (fun _ _=>by simp only [RC.d,Rep]) q) (fun G δ S Y K q=>by rw [a0o] at q;rw [den];exact q)
  ·have e:=of_decide_eq_true h
   subst e
   exact a0v rfl (fun X G W k _=>PE.imp pe_str fun σ H Q q=>b1y (v:=.str _) (fun _ _=>by simp only [RC.d,Rep]) q) (fun G δ S Y K q=>by rw [a0o] at q;rw [den];exact q)
  ·cases h
 | .glb j,sc,x,h=>by
  unfold chk at h
  split at h
  ·rename_i y p
   rw [zak] at h
   refine a0v rfl (fun X G W k c=>?_) (fun G δ S Y K q=>by rw [a0o] at q;rw [den];exact q)
   obtain ⟨v,u,h1,h2,h3⟩:=c.ok.gv j _ (a0A h.1).1
   refine PE.imp (pe_glob (c.gl h.2) h1 h2 (a0A h.1).2.1) fun σ H Q q=>?_
   obtain ⟨δ,S,Y,K,R,ht,res,_⟩:=q
   rw [den] at ht
   exact res.val ht R.ce (h3 _ _)
  ·cases h
 | .bin op a b,sc,x,h=>by
  unfold chk at h
  split at h
  ·simp only [zak,zah] at h
   obtain ⟨e,h1,h2⟩:=h
   subst e
   exact a0i (fun X G W k c=>c2e c ((sE a sc _ h1).v X G W k c) ((sE b sc _ h2).v X G W k c)) (fun G δ S Y K q=>by unfold a0o at q;exact q)
  ·cases h
 | .neg a,sc,x,h=>by
  unfold chk at h
  split at h
  ·exact a0i (fun X G W k c=>c26 ((sE a sc _ h).v X G W k c)) (fun G δ S Y K q=>by unfold a0o at q;exact q)
  ·cases h
 | .nt a,sc,x,h=>by
  unfold chk at h
  split at h
  ·exact ⟨fun X G W k c=>c6D c ((sE a sc _ h).v X G W k c),fun X G W k c=>c29 ((sE a sc _ h).t X G W k c)⟩
  ·cases h
 | .and es,sc,x,h=>by
  unfold chk at h
  split at h
  ·have q:=sL es sc _ h
   exact ⟨fun X G W k c=>PE.imp (q.and X G W k _ c) fun σ H Q z=>z.re fun δ S Y K y=>by rw [den] at y;exact y,fun X G W k c=>PT.imp (q.tand X G W k _ c).pt fun σ H Q z=>z.re fun δ S Y K y=>by rw [a0o] at y;exact y⟩
  ·cases h
 | .or es,sc,x,h=>by
  unfold chk at h
  split at h
  ·have q:=sL es sc _ h
   exact ⟨fun X G W k c=>PE.imp (q.or X G W k _ c) fun σ H Q z=>z.re fun δ S Y K y=>by rw [den] at y;exact y,fun X G W k c=>PT.imp (q.tor X G W k _ c).pt fun σ H Q z=>z.re fun δ S Y K y=>by rw [a0o] at y;exact y⟩
  ·cases h
 | .ife t a b,sc,x,h=>by
  unfold chk at h
  split at h
  ·simp only [zak] at h
   obtain ⟨h0,h1,h2⟩:=h
   exact a0i (fun X G W k c=>c2R ((sE t sc _ h0).t X G W k c) ((sE a sc _ h1).v X G W k c) ((sE b sc _ h2).v X G W k c)) (fun G δ S Y K q=>by unfold a0o at q;exact q)
  ·cases h
 | .cmp op a b,sc,x,h=>by
  unfold chk at h
  split at h
  ·simp only [zak,zah] at h
   obtain ⟨⟨e,h0⟩,h1,h2⟩:=h
   subst e
   exact ⟨fun X G W k c=>c2r c h0 ((sE a sc _ h1).v X G W k c) ((sE b sc _ h2).v X G W k c),fun X G W k c=>b8f c h0 ((sE a sc _ h1).v X G W k c) ((sE b sc _ h2).v X G W k c)⟩
  ·cases h
 | .chn o1 o2 a b t,sc,x,h=>by
  unfold chk at h
  split at h
  ·simp only [zak,zah] at h
   obtain ⟨⟨⟨e,e'⟩,h0⟩,h1,h2,h3⟩:=h
   subst e e'
   exact ⟨fun X G W k c=>c2q c h0 ((sE a sc _ h1).v X G W k c) ((sE b sc _ h2).v X G W k c) ((sE t sc _ h3).v X G W k c),fun X G W k c=>b8e c h0 ((sE a sc _ h1).v X G W k c) ((sE b sc _ h2).v X G W k c) ((sE t sc _ h3).v X G W k c)⟩
  ·cases h
 | .lst cell es,sc,x,h=>by
  unfold chk at h
  split at h
  ·exact a0i (fun X G W k c=>c23 ((sL es sc _ h).a X G W k c)) (fun G δ S Y K q=>by unfold a0o at q;exact q)
  ·cases h
 | .tup es,sc,x,h=>by
  unfold chk at h
  split at h
  ·exact a0i (fun X G W k c=>c3u ((sL es sc _ h).a X G W k c)) (fun G δ S Y K q=>by unfold a0o at q;exact q)
  ·cases h
 | .ix a b,sc,x,h=>by
  unfold chk at h
  split at h
  ·simp only [zak] at h
   obtain ⟨h0,h1,h2⟩:=h
   exact a0v rfl (fun X G W k c=>c6x c h0 ((sE a sc _ h1).v X G W k c) ((sE b sc _ h2).v X G W k c)) (fun G δ S Y K q=>by rw [a0o] at q;rw [den];exact q)
  ·cases h
 | .slc a lo hi,sc,x,h=>by
  unfold chk at h
  split at h
  ·simp only [zak] at h
   obtain ⟨h0,h1,h2⟩:=h
   exact a0i (fun X G W k c=>c3h c ((sE a sc _ h0).v X G W k c) (sO lo sc _ h1 X G W k c) (sO hi sc _ h2 X G W k c)) (fun G δ S Y K q=>by unfold a0o at q;exact q)
  ·cases h
 | .sl a lo hi,sc,x,h=>by
  unfold chk at h
  split at h
  ·simp only [zak] at h
   obtain ⟨h0,h1,h2⟩:=h
   exact a0i (fun X G W k c=>c6F c ((sE a sc _ h0).v X G W k c) (sO lo sc _ h1 X G W k c) (sO hi sc _ h2 X G W k c)) (fun G δ S Y K q=>by unfold a0o at q;exact q)
  ·cases h
 | .fld a f,sc,x,h=>by
  unfold chk at h
  split at h
  ·simp only [zak,zah] at h
   obtain ⟨⟨e,h0⟩,h1⟩:=h
   subst e
   exact a0v rfl (fun X G W k c=>PE.imp (b45 c.ok.K c.md.p ((sE a sc _ h1).v X G W k c) (a2V h0)) fun σ H Q z=>z.re fun δ S Y K y=>by rw [den] at y;exact y) (fun G δ S Y K q=>by rw [a0o] at q;rw [den];exact q)
  ·cases h
 | .call j es,sc,x,h=>by
  unfold chk at h
  split at h
  ·simp only [zak] at h
   obtain ⟨⟨h0,h1⟩,h2⟩:=h
   exact a0v rfl (fun X G W k c=>s_call c h0 h1 (sL es sc _ h2)) (fun G δ S Y K q=>by rw [a0o] at q;rw [den];exact q)
  ·cases h
 | .bi b es,sc,x,h=>by
  unfold chk at h
  split at h
  ·simp only [zak,zah] at h
   obtain ⟨⟨⟨e,h0⟩,h1⟩,h2⟩:=h
   subst e
   exact a0v rfl (fun X G W k c=>c6k c h0 (by simpa using h1) (sL es sc _ h2)) (fun G δ S Y K q=>by rw [a0o] at q;rw [den];exact q)
  ·cases h
 | .isi a cn,sc,x,h=>by
  unfold chk at h
  split at h
  ·rw [zak] at h
   obtain ⟨h,hc⟩:=h
   simp only [zak,zah] at h
   obtain ⟨⟨⟨⟨e,h0⟩,h1⟩,h2⟩,h3⟩:=h
   exact a0v rfl (fun X G W k c=>c2T c e h0 h1 h2 ((sE a sc _ h3).v X G W k c) hc) (fun G δ S Y K q=>by rw [a0o] at q;rw [den];exact q)
  ·cases h
 | .ist a js,sc,x,h=>by
  unfold chk at h
  split at h
  ·simp only [zak,zah] at h
   obtain ⟨⟨⟨⟨⟨e,h0⟩,h1⟩,h2⟩,hc⟩,few⟩:=h
   exact a0v rfl (fun X G W k c=>c2U c e h0 h1 ((sE a sc _ h2).v X G W k c) hc few) (fun G δ S Y K q=>by rw [a0o] at q;rw [den];exact q)
  ·cases h
 | .lc cell elt tg one it cnd own,sc,x,h=>by
  unfold chk at h
  split at h
  ·simp only [zak] at h
   obtain ⟨⟨⟨⟨⟨⟨⟨h0,h1⟩,h2⟩,h3⟩,h4⟩,h5⟩,h6⟩,h7⟩:=h
   exact a0i (fun X G W k c=>c6B c h0 h1 (sI it sc _ h2) h3 h4 h7 (fun X G W k c=>sC cnd _ _ h5 X G W k c) (fun X G W k c=>(sE elt _ _ h6).v X G W k c)) (fun G δ S Y K q=>by unfold a0o at q;exact q)
  ·cases h
 | .mth b a es,sc,x,h=>by
  unfold chk at h
  split at h
  ·simp only [zak,zah] at h
   obtain ⟨⟨⟨⟨⟨e,h0⟩,h1⟩,h2⟩,h3⟩,h4⟩:=h
   subst e
   exact a0v rfl (fun X G W k c=>c25 c h0 h1 h2 ((sE a sc _ h3).v X G W k c) (sL es sc _ h4)) (fun G δ S Y K q=>by rw [a0o] at q;rw [den];exact q)
  ·cases h
 | .om j m a es,sc,x,h=>by
  unfold chk at h
  split at h
  ·simp only [zak,zah] at h
   obtain ⟨⟨⟨⟨⟨⟨e,h0⟩,h1⟩,h2⟩,h5⟩,h3⟩,h4⟩:=h
   subst e
   exact a0v rfl (fun X G W k c=>c6E c h0 h1 h2 h5 ((sE a sc _ h3).v X G W k c) (sL es sc _ h4)) (fun G δ S Y K q=>by rw [a0o] at q;rw [den];exact q)
  ·cases h
 | .mk j es,sc,x,h=>by
  unfold chk at h
  split at h
  ·simp only [zak,zah] at h
   obtain ⟨⟨⟨h0,h1⟩,h2⟩,h3⟩:=h
   exact a0i (fun X G W k c=>c6C c h0 h1 h2 (sL es sc _ h3)) (fun G δ S Y K q=>by unfold a0o at q;exact q)
  ·cases h
 | .lck a,sc,x,h=>by
  unfold chk at h
  exact a0i (fun X G W k c=>c2Z ((sE a sc _ h).v X G W k c)) (fun G δ S Y K q=>by unfold a0o at q;exact q)
 | .fz a,sc,x,h=>by
  unfold chk at h
  exact a0i (fun X G W k c=>c6r ((sE a sc _ h).v X G W k c)) (fun G δ S Y K q=>by unfold a0o at q;exact q)
 | .fzt i a,sc,x,h=>by
  unfold chk at h
  exact a0i (fun X G W k c=>c2Q ((sE a sc _ h).v X G W k c)) (fun G δ S Y K q=>by unfold a0o at q;exact q)
 | .ofs srt a,sc,x,h=>by
  unfold chk at h
  split at h
  ·simp only [zak,zah] at h
   obtain ⟨⟨⟨⟨⟨e,h0⟩,e2⟩,h1⟩,h2⟩,h3⟩:=h
   exact a0i (fun X G W k c=>c3d c e h0 e2 h1 h2 ((sE a sc _ h3).v X G W k c)) (fun G δ S Y K q=>by unfold a0o at q;exact q)
  ·cases h
 | .ofi a,sc,x,h=>by
  unfold chk at h
  split at h
  ·simp only [zak,zah] at h
   obtain ⟨⟨⟨⟨⟨e,h0⟩,e2⟩,h1⟩,h2⟩,h3⟩:=h
   exact a0i (fun X G W k c=>c3c c e h0 e2 h1 h2 ((sE a sc _ h3).v X G W k c)) (fun G δ S Y K q=>by unfold a0o at q;exact q)
  ·cases h
 | .vls cell a,sc,x,h=>by
  unfold chk at h
  split at h
  ·simp only [zak,zah] at h
   obtain ⟨⟨⟨⟨⟨e,h0⟩,e2⟩,h1⟩,h2⟩,h3⟩:=h
   exact a0i (fun X G W k c=>c3v c e h0 e2 h1 h2 ((sE a sc _ h3).v X G W k c)) (fun G δ S Y K q=>by unfold a0o at q;exact q)
  ·cases h
 | .rev cell a,sc,x,h=>by
  unfold chk at h
  split at h
  ·exact a0i (fun X G W k c=>c3f c ((sE a sc _ h).v X G W k c)) (fun G δ S Y K q=>by unfold a0o at q;exact q)
  ·cases h
 | .sl2 j a,sc,x,h=>by
  unfold chk at h
  split at h
  ·rw [zak] at h
   exact a0i (fun X G W k c=>c3g c h.1 ((sE a sc _ h.2).v X G W k c)) (fun G δ S Y K q=>by unfold a0o at q;exact q)
  ·cases h
 | .kin neg j a,sc,x,h=>by
  unfold chk at h
  split at h
  ·simp only [zak,zah] at h
   obtain ⟨⟨⟨e,h0⟩,h1⟩,h2⟩:=h
   rw [e]
   exact ⟨fun X G W k c=>c2V c h0 h1 ((sE a sc _ h2).v X G W k c),fun X G W k c=>b8g c h0 h1 ((sE a sc _ h2).v X G W k c)⟩
  ·cases h
 | .adc a b,sc,x,h=>by
  unfold chk at h
  split at h
  ·simp only [zak,zah] at h
   obtain ⟨e,h1,h2⟩:=h
   subst e
   exact a0i (fun X G W k c=>c2c c ((sE a sc _ h1).v X G W k c) ((sE b sc _ h2).v X G W k c)) (fun G δ S Y K q=>by unfold a0o at q;exact q)
  ·cases h
 | .kix j a,sc,x,h=>by
  unfold chk at h
  split at h
  ·simp only [zak] at h
   exact a0i (fun X G W k c=>c2X c h.1.1.1 h.1.1.2 h.1.2 ((sE a sc _ h.2).v X G W k c)) (fun G δ S Y K q=>by unfold a0o at q;exact q)
  ·cases h
 | .dct cell ps,sc,x,h=>by
  unfold chk at h
  split at h
  ·simp only [zak,zah] at h
   exact a0i (fun X G W k c=>c2P c h.1 (sP ps sc _ _ h.2)) (fun G δ S Y K q=>by unfold a0o at q;exact q)
  ·cases h
 | .nev,sc,x,h=>b8p (fun G δ S Y K q=>by rw [den] at q;exact q) (fun G δ S Y K q=>by unfold a0o at q;exact q)
theorem sP:∀ (ps:RQ) (sc:Scope) (ks:List (Option Expr)) (vs:List Expr),b6p n sc ps ks vs=true→b5Z n sc ps ks vs
 | .nil,sc,ks,vs,h=>by
  unfold b6p at h
  rw [zak] at h
  cases ks with
  | cons _ _=>exact nomatch h.1
  | nil =>
   cases vs with
   | cons _ _=>exact nomatch h.2
   | nil=>exact b2y
 | .cons kx vx ps,sc,ks,vs,h=>by
  unfold b6p at h
  split at h
  ·simp only [zak] at h
   obtain ⟨⟨h0,h1⟩,h2⟩:=h
   exact b0R (sE kx sc _ h0) (sE vx sc _ h1) (sP ps sc _ _ h2)
  ·cases h
theorem sL:∀ (es:RL) (sc:Scope) (xs:List Expr),a6B n sc es xs=true→a8Q n sc es xs
 | .nil,sc,xs,h=>by
  unfold a6B at h
  cases xs with
  | nil=>exact b2x
  | cons _ _=>cases h
 | .cons e es,sc,xs,h=>by
  unfold a6B at h
  split at h
  ·simp only [zak] at h
   obtain ⟨h0,h1,h2⟩:=h
   exact b0Q h0 (sE e sc _ h1) (sL es sc _ h2)
  ·cases h
theorem sO:∀ (e:RO) (sc:Scope) (x:Option Expr),b3Z n sc e x=true→∀ X G W k,XC n X G W k sc→PO X x (LO G.toGd W (a2k G e))
 | .nn,sc,x,h=>fun X G W k c=>by
  unfold b3Z at h
  cases x with
  | some _=>cases h
  | none =>
   refine PO.imp po_none fun σ H Q q=>?_
   obtain ⟨δ,S,Y,K,R,ht,res,_⟩:=q
   rw [a2k] at ht
   exact res _ S H ht (a0d.refl _ _) R.ce
 | .ss e,sc,x,h=>fun X G W k c=>by
  unfold b3Z at h
  split at h
  ·refine PO.imp (po_some ((sE e sc _ h).v X G W k c)) fun σ H Q q=>?_
   obtain ⟨δ,S,Y,K,R,ht,res,rw'⟩:=q
   rw [a2k] at ht
   refine ⟨δ,S,Y,_,R,ht,fun d S1 v H1 kk P cc r=>?_,rw'⟩
   obtain ⟨i,rfl,kk⟩:=kk
   exact ⟨i,a0g r,res _ S1 H1 kk P cc⟩
  ·cases h
theorem sC:∀ (e:RO) (sc:Scope) (ifs:List Expr),b6o n sc e ifs=true→∀ X G W k,XC n X G W k sc→PTs X ifs (LT G.toGd W (a6C G e))
 | .nn,sc,ifs,h=>fun X G W k c=>by
  unfold b6o at h
  cases ifs with
  | nil =>
   refine ⟨fun pins s σ H Q I q=>?_⟩
   obtain ⟨δ,S,Y,K,R,ht,res,rw'⟩:=q
   rw [a6C] at ht
   exact pts_nil.run pins s σ H Q I (res true S H ht (a0d.refl _ _) R.ce)
  | cons _ _=>cases h
 | .ss e,sc,ifs,h=>fun X G W k c=>by
  unfold b6o at h
  split at h
  ·rw [show a6C G (.ss e)=a0o G e by rw [a6C]]
   exact pts_one ((sE e sc _ h).t X G W k c)
  ·cases h
theorem sI:∀ (i:RI) (sc:Scope) (x:Expr),a6O n sc i x=true→b5Y n sc i x
 | .lst e,sc,x,h=>by
  unfold a6O at h
  exact fun X G W k tg c hm _=>c1u c ((sE e sc x h).v X G W k c)
 | .tup e,sc,x,h=>by
  unfold a6O at h
  exact fun X G W k tg c hm _=>c1w c ((sE e sc x h).v X G W k c)
 | .rng1 a,sc,x,h=>by
  unfold a6O at h
  split at h
  ·simp only [zak,zah] at h
   obtain ⟨⟨⟨e,h0⟩,h1⟩,h2⟩:=h
   subst e
   exact fun X G W k tg c hm _=>b7l c h0 h1 ((sE a sc _ h2).v X G W k c)
  ·cases h
 | .rng2 a b,sc,x,h=>by
  unfold a6O at h
  split at h
  ·simp only [zak,zah] at h
   obtain ⟨⟨⟨⟨e,h0⟩,h1⟩,h1'⟩,h2,h3⟩:=h
   subst e
   exact fun X G W k tg c hm _=>b7m c h0 h1 h1' ((sE a sc _ h2).v X G W k c) ((sE b sc _ h3).v X G W k c)
  ·cases h
 | .str a,sc,x,h=>by
  unfold a6O at h
  exact fun X G W k tg c hm _=>c1v ((sE a sc x h).v X G W k c)
 | .keys a,sc,x,h=>by
  unfold a6O at h
  exact fun X G W k tg c hm _=>b7k ((sE a sc x h).v X G W k c)
 | .zip t1 t2 a b,sc,x,h=>by
  unfold a6O at h
  split at h
  ·simp only [zak,zah] at h
   obtain ⟨⟨⟨⟨e,h0⟩,h1⟩,h1'⟩,h2,h3⟩:=h
   subst e
   intro X G W k tg c hm two
   obtain ⟨_,_,_,rfl⟩:=two rfl
   exact b7n c h0 h1 h1' ((sE a sc _ h2).v X G W k c) ((sE b sc _ h3).v X G W k c)
  ·cases h
 | .enumt a,sc,x,h=>by
  unfold a6O at h
  split at h
  ·simp only [zak,zah] at h
   obtain ⟨⟨⟨e,h0⟩,h1⟩,h2⟩:=h
   subst e
   intro X G W k tg c hm two
   obtain ⟨_,_,_,rfl⟩:=two rfl
   exact b4o c h0 h1 ((sE a sc _ h2).v X G W k c)
  ·cases h
 | .enum a,sc,x,h=>by
  unfold a6O at h
  split at h
  ·simp only [zak,zah] at h
   obtain ⟨⟨⟨e,h0⟩,h1⟩,h2⟩:=h
   subst e
   intro X G W k tg c hm two
   obtain ⟨_,_,_,rfl⟩:=two rfl
   exact b7j c h0 h1 ((sE a sc _ h2).v X G W k c)
  ·cases h
 | .items a,sc,x,h=>by
  unfold a6O at h
  split at h
  ·simp only [zak,zah] at h
   obtain ⟨⟨⟨e,h0⟩,h1⟩,h2⟩:=h
   subst e
   intro X G W k tg c hm two
   obtain ⟨_,_,_,rfl⟩:=two rfl
   exact b4p h0 h1 ((sE a sc _ h2).v X G W k c)
  ·cases h
end
end Sv
namespace Sv
open PySem PySem.Spec PyProof.Rows L2
open L2H (RoomH)
def a8W (x y z:D) (S:SS) (K:SS→Prop):Prop:=match x with
 | .obj a=>match S a with
  | some (.lst ds)=>∃ i j,y=.int i∧ixN ds.length i=some j∧K (S.set a (.lst (ds.set j z)))
  | some (.dic kvs)=>∃ k,keyD y=some k∧kvs.length < sizeLine∧K (S.set a (.dic (putD kvs k z)))
  | _=>False
 | _=>False
def rD3 (g:Gd) (t:D→D→D→SS→(SS→Prop)→Prop):TSet:=fun o i v H Q=>∃ x y z S K,CellsOk g S H∧Rep g S H x o∧Rep g S H y i∧Rep g S H z v∧t x y z S K∧∀ S' H',K S'→a0d S H S' H'→CellsOk g S' H'→Q H'
section
variable {X:Cx} {g:Gd}
theorem b0M (hu:X.A.units + 1 < cLine):PSet X (rD3 g a8W):=by
 intro pins s σ H o i v ov iv u Q I ro ri rv h
 obtain ⟨x,y,z,S,K,hc,p1,p2,p3,ht,res⟩:=h
 unfold a8W at ht
 split at ht
 ·rename_i a
  cases a0r p1
  split at ht
  ·rename_i ds e
   obtain ⟨k,j,rfl,hj,q⟩:=ht
   cases a0g p2
   obtain ⟨vs,hl,hr⟩:=hc a _ e
   exact set_list pins s σ H _ _ _ ov iv u Q I ro ri rv ⟨a,vs,k,j,rfl,rfl,hl,by rw [← hr.length];exact hj,res _ _ q (a0d.write e) (hc.write e ⟨_,upd_same,(hr.set p3).mono (a0d.write e)⟩)⟩
  ·rename_i kvs e
   obtain ⟨k,ek,hz,q⟩:=ht
   cases a01 ek p2
   obtain ⟨vs,hl,hr⟩:=hc a _ e
   exact set_dict hu pins s σ H _ _ _ ov iv u Q I ro ri rv ⟨a,_,rfl,.inl ⟨vs,k,hl,rfl,by rw [← Paired.length (a0T hr)];exact hz,rfl⟩,res _ _ q (a0d.write e) (hc.write e ⟨_,upd_same,(a7b hr k p3).mono (a0d.write e)⟩)⟩
  ·exact ht.elim
 ·exact ht.elim
theorem b1S {n j:Nat} {k:Int} (h:ixN n k=some j):(0≤k∧k=(j:Int)∨k < 0∧k + (n:Int)=(j:Int))∧j < n:=by
 unfold ixN at h
 split at h
 ·split at h <;> cases h
  omega
 ·split at h <;> cases h
  omega
theorem b0b {pins:List (Addr × Obj)} {σ:L2.St} {H:Hp} {s:Shared} {a:Addr} {vs:List V} {k:Int} {t:Tok} {z:V} {Q:Value→Shared→Prop} (I:Inv X pins σ H s) (at_a:SqL X.K H a vs) (found:atI vs k=some z) {E:Value→Shared→Prop} (done:∀ w,RelV z w→Q w s) :
  wpAny (model X.prog X.w) X.A (getItem (.ref a) (.int k t)) Q E s:=by
 obtain ⟨its,rel,isL,small⟩:=I.list at_a
 obtain ⟨j,place,here⟩:=Option.bind_eq_some_iff.mp found
 obtain ⟨w,at_j,like⟩:=b0F rel here
 have ⟨sign,inside⟩:=b1S place
 have same:its.toArray.size=vs.length:=by rw [List.size_toArray,rel.length]
 have bound:=line63
 have reads:∀ i:Nat,i=j→its.toArray[i]?=some w:=fun i e=>by rw [e,List.getElem?_toArray];exact at_j
 rcases sign with ⟨up,e⟩ | ⟨down,e⟩
 ·exact wpAny_getItem_list isL.isList up (by omega) (reads _ (by omega)) (done w like)
 ·exact wpAny_getItem_list_neg isL.isList down (by omega) (by omega) (reads _ (by omega)) (done w like)
def a6V (x y:D) (S:SS) (K:DK):Prop:=match x with
 | .obj a=>match S a with
  | some (.lst ds)=>∃ i d,y=.int i∧atI ds i=some d∧K d S
  | some (.dic kvs)=>∃ k d,keyD y=some k∧valD kvs k=some d∧K d S
  | _=>False
 | _=>False
theorem b4l (hu:X.A.units + 1 < cLine):PGet X (rD2 g a6V):=by
 intro pins s σ H o i ov iv Q I ro ri h
 obtain ⟨x,y,S,K,hc,p1,p2,ht,res⟩:=h
 unfold a6V at ht
 split at ht
 ·rename_i a
  cases a0r p1
  cases (show ov=Value.ref a from ro)
  split at ht
  ·rename_i ds e
   obtain ⟨k,d,rfl,hd,q⟩:=ht
   cases a0g p2
   obtain ⟨t,rfl⟩:=(show ∃ t,iv=Value.int k t from ri)
   obtain ⟨vs,hl,hr⟩:=hc a _ e
   obtain ⟨z,he,rz⟩:=hr.at hd
   exact b0b I (.inl (.inl hl)) he fun w rw'=>⟨z,H,I,rw',res.val q hc rz⟩
  ·rename_i kvs e
   obtain ⟨k,d,ek,ed,q⟩:=ht
   cases a01 ek p2
   obtain ⟨vs,hl,hr⟩:=hc a _ e
   rcases a1z hr k with ⟨z,_⟩ | ⟨d2,w,z1,z2,rw'⟩
   ·rw [ed] at z;cases z
   ·rw [ed] at z1
    cases z1
    exact d_getItem hu I (.inl ⟨vs,k,.inl hl,rfl,z2.symm⟩) ri fun w' s3 I3 rw2=>⟨w,H,I3,rw2,res.val q hc rw'⟩
  ·exact ht.elim
 ·exact ht.elim
def c0D (x y:D) (S:SS) (K:DK):Prop:=match x,y with
 | .int i,.int j=>K (.int (i + j)) S
 | .str a,.str b=>a.length + b.length≤sizeLine∧K (.str (a ++ b)) S
 | _,_=>False
def c0E (x y:D) (S:SS) (K:DK):Prop:=match x,y with
 | .int i,.int j=>K (.int (i - j)) S
 | _,_=>False
def b3U:Operator→D→D→SS→DK→Prop
 | .Add=>c0D | .Sub=>c0E | _=>fun _ _ _ _=>False
theorem a9i:∀ op:Operator,PIp X op (rD2 g (b3U op)):=by
 intro op pins s σ H v1 v2 u1 u2 Q I r1 r2 h
 obtain ⟨x,y,S,K,hc,p1,p2,ht,res⟩:=h
 cases op with
 | Add =>
  change c0D x y S K at ht
  unfold c0D at ht
  split at ht
  ·cases a0g p1
   cases a0g p2
   exact iop_add pins s σ H _ _ _ _ Q I r1 r2 ⟨_,_,rfl,rfl,res.int ht hc⟩
  ·cases a0u p1
   cases a0u p2
   exact iop_add_str pins s σ H _ _ _ _ Q I r1 r2 ⟨_,_,rfl,rfl,ht.1,res.str ht.2 hc⟩
  ·exact ht.elim
 | Sub =>
  change c0E x y S K at ht
  unfold c0E at ht
  split at ht
  ·cases a0g p1
   cases a0g p2
   exact iop_sub pins s σ H _ _ _ _ Q I r1 r2 ⟨_,_,rfl,rfl,res.int ht hc⟩
  ·exact ht.elim
 | _=>exact False.elim ht
end
def a6i (f:Str) (v:D):List (Str × D)→List (Str × D)
 | []=>[(f,v)]
 | (g,x) :: r=>if g=f then (g,v) :: r else (g,x) :: a6i f v r
theorem a78 {g:Gd} {S:SS} {H:Hp} {f:Str} {d:D} {v:V} (r:Rep g S H d v):∀ {fs:List (Str × D)} {ws:List (Str × V)},a1X g S H fs ws→a1X g S H (a6i f d fs) (putF f v ws)
 | [],_,h=>by
  simp only [a1X] at h
  subst h
  simp only [a6i,putF,a1X]
  exact ⟨v,[],rfl,r,rfl⟩
 | (k,x) :: fs,_,h=>by
  simp only [a1X] at h
  obtain ⟨w,q,rfl,a,b⟩:=h
  unfold a6i putF
  by_cases e:k=f
  ·rw [if_pos e,if_pos e]
   simp only [a1X]
   exact ⟨v,q,rfl,r,b⟩
  ·rw [if_neg e,if_neg e]
   simp only [a1X]
   exact ⟨w,_,rfl,a,a78 r b⟩
theorem c4h {g:Gd} {S:SS} {H:Hp}:∀ {fs:List (Str × D)} {ws:List (Str × V)},a1X g S H fs ws→fs.length=ws.length
 | [],_,h=>by simp only [a1X] at h;subst h;rfl
 | (k,x) :: fs,_,h=>by
  simp only [a1X] at h
  obtain ⟨w,q,rfl,a,b⟩:=h
  rw [zaz,zaz,c4h b]
mutual
inductive RS where
 | exp (e:RE) | asg (tg:List Nat) (one:Bool) (e:RE) | asl (i:Nat) (e:RE)
 | sti (a b c:RE) | stf (a:RE) (f:Str) (c:RE)
 | agv (i:Nat) (op:Operator) (e:RE) | agi (a b:RE) (op:Operator) (e:RE)
 | ifs (c:RE) (a b:RSs) | fr (tg:List Nat) (one:Bool) (it:RI) (b:RSs) | wh (c:RE) (b:RSs)
 | ret (e:RE) | retN | brk | cnt | pas
 | rai (j:Nat) (es:RL) | tra (b:RSs) (j:Nat) (i:Nat) (s:RSs) | tro (b:RSs) (j:Nat) (s:RSs)
 | par (i j:Nat) (es:RL) | tri (i j l:Nat) (es:RL) | lck (s:RS) | asu (tg:List Nat) (e:RE) | frn (j:Nat) (tg:List Nat) (it:RI) (b:RSs) | nev
inductive RSs where
 | nil | cons (s:RS) (r:RSs) | frz (i:Nat) (r:RSs) | cut (s:RS) (r:RSs)
end
inductive XKd where
 | fld (f:Str) | bare
def XKd.ar:XKd→Nat
 | .fld _=>1 | .bare=>0
structure Gs extends Gm where
 xk:Nat→Option XKd
def Gs.suite (G:Gs) (a:Addr) (oe:Obj):Gs:={ G with m0:=some (a,oe) }
def mkX:XKd→List D→Option (List (Str × D))
 | .fld f,[d]=>some [(f,d)]
 | .bare,[]=>some []
 | _,_=>none
def SE.unlock (F:SE) (a:Addr) (kvs:List (Key × D)):SE :=
 { nx:=fun δ S=>F.nx δ (S.set a (.dic kvs)),rt:=fun d S=>F.rt d (S.set a (.dic kvs)),bk:=fun δ S=>F.bk δ (S.set a (.dic kvs)),ct:=fun δ S=>F.ct δ (S.set a (.dic kvs)) }
def c5r (i:Nat) (δ:DS) (S:SS) (K:DS→SS→Prop):Prop:=K δ S∨∃ a,δ[i]?=some (some (.obj a))∧((∃ ds,S a=some (.lst ds)∧K (δ.set i (some (.lst ds))) (S.del a))∨∃ ds,S a=some (.dic ds)∧K (δ.set i (some (.dic ds))) (S.del a))
def b6C (j:Nat) (tg:List Nat) (d:D) (δ:DS) (S:SS) (Q:DS→SS→Prop):Prop:=∃ x y ds,vw S d=.tup [x,y]∧vw S y=.tup ds∧ds.length=tg.length∧Q (a3Z (δ.set j (some x)) tg ds) S
mutual
def a0n (G:Gs):RS→RdS
 | .exp e=>fun δ S Y F=>den G.toGm e δ S Y fun _ S1=>F.nx δ S1
 | .asg tg one e=>fun δ S Y F=>(one=false→G.m0=none)∧den G.toGm e δ S Y fun d S1=>a1E tg one d δ S1 F.nx
 | .asu tg e=>fun δ S Y F=>G.m0=none∧den G.toGm e δ S Y fun d S1=>∃ ds,vw S1 d=.lst ds∧ds.length=tg.length∧F.nx (a3Z δ tg ds) S1
 | .asl i e=>fun δ S Y F=>den G.toGm e δ S Y fun d S1=>F.nx (δ.set i (some d)) S1
 | .sti a b c=>fun δ S Y F=>den G.toGm c δ S Y fun z S1=>den G.toGm a δ S1 Y fun x S2=>den G.toGm b δ S2 Y fun y S3=>a8W x y z S3 fun S4=>F.nx δ S4
 | .stf a f c=>fun δ S Y F=>den G.toGm c δ S Y fun z S1=>den G.toGm a δ S1 Y fun x S2=>∃ p C fs,x=.obj p∧S2 p=some (.ins C fs)∧Cls G.K C∧NoAttr G.K C f∧fs.length < 1000∧F.nx δ (S2.set p (.ins C (a6i f z fs)))
 | .agv i op e=>fun δ S Y F=>∃ x,δ[i]?=some (some x)∧den G.toGm e δ S Y fun y S1=>b3U op x y S1 fun z S2=>F.nx (δ.set i (some z)) S2
 | .agi a b op e=>fun δ S Y F=>den G.toGm a δ S Y fun x S1=>den G.toGm b δ S1 Y fun y S2=>a6V x y S2 fun u S3=>den G.toGm e δ S3 Y fun w S4=>b3U op u w S4 fun z S5=>a8W x y z S5 fun S6=>F.nx δ S6
 | .ifs c a b=>fun δ S Y F=>a0o G.toGm c δ S Y fun k S1=>if k=true then a0c G a δ S1 Y F else a0c G b δ S1 Y F
 | .fr tg one it b=>fun δ S Y F=>G.m0=none∧a0R G.toGm it δ S Y fun ds ok S1=>∃ Iv:Nat→DS→SS→Prop,Iv 0 δ S1∧(∀ i δ' S',Iv i δ' S'→i≤ds.length→ok S') ∧
   (∀ i d δ' S',ds[i]?=some d→Iv i δ' S'→a1E tg one d δ' S' fun δ2 S2=>a0c G b δ2 S2 Y { F with nx:=Iv (i + 1),ct:=Iv (i + 1),bk:=F.nx })∧(∀ δ' S',Iv ds.length δ' S'→F.nx δ' S')
 | .frn j tg it b=>fun δ S Y F=>G.m0=none∧a0R G.toGm it δ S Y fun ds ok S1=>∃ Iv:Nat→DS→SS→Prop,Iv 0 δ S1∧(∀ i δ' S',Iv i δ' S'→i≤ds.length→ok S') ∧
   (∀ i d δ' S',ds[i]?=some d→Iv i δ' S'→b6C j tg d δ' S' fun δ2 S2=>a0c G b δ2 S2 Y { F with nx:=Iv (i + 1),ct:=Iv (i + 1),bk:=F.nx })∧(∀ δ' S',Iv ds.length δ' S'→F.nx δ' S')
 | .wh c b=>fun δ S Y F=>∃ Iv:Nat→DS→SS→Prop,(∃ m,Iv m δ S)∧∀ m δ' S',Iv m δ' S'→a0o G.toGm c δ' S' Y fun k S1 =>
   if k=true then a0c G b δ' S1 Y { F with nx:=fun δ2 S2=>∃ m',m' < m∧Iv m' δ2 S2,ct:=fun δ2 S2=>∃ m',m' < m∧Iv m' δ2 S2,bk:=F.nx } else F.nx δ' S1
 | .ret e=>fun δ S Y F=>den G.toGm e δ S Y F.rt
 | .retN=>fun δ S Y F=>F.rt .non S
 | .brk=>fun δ S Y F=>F.bk δ S
 | .cnt=>fun δ S Y F=>F.ct δ S
 | .pas=>fun δ S Y F=>F.nx δ S
 | .rai j es=>fun δ S Y F=>G.m0=none∧∃ kd,G.xk j=some kd∧es.len=kd.ar∧a0q G.toGm es δ S Y fun ds S1=>∃ fs,mkX kd ds=some fs∧Y (G.cl j) fs δ S1
 | .tra b j i s=>fun δ S Y F=>G.m0=none∧a0c G b δ S (fun C fs δ' S'=>∃ k,PySem.W.exmOne G.K (.ref C) (.ref (G.cl j))=some k ∧
   (k=true→∀ a oe,a0c (G.suite a oe) s (δ'.set i (some (.exc a oe C fs))) S' noX { F with nx:=fun δ2 S2=>F.nx (δ2.set i none) S2,bk:=fun δ2 S2=>F.bk (δ2.set i none) S2,ct:=fun δ2 S2=>F.ct (δ2.set i none) S2 }) ∧
   (k=false→Y C fs δ' S')) F
 | .tro b j s=>fun δ S Y F=>G.m0=none∧a0c G b δ S (fun C fs δ' S'=>∃ k,PySem.W.exmOne G.K (.ref C) (.ref (G.cl j))=some k∧(k=true→∀ a oe,a0c (G.suite a oe) s δ' S' noX F)∧(k=false→Y C fs δ' S')) F
 | .par i j es=>fun δ S Y F=>G.m0=none∧a0q G.toGm es δ S Y fun ds S1=>∃ v w,ds=[v,w]∧F.nx ((δ.set i (some v)).set j (some w)) S1
 | .tri i j l es=>fun δ S Y F=>G.m0=none∧a0q G.toGm es δ S Y fun ds S1=>∃ u v w,ds=[u,v,w]∧F.nx (((δ.set i (some u)).set j (some v)).set l (some w)) S1
 | .lck s=>fun δ S Y F=>∃ a kvs,S a=some (.dic kvs)∧a0n G s δ (S.set a (.loc kvs)) Y (F.unlock a kvs)
 | .nev=>fun _ _ _ _=>False
def a0c (G:Gs):RSs→RdS
 | .nil=>fun δ S Y F=>F.nx δ S
 | .cons s r=>fun δ S Y F=>a0n G s δ S Y { F with nx:=fun δ1 S1=>a0c G r δ1 S1 Y F }
 | .frz i r=>fun δ S Y F=>c5r i δ S fun δ1 S1=>a0c G r δ1 S1 Y F
 | .cut s r=>fun δ S Y F=>∃ J:DS→SS→Prop,a0n G s δ S Y { F with nx:=J }∧∀ δ1 S1,J δ1 S1→a0c G r δ1 S1 Y F
end
def nlc:Expr→Bool
 | .ListComp _ _ _ _=>false | .SetComp _ _ _ _=>false | .DictComp _ _ _ _ _=>false | _=>true
def ntup:Expr→Bool
 | .Tuple _ _ _=>false | _=>true
def a8B (sc:Scope) (x e:Expr):Bool:=nlc e || (match x with
 | .Name y p=>match sc.names.lookup y with
  | some .local=>!(p.line == e.pos.line)
  | _=>true
 | .Tuple _ _ _=>true
 | _=>false)
def a8q (sc:Scope):Expr→Bool
 | .Tuple [.Name y _,.Name z _] _ _=>!(decide (sc.names.lookup y=some .local) && decide (sc.names.lookup z=some .local))
 | .Tuple [.Name y _,.Name z _,.Name x _] _ _=>!(decide (sc.names.lookup y=some .local) && (decide (sc.names.lookup z=some .local) && decide (sc.names.lookup x=some .local)))
 | .Tuple (_ :: _ :: _ :: _ :: _) _ _=>true
 | _=>false
mutual
def a2P (n:SN) (sc:Scope):RS→Stmt→Bool
 | .exp e,x=>match x with
  | .Expr v _=>nlc v && chk n sc e v
  | _=>false
 | .asg tg one e,x=>match x with
  | .Assign [t] v _=>a8B sc t v && (one || ntup v || a8q sc t) && (a0Z n sc tg one t && chk n sc e v)
  | _=>false
 | .asu tg e,x=>match x with
  | .Assign [t] v _=>a8B sc t v && (ntup v || a8q sc t) && (a0Z n sc tg false t && chk n sc e v)
  | _=>false
 | .asl i e,x=>match x with
  | .Assign [.Name y py] (.ListComp xe [⟨xt,xi,ifs,0⟩] scope p) _=>match e with
   | .lc _ elt tg one it c own=>nmB n.N i y && decide (sc.names.lookup y=some .local) && (py.line == p.line) && !(scope.names.any fun (m,k)=>m == y && (k == .local || k == .cell)) &&
     (blkC n.N sc scope own && a1Z xi && a6O n sc it xi && (tg.all fun i=>decide (i∈own.map (·.2))) && a0Z n scope tg one xt && b6o n scope c ifs && chk n scope elt xe && (!it.two || !one))
   | _=>false
  | _=>false
 | .sti a b c,x=>match x with
  | .Assign [.Subscript l r _] v _=>a2t r && (chk n sc a l && (chk n sc b r && chk n sc c v))
  | _=>false
 | .stf a f c,x=>match x with
  | .Assign [.Attribute l f' _] v _=>decide (f'=f) && (chk n sc a l && chk n sc c v)
  | _=>false
 | .agv i op e,x=>match x with
  | .AugAssign (.Name y _) o v _=>nmB n.N i y && a8U sc y && decide (o=op) && chk n sc e v
  | _=>false
 | .agi a b op e,x=>match x with
  | .AugAssign (.Subscript l r _) o v _=>a2t r && decide (o=op) && (chk n sc a l && (chk n sc b r && chk n sc e v))
  | _=>false
 | .ifs c a b,x=>match x with
  | .If t p q _=>chk n sc c t && (a1m n sc a p && a1m n sc b q)
  | _=>false
 | .fr tg one it b,x=>match x with
  | .For t i p [] _=>a1Z i && a0Z n sc tg one t && (!it.two || !one) && (a6O n sc it i && a1m n sc b p)
  | _=>false
 | .frn j tg it b,x=>match x with
  | .For (.Tuple [.Name y _,t2] _ _) i p [] _=>a1Z i && (nmB n.N j y && a8U sc y) && a0Z n sc tg false t2 && (a6O n sc it i && a1m n sc b p)
  | _=>false
 | .wh c b,x=>match x with
  | .While t p [] _=>chk n sc c t && a1m n sc b p
  | _=>false
 | .ret e,x=>match x with
  | .Return (some v) _=>chk n sc e v
  | _=>false
 | .retN,x=>match x with
  | .Return none _=>true
  | _=>false
 | .brk,x=>match x with
  | .Break _=>true
  | _=>false
 | .cnt,x=>match x with
  | .Continue _=>true
  | _=>false
 | .pas,x=>match x with
  | .Pass _=>true
  | .Expr (.Constant (.str _) _ _) _=>true
  | _=>false
 | .rai j es,x=>match x with
  | .Raise (some (.Call (.Name y _) xs [] _)) none _=>nmB n.cls j y && glB sc y && a6B n sc es xs
  | _=>false
 | .tra b j i s,x=>match x with
  | .Try p [.ExceptHandler (some (.Name y _)) (some m) (q :: qs) _] [] [] _=>nmB n.cls j y && glB sc y && nmB n.N i m && decide (sc.names.lookup m=some .local) && (a1m n sc b p && a1m n sc s (q :: qs))
  | _=>false
 | .tro b j s,x=>match x with
  | .Try p [.ExceptHandler (some (.Name y _)) none (q :: qs) _] [] [] _=>nmB n.cls j y && glB sc y && (a1m n sc b p && a1m n sc s (q :: qs))
  | _=>false
 | .par i j es,x=>match x with
  | .Assign [.Tuple [.Name y py,.Name z pz] _ _] (.Tuple [a,b] _ _) _=>nmB n.N i y && nmB n.N j z && decide (i≠j) && decide (sc.names.lookup y=some .local) && decide (sc.names.lookup z=some .local) && (py.line == pz.line) && decide ((y == z)=false) && a0s a && a0s b &&
    !([a,b].all (foldedForSure 8)) && !([a,b].all (constantsAlone 8)) && a6B n sc es [a,b]
  | _=>false
 | .tri i j l es,x=>match x with
  | .Assign [.Tuple [.Name x px,.Name y py,.Name z pz] _ _] (.Tuple [a,b,c] _ _) _=>(nmB n.N i x && nmB n.N j y && nmB n.N l z && decide (i≠j) && decide (i≠l) && decide (j≠l)) && (decide (sc.names.lookup x=some .local) && decide (sc.names.lookup y=some .local) && decide (sc.names.lookup z=some .local)) && ((px.line == py.line) && (px.line == pz.line) && decide ([x,y,z].eraseDups=[x,y,z])) && (a0s a && a0s b && a0s c) &&
    !([a,b,c].all (foldedForSure 8)) && !([a,b,c].all (constantsAlone 8)) && a6B n sc es [a,b,c]
  | _=>false
 | .lck s,x=>a2P n sc s x
 | .nev,_=>true
def a1m (n:SN) (sc:Scope):RSs→List Stmt→Bool
 | .nil,xs=>xs.isEmpty
 | .cons s r,xs=>match xs with
  | x :: xs=>a2P n sc s x && a1m n sc r xs
  | []=>false
 | .frz _ r,xs=>a1m n sc r xs
 | .cut s r,xs=>match xs with
  | x :: xs=>a2P n sc s x && a1m n sc r xs
  | []=>false
end
end Sv
namespace Sv
open PySem PySem.Spec PyProof.Rows L2
open L2H (RoomH)
def spI (C:Addr) (f:Str):SpM:=fun m vs H Q E=>∃ a y,vs=[V.ref a,y]∧H a=some (exo a C none)∧∀ dx,H dx=none→dx≠a→Q .non (upd (upd H dx (exd dx [(f,y)])) a (exo a C (some dx)))
def c62 (C:Addr) (f:Str) (ta:TA):L2.St→Hp→XK→Prop:=fun σ H Q=>ta σ H fun vs H1=>∃ y,vs=[y]∧∀ dx,H1 dx=none→Q (.ref C) (some dx) (upd H1 dx (.xd [(f,y)]))
theorem a6b {A:Around} {C:Addr} {us:List Value} {kw:List (Str × Value)}:(A.under (.builtin "type.__call__" ⟨.ref C :: us,kw⟩)).handled=A.handled:=rfl
theorem b1V {H:Hp} {a d:Addr} {o o' u v:HO} (fresh:H a=none):upd (del (upd (upd (upd H a o) d u) a o') a) d v=upd H d v:=by
 funext b
 simp only [upd,del]
 split
 ·rfl
 ·split
  ·rename_i e;rw [e,fresh]
  ·rfl
section
variable {X:Cx} {C fI:Addr} {x f:Str} {e:Expr} {es:List Expr} {p pos:Pos} {ta:TA}
theorem a8x {H:Hp} {a:Addr} {y:V} {Q:XK} (fresh:H a=none) (want:∀ d,H d=none→Q (.ref C) (some d) (upd H d (.xd [(f,y)]))) :
  spI C f none [.ref a,y] (upd H a (exo a C none)) (fun v H2=>v=.non∧∃ d fs,H2 a=some (exo a C (some d))∧H2 d=some (exd d fs)∧H d=none∧Q (.ref C) (some d) (upd (del H2 a) d (.xd fs))) fun _ _ _=>False:=by
 refine ⟨a,y,rfl,upd_same,fun d free apart=>?_⟩
 have free':H d=none:=by simpa only [upd,if_neg apart] using free
 refine ⟨rfl,d,[(f,y)],upd_same,?_,free',?_⟩
 ·simp only [upd,if_neg apart,if_true]
 ·rw [b1V fresh]
  exact want d free'
theorem b48 {kI:Nat} {fd:FuncData} {ps:List Str} (T:OexC X.K C) (own:PySem.W.findIn X.K (.ref C) "__init__" = some (some (.ref fI))) (isFn:PySem.W.typeIn X.K (.ref fI)=some (.type "function")) (F:FnG X.prog X.w X.K X.mg X.base false kI fI fd ps (spI C f))
  (room:RoomH (kI + 1) X.A) (md:a1g X none) (binds:L2.Binds X.K fd ps []) (gl:Gl X x) (at_x:X.mg x=some (.ref C)) (args:PA X (e :: es) ta) (db:(x == ("__debug__" : Str))=false)
  (plain:starEach (e :: es) X.env=(false,eval e X.env) :: starEach es X.env) (rest:(backTo pos (starEach es X.env)).any (·.1)=false):L2N.PMk X (.Call (.Name x p) (e :: es) [] pos) (c62 C f ta):=by
 intro pins s σ H Q I want
 have ⟨_,_,_,_,bm,_,_,_,_,_,_,_,_,_,_,at_C,roots⟩:=T.cls
 apply wpAny_Call_Name_kw (ld_glob I gl at_x ?_ db)
 apply PySem.W.callWith_K (h₀:=X.base) I.ok.mod.kin T.kC ?_ plain rest
 apply thn (args.run pos pins s σ H _ I want)
 rintro us ⟨hp,gs,dr,tk,os⟩ ⟨_,H1,J,rv,y,rfl,wish⟩
 refine ⟨J.kIn,wpAny_call ?_⟩
 have one:us.length=1:=rv.length.symm
 have young:H1 (hp.objs.size + 1)=none:=J.hok.fresh (Nat.le_succ hp.objs.size)
 have grows:∀ b o,hp.get? b=some o→((hp.push (PySem.W.kdv_tup us)).push (PySem.HandSPX.excO C hp.objs.size)).get? b=some o:=fun _ _ z=>Heap.get?_push_of_some _ (Heap.get?_push_of_some _ z)
 have J':=J.laid (t':=tk) grows (Nat.le_succ hp.objs.size) (exo_ok (P:=X.prog) (w:=X.w) (H:=upd H1 _ _) (e:=hp.objs.size + 1) (C:=C) (d:=none) (t1:=hp.objs.size) (by heap_get))
 have asked:=a8x (Q:=Q) young wish
 have given:Vals [.ref (hp.objs.size + 1),y] (.ref (hp.objs.size + 1) :: us):=.cons rfl rv
 have bound:=binds ⟨_,gs,dr,tk,os⟩ (.ref (hp.objs.size + 1) :: us) J'.kIn (by rw [List.append_nil,← given.length];exact F.len _ _ _ _ _ rfl asked)
 rw [List.append_nil] at bound
 have inner:=F.run _ X.stack _ _ ⟨.ref (hp.objs.size + 1) :: us,[]⟩ _ _ _ _ none rfl (room.make C us []) ⟨md.1,a6b.trans (J'.ok.hd md.2)⟩ (J'.env0.make C us []) bound given asked
 refine PySem.HandSPX.call_own PySem.F.excBase_ValueError (fun n=>PySem.HandSPX.refsVE_contains n bm roots) (J.kIn _ _ at_C) (PySem.W.looks_findIn J.kIn own) (fun o=>PySem.W.bind_fn J.kIn o isFn) (by show us.length≤_;rw [one,zai];decide) (codeAny_mono inner ?_)
 rintro (er | fl) ⟨h2,g2,d2,t2,os2⟩ told
 ·have ⟨_,_,_,_,_,_,_,_,_,_,_,_,never⟩:=told
  exact never.elim
 ·cases fl with
  | ret u =>
   obtain ⟨_,H2,sameOs,bare,un,hok,rel,rfl,d,fs,at_e,at_d,free,done⟩:=told
   have ⟨_,G,JG,keeps,away,lies,off⟩:=mk_end0 (d2:=d2) (t2:=t2) J (Nat.le_succ _) grows un hok sameOs bare at_e at_d free
   exact ⟨rel,_,_,_,⟨G,g2,d2,t2,os2⟩,_,.ref C,some d,rfl,JG,keeps,away,lies,⟨rfl,rfl,fun _ z=>by cases z;rfl⟩,rfl,rfl,off,rfl,bare,raises_own T.exC T.tyC,done⟩
  | _=>exact told.elim
theorem b2p {bmB:List Value} {B newId initId:String} (base:ExcBaseFacts B newId initId bmB) (isExc:PySem.W.excIn X.K C bmB newId=true) (kept:PySem.W.keepIn X.K (.ref C)=true) (raises:Raises X (.ref C)) (gl:Gl X x) (at_x:X.mg x=some (.ref C)) (db:(x == ("__debug__" : Str))=false) :
  L2N.PMk X (.Call (.Name x p) [] [] pos) fun _ H Q=>Q (.ref C) none H:=fun _ _ _ _ _ I want =>
 have ⟨_,_,_,_,_,_,_,_,_,_,_,_,_,_,_,_,_,at_C,names,noInit,tail⟩:=exc_obj I.kIn isExc
 wpAny_Call_Name_kw (ld_glob I gl at_x (PySem.W.callWith_K0 I.kIn kept (wpAny_call_exc_subT base tail at_C names noInit (fun _ _ new=>L2N.mk_of I new raises want (I.hok.gone new.new)) (Nat.zero_le _))) db)
theorem b2l {B:Addr} {z:Str} {p1 p2:Pos} {pl:Sem Bool} (gl:Gl X z) (at_z:X.mg z=some (.ref B)) (db:(z == ("__debug__" : Str))=false) (reads:PySem.W.readsIn X.K B (.type "type")=true) (plainGa:PySem.W.specialIn X.K (.ref B) "__getattribute__" = some (some (.builtin "type.__getattribute__")))
  (found:PySem.W.findCls X.K (.ref B) (.type "type") "__init__" = some (.val (.builtin "ValueError.__init__"))) (args:PA X (e :: es) ta)
  (form:eval (.Call (.Attribute (.Name z p1) "__init__" p2) (e :: es) [] pos) X.env=(do let ov ← eval (.Name z p1) X.env;standAt p2.atName;let (g,first) ← holding [ov] (getMethod ov "__init__" pl);callWith pos g first (backTo pos (starEach (e :: es) X.env)) (backToKw pos (keywordEach [] X.env))))
  (plain:starEach (e :: es) X.env=(false,eval e X.env) :: starEach es X.env) (rest:(backTo pos (starEach es X.env)).any (·.1)=false):PE X (.Call (.Attribute (.Name z p1) "__init__" p2) (e :: es) [] pos) (tVeI X.K ta) where
 run pins s σ H Q I want:=by
  apply PySem.W.methodCall_KW (ld_glob I gl at_z (PySem.W.method_cls I.kIn plainGa (PySem.W.cls_value I.kIn reads found (by decide +kernel) ?_)) db) form
  apply PyProof.Rows.callWith_method1 (first:=[]) ?_ plain rest
  apply thn (args.run pos pins _ σ H _ (I.tok _) want)
  rintro _ _ ⟨_,H1,J,rv,a,C,ws,rfl,few,T,at_a,q⟩
  cases rv with
  | cons r0 r1 =>
   cases r0
   exact oinit_ok T J at_a (by rw [← Paired.length r1,zai];omega) fun _ J'=>⟨.non,H1,J',rfl,q⟩
end
end Sv
namespace Sv
open PySem PySem.Spec PyProof.Rows L2
open L2H (RoomH)
structure b97 (K:zbj) (B:Addr):Prop where
 rd:PySem.W.readsIn K B (.type "type")=true
 ga:PySem.W.specialIn K (.ref B) "__getattribute__" = some (some (.builtin "type.__getattribute__"))
 vV:PySem.W.findCls K (.ref B) (.type "type") "__init__" = some (.val (.builtin "ValueError.__init__"))
def b4q (N:List Str) (scope:Scope) (f:Str) (body:List Stmt) (z:Str):Bool:=match body with
 | [.Expr (.Call (.Attribute (.Name z' _) m ap) [.Name s1 _,.Constant (.str _) _ _] [] cp) _,.Assign [.Attribute (.Name s2 _) f' _] (.Name y _) _] =>
  nmB N 0 s1 && nmB N 0 s2 && nmB N 1 y && b2Q scope s1 && b2Q scope s2 && b2Q scope y && decide (z'=z) && glB scope z && decide ((z == ("__debug__" : Str))=false) && decide (m=("__init__" : Str)) && decide (f'=f) && (ap.endLine == cp.line) && decide (N.length=2) && decide (z≠("super" : Str))
 | _=>false
theorem b4k {P:Program} {w:World} {K:zbj} {mg:Str→Option Value} {base:Heap} {k:Nat} {f:Addr} {name qual:Str} {params:Arguments} {body:List Stmt} {scope:Scope} {dV kV doc pm cdv ct oc:Value} {an od:Option Addr}
  {osl:Array (Option Value)} {N:List Str} {C B:Addr} {z fl:Str} (lk:K.lookup f=some ⟨oc,od,.func (PySem.W.fnOf name qual params body scope dV kV doc pm an cdv ct),osl⟩) (hcd:PySem.W.codeIn K cdv qual=true) (S:FnScope N N scope)
  (hb:b4q N scope fl body z=true) (hz:mg z=some (.ref B)) (bf:b97 K B) (T:OexC K C) (no:PySem.W.findIn K (.ref C) fl=some none) :
  FnG P w K mg base false (k + 1) f (PySem.W.fnOf name qual params body scope dV kV doc pm an cdv ct) N (spI C fl):=by
 unfold b4q at hb
 split at hb
 ·rename_i z' p1 m ap s1 p2 j0 j1 j2 cp p3 s2 p4 f' p5 y p6 p7
  simp only [zak,zah] at hb
  obtain ⟨⟨⟨⟨⟨⟨⟨⟨⟨⟨⟨⟨⟨n1,n2⟩,n3⟩,v1⟩,v2⟩,v3⟩,rfl⟩,g1⟩,d1⟩,rfl⟩,rfl⟩,ln⟩,l2⟩,ns⟩:=hb
  refine b3h lk hcd S (fun m vs H Q E _ h=>?_) fun A outer s H vs Q E m hm hM hr hsp=>?_
  ·obtain ⟨a,y0,rfl,_⟩:=h
   rw [l2];rfl
  ·have hm0:m=none:=by cases m with | none=>rfl | some _=>cases hm
   subst hm0
   obtain ⟨a,y0,rfl,ha,q⟩:=hsp
   have pv:∀ {x:Str} {i:Nat} {p:Pos},nmB N i x=true→b2Q scope x=true→PE (cxM P w K mg base N qual scope f cdv A outer s H E none) (.Name x p) (tVar i):=fun {x i p} h1 h2=>pe_var (a0A h1).1 (a7n h2) (a0A h1).2.1 (a0A h1).2.2
   refine ⟨_,pss_cons (ps_expr (b2l (B:=B) (show Gl _ z' from a9N g1) hz d1 bf.rd bf.ga bf.vV (pa_cons (pv n1 v1) (pa_cons pe_str pa_nil rfl) rfl) (a67 (by simpa [a8V] using fun _=>ns) rfl (by show 2 < 30;decide) ln) rfl rfl) rfl) (pss_one (ps_ost (pv n2 v2) (pv n3 v3) rfl)),?_⟩
   have e0:(L2.start N [V.ref a,y0])=[some (V.ref a),some y0]:=by
    unfold L2.start
    rw [l2];rfl
   rw [e0]
   refine ⟨V.ref a,rfl,?_⟩
   refine ⟨a,C,_,rfl,(by show 1≤1000;decide),T,ha,?_⟩
   refine ⟨y0,rfl,V.ref a,rfl,a,C,rfl,T,no,.inl ⟨ha,fun dx hd hne=>q dx hd hne⟩⟩
 ·cases hb
end Sv
namespace Sv
open PySem PySem.Spec PyProof.Rows L2
open L2H (RoomH)
inductive MkF (P:Program) (w:World) (K:zbj) (mg:Str→Option Value) (base:Heap) (k:Nat) (C:Addr):XKd→Prop
 | fld {f:Str} {fI:Addr} {fd:FuncData} {ps:List Str} {kI:Nat} (T:OexC K C) (iC:PySem.W.findIn K (.ref C) "__init__" = some (some (.ref fI))) (tI:PySem.W.typeIn K (.ref fI)=some (.type "function")) (F:FnG P w K mg base false kI fI fd ps (spI C f)) (b:L2.Binds K fd ps []) (h:kI + 1≤k):MkF P w K mg base k C (.fld f)
 | bare {bmB:List Value} {B newId initId:String} (Fb:ExcBaseFacts B newId initId bmB) (q:PySem.W.excIn K C bmB newId=true) (kC:PySem.W.keepIn K (.ref C)=true) (e1:PySem.W.subIn K (.ref C) (.type "BaseException")=some true) (e2:PySem.W.typeIn K (.ref C)=some (.type "type")):MkF P w K mg base k C .bare
structure XS (n:SN) (X:Cx) (G:Gs) (W:WX) (k:Nat) (sc:Scope):Prop where
 xc:XC n X G.toGm W k sc
 esc:X.env.scope=sc
 fn:∀ x,X.fn x=true
 stk:X.stack=X.env :: X.outer
 fr:X.env.frame=some X.env.locals
 xm:∀ j x kd,G.xk j=some kd→n.cls[j]?=some x→MkF X.prog X.w X.K X.mg X.base k (G.cl j) kd
section
variable {n:SN} {X:Cx} {G:Gs} {W:WX} {k:Nat} {sc:Scope}
theorem XC.tr (c:XC n X G.toGm W k sc) {W':WX} {pn:List (Addr × Obj)} {xe:Value→Shared→Prop} (hm:G.m0=none) (tk:L2N.Takes (X.tr pn xe) W') (ps:PassesOwn (model X.prog X.w) X.A X.env xe):XC n (X.tr pn xe) G.toGm W' k sc :=
 ⟨c.ok,c.N,⟨c.sc.vis,c.sc.loc,c.sc.gl,c.sc.fr⟩,c.rm,by have:=c.md;rw [hm] at this ⊢;exact this,tk,ps⟩
theorem XS.tr (c:XS n X G W k sc) {W':WX} {pn:List (Addr × Obj)} {xe:Value→Shared→Prop} (hm:G.m0=none) (tk:L2N.Takes (X.tr pn xe) W') (ps:PassesOwn (model X.prog X.w) X.A X.env xe):XS n (X.tr pn xe) G W' k sc :=
 ⟨c.xc.tr hm tk ps,c.esc,c.fn,c.stk,c.fr,c.xm⟩
theorem GOk.suite {P:Program} {w:World} {K:zbj} {mg:Str→Option Value} {base:Heap} {G:Gm} {m:Option (Addr × Obj)} (h:GOk n P w K mg base G k):GOk n P w K mg base { G with m0:=m } k :=
 ⟨h.K,h.nd,h.fn,h.meth,h.made,h.gv,h.cl,h.bt,h.kd⟩
theorem XS.suite (c:XS n X G W k sc) {a:Addr} {oe:Obj} {pn:List (Addr × Obj)} {cls:Value} {d:Option Addr} (hz:L2N.Zn cls d oe) (hd:∃ vs,oe.data=.fields vs):XS n (X.suite a ((a,oe) :: pn)) (G.suite a oe) noW k sc :=
 ⟨⟨c.xc.ok.suite,c.xc.N,⟨c.xc.sc.vis,c.xc.sc.loc,c.xc.sc.gl,c.xc.sc.fr⟩,⟨c.xc.rm.dp,c.xc.rm.un⟩,by
   obtain ⟨vs,hv⟩:=hd
   exact ⟨c.xc.md.1,⟨rfl,vs,hv,hz.2.2 vs hv⟩,zal⟩,fun u s' ⟨_,_,_,_,_,_,_,_,_,_,_,_,_,_,_,_,z⟩=>z.elim,PassesOwn.never⟩,
  c.esc,c.fn,c.stk,c.fr,c.xm⟩
end
def c4J (n:SN) (sc:Scope) (s:RS) (x:Stmt):Prop:=∀ X G W k,XS n X G W k sc→PS X x (LS G.toGd W (a0n G s))
def a85 (n:SN) (sc:Scope) (s:RSs) (x:List Stmt):Prop:=∀ X G W k,XS n X G W k sc→PSs X x (LS G.toGd W (a0c G s))
theorem b3q {e:Expr} {t:Option Expr} {l:Nat} {env:Env} (h:nlc e=true):swapsWith e t l env=pure false:=by
 cases e <;> first | rfl | cases h
section
variable {n:SN} {X:Cx} {G:Gs} {W:WX} {k:Nat} {sc:Scope} {pos:Pos}
theorem a70 {t e:Expr} {l:Nat} (esc:X.env.scope=sc) (h:a8B sc t e=true):swapsWith e (some t) l X.env=pure false:=by
 unfold a8B at h
 rw [Bool.or_eq_true] at h
 rcases h with h | h
 ·exact b3q h
 ·split at h
  ·rename_i y p
   have key:(X.env.blockKind == .function && X.env.kindOf y == some .local && p.line == e.pos.line)=false:=by
    split at h
    ·have:(p.line == e.pos.line)=false:=by simpa using h
     rw [this,Bool.and_false]
    ·rename_i hne
     have:(X.env.kindOf y == some .local)=false:=by
      have e1:X.env.kindOf y=sc.names.lookup y:=by rw [← esc];rfl
      rw [e1]
      exact Bool.eq_false_iff.mpr fun z=>hne (eq_of_beq z)
     rw [this,Bool.and_false,Bool.false_and]
   unfold swapsWith
   cases e <;> first | rfl | (simp only [key,Bool.false_and];done) | (simp only [key,Bool.false_and];rfl)
  ·unfold swapsWith
   cases e <;> rfl
  ·cases h
theorem a4g {t e:Expr} (h:ntup e=true):swappedStores [t] e X.env=pure none:=by
 unfold swappedStores
 cases t <;> cases e <;> first | rfl | cases h
theorem a8D {t:Expr} {one:Bool} {tg:List Nat} (h:a0Z n sc tg one t=true) (ho:one=true) {e:Expr}:swappedStores [t] e X.env=pure none:=by
 subst ho
 unfold a0Z at h
 rw [if_pos rfl] at h
 split at h
 ·unfold swappedStores;cases e <;> rfl
 ·cases h
theorem LS.mk' {s:RS} {x:Stmt} {t:TS} (h:PS X x t) (w:∀ D σ H δ S Y F,Rel G.toGd S H δ σ→a0n G s δ S Y F→b5R G.toGd S H F D→a6z G.toGd S H Y W→t D σ H):PS X x (LS G.toGd W (a0n G s)) :=
 PS.imp h fun D σ H q=>by
  obtain ⟨δ,S,Y,F,R,ht,rs,rw'⟩:=q
  exact w D σ H δ S Y F R ht rs rw'
theorem a4f {t e:Expr} (esc:X.env.scope=sc) (h:a8q sc t=true):swappedStores [t] e X.env=pure none:=by
 unfold a8q at h
 split at h
 ·rename_i y py z pz kt pt
  have few:([Expr.Name y py,.Name z pz].filterMap fun
   | .Name id pos=>if X.env.kindOf id == some .local && pos.line == (Expr.Name y py).pos.line then some id else none
   | _=>none).length≠2:=by
   have ky:X.env.kindOf y=sc.names.lookup y:=by rw [← esc];rfl
   have kz:X.env.kindOf z=sc.names.lookup z:=by rw [← esc];rfl
   simp only [List.filterMap_cons,List.filterMap_nil,ky,kz]
   rw [Bool.not_eq_true',Bool.and_eq_false_iff,decide_eq_false_iff_not,decide_eq_false_iff_not] at h
   rcases h with h | h
   ·have e:(sc.names.lookup y == some NameKind.local)=false:=by rw [beq_eq_false_iff_ne];exact h
    rw [e,Bool.false_and,if_neg zbe]
    dsimp only
    split <;> simp
   ·have e:(sc.names.lookup z == some NameKind.local)=false:=by rw [beq_eq_false_iff_ne];exact h
    rw [e,Bool.false_and,if_neg zbe]
    dsimp only
    split <;> simp
  unfold swappedStores
  cases e <;> first | rfl | skip
  dsimp only
  split
  ·rfl
  ·split
   ·rfl
   ·refine if_pos ?_
    rw [Bool.or_eq_true]
    left
    exact bne_iff_ne.mpr few
 ·rename_i y py z pz x px kt pt
  have few:([Expr.Name y py,.Name z pz,.Name x px].filterMap fun
   | .Name id pos=>if X.env.kindOf id == some .local && pos.line == (Expr.Name y py).pos.line then some id else none
   | _=>none).length≠3:=by
   have ky:X.env.kindOf y=sc.names.lookup y:=by rw [← esc];rfl
   have kz:X.env.kindOf z=sc.names.lookup z:=by rw [← esc];rfl
   have kx:X.env.kindOf x=sc.names.lookup x:=by rw [← esc];rfl
   simp only [List.filterMap_cons,List.filterMap_nil,ky,kz,kx]
   rw [Bool.not_eq_true',Bool.and_eq_false_iff,Bool.and_eq_false_iff,decide_eq_false_iff_not,decide_eq_false_iff_not,decide_eq_false_iff_not] at h
   rcases h with h | h | h
   ·have e:(sc.names.lookup y == some NameKind.local)=false:=by rw [beq_eq_false_iff_ne];exact h
    rw [e,Bool.false_and,if_neg zbe]
    dsimp only
    split <;> split <;> simp
   ·have e:(sc.names.lookup z == some NameKind.local)=false:=by rw [beq_eq_false_iff_ne];exact h
    rw [e,Bool.false_and,if_neg zbe]
    dsimp only
    split <;> split <;> simp
   ·have e:(sc.names.lookup x == some NameKind.local)=false:=by rw [beq_eq_false_iff_ne];exact h
    rw [e,Bool.false_and,if_neg zbe]
    dsimp only
    split <;> split <;> simp
  unfold swappedStores
  cases e <;> first | rfl | skip
  dsimp only
  split
  ·rfl
  ·split
   ·rfl
   ·refine if_pos ?_
    rw [Bool.or_eq_true]
    left
    exact bne_iff_ne.mpr few
 ·rename_i a1 a2 a3 a4 r kt pt
  unfold swappedStores
  cases e <;> first | rfl | skip
 ·cases h
theorem a4x {t:Expr} {one:Bool} {tg:List Nat} (h:a0Z n sc tg one t=true):(assignEach [t] X.env).map (·.2)=[assign t X.env]:=by
 unfold a0Z at h
 cases one with
 | true =>
  rw [if_pos rfl] at h
  split at h
  ·rfl
  ·cases h
 | false =>
  rw [if_neg zbe] at h
  split at h
  ·rfl
  ·cases h
theorem b8t {tg:List Nat} {one:Bool} {e:RE} {t v:Expr} (c:XS n X G W k sc) (h1:a8B sc t v=true) (h2:(one || ntup v || a8q sc t)=true) (h3:a0Z n sc tg one t=true) (he:PE X v (LE G.toGd W (den G.toGm e))):PS X (.Assign [t] v pos) (LS G.toGd W (a0n G (.asg tg one e))):=by
 by_cases hm:one=false→G.m0=none
 ·have calm:one=false→X.calm=true:=fun h=>by
   have:=c.xc.md
   rw [hm h] at this
   exact this.2
  have hw:swappedStores [t] v X.env=pure none:=by
   cases one with
   | true=>exact a8D h3 rfl
   | false =>
    rw [Bool.false_or,Bool.or_eq_true] at h2
    rcases h2 with h2 | h2
    ·exact a4g h2
    ·exact a4f c.esc h2
  refine LS.mk' (ps_asg he (b0B c.xc calm h3) (a70 c.esc h1) hw (a4x h3)) fun D σ H δ S Y F R ht rs rw'=>?_
  rw [a0n] at ht
  refine ⟨δ,S,Y,_,R,ht.2,fun d S1 v1 H1 kk P cc r=>?_,rw'⟩
  rw [← c.xc.ok.K]
  exact a7I (I:=fun _=>True) (fun _ _ _ _ _=>trivial) kk r (R.mono P cc) trivial fun δ' σ' q R' _=>rs.nx δ' S1 σ' H1 q P R'
 ·refine LS.mk' ps_never fun D σ H δ S Y F R ht rs rw'=>?_
  rw [a0n] at ht
  exact (hm ht.1).elim
theorem b8v {tg:List Nat} {e:RE} {t v:Expr} (c:XS n X G W k sc) (h1:a8B sc t v=true) (h2:(ntup v || a8q sc t)=true) (h3:a0Z n sc tg false t=true) (he:PE X v (LE G.toGd W (den G.toGm e))):PS X (.Assign [t] v pos) (LS G.toGd W (a0n G (.asu tg e))):=by
 by_cases hm:G.m0=none
 ·have calm:X.calm=true:=by
   have:=c.xc.md
   rw [hm] at this
   exact this.2
  have hw:swappedStores [t] v X.env=pure none:=by
   rw [Bool.or_eq_true] at h2
   rcases h2 with h2 | h2
   ·exact a4g h2
   ·exact a4f c.esc h2
  refine LS.mk' (ps_asg he (c6c c.xc calm h3) (a70 c.esc h1) hw (a4x h3)) fun D σ H δ S Y F R ht rs rw'=>?_
  rw [a0n] at ht
  refine ⟨δ,S,Y,_,R,ht.2,fun d S1 v1 H1 kk P cc r=>?_,rw'⟩
  obtain ⟨ds,e1,e2,nx⟩:=kk
  exact ⟨d,δ,S1,fun δ' S'=>F.nx δ' S'∧S'=S1,R.mono P cc,r,⟨ds,e1,e2,nx,rfl⟩,fun δ' S' σ' H' q P2 R'=>rs.nx δ' S' σ' H' q.1 (P.trans P2) R'⟩
 ·refine LS.mk' ps_never fun D σ H δ S Y F R ht rs rw'=>?_
  rw [a0n] at ht
  exact (hm ht.1).elim
theorem b8w {e:RE} {v:Expr} (h1:nlc v=true) (he:PE X v (LE G.toGd W (den G.toGm e))):PS X (.Expr v pos) (LS G.toGd W (a0n G (.exp e))) :=
 LS.mk' (ps_expr he (b3q h1)) fun D σ H δ S Y F R ht rs rw'=>by
  rw [a0n] at ht
  exact ⟨δ,S,Y,_,R,ht,fun d S1 v1 H1 kk P cc r=>rs.nx δ S1 σ H1 kk P (R.mono P cc),rw'⟩
theorem b8G {a b e:RE} {l r v:Expr} {p1:Pos} (c:XS n X G W k sc) (h2:a2t r=true) (ha:PE X l (LE G.toGd W (den G.toGm a))) (hb:PE X r (LE G.toGd W (den G.toGm b))) (he:PE X v (LE G.toGd W (den G.toGm e))) :
  PS X (.Assign [.Subscript l r p1] v pos) (LS G.toGd W (a0n G (.sti a b e))):=by
 have hst:swappedStores [.Subscript l r p1] v X.env=pure none:=by unfold swappedStores;cases v <;> rfl
 have haa:∀ v,assign (.Subscript l r p1) X.env v=(do
   let ov ← holding [v] (eval l X.env)
   let iv ← holding [v,ov] (eval r X.env)
   standAt p1
   holding [v,ov,iv] (setItem ov iv v)
   release [v,ov,iv] []):=by
  intro v
  cases r <;> first | rfl | cases h2
 refine LS.mk' (ps_asg he (pg_sub ha hb (b0M (g:=G.toGd) (by have:=c.xc.un;omega)) haa) (show swapsWith v (some (.Subscript l r p1)) pos.line X.env=pure false from by unfold swapsWith;cases v <;> rfl) hst rfl) fun D σ H δ S Y F R ht rs rw'=>?_
 rw [a0n] at ht
 refine ⟨δ,S,Y,_,R,ht,fun z S1 v1 H1 kk P cc r1=>?_,rw'⟩
 refine ⟨δ,S1,Y,_,R.mono P cc,kk,fun x S2 v2 H2 kk P2 cc2 r2=>?_,rw'.mono P⟩
 refine ⟨δ,S2,Y,_,(R.mono P cc).mono P2 cc2,kk,fun y S3 v3 H3 kk P3 cc3 r3=>?_,(rw'.mono P).mono P2⟩
 have P23:=P2.trans P3
 exact ⟨x,y,z,S3,_,cc3,r2.mono P3,r3,r1.mono P23,kk,fun S4 H4 q P4 cc4=>rs.nx δ S4 σ H4 q ((P.trans P23).trans P4) (R.mono ((P.trans P23).trans P4) cc4)⟩
theorem b8F {a e:RE} {l v:Expr} {f:Str} {p1:Pos} (c:XS n X G W k sc) (ha:PE X l (LE G.toGd W (den G.toGm a))) (he:PE X v (LE G.toGd W (den G.toGm e))) :
  PS X (.Assign [.Attribute l f p1] v pos) (LS G.toGd W (a0n G (.stf a f e))):=by
 refine LS.mk' (ps_fld ha he (by unfold swapsWith;cases v <;> rfl)) fun D σ H δ S Y F R ht rs rw'=>?_
 rw [a0n] at ht
 refine ⟨δ,S,Y,_,R,ht,fun z S1 v1 H1 kk P cc r1=>?_,rw'⟩
 refine ⟨δ,S1,Y,_,R.mono P cc,kk,fun x S2 v2 H2 kk P2 cc2 r2=>?_,rw'.mono P⟩
 obtain ⟨p,C,fs,rfl,e1,cl,na,hl,q⟩:=kk
 cases a0r r2
 obtain ⟨dx,ws,hi,hf⟩:=cc2 _ _ e1
 rw [c.xc.ok.K] at cl na
 have P3:a0d S2 H2 (S2.set p (.ins C (a6i f z fs))) (upd H2 p (.ins C dx (putF f v1 ws))):=a0d.write e1
 refine ⟨p,C,dx,ws,rfl,hi,cl,na,by rw [← c4h hf];exact hl,rs.nx δ _ σ _ q ((P.trans P2).trans P3) (R.mono ((P.trans P2).trans P3) (cc2.write e1 ⟨dx,_,upd_same,(a78 (r1.mono P2) hf).mono P3⟩))⟩
theorem b8s {i:Nat} {op:Operator} {e:RE} {y:Str} {v:Expr} {p1:Pos} (c:XS n X G W k sc) (h1:nmB n.N i y=true) (h2:a8U sc y=true) (he:PE X v (LE G.toGd W (den G.toGm e))):PS X (.AugAssign (.Name y p1) op v pos) (LS G.toGd W (a0n G (.agv i op e))):=by
 refine LS.mk' (ps_aug c.xc.nd (c.xc.at h1) (c.xc.loc h2) he (a9i (g:=G.toGd) op) (c.xc.sto h2)) fun D σ H δ S Y F R ht rs rw'=>?_
 rw [a0n] at ht
 obtain ⟨x,ex,ht⟩:=ht
 obtain ⟨u,eu,ru⟩:=R.sl.at_ i x ex
 refine ⟨u,eu,δ,S,Y,_,R,ht,fun d S1 v1 H1 kk P cc r=>?_,rw'⟩
 exact ⟨x,d,S1,_,cc,ru.mono P,r,kk,fun z S2 v2 H2 q P2 cc2 r2=>rs.nx _ S2 _ H2 q (P.trans P2) ⟨(R.sl.mono (P.trans P2)).set r2,cc2⟩⟩
theorem b8r {a b e:RE} {op:Operator} {l r v:Expr} {p1:Pos} (c:XS n X G W k sc) (h2:a2t r=true) (ha:PE X l (LE G.toGd W (den G.toGm a))) (hb:PE X r (LE G.toGd W (den G.toGm b))) (he:PE X v (LE G.toGd W (den G.toGm e))) :
  PS X (.AugAssign (.Subscript l r p1) op v pos) (LS G.toGd W (a0n G (.agi a b op e))):=by
 have hau:∀ ov iv new,augStore r ov iv new=(do holding [new,ov,iv] (setItem ov iv new);release [new,ov,iv] [];pure .next):=by
  intro ov iv new
  cases r <;> first | rfl | cases h2
 have hu:X.A.units + 1 < cLine:=by have:=c.xc.un;omega
 refine LS.mk' (ps_augS ha hb (b4l (g:=G.toGd) hu) he (a9i (g:=G.toGd) op) (b0M (g:=G.toGd) hu) hau) fun D σ H δ S Y F R ht rs rw'=>?_
 rw [a0n] at ht
 refine ⟨δ,S,Y,_,R,ht,fun x S1 v1 H1 kk P cc r1=>?_,rw'⟩
 refine ⟨δ,S1,Y,_,R.mono P cc,kk,fun y S2 v2 H2 kk P2 cc2 r2=>?_,rw'.mono P⟩
 refine ⟨x,y,S2,_,cc2,r1.mono P2,r2,kk,fun u S3 v3 H3 kk P3 cc3 r3=>?_⟩
 have Q3:=(P.trans P2).trans P3
 refine ⟨δ,S3,Y,_,R.mono Q3 cc3,kk,fun w S4 v4 H4 kk P4 cc4 r4=>?_,rw'.mono Q3⟩
 refine ⟨u,w,S4,_,cc4,r3.mono P4,r4,kk,fun z S5 v5 H5 kk P5 cc5 r5=>?_⟩
 have P35:=(P3.trans P4).trans P5
 refine ⟨x,y,z,S5,_,cc5,r1.mono (P2.trans P35),r2.mono P35,r5,kk,fun S6 H6 q P6 cc6=>rs.nx δ S6 σ H6 q (((Q3.trans P4).trans P5).trans P6) (R.mono (((Q3.trans P4).trans P5).trans P6) cc6)⟩
theorem b8z {c0:RE} {a b:RSs} {t:Expr} {p q:List Stmt} (ht:PT X t (LT G.toGd W (a0o G.toGm c0))) (ha:PSs X p (LS G.toGd W (a0c G a))) (hb:PSs X q (LS G.toGd W (a0c G b))):PS X (.If t p q pos) (LS G.toGd W (a0n G (.ifs c0 a b))):=by
 refine LS.mk' (ps_if ht ha hb) fun D σ H δ S Y F R ht rs rw'=>?_
 rw [a0n] at ht
 refine ⟨δ,S,Y,_,R,ht,fun b S1 H1 kk P cc=>?_,rw'⟩
 cases b with
 | true=>exact ⟨δ,S1,Y,F,R.mono P cc,kk,rs.mono P,rw'.mono P⟩
 | false=>exact ⟨δ,S1,Y,F,R.mono P cc,kk,rs.mono P,rw'.mono P⟩
theorem c3A {c0:RE} {b:RSs} {t:Expr} {p:List Stmt} (c:XS n X G W k sc) (ht:PT X t (LT G.toGd W (a0o G.toGm c0))) (hb:PSs X p (LS G.toGd W (a0c G b))):PS X (.While t p [] pos) (LS G.toGd W (a0n G (.wh c0 b))):=by
 refine LS.mk' (ps_while c.xc.ps ht hb) fun D σ H δ S Y F R ht rs rw'=>?_
 rw [a0n] at ht
 obtain ⟨Iv,⟨m0,i0⟩,step⟩:=ht
 refine ⟨fun m σ' H'=>∃ δ' S',Iv m δ' S'∧a0d S H S' H'∧Rel G.toGd S' H' δ' σ',⟨m0,δ,S,i0,a0d.refl _ _,R⟩,?_⟩
 rintro m σ1 H1 ⟨δ1,S1,iv,P1,R1⟩
 refine ⟨δ1,S1,Y,_,R1,step m δ1 S1 iv,fun b S2 H2 kk P2 cc2=>?_,rw'.mono P1⟩
 have P12:=P1.trans P2
 cases b with
 | true =>
  refine ⟨fun σ' H'=>∃ m',m' < m∧∃ δ' S',Iv m' δ' S'∧a0d S H S' H'∧Rel G.toGd S' H' δ' σ',fun σ' H' q=>q,?_⟩
  have nx:∀ δ' S' σ' H',(∃ m',m' < m∧Iv m' δ' S')→a0d S2 H2 S' H'→Rel G.toGd S' H' δ' σ'→∃ m',m' < m∧∃ δ' S',Iv m' δ' S'∧a0d S H S' H'∧Rel G.toGd S' H' δ' σ':=fun δ' S' σ' H' ⟨m',hm,q⟩ P' R'=>⟨m',hm,δ',S',q,P12.trans P',R'⟩
  exact ⟨δ1,S2,Y,_,R1.mono P2 cc2,kk,⟨nx,rs.rt.mono P12,fun δ' S' σ' H' q P' R'=>rs.nx δ' S' σ' H' q (P12.trans P') R',nx⟩,rw'.mono P12⟩
 | false=>exact rs.nx δ1 S2 σ1 H2 kk P12 (R1.mono P2 cc2)
theorem c3z {tg:List Nat} {one:Bool} {it:RI} {b:RSs} {t i:Expr} {p:List Stmt} (c:XS n X G W k sc) (h1:a1Z i=true) (h2:a0Z n sc tg one t=true) (h3:(!it.two || !one)=true) (hI:b5Y n sc it i) (hb:PSs X p (LS G.toGd W (a0c G b))):PS X (.For t i p [] pos) (LS G.toGd W (a0n G (.fr tg one it b))):=by
 by_cases hm:G.m0=none
 ·have md:a1g X none:=by have:=c.xc.md;rw [hm] at this;exact this
  have calm:X.calm=true:=md.2
  refine LS.mk' (ps_for c.xc.ps calm (hI X G.toGm W k t c.xc hm (b03 h2 h3)) (b0B c.xc (fun _=>calm) h2) hb (fun x=>a3o h1 x)) fun D σ H δ S Y F R ht rs rw'=>?_
  rw [a0n] at ht
  refine ⟨δ,S,Y,_,R,ht.2,fun ds ok S1 H1 J hk P1 c1 io=>?_,rw'⟩
  obtain ⟨Iv,i0,hok,step,last⟩:=hk
  refine ⟨fun i m σ' H'=>m=ds.length - i∧i≤ds.length∧∃ δ' S',Iv i δ' S'∧a0d S1 H1 S' H'∧Rel G.toGd S' H' δ' σ',⟨_,rfl,Nat.zero_le _,δ,S1,i0,a0d.refl _ _,R.mono P1 c1⟩,?_⟩
  rintro i m σ' H' ⟨rfl,hi,δ',S',iv,P',R'⟩
  have ok':=hok i δ' S' iv hi
  by_cases hlt:i < ds.length
  ·refine .inr ⟨io.go i S' H' hlt P' R'.ce ok',fun σ2 H2=>i + 1≤ds.length∧∃ δ' S',Iv (i + 1) δ' S'∧a0d S1 H1 S' H2∧Rel G.toGd S' H2 δ' σ2,fun σ2 H2 q=>⟨_,by omega,rfl,q⟩,fun x H2 y=>?_⟩
   obtain ⟨P2,c2,r2⟩:=io.yl i S' H' x H2 ds[i] (by simp) P' R'.ce ok' y
   have hstep:=step i ds[i] δ' S' (by simp) iv
   rw [← c.xc.ok.K]
   refine a7I (I:=fun _=>True) (fun _ _ _ _ _=>trivial) hstep r2 (R'.mono P2 c2) trivial fun δ3 σ3 hq R3 _=>?_
   have P12:=P'.trans P2
   have nx:∀ δ4 S4 σ4 H4,Iv (i + 1) δ4 S4→a0d S' H2 S4 H4→Rel G.toGd S4 H4 δ4 σ4→i + 1≤ds.length∧∃ δ' S',Iv (i + 1) δ' S'∧a0d S1 H1 S' H4∧Rel G.toGd S' H4 δ' σ4:=fun δ4 S4 σ4 H4 q P4 R4=>⟨hlt,δ4,S4,q,P12.trans P4,R4⟩
   exact ⟨δ3,S',Y,_,R3,hq,⟨nx,(rs.rt.mono P1).mono P12,fun δ4 S4 σ4 H4 q P4 R4=>rs.nx δ4 S4 σ4 H4 q (P1.trans (P12.trans P4)) R4,nx⟩,(rw'.mono P1).mono P12⟩
  ·have e:i=ds.length:=by omega
   subst e
   exact .inl ⟨io.st _ S' H' (Nat.le_refl _) P' R'.ce ok',rs.nx δ' S' σ' H' (last δ' S' iv) (P1.trans P') R'⟩
 ·refine LS.mk' ps_never fun D σ H δ S Y F R ht rs rw'=>?_
  rw [a0n] at ht
  exact (hm ht.1).elim
theorem b7Z {j:Nat} {tg:List Nat} {y:Str} {p1 p2:Pos} {kk:Nat} {t2:Expr} (c:XC n X G.toGm W k sc) (calm:X.calm=true) (h2:nmB n.N j y=true) (h3:a8U sc y=true) (h4:a0Z n sc tg false t2=true):PG X (.Tuple [.Name y p1,t2] kk p2) (gTup X.K 2 (gCons (gName j) (gCons (gTg X.K tg false) gNil))):=by
 have ht:∃ xs kk p,t2=.Tuple xs kk p:=by
  unfold a0Z at h4
  rw [if_neg zbe] at h4
  split at h4
  ·exact ⟨_,_,_,rfl⟩
  ·cases h4
 have hp:=b0B c (fun _=>calm) h4
 obtain ⟨xs,k3,p3,rfl⟩:=ht
 exact pg_tup calm (pgs_cons (pg_name c.nd (c.at h2) (c.loc h3) (c.sto h3)) (pgs_cons hp pgs_nil))
theorem b7g {g:Gd} {S:SS} {H:Hp} {j:Nat} {tg:List Nat} {d:D} {v:V} {δ:DS} {σ:L2.St} {K:DS→SS→Prop} {Q:L2.St→Hp→Prop} (hd:b6C j tg d δ S K) (r:Rep g S H d v) (R:Rel g S H δ σ)
  (h:∀ δ' σ',K δ' S→Rel g S H δ' σ'→Q σ' H):gTup g.K 2 (gCons (gName j) (gCons (gTg g.K tg false) gNil)) v σ H Q:=by
 obtain ⟨x,y,ds,e,e2,l,hk⟩:=hd
 obtain ⟨p,vs,rfl,hl,hr⟩:=a0B r e
 simp only [a0e] at hr
 obtain ⟨v1,q1,rfl,a1,v2,q2,rfl,a2,rfl⟩:=hr
 refine ⟨p,_,rfl,hl,rfl,v1,_,rfl,v2,_,rfl,?_⟩
 refine a7I (I:=fun _=>True) (fun _ _ _ _ _=>trivial) (δ:=δ.set j (some x)) (K:=K) ?_ a2 ⟨R.sl.set a1,R.ce⟩ trivial fun δ' σ' hk R' _=>⟨rfl,h δ' σ' hk R'⟩
 unfold a1E
 rw [if_neg zbe]
 exact ⟨ds,e2,l,hk⟩
theorem b8x {j:Nat} {tg:List Nat} {it:RI} {b:RSs} {y:Str} {p1 p2:Pos} {kk:Nat} {t2 i:Expr} {p:List Stmt} (c:XS n X G W k sc) (h1:a1Z i=true) (h2:nmB n.N j y=true) (h3:a8U sc y=true) (h4:a0Z n sc tg false t2=true) (hI:b5Y n sc it i) (hb:PSs X p (LS G.toGd W (a0c G b))):PS X (.For (.Tuple [.Name y p1,t2] kk p2) i p [] pos) (LS G.toGd W (a0n G (.frn j tg it b))):=by
 by_cases hm:G.m0=none
 ·have md:a1g X none:=by have:=c.xc.md;rw [hm] at this;exact this
  have calm:X.calm=true:=md.2
  refine LS.mk' (ps_for c.xc.ps calm (hI X G.toGm W k (.Tuple [.Name y p1,t2] kk p2) c.xc hm (fun _=>⟨_,_,_,rfl⟩)) (b7Z c.xc calm h2 h3 h4) hb (fun x=>a3o h1 x)) fun D σ H δ S Y F R ht rs rw'=>?_
  rw [a0n] at ht
  refine ⟨δ,S,Y,_,R,ht.2,fun ds ok S1 H1 J hk P1 c1 io=>?_,rw'⟩
  obtain ⟨Iv,i0,hok,step,last⟩:=hk
  refine ⟨fun i m σ' H'=>m=ds.length - i∧i≤ds.length∧∃ δ' S',Iv i δ' S'∧a0d S1 H1 S' H'∧Rel G.toGd S' H' δ' σ',⟨_,rfl,Nat.zero_le _,δ,S1,i0,a0d.refl _ _,R.mono P1 c1⟩,?_⟩
  rintro i m σ' H' ⟨rfl,hi,δ',S',iv,P',R'⟩
  have ok':=hok i δ' S' iv hi
  by_cases hlt:i < ds.length
  ·refine .inr ⟨io.go i S' H' hlt P' R'.ce ok',fun σ2 H2=>i + 1≤ds.length∧∃ δ' S',Iv (i + 1) δ' S'∧a0d S1 H1 S' H2∧Rel G.toGd S' H2 δ' σ2,fun σ2 H2 q=>⟨_,by omega,rfl,q⟩,fun x H2 y=>?_⟩
   obtain ⟨P2,c2,r2⟩:=io.yl i S' H' x H2 ds[i] (by simp) P' R'.ce ok' y
   have hstep:=step i ds[i] δ' S' (by simp) iv
   rw [← c.xc.ok.K]
   refine b7g hstep r2 (R'.mono P2 c2) fun δ3 σ3 hq R3=>?_
   have P12:=P'.trans P2
   have nx:∀ δ4 S4 σ4 H4,Iv (i + 1) δ4 S4→a0d S' H2 S4 H4→Rel G.toGd S4 H4 δ4 σ4→i + 1≤ds.length∧∃ δ' S',Iv (i + 1) δ' S'∧a0d S1 H1 S' H4∧Rel G.toGd S' H4 δ' σ4:=fun δ4 S4 σ4 H4 q P4 R4=>⟨hlt,δ4,S4,q,P12.trans P4,R4⟩
   exact ⟨δ3,S',Y,_,R3,hq,⟨nx,(rs.rt.mono P1).mono P12,fun δ4 S4 σ4 H4 q P4 R4=>rs.nx δ4 S4 σ4 H4 q (P1.trans (P12.trans P4)) R4,nx⟩,(rw'.mono P1).mono P12⟩
  ·have e:i=ds.length:=by omega
   subst e
   exact .inl ⟨io.st _ S' H' (Nat.le_refl _) P' R'.ce ok',rs.nx δ' S' σ' H' (last δ' S' iv) (P1.trans P') R'⟩
 ·refine LS.mk' ps_never fun D σ H δ S Y F R ht rs rw'=>?_
  rw [a0n] at ht
  exact (hm ht.1).elim
theorem b8E {e:RE} {v:Expr} (he:PE X v (LE G.toGd W (den G.toGm e))):PS X (.Return (some v) pos) (LS G.toGd W (a0n G (.ret e))) :=
 LS.mk' (ps_ret he) fun D σ H δ S Y F R ht rs rw'=>by
  rw [a0n] at ht
  exact ⟨δ,S,Y,_,R,ht,rs.rt,rw'⟩
theorem b8D {j:Nat} {es:RL} {y:Str} {xs:List Expr} {p1 p2:Pos} (c:XS n X G W k sc) (h1:nmB n.cls j y=true) (h2:glB sc y=true) (hL:a8Q n sc es xs):PS X (.Raise (some (.Call (.Name y p1) xs [] p2)) none pos) (LS G.toGd W (a0n G (.rai j es))):=by
 by_cases hm:G.m0=none
 ·have md:a1g X none:=by have:=c.xc.md;rw [hm] at this;exact this
  have calm:X.calm=true:=md.2
  cases hx:G.xk j with
  | none =>
   refine LS.mk' ps_never fun D σ H δ S Y F R ht rs rw'=>?_
   rw [a0n] at ht
   obtain ⟨_,kd,e,_⟩:=ht
   rw [hx] at e;cases e
  | some kd =>
   have M:=c.xm j y kd hx (a0A h1).1
   have hcl:=c.xc.ok.cl j y (a0A h1).1
   have hs:=hL.st
   have ha:=hL.a X G.toGm W k c.xc
   have ar:∀ {δ S Y F},a0n G (.rai j es) δ S Y F→es.len=kd.ar:=fun {δ S Y F} q=>by
    rw [a0n] at q
    obtain ⟨_,kd',e,q,_⟩:=q
    rw [hx] at e;cases e
    exact q
   have un:∀ {δ S Y F},a0n G (.rai j es) δ S Y F→a0q G.toGm es δ S Y fun ds S1=>∃ fs,mkX kd ds=some fs∧Y (G.cl j) fs δ S1:=fun {δ S Y F} q=>by
    rw [a0n] at q
    obtain ⟨_,kd',e,_,q⟩:=q
    rw [hx] at e;cases e
    exact q
   cases M with
   | @fld f fI fd ps kI T iC tI Fn b hk =>
    cases xs with
    | nil =>
     refine LS.mk' ps_never fun D σ H δ S Y F R ht rs rw'=>?_
     have q:=un ht
     rw [hL.nl rfl,a0q] at q
     obtain ⟨fs,e,_⟩:=q
     cases e
    | cons z zs =>
     rw [List.all_cons,zak] at hs
     refine LS.mk' (L2N.ps_raise calm c.xc.tk (b48 T iC tI Fn ⟨by have:=c.xc.rm.dp;omega,by have:=c.xc.rm.un;omega⟩ md b (c.xc.gl h2) hcl ha (a0A h1).2.1 (a0f hs.1) (a0Y hs.2))) fun D σ H δ S Y F R ht rs rw'=>?_
     refine ⟨δ,S,Y,_,R,un ht,fun ds S1 vs H1 kk P cc r=>?_,rw'⟩
     obtain ⟨fs,e,q⟩:=kk
     match ds,e,r with
     | [d],e,r =>
      cases e
      obtain ⟨v,rfl,rv⟩:=a5s r
      refine ⟨v,rfl,fun dx hd=>?_⟩
      have P2:a0d S1 H1 S1 (upd H1 dx (.xd [(f,v)])):=a0d.new hd
      refine rw' _ _ _ _ _ _ _ q (P.trans P2) (R.mono (P.trans P2) (cc.new hd)) (.inr ⟨dx,_,rfl,cc.free hd,upd_same,?_⟩)
      simp only [a1X]
      exact ⟨v,[],rfl,rv.mono P2,rfl⟩
   | bare Fb q0 kC e1 e2 =>
    cases xs with
    | nil =>
     refine LS.mk' (L2N.ps_raise calm c.xc.tk (b2p Fb q0 kC (raises_own e1 e2) (c.xc.gl h2) hcl (a0A h1).2.1)) fun D σ H δ S Y F R ht rs rw'=>?_
     have q:=un ht
     rw [hL.nl rfl,a0q] at q
     obtain ⟨fs,e,q⟩:=q
     cases e
     exact rw' _ _ _ _ _ _ _ q (a0d.refl _ _) R (.inl ⟨rfl,rfl⟩)
    | cons z zs =>
     refine LS.mk' (ps_never) fun D σ H δ S Y F R ht rs rw'=>?_
     have e1:=ar ht
     have e2:=hL.ne
     rw [e1] at e2
     cases e2
 ·refine LS.mk' ps_never fun D σ H δ S Y F R ht rs rw'=>?_
  rw [a0n] at ht
  exact (hm ht.1).elim
theorem b8u {i:Nat} {cell:Bool} {elt:RE} {cnd:RO} {tg:List Nat} {one:Bool} {it:RI} {own:List (Str × Nat)} {xe xt xi:Expr} {ifs:List Expr} {scope:Scope} {y:Str} {py p:Pos} (c:XS n X G W k sc) (h0:nmB n.N i y=true) (hl:sc.names.lookup y=some .local)
  (hp:(py.line == p.line)=true) (hna:(scope.names.any fun (m,k)=>m == y && (k == .local || k == .cell))=false) (hb:blkC n.N sc scope own=true) (hsd:a1Z xi=true) (hI:b5Y n sc it xi)
  (htg:(tg.all fun i=>decide (i∈own.map (·.2)))=true) (hct:a0Z n scope tg one xt=true) (h7:(!it.two || !one)=true) (hcnd:∀ X G W k,XC n X G W k scope→PTs X ifs (LT G.toGd W (a6C G cnd))) (he:∀ X G W k,XC n X G W k scope→PE X xe (LE G.toGd W (den G elt))) :
  PS X (.Assign [.Name y py] (.ListComp xe [⟨xt,xi,ifs,0⟩] scope p) pos) (LS G.toGd W (a0n G (.asl i (.lc cell elt tg one it cnd own)))):=by
 by_cases hm:G.m0=none
 ·have md:a1g X none:=by have:=c.xc.md;rw [hm] at this;exact this
  have calm:X.calm=true:=md.2
  have hyl:X.env.scope.names.lookup y=some .local:=by rw [c.esc];exact hl
  have bo:BlkOk X.N X.env.scope scope own:=by
   have h:=blkOk_by hb
   exact ⟨h.kind,h.uniq,fun p hp=>c.xc.N ▸ h.ix p hp,fun y hy e=>c.xc.sc.fr _ (h.free y hy e),fun y hy e=>c.xc.N ▸ h.own y hy e⟩
  have kf:X.env.scope.kind=.function∨True:=.inr trivial
  refine ⟨fun pins s σ H D I hh=>?_⟩
  have kfun:=I.ok.kind
  refine (LS.mk' (ps_setLc (wi:=LI G.toGd W (a0R G.toGm it)) (g:=gTg X.K tg one) (tt:=LT G.toGd noW (a6C G.toGm cnd)) (te:=LE G.toGd noW (den G.toGm elt)) calm c.xc.nd (c.xc.at h0) hyl (sw_true kfun hyl hp hna) (hI X G.toGm W k xt c.xc hm (b03 hct h7)) bo (fun s H C cl fp=>b0B (c.xc.blk hm) (fun _=>calm) hct) (fun s H C cl fp=>hcnd _ G.toGm noW k (c.xc.blk hm)) (fun s H C cl fp=>he _ G.toGm noW k (c.xc.blk hm)) (fun x=>a3o hsd x)) fun D σ H δ S Y F R ht rs rw'=>?_).run pins s σ H D I hh
  rw [a0n] at ht
  have h:LE G.toGd W (den G.toGm (.lc cell elt tg one it cnd own)) σ H (fun v H1=>D.nx (σ.set i (some v)) H1):=⟨δ,S,Y,_,R,ht,fun d S1 v H1 q P cc r=>rs.nx _ S1 _ H1 q P ⟨(R.sl.mono P).set r,cc⟩,rw'⟩
  exact b7w c.xc.ok.K htg h
 ·refine LS.mk' ps_never fun D σ H δ S Y F R ht rs rw'=>?_
  rw [a0n,den] at ht
  exact (hm ht.1).elim
theorem b8H {b s:RSs} {j i:Nat} {y m:Str} {p1 p2:Pos} {p qs:List Stmt} {q:Stmt} (c:XS n X G W k sc) (h1:nmB n.cls j y=true) (h2:glB sc y=true) (h3:nmB n.N i m=true) (hl:sc.names.lookup m=some .local) (hb:a85 n sc b p) (hs:a85 n sc s (q :: qs)) :
  PS X (.Try p [.ExceptHandler (some (.Name y p1)) (some m) (q :: qs) p2] [] [] pos) (LS G.toGd W (a0n G (.tra b j i s))):=by
 by_cases hm:G.m0=none
 ·have hcl:=c.xc.ok.cl j y (a0A h1).1
  have hln:X.env.kindOf m=some .local:=by show X.env.scope.names.lookup m=_;rw [c.esc];exact hl
  refine LS.mk' (L2N.ps_try_as (tb:=fun W'=>LS G.toGd W' (a0c G b)) (ts:=fun a cls d=>fun D σ H=>∀ oe,L2N.Zn cls d oe→(∃ vs,oe.data=.fields vs)→LS G.toGd noW (a0c (G.suite a oe) s) D σ H) c.stk c.fr c.xc.nd (c.xc.at h3) hln ⟨c.xc.gl h2,(a0A h1).2.1,.inl hcl⟩ c.xc.tk
   (fun W' pn xe tk ps=>hb _ G W' k (c.tr hm tk ps))
   (fun a oe cls d pn hz hf=>PSs.imp (hs _ (G.suite a oe) noW k (c.suite hz hf)) fun D σ H q=>q oe hz hf)) fun D σ H δ S Y F R ht rs rw'=>?_
  rw [a0n] at ht
  refine ⟨δ,S,_,F,R,ht.2,rs,fun C fs δ' S' d σ' H' hy P R' hx=>?_⟩
  obtain ⟨kb,e1,e2,e3⟩:=hy
  refine ⟨kb,by rw [← c.xc.ok.K];exact e1,fun hk a na oe hz hf=>?_,fun hk=>rw' C fs δ' S' d σ' H' (e3 hk) P R' hx⟩
  have R2:Rel G.toGd S' H' (δ'.set i (some (.exc a oe C fs))) (σ'.set i (some (.ref a))):=⟨R'.sl.set (by
   simp only [Rep]
   exact ⟨d,trivial,⟨hz.zc,hf⟩,hx⟩),R'.ce⟩
  refine ⟨_,S',noX,_,R2,e2 hk a oe,?_,fun _ _ _ _ _ _ _ z=>z.elim⟩
  exact ⟨fun δ2 S2 σ2 H2 q P2 R3=>rs.nx _ S2 _ H2 q (P.trans P2) ⟨R3.sl.setN,R3.ce⟩,rs.rt.mono P,fun δ2 S2 σ2 H2 q P2 R3=>rs.bk _ S2 _ H2 q (P.trans P2) ⟨R3.sl.setN,R3.ce⟩,fun δ2 S2 σ2 H2 q P2 R3=>rs.ct _ S2 _ H2 q (P.trans P2) ⟨R3.sl.setN,R3.ce⟩⟩
 ·refine LS.mk' ps_never fun D σ H δ S Y F R ht rs rw'=>?_
  rw [a0n] at ht
  exact (hm ht.1).elim
theorem b8J {b s:RSs} {j:Nat} {y:Str} {p1 p2:Pos} {p qs:List Stmt} {q:Stmt} (c:XS n X G W k sc) (h1:nmB n.cls j y=true) (h2:glB sc y=true) (hb:a85 n sc b p) (hs:a85 n sc s (q :: qs)) :
  PS X (.Try p [.ExceptHandler (some (.Name y p1)) none (q :: qs) p2] [] [] pos) (LS G.toGd W (a0n G (.tro b j s))):=by
 by_cases hm:G.m0=none
 ·have hcl:=c.xc.ok.cl j y (a0A h1).1
  refine LS.mk' (L2N.ps_try_many (tb:=fun W'=>LS G.toGd W' (a0c G b)) (l:=[(.ref (G.cl j),fun a cls d=>fun D σ H=>∀ oe,L2N.Zn cls d oe→(∃ vs,oe.data=.fields vs)→LS G.toGd noW (a0c (G.suite a oe) s) D σ H)]) c.stk c.fr c.xc.tk
   (fun W' pn xe tk ps=>hb _ G W' k (c.tr hm tk ps))
   (.cons ⟨c.xc.gl h2,(a0A h1).2.1,.inl hcl⟩ (fun a oe cls d pn hz hf=>PSs.imp (hs _ (G.suite a oe) noW k (c.suite hz hf)) fun D σ H q=>q oe hz hf) .nil)) fun D σ H δ S Y F R ht rs rw'=>?_
  rw [a0n] at ht
  refine ⟨δ,S,_,F,R,ht.2,rs,fun C fs δ' S' d σ' H' hy P R' hx=>?_⟩
  obtain ⟨kb,e1,e2,e3⟩:=hy
  refine ⟨kb,by rw [← c.xc.ok.K];exact e1,fun hk a na oe hz hf=>?_,fun hk=>rw' C fs δ' S' d σ' H' (e3 hk) P R' hx⟩
  refine ⟨δ',S',noX,F,R',e2 hk a oe,?_,fun _ _ _ _ _ _ _ z=>z.elim⟩
  exact ⟨fun δ2 S2 σ2 H2 q P2 R3=>rs.nx _ S2 _ H2 q (P.trans P2) R3,rs.rt.mono P,fun δ2 S2 σ2 H2 q P2 R3=>rs.bk _ S2 _ H2 q (P.trans P2) R3,fun δ2 S2 σ2 H2 q P2 R3=>rs.ct _ S2 _ H2 q (P.trans P2) R3⟩
 ·refine LS.mk' ps_never fun D σ H δ S Y F R ht rs rw'=>?_
  rw [a0n] at ht
  exact (hm ht.1).elim
theorem a7v {a b:Expr} (sa:a0s a=true) (sb:a0s b=true):([a,b].any fun | .Starred ..=>true | _=>false)=false:=by
 cases a <;> first | exact absurd sa zbe | (cases b <;> first | exact absurd sb zbe | rfl)
theorem a8L {y z:Str} {a b:Expr} {py pz pt p2:Pos} {kt k2:Nat} (kind:X.env.blockKind=.function) (ky:X.env.kindOf y=some .local) (kz:X.env.kindOf z=some .local) (same:(py.line == pz.line)=true) (apart:(y == z)=false) (sa:a0s a=true) (sb:a0s b=true)
  (f1:([a,b].all (foldedForSure 8))=false) (f2:([a,b].all (constantsAlone 8))=false):swappedStores [.Tuple [.Name y py,.Name z pz] kt pt] (.Tuple [a,b] k2 p2) X.env=pure (some [y,z]):=by
 have line:(pz.line == py.line)=true:=by rw [beq_iff_eq] at same ⊢;exact same.symm
 have dup:[y,z].eraseDups=[y,z]:=by
  rw [List.eraseDups_cons,List.filter_cons]
  have e:(z == y)=false:=by
   rw [beq_eq_false_iff_ne] at apart ⊢
   exact fun h=>apart h.symm
  simp [e,List.eraseDups_cons]
 unfold swappedStores
 simp only [zaz,List.length_nil,kind,f1,f2,List.head?_cons,Option.map_some,Option.getD_some,Expr.pos,List.filterMap_cons,List.filterMap_nil,ky,kz,line,beq_self_eq_true,Bool.and_self,if_true,dup]
 refine (if_neg (by decide)).trans ((if_neg fun h=>zbe ((a7v sa sb).symm.trans h)).trans ?_)
 rfl
theorem b8C {i j:Nat} {es:RL} {y z:Str} {a b:Expr} {py pz pt p2:Pos} {kt k2:Nat} (c:XS n X G W k sc) (h1:nmB n.N i y=true) (h2:nmB n.N j z=true) (hij:i≠j) (hy:sc.names.lookup y=some .local) (hz:sc.names.lookup z=some .local) (same:(py.line == pz.line)=true) (apart:(y == z)=false) (sa:a0s a=true) (sb:a0s b=true)
  (f1:([a,b].all (foldedForSure 8))=false) (f2:([a,b].all (constantsAlone 8))=false) (hL:a8Q n sc es [a,b]):PS X (.Assign [.Tuple [.Name y py,.Name z pz] kt pt] (.Tuple [a,b] k2 p2) pos) (LS G.toGd W (a0n G (.par i j es))):=by
 by_cases hm:G.m0=none
 ·have md:a1g X none:=by have:=c.xc.md;rw [hm] at this;exact this
  have ly:X.env.scope.names.lookup y=some .local:=by rw [c.esc];exact hy
  have lz:X.env.scope.names.lookup z=some .local:=by rw [c.esc];exact hz
  refine ⟨fun pins s σ H D I hh=>?_⟩
  have kind:X.env.blockKind=.function:=by unfold Env.blockKind;rw [I.ok.kind];rfl
  refine (LS.mk' (ps_par (pos:=pos) md.2 c.xc.nd (c.xc.at h1) (c.xc.at h2) hij ly lz (hL.a X G.toGm W k c.xc) (a8L kind ly lz same apart sa sb f1 f2) (by rfl)) fun D σ H δ S Y F R ht rs rw'=>?_).run pins s σ H D I hh
  rw [a0n] at ht
  refine ⟨δ,S,Y,_,R,ht.2,fun ds S1 vs H1 kk P cc r=>?_,rw'⟩
  obtain ⟨v,w,rfl,q⟩:=kk
  obtain ⟨a1,b1,rfl,r1,r2⟩:=a08 r
  exact ⟨a1,b1,rfl,rs.nx _ S1 _ H1 q P ⟨((R.sl.mono P).set r1).set r2,cc⟩⟩
 ·refine LS.mk' ps_never fun D σ H δ S Y F R ht rs rw'=>?_
  rw [a0n] at ht
  exact (hm ht.1).elim
theorem a9g {a b c:Expr} (sa:a0s a=true) (sb:a0s b=true) (sc:a0s c=true):([a,b,c].any fun | .Starred ..=>true | _=>false)=false:=by
 cases a <;> first | exact absurd sa zbe | exact a7v sb sc
theorem a8F {d e f:D} {vs:List V} (r:a0e g S H [d,e,f] vs):∃ u v w,vs=[u,v,w]∧Rep g S H d u∧Rep g S H e v∧Rep g S H f w:=by
 simp only [a0e] at r
 obtain ⟨v,q,rfl,a,u,q2,rfl,b,w,q3,rfl,c,rfl⟩:=r
 exact ⟨v,u,w,rfl,a,b,c⟩
theorem a6p {x y z:Str} {a b c:Expr} {px py pz pt p2:Pos} {kt k2:Nat} (kind:X.env.blockKind=.function) (kx:X.env.kindOf x=some .local) (ky:X.env.kindOf y=some .local) (kz:X.env.kindOf z=some .local) (same:(px.line == py.line)=true) (same2:(px.line == pz.line)=true) (dup:[x,y,z].eraseDups=[x,y,z]) (sa:a0s a=true) (sb:a0s b=true) (sc:a0s c=true)
  (f1:([a,b,c].all (foldedForSure 8))=false) (f2:([a,b,c].all (constantsAlone 8))=false):swappedStores [.Tuple [.Name x px,.Name y py,.Name z pz] kt pt] (.Tuple [a,b,c] k2 p2) X.env=pure (some [x,y,z]):=by
 have line:(py.line == px.line)=true:=by rw [beq_iff_eq] at same ⊢;exact same.symm
 have line2:(pz.line == px.line)=true:=by rw [beq_iff_eq] at same2 ⊢;exact same2.symm
 unfold swappedStores
 simp only [zaz,List.length_nil,kind,f1,f2,List.head?_cons,Option.map_some,Option.getD_some,Expr.pos,List.filterMap_cons,List.filterMap_nil,kx,ky,kz,line,line2,beq_self_eq_true,Bool.and_self,if_true,dup]
 refine (if_neg (by decide)).trans ((if_neg fun h=>zbe ((a9g sa sb sc).symm.trans h)).trans ?_)
 rfl
theorem b8I {i j l:Nat} {es:RL} {x y z:Str} {a b d:Expr} {px py pz pt p2:Pos} {kt k2:Nat} (c:XS n X G W k sc) (h1:nmB n.N i x=true) (h2:nmB n.N j y=true) (h3:nmB n.N l z=true) (hij:i≠j) (hil:i≠l) (hjl:j≠l) (hx:sc.names.lookup x=some .local) (hy:sc.names.lookup y=some .local) (hz:sc.names.lookup z=some .local) (same:(px.line == py.line)=true) (same2:(px.line == pz.line)=true) (dup:[x,y,z].eraseDups=[x,y,z]) (sa:a0s a=true) (sb:a0s b=true) (sd:a0s d=true)
  (f1:([a,b,d].all (foldedForSure 8))=false) (f2:([a,b,d].all (constantsAlone 8))=false) (hL:a8Q n sc es [a,b,d]):PS X (.Assign [.Tuple [.Name x px,.Name y py,.Name z pz] kt pt] (.Tuple [a,b,d] k2 p2) pos) (LS G.toGd W (a0n G (.tri i j l es))):=by
 by_cases hm:G.m0=none
 ·have md:a1g X none:=by have:=c.xc.md;rw [hm] at this;exact this
  have lx:X.env.scope.names.lookup x=some .local:=by rw [c.esc];exact hx
  have ly:X.env.scope.names.lookup y=some .local:=by rw [c.esc];exact hy
  have lz:X.env.scope.names.lookup z=some .local:=by rw [c.esc];exact hz
  refine ⟨fun pins s σ H D I hh=>?_⟩
  have kind:X.env.blockKind=.function:=by unfold Env.blockKind;rw [I.ok.kind];rfl
  refine (LS.mk' (ps_par3 (pos:=pos) md.2 c.xc.nd (c.xc.at h1) (c.xc.at h2) (c.xc.at h3) hij hil hjl lx ly lz (hL.a X G.toGm W k c.xc) (a6p kind lx ly lz same same2 dup sa sb sd f1 f2) (by rfl)) fun D σ H δ S Y F R ht rs rw'=>?_).run pins s σ H D I hh
  rw [a0n] at ht
  refine ⟨δ,S,Y,_,R,ht.2,fun ds S1 vs H1 kk P cc r=>?_,rw'⟩
  obtain ⟨u,v,w,rfl,q⟩:=kk
  obtain ⟨a1,b1,c1,rfl,r1,r2,r3⟩:=a8F r
  exact ⟨a1,b1,c1,rfl,rs.nx _ S1 _ H1 q P ⟨(((R.sl.mono P).set r1).set r2).set r3,cc⟩⟩
 ·refine LS.mk' ps_never fun D σ H δ S Y F R ht rs rw'=>?_
  rw [a0n] at ht
  exact (hm ht.1).elim
theorem b8A {s:RS} {x:Stmt} (h:PS X x (LS G.toGd W (a0n G s))):PS X x (LS G.toGd W (a0n G (.lck s))) :=
 LS.mk' (ps_lock h) fun D σ H δ S Y F R ht rs rw'=>by
  rw [a0n] at ht
  obtain ⟨d,kvs,at_d,ht⟩:=ht
  obtain ⟨ws,here,all⟩:=R.ce d _ at_d
  refine ⟨d,_,here,trivial,fun od=>?_⟩
  have P:a0d S H (S.set d (.loc kvs)) (upd H d (.frz od (.dK ws))):=a0d.write at_d
  have back:∀ {δ':DS} {S' σ' H'},a0d (S.set d (.loc kvs)) (upd H d (.frz od (.dK ws))) S' H'→Rel G.toGd S' H' δ' σ'→Rel G.toGd (S'.set d (.dic kvs)) (upd H' d (.dK ws)) δ' σ':=fun {δ' S' σ' H'} P' R' =>
   ⟨⟨R'.sl.len,fun i x e=>have ⟨v,e1,r⟩:=R'.sl.at_ i x e;⟨v,e1,r.monoW (.write (PostW.unlock at_d P').1)⟩⟩,CellsOk.unlock at_d all P' R'.ce⟩
  have go:∀ {δ':DS} {S' σ' H'} {K:DS→SS→Prop} {q:L2.St→Hp→Prop},(∀ δ' S' σ' H',K δ' S'→a0d S H S' H'→Rel G.toGd S' H' δ' σ'→q σ' H')→K δ' (S'.set d (.dic kvs))→a0d (S.set d (.loc kvs)) (upd H d (.frz od (.dK ws))) S' H'→Rel G.toGd S' H' δ' σ' →
    H' d=some (.frz od (.dK ws))∧q σ' (upd H' d (.dK ws)):=fun {δ' S' σ' H' K q} w kk P' R'=>⟨(PostW.unlock at_d P').2,w δ' _ σ' _ kk (a0d.unlock at_d P') (back P' R')⟩
  refine ⟨δ,_,Y,F.unlock d kvs,R.mono P (R.ce.lock at_d here all),ht,⟨fun δ' S' σ' H' kk P' R'=>go rs.nx kk P' R',fun x S' v H' kk P' c' r'=>⟨(PostW.unlock at_d P').2,?_⟩,fun δ' S' σ' H' kk P' R'=>go rs.bk kk P' R',fun δ' S' σ' H' kk P' R'=>go rs.ct kk P' R'⟩,rw'.mono P⟩
  exact rs.rt x _ v _ kk (a0d.unlock at_d P') (CellsOk.unlock at_d all P' c') (r'.monoW (.write (PostW.unlock at_d P').1))
end
end Sv
namespace Sv
open PySem PySem.Spec PyProof.Rows L2
open L2H (RoomH)
variable {n:SN}
mutual
theorem sS:∀ (s:RS) (sc:Scope) (x:Stmt),a2P n sc s x=true→c4J n sc s x
 | .exp e,sc,x,h=>by
  unfold a2P at h
  split at h
  ·rw [zak] at h
   exact fun X G W k c=>b8w h.1 ((sE e sc _ h.2).v X G.toGm W k c.xc)
  ·cases h
 | .asg tg one e,sc,x,h=>by
  unfold a2P at h
  split at h
  ·simp only [zak] at h
   obtain ⟨⟨h1,h2⟩,h3,h4⟩:=h
   exact fun X G W k c=>b8t c h1 h2 h3 ((sE e sc _ h4).v X G.toGm W k c.xc)
  ·cases h
 | .asu tg e,sc,x,h=>by
  unfold a2P at h
  split at h
  ·simp only [zak] at h
   obtain ⟨⟨h1,h2⟩,h3,h4⟩:=h
   exact fun X G W k c=>b8v c h1 h2 h3 ((sE e sc _ h4).v X G.toGm W k c.xc)
  ·cases h
 | .asl i e,sc,x,h=>by
  unfold a2P at h
  split at h
  ·split at h
   ·simp only [zak,zah,Bool.not_eq_true'] at h
    obtain ⟨⟨⟨⟨h1,h2⟩,h3⟩,h4⟩,⟨⟨⟨⟨⟨⟨g0,g1⟩,g2⟩,g3⟩,g4⟩,g5⟩,g6⟩,g7⟩:=h
    exact fun X G W k c=>b8u c h1 h2 h3 h4 g0 g1 (sI _ sc _ g2) g3 g4 g7 (fun X G W k c=>sC _ _ _ g5 X G W k c) (fun X G W k c=>(sE _ _ _ g6).v X G W k c)
   ·cases h
  ·cases h
 | .sti a b e,sc,x,h=>by
  unfold a2P at h
  split at h
  ·simp only [zak] at h
   obtain ⟨h2,h3,h4,h5⟩:=h
   exact fun X G W k c=>b8G c h2 ((sE a sc _ h3).v X G.toGm W k c.xc) ((sE b sc _ h4).v X G.toGm W k c.xc) ((sE e sc _ h5).v X G.toGm W k c.xc)
  ·cases h
 | .stf a f e,sc,x,h=>by
  unfold a2P at h
  split at h
  ·simp only [zak,zah] at h
   obtain ⟨h2,h3,h4⟩:=h
   subst h2
   exact fun X G W k c=>b8F c ((sE a sc _ h3).v X G.toGm W k c.xc) ((sE e sc _ h4).v X G.toGm W k c.xc)
  ·cases h
 | .agv i op e,sc,x,h=>by
  unfold a2P at h
  split at h
  ·simp only [zak,zah] at h
   obtain ⟨⟨⟨h1,h2⟩,h3⟩,h4⟩:=h
   subst h3
   exact fun X G W k c=>b8s c h1 h2 ((sE e sc _ h4).v X G.toGm W k c.xc)
  ·cases h
 | .agi a b op e,sc,x,h=>by
  unfold a2P at h
  split at h
  ·simp only [zak,zah] at h
   obtain ⟨⟨h1,h2⟩,h3,h4,h5⟩:=h
   subst h2
   exact fun X G W k c=>b8r c h1 ((sE a sc _ h3).v X G.toGm W k c.xc) ((sE b sc _ h4).v X G.toGm W k c.xc) ((sE e sc _ h5).v X G.toGm W k c.xc)
  ·cases h
 | .ifs t a b,sc,x,h=>by
  unfold a2P at h
  split at h
  ·simp only [zak] at h
   obtain ⟨h1,h2,h3⟩:=h
   exact fun X G W k c=>b8z ((sE t sc _ h1).t X G.toGm W k c.xc) (sSs a sc _ h2 X G W k c) (sSs b sc _ h3 X G W k c)
  ·cases h
 | .fr tg one it b,sc,x,h=>by
  unfold a2P at h
  split at h
  ·simp only [zak] at h
   obtain ⟨⟨⟨h1,h2⟩,h5⟩,h3,h4⟩:=h
   exact fun X G W k c=>c3z c h1 h2 h5 (sI it sc _ h3) (sSs b sc _ h4 X G W k c)
  ·cases h
 | .frn j tg it b,sc,x,h=>by
  unfold a2P at h
  split at h
  ·simp only [zak] at h
   obtain ⟨⟨⟨h1,h2,h3⟩,h5⟩,h6,h7⟩:=h
   exact fun X G W k c=>b8x c h1 h2 h3 h5 (sI it sc _ h6) (sSs b sc _ h7 X G W k c)
  ·cases h
 | .wh t b,sc,x,h=>by
  unfold a2P at h
  split at h
  ·simp only [zak] at h
   obtain ⟨h1,h2⟩:=h
   exact fun X G W k c=>c3A c ((sE t sc _ h1).t X G.toGm W k c.xc) (sSs b sc _ h2 X G W k c)
  ·cases h
 | .ret e,sc,x,h=>by
  unfold a2P at h
  split at h
  ·exact fun X G W k c=>b8E ((sE e sc _ h).v X G.toGm W k c.xc)
  ·cases h
 | .retN,sc,x,h=>by
  unfold a2P at h
  split at h
  ·exact fun X G W k c=>LS.mk' ps_retN fun D σ H δ S Y F R ht rs rw'=>by
    rw [a0n] at ht
    exact rs.rt.non ht R.ce
  ·cases h
 | .brk,sc,x,h=>by
  unfold a2P at h
  split at h
  ·exact fun X G W k c=>LS.mk' ps_break fun D σ H δ S Y F R ht rs rw'=>by
    rw [a0n] at ht
    exact rs.bk δ S σ H ht (a0d.refl _ _) R
  ·cases h
 | .cnt,sc,x,h=>by
  unfold a2P at h
  split at h
  ·exact fun X G W k c=>LS.mk' ps_continue fun D σ H δ S Y F R ht rs rw'=>by
    rw [a0n] at ht
    exact rs.ct δ S σ H ht (a0d.refl _ _) R
  ·cases h
 | .pas,sc,x,h=>by
  unfold a2P at h
  split at h
  ·exact fun X G W k c=>LS.mk' ps_pass fun D σ H δ S Y F R ht rs rw'=>by
    rw [a0n] at ht
    exact rs.nx δ S σ H ht (a0d.refl _ _) R
  ·exact fun X G W k c=>LS.mk' ps_doc fun D σ H δ S Y F R ht rs rw'=>by
    rw [a0n] at ht
    exact rs.nx δ S σ H ht (a0d.refl _ _) R
  ·cases h
 | .rai j es,sc,x,h=>by
  unfold a2P at h
  split at h
  ·simp only [zak] at h
   obtain ⟨⟨h1,h2⟩,h3⟩:=h
   exact fun X G W k c=>b8D c h1 h2 (sL es sc _ h3)
  ·cases h
 | .tra b j i s,sc,x,h=>by
  unfold a2P at h
  split at h
  ·simp only [zak,zah] at h
   obtain ⟨⟨⟨⟨h1,h2⟩,h3⟩,h4⟩,h5,h6⟩:=h
   exact fun X G W k c=>b8H c h1 h2 h3 h4 (sSs b sc _ h5) (sSs s sc _ h6)
  ·cases h
 | .tro b j s,sc,x,h=>by
  unfold a2P at h
  split at h
  ·simp only [zak] at h
   obtain ⟨⟨h1,h2⟩,h5,h6⟩:=h
   exact fun X G W k c=>b8J c h1 h2 (sSs b sc _ h5) (sSs s sc _ h6)
  ·cases h
 | .tri i j l es,sc,x,h=>by
  unfold a2P at h
  split at h
  ·simp only [zak,zah,Bool.not_eq_true'] at h
   obtain ⟨⟨⟨⟨⟨⟨⟨⟨⟨⟨⟨h1,h2⟩,h3⟩,h4⟩,h5⟩,h6⟩,⟨h7,h8⟩,h9⟩,⟨l1,l2⟩,l3⟩,⟨s1,s2⟩,s3⟩,g1⟩,g2⟩,g3⟩:=h
   exact fun X G W k c=>b8I c h1 h2 h3 h4 h5 h6 h7 h8 h9 l1 l2 l3 s1 s2 s3 g1 g2 (sL es sc _ g3)
  ·cases h
 | .par i j es,sc,x,h=>by
  unfold a2P at h
  split at h
  ·simp only [zak,zah,Bool.not_eq_true'] at h
   obtain ⟨⟨⟨⟨⟨⟨⟨⟨⟨⟨⟨h1,h2⟩,h3⟩,h4⟩,h5⟩,h6⟩,h7⟩,h8⟩,h9⟩,g1⟩,g2⟩,g3⟩:=h
   exact fun X G W k c=>b8C c h1 h2 h3 h4 h5 h6 h7 h8 h9 g1 g2 (sL es sc _ g3)
  ·cases h
 | .lck s,sc,x,h=>by
  unfold a2P at h
  exact fun X G W k c=>b8A (sS s sc x h X G W k c)
 | .nev,sc,x,h=>fun X G W k c=>LS.mk' ps_never fun D σ H δ S Y F R ht rs rw'=>by
  rw [a0n] at ht
  exact ht.elim
theorem sSs:∀ (s:RSs) (sc:Scope) (x:List Stmt),a1m n sc s x=true→a85 n sc s x
 | .nil,sc,x,h=>by
  unfold a1m at h
  cases x with
  | nil =>
   refine fun X G W k c=>PSs.imp pss_nil fun D σ H q=>?_
   obtain ⟨δ,S,Y,F,R,ht,rs,_⟩:=q
   rw [a0c] at ht
   exact rs.nx δ S σ H ht (a0d.refl _ _) R
  | cons _ _=>cases h
 | .cons s r,sc,x,h=>by
  unfold a1m at h
  split at h
  ·rw [zak] at h
   refine fun X G W k c=>PSs.imp (pss_cons (sS s sc _ h.1 X G W k c) (sSs r sc _ h.2 X G W k c)) fun D σ H q=>?_
   obtain ⟨δ,S,Y,F,R,ht,rs,rw'⟩:=q
   rw [a0c] at ht
   exact ⟨δ,S,Y,_,R,ht,⟨fun δ' S' σ' H' q P R'=>⟨δ',S',Y,F,R',q,rs.mono P,rw'.mono P⟩,rs.rt,rs.bk,rs.ct⟩,rw'⟩
  ·cases h
 | .cut s r,sc,x,h=>by
  unfold a1m at h
  split at h
  ·rw [zak] at h
   refine fun X G W k c=>PSs.imp (pss_cons (sS s sc _ h.1 X G W k c) (sSs r sc _ h.2 X G W k c)) fun D σ H q=>?_
   obtain ⟨δ,S,Y,F,R,ht,rs,rw'⟩:=q
   rw [a0c] at ht
   obtain ⟨J,hs,hj⟩:=ht
   exact ⟨δ,S,Y,_,R,hs,⟨fun δ' S' σ' H' q P R'=>⟨δ',S',Y,F,R',hj δ' S' q,rs.mono P,rw'.mono P⟩,rs.rt,rs.bk,rs.ct⟩,rw'⟩
  ·cases h
 | .frz i r,sc,x,h=>by
  unfold a1m at h
  refine fun X G W k c=>PSs.imp (sSs r sc x h X G W k c) fun D σ H q=>?_
  obtain ⟨δ,S,Y,F,R,ht,rs,rw'⟩:=q
  rw [a0c] at ht
  rcases ht with ht | ⟨a,ea,ht⟩
  ·exact ⟨δ,S,Y,F,R,ht,rs,rw'⟩
  obtain ⟨v,ev,rv⟩:=R.sl.at_ i _ ea
  cases a0r rv
  have hlt:i < σ.length:=by
   obtain ⟨hh,_⟩:=List.getElem?_eq_some_iff.mp ev
   exact hh
  have es:σ.set i (some (V.ref a))=σ:=by
   apply List.ext_getElem?
   intro j
   by_cases e:i=j
   ·subst e;rw [List.getElem?_set_self hlt,ev]
   ·rw [List.getElem?_set_ne e]
  rcases ht with ⟨ds,e1,q⟩ | ⟨ds,e1,q⟩
  ·have R2:Rel G.toGd (S.del a) H (δ.set i (some (.lst ds))) (σ.set i (some (V.ref a))):=⟨(R.sl.mono (a0d.freeze e1)).set (Rep.freeze R.ce e1),R.ce.freeze e1⟩
   rw [es] at R2
   exact ⟨_,_,Y,F,R2,q,rs.mono (a0d.freeze e1),rw'.mono (a0d.freeze e1)⟩
  ·have R2:Rel G.toGd (S.del a) H (δ.set i (some (.dic ds))) (σ.set i (some (V.ref a))):=⟨(R.sl.mono (a0d.freeze e1)).set (Rep.freezeK R.ce e1),R.ce.freeze e1⟩
   rw [es] at R2
   exact ⟨_,_,Y,F,R2,q,rs.mono (a0d.freeze e1),rw'.mono (a0d.freeze e1)⟩
end
def Meets (n:SN) (G:Option (Addr × Obj)→Gs) (np:Nat) (hot:Bool) (T:TR) (b:RSs):Prop:=∀ (m:Option (Addr × Obj)),m.isSome=hot→∀ (ds:List D) (S:SS) (K:DK) (Y:XK'),T m ds S K Y→ds.length=np ∧
 a0c (G m) b (ds.map some ++ List.replicate (n.N.length - ds.length) none) S (fun C fs _ S'=>Y C fs S') { nx:=fun _ S'=>K .non S',rt:=K,bk:=fun _ _=>False,ct:=fun _ _=>False }
theorem c5q {P:Program} {w:World} {K:zbj} {mg:Str→Option Value} {base:Heap} {hot:Bool} {k:Nat} {f:Addr} {name qual:Str} {params:Arguments} {body:List Stmt} {scope:Scope} {dV kV doc pm cdv ct oc:Value} {an od:Option Addr}
  {osl:Array (Option Value)} {ps:List Str} {T:TR} {b:RSs} {G:Option (Addr × Obj)→Gs} {g:Gd} (lk:K.lookup f=some ⟨oc,od,.func (PySem.W.fnOf name qual params body scope dV kV doc pm an cdv ct),osl⟩) (hcd:PySem.W.codeIn K cdv qual=true) (S:FnScope n.N ps scope)
  (hck:a1m n scope b body=true) (hG:∀ m,(G m).m0=m) (hg:∀ m,(G m).toGd=g) (ok:∀ m,GOk n P w K mg base (G m).toGm k) (xm:∀ m j x kd,(G m).xk j=some kd→n.cls[j]?=some x→MkF P w K mg base k ((G m).cl j) kd)
  (hm:Meets n G ps.length hot T b):FnG P w K mg base hot (k + 1) f (PySem.W.fnOf name qual params body scope dV kV doc pm an cdv ct) ps (spD g T):=by
 refine b3h lk hcd S (fun m vs H Q E hmh h=>?_) fun A outer s H vs Q E m hmh hM hr hsp=>?_
 ·obtain ⟨ds,S0,K0,Y0,ce,rp,ht,_⟩:=h
  rw [← rp.length]
  exact (hm m hmh ds S0 K0 Y0 ht).1
 ·obtain ⟨ds,S0,K0,Y0,ce,rp,ht,res,rex⟩:=hsp
  obtain ⟨hl,hd⟩:=hm m hmh ds S0 K0 Y0 ht
  have hx:XS n (cxM P w K mg base n.N qual scope f cdv A outer s H E m) (G m) (fun cls d _ H'=>E cls d H') k scope:=by
   refine ⟨⟨ok m,rfl,b3N.self (fun _=>rfl),?_,?_,?_,?_⟩,rfl,fun _=>rfl,rfl,rfl,xm m⟩
   ·exact hr
   ·rw [hG m]
    cases m with
    | none=>exact ⟨hM.1,rfl⟩
    | some p=>exact ⟨hM.1,⟨hM.2.1.1,hM.2.1.2⟩,zal⟩
   ·exact L2N.takes_of rfl rfl rfl rfl
   ·exact passes_of rfl
  refine ⟨_,sSs b scope body hck _ (G m) _ k hx,?_⟩
  have hN:ds.length≤n.N.length:=by
   have:=congrArg List.length S.pre
   rw [List.length_take] at this
   omega
  rw [hg m]
  refine ⟨_,S0,_,_,⟨a6y.start (N:=n.N) rp,ce⟩,hd,⟨fun δ' S' σ' H' q P R'=>res .non S' .non H' q P R'.ce (by simp only [Rep]),res,fun _ _ _ _ z=>z.elim,fun _ _ _ _ z=>z.elim⟩,fun C fs δ' S' d σ' H' y P R' x=>rex C fs S' d H' y P R'.ce x⟩
end Sv
namespace Sv
open PySem PySem.Spec PyProof.Rows L2 PySem.W PySem.Calls
open L2H (RoomH)
structure b50 (K:zbj) (mg:Str→Option Value) (s:Shared):Prop where
 inK:K.In s.heap
 main:s.heap.Ns mainGlobals mg
 builtins:∃ mb,s.heap.Ns builtinsNs mb∧∀ x:Str,x ≠ "__name__" → mb x=bootBuiltins x
 nolimit:s.heap.NoLimit
 noGens:s.gens=#[]
structure a1o (K:zbj) (P:Program) (w:World) (H:Hp) (s:Shared) (a:Addr) (xs:List V):Prop where
 list:SqL K H a xs
 ok:HOk P w H s.heap
 frozen:∀ b u,H b=some u→∃ o ys,u=.frz o (.lst ys)
 own:∀ b u,H b=some u→K.lookup b=none∧∃ items n,(∃ o,s.heap.get? b=some o∧o.data=.seq items n)
theorem a1o.is {K:zbj} {P:Program} {w:World} {s:Shared} {a:Addr} {vs:List Value} {ns:List Int} (inK:K.In s.heap) (at_a:s.heap.get? a=some { cls:=.type "list",data:=.seq vs.toArray }) (whole:IntsAre vs ns) (short:ns.length≤sizeLine) :
  ∃ H,a1o K P w H s a (ns.map V.int):=by
 have reads:=vals_ints whole
 have size:vs.toArray.size≤sizeLine:=by rw [List.size_toArray,whole.length];exact short
 cases known:K.lookup a with
 | some o =>
  have same:=(inK a o known).symm.trans at_a
  cases same
  exact ⟨fun _=>none,.inr ⟨_,_,_,known,rfl,rfl,rfl,size,by simpa using reads⟩,nofun,nofun,nofun⟩
 | none =>
  let kept:HO:=.frz { cls:=.type "list",data:=.seq vs.toArray } (.lst (ns.map V.int))
  have only:∀ {b u},(if b=a then some kept else none)=some u→b=a∧u=kept:=by
   intro b u e
   split at e
   ·exact ⟨‹_›,(Option.some.inj e).symm⟩
   ·cases e
  refine ⟨fun b=>if b=a then some kept else none,.inl (.inr ⟨_,if_pos rfl⟩),?_,?_,?_⟩
  all_goals
   intro b u e
   obtain ⟨rfl,rfl⟩:=only e
  ·exact ⟨at_a,by rw [zag];exact short,vs,_,reads,at_a⟩
  ·exact ⟨_,_,rfl⟩
  ·exact ⟨known,_,_,_,at_a,rfl⟩
theorem a1o.base {K:zbj} {P:Program} {w:World} {H:Hp} {s:Shared} {a:Addr} {xs:List V} (T:a1o K P w H s a xs) {b:Addr} {o:Obj} (e:s.heap.get? b=some o) (no:∀ items n,o.data≠.seq items n):(hidT s.heap H).get? b=some o:=by
 cases tracked:H b with
 | none=>exact hidT_get e tracked
 | some u =>
  have ⟨_,items,n,o',e',d⟩:=T.own b u tracked
  cases e.symm.trans e'
  exact (no _ _ d).elim
theorem a1o.names {K:zbj} {P:Program} {w:World} {H:Hp} {s:Shared} {a:Addr} {xs:List V} (T:a1o K P w H s a xs) {b:Addr} {m:Str→Option Value}:s.heap.Ns b m→(hidT s.heap H).Ns b m
 | ⟨o,es,ep,e,d,r⟩=>⟨o,es,ep,T.base e (by rw [d];nofun),d,r⟩
theorem a1o.inK {K:zbj} {P:Program} {w:World} {H:Hp} {s:Shared} {a:Addr} {xs:List V} (T:a1o K P w H s a xs) (k:K.In s.heap):K.In (hidT s.heap H):=by
 intro b o known
 cases tracked:H b with
 | none=>exact hidT_get (k b o known) tracked
 | some u=>cases known.symm.trans (T.own b u tracked).1
theorem a1o.env {K:zbj} {P:Program} {w:World} {mg:Str→Option Value} {H:Hp} {s:Shared} {a:Addr} {xs:List V} (T:a1o K P w H s a xs) (G:b50 K mg s):Env0 P w K mg (hidT s.heap H) callerA [] s H where
 frames:=rfl
 mod:=⟨T.inK G.inK,T.names G.main,G.builtins.imp fun _ z=>⟨T.names z.1,z.2⟩,G.nolimit.imp fun _ z=>⟨T.names z.1,z.2⟩⟩
 bs b o e:=of_hidT e
 bsz:=Nat.le_of_eq (hidT_size _ _)
 funs:=trivial
 frf b z:=nomatch (show b∈([]:List Addr) from z)
 hok:=T.ok
 bare:=.of_eq G.noGens
theorem a1o.old {K:zbj} {P:Program} {w:World} {H H':Hp} {s s':Shared} {a:Addr} {xs:List V} (T:a1o K P w H s a xs) (un:Un (frs ([]:List Env)) [] H H' s.heap s'.heap) (hok:HOk P w H' s'.heap):OldK s.heap s'.heap:=by
 refine OldK.of_keep fun b o e=>?_
 cases tracked:H b with
 | none=>exact un.keep b o e tracked (fun z=>nomatch (show b∈([]:List Addr) from z)) (by simp)
 | some u =>
  obtain ⟨o',ys,rfl⟩:=T.frozen b u tracked
  cases e.symm.trans (T.ok b _ tracked).1
  exact (hok b _ (un.frzs b _ _ tracked)).1
theorem b4x {P:Program} {w:World} {K:zbj} {mg:Str→Option Value} {k:Nat} {fa a:Addr} {fd:FuncData} {x:Str} {sp:SpM} {s:Shared} {vs:List Value} {ns:List Int} (G:b50 K mg s)
  (at_a:s.heap.get? a=some { cls:=.type "list",data:=.seq vs.toArray }) (whole:IntsAre vs ns) (short:ns.length≤sizeLine) (room:RoomH k callerA) (F:∀ base:Heap,K.In base→base.Ns mainGlobals mg→FnG P w K mg base false k fa fd [x] sp)
  (binds:∀ (s:Shared) (u:Value),BindsTo s fd ⟨[u],[]⟩ [(x,u)]) (does:∀ H:Hp,SqL K H a (ns.map V.int)→sp none [.ref a] H (fun v _=>v=.bl true) fun _ _ _=>False) :
  codeAny (model P w) callerA (.call (.ref fa) ⟨[.ref a],[]⟩) (fun r s'=>r=.ok (.ret (.bool true))∧OldK s.heap s'.heap∧s'.os=s.os∧AllBare s'.gens) s:=by
 have ⟨H,T⟩:=a1o.is (P:=P) (w:=w) G.inK at_a whole short
 have promise:=F _ (T.inK G.inK) (T.names G.main)
 have walked:=promise.run callerA [] s H ⟨[.ref a],[]⟩ [.ref a] [.ref a] _ _ none rfl room ⟨rfl,rfl⟩ (T.env G) (binds s _) (.cons rfl .nil) (does H T.list)
 refine codeAny_mono walked ?_
 rintro (err | fl) s' told
 ·have ⟨_,_,_,_,_,_,_,_,_,_,_,_,never⟩:=told
  exact never.elim
 ·cases fl with
  | ret u =>
   obtain ⟨v,H',sameOs,bare,un,hok,rel,rfl⟩:=told
   have is:u=.bool true:=rel
   exact ⟨congrArg (fun z=>Except.ok (Flow.ret z)) is,T.old un hok,sameOs,bare⟩
  | _=>exact told.elim
theorem walk_ofG {l:PySem.W.OpenLaw} {n k:Nat} {q:Program} {loose:List Str} {XP:(Str→Option Value)→Heap→Prop} {YP:World→Heap→Prop} {d:DefRec} {x:Str} (most:l.most=some n) (few:n≤sizeLine) (noDf:d.params.defaults=[]) (room:RoomH k callerA)
  (kept:∀ w mg fa h,YP w h→h.Ns mainGlobals mg→mg d.name=some (.ref fa)→∃ (K:zbj) (fd:FuncData) (sp:SpM),K.In h∧(∀ s u,BindsTo s fd ⟨[u],[]⟩ [(x,u)]) ∧
   (∀ H a (ns:List Int),ns.length≤n→SqL K H a (ns.map V.int)→sp none [.ref a] H (fun v _=>v=.bl true) fun _ _ _=>False)∧∀ base:Heap,K.In base→base.Ns mainGlobals mg→FnG l.prog w K mg base false k fa fd [x] sp) :
  PySem.W.WalkO q loose XP YP l.row.toRowW d [] fun f vs=>PySem.call f vs :=
 Att.attach_call most noDf fun w _ s₁ mg _ fa _ _ _ _ _ _ _ G told _ _ _ nm lst whole short noGens =>
  have ⟨_,_,_,inK,binds,does,F⟩:=kept w mg fa _ told G.T.g nm
  b4x ⟨inK,G.T.g,⟨_,G.T.b,G.T.builtins⟩,G.T.nolimit,noGens⟩ lst whole (Nat.le_trans short few) room F binds fun H o=>does H _ _ short o
def lawT (n:Nat):TR:=fun m ds S K Y=>∃ ns:List Int,ns.length≤n∧ds=[.lst (ns.map .int)]∧S=(fun _=>none)∧∀ S',K (.bl true) S'
theorem law_sp {g:Gd} {n:Nat} {H:Hp} {a:Addr} {ns:List Int} (hl:ns.length≤n) (hS:SqL g.K H a (ns.map V.int)):spD g (lawT n) none [.ref a] H (fun v _=>v=.bl true) fun _ _ _=>False:=by
 have ri:∀ ms:List Int,a0e g (fun _=>none) H (ms.map D.int) (ms.map V.int):=by
  intro ms
  induction ms with
  | nil=>simp only [List.map_nil,a0e]
  | cons m ms ih =>
   simp only [zax,a0e]
   exact ⟨_,_,rfl,by simp only [Rep],ih⟩
 refine ⟨[.lst (ns.map .int)],fun _=>none,fun d _=>d=.bl true,fun _ _ _=>False,(fun a c e=>nomatch e),?_,⟨ns,hl,rfl,rfl,fun _=>rfl⟩,?_,fun _ _ _ _ _ z=>z.elim⟩
 ·simp only [a0e,Rep]
  refine ⟨.ref a,[],rfl,⟨a,ns.map V.int,rfl,?_,ri ns⟩,rfl⟩
  rcases hS with h | h
  ·exact .inl ⟨rfl,h⟩
  ·exact .inr (.inr h)
 ·rintro d S' v H' rfl P c r
  exact a2x r
theorem b6t {r:Option CFound} {v:Value} (h:cvB r v=true):r=some (.val v):=by
 unfold cvB at h
 split at h
 ·rw [of_decide_eq_true h]
 ·cases h
section
variable {K:Frag} {x:Str}
theorem a72 (c:(Fx.oex x).ok K=true):OexC K (He.ga K x):=by
 have ⟨shape,c⟩:=He.ba (show b9i K (He.ga K x)=true from c)
 have ⟨sets,c⟩:=He.ba c
 have ⟨under,c⟩:=He.ba c
 have ⟨typ,kept⟩:=He.ba c
 refine ⟨?_,He.eqO_ok sets,of_decide_eq_true under,of_decide_eq_true typ,kept⟩
 split at shape
 ·rename_i dd cd sl look
  split at shape
  ·rename_i C' bm k0 k1 k2 k3 n k5 em es
   simp only [zak,zah,Bool.not_eq_true'] at shape
   obtain ⟨⟨⟨⟨here,new⟩,noDel⟩,dict⟩,tail⟩:=shape
   obtain ⟨nm,bs,mro,ns,qn,hd,sn,sub,ab,col,del⟩:=cd
   obtain ⟨ls⟩:=sl
   cases em;cases es;cases here;cases new;cases noDel;cases dict
   exact ⟨_,_,_,_,_,_,_,_,_,_,_,_,_,_,_,look,tail⟩
  ·cases shape
 ·cases shape
theorem b3k (c:(Fx.ini x).ok K=true):findIn K (.ref (He.ga K x)) "__init__" = some (some (.ref (He.ma K (He.ga K x) "__init__")))∧typeIn K (.ref (He.ma K (He.ga K x) "__init__"))=some (.type "function"):=by
 obtain ⟨c1,c2⟩:=He.ba c
 exact ⟨He.eqO_ok c1,of_decide_eq_true c2⟩
theorem b3b (c:(Fx.bas x).ok K=true):b97 K (He.ga K x):=by
 obtain ⟨c1,c⟩:=He.ba c
 obtain ⟨c2,c3⟩:=He.ba c
 exact ⟨c1,He.eqO_ok c2,b6t c3⟩
theorem b6Z (c:(Fx.exf x).ok K=true):b1e K (He.ga K x):=by
 have ⟨k1,c⟩:=He.ba (show c1m K x=true from c)
 have ⟨k2,c⟩:=He.ba c
 have ⟨k3,c⟩:=He.ba c
 have ⟨k4,c⟩:=He.ba c
 have ⟨k5,c⟩:=He.ba c
 have ⟨k6,c⟩:=He.ba c
 have ⟨k7,k8⟩:=He.ba c
 exact { hg:=He.eqO_ok k1,hk:=He.eqO_ok k2,hs:=of_decide_eq_true k3,hd:=k4,ha:=He.eqO_ok k5,hn:=He.eqO_ok k6,ht:=of_decide_eq_true k7,hm:=of_decide_eq_true k8 }
theorem b4f {xs:List Str} (c:(Fx.exfs xs).ok K=true) (hx:x∈xs):b1e K (He.ga K x):=b6Z (x:=x) (List.all_eq_true.mp c x hx)
theorem b3t {f:Str} (c:(Fx.nov x f).ok K=true):findIn K (.ref (He.ga K x)) f=some none:=He.eqO_ok c
theorem b8m {xs:List Str} {y:Str} (c:(Fx.sib xs).ok K=true) (hx:x∈xs) (hy:y∈xs):kitOne K (.ref (He.ga K x)) (.ref (He.ga K y))=some (decide (x=y)) :=
 of_decide_eq_true (List.all_eq_true.mp (List.all_eq_true.mp c x hx) y hy)
theorem b87 {xs:List Str} {n:String} (c:(Fx.veT xs n).ok K=true) (hx:x∈xs):kitOne K (.ref (He.ga K x)) (.type n)=some true:=of_decide_eq_true (List.all_eq_true.mp c x hx)
theorem b6Y {xs:List Str} {y:Str} (c:(Fx.exA xs y).ok K=true) (hx:x∈xs):exmOne K (.ref (He.ga K x)) (.ref (He.ga K y))=some true:=of_decide_eq_true (List.all_eq_true.mp c x hx)
end
def obsX (fa:List He.Fa) (fn:List He.DefD) (fx:List Fx) (K:Frag):AlX:=(He.obsD fa fn K,fx.all fun f=>f.ok K)
def SaysX (fa:List He.Fa) (fn:List He.DefD) (fx:List Fx) (K:Frag):Prop:=obsX fa fn fx K=(He.valD fn,true)
section
variable {fa:List He.Fa} {fn:List He.DefD} {fx:List Fx} {K:Frag}
theorem SaysX.d (c:SaysX fa fn fx K):He.SaysD fa fn K:=congrArg (fun z:AlX=>z.1) c
theorem SaysX.fact (c:SaysX fa fn fx K) (i:Nat) {f:Fx} (h:fx[i]?=some f):f.ok K=true:=by
 have c1:(fx.all fun f=>f.ok K)=true:=congrArg (fun z:AlX=>z.2) c
 exact List.all_eq_true.mp c1 f (zaq h)
end
theorem c1p {n:SN} {P:Program} {w:World} {K:zbj} {mg:Str→Option Value} {base:Heap} {hot:Bool} {k:Nat} {f:Addr} {fd:FuncData} {x qual:Str} {params:Arguments} {body:List Stmt} {scope:Scope} {dvs:List V} {kws:List (Str × V)} {ps:List Str} {T:TR} {b:RSs} {G:Option (Addr × Obj)→Gs} {g:Gd}
  (F:FunD K x qual params body scope dvs kws f fd) (S:FnScope n.N ps scope)
  (hck:a1m n scope b body=true) (hG:∀ m,(G m).m0=m) (hg:∀ m,(G m).toGd=g) (ok:∀ m,GOk n P w K mg base (G m).toGm k) (xm:∀ m j x kd,(G m).xk j=some kd→n.cls[j]?=some x→MkF P w K mg base k ((G m).cl j) kd)
  (hm:Meets n G ps.length hot T b):FnG P w K mg base hot (k + 1) f fd ps (spD g T):=by
 obtain ⟨oc,od,dV,kV,doc,pm,an,cdv,ct,osl,rfl,lk,hcd,_,_⟩:=F.ex
 exact c5q lk hcd S hck hG hg ok xm hm
theorem a7F {P:Program} {w:World} {K:zbj} {mg:Str→Option Value} {base:Heap} {k:Nat} {f:Addr} {fd:FuncData} {x qual:Str} {params:Arguments} {body:List Stmt} {scope:Scope} {dvs:List V} {kws:List (Str × V)} {N:List Str} {C B:Addr} {z fl:Str}
  (F:FunD K x qual params body scope dvs kws f fd) (S:FnScope N N scope) (hb:b4q N scope fl body z=true) (hz:mg z=some (.ref B)) (bf:b97 K B) (T:OexC K C) (no:PySem.W.findIn K (.ref C) fl=some none):FnG P w K mg base false (k + 1) f fd N (spI C fl):=by
 obtain ⟨oc,od,dV,kV,doc,pm,an,cdv,ct,osl,rfl,lk,hcd,_,_⟩:=F.ex
 exact b4k lk hcd S hb hz bf T no
end Sv
namespace Sv
open PySem PySem.Spec PyProof.Rows L2
open L2H (RoomH)
structure Tb where
 fns:List En
 cls:List Str
 gvs:List Str
 tc:List (Option TR)
 th:List (Option TR)
 gv:List D
 xk:List (Option XKd)
 hd:List Nat
 kd:List (Option (List (Key × D)))
def Tb.lo (t:Tb) (i:Nat):Nat:=t.hd.getD i 0
def Tb.sn (t:Tb) (N:List Str):SN:=⟨N,t.fns,t.cls,t.gvs⟩
def Tb.T (t:Tb) (h:Bool) (j:Nat):Option TR:=(if h=true then t.th else t.tc)[j]?.join
def Tb.C (t:Tb) (K:zbj) (j:Nat):Addr:=He.ga K (t.cls.getD j "")
def Tb.M (t:Tb) (K:zbj) (j:Nat):Addr:=match t.fns[j]? with
 | some (.mt C _)=>He.ga K C
 | _=>0
def Tb.G (t:Tb) (K:zbj) (i:Nat) (m:Option (Addr × Obj)):Gs :=
 { K:=K,m0:=m,fn:=fun h j=>if j < t.lo i then t.T h j else none,gv:=fun j=>t.gv.getD j .non,cl:=fun j=>t.C K j,mc:=fun j=>t.M K j,xk:=fun j=>t.xk[j]?.join,kd:=fun j=>t.kd[j]?.join }
structure c0h (t:Tb) (w:World) (K:zbj) (mg:Str→Option Value):Prop where
 cl:∀ x,x∈t.cls→mg x=some (.ref (He.ga K x))
 gv:∀ j x,t.gvs[j]?=some x→∃ v u,mg x=some u∧RelV v u∧∀ S H,Rep ⟨K⟩ S H (t.gv.getD j .non) v
 bt:∀ x,x∈a4y→mg x=none
 kd:∀ (j:Nat) (x:Str) (kvs:List (Key × D)),t.gvs[j]?=some x→t.kd[j]?.join=some kvs→∃ p,mg x=some (.ref p)∧b51 K w p kvs
def c3V (K:zbj) (mg:Str→Option Value) (f:Addr):En→Prop
 | .fn x=>mg x=some (.ref f)∧PySem.W.keepIn K (.ref f)=true
 | .mt C m=>Cls K (He.ga K C)∧Meth K (He.ga K C) m f∧(m = "__init__" → mg C=some (.ref (He.ga K C))∧Mk K (He.ga K C) f)
def a0z (t:Tb) (P:Program) (w:World) (K:zbj) (mg:Str→Option Value) (base:Heap) (i d:Nat):Prop:=∀ h j T x,j < i→t.T h j=some T→t.fns[j]?=some x →
 ∃ f fd ps,c3V K mg f x∧L2.Binds K fd ps []∧FnG P w K mg base h (2 * d + 2) f fd ps (spD ⟨K⟩ T)
section
variable {t:Tb} {P:Program} {w:World} {K:zbj} {mg:Str→Option Value} {base:Heap} {i d:Nat}
theorem a0z.zero:a0z t P w K mg base 0 0:=fun h j T x hj=>absurd hj (Nat.not_lt_zero _)
theorem a0z.step {e:Nat} (A:a0z t P w K mg base i e) (he:e≤d + 1) {x:En} {f:Addr} {fd:FuncData} {ps:List Str} (hx:t.fns[i]?=some x) (at_f:c3V K mg f x) (b:L2.Binds K fd ps [])
  (hc:∀ T,t.T false i=some T→FnG P w K mg base false (2 * d + 4) f fd ps (spD ⟨K⟩ T)) (hh:∀ T,t.T true i=some T→FnG P w K mg base true (2 * d + 4) f fd ps (spD ⟨K⟩ T)):a0z t P w K mg base (i + 1) (d + 1):=by
 intro h j T y hj hT hy
 by_cases e:j < i
 ·obtain ⟨f,fd,ps,h1,h2,F⟩:=A h j T y e hT hy
  exact ⟨f,fd,ps,h1,h2,F.mono (by omega)⟩
 ·have e:j=i:=by omega
  subst e
  rw [hx] at hy
  cases hy
  refine ⟨f,fd,ps,at_f,b,?_⟩
  cases h with
  | false=>exact hc T hT
  | true=>exact hh T hT
theorem a0z.gok (A:a0z t P w K mg base (t.lo i) d) (ok:c0h t w K mg) {N:List Str} (nd:N.Nodup) (m:Option (Addr × Obj)):GOk (t.sn N) P w K mg base (t.G K i m).toGm (2 * d + 3) where
 K:=rfl
 nd:=nd
 fn:=fun h j T x hT hx=>by
  have hT:(if j < t.lo i then t.T h j else none)=some T:=hT
  split at hT
  ·rename_i hj
   obtain ⟨f,fd,ps,h1,h2,F⟩:=A h j T _ hj hT hx
   exact ⟨f,fd,ps,h1.1,h1.2,h2,F.mono (by omega)⟩
  ·cases hT
 meth:=fun h j T C m hT hx=>by
  have hT:(if j < t.lo i then t.T h j else none)=some T:=hT
  split at hT
  ·rename_i hj
   obtain ⟨f,fd,ps,h1,h2,F⟩:=A h j T _ hj hT hx
   have e:t.M K j=He.ga K C:=by
    have hx:t.fns[j]?=some (.mt C m):=hx
    unfold Tb.M
    rw [hx]
   show ∃ f fd ps,Cls K (t.M K j)∧Meth K (t.M K j) m f∧_
   rw [e]
   exact ⟨f,fd,ps,h1.1,h1.2.1,h2,F.mono (by omega)⟩
  ·cases hT
 made:=fun j T C hT hx=>by
  have hT:(if j < t.lo i then t.T false j else none)=some T:=hT
  split at hT
  ·rename_i hj
   obtain ⟨f,fd,ps,h1,h2,F⟩:=A false j T _ hj hT hx
   have e:t.M K j=He.ga K C:=by
    have hx:t.fns[j]?=some (.mt C "__init__"):=hx
    unfold Tb.M
    rw [hx]
   show mg C=some (.ref (t.M K j))∧∃ f fd ps kI,Mk K (t.M K j) f∧_
   rw [e]
   exact ⟨(h1.2.2 rfl).1,f,fd,ps,_,(h1.2.2 rfl).2,h2,Nat.le_refl _,F⟩
  ·cases hT
 gv:=ok.gv
 cl:=fun j x hx=>by
  have hx:t.cls[j]?=some x:=hx
  have e:t.cls.getD j "" = x:=by rw [List.getD_eq_getElem?_getD,hx];rfl
  show mg x=some (.ref (He.ga K (t.cls.getD j "")))
  rw [e]
  exact ok.cl x (zaq hx)
 bt:=ok.bt
 kd:=ok.kd
def XOk (t:Tb) (P:Program) (w:World) (K:zbj) (mg:Str→Option Value) (base:Heap):Prop:=∀ (j:Nat) (x:Str) (kd:XKd),t.xk[j]?.join=some kd→t.cls[j]?=some x→MkF P w K mg base 2 (He.ga K x) kd
theorem MkF.mono {C:Addr} {kd:XKd} {j k:Nat} (h:MkF P w K mg base j C kd) (hj:j≤k):MkF P w K mg base k C kd:=by
 cases h with
 | fld T iC tI F b hk=>exact .fld T iC tI F b (Nat.le_trans hk hj)
 | bare Fb q kC e1 e2=>exact .bare Fb q kC e1 e2
theorem a0t {hot:Bool} {f:Addr} {fd:FuncData} {x qual:Str} {params:Arguments} {body:List Stmt} {scope:Scope} {dvs:List V} {kws:List (Str × V)} {N ps:List Str} {T:TR} {b:RSs}
  (A:a0z t P w K mg base (t.lo i) d) (ok:c0h t w K mg) (xo:XOk t P w K mg base) (F:FunD K x qual params body scope dvs kws f fd) (S:FnScope N ps scope) (hck:a1m (t.sn N) scope b body=true) (hm:Meets (t.sn N) (t.G K i) ps.length hot T b):FnG P w K mg base hot (2 * d + 4) f fd ps (spD ⟨K⟩ T):=by
 refine c1p (n:=t.sn N) (G:=t.G K i) (k:=2 * d + 3) F S hck (fun _=>rfl) (fun _=>rfl) (fun m=>A.gok ok S.nd m) (fun m j y kd h hy=>?_) hm
 have hy:t.cls[j]?=some y:=hy
 have e:t.cls.getD j "" = y:=by rw [List.getD_eq_getElem?_getD,hy];rfl
 show MkF P w K mg base (2 * d + 3) (He.ga K (t.cls.getD j "")) kd
 rw [e]
 exact (xo j y kd h hy).mono (by omega)
end
end Sv
namespace Sv
open PySem PySem.Spec PyProof.Rows L2
class Rdg (p:Prop) (q:outParam Prop):Prop where
 go:q→p
class M0 (m:Option (Addr × Obj)):Prop where
 out:m=none
instance {t:Tb} {K:zbj} {i:Nat}:M0 (t.G K i none).toGm.m0:=⟨rfl⟩
section
variable {G:Gm} {δ:DS} {S:SS} {Y:XD'} {K:DK} {KT:Bool→SS→Prop} {KL:List D→SS→Prop} {a b c:RE} {es:RL} {d x y:D} {i j:Int} {p:Addr} {op:Operator}
theorem c1i {i:Nat} (h:δ[i]?=some (some d)) (k:K d S):den G (.var i) δ S Y K:=by rw [den];dsimp only;rw [h];exact k
theorem b1B {r:RC} (k:K r.d S):den G (.con r) δ S Y K:=by rw [den];exact k
theorem a5b {b:Bn} (hb:b.needs G.m0) (h:a0q G es δ S Y fun ds S1=>b.den ds S1 K):den G (.bi b es) δ S Y K:=by rw [den];exact ⟨hb,h⟩
theorem c03 {i:Int} (k:K (.int i) S):den G (.con (.int i)) δ S Y K:=b1B k
instance c2z {i:Int}:Rdg (den G (.con (.int i)) δ S Y K) (K (.int i) S):=⟨c03⟩
theorem c1g {i:Str} (k:K (.str i) S):den G (.con (.str i)) δ S Y K:=b1B k
instance c2M {i:Str}:Rdg (den G (.con (.str i)) δ S Y K) (K (.str i) S):=⟨c1g⟩
theorem c5e {i:Bool} (k:K (.bl i) S):den G (.con (.bl i)) δ S Y K:=b1B k
instance c4m {i:Bool}:Rdg (den G (.con (.bl i)) δ S Y K) (K (.bl i) S):=⟨c5e⟩
theorem c09 (k:K .non S):den G (.con .non) δ S Y K:=b1B k
instance c2F  : Rdg (den G (.con .non) δ S Y K) (K .non S):=⟨c09⟩
theorem b6J (h:a0q G es δ S Y fun ds S1=>Bn.len.den ds S1 K):den G (.bi .len es) δ S Y K:=a5b trivial h
instance b9w  : Rdg (den G (.bi .len es) δ S Y K) (a0q G es δ S Y fun ds S1=>Bn.len.den ds S1 K):=⟨b6J⟩
theorem b6E (h:a0q G es δ S Y fun ds S1=>Bn.abs.den ds S1 K):den G (.bi .abs es) δ S Y K:=a5b trivial h
instance b9r  : Rdg (den G (.bi .abs es) δ S Y K) (a0q G es δ S Y fun ds S1=>Bn.abs.den ds S1 K):=⟨b6E⟩
theorem a8r {i:Nat} (k:K (G.gv i) S):den G (.glb i) δ S Y K:=by rw [den];exact k
theorem c0Y (h:den G a δ S Y fun x S1=>den G b δ S1 Y fun y S2=>opD op x y S2 K):den G (.bin op a b) δ S Y K:=by rw [den];exact h
instance c2u  : Rdg (den G (.bin op a b) δ S Y K) (den G a δ S Y fun x S1=>den G b δ S1 Y fun y S2=>opD op x y S2 K):=⟨c0Y⟩
theorem c08 (h:den G a δ S Y fun x S1=>∃ i,x=.int i∧K (.int (-i)) S1):den G (.neg a) δ S Y K:=by rw [den];exact h
instance c2E  : Rdg (den G (.neg a) δ S Y K) (den G a δ S Y fun x S1=>∃ i,x=.int i∧K (.int (-i)) S1):=⟨c08⟩
theorem c5i (h:den G a δ S Y fun x S1=>a1n x S1 fun b=>K (.bl (!b)) S1):den G (.nt a) δ S Y K:=by rw [den];exact h
instance c4q  : Rdg (den G (.nt a) δ S Y K) (den G a δ S Y fun x S1=>a1n x S1 fun b=>K (.bl (!b)) S1):=⟨c5i⟩
theorem c0X (h:a0S G es δ S Y K):den G (.and es) δ S Y K:=by rw [den];exact h
instance c2t  : Rdg (den G (.and es) δ S Y K) (a0S G es δ S Y K):=⟨c0X⟩
theorem c5j (h:a1C G es δ S Y K):den G (.or es) δ S Y K:=by rw [den];exact h
instance c4r  : Rdg (den G (.or es) δ S Y K) (a1C G es δ S Y K):=⟨c5j⟩
theorem b6v (h:den G a δ S Y K):a0S G (.cons a .nil) δ S Y K:=by rw [a0S];exact h
instance b9m  : Rdg (a0S G (.cons a .nil) δ S Y K) (den G a δ S Y K):=⟨b6v⟩
theorem c1b (h:den G a δ S Y K):a1C G (.cons a .nil) δ S Y K:=by rw [a1C];exact h
instance c2H  : Rdg (a1C G (.cons a .nil) δ S Y K) (den G a δ S Y K):=⟨c1b⟩
theorem b6w (h:den G a δ S Y fun x S1=>a1n x S1 fun k=>if k=true then a0S G (.cons b es) δ S1 Y K else K x S1):a0S G (.cons a (.cons b es)) δ S Y K:=by rw [a0S];exact h
instance b9n  : Rdg (a0S G (.cons a (.cons b es)) δ S Y K) (den G a δ S Y fun x S1=>a1n x S1 fun k=>if k=true then a0S G (.cons b es) δ S1 Y K else K x S1):=⟨b6w⟩
theorem c1c (h:den G a δ S Y fun x S1=>a1n x S1 fun k=>if k=true then K x S1 else a1C G (.cons b es) δ S1 Y K):a1C G (.cons a (.cons b es)) δ S Y K:=by rw [a1C];exact h
instance c2I  : Rdg (a1C G (.cons a (.cons b es)) δ S Y K) (den G a δ S Y fun x S1=>a1n x S1 fun k=>if k=true then K x S1 else a1C G (.cons b es) δ S1 Y K):=⟨c1c⟩
theorem c02 (h:a0o G c δ S Y fun k S1=>if k=true then den G a δ S1 Y K else den G b δ S1 Y K):den G (.ife c a b) δ S Y K:=by rw [den];exact h
instance c2y  : Rdg (den G (.ife c a b) δ S Y K) (a0o G c δ S Y fun k S1=>if k=true then den G a δ S1 Y K else den G b δ S1 Y K):=⟨c02⟩
theorem c00 {op:CmpOp} (h:den G a δ S Y fun x S1=>den G b δ S1 Y fun y S2=>a0D op x y S2 K):den G (.cmp op a b) δ S Y K:=by rw [den];exact h
instance c2w {op:CmpOp}:Rdg (den G (.cmp op a b) δ S Y K) (den G a δ S Y fun x S1=>den G b δ S1 Y fun y S2=>a0D op x y S2 K):=⟨c00⟩
theorem c0Z {o1 o2:CmpOp} (h:den G a δ S Y fun x S1=>den G b δ S1 Y fun y S2=>a0D o1 x y S2 fun z S3=>∃ k,z=.bl k∧if k=true then den G c δ S3 Y fun w S4=>a0D o2 y w S4 K else K (.bl false) S3):den G (.chn o1 o2 a b c) δ S Y K:=by rw [den];exact h
instance c2v {o1 o2:CmpOp}:Rdg (den G (.chn o1 o2 a b c) δ S Y K) (den G a δ S Y fun x S1=>den G b δ S1 Y fun y S2=>a0D o1 x y S2 fun z S3=>∃ k,z=.bl k∧if k=true then den G c δ S3 Y fun w S4=>a0D o2 y w S4 K else K (.bl false) S3):=⟨c0Z⟩
theorem c06 (h:a0q G es δ S Y fun ds S1=>ds.length≤sizeLine∧K (.lst ds) S1):den G (.lst false es) δ S Y K:=by
 rw [den];simpa only [Bool.false_eq_true,if_false] using h
instance c2C  : Rdg (den G (.lst false es) δ S Y K) (a0q G es δ S Y fun ds S1=>ds.length≤sizeLine∧K (.lst ds) S1):=⟨c06⟩
theorem b6y (h:a0q G es δ S Y fun ds S1=>ds.length≤sizeLine∧∀ p,S1 p=none→K (.obj p) (S1.set p (.lst ds))):den G (.lst true es) δ S Y K:=by
 rw [den];simpa only [if_true] using h
instance b9o  : Rdg (den G (.lst true es) δ S Y K) (a0q G es δ S Y fun ds S1=>ds.length≤sizeLine∧∀ p,S1 p=none→K (.obj p) (S1.set p (.lst ds))):=⟨b6y⟩
theorem c1h (h:a0q G es δ S Y fun ds S1=>ds.length≤sizeLine∧K (.tup ds) S1):den G (.tup es) δ S Y K:=by rw [den];exact h
instance c2N  : Rdg (den G (.tup es) δ S Y K) (a0q G es δ S Y fun ds S1=>ds.length≤sizeLine∧K (.tup ds) S1):=⟨c1h⟩
theorem c5f (h:den G a δ S Y fun x S1=>den G b δ S1 Y fun y S2=>ixD x y S2 K):den G (.ix a b) δ S Y K:=by rw [den];exact h
instance c4n  : Rdg (den G (.ix a b) δ S Y K) (den G a δ S Y fun x S1=>den G b δ S1 Y fun y S2=>ixD x y S2 K):=⟨c5f⟩
theorem c1f {lo hi:RO} (h:den G a δ S Y fun x S1=>a2k G lo δ S1 Y fun l S2=>a2k G hi δ S2 Y fun u S3=>b5I x l u S3 K):den G (.slc a lo hi) δ S Y K:=by rw [den];exact h
instance c2L {lo hi:RO}:Rdg (den G (.slc a lo hi) δ S Y K) (den G a δ S Y fun x S1=>a2k G lo δ S1 Y fun l S2=>a2k G hi δ S2 Y fun u S3=>b5I x l u S3 K):=⟨c1f⟩
theorem c5k {lo hi:RO} (h:den G a δ S Y fun x S1=>a2k G lo δ S1 Y fun l S2=>a2k G hi δ S2 Y fun u S3=>slD x l u S3 K):den G (.sl a lo hi) δ S Y K:=by rw [den];exact h
instance c4s {lo hi:RO}:Rdg (den G (.sl a lo hi) δ S Y K) (den G a δ S Y fun x S1=>a2k G lo δ S1 Y fun l S2=>a2k G hi δ S2 Y fun u S3=>slD x l u S3 K):=⟨c5k⟩
theorem c5h {KO:Option Int→SS→Prop} (k:KO none S):a2k G .nn δ S Y KO:=by rw [a2k];exact k
instance c4p {KO:Option Int→SS→Prop}:Rdg (a2k G .nn δ S Y KO) (KO none S):=⟨c5h⟩
theorem c5l {KO:Option Int→SS→Prop} (k:den G a δ S Y fun d S1=>∃ i,d=.int i∧KO (some i) S1):a2k G (.ss a) δ S Y KO:=by rw [a2k];exact k
instance c4t {KO:Option Int→SS→Prop}:Rdg (a2k G (.ss a) δ S Y KO) (den G a δ S Y fun d S1=>∃ i,d=.int i∧KO (some i) S1):=⟨c5l⟩
theorem c01 {f:Str} (h:den G a δ S Y fun x S1=>b1F G f x S1 K):den G (.fld a f) δ S Y K:=by rw [den];exact h
instance c2x {f:Str}:Rdg (den G (.fld a f) δ S Y K) (den G a δ S Y fun x S1=>b1F G f x S1 K):=⟨c01⟩
theorem a0b {j:Nat} {T:TR} (hT:G.fn G.m0.isSome j=some T) (h:a0q G es δ S Y fun ds S1=>T G.m0 ds S1 K fun C fs S'=>Y C fs δ S'):den G (.call j es) δ S Y K:=by rw [den];exact ⟨T,hT,h⟩
theorem c04 {cn:Cn} (h:den G a δ S Y fun x S1=>∃ t b,tyD S1 x=some t∧a2L G S1 x∧PySem.W.kitOne G.K t (cn.val G)=some b∧K (.bl b) S1):den G (.isi a cn) δ S Y K:=by rw [den];exact h
theorem c05 {js:List Nat} (h:den G a δ S Y fun x S1=>∃ t b,tyD S1 x=some t∧a2L G S1 x∧PySem.W.kitAny G.K t (js.map fun j=>Value.ref (G.cl j))=some b∧K (.bl b) S1):den G (.ist a js) δ S Y K:=by rw [den];exact h
instance c2A {cn:Cn}:Rdg (den G (.isi a cn) δ S Y K) (den G a δ S Y fun x S1=>∃ t b,tyD S1 x=some t∧a2L G S1 x∧PySem.W.kitOne G.K t (cn.val G)=some b∧K (.bl b) S1):=⟨c04⟩
instance c2B {js:List Nat}:Rdg (den G (.ist a js) δ S Y K) (den G a δ S Y fun x S1=>∃ t b,tyD S1 x=some t∧a2L G S1 x∧PySem.W.kitAny G.K t (js.map fun j=>Value.ref (G.cl j))=some b∧K (.bl b) S1):=⟨c05⟩
theorem c1C (k:KL [] S):a0q G .nil δ S Y KL:=by rw [a0q];exact k
instance c2Y  : Rdg (a0q G .nil δ S Y KL) (KL [] S):=⟨c1C⟩
theorem b7v (k:den G a δ S Y fun d S1=>a0q G es δ S1 Y fun ds S2=>KL (d :: ds) S2):a0q G (.cons a es) δ S Y KL:=by rw [a0q];exact k
instance b9L  : Rdg (a0q G (.cons a es) δ S Y KL) (den G a δ S Y fun d S1=>a0q G es δ S1 Y fun ds S2=>KL (d :: ds) S2):=⟨b7v⟩
theorem b7q {Q:Int→Prop} (k:Q i):∃ j,D.int i=.int j∧Q j:=⟨i,rfl,k⟩
instance b9K {Q:Int→Prop}:Rdg (∃ j,D.int i=.int j∧Q j) (Q i):=⟨b7q⟩
theorem c0G {b:Bool} {Q:Bool→Prop} (k:Q b):∃ j,D.bl b=.bl j∧Q j:=⟨b,rfl,k⟩
instance c2f {b:Bool} {Q:Bool→Prop}:Rdg (∃ j,D.bl b=.bl j∧Q j) (Q b):=⟨c0G⟩
theorem c0W (h:den G a δ S Y fun x S1=>den G b δ S1 Y fun y S2=>b1o x y S2 K):den G (.adc a b) δ S Y K:=by rw [den];exact h
instance c2s  : Rdg (den G (.adc a b) δ S Y K) (den G a δ S Y fun x S1=>den G b δ S1 Y fun y S2=>b1o x y S2 K):=⟨c0W⟩
theorem c0m {x y:D} {l m:List D} (e1:vw S x=.lst l) (e2:vw S y=.lst m) (few:l.length + m.length≤sizeLine) (k:∀ p,S p=none→K (.obj p) (S.set p (.lst (l ++ m)))):b1o x y S K:=by
 unfold b1o
 rw [e1,e2]
 exact ⟨few,k⟩
theorem c1B {Q:Str→Prop} {z:Str} (k:Q z):∃ z',D.str z=.str z'∧Q z':=⟨z,rfl,k⟩
instance c2W {Q:Str→Prop} {z:Str}:Rdg (∃ z',D.str z=.str z'∧Q z') (Q z):=⟨c1B⟩
theorem c66 (h:a0o G a δ S Y fun b S1=>KT (!b) S1):a0o G (.nt a) δ S Y KT:=by rw [a0o];exact h
instance c4C  : Rdg (a0o G (.nt a) δ S Y KT) (a0o G a δ S Y fun b S1=>KT (!b) S1):=⟨c66⟩
theorem c3G (h:a0G G es δ S Y KT):a0o G (.and es) δ S Y KT:=by rw [a0o];exact h
instance c3k  : Rdg (a0o G (.and es) δ S Y KT) (a0G G es δ S Y KT):=⟨c3G⟩
theorem c67 (h:a04 G es δ S Y KT):a0o G (.or es) δ S Y KT:=by rw [a0o];exact h
instance c4D  : Rdg (a0o G (.or es) δ S Y KT) (a04 G es δ S Y KT):=⟨c67⟩
theorem b8Z (h:a0o G a δ S Y KT):a0G G (.cons a .nil) δ S Y KT:=by rw [a0G];exact h
instance b92  : Rdg (a0G G (.cons a .nil) δ S Y KT) (a0o G a δ S Y KT):=⟨b8Z⟩
theorem c3N (h:a0o G a δ S Y KT):a04 G (.cons a .nil) δ S Y KT:=by rw [a04];exact h
instance c3r  : Rdg (a04 G (.cons a .nil) δ S Y KT) (a0o G a δ S Y KT):=⟨c3N⟩
theorem b80 (h:a0o G a δ S Y fun k S1=>if k=true then a0G G (.cons b es) δ S1 Y KT else KT false S1):a0G G (.cons a (.cons b es)) δ S Y KT:=by rw [a0G];exact h
instance b93  : Rdg (a0G G (.cons a (.cons b es)) δ S Y KT) (a0o G a δ S Y fun k S1=>if k=true then a0G G (.cons b es) δ S1 Y KT else KT false S1):=⟨b80⟩
theorem c3O (h:a0o G a δ S Y fun k S1=>if k=true then KT true S1 else a04 G (.cons b es) δ S1 Y KT):a04 G (.cons a (.cons b es)) δ S Y KT:=by rw [a04];exact h
instance c3s  : Rdg (a04 G (.cons a (.cons b es)) δ S Y KT) (a0o G a δ S Y fun k S1=>if k=true then KT true S1 else a04 G (.cons b es) δ S1 Y KT):=⟨c3O⟩
theorem c3I {op:CmpOp} (h:den G a δ S Y fun x S1=>den G b δ S1 Y fun y S2=>a0D op x y S2 fun d S'=>∃ k,d=.bl k∧KT k S'):a0o G (.cmp op a b) δ S Y KT:=by rw [a0o];exact h
instance c3m {op:CmpOp}:Rdg (a0o G (.cmp op a b) δ S Y KT) (den G a δ S Y fun x S1=>den G b δ S1 Y fun y S2=>a0D op x y S2 fun d S'=>∃ k,d=.bl k∧KT k S'):=⟨c3I⟩
theorem c3H {o1 o2:CmpOp} (h:den G a δ S Y fun x S1=>den G b δ S1 Y fun y S2=>a0D o1 x y S2 fun z S3=>∃ k,z=.bl k∧if k=true then den G c δ S3 Y fun w S4=>a0D o2 y w S4 fun d S'=>∃ k,d=.bl k∧KT k S' else ∃ k,D.bl false=.bl k∧KT k S3):a0o G (.chn o1 o2 a b c) δ S Y KT:=by rw [a0o];exact h
instance c3l {o1 o2:CmpOp}:Rdg (a0o G (.chn o1 o2 a b c) δ S Y KT) (den G a δ S Y fun x S1=>den G b δ S1 Y fun y S2=>a0D o1 x y S2 fun z S3=>∃ k,z=.bl k∧if k=true then den G c δ S3 Y fun w S4=>a0D o2 y w S4 fun d S'=>∃ k,d=.bl k∧KT k S' else ∃ k,D.bl false=.bl k∧KT k S3):=⟨c3H⟩
theorem c3P {i:Nat} (h:δ[i]?=some (some d)) (k:a1n d S fun b=>KT b S):a0o G (.var i) δ S Y KT:=by rw [a0o];dsimp only;rw [h];exact k
theorem c65 (h:den G a δ S Y fun x S1=>den G b δ S1 Y fun y S2=>ixD x y S2 fun d S3=>a1n d S3 fun b=>KT b S3):a0o G (.ix a b) δ S Y KT:=by rw [a0o];exact h
instance c4B  : Rdg (a0o G (.ix a b) δ S Y KT) (den G a δ S Y fun x S1=>den G b δ S1 Y fun y S2=>ixD x y S2 fun d S3=>a1n d S3 fun b=>KT b S3):=⟨c65⟩
theorem a6r {j:Nat} {T:TR} (hT:G.fn G.m0.isSome j=some T) (h:a0q G es δ S Y fun ds S1=>T G.m0 ds S1 (fun d S3=>a1n d S3 fun b=>KT b S3) fun C fs S'=>Y C fs δ S'):a0o G (.call j es) δ S Y KT:=by rw [a0o];exact ⟨T,hT,h⟩
theorem c3K {cn:Cn} (h:den G a δ S Y fun x S1=>∃ t b,tyD S1 x=some t∧a2L G S1 x∧PySem.W.kitOne G.K t (cn.val G)=some b∧KT b S1):a0o G (.isi a cn) δ S Y KT:=by rw [a0o];exact h
theorem c3L {js:List Nat} (h:den G a δ S Y fun x S1=>∃ t b,tyD S1 x=some t∧a2L G S1 x∧PySem.W.kitAny G.K t (js.map fun j=>Value.ref (G.cl j))=some b∧KT b S1):a0o G (.ist a js) δ S Y KT:=by rw [a0o];exact h
instance c3o {cn:Cn}:Rdg (a0o G (.isi a cn) δ S Y KT) (den G a δ S Y fun x S1=>∃ t b,tyD S1 x=some t∧a2L G S1 x∧PySem.W.kitOne G.K t (cn.val G)=some b∧KT b S1):=⟨c3K⟩
instance c3p {js:List Nat}:Rdg (a0o G (.ist a js) δ S Y KT) (den G a δ S Y fun x S1=>∃ t b,tyD S1 x=some t∧a2L G S1 x∧PySem.W.kitAny G.K t (js.map fun j=>Value.ref (G.cl j))=some b∧KT b S1):=⟨c3L⟩
theorem c3J {f:Str} (h:den G a δ S Y fun x S1=>b1F G f x S1 fun d S3=>a1n d S3 fun b=>KT b S3):a0o G (.fld a f) δ S Y KT:=by rw [a0o];exact h
instance c3n {f:Str}:Rdg (a0o G (.fld a f) δ S Y KT) (den G a δ S Y fun x S1=>b1F G f x S1 fun d S3=>a1n d S3 fun b=>KT b S3):=⟨c3J⟩
theorem c3R {b:Bool} {Q:Bool→Prop} (k:Q b):a1n (.bl b) S Q:=k
instance c3t {b:Bool} {Q:Bool→Prop}:Rdg (a1n (.bl b) S Q) (Q b):=⟨c3R⟩
theorem b83 {Q:Bool→Prop} (k:Q (i != 0)):a1n (.int i) S Q:=k
instance b94 {Q:Bool→Prop}:Rdg (a1n (.int i) S Q) (Q (i != 0)):=⟨b83⟩
theorem c1L (k:K (.int (i + j)) S):opD .Add (.int i) (.int j) S K:=k
instance c3a  : Rdg (opD .Add (.int i) (.int j) S K) (K (.int (i + j)) S):=⟨c1L⟩
theorem c1N (k:K (.int (i - j)) S):opD .Sub (.int i) (.int j) S K:=k
instance c3b  : Rdg (opD .Sub (.int i) (.int j) S K) (K (.int (i - j)) S):=⟨c1N⟩
theorem a8C (h:CMul i j∨CMulW i j) (k:K (.int (i * j)) S):opD .Mult (.int i) (.int j) S K:=⟨h,k⟩
theorem b7M (h:CDivW i j) (k:K (.int (i / j)) S):opD .FloorDiv (.int i) (.int j) S K:=⟨h,k⟩
theorem a6f (h:0 < j) (k:K (.int (i % j)) S):opD .Mod (.int i) (.int j) S K:=⟨h,k⟩
theorem c1M (h:CPow i j) (k:K (.int (i ^ j.toNat)) S):opD .Pow (.int i) (.int j) S K:=⟨h,k⟩
theorem a05 {l m:List D} (h:l.length + m.length≤sizeLine) (k:K (.lst (l ++ m)) S):opD .Add (.lst l) (.lst m) S K:=⟨h,k⟩
theorem a1l {l m:Str} (h:l.length + m.length≤sizeLine) (k:K (.str (l ++ m)) S):opD .Add (.str l) (.str m) S K:=⟨h,k⟩
theorem c34:D.eqv (.int i) (.int j)=decide (i=j):=by
 simp only [D.eqv,D.py,PyData.eqv]
 rw [Bool.eq_iff_iff];simp
theorem c0I (k:K (.bl (decide (i=j))) S):a0D .Eq (.int i) (.int j) S K:=.inl ⟨rfl,rfl,by rw [Bool.false_xor];rw [← c34] at k;exact k⟩
instance c2g  : Rdg (a0D .Eq (.int i) (.int j) S K) (K (.bl (decide (i=j))) S):=⟨c0I⟩
theorem c0S (k:K (.bl (!decide (i=j))) S):a0D .NotEq (.int i) (.int j) S K:=.inl ⟨rfl,rfl,by rw [Bool.true_xor];rw [← c34] at k;exact k⟩
instance c2o  : Rdg (a0D .NotEq (.int i) (.int j) S K) (K (.bl (!decide (i=j))) S):=⟨c0S⟩
theorem c0R (k:K (.bl (decide (i < j))) S):a0D .Lt (.int i) (.int j) S K:=.inl k
instance c2n  : Rdg (a0D .Lt (.int i) (.int j) S K) (K (.bl (decide (i < j))) S):=⟨c0R⟩
theorem c0Q (k:K (.bl (decide (i≤j))) S):a0D .LtE (.int i) (.int j) S K:=k
instance c2m  : Rdg (a0D .LtE (.int i) (.int j) S K) (K (.bl (decide (i≤j))) S):=⟨c0Q⟩
theorem c0N (k:K (.bl (decide (j < i))) S):a0D .Gt (.int i) (.int j) S K:=k
instance c2j  : Rdg (a0D .Gt (.int i) (.int j) S K) (K (.bl (decide (j < i))) S):=⟨c0N⟩
theorem c0M (k:K (.bl (decide (j≤i))) S):a0D .GtE (.int i) (.int j) S K:=k
instance c2i  : Rdg (a0D .GtE (.int i) (.int j) S K) (K (.bl (decide (j≤i))) S):=⟨c0M⟩
theorem c0K {x y:D} (hx:D.okd 60 (vw S x)=true) (hy:D.okd 60 (vw S y)=true) (k:K (.bl (D.eqv (vw S x) (vw S y))) S):a0D .Eq x y S K:=.inl ⟨hx,hy,by rw [Bool.false_xor];exact k⟩
theorem b6j {x y:D} (hx:D.okd 60 (vw S x)=true) (hy:D.okd 60 (vw S y)=true) (k:K (.bl (!D.eqv (vw S x) (vw S y))) S):a0D .NotEq x y S K:=.inl ⟨hx,hy,by rw [Bool.true_xor];exact k⟩
theorem b2R {b:Addr} {l:List D} (h:S b=some (.lst l)):vw S (.obj b)=.lst l:=by simp only [vw,h]
theorem c4F {b:Addr} {l:List (Key × D)} (h:S b=some (.dic l)):vw S (.obj b)=.dic l:=by simp only [vw,h]
theorem a7L {l:List D} (h:S p=some (.lst l)) (e:atI l i=some d) (k:K d S):ixD (.obj p) (.int i) S K:=by
 unfold ixD;rw [b2R h];exact ⟨d,e,k⟩
theorem a5f {l:List D} (e:atI l i=some d) (k:K d S):ixD (.lst l) (.int i) S K:=⟨d,e,k⟩
theorem a7M {l:List D} (e:atI l i=some d) (k:K d S):ixD (.tup l) (.int i) S K:=⟨d,e,k⟩
theorem c4f {z:Str} {c:Nat} (hz:z.length≤sizeLine) (e:atI z.cps.toList i=some c) (k:K (.str ⟨#[c]⟩) S):ixD (.str z) (.int i) S K:=⟨c,hz,e,k⟩
theorem c61 {l:List D} {lo hi:Option Int} (k:K (.lst (cutD l lo hi)) S):slD (.lst l) lo hi S K:=k
instance c4A {l:List D} {lo hi:Option Int}:Rdg (slD (.lst l) lo hi S K) (K (.lst (cutD l lo hi)) S):=⟨c61⟩
theorem b5H {z:Str} {lo hi:Option Int} (hz:z.length≤sizeLine) (k:K (.str (cutS z lo hi)) S):slD (.str z) lo hi S K:=⟨hz,k⟩
theorem b4y {l:List D} (h:S p=some (.lst l)) (k:K (.int l.length) S):Bn.len.den [.obj p] S K:=by
 show b7x [.obj p] S K;unfold b7x;simp only [b2R h];exact k
theorem c1D {l:List D} (k:K (.int l.length) S):Bn.len.den [.lst l] S K:=k
instance c20 {l:List D}:Rdg (Bn.len.den [.lst l] S K) (K (.int l.length) S):=⟨c1D⟩
theorem c1E {l:List D} (k:K (.int l.length) S):Bn.len.den [.tup l] S K:=k
instance c22 {l:List D}:Rdg (Bn.len.den [.tup l] S K) (K (.int l.length) S):=⟨c1E⟩
theorem b1X {z:Str} (hz:z.length≤sizeLine) (k:K (.int z.length) S):Bn.len.den [.str z] S K:=⟨hz,k⟩
theorem c0l (k:K (.int (if i < 0 then -i else i)) S):Bn.abs.den [.int i] S K:=k
instance c2b  : Rdg (Bn.abs.den [.int i] S K) (K (.int (if i < 0 then -i else i)) S):=⟨c0l⟩
theorem a9h {α:Type} {f:α→D} {l:List α} {k:Nat} {x:α} (h:l[k]?=some x):atI (l.map f) (k:Int)=some (f x):=by
 have hk:k < l.length:=by
  obtain ⟨z,_⟩:=List.getElem?_eq_some_iff.mp h
  exact z
 exact atI_nat (by rw [zbh,h];rfl)
end
section
variable {G:Gs} {δ:DS} {S:SS} {Y:XD'} {F:SE} {a b c e:RE} {r r2:RSs} {s:RS} {d:D}
theorem b8B (h:F.nx δ S):a0c G .nil δ S Y F:=by rw [a0c];exact h
instance b9N  : Rdg (a0c G .nil δ S Y F) (F.nx δ S):=⟨b8B⟩
theorem b5n (h:a0n G s δ S Y { F with nx:=fun δ1 S1=>a0c G r δ1 S1 Y F }):a0c G (.cons s r) δ S Y F:=by rw [a0c];exact h
instance b8j  : Rdg (a0c G (.cons s r) δ S Y F) (a0n G s δ S Y { F with nx:=fun δ1 S1=>a0c G r δ1 S1 Y F }):=⟨b5n⟩
theorem a2D (J:DS→SS→Prop) (h:a0n G s δ S Y { F with nx:=J }) (h2:∀ δ1 S1,J δ1 S1→a0c G r δ1 S1 Y F):a0c G (.cut s r) δ S Y F:=by rw [a0c];exact ⟨J,h,h2⟩
theorem b8N (h:den G.toGm e δ S Y fun _ S1=>F.nx δ S1):a0n G (.exp e) δ S Y F:=by rw [a0n];exact h
instance b9R  : Rdg (a0n G (.exp e) δ S Y F) (den G.toGm e δ S Y fun _ S1=>F.nx δ S1):=⟨b8N⟩
theorem b8L {i:Nat} (h:den G.toGm e δ S Y fun d S1=>F.nx (δ.set i (some d)) S1):a0n G (.asg [i] true e) δ S Y F:=by
 rw [a0n];exact ⟨(fun z=>nomatch z),h⟩
instance b9P {i:Nat}:Rdg (a0n G (.asg [i] true e) δ S Y F) (den G.toGm e δ S Y fun d S1=>F.nx (δ.set i (some d)) S1):=⟨b8L⟩
theorem b8M {i:Nat} (h:den G.toGm e δ S Y fun d S1=>F.nx (δ.set i (some d)) S1):a0n G (.asl i e) δ S Y F:=by rw [a0n];exact h
instance b9Q {i:Nat}:Rdg (a0n G (.asl i e) δ S Y F) (den G.toGm e δ S Y fun d S1=>F.nx (δ.set i (some d)) S1):=⟨b8M⟩
theorem b8S (h:den G.toGm c δ S Y fun z S1=>den G.toGm a δ S1 Y fun x S2=>den G.toGm b δ S2 Y fun y S3=>a8W x y z S3 fun S4=>F.nx δ S4):a0n G (.sti a b c) δ S Y F:=by rw [a0n];exact h
instance b9X  : Rdg (a0n G (.sti a b c) δ S Y F) (den G.toGm c δ S Y fun z S1=>den G.toGm a δ S1 Y fun x S2=>den G.toGm b δ S2 Y fun y S3=>a8W x y z S3 fun S4=>F.nx δ S4):=⟨b8S⟩
theorem b8K {op:Operator} (h:den G.toGm a δ S Y fun x S1=>den G.toGm b δ S1 Y fun y S2=>a6V x y S2 fun u S3=>den G.toGm e δ S3 Y fun w S4=>b3U op u w S4 fun z S5=>a8W x y z S5 fun S6=>F.nx δ S6):a0n G (.agi a b op e) δ S Y F:=by rw [a0n];exact h
instance b9O {op:Operator}:Rdg (a0n G (.agi a b op e) δ S Y F) (den G.toGm a δ S Y fun x S1=>den G.toGm b δ S1 Y fun y S2=>a6V x y S2 fun u S3=>den G.toGm e δ S3 Y fun w S4=>b3U op u w S4 fun z S5=>a8W x y z S5 fun S6=>F.nx δ S6):=⟨b8K⟩
theorem b8O (h:a0o G.toGm c δ S Y fun k S1=>if k=true then a0c G r δ S1 Y F else a0c G r2 δ S1 Y F):a0n G (.ifs c r r2) δ S Y F:=by rw [a0n];exact h
instance b9S  : Rdg (a0n G (.ifs c r r2) δ S Y F) (a0o G.toGm c δ S Y fun k S1=>if k=true then a0c G r δ S1 Y F else a0c G r2 δ S1 Y F):=⟨b8O⟩
theorem st_ret (h:den G.toGm e δ S Y F.rt):a0n G (.ret e) δ S Y F:=by rw [a0n];exact h
instance b9V  : Rdg (a0n G (.ret e) δ S Y F) (den G.toGm e δ S Y F.rt):=⟨st_ret⟩
theorem b5p (h:F.rt .non S):a0n G .retN δ S Y F:=by rw [a0n];exact h
instance b8k  : Rdg (a0n G .retN δ S Y F) (F.rt .non S):=⟨b5p⟩
theorem b8Q (h:F.nx δ S):a0n G .pas δ S Y F:=by rw [a0n];exact h
instance b9U  : Rdg (a0n G .pas δ S Y F) (F.nx δ S):=⟨b8Q⟩
theorem a8e {j:Nat} {es:RL} {kd:XKd} (hm:G.m0=none) (hk:G.xk j=some kd) (ha:es.len=kd.ar) (h:a0q G.toGm es δ S Y fun ds S1=>∃ fs,mkX kd ds=some fs∧Y (G.cl j) fs δ S1):a0n G (.rai j es) δ S Y F:=by rw [a0n];exact ⟨hm,kd,hk,ha,h⟩
theorem a8H {p:Addr} {l:List D} {i:Int} {j:Nat} {z:D} {K:SS→Prop} (h:S p=some (.lst l)) (e:ixN l.length i=some j) (k:K (S.set p (.lst (l.set j z)))):a8W (.obj p) (.int i) z S K:=by
 unfold a8W;simp only [h];exact ⟨i,j,rfl,e,k⟩
theorem c1q {p:Addr} {l:List D} {i:Int} {K:DK} (h:S p=some (.lst l)) (e:atI l i=some d) (k:K d S):a6V (.obj p) (.int i) S K:=by
 unfold a6V;simp only [h];exact ⟨i,d,rfl,e,k⟩
theorem c0F {i j:Int} {K:DK} (k:K (.int (i + j)) S):b3U .Add (.int i) (.int j) S K:=k
instance c2d {i j:Int} {K:DK}:Rdg (b3U .Add (.int i) (.int j) S K) (K (.int (i + j)) S):=⟨c0F⟩
end
end Sv
namespace Sv
open PySem PySem.Spec PyProof.Rows L2
section
variable {G:Gm} {δ:DS} {S:SS} {Y:XD'} {K:DK}
def LcK (G:Gm) (cell:Bool) (elt:RE) (tg:List Nat) (one:Bool) (c:RO) (own:List Nat) (δ:DS) (K:DK) (ds:List D) (ok:SS→Prop) (S1:SS):Prop :=
 ∀ p,S1 p=none→∃ Iv:Nat→SS→Prop,Iv 0 (S1.set p (.lst []))∧(∀ i S',Iv i S'→i≤ds.length→ok S') ∧
   (∀ i d S',ds[i]?=some d→Iv i S'→a1E tg one d (a7p δ own) S' fun δ2 S2=>a6C G c δ2 S2 noX fun b S3 =>
    if b=true then den G elt δ2 S3 noX fun y S4=>∃ acc,S4 p=some (.lst acc)∧acc.length < sizeLine∧Iv (i + 1) (S4.set p (.lst (acc ++ [y]))) else Iv (i + 1) S3) ∧
   (∀ S',Iv ds.length S'→∃ acc,S' p=some (.lst acc)∧if cell=true then K (.obj p) S' else K (.lst acc) (S'.del p))
theorem c5g {cell:Bool} {elt:RE} {tg:List Nat} {one:Bool} {it:RI} {c:RO} {own:List (Str × Nat)} (hm:G.m0=none) (h:a0R G it δ S Y fun ds ok S1=>LcK G cell elt tg one c (own.map (·.2)) δ K ds ok S1):den G (.lc cell elt tg one it c own) δ S Y K:=by
 rw [den];exact ⟨hm,h⟩
instance c4o {cell:Bool} {elt:RE} {tg:List Nat} {one:Bool} {it:RI} {c:RO} {own:List (Str × Nat)} [M:M0 G.m0]:Rdg (den G (.lc cell elt tg one it c own) δ S Y K) (a0R G it δ S Y fun ds ok S1=>LcK G cell elt tg one c (own.map (·.2)) δ K ds ok S1):=⟨c5g M.out⟩
theorem i_l {e:RE} {KI:List D→(SS→Prop)→SS→Prop} (h:den G e δ S Y fun d S1=>∃ ds,vw S1 d=.lst ds∧KI ds (fun S'=>vw S' d=.lst ds) S1):a0R G (.lst e) δ S Y KI:=by rw [a0R];exact h
instance c6u {e:RE} {KI:List D→(SS→Prop)→SS→Prop}:Rdg (a0R G (.lst e) δ S Y KI) (den G e δ S Y fun d S1=>∃ ds,vw S1 d=.lst ds∧KI ds (fun S'=>vw S' d=.lst ds) S1):=⟨i_l⟩
theorem i_t {e:RE} {KI:List D→(SS→Prop)→SS→Prop} (h:den G e δ S Y fun d S1=>∃ ds,vw S1 d=.tup ds∧KI ds (fun S'=>True) S1):a0R G (.tup e) δ S Y KI:=by rw [a0R];exact h
instance c6w {e:RE} {KI:List D→(SS→Prop)→SS→Prop}:Rdg (a0R G (.tup e) δ S Y KI) (den G e δ S Y fun d S1=>∃ ds,vw S1 d=.tup ds∧KI ds (fun S'=>True) S1):=⟨i_t⟩
theorem c5z {e:RE} {KI:List D→(SS→Prop)→SS→Prop} (h:den G e δ S Y fun d S1=>∃ j,d=.int j∧-(2 ^ 62)≤j∧j < 2 ^ 62∧KI (a4o 0 j.toNat) (fun _=>True) S1):a0R G (.rng1 e) δ S Y KI:=by rw [a0R];exact h
instance c4w {e:RE} {KI:List D→(SS→Prop)→SS→Prop}:Rdg (a0R G (.rng1 e) δ S Y KI) (den G e δ S Y fun d S1=>∃ j,d=.int j∧-(2 ^ 62)≤j∧j < 2 ^ 62∧KI (a4o 0 j.toNat) (fun _=>True) S1):=⟨c5z⟩
theorem a5h {elt:RE} {tg:List Nat} {one:Bool} {c:RO} {own:List Nat} {ds:List D} {ok:SS→Prop} (f:D→D) (g:D→Bool) (hz:ds.length≤sizeLine) (hok:∀ acc p,S p=none→ok (S.set p (.lst acc)))
  (hs:∀ (p:Addr) (i:Nat) (acc:List D) (d:D) (KK:DK) (KN:SS→Prop),ds[i]?=some d→S p=none→(g d=true→KK (f d) (S.set p (.lst acc)))→(g d=false→KN (S.set p (.lst acc))) →
   a1E tg one d (a7p δ own) (S.set p (.lst acc)) fun δ2 S2=>a6C G c δ2 S2 noX fun b S3=>if b=true then den G elt δ2 S3 noX KK else KN S3)
  (hl:K (.lst ((ds.filter g).map f)) S):LcK G false elt tg one c own δ K ds ok S:=by
 intro p hp
 have hcl:∀ i,i < ds.length→(((ds.take i).filter g).map f).length < sizeLine:=fun i hi=>by
  rw [zag]
  have:=zbb g (ds.take i)
  rw [List.length_take] at this
  omega
 refine ⟨fun i S'=>S'=S.set p (.lst (((ds.take i).filter g).map f)),rfl,?_,?_,?_⟩
 ·rintro i S' rfl _
  exact hok _ p hp
 ·rintro i d S' hd rfl
  have hi:i < ds.length:=by
   obtain ⟨z,_⟩:=List.getElem?_eq_some_iff.mp hd
   exact z
  have et:ds.take (i + 1)=ds.take i ++ [d]:=by
   rw [List.take_add_one,hd];rfl
  refine hs p i _ d _ _ hd hp (fun hg=>⟨_,zab,hcl i hi,?_⟩) fun hg=>?_
  ·rw [zac]
   show _=S.set p (.lst (((ds.take (i + 1)).filter g).map f))
   rw [et,List.filter_append,zav]
   simp [hg]
  ·show _=S.set p (.lst (((ds.take (i + 1)).filter g).map f))
   rw [et,List.filter_append,zav]
   simp [hg]
 ·rintro S' rfl
  refine ⟨_,zab,?_⟩
  rw [if_neg zbe,zaf hp,List.take_length]
  exact hl
theorem b6k {KT:Bool→SS→Prop} (k:KT true S):a6C G .nn δ S Y KT:=by rw [a6C];exact k
theorem b6n {KT:Bool→SS→Prop} {e:RE} (k:a0o G e δ S Y KT):a6C G (.ss e) δ S Y KT:=by rw [a6C];exact k
theorem a5x {i:Nat} {d:D} {Q:DS→SS→Prop} (k:Q (δ.set i (some d)) S):a1E [i] true d δ S Q:=k
theorem b7s {a C:Addr} {oe:Obj} {fs:List (Str × D)} {cn:Cn} {b:Bool} {Q:Bool→Prop} (hm:G.m0=some (a,oe)) (hF:b1e G.K C) (hk:PySem.W.kitOne G.K (.ref C) (cn.val G)=some b) (k:Q b) :
  ∃ t b,tyD S (.exc a oe C fs)=some t∧a2L G S (.exc a oe C fs)∧PySem.W.kitOne G.K t (cn.val G)=some b∧Q b:=⟨_,b,rfl,⟨hm,hF⟩,hk,k⟩
end
section
variable {G:Gs} {δ:DS} {S:SS} {Y:XD'} {F:SE}
theorem c3B {tg:List Nat} {one:Bool} {it:RI} {b:RSs} (hm:G.m0=none) (h:a0R G.toGm it δ S Y fun ds ok S1=>∃ Iv:Nat→DS→SS→Prop,Iv 0 δ S1∧(∀ i δ' S',Iv i δ' S'→i≤ds.length→ok S') ∧
   (∀ i d δ' S',ds[i]?=some d→Iv i δ' S'→a1E tg one d δ' S' fun δ2 S2=>a0c G b δ2 S2 Y { F with nx:=Iv (i + 1),ct:=Iv (i + 1),bk:=F.nx })∧(∀ δ' S',Iv ds.length δ' S'→F.nx δ' S')):a0n G (.fr tg one it b) δ S Y F:=by
 rw [a0n];exact ⟨hm,h⟩
instance c3j {tg:List Nat} {one:Bool} {it:RI} {b:RSs} [M:M0 G.m0]:Rdg (a0n G (.fr tg one it b) δ S Y F) (a0R G.toGm it δ S Y fun ds ok S1=>∃ Iv:Nat→DS→SS→Prop,Iv 0 δ S1∧(∀ i δ' S',Iv i δ' S'→i≤ds.length→ok S') ∧
   (∀ i d δ' S',ds[i]?=some d→Iv i δ' S'→a1E tg one d δ' S' fun δ2 S2=>a0c G b δ2 S2 Y { F with nx:=Iv (i + 1),ct:=Iv (i + 1),bk:=F.nx })∧(∀ δ' S',Iv ds.length δ' S'→F.nx δ' S')):=⟨c3B M.out⟩
theorem b8T {b s:RSs} {j i:Nat} (hm:G.m0=none) (h:a0c G b δ S (fun C fs δ' S'=>∃ k,PySem.W.exmOne G.K (.ref C) (.ref (G.cl j))=some k ∧
   (k=true→∀ a oe,a0c (G.suite a oe) s (δ'.set i (some (.exc a oe C fs))) S' noX { F with nx:=fun δ2 S2=>F.nx (δ2.set i none) S2,bk:=fun δ2 S2=>F.bk (δ2.set i none) S2,ct:=fun δ2 S2=>F.ct (δ2.set i none) S2 }) ∧
   (k=false→Y C fs δ' S')) F):a0n G (.tra b j i s) δ S Y F:=by
 rw [a0n];exact ⟨hm,h⟩
instance b9Y {b s:RSs} {j i:Nat} [M:M0 G.m0]:Rdg (a0n G (.tra b j i s) δ S Y F) (a0c G b δ S (fun C fs δ' S'=>∃ k,PySem.W.exmOne G.K (.ref C) (.ref (G.cl j))=some k ∧
   (k=true→∀ a oe,a0c (G.suite a oe) s (δ'.set i (some (.exc a oe C fs))) S' noX { F with nx:=fun δ2 S2=>F.nx (δ2.set i none) S2,bk:=fun δ2 S2=>F.bk (δ2.set i none) S2,ct:=fun δ2 S2=>F.ct (δ2.set i none) S2 }) ∧
   (k=false→Y C fs δ' S')) F):=⟨b8T M.out⟩
theorem b8V {b s:RSs} {j:Nat} (hm:G.m0=none) (h:a0c G b δ S (fun C fs δ' S'=>∃ k,PySem.W.exmOne G.K (.ref C) (.ref (G.cl j))=some k∧(k=true→∀ a oe,a0c (G.suite a oe) s δ' S' noX F)∧(k=false→Y C fs δ' S')) F):a0n G (.tro b j s) δ S Y F:=by
 rw [a0n];exact ⟨hm,h⟩
instance b90 {b s:RSs} {j:Nat} [M:M0 G.m0]:Rdg (a0n G (.tro b j s) δ S Y F) (a0c G b δ S (fun C fs δ' S'=>∃ k,PySem.W.exmOne G.K (.ref C) (.ref (G.cl j))=some k∧(k=true→∀ a oe,a0c (G.suite a oe) s δ' S' noX F)∧(k=false→Y C fs δ' S')) F):=⟨b8V M.out⟩
end
end Sv
namespace Sv
open PySem PySem.Spec PyProof.Rows L2
section
variable {G:Gm} {δ:DS} {S:SS} {Y:XD'} {K:DK} {KT:Bool→SS→Prop} {KL:List D→SS→Prop} {KP:List (D × D)→SS→Prop} {KI:List D→(SS→Prop)→SS→Prop} {a b c e:RE} {es:RL} {ps:RQ} {d x y:D} {i j:Int} {p:Addr} {m:Str} {cell:Bool}
theorem b6Q (h:a0q G es δ S Y fun ds S1=>Bn.rpr.den ds S1 K):den G (.bi .rpr es) δ S Y K:=a5b trivial h
instance b9D  : Rdg (den G (.bi .rpr es) δ S Y K) (a0q G es δ S Y fun ds S1=>Bn.rpr.den ds S1 K):=⟨b6Q⟩
theorem b6I (h:a0q G es δ S Y fun ds S1=>Bn.int.den ds S1 K):den G (.bi .int es) δ S Y K:=a5b trivial h
instance b9v  : Rdg (den G (.bi .int es) δ S Y K) (a0q G es δ S Y fun ds S1=>Bn.int.den ds S1 K):=⟨b6I⟩
theorem b6M (h:a0q G es δ S Y fun ds S1=>(Bn.lst cell).den ds S1 K):den G (.bi (.lst cell) es) δ S Y K:=a5b trivial h
instance b9z  : Rdg (den G (.bi (.lst cell) es) δ S Y K) (a0q G es δ S Y fun ds S1=>(Bn.lst cell).den ds S1 K):=⟨b6M⟩
theorem b6W (h:a0q G es δ S Y fun ds S1=>Bn.tup.den ds S1 K):den G (.bi .tup es) δ S Y K:=a5b trivial h
instance b9J  : Rdg (den G (.bi .tup es) δ S Y K) (a0q G es δ S Y fun ds S1=>Bn.tup.den ds S1 K):=⟨b6W⟩
theorem b6H (h:a0q G es δ S Y fun ds S1=>(Bn.dic cell).den ds S1 K):den G (.bi (.dic cell) es) δ S Y K:=a5b trivial h
instance b9u  : Rdg (den G (.bi (.dic cell) es) δ S Y K) (a0q G es δ S Y fun ds S1=>(Bn.dic cell).den ds S1 K):=⟨b6H⟩
theorem b6T (hm:G.m0=none) (h:a0q G es δ S Y fun ds S1=>(Bn.srt cell).den ds S1 K):den G (.bi (.srt cell) es) δ S Y K:=a5b hm h
instance b9G  [M:M0 G.m0]:Rdg (den G (.bi (.srt cell) es) δ S Y K) (a0q G es δ S Y fun ds S1=>(Bn.srt cell).den ds S1 K):=⟨b6T M.out⟩
theorem c07 {b:Mn} (h:den G a δ S Y fun x S1=>b.rc x S1∧a0q G es δ S1 Y fun ds S2=>b.den x ds S2 K):den G (.mth b a es) δ S Y K:=by rw [den];exact h
instance c2D {b:Mn}:Rdg (den G (.mth b a es) δ S Y K) (den G a δ S Y fun x S1=>b.rc x S1∧a0q G es δ S1 Y fun ds S2=>b.den x ds S2 K):=⟨c07⟩
theorem c3M {b:Mn} (h:den G a δ S Y fun x S1=>b.rc x S1∧a0q G es δ S1 Y fun ds S2=>b.den x ds S2 fun d S3=>a1n d S3 fun b=>KT b S3):a0o G (.mth b a es) δ S Y KT:=by rw [a0o];exact h
instance c3q {b:Mn}:Rdg (a0o G (.mth b a es) δ S Y KT) (den G a δ S Y fun x S1=>b.rc x S1∧a0q G es δ S1 Y fun ds S2=>b.den x ds S2 fun d S3=>a1n d S3 fun b=>KT b S3):=⟨c3M⟩
theorem b6G (hm:G.m0=none) (h:a0q G es δ S Y fun ds S1=>(Bn.dcp cell).den ds S1 K):den G (.bi (.dcp cell) es) δ S Y K:=a5b hm h
instance b9t  [M:M0 G.m0]:Rdg (den G (.bi (.dcp cell) es) δ S Y K) (a0q G es δ S Y fun ds S1=>(Bn.dcp cell).den ds S1 K):=⟨b6G M.out⟩
theorem b6F (hm:G.m0=none) (h:a0q G es δ S Y fun ds S1=>Bn.all.den ds S1 K):den G (.bi .all es) δ S Y K:=a5b hm h
instance b9s  [M:M0 G.m0]:Rdg (den G (.bi .all es) δ S Y K) (a0q G es δ S Y fun ds S1=>Bn.all.den ds S1 K):=⟨b6F M.out⟩
theorem b6V (hm:G.m0=none) (h:a0q G es δ S Y fun ds S1=>Bn.sum.den ds S1 K):den G (.bi .sum es) δ S Y K:=a5b hm h
instance b9I  [M:M0 G.m0]:Rdg (den G (.bi .sum es) δ S Y K) (a0q G es δ S Y fun ds S1=>Bn.sum.den ds S1 K):=⟨b6V M.out⟩
theorem b6K (hm:G.m0=none) (h:a0q G es δ S Y fun ds S1=>(Bn.lsk cell).den ds S1 K):den G (.bi (.lsk cell) es) δ S Y K:=a5b hm h
instance b9x  [M:M0 G.m0]:Rdg (den G (.bi (.lsk cell) es) δ S Y K) (a0q G es δ S Y fun ds S1=>(Bn.lsk cell).den ds S1 K):=⟨b6K M.out⟩
theorem b6L (hm:G.m0=none) (h:a0q G es δ S Y fun ds S1=>(Bn.lss cell).den ds S1 K):den G (.bi (.lss cell) es) δ S Y K:=a5b hm h
instance b9y  [M:M0 G.m0]:Rdg (den G (.bi (.lss cell) es) δ S Y K) (a0q G es δ S Y fun ds S1=>(Bn.lss cell).den ds S1 K):=⟨b6L M.out⟩
theorem b6O (hm:G.m0=none) (h:a0q G es δ S Y fun ds S1=>Bn.min.den ds S1 K):den G (.bi .min es) δ S Y K:=a5b hm h
instance b9B  [M:M0 G.m0]:Rdg (den G (.bi .min es) δ S Y K) (a0q G es δ S Y fun ds S1=>Bn.min.den ds S1 K):=⟨b6O M.out⟩
theorem b6N (hm:G.m0=none) (h:a0q G es δ S Y fun ds S1=>Bn.max.den ds S1 K):den G (.bi .max es) δ S Y K:=a5b hm h
instance b9A  [M:M0 G.m0]:Rdg (den G (.bi .max es) δ S Y K) (a0q G es δ S Y fun ds S1=>Bn.max.den ds S1 K):=⟨b6N M.out⟩
theorem b6U (h:a0q G es δ S Y fun ds S1=>Bn.str.den ds S1 K):den G (.bi .str es) δ S Y K:=a5b trivial h
instance b9H  : Rdg (den G (.bi .str es) δ S Y K) (a0q G es δ S Y fun ds S1=>Bn.str.den ds S1 K):=⟨b6U⟩
theorem b4T {ds:List D} (k:K (.lst ds) S):∃ cell,outL cell ds S K:=⟨false,by unfold outL;rw [if_neg zbe];exact k⟩
theorem b2j {ds:List D} (k:∀ p,S p=none→K (.obj p) (S.set p (.lst ds))):∃ cell,outL cell ds S K:=⟨true,by unfold outL;rw [if_pos rfl];exact k⟩
instance b8h {ds:List D}:Rdg (∃ cell,outL cell ds S K) (K (.lst ds) S):=⟨b4T⟩
theorem b6A (hm:G.m0=none) (h:den G a δ S Y fun x S1=>∃ zs:List Str,vw S1 x=.lst (zs.map D.str)∧(zs.length < 64∨((uniq zs).length < 64∧zs.length < 1000))∧∃ cell,outL cell ((a1e (uniq zs)).map D.str) S1 K):den G (.ofs true a) δ S Y K:=by rw [den];exact ⟨hm,h⟩
instance b9q  [M:M0 G.m0]:Rdg (den G (.ofs true a) δ S Y K) (den G a δ S Y fun x S1=>∃ zs:List Str,vw S1 x=.lst (zs.map D.str)∧(zs.length < 64∨((uniq zs).length < 64∧zs.length < 1000))∧∃ cell,outL cell ((a1e (uniq zs)).map D.str) S1 K):=⟨b6A M.out⟩
theorem c1a (hm:G.m0=none) (h:den G a δ S Y fun x S1=>∃ zs:List Int,vw S1 x=.lst (zs.map D.int)∧zs.length < 64∧∀ ns:List Int,ns.Pairwise (· < ·)→(∀ k,k∈ns↔k∈zs)→K (.lst (ns.map D.int)) S1):den G (.ofi a) δ S Y K:=by rw [den];exact ⟨hm,h⟩
instance c2G  [M:M0 G.m0]:Rdg (den G (.ofi a) δ S Y K) (den G a δ S Y fun x S1=>∃ zs:List Int,vw S1 x=.lst (zs.map D.int)∧zs.length < 64∧∀ ns:List Int,ns.Pairwise (· < ·)→(∀ k,k∈ns↔k∈zs)→K (.lst (ns.map D.int)) S1):=⟨c1a M.out⟩
theorem b6z (hm:G.m0=none) (h:den G a δ S Y fun x S1=>∃ zs:List Str,vw S1 x=.lst (zs.map D.str)∧(zs.length < 64∨((uniq zs).length < 64∧zs.length < 1000))∧K (.int ((uniq zs).length:Nat)) S1):den G (.ofs false a) δ S Y K:=by rw [den];exact ⟨hm,h⟩
instance b9p  [M:M0 G.m0]:Rdg (den G (.ofs false a) δ S Y K) (den G a δ S Y fun x S1=>∃ zs:List Str,vw S1 x=.lst (zs.map D.str)∧(zs.length < 64∨((uniq zs).length < 64∧zs.length < 1000))∧K (.int ((uniq zs).length:Nat)) S1):=⟨b6z M.out⟩
theorem c1j (hm:G.m0=none) (h:den G a δ S Y fun x S1=>∃ p kvs,x=.obj p∧S1 p=some (.dic kvs)∧outL cell (kvs.map (·.2)) S1 K):den G (.vls cell a) δ S Y K:=by rw [den];exact ⟨hm,h⟩
instance c2O  [M:M0 G.m0]:Rdg (den G (.vls cell a) δ S Y K) (den G a δ S Y fun x S1=>∃ p kvs,x=.obj p∧S1 p=some (.dic kvs)∧outL cell (kvs.map (·.2)) S1 K):=⟨c1j M.out⟩
theorem c1d (h:den G a δ S Y fun x S1=>∃ ds,vw S1 x=.lst ds∧outL cell ds.reverse S1 K):den G (.rev cell a) δ S Y K:=by rw [den];exact h
instance c2J  : Rdg (den G (.rev cell a) δ S Y K) (den G a δ S Y fun x S1=>∃ ds,vw S1 x=.lst ds∧outL cell ds.reverse S1 K):=⟨c1d⟩
theorem b32 (h:∀ p,S p=none→a6D G ps δ (S.set p (.dic [])) Y fun ks S2=>S2 p=some (.dic [])∧∃ kvs,a9Y ks=some kvs∧kvs.length≤15∧if cell=true then K (.obj p) (S2.set p (.dic (a0O [] kvs))) else K (.dic (a0O [] kvs)) (S2.del p)):den G (.dct cell ps) δ S Y K:=by rw [den];exact h
theorem b6x (k:∀ p,S p=none→K (.obj p) (S.set p (.dic []))):den G (.dct true .nil) δ S Y K:=b32 fun p free=>by
 rw [a6D]
 exact ⟨zab,[],rfl,by decide,by rw [if_pos rfl,zac];exact k p free⟩
theorem c1R (k:KP [] S):a6D G .nil δ S Y KP:=by rw [a6D];exact k
instance c3e  : Rdg (a6D G .nil δ S Y KP) (KP [] S):=⟨c1R⟩
theorem b7T {kx vx:RE} (h:den G kx δ S Y fun x S1=>den G vx δ S1 Y fun y S2=>a6D G ps δ S2 Y fun r S3=>KP ((x,y) :: r) S3):a6D G (.cons kx vx ps) δ S Y KP:=by rw [a6D];exact h
instance b9M {kx vx:RE}:Rdg (a6D G (.cons kx vx ps) δ S Y KP) (den G kx δ S Y fun x S1=>den G vx δ S1 Y fun y S2=>a6D G ps δ S2 Y fun r S3=>KP ((x,y) :: r) S3):=⟨b7T⟩
theorem i_s (h:den G e δ S Y fun d S1=>∃ z,d=.str z∧KI (a0U z) (fun _=>True) S1):a0R G (.str e) δ S Y KI:=by rw [a0R];exact h
instance c6v  : Rdg (a0R G (.str e) δ S Y KI) (den G e δ S Y fun d S1=>∃ z,d=.str z∧KI (a0U z) (fun _=>True) S1):=⟨i_s⟩
theorem i_k (h:den G e δ S Y fun d S1=>∃ a kvs,d=.obj a∧S1 a=some (.loc kvs)∧KI (kvs.map fun kv=>keyV kv.1) (fun _=>True) S1):a0R G (.keys e) δ S Y KI:=by rw [a0R];exact h
instance c6t  : Rdg (a0R G (.keys e) δ S Y KI) (den G e δ S Y fun d S1=>∃ a kvs,d=.obj a∧S1 a=some (.loc kvs)∧KI (kvs.map fun kv=>keyV kv.1) (fun _=>True) S1):=⟨i_k⟩
theorem c5A {t1 t2:Bool} {a b:RE} (h:den G a δ S Y fun d S1=>den G b δ S1 Y fun d2 S2=>∃ xs ys,d=sqv t1 xs∧d2=sqv t2 ys∧KI (a02 xs ys) (fun _=>True) S2):a0R G (.zip t1 t2 a b) δ S Y KI:=by rw [a0R];exact h
instance c4x {t1 t2:Bool} {a b:RE}:Rdg (a0R G (.zip t1 t2 a b) δ S Y KI) (den G a δ S Y fun d S1=>den G b δ S1 Y fun d2 S2=>∃ xs ys,d=sqv t1 xs∧d2=sqv t2 ys∧KI (a02 xs ys) (fun _=>True) S2):=⟨c5A⟩
theorem c5x (h:den G e δ S Y fun d S1=>∃ ds,d=.tup ds∧KI (a1F ds) (fun _=>True) S1):a0R G (.enumt e) δ S Y KI:=by rw [a0R];exact h
instance c4u  : Rdg (a0R G (.enumt e) δ S Y KI) (den G e δ S Y fun d S1=>∃ ds,d=.tup ds∧KI (a1F ds) (fun _=>True) S1):=⟨c5x⟩
theorem i_e (h:den G e δ S Y fun d S1=>∃ ds,vw S1 d=.lst ds∧KI (a1F ds) (fun S'=>vw S' d=.lst ds) S1):a0R G (.enum e) δ S Y KI:=by rw [a0R];exact h
instance c6s  : Rdg (a0R G (.enum e) δ S Y KI) (den G e δ S Y fun d S1=>∃ ds,vw S1 d=.lst ds∧KI (a1F ds) (fun S'=>vw S' d=.lst ds) S1):=⟨i_e⟩
theorem c5y (h:den G e δ S Y fun d S1=>∃ a kvs,d=.obj a∧S1 a=some (.loc kvs)∧KI (kvs.map fun kv=>.tup [keyV kv.1,kv.2]) (fun _=>True) S1):a0R G (.items e) δ S Y KI:=by rw [a0R];exact h
instance c4v  : Rdg (a0R G (.items e) δ S Y KI) (den G e δ S Y fun d S1=>∃ a kvs,d=.obj a∧S1 a=some (.loc kvs)∧KI (kvs.map fun kv=>.tup [keyV kv.1,kv.2]) (fun _=>True) S1):=⟨c5y⟩
theorem b8X {z:Str} {Q:Str→Prop} (k:Q z):∃ w,D.str z=.str w∧Q w:=⟨z,rfl,k⟩
instance b91 {z:Str} {Q:Str→Prop}:Rdg (∃ w,D.str z=.str w∧Q w) (Q z):=⟨b8X⟩
theorem b3S {ds:List D} (h:S p=some (.lst ds)) (few:ds.length < sizeLine) (k:K .non (S.set p (.lst (ds ++ [d])))):Mn.app.den (.obj p) [d] S K:=⟨ds,h,few,k⟩
theorem c1Z {ds:List D} (h:S p=some (.lst ds)):a2b (.obj p) S:=⟨ds,b2R h⟩
theorem c4l {z:Str}:a5U (.str z):=⟨z,rfl⟩
theorem b5c {z:Str} {P:Prop} (k:P):Mn.join.rc (.str z) S∧P:=⟨c4l,k⟩
instance b8i {z:Str} {P:Prop}:Rdg (Mn.join.rc (.str z) S∧P) (P):=⟨b5c⟩
theorem b2s {z:Str} {P:Prop} (k:P):Mn.upper.rc (.str z) S∧P:=⟨c4l,k⟩
instance b5E {z:Str} {P:Prop}:Rdg (Mn.upper.rc (.str z) S∧P) (P):=⟨b2s⟩
theorem b3m {z:Str} {zs:List Str} (few:(zs.map (·.length)).sum + zs.length * z.length≤16777216) (k:K (.str (Txt.join z zs)) S):Mn.join.den (.str z) [.lst (zs.map D.str)] S K:=⟨zs,.inl rfl,few,k⟩
theorem c1G {ds:List D} (k:K (.lst ds) S):(Bn.lst false).den [.lst ds] S K:=⟨ds,.inl rfl,by rw [if_neg zbe];exact k⟩
instance c24 {ds:List D}:Rdg ((Bn.lst false).den [.lst ds] S K) (K (.lst ds) S):=⟨c1G⟩
theorem c1z {b:Bool} (k:K (.int (if b then 1 else 0)) S):Bn.int.den [.bl b] S K:=k
instance c2S {b:Bool}:Rdg (Bn.int.den [.bl b] S K) (K (.int (if b then 1 else 0)) S):=⟨c1z⟩
theorem b5h {q:PyData} (h:pdE d=some q) (s:a7s q) (k:K (.str q.shown) S):Bn.rpr.den [d] S K:=⟨q,.inr ⟨h,s⟩,k⟩
theorem c5M {kvs:List (Key × D)} {key:Key} (h:S p=some (.dic kvs)) (hk:keyD y=some key) (e:valD kvs key=some d) (k:K d S):ixD (.obj p) y S K:=by
 unfold ixD;rw [c4F h];exact ⟨key,d,hk,e,k⟩
theorem a9V {kvs:List (Key × D)} {key:Key} (hk:keyD y=some key) (e:valD kvs key=some d) (k:K d S):ixD (.dic kvs) y S K:=⟨key,d,hk,e,k⟩
theorem c5H {kvs:List (Key × D)} {key:Key} (h:S p=some (.dic kvs)) (hk:keyD x=some key) (k:K (.bl (valD kvs key).isSome) S):a0D .In x (.obj p) S K:=by
 show a6A false x (.obj p) S K;unfold a6A;rw [c4F h];exact ⟨key,hk,by rw [Bool.false_xor];exact k⟩
theorem a1O (z:Str):∀ zs:List Str,((zs.map D.str).any fun w=>D.eqv w (.str z))=decide (z∈zs)
 | []=>rfl
 | w :: zs=>by
  rw [zax,List.any_cons,a1O z zs]
  have e:D.eqv (.str w) (.str z)=decide (w=z):=by
   simp only [D.eqv,D.py,PyData.eqv]
   rw [Bool.eq_iff_iff];simp
  rw [e,Bool.eq_iff_iff]
  simp only [Bool.or_eq_true,zah,zau]
  exact or_congr ⟨Eq.symm,Eq.symm⟩ Iff.rfl
def fine (z:Str):Bool:=PyData.strOk z
theorem a2u (n:Nat):∀ zs:List Str,(∀ z∈zs,fine z=true)→D.okds n (zs.map D.str)=true
 | [],_=>rfl
 | z :: zs,h=>by
  simp only [zax,D.okds,D.okd,zak]
  exact ⟨h z zal,a2u n zs fun w hw=>h w (zao _ hw)⟩
theorem c5I {z:Str} {zs:List Str} (hz:fine z=true) (hs:∀ w∈zs,fine w=true) (k:K (.bl (decide (z∈zs))) S):a0D .In (.str z) (.lst (zs.map D.str)) S K:=by
 show a6A false (.str z) (.lst (zs.map D.str)) S K
 exact ⟨hz,a2u _ zs hs,by rw [Bool.false_xor,show vw S (.str z)=.str z from rfl,a1O];exact k⟩
theorem c1I {z:Str} {zs:List Str} (hz:fine z=true) (hs:∀ w∈zs,fine w=true) (k:K (.bl (!decide (z∈zs))) S):a0D .NotIn (.str z) (.lst (zs.map D.str)) S K:=by
 show a6A true (.str z) (.lst (zs.map D.str)) S K
 exact ⟨hz,a2u _ zs hs,by rw [Bool.true_xor,show vw S (.str z)=.str z from rfl,a1O];exact k⟩
theorem flat_strs:∀ zs:List Str,(zs.map D.str).all a1G=true
 | []=>rfl
 | _ :: zs=>by rw [zax,List.all_cons,flat_strs zs];rfl
theorem a0E {z:Str} {zs:List Str} (k:K (.bl (decide (z∈zs))) S):a0D .In (.str z) (.tup (zs.map D.str)) S K:=by
 show a6A false (.str z) (.tup (zs.map D.str)) S K
 exact .inl ⟨rfl,flat_strs zs,by rw [Bool.false_xor,a1O];exact k⟩
instance c4z {z:Str} {zs:List Str}:Rdg (a0D .In (.str z) (.tup (zs.map D.str)) S K) (K (.bl (decide (z∈zs))) S):=⟨a0E⟩
theorem c1K {z:Str} {zs:List Str} (k:K (.bl (!decide (z∈zs))) S):a0D .NotIn (.str z) (.tup (zs.map D.str)) S K:=by
 show a6A true (.str z) (.tup (zs.map D.str)) S K
 exact .inl ⟨rfl,flat_strs zs,by rw [Bool.true_xor,a1O];exact k⟩
instance c28 {z:Str} {zs:List Str}:Rdg (a0D .NotIn (.str z) (.tup (zs.map D.str)) S K) (K (.bl (!decide (z∈zs))) S):=⟨c1K⟩
theorem c5K {z:Str} {c:Nat} (k:K (.bl (decide (c∈z.cps.toList))) S):a0D .In (.str ⟨#[c]⟩) (.str z) S K:=by
 show a6A false (.str ⟨#[c]⟩) (.str z) S K
 exact ⟨c,rfl,by rw [Bool.false_xor];exact k⟩
instance c4y {z:Str} {c:Nat}:Rdg (a0D .In (.str ⟨#[c]⟩) (.str z) S K) (K (.bl (decide (c∈z.cps.toList))) S):=⟨c5K⟩
theorem c1J {z:Str} {c:Nat} (k:K (.bl (!decide (c∈z.cps.toList))) S):a0D .NotIn (.str ⟨#[c]⟩) (.str z) S K:=by
 show a6A true (.str ⟨#[c]⟩) (.str z) S K
 exact ⟨c,rfl,by rw [Bool.true_xor];exact k⟩
instance c27 {z:Str} {c:Nat}:Rdg (a0D .NotIn (.str ⟨#[c]⟩) (.str z) S K) (K (.bl (!decide (c∈z.cps.toList))) S):=⟨c1J⟩
theorem c0J {z w:Str} (k:K (.bl (decide (z=w))) S):a0D .Eq (.str z) (.str w) S K:=.inr (.inl ⟨z,w,rfl,rfl,by rw [Bool.false_xor];exact k⟩)
instance c2h {z w:Str}:Rdg (a0D .Eq (.str z) (.str w) S K) (K (.bl (decide (z=w))) S):=⟨c0J⟩
theorem a9k {z w:Str} (k:K (.bl (!decide (z=w))) S):a0D .NotEq (.str z) (.str w) S K:=.inr (.inl ⟨z,w,rfl,rfl,by rw [Bool.true_xor];exact k⟩)
instance c2p {z w:Str}:Rdg (a0D .NotEq (.str z) (.str w) S K) (K (.bl (!decide (z=w))) S):=⟨a9k⟩
theorem c0P (k:K (.bl (isNon x)) S):a0D .Is x .non S K:=by show cIs false x .non S K;unfold cIs;rw [Bool.false_xor];exact k
instance c2l  : Rdg (a0D .Is x .non S K) (K (.bl (isNon x)) S):=⟨c0P⟩
theorem b6m (k:K (.bl (!isNon x)) S):a0D .IsNot x .non S K:=by show cIs true x .non S K;unfold cIs;rw [Bool.true_xor];exact k
instance b9l  : Rdg (a0D .IsNot x .non S K) (K (.bl (!isNon x)) S):=⟨b6m⟩
theorem c0O {a b:Bool} (k:K (.bl (decide (a=b))) S):a0D .Is (.bl a) (.bl b) S K:=by show cIs false (.bl a) (.bl b) S K;unfold cIs;exact ⟨a,rfl,by rw [Bool.false_xor];exact k⟩
instance c2k {a b:Bool}:Rdg (a0D .Is (.bl a) (.bl b) S K) (K (.bl (decide (a=b))) S):=⟨c0O⟩
theorem b6l {a b:Bool} (k:K (.bl (!decide (a=b))) S):a0D .IsNot (.bl a) (.bl b) S K:=by show cIs true (.bl a) (.bl b) S K;unfold cIs;exact ⟨a,rfl,by rw [Bool.true_xor];exact k⟩
instance b9k {a b:Bool}:Rdg (a0D .IsNot (.bl a) (.bl b) S K) (K (.bl (!decide (a=b))) S):=⟨b6l⟩
theorem b6g {x y:D} {ds es:List D} (e1:vw S x=.lst ds) (e2:vw S y=.lst es) (ne:ds.length≠es.length) (k:K (.bl false) S):a0D .Eq x y S K:=.inr (.inr (.inr (.inr ⟨ds,es,e1,e2,ne,k⟩)))
theorem b6i {x y:D} {ds es:List D} (e1:vw S x=.lst ds) (e2:vw S y=.lst es) (ne:ds.length≠es.length) (k:K (.bl true) S):a0D .NotEq x y S K:=.inr (.inr (.inr (.inr ⟨ds,es,e1,e2,ne,k⟩)))
theorem a5V {cn:Cn} {t:Value} {b:Bool} {Q:Bool→Prop} (ht:tyD S d=some t) (ok:a2L G S d) (hk:PySem.W.kitOne G.K t (cn.val G)=some b) (k:Q b):∃ t b,tyD S d=some t∧a2L G S d∧PySem.W.kitOne G.K t (cn.val G)=some b∧Q b:=⟨t,b,ht,ok,hk,k⟩
end
section
variable {G:Gs} {δ:DS} {S:SS} {Y:XD'} {F:SE} {a b c e:RE} {es:RL} {s:RS} {d x y:D} {p:Addr} {K:SS→Prop}
theorem b8U {i j l:Nat} (hm:G.m0=none) (h:a0q G.toGm es δ S Y fun ds S1=>∃ u v w,ds=[u,v,w]∧F.nx (((δ.set i (some u)).set j (some v)).set l (some w)) S1):a0n G (.tri i j l es) δ S Y F:=by rw [a0n];exact ⟨hm,h⟩
instance b9Z {i j l:Nat} [M:M0 G.m0]:Rdg (a0n G (.tri i j l es) δ S Y F) (a0q G.toGm es δ S Y fun ds S1=>∃ u v w,ds=[u,v,w]∧F.nx (((δ.set i (some u)).set j (some v)).set l (some w)) S1):=⟨b8U M.out⟩
theorem b2G {a b c:D} {Q:D→D→D→Prop} (k:Q a b c):∃ u v w,[a,b,c]=[u,v,w]∧Q u v w:=⟨a,b,c,rfl,k⟩
instance b5F {a b c:D} {Q:D→D→D→Prop}:Rdg (∃ u v w,[a,b,c]=[u,v,w]∧Q u v w) (Q a b c):=⟨b2G⟩
theorem b8P {i j:Nat} (hm:G.m0=none) (h:a0q G.toGm es δ S Y fun ds S1=>∃ v w,ds=[v,w]∧F.nx ((δ.set i (some v)).set j (some w)) S1):a0n G (.par i j es) δ S Y F:=by rw [a0n];exact ⟨hm,h⟩
instance b9T {i j:Nat} [M:M0 G.m0]:Rdg (a0n G (.par i j es) δ S Y F) (a0q G.toGm es δ S Y fun ds S1=>∃ v w,ds=[v,w]∧F.nx ((δ.set i (some v)).set j (some w)) S1):=⟨b8P M.out⟩
theorem b85 {Q:D→D→Prop} (k:Q x y):∃ v w,[x,y]=[v,w]∧Q v w:=⟨x,y,rfl,k⟩
instance b95 {Q:D→D→Prop}:Rdg (∃ v w,[x,y]=[v,w]∧Q v w) (Q x y):=⟨b85⟩
theorem b8R {f:Str} (h:den G.toGm c δ S Y fun z S1=>den G.toGm a δ S1 Y fun x S2=>∃ p C fs,x=.obj p∧S2 p=some (.ins C fs)∧Cls G.K C∧NoAttr G.K C f∧fs.length < 1000∧F.nx δ (S2.set p (.ins C (a6i f z fs)))):a0n G (.stf a f c) δ S Y F:=by rw [a0n];exact h
instance b9W {f:Str}:Rdg (a0n G (.stf a f c) δ S Y F) (den G.toGm c δ S Y fun z S1=>den G.toGm a δ S1 Y fun x S2=>∃ p C fs,x=.obj p∧S2 p=some (.ins C fs)∧Cls G.K C∧NoAttr G.K C f∧fs.length < 1000∧F.nx δ (S2.set p (.ins C (a6i f z fs)))):=⟨b8R⟩
theorem b8l {kvs:List (Key × D)} {key:Key} {z:D} (h:S p=some (.dic kvs)) (hk:keyD y=some key) (few:kvs.length < sizeLine) (k:K (S.set p (.dic (putD kvs key z)))):a8W (.obj p) y z S K:=by
 unfold a8W;simp only [h];exact ⟨key,hk,few,k⟩
end
def a1t {α:Type} (f:α→D) (l:List (Str × α)):List (Key × D):=l.map fun q=>(.inr q.1,f q.2)
section
variable {α:Type} {f:α→D} {l:List (Str × α)} {z:Str}
theorem b0g:(a1t f l).map (·.1)=(l.map (·.1)).map Sum.inr:=by unfold a1t;rw [zat,zat];rfl
theorem a7W:(a1t f l).length=l.length:=by unfold a1t;rw [zag]
theorem b2c:valD (a1t f l) (.inr z)=(l.lookup z).map f:=by
 unfold valD a1t
 induction l with
 | nil=>rfl
 | cons q l ih =>
  obtain ⟨k,v⟩:=q
  rw [zax,List.find?_cons,List.lookup_cons]
  by_cases e:k=z
  ·subst e
   simp
  ·have e1:(z == k)=false:=by rw [beq_eq_false_iff_ne];exact fun h=>e h.symm
   have e2:decide ((Sum.inr k:Key)=Sum.inr z)=false:=by simpa using e
   rw [e1,e2]
   exact ih
theorem lookup_some:(l.lookup z).isSome=decide (z∈l.map (·.1)):=by
 induction l with
 | nil=>rfl
 | cons q l ih =>
  obtain ⟨k,v⟩:=q
  rw [List.lookup_cons,zax]
  by_cases e:z=k
  ·subst e;simp
  ·have e1:(z == k)=false:=by rw [beq_eq_false_iff_ne];exact e
   rw [e1]
   simp only [ih]
   simp [e]
theorem b0h:(valD (a1t f l) (.inr z)).isSome=decide (z∈l.map (·.1)):=by
 rw [b2c,Option.isSome_map,lookup_some]
theorem b2b {v:α} (h:z∉l.map (·.1)):putD (a1t f l) (.inr z) (f v)=a1t f (l ++ [(z,v)]):=by
 unfold putD
 rw [if_neg ?_]
 ·unfold a1t;rw [zav];rfl
 ·intro e
  apply h
  rw [List.any_eq_true] at e
  obtain ⟨q,hq,e⟩:=e
  unfold a1t at hq
  obtain ⟨r,hr,rfl⟩:=zan.mp hq
  have e:r.1=z:=by simpa using e
  rw [← e]
  exact zan.mpr ⟨r,hr,rfl⟩
end
end Sv
namespace Sv
open PySem PySem.Spec PyProof.Rows L2
structure Plain (x:D):Prop where
 ok:D.okd 60 x=true
 data:pdD x=some x.py
 shows:b5W x.py
mutual
def smD:Nat→D→Bool
 | _,.non=>true | _,.bl _=>true | _,.int i=>decide (i.natAbs < 10 ^ 12)
 | _,.str z=>decide (z.cps.size≤64) && fine z
 | n,.lst ds=>decide (0 < n) && (decide (ds.length≤64) && b8o (n - 1) ds)
 | n,.tup ds=>decide (0 < n) && (decide (ds.length≤64) && b8o (n - 1) ds)
 | _,_=>false
def b8o:Nat→List D→Bool
 | _,[]=>true | n,d :: ds=>smD n d && b8o n ds
end
def b6f:Nat→Nat
 | 0=>64 | n + 1=>64 * (b6f n + 1)
theorem a5d {z:Str} (h:fine z=true):(z.cps.toList.all fun c=>decide (c < 16 ^ 8))=true:=by
 unfold fine PyData.strOk at h
 rw [← Array.all_toList,List.all_eq_true] at h
 rw [List.all_eq_true]
 intro c hc
 have:=of_decide_eq_true (h c hc)
 exact zbg (by omega)
structure Fits (n:Nat) (d:D):Prop where
 data:pdD d=some d.py
 short:d.py.leavesShort 13=true
 bulk:d.py.bulk≤b6f n
 show_:d.py.showable=true
 dict:d.py.hasDict=false
 deep:d.py.depth≤n
 ok:D.okd n d=true
structure FitsAll (n:Nat) (ds:List D):Prop where
 data:b1i ds=some (D.pys ds)
 short:PyData.leavesShortAll 13 (D.pys ds)=true
 bulk:PyData.bulkAll (D.pys ds)≤ds.length * (b6f n + 1)
 show_:PyData.showableAll (D.pys ds)=true
 dict:PyData.hasDictAll (D.pys ds)=false
 deep:PyData.depthAll (D.pys ds)≤n
 ok:D.okds n ds=true
theorem b7H {l b:Nat} (h:l≤64):l * b≤64 * b:=Nat.mul_le_mul_right b h
mutual
theorem a2A:∀ (d:D) (n:Nat),smD n d=true→Fits n d
 | .non,n,_=>⟨rfl,by simp [D.py,PyData.leavesShort],by simp [D.py,PyData.bulk],by simp [D.py,PyData.showable],by simp [D.py,PyData.hasDict],by simp [D.py,PyData.depth],by simp [D.okd]⟩
 | .bl b,n,_=>⟨rfl,by simp [D.py,PyData.leavesShort],by simp [D.py,PyData.bulk],by simp [D.py,PyData.showable],by simp [D.py,PyData.hasDict],by simp [D.py,PyData.depth],by simp [D.okd]⟩
 | .int i,n,h=>by
  simp only [smD,zah] at h
  refine ⟨rfl,?_,by simp [D.py,PyData.bulk],?_,by simp [D.py,PyData.hasDict],by simp [D.py,PyData.depth],by simp [D.okd]⟩
  ·simp only [D.py,PyData.leavesShort,zah]
   rw [PyData.shown_int]
   have:=PySem.int_text_length_le10 (a:=i) (k:=12) (by decide) h
   rw [PySem.ofString_length]
   exact this
  ·simp only [D.py,PyData.showable,zah]
   exact log2_small (Nat.lt_of_lt_of_le (Nat.lt_trans h (by decide:10 ^ 12 < 2 ^ 64)) (Nat.pow_le_pow_right (by decide) (by decide)))
 | .str z,n,h=>by
  simp only [smD,zak,zah] at h
  refine ⟨rfl,by simp only [D.py,PyData.leavesShort];exact a5d h.2,?_,by simp [D.py,PyData.showable],by simp [D.py,PyData.hasDict],by simp [D.py,PyData.depth],by simp only [D.okd];exact h.2⟩
  simp only [D.py,PyData.bulk]
  have:64≤b6f n:=by
   cases n with
   | zero=>exact Nat.le_refl _
   | succ n=>unfold b6f;omega
  omega
 | .lst ds,n,h=>by
  simp only [smD,zak,zah] at h
  obtain ⟨m,rfl⟩:∃ m,n=m + 1:=⟨n - 1,by omega⟩
  have a:=a4b ds m h.2.2
  refine ⟨by simp only [pdD,D.py,a.data,Option.map_some],by simp only [D.py,PyData.leavesShort];exact a.short,?_,by simp only [D.py,PyData.showable];exact a.show_,by simp only [D.py,PyData.hasDict];exact a.dict,by simp only [D.py,PyData.depth];have:=a.deep;omega,by simp only [D.okd,zak,zah];exact ⟨by omega,a.ok⟩⟩
  simp only [D.py,PyData.bulk]
  exact Nat.le_trans a.bulk (b7H h.2.1)
 | .tup ds,n,h=>by
  simp only [smD,zak,zah] at h
  obtain ⟨m,rfl⟩:∃ m,n=m + 1:=⟨n - 1,by omega⟩
  have a:=a4b ds m h.2.2
  refine ⟨by simp only [pdD,D.py,a.data,Option.map_some],by simp only [D.py,PyData.leavesShort];exact a.short,?_,by simp only [D.py,PyData.showable];exact a.show_,by simp only [D.py,PyData.hasDict];exact a.dict,by simp only [D.py,PyData.depth];have:=a.deep;omega,by simp only [D.okd,zak,zah];exact ⟨by omega,a.ok⟩⟩
  simp only [D.py,PyData.bulk]
  exact Nat.le_trans a.bulk (b7H h.2.1)
 | .dic _,_,h=>by simp [smD] at h
 | .obj _,_,h=>by simp [smD] at h
 | .exc _ _ _ _,_,h=>by simp [smD] at h
 | .err _ _ _ _,_,h=>by simp [smD] at h
theorem a4b:∀ (ds:List D) (n:Nat),b8o n ds=true→FitsAll n ds
 | [],n,_=>⟨rfl,rfl,by simp [D.pys,PyData.bulkAll],rfl,rfl,by simp [D.pys,PyData.depthAll],by simp [D.okds]⟩
 | d :: ds,n,h=>by
  simp only [b8o,zak] at h
  have a:=a2A d n h.1
  have b:=a4b ds n h.2
  refine ⟨by simp only [b1i,D.pys,a.data,b.data],by simp only [D.pys,PyData.leavesShortAll,a.short,b.short];rfl,?_,by simp only [D.pys,PyData.showableAll,a.show_,b.show_];rfl,by simp only [D.pys,PyData.hasDictAll,a.dict,b.dict];rfl,by simp only [D.pys,PyData.depthAll];have:=a.deep;have:=b.deep;omega,by simp only [D.okds,a.ok,b.ok];rfl⟩
  simp only [D.pys,PyData.bulkAll,zaz,Nat.add_mul,Nat.one_mul]
  have:=a.bulk
  have:=b.bulk
  simp only [Nat.mul_add,Nat.mul_one] at *
  omega
end
mutual
theorem b3v:∀ (d:D) (n m:Nat),n≤m→D.okd n d=true→D.okd m d=true
 | .non,n,m,_,h=>by simp [D.okd]
 | .bl _,n,m,_,h=>by simp [D.okd]
 | .int _,n,m,_,h=>by simp [D.okd]
 | .str _,n,m,_,h=>by simpa [D.okd] using h
 | .lst ds,n,m,l,h=>by
  simp only [D.okd,zak,zah] at h ⊢
  exact ⟨by omega,a7a ds (n - 1) (m - 1) (by omega) h.2⟩
 | .tup ds,n,m,l,h=>by
  simp only [D.okd,zak,zah] at h ⊢
  exact ⟨by omega,a7a ds (n - 1) (m - 1) (by omega) h.2⟩
 | .dic _,n,m,_,h=>by simp [D.okd] at h
 | .obj _,n,m,_,h=>by simp [D.okd] at h
 | .exc _ _ _ _,n,m,_,h=>by simp [D.okd] at h
 | .err _ _ _ _,n,m,_,h=>by simp [D.okd] at h
theorem a7a:∀ (ds:List D) (n m:Nat),n≤m→D.okds n ds=true→D.okds m ds=true
 | [],n,m,_,_=>by simp [D.okds]
 | d :: ds,n,m,l,h=>by
  simp only [D.okds,zak] at h ⊢
  exact ⟨b3v d n m l h.1,a7a ds n m l h.2⟩
end
theorem Plain.self {d:D} (h:Plain d):D.eqv d d=true:=by
 unfold D.eqv
 exact SeqAt.eqv_refl _ (a3Q d 60 h.ok).1
mutual
theorem b4c {S:SS}:∀ (d:D) (n m:Nat),D.okd m d=true→dv S n d=d
 | d,0,_,_=>rfl
 | .lst xs,n + 1,m,h=>by
  simp only [D.okd,zak] at h
  show D.lst (xs.map (dv S n))=_
  rw [a9C xs n _ h.2]
 | .tup xs,n + 1,m,h=>by
  simp only [D.okd,zak] at h
  show D.tup (xs.map (dv S n))=_
  rw [a9C xs n _ h.2]
 | .non,n + 1,_,_=>rfl
 | .bl _,n + 1,_,_=>rfl
 | .int _,n + 1,_,_=>rfl
 | .str _,n + 1,_,_=>rfl
 | .dic _,n + 1,_,h=>by simp [D.okd] at h
 | .obj _,n + 1,_,h=>by simp [D.okd] at h
 | .exc _ _ _ _,n + 1,_,h=>by simp [D.okd] at h
 | .err _ _ _ _,n + 1,_,h=>by simp [D.okd] at h
theorem a9C {S:SS}:∀ (ds:List D) (n m:Nat),D.okds m ds=true→ds.map (dv S n)=ds
 | [],_,_,_=>rfl
 | d :: ds,n,m,h=>by
  simp only [D.okds,zak] at h
  rw [zax,b4c d n m h.1,a9C ds n m h.2]
end
theorem Plain.dv {S:SS} {x:D} (h:Plain x):Sv.dv S 60 x=x:=b4c x 60 60 h.ok
theorem c0L {x y a b:D} {S:SS} {K:DK} (hx:dv S 60 x=a) (hy:dv S 60 y=b) (oa:D.okd 60 a=true) (ob:D.okd 60 b=true) (k:K (.bl (D.eqv a b)) S):a0D .Eq x y S K :=
 .inr (.inr (.inl ⟨by rw [hx];exact oa,by rw [hy];exact ob,by rw [Bool.false_xor,hx,hy];exact k⟩))
theorem b6h {x y a:D} {S:SS} {K:DK} (hx:dv S 60 x=a) (hy:dv S 60 y=a) (p:Plain a) (k:K (.bl true) S):a0D .Eq x y S K:=c0L hx hy p.ok p.ok (by rw [p.self];exact k)
theorem b75 {x a:D} {S:SS} {K:DK} (hx:dv S 60 x=a) (p:Plain a) (k:K (.str a.py.shown) S):Bn.rpr.den [x] S K:=⟨a.py,.inl ⟨.inr ⟨by rw [hx];exact p.ok,by rw [hx]⟩,p.shows⟩,k⟩
end Sv
namespace Sv
open PySem PySem.Spec PyProof.Rows L2
section
variable {G:Gm} {δ:DS} {S:SS} {Y:XD'} {K:DK} {a:RE} {es:RL} {cell:Bool} {k:Nat}
theorem c1e (h:den G a δ S Y fun x S1=>∃ ds,vw S1 x=.lst ds∧K (.lst (ev2 k ds)) S1):den G (.sl2 k a) δ S Y K:=by rw [den];exact h
instance c2K  : Rdg (den G (.sl2 k a) δ S Y K) (den G a δ S Y fun x S1=>∃ ds,vw S1 x=.lst ds∧K (.lst (ev2 k ds)) S1):=⟨c1e⟩
theorem b6P (hm:G.m0=none) (h:a0q G es δ S Y fun ds S1=>Bn.mnl.den ds S1 K):den G (.bi .mnl es) δ S Y K:=a5b hm h
instance b9C  [M:M0 G.m0]:Rdg (den G (.bi .mnl es) δ S Y K) (a0q G es δ S Y fun ds S1=>Bn.mnl.den ds S1 K):=⟨b6P M.out⟩
theorem b6R (hm:G.m0=none) (h:a0q G es δ S Y fun ds S1=>(Bn.srl cell).den ds S1 K):den G (.bi (.srl cell) es) δ S Y K:=a5b hm h
instance b9E  [M:M0 G.m0]:Rdg (den G (.bi (.srl cell) es) δ S Y K) (a0q G es δ S Y fun ds S1=>(Bn.srl cell).den ds S1 K):=⟨b6R M.out⟩
theorem b6S (hm:G.m0=none) (h:a0q G es δ S Y fun ds S1=>(Bn.srp cell).den ds S1 K):den G (.bi (.srp cell) es) δ S Y K:=a5b hm h
instance b9F  [M:M0 G.m0]:Rdg (den G (.bi (.srp cell) es) δ S Y K) (a0q G es δ S Y fun ds S1=>(Bn.srp cell).den ds S1 K):=⟨b6S M.out⟩
theorem c3w {z b:Str} {P:Prop} (k:P):Mn.spl.rc (.str z) S∧P:=⟨⟨z,rfl⟩,k⟩
instance c3i {z:Str} {P:Prop}:Rdg (Mn.spl.rc (.str z) S∧P) (P):=⟨c3w (b:=z)⟩
end
section
end
mutual
def lfD:Nat→D→Bool
 | _,.non=>true | _,.bl _=>true | _,.int i=>decide (i.natAbs < 10 ^ 12)
 | _,.str z=>decide (z.cps.size≤64) && fine z
 | n,.lst ds=>decide (0 < n) && b4A (n - 1) ds
 | n,.tup ds=>decide (0 < n) && b4A (n - 1) ds
 | _,_=>false
def b4A:Nat→List D→Bool
 | _,[]=>true | n,d :: ds=>lfD n d && b4A n ds
end
structure Fit (n:Nat) (d:D):Prop where
 data:pdD d=some d.py
 short:d.py.leavesShort 13=true
 show_:d.py.showable=true
 dict:d.py.hasDict=false
 deep:d.py.depth≤n
 ok:D.okd n d=true
structure b5N (n:Nat) (ds:List D):Prop where
 data:b1i ds=some (D.pys ds)
 short:PyData.leavesShortAll 13 (D.pys ds)=true
 show_:PyData.showableAll (D.pys ds)=true
 dict:PyData.hasDictAll (D.pys ds)=false
 deep:PyData.depthAll (D.pys ds)≤n
 ok:D.okds n ds=true
theorem Fits.fit {n:Nat} {d:D} (h:Fits n d):Fit n d:=⟨h.data,h.short,h.show_,h.dict,h.deep,h.ok⟩
mutual
theorem a96:∀ (d:D) (n:Nat),lfD n d=true→Fit n d
 | .non,n,_=>(a2A .non n rfl).fit
 | .bl b,n,_=>(a2A (.bl b) n (by simp [smD])).fit
 | .int i,n,h=>(a2A (.int i) n (by simpa only [smD,lfD] using h)).fit
 | .str z,n,h=>(a2A (.str z) n (by simpa only [smD,lfD] using h)).fit
 | .lst ds,n,h=>by
  simp only [lfD,zak,zah] at h
  obtain ⟨m,rfl⟩:∃ m,n=m + 1:=⟨n - 1,by omega⟩
  have a:=a5l ds m h.2
  refine ⟨by simp only [pdD,D.py,a.data,Option.map_some],by simp only [D.py,PyData.leavesShort];exact a.short,by simp only [D.py,PyData.showable];exact a.show_,by simp only [D.py,PyData.hasDict];exact a.dict,by simp only [D.py,PyData.depth];have:=a.deep;omega,by simp only [D.okd,zak,zah];exact ⟨by omega,a.ok⟩⟩
 | .tup ds,n,h=>by
  simp only [lfD,zak,zah] at h
  obtain ⟨m,rfl⟩:∃ m,n=m + 1:=⟨n - 1,by omega⟩
  have a:=a5l ds m h.2
  refine ⟨by simp only [pdD,D.py,a.data,Option.map_some],by simp only [D.py,PyData.leavesShort];exact a.short,by simp only [D.py,PyData.showable];exact a.show_,by simp only [D.py,PyData.hasDict];exact a.dict,by simp only [D.py,PyData.depth];have:=a.deep;omega,by simp only [D.okd,zak,zah];exact ⟨by omega,a.ok⟩⟩
 | .dic _,_,h=>by simp [lfD] at h
 | .obj _,_,h=>by simp [lfD] at h
 | .exc _ _ _ _,_,h=>by simp [lfD] at h
 | .err _ _ _ _,_,h=>by simp [lfD] at h
theorem a5l:∀ (ds:List D) (n:Nat),b4A n ds=true→b5N n ds
 | [],n,_=>⟨rfl,rfl,rfl,rfl,by simp [D.pys,PyData.depthAll],by simp [D.okds]⟩
 | d :: ds,n,h=>by
  simp only [b4A,zak] at h
  have a:=a96 d n h.1
  have b:=a5l ds n h.2
  exact ⟨by simp only [b1i,D.pys,a.data,b.data],by simp only [D.pys,PyData.leavesShortAll,a.short,b.short];rfl,by simp only [D.pys,PyData.showableAll,a.show_,b.show_];rfl,by simp only [D.pys,PyData.hasDictAll,a.dict,b.dict];rfl,by simp only [D.pys,PyData.depthAll];have:=a.deep;have:=b.deep;omega,by simp only [D.okds,a.ok,b.ok];rfl⟩
end
theorem b2o {d:D} (h:lfD 20 d=true) (hb:d.py.bulk≤266304):Plain d:=by
 have f:=a96 d 20 h
 exact ⟨b3v d 20 60 (by decide) f.ok,f.data,⟨f.show_,f.dict,PySem.PyData.shown_fits_bulk (B:=13) (by decide) (by decide) f.short (Nat.le_trans hb (by decide)),Nat.le_trans f.deep (by decide)⟩⟩
theorem a5k {n:Nat}:∀ {ds:List D},(∀ d∈ds,lfD n d=true)→b4A n ds=true
 | [],_=>rfl
 | d :: ds,h=>by
  simp only [b4A,zak]
  exact ⟨h d zal,a5k fun e he=>h e (zao _ he)⟩
theorem a4Z {b:Nat}:∀ {ds:List D},(∀ d∈ds,d.py.bulk≤b)→PyData.bulkAll (D.pys ds)≤ds.length * (b + 1)
 | [],_=>by simp [D.pys,PyData.bulkAll]
 | d :: ds,h=>by
  have h1:=h d zal
  have h2:=a4Z (b:=b) fun e he=>h e (zao _ he)
  simp only [D.pys,PyData.bulkAll,zaz,Nat.add_mul,Nat.one_mul]
  simp only [Nat.mul_add,Nat.mul_one] at *
  omega
theorem b1q {b:Nat} {ds:List D} (h:∀ d∈ds,d.py.bulk≤b):(D.lst ds).py.bulk≤ds.length * (b + 1):=by
 simp only [D.py,PyData.bulk];exact a4Z h
theorem b1s {b:Nat} {ds:List D} (h:∀ d∈ds,d.py.bulk≤b):(D.tup ds).py.bulk≤ds.length * (b + 1):=by
 simp only [D.py,PyData.bulk];exact a4Z h
end Sv
noncomputable section
namespace Sv
open PySem PySem.Spec PyProof.Rows L2 PySem.W PySem.Calls
theorem a4C {β:Type} {f:{α:Type}→β→(β→α)→α} (h:∀ {α:Type} (b:β) (k:β→α),f b k=k b) {α:Type}:∀ (l:List β) (k:List β→α),foL f l k=k l
 | [],k=>rfl
 | a :: r,k=>by
  show f a (fun a=>foL f r fun r=>k (a :: r))=_
  rw [h,a4C h]
theorem a2n {α:Type} (n:Nat) (k:Nat→α):foN n k=k n:=HandSHeadRun.frNat_eq n k
theorem b7c {α:Type} (s:Str) (k:Str→α):foS s k=k s:=by
 obtain ⟨⟨l⟩⟩:=s
 exact a4C a2n l _
theorem a2o {α:Type} (v:Value) (k:Value→α):foV v k=k v:=by
 cases v with
 | ref a=>exact a2n a _
 | str s t=>exact b7c s fun s=>k (.str s t)
 | _=>rfl
theorem b69 {α:Type} (e:DictEntry) (k:DictEntry→α):foE e k=k e:=by
 obtain ⟨h,x,v⟩:=e
 show foV x (fun x=>foV v fun v=>k ⟨h,x,v⟩)=_
 rw [a2o,a2o]
theorem b68 {α:Type} (d:Data) (k:Data→α):foD d k=k d:=by
 cases d with
 | dict es n=>obtain ⟨es⟩:=es;exact a4C b69 es _
 | seq es n=>obtain ⟨es⟩:=es;exact a4C a2o es _
 | fields es=>obtain ⟨es⟩:=es;exact a4C a2o es _
 | cls c =>
  obtain ⟨a1,a2,mro,ns,a3,a4,a5,a6,a7,a8,a9⟩:=c
  show foL foV mro (fun mro=>foN ns fun ns=>k (.cls ⟨a1,a2,mro,ns,a3,a4,a5,a6,a7,a8,a9⟩))=_
  rw [a4C a2o,a2n]
 | func f =>
  obtain ⟨n1,n2,n3,n4,n5,n6,n7,n8,n9,n10,n11,n12,n13,n14,n15⟩:=f
  show foN n6 (fun n6=>foV n8 fun n8=>foV n9 fun n9=>foV n13 fun n13=>foN n15 fun n15=>k (.func ⟨n1,n2,n3,n4,n5,n6,n7,n8,n9,n10,n11,n12,n13,n14,n15⟩))=_
  rw [a2n,a2o,a2o,a2o,a2n]
 | _=>rfl
theorem b7a {α:Type} (o:Obj) (k:Obj→α):foO o k=k o:=by
 obtain ⟨c,d,dt,sl⟩:=o
 show foV c (fun c=>foD dt fun dt=>k ⟨c,d,dt,sl⟩)=_
 rw [a2o,b68]
def b81 (o:Obj):Option (List (Nat × DictEntry)):=match o with
 | ⟨_,_,.dict es _,_⟩=>some (es.toList.map fun e=>(a3e e,e))
 | _=>none
def b96 (K:Frag):Tab:=K.map fun p=>(p.1,b81 p.2)
theorem b3i {α:Type}:∀ (es:List DictEntry) (k:List (Nat × DictEntry)→α),foC es k=k (es.map fun e=>(a3e e,e))
 | [],k=>rfl
 | e :: r,k=>by
  show foN (a3e e) (fun n=>foC r fun r=>k ((n,e) :: r))=_
  rw [a2n,b3i r] <;> rfl
theorem b7b {α:Type} (o:Obj) (k:Option (List (Nat × DictEntry))→α):foP o k=k (b81 o):=by
 obtain ⟨c,d,dt,sl⟩:=o
 cases dt with
 | dict es n=>obtain ⟨es⟩:=es;exact b3i es _
 | _=>rfl
theorem a9K {α:Type}:∀ (K:Frag) (k:Tab→α),foT K k=k (b96 K)
 | [],k=>rfl
 | (a,o) :: r,k=>by
  show foP o (fun t=>foT r fun T=>k ((a,t) :: T))=_
  rw [b7b,a9K r] <;> rfl
theorem a0W {β:Type} {a:Nat}:∀ l:List (Nat × β),a1b l a=l.lookup a
 | []=>rfl
 | (b,v) :: r=>by
  show (match Nat.beq a b with
   | true=>some v
   | false=>a1b r a)=(match a == b with
   | true=>some v
   | false=>r.lookup a)
  have e:(a == b)=Nat.beq a b:=by
   cases h:Nat.beq a b with
   | true=>exact beq_iff_eq.mpr (Nat.eq_of_beq_eq_true h)
   | false=>exact beq_eq_false_iff_ne.mpr (Nat.ne_of_beq_eq_false h)
  rw [e,a0W r]
theorem b1w {e:DictEntry} {x:Str} (h:e.key.isStr x=true):a3e e=codeS x:=by
 obtain ⟨hh,k,v⟩:=e
 cases k with
 | str s t =>
  have e:s=x:=eq_of_beq (show (s == x)=true from h)
  subst e
  rfl
 | _=>cases h
theorem a7C {x:Str}:∀ es:List DictEntry,a8v (codeS x) x (es.map fun e=>(a3e e,e))=es.find? (·.key.isStr x)
 | []=>rfl
 | e :: r=>by
  show (match Nat.beq (a3e e) (codeS x) with
   | true=>(match e.key.isStr x with
    | true=>some e
    | false=>a8v (codeS x) x (r.map fun e=>(a3e e,e)))
   | false=>a8v (codeS x) x (r.map fun e=>(a3e e,e)))=(match e.key.isStr x with
   | true=>some e
   | false=>r.find? (·.key.isStr x))
  rw [a7C r]
  cases h:Nat.beq (a3e e) (codeS x) with
  | true=>rfl
  | false =>
   cases q:e.key.isStr x with
   | false=>rfl
   | true=>exact absurd (b1w q) (Nat.ne_of_beq_eq_false h)
def nsT (T:Tab) (ns:Addr) (x:Str):Option (Option Value):=match a1b T ns with
 | some (some l)=>foN (codeS x) fun c=>(match a8v c x l with
  | some e=>some (some e.val)
  | none=>if l.any (fun p=>p.2.refKey) then none else some none)
 | _=>none
theorem a6s {a:Addr}:∀ K:Frag,(b96 K).lookup a=(K.lookup a).map b81
 | []=>rfl
 | (b,o) :: r=>by
  show (match a == b with
   | true=>some (b81 o)
   | false=>(b96 r).lookup a)=Option.map b81 (match a == b with
   | true=>some o
   | false=>r.lookup a)
  cases a == b with
  | true=>rfl
  | false=>exact a6s r
section
variable (K:Frag) (N:Addr→Str→Option (Option Value))
def gaN (x:Str):Addr:=match N mainGlobals x with
 | some (some (.ref a))=>a
 | _=>0
def b7S (name:Str):Value→Option (Option Value)
 | .type n=>some (fastBuiltinOwn n name)
 | .ref a=>(match a1b K a with
   | some ⟨_,_,.cls cd,_⟩=>N cd.ns name
   | _=>none)
 | _=>some none
def a3x (name:Str):List Value→Option (Option Value)
 | []=>some none
 | c :: r=>match b7S K N name c with
  | some (some v)=>some (some v)
  | some none=>a3x name r
  | none=>none
def a4s (t:Value) (name:Str):Option (Option Value):=match t with
 | .type n=>fastLookup n name
 | .ref a=>(match a1b K a with
   | some ⟨_,_,.cls cd,_⟩=>a3x K N name cd.mro
   | _=>none)
 | _=>none
def maN (C:Addr) (m:Str):Addr:=match a4s K N (.ref C) m with
 | some (some (.ref a))=>a
 | _=>0
def b5C (p:Str × Option Str):Addr:=match p.2 with
 | none=>gaN N p.1
 | some m=>maN K N (gaN N p.1) m
def a9X (a:Addr):Bool:=match a1b K a with
 | some ⟨_,_,.func _,_⟩=>true
 | some ⟨_,_,.cls _,_⟩=>specialIn K (.ref a) "__call__" == some (some (.builtin "type.__call__"))
 | _=>false
def codeN (cd:Value) (q:Str):Bool:=match cd with
 | .ref c=>(match a1b K c with
   | some ⟨_,_,.fields vs,_⟩=>(match vs.toList with | _ :: .str n _ :: _=>n == q | _=>false)
   | _=>false)
 | _=>false
theorem a7O (a:Addr):a9X K a=keepIn K (.ref a):=by
 unfold a9X keepIn
 rw [a0W] <;> rfl
theorem b1x (cd:Value) (q:Str):codeN K cd q=codeIn K cd q:=by
 unfold codeN codeIn
 cases cd with
 | ref c =>
  show (match a1b K c with
   | some ⟨_,_,.fields vs,_⟩=>(match vs.toList with | _ :: .str n _ :: _=>n == q | _=>false)
   | _=>false)=_
  rw [a0W] <;> rfl
 | _=>rfl
def b1I (a:Addr):Bool:=(a1b K a).map (·.cls) == some (.type "function")
theorem b1J (a:Addr):b1I K a=isFn K (.ref a):=by
 unfold b1I isFn typeIn
 rw [a0W] <;> rfl
def faN:He.Fa→Bool
 | .glo x=>He.eqO (N mainGlobals x) (some (some (.ref (gaN N x))))
 | .free x=>He.eqO (N mainGlobals x) (some none)
 | .int x i=>(match N mainGlobals x with
  | some (some (.int j _))=>decide (j=i)
  | _=>false)
 | .str x z=>(match N mainGlobals x with
  | some (some (.str y _))=>decide (y=z)
  | _=>false)
 | .cls x=>plainGet K (gaN N x) Str.empty && (hasDictIn K (gaN N x) && (plainOver K (gaN N x) && He.eqO (findIn K (.ref (gaN N x)) "__setattr__") (some (some (.builtin "object.__setattr__")))))
 | .noat x f=>He.eqO (a4s K N (.ref (gaN N x)) f) (some none)
 | .meth x m=>He.eqO (a4s K N (.ref (gaN N x)) m) (some (some (.ref (maN K N (gaN N x) m)))) && (b1I K (maN K N (gaN N x) m) && a9X K (maN K N (gaN N x) m))
 | f=>f.ok K
def okA (d:He.DefD) (a:Addr):Bool:=a9X K a && (match a1b K a with
 | some ⟨_,_,.func fd,_⟩=>codeN K fd.code d.qual && (He.dflB K fd.defaults (d.dvs K) && He.kwdB K fd.kwdefaults (d.kws K))
 | _=>false)
def fnA (a:Addr):He.FnW:=match a1b K a with
 | some ⟨_,_,.func fd,_⟩=>some (fd.name,fd.qualname,fd.params,fd.body,fd.scope,fd.globals,fd.closure,fd.builtins)
 | _=>none
def fxN:Fx→Bool
 | .oex x=>b9i K (gaN N x)
 | .ini x=>He.eqO (a4s K N (.ref (gaN N x)) "__init__") (some (some (.ref (maN K N (gaN N x) "__init__")))) && decide (typeIn K (.ref (maN K N (gaN N x) "__init__"))=some (.type "function"))
 | .nov x f=>He.eqO (a4s K N (.ref (gaN N x)) f) (some none)
 | .kit x y b=>decide (kitOne K (.ref (gaN N x)) (.ref (gaN N y))=some b)
 | .kitT x n b=>decide (kitOne K (.ref (gaN N x)) (.type n)=some b)
 | .sib xs=>xs.all fun x=>xs.all fun y=>decide (kitOne K (.ref (gaN N x)) (.ref (gaN N y))=some (decide (x=y)))
 | .veT xs n=>xs.all fun x=>decide (kitOne K (.ref (gaN N x)) (.type n)=some true)
 | .exA xs y=>xs.all fun x=>decide (exmOne K (.ref (gaN N x)) (.ref (gaN N y))=some true)
 | f=>f.ok K
def b4Q (fa:List He.Fa) (fn:List He.DefD) (fx:List Fx):AlX:=(((fa.all fun f=>faN K N f) && fn.all fun d=>okA K d (b5C K N d.at_),fn.map fun d=>fnA K (b5C K N d.at_)),fx.all fun f=>fxN K N f)
end
section
variable {K:Frag}
theorem b43 {name:Str} (c:Value):b7S K (nsIn K) name c=ownIn K name c:=by
 unfold b7S ownIn
 cases c with
 | ref a =>
  show (match a1b K a with
   | some ⟨_,_,.cls cd,_⟩=>nsIn K cd.ns name
   | _=>none)=_
  rw [a0W] <;> rfl
 | _=>rfl
theorem a5G {name:Str}:∀ l:List Value,a3x K (nsIn K) name l=alongIn K name l
 | []=>rfl
 | c :: r=>by
  show (match b7S K (nsIn K) name c with
   | some (some v)=>some (some v)
   | some none=>a3x K (nsIn K) name r
   | none=>none)=(match ownIn K name c with
   | some (some v)=>some (some v)
   | some none=>alongIn K name r
   | none=>none)
  rw [a5G r,b43] <;> rfl
theorem a1R:a4s K (nsIn K)=findIn K:=by
 funext t name
 unfold a4s findIn
 cases t with
 | ref a =>
  show (match a1b K a with
   | some ⟨_,_,.cls cd,_⟩=>a3x K (nsIn K) name cd.mro
   | _=>none)=_
  rw [a0W]
  simp only [a5G]
  rfl
 | _=>rfl
theorem a7U:maN K (nsIn K)=He.ma K:=by
 funext C m
 unfold maN He.ma
 rw [a1R] <;> rfl
theorem b4g:b5C K (nsIn K)=He.fAd K:=by
 funext p
 unfold b5C He.fAd
 rw [a7U] <;> rfl
theorem b61:faN K (nsIn K)=He.Fa.ok K:=by
 funext f
 cases f with
 | meth x m =>
  show (He.eqO (a4s K (nsIn K) (.ref (gaN (nsIn K) x)) m) (some (some (.ref (maN K (nsIn K) (gaN (nsIn K) x) m)))) && (b1I K (maN K (nsIn K) (gaN (nsIn K) x) m) && a9X K (maN K (nsIn K) (gaN (nsIn K) x) m)))=_
  rw [a1R,a7U,b1J,a7O] <;> rfl
 | _=>first | rfl | (unfold faN He.Fa.ok;rw [a1R];rfl) | (unfold faN He.Fa.ok;rw [a1R,a7U];rfl)
theorem b7f:fxN K (nsIn K)=Fx.ok K:=by
 funext f
 cases f <;> first | rfl | (unfold fxN Fx.ok;rw [a1R];rfl) | (unfold fxN Fx.ok;rw [a1R,a7U];rfl)
theorem b7O (d:He.DefD):okA K d (He.fAd K d.at_)=d.ok K:=by
 unfold okA He.DefD.ok
 rw [a7O,a0W]
 simp only [b1x]
 rfl
theorem b67 (p:Str × Option Str):fnA K (He.fAd K p)=He.fnW K p:=by
 unfold fnA He.fnW
 rw [a0W] <;> rfl
theorem b0q {fa:List He.Fa} {fn:List He.DefD} {fx:List Fx}:b4Q K (nsIn K) fa fn fx=obsX fa fn fx K:=by
 unfold b4Q
 rw [b61,b7f,b4g]
 simp only [b7O,b67]
 rfl
end
section
end
section
variable {g:Addr→Option Obj}
def a2i (g:Addr→Option Obj) (K:Frag):Prop:=∀ p∈K,g p.1=some p.2
theorem a6M:∀ (l:List Addr) (m:Nat) (f:List Addr),∃ m' f',∀ {α:Type} (k:Nat→List Addr→α),b1g l m f k=k m' f'
 | [],m,f=>⟨m,f,fun _=>rfl⟩
 | a :: r,m,f=>by
  cases e:Nat.beq (Nat.land (Nat.shiftRight m a) 1) 0 with
  | true =>
   obtain ⟨m',f',h⟩:=a6M r (Nat.lor m (Nat.shiftLeft 1 a)) (a :: f)
   refine ⟨m',f',fun {α} k=>?_⟩
   show (match Nat.beq (Nat.land (Nat.shiftRight m a) 1) 0 with
    | true=>foN a fun a=>foN (Nat.lor m (Nat.shiftLeft 1 a)) fun m=>b1g r m (a :: f) k
    | false=>b1g r m f k)=k m' f'
   rw [e]
   show foN a (fun a=>foN (Nat.lor m (Nat.shiftLeft 1 a)) fun m=>b1g r m (a :: f) k)=k m' f'
   rw [a2n,a2n]
   exact h k
  | false =>
   obtain ⟨m',f',h⟩:=a6M r m f
   refine ⟨m',f',fun {α} k=>?_⟩
   show (match Nat.beq (Nat.land (Nat.shiftRight m a) 1) 0 with
    | true=>foN a fun a=>foN (Nat.lor m (Nat.shiftLeft 1 a)) fun m=>b1g r m (a :: f) k
    | false=>b1g r m f k)=k m' f'
   rw [e]
   exact h k
theorem a2z:∀ (l:List Addr) (m:Nat) (f:List Addr) (K:Frag),a2i g K→∃ m' f' K',a2i g K'∧∀ {α:Type} (k:Nat→List Addr→Frag→α),a3a g l m f K k=k m' f' K'
 | [],m,f,K,h=>⟨m,f,K,h,fun _=>rfl⟩
 | a :: r,m,f,K,h=>by
  cases e:g a with
  | none =>
   obtain ⟨m',f',K',h',q⟩:=a2z r m f K h
   refine ⟨m',f',K',h',fun {α} k=>?_⟩
   show (match g a with
    | none=>a3a g r m f K k
    | some o=>foO o fun o=>b1g (He.refsD o) m f fun m f=>a3a g r m f ((a,o) :: K) k)=k m' f' K'
   rw [e]
   exact q k
  | some o =>
   obtain ⟨m1,f1,e1⟩:=a6M (He.refsD o) m f
   obtain ⟨m',f',K',h',q⟩:=a2z r m1 f1 ((a,o) :: K) fun p hp=>by
    rcases zau.mp hp with rfl | hp
    ·exact e
    ·exact h p hp
   refine ⟨m',f',K',h',fun {α} k=>?_⟩
   show (match g a with
    | none=>a3a g r m f K k
    | some o=>foO o fun o=>b1g (He.refsD o) m f fun m f=>a3a g r m f ((a,o) :: K) k)=k m' f' K'
   rw [e]
   show foO o (fun o=>b1g (He.refsD o) m f fun m f=>a3a g r m f ((a,o) :: K) k)=k m' f' K'
   rw [b7a,e1]
   exact q k
theorem a6l:∀ (n:Nat) (l:List Addr) (m:Nat) (K:Frag),a2i g K→∃ K',a2i g K'∧∀ {α:Type} (k:Frag→α),b0G g n l m K k=k K'
 | 0,l,m,K,h=>by
  obtain ⟨_,_,K',h',e⟩:=a2z l m [] K h
  exact ⟨K',h',fun k=>e _⟩
 | n + 1,l,m,K,h=>by
  obtain ⟨m',f',K',h',e⟩:=a2z l m [] K h
  obtain ⟨K2,h2,e2⟩:=a6l n f' m' K' h'
  exact ⟨K2,h2,fun k=>(e _).trans (e2 k)⟩
theorem a75 (n:Nat):∃ K,a2i g K∧∀ {α:Type} (k:Frag→α),b2k g n k=k K:=by
 obtain ⟨K,h,e⟩:=a6l n [mainGlobals,cStatics] (Nat.lor (Nat.shiftLeft 1 mainGlobals) (Nat.shiftLeft 1 cStatics)) [] (show a2i g [] from fun p hp=>nomatch hp)
 exact ⟨K.reverse,fun p hp=>h p (List.mem_reverse.mp hp),fun k=>e fun K=>k K.reverse⟩
theorem a2i.at_ {K:Frag} {a:Addr} {o:Obj}:a2i g K→K.lookup a=some o→g a=some o:=by
 induction K with
 | nil=>intro _ e;cases e
 | cons p r ih =>
  obtain ⟨b,ob⟩:=p
  intro h e
  have e2:(match a == b with
   | true=>some ob
   | false=>r.lookup a)=some o:=e
  cases q:(a == b) with
  | true =>
   rw [q] at e2
   cases e2
   rw [beq_iff_eq.mp q]
   exact h _ zal
  | false =>
   rw [q] at e2
   exact ih (fun p hp=>h p (zao _ hp)) e2
end
def b4O (n:Nat) (fa:List He.Fa) (fn:List He.DefD) (fx:List Fx) (g:Addr→Option Obj):AlX:=b2k g n fun K=>foT K fun T=>b4Q K (nsT T) fa fn fx
section
open HandSHeadRun
theorem b2g {n:Nat} {fa1 fa2:List He.Fa} {fn1 fn2:List He.DefD} {fx1 fx2:List Fx} {g:Addr→Option Obj} (h1:b4O n fa1 fn1 fx1 g=(He.valD fn1,true)) (h2:b4O n fa2 fn2 fx2 g=(He.valD fn2,true)) :
  b4O n (fa1 ++ fa2) (fn1 ++ fn2) (fx1 ++ fx2) g=(He.valD (fn1 ++ fn2),true):=by
 obtain ⟨K,_,q⟩:=a75 (g:=g) n
 unfold b4O at h1 h2 ⊢
 rw [q,a9K] at h1 h2 ⊢
 unfold b4Q He.valD at h1 h2 ⊢
 simp only [Prod.mk.injEq,zak] at h1 h2
 obtain ⟨⟨⟨a1,b1⟩,c1⟩,d1⟩:=h1
 obtain ⟨⟨⟨a2,b2⟩,c2⟩,d2⟩:=h2
 rw [List.all_append,List.all_append,List.all_append,zav,zav,a1,a2,b1,b2,c1,c2,d1,d2]
 rfl
def c0b (r:OpenRow) (q:Program) (M:Nat) (loose:List Str) (w:World):Prop :=
 ∀ os:OsState,(endF (stepQ (denQ tabQ) r.prog w) M r.prog w os).map (fun s=>(looksF r.prog (boot_heap w.params) s.abs,seenQ q loose (importedModules r.prog.main.body) (fun s=>xlAt q [] s && recOk r.toRowW.records s) s.abs))=some (true,openGood q loose)
def b5B (r:OpenRow) (M n:Nat) (fa:List He.Fa) (fn:List He.DefD) (fx:List Fx) (w:World):Prop :=
 ∀ os:OsState,(endF (stepQ (denQ tabQ) r.prog w) M r.prog w os).map (fun s=>b4O n fa fn fx (getT s))=some (He.valD fn,true)
variable {r:OpenRow} {q:Program} {M n:Nat} {loose:List Str} {w:World} {fa:List He.Fa} {fn:List He.DefD} {fx:List Fx}
theorem b5B.join (k1 k2 k3:Nat) (h1:b5B r M n (fa.take k1) (fn.take k2) (fx.take k3) w) (h2:b5B r M n (fa.drop k1) (fn.drop k2) (fx.drop k3) w):b5B r M n fa fn fx w:=by
 intro os
 have a:=h1 os
 have b:=h2 os
 cases e:endF (stepQ (denQ tabQ) r.prog w) M r.prog w os with
 | none =>
  rw [e] at a
  cases a
 | some s =>
  rw [e] at a b
  have c:=b2g (Option.some.inj a) (Option.some.inj b)
  simp only [List.take_append_drop] at c
  exact congrArg some c
end
end Sv
noncomputable section
namespace Sv
open PySem PySem.Spec PyProof.Rows L2 PySem.W PySem.Calls
def Cw.d:Cw→D
 | .str z=>.str z
 | .tup zs=>.tup (zs.map D.str)
def TbW.kv (t:TbW):List (Key × D):=t.2.map fun q=>(.inr q.1,q.2.d)
theorem a8g:∀ {vs:List Value} {zs:List Str},b0W vs zs=true→Vals (zs.map V.str) vs
 | [],[],_=>.nil
 | .str x t :: vs,z :: zs,h=>by
  obtain ⟨h1,h2⟩:=He.ba (show (decide (x=z) && b0W vs zs)=true from h)
  cases of_decide_eq_true h1
  exact .cons ⟨t,rfl⟩ (a8g h2)
 | [],_ :: _,h=>by cases h
 | v :: _,[],h=>by cases v <;> cases h
 | .none :: _,_ :: _,h=>by cases h
 | .ellipsis :: _,_ :: _,h=>by cases h
 | .notImplemented :: _,_ :: _,h=>by cases h
 | .bool _ :: _,_ :: _,h=>by cases h
 | .int _ _ :: _,_ :: _,h=>by cases h
 | .float _ _ :: _,_ :: _,h=>by cases h
 | .bytes _ _ :: _,_ :: _,h=>by cases h
 | .type _ :: _,_ :: _,h=>by cases h
 | .builtin _ :: _,_ :: _,h=>by cases h
 | .ref _ :: _,_ :: _,h=>by cases h
theorem b74 {g:Gd} {S:SS} {H:Hp}:∀ zs:List Str,a0e g S H (zs.map D.str) (zs.map V.str)
 | []=>by simp only [List.map_nil,a0e]
 | z :: zs=>by
  simp only [zax,a0e]
  exact ⟨.str z,_,rfl,by simp only [Rep],b74 zs⟩
theorem b6u {K:Frag} {v:Cw} {u:Value} (h:cwB K v u=true):∃ r,RelV r u∧∀ S H,Rep ⟨K⟩ S H v.d r:=by
 cases v with
 | str z =>
  cases u with
  | str x t =>
   cases of_decide_eq_true (show decide (x=z)=true from h)
   exact ⟨.str _,⟨t,rfl⟩,fun S H=>by simp only [Cw.d,Rep]⟩
  | _=>cases h
 | tup zs =>
  cases u with
  | ref a =>
   have h:(match K.lookup a with
    | some ⟨.type c,_,.seq its _,_⟩=>decide (c = "tuple") && (decide (its.size≤1000) && b0W its.toList zs)
    | _=>false)=true:=h
   cases q:K.lookup a with
   | none=>rw [q] at h;cases h
   | some o =>
    obtain ⟨oc,od,dt,sl⟩:=o
    rw [q] at h
    cases oc with
    | type c =>
     cases dt with
     | seq its n =>
      obtain ⟨h1,h2⟩:=He.ba h
      obtain ⟨h2,h3⟩:=He.ba h2
      have e1:=of_decide_eq_true h1
      have e2:=of_decide_eq_true h2
      subst e1
      refine ⟨.ref a,rfl,fun S H=>?_⟩
      simp only [Cw.d,Rep]
      exact ⟨a,zs.map V.str,rfl,.inr (.inr ⟨_,its,n,q,rfl,rfl,Nat.le_trans e2 (by decide),a8g h3⟩),b74 zs⟩
     | _=>cases h
    | _=>cases dt <;> cases h
  | _=>cases h
def a2c (ts:List TbW) (w:World) (K:Frag):Prop:=a1K ts K=a1f ts w
theorem b0j {P:Params} {z:Str}:∀ {l:List DictEntry} {ks:List Str},l.map He.keyOf=He.keysIn P ks→z∉ks→l.find? (·.key.isStr z)=none∧l.any (·.refKey)=false
 | [],_,_,_=>⟨rfl,rfl⟩
 | e :: r,[],h,_=>by cases h
 | e :: r,k :: ks,h,n=>by
  have h1:He.keyOf e :: r.map He.keyOf=some (k,PyData.keyHash P k) :: He.keysIn P ks:=h
  injection h1 with h2 h3
  obtain ⟨m1,m2⟩:=b0j h3 fun q=>n (zao _ q)
  unfold He.keyOf at h2
  split at h2
  ·rename_i x t q
   have h4:=Option.some.inj h2
   obtain ⟨h5,h6⟩:=Prod.mk.inj h4
   have ne:x≠z:=fun e=>n (by rw [← e,h5];exact zal)
   have i1:e.key.isStr z=false:=by
    rw [q]
    show (x == z)=false
    exact beq_eq_false_iff_ne.mpr ne
   have i2:e.refKey=false:=by
    unfold DictEntry.refKey
    rw [q]
   refine ⟨?_,?_⟩
   ·rw [List.find?_cons,i1]
    exact m1
   ·rw [List.any_cons,i2,m2]
    rfl
  ·cases h2
theorem b5v {t:List (Str × Cw)} {z:Str} {d:D} (h:valD (t.map fun q=>((.inr q.1:Key),q.2.d)) (.inr z)=some d):∃ q∈t,q.1=z∧d=q.2.d:=by
 induction t with
 | nil=>cases h
 | cons q t ih =>
  unfold valD at h ih
  rw [zax,List.find?_cons] at h
  by_cases e:q.1=z
  ·have e':decide (((.inr q.1:Key),q.2.d).1=(.inr z:Key))=true:=by rw [zah];rw [e]
   simp only [e'] at h
   exact ⟨q,zal,e,(Option.some.inj h).symm⟩
  ·have e':decide (((.inr q.1:Key),q.2.d).1=(.inr z:Key))=false:=by rw [decide_eq_false_iff_not];exact fun x=>e (Sum.inr.inj x)
   simp only [e'] at h
   obtain ⟨q',h1,h2⟩:=ih h
   exact ⟨q',zao _ h1,h2⟩
theorem b2O {t:List (Str × Cw)} {z:Str} (h:valD (t.map fun q=>((.inr q.1:Key),q.2.d)) (.inr z)=none):z∉t.map (·.1):=by
 induction t with
 | nil=>exact zba
 | cons q t ih =>
  unfold valD at h ih
  rw [zax,List.find?_cons] at h
  by_cases e:q.1=z
  ·have e':decide (((.inr q.1:Key),q.2.d).1=(.inr z:Key))=true:=by rw [zah];rw [e]
   simp only [e'] at h
   cases h
  ·have e':decide (((.inr q.1:Key),q.2.d).1=(.inr z:Key))=false:=by rw [decide_eq_false_iff_not];exact fun x=>e (Sum.inr.inj x)
   simp only [e'] at h
   rw [zax]
   intro m
   rcases zau.mp m with m | m
   ·exact e m.symm
   ·exact ih h m
theorem a2c.tab {ts:List TbW} {w:World} {K:Frag} (c:a2c ts w K) {t:TbW} (h:t∈ts):b51 K w (He.ga K t.1) t.kv:=by
 obtain ⟨c1,c2⟩:=Prod.mk.inj c
 have b:=List.all_eq_true.mp c1 t h
 obtain ⟨i,hi⟩:=List.mem_iff_getElem?.mp h
 have k:He.dicW K (He.ga K t.1)=some (He.keysIn w.params (t.2.map (·.1))):=by
  have e2:(ts.map fun t=>He.dicW K (He.ga K t.1))[i]?=(ts.map fun t=>some (He.keysIn w.params (t.2.map (·.1))))[i]?:=by rw [c2]
  rw [zbh,zbh,hi] at e2
  exact Option.some.inj e2
 obtain ⟨es,n,D⟩:=He.dicW_ok k
 refine ⟨es,n,D,fun z=>?_⟩
 have keys:es.toList.map He.keyOf=He.keysIn w.params (t.2.map (·.1)):=by
  unfold He.dicW at k
  rw [D.at_] at k
  dsimp only at k
  split at k
  ·exact Option.some.inj k
  ·cases k
 cases e:valD t.kv (.inr z) with
 | some d =>
  obtain ⟨q,hq,rfl,rfl⟩:=b5v e
  have x:=List.all_eq_true.mp b q hq
  split at x
  ·rename_i u eu
   obtain ⟨r,r1,r2⟩:=b6u x
   exact ⟨u,r,eu,r1,r2⟩
  ·cases x
 | none =>
  obtain ⟨m1,m2⟩:=b0j keys (b2O e)
  show nsIn K (He.ga K t.1) z=some none
  unfold nsIn
  rw [D.at_]
  dsimp only
  rw [m1]
  dsimp only
  rw [m2]
  rfl
def a6g (n:Nat) (ts:List TbW) (g:Addr→Option Obj):Bool × List (Option (List (Option (Str × Int)))):=b2k g n fun K=>a1K ts K
section
open HandSHeadRun
def c0c (r:OpenRow) (M n:Nat) (ts:List TbW) (w:World):Prop :=
 ∀ os:OsState,(endF (stepQ (denQ tabQ) r.prog w) M r.prog w os).map (fun s=>a6g n ts (getT s))=some (a1f ts w)
variable {r:OpenRow} {q:Program} {M n:Nat} {loose:List Str} {w:World} {fa:List He.Fa} {fn:List He.DefD} {fx:List Fx} {ts:List TbW}
end
end Sv
namespace Sv
open PySem PySem.Spec PyProof.Rows L2 PySem.W PySem.Calls
section
open HandSHeadRun
def b8W (L:Nat) (t:Thread):Bool:=match t.cur with
 | .ask _=>Nat.beq t.pos.line L
 | _=>false
section
variable (st:SharedT→Thread→Option (SharedT × Thread)) (n0:Nat) (ann:Option Value) (L:Nat)
def goP:Nat→SharedT→Thread→Option (Nat × SharedT × Thread)
 | 0,_,_=>none
 | m + 1,s,t=>match b8W L t with
  | true=>some (m + 1,s,t)
  | false=>match through t with
   | true=>none
   | false=>match stepOk n0 ann t with
    | false=>none
    | true=>match st s t with
     | some (s',t')=>frS s' fun s'=>goP m s' t'
     | none=>none
theorem b3j:∀ {m:Nat} {s:SharedT} {t:Thread} {k:Nat} {s1:SharedT} {t1:Thread},goP st n0 ann L m s t=some (k,s1,t1)→goF st n0 ann m s t=goF st n0 ann k s1 t1
 | 0,_,_,_,_,_,h=>by cases h
 | m + 1,s,t,k,s1,t1,h=>by
  unfold goP at h
  cases h1:b8W L t with
  | true =>
   rw [h1] at h
   cases h
   rfl
  | false =>
   rw [h1] at h
   cases h2:through t with
   | true =>
    rw [h2] at h
    cases h
   | false =>
    rw [h2] at h
    cases h3:stepOk n0 ann t with
    | false =>
     rw [h3] at h
     cases h
    | true =>
     rw [h3] at h
     cases h4:st s t with
     | none =>
      rw [h4] at h
      cases h
     | some r =>
      obtain ⟨s',t'⟩:=r
      rw [h4] at h
      have h5:(frS s' fun s'=>goP st n0 ann L m s' t')=some (k,s1,t1):=h
      rw [frS_eq] at h5
      have e:=b3j h5
      show (match through t with
       | true=>some s
       | false=>match stepOk n0 ann t with
        | false=>none
        | true=>match st s t with
         | some (s',t')=>frS s' fun s'=>goF st n0 ann m s' t'
         | none=>none)=_
      rw [h2,h3,h4]
      show (frS s' fun s'=>goF st n0 ann m s' t')=_
      rw [frS_eq]
      exact e
end
noncomputable def b5J {α:Type} (st:SharedT→Thread→Option (SharedT × Thread)) (stb:Bool→SharedT→Thread→Option (SharedT × Thread)) (L M:Nat) (p:Program) (w:World) (os:OsState) (f:SharedT→α):Option (Option α × Option α) :=
 match putAll (boot_heap w.params).objs.toList .nil 0 with
 | some (t,n)=>frNat n fun n0=>match goP st n0 (bootAnn w) L M (bootT w os (t,n0)) (topStub p) with
  | some (k,s1,t1)=>some ((goF (stb false) n0 (bootAnn w) k s1 t1).map f,(goF (stb true) n0 (bootAnn w) k s1 t1).map f)
  | none=>none
 | none=>none
theorem a6v {α:Type} {den:Code→Sem Fin} {L M:Nat} {p:Program} {w:World} {os:OsState} {f:SharedT→α} {x:α}
  (h:b5J (stepQ den p w) (fun b=>stepQ den p (w.withFollow ROW b)) L M p w os f=some (some x,some x)):(endF (stepQ den p w) M p w os).map f=some x:=by
 unfold b5J at h
 unfold endF
 cases e:putAll (boot_heap w.params).objs.toList .nil 0 with
 | none =>
  rw [e] at h
  cases h
 | some r =>
  obtain ⟨t,n⟩:=r
  rw [e] at h
  dsimp only at h ⊢
  rw [frNat_eq] at h ⊢
  cases e2:goP (stepQ den p w) n (bootAnn w) L M (bootT w os (t,n)) (topStub p) with
  | none =>
   rw [e2] at h
   cases h
  | some r =>
   obtain ⟨k,s1,t1⟩:=r
   rw [e2] at h
   rw [b3j _ _ _ _ e2]
   have h:=Option.some.inj h
   obtain ⟨ha,hb⟩:=Prod.mk.inj h
   have hw:=World.withFollow_self w ROW
   cases q:w.params.followText ROW with
   | false =>
    rw [q] at hw
    rw [hw] at ha
    exact ha
   | true =>
    rw [q] at hw
    rw [hw] at hb
    exact hb
variable {r:OpenRow} {q:Program} {L M n:Nat} {loose:List Str} {w:World} {fa:List He.Fa} {fn:List He.DefD} {fx:List Fx} {ts:List TbW}
def b5S (r:OpenRow) (q:Program) (L M:Nat) (loose:List Str) (w:World):Prop :=
 ∀ os:OsState,b5J (stepQ (denQ tabQ) r.prog w) (fun b=>stepQ (denQ tabQ) r.prog (w.withFollow ROW b)) L M r.prog w os (fun s=>(looksF r.prog (boot_heap w.params) s.abs,seenQ q loose (importedModules r.prog.main.body) (fun s=>xlAt q [] s && recOk r.toRowW.records s) s.abs))=some (some (true,openGood q loose),some (true,openGood q loose))
def b5T (r:OpenRow) (L M n:Nat) (fa:List He.Fa) (fn:List He.DefD) (fx:List Fx) (w:World):Prop :=
 ∀ os:OsState,b5J (stepQ (denQ tabQ) r.prog w) (fun b=>stepQ (denQ tabQ) r.prog (w.withFollow ROW b)) L M r.prog w os (fun s=>b4O n fa fn fx (getT s))=some (some (He.valD fn,true),some (He.valD fn,true))
def b5U (r:OpenRow) (L M n:Nat) (ts:List TbW) (w:World):Prop :=
 ∀ os:OsState,b5J (stepQ (denQ tabQ) r.prog w) (fun b=>stepQ (denQ tabQ) r.prog (w.withFollow ROW b)) L M r.prog w os (fun s=>a6g n ts (getT s))=some (some (a1f ts w),some (a1f ts w))
def b1m (r:OpenRow) (q:Program) (L M:Nat) (loose:List Str) (n:Nat) (ts:List TbW) (w:World):Prop :=
 ∀ os:OsState,b5J (stepQ (denQ tabQ) r.prog w) (fun b=>stepQ (denQ tabQ) r.prog (w.withFollow ROW b)) L M r.prog w os (fun s=>((looksF r.prog (boot_heap w.params) s.abs,seenQ q loose (importedModules r.prog.main.body) (fun s=>xlAt q [] s && recOk r.toRowW.records s) s.abs),a6g n ts (getT s)))=some (some ((true,openGood q loose),a1f ts w),some ((true,openGood q loose),a1f ts w))
theorem a66 {α β γ:Type} {o:Option γ} {f:γ→α} {g:γ→β} {x:α} {y:β} (h:o.map (fun s=>(f s,g s))=some (x,y)):o.map f=some x∧o.map g=some y:=by
 cases o with
 | none=>cases h
 | some s =>
  have h:=Option.some.inj h
  obtain ⟨h1,h2⟩:=Prod.mk.inj h
  exact ⟨congrArg some h1,congrArg some h2⟩
theorem b1m.a (h:b1m r q L M loose n ts w):c0b r q M loose w:=fun os=>(a66 (a6v (h os))).1
theorem b1m.d (h:b1m r q L M loose n ts w):c0c r M n ts w:=fun os=>(a66 (a6v (h os))).2
theorem b5S.a (h:b5S r q L M loose w):c0b r q M loose w:=fun os=>a6v (h os)
theorem b5T.b (h:b5T r L M n fa fn fx w):b5B r M n fa fn fx w:=fun os=>a6v (h os)
theorem b5U.d (h:b5U r L M n ts w):c0c r M n ts w:=fun os=>a6v (h os)
def b3M (r:OpenRow) (q:Program) (M:Nat) (loose:List Str) (n:Nat) (ts:List TbW) (b:Bool) (w:World):Prop :=
 ∀ os:OsState,(endF (stepQ (denQ tabQ) r.prog (w.withFollow ROW b)) M r.prog w os).map (fun s=>((looksF r.prog (boot_heap w.params) s.abs,seenQ q loose (importedModules r.prog.main.body) (fun s=>xlAt q [] s && recOk r.toRowW.records s) s.abs),a6g n ts (getT s)))=some ((true,openGood q loose),a1f ts w)
def b3L (r:OpenRow) (M n:Nat) (fa:List He.Fa) (fn:List He.DefD) (fx:List Fx) (b:Bool) (w:World):Prop :=
 ∀ os:OsState,(endF (stepQ (denQ tabQ) r.prog (w.withFollow ROW b)) M r.prog w os).map (fun s=>b4O n fa fn fx (getT s))=some (He.valD fn,true)
theorem a6h {p:Program} {w:World} {M:Nat} {os:OsState} {α:Type} {f:SharedT→α} {x:α} (h:∀ b,(endF (stepQ (denQ tabQ) p (w.withFollow ROW b)) M p w os).map f=some x):(endF (stepQ (denQ tabQ) p w) M p w os).map f=some x:=by
 have h:=h (w.params.followText ROW)
 rw [World.withFollow_self w ROW] at h
 exact h
theorem b3M.ad (h0:b3M r q M loose n ts false w) (h1:b3M r q M loose n ts true w):c0b r q M loose w∧c0c r M n ts w:=by
 have k:∀ os:OsState,_:=fun os=>a66 (a6h (f:=fun s=>((looksF r.prog (boot_heap w.params) s.abs,seenQ q loose (importedModules r.prog.main.body) (fun s=>xlAt q [] s && recOk r.toRowW.records s) s.abs),a6g n ts (getT s))) fun b=>match b with
  | false=>h0 os
  | true=>h1 os)
 exact ⟨fun os=>(k os).1,fun os=>(k os).2⟩
theorem b3L.b (h0:b3L r M n fa fn fx false w) (h1:b3L r M n fa fn fx true w):b5B r M n fa fn fx w:=fun os=>a6h fun b=>match b with
 | false=>h0 os
 | true=>h1 os
end
end Sv
noncomputable section
namespace Sv
open PySem PySem.Spec PyProof.Rows L2 PySem.W PySem.Calls
section
end
theorem b4P {L:Addr→Option Obj} {K:Frag} {N:Addr→Str→Option (Option Value)} {fa:List He.Fa} {fn:List He.DefD} {fx:List Fx} (h:L=a1b K):c1O L K N fa fn fx=b4Q K N fa fn fx:=by
 subst h
 have e0:∀ (x:Str),gaM N x=gaN N x:=fun _=>rfl
 have e1:∀ name l,a7u (a1b K) N name l=a3x K N name l:=fun name l=>by
  induction l with
  | nil=>rfl
  | cons c r ih =>
   show (match c4k (a1b K) N name c with
    | some (some v)=>some (some v)
    | some none=>a7u (a1b K) N name r
    | none=>none)=(match b7S K N name c with
    | some (some v)=>some (some v)
    | some none=>a3x K N name r
    | none=>none)
   rw [ih]
   rfl
 have e2:a6T (a1b K) N=a4s K N:=by
  funext t name
  unfold a6T a4s
  cases t with
  | ref a =>
   simp only [e1]
   try rfl
  | _=>rfl
 have e3:maM (a1b K) N=maN K N:=by
  funext C m
  unfold maM maN
  rw [e2]
  try rfl
 have e4:b9d (a1b K) N=b5C K N:=by
  funext p
  unfold b9d b5C
  rw [e3]
  try rfl
 have e5:faM (a1b K) K N=faN K N:=by
  funext f
  cases f <;> first | rfl | (unfold faM faN;rw [e2];rfl) | (unfold faM faN;rw [e2,e3];rfl)
 have e6:fxM (a1b K) K N=fxN K N:=by
  funext f
  cases f <;> first | rfl | (unfold fxM fxN;rw [e2];rfl) | (unfold fxM fxN;rw [e2,e3];rfl)
 unfold c1O b4Q
 rw [e4,e5,e6]
 try rfl
theorem a7S {K r:Frag} {a:Addr}:(K ++ r).lookup a=match K.lookup a with
 | some o=>some o
 | none=>r.lookup a:=by
 induction K with
 | nil=>rfl
 | cons p K ih =>
  obtain ⟨b,o⟩:=p
  show (match a == b with
   | true=>some o
   | false=>(K ++ r).lookup a)=(match (match a == b with
   | true=>some o
   | false=>K.lookup a) with
   | some o=>some o
   | none=>r.lookup a)
  cases a == b with
  | true=>rfl
  | false=>exact ih
theorem a65 {g:Addr→Option Obj} {a:Addr}:∀ l:List Addr,(l.filterMap fun a=>(g a).map fun o=>(a,o)).lookup a=if a∈l then g a else none
 | []=>rfl
 | b :: l=>by
  rw [List.filterMap_cons]
  cases e:g b with
  | none =>
   show (l.filterMap fun a=>(g a).map fun o=>(a,o)).lookup a=_
   rw [a65 l]
   by_cases h:a=b
   ·subst h
    rw [e]
    split <;> split <;> rfl
   ·by_cases m:a∈l
    ·rw [if_pos m,if_pos (zao _ m)]
    ·rw [if_neg m,if_neg fun z=>(zau.mp z).elim h m]
  | some o =>
   show (match a == b with
    | true=>some o
    | false=>(l.filterMap fun a=>(g a).map fun o=>(a,o)).lookup a)=_
   by_cases h:a=b
   ·subst h
    rw [beq_self_eq_true,if_pos zal,e]
   ·rw [beq_eq_false_iff_ne.mpr h]
    show (l.filterMap fun a=>(g a).map fun o=>(a,o)).lookup a=_
    rw [a65 l]
    by_cases m:a∈l
    ·rw [if_pos m,if_pos (zao _ m)]
    ·rw [if_neg m,if_neg fun z=>(zau.mp z).elim h m]
theorem a5M {g:Addr→Option Obj} {K:Frag} {n:Nat} (hK:a2i g K) (hg:∀ a,n≤a→g a=none) (a:Addr):(K ++ a6U g n).lookup a=g a:=by
 rw [a7S]
 cases e:K.lookup a with
 | some o=>exact (hK.at_ e).symm
 | none =>
  show (a6U g n).lookup a=g a
  unfold a6U
  rw [a65]
  by_cases h:a < n
  ·rw [if_pos (List.mem_range.mpr h)]
  ·rw [if_neg fun z=>h (List.mem_range.mp z),hg a (Nat.le_of_not_lt h)]
theorem b7K {K r:Frag}:nsU (b96 K) (K ++ r)=nsIn (K ++ r):=by
 funext ns x
 unfold nsU
 rw [a0W,a6s]
 cases e:K.lookup ns with
 | none=>rfl
 | some o =>
  obtain ⟨c,d,dt,sl⟩:=o
  cases dt with
  | dict es n =>
   have e2:(K ++ r).lookup ns=some ⟨c,d,.dict es n,sl⟩:=by rw [a7S,e]
   show foN (codeS x) (fun c=>(match a8v c x (es.toList.map fun e=>(a3e e,e)) with
    | some e=>some (some e.val)
    | none=>if (es.toList.map fun e=>(a3e e,e)).any (fun p=>p.2.refKey) then none else some none))=_
   unfold nsIn
   rw [a2n,a7C,List.any_map,e2] <;> rfl
  | _=>rfl
theorem b0r {g:Addr→Option Obj} {N:Nat} (n:Nat) (hg:∀ a,N≤a→g a=none):∃ K:Frag,(∀ a,K.lookup a=g a)∧∀ fa fn fx ts,a69 n N fa fn fx ts g=(obsX fa fn fx K,a1K ts K):=by
 obtain ⟨K,hK,q⟩:=a75 (g:=g) n
 refine ⟨K ++ a6U g N,a5M hK hg,fun fa fn fx ts=>?_⟩
 unfold a69
 rw [q,a9K,b7K,b4P (by funext a;rw [a0W,a5M hK hg]),b0q]
theorem a9M {h:Heap} {a:Addr} (k:h.objs.size≤a):h.get? a=none:=by
 unfold Heap.get?
 rw [Array.getElem?_eq_none k]
def b4n (n:Nat) (fa:List He.Fa) (fn:List He.DefD) (fx:List Fx) (ts:List TbW):Hook where
 α:=AlT
 obs:=fun s=>a69 n s.heap.objs.size fa fn fx ts s.heap.get?
 val:=fun w=>((He.valD fn,true),a1f ts w)
 says:=fun w h=>∃ K:Frag,K.In h∧SaysX fa fn fx K∧a2c ts w K
 of:=fun w s e=>by
  obtain ⟨K,h,q⟩:=b0r (g:=s.heap.get?) (N:=s.heap.objs.size) n fun a ha=>a9M ha
  have e:a69 n s.heap.objs.size fa fn fx ts s.heap.get?=((He.valD fn,true),a1f ts w):=e
  rw [q] at e
  obtain ⟨e2,e3⟩:=Prod.mk.inj e
  exact ⟨K,fun a o x=>(h a).symm.trans x,e2,e3⟩
 keeps:=fun _ _ _ ⟨K,hK,c⟩ k=>⟨K,Frag.In.keeps hK k,c⟩
section
open HandSHeadRun
theorem b4R {n:Nat} {fa:List He.Fa} {fn:List He.DefD} {fx:List Fx} {ts:List TbW} (s:SharedT):a69 n s.n fa fn fx ts (getT s)=(b4n n fa fn fx ts).obs s.abs:=by
 have e:getT s=s.abs.heap.get?:=funext (getT_eq s)
 have e2:s.n=s.abs.heap.objs.size:=(absHeap_size s.tree s.n s.life).symm
 rw [e]
 show a69 n s.n fa fn fx ts s.abs.heap.get?=a69 n s.abs.heap.objs.size fa fn fx ts s.abs.heap.get?
 rw [← e2]
def c0d (r:OpenRow) (M:Nat) (w:World):Prop :=
 ∀ os:OsState,(endF (stepQ (denQ tabQ) r.prog w) M r.prog w os).map (fun s=>looksF r.prog (boot_heap w.params) s.abs)=some true
def c0e (r:OpenRow) (q:Program) (M:Nat) (loose:List Str) (w:World):Prop :=
 ∀ os:OsState,(endF (stepQ (denQ tabQ) r.prog w) M r.prog w os).map (fun s=>seenQ q loose (importedModules r.prog.main.body) (fun s=>xlAt q [] s && recOk r.toRowW.records s) s.abs)=some (openGood q loose)
def a8n (r:OpenRow) (M n:Nat) (fa:List He.Fa) (fn:List He.DefD) (fx:List Fx) (ts:List TbW) (w:World):Prop :=
 ∀ os:OsState,(endF (stepQ (denQ tabQ) r.prog w) M r.prog w os).map (fun s=>a69 n s.n fa fn fx ts (getT s))=some ((He.valD fn,true),a1f ts w)
variable {r:OpenRow} {q:Program} {M n:Nat} {loose:List Str} {w:World} {fa:List He.Fa} {fn:List He.DefD} {fx:List Fx} {ts:List TbW}
theorem a83.l (h0:a83 r M false w) (h1:a83 r M true w):c0d r M w:=fun os=>a6h fun b=>match b with
 | false=>h0 os
 | true=>h1 os
theorem a84.s (h0:a84 r q M loose false w) (h1:a84 r q M loose true w):c0e r q M loose w:=fun os=>a6h fun b=>match b with
 | false=>h0 os
 | true=>h1 os
theorem a3u.u (h0:a3u r M n fa fn fx ts false w) (h1:a3u r M n fa fn fx ts true w):a8n r M n fa fn fx ts w:=fun os=>a6h fun b=>match b with
 | false=>h0 os
 | true=>h1 os
theorem b2h {fa1 fa2:List He.Fa} {fn1 fn2:List He.DefD} {fx1 fx2:List Fx} {K:Frag} (h1:obsX fa1 fn1 fx1 K=(He.valD fn1,true)) (h2:obsX fa2 fn2 fx2 K=(He.valD fn2,true)):obsX (fa1 ++ fa2) (fn1 ++ fn2) (fx1 ++ fx2) K=(He.valD (fn1 ++ fn2),true):=by
 rw [← b0q] at h1 h2 ⊢
 unfold b4Q He.valD at h1 h2 ⊢
 simp only [Prod.mk.injEq,zak] at h1 h2
 obtain ⟨⟨⟨a1,b1⟩,c1⟩,d1⟩:=h1
 obtain ⟨⟨⟨a2,b2⟩,c2⟩,d2⟩:=h2
 rw [List.all_append,List.all_append,List.all_append,zav,zav,a1,a2,b1,b2,c1,c2,d1,d2]
 rfl
theorem b5t {ts1 ts2:List TbW} {K:Frag} (h1:a1K ts1 K=a1f ts1 w) (h2:a1K ts2 K=a1f ts2 w):a1K (ts1 ++ ts2) K=a1f (ts1 ++ ts2) w:=by
 unfold a1K a1f at h1 h2 ⊢
 simp only [Prod.mk.injEq] at h1 h2
 obtain ⟨a1,b1⟩:=h1
 obtain ⟨a2,b2⟩:=h2
 rw [List.all_append,zav,zav,a1,a2,b1,b2]
 rfl
theorem b1G {s:SharedT} {a:Addr} (h:s.n≤a):getT s a=none:=by
 rw [getT_eq]
 exact a9M (by rw [show s.abs.heap.objs.size=s.n from absHeap_size s.tree s.n s.life];exact h)
theorem a8n.join (k1 k2 k3 k4:Nat) (h1:a8n r M n (fa.take k1) (fn.take k2) (fx.take k3) (ts.take k4) w) (h2:a8n r M n (fa.drop k1) (fn.drop k2) (fx.drop k3) (ts.drop k4) w):a8n r M n fa fn fx ts w:=by
 intro os
 have a:=h1 os
 have b:=h2 os
 cases e:endF (stepQ (denQ tabQ) r.prog w) M r.prog w os with
 | none =>
  rw [e] at a
  cases a
 | some s =>
  rw [e] at a b
  obtain ⟨K,_,q⟩:=b0r (g:=getT s) (N:=s.n) n fun a h=>b1G h
  have a:a69 n s.n (fa.take k1) (fn.take k2) (fx.take k3) (ts.take k4) (getT s)=_:=Option.some.inj a
  have b:a69 n s.n (fa.drop k1) (fn.drop k2) (fx.drop k3) (ts.drop k4) (getT s)=_:=Option.some.inj b
  rw [q] at a b
  obtain ⟨a1,a2⟩:=Prod.mk.inj a
  obtain ⟨b1,b2⟩:=Prod.mk.inj b
  have c:=b2h a1 b1
  have d:=b5t a2 b2
  simp only [List.take_append_drop] at c d
  show some (a69 n s.n fa fn fx ts (getT s))=_
  rw [q,c,d]
theorem b5i {ob:SharedT→AlT} (ho:∀ s,ob s=a69 n s.n fa fn fx ts (getT s)) (h1:c0d r M w) (h2:c0e r q M loose w) (h3:a8n r M n fa fn fx ts w):RunEq r q (b4n n fa fn fx ts) ob M loose w:=by
 intro os
 have a:=h1 os
 have b:=h2 os
 have d:=h3 os
 have eo:ob=fun s=>a69 n s.n fa fn fx ts (getT s):=funext ho
 subst eo
 cases e:endF (stepQ (denQ tabQ) r.prog w) M r.prog w os with
 | none =>
  rw [e] at a
  cases a
 | some s =>
  rw [e] at a b d
  have a:=Option.some.inj a
  have b:=Option.some.inj b
  have d:=Option.some.inj d
  exact congrArg some (Prod.ext a (Prod.ext b d))
end
end Sv
namespace Sv
open PySem PySem.Spec PyProof.Rows L2
end Sv
namespace Cl
open PySem PySem.Spec PyProof.Rows L2 Sv
open L2H (RoomH)
noncomputable abbrev hk:PySem.W.Hook:=b4n 2 fa fn fx tbs
noncomputable def ob (s:PySem.W.SharedT):AlT:=a69 2 s.n fa fn fx tbs (HandSHeadRun.getT s)
theorem ob_eq (s:PySem.W.SharedT):ob s=hk.obs s.abs:=b4R s
theorem c6i (w:World):c0d R 20000 w:=(c11 w).l (c13 w)
theorem c6j (w:World):c0e R (PySem.W.view R.prog [46]) 20000 names w:=(c14 w).s (c15 w)
theorem c17 (w:World):a8n R 20000 2 (fa.take 53) (fn.take 0) (fx.take 0) (tbs.take 0) w:=(b76 w).u (b77 w)
theorem c18 (w:World):a8n R 20000 2 ((fa.drop 53).take 14) ((fn.drop 0).take 12) ((fx.drop 0).take 0) ((tbs.drop 0).take 0) w:=(b78 w).u (b79 w)
theorem c19 (w:World):a8n R 20000 2 (((fa.drop 53).drop 14).take 0) (((fn.drop 0).drop 12).take 19) (((fx.drop 0).drop 0).take 0) (((tbs.drop 0).drop 0).take 0) w:=(b8a w).u (b8b w)
theorem c2a (w:World):a8n R 20000 2 (((fa.drop 53).drop 14).drop 0) (((fn.drop 0).drop 12).drop 19) (((fx.drop 0).drop 0).drop 0) (((tbs.drop 0).drop 0).drop 0) w:=(b8c w).u (b8d w)
theorem run (w:World):HandSHeadRun.RunEq R (PySem.W.view R.prog [46]) hk ob 20000 names w:=b5i (fun _=>rfl) (c6i w) (c6j w) (a8n.join 53 0 0 0 (c17 w) (a8n.join 14 12 0 0 (c18 w) (a8n.join 0 19 0 0 (c19 w) (c2a w))))
def c36:List En:=[.fn "_law_bag",.fn "_law_take",.fn "_law_words",.fn "_law_shown",.fn "_law_form",.fn "_law_is_name",.fn "part_read",.fn "is_name",.fn "is_whole",.fn "is_position",.fn "_law_alike",.fn "_law_name",.fn "_law_one",.fn "_law_fits",.fn "is_cost",.fn "are_names",.fn "_law_sign",.fn "_law_names",.fn "_law_any",.fn "_law_is_deed",.fn "is_stretch",.fn "_law_word_spoilt",.fn "_law_stock",.fn "_law_read",.fn "part_fits",.fn "_law_spoilt",.fn "is_deed",.fn "read_deed",.fn "_law_told",.fn "_law_right",.fn "law"]
def b6q:List Str:=["MainsError", "Wrong", "Lacks", "NoText", "NoRow"]
def b9e:List Str:=["LETTERS", "LONGEST", "MOST_COST", "MOST_NAMES", "MOST_STRETCH", "FORMS", "MOST_FIGURES"]
abbrev sn (N:List Str):SN:=⟨N,c36,b6q,b9e⟩
abbrev CK (N:List Str) (s:Stmt) (b:RSs):Prop:=a1m (sn N) (defScope s) b (defBody s)=true
local macro_rules | `(tactic| walk_at "ck")=>`(tactic| decide +kernel)
local macro_rules | `(tactic| walk_at "fs")=>`(tactic| exact ⟨rfl,rfl,rfl,by decide +kernel,rfl,by decide +kernel,by decide +kernel⟩)
def N0:List Str:=["_law_script", "_law_cell"]
def b0:RSs:=.cons (.ret (.lst true (.cons (.con (.int 0)) (.cons (.con (.int 1234567891)) (.cons (.con (.int 0)) (.cons (.lc false (.bi .abs (.cons (.var 1) .nil)) [1] true (.lst (.sl (.var 0) (.nn) (.ss (.con (.int 63))))) (.nn) [("_law_cell",1)]) .nil)))))) .nil
theorem sc0:FnScope N0 ["_law_script"] (defScope (top 26)):=by walk_at "fs"
theorem ck0:CK N0 (top 26) b0:=by walk_at "ck"
def N1:List Str:=["_law_bag_here", "_law_many", "_law_cell", "_law_value", "_law_first", "_law_second"]
def b1:RSs:=.cut (.ifs (.cmp .Eq (.ix (.var 0) (.con (.int 0))) (.con (.int 0))) (.cons (.asg [2] true (.con (.int 0))) (.cut (.ifs (.cmp .Lt (.ix (.var 0) (.con (.int 2))) (.bi .len (.cons (.ix (.var 0) (.con (.int 3))) .nil))) (.cons (.asg [2] true (.ix (.ix (.var 0) (.con (.int 3))) (.ix (.var 0) (.con (.int 2))))) .nil) (.nil)) (.cons (.agi (.var 0) (.con (.int 2)) .Add (.con (.int 1))) (.cut (.ifs (.cmp .GtE (.var 2) (.con (.int 1000000000000000000))) (.cons (.sti (.var 0) (.con (.int 0)) (.var 2)) .nil) (.nil)) (.cons (.sti (.var 0) (.con (.int 1)) (.bin .Mod (.bin .Add (.bin .Add (.bin .Mult (.ix (.var 0) (.con (.int 1))) (.con (.int 48271))) (.bin .Mod (.var 2) (.con (.int 2147483647)))) (.bin .Mult (.con (.int 7919)) (.ix (.var 0) (.con (.int 2))))) (.con (.int 2147483647)))) .nil))))) (.nil)) (.cons (.ifs (.cmp .Gt (.ix (.var 0) (.con (.int 0))) (.con (.int 0))) (.cons (.asg [3] true (.bin .Mod (.ix (.var 0) (.con (.int 0))) (.var 1))) (.cons (.sti (.var 0) (.con (.int 0)) (.bin .FloorDiv (.ix (.var 0) (.con (.int 0))) (.var 1))) (.cons (.ret (.var 3)) .nil))) (.nil)) (.cons (.asg [4] true (.bin .Mod (.bin .Mult (.bin .Add (.ix (.var 0) (.con (.int 1))) (.con (.int 1))) (.con (.int 39373))) (.con (.int 1000000007)))) (.cons (.asg [5] true (.bin .Mod (.bin .Mult (.bin .Mod (.bin .Mult (.var 4) (.var 4)) (.con (.int 998244353))) (.con (.int 30011))) (.con (.int 998244353)))) (.cons (.ifs (.cmp .Gt (.var 1) (.con (.int 1000000))) (.cons (.ret (.bin .Mod (.bin .Add (.bin .Mult (.var 5) (.con (.int 1000000007))) (.var 4)) (.var 1))) .nil) (.nil)) (.cons (.ret (.bin .Mod (.bin .FloorDiv (.var 5) (.con (.int 7))) (.var 1))) .nil)))))
theorem sc1:FnScope N1 ["_law_bag_here", "_law_many"] (defScope (top 27)):=by walk_at "fs"
theorem ck1:CK N1 (top 27) b1:=by walk_at "ck"
def N2:List Str:=["_law_words_here"]
def b2:RSs:=.cons (.asg [0] true (.lst false (.cons (.con (.str "add_room")) (.cons (.con (.str "take_room")) (.cons (.con (.str "add_line")) (.cons (.con (.str "take_line")) (.cons (.con (.str "add_drain")) (.cons (.con (.str "take_drain")) (.cons (.con (.str "add_source")) (.cons (.con (.str "take_source")) .nil)))))))))) (.cons (.asg [0] true (.bin .Add (.var 0) (.lst false (.cons (.con (.str "turn")) (.cons (.con (.str "stick")) (.cons (.con (.str "mend")) (.cons (.con (.str "ask")) (.cons (.con (.str "begin")) (.cons (.con (.str "step")) (.cons (.con (.str "give")) (.cons (.con (.str "end")) (.cons (.con (.str "put_by")) (.cons (.con (.str "try_out")) (.cons (.con (.str "go_on")) .nil)))))))))))))) (.cons (.ret (.bin .Add (.var 0) (.lst false (.cons (.con (.str "sign_on")) (.cons (.con (.str "sign_off")) (.cons (.con (.str "hand_over")) (.cons (.con (.str "relieve")) .nil))))))) .nil))
theorem sc2:FnScope N2 [] (defScope (top 34)):=by walk_at "fs"
theorem ck2:CK N2 (top 34) b2:=by walk_at "ck"
def N3:List Str:=["_law_deed", "_law_words_here", "_law_part"]
def b3:RSs:=.cons (.asg [1] true (.lst true (.nil))) (.cons (.fr [2] true (.tup (.var 0)) (.cons (.ifs (.isi (.var 2) (.ty "list")) (.cons (.asg [1] true (.adc (.var 1) (.var 2))) .nil) (.cons (.ifs (.isi (.var 2) (.ty "str")) (.cons (.exp (.mth .app (.var 1) (.cons (.var 2) .nil))) .nil) (.cons (.exp (.mth .app (.var 1) (.cons (.bi .str (.cons (.var 2) .nil)) .nil))) .nil)) .nil)) .nil)) (.cons (.ret (.mth .join (.con (.str " ")) (.cons (.var 1) .nil))) .nil))
theorem sc3:FnScope N3 ["_law_deed"] (defScope (top 36)):=by walk_at "fs"
theorem ck3:CK N3 (top 36) b3:=by walk_at "ck"
def N4:List Str:=["_law_word"]
def b4:RSs:=.cons (.ifs (.cmp .In (.var 0) (.tup (.cons (.con (.str "add_room")) (.cons (.con (.str "take_room")) (.cons (.con (.str "take_line")) (.cons (.con (.str "take_drain")) (.cons (.con (.str "add_source")) (.cons (.con (.str "take_source")) (.cons (.con (.str "stick")) (.cons (.con (.str "mend")) .nil)))))))))) (.cons (.ret (.lst false (.cons (.con (.str "name")) .nil))) .nil) (.nil)) (.cons (.ifs (.cmp .In (.var 0) (.tup (.cons (.con (.str "begin")) (.cons (.con (.str "step")) (.cons (.con (.str "give")) (.cons (.con (.str "end")) (.cons (.con (.str "put_by")) (.cons (.con (.str "try_out")) (.cons (.con (.str "go_on")) .nil))))))))) (.cons (.ret (.lst false (.cons (.con (.str "name")) .nil))) .nil) (.nil)) (.cons (.ifs (.cmp .In (.var 0) (.tup (.cons (.con (.str "add_drain")) (.cons (.con (.str "sign_on")) (.cons (.con (.str "sign_off")) (.cons (.con (.str "relieve")) .nil)))))) (.cons (.ret (.lst false (.cons (.con (.str "name")) (.cons (.con (.str "name")) .nil)))) .nil) (.nil)) (.cons (.ifs (.cmp .Eq (.var 0) (.con (.str "hand_over"))) (.cons (.ret (.lst false (.cons (.con (.str "name")) (.cons (.con (.str "name")) (.cons (.con (.str "name")) .nil))))) .nil) (.nil)) (.cons (.ifs (.cmp .Eq (.var 0) (.con (.str "turn"))) (.cons (.ret (.lst false (.cons (.con (.str "name")) (.cons (.con (.str "position")) .nil)))) .nil) (.nil)) (.cons (.ret (.ix (.lst false (.cons (.lst false (.cons (.con (.str "name")) (.cons (.con (.str "name")) (.cons (.con (.str "rooms")) .nil)))) (.cons (.lst false (.cons (.con (.str "name")) (.cons (.con (.str "name")) (.cons (.con (.str "name")) (.cons (.con (.str "cost")) .nil))))) .nil))) (.bi .int (.cons (.cmp .Eq (.var 0) (.con (.str "add_line"))) .nil)))) .nil)))))
theorem sc4:FnScope N4 ["_law_word"] (defScope (top 38)):=by walk_at "fs"
theorem ck4:CK N4 (top 38) b4:=by walk_at "ck"
def N5:List Str:=["_law_thing", "_law_letters", "_law_sign_here"]
def b5:RSs:=.cons (.asg [1] true (.con (.str "abcdefghijklmnopqrstuvwxyz"))) (.cons (.ifs (.or (.cons (.nt (.isi (.var 0) (.ty "str"))) (.cons (.nt (.chn .LtE .LtE (.con (.int 1)) (.bi .len (.cons (.var 0) .nil)) (.con (.int 8)))) .nil))) (.cons (.ret (.con (.bl false))) .nil) (.nil)) (.cons (.ret (.cmp .Eq (.lc false (.var 2) [2] true (.str (.var 0)) (.ss (.cmp .NotIn (.var 2) (.var 1))) [("_law_sign_here",2)]) (.lst false (.nil)))) .nil))
theorem sc5:FnScope N5 ["_law_thing"] (defScope (top 37)):=by walk_at "fs"
theorem ck5:CK N5 (top 37) b5:=by walk_at "ck"
def N6:List Str:=["kind", "word", "cost"]
def b6:RSs:=.cons (.ifs (.cmp .NotEq (.var 0) (.con (.str "cost"))) (.cons (.ret (.var 1)) .nil) (.nil)) (.cons (.fr [2] true (.rng1 (.glb 6)) (.cons (.ifs (.cmp .Eq (.bi .str (.cons (.var 2) .nil)) (.var 1)) (.cons (.ret (.var 2)) .nil) (.nil)) .nil)) (.cons (.ret (.con .non)) .nil))
theorem sc6:FnScope N6 ["kind", "word"] (defScope (top 23)):=by walk_at "fs"
theorem ck6:CK N6 (top 23) b6:=by walk_at "ck"
def N7:List Str:=["thing", "sign"]
def b7:RSs:=.cons (.ifs (.or (.cons (.nt (.isi (.var 0) (.ty "str"))) (.cons (.nt (.chn .LtE .LtE (.con (.int 1)) (.bi .len (.cons (.var 0) .nil)) (.glb 1))) .nil))) (.cons (.ret (.con (.bl false))) .nil) (.nil)) (.cons (.fr [1] true (.str (.var 0)) (.cons (.ifs (.cmp .NotIn (.var 1) (.glb 0)) (.cons (.ret (.con (.bl false))) .nil) (.nil)) .nil)) (.cons (.ret (.con (.bl true))) .nil))
theorem sc7:FnScope N7 ["thing"] (defScope (top 13)):=by walk_at "fs"
theorem ck7:CK N7 (top 13) b7:=by walk_at "ck"
def N8:List Str:=["thing"]
def b8:RSs:=.cons (.ret (.and (.cons (.isi (.var 0) (.ty "int")) (.cons (.nt (.isi (.var 0) (.ty "bool"))) .nil)))) .nil
theorem sc8:FnScope N8 ["thing"] (defScope (top 12)):=by walk_at "fs"
theorem ck8:CK N8 (top 12) b8:=by walk_at "ck"
def N9:List Str:=["thing"]
def b9:RSs:=.cons (.ret (.and (.cons (.isi (.var 0) (.ty "str")) (.cons (.or (.cons (.cmp .Eq (.var 0) (.con (.str "open"))) (.cons (.cmp .Eq (.var 0) (.con (.str "shut"))) .nil))) .nil)))) .nil
theorem sc9:FnScope N9 ["thing"] (defScope (top 15)):=by walk_at "fs"
theorem ck9:CK N9 (top 15) b9:=by walk_at "ck"
def N10:List Str:=["_law_found", "_law_due"]
def b10:RSs:=.cons (.ret (.and (.cons (.cmp .Eq (.var 0) (.var 1)) (.cons (.cmp .Eq (.bi .rpr (.cons (.var 0) .nil)) (.bi .rpr (.cons (.var 1) .nil))) .nil)))) .nil
theorem c6G:FnScope N10 ["_law_found", "_law_due"] (defScope (top 28)):=by walk_at "fs"
theorem c4T:CK N10 (top 28) b10:=by walk_at "ck"
def N11:List Str:=["_law_bag_here", "_law_words_here", "_law_way", "_law_letters", "_law_k"]
def b11:RSs:=.cons (.asg [1] true (.lst false (.cons (.con (.str "open")) (.cons (.con (.str "shut")) (.cons (.con (.str "by")) (.cons (.con (.str "step")) (.cons (.con (.str "none")) (.cons (.con (.str "paper")) (.cons (.con (.str "at")) (.cons (.con (.str "done")) (.cons (.con (.str "a")) (.cons (.con (.str "aa")) (.cons (.con (.str "ab")) (.cons (.con (.str "b")) .nil)))))))))))))) (.cons (.asg [2] true (.call 1 (.cons (.var 0) (.cons (.con (.int 4)) .nil)))) (.cons (.ifs (.cmp .Eq (.var 2) (.con (.int 0))) (.cons (.ret (.ix (.var 1) (.call 1 (.cons (.var 0) (.cons (.con (.int 12)) .nil))))) .nil) (.nil)) (.cons (.asg [3] true (.con (.str "abcdefghijklmnopqrstuvwxyz"))) (.cons (.ret (.mth .join (.con (.str "")) (.cons (.lc false (.ix (.var 3) (.call 1 (.cons (.var 0) (.cons (.con (.int 26)) .nil)))) [4] true (.rng1 (.bin .Add (.con (.int 1)) (.call 1 (.cons (.var 0) (.cons (.ix (.lst false (.cons (.con (.int 2)) (.cons (.con (.int 8)) (.cons (.con (.int 1)) .nil)))) (.bin .Sub (.var 2) (.con (.int 1)))) .nil))))) (.nn) [("_law_k",4)]) .nil))) .nil))))
theorem c6H:FnScope N11 ["_law_bag_here"] (defScope (top 30)):=by walk_at "fs"
theorem c4U:CK N11 (top 30) b11:=by walk_at "ck"
def N12:List Str:=["_law_bag_here", "_law_names_here"]
def b12:RSs:=.cons (.ret (.ix (.var 1) (.call 1 (.cons (.var 0) (.cons (.bi .len (.cons (.var 1) .nil)) .nil))))) .nil
theorem c6I:FnScope N12 ["_law_bag_here", "_law_names_here"] (defScope (top 32)):=by walk_at "fs"
theorem c4V:CK N12 (top 32) b12:=by walk_at "ck"
def N13:List Str:=["_law_kind", "_law_thing", "_law_one_here", "_law_k"]
def b13:RSs:=.cons (.ifs (.cmp .Eq (.var 0) (.con (.str "name"))) (.cons (.ret (.call 5 (.cons (.var 1) .nil))) .nil) (.nil)) (.cons (.ifs (.cmp .Eq (.var 0) (.con (.str "position"))) (.cons (.ret (.and (.cons (.isi (.var 1) (.ty "str")) (.cons (.cmp .In (.var 1) (.tup (.cons (.con (.str "open")) (.cons (.con (.str "shut")) .nil)))) .nil)))) .nil) (.nil)) (.cons (.ifs (.cmp .Eq (.var 0) (.con (.str "cost"))) (.cons (.ret (.and (.cons (.isi (.var 1) (.ty "int")) (.cons (.nt (.isi (.var 1) (.ty "bool"))) (.cons (.chn .LtE .LtE (.con (.int 0)) (.var 1) (.con (.int 99))) .nil))))) .nil) (.nil)) (.cons (.ifs (.or (.cons (.nt (.isi (.var 1) (.ty "list"))) (.cons (.nt (.chn .LtE .LtE (.con (.int 1)) (.bi .len (.cons (.var 1) .nil)) (.con (.int 24)))) .nil))) (.cons (.ret (.con (.bl false))) .nil) (.nil)) (.cons (.ifs (.cmp .NotEq (.lc false (.var 2) [2] true (.lst (.var 1)) (.ss (.nt (.call 5 (.cons (.var 2) .nil)))) [("_law_one_here",2)]) (.lst false (.nil))) (.cons (.ret (.con (.bl false))) .nil) (.nil)) (.cons (.ret (.cmp .Eq (.lc false (.var 3) [3] true (.rng1 (.bi .len (.cons (.var 1) .nil))) (.ss (.cmp .In (.ix (.var 1) (.var 3)) (.sl (.var 1) (.nn) (.ss (.var 3))))) [("_law_k",3)]) (.lst false (.nil)))) .nil)))))
theorem c6J:FnScope N13 ["_law_kind", "_law_thing"] (defScope (top 39)):=by walk_at "fs"
theorem c4W:CK N13 (top 39) b13:=by walk_at "ck"
def N14:List Str:=["thing"]
def b14:RSs:=.cons (.ret (.and (.cons (.call 8 (.cons (.var 0) .nil)) (.cons (.chn .LtE .LtE (.con (.int 0)) (.var 0) (.glb 2)) .nil)))) .nil
theorem c6K:FnScope N14 ["thing"] (defScope (top 14)):=by walk_at "fs"
theorem c4X:CK N14 (top 14) b14:=by walk_at "ck"
def N15:List Str:=["thing", "seen", "name"]
def b15:RSs:=.cons (.ifs (.or (.cons (.nt (.isi (.var 0) (.ty "list"))) (.cons (.cmp .Gt (.bi .len (.cons (.var 0) .nil)) (.glb 3)) .nil))) (.cons (.ret (.con (.bl false))) .nil) (.nil)) (.cons (.asg [1] true (.dct true (.nil))) (.cons (.fr [2] true (.lst (.var 0)) (.cons (.ifs (.or (.cons (.nt (.call 7 (.cons (.var 2) .nil))) (.cons (.cmp .In (.var 2) (.var 1)) .nil))) (.cons (.ret (.con (.bl false))) .nil) (.nil)) (.cons (.sti (.var 1) (.var 2) (.con (.bl true))) .nil))) (.frz 1 (.cons (.ret (.con (.bl true))) .nil))))
theorem c6L:FnScope N15 ["thing"] (defScope (top 16)):=by walk_at "fs"
theorem c4Y:CK N15 (top 16) b15:=by walk_at "ck"
def N16:List Str:=["_law_bag_here", "_law_some"]
def b16:RSs:=.cons (.asg [1] true (.con (.str " !\"#$&'()*+,-./0123456789:;<=>?@ABCDEFGHIJKLMNOPQRSTUVWXYZ[\\]^_`"))) (.cons (.asg [1] true (.bin .Add (.var 1) (.con (.str "abcdefghijklmnopqrstuvwxyz{|}~\n")))) (.cons (.ret (.ix (.var 1) (.call 1 (.cons (.var 0) (.cons (.bi .len (.cons (.var 1) .nil)) .nil))))) .nil))
theorem c6M:FnScope N16 ["_law_bag_here"] (defScope (top 29)):=by walk_at "fs"
theorem c4Z:CK N16 (top 29) b16:=by walk_at "ck"
def N17:List Str:=["_law_bag_here", "_law_many", "_law_letters", "_law_some", "_law_found", "_law_name_here", "_law_k", "_law_letter"]
def b17:RSs:=.cons (.asg [2] true (.con (.str "abcdefghijklmnopqrstuvwxyz"))) (.cons (.asl 3 (.lc false (.call 11 (.cons (.var 0) .nil)) [6] true (.rng1 (.var 1)) (.nn) [("_law_k",6)])) (.cons (.asg [3] true (.bin .Add (.bin .Add (.var 3) (.lc false (.bin .Add (.var 7) (.con (.str "x"))) [7] true (.str (.var 2)) (.nn) [("_law_letter",7)])) (.lc false (.bin .Add (.con (.str "y")) (.var 7)) [7] true (.str (.var 2)) (.nn) [("_law_letter",7)]))) (.cons (.asg [4] true (.lst true (.nil))) (.cons (.fr [5] true (.lst (.var 3)) (.cons (.ifs (.and (.cons (.cmp .NotIn (.var 5) (.var 4)) (.cons (.cmp .Lt (.bi .len (.cons (.var 4) .nil)) (.var 1)) .nil))) (.cons (.exp (.mth .app (.var 4) (.cons (.var 5) .nil))) .nil) (.nil)) .nil)) (.frz 4 (.cons (.ret (.var 4)) .nil))))))
theorem c6N:FnScope N17 ["_law_bag_here", "_law_many"] (defScope (top 31)):=by walk_at "fs"
theorem c40:CK N17 (top 31) b17:=by walk_at "ck"
def N18:List Str:=["_law_bag_here", "_law_world", "_law_word", "_law_name_here", "_law_room", "_law_device", "_law_hand", "_law_other", "_law_first", "_law_many", "_law_one_here"]
def b18:RSs:=.cons (.asg [3,4] false (.tup (.cons (.call 12 (.cons (.var 0) (.cons (.ix (.var 1) (.con (.str "jobs"))) .nil))) (.cons (.call 12 (.cons (.var 0) (.cons (.ix (.var 1) (.con (.str "rooms"))) .nil))) .nil)))) (.cons (.par 5 6 (.cons (.call 12 (.cons (.var 0) (.cons (.ix (.var 1) (.con (.str "devices"))) .nil))) (.cons (.call 12 (.cons (.var 0) (.cons (.ix (.var 1) (.con (.str "hands"))) .nil))) .nil))) (.cons (.ifs (.cmp .In (.var 2) (.tup (.cons (.con (.str "add_room")) (.cons (.con (.str "take_room")) (.cons (.con (.str "add_source")) (.cons (.con (.str "take_source")) .nil)))))) (.cons (.ret (.tup (.cons (.var 2) (.cons (.var 4) .nil)))) .nil) (.nil)) (.cons (.ifs (.cmp .In (.var 2) (.tup (.cons (.con (.str "take_line")) (.cons (.con (.str "take_drain")) (.cons (.con (.str "stick")) (.cons (.con (.str "mend")) .nil)))))) (.cons (.ret (.tup (.cons (.var 2) (.cons (.var 5) .nil)))) .nil) (.nil)) (.cons (.ifs (.cmp .Eq (.var 2) (.con (.str "add_line"))) (.cons (.asg [7] true (.call 12 (.cons (.var 0) (.cons (.lc false (.var 10) [10] true (.lst (.ix (.var 1) (.con (.str "rooms")))) (.ss (.cmp .NotEq (.var 10) (.var 4))) [("_law_one_here",10)]) .nil)))) (.cons (.ret (.tup (.cons (.var 2) (.cons (.var 5) (.cons (.var 4) (.cons (.var 7) (.cons (.call 1 (.cons (.var 0) (.cons (.con (.int 100)) .nil))) .nil))))))) .nil)) (.nil)) (.cons (.ifs (.cmp .Eq (.var 2) (.con (.str "add_drain"))) (.cons (.ret (.tup (.cons (.var 2) (.cons (.var 5) (.cons (.var 4) .nil))))) .nil) (.nil)) (.cons (.ifs (.cmp .Eq (.var 2) (.con (.str "turn"))) (.cons (.ret (.tup (.cons (.var 2) (.cons (.var 5) (.cons (.ix (.lst false (.cons (.con (.str "open")) (.cons (.con (.str "shut")) .nil))) (.call 1 (.cons (.var 0) (.cons (.con (.int 2)) .nil)))) .nil))))) .nil) (.nil)) (.cons (.ifs (.cmp .Eq (.var 2) (.con (.str "ask"))) (.cons (.asg [8] true (.call 1 (.cons (.var 0) (.cons (.bi .len (.cons (.ix (.var 1) (.con (.str "rooms"))) .nil)) .nil)))) (.cons (.asg [9] true (.bin .Add (.con (.int 1)) (.call 1 (.cons (.var 0) (.cons (.bi .min (.cons (.con (.int 24)) (.cons (.bi .len (.cons (.ix (.var 1) (.con (.str "rooms"))) .nil)) .nil))) .nil))))) (.cons (.ret (.tup (.cons (.var 2) (.cons (.var 3) (.cons (.var 6) (.cons (.sl (.bin .Add (.ix (.var 1) (.con (.str "rooms"))) (.ix (.var 1) (.con (.str "rooms")))) (.ss (.var 8)) (.ss (.bin .Add (.var 8) (.var 9)))) .nil)))))) .nil))) (.nil)) (.cons (.ifs (.cmp .In (.var 2) (.tup (.cons (.con (.str "sign_on")) (.cons (.con (.str "sign_off")) .nil)))) (.cons (.ret (.tup (.cons (.var 2) (.cons (.var 3) (.cons (.var 6) .nil))))) .nil) (.nil)) (.cons (.ifs (.cmp .Eq (.var 2) (.con (.str "hand_over"))) (.cons (.ret (.tup (.cons (.var 2) (.cons (.var 3) (.cons (.var 6) (.cons (.call 12 (.cons (.var 0) (.cons (.ix (.var 1) (.con (.str "hands"))) .nil))) .nil)))))) .nil) (.nil)) (.cons (.ifs (.cmp .Eq (.var 2) (.con (.str "relieve"))) (.cons (.ret (.tup (.cons (.var 2) (.cons (.var 6) (.cons (.call 12 (.cons (.var 0) (.cons (.ix (.var 1) (.con (.str "hands"))) .nil))) .nil))))) .nil) (.nil)) (.cons (.ret (.tup (.cons (.var 2) (.cons (.var 3) .nil)))) .nil)))))))))))
theorem c6O:FnScope N18 ["_law_bag_here", "_law_world", "_law_word"] (defScope (top 33)):=by walk_at "fs"
theorem c41:CK N18 (top 33) b18:=by walk_at "ck"
def N19:List Str:=["_law_thing", "_law_kind", "_law_part"]
def b19:RSs:=.cons (.ifs (.or (.cons (.nt (.isi (.var 0) (.ty "tuple"))) (.cons (.cmp .Eq (.bi .len (.cons (.var 0) .nil)) (.con (.int 0))) (.cons (.nt (.isi (.ix (.var 0) (.con (.int 0))) (.ty "str"))) .nil)))) (.cons (.ret (.con (.bl false))) .nil) (.nil)) (.cons (.ifs (.or (.cons (.cmp .NotIn (.ix (.var 0) (.con (.int 0))) (.call 2 (.nil))) (.cons (.cmp .NotEq (.bi .len (.cons (.var 0) .nil)) (.bin .Add (.bi .len (.cons (.call 4 (.cons (.ix (.var 0) (.con (.int 0))) .nil)) .nil)) (.con (.int 1)))) .nil))) (.cons (.ret (.con (.bl false))) .nil) (.nil)) (.cons (.fr [1,2] false (.zip false true (.call 4 (.cons (.ix (.var 0) (.con (.int 0))) .nil)) (.sl (.var 0) (.ss (.con (.int 1))) (.nn))) (.cons (.ifs (.nt (.call 13 (.cons (.var 1) (.cons (.var 2) .nil)))) (.cons (.ret (.con (.bl false))) .nil) (.nil)) .nil)) (.cons (.ret (.or (.cons (.cmp .NotEq (.ix (.var 0) (.con (.int 0))) (.con (.str "add_line"))) (.cons (.cmp .NotEq (.ix (.var 0) (.con (.int 2))) (.ix (.var 0) (.con (.int 3)))) .nil)))) .nil)))
theorem c6P:FnScope N19 ["_law_thing"] (defScope (top 40)):=by walk_at "fs"
theorem c42:CK N19 (top 40) b19:=by walk_at "ck"
def N20:List Str:=["thing"]
def b20:RSs:=.cons (.ret (.and (.cons (.call 15 (.cons (.var 0) .nil)) (.cons (.chn .LtE .LtE (.con (.int 1)) (.bi .len (.cons (.var 0) .nil)) (.glb 4)) .nil)))) .nil
theorem c6Q:FnScope N20 ["thing"] (defScope (top 17)):=by walk_at "fs"
theorem c43:CK N20 (top 17) b20:=by walk_at "ck"
def N21:List Str:=["_law_bag_here", "_law_text", "_law_words_here", "_law_at", "_law_to", "_law_way", "_law_some", "_law_kept"]
def b21:RSs:=.cons (.asg [2] true (.mth .spl (.var 1) (.cons (.con (.str " ")) .nil))) (.cons (.asg [3] true (.call 1 (.cons (.var 0) (.cons (.bi .len (.cons (.var 2) .nil)) .nil)))) (.cons (.asg [4] true (.call 1 (.cons (.var 0) (.cons (.bi .len (.cons (.var 2) .nil)) .nil)))) (.cons (.asg [5] true (.call 1 (.cons (.var 0) (.cons (.con (.int 5)) .nil)))) (.cons (.ifs (.cmp .Eq (.var 5) (.con (.int 0))) (.cons (.ret (.mth .join (.con (.str " ")) (.cons (.bin .Add (.sl (.var 2) (.nn) (.ss (.var 3))) (.sl (.var 2) (.ss (.bin .Add (.var 3) (.con (.int 1)))) (.nn))) .nil))) .nil) (.nil)) (.cons (.ifs (.cmp .Eq (.var 5) (.con (.int 1))) (.cons (.ret (.mth .join (.con (.str " ")) (.cons (.bin .Add (.bin .Add (.sl (.var 2) (.nn) (.ss (.var 3))) (.lst false (.cons (.ix (.var 2) (.var 4)) .nil))) (.sl (.var 2) (.ss (.var 3)) (.nn))) .nil))) .nil) (.nil)) (.cons (.ifs (.cmp .Eq (.var 5) (.con (.int 2))) (.cons (.asg [6] true (.lst false (.cons (.con (.str "00")) (.cons (.con (.str "07")) (.cons (.con (.str "100")) (.cons (.con (.str "+5")) (.cons (.con (.str "-1")) (.cons (.con (.str "5.")) (.cons (.con (.str "1e1")) (.cons (.con (.str "0")) (.cons (.con (.str "99")) (.cons (.con (.str "open")) (.cons (.con (.str "shut")) (.cons (.con (.str "add_line")) (.cons (.con (.str "ask")) (.cons (.con (.str "turn")) (.cons (.con (.str "x")) .nil))))))))))))))))) (.cons (.ret (.mth .join (.con (.str " ")) (.cons (.bin .Add (.bin .Add (.sl (.var 2) (.nn) (.ss (.var 3))) (.lst false (.cons (.call 12 (.cons (.var 0) (.cons (.var 6) .nil))) .nil))) (.sl (.var 2) (.ss (.bin .Add (.var 3) (.con (.int 1)))) (.nn))) .nil))) .nil)) (.nil)) (.cons (.ifs (.cmp .Eq (.var 5) (.con (.int 3))) (.cons (.asg [7] true (.ix (.var 2) (.var 3))) (.cons (.sti (.var 2) (.var 3) (.ix (.var 2) (.var 4))) (.cons (.sti (.var 2) (.var 4) (.var 7)) (.cons (.ret (.mth .join (.con (.str " ")) (.cons (.var 2) .nil))) .nil)))) (.nil)) (.cons (.ret (.call 12 (.cons (.var 0) (.cons (.lst false (.cons (.bin .Add (.var 1) (.con (.str " "))) (.cons (.bin .Add (.con (.str " ")) (.var 1)) (.cons (.bin .Add (.var 1) (.con (.str "\n"))) (.cons (.bin .Add (.con (.str "\n")) (.var 1)) (.cons (.mth .upper (.var 1) (.nil)) (.cons (.con (.str "")) (.cons (.con (.str " ")) (.cons (.bin .Add (.bin .Add (.var 1) (.con (.str " "))) (.var 1)) .nil))))))))) .nil)))) .nil))))))))
theorem c6R:FnScope N21 ["_law_bag_here", "_law_text"] (defScope (top 41)):=by walk_at "fs"
theorem c44:CK N21 (top 41) b21:=by walk_at "ck"
def N22:List Str:=["_law_bag_here", "_law_rooms", "_law_stock_here"]
def b22:RSs:=.cons (.asg [1] true (.call 17 (.cons (.var 0) (.cons (.ix (.lst false (.cons (.con (.int 2)) (.cons (.con (.int 26)) (.cons (.bin .Add (.con (.int 2)) (.call 1 (.cons (.var 0) (.cons (.con (.int 6)) .nil)))) .nil)))) (.call 1 (.cons (.var 0) (.cons (.con (.int 3)) .nil)))) .nil)))) (.cons (.asg [2] true (.dct true (.cons (.con (.str "rooms")) (.var 1) (.cons (.con (.str "devices")) (.call 17 (.cons (.var 0) (.cons (.con (.int 4)) .nil))) (.cons (.con (.str "jobs")) (.call 17 (.cons (.var 0) (.cons (.con (.int 4)) .nil))) (.cons (.con (.str "hands")) (.call 17 (.cons (.var 0) (.cons (.con (.int 4)) .nil))) (.nil))))))) (.cut (.ifs (.cmp .Eq (.call 1 (.cons (.var 0) (.cons (.con (.int 4)) .nil))) (.con (.int 0))) (.cons (.sti (.var 2) (.con (.str "jobs")) (.bin .Add (.sl (.ix (.var 2) (.con (.str "devices"))) (.nn) (.ss (.con (.int 3)))) (.lst false (.cons (.con (.str "still")) .nil)))) .nil) (.nil)) (.frz 2 (.cons (.ret (.var 2)) .nil))))
theorem c6S:FnScope N22 ["_law_bag_here"] (defScope (top 35)):=by walk_at "fs"
theorem c45:CK N22 (top 35) b22:=by walk_at "ck"
def N23:List Str:=["_law_text", "_law_words_here", "_law_parts", "_law_costs", "_law_deed", "_law_cost"]
def b23:RSs:=.cons (.ifs (.nt (.isi (.var 0) (.ty "str"))) (.cons (.ret (.con .non)) .nil) (.nil)) (.cons (.asg [1] true (.mth .spl (.var 0) (.cons (.con (.str " ")) .nil))) (.cons (.asg [2] true (.sl (.var 1) (.ss (.con (.int 1))) (.nn))) (.cut (.ifs (.cmp .Eq (.ix (.var 1) (.con (.int 0))) (.con (.str "ask"))) (.cons (.asg [2] true (.bin .Add (.sl (.var 1) (.ss (.con (.int 1))) (.ss (.con (.int 3)))) (.lst false (.cons (.sl (.var 1) (.ss (.con (.int 3))) (.nn)) .nil)))) .nil) (.nil)) (.cut (.ifs (.and (.cons (.cmp .Eq (.ix (.var 1) (.con (.int 0))) (.con (.str "add_line"))) (.cons (.cmp .Eq (.bi .len (.cons (.var 1) .nil)) (.con (.int 5))) .nil))) (.cons (.asl 3 (.lc false (.var 5) [5] true (.rng1 (.con (.int 100))) (.ss (.cmp .Eq (.bi .str (.cons (.var 5) .nil)) (.ix (.var 1) (.con (.int 4))))) [("_law_cost",5)])) (.cons (.asg [2] true (.bin .Add (.sl (.var 1) (.ss (.con (.int 1))) (.ss (.con (.int 4)))) (.sl (.bin .Add (.var 3) (.lst false (.cons (.con .non) .nil))) (.nn) (.ss (.con (.int 1)))))) .nil)) (.nil)) (.cons (.asg [4] true (.bi .tup (.cons (.bin .Add (.lst false (.cons (.ix (.var 1) (.con (.int 0))) .nil)) (.var 2)) .nil))) (.cons (.ifs (.call 19 (.cons (.var 4) .nil)) (.cons (.ret (.var 4)) .nil) (.nil)) (.cons (.ret (.con .non)) .nil)))))))
theorem c6T:FnScope N23 ["_law_text"] (defScope (top 43)):=by walk_at "fs"
theorem c46:CK N23 (top 43) b23:=by walk_at "ck"
def N24:List Str:=["kind", "thing"]
def b24:RSs:=.cons (.ifs (.cmp .Eq (.var 0) (.con (.str "name"))) (.cons (.ret (.call 7 (.cons (.var 1) .nil))) .nil) (.nil)) (.cons (.ifs (.cmp .Eq (.var 0) (.con (.str "cost"))) (.cons (.ret (.call 14 (.cons (.var 1) .nil))) .nil) (.nil)) (.cons (.ifs (.cmp .Eq (.var 0) (.con (.str "position"))) (.cons (.ret (.call 9 (.cons (.var 1) .nil))) .nil) (.nil)) (.cons (.ret (.call 20 (.cons (.var 1) .nil))) .nil)))
theorem c6U:FnScope N24 ["kind", "thing"] (defScope (top 21)):=by walk_at "fs"
theorem c47:CK N24 (top 21) b24:=by walk_at "ck"
def N25:List Str:=["_law_bag_here", "_law_text", "_law_at", "_law_way"]
def b25:RSs:=.cons (.asg [2] true (.call 1 (.cons (.var 0) (.cons (.bin .Add (.bi .len (.cons (.var 1) .nil)) (.con (.int 1))) .nil)))) (.cons (.asg [3] true (.call 1 (.cons (.var 0) (.cons (.con (.int 5)) .nil)))) (.cons (.ifs (.cmp .Lt (.var 3) (.con (.int 2))) (.cons (.ret (.call 21 (.cons (.var 0) (.cons (.var 1) .nil)))) .nil) (.nil)) (.cons (.ifs (.cmp .Eq (.var 3) (.con (.int 2))) (.cons (.ret (.bin .Add (.bin .Add (.sl (.var 1) (.nn) (.ss (.var 2))) (.call 16 (.cons (.var 0) .nil))) (.sl (.var 1) (.ss (.var 2)) (.nn)))) .nil) (.nil)) (.cons (.ifs (.cmp .Eq (.var 3) (.con (.int 3))) (.cons (.ret (.bin .Add (.bin .Add (.sl (.var 1) (.nn) (.ss (.var 2))) (.call 16 (.cons (.var 0) .nil))) (.sl (.var 1) (.ss (.bin .Add (.var 2) (.con (.int 1)))) (.nn)))) .nil) (.nil)) (.cons (.ret (.bin .Add (.sl (.var 1) (.nn) (.ss (.var 2))) (.sl (.var 1) (.ss (.bin .Add (.var 2) (.con (.int 1)))) (.nn)))) .nil)))))
theorem c6V:FnScope N25 ["_law_bag_here", "_law_text"] (defScope (top 42)):=by walk_at "fs"
theorem c48:CK N25 (top 42) b25:=by walk_at "ck"
def N26:List Str:=["thing", "kinds", "at", "kind"]
def b26:RSs:=.cons (.ifs (.or (.cons (.nt (.isi (.var 0) (.ty "tuple"))) (.cons (.cmp .Eq (.bi .len (.cons (.var 0) .nil)) (.con (.int 0))) (.cons (.nt (.isi (.ix (.var 0) (.con (.int 0))) (.ty "str"))) .nil)))) (.cons (.ret (.con (.bl false))) .nil) (.nil)) (.cons (.ifs (.kin true 5 (.ix (.var 0) (.con (.int 0)))) (.cons (.ret (.con (.bl false))) .nil) (.nil)) (.cons (.asg [1] true (.kix 5 (.ix (.var 0) (.con (.int 0))))) (.cons (.ifs (.cmp .NotEq (.bi .len (.cons (.var 0) .nil)) (.bin .Add (.bi .len (.cons (.var 1) .nil)) (.con (.int 1)))) (.cons (.ret (.con (.bl false))) .nil) (.nil)) (.cons (.fr [2,3] false (.enumt (.var 1)) (.cons (.ifs (.nt (.call 24 (.cons (.var 3) (.cons (.ix (.var 0) (.bin .Add (.var 2) (.con (.int 1)))) .nil)))) (.cons (.ret (.con (.bl false))) .nil) (.nil)) .nil)) (.cons (.ret (.or (.cons (.cmp .NotEq (.ix (.var 0) (.con (.int 0))) (.con (.str "add_line"))) (.cons (.cmp .NotEq (.ix (.var 0) (.con (.int 2))) (.ix (.var 0) (.con (.int 3)))) .nil)))) .nil)))))
theorem c6W:FnScope N26 ["thing"] (defScope (top 22)):=by walk_at "fs"
theorem c49:CK N26 (top 22) b26:=by walk_at "ck"
def N27:List Str:=["text", "words", "kinds", "parts", "deed", "kind", "part"]
def b27:RSs:=.cons (.ifs (.nt (.isi (.var 0) (.ty "str"))) (.cons (.rai 3 (.nil)) .nil) (.nil)) (.cons (.asg [1] true (.mth .spl (.var 0) (.cons (.con (.str " ")) .nil))) (.cons (.ifs (.kin true 5 (.ix (.var 1) (.con (.int 0)))) (.cons (.rai 3 (.nil)) .nil) (.nil)) (.cons (.asg [2] true (.kix 5 (.ix (.var 1) (.con (.int 0))))) (.cons (.asg [3] true (.sl (.var 1) (.ss (.con (.int 1))) (.nn))) (.cut (.ifs (.cmp .Eq (.ix (.var 1) (.con (.int 0))) (.con (.str "ask"))) (.cons (.asg [3] true (.bin .Add (.sl (.var 1) (.ss (.con (.int 1))) (.ss (.con (.int 3)))) (.lst false (.cons (.sl (.var 1) (.ss (.con (.int 3))) (.nn)) .nil)))) .nil) (.nil)) (.cons (.ifs (.cmp .NotEq (.bi .len (.cons (.var 3) .nil)) (.bi .len (.cons (.var 2) .nil))) (.cons (.rai 3 (.nil)) .nil) (.nil)) (.cons (.asg [4] true (.bi .tup (.cons (.bin .Add (.lst false (.cons (.ix (.var 1) (.con (.int 0))) .nil)) (.lc false (.call 6 (.cons (.var 5) (.cons (.var 6) .nil))) [5,6] false (.zip true false (.var 2) (.var 3)) (.nn) [("kind",5),("part",6)])) .nil))) (.cons (.ifs (.nt (.call 26 (.cons (.var 4) .nil))) (.cons (.rai 3 (.nil)) .nil) (.nil)) (.cons (.ret (.var 4)) .nil)))))))))
theorem c6X:FnScope N27 ["text"] (defScope (top 24)):=by walk_at "fs"
theorem c5a:CK N27 (top 24) b27:=by walk_at "ck"
def N28:List Str:=["_law_text", "_law_found", "e"]
def b28:RSs:=.cons (.asg [1] true (.con .non)) (.cut (.tra (.cons (.asg [1] true (.call 27 (.cons (.var 0) .nil))) .nil) 0 2 (.cons (.ifs (.and (.cons (.isi (.var 2) (.own 3)) (.cons (.isi (.var 2) (.ty "ValueError")) (.cons (.nt (.ist (.var 2) [4,1,2])) .nil)))) (.cons (.ret (.tup (.cons (.con (.str "refused")) (.cons (.con (.int 0)) .nil)))) .nil) (.nil)) (.cons (.ret (.tup (.cons (.con (.str "other")) (.cons (.con (.int 0)) .nil)))) .nil))) (.cons (.ret (.tup (.cons (.con (.str "told")) (.cons (.var 1) .nil)))) .nil))
theorem c6Y:FnScope N28 ["_law_text"] (defScope (top 44)):=by walk_at "fs"
theorem c5b:CK N28 (top 44) b28:=by walk_at "ck"
def N29:List Str:=["_law_text", "_law_kept", "_law_due", "_law_turn", "_law_found"]
def b29:RSs:=.cons (.asg [1] true (.bi .rpr (.cons (.var 0) .nil))) (.cons (.asg [2] true (.call 23 (.cons (.var 0) .nil))) (.cons (.fr [3] true (.rng1 (.con (.int 2))) (.cons (.asg [4] true (.call 28 (.cons (.var 0) .nil))) (.cons (.ifs (.and (.cons (.cmp .Is (.var 2) (.con .non)) (.cons (.cmp .NotEq (.var 4) (.tup (.cons (.con (.str "refused")) (.cons (.con (.int 0)) .nil)))) .nil))) (.cons (.ret (.con (.bl false))) .nil) (.nil)) (.cons (.ifs (.and (.cons (.cmp .IsNot (.var 2) (.con .non)) (.cons (.nt (.call 10 (.cons (.var 4) (.cons (.tup (.cons (.con (.str "told")) (.cons (.var 2) .nil))) .nil)))) .nil))) (.cons (.ret (.con (.bl false))) .nil) (.nil)) .nil)))) (.cons (.ret (.cmp .Eq (.bi .rpr (.cons (.var 0) .nil)) (.var 1))) .nil)))
theorem c6Z:FnScope N29 ["_law_text"] (defScope (top 45)):=by walk_at "fs"
theorem c5c:CK N29 (top 45) b29:=by walk_at "ck"
def N30:List Str:=["_law_script", "_law_bag_here", "_law_world", "_law_words_here", "_law_k", "_law_many", "_law_odd", "_law_deed", "_law_text", "_law_things", "_law_turn"]
def b30:RSs:=.cons (.asg [1] true (.call 0 (.cons (.var 0) .nil))) (.cons (.asg [2] true (.call 22 (.cons (.var 1) .nil))) (.cons (.asg [3] true (.call 2 (.nil))) (.cons (.fr [4] true (.rng1 (.bin .Add (.con (.int 6)) (.call 1 (.cons (.var 1) (.cons (.con (.int 25)) .nil))))) (.cons (.asg [5] true (.call 1 (.cons (.var 1) (.cons (.con (.int 3)) .nil)))) (.cons (.asg [6] true (.call 1 (.cons (.var 1) (.cons (.con (.int 8)) .nil)))) (.cons (.asg [7] true (.call 18 (.cons (.var 1) (.cons (.var 2) (.cons (.ix (.var 3) (.call 1 (.cons (.var 1) (.cons (.con (.int 23)) .nil)))) .nil))))) (.cons (.asg [8] true (.call 3 (.cons (.var 7) .nil))) (.cut (.ifs (.cmp .Eq (.var 6) (.con (.int 0))) (.cons (.asg [9] true (.lst false (.cons (.con .non) (.cons (.con (.int 5)) (.cons (.con (.bl true)) (.cons (.mth .spl (.var 8) (.cons (.con (.str " ")) .nil)) (.cons (.var 7) (.cons (.tup (.cons (.var 8) .nil)) (.cons (.dct false (.cons (.var 8) (.con (.int 1)) (.nil))) (.cons (.lst false (.cons (.var 8) .nil)) (.cons (.bin .Pow (.con (.int 10)) (.con (.int 30))) (.cons (.con (.bl false)) .nil)))))))))))) (.cons (.ifs (.nt (.call 29 (.cons (.call 12 (.cons (.var 1) (.cons (.var 9) .nil))) .nil))) (.cons (.ret (.con (.bl false))) .nil) (.nil)) .nil)) (.nil)) (.cons (.fr [10] true (.rng1 (.var 5)) (.cons (.asg [8] true (.call 25 (.cons (.var 1) (.cons (.var 8) .nil)))) .nil)) (.cons (.ifs (.nt (.call 29 (.cons (.var 8) .nil))) (.cons (.ret (.con (.bl false))) .nil) (.nil)) .nil)))))))) (.cons (.ret (.con (.bl true))) .nil))))
theorem c60:FnScope N30 ["_law_script"] (defScope (top 46)):=by walk_at "fs"
theorem c5d:CK N30 (top 46) b30:=by walk_at "ck"
theorem whole (facts : ∀ {P : Program} {w : World} {K : zbj} {h : Heap} {mg : Str → Option Value} {f : Addr} (X : K.In h) (G : h.Ns mainGlobals mg) (hfa : mg ("law" : Str) = some (.ref f)) (c : SaysX fa fn fx K) (ct : a2c tbs w K),
    ∃ fd : FuncData, (∀ (s : Shared) (v : Value), BindsTo s fd ⟨[v], []⟩ [("_law_script", v)]) ∧ ∀ base : Heap, K.In base → base.Ns mainGlobals mg → FnG P w K mg base false 20 f fd ["_law_script"] (spD ⟨K⟩ (lawT 63))) : PySem.Challenge.rw_stillmain_k82_texts_refused.Holds := by
  open PySem.W PySem.Calls in
  (w_on; refine Cl.hd0 fun said => ?_
   refine HandSHeadRun.head_any (r := OpenLaw.row PySem.Challenge.rw_stillmain_k82_texts_refused) (q := view (OpenLaw.row PySem.Challenge.rw_stillmain_k82_texts_refused).prog [46]) (H := Cl.hk) (ob := Cl.ob) (M := 20000) (loose := Cl.names) (d := HandSHeadRun.topDef (OpenLaw.row PySem.Challenge.rw_stillmain_k82_texts_refused).prog 46) (kwd := []) Cl.ob_eq
     Cl.hd1 Cl.hd2 Cl.run Cl.hd3 Cl.hd4 Cl.hd5 Cl.hd6 (by first | assumption | decide +kernel) Cl.hd7 Cl.hd8 ?hw ?hc
   case hw => w_witness2
   case hc =>
     refine Sv.walk_ofG (l := PySem.Challenge.rw_stillmain_k82_texts_refused) (n := 63) (k := 20) (x := "_law_script") rfl (by decide) (by kernel_rfl) ⟨by decide, by decide⟩ ?F
     intro w mg fa h Y G hmg0
     obtain ⟨K, KX, c, ct⟩ := Y
     have hmg : mg ("law" : PySem.Str) = some (.ref fa) := by
       have e : (HandSHeadRun.topDef (OpenLaw.row PySem.Challenge.rw_stillmain_k82_texts_refused).prog 46).name = ("law" : PySem.Str) := by kernel_rfl
       rw [← e]
       exact hmg0
     obtain ⟨fd, hb, hF⟩ := facts (P := (PySem.Challenge.rw_stillmain_k82_texts_refused).prog) (w := w) KX G hmg c ct
     exact ⟨K, fd, Sv.spD ⟨K⟩ (Sv.lawT 63), KX, hb, fun H a ns hl hS => Sv.law_sp hl hS, hF⟩)
def b3F (x y z:Int) (cells:List Int):List D:=[.int x,.int y,.int z,.lst (cells.map .int)]
def c3T (x y z:Int) (cells:List Int):Prop:=0≤x∧0≤y∧y < 2147483647∧0≤z∧∀ i∈cells,0≤i
def a0I (c:Cell):Prop:=∃ (x y z:Int) (cells:List Int),c=.lst (b3F x y z cells)∧c3T x y z cells
def a07:TR:=fun m ds S K Y=>m=none∧∃ b n c,ds=[.obj b,.int n]∧0 < n∧n.natAbs.log2 < 4000∧S b=some c∧a0I c∧∀ v c',0≤v→v < n→a0I c'→K (.int v) (S.set b c')
def c0g:TR:=fun m ds S K Y=>m=none∧∃ ns:List Int,ds=[.lst (ns.map .int)]∧∀ p c,S p=none→a0I c→K (.obj p) (S.set p c)
def Nm (z:Str):Prop:=z.cps.toList.length≤8∧1≤z.cps.toList.length∧∀ c∈z.cps.toList,97≤c∧c≤122
instance (z:Str):Decidable (Nm z):=by unfold Nm;infer_instance
theorem Nm.fine {z:Str} (h:Nm z):fine z=true:=by
 unfold Sv.fine PyData.strOk
 rw [← Array.all_toList,List.all_eq_true]
 intro c hc
 have:=(h.2.2 c hc).2
 exact zbg (by omega)
theorem Nm.len {z:Str} (h:Nm z):z.length≤8∧1≤z.length:=by
 have e:z.length=z.cps.toList.length:=by rw [Array.length_toList];rfl
 rw [e]
 exact ⟨h.1,h.2.1⟩
def b3P:TR:=fun m ds S K Y=>m=none∧∃ b c,ds=[.obj b]∧S b=some c∧a0I c∧∀ z c',Nm z→a0I c'→K (.str z) (S.set b c')
structure Lay where
 rooms:List (Str × Unit)
 lines:List (Str × Str × Str × Int)
 drains:List (Str × Str)
 pushed:List (Str × Unit)
 tw:Bool
def fU:Unit→D:=fun _=>.bl true
def fL:Str × Str × Int→D:=fun p=>.tup [.str p.1,.str p.2.1,.int p.2.2]
def fS:Str→D:=.str
def nms {α:Type} (l:List (Str × α)):List Str:=l.map (·.1)
inductive b2V where
 | room (z:Str) | line (l x y:Str) (n:Int) | drain (d r:Str) | source (z:Str) | takeR (z:Str) | takeL (z:Str) | takeD (z:Str) | takeS (z:Str)
def b2V.d:b2V→D
 | .room z=>.tup [.str "add_room",.str z]
 | .line l x y n=>.tup [.str "add_line",.str l,.str x,.str y,.int n]
 | .drain d r=>.tup [.str "add_drain",.str d,.str r]
 | .source z=>.tup [.str "add_source",.str z]
 | .takeR z=>.tup [.str "take_room",.str z]
 | .takeL z=>.tup [.str "take_line",.str z]
 | .takeD z=>.tup [.str "take_drain",.str z]
 | .takeS z=>.tup [.str "take_source",.str z]
def b2V.Ok:b2V→Prop
 | .room z=>Nm z
 | .line l x y n=>Nm l∧Nm x∧Nm y∧y≠x∧0≤n∧n≤99
 | .drain d r=>Nm d∧Nm r
 | .source z=>Nm z
 | .takeR z=>Nm z | .takeL z=>Nm z | .takeD z=>Nm z | .takeS z=>Nm z
inductive Rf where
 | there (z:Str) | lacks (z:Str) | many (n:Int) | inuse (z:Str) | wrong (i:Int)
def Rf.cls:Rf→Str
 | .there _ => "There" | .lacks _ => "Lacks" | .many _ => "TooMany" | .inuse _ => "InUse" | .wrong _ => "Wrong"
def Rf.v:Rf→D
 | .there z=>.str z | .lacks z=>.str z | .many n=>.int n | .inuse z=>.str z | .wrong i=>.int i
def Rf.fs:Rf→List (Str × D)
 | .there z=>[("name",.str z)] | .lacks z=>[("name",.str z)] | .many n=>[("most",.int n)] | .inuse z=>[("name",.str z)] | .wrong i=>[("at",.int i)]
def atR (st:Lay) (z:Str):List Str:=nms (st.lines.filter fun q=>decide (z∈[q.2.1,q.2.2.1]))
def without {α:Type} (l:List (Str × α)) (z:Str):List (Str × α):=l.filter fun q=>decide (q.1≠z)
def a91 (st:Lay):List Str→Option Rf
 | []=>none
 | z :: r=>if z∈nms st.rooms then a91 st r else some (.lacks z)
def due (st:Lay):b2V→Option Rf
 | .room z=>if z∈nms st.rooms then some (.there z) else if st.rooms.length=24 then some (.many 24) else none
 | .source z=>if z∈nms st.rooms then (if z∈nms st.pushed then some (.there z) else none) else some (.lacks z)
 | .line l x y _=>if l∈nms st.lines∨l∈nms st.drains then some (.there l) else (a91 st [x,y]).or (if st.lines.length=40 then some (.many 40) else none)
 | .drain d r=>if d∈nms st.lines∨d∈nms st.drains then some (.there d) else (a91 st [r]).or (if st.drains.length=12 then some (.many 12) else none)
 | .takeL z=>if z∈nms st.lines then none else some (.lacks z)
 | .takeD z=>if z∈nms st.drains then none else some (.lacks z)
 | .takeS z=>if z∈nms st.pushed then none else some (.lacks z)
 | .takeR z=>if z∈nms st.rooms then (if atR st z≠[]∨z∈st.drains.map (·.2)∨z∈nms st.pushed then some (.inuse z) else none) else some (.lacks z)
def c5m (st:Lay):b2V→Lay
 | .room z=>{ st with rooms:=st.rooms ++ [(z,())] }
 | .line l x y n=>{ st with lines:=st.lines ++ [(l,x,y,n)] }
 | .drain d r=>{ st with drains:=st.drains ++ [(d,r)] }
 | .source z=>{ st with pushed:=st.pushed ++ [(z,())] }
 | .takeR z=>{ st with rooms:=without st.rooms z }
 | .takeL z=>{ st with lines:=without st.lines z }
 | .takeD z=>{ st with drains:=without st.drains z }
 | .takeS z=>{ st with pushed:=without st.pushed z }
theorem a4l {α:Type} {l:List (Str × α)} {z:Str}:(without l z).length≤l.length:=zbb _ _
theorem a4m {α:Type} {l:List (Str × α)} {z:Str} {q:Str × α} (h:q∈without l z):q∈l:=(zay.mp h).1
theorem a0x {α:Type} {l:List (Str × α)} {z:Str}:nms (without l z)=(nms l).filter fun w=>decide (w≠z):=by
 unfold nms without
 rw [List.filter_map]
 rfl
structure Ok (n:Nat) (st:Lay):Prop where
 r:st.rooms.length≤24
 l:st.lines.length≤40
 d:st.drains.length≤12
 up:(nms st.pushed).Nodup
 nr:∀ q∈st.rooms,Nm q.1
 nl:∀ q∈st.lines,Nm q.1∧Nm q.2.1∧Nm q.2.2.1∧0≤q.2.2.2∧q.2.2.2≤99
 nd:∀ q∈st.drains,Nm q.1∧Nm q.2
 np:∀ q∈st.pushed,Nm q.1
 ul:(nms st.lines).Nodup
 sub:∀ z∈nms st.pushed,z∈nms st.rooms
theorem a2Y {l:List Str}:∀ {r:List Str},l.Nodup→(∀ z∈l,z∈r)→l.length≤r.length:=by
 induction l with
 | nil=>intro r _ _;exact Nat.zero_le _
 | cons a l ih =>
  intro r u s
  have ha:a∈r:=s a zal
  have h:=ih (r:=r.erase a) (zbd.mp u).2 fun z hz=>(List.mem_erase_of_ne (fun e=>(zbd.mp u).1 (by rw [← e];exact hz))).mpr (s z (zao _ hz))
  rw [List.length_erase_of_mem ha] at h
  have:=List.length_pos_of_mem ha
  rw [zaz]
  omega
theorem Ok.p {n:Nat} {st:Lay} (h:Ok n st):st.pushed.length≤24:=by
 have:=a2Y h.up h.sub
 unfold nms at this
 rw [zag,zag] at this
 exact Nat.le_trans this h.r
def c4c (C a b c d:Addr):Cell:=.ins C [("by_room",.obj a),("ends_of",.obj b),("seat_of",.obj c),("pushed",.obj d)]
def mK (sm:Lay) (e f:Addr):List (Key × D) :=
 if sm.tw=true then [(.inr "rooms",.lst ((a1e (nms sm.rooms)).map D.str)),(.inr "sources",.lst ((a1e (nms sm.pushed)).map D.str)),(.inr "lines",.obj e),(.inr "drains",.obj f)] else [(.inr "rooms",.lst ((a1e (nms sm.rooms)).map D.str)),(.inr "lines",.obj e),(.inr "drains",.obj f),(.inr "sources",.lst ((a1e (nms sm.pushed)).map D.str))]
structure b1k (C:Addr) (S:SS) (L a b c d:Addr) (st:Lay):Prop where
 L:S L=some (c4c C a b c d)
 a:S a=some (.dic (a1t fU st.rooms))
 b:S b=some (.dic (a1t fL st.lines))
 c:S c=some (.dic (a1t fS st.drains))
 d:S d=some (.dic (a1t fU st.pushed))
structure Ad where
 (g L a b c d M e f:Addr)
def Ad.l (A:Ad):List Addr:=[A.g,A.L,A.a,A.b,A.c,A.d,A.M,A.e,A.f]
def put (C:Addr) (S0:SS) (A:Ad) (st sm:Lay) (cb:Cell):SS:=fun q =>
 if q=A.g then some cb else if q=A.L then some (c4c C A.a A.b A.c A.d) else if q=A.a then some (.dic (a1t fU st.rooms)) else if q=A.b then some (.dic (a1t fL st.lines)) else
 if q=A.c then some (.dic (a1t fS st.drains)) else if q=A.d then some (.dic (a1t fU st.pushed)) else if q=A.M then some (.dic (mK sm A.e A.f)) else
 if q=A.e then some (.dic (a1t fL sm.lines)) else if q=A.f then some (.dic (a1t fS sm.drains)) else S0 q
section
end
structure Wo where
 rooms:List Str
 lines:List (Str × Str × Str × Int)
 drains:List (Str × Str)
 srcs:List Str
structure a5B (w:Wo):Prop where
 r:w.rooms.length≤24
 rn:∀ z∈w.rooms,Nm z
 ru:w.rooms.Nodup
 l:w.lines.length≤40
 ln:∀ q∈w.lines,Nm q.1∧q.2.1∈w.rooms∧q.2.2.1∈w.rooms∧q.2.2.1≠q.2.1∧0≤q.2.2.2∧q.2.2.2≤99
 lu:(nms w.lines).Nodup
 d:w.drains.length≤12
 dn:∀ q∈w.drains,Nm q.1∧q.2∈w.rooms
 du:(nms w.drains).Nodup
 ld:∀ z∈nms w.lines,z∉nms w.drains
 s:∀ z∈w.srcs,z∈w.rooms
 su:w.srcs.Nodup
def units (zs:List Str):List (Str × Unit):=zs.map fun z=>(z,())
theorem a2s {zs:List Str}:nms (units zs)=zs:=by
 unfold nms units
 rw [zat]
 exact List.map_id' _
def Wo.lay (w:Wo):Lay:=⟨units w.rooms,w.lines,w.drains,units w.srcs,false⟩
theorem a5B.ok {w:Wo} (h:a5B w):Ok 0 w.lay:=by
 refine ⟨by show (units w.rooms).length≤24;unfold units;rw [zag];exact h.r,h.l,h.d,by show (nms (units w.srcs)).Nodup;rw [a2s];exact h.su,fun q hq=>?_,fun q hq=>?_,fun q hq=>?_,fun q hq=>?_,h.lu,fun z hz=>?_⟩
 ·obtain ⟨z,hz,rfl⟩:=zan.mp hq
  exact h.rn z hz
 ·obtain ⟨a,b,c,_,d,e⟩:=h.ln q hq
  exact ⟨a,h.rn _ b,h.rn _ c,d,e⟩
 ·obtain ⟨a,b⟩:=h.dn q hq
  exact ⟨a,h.rn _ b⟩
 ·obtain ⟨z,hz,rfl⟩:=zan.mp hq
  exact h.rn z (h.s z hz)
 ·have hz:z∈nms (units w.srcs):=hz
  show z∈nms (units w.rooms)
  rw [a2s] at hz ⊢
  exact h.s z hz
def a4P (q:Str × Str × Str × Int) (x y:Str):Prop:=(q.2.1=x∧q.2.2.1=y)∨(q.2.2.1=x∧q.2.1=y)
def Adj (w:Wo) (shut:List Str) (x y:Str):Prop:=∃ q∈w.lines,q.1∉shut∧a4P q x y
theorem Adj.symm {w:Wo} {shut:List Str} {x y:Str} (h:Adj w shut x y):Adj w shut y x:=by
 obtain ⟨q,hq,hs,h⟩:=h
 exact ⟨q,hq,hs,h.elim (fun h=>.inr ⟨h.2,h.1⟩) fun h=>.inl ⟨h.2,h.1⟩⟩
theorem Adj.room {w:Wo} {shut:List Str} {x y:Str} (ok:a5B w) (h:Adj w shut x y):y∈w.rooms:=by
 obtain ⟨q,hq,_,h⟩:=h
 have:=ok.ln q hq
 rcases h with ⟨_,rfl⟩ | ⟨_,rfl⟩
 ·exact this.2.2.1
 ·exact this.2.1
inductive Lev (w:Wo) (shut rs:List Str):Nat→Str→Prop where
 | zero {z:Str}:z∈rs→Lev w shut rs 0 z
 | succ {n:Nat} {x y:Str}:Lev w shut rs n x→Adj w shut x y→Lev w shut rs (n + 1) y
def Reach (w:Wo) (shut rs:List Str) (z:Str):Prop:=∃ n,Lev w shut rs n z
theorem Reach.base {w:Wo} {shut rs:List Str} {z:Str} (h:z∈rs):Reach w shut rs z:=⟨0,.zero h⟩
theorem Reach.step {w:Wo} {shut rs:List Str} {x y:Str} (h:Reach w shut rs x) (a:Adj w shut x y):Reach w shut rs y:=by
 obtain ⟨n,h⟩:=h
 exact ⟨n + 1,h.succ a⟩
theorem Reach.least {w:Wo} {shut rs:List Str} {P:Str→Prop} (h0:∀ z∈rs,P z) (h1:∀ x y,P x→Adj w shut x y→P y) {z:Str} (h:Reach w shut rs z):P z:=by
 obtain ⟨n,h⟩:=h
 induction h with
 | zero h=>exact h0 _ h
 | succ _ a ih=>exact h1 _ _ ih a
theorem Reach.room {w:Wo} {shut rs:List Str} (ok:a5B w) (sub:∀ z∈rs,z∈w.rooms) {z:Str} (h:Reach w shut rs z):z∈w.rooms:=h.least sub fun _ _ _ a=>a.room ok
structure a03 (w:Wo) (shut rs:List Str) (R:List (Str × Nat)):Prop where
 u:(nms R).Nodup
 lev:∀ q∈R,Lev w shut rs q.2 q.1
 all:∀ m z,Lev w shut rs m z→∃ d,(z,d)∈R∧d≤m
theorem a03.iff {w:Wo} {shut rs:List Str} {R:List (Str × Nat)} (h:a03 w shut rs R) {z:Str}:z∈nms R↔Reach w shut rs z:=by
 constructor
 ·intro hz
  obtain ⟨q,hq,rfl⟩:=zan.mp hz
  exact ⟨_,h.lev q hq⟩
 ·rintro ⟨n,hz⟩
  obtain ⟨d,hd,_⟩:=h.all n z hz
  exact zan.mpr ⟨_,hd,rfl⟩
structure Bfs (w:Wo) (shut rs:List Str) (R:List (Str × Nat)) (at_:Nat) (P:List Str):Prop where
 u:(nms R).Nodup
 lev:∀ q∈R,Lev w shut rs q.2 q.1
 up:R.Pairwise fun p q=>p.2≤q.2
 base:∀ z∈rs,(z,0)∈R
 near:∀ p,R[at_]?=some p→∀ q∈R,q.2≤p.2 + 1
 done:∀ j p,j < at_→R[j]?=some p→∀ y,Adj w shut p.1 y→∃ d,(y,d)∈R∧d≤p.2 + 1
 part:∀ p,R[at_]?=some p→∀ q∈w.lines,q.1∈P→q.1∉shut→∀ y,a4P q p.1 y→∃ d,(y,d)∈R∧d≤p.2 + 1
section
variable {w:Wo} {shut rs:List Str} {R:List (Str × Nat)} {k:Nat} {P:List Str}
theorem Bfs.start (u:rs.Nodup):Bfs w shut rs (rs.map fun z=>(z,0)) 0 []:=by
 have e:nms (rs.map fun z=>(z,0))=rs:=by
  unfold nms
  rw [zat]
  exact List.map_id' _
 refine ⟨by rw [e];exact u,fun q hq=>?_,?_,fun z hz=>zan.mpr ⟨z,hz,rfl⟩,fun p _ q hq=>?_,fun j _ hj=>absurd hj (Nat.not_lt_zero _),fun _ _ _ _ h=>absurd h zba⟩
 ·obtain ⟨z,hz,rfl⟩:=zan.mp hq
  exact .zero hz
 ·rw [List.pairwise_map]
  exact List.pairwise_of_forall fun _ _=>Nat.le_refl _
 ·obtain ⟨z,hz,rfl⟩:=zan.mp hq
  exact Nat.zero_le _
theorem Bfs.add {l there:Str} {p:Str × Nat} (h:Bfs w shut rs R k P) (hp:R[k]?=some p) (adj:Adj w shut p.1 there) (new:there∉nms R) (only:∀ q∈w.lines,q.1=l→∀ y,a4P q p.1 y→y=there) :
  Bfs w shut rs (R ++ [(there,p.2 + 1)]) k (P ++ [l]):=by
 have hk:k < R.length:=(List.getElem?_eq_some_iff.mp hp).1
 have at_k:(R ++ [(there,p.2 + 1)])[k]?=some p:=by rw [List.getElem?_append_left hk];exact hp
 have old:∀ {y d},(y,d)∈R→(y,d)∈R ++ [(there,p.2 + 1)]:=fun h=>zar _ h
 refine ⟨?_,fun q hq=>?_,?_,fun z hz=>old (h.base z hz),fun p' hp' q hq=>?_,fun j p' hj hp' y hy=>?_,fun p' hp' q hq hl hs y hy=>?_⟩
 ·unfold nms
  rw [zav]
  refine List.nodup_append.mpr ⟨h.u,by simp,fun a ha b hb e=>new ?_⟩
  have hb:b=there:=by simpa using hb
  rw [← hb,← e]
  exact ha
 ·rcases zap.mp hq with hq | hq
  ·exact h.lev q hq
  ·cases zaj.mp hq
   exact (h.lev p (zaq hp)).succ adj
 ·refine List.pairwise_append.mpr ⟨h.up,List.pairwise_singleton _ _,fun a ha b hb=>?_⟩
  cases zaj.mp hb
  exact h.near p hp a ha
 ·rw [at_k] at hp'
  cases hp'
  rcases zap.mp hq with hq | hq
  ·exact h.near p hp q hq
  ·cases zaj.mp hq
   exact Nat.le_refl _
 ·rw [List.getElem?_append_left (by omega)] at hp'
  obtain ⟨d,hd,l⟩:=h.done j p' hj hp' y hy
  exact ⟨d,old hd,l⟩
 ·rw [at_k] at hp'
  cases hp'
  rcases zap.mp hl with hl | hl
  ·obtain ⟨d,hd,l⟩:=h.part p hp q hq hl hs y hy
   exact ⟨d,old hd,l⟩
  ·cases only q hq (zaj.mp hl) y hy
   exact ⟨p.2 + 1,zas _ (zaj.mpr rfl),Nat.le_refl _⟩
theorem Bfs.next {p:Str × Nat} (h:Bfs w shut rs R k P) (hp:R[k]?=some p) (all:∀ q∈w.lines,∀ y,a4P q p.1 y→q.1∈P):Bfs w shut rs R (k + 1) []:=by
 refine ⟨h.u,h.lev,h.up,h.base,fun p' hp' q hq=>?_,fun j p' hj hp' y hy=>?_,fun _ _ _ _ h=>absurd h zba⟩
 ·have hlt:=(List.getElem?_eq_some_iff.mp hp').1
  have e1:R[k]'(by omega)=p:=Option.some.inj ((zbi (by omega)).symm.trans hp)
  have e2:R[k + 1]=p':=Option.some.inj ((zbi hlt).symm.trans hp')
  have:=List.pairwise_iff_getElem.mp h.up k (k + 1) (by omega) hlt (by omega)
  rw [e1,e2] at this
  have:=h.near p hp q hq
  omega
 ·by_cases e:j=k
  ·subst e
   rw [hp] at hp'
   cases hp'
   obtain ⟨q,hq,hs,hy⟩:=hy
   exact h.part p hp q hq (all q hq y hy) hs y hy
  ·exact h.done j p' (by omega) hp' y hy
theorem Bfs.end_ (h:Bfs w shut rs R R.length []):a03 w shut rs R:=by
 refine ⟨h.u,h.lev,fun m z hz=>?_⟩
 induction hz with
 | zero hz=>exact ⟨0,h.base _ hz,Nat.le_refl _⟩
 | @succ n x y _ a ih =>
  obtain ⟨d,hd,l⟩:=ih
  obtain ⟨j,hj⟩:=List.mem_iff_getElem?.mp hd
  obtain ⟨d2,hd2,l2⟩:=h.done j _ (List.getElem?_eq_some_iff.mp hj).1 hj y a
  have l2:d2≤d + 1:=l2
  exact ⟨d2,hd2,by omega⟩
theorem Bfs.few (ok:a5B w) (sub:∀ z∈rs,z∈w.rooms) (h:Bfs w shut rs R k P):R.length≤24:=by
 have e:(nms R).length=R.length:=zag ..
 rw [← e]
 refine Nat.le_trans (a2Y h.u fun z hz=>?_) ok.r
 obtain ⟨q,hq,rfl⟩:=zan.mp hz
 exact Reach.room (w:=w) (shut:=shut) ok sub ⟨_,h.lev q hq⟩
end
noncomputable instance (w:Wo) (shut rs:List Str) (z:Str):Decidable (Reach w shut rs z):=Classical.propDecidable _
structure Grow (w:Wo) (shut rs ks:List Str):Prop where
 u:ks.Nodup
 base:∀ z∈rs,z∈ks
 in_:∀ z∈ks,Reach w shut rs z
theorem Grow.start {w:Wo} {shut rs:List Str} (u:rs.Nodup):Grow w shut rs rs:=⟨u,fun _ h=>h,fun _ h=>.base h⟩
theorem Grow.add {w:Wo} {shut rs ks:List Str} {x y:Str} (h:Grow w shut rs ks) (hx:x∈ks) (a:Adj w shut x y) (new:y∉ks):Grow w shut rs (ks ++ [y]):=by
 refine ⟨List.nodup_append.mpr ⟨h.u,by simp,fun a ha b hb e=>new ?_⟩,fun z hz=>zar _ (h.base z hz),fun z hz=>?_⟩
 ·rw [← zaj.mp hb,← e];exact ha
 ·rcases zap.mp hz with hz | hz
  ·exact h.in_ z hz
  ·cases zaj.mp hz
   exact (h.in_ x hx).step a
theorem Grow.few {w:Wo} {shut rs ks:List Str} (ok:a5B w) (sub:∀ z∈rs,z∈w.rooms) (h:Grow w shut rs ks):ks.length≤24 :=
 Nat.le_trans (a2Y h.u fun z hz=>(h.in_ z hz).room ok sub) ok.r
theorem Grow.done {w:Wo} {shut rs ks:List Str} (h:Grow w shut rs ks) (shutOff:∀ q∈w.lines,q.1∉shut→(q.2.1∈ks↔q.2.2.1∈ks)):∀ z,z∈ks↔Reach w shut rs z:=fun z =>
 ⟨h.in_ z,fun r=>r.least h.base fun x y hx a=>by
  obtain ⟨q,hq,hs,⟨rfl,rfl⟩ | ⟨rfl,rfl⟩⟩:=a
  ·exact (shutOff q hq hs).mp hx
  ·exact (shutOff q hq hs).mpr hx⟩
section
variable {w:Wo} {shut:List Str}
theorem Lev.trans {rs:List Str} {x:Str} {n:Nat} {y:Str} (h:Lev w shut [x] n y) (hx:Reach w shut rs x):Reach w shut rs y:=by
 induction h with
 | zero h=>cases zaj.mp h;exact hx
 | succ _ a ih=>exact ih.step a
theorem Reach.trans {rs:List Str} {x y:Str} (h:Reach w shut [x] y) (hx:Reach w shut rs x):Reach w shut rs y:=by
 obtain ⟨n,h⟩:=h
 exact h.trans hx
theorem Reach.self {x:Str}:Reach w shut [x] x:=.base (zaj.mpr rfl)
theorem Reach.symm {x y:Str} (h:Reach w shut [x] y):Reach w shut [y] x:=by
 obtain ⟨n,h⟩:=h
 induction h with
 | zero h=>cases zaj.mp h;exact .self
 | @succ n u v _ a ih =>
  exact ih.trans (Reach.self.step a.symm)
theorem Reach.one {rs:List Str} {y:Str}:Reach w shut rs y↔∃ x∈rs,Reach w shut [x] y:=by
 constructor
 ·intro h
  exact Reach.least (P:=fun y=>∃ x∈rs,Reach w shut [x] y) (fun z hz=>⟨z,hz,.self⟩) (fun u v ⟨x,hx,h⟩ a=>⟨x,hx,h.step a⟩) h
 ·rintro ⟨x,hx,h⟩
  exact h.trans (.base hx)
def a9Q (acc:List (List Str)) (z:Str):Bool:=acc.any fun p=>decide (z∈p)
theorem a4E {acc:List (List Str)} {z:Str}:a9Q acc z=true↔∃ p∈acc,z∈p:=by
 unfold a9Q
 rw [List.any_eq_true]
 exact ⟨fun ⟨p,h,e⟩=>⟨p,h,of_decide_eq_true e⟩,fun ⟨p,h,e⟩=>⟨p,h,zbg e⟩⟩
def a9y (w:Wo) (o:Str):Str:=match w.drains.lookup o with
 | some r=>r | none => ""
def b7P (w:Wo) (rs:List Str) (l:Str):Bool:=match w.lines.lookup l with
 | some q=>!(decide (q.1∈rs) == decide (q.2.1∈rs)) | none=>false
def b3X (w:Wo) (rs:List Str):List Str:=(a1e (nms w.lines)).filter (b7P w rs)
end
abbrev Lms:=List (Str × Str × Str × Option Int)
structure b5O (lm:Lms):Prop where
 u:(nms lm).Nodup
 ne:∀ q∈lm,q.2.1≠q.2.2.1
 c:∀ q∈lm,∀ c,q.2.2.2=some c→0 < c∧c≤99
 few:lm.length≤40
 nm:∀ q∈lm,Nm q.1∧Nm q.2.1∧Nm q.2.2.1
def ind (X:List Str) (r:Str):Int:=if r∈X then 1 else 0
def a7h {α:Type} (l:List α) (f:α→Int):Int:=match l with
 | []=>0
 | a :: l=>f a + a7h l f
def net (lm:Lms) (u:Str→Int) (X:List Str):Int:=a7h lm fun q=>(ind X q.2.2.1 - ind X q.2.1) * u q.1
def c0T (q:Str × Str × Str × Option Int) (u:Str→Int):Prop:=∀ c,q.2.2.2=some c→0 < c - u q.1
def b3Y (q:Str × Str × Str × Option Int) (u:Str→Int):Prop:=∀ c,q.2.2.2=some c→0 < c + u q.1
def Arc (lm:Lms) (u:Str→Int) (x l y:Str):Prop:=∃ q∈lm,q.1=l∧((q.2.1=x∧q.2.2.1=y∧c0T q u)∨(q.2.2.1=x∧q.2.1=y∧b3Y q u))
abbrev Stp:=Str × Str × Str
def a8Y (lm:Lms) (s:Stp):Prop:=∃ q∈lm,q.1=s.2.1∧((q.2.1=s.1∧q.2.2.1=s.2.2)∨(q.2.2.1=s.1∧q.2.1=s.2.2))
def oneOf (lm:Lms) (l:Str):Str:=match lm.lookup l with
 | some q=>q.1
 | none => ""
def a09 (lm:Lms) (amt:Int) (u:Str→Int) (s:Stp):Str→Int:=fun l=>if l=s.2.1 then (if s.1=oneOf lm l then u l + amt else u l - amt) else u l
def a2X (lm:Lms) (amt:Int) (u:Str→Int) (st:List Stp):Str→Int:=st.foldl (a09 lm amt) u
inductive Chain (P:Stp→Prop):Str→List Stp→Str→Prop where
 | nil {x:Str}:Chain P x [] x
 | cons {x l y z:Str} {st:List Stp}:P (x,l,y)→Chain P y st z→Chain P x ((x,l,y) :: st) z
section
variable {α:Type} {lm:Lms} {u v:Str→Int} {X Y T Z:List Str} {r x y l:Str} {st:List Stp} {amt:Int}
theorem a2W {l:List α} {f g:α→Int} (h:∀ a∈l,f a=g a):a7h l f=a7h l g:=by
 induction l with
 | nil=>rfl
 | cons a l ih =>
  unfold a7h
  rw [h a zal,ih fun b hb=>h b (zao _ hb)]
theorem a8i {l:List α} {f g:α→Int}:a7h l (fun a=>f a + g a)=a7h l f + a7h l g:=by
 induction l with
 | nil=>rfl
 | cons a l ih=>unfold a7h;rw [ih];omega
theorem b0Z {l:List α} {f:α→Int} (h:∀ a∈l,f a=0):a7h l f=0:=by
 induction l with
 | nil=>rfl
 | cons a l ih =>
  unfold a7h
  rw [h a zal,ih fun b hb=>h b (zao _ hb)]
  rfl
theorem b2D {l:List (Str × α)} (un:(nms l).Nodup) {q:Str × α} (hq:q∈l) {f:Str × α→Int} (h:∀ p∈l,p.1≠q.1→f p=0):a7h l f=f q:=by
 induction l with
 | nil=>cases hq
 | cons a l ih =>
  have un2:a.1∉nms l∧(nms l).Nodup:=zbd.mp un
  unfold a7h
  rcases zau.mp hq with rfl | hq
  ·rw [b0Z fun p hp=>h p (zao _ hp) fun e=>un2.1 (by rw [← e];exact zan.mpr ⟨p,hp,rfl⟩)]
   omega
  ·rw [h a zal fun e=>un2.1 (by rw [e];exact zan.mpr ⟨q,hq,rfl⟩),ih un2.2 hq fun p hp=>h p (zao _ hp)]
   omega
theorem a2Z (h:r∈X):ind X r=1:=if_pos h
theorem a1a (h:r∉X):ind X r=0:=if_neg h
theorem b0k (h:∀ z,z∈X↔z∈Y):net lm u X=net lm u Y:=by
 have e:∀ z,ind X z=ind Y z:=fun z=>by
  unfold ind
  by_cases hz:z∈X
  ·rw [if_pos hz,if_pos ((h z).mp hz)]
  ·rw [if_neg hz,if_neg fun k=>hz ((h z).mpr k)]
 unfold net
 simp only [e]
theorem a7Z (h:r∉Y):net lm u (r :: Y)=net lm u [r] + net lm u Y:=by
 have e:∀ z,ind (r :: Y) z=ind [r] z + ind Y z:=fun z=>by
  by_cases hr:z=r
  ·subst hr
   rw [a2Z zal,a2Z zal,a1a h];rfl
  ·by_cases hz:z∈Y
   ·rw [a2Z (zao _ hz),a1a (by simpa using hr),a2Z hz];rfl
   ·rw [a1a (by simp [hr,hz]),a1a (by simpa using hr),a1a hz];rfl
 unfold net
 rw [← a8i]
 refine a2W fun q _=>?_
 rw [e,e,← Int.add_mul]
 congr 1
 omega
theorem b0l:∀ {Y:List Str},Y.Nodup→(∀ r∈Y,r∉T→net lm u [r]=0)→net lm u Y=net lm u (Y.filter fun z=>decide (z∈T))
 | [],_,_=>rfl
 | r :: Y,hu,h=>by
  obtain ⟨h1,h2⟩:=zbd.mp hu
  have ih:=b0l h2 fun z hz=>h z (zao _ hz)
  rw [a7Z h1,ih]
  by_cases hr:r∈T
  ·rw [show (r :: Y).filter (fun z=>decide (z∈T))=r :: Y.filter (fun z=>decide (z∈T)) from List.filter_cons_of_pos (by simpa using hr),a7Z fun k=>h1 (zay.mp k).1]
  ·rw [show (r :: Y).filter (fun z=>decide (z∈T))=Y.filter (fun z=>decide (z∈T)) from List.filter_cons_of_neg (by simpa using hr),h r zal hr]
   omega
theorem a73 (ok:b5O lm) {q:Str × Str × Str × Option Int} (hq:q∈lm):oneOf lm q.1=q.2.1:=by
 have:∀ {l:Lms},(nms l).Nodup→q∈l→l.lookup q.1=some q.2:=fun {l}=>by
  induction l with
  | nil=>exact fun _ h=>nomatch h
  | cons a l ih =>
   intro un hq
   have un2:a.1∉nms l∧(nms l).Nodup:=zbd.mp un
   rw [List.lookup_cons]
   rcases zau.mp hq with rfl | hq
   ·simp
   ·have ne:(q.1 == a.1)=false:=by
     rw [beq_eq_false_iff_ne]
     exact fun e=>un2.1 (by rw [← e];exact zan.mpr ⟨q,hq,rfl⟩)
    rw [ne]
    exact ih un2.2 hq
 unfold oneOf
 rw [this ok.u hq]
theorem b2d (ok:b5O lm) {s:Stp} (h:a8Y lm s):net lm (a09 lm amt u s) X=net lm u X + amt * (ind X s.2.2 - ind X s.1):=by
 obtain ⟨q,hq,e,g⟩:=h
 have d:net lm (a09 lm amt u s) X=net lm u X + a7h lm fun p=>(ind X p.2.2.1 - ind X p.2.1) * (a09 lm amt u s p.1 - u p.1):=by
  unfold net
  rw [← a8i]
  refine a2W fun p _=>?_
  rw [← Int.mul_add]
  congr 1
  omega
 rw [d,b2D ok.u hq fun p hp ne=>?_]
 ·congr 1
  have e1:=a73 ok hq
  unfold a09
  rw [if_pos e,e1]
  have ne:=ok.ne q hq
  rcases g with ⟨g1,g2⟩ | ⟨g1,g2⟩
  ·rw [if_pos g1.symm,g1,g2,show u q.1 + amt - u q.1=amt by omega,Int.mul_comm]
  ·rw [if_neg fun k=>ne (by rw [← k,g1]),g1,g2,show u q.1 - amt - u q.1=-amt by omega,Int.mul_neg,← Int.neg_mul,Int.mul_comm]
   congr 1
   omega
 ·unfold a09
  rw [if_neg fun k=>ne (by rw [k,e]),Int.sub_self,Int.mul_zero]
theorem b4K (ok:b5O lm) {P:Stp→Prop} (hP:∀ s,P s→a8Y lm s):∀ {st:List Stp} {u:Str→Int} {x y:Str},Chain P x st y→net lm (a2X lm amt u st) X=net lm u X + amt * (ind X y - ind X x):=by
 intro st u x y h
 induction h generalizing u with
 | nil=>unfold a2X;rw [List.foldl_nil,Int.sub_self,Int.mul_zero,Int.add_zero]
 | @cons x l y z st p _ ih =>
  show net lm (a2X lm amt (a09 lm amt u (x,l,y)) st) X=_
  rw [ih,b2d ok (hP _ p)]
  show net lm u X + amt * (ind X y - ind X x) + amt * (ind X z - ind X y)=_
  rw [Int.add_assoc,← Int.mul_add]
  congr 2
  omega
theorem Chain.mono {P Q:Stp→Prop} (h:∀ s,P s→Q s) {x y:Str} {st:List Stp} (c:Chain P x st y):Chain Q x st y:=by
 induction c with
 | nil=>exact .nil
 | cons p _ ih=>exact .cons (h _ p) ih
theorem Chain.all {P:Stp→Prop} {x y:Str} {st:List Stp} (c:Chain P x st y):∀ s∈st,P s:=by
 induction c with
 | nil=>exact fun _ h=>nomatch h
 | cons p _ ih =>
  intro s hs
  rcases zau.mp hs with rfl | hs
  ·exact p
  ·exact ih s hs
structure a5D (lm:Lms) (u:Str→Int) (S T:List Str):Prop where
 b:∀ q∈lm,∀ c,q.2.2.2=some c→-c≤u q.1∧u q.1≤c
 k:∀ r,r∉S→r∉T→net lm u [r]=0
def a94 (q:Str × Str × Str × Option Int) (u:Str→Int) (s:Stp) (c:Int):Int:=if s.1=q.2.1 then c - u q.1 else c + u q.1
def b5L (lm:Lms) (u:Str→Int) (st:List Stp) (amt:Int):Prop:=∀ s∈st,∀ q∈lm,q.1=s.2.1→∀ c,q.2.2.2=some c→amt≤a94 q u s c
theorem a5F {s:Stp} (h:l≠s.2.1):a09 lm amt u s l=u l:=if_neg h
theorem a5H (ok:b5O lm) (a0:0≤amt):∀ {st:List Stp} {u:Str→Int},(st.map fun s=>s.2.1).Nodup→b5L lm u st amt→(∀ q∈lm,∀ c,q.2.2.2=some c→-c≤u q.1∧u q.1≤c)→∀ q∈lm,∀ c,q.2.2.2=some c→-c≤a2X lm amt u st q.1∧a2X lm amt u st q.1≤c
 | [],_,_,_,hb=>hb
 | s :: st,u,hu,ha,hb=>by
  obtain ⟨h1,h2⟩:=zbd.mp hu
  show ∀ q∈lm,∀ c,q.2.2.2=some c→-c≤a2X lm amt (a09 lm amt u s) st q.1∧a2X lm amt (a09 lm amt u s) st q.1≤c
  refine a5H ok a0 h2 (fun s' hs q hq e c hc=>?_) fun q hq c hc=>?_
  ·have ne:q.1≠s.2.1:=fun k=>h1 (by show s.2.1∈_;rw [← k,e];exact zan.mpr ⟨s',hs,rfl⟩)
   have:=ha s' (zao _ hs) q hq e c hc
   unfold a94 at this ⊢
   rw [a5F ne]
   exact this
  ·obtain ⟨b1,b2⟩:=hb q hq c hc
   by_cases e:q.1=s.2.1
   ·have:=ha s zal q hq e c hc
    unfold a94 at this
    unfold a09
    rw [if_pos e,a73 ok hq]
    by_cases g:s.1=q.2.1
    ·rw [if_pos g] at this ⊢;omega
    ·rw [if_neg g] at this ⊢;omega
   ·rw [a5F e];exact ⟨b1,b2⟩
theorem b1p {s:Stp} (h:Arc lm u s.1 s.2.1 s.2.2):a8Y lm s:=by
 obtain ⟨q,hq,e,g⟩:=h
 exact ⟨q,hq,e,g.elim (fun g=>.inl ⟨g.1,g.2.1⟩) fun g=>.inr ⟨g.1,g.2.1⟩⟩
abbrev c4G (lm:Lms) (u:Str→Int):Stp→Prop:=fun s=>Arc lm u s.1 s.2.1 s.2.2
theorem a5D.add (ok:b5O lm) {S:List Str} (f:a5D lm u S T) (c:Chain (c4G lm u) x st y) (hx:x∈S) (hy:y∈T) (nd:(st.map fun s=>s.2.1).Nodup) (a0:0≤amt) (a:b5L lm u st amt):a5D lm (a2X lm amt u st) S T:=by
 refine ⟨a5H ok a0 nd a f.b,fun r h1 h2=>?_⟩
 rw [b4K ok (fun s=>b1p) c,f.k r h1 h2,a1a (show y∉[r] from fun k=>h2 (by rw [← zaj.mp k];exact hy)),a1a (show x∉[r] from fun k=>h1 (by rw [← zaj.mp k];exact hx))]
 omega
structure a8X (lm:Lms) (S T Y:List Str):Prop where
 u:Y.Nodup
 t:∀ z∈T,z∈Y
 s:∀ z∈S,z∉Y
 b:∀ q∈lm,(q.2.1∈Y∧q.2.2.1∉Y)∨(q.2.1∉Y∧q.2.2.1∈Y)→q.2.2.2≠none
def a6Q (lm:Lms) (Y:List Str):Int:=a7h lm fun q=>if (q.2.1∈Y∧q.2.2.1∉Y)∨(q.2.1∉Y∧q.2.2.1∈Y) then q.2.2.2.getD 0 else 0
theorem a8X.val {S:List Str} (h:a8X lm S T Y) (f:a5D lm u S T):net lm u Y=net lm u T:=by
 rw [b0l (T:=T) h.u fun r hr ht=>f.k r (fun k=>h.s r k hr) ht]
 exact b0k fun z=>⟨fun k=>of_decide_eq_true (zay.mp k).2,fun k=>zay.mpr ⟨h.t z k,zbg k⟩⟩
def c3W (lm:Lms) (u:Str→Int) (Y:List Str):Prop:=∀ x l y,Arc lm u x l y→y∈Y→x∈Y
theorem c3W.eq {S:List Str} (h:a8X lm S T Y) (f:a5D lm u S T) (fu:c3W lm u Y):net lm u Y=a6Q lm Y:=by
 refine a2W fun q hq=>?_
 by_cases a:q.2.1∈Y <;> by_cases b:q.2.2.1∈Y
 ·rw [a2Z a,a2Z b,if_neg (by simp [a,b])];omega
 ·rw [a2Z a,a1a b,if_pos (.inl ⟨a,b⟩)]
  cases e:q.2.2.2 with
  | none=>exact absurd e (h.b q hq (.inl ⟨a,b⟩))
  | some c =>
   have:=f.b q hq c e
   have no:¬ 0 < c + u q.1:=fun k=>b (fu q.2.2.1 q.1 q.2.1 ⟨q,hq,rfl,.inr ⟨rfl,rfl,fun c' hc=>by rw [e] at hc;cases hc;exact k⟩⟩ a)
   show (0 - 1) * u q.1=c
   omega
 ·rw [a1a a,a2Z b,if_pos (.inr ⟨a,b⟩)]
  cases e:q.2.2.2 with
  | none=>exact absurd e (h.b q hq (.inr ⟨a,b⟩))
  | some c =>
   have:=f.b q hq c e
   have no:¬ 0 < c - u q.1:=fun k=>a (fu q.2.1 q.1 q.2.2.1 ⟨q,hq,rfl,.inl ⟨rfl,rfl,fun c' hc=>by rw [e] at hc;cases hc;exact k⟩⟩ b)
   show (1 - 0) * u q.1=c
   omega
 ·rw [a1a a,a1a b,if_neg (by simp [a,b])];omega
structure a81 (lm:Lms) (S T X:List Str):Prop where
 ok:a8X lm S T X
 least:∀ Y,a8X lm S T Y→a6Q lm X≤a6Q lm Y∧(a6Q lm X=a6Q lm Y→∀ z∈X,z∈Y)
theorem a81.uniq {S:List Str} (h:a81 lm S T X) (k:a81 lm S T Y):∀ z,z∈X↔z∈Y:=by
 have a:=h.least Y k.ok
 have b:=k.least X h.ok
 have e:a6Q lm X=a6Q lm Y:=by have:=a.1;have:=b.1;omega
 exact fun z=>⟨a.2 e z,b.2 e.symm z⟩
end
structure Rw where
 pos:Str
 home:Str
 jobs:List Str
 at_:Addr
 marks:List Str
structure Bo where
 rows:List (Str × Rw)
 crews:List (Str × List Str)
 sk:List Str
 fa:List (Str × Unit)
inductive Rb where
 | there (z:Str) | lacks (z:Str) | many (n:Int) | inuse (z:Str) | held (hs:List Str) | stuck (z:Str) | wrong (i:Int) | notnow (z:Str) | nopart (ws:List Str) | notdry (rs:List Str)
def Rb.cls:Rb→Str
 | .there _ => "There" | .lacks _ => "Lacks" | .many _ => "TooMany" | .inuse _ => "InUse" | .held _ => "Held" | .stuck _ => "Stuck" | .wrong _ => "Wrong" | .notnow _ => "NotNow" | .nopart _ => "NoPart" | .notdry _ => "NotDry"
def Rb.v:Rb→D
 | .there z=>.str z | .lacks z=>.str z | .many n=>.int n | .inuse z=>.str z | .held hs=>.lst (hs.map D.str) | .stuck z=>.str z | .wrong i=>.int i | .notnow z=>.str z | .nopart ws=>.lst (ws.map D.str) | .notdry rs=>.lst (rs.map D.str)
def Rb.fs:Rb→List (Str × D)
 | .there z=>[("name",.str z)] | .lacks z=>[("name",.str z)] | .many n=>[("most",.int n)] | .inuse z=>[("name",.str z)] | .held hs=>[("hands",.lst (hs.map D.str))] | .stuck z=>[("name",.str z)] | .wrong i=>[("at",.int i)] | .notnow z=>[("job",.str z)] | .nopart ws=>[("way",.lst (ws.map D.str))] | .notdry rs=>[("damp",.lst (rs.map D.str))]
inductive Db where
 | add (z pos:Str) | take (z:Str) | crew (j:Str) (hs:List Str) | leave (j:Str) | turn (z pos:Str) | stick (z:Str) | mend (z:Str) | hold (z pos j:Str) | free (z j:Str)
def a1L (zs:List Str):D:=.lst (zs.map D.str)
def Db.d:Db→D
 | .add z pos=>.tup [.str "add",.str z,.str pos]
 | .take z=>.tup [.str "take",.str z]
 | .crew j hs=>.tup [.str "crew",.str j,a1L hs]
 | .leave j=>.tup [.str "leave",.str j]
 | .turn z pos=>.tup [.str "turn",.str z,.str pos]
 | .stick z=>.tup [.str "stick",.str z]
 | .mend z=>.tup [.str "mend",.str z]
 | .hold z pos j=>.tup [.str "hold",.str z,.str pos,.str j]
 | .free z j=>.tup [.str "free",.str z,.str j]
def PS (z:Str):Prop:=z = "open" ∨ z = "shut"
def b3G (hs:List Str):Prop:=hs≠[]∧hs.length≤6∧hs.Nodup∧∀ z∈hs,Nm z
def Db.Ok:Db→Prop
 | .add z pos=>Nm z∧PS pos
 | .take z=>Nm z
 | .crew j hs=>Nm j∧b3G hs
 | .leave j=>Nm j
 | .turn z pos=>Nm z∧PS pos
 | .stick z=>Nm z | .mend z=>Nm z
 | .hold z pos j=>Nm z∧PS pos∧Nm j
 | .free z j=>Nm z∧Nm j
def a4z (w:Bo) (j:Str):List Str:=(w.crews.lookup j).getD []
def a6W (w:Bo) (js:List Str):List Str:=a1e (uniq (js.map (a4z w)).flatten)
def c1r (w:Bo) (js:List Str):Option Rb:=if js=[] then none else some (.held (a6W w js))
def a7X (w:Bo) (z:Str) (r:Rw) (pos:Str) (others:List Str):Option Rb :=
 if r.pos=pos then none else if others=[] then (if z∈w.sk then some (.stuck z) else none) else some (.held (a6W w others))
def a6E (w:Bo) (z:Str) (k:Rw→Option Rb):Option Rb:=match w.rows.lookup z with
 | some r=>k r
 | none=>some (.lacks z)
def a5I (w:Bo) (j:Str) (k:Option Rb):Option Rb:=if j∈nms w.crews then k else some (.lacks j)
def a1D (w:Bo):Db→Option Rb
 | .add z _=>if z∈nms w.rows then some (.there z) else if w.rows.length=52 then some (.many 52) else none
 | .take z=>a6E w z fun r=>c1r w r.jobs
 | .crew j _=>if j∉nms w.crews∧w.crews.length=8 then some (.many 8) else none
 | .leave j=>a5I w j (if ∃ q∈w.rows,j∈q.2.jobs then some (.inuse j) else none)
 | .turn z pos=>a6E w z fun r=>if r.jobs=[] then a7X w z r pos [] else some (.held (a6W w r.jobs))
 | .stick z=>a6E w z fun _=>none
 | .mend z=>a6E w z fun _=>none
 | .hold z pos j=>a6E w z fun r=>a5I w j (a7X w z r pos (r.jobs.filter fun i=>decide (i≠j)))
 | .free z j=>a6E w z fun r=>a5I w j (if r.jobs=[j] then a7X w z r r.home [] else none)
def a2H {α:Type} (l:List (Str × α)) (z:Str) (g:α→α):List (Str × α):=l.map fun q=>if q.1=z then (q.1,g q.2) else q
def putL {α:Type} (l:List (Str × α)) (z:Str) (x:α):List (Str × α):=if z∈nms l then a2H l z fun _=>x else l ++ [(z,x)]
def a9O (zs:List Str) (z:Str):List Str:=if z∈zs then zs else zs ++ [z]
def a3P (zs:List Str) (z:Str):List Str:=zs.filter fun y=>decide (y≠z)
def a7k (pos:Str) (r:Rw):Rw:={ r with pos:=pos,home:=pos,jobs:=[] }
def a3f (pos j:Str) (r:Rw):Rw:={ r with pos:=pos,jobs:=a3P r.jobs j ++ [j],marks:=a9O r.marks j }
def a2S (j:Str) (r:Rw):Rw:={ r with pos:=if r.jobs=[j] then r.home else r.pos,jobs:=a3P r.jobs j,marks:=a3P r.marks j }
def doB (w:Bo) (p:Addr):Db→Bo
 | .add z pos=>{ w with rows:=w.rows ++ [(z,⟨pos,pos,[],p,[]⟩)] }
 | .take z=>{ w with rows:=without w.rows z,sk:=a3P w.sk z,fa:=without w.fa z }
 | .crew j hs=>{ w with crews:=putL w.crews j hs }
 | .leave j=>{ w with crews:=without w.crews j }
 | .turn z pos=>{ w with rows:=a2H w.rows z (a7k pos) }
 | .stick z=>{ w with sk:=a3P w.sk z ++ [z],fa:=putL w.fa z () }
 | .mend z=>{ w with sk:=a3P w.sk z,fa:=without w.fa z }
 | .hold z pos j=>{ w with rows:=a2H w.rows z (a3f pos j) }
 | .free z j=>{ w with rows:=a2H w.rows z (a2S j) }
structure b5V (w:Bo) (z:Str) (r:Rw):Prop where
 z:Nm z
 pos:PS r.pos
 home:PS r.home
 ju:r.jobs.Nodup
 jc:∀ j∈r.jobs,j∈nms w.crews
 mp:r.marks.Perm r.jobs
structure a1W (w:Bo):Prop where
 r:w.rows.length≤52
 ru:(nms w.rows).Nodup
 rw_:∀ q∈w.rows,b5V w q.1 q.2
 c:w.crews.length≤8
 cu:(nms w.crews).Nodup
 cw:∀ q∈w.crews,Nm q.1∧b3G q.2
 su:w.sk.Nodup
 ss:∀ z∈w.sk,z∈nms w.rows
 fu:(nms w.fa).Nodup
 fs:∀ z,z∈nms w.fa↔z∈w.sk
theorem a00 {α:Type} {l:List (Str × α)} {z:Str} {g:α→α}:nms (a2H l z g)=nms l:=by
 unfold nms a2H
 rw [zat]
 refine List.map_congr_left fun q _=>?_
 show (if q.1=z then (q.1,g q.2) else q).1=q.1
 split <;> rfl
theorem a68 {α:Type} {l m:List (Str × α)}:nms (l ++ m)=nms l ++ nms m:=by unfold nms;rw [zav]
theorem a5j {α:Type} {l:List (Str × α)} {z:Str} {g:α→α}:(a2H l z g).length=l.length:=by unfold a2H;rw [zag]
theorem a1c {α:Type} {l:List (Str × α)} {z:Str} {g:α→α} {q:Str × α} (h:q∈a2H l z g):∃ q0∈l,q0.1=q.1∧((q0.1=z∧q.2=g q0.2)∨(q0.1≠z∧q=q0)):=by
 obtain ⟨q0,h0,rfl⟩:=zan.mp h
 refine ⟨q0,h0,?_⟩
 by_cases e:q0.1=z
 ·rw [if_pos e];exact ⟨rfl,.inl ⟨e,rfl⟩⟩
 ·rw [if_neg e];exact ⟨rfl,.inr ⟨e,rfl⟩⟩
theorem a3M {α:Type} {l:List (Str × α)} {z:Str} {x:α}:nms (putL l z x)=if z∈nms l then nms l else nms l ++ [z]:=by
 unfold putL
 split
 ·exact a00
 ·exact a68
theorem b3w {α:Type} {l:List (Str × α)} {z:Str} {x:α} (u:(nms l).Nodup):(nms (putL l z x)).Nodup:=by
 rw [a3M]
 split
 ·exact u
 ·rename_i h
  refine List.nodup_append.mpr ⟨u,by simp,fun a ha b hb e=>h ?_⟩
  rw [← zaj.mp hb,← e]
  exact ha
theorem a0C {zs:List Str} {z y:Str}:y∈a3P zs z↔y∈zs∧y≠z:=by
 unfold a3P
 rw [zay,zah]
theorem a2d {zs:List Str} {z:Str} (u:zs.Nodup):(a3P zs z ++ [z]).Nodup:=by
 refine List.nodup_append.mpr ⟨u.filter _,by simp,fun a ha b hb e=>(a0C.mp ha).2 ?_⟩
 rw [e,zaj.mp hb]
theorem b4m {zs:List Str} {z:Str} (u:zs.Nodup):(a9O zs z).Nodup:=by
 unfold a9O
 split
 ·exact u
 ·rename_i h
  refine List.nodup_append.mpr ⟨u,by simp,fun a ha b hb e=>h ?_⟩
  rw [← zaj.mp hb,← e]
  exact ha
theorem b1H {zs:List Str} {z y:Str}:y∈a9O zs z↔y∈zs∨y=z:=by
 unfold a9O
 split
 ·rename_i h
  exact ⟨.inl,fun q=>q.elim id fun e=>e ▸ h⟩
 ·rw [zap,zaj]
theorem a1x {α:Type} {l:List (Str × α)} {z:Str} {x:α} (h:l.lookup z=some x):(z,x)∈l:=by
 induction l with
 | nil=>cases h
 | cons q l ih =>
  rw [List.lookup_cons] at h
  split at h
  ·rename_i e
   have e:z=q.1:=by simpa using e
   cases h
   rw [e]
   exact zal
  ·exact zao _ (ih h)
theorem look_none {α:Type} {l:List (Str × α)} {z:Str} (h:l.lookup z=none):z∉nms l:=by
 induction l with
 | nil=>exact zba
 | cons q l ih =>
  rw [List.lookup_cons] at h
  split at h
  ·cases h
  ·rename_i e
   intro hm
   rcases zau.mp hm with e2 | hm
   ·rw [e2] at e;simp at e
   ·exact ih h hm
theorem b3y {w:Bo} {z:Str} {r:Rw} (h:w.rows.lookup z=some r):z∈nms w.rows:=zan.mpr ⟨_,a1x h,rfl⟩
theorem b07 {α:Type}:∀ {l:List (Str × α)} {z:Str} {x y:α},(nms l).Nodup→(z,x)∈l→(z,y)∈l→x=y
 | [],_,_,_,_,h,_=>nomatch h
 | q :: l,z,x,y,u,h1,h2=>by
  obtain ⟨n,u⟩:=zbd.mp (show (q.1 :: nms l).Nodup from u)
  rcases zau.mp h1 with e1 | h1 <;> rcases zau.mp h2 with e2 | h2
  ·exact (Prod.mk.inj (e1.trans e2.symm)).2
  ·exact absurd (zan.mpr ⟨_,h2,rfl⟩:z∈nms l) (by rw [show z=q.1 from (congrArg Prod.fst e1)];exact n)
  ·exact absurd (zan.mpr ⟨_,h1,rfl⟩:z∈nms l) (by rw [show z=q.1 from (congrArg Prod.fst e2)];exact n)
  ·exact b07 u h1 h2
theorem a1W.doB {w:Bo} {e:Db} {p:Addr} (h:a1W w) (ok:e.Ok) (due:a1D w e=none):a1W (doB w p e):=by
 have keep:∀ {w':Bo},(∀ j,j∈nms w.crews→j∈nms w'.crews)→∀ {z r},b5V w z r→b5V w' z r:=fun {w'} k {z r} q=>⟨q.z,q.pos,q.home,q.ju,fun j hj=>k j (q.jc j hj),q.mp⟩
 cases e with
 | add z pos =>
  simp only [a1D] at due
  split at due
  ·cases due
  ·rename_i new
   split at due
   ·cases due
   ·rename_i few
    have hr:=h.r
    refine ⟨by show (w.rows ++ _).length≤52;rw [zaw];show w.rows.length + 1≤52;omega,?_,fun q hq=>?_,h.c,h.cu,h.cw,h.su,fun y hy=>?_,h.fu,h.fs⟩
    ·show (nms (w.rows ++ [_])).Nodup
     rw [a68]
     refine List.nodup_append.mpr ⟨h.ru,by simp [nms],fun a ha b hb e=>new ?_⟩
     have hb:b=z:=by simpa [nms] using hb
     rw [← hb,← e]
     exact ha
    ·rcases zap.mp hq with hq | hq
     ·exact keep (w':=Cl.doB w p (.add z pos)) (fun _ h=>h) (h.rw_ q hq)
     ·cases zaj.mp hq
      exact ⟨ok.1,ok.2,ok.2,List.nodup_nil,(fun _ h=>nomatch h),.nil⟩
    ·show y∈nms (w.rows ++ [_])
     rw [a68]
     exact zar _ (h.ss y hy)
 | take z =>
  refine ⟨Nat.le_trans a4l h.r,by show (nms (without w.rows z)).Nodup;rw [a0x];exact h.ru.filter _,fun q hq=>keep (w':=Cl.doB w p (.take z)) (fun _ h=>h) (h.rw_ q (a4m hq)),h.c,h.cu,h.cw,h.su.filter _,fun y hy=>?_,by show (nms (without w.fa z)).Nodup;rw [a0x];exact h.fu.filter _,fun y=>?_⟩
  ·obtain ⟨h1,h2⟩:=a0C.mp hy
   show y∈nms (without w.rows z)
   rw [a0x,zay,zah]
   exact ⟨h.ss y h1,h2⟩
  ·show y∈nms (without w.fa z)↔y∈a3P w.sk z
   rw [a0x,zay,zah,a0C,h.fs]
 | crew j hs =>
  simp only [a1D] at due
  split at due
  ·cases due
  ·rename_i few
   have hc:=h.c
   refine ⟨h.r,h.ru,fun q hq=>keep (fun i hi=>?_) (h.rw_ q hq),?_,b3w h.cu,fun q hq=>?_,h.su,h.ss,h.fu,h.fs⟩
   ·show i∈nms (putL w.crews j hs)
    rw [a3M]
    split
    ·exact hi
    ·exact zar _ hi
   ·show (putL w.crews j hs).length≤8
    unfold putL
    split
    ·rw [a5j];exact hc
    ·rename_i new
     rw [zaw]
     show w.crews.length + 1≤8
     have:w.crews.length≠8:=fun e=>few ⟨new,e⟩
     omega
   ·have hq:q∈putL w.crews j hs:=hq
    unfold putL at hq
    split at hq
    ·obtain ⟨q0,h0,e,⟨_,e2⟩ | ⟨_,e2⟩⟩:=a1c hq
     ·rw [← e,e2];exact ⟨(h.cw q0 h0).1,ok.2⟩
     ·rw [e2];exact h.cw q0 h0
    ·rcases zap.mp hq with hq | hq
     ·exact h.cw q hq
     ·cases zaj.mp hq;exact ok
 | leave j =>
  simp only [a1D,a5I] at due
  split at due
  ·split at due
   ·cases due
   ·rename_i no
    refine ⟨h.r,h.ru,fun q hq=>?_,Nat.le_trans a4l h.c,by show (nms (without w.crews j)).Nodup;rw [a0x];exact h.cu.filter _,fun q hq=>h.cw q (a4m hq),h.su,h.ss,h.fu,h.fs⟩
    obtain ⟨a,b,c,d,e,f⟩:=h.rw_ q hq
    refine ⟨a,b,c,d,fun i hi=>?_,f⟩
    show i∈nms (without w.crews j)
    rw [a0x,zay,zah]
    exact ⟨e i hi,fun z=>no ⟨q,hq,z ▸ hi⟩⟩
  ·cases due
 | turn z pos =>
  simp only [a1D,a6E] at due
  split at due
  ·rename_i r look
   split at due
   ·rename_i nj
    refine ⟨by show (a2H w.rows z (a7k pos)).length≤52;rw [a5j];exact h.r,by show (nms (a2H w.rows z (a7k pos))).Nodup;rw [a00];exact h.ru,fun q hq=>?_,h.c,h.cu,h.cw,h.su,fun y hy=>by show y∈nms (a2H w.rows z (a7k pos));rw [a00];exact h.ss y hy,h.fu,h.fs⟩
    obtain ⟨q0,h0,e,⟨e1,e2⟩ | ⟨_,e2⟩⟩:=a1c (show q∈a2H w.rows z (a7k pos) from hq)
    ·obtain ⟨a,b,c,d,e',f⟩:=h.rw_ q0 h0
     have same:q0.2=r:=by
      have u:=h.ru
      have:=a1x look
      rw [← e1] at this
      have h2:(q0.1,q0.2)∈w.rows:=h0
      exact b07 u h2 this
     rw [← e,e2]
     refine ⟨a,ok.2,ok.2,List.nodup_nil,(fun _ h=>nomatch h),?_⟩
     show q0.2.marks.Perm []
     rw [same] at f ⊢
     rw [nj] at f
     exact f
    ·rw [e2];exact keep (w':=Cl.doB w p (.turn z pos)) (fun _ h=>h) (h.rw_ q0 h0)
   ·cases due
  ·cases due
 | stick z =>
  simp only [a1D,a6E] at due
  split at due
  ·rename_i r look
   refine ⟨h.r,h.ru,fun q hq=>keep (w':=Cl.doB w p (.stick z)) (fun _ h=>h) (h.rw_ q hq),h.c,h.cu,h.cw,a2d h.su,fun y hy=>?_,b3w h.fu,fun y=>?_⟩
   ·rcases zap.mp hy with hy | hy
    ·exact h.ss y (a0C.mp hy).1
    ·rw [zaj.mp hy];exact b3y look
   ·show y∈nms (putL w.fa z ())↔y∈a3P w.sk z ++ [z]
    rw [a3M,zap,zaj,a0C]
    split
    ·rename_i hz
     rw [h.fs y]
     constructor
     ·intro hy
      by_cases e:y=z
      ·exact .inr e
      ·exact .inl ⟨hy,e⟩
     ·rintro (⟨hy,_⟩ | rfl)
      ·exact hy
      ·exact (h.fs y).mp hz
    ·rw [zap,zaj,h.fs y]
     constructor
     ·rintro (hy | e)
      ·by_cases e:y=z
       ·exact .inr e
       ·exact .inl ⟨hy,e⟩
      ·exact .inr e
     ·rintro (⟨hy,_⟩ | e)
      ·exact .inl hy
      ·exact .inr e
  ·cases due
 | mend z =>
  refine ⟨h.r,h.ru,fun q hq=>keep (w':=Cl.doB w p (.mend z)) (fun _ h=>h) (h.rw_ q hq),h.c,h.cu,h.cw,h.su.filter _,fun y hy=>h.ss y (a0C.mp hy).1,by show (nms (without w.fa z)).Nodup;rw [a0x];exact h.fu.filter _,fun y=>?_⟩
  show y∈nms (without w.fa z)↔y∈a3P w.sk z
  rw [a0x,zay,zah,a0C,h.fs]
 | hold z pos j =>
  simp only [a1D,a6E,a5I] at due
  split at due
  ·split at due
   ·rename_i hj
    refine ⟨by show (a2H w.rows z (a3f pos j)).length≤52;rw [a5j];exact h.r,by show (nms (a2H w.rows z (a3f pos j))).Nodup;rw [a00];exact h.ru,fun q hq=>?_,h.c,h.cu,h.cw,h.su,fun y hy=>by show y∈nms (a2H w.rows z (a3f pos j));rw [a00];exact h.ss y hy,h.fu,h.fs⟩
    obtain ⟨q0,h0,e,⟨e1,e2⟩ | ⟨_,e2⟩⟩:=a1c (show q∈a2H w.rows z (a3f pos j) from hq)
    ·obtain ⟨a,b,c,d,e',f⟩:=h.rw_ q0 h0
     rw [← e,e2]
     refine ⟨a,ok.2.1,c,a2d d,fun i hi=>?_,?_⟩
     ·rcases zap.mp hi with hi | hi
      ·exact e' i (a0C.mp hi).1
      ·rw [zaj.mp hi];exact hj
     ·refine (List.perm_ext_iff_of_nodup (b4m (f.nodup_iff.mpr d)) (a2d d)).mpr fun i=>?_
      rw [b1H,f.mem_iff,zap,zaj,a0C]
      constructor
      ·rintro (hi | e)
       ·by_cases e:i=j
        ·exact .inr e
        ·exact .inl ⟨hi,e⟩
       ·exact .inr e
      ·rintro (⟨hi,_⟩ | e)
       ·exact .inl hi
       ·exact .inr e
    ·rw [e2];exact keep (w':=Cl.doB w p (.hold z pos j)) (fun _ h=>h) (h.rw_ q0 h0)
   ·cases due
  ·cases due
 | free z j =>
  refine ⟨by show (a2H w.rows z (a2S j)).length≤52;rw [a5j];exact h.r,by show (nms (a2H w.rows z (a2S j))).Nodup;rw [a00];exact h.ru,fun q hq=>?_,h.c,h.cu,h.cw,h.su,fun y hy=>by show y∈nms (a2H w.rows z (a2S j));rw [a00];exact h.ss y hy,h.fu,h.fs⟩
  obtain ⟨q0,h0,e,⟨e1,e2⟩ | ⟨_,e2⟩⟩:=a1c (show q∈a2H w.rows z (a2S j) from hq)
  ·obtain ⟨a,b,c,d,e',f⟩:=h.rw_ q0 h0
   rw [← e,e2]
   refine ⟨a,?_,c,d.filter _,fun i hi=>e' i (a0C.mp hi).1,f.filter _⟩
   show PS (if q0.2.jobs=[j] then q0.2.home else q0.2.pos)
   split
   ·exact c
   ·exact b
  ·rw [e2];exact keep (w':=Cl.doB w p (.free z j)) (fun _ h=>h) (h.rw_ q0 h0)
theorem a2q {α:Type} {l:List (Str × α)} {z:Str} (h:z∈nms l):∃ x,l.lookup z=some x:=by
 cases e:l.lookup z with
 | none=>exact absurd h (look_none e)
 | some x=>exact ⟨x,rfl⟩
theorem a1W.crew {w:Bo} (h:a1W w) {j:Str} (hj:j∈nms w.crews):w.crews.lookup j=some (a4z w j)∧b3G (a4z w j):=by
 obtain ⟨hs,e⟩:=a2q hj
 unfold a4z
 rw [e]
 exact ⟨rfl,(h.cw _ (a1x e)).2⟩
theorem a1W.row {w:Bo} (h:a1W w) {z:Str} {r:Rw} (e:w.rows.lookup z=some r):b5V w z r:=h.rw_ _ (a1x e)
abbrev lc (K:zbj):Addr:=He.ga K "Layout"
abbrev gr (K:zbj) (r:Rf):Addr:=He.ga K r.cls
def Ends (K0:zbj) (o:Option Rf) (Y:XK') (S:SS) (P:Prop):Prop:=match o with
 | some r=>Y (gr K0 r) r.fs S
 | none=>P
def next (st:Lay) (w:b2V):Lay:=match due st w with
 | some _=>st
 | none=>c5m st w
def mW (w:Wo) (e f:Addr):List (Key × D):=[(.inr "rooms",.lst ((a1e w.rooms).map D.str)),(.inr "drawn",.lst (w.rooms.map D.str)),(.inr "lines",.obj e),(.inr "sources",.lst (w.srcs.map D.str))]
structure MW (S:SS) (M e f:Addr) (w:Wo):Prop where
 Me:M≠e
 M:S M=some (.dic (mW w e f))
 e:S e=some (.dic (a1t fL w.lines))
def Grows (S S':SS):Prop:=∀ q,S q≠none→S' q=S q
structure a5E (C:Addr) (S:SS) (L a b c d:Addr) (st:Lay):Prop where
 s:b1k C S L a b c d st
 ab:a≠b
 ac:a≠c
 ad:a≠d
 bc:b≠c
 bd:b≠d
 cd:c≠d
def a2G (w:Wo):List Str:=nms (w.lines.filter fun q=>decide (0 < q.2.2.2))
structure b5P (rs zs:List Str) (ls:List (Str × Str × Str × Int)):Prop where
 u:(nms ls).Nodup
 few:ls.length≤zs.length
 one:∀ q∈ls,q.1∈zs∧q.2.1∈rs∧q.2.2.1∈rs∧q.2.2.1≠q.2.1∧0≤q.2.2.2∧q.2.2.2≤99
def b5M (w:Wo) (shut rs:List Str):Prop:=(∀ z∈shut,z∈a2G w)∧shut.Nodup∧shut.length≤40∧(∀ z∈rs,z∈w.rooms)∧rs.Nodup∧rs.length≤24
def b1l (w:Wo) (shut:List Str) (R:List (Str × Nat)) (d:Nat) (z l y:Str):Prop:=(∃ q∈w.lines,q.1=l∧a4P q z y)∧l∉shut∧(y,d)∈R∧∀ q∈w.lines,q.1∉shut→∀ y',a4P q z y'→(y',d)∈R→leS l q.1=true
inductive a5A (w:Wo) (shut:List Str) (R:List (Str × Nat)):Nat→Str→List Str→Prop where
 | zero {z:Str}:(z,0)∈R→a5A w shut R 0 z [z]
 | succ {d:Nat} {z l y:Str} {t:List Str}:(z,d + 1)∈R→b1l w shut R d z l y→a5A w shut R d y t→a5A w shut R (d + 1) z (z :: l :: t)
def a8Z (w:Wo) (R:List (Str × Nat)) (n:Nat) (s:Str):Prop:=s∈w.srcs∧(s,n)∈R∧∀ s' n',s'∈w.srcs→(s',n')∈R→n < n'∨(n=n'∧leS s s'=true)
structure b1j (w:Wo) (shut:List Str) (R:List (Str × Nat)) (t:Nat) (B:List (Str × List Str)):Prop where
 u:(nms B).Nodup
 mem:∀ z ws,(z,ws)∈B↔∃ d,d≤t∧(z,d)∈R∧a5A w shut R d z ws
def prD (x:Str × Str):D:=.tup [.str x.1,.str x.2]
abbrev ArL:=List (Str × Addr × List (Str × Str))
structure a4p (S:SS) (A:Addr) (R:Str→Str→Str→Prop) (n:Nat) (al:ArL):Prop where
 top:S A=some (.dic (a1t D.obj (al.map fun q=>(q.1,q.2.1))))
 u:(nms al).Nodup
 few:al.length≤n
 at_:∀ q∈al,S q.2.1=some (.lst (q.2.2.map prD))
 len:∀ q∈al,q.2.2.length≤n
 ad:(A :: al.map fun q=>q.2.1).Nodup
 mem:∀ r x y,R r x y↔∃ q∈al,q.1=r∧(x,y)∈q.2.2
 nm:∀ q∈al,Nm q.1∧∀ x∈q.2.2,Nm x.1∧Nm x.2
structure a7r (R:Str→Str→Str→Prop) (srcs:List Str) (cm:List (Str × Option (Str × Str))):Prop where
 u:(nms cm).Nodup
 root:∀ r,(r,none)∈cm→r∈srcs
 par:∀ (i:Nat) r l a,cm[i]?=some (r,some (l,a))→R a l r∧∃ j o,j < i∧cm[j]?=some (a,o)
def a2N:TR:=fun m ds S K Y=>m=none∧∃ b c n,ds=[.obj b,.int n]∧0≤n∧n≤51∧S b=some c∧a0I c∧∀ (zs:List Str) c',(zs.length:Int)=n→(∀ z∈zs,Nm z)→zs.Nodup→a0I c'→K (.lst (zs.map D.str)) (S.set b c')
abbrev bc (K:zbj):Addr:=He.ga K "Board"
structure BdA where
 (L a b c d e:Addr)
def c5L (C:Addr) (A:BdA):Cell:=.ins C [("stand_of",.obj A.a),("home_of",.obj A.b),("fast",.obj A.c),("marks_of",.obj A.d),("crew_rows",.obj A.e)]
def c6d (r:Rw):D:=.str r.pos
def c1s (r:Rw):D:=.str r.home
def atD (r:Rw):D:=.obj r.at_
def bl (A:BdA) (w:Bo):List Addr:=[A.L,A.a,A.b,A.c,A.d,A.e] ++ w.rows.map fun q=>q.2.at_
structure BdS (C:Addr) (S:SS) (A:BdA) (w:Bo):Prop where
 L:S A.L=some (c5L C A)
 a:S A.a=some (.dic (a1t c6d w.rows))
 b:S A.b=some (.dic (a1t c1s w.rows))
 c:S A.c=some (.dic (a1t fU w.fa))
 d:S A.d=some (.dic (a1t atD w.rows))
 e:S A.e=some (.dic (a1t a1L w.crews))
 ms:∀ q∈w.rows,S q.2.at_=some (.dic (a1t fU (units q.2.marks)))
 nd:(bl A w).Nodup
def Keeps (A:BdA) (w:Bo) (S S':SS):Prop:=∀ q,q∉bl A w→S' q=S q
def b2X (r:Rw) (x:D) (js:List Str):Prop:=(x=.non∧js=r.jobs)∨∃ j,x=.str j∧Nm j∧js=r.jobs.filter fun i=>decide (i≠j)
def bo0:Bo:=⟨[],[],[],[]⟩
def Db.In (p1 p2:List Str):Db→Prop
 | .add z _=>z∈p1 | .take z=>z∈p1 | .crew j _=>j∈p2 | .leave j=>j∈p2 | .turn z _=>z∈p1 | .stick z=>z∈p1 | .mend z=>z∈p1 | .hold z _ j=>z∈p1∧j∈p2 | .free z j=>z∈p1∧j∈p2
abbrev jc (K:zbj):Addr:=He.ga K "Job"
structure Jb where
 (named:Str) (about:List Str) (now:Str) (ending:Bool) (cutting emptying:List Str)
def b9f (C L:Addr) (J:Jb):Cell:=.ins C [("at_board",.obj L),("named",.str J.named),("about",a1L J.about),("now",.str J.now),("ending",.bl J.ending),("cutting",a1L J.cutting),("emptying",a1L J.emptying)]
def rowAt (w:Bo) (z:Str):Rw:=(w.rows.lookup z).getD ⟨"", "",[],0,[]⟩
def posAt (w:Bo) (z:Str):Str:=(rowAt w z).pos
def b7h (w:Bo) (z:Str):Str:=(rowAt w z).home
def a0X (w:Bo) (z:Str):List Str:=(rowAt w z).jobs
def a1h (w:Bo) (J:Jb):List Str:=if J.now = "ended" then [] else a4z w J.named
def PHJ:List Str:=["by", "still", "given", "trial", "away", "ended"]
def a2M (zs:List Str):Prop:=zs≠[]∧zs.length≤24∧zs.Nodup∧∀ z∈zs,Nm z
structure a06 (w:Bo) (J:Jb):Prop where
 nm:Nm J.named
 ph:J.now∈PHJ
 cu:J.cutting.Nodup
 eu:J.emptying.Nodup
 ap:∀ z∈J.emptying,z∉J.cutting
 dv:∀ z,z∈J.cutting∨z∈J.emptying→z∈nms w.rows
 cw:J.now ≠ "ended" → J.named∈nms w.crews
 tg:J.now ≠ "ended" → ∀ q∈w.rows,J.named∈q.2.jobs→q.1∈J.cutting∨q.1∈J.emptying
 by_:J.now = "by" ∨ J.now = "ended" → J.cutting=[]∧J.emptying=[]
 ab:a2M J.about
def a4N (J:Jb):List (Str × Str):=(J.cutting.map fun z=>(z,("shut" : Str))) ++ J.emptying.map fun z=>(z,("open" : Str))
def a6u (w:Bo) (J:Jb):List (Str × Str):=(J.emptying.reverse.map fun z=>(z,("shut" : Str))) ++ J.cutting.reverse.map fun z=>(z,b7h w z)
def a0y (w:Bo) (J:Jb) (z pos:Str):Bool:=decide (posAt w z=pos) && decide (J.named∈a0X w z)
structure Beh (w:Bo) (J:Jb):Prop where
 i1:∀ z∈J.emptying,a0y w J z "open" = true→∀ y∈J.cutting,a0y w J y "shut" = true
 i2:J.now = "given" → (∀ y∈J.cutting,a0y w J y "shut" = true)∧∀ z∈J.emptying,a0y w J z "open" = true
def toS (l:List (Str × Str)):List (Str × Option Str):=l.map fun q=>(q.1,some q.2)
def a8f (w:Bo) (J:Jb):List (Str × Option Str):=toS ((a4N J).filter fun q=>!a0y w J q.1 q.2)
def b00 (w:Bo) (J:Jb):List (Str × Option Str):=toS ((a6u w J).filter fun q=>!decide (posAt w q.1=q.2))
def a9j (w:Bo) (J:Jb):List (Str × Option Str):=((J.emptying.reverse ++ J.cutting.reverse).filter fun z=>decide (J.named∈a0X w z)).map fun z=>(z,none)
def a0V (w:Bo) (J:Jb):List (Str × Option Str):=if J.now = "still" then a8f w J else if J.now = "trial" then b00 w J else if J.now = "away" then a9j w J else []
inductive Dj where
 | begin (sw dr:List Str) | step | give | tryOut | goOn | putBy | end_ | signOn (h:Str) | signOff (h:Str) | handOver (a b:Str)
def Dj.Ok:Dj→Prop
 | .begin sw dr=>(sw.Nodup∧(∀ z∈sw,Nm z)∧sw.length≤60)∧(dr.Nodup∧(∀ z∈dr,Nm z)∧dr.length≤60)∧∀ z∈dr,z∉sw
 | .signOn h=>Nm h | .signOff h=>Nm h | .handOver a b=>Nm a∧Nm b | _=>True
def phJ (J:Jb) (l:List Str) (k:Option Rb):Option Rb:=if J.now∈l then k else some (.notnow J.named)
def a9c (w:Bo) (J:Jb):Option Rb:=if (a1h w J).drop 1=[] then none else some (.held (a1e ((a1h w J).drop 1)))
def a6X (w:Bo) (J:Jb):Option Rb:=match a0V w J with
 | []=>some (.notnow J.named)
 | (z,none) :: _=>a1D w (.free z J.named)
 | (z,some pos) :: _=>a1D w (.hold z pos J.named)
def b1U (w:Bo):List Str→Option Rb
 | []=>none
 | z :: l=>if z∈nms w.rows then b1U w l else some (.lacks z)
def b6X (w:Bo) (J:Jb):Dj→Option Rb
 | .begin sw dr=>phJ J ["by"] (b1U w (sw ++ dr))
 | .step=>a6X w J
 | .give=>phJ J ["still"] (if a0V w J=[] then none else some (.notnow J.named))
 | .tryOut=>phJ J ["given"] (a9c w J)
 | .goOn=>phJ J ["trial"] none
 | .putBy=>phJ J ["still", "given", "trial"] (a9c w J)
 | .end_=>phJ J ["by", "still", "given", "trial"] (a9c w J)
 | .signOn h=>phJ J ["given"] (if h∈a1h w J then some (.there h) else if 6≤(a1h w J).length then some (.many 6) else none)
 | .signOff h=>phJ J ["given"] (if h∉a1h w J then some (.lacks h) else if (a1h w J).length=1 then some (.notnow J.named) else none)
 | .handOver a b=>phJ J ["by", "still", "given", "trial", "away"] (if a∉a1h w J then some (.lacks a) else if b∈a1h w J then some (.there b) else none)
def a0H (w:Bo) (J:Jb):Bo × Jb:=if J.now = "away" ∧ a0V w J=[] then (if J.ending=true then (doB w 0 (.leave J.named),{ J with now := "ended",cutting:=[],emptying:=[] }) else (w,{ J with now := "by",cutting:=[],emptying:=[] })) else (w,J)
def a4t (w:Bo) (J:Jb):Bo:=match a0V w J with
 | []=>w
 | (z,none) :: _=>doB w 0 (.free z J.named)
 | (z,some pos) :: _=>doB w 0 (.hold z pos J.named)
def doJ (w:Bo) (J:Jb):Dj→Bo × Jb
 | .begin sw dr=>(w,{ J with cutting:=sw,emptying:=dr,now := "still" })
 | .step=>a0H (a4t w J) J
 | .give=>(w,{ J with now := "given" })
 | .tryOut=>(w,{ J with now := "trial" })
 | .goOn=>(w,{ J with now := "still" })
 | .putBy=>a0H w { J with ending:=false,now := "away" }
 | .end_=>a0H w { J with ending:=true,now := "away" }
 | .signOn h=>(doB w 0 (.crew J.named (a1h w J ++ [h])),J)
 | .signOff h=>(doB w 0 (.crew J.named (a3P (a1h w J) h)),J)
 | .handOver a b=>(doB w 0 (.crew J.named ((a1h w J).map fun x=>if x=a then b else x)),J)
structure JbS (K0:zbj) (S:SS) (A:BdA) (w:Bo) (p:Addr) (J:Jb):Prop where
 bd:BdS (bc K0) S A w
 ok:a1W w
 off:p∉bl A w
 jk:a06 w J
 p:S p=some (b9f (jc K0) A.L J)
def c59 (z:Str) (rs:List Str):Jb:=⟨z,rs, "by",false,[],[]⟩
structure a6H (K0:zbj) (S:SS) (A:BdA) (w:Bo) (js:List (Addr × Jb)):Prop where
 bd:BdS (bc K0) S A w
 ok:a1W w
 at_:∀ x∈js,S x.1=some (b9f (jc K0) A.L x.2)
 off:∀ x∈js,x.1∉bl A w
 ad:(js.map (·.1)).Nodup
 jk:∀ x∈js,a06 w x.2
 nm:(js.map (·.2.named)).Nodup
def a3c (q:Str × Rw):Str × Rw:=(q.1,{ q.2 with at_:=0 })
structure b2W (w w':Bo):Prop where
 rows:w'.rows.map a3c=w.rows.map a3c
 crews:w'.crews=w.crews
 sk:w'.sk=w.sk
 fa:w'.fa=w.fa
abbrev wc (K:zbj):Addr:=He.ga K "Works"
structure Ws where
 g:Wo
 b:Bo
 js:List (Str × Jb)
 sd:List (Str × List Str)
 wet:List Str
def a9p (g:Wo) (l:Str):Int:=match g.lines.lookup l with
 | some q=>q.2.2
 | none=>0
inductive Dw where
 | lay (e:b2V) | turn (z pos:Str) | stick (z:Str) | mend (z:Str) | ask (j h:Str) (rs:List Str) | begin (j:Str) | give (j:Str) | job (j:Str) (f:Dj) | relieve (a c:Str)
def Dj.plain:Dj→Prop
 | .begin _ _=>False | .give=>False | _=>True
def Dw.Ok:Dw→Prop
 | .lay e=>e.Ok | .turn z pos=>Nm z∧PS pos | .stick z=>Nm z | .mend z=>Nm z | .ask j h rs=>Nm j∧Nm h∧a2M rs | .begin j=>Nm j | .give j=>Nm j | .job j f=>Nm j∧f.Ok∧f.plain | .relieve a c=>Nm a∧Nm c
def c4g (w:Ws) (j:Str):Jb:=(w.js.lookup j).getD (c59 j [])
def mine (w:Ws) (a:Str):List Str:=(a1e (nms w.js)).filter fun j=>decide (a∈a4z w.b j)
def gone (w:Ws) (j:Str):Prop:=(c4g w j).now = "by" ∨ (c4g w j).now = "ended"
instance (w:Ws) (j:Str):Decidable (gone w j):=by unfold gone;infer_instance
structure b5X (g:Wo) (J:Jb) (s:List Str):Prop where
 nd:s.Nodup
 rm:∀ z∈s,z∈g.rooms
 ab:∀ z∈J.about,z∈s
 src:∀ z∈s,z∉g.srcs
 cut:∀ l,l∈J.cutting↔l∈b3X g s
 sw:∀ l∈J.cutting,l∈a2G g
 dr:∀ d∈J.emptying,d∈nms g.drains∧a9y g d∈s
structure b52 (w:Ws):Prop where
 g:a5B w.g
 b:a1W w.b
 dev:∀ z,z∈nms w.b.rows↔z∈a2G w.g∨z∈nms w.g.drains
 ju:(nms w.js).Nodup
 jn:∀ q∈w.js,q.2.named=q.1
 jc:∀ j,j∈nms w.b.crews↔j∈nms w.js
 jk:∀ q∈w.js,a06 w.b q.2
 ph:∀ q∈w.js,q.2.now ≠ "ended"
 ab:∀ q∈w.js,∀ z∈q.2.about,z∈w.g.rooms
 su:(nms w.sd).Nodup
 sj:∀ j,j∈nms w.sd↔∃ J,(j,J)∈w.js∧J.now ≠ "by"
 sk:∀ j J s,(j,J)∈w.js→(j,s)∈w.sd→b5X w.g J s
 wu:w.wet.Nodup
 wr:∀ z∈w.wet,z∈w.g.rooms
 dh:∀ q∈w.b.rows,q.1∈nms w.g.drains→q.2.home = "shut"
 tl:∀ q∈w.b.rows,q.2.jobs=[]→q.2.pos=q.2.home
 bh:∀ q∈w.js,Beh w.b q.2
structure WsA where
 (p P Q L a b c d:Addr) (A:BdA) (ja:Str→Addr)
def c4d (C:Addr) (X:WsA) (wet:List Str):Cell:=.ins C [("ground",.obj X.L),("panel",.obj X.A.L),("papers",.obj X.P),("sides",.obj X.Q),("damp_rooms",a1L wet)]
def fw (X:WsA) (w:Ws):List Addr:=[X.p,X.P,X.Q,X.L,X.a,X.b,X.c,X.d] ++ (bl X.A w.b ++ (nms w.js).map X.ja)
def c6b (X:WsA) (w:Ws):List (Key × D):=a1t D.obj ((nms w.js).map fun j=>(j,X.ja j))
structure WsS (K0:zbj) (S:SS) (X:WsA) (w:Ws):Prop where
 p:S X.p=some (c4d (wc K0) X w.wet)
 P:S X.P=some (.dic (c6b X w))
 Q:S X.Q=some (.dic (a1t a1L w.sd))
 g:b1k (lc K0) S X.L X.a X.b X.c X.d w.g.lay
 b:BdS (bc K0) S X.A w.b
 j:∀ q∈w.js,S (X.ja q.1)=some (b9f (jc K0) X.A.L q.2)
 nd:(fw X w).Nodup
def c0i (w:Ws):Prop:=w.wet.Nodup∧(∀ z∈w.wet,Nm z)∧w.wet.length≤24
structure Base (w:Ws):Prop where
 g:a5B w.g
 b:a1W w.b
 dev:∀ z,z∈nms w.b.rows↔z∈a2G w.g∨z∈nms w.g.drains
def g0:Wo:=⟨[],[],[],[]⟩
def ws0:Ws:=⟨g0,bo0,[],[],[]⟩
def Dw.d:Dw→D
 | .lay e=>e.d
 | .turn z pos=>.tup [.str "turn",.str z,.str pos]
 | .stick z=>.tup [.str "stick",.str z]
 | .mend z=>.tup [.str "mend",.str z]
 | .ask j h rs=>.tup [.str "ask",.str j,.str h,a1L rs]
 | .begin j=>.tup [.str "begin",.str j]
 | .give j=>.tup [.str "give",.str j]
 | .job j .step=>.tup [.str "step",.str j]
 | .job j .end_=>.tup [.str "end",.str j]
 | .job j .putBy=>.tup [.str "put_by",.str j]
 | .job j .tryOut=>.tup [.str "try_out",.str j]
 | .job j .goOn=>.tup [.str "go_on",.str j]
 | .job j (.signOn h)=>.tup [.str "sign_on",.str j,.str h]
 | .job j (.signOff h)=>.tup [.str "sign_off",.str j,.str h]
 | .job j (.handOver a c)=>.tup [.str "hand_over",.str j,.str a,.str c]
 | .job j (.begin _ _)=>.tup [.str "begin",.str j]
 | .job j .give=>.tup [.str "give",.str j]
 | .relieve a c=>.tup [.str "relieve",.str a,.str c]
structure Wl where
 plain:Int
 (rooms devices jobs hands:List Str)
def NmL (n m:Nat) (l:List Str):Prop:=l.Nodup∧(∀ z∈l,Nm z)∧n≤l.length∧l.length≤m
structure c3Y (l:Wl):Prop where
 p:0≤l.plain∧l.plain < 4
 r:NmL 4 7 l.rooms
 d:NmL 20 20 l.devices
 j:NmL 3 3 l.jobs
 h:NmL 4 4 l.hands
def a3d:TR:=fun m ds S K Y=>m=none∧∃ b c l,ds=[.obj b,.lst l]∧l≠[]∧l.length≤1000∧S b=some c∧a0I c∧∀ d c',d∈l→a0I c'→K d (S.set b c')
def Rb.nw (r:Rb):Prop:=∀ i,r≠.wrong i
def a4q (kd:Str) (x:D):Prop:=(kd = "name" ∧ ∃ z,x=.str z∧Nm z)∨(kd = "cost" ∧ ∃ n,x=.int n∧0≤n∧n≤99)∨(kd = "position" ∧ ∃ z,x=.str z∧PS z)∨(kd = "rooms" ∧ ∃ rs,x=a1L rs∧a2M rs)
def a6I:TR:=fun m ds S K Y=>m=none∧∃ x y z,ds=[x,y]∧dv S 60 x=z∧dv S 60 y=z∧Plain z∧K (.bl true) S
def AsP (S:SS) (x x':D):Prop:=x'=x∨∃ (p:Addr) (zs:List Str),x=.lst (zs.map D.str)∧x'=.obj p∧S p=some (.lst (zs.map D.str))
structure AsL (S:SS) (l l':List D):Prop where
 len:l'.length=l.length
 at_:∀ (i:Nat) (x:D),l[i]?=some x→∃ x',l'[i]?=some x'∧AsP S x x'
structure a6G (d:D) (wd:Str) (kinds:List Str) (parts:List D):Prop where
 e:d=.tup (.str wd :: parts)
 form:valD a0P.kv (.inr wd)=some (.tup (kinds.map D.str))
 len:parts.length=kinds.length
 few:kinds.length≤4
 wf:fine wd=true
 wb:((decide (wd.cps.size≤64) && fine wd) && decide ((D.str wd).py.bulk≤40))=true
 fits:∀ (i:Nat) (k:Str),kinds[i]?=some k→∃ x,parts[i]?=some x∧a4q k x
 line:wd = "add_line" → ∃ x y:Str,parts[1]?=some (.str x)∧parts[2]?=some (.str y)∧x≠y∧Nm x∧Nm y
def a0h:List Str:=["add_room", "take_room", "add_line", "take_line", "add_drain", "take_drain", "add_source", "take_source", "turn", "stick", "mend", "ask", "begin", "step", "give", "end", "put_by", "try_out", "go_on", "sign_on", "sign_off", "hand_over", "relieve"]
def b2U (wd:Str) (l:List D):Prop:=wd∈a0h∧∃ kinds,a6G (.tup (.str wd :: l)) wd kinds l
def c3D:D→Option Str
 | .str w=>some w
 | _=>none
def a1N:D→List Str
 | .str z=>[z]
 | .int n=>[toString n]
 | .lst ds=>ds.filterMap c3D
 | _=>[]
def a7f (wd:Str) (l:List D):Str:=Txt.join " " (wd :: l.flatMap a1N)
def a6L:TR:=fun m ds S K Y=>m=none∧∃ wd l l',ds=[.tup (.str wd :: l')]∧b2U wd l∧AsL S l l'∧∀ S',Grows S S'→K (.str (a7f wd l)) S'
def a3j:TR:=fun m ds S K Y=>m=none∧ds=[]∧K (.lst (a0h.map D.str)) S
structure c0f where
 (rooms devices jobs hands:List Str)
def a8K (s:c0f):D:=.dic [(.inr "rooms",a1L s.rooms),(.inr "devices",a1L s.devices),(.inr "jobs",a1L s.jobs),(.inr "hands",a1L s.hands)]
structure a7t (s:c0f):Prop where
 r:2≤s.rooms.length∧s.rooms.length≤26∧s.rooms.Nodup∧∀ z∈s.rooms,Nm z
 d:s.devices≠[]∧s.devices.length≤4∧∀ z∈s.devices,Nm z
 j:s.jobs≠[]∧s.jobs.length≤4∧∀ z∈s.jobs,Nm z
 h:s.hands≠[]∧s.hands.length≤4∧∀ z∈s.hands,Nm z
def a4W:TR:=fun m ds S K Y=>m=none∧∃ b c,ds=[.obj b]∧S b=some c∧a0I c∧∀ s c',a7t s→a0I c'→K (a8K s) (S.set b c')
def a86:TR:=fun m ds S K Y=>m=none∧∃ b c s w,ds=[.obj b,a8K s,.str w]∧a7t s∧w∈a0h∧S b=some c∧a0I c∧∀ wd l c',b2U wd l→a0I c'→K (.tup (.str wd :: l)) (S.set b c')
mutual
def anD:Nat→D→Bool
 | _,.non=>true | _,.bl _=>true | _,.int i=>decide (i.natAbs < 10 ^ 21)
 | _,.str z=>decide (z.cps.size≤131072) && fine z
 | n,.lst ds=>decide (0 < n) && a8S (n - 1) ds
 | n,.tup ds=>decide (0 < n) && a8S (n - 1) ds
 | _,.dic kvs=>kvs.isEmpty
 | _,_=>false
def a8S:Nat→List D→Bool
 | _,[]=>true | n,d :: ds=>anD n d && a8S n ds
end
mutual
def paD:D→PyData
 | .non=>.none | .bl b=>.bool b | .int i=>.int i | .str z=>.str z
 | .lst ds=>.list (a5C ds) | .tup ds=>.tuple (a5C ds)
 | _=>.dict []
def a5C:List D→List PyData
 | []=>[] | d :: ds=>paD d :: a5C ds
end
structure AB (n b:Nat) (d:D):Prop where
 an:anD n d=true
 bk:(paD d).bulk≤b
def Dt (x:D):Prop:=∃ n,anD n x=true
def NmP (x:D):Prop:=∃ z,x=.str z∧Nm z
def a87 (x:D):Prop:=∃ i,x=.int i
def a6F (x:D):Prop:=∃ i,x=.int i∧0≤i∧i≤99
def b3K (x:D):Prop:=∃ z,x=.str z∧PS z
def a82 (x:D):Prop:=∃ zs:List Str,x=.lst (zs.map D.str)∧zs.Nodup∧(∀ z∈zs,Nm z)∧zs.length≤60
def a1i (x:D):Prop:=∃ rs:List Str,x=.lst (rs.map D.str)∧a2M rs
def a3t:List Str:=["name", "cost", "position", "rooms"]
def b1n (P:D→Prop):TR:=fun m ds S K Y=>m=none∧∃ x,ds=[x]∧Dt x∧∀ (k:Bool) S',Grows S S'→(k=true↔P x)→K (.bl k) S'
def a4u (P:D→Prop):TR:=fun m ds S K Y=>m=none∧∃ x,ds=[x]∧Dt x∧∀ (k:Bool),(k=true↔P x)→K (.bl k) S
def a6J:TR:=fun m ds S K Y=>m=none∧∃ kd x,ds=[.str kd,x]∧Dt x∧kd∈a3t∧∀ (k:Bool) S',Grows S S'→(k=true↔a4q kd x)→K (.bl k) S'
def a4R:TR:=fun m ds S K Y=>m=none∧∃ kd x,ds=[.str kd,x]∧Dt x∧kd∈a3t∧∀ (k:Bool),(k=true↔a4q kd x)→K (.bl k) S
def a0l (w:Str):List Str:=if w = "add_line" then ["name", "name", "name", "cost"] else if w = "add_drain" then ["name", "name"] else if w = "turn" then ["name", "position"] else if w = "ask" then ["name", "name", "rooms"] else if w = "sign_on" then ["name", "name"] else if w = "sign_off" then ["name", "name"] else if w = "hand_over" then ["name", "name", "name"] else if w = "relieve" then ["name", "name"] else ["name"]
def a2h (x:D):Prop:=∃ wd l,x=.tup (.str wd :: l)∧wd∈a0h∧l.length=(a0l wd).length∧(∀ (i:Nat) (k:Str),(a0l wd)[i]?=some k→∃ y,l[i]?=some y∧a4q k y)∧(wd = "add_line" → l[1]?≠l[2]?)
def a4S:TR:=fun m ds S K Y=>m=none∧∃ w,ds=[.str w]∧w∈a0h∧K (.lst ((a0l w).map D.str)) S
def b9a (t:Nat) (x:D):Prop:=AB 1 20 x∨∃ l:List D,(x=.lst l∨x=.tup l)∧l.length≤24 + t∧∀ y∈l,AB 1 20 y
def c3U (t:Nat) (x:D):Prop:=∃ l,x=.tup l∧l.length≤5 + t∧∀ y∈l,b9a t y
def TxOk (b:Nat) (z:Str):Prop:=(∀ c∈z.cps.toList,c < 128)∧z.length≤b
def a71 (z:Str):D:=match (List.range 100).find? fun c=>decide ((toString ((c:Nat):Int):Str)=z) with
 | some c=>.int c
 | none=>.non
def a0J (w:Str) (ws:List Str):List D:=if w = "ask" then (ws.take 2).map D.str ++ [.lst ((ws.drop 2).map D.str)] else if w = "add_line" ∧ ws.length=4 then (ws.take 3).map D.str ++ [a71 ((ws[3]?).getD "")] else ws.map D.str
def a3y (z:Str):D:=match Txt.split z " " with
 | []=>.tup []
 | w :: ws=>.tup (.str w :: a0J w ws)
def b2Y (x:D):Prop:=(∃ q,pdE x=some q∧a7s q)∧∀ z,x=.str z→TxOk 100000 z
def WrD (x:D) (z:Str):Prop:=x=.str z∧a2h (a3y z)
def a6K (K0:zbj):TR:=fun m ds S K Y=>m=none∧∃ x,ds=[x]∧b2Y x∧((∃ z,WrD x z∧∀ S',Grows S S'→K (a3y z) S')∨((∀ z,¬ WrD x z)∧∀ S',Grows S S'→Y (He.ga K0 "NoText") [] S'))
def a4U:TR:=fun m ds S K Y=>m=none∧∃ x,ds=[x]∧b2Y x∧((∃ z,WrD x z∧K (a3y z) S)∨((∀ z,¬ WrD x z)∧K .non S))
def a4X:TR:=fun m ds S K Y=>m=none∧∃ x,ds=[x]∧b2Y x∧((∃ z,WrD x z∧∀ S',Grows S S'→K (.tup [.str "told",a3y z]) S')∨((∀ z,¬ WrD x z)∧∀ S',Grows S S'→K (.tup [.str "refused",.int 0]) S'))
def a3i:TR:=fun m ds S K Y=>m=none∧∃ x,ds=[x]∧b2Y x∧∀ S',Grows S S'→K (.bl true) S'
def a4V:TR:=fun m ds S K Y=>m=none∧∃ b c,ds=[.obj b]∧S b=some c∧a0I c∧∀ z c',TxOk 1 z→a0I c'→K (.str z) (S.set b c')
def a1p:TR:=fun m ds S K Y=>m=none∧∃ b c z n,ds=[.obj b,.str z]∧TxOk n z∧n≤25000∧S b=some c∧a0I c∧∀ z' c' S',TxOk (3 * n + 20) z'→a0I c'→Grows (S.set b c') S'→S' b=some c'→K (.str z') S'
def a4T:TR:=fun m ds S K Y=>m=none∧∃ kd x,ds=[.str kd,x]∧((kd ≠ "cost" ∧ K x S)∨(kd = "cost" ∧ ∃ z,x=.str z∧K (a71 z) S))
def tb (K:zbj):Tb:=⟨c36,b6q,b9e,[some c0g,some a07,some a3j,some a6L,some a4S,some (a4u NmP),some a4T,some (a4u NmP),some (a4u a87),some (a4u b3K),some a6I,some b3P,some a3d,some a4R,some (a4u a6F),some (b1n a82),some a4V,some a2N,some a86,some (a4u a2h),some (b1n a1i),some a1p,some a4W,some a4U,some a6J,some a1p,some (b1n a2h),some (a6K K),some a4X,some a3i,some (lawT 63)],[none,none,none,none,none,none,none,none,none,none,none,none,none,none,none,none,none,none,none,none,none,none,none,none,none,none,none,none,none,none,none],[.str "abcdefghijklmnopqrstuvwxyz",.int 8,.int 99,.int 60,.int 24,.obj (He.ga K "FORMS"),.int 100],[none,some (.fld "at"),some (.fld "name"),some .bare,some .bare],[0,0,0,0,0,0,0,0,0,0,0,11,11,11,11,11,11,17,17,17,17,17,22,22,22,22,26,27,28,29,30],[none,none,none,none,none,some a0P.kv,none]⟩
theorem dg0 {K:zbj} {i:Nat} {m:Option (Addr × Obj)} {δ:DS} {S:SS} {Y:XD' } {KK:DK} (k:KK (.str "abcdefghijklmnopqrstuvwxyz") S):den ((tb K).G K i m).toGm (.glb 0) δ S Y KK:=a8r k
theorem dg1 {K:zbj} {i:Nat} {m:Option (Addr × Obj)} {δ:DS} {S:SS} {Y:XD' } {KK:DK} (k:KK (.int 8) S):den ((tb K).G K i m).toGm (.glb 1) δ S Y KK:=a8r k
theorem dg2 {K:zbj} {i:Nat} {m:Option (Addr × Obj)} {δ:DS} {S:SS} {Y:XD' } {KK:DK} (k:KK (.int 99) S):den ((tb K).G K i m).toGm (.glb 2) δ S Y KK:=a8r k
theorem dg3 {K:zbj} {i:Nat} {m:Option (Addr × Obj)} {δ:DS} {S:SS} {Y:XD' } {KK:DK} (k:KK (.int 60) S):den ((tb K).G K i m).toGm (.glb 3) δ S Y KK:=a8r k
theorem dg4 {K:zbj} {i:Nat} {m:Option (Addr × Obj)} {δ:DS} {S:SS} {Y:XD' } {KK:DK} (k:KK (.int 24) S):den ((tb K).G K i m).toGm (.glb 4) δ S Y KK:=a8r k
theorem dg6 {K:zbj} {i:Nat} {m:Option (Addr × Obj)} {δ:DS} {S:SS} {Y:XD' } {KK:DK} (k:KK (.int 100) S):den ((tb K).G K i m).toGm (.glb 6) δ S Y KK:=a8r k
instance c6l {K:zbj} {i:Nat} {m:Option (Addr × Obj)} {δ:DS} {S:SS} {Y:XD' } {KK:DK}:Rdg (den ((tb K).G K i m).toGm (.glb 0) δ S Y KK) (KK (.str "abcdefghijklmnopqrstuvwxyz") S):=⟨dg0⟩
instance c6m {K:zbj} {i:Nat} {m:Option (Addr × Obj)} {δ:DS} {S:SS} {Y:XD' } {KK:DK}:Rdg (den ((tb K).G K i m).toGm (.glb 1) δ S Y KK) (KK (.int 8) S):=⟨dg1⟩
instance c6n {K:zbj} {i:Nat} {m:Option (Addr × Obj)} {δ:DS} {S:SS} {Y:XD' } {KK:DK}:Rdg (den ((tb K).G K i m).toGm (.glb 2) δ S Y KK) (KK (.int 99) S):=⟨dg2⟩
instance c6o {K:zbj} {i:Nat} {m:Option (Addr × Obj)} {δ:DS} {S:SS} {Y:XD' } {KK:DK}:Rdg (den ((tb K).G K i m).toGm (.glb 3) δ S Y KK) (KK (.int 60) S):=⟨dg3⟩
instance c6p {K:zbj} {i:Nat} {m:Option (Addr × Obj)} {δ:DS} {S:SS} {Y:XD' } {KK:DK}:Rdg (den ((tb K).G K i m).toGm (.glb 4) δ S Y KK) (KK (.int 24) S):=⟨dg4⟩
instance c6q {K:zbj} {i:Nat} {m:Option (Addr × Obj)} {δ:DS} {S:SS} {Y:XD' } {KK:DK}:Rdg (den ((tb K).G K i m).toGm (.glb 6) δ S Y KK) (KK (.int 100) S):=⟨dg6⟩
instance c6A {K:zbj} {i:Nat} {m:Option (Addr × Obj)} {δ:DS} {S:SS} {Y:XD' } {a:RE} {KK:DK}:Rdg (den ((tb K).G K i m).toGm (.kix 5 a) δ S Y KK) (den ((tb K).G K i m).toGm a δ S Y fun x S1=>∃ z d,x=.str z∧valD a0P.kv (.inr z)=some d∧KK d S1):=⟨fun h=>by rw [den];exact ⟨_,rfl,h⟩⟩
instance c6y {K:zbj} {i:Nat} {m:Option (Addr × Obj)} {δ:DS} {S:SS} {Y:XD' } {a:RE} {neg:Bool} {KK:DK}:Rdg (den ((tb K).G K i m).toGm (.kin neg 5 a) δ S Y KK) (den ((tb K).G K i m).toGm a δ S Y fun x S1=>∃ z,x=.str z∧KK (.bl (neg ^^ (valD a0P.kv (.inr z)).isSome)) S1):=⟨fun h=>by rw [den];exact ⟨_,rfl,h⟩⟩
instance c6z {K:zbj} {i:Nat} {m:Option (Addr × Obj)} {δ:DS} {S:SS} {Y:XD' } {a:RE} {neg:Bool} {KT:Bool→SS→Prop}:Rdg (a0o ((tb K).G K i m).toGm (.kin neg 5 a) δ S Y KT) (den ((tb K).G K i m).toGm a δ S Y fun x S1=>∃ z,x=.str z∧∃ k,D.bl (neg ^^ (valD a0P.kv (.inr z)).isSome)=.bl k∧KT k S1):=⟨fun h=>by rw [a0o];exact ⟨_,rfl,h⟩⟩
end Cl
open Cl PySem PySem.Spec PyProof.Rows L2 Sv
local macro_rules | `(tactic| lia)=>`(tactic| (repeat (first | (refine Rdg.go ?_) | ((with_reducible apply c1i);focus exact rfl) | ((with_reducible apply c3P);focus exact rfl) | (with_reducible refine And.intro (a:=_≤sizeLine) (by rw [zai];simp only [zaz,List.length_nil,zaw,zag];omega) ?_) | (with_reducible refine a05 (by rw [zai];simp only [zaz,List.length_nil,zaw,zag];omega) ?_) | (dsimp only))))
namespace Cl
open PySem PySem.Spec PyProof.Rows L2 Sv
variable {K:zbj}
section
variable {x y z v:Int} {cells:List Int}
theorem at0:atI (b3F x y z cells) 0=some (.int x):=rfl
theorem at1:atI (b3F x y z cells) 1=some (.int y):=rfl
theorem at2:atI (b3F x y z cells) 2=some (.int z):=rfl
theorem at3:atI (b3F x y z cells) 3=some (.lst (cells.map .int)):=rfl
end
theorem a3l {xs:List D} {k:Nat}:Sv.cutD xs none (some (k:Int))=xs.take k:=by
 unfold Sv.cutD
 rw [HT.sIx_none,HT.sIx_nat]
 simp only [List.drop_zero,Nat.sub_zero]
 by_cases h:k≤xs.length
 ·rw [Nat.min_eq_left h]
 ·rw [Nat.min_eq_right (by omega),List.take_length,List.take_of_length_le (by omega)]
theorem bnd {j:Int} (h0:-1000≤j) (h1:j≤1000000):-(2 ^ 62)≤j∧j < 2 ^ 62:=by
 have e:(2:Int) ^ 62=4611686018427387904:=by decide
 rw [e];omega
theorem lg {n : Int} (h0 : 0 < n) (h1 : n ≤ 1000000) : n.natAbs.log2 < 4000 := by
  have h : n.natAbs < 2 ^ 20 := by have : (2 : Nat) ^ 20 = 1048576 := by decide
                                   omega
  exact Nat.lt_trans ((Nat.log2_lt (by omega)).mpr h) (by decide)
theorem me1 (c:SaysX fa fn fx K):Meets ((tb K).sn N1) ((tb K).G K 1) 2 false a07 b1:=by
 refine Qt.put_in ?_
 simp (disch :=
 with_unfolding_all
 refine Qt.keep ?_
 rintro m hm ds S KK Y ⟨rfl,b,n0,c,rfl,hn,hn2,hb,⟨x,y,z,cells,rfl,hx,hy,hy2,hz,hc⟩,hK⟩
 refine ⟨rfl,?_⟩
 show a0c _ b1 [some _,some _,none,none,none,none] _ _ _
 unfold b1
 have hb0:=hb
 refine a2D (fun δ1 S1=>∃ x y z c1,c3T x y z cells∧S1=S.set b (.lst (b3F x y z cells))∧δ1=[some (.obj b),some (.int n0),c1,none,none,none]) ?_ ?_
 ·lia
  refine a7L hb at0 ?_
  lia
  split
  ·lia
   refine a2D (fun δ1 S1=>∃ w,0≤w∧S1=S∧δ1=[some (.obj b),some (.int n0),some (.int w),none,none,none]) ?_ ?_
   ·lia
    refine a7L hb at2 ?_
    lia
    refine a7L hb at3 ?_
    lia
    split
    ·rename_i e
     have e:z < (cells.length:Int):=by simpa using e
     lia
     refine a7L hb at3 ?_
     lia
     refine a7L hb at2 ?_
     obtain ⟨k,rfl⟩:=Int.eq_ofNat_of_zero_le hz
     have hk:k < cells.length:=by omega
     refine a5f (a9h (zbi hk)) ?_
     lia
     exact ⟨cells[k],hc _ (List.getElem_mem hk),rfl,rfl⟩
    ·lia
     exact ⟨0,by omega,rfl,rfl⟩
   ·rintro δ1 S1 ⟨w,hw,hS,rfl⟩
    rw [hS]
    lia
    refine c1q hb at2 ?_
    lia
    refine a8H hb rfl ?_
    lia
    refine a2D (fun δ1 S1=>∃ x1,0≤x1∧S1=S.set b (.lst (b3F x1 y (z + 1) cells))∧δ1=[some (.obj b),some (.int n0),some (.int w),none,none,none]) ?_ ?_
    ·lia
     split
     ·lia
      refine a8H zab rfl ?_
      lia
      exact ⟨w,hw,by rw [zac];rfl,rfl⟩
     ·lia
      exact ⟨x,hx,rfl,rfl⟩
    ·rintro δ1 S1 ⟨x1,hx1,rfl,rfl⟩
     lia
     refine a7L zab at1 ?_
     lia
     refine a8C (.inl (.inr (by decide))) ?_
     lia
     refine a6f (by decide) ?_
     lia
     refine a7L zab at2 ?_
     lia
     refine a8C (.inl (.inl (by decide))) ?_
     lia
     refine a6f (by decide) ?_
     lia
     refine a8H zab rfl ?_
     lia
     exact ⟨x1,(y * 48271 + w % 2147483647 + 7919 * (z + 1)) % 2147483647,z + 1,_,⟨hx1,Int.emod_nonneg _ (by decide),Int.emod_lt_of_pos _ (by decide),by omega,hc⟩,by rw [zac];rfl,rfl⟩
  ·lia
   exact ⟨x,y,z,none,⟨hx,hy,hy2,hz,hc⟩,(SS.set_id hb).symm,rfl⟩
 ·rintro δ1 S1 ⟨x,y,z,c1,⟨hx,hy,hy2,hz,hc⟩,rfl,rfl⟩
  lia
  refine a7L zab at0 ?_
  lia
  split
  ·rename_i e
   have e:0 < x:=by simpa using e
   lia
   refine a7L zab at0 ?_
   lia
   refine a6f hn ?_
   lia
   refine a7L zab at0 ?_
   lia
   refine b7M ⟨hn,by omega⟩ ?_
   lia
   refine a8H zab rfl ?_
   lia
   rw [zac]
   exact hK _ _ (Int.emod_nonneg _ (by omega)) (Int.emod_lt_of_pos _ hn) ⟨x / n0,y,z,cells,rfl,Int.ediv_nonneg hx (by omega),hy,hy2,hz,hc⟩
  ·lia
   refine a7L zab at1 ?_
   lia
   refine a8C (.inl (.inr (by decide))) ?_
   lia
   refine a6f (by decide) ?_
   have h1:=Int.emod_nonneg ((y + 1) * 39373) (by decide:(1000000007:Int)≠0)
   have h2:=Int.emod_lt_of_pos ((y + 1) * 39373) (by decide:(0:Int) < 1000000007)
   generalize ((y + 1) * 39373) % 1000000007=f1 at h1 h2 ⊢
   lia
   refine a8C (.inl (.inl ⟨by omega,by omega⟩)) ?_
   lia
   refine a6f (by decide) ?_
   lia
   refine a8C (.inl (.inr (by decide))) ?_
   lia
   refine a6f (by decide) ?_
   have h3:=Int.emod_nonneg (f1 * f1 % 998244353 * 30011) (by decide:(998244353:Int)≠0)
   have h4:=Int.emod_lt_of_pos (f1 * f1 % 998244353 * 30011) (by decide:(0:Int) < 998244353)
   generalize (f1 * f1 % 998244353 * 30011) % 998244353=f2 at h3 h4 ⊢
   lia
   split
   ·lia
    refine a8C (.inl (.inr (by decide))) ?_
    lia
    refine a6f hn ?_
    exact hK _ _ (Int.emod_nonneg _ (by omega)) (Int.emod_lt_of_pos _ hn) ⟨x,y,z,cells,rfl,hx,hy,hy2,hz,hc⟩
   ·lia
    refine b7M ⟨by decide,by decide⟩ ?_
    lia
    refine a6f hn ?_
    exact hK _ _ (Int.emod_nonneg _ (by omega)) (Int.emod_lt_of_pos _ hn) ⟨x,y,z,cells,rfl,hx,hy,hy2,hz,hc⟩
 ) only [↓Qt.put_off]
def b54:D→D
 | .int i=>.int (if i < 0 then -i else i)
 | d=>d
theorem me0 (c:SaysX fa fn fx K):Meets ((tb K).sn N0) ((tb K).G K 0) 1 false c0g b0:=by
 rintro m hm ds S KK Y ⟨rfl,ns,rfl,hK⟩
 refine ⟨rfl,?_⟩
 show a0c _ b0 [some _,none] _ _ _
 unfold b0
 lia
 refine ⟨_,rfl,?_⟩
 rw [show (63:Int)=((63:Nat):Int) from rfl,a3l]
 have hl:((ns.map D.int).take 63).length≤63:=by rw [List.length_take];omega
 refine a5h b54 (fun _=>true) (by rw [zai];omega) (fun _ _ _=>rfl) (fun p i acc d KK KN hd hp hk hn=>?_) ?_
 ·refine a5x (b6k ?_)
  rw [if_pos rfl]
  have hm:d∈ns.map D.int:=List.mem_of_mem_take (zaq hd)
  obtain ⟨x,_,rfl⟩:=zan.mp hm
  lia
  exact hk rfl
 ·have e:(((ns.map D.int).take 63).filter fun _=>true).map b54=((ns.take 63).map fun i=>if i < 0 then -i else i).map D.int:=by
   rw [zbc.mpr (fun _ _=>rfl),← List.map_take,zat,zat]
   rfl
  rw [e]
  lia
  intro p hp
  refine hK p _ hp ⟨0,1234567891,0,_,rfl,by decide,by decide,by decide,by decide,fun i hi=>?_⟩
  obtain ⟨x,_,rfl⟩:=zan.mp hi
  split <;> omega
theorem a8s {tg:List Nat} {one:Bool} {d:D} {δ:DS} {S:SS} {Q Q':DS→SS→Prop} (w:∀ δ S,Q δ S→Q' δ S) (h:a1E tg one d δ S Q):a1E tg one d δ S Q':=by
 unfold a1E at h ⊢
 split
 ·rename_i e
  rw [if_pos e] at h
  split at h
  ·exact w _ _ h
  ·exact h
 ·rename_i e
  rw [if_neg e] at h
  obtain ⟨ds,h1,h2,h3⟩:=h
  exact ⟨ds,h1,h2,w _ _ h3⟩
theorem b3n {G:Gm} {elt:RE} {tg:List Nat} {one:Bool} {own:List Nat} {δ:DS} {KK:DK} {ds:List D} {ok:SS→Prop} {S:SS} {b:Addr} {c:Cell} (hb:S b=some c) (hc:a0I c) (hz:ds.length≤sizeLine) (P:D→Prop) (hok:∀ S',ok S')
  (hs:∀ (p:Addr) (i:Nat) (acc:List D) (d:D) (S0:SS) (c0:Cell) (K1:DK),ds[i]?=some d→S0 b=some c0→a0I c0→(∀ y c1,P y→a0I c1→K1 y (S0.set b c1))→a1E tg one d (a7p δ own) S0 fun δ2 S2=>den G elt δ2 S2 noX K1)
  (hl:∀ ys c',ys.length=ds.length→(∀ y∈ys,P y)→a0I c'→KK (.lst ys) (S.set b c')):LcK G false elt tg one .nn own δ KK ds ok S:=by
 intro p hp
 have apart:b≠p:=zad hb hp
 refine ⟨fun i S'=>∃ ys c',ys.length=i∧(∀ y∈ys,P y)∧a0I c'∧S'=(S.set b c').set p (.lst ys),⟨[],c,rfl,(fun _ z=>nomatch z),hc,by rw [SS.set_id hb]⟩,fun _ S' _ _=>hok S',?_,?_⟩
 ·rintro i d S' hd ⟨ys,c0,rfl,hP,hc0,rfl⟩
  have hi:ys.length < ds.length:=(List.getElem?_eq_some_iff.mp hd).1
  have at_b:((S.set b c0).set p (.lst ys)) b=some c0:=by rw [zaa apart,zab]
  refine a8s (fun δ2 S2 q=>?_) (hs p ys.length ys d _ c0 (fun y S4=>∃ acc,S4 p=some (.lst acc)∧acc.length < sizeLine∧∃ ys' c',ys'.length=ys.length + 1∧(∀ y∈ys',P y)∧a0I c'∧S4.set p (.lst (acc ++ [y]))=(S.set b c').set p (.lst ys')) hd at_b hc0 fun y c1 hy hc1=>?_)
  ·refine b6k ?_
   rw [if_pos rfl]
   exact q
  ·have e:((S.set b c0).set p (.lst ys)).set b c1=(S.set b c1).set p (.lst ys):=by rw [zae (Ne.symm apart),zac]
   rw [e]
   refine ⟨ys,zab,by omega,ys ++ [y],c1,by simp,fun w hw=>?_,hc1,by rw [zac]⟩
   rcases zap.mp hw with hw | hw
   ·exact hP w hw
   ·cases zaj.mp hw;exact hy
 ·rintro S' ⟨ys,c',hlen,hP,hc',rfl⟩
  refine ⟨ys,zab,?_⟩
  rw [if_neg zbe,zaf (by rw [zaa (Ne.symm apart)];exact hp)]
  exact hl ys c' hlen hP hc'
def c4i (y:D):Prop:=∃ ch,y=.str ⟨#[ch]⟩∧97≤ch∧ch≤122
theorem a95:∀ (ys:List D),(∀ y∈ys,c4i y)→∃ cs:List Nat,ys=(cs.map fun ch=>(⟨#[ch]⟩:Str)).map D.str∧cs.length=ys.length∧∀ ch∈cs,97≤ch∧ch≤122
 | [],_=>⟨[],rfl,rfl,fun _ z=>nomatch z⟩
 | y :: ys,h=>by
  obtain ⟨cs,rfl,hl,hc⟩:=a95 ys fun w hw=>h w (zao _ hw)
  obtain ⟨ch,rfl,h1⟩:=h _ zal
  refine ⟨ch :: cs,rfl,by simp,fun w hw=>?_⟩
  rcases zau.mp hw with rfl | hw
  ·exact h1
  ·exact hc w hw
theorem a5X:∀ cs:List Nat,TL.joinL [] (cs.map fun ch=>[ch])=cs
 | []=>rfl
 | [_]=>rfl
 | a :: b :: r=>by
  have ih:=a5X (b :: r)
  rw [zax] at ih
  rw [zax,zax]
  show [a] ++ ([] ++ TL.joinL [] ([b] :: r.map fun ch=>[ch]))=a :: b :: r
  rw [ih]
  rfl
theorem a9W (cs:List Nat):Txt.join "" (cs.map fun ch=>(⟨#[ch]⟩:Str))=⟨cs.toArray⟩:=by
 have h:=SX.join_S [] (cs.map fun ch=>[ch])
 rw [zat,a5X] at h
 exact h
theorem b5y {u:Int} (h0:0≤u) (h1:u < 12):∃ z,atI [D.str "open",D.str "shut",D.str "by",D.str "step",D.str "none",D.str "paper",D.str "at",D.str "done",D.str "a",D.str "aa",D.str "ab",D.str "b"] u=some (.str z)∧Nm z:=by
 have key:∀ k:Fin 12,Nm ((["open", "shut", "by", "step", "none", "paper", "at", "done", "a", "aa", "ab", "b"]:List Str)[k.1]'k.2):=by decide +kernel
 obtain ⟨k,rfl⟩:=Int.eq_ofNat_of_zero_le h0
 have hk:k < 12:=by omega
 refine ⟨_,?_,key ⟨k,hk⟩⟩
 exact a9h (f:=D.str) (l:=["open", "shut", "by", "step", "none", "paper", "at", "done", "a", "aa", "ab", "b"]) (zbi (show k < 12 from hk))
theorem b4z {v:Int} (h0:0≤v) (h1:v < 4) (h2:¬ v=0):∃ n,atI [D.int 2,D.int 8,D.int 1] (v - 1)=some (.int n)∧0 < n∧n≤8:=by
 obtain rfl | rfl | rfl:v=1∨v=2∨v=3:=by omega
 ·exact ⟨2,rfl,by decide,by decide⟩
 ·exact ⟨8,rfl,by decide,by decide⟩
 ·exact ⟨1,rfl,by decide,by decide⟩
theorem b7z {u:Int} (h0:0≤u) (h1:u < 26):∃ ch,atI ("abcdefghijklmnopqrstuvwxyz" : Str).cps.toList u=some ch∧97≤ch∧ch≤122:=by
 have key:∀ k:Fin 26,97≤(("abcdefghijklmnopqrstuvwxyz" : Str).cps.toList)[k.1]'(by have:=k.2;exact Nat.lt_of_lt_of_eq this (by decide +kernel))∧(("abcdefghijklmnopqrstuvwxyz" : Str).cps.toList)[k.1]'(by have:=k.2;exact Nat.lt_of_lt_of_eq this (by decide +kernel))≤122:=by decide +kernel
 obtain ⟨k,rfl⟩:=Int.eq_ofNat_of_zero_le h0
 have hk:k < 26:=by omega
 exact ⟨_,atI_nat (zbi (Nat.lt_of_lt_of_eq hk (by decide +kernel))),key ⟨k,hk⟩⟩
theorem c5P (c:SaysX fa fn fx K):Meets ((tb K).sn N11) ((tb K).G K 11) 1 false b3P b11:=by
 refine Qt.put_in ?_
 simp (disch :=
 with_unfolding_all
 refine Qt.keep ?_
 rintro m hm ds S KK Y ⟨rfl,b,c0,rfl,hb,hc,hK⟩
 refine ⟨rfl,?_⟩
 show a0c _ b11 [some _,none,none,none,none] _ _ _
 unfold b11
 lia
 refine a0b (T:=a07) rfl ?_
 lia
 refine ⟨rfl,b,4,c0,rfl,by decide,by decide,hb,hc,fun v c1 h0 h1 hc1=>?_⟩
 lia
 by_cases hv:v=0
 ·rw [if_pos (by simpa using hv)]
  lia
  refine a0b (T:=a07) rfl ?_
  lia
  refine ⟨rfl,b,12,c1,rfl,by decide,by decide,zab,hc1,fun u c2 u0 u1 hc2=>?_⟩
  rw [zac]
  obtain ⟨z,ez,nz⟩:=b5y u0 u1
  exact a5f ez (hK z c2 nz hc2)
 ·rw [if_neg (by simpa using hv)]
  lia
  refine a0b (T:=a07) rfl ?_
  lia
  obtain ⟨n,en,n0,n8⟩:=b4z h0 h1 hv
  refine a5f en ?_
  lia
  refine ⟨rfl,b,n,c1,rfl,n0,lg n0 (by omega),zab,hc1,fun k c2 k0 k1 hc2=>?_⟩
  rw [zac]
  lia
  have bd:=bnd (j:=1 + k) (by omega) (by omega)
  refine ⟨bd.1,bd.2,?_⟩
  refine b3n (P:=c4i) zab hc2 (by rw [a0F,zai];omega) (fun _=>trivial) (fun p i acc d S0 c3 K1 hd hb0 hc3 hk=>?_) fun ys c4 hlen hP hc4=>?_
  ·refine a5x ?_
   lia
   refine a0b (T:=a07) rfl ?_
   lia
   refine ⟨rfl,b,26,c3,rfl,by decide,by decide,hb0,hc3,fun u c5 u0 u1 hc5=>?_⟩
   obtain ⟨ch,ech,hch⟩:=b7z u0 u1
   exact c4f (by decide +kernel) ech (hk _ c5 ⟨ch,rfl,hch⟩ hc5)
  ·rw [zac]
   obtain ⟨cs,rfl,hl,hcs⟩:=a95 ys hP
   rw [a0F,← hl] at hlen
   lia
   refine b3m ?_ ?_
   ·have e:∀ cs:List Nat,((cs.map fun ch=>(⟨#[ch]⟩:Str)).map (·.length)).sum=cs.length:=by
     intro cs
     induction cs with
     | nil=>rfl
     | cons a r ih=>rw [zax,zax,List.sum_cons,ih,zaz];show 1 + _=_;omega
    rw [e]
    have:("" : Str).length=0:=rfl
    rw [this]
    omega
   ·rw [a9W]
    refine hK _ c4 ⟨?_,?_,?_⟩ hc4
    ·show cs.toArray.toList.length≤8
     rw [List.toList_toArray];omega
    ·show 1≤cs.toArray.toList.length
     rw [List.toList_toArray];omega
    ·show ∀ c∈cs.toArray.toList,_
     rw [List.toList_toArray];exact hcs
 ) only [↓Qt.put_off]
def nmD (y:D):Prop:=∃ z,y=.str z∧Nm z
theorem b3s:∀ (ys:List D),(∀ y∈ys,nmD y)→∃ zs:List Str,ys=zs.map D.str∧∀ z∈zs,Nm z
 | [],_=>⟨[],rfl,fun _ z=>nomatch z⟩
 | y :: ys,h=>by
  obtain ⟨zs,rfl,hc⟩:=b3s ys fun w hw=>h w (zao _ hw)
  obtain ⟨z,rfl,h1⟩:=h _ zal
  refine ⟨z :: zs,rfl,fun w hw=>?_⟩
  rcases zau.mp hw with rfl | hw
  ·exact h1
  ·exact hc w hw
variable {K:zbj}
theorem b5w {α:Type} {f:α→D} {l:List (Str × α)} {z:Str}:(valD (a1t f l) (.inr z)).isSome=decide (z∈nms l):=b0h
theorem a9S {G:Gm} {S:SS} {z:Str} {Q:Bool→Prop} (k:Q true):∃ t b,tyD S (.str z)=some t∧a2L G S (.str z)∧PySem.W.kitOne G.K t ((Cn.ty "str").val G)=some b∧Q b:=a5V rfl trivial rfl k
variable {K:zbj}
theorem b4L {z:Str} (h:Nm z):z.cps.size≤64:=by
 have:=h.1
 rw [Array.length_toList] at this
 omega
theorem Ok.room {n:Nat} {st:Lay} (h:Ok n st) {z:Str} (hz:z∈nms st.rooms):Nm z:=by
 obtain ⟨q,hq,rfl⟩:=zan.mp hz
 exact h.nr q hq
theorem Ok.line {n:Nat} {st:Lay} (h:Ok n st) {z:Str} (hz:z∈nms st.lines):Nm z:=by
 obtain ⟨q,hq,rfl⟩:=zan.mp hz
 exact (h.nl q hq).1
theorem Ok.drain {n:Nat} {st:Lay} (h:Ok n st) {z:Str} (hz:z∈nms st.drains):Nm z:=by
 obtain ⟨q,hq,rfl⟩:=zan.mp hz
 exact (h.nd q hq).1
theorem Ok.source {n:Nat} {st:Lay} (h:Ok n st) {z:Str} (hz:z∈nms st.pushed):Nm z:=by
 obtain ⟨q,hq,rfl⟩:=zan.mp hz
 exact h.np q hq
theorem b1k.lock {C:Addr} {S:SS} {L a b c d p:Addr} {st:Lay} {kvs:List (Key × D)} (h:b1k C S L a b c d st) (h1:p≠L) (h2:p≠a) (h3:p≠b) (h4:p≠c) (h5:p≠d):b1k C (S.set p (.loc kvs)) L a b c d st :=
 ⟨by rw [zaa h1.symm];exact h.L,by rw [zaa h2.symm];exact h.a,by rw [zaa h3.symm];exact h.b,by rw [zaa h4.symm];exact h.c,by rw [zaa h5.symm];exact h.d⟩
variable {K:zbj}
theorem b5o {G:Gs} {δ:DS} {S:SS} {Y:XD'} {F:SE} {tg:List Nat} {e:RE} (hm:G.m0=none) (h:den G.toGm e δ S Y fun d S1=>a1E tg false d δ S1 F.nx):a0n G (.asg tg false e) δ S Y F:=by rw [a0n];exact ⟨fun _=>hm,h⟩
theorem b8y {G:Gs} {δ:DS} {S:SS} {Y:XD'} {F:SE} {i:Nat} {a:Addr} {ds:List D} {r:RSs} (at_i:δ[i]?=some (some (.obj a))) (at_a:S a=some (.lst ds)) (h:a0c G r (δ.set i (some (.lst ds))) (S.del a) Y F):a0c G (.frz i r) δ S Y F:=by
 rw [a0c]
 exact .inr ⟨a,at_i,.inl ⟨ds,at_a,h⟩⟩
theorem b0U {G:Gs} {δ:DS} {S:SS} {Y:XD'} {F:SE} {i:Nat} {a:Addr} {ds:List (Key × D)} {r:RSs} (at_i:δ[i]?=some (some (.obj a))) (at_a:S a=some (.dic ds)) (h:a0c G r (δ.set i (some (.dic ds))) (S.del a) Y F):a0c G (.frz i r) δ S Y F:=by
 rw [a0c]
 exact .inr ⟨a,at_i,.inr ⟨ds,at_a,h⟩⟩
theorem b5P.nil {rs zs:List Str}:b5P rs zs []:=⟨List.nodup_nil,Nat.zero_le _,fun _ h=>nomatch h⟩
theorem b5P.add {rs zs:List Str} {z x y:Str} {k:Int} {ls:List (Str × Str × Str × Int)} (h:b5P rs zs ls) (new:z∉zs) (hx:x∈rs) (hy:y∈rs) (ne:y≠x) (k0:0≤k) (k1:k≤99):b5P rs (zs ++ [z]) (ls ++ [(z,x,y,k)]):=by
 refine ⟨?_,by rw [zaw,zaw];exact Nat.add_le_add_right h.few 1,fun q hq=>?_⟩
 ·unfold nms
  rw [zav]
  refine List.nodup_append.mpr ⟨h.u,by simp,fun a ha b hb e=>new ?_⟩
  have hb:b=z:=by simpa using hb
  obtain ⟨q,hq,rfl⟩:=zan.mp ha
  rw [← hb,← e]
  exact (h.one q hq).1
 ·rcases zap.mp hq with hq | hq
  ·exact ⟨zar _ (h.one q hq).1,(h.one q hq).2⟩
  ·cases zaj.mp hq
   exact ⟨zas _ (zaj.mpr rfl),hx,hy,ne,k0,k1⟩
theorem a3k {xs:List D} {k:Nat} (h:k≤xs.length):Sv.cutD xs (some (k:Int)) none=xs.drop k:=by
 unfold Sv.cutD
 rw [HT.sIx_none,HT.sIx_nat,Nat.min_eq_left h]
 exact List.take_of_length_le (by rw [List.length_drop];exact Nat.le_refl _)
theorem a0I.nd {S:SS} {b q:Addr} {c:Cell} {k:List (Key × D)} (hb:S b=some c) (hc:a0I c) (h:S q=some (.dic k)):q≠b:=fun e=>by
 obtain ⟨x,y,z,cells,rfl,_⟩:=hc
 rw [e,hb] at h
 cases h
theorem a1w {α:Type} {l:List (Str × α)} (h:(nms l).Nodup) {q:Str × α} (hq:q∈l):l.lookup q.1=some q.2:=by
 induction l with
 | nil=>cases hq
 | cons p l ih =>
  have h':=zbd.mp (show (p.1 :: nms l).Nodup from h)
  rw [List.lookup_cons]
  rcases zau.mp hq with rfl | hq
  ·rw [beq_self_eq_true]
  ·have ne:q.1≠p.1:=fun e=>h'.1 (by rw [← e];exact zan.mpr ⟨q,hq,rfl⟩)
   rw [beq_eq_false_iff_ne.mpr ne]
   exact ih h'.2 hq
variable {K:zbj}
theorem b1k.ne {C:Addr} {S:SS} {L a b c d q:Addr} {st:Lay} {k:List (Key × D)} (h:b1k C S L a b c d st) (hq:S q=some (.dic k)):L≠q:=fun e=>by
 have:=h.L
 rw [e,hq] at this
 cases this
theorem a5E.rooms {C:Addr} {S:SS} {L a b c d:Addr} {st:Lay} (h:a5E C S L a b c d st) (x:List (Str × Unit)):a5E C (S.set a (.dic (a1t fU x))) L a b c d { st with rooms:=x } :=
 ⟨⟨by rw [zaa (h.s.ne h.s.a)];exact h.s.L,zab,by rw [zaa h.ab.symm];exact h.s.b,by rw [zaa h.ac.symm];exact h.s.c,by rw [zaa h.ad.symm];exact h.s.d⟩,h.ab,h.ac,h.ad,h.bc,h.bd,h.cd⟩
theorem a5E.lines {C:Addr} {S:SS} {L a b c d:Addr} {st:Lay} (h:a5E C S L a b c d st) (x:List (Str × Str × Str × Int)):a5E C (S.set b (.dic (a1t fL x))) L a b c d { st with lines:=x } :=
 ⟨⟨by rw [zaa (h.s.ne h.s.b)];exact h.s.L,by rw [zaa h.ab];exact h.s.a,zab,by rw [zaa h.bc.symm];exact h.s.c,by rw [zaa h.bd.symm];exact h.s.d⟩,h.ab,h.ac,h.ad,h.bc,h.bd,h.cd⟩
theorem a5E.drains {C:Addr} {S:SS} {L a b c d:Addr} {st:Lay} (h:a5E C S L a b c d st) (x:List (Str × Str)):a5E C (S.set c (.dic (a1t fS x))) L a b c d { st with drains:=x } :=
 ⟨⟨by rw [zaa (h.s.ne h.s.c)];exact h.s.L,by rw [zaa h.ac];exact h.s.a,by rw [zaa h.bc];exact h.s.b,zab,by rw [zaa h.cd.symm];exact h.s.d⟩,h.ab,h.ac,h.ad,h.bc,h.bd,h.cd⟩
theorem a5E.pushed {C:Addr} {S:SS} {L a b c d:Addr} {st:Lay} (h:a5E C S L a b c d st) (x:List (Str × Unit)):a5E C (S.set d (.dic (a1t fU x))) L a b c d { st with pushed:=x } :=
 ⟨⟨by rw [zaa (h.s.ne h.s.d)];exact h.s.L,by rw [zaa h.ad];exact h.s.a,by rw [zaa h.bd];exact h.s.b,by rw [zaa h.cd];exact h.s.c,zab⟩,h.ab,h.ac,h.ad,h.bc,h.bd,h.cd⟩
theorem a5E.off {C:Addr} {S:SS} {L a b c d q:Addr} {st:Lay} {x:Cell} (h:a5E C S L a b c d st) (h1:q≠L) (h2:q≠a) (h3:q≠b) (h4:q≠c) (h5:q≠d):a5E C (S.set q x) L a b c d st :=
 ⟨⟨by rw [zaa h1.symm];exact h.s.L,by rw [zaa h2.symm];exact h.s.a,by rw [zaa h3.symm];exact h.s.b,by rw [zaa h4.symm];exact h.s.c,by rw [zaa h5.symm];exact h.s.d⟩,h.ab,h.ac,h.ad,h.bc,h.bd,h.cd⟩
theorem a8O {zs:List Str} {z:Str}:units (zs ++ [z])=units zs ++ [(z,())]:=by unfold units;rw [zav];rfl
theorem take_snoc {α:Type} {l:List α} {i:Nat} {x:α} (h:l[i]?=some x):l.take (i + 1)=l.take i ++ [x]:=by rw [List.take_add_one,h];rfl
theorem b3p {l:List Str} {i:Nat} {z:Str} (u:l.Nodup) (h:l[i]?=some z):z∉l.take i:=fun hm=>by
 obtain ⟨j,hj⟩:=List.mem_iff_getElem?.mp hm
 have hji:j < i:=by have:=(List.getElem?_eq_some_iff.mp hj).1;rw [List.length_take] at this;omega
 rw [List.getElem?_take_of_lt hji] at hj
 have:=(List.getElem?_inj (List.getElem?_eq_some_iff.mp hj).1 u).mp (hj.trans h.symm)
 omega
def part (w:Wo) (i j k n:Nat):Lay:=⟨units (w.rooms.take i),w.lines.take k,w.drains.take j,units (w.srcs.take n),false⟩
structure Ld (C:Addr) (S S':SS) (L a b c d M e:Addr) (w:Wo) (st:Lay) (ke:Cell):Prop where
 nw:∀ q,S q≠none→q≠L∧q≠a∧q≠b∧q≠c∧q≠d
 mw:MW S M e 0 w
 lay:a5E C S' L a b c d st
 at_M:S' M=some (.dic (mW w e 0))
 at_e:S' e=some ke
 rest:∀ q,S q≠none→q≠e→S' q=S q
section
variable {C:Addr} {S S':SS} {L a b c d M e:Addr} {w:Wo} {st:Lay} {ke:Cell}
theorem Ld.set (h:Ld C S S' L a b c d M e w st ke) {q:Addr} {x:Cell} {st':Lay} (hq:q=L∨q=a∨q=b∨q=c∨q=d) (l:a5E C (S'.set q x) L a b c d st'):Ld C S (S'.set q x) L a b c d M e w st' ke:=by
 have ne:∀ {r:Addr},S r≠none→r≠q:=fun {r} hr=>by
  obtain ⟨h1,h2,h3,h4,h5⟩:=h.nw r hr
  rcases hq with rfl | rfl | rfl | rfl | rfl <;> assumption
 have th:∀ {r:Addr} {y:Cell},S r=some y→S r≠none:=fun h z=>by rw [h] at z;cases z
 exact ⟨h.nw,h.mw,l,by rw [zaa (ne (th h.mw.M))];exact h.at_M,by rw [zaa (ne (th h.mw.e))];exact h.at_e,fun r hr h1=>by rw [zaa (ne hr)];exact h.rest r hr h1⟩
end
variable {K:zbj}
theorem b4r {G:Gm} {S:SS} {zs:List D} {Q:Bool→Prop} (k:Q true):∃ t b,tyD S (.lst zs)=some t∧a2L G S (.lst zs)∧PySem.W.kitOne G.K t ((Cn.ty "list").val G)=some b∧Q b:=a5V rfl trivial rfl k
theorem a4B {q:Str × Str × Str × Int} {x y:Str} (ne:q.2.2.1≠q.2.1) (h:a4P q x y):(if q.2.1=x then q.2.2.1 else q.2.1)=y:=by
 rcases h with ⟨rfl,rfl⟩ | ⟨rfl,rfl⟩
 ·rw [if_pos rfl]
 ·rw [if_neg (Ne.symm ne)]
theorem b5q {w:Wo} (ok:a5B w) {z:Str} (h:z∈a2G w):Nm z∧∃ q,w.lay.lines.lookup z=some q∧q.2.2≠0:=by
 obtain ⟨q,hq,rfl⟩:=zan.mp h
 obtain ⟨h1,h2⟩:=zay.mp hq
 refine ⟨(ok.ln q h1).1,q.2,a1w ok.lu h1,?_⟩
 have:=of_decide_eq_true h2
 omega
theorem b5M.nm {w:Wo} {shut rs:List Str} (ok:a5B w) (h:b5M w shut rs):(∀ z∈shut,Nm z)∧∀ z∈rs,Nm z:=⟨fun z hz=>(b5q ok (h.1 z hz)).1,fun z hz=>ok.rn z (h.2.2.2.1 z hz)⟩
theorem a03.few {w:Wo} {shut rs:List Str} {R:List (Str × Nat)} (ok:a5B w) (sub:∀ z∈rs,z∈w.rooms) (h:a03 w shut rs R):R.length≤24:=by
 have e:(nms R).length=R.length:=zag ..
 rw [← e]
 exact Nat.le_trans (a2Y h.u fun z hz=>(h.iff.mp hz).room ok sub) ok.r
variable {K:zbj}
theorem b0D {kvs:List (Key × D)} {k k':Key} {v:D}:k'∈(putD kvs k v).map (·.1)↔k'=k∨k'∈kvs.map (·.1):=by
 unfold putD
 split
 ·rename_i h
  rw [List.any_eq_true] at h
  obtain ⟨q,hq,e⟩:=h
  have e:=of_decide_eq_true e
  have same:(kvs.map fun kv=>if kv.1=k then (kv.1,v) else kv).map (·.1)=kvs.map (·.1):=by
   rw [zat]
   refine List.map_congr_left fun x _=>?_
   show (if x.1=k then (x.1,v) else x).1=x.1
   split <;> rfl
  rw [same]
  exact ⟨.inr,fun h=>h.elim (fun h=>by rw [h,← e];exact zan.mpr ⟨q,hq,rfl⟩) id⟩
 ·rw [zav,zap]
  show _∨k'∈[k]↔_
  rw [zaj]
  exact Or.comm
theorem merge_keys:∀ {more kvs:List (Key × D)} {k:Key},k∈(a0O kvs more).map (·.1)↔k∈kvs.map (·.1)∨k∈more.map (·.1)
 | [],kvs,k=>by unfold a0O;simp
 | (q,v) :: more,kvs,k=>by
  show k∈(a0O (putD kvs q v) more).map (·.1)↔_
  rw [merge_keys,b0D,zax,zau]
  constructor
  ·rintro ((h | h) | h)
   ·exact .inr (.inl h)
   ·exact .inl h
   ·exact .inr (.inr h)
  ·rintro (h | h | h)
   ·exact .inl (.inr h)
   ·exact .inl (.inl h)
   ·exact .inr h
theorem b2q {kvs:List (Key × D)} {k:Key} {v:D}:(putD kvs k v).length≤kvs.length + 1:=by
 unfold putD
 split
 ·rw [zag];omega
 ·rw [zaw];exact Nat.le_refl _
theorem a6c:∀ {more kvs:List (Key × D)},(a0O kvs more).length≤kvs.length + more.length
 | [],kvs=>Nat.le_refl _
 | (q,v) :: more,kvs=>by
  show (a0O (putD kvs q v) more).length≤_
  have h1:=a6c (more:=more) (kvs:=putD kvs q v)
  have h2:=b2q (kvs:=kvs) (k:=q) (v:=v)
  rw [zaz]
  omega
structure Seen (kvs:List (Key × D)) (acc:List (List Str)) (n:Nat):Prop where
 iff:∀ z:Str,(Sum.inr z:Key)∈kvs.map (·.1)↔a9Q acc z=true
 few:kvs.length≤24 * n
theorem Seen.add {α:Type} {f:α→D} {kvs:List (Key × D)} {acc:List (List Str)} {n:Nat} {l:List (Str × α)} {p:List Str} (h:Seen kvs acc n) (few:l.length≤24) (same:∀ z,z∈nms l↔z∈p):Seen (a0O kvs (a1t f l)) (acc ++ [p]) (n + 1):=by
 refine ⟨fun z=>?_,?_⟩
 ·rw [merge_keys,h.iff,b0g,a4E,a4E]
  have e:(Sum.inr z:Key)∈(l.map (·.1)).map Sum.inr↔z∈p:=by
   rw [← same z]
   exact ⟨fun h=>by obtain ⟨y,hy,e⟩:=zan.mp h;cases e;exact hy,fun h=>zan.mpr ⟨z,h,rfl⟩⟩
  rw [e]
  constructor
  ·rintro (⟨q,hq,hz⟩ | hz)
   ·exact ⟨q,zar _ hq,hz⟩
   ·exact ⟨p,zas _ (zaj.mpr rfl),hz⟩
  ·rintro ⟨q,hq,hz⟩
   rcases zap.mp hq with hq | hq
   ·exact .inl ⟨q,hq,hz⟩
   ·rw [zaj.mp hq] at hz
    exact .inr hz
 ·have h1:=a6c (more:=a1t f l) (kvs:=kvs)
  rw [a7W] at h1
  have:=h.few
  omega
variable {K:zbj}
section
open PySem.W
end
def isD (p:Int × Str):D:=.tup [.int p.1,.str p.2]
theorem a03.same {w:Wo} {shut rs:List Str} {R:List (Str × Nat)} (h:a03 w shut rs R) {z:Str} {a b:Nat} (ha:(z,a)∈R) (hb:(z,b)∈R):a=b:=by
 have h1:=a1w h.u ha
 have h2:=a1w h.u hb
 exact Option.some.inj (h1.symm.trans h2)
theorem a03.near {w:Wo} {shut rs:List Str} {R:List (Str × Nat)} (h:a03 w shut rs R) {z:Str} {n:Nat} (hz:(z,n + 1)∈R):∃ q∈w.lines,q.1∉shut∧∃ y,a4P q z y∧(y,n)∈R:=by
 have l:=h.lev _ hz
 generalize e:n + 1=k at l
 cases l with
 | zero _=>cases e
 | @succ n' x _ lx adj =>
  cases e
  obtain ⟨d,hd,hle⟩:=h.all _ x lx
  obtain ⟨d2,hd2,hle2⟩:=h.all _ z ((h.lev _ hd).succ adj)
  have e2:=h.same hz hd2
  have e3:d=n:=by
   have:d2≤d + 1:=hle2
   omega
  subst e3
  obtain ⟨q,hq,hs,en⟩:=adj.symm
  exact ⟨q,hq,hs,x,en,hd⟩
def a8P (w:Wo) (shut:List Str) (R:List (Str × Nat)) (n:Nat) (z:Str) (p:Str × Str):Prop:=(∃ q∈w.lines,q.1=p.1∧a4P q z p.2)∧p.1∉shut∧(p.2,n)∈R
variable {K:zbj}
theorem a7R {P:Str→Prop}:∀ {l:List Str},(∃ x∈l,P x)→∃ x∈l,P x∧∀ y∈l,P y→leS x y=true
 | [],h=>by obtain ⟨_,h,_⟩:=h;cases h
 | a :: l,h=>by
  have self:leS a a=true:=(a3I a a).elim id id
  by_cases h2:∃ x∈l,P x
  ·obtain ⟨m,hm,pm,lm⟩:=a7R h2
   by_cases pa:P a
   ·rcases a3I a m with k | k
    ·refine ⟨a,zal,pa,fun y hy py=>?_⟩
     rcases zau.mp hy with rfl | hy
     ·exact self
     ·exact a3J _ _ _ k (lm y hy py)
    ·refine ⟨m,zao _ hm,pm,fun y hy py=>?_⟩
     rcases zau.mp hy with rfl | hy
     ·exact k
     ·exact lm y hy py
   ·refine ⟨m,zao _ hm,pm,fun y hy py=>?_⟩
    rcases zau.mp hy with rfl | hy
    ·exact absurd py pa
    ·exact lm y hy py
  ·obtain ⟨x,hx,px⟩:=h
   rcases zau.mp hx with rfl | hx
   ·refine ⟨x,zal,px,fun y hy py=>?_⟩
    rcases zau.mp hy with rfl | hy
    ·exact self
    ·exact absurd ⟨y,hy,py⟩ h2
   ·exact absurd ⟨x,hx,px⟩ h2
section
variable {w:Wo} {shut rs:List Str} {R R':List (Str × Nat)}
theorem a03.mem (h:a03 w shut rs R) {z:Str} {d:Nat}:(z,d)∈R↔Lev w shut rs d z∧∀ m,Lev w shut rs m z→d≤m:=by
 constructor
 ·intro hz
  refine ⟨h.lev _ hz,fun m hm=>?_⟩
  obtain ⟨d2,h2,le⟩:=h.all m z hm
  rw [h.same hz h2]
  exact le
 ·rintro ⟨l,least⟩
  obtain ⟨d2,h2,le⟩:=h.all d z l
  have:=least d2 (h.lev _ h2)
  rw [show d=d2 from by omega]
  exact h2
theorem a5A.to (e:∀ z d,(z,d)∈R→(z,d)∈R') (e':∀ z d,(z,d)∈R'→(z,d)∈R) {d:Nat} {z:Str} {ws:List Str} (h:a5A w shut R d z ws):a5A w shut R' d z ws:=by
 induction h with
 | zero h=>exact .zero (e _ _ h)
 | succ hz nx _ ih=>exact .succ (e _ _ hz) ⟨nx.1,nx.2.1,e _ _ nx.2.2.1,fun q hq hs y' en hy=>nx.2.2.2 q hq hs y' en (e' _ _ hy)⟩ ih
theorem a5A.same (d1:a03 w shut rs R) (d2:a03 w shut rs R') {d:Nat} {z:Str} {ws:List Str} (h:a5A w shut R d z ws):a5A w shut R' d z ws :=
 h.to (fun z d h=>d2.mem.mpr (d1.mem.mp h)) fun z d h=>d1.mem.mpr (d2.mem.mp h)
theorem a5A.at (h:a5A w shut R d z ws):(z,d)∈R:=by
 cases h with
 | zero h=>exact h
 | succ h _ _=>exact h
theorem b1Y (ok:a5B w) {q r:Str × Str × Str × Int} (hq:q∈w.lines) (hr:r∈w.lines) (e:q.1=r.1):q=r:=by
 have h1:=a1w ok.lu hq
 rw [e,a1w ok.lu hr] at h1
 exact (Prod.ext e.symm (Option.some.inj h1)).symm
theorem b1u (ok:a5B w) {n n':Nat} {z l y y':Str} (h:a8P w shut R n z (l,y)) (h':a8P w shut R' n' z (l,y')):y=y':=by
 obtain ⟨⟨q,hq,e,en⟩,_⟩:=h
 obtain ⟨⟨r,hr,e',en'⟩,_⟩:=h'
 have:=b1Y ok hq hr (e.trans e'.symm)
 subst this
 have ne:=(ok.ln q hq).2.2.2.1
 exact (a4B ne en).symm.trans (a4B ne en')
theorem a2r {n:Nat} {z l y:Str} (h:b1l w shut R n z l y):a8P w shut R n z (l,y):=⟨h.1,h.2.1,h.2.2.1⟩
theorem b0m {n:Nat} {z l y:Str} (h:a8P w shut R n z (l,y)) (k:∀ l2 y2,a8P w shut R n z (l2,y2)→leS l l2=true):b1l w shut R n z l y :=
 ⟨h.1,h.2.1,h.2.2,fun q hq hs y' en hy=>k q.1 y' ⟨⟨q,hq,rfl,en⟩,hs,hy⟩⟩
theorem a4I {n:Nat} {z l y l2 y2:Str} (h:b1l w shut R n z l y) (k:a8P w shut R n z (l2,y2)):leS l l2=true:=by
 obtain ⟨⟨q,hq,e,en⟩,hs,hy⟩:=k
 have e:q.1=l2:=e
 have:=h.2.2.2 q hq (by rw [e];exact hs) y2 en hy
 rwa [e] at this
theorem b5x (ok:a5B w) {d:Nat} {z:Str} {ws ws':List Str} (h:a5A w shut R d z ws) (h':a5A w shut R d z ws'):ws=ws':=by
 induction h generalizing ws' with
 | zero _=>cases h';rfl
 | succ hz nx t ih =>
  cases h' with
  | succ hz' nx' t' =>
   have e:=a5i (a4I nx (a2r nx')) (a4I nx' (a2r nx))
   subst e
   have e:=b1u ok (a2r nx) (a2r nx')
   subst e
   rw [ih t']
theorem b3D (dist:a03 w shut rs R):∀ {d:Nat} {z:Str},(z,d)∈R→∃ ws,a5A w shut R d z ws
 | 0,z,h=>⟨_,.zero h⟩
 | d + 1,z,h=>by
  obtain ⟨q,hq,hs,y,en,hy⟩:=dist.near h
  obtain ⟨l,_,⟨y',cd⟩,least⟩:=a7R (P:=fun l=>∃ y,a8P w shut R d z (l,y)) (l:=nms w.lines) ⟨q.1,zan.mpr ⟨q,hq,rfl⟩,y,⟨q,hq,rfl,en⟩,hs,hy⟩
  obtain ⟨ws,hw⟩:=b3D dist cd.2.2
  exact ⟨_,.succ h (b0m cd fun l2 y2 c2=>least l2 (by obtain ⟨⟨r,hr,e,_⟩,_⟩:=c2;exact zan.mpr ⟨r,hr,e⟩) ⟨y2,c2⟩) hw⟩
def c4I (w:Wo) (shut:List Str) (R:List (Str × Nat)) (t:Nat) (P:List (Str × Str)) (z:Str) (ws:List Str):Prop :=
 ∃ l y t',ws=z :: l :: t'∧(l,z)∈P∧a8P w shut R t z (l,y)∧a5A w shut R t y t'∧∀ l2 y2,(l2,z)∈P→a8P w shut R t z (l2,y2)→leS l l2=true
structure GI (w:Wo) (shut:List Str) (R:List (Str × Nat)) (t:Nat) (P:List (Str × Str)) (G:List (Str × List Str)):Prop where
 u:(nms G).Nodup
 row:∀ z ws,(z,ws)∈G→(z,t + 1)∈R∧c4I w shut R t P z ws
 all:∀ l z y,(l,z)∈P→a8P w shut R t z (l,y)→(z,t + 1)∈R→z∈nms G
def c33 (q:Str × Str × Str × Int):List (Str × Str):=[(q.1,q.2.1),(q.1,q.2.2.1)]
theorem a7y {l:List (Str × Str × Str × Int)} {n:Nat} {z x y:Str} (sub:∀ q∈w.lines,q∈l) (h:a8P w shut R n z (x,y)):(x,z)∈l.flatMap c33:=by
 obtain ⟨⟨q,hq,e,en⟩,_⟩:=h
 refine List.mem_flatMap.mpr ⟨q,sub q hq,?_⟩
 rw [← (show q.1=x from e)]
 rcases en with ⟨e2,_⟩ | ⟨e2,_⟩
 ·rw [← e2];exact zal
 ·rw [← e2];exact zao _ zal
theorem GI.done {t:Nat} {B G:List (Str × List Str)} (ok:a5B w) (dist:a03 w shut rs R) (hB:b1j w shut R t B) (h:GI w shut R t (w.lines.flatMap c33) G):b1j w shut R (t + 1) (B ++ G)∧∀ z∈nms G,z∉nms B:=by
 have full:∀ z ws,(z,ws)∈G↔(z,t + 1)∈R∧a5A w shut R (t + 1) z ws:=fun z ws=>by
  have one:∀ ws,(z,ws)∈G→a5A w shut R (t + 1) z ws:=fun ws hz=>by
   obtain ⟨hr,l,y,t',rfl,hp,cd,way,least⟩:=h.row z ws hz
   exact .succ hr (b0m cd fun l2 y2 c2=>least l2 y2 (a7y (fun _ h=>h) c2) c2) way
  constructor
  ·exact fun hz=>⟨(h.row z ws hz).1,one ws hz⟩
  ·rintro ⟨hr,way⟩
   obtain ⟨q,hq,hs,y,en,hy⟩:=dist.near hr
   have cd:a8P w shut R t z (q.1,y):=⟨⟨q,hq,rfl,en⟩,hs,hy⟩
   obtain ⟨r,hr2,e⟩:=zan.mp (h.all q.1 z y (a7y (fun _ h=>h) cd) cd hr)
   obtain ⟨z',ws'⟩:=r
   have e:z'=z:=e
   subst e
   rw [b5x ok way (one ws' hr2)]
   exact hr2
 have apart:∀ z∈nms G,z∉nms B:=fun z hz hb=>by
  obtain ⟨q,hq,rfl⟩:=zan.mp hz
  obtain ⟨r,hr,e⟩:=zan.mp hb
  obtain ⟨d,hd,hR,_⟩:=(hB.mem r.1 r.2).mp hr
  have h1:=((full q.1 q.2).mp hq).1
  rw [e] at hR
  have:=dist.same h1 hR
  omega
 refine ⟨⟨?_,fun z ws=>?_⟩,apart⟩
 ·unfold nms
  rw [zav]
  exact List.nodup_append.mpr ⟨hB.u,h.u,fun a ha b hb e=>apart b hb (e ▸ ha)⟩
 ·rw [zap,hB.mem,full]
  constructor
  ·rintro (⟨d,hd,h1,h2⟩ | ⟨h1,h2⟩)
   ·exact ⟨d,by omega,h1,h2⟩
   ·exact ⟨t + 1,Nat.le_refl _,h1,h2⟩
  ·rintro ⟨d,hd,h1,h2⟩
   by_cases c:d≤t
   ·exact .inl ⟨d,c,h1,h2⟩
   ·have:d=t + 1:=by omega
    subst this
    exact .inr ⟨h1,h2⟩
theorem b1j.in_ {t:Nat} {B:List (Str × List Str)} (dist:a03 w shut rs R) (h:b1j w shut R t B) {z:Str}:z∈nms B↔∃ d,d≤t∧(z,d)∈R:=by
 constructor
 ·intro hz
  obtain ⟨q,hq,rfl⟩:=zan.mp hz
  obtain ⟨d,hd,hR,_⟩:=(h.mem q.1 q.2).mp hq
  exact ⟨d,hd,hR⟩
 ·rintro ⟨d,hd,hR⟩
  obtain ⟨ws,hw⟩:=b3D dist hR
  exact zan.mpr ⟨(z,ws),(h.mem z ws).mpr ⟨d,hd,hR,hw⟩,rfl⟩
end
variable {K:zbj}
section
variable {S S0 S1 S':SS} {w:Wo} {barred:List Str} {lm:Lms} {us:List (Str × Int)} {l x y r:Str} {p q A:Addr} {R:Str→Str→Str→Prop} {al:ArL} {n:Nat} {amt:Int} {st:List Stp} {s:Stp}
theorem Grows.refl:Grows S S:=fun _ _=>rfl
theorem Grows.trans (h:Grows S S1) (k:Grows S1 S'):Grows S S':=fun q hq=>by rw [k q (by rw [h q hq];exact hq),h q hq]
theorem Grows.set {c:Cell} (h:S q=none):Grows S (S.set q c):=fun a ha=>zaa fun e=>ha (by rw [e];exact h)
theorem Grows.at_ (h:Grows S S') {c:Cell} (e:S q=some c):S' q=some c:=by rw [h q (by rw [e];exact nofun)];exact e
end
variable {K:zbj}
section
variable {S S0 S1 S':SS} {w:Wo} {barred:List Str} {lm:Lms} {us:List (Str × Int)} {l x y r:Str} {p q A f:Addr} {R R':Str→Str→Str→Prop} {al:ArL} {n:Nat} {amt:Int} {st:List Stp} {s:Stp}
theorem a9R {α β:Type} {f:α→β}:∀ {l:List α},(l.map f).Nodup→∀ {a b:α},a∈l→b∈l→f a=f b→a=b
 | [],_,_,_,h,_,_=>nomatch h
 | x :: l,u,a,b,ha,hb,e=>by
  obtain ⟨n,u⟩:=zbd.mp (show (f x :: l.map f).Nodup from u)
  rcases zau.mp ha with e1 | ha <;> rcases zau.mp hb with e2 | hb
  ·rw [e1,e2]
  ·exact absurd (zan.mpr ⟨b,hb,by rw [← e,e1]⟩) n
  ·exact absurd (zan.mpr ⟨a,ha,by rw [e,e2]⟩) n
  ·exact a9R u ha hb e
structure b5A (S0 S:SS) (A:Addr) (R:Str→Str→Str→Prop) (n:Nat):Prop where
 ex:∃ al,a4p S A R n al∧∀ v∈al,S0 v.2.1=none
 f:S0 A=none
 g:Grows S0 S
theorem a4p.iff (h:a4p S A R n al) (e:∀ r x y,R' r x y↔R r x y):a4p S A R' n al :=
 ⟨h.top,h.u,h.few,h.at_,h.len,h.ad,fun r x y=>(e r x y).trans (h.mem r x y),h.nm⟩
theorem b5A.iff (h:b5A S0 S A R n) (e:∀ r x y,R' r x y↔R r x y):b5A S0 S A R' n:=by
 obtain ⟨al,a,b⟩:=h.ex
 exact ⟨⟨al,a.iff e,b⟩,h.f,h.g⟩
theorem a4p.more (h:a4p S A R n al) {k:Nat} (hk:n≤k):a4p S A R k al:=⟨h.top,h.u,Nat.le_trans h.few hk,h.at_,fun q hq=>Nat.le_trans (h.len q hq) hk,h.ad,h.mem,h.nm⟩
theorem b5A.more (h:b5A S0 S A R n) {k:Nat} (hk:n≤k):b5A S0 S A R k:=by
 obtain ⟨al,a,b⟩:=h.ex
 exact ⟨⟨al,a.more hk,b⟩,h.f,h.g⟩
theorem a4p.keep (h:a4p S A R n al) (g:∀ a,S a≠none→S' a=S a):a4p S' A R n al :=
 ⟨by rw [g A (by rw [h.top];exact nofun)];exact h.top,h.u,h.few,fun q hq=>by rw [g _ (by rw [h.at_ q hq];exact nofun)];exact h.at_ q hq,h.len,h.ad,h.mem,h.nm⟩
end
variable {K:zbj}
section
variable {S S0 S1 S':SS} {w:Wo} {barred:List Str} {lm:Lms} {l x y r z:Str} {p q A f:Addr} {R:Str→Str→Str→Prop} {srcs T Rm:List Str} {cm:List (Str × Option (Str × Str))} {k:Nat}
theorem a7r.add (h:a7r R srcs cm) {o:Option (Str × Str)} (hk:cm[k]?=some (z,o)) (hR:R z l y) (new:y∉nms cm):a7r R srcs (cm ++ [(y,some (l,z))]):=by
 refine ⟨?_,fun r hr=>?_,fun i r l' a hi=>?_⟩
 ·unfold nms
  rw [zav]
  refine List.nodup_append.mpr ⟨h.u,by simp,fun a ha b hb e=>?_⟩
  have hb:b=y:=by simpa using hb
  exact new (by rw [← hb,← e];exact ha)
 ·rcases zap.mp hr with hr | hr
  ·exact h.root r hr
  ·cases zaj.mp hr
 ·have kl:=(List.getElem?_eq_some_iff.mp hk).1
  by_cases hl:i < cm.length
  ·rw [List.getElem?_append_left hl] at hi
   obtain ⟨h1,j,o',hj,h2⟩:=h.par i r l' a hi
   exact ⟨h1,j,o',hj,by rw [List.getElem?_append_left (by omega)];exact h2⟩
  ·have:i=cm.length:=by
    have:=(List.getElem?_eq_some_iff.mp hi).1
    rw [zaw] at this
    have:i < cm.length + 1:=this
    omega
   subst this
   rw [List.getElem?_append_right (Nat.le_refl _),Nat.sub_self] at hi
   have hi:some (y,some (l,z))=some (r,some (l',a)):=hi
   cases hi
   exact ⟨hR,k,o,kl,by rw [List.getElem?_append_left kl];exact hk⟩
structure Sch (R:Str→Str→Str→Prop) (srcs T Rm:List Str) (cm:List (Str × Option (Str × Str))) (k:Nat) (ps:List (Str × Str)):Prop where
 ok:a7r R srcs cm
 s:∀ z∈srcs,z∈nms cm
 rm:∀ z∈nms cm,z∈Rm
 done:∀ j z o,j < k→cm[j]?=some (z,o)→z∉T∧∀ l y,R z l y→y∈nms cm
 now:∀ q∈ps,q.2∈nms cm
theorem Sch.few (h:Sch R srcs T Rm cm k []) (hr:Rm.length≤24):cm.length≤24:=by
 have h1:=a2Y h.ok.u h.rm
 have h2:(nms cm).length=cm.length:=zag ..
 omega
theorem a3N {o:Option (Str × Str)}:nms (cm ++ [(y,o)])=nms cm ++ [y]:=by unfold nms;rw [zav];rfl
theorem Sch.add {ps:List (Str × Str)} (h:Sch R srcs T Rm cm k ps) {o:Option (Str × Str)} (hk:cm[k]?=some (z,o)) (hR:R z l y) (new:y∉nms cm) (hy:y∈Rm):Sch R srcs T Rm (cm ++ [(y,some (l,z))]) k (ps ++ [(l,y)]):=by
 have kl:=(List.getElem?_eq_some_iff.mp hk).1
 have old:∀ {a:Str},a∈nms cm→a∈nms (cm ++ [(y,some (l,z))]):=fun {a} ha=>by rw [a3N];exact zar _ ha
 refine ⟨h.ok.add hk hR new,fun a ha=>old (h.s a ha),fun a ha=>?_,fun j a o' hj ha=>?_,fun q hq=>?_⟩
 ·rw [a3N] at ha
  rcases zap.mp ha with ha | ha
  ·exact h.rm a ha
  ·rw [zaj.mp ha];exact hy
 ·rw [List.getElem?_append_left (by omega)] at ha
  obtain ⟨h1,h2⟩:=h.done j a o' hj ha
  exact ⟨h1,fun l' y' hr=>old (h2 l' y' hr)⟩
 ·rcases zap.mp hq with hq | hq
  ·exact old (h.now q hq)
  ·rw [zaj.mp hq,a3N]
   exact zas _ zal
theorem Sch.next {ps:List (Str × Str)} (h:Sch R srcs T Rm cm k ps) {o:Option (Str × Str)} (hk:cm[k]?=some (z,o)) (hT:z∉T) (all:∀ l y,R z l y→(l,y)∈ps):Sch R srcs T Rm cm (k + 1) [] :=
 ⟨h.ok,h.s,h.rm,fun j a o' hj ha=>by
  by_cases e:j=k
  ·subst e
   rw [hk] at ha
   cases ha
   exact ⟨hT,fun l y hr=>h.now (l,y) (all l y hr)⟩
  ·exact h.done j a o' (by omega) ha,fun _ h=>nomatch h⟩
end
section
end
variable {K:zbj}
theorem unlock {S:SS} {p q:Addr} {x y z k:Cell} (ne:p≠q) (h:S p=some k):((((S.set q x).set p y).set q z).set p k)=S.set q z:=by
 funext t
 unfold SS.set
 by_cases e:t=p
 ·subst e;simp [ne,h]
 ·by_cases e2:t=q
  ·subst e2;simp [e]
  ·simp [e,e2]
section
variable {C:Addr} {S:SS} {A:BdA} {w:Bo}
theorem BdS.off (h:BdS C S A w) {q:Str × Rw} (hq:q∈w.rows):q.2.at_≠A.L∧q.2.at_≠A.a∧q.2.at_≠A.b∧q.2.at_≠A.c∧q.2.at_≠A.d∧q.2.at_≠A.e:=by
 have h1:=(List.nodup_append.mp h.nd).2.2
 have m:q.2.at_∈w.rows.map fun q=>q.2.at_:=zan.mpr ⟨q,hq,rfl⟩
 exact ⟨fun e=>h1 A.L (by simp) _ m e.symm,fun e=>h1 A.a (by simp) _ m e.symm,fun e=>h1 A.b (by simp) _ m e.symm,fun e=>h1 A.c (by simp) _ m e.symm,fun e=>h1 A.d (by simp) _ m e.symm,fun e=>h1 A.e (by simp) _ m e.symm⟩
theorem BdS.apart (h:BdS C S A w) {q q':Str × Rw} (hq:q∈w.rows) (hq':q'∈w.rows) (e:q.2.at_=q'.2.at_):q=q':=a9R (List.nodup_append.mp h.nd).2.1 hq hq' e
theorem BdS.new (h:BdS C S A w) {p:Addr} {x:Cell} (fp:S p=none):BdS C (S.set p x) A w :=
 ⟨by rw [zaa (zad h.L fp)];exact h.L,by rw [zaa (zad h.a fp)];exact h.a,by rw [zaa (zad h.b fp)];exact h.b,by rw [zaa (zad h.c fp)];exact h.c,by rw [zaa (zad h.d fp)];exact h.d,by rw [zaa (zad h.e fp)];exact h.e,fun q hq=>by rw [zaa (zad (h.ms q hq) fp)];exact h.ms q hq,h.nd⟩
end
def c6a (x:D) (z:Str):Bool:=match x with
 | .str j=>!decide (z=j)
 | _=>true
theorem b2X.form {r:Rw} {x:D} {js:List Str} (h:b2X r x js):(x=.non∨∃ j,x=.str j)∧js=r.jobs.filter (c6a x):=by
 rcases h with ⟨rfl,rfl⟩ | ⟨j,rfl,_,rfl⟩
 ·exact ⟨.inl rfl,(zbc.mpr fun _ _=>rfl).symm⟩
 ·exact ⟨.inr ⟨j,rfl⟩,List.filter_congr fun i _=>by show decide (i≠j)=!decide (i=j);by_cases e:i=j <;> simp [e]⟩
variable {K:zbj}
section
variable {C:Addr} {S:SS} {A:BdA} {w w':Bo}
theorem b3c {z:Str} {g:Rw→Rw} (e:w'.rows=a2H w.rows z g) (hg:∀ r,(g r).at_=r.at_):bl A w'=bl A w:=by
 unfold bl
 rw [e]
 refine congrArg _ ?_
 unfold a2H
 rw [zat]
 refine List.map_congr_left fun q _=>?_
 show (if q.1=z then (q.1,g q.2) else q).2.at_=q.2.at_
 split
 ·exact hg _
 ·rfl
theorem c5B:A.L∈bl A w:=zar _ (by simp)
theorem c5C:A.a∈bl A w:=zar _ (by simp)
theorem c5D:A.b∈bl A w:=zar _ (by simp)
theorem c5E:A.c∈bl A w:=zar _ (by simp)
theorem c5F:A.d∈bl A w:=zar _ (by simp)
theorem c5G:A.e∈bl A w:=zar _ (by simp)
theorem c5J {q:Str × Rw} (h:q∈w.rows):q.2.at_∈bl A w:=zas _ (zan.mpr ⟨q,h,rfl⟩)
theorem Keeps.refl:Keeps A w S S:=fun _ _=>rfl
end
variable {K:zbj}
theorem none_of {α:Type} {l:List (Str × α)} {z:Str} (h:z∉nms l):l.lookup z=none:=by
 cases e:l.lookup z with
 | none=>rfl
 | some x=>exact absurd (zan.mpr ⟨_,a1x e,rfl⟩) h
theorem BdS.same {C:Addr} {S S':SS} {A:BdA} {w:Bo} (h:BdS C S A w) (k:∀ q∈bl A w,S' q=S q):BdS C S' A w :=
 ⟨by rw [k _ c5B];exact h.L,by rw [k _ c5C];exact h.a,by rw [k _ c5D];exact h.b,by rw [k _ c5E];exact h.c,by rw [k _ c5F];exact h.d,by rw [k _ c5G];exact h.e,fun q hq=>by rw [k _ (c5J hq)];exact h.ms q hq,h.nd⟩
section
end
variable {K:zbj}
section
variable {S S':SS} {A:BdA} {w:Bo} {p:Addr} {J:Jb} {z:Str}
theorem a1U {r:Rw} (h:w.rows.lookup z=some r):rowAt w z=r:=by unfold rowAt;rw [h];rfl
theorem a5t (ok:a1W w) (hz:z∈nms w.rows):b5V w z (rowAt w z)∧(z,rowAt w z)∈w.rows:=by
 obtain ⟨r,look⟩:=a2q hz
 rw [a1U look]
 exact ⟨ok.row look,a1x look⟩
theorem a9u (ok:a1W w) {l:List Str} (u:l.Nodup) (sub:∀ z∈l,z∈nms w.rows):l.length≤52:=by
 have h1:=a2Y u sub
 have h2:(nms w.rows).length=w.rows.length:=zag ..
 have:=ok.r
 omega
theorem b3f (ok:a1W w) (hz:z∈nms w.rows):Nm z:=(a5t ok hz).1.z
theorem a06.few (h:a06 w J) (ok:a1W w):J.cutting.length≤52∧J.emptying.length≤52:=⟨a9u ok h.cu fun z hz=>h.dv z (.inl hz),a9u ok h.eu fun z hz=>h.dv z (.inr hz)⟩
theorem b1z (h:a06 w J) (ok:a1W w):(a1h w J).length≤6∧(a1h w J).Nodup∧∀ z∈a1h w J,Nm z:=by
 unfold a1h
 split
 ·exact ⟨by decide,List.nodup_nil,fun _ h=>nomatch h⟩
 ·rename_i e
  obtain ⟨_,h1,h2,h3,h4⟩:=ok.crew (h.cw e)
  exact ⟨h2,h3,h4⟩
end
variable {K:zbj}
section
variable {S S':SS} {A:BdA} {w w':Bo} {p:Addr} {J J':Jb} {z:Str}
theorem JbS.new {q:Addr} {x:Cell} (st:JbS K S A w p J) (fq:S q=none):JbS K (S.set q x) A w p J :=
 ⟨st.bd.new fq,st.ok,st.off,st.jk,by rw [zaa (zad st.p fq)];exact st.p⟩
theorem b0V (h:a06 w J) {q:Str × Str} (hq:q∈a4N J):q.1∈nms w.rows∧PS q.2:=by
 unfold a4N at hq
 rcases zap.mp hq with hq | hq
 ·obtain ⟨z,hz,rfl⟩:=zan.mp hq
  exact ⟨h.dv z (.inl hz),.inr rfl⟩
 ·obtain ⟨z,hz,rfl⟩:=zan.mp hq
  exact ⟨h.dv z (.inr hz),.inl rfl⟩
theorem b01 (ok:a1W w) (h:a06 w J) {q:Str × Str} (hq:q∈a6u w J):q.1∈nms w.rows∧PS q.2:=by
 unfold a6u at hq
 rcases zap.mp hq with hq | hq
 ·obtain ⟨z,hz,rfl⟩:=zan.mp hq
  exact ⟨h.dv z (.inr (List.mem_reverse.mp hz)),.inr rfl⟩
 ·obtain ⟨z,hz,rfl⟩:=zan.mp hq
  have hz:=h.dv z (.inl (List.mem_reverse.mp hz))
  exact ⟨hz,(a5t ok hz).1.home⟩
end
variable {K:zbj}
section
variable {S S':SS} {A:BdA} {w w':Bo} {p:Addr} {J J':Jb} {z:Str}
theorem a2E (ok:a1W w) (h:a06 w J) {q:Str × Option Str} (hq:q∈a0V w J):(q.1∈J.cutting∨q.1∈J.emptying)∧(∀ s,q.2=some s→PS s)∧J.now ≠ "by" ∧ J.now ≠ "ended" := by
 unfold a0V at hq
 have no:∀ {x:Str},J.now=x→x ≠ "by" → x ≠ "ended" → J.now ≠ "by" ∧ J.now ≠ "ended" := fun {x} e h1 h2=>by rw [e];exact ⟨h1,h2⟩
 split at hq
 ·rename_i e
  unfold a8f toS at hq
  obtain ⟨x,hx,rfl⟩:=zan.mp hq
  have hx:=(zay.mp hx).1
  refine ⟨?_,fun s e=>by cases e;exact (b0V h hx).2,no e (by decide) (by decide)⟩
  unfold a4N at hx
  rcases zap.mp hx with hx | hx
  ·obtain ⟨z,hz,rfl⟩:=zan.mp hx;exact .inl hz
  ·obtain ⟨z,hz,rfl⟩:=zan.mp hx;exact .inr hz
 ·split at hq
  ·rename_i e
   unfold b00 toS at hq
   obtain ⟨x,hx,rfl⟩:=zan.mp hq
   have hx:=(zay.mp hx).1
   refine ⟨?_,fun s e=>by cases e;exact (b01 ok h hx).2,no e (by decide) (by decide)⟩
   unfold a6u at hx
   rcases zap.mp hx with hx | hx
   ·obtain ⟨z,hz,rfl⟩:=zan.mp hx;exact .inr (List.mem_reverse.mp hz)
   ·obtain ⟨z,hz,rfl⟩:=zan.mp hx;exact .inl (List.mem_reverse.mp hz)
  ·split at hq
   ·rename_i e
    unfold a9j at hq
    obtain ⟨x,hx,rfl⟩:=zan.mp hq
    have hx:=(zay.mp hx).1
    refine ⟨?_,(fun s e=>nomatch e),no e (by decide) (by decide)⟩
    rcases zap.mp hx with hx | hx
    ·exact .inr (List.mem_reverse.mp hx)
    ·exact .inl (List.mem_reverse.mp hx)
   ·cases hq
theorem a06.mov (h:a06 w J) (rows:nms w'.rows=nms w.rows) (cr:∀ j,j∈nms w.crews→j∈nms w'.crews) (tg:∀ q∈w'.rows,J.named∈q.2.jobs→(∃ q0∈w.rows,q0.1=q.1∧J.named∈q0.2.jobs)∨q.1∈J.cutting∨q.1∈J.emptying):a06 w' J:=by
 refine ⟨h.nm,h.ph,h.cu,h.eu,h.ap,fun z hz=>by rw [rows];exact h.dv z hz,fun e=>cr _ (h.cw e),fun e q hq hj=>?_,h.by_,h.ab⟩
 rcases tg q hq hj with ⟨q0,h0,e0,hj0⟩ | h1
 ·rw [← e0];exact h.tg e q0 h0 hj0
 ·exact h1
theorem a06.hold {z pos j:Str} {a:Addr} (h:a06 w J) (hj:j=J.named→z∈J.cutting∨z∈J.emptying):a06 (doB w a (.hold z pos j)) J:=by
 refine h.mov a00 (fun _ h=>h) fun q hq hn=>?_
 obtain ⟨q0,h0,e,⟨e1,e2⟩ | ⟨_,rfl⟩⟩:=a1c (l:=w.rows) (g:=a3f pos j) hq
 ·rw [e2] at hn
  have hn:J.named∈a3P q0.2.jobs j ++ [j]:=hn
  rcases zap.mp hn with hn | hn
  ·exact .inl ⟨q0,h0,e,(a0C.mp hn).1⟩
  ·right
   rw [← e,e1]
   exact hj (zaj.mp hn).symm
 ·exact .inl ⟨q,h0,rfl,hn⟩
theorem a06.free {z j:Str} {a:Addr} (h:a06 w J):a06 (doB w a (.free z j)) J:=by
 refine h.mov a00 (fun _ h=>h) fun q hq hn=>?_
 obtain ⟨q0,h0,e,⟨e1,e2⟩ | ⟨_,rfl⟩⟩:=a1c (l:=w.rows) (g:=a2S j) hq
 ·rw [e2] at hn
  have hn:J.named∈a3P q0.2.jobs j:=hn
  exact .inl ⟨q0,h0,e,(a0C.mp hn).1⟩
 ·exact .inl ⟨q,h0,rfl,hn⟩
theorem a06.turn {z pos:Str} {a:Addr} (h:a06 w J):a06 (doB w a (.turn z pos)) J:=by
 refine h.mov a00 (fun _ h=>h) fun q hq hn=>?_
 obtain ⟨q0,h0,e,⟨e1,e2⟩ | ⟨_,rfl⟩⟩:=a1c (l:=w.rows) (g:=a7k pos) hq
 ·rw [e2] at hn
  cases hn
 ·exact .inl ⟨q,h0,rfl,hn⟩
theorem a06.stick {z:Str} {a:Addr} (h:a06 w J):a06 (doB w a (.stick z)) J:=h.mov rfl (fun _ h=>h) fun q hq hn=>.inl ⟨q,hq,rfl,hn⟩
theorem a06.mend {z:Str} {a:Addr} (h:a06 w J):a06 (doB w a (.mend z)) J:=h.mov rfl (fun _ h=>h) fun q hq hn=>.inl ⟨q,hq,rfl,hn⟩
theorem a06.crew {j:Str} {hs:List Str} {a:Addr} (h:a06 w J):a06 (doB w a (.crew j hs)) J :=
 h.mov rfl (fun i hi=>by
  show i∈nms (putL w.crews j hs)
  rw [a3M]
  split
  ·exact hi
  ·exact zar _ hi) fun q hq hn=>.inl ⟨q,hq,rfl,hn⟩
theorem a06.leave {j:Str} {a:Addr} (h:a06 w J) (ne:J.named≠j∨J.now = "ended"):a06 (doB w a (.leave j)) J:=by
 refine ⟨h.nm,h.ph,h.cu,h.eu,h.ap,h.dv,fun e=>?_,h.tg,h.by_,h.ab⟩
 show J.named∈nms (without w.crews j)
 rw [a0x,zay,zah]
 exact ⟨h.cw e,ne.resolve_right e⟩
theorem b0p (ok:a1W w) (h:a06 w J) (e:J.now = "away") (hs:a0V w J=[]):∀ q∈w.rows,J.named∉q.2.jobs:=fun q hq hn=>by
 have hd:=h.tg (by rw [e];decide) q hq hn
 unfold a0V at hs
 rw [if_neg (by rw [e];decide),if_neg (by rw [e];decide),if_pos e] at hs
 unfold a9j at hs
 have hf:=List.map_eq_nil_iff.mp hs
 have:=List.filter_eq_nil_iff.mp hf q.1 (by
  rcases hd with hd | hd
  ·exact zas _ (List.mem_reverse.mpr hd)
  ·exact zar _ (List.mem_reverse.mpr hd))
 refine this (zbg ?_)
 unfold a0X
 rw [a1U (a1w ok.ru hq)]
 exact hn
theorem a93 (ok:a1W w) (h:a06 w J) (e:J.now = "away") (hs:a0V w J=[]):a1D w (.leave J.named)=none:=by
 show a5I w J.named _=none
 unfold a5I
 rw [if_pos (h.cw (by rw [e];decide)),if_neg]
 rintro ⟨q,hq,hn⟩
 exact b0p ok h e hs q hq hn
theorem a4a (ok:a1W w) (h:a06 w J):a1W (a0H w J).1∧a06 (a0H w J).1 (a0H w J).2∧bl A (a0H w J).1=bl A w:=by
 unfold a0H
 split
 ·rename_i e
  split
  ·refine ⟨ok.doB (e:=.leave J.named) (p:=0) h.nm (a93 ok h e.1 e.2),?_,rfl⟩
   refine ⟨h.nm,(show ("ended" : Str)∈PHJ by decide),List.nodup_nil,List.nodup_nil,(fun _ h=>nomatch h),fun z hz=>(hz.elim (fun h=>nomatch h) fun h=>nomatch h),fun e=>absurd rfl e,fun e=>absurd rfl e,fun _=>⟨rfl,rfl⟩,h.ab⟩
  ·refine ⟨ok,?_,rfl⟩
   exact ⟨h.nm,(show ("by" : Str)∈PHJ by decide),List.nodup_nil,List.nodup_nil,(fun _ h=>nomatch h),fun z hz=>(hz.elim (fun h=>nomatch h) fun h=>nomatch h),fun _=>h.cw (by rw [e.1];decide),fun _ q hq hn=>absurd hn (b0p ok h e.1 e.2 q hq),fun _=>⟨rfl,rfl⟩,h.ab⟩
 ·exact ⟨ok,h,rfl⟩
theorem b3W {z pos j:Str} {a:Addr}:bl A (doB w a (.hold z pos j))=bl A w:=b3c (w':=doB w a (.hold z pos j)) rfl fun _=>rfl
theorem b3V {z j:Str} {a:Addr}:bl A (doB w a (.free z j))=bl A w:=b3c (w':=doB w a (.free z j)) rfl fun _=>rfl
theorem b4I (ok:a1W w) (h:a06 w J) (due:a6X w J=none):a1W (a4t w J)∧a06 (a4t w J) J∧bl A (a4t w J)=bl A w:=by
 unfold a6X at due
 unfold a4t
 split at due
 ·cases due
 ·rename_i z l e
  have hd:=a2E ok h (q:=(z,none)) (by rw [e];exact zal)
  exact ⟨ok.doB (e:=.free z J.named) ⟨b3f ok (h.dv _ hd.1),h.nm⟩ due,h.free,b3V⟩
 ·rename_i z pos l e
  have hd:=a2E ok h (q:=(z,some pos)) (by rw [e];exact zal)
  exact ⟨ok.doB (e:=.hold z pos J.named) ⟨b3f ok (h.dv _ hd.1),hd.2.1 pos rfl,h.nm⟩ due,h.hold fun _=>hd.1,b3W⟩
theorem a06.now (h:a06 w J) {x:Str} {b:Bool} (hx:x∈PHJ) (h1:x ≠ "by") (h2:x ≠ "ended") (h3:J.now ≠ "ended"):a06 w { J with ending:=b,now:=x } :=
 ⟨h.nm,hx,h.cu,h.eu,h.ap,h.dv,fun _=>h.cw h3,fun _=>h.tg h3,fun e=>e.elim (fun e=>absurd e h1) fun e=>absurd e h2,h.ab⟩
theorem a0N {l:List Str} {k:Option Rb} (h:phJ J l k=none):J.now∈l∧k=none:=by
 unfold phJ at h
 split at h
 ·rename_i e;exact ⟨e,h⟩
 ·cases h
theorem a3H:∀ {l:List Str},b1U w l=none→∀ z∈l,z∈nms w.rows
 | [],_,_,h=>nomatch h
 | a :: l,h,z,hz=>by
  unfold b1U at h
  split at h
  ·rename_i e
   rcases zau.mp hz with rfl | hz
   ·exact e
   ·exact a3H h z hz
  ·cases h
theorem b1A {hs:List Str} (h:a06 w J) (e:J.now ≠ "ended"):a1D w (.crew J.named hs)=none:=by
 simp only [a1D]
 rw [if_neg]
 rintro ⟨h1,_⟩
 exact h1 (h.cw e)
theorem b42 {l:List Str} {a b:Str} (u:l.Nodup) (hb:b∉l):(l.map fun x=>if x=a then b else x).Nodup:=by
 induction l with
 | nil=>exact List.nodup_nil
 | cons x l ih =>
  obtain ⟨n,u⟩:=zbd.mp u
  rw [zax]
  refine zbd.mpr ⟨fun hm=>?_,ih u fun h=>hb (zao _ h)⟩
  obtain ⟨y,hy,e⟩:=zan.mp hm
  by_cases e1:x=a <;> by_cases e2:y=a
  ·subst e1;subst e2;exact n hy
  ·rw [if_pos e1,if_neg e2] at e
   exact hb (zao _ (e ▸ hy))
  ·rw [if_neg e1,if_pos e2] at e
   exact hb (e ▸ zal)
  ·rw [if_neg e1,if_neg e2] at e
   exact n (e ▸ hy)
theorem a9r {e:Dj} (ok:a1W w) (h:a06 w J) (eok:e.Ok) (due:b6X w J e=none):(∀ x,e=.signOn x→b3G (a1h w J ++ [x]))∧(∀ x,e=.signOff x→b3G (a3P (a1h w J) x))∧∀ a b,e=.handOver a b→b3G ((a1h w J).map fun y=>if y=a then b else y):=by
 obtain ⟨c1,c2,c3⟩:=b1z h ok
 refine ⟨fun x q=>?_,fun x q=>?_,fun a b q=>?_⟩
 ·subst q
  obtain ⟨_,d⟩:=a0N due
  split at d
  ·cases d
  ·rename_i n
   split at d
   ·cases d
   ·rename_i n6
    refine ⟨by simp,by rw [zaw];show _ + 1≤6;omega,List.nodup_append.mpr ⟨c2,by simp,fun y hy v hv e=>?_⟩,fun z hz=>?_⟩
    ·rw [zaj.mp hv] at e;exact n (e ▸ hy)
    ·rcases zap.mp hz with hz | hz
     ·exact c3 z hz
     ·rw [zaj.mp hz];exact eok
 ·subst q
  obtain ⟨_,d⟩:=a0N due
  split at d
  ·cases d
  ·rename_i n
   split at d
   ·cases d
   ·rename_i n1
    have n:x∈a1h w J:=Decidable.of_not_not n
    refine ⟨fun e=>n1 ?_,Nat.le_trans (zbb _ _) c1,c2.filter _,fun z hz=>c3 z (a0C.mp hz).1⟩
    have all:∀ y∈a1h w J,y=x:=fun y hy=>Decidable.byContradiction fun ne=>by
     have:y∈a3P (a1h w J) x:=a0C.mpr ⟨hy,ne⟩
     rw [e] at this
     cases this
    match q:a1h w J with
    | []=>rw [q] at n;cases n
    | [_]=>rfl
    | a :: b :: l =>
     rw [q] at all c2
     have ea:=all a zal
     have eb:=all b (zao _ zal)
     exact absurd (zal (a:=b) (l:=l)) (by rw [eb,← ea];exact fun hm=>(zbd.mp c2).1 (by rw [eb,← ea];exact hm))
 ·subst q
  obtain ⟨hp,d⟩:=a0N due
  split at d
  ·cases d
  ·rename_i n
   split at d
   ·cases d
   ·rename_i nb
    refine ⟨fun e=>?_,by rw [zag];exact c1,b42 c2 nb,fun z hz=>?_⟩
    ·have:=List.map_eq_nil_iff.mp e
     rw [this] at n
     exact n (by simp at n)
    ·obtain ⟨y,hy,rfl⟩:=zan.mp hz
     split
     ·exact eok.2
     ·exact c3 y hy
theorem b6D {e:Dj} (ok:a1W w) (h:a06 w J) (eok:e.Ok) (due:b6X w J e=none):a1W (doJ w J e).1∧a06 (doJ w J e).1 (doJ w J e).2∧bl A (doJ w J e).1=bl A w:=by
 obtain ⟨m1,m2,m3⟩:=a9r ok h eok due
 have crew:∀ {hs:List Str},b3G hs→J.now ≠ "ended" → a1W (doB w 0 (.crew J.named hs))∧a06 (doB w 0 (.crew J.named hs)) J∧bl A (doB w 0 (.crew J.named hs))=bl A w:=fun {hs} hc ne =>
  ⟨ok.doB (e:=.crew J.named hs) ⟨h.nm,hc⟩ (b1A h ne),h.crew,rfl⟩
 cases e with
 | begin sw dr =>
  obtain ⟨hp,d⟩:=a0N due
  obtain ⟨⟨a1,a2,a3⟩,⟨b1,b2,b3⟩,ab⟩:=eok
  have e:=zaj.mp hp
  refine ⟨ok,⟨h.nm,(show ("still" : Str)∈PHJ by decide),a1,b1,ab,fun z hz=>a3H d z (zap.mpr hz),fun _=>h.cw (by rw [e];decide),fun _ q hq hn=>?_,fun e=>e.elim (fun e=>absurd (show ("still" : Str) = "by" from e) (by decide)) fun e=>absurd (show ("still" : Str) = "ended" from e) (by decide),h.ab⟩,rfl⟩
  have:=h.tg (by rw [e];decide) q hq hn
  obtain ⟨e1,e2⟩:=h.by_ (.inl e)
  rw [e1,e2] at this
  exact this.elim (fun h=>nomatch h) fun h=>nomatch h
 | step =>
  obtain ⟨o1,o2,o3⟩:=b4I (A:=A) ok h due
  obtain ⟨s1,s2,s3⟩:=a4a (A:=A) o1 o2
  exact ⟨s1,s2,s3.trans o3⟩
 | give =>
  obtain ⟨hp,d⟩:=a0N due
  have e:=zaj.mp hp
  exact ⟨ok,h.now (b:=J.ending) (by decide) (by decide) (by decide) (by rw [e];decide),rfl⟩
 | tryOut =>
  obtain ⟨hp,d⟩:=a0N due
  have e:=zaj.mp hp
  exact ⟨ok,h.now (b:=J.ending) (by decide) (by decide) (by decide) (by rw [e];decide),rfl⟩
 | goOn =>
  obtain ⟨hp,d⟩:=a0N due
  have e:=zaj.mp hp
  exact ⟨ok,h.now (b:=J.ending) (by decide) (by decide) (by decide) (by rw [e];decide),rfl⟩
 | putBy =>
  obtain ⟨hp,d⟩:=a0N due
  exact a4a ok (h.now (b:=false) (by decide) (by decide) (by decide) fun e=>by rw [e] at hp;revert hp;decide)
 | end_ =>
  obtain ⟨hp,d⟩:=a0N due
  exact a4a ok (h.now (b:=true) (by decide) (by decide) (by decide) fun e=>by rw [e] at hp;revert hp;decide)
 | signOn x =>
  obtain ⟨hp,d⟩:=a0N due
  exact crew (m1 x rfl) fun e=>by rw [e] at hp;revert hp;decide
 | signOff x =>
  obtain ⟨hp,d⟩:=a0N due
  exact crew (m2 x rfl) fun e=>by rw [e] at hp;revert hp;decide
 | handOver a b =>
  obtain ⟨hp,d⟩:=a0N due
  exact crew (m3 a b rfl) fun e=>by rw [e] at hp;revert hp;decide
theorem JbS.next {e:Dj} (st:JbS K S A w p J) (eok:e.Ok) (due:b6X w J e=none) (hp:S' p=some (b9f (jc K) A.L (doJ w J e).2)) (bd:BdS (bc K) S' A (doJ w J e).1):JbS K S' A (doJ w J e).1 p (doJ w J e).2:=by
 obtain ⟨h1,h2,h3⟩:=b6D (A:=A) st.ok st.jk eok due
 exact ⟨bd,h1,by rw [h3];exact st.off,h2,hp⟩
end
section
end
variable {K:zbj}
theorem b0d {α:Type} {l:List (Str × α)} {g:α→α} {z:Str} {r:α} (h:l.lookup z=some r):(a2H l z g).lookup z=some (g r):=by
 induction l with
 | nil=>cases h
 | cons q l ih =>
  obtain ⟨n,v⟩:=q
  show ((if n=z then (n,g v) else (n,v)) :: a2H l z g).lookup z=_
  rw [List.lookup_cons] at h
  by_cases e:z=n
  ·subst e
   rw [if_pos rfl,List.lookup_cons]
   have hb:(z == z)=true:=by simp
   rw [hb] at h ⊢
   cases h
   rfl
  ·rw [if_neg fun q=>e q.symm,List.lookup_cons]
   have hb:(z == n)=false:=by simpa using e
   rw [hb] at h ⊢
   exact ih h
theorem b0e {α:Type} {l:List (Str × α)} {g:α→α} {z y:Str} (ne:y≠z):(a2H l z g).lookup y=l.lookup y:=by
 induction l with
 | nil=>rfl
 | cons q l ih =>
  obtain ⟨n,v⟩:=q
  show ((if n=z then (n,g v) else (n,v)) :: a2H l z g).lookup y=_
  rw [List.lookup_cons]
  by_cases e:n=z
  ·rw [if_pos e,List.lookup_cons]
   have hb:(y == n)=false:=by simpa using fun q:y=n=>ne (q.trans e)
   dsimp only
   rw [hb]
   exact ih
  ·rw [if_neg e,List.lookup_cons]
   dsimp only
   cases y == n
   ·exact ih
   ·rfl
section
variable {S S':SS} {A:BdA} {w w':Bo} {p:Addr} {J J':Jb} {z y pos j:Str} {js:List (Addr × Jb)}
theorem a1J {g:Rw→Rw} (hz:z∈nms w.rows) (e:w'.rows=a2H w.rows z g):rowAt w' z=g (rowAt w z):=by
 obtain ⟨r,look⟩:=a2q hz
 unfold rowAt
 rw [e,b0d look,look]
 rfl
theorem a1d {g:Rw→Rw} (ne:y≠z) (e:w'.rows=a2H w.rows z g):rowAt w' y=rowAt w y:=by
 unfold rowAt
 rw [e,b0e ne]
theorem a8G (e:w'.rows=w.rows):rowAt w' y=rowAt w y:=by unfold rowAt;rw [e]
theorem a1q (e:rowAt w' z=rowAt w z):a0y w' J z pos=a0y w J z pos:=by unfold a0y posAt a0X;rw [e]
theorem Beh.stay (h:Beh w J) (e:∀ z,z∈J.cutting∨z∈J.emptying→∀ pos,a0y w' J z pos=a0y w J z pos):Beh w' J :=
 ⟨fun z hz hh y hy=>by rw [e y (.inl hy)];exact h.i1 z hz (by rw [← e z (.inr hz)];exact hh) y hy,fun hn=>⟨fun y hy=>by rw [e y (.inl hy)];exact (h.i2 hn).1 y hy,fun z hz=>by rw [e z (.inr hz)];exact (h.i2 hn).2 z hz⟩⟩
theorem b05 (hz:z∈nms w.rows) (due:a1D w (.turn z pos)=none):a0X w z=[]:=by
 obtain ⟨r,look⟩:=a2q hz
 have due:a6E w z _=none:=due
 unfold a6E at due
 rw [look] at due
 dsimp only at due
 unfold a0X
 rw [a1U look]
 by_cases h:r.jobs=[]
 ·exact h
 ·rw [if_neg h] at due;cases due
theorem a9B {e:Db} {k:Rw→Option Rb} (h:a6E w z k=none):z∈nms w.rows∧k (rowAt w z)=none:=by
 unfold a6E at h
 split at h
 ·rename_i r look
  exact ⟨b3y look,by rw [a1U look];exact h⟩
 ·cases h
theorem Beh.turn {a:Addr} (h:Beh w J) (due:a1D w (.turn z pos)=none):Beh (doB w a (.turn z pos)) J:=by
 have hz:=(a9B (e:=.turn z pos) (show a6E w z _=none from due)).1
 have hj:=b05 hz due
 refine h.stay fun y _ s=>?_
 by_cases e:y=z
 ·subst e
  have e2:a0X (doB w a (.turn y pos)) y=[]:=by unfold a0X;rw [a1J (w':=doB w a (.turn y pos)) (g:=a7k pos) hz rfl];rfl
  unfold a0y
  rw [hj,e2,zbf (zba (a:=J.named)),Bool.and_false,Bool.and_false]
 ·exact a1q (a1d (w':=doB w a (.turn z pos)) e rfl)
theorem Beh.rows (h:Beh w J) (e:w'.rows=w.rows):Beh w' J:=h.stay fun _ _ _=>a1q (a8G e)
theorem Beh.hold {a:Addr} (h:Beh w J) (ne:j≠J.named) (due:a1D w (.hold z pos j)=none):Beh (doB w a (.hold z pos j)) J:=by
 obtain ⟨hz,hk⟩:=a9B (e:=.hold z pos j) (show a6E w z _=none from due)
 refine h.stay fun y _ s=>?_
 by_cases e:y=z
 case neg=>exact a1q (a1d (w':=doB w a (.hold z pos j)) e rfl)
 subst e
 have er:=a1J (w':=doB w a (.hold y pos j)) (g:=a3f pos j) hz rfl
 unfold a0y posAt a0X
 rw [er]
 have et:decide (J.named∈(a3f pos j (rowAt w y)).jobs)=decide (J.named∈(rowAt w y).jobs):=by
  refine decide_eq_decide.mpr ?_
  show J.named∈a3P (rowAt w y).jobs j ++ [j]↔_
  rw [zap,a0C,zaj]
  exact ⟨fun h=>h.elim (·.1) fun e=>absurd e.symm ne,fun h=>.inl ⟨h,fun e=>ne e.symm⟩⟩
 rw [et]
 by_cases ht:J.named∈(rowAt w y).jobs
 ·have ep:(rowAt w y).pos=pos:=by
   unfold a5I at hk
   split at hk
   ·unfold a7X at hk
    split at hk
    ·assumption
    ·rw [if_neg] at hk
     ·cases hk
     ·intro e
      have:=List.filter_eq_nil_iff.mp e _ ht
      exact this (zbg fun e=>ne e.symm)
   ·cases hk
  show (decide (pos=s) && _)=(decide ((rowAt w y).pos=s) && _)
  rw [ep]
 ·rw [zbf ht,Bool.and_false,Bool.and_false]
theorem Beh.free {a:Addr} (h:Beh w J) (ne:j≠J.named) (due:a1D w (.free z j)=none):Beh (doB w a (.free z j)) J:=by
 obtain ⟨hz,hk⟩:=a9B (e:=.free z j) (show a6E w z _=none from due)
 refine h.stay fun y _ s=>?_
 by_cases e:y=z
 case neg=>exact a1q (a1d (w':=doB w a (.free z j)) e rfl)
 subst e
 have er:=a1J (w':=doB w a (.free y j)) (g:=a2S j) hz rfl
 unfold a0y posAt a0X
 rw [er]
 have et:decide (J.named∈(a2S j (rowAt w y)).jobs)=decide (J.named∈(rowAt w y).jobs):=by
  refine decide_eq_decide.mpr ?_
  show J.named∈a3P (rowAt w y).jobs j↔_
  rw [a0C]
  exact ⟨(·.1),fun h=>⟨h,fun e=>ne e.symm⟩⟩
 rw [et]
 by_cases ht:J.named∈(rowAt w y).jobs
 ·have ep:(a2S j (rowAt w y)).pos=(rowAt w y).pos:=by
   show (if (rowAt w y).jobs=[j] then (rowAt w y).home else (rowAt w y).pos)=_
   rw [if_neg]
   intro e
   rw [e] at ht
   exact ne (zaj.mp ht).symm
  rw [ep]
 ·rw [zbf ht,Bool.and_false,Bool.and_false]
theorem a2U (due:a6X w J=none):∃ z l,(a0V w J=(z,none) :: l∧a4t w J=doB w 0 (.free z J.named)∧a1D w (.free z J.named)=none)∨∃ pos,a0V w J=(z,some pos) :: l∧a4t w J=doB w 0 (.hold z pos J.named)∧a1D w (.hold z pos J.named)=none:=by
 unfold a6X at due
 split at due
 ·cases due
 ·rename_i z l e
  exact ⟨z,l,.inl ⟨e,by unfold a4t;rw [e],due⟩⟩
 ·rename_i z pos l e
  exact ⟨z,l,.inr ⟨pos,e,by unfold a4t;rw [e],due⟩⟩
theorem Beh.other {e:Dj} (h:Beh w J) (ne:J'.named≠J.named) (due:b6X w J' e=none):Beh (doJ w J' e).1 J:=by
 have set:∀ {w2:Bo} {J2:Jb},Beh w2 J→Beh (a0H w2 J2).1 J:=fun {w2 J2} h=>by
  unfold a0H
  split
  ·split
   ·exact h.rows rfl
   ·exact h
  ·exact h
 cases e with
 | step =>
  obtain ⟨z,l,⟨_,e2,d⟩ | ⟨pos,_,e2,d⟩⟩:=a2U due
  ·exact set (by rw [e2];exact h.free ne d)
  ·exact set (by rw [e2];exact h.hold ne d)
 | putBy=>exact set h
 | end_=>exact set h
 | begin sw dr=>exact h
 | give=>exact h
 | tryOut=>exact h
 | goOn=>exact h
 | signOn x=>exact h.rows rfl
 | signOff x=>exact h.rows rfl
 | handOver a b=>exact h.rows rfl
theorem a3E {α:Type} {f:α→Bool} {l1 l2:List α} {x:α} {t:List α} (h:(l1 ++ l2).filter f=x :: t):(x∈l1∧f x=true)∨(x∈l2∧f x=true∧∀ y∈l1,f y=false):=by
 rw [List.filter_append] at h
 cases q:l1.filter f with
 | nil =>
  rw [q,List.nil_append] at h
  have hx:x∈l2.filter f:=by rw [h];exact zal
  exact .inr ⟨(zay.mp hx).1,(zay.mp hx).2,fun y hy=>by simpa using List.filter_eq_nil_iff.mp q y hy⟩
 | cons a s =>
  rw [q] at h
  have e:a=x:=by
   have:=congrArg List.head? h
   simpa using this
  have hx:x∈l1.filter f:=by rw [q,e];exact zal
  exact .inl ⟨(zay.mp hx).1,(zay.mp hx).2⟩
theorem a3s {l:List (Str × Str)} {q:Str × Option Str} {t:List (Str × Option Str)} (h:toS l=q :: t):∃ a l2,l=a :: l2∧q=(a.1,some a.2):=by
 unfold toS at h
 cases l with
 | nil=>cases h
 | cons a l2=>exact ⟨a,l2,rfl,by rw [zax] at h;exact (List.cons.inj h).1.symm⟩
theorem Beh.move (ok:a1W w) (jk:a06 w J) (h:Beh w J) (due:a6X w J=none) (ng:J.now ≠ "given"):Beh (a4t w J) J:=by
 obtain ⟨z,l,⟨es,em,d⟩ | ⟨pos,es,em,d⟩⟩:=a2U due
 ·-- a tag is taken off: going away
  rw [em]
  have hd:=a2E ok jk (q:=(z,none)) (by rw [es];exact zal)
  have hz:=jk.dv z hd.1
  have oth:∀ y,y≠z→∀ s,a0y (doB w 0 (.free z J.named)) J y s=a0y w J y s:=fun y ne s=>a1q (a1d (w':=doB w 0 (.free z J.named)) ne rfl)
  have off:∀ s,a0y (doB w 0 (.free z J.named)) J z s=false:=fun s=>by
   unfold a0y a0X
   rw [a1J (w':=doB w 0 (.free z J.named)) (g:=a2S J.named) hz rfl]
   have:J.named∉(a2S J.named (rowAt w z)).jobs:=fun h=>(a0C.mp (show J.named∈a3P (rowAt w z).jobs J.named from h)).2 rfl
   rw [zbf this,Bool.and_false]
  unfold a0V at es
  split at es
  ·obtain ⟨a,l2,_,e⟩:=a3s es;cases e
  ·split at es
   ·obtain ⟨a,l2,_,e⟩:=a3s es;cases e
   ·split at es
    ·unfold a9j at es
     obtain ⟨x,t,ef,ex⟩:∃ x t,((J.emptying.reverse ++ J.cutting.reverse).filter fun z=>decide (J.named∈a0X w z))=x :: t∧x=z:=by
      cases q:(J.emptying.reverse ++ J.cutting.reverse).filter fun z=>decide (J.named∈a0X w z) with
      | nil=>rw [q] at es;cases es
      | cons x t=>rw [q] at es;exact ⟨x,t,rfl,by rw [zax] at es;exact (Prod.mk.inj (List.cons.inj es).1).1⟩
     subst ex
     refine ⟨fun y hy hh c hc=>?_,fun e=>absurd e ng⟩
     by_cases ey:y=x
     ·rw [ey,off] at hh;cases hh
     rw [oth y ey] at hh
     rcases a3E ef with ⟨h1,_⟩ | ⟨h1,_,h3⟩
     ·have h1:=List.mem_reverse.mp h1
      rw [oth c fun e=>jk.ap x h1 (e ▸ hc)]
      exact h.i1 y hy hh c hc
     ·have:=h3 y (List.mem_reverse.mpr hy)
      unfold a0y at hh
      rw [this,Bool.and_false] at hh
      cases hh
    ·cases es
 ·rw [em]
  have hd:=a2E ok jk (q:=(z,some pos)) (by rw [es];exact zal)
  have hz:=jk.dv z hd.1
  have oth:∀ y,y≠z→∀ s,a0y (doB w 0 (.hold z pos J.named)) J y s=a0y w J y s:=fun y ne s=>a1q (a1d (w':=doB w 0 (.hold z pos J.named)) ne rfl)
  have own:∀ s,a0y (doB w 0 (.hold z pos J.named)) J z s=decide (pos=s):=fun s=>by
   unfold a0y posAt a0X
   rw [a1J (w':=doB w 0 (.hold z pos J.named)) (g:=a3f pos J.named) hz rfl]
   have:J.named∈(a3f pos J.named (rowAt w z)).jobs:=zas _ zal
   rw [zbg this,Bool.and_true]
   rfl
  unfold a0V at es
  split at es
  ·unfold a8f at es
   obtain ⟨a,l2,ef,ea⟩:=a3s es
   obtain ⟨rfl,e2⟩:=Prod.mk.inj ea
   cases Option.some.inj e2
   unfold a4N at ef
   rcases a3E ef with ⟨h1,_⟩ | ⟨h1,_,h3⟩
   ·obtain ⟨x,hx,rfl⟩:=zan.mp h1
    refine ⟨fun y hy hh c hc=>?_,fun e=>absurd e ng⟩
    have ey:y≠x:=fun e=>jk.ap y hy (e ▸ hx)
    rw [oth y ey] at hh
    by_cases ec:c=x
    ·rw [ec,own];rfl
    ·rw [oth c ec];exact h.i1 y hy hh c hc
   ·obtain ⟨x,hx,rfl⟩:=zan.mp h1
    refine ⟨fun y hy hh c hc=>?_,fun e=>absurd e ng⟩
    rw [oth c fun e=>jk.ap x hx (by have e:c=x:=e;rw [← e];exact hc)]
    have:=h3 (c, "shut") (zan.mpr ⟨c,hc,rfl⟩)
    simpa using this
  ·split at es
   ·unfold b00 at es
    obtain ⟨a,l2,ef,ea⟩:=a3s es
    obtain ⟨rfl,e2⟩:=Prod.mk.inj ea
    cases Option.some.inj e2
    unfold a6u at ef
    rcases a3E ef with ⟨h1,_⟩ | ⟨h1,_,h3⟩
    ·obtain ⟨x,hx,rfl⟩:=zan.mp h1
     have hx:=List.mem_reverse.mp hx
     refine ⟨fun y hy hh c hc=>?_,fun e=>absurd e ng⟩
     by_cases ey:y=x
     ·rw [ey,own] at hh
      exact absurd hh (by show ¬ decide (("shut" : Str) = "open")=true;decide)
     rw [oth y ey] at hh
     rw [oth c fun e=>jk.ap x hx (by have e:c=x:=e;rw [← e];exact hc)]
     exact h.i1 y hy hh c hc
    ·obtain ⟨x,hx,rfl⟩:=zan.mp h1
     have hx:=List.mem_reverse.mp hx
     refine ⟨fun y hy hh c hc=>?_,fun e=>absurd e ng⟩
     exfalso
     rw [oth y fun e=>jk.ap y hy (e ▸ hx)] at hh
     have:=h3 (y, "shut") (zan.mpr ⟨y,List.mem_reverse.mpr hy,rfl⟩)
     have this:posAt w y = "shut" := by simpa using this
     unfold a0y at hh
     rw [this] at hh
     exact absurd hh (by rw [zbf (show ¬ ("shut" : Str) = "open" by decide),Bool.false_and];decide)
   ·split at es
    ·unfold a9j at es
     cases q:(J.emptying.reverse ++ J.cutting.reverse).filter fun z=>decide (J.named∈a0X w z) with
     | nil=>rw [q] at es;cases es
     | cons x t=>rw [q] at es;cases es
    ·cases es
theorem Beh.empty (h1:J.cutting=[]) (h2:J.emptying=[]):Beh w J:=⟨(fun z hz=>by rw [h2] at hz;cases hz),fun _=>⟨(fun y hy=>by rw [h1] at hy;cases hy),fun z hz=>by rw [h2] at hz;cases hz⟩⟩
theorem a1v {J2:Jb} (e:J2.named=J.named):a0y w J2 z pos=a0y w J z pos:=by unfold a0y;rw [e]
theorem Beh.phase (h:Beh w J) {J2:Jb} (en:J2.named=J.named) (ec:J2.cutting=J.cutting) (ee:J2.emptying=J.emptying) (i2:J2.now = "given" → (∀ y∈J.cutting,a0y w J y "shut" = true)∧∀ z∈J.emptying,a0y w J z "open" = true):Beh w J2 :=
 ⟨fun z hz hh y hy=>by rw [a1v en];rw [a1v en] at hh;rw [ee] at hz;rw [ec] at hy;exact h.i1 z hz hh y hy,fun e=>by
  obtain ⟨a,b⟩:=i2 e
  exact ⟨fun y hy=>by rw [a1v en];rw [ec] at hy;exact a y hy,fun z hz=>by rw [a1v en];rw [ee] at hz;exact b z hz⟩⟩
theorem Beh.settle (h:Beh w J) (ng:J.now ≠ "given"):Beh (a0H w J).1 (a0H w J).2:=by
 unfold a0H
 split
 ·split
  ·exact Beh.empty rfl rfl
  ·exact Beh.empty rfl rfl
 ·exact h
theorem Beh.own {e:Dj} (ok:a1W w) (jk:a06 w J) (h:Beh w J) (eok:e.Ok) (due:b6X w J e=none):Beh (doJ w J e).1 (doJ w J e).2:=by
 have no:∀ {x:Str},x ≠ "given" → ∀ {P:Prop},x = "given" → P:=fun {x} h {P} e=>absurd e h
 cases e with
 | begin sw dr =>
  obtain ⟨hp,_⟩:=a0N due
  have e:=zaj.mp hp
  obtain ⟨e1,e2⟩:=jk.by_ (.inl e)
  refine ⟨fun z hz hh=>?_,fun e=>absurd e (by show ¬ ("still" : Str) = "given";decide)⟩
  exfalso
  have hr:=a3H (a0N due).2 z (zas _ hz)
  have hb:J.named∈a0X w z:=by
   have hh:(decide (posAt w z = "open") && decide (J.named∈a0X w z))=true:=hh
   rw [zak] at hh
   exact of_decide_eq_true hh.2
  have:=jk.tg (by rw [e];decide) _ (a5t ok hr).2 hb
  rw [e1,e2] at this
  exact this.elim (fun h=>nomatch h) (fun h=>nomatch h)
 | step =>
  have ng:J.now ≠ "given" := fun e=>by
   have due:a6X w J=none:=due
   obtain ⟨z,l,⟨es,_⟩ | ⟨pos,es,_⟩⟩:=a2U due
   ·unfold a0V at es
    rw [if_neg (by rw [e];decide),if_neg (by rw [e];decide),if_neg (by rw [e];decide)] at es
    cases es
   ·unfold a0V at es
    rw [if_neg (by rw [e];decide),if_neg (by rw [e];decide),if_neg (by rw [e];decide)] at es
    cases es
  exact (Beh.move ok jk h due ng).settle ng
 | give =>
  obtain ⟨hp,d⟩:=a0N due
  have e:=zaj.mp hp
  refine h.phase rfl rfl rfl fun _=>?_
  have hs:a0V w J=[]:=by
   by_cases hs:a0V w J=[]
   ·exact hs
   ·rw [if_neg hs] at d;cases d
  unfold a0V at hs
  rw [if_pos e] at hs
  unfold a8f toS at hs
  have hf:=List.filter_eq_nil_iff.mp (List.map_eq_nil_iff.mp hs)
  unfold a4N at hf
  refine ⟨fun y hy=>?_,fun z hz=>?_⟩
  ·have:=hf (y, "shut") (zar _ (zan.mpr ⟨y,hy,rfl⟩))
   simpa using this
  ·have:=hf (z, "open") (zas _ (zan.mpr ⟨z,hz,rfl⟩))
   simpa using this
 | tryOut=>exact h.phase rfl rfl rfl (no (by show ¬ ("trial" : Str) = "given";decide))
 | goOn=>exact h.phase rfl rfl rfl (no (by show ¬ ("still" : Str) = "given";decide))
 | putBy=>exact (h.phase (J2:={ J with ending:=false,now := "away" }) rfl rfl rfl (no (by show ¬ ("away" : Str) = "given";decide))).settle (by show ¬ ("away" : Str) = "given";decide)
 | end_=>exact (h.phase (J2:={ J with ending:=true,now := "away" }) rfl rfl rfl (no (by show ¬ ("away" : Str) = "given";decide))).settle (by show ¬ ("away" : Str) = "given";decide)
 | signOn x=>exact h.rows rfl
 | signOff x=>exact h.rows rfl
 | handOver a b=>exact h.rows rfl
end
section
variable {S S':SS} {A:BdA} {w w':Bo} {p:Addr} {J J':Jb} {z y pos j:Str} {js:List (Addr × Jb)}
theorem a6H.one (h:a6H K S A w js) (hx:(p,J)∈js):JbS K S A w p J:=⟨h.bd,h.ok,h.off _ hx,h.jk _ hx,h.at_ _ hx⟩
theorem a6H.ne (h:a6H K S A w js) (hx:(p,J)∈js) {x:Addr × Jb} (hy:x∈js) (e:x.1≠p):x.2.named≠J.named:=fun en=>by
 have:=a9R h.nm hy hx en
 rw [this] at e
 exact e rfl
theorem a6H.cell (h:a6H K S A w js) {q:Addr} {c:Cell} (h1:q∉bl A w) (h2:∀ x∈js,x.1≠q):a6H K (S.set q c) A w js :=
 ⟨h.bd.same fun u hu=>zaa fun e=>h1 (e ▸ hu),h.ok,fun x hm=>by rw [zaa (h2 x hm)];exact h.at_ x hm,h.off,h.ad,h.jk,h.nm⟩
end
section
end
section
variable {g:Wo} {b:Bo} {w:Ws}
theorem b4M {α:Type} {l:List (Str × α)} {z y:Str}:y∈nms (without l z)↔y∈nms l∧y≠z:=by rw [a0x,zay,zah]
theorem a6a (ok:a5B g) {q:Str × Str × Str × Int} (h:q∈g.lines):g.lines.lookup q.1=some q.2:=a1w ok.lu h
theorem a9q (ok:a5B g) {q:Str × Str × Str × Int} (h:q∈g.lines):a9p g q.1=q.2.2.2:=by
 unfold a9p
 rw [a6a ok h]
end
section
variable {b b1:Bo} {J J1:Jb} {w:Ws} {j:Str}
structure Run (b:Bo) (J:Jb) (b1:Bo) (J1:Jb):Prop where
 rows:nms b1.rows=nms b.rows
 home:∀ q∈b1.rows,∃ q0∈b.rows,q0.1=q.1∧q.2.home=q0.2.home
 tl:(∀ q∈b.rows,q.2.jobs=[]→q.2.pos=q.2.home)→∀ q∈b1.rows,q.2.jobs=[]→q.2.pos=q.2.home
 cr:∀ i,i∈nms b1.crews↔i∈nms b.crews∧(J1.now = "ended" → i≠J.named)
 nm:J1.named=J.named
 ab:J1.about=J.about
 dv:(J1.cutting=J.cutting∧J1.emptying=J.emptying)∨J1.now = "by" ∨ J1.now = "ended"
theorem Run.same (nm:J1.named=J.named) (ab:J1.about=J.about) (dv:J1.cutting=J.cutting∧J1.emptying=J.emptying) (ne:J1.now ≠ "ended"):Run b J b J1 :=
 ⟨rfl,fun q hq=>⟨q,hq,rfl,rfl⟩,id,fun i=>⟨fun h=>⟨h,fun e=>absurd e ne⟩,And.left⟩,nm,ab,.inl dv⟩
theorem Run.crew {hs:List Str} (hj:J.named∈nms b.crews) (ne:J.now ≠ "ended"):Run b J (doB b 0 (.crew J.named hs)) J :=
 ⟨rfl,fun q hq=>⟨q,hq,rfl,rfl⟩,id,fun i=>by
  show i∈nms (putL b.crews J.named hs)↔_
  rw [a3M,if_pos hj]
  exact ⟨fun h=>⟨h,fun e=>absurd e ne⟩,And.left⟩,rfl,rfl,.inl ⟨rfl,rfl⟩⟩
theorem Run.settle (h:Run b J b1 J1) (ne:J1.now ≠ "ended"):Run b J (a0H b1 J1).1 (a0H b1 J1).2:=by
 unfold a0H
 split
 ·split
  ·refine ⟨h.rows,h.home,h.tl,fun i=>?_,h.nm,h.ab,.inr (.inr rfl)⟩
   show i∈nms (without b1.crews J1.named)↔_
   rw [b4M,h.cr,h.nm]
   exact ⟨fun ⟨⟨a,_⟩,c⟩=>⟨a,fun _=>c⟩,fun ⟨a,c⟩=>⟨⟨a,fun e=>absurd e ne⟩,c rfl⟩⟩
  ·exact ⟨h.rows,h.home,h.tl,fun i=>by rw [h.cr];exact ⟨fun ⟨a,_⟩=>⟨a,fun e=>absurd (show ("by" : Str) = "ended" from e) (by decide)⟩,fun ⟨a,_⟩=>⟨a,fun e=>absurd e ne⟩⟩,h.nm,h.ab,.inr (.inl rfl)⟩
 ·exact h
theorem Run.hold {z pos:Str} (ne:J.now ≠ "ended"):Run b J (doB b 0 (.hold z pos J.named)) J :=
 ⟨a00,fun q hq=>by
  obtain ⟨q0,h0,e,⟨_,e2⟩ | ⟨_,rfl⟩⟩:=a1c (l:=b.rows) (g:=a3f pos J.named) hq
  ·exact ⟨q0,h0,e,by rw [e2];rfl⟩
  ·exact ⟨q,h0,rfl,rfl⟩,fun t q hq hn=>by
  obtain ⟨q0,h0,e,⟨_,e2⟩ | ⟨_,rfl⟩⟩:=a1c (l:=b.rows) (g:=a3f pos J.named) hq
  ·rw [e2] at hn
   have hn:a3P q0.2.jobs J.named ++ [J.named]=[]:=hn
   cases List.append_eq_nil_iff.mp hn |>.2
  ·exact t q h0 hn,fun i=>⟨fun h=>⟨h,fun e=>absurd e ne⟩,And.left⟩,rfl,rfl,.inl ⟨rfl,rfl⟩⟩
theorem b4S {l:List Str} {z:Str} (u:l.Nodup) (h:a3P l z=[]):l=[]∨l=[z]:=by
 have all:∀ y∈l,y=z:=fun y hy=>Decidable.byContradiction fun e=>by
  have:=a0C.mpr ⟨hy,e⟩
  rw [h] at this
  cases this
 cases l with
 | nil=>exact .inl rfl
 | cons a l =>
  cases l with
  | nil=>exact .inr (by rw [all a (by simp)])
  | cons c l =>
   exfalso
   refine (zbd.mp u).1 ?_
   rw [all a (by simp),← all c (by simp)]
   exact zal
theorem Run.free {z:Str} (ok:a1W b) (ne:J.now ≠ "ended"):Run b J (doB b 0 (.free z J.named)) J :=
 ⟨a00,fun q hq=>by
  obtain ⟨q0,h0,e,⟨_,e2⟩ | ⟨_,rfl⟩⟩:=a1c (l:=b.rows) (g:=a2S J.named) hq
  ·exact ⟨q0,h0,e,by rw [e2];rfl⟩
  ·exact ⟨q,h0,rfl,rfl⟩,fun t q hq hn=>by
  obtain ⟨q0,h0,e,⟨_,e2⟩ | ⟨_,rfl⟩⟩:=a1c (l:=b.rows) (g:=a2S J.named) hq
  ·rw [e2] at hn ⊢
   have hn:a3P q0.2.jobs J.named=[]:=hn
   show (if q0.2.jobs=[J.named] then q0.2.home else q0.2.pos)=q0.2.home
   split
   ·rfl
   ·rename_i no
    rcases b4S (ok.rw_ q0 h0).ju hn with e | e
    ·exact t q0 h0 e
    ·exact absurd e no
  ·exact t q h0 hn,fun i=>⟨fun h=>⟨h,fun e=>absurd e ne⟩,And.left⟩,rfl,rfl,.inl ⟨rfl,rfl⟩⟩
theorem a5Q {α:Type} {l:List (Str × α)} {q:Str × α} (h:q∈l):q.1∈nms l:=zan.mpr ⟨q,h,rfl⟩
theorem b0n {α:Type} {l:List (Str × α)} {z:Str} (h:z∈nms l):∃ x,(z,x)∈l:=by
 obtain ⟨q,hq,rfl⟩:=zan.mp h
 exact ⟨q.2,hq⟩
end
section
end
section
end
section
variable {w:Ws} {g:Wo} {b:Bo} {J:Jb} {s X rs barred:List Str} {j:Str} {p:Addr}
theorem b4B (ok:a5B g) {l:Str} (h:l∈nms g.lines):Nm l:=by
 obtain ⟨q,hq⟩:=b0n h
 exact (ok.ln _ hq).1
end
variable {K:zbj}
section
variable {S S':SS} {X:WsA} {w:Ws} {q:Addr} {z:Str}
theorem c4a:X.p∈fw X w:=zar _ (by simp)
theorem c37:X.P∈fw X w:=zar _ (by simp)
theorem c38:X.Q∈fw X w:=zar _ (by simp)
theorem c5s:X.L∈fw X w:=zar _ (by simp)
theorem c5t:X.a∈fw X w:=zar _ (by simp)
theorem c5u:X.b∈fw X w:=zar _ (by simp)
theorem c5v:X.c∈fw X w:=zar _ (by simp)
theorem c5w:X.d∈fw X w:=zar _ (by simp)
theorem b7d {q:Addr} (h:q∈bl X.A w.b):q∈fw X w:=zas _ (zar _ h)
theorem c39 {j:Str} (h:j∈nms w.js):X.ja j∈fw X w:=zas _ (zas _ (zan.mpr ⟨j,h,rfl⟩))
theorem WsS.same (h : WsS K S X w) (e : ∀ q ∈ fw X w, S' q = S q) : WsS K S' X w :=
  ⟨by rw [e _ c4a]; exact h.p, by rw [e _ c37]; exact h.P, by rw [e _ c38]; exact h.Q,
   ⟨by rw [e _ c5s]; exact h.g.L, by rw [e _ c5t]; exact h.g.a, by rw [e _ c5u]; exact h.g.b, by rw [e _ c5v]; exact h.g.c, by rw [e _ c5w]; exact h.g.d⟩,
   h.b.same fun u hu => e u (b7d hu), fun q hq => by rw [e _ (c39 (a5Q hq))]; exact h.j q hq, h.nd⟩
theorem BdS.have_ {C:Addr} {A:BdA} {b:Bo} (h:BdS C S A b):∀ {q:Addr},q∈bl A b→S q≠none:=fun {q} hq=>by
 rcases zap.mp hq with hq | hq
 ·simp only [zau,zba,or_false] at hq
  rcases hq with rfl | rfl | rfl | rfl | rfl | rfl
  ·rw [h.L];exact nofun
  ·rw [h.a];exact nofun
  ·rw [h.b];exact nofun
  ·rw [h.c];exact nofun
  ·rw [h.d];exact nofun
  ·rw [h.e];exact nofun
 ·obtain ⟨r,hr,rfl⟩:=zan.mp hq
  rw [h.ms r hr]
  exact nofun
theorem WsS.have_ (h:WsS K S X w):∀ q∈fw X w,S q≠none:=fun q hq=>by
 unfold fw at hq
 rcases zap.mp hq with hq | hq
 ·simp only [zau,zba,or_false] at hq
  rcases hq with rfl | rfl | rfl | rfl | rfl | rfl | rfl | rfl
  ·rw [h.p];exact nofun
  ·rw [h.P];exact nofun
  ·rw [h.Q];exact nofun
  ·rw [h.g.L];exact nofun
  ·rw [h.g.a];exact nofun
  ·rw [h.g.b];exact nofun
  ·rw [h.g.c];exact nofun
  ·rw [h.g.d];exact nofun
 ·rcases zap.mp hq with hq | hq
  ·exact h.b.have_ hq
  ·obtain ⟨j,hj,rfl⟩:=zan.mp hq
   obtain ⟨J,hJ⟩:=b0n hj
   rw [h.j _ hJ]
   exact nofun
theorem WsS.new {x:Cell} (h:WsS K S X w) (f:S q=none):WsS K (S.set q x) X w:=h.same fun u hu=>zaa fun e=>h.have_ u hu (e ▸ f)
theorem Base.line (h:Base w) (hz:z∈nms w.g.lines):∃ x y,w.g.lines.lookup z=some (x,y,a9p w.g z)∧Nm z:=by
 obtain ⟨q,hq⟩:=b0n hz
 refine ⟨q.1,q.2.1,?_,b4B h.g hz⟩
 have:=a6a h.g hq
 rw [a9q h.g hq]
 exact this
theorem b52.base (h:b52 w):Base w:=⟨h.g,h.b,h.dev⟩
end
variable {K:zbj}
section
variable {S S':SS} {X:WsA} {w:Ws} {q:Addr} {z j:Str} {J:Jb}
theorem a5e (nd:(fw X w).Nodup):(bl X.A w.b).Nodup∧((nms w.js).map X.ja).Nodup∧(∀ u∈([X.p,X.P,X.Q,X.L,X.a,X.b,X.c,X.d]:List Addr),u∉bl X.A w.b∧u∉(nms w.js).map X.ja)∧∀ u∈bl X.A w.b,u∉(nms w.js).map X.ja:=by
 obtain ⟨_,n2,n3⟩:=List.nodup_append.mp nd
 obtain ⟨m1,m2,m3⟩:=List.nodup_append.mp n2
 exact ⟨m1,m2,fun u hu=>⟨fun h=>n3 u hu u (zar _ h) rfl,fun h=>n3 u hu u (zas _ h) rfl⟩,fun u hu h=>m3 u hu u h rfl⟩
structure Ne8 (X:WsA):Prop where
 pP:X.p≠X.P
 pQ:X.p≠X.Q
 pL:X.p≠X.L
 pa:X.p≠X.a
 pb:X.p≠X.b
 pc:X.p≠X.c
 pd:X.p≠X.d
 PQ:X.P≠X.Q
 PL:X.P≠X.L
 Pa:X.P≠X.a
 Pb:X.P≠X.b
 Pc:X.P≠X.c
 Pd:X.P≠X.d
 QL:X.Q≠X.L
 Qa:X.Q≠X.a
 Qb:X.Q≠X.b
 Qc:X.Q≠X.c
 Qd:X.Q≠X.d
 La:X.L≠X.a
 Lb:X.L≠X.b
 Lc:X.L≠X.c
 Ld:X.L≠X.d
 ab:X.a≠X.b
 ac:X.a≠X.c
 ad:X.a≠X.d
 bc:X.b≠X.c
 bd:X.b≠X.d
 cd:X.c≠X.d
theorem b7e (nd:(fw X w).Nodup):Ne8 X:=by
 have n1:=(List.nodup_append.mp nd).1
 simp only [zbd,zau,zba,or_false,not_or,not_false_eq_true,List.nodup_nil,and_true] at n1
 obtain ⟨⟨a1,a2,a3,a4,a5,a6,a7⟩,⟨b1,b2,b3,b4,b5,b6⟩,⟨c1,c2,c3,c4,c5⟩,⟨d1,d2,d3,d4⟩,⟨e1,e2,e3⟩,⟨f1,f2⟩,g1⟩:=n1
 exact ⟨a1,a2,a3,a4,a5,a6,a7,b1,b2,b3,b4,b5,b6,c1,c2,c3,c4,c5,d1,d2,d3,d4,e1,e2,e3,f1,f2,g1⟩
theorem WsS.wet (h:WsS K S X w) {ws:List Str}:WsS K (S.set X.p (c4d (wc K) X ws)) X { w with wet:=ws }:=by
 have ne:=b7e h.nd
 obtain ⟨_,_,off,_⟩:=a5e h.nd
 have o:=off X.p (by simp)
 exact ⟨zab,by rw [zaa ne.pP.symm];exact h.P,by rw [zaa ne.pQ.symm];exact h.Q,
  ⟨by rw [zaa ne.pL.symm];exact h.g.L,by rw [zaa ne.pa.symm];exact h.g.a,by rw [zaa ne.pb.symm];exact h.g.b,by rw [zaa ne.pc.symm];exact h.g.c,by rw [zaa ne.pd.symm];exact h.g.d⟩,
  h.b.same fun u hu=>zaa fun e=>o.1 (e ▸ hu),fun q hq=>by rw [zaa fun e=>o.2 (by rw [← e];exact zan.mpr ⟨q.1,a5Q hq,rfl⟩)];exact h.j q hq,h.nd⟩
theorem WsS.lay (h:WsS K S X w) {g':Wo} (lay:b1k (lc K) S' X.L X.a X.b X.c X.d g'.lay) (e:∀ u∈fw X w,u∉([X.L,X.a,X.b,X.c,X.d]:List Addr)→S' u=S u):WsS K S' X { w with g:=g' }:=by
 have ne:=b7e h.nd
 obtain ⟨_,_,off,_⟩:=a5e h.nd
 refine ⟨?_,?_,?_,lay,h.b.same fun u hu=>e u (b7d hu) fun hm=>(off u (zao _ (zao _ (zao _ hm)))).1 hu,fun q hq=>?_,h.nd⟩
 ·rw [e _ c4a (by simp [ne.pL,ne.pa,ne.pb,ne.pc,ne.pd])];exact h.p
 ·rw [e _ c37 (by simp [ne.PL,ne.Pa,ne.Pb,ne.Pc,ne.Pd])];exact h.P
 ·rw [e _ c38 (by simp [ne.QL,ne.Qa,ne.Qb,ne.Qc,ne.Qd])];exact h.Q
 ·rw [e _ (c39 (a5Q hq)) fun hm=>(off (X.ja q.1) (zao _ (zao _ (zao _ hm)))).2 (zan.mpr ⟨q.1,a5Q hq,rfl⟩)]
  exact h.j q hq
theorem WsS.job (h:WsS K S X w) (ok:b52 w) (hj:w.js.lookup j=some J):JbS K S X.A w.b (X.ja j) J:=by
 have mem:=a1x hj
 obtain ⟨_,_,_,m3⟩:=a5e h.nd
 exact ⟨h.b,ok.b,fun hm=>m3 _ hm (zan.mpr ⟨j,a5Q mem,rfl⟩),ok.jk _ mem,h.j _ mem⟩
theorem b52.wet (h:b52 w):c0i w:=⟨h.wu,fun z hz=>h.g.rn z (h.wr z hz),Nat.le_trans (a2Y h.wu h.wr) h.g.r⟩
end
variable {K:zbj}
section
variable {S S':SS} {X:WsA} {w:Ws} {q:Addr} {z j:Str} {J:Jb} {Y:XK'} {KK:DK} {e:Dw}
theorem WsS.cell {x:Cell} {g':Wo} {u0:Addr} (h:WsS K S X w) (hu:u0∈([X.L,X.a,X.b,X.c,X.d]:List Addr)) (lay:b1k (lc K) (S.set u0 x) X.L X.a X.b X.c X.d g'.lay):WsS K (S.set u0 x) X { w with g:=g' } :=
 h.lay lay fun u _ hn=>zaa fun e=>hn (e ▸ hu)
end
section
end
section
end
section
end
variable {K:zbj}
section
variable {S S':SS} {X:WsA} {w:Ws} {q:Addr} {z j l:Str} {J:Jb}
theorem JbS.lock {u:Addr} {x:Cell} (h:JbS K S X.A w.b (X.ja j) J) (h1:u∉bl X.A w.b) (h2:X.ja j≠u):JbS K (S.set u x) X.A w.b (X.ja j) J :=
 ⟨h.bd.same fun v hv=>zaa fun e=>h1 (e ▸ hv),h.ok,h.off,h.jk,by rw [zaa h2];exact h.p⟩
end
variable {K:zbj}
section
variable {S S':SS} {X:WsA} {w:Ws} {q:Addr} {z j:Str} {J:Jb} {g:Wo} {shut rs:List Str}
theorem a8Z.one {w:Wo} {R:List (Str × Nat)} {n n':Nat} {s s':Str} (a:a8Z w R n s) (b:a8Z w R n' s'):n=n'∧s=s':=by
 have h1:=a.2.2 s' n' b.1 b.2.1
 have h2:=b.2.2 s n a.1 a.2.1
 rcases h1 with h1 | ⟨e1,l1⟩
 ·rcases h2 with h2 | ⟨e2,_⟩ <;> omega
 ·rcases h2 with h2 | ⟨_,l2⟩
  ·omega
  ·exact ⟨e1,a5i l1 l2⟩
end
section
end
section
end
variable {K:zbj}
structure a4Q (S S':SS) (l:List (Addr × Cell)):Prop where
 gr:∀ q,S q≠none→S' q=S q
 at_:∀ x∈l,S' x.1=some x.2
 fr:∀ x∈l,S x.1=none
 nd:(l.map (·.1)).Nodup
section
variable {S S':SS} {l l1 l2:List (Addr × Cell)} {p:Addr} {c c0 x:Cell}
theorem a4Q.nil:a4Q S S []:=⟨fun _ _=>rfl,fun _ h=>(nomatch h),fun _ h=>(nomatch h),List.nodup_nil⟩
theorem a4Q.old {q:Addr} (h:a4Q S S' l) (e:S q=some x):S' q=some x:=by rw [h.gr q (by rw [e];exact nofun)];exact e
theorem a4Q.get (h:a4Q S S' l) (hx:(p,c)∈l):S' p=some c:=h.at_ _ hx
theorem a4Q.new (h:a4Q S S' l) (fp:S' p=none):a4Q S (S'.set p c) ((p,c) :: l):=by
 have np:∀ q,S' q≠none→q≠p:=fun q hq e=>hq (e ▸ fp)
 have fS:S p=none:=Decidable.byContradiction fun z=>z (by rw [← h.gr p z];exact fp)
 refine ⟨fun q hq=>?_,fun y hy=>?_,fun y hy=>?_,?_⟩
 ·rw [zaa (fun e:q=p=>hq (by rw [e];exact fS))];exact h.gr q hq
 ·rcases zau.mp hy with rfl | hy
  ·exact zab
  ·rw [zaa (np _ (by rw [h.at_ y hy];exact nofun))];exact h.at_ y hy
 ·rcases zau.mp hy with rfl | hy
  ·exact fS
  ·exact h.fr y hy
 ·rw [zax]
  refine zbd.mpr ⟨fun hm=>?_,h.nd⟩
  obtain ⟨y,hy,e⟩:=zan.mp hm
  exact np y.1 (by rw [h.at_ y hy];exact nofun) e
end
theorem a6q {R R2:List (Str × Rw)} (h:R.map a3c=R2.map a3c):nms R=nms R2:=by
 have:=congrArg (List.map (·.1)) h
 rw [zat,zat] at this
 exact this
section
end
variable {K:zbj}
theorem b7J {S:SS} {KK:DK} {p:Addr} {z:Str} {zs:List Str} (h:S p=some (.lst (zs.map D.str))) (hz:fine z=true) (hs:∀ w∈zs,fine w=true) (k:KK (.bl (!decide (z∈zs))) S):a0D .NotIn (.str z) (.obj p) S KK:=by
 show a6A true (.str z) (.obj p) S KK
 unfold a6A
 rw [b2R h]
 exact ⟨hz,a2u _ zs hs,by rw [Bool.true_xor,show vw S (.str z)=.str z from rfl,a1O];exact k⟩
def c31:D→D
 | .str z=>.str (z ++ "x")
 | d=>d
def c3Z:D→D
 | .str z=>.str ("y" ++ z)
 | d=>d
def a3Y:List Str:=("abcdefghijklmnopqrstuvwxyz" : Str).cps.toList.map (fun c=>(⟨#[c]⟩:Str) ++ "x") ++ ("abcdefghijklmnopqrstuvwxyz" : Str).cps.toList.map (fun c=>("y" : Str) ++ ⟨#[c]⟩)
def b5e:List Str:=a3Y.eraseDups
theorem b5f:b5e.Nodup∧(∀ z∈a3Y,Nm z)∧b5e.length=51∧∀ z∈b5e,z∈a3Y:=by
 refine ⟨by decide +kernel,by decide +kernel,by decide +kernel,by decide +kernel⟩
theorem c5V (c:SaysX fa fn fx K):Meets ((tb K).sn N17) ((tb K).G K 17) 2 false a2N b17:=by
 refine Qt.put_in ?_
 simp (disch :=
 with_unfolding_all
 refine Qt.keep ?_
 rintro m hm ds S KK Y ⟨rfl,b,c0,n,rfl,n0,n1,hb,hc,hK⟩
 refine ⟨rfl,?_⟩
 show a0c _ b17 [some _,some _,none,none,none,none,none,none] _ _ _
 unfold b17
 lia
 have bd:=bnd (j:=n) (by omega) (by omega)
 refine ⟨bd.1,bd.2,?_⟩
 refine b3n (P:=nmD) hb hc (by rw [a0F,zai];omega) (fun _=>trivial) (fun p i acc d S0 c3 K1 hd hb0 hc3 hk=>?_) fun ys c4 hlen hP hc4=>?_
 ·refine a5x ?_
  lia
  refine a0b (T:=b3P) rfl ?_
  lia
  exact ⟨rfl,b,c3,rfl,hb0,hc3,fun z c5 hz hc5=>hk _ c5 ⟨z,rfl,hz⟩ hc5⟩
 obtain ⟨zs,rfl,hzs⟩:=b3s ys hP
 rw [a0F,zag] at hlen
 obtain ⟨r1,r2,r3,r4⟩:=b5f
 lia
 refine a5h c31 (fun _=>true) (by rw [zai];decide +kernel) (fun _ _ _=>trivial) (fun p i acc d K1 KN hd hp hk hn=>?_) ?_
 ·unfold a0U at hd
  rw [zbh,zam] at hd
  obtain ⟨cc,_,rfl⟩:=hd
  refine a5x (b6k ?_)
  rw [if_pos rfl]
  show den _ _ [some _,some _,some _,some _,none,none,none,some (.str ⟨#[cc]⟩)] _ _ _
  lia
  refine a1l (by rw [zai];show 1 + 1≤16777216;decide) ?_
  exact hk rfl
 refine a05 (by rw [zag,zai,zag,zbc.mpr (fun _ _=>rfl)];show _ + 26≤_;omega) ?_
 lia
 refine a5h c3Z (fun _=>true) (by rw [zai];decide +kernel) (fun _ _ _=>trivial) (fun p i acc d K1 KN hd hp hk hn=>?_) ?_
 ·unfold a0U at hd
  rw [zbh,zam] at hd
  obtain ⟨cc,_,rfl⟩:=hd
  refine a5x (b6k ?_)
  rw [if_pos rfl]
  show den _ _ [some _,some _,some _,some _,none,none,none,some (.str ⟨#[cc]⟩)] _ _ _
  lia
  refine a1l (by rw [zai];show 1 + 1≤16777216;decide) ?_
  exact hk rfl
 refine a05 (by rw [zaw,zag,zai,zag,zbc.mpr (fun _ _=>rfl),zag];show _ + 26 + 26≤_;omega) ?_
 rw [zbc.mpr (fun _ _=>rfl)]
 rw [show zs.map D.str ++ (a0U ("abcdefghijklmnopqrstuvwxyz" : Str)).map c31 ++ (a0U ("abcdefghijklmnopqrstuvwxyz" : Str)).map c3Z=(zs ++ a3Y).map D.str by
  unfold a0U a3Y
  rw [zav,zav,zat,zat,zat,zat,List.append_assoc]
  rfl]
 lia
 intro p fp
 have bp:b≠p:=zad zab fp
 have all:∀ z∈zs ++ a3Y,Nm z:=fun z hz=>(zap.mp hz).elim (hzs z) (r2 z)
 lia
 refine ⟨_,rfl,?_⟩
 refine ⟨fun i δ' S'=>∃ ws x5,ws.Nodup∧(∀ y∈ws,y∈zs ++ a3Y)∧(ws.length:Int)≤n∧((ws.length:Int) < n→∀ y∈(zs ++ a3Y).take i,y∈ws)∧S'=(S.set b c4).set p (.lst (ws.map D.str))∧δ'=[some (.obj b),some (.int n),some (.str "abcdefghijklmnopqrstuvwxyz"),some (.lst ((zs ++ a3Y).map D.str)),some (.obj p),x5,none,none],⟨[],none,List.nodup_nil,(fun _ h=>nomatch h),n0,fun _ y hy=>by simp at hy,rfl,rfl⟩,fun _ _ _ _ _=>rfl,?_,?_⟩
 ·rintro i d0 δ' S' hd ⟨ws,x5,wu,wi,wl,wa,rfl,rfl⟩
  rw [zbh,zam] at hd
  obtain ⟨z,hz,rfl⟩:=hd
  have mz:=zaq hz
  have tk:(zs ++ a3Y).take (i + 1)=(zs ++ a3Y).take i ++ [z]:=take_snoc hz
  refine a5x ?_
  lia
  refine b7J zab (all z mz).fine (fun w hw=>(all w (wi w hw)).fine) ?_
  lia
  by_cases h1:z∈ws
  ·rw [if_neg (by rw [zbg h1];decide)]
   rw [if_neg (by decide)]
   lia
   refine ⟨ws,_,wu,wi,wl,fun lt y hy=>?_,rfl,rfl⟩
   rw [tk] at hy
   rcases zap.mp hy with hy | hy
   ·exact wa lt y hy
   ·rw [zaj.mp hy];exact h1
  rw [if_pos (by rw [zbf h1];rfl)]
  lia
  refine b4y zab ?_
  lia
  by_cases h2:(ws.length:Int) < n
  ·rw [if_pos (by rw [zah,zag];exact h2)]
   lia
   refine ⟨c1Z zab,?_⟩
   lia
   refine b3S zab (by rw [zag,zai];omega) ?_
   lia
   refine ⟨ws ++ [z],_,?_,fun y hy=>?_,by rw [zaw];show ((ws.length + 1:Nat):Int)≤n;omega,fun _ y hy=>?_,by rw [zac,zav];rfl,rfl⟩
   ·refine List.nodup_append.mpr ⟨wu,by simp,fun a ha b hb e=>h1 ?_⟩
    rw [← zaj.mp hb,← e];exact ha
   ·rcases zap.mp hy with hy | hy
    ·exact wi y hy
    ·rw [zaj.mp hy];exact mz
   ·rw [tk] at hy
    rcases zap.mp hy with hy | hy
    ·exact zar _ (wa h2 y hy)
    ·exact zas _ hy
  ·rw [if_neg (by rw [zah,zag];exact h2)]
   lia
   exact ⟨ws,_,wu,wi,wl,fun lt=>absurd lt h2,rfl,rfl⟩
 ·rintro δ' S' ⟨ws,x5,wu,wi,wl,wa,rfl,rfl⟩
  rw [zag,List.take_length] at wa
  refine b8y rfl zab ?_
  rw [zaf (by rw [zaa bp.symm] at fp ⊢;exact fp)]
  lia
  refine hK ws c4 ?_ (fun z hz=>all z (wi z hz)) wu hc4
  by_cases h2:(ws.length:Int) < n
  ·have:=a2Y r1 fun z hz=>wa h2 z (zas _ (r4 z hz))
   omega
  ·omega
 ) only [↓Qt.put_off]
theorem a4h {zs:List Str} {d:D} (h:d∈zs.map D.str):∃ z∈zs,d=.str z:=by
 obtain ⟨z,hz,rfl⟩:=zan.mp h
 exact ⟨z,hz,rfl⟩
theorem a4H {α:Type} {l:List α} (h:0 < l.length):l≠[]:=List.length_pos_iff.mp h
theorem c3Y.dp {l:Wl} (h:c3Y l):0 < (l.devices.map D.str).length∧(l.devices.map D.str).length≤1000:=by
 have:=h.d.2.2
 rw [zag];omega
theorem c5Q (c:SaysX fa fn fx K):Meets ((tb K).sn N12) ((tb K).G K 12) 2 false a3d b12:=by
 rintro m hm ds S KK Y ⟨rfl,b,c0,l,rfl,lne,ll,hb,hc,hK⟩
 refine ⟨rfl,?_⟩
 show a0c _ b12 [some _,some _] _ _ _
 unfold b12
 have l0:0 < l.length:=List.length_pos_iff.mpr lne
 lia
 refine a0b (T:=a07) rfl ?_
 lia
 refine ⟨rfl,b,_,c0,rfl,by omega,lg (by omega) (by omega),hb,hc,fun u c1 u0 u1 hc1=>?_⟩
 obtain ⟨k,rfl⟩:=Int.eq_ofNat_of_zero_le u0
 have hk:k < l.length:=by omega
 refine a5f (atI_nat (zbi hk)) ?_
 exact hK _ c1 (List.getElem_mem hk) hc1
theorem a6o {n i:Nat} {d:D} (h:(a4o 0 n)[i]?=some d):i < n∧d=.int (i:Nat):=by
 unfold a4o at h
 rw [zbh,zam] at h
 obtain ⟨k,hk,rfl⟩:=h
 obtain ⟨h1,h2⟩:=List.getElem?_eq_some_iff.mp hk
 rw [List.length_range] at h1
 rw [List.getElem_range] at h2
 subst h2
 exact ⟨h1,by rw [Int.zero_add]⟩
variable {K:zbj}
theorem b2W.ok {w w':Bo} (h:b2W w w') (ok:a1W w):a1W w':=by
 have en:nms w'.rows=nms w.rows:=a6q h.rows
 have el:w'.rows.length=w.rows.length:=by
  have:=congrArg List.length h.rows
  rwa [zag,zag] at this
 refine ⟨by rw [el];exact ok.r,by rw [en];exact ok.ru,fun q hq=>?_,by rw [h.crews];exact ok.c,by rw [h.crews];exact ok.cu,by rw [h.crews];exact ok.cw,by rw [h.sk];exact ok.su,by rw [h.sk,en];exact ok.ss,by rw [h.fa];exact ok.fu,by rw [h.fa,h.sk];exact ok.fs⟩
 have hs:a3c q∈w.rows.map a3c:=by rw [← h.rows];exact zan.mpr ⟨q,hq,rfl⟩
 obtain ⟨q0,h0,e⟩:=zan.mp hs
 obtain ⟨a,b,c,d,f,g⟩:=ok.rw_ q0 h0
 obtain ⟨z0,p0,o0,j0,a0,m0⟩:=q0
 obtain ⟨z1,p1,o1,j1,a1,m1⟩:=q
 simp only [a3c,Prod.mk.injEq,Rw.mk.injEq] at e
 obtain ⟨e1,f1,f2,f3,_,f4⟩:=e
 subst e1 f1 f2 f3 f4
 exact ⟨a,b,c,d,by rw [h.crews];exact f,g⟩
theorem a2T {z:Str}:∀ l:List (Str × Rw),(l.map a3c).lookup z=(l.lookup z).map fun r=>{ r with at_:=0 }
 | []=>rfl
 | q :: l=>by
  rw [zax,List.lookup_cons,List.lookup_cons,a2T l]
  show (match z == q.1 with | true=>_ | false=>_)=_
  cases z == q.1 <;> rfl
theorem b2W.row {b b':Bo} (h:b2W b b') (z:Str):(b'.rows.lookup z).map (fun r=>{ r with at_:=0 })=(b.rows.lookup z).map fun r=>{ r with at_:=0 }:=by
 rw [← a2T,← a2T,h.rows]
theorem b2W.at_ {b b':Bo} (h:b2W b b') (z:Str):(rowAt b' z).pos=(rowAt b z).pos∧(rowAt b' z).home=(rowAt b z).home∧(rowAt b' z).jobs=(rowAt b z).jobs:=by
 have e:=h.row z
 unfold rowAt
 cases h1:b'.rows.lookup z with
 | none =>
  cases h2:b.rows.lookup z with
  | none=>exact ⟨rfl,rfl,rfl⟩
  | some r=>rw [h1,h2] at e;cases e
 | some r' =>
  cases h2:b.rows.lookup z with
  | none=>rw [h1,h2] at e;cases e
  | some r =>
   rw [h1,h2] at e
   have e:({ r' with at_:=0 }:Rw)={ r with at_:=0 }:=Option.some.inj e
   injection e with h1 h2 h3 h4 h5
   exact ⟨h1,h2,h3⟩
theorem b2W.nms {b b':Bo} (h:b2W b b'):nms b'.rows=nms b.rows:=a6q h.rows
theorem b7A {z:Str} {n:Nat} (h:Nm z):lfD n (.str z)=true:=by
 simp only [lfD,zak,zah];exact ⟨b4L h,h.fine⟩
theorem b1r {z:Str} (h:Nm z):(D.str z).py.bulk≤8:=by
 have:=h.1
 rw [Array.length_toList] at this
 simpa only [D.py,PyData.bulk] using this
variable {K:zbj}
theorem a0k (i:Nat) (k:Str) (h:([]:List Str)[i]?=some k):∃ x,([]:List D)[i]?=some x∧a4q k x:=by cases h
theorem a0a {ks:List Str} {ps:List D} {k0:Str} {x0:D} (h0:a4q k0 x0) (h:∀ (i:Nat) (k:Str),ks[i]?=some k→∃ x,ps[i]?=some x∧a4q k x) (i:Nat) (k:Str) (e:(k0 :: ks)[i]?=some k):∃ x,(x0 :: ps)[i]?=some x∧a4q k x:=by
 cases i with
 | zero=>cases e;exact ⟨_,rfl,h0⟩
 | succ i=>exact h i k e
theorem a1Y {z:Str} (h:Nm z):a4q "name" (.str z):=.inl ⟨rfl,z,rfl,h⟩
theorem c5o {n:Int} (h:0≤n) (h1:n≤99):a4q "cost" (.int n):=.inr (.inl ⟨rfl,n,rfl,h,h1⟩)
theorem c35 {z:Str} (h:PS z):a4q "position" (.str z):=.inr (.inr (.inl ⟨rfl,z,rfl,h⟩))
theorem c5p {rs:List Str} (h:a2M rs):a4q "rooms" (a1L rs):=.inr (.inr (.inr ⟨rfl,rs,rfl,h⟩))
variable {K:zbj}
section
end
structure FB (n b:Nat) (d:D):Prop where
 lf:lfD n d=true
 bk:d.py.bulk≤b
theorem FB.mono {n b b':Nat} {d:D} (h:FB n b d) (le:b≤b'):FB n b' d:=⟨h.lf,Nat.le_trans h.bk le⟩
theorem a9H {n:Nat} {z:Str} (h:Nm z):FB n 8 (.str z):=⟨b7A h,b1r h⟩
theorem b62 {n b k:Nat} {ds:List D} (h:∀ d∈ds,FB n b d) (few:ds.length≤k):FB (n + 1) (k * (b + 1)) (.lst ds):=⟨by
 simp only [lfD,zak,zah]
 exact ⟨Nat.succ_pos _,a5k fun d hd=>(h d hd).lf⟩,Nat.le_trans (b1q fun d hd=>(h d hd).bk) (Nat.mul_le_mul_right _ few)⟩
theorem b3g {n b k:Nat} {ds:List D} (h:∀ d∈ds,FB n b d) (few:ds.length≤k):FB (n + 1) (k * (b + 1)) (.tup ds):=⟨by
 simp only [lfD,zak,zah]
 exact ⟨Nat.succ_pos _,a5k fun d hd=>(h d hd).lf⟩,Nat.le_trans (b1s fun d hd=>(h d hd).bk) (Nat.mul_le_mul_right _ few)⟩
theorem b4h {n k:Nat} {zs:List Str} (h:∀ z∈zs,Nm z) (few:zs.length≤k):FB (n + 1) (k * 9) (a1L zs):=b62 (b:=8) (fun d hd=>by
 obtain ⟨z,hz,rfl⟩:=zan.mp hd
 exact a9H (h z hz)) (by rw [zag];exact few)
theorem FB.plain {b:Nat} {d:D} (h:FB 20 b d) (le:b≤266304):Plain d:=b2o h.lf (Nat.le_trans h.bk le)
theorem b3r {z:Str} (h:PS z):Nm z:=by rcases h with rfl | rfl <;> (unfold Nm;decide +kernel)
section
variable {w:Ws} {e:Dw} {r:Rb}
theorem b4i (s:Str) (h:((decide (s.cps.size≤64) && fine s) && decide ((D.str s).py.bulk≤8))=true) (n:Nat):FB n 8 (.str s):=by
 rw [zak,zah] at h
 exact ⟨by simp only [lfD];exact h.1,h.2⟩
end
theorem Grows.put {S:SS} {p:Addr} {x:Cell} (f:S p=none):Grows S (S.set p x):=fun u hu=>zaa fun e=>hu (by rw [e];exact f)
theorem Grows.old {S S1:SS} {q:Addr} {x:Cell} (g:Grows S S1) (h:S q=some x):S1 q=some x:=by
 rw [g q (by rw [h];exact nofun)]
 exact h
theorem Grows.new {S S1:SS} (h:Grows S S1) {q:Addr} (k:S1 q=none):S q=none:=Decidable.byContradiction fun z=>z (by rw [← h q z];exact k)
variable {K:zbj}
theorem c5O (c:SaysX fa fn fx K):Meets ((tb K).sn N10) ((tb K).G K 10) 2 false a6I b10:=by
 refine Qt.put_in ?_
 simp (disch :=
 with_unfolding_all
 refine Qt.keep ?_
 rintro m hm ds S KK Y ⟨rfl,x,y,z,rfl,hx,hy,hz,hK⟩
 refine ⟨rfl,?_⟩
 show a0c _ b10 [some _,some _] _ _ _
 unfold b10
 lia
 refine b6h hx hy hz ?_
 lia
 rw [if_pos rfl]
 lia
 refine b75 hx hz ?_
 lia
 refine b75 hy hz ?_
 lia
 rw [zbg rfl]
 exact hK
 ) only [↓Qt.put_off]
theorem b1K {G:Gm} {S:SS} {p:Addr} {zs:List D} {Q:Bool→Prop} (h:S p=some (.lst zs)) (k:Q true):∃ t b,tyD S (.obj p)=some t∧a2L G S (.obj p)∧PySem.W.kitOne G.K t ((Cn.ty "list").val G)=some b∧Q b:=by
 refine a5V (t:=.type "list") ?_ ?_ rfl k
 ·show (match S p with | some (.lst _)=>some (Value.type "list") | some (.dic _)=>some (.type "dict") | some (.loc _)=>some (.type "dict") | some (.ins C _)=>some (.ref C) | none=>none)=_
  rw [h]
 ·intro C fs e
  rw [h] at e
  exact nomatch e
theorem a1V:∀ {a b:List Str},D.lst (a.map D.str)=.lst (b.map D.str)→a=b
 | [],[],_=>rfl
 | [],_ :: _,h=>by simp at h
 | _ :: _,[],h=>by simp at h
 | x :: a,y :: b,h=>by
  simp only [zax,D.lst.injEq,List.cons.injEq,D.str.injEq] at h
  rw [h.1,a1V (a:=a) (b:=b) (by rw [h.2])]
theorem AsL.cons {S:SS} {l l':List D} {x:D} (h:AsL S l l'):AsL S (x :: l) (x :: l'):=by
 refine ⟨by rw [zaz,zaz,h.len],fun i y hy=>?_⟩
 cases i with
 | zero=>exact ⟨x,rfl,by cases hy;exact .inl rfl⟩
 | succ i=>exact h.at_ i y hy
theorem a3F {S S':SS} {c:Cell} {u:Addr} (g:Grows S S') (h:S u=some c):S' u=some c:=(g u (by rw [h];exact nofun)).trans h
theorem b1N {G:Gm} {S:SS} {z:Str} {Q:Bool→Prop} (k:Q false):∃ t b,tyD S (.str z)=some t∧a2L G S (.str z)∧PySem.W.kitOne G.K t ((Cn.ty "list").val G)=some b∧Q b:=a5V rfl trivial rfl k
theorem b1L {G:Gm} {S:SS} {i:Int} {Q:Bool→Prop} (k:Q false):∃ t b,tyD S (.int i)=some t∧a2L G S (.int i)∧PySem.W.kitOne G.K t ((Cn.ty "list").val G)=some b∧Q b:=a5V rfl trivial rfl k
theorem b1M {G:Gm} {S:SS} {i:Int} {Q:Bool→Prop} (k:Q false):∃ t b,tyD S (.int i)=some t∧a2L G S (.int i)∧PySem.W.kitOne G.K t ((Cn.ty "str").val G)=some b∧Q b:=a5V rfl trivial rfl k
theorem a2J (zs:List Str):a1N (.lst (zs.map D.str))=zs:=by
 show (zs.map D.str).filterMap c3D=zs
 induction zs with
 | nil=>rfl
 | cons z zs ih =>
  show z :: (zs.map D.str).filterMap c3D=z :: zs
  rw [ih]
theorem a97 {n:Int} (h0:0≤n) (h1:n≤99):n.natAbs.log2 < 1920:=by
 have h:n.natAbs < 128:=by omega
 by_cases e:n.natAbs=0
 ·rw [e];decide
 ·exact Nat.lt_trans ((Nat.log2_lt e).mpr (show n.natAbs < 2 ^ 7 from h)) (by decide)
theorem a5J {wd:Str} {kinds:List Str} {l:List D} (de:a6G (.tup (.str wd :: l)) wd kinds l) {x:D} (h:x∈D.str wd :: l):(∃ z,x=.str z)∨(∃ n:Int,x=.int n∧0≤n∧n≤99)∨∃ zs:List Str,x=.lst (zs.map D.str)∧zs.length≤24:=by
 rcases zau.mp h with rfl | h
 ·exact .inl ⟨wd,rfl⟩
 ·obtain ⟨i,hi,rfl⟩:=List.mem_iff_getElem.mp h
  have hk:i < kinds.length:=by rw [← de.len];exact hi
  obtain ⟨y,hy,fit⟩:=de.fits i kinds[i] (zbi hk)
  rw [zbi hi] at hy
  cases hy
  rcases fit with ⟨_,z,e,_⟩ | ⟨_,n,e,n0,n1⟩ | ⟨_,z,e,_⟩ | ⟨_,rs,e,hr⟩
  ·exact .inl ⟨z,e⟩
  ·exact .inr (.inl ⟨n,e,n0,n1⟩)
  ·exact .inl ⟨z,e⟩
  ·exact .inr (.inr ⟨rs,e,hr.2.1⟩)
theorem a2m {α β:Type} {f:α→List β} {k:Nat}:∀ {l:List α},(∀ x∈l,(f x).length≤k)→(l.flatMap f).length≤l.length * k
 | [],_=>by simp
 | x :: l,h=>by
  rw [List.flatMap_cons,zaw,zaz,Nat.succ_mul]
  have:=h x zal
  have:=a2m (l:=l) fun y hy=>h y (zao _ hy)
  omega
theorem a4n {wd:Str} {kinds:List Str} {l:List D} (de:a6G (.tup (.str wd :: l)) wd kinds l) (i:Nat):(((D.str wd :: l).take i).flatMap a1N).length≤120:=by
 have h:=a2m (f:=a1N) (k:=24) (l:=(D.str wd :: l).take i) fun x hx=>by
  rcases a5J de (List.mem_of_mem_take hx) with ⟨z,rfl⟩ | ⟨n,rfl,_⟩ | ⟨zs,rfl,hz⟩
  ·show 1≤24;decide
  ·show 1≤24;decide
  ·rw [a2J];exact hz
 have h1:=de.len
 have h2:=de.few
 rw [List.length_take,zaz] at h
 have:min i (l.length + 1) * 24≤5 * 24:=Nat.mul_le_mul_right _ (by omega)
 omega
def a4v (z:Str):Prop:=z.length≤64∧32∉z.cps.toList
instance (z:Str):Decidable (a4v z):=by unfold a4v;infer_instance
theorem b1a {z:Str} (h:Nm z):a4v z:=by
 have el:z.length=z.cps.toList.length:=by rw [Array.length_toList];rfl
 exact ⟨by have:=h.1;omega,fun m=>by have:=h.2.2 32 m;omega⟩
theorem b2T:∀ n < 100,a4v (toString ((n:Nat):Int)):=by decide +kernel
theorem b5z:∀ w∈a0h,a4v w:=by decide +kernel
theorem b1b {wd:Str} {kinds:List Str} {l:List D} (hw:wd∈a0h) (de:a6G (.tup (.str wd :: l)) wd kinds l):∀ z∈(D.str wd :: l).flatMap a1N,a4v z:=fun z hz=>by
 obtain ⟨x,hx,hz⟩:=List.mem_flatMap.mp hz
 rcases zau.mp hx with rfl | h
 ·rw [zaj.mp hz];exact b5z wd hw
 ·obtain ⟨i,hi,rfl⟩:=List.mem_iff_getElem.mp h
  have hk:i < kinds.length:=by rw [← de.len];exact hi
  obtain ⟨y,hy,fit⟩:=de.fits i kinds[i] (zbi hk)
  rw [zbi hi] at hy
  cases hy
  rcases fit with ⟨_,y,e,ny⟩ | ⟨_,n,e,n0,n1⟩ | ⟨_,y,e,py⟩ | ⟨_,rs,e,hr⟩
  ·rw [e] at hz;rw [zaj.mp hz];exact b1a ny
  ·rw [e] at hz;rw [zaj.mp hz]
   obtain ⟨k,rfl⟩:=Int.eq_ofNat_of_zero_le n0
   exact b2T k (by omega)
  ·rw [e] at hz;rw [zaj.mp hz]
   rcases py with rfl | rfl <;> decide +kernel
  ·rw [e] at hz
   have hz:z∈a1N (.lst (rs.map D.str)):=hz
   rw [a2J] at hz
   exact b1a (hr.2.2.2 z hz)
theorem a7i:∀ {ws:List Str},(∀ z∈ws,z.length≤64)→(ws.map (·.length)).sum≤ws.length * 64
 | [],_=>by simp
 | w :: ws,h=>by
  rw [zax,List.sum_cons,zaz,Nat.succ_mul]
  have:=h w zal
  have:=a7i (ws:=ws) fun z hz=>h z (zao _ hz)
  omega
theorem a7q {wd:Str} {kinds:List Str} {l:List D} (hw:wd∈a0h) (de:a6G (.tup (.str wd :: l)) wd kinds l):((((D.str wd :: l).flatMap a1N).map (·.length)).sum + ((D.str wd :: l).flatMap a1N).length * (" " : Str).length≤16777216)∧∀ i,(((D.str wd :: l).take i).flatMap a1N).length≤120:=by
 refine ⟨?_,a4n de⟩
 have h1:=a7i fun z hz=>(b1b hw de z hz).1
 have h2:=a4n de (l.length + 1)
 rw [List.take_of_length_le (by rw [zaz];exact Nat.le_refl _)] at h2
 have e:(" " : Str).length=1:=by decide
 rw [e]
 omega
theorem me3 (c:SaysX fa fn fx K):Meets ((tb K).sn N3) ((tb K).G K 3) 1 false a6L b3:=by
 refine Qt.put_in ?_
 simp (disch :=
 with_unfolding_all
 refine Qt.keep ?_
 rintro m hm ds S KK Y ⟨rfl,wd,l,l',rfl,⟨hw,kinds,de⟩,as,hK⟩
 refine ⟨rfl,?_⟩
 show a0c _ b3 [some _,none,none] _ _ _
 unfold b3
 have as':AsL S (.str wd :: l) (.str wd :: l'):=as.cons
 have sm:=a7q hw de
 lia
 intro p0 fp0
 lia
 refine ⟨_,rfl,?_⟩
 refine ⟨fun i δ' S'=>∃ p x,S' p=some (.lst (((D.str wd :: l).take i).flatMap a1N |>.map D.str))∧S p=none∧Grows S S'∧δ'=[some (.tup (.str wd :: l')),some (.obj p),x],⟨p0,none,zab,fp0,Grows.put fp0,rfl⟩,fun _ _ _ _ _=>trivial,?_,?_⟩
 ·rintro i d δ' S' hd ⟨p,x,at_p,fp,g,rfl⟩
  have hi:i < (D.str wd :: l).length:=by
   have:=(List.getElem?_eq_some_iff.mp hd).1
   rw [as'.len] at this
   exact this
  have hx:=zbi hi
  obtain ⟨d',hd',ax⟩:=as'.at_ i _ hx
  rw [hd] at hd'
  cases hd'
  have tk:(D.str wd :: l).take (i + 1)=(D.str wd :: l).take i ++ [(D.str wd :: l)[i]]:=take_snoc hx
  have few:=sm.2 i
  have part:=a5J de (List.getElem_mem hi)
  generalize (D.str wd :: l)[i]=x0 at hx ax tk part
  have next:∀ {ws:List Str},a1N x0=ws→(((D.str wd :: l).take (i + 1)).flatMap a1N).map D.str=(((D.str wd :: l).take i).flatMap a1N).map D.str ++ ws.map D.str:=fun {ws} e=>by rw [tk,List.flatMap_append,zav];simp [e]
  have grow:∀ q c,S q=none→Grows S (S'.set q c):=fun q c fq u hu=>(zaa fun e=>hu (by rw [e];exact fq)).trans (g u hu)
  refine a5x ?_
  rcases part with ⟨z,rfl⟩ | ⟨n,rfl,n0,n1⟩ | ⟨zs,rfl,zl⟩
  ·rcases ax with rfl | ⟨_,_,e,_⟩
   ·lia
    refine b1N ?_
    lia
    rw [if_neg (by decide)]
    lia
    refine a9S ?_
    lia
    rw [if_pos rfl]
    lia
    refine ⟨c1Z at_p,?_⟩
    lia
    refine b3S at_p (by rw [zag,zai];omega) ?_
    lia
    exact ⟨p,_,by rw [zab,next (ws:=[z]) rfl];rfl,fp,grow p _ fp,rfl⟩
   ·exact nomatch e
  ·rcases ax with rfl | ⟨_,_,e,_⟩
   ·lia
    refine b1L ?_
    lia
    rw [if_neg (by decide)]
    lia
    refine b1M ?_
    lia
    rw [if_neg (by decide)]
    lia
    refine ⟨c1Z at_p,?_⟩
    lia
    refine ⟨a97 n0 n1,?_⟩
    lia
    refine b3S at_p (by rw [zag,zai];omega) ?_
    lia
    exact ⟨p,_,by rw [zab,next (ws:=[toString n]) rfl];rfl,fp,grow p _ fp,rfl⟩
   ·exact nomatch e
  ·have nx:=next (ws:=zs) (a2J zs)
   have lst:∃ vv:vw S' d=.lst (zs.map D.str),True:=by
    rcases ax with rfl | ⟨q,ws,e,rfl,at_q⟩
    ·exact ⟨rfl,trivial⟩
    ·have e:zs=ws:=a1V e
     subst e
     exact ⟨b2R (a3F g at_q),trivial⟩
   have isl:∀ {G:Gm} {Q:Bool→Prop},Q true→∃ t b,tyD S' d=some t∧a2L G S' d∧PySem.W.kitOne G.K t ((Cn.ty "list").val G)=some b∧Q b:=fun {G Q} k=>by
    rcases ax with rfl | ⟨q,ws,e,rfl,at_q⟩
    ·exact b4r k
    ·exact b1K (a3F g at_q) k
   obtain ⟨vv,_⟩:=lst
   lia
   refine isl ?_
   lia
   rw [if_pos rfl]
   lia
   refine c0m (b2R at_p) vv (by rw [zag,zag,zai];omega) fun q fq=>?_
   lia
   have fq0:S q=none:=Decidable.byContradiction fun h=>h (by rw [← g q h];exact fq)
   exact ⟨q,_,by rw [zab,nx],fq0,grow q _ fq0,rfl⟩
 ·rintro δ' S' ⟨p,x,at_p,fp,g,rfl⟩
  rw [List.take_of_length_le (by rw [as'.len];exact Nat.le_refl _)] at at_p
  lia
  refine ⟨_,.inl (b2R at_p),sm.1,?_⟩
  exact hK S' g
 ) only [↓Qt.put_off]
variable {K:zbj}
theorem a6R {xs:List D} {f m:Nat} (h:f + m≤xs.length):Sv.cutD xs (some (f:Int)) (some ((f:Int) + (m:Int)))=(xs.drop f).take m:=by
 have e:(f:Int) + (m:Int)=((f + m:Nat):Int):=by omega
 rw [e]
 unfold Sv.cutD
 rw [HT.sIx_nat,HT.sIx_nat,Nat.min_eq_left h,Nat.min_eq_left (show f≤xs.length by omega)]
 congr 1
 omega
theorem ring {hs:List Str} {f m:Nat} (hf:f≤hs.length) (hm:m≤hs.length) (u:hs.Nodup):(((hs ++ hs).drop f).take m).Nodup:=by
 have e1:(hs ++ hs).drop f=hs.drop f ++ hs:=by rw [List.drop_append_of_le_length hf]
 have e2:hs=hs.take f ++ hs.drop f:=(List.take_append_drop f hs).symm
 have e3:((hs ++ hs).drop f).take m=(hs.drop f ++ hs.take f).take m:=by
  rw [e1]
  have:hs.drop f ++ hs=(hs.drop f ++ hs.take f) ++ hs.drop f:=by rw [List.append_assoc,← e2]
  rw [this,List.take_append_of_le_length (by rw [zaw,List.length_drop,List.length_take];omega)]
 rw [e3]
 refine List.Sublist.nodup (List.take_sublist m _) ?_
 have:(hs.drop f ++ hs.take f).Perm hs:=List.perm_append_comm.trans (by rw [← e2])
 exact this.nodup_iff.mpr u
theorem a4D:∀ w∈a0h,valD a0P.kv (.inr w)=some (.tup ((a0l w).map D.str)):=by
 intro w hw
 simp only [a0h,zau,zba,or_false] at hw
 rcases hw with rfl | rfl | rfl | rfl | rfl | rfl | rfl | rfl | rfl | rfl | rfl | rfl | rfl | rfl | rfl | rfl | rfl | rfl | rfl | rfl | rfl | rfl | rfl <;> kernel_rfl
theorem b2J {a b:List Str} (h:D.tup (a.map D.str)=.tup (b.map D.str)):a=b:=a1V (by injection h with h;rw [h])
theorem a90 {wd:Str} {kinds:List Str} {l:List D} (hw:wd∈a0h) (de:a6G (.tup (.str wd :: l)) wd kinds l):kinds=a0l wd:=by
 have h:=de.form
 rw [a4D wd hw] at h
 exact b2J (Option.some.inj h).symm
def numOf (z:Str):D:=match (List.range 100).find? fun c=>decide ((toString ((c:Nat):Int):Str)=z) with
 | some c=>.int c
 | none=>.non
theorem b66:∀ n < 100,(List.range 100).find? (fun c=>decide ((toString ((c:Nat):Int):Str)=toString ((n:Nat):Int)))=some n:=by decide +kernel
def a3U:D→D
 | .tup [.str k,x]=>if k = "cost" then (match x with | .str z=>numOf z | _=>.non) else x
 | d=>d
theorem a2v {k:Str} {x:D} (h:k ≠ "cost"):a3U (.tup [.str k,x])=x:=by
 show (if k = "cost" then _ else x)=x
 rw [if_neg h]
theorem b3T {S:SS} {l:List D}:AsL S l l:=⟨rfl,fun i x hx=>⟨x,hx,.inl rfl⟩⟩
theorem me2 (c:SaysX fa fn fx K):Meets ((tb K).sn N2) ((tb K).G K 2) 0 false a3j b2:=by
 rintro m hm ds S KK Y ⟨rfl,rfl,hK⟩
 refine ⟨rfl,?_⟩
 show a0c _ b2 [none] _ _ _
 unfold b2
 lia
 exact hK
end Cl
local macro_rules | `(tactic| ac_nf)=>`(tactic| (repeat (first | (rw [if_pos (by decide +kernel)];lia) | (rw [if_neg (by decide +kernel)];lia))))
namespace Cl
open PySem PySem.Spec PyProof.Rows L2 Sv
variable {K:zbj}
theorem c1o:∀ w∈a0h,(a0l w).length≤4∧fine w=true∧((decide (w.cps.size≤64) && fine w) && decide ((D.str w).py.bulk≤40))=true:=by decide +kernel
theorem a3n {w:Str} {ks:List Str} {l:List D} (hw:w∈a0h) (e:a0l w=ks) (len:l.length=ks.length) (fits:∀ (i:Nat) (k:Str),ks[i]?=some k→∃ x,l[i]?=some x∧a4q k x) (line:w = "add_line" → ∃ x y:Str,l[1]?=some (.str x)∧l[2]?=some (.str y)∧x≠y∧Nm x∧Nm y):b2U w l:=by
 subst e
 obtain ⟨f1,f2,f3⟩:=c1o w hw
 exact ⟨hw,a0l w,⟨rfl,a4D w hw,len,f1,f2,f3,fits,line⟩⟩
theorem a7t.other {s:c0f} (ok:a7t s) {r:Str}:∃ z∈s.rooms,z≠r:=by
 obtain ⟨h1,_,u,_⟩:=ok.r
 match e:s.rooms,h1 with
 | x :: y :: l,_ =>
  rw [e] at u
  by_cases h:x=r
  ·exact ⟨y,by simp,fun q=>(zbd.mp u).1 (by rw [h,← q];simp)⟩
  ·exact ⟨x,by simp,h⟩
def neG (r:Str):D→Bool
 | .str z=>!decide (z=r)
 | _=>true
theorem c5W (c:SaysX fa fn fx K):Meets ((tb K).sn N18) ((tb K).G K 18) 3 false a86 b18:=by
 refine Qt.put_in ?_
 simp (disch :=
 with_unfolding_all
 refine Qt.keep ?_
 rintro m hm ds S KK Y ⟨rfl,b,c0,s,w,rfl,ok,hw,hb,hc0,hK⟩
 refine ⟨rfl,?_⟩
 show a0c _ b18 [some _,some _,some _,none,none,none,none,none,none,none,none] _ _ _
 unfold b18
 have rl:=ok.r.1
 have rl2:=ok.r.2.1
 have dl:0 < s.devices.length:=List.length_pos_iff.mpr ok.d.1
 have jl:0 < s.jobs.length:=List.length_pos_iff.mpr ok.j.1
 have hl:0 < s.hands.length:=List.length_pos_iff.mpr ok.h.1
 have dm:=ok.d.2.1
 have jm:=ok.j.2.1
 have hm4:=ok.h.2.1
 unfold a8K
 lia
 refine b5o rfl ?_
 lia
 refine a0b (T:=a3d) rfl ?_
 lia
 refine a9V (key:=.inr "jobs") (d:=.lst (s.jobs.map D.str)) rfl rfl ?_
 lia
 refine ⟨rfl,b,c0,_,rfl,a4H (by rw [zag];omega),by rw [zag];omega,hb,hc0,fun dj c1 hdj hc1=>?_⟩
 obtain ⟨j,hj,rfl⟩:=a4h hdj
 lia
 refine a0b (T:=a3d) rfl ?_
 lia
 refine a9V (key:=.inr "rooms") (d:=.lst (s.rooms.map D.str)) rfl rfl ?_
 lia
 refine ⟨rfl,b,c1,_,rfl,a4H (by rw [zag];omega),by rw [zag];omega,zab,hc1,fun dr c2 hdr hc2=>?_⟩
 rw [zac]
 obtain ⟨r,hr,rfl⟩:=a4h hdr
 lia
 refine ⟨_,rfl,rfl,?_⟩
 lia
 refine a0b (T:=a3d) rfl ?_
 lia
 refine a9V (key:=.inr "devices") (d:=.lst (s.devices.map D.str)) rfl rfl ?_
 lia
 refine ⟨rfl,b,c2,_,rfl,a4H (by rw [zag];omega),by rw [zag];omega,zab,hc2,fun dd c3 hdd hc3=>?_⟩
 rw [zac]
 obtain ⟨d,hd,rfl⟩:=a4h hdd
 lia
 refine a0b (T:=a3d) rfl ?_
 lia
 refine a9V (key:=.inr "hands") (d:=.lst (s.hands.map D.str)) rfl rfl ?_
 lia
 refine ⟨rfl,b,c3,_,rfl,a4H (by rw [zag];omega),by rw [zag];omega,zab,hc3,fun dh c4 hdh hc4=>?_⟩
 rw [zac]
 obtain ⟨h,hh,rfl⟩:=a4h hdh
 have nj:=ok.j.2.2 j hj
 have nr:=ok.r.2.2.2 r hr
 have nd:=ok.d.2.2 d hd
 have nh:=ok.h.2.2 h hh
 simp only [a0h,zau,zba,or_false] at hw
 rcases hw with rfl | rfl | rfl | rfl | rfl | rfl | rfl | rfl | rfl | rfl | rfl | rfl | rfl | rfl | rfl | rfl | rfl | rfl | rfl | rfl | rfl | rfl | rfl
 ·lia
  try refine a0E (zs:=[("add_room" : Str), "take_room", "add_source", "take_source"]) ?_
  lia
  ac_nf
  try refine a0E (zs:=[("take_line" : Str), "take_drain", "stick", "mend"]) ?_
  lia
  ac_nf
  try refine a0E (zs:=[("sign_on" : Str), "sign_off"]) ?_
  lia
  ac_nf
  exact hK "add_room" [.str r] c4 (a3n (ks:=["name"]) (l:=[.str r]) (by decide) (by decide +kernel) rfl (a0a (a1Y nr) a0k) (fun h=>absurd h (by decide))) hc4
 ·lia
  try refine a0E (zs:=[("add_room" : Str), "take_room", "add_source", "take_source"]) ?_
  lia
  ac_nf
  try refine a0E (zs:=[("take_line" : Str), "take_drain", "stick", "mend"]) ?_
  lia
  ac_nf
  try refine a0E (zs:=[("sign_on" : Str), "sign_off"]) ?_
  lia
  ac_nf
  exact hK "take_room" [.str r] c4 (a3n (ks:=["name"]) (l:=[.str r]) (by decide) (by decide +kernel) rfl (a0a (a1Y nr) a0k) (fun h=>absurd h (by decide))) hc4
 ·lia
  try refine a0E (zs:=[("add_room" : Str), "take_room", "add_source", "take_source"]) ?_
  lia
  ac_nf
  try refine a0E (zs:=[("take_line" : Str), "take_drain", "stick", "mend"]) ?_
  lia
  ac_nf
  try refine a0E (zs:=[("sign_on" : Str), "sign_off"]) ?_
  lia
  ac_nf
  refine a0b (T:=a3d) rfl ?_
  lia
  refine a9V (key:=.inr "rooms") (d:=.lst (s.rooms.map D.str)) rfl rfl ?_
  refine ⟨_,rfl,?_⟩
  refine a5h id (neG r) (by rw [zag,zai];omega) (fun _ _ _=>rfl) (fun p i acc dx K1 KN hd hp hk hn=>?_) ?_
  ·rw [zbh,zam] at hd
   obtain ⟨z,hz,rfl⟩:=hd
   refine a5x (b6n ?_)
   show a0o _ _ [some _,some _,some _,some _,some _,some _,some _,none,none,none,some (.str z)] _ _ _
   lia
   have eg:neG r (.str z)=!decide (z=r):=rfl
   by_cases hin:z=r
   ·rw [if_neg (by simpa using hin)]
    exact hn (by rw [eg];simpa using hin)
   ·rw [if_pos (by simpa using hin)]
    lia
    exact hk (by rw [eg];simpa using hin)
  rw [List.map_id]
  have other:∃ z∈s.rooms,z≠r:=ok.other
  lia
  refine ⟨rfl,b,c4,_,rfl,fun e=>?_,Nat.le_trans (zbb _ _) (by rw [zag];omega),zab,hc4,fun dx c5 hdx hc5=>?_⟩
  ·obtain ⟨z,hz,nz⟩:=other
   have:D.str z∈(s.rooms.map D.str).filter (neG r):=zay.mpr ⟨zan.mpr ⟨z,hz,rfl⟩,by show (!decide (z=r))=true;simpa using nz⟩
   rw [e] at this
   exact nomatch this
  rw [zac]
  obtain ⟨hdx,hne⟩:=zay.mp hdx
  obtain ⟨o,ho,rfl⟩:=a4h hdx
  have hne:(!decide (o=r))=true:=hne
  have one:o≠r:=by simpa using hne
  lia
  refine a0b (T:=a07) rfl ?_
  lia
  refine ⟨rfl,b,100,c5,rfl,by decide,by decide,zab,hc5,fun n c6 n0 n1 hc6=>?_⟩
  rw [zac]
  lia
  exact hK "add_line" [.str d,.str r,.str o,.int n] c6 (a3n (ks:=["name", "name", "name", "cost"]) (l:=[.str d,.str r,.str o,.int n]) (by decide) (by decide +kernel) rfl (a0a (a1Y nd) (a0a (a1Y nr) (a0a (a1Y (ok.r.2.2.2 o ho)) (a0a (c5o n0 (by omega)) a0k)))) (fun _=>⟨r,o,rfl,rfl,Ne.symm one,nr,ok.r.2.2.2 o ho⟩)) hc6
 ·lia
  try refine a0E (zs:=[("add_room" : Str), "take_room", "add_source", "take_source"]) ?_
  lia
  ac_nf
  try refine a0E (zs:=[("take_line" : Str), "take_drain", "stick", "mend"]) ?_
  lia
  ac_nf
  try refine a0E (zs:=[("sign_on" : Str), "sign_off"]) ?_
  lia
  ac_nf
  exact hK "take_line" [.str d] c4 (a3n (ks:=["name"]) (l:=[.str d]) (by decide) (by decide +kernel) rfl (a0a (a1Y nd) a0k) (fun h=>absurd h (by decide))) hc4
 ·lia
  try refine a0E (zs:=[("add_room" : Str), "take_room", "add_source", "take_source"]) ?_
  lia
  ac_nf
  try refine a0E (zs:=[("take_line" : Str), "take_drain", "stick", "mend"]) ?_
  lia
  ac_nf
  try refine a0E (zs:=[("sign_on" : Str), "sign_off"]) ?_
  lia
  ac_nf
  exact hK "add_drain" [.str d,.str r] c4 (a3n (ks:=["name", "name"]) (l:=[.str d,.str r]) (by decide) (by decide +kernel) rfl (a0a (a1Y nd) (a0a (a1Y nr) a0k)) (fun h=>absurd h (by decide))) hc4
 ·lia
  try refine a0E (zs:=[("add_room" : Str), "take_room", "add_source", "take_source"]) ?_
  lia
  ac_nf
  try refine a0E (zs:=[("take_line" : Str), "take_drain", "stick", "mend"]) ?_
  lia
  ac_nf
  try refine a0E (zs:=[("sign_on" : Str), "sign_off"]) ?_
  lia
  ac_nf
  exact hK "take_drain" [.str d] c4 (a3n (ks:=["name"]) (l:=[.str d]) (by decide) (by decide +kernel) rfl (a0a (a1Y nd) a0k) (fun h=>absurd h (by decide))) hc4
 ·lia
  try refine a0E (zs:=[("add_room" : Str), "take_room", "add_source", "take_source"]) ?_
  lia
  ac_nf
  try refine a0E (zs:=[("take_line" : Str), "take_drain", "stick", "mend"]) ?_
  lia
  ac_nf
  try refine a0E (zs:=[("sign_on" : Str), "sign_off"]) ?_
  lia
  ac_nf
  exact hK "add_source" [.str r] c4 (a3n (ks:=["name"]) (l:=[.str r]) (by decide) (by decide +kernel) rfl (a0a (a1Y nr) a0k) (fun h=>absurd h (by decide))) hc4
 ·lia
  try refine a0E (zs:=[("add_room" : Str), "take_room", "add_source", "take_source"]) ?_
  lia
  ac_nf
  try refine a0E (zs:=[("take_line" : Str), "take_drain", "stick", "mend"]) ?_
  lia
  ac_nf
  try refine a0E (zs:=[("sign_on" : Str), "sign_off"]) ?_
  lia
  ac_nf
  exact hK "take_source" [.str r] c4 (a3n (ks:=["name"]) (l:=[.str r]) (by decide) (by decide +kernel) rfl (a0a (a1Y nr) a0k) (fun h=>absurd h (by decide))) hc4
 ·lia
  try refine a0E (zs:=[("add_room" : Str), "take_room", "add_source", "take_source"]) ?_
  lia
  ac_nf
  try refine a0E (zs:=[("take_line" : Str), "take_drain", "stick", "mend"]) ?_
  lia
  ac_nf
  try refine a0E (zs:=[("sign_on" : Str), "sign_off"]) ?_
  lia
  ac_nf
  refine a0b (T:=a07) rfl ?_
  lia
  refine ⟨rfl,b,2,c4,rfl,by decide,by decide,zab,hc4,fun u c5 u0 u1 hc5=>?_⟩
  rw [zac]
  by_cases hu:u=0
  ·refine a5f (d:=.str "open") (by rw [hu];rfl) ?_
   lia
   exact hK "turn" [.str d,.str "open"] c5 (a3n (ks:=["name", "position"]) (l:=[.str d,.str "open"]) (by decide) (by decide +kernel) rfl (a0a (a1Y nd) (a0a (c35 (.inl rfl)) a0k)) (fun h=>absurd h (by decide))) hc5
  ·have hu:u=1:=by omega
   refine a5f (d:=.str "shut") (by rw [hu];rfl) ?_
   lia
   exact hK "turn" [.str d,.str "shut"] c5 (a3n (ks:=["name", "position"]) (l:=[.str d,.str "shut"]) (by decide) (by decide +kernel) rfl (a0a (a1Y nd) (a0a (c35 (.inr rfl)) a0k)) (fun h=>absurd h (by decide))) hc5
 ·lia
  try refine a0E (zs:=[("add_room" : Str), "take_room", "add_source", "take_source"]) ?_
  lia
  ac_nf
  try refine a0E (zs:=[("take_line" : Str), "take_drain", "stick", "mend"]) ?_
  lia
  ac_nf
  try refine a0E (zs:=[("sign_on" : Str), "sign_off"]) ?_
  lia
  ac_nf
  exact hK "stick" [.str d] c4 (a3n (ks:=["name"]) (l:=[.str d]) (by decide) (by decide +kernel) rfl (a0a (a1Y nd) a0k) (fun h=>absurd h (by decide))) hc4
 ·lia
  try refine a0E (zs:=[("add_room" : Str), "take_room", "add_source", "take_source"]) ?_
  lia
  ac_nf
  try refine a0E (zs:=[("take_line" : Str), "take_drain", "stick", "mend"]) ?_
  lia
  ac_nf
  try refine a0E (zs:=[("sign_on" : Str), "sign_off"]) ?_
  lia
  ac_nf
  exact hK "mend" [.str d] c4 (a3n (ks:=["name"]) (l:=[.str d]) (by decide) (by decide +kernel) rfl (a0a (a1Y nd) a0k) (fun h=>absurd h (by decide))) hc4
 ·lia
  try refine a0E (zs:=[("add_room" : Str), "take_room", "add_source", "take_source"]) ?_
  lia
  ac_nf
  try refine a0E (zs:=[("take_line" : Str), "take_drain", "stick", "mend"]) ?_
  lia
  ac_nf
  try refine a0E (zs:=[("sign_on" : Str), "sign_off"]) ?_
  lia
  ac_nf
  refine a0b (T:=a07) rfl ?_
  lia
  refine a9V (key:=.inr "rooms") (d:=.lst (s.rooms.map D.str)) rfl rfl ?_
  lia
  refine ⟨rfl,b,_,c4,rfl,by rw [zag];omega,lg (by rw [zag];omega) (by rw [zag];omega),zab,hc4,fun f c5 f0 f1 hc5=>?_⟩
  rw [zac]
  rw [zag] at f1
  lia
  refine a0b (T:=a07) rfl ?_
  lia
  refine a9V (key:=.inr "rooms") (d:=.lst (s.rooms.map D.str)) rfl rfl ?_
  lia
  refine (show ∀ {i j:Int} {S:SS} {k:DK},k (.int (if j < i then j else i)) S→Bn.min.den [.int i,.int j] S k from fun h=>h) ?_
  obtain ⟨m,em,m1,m2,m3⟩:∃ m:Nat,(if ((s.rooms.map D.str).length:Int) < 24 then ((s.rooms.map D.str).length:Int) else 24)=(m:Int)∧1≤m∧m≤24∧m≤s.rooms.length:=by
   rw [zag]
   split
   ·exact ⟨s.rooms.length,rfl,by omega,by omega,Nat.le_refl _⟩
   ·exact ⟨24,rfl,by decide,Nat.le_refl _,by omega⟩
  rw [em]
  lia
  refine ⟨rfl,b,(m:Int),c5,rfl,by omega,lg (by omega) (by omega),zab,hc5,fun v c6 v0 v1 hc6=>?_⟩
  rw [zac]
  lia
  refine a9V (key:=.inr "rooms") (d:=.lst (s.rooms.map D.str)) rfl rfl ?_
  lia
  refine a9V (key:=.inr "rooms") (d:=.lst (s.rooms.map D.str)) rfl rfl ?_
  refine a05 (by rw [zag,zai];omega) ?_
  lia
  obtain ⟨f,rfl⟩:=Int.eq_ofNat_of_zero_le f0
  obtain ⟨v,rfl⟩:=Int.eq_ofNat_of_zero_le v0
  have ecut:Sv.cutD (s.rooms.map D.str ++ s.rooms.map D.str) (some (f:Int)) (some ((f:Int) + (1 + (v:Int))))=(((s.rooms ++ s.rooms).drop f).take (1 + v)).map D.str:=by
   rw [show (1:Int) + (v:Int)=((1 + v:Nat):Int) by omega,a6R (by rw [zaw,zag];omega),← zav,← List.map_drop,← List.map_take]
  rw [ecut]
  have st:a2M (((s.rooms ++ s.rooms).drop f).take (1 + v)):=⟨fun e=>by
   have:=congrArg List.length e
   rw [List.length_take,List.length_drop,zaw,List.length_nil] at this
   omega,by rw [List.length_take];omega,ring (by omega) (by omega) ok.r.2.2.1,fun z hz=>by
   have:=List.mem_of_mem_drop (List.mem_of_mem_take hz)
   exact (zap.mp this).elim (ok.r.2.2.2 z) (ok.r.2.2.2 z)⟩
  exact hK "ask" [.str j,.str h,a1L (((s.rooms ++ s.rooms).drop f).take (1 + v))] c6 (a3n (ks:=["name", "name", "rooms"]) (l:=[.str j,.str h,a1L (((s.rooms ++ s.rooms).drop f).take (1 + v))]) (by decide) (by decide +kernel) rfl (a0a (a1Y nj) (a0a (a1Y nh) (a0a (c5p st) a0k))) (fun h=>absurd h (by decide))) hc6
 ·lia
  try refine a0E (zs:=[("add_room" : Str), "take_room", "add_source", "take_source"]) ?_
  lia
  ac_nf
  try refine a0E (zs:=[("take_line" : Str), "take_drain", "stick", "mend"]) ?_
  lia
  ac_nf
  try refine a0E (zs:=[("sign_on" : Str), "sign_off"]) ?_
  lia
  ac_nf
  exact hK "begin" [.str j] c4 (a3n (ks:=["name"]) (l:=[.str j]) (by decide) (by decide +kernel) rfl (a0a (a1Y nj) a0k) (fun h=>absurd h (by decide))) hc4
 ·lia
  try refine a0E (zs:=[("add_room" : Str), "take_room", "add_source", "take_source"]) ?_
  lia
  ac_nf
  try refine a0E (zs:=[("take_line" : Str), "take_drain", "stick", "mend"]) ?_
  lia
  ac_nf
  try refine a0E (zs:=[("sign_on" : Str), "sign_off"]) ?_
  lia
  ac_nf
  exact hK "step" [.str j] c4 (a3n (ks:=["name"]) (l:=[.str j]) (by decide) (by decide +kernel) rfl (a0a (a1Y nj) a0k) (fun h=>absurd h (by decide))) hc4
 ·lia
  try refine a0E (zs:=[("add_room" : Str), "take_room", "add_source", "take_source"]) ?_
  lia
  ac_nf
  try refine a0E (zs:=[("take_line" : Str), "take_drain", "stick", "mend"]) ?_
  lia
  ac_nf
  try refine a0E (zs:=[("sign_on" : Str), "sign_off"]) ?_
  lia
  ac_nf
  exact hK "give" [.str j] c4 (a3n (ks:=["name"]) (l:=[.str j]) (by decide) (by decide +kernel) rfl (a0a (a1Y nj) a0k) (fun h=>absurd h (by decide))) hc4
 ·lia
  try refine a0E (zs:=[("add_room" : Str), "take_room", "add_source", "take_source"]) ?_
  lia
  ac_nf
  try refine a0E (zs:=[("take_line" : Str), "take_drain", "stick", "mend"]) ?_
  lia
  ac_nf
  try refine a0E (zs:=[("sign_on" : Str), "sign_off"]) ?_
  lia
  ac_nf
  exact hK "end" [.str j] c4 (a3n (ks:=["name"]) (l:=[.str j]) (by decide) (by decide +kernel) rfl (a0a (a1Y nj) a0k) (fun h=>absurd h (by decide))) hc4
 ·lia
  try refine a0E (zs:=[("add_room" : Str), "take_room", "add_source", "take_source"]) ?_
  lia
  ac_nf
  try refine a0E (zs:=[("take_line" : Str), "take_drain", "stick", "mend"]) ?_
  lia
  ac_nf
  try refine a0E (zs:=[("sign_on" : Str), "sign_off"]) ?_
  lia
  ac_nf
  exact hK "put_by" [.str j] c4 (a3n (ks:=["name"]) (l:=[.str j]) (by decide) (by decide +kernel) rfl (a0a (a1Y nj) a0k) (fun h=>absurd h (by decide))) hc4
 ·lia
  try refine a0E (zs:=[("add_room" : Str), "take_room", "add_source", "take_source"]) ?_
  lia
  ac_nf
  try refine a0E (zs:=[("take_line" : Str), "take_drain", "stick", "mend"]) ?_
  lia
  ac_nf
  try refine a0E (zs:=[("sign_on" : Str), "sign_off"]) ?_
  lia
  ac_nf
  exact hK "try_out" [.str j] c4 (a3n (ks:=["name"]) (l:=[.str j]) (by decide) (by decide +kernel) rfl (a0a (a1Y nj) a0k) (fun h=>absurd h (by decide))) hc4
 ·lia
  try refine a0E (zs:=[("add_room" : Str), "take_room", "add_source", "take_source"]) ?_
  lia
  ac_nf
  try refine a0E (zs:=[("take_line" : Str), "take_drain", "stick", "mend"]) ?_
  lia
  ac_nf
  try refine a0E (zs:=[("sign_on" : Str), "sign_off"]) ?_
  lia
  ac_nf
  exact hK "go_on" [.str j] c4 (a3n (ks:=["name"]) (l:=[.str j]) (by decide) (by decide +kernel) rfl (a0a (a1Y nj) a0k) (fun h=>absurd h (by decide))) hc4
 ·lia
  try refine a0E (zs:=[("add_room" : Str), "take_room", "add_source", "take_source"]) ?_
  lia
  ac_nf
  try refine a0E (zs:=[("take_line" : Str), "take_drain", "stick", "mend"]) ?_
  lia
  ac_nf
  try refine a0E (zs:=[("sign_on" : Str), "sign_off"]) ?_
  lia
  ac_nf
  exact hK "sign_on" [.str j,.str h] c4 (a3n (ks:=["name", "name"]) (l:=[.str j,.str h]) (by decide) (by decide +kernel) rfl (a0a (a1Y nj) (a0a (a1Y nh) a0k)) (fun h=>absurd h (by decide))) hc4
 ·lia
  try refine a0E (zs:=[("add_room" : Str), "take_room", "add_source", "take_source"]) ?_
  lia
  ac_nf
  try refine a0E (zs:=[("take_line" : Str), "take_drain", "stick", "mend"]) ?_
  lia
  ac_nf
  try refine a0E (zs:=[("sign_on" : Str), "sign_off"]) ?_
  lia
  ac_nf
  exact hK "sign_off" [.str j,.str h] c4 (a3n (ks:=["name", "name"]) (l:=[.str j,.str h]) (by decide) (by decide +kernel) rfl (a0a (a1Y nj) (a0a (a1Y nh) a0k)) (fun h=>absurd h (by decide))) hc4
 ·lia
  try refine a0E (zs:=[("add_room" : Str), "take_room", "add_source", "take_source"]) ?_
  lia
  ac_nf
  try refine a0E (zs:=[("take_line" : Str), "take_drain", "stick", "mend"]) ?_
  lia
  ac_nf
  try refine a0E (zs:=[("sign_on" : Str), "sign_off"]) ?_
  lia
  ac_nf
  refine a0b (T:=a3d) rfl ?_
  lia
  refine a9V (key:=.inr "hands") (d:=.lst (s.hands.map D.str)) rfl rfl ?_
  lia
  refine ⟨rfl,b,c4,_,rfl,a4H (by rw [zag];exact hl),by rw [zag];omega,zab,hc4,fun dx c5 hdx hc5=>?_⟩
  rw [zac]
  obtain ⟨o,ho,rfl⟩:=a4h hdx
  lia
  exact hK "hand_over" [.str j,.str h,.str o] c5 (a3n (ks:=["name", "name", "name"]) (l:=[.str j,.str h,.str o]) (by decide) (by decide +kernel) rfl (a0a (a1Y nj) (a0a (a1Y nh) (a0a (a1Y (ok.h.2.2 o ho)) a0k))) (fun h=>absurd h (by decide))) hc5
 ·lia
  try refine a0E (zs:=[("add_room" : Str), "take_room", "add_source", "take_source"]) ?_
  lia
  ac_nf
  try refine a0E (zs:=[("take_line" : Str), "take_drain", "stick", "mend"]) ?_
  lia
  ac_nf
  try refine a0E (zs:=[("sign_on" : Str), "sign_off"]) ?_
  lia
  ac_nf
  refine a0b (T:=a3d) rfl ?_
  lia
  refine a9V (key:=.inr "hands") (d:=.lst (s.hands.map D.str)) rfl rfl ?_
  lia
  refine ⟨rfl,b,c4,_,rfl,a4H (by rw [zag];exact hl),by rw [zag];omega,zab,hc4,fun dx c5 hdx hc5=>?_⟩
  rw [zac]
  obtain ⟨o,ho,rfl⟩:=a4h hdx
  lia
  exact hK "relieve" [.str h,.str o] c5 (a3n (ks:=["name", "name"]) (l:=[.str h,.str o]) (by decide) (by decide +kernel) rfl (a0a (a1Y nh) (a0a (a1Y (ok.h.2.2 o ho)) a0k)) (fun h=>absurd h (by decide))) hc5
 ) only [↓Qt.put_off]
variable {K:zbj}
theorem a7B {S:SS} {x:D} (h:Plain x):dv S 60 x=x:=b4c x 60 60 h.ok
theorem c5N {n:Nat} {i:Int} (h:0≤i) (h1:i≤99):lfD n (.int i)=true:=by
 simp only [lfD,zah]
 have e:(10:Nat) ^ 12=1000000000000:=by decide
 omega
theorem b6B {wd:Str} {parts:List D} (h:b2U wd parts) (n:Nat):FB (n + 2) 1505 (.tup (.str wd :: parts)):=by
 obtain ⟨_,kinds,de⟩:=h
 have wb:=de.wb
 rw [zak,zah] at wb
 have nd:FB (n + 1) 300 (.str wd):=⟨by simp only [lfD];exact wb.1,Nat.le_trans wb.2 (by decide)⟩
 have parts_ok:∀ x∈parts,FB (n + 1) 300 x:=fun x0 hd=>by
  obtain ⟨i,hi,rfl⟩:=List.mem_iff_getElem.mp hd
  have hk:i < kinds.length:=by rw [← de.len];exact hi
  obtain ⟨x,hx,fit⟩:=de.fits i kinds[i] (zbi hk)
  rw [zbi hi] at hx
  cases hx
  rcases fit with ⟨_,z,e,hz⟩ | ⟨_,n,e,n0,n1⟩ | ⟨_,z,e,hz⟩ | ⟨_,rs,e,hr⟩
  ·rw [e];exact (a9H hz).mono (by decide)
  ·rw [e];exact ⟨c5N n0 n1,by simp [D.py,PyData.bulk]⟩
  ·rw [e];exact (a9H (b3r hz)).mono (by decide)
  ·rw [e];exact (b4h (n:=n) hr.2.2.2 hr.2.1).mono (by decide)
 refine (b3g (n:=n + 1) (b:=300) (k:=5) (fun x hd=>?_) ?_).mono (by decide)
 ·rcases zau.mp hd with rfl | hd
  ·exact nd
  ·exact parts_ok _ hd
 ·have:=de.len
  have:=de.few
  rw [zaz]
  omega
theorem b1E {z:Str}:fine z=true↔∀ c∈z.cps.toList,c < 1114112:=by
 unfold fine PyData.strOk
 rw [← Array.all_toList,List.all_eq_true]
 exact ⟨fun h c hc=>of_decide_eq_true (h c hc),fun h c hc=>zbg (h c hc)⟩
theorem a5W {S:List Nat} {c:Nat}:∀ {ps:List (List Nat)},c∈TL.joinL S ps→c∈S∨∃ p∈ps,c∈p
 | [],h=>by simp [TL.joinL] at h
 | [p],h=>.inr ⟨p,by simp,h⟩
 | p :: q :: r,h=>by
  have h:c∈p ++ (S ++ TL.joinL S (q :: r)):=h
  rcases zap.mp h with h | h
  ·exact .inr ⟨p,by simp,h⟩
  ·rcases zap.mp h with h | h
   ·exact .inl h
   ·rcases a5W h with h | ⟨p',hp,h⟩
    ·exact .inl h
    ·exact .inr ⟨p',zao _ hp,h⟩
theorem b4j {x u:Int} (x0:0≤x) (x1:x < 6) (u0:0≤u) (u1:u < 3):∃ n:Int,atI [D.int 2,.int 26,.int (2 + x)] u=some (.int n)∧2≤n∧n≤26:=by
 by_cases e:u=0
 ·rw [e];exact ⟨2,rfl,by omega,by omega⟩
 by_cases e:u=1
 ·rw [e];exact ⟨26,rfl,by omega,by omega⟩
 ·have e:u=2:=by omega
  rw [e];exact ⟨2 + x,rfl,by omega,by omega⟩
theorem b2e:Nm "still" := by decide +kernel
theorem c50 (c:SaysX fa fn fx K):Meets ((tb K).sn N22) ((tb K).G K 22) 1 false a4W b22:=by
 refine Qt.put_in ?_
 simp (disch :=
 with_unfolding_all
 refine Qt.keep ?_
 rintro m hm ds S KK Y ⟨rfl,b,c0,rfl,hb,hc0,hK⟩
 refine ⟨rfl,?_⟩
 show a0c _ b22 [some _,none,none] _ _ _
 unfold b22
 lia
 refine a0b (T:=a2N) rfl ?_
 lia
 refine a0b (T:=a07) rfl ?_
 lia
 refine ⟨rfl,b,6,c0,rfl,by decide,by decide,hb,hc0,fun x c1 x0 x1 hc1=>?_⟩
 lia
 refine a0b (T:=a07) rfl ?_
 lia
 refine ⟨rfl,b,3,c1,rfl,by decide,by decide,zab,hc1,fun u c2 u0 u1 hc2=>?_⟩
 rw [zac]
 obtain ⟨n,en,n0,n1⟩:=b4j x0 x1 u0 u1
 refine a5f en ?_
 lia
 refine ⟨rfl,b,c2,n,rfl,by omega,by omega,zab,hc2,fun R c3 Rl Rn Ru hc3=>?_⟩
 rw [zac]
 lia
 refine b32 fun r fr=>?_
 have br:b≠r:=zad zab fr
 have fr0:∀ c',(S.set b c') r=none:=fun c'=>by rw [zaa br.symm] at fr ⊢;exact fr
 lia
 refine a0b (T:=a2N) rfl ?_
 lia
 refine ⟨rfl,b,c3,4,rfl,by decide,by decide,by rw [zaa br];exact zab,hc3,fun Z c4 Zl Zn Zu hc4=>?_⟩
 lia
 refine a0b (T:=a2N) rfl ?_
 lia
 refine ⟨rfl,b,c4,4,rfl,by decide,by decide,zab,hc4,fun J c5 Jl Jn Ju hc5=>?_⟩
 rw [zac]
 lia
 refine a0b (T:=a2N) rfl ?_
 lia
 refine ⟨rfl,b,c5,4,rfl,by decide,by decide,zab,hc5,fun Hn c6 Hnl Hnn Hnu hc6=>?_⟩
 rw [zac]
 lia
 refine ⟨by rw [zaa br.symm];exact zab,_,rfl,by show 4≤15;decide,?_⟩
 rw [if_pos rfl,zae br.symm,zac,zac]
 refine a2D (fun δ' S'=>∃ (J':List Str) (c7:Cell),a0I c7∧(J'≠[]∧J'.length≤4∧∀ z∈J',Nm z)∧S'=(S.set b c7).set r (.dic [(.inr "rooms",.lst (R.map D.str)),(.inr "devices",.lst (Z.map D.str)),(.inr "jobs",.lst (J'.map D.str)),(.inr "hands",.lst (Hn.map D.str))])∧δ'=[some (.obj b),some (.lst (R.map D.str)),some (.obj r)]) ?_ ?_
 ·lia
  refine a0b (T:=a07) rfl ?_
  lia
  refine ⟨rfl,b,4,c6,rfl,by decide,by decide,by rw [zaa br];exact zab,hc6,fun t c7 t0 t1 hc7=>?_⟩
  rw [zae br.symm,zac]
  lia
  by_cases ht:t=0
  ·rw [if_pos (zbg ht)]
   lia
   refine c5M zab rfl rfl ?_
   lia
   rw [show (3:Int)=((3:Nat):Int) from rfl,a3l,← List.map_take]
   try refine a05 (by rw [zag,List.length_take,zai];show _ + 1≤_;omega) ?_
   lia
   refine b8l zab rfl (by rw [zai];show 4 < 16777216;decide) ?_
   rw [zac]
   lia
   refine ⟨Z.take 3 ++ ([("still" : Str)]:List Str),c7,hc7,⟨by simp,by rw [zaw,List.length_take];show _ + 1≤4;omega,fun z hz=>(zap.mp hz).elim (fun h=>Zn z (List.mem_of_mem_take h)) fun h=>by rw [zaj.mp h];exact b2e⟩,by rw [zav];rfl,rfl⟩
  ·rw [if_neg (by rw [zah];exact ht)]
   lia
   exact ⟨J,c7,hc7,⟨fun e=>by rw [e] at Jl;exact absurd Jl (by decide),by omega,Jn⟩,rfl,rfl⟩
 ·rintro δ' S' ⟨J',c7,hc7,hJ,rfl,rfl⟩
  refine b0U rfl zab ?_
  rw [zaf (fr0 c7)]
  lia
  exact hK ⟨R,Z,J',Hn⟩ c7 ⟨⟨by show 2≤R.length;omega,by show R.length≤26;omega,Ru,Rn⟩,⟨fun e=>by rw [show Z=[] from e] at Zl;exact absurd Zl (by decide),by show Z.length≤4;omega,Zn⟩,hJ,⟨fun e=>by rw [show Hn=[] from e] at Hnl;exact absurd Hnl (by decide),by show Hn.length≤4;omega,Hnn⟩⟩ hc7
 ) only [↓Qt.put_off]
variable {K:zbj}
structure Fa (n:Nat) (d:D):Prop where
 data:pdE d=some (paD d)
 short:(paD d).leavesShort 22=true
 show_:(paD d).showable=true
 deep:(paD d).depth≤n + 1
structure b98 (n:Nat) (ds:List D):Prop where
 data:b44 ds=some (a5C ds)
 short:PyData.leavesShortAll 22 (a5C ds)=true
 show_:PyData.showableAll (a5C ds)=true
 deep:PyData.depthAll (a5C ds)≤n + 1
mutual
theorem b6c:∀ (d:D) (n:Nat),anD n d=true→Fa n d
 | .non,n,_=>⟨rfl,by simp [paD,PyData.leavesShort],by simp [paD,PyData.showable],by simp [paD,PyData.depth]⟩
 | .bl _,n,_=>⟨rfl,by simp [paD,PyData.leavesShort],by simp [paD,PyData.showable],by simp [paD,PyData.depth]⟩
 | .int i,n,h=>by
  simp only [anD,zah] at h
  refine ⟨rfl,?_,?_,by simp [paD,PyData.depth]⟩
  ·simp only [paD,PyData.leavesShort,zah]
   rw [PyData.shown_int]
   have:=PySem.int_text_length_le10 (a:=i) (k:=21) (by decide) h
   rw [PySem.ofString_length]
   exact this
  ·simp only [paD,PyData.showable,zah]
   exact log2_small (Nat.lt_of_lt_of_le (Nat.lt_trans h (by decide:10 ^ 21 < 2 ^ 70)) (Nat.pow_le_pow_right (by decide) (by decide)))
 | .str z,n,h=>by
  simp only [anD,zak,zah] at h
  exact ⟨rfl,by simp only [paD,PyData.leavesShort];exact a5d h.2,by simp [paD,PyData.showable],by simp [paD,PyData.depth]⟩
 | .lst ds,n,h=>by
  simp only [anD,zak,zah] at h
  obtain ⟨m,rfl⟩:∃ m,n=m + 1:=⟨n - 1,by omega⟩
  have a:=a9d ds m h.2
  exact ⟨by simp only [pdE,paD,a.data,Option.map_some],by simp only [paD,PyData.leavesShort];exact a.short,by simp only [paD,PyData.showable];exact a.show_,by simp only [paD,PyData.depth];have:=a.deep;omega⟩
 | .tup ds,n,h=>by
  simp only [anD,zak,zah] at h
  obtain ⟨m,rfl⟩:∃ m,n=m + 1:=⟨n - 1,by omega⟩
  have a:=a9d ds m h.2
  exact ⟨by simp only [pdE,paD,a.data,Option.map_some],by simp only [paD,PyData.leavesShort];exact a.short,by simp only [paD,PyData.showable];exact a.show_,by simp only [paD,PyData.depth];have:=a.deep;omega⟩
 | .dic [],n,h=>⟨rfl,by simp [paD,PyData.leavesShort,PyData.leavesShortKv],by simp [paD,PyData.showable,PyData.showableKv],by simp [paD,PyData.depth,PyData.depthKv]⟩
 | .dic (_ :: _),n,h=>by simp [anD] at h
 | .obj _,_,h=>by simp [anD] at h
 | .exc _ _ _ _,_,h=>by simp [anD] at h
 | .err _ _ _ _,_,h=>by simp [anD] at h
theorem a9d:∀ (ds:List D) (n:Nat),a8S n ds=true→b98 n ds
 | [],n,_=>⟨rfl,rfl,rfl,by simp [a5C,PyData.depthAll]⟩
 | d :: ds,n,h=>by
  simp only [a8S,zak] at h
  have a:=b6c d n h.1
  have b:=a9d ds n h.2
  exact ⟨by simp only [b44,a5C,a.data,b.data],by simp only [a5C,PyData.leavesShortAll,a.short,b.short];rfl,by simp only [a5C,PyData.showableAll,a.show_,b.show_];rfl,by simp only [a5C,PyData.depthAll];have:=a.deep;have:=b.deep;omega⟩
end
theorem AB.shows {n b:Nat} {d:D} (h:AB n b d) (hn:n≤18) (hb:b≤600000):pdE d=some (paD d)∧a7s (paD d):=by
 have f:=b6c d n h.an
 refine ⟨f.data,f.show_,?_,by have:=f.deep;omega⟩
 have:=PyData.shown_le_bulk 22 (by decide) (paD d) f.short
 have:=h.bk
 rw [zai]
 omega
mutual
theorem b6d:∀ (d:D) (n m:Nat),n≤m→anD n d=true→anD m d=true
 | .non,n,m,_,h=>rfl
 | .bl _,n,m,_,h=>rfl
 | .int _,n,m,_,h=>by simpa only [anD] using h
 | .str _,n,m,_,h=>by simpa only [anD] using h
 | .lst ds,n,m,l,h=>by
  simp only [anD,zak,zah] at h ⊢
  exact ⟨by omega,a9e ds (n - 1) (m - 1) (by omega) h.2⟩
 | .tup ds,n,m,l,h=>by
  simp only [anD,zak,zah] at h ⊢
  exact ⟨by omega,a9e ds (n - 1) (m - 1) (by omega) h.2⟩
 | .dic _,n,m,_,h=>by simpa only [anD] using h
 | .obj _,n,m,_,h=>by simp [anD] at h
 | .exc _ _ _ _,n,m,_,h=>by simp [anD] at h
 | .err _ _ _ _,n,m,_,h=>by simp [anD] at h
theorem a9e:∀ (ds:List D) (n m:Nat),n≤m→a8S n ds=true→a8S m ds=true
 | [],_,_,_,_=>rfl
 | d :: ds,n,m,l,h=>by
  simp only [a8S,zak] at h ⊢
  exact ⟨b6d d n m l h.1,a9e ds n m l h.2⟩
end
theorem AB.mono {n m b b':Nat} {d:D} (h:AB n b d) (le:n≤m) (lb:b≤b'):AB m b' d:=⟨b6d d n m le h.an,Nat.le_trans h.bk lb⟩
theorem a2O {n:Nat}:∀ {ds:List D},(∀ d∈ds,anD n d=true)→a8S n ds=true
 | [],_=>rfl
 | d :: ds,h=>by
  simp only [a8S,zak]
  exact ⟨h d zal,a2O fun e he=>h e (zao _ he)⟩
theorem a9f {n:Nat}:∀ {ds:List D},a8S n ds=true→∀ d∈ds,anD n d=true
 | d :: ds,h,e,he=>by
  simp only [a8S,zak] at h
  rcases zau.mp he with rfl | he
  ·exact h.1
  ·exact a9f h.2 e he
theorem a3w {b:Nat}:∀ {ds:List D},(∀ d∈ds,(paD d).bulk≤b)→PyData.bulkAll (a5C ds)≤ds.length * (b + 1)
 | [],_=>by simp [a5C,PyData.bulkAll]
 | d :: ds,h=>by
  have h1:=h d zal
  have h2:=a3w (b:=b) fun e he=>h e (zao _ he)
  simp only [a5C,PyData.bulkAll,zaz,Nat.add_mul,Nat.one_mul]
  simp only [Nat.mul_add,Nat.mul_one] at *
  omega
theorem b2Z {n b k:Nat} {ds:List D} (h:∀ d∈ds,AB n b d) (few:ds.length≤k):AB (n + 1) (k * (b + 1)) (.lst ds):=⟨by
 simp only [anD,zak,zah]
 exact ⟨by omega,a2O fun d hd=>(h d hd).an⟩,by
 simp only [paD,PyData.bulk]
 exact Nat.le_trans (a3w fun d hd=>(h d hd).bk) (Nat.mul_le_mul_right _ few)⟩
theorem a88 {n b k:Nat} {ds:List D} (h:∀ d∈ds,AB n b d) (few:ds.length≤k):AB (n + 1) (k * (b + 1)) (.tup ds):=⟨by
 simp only [anD,zak,zah]
 exact ⟨by omega,a2O fun d hd=>(h d hd).an⟩,by
 simp only [paD,PyData.bulk]
 exact Nat.le_trans (a3w fun d hd=>(h d hd).bk) (Nat.mul_le_mul_right _ few)⟩
theorem a1P {x:D} {ds:List D} (h:Dt x) (e:x=.lst ds∨x=.tup ds):∀ d∈ds,Dt d:=fun d hd=>by
 obtain ⟨n,h⟩:=h
 refine ⟨n - 1,?_⟩
 rcases e with rfl | rfl <;> (simp only [anD,zak] at h;exact a9f h.2 d hd)
theorem a3v {n:Nat} {z:Str} (h:fine z=true) (few:z.length≤20):AB n 20 (.str z):=⟨by
 simp only [anD,zak,zah]
 exact ⟨by have e:z.length=z.cps.size:=rfl;omega,h⟩,by simp only [paD,PyData.bulk];exact few⟩
theorem b3Q {n:Nat} {z:Str} (h:Nm z):AB n 20 (.str z):=a3v h.fine (by have:=h.len;omega)
def a0M (n:String):D→Bool
 | .str _=>n == "str"
 | .int _=>n == "int"
 | .bl _=>n == "bool" || n == "int"
 | .lst _=>n == "list"
 | .tup _=>n == "tuple"
 | _=>false
theorem a2p {G:Gm} {S:SS} {x:D} {n:String} {Q:Bool→Prop} (hn:n∈["str", "int", "bool", "list", "tuple"]) (hx:Dt x) (k:Q (a0M n x)):∃ t b,tyD S x=some t∧a2L G S x∧PySem.W.kitOne G.K t ((Cn.ty n).val G)=some b∧Q b:=by
 obtain ⟨m,hx⟩:=hx
 simp only [zau,zba,or_false] at hn
 rcases hn with rfl | rfl | rfl | rfl | rfl <;> cases x with
 | obj _=>simp [anD] at hx
 | exc _ _ _ _=>simp [anD] at hx
 | err _ _ _ _=>simp [anD] at hx
 | _=>exact a5V rfl trivial (by first | rfl | kernel_rfl) k
theorem eq_nil {S:SS} {KK:DK} {l:List D} (k:KK (.bl l.isEmpty) S):a0D .Eq (.lst l) (.lst []) S KK:=by
 cases l with
 | nil=>exact c0K rfl rfl k
 | cons x l=>exact b6g (ds:=x :: l) (es:=[]) rfl rfl (by simp) k
theorem b7I {S:SS} {KK:DK} {l:List D} (k:KK (.bl (!l.isEmpty)) S):a0D .NotEq (.lst l) (.lst []) S KK:=by
 cases l with
 | nil=>exact b6j rfl rfl k
 | cons x l=>exact b6i (ds:=x :: l) (es:=[]) rfl rfl (by simp) k
theorem a9A {z:Str} (h:Dt (.str z)):z.length≤131072∧fine z=true:=by
 obtain ⟨n,h⟩:=h
 simp only [anD,zak,zah] at h
 exact h
variable {K:zbj}
theorem a0p {S:SS}:Grows S S:=fun _ _=>rfl
theorem tru {P:Prop} (h:P):(true=true↔P):=⟨fun _=>h,fun _=>rfl⟩
theorem fal {P:Prop} (h:¬ P):(false=true↔P):=⟨fun e=>(nomatch e),fun p=>absurd p h⟩
theorem a3K {c:Nat}:c∈("abcdefghijklmnopqrstuvwxyz" : Str).cps.toList↔97≤c∧c≤122:=by
 have e:("abcdefghijklmnopqrstuvwxyz" : Str).cps.toList=List.range' 97 26:=by decide +kernel
 rw [e,List.mem_range'_1]
 omega
theorem me7 (c:SaysX fa fn fx K):Meets ((tb K).sn N7) ((tb K).G K 7) 1 false (a4u NmP) b7:=by
 refine Qt.put_in ?_
 simp (disch :=
 with_unfolding_all
 refine Qt.keep ?_
 rintro m hm ds S KK Y ⟨rfl,x,rfl,hx,hK⟩
 refine ⟨rfl,?_⟩
 show a0c _ b7 [some _,none] _ _ _
 unfold b7
 by_cases hs:∃ z,x=.str z
 ·obtain ⟨z,rfl⟩:=hs
  have lz:=(a9A hx).1
  have el:z.length=z.cps.toList.length:=by rw [Array.length_toList];rfl
  have no:¬ Nm z→¬ NmP (.str z):=fun h ⟨y,e,hy⟩=>by cases e;exact h hy
  lia
  refine a9S ?_
  lia
  rw [if_neg (by decide)]
  lia
  refine b1X (by rw [zai];omega) ?_
  lia
  by_cases h1:(1:Int)≤(z.length:Int)
  ·rw [if_pos (zbg h1)]
   lia
   by_cases h2:(z.length:Int)≤8
   ·rw [if_neg (by simpa using h2)]
    lia
    refine ⟨fun i δ' S'=>∃ x,S'=S∧δ'=[some (.str z),x]∧∀ j c,j < i→z.cps.toList[j]?=some c→97≤c∧c≤122,⟨none,rfl,rfl,fun j c h=>absurd h (Nat.not_lt_zero _)⟩,fun _ _ _ _ _=>trivial,?_,?_⟩
    ·rintro i d δ' S' hd ⟨x,rfl,rfl,sofar⟩
     unfold a0U at hd
     rw [zbh,zam] at hd
     obtain ⟨ch,hc,rfl⟩:=hd
     refine a5x ?_
     lia
     by_cases hl:ch∈("abcdefghijklmnopqrstuvwxyz" : Str).cps.toList
     ·rw [if_neg (by simpa using hl)]
      lia
      refine ⟨_,rfl,rfl,fun j c hj e=>?_⟩
      by_cases ej:j=i
      ·subst ej
       rw [hc] at e
       cases e
       exact a3K.mp hl
      ·exact sofar j c (by omega) e
     ·rw [if_pos (by simpa using hl)]
      lia
      exact hK false (fal (no fun h=>hl (a3K.mpr (h.2.2 ch (zaq hc)))))
    ·rintro δ' S' ⟨x,rfl,rfl,all⟩
     lia
     refine hK true (tru ⟨z,rfl,by omega,by omega,fun c hc=>?_⟩)
     obtain ⟨j,hj⟩:=List.mem_iff_getElem?.mp hc
     refine all j c ?_ hj
     unfold a0U
     rw [zag]
     exact (List.getElem?_eq_some_iff.mp hj).1
   ·rw [if_pos (by simpa using h2)]
    lia
    exact hK false (fal (no fun h=>by have:=h.1;omega))
  ·rw [if_neg (by rw [zah];exact h1)]
   lia
   exact hK false (fal (no fun h=>by have:=h.2.1;omega))
 ·have no:¬ NmP x:=fun ⟨z,e,_⟩=>hs ⟨z,e⟩
  have e:a0M "str" x=false:=by cases x <;> first | rfl | exact absurd ⟨_,rfl⟩ hs
  lia
  refine a2p (n := "str") (by decide) hx ?_
  rw [e]
  lia
  rw [if_pos (by decide)]
  rw [if_pos rfl]
  lia
  exact hK false (fal no)
 ) only [↓Qt.put_off]
theorem me8 (c:SaysX fa fn fx K):Meets ((tb K).sn N8) ((tb K).G K 8) 1 false (a4u a87) b8:=by
 refine Qt.put_in ?_
 simp (disch :=
 with_unfolding_all
 refine Qt.keep ?_
 rintro m hm ds S KK Y ⟨rfl,x,rfl,hx,hK⟩
 refine ⟨rfl,?_⟩
 show a0c _ b8 [some _] _ _ _
 unfold b8
 lia
 refine a2p (n := "int") (by decide) hx ?_
 by_cases hi:a0M "int" x=true
 ·rw [hi]
  lia
  rw [if_pos rfl]
  lia
  refine a2p (n := "bool") (by decide) hx ?_
  cases x with
  | int i =>
   rw [show a0M "bool" (.int i)=false from rfl]
   lia
   exact hK true (tru ⟨i,rfl⟩)
  | bl b =>
   rw [show a0M "bool" (.bl b)=true from rfl]
   lia
   exact hK false (fal fun ⟨_,e⟩=>nomatch e)
  | _=>exact nomatch hi
 ·rw [Bool.not_eq_true] at hi
  rw [hi]
  lia
  rw [if_neg (by decide)]
  exact hK false (fal fun ⟨i,e⟩=>by rw [e] at hi;exact nomatch hi)
 ) only [↓Qt.put_off]
theorem c5S (c:SaysX fa fn fx K):Meets ((tb K).sn N14) ((tb K).G K 14) 1 false (a4u a6F) b14:=by
 refine Qt.put_in ?_
 simp (disch :=
 with_unfolding_all
 refine Qt.keep ?_
 rintro m hm ds S KK Y ⟨rfl,x,rfl,hx,hK⟩
 refine ⟨rfl,?_⟩
 show a0c _ b14 [some _] _ _ _
 unfold b14
 lia
 refine a0b (T:=a4u a87) rfl ?_
 lia
 refine ⟨rfl,x,rfl,hx,fun k hk=>?_⟩
 lia
 by_cases h:k=true
 ·rw [if_pos h]
  obtain ⟨i,rfl⟩:=hk.mp h
  have iff:a6F (.int i)↔(0≤i∧i≤99):=⟨fun ⟨j,e,h⟩=>by cases e;exact h,fun h=>⟨i,rfl,h⟩⟩
  lia
  by_cases h0:(0:Int)≤i
  ·rw [if_pos (zbg h0)]
   lia
   refine hK _ ?_
   rw [zah,iff]
   exact ⟨fun h=>⟨h0,h⟩,fun h=>h.2⟩
  ·rw [if_neg (by rw [zah];exact h0)]
   exact hK false (fal fun h=>h0 (iff.mp h).1)
 ·rw [if_neg h]
  rw [Bool.not_eq_true] at h
  subst h
  exact hK false (fal fun ⟨i,e,_⟩=>nomatch hk.mpr ⟨i,e⟩)
 ) only [↓Qt.put_off]
theorem me9 (c:SaysX fa fn fx K):Meets ((tb K).sn N9) ((tb K).G K 9) 1 false (a4u b3K) b9:=by
 refine Qt.put_in ?_
 simp (disch :=
 with_unfolding_all
 refine Qt.keep ?_
 rintro m hm ds S KK Y ⟨rfl,x,rfl,hx,hK⟩
 refine ⟨rfl,?_⟩
 show a0c _ b9 [some _] _ _ _
 unfold b9
 lia
 refine a2p (n := "str") (by decide) hx ?_
 by_cases hs:∃ z,x=.str z
 ·obtain ⟨z,rfl⟩:=hs
  have iff:b3K (.str z)↔(z = "open" ∨ z = "shut"):=⟨fun ⟨y,e,h⟩=>by cases e;exact h,fun h=>⟨z,rfl,h⟩⟩
  rw [show a0M "str" (.str z)=true from rfl]
  lia
  rw [if_pos rfl]
  lia
  by_cases h:z = "open"
  ·rw [if_pos (zbg h)]
   rw [zbg h]
   exact hK true (tru (iff.mpr (.inl h)))
  ·rw [if_neg (by rw [zah];exact h)]
   lia
   refine hK _ ?_
   rw [zah,iff]
   exact ⟨.inr,fun e=>e.resolve_left h⟩
 ·have e:a0M "str" x=false:=by cases x <;> first | rfl | exact absurd ⟨_,rfl⟩ hs
  rw [e]
  lia
  rw [if_neg (by decide)]
  exact hK false (fal fun ⟨z,e,_⟩=>hs ⟨z,e⟩)
 ) only [↓Qt.put_off]
theorem b0Y {l:List D} {zs:List Str} {i:Nat} {z:Str} (h:l.take i=zs.map D.str) (e:l[i]?=some (.str z)):l.take (i + 1)=(zs ++ [z]).map D.str:=by
 rw [List.take_add_one,h,e,zav]
 rfl
theorem b2C {l:List D} {zs ws:List Str} {i:Nat} (h:l.take i=zs.map D.str) (e:l=ws.map D.str):zs=ws.take i:=by
 subst e
 rw [← List.map_take] at h
 exact (a1V (by rw [h])).symm
theorem c5T (c:SaysX fa fn fx K):Meets ((tb K).sn N15) ((tb K).G K 15) 1 false (b1n a82) b15:=by
 refine Qt.put_in ?_
 simp (disch :=
 with_unfolding_all
 refine Qt.keep ?_
 rintro m hm ds S KK Y ⟨rfl,x,rfl,hx,hK⟩
 refine ⟨rfl,?_⟩
 show a0c _ b15 [some _,none,none] _ _ _
 unfold b15
 lia
 refine a2p (n := "list") (by decide) hx ?_
 by_cases hs:∃ l,x=.lst l
 ·obtain ⟨l,rfl⟩:=hs
  rw [show a0M "list" (.lst l)=true from rfl]
  lia
  rw [if_neg (by decide)]
  lia
  by_cases few:(60:Int) < (l.length:Int)
  ·rw [if_pos (zbg few)]
   lia
   refine hK false _ a0p (fal fun ⟨zs,e,_,_,h⟩=>?_)
   cases e
   rw [zag] at few
   omega
  rw [if_neg (by rw [zah];exact few)]
  lia
  refine b6x fun p fp=>?_
  lia
  refine ⟨_,rfl,?_⟩
  refine ⟨fun i δ' S'=>∃ x zs,S'=S.set p (.dic (a1t fU (units zs)))∧δ'=[some (.lst l),some (.obj p),x]∧l.take i=zs.map D.str∧zs.Nodup∧(∀ z∈zs,Nm z),⟨none,[],rfl,rfl,rfl,List.nodup_nil,fun z h=>nomatch h⟩,fun _ _ _ _ _=>rfl,?_,?_⟩
  ·rintro i d δ' S' hd ⟨x,zs,rfl,rfl,et,u,nm⟩
   have hi:i < l.length:=(List.getElem?_eq_some_iff.mp hd).1
   have zl:zs.length≤i:=by
    have:=congrArg List.length et
    rw [List.length_take,zag] at this
    omega
   have gr:Grows S (S.set p (.dic (a1t fU (units zs)))):=Grows.put fp
   refine a5x ?_
   lia
   refine a6r (T:=a4u NmP) rfl ?_
   lia
   refine ⟨rfl,d,rfl,a1P hx (.inl rfl) d (zaq hd),fun k hk=>?_⟩
   lia
   by_cases h:k=true
   ·obtain ⟨z,rfl,hz⟩:=hk.mp h
    subst h
    rw [if_neg (by decide)]
    lia
    refine c5H zab rfl ?_
    rw [b5w,a2s]
    lia
    by_cases hin:z∈zs
    ·rw [if_pos (zbg hin)]
     lia
     refine hK false _ gr (fal fun ⟨ws,e,wu,wn,wl⟩=>?_)
     cases e
     have e1:=b2C et rfl
     rw [zbh,zam] at hd
     obtain ⟨y,hy,ey⟩:=hd
     cases ey
     have nw:=b3p wu hy
     rw [← e1] at nw
     exact nw hin
    ·rw [if_neg (by rw [zah];exact hin)]
     lia
     refine b8l zab rfl (by rw [a7W,zai];unfold units;rw [zag];omega) ?_
     rw [zac,show (D.bl true)=fU () from rfl,b2b (show z∉nms (units zs) from by rw [a2s];exact hin),← a8O]
     lia
     exact ⟨_,zs ++ [z],rfl,rfl,b0Y et hd,List.nodup_append.mpr ⟨u,by simp,fun a ha b hb e=>hin (by rw [← zaj.mp hb,← e];exact ha)⟩,fun y hy=>(zap.mp hy).elim (nm y) fun h=>by rw [zaj.mp h];exact hz⟩
   ·rw [Bool.not_eq_true] at h
    subst h
    rw [if_pos (by decide)]
    rw [if_pos rfl]
    lia
    refine hK false _ gr (fal fun ⟨ws,e,wu,wn,wl⟩=>?_)
    cases e
    rw [zbh,zam] at hd
    obtain ⟨y,hy,rfl⟩:=hd
    exact nomatch hk.mpr ⟨y,rfl,wn y (zaq hy)⟩
  ·rintro δ' S' ⟨x,zs,rfl,rfl,et,u,nm⟩
   refine b0U rfl zab ?_
   rw [zaf fp]
   lia
   rw [List.take_length] at et
   subst et
   exact hK true _ a0p (tru ⟨zs,rfl,u,nm,by rw [zag] at few;omega⟩)
 ·have e:a0M "list" x=false:=by cases x <;> first | rfl | exact absurd ⟨_,rfl⟩ hs
  rw [e]
  lia
  rw [if_pos (by decide)]
  rw [if_pos rfl]
  lia
  exact hK false _ a0p (fal fun ⟨zs,e,_⟩=>hs ⟨_,e⟩)
 ) only [↓Qt.put_off]
theorem c5Y (c:SaysX fa fn fx K):Meets ((tb K).sn N20) ((tb K).G K 20) 1 false (b1n a1i) b20:=by
 refine Qt.put_in ?_
 simp (disch :=
 with_unfolding_all
 refine Qt.keep ?_
 rintro m hm ds S KK Y ⟨rfl,x,rfl,hx,hK⟩
 refine ⟨rfl,?_⟩
 show a0c _ b20 [some _] _ _ _
 unfold b20
 lia
 refine a0b (T:=b1n a82) rfl ?_
 lia
 refine ⟨rfl,x,rfl,hx,fun k S1 g hk=>?_⟩
 lia
 by_cases h:k=true
 ·rw [if_pos h]
  obtain ⟨zs,rfl,u,nm,few⟩:=hk.mp h
  have iff:a1i (.lst (zs.map D.str))↔(1≤zs.length∧zs.length≤24):=by
   constructor
   ·rintro ⟨ws,e,h1,h2,_⟩
    have e:zs=ws:=a1V e
    subst e
    exact ⟨List.length_pos_iff.mpr h1,h2⟩
   ·exact fun h=>⟨zs,rfl,List.length_pos_iff.mp h.1,h.2,u,nm⟩
  lia
  rw [zag]
  by_cases h0:(1:Int)≤(zs.length:Int)
  ·rw [if_pos (zbg h0)]
   lia
   refine hK _ _ g ?_
   rw [zah,iff]
   try rw [zag]
   omega
  ·rw [if_neg (by rw [zah];exact h0)]
   exact hK false _ g (fal fun h=>by have:=(iff.mp h).1;omega)
 ·rw [if_neg h]
  rw [Bool.not_eq_true] at h
  subst h
  refine hK false _ g (fal fun ⟨rs,e,h1,h2,h3,h4⟩=>nomatch hk.mpr ⟨rs,e,h3,h4,by omega⟩)
 ) only [↓Qt.put_off]
theorem a1j {x:D}:a4q "name" x↔NmP x:=⟨fun h=>by
 rcases h with ⟨_,h⟩ | ⟨e,_⟩ | ⟨e,_⟩ | ⟨e,_⟩
 ·exact h
 all_goals exact absurd e (by decide),fun h=>.inl ⟨rfl,h⟩⟩
theorem a7E {x:D}:a4q "cost" x↔a6F x:=⟨fun h=>by
 rcases h with ⟨e,_⟩ | ⟨_,h⟩ | ⟨e,_⟩ | ⟨e,_⟩
 ·exact absurd e (by decide)
 ·exact h
 all_goals exact absurd e (by decide),fun h=>.inr (.inl ⟨rfl,h⟩)⟩
theorem a9I {x:D}:a4q "position" x↔b3K x:=⟨fun h=>by
 rcases h with ⟨e,_⟩ | ⟨e,_⟩ | ⟨_,h⟩ | ⟨e,_⟩
 ·exact absurd e (by decide)
 ·exact absurd e (by decide)
 ·exact h
 ·exact absurd e (by decide),fun h=>.inr (.inr (.inl ⟨rfl,h⟩))⟩
theorem a5K {x:D}:a4q "rooms" x↔a1i x:=⟨fun h=>by
 rcases h with ⟨e,_⟩ | ⟨e,_⟩ | ⟨e,_⟩ | ⟨_,h⟩
 ·exact absurd e (by decide)
 ·exact absurd e (by decide)
 ·exact absurd e (by decide)
 ·exact h,fun h=>.inr (.inr (.inr ⟨rfl,h⟩))⟩
theorem c52 (c:SaysX fa fn fx K):Meets ((tb K).sn N24) ((tb K).G K 24) 2 false a6J b24:=by
 refine Qt.put_in ?_
 simp (disch :=
 with_unfolding_all
 refine Qt.keep ?_
 rintro m hm ds S KK Y ⟨rfl,kd,x,rfl,hx,hk,hK⟩
 refine ⟨rfl,?_⟩
 show a0c _ b24 [some _,some _] _ _ _
 unfold b24
 simp only [a3t,zau,zba,or_false] at hk
 rcases hk with rfl | rfl | rfl | rfl
 ·lia
  ac_nf
  refine a0b (T:=a4u NmP) rfl ?_
  lia
  exact ⟨rfl,x,rfl,hx,fun k h=>hK k _ a0p (h.trans a1j.symm)⟩
 ·lia
  ac_nf
  refine a0b (T:=a4u a6F) rfl ?_
  lia
  exact ⟨rfl,x,rfl,hx,fun k h=>hK k _ a0p (h.trans a7E.symm)⟩
 ·lia
  ac_nf
  refine a0b (T:=a4u b3K) rfl ?_
  lia
  exact ⟨rfl,x,rfl,hx,fun k h=>hK k _ a0p (h.trans a9I.symm)⟩
 ·lia
  ac_nf
  refine a0b (T:=b1n a1i) rfl ?_
  lia
  exact ⟨rfl,x,rfl,hx,fun k S' g h=>hK k _ g (h.trans a5K.symm)⟩
 ) only [↓Qt.put_off]
theorem a7H {z:Str}:(valD a0P.kv (.inr z)).isSome=decide (z∈a0h):=by
 rw [Bool.eq_iff_iff,zah]
 have keys:a0P.kv.map (·.1)=a0h.map Sum.inr:=by kernel_rfl
 constructor
 ·intro h
  obtain ⟨d,hd⟩:=Option.isSome_iff_exists.mp h
  unfold valD at hd
  rw [zam] at hd
  obtain ⟨kv,hf,_⟩:=hd
  have h1:=List.find?_some hf
  have h2:=List.mem_map_of_mem (f:=(·.1)) (List.mem_of_find?_eq_some hf)
  rw [keys,of_decide_eq_true h1] at h2
  obtain ⟨w,hw,e⟩:=zan.mp h2
  cases e
  exact hw
 ·intro h
  rw [a4D z h]
  rfl
theorem a7P:∀ w∈a0h,∀ k∈a0l w,k∈a3t:=by decide +kernel
theorem c54 (c:SaysX fa fn fx K):Meets ((tb K).sn N26) ((tb K).G K 26) 1 false (b1n a2h) b26:=by
 refine Qt.put_in ?_
 simp (disch :=
 with_unfolding_all
 refine Qt.keep ?_
 rintro m hm ds S KK Y ⟨rfl,x,rfl,hx,hK⟩
 refine ⟨rfl,?_⟩
 show a0c _ b26 [some _,none,none,none] _ _ _
 unfold b26
 lia
 refine a2p (n := "tuple") (by decide) hx ?_
 by_cases hs:∃ l,x=.tup l
 ·obtain ⟨l,rfl⟩:=hs
  rw [show a0M "tuple" (.tup l)=true from rfl]
  lia
  rw [if_neg (by decide)]
  lia
  cases l with
  | nil =>
   rw [if_pos (by decide)]
   rw [if_pos (by decide)]
   lia
   exact hK false _ a0p (fal fun ⟨_,_,e,_⟩=>nomatch e)
  | cons x0 l =>
  rw [if_neg (by rw [zah,zaz];omega)]
  lia
  refine a7M (d:=x0) (atI_nat (j:=0) rfl) ?_
  lia
  have hx0:=a1P hx (.inr rfl) x0 zal
  refine a2p (n := "str") (by decide) hx0 ?_
  by_cases hw:∃ z,x0=.str z
  ·obtain ⟨wd,rfl⟩:=hw
   rw [show a0M "str" (.str wd)=true from rfl]
   lia
   rw [if_neg (by decide)]
   lia
   refine a7M (d:=.str wd) (atI_nat (j:=0) rfl) ?_
   lia
   rw [a7H]
   lia
   by_cases hin:wd∈a0h
   ·rw [if_neg (by simpa using hin)]
    lia
    refine a7M (d:=.str wd) (atI_nat (j:=0) rfl) ?_
    lia
    refine ⟨wd,_,rfl,a4D wd hin,?_⟩
    lia
    by_cases len:l.length=(a0l wd).length
    ·rw [if_neg (by simp [len])]
     lia
     refine ⟨_,rfl,?_⟩
     refine ⟨fun i δ' S'=>Grows S S'∧(∀ j k,j < i→(a0l wd)[j]?=some k→∃ y,l[j]?=some y∧a4q k y)∧∃ a b,δ'=[some (.tup (.str wd :: l)),some (.tup ((a0l wd).map D.str)),a,b],⟨a0p,fun j k h=>absurd h (Nat.not_lt_zero _),none,none,rfl⟩,fun _ _ _ _ _=>trivial,?_,?_⟩
     ·rintro i d0 δ' S' hd ⟨g,sofar,a,b,rfl⟩
      obtain ⟨e0,he,rfl⟩:=a5c hd
      rw [zbh,zam] at he
      obtain ⟨k,hk,rfl⟩:=he
      have hi:i < l.length:=by rw [len];exact (List.getElem?_eq_some_iff.mp hk).1
      refine ⟨_,rfl,rfl,?_⟩
      show a0c _ _ [some _,some _,some (.int (i:Nat)),some (.str k)] _ _ _
      lia
      refine a6r (T:=a6J) rfl ?_
      lia
      refine a7M (d:=l[i]) (by rw [show ((i:Nat):Int) + 1=((i + 1:Nat):Int) from by omega];exact atI_nat (by rw [List.getElem?_cons_succ];exact zbi hi)) ?_
      lia
      refine ⟨rfl,k,l[i],rfl,a1P hx (.inr rfl) _ (zao _ (List.getElem_mem hi)),a7P wd hin k (zaq hk),fun q S2 g2 hq=>?_⟩
      lia
      by_cases h:q=true
      ·subst h
       rw [if_neg (by decide)]
       lia
       refine ⟨g.trans g2,fun j k' hj e=>?_,_,_,rfl⟩
       by_cases ej:j=i
       ·subst ej
        rw [hk] at e
        cases e
        exact ⟨l[j],zbi hi,hq.mp rfl⟩
       ·exact sofar j k' (by omega) e
      ·rw [Bool.not_eq_true] at h
       subst h
       rw [if_pos (by decide)]
       lia
       refine hK false _ (g.trans g2) (fal fun ⟨wd',l',e,_,_,fits,_⟩=>?_)
       cases e
       obtain ⟨y,hy,fit⟩:=fits i k hk
       rw [zbi hi] at hy
       cases hy
       exact nomatch hq.mpr fit
     ·rintro δ' S' ⟨g,all,a,b,rfl⟩
      have fits:∀ (i:Nat) (k:Str),(a0l wd)[i]?=some k→∃ y,l[i]?=some y∧a4q k y:=fun i k e=>all i k (by
       have:=(List.getElem?_eq_some_iff.mp e).1
       unfold a1F
       rw [zag,List.length_zipIdx,zag]
       exact this) e
      lia
      refine a7M (d:=.str wd) (atI_nat (j:=0) rfl) ?_
      lia
      try refine a9k ?_
      lia
      by_cases h:wd = "add_line"
      ·subst h
       obtain ⟨x1,hx1,f1⟩:=fits 1 "name" rfl
       obtain ⟨x2,hx2,f2⟩:=fits 2 "name" rfl
       obtain ⟨y1,rfl,n1⟩:=a1j.mp f1
       obtain ⟨y2,rfl,n2⟩:=a1j.mp f2
       rw [if_neg (by simp)]
       lia
       refine a7M (d:=.str y1) (atI_nat (j:=2) (by rw [List.getElem?_cons_succ];exact hx1)) ?_
       lia
       refine a7M (d:=.str y2) (atI_nat (j:=3) (by rw [List.getElem?_cons_succ];exact hx2)) ?_
       lia
       try refine a9k ?_
       refine hK _ _ g ⟨fun h=>⟨_,l,rfl,hin,len,fits,fun _ e=>?_⟩,fun ⟨_,_,e,_,_,_,h⟩=>?_⟩
       ·rw [hx1,hx2] at e
        cases e
        simp at h
       ·cases e
        have:=h rfl
        rw [hx1,hx2] at this
        have ne:y1≠y2:=fun e=>this (by rw [e])
        simpa using ne
      ·rw [if_pos (by simp [h])]
       rw [zbf h]
       exact hK true _ g (tru ⟨wd,l,rfl,hin,len,fits,fun e=>absurd e h⟩)
    ·rw [if_pos (by simp;omega)]
     lia
     exact hK false _ a0p (fal fun ⟨_,_,e,_,h,_⟩=>by cases e;exact len h)
   ·rw [if_pos (by simpa using hin)]
    lia
    exact hK false _ a0p (fal fun ⟨_,_,e,h,_⟩=>by cases e;exact hin h)
  ·have e:a0M "str" x0=false:=by cases x0 <;> first | rfl | exact absurd ⟨_,rfl⟩ hw
   rw [e]
   lia
   rw [if_pos (by decide)]
   lia
   exact hK false _ a0p (fal fun ⟨z,_,e,_⟩=>by cases e;exact hw ⟨z,rfl⟩)
 ·have e:a0M "tuple" x=false:=by cases x <;> first | rfl | exact absurd ⟨_,rfl⟩ hs
  rw [e]
  lia
  rw [if_pos (by decide)]
  rw [if_pos rfl]
  lia
  exact hK false _ a0p (fal fun ⟨_,_,e,_⟩=>hs ⟨_,e⟩)
 ) only [↓Qt.put_off]
variable {K:zbj}
def offB:D→Bool
 | .str z=>!(z.cps.toList.all fun c=>decide (97≤c) && decide (c≤122))
 | _=>true
theorem b0P {S:SS} {KK:DK} {ds:List D} {lo hi:Option Int} (k:KK (.tup (Sv.cutD ds lo hi)) S):slD (.tup ds) lo hi S KK:=k
theorem filter_nil {α:Type} {g:α→Bool} {l:List α}:(l.filter g).isEmpty=true↔∀ x∈l,g x=false:=by
 rw [List.isEmpty_iff,List.filter_eq_nil_iff]
 exact ⟨fun h x hx=>by simpa using h x hx,fun h x hx=>by simpa using h x hx⟩
theorem me5 (c:SaysX fa fn fx K):Meets ((tb K).sn N5) ((tb K).G K 5) 1 false (a4u NmP) b5:=by
 refine Qt.put_in ?_
 simp (disch :=
 with_unfolding_all
 refine Qt.keep ?_
 rintro m hm ds S KK Y ⟨rfl,x,rfl,hx,hK⟩
 refine ⟨rfl,?_⟩
 show a0c _ b5 [some _,none,none] _ _ _
 unfold b5
 lia
 refine a2p (n := "str") (by decide) hx ?_
 by_cases hs:∃ z,x=.str z
 ·obtain ⟨z,rfl⟩:=hs
  obtain ⟨lz,fz⟩:=a9A hx
  have el:z.length=z.cps.toList.length:=by rw [Array.length_toList];rfl
  have no:¬ Nm z→¬ NmP (.str z):=fun h ⟨y,e,hy⟩=>by cases e;exact h hy
  rw [show a0M "str" (.str z)=true from rfl]
  lia
  rw [if_neg (by decide)]
  lia
  refine b1X (by rw [zai];omega) ?_
  lia
  by_cases h1:(1:Int)≤(z.length:Int)
  ·rw [if_pos (zbg h1)]
   lia
   by_cases h2:(z.length:Int)≤8
   ·rw [if_neg (by simpa using h2)]
    lia
    refine a5h (fun d=>d) offB (by unfold a0U;rw [zag,zai];omega) (fun _ _ _=>trivial) ?_ ?_
    ·intro p i acc d KK2 KN hd hp h1 h2
     unfold a0U at hd
     rw [zbh,zam] at hd
     obtain ⟨ch,hc,rfl⟩:=hd
     refine a5x ?_
     refine b6n ?_
     lia
     have e:offB (.str ⟨#[ch]⟩)=!decide (ch∈("abcdefghijklmnopqrstuvwxyz" : Str).cps.toList):=by
      show (!((decide (97≤ch) && decide (ch≤122)) && true))=_
      rw [Bool.and_true]
      congr 1
      rw [Bool.eq_iff_iff,zak,zah,zah,zah,a3K]
     rw [← e]
     by_cases h:offB (.str ⟨#[ch]⟩)=true
     ·rw [if_pos h]
      lia
      exact h1 h
     ·rw [if_neg h]
      rw [Bool.not_eq_true] at h
      exact h2 h
    lia
    refine eq_nil ?_
    lia
    refine hK _ ?_
    rw [List.map_id',filter_nil]
    unfold a0U
    constructor
    ·intro h
     refine ⟨z,rfl,by omega,by omega,fun ch hc=>?_⟩
     have:=h _ (List.mem_map_of_mem hc)
     have:(!((decide (97≤ch) && decide (ch≤122)) && true))=false:=this
     rw [Bool.not_eq_false',Bool.and_true,zak,zah,zah] at this
     exact this
    ·rintro ⟨y,e,_,_,h⟩ d hd
     cases e
     obtain ⟨ch,hc,rfl⟩:=zan.mp hd
     show (!((decide (97≤ch) && decide (ch≤122)) && true))=false
     rw [Bool.not_eq_false',Bool.and_true,zak,zah,zah]
     exact h ch hc
   ·rw [if_pos (by simpa using h2)]
    lia
    exact hK false (fal (no fun h=>by have:=h.1;omega))
  ·rw [if_neg (by rw [zah];exact h1)]
   lia
   exact hK false (fal (no fun h=>by have:=h.2.1;omega))
 ·have no:¬ NmP x:=fun ⟨z,e,_⟩=>hs ⟨z,e⟩
  have e:a0M "str" x=false:=by cases x <;> first | rfl | exact absurd ⟨_,rfl⟩ hs
  rw [e]
  lia
  rw [if_pos (by decide)]
  rw [if_pos rfl]
  lia
  exact hK false (fal no)
 ) only [↓Qt.put_off]
theorem me4 (c : SaysX fa fn fx K) : Meets ((tb K).sn N4) ((tb K).G K 4) 1 false a4S b4 := by
  refine Qt.put_in ?_
  simp (disch :=
  with_unfolding_all
  refine Qt.keep ?_
  rintro m hm ds S KK Y ⟨rfl, w, rfl, hw, hK⟩
  refine ⟨rfl, ?_⟩
  show a0c _ b4 [some _] _ _ _
  unfold b4
  simp only [a0h, zau, zba, or_false] at hw
  rcases hw with rfl | rfl | rfl | rfl | rfl | rfl | rfl | rfl | rfl | rfl | rfl | rfl | rfl | rfl | rfl | rfl | rfl | rfl | rfl | rfl | rfl | rfl | rfl
  all_goals
    lia
    try refine a0E (zs := [("add_room" : Str), "take_room", "take_line", "take_drain", "add_source", "take_source", "stick", "mend"]) ?_
    lia
    ac_nf
    try (refine a0E (zs := [("begin" : Str), "step", "give", "end", "put_by", "try_out", "go_on"]) ?_)
    lia
    ac_nf
    try (refine a0E (zs := [("add_drain" : Str), "sign_on", "sign_off", "relieve"]) ?_)
    lia
    ac_nf
    first
      | exact hK
      | (refine a5f (d := .lst [.str "name", .str "name", .str "name", .str "cost"]) rfl ?_
         lia
         exact hK)
      | (refine a5f (d := .lst [.str "name", .str "name", .str "rooms"]) rfl ?_
         lia
         exact hK)
  ) only [↓Qt.put_off]
theorem b0X:∀ {l:List D},(∀ d∈l,NmP d)→∃ zs:List Str,l=zs.map D.str∧∀ z∈zs,Nm z
 | [],_=>⟨[],rfl,fun z h=>nomatch h⟩
 | d :: l,h=>by
  obtain ⟨zs,rfl,hz⟩:=b0X fun x hx=>h x (zao _ hx)
  obtain ⟨z,rfl,nz⟩:=h d zal
  exact ⟨z :: zs,rfl,fun y hy=>by
   rcases zau.mp hy with rfl | hy
   ·exact nz
   ·exact hz y hy⟩
def b9c (zs:List Str):D→Bool
 | .int k=>match zs[k.toNat]? with
  | some z=>decide (z∈zs.take k.toNat)
  | none=>false
 | _=>false
theorem nodup_iff {zs:List Str}:zs.Nodup↔∀ k < zs.length,b9c zs (.int (k:Int))=false:=by
 constructor
 ·intro u k hk
  have e:=zbi hk
  show (match zs[((k:Nat):Int).toNat]? with | some z=>decide (z∈zs.take ((k:Nat):Int).toNat) | none=>false)=false
  rw [Int.toNat_natCast,e]
  show decide _=false
  rw [decide_eq_false_iff_not]
  exact b3p u e
 ·intro h
  refine List.pairwise_iff_getElem.mpr fun i j hi hj hij e=>?_
  have e2:=zbi hj
  have:=h j hj
  have:(match zs[((j:Nat):Int).toNat]? with | some z=>decide (z∈zs.take ((j:Nat):Int).toNat) | none=>false)=false:=this
  rw [Int.toNat_natCast,e2] at this
  have:decide (zs[j]∈zs.take j)=false:=this
  rw [decide_eq_false_iff_not] at this
  refine this (zaq (i:=i) ?_)
  rw [List.getElem?_take_of_lt hij,zbi hi,e]
theorem c5R (c:SaysX fa fn fx K):Meets ((tb K).sn N13) ((tb K).G K 13) 2 false a4R b13:=by
 refine Qt.put_in ?_
 simp (disch :=
 with_unfolding_all
 refine Qt.keep ?_
 rintro m hm ds S KK Y ⟨rfl,kd,x,rfl,hx,hk,hK⟩
 refine ⟨rfl,?_⟩
 show a0c _ b13 [some _,some _,none,none] _ _ _
 unfold b13
 simp only [a3t,zau,zba,or_false] at hk
 rcases hk with rfl | rfl | rfl | rfl
 ·lia
  ac_nf
  refine a0b (T:=a4u NmP) rfl ?_
  lia
  exact ⟨rfl,x,rfl,hx,fun k h=>hK k (h.trans a1j.symm)⟩
 ·have hK:∀ k:Bool,(k=true↔a6F x)→KK (.bl k) S:=fun k h=>hK k (h.trans a7E.symm)
  lia
  ac_nf
  refine a2p (n := "int") (by decide) hx ?_
  by_cases hi:a0M "int" x=true
  ·rw [hi]
   lia
   rw [if_pos rfl]
   lia
   refine a2p (n := "bool") (by decide) hx ?_
   cases x with
   | int i =>
    rw [show a0M "bool" (.int i)=false from rfl]
    have iff:a6F (.int i)↔(0≤i∧i≤99):=⟨fun ⟨j,e,h⟩=>by cases e;exact h,fun h=>⟨i,rfl,h⟩⟩
    lia
    rw [if_pos (by decide)]
    lia
    by_cases h0:(0:Int)≤i
    ·rw [if_pos (zbg h0)]
     lia
     refine hK _ ?_
     rw [zah,iff]
     exact ⟨fun h=>⟨h0,h⟩,fun h=>h.2⟩
    ·rw [if_neg (by rw [zah];exact h0)]
     exact hK false (fal fun h=>h0 (iff.mp h).1)
   | bl b =>
    rw [show a0M "bool" (.bl b)=true from rfl]
    lia
    rw [if_neg (by decide)]
    exact hK false (fal fun ⟨_,e,_⟩=>nomatch e)
   | _=>exact nomatch hi
  ·rw [Bool.not_eq_true] at hi
   rw [hi]
   lia
   rw [if_neg (by decide)]
   exact hK false (fal fun ⟨i,e,_⟩=>by rw [e] at hi;exact nomatch hi)
 ·have hK:∀ k:Bool,(k=true↔b3K x)→KK (.bl k) S:=fun k h=>hK k (h.trans a9I.symm)
  lia
  ac_nf
  refine a2p (n := "str") (by decide) hx ?_
  by_cases hs:∃ z,x=.str z
  ·obtain ⟨z,rfl⟩:=hs
   have iff:b3K (.str z)↔(z = "open" ∨ z = "shut"):=⟨fun ⟨y,e,h⟩=>by cases e;exact h,fun h=>⟨z,rfl,h⟩⟩
   rw [show a0M "str" (.str z)=true from rfl]
   lia
   rw [if_pos rfl]
   lia
   try refine a0E (zs:=[("open" : Str), "shut"]) ?_
   refine hK _ ?_
   rw [zah,iff]
   simp
  ·have e:a0M "str" x=false:=by cases x <;> first | rfl | exact absurd ⟨_,rfl⟩ hs
   rw [e]
   lia
   rw [if_neg (by decide)]
   exact hK false (fal fun ⟨z,e,_⟩=>hs ⟨z,e⟩)
 ·have hK:∀ k:Bool,(k=true↔a1i x)→KK (.bl k) S:=fun k h=>hK k (h.trans a5K.symm)
  lia
  ac_nf
  refine a2p (n := "list") (by decide) hx ?_
  by_cases hs:∃ l,x=.lst l
  ·obtain ⟨l,rfl⟩:=hs
   have lenOf:a1i (.lst l)→1≤l.length∧l.length≤24:=fun ⟨rs,e,h1,h2,_⟩=>by
    cases e
    rw [zag]
    exact ⟨List.length_pos_iff.mpr h1,h2⟩
   rw [show a0M "list" (.lst l)=true from rfl]
   lia
   rw [if_neg (by decide)]
   lia
   by_cases h1:(1:Int)≤(l.length:Int)
   ·rw [if_pos (zbg h1)]
    lia
    by_cases h2:(l.length:Int)≤24
    ·rw [if_neg (by simpa using h2)]
     lia
     refine ⟨_,rfl,?_⟩
     classical
     refine a5h (fun d=>d) (fun d=>!decide (NmP d)) (by rw [zai];omega) (fun _ _ _=>rfl) ?_ ?_
     ·intro p i acc d KK2 KN hd hp h1 h2
      refine a5x ?_
      refine b6n ?_
      lia
      refine a6r (T:=a4u NmP) rfl ?_
      lia
      refine ⟨rfl,d,rfl,a1P hx (.inl rfl) d (zaq hd),fun k hk=>?_⟩
      lia
      by_cases h:NmP d
      ·rw [hk.mpr h]
       rw [if_neg (by decide)]
       exact h2 (by simpa using h)
      ·have:k=false:=by rw [← Bool.not_eq_true];exact fun e=>h (hk.mp e)
       rw [this]
       rw [if_pos (by decide)]
       lia
       exact h1 (by simpa using h)
     lia
     rw [List.map_id']
     refine b7I ?_
     lia
     by_cases all:(l.filter fun d=>!decide (NmP d)).isEmpty=true
     ·rw [if_neg (by simpa using all)]
      have all2:=filter_nil.mp all
      obtain ⟨zs,rfl,nz⟩:=b0X fun d hd=>(show NmP d by simpa using all2 d hd)
      rw [zag] at h1 h2
      lia
      refine ⟨by rw [zag];omega,by rw [zag];omega,?_⟩
      rw [zag]
      refine a5h (fun d=>d) (b9c zs) (by rw [a0F,zai];omega) (fun _ _ _=>trivial) ?_ ?_
      ·intro p i acc d KK2 KN hd hp h1 h2
       have hi:i < zs.length:=by have:=(List.getElem?_eq_some_iff.mp hd).1;rw [a0F] at this;omega
       obtain ⟨_,rfl⟩:=a6o hd
       refine a5x ?_
       refine b6n ?_
       lia
       refine a5f (d:=.str zs[i]) (atI_nat (by rw [zbh,zbi hi];rfl)) ?_
       lia
       rw [a3l,← List.map_take]
       refine c5I (nz _ (List.getElem_mem hi)).fine (fun w hw=>(nz w (List.mem_of_mem_take hw)).fine) ?_
       lia
       have e:b9c zs (.int (i:Int))=decide (zs[i]∈zs.take i):=by
        show (match zs[((i:Nat):Int).toNat]? with | some z=>decide (z∈zs.take ((i:Nat):Int).toNat) | none=>false)=_
        rw [Int.toNat_natCast,zbi hi]
       rw [← e]
       by_cases h:b9c zs (.int (i:Int))=true
       ·rw [if_pos h]
        lia
        exact h1 h
       ·rw [if_neg h]
        rw [Bool.not_eq_true] at h
        exact h2 h
      lia
      rw [List.map_id']
      refine eq_nil ?_
      lia
      refine hK _ ?_
      rw [filter_nil]
      have iff:a1i (.lst (zs.map D.str))↔zs.Nodup:=by
       constructor
       ·rintro ⟨ws,e,_,_,u,_⟩
        have e:zs=ws:=a1V e
        rw [e]
        exact u
       ·exact fun u=>⟨zs,rfl,List.length_pos_iff.mp (by omega),by omega,u,nz⟩
      rw [iff,nodup_iff]
      constructor
      ·intro h k hk
       refine h _ (zaq (i:=k) ?_)
       unfold a4o
       rw [zbh,List.getElem?_range (by omega)]
       show some (D.int (0 + (k:Int)))=_
       rw [Int.zero_add]
      ·intro h d hd
       obtain ⟨k,hk⟩:=List.mem_iff_getElem?.mp hd
       have hi:k < zs.length:=by have:=(List.getElem?_eq_some_iff.mp hk).1;rw [a0F] at this;omega
       obtain ⟨_,rfl⟩:=a6o hk
       exact h k hi
     ·rw [if_pos (by simpa using all)]
      lia
      refine hK false (fal fun ⟨rs,e,_,_,_,h⟩=>all (filter_nil.mpr fun d hd=>?_))
      cases e
      obtain ⟨z,hz,rfl⟩:=zan.mp hd
      simp only [Bool.not_eq_false',zah]
      exact ⟨z,rfl,h z hz⟩
    ·rw [if_pos (by simpa using h2)]
     lia
     exact hK false (fal fun h=>by have:=(lenOf h).2;omega)
   ·rw [if_neg (by rw [zah];exact h1)]
    lia
    exact hK false (fal fun h=>by have:=(lenOf h).1;omega)
  ·have e:a0M "list" x=false:=by cases x <;> first | rfl | exact absurd ⟨_,rfl⟩ hs
   rw [e]
   lia
   rw [if_pos (by decide)]
   lia
   exact hK false (fal fun ⟨zs,e,_⟩=>hs ⟨_,e⟩)
 ) only [↓Qt.put_off]
theorem a4k:∀ w∈a0h,fine w=true:=by decide +kernel
theorem b3E:∀ {xs ys:List D} {i:Nat} {d:D},(a02 xs ys)[i]?=some d→∃ x y,d=.tup [x,y]∧xs[i]?=some x∧ys[i]?=some y
 | x :: xs,y :: ys,0,d,h=>by cases h;exact ⟨x,y,rfl,rfl,rfl⟩
 | x :: xs,y :: ys,i + 1,d,h=>b3E (xs:=xs) (ys:=ys) (i:=i) h
 | [],_,_,_,h=>by simp [a02] at h
 | _ :: _,[],_,_,h=>by simp [a02] at h
theorem b1d:∀ {xs ys:List D},xs.length=ys.length→(a02 xs ys).length=xs.length
 | [],_,_=>rfl
 | x :: xs,y :: ys,h=>by
  show (a02 xs ys).length + 1=_
  rw [b1d (by simpa using h)]
  rfl
theorem c5X (c:SaysX fa fn fx K):Meets ((tb K).sn N19) ((tb K).G K 19) 1 false (a4u a2h) b19:=by
 refine Qt.put_in ?_
 simp (disch :=
 with_unfolding_all
 refine Qt.keep ?_
 rintro m hm ds S KK Y ⟨rfl,x,rfl,hx,hK⟩
 refine ⟨rfl,?_⟩
 show a0c _ b19 [some _,none,none] _ _ _
 unfold b19
 lia
 refine a2p (n := "tuple") (by decide) hx ?_
 by_cases hs:∃ l,x=.tup l
 ·obtain ⟨l,rfl⟩:=hs
  rw [show a0M "tuple" (.tup l)=true from rfl]
  lia
  rw [if_neg (by decide)]
  lia
  cases l with
  | nil =>
   rw [if_pos (by decide)]
   rw [if_pos (by decide)]
   lia
   exact hK false (fal fun ⟨_,_,e,_⟩=>nomatch e)
  | cons x0 l =>
  rw [if_neg (by rw [zah,zaz];omega)]
  lia
  refine a7M (d:=x0) (atI_nat (j:=0) rfl) ?_
  lia
  have hx0:=a1P hx (.inr rfl) x0 zal
  refine a2p (n := "str") (by decide) hx0 ?_
  by_cases hw:∃ z,x0=.str z
  ·obtain ⟨wd,rfl⟩:=hw
   rw [show a0M "str" (.str wd)=true from rfl]
   lia
   rw [if_neg (by decide)]
   lia
   refine a7M (d:=.str wd) (atI_nat (j:=0) rfl) ?_
   lia
   refine a0b (T:=a3j) rfl ?_
   lia
   refine ⟨rfl,rfl,?_⟩
   refine c1I (a9A hx0).2 a4k ?_
   lia
   by_cases hin:wd∈a0h
   ·rw [if_neg (by simpa using hin)]
    lia
    refine a0b (T:=a4S) rfl ?_
    lia
    refine a7M (d:=.str wd) (atI_nat (j:=0) rfl) ?_
    lia
    refine ⟨rfl,wd,rfl,hin,?_⟩
    lia
    by_cases len:l.length=(a0l wd).length
    ·rw [if_neg (by simp [len])]
     lia
     refine a0b (T:=a4S) rfl ?_
     lia
     refine a7M (d:=.str wd) (atI_nat (j:=0) rfl) ?_
     lia
     refine ⟨rfl,wd,rfl,hin,?_⟩
     lia
     refine b0P ?_
     have ec:Sv.cutD (.str wd :: l) (some (1:Int)) none=l:=a3k (k:=1) (by simp)
     rw [ec]
     refine ⟨_,_,rfl,rfl,?_⟩
     have zl:(a02 ((a0l wd).map D.str) l).length=(a0l wd).length:=by rw [b1d (by rw [zag,len]),zag]
     refine ⟨fun i δ' S'=>S'=S∧(∀ j k,j < i→(a0l wd)[j]?=some k→∃ y,l[j]?=some y∧a4q k y)∧∃ a b,δ'=[some (.tup (.str wd :: l)),a,b],⟨rfl,fun j k h=>absurd h (Nat.not_lt_zero _),none,none,rfl⟩,fun _ _ _ _ _=>trivial,?_,?_⟩
     ·rintro i d0 δ' S' hd ⟨rfl,sofar,a,b,rfl⟩
      obtain ⟨x1,y1,rfl,he,hy⟩:=b3E hd
      rw [zbh,zam] at he
      obtain ⟨k,hk,rfl⟩:=he
      refine ⟨_,rfl,rfl,?_⟩
      show a0c _ _ [some _,some (.str k),some y1] _ _ _
      lia
      refine a6r (T:=a4R) rfl ?_
      lia
      refine ⟨rfl,k,y1,rfl,a1P hx (.inr rfl) _ (zao _ (zaq hy)),a7P wd hin k (zaq hk),fun q hq=>?_⟩
      lia
      by_cases h:q=true
      ·subst h
       rw [if_neg (by decide)]
       lia
       refine ⟨rfl,fun j k' hj e=>?_,_,_,rfl⟩
       by_cases ej:j=i
       ·subst ej
        rw [hk] at e
        cases e
        exact ⟨y1,hy,hq.mp rfl⟩
       ·exact sofar j k' (by omega) e
      ·rw [Bool.not_eq_true] at h
       subst h
       rw [if_pos (by decide)]
       lia
       refine hK false (fal fun ⟨wd',l',e,_,_,fits,_⟩=>?_)
       cases e
       obtain ⟨y,hy2,fit⟩:=fits i k hk
       rw [hy] at hy2
       cases hy2
       exact nomatch hq.mpr fit
     ·rintro δ' S' ⟨rfl,all,a,b,rfl⟩
      have fits:∀ (i:Nat) (k:Str),(a0l wd)[i]?=some k→∃ y,l[i]?=some y∧a4q k y:=fun i k e=>all i k (by rw [zl];exact (List.getElem?_eq_some_iff.mp e).1) e
      lia
      refine a7M (d:=.str wd) (atI_nat (j:=0) rfl) ?_
      lia
      try refine a9k ?_
      lia
      by_cases h:wd = "add_line"
      ·subst h
       obtain ⟨x1,hx1,f1⟩:=fits 1 "name" rfl
       obtain ⟨x2,hx2,f2⟩:=fits 2 "name" rfl
       obtain ⟨y1,rfl,n1⟩:=a1j.mp f1
       obtain ⟨y2,rfl,n2⟩:=a1j.mp f2
       rw [if_neg (by simp)]
       lia
       refine a7M (d:=.str y1) (atI_nat (j:=2) (by rw [List.getElem?_cons_succ];exact hx1)) ?_
       lia
       refine a7M (d:=.str y2) (atI_nat (j:=3) (by rw [List.getElem?_cons_succ];exact hx2)) ?_
       lia
       try refine a9k ?_
       refine hK _ ⟨fun h=>⟨_,l,rfl,hin,len,fits,fun _ e=>?_⟩,fun ⟨_,_,e,_,_,_,h⟩=>?_⟩
       ·rw [hx1,hx2] at e
        cases e
        simp at h
       ·cases e
        have:=h rfl
        rw [hx1,hx2] at this
        have ne:y1≠y2:=fun e=>this (by rw [e])
        simpa using ne
      ·rw [if_pos (by simp [h])]
       rw [zbf h]
       exact hK true (tru ⟨wd,l,rfl,hin,len,fits,fun e=>absurd e h⟩)
    ·rw [if_pos (by simp;omega)]
     lia
     exact hK false (fal fun ⟨_,_,e,_,h,_⟩=>by cases e;exact len h)
   ·rw [if_pos (by simpa using hin)]
    rw [if_pos (by decide)]
    lia
    exact hK false (fal fun ⟨_,_,e,h,_⟩=>by cases e;exact hin h)
  ·have e:a0M "str" x0=false:=by cases x0 <;> first | rfl | exact absurd ⟨_,rfl⟩ hw
   rw [e]
   lia
   rw [if_pos (by decide)]
   lia
   exact hK false (fal fun ⟨z,_,e,_⟩=>by cases e;exact hw ⟨z,rfl⟩)
 ·have e:a0M "tuple" x=false:=by cases x <;> first | rfl | exact absurd ⟨_,rfl⟩ hs
  rw [e]
  lia
  rw [if_pos (by decide)]
  rw [if_pos rfl]
  lia
  exact hK false (fal fun ⟨_,_,e,_⟩=>hs ⟨_,e⟩)
 ) only [↓Qt.put_off]
variable {K:zbj}
theorem all_nil {P:D→Prop}:∀ x∈([]:List D),P x:=fun _ h=>nomatch h
theorem all_cons {P:D→Prop} {x:D} {l:List D} (h:P x) (hl:∀ y∈l,P y):∀ y∈x :: l,P y:=fun y hy=>by
 rcases zau.mp hy with rfl | hy
 ·exact h
 ·exact hl y hy
theorem b53 {i:Int} (h:i.natAbs < 10 ^ 21):AB 1 20 (.int i):=⟨by simp only [anD,zah];exact h,by simp [paD,PyData.bulk]⟩
theorem a6x:∀ w∈a0h.map D.str ++ [.str "still",.str "gone",.str "add",.str "take_",.str ""],AB 1 20 w:=by
 intro w hw
 rcases zap.mp hw with h | h
 ·obtain ⟨z,hz,rfl⟩:=zan.mp h
  refine a3v (a4k z hz) ?_
  have:∀ z∈a0h,z.length≤20:=by decide +kernel
  exact this z hz
 ·exact (all_cons (a3v (by decide +kernel) (by decide)) (all_cons (a3v (by decide +kernel) (by decide)) (all_cons (a3v (by decide +kernel) (by decide)) (all_cons (a3v (by decide +kernel) (by decide)) (all_cons (a3v (by decide +kernel) (by decide)) all_nil))))) w h
variable {K:zbj}
theorem c1U {t:Nat} {x:D} (h:b9a t x) (ht:t≤5):AB 2 609 x:=by
 rcases h with h | ⟨l,e,few,hl⟩
 ·exact h.mono (by decide) (by decide)
 ·rcases e with rfl | rfl
  ·exact (b2Z (k:=29) hl (by omega)).mono (Nat.le_refl _) (by decide)
  ·exact (a88 (k:=29) hl (by omega)).mono (Nat.le_refl _) (by decide)
theorem c1l {t:Nat} {x:D} (h:c3U t x) (ht:t≤5):AB 3 6100 x:=by
 obtain ⟨l,rfl,few,hl⟩:=h
 exact (a88 (k:=10) (fun y hy=>c1U (hl y hy) ht) (by omega)).mono (Nat.le_refl _) (by decide)
theorem c1k {wd:Str} {l:List D} (h:b2U wd l):c3U 1 (.tup (.str wd :: l))∧∃ y,l[0]?=some y∧b9a 1 y:=by
 obtain ⟨hw,kinds,de⟩:=h
 have ek:=a90 hw de
 have kl:1≤kinds.length:=by
  have:∀ w∈a0h,1≤(a0l w).length:=by decide +kernel
  rw [ek]
  exact this wd hw
 have parts_ok:∀ x∈l,b9a 1 x:=fun x0 hd=>by
  obtain ⟨i,hi,rfl⟩:=List.mem_iff_getElem.mp hd
  have hk:i < kinds.length:=by rw [← de.len];exact hi
  obtain ⟨x,hx,fit⟩:=de.fits i kinds[i] (zbi hk)
  rw [zbi hi] at hx
  cases hx
  rcases fit with ⟨_,z,e,hz⟩ | ⟨_,n,e,n0,n1⟩ | ⟨_,z,e,hz⟩ | ⟨_,rs,e,hr⟩
  ·rw [e];exact .inl (b3Q hz)
  ·rw [e];exact .inl (b53 (by
    have:(10:Nat) ^ 21=1000000000000000000000:=by decide
    omega))
  ·rw [e];exact .inl (b3Q (b3r hz))
  ·rw [e]
   refine .inr ⟨rs.map D.str,.inl rfl,by rw [zag];have:=hr.2.1;omega,fun y hy=>?_⟩
   obtain ⟨z,hz,rfl⟩:=zan.mp hy
   exact b3Q (hr.2.2.2 z hz)
 have len:=de.len
 have few:=de.few
 refine ⟨⟨_,rfl,by rw [zaz];omega,all_cons (.inl ?_) parts_ok⟩,l[0],zbi (by omega),parts_ok _ (List.getElem_mem _)⟩
 exact a6x _ (zar _ (List.mem_map_of_mem hw))
variable {K:zbj}
theorem a4w {z:Str} (h:∀ c∈z.cps.toList,c < 128):fine z=true:=b1E.mpr fun c hc=>by have:=h c hc;omega
theorem a0Q {a b:Nat} {z:Str} (h:TxOk a z) (le:a≤b):TxOk b z:=⟨h.1,Nat.le_trans h.2 le⟩
theorem b7r {G:Gm} {S:SS} {x:D} {Q:Bool→Prop} (hx:∃ q,pdE x=some q) (k:Q (a0M "str" x)):∃ t b,tyD S x=some t∧a2L G S x∧PySem.W.kitOne G.K t ((Cn.ty "str").val G)=some b∧Q b:=by
 obtain ⟨q,hx⟩:=hx
 cases x with
 | obj _=>simp [pdE] at hx
 | exc _ _ _ _=>simp [pdE] at hx
 | err _ _ _ _=>simp [pdE] at hx
 | _=>exact a5V rfl trivial (by first | rfl | kernel_rfl) k
theorem a3r (z:Str):∃ w ws,Txt.split z " " = w :: ws:=by
 unfold Txt.split
 split
 ·exact ⟨_,_,rfl⟩
 ·split
  ·exact ⟨_,_,rfl⟩
  ·rw [PySem.StrLaws.partsBetween_eq]
   exact PySem.StrLaws.partsFrom_ne _ _ _ _
theorem a7N {S:List Nat} {c:Nat}:∀ {ps:List (List Nat)} {p:List Nat},p∈ps→c∈p→c∈TL.joinL S ps
 | [q],p,hp,hc=>by rw [zaj.mp hp] at hc;exact hc
 | q :: r :: ps,p,hp,hc=>by
  show c∈q ++ (S ++ TL.joinL S (r :: ps))
  rcases zau.mp hp with rfl | hp
  ·exact zar _ hc
  ·exact zas _ (zas _ (a7N hp hc))
theorem b2z {z w:Str} (hw:w∈Txt.split z " "):∀ c∈w.cps.toList,c∈z.cps.toList:=fun c hc=>by
 have e:=PySem.StrLaws.join_split z " "
 rw [← e]
 show c∈TL.tl (Str.join " " (Txt.split z " "))
 rw [TL.tl_join]
 exact a7N (List.mem_map_of_mem hw) hc
theorem a2B (z:Str):((Txt.split z " ").map (·.length)).sum + (Txt.split z " ").length=z.length + 1:=by
 obtain ⟨w,ws,e⟩:=a3r z
 have h:=congrArg Str.length (PySem.StrLaws.join_split z " ")
 rw [e,len_join_cons] at h
 have e1:(" " : Str).length=1:=by decide
 rw [e1] at h
 rw [e,zaz]
 omega
theorem b0i:∀ {ws:List Str} {w:Str},w∈ws→w.length≤(ws.map (·.length)).sum
 | v :: ws,w,h=>by
  rw [zax,List.sum_cons]
  rcases zau.mp h with rfl | h
  ·omega
  ·have:=b0i h
   omega
theorem a2C {n:Nat} {z w:Str} (h:TxOk n z) (hw:w∈Txt.split z " "):TxOk n w:=⟨fun c hc=>h.1 c (b2z hw c hc),by
 have h1:=a2B z
 have h2:=b0i hw
 have h3:1≤(Txt.split z " ").length:=List.length_pos_iff.mpr (List.ne_nil_of_mem hw)
 have:=h.2
 omega⟩
theorem a4d {n:Nat} {z:Str} (h:TxOk n z):(Txt.split z " ").length≤n + 1:=by
 have h1:=a2B z
 have:=h.2
 omega
theorem b4N (z:Str):a71 z=.non∨∃ c:Nat,c < 100∧a71 z=.int c:=by
 unfold a71
 cases e:(List.range 100).find? fun c=>decide ((toString ((c:Nat):Int):Str)=z) with
 | none=>exact .inl rfl
 | some c=>exact .inr ⟨c,List.mem_range.mp (List.mem_of_find?_eq_some e),rfl⟩
theorem b2K {n:Nat} {z:Str} (h:TxOk 100000 z):anD n (.str z)=true:=by
 simp only [anD,zak,zah]
 exact ⟨by have:=h.2;have e:z.length=z.cps.size:=rfl;omega,a4w h.1⟩
theorem b7L {n:Nat} (z:Str):anD n (a71 z)=true:=by
 rcases b4N z with e | ⟨c,hc,e⟩ <;> rw [e]
 ·rfl
 ·simp only [anD,zah]
  show c < _
  have:(10:Nat) ^ 21=1000000000000000000000:=by decide
  omega
theorem a76 {w:Str} {ws:List Str} (h:∀ z∈w :: ws,TxOk 100000 z):anD 3 (.tup (.str w :: a0J w ws))=true:=by
 have sall:∀ {n:Nat} {zs:List Str},(∀ z∈zs,TxOk 100000 z)→∀ d∈zs.map D.str,anD n d=true:=fun hz d hd=>by
  obtain ⟨z,m,rfl⟩:=zan.mp hd
  exact b2K (hz z m)
 have hws:∀ z∈ws,TxOk 100000 z:=fun z m=>h z (zao _ m)
 simp only [anD,zak,zah]
 refine ⟨by decide,a2O fun d hd=>?_⟩
 rcases zau.mp hd with rfl | hd
 ·exact b2K (h w zal)
 ·unfold a0J at hd
  split at hd
  ·rcases zap.mp hd with hd | hd
   ·exact sall (fun z m=>hws z (List.mem_of_mem_take m)) d hd
   ·rw [zaj.mp hd]
    simp only [anD,zak,zah]
    exact ⟨by decide,a2O fun d hd=>sall (fun z m=>hws z (List.mem_of_mem_drop m)) d hd⟩
  ·split at hd
   ·rcases zap.mp hd with hd | hd
    ·exact sall (fun z m=>hws z (List.mem_of_mem_take m)) d hd
    ·rw [zaj.mp hd]
     exact b7L _
   ·exact sall hws d hd
def a3q (w:Str) (ws:List Str):List D:=if w = "ask" then (ws.take 2).map D.str ++ [.lst ((ws.drop 2).map D.str)] else ws.map D.str
theorem a5o (w:Str) (ws:List Str):(a3q w ws).length=(a0J w ws).length:=by
 unfold a3q a0J
 by_cases h:w = "ask"
 ·rw [if_pos h,if_pos h]
 ·rw [if_neg h,if_neg h]
  by_cases h2:w = "add_line" ∧ ws.length=4
  ·rw [if_pos h2,zag,zaw,zag,List.length_take,h2.2]
   rfl
  ·rw [if_neg h2]
theorem b0o:∀ w∈a0h,w ≠ "add_line" → ("cost" : Str)∉a0l w:=by decide +kernel
theorem a6m (z:Str):a3U (.tup [.str "cost",.str z])=a71 z:=by
 show (if ("cost" : Str) = "cost" then numOf z else (.str z:D))=_
 rw [if_pos rfl]
 rfl
theorem b1c:∀ {ks:List Str} {xs:List D},xs.length=ks.length→("cost" : Str)∉ks→(a02 (ks.map D.str) xs).map a3U=xs
 | [],[],_,_=>rfl
 | [],_ :: _,h,_=>by simp at h
 | _ :: _,[],h,_=>by simp at h
 | k :: ks,x :: xs,h,n=>by
  show a3U (.tup [.str k,x]) :: (a02 (ks.map D.str) xs).map a3U=x :: xs
  rw [a2v (fun e=>n (by rw [e];exact zal)),b1c (by simpa using h) fun m=>n (zao _ m)]
theorem b2r {w:Str} {ws:List Str} (hw:w∈a0h) (len:(a3q w ws).length=(a0l w).length):(a02 ((a0l w).map D.str) (a3q w ws)).map a3U=a0J w ws:=by
 by_cases h:w = "add_line"
 ·subst h
  have e1:a3q "add_line" ws=ws.map D.str:=by unfold a3q;rw [if_neg (by decide)]
  rw [e1,zag] at len
  have k4:a0l "add_line" = ([("name" : Str), "name", "name", "cost"]:List Str):=by decide
  rw [k4] at len ⊢
  rw [e1]
  unfold a0J
  rw [if_neg (by decide),if_pos ⟨rfl,len⟩]
  match ws,len with
  | [a,b,c,d],_ =>
   show [a3U (.tup [.str "name",.str a]),a3U (.tup [.str "name",.str b]),a3U (.tup [.str "name",.str c]),a3U (.tup [.str "cost",.str d])]=_
   rw [a2v (by decide),a2v (by decide),a2v (by decide),a6m]
   rfl
 ·rw [b1c len (b0o w hw h)]
  unfold a3q a0J
  by_cases h2:w = "ask"
  ·rw [if_pos h2,if_pos h2]
  ·rw [if_neg h2,if_neg h2,if_neg fun z=>h z.1]
theorem a4A {z w:Str} {ws:List Str} (e:Txt.split z " " = w :: ws):a3y z=.tup (.str w :: a0J w ws):=by
 unfold a3y
 rw [e]
theorem a9t {w:Str} {l:List D} (h:a2h (.tup (.str w :: l))):w∈a0h∧l.length=(a0l w).length:=by
 obtain ⟨wd,l',e,hw,len,_⟩:=h
 cases e
 exact ⟨hw,len⟩
theorem b5K {z y:Str}:WrD (.str z) y↔(y=z∧a2h (a3y z)):=⟨fun ⟨e,h⟩=>by cases e;exact ⟨rfl,h⟩,fun ⟨e,h⟩=>by subst e;exact ⟨rfl,h⟩⟩
theorem b6s {w:D}:∀ {ws:List Str},Sv.cutD (w :: ws.map D.str) (some (3:Int)) none=(ws.drop 2).map D.str
 | []=>rfl
 | [_]=>rfl
 | a :: b :: r=>a3k (k:=3) (xs:=w :: .str a :: .str b :: r.map D.str) (by simp)
theorem b3e {w:D}:∀ {ws:List Str},Sv.cutD (w :: ws.map D.str) (some ((1:Nat):Int)) (some (3:Int))=(ws.take 2).map D.str
 | []=>rfl
 | [_]=>rfl
 | a :: b :: r=>a6R (f:=1) (m:=2) (xs:=w :: D.str a :: D.str b :: r.map D.str) (by simp)
theorem me6 (c:SaysX fa fn fx K):Meets ((tb K).sn N6) ((tb K).G K 6) 2 false a4T b6:=by
 refine Qt.put_in ?_
 simp (disch :=
 with_unfolding_all
 refine Qt.keep ?_
 rintro m hm ds S KK Y ⟨rfl,kd,x',rfl,h⟩
 refine ⟨rfl,?_⟩
 show a0c _ b6 [some _,some _,none] _ _ _
 unfold b6
 lia
 rcases h with ⟨ne,hK⟩ | ⟨rfl,z,rfl,hK⟩
 ·rw [if_pos (by simp [ne])]
  lia
  exact hK
 ·rw [if_neg (by decide)]
  lia
  have bd:=bnd (j:=100) (by decide) (by decide)
  refine ⟨bd.1,bd.2,?_⟩
  refine ⟨fun i δ' S'=>S'=S∧(∀ k < i,(toString ((k:Nat):Int):Str)≠z)∧∃ x,δ'=[some (.str "cost"),some (.str z),x],⟨rfl,fun k h=>absurd h (Nat.not_lt_zero _),none,rfl⟩,fun _ _ _ _ _=>trivial,?_,?_⟩
  ·rintro i d δ' S' hd ⟨rfl,no,x,rfl⟩
   obtain ⟨hi,rfl⟩:=a6o hd
   have hi:i < 100:=hi
   refine a5x ?_
   lia
   refine ⟨a97 (by omega) (by omega),?_⟩
   lia
   by_cases e:(toString ((i:Nat):Int):Str)=z
   ·rw [if_pos (zbg e)]
    lia
    have en:a71 z=.int i:=by
     unfold a71
     have:(List.range 100).find? (fun c=>decide ((toString ((c:Nat):Int):Str)=z))=some i:=by
      rw [← e]
      exact b66 i hi
     rw [this]
    rw [en] at hK
    exact hK
   ·rw [if_neg (by rw [zah];exact e)]
    lia
    refine ⟨rfl,fun k hk=>?_,_,rfl⟩
    by_cases ek:k=i
    ·rw [ek];exact e
    ·exact no k (by omega)
  ·rintro δ' S' ⟨rfl,no,x,rfl⟩
   have rl:(a4o 0 (Int.toNat 100)).length=100:=by rw [a0F];rfl
   rw [rl] at no
   lia
   have en:a71 z=.non:=by
    unfold a71
    have:(List.range 100).find? (fun c=>decide ((toString ((c:Nat):Int):Str)=z))=none:=by
     rw [List.find?_eq_none]
     intro c hc
     rw [zah]
     exact no c (List.mem_range.mp hc)
    rw [this]
   rw [en] at hK
   exact hK
 ) only [↓Qt.put_off]
theorem c55 (c:SaysX fa fn fx K):Meets ((tb K).sn N27) ((tb K).G K 27) 1 false (a6K K) b27:=by
 refine Qt.put_in ?_
 simp (disch :=
 with_unfolding_all
 refine Qt.keep ?_
 rintro m hm ds S KK Y ⟨rfl,x,rfl,⟨⟨q,hq,_⟩,tx⟩,hK⟩
 refine ⟨rfl,?_⟩
 show a0c _ b27 [some _,none,none,none,none,none,none] _ _ _
 unfold b27
 lia
 refine b7r ⟨q,hq⟩ ?_
 by_cases hs:∃ z,x=.str z
 ·obtain ⟨z,rfl⟩:=hs
  have hz:=tx z rfl
  obtain ⟨w,ws,sp⟩:=a3r z
  have dp:=a4A sp
  have txs:∀ y∈w :: ws,TxOk 100000 y:=fun y hy=>a2C hz (by rw [sp];exact hy)
  have few:=a4d hz
  rw [sp,zaz] at few
  have yes:a2h (.tup (.str w :: a0J w ws))→∀ S',Grows S S'→KK (.tup (.str w :: a0J w ws)) S':=fun h=>by
   rcases hK with ⟨y,hy,k⟩ | ⟨no,_⟩
   ·obtain ⟨rfl,_⟩:=b5K.mp hy
    rw [dp] at k
    exact k
   ·exact absurd (b5K.mpr ⟨rfl,by rw [dp];exact h⟩) (no z)
  have no:¬ a2h (.tup (.str w :: a0J w ws))→∀ S',Grows S S'→Y (He.ga K "NoText") [] S':=fun h=>by
   rcases hK with ⟨y,hy,k⟩ | ⟨_,k⟩
   ·obtain ⟨rfl,hd⟩:=b5K.mp hy
    rw [dp] at hd
    exact absurd hd h
   ·exact k
  clear hK
  rw [show a0M "str" (.str z)=true from rfl]
  lia
  rw [if_neg (by decide)]
  lia
  refine ⟨by decide,by have:=hz.2;rw [zai];omega,?_⟩
  rw [sp]
  lia
  refine a5f (d:=.str w) (atI_nat (j:=0) rfl) ?_
  lia
  rw [a7H]
  lia
  by_cases hin:w∈a0h
  ·rw [if_neg (by simpa using hin)]
   lia
   refine a5f (d:=.str w) (atI_nat (j:=0) rfl) ?_
   lia
   refine ⟨w,_,rfl,a4D w hin,?_⟩
   lia
   rw [show (1:Int)=((1:Nat):Int) from rfl,a3k (by rw [zag,zaz];omega)]
   rw [zax,List.drop_succ_cons,List.drop_zero]
   refine a2D (fun δ' S'=>S'=S∧δ'=[some (.str z),some (.lst ((w :: ws).map D.str)),some (.tup ((a0l w).map D.str)),some (.lst (a3q w ws)),none,none,none]) ?_ ?_
   ·lia
    refine a5f (d:=.str w) (atI_nat (j:=0) rfl) ?_
    lia
    by_cases ha:w = "ask"
    ·subst ha
     rw [if_pos (by decide)]
     lia
     rw [b6s,b3e]
     refine a05 (by rw [zag,List.length_take,zai];show min 2 ws.length + 1≤_;omega) ?_
     lia
     refine ⟨rfl,?_⟩
     unfold a3q
     rw [if_pos rfl]
     rfl
    ·rw [if_neg (by rw [zah];exact ha)]
     lia
     refine ⟨rfl,?_⟩
     unfold a3q
     rw [if_neg ha]
     rfl
   ·rintro δ' S' ⟨rfl,rfl⟩
    lia
    have el:((a3q w ws).length:Int)=((a0J w ws).length:Int):=by rw [a5o]
    by_cases len:(a3q w ws).length=(a0l w).length
    ·rw [if_neg (by rw [zag,len];simp)]
     lia
     refine a5f (d:=.str w) (atI_nat (j:=0) rfl) ?_
     lia
     refine ⟨_,_,rfl,rfl,?_⟩
     have pl:(a3q w ws).length≤4:=by
      have:∀ w∈a0h,(a0l w).length≤4:=by decide +kernel
      rw [len]
      exact this w hin
     refine a5h a3U (fun _=>true) (by rw [a2K,zag,zai];omega) (fun _ _ _=>trivial) (fun p i acc d K1 KN hd hp hk hn=>?_) ?_
     ·obtain ⟨x,y,hx,hy,rfl⟩:=a5z hd
      rw [zbh,zam] at hx
      obtain ⟨k,hx,rfl⟩:=hx
      refine ⟨_,rfl,rfl,b6k ?_⟩
      rw [if_pos rfl]
      show den _ _ [some _,some _,some _,some _,none,some (.str k),some y] _ _ _
      lia
      refine a0b (T:=a4T) rfl ?_
      lia
      by_cases hc:k = "cost"
      ·subst hc
       have ea:w = "add_line" := Decidable.byContradiction fun e=>b0o w hin e (zaq hx)
       have er:a3q w ws=ws.map D.str:=by
        unfold a3q
        rw [if_neg (by rw [ea];decide)]
       rw [er,zbh,zam] at hy
       obtain ⟨y,_,rfl⟩:=hy
       refine ⟨rfl, "cost",_,rfl,.inr ⟨rfl,y,rfl,?_⟩⟩
       have:=hk rfl
       rw [a6m] at this
       exact this
      ·refine ⟨rfl,k,y,rfl,.inl ⟨hc,?_⟩⟩
       have:=hk rfl
       rw [a2v hc] at this
       exact this
     ·rw [zbc.mpr (fun _ _=>rfl),b2r hin len]
      refine a05 (by rw [← a5o,zai];show 1 + (a3q w ws).length≤_;omega) ?_
      lia
      refine a0b (T:=b1n a2h) rfl ?_
      lia
      refine ⟨rfl,_,rfl,⟨3,a76 txs⟩,fun k S1 g hk=>?_⟩
      lia
      by_cases h:k=true
      ·subst h
       rw [if_neg (by decide)]
       lia
       exact yes (hk.mp rfl) S1 g
      ·rw [if_pos (by simpa using h)]
       lia
       exact a8e rfl rfl rfl (by lia;exact ⟨_,rfl,no (fun hd=>h (hk.mpr hd)) S1 g⟩)
    ·rw [if_pos (by rw [zag];simpa using fun e=>len (by exact_mod_cast e))]
     lia
     exact a8e rfl rfl rfl (by lia;exact ⟨_,rfl,no (fun hd=>len (by rw [a5o];exact (a9t hd).2)) _ a0p⟩)
  ·rw [if_pos (by simpa using hin)]
   lia
   exact a8e rfl rfl rfl (by lia;exact ⟨_,rfl,no (fun hd=>hin (a9t hd).1) _ a0p⟩)
 ·have e:a0M "str" x=false:=by cases x <;> first | rfl | exact absurd ⟨_,rfl⟩ hs
  rw [e]
  lia
  rw [if_pos (by decide)]
  lia
  rcases hK with ⟨z,hy,_⟩ | ⟨_,k⟩
  ·exact absurd ⟨z,hy.1⟩ hs
  ·exact a8e rfl rfl rfl (by lia;exact ⟨_,rfl,k _ a0p⟩)
 ) only [↓Qt.put_off]
theorem a7D {p:Nat→Bool} {g:D→Bool} (hg:∀ c:Nat,g (.int (0 + (c:Int)))=p c):∀ l:List Nat,(((l.map fun (i:Nat)=>D.int (0 + (i:Int))).filter g) ++ [D.non]).take 1=[match l.find? p with | some c=>D.int c | none=>D.non]
 | []=>rfl
 | c :: l=>by
  rw [zax,List.filter_cons,hg,List.find?_cons]
  cases h:p c with
  | true =>
   rw [if_pos rfl]
   show [D.int (0 + (c:Int))]=[D.int (c:Int)]
   rw [Int.zero_add]
  | false =>
   rw [if_neg (by decide)]
   exact a7D hg l
def a6P (z:Str):D→Bool
 | .int c=>decide ((toString c:Str)=z)
 | _=>false
theorem b2f (z:Str):(((a4o 0 (Int.toNat 100)).filter (a6P z)) ++ [D.non]).take 1=[a71 z]:=by
 unfold a4o
 rw [a7D (p:=fun c=>decide ((toString ((c:Nat):Int):Str)=z)) (fun c=>by rw [Int.zero_add];rfl)]
 unfold a71
 rfl
theorem c51 (c:SaysX fa fn fx K):Meets ((tb K).sn N23) ((tb K).G K 23) 1 false a4U b23:=by
 refine Qt.put_in ?_
 simp (disch :=
 with_unfolding_all
 refine Qt.keep ?_
 rintro m hm ds S KK Y ⟨rfl,x,rfl,⟨⟨q,hq,_⟩,tx⟩,hK⟩
 refine ⟨rfl,?_⟩
 show a0c _ b23 [some _,none,none,none,none,none] _ _ _
 unfold b23
 lia
 refine b7r ⟨q,hq⟩ ?_
 by_cases hs:∃ z,x=.str z
 ·obtain ⟨z,rfl⟩:=hs
  have hz:=tx z rfl
  obtain ⟨w,ws,sp⟩:=a3r z
  have dp:=a4A sp
  have txs:∀ y∈w :: ws,TxOk 100000 y:=fun y hy=>a2C hz (by rw [sp];exact hy)
  have few:=a4d hz
  rw [sp,zaz] at few
  have yes:a2h (.tup (.str w :: a0J w ws))→KK (.tup (.str w :: a0J w ws)) S:=fun h=>by
   rcases hK with ⟨y,hy,k⟩ | ⟨no,_⟩
   ·obtain ⟨rfl,_⟩:=b5K.mp hy
    rw [dp] at k
    exact k
   ·exact absurd (b5K.mpr ⟨rfl,by rw [dp];exact h⟩) (no z)
  have no:¬ a2h (.tup (.str w :: a0J w ws))→KK .non S:=fun h=>by
   rcases hK with ⟨y,hy,k⟩ | ⟨_,k⟩
   ·obtain ⟨rfl,hd⟩:=b5K.mp hy
    rw [dp] at hd
    exact absurd hd h
   ·exact k
  clear hK
  rw [show a0M "str" (.str z)=true from rfl]
  lia
  rw [if_neg (by decide)]
  lia
  refine ⟨by decide,by have:=hz.2;rw [zai];omega,?_⟩
  rw [sp]
  lia
  rw [show (1:Int)=((1:Nat):Int) from rfl,a3k (by rw [zag,zaz];omega)]
  rw [zax,List.drop_succ_cons,List.drop_zero]
  refine a2D (fun δ' S'=>S'=S∧δ'=[some (.str z),some (.lst ((w :: ws).map D.str)),some (.lst (a3q w ws)),none,none,none]) ?_ ?_
  ·lia
   refine a5f (d:=.str w) (atI_nat (j:=0) rfl) ?_
   lia
   by_cases ha:w = "ask"
   ·subst ha
    rw [if_pos (by decide)]
    lia
    rw [b6s,b3e]
    refine a05 (by rw [zag,List.length_take,zai];show min 2 ws.length + 1≤_;omega) ?_
    lia
    refine ⟨rfl,?_⟩
    unfold a3q
    rw [if_pos rfl]
    rfl
   ·rw [if_neg (by rw [zah];exact ha)]
    lia
    refine ⟨rfl,?_⟩
    unfold a3q
    rw [if_neg ha]
    rfl
  ·rintro δ' S' ⟨rfl,rfl⟩
   refine a2D (fun δ' S2=>S2=S'∧∃ a b,δ'=[some (.str z),some (.lst ((w :: ws).map D.str)),some (.lst (a0J w ws)),a,b,none]) ?_ ?_
   ·lia
    refine a5f (d:=.str w) (atI_nat (j:=0) rfl) ?_
    lia
    by_cases hc:w = "add_line" ∧ ws.length=4
    ·obtain ⟨rfl,h4⟩:=hc
     have er:a3q "add_line" ws=ws.map D.str:=by unfold a3q;rw [if_neg (by decide)]
     rw [if_pos (by decide)]
     lia
     rw [if_pos (by rw [zah,zag,zaz,h4];rfl)]
     match ws,h4 with
     | [a1,a2,a3,a4],_ =>
     lia
     have bd:=bnd (j:=100) (by decide) (by decide)
     refine ⟨bd.1,bd.2,?_⟩
     refine a5h (fun d=>d) (a6P a4) (by rw [a0F,zai];decide) (fun _ _ _=>trivial) ?_ ?_
     ·intro p i acc d KK2 KN hd hp h1 h2
      obtain ⟨hi,rfl⟩:=a6o hd
      have hi:i < 100:=hi
      refine a5x ?_
      refine b6n ?_
      lia
      refine ⟨a97 (by omega) (by omega),?_⟩
      lia
      refine a5f (d:=.str a4) (atI_nat (j:=4) rfl) ?_
      lia
      have e:a6P a4 (.int (i:Int))=decide ((toString ((i:Nat):Int):Str)=a4):=rfl
      rw [← e]
      by_cases h:a6P a4 (.int (i:Int))=true
      ·rw [if_pos h]
       lia
       exact h1 h
      ·rw [if_neg h]
       rw [Bool.not_eq_true] at h
       exact h2 h
     lia
     rw [List.map_id']
     have e4:Sv.cutD (([("add_line" : Str),a1,a2,a3,a4]:List Str).map D.str) (some ((1:Nat):Int)) (some (4:Int))=[.str a1,.str a2,.str a3]:=a6R (f:=1) (m:=3) (xs:=[D.str "add_line",.str a1,.str a2,.str a3,.str a4]) (by simp)
     refine a05 (by
      have:=zbb (a6P a4) (a4o 0 (Int.toNat 100))
      rw [a0F] at this
      rw [zai]
      show _ + 1≤_
      have:(Int.toNat 100)=100:=rfl
      omega) ?_
     lia
     have e5:Sv.cutD (((a4o 0 (Int.toNat 100)).filter (a6P a4)) ++ [D.non]) none (some ((1:Nat):Int))=[a71 a4]:=(a3l (k:=1) (xs:=((a4o 0 (Int.toNat 100)).filter (a6P a4)) ++ [D.non])).trans (b2f a4)
     rw [e5,e4]
     refine a05 (by rw [zai];show 3 + 1≤_;decide) ?_
     lia
     exact ⟨rfl,_,_,rfl⟩
    ·have ep:a0J w ws=a3q w ws:=by
      unfold a0J a3q
      by_cases h2:w = "ask"
      ·rw [if_pos h2,if_pos h2]
      ·rw [if_neg h2,if_neg h2,if_neg hc]
     rw [ep]
     by_cases ha:w = "add_line"
     ·rw [if_pos (by rw [zah];exact ha)]
      lia
      rw [if_neg (by rw [zah,zag,zaz];exact fun e=>hc ⟨ha,by omega⟩)]
      lia
      exact ⟨rfl,_,_,rfl⟩
     ·rw [if_neg (by rw [zah];exact ha)]
      lia
      exact ⟨rfl,_,_,rfl⟩
   ·rintro δ' S' ⟨rfl,a,b,rfl⟩
    lia
    refine a5f (d:=.str w) (atI_nat (j:=0) rfl) ?_
    lia
    have pl:(a0J w ws).length≤100002:=by
     rw [← a5o]
     unfold a3q
     split
     ·rw [zaw,zag,List.length_take]
      show min 2 ws.length + 1≤_
      omega
     ·rw [zag]
      omega
    refine a05 (by rw [zai];show 1 + (a0J w ws).length≤_;omega) ?_
    lia
    refine a0b (T:=a4u a2h) rfl ?_
    lia
    refine ⟨rfl,_,rfl,⟨3,a76 txs⟩,fun k hk=>?_⟩
    lia
    by_cases h:k=true
    ·subst h
     rw [if_pos rfl]
     lia
     exact yes (hk.mp rfl)
    ·rw [if_neg h]
     lia
     exact no (fun hd=>h (hk.mpr hd))
 ·have e:a0M "str" x=false:=by cases x <;> first | rfl | exact absurd ⟨_,rfl⟩ hs
  rw [e]
  lia
  rw [if_pos (by decide)]
  lia
  rcases hK with ⟨z,hy,_⟩ | ⟨_,k⟩
  ·exact absurd ⟨z,hy.1⟩ hs
  ·exact k
 ) only [↓Qt.put_off]
variable {K:zbj}
def Lw (ws:List Str):Nat:=(ws.map (·.length)).sum + ws.length
theorem a4G (a b:List Str):Lw (a ++ b)=Lw a + Lw b:=by
 unfold Lw
 rw [zav,List.sum_append,zaw]
 omega
theorem b0f:∀ (i:Nat) (ws:List Str),Lw (ws.drop i)≤Lw ws
 | 0,ws=>Nat.le_refl _
 | i + 1,[]=>Nat.le_refl _
 | i + 1,w :: ws=>by
  have h:=b0f i ws
  have:Lw (w :: ws)=(w.length + (ws.map (·.length)).sum) + (ws.length + 1):=by
   unfold Lw
   rw [zax,List.sum_cons,zaz]
  rw [List.drop_succ_cons,this]
  unfold Lw at h
  unfold Lw
  omega
theorem b4F:∀ (i:Nat) (ws:List Str),Lw (ws.take i)≤Lw ws:=fun i ws=>by
 have h:=a4G (ws.take i) (ws.drop i)
 rw [List.take_append_drop] at h
 omega
theorem a1u (ws:List Str) (lo hi:Option Int):∃ us:List Str,Sv.cutD (ws.map D.str) lo hi=us.map D.str∧Lw us≤Lw ws∧∀ u∈us,u∈ws:=by
 refine ⟨(ws.drop (HT.sIx (ws.map D.str).length 0 lo)).take (HT.sIx (ws.map D.str).length (ws.map D.str).length hi - HT.sIx (ws.map D.str).length 0 lo),?_,Nat.le_trans (b4F _ _) (b0f _ _),fun u hu=>List.mem_of_mem_drop (List.mem_of_mem_take hu)⟩
 unfold Sv.cutD
 rw [← List.map_drop,← List.map_take]
theorem a9s {n:Nat} {z:Str} (h:TxOk n z) (lo hi:Option Int):TxOk n (cutS z lo hi):=by
 unfold cutS
 refine ⟨fun c hc=>?_,?_⟩
 ·rw [List.toList_toArray] at hc
  exact h.1 c (List.mem_of_mem_drop (List.mem_of_mem_take hc))
 ·show (List.toArray _).size≤n
  rw [List.size_toArray]
  have h1:z.cps.toList.length≤n:=by
   have e:z.length=z.cps.toList.length:=by rw [Array.length_toList];rfl
   rw [← e];exact h.2
  rw [List.length_take,List.length_drop]
  omega
theorem a2a {a b:Nat} {x y:Str} (h:TxOk a x) (k:TxOk b y):TxOk (a + b) (x ++ y):=⟨fun c hc=>by
 have hc:c∈TL.tl (x ++ y):=hc
 rw [TL.tl_append] at hc
 rcases zap.mp hc with hc | hc
 ·exact h.1 c hc
 ·exact k.1 c hc,by
 rw [Str.length_append]
 have:=h.2
 have:=k.2
 omega⟩
theorem a4Y:TxOk 1 (" " : Str):=⟨by decide +kernel,by decide⟩
theorem a6Z {us:List Str} {n:Nat} (h:∀ u∈us,∀ c∈u.cps.toList,c < 128) (l:Lw us≤n):TxOk n (Txt.join " " us)∧(us.map (·.length)).sum + us.length * (" " : Str).length=Lw us:=by
 have e1:(" " : Str).length=1:=by decide
 have e2:(us.map (·.length)).sum + us.length * (" " : Str).length=Lw us:=by
  rw [e1,Nat.mul_one]
  rfl
 refine ⟨⟨fun c hc=>?_,?_⟩,e2⟩
 ·rw [TL.join_eq] at hc
  have hc:c∈TL.tl (Str.join " " us):=hc
  rw [TL.tl_join] at hc
  rcases a5W hc with hc | ⟨p,hp,hc⟩
  ·have:∀ c∈TL.tl (" " : Str),c < 128:=by decide +kernel
   exact this c hc
  ·obtain ⟨u,hu,rfl⟩:=zan.mp hp
   exact h u hu c hc
 ·rw [TL.join_eq]
  have:=PySem.StrLaws.join_length_le " " us
  omega
theorem b2N {n:Nat} {z:Str} (h:TxOk n z):TxOk n (Txt.upper z):=by
 rw [PyProof.Rows.upper_ascii h.1]
 refine ⟨fun c hc=>?_,?_⟩
 ·rw [Array.toList_map] at hc
  obtain ⟨d,hd,rfl⟩:=zan.mp hc
  have hd:=h.1 d hd
  show PyProof.Rows.up1 d < 128
  unfold PyProof.Rows.up1
  split <;> omega
 ·show (z.cps.map _).size≤n
  rw [Array.size_map]
  exact h.2
theorem sum_set:∀ {l:List Str} {i:Nat} {v w:Str},l[i]?=some w→((l.set i v).map (·.length)).sum + w.length=(l.map (·.length)).sum + v.length
 | a :: l,0,v,w,h=>by
  cases h
  rw [List.set_cons_zero,zax,zax,List.sum_cons,List.sum_cons]
  omega
 | a :: l,i + 1,v,w,h=>by
  rw [List.set_cons_succ,zax,zax,List.sum_cons,List.sum_cons]
  have:=sum_set (l:=l) (i:=i) (v:=v) (w:=w) h
  omega
theorem b5r {l:List Str} {i j:Nat} {a b:Str} (ha:l[i]?=some a) (hb:l[j]?=some b):Lw ((l.set i b).set j a)=Lw l:=by
 have h1:=sum_set (v:=b) ha
 have hj:(l.set i b)[j]?=some b:=by
  rw [List.getElem?_set]
  by_cases e:i=j
  ·subst e
   rw [if_pos rfl,if_pos (List.getElem?_eq_some_iff.mp ha).1]
  ·rw [if_neg e];exact hb
 have h2:=sum_set (v:=a) hj
 unfold Lw
 rw [List.length_set,List.length_set]
 omega
theorem b2E {l:List Str} {i j:Nat} {a b u:Str} (ha:a∈l) (hb:b∈l) (h:u∈(l.set i b).set j a):u∈l:=by
 rcases List.mem_or_eq_of_mem_set h with h | rfl
 ·rcases List.mem_or_eq_of_mem_set h with h | rfl
  ·exact h
  ·exact hb
 ·exact ha
theorem b5G {S:SS} {KK:DK} {p:Addr} {l:List D} {lo hi:Option Int} (h:S p=some (.lst l)) (k:KK (.lst (Sv.cutD l lo hi)) S):slD (.obj p) lo hi S KK:=by
 unfold slD
 rw [b2R h]
 exact k
theorem b9h {n:Int} (h0:0≤n) (h1:n≤100000):n.natAbs.log2 < 4000:=by
 have h:n.natAbs < 131072:=by omega
 by_cases e:n.natAbs=0
 ·rw [e];decide
 ·exact Nat.lt_trans ((Nat.log2_lt e).mpr (show n.natAbs < 2 ^ 17 from h)) (by decide)
theorem ixN_nat {n i:Nat} (h:i < n):ixN n (i:Int)=some i:=by
 unfold ixN
 rw [if_pos (by omega),if_pos (by omega),Int.toNat_natCast]
theorem b5j:(" !\"#$&'()*+,-./0123456789:;<=>?@ABCDEFGHIJKLMNOPQRSTUVWXYZ[\\]^_`" : Str).length + ("abcdefghijklmnopqrstuvwxyz{|}~\n" : Str).length≤128∧0 < ((" !\"#$&'()*+,-./0123456789:;<=>?@ABCDEFGHIJKLMNOPQRSTUVWXYZ[\\]^_`" : Str) ++ ("abcdefghijklmnopqrstuvwxyz{|}~\n" : Str)).length∧((" !\"#$&'()*+,-./0123456789:;<=>?@ABCDEFGHIJKLMNOPQRSTUVWXYZ[\\]^_`" : Str) ++ ("abcdefghijklmnopqrstuvwxyz{|}~\n" : Str)).length≤128∧∀ c∈((" !\"#$&'()*+,-./0123456789:;<=>?@ABCDEFGHIJKLMNOPQRSTUVWXYZ[\\]^_`" : Str) ++ ("abcdefghijklmnopqrstuvwxyz{|}~\n" : Str)).cps.toList,c < 128:=by decide +kernel
theorem c5U (c:SaysX fa fn fx K):Meets ((tb K).sn N16) ((tb K).G K 16) 1 false a4V b16:=by
 refine Qt.put_in ?_
 simp (disch :=
 with_unfolding_all
 refine Qt.keep ?_
 rintro m hm ds S KK Y ⟨rfl,b,cb,rfl,hb,hc,hK⟩
 refine ⟨rfl,?_⟩
 show a0c _ b16 [some _,none] _ _ _
 unfold b16
 obtain ⟨s1,s2,s3,s4⟩:=b5j
 lia
 refine a1l (by rw [zai];omega) ?_
 generalize (" !\"#$&'()*+,-./0123456789:;<=>?@ABCDEFGHIJKLMNOPQRSTUVWXYZ[\\]^_`" : Str) ++ ("abcdefghijklmnopqrstuvwxyz{|}~\n" : Str)=sg at s2 s3 s4 ⊢
 lia
 refine a0b (T:=a07) rfl ?_
 lia
 refine b1X (by rw [zai];omega) ?_
 lia
 refine ⟨rfl,b,_,cb,rfl,by omega,b9h (by omega) (by omega),hb,hc,fun v c2 v0 v1 hc2=>?_⟩
 obtain ⟨v,rfl⟩:=Int.eq_ofNat_of_zero_le v0
 have el:sg.length=sg.cps.toList.length:=by rw [Array.length_toList];rfl
 have hv:v < sg.cps.toList.length:=by omega
 refine c4f (c:=sg.cps.toList[v]) (by rw [zai];omega) (atI_nat (zbi hv)) ?_
 lia
 refine hK _ c2 ⟨fun c hc=>?_,Nat.le_refl 1⟩ hc2
 have hc:c∈[sg.cps.toList[v]]:=hc
 rw [zaj.mp hc]
 exact s4 _ (List.getElem_mem hv)
 ) only [↓Qt.put_off]
theorem c1P:∀ d∈([.str "00",.str "07",.str "100",.str "+5",.str "-1",.str "5.",.str "1e1",.str "0",.str "99",.str "open",.str "shut",.str "add_line",.str "ask",.str "turn",.str "x"]:List D),∃ y,d=.str y∧TxOk 8 y:=by
 have h:∀ y∈(["00", "07", "100", "+5", "-1", "5.", "1e1", "0", "99", "open", "shut", "add_line", "ask", "turn", "x"]:List Str),(∀ c∈y.cps.toList,c < 128)∧y.length≤8:=by decide +kernel
 intro d hd
 have hd:d∈(["00", "07", "100", "+5", "-1", "5.", "1e1", "0", "99", "open", "shut", "add_line", "ask", "turn", "x"]:List Str).map D.str:=hd
 obtain ⟨y,hy,rfl⟩:=zan.mp hd
 exact ⟨y,rfl,h y hy⟩
theorem c5Z (c:SaysX fa fn fx K):Meets ((tb K).sn N21) ((tb K).G K 21) 2 false a1p b21:=by
 refine Qt.put_in ?_
 simp (disch :=
 with_unfolding_all
 refine Qt.keep ?_
 rintro m hm ds S KK Y ⟨rfl,b,cb,z,n,rfl,hz,hn,hb,hc,hK⟩
 refine ⟨rfl,?_⟩
 show a0c _ b21 [some _,some _,none,none,none,none,none,none] _ _ _
 unfold b21
 have hl:=hz.2
 have e1:(" " : Str).length=1:=by decide
 obtain ⟨w,ws,sp⟩:=a3r z
 have sum:=a2B z
 have asc:∀ u∈Txt.split z " ",∀ c∈u.cps.toList,c < 128:=fun u hu=>(a2C hz hu).1
 have lw:Lw (Txt.split z " ")≤n + 1:=by unfold Lw;omega
 have pos:0 < (Txt.split z " ").length:=by rw [sp,zaz];omega
 have one:∀ u∈Txt.split z " ",u.length≤n:=fun u hu=>(a2C hz hu).2
 have few:=a4d hz
 lia
 refine ⟨by decide,by rw [zai];omega,?_⟩
 generalize Txt.split z " " = us at sum asc lw pos one few ⊢
 refine b2j fun p fp=>?_
 have bp:b≠p:=zad hb fp
 have gK:∀ z' c' l,TxOk (3 * n + 20) z'→a0I c'→KK (.str z') ((S.set p (.lst l)).set b c'):=fun z' c' l h1 h2=>hK z' c' _ h1 h2 (by
  rw [zae bp.symm]
  exact Grows.put (by rw [zaa bp.symm];exact fp)) zab
 clear hK
 lia
 refine a0b (T:=a07) rfl ?_
 lia
 refine b4y zab ?_
 lia
 rw [zag]
 refine ⟨rfl,b,_,cb,rfl,by omega,b9h (by omega) (by omega),by rw [zaa bp];exact hb,hc,fun at_ c2 a0 a1 hc2=>?_⟩
 have at2:∀ c',((S.set p (.lst (us.map D.str))).set b c') p=some (.lst (us.map D.str)):=fun c'=>by rw [zaa bp.symm];exact zab
 lia
 refine a0b (T:=a07) rfl ?_
 lia
 refine b4y (at2 _) ?_
 lia
 rw [zag]
 refine ⟨rfl,b,_,c2,rfl,by omega,b9h (by omega) (by omega),zab,hc2,fun to c3 t0 t1 hc3=>?_⟩
 rw [zac]
 lia
 refine a0b (T:=a07) rfl ?_
 lia
 refine ⟨rfl,b,5,c3,rfl,by decide,by decide,zab,hc3,fun way c4 w0 w1 hc4=>?_⟩
 rw [zac]
 obtain ⟨i,rfl⟩:=Int.eq_ofNat_of_zero_le a0
 obtain ⟨j,rfl⟩:=Int.eq_ofNat_of_zero_le t0
 have hi:i < us.length:=by omega
 have hj:j < us.length:=by omega
 have ei:=zbi hi
 have ej:=zbi hj
 obtain ⟨u1,q1,l1,m1⟩:=a1u us none (some (i:Int))
 obtain ⟨u2,q2,l2,m2⟩:=a1u us (some (i:Int)) none
 obtain ⟨u3,q3,l3,m3⟩:=a1u us (some ((i:Int) + 1)) none
 have glue:∀ {xs:List Str} {k:Nat} {c':Cell},(∀ u∈xs,∀ c∈u.cps.toList,c < 128)→Lw xs≤3 * n + 20→a0I c'→∀ l,Mn.join.den (.str " ") [.lst (xs.map D.str)] ((S.set p (.lst l)).set b c') KK:=fun {xs k c'} h1 h2 h3 l=>by
  have jt:=a6Z h1 h2
  exact b3m (by rw [jt.2];omega) (gK _ _ l jt.1 h3)
 lia
 by_cases h:way=0
 ·rw [if_pos (zbg h)]
  lia
  refine b5G (at2 _) ?_
  lia
  refine b5G (at2 _) ?_
  lia
  rw [q1,q3]
  refine a05 (by rw [zag,zag,zai];unfold Lw at l1 l3 lw;omega) ?_
  lia
  rw [← zav]
  refine glue (k:=0) (fun u hu=>?_) (by rw [a4G];omega) hc4 _
  rcases zap.mp hu with hu | hu
  ·exact asc u (m1 u hu)
  ·exact asc u (m3 u hu)
 rw [if_neg (by rw [zah];exact h)]
 lia
 by_cases h:way=1
 ·rw [if_pos (zbg h)]
  lia
  refine b5G (at2 _) ?_
  lia
  refine a7L (d:=.str us[j]) (at2 _) (atI_nat (by rw [zbh,ej];rfl)) ?_
  lia
  rw [q1]
  refine a05 (by rw [zag,zai];unfold Lw at l1 lw;show _ + 1≤_;omega) ?_
  lia
  refine b5G (at2 _) ?_
  lia
  rw [q2]
  refine a05 (by rw [zaw,zag,zag,zai];unfold Lw at l1 l2 lw;show _ + 1 + _≤_;omega) ?_
  lia
  rw [show u1.map D.str ++ [D.str us[j]] ++ u2.map D.str=(u1 ++ [us[j]] ++ u2).map D.str from by rw [zav,zav];rfl]
  have oj:=one us[j] (List.getElem_mem hj)
  refine glue (k:=0) (fun u hu=>?_) (by
   rw [a4G,a4G]
   have:Lw [us[j]]=us[j].length + 0 + 1:=rfl
   omega) hc4 _
  rcases zap.mp hu with hu | hu
  ·rcases zap.mp hu with hu | hu
   ·exact asc u (m1 u hu)
   ·rw [zaj.mp hu];exact asc _ (List.getElem_mem hj)
  ·exact asc u (m2 u hu)
 rw [if_neg (by rw [zah];exact h)]
 lia
 by_cases h:way=2
 ·rw [if_pos (zbg h)]
  lia
  refine b5G (at2 _) ?_
  lia
  refine a0b (T:=a3d) rfl ?_
  lia
  refine ⟨rfl,b,c4,_,rfl,by simp,by show 15≤1000;decide,zab,hc4,fun d c5 hd hc5=>?_⟩
  rw [zac]
  obtain ⟨y,rfl,ty⟩:=c1P d hd
  lia
  rw [q1]
  refine a05 (by rw [zag,zai];unfold Lw at l1 lw;show _ + 1≤_;omega) ?_
  lia
  refine b5G (at2 _) ?_
  lia
  rw [q3]
  refine a05 (by rw [zaw,zag,zag,zai];unfold Lw at l1 l3 lw;show _ + 1 + _≤_;omega) ?_
  lia
  rw [show u1.map D.str ++ [D.str y] ++ u3.map D.str=(u1 ++ [y] ++ u3).map D.str from by rw [zav,zav];rfl]
  refine glue (k:=0) (fun u hu=>?_) (by
   rw [a4G,a4G]
   have:Lw [y]=y.length + 0 + 1:=rfl
   have:=ty.2
   omega) hc5 _
  rcases zap.mp hu with hu | hu
  ·rcases zap.mp hu with hu | hu
   ·exact asc u (m1 u hu)
   ·rw [zaj.mp hu];exact ty.1
  ·exact asc u (m3 u hu)
 rw [if_neg (by rw [zah];exact h)]
 lia
 by_cases h:way=3
 ·rw [if_pos (zbg h)]
  lia
  refine a7L (d:=.str us[i]) (at2 _) (atI_nat (by rw [zbh,ei];rfl)) ?_
  lia
  refine a7L (d:=.str us[j]) (at2 _) (atI_nat (by rw [zbh,ej];rfl)) ?_
  lia
  refine a8H (at2 _) (ixN_nat (by rw [zag];exact hi)) ?_
  rw [zae bp,zac]
  lia
  refine a8H (by rw [zaa bp.symm];exact zab) (ixN_nat (by rw [List.length_set,zag];exact hj)) ?_
  rw [zae bp,zac]
  lia
  have es:((us.map D.str).set i (.str us[j])).set j (.str us[i])=((us.set i us[j]).set j us[i]).map D.str:=by rw [List.map_set,List.map_set]
  rw [es]
  have sl:=b5r ei ej
  have jt:=a6Z (us:=(us.set i us[j]).set j us[i]) (n:=3 * n + 20) (fun u hu=>asc u (b2E (List.getElem_mem hi) (List.getElem_mem hj) hu)) (by omega)
  refine ⟨_,.inl (b2R (by rw [zaa bp.symm];exact zab)),by rw [jt.2];omega,?_⟩
  exact gK _ _ _ jt.1 hc4
 rw [if_neg (by rw [zah];exact h)]
 lia
 have nl:TxOk 1 ("\n" : Str):=⟨by decide +kernel,by decide⟩
 have x1:=a2a hz a4Y
 have x2:=a2a a4Y hz
 have x3:=a2a hz nl
 have x4:=a2a nl hz
 have x5:=a2a x1 hz
 have en:("\n" : Str).length=1:=by decide
 refine a0b (T:=a3d) rfl ?_
 lia
 refine a1l (by rw [zai];omega) ?_
 lia
 refine a1l (by rw [zai];omega) ?_
 lia
 refine a1l (by rw [zai];omega) ?_
 lia
 refine a1l (by rw [zai];omega) ?_
 lia
 refine ⟨by omega,?_⟩
 lia
 refine a1l (by rw [zai];omega) ?_
 lia
 refine a1l (by have:=x1.2;rw [zai];omega) ?_
 lia
 refine ⟨rfl,b,c4,_,rfl,by simp,by show 8≤1000;decide,zab,hc4,fun d c5 hd hc5=>?_⟩
 rw [zac]
 have all:∃ y,d=.str y∧TxOk (3 * n + 20) y:=all_cons (P:=fun d=>∃ y,d=D.str y∧TxOk (3 * n + 20) y) ⟨_,rfl,a0Q x1 (by omega)⟩ (all_cons ⟨_,rfl,a0Q x2 (by omega)⟩ (all_cons ⟨_,rfl,a0Q x3 (by omega)⟩ (all_cons ⟨_,rfl,a0Q x4 (by omega)⟩ (all_cons ⟨_,rfl,a0Q (b2N hz) (by omega)⟩ (all_cons ⟨_,rfl,by decide +kernel,Nat.zero_le _⟩ (all_cons ⟨_,rfl,a0Q a4Y (by omega)⟩ (all_cons ⟨_,rfl,a0Q x5 (by omega)⟩ all_nil))))))) d hd
 obtain ⟨y,rfl,ty⟩:=all
 lia
 exact gK _ _ _ ty hc5
 ) only [↓Qt.put_off]
theorem c53 (c:SaysX fa fn fx K):Meets ((tb K).sn N25) ((tb K).G K 25) 2 false a1p b25:=by
 refine Qt.put_in ?_
 simp (disch :=
 with_unfolding_all
 refine Qt.keep ?_
 rintro m hm ds S KK Y ⟨rfl,b,cb,z,n,rfl,hz,hn,hb,hc,hK⟩
 refine ⟨rfl,?_⟩
 show a0c _ b25 [some _,some _,none,none] _ _ _
 unfold b25
 have hl:=hz.2
 lia
 refine a0b (T:=a07) rfl ?_
 lia
 refine b1X (by rw [zai];omega) ?_
 lia
 refine ⟨rfl,b,_,cb,rfl,by omega,b9h (by omega) (by omega),hb,hc,fun at_ c2 a0 a1 hc2=>?_⟩
 lia
 refine a0b (T:=a07) rfl ?_
 lia
 refine ⟨rfl,b,5,c2,rfl,by decide,by decide,zab,hc2,fun way c3 w0 w1 hc3=>?_⟩
 rw [zac]
 lia
 have tx1:=a9s hz none (some at_)
 have tx2:=a9s hz (some at_) none
 have tx3:=a9s hz (some (at_ + 1)) none
 have rd:∀ z' c',TxOk (3 * n + 20) z'→a0I c'→KK (.str z') (S.set b c'):=fun z' c' h1 h2=>hK z' c' _ h1 h2 a0p zab
 by_cases h:way < 2
 ·rw [if_pos (zbg h)]
  lia
  refine a0b (T:=a1p) rfl ?_
  lia
  refine ⟨rfl,b,c3,z,n,rfl,hz,hn,zab,hc3,fun z' c' S' h1 h2 g at_b=>?_⟩
  rw [zac] at g
  exact hK z' c' S' h1 h2 g at_b
 rw [if_neg (by rw [zah];exact h)]
 lia
 by_cases h2:way=2
 ·rw [if_pos (zbg h2)]
  lia
  refine b5H (by rw [zai];omega) ?_
  lia
  refine a0b (T:=a4V) rfl ?_
  lia
  refine ⟨rfl,b,c3,rfl,zab,hc3,fun y c4 ty hc4=>?_⟩
  rw [zac]
  refine a1l (by have:=tx1.2;have:=ty.2;rw [zai];omega) ?_
  lia
  refine b5H (by rw [zai];omega) ?_
  lia
  have t1:=a2a tx1 ty
  refine a1l (by have:=t1.2;have:=tx2.2;rw [zai];omega) ?_
  exact rd _ _ (a0Q (a2a t1 tx2) (by omega)) hc4
 rw [if_neg (by rw [zah];exact h2)]
 lia
 by_cases h3:way=3
 ·rw [if_pos (zbg h3)]
  lia
  refine b5H (by rw [zai];omega) ?_
  lia
  refine a0b (T:=a4V) rfl ?_
  lia
  refine ⟨rfl,b,c3,rfl,zab,hc3,fun y c4 ty hc4=>?_⟩
  rw [zac]
  refine a1l (by have:=tx1.2;have:=ty.2;rw [zai];omega) ?_
  lia
  refine b5H (by rw [zai];omega) ?_
  lia
  have t1:=a2a tx1 ty
  refine a1l (by have:=t1.2;have:=tx3.2;rw [zai];omega) ?_
  exact rd _ _ (a0Q (a2a t1 tx3) (by omega)) hc4
 rw [if_neg (by rw [zah];exact h3)]
 lia
 refine b5H (by rw [zai];omega) ?_
 lia
 refine b5H (by rw [zai];omega) ?_
 lia
 refine a1l (by have:=tx1.2;have:=tx3.2;rw [zai];omega) ?_
 exact rd _ _ (a0Q (a2a tx1 tx3) (by omega)) hc3
 ) only [↓Qt.put_off]
variable {K:zbj}
def EX4:List Str:=["Wrong", "Lacks", "NoText", "NoRow"]
theorem b9g (c:SaysX fa fn fx K) {x y:Str} (hx:x∈EX4) (hy:y∈EX4):PySem.W.kitOne K (.ref (He.ga K x)) (.ref (He.ga K y))=some (decide (x=y)):=b8m (c.fact 7 rfl) hx hy
theorem b7t {G:Gm} {S:SS} {a C:Addr} {oe:Obj} {fs:List (Str × D)} {js:List Nat} {b:Bool} {Q:Bool→Prop} (hm:G.m0=some (a,oe)) (hF:b1e G.K C) (hk:PySem.W.kitAny G.K (.ref C) (js.map fun j=>Value.ref (G.cl j))=some b) (k:Q b) :
  ∃ t b,tyD S (.exc a oe C fs)=some t∧a2L G S (.exc a oe C fs)∧PySem.W.kitAny G.K t (js.map fun j=>Value.ref (G.cl j))=some b∧Q b:=⟨_,b,rfl,⟨hm,hF⟩,hk,k⟩
theorem c4R {t a b c:Value} (h1:PySem.W.kitOne K t a=some false) (h2:PySem.W.kitOne K t b=some false) (h3:PySem.W.kitOne K t c=some false):PySem.W.kitAny K t [a,b,c]=some false:=by
 simp only [PySem.W.kitAny,h1,h2,h3]
theorem c56 (c:SaysX fa fn fx K):Meets ((tb K).sn N28) ((tb K).G K 28) 1 false a4X b28:=by
 refine Qt.put_in ?_
 simp (disch :=
 with_unfolding_all
 refine Qt.keep ?_
 rintro m hm ds S KK Y ⟨rfl,x,rfl,hx,hK⟩
 refine ⟨rfl,?_⟩
 show a0c _ b28 [some _,none,none] _ _ _
 unfold b28
 lia
 refine a2D (fun δ' S'=>Grows S S'∧∃ z,WrD x z∧(∀ S',Grows S S'→KK (.tup [.str "told",a3y z]) S')∧δ'=[some x,some (a3y z),none]) ?_ ?_
 ·lia
  refine a0b (T:=(a6K K)) rfl ?_
  lia
  refine ⟨rfl,x,rfl,hx,?_⟩
  rcases hK with ⟨z,hz,k⟩ | ⟨no,k⟩
  ·refine .inl ⟨z,hz,fun S1 g=>?_⟩
   lia
   exact ⟨g,z,hz,k,rfl⟩
  ·refine .inr ⟨no,fun S1 g=>?_⟩
   have hx:("NoText" : Str)∈EX4:=by decide +kernel
   have hF:b1e K (He.ga K "NoText"):=b4f (c.fact 10 rfl) hx
   refine ⟨true,b6Y (c.fact 9 rfl) hx,fun _ a oe=>?_,fun z=>nomatch z⟩
   have hv:PySem.W.kitOne K (.ref (He.ga K "NoText")) ((Cn.ty "ValueError").val ((tb K).G K 28 (some (a,oe))).toGm)=some true:=b87 (c.fact 8 rfl) hx
   lia
   refine b7s rfl hF (b9g c (x := "NoText") (y := "NoText") hx hx) ?_
   lia
   rw [if_pos (by decide)]
   lia
   refine b7s rfl hF hv ?_
   lia
   rw [if_pos rfl]
   lia
   refine b7t rfl hF (c4R (b9g c (x := "NoText") (y := "NoRow") hx (by decide +kernel)) (b9g c (x := "NoText") (y := "Wrong") hx (by decide +kernel)) (b9g c (x := "NoText") (y := "Lacks") hx (by decide +kernel))) ?_
   lia
   rw [if_pos (by decide)]
   lia
   exact k S1 g
 ·rintro δ' S' ⟨g,z,hz,k,rfl⟩
  lia
  exact k S' g
 ) only [↓Qt.put_off]
theorem b33 {z:Str} (h:a2h (a3y z)):∃ wd l,a3y z=.tup (.str wd :: l)∧b2U wd l:=by
 obtain ⟨wd,l,e,hw,len,fits,line⟩:=h
 have few:∀ w∈a0h,(a0l w).length≤4:=by decide +kernel
 have wb:∀ w∈a0h,((decide (w.cps.size≤64) && fine w) && decide ((D.str w).py.bulk≤40))=true:=by decide +kernel
 refine ⟨wd,l,e,hw,a0l wd,rfl,a4D wd hw,len,few wd hw,a4k wd hw,wb wd hw,fits,fun ea=>?_⟩
 subst ea
 obtain ⟨x1,hx1,f1⟩:=fits 1 "name" rfl
 obtain ⟨x2,hx2,f2⟩:=fits 2 "name" rfl
 obtain ⟨y1,rfl,n1⟩:=a1j.mp f1
 obtain ⟨y2,rfl,n2⟩:=a1j.mp f2
 refine ⟨y1,y2,hx1,hx2,fun e=>?_,n1,n2⟩
 subst e
 exact line rfl (by rw [hx1,hx2])
theorem a8M {wd:Str} {l:List D} (h:b2U wd l):Plain (.tup [.str "told",.tup (.str wd :: l)]):=by
 have f1:=b6B h 17
 have f2:=(b4i "told" (by decide +kernel) 19).mono (show 8≤1505 by decide)
 refine FB.plain (b3g (n:=19) (b:=1505) (k:=2) (fun d hd=>?_) (Nat.le_refl 2)) (by decide)
 rcases zau.mp hd with rfl | hd
 ·exact f2
 ·rw [zaj.mp hd];exact f1
theorem c57 (c:SaysX fa fn fx K):Meets ((tb K).sn N29) ((tb K).G K 29) 1 false a3i b29:=by
 refine Qt.put_in ?_
 simp (disch :=
 with_unfolding_all
 refine Qt.keep ?_
 rintro m hm ds S KK Y ⟨rfl,x,rfl,hx,hK⟩
 refine ⟨rfl,?_⟩
 show a0c _ b29 [some _,none,none,none,none] _ _ _
 unfold b29
 have hx':=hx
 obtain ⟨⟨q,hq,sh⟩,_⟩:=hx'
 lia
 refine b5h hq sh ?_
 lia
 refine a0b (T:=a4U) rfl ?_
 lia
 refine ⟨rfl,x,rfl,hx,?_⟩
 by_cases hw:∃ z,WrD x z
 ·obtain ⟨z,hz⟩:=hw
  obtain ⟨wd,l,ez,dd⟩:=b33 hz.2
  have pl:=a8M dd
  refine .inl ⟨z,hz,?_⟩
  rw [ez]
  lia
  refine ⟨by decide,by decide,?_⟩
  refine ⟨fun i δ' S'=>Grows S S'∧∃ a b,δ'=[some x,some (.str q.shown),some (.tup (.str wd :: l)),a,b],⟨a0p,none,none,rfl⟩,fun _ _ _ _ _=>trivial,?_,?_⟩
  ·rintro i d δ' S' hd ⟨g,a,b,rfl⟩
   refine a5x ?_
   lia
   refine a0b (T:=a4X) rfl ?_
   lia
   refine ⟨rfl,x,rfl,hx,.inl ⟨z,hz,fun S2 g2=>?_⟩⟩
   rw [ez]
   have nn:Sv.isNon (D.tup (D.str wd :: l))=false:=rfl
   lia
   rw [if_neg (by rw [nn];decide)]
   rw [if_neg (by decide)]
   lia
   rw [if_pos (by rw [nn];decide)]
   lia
   refine a0b (T:=a6I) rfl ?_
   lia
   refine ⟨rfl,_,_,_,rfl,a7B pl,a7B pl,pl,?_⟩
   lia
   rw [if_neg (by decide)]
   lia
   exact ⟨g.trans g2,_,_,rfl⟩
  ·rintro δ' S' ⟨g,a,b,rfl⟩
   lia
   refine b5h hq sh ?_
   lia
   rw [zbg rfl]
   exact hK S' g
 ·have no:∀ z,¬ WrD x z:=fun z h=>hw ⟨z,h⟩
  refine .inr ⟨no,?_⟩
  lia
  refine ⟨by decide,by decide,?_⟩
  refine ⟨fun i δ' S'=>Grows S S'∧∃ a b,δ'=[some x,some (.str q.shown),some .non,a,b],⟨a0p,none,none,rfl⟩,fun _ _ _ _ _=>trivial,?_,?_⟩
  ·rintro i d δ' S' hd ⟨g,a,b,rfl⟩
   refine a5x ?_
   lia
   refine a0b (T:=a4X) rfl ?_
   lia
   refine ⟨rfl,x,rfl,hx,.inr ⟨no,fun S2 g2=>?_⟩⟩
   lia
   rw [if_pos (by decide)]
   lia
   refine b6j (by show D.okd 60 (D.tup [D.str "refused",D.int 0])=true;decide +kernel) (by show D.okd 60 (D.tup [D.str "refused",D.int 0])=true;decide +kernel) ?_
   lia
   rw [if_neg (by show ¬ ((!D.eqv (D.tup [D.str "refused",D.int 0]) (D.tup [D.str "refused",D.int 0]))=true);decide +kernel)]
   lia
   rw [if_neg (by decide)]
   lia
   exact ⟨g.trans g2,_,_,rfl⟩
  ·rintro δ' S' ⟨g,a,b,rfl⟩
   lia
   refine b5h hq sh ?_
   lia
   rw [zbg rfl]
   exact hK S' g
 ) only [↓Qt.put_off]
theorem c3Q {z:Str} (h:TxOk 100000 z):b2Y (.str z):=⟨⟨.str z,rfl,rfl,by
 have:=StrLaws.reprText_len z fun c hc=>by have:=h.1 c hc;omega
 have:=h.2
 rw [zai]
 show (reprText z).length≤_
 omega,by show 0≤20;decide⟩,fun y e=>by cases e;exact h⟩
theorem a6t {n b:Nat} {x:D} (h:AB n b x) (hn:n≤18) (hb:b≤600000) (no:∀ z,x≠.str z):b2Y x:=⟨⟨_,(h.shows hn hb).1,(h.shows hn hb).2⟩,fun z e=>absurd e (no z)⟩
theorem c0j {n b:Nat} {z:Str} (h:TxOk b z) (hb:b≤100000):AB n b (.str z):=⟨b2K (a0Q h hb),by simp only [paD,PyData.bulk];exact h.2⟩
theorem a2j:∀ ws:List Str,PyData.bulkAll (a5C (ws.map D.str))=Lw ws
 | []=>by simp [a5C,PyData.bulkAll,Lw]
 | w :: ws=>by
  have h:=a2j ws
  have e:Lw (w :: ws)=(w.length + (ws.map (·.length)).sum) + (ws.length + 1):=by
   unfold Lw
   rw [zax,List.sum_cons,zaz]
  rw [zax,e]
  simp only [a5C,paD,PyData.bulkAll,PyData.bulk]
  rw [h]
  unfold Lw
  have el:w.length=w.cps.size:=rfl
  omega
theorem b82 {z:Str} (h:TxOk 100000 z):b2Y (.dic [(.inr z,.int 1)]):=⟨⟨.dict [(.str z,.int 1)],rfl,by
 simp [PyData.showable,PyData.showableKv]
 decide,by
 have:=PyData.shown_le_bulk 22 (by decide) (.dict [(.str z,.int 1)]) (by
  simp only [PyData.leavesShort,PyData.leavesShortKv]
  have:=a5d (a4w h.1)
  simp [this]
  decide)
 simp only [PyData.bulk,PyData.bulkKv] at this
 have:=h.2
 have el:z.length=z.cps.size:=rfl
 rw [zai]
 omega,by simp [PyData.depth,PyData.depthKv]⟩,fun y e=>nomatch e⟩
def Asc (z:Str):Prop:=∀ c∈z.cps.toList,c < 128
instance (z:Str):Decidable (Asc z):=by unfold Asc;infer_instance
theorem b3a {z:Str} (h:Nm z):Asc z:=fun c hc=>by have:=h.2.2 c hc;omega
theorem asc_num:∀ n < 100,Asc (toString ((n:Nat):Int)):=by decide +kernel
theorem b6e:∀ w∈a0h,Asc w:=by decide +kernel
theorem b2S {wd:Str} {kinds:List Str} {l:List D} (hw:wd∈a0h) (de:a6G (.tup (.str wd :: l)) wd kinds l):∀ z∈(D.str wd :: l).flatMap a1N,Asc z:=fun z hz=>by
 obtain ⟨x,hx,hz⟩:=List.mem_flatMap.mp hz
 rcases zau.mp hx with rfl | h
 ·rw [zaj.mp hz];exact b6e wd hw
 ·obtain ⟨i,hi,rfl⟩:=List.mem_iff_getElem.mp h
  have hk:i < kinds.length:=by rw [← de.len];exact hi
  obtain ⟨y,hy,fit⟩:=de.fits i kinds[i] (zbi hk)
  rw [zbi hi] at hy
  cases hy
  rcases fit with ⟨_,y,e,ny⟩ | ⟨_,n,e,n0,n1⟩ | ⟨_,y,e,py⟩ | ⟨_,rs,e,hr⟩
  ·rw [e] at hz;rw [zaj.mp hz];exact b3a ny
  ·rw [e] at hz;rw [zaj.mp hz]
   obtain ⟨k,rfl⟩:=Int.eq_ofNat_of_zero_le n0
   exact asc_num k (by omega)
  ·rw [e] at hz;rw [zaj.mp hz]
   rcases py with rfl | rfl <;> decide +kernel
  ·rw [e] at hz
   have hz:z∈a1N (.lst (rs.map D.str)):=hz
   rw [a2J] at hz
   exact b3a (hr.2.2.2 z hz)
theorem b2w {wd:Str} {l:List D} (h:b2U wd l):TxOk 8000 (a7f wd l):=by
 obtain ⟨hw,kinds,de⟩:=h
 have wk:=b1b hw de
 have wf:=b2S hw de
 have e:(D.str wd :: l).flatMap a1N=wd :: l.flatMap a1N:=rfl
 rw [e] at wk wf
 have:=a7i fun z hz=>(wk z hz).1
 have h2:=a4n de (l.length + 1)
 rw [List.take_of_length_le (by rw [zaz];exact Nat.le_refl _),e] at h2
 exact (a6Z wf (by unfold Lw;omega)).1
theorem c58 (c:SaysX fa fn fx K):Meets ((tb K).sn N30) ((tb K).G K 30) 1 false (lawT 63) b30:=by
 refine Qt.put_in ?_
 simp (disch :=
 with_unfolding_all
 refine Qt.keep ?_
 rintro m hm ds S KK Y ⟨ns,hns,rfl,hS,hK⟩
 have hm0:m=none:=by cases m with | none=>rfl | some _=>cases hm
 subst hm0
 refine ⟨rfl,?_⟩
 show a0c _ b30 [some _,none,none,none,none,none,none,none,none,none,none] _ _ _
 unfold b30
 lia
 refine a0b (T:=c0g) rfl ?_
 lia
 refine ⟨rfl,ns,rfl,fun b cb fb hcb=>?_⟩
 lia
 refine a0b (T:=a4W) rfl ?_
 lia
 refine ⟨rfl,b,cb,rfl,zab,hcb,fun s c1 ok hc1=>?_⟩
 rw [zac]
 lia
 refine a0b (T:=a3j) rfl ?_
 lia
 refine ⟨rfl,rfl,?_⟩
 lia
 refine a0b (T:=a07) rfl ?_
 lia
 refine ⟨rfl,b,25,c1,rfl,by decide,by decide,zab,hc1,fun f c2 f0 f1 hc2=>?_⟩
 rw [zac]
 obtain ⟨f,rfl⟩:=Int.eq_ofNat_of_zero_le f0
 lia
 have bd:=bnd (j:=6 + (f:Int)) (by omega) (by omega)
 refine ⟨bd.1,bd.2,?_⟩
 refine ⟨fun i δ' S'=>∃ c',a0I c'∧S' b=some c'∧∃ x4 x5 x6 x7 x8 x9 x10,δ'=[some (.lst (ns.map .int)),some (.obj b),some (a8K s),some (.lst (a0h.map D.str)),x4,x5,x6,x7,x8,x9,x10],⟨c2,hc2,zab,_,_,_,_,_,_,_,rfl⟩,fun _ _ _ _ _=>trivial,?_,?_⟩
 rotate_left
 ·rintro δ' S' ⟨c',hc',hb',x4,x5,x6,x7,x8,x9,x10,rfl⟩
  lia
  exact hK _
 rintro i d0 δ' S' hd ⟨c',hc',hb',x4,x5,x6,x7,x8,x9,x10,rfl⟩
 obtain ⟨_,rfl⟩:=a6o hd
 refine a5x ?_
 lia
 refine a0b (T:=a07) rfl ?_
 lia
 refine ⟨rfl,b,3,c',rfl,by decide,by decide,hb',hc',fun many c4 many0 many1 hc4=>?_⟩
 lia
 refine a0b (T:=a07) rfl ?_
 lia
 refine ⟨rfl,b,8,c4,rfl,by decide,by decide,zab,hc4,fun odd c5 odd0 odd1 hc5=>?_⟩
 rw [zac]
 lia
 refine a0b (T:=a86) rfl ?_
 lia
 refine a0b (T:=a07) rfl ?_
 lia
 refine ⟨rfl,b,23,c5,rfl,by decide,by decide,zab,hc5,fun u c6 u0 u1 hc6=>?_⟩
 rw [zac]
 obtain ⟨u,rfl⟩:=Int.eq_ofNat_of_zero_le u0
 have hk:u < a0h.length:=by show _ < 23;omega
 refine a5f (d:=.str a0h[u]) (atI_nat (by rw [zbh,zbi hk];rfl)) ?_
 lia
 refine ⟨rfl,b,c6,s,a0h[u],rfl,ok,List.getElem_mem hk,zab,hc6,fun wd l c7 dd hc7=>?_⟩
 rw [zac]
 obtain ⟨dv,y,hy,py⟩:=c1k dd
 have sd:=c1l dv (by decide)
 have tx:=b2w dd
 lia
 refine a0b (T:=a6L) rfl ?_
 lia
 refine ⟨rfl,wd,l,l,rfl,dd,b3T,fun S1 g1=>?_⟩
 have hb1:=a3F g1 zab
 generalize a7f wd l=z at tx ⊢
 lia
 refine a2D (fun δ' S2=>∃ c',a0I c'∧S2 b=some c'∧∃ x9,δ'=[some (.lst (ns.map .int)),some (.obj b),some (a8K s),some (.lst (a0h.map D.str)),some (.int (i:Int)),some (.int many),some (.int odd),some (.tup (.str wd :: l)),some (.str z),x9,x10]) ?_ ?_
 ·lia
  by_cases h:odd=0
  ·rw [if_pos (zbg h)]
   lia
   refine ⟨by decide,by have:=tx.2;rw [zai];omega,?_⟩
   lia
   refine b32 fun p fp=>?_
   lia
   refine ⟨zab,[(.inr z,.int 1)],rfl,by show 1≤15;decide,?_⟩
   rw [if_neg zbe,zaf fp]
   lia
   refine c1M ⟨by decide,by decide,by decide⟩ ?_
   lia
   refine a6r (T:=a3i) rfl ?_
   lia
   refine a0b (T:=a3d) rfl ?_
   lia
   refine ⟨rfl,b,c7,_,rfl,by simp,by show 10≤1000;decide,hb1,hc7,fun d c8 hd hc8=>?_⟩
   lia
   have tz:=a0Q tx (show 8000≤100000 by decide)
   have az:AB 0 8000 (.str z):=c0j tx (by decide)
   refine ⟨rfl,d,rfl,?_,fun S3 g=>?_⟩
   ·refine all_cons (P:=b2Y) ?_ (all_cons ?_ (all_cons ?_ (all_cons ?_ (all_cons ?_ (all_cons ?_ (all_cons ?_ (all_cons ?_ (all_cons ?_ (all_cons ?_ all_nil))))))))) d hd
    ·exact a6t (n:=0) (b:=0) ⟨rfl,by decide⟩ (by decide) (by decide) (fun z e=>nomatch e)
    ·exact a6t (n:=0) (b:=0) ⟨by decide +kernel,by decide⟩ (by decide) (by decide) (fun z e=>nomatch e)
    ·exact a6t (n:=0) (b:=0) ⟨rfl,by decide⟩ (by decide) (by decide) (fun z e=>nomatch e)
    ·refine a6t (n:=1) (b:=8001) ⟨?_,?_⟩ (by decide) (by decide) (fun z e=>nomatch e)
     ·simp only [anD,zak,zah]
      refine ⟨by decide,a2O fun d hd=>?_⟩
      obtain ⟨y,hy,rfl⟩:=zan.mp hd
      exact b2K (a2C tz hy)
     ·simp only [paD,PyData.bulk]
      rw [a2j]
      have:=a2B z
      have:=tx.2
      unfold Lw
      omega
    ·exact a6t sd (by decide) (by decide) (fun z e=>nomatch e)
    ·exact a6t (a88 (k:=1) (all_cons az all_nil) (Nat.le_refl _)) (by decide) (by decide) (fun z e=>nomatch e)
    ·exact b82 tz
    ·exact a6t (b2Z (k:=1) (all_cons az all_nil) (Nat.le_refl _)) (by decide) (by decide) (fun z e=>nomatch e)
    ·exact ⟨⟨.int (10 ^ 30),rfl,by decide +kernel,by decide +kernel,by show 0≤20;decide⟩,fun z e=>nomatch e⟩
    ·exact a6t (n:=0) (b:=0) ⟨rfl,by decide⟩ (by decide) (by decide) (fun z e=>nomatch e)
   lia
   rw [if_neg (by decide)]
   lia
   exact ⟨c8,hc8,a3F g zab,_,rfl⟩
  ·rw [if_neg (by rw [zah];exact h)]
   lia
   exact ⟨c7,hc7,hb1,_,rfl⟩
 rintro δ' S2 ⟨c8,hc8,hb8,x9,rfl⟩
 lia
 have bd:=bnd (j:=many) (by omega) (by omega)
 refine ⟨bd.1,bd.2,?_⟩
 refine ⟨fun i δ' S'=>∃ c' z,a0I c'∧S' b=some c'∧TxOk (if i=0 then 8000 else if i=1 then 24020 else 72080) z∧∃ x4 x5 x6 x7 x9 x10,δ'=[some (.lst (ns.map .int)),some (.obj b),some (a8K s),some (.lst (a0h.map D.str)),x4,x5,x6,x7,some (.str z),x9,x10],⟨c8,_,hc8,hb8,tx,_,_,_,_,_,_,rfl⟩,fun _ _ _ _ _=>trivial,?_,?_⟩
 ·rintro j d0 δ' S' hd ⟨c',z',hc',hb',hz',x4,x5,x6,x7,x9,x10,rfl⟩
  have hj:j < many.toNat:=by have:=(List.getElem?_eq_some_iff.mp hd).1;rw [a0F] at this;exact this
  have hj:j=0∨j=1:=by omega
  refine a5x ?_
  lia
  refine a0b (T:=a1p) rfl ?_
  lia
  refine ⟨rfl,b,c',z',_,rfl,hz',by rcases hj with rfl | rfl <;> decide,hb',hc',fun z2 c2 S3 tz hc2 g hb3=>?_⟩
  lia
  exact ⟨c2,z2,hc2,hb3,a0Q tz (by rcases hj with rfl | rfl <;> decide),_,_,_,_,_,_,rfl⟩
 ·rintro δ' S' ⟨c',z',hc',hb',hz',x4,x5,x6,x7,x9,x10,rfl⟩
  lia
  refine a0b (T:=a3i) rfl ?_
  lia
  refine ⟨rfl,_,rfl,c3Q (a0Q hz' (by split;decide;split <;> decide)),fun S3 g=>?_⟩
  lia
  rw [if_neg (by decide)]
  lia
  exact ⟨c',hc',a3F g hb',_,_,_,_,_,_,_,rfl⟩
 ) only [↓Qt.put_off]
open L2H (RoomH)
section
theorem a2f {P:TR→Prop}:∀ T:TR,(none:Option TR)=some T→P T:=fun _ h=>nomatch h
theorem a2g {P:TR→Prop} {T0:TR} (h0:P T0):∀ T:TR,some T0=some T→P T:=fun _ h=>by cases h;exact h0
variable {P:Program} {w:World} {K:zbj} {h:Heap} {mg:Str→Option Value} {base:Heap}
theorem a2e (X:K.In h) (G:h.Ns mainGlobals mg) (c:SaysX fa fn fx K) (ct:a2c tbs w K):c0h (tb K) w K mg where
 cl:=fun x hx=>by
  have hx:x∈b6q:=hx
  simp only [b6q,zau,zba,or_false] at hx
  rcases hx with rfl | rfl | rfl | rfl | rfl
  ·exact He.glo_ok X G (c.d.fact 31 (f:=.glo "MainsError") rfl)
  ·exact He.glo_ok X G (c.d.fact 32 (f:=.glo "Wrong") rfl)
  ·exact He.glo_ok X G (c.d.fact 33 (f:=.glo "Lacks") rfl)
  ·exact He.glo_ok X G (c.d.fact 34 (f:=.glo "NoText") rfl)
  ·exact He.glo_ok X G (c.d.fact 35 (f:=.glo "NoRow") rfl)
 gv:=fun j x hx=>by
  have hx:b9e[j]?=some x:=hx
  match j,hx with
  | 0,hx=>cases hx;obtain ⟨t,e⟩:=He.str_ok X G (c.d.fact 58 rfl);exact ⟨.str "abcdefghijklmnopqrstuvwxyz",_,e,⟨t,rfl⟩,fun S H=>by show Rep _ S H (.str "abcdefghijklmnopqrstuvwxyz") _;simp only [Rep]⟩
  | 1,hx=>cases hx;obtain ⟨t,e⟩:=He.int_ok X G (c.d.fact 59 rfl);exact ⟨.int 8,_,e,⟨t,rfl⟩,fun S H=>by show Rep _ S H (.int 8) _;simp only [Rep]⟩
  | 2,hx=>cases hx;obtain ⟨t,e⟩:=He.int_ok X G (c.d.fact 60 rfl);exact ⟨.int 99,_,e,⟨t,rfl⟩,fun S H=>by show Rep _ S H (.int 99) _;simp only [Rep]⟩
  | 3,hx=>cases hx;obtain ⟨t,e⟩:=He.int_ok X G (c.d.fact 61 rfl);exact ⟨.int 60,_,e,⟨t,rfl⟩,fun S H=>by show Rep _ S H (.int 60) _;simp only [Rep]⟩
  | 4,hx=>cases hx;obtain ⟨t,e⟩:=He.int_ok X G (c.d.fact 62 rfl);exact ⟨.int 24,_,e,⟨t,rfl⟩,fun S H=>by show Rep _ S H (.int 24) _;simp only [Rep]⟩
  | 5,hx=>cases hx;exact ⟨.ref (He.ga K "FORMS"),_,He.glo_ok X G (c.d.fact 63 rfl),rfl,fun S H=>by show Rep _ S H (.obj _) _;simp only [Rep]⟩
  | 6,hx=>cases hx;obtain ⟨t,e⟩:=He.int_ok X G (c.d.fact 64 rfl);exact ⟨.int 100,_,e,⟨t,rfl⟩,fun S H=>by show Rep _ S H (.int 100) _;simp only [Rep]⟩
  | n + 7,hx=>cases hx
 kd:=fun j x kvs hx hk=>by
  have hx:b9e[j]?=some x:=hx
  have hk:([none,none,none,none,none,some a0P.kv,none]:List (Option (List (Key × D))))[j]?.join=some kvs:=hk
  match j,hx,hk with
  | 0,hx,hk=>cases hk
  | 1,hx,hk=>cases hk
  | 2,hx,hk=>cases hk
  | 3,hx,hk=>cases hk
  | 4,hx,hk=>cases hk
  | 5,hx,hk=>cases hx;cases hk;exact ⟨_,He.glo_ok X G (c.d.fact 63 rfl),ct.tab (t:=a0P) (zaq (i:=0) rfl)⟩
  | 6,hx,hk=>cases hk
  | n + 7,hx,hk=>cases hx
 bt:=fun x hx=>by
  simp only [a4y,zau,zba,or_false] at hx
  rcases hx with rfl | rfl | rfl | rfl | rfl | rfl | rfl | rfl | rfl | rfl | rfl | rfl | rfl | rfl | rfl | rfl | rfl | rfl | rfl | rfl | rfl | rfl
  ·exact He.free_ok X G (c.d.fact 36 (f:=.free "len") rfl)
  ·exact He.free_ok X G (c.d.fact 37 (f:=.free "abs") rfl)
  ·exact He.free_ok X G (c.d.fact 38 (f:=.free "max") rfl)
  ·exact He.free_ok X G (c.d.fact 39 (f:=.free "min") rfl)
  ·exact He.free_ok X G (c.d.fact 40 (f:=.free "range") rfl)
  ·exact He.free_ok X G (c.d.fact 41 (f:=.free "isinstance") rfl)
  ·exact He.free_ok X G (c.d.fact 42 (f:=.free "repr") rfl)
  ·exact He.free_ok X G (c.d.fact 43 (f:=.free "list") rfl)
  ·exact He.free_ok X G (c.d.fact 44 (f:=.free "tuple") rfl)
  ·exact He.free_ok X G (c.d.fact 45 (f:=.free "dict") rfl)
  ·exact He.free_ok X G (c.d.fact 46 (f:=.free "sorted") rfl)
  ·exact He.free_ok X G (c.d.fact 47 (f:=.free "sum") rfl)
  ·exact He.free_ok X G (c.d.fact 48 (f:=.free "enumerate") rfl)
  ·exact He.free_ok X G (c.d.fact 49 (f:=.free "zip") rfl)
  ·exact He.free_ok X G (c.d.fact 50 (f:=.free "reversed") rfl)
  ·exact He.free_ok X G (c.d.fact 51 (f:=.free "str") rfl)
  ·exact He.free_ok X G (c.d.fact 52 (f:=.free "int") rfl)
  ·exact He.free_ok X G (c.d.fact 53 (f:=.free "bool") rfl)
  ·exact He.free_ok X G (c.d.fact 54 (f:=.free "set") rfl)
  ·exact He.free_ok X G (c.d.fact 55 (f:=.free "ValueError") rfl)
  ·exact He.free_ok X G (c.d.fact 56 (f:=.free "any") rfl)
  ·exact He.free_ok X G (c.d.fact 57 (f:=.free "all") rfl)
theorem xok (X:K.In h) (G:h.Ns mainGlobals mg) (c:SaysX fa fn fx K):XOk (tb K) P w K mg base:=by
 intro j x kd h1 h2
 have h1:([none,some (.fld "at"),some (.fld "name"),some .bare,some .bare]:List (Option XKd))[j]?.join=some kd:=h1
 have h2:b6q[j]?=some x:=h2
 match j,h1,h2 with
 | 0,h1,_=>cases h1
 | 1,h1,h2 =>
  cases h1;cases h2
  obtain ⟨fd,F⟩:=c.d.def_ 31 rfl
  have z:=b3k (c.fact 1 (f:=.ini "Wrong") rfl)
  exact .fld (a72 (c.fact 0 (f:=.oex "Wrong") rfl)) z.1 z.2 (a7F (k:=0) (N:=["self", "at"]) (B:=He.ga K "MainsError") (z := "MainsError") F ⟨rfl,rfl,rfl,by decide +kernel,rfl,by decide +kernel,by decide +kernel⟩ (by decide +kernel) (He.glo_ok X G (c.d.fact 31 (f:=.glo "MainsError") rfl)) (b3b (c.fact 6 (f:=.bas "MainsError") rfl)) (a72 (c.fact 0 (f:=.oex "Wrong") rfl)) (b3t (c.fact 2 (f:=.nov "Wrong" "at") rfl))) (FunD.bindsN (ps:=["self", "at"]) F fun _ _ _ _ _ _ us hl=>match us,hl with | [_,_],_=>rfl) (by omega)
 | 2,h1,h2 =>
  cases h1;cases h2
  obtain ⟨fd,F⟩:=c.d.def_ 32 rfl
  have z:=b3k (c.fact 4 (f:=.ini "Lacks") rfl)
  exact .fld (a72 (c.fact 3 (f:=.oex "Lacks") rfl)) z.1 z.2 (a7F (k:=0) (N:=["self", "name"]) (B:=He.ga K "MainsError") (z := "MainsError") F ⟨rfl,rfl,rfl,by decide +kernel,rfl,by decide +kernel,by decide +kernel⟩ (by decide +kernel) (He.glo_ok X G (c.d.fact 31 (f:=.glo "MainsError") rfl)) (b3b (c.fact 6 (f:=.bas "MainsError") rfl)) (a72 (c.fact 3 (f:=.oex "Lacks") rfl)) (b3t (c.fact 5 (f:=.nov "Lacks" "name") rfl))) (FunD.bindsN (ps:=["self", "name"]) F fun _ _ _ _ _ _ us hl=>match us,hl with | [_,_],_=>rfl) (by omega)
 | 3,h1,h2 =>
  cases h1;cases h2
  obtain ⟨e1,e2,e3,e4⟩:=He.exc_ok (c.d.fact 65 (f:=.exc "NoText") rfl)
  exact .bare F.excBase_ValueError e1 e2 e3 e4
 | 4,h1,h2 =>
  cases h1;cases h2
  obtain ⟨e1,e2,e3,e4⟩:=He.exc_ok (c.d.fact 66 (f:=.exc "NoRow") rfl)
  exact .bare F.excBase_ValueError e1 e2 e3 e4
 | n + 5,h1,_=>cases h1
theorem a8R:a0z (tb K) P w K mg base 0 0:=a0z.zero
local macro_rules | `(tactic| walk_at "b0")=>`(tactic| exact fun _ _ _ _ _ _ us hl=>match us,hl with | [],_=>rfl)
local macro_rules | `(tactic| walk_at "b1")=>`(tactic| exact fun _ _ _ _ _ _ us hl=>match us,hl with | [_],_=>rfl)
local macro_rules | `(tactic| walk_at "b2")=>`(tactic| exact fun _ _ _ _ _ _ us hl=>match us,hl with | [_,_],_=>rfl)
local macro_rules | `(tactic| walk_at "b3")=>`(tactic| exact fun _ _ _ _ _ _ us hl=>match us,hl with | [_,_,_],_=>rfl)
section
variable (P w base)
variable (X:K.In h) (G:h.Ns mainGlobals mg) (c:SaysX fa fn fx K) (ct:a2c tbs w K)
include X G c ct
theorem all1:a0z (tb K) P w K mg base 1 1:=by
 have A:a0z (tb K) P w K mg base 0 0:=a8R
 have A2:=a8R (P:=P) (w:=w) (K:=K) (mg:=mg) (base:=base)
 obtain ⟨fd,F⟩:=c.d.def_ 0 rfl
 exact A.step (d:=0) (by omega) (x:=.fn "_law_bag") rfl ⟨He.glo_ok X G (c.d.fact 0 (f:=.glo "_law_bag") rfl),F.kp⟩ (FunD.bindsN (ps:=["_law_script"]) F (by walk_at "b1")) (a2g (a0t (i:=0) A2 (a2e X G c ct) (xok X G c) F sc0 ck0 (me0 c))) (a2f)
theorem all2:a0z (tb K) P w K mg base 2 1:=by
 have A:=all1 P w base X G c ct
 have A2:=a8R (P:=P) (w:=w) (K:=K) (mg:=mg) (base:=base)
 obtain ⟨fd,F⟩:=c.d.def_ 1 rfl
 exact A.step (d:=0) (by omega) (x:=.fn "_law_take") rfl ⟨He.glo_ok X G (c.d.fact 1 (f:=.glo "_law_take") rfl),F.kp⟩ (FunD.bindsN (ps:=["_law_bag_here", "_law_many"]) F (by walk_at "b2")) (a2g (a0t (i:=1) A2 (a2e X G c ct) (xok X G c) F sc1 ck1 (me1 c))) (a2f)
theorem c4K:a0z (tb K) P w K mg base 3 1:=by
 have A:=all2 P w base X G c ct
 have A2:=a8R (P:=P) (w:=w) (K:=K) (mg:=mg) (base:=base)
 obtain ⟨fd,F⟩:=c.d.def_ 2 rfl
 exact A.step (d:=0) (by omega) (x:=.fn "_law_words") rfl ⟨He.glo_ok X G (c.d.fact 2 (f:=.glo "_law_words") rfl),F.kp⟩ (FunD.bindsN (ps:=[]) F (by walk_at "b0")) (a2g (a0t (i:=2) A2 (a2e X G c ct) (xok X G c) F sc2 ck2 (me2 c))) (a2f)
theorem c4L:a0z (tb K) P w K mg base 4 1:=by
 have A:=c4K P w base X G c ct
 have A2:=a8R (P:=P) (w:=w) (K:=K) (mg:=mg) (base:=base)
 obtain ⟨fd,F⟩:=c.d.def_ 3 rfl
 exact A.step (d:=0) (by omega) (x:=.fn "_law_shown") rfl ⟨He.glo_ok X G (c.d.fact 3 (f:=.glo "_law_shown") rfl),F.kp⟩ (FunD.bindsN (ps:=["_law_deed"]) F (by walk_at "b1")) (a2g (a0t (i:=3) A2 (a2e X G c ct) (xok X G c) F sc3 ck3 (me3 c))) (a2f)
theorem c4M:a0z (tb K) P w K mg base 5 1:=by
 have A:=c4L P w base X G c ct
 have A2:=a8R (P:=P) (w:=w) (K:=K) (mg:=mg) (base:=base)
 obtain ⟨fd,F⟩:=c.d.def_ 4 rfl
 exact A.step (d:=0) (by omega) (x:=.fn "_law_form") rfl ⟨He.glo_ok X G (c.d.fact 4 (f:=.glo "_law_form") rfl),F.kp⟩ (FunD.bindsN (ps:=["_law_word"]) F (by walk_at "b1")) (a2g (a0t (i:=4) A2 (a2e X G c ct) (xok X G c) F sc4 ck4 (me4 c))) (a2f)
theorem c4N:a0z (tb K) P w K mg base 6 1:=by
 have A:=c4M P w base X G c ct
 have A2:=a8R (P:=P) (w:=w) (K:=K) (mg:=mg) (base:=base)
 obtain ⟨fd,F⟩:=c.d.def_ 5 rfl
 exact A.step (d:=0) (by omega) (x:=.fn "_law_is_name") rfl ⟨He.glo_ok X G (c.d.fact 5 (f:=.glo "_law_is_name") rfl),F.kp⟩ (FunD.bindsN (ps:=["_law_thing"]) F (by walk_at "b1")) (a2g (a0t (i:=5) A2 (a2e X G c ct) (xok X G c) F sc5 ck5 (me5 c))) (a2f)
theorem c4O:a0z (tb K) P w K mg base 7 1:=by
 have A:=c4N P w base X G c ct
 have A2:=a8R (P:=P) (w:=w) (K:=K) (mg:=mg) (base:=base)
 obtain ⟨fd,F⟩:=c.d.def_ 6 rfl
 exact A.step (d:=0) (by omega) (x:=.fn "part_read") rfl ⟨He.glo_ok X G (c.d.fact 6 (f:=.glo "part_read") rfl),F.kp⟩ (FunD.bindsN (ps:=["kind", "word"]) F (by walk_at "b2")) (a2g (a0t (i:=6) A2 (a2e X G c ct) (xok X G c) F sc6 ck6 (me6 c))) (a2f)
theorem c4P:a0z (tb K) P w K mg base 8 1:=by
 have A:=c4O P w base X G c ct
 have A2:=a8R (P:=P) (w:=w) (K:=K) (mg:=mg) (base:=base)
 obtain ⟨fd,F⟩:=c.d.def_ 7 rfl
 exact A.step (d:=0) (by omega) (x:=.fn "is_name") rfl ⟨He.glo_ok X G (c.d.fact 7 (f:=.glo "is_name") rfl),F.kp⟩ (FunD.bindsN (ps:=["thing"]) F (by walk_at "b1")) (a2g (a0t (i:=7) A2 (a2e X G c ct) (xok X G c) F sc7 ck7 (me7 c))) (a2f)
theorem c4Q:a0z (tb K) P w K mg base 9 1:=by
 have A:=c4P P w base X G c ct
 have A2:=a8R (P:=P) (w:=w) (K:=K) (mg:=mg) (base:=base)
 obtain ⟨fd,F⟩:=c.d.def_ 8 rfl
 exact A.step (d:=0) (by omega) (x:=.fn "is_whole") rfl ⟨He.glo_ok X G (c.d.fact 8 (f:=.glo "is_whole") rfl),F.kp⟩ (FunD.bindsN (ps:=["thing"]) F (by walk_at "b1")) (a2g (a0t (i:=8) A2 (a2e X G c ct) (xok X G c) F sc8 ck8 (me8 c))) (a2f)
theorem c0n:a0z (tb K) P w K mg base 10 1:=by
 have A:=c4Q P w base X G c ct
 have A2:=a8R (P:=P) (w:=w) (K:=K) (mg:=mg) (base:=base)
 obtain ⟨fd,F⟩:=c.d.def_ 9 rfl
 exact A.step (d:=0) (by omega) (x:=.fn "is_position") rfl ⟨He.glo_ok X G (c.d.fact 9 (f:=.glo "is_position") rfl),F.kp⟩ (FunD.bindsN (ps:=["thing"]) F (by walk_at "b1")) (a2g (a0t (i:=9) A2 (a2e X G c ct) (xok X G c) F sc9 ck9 (me9 c))) (a2f)
theorem a6N:a0z (tb K) P w K mg base 11 1:=by
 have A:=c0n P w base X G c ct
 have A2:=a8R (P:=P) (w:=w) (K:=K) (mg:=mg) (base:=base)
 obtain ⟨fd,F⟩:=c.d.def_ 10 rfl
 exact A.step (d:=0) (by omega) (x:=.fn "_law_alike") rfl ⟨He.glo_ok X G (c.d.fact 10 (f:=.glo "_law_alike") rfl),F.kp⟩ (FunD.bindsN (ps:=["_law_found", "_law_due"]) F (by walk_at "b2")) (a2g (a0t (i:=10) A2 (a2e X G c ct) (xok X G c) F c6G c4T (c5O c))) (a2f)
theorem c0o:a0z (tb K) P w K mg base 12 2:=by
 have A:=a6N P w base X G c ct
 have A2:=a6N P w base X G c ct
 obtain ⟨fd,F⟩:=c.d.def_ 11 rfl
 exact A.step (d:=1) (by omega) (x:=.fn "_law_name") rfl ⟨He.glo_ok X G (c.d.fact 11 (f:=.glo "_law_name") rfl),F.kp⟩ (FunD.bindsN (ps:=["_law_bag_here"]) F (by walk_at "b1")) (a2g (a0t (i:=11) A2 (a2e X G c ct) (xok X G c) F c6H c4U (c5P c))) (a2f)
theorem c0p:a0z (tb K) P w K mg base 13 2:=by
 have A:=c0o P w base X G c ct
 have A2:=a6N P w base X G c ct
 obtain ⟨fd,F⟩:=c.d.def_ 12 rfl
 exact A.step (d:=1) (by omega) (x:=.fn "_law_one") rfl ⟨He.glo_ok X G (c.d.fact 12 (f:=.glo "_law_one") rfl),F.kp⟩ (FunD.bindsN (ps:=["_law_bag_here", "_law_names_here"]) F (by walk_at "b2")) (a2g (a0t (i:=12) A2 (a2e X G c ct) (xok X G c) F c6I c4V (c5Q c))) (a2f)
theorem c0q:a0z (tb K) P w K mg base 14 2:=by
 have A:=c0p P w base X G c ct
 have A2:=a6N P w base X G c ct
 obtain ⟨fd,F⟩:=c.d.def_ 13 rfl
 exact A.step (d:=1) (by omega) (x:=.fn "_law_fits") rfl ⟨He.glo_ok X G (c.d.fact 13 (f:=.glo "_law_fits") rfl),F.kp⟩ (FunD.bindsN (ps:=["_law_kind", "_law_thing"]) F (by walk_at "b2")) (a2g (a0t (i:=13) A2 (a2e X G c ct) (xok X G c) F c6J c4W (c5R c))) (a2f)
theorem c0r:a0z (tb K) P w K mg base 15 2:=by
 have A:=c0q P w base X G c ct
 have A2:=a6N P w base X G c ct
 obtain ⟨fd,F⟩:=c.d.def_ 14 rfl
 exact A.step (d:=1) (by omega) (x:=.fn "is_cost") rfl ⟨He.glo_ok X G (c.d.fact 14 (f:=.glo "is_cost") rfl),F.kp⟩ (FunD.bindsN (ps:=["thing"]) F (by walk_at "b1")) (a2g (a0t (i:=14) A2 (a2e X G c ct) (xok X G c) F c6K c4X (c5S c))) (a2f)
theorem c0s:a0z (tb K) P w K mg base 16 2:=by
 have A:=c0r P w base X G c ct
 have A2:=a6N P w base X G c ct
 obtain ⟨fd,F⟩:=c.d.def_ 15 rfl
 exact A.step (d:=1) (by omega) (x:=.fn "are_names") rfl ⟨He.glo_ok X G (c.d.fact 15 (f:=.glo "are_names") rfl),F.kp⟩ (FunD.bindsN (ps:=["thing"]) F (by walk_at "b1")) (a2g (a0t (i:=15) A2 (a2e X G c ct) (xok X G c) F c6L c4Y (c5T c))) (a2f)
theorem a8o:a0z (tb K) P w K mg base 17 2:=by
 have A:=c0s P w base X G c ct
 have A2:=a6N P w base X G c ct
 obtain ⟨fd,F⟩:=c.d.def_ 16 rfl
 exact A.step (d:=1) (by omega) (x:=.fn "_law_sign") rfl ⟨He.glo_ok X G (c.d.fact 16 (f:=.glo "_law_sign") rfl),F.kp⟩ (FunD.bindsN (ps:=["_law_bag_here"]) F (by walk_at "b1")) (a2g (a0t (i:=16) A2 (a2e X G c ct) (xok X G c) F c6M c4Z (c5U c))) (a2f)
theorem c0t:a0z (tb K) P w K mg base 18 3:=by
 have A:=a8o P w base X G c ct
 have A2:=a8o P w base X G c ct
 obtain ⟨fd,F⟩:=c.d.def_ 17 rfl
 exact A.step (d:=2) (by omega) (x:=.fn "_law_names") rfl ⟨He.glo_ok X G (c.d.fact 17 (f:=.glo "_law_names") rfl),F.kp⟩ (FunD.bindsN (ps:=["_law_bag_here", "_law_many"]) F (by walk_at "b2")) (a2g (a0t (i:=17) A2 (a2e X G c ct) (xok X G c) F c6N c40 (c5V c))) (a2f)
theorem c0u:a0z (tb K) P w K mg base 19 3:=by
 have A:=c0t P w base X G c ct
 have A2:=a8o P w base X G c ct
 obtain ⟨fd,F⟩:=c.d.def_ 18 rfl
 exact A.step (d:=2) (by omega) (x:=.fn "_law_any") rfl ⟨He.glo_ok X G (c.d.fact 18 (f:=.glo "_law_any") rfl),F.kp⟩ (FunD.bindsN (ps:=["_law_bag_here", "_law_world", "_law_word"]) F (by walk_at "b3")) (a2g (a0t (i:=18) A2 (a2e X G c ct) (xok X G c) F c6O c41 (c5W c))) (a2f)
theorem c0v:a0z (tb K) P w K mg base 20 3:=by
 have A:=c0u P w base X G c ct
 have A2:=a8o P w base X G c ct
 obtain ⟨fd,F⟩:=c.d.def_ 19 rfl
 exact A.step (d:=2) (by omega) (x:=.fn "_law_is_deed") rfl ⟨He.glo_ok X G (c.d.fact 19 (f:=.glo "_law_is_deed") rfl),F.kp⟩ (FunD.bindsN (ps:=["_law_thing"]) F (by walk_at "b1")) (a2g (a0t (i:=19) A2 (a2e X G c ct) (xok X G c) F c6P c42 (c5X c))) (a2f)
theorem c0w:a0z (tb K) P w K mg base 21 3:=by
 have A:=c0v P w base X G c ct
 have A2:=a8o P w base X G c ct
 obtain ⟨fd,F⟩:=c.d.def_ 20 rfl
 exact A.step (d:=2) (by omega) (x:=.fn "is_stretch") rfl ⟨He.glo_ok X G (c.d.fact 20 (f:=.glo "is_stretch") rfl),F.kp⟩ (FunD.bindsN (ps:=["thing"]) F (by walk_at "b1")) (a2g (a0t (i:=20) A2 (a2e X G c ct) (xok X G c) F c6Q c43 (c5Y c))) (a2f)
theorem a9b:a0z (tb K) P w K mg base 22 3:=by
 have A:=c0w P w base X G c ct
 have A2:=a8o P w base X G c ct
 obtain ⟨fd,F⟩:=c.d.def_ 21 rfl
 exact A.step (d:=2) (by omega) (x:=.fn "_law_word_spoilt") rfl ⟨He.glo_ok X G (c.d.fact 21 (f:=.glo "_law_word_spoilt") rfl),F.kp⟩ (FunD.bindsN (ps:=["_law_bag_here", "_law_text"]) F (by walk_at "b2")) (a2g (a0t (i:=21) A2 (a2e X G c ct) (xok X G c) F c6R c44 (c5Z c))) (a2f)
theorem c0x:a0z (tb K) P w K mg base 23 4:=by
 have A:=a9b P w base X G c ct
 have A2:=a9b P w base X G c ct
 obtain ⟨fd,F⟩:=c.d.def_ 22 rfl
 exact A.step (d:=3) (by omega) (x:=.fn "_law_stock") rfl ⟨He.glo_ok X G (c.d.fact 22 (f:=.glo "_law_stock") rfl),F.kp⟩ (FunD.bindsN (ps:=["_law_bag_here"]) F (by walk_at "b1")) (a2g (a0t (i:=22) A2 (a2e X G c ct) (xok X G c) F c6S c45 (c50 c))) (a2f)
theorem c0y:a0z (tb K) P w K mg base 24 4:=by
 have A:=c0x P w base X G c ct
 have A2:=a9b P w base X G c ct
 obtain ⟨fd,F⟩:=c.d.def_ 23 rfl
 exact A.step (d:=3) (by omega) (x:=.fn "_law_read") rfl ⟨He.glo_ok X G (c.d.fact 23 (f:=.glo "_law_read") rfl),F.kp⟩ (FunD.bindsN (ps:=["_law_text"]) F (by walk_at "b1")) (a2g (a0t (i:=23) A2 (a2e X G c ct) (xok X G c) F c6T c46 (c51 c))) (a2f)
theorem c0z:a0z (tb K) P w K mg base 25 4:=by
 have A:=c0y P w base X G c ct
 have A2:=a9b P w base X G c ct
 obtain ⟨fd,F⟩:=c.d.def_ 24 rfl
 exact A.step (d:=3) (by omega) (x:=.fn "part_fits") rfl ⟨He.glo_ok X G (c.d.fact 24 (f:=.glo "part_fits") rfl),F.kp⟩ (FunD.bindsN (ps:=["kind", "thing"]) F (by walk_at "b2")) (a2g (a0t (i:=24) A2 (a2e X G c ct) (xok X G c) F c6U c47 (c52 c))) (a2f)
theorem b57:a0z (tb K) P w K mg base 26 4:=by
 have A:=c0z P w base X G c ct
 have A2:=a9b P w base X G c ct
 obtain ⟨fd,F⟩:=c.d.def_ 25 rfl
 exact A.step (d:=3) (by omega) (x:=.fn "_law_spoilt") rfl ⟨He.glo_ok X G (c.d.fact 25 (f:=.glo "_law_spoilt") rfl),F.kp⟩ (FunD.bindsN (ps:=["_law_bag_here", "_law_text"]) F (by walk_at "b2")) (a2g (a0t (i:=25) A2 (a2e X G c ct) (xok X G c) F c6V c48 (c53 c))) (a2f)
theorem b58:a0z (tb K) P w K mg base 27 5:=by
 have A:=b57 P w base X G c ct
 have A2:=b57 P w base X G c ct
 obtain ⟨fd,F⟩:=c.d.def_ 26 rfl
 exact A.step (d:=4) (by omega) (x:=.fn "is_deed") rfl ⟨He.glo_ok X G (c.d.fact 26 (f:=.glo "is_deed") rfl),F.kp⟩ (FunD.bindsN (ps:=["thing"]) F (by walk_at "b1")) (a2g (a0t (i:=26) A2 (a2e X G c ct) (xok X G c) F c6W c49 (c54 c))) (a2f)
theorem b59:a0z (tb K) P w K mg base 28 6:=by
 have A:=b58 P w base X G c ct
 have A2:=b58 P w base X G c ct
 obtain ⟨fd,F⟩:=c.d.def_ 27 rfl
 exact A.step (d:=5) (by omega) (x:=.fn "read_deed") rfl ⟨He.glo_ok X G (c.d.fact 27 (f:=.glo "read_deed") rfl),F.kp⟩ (FunD.bindsN (ps:=["text"]) F (by walk_at "b1")) (a2g (a0t (i:=27) A2 (a2e X G c ct) (xok X G c) F c6X c5a (c55 c))) (a2f)
theorem b6a:a0z (tb K) P w K mg base 29 7:=by
 have A:=b59 P w base X G c ct
 have A2:=b59 P w base X G c ct
 obtain ⟨fd,F⟩:=c.d.def_ 28 rfl
 exact A.step (d:=6) (by omega) (x:=.fn "_law_told") rfl ⟨He.glo_ok X G (c.d.fact 28 (f:=.glo "_law_told") rfl),F.kp⟩ (FunD.bindsN (ps:=["_law_text"]) F (by walk_at "b1")) (a2g (a0t (i:=28) A2 (a2e X G c ct) (xok X G c) F c6Y c5b (c56 c))) (a2f)
theorem c0A:a0z (tb K) P w K mg base 30 8:=by
 have A:=b6a P w base X G c ct
 have A2:=b6a P w base X G c ct
 obtain ⟨fd,F⟩:=c.d.def_ 29 rfl
 exact A.step (d:=7) (by omega) (x:=.fn "_law_right") rfl ⟨He.glo_ok X G (c.d.fact 29 (f:=.glo "_law_right") rfl),F.kp⟩ (FunD.bindsN (ps:=["_law_text"]) F (by walk_at "b1")) (a2g (a0t (i:=29) A2 (a2e X G c ct) (xok X G c) F c6Z c5c (c57 c))) (a2f)
end
theorem facts {f:Addr} (X:K.In h) (G:h.Ns mainGlobals mg) (hfa:mg ("law" : Str)=some (.ref f)) (c:SaysX fa fn fx K) (ct:a2c tbs w K) :
  ∃ fd:FuncData,(∀ (s:Shared) (v:Value),BindsTo s fd ⟨[v],[]⟩ [("_law_script",v)])∧∀ base:Heap,K.In base→base.Ns mainGlobals mg→FnG P w K mg base false 20 f fd ["_law_script"] (spD ⟨K⟩ (lawT 63)):=by
 obtain ⟨fd,F⟩:=c.d.def_ 30 rfl
 have e:=hfa.symm.trans (He.glo_ok X G (c.d.fact 30 (f:=.glo "law") rfl))
 cases e
 have b:=FunD.bindsA (ps:=["_law_script"]) F fun _ _ _ _ _ _ us hl=>match us,hl with | [_],_=>rfl
 refine ⟨fd,fun s v=>b s [v] rfl,fun base _ _=>?_⟩
 exact a0t (t:=tb K) (i:=30) (d:=8) (show a0z (tb K) P w K mg base ((tb K).lo 30) 8 from c0A P w base X G c ct) (a2e X G c ct) (xok X G c) F c60 c5d (c58 c)
end
end Cl
open PySem PySem.W PySem.Calls PyProof.Rows
theorem PySem.Challenge.cw_stillmain_k82_texts_refused_holds : PySem.Challenge.rw_stillmain_k82_texts_refused.Holds := by
 exact Cl.whole fun X G hfa c ct=>Cl.facts X G hfa c ct
