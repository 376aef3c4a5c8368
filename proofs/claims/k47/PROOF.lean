import PyProof.Rows.All
import Wide.All
import OpenK.AllK
import Wide.FinOn
import KE.KStateDown
import HandS.ForMost
import HandS.Exc
import HandS.ExcOwn
import HandS.Head0
import HandS.Head1
import HandS.Head2
import HandS.HeadEnd
import HandS.HeadHook1
import HandS.HeadHook2
import HandS.HeadHook3
import HandS.Defaults
import HandS.Ends
import HandS.HotCalls
import HandS.Wide
import HandS.Flow
import HandS.Deep
import HandS.TupAny
import HandS.IsInst
import HandS.Text
import HandS.WordsDict
import HandS.Style
import PyProof.ReprRoads
import PyProof.ReprBulk
import KE.KIntText
import HandS.Conv
import HandS.More
import HandS.ListItems
import HandS.ExcInit
import HandS.ExcInitHot
import KE.KDictList
import HandS.SetKeys
import KE.DataFind
import HandS.SetTxt0
import HandS.Set
import HandS.SetFor
import HandS.Strs
import KE.DataMinMax
import KE.SortData
import KE.GoesEnum
import HandS.Iter
import KE.GoesZip
import KE.GoesMore
import HandS.Codes
import HandS.Comp
import HandS.ForList
import HandS.ExcIs
import HandS.ExcField
import KE.KIsAll
import HandS.Small
import PyProof.FitsInt
import PyProof.ReprRoom
import Lean
import PySem.Challenge.RW_stillmain_k47_no_part
import KE.DatumOrd
set_option Elab.async false
set_option linter.all false
set_option maxRecDepth 100000
set_option maxHeartbeats 0
def zag:=@List.length_map
def zah:=@decide_eq_true_eq
def zai:=@PySem.sizeLine_eq
def zaj:=@List.mem_singleton
def zak:=@Bool.and_eq_true
def zal:=@List.mem_cons_self
def zam:=@Option.map_eq_some_iff
def zan:=@List.mem_map
def zao:=@List.mem_cons_of_mem
def zap:=@List.mem_append
def zaq:=@List.mem_of_getElem?
def zar:=@List.mem_append_left
def zas:=@List.mem_append_right
def zat:=@List.map_map
def zau:=@List.mem_cons
def zav:=@List.map_append
def zaw:=@List.length_append
def zax:=@List.map_cons
def zay:=@List.mem_filter
def zaz:=@List.length_cons
def zba:=@List.not_mem_nil
def zbb:=@List.length_filter_le
def zbc:=@List.filter_eq_self
def zbd:=@List.nodup_cons
def zbe:=@Bool.false_ne_true
def zbf:=@decide_eq_false
def zbg:=@decide_eq_true
def zbh:=@List.getElem?_map
def zbi:=@List.getElem?_eq_getElem
abbrev zbj:=PySem.W.Frag
namespace Qt
def Put (p:Prop):Prop:=p
theorem put_in {p:Prop} (h:Put p):p:=h
theorem keep {p:Prop} (h:p):p:=h
theorem put_off {p:Prop} (h:p):Put p=True:=eq_true h
end Qt
noncomputable section
namespace Sv
open PySem PySem.Spec PyProof.Rows L2 PySem.W PySem.Calls
inductive Fx where
 | oex (x:Str) | ini (x:Str) | bas (x:Str) | exf (x:Str) | insf (x:Str) | nov (x f:Str)
 | kit (x y:Str) (b:Bool) | kitT (x:Str) (n:String) (b:Bool)
 | exfs (xs:List Str) | sib (xs:List Str) | veT (xs:List Str) (n:String) | exA (xs:List Str) (y:Str)
def b8S (K:Frag) (C:Addr):Bool:=(match K.lookup C with
 | some ⟨.type "type",_,.cls cd,sl⟩=>(match cd.mro,sl.toList with
  | .ref C' :: bm,[_,_,_,_,some (.builtin n),_]=>decide (C'=C) && decide (n = "ValueError.__new__") && !cd.hasDel && cd.hasDict && PySem.HandSPX.refsVE bm
  | _,_=>false)
 | _=>false) && (He.eqO (findIn K (.ref C) "__setattr__") (some (some (.builtin "object.__setattr__"))) && (decide (subIn K (.ref C) (.type "BaseException")=some true) && (decide (typeIn K (.ref C)=some (.type "type")) && keepIn K (.ref C))))
def cvB (r:Option CFound) (v:Value):Bool:=match r with
 | some (.val u)=>decide (u=v)
 | _=>false
def c1i (K:Frag) (x:Str):Bool:=He.eqO (findIn K (.ref (He.ga K x)) "__getattribute__") (some (some (.builtin "BaseException.__getattribute__"))) && (He.eqO (findIn K (.ref (He.ga K x)) "__getattr__") (some none) && (decide (subIn K (.ref (He.ga K x)) (.type "BaseException")=some true) && (hasDictIn K (He.ga K x) &&
   (He.eqO (findIn K (.ref (He.ga K x)) "__class__") (some (some (.builtin "object.__class__"))) && (He.eqO (specialIn K (.builtin "object.__class__") "__get__") (some (some (.builtin "getset_descriptor.__get__"))) && (decide (takesIn K (.builtin "object.__class__")=some true) && decide (mroIn K (He.ga K x) (.type "object")=some true)))))))
def Fx.ok (K:Frag):Fx→Bool
 | .oex x=>b8S K (He.ga K x)
 | .ini x=>He.eqO (findIn K (.ref (He.ga K x)) "__init__") (some (some (.ref (He.ma K (He.ga K x) "__init__")))) && decide (typeIn K (.ref (He.ma K (He.ga K x) "__init__"))=some (.type "function"))
 | .bas x=>readsIn K (He.ga K x) (.type "type") && (He.eqO (specialIn K (.ref (He.ga K x)) "__getattribute__") (some (some (.builtin "type.__getattribute__"))) && cvB (findCls K (.ref (He.ga K x)) (.type "type") "__init__") (.builtin "ValueError.__init__"))
 | .exf x=>c1i K x
 | .exfs xs=>xs.all (c1i K)
 | .insf x=>He.eqO (findIn K (.ref (He.ga K x)) "__class__") (some (some (.builtin "object.__class__"))) && (He.eqO (specialIn K (.builtin "object.__class__") "__get__") (some (some (.builtin "getset_descriptor.__get__"))) && (decide (takesIn K (.builtin "object.__class__")=some true) && (decide (mroIn K (He.ga K x) (.type "object")=some true) && decide (kitOne K (.ref (He.ga K x)) (.ref (He.ga K x))=some true))))
 | .nov x f=>He.eqO (findIn K (.ref (He.ga K x)) f) (some none)
 | .kit x y b=>decide (kitOne K (.ref (He.ga K x)) (.ref (He.ga K y))=some b)
 | .kitT x n b=>decide (kitOne K (.ref (He.ga K x)) (.type n)=some b)
 | .sib xs=>xs.all fun x=>xs.all fun y=>decide (kitOne K (.ref (He.ga K x)) (.ref (He.ga K y))=some (decide (x=y)))
 | .veT xs n=>xs.all fun x=>decide (kitOne K (.ref (He.ga K x)) (.type n)=some true)
 | .exA xs y=>xs.all fun x=>decide (exmOne K (.ref (He.ga K x)) (.ref (He.ga K y))=some true)
abbrev AlX:Type:=He.AlD × Bool
def foL {β:Type} {α:Type} (f:{α:Type}→β→(β→α)→α) (l:List β):(List β→α)→α :=
 List.rec (motive:=fun _=>(List β→α)→α) (fun k=>k []) (fun a _ ih k=>f a fun a=>ih fun r=>k (a :: r)) l
def foN {α:Type} (n:Nat) (k:Nat→α):α:=HandSHeadRun.frNat n k
def foS {α:Type} (s:Str) (k:Str→α):α:=match s with
 | ⟨⟨l⟩⟩=>foL foN l fun l=>k ⟨⟨l⟩⟩
def foV {α:Type} (v:Value) (k:Value→α):α:=match v with
 | .ref a=>foN a fun a=>k (.ref a)
 | .str s t=>foS s fun s=>k (.str s t)
 | .none=>k .none
 | .ellipsis=>k .ellipsis
 | .notImplemented=>k .notImplemented
 | .bool b=>k (.bool b)
 | .int i t=>k (.int i t)
 | .float b t=>k (.float b t)
 | .bytes b t=>k (.bytes b t)
 | .type n=>k (.type n)
 | .builtin n=>k (.builtin n)
def foE {α:Type} (e:DictEntry) (k:DictEntry→α):α:=match e with
 | ⟨h,x,v⟩=>foV x fun x=>foV v fun v=>k ⟨h,x,v⟩
def foD {α:Type} (d:Data) (k:Data→α):α:=match d with
 | .dict ⟨es⟩ n=>foL foE es fun es=>k (.dict ⟨es⟩ n)
 | .seq ⟨es⟩ n=>foL foV es fun es=>k (.seq ⟨es⟩ n)
 | .cls ⟨a1,a2,mro,ns,a3,a4,a5,a6,a7,a8,a9⟩=>foL foV mro fun mro=>foN ns fun ns=>k (.cls ⟨a1,a2,mro,ns,a3,a4,a5,a6,a7,a8,a9⟩)
 | .func ⟨n1,n2,n3,n4,n5,n6,n7,n8,n9,n10,n11,n12,n13,n14,n15⟩=>foN n6 fun n6=>foV n8 fun n8=>foV n9 fun n9=>foV n13 fun n13=>foN n15 fun n15=>k (.func ⟨n1,n2,n3,n4,n5,n6,n7,n8,n9,n10,n11,n12,n13,n14,n15⟩)
 | .plain=>k .plain
 | .prim v=>k (.prim v)
 | .set a b c=>k (.set a b c)
 | .bytearray a b=>k (.bytearray a b)
 | .cell v=>k (.cell v)
 | .fields ⟨es⟩=>foL foV es fun es=>k (.fields ⟨es⟩)
 | .freed=>k .freed
def foO {α:Type} (o:Obj) (k:Obj→α):α:=match o with
 | ⟨c,d,dt,sl⟩=>foV c fun c=>foD dt fun dt=>k ⟨c,d,dt,sl⟩
def codeS (x:Str):Nat:=x.cps.toList.foldl (fun n c=>Nat.add (Nat.mul 256 n) c) 1
abbrev Tab:Type:=List (Addr × Option (List (Nat × DictEntry)))
def a2Q (e:DictEntry):Nat:=match e.key with
 | .str x _=>codeS x
 | _=>0
def foC {α:Type} (es:List DictEntry):(List (Nat × DictEntry)→α)→α :=
 List.rec (motive:=fun _=>(List (Nat × DictEntry)→α)→α) (fun k=>k []) (fun e _ ih k=>foN (a2Q e) fun n=>ih fun r=>k ((n,e) :: r)) es
def foP {α:Type} (o:Obj) (k:Option (List (Nat × DictEntry))→α):α:=match o with
 | ⟨_,_,.dict ⟨es⟩ _,_⟩=>foC es fun l=>k (some l)
 | _=>k none
def foT {α:Type} (K:Frag):(Tab→α)→α :=
 List.rec (motive:=fun _=>(Tab→α)→α) (fun k=>k []) (fun p _ ih k=>match p with
  | (a,o)=>foP o fun t=>ih fun T=>k ((a,t) :: T)) K
def a1l {β:Type} (l:List (Nat × β)) (a:Nat):Option β :=
 List.rec none (fun p _ ih=>match p with
  | (b,v)=>match Nat.beq a b with
   | true=>some v
   | false=>ih) l
def a7q (c:Nat) (x:Str) (l:List (Nat × DictEntry)):Option DictEntry :=
 List.rec none (fun p _ ih=>match p with
  | (n,e)=>match Nat.beq n c with
   | true=>(match e.key.isStr x with
    | true=>some e
    | false=>ih)
   | false=>ih) l
section
variable {α:Type} (g:Addr→Option Obj)
def b1b (l:List Addr):Nat→List Addr→(Nat→List Addr→α)→α :=
 List.rec (motive:=fun _=>Nat→List Addr→(Nat→List Addr→α)→α) (fun m f k=>k m f) (fun a _ ih m f k=>match Nat.beq (Nat.land (Nat.shiftRight m a) 1) 0 with
  | true=>foN a fun a=>foN (Nat.lor m (Nat.shiftLeft 1 a)) fun m=>ih m (a :: f) k
  | false=>ih m f k) l
end
section
variable {α:Type} (g:Addr→Option Obj)
def a3H (l:List Addr):Nat→List Addr→Frag→(Nat→List Addr→Frag→α)→α :=
 List.rec (motive:=fun _=>Nat→List Addr→Frag→(Nat→List Addr→Frag→α)→α) (fun m f K k=>k m f K) (fun a _ ih m f K k=>match g a with
  | none=>ih m f K k
  | some o=>foO o fun o=>b1b (He.refsD o) m f fun m f=>ih m f ((a,o) :: K) k) l
end
section
variable {α:Type} (g:Addr→Option Obj)
def b0F:Nat→List Addr→Nat→Frag→(Frag→α)→α
 | 0,l,m,K,k=>a3H g l m [] K fun _ _ K=>k K
 | n + 1,l,m,K,k=>a3H g l m [] K fun m f K=>b0F n f m K k
end
section
variable {α:Type} (g:Addr→Option Obj)
def b2b (n:Nat) (k:Frag→α):α:=b0F g n [mainGlobals,cStatics] (Nat.lor (Nat.shiftLeft 1 mainGlobals) (Nat.shiftLeft 1 cStatics)) [] fun K=>k K.reverse
end
inductive Cw where
 | str (z:Str) | tup (zs:List Str)
abbrev TbW:Type:=Str × List (Str × Cw)
def b8w:List Value→List Str→Bool
 | [],[]=>true
 | .str x _ :: vs,z :: zs=>decide (x=z) && b8w vs zs
 | _,_=>false
def cwB (K:Frag) (v:Cw) (u:Value):Bool:=match v with
 | .str z=>(match u with
  | .str x _=>decide (x=z)
  | _=>false)
 | .tup zs=>(match u with
  | .ref a=>(match K.lookup a with
   | some ⟨.type c,_,.seq its _,_⟩=>decide (c = "tuple") && (decide (its.size≤1000) && b8w its.toList zs)
   | _=>false)
  | _=>false)
def c7R (K:Frag) (t:TbW):Bool:=t.2.all fun q=>match nsIn K (He.ga K t.1) q.1 with
 | some (some u)=>cwB K q.2 u
 | _=>false
def a2H (ts:List TbW) (K:Frag):Bool × List (Option (List (Option (Str × Int)))):=(ts.all (c7R K),ts.map fun t=>He.dicW K (He.ga K t.1))
def a1V (ts:List TbW) (w:World):Bool × List (Option (List (Option (Str × Int)))):=(true,ts.map fun t=>some (He.keysIn w.params (t.2.map (·.1))))
abbrev AlT:Type:=AlX × (Bool × List (Option (List (Option (Str × Int)))))
section
open HandSHeadRun
abbrev ROW:String := "special-get-raises"
end
section
variable (L:Addr→Option Obj) (K:Frag) (N:Addr→Str→Option (Option Value))
def gaM (x:Str):Addr:=match N mainGlobals x with
 | some (some (.ref a))=>a
 | _=>0
end
section
variable (L:Addr→Option Obj) (K:Frag) (N:Addr→Str→Option (Option Value))
def c3W (name:Str):Value→Option (Option Value)
 | .type n=>some (fastBuiltinOwn n name)
 | .ref a=>(match L a with
   | some ⟨_,_,.cls cd,_⟩=>N cd.ns name
   | _=>none)
 | _=>some none
end
section
variable (L:Addr→Option Obj) (K:Frag) (N:Addr→Str→Option (Option Value))
def a7Y (name:Str):List Value→Option (Option Value)
 | []=>some none
 | c :: r=>match c3W L N name c with
  | some (some v)=>some (some v)
  | some none=>a7Y name r
  | none=>none
end
section
variable (L:Addr→Option Obj) (K:Frag) (N:Addr→Str→Option (Option Value))
def a7r (t:Value) (name:Str):Option (Option Value):=match t with
 | .type n=>fastLookup n name
 | .ref a=>(match L a with
   | some ⟨_,_,.cls cd,_⟩=>a7Y L N name cd.mro
   | _=>none)
 | _=>none
end
section
variable (L:Addr→Option Obj) (K:Frag) (N:Addr→Str→Option (Option Value))
def maM (C:Addr) (m:Str):Addr:=match a7r L N (.ref C) m with
 | some (some (.ref a))=>a
 | _=>0
end
section
variable (L:Addr→Option Obj) (K:Frag) (N:Addr→Str→Option (Option Value))
def b8R (p:Str × Option Str):Addr:=match p.2 with
 | none=>gaM N p.1
 | some m=>maM L N (gaM N p.1) m
end
section
variable (L:Addr→Option Obj) (K:Frag) (N:Addr→Str→Option (Option Value))
def keepM (a:Addr):Bool:=match L a with
 | some ⟨_,_,.func _,_⟩=>true
 | some ⟨_,_,.cls _,_⟩=>specialIn K (.ref a) "__call__" == some (some (.builtin "type.__call__"))
 | _=>false
end
section
variable (L:Addr→Option Obj) (K:Frag) (N:Addr→Str→Option (Option Value))
def c0V (cd:Value) (q:Str):Bool:=match cd with
 | .ref c=>(match L c with
   | some ⟨_,_,.fields vs,_⟩=>(match vs.toList with | _ :: .str n _ :: _=>n == q | _=>false)
   | _=>false)
 | _=>false
end
section
variable (L:Addr→Option Obj) (K:Frag) (N:Addr→Str→Option (Option Value))
def c1x (a:Addr):Bool:=(L a).map (·.cls) == some (.type "function")
end
section
variable (L:Addr→Option Obj) (K:Frag) (N:Addr→Str→Option (Option Value))
def faM:He.Fa→Bool
 | .glo x=>He.eqO (N mainGlobals x) (some (some (.ref (gaM N x))))
 | .free x=>He.eqO (N mainGlobals x) (some none)
 | .int x i=>(match N mainGlobals x with
  | some (some (.int j _))=>decide (j=i)
  | _=>false)
 | .str x z=>(match N mainGlobals x with
  | some (some (.str y _))=>decide (y=z)
  | _=>false)
 | .cls x=>plainGet K (gaM N x) Str.empty && (hasDictIn K (gaM N x) && (plainOver K (gaM N x) && He.eqO (findIn K (.ref (gaM N x)) "__setattr__") (some (some (.builtin "object.__setattr__")))))
 | .noat x f=>He.eqO (a7r L N (.ref (gaM N x)) f) (some none)
 | .meth x m=>He.eqO (a7r L N (.ref (gaM N x)) m) (some (some (.ref (maM L N (gaM N x) m)))) && (c1x L (maM L N (gaM N x) m) && keepM L K (maM L N (gaM N x) m))
 | f=>f.ok K
end
section
variable (L:Addr→Option Obj) (K:Frag) (N:Addr→Str→Option (Option Value))
def okM (d:He.DefD) (a:Addr):Bool:=keepM L K a && (match L a with
 | some ⟨_,_,.func fd,_⟩=>c0V L fd.code d.qual && (He.dflB K fd.defaults (d.dvs K) && He.kwdB K fd.kwdefaults (d.kws K))
 | _=>false)
end
section
variable (L:Addr→Option Obj) (K:Frag) (N:Addr→Str→Option (Option Value))
def fnM (a:Addr):He.FnW:=match L a with
 | some ⟨_,_,.func fd,_⟩=>some (fd.name,fd.qualname,fd.params,fd.body,fd.scope,fd.globals,fd.closure,fd.builtins)
 | _=>none
end
section
variable (L:Addr→Option Obj) (K:Frag) (N:Addr→Str→Option (Option Value))
def fxM:Fx→Bool
 | .oex x=>b8S K (gaM N x)
 | .ini x=>He.eqO (a7r L N (.ref (gaM N x)) "__init__") (some (some (.ref (maM L N (gaM N x) "__init__")))) && decide (typeIn K (.ref (maM L N (gaM N x) "__init__"))=some (.type "function"))
 | .nov x f=>He.eqO (a7r L N (.ref (gaM N x)) f) (some none)
 | .kit x y b=>decide (kitOne K (.ref (gaM N x)) (.ref (gaM N y))=some b)
 | .kitT x n b=>decide (kitOne K (.ref (gaM N x)) (.type n)=some b)
 | .sib xs=>xs.all fun x=>xs.all fun y=>decide (kitOne K (.ref (gaM N x)) (.ref (gaM N y))=some (decide (x=y)))
 | .veT xs n=>xs.all fun x=>decide (kitOne K (.ref (gaM N x)) (.type n)=some true)
 | .exA xs y=>xs.all fun x=>decide (exmOne K (.ref (gaM N x)) (.ref (gaM N y))=some true)
 | f=>f.ok K
end
section
variable (L:Addr→Option Obj) (K:Frag) (N:Addr→Str→Option (Option Value))
def c1M (fa:List He.Fa) (fn:List He.DefD) (fx:List Fx):AlX:=(((fa.all fun f=>faM L K N f) && fn.all fun d=>okM L K d (b8R L N d.at_),fn.map fun d=>fnM L (b8R L N d.at_)),fx.all fun f=>fxM L K N f)
end
def a7s (g:Addr→Option Obj) (n:Nat):Frag:=(List.range n).filterMap fun a=>(g a).map fun o=>(a,o)
def nsU (T:Tab) (K:Frag) (ns:Addr) (x:Str):Option (Option Value):=match a1l T ns with
 | some (some l)=>foN (codeS x) fun c=>(match a7q c x l with
  | some e=>some (some e.val)
  | none=>if l.any (fun p=>p.2.refKey) then none else some none)
 | _=>nsIn K ns x
def b4K (n N:Nat) (fa:List He.Fa) (fn:List He.DefD) (fx:List Fx) (ts:List TbW) (g:Addr→Option Obj):AlT :=
 b2b g n fun K=>foT K fun T=>(c1M g (K ++ a7s g N) (nsU T (K ++ a7s g N)) fa fn fx,a2H ts (K ++ a7s g N))
section
open HandSHeadRun
def b3s (r:OpenRow) (M:Nat) (b:Bool) (w:World):Prop :=
 ∀ os:OsState,(endF (stepQ (denQ tabQ) r.prog (w.withFollow ROW b)) M r.prog w os).map (fun s=>looksF r.prog (boot_heap w.params) s.abs)=some true
end
section
open HandSHeadRun
def b3t (r:OpenRow) (q:Program) (M:Nat) (loose:List Str) (b:Bool) (w:World):Prop :=
 ∀ os:OsState,(endF (stepQ (denQ tabQ) r.prog (w.withFollow ROW b)) M r.prog w os).map (fun s=>seenQ q loose (importedModules r.prog.main.body) (fun s=>xlAt q [] s && recOk r.toRowW.records s) s.abs)=some (openGood q loose)
end
section
open HandSHeadRun
def b3u (r:OpenRow) (M n:Nat) (fa:List He.Fa) (fn:List He.DefD) (fx:List Fx) (ts:List TbW) (b:Bool) (w:World):Prop :=
 ∀ os:OsState,(endF (stepQ (denQ tabQ) r.prog (w.withFollow ROW b)) M r.prog w os).map (fun s=>b4K n s.n fa fn fx ts (getT s))=some ((He.valD fn,true),a1V ts w)
end
end Sv
end
namespace Sv
open PySem PySem.Spec PyProof.Rows L2
inductive D where
 | non | bl (b:Bool) | int (i:Int) | str (x:Str)
 | lst (xs:List D) | tup (xs:List D) | dic (kvs:List (Key × D))
 | obj (a:Addr) | exc (a:Addr) (oe:Obj) (C:Addr) (fs:List (Str × D))
 | err (a C:Addr) (fs:List (Str × D)) (bare:Bool)
inductive Cell where
 | lst (xs:List D) | dic (kvs:List (Key × D)) | loc (kvs:List (Key × D)) | ins (C:Addr) (fs:List (Str × D))
abbrev SS:=Addr→Option Cell
def SS.set (S:SS) (a:Addr) (c:Cell):SS:=fun b=>if b=a then some c else S b
def SS.del (S:SS) (a:Addr):SS:=fun b=>if b=a then none else S b
theorem zab {S:SS} {a:Addr} {c:Cell}:S.set a c a=some c:=if_pos rfl
theorem zaa {S:SS} {a b:Addr} {c:Cell} (h:b≠a):S.set a c b=S b:=if_neg h
theorem SS.del_same {S:SS} {a:Addr}:S.del a a=none:=if_pos rfl
theorem SS.del_ne {S:SS} {a b:Addr} (h:b≠a):S.del a b=S b:=if_neg h
theorem zac {S:SS} {p:Addr} {x y:Cell}:(S.set p x).set p y=S.set p y:=by
 funext q
 unfold SS.set
 by_cases h:q=p
 ·rw [if_pos h,if_pos h]
 ·rw [if_neg h,if_neg h,if_neg h]
theorem SS.set_id {S:SS} {p:Addr} {x:Cell} (h:S p=some x):S.set p x=S:=by
 funext q
 unfold SS.set
 by_cases e:q=p
 ·rw [if_pos e,e,h]
 ·rw [if_neg e]
theorem zae {S:SS} {a b:Addr} {x y:Cell} (h:a≠b):(S.set a x).set b y=(S.set b y).set a x:=by
 funext q
 unfold SS.set
 by_cases h1:q=b
 ·have h2:q≠a:=fun e=>h (e.symm.trans h1)
  rw [if_pos h1,if_neg h2,if_pos h1]
 ·rw [if_neg h1]
  by_cases h2:q=a
  ·rw [if_pos h2,if_pos h2]
  ·rw [if_neg h2,if_neg h2,if_neg h1]
theorem zaf {S:SS} {p:Addr} {x:Cell} (h:S p=none):(S.set p x).del p=S:=by
 funext q
 unfold SS.set SS.del
 by_cases e:q=p
 ·simp [e,h]
 ·simp [e]
theorem SS.set_del {S:SS} {p:Addr} {x:Cell}:(S.set p x).del p=S.del p:=by
 funext q
 unfold SS.set SS.del
 by_cases e:q=p
 ·simp [e]
 ·simp [e]
theorem zad {S:SS} {a b:Addr} {c:Cell} (h:S a=some c) (h2:S b=none):a≠b:=fun e=>by rw [e,h2] at h;cases h
structure Gd where
 K:zbj
abbrev noH:Hp:=fun _=>none
def LstAt (g:Gd) (S:SS) (H:Hp) (p:Addr) (vs:List V):Prop:=(S p=none∧Rd H p (.lst vs))∨SqL g.K noH p vs
def TupAt (g:Gd) (S:SS) (H:Hp) (p:Addr) (vs:List V):Prop:=(S p=none∧H p=some (.tup vs))∨SqT g.K noH p vs
def b3n (H:Hp) (a C:Addr) (d:Option Addr) (bare:Bool):Prop:=∃ φ:Heap→Prop,H a=some (.ext φ)∧∀ h,φ h→∃ oe,h.get? a=some oe∧Zc (.ref C) d oe∧∃ vs,oe.data=.fields vs∧(bare=true→d=none∧∃ t0,vs[0]?=some (.ref t0)∧h.TupAt t0 [])
mutual
def Rep (g:Gd) (S:SS) (H:Hp):D→V→Prop
 | .non,v=>v=.non
 | .bl b,v=>v=.bl b
 | .int i,v=>v=.int i
 | .str x,v=>v=.str x
 | .lst ds,v=>∃ p vs,v=.ref p∧LstAt g S H p vs∧a0i g S H ds vs
 | .tup ds,v=>∃ p vs,v=.ref p∧TupAt g S H p vs∧a0i g S H ds vs
 | .dic kvs,v=>∃ p ws,v=.ref p∧S p=none∧H p=some (.dK ws)∧a0V g S H kvs ws
 | .obj a,v=>v=.ref a
 | .exc a oe C fs,v=>∃ d,v=.ref a∧(Zc (.ref C) d oe∧∃ vs,oe.data=.fields vs)∧((d=none∧fs=[])∨∃ dd ws,d=some dd∧S dd=none∧H dd=some (.xd ws)∧a2x g S H fs ws)
 | .err a C fs bare,v=>∃ d,v=.ref a∧S a=none∧b3n H a C d bare∧((d=none∧fs=[])∨∃ dd ws,d=some dd∧S dd=none∧H dd=some (.xd ws)∧a2x g S H fs ws)
def a0i (g:Gd) (S:SS) (H:Hp):List D→List V→Prop
 | [],vs=>vs=[]
 | d :: ds,vs=>∃ v r,vs=v :: r∧Rep g S H d v∧a0i g S H ds r
def a0V (g:Gd) (S:SS) (H:Hp):List (Key × D)→List (Key × V)→Prop
 | [],ws=>ws=[]
 | (k,d) :: r,ws=>∃ v q,ws=(k,v) :: q∧Rep g S H d v∧a0V g S H r q
def a2x (g:Gd) (S:SS) (H:Hp):List (Str × D)→List (Str × V)→Prop
 | [],ws=>ws=[]
 | (k,d) :: r,ws=>∃ v q,ws=(k,v) :: q∧Rep g S H d v∧a2x g S H r q
end
structure PostW (S:SS) (H:Hp) (S':SS) (H':Hp):Prop where
 kp:∀ p o,S p=none→H p=some o→H' p=some o
 fr:∀ a,S' a≠none→S a≠none∨H a=none
structure a0h (S:SS) (H:Hp) (S':SS) (H':Hp):Prop extends PostW S H S' H' where
 lk:∀ p k o,S p=some (.loc k)→H p=some o→S' p=some (.loc k)∧H' p=some o
def Cell.free:Cell→Bool
 | .loc _=>false | _=>true
theorem a0h.refl (S:SS) (H:Hp):a0h S H S H:=⟨⟨fun _ _ _ h=>h,fun _ h=>.inl h⟩,fun _ _ _ h q=>⟨h,q⟩⟩
theorem PostW.none_of {S:SS} {H:Hp} {S':SS} {H':Hp} (P:PostW S H S' H') {p:Addr} {o:HO} (h:S p=none) (e:H p=some o):S' p=none:=by
 cases q:S' p with
 | none=>rfl
 | some c =>
  rcases P.fr p (by rw [q];exact fun z=>nomatch z) with z | z
  ·exact absurd h z
  ·rw [e] at z;cases z
theorem PostW.trans {S:SS} {H:Hp} {S1:SS} {H1:Hp} {S2:SS} {H2:Hp} (a:PostW S H S1 H1) (b:PostW S1 H1 S2 H2):PostW S H S2 H2:=by
 refine ⟨fun p o h e=>b.kp p o (a.none_of h e) (a.kp p o h e),fun x h=>?_⟩
 rcases b.fr x h with z | z
 ·exact a.fr x z
 ·cases q:S x with
  | some c=>exact .inl (fun z=>nomatch z)
  | none =>
   cases r:H x with
   | none=>exact .inr rfl
   | some o =>
    rw [a.kp x o q r] at z
    cases z
theorem a0h.trans {S:SS} {H:Hp} {S1:SS} {H1:Hp} {S2:SS} {H2:Hp} (a:a0h S H S1 H1) (b:a0h S1 H1 S2 H2):a0h S H S2 H2 :=
 ⟨a.toPostW.trans b.toPostW,fun p k o h e=>have ⟨h1,e1⟩:=a.lk p k o h e;b.lk p k o h1 e1⟩
section
variable {g:Gd} {S S':SS} {H H':Hp}
theorem Rd.kpW {p:Addr} {u:HO} (P:PostW S H S' H') (h:S p=none) (r:Rd H p u):Rd H' p u:=by
 rcases r with r | ⟨o,r⟩
 ·exact .inl (P.kp _ _ h r)
 ·exact .inr ⟨o,P.kp _ _ h r⟩
theorem Rd.none'W {p:Addr} {u:HO} (P:PostW S H S' H') (h:S p=none) (r:Rd H p u):S' p=none:=by
 rcases r with r | ⟨o,r⟩
 ·exact P.none_of h r
 ·exact P.none_of h r
theorem LstAt.monoW {p:Addr} {vs:List V} (P:PostW S H S' H') (h:LstAt g S H p vs):LstAt g S' H' p vs:=by
 rcases h with ⟨h,r⟩ | h
 ·exact .inl ⟨Rd.none'W P h r,Rd.kpW P h r⟩
 ·exact .inr h
theorem TupAt.monoW {p:Addr} {vs:List V} (P:PostW S H S' H') (h:TupAt g S H p vs):TupAt g S' H' p vs:=by
 rcases h with ⟨h,r⟩ | h
 ·exact .inl ⟨P.none_of h r,P.kp _ _ h r⟩
 ·exact .inr h
theorem b5n {p:Addr} {vs:List V} (h:SqL g.K noH p vs):SqL g.K H p vs:=by
 rcases h with h | h
 ·rcases h with h | ⟨o,h⟩ <;> cases h
 ·exact .inr h
theorem b5o {p:Addr} {vs:List V} (h:SqT g.K noH p vs):SqT g.K H p vs:=by
 rcases h with h | h
 ·rcases h with h | ⟨o,h⟩ <;> cases h
 ·exact .inr h
theorem LstAt.sq {p:Addr} {vs:List V} (h:LstAt g S H p vs):SqL g.K H p vs:=by
 rcases h with ⟨h,r⟩ | h
 ·exact .inl r
 ·exact b5n h
theorem TupAt.sq {p:Addr} {vs:List V} (h:TupAt g S H p vs):SqT g.K H p vs:=by
 rcases h with ⟨h,r⟩ | h
 ·exact .inl (.inl r)
 ·exact b5o h
mutual
theorem Rep.monoW (P:PostW S H S' H'):∀ {d:D} {v:V},Rep g S H d v→Rep g S' H' d v
 | .non,_,h=>by simp only [Rep] at h ⊢;exact h
 | .bl _,_,h=>by simp only [Rep] at h ⊢;exact h
 | .int _,_,h=>by simp only [Rep] at h ⊢;exact h
 | .str _,_,h=>by simp only [Rep] at h ⊢;exact h
 | .lst ds,_,h=>by
  simp only [Rep] at h ⊢
  obtain ⟨p,vs,e,a,r⟩:=h
  exact ⟨p,vs,e,a.monoW P,a0i.monoW P r⟩
 | .tup ds,_,h=>by
  simp only [Rep] at h ⊢
  obtain ⟨p,vs,e,a,r⟩:=h
  exact ⟨p,vs,e,a.monoW P,a0i.monoW P r⟩
 | .dic kvs,_,h=>by
  simp only [Rep] at h ⊢
  obtain ⟨p,ws,e,a,b,r⟩:=h
  exact ⟨p,ws,e,P.none_of a b,P.kp _ _ a b,a0V.monoW P r⟩
 | .obj _,_,h=>by simp only [Rep] at h ⊢;exact h
 | .exc a oe C fs,_,h=>by
  simp only [Rep] at h ⊢
  obtain ⟨d,e,x,r⟩:=h
  refine ⟨d,e,x,?_⟩
  rcases r with r | ⟨dd,ws,e1,n,q,r⟩
  ·exact .inl r
  ·exact .inr ⟨dd,ws,e1,P.none_of n q,P.kp _ _ n q,a2x.monoW P r⟩
 | .err a C fs bare,_,h=>by
  simp only [Rep] at h ⊢
  obtain ⟨d,e,n,⟨φ,here,says⟩,r⟩:=h
  refine ⟨d,e,P.none_of n here,⟨φ,P.kp _ _ n here,says⟩,?_⟩
  rcases r with r | ⟨dd,ws,e1,n,q,r⟩
  ·exact .inl r
  ·exact .inr ⟨dd,ws,e1,P.none_of n q,P.kp _ _ n q,a2x.monoW P r⟩
theorem a0i.monoW (P:PostW S H S' H'):∀ {ds:List D} {vs:List V},a0i g S H ds vs→a0i g S' H' ds vs
 | [],_,h=>by simp only [a0i] at h ⊢;exact h
 | d :: ds,_,h=>by
  simp only [a0i] at h ⊢
  obtain ⟨v,r,e,a,b⟩:=h
  exact ⟨v,r,e,Rep.monoW P a,a0i.monoW P b⟩
theorem a0V.monoW (P:PostW S H S' H'):∀ {ds:List (Key × D)} {vs:List (Key × V)},a0V g S H ds vs→a0V g S' H' ds vs
 | [],_,h=>by simp only [a0V] at h ⊢;exact h
 | (k,d) :: ds,_,h=>by
  simp only [a0V] at h ⊢
  obtain ⟨v,r,e,a,b⟩:=h
  exact ⟨v,r,e,Rep.monoW P a,a0V.monoW P b⟩
theorem a2x.monoW (P:PostW S H S' H'):∀ {ds:List (Str × D)} {vs:List (Str × V)},a2x g S H ds vs→a2x g S' H' ds vs
 | [],_,h=>by simp only [a2x] at h ⊢;exact h
 | (k,d) :: ds,_,h=>by
  simp only [a2x] at h ⊢
  obtain ⟨v,r,e,a,b⟩:=h
  exact ⟨v,r,e,Rep.monoW P a,a2x.monoW P b⟩
end
theorem LstAt.mono {p:Addr} {vs:List V} (P:a0h S H S' H') (h:LstAt g S H p vs):LstAt g S' H' p vs:=h.monoW P.toPostW
theorem Rep.mono (P:a0h S H S' H') {d:D} {v:V} (h:Rep g S H d v):Rep g S' H' d v:=h.monoW P.toPostW
theorem a0i.mono (P:a0h S H S' H') {ds:List D} {vs:List V} (h:a0i g S H ds vs):a0i g S' H' ds vs:=h.monoW P.toPostW
theorem a0V.mono (P:a0h S H S' H') {ds:List (Key × D)} {vs:List (Key × V)} (h:a0V g S H ds vs):a0V g S' H' ds vs:=h.monoW P.toPostW
theorem a2x.mono (P:a0h S H S' H') {ds:List (Str × D)} {vs:List (Str × V)} (h:a2x g S H ds vs):a2x g S' H' ds vs:=h.monoW P.toPostW
def a1Q (g:Gd) (S:SS) (H:Hp) (a:Addr):Cell→Prop
 | .lst ds=>∃ vs,H a=some (.lst vs)∧a0i g S H ds vs
 | .dic kvs=>∃ ws,H a=some (.dK ws)∧a0V g S H kvs ws
 | .loc kvs=>∃ ws o,H a=some (.frz o (.dK ws))∧a0V g S H kvs ws
 | .ins C fs=>∃ dx ws,H a=some (.ins C dx ws)∧a2x g S H fs ws
def CellsOk (g:Gd) (S:SS) (H:Hp):Prop:=∀ a c,S a=some c→a1Q g S H a c
theorem a1Q.there {a:Addr} {c:Cell} (h:a1Q g S H a c):∃ o,H a=some o:=by
 cases c with
 | lst _=>obtain ⟨_,e,_⟩:=h;exact ⟨_,e⟩
 | dic _=>obtain ⟨_,e,_⟩:=h;exact ⟨_,e⟩
 | loc _=>obtain ⟨_,_,e,_⟩:=h;exact ⟨_,e⟩
 | ins _ _=>obtain ⟨_,_,e,_⟩:=h;exact ⟨_,e⟩
theorem a1Q.monoW {a:Addr} {c:Cell} (P:PostW S H S' H') (e:H' a=H a) (h:a1Q g S H a c):a1Q g S' H' a c:=by
 cases c with
 | lst _=>obtain ⟨x,q,r⟩:=h;exact ⟨x,by rw [e];exact q,r.monoW P⟩
 | dic _=>obtain ⟨x,q,r⟩:=h;exact ⟨x,by rw [e];exact q,r.monoW P⟩
 | loc _=>obtain ⟨x,y,q,r⟩:=h;exact ⟨x,y,by rw [e];exact q,r.monoW P⟩
 | ins _ _=>obtain ⟨x,y,q,r⟩:=h;exact ⟨x,y,by rw [e];exact q,r.monoW P⟩
theorem a1Q.mono {a:Addr} {c:Cell} (P:a0h S H S' H') (e:H' a=H a) (h:a1Q g S H a c):a1Q g S' H' a c:=h.monoW P.toPostW e
theorem CellsOk.free (h:CellsOk g S H) {p:Addr} (e:H p=none):S p=none:=by
 cases q:S p with
 | none=>rfl
 | some c =>
  obtain ⟨o,z⟩:=(h p c q).there
  rw [e] at z;cases z
theorem a0h.new {p:Addr} {o:HO} (e:H p=none):a0h S H S (upd H p o) :=
 ⟨⟨fun q u _ z=>by rw [upd_ne (ne_of_none z e)];exact z,fun _ h=>.inl h⟩,fun q k u h z=>⟨h,by rw [upd_ne (ne_of_none z e)];exact z⟩⟩
theorem CellsOk.new {p:Addr} {o:HO} (h:CellsOk g S H) (e:H p=none):CellsOk g S (upd H p o):=fun a c q=>by
 obtain ⟨u,z⟩:=(h a c q).there
 exact (h a c q).mono (a0h.new e) (upd_ne (ne_of_none z e))
theorem a0h.newC {p:Addr} {o:HO} {c:Cell} (e:H p=none):a0h S H (S.set p c) (upd H p o) :=
 ⟨⟨fun q u _ z=>by rw [upd_ne (ne_of_none z e)];exact z,fun a h=>by
  by_cases q:a=p
  ·exact .inr (q ▸ e)
  ·rw [zaa q] at h;exact .inl h⟩,fun q k u h z=>⟨by rw [zaa (ne_of_none z e)];exact h,by rw [upd_ne (ne_of_none z e)];exact z⟩⟩
theorem CellsOk.newC {p:Addr} {o:HO} {c:Cell} (h:CellsOk g S H) (e:H p=none) (hc:a1Q g (S.set p c) (upd H p o) p c):CellsOk g (S.set p c) (upd H p o):=fun a d q=>by
 by_cases z:a=p
 ·subst z;rw [zab] at q;cases q;exact hc
 ·rw [zaa z] at q
  exact (h a d q).mono (a0h.newC e) (upd_ne z)
theorem PostW.write {a:Addr} {o:HO} {c c0:Cell} (e:S a=some c0):PostW S H (S.set a c) (upd H a o) :=
 ⟨fun q u n z=>by rw [upd_ne (fun y=>by rw [y,e] at n;cases n)];exact z,fun b h=>by
  by_cases q:b=a
  ·exact .inl (by rw [q,e];exact fun z=>nomatch z)
  ·rw [zaa q] at h;exact .inl h⟩
theorem a0h.write {a:Addr} {o:HO} {c c0:Cell} (e:S a=some c0) (fr:c0.free=true:=by rfl):a0h S H (S.set a c) (upd H a o) :=
 ⟨.write e,fun q k u h z=>by
  have apart:q≠a:=fun y=>by rw [y,e] at h;cases h;cases fr
  exact ⟨by rw [zaa apart];exact h,by rw [upd_ne apart];exact z⟩⟩
theorem CellsOk.writeW {a:Addr} {o:HO} {c c0:Cell} (h:CellsOk g S H) (e:S a=some c0) (hc:a1Q g (S.set a c) (upd H a o) a c):CellsOk g (S.set a c) (upd H a o):=fun b d q=>by
 by_cases z:b=a
 ·subst z;rw [zab] at q;cases q;exact hc
 ·rw [zaa z] at q
  exact (h b d q).monoW (.write e) (upd_ne z)
theorem CellsOk.write {a:Addr} {o:HO} {c c0:Cell} (h:CellsOk g S H) (e:S a=some c0) (hc:a1Q g (S.set a c) (upd H a o) a c):CellsOk g (S.set a c) (upd H a o):=h.writeW e hc
theorem a0h.freeze {a:Addr} {c:Cell} (e:S a=some c) (fr:c.free=true:=by rfl):a0h S H (S.del a) H :=
 ⟨⟨fun _ _ _ z=>z,fun b h=>by
  by_cases q:b=a
  ·rw [q,SS.del_same] at h;exact absurd rfl h
  ·rw [SS.del_ne q] at h;exact .inl h⟩,fun q k u h z=>⟨by rw [SS.del_ne (fun y=>by rw [y,e] at h;cases h;cases fr)];exact h,z⟩⟩
theorem CellsOk.freeze {a:Addr} {c:Cell} (h:CellsOk g S H) (e:S a=some c) (fr:c.free=true:=by rfl):CellsOk g (S.del a) H:=fun b d q=>by
 by_cases z:b=a
 ·rw [z,SS.del_same] at q;cases q
 ·rw [SS.del_ne z] at q
  exact (h b d q).mono (a0h.freeze e fr) rfl
theorem Rep.freeze {a:Addr} {ds:List D} (h:CellsOk g S H) (e:S a=some (.lst ds)):Rep g (S.del a) H (.lst ds) (.ref a):=by
 obtain ⟨vs,q,r⟩:=h a _ e
 simp only [Rep]
 exact ⟨a,vs,rfl,.inl ⟨SS.del_same,.inl q⟩,r.mono (a0h.freeze e)⟩
theorem Rep.freezeK {a:Addr} {ds:List (Key × D)} (h:CellsOk g S H) (e:S a=some (.dic ds)):Rep g (S.del a) H (.dic ds) (.ref a):=by
 obtain ⟨vs,q,r⟩:=h a _ e
 simp only [Rep]
 exact ⟨a,vs,rfl,SS.del_same,q,r.mono (a0h.freeze e)⟩
theorem CellsOk.lock {a:Addr} {kvs:List (Key × D)} {ws:List (Key × V)} {o:Obj} (h:CellsOk g S H) (e:S a=some (.dic kvs)) (at_a:H a=some (.dK ws)) (r:a0V g S H kvs ws):CellsOk g (S.set a (.loc kvs)) (upd H a (.frz o (.dK ws))) :=
 h.writeW e ⟨ws,o,upd_same,r.mono (a0h.write e)⟩
theorem PostW.unlock {a:Addr} {kvs:List (Key × D)} {ws:List (Key × V)} {o:Obj} (e:S a=some (.dic kvs)) (P:a0h (S.set a (.loc kvs)) (upd H a (.frz o (.dK ws))) S' H'):S' a=some (.loc kvs)∧H' a=some (.frz o (.dK ws)) :=
 P.lk a kvs _ zab upd_same
theorem a0h.unlock {a:Addr} {kvs:List (Key × D)} {ws:List (Key × V)} {o:Obj} (e:S a=some (.dic kvs)) (P:a0h (S.set a (.loc kvs)) (upd H a (.frz o (.dK ws))) S' H'):a0h S H (S'.set a (.dic kvs)) (upd H' a (.dK ws)) :=
 ⟨(PostW.write e).trans (P.toPostW.trans (.write (PostW.unlock e P).1)),fun q k u h z=>by
  have apart:q≠a:=fun y=>by rw [y,e] at h;cases h
  have:=P.lk q k u (by rw [zaa apart];exact h) (by rw [upd_ne apart];exact z)
  exact ⟨by rw [zaa apart];exact this.1,by rw [upd_ne apart];exact this.2⟩⟩
theorem CellsOk.unlock {a:Addr} {kvs:List (Key × D)} {ws:List (Key × V)} {o:Obj} (e:S a=some (.dic kvs)) (r:a0V g S H kvs ws) (P:a0h (S.set a (.loc kvs)) (upd H a (.frz o (.dK ws))) S' H') (h:CellsOk g S' H'):CellsOk g (S'.set a (.dic kvs)) (upd H' a (.dK ws)) :=
 h.writeW (PostW.unlock e P).1 ⟨ws,upd_same,r.mono (a0h.unlock e P)⟩
abbrev DS:=List (Option D)
structure a68 (g:Gd) (S:SS) (H:Hp) (δ:DS) (σ:L2.St):Prop where
 len:δ.length=σ.length
 at_:∀ (i:Nat) d,δ[i]?=some (some d)→∃ v,σ[i]?=some (some v)∧Rep g S H d v
theorem a68.mono {δ:DS} {σ:L2.St} (P:a0h S H S' H') (h:a68 g S H δ σ):a68 g S' H' δ σ:=⟨h.len,fun i d e =>
 let ⟨v,e1,r⟩:=h.at_ i d e
 ⟨v,e1,r.mono P⟩⟩
theorem a68.set {δ:DS} {σ:L2.St} {i:Nat} {d:D} {v:V} (h:a68 g S H δ σ) (r:Rep g S H d v):a68 g S H (δ.set i (some d)) (σ.set i (some v)):=by
 refine ⟨by rw [List.length_set,List.length_set,h.len],fun j e q=>?_⟩
 by_cases hj:i=j
 ·subst hj
  by_cases hi:i < δ.length
  ·rw [List.getElem?_set_self hi] at q
   cases q
   exact ⟨v,List.getElem?_set_self (by rw [← h.len];exact hi),r⟩
  ·rw [List.getElem?_eq_none (by simpa using hi)] at q;cases q
 ·rw [List.getElem?_set_ne hj] at q
  obtain ⟨w,e1,r1⟩:=h.at_ j e q
  exact ⟨w,by rw [List.getElem?_set_ne hj];exact e1,r1⟩
theorem a68.setN {δ:DS} {σ:L2.St} {i:Nat} {x:Option V} (h:a68 g S H δ σ):a68 g S H (δ.set i none) (σ.set i x):=by
 refine ⟨by rw [List.length_set,List.length_set,h.len],fun j e q=>?_⟩
 by_cases hj:i=j
 ·subst hj
  by_cases hi:i < δ.length
  ·rw [List.getElem?_set_self hi] at q;cases q
  ·rw [List.getElem?_eq_none (by simpa using hi)] at q;cases q
 ·rw [List.getElem?_set_ne hj] at q
  obtain ⟨w,e1,r1⟩:=h.at_ j e q
  exact ⟨w,by rw [List.getElem?_set_ne hj];exact e1,r1⟩
theorem a68.start {N:List Str}:∀ {ds:List D} {vs:List V},a0i g S H ds vs→a68 g S H (ds.map some ++ List.replicate (N.length - ds.length) none) (L2.start N vs):=by
 have key:∀ (n:Nat) (ds:List D) (vs:List V),a0i g S H ds vs→a68 g S H (ds.map some ++ List.replicate n none) (vs.map some ++ List.replicate n none):=by
  intro n ds
  induction ds with
  | nil =>
   intro vs h
   simp only [a0i] at h
   subst h
   refine ⟨by simp,fun i d e=>?_⟩
   simp only [List.map_nil,List.nil_append,List.getElem?_replicate] at e
   split at e <;> cases e
  | cons d ds ih =>
   intro vs h
   simp only [a0i] at h
   obtain ⟨v,r,e,a,b⟩:=h
   subst e
   have q:=ih r b
   refine ⟨by simpa using q.len,fun i x e=>?_⟩
   cases i with
   | zero=>cases e;exact ⟨v,rfl,a⟩
   | succ i=>exact q.at_ i x e
 intro ds vs h
 have hl:ds.length=vs.length:=by
  induction ds generalizing vs with
  | nil=>simp only [a0i] at h;subst h;rfl
  | cons d ds ih =>
   simp only [a0i] at h
   obtain ⟨v,r,e,a,b⟩:=h
   subst e
   rw [zaz,zaz,ih b]
 unfold L2.start
 rw [← hl]
 exact key _ _ _ h
structure Rel (g:Gd) (S:SS) (H:Hp) (δ:DS) (σ:L2.St):Prop where
 sl:a68 g S H δ σ
 ce:CellsOk g S H
end
end Sv
namespace Sv
open PySem PySem.Spec PyProof.Rows L2
open L2H (RoomH Hot1 PinOk)
def c3F (A:Around) (outer:List Env) (H:Hp) (s:Shared):Option (Addr × Obj)→Prop
 | none=>A.handled=none
 | some p=>Hot1 A p∧PinOk outer H s p
def Mode (A:Around) (outer:List Env) (H:Hp) (s:Shared) (m:Option (Addr × Obj)):Prop:=A.guards=some []∧c3F A outer H s m
abbrev SpM:=Option (Addr × Obj)→Sp
structure FnG (P:Program) (w:World) (K:zbj) (mg:Str→Option Value) (base:Heap) (hot:Bool) (k:Nat) (f:Addr) (fd:FuncData) (ps:List Str) (sp:SpM):Prop where
 len:∀ m vs H Q E,m.isSome=hot→sp m vs H Q E→vs.length=ps.length
 run:∀ (A:Around) (outer:List Env) (s:Shared) (H:Hp) (args:Args) (us:List Value) (vs:List V) (Q:VK) (E:XK) (m:Option (Addr × Obj)),m.isSome=hot→RoomH k A→Mode A outer H s m→Env0 P w K mg base A outer s H →
  BindsTo s fd args (ps.zip us)→Vals vs us→sp m vs H Q E→codeAny (model P w) A (.call (.ref f) args) (CR (L2N.CX P w) outer P w H s Q E) s
theorem FnG.mono {P:Program} {w:World} {K:zbj} {mg:Str→Option Value} {base:Heap} {hot:Bool} {j k:Nat} {f:Addr} {fd:FuncData} {ps:List Str} {sp:SpM} (F:FnG P w K mg base hot j f fd ps sp) (h:j≤k) :
  FnG P w K mg base hot k f fd ps sp:=⟨F.len,fun A outer s H args us vs Q E m hm hr=>F.run A outer s H args us vs Q E m hm (hr.mono h)⟩
theorem FnG.imp {P:Program} {w:World} {K:zbj} {mg:Str→Option Value} {base:Heap} {hot:Bool} {k:Nat} {f:Addr} {fd:FuncData} {ps:List Str} {sp sp':SpM} (F:FnG P w K mg base hot k f fd ps sp)
  (h:∀ m vs H Q E,sp' m vs H Q E→sp m vs H Q E):FnG P w K mg base hot k f fd ps sp' :=
 ⟨fun m vs H Q E z q=>F.len m vs H Q E z (h _ _ _ _ _ q),fun A outer s H args us vs Q E m hm hr hM he hb hv hs=>F.run A outer s H args us vs Q E m hm hr hM he hb hv (h _ _ _ _ _ hs)⟩
def cxM (P:Program) (w:World) (K:zbj) (mg:Str→Option Value) (base:Heap) (N:List Str) (qual:Str) (scope:Scope) (f:Addr) (cd:Value) (A:Around) (outer:List Env) (s:Shared) (H:Hp) (E:XK) (m:Option (Addr × Obj)):Cx :=
 { cxOf (L2N.CX P w) P w K mg base N qual scope f cd A outer s H E with calm:=m.isNone,pn:=m.toList }
theorem a8W {P:Program} {w:World} {K:zbj} {mg:Str→Option Value} {base:Heap} {N ps:List Str} {qual:Str} {scope:Scope} {f:Addr} {cd:Value} {A:Around} {outer:List Env} {s s1:Shared} {H:Hp} {E:XK} {us:List Value} {vs:List V}
  (S:FnScope N ps scope) {m:Option (Addr × Obj)} (hM:Mode A outer H s m) (e0:Env0 P w K mg base A outer s H) (hl:vs.length=ps.length) (r:Vals vs us)
  (x:InCallC s s.heap.objs.size (bindL (envOfC qual scope s.heap.objs.size f cd).kindOf (ps.zip us) (fun _=>none)) (cellsFrom (s.heap.objs.size + 1) scope.names []) (bindC (envOfC qual scope s.heap.objs.size f cd).kindOf (ps.zip us) (fun _=>none)) s1) :
  Inv (cxM P w K mg base N qual scope f cd A outer s H E m) [] (L2.start N vs) H s1:=by
 cases m with
 | none=>exact L2.inv_start S hM.2 e0 hl r x
 | some p=>exact L2H.inv_startH S hM.2.2 e0 hl r x
theorem b0z {N ps:List Str} {scope:Scope} {us:List Value} {n:Nat} (S:FnScope N ps scope) (y:Str × Value) (hy:y∈ps.zip us) :
  scope.names.lookup y.1=some .local∨(scope.names.lookup y.1=some .cell∧((cellsFrom n scope.names []).lookup y.1).isSome=true) :=
 (S.par y.1 (List.of_mem_zip (show (y.1,y.2)∈ps.zip us from hy)).1).imp id fun c=>⟨c,PySem.W.cellsFrom_some _ _ _ (.inl c)⟩
theorem a8S {P:Program} {w:World} {K:zbj} {mg:Str→Option Value} {base:Heap} {N:List Str} {qual:Str} {scope:Scope} {f:Addr} {cd:Value} {A:Around} {outer:List Env} {s:Shared} {H:Hp} {Q:VK} {E:XK} {m:Option (Addr × Obj)} :
  ∀ (fl:Flow) (t:Shared),SP (cxM P w K mg base N qual scope f cd A outer s H E m) [] { nx:=fun _ H1=>Q .non H1,rt:=Q } fl t →
   match fl with
   | .ret u=>CE outer P w H s Q u t
   | .next=>CE outer P w H s Q .none t
   | _=>False
 | .ret _,_,⟨v,_,H1,I,rv,q⟩=>⟨v,H1,I.os,I.bare,I.base,I.hok,rv,q⟩
 | .next,_,⟨_,H1,I,q⟩=>⟨.non,H1,I.os,I.bare,I.base,I.hok,rfl,q⟩
 | .brk,_,⟨_,_,_,q⟩=>q
 | .cont,_,⟨_,_,_,q⟩=>q
theorem b2O {P:Program} {w:World} {K:zbj} {mg:Str→Option Value} {base:Heap} {hot:Bool} {k:Nat} {f:Addr} {name qual:Str} {params:Arguments} {body:List Stmt} {scope:Scope} {dV kV doc pm cdv ct oc:Value} {an od:Option Addr}
  {osl:Array (Option Value)} {N ps:List Str} {sp:SpM} (at_f:K.lookup f=some ⟨oc,od,.func (PySem.W.fnOf name qual params body scope dV kV doc pm an cdv ct),osl⟩) (at_cd:PySem.W.codeIn K cdv qual=true) (S:FnScope N ps scope)
  (len:∀ m vs H Q E,m.isSome=hot→sp m vs H Q E→vs.length=ps.length)
  (hbody:∀ (A:Around) (outer:List Env) (s:Shared) (H:Hp) (vs:List V) (Q:VK) (E:XK) (m:Option (Addr × Obj)),m.isSome=hot→Mode A outer H s m→RoomH k (A.deeper (envOfC qual scope s.heap.objs.size f cdv))→sp m vs H Q E →
   ∃ t,PSs (cxM P w K mg base N qual scope f cdv A outer s H E m) body t∧t { nx:=fun _ H'=>Q .non H',rt:=Q } (L2.start N vs) H) :
  FnG P w K mg base hot (k + 1) f (PySem.W.fnOf name qual params body scope dV kV doc pm an cdv ct) ps sp where
 len:=len
 run A outer s H args us vs Q E m hm hr hM e0 hb r hsp:=by
  have grown:∀ {b o},base.get? b=some o→s.heap.get? b=some o:=fun {b o} e=>(e0.bs b o e).1
  have inK:K.In s.heap:=e0.mod.kin.keeps fun _ _=>grown
  apply codeAny_call_function hr.depth (inK _ _ at_f) rfl S.co S.gen rfl (PySem.W.codeRec_of inK at_cd)
  apply hb
  apply wpAny_newFunctionEnv_cells S.kind (b0z S)
  rintro _ rfl s1 laid
  obtain ⟨t,walks,wants⟩:=hbody A outer s H vs Q E m hm hM (hr.deeper _) hsp
  have I0:=a8W (E:=E) S hM e0 (len _ _ _ _ _ hm hsp) r laid
  refine ⟨(e0.mod.nolimit.keeps fun _ _=>grown).keeps laid.toInCall.keep,codeAny_func (wpAny_mono (walks.run _ _ _ _ _ I0 wants) (fun fl t ended=>?_) fun _ _ x=>x)⟩
  have told:=a8S fl t ended
  cases fl <;> first | exact told | exact told.elim
def b3p (X:Cx):Option (Addr × Obj)→Prop
 | none=>X.calm=true
 | some p=>Hot1 X.A p∧p∈X.pn
def a1p (X:Cx) (m:Option (Addr × Obj)):Prop:=X.A.guards=some []∧b3p X m
theorem b3p.at {X:Cx} {m0:Option (Addr × Obj)} {pins:List (Addr × Obj)} {σ:L2.St} {H:Hp} {s:Shared} (c:b3p X m0) (I:Inv X pins σ H s):c3F X.A X.stack H s m0:=by
 match m0,c with
 | none,c=>exact I.ok.hd c
 | some p,⟨h,hp⟩ =>
  have ⟨get,free,noLoc,noFs,noCell⟩:=I.pin p (zar pins hp)
  refine ⟨h,get,free,fun z=>?_,noCell⟩
  rcases zau.mp (I.stkSub _ z) with z | z
  ·exact noLoc z
  ·exact noFs z
theorem a1p.at {X:Cx} {m0:Option (Addr × Obj)} {pins:List (Addr × Obj)} {σ:L2.St} {H:Hp} {s:Shared} (c:a1p X m0) (I:Inv X pins σ H s):Mode X.A X.stack H s m0:=⟨c.1,c.2.at I⟩
section
variable {X:Cx} {hot:Bool} {m0:Option (Addr × Obj)} {k:Nat} {f:Addr} {fd:FuncData} {ps:List Str} {sp:SpM} {dvs:List V} {ds:List Value} {E:L2.St→XK} {x:Str} {q pos:Pos} {e:Expr} {es:List Expr} {t:TA}
theorem a7N {pins:List (Addr × Obj)} {σ:L2.St} {H:Hp} {s:Shared} {Q:VK} {us:List Value} {vs:List V} (F:FnG X.prog X.w X.K X.mg X.base hot k f fd ps sp) (hh:m0.isSome=hot) (room:RoomH k X.A) (mode:a1p X m0) (binds:L2.Binds X.K fd ps ds) (hd:Vals dvs ds)
  (out:PassesAt (L2N.CX X.prog X.w) X σ (E σ)) (I:Inv X pins σ H s) (rv:Vals vs us) (want:sp m0 (vs ++ dvs) H Q (E σ)):wpAny (model X.prog X.w) X.A (call (.ref f) us) (EP X pins σ Q) X.xe s:=by
 have all:=rv.append hd
 have whole:=F.run X.A X.stack s H ⟨us,[]⟩ (us ++ ds) _ Q (E σ) m0 hh room (mode.at I) I.env0 (binds s us I.kIn (all.length ▸ F.len _ _ _ _ _ hh want)) all want
 apply wpAny_call
 refine codeAny_mono whole ?_
 rintro (err | (_ | u | _ | _)) s' told
 ·exact out _ _ _ _ _ I told
 all_goals first | exact I.after told | exact told.elim
def tCallG (m0:Option (Addr × Obj)) (sp:SpM) (dvs:List V) (E:L2.St→XK) (t:TA):TE:=fun σ H Q=>t σ H fun vs H1=>sp m0 (vs ++ dvs) H1 Q (E σ)
structure Named (X:Cx) (x:Str) (f:Addr):Prop where
 gl:Gl X x
 mg:X.mg x=some (.ref f)
 kp:PySem.W.keepIn X.K (.ref f)=true
 db:(x == ("__debug__" : Str))=false
theorem pe_callG (F:FnG X.prog X.w X.K X.mg X.base hot k f fd ps sp) (hh:m0.isSome=hot) (room:RoomH k X.A) (mode:a1p X m0) (nm:Named X x f) (binds:L2.Binds X.K fd ps ds) (hd:Vals dvs ds)
  (out:∀ σ,PassesAt (L2N.CX X.prog X.w) X σ (E σ)) (args:PA X (e :: es) t) (plain:starEach (e :: es) X.env=(false,eval e X.env) :: starEach es X.env) (rest:(backTo pos (starEach es X.env)).any (·.1)=false) :
  PE X (.Call (.Name x q) (e :: es) [] pos) (tCallG m0 sp dvs E t) where
 run pins s σ H Q I want:=wpAny_Call_Name_kw (ld_glob I nm.gl nm.mg (PySem.W.callWith_K (h₀:=X.base) I.ok.mod.kin nm.kp
  (thn (args.run pos pins s σ H _ I want) fun _ _ ⟨_,_,J,rv,go⟩=>⟨J.kIn,a7N F hh room mode binds hd (out σ) J rv go⟩) plain rest) nm.db)
theorem b0A (F:FnG X.prog X.w X.K X.mg X.base hot k f fd ps sp) (hh:m0.isSome=hot) (room:RoomH k X.A) (mode:a1p X m0) (nm:Named X x f) (binds:L2.Binds X.K fd ps ds) (hd:Vals dvs ds) (out:∀ σ,PassesAt (L2N.CX X.prog X.w) X σ (E σ)) :
  PE X (.Call (.Name x q) [] [] pos) (tCallG m0 sp dvs E tNil) where
 run pins s σ H Q I want:=wpAny_Call_Name_kw (ld_glob I nm.gl nm.mg (PySem.W.callWith_K0 I.kIn nm.kp (a7N F hh room mode binds hd (out σ) I .nil want)) nm.db)
end
end Sv
namespace Sv
open PySem PySem.Spec PyProof.Rows L2
abbrev DK:=D→SS→Prop
section
variable {α β:Type} {F:α→β→Prop}
theorem a6S {xs:List α} {us:List β} (h:Paired F xs us):∃ ps:List {p:α × β // F p.1 p.2},ps.map (fun p=>p.1.1)=xs∧ps.map (fun p=>p.1.2)=us:=by
 induction h with
 | nil=>exact ⟨[],rfl,rfl⟩
 | cons r _ more =>
  obtain ⟨ps,rfl,rfl⟩:=more
  exact ⟨⟨(_,_),r⟩ :: ps,rfl,rfl⟩
theorem b5f (ps:List {p:α × β // F p.1 p.2}):Paired F (ps.map fun p=>p.1.1) (ps.map fun p=>p.1.2):=by
 induction ps with
 | nil=>exact .nil
 | cons p ps more=>exact .cons p.2 more
theorem a4F (f:∀ {γ:Type},List γ→List γ) (nat:∀ {γ δ:Type} (h:γ→δ) (l:List γ),f (l.map h)=(f l).map h) {xs:List α} {us:List β} (r:Paired F xs us):Paired F (f xs) (f us):=by
 obtain ⟨ps,rfl,rfl⟩:=a6S r
 rw [nat,nat]
 exact b5f _
theorem b0E {xs:List α} {us:List β} {i:Nat} {x:α} (r:Paired F xs us) (e:xs[i]?=some x):∃ u,us[i]?=some u∧F x u:=by
 obtain ⟨ps,rfl,rfl⟩:=a6S r
 rw [zbh] at e
 rw [zbh]
 cases at_i:ps[i]? with
 | none=>rw [at_i] at e;exact nomatch e
 | some p =>
  rw [at_i] at e
  cases e
  exact ⟨p.1.2,rfl,p.2⟩
theorem b7J {x:α} {u:β} (r:F x u) {xs:List α} {us:List β} (i:Nat) (rs:Paired F xs us):Paired F (xs.set i x) (us.set i u):=by
 obtain ⟨ps,rfl,rfl⟩:=a6S rs
 have put:=b5f (ps.set i ⟨(x,u),r⟩)
 rwa [List.map_set,List.map_set] at put
theorem a6R {xs ys:List α} {us ws:List β} (r:Paired F xs us) (q:Paired F ys ws):Paired F (xs ++ ys) (us ++ ws):=by
 obtain ⟨ps,rfl,rfl⟩:=a6S r
 obtain ⟨qs,rfl,rfl⟩:=a6S q
 rw [← zav,← zav]
 exact b5f _
theorem b5g {xs:List α} {us:List β} (n:Nat):Paired F xs us→Paired F (xs.take n) (us.take n):=a4F (fun l=>l.take n) fun h l=>List.map_take.symm
theorem b5e {xs:List α} {us:List β} (n:Nat):Paired F xs us→Paired F (xs.drop n) (us.drop n):=a4F (fun l=>l.drop n) fun h l=>List.map_drop.symm
theorem a87 {xs:List α} {us:List β}:Paired F xs us→Paired F xs.reverse us.reverse:=a4F List.reverse fun h l=>List.map_reverse.symm
theorem a7K {xs:List α} {us:List β}:Paired F xs us→Paired F xs.dropLast us.dropLast:=a4F List.dropLast fun h l=>List.map_dropLast.symm
end
section
variable {g:Gd} {S S':SS} {H H':Hp}
abbrev RP (g:Gd) (S:SS) (H:Hp):List D→List V→Prop:=Paired fun d v=>Rep g S H d v
theorem a3Q:∀ {ds:List D} {vs:List V},a0i g S H ds vs→RP g S H ds vs
 | [],_,h=>by simp only [a0i] at h;subst h;exact .nil
 | d :: ds,_,h=>by
  simp only [a0i] at h
  obtain ⟨v,r,e,a,b⟩:=h
  subst e
  exact .cons a (a3Q b)
theorem a5e:∀ {ds:List D} {vs:List V},RP g S H ds vs→a0i g S H ds vs
 | _,_,.nil=>by simp only [a0i]
 | _,_,.cons a b=>by simp only [a0i];exact ⟨_,_,rfl,a,a5e b⟩
abbrev RPK (g:Gd) (S:SS) (H:Hp):List (Key × D)→List (Key × V)→Prop:=Paired fun d v=>d.1=v.1∧Rep g S H d.2 v.2
theorem a05:∀ {ds:List (Key × D)} {vs:List (Key × V)},a0V g S H ds vs→RPK g S H ds vs
 | [],_,h=>by simp only [a0V] at h;subst h;exact .nil
 | (k,d) :: ds,_,h=>by
  simp only [a0V] at h
  obtain ⟨v,r,e,a,b⟩:=h
  subst e
  exact .cons ⟨rfl,a⟩ (a05 b)
theorem b0p:∀ {ds:List (Key × D)} {vs:List (Key × V)},RPK g S H ds vs→a0V g S H ds vs
 | _,_,.nil=>by simp only [a0V]
 | (k,d) :: _,(k',v) :: _,.cons a b=>by
  obtain ⟨e,a⟩:=a
  cases e
  simp only [a0V]
  exact ⟨v,_,rfl,a,b0p b⟩
theorem a0i.length {ds:List D} {vs:List V} (h:a0i g S H ds vs):ds.length=vs.length:=Paired.length (a3Q h)
theorem a0i.get {ds:List D} {vs:List V} (h:a0i g S H ds vs) {i:Nat} {d:D} (e:ds[i]?=some d):∃ v,vs[i]?=some v∧Rep g S H d v:=b0E (a3Q h) e
theorem a0i.append {ds es:List D} {vs us:List V} (h:a0i g S H ds vs) (h':a0i g S H es us):a0i g S H (ds ++ es) (vs ++ us):=a5e (a6R (a3Q h) (a3Q h'))
theorem a0i.take {ds:List D} {vs:List V} (h:a0i g S H ds vs) (n:Nat):a0i g S H (ds.take n) (vs.take n):=a5e (b5g n (a3Q h))
theorem a0i.drop {ds:List D} {vs:List V} (h:a0i g S H ds vs) (n:Nat):a0i g S H (ds.drop n) (vs.drop n):=a5e (b5e n (a3Q h))
theorem a0i.set {ds:List D} {vs:List V} (h:a0i g S H ds vs) {i:Nat} {d:D} {v:V} (r:Rep g S H d v):a0i g S H (ds.set i d) (vs.set i v):=a5e (b7J r i (a3Q h))
theorem a0i.reverse {ds:List D} {vs:List V} (h:a0i g S H ds vs):a0i g S H ds.reverse vs.reverse:=a5e (a87 (a3Q h))
theorem a0i.at {ds:List D} {vs:List V} (h:a0i g S H ds vs) {i:Int} {d:D} (e:atI ds i=some d):∃ v,atI vs i=some v∧Rep g S H d v:=by
 unfold atI at e ⊢
 rw [← h.length]
 cases q:ixN ds.length i with
 | none=>rw [q] at e;cases e
 | some j =>
  rw [q] at e
  exact h.get e
def vw (S:SS):D→D
 | .obj a=>match S a with
  | some (.lst ds)=>.lst ds
  | some (.dic k)=>.dic k
  | some (.loc k)=>.dic k
  | _=>.obj a
 | d=>d
def dv (S:SS):Nat→D→D
 | 0,d=>d
 | n + 1,d=>match vw S d with
  | .lst ds=>.lst (ds.map (dv S n))
  | .tup ds=>.tup (ds.map (dv S n))
  | d=>d
theorem a0r {d:D} {ds:List D} {v:V} (hc:CellsOk g S H) (r:Rep g S H d v) (e:vw S d=.lst ds):∃ p vs,v=.ref p∧SqL g.K H p vs∧a0i g S H ds vs:=by
 cases d with
 | lst xs =>
  have e':D.lst xs=.lst ds:=e
  cases e'
  simp only [Rep] at r
  obtain ⟨p,vs,e1,a,b⟩:=r
  exact ⟨p,vs,e1,a.sq,b⟩
 | obj a =>
  simp only [Rep] at r
  have e':(match S a with | some (.lst ds)=>D.lst ds | some (.dic k)=>.dic k | some (.loc k)=>.dic k | _=>.obj a)=.lst ds:=e
  cases q:S a with
  | none=>rw [q] at e';cases e'
  | some c =>
   rw [q] at e'
   cases c with
   | lst xs =>
    cases e'
    obtain ⟨vs,h1,h2⟩:=hc a _ q
    exact ⟨a,vs,r,.inl (.inl h1),h2⟩
   | _=>cases e'
 | _=>cases e
theorem a0H {d:D} {ds:List D} {v:V} (r:Rep g S H d v) (e:vw S d=.tup ds):∃ p vs,v=.ref p∧SqT g.K H p vs∧a0i g S H ds vs:=by
 cases d with
 | tup xs =>
  have e':D.tup xs=.tup ds:=e
  cases e'
  simp only [Rep] at r
  obtain ⟨p,vs,e1,a,b⟩:=r
  exact ⟨p,vs,e1,a.sq,b⟩
 | obj a =>
  have e':(match S a with | some (.lst ds)=>D.lst ds | some (.dic k)=>.dic k | some (.loc k)=>.dic k | _=>.obj a)=.tup ds:=e
  cases q:S a with
  | none=>rw [q] at e';cases e'
  | some c =>
   rw [q] at e'
   cases c <;> cases e'
 | _=>cases e
theorem a1H {d:D} {ds:List (Key × D)} {v:V} (hc:CellsOk g S H) (r:Rep g S H d v) (e:vw S d=.dic ds):∃ p vs,v=.ref p∧Rd H p (.dK vs)∧a0V g S H ds vs:=by
 cases d with
 | dic xs =>
  have e':D.dic xs=.dic ds:=e
  cases e'
  simp only [Rep] at r
  obtain ⟨p,vs,e1,_,a,b⟩:=r
  exact ⟨p,vs,e1,.inl a,b⟩
 | obj a =>
  simp only [Rep] at r
  have e':(match S a with | some (.lst ds)=>D.lst ds | some (.dic k)=>.dic k | some (.loc k)=>.dic k | _=>.obj a)=.dic ds:=e
  cases q:S a with
  | none=>rw [q] at e';cases e'
  | some c =>
   rw [q] at e'
   cases c with
   | dic xs =>
    cases e'
    obtain ⟨vs,h1,h2⟩:=hc a _ q
    exact ⟨a,vs,r,.inl h1,h2⟩
   | loc xs =>
    cases e'
    obtain ⟨vs,o,h1,h2⟩:=hc a _ q
    exact ⟨a,vs,r,.inr ⟨o,h1⟩,h2⟩
   | _=>cases e'
 | _=>cases e
theorem a3R {d x:D} {v:V} (r:Rep g S H d v) (e:vw S d=x) (h:∀ ds,x≠.lst ds) (h2:∀ ds,x≠.dic ds):Rep g S H x v:=by
 cases d with
 | obj a =>
  have e':(match S a with | some (.lst ds)=>D.lst ds | some (.dic k)=>.dic k | some (.loc k)=>.dic k | _=>.obj a)=x:=e
  cases q:S a with
  | none=>rw [q] at e';subst e';exact r
  | some c =>
   rw [q] at e'
   cases c with
   | lst xs=>subst e';exact absurd rfl (h _)
   | dic xs=>subst e';exact absurd rfl (h2 _)
   | loc xs=>subst e';exact absurd rfl (h2 _)
   | ins _ _=>subst e';exact r
 | _=>subst e;exact r
def Res (g:Gd) (S:SS) (H:Hp) (K:DK) (Q:VK):Prop:=∀ d S' v H',K d S'→a0h S H S' H'→CellsOk g S' H'→Rep g S' H' d v→Q v H'
theorem Res.val {K:DK} {Q:VK} {d:D} {v:V} (r:Res g S H K Q) (k:K d S) (hc:CellsOk g S H) (h:Rep g S H d v):Q v H:=r d S v H k (a0h.refl _ _) hc h
theorem Res.int {K:DK} {Q:VK} {i:Int} (r:Res g S H K Q) (k:K (.int i) S) (hc:CellsOk g S H):Q (.int i) H:=r.val k hc (by simp only [Rep])
theorem Res.bl {K:DK} {Q:VK} {i:Bool} (r:Res g S H K Q) (k:K (.bl i) S) (hc:CellsOk g S H):Q (.bl i) H:=r.val k hc (by simp only [Rep])
theorem Res.str {K:DK} {Q:VK} {i:Str} (r:Res g S H K Q) (k:K (.str i) S) (hc:CellsOk g S H):Q (.str i) H:=r.val k hc (by simp only [Rep])
theorem Res.non {K:DK} {Q:VK} (r:Res g S H K Q) (k:K .non S) (hc:CellsOk g S H):Q .non H:=r.val k hc (by simp only [Rep])
theorem Res.lst {K:DK} {Q:VK} {ds:List D} {vs:List V} {p:Addr} (r:Res g S H K Q) (k:K (.lst ds) S) (hc:CellsOk g S H) (h:a0i g S H ds vs) (e:H p=none):Q (.ref p) (upd H p (.lst vs)) :=
 r _ S _ _ k (a0h.new e) (hc.new e) (by simp only [Rep];exact ⟨p,vs,rfl,.inl ⟨hc.free e,.inl upd_same⟩,h.mono (a0h.new e)⟩)
theorem Res.tup {K:DK} {Q:VK} {ds:List D} {vs:List V} {p:Addr} (r:Res g S H K Q) (k:K (.tup ds) S) (hc:CellsOk g S H) (h:a0i g S H ds vs) (e:H p=none):Q (.ref p) (upd H p (.tup vs)) :=
 r _ S _ _ k (a0h.new e) (hc.new e) (by simp only [Rep];exact ⟨p,vs,rfl,.inl ⟨hc.free e,upd_same⟩,h.mono (a0h.new e)⟩)
theorem Res.dic {K:DK} {Q:VK} {ds:List (Key × D)} {vs:List (Key × V)} {p:Addr} (r:Res g S H K Q) (k:K (.dic ds) S) (hc:CellsOk g S H) (h:a0V g S H ds vs) (e:H p=none):Q (.ref p) (upd H p (.dK vs)) :=
 r _ S _ _ k (a0h.new e) (hc.new e) (by simp only [Rep];exact ⟨p,vs,rfl,hc.free e,upd_same,h.mono (a0h.new e)⟩)
theorem Res.lstC {K:DK} {Q:VK} {ds:List D} {vs:List V} {p:Addr} (r:Res g S H K Q) (k:∀ p,S p=none→K (.obj p) (S.set p (.lst ds))) (hc:CellsOk g S H) (h:a0i g S H ds vs) (e:H p=none):Q (.ref p) (upd H p (.lst vs)) :=
 r _ _ _ _ (k p (hc.free e)) (a0h.newC e) (hc.newC e ⟨vs,upd_same,h.mono (a0h.newC e)⟩) (by simp only [Rep])
theorem Res.dicC {K:DK} {Q:VK} {ds:List (Key × D)} {vs:List (Key × V)} {p:Addr} (r:Res g S H K Q) (k:∀ p,S p=none→K (.obj p) (S.set p (.dic ds))) (hc:CellsOk g S H) (h:a0V g S H ds vs) (e:H p=none):Q (.ref p) (upd H p (.dK vs)) :=
 r _ _ _ _ (k p (hc.free e)) (a0h.newC e) (hc.newC e ⟨vs,upd_same,h.mono (a0h.newC e)⟩) (by simp only [Rep])
def rD2 (g:Gd) (t:D→D→SS→DK→Prop):R2:=fun v u H Q=>∃ x y S K,CellsOk g S H∧Rep g S H x v∧Rep g S H y u∧t x y S K∧Res g S H K Q
def rDc (g:Gd) (t:List D→SS→DK→Prop):List V→Hp→VK→Prop:=fun vs H Q=>∃ xs S K,CellsOk g S H∧a0i g S H xs vs∧t xs S K∧Res g S H K Q
def rDm (g:Gd) (t:D→List D→SS→DK→Prop):V→List V→Hp→VK→Prop:=fun v vs H Q=>∃ x xs S K,CellsOk g S H∧Rep g S H x v∧a0i g S H xs vs∧t x xs S K∧Res g S H K Q
end
def b4P (x y:D) (S:SS) (Q:DK):Prop:=match vw S x,vw S y with
 | .int i,.int j=>Q (.int (i + j)) S
 | .str a,.str b=>a.length + b.length≤sizeLine∧Q (.str (a ++ b)) S
 | .lst a,.lst b=>a.length + b.length≤sizeLine∧Q (.lst (a ++ b)) S
 | .tup a,.tup b=>a.length + b.length≤sizeLine∧Q (.tup (a ++ b)) S
 | _,_=>False
def b1m (x y:D) (S:SS) (Q:DK):Prop:=match vw S x,vw S y with
 | .lst a,.lst b=>a.length + b.length≤sizeLine∧∀ p,S p=none→Q (.obj p) (S.set p (.lst (a ++ b)))
 | _,_=>False
def b4U (x y:D) (S:SS) (Q:DK):Prop:=match x,y with
 | .int i,.int j=>Q (.int (i - j)) S
 | _,_=>False
def b7M (z:Str) (k:Nat):Str:=⟨(List.replicate k z.cps).foldl (· ++ ·) #[]⟩
def b4S (x y:D) (S:SS) (Q:DK):Prop:=match x,y with
 | .int i,.int j=>(CMul i j∨CMulW i j)∧Q (.int (i * j)) S
 | .lst xs,.int k=>-(2 ^ 63)≤k∧k < 2 ^ 63∧xs.length * k.toNat≤sizeLine∧Q (.lst (List.replicate k.toNat xs).flatten) S
 | .str z,.int k=>2≤k∧k < 1000∧0 < z.length∧z.length * k.toNat≤1000000∧Q (.str (b7M z k.toNat)) S
 | _,_=>False
def b4Q (x y:D) (S:SS) (Q:DK):Prop:=match x,y with
 | .int i,.int j=>CDivW i j∧Q (.int (i / j)) S
 | _,_=>False
def b4R (x y:D) (S:SS) (Q:DK):Prop:=match x,y with
 | .int i,.int j=>0 < j∧Q (.int (i % j)) S
 | _,_=>False
def b4T (x y:D) (S:SS) (Q:DK):Prop:=match x,y with
 | .int i,.int j=>CPow i j∧Q (.int (i ^ j.toNat)) S
 | _,_=>False
def opD:Operator→D→D→SS→DK→Prop
 | .Add=>b4P | .Sub=>b4U | .Mult=>b4S | .FloorDiv=>b4Q | .Mod=>b4R | .Pow=>b4T | _=>fun _ _ _ _=>False
section
variable {X:Cx} {g:Gd}
theorem b0t:OpR X (binaryOp .Add) (fun x y H Q=>∃ l b xs zs,x=.ref l∧y=.ref b∧SqL X.K H l xs∧SqL X.K H b zs∧xs.length + zs.length≤sizeLine∧∀ p,H p=none→Q (.ref p) (upd H p (.lst (xs ++ zs)))):=by
 intro pins s σ H x y v u Q I rx ry h
 obtain ⟨l,b,xs,zs,rfl,rfl,hl,hb,hz,q⟩:=h
 cases rx
 cases ry
 obtain ⟨its,r1,p1,z1⟩:=I.list hl
 obtain ⟨its2,r2,p2,z2⟩:=I.list hb
 obtain ⟨⟨cls,dd,data,sl⟩,n,ho,hc,hdd,hd⟩:=p1
 obtain ⟨⟨cls2,dd2,data2,sl2⟩,n2,ho2,hc2,hdd2,hd2⟩:=p2
 simp only at hc hd hc2 hd2
 subst hc hd hc2 hd2
 have e1:=r1.length
 have e2:=r2.length
 have e:its.toArray ++ its2.toArray=(its ++ its2).toArray:=by simp
 refine PySem.concat_meets ⟨_,ho,rfl⟩ ⟨_,ho2,rfl⟩ PySem.noFill_list_add PySem.seq_list_add PySem.F.slot_list_add PySem.F.entry_list_add (PySem.F.args_list_add_2 _ _) (list_addW l b its.toArray its2.toArray n n2 dd dd2 sl sl2 (by simpa [← e1,← e2] using hz)) ⟨ho,ho2,?_⟩
 rw [e]
 exact ⟨.ref _,_,I.lnew (t':=s.toks) (r1.append r2) (by rw [zaw];omega),rfl,q _ I.fresh⟩
theorem b4V:OpR X (binaryOp .Mult) (fun x y H Q=>∃ l k xs,x=.ref l∧y=.int k∧SqL X.K H l xs∧-(2 ^ 63)≤k∧k < 2 ^ 63∧xs.length * k.toNat≤sizeLine∧∀ p,H p=none→Q (.ref p) (upd H p (.lst (List.replicate k.toNat xs).flatten))):=by
 intro pins s σ H x y v u Q I rx ry h
 obtain ⟨l,k,xs,rfl,rfl,hl,lo,hi,few,q⟩:=h
 cases rx
 obtain ⟨t,rfl⟩:=ry
 obtain ⟨its,rv,pl,z⟩:=I.list hl
 obtain ⟨⟨cls,dd,data,sl⟩,n,ho,hc,hdd,hd⟩:=pl
 simp only at hc hd
 subst hc hd
 have len:=rv.length
 have few':its.toArray.size * k.toNat≤sizeLine:=by rw [List.size_toArray,← len];exact few
 have cap:(sizeLine:Nat)≤(2 ^ 63 - 1) / 8:=by decide
 have flat:List.foldl (fun x1 x2=>x1 ++ x2) #[] (List.replicate (if its.toArray.isEmpty=true then 0 else k.toNat) its.toArray)=(List.replicate k.toNat its).flatten.toArray:=by
  have go:∀ m:Nat,List.foldl (fun x1 x2=>x1 ++ x2) #[] (List.replicate m its.toArray)=(List.replicate m its).flatten.toArray:=fun m=>by
   have:=foldl_rep its m []
   rwa [List.nil_append] at this
  rw [go]
  cases its with
  | nil=>simp
  | cons a r=>rw [if_neg (by simp)]
 refine wpAny_binaryOp_repeat_ref (T := "list") (U := "int") (by decide) ⟨_,ho,rfl⟩ (fun s'=>typeIs_int s' k t) noFill_list_mul F.fills_int_mul F.slot_int_rmul repeat_list F.slot_int_index.lookup
  (call_meets F.slot_int_rmul (typeIs_int s k t) F.entry_int_rmul (F.args_int_rmul_2 _ _) (lm_int_rmul_list_any k t l its.toArray n dd sl)
   ⟨ho,rfl,⟨_,ho,rfl⟩,call_meets F.slot_list_mul ⟨_,ho,rfl⟩ F.entry_list_mul (F.args_list_mul_2 _ _) (lm_list_mul_any l its.toArray n dd sl k t (by rw [fitsIndex_both lo hi];exact zbe) (by omega) (by rw [notLongL few'];exact zbe)) ⟨ho,?_⟩⟩)
 rw [flat]
 exact ⟨.ref _,_,I.lnew (t':=s.toks) (rv.rep k.toNat) (by rw [PyProof.Rows.lm_len_rep_flat,Nat.mul_comm];exact few),rfl,q _ I.fresh⟩
theorem a6q (a:Array Nat):∀ (n:Nat) (acc:Array Nat),((List.replicate n a).foldl (· ++ ·) acc).size=acc.size + n * a.size
 | 0,acc=>by simp
 | n + 1,acc=>by
  rw [List.replicate_succ,List.foldl_cons,a6q a n,Array.size_append,Nat.succ_mul]
  omega
theorem b2n (z:Str) (n:Nat):(b7M z n).length=z.length * n:=by
 show ((List.replicate n z.cps).foldl (· ++ ·) #[]).size=z.cps.size * n
 rw [a6q,Nat.mul_comm]
 simp
theorem b4W:OpR X (binaryOp .Mult) (fun x y H Q=>∃ z k,x=.str z∧y=.int k∧2≤k∧k < 1000∧0 < z.length∧z.length * k.toNat≤1000000∧Q (.str (b7M z k.toNat)) H):=by
 intro pins s σ H x y v u Q I rx ry h
 obtain ⟨z,k,rfl,rfl,lo,hi,ln,few,q⟩:=h
 obtain ⟨t,rfl⟩:=rx
 obtain ⟨t',rfl⟩:=ry
 have big:(2:Int) ^ 63=9223372036854775808:=by decide
 refine PySem.P.mul_str ?_ (fun _ _=>?_) (fun _ _=>?_) ?_
 ·rw [zbf (by omega),zbf (by omega)];rfl
 ·have e:=Int.toNat_of_nonneg (show 0≤k by omega)
  have hk:0 < k:=by omega
  have e2:(z.length:Int) * k=((z.length * k.toNat:Nat):Int):=by rw [Int.natCast_mul,e]
  rw [show ((2:Int) ^ 63 - 1)=9223372036854775807 by decide]
  have h2:(z.length:Int)≤9223372036854775807 / k:=by
   rw [Int.le_ediv_iff_mul_le hk,e2]
   omega
  omega
 ·unfold Builtin.Str.tooLong
  simp only [decide_eq_false_iff_not]
  have:(sizeLine:Nat)=16777216:=rfl
  omega
 ·rw [if_neg (by omega),if_neg (by
   rw [Bool.or_eq_true,not_or]
   refine ⟨fun e=>?_,fun e=>?_⟩
   ·have:=eq_of_beq e
    omega
   ·have:=eq_of_beq e
    omega)]
  refine ⟨?_,.str (b7M z k.toNat),H,I.tok _,⟨_,rfl⟩,q⟩
  have:=b2n z k.toNat
  have e:(sizeLine:Nat)=16777216:=rfl
  show (b7M z k.toNat).length≤sizeLine
  omega
theorem a0i.rep {g:Gd} {S:SS} {H:Hp} {ds:List D} {vs:List V} (h:a0i g S H ds vs):∀ k:Nat,a0i g S H (List.replicate k ds).flatten (List.replicate k vs).flatten
 | 0=>by simp only [List.replicate_zero,List.flatten_nil,a0i]
 | k + 1=>by
  rw [List.replicate_succ,List.replicate_succ,List.flatten_cons,List.flatten_cons]
  exact h.append (a0i.rep h k)
theorem a0k {S:SS} {H:Hp} {i:Int} {v:V} (h:Rep g S H (.int i) v):v=.int i:=by simpa only [Rep] using h
theorem a3f {S:SS} {H:Hp} {i:Bool} {v:V} (h:Rep g S H (.bl i) v):v=.bl i:=by simpa only [Rep] using h
theorem a0B {S:SS} {H:Hp} {i:Str} {v:V} (h:Rep g S H (.str i) v):v=.str i:=by simpa only [Rep] using h
theorem a6a {S:SS} {H:Hp} {v:V} (h:Rep g S H .non v):v=.non:=by simpa only [Rep] using h
theorem a0z {S:SS} {H:Hp} {a:Addr} {v:V} (h:Rep g S H (.obj a) v):v=.ref a:=by simpa only [Rep] using h
theorem a8G {S:SS} {H:Hp} {d:D} {i:Int} {v:V} (r:Rep g S H d v) (e:vw S d=.int i):v=.int i:=a0k (a3R r e (fun _ z=>nomatch z) (fun _ z=>nomatch z))
theorem b8K {S:SS} {H:Hp} {d:D} {i:Bool} {v:V} (r:Rep g S H d v) (e:vw S d=.bl i):v=.bl i:=a3f (a3R r e (fun _ z=>nomatch z) (fun _ z=>nomatch z))
theorem a3n {S:SS} {H:Hp} {d:D} {i:Str} {v:V} (r:Rep g S H d v) (e:vw S d=.str i):v=.str i:=a0B (a3R r e (fun _ z=>nomatch z) (fun _ z=>nomatch z))
theorem b3j {S:SS} {H:Hp} {d:D} {v:V} (r:Rep g S H d v) (e:vw S d=.non):v=.non:=a6a (a3R r e (fun _ z=>nomatch z) (fun _ z=>nomatch z))
theorem b5V (hK:g.K=X.K):OpR X (binaryOp .Add) (rD2 g b1m):=by
 intro pins s σ H v1 v2 u1 u2 Q I r1 r2 h
 obtain ⟨x,y,S,K,hc,p1,p2,ht,res⟩:=h
 unfold b1m at ht
 split at ht
 ·rename_i a b e1 e2
  obtain ⟨p,vs,rfl,hl,hr⟩:=a0r hc p1 e1
  obtain ⟨q,us,rfl,hl2,hr2⟩:=a0r hc p2 e2
  rw [hK] at hl hl2
  exact b0t pins s σ H _ _ _ _ Q I r1 r2 ⟨p,q,vs,us,rfl,rfl,hl,hl2,by rw [← hr.length,← hr2.length];exact ht.1,fun r hn=>res.lstC ht.2 hc (hr.append hr2) hn⟩
 ·exact ht.elim
theorem b7v (hK:g.K=X.K):∀ op:Operator,OpR X (binaryOp op) (rD2 g (opD op)):=by
 intro op pins s σ H v1 v2 u1 u2 Q I r1 r2 h
 obtain ⟨x,y,S,K,hc,p1,p2,ht,res⟩:=h
 cases op with
 | Add =>
  change b4P x y S K at ht
  unfold b4P at ht
  split at ht
  ·rename_i i j e1 e2
   cases a8G p1 e1
   cases a8G p2 e2
   exact op_add pins s σ H _ _ _ _ Q I r1 r2 ⟨i,j,rfl,rfl,res.int ht hc⟩
  ·rename_i i j e1 e2
   cases a3n p1 e1
   cases a3n p2 e2
   exact op_add_str pins s σ H _ _ _ _ Q I r1 r2 ⟨i,j,rfl,rfl,ht.1,res.str ht.2 hc⟩
  ·rename_i i j e1 e2
   obtain ⟨p,vs,rfl,hl,hr⟩:=a0r hc p1 e1
   obtain ⟨q,us,rfl,hl2,hr2⟩:=a0r hc p2 e2
   rw [hK] at hl hl2
   exact b0t pins s σ H _ _ _ _ Q I r1 r2 ⟨p,q,vs,us,rfl,rfl,hl,hl2,by rw [← hr.length,← hr2.length];exact ht.1,fun z hz=>res.lst ht.2 hc (hr.append hr2) hz⟩
  ·rename_i i j e1 e2
   obtain ⟨p,vs,rfl,hl,hr⟩:=a0H p1 e1
   obtain ⟨q,us,rfl,hl2,hr2⟩:=a0H p2 e2
   have hl':=hl
   have hl2':=hl2
   rw [hK] at hl hl2
   have f1:vw S x=x:=by
    cases x with
    | tup _=>rfl
    | obj a =>
     have e':(match S a with | some (.lst ds)=>D.lst ds | some (.dic k)=>.dic k | some (.loc k)=>.dic k | _=>.obj a)=.tup i:=e1
     cases q:S a with
     | none=>rw [q] at e';cases e'
     | some c=>rw [q] at e';cases c <;> cases e'
    | _=>cases e1
   have f2:vw S y=y:=by
    cases y with
    | tup _=>rfl
    | obj a =>
     have e':(match S a with | some (.lst ds)=>D.lst ds | some (.dic k)=>.dic k | some (.loc k)=>.dic k | _=>.obj a)=.tup j:=e2
     cases q:S a with
     | none=>rw [q] at e';cases e'
     | some c=>rw [q] at e';cases c <;> cases e'
    | _=>cases e2
   have g1:x=.tup i:=f1.symm.trans e1
   have g2:y=.tup j:=f2.symm.trans e2
   subst g1 g2
   refine op_catA pins s σ H _ _ _ _ Q I r1 r2 ⟨p,q,vs,us,rfl,rfl,hl,hl2,by rw [← hr.length,← hr2.length];exact ht.1,fun z=>?_,fun _ z=>?_,fun _ _ a ha=>res.tup ht.2 hc (hr.append hr2) ha⟩
   ·have hi:i=[]:=by
     have e:=hr.length
     rw [z] at e
     exact List.eq_nil_of_length_eq_zero e
    refine res.val (d:=.tup (i ++ j)) ht.2 hc ?_
    rw [hi]
    exact p2
   ·have hi:j=[]:=by
     have e:=hr2.length
     rw [z] at e
     exact List.eq_nil_of_length_eq_zero e
    refine res.val (d:=.tup (i ++ j)) ht.2 hc ?_
    rw [hi,List.append_nil]
    exact p1
  ·exact ht.elim
 | Sub =>
  change b4U x y S K at ht
  unfold b4U at ht
  split at ht
  ·rename_i i j
   cases a0k p1
   cases a0k p2
   exact op_sub pins s σ H _ _ _ _ Q I r1 r2 ⟨i,j,rfl,rfl,res.int ht hc⟩
  ·exact ht.elim
 | Mult =>
  change b4S x y S K at ht
  unfold b4S at ht
  split at ht
  ·rename_i i j
   cases a0k p1
   cases a0k p2
   rcases ht.1 with hm | hm
   ·exact op_mul pins s σ H _ _ _ _ Q I r1 r2 ⟨i,j,rfl,rfl,hm,res.int ht.2 hc⟩
   ·exact op_mulW pins s σ H _ _ _ _ Q I r1 r2 ⟨i,j,rfl,rfl,hm,res.int ht.2 hc⟩
  ·rename_i xs j
   cases a0k p2
   obtain ⟨p,vs,rfl,hl,hr⟩:=a0r hc p1 rfl
   rw [hK] at hl
   exact b4V pins s σ H _ _ _ _ Q I r1 r2 ⟨p,j,vs,rfl,rfl,hl,ht.1,ht.2.1,by rw [← hr.length];exact ht.2.2.1,fun z hz=>res.lst ht.2.2.2 hc (hr.rep _) hz⟩
  ·rename_i z j
   cases a0B p1
   cases a0k p2
   exact b4W pins s σ H _ _ _ _ Q I r1 r2 ⟨z,j,rfl,rfl,ht.1,ht.2.1,ht.2.2.1,ht.2.2.2.1,res.str ht.2.2.2.2 hc⟩
  ·exact ht.elim
 | FloorDiv =>
  change b4Q x y S K at ht
  unfold b4Q at ht
  split at ht
  ·rename_i i j
   cases a0k p1
   cases a0k p2
   exact op_fdivW pins s σ H _ _ _ _ Q I r1 r2 ⟨i,j,rfl,rfl,ht.1,res.int ht.2 hc⟩
  ·exact ht.elim
 | Mod =>
  change b4R x y S K at ht
  unfold b4R at ht
  split at ht
  ·rename_i i j
   cases a0k p1
   cases a0k p2
   exact op_mod pins s σ H _ _ _ _ Q I r1 r2 ⟨i,j,rfl,rfl,ht.1,res.int ht.2 hc⟩
  ·exact ht.elim
 | Pow =>
  change b4T x y S K at ht
  unfold b4T at ht
  split at ht
  ·rename_i i j
   cases a0k p1
   cases a0k p2
   exact op_pow pins s σ H _ _ _ _ Q I r1 r2 ⟨i,j,rfl,rfl,ht.1,res.int ht.2 hc⟩
  ·exact ht.elim
 | _=>exact False.elim ht
end
mutual
def D.py:D→PyData
 | .non=>.none | .bl b=>.bool b | .int i=>.int i | .str x=>.str x
 | .lst xs=>.list (D.pys xs) | .tup xs=>.tuple (D.pys xs)
 | _=>.none
def D.pys:List D→List PyData
 | []=>[] | d :: ds=>D.py d :: D.pys ds
end
mutual
def D.okd:Nat→D→Bool
 | _,.non=>true | _,.bl _=>true | _,.int _=>true | _,.str x=>PyData.strOk x
 | n,.lst xs=>decide (0 < n) && D.okds (n - 1) xs
 | n,.tup xs=>decide (0 < n) && D.okds (n - 1) xs
 | _,_=>false
def D.okds:Nat→List D→Bool
 | _,[]=>true | n,d :: ds=>D.okd n d && D.okds n ds
end
mutual
theorem a4z:∀ (d:D) (n:Nat),D.okd n d=true→d.py.canLay0=true∧d.py.depth≤n
 | .non,n,_=>by simp [D.py,PyData.canLay0,PyData.depth]
 | .bl _,n,_=>by simp [D.py,PyData.canLay0,PyData.depth]
 | .int _,n,_=>by simp [D.py,PyData.canLay0,PyData.depth]
 | .str _,n,h=>by simpa [D.py,PyData.canLay0,PyData.depth,D.okd] using h
 | .lst xs,n,h=>by
  simp only [D.okd,zak,zah] at h
  have q:=a5X xs (n - 1) h.2
  simp only [D.py,PyData.canLay0,PyData.depth]
  exact ⟨q.1,by omega⟩
 | .tup xs,n,h=>by
  simp only [D.okd,zak,zah] at h
  have q:=a5X xs (n - 1) h.2
  simp only [D.py,PyData.canLay0,PyData.depth]
  exact ⟨q.1,by omega⟩
 | .dic _,n,h=>by simp [D.okd] at h
 | .obj _,n,h=>by simp [D.okd] at h
 | .exc _ _ _ _,n,h=>by simp [D.okd] at h
 | .err _ _ _ _,n,h=>by simp [D.okd] at h
theorem a5X:∀ (ds:List D) (n:Nat),D.okds n ds=true→PyData.canLayAll0 (D.pys ds)=true∧PyData.depthAll (D.pys ds)≤n
 | [],n,_=>by simp [D.pys,PyData.canLayAll0,PyData.depthAll]
 | d :: ds,n,h=>by
  simp only [D.okds,zak] at h
  have q:=a4z d n h.1
  have q2:=a5X ds n h.2
  simp only [D.pys,PyData.canLayAll0,PyData.depthAll,zak]
  exact ⟨⟨q.1,q2.1⟩,by omega⟩
end
section
variable {X:Cx} {g:Gd} {S:SS} {H:Hp}
mutual
theorem a5c:∀ {d:D} {v:V} (n:Nat),D.okd n d=true→Rep g S H d v→Dp g.K H v d.py
 | .non,_,n,_,r=>by simp only [Rep] at r;subst r;exact .non
 | .bl _,_,n,_,r=>by simp only [Rep] at r;subst r;exact .bl _
 | .int _,_,n,_,r=>by simp only [Rep] at r;subst r;exact .int _
 | .str _,_,n,_,r=>by simp only [Rep] at r;subst r;exact .str _
 | .lst xs,_,n,h,r=>by
  simp only [D.okd,zak] at h
  simp only [Rep] at r
  obtain ⟨p,vs,rfl,a,b⟩:=r
  exact .lst a.sq (a4n (n - 1) h.2 b)
 | .tup xs,_,n,h,r=>by
  simp only [D.okd,zak] at h
  simp only [Rep] at r
  obtain ⟨p,vs,rfl,a,b⟩:=r
  exact .tup a.sq (a4n (n - 1) h.2 b)
 | .dic _,_,n,h,_=>by simp [D.okd] at h
 | .obj _,_,n,h,_=>by simp [D.okd] at h
 | .exc _ _ _ _,_,n,h,_=>by simp [D.okd] at h
 | .err _ _ _ _,_,n,h,_=>by simp [D.okd] at h
theorem a4n:∀ {ds:List D} {vs:List V} (n:Nat),D.okds n ds=true→a0i g S H ds vs→DpAll g.K H vs (D.pys ds)
 | [],_,n,_,r=>by simp only [a0i] at r;subst r;exact .nil
 | d :: ds,_,n,h,r=>by
  simp only [D.okds,zak] at h
  simp only [a0i] at r
  obtain ⟨v,q,rfl,a,b⟩:=r
  exact .cons (a5c n h.1 a) (a4n n h.2 b)
end
theorem a3y {d x:D} {v:V} (hc:CellsOk g S H) (r:Rep g S H d v) (e:vw S d=x) (h:D.okd 60 x=true):Dp g.K H v x.py:=by
 cases x with
 | lst ds =>
  obtain ⟨p,vs,rfl,hl,hr⟩:=a0r hc r e
  simp only [D.okd,zak] at h
  exact .lst hl (a4n _ h.2 hr)
 | tup ds =>
  obtain ⟨p,vs,rfl,hl,hr⟩:=a0H r e
  simp only [D.okd,zak] at h
  exact .tup hl (a4n _ h.2 hr)
 | dic ds=>simp [D.okd] at h
 | obj a=>simp [D.okd] at h
 | exc _ _ _ _=>simp [D.okd] at h
 | err _ _ _ _=>simp [D.okd] at h
 | non=>exact a5c 60 h (a3R r e (fun _ z=>nomatch z) (fun _ z=>nomatch z))
 | bl _=>exact a5c 60 h (a3R r e (fun _ z=>nomatch z) (fun _ z=>nomatch z))
 | int _=>exact a5c 60 h (a3R r e (fun _ z=>nomatch z) (fun _ z=>nomatch z))
 | str _=>exact a5c 60 h (a3R r e (fun _ z=>nomatch z) (fun _ z=>nomatch z))
theorem a8R (hc : CellsOk g S H) : ∀ (n : Nat) {d : D} {v : V} (m : Nat), D.okd m (dv S n d) = true → Rep g S H d v → Dp g.K H v (dv S n d).py
  | 0, d, v, m, h, r => a5c m h r
  | n + 1, d, v, m, h, r => by
    have all : ∀ (ds : List D) {vs : List V} (m : Nat), D.okds m (ds.map (dv S n)) = true → a0i g S H ds vs → DpAll g.K H vs (D.pys (ds.map (dv S n))) := by
      intro ds
      induction ds with
      | nil =>
        intro vs m _ r
        simp only [a0i] at r
        subst r
        exact .nil
      | cons d ds ih =>
        intro vs m h r
        simp only [zax, D.okds, zak] at h
        simp only [a0i] at r
        obtain ⟨v, q, rfl, a, b⟩ := r
        exact .cons (a8R hc n m h.1 a) (ih m h.2 b)
    cases e : vw S d with
    | lst ds =>
      have ed : dv S (n + 1) d = .lst (ds.map (dv S n)) := by simp only [dv, e]
      rw [ed] at h ⊢
      obtain ⟨p, vs, rfl, hl, hr⟩ := a0r hc r e
      simp only [D.okd, zak] at h
      exact .lst hl (all ds _ h.2 hr)
    | tup ds =>
      have ed : dv S (n + 1) d = .tup (ds.map (dv S n)) := by simp only [dv, e]
      rw [ed] at h ⊢
      obtain ⟨p, vs, rfl, hl, hr⟩ := a0H r e
      simp only [D.okd, zak] at h
      exact .tup hl (all ds _ h.2 hr)
    | dic ds => have ed : dv S (n + 1) d = .dic ds := by simp only [dv, e]
                rw [ed] at h; simp [D.okd] at h
    | obj a => have ed : dv S (n + 1) d = .obj a := by simp only [dv, e]
               rw [ed] at h; simp [D.okd] at h
    | exc a b c x => have ed : dv S (n + 1) d = .exc a b c x := by simp only [dv, e]
                     rw [ed] at h; simp [D.okd] at h
    | err a b c x => have ed : dv S (n + 1) d = .err a b c x := by simp only [dv, e]
                     rw [ed] at h; simp [D.okd] at h
    | non => have ed : dv S (n + 1) d = .non := by simp only [dv, e]
             rw [ed] at h ⊢; exact a5c m h (a3R r e (fun _ z => nomatch z) (fun _ z => nomatch z))
    | bl x => have ed : dv S (n + 1) d = .bl x := by simp only [dv, e]
              rw [ed] at h ⊢; exact a5c m h (a3R r e (fun _ z => nomatch z) (fun _ z => nomatch z))
    | int x => have ed : dv S (n + 1) d = .int x := by simp only [dv, e]
               rw [ed] at h ⊢; exact a5c m h (a3R r e (fun _ z => nomatch z) (fun _ z => nomatch z))
    | str x => have ed : dv S (n + 1) d = .str x := by simp only [dv, e]
               rw [ed] at h ⊢; exact a5c m h (a3R r e (fun _ z => nomatch z) (fun _ z => nomatch z))
theorem a0t {d:D} (h:D.okd 60 d=true):SeqAt.shaped d.py=true:=by
 have q:=a4z d 60 h
 unfold SeqAt.shaped
 rw [q.1,zbg (by omega:d.py.depth≤64)]
 rfl
end
def D.eqv (x y:D):Bool:=PyData.eqv x.py y.py
def cEq (neg:Bool) (x y:D) (S:SS) (Q:DK):Prop:=(D.okd 60 (vw S x)=true∧D.okd 60 (vw S y)=true∧Q (.bl (neg ^^ D.eqv (vw S x) (vw S y))) S)∨(∃ a b,x=.str a∧y=.str b∧Q (.bl (neg ^^ decide (a=b))) S)∨(D.okd 60 (dv S 60 x)=true∧D.okd 60 (dv S 60 y)=true∧Q (.bl (neg ^^ D.eqv (dv S 60 x) (dv S 60 y))) S)∨(∃ p kvs,x=.obj p∧S p=some (.dic kvs)∧y=.dic []∧Q (.bl (neg ^^ kvs.isEmpty)) S)∨(∃ ds es,vw S x=.lst ds∧vw S y=.lst es∧ds.length≠es.length∧Q (.bl neg) S)
def cLt (f:Int→Int→Bool) (h:List Nat→List Nat→Bool) (x y:D) (S:SS) (Q:DK):Prop:=match x,y with
 | .int i,.int j=>Q (.bl (f i j)) S
 | .str a,.str b=>Q (.bl (h a.cps.toList b.cps.toList)) S
 | _,_=>False
def keyD:D→Option Key
 | .int i=>some (.inl i) | .str x=>some (.inr x) | _=>none
def valD (kvs:List (Key × D)) (k:Key):Option D:=(kvs.find? fun kv=>decide (kv.1=k)).map (·.2)
def putD (kvs:List (Key × D)) (k:Key) (v:D):List (Key × D) :=
 if (kvs.any fun kv=>decide (kv.1=k))=true then kvs.map fun kv=>if kv.1=k then (kv.1,v) else kv else kvs ++ [(k,v)]
def a5L (kvs:List (Key × D)) (k:Key):List (Key × D):=kvs.filter fun kv=>decide (kv.1≠k)
def cIn (neg:Bool) (x y:D) (S:SS) (Q:DK):Prop:=match vw S y with
 | .lst ds=>D.okd 60 (vw S x)=true∧D.okds 59 ds=true∧Q (.bl (neg ^^ ds.any fun z=>D.eqv z (vw S x))) S
 | .tup ds=>(∃ z,x=.str z∧∃ zs:List Str,ds=zs.map D.str∧Q (.bl (neg ^^ zs.any fun y=>y == z)) S)∨(∃ z,x=.int z∧∃ zs:List Int,ds=zs.map D.int∧Q (.bl (neg ^^ zs.any fun y=>y == z)) S)
 | .str b=>match x with
  | .str a=>a.length=1∧Q (.bl (neg ^^ decide (a.cps.getD 0 0∈b.cps.toList))) S
  | _=>False
 | .dic kvs=>∃ k,keyD x=some k∧Q (.bl (neg ^^ (valD kvs k).isSome)) S
 | _=>False
def isNon:D→Bool
 | .non=>true | _=>false
def cIs (neg:Bool) (x y:D) (S:SS) (Q:DK):Prop:=match y with
 | .non=>Q (.bl (neg ^^ isNon x)) S
 | .bl b=>∃ a,x=.bl a∧Q (.bl (neg ^^ decide (a=b))) S
 | _=>False
def c3M:CmpOp→D→D→SS→DK→Prop
 | .Eq=>cEq false | .NotEq=>cEq true
 | .Lt=>cLt (fun i j=>decide (i < j)) (fun a b=>decide (a < b)) | .LtE=>cLt (fun i j=>decide (i≤j)) (fun a b=>!decide (b < a))
 | .Gt=>cLt (fun i j=>decide (j < i)) (fun a b=>decide (b < a)) | .GtE=>cLt (fun i j=>decide (j≤i)) (fun a b=>!decide (a < b))
 | .In=>cIn false | .NotIn=>cIn true | .Is=>cIs false | .IsNot=>cIs true
section
variable {X:Cx} {g:Gd} {S:SS} {H:Hp}
theorem a1P {ds:List (Key × D)} {vs:List (Key × V)} (h:a0V g S H ds vs) (k:Key):(valD ds k=none∧valV vs k=none)∨∃ d v,valD ds k=some d∧valV vs k=some v∧Rep g S H d v:=by
 have q:=a05 h
 clear h
 induction q with
 | nil=>exact .inl ⟨rfl,rfl⟩
 | @cons x y l l2 r _ ih =>
  obtain ⟨k1,d1⟩:=x
  obtain ⟨k2,v2⟩:=y
  obtain ⟨e,r⟩:=r
  cases e
  by_cases z:k1=k
  ·refine .inr ⟨d1,v2,?_,valV_pos z,r⟩
   simp [valD,List.find?_cons,z]
  ·have e1:valD ((k1,d1) :: l) k=valD l k:=by simp [valD,List.find?_cons,z]
   rw [e1,valV_neg z]
   exact ih
theorem a67 {ds:List (Key × D)} {vs:List (Key × V)} (h:a0V g S H ds vs) (k:Key):(valV vs k).isSome=(valD ds k).isSome:=by
 rcases a1P h k with ⟨a,b⟩ | ⟨d,v,a,b,_⟩ <;> rw [a,b] <;> rfl
theorem a7I {ds:List (Key × D)} {vs:List (Key × V)} (h:a0V g S H ds vs) (k:Key) {d:D} {v:V} (r:Rep g S H d v):a0V g S H (putD ds k d) (putK vs k v):=by
 have q:=a05 h
 refine b0p ?_
 have ea:(ds.any fun kv=>decide (kv.1=k))=(vs.any fun kv=>decide (kv.1=k)):=by
  clear h
  induction q with
  | nil=>rfl
  | cons r _ ih=>rw [List.any_cons,List.any_cons,ih,r.1]
 unfold putD putK
 rw [ea]
 split
 ·rename_i hz
  clear h ea hz
  induction q with
  | nil=>exact .nil
  | @cons x y l l2 r1 _ ih =>
   rw [zax,zax]
   refine .cons ?_ ih
   obtain ⟨k1,d1⟩:=x
   obtain ⟨k2,v2⟩:=y
   obtain ⟨e,r1⟩:=r1
   cases e
   dsimp only
   split <;> rename_i z
   ·exact ⟨rfl,r⟩
   ·exact ⟨rfl,r1⟩
 ·exact a6R q (.cons ⟨rfl,r⟩ .nil)
end
end Sv
namespace Sv
open PySem PySem.Spec PyProof.Rows L2
def a2d:D→Bool
 | .non=>true | .bl _=>true | .int _=>true | .str _=>true | _=>false
section
variable {X:Cx} {g:Gd} {S:SS} {H:Hp}
theorem a3g {d:D} {v:V} (h:a2d d=true) (r:Rep g S H d v):flatV v=true:=by
 cases d <;> simp only [Rep] at r <;> first | (subst r;rfl) | cases h
theorem a2g:∀ {ds:List D} {vs:List V},ds.all a2d=true→a0i g S H ds vs→vs.all flatV=true
 | [],_,_,r=>by simp only [a0i] at r;subst r;rfl
 | d :: ds,_,h,r=>by
  simp only [a0i] at r
  obtain ⟨v,q,rfl,a,b⟩:=r
  rw [List.all_cons,zak] at h
  rw [List.all_cons,a3g h.1 a,a2g h.2 b];rfl
theorem a4q {d e:D} {v u:V} (h:a2d d=true) (h2:a2d e=true) (r:Rep g S H d v) (r2:Rep g S H e u):eqV v u=D.eqv d e:=by
 cases d <;> (first | (cases h;done) | skip) <;> cases e <;> (first | (cases h2;done) | skip) <;> simp only [Rep] at r r2 <;> subst r r2 <;> simp [eqV,D.eqv,D.py,PyData.eqv]
theorem a7t {x:D} {u:V} (h:a2d x=true) (rx:Rep g S H x u):∀ {ds:List D} {vs:List V},ds.all a2d=true→a0i g S H ds vs→inV u vs=ds.any fun z=>D.eqv z x
 | [],_,_,r=>by simp only [a0i] at r;subst r;rfl
 | d :: ds,_,hd,r=>by
  simp only [a0i] at r
  obtain ⟨v,q,rfl,a,b⟩:=r
  rw [List.all_cons,zak] at hd
  have ih:=a7t h rx hd.2 b
  unfold inV at ih ⊢
  rw [List.any_cons,List.any_cons,ih,a4q hd.1 h a rx]
theorem a6w {d:D} {v:V} (r:Rep g S H d v):decide (v=.non)=isNon d:=by
 cases d with
 | non=>simp only [Rep] at r;subst r;rfl
 | bl _=>simp only [Rep] at r;subst r;rfl
 | int _=>simp only [Rep] at r;subst r;rfl
 | str _=>simp only [Rep] at r;subst r;rfl
 | obj _=>simp only [Rep] at r;subst r;rfl
 | lst _=>simp only [Rep] at r;obtain ⟨_,_,rfl,_⟩:=r;rfl
 | tup _=>simp only [Rep] at r;obtain ⟨_,_,rfl,_⟩:=r;rfl
 | dic _=>simp only [Rep] at r;obtain ⟨_,_,rfl,_⟩:=r;rfl
 | exc _ _ _ _=>simp only [Rep] at r;obtain ⟨_,rfl,_⟩:=r;rfl
 | err _ _ _ _=>simp only [Rep] at r;obtain ⟨_,rfl,_⟩:=r;rfl
theorem a1d {d:D} {k:Key} {v:V} (e:keyD d=some k) (r:Rep g S H d v):v=kV k:=by
 cases d <;> first | (cases e;done) | skip
 ·simp only [Rep] at r;cases e;exact r
 ·simp only [Rep] at r;cases e;exact r
theorem a7V {d:D} {ds:List D} (e:vw S d=.tup ds):d=.tup ds:=by
 cases d with
 | tup _=>exact e
 | obj a =>
  have e':(match S a with | some (.lst ds)=>D.lst ds | some (.dic k)=>.dic k | some (.loc k)=>.dic k | _=>.obj a)=.tup ds:=e
  cases q:S a with
  | none=>rw [q] at e';cases e'
  | some c=>rw [q] at e';cases c <;> cases e'
 | _=>cases e
end
def a5l (neg:Bool) (x y:D) (S:SS) (Q:DK):Prop:=match vw S y with
 | .lst ds=>D.okd 60 (vw S x)=true∧D.okds 59 ds=true∧Q (.bl (neg ^^ ds.any fun z=>D.eqv z (vw S x))) S
 | .tup ds=>(a2d x=true∧ds.all a2d=true∧Q (.bl (neg ^^ ds.any fun z=>D.eqv z x)) S)∨(D.okd 60 (vw S x)=true∧D.okds 59 ds=true∧Q (.bl (neg ^^ ds.any fun z=>D.eqv z (vw S x))) S)
 | .str b=>match x with
  | .str a=>∃ c,a=⟨#[c]⟩∧Q (.bl (neg ^^ decide (c∈b.cps.toList))) S
  | _=>False
 | .dic kvs=>∃ k,keyD x=some k∧Q (.bl (neg ^^ (valD kvs k).isSome)) S
 | _=>False
def c4r (x y:D) (S:SS) (Q:DK):Prop:=∃ ns ms:List Int,x=.tup (ns.map D.int)∧y=.tup (ms.map D.int)∧Q (.bl (HT.lexLt ns ms)) S
def a0I:CmpOp→D→D→SS→DK→Prop
 | .In=>a5l false | .NotIn=>a5l true | .Lt=>fun x y S Q=>c3M .Lt x y S Q∨c4r x y S Q | o=>c3M o
section
variable {X:Cx} {g:Gd}
theorem a71 {op:CmpOp} {f:Int→Int→Bool} {h:List Nat→List Nat→Bool} (hi:OpR X (compareOp op) (rI0 fun i j=>.bl (f i j)))
  (hs:OpR X (compareOp op) (fun x y H Q=>∃ i j,x=.str i∧y=.str j∧Q (.bl (h i.cps.toList j.cps.toList)) H)):OpR X (compareOp op) (rD2 g (cLt f h)):=by
 intro pins s σ H v1 v2 u1 u2 Q I r1 r2 hh
 obtain ⟨x,y,S,K,hc,p1,p2,ht,res⟩:=hh
 unfold cLt at ht
 split at ht
 ·cases a0k p1
  cases a0k p2
  exact hi pins s σ H _ _ _ _ Q I r1 r2 ⟨_,_,rfl,rfl,res.bl ht hc⟩
 ·cases a0B p1
  cases a0B p2
  exact hs pins s σ H _ _ _ _ Q I r1 r2 ⟨_,_,rfl,rfl,res.bl ht hc⟩
 ·exact ht.elim
theorem a4I {S:SS} {H:Hp}:∀ (ns:List Int) {vs:List V},a0i g S H (ns.map D.int) vs→vs=ns.map V.int
 | [],_,r=>by simp only [List.map_nil,a0i] at r;exact r
 | n :: ns,_,r=>by
  simp only [zax,a0i] at r
  obtain ⟨v,q,rfl,one,more⟩:=r
  rw [a0k one,a4I ns more,zax]
theorem a8b {X:Cx} {A:Around} {s:Shared} {ks:List (Key × V)} {va vb:List (Key × Value)} (ra:KV ks va) (rb:KV [] vb) (e:va.length=vb.length):PySem.W.KeqHits A s vb va true:=by
 cases rb
 cases ra with
 | nil=>exact .nil
 | cons _ _=>cases e
theorem b8L {S:SS} {b:Addr} {l:List (Key × D)} (h:S b=some (.dic l)):vw S (.obj b)=.dic l:=by simp only [vw,h]
theorem b0v {X:Cx} (hu:X.A.units < cLine):OpR X (compareOp .Eq) (fun x y H Q=>∃ a b ks,x=.ref a∧y=.ref b∧Rd H a (.dK ks)∧Rd H b (.dK [])∧Q (.bl (ks:List (Key × V)).isEmpty) H):=by
 intro pins s σ H x y v u Q I rx ry h
 obtain ⟨a,b,ks,rfl,rfl,ea,eb,q⟩:=h
 obtain rfl:v=Value.ref a:=rx
 obtain rfl:u=Value.ref b:=ry
 obtain ⟨_,ya,va,ra,da⟩:=dk_rd I.hok ea
 obtain ⟨_,yb,vb,rb,db⟩:=dk_rd I.hok eb
 have e1:ks.length=va.length:=ra.length
 have e2:0=vb.length:=rb.length
 exact PySem.W.keq_eq (knd:=mixKind X.prog X.w) (r:=true) ya yb da db hu (fun e=>a8b (X:=X) ra rb e) (fin_bl I q (by rw [← e1,← e2];cases ks <;> simp))
theorem b0x {X:Cx} (hu:X.A.units < cLine):OpR X (compareOp .NotEq) (fun x y H Q=>∃ a b ks,x=.ref a∧y=.ref b∧Rd H a (.dK ks)∧Rd H b (.dK [])∧Q (.bl (!(ks:List (Key × V)).isEmpty)) H):=by
 intro pins s σ H x y v u Q I rx ry h
 obtain ⟨a,b,ks,rfl,rfl,ea,eb,q⟩:=h
 obtain rfl:v=Value.ref a:=rx
 obtain rfl:u=Value.ref b:=ry
 obtain ⟨_,ya,va,ra,da⟩:=dk_rd I.hok ea
 obtain ⟨_,yb,vb,rb,db⟩:=dk_rd I.hok eb
 have e1:ks.length=va.length:=ra.length
 have e2:0=vb.length:=rb.length
 exact PySem.W.keq_ne (knd:=mixKind X.prog X.w) (r:=true) ya yb da db hu (fun e=>a8b (X:=X) ra rb e) (fin_bl I q (by rw [← e1,← e2];cases ks <;> simp))
theorem b0u {X:Cx} (hu:X.A.units < cLine):OpR X (compareOp .Eq) (fun x y H Q=>∃ a b xs ys,x=.ref a∧y=.ref b∧SqL X.K H a xs∧SqL X.K H b ys∧xs.length≠ys.length∧Q (.bl false) H):=by
 intro pins s σ H x y v u Q I rx ry h
 obtain ⟨a,b,xs,ys,rfl,rfl,ea,eb,ne,q⟩:=h
 obtain rfl:v=Value.ref a:=rx
 obtain rfl:u=Value.ref b:=ry
 obtain ⟨va,ra,pa,_⟩:=I.list ea
 obtain ⟨vb,rb,pb,_⟩:=I.list eb
 have la:=ra.length
 have lb:=rb.length
 exact SeqAt.RcAt.lists_lengths pa.isList pb.isList (by rw [List.size_toArray,List.size_toArray];exact bne_iff_ne.mpr (by omega)) hu X.prog X.w _ _ (fin_bl I q rfl)
theorem b0w {X:Cx} (hu:X.A.units < cLine):OpR X (compareOp .NotEq) (fun x y H Q=>∃ a b xs ys,x=.ref a∧y=.ref b∧SqL X.K H a xs∧SqL X.K H b ys∧xs.length≠ys.length∧Q (.bl true) H):=by
 intro pins s σ H x y v u Q I rx ry h
 obtain ⟨a,b,xs,ys,rfl,rfl,ea,eb,ne,q⟩:=h
 obtain rfl:v=Value.ref a:=rx
 obtain rfl:u=Value.ref b:=ry
 obtain ⟨va,ra,pa,_⟩:=I.list ea
 obtain ⟨vb,rb,pb,_⟩:=I.list eb
 have la:=ra.length
 have lb:=rb.length
 exact SeqAt.RcNeAt.lists_lengths pa.isList pb.isList (by rw [List.size_toArray,List.size_toArray];exact bne_iff_ne.mpr (by omega)) hu X.prog X.w _ _ (fin_bl I q rfl)
theorem b7w (hu:X.A.units + 65 < cLine):OpR X (compareOp .In) (fun x y H Q=>∃ d ds,Dp X.K H x d∧Dp X.K H y (.tuple ds)∧SeqAt.shaped d=true∧SeqAt.shaped (.tuple ds)=true∧Q (.bl ((ds.any fun z=>PyData.eqv z d))) H):=by
 intro pins s σ H x y v u Q I rx ry h
 obtain ⟨d,ds,hd,he,sd,se,q⟩:=h
 obtain ⟨as,r1⟩:=Dp.reads I d x v hd rx
 obtain ⟨bs,r2⟩:=Dp.reads I (.tuple ds) y u he ry
 exact SeqAt.in_tuple_reads r2 r1 (SeqAt.canLay_of_shaped se) (SeqAt.canLay_of_shaped sd) (room_in_shaped sd hu) ⟨.bl _,H,I,rfl,q⟩
theorem b0y (hu:X.A.units + 65 < cLine):OpR X (compareOp .NotIn) (fun x y H Q=>∃ d ds,Dp X.K H x d∧Dp X.K H y (.tuple ds)∧SeqAt.shaped d=true∧SeqAt.shaped (.tuple ds)=true∧Q (.bl (!(ds.any fun z=>PyData.eqv z d))) H):=by
 intro pins s σ H x y v u Q I rx ry h
 obtain ⟨d,ds,hd,he,sd,se,q⟩:=h
 obtain ⟨as,r1⟩:=Dp.reads I d x v hd rx
 obtain ⟨bs,r2⟩:=Dp.reads I (.tuple ds) y u he ry
 exact SeqAt.notIn_tuple_reads r2 r1 (SeqAt.canLay_of_shaped se) (SeqAt.canLay_of_shaped sd) (room_in_shaped sd hu) ⟨.bl _,H,I,rfl,q⟩
theorem a3x (hK:g.K=X.K) (hu:X.A.units + 65 < cLine):∀ op:CmpOp,OpR X (compareOp op) (rD2 g (a0I op)):=by
 intro op
 cases op with
 | Eq =>
  intro pins s σ H v1 v2 u1 u2 Q I r1 r2 ⟨x,y,S,K,hc,p1,p2,ht,res⟩
  rcases ht with ⟨o1,o2,k⟩ | ⟨a,b,rfl,rfl,k⟩ | ⟨o1,o2,k⟩ | ⟨p,kvs,rfl,hp,rfl,k⟩ | ⟨ds,es,e1,e2,ne,k⟩
  case inr.inr.inr.inr =>
   obtain ⟨p',vs,rfl,hl,hr⟩:=a0r hc p1 e1
   obtain ⟨b',ws,rfl,hl2,hr2⟩:=a0r hc p2 e2
   rw [hK] at hl hl2
   exact b0u (by omega) pins s σ H _ _ _ _ Q I r1 r2 ⟨p',b',vs,ws,rfl,rfl,hl,hl2,by rw [← hr.length,← hr2.length];exact ne,res.bl k hc⟩
  case inr.inr.inr.inl =>
   obtain ⟨p',vs,rfl,hl,hr⟩:=a1H hc p1 (b8L hp)
   obtain ⟨b',ws,rfl,hl2,hr2⟩:=a1H hc p2 rfl
   have ew:ws=[]:=by simpa only [a0V] using hr2
   subst ew
   have es:vs.isEmpty=kvs.isEmpty:=by cases a05 hr <;> rfl
   rw [Bool.false_xor,← es] at k
   exact b0v (by omega) pins s σ H _ _ _ _ Q I r1 r2 ⟨p',b',vs,rfl,rfl,hl,hl2,res.bl k hc⟩
  case inr.inr.inl =>
   rw [Bool.false_xor] at k
   exact op_eqD (by omega) pins s σ H _ _ _ _ Q I r1 r2 ⟨_,_,hK ▸ a8R hc 60 60 o1 p1,hK ▸ a8R hc 60 60 o2 p2,a0t o1,a0t o2,res.bl k hc⟩
  case inr.inl =>
   cases a0B p1
   cases a0B p2
   rw [Bool.false_xor] at k
   exact op_eq pins s σ H _ _ _ _ Q I r1 r2 ⟨rfl,by rw [show decide (V.str a=V.str b)=decide (a=b) from decide_eq_decide.mpr ⟨fun h=>by cases h;rfl,fun h=>by rw [h]⟩];exact res.bl k hc⟩
  rw [Bool.false_xor] at k
  exact op_eqD (by omega) pins s σ H _ _ _ _ Q I r1 r2 ⟨_,_,hK ▸ a3y hc p1 rfl o1,hK ▸ a3y hc p2 rfl o2,a0t o1,a0t o2,res.bl k hc⟩
 | NotEq =>
  intro pins s σ H v1 v2 u1 u2 Q I r1 r2 ⟨x,y,S,K,hc,p1,p2,ht,res⟩
  rcases ht with ⟨o1,o2,k⟩ | ⟨a,b,rfl,rfl,k⟩ | ⟨o1,o2,k⟩ | ⟨p,kvs,rfl,hp,rfl,k⟩ | ⟨ds,es,e1,e2,ne,k⟩
  case inr.inr.inr.inr =>
   obtain ⟨p',vs,rfl,hl,hr⟩:=a0r hc p1 e1
   obtain ⟨b',ws,rfl,hl2,hr2⟩:=a0r hc p2 e2
   rw [hK] at hl hl2
   exact b0w (by omega) pins s σ H _ _ _ _ Q I r1 r2 ⟨p',b',vs,ws,rfl,rfl,hl,hl2,by rw [← hr.length,← hr2.length];exact ne,res.bl k hc⟩
  case inr.inr.inr.inl =>
   obtain ⟨p',vs,rfl,hl,hr⟩:=a1H hc p1 (b8L hp)
   obtain ⟨b',ws,rfl,hl2,hr2⟩:=a1H hc p2 rfl
   have ew:ws=[]:=by simpa only [a0V] using hr2
   subst ew
   have es:vs.isEmpty=kvs.isEmpty:=by cases a05 hr <;> rfl
   rw [Bool.true_xor,← es] at k
   exact b0x (by omega) pins s σ H _ _ _ _ Q I r1 r2 ⟨p',b',vs,rfl,rfl,hl,hl2,res.bl k hc⟩
  case inr.inr.inl =>
   rw [Bool.true_xor] at k
   exact op_neD (by omega) pins s σ H _ _ _ _ Q I r1 r2 ⟨_,_,hK ▸ a8R hc 60 60 o1 p1,hK ▸ a8R hc 60 60 o2 p2,a0t o1,a0t o2,res.bl k hc⟩
  case inr.inl =>
   cases a0B p1
   cases a0B p2
   rw [Bool.true_xor] at k
   exact op_ne pins s σ H _ _ _ _ Q I r1 r2 ⟨rfl,by rw [show decide (V.str a=V.str b)=decide (a=b) from decide_eq_decide.mpr ⟨fun h=>by cases h;rfl,fun h=>by rw [h]⟩];exact res.bl k hc⟩
  rw [Bool.true_xor] at k
  exact op_neD (by omega) pins s σ H _ _ _ _ Q I r1 r2 ⟨_,_,hK ▸ a3y hc p1 rfl o1,hK ▸ a3y hc p2 rfl o2,a0t o1,a0t o2,res.bl k hc⟩
 | Lt =>
  intro pins s σ H v1 v2 u1 u2 Q I r1 r2 ⟨x,y,S,K,hc,p1,p2,ht,res⟩
  rcases ht with ht | ⟨ns,ms,rfl,rfl,k⟩
  ·exact a71 (f:=fun i j=>decide (i < j)) (h:=fun a b=>decide (a < b)) op_lt op_lt_str pins s σ H v1 v2 u1 u2 Q I r1 r2 ⟨x,y,S,K,hc,p1,p2,ht,res⟩
  ·obtain ⟨a,vs,rfl,hl,hr⟩:=a0H p1 rfl
   obtain ⟨b,ws,rfl,hl2,hr2⟩:=a0H p2 rfl
   have e1:=a4I ns hr
   have e2:=a4I ms hr2
   subst e1 e2
   exact op_ltT (by omega) pins s σ H _ _ _ _ Q I r1 r2 ⟨a,b,ns,ms,rfl,rfl,hK ▸ hl,hK ▸ hl2,res.bl k hc⟩
 | LtE=>exact a71 (f:=fun i j=>decide (i≤j)) (h:=fun a b=>!decide (b < a)) op_le op_le_str
 | Gt=>exact a71 (f:=fun i j=>decide (j < i)) (h:=fun a b=>decide (b < a)) op_gt op_gt_str
 | GtE=>exact a71 (f:=fun i j=>decide (j≤i)) (h:=fun a b=>!decide (a < b)) op_ge op_ge_str
 | Is =>
  intro pins s σ H v1 v2 u1 u2 Q I r1 r2 ⟨x,y,S,K,hc,p1,p2,ht,res⟩
  change cIs false x y S K at ht
  unfold cIs at ht
  split at ht
  ·cases a6a p2
   rw [Bool.false_xor] at ht
   exact op_isN pins s σ H _ _ _ _ Q I r1 r2 ⟨rfl,by rw [a6w p1];exact res.bl ht hc⟩
  ·obtain ⟨a,rfl,ht⟩:=ht
   cases a3f p1
   cases a3f p2
   rw [Bool.false_xor] at ht
   exact op_isBl pins s σ H _ _ _ _ Q I r1 r2 ⟨_,_,rfl,rfl,res.bl ht hc⟩
  ·exact ht.elim
 | IsNot =>
  intro pins s σ H v1 v2 u1 u2 Q I r1 r2 ⟨x,y,S,K,hc,p1,p2,ht,res⟩
  change cIs true x y S K at ht
  unfold cIs at ht
  split at ht
  ·cases a6a p2
   rw [Bool.true_xor] at ht
   exact op_notN pins s σ H _ _ _ _ Q I r1 r2 ⟨rfl,by rw [a6w p1];exact res.bl ht hc⟩
  ·obtain ⟨a,rfl,ht⟩:=ht
   cases a3f p1
   cases a3f p2
   rw [Bool.true_xor] at ht
   exact op_notBl pins s σ H _ _ _ _ Q I r1 r2 ⟨_,_,rfl,rfl,res.bl ht hc⟩
  ·exact ht.elim
 | In =>
  intro pins s σ H v1 v2 u1 u2 Q I r1 r2 ⟨x,y,S,K,hc,p1,p2,ht,res⟩
  change a5l false x y S K at ht
  unfold a5l at ht
  split at ht
  ·rename_i ds e
   obtain ⟨o1,o2,k⟩:=ht
   rw [Bool.false_xor] at k
   have o3:D.okd 60 (.lst ds)=true:=by simp only [D.okd,zak];exact ⟨rfl,o2⟩
   have w:((D.pys ds).any fun z=>PyData.eqv z (vw S x).py)=ds.any fun z=>D.eqv z (vw S x):=by
    clear e o2 k o3
    induction ds with
    | nil=>rfl
    | cons a l ih=>rw [D.pys,List.any_cons,List.any_cons,ih];rfl
   exact op_inD hu pins s σ H _ _ _ _ Q I r1 r2 ⟨(vw S x).py,D.pys ds,hK ▸ a3y hc p1 rfl o1,hK ▸ a3y hc p2 e o3,a0t o1,a0t o3,by rw [w];exact res.bl k hc⟩
  ·rename_i ds e
   rcases ht with ⟨f1,f2,k⟩ | ⟨o1,o2,k⟩
   case inr =>
    rw [Bool.false_xor] at k
    have o3:D.okd 60 (.tup ds)=true:=by simp only [D.okd,zak];exact ⟨rfl,o2⟩
    have w:((D.pys ds).any fun z=>PyData.eqv z (vw S x).py)=ds.any fun z=>D.eqv z (vw S x):=by
     clear e o2 k o3
     induction ds with
     | nil=>rfl
     | cons a l ih=>rw [D.pys,List.any_cons,List.any_cons,ih];rfl
    exact b7w hu pins s σ H _ _ _ _ Q I r1 r2 ⟨(vw S x).py,D.pys ds,hK ▸ a3y hc p1 rfl o1,hK ▸ a3y hc p2 e o3,a0t o1,a0t o3,by rw [w];exact res.bl k hc⟩
   obtain ⟨p,vs,rfl,hl,hr⟩:=a0H p2 e
   rw [hK] at hl
   rw [Bool.false_xor] at k
   exact op_in_seq pins s σ H _ _ _ _ Q I r1 r2 ⟨p,vs,rfl,.inr hl,a3g f1 p1,a2g f2 hr,by rw [a7t f1 p1 f2 hr];exact res.bl k hc⟩
  ·rename_i b e
   cases a3n p2 e
   split at ht
   ·obtain ⟨c,rfl,k⟩:=ht
    cases a0B p1
    rw [Bool.false_xor] at k
    exact op_in_sign pins s σ H _ _ _ _ Q I r1 r2 ⟨c,b,rfl,rfl,res.bl k hc⟩
   ·exact ht.elim
  ·rename_i kvs e
   obtain ⟨k,ek,q⟩:=ht
   obtain ⟨p,vs,rfl,hl,hr⟩:=a1H hc p2 e
   cases a1d ek p1
   cases (show u2=Value.ref p from r2)
   rw [Bool.false_xor] at q
   exact d_in (by omega) I (.inl ⟨vs,k,hl,rfl,rfl⟩) r1 fun s' I'=>⟨.bl _,H,I',rfl,by rw [a67 hr];exact res.bl q hc⟩
  ·exact ht.elim
 | NotIn =>
  intro pins s σ H v1 v2 u1 u2 Q I r1 r2 ⟨x,y,S,K,hc,p1,p2,ht,res⟩
  change a5l true x y S K at ht
  unfold a5l at ht
  split at ht
  ·rename_i ds e
   obtain ⟨o1,o2,k⟩:=ht
   rw [Bool.true_xor] at k
   have o3:D.okd 60 (.lst ds)=true:=by simp only [D.okd,zak];exact ⟨rfl,o2⟩
   have w:((D.pys ds).any fun z=>PyData.eqv z (vw S x).py)=ds.any fun z=>D.eqv z (vw S x):=by
    clear e o2 k o3
    induction ds with
    | nil=>rfl
    | cons a l ih=>rw [D.pys,List.any_cons,List.any_cons,ih];rfl
   exact op_notInD hu pins s σ H _ _ _ _ Q I r1 r2 ⟨(vw S x).py,D.pys ds,hK ▸ a3y hc p1 rfl o1,hK ▸ a3y hc p2 e o3,a0t o1,a0t o3,by rw [w];exact res.bl k hc⟩
  ·rename_i ds e
   rcases ht with ⟨f1,f2,k⟩ | ⟨o1,o2,k⟩
   case inr =>
    rw [Bool.true_xor] at k
    have o3:D.okd 60 (.tup ds)=true:=by simp only [D.okd,zak];exact ⟨rfl,o2⟩
    have w:((D.pys ds).any fun z=>PyData.eqv z (vw S x).py)=ds.any fun z=>D.eqv z (vw S x):=by
     clear e o2 k o3
     induction ds with
     | nil=>rfl
     | cons a l ih=>rw [D.pys,List.any_cons,List.any_cons,ih];rfl
    exact b0y hu pins s σ H _ _ _ _ Q I r1 r2 ⟨(vw S x).py,D.pys ds,hK ▸ a3y hc p1 rfl o1,hK ▸ a3y hc p2 e o3,a0t o1,a0t o3,by rw [w];exact res.bl k hc⟩
   obtain ⟨p,vs,rfl,hl,hr⟩:=a0H p2 e
   rw [hK] at hl
   rw [Bool.true_xor] at k
   exact op_notIn_seq pins s σ H _ _ _ _ Q I r1 r2 ⟨p,vs,rfl,.inr hl,a3g f1 p1,a2g f2 hr,by rw [a7t f1 p1 f2 hr];exact res.bl k hc⟩
  ·rename_i b e
   cases a3n p2 e
   split at ht
   ·obtain ⟨c,rfl,k⟩:=ht
    cases a0B p1
    rw [Bool.true_xor] at k
    exact op_notIn_sign pins s σ H _ _ _ _ Q I r1 r2 ⟨c,b,rfl,rfl,res.bl k hc⟩
   ·exact ht.elim
  ·rename_i kvs e
   obtain ⟨k,ek,q⟩:=ht
   obtain ⟨p,vs,rfl,hl,hr⟩:=a1H hc p2 e
   cases a1d ek p1
   cases (show u2=Value.ref p from r2)
   rw [Bool.true_xor] at q
   exact d_notIn (by omega) I (.inl ⟨vs,k,hl,rfl,rfl⟩) r1 fun s' I'=>⟨.bl _,H,I',rfl,by rw [a67 hr];exact res.bl q hc⟩
  ·exact ht.elim
end
def ixD (x y:D) (S:SS) (Q:DK):Prop:=match vw S x with
 | .lst ds=>match y with
  | .int i=>∃ d,atI ds i=some d∧Q d S
  | _=>False
 | .tup ds=>match y with
  | .int i=>∃ d,atI ds i=some d∧Q d S
  | _=>False
 | .str z=>match y with
  | .int i=>∃ c,z.length≤sizeLine∧atI z.cps.toList i=some c∧Q (.str ⟨#[c]⟩) S
  | _=>False
 | .dic kvs=>∃ k d,keyD y=some k∧valD kvs k=some d∧Q d S
 | _=>False
section
variable {X:Cx} {g:Gd}
theorem b4q (hu:X.A.units + 1 < cLine):IxR X (fun x y H Q=>∃ a v,x=.ref a∧DGet H a y (some v)∧Q v H):=by
 intro value slice pins s σ H x y v u Q I rx ry h hs
 obtain ⟨a,w,rfl,g,q⟩:=h
 cases (show v=Value.ref a from rx)
 exact tail_any (dict_typeIs I g) PySem.F.slot_dict_getitem.lookup (d_getItem hu I g ry fun w' s3 I3 rw'=>⟨w,H,I3,rw',q⟩) hs
theorem b7b (hK:g.K=X.K) (hu:X.A.units + 65 < cLine):IxR X (rD2 g ixD):=by
 intro value slice pins s σ H v1 v2 u1 u2 Q I r1 r2 h hs
 obtain ⟨x,y,S,K,hc,p1,p2,ht,res⟩:=h
 unfold ixD at ht
 split at ht
 ·rename_i ds e
  obtain ⟨p,vs,rfl,hl,hr⟩:=a0r hc p1 e
  rw [hK] at hl
  split at ht
  ·obtain ⟨d,ed,k⟩:=ht
   obtain ⟨w,ew,rw'⟩:=hr.at ed
   cases a0k p2
   exact ix_list value slice pins s σ H _ _ _ _ Q I r1 r2 ⟨p,vs,_,w,rfl,rfl,hl,ew,res.val k hc rw'⟩ hs
  ·exact ht.elim
 ·rename_i ds e
  obtain ⟨p,vs,rfl,hl,hr⟩:=a0H p1 e
  rw [hK] at hl
  split at ht
  ·obtain ⟨d,ed,k⟩:=ht
   obtain ⟨w,ew,rw'⟩:=hr.at ed
   cases a0k p2
   exact ix_tup value slice pins s σ H _ _ _ _ Q I r1 r2 ⟨p,vs,_,w,rfl,rfl,hl,ew,res.val k hc rw'⟩ hs
  ·exact ht.elim
 ·rename_i z e
  cases a3n p1 e
  split at ht
  ·obtain ⟨c,hz,ec,k⟩:=ht
   cases a0k p2
   exact ix_str value slice pins s σ H _ _ _ _ Q I r1 r2 ⟨z,_,c,rfl,rfl,hz,ec,res.str k hc⟩ hs
  ·exact ht.elim
 ·rename_i kvs e
  obtain ⟨k,d,ek,ed,q⟩:=ht
  obtain ⟨p,vs,rfl,hl,hr⟩:=a1H hc p1 e
  cases a1d ek p2
  rcases a1P hr k with ⟨z,_⟩ | ⟨d2,w,z1,z2,rw'⟩
  ·rw [ed] at z;cases z
  ·rw [ed] at z1
   cases z1
   exact b4q (by omega) value slice pins s σ H _ _ _ _ Q I r1 r2 ⟨p,w,rfl,.inl ⟨vs,k,hl,rfl,z2.symm⟩,res.val q hc rw'⟩ hs
 ·exact ht.elim
end
def cutD (xs:List D) (lo hi:Option Int):List D:=(xs.drop (HT.sIx xs.length 0 lo)).take (HT.sIx xs.length xs.length hi - HT.sIx xs.length 0 lo)
def slD (x:D) (lo hi:Option Int) (S:SS) (Q:DK):Prop:=match vw S x with
 | .lst ds=>Q (.lst (cutD ds lo hi)) S
 | .tup ds=>Q (.tup (cutD ds lo hi)) S
 | .str z=>z.length≤sizeLine∧Q (.str (cutS z lo hi)) S
 | _=>False
def b5G (x:D) (lo hi:Option Int) (S:SS) (Q:DK):Prop:=match vw S x with
 | .lst ds=>∀ p,S p=none→Q (.obj p) (S.set p (.lst (cutD ds lo hi)))
 | _=>False
section
variable {X:Cx} {g:Gd}
def rDs (g:Gd) (t:D→Option Int→Option Int→SS→DK→Prop):V→Option Int→Option Int→Hp→VK→Prop:=fun v lo hi H Q=>∃ x S K,CellsOk g S H∧Rep g S H x v∧t x lo hi S K∧Res g S H K Q
theorem b5m (hK:g.K=X.K):SlR X (rDs g b5G):=by
 intro pins s σ H v1 u1 vl vu lo hi sl Q I r1 hs pl pu h
 obtain ⟨x,S,K,hc,p1,ht,res⟩:=h
 unfold b5G at ht
 split at ht
 ·rename_i ds e
  obtain ⟨p,vs,rfl,hl,hr⟩:=a0r hc p1 e
  rw [hK] at hl
  refine sl_list pins s σ H _ _ vl vu lo hi sl Q I r1 hs pl pu ⟨p,vs,rfl,hl,fun q hq=>res.lstC ht hc ?_ hq⟩
  unfold cutD cutV
  rw [hr.length]
  exact (hr.drop _).take _
 ·exact ht.elim
theorem b7W (hK:g.K=X.K):SlR X (rDs g slD):=by
 intro pins s σ H v1 u1 vl vu lo hi sl Q I r1 hs pl pu h
 obtain ⟨x,S,K,hc,p1,ht,res⟩:=h
 unfold slD at ht
 split at ht
 ·rename_i ds e
  obtain ⟨p,vs,rfl,hl,hr⟩:=a0r hc p1 e
  rw [hK] at hl
  refine sl_list pins s σ H _ _ vl vu lo hi sl Q I r1 hs pl pu ⟨p,vs,rfl,hl,fun q hq=>res.lst ht hc ?_ hq⟩
  unfold cutD cutV
  rw [hr.length]
  exact (hr.drop _).take _
 ·rename_i ds e
  cases a7V e
  obtain ⟨p,vs,rfl,hl,hr⟩:=a0H p1 e
  rw [hK] at hl
  refine sl_tupA pins s σ H _ _ vl vu lo hi sl Q I r1 hs pl pu ⟨p,vs,rfl,hl,fun whole=>?_,fun part q hq=>res.tup ht hc ?_ hq⟩
  ·refine res.val (d:=.tup (cutD ds lo hi)) ht hc ?_
   have all:cutD ds lo hi=ds:=by
    unfold cutD
    rw [hr.length,whole.1,whole.2,List.drop_zero,Nat.sub_zero,← hr.length,List.take_length]
   rw [all]
   exact p1
  ·unfold cutD cutV
   rw [hr.length]
   exact (hr.drop _).take _
 ·rename_i z e
  cases a3n p1 e
  exact sl_str pins s σ H _ _ vl vu lo hi sl Q I r1 hs pl pu ⟨z,rfl,ht.1,res.str ht.2 hc⟩
 ·exact ht.elim
end
def b4u (xs:List D) (S:SS) (Q:DK):Prop:=match xs with
 | [x]=>match vw S x with
  | .lst ds=>Q (.int ds.length) S
  | .tup ds=>Q (.int ds.length) S
  | .str z=>z.length≤sizeLine∧Q (.int z.length) S
  | .dic kvs=>Q (.int kvs.length) S
  | _=>False
 | _=>False
def b9O (xs:List D) (S:SS) (Q:DK):Prop:=match xs with
 | [.int i]=>Q (.int (if i < 0 then -i else i)) S
 | _=>False
def maxD (xs:List D) (S:SS) (Q:DK):Prop:=match xs with
 | [.int i,.int j]=>Q (.int (if j > i then j else i)) S
 | _=>False
def minD (xs:List D) (S:SS) (Q:DK):Prop:=match xs with
 | [.int i,.int j]=>Q (.int (if j < i then j else i)) S
 | _=>False
section
variable {X:Cx} {g:Gd} {S:SS} {H:Hp}
theorem a6b {d:D} {vs:List V} (r:a0i g S H [d] vs):∃ v,vs=[v]∧Rep g S H d v:=by
 simp only [a0i] at r
 obtain ⟨v,q,rfl,a,rfl⟩:=r
 exact ⟨v,rfl,a⟩
theorem a1j {d e:D} {vs:List V} (r:a0i g S H [d,e] vs):∃ v u,vs=[v,u]∧Rep g S H d v∧Rep g S H e u:=by
 simp only [a0i] at r
 obtain ⟨v,q,rfl,a,u,q2,rfl,b,rfl⟩:=r
 exact ⟨v,u,rfl,a,b⟩
theorem b7f (hK:g.K=X.K):CallR X (.builtin "len") (rDc g b4u):=by
 intro pins s σ H vs us Q I r h
 obtain ⟨xs,S,K,hc,p1,ht,res⟩:=h
 unfold b4u at ht
 split at ht
 ·rename_i x
  obtain ⟨v,rfl,p2⟩:=a6b p1
  split at ht
  ·rename_i ds e
   obtain ⟨p,ws,rfl,hl,hr⟩:=a0r hc p2 e
   rw [hK] at hl
   exact call_len_seq pins s σ H _ _ Q I r ⟨p,ws,rfl,.inl hl,by rw [← hr.length];exact res.int ht hc⟩
  ·rename_i ds e
   obtain ⟨p,ws,rfl,hl,hr⟩:=a0H p2 e
   rw [hK] at hl
   exact call_len_seq pins s σ H _ _ Q I r ⟨p,ws,rfl,.inr hl,by rw [← hr.length];exact res.int ht hc⟩
  ·rename_i z e
   cases a3n p2 e
   exact call_len_str pins s σ H _ _ Q I r ⟨z,rfl,ht.1,res.int ht.2 hc⟩
  ·rename_i kvs e
   obtain ⟨p,ws,rfl,hl,hr⟩:=a1H hc p2 e
   obtain ⟨u1,rfl,r1⟩:=Vals.one r
   cases (show u1=Value.ref p from r1)
   exact d_len I hl fun t s' I'=>⟨.int ws.length,H,I',⟨t,rfl⟩,by rw [← Paired.length (a05 hr)];exact res.int ht hc⟩
  ·exact ht.elim
 ·exact ht.elim
theorem b5U:CallR X (.builtin "abs") (rDc g b9O):=by
 intro pins s σ H vs us Q I r h
 obtain ⟨xs,S,K,hc,p1,ht,res⟩:=h
 unfold b9O at ht
 split at ht
 ·obtain ⟨v,rfl,p2⟩:=a6b p1
  cases a0k p2
  exact call_abs pins s σ H _ _ Q I r ⟨_,rfl,res.int ht hc⟩
 ·exact ht.elim
theorem b7j (hc:X.calm=true):CallR X (.builtin "max") (rDc g maxD):=by
 intro pins s σ H vs us Q I r h
 obtain ⟨xs,S,K,hce,p1,ht,res⟩:=h
 unfold maxD at ht
 split at ht
 ·obtain ⟨v,u,rfl,p3,p4⟩:=a1j p1
  cases a0k p3
  cases a0k p4
  exact call_max2 hc pins s σ H _ _ Q I r ⟨_,_,rfl,res.int ht hce⟩
 ·exact ht.elim
theorem b7k (hc:X.calm=true):CallR X (.builtin "min") (rDc g minD):=by
 intro pins s σ H vs us Q I r h
 obtain ⟨xs,S,K,hce,p1,ht,res⟩:=h
 unfold minD at ht
 split at ht
 ·obtain ⟨v,u,rfl,p3,p4⟩:=a1j p1
  cases a0k p3
  cases a0k p4
  exact call_min2 hc pins s σ H _ _ Q I r ⟨_,_,rfl,res.int ht hce⟩
 ·exact ht.elim
def a1v (x:D) (S:SS) (Q:Bool→Prop):Prop:=match vw S x with
 | .non=>Q false
 | .bl b=>Q b
 | .int i=>Q (i != 0)
 | .str z=>z.length≤sizeLine∧Q ((z.length:Int) != 0)
 | .lst ds=>Q (!ds.isEmpty)
 | .tup ds=>Q (!ds.isEmpty)
 | _=>False
theorem a1s {ds:List D} {vs:List V} (r:a0i g S H ds vs):vs.isEmpty=ds.isEmpty:=by
 cases a3Q r <;> rfl
theorem a7R (hK:g.K=X.K) {x:D} {v:V} {Q:Bool→Prop} (hc:CellsOk g S H) (r:Rep g S H x v) (h:a1v x S Q):∃ k,TruV X.K v H k∧Q k:=by
 unfold a1v at h
 split at h
 ·rename_i e;cases b3j r e;exact ⟨false,rfl,h⟩
 ·rename_i b e;cases b8K r e;exact ⟨b,rfl,h⟩
 ·rename_i b e;cases a8G r e;exact ⟨_,rfl,h⟩
 ·rename_i b e;cases a3n r e;exact ⟨_,⟨h.1,rfl⟩,h.2⟩
 ·rename_i ds e
  obtain ⟨p,vs,rfl,hl,hr⟩:=a0r hc r e
  rw [hK] at hl
  exact ⟨_,.inl ⟨vs,hl,rfl⟩,by rw [a1s hr];exact h⟩
 ·rename_i ds e
  obtain ⟨p,vs,rfl,hl,hr⟩:=a0H r e
  rw [hK] at hl
  exact ⟨_,.inr (.inl ⟨vs,hl,rfl⟩),by rw [a1s hr];exact h⟩
 ·exact h.elim
end
end Sv
namespace Sv
open PySem PySem.Spec PyProof.Rows L2
mutual
def pdD:D→Option PyData
 | .non=>some .none
 | .bl b=>some (.bool b)
 | .int i=>some (.int i)
 | .str x=>some (.str x)
 | .lst ds=>(b1f ds).map .list
 | .tup ds=>(b1f ds).map .tuple
 | .dic _ | .obj _ | .exc _ _ _ _ | .err _ _ _ _=>none
def b1f:List D→Option (List PyData)
 | []=>some []
 | d :: ds=>match pdD d,b1f ds with
  | some p,some ps=>some (p :: ps)
  | _,_=>none
end
section
variable {X:Cx} {g:Gd} {S:SS} {pins:List (Addr × Obj)} {σ:L2.St} {H:Hp} {s:Shared}
mutual
theorem a8y (hK:g.K=X.K) (I:Inv X pins σ H s):∀ (d:D) {v:V} {u:Value} {p:PyData},Rep g S H d v→RelV v u→pdD d=some p→∃ as,Reads s.heap u p as
 | .non,_,_,_,r,q,e=>by
  simp only [Rep] at r;subst r;cases e;cases (show _=Value.none from q);exact ⟨_,.none⟩
 | .bl b,_,_,_,r,q,e=>by
  simp only [Rep] at r;subst r;cases e;cases (show _=Value.bool b from q);exact ⟨_,.bool b⟩
 | .int i,_,_,_,r,q,e=>by
  simp only [Rep] at r;subst r;cases e
  obtain ⟨t,rfl⟩:=(show ∃ t,_=Value.int i t from q)
  exact ⟨_,.int i t⟩
 | .str x,_,_,_,r,q,e=>by
  simp only [Rep] at r;subst r;cases e
  obtain ⟨t,rfl⟩:=(show ∃ t,_=Value.str x t from q)
  exact ⟨_,.str x t⟩
 | .lst ds,_,_,_,r,q,e=>by
  simp only [Rep] at r
  obtain ⟨a,vs,rfl,at_a,rs⟩:=r
  have seq:=at_a.sq
  rw [hK] at seq
  obtain ⟨its,rel,⟨o,n,here,cls,_,data⟩,_⟩:=I.list seq
  cases (show _=Value.ref a from q)
  simp only [pdD,zam] at e
  obtain ⟨ps,all,rfl⟩:=e
  have ⟨as,each⟩:=a1M hK I ds rs rel all
  exact ⟨_,.list here cls data (by simpa using each)⟩
 | .tup ds,_,_,_,r,q,e=>by
  simp only [Rep] at r
  obtain ⟨a,vs,rfl,at_a,rs⟩:=r
  have seq:=at_a.sq
  rw [hK] at seq
  obtain ⟨its,rel,⟨o,here,cls,n,data⟩,_⟩:=I.tuple seq
  cases (show _=Value.ref a from q)
  simp only [pdD,zam] at e
  obtain ⟨ps,all,rfl⟩:=e
  have ⟨as,each⟩:=a1M hK I ds rs rel all
  exact ⟨_,.tuple here cls data (by simpa using each)⟩
 | .dic _,_,_,_,_,_,e=>nomatch e
 | .obj _,_,_,_,_,_,e=>nomatch e
 | .exc _ _ _ _,_,_,_,_,_,e=>nomatch e
 | .err _ _ _ _,_,_,_,_,_,e=>nomatch e
theorem a1M (hK:g.K=X.K) (I:Inv X pins σ H s):∀ (ds:List D) {vs:List V} {us:List Value} {ps:List PyData},a0i g S H ds vs→Vals vs us→b1f ds=some ps→∃ as,ReadsAll s.heap us ps as
 | [],_,_,_,r,q,e=>by
  simp only [a0i] at r;subst r;cases q;cases e;exact ⟨_,.nil⟩
 | d :: ds,_,_,_,r,q,e=>by
  simp only [a0i] at r
  obtain ⟨v,vs,rfl,r1,r2⟩:=r
  cases q with
  | cons q1 q2 =>
   simp only [b1f] at e
   split at e
   ·rename_i p ps e1 e2
    cases e
    have ⟨_,x⟩:=a8y hK I d r1 q1 e1
    have ⟨_,y⟩:=a1M hK I ds r2 q2 e2
    exact ⟨_,.cons x y⟩
   ·cases e
end
end
mutual
def pdE:D→Option PyData
 | .non=>some .none
 | .bl b=>some (.bool b)
 | .int i=>some (.int i)
 | .str x=>some (.str x)
 | .lst ds=>(b7z ds).map .list
 | .tup ds=>(b7z ds).map .tuple
 | .dic []=>some (.dict [])
 | .dic (_ :: _) | .obj _ | .exc _ _ _ _ | .err _ _ _ _=>none
def b7z:List D→Option (List PyData)
 | []=>some []
 | d :: ds=>match pdE d,b7z ds with
  | some p,some ps=>some (p :: ps)
  | _,_=>none
end
section
variable {X:Cx} {g:Gd} {S:SS} {pins:List (Addr × Obj)} {σ:L2.St} {H:Hp} {s:Shared}
theorem noE {p:PyData} (h:p.hasDict=false) {as:List Addr}:p.hasDict=true→sysModules∉as:=fun e=>by rw [h] at e;cases e
mutual
theorem b0H (hK:g.K=X.K) (I:Inv X pins σ H s):∀ (d:D) {v:V} {u:Value} {p:PyData},Rep g S H d v→RelV v u→pdE d=some p→p.showable=true→p.shown.length≤sizeLine →
  ∃ as bs,Reads s.heap u p as∧ReadAtMost s.heap p.depth bs∧ReprK X.prog X.w bs s.heap p.depth u p.shown
 | .non,_,_,_,r,q,e,hs,hz=>by
  simp only [Rep] at r;subst r;cases e;cases (show _=Value.none from q)
  obtain ⟨bs,h1,h2⟩:=ReprK.of_reads (prog:=X.prog) (w:=X.w) (h₀:=s.heap) .none hs (noE rfl) hz
  exact ⟨_,bs,.none,h1,h2⟩
 | .bl b,_,_,_,r,q,e,hs,hz=>by
  simp only [Rep] at r;subst r;cases e;cases (show _=Value.bool b from q)
  obtain ⟨bs,h1,h2⟩:=ReprK.of_reads (prog:=X.prog) (w:=X.w) (h₀:=s.heap) (.bool b) hs (noE rfl) hz
  exact ⟨_,bs,.bool b,h1,h2⟩
 | .int i,_,_,_,r,q,e,hs,hz=>by
  simp only [Rep] at r;subst r;cases e
  obtain ⟨t,rfl⟩:=(show ∃ t,_=Value.int i t from q)
  obtain ⟨bs,h1,h2⟩:=ReprK.of_reads (prog:=X.prog) (w:=X.w) (h₀:=s.heap) (.int i t) hs (noE rfl) hz
  exact ⟨_,bs,.int i t,h1,h2⟩
 | .str x,_,_,_,r,q,e,hs,hz=>by
  simp only [Rep] at r;subst r;cases e
  obtain ⟨t,rfl⟩:=(show ∃ t,_=Value.str x t from q)
  obtain ⟨bs,h1,h2⟩:=ReprK.of_reads (prog:=X.prog) (w:=X.w) (h₀:=s.heap) (.str x t) hs (noE rfl) hz
  exact ⟨_,bs,.str x t,h1,h2⟩
 | .lst ds,_,_,_,r,q,e,hs,hz=>by
  simp only [Rep] at r
  obtain ⟨a,vs,rfl,at_a,rs⟩:=r
  have seq:=at_a.sq
  rw [hK] at seq
  obtain ⟨its,rel,⟨o,n,here,cls,_,data⟩,_⟩:=I.list seq
  cases (show _=Value.ref a from q)
  simp only [pdE,zam] at e
  obtain ⟨ps,all,rfl⟩:=e
  have hz':(listText (PyData.shownAll ps)).length≤sizeLine:=by simpa only [PyData.shown] using hz
  obtain ⟨as,bs,each,hb,hk⟩:=a3e hK I ds rs rel all (by simpa [PyData.showable] using hs) (fun t ht=>Nat.le_trans (listText_mem_le ht) hz')
  have r:Reads s.heap (.ref a) (.list ps) _:=.list here cls data (by simpa using each)
  have hna:a∉bs:=not_mem_of_deeper r (by simp only [PyData.depth];omega) hb
  refine ⟨_,a :: bs,r,ReadAtMost.cons r (by simp only [PyData.depth];omega) hb,?_⟩
  simp only [PyData.depth,PyData.shown]
  cases its with
  | nil =>
   cases each
   simp only [PyData.shownAll,listText_nil]
   exact ReprK.listEmpty here cls data
  | cons x l=>exact ReprK.list here cls data hna (by simpa using hk.length_eq) (fun i y e=>hk.item i y (by simpa using e))
 | .tup ds,_,_,_,r,q,e,hs,hz=>by
  simp only [Rep] at r
  obtain ⟨a,vs,rfl,at_a,rs⟩:=r
  have seq:=at_a.sq
  rw [hK] at seq
  obtain ⟨its,rel,⟨o,here,cls,n,data⟩,_⟩:=I.tuple seq
  cases (show _=Value.ref a from q)
  simp only [pdE,zam] at e
  obtain ⟨ps,all,rfl⟩:=e
  have hz':(tupleText (PyData.shownAll ps)).length≤sizeLine:=by simpa only [PyData.shown] using hz
  obtain ⟨as,bs,each,hb,hk⟩:=a3e hK I ds rs rel all (by simpa [PyData.showable] using hs) (fun t ht=>Nat.le_trans (tupleText_mem_le ht) hz')
  have r:Reads s.heap (.ref a) (.tuple ps) _:=.tuple here cls data (by simpa using each)
  have hna:a∉bs:=not_mem_of_deeper r (by simp only [PyData.depth];omega) hb
  refine ⟨_,a :: bs,r,ReadAtMost.cons r (by simp only [PyData.depth];omega) hb,?_⟩
  simp only [PyData.depth,PyData.shown]
  exact ReprK.tuple here cls data hna (by simpa using hk)
 | .dic [],_,_,_,r,q,e,hs,hz=>by
  simp only [Rep] at r
  obtain ⟨a,ws,rfl,_,at_a,rk⟩:=r
  have ew:ws=[]:=by simpa only [a0V] using rk
  subst ew
  cases (show _=Value.ref a from q)
  cases e
  obtain ⟨_,hsys,vs,kv,o,es,ep,here,ex,data,_,pr,_⟩:=dk_of I.hok at_a
  cases kv
  have e0:es.toList=[]:=by cases h:es.toList with
   | nil=>rfl
   | cons x l=>rw [h] at pr;cases pr
  have r:Reads s.heap (.ref a) (.dict []) _:=.dict here ex.1 data (by rw [e0];exact .nil) (by rw [e0];exact .nil)
  refine ⟨_,[a],r,ReadAtMost.cons r (by simp only [PyData.depth];omega) (show ReadAtMost s.heap (PyData.depthKv []) [] from fun _ h=>nomatch h),?_⟩
  simp only [PyData.depth,PyData.shown,PyData.shownKv]
  exact ReprK.dict here ex.1 data hsys (fun h=>nomatch h) (by rw [e0];exact .nil)
 | .dic (_ :: _),_,_,_,_,_,e,_,_=>nomatch e
 | .obj _,_,_,_,_,_,e,_,_=>nomatch e
 | .exc _ _ _ _,_,_,_,_,_,e,_,_=>nomatch e
 | .err _ _ _ _,_,_,_,_,_,e,_,_=>nomatch e
theorem a3e (hK:g.K=X.K) (I:Inv X pins σ H s):∀ (ds:List D) {vs:List V} {us:List Value} {ps:List PyData},a0i g S H ds vs→Vals vs us→b7z ds=some ps→PyData.showableAll ps=true→(∀ t∈PyData.shownAll ps,t.length≤sizeLine) →
  ∃ as bs,ReadsAll s.heap us ps as∧ReadAtMost s.heap (PyData.depthAll ps) bs∧ReprAllK X.prog X.w bs s.heap (PyData.depthAll ps) us (PyData.shownAll ps)
 | [],_,_,_,r,q,e,_,_=>by
  simp only [a0i] at r;subst r;cases q;cases e
  exact ⟨_,[],.nil,(fun _ h=>nomatch h),by simp only [PyData.shownAll];exact .nil⟩
 | d :: ds,_,_,_,r,q,e,hs,hz=>by
  simp only [a0i] at r
  obtain ⟨v,vs,rfl,r1,r2⟩:=r
  cases q with
  | cons q1 q2 =>
   simp only [b7z] at e
   split at e
   ·rename_i p ps e1 e2
    cases e
    have hs':p.showable=true∧PyData.showableAll ps=true:=by simpa [PyData.showableAll] using hs
    obtain ⟨a1,b1,x1,hb1,k1⟩:=b0H hK I d r1 q1 e1 hs'.1 (hz _ (by simp only [PyData.shownAll];exact zal ..))
    obtain ⟨a2,b2,x2,hb2,k2⟩:=a3e hK I ds r2 q2 e2 hs'.2 (fun t ht=>hz t (by simp only [PyData.shownAll];exact zao _ ht))
    refine ⟨_,b1 ++ b2,.cons x1 x2,?_,?_⟩
    ·intro b hm
     simp only [PyData.depthAll]
     rcases zap.mp hm with hm | hm
     ·obtain ⟨d',as',r',hd'⟩:=hb1 b hm
      exact ⟨d',as',r',Nat.le_trans hd' (Nat.le_max_left _ _)⟩
     ·obtain ⟨d',as',r',hd'⟩:=hb2 b hm
      exact ⟨d',as',r',Nat.le_trans hd' (Nat.le_max_right _ _)⟩
    ·simp only [PyData.depthAll,PyData.shownAll]
     exact .cons ((k1.more fun b hb=>zar _ hb).level_le (Nat.le_max_left _ _)) (k2.more_le (fun b hb=>zas _ hb) (Nat.le_max_right _ _))
   ·cases e
end
theorem b0O (hK:g.K=X.K) (I:Inv X pins σ H s):∀ (d:D) {v:V} {a:Addr} {p:PyData},Rep g S H d v→RelV v (.ref a)→pdE d=some p→p.showable=true→p.shown.length≤sizeLine→∃ T idr,ShowsBy X.prog X.w s.heap a p T idr
 | .non,_,_,_,r,q,e,_,_=>by
  simp only [Rep] at r;subst r;cases (show _=Value.none from q)
 | .bl b,_,_,_,r,q,e,_,_=>by
  simp only [Rep] at r;subst r;cases (show _=Value.bool b from q)
 | .int i,_,_,_,r,q,e,_,_=>by
  simp only [Rep] at r;subst r
  obtain ⟨t,h⟩:=(show ∃ t,_=Value.int i t from q)
  cases h
 | .str x,_,_,_,r,q,e,_,_=>by
  simp only [Rep] at r;subst r
  obtain ⟨t,h⟩:=(show ∃ t,_=Value.str x t from q)
  cases h
 | .lst ds,_,a,_,r,q,e,hs,hz=>by
  simp only [Rep] at r
  obtain ⟨a1,vs,rfl,at_a,rs⟩:=r
  have ea:a=a1:=by cases (show Value.ref a=Value.ref a1 from q);rfl
  subst ea
  have seq:=at_a.sq
  rw [hK] at seq
  obtain ⟨its,rel,⟨o,n,here,cls,_,data⟩,_⟩:=I.list seq
  simp only [pdE,zam] at e
  obtain ⟨ps,all,rfl⟩:=e
  have hz':(listText (PyData.shownAll ps)).length≤sizeLine:=by simpa only [PyData.shown] using hz
  obtain ⟨as,bs,each,hb,hk⟩:=a3e hK I ds rs rel all (by simpa [PyData.showable] using hs) (fun t ht=>Nat.le_trans (listText_mem_le ht) hz')
  have r:Reads s.heap (.ref a) (.list ps) _:=.list here cls data (by simpa using each)
  have hna:a∉bs:=not_mem_of_deeper r (by simp only [PyData.depth];omega) hb
  refine ⟨"list", "list.__repr__",F.slot_list_repr.toG,F.slot_list_str,F.slot_list_format,fun s hk0=>⟨o,hk0 _ _ here,cls⟩,fun A E s Q hg hu hk0 hQ=>?_⟩
  simp only [PyData.depth] at hu
  simp only [PyData.shown] at hQ
  cases its with
  | nil =>
   cases each
   simp only [PyData.shownAll,listText_nil] at hQ
   exact call_list_repr_empty ⟨o,hk0 _ _ here,cls⟩ (hk0 _ _ here) data (hQ s.heap _ _ fun _ _ e=>e)
  | cons x l=>exact call_list_reprK here cls data hna (by simpa using hk.length_eq) (fun i y e=>hk.item i y (by simpa using e)) hg (fun b _=>Clear.nil b) hu hk0 hQ hz'
 | .tup ds,_,a,_,r,q,e,hs,hz=>by
  simp only [Rep] at r
  obtain ⟨a1,vs,rfl,at_a,rs⟩:=r
  have ea:a=a1:=by cases (show Value.ref a=Value.ref a1 from q);rfl
  subst ea
  have seq:=at_a.sq
  rw [hK] at seq
  obtain ⟨its,rel,⟨o,here,cls,n,data⟩,_⟩:=I.tuple seq
  simp only [pdE,zam] at e
  obtain ⟨ps,all,rfl⟩:=e
  have hz':(tupleText (PyData.shownAll ps)).length≤sizeLine:=by simpa only [PyData.shown] using hz
  obtain ⟨as,bs,each,hb,hk⟩:=a3e hK I ds rs rel all (by simpa [PyData.showable] using hs) (fun t ht=>Nat.le_trans (tupleText_mem_le ht) hz')
  have r:Reads s.heap (.ref a) (.tuple ps) _:=.tuple here cls data (by simpa using each)
  have hna:a∉bs:=not_mem_of_deeper r (by simp only [PyData.depth];omega) hb
  refine ⟨"tuple", "tuple.__repr__",F.slot_tuple_repr,F.slot_tuple_str,F.slot_tuple_format,fun s hk0=>⟨o,hk0 _ _ here,cls⟩,fun A E s Q hg hu hk0 hQ=>?_⟩
  simp only [PyData.depth] at hu
  simp only [PyData.shown] at hQ
  exact call_tuple_reprK here cls data hna (by simpa using hk) hg (fun b _=>Clear.nil b) hu hk0 hQ hz'
 | .dic [],_,_,_,r,q,e,hs,hz=>by
  simp only [Rep] at r
  obtain ⟨a,ws,rfl,_,at_a,rk⟩:=r
  have ew:ws=[]:=by simpa only [a0V] using rk
  subst ew
  cases (show _=Value.ref a from q)
  cases e
  obtain ⟨_,hsys,vs,kv,o,es,ep,here,ex,data,_,pr,_⟩:=dk_of I.hok at_a
  cases kv
  have e0:es.toList=[]:=by cases h:es.toList with
   | nil=>rfl
   | cons x l=>rw [h] at pr;cases pr
  refine ⟨"dict", "dict.__repr__",F.slot_dict_repr,F.slot_dict_str,F.slot_dict_format,fun s hk0=>⟨o,hk0 _ _ here,ex.1⟩,fun A E s Q hg hu hk0 hQ=>?_⟩
  simp only [PyData.depth] at hu
  simp only [PyData.shown,PyData.shownKv] at hQ
  exact call_dict_reprK (as:=[]) here ex.1 data hsys (fun h=>nomatch h) (by rw [e0];exact .nil) hg (fun b _=>Clear.nil b) hu hk0 hQ (by simpa only [PyData.shown,PyData.shownKv] using hz)
 | .dic (_ :: _),_,_,_,_,_,e,_,_=>nomatch e
 | .obj _,_,_,_,_,_,e,_,_=>nomatch e
 | .exc _ _ _ _,_,_,_,_,_,e,_,_=>nomatch e
 | .err _ _ _ _,_,_,_,_,_,e,_,_=>nomatch e
end
structure b3w (p:PyData):Prop where
 can:p.showable=true
 noDict:p.hasDict=false
 fits:p.shown.length≤sizeLine
 flat:p.depth≤20
structure b5P (p:PyData):Prop where
 can:p.showable=true
 fits:p.shown.length≤sizeLine
 flat:p.depth≤20
def pdS (S:SS):D→Option PyData
 | .obj a=>match S a with
  | some (.lst ds)=>(b1f ds).map .list
  | _=>none
 | d=>pdD d
theorem b0G {X:Cx} {g:Gd} {S:SS} {pins:List (Addr × Obj)} {σ:L2.St} {H:Hp} {s:Shared} (hK:g.K=X.K) (I:Inv X pins σ H s) (cells:CellsOk g S H) {d:D} {v:V} {u:Value} {p:PyData} (r:Rep g S H d v) (q:RelV v u) (e:pdS S d=some p):∃ as,Reads s.heap u p as:=by
 unfold pdS at e
 split at e
 ·rename_i a
  simp only [Rep] at r
  subst r
  split at e
  ·rename_i ds at_a
   obtain ⟨vs,tracked,rs⟩:=cells a _ at_a
   simp only [zam] at e
   obtain ⟨ps,all,rfl⟩:=e
   obtain ⟨its,rel,⟨o,n,here,cls,_,data⟩,_⟩:=I.list (.inl (.inl tracked))
   cases (show u=Value.ref a from q)
   have ⟨as,each⟩:=a1M hK I ds rs rel all
   exact ⟨_,.list here cls data (by simpa using each)⟩
  ·cases e
 ·exact a8y hK I d r q e
def b5i (xs:List D) (S:SS) (K:DK):Prop:=match xs with
 | [d]=>∃ p,(((pdS S d=some p∨(D.okd 60 (dv S 60 d)=true∧p=(dv S 60 d).py))∧b3w p)∨(pdE d=some p∧b5P p))∧K (.str p.shown) S
 | _=>False
theorem a9F {X:Cx} {g:Gd} (hK:g.K=X.K) (guards:X.A.guards=some []) (units:X.A.units + 21 < cLine):CallR X (.builtin "repr") (rDc g b5i):=by
 rintro pins s σ H _ _ Q I given ⟨xs,S,K,cells,reps,told,res⟩
 unfold b5i at told
 split at told
 case h_2=>exact told.elim
 rename_i d
 obtain ⟨p,told,k⟩:=told
 simp only [a0i] at reps
 obtain ⟨v,_,rfl,rep,rfl⟩:=reps
 have want:Q (.str p.shown) H:=res.val k cells (by simp only [Rep])
 cases given with
 | cons one rest =>
  cases rest
  rcases told with ⟨plain,shows⟩ | ⟨plain,shows⟩
  case inr =>
   obtain ⟨as,bs,reads,_⟩:=b0H hK I d rep one plain shows.can shows.fits
   have big:=fun (a:Addr) (q:RelV _ (.ref a)) =>
    have ⟨T,idr,sb⟩:=b0O hK I d rep q plain shows.can shows.fits
    call_repr_slot (prog:=X.prog) (w:=X.w) (A:=X.A) (E:=X.xe) (s:=s) (Q:=EP X pins σ Q) (by omega) (sb.typeIs s fun _ _ e=>e) sb.slotRepr (sb.call X.A.in1 X.xe s _ guards (by show X.A.units + 1 + p.depth < cLine;have:=shows.flat;omega) (fun _ _ e=>e) fun h' u tk keeps=>⟨_,_,rfl,⟨.str p.shown,H,I.kept keeps,⟨u,rfl⟩,want⟩⟩)
   cases reads with
   | none=>exact PySem.P.repr_of_none ⟨.str _,H,I.tok _,⟨_,rfl⟩,want⟩
   | bool b=>exact PySem.P.repr_of_bool ⟨.str _,H,I.tok _,⟨_,rfl⟩,by cases b <;> exact want⟩
   | int i t=>exact PySem.P.repr_of_int (by simpa [PyData.showable] using shows.can) ⟨.str _,H,I.tok _,⟨_,rfl⟩,want⟩
   | str x t=>exact PySem.P.repr_of_str ⟨.str _,H,I.tok _,⟨_,rfl⟩,want⟩ shows.fits
   | list e1 e2 e3 e4=>exact big _ one
   | tuple e1 e2 e3 e4=>exact big _ one
   | dict e1 e2 e3 e4 e5=>exact big _ one
  obtain ⟨as,reads⟩:∃ as,Reads s.heap _ p as:=by
   rcases plain with plain | ⟨okd,rfl⟩
   ·exact b0G hK I cells rep one plain
   ·exact Dp.reads I _ _ _ (hK ▸ a8R cells 60 60 okd rep) one
  have big:=fun (a:Addr) (reads:Reads s.heap (.ref a) p as)=>repr_of_reads' (prog:=X.prog) (w:=X.w) (A:=X.A) (E:=X.xe) (s:=s) (Q:=EP X pins σ Q) reads shows.can (PyData.noDict_hsm shows.noDict) guards (by have:=shows.flat;omega) (fun _ _ e=>e)
   (fun h' u tk keeps=>⟨.str p.shown,H,I.kept keeps,⟨u,rfl⟩,want⟩) shows.fits
  cases reads with
  | none=>exact PySem.P.repr_of_none ⟨.str _,H,I.tok _,⟨_,rfl⟩,want⟩
  | bool b=>exact PySem.P.repr_of_bool ⟨.str _,H,I.tok _,⟨_,rfl⟩,by cases b <;> exact want⟩
  | int i t=>exact PySem.P.repr_of_int (by simpa [PyData.showable] using shows.can) ⟨.str _,H,I.tok _,⟨_,rfl⟩,want⟩
  | str x t=>exact PySem.P.repr_of_str ⟨.str _,H,I.tok _,⟨_,rfl⟩,want⟩ shows.fits
  | list e1 e2 e3 e4=>exact big _ (.list e1 e2 e3 e4)
  | tuple e1 e2 e3 e4=>exact big _ (.tuple e1 e2 e3 e4)
  | dict e1 e2 e3 e4 e5=>exact big _ (.dict e1 e2 e3 e4 e5)
end Sv
namespace Sv
open PySem PySem.Spec PyProof.Rows L2
def intD (xs:List D) (S:SS) (K:DK):Prop:=match xs with
 | [.int i]=>K (.int i) S
 | [.bl b]=>K (.int (if b then 1 else 0)) S
 | [.str x]=>x.length≤640∧∃ n,PySem.intText? x=some n∧K (.int n) S
 | _=>False
def b00 (xs:List D) (S:SS) (K:DK):Prop:=match xs with
 | [d]=>match vw S d with
  | .lst ds=>K (.tup ds) S
  | .tup ds=>K (.tup ds) S
  | _=>False
 | _=>False
def b4y (cell:Bool) (xs:List D) (S:SS) (K:DK):Prop:=match xs with
 | [d]=>∃ ds,(vw S d=.lst ds∨vw S d=.tup ds)∧if cell=true then ∀ p,S p=none→K (.obj p) (S.set p (.lst ds)) else K (.lst ds) S
 | _=>False
section
variable {X:Cx} {g:Gd}
theorem one_of {S:SS} {H:Hp} {d:D} {vs:List V} (r:a0i g S H [d] vs):∃ v,vs=[v]∧Rep g S H d v:=by
 simp only [a0i] at r
 obtain ⟨v,_,rfl,rep,rfl⟩:=r
 exact ⟨v,rfl,rep⟩
theorem int_ok:CallR X (.type "int") (rDc g intD):=by
 rintro pins s σ H vs us Q I given ⟨xs,S,K,cells,reps,told,res⟩
 unfold intD at told
 split at told
 ·obtain ⟨v,rfl,rep⟩:=one_of reps
  cases a0k rep
  exact call_int1 _ _ _ _ _ _ _ I given (.inl ⟨_,rfl,res.int told cells⟩)
 ·obtain ⟨v,rfl,rep⟩:=one_of reps
  simp only [Rep] at rep
  subst rep
  exact call_int1 _ _ _ _ _ _ _ I given (.inr ⟨_,rfl,res.int told cells⟩)
 ·obtain ⟨v,rfl,rep⟩:=one_of reps
  cases a0B rep
  obtain ⟨short,n,reads,k⟩:=told
  obtain ⟨u,rfl,t,rfl⟩:=vals1 given
  exact PySem.W.KIN.call_text reads short ⟨.int n,H,I.tok _,⟨_,rfl⟩,res.int k cells⟩
 ·exact told.elim
theorem b2z (hK:g.K=X.K):CallR X (.type "tuple") (rDc g b00):=by
 rintro pins s σ H vs us Q I given ⟨xs,S,K,cells,reps,told,res⟩
 unfold b00 at told
 split at told
 ·obtain ⟨v,rfl,rep⟩:=one_of reps
  split at told
  ·rename_i ds seen
   obtain ⟨p,ws,rfl,seq,all⟩:=a0r cells rep seen
   rw [hK] at seq
   exact call_tuple_of _ _ _ _ _ _ _ I given ⟨_,_,rfl,.inl ⟨seq,fun l free=>res.tup told cells all free⟩⟩
  ·rename_i ds seen
   have is:=a7V seen
   subst is
   obtain ⟨p,ws,rfl,seq,all⟩:=a0H rep seen
   rw [hK] at seq
   exact call_tuple_of _ _ _ _ _ _ _ I given ⟨_,_,rfl,.inr ⟨seq,res.val told cells rep⟩⟩
  ·exact told.elim
 ·exact told.elim
theorem b4z (hK:g.K=X.K) (cell:Bool):CallR X (.type "list") (rDc g (b4y cell)):=by
 rintro pins s σ H vs us Q I given ⟨xs,S,K,cells,reps,told,res⟩
 unfold b4y at told
 split at told
 ·obtain ⟨v,rfl,rep⟩:=one_of reps
  obtain ⟨ds,seen,told⟩:=told
  have laid:∃ p ws,v=.ref p∧(SqL X.K H p ws∨SqT X.K H p ws)∧a0i g S H ds ws:=by
   rw [← hK]
   rcases seen with seen | seen
   ·exact (a0r cells rep seen).imp fun _ z=>z.imp fun _ z=>⟨z.1,.inl z.2.1,z.2.2⟩
   ·exact (a0H rep seen).imp fun _ z=>z.imp fun _ z=>⟨z.1,.inr z.2.1,z.2.2⟩
  obtain ⟨p,ws,rfl,seq,all⟩:=laid
  refine call_list_of _ _ _ _ _ _ _ I given ⟨_,_,rfl,seq,fun l free=>?_⟩
  cases cell with
  | true=>exact res.lstC told cells all free
  | false=>exact res.lst told cells all free
 ·exact told.elim
end
end Sv
namespace Sv
open PySem PySem.Spec PyProof.Rows L2
def leS (a b:Str):Bool:=!decide (b.cps.toList < a.cps.toList)
def a0l (zs:List Str):List Str:=zs.mergeSort leS
theorem a1D (a b:Str):leS a b=true∨leS b a=true:=by
 unfold leS
 simp only [Bool.not_eq_true',decide_eq_false_iff_not]
 by_cases h:b.cps.toList < a.cps.toList
 ·exact .inr fun z=>List.lt_irrefl _ (List.lt_trans h z)
 ·exact .inl h
theorem a2Y (a b c:Str) (h:leS a b=true) (k:leS b c=true):leS a c=true:=by
 unfold leS at h k ⊢
 simp only [Bool.not_eq_true',decide_eq_false_iff_not] at h k ⊢
 exact List.le_trans (List.not_lt.mp h) (List.not_lt.mp k)
theorem a5R {a b:Str} (h:leS a b=true) (k:leS b a=true):a=b:=by
 unfold leS at h k
 simp only [Bool.not_eq_true',decide_eq_false_iff_not] at h k
 have same:=List.le_antisymm (List.not_lt.mp h) (List.not_lt.mp k)
 cases a;cases b
 congr 1
 exact Array.toList_inj.mp same
theorem a6V:∀ (zs:List Str) (p:Str),risingS p zs=true→(p :: zs).Pairwise fun a b=>leS a b=true
 | [],_,_=>List.pairwise_singleton _ _
 | x :: r,p,h=>by
  simp only [risingS,zak] at h
  have rest:=a6V r x h.2
  have first:leS p x=true:=by
   unfold leS
   rw [← ltCps_eq]
   exact h.1
  refine List.pairwise_cons.mpr ⟨fun y hy=>?_,rest⟩
  rcases zau.mp hy with rfl | hy
  ·exact first
  ·exact a2Y _ _ _ first ((List.pairwise_cons.mp rest).1 y hy)
theorem a4M {ys zs:List Str} (perm:ys.Perm zs) (up:sortedS ys=true):ys=a0l zs:=by
 have rises:ys.Pairwise fun a b=>leS a b=true:=by
  cases ys with
  | nil=>exact .nil
  | cons x r=>exact a6V r x up
 have rises2:(a0l zs).Pairwise fun a b=>leS a b=true:=List.pairwise_mergeSort a2Y (fun a b=>by
  have:=a1D a b
  simpa using this) zs
 exact List.Perm.eq_of_pairwise (fun a b _ _ h k=>a5R h k) rises rises2 (perm.trans (List.mergeSort_perm zs leS).symm)
def outL (cell:Bool) (ds:List D) (S:SS) (K:DK):Prop:=if cell=true then ∀ p,S p=none→K (.obj p) (S.set p (.lst ds)) else K (.lst ds) S
def outK (cell:Bool) (kvs:List (Key × D)) (S:SS) (K:DK):Prop:=if cell=true then ∀ p,S p=none→K (.obj p) (S.set p (.dic kvs)) else K (.dic kvs) S
theorem Res.outL {g:Gd} {S:SS} {H:Hp} {K:DK} {Q:VK} {cell:Bool} {ds:List D} {vs:List V} {p:Addr} (res:Res g S H K Q) (k:outL cell ds S K) (cells:CellsOk g S H) (all:a0i g S H ds vs) (free:H p=none):Q (.ref p) (upd H p (.lst vs)):=by
 cases cell with
 | true=>exact res.lstC k cells all free
 | false=>exact res.lst k cells all free
theorem Res.outK {g:Gd} {S:SS} {H:Hp} {K:DK} {Q:VK} {cell:Bool} {kvs:List (Key × D)} {ws:List (Key × V)} {p:Addr} (res:Res g S H K Q) (k:outK cell kvs S K) (cells:CellsOk g S H) (all:a0V g S H kvs ws) (free:H p=none):Q (.ref p) (upd H p (.dK ws)):=by
 cases cell with
 | true=>exact res.dicC k cells all free
 | false=>exact res.dic k cells all free
theorem a2h {g:Gd} {S:SS} {H:Hp}:∀ (zs:List Str) {vs:List V},a0i g S H (zs.map D.str) vs→vs=zs.map V.str
 | [],_,r=>by simp only [List.map_nil,a0i] at r;exact r
 | z :: zs,_,r=>by
  simp only [zax,a0i] at r
  obtain ⟨v,q,rfl,one,more⟩:=r
  rw [a0B one,a2h zs more,zax]
theorem a3l {g:Gd} {S:SS} {H:Hp}:∀ (zs:List Str),a0i g S H (zs.map D.str) (zs.map V.str)
 | []=>by simp only [List.map_nil,a0i]
 | z :: zs=>by
  simp only [zax,a0i]
  exact ⟨_,_,rfl,by simp only [Rep],a3l zs⟩
theorem b0K {g:Gd} {S:SS} {H:Hp} {kvs:List (Key × D)} {ws:List (Key × V)} (r:a0V g S H kvs ws):ws.map (·.1)=kvs.map (·.1):=by
 have q:=a05 r
 clear r
 induction q with
 | nil=>rfl
 | cons h _ ih=>rw [zax,zax,ih,h.1]
theorem b0L {g:Gd} {S:SS} {H:Hp} {kvs:List (Key × D)} {ws:List (Key × V)} (r:a0V g S H kvs ws):a0i g S H (kvs.map (·.2)) (ws.map (·.2)):=by
 have q:=a05 r
 clear r
 refine a5e ?_
 induction q with
 | nil=>exact .nil
 | cons h _ ih=>exact .cons h.2 ih
def a7O (cell:Bool) (xs:List D) (S:SS) (K:DK):Prop:=match xs with
 | [d]=>∃ zs:List Str,(vw S d=.lst (zs.map D.str)∨∃ kvs,vw S d=.dic kvs∧kvs.map (·.1)=zs.map Sum.inr)∧zs.length < 64∧outL cell ((a0l zs).map D.str) S K
 | _=>False
def b3P (cell:Bool) (xs:List D) (S:SS) (K:DK):Prop:=match xs with
 | [d]=>∃ kvs,vw S d=.dic kvs∧outK cell kvs S K
 | _=>False
section
variable {X:Cx} {g:Gd}
theorem b0S (calm:X.calm=true) (hK:g.K=X.K) (cell:Bool):CallR X (.builtin "sorted") (rDc g (a7O cell)):=by
 rintro pins s σ H vs us Q I given ⟨xs,S,K,cells,reps,told,res⟩
 unfold a7O at told
 split at told
 ·obtain ⟨v,rfl,rep⟩:=one_of reps
  obtain ⟨zs,seen | ⟨kvs,seen,keys⟩,few,k⟩:=told
  ·obtain ⟨p,ws,rfl,seq,all⟩:=a0r cells rep seen
   rw [hK] at seq
   cases a2h zs all
   exact cr_sortedS _ _ _ _ _ _ _ I given ⟨p,zs,rfl,seq,few,fun ys q perm up free=>by
    rw [a4M perm up]
    exact res.outL k cells (a3l _) free⟩
  ·obtain ⟨p,ws,rfl,at_p,all⟩:=a1H cells rep seen
   exact call_sortedD calm _ _ _ _ _ _ _ I given ⟨p,ws,zs,rfl,at_p,(b0K all).trans keys,few,fun ys q perm up free=>by
    rw [a4M perm up]
    exact res.outL k cells (a3l _) free⟩
 ·exact told.elim
theorem b3Q (cell:Bool):CallR X (.type "dict") (rDc g (b3P cell)):=by
 rintro pins s σ H vs us Q I given ⟨xs,S,K,cells,reps,told,res⟩
 unfold b3P at told
 split at told
 ·obtain ⟨v,rfl,rep⟩:=one_of reps
  obtain ⟨kvs,seen,k⟩:=told
  obtain ⟨p,ws,rfl,at_p,all⟩:=a1H cells rep seen
  exact call_dictD _ _ _ _ _ _ _ I given ⟨p,ws,rfl,at_p,fun q free=>res.outK k cells all free⟩
 ·exact told.elim
def b4r (x:D) (xs:List D) (S:SS) (K:DK):Prop:=match x,xs with
 | .str a,[d]=>∃ zs:List Str,(vw S d=.lst (zs.map D.str)∨vw S d=.tup (zs.map D.str))∧(zs.map (·.length)).sum + zs.length * a.length≤16777216∧K (.str (Txt.join a zs)) S
 | _,_=>False
def b04 (x:D) (xs:List D) (S:SS) (K:DK):Prop:=match x,xs with
 | .str a,[]=>a.length≤5592405∧K (.str (Txt.upper a)) S
 | _,_=>False
def c0A (x:D) (xs:List D) (S:SS) (K:DK):Prop:=match x,xs with
 | .obj p,[d]=>∃ ds,S p=some (.lst ds)∧ds.length < sizeLine∧K .non (S.set p (.lst (ds ++ [d])))
 | _,_=>False
def c1u (x:D) (xs:List D) (S:SS) (K:DK):Prop:=match x,xs with
 | .obj p,[.int i,d]=>∃ ds,S p=some (.lst ds)∧ds.length < sizeLine∧0≤i∧i < 2 ^ 63∧K .non (S.set p (.lst (ds.take i.toNat ++ [d] ++ ds.drop i.toNat)))
 | _,_=>False
def c1S (x:D) (xs:List D) (S:SS) (K:DK):Prop:=match x,xs with
 | .obj p,[]=>∃ ds d,S p=some (.lst ds)∧ds[ds.length - 1]?=some d∧K d (S.set p (.lst ds.dropLast))
 | .obj p,[.int i]=>∃ (ds:List D) (d:D) (k:Nat),S p=some (.lst ds)∧i=(k:Int)∧ds[k]?=some d∧i < 2 ^ 63∧K d (S.set p (.lst (ds.eraseIdx k)))
 | _,_=>False
def a9J (x:D) (xs:List D) (S:SS) (K:DK):Prop:=match x,xs with
 | .obj p,[]=>∃ ds,S p=some (.lst ds)∧K .non (S.set p (.lst []))
 | _,_=>False
def c0T (x:D) (xs:List D) (S:SS) (K:DK):Prop:=match xs with
 | [d]=>∃ ds,vw S x=.lst ds∧D.okds 59 ds=true∧D.okd 60 (vw S d)=true∧K (.int (ds.countP fun z=>D.eqv z (vw S d):Nat)) S
 | _=>False
def b3R (x:D) (xs:List D) (S:SS) (K:DK):Prop:=match x,xs with
 | .obj p,[k]=>∃ kvs key d,S p=some (.dic kvs)∧keyD k=some key∧valD kvs key=some d∧K d (S.set p (.dic (a5L kvs key)))
 | _,_=>False
theorem b4s (hK:g.K=X.K):MtR X "str.join" (rDm g b4r):=by
 rintro pins s σ H v vs u us Q I rv given ⟨x,xs,S,K,cells,rep,reps,told,res⟩
 unfold b4r at told
 split at told
 ·obtain ⟨w,rfl,rep2⟩:=one_of reps
  cases a0B rep
  obtain ⟨zs,seen,few,k⟩:=told
  have laid:∃ p,w=.ref p∧(SqL X.K H p (zs.map V.str)∨SqT X.K H p (zs.map V.str)):=by
   rw [← hK]
   rcases seen with seen | seen
   ·obtain ⟨p,ws,e,seq,all⟩:=a0r cells rep2 seen
    rw [a2h zs all] at seq
    exact ⟨p,e,.inl seq⟩
   ·obtain ⟨p,ws,e,seq,all⟩:=a0H rep2 seen
    rw [a2h zs all] at seq
    exact ⟨p,e,.inr seq⟩
  obtain ⟨p,rfl,seq⟩:=laid
  exact mt_join _ _ _ _ _ _ _ _ _ I rv given ⟨_,p,zs,rfl,rfl,seq,few,res.str k cells⟩
 ·exact told.elim
theorem b2B:MtR X "str.upper" (rDm g b04):=by
 rintro pins s σ H v vs u us Q I rv given ⟨x,xs,S,K,cells,rep,reps,told,res⟩
 unfold b04 at told
 split at told
 ·simp only [a0i] at reps
  subst reps
  cases a0B rep
  exact mt_upper _ _ _ _ _ _ _ _ _ I rv given ⟨_,rfl,rfl,told.1,res.str told.2 cells⟩
 ·exact told.elim
theorem app_ok:MtR X "list.append" (rDm g c0A):=by
 rintro pins s σ H v vs u us Q I rv given ⟨x,xs,S,K,cells,rep,reps,told,res⟩
 unfold c0A at told
 split at told
 ·rename_i p d
  obtain ⟨w,rfl,rep2⟩:=one_of reps
  cases a0z rep
  obtain ⟨ds,at_p,few,k⟩:=told
  obtain ⟨ws,here,all⟩:=cells p _ at_p
  have P:=a0h.write (H:=H) (o:=.lst (ws ++ [w])) (c:=.lst (ds ++ [d])) at_p
  exact mt_append _ _ _ _ _ _ _ _ _ I rv given ⟨p,ws,w,rfl,rfl,here,by rw [← all.length];exact few,res _ _ _ _ k P (cells.write at_p ⟨_,upd_same,(all.append reps).mono P⟩) (by simp only [Rep])⟩
 ·exact told.elim
theorem b69:MtR X "list.insert" (rDm g c1u):=by
 rintro pins s σ H v vs u us Q I rv given ⟨x,xs,S,K,cells,rep,reps,told,res⟩
 unfold c1u at told
 split at told
 ·rename_i p i d
  obtain ⟨wi,w,rfl,repi,rep2⟩:=a1j reps
  cases a0z rep
  cases a0k repi
  obtain ⟨ds,at_p,few,lo,hi,k⟩:=told
  obtain ⟨ws,here,all⟩:=cells p _ at_p
  have P:=a0h.write (H:=H) (o:=.lst (ws.take i.toNat ++ [w] ++ ws.drop i.toNat)) (c:=.lst (ds.take i.toNat ++ [d] ++ ds.drop i.toNat)) at_p
  have one:a0i g S H [d] [w]:=by simp only [a0i];exact ⟨w,[],rfl,rep2,rfl⟩
  exact mt_insert _ _ _ _ _ _ _ _ _ I rv given ⟨p,ws,i,w,rfl,rfl,here,by rw [← all.length];exact few,lo,hi,res _ _ _ _ k P (cells.write at_p ⟨_,upd_same,(((all.take _).append one).append (all.drop _)).mono P⟩) (by simp only [Rep])⟩
 ·exact told.elim
theorem a0i.dropLast {S:SS} {H:Hp} {ds:List D} {vs:List V} (h:a0i g S H ds vs):a0i g S H ds.dropLast vs.dropLast:=a5e (a7K (a3Q h))
theorem b7I:MtR X "list.pop" (rDm g c1S):=by
 rintro pins s σ H v vs u us Q I rv given ⟨x,xs,S,K,cells,rep,reps,told,res⟩
 unfold c1S at told
 split at told
 ·rename_i p
  simp only [a0i] at reps
  subst reps
  cases a0z rep
  obtain ⟨ds,d,at_p,last,k⟩:=told
  obtain ⟨ws,here,all⟩:=cells p _ at_p
  obtain ⟨w,at_last,like⟩:=all.get last
  have P:=a0h.write (H:=H) (o:=.lst ws.dropLast) (c:=.lst ds.dropLast) at_p
  exact mt_pop _ _ _ _ _ _ _ _ _ I rv given ⟨p,ws,w,rfl,rfl,here,by rw [← all.length];exact at_last,res _ _ _ _ k P (cells.write at_p ⟨_,upd_same,all.dropLast.mono P⟩) (like.mono P)⟩
 ·rename_i p i
  obtain ⟨w0,rfl,repi⟩:=one_of reps
  cases a0z rep
  cases a0k repi
  obtain ⟨ds,d,k,at_p,rfl,at_k,small,kk⟩:=told
  obtain ⟨ws,here,all⟩:=cells p _ at_p
  obtain ⟨w,at_w,like⟩:=all.get at_k
  have lt:k < ws.length:=(List.getElem?_eq_some_iff.mp at_w).1
  have six:=(ixN_seq (n:=ws.length) (i:=(k:Int)) (j:=k) (by unfold ixN;rw [if_pos (by omega),if_pos (by omega)];simp)).1
  have P:=a0h.write (H:=H) (o:=.lst (ws.eraseIdx k)) (c:=.lst (ds.eraseIdx k)) at_p
  have er:a0i g S H (ds.eraseIdx k) (ws.eraseIdx k):=by
   rw [List.eraseIdx_eq_take_drop_succ,List.eraseIdx_eq_take_drop_succ]
   exact (all.take k).append (all.drop (k + 1))
  exact mt_popAt _ _ _ _ _ _ _ _ _ I rv given ⟨p,ws,k,k,w,rfl,rfl,here,by omega,small,six,at_w,res _ _ _ _ kk P (cells.write at_p ⟨_,upd_same,er.mono P⟩) (like.mono P)⟩
 ·exact told.elim
theorem b1y:MtR X "list.clear" (rDm g a9J):=by
 rintro pins s σ H v vs u us Q I rv given ⟨x,xs,S,K,cells,rep,reps,told,res⟩
 unfold a9J at told
 split at told
 ·rename_i p
  simp only [a0i] at reps
  subst reps
  cases a0z rep
  obtain ⟨ds,at_p,k⟩:=told
  obtain ⟨ws,here,all⟩:=cells p _ at_p
  exact mt_clear _ _ _ _ _ _ _ _ _ I rv given ⟨p,ws,rfl,rfl,here,res _ _ _ _ k (a0h.write at_p) (cells.write at_p ⟨[],upd_same,by simp only [a0i]⟩) (by simp only [Rep])⟩
 ·exact told.elim
theorem a77 {S:SS} {H:Hp} {kvs:List (Key × D)} {ws:List (Key × V)} (k:Key) (h:a0V g S H kvs ws):a0V g S H (a5L kvs k) (dropK ws k):=by
 have q:=a05 h
 refine b0p ?_
 clear h
 unfold a5L dropK
 induction q with
 | nil=>exact .nil
 | @cons x y l m r _ ih =>
  have same:decide (x.1≠k)=decide (y.1≠k):=by rw [r.1]
  rw [List.filter_cons,List.filter_cons]
  by_cases z:y.1≠k
  ·rw [same,zbg z,if_pos rfl,if_pos rfl]
   exact .cons r ih
  ·rw [same,zbf z,if_neg zbe,if_neg zbe]
   exact ih
theorem b3S:MtR X "dict.pop" (rDm g b3R):=by
 rintro pins s σ H v vs u us Q I rv given ⟨x,xs,S,K,cells,rep,reps,told,res⟩
 unfold b3R at told
 split at told
 ·rename_i p k0
  obtain ⟨w,rfl,rep2⟩:=one_of reps
  cases a0z rep
  cases (show u=Value.ref p from rv)
  obtain ⟨kvs,key,d,at_p,is,found,k⟩:=told
  obtain ⟨ws,here,all⟩:=cells p _ at_p
  cases a1d is rep2
  obtain ⟨uk,rfl,rk⟩:=Vals.one given
  rcases a1P all key with ⟨z,_⟩ | ⟨d2,w2,z1,z2,like⟩
  ·rw [found] at z;cases z
  ·rw [found] at z1
   cases z1
   have P:=a0h.write (H:=H) (o:=.dK (dropK ws key)) (c:=.dic (a5L kvs key)) at_p
   exact d_pop I here rk z2 (.inl rfl) fun w' s' I' rw'=>⟨w2,_,I',rw',res _ _ _ _ k P (cells.write at_p ⟨_,upd_same,(a77 key all).mono P⟩) (like.mono P)⟩
 ·exact told.elim
def a0L (kvs more:List (Key × D)):List (Key × D):=more.foldl (fun acc kv=>putD acc kv.1 kv.2) kvs
def c3B (x:D) (xs:List D) (S:SS) (K:DK):Prop:=match x,xs with
 | .obj p,[.dic more]=>∃ kvs,S p=some (.dic kvs)∧kvs.length + more.length≤sizeLine∧K .non (S.set p (.dic (a0L kvs more)))
 | _,_=>False
theorem a4y {g:Gd} {S:SS} {H:Hp} {more:List (Key × D)}:∀ {ws:List (Key × V)} {kvs:List (Key × D)} {us:List (Key × V)},a0V g S H more ws→a0V g S H kvs us→a0V g S H (a0L kvs more) (mergeK us ws):=by
 induction more with
 | nil =>
  intro ws kvs us h q
  simp only [a0V] at h
  subst h
  exact q
 | cons p more ih =>
  intro ws kvs us h q
  obtain ⟨k,d⟩:=p
  simp only [a0V] at h
  obtain ⟨v,ws,rfl,r,h⟩:=h
  show a0V g S H (a0L (putD kvs k d) more) (mergeK (putK us k v) ws)
  exact ih h (a7I q k r)
theorem b8I:MtR X "dict.update" (rDm g c3B):=by
 rintro pins s σ H v vs u us Q I rv given ⟨x,xs,S,K,cells,rep,reps,told,res⟩
 unfold c3B at told
 split at told
 ·rename_i p more
  obtain ⟨w,rfl,rep2⟩:=one_of reps
  cases a0z rep
  cases (show u=Value.ref p from rv)
  obtain ⟨kvs,at_p,few,k⟩:=told
  obtain ⟨ws,here,all⟩:=cells p _ at_p
  simp only [Rep] at rep2
  obtain ⟨q,vs2,rfl,own,rd,all2⟩:=rep2
  obtain ⟨uk,rfl,rk⟩:=Vals.one given
  cases (show uk=Value.ref q from rk)
  have ne:p≠q:=fun e=>by rw [e,own] at at_p;cases at_p
  obtain ⟨z,hd,vals,rel,dd⟩:=dk_of I.hok here
  obtain ⟨z2,hd2,vals2,rel2,dd2⟩:=dk_rd I.hok (.inl rd)
  have l1:kvs.length=ws.length:=(a05 all).length
  have l2:more.length=vs2.length:=(a05 all2).length
  have room:(mergeK ws vs2).length≤sizeLine:=Nat.le_trans (length_mergeK vs2 ws) (by rw [← l1,← l2];exact few)
  refine call_meetsIn PySem.F.slot_dict_update dd.typeIs PySem.F.entry_dict_update (PySem.F.args_dict_update_2 _ _) (meets_dict_update (mixKind X.prog X.w) p q ne hd2) ⟨vals,vals2,dd,dd2,by rw [← rel.length,← rel2.length,← l1,← l2];exact few,fun h' dd' _ hs=>?_⟩
  have he:∃ o,h'.get? p=some o:=let ⟨o,_,_,ho,_⟩:=dd';⟨o,ho⟩
  have P:=a0h.write (H:=H) (o:=.dK (mergeK ws vs2)) (c:=.dic (a0L kvs more)) at_p
  exact ⟨.non,_,d_write I (by rw [here];exact True.intro) hs he (dk_new room hd (rel2.merge rel) dd'),rfl,res _ _ _ _ k P (cells.write at_p ⟨_,upd_same,(a4y all2 all).mono P⟩) (by simp only [Rep])⟩
 ·exact told.elim
theorem c5u {its:List Value} {h:Heap} {ds:List PyData} {d:PyData} (is:its.map (SeqAt.readOf h)=ds):its.countP (fun u=>PyData.eqv (SeqAt.readOf h u) d)=ds.countP fun z=>PyData.eqv z d:=by
 rw [← is,List.countP_map]
 rfl
theorem a7J:∀ ds:List D,D.pys ds=ds.map D.py
 | []=>rfl
 | d :: ds=>by rw [D.pys,a7J ds,zax]
theorem b6j (hK:g.K=X.K) (units:X.A.units + 65 < cLine):MtR X "list.count" (rDm g c0T):=by
 rintro pins s σ H v vs u us Q I rv given ⟨x,xs,S,K,cells,rep,reps,told,res⟩
 unfold c0T at told
 split at told
 ·rename_i d
  obtain ⟨w,rfl,rep2⟩:=one_of reps
  obtain ⟨ds,seen,flat,fine,k⟩:=told
  have fine2:D.okd 60 (.lst ds)=true:=by simp only [D.okd,zak];exact ⟨rfl,flat⟩
  have lay:Dp X.K H w (vw S d).py:=hK ▸ a3y cells rep2 rfl fine
  obtain ⟨p,ws,rfl,seq,all⟩:=a0r cells rep seen
  have lays:DpAll X.K H ws (D.pys ds):=hK ▸ a4n 59 flat all
  rw [hK] at seq
  cases (show u=Value.ref p from rv)
  obtain ⟨uw,rfl,rw2⟩:=Vals.one given
  obtain ⟨bs,r1⟩:=Dp.reads I _ _ _ lay rw2
  obtain ⟨its,rel,⟨⟨cls,dd,data,sls⟩,n,here,isL,_,dt⟩,_⟩:=I.list seq
  simp only at isL dt
  subst isL dt
  obtain ⟨as,r2⟩:=Dp.readsAll I _ _ its lays rel
  have can:PyData.canLayAll0 (D.pys ds)=true:=SeqAt.canLay_of_shaped (d:=.list (D.pys ds)) (a0t fine2)
  have room:X.A.units + 1 + min (PyData.depthAll (D.pys ds)) (vw S d).py.depth < cLine:=room_in_shaped (a0t fine) units
  have is:its.map (SeqAt.readOf s.heap)=D.pys ds:=SeqAt.readsAll_map _ its as can r2
  refine call_meets PySem.F.slot_list_count ⟨_,here,rfl⟩ PySem.F.entry_list_count (PySem.F.args_list_count_2 _ _) (SeqAt.list_countAt p its.toArray n dd sls uw fun u=>PyData.eqv (SeqAt.readOf s.heap u) (vw S d).py) ⟨here,SeqAt.items_eqAt (vs:=its.toArray) (show ReadsAll s.heap its.toArray.toList _ as from r2) r1 can (SeqAt.canLay_of_shaped (a0t fine)) room,?_⟩
  refine ⟨.int (ds.countP fun z=>D.eqv z (vw S d):Nat),H,I.tok _,⟨s.toks,?_⟩,res.int k cells⟩
  show Value.int ((its.toArray.toList.countP fun u=>PyData.eqv (SeqAt.readOf s.heap u) (vw S d).py:Nat):Int) s.toks=_
  rw [List.toList_toArray,c5u is,a7J,List.countP_map]
  rfl
 ·exact told.elim
end
end Sv
namespace Sv
open PySem PySem.Spec PyProof.Rows L2
open L2H (RoomH)
def tOm (C:Addr) (m:Str) (m0:Option (Addr × Obj)) (sp:SpM) (E:L2.St→XK) (to:TE) (t:TA):TE:=fun σ H Q=>to σ H fun x H1=>∃ a dx fs,x=.ref a∧H1 a=some (.ins C dx fs)∧fs.lookup m=none∧t σ H1 fun vs H2=>sp m0 (x :: vs) H2 Q (E σ)
def b5t (C:Addr) (sp:SpM) (E:L2.St→XK) (t:TA):TE:=fun σ H Q=>t σ H fun vs H1=>∀ x dx,H1 x=none→H1 dx=none→dx≠x →
 sp none (.ref x :: vs) (upd (upd H1 dx (.own x)) x (.ins C dx [])) (fun v H2=>v=.non∧Q (.ref x) H2) (E σ)
section
variable {X:Cx} {hot:Bool} {m0:Option (Addr × Obj)} {k:Nat} {f C:Addr} {fd:FuncData} {ps:List Str} {sp:SpM} {E:L2.St→XK} {x m:Str} {q apos pos:Pos} {o e:Expr} {es:List Expr} {to:TE} {t:TA}
def b5J (X:Cx) (o:Expr) (m:Str) (apos:Pos) (es:List Expr) (pos:Pos) (pl:Sem Bool):Prop:=eval (.Call (.Attribute o m apos) es [] pos) X.env=(do
 let ov ← eval o X.env
 standAt apos.atName
 let (f,first) ← holding [ov] (getMethod ov m pl)
 callWith pos f first (backTo pos (starEach es X.env)) (backToKw pos (keywordEach [] X.env)))
theorem a8B {pins:List (Addr × Obj)} {σ:L2.St} {H:Hp} {s:Shared} {Q:VK} {us:List Value} {vs:List V} {a:Addr} (F:FnG X.prog X.w X.K X.mg X.base hot k f fd ps sp) (hh:m0.isSome=hot) (room:RoomH k X.A) (mode:a1p X m0) (binds:L2.Binds X.K fd ps [])
  (out:PassesAt (L2N.CX X.prog X.w) X σ (E σ)) (I:Inv X pins σ H s) (rv:Vals vs us) (want:sp m0 (.ref a :: vs) H Q (E σ)):wpAny (model X.prog X.w) X.A (call (.ref f) (.ref a :: us)) (EP X pins σ Q) X.xe s :=
 a7N (dvs:=[]) (vs:=.ref a :: vs) F hh room mode binds .nil out I (.cons rfl rv) (by rw [List.append_nil];exact want)
theorem c1P {pl:Sem Bool} (F:FnG X.prog X.w X.K X.mg X.base hot k f fd ps sp) (hh:m0.isSome=hot) (room:RoomH k X.A) (mode:a1p X m0) (cls:Cls X.K C) (is:Meth X.K C m f) (binds:L2.Binds X.K fd ps [])
  (out:∀ σ,PassesAt (L2N.CX X.prog X.w) X σ (E σ)) (recv:PE X o to) (args:PA X (e :: es) t) (form:b5J X o m apos (e :: es) pos pl) (plain:starEach (e :: es) X.env=(false,eval e X.env) :: starEach es X.env) (rest:(backTo pos (starEach es X.env)).any (·.1)=false) :
  PE X (.Call (.Attribute o m apos) (e :: es) [] pos) (tOm C m m0 sp E to t) where
 run pins s σ H Q I want:=PySem.W.methodCall_KW (thn (recv.run pins s σ H _ I want) fun u s1 ⟨x,H1,J,rx,a,dx,fs,isRef,at_a,free,go⟩=>by
  subst isRef
  cases (show u=Value.ref a from rx)
  exact getmeth_ok J at_a cls is free (PySem.W.callWith_K (first:=[.ref a]) (h₀:=X.base) J.ok.mod.kin is.kp
   (thn (args.run pos pins s1 σ H1 _ J go) fun us s2 ⟨vs,H2,J2,rv,want2⟩=>⟨J2.kIn,a8B F hh room mode binds (out σ) J2 rv want2⟩) plain rest)) form
theorem b7E {pl:Sem Bool} (F:FnG X.prog X.w X.K X.mg X.base hot k f fd ps sp) (hh:m0.isSome=hot) (room:RoomH k X.A) (mode:a1p X m0) (cls:Cls X.K C) (is:Meth X.K C m f) (binds:L2.Binds X.K fd ps [])
  (out:∀ σ,PassesAt (L2N.CX X.prog X.w) X σ (E σ)) (recv:PE X o to) (form:b5J X o m apos [] pos pl):PE X (.Call (.Attribute o m apos) [] [] pos) (tOm C m m0 sp E to tNil) where
 run pins s σ H Q I want:=PySem.W.methodCall_KW (thn (recv.run pins s σ H _ I want) fun u s1 ⟨x,H1,J,rx,a,dx,fs,isRef,at_a,free,go⟩=>by
  subst isRef
  cases (show u=Value.ref a from rx)
  exact getmeth_ok J at_a cls is free (PySem.W.callWith_K0 (first:=[.ref a]) J.kIn is.kp (a8B F hh room mode binds (out σ) J .nil go))) form
theorem b3e {pins:List (Addr × Obj)} {σ:L2.St} {H:Hp} {s:Shared} {Q:VK} {us:List Value} {vs:List V} (M:Mk X.K C f) (F:FnG X.prog X.w X.K X.mg X.base false k f fd ps sp) (room:RoomH (k + 1) X.A) (mode:a1p X none) (binds:L2.Binds X.K fd ps [])
  (out:PassesAt (L2N.CX X.prog X.w) X σ (E σ)) (I:Inv X pins σ H s) (rv:Vals vs us)
  (want:∀ x dx,H x=none→H dx=none→dx≠x→sp none (.ref x :: vs) (upd (upd H dx (.own x)) x (.ins C dx [])) (fun v H2=>v=.non∧Q (.ref x) H2) (E σ)):wpAny (model X.prog X.w) X.A (call (.ref C) us) (EP X pins σ Q) X.xe s:=by
 have young:=fun n (h:s.heap.objs.size≤n)=>I.hok.fresh h
 have asked:=want (s.heap.objs.size + 1) _ (young _ (Nat.le_add_right _ 1)) (young _ (Nat.le_refl _)) (Nat.ne_of_lt (Nat.lt_succ_self _))
 have J:=Inv.made (C:=C) I
 have given:Vals (V.ref (s.heap.objs.size + 1) :: vs) (Value.ref (s.heap.objs.size + 1) :: us):=.cons rfl rv
 have bound:=binds _ (Value.ref (s.heap.objs.size + 1) :: us) J.kIn (by rw [List.append_nil,← given.length];exact F.len _ _ _ _ _ rfl asked)
 rw [List.append_nil] at bound
 have inner:=F.run _ X.stack _ _ ⟨Value.ref (s.heap.objs.size + 1) :: us,[]⟩ _ _ _ (E σ) none rfl (room.make C us []) ⟨mode.1,show (X.A.under _).handled=none from J.ok.hd mode.2⟩ (J.env0.make C us []) bound given asked
 apply wpAny_call
 apply make_map (f:=f) I.kIn M.makes M.init (beq_iff_eq.mp M.fn)
 apply codeAny_mono inner
 rintro (err | (_ | u | _ | _)) s2 told
 ·exact out _ _ _ _ _ J told
 all_goals first | exact told.elim | skip
 obtain ⟨v,H2,J2,like,rfl,done⟩:=J.after told
 exact ⟨like,.ref _,H2,J2,rfl,done⟩
theorem pe_mk (M:Mk X.K C f) (F:FnG X.prog X.w X.K X.mg X.base false k f fd ps sp) (room:RoomH (k + 1) X.A) (mode:a1p X none) (gl:Gl X x) (at_x:X.mg x=some (.ref C)) (db:(x == ("__debug__" : Str))=false) (binds:L2.Binds X.K fd ps [])
  (out:∀ σ,PassesAt (L2N.CX X.prog X.w) X σ (E σ)) (args:PA X (e :: es) t) (plain:starEach (e :: es) X.env=(false,eval e X.env) :: starEach es X.env) (rest:(backTo pos (starEach es X.env)).any (·.1)=false) :
  PE X (.Call (.Name x q) (e :: es) [] pos) (b5t C sp E t) where
 run pins s σ H Q I want:=wpAny_Call_Name_kw (ld_glob I gl at_x (PySem.W.callWith_K (h₀:=X.base) I.ok.mod.kin M.kp
  (thn (args.run pos pins s σ H _ I want) fun us s1 ⟨vs,H1,J,rv,go⟩=>⟨J.kIn,b3e M F room mode binds (out σ) J rv go⟩) plain rest) db)
theorem b7B (M:Mk X.K C f) (F:FnG X.prog X.w X.K X.mg X.base false k f fd ps sp) (room:RoomH (k + 1) X.A) (mode:a1p X none) (gl:Gl X x) (at_x:X.mg x=some (.ref C)) (db:(x == ("__debug__" : Str))=false) (binds:L2.Binds X.K fd ps [])
  (out:∀ σ,PassesAt (L2N.CX X.prog X.w) X σ (E σ)):PE X (.Call (.Name x q) [] [] pos) (b5t C sp E tNil) where
 run pins s σ H Q I want:=wpAny_Call_Name_kw (ld_glob I gl at_x (PySem.W.callWith_K0 I.kIn M.kp (b3e M F room mode binds (out σ) I .nil want)) db)
end
def c3q (te:TE):TE:=fun σ H Q=>te σ H fun x H1=>∃ (d:Addr) (kvs:List (Key × V)),x=.ref d∧H1 d=some (.dK kvs)∧∀ p,H1 p=none→Q (.ref p) (upd H1 p (.lst (kvs.map (·.2))))
section
variable {X:Cx} {e:Expr} {te:TE} {p apos cpos pos:Pos}
theorem b4Z (calm:X.calm=true) (he:PE X e te) (gl:Gl X "list") (free:X.mg "list" = none) (base:attributeBase e "values" X.env (eval e X.env)=eval e X.env) (line:(apos.endLine == cpos.line)=true) :
  PE X (.Call (.Name "list" p) [.Call (.Attribute e "values" apos) [] [] cpos] [] pos) (c3q te) where
 run pins s σ H Q I want:=by
  refine wpAny_Call_Name_kw (ld_blt I gl free (u:=.type "list") (by decide +kernel) (PyProof.Rows.callWith_type1 (Calls.spliced_cons ?_) rfl rfl))
  refine wpAny_Call_method (T := "dict") (id := "dict.values") base rfl line PySem.F.plainAttrs_dict PySem.F.slot_dict_values PySem.F.type_dict_values (thn (he.run pins s σ H _ I want) ?_)
  rintro u s1 ⟨x,H1,J,rx,d,kvs,rfl,at_d,go⟩
  cases (show u=Value.ref d from rx)
  obtain ⟨few,notSys,vs,kv,isD⟩:=J.hok d _ at_d
  obtain ⟨ep,lies⟩:=isD.dictAt
  have same:kvs.length=vs.length:=Paired.length kv
  have J2:Inv X pins σ H1 { s1 with heap:=s1.heap.push { cls:=.type "dict_values",data:=.fields #[.ref d] } }:=J.kept (t':=s1.toks) fun b ob z=>Heap.get?_push_of_some _ z
  refine ⟨isD.typeIs,isD.mapOf.noDict,?_⟩
  refine method_meetsIn PySem.F.slot_dict_values PySem.F.entry_dict_values rfl (PySem.evalArgs_none ⟨rfl,isD.typeIs,PySem.F.args_dict_values_1 _,_,meets_dict_values (mixKind X.prog X.w) d notSys,⟨vs,isD⟩,?_⟩)
  refine Calls.spliced_nil ?_
  refine PySem.W.kdl_call (PySem.W.kdl_values (knd:=mixKind X.prog X.w) (kvs:=vs) (ep:=ep)) (J.ok.hd calm) ⟨⟨_,Heap.get?_push_size _ rfl,rfl,rfl⟩,lies.push _⟩ (by rw [← same];exact few) fun h' tk acc c keep made told=>?_
  have like:Vals (kvs.map (·.2)) acc.toList:=vals_of_at (by rw [zag,same];simpa using told.1.symm) fun j x w h1 h2=>by
   obtain ⟨k,at_j⟩:=told.2 j w (by rw [← Array.getElem?_toList];exact h2)
   rw [zbh,zam] at h1
   obtain ⟨y,at_y,rfl⟩:=h1
   obtain ⟨z,at_z,_,rel⟩:=LiI.paired_get kv at_y
   rw [at_j] at at_z
   cases at_z
   exact rel
  exact ⟨.ref _,_,J2.laid (t':=tk) (o:=.lst (kvs.map (·.2))) keep (Nat.le_refl _) ⟨by rw [zag];exact few,acc.toList,c,like,by rw [Array.toArray_toList];exact made⟩,rfl,go _ (J2.hok.fresh (Nat.le_refl _))⟩
end
end Sv
namespace Sv
open PySem PySem.Spec PyProof.Rows L2
def a5u:List D→Option (List (Key × D))
 | []=>some []
 | .tup [k,v] :: r=>match keyD k,a5u r with
  | some key,some q=>some ((key,v) :: q)
  | _,_=>none
 | _=>none
def a9M (cell:Bool) (xs:List D) (S:SS) (K:DK):Prop:=match xs with
 | [d]=>∃ ps kvs,vw S d=.lst ps∧a5u ps=some kvs∧outK cell (a0L [] kvs) S K
 | _=>False
def c0z (xs:List D) (S:SS) (K:DK):Prop:=match xs with
 | [d]=>∃ bs:List Bool,vw S d=.lst (bs.map D.bl)∧K (.bl (bs.all id)) S
 | _=>False
def c3p (xs:List D) (S:SS) (K:DK):Prop:=match xs with
 | [d]=>∃ ns:List Int,vw S d=.lst (ns.map D.int)∧K (.int ns.sum) S
 | _=>False
def c3o (xs:List D) (S:SS) (K:DK):Prop:=match xs with
 | [.int i]=>i.natAbs.log2 < 1920∧K (.str (toString i)) S
 | [.str z]=>K (.str z) S
 | _=>False
def keyV:Key→D
 | .inl i=>.int i | .inr x=>.str x
def b0g (cell:Bool) (xs:List D) (S:SS) (K:DK):Prop:=match xs with
 | [d]=>∃ kvs,vw S d=.dic kvs∧outL cell (kvs.map fun kv=>keyV kv.1) S K
 | _=>False
def a8d (x:D) (S:SS):Prop:=(∃ kvs,x=.dic kvs)∨∃ p kvs,x=.obj p∧S p=some (.dic kvs)
def b3N (x:D) (xs:List D) (S:SS) (K:DK):Prop:=match xs with
 | [k]=>∃ kvs key,vw S x=.dic kvs∧keyD k=some key∧K ((valD kvs key).getD .non) S
 | [k,z]=>∃ kvs key,vw S x=.dic kvs∧keyD k=some key∧K ((valD kvs key).getD z) S
 | _=>False
def b3T (x:D) (xs:List D) (S:SS) (K:DK):Prop:=match x,xs with
 | .obj p,[k,z]=>∃ kvs key,S p=some (.dic kvs)∧keyD k=some key∧kvs.length < sizeLine∧(∀ d,valD kvs key=some d→K d S)∧(valD kvs key=none→K z (S.set p (.dic (putD kvs key z))))
 | _,_=>False
def a9N (x:D) (xs:List D) (S:SS) (K:DK):Prop:=match x,xs with
 | .obj p,[k,z]=>∃ kvs key,S p=some (.dic kvs)∧keyD k=some key∧(∀ d,valD kvs key=some d→K d (S.set p (.dic (a5L kvs key))))∧(valD kvs key=none→K z S)
 | _,_=>False
def c1r (x:D) (xs:List D) (S:SS) (K:DK):Prop:=match xs with
 | [d]=>∃ ds j z,vw S x=.lst ds∧a2d d=true∧ds.all a2d=true∧ds[j]?=some z∧D.eqv z d=true∧(∀ m z',m < j→ds[m]?=some z'→D.eqv z' d=false)∧K (.int (j:Nat)) S
 | _=>False
section
variable {X:Cx} {g:Gd} {S:SS} {H:Hp}
theorem a8A:∀ (bs:List Bool) {vs:List V},a0i g S H (bs.map D.bl) vs→vs=bs.map V.bl
 | [],_,r=>by simp only [List.map_nil,a0i] at r;exact r
 | z :: zs,_,r=>by
  simp only [zax,a0i] at r
  obtain ⟨v,q,rfl,one,more⟩:=r
  rw [a3f one,a8A zs more,zax]
theorem a4H:∀ (bs:List Int) {vs:List V},a0i g S H (bs.map D.int) vs→vs=bs.map V.int
 | [],_,r=>by simp only [List.map_nil,a0i] at r;exact r
 | z :: zs,_,r=>by
  simp only [zax,a0i] at r
  obtain ⟨v,q,rfl,one,more⟩:=r
  rw [a0k one,a4H zs more,zax]
theorem pairs_at (hK:g.K=X.K):∀ {ps:List D} {kvs:List (Key × D)} {vs:List V},a5u ps=some kvs→a0i g S H ps vs→∃ as ws,vs=as.map V.ref∧Paired (fun p kv=>SqT X.K H p [kV kv.1,kv.2]) as ws∧a0V g S H kvs ws
 | [],kvs,vs,e,r=>by
  cases e
  simp only [a0i] at r
  subst r
  exact ⟨[],[],rfl,.nil,by simp only [a0V]⟩
 | d :: r0,kvs,vs,e,r=>by
  simp only [a0i] at r
  obtain ⟨v,q,rfl,one,more⟩:=r
  unfold a5u at e
  split at e
  ·rename_i e0
   cases e0
  ·rename_i k z r1 e0
   obtain ⟨rfl,rfl⟩:=List.cons.inj e0
   split at e
   ·rename_i key kv ek er
    cases e
    obtain ⟨as,ws,rfl,pw,rk⟩:=pairs_at hK er more
    simp only [Rep] at one
    obtain ⟨p,us,rfl,at_p,all⟩:=one
    obtain ⟨w1,w2,rfl,r1,r2⟩:=a1j all
    cases a1d ek r1
    refine ⟨p :: as,(key,w2) :: ws,rfl,.cons ?_ pw,by simp only [a0V];exact ⟨w2,ws,rfl,r2,rk⟩⟩
    rw [← hK]
    exact at_p.sq
   ·cases e
  ·cases e
theorem b1D (calm:X.calm=true) (hK:g.K=X.K) (cell:Bool):CallR X (.type "dict") (rDc g (a9M cell)):=by
 rintro pins s σ H vs us Q I given ⟨xs,S,K,cells,reps,told,res⟩
 unfold a9M at told
 split at told
 ·obtain ⟨v,rfl,rep⟩:=one_of reps
  obtain ⟨ps,kvs,seen,is,k⟩:=told
  obtain ⟨p,ws,rfl,seq,all⟩:=a0r cells rep seen
  rw [hK] at seq
  obtain ⟨as,us2,rfl,pw,rk⟩:=pairs_at hK is all
  exact call_dictP calm _ _ _ _ _ _ _ I given ⟨p,as,us2,rfl,seq,pw,fun q free=>res.outK k cells (a4y rk (by simp only [a0V])) free⟩
 ·exact told.elim
theorem b1S {kvs:List (Key × D)} {ws:List (Key × V)} (h:a0V g S H kvs ws):a0i g S H (kvs.map fun kv=>keyV kv.1) (ws.map fun kv=>kV kv.1):=by
 have q:=a05 h
 clear h
 refine a5e ?_
 induction q with
 | nil=>exact .nil
 | @cons x y l m r _ ih =>
  refine .cons ?_ ih
  show Rep g S H (keyV x.1) (kV y.1)
  rw [r.1]
  cases y.1 <;> (show Rep g S H _ _;unfold keyV;simp only [Rep];rfl)
theorem b1W (calm:X.calm=true) (cell:Bool):CallR X (.type "list") (rDc g (b0g cell)):=by
 rintro pins s σ H vs us Q I given ⟨xs,S,K,cells,reps,told,res⟩
 unfold b0g at told
 split at told
 ·obtain ⟨v,rfl,rep⟩:=one_of reps
  obtain ⟨kvs,seen,k⟩:=told
  obtain ⟨p,ws,rfl,rd,all⟩:=a1H cells rep seen
  exact call_listD calm _ _ _ _ _ _ _ I given ⟨p,ws,rfl,rd,fun q free=>res.outL k cells (b1S all) free⟩
 ·exact told.elim
theorem b5Z (calm:X.calm=true) (hK:g.K=X.K):CallR X (.builtin "all") (rDc g c0z):=by
 rintro pins s σ H vs us Q I given ⟨xs,S,K,cells,reps,told,res⟩
 unfold c0z at told
 split at told
 ·obtain ⟨v,rfl,rep⟩:=one_of reps
  obtain ⟨bs,seen,k⟩:=told
  obtain ⟨p,ws,rfl,seq,all⟩:=a0r cells rep seen
  rw [hK] at seq
  cases a8A bs all
  exact cr_all calm _ _ _ _ _ _ _ I given ⟨p,bs,rfl,seq,res.bl k cells⟩
 ·exact told.elim
theorem b8y (calm:X.calm=true) (hK:g.K=X.K):CallR X (.builtin "sum") (rDc g c3p):=by
 rintro pins s σ H vs us Q I given ⟨xs,S,K,cells,reps,told,res⟩
 unfold c3p at told
 split at told
 ·obtain ⟨v,rfl,rep⟩:=one_of reps
  obtain ⟨bs,seen,k⟩:=told
  obtain ⟨p,ws,rfl,seq,all⟩:=a0r cells rep seen
  rw [hK] at seq
  cases a4H bs all
  exact cr_sum calm _ _ _ _ _ _ _ I given ⟨p,bs,rfl,seq,res.int k cells⟩
 ·exact told.elim
theorem str_ok:CallR X (.type "str") (rDc g c3o):=by
 rintro pins s σ H vs us Q I given ⟨xs,S,K,cells,reps,told,res⟩
 unfold c3o at told
 split at told
 ·obtain ⟨v,rfl,rep⟩:=one_of reps
  cases a0k rep
  exact call_str_int _ _ _ _ _ _ _ I given ⟨_,rfl,told.1,res.str told.2 cells⟩
 ·obtain ⟨v,rfl,rep⟩:=one_of reps
  cases a0B rep
  obtain ⟨u,rfl,t,rfl⟩:=vals1 given
  exact PySem.P.str_of_str ⟨.str _,H,I,⟨t,rfl⟩,res.str told cells⟩
 ·exact told.elim
theorem b2A {x:D} {v:V} {K:zbj} (cells:CellsOk g S H) (rep:Rep g S H x v) (h:a8d x S):tyV K "dict" v H:=by
 rcases h with ⟨kvs,rfl⟩ | ⟨p,kvs,rfl,at_p⟩
 ·simp only [Rep] at rep
  obtain ⟨p,ws,rfl,_,here,_⟩:=rep
  exact .inr (.inr (.inl ⟨rfl,.inl ⟨ws,here⟩⟩))
 ·cases a0z rep
  obtain ⟨ws,here,_⟩:=cells p _ at_p
  exact .inr (.inr (.inl ⟨rfl,.inl ⟨ws,here⟩⟩))
theorem b3O (hu:X.A.units + 1 < cLine):MtR X "dict.get" (rDm g b3N):=by
 rintro pins s σ H v vs u us Q I rv given ⟨x,xs,S,K,cells,rep,reps,told,res⟩
 unfold b3N at told
 split at told
 ·obtain ⟨w,rfl,rep2⟩:=one_of reps
  obtain ⟨kvs,key,seen,is,k⟩:=told
  obtain ⟨p,ws,rfl,rd,all⟩:=a1H cells rep seen
  cases a1d is rep2
  cases (show u=Value.ref p from rv)
  obtain ⟨uk,rfl,rk⟩:=Vals.one given
  refine d_get1 hu I (.inl ⟨ws,key,rd,rfl,rfl⟩) rk fun w' s' I' rw'=>?_
  rcases a1P all key with ⟨z1,z2⟩ | ⟨d2,w2,z1,z2,like⟩
  ·rw [z2] at rw'
   rw [z1] at k
   exact ⟨_,H,I',rw',res.non k cells⟩
  ·rw [z2] at rw'
   rw [z1] at k
   exact ⟨_,H,I',rw',res.val k cells like⟩
 ·obtain ⟨w,w2,rfl,rep2,rep3⟩:=a1j reps
  obtain ⟨kvs,key,seen,is,k⟩:=told
  obtain ⟨p,ws,rfl,rd,all⟩:=a1H cells rep seen
  cases a1d is rep2
  cases (show u=Value.ref p from rv)
  obtain ⟨uk,ud,rfl,rk,rd2⟩:=Vals.two given
  refine d_get2 hu I (.inl ⟨ws,key,rd,rfl,rfl⟩) rk rd2 fun w' s' I' rw'=>?_
  rcases a1P all key with ⟨z1,z2⟩ | ⟨d2,w3,z1,z2,like⟩
  ·rw [z2] at rw'
   rw [z1] at k
   exact ⟨_,H,I',rw',res.val k cells rep3⟩
  ·rw [z2] at rw'
   rw [z1] at k
   exact ⟨_,H,I',rw',res.val k cells like⟩
 ·exact told.elim
theorem b3V:MtR X "dict.setdefault" (rDm g b3T):=by
 rintro pins s σ H v vs u us Q I rv given ⟨x,xs,S,K,cells,rep,reps,told,res⟩
 unfold b3T at told
 split at told
 ·rename_i p k0 z0
  obtain ⟨w,w2,rfl,rep2,rep3⟩:=a1j reps
  cases a0z rep
  cases (show u=Value.ref p from rv)
  obtain ⟨kvs,key,at_p,is,few,k1,k2⟩:=told
  obtain ⟨ws,here,all⟩:=cells p _ at_p
  cases a1d is rep2
  obtain ⟨uk,ud,rfl,rk,rd2⟩:=Vals.two given
  refine d_setd I here rk rd2 (by rw [← (a05 all).length];exact few) (fun v hv w' s' I' rw'=>?_) (fun hn w' s' I' rw'=>?_)
  ·rcases a1P all key with ⟨z1,z2⟩ | ⟨d2,w3,z1,z2,like⟩
   ·rw [hv] at z2;cases z2
   ·rw [hv] at z2
    cases z2
    exact ⟨_,H,I',rw',res.val (k1 _ z1) cells like⟩
  ·rcases a1P all key with ⟨z1,z2⟩ | ⟨d2,w3,z1,z2,like⟩
   ·have P:=a0h.write (H:=H) (o:=.dK (putK ws key w2)) (c:=.dic (putD kvs key z0)) at_p
    exact ⟨_,_,I',rw',res _ _ _ _ (k2 z1) P (cells.write at_p ⟨_,upd_same,(a7I all key rep3).mono P⟩) (rep3.mono P)⟩
   ·rw [hn] at z2;cases z2
 ·exact told.elim
theorem b1E:MtR X "dict.pop" (rDm g a9N):=by
 rintro pins s σ H v vs u us Q I rv given ⟨x,xs,S,K,cells,rep,reps,told,res⟩
 unfold a9N at told
 split at told
 ·rename_i p k0 z0
  obtain ⟨w,w2,rfl,rep2,rep3⟩:=a1j reps
  cases a0z rep
  cases (show u=Value.ref p from rv)
  obtain ⟨kvs,key,at_p,is,k1,k2⟩:=told
  obtain ⟨ws,here,all⟩:=cells p _ at_p
  cases a1d is rep2
  obtain ⟨uk,ud,rfl,rk,rd2⟩:=Vals.two given
  rcases a1P all key with ⟨z1,z2⟩ | ⟨d2,w3,z1,z2,like⟩
  ·exact d_popD I here rk z2 fun s' I'=>⟨_,H,I',rd2,res.val (k2 z1) cells rep3⟩
  ·have P:=a0h.write (H:=H) (o:=.dK (dropK ws key)) (c:=.dic (a5L kvs key)) at_p
   exact d_pop I here rk z2 (.inr ⟨_,rfl⟩) fun w' s' I' rw'=>⟨w3,_,I',rw',res _ _ _ _ (k1 _ z1) P (cells.write at_p ⟨_,upd_same,(a77 key all).mono P⟩) (like.mono P)⟩
 ·exact told.elim
theorem b67 (hK:g.K=X.K):MtR X "list.index" (rDm g c1r):=by
 rintro pins s σ H v vs u us Q I rv given ⟨x,xs,S,K,cells,rep,reps,told,res⟩
 unfold c1r at told
 split at told
 ·rename_i d
  obtain ⟨w,rfl,rep2⟩:=one_of reps
  obtain ⟨ds,j,z,seen,fd,fds,at_j,same,other,k⟩:=told
  obtain ⟨p,ws,rfl,seq,all⟩:=a0r cells rep seen
  rw [hK] at seq
  obtain ⟨wz,at_w,rz⟩:=all.get at_j
  have fz:a2d z=true:=List.all_eq_true.mp fds z (zaq at_j)
  refine mt_index _ _ _ _ _ _ _ _ _ I rv given ⟨p,ws,w,j,wz,rfl,rfl,seq,a3g fd rep2,a2g fds all,at_w,(a4q fz fd rz rep2).trans same,fun m z' hm hz'=>?_,res.int k cells⟩
  have hlt:m < ds.length:=by rw [all.length];exact (List.getElem?_eq_some_iff.mp hz').1
  have at_m:ds[m]?=some ds[m]:=zbi hlt
  obtain ⟨w',at_w',r'⟩:=all.get at_m
  rw [hz'] at at_w'
  cases at_w'
  have fm:a2d ds[m]=true:=List.all_eq_true.mp fds _ (List.getElem_mem hlt)
  exact (a4q fm fd r' rep2).trans (other m _ hm at_m)
 ·exact told.elim
def c6x:V→List V→Hp→VK→Prop:=fun x xs H Q=>∃ (a:Addr) (ys:List V) (y:V) (j:Nat) (z:V),x=V.ref a∧xs=[y]∧H a=some (.lst ys)∧flatV y=true∧ys.all flatV=true∧ys[j]?=some z∧eqV z y=true ∧
 (∀ (m:Nat) (z':V),m < j→ys[m]?=some z'→eqV z' y=false)∧Q .non (upd H a (.lst (ys.eraseIdx j)))
theorem b7m:MtR X "list.remove" c6x:=by
 intro pins s σ H x xs v us Q I rx rxs h
 obtain ⟨a,ys,y,j,z,rfl,rfl,hH,fy,fys,hz,hzj,hno,q⟩:=h
 cases rx
 cases rxs with
 | cons ry rt =>
  rename_i uy ut
  cases rt
  obtain ⟨sz,its,n,rv,hl,e⟩:=I.lstM hH
  obtain ⟨u,hu,ru⟩:=rv.get hz
  obtain ⟨hjl,hje⟩:=List.getElem?_eq_some_iff.mp hu
  have hvl:=rv.length
  have hj:j < its.toArray.size:=by simpa using hjl
  refine call_meets PySem.F.slot_list_remove ⟨_,e,rfl⟩ PySem.F.entry_list_remove (PySem.F.args_list_remove_2 _ _)
   (SeqAt.list_removeAt a its.toArray n none #[] uy (eqU y) j hj ?_ ?_ (by rw [List.size_toArray];omega)) ⟨e,fun u' hu'=>mem_eqAt ry fy rv fys u' (by simpa using hu'),?_⟩
  ·have e1:its.toArray[j]=u:=by simpa using hje
   rw [e1,eqU_of ru (flat_at fys hz)]
   exact hzj
  ·intro m hm hmj
   have hml:m < its.length:=by simpa using hm
   have hmy:m < ys.length:=by omega
   have hy':ys[m]?=some ys[m]:=zbi hmy
   obtain ⟨u2,hu2,ru2⟩:=rv.get hy'
   obtain ⟨_,hme⟩:=List.getElem?_eq_some_iff.mp hu2
   have e1:its.toArray[m]=u2:=by simpa using hme
   rw [e1,eqU_of ru2 (flat_at fys hy')]
   exact hno m _ hmj hy'
  ·refine ⟨.non,_,I.lset (its':=its.eraseIdx j) hH e ?_ (rv.eraseIdx j) ?_,rfl,q⟩
   ·show its.toArray.eraseIdxIfInBounds j=(its.eraseIdx j).toArray
    rw [List.eraseIdxIfInBounds_toArray]
   ·have:=len_erase ys j
    omega
def c1W (x:D) (xs:List D) (S:SS) (K:DK):Prop:=match x,xs with
 | .obj p,[d]=>∃ ds j z,S p=some (.lst ds)∧a2d d=true∧ds.all a2d=true∧ds[j]?=some z∧D.eqv z d=true∧(∀ m z',m < j→ds[m]?=some z'→D.eqv z' d=false)∧K .non (S.set p (.lst (ds.eraseIdx j)))
 | _,_=>False
theorem b7L:MtR X "list.remove" (rDm g c1W):=by
 rintro pins s σ H v vs u us Q I rv given ⟨x,xs,S,K,cells,rep,reps,told,res⟩
 unfold c1W at told
 split at told
 ·rename_i p d
  obtain ⟨w,rfl,rep2⟩:=one_of reps
  cases a0z rep
  obtain ⟨ds,j,z,at_p,fd,fds,at_j,same,other,k⟩:=told
  obtain ⟨ws,here,all⟩:=cells p _ at_p
  obtain ⟨wz,at_w,rz⟩:=all.get at_j
  have fz:a2d z=true:=List.all_eq_true.mp fds z (zaq at_j)
  have P:=a0h.write (H:=H) (o:=.lst (ws.eraseIdx j)) (c:=.lst (ds.eraseIdx j)) at_p
  have er:a0i g S H (ds.eraseIdx j) (ws.eraseIdx j):=by
   rw [List.eraseIdx_eq_take_drop_succ,List.eraseIdx_eq_take_drop_succ]
   exact (all.take j).append (all.drop (j + 1))
  refine b7m _ _ _ _ _ _ _ _ _ I rv given ⟨p,ws,w,j,wz,rfl,rfl,here,a3g fd rep2,a2g fds all,at_w,(a4q fz fd rz rep2).trans same,fun m z' hm hz'=>?_,res _ _ _ _ k P (cells.write at_p ⟨_,upd_same,er.mono P⟩) (by simp only [Rep])⟩
  have hlt:m < ds.length:=by rw [all.length];exact (List.getElem?_eq_some_iff.mp hz').1
  have at_m:ds[m]?=some ds[m]:=zbi hlt
  obtain ⟨w',at_w',r'⟩:=all.get at_m
  rw [hz'] at at_w'
  cases at_w'
  have fm:a2d ds[m]=true:=List.all_eq_true.mp fds _ (List.getElem_mem hlt)
  exact (a4q fm fd r' rep2).trans (other m _ hm at_m)
 ·exact told.elim
end
end Sv
namespace Sv
open PySem PySem.Spec PyProof.Rows L2 PySem.Froz
def b1a (P:Program) (w:World) (h:Heap) (a:Addr) (l:List Str):Prop :=
 ∃ D:SD,h.get? a=some (sObj "set" D)∧TxOk P w D l∧Ris D.2.2.place.toList∧(w.params.followText "set-order" = true∨D.2.2.led=true)
theorem b1a.keep {P:Program} {w:World} {h h':Heap} {a:Addr} {l:List Str} (t:b1a P w h a l) (k:∀ o,h.get? a=some o→h'.get? a=some o):b1a P w h' a l:=by
 obtain ⟨D,at_a,r⟩:=t
 exact ⟨D,k _ at_a,r⟩
theorem a9w {h:Int} {v:Value} {D:SD} (r:Ris D.2.2.place.toList):Ris (addTx h v D).2.2.place.toList∧(addTx h v D).2.2.led=D.2.2.led:=by
 have r1:=layNew_ris D.2.2 D.1 h v r
 have l1:=layNew_led D.2.2 D.1 h v
 have key:∀ t2:SetTable,Ris t2.place.toList→t2.led=D.2.2.led→Ris (tailTx D.2.1 (layNew D.2.2 D.1 h v).1 t2 (layNew D.2.2 D.1 h v).2.2.1).2.2.place.toList∧(tailTx D.2.1 (layNew D.2.2 D.1 h v).1 t2 (layNew D.2.2 D.1 h v).2.2.1).2.2.led=D.2.2.led:=fun t2 a b=>by
  unfold tailTx
  split
  ·exact ⟨relayAll_ris _ _ _,(relayAll_led _ _ _).trans b⟩
  ·exact ⟨a,b⟩
 unfold addTx
 split
 ·exact key _ r1 l1
 ·exact key _ r1 l1
def a1S (l:List Str) (k:Str):List Str:=if k∈l then l else k :: l
section
variable {P:Program} {w:World} {A:Around} {E:Value→Shared→Prop} {s:Shared}
theorem c1N {a:Addr} {D:SD} {l:List Str} {k:Str} {u:Tok} {Q:Bool→Shared→Prop} (ho:s.heap.get? a=some (sObj "set" D)) (F:TxOk P w D l) (hk:k∈l) (hb:l.length < scanBound) (h:Q false s) :
  wpAny (model P w) A (setAddHashed a (.str k u) (hashStr w k)) Q E s:=by
 obtain ⟨es,ep,t⟩:=D
 have few:es.size < scanBound:=by rw [show es.size=l.length from F.sz];exact hb
 obtain ⟨e,me,se⟩:=(F.mem k).mp hk
 unfold setAddHashed setAddHashedIn
 refine wpAny_holding (wpAny_bind (wpAny_setState_of ho rfl F.fit ?_))
 dsimp only
 rw [byScan_of rfl few F.el]
 simp only [↓reduceIte]
 unfold setAddByScan
 refine wpAny_bind ?_
 refine wpAny_bind (wpAny_rule ?_)
 refine wpAny_bind (wpAny_setScan_of (knd:=strKind P w) (is_str k u) ho rfl F.fit F.el ?_)
 cases hf:List.findIdx? (fun e=>(strKind P w).is k e.2) es.toList with
 | none=>exact absurd se (by have:=List.findIdx?_eq_none_iff.mp hf e me;simpa using this)
 | some j =>
  dsimp only
  exact wpAny_pure (wpAny_pure h)
theorem c1V {a:Addr} {l:List Str} {k:Str} {u:Tok} {Q:Bool→Shared→Prop} (t:b1a P w s.heap a l) (few:l.length + 1 < scanBound)
  (h:∀ b h',b1a P w h' a (a1S l k)→(∀ b o,b≠a→s.heap.get? b=some o→h'.get? b=some o)→Q b { s with heap:=h',toks:=s.toks + 1 }):wpAny (model P w) A (setAdd a (.str k u)) Q E s:=by
 obtain ⟨D,at_a,F,r,led⟩:=t
 unfold setAdd
 refine wpAny_holding (wpAny_bind ((strKind P w).pyHash (k:=k) (is_str k u) ?_))
 unfold a1S at h
 by_cases hk:k∈l
 ·rw [if_pos hk] at h
  exact c1N (s:={ s with toks:=s.toks + 1 }) at_a F hk (by omega) (h _ _ ⟨D,at_a,F,r,led⟩ fun _ _ _ e=>e)
 ·rw [if_neg hk] at h
  obtain ⟨r2,l2⟩:=a9w (h:=hashStr w k) (v:=.str k u) r
  refine add_x (s:={ s with toks:=s.toks + 1 }) at_a F hk few (h _ _ ⟨_,get_upd _ at_a rfl,add_ok u F,r2,led.imp id fun q=>l2.trans q⟩ fun b o hb e=>Heap.get?_update_of_ne _ (Ne.symm hb) e)
theorem b6O {a I:Addr} {fp wr:List Addr} {n:Nat} {Pv:Nat→Value→Prop} {St:Nat→Heap→Prop} {R:Result→Shared→Prop} (W:Walks P w A.in1 I fp wr n Pv St) (off:a∉fp) {zs:List Str} (len:zs.length=n) (few:n + 1 < scanBound)
  (val:∀ i v,Pv i v→∃ z u,zs[i]?=some z∧v=.str z u):∀ (rest:List Str) (i:Nat) (l:List Str) (s:Shared),zs.drop i=rest→i≤n→l.length≤i→St i s.heap→b1a P w s.heap a l →
   (∀ h' tk,b1a P w h' a (rest.foldl a1S l)→(∀ b o,b∉a :: wr→s.heap.get? b=some o→h'.get? b=some o)→R (.ok (.ret .none)) { s with heap:=h',toks:=tk }) →
   codeAny (model P w) A (.builtin "set.update.loop" ⟨[.ref a,.ref I],[]⟩) R s:=by
 have off2:a∉wr:=fun h=>off (W.sub _ h)
 intro rest
 induction rest with
 | nil =>
  intro i l s hd hi hl st t h
  have e:i=n:=by
   have:=congrArg List.length hd
   rw [List.length_drop,List.length_nil] at this
   omega
  subst e
  refine codeAny_builtin PyProof.Rows.F.entry_set_update_loop ?_
  rw [Around.under_plainId PyProof.Rows.F.plain_set_update_loop _]
  show wpAny _ A.in1 (pyNext (.ref I) >>= _) _ _ s
  refine wpAny_bind (W.done s _ _ st fun h' tk k=>?_)
  exact wpAny_pure (h h' tk (t.keep fun o e=>k _ o off2 e) fun b o hb e=>k b o (fun z=>hb (zao _ z)) e)
 | cons z rest ih =>
  intro i l s hd hi hl st t h
  have at_i:zs[i]?=some z:=by
   have:=congrArg (fun q:List Str=>q[0]?) hd
   rw [List.getElem?_drop] at this
   exact this
  have lt:i < n:=by rw [← len];exact (List.getElem?_eq_some_iff.mp at_i).1
  have hd2:zs.drop (i + 1)=rest:=by
   have:=congrArg (List.drop 1) hd
   rw [List.drop_drop] at this
   exact this
  refine codeAny_builtin PyProof.Rows.F.entry_set_update_loop ?_
  rw [Around.under_plainId PyProof.Rows.F.plain_set_update_loop _]
  show wpAny _ A.in1 (pyNext (.ref I) >>= _) _ _ s
  refine wpAny_bind (W.item i s _ _ lt st fun v h1 tk hv st1 k1=>?_)
  obtain ⟨z',u,ez,rfl⟩:=val i v hv
  rw [at_i] at ez
  cases ez
  show wpAny _ A.in1 (holding [Value.str z u] (setAdd a (.str z u)) >>= _) _ _ _
  refine wpAny_bind (wpAny_holding ?_)
  refine c1V (s:={ s with heap:=h1,toks:=tk }) (t.keep fun o e=>k1 _ o off2 e) (by omega) fun b h2 t2 k2=>?_
  refine wpAny_pure ⟨plainId_quiet PyProof.Rows.F.plain_set_update_loop _,ih (i + 1) (a1S l z) _ hd2 lt (by unfold a1S;split;omega;show l.length + 1≤_;omega) (W.frame _ h1 h2 st1 fun b hb o e=>k2 b o (fun q=>off (q ▸ hb)) e) t2 fun h3 tk3 t3 k3=>?_⟩
  refine h h3 tk3 t3 fun b o hb e=>k3 b o hb ?_
  refine k2 b o (fun q=>hb (q ▸ zal)) ?_
  exact k1 b o (fun q=>hb (zao _ q)) e
theorem a6e:∀ {us:List Value} {zs:List Str},StrsAre us zs→∀ {i:Nat} {v:Value},us[i]?=some v→∃ z u,zs[i]?=some z∧v=.str z u
 | _,_,.nil,i,v,h=>by simp at h
 | _,_,.cons z t r,0,v,h=>⟨z,t,rfl,(Option.some.inj h).symm⟩
 | _,_,.cons z t r,i + 1,v,h=>a6e r (i:=i) h
theorem a8m {l:Addr} {us:List Value} {Fin:Heap→Prop} {Q:Value→Shared→Prop} (hh:A.handled=none) (at_l:s.heap.IsList l us.toArray)
  (fills:∀ (A':Around) (R:Result→Shared→Prop),A'.handled=none→(∀ h' tk,Fin h'→(∀ b o,s.heap.get? b=some o→h'.get? b=some o)→R (.ok (.ret .none)) { s with heap:=h',toks:=tk }) →
   codeAny (model P w) A' (.builtin "set.update.loop" ⟨[.ref s.heap.objs.size,.ref (s.heap.push { cls:=.type "set",dict:=none,data:=.set #[] 0 (.fresh 0 0 (!w.params.followText "set-order")) }).objs.size],[]⟩) R { s with heap:=(s.heap.push { cls:=.type "set",dict:=none,data:=.set #[] 0 (.fresh 0 0 (!w.params.followText "set-order")) }).push { cls:=.type "list_iterator",data:=.fields #[.ref l,.int 0 0] } })
  (h:∀ h' tk,Fin h'→(∀ b o,s.heap.get? b=some o→h'.get? b=some o)→Q (.ref s.heap.objs.size) { s with heap:=h',toks:=tk }) :
  wpAny (model P w) A (call (.type "set") [.ref l]) Q E s:=by
 obtain ⟨mro,tail,of_mro⟩:=F.called_set.mro
 have made:=F.called_set.made
 have sub:=F.called_set.sub
 have proper:=F.called_set.notType
 have can:=F.called_set.canCreate
 have told:=F.typeCall_set_1 (.ref l)
 let o0:Obj:={ cls:=.type "set",dict:=none,data:=.set #[] 0 (.fresh 0 0 (!w.params.followText "set-order")) }
 have init:∀ (A':Around) (R:Result→Shared→Prop),A'.handled=none→(∀ h' tk,Fin h'→(∀ b o,s.heap.get? b=some o→h'.get? b=some o)→R (.ok (.ret .none)) { s with heap:=h',toks:=tk }) →
   codeAny (model P w) A' (.call (.builtin "set.__init__") ⟨[.ref s.heap.objs.size,.ref l],[]⟩) R { s with heap:=s.heap.push o0 }:=fun A' R hA' k=>by
  have ty:Shared.TypeIs { s with heap:=s.heap.push o0 } (.ref s.heap.objs.size) "set" := ⟨_,Heap.get?_push_size _ rfl,rfl⟩
  obtain ⟨ol,hol,cls,n,dat⟩:=id at_l
  obtain ⟨c0,d0,p0,x0⟩:=ol
  cases (show c0=_ from cls)
  cases (show p0=_ from dat)
  have here:(s.heap.push o0).get? l=some _:=Heap.get?_push_of_some o0 hol
  have noSet:=F.sub_list_set
  have noFroz:=F.sub_list_frozenset
  have noDict:(Value.type "list" == Value.type "dict")=false:=by decide
  refine codeAny_call_builtin F.called_set.init.plain F.entry_set_init (check_set_init_1 ty ?_)
  unfold Builtin.«set.__init__» noKeywords Builtin.Frozenset.updateFrom
  generalize eI:pyIter=PI
  wp_walk
  subst eI
  refine wpAny_pyIter_list (at_l.push _) ?_
  refine wpAny_bind (wpAny_runValue (fills _ _ (by simp [hA']) fun h' tk t k2=>?_))
  exact wpAny_pure (wpAny_pure (k h' tk t k2))
 refine wpAny_call (codeAny_of_tree ?_)
 show wpAny _ _ (callAny (.type "set") _) _ _ _
 refine wpAny_pure ⟨Code.quiet_builtin _ (by decide +kernel),codeAny_builtin F.entry_type_call ?_⟩
 rw [Around.under_plain (weight_type_call_type "set" [.ref l] []) rfl]
 repeat (any_goals (first | assumption | wp_step))
 refine codeAny_mono (code_set_led1 (.ref l) (E:=E) (Q₁:=fun v s1=>v=.ref s.heap.objs.size∧s1={ s with heap:=s.heap.push o0 }) ⟨rfl,rfl⟩) fun r s1 hr=>?_
 match r,hr with
 | .error _,hr=>exact hr
 | .ok (.ret _),⟨e1,e2⟩ =>
  subst e1 e2
  have here:(s.heap.push o0).get? s.heap.objs.size=some o0:=Heap.get?_push_size _ rfl
  have ty:Shared.TypeIs { s with heap:=s.heap.push o0 } (.ref s.heap.objs.size) "set" := ⟨_,here,rfl⟩
  have look:=F.called_set.init.lookup
  have bound:=F.called_set.init.bind (.ref s.heap.objs.size)
  repeat (any_goals (first | assumption | wp_step))
  refine codeAny_mono (init _ (fun r s2=>r=.ok (.ret .none)∧∃ h' tk,s2={ s with heap:=h',toks:=tk }∧Fin h'∧∀ b o,s.heap.get? b=some o→h'.get? b=some o) (by simp [hh]) fun h' tk t k=>⟨rfl,h',tk,rfl,t,k⟩) fun r2 s2 hr2=>?_
  obtain ⟨rfl,h',tk,rfl,t,k⟩:=hr2
  repeat (any_goals (first | assumption | wp_step))
  exact h h' tk t k
 | .ok .next,hr=>exact hr.elim
 | .ok .brk,hr=>exact hr.elim
 | .ok .cont,hr=>exact hr.elim
theorem b2V {l:Addr} {us:List Value} {zs:List Str} {Q:Value→Shared→Prop} (hh:A.handled=none) (at_l:s.heap.IsList l us.toArray) (all:StrsAre us zs) (few:zs.length + 1 < scanBound)
  (h:∀ h' tk,b1a P w h' s.heap.objs.size (zs.foldl a1S [])→(∀ b o,s.heap.get? b=some o→h'.get? b=some o)→Q (.ref s.heap.objs.size) { s with heap:=h',toks:=tk }) :
  wpAny (model P w) A (call (.type "set") [.ref l]) Q E s:=by
 have len:us.length=zs.length:=all.length
 refine a8m hh at_l (fun A' R hA' k=>?_) h
 let o0:Obj:={ cls:=.type "set",dict:=none,data:=.set #[] 0 (.fresh 0 0 (!w.params.followText "set-order")) }
 obtain ⟨ol,hol,_⟩:=id at_l
 have lt:=Heap.lt_size hol
 have sz:(s.heap.push o0).objs.size=s.heap.objs.size + 1:=size_push' _ _
 have ne:l≠(s.heap.push o0).objs.size:=by rw [sz];exact Nat.ne_of_lt (Nat.lt_succ_of_lt lt)
 have off:s.heap.objs.size∉[(s.heap.push o0).objs.size,l]:=fun hm=>by
  rw [sz] at hm
  rcases zau.mp hm with q | q
  ·exact Nat.ne_of_lt (Nat.lt_succ_self _) q
  ·exact Nat.ne_of_gt lt (zaj.mp q)
 have here:((s.heap.push o0).push { cls:=.type "list_iterator",data:=.fields #[.ref l,.int 0 0] }).get? s.heap.objs.size=some o0:=Heap.get?_push_of_some _ (Heap.get?_push_size _ rfl)
 refine b6O (Walks.list (by exact hA') _ l ne us.toArray) off (zs:=zs) (by rw [List.size_toArray,len]) (by rw [List.size_toArray,len];exact few) (fun i v hv=>a6e all (by rw [← List.getElem?_toArray];exact hv)) zs 0 [] _ rfl (Nat.zero_le _) (Nat.zero_le _)
  ⟨⟨_,Heap.get?_push_size _ rfl,rfl,rfl⟩,(at_l.push _).push _⟩ ⟨(#[],0,.fresh 0 0 (!w.params.followText "set-order")),here,.nil rfl,List.Pairwise.nil,?_⟩ fun h' tk t k2=>k h' tk t fun b o e=>?_
 ·cases q:w.params.followText "set-order"
  ·exact .inr rfl
  ·exact .inl rfl
 ·have hb:=Heap.lt_size e
  refine k2 b o (fun hm=>?_) (Heap.get?_push_of_some _ (Heap.get?_push_of_some _ e))
  rw [sz] at hm
  rcases zau.mp hm with q | q
  ·exact Nat.ne_of_lt hb q
  ·exact Nat.ne_of_lt (Nat.lt_succ_of_lt hb) (zaj.mp q)
end
def uniq (zs:List Str):List Str:=zs.foldl a1S []
theorem a9v {l:List Str} {k:Str} (u:l.Nodup):(a1S l k).Nodup:=by
 unfold a1S
 split
 ·exact u
 ·rename_i h
  exact zbd.mpr ⟨h,u⟩
theorem a9W:∀ {zs l:List Str},l.Nodup→(zs.foldl a1S l).Nodup
 | [],_,u=>u
 | _ :: zs,_,u=>a9W (zs:=zs) (a9v u)
theorem b5v {zs:List Str}:(uniq zs).Nodup:=a9W List.nodup_nil
theorem a79:∀ {zs l:List Str},(zs.foldl a1S l).length≤l.length + zs.length
 | [],_=>Nat.le_refl _
 | y :: zs,l=>by
  refine Nat.le_trans (a79 (zs:=zs)) ?_
  rw [zaz]
  unfold a1S
  split
  ·omega
  ·rw [zaz];omega
theorem a8F {zs:List Str}:(uniq zs).length≤zs.length:=by
 have:=a79 (zs:=zs) (l:=[])
 rw [List.length_nil,Nat.zero_add] at this
 exact this
theorem perm_of:∀ {l m:List Str},l.Nodup→(∀ z∈l,z∈m)→m.length≤l.length→m.Perm l
 | [],m,_,_,few=>by
  cases m with
  | nil=>exact .nil
  | cons _ _=>exact absurd few (by simp)
 | z :: l,m,u,sub,few=>by
  obtain ⟨nz,u⟩:=zbd.mp u
  have mz:=sub z zal
  refine (List.perm_cons_erase mz).trans (.cons z (perm_of u (fun y hy=>(List.mem_erase_of_ne fun e=>nz (by rw [← e];exact hy)).mpr (sub y (zao _ hy))) ?_))
  rw [List.length_erase_of_mem mz]
  rw [zaz] at few
  omega
section
variable {X:Cx} {pins:List (Addr × Obj)} {σ:L2.St} {H:Hp} {s:Shared} {a:Addr} {l:List Str}
theorem b2w {P:Program} {w:World} {es:List (Int × Value)} (el:ElemsOf (PySem.strKind P w) es):∃ zs,StrsAre (es.map (·.2)) zs:=by
 induction es with
 | nil=>exact ⟨[],.nil⟩
 | cons e es ih =>
  obtain ⟨zs,h⟩:=ih fun e he=>el e (zao _ he)
  obtain ⟨⟨k,is,_⟩,_⟩:=el e zal
  obtain ⟨t,et⟩:=Value.isStrOf_shape (x:=k) (v:=e.2) is
  refine ⟨k :: zs,?_⟩
  rw [zax,et]
  exact .cons k t h
theorem a8D:∀ {us:List Value} {zs:List Str},StrsAre us zs→∀ {z:Str},z∈zs↔∃ t,Value.str z t∈us
 | _,_,.nil,z=>⟨fun h=>absurd h zba,fun ⟨_,h⟩=>absurd h zba⟩
 | _,_,.cons y t r,z=>by
  rw [zau,a8D r]
  constructor
  ·rintro (rfl | ⟨u,h⟩)
   ·exact ⟨t,zal⟩
   ·exact ⟨u,zao _ h⟩
  ·rintro ⟨u,h⟩
   rcases zau.mp h with h | h
   ·injection h with h1 _
    exact .inl h1
   ·exact .inr ⟨u,h⟩
theorem b2u:∀ {us vs:List Value},us.Perm vs→∀ {zs:List Str},StrsAre vs zs→∃ ys,StrsAre us ys∧ys.Perm zs:=by
 intro us vs p zs h
 have all:∀ v∈us,∃ z t,v=.str z t:=fun v hv=>by
  obtain ⟨i,hi⟩:=List.mem_iff_getElem?.mp (p.mem_iff.mp hv)
  obtain ⟨z,t,_,e⟩:=a6e h hi
  exact ⟨z,t,e⟩
 let f:Value→Str:=fun v=>match v with
  | .str z _=>z
  | _=>⟨#[]⟩
 have back:∀ {us:List Value},(∀ v∈us,∃ z t,v=.str z t)→StrsAre us (us.map f):=fun {us}=>by
  induction us with
  | nil=>exact fun _=>.nil
  | cons v us ih =>
   intro h
   obtain ⟨z,t,rfl⟩:=h v zal
   exact .cons z t (ih fun v hv=>h v (zao _ hv))
 have of:∀ {us:List Value} {zs:List Str},StrsAre us zs→us.map f=zs:=fun {us zs} h=>by
  induction h with
  | nil=>rfl
  | cons z t _ ih=>rw [zax,ih]
 exact ⟨us.map f,back all,by rw [← of h];exact p.map f⟩
theorem c3k (calm:X.calm=true) (I:Inv X pins σ H s) (t:b1a X.prog X.w s.heap a l) (few:l.length < 64) (u:l.Nodup) {Q:VK} (q:∀ p,H p=none→Q (.ref p) (upd H p (.lst ((a0l l).map V.str)))) :
  wpAny (model X.prog X.w) X.A (call (.builtin "sorted") [.ref a]) (EP X pins σ Q) X.xe s:=by
 obtain ⟨⟨es,ep,tb⟩,at_a,F,r,led⟩:=t
 have sz:es.size=l.length:=F.sz
 have el:ElemsOf (PySem.strKind X.prog X.w) es.toList:=F.el
 have mem:∀ k:Str,k∈l↔∃ e∈es.toList,(PySem.strKind X.prog X.w).is k e.2=true:=F.mem
 obtain ⟨zs,hz⟩:=b2w el
 have zl:zs.length=es.toList.length:=by rw [← hz.length,zag]
 have pz:zs.Perm l:=perm_of u (fun k hk=>by
  obtain ⟨e,he,is⟩:=(mem k).mp hk
  obtain ⟨t,et⟩:=Value.isStrOf_shape (x:=k) (v:=e.2) is
  exact (a8D hz).mpr ⟨t,zan.mpr ⟨e,he,et⟩⟩) (by rw [zl,Array.length_toList,sz];exact Nat.le_refl _)
 refine Calls.call_function_entry PyProof.Rows.kind_sorted PyProof.Rows.plain_sorted PyProof.Rows.entry_sorted (PyProof.Rows.args_sorted1 _) ?_
 unfold Builtin.«sorted»
 refine wpAny_bind (m:=checkCount "sorted" 1 1 _) (wpAny_pure ?_)
 refine wpAny_bind (collect_set (A:=X.A.in1) (es:=es) (ep:=ep) (t:=tb) (I.ok.hd calm) ⟨_,at_a,rfl,rfl⟩ F.fit (by rw [sz];unfold scanBound;omega) r led fun s1 out k1 le1 g_1 o1 po=>?_)
 obtain ⟨ys,hy,py⟩:=b2u po hz
 have yl:out.length=l.length:=by rw [po.length_eq,zag,Array.length_toList,sz]
 have e1:s1={ s with heap:=s1.heap,gens:=s1.gens,drawn:=s1.drawn,toks:=s1.toks }:=by
  cases s1
  cases s
  cases o1
  rfl
 rw [e1]
 refine wpAny_bind (wpAny_newList ?_ (by rw [yl,zai];omega))
 have at_p:(s1.heap.push (seqObj "list" out.toArray 0)).get? s1.heap.objs.size=some (seqObj "list" out.toArray 0):=Heap.get?_push_size _ rfl
 show wpAny _ _ _ _ _ { s with heap:=s1.heap.push (seqObj "list" out.toArray 0),gens:=s1.gens,drawn:=s1.drawn,toks:=s1.toks }
 refine wpAny_bind (wpAny_holding (wpAny_call_entry PyProof.Rows.slot_list_sort ⟨_,at_p,rfl⟩ PyProof.Rows.entry_list_sort
  (list_sort_treeK strKind_oneLt (s:={ s with heap:=s1.heap.push (seqObj "list" out.toArray 0),gens:=s1.gens,drawn:=s1.drawn,toks:=s1.toks }) at_p hy.keysOf (fun v₁ v₂ rest e=>keyKind_strs (by rw [← e];exact hy)) (by rw [yl];exact few) fun st hp hs=>⟨_,rfl,?_⟩)
  (PyProof.Rows.args_list_sort _)))
 obtain ⟨qs,g1,g2,g3⟩:=sorted_out_str hy hp hs
 obtain ⟨e',at_q⟩:=PyProof.Rows.sortedHeap_at (vs:=out) (out:=(arrOf st).map (·.2)) at_p
 have eq:qs=a0l l:=a4M (g2.trans (py.trans pz)) g3
 subst eq
 have ql:((a0l l).map V.str).length≤sizeLine:=by rw [zag,show (a0l l).length=l.length from (List.mergeSort_perm l leS).length_eq,zai];omega
 have k3:∀ b o,s.heap.get? b=some o→(sortedHeap (s1.heap.push (seqObj "list" out.toArray 0)) s1.heap.objs.size out ((arrOf st).map (·.2))).get? b=some o:=fun b o e=>by
  have e:=k1 b o e
  have lt:=Heap.lt_size e
  rw [PyProof.Rows.sortedHeap_old (Nat.ne_of_lt lt) (by rw [size_push'];exact Nat.lt_succ_of_lt lt)]
  exact Heap.get?_push_of_some _ e
 have free:H s1.heap.objs.size=none:=I.hok.fresh le1
 have J:Inv X pins σ (upd H s1.heap.objs.size (.lst ((a0l l).map V.str))) { s with heap:=sortedHeap (s1.heap.push (seqObj "list" out.toArray 0)) s1.heap.objs.size out ((arrOf st).map (·.2)),gens:=s1.gens,drawn:=s1.drawn,toks:=s1.toks } :=
  I.call (ch:=[]) (Un.laid k3 le1 free) (I.hok.laid k3 le1 ⟨ql,((arrOf st).map (·.2)).toList,e',vals_of_strs g1,by rw [Array.toArray_toList];exact at_q⟩) (by rw [g_1];exact I.bare) (fun _ z=>nomatch z)
 exact wpAny_pure ⟨_,rfl,.ref s1.heap.objs.size,_,J,rfl,q _ free⟩
theorem c1D (I:Inv X pins σ H s) (t:b1a X.prog X.w s.heap a l) (few:l.length < 64) {Q:VK} (q:Q (.int (l.length:Nat)) H) :
  wpAny (model X.prog X.w) X.A (call (.builtin "len") [.ref a]) (EP X pins σ Q) X.xe s:=by
 obtain ⟨⟨es,ep,tb⟩,at_a,F,r,led⟩:=t
 have sz:es.size=l.length:=F.sz
 refine call_len_set (o:=sObj "set" (es,ep,tb)) at_a ⟨rfl,rfl,rfl⟩ rfl F.fit (by rw [sz];omega) ⟨.int (l.length:Nat),H,I.tok _,⟨_,by rw [sz]⟩,q⟩
def c7N (K:zbj) (srt:Bool) (ta:TE):TE:=fun σ H Q=>ta σ H fun x H1=>∃ p ks,x=.ref p∧SqL K H1 p (ks.map V.str)∧(ks.length < 64∨((uniq ks).length < 64∧ks.length < 1000)) ∧
 if srt=true then ∀ q,H1 q=none→Q (.ref q) (upd H1 q (.lst ((a0l (uniq ks)).map V.str))) else Q (.int ((uniq ks).length:Nat)) H1
def b7s (srt:Bool):Str:=if srt=true then "sorted" else "len"
end
section
variable {X:Cx}
theorem b7D {srt:Bool} {a:Expr} {ta:TE} {p p2 q pos:Pos} (calm:X.calm=true) (hg:Gl X (b7s srt)) (hm:X.mg (b7s srt)=none) (hg2:Gl X "set") (hm2:X.mg "set" = none) (ha:PE X a ta)
  (na:starEach [a] X.env=(false,eval a X.env) :: starEach [] X.env):PE X (.Call (.Name (b7s srt) p) [.Call (.Name "set" p2) [a] [] q] [] pos) (c7N X.K srt ta):=by
 refine ⟨fun pins s σ H Q I h=>?_⟩
 cases srt with
 | true =>
  refine Call_ (ld_blt I hg hm PyProof.Rows.boot_sorted ?_)
  refine PyProof.Rows.callWith_builtin1 (PyProof.Rows.args_cons ?_ rfl) rfl rfl
  refine Call_ (ld_blt I hg2 hm2 boot_set ?_)
  refine PyProof.Rows.callWith_type1 (PyProof.Rows.args_cons (thn (ha.run pins s σ H _ I h) fun v s1 ⟨x,H1,I1,r1,q1⟩=>PyProof.Rows.args_nil ?_) na) na rfl
  obtain ⟨l,ks,rfl,seq,few,q1⟩:=q1
  cases r1
  obtain ⟨its,rv,hl,_⟩:=I1.list seq
  refine b2V (us:=its) (I1.ok.hd calm) hl.isList rv.strs (by unfold scanBound;rcases few with few | few <;> omega) fun h' tk t k=>PyProof.Rows.args_nil ?_
  have I2:Inv X pins σ H1 { s1 with heap:=h',toks:=tk }:=I1.kept k
  have fu:(uniq ks).length < 64:=few.elim (fun few=>Nat.lt_of_le_of_lt a8F few) (·.1)
  exact c3k calm I2 t fu b5v q1
 | false =>
  refine Call_ (ld_blt I hg hm boot_len ?_)
  refine PyProof.Rows.callWith_builtin1 (PyProof.Rows.args_cons ?_ rfl) rfl rfl
  refine Call_ (ld_blt I hg2 hm2 boot_set ?_)
  refine PyProof.Rows.callWith_type1 (PyProof.Rows.args_cons (thn (ha.run pins s σ H _ I h) fun v s1 ⟨x,H1,I1,r1,q1⟩=>PyProof.Rows.args_nil ?_) na) na rfl
  obtain ⟨l,ks,rfl,seq,few,q1⟩:=q1
  cases r1
  obtain ⟨its,rv,hl,_⟩:=I1.list seq
  refine b2V (us:=its) (I1.ok.hd calm) hl.isList rv.strs (by unfold scanBound;rcases few with few | few <;> omega) fun h' tk t k=>PyProof.Rows.args_nil ?_
  have I2:Inv X pins σ H1 { s1 with heap:=h',toks:=tk }:=I1.kept k
  have fu:(uniq ks).length < 64:=few.elim (fun few=>Nat.lt_of_le_of_lt a8F few) (·.1)
  exact c1D I2 t fu q1
end
end Sv
namespace Sv
open PySem PySem.Spec PyProof.Rows L2 PySem.Froz
section
variable {P:Program} {w:World} {A:Around} {E:Value→Shared→Prop} {s:Shared}
theorem c1U {a:Addr} {S:Int→Bool} {n:Nat} {k:Int} {u:Tok} {Q:Bool→Shared→Prop} (R:SetR w s.heap a S n) (few:n + 1 < scanBound)
  (h:∀ b h',SetR w h' a (fun j=>S j || decide (j=k)) (if S k=true then n else n + 1)→(∀ b o,b≠a→s.heap.get? b=some o→h'.get? b=some o)→Q b { s with heap:=h',toks:=s.toks + 1 }):wpAny (model P w) A (setAdd a (.int k u)) Q E s:=by
 unfold setAdd
 refine wpAny_holding (wpAny_bind ((intKind P w).pyHash (intKind_is P w k u) ?_))
 exact setR_add_hashed (s:={ s with toks:=s.toks + 1 }) R few fun h' sb r=>h _ _ r fun b o hb e=>(sb.2 b hb).trans e
theorem b6N {a I:Addr} {fp wr:List Addr} {n:Nat} {Pv:Nat→Value→Prop} {St:Nat→Heap→Prop} {R:Result→Shared→Prop} (W:Walks P w A.in1 I fp wr n Pv St) (off:a∉fp) {zs:List Int} (len:zs.length=n) (few:n + 1 < scanBound)
  (val:∀ i v,Pv i v→∃ z u,zs[i]?=some z∧v=.int z u):∀ (rest:List Int) (i:Nat) (F:Int→Bool) (m:Nat) (s:Shared),zs.drop i=rest→i≤n→m≤i→St i s.heap→SetR w s.heap a F m →
   (∀ h' tk m',m'≤n→SetR w h' a (fun j=>F j || decide (j∈rest)) m'→(∀ b o,b∉a :: wr→s.heap.get? b=some o→h'.get? b=some o)→R (.ok (.ret .none)) { s with heap:=h',toks:=tk }) →
   codeAny (model P w) A (.builtin "set.update.loop" ⟨[.ref a,.ref I],[]⟩) R s:=by
 have off2:a∉wr:=fun h=>off (W.sub _ h)
 intro rest
 induction rest with
 | nil =>
  intro i F m s hd hi hm st t h
  have e:i=n:=by
   have:=congrArg List.length hd
   rw [List.length_drop,List.length_nil] at this
   omega
  subst e
  refine codeAny_builtin PyProof.Rows.F.entry_set_update_loop ?_
  rw [Around.under_plainId PyProof.Rows.F.plain_set_update_loop _]
  show wpAny _ A.in1 (pyNext (.ref I) >>= _) _ _ s
  refine wpAny_bind (W.done s _ _ st fun h' tk k=>?_)
  exact wpAny_pure (h h' tk m hm ((t.at fun o e=>k _ o off2 e).congr fun j=>by simp) fun b o hb e=>k b o (fun z=>hb (zao _ z)) e)
 | cons z rest ih =>
  intro i F m s hd hi hm st t h
  have at_i:zs[i]?=some z:=by
   have:=congrArg (fun q:List Int=>q[0]?) hd
   rw [List.getElem?_drop] at this
   exact this
  have lt:i < n:=by rw [← len];exact (List.getElem?_eq_some_iff.mp at_i).1
  have hd2:zs.drop (i + 1)=rest:=by
   have:=congrArg (List.drop 1) hd
   rw [List.drop_drop] at this
   exact this
  refine codeAny_builtin PyProof.Rows.F.entry_set_update_loop ?_
  rw [Around.under_plainId PyProof.Rows.F.plain_set_update_loop _]
  show wpAny _ A.in1 (pyNext (.ref I) >>= _) _ _ s
  refine wpAny_bind (W.item i s _ _ lt st fun v h1 tk hv st1 k1=>?_)
  obtain ⟨z',u,ez,rfl⟩:=val i v hv
  rw [at_i] at ez
  cases ez
  show wpAny _ A.in1 (holding [Value.int z u] (setAdd a (.int z u)) >>= _) _ _ _
  refine wpAny_bind (wpAny_holding ?_)
  refine c1U (s:={ s with heap:=h1,toks:=tk }) (t.at fun o e=>k1 _ o off2 e) (by omega) fun b h2 t2 k2=>?_
  refine wpAny_pure ⟨plainId_quiet PyProof.Rows.F.plain_set_update_loop _,ih (i + 1) _ _ _ hd2 lt (by split <;> omega) (W.frame _ h1 h2 st1 fun b hb o e=>k2 b o (fun q=>off (q ▸ hb)) e) t2 fun h3 tk3 m3 hm3 t3 k3=>?_⟩
  refine h h3 tk3 m3 hm3 (t3.congr fun j=>?_) fun b o hb e=>k3 b o hb ?_
  ·show (F j || decide (j∈z :: rest))=((F j || decide (j=z)) || decide (j∈rest))
   rw [Bool.or_assoc]
   congr 1
   rw [Bool.eq_iff_iff]
   simp
  ·refine k2 b o (fun q=>hb (q ▸ zal)) ?_
   exact k1 b o (fun q=>hb (zao _ q)) e
theorem ints_get:∀ {us:List Value} {zs:List Int},IntsAre us zs→∀ {i:Nat} {v:Value},us[i]?=some v→∃ z u,zs[i]?=some z∧v=.int z u
 | _,_,.nil,i,v,h=>by simp at h
 | _,_,.cons z t r,0,v,h=>⟨z,t,rfl,(Option.some.inj h).symm⟩
 | _,_,.cons z t r,i + 1,v,h=>ints_get r (i:=i) h
theorem b7i {l:Addr} {us:List Value} {zs:List Int} {Q:Value→Shared→Prop} (hh:A.handled=none) (at_l:s.heap.IsList l us.toArray) (all:IntsAre us zs) (few:zs.length + 1 < scanBound)
  (h:∀ h' tk,(∃ m,m≤zs.length∧SetR w h' s.heap.objs.size (fun j=>decide (j∈zs)) m)→(∀ b o,s.heap.get? b=some o→h'.get? b=some o)→Q (.ref s.heap.objs.size) { s with heap:=h',toks:=tk }) :
  wpAny (model P w) A (call (.type "set") [.ref l]) Q E s:=by
 have len:us.length=zs.length:=all.length
 refine a8m hh at_l (fun A' R hA' k=>?_) h
 let o0:Obj:={ cls:=.type "set",dict:=none,data:=.set #[] 0 (.fresh 0 0 (!w.params.followText "set-order")) }
 obtain ⟨ol,hol,_⟩:=id at_l
 have lt:=Heap.lt_size hol
 have sz:(s.heap.push o0).objs.size=s.heap.objs.size + 1:=size_push' _ _
 have ne:l≠(s.heap.push o0).objs.size:=by rw [sz];exact Nat.ne_of_lt (Nat.lt_succ_of_lt lt)
 have off:s.heap.objs.size∉[(s.heap.push o0).objs.size,l]:=fun hm=>by
  rw [sz] at hm
  rcases zau.mp hm with q | q
  ·exact Nat.ne_of_lt (Nat.lt_succ_self _) q
  ·exact Nat.ne_of_gt lt (zaj.mp q)
 refine b6N (Walks.list (by exact hA') _ l ne us.toArray) off (zs:=zs) (by rw [List.size_toArray,len]) (by rw [List.size_toArray,len];exact few) (fun i v hv=>ints_get all (by rw [← List.getElem?_toArray];exact hv)) zs 0 (fun _=>false) 0 _ rfl (Nat.zero_le _) (Nat.zero_le _)
  ⟨⟨_,Heap.get?_push_size _ rfl,rfl,rfl⟩,(at_l.push _).push _⟩ ((setR_fresh w).at fun o e=>Heap.get?_push_of_some _ e) fun h' tk m hm t k2=>k h' tk ⟨m,by rw [List.size_toArray,len] at hm;exact hm,t.congr fun j=>by simp⟩ fun b o e=>?_
 have hb:=Heap.lt_size e
 refine k2 b o (fun hm=>?_) (Heap.get?_push_of_some _ (Heap.get?_push_of_some _ e))
 rw [sz] at hm
 rcases zau.mp hm with q | q
 ·exact Nat.ne_of_lt hb q
 ·exact Nat.ne_of_lt (Nat.lt_succ_of_lt hb) (zaj.mp q)
end
theorem a6v {g:Gd} {S:SS} {H:Hp}:∀ (zs:List Int),a0i g S H (zs.map D.int) (zs.map V.int)
 | []=>by simp only [List.map_nil,a0i]
 | z :: zs=>by
  simp only [zax,a0i]
  exact ⟨_,_,rfl,by simp only [Rep],a6v zs⟩
section
variable {X:Cx} {pins:List (Addr × Obj)} {σ:L2.St} {H:Hp} {s:Shared} {a:Addr}
theorem c3j {S:Int→Bool} {n:Nat} (calm:X.calm=true) (I:Inv X pins σ H s) (R:SetR X.w s.heap a S n) (h64:n < 64) {Q:VK} (q:∀ (ns:List Int) p,ns.Pairwise (· < ·)→(∀ k:Int,k∈ns↔S k=true)→H p=none→Q (.ref p) (upd H p (.lst (ns.map V.int)))) :
  wpAny (model X.prog X.w) X.A (call (.builtin "sorted") [.ref a]) (EP X pins σ Q) X.xe s:=by
 refine sorted_set R (I.ok.hd calm) h64 fun s' p out c ns k g o hp hg hi hs hm hl=>?_
 have hlen:(ns.map V.int).length≤sizeLine:=by rw [zag,hl,zai];omega
 have hn:H p=none:=I.hok.fresh hp
 have J:Inv X pins σ (upd H p (.lst (ns.map V.int))) { s with heap:=s'.heap,gens:=s'.gens,drawn:=s'.drawn,toks:=s'.toks } :=
  I.call (ch:=[]) (Un.laid k hp hn) (I.hok.laid k hp ⟨hlen,out.toList,c,vals_of_ints hi,hg⟩) (by rw [g];exact I.bare) (fun _ z=>nomatch z)
 have e:s'={ s with heap:=s'.heap,gens:=s'.gens,drawn:=s'.drawn,toks:=s'.toks }:=by
  cases s'
  cases s
  cases o
  rfl
 rw [e]
 exact ⟨.ref p,_,J,rfl,q ns p hs hm hn⟩
def c7M (K:zbj) (ta:TE):TE:=fun σ H Q=>ta σ H fun x H1=>∃ p,∃ ks:List Int,x=.ref p∧SqL K H1 p (ks.map V.int)∧ks.length < 64 ∧
 ∀ (ns:List Int) q,ns.Pairwise (· < ·)→(∀ k,k∈ns↔k∈ks)→H1 q=none→Q (.ref q) (upd H1 q (.lst (ns.map V.int)))
end
section
variable {X:Cx}
theorem b7C {a:Expr} {ta:TE} {p p2 q pos:Pos} (calm:X.calm=true) (hg:Gl X "sorted") (hm:X.mg "sorted" = none) (hg2:Gl X "set") (hm2:X.mg "set" = none) (ha:PE X a ta)
  (na:starEach [a] X.env=(false,eval a X.env) :: starEach [] X.env):PE X (.Call (.Name "sorted" p) [.Call (.Name "set" p2) [a] [] q] [] pos) (c7M X.K ta):=by
 refine ⟨fun pins s σ H Q I h=>?_⟩
 refine Call_ (ld_blt I hg hm PyProof.Rows.boot_sorted ?_)
 refine PyProof.Rows.callWith_builtin1 (PyProof.Rows.args_cons ?_ rfl) rfl rfl
 refine Call_ (ld_blt I hg2 hm2 boot_set ?_)
 refine PyProof.Rows.callWith_type1 (PyProof.Rows.args_cons (thn (ha.run pins s σ H _ I h) fun v s1 ⟨x,H1,I1,r1,q1⟩=>PyProof.Rows.args_nil ?_) na) na rfl
 obtain ⟨l,ks,rfl,seq,few,q1⟩:=q1
 cases r1
 obtain ⟨its,rv,hl,_⟩:=I1.list seq
 refine b7i (us:=its) (I1.ok.hd calm) hl.isList rv.ints (by unfold scanBound;omega) fun h' tk ⟨m,hm,t⟩ k=>PyProof.Rows.args_nil ?_
 have I2:Inv X pins σ H1 { s1 with heap:=h',toks:=tk }:=I1.kept k
 exact c3j calm I2 t (by omega) fun ns q hs hm free=>q1 ns q hs (fun k=>(hm k).trans decide_eq_true_iff) free
end
end Sv
namespace Sv
open PySem PySem.Spec PyProof.Rows L2
def ev2 {α:Type} (k:Nat) (xs:List α):List α:=((List.range ((xs.length + 1 - k) / 2)).map fun i=>k + 2 * i).filterMap (xs[·]?)
theorem b3X {α β:Type} (f:α→β) (k:Nat) (xs:List α):ev2 k (xs.map f)=(ev2 k xs).map f:=by
 unfold ev2
 rw [zag,List.map_filterMap]
 exact congrArg (fun f=>List.filterMap f _) (funext fun i=>zbh)
theorem b3W {α:Type} (k:Nat) (xs:List α):(ev2 k xs).length≤xs.length:=by
 unfold ev2
 refine Nat.le_trans (List.length_filterMap_le _ _) ?_
 rw [zag,List.length_range]
 omega
theorem b2e (its:Array Value):slicePick its none none (some 2)=(ev2 0 its.toList).toArray:=by
 unfold slicePick ev2
 have b:sliceBounds none none (some 2) its.size=(0,(its.size:Int),2):=rfl
 rw [b]
 have r:sliceRange 0 (its.size:Int) 2=(List.range ((its.toList.length + 1 - 0) / 2)).map fun i=>0 + 2 * i:=by
  unfold sliceRange
  rw [Array.length_toList]
  have e:(if (2:Int) > 0 then (if (0:Int) < (its.size:Int) then ((its.size:Int) - 0 + 2 - 1) / 2 else 0) else (if (0:Int) > (its.size:Int) then (0 - (its.size:Int) - 2 - 1) / (-2) else 0)).toNat=(its.size + 1 - 0) / 2:=by
   rw [if_pos (by decide)]
   split <;> omega
  dsimp only
  rw [e]
  exact List.map_congr_left fun i _=>by omega
 rw [r]
 exact congrArg List.toArray (congrArg (fun f=>List.filterMap f _) (funext fun i=>Array.getElem?_toList.symm))
theorem b0C (its:Array Value):slicePick its (some 1) none (some 2)=(ev2 1 its.toList).toArray:=by
 unfold slicePick ev2
 have b:sliceBounds (some 1) none (some 2) its.size=(max 0 (min 1 (its.size:Int)),(its.size:Int),2):=rfl
 rw [b]
 have r:sliceRange (max 0 (min 1 (its.size:Int))) (its.size:Int) 2=(List.range ((its.toList.length + 1 - 1) / 2)).map fun i=>1 + 2 * i:=by
  rw [Array.length_toList]
  by_cases h0:its.size=0
  ·rw [h0];rfl
  ·have e1:max 0 (min 1 (its.size:Int))=1:=by omega
   rw [e1]
   unfold sliceRange
   have e:(if (2:Int) > 0 then (if (1:Int) < (its.size:Int) then ((its.size:Int) - 1 + 2 - 1) / 2 else 0) else (if (1:Int) > (its.size:Int) then (1 - (its.size:Int) - 2 - 1) / (-2) else 0)).toNat=(its.size + 1 - 1) / 2:=by
    rw [if_pos (by decide)]
    split <;> omega
   dsimp only
   rw [e]
   exact List.map_congr_left fun i _=>by omega
 rw [r]
 exact congrArg List.toArray (congrArg (fun f=>List.filterMap f _) (funext fun i=>Array.getElem?_toList.symm))
theorem a7T:∀ {xs:List V} {us:List Value},Vals xs us→∀ i:Nat,(xs[i]?=none∧us[i]?=none)∨∃ x u,xs[i]?=some x∧us[i]?=some u∧RelV x u
 | _,_,.nil,i=>.inl ⟨rfl,rfl⟩
 | _,_,.cons r rs,0=>.inr ⟨_,_,rfl,rfl,r⟩
 | _,_,.cons r rs,i + 1=>a7T rs i
theorem a4V {xs:List V} {us:List Value} (r:Vals xs us):∀ is:List Nat,Vals (is.filterMap (xs[·]?)) (is.filterMap (us[·]?))
 | []=>.nil
 | i :: is=>by
  rcases a7T r i with ⟨e1,e2⟩ | ⟨x,u,e1,e2,q⟩
  ·rw [List.filterMap_cons_none e1,List.filterMap_cons_none e2];exact a4V r is
  ·rw [List.filterMap_cons_some e1,List.filterMap_cons_some e2];exact .cons q (a4V r is)
theorem b2C {xs:List V} {us:List Value} (r:Vals xs us) (k:Nat):Vals (ev2 k xs) (ev2 k us):=by
 unfold ev2
 rw [r.length]
 exact a4V r _
section
variable {X:Cx} {e:Expr} {te:TE}
def loE (k:Nat):Option Expr→Bool
 | none=>k == 0
 | some (.Constant (.int 1) _ _)=>k == 1
 | _=>false
theorem b7A {k kk:Nat} {lo:Option Expr} {p2 p3 pos:Pos} (he:PE X e te) (hlo:loE k lo=true):PE X (.Subscript e (.Slice lo none (some (.Constant (.int 2) kk p2)) p3) pos) (fun σ H Q=>te σ H fun x H1=>∃ a xs,x=.ref a∧SqL X.K H1 a xs∧∀ p,H1 p=none→Q (.ref p) (upd H1 p (.lst (ev2 k xs)))):=by
 obtain ⟨o,to,hp,hto,pick⟩:∃ (o:Option Int) (to:TO),PO X lo to∧(∀ σ H Q,Q o H→to σ H Q)∧∀ its:Array Value,slicePick its o none (some 2)=(ev2 k its.toList).toArray:=by
  unfold loE at hlo
  split at hlo
  ·rw [beq_iff_eq] at hlo;subst hlo
   exact ⟨none,_,po_none,fun _ _ _ q=>q,b2e⟩
  ·rw [beq_iff_eq] at hlo;subst hlo
   exact ⟨some 1,_,po_some pe_int,fun _ _ _ q=>⟨1,rfl,q⟩,b0C⟩
  ·cases hlo
 constructor
 intro pins s σ H Q inv asked
 apply Subscript_
 refine thn (he.run pins s σ H _ inv asked) ?_
 rintro v s1 ⟨x,H1,i1,r1,a,xs,rfl,at_a,q⟩
 cases r1
 apply wpAny_Slice
 refine thn (hp.run pins s1 σ H1 (fun z H2=>z=o∧H2=H1) i1 (hto _ _ _ ⟨rfl,rfl⟩)) ?_
 rintro vl s2 ⟨z,H2,i2,part,rfl,rfl⟩
 refine thn (po_none.run pins s2 σ H2 (fun z H3=>z=none∧H3=H2) i2 ⟨rfl,rfl⟩) ?_
 rintro vu s3 ⟨z2,H3,i3,part2,rfl,rfl⟩
 refine thn ((po_some pe_int).run pins s3 σ H3 (fun z H4=>z=some 2∧H4=H3) i3 ⟨2,rfl,rfl,rfl⟩) ?_
 rintro vs s4 ⟨z3,H4,i4,part3,rfl,rfl⟩
 have laid:=i4.kept (t':=s4.toks) (h':=s4.heap.push { cls:=.type "slice",data:=.fields #[vl,vu,vs] }) fun b ob there=>Heap.get?_push_of_some _ there
 obtain ⟨its,rel,at_its,fits⟩:=laid.list at_a
 have same:its.length=xs.length:=rel.length.symm
 refine tail_any (ops:=[.ref a,.ref s4.heap.objs.size]) at_its.isList.typeIs (PySem.slot_list_getitem.lookup) ?_ (by with_unfolding_all rfl)
 refine wpAny_getItem_list_slice at_its.isList (Heap.IsSliceOf.new _ vl vu vs) part part2 part3 (by decide) ?_ (by rw [List.size_toArray,same];exact fits)
 rw [pick]
 refine ⟨.ref _,_,laid.laid (t':=s4.toks) (o:=.lst (ev2 k xs)) (fun b ob there=>Heap.get?_push_of_some _ there) (Nat.le_refl _) ?_,rfl,q _ (laid.hok.fresh (Nat.le_refl _))⟩
 exact ⟨Nat.le_trans (b3W k xs) fits,_,0,b2C rel k,Heap.get?_push_size _ rfl⟩
end
section
variable {X:Cx} {g:Gd} {S:SS} {H:Hp}
theorem b2p {ds:List D} {vs:List V} (h:a0i g S H ds vs) (k:Nat):a0i g S H (ev2 k ds) (ev2 k vs):=a5e (a4F (fun l=>ev2 k l) (fun h l=>b3X h k l) (a3Q h))
def b0T (x:D) (xs:List D) (S:SS) (K:DK):Prop:=match x,xs with
 | .str z,[.str b]=>(b.length == 0)=false∧z.length + 2≤sizeLine∧K (.lst ((Txt.split z b).map D.str)) S
 | _,_=>False
theorem a5x:∀ (zs:List Str),a0i g S H (zs.map D.str) (zs.map V.str)
 | []=>by simp only [List.map_nil,a0i]
 | z :: zs=>by
  simp only [zax,a0i]
  exact ⟨_,_,rfl,by simp only [Rep],a5x zs⟩
theorem b2t:MtR X "str.split" (rDm g b0T):=by
 rintro pins s σ H v vs u us Q inv rv given ⟨x,xs,S,K,cells,rep,reps,told,res⟩
 unfold b0T at told
 split at told
 ·rename_i z b
  obtain ⟨w,rfl,rep2⟩:=one_of reps
  cases a0B rep
  cases a0B rep2
  obtain ⟨h1,h2,k⟩:=told
  exact mt_split _ _ _ _ _ _ _ _ _ inv rv given ⟨z,b,rfl,rfl,h1,h2,fun p free=>res.lst k cells (a5x _) free⟩
 ·exact told.elim
def b4D (xs:List D) (S:SS) (K:DK):Prop:=match xs with
 | [d]=>∃ x rest,vw S d=.lst (x :: rest)∧D.okd 60 (.lst (x :: rest))=true∧PySem.W.AlikeAll (D.pys (x :: rest))∧∀ y,y∈x :: rest→y.py=PySem.W.minD x.py (D.pys rest)→K y S
 | [x,y]=>D.okd 60 (.lst [x,y])=true∧PySem.W.AlikeAll (D.pys [x,y])∧∀ z,z∈[x,y]→z.py=PySem.W.minD x.py [y.py]→K z S
 | _=>False
section
open PySem.W
variable {prog:Program} {w:World} {A:Around} {E:Value→Shared→Prop} {s:Shared}
theorem a5K {a b:Value} {Q:Value→Shared→Prop}
  (h:wpAny (model prog w) A.in1 (pyIter (.ref s.heap.objs.size)) (fun it s₂=>∃ I fp wr G n P St H bt,it=.ref I∧WalksS prog w A.in1 I fp wr G n P St∧St 0 s₂∧(∀ b∈fp,b < s₂.heap.objs.size)∧0 < n ∧
   (∀ b o,H.get? b=some o→b∉wr)∧(∀ b o,H.get? b=some o→s₂.heap.get? b=some o)∧CmpIn prog w A.in1 .Lt H P bt∧∀ v s',P (argBest bt (n - 1)) v→Moved wr G s₂ s'→Q v s') E { s with heap:=s.heap.push { cls:=.type "tuple",data:=.seq #[a,b] } }) :
  wpAny (model prog w) A (call (.builtin "min") [a,b]) Q E s:=by
 have hname:(toString "min" ++ toString ".loop" : String) = "min.loop" := by decide
 refine call_function_tree F.kind_min F.plain_min F.entry_min (F.args_min2 _ _) ?_
 show wpAny _ A.in1 (Builtin.Builtins.bindParams "min" ["key", "default"] 0 ⟨[],[]⟩ >>= _) _ _ s
 refine wpAny_bind (wpAny_of_eq (show Builtin.Builtins.bindParams "min" ["key", "default"] 0 ⟨[],[]⟩=pure [none,none] from rfl) ?_)
 show wpAny _ A.in1 (newTuple [a,b] >>= _) _ _ s
 refine wpAny_bind (wpAny_newObj_type ?_)
 refine wpAny_bind (wpAny_mono h (fun it s₂ h₂=>?_) fun _ _ e=>e)
 obtain ⟨I,fp,wr,G,n,P,St,H,bt,rfl,W,hst,hfp,hn,hw,hkeep,hcmp,hQ⟩:=h₂
 refine wpAny_bind (wpAny_newObj_type ?_)
 have hSf:s₂.heap.objs.size∉fp:=fun hm=>Nat.lt_irrefl _ (hfp _ hm)
 rw [hname]
 refine wpAny_pure ⟨plainId_quiet F.plain_min_loop _,codeAny_min_loop_firstH W H hw bt hcmp s₂.heap.objs.size hSf (fresh_in hkeep) _ hn (fun b o e=>Heap.get?_push_of_some _ (hkeep b o e)) (W.frame 0 s₂ _ s₂.toks hst (Nat.le_refl _) fun b _ o e=>Heap.get?_push_of_some _ e) (Heap.get?_push_size _ rfl) fun v s' hP hm=>?_⟩
 exact hQ v s' hP (Moved.drop_new (tk:=s₂.toks) hm (Nat.le_refl _))
theorem a4G {h h':Heap} (k:∀ b o,h.get? b=some o→h'.get? b=some o):∀ {vs:List Value} {xs:List PyData} {as:List Addr},ReadsAll h vs xs as→ReadsAll h' vs xs as
 | _,_,_,.nil=>.nil
 | _,_,_,.cons r rs=>.cons (reads_keeps k r) (a4G k rs)
theorem a6H {a b:Value} {x y:PyData} {as:List Addr} {Q:Value→Shared→Prop} (hh:A.handled=none) (hr:ReadsAll s.heap [a,b] [x,y] as) (ha:AlikeAll [x,y]) (hu:A.units + 1 + PyData.depthAll [x,y] < cLine)
  (h:∀ (i:Nat) v h' tk bs,[a,b][i]?=some v→Reads h' v (PySem.W.minD x [y]) bs→(∀ b o,s.heap.get? b=some o→h'.get? b=some o)→Q v { s with heap:=h',toks:=tk }) :
  wpAny (model prog w) A (call (.builtin "min") [a,b]) Q E s:=by
 have hT:(s.heap.push { cls:=.type "tuple",data:=.seq #[a,b] }).IsTuple s.heap.objs.size #[a,b]:=⟨_,Heap.get?_push_size _ rfl,rfl,0,rfl⟩
 have hr2:ReadsAll (s.heap.push { cls:=.type "tuple",data:=.seq #[a,b] }) (#[a,b]:Array Value).toList [x,y] as:=a4G (fun c o e=>Heap.get?_push_of_some _ e) hr
 refine a5K (iter_tupleW (A:=A.in1) (s:={ s with heap:=s.heap.push { cls:=.type "tuple",data:=.seq #[a,b] } }) hh hT fun s₂ e W st hfp hw hk=>?_)
 refine ⟨_,_,_,_,_,_,_,s.heap.push { cls:=.type "tuple",data:=.seq #[a,b] },_,rfl,W,st,hfp,Nat.zero_lt_succ 1,hw,hk,cmpIn_lt (A:=A.in1) (s:={ s with heap:=s.heap.push { cls:=.type "tuple",data:=.seq #[a,b] } }) hr2 ha (by show A.units + 1 + _ < _;exact hu),fun v s' hP m=>?_⟩
 obtain ⟨h',tk,rfl,hk'⟩:=moved_old e rfl m
 obtain ⟨bs,r,_,_,_⟩:=readsAll_atA hr2 _ v hP
 have e2:=(argBest_fold dataLt PyData.none x [y] 1 (Nat.le_refl _)).2
 refine h _ v h' tk bs (by have:=hP;rw [← Array.getElem?_toList] at this;exact this) (reads_keeps hk' (by unfold PySem.W.minD;have e3:[y].take 1=[y]:=rfl;rw [e3] at e2;rw [← e2];exact r)) fun c o e=>hk' c o (Heap.get?_push_of_some _ e)
end
theorem a4m {ds:List D} (h:D.okd 60 (.lst ds)=true):PyData.depthAll (D.pys ds)≤59:=by
 have:=(a4z (.lst ds) 60 h).2
 simp only [D.py,PyData.depth] at this
 omega
theorem b3d:∀ {ds:List D} {i:Nat},(D.pys ds)[i]?=(ds[i]?).map D.py
 | [],_=>by simp [D.pys]
 | d :: ds,0=>by simp [D.pys]
 | d :: ds,i + 1=>by simp [D.pys,b3d (ds:=ds) (i:=i)]
theorem a9O {ds:List D} {vs:List V} (ok:D.okd 60 (.lst ds)=true) (all:a0i g S H ds vs):DpAll g.K H vs (D.pys ds):=by
 simp only [D.okd,zak] at ok
 exact a4n 59 ok.2 all
theorem b0b {ds:List D} (ok:D.okd 60 (.lst ds)=true) {d:D} (h:d∈ds):d.py.canLay0=true:=by
 simp only [D.okd,zak] at ok
 obtain ⟨_,ok⟩:=ok
 have all:∀ (es:List D),D.okds 59 es=true→∀ e∈es,D.okd 59 e=true:=by
  intro es
  induction es with
  | nil=>exact fun _ _ h=>nomatch h
  | cons x es ih =>
   intro h e he
   simp only [D.okds,zak] at h
   rcases zau.mp he with rfl | he
   ·exact h.1
   ·exact ih h.2 e he
 exact (a4z d 59 (all ds ok d h)).1
theorem b4E (calm:X.calm=true) (hK:g.K=X.K) (room:X.A.units + 65 < cLine):CallR X (.builtin "min") (rDc g b4D):=by
 rintro pins s σ H vs us Q inv given ⟨xs,S,K,cells,reps,told,res⟩
 unfold b4D at told
 split at told
 ·rename_i d
  obtain ⟨v,rfl,rep⟩:=one_of reps
  obtain ⟨x,rest,seen,okd,al,k⟩:=told
  obtain ⟨a,ws,rfl,seq,all⟩:=a0r cells rep seen
  have dp:=a9O okd all
  rw [hK] at seq dp
  obtain ⟨its,rel,at_its,fits⟩:=inv.list seq
  obtain ⟨as,reads⟩:=Dp.readsAll inv _ ws its dp rel
  have deep:=a4m okd
  rw [Vals.ref1 given]
  refine PySem.W.min_list_data (inv.ok.hd calm) at_its.isList reads al (by show _ + 1 + PyData.depthAll (D.pys (x :: rest)) < _;omega) fun i u h' tk bs at_u least keep=>?_
  have at_u:its[i]?=some u:=by rw [← at_u];simp
  obtain ⟨w,u',e1,e2,rw'⟩:=(a7T rel i).resolve_left fun h=>by rw [h.2] at at_u;cases at_u
  rw [at_u] at e2
  cases e2
  have hlt:i < (x :: rest).length:=by rw [all.length];exact (List.getElem?_eq_some_iff.mp e1).1
  have e3:(x :: rest)[i]?=some (x :: rest)[i]:=zbi hlt
  obtain ⟨w2,e4,one⟩:=all.get e3
  rw [e1] at e4
  cases e4
  have mem:=List.getElem_mem hlt
  obtain ⟨bs2,r2,_⟩:=PySem.W.readsAll_at reads i u at_u
  have e5:(D.pys (x :: rest)).getD i .none=((x :: rest)[i]).py:=by rw [List.getD_eq_getElem?_getD,b3d,e3];rfl
  rw [e5] at r2
  have same:=PySem.SeqAt.Reads.unique _ _ _ _ _ (b0b okd mem) (PyProof.Rows.Reads.keeps keep r2) least
  exact ⟨w,H,inv.kept (t':=tk) keep,rw',res.val (k _ mem same) cells one⟩
 ·rename_i x y
  obtain ⟨okd,al,k⟩:=told
  have dp:=a9O okd reps
  rw [hK] at dp
  obtain ⟨v1,v2,rfl,p3,p4⟩:=a1j reps
  obtain ⟨as,reads⟩:=Dp.readsAll inv _ _ us dp given
  obtain ⟨u1,u2,rfl,r1,r2⟩:=vals2 given
  have deep:=a4m okd
  refine a6H (inv.ok.hd calm) (x:=x.py) (y:=y.py) (as:=as) (by simpa only [D.pys] using reads) (by simpa only [D.pys] using al) (by simp only [D.pys] at deep;omega) fun i u h' tk bs at_u least keep=>?_
  have reads:ReadsAll s.heap [u1,u2] [x.py,y.py] as:=by simpa only [D.pys] using reads
  obtain ⟨bs2,rd,_⟩:=PySem.W.readsAll_at reads i u at_u
  match i,at_u with
  | 0,at_u =>
   cases at_u
   have same:=PySem.SeqAt.Reads.unique _ _ _ _ _ (b0b okd (zal)) (PyProof.Rows.Reads.keeps keep rd) least
   exact ⟨v1,H,inv.kept (t':=tk) keep,r1,res.val (k x zal same) cells p3⟩
  | 1,at_u =>
   cases at_u
   have same:=PySem.SeqAt.Reads.unique _ _ _ _ _ (b0b okd (zao _ zal)) (PyProof.Rows.Reads.keeps keep rd) least
   exact ⟨v2,H,inv.kept (t':=tk) keep,r2,res.val (k y (zao _ zal) same) cells p4⟩
  | n + 2,at_u=>simp at at_u
 ·exact told.elim
def a6c (cell:Bool) (xs:List D) (S:SS) (K:DK):Prop:=match xs with
 | [d]=>∃ ds,vw S d=.lst ds∧D.okd 60 (.lst ds)=true∧PySem.W.AllAlike (ds.map D.py)∧PySem.W.Sortable (ds.map D.py)∧outL cell (ds.mergeSort (PySem.W.dataLe false D.py)) S K
 | _=>False
theorem a4p:∀ {us:List Value} {ds:List D},PySem.W.EachIs (fun u d=>∃ v,RelV v u∧Rep g S H d v) us ds→∃ vs,Vals vs us∧a0i g S H ds vs
 | _,_,.nil=>⟨[],.nil,by simp only [a0i]⟩
 | _,_,.cons ⟨v,r,q⟩ more=>by
  obtain ⟨vs,a,b⟩:=a4p more
  exact ⟨v :: vs,.cons r a,by simp only [a0i];exact ⟨_,_,rfl,q,b⟩⟩
theorem a4U:∀ {us:List Value} {ds:List D} {vs:List V},Vals vs us→a0i g S H ds vs→PySem.W.EachIs (fun u d=>∃ v,RelV v u∧Rep g S H d v) us ds
 | _,[],_,r,all=>by
  simp only [a0i] at all
  subst all
  cases r
  exact .nil
 | _,d :: ds,_,r,all=>by
  simp only [a0i] at all
  obtain ⟨v,q,rfl,one,more⟩:=all
  cases r with
  | cons r1 r2=>exact .cons ⟨v,r1,one⟩ (a4U r2 more)
theorem a5v {h:Heap}:∀ {us:List Value} {ds:List D} {as:List Addr},ReadsAll h us (D.pys ds) as→PySem.W.EachIs (fun u (d:D)=>∃ as,Reads h u d.py as) us ds
 | _,[],_,r=>by
  simp only [D.pys] at r
  cases r
  exact .nil
 | _,d :: ds,_,r=>by
  simp only [D.pys] at r
  cases r with
  | cons r1 r2=>exact .cons ⟨_,r1⟩ (a5v r2)
theorem a9a (calm:X.calm=true) (hK:g.K=X.K) (room:X.A.units + 65 < cLine) (cell:Bool):CallR X (.builtin "sorted") (rDc g (a6c cell)):=by
 rintro pins s σ H vs us Q inv given ⟨xs,S,K,cells,reps,told,res⟩
 unfold a6c at told
 split at told
 ·rename_i d
  obtain ⟨v,rfl,rep⟩:=one_of reps
  obtain ⟨ds,seen,okd,al,so,k⟩:=told
  obtain ⟨a,ws,rfl,seq,all⟩:=a0r cells rep seen
  have dp:=a9O okd all
  rw [hK] at seq dp
  obtain ⟨its,rel,at_its,fits⟩:=inv.list seq
  obtain ⟨as,reads⟩:=Dp.readsAll inv _ ws its dp rel
  have deep:=a4m okd
  have each:∀ d∈ds,d.py.depth≤59:=by
   have gen:∀ es:List D,PyData.depthAll (D.pys es)≤59→∀ d∈es,d.py.depth≤59:=by
    intro es
    induction es with
    | nil=>exact fun _ _ h=>nomatch h
    | cons x es ih =>
     intro h d hd
     simp only [D.pys,PyData.depthAll] at h
     rcases zau.mp hd with rfl | hd
     ·omega
     ·exact ih (by omega) d hd
   exact gen ds deep
  rw [Vals.ref1 given]
  refine PySem.W.sorted_data (bs:=ds) (enc:=D.py) (R:=fun u d=>∃ v,RelV v u∧Rep g S H d v) at_its.isList (a4U rel all) (a5v reads) al so (by rw [all.length];exact fits) (fun b hb=>by have:=each b hb;omega) fun out len is=>?_
  obtain ⟨vs2,r1,r2⟩:=a4p is
  obtain ⟨ep,here⟩:=PyProof.Rows.sortedAll_at s.heap its out.toArray
  have few:vs2.length≤sizeLine:=by rw [r1.length,len,all.length];exact fits
  refine ⟨.ref _,upd H (s.heap.objs.size + 1) (.lst vs2),inv.laid (t':=s.toks) (fun _ _=>PyProof.Rows.sortedAll_old) (Nat.le_succ _) ⟨few,out,ep,r1,here⟩,rfl,res.outL k cells r2 (inv.hok.fresh (Nat.le_succ _))⟩
 ·exact told.elim
end
end Sv
namespace Sv
open PySem PySem.Spec PySem.Calls PyProof.Rows L2
def Head3 (h:Heap) (v:Value) (p:Int × Int):Prop:=∃ a o n t u x,v=.ref a∧h.get? a=some o∧o.cls=.type "tuple" ∧ o.data=.seq #[.int p.1 t,.int p.2 u,.ref x] n
theorem Head3.one {h:Heap} {v:Value} {p q:Int × Int} (a:Head3 h v p) (b:Head3 h v q):p=q:=by
 obtain ⟨a,o,n,t,u,x,rfl,h1,_,h3⟩:=a
 obtain ⟨a',o',n',t',u',x',e,k1,_,k3⟩:=b
 cases e
 rw [h1] at k1
 cases k1
 rw [h3] at k3
 injection k3 with k3 _
 have k3:=congrArg Array.toList k3
 simp only [List.cons.injEq,Value.int.injEq] at k3
 exact Prod.ext k3.1.1 k3.2.1.1
theorem Head3.keep {h h':Heap} {v:Value} {p:Int × Int} (k:∀ b o,h.get? b=some o→h'.get? b=some o) (a:Head3 h v p):Head3 h' v p:=by
 obtain ⟨a,o,n,t,u,x,e,h1,h2,h3⟩:=a
 exact ⟨a,o,n,t,u,x,e,k _ _ h1,h2,h3⟩
def a1G (p:Int × Int):List (Int ⊕ List Nat):=[.inl p.1,.inl p.2]
noncomputable def a5Q (h:Heap) (us:List Value):PyProof.Rows.KeyKind where
 toKeyOrd:=listOrd itemOrd
 keyOf v:=open Classical in if q:∃ p,Head3 h v p∧v∈us then some (a1G q.choose) else none
 dflt:=([]:List (Int ⊕ List Nat))
theorem a5q {h:Heap} {us:List Value} {v:Value} {p:Int × Int} (hv:v∈us) (q:Head3 h v p):(a5Q h us).keyOf v=some (a1G p):=by
 have q':∃ p,Head3 h v p∧v∈us:=⟨p,q,hv⟩
 show (open Classical in if q:∃ p,Head3 h v p∧v∈us then some (a1G q.choose) else none)=_
 rw [dif_pos q',q'.choose_spec.1.one q]
theorem a6B {h:Heap} {us:List Value} {v:Value} {k:List (Int ⊕ List Nat)} (e:(a5Q h us).keyOf v=some k):∃ p,v∈us∧Head3 h v p∧k=a1G p:=by
 have e:(open Classical in if q:∃ p,Head3 h v p∧v∈us then some (a1G q.choose) else none)=some k:=e
 split at e
 ·rename_i q
  cases e
  exact ⟨_,q.choose_spec.2,q.choose_spec.1,rfl⟩
 ·cases e
section
variable {prog:Program} {w:World} {A:Around} {E:Value→Shared→Prop} {s:Shared}
theorem a7p {l:Addr} {Q:Bool→Shared→Prop} (h:Q true s):wpAny (model prog w) A (eqBool (.ref l) (.ref l)) Q E s:=by
 unfold eqBool
 refine wpAny_holding ?_
 show wpAny _ _ (if (Value.ref l == Value.ref l)=true then _ else _) Q E s
 rw [if_pos (by simp)]
 exact wpAny_bind (wpAny_rule (wpAny_pure h))
theorem b0Y {p q:Int × Int} {t u t' u':Tok} {x x':Addr} {b fin:Bool} {Q:Bool→Shared→Prop} (same:p=q→x=x'∧fin=false) (h:Q (lexLt itemOrd (a1G p) (a1G q)) s) :
  PySem.W.KatLex prog w A b fin Q [(.int p.1 t,.int q.1 t'),(.int p.2 u,.int q.2 u'),(.ref x,.ref x')] 0 s:=by
 refine PySem.W.kat_cons (wpAny_eqBool_int ?_)
 refine PySem.W.kat_go (fun e=>PySem.W.kat_yes ?_) (fun e=>PySem.W.kat_no ?_)
 ·have e1:p.1=q.1:=by simpa using e
  refine PySem.W.kat_cons (wpAny_eqBool_int ?_)
  refine PySem.W.kat_go (fun e=>PySem.W.kat_yes ?_) (fun e=>PySem.W.kat_no ?_)
  ·have e2:p.2=q.2:=by simpa using e
   obtain ⟨rfl,rfl⟩:=same (Prod.ext e1 e2)
   have e3:p=q:=Prod.ext e1 e2
   subst e3
   rw [lex_irrefl] at h
   exact PySem.W.kat_cons (a7p (PySem.W.kat_go (fun _=>PySem.W.kat_yes (PySem.W.kat_nil h)) (fun e=>by cases e)))
  ·have e2:¬ p.2=q.2:=by simpa using e
   have e:lexLt itemOrd (a1G p) (a1G q)=decide (p.2 < q.2):=by
    unfold a1G
    rw [e1,lex_self,lex_diff (fun z=>e2 (Sum.inl.inj z))]
    rfl
   rw [e] at h
   exact oneLt_any_int h
 ·have e1:¬ p.1=q.1:=by simpa using e
  have e:lexLt itemOrd (a1G p) (a1G q)=decide (p.1 < q.1):=by
   unfold a1G
   rw [lex_diff (fun z=>e1 (Sum.inl.inj z))]
   rfl
  rw [e] at h
  exact oneLt_any_int h
theorem b8F {h:Heap}:∀ {us:List Value} {ps:List (Int × Int)},PySem.W.EachIs (Head3 h) us ps→∃ fs,PySem.W.KatTups h us fs∧fs.length=us.length∧∀ f∈fs,∃ i t,f=Value.int i t
 | _,_,.nil=>⟨[],PySem.W.KatTups.nil,rfl,fun _ h=>nomatch h⟩
 | _,_,.cons (as:=us) ⟨a,o,n,t,u,x,e,h1,h2,h3⟩ more=>by
  obtain ⟨fs,k1,k2,k3⟩:=b8F more
  subst e
  refine ⟨_ :: fs,PySem.W.KatTups.cons h1 h2 h3 rfl k1,by rw [zaz,k2];rfl,fun f hf=>?_⟩
  rcases zau.mp hf with rfl | hf
  ·exact ⟨_,_,rfl⟩
  ·exact k3 f hf
theorem b7Z {us:List Value} {ps:List (Int × Int)} (e:PySem.W.EachIs (Head3 s.heap) us ps) (ne:∀ u∈us,∀ u'∈us,∀ p,Head3 s.heap u p→Head3 s.heap u' p→u=u'):PySem.W.SortsAt prog w A s (a5Q s.heap us) us:=by
 refine ⟨fun v hv=>?_,tuples' (Value.type "int" != Value.type "tuple"),?_,fun h2 E Q hq=>?_⟩
 ·obtain ⟨p,_,hp⟩:=e.left v hv
  exact ⟨_,a5q hv hp⟩
 ·intro E x y a b Q ha hb hq
  obtain ⟨p,mx,hx,rfl⟩:=a6B ha
  obtain ⟨q,my,hy,rfl⟩:=a6B hb
  have same:p=q→x=y:=fun e=>ne x mx y my p hx (e ▸ hy)
  obtain ⟨a,o,n,t,u,z,rfl,h1,_,h3⟩:=hx
  obtain ⟨a',o',n',t',u',z',rfl,k1,_,k3⟩:=hy
  refine PySem.W.kat_lt h1 h3 k1 k3 ?_
  refine b0Y (fun e=>⟨?_,rfl⟩) hq
  have e:=same e
  cases e
  rw [h1] at k1
  cases k1
  rw [h3] at k3
  injection k3 with k3 _
  have k3:=congrArg Array.toList k3
  simp only [List.cons.injEq,Value.ref.injEq] at k3
  exact k3.2.2.1
 ·obtain ⟨fs,t1,t2,t3⟩:=b8F e
  refine PySem.W.kat_kind (T:=Value.type "int") t1 (by omega) (fun f hf=>?_) (beq_self_eq_true _) hq
  obtain ⟨i,t,rfl⟩:=t3 f hf
  exact PySem.W.looks_reads (Reads.int i t)
end
def leP (p q:Int × Int × List D):Bool:=decide (p.1 < q.1∨p.1=q.1∧p.2.1≤q.2.1)
def b2y (p:Int × Int × List D):D:=.tup [.int p.1,.int p.2.1,.tup p.2.2]
def hd3 (p:Int × Int × List D):Int × Int:=(p.1,p.2.1)
def a6d (cell:Bool) (xs:List D) (S:SS) (K:DK):Prop:=match xs with
 | [d]=>∃ ps:List (Int × Int × List D),vw S d=.lst (ps.map b2y)∧(ps.map hd3).Nodup∧outL cell ((ps.mergeSort leP).map b2y) S K
 | _=>False
theorem b1U (p q:Int × Int × List D):PySem.W.sortLe (listOrd itemOrd) false (fun p:Int × Int × List D=>a1G (hd3 p)) p q=leP p q:=by
 show (!lexLt itemOrd (a1G (hd3 q)) (a1G (hd3 p)))=leP p q
 unfold leP a1G hd3
 by_cases e1:q.1=p.1
 ·dsimp only
  rw [e1,lex_self]
  by_cases e2:q.2.1=p.2.1
  ·rw [e2,lex_irrefl,zbg (.inr ⟨rfl,Int.le_refl _⟩)]
   rfl
  ·rw [lex_diff (fun z=>e2 (Sum.inl.inj z))]
   show (!decide (q.2.1 < p.2.1))=_
   rw [Bool.eq_iff_iff]
   simp
 ·dsimp only
  rw [lex_diff (fun z=>e1 (Sum.inl.inj z))]
  show (!decide (q.1 < p.1))=_
  rw [Bool.eq_iff_iff]
  simp
  omega
theorem a4o {β γ:Type} {R:Value→γ→Prop} (f:β→γ):∀ {vs:List Value} {bs:List β},PySem.W.EachIs (fun v b=>R v (f b)) vs bs→PySem.W.EachIs R vs (bs.map f)
 | _,_,.nil=>.nil
 | _,_,.cons h1 t=>.cons h1 (a4o f t)
theorem a6u {h:Heap}:∀ {us:List Value} {ps:List (Int × Int × List D)},PySem.W.EachIs (fun u p=>Head3 h u (hd3 p)) us ps→(ps.map hd3).Nodup→∀ u∈us,∀ u'∈us,∀ q,Head3 h u q→Head3 h u' q→u=u'
 | _,_,.nil,_,_,hu,_,_,_,_,_=>nomatch hu
 | u0 :: us,p0 :: ps,.cons h0 more,nd,u,hu,u',hu',q,k,k'=>by
  rw [zax,zbd] at nd
  have out:∀ v∈us,Head3 h v q→hd3 p0≠q:=fun v hv kv e=>by
   obtain ⟨p1,hp1,k1⟩:=more.left v hv
   have:=k1.one kv
   exact nd.1 (zan.mpr ⟨p1,hp1,this.trans e.symm⟩)
  rcases zau.mp hu with e1 | m1
  ·rcases zau.mp hu' with e2 | m2
   ·rw [e1,e2]
   ·exact absurd (h0.one (e1 ▸ k)) (out u' m2 k')
  ·rcases zau.mp hu' with e2 | m2
   ·exact absurd (h0.one (e2 ▸ k')) (out u m1 k)
   ·exact a6u more nd.2 u m1 u' m2 q k k'
section
variable {X:Cx} {g:Gd}
theorem b2o {S:SS} {H:Hp} {v:V} {p:Int × Int × List D} (r:Rep g S H (b2y p) v):∃ a x,v=.ref a∧SqT g.K H a [.int p.1,.int p.2.1,.ref x]:=by
 obtain ⟨a,vs,rfl,at_,all⟩:=a0H r (show vw S (b2y p)=.tup [.int p.1,.int p.2.1,.tup p.2.2] from rfl)
 simp only [a0i] at all
 obtain ⟨v1,r1,rfl,e1,v2,r2,rfl,e2,v3,r3,rfl,e3,rfl⟩:=all
 simp only [Rep] at e1 e2 e3
 subst e1
 subst e2
 obtain ⟨x,_,rfl,_⟩:=e3
 exact ⟨a,x,rfl,at_⟩
theorem a9b (calm:X.calm=true) (hK:g.K=X.K) (room:X.A.units + 65 < cLine) (cell:Bool):CallR X (.builtin "sorted") (rDc g (a6d cell)):=by
 rintro pins s σ H vs us Q inv given ⟨xs,S,K,cells,reps,told,res⟩
 unfold a6d at told
 split at told
 ·rename_i d
  obtain ⟨v,rfl,rep⟩:=one_of reps
  obtain ⟨ps,seen,nd,k⟩:=told
  obtain ⟨a,ws,rfl,seq,all⟩:=a0r cells rep seen
  rw [hK] at seq
  obtain ⟨its,rel,at_its,fits⟩:=inv.list seq
  have lay:∀ (u:Value) (v:V) (p:Int × Int × List D),RelV v u→Rep g S H (b2y p) v→Head3 s.heap u (hd3 p):=fun u v p hu hr=>by
   obtain ⟨a,x,rfl,at_⟩:=b2o hr
   rw [hK] at at_
   obtain ⟨its2,rel2,⟨o,h1,h2,n,h3⟩,_⟩:=inv.tuple at_
   have hu:u=.ref a:=hu
   subst hu
   cases rel2 with
   | cons q1 q2 =>
    cases q2 with
    | cons q2 q3 =>
     cases q3 with
     | cons q3 q4 =>
      cases q4
      obtain ⟨t1,rfl⟩:=q1
      obtain ⟨t2,rfl⟩:=q2
      cases q3
      exact ⟨a,o,n,t1,t2,x,rfl,h1,h2,h3⟩
  have e:PySem.W.EachIs (fun u p=>∃ v,RelV v u∧Rep g S H (b2y p) v) its ps:=PySem.W.each_of_map b2y (a4U rel all)
  have eh:PySem.W.EachIs (fun u p=>Head3 s.heap u (hd3 p)) its ps:=e.mono fun u p ⟨v,h1,h2⟩=>lay u v p h1 h2
  have eh':PySem.W.EachIs (fun u p=>Head3 (PySem.W.sortingHeap (PySem.W.copyHeap s.heap its) (s.heap.objs.size + 1) its) u (hd3 p)) its ps:=eh.mono fun u p h=>h.keep fun _ _=>PySem.W.sorting_copy_old
  have l1:its.length=ps.length:=e.length
  have hk:PySem.W.EachIs (fun v p=>(a5Q (PySem.W.sortingHeap (PySem.W.copyHeap s.heap its) (s.heap.objs.size + 1) its) its).keyOf v=some (a1G (hd3 p))) its ps:=PySem.W.EachIs.of_zip l1 fun q hq=>a5q (List.of_mem_zip hq).1 (eh'.zip q hq)
  have so:=PySem.W.sortVals_each (κ:=a5Q (PySem.W.sortingHeap (PySem.W.copyHeap s.heap its) (s.heap.objs.size + 1) its) its) (rev:=false) (fun p=>a1G (hd3 p)) e hk
  have el:PySem.W.sortLe (listOrd itemOrd) false (fun p:Int × Int × List D=>a1G (hd3 p))=leP:=funext fun p=>funext fun q=>b1U p q
  have so:PySem.W.EachIs (fun u p=>∃ v,RelV v u∧Rep g S H (b2y p) v) (PySem.W.sortVals (a5Q (PySem.W.sortingHeap (PySem.W.copyHeap s.heap its) (s.heap.objs.size + 1) its) its) false its its) (ps.mergeSort leP):=by rw [← el];exact so
  rw [Vals.ref1 given]
  refine PySem.W.sorted_vals (κ:=a5Q (PySem.W.sortingHeap (PySem.W.copyHeap s.heap its) (s.heap.objs.size + 1) its) its) at_its.isList (b7Z (s:={ s with heap:=PySem.W.sortingHeap (PySem.W.copyHeap s.heap its) (s.heap.objs.size + 1) its }) (ps:=ps.map hd3) (a4o hd3 eh') (a6u eh' nd)) (by have:=rel.length;omega) ?_
  have len:=PySem.W.sortVals_length (κ:=a5Q (PySem.W.sortingHeap (PySem.W.copyHeap s.heap its) (s.heap.objs.size + 1) its) its) (ks:=its) (vs:=its) false rfl
  generalize PySem.W.sortVals (a5Q (PySem.W.sortingHeap (PySem.W.copyHeap s.heap its) (s.heap.objs.size + 1) its) its) false its its=out at so len ⊢
  obtain ⟨vs2,r1,r2⟩:=a4p (a4o (R:=fun u d=>∃ v,RelV v u∧Rep g S H d v) b2y so)
  obtain ⟨ep,here⟩:=PyProof.Rows.sortedAll_at s.heap its out.toArray
  have few:vs2.length≤sizeLine:=by rw [r1.length,len,rel.length.symm];exact fits
  exact ⟨.ref _,upd H (s.heap.objs.size + 1) (.lst vs2),inv.laid (t':=s.toks) (fun _ _=>PyProof.Rows.sortedAll_old) (Nat.le_succ _) ⟨few,out,ep,r1,here⟩,rfl,res.outL k cells r2 (inv.hok.fresh (Nat.le_succ _))⟩
 ·exact told.elim
end
end Sv
namespace Sv
open PySem PySem.Spec PyProof.Rows L2
theorem a9R {v:Value} {o:Obj} {Hd:Heap→Prop} (B:Begins v o Hd) :
  Meets (Builtin.«enumerate.__new__» ⟨[.type "enumerate",v],[]⟩) (fun _ R s=>Hd s.heap ∧
   R (.ok (.ret (.ref (s.heap.push o).objs.size))) { s with heap:=(s.heap.push o).push { cls:=.type "enumerate",data:=.fields #[.none,.bool false,.ref s.heap.objs.size,rawInt 0,.none,.none] } }) :=
 .of_wp fun prog w A R s ⟨stands,want⟩=>by
  obtain ⟨hp,gen,dr,tk,os⟩:=s
  have below:=sub_enumerate
  have starts:∀ {A':Around} {E Q:Value→Shared→Prop},Q (.ref hp.objs.size) ⟨hp.push o,gen,dr,tk,os⟩→wpAny (model prog w) A' (pyIter v) Q E ⟨hp,gen,dr,tk,os⟩:=fun q=>B.iter prog w _ _ ⟨hp,gen,dr,tk,os⟩ _ stands q
  wp_walk using starts
  refine wpAny_stack_any fun top=>wpAny_pure ?_
  split
  ·rename_i cl _ _ _ _ _
   cases (cl == Value.type "enumerate") <;> (wp_walk using starts) <;> exact ⟨_,rfl,want⟩
  ·wp_walk using starts
   exact ⟨_,rfl,want⟩
section
variable {prog:Program} {w:World} {A:Around} {E:Value→Shared→Prop} {s:Shared}
theorem a9Q {v:Value} {o:Obj} {Hd:Heap→Prop} {Q:Value→Shared→Prop} (B:Begins v o Hd) (stands:Hd s.heap)
  (want:∀ h',IsEnum h' (s.heap.objs.size + 1) s.heap.objs.size 0 .none→h'.get? s.heap.objs.size=some o→h'.objs.size=s.heap.objs.size + 2→(∀ b u,s.heap.get? b=some u→h'.get? b=some u)→Q (.ref (s.heap.objs.size + 1)) { s with heap:=h' }) :
  wpAny (model prog w) A (call (.type "enumerate") [v]) Q E s:=by
 have one:(s.heap.push o).objs.size=s.heap.objs.size + 1:=Heap.size_push ..
 have top:=Heap.get?_push_size (s.heap.push o) (o:=⟨.type "enumerate",none,.fields #[.none,.bool false,.ref s.heap.objs.size,rawInt 0,.none,.none],#[]⟩) rfl
 rw [one] at top
 refine callType_new F.called_enumerate (by decide) (F.typeCall_enumerate_1 _) (F.newCall_enumerate_1 _) (fun obj=>F.args_object_init_2 obj _) F.entry_enumerate_new (a9R B) ⟨stands,?_⟩
 refine ⟨?_,?_⟩
 ·rw [one]
  exact ⟨_,top,rfl⟩
 ·rw [one]
  exact want _ top (Heap.get?_push_of_some _ (Heap.get?_push_size _ B.free)) (by rw [Heap.size_push,one]) fun b u x=>Heap.get?_push_of_some _ (Heap.get?_push_of_some _ x)
end
def b9I (K:zbj) (a:Addr):It :=
 ⟨fun i H=>∃ xs x,SqT K H a xs∧xs[i]?=some x,fun i H v H'=>∃ T x,v=.ref T∧H T=none∧H'=upd H T (.tup [.int (i:Nat),x])∧∀ xs,SqT K H a xs→xs[i]?=some x,fun i H=>∃ xs:List V,SqT K H a xs∧xs.length≤i⟩
theorem a4C {h:Heap} {a b:Addr} {o u:Obj} (ha:h.get? a=some o) (hb:h.get? b=some u) (ne:o.cls≠u.cls):a≠b:=fun e=>ne (by rw [e,hb] at ha;cases ha;rfl)
theorem a9e {P:Program} {w:World} {K:zbj} {elts:List Expr} {kk:Nat} {tpos:Pos} (a e it:Addr) :
  Turn P w K (.Tuple elts kk tpos) (b9I K a) [e,it] e (fun i h=>(∃ old,IsEnum h e it ((i:Nat):Int) old)∧h.IsTupleIter it a i) where
 mem:=zal
 obj:=fun i h ⟨⟨old,en⟩,⟨o,at_it,_,dt⟩⟩ b hb=>by
  rcases zau.mp hb with rfl | hb
  ·exact ⟨_,en,nofun⟩
  ·rw [zaj.mp hb]
   exact ⟨o,at_it,fun v q=>by rw [dt] at q;cases q⟩
 keep:=fun i h h' ⟨⟨old,en⟩,walk⟩ k=>⟨⟨old,k e zal _ en⟩,walk.at fun o q=>k it (zao _ zal) o q⟩
 item:=by
  intro X hP hw hK calm i pins s σ H E I free st g
  subst hP hw hK
  obtain ⟨⟨old,en⟩,walk⟩:=st
  obtain ⟨xs,x,seq,at_i⟩:=g
  obtain ⟨its,vals,tup,_⟩:=I.tuple seq
  obtain ⟨oi,gi,ci,_⟩:=id walk
  obtain ⟨oa,ga,ca,_⟩:=id tup
  have ei:e≠it:=a4C en gi (by rw [ci];exact (by decide:Value.type "enumerate" ≠ .type "tuple_iterator"))
  have ea:e≠a:=a4C en ga (by rw [ca];exact (by decide:Value.type "enumerate" ≠ .type "tuple"))
  have ai:a≠it:=a4C ga gi (by rw [ca,ci];decide)
  have inside:i < its.toArray.size:=by
   have l:=vals.length
   have:=(List.getElem?_eq_some_iff.mp at_i).1
   rw [List.size_toArray]
   omega
  have W:=WalksT.enumerateD (prog:=X.prog) (w:=X.w) (A:=X.A) (fp:=[it,a]) (Draws.tuple (A:=X.A.in1) (I.ok.hd calm) it a ai its.toArray) e ei (by simp [ei,ea]) zal
  refine W.item i s _ _ inside ⟨⟨old,en⟩,walk,tup⟩ fun T got h1 tk told young isT mid kept=>?_
  obtain ⟨t0,v,here,rfl⟩:=told
  refine ⟨_,rfl,W.go elts kk tpos i T _ _ _ mid fun h2 st2 kept2=>?_⟩
  obtain ⟨u,hu,ru⟩:=vals.get at_i
  have uv:u=v:=by
   have:its.toArray[i]?=some u:=by simpa using hu
   rw [here] at this
   exact (Option.some.inj this).symm
  subst uv
  obtain ⟨oT,gT,cT,nT,dT⟩:=isT
  have gT2:=kept2 T oT (W.apart i T h1 mid) gT
  have new:ObjOk X.prog X.w (upd H T (.tup [.int (i:Nat),x])) h2 T (.tup [.int (i:Nat),x]):=⟨by show 2≤sizeLine;decide,[.int i t0,u],.cons ⟨_,rfl⟩ (.cons ru .nil),oT,gT2,cT,nT,dT⟩
  have J:=I.turnedNew (t':=tk) (ch:=[e,it]) (fun b o hb q=>kept2 b o hb (kept b o hb q)) free young new
  refine ⟨.ref T,_,J,rfl,⟨T,x,rfl,I.hok.fresh young,rfl,fun ys hy=>by rw [I.tuple_inj hy seq];exact at_i⟩,?_,fun b hb=>?_⟩
  ·obtain ⟨⟨old2,en2⟩,walk2,_⟩:=st2
   exact ⟨⟨old2,en2⟩,walk2⟩
  ·have ne:b≠T:=fun q=>W.apart i T h1 mid (by rw [← q];exact hb)
   rw [upd_ne ne]
   exact (free b hb).1
 done:=by
  intro X hP hw hK calm i pins s σ H E I free st g
  subst hP hw hK
  obtain ⟨⟨old,en⟩,walk⟩:=st
  obtain ⟨xs,seq,past⟩:=g
  obtain ⟨its,vals,tup,_⟩:=I.tuple seq
  obtain ⟨oi,gi,ci,di⟩:=id walk
  obtain ⟨oa,ga,ca,_⟩:=id tup
  have l:=vals.length
  have gone:its.toArray[i]?=none:=by rw [List.getElem?_toArray];exact List.getElem?_eq_none (by omega)
  have over:Draws X.prog X.w X.A.in1 it [it,a] 0 (fun _ _=>False) (fun _ h=>h.IsTupleIter it a i∧h.IsTuple a its.toArray) :=
   {
    live:=fun _ _ ⟨⟨o,q,_⟩,_⟩=>⟨o,q⟩
    frame:=fun _ _ _ st k=>⟨st.1.at fun o q=>k it zal o q,st.2.at fun o q=>k a (zao _ zal) o q⟩
    item:=fun _ _ _ _ none _ _=>absurd none (Nat.not_lt_zero _)
    done:=fun _ _ _ st hE=>wpAny_nextOf_tuple_end (I.ok.hd calm) st.1 st.2 gone hE }
  refine wpAny_pyNext_enum_endD over en ⟨walk,tup⟩ fun h' kept=>⟨rfl,?_⟩
  obtain ⟨f0,f1,f2,f3,f4,f5⟩:=free it (zao _ zal)
  exact I.turned (t':=s.toks) (fun b o hb q=>kept b o hb q) f0 f1 f3 f4 f5
 self:=fun A i s Q E ⟨⟨_,en⟩,_⟩ h=>wpAny_pyIter_enum en h
def b6Z (K:zbj) (ta:TA):TI:=fun σ H R=>ta σ H fun vs H1=>∃ a xs,vs=[.ref a]∧SqT K H1 a xs∧R (b9I K a) H1
theorem b2d {X:Cx} {x:Expr} {ta:TA} {p pos tpos:Pos} {elts:List Expr} {kk:Nat} (glob:Gl X "enumerate") (free:X.mg "enumerate" = none) (arg:PA X [x] ta) (plain:starEach [x] X.env=[(false,eval x X.env)]) :
  PI X (.Tuple elts kk tpos) (.Call (.Name "enumerate" p) [x] [] pos) (b6Z X.K ta):=by
 refine ⟨fun pins s σ H R I h=>?_⟩
 refine Call_ (ld_blt I glob free boot_enumerate (callWith_type1 (thn (arg.run pos pins s σ H _ I h) fun us s1 ⟨vs,H1,I1,like,want⟩=>?_) plain rfl))
 obtain ⟨a,xs,rfl,seq,want⟩:=want
 cases like with
 | cons one rest =>
  cases rest
  cases one
  obtain ⟨its,vals,tup,_⟩:=I1.tuple seq
  refine a9Q (begins_tuple a its.toArray) tup fun h' en at_it _ kept=>wpAny_pyIter_enum en ?_
  refine ⟨_,[s1.heap.objs.size + 1,s1.heap.objs.size],_,_,H1,rfl,I1.kept (t':=s1.toks) kept,a9e a (s1.heap.objs.size + 1) s1.heap.objs.size,⟨⟨.none,en⟩,⟨_,at_it,rfl,rfl⟩⟩,fun b hb=>?_,want⟩
  have late:s1.heap.objs.size≤b:=by
   rcases zau.mp hb with rfl | hb
   ·exact Nat.le_add_right _ _
   ·exact Nat.le_of_eq (zaj.mp hb).symm
  exact I1.fpOk late (I1.hok.fresh late)
end Sv
namespace Sv
open PySem PySem.Spec PyProof.Rows L2
def SqB (K:zbj):Bool→Hp→Addr→List V→Prop
 | true=>SqT K
 | false=>SqL K
def IsB:Bool→Heap→Addr→Array Value→Prop
 | true=>Heap.IsTuple
 | false=>Heap.IsList
def ItB:Bool→Heap→Addr→Addr→Nat→Prop
 | true=>Heap.IsTupleIter
 | false=>Heap.IsListIter
def c3V:Bool→Addr→Obj
 | true,a=>{ cls:=.type "tuple_iterator",data:=.fields #[.ref a,.int 0 0] }
 | false,a=>{ cls:=.type "list_iterator",data:=.fields #[.ref a,.int 0 0] }
theorem c3K (t:Bool) (a:Addr) (its:Array Value):Begins (.ref a) (c3V t a) fun h=>IsB t h a its:=by
 cases t
 ·exact begins_list a its
 ·exact begins_tuple a its
theorem c3S {t:Bool} {h:Heap} {it a:Addr} (e:h.get? it=some (c3V t a)):ItB t h it a 0:=by
 cases t <;> exact ⟨_,e,rfl,rfl⟩
theorem ItB.at_ {t:Bool} {h h':Heap} {it a:Addr} {i:Nat} (x:ItB t h it a i) (k:∀ o,h.get? it=some o→h'.get? it=some o):ItB t h' it a i:=by
 cases t
 ·exact Heap.IsListIter.at x k
 ·exact Heap.IsTupleIter.at x k
theorem ItB.obj {t:Bool} {h:Heap} {it a:Addr} {i:Nat} (x:ItB t h it a i):∃ o,h.get? it=some o∧∀ v,o.data≠.cell v:=by
 cases t <;> (obtain ⟨o,e,_,d⟩:=x;exact ⟨o,e,fun v q=>by rw [d] at q;cases q⟩)
theorem a76 {prog:Program} {w:World} {A:Around} (t:Bool) (hh:A.handled=none) (it a:Addr) (ne:a≠it) (its:Array Value) (i:Nat) :
  Draws prog w A it [it,a] (its.size - i) (fun j v=>its[i + j]?=some v) (fun j h=>ItB t h it a (i + j)∧IsB t h a its):=by
 cases t
 ·exact {
   live:=fun _ _ st=>let ⟨o,ho,_⟩:=st.1;⟨o,ho⟩
   frame:=fun _ _ _ st hk=>⟨Heap.IsListIter.at st.1 fun o e=>hk it (by simp) o e,Heap.IsList.at st.2 fun o e=>hk a (by simp) o e⟩
   item:=fun j s Q E hj st hQ=>by
    have hi:i + j < its.size:=by omega
    refine wpAny_nextOf_list_item st.1 st.2 (x:=its[i + j]) (by simp [hi]) fun h' hit' hs'=>?_
    exact hQ _ h' s.toks (by simp [hi]) ⟨hit',Heap.IsList.extBut st.2 hs'.extBut ne⟩ hs'
   done:=fun s Q E st hE=>wpAny_nextOf_list_end hh st.1 st.2 (Array.getElem?_eq_none (by omega)) hE }
 ·exact {
   live:=fun _ _ st=>let ⟨o,ho,_⟩:=st.1;⟨o,ho⟩
   frame:=fun _ _ _ st hk=>⟨Heap.IsTupleIter.at st.1 fun o e=>hk it (by simp) o e,Heap.IsTuple.at st.2 fun o e=>hk a (by simp) o e⟩
   item:=fun j s Q E hj st hQ=>by
    have hi:i + j < its.size:=by omega
    refine wpAny_nextOf_tuple_item st.1 st.2 (x:=its[i + j]) (by simp [hi]) fun h' hit' hs'=>?_
    exact hQ _ h' s.toks (by simp [hi]) ⟨hit',Heap.IsTuple.extBut st.2 hs'.extBut ne⟩ hs'
   done:=fun s Q E st hE=>wpAny_nextOf_tuple_end hh st.1 st.2 (Array.getElem?_eq_none (by omega)) hE }
theorem b5B {X:Cx} {pins:List (Addr × Obj)} {σ:L2.St} {H:Hp} {s:Shared} (I:Inv X pins σ H s) (t:Bool) {a:Addr} {xs:List V} (h:SqB X.K t H a xs):∃ its:List Value,Vals xs its∧IsB t s.heap a its.toArray:=by
 cases t
 ·obtain ⟨its,rv,p,_⟩:=I.list h
  exact ⟨its,rv,p.isList⟩
 ·obtain ⟨its,rv,p,_⟩:=I.tuple h
  exact ⟨its,rv,p⟩
theorem c3R {X:Cx} {pins:List (Addr × Obj)} {σ:L2.St} {H:Hp} {s:Shared} (I:Inv X pins σ H s) {t:Bool} {a:Addr} {xs ys:List V} (h:SqB X.K t H a xs) (h':SqB X.K t H a ys):xs=ys:=by
 cases t
 ·exact I.list_inj h h'
 ·exact I.tuple_inj h h'
theorem b3a {N d:Addr} (h:d < N):∀ c∈([N + 4,N + 2,N + 3,N,N + 1]:List Addr),c≠d:=fun c hc e=>by
 have e':c=N + 4∨c=N + 2∨c=N + 3∨c=N∨c=N + 1:=by simpa using hc
 have lo:N≤c:=by
  rcases e' with z | z | z | z | z
  ·rw [z];exact Nat.le_add_right _ _
  ·rw [z];exact Nat.le_add_right _ _
  ·rw [z];exact Nat.le_add_right _ _
  ·rw [z];exact Nat.le_refl _
  ·rw [z];exact Nat.le_add_right _ _
 exact absurd (Nat.lt_of_lt_of_le h lo) (by rw [e];exact Nat.lt_irrefl _)
theorem ltB {t:Bool} {h:Heap} {a:Addr} {its:Array Value} (x:IsB t h a its):a < h.objs.size:=by
 cases t <;> (obtain ⟨o,e,_⟩:=x;exact Heap.lt_size e)
def b9J (K:zbj) (t1:Bool) (a:Addr) (t2:Bool) (b:Addr):It :=
 ⟨fun i H=>∃ (xs ys:List V) (x y:V),SqB K t1 H a xs∧SqB K t2 H b ys∧xs[i]?=some x∧ys[i]?=some y,
  fun i H v H'=>∃ T x y,v=.ref T∧H T=none∧H'=upd H T (.tup [x,y])∧(∀ xs,SqB K t1 H a xs→xs[i]?=some x)∧∀ ys,SqB K t2 H b ys→ys[i]?=some y,
  fun i H=>∃ xs ys:List V,SqB K t1 H a xs∧SqB K t2 H b ys∧(xs.length≤i∨ys.length≤i)⟩
theorem c4g {N a b:Addr} (ha:∀ c∈([N + 4,N + 2,N + 3,N,N + 1]:List Addr),c≠a) (hb:∀ c∈([N + 4,N + 2,N + 3,N,N + 1]:List Addr),c≠b):ZipSep2 (N + 4) (N + 2) (N + 3) N (N + 1) [N,a] [N + 1,b]:=by
 have q:∀ {i j:Nat},i≠j→(N + i:Addr)≠(N + j:Addr):=fun {i j} h e=>h (Nat.add_left_cancel e)
 have q0:∀ {i:Nat},i≠0→(N + i:Addr)≠N:=fun {i} h e=>h (Nat.add_left_cancel (e.trans (Nat.add_zero N).symm))
 have no:∀ {c x y:Addr},c≠x→c≠y→c∉([x,y]:List Addr):=fun h1 h2 h=>by
  rcases zau.mp h with e | h
  ·exact h1 e
  ·exact h2 (zaj.mp h)
 exact {
  TIz:=q (by decide),TOz:=q (by decide),TITO:=q (by decide),TIi1:=q0 (by decide),mem1:=zal
  zf1:=no (q0 (by decide)) (ha _ (by simp)),Tf1:=no (q0 (by decide)) (ha _ (by simp)),TIi2:=q (by decide),mem2:=zal
  zf2:=no (q (by decide)) (hb _ (by simp)),Tf2:=no (q (by decide)) (hb _ (by simp))
  sep1_2:=no (q0 (by decide)).symm (hb _ (by simp)),sep2_1:=no (q0 (by decide)) (ha _ (by simp)) }
theorem b01 {P:Program} {w:World} {K:zbj} {elts:List Expr} {kk:Nat} {tpos:Pos} (t1 t2:Bool) {a b N:Addr} (la:a < N) (lb:b < N) :
  Turn P w K (.Tuple elts kk tpos) (b9J K t1 a t2 b) [N + 4,N + 2,N + 3,N,N + 1] (N + 4) (fun i h=>IsZip h (N + 4) (N + 2) (N + 3) .none∧IsTupOf2 h (N + 2) (.ref N) (.ref (N + 1))∧(∃ x y,IsTupOf2 h (N + 3) x y)∧ItB t1 h N a i∧ItB t2 h (N + 1) b i) where
 mem:=by simp
 obj:=fun i h st c hc=>by
  obtain ⟨hz,hTI,⟨x,y,hTO⟩,h1,h2⟩:=st
  have e':c=N + 4∨c=N + 2∨c=N + 3∨c=N∨c=N + 1:=by simpa using hc
  rcases e' with q | q | q | q | q
  ·rw [q];exact ⟨_,hz,fun v q=>nomatch q⟩
  ·rw [q];exact ⟨_,hTI,fun v q=>nomatch q⟩
  ·rw [q];exact ⟨_,hTO,fun v q=>nomatch q⟩
  ·rw [q];exact h1.obj
  ·rw [q];exact h2.obj
 keep:=fun i h h' st k=>by
  obtain ⟨hz,hTI,⟨x,y,hTO⟩,h1,h2⟩:=st
  exact ⟨k _ (by simp) _ hz,k _ (by simp) _ hTI,⟨x,y,k _ (by simp) _ hTO⟩,h1.at_ fun o q=>k N (by simp) o q,h2.at_ fun o q=>k (N + 1) (by simp) o q⟩
 item:=by
  intro X hP hw hK hc i pins s σ H E I hf st hg
  subst hP hw hK
  obtain ⟨hz,hTI,⟨x0,y0,hTO⟩,h1,h2⟩:=st
  obtain ⟨xs,ys,x,y,hqx,hqy,hx,hy⟩:=hg
  obtain ⟨its,rv,p⟩:=b5B I t1 hqx
  obtain ⟨its2,rv2,p2⟩:=b5B I t2 hqy
  obtain ⟨u,hu,ru⟩:=rv.get hx
  obtain ⟨u2,hu2,ru2⟩:=rv2.get hy
  have S:=c4g (b3a la) (b3a lb)
  have n1:i < its.length:=(List.getElem?_eq_some_iff.mp hu).1
  have n2:i < its2.length:=(List.getElem?_eq_some_iff.mp hu2).1
  have hzl:N + 4 < s.heap.objs.size:=Heap.lt_size hz
  refine wpAny_pyNext_zipD2_item (i:=0) S (a76 (prog:=X.prog) (w:=X.w) (A:=X.A.in1) t1 (I.ok.hd hc) N a (b3a la N (by simp)).symm its.toArray i) (a76 (prog:=X.prog) (w:=X.w) (A:=X.A.in1) t2 (I.ok.hd hc) (N + 1) b (b3a lb (N + 1) (by simp)).symm its2.toArray i) hz hTI hTO ⟨h1,p⟩ ⟨h2,p2⟩ (by rw [List.size_toArray];omega) (by rw [List.size_toArray];omega) fun v1 v2 h' tk p1 p2 z' TO' s1 s2 hT hsz hk=>?_
  have e1:v1=u:=by
   have p1:its.toArray[i + 0]?=some v1:=p1
   rw [Nat.add_zero,List.getElem?_toArray,hu] at p1
   exact (Option.some.inj p1).symm
  have e2:v2=u2:=by
   have p2:its2.toArray[i + 0]?=some v2:=p2
   rw [Nat.add_zero,List.getElem?_toArray,hu2] at p2
   exact (Option.some.inj p2).symm
  subst e1 e2
  refine ⟨_,rfl,wpAny_letOwnedTupleGo_zip (s:={ s with heap:=h',toks:=tk }) z' fun h'' z'' sb=>?_⟩
  have hT2:h''.get? s.heap.objs.size=some { cls:=.type "tuple",data:=.seq #[v1,v2] }:=(sb.2 _ (Nat.ne_of_gt hzl)).trans hT
  have new:ObjOk X.prog X.w (upd H s.heap.objs.size (.tup [x,y])) h'' s.heap.objs.size (.tup [x,y]) :=
   ⟨by show 2≤sizeLine;decide,[v1,v2],.cons ru (.cons ru2 .nil),⟨_,hT2,rfl,_,rfl⟩⟩
  have I1:Inv X pins σ (upd H s.heap.objs.size (.tup [x,y])) { s with heap:=h'',toks:=tk } :=
   I.turnedNew (t':=tk) (ch:=[N + 4,N + 2,N + 3,N,N + 1]) (fun c o hb q=>(sb.2 c (fun q'=>hb (by simp [q']))).trans (hk c o (fun q'=>hb (by simp [q'])) (fun q'=>hb (by simp [q'])) (fun q'=>hb (by simp [q'])) (fun q'=>hb (by simp [q'])) q)) hf (Nat.le_refl _) new
  refine ⟨.ref s.heap.objs.size,_,I1,rfl,⟨_,x,y,rfl,I.hok.fresh (Nat.le_refl _),rfl,fun l hl=>by rw [c3R I hl hqx];exact hx,fun l hl=>by rw [c3R I hl hqy];exact hy⟩,⟨z'',?_,⟨v1,v2,?_⟩,?_,?_⟩,fun c hcm=>?_⟩
  ·exact (sb.2 _ S.TIz).trans (hk _ _ S.TIz S.TITO S.TIi1 S.TIi2 hTI)
  ·exact (sb.2 _ S.TOz).trans TO'
  ·exact ItB.at_ s1.1 fun o q=>(sb.2 _ S.zi1.symm).trans q
  ·exact ItB.at_ s2.1 fun o q=>(sb.2 _ S.zi2.symm).trans q
  ·have hlt:c < s.heap.objs.size:=by
    have e':c=N + 4∨c=N + 2∨c=N + 3∨c=N∨c=N + 1:=by simpa using hcm
    rcases e' with q | q | q | q | q
    ·rw [q];exact hzl
    ·rw [q];exact Heap.lt_size hTI
    ·rw [q];exact Heap.lt_size hTO
    ·rw [q];obtain ⟨_,e1,_⟩:=h1.obj;exact Heap.lt_size e1
    ·rw [q];obtain ⟨_,e2,_⟩:=h2.obj;exact Heap.lt_size e2
   rw [upd_ne (Nat.ne_of_lt hlt)]
   exact (hf c hcm).1
 done:=by
  intro X hP hw hK hc i pins s σ H E I hf st hg
  subst hP hw hK
  obtain ⟨hz,hTI,⟨x0,y0,hTO⟩,h1,h2⟩:=st
  obtain ⟨xs,ys,hqx,hqy,hend⟩:=hg
  obtain ⟨its,rv,p⟩:=b5B I t1 hqx
  obtain ⟨its2,rv2,p2⟩:=b5B I t2 hqy
  have l1:=rv.length
  have l2:=rv2.length
  have S:=c4g (b3a la) (b3a lb)
  refine wpAny_pyNext_zipD2_end (i:=0) S (a76 (prog:=X.prog) (w:=X.w) (A:=X.A.in1) t1 (I.ok.hd hc) N a (b3a la N (by simp)).symm its.toArray i) (a76 (prog:=X.prog) (w:=X.w) (A:=X.A.in1) t2 (I.ok.hd hc) (N + 1) b (b3a lb (N + 1) (by simp)).symm its2.toArray i) hz hTI hTO ⟨h1,p⟩ ⟨h2,p2⟩ (Nat.zero_le _) (Nat.zero_le _) (by rw [List.size_toArray,List.size_toArray];omega) fun h' tk hk=>⟨rfl,I.turnedL (t':=tk) (ch:=[N + 4,N + 2,N + 3,N,N + 1]) (fun c o hb q =>
   hk c o (fun q'=>hb (by simp [q'])) (fun q'=>hb (by simp [q'])) (fun q'=>hb (by simp [q'])) (fun q'=>hb (by simp [q'])) q) hf⟩
 self:=fun A i s Q E st h=>wpAny_pyIter_zip st.1 h
def c1n (K:zbj) (t1 t2:Bool) (ta:TA):TI:=fun σ H R=>ta σ H fun vs H1=>∃ a b xs ys,vs=[.ref a,.ref b]∧SqB K t1 H1 a xs∧SqB K t2 H1 b ys∧R (b9J K t1 a t2 b) H1
theorem b5a {X:Cx} {e e2:Expr} {ta:TA} {p pos tpos:Pos} {elts:List Expr} {kk:Nat} (t1 t2:Bool) (hg:Gl X "zip") (hm:X.mg "zip" = none) (ha:PA X [e,e2] ta)
  (hs:starEach [e,e2] X.env=(false,eval e X.env) :: starEach [e2] X.env) (hpl:(backTo pos (starEach [e2] X.env)).any (·.1)=false) :
  PI X (.Tuple elts kk tpos) (.Call (.Name "zip" p) [e,e2] [] pos) (c1n X.K t1 t2 ta):=by
 refine ⟨fun pins s σ H R I h=>?_⟩
 refine Call_ (ld_blt I hg hm PyProof.Rows.boot_zip (PyProof.Rows.callWith_type1 (thn (ha.run pos pins s σ H _ I h) fun us s1 ⟨vs,H1,I1,r1,q1⟩=>?_) hs hpl))
 obtain ⟨a,b,xs,ys,ex,hqx,hqy,q⟩:=q1
 subst ex
 cases r1 with
 | cons r rr =>
  cases rr with
  | cons r' rr =>
   cases rr
   cases r
   cases r'
   obtain ⟨its,rv,p1⟩:=b5B I1 t1 hqx
   obtain ⟨its2,rv2,p2⟩:=b5B I1 t2 hqy
   refine zip_begins2 (c3K t1 a its.toArray) (c3K t2 b its2.toArray) p1 p2 fun h' hz hTI hTO h1 h2 hsz hk=>wpAny_pyIter_zip hz ?_
   have I2:Inv X pins σ H1 { s1 with heap:=h' }:=I1.kept (t':=s1.toks) hk
   refine ⟨s1.heap.objs.size + 4,[s1.heap.objs.size + 4,s1.heap.objs.size + 2,s1.heap.objs.size + 3,s1.heap.objs.size,s1.heap.objs.size + 1],_,_,H1,rfl,I2,b01 t1 t2 (ltB p1) (ltB p2),⟨hz,hTI,⟨_,_,hTO⟩,c3S h1,c3S h2⟩,fun c hcm=>?_,q⟩
   have e':c=s1.heap.objs.size + 4∨c=s1.heap.objs.size + 2∨c=s1.heap.objs.size + 3∨c=s1.heap.objs.size∨c=s1.heap.objs.size + 1:=by simpa using hcm
   have hle:s1.heap.objs.size≤c:=by
    rcases e' with z | z | z | z | z
    ·rw [z];exact Nat.le_add_right _ _
    ·rw [z];exact Nat.le_add_right _ _
    ·rw [z];exact Nat.le_add_right _ _
    ·rw [z];exact Nat.le_refl _
    ·rw [z];exact Nat.le_add_right _ _
   exact I1.fpOk hle (I1.hok.fresh hle)
end Sv
namespace Sv
open PySem PySem.Spec PyProof.Rows L2
open L2H (RoomH)
abbrev XK':=Addr→List (Str × D)→SS→Prop
abbrev XD':=Addr→List (Str × D)→DS→SS→Prop
abbrev TR:=Option (Addr × Obj)→List D→SS→DK→XK'→Prop
structure SE where
 nx:DS→SS→Prop
 rt:DK
 bk:DS→SS→Prop
 ct:DS→SS→Prop
def XDk (g:Gd) (S:SS) (H:Hp) (d:Option Addr) (fs:List (Str × D)):Prop:=(d=none∧fs=[])∨∃ dd ws,d=some dd∧S dd=none∧H dd=some (.xd ws)∧a2x g S H fs ws
def b8P (g:Gd) (S:SS) (H:Hp) (Y:XK') (E:XK):Prop:=∀ C fs S' d H',Y C fs S'→a0h S H S' H'→CellsOk g S' H'→XDk g S' H' d fs→E (.ref C) d H'
def spD (g:Gd) (T:TR):SpM:=fun m vs H Q E=>∃ ds S K Y,CellsOk g S H∧a0i g S H ds vs∧T m ds S K Y∧Res g S H K Q∧b8P g S H Y E
def a69 (g:Gd) (S:SS) (H:Hp) (Y:XD') (W:WX):Prop:=∀ C fs δ' S' d σ' H',Y C fs δ' S'→a0h S H S' H'→Rel g S' H' δ' σ'→XDk g S' H' d fs→W (.ref C) d σ' H'
structure b5K (g:Gd) (S:SS) (H:Hp) (F:SE) (D:Ends):Prop where
 nx:∀ δ' S' σ' H',F.nx δ' S'→a0h S H S' H'→Rel g S' H' δ' σ'→D.nx σ' H'
 rt:Res g S H F.rt D.rt
 bk:∀ δ' S' σ' H',F.bk δ' S'→a0h S H S' H'→Rel g S' H' δ' σ'→D.bk σ' H'
 ct:∀ δ' S' σ' H',F.ct δ' S'→a0h S H S' H'→Rel g S' H' δ' σ'→D.ct σ' H'
structure a9k (g:Gd) (S1:SS) (H1:Hp) (J:It) (ds:List D) (ok:SS→Prop):Prop where
 go:∀ i S H,i < ds.length→a0h S1 H1 S H→CellsOk g S H→ok S→J.go i H
 yl:∀ i S H x H' d,ds[i]?=some d→a0h S1 H1 S H→CellsOk g S H→ok S→J.yld i H x H'→a0h S H S H'∧CellsOk g S H'∧Rep g S H' d x
 st:∀ i S H,ds.length≤i→a0h S1 H1 S H→CellsOk g S H→ok S→J.stop i H
abbrev RdE:=DS→SS→XD'→DK→Prop
abbrev RdT:=DS→SS→XD'→(Bool→SS→Prop)→Prop
abbrev RdL:=DS→SS→XD'→(List D→SS→Prop)→Prop
abbrev RdI:=DS→SS→XD'→(List D→(SS→Prop)→SS→Prop)→Prop
abbrev RdS:=DS→SS→XD'→SE→Prop
section
variable (g:Gd) (W:WX)
def LE (t:RdE):TE:=fun σ H Q=>∃ δ S Y K,Rel g S H δ σ∧t δ S Y K∧Res g S H K Q∧a69 g S H Y W
def LT (t:RdT):TT:=fun σ H Q=>∃ δ S Y K,Rel g S H δ σ∧t δ S Y K∧(∀ b S' H',K b S'→a0h S H S' H'→CellsOk g S' H'→Q b H')∧a69 g S H Y W
def LA (t:RdL):TA:=fun σ H Q=>∃ δ S Y K,Rel g S H δ σ∧t δ S Y K∧(∀ ds S' vs H',K ds S'→a0h S H S' H'→CellsOk g S' H'→a0i g S' H' ds vs→Q vs H')∧a69 g S H Y W
def LI (t:RdI):TI:=fun σ H R=>∃ δ S Y K,Rel g S H δ σ∧t δ S Y K∧(∀ ds ok S' H' J,K ds ok S'→a0h S H S' H'→CellsOk g S' H'→a9k g S' H' J ds ok→R J H')∧a69 g S H Y W
def LS (t:RdS):TS:=fun D σ H=>∃ δ S Y F,Rel g S H δ σ∧t δ S Y F∧b5K g S H F D∧a69 g S H Y W
end
section
variable {g:Gd} {W:WX} {S S1 S':SS} {H H1 H':Hp} {δ:DS} {σ:L2.St}
theorem Rel.mono (P:a0h S H S' H') (c:CellsOk g S' H') (h:Rel g S H δ σ):Rel g S' H' δ σ:=⟨h.sl.mono P,c⟩
theorem XDk.mono {d:Option Addr} {fs:List (Str × D)} (P:a0h S H S' H') (h:XDk g S H d fs):XDk g S' H' d fs:=by
 rcases h with h | ⟨dd,ws,e,n,q,r⟩
 ·exact .inl h
 ·exact .inr ⟨dd,ws,e,P.none_of n q,P.kp _ _ n q,r.mono P⟩
theorem Res.mono {K:DK} {Q:VK} (P:a0h S H S1 H1) (h:Res g S H K Q):Res g S1 H1 K Q:=fun d S' v H' k p c r=>h d S' v H' k (P.trans p) c r
theorem b8P.mono {Y:XK'} {E:XK} (P:a0h S H S1 H1) (h:b8P g S H Y E):b8P g S1 H1 Y E:=fun C fs S' d H' y p c x=>h C fs S' d H' y (P.trans p) c x
theorem a69.mono {Y:XD'} (P:a0h S H S1 H1) (h:a69 g S H Y W):a69 g S1 H1 Y W:=fun C fs δ' S' d σ' H' y p c x=>h C fs δ' S' d σ' H' y (P.trans p) c x
theorem b5K.mono {F:SE} {D:Ends} (P:a0h S H S1 H1) (h:b5K g S H F D):b5K g S1 H1 F D :=
 ⟨fun δ' S' σ' H' y p c=>h.nx δ' S' σ' H' y (P.trans p) c,h.rt.mono P,fun δ' S' σ' H' y p c=>h.bk δ' S' σ' H' y (P.trans p) c,fun δ' S' σ' H' y p c=>h.ct δ' S' σ' H' y (P.trans p) c⟩
end
section
variable {X:Cx} {e:Expr}
theorem PE.imp {t t':TE} (h:PE X e t) (w:∀ σ H Q,t' σ H Q→t σ H Q):PE X e t':=⟨fun pins s σ H Q I q=>h.run pins s σ H Q I (w σ H Q q)⟩
theorem PT.imp {t t':TT} (h:PT X e t) (w:∀ σ H Q,t' σ H Q→t σ H Q):PT X e t':=⟨fun pins s σ H Q I q=>h.run pins s σ H Q I (w σ H Q q)⟩
theorem PW.imp {t t':TT} (h:PW X e t) (w:∀ σ H Q,t' σ H Q→t σ H Q):PW X e t':=⟨fun whole pins s σ H Q I q=>h.run whole pins s σ H Q I (w σ H Q q)⟩
theorem PA.imp {es:List Expr} {t t':TA} (h:PA X es t) (w:∀ σ H Q,t' σ H Q→t σ H Q):PA X es t':=⟨fun pos pins s σ H Q I q=>h.run pos pins s σ H Q I (w σ H Q q)⟩
theorem PI.imp {tg:Expr} {t t':TI} (h:PI X tg e t) (w:∀ σ H Q,t' σ H Q→t σ H Q):PI X tg e t':=⟨fun pins s σ H Q I q=>h.run pins s σ H Q I (w σ H Q q)⟩
theorem PS.imp {st:Stmt} {t t':TS} (h:PS X st t) (w:∀ D σ H,t' D σ H→t D σ H):PS X st t':=⟨fun pins s σ H D I q=>h.run pins s σ H D I (w D σ H q)⟩
theorem PSs.imp {st:List Stmt} {t t':TS} (h:PSs X st t) (w:∀ D σ H,t' D σ H→t D σ H):PSs X st t':=⟨fun pins s σ H D I q=>h.run pins s σ H D I (w D σ H q)⟩
end
inductive RC where
 | non | bl (b:Bool) | int (i:Int) | str (x:Str)
def RC.d:RC→D
 | .non=>.non | .bl b=>.bl b | .int i=>.int i | .str x=>.str x
inductive Bn where
 | len | abs | max | min | rpr | int | tup | lst (cell:Bool) | srt (cell:Bool) | dic (cell:Bool) | dcp (cell:Bool) | all | sum | str | lsk (cell:Bool) | mnl | srl (cell:Bool) | srp (cell:Bool)
def Bn.nm:Bn→Str
 | .len => "len" | .abs => "abs" | .max => "max" | .min => "min" | .rpr => "repr" | .int => "int" | .tup => "tuple" | .lst _ => "list" | .srt _ => "sorted" | .dic _ => "dict" | .dcp _ => "dict" | .all => "all" | .sum => "sum" | .str => "str" | .lsk _ => "list" | .mnl => "min" | .srl _ => "sorted" | .srp _ => "sorted"
def Bn.den:Bn→List D→SS→DK→Prop
 | .len=>b4u | .abs=>b9O | .max=>maxD | .min=>minD | .rpr=>b5i | .int=>intD | .tup=>b00 | .lst cell=>b4y cell | .srt cell=>a7O cell | .dic cell=>b3P cell | .dcp cell=>a9M cell | .all=>c0z | .sum=>c3p | .str=>c3o | .lsk cell=>b0g cell | .mnl=>b4D | .srl cell=>a6c cell | .srp cell=>a6d cell
def Bn.needs (m0:Option (Addr × Obj)):Bn→Prop
 | .len=>True | .abs=>True | .max=>m0=none | .min=>m0=none | .rpr=>True | .int=>True | .tup=>True | .lst _=>True | .srt _=>m0=none | .dic _=>True | .dcp _=>m0=none | .all=>m0=none | .sum=>m0=none | .str=>True | .lsk _=>m0=none | .mnl=>m0=none | .srl _=>m0=none | .srp _=>m0=none
inductive Mn where
 | join | upper | app | ins | pop | clr | cnt | dpop | upd | dget | dset | dpop2 | idx | spl | rem
def Mn.nm:Mn→Str
 | .join => "join" | .upper => "upper" | .app => "append" | .ins => "insert" | .pop => "pop" | .clr => "clear" | .cnt => "count" | .dpop => "pop" | .upd => "update" | .dget => "get" | .dset => "setdefault" | .dpop2 => "pop" | .idx => "index" | .spl => "split" | .rem => "remove"
def Mn.den:Mn→D→List D→SS→DK→Prop
 | .join=>b4r | .upper=>b04 | .app=>c0A | .ins=>c1u | .pop=>c1S | .clr=>a9J | .cnt=>c0T | .dpop=>b3R | .upd=>c3B | .dget=>b3N | .dset=>b3T | .dpop2=>a9N | .idx=>c1r | .spl=>b0T | .rem=>c1W
def a6x (x:D):Prop:=∃ z,x=.str z
def a2V (x:D) (S:SS):Prop:=∃ ds,vw S x=.lst ds
def a5p (x:D) (S:SS):Prop:=∃ p kvs,x=.obj p∧S p=some (.dic kvs)
def Mn.rc:Mn→D→SS→Prop
 | .join=>fun x _=>a6x x | .upper=>fun x _=>a6x x
 | .app=>a2V | .ins=>a2V | .pop=>a2V | .clr=>a2V | .cnt=>a2V | .dpop=>a5p | .upd=>a5p | .dget=>a8d | .dset=>a5p | .dpop2=>a5p | .idx=>a2V | .spl=>fun x _=>a6x x | .rem=>a2V
inductive En where
 | fn (x:Str) | mt (C m:Str)
 deriving DecidableEq
inductive Cn where
 | ty (n:String) | own (j:Nat)
mutual
inductive RE where
 | var (i:Nat) | con (c:RC) | glb (j:Nat)
 | bin (op:Operator) (a b:RE) | neg (a:RE) | nt (a:RE)
 | and (es:RL) | or (es:RL) | ife (c a b:RE)
 | cmp (op:CmpOp) (a b:RE) | chn (o1 o2:CmpOp) (a b c:RE)
 | lst (cell:Bool) (es:RL) | tup (es:RL)
 | ix (a b:RE) | sl (a:RE) (lo hi:RO) | fld (a:RE) (f:Str)
 | call (j:Nat) (es:RL) | bi (b:Bn) (es:RL) | isi (a:RE) (c:Cn)
 | lc (cell:Bool) (elt:RE) (tg:List Nat) (one:Bool) (it:RI) (c:RO) (own:List (Str × Nat))
 | dct (cell:Bool) (ps:RQ) | mth (b:Mn) (a:RE) (es:RL) | om (j:Nat) (m:Str) (a:RE) (es:RL) | mk (j:Nat) (es:RL)
 | lck (e:RE) | fz (e:RE) | vls (cell:Bool) (a:RE) | ofs (srt:Bool) (a:RE) | rev (cell:Bool) (a:RE) | sl2 (k:Nat) (a:RE) | kin (neg:Bool) (j:Nat) (a:RE) | kix (j:Nat) (a:RE) | adc (a b:RE) | slc (a:RE) (lo hi:RO) | ofi (a:RE) | fzt (k:Nat) (e:RE) | nev
inductive RO where
 | nn | ss (e:RE)
inductive RL where
 | nil | cons (e:RE) (es:RL)
inductive RQ where
 | nil | cons (k v:RE) (r:RQ)
inductive RI where
 | lst (e:RE) | tup (e:RE) | rng1 (a:RE) | rng2 (a b:RE) | str (e:RE) | keys (e:RE) | enum (e:RE) | items (e:RE) | enumt (e:RE) | zip (t1 t2:Bool) (a b:RE)
end
def RI.two:RI→Bool
 | .enum _=>true | .items _=>true | .enumt _=>true | .zip _ _ _ _=>true | _=>false
structure SN where
 N:List Str
 fns:List En
 cls:List Str
 gvs:List Str
structure Gm extends Gd where
 m0:Option (Addr × Obj)
 fn:Bool→Nat→Option TR
 gv:Nat→D
 cl:Nat→Addr
 mc:Nat→Addr
 kd:Nat→Option (List (Key × D))
def Cn.val (G:Gm):Cn→Value
 | .ty n=>.type n | .own j=>.ref (G.cl j)
def tyD (S:SS):D→Option Value
 | .non=>some (.type "NoneType") | .bl _=>some (.type "bool") | .int _=>some (.type "int") | .str _=>some (.type "str")
 | .lst _=>some (.type "list") | .tup _=>some (.type "tuple") | .dic _=>some (.type "dict")
 | .obj a=>match S a with
  | some (.lst _)=>some (.type "list") | some (.dic _)=>some (.type "dict") | some (.loc _)=>some (.type "dict") | some (.ins C _)=>some (.ref C) | none=>none
 | .exc _ _ C _=>some (.ref C)
 | .err _ C _ _=>some (.ref C)
def a1n (z:Str):List D:=z.cps.toList.map fun c=>.str ⟨#[c]⟩
def a2b (ds:List D):List D:=ds.zipIdx.map fun p=>.tup [.int (p.2:Nat),p.1]
def a99:List (D × D)→Option (List (Key × D))
 | []=>some []
 | (k,v) :: r=>match keyD k,a99 r with
  | some key,some q=>some ((key,v) :: q)
  | _,_=>none
def sqv:Bool→List D→D
 | true,ds=>.tup ds
 | false,ds=>.lst ds
def a2B:List D→List D→List D
 | x :: xs,y :: ys=>.tup [x,y] :: a2B xs ys
 | _,_=>[]
def a7L (lo:Int) (n:Nat):List D:=(List.range n).map fun (i:Nat)=>.int (lo + (i:Int))
abbrev b9H:zbj→Addr→Prop:=C8.InsC
abbrev b09:zbj→Addr→Prop:=ExcC
def a7d (G:Gm) (S:SS):D→Prop
 | .obj a=>∀ C fs,S a=some (.ins C fs)→b9H G.K C
 | .exc y oe C _=>G.m0=some (y,oe)∧b09 G.K C
 | .err _ C _ _=>b09 G.K C
 | _=>True
def a9U (G:Gm) (f:Str) (x:D) (S:SS) (K:DK):Prop:=match x with
 | .obj a=>∃ C fs d,S a=some (.ins C fs)∧Cls G.K C∧NoAttr G.K C f∧fs.lookup f=some d∧K d S
 | .exc y oe C fs=>G.m0=some (y,oe)∧b09 G.K C∧NoAttr G.K C f∧∃ d,fs.lookup f=some d∧K d S
 | .err _ C fs _=>b09 G.K C∧NoAttr G.K C f∧∃ d,fs.lookup f=some d∧K d S
 | _=>False
def omD (G:Gm) (j:Nat) (m:Str) (x:D) (S:SS) (p:Addr):Prop:=x=.obj p∧∃ fs,S p=some (.ins (G.mc j) fs)∧fs.lookup m=none
def noX:XD':=fun _ _ _ _=>False
def a4K:DS→List Nat→List D→DS
 | δ,i :: is,d :: ds=>a4K (δ.set i (some d)) is ds
 | δ,_,_=>δ
def a2a (tg:List Nat) (one:Bool) (d:D) (δ:DS) (S:SS) (Q:DS→SS→Prop):Prop :=
 if one=true then (match tg with
  | [i]=>Q (δ.set i (some d)) S
  | _=>False)
 else ∃ ds,vw S d=.tup ds∧ds.length=tg.length∧Q (a4K δ tg ds) S
def a7W (δ:DS):List Nat→DS
 | []=>δ
 | v :: vs=>(a7W δ vs).set v none
mutual
def den (G:Gm):RE→RdE
 | .var i=>fun δ S _ K=>match δ[i]? with
  | some (some d)=>K d S
  | _=>False
 | .con c=>fun _ S _ K=>K c.d S
 | .glb j=>fun _ S _ K=>K (G.gv j) S
 | .bin op a b=>fun δ S Y K=>den G a δ S Y fun x S1=>den G b δ S1 Y fun y S2=>opD op x y S2 K
 | .neg a=>fun δ S Y K=>den G a δ S Y fun x S1=>∃ i,x=.int i∧K (.int (-i)) S1
 | .nt a=>fun δ S Y K=>den G a δ S Y fun x S1=>a1v x S1 fun b=>K (.bl (!b)) S1
 | .and es=>a04 G es
 | .or es=>a1W G es
 | .ife c a b=>fun δ S Y K=>a0u G c δ S Y fun k S1=>if k=true then den G a δ S1 Y K else den G b δ S1 Y K
 | .cmp op a b=>fun δ S Y K=>den G a δ S Y fun x S1=>den G b δ S1 Y fun y S2=>a0I op x y S2 K
 | .chn o1 o2 a b c=>fun δ S Y K=>den G a δ S Y fun x S1=>den G b δ S1 Y fun y S2=>a0I o1 x y S2 fun z S3=>∃ k,z=.bl k ∧
   if k=true then den G c δ S3 Y fun w S4=>a0I o2 y w S4 K else K (.bl false) S3
 | .lst cell es=>fun δ S Y K=>a0x G es δ S Y fun ds S1=>ds.length≤sizeLine∧if cell=true then ∀ p,S1 p=none→K (.obj p) (S1.set p (.lst ds)) else K (.lst ds) S1
 | .tup es=>fun δ S Y K=>a0x G es δ S Y fun ds S1=>ds.length≤sizeLine∧K (.tup ds) S1
 | .ix a b=>fun δ S Y K=>den G a δ S Y fun x S1=>den G b δ S1 Y fun y S2=>ixD x y S2 K
 | .sl a lo hi=>fun δ S Y K=>den G a δ S Y fun x S1=>a2T G lo δ S1 Y fun l S2=>a2T G hi δ S2 Y fun u S3=>slD x l u S3 K
 | .fld a f=>fun δ S Y K=>den G a δ S Y fun x S1=>a9U G f x S1 K
 | .call j es=>fun δ S Y K=>∃ T,G.fn G.m0.isSome j=some T∧a0x G es δ S Y fun ds S1=>T G.m0 ds S1 K fun C fs S'=>Y C fs δ S'
 | .bi b es=>fun δ S Y K=>b.needs G.m0∧a0x G es δ S Y fun ds S1=>b.den ds S1 K
 | .isi a c=>fun δ S Y K=>den G a δ S Y fun x S1=>∃ t b,tyD S1 x=some t∧a7d G S1 x∧PySem.W.kitOne G.K t (c.val G)=some b∧K (.bl b) S1
 | .lc cell elt tg one it c own=>fun δ S Y K=>G.m0=none∧a02 G it δ S Y fun ds ok S1=>∀ p,S1 p=none→∃ Iv:Nat→SS→Prop,Iv 0 (S1.set p (.lst []))∧(∀ i S',Iv i S'→i≤ds.length→ok S') ∧
   (∀ i d S',ds[i]?=some d→Iv i S'→a2a tg one d (a7W δ (own.map (·.2))) S' fun δ2 S2=>a7b G c δ2 S2 noX fun b S3 =>
    if b=true then den G elt δ2 S3 noX fun y S4=>∃ acc,S4 p=some (.lst acc)∧acc.length < sizeLine∧Iv (i + 1) (S4.set p (.lst (acc ++ [y]))) else Iv (i + 1) S3) ∧
   (∀ S',Iv ds.length S'→∃ acc,S' p=some (.lst acc)∧if cell=true then K (.obj p) S' else K (.lst acc) (S'.del p))
 | .dct cell ps=>fun δ S Y K=>∀ p,S p=none→a7c G ps δ (S.set p (.dic [])) Y fun ks S2=>S2 p=some (.dic [])∧∃ kvs,a99 ks=some kvs∧kvs.length≤15∧if cell=true then K (.obj p) (S2.set p (.dic (a0L [] kvs))) else K (.dic (a0L [] kvs)) (S2.del p)
 | .mth b a es=>fun δ S Y K=>den G a δ S Y fun x S1=>b.rc x S1∧a0x G es δ S1 Y fun ds S2=>b.den x ds S2 K
 | .om j m a es=>fun δ S Y K=>∃ T,G.fn G.m0.isSome j=some T∧den G a δ S Y fun x S1=>∃ p,omD G j m x S1 p∧a0x G es δ S1 Y fun ds S2=>T G.m0 (.obj p :: ds) S2 K fun C fs S'=>Y C fs δ S'
 | .mk j es=>fun δ S Y K=>G.m0=none∧∃ T,G.fn false j=some T∧a0x G es δ S Y fun ds S1=>∀ p,S1 p=none→T none (.obj p :: ds) (S1.set p (.ins (G.mc j) [])) (fun d S'=>d=.non∧K (.obj p) S') fun C fs S'=>Y C fs δ S'
 | .lck e=>fun δ S Y K=>∃ a kvs,S a=some (.dic kvs)∧den G e δ (S.set a (.loc kvs)) Y fun d S'=>K d (S'.set a (.dic kvs))
 | .fz e=>fun δ S Y K=>den G e δ S Y fun d S1=>∃ a,d=.obj a∧((∃ ds,S1 a=some (.lst ds)∧K (.lst ds) (S1.del a))∨∃ kvs,S1 a=some (.dic kvs)∧K (.dic kvs) (S1.del a))
 | .fzt k e=>fun δ S Y K=>den G e δ S Y fun d S1=>∃ ds a l,d=.tup ds∧ds[k]?=some (.obj a)∧S1 a=some (.lst l)∧K (.tup (ds.set k (.lst l))) (S1.del a)
 | .ofs srt a=>fun δ S Y K=>G.m0=none∧den G a δ S Y fun x S1=>∃ zs:List Str,vw S1 x=.lst (zs.map D.str)∧(zs.length < 64∨((uniq zs).length < 64∧zs.length < 1000))∧if srt=true then ∃ cell,outL cell ((a0l (uniq zs)).map D.str) S1 K else K (.int ((uniq zs).length:Nat)) S1
 | .ofi a=>fun δ S Y K=>G.m0=none∧den G a δ S Y fun x S1=>∃ zs:List Int,vw S1 x=.lst (zs.map D.int)∧zs.length < 64∧∀ ns:List Int,ns.Pairwise (· < ·)→(∀ k,k∈ns↔k∈zs)→K (.lst (ns.map D.int)) S1
 | .vls cell a=>fun δ S Y K=>G.m0=none∧den G a δ S Y fun x S1=>∃ p kvs,x=.obj p∧S1 p=some (.dic kvs)∧outL cell (kvs.map (·.2)) S1 K
 | .rev cell a=>fun δ S Y K=>den G a δ S Y fun x S1=>∃ ds,vw S1 x=.lst ds∧outL cell ds.reverse S1 K
 | .sl2 k a=>fun δ S Y K=>den G a δ S Y fun x S1=>∃ ds,vw S1 x=.lst ds∧K (.lst (ev2 k ds)) S1
 | .kin neg j a=>fun δ S Y K=>∃ kvs,G.kd j=some kvs∧den G a δ S Y fun x S1=>∃ z,x=.str z∧K (.bl (neg ^^ (valD kvs (.inr z)).isSome)) S1
 | .kix j a=>fun δ S Y K=>∃ kvs,G.kd j=some kvs∧den G a δ S Y fun x S1=>∃ z d,x=.str z∧valD kvs (.inr z)=some d∧K d S1
 | .slc a lo hi=>fun δ S Y K=>den G a δ S Y fun x S1=>a2T G lo δ S1 Y fun l S2=>a2T G hi δ S2 Y fun u S3=>b5G x l u S3 K
 | .adc a b=>fun δ S Y K=>den G a δ S Y fun x S1=>den G b δ S1 Y fun y S2=>b1m x y S2 K
 | .nev=>fun _ _ _ _=>False
def a7c (G:Gm):RQ→DS→SS→XD'→(List (D × D)→SS→Prop)→Prop
 | .nil=>fun _ S _ K=>K [] S
 | .cons k v r=>fun δ S Y K=>den G k δ S Y fun x S1=>den G v δ S1 Y fun y S2=>a7c G r δ S2 Y fun ps S3=>K ((x,y) :: ps) S3
def a0x (G:Gm):RL→RdL
 | .nil=>fun _ S _ K=>K [] S
 | .cons e es=>fun δ S Y K=>den G e δ S Y fun d S1=>a0x G es δ S1 Y fun ds S2=>K (d :: ds) S2
def a04 (G:Gm):RL→RdE
 | .nil=>fun _ _ _ _=>False
 | .cons e .nil=>den G e
 | .cons e (.cons f r)=>fun δ S Y K=>den G e δ S Y fun x S1=>a1v x S1 fun k=>if k=true then a04 G (.cons f r) δ S1 Y K else K x S1
def a1W (G:Gm):RL→RdE
 | .nil=>fun _ _ _ _=>False
 | .cons e .nil=>den G e
 | .cons e (.cons f r)=>fun δ S Y K=>den G e δ S Y fun x S1=>a1v x S1 fun k=>if k=true then K x S1 else a1W G (.cons f r) δ S1 Y K
def a0u (G:Gm):RE→RdT
 | .nt a=>fun δ S Y K=>a0u G a δ S Y fun b S1=>K (!b) S1
 | .and es=>a0R G es
 | .or es=>a1g G es
 | .ife _ _ _=>fun _ _ _ _=>False
 | .cmp op a b=>fun δ S Y K=>den G a δ S Y fun x S1=>den G b δ S1 Y fun y S2=>a0I op x y S2 fun d S'=>∃ k,d=.bl k∧K k S'
 | .chn o1 o2 a b c=>fun δ S Y K=>den G a δ S Y fun x S1=>den G b δ S1 Y fun y S2=>a0I o1 x y S2 fun z S3=>∃ k,z=.bl k ∧
   if k=true then den G c δ S3 Y fun w S4=>a0I o2 y w S4 fun d S'=>∃ k,d=.bl k∧K k S' else ∃ k,D.bl false=.bl k∧K k S3
 | .var i=>fun δ S _ K=>match δ[i]? with
  | some (some d)=>a1v d S fun b=>K b S
  | _=>False
 | .con c=>fun _ S _ K=>a1v c.d S fun b=>K b S
 | .glb j=>fun _ S _ K=>a1v (G.gv j) S fun b=>K b S
 | .ix a b=>fun δ S Y K=>den G a δ S Y fun x S1=>den G b δ S1 Y fun y S2=>ixD x y S2 fun d S3=>a1v d S3 fun b=>K b S3
 | .fld a f=>fun δ S Y K=>den G a δ S Y fun x S1=>a9U G f x S1 fun d S3=>a1v d S3 fun b=>K b S3
 | .call j es=>fun δ S Y K=>∃ T,G.fn G.m0.isSome j=some T∧a0x G es δ S Y fun ds S1=>T G.m0 ds S1 (fun d S3=>a1v d S3 fun b=>K b S3) fun C fs S'=>Y C fs δ S'
 | .isi a c=>fun δ S Y K=>den G a δ S Y fun x S1=>∃ t b,tyD S1 x=some t∧a7d G S1 x∧PySem.W.kitOne G.K t (c.val G)=some b∧K b S1
 | .kin neg j a=>fun δ S Y K=>∃ kvs,G.kd j=some kvs∧den G a δ S Y fun x S1=>∃ z,x=.str z∧∃ k,D.bl (neg ^^ (valD kvs (.inr z)).isSome)=.bl k∧K k S1
 | .om j m a es=>fun δ S Y K=>∃ T,G.fn G.m0.isSome j=some T∧den G a δ S Y fun x S1=>∃ p,omD G j m x S1 p∧a0x G es δ S1 Y fun ds S2=>T G.m0 (.obj p :: ds) S2 (fun d S3=>a1v d S3 fun b=>K b S3) fun C fs S'=>Y C fs δ S'
 | .mth b a es=>fun δ S Y K=>den G a δ S Y fun x S1=>b.rc x S1∧a0x G es δ S1 Y fun ds S2=>b.den x ds S2 fun d S3=>a1v d S3 fun b=>K b S3
 | .bi b es=>fun δ S Y K=>b.needs G.m0∧a0x G es δ S Y fun ds S1=>b.den ds S1 fun d S3=>a1v d S3 fun b=>K b S3
 | _=>fun _ _ _ _=>False
def a0R (G:Gm):RL→RdT
 | .nil=>fun _ _ _ _=>False
 | .cons e .nil=>a0u G e
 | .cons e (.cons f r)=>fun δ S Y K=>a0u G e δ S Y fun k S1=>if k=true then a0R G (.cons f r) δ S1 Y K else K false S1
def a1g (G:Gm):RL→RdT
 | .nil=>fun _ _ _ _=>False
 | .cons e .nil=>a0u G e
 | .cons e (.cons f r)=>fun δ S Y K=>a0u G e δ S Y fun k S1=>if k=true then K true S1 else a1g G (.cons f r) δ S1 Y K
def a7b (G:Gm):RO→RdT
 | .nn=>fun _ S _ K=>K true S
 | .ss e=>a0u G e
def a2T (G:Gm):RO→DS→SS→XD'→(Option Int→SS→Prop)→Prop
 | .nn=>fun _ S _ K=>K none S
 | .ss e=>fun δ S Y K=>den G e δ S Y fun d S1=>∃ i,d=.int i∧K (some i) S1
def a02 (G:Gm):RI→RdI
 | .lst e=>fun δ S Y K=>den G e δ S Y fun d S1=>∃ ds,vw S1 d=.lst ds∧K ds (fun S'=>vw S' d=.lst ds) S1
 | .tup e=>fun δ S Y K=>den G e δ S Y fun d S1=>∃ ds,vw S1 d=.tup ds∧K ds (fun S'=>True) S1
 | .rng1 a=>fun δ S Y K=>den G a δ S Y fun d S1=>∃ j,d=.int j∧-(2 ^ 62)≤j∧j < 2 ^ 62∧K (a7L 0 j.toNat) (fun _=>True) S1
 | .rng2 a b=>fun δ S Y K=>den G a δ S Y fun d S1=>den G b δ S1 Y fun d2 S2=>∃ i j,d=.int i∧d2=.int j∧(-(2 ^ 62)≤i∧i < 2 ^ 62∧-(2 ^ 62)≤j∧j < 2 ^ 62)∧K (a7L i (j - i).toNat) (fun _=>True) S2
 | .str e=>fun δ S Y K=>den G e δ S Y fun d S1=>∃ z,d=.str z∧K (a1n z) (fun _=>True) S1
 | .keys e=>fun δ S Y K=>den G e δ S Y fun d S1=>∃ a kvs,d=.obj a∧S1 a=some (.loc kvs)∧K (kvs.map fun kv=>keyV kv.1) (fun _=>True) S1
 | .enumt e=>fun δ S Y K=>den G e δ S Y fun d S1=>∃ ds,d=.tup ds∧K (a2b ds) (fun _=>True) S1
 | .zip t1 t2 a b=>fun δ S Y K=>den G a δ S Y fun d S1=>den G b δ S1 Y fun d2 S2=>∃ xs ys,d=sqv t1 xs∧d2=sqv t2 ys∧K (a2B xs ys) (fun _=>True) S2
 | .enum e=>fun δ S Y K=>den G e δ S Y fun d S1=>∃ ds,vw S1 d=.lst ds∧K (a2b ds) (fun S'=>vw S' d=.lst ds) S1
 | .items e=>fun δ S Y K=>den G e δ S Y fun d S1=>∃ a kvs,d=.obj a∧S1 a=some (.loc kvs)∧K (kvs.map fun kv=>.tup [keyV kv.1,kv.2]) (fun _=>True) S1
end
def nmB (l:List Str) (i:Nat) (x:Str):Bool:=decide (l[i]?=some x) && decide ((x == ("__debug__" : Str))=false∧(x == ("__classdict__" : Str))=false)
def enB (l:List En) (i:Nat) (e:En):Bool:=decide (l[i]?=some e)
def fnB (l:List En) (i:Nat) (x:Str):Bool:=enB l i (.fn x) && decide ((x == ("__debug__" : Str))=false)
theorem a9V {l:List En} {i:Nat} {x:Str} (h:fnB l i x=true):l[i]?=some (.fn x)∧(x == ("__debug__" : Str))=false:=by
 unfold fnB enB at h
 rw [zak,zah,zah] at h
 exact h
def a5k:List Str:=["len", "abs", "max", "min", "range", "isinstance", "repr", "list", "tuple", "dict", "sorted", "sum", "enumerate", "zip", "reversed", "str", "int", "bool", "set", "ValueError", "any", "all"]
def b2D (sc:Scope) (x:Str):Bool:=match sc.names.lookup x with
 | some .local=>true | some .cell=>true | some .free=>true | _=>false
def a9g (sc:Scope) (x:Str):Bool:=match sc.names.lookup x with
 | some .local=>true | some .cell=>true | _=>false
def glB (sc:Scope) (x:Str):Bool:=match sc.names.lookup x with
 | some .globalImplicit=>true | _=>false
theorem a0M {l:List Str} {i:Nat} {x:Str} (h:nmB l i x=true):l[i]?=some x∧(x == ("__debug__" : Str))=false∧(x == ("__classdict__" : Str))=false:=by
 unfold nmB at h
 rw [zak,zah,zah] at h
 exact h
theorem a7U {sc:Scope} {x:Str} (h:b2D sc x=true):Vis sc x:=by
 unfold b2D at h
 split at h <;> first | exact .inl (by assumption) | exact .inr (.inl (by assumption)) | exact .inr (.inr (by assumption)) | cases h
theorem b0i {sc:Scope} {x:Str} (h:a9g sc x=true):Loc sc x:=by
 unfold a9g at h
 split at h <;> first | exact .inl (by assumption) | exact .inr (by assumption) | cases h
theorem a9X {sc:Scope} {x:Str} (h:glB sc x=true):sc.names.lookup x=some .globalImplicit:=by
 unfold glB at h
 split at h <;> first | assumption | cases h
def a0A:Expr→Bool
 | .Starred _ _=>false | _=>true
def a9h:Expr→Bool
 | .Call (.Name x _) [] [] _=>decide (x≠("super" : Str)) | _=>true
def a3d:Expr→Bool
 | .Slice _ _ _ _=>false | _=>true
def a2A:Expr→Bool
 | .Set _ _ _=>false | _=>true
def plainT:Expr→Bool
 | .UnaryOp .Not _ _=>false | .BoolOp _ _ _=>false | .IfExp _ _ _ _=>false | .Compare _ _ _ _=>false | _=>true
theorem a0m {e:Expr} {es:List Expr} {env:Env} (h:a0A e=true):starEach (e :: es) env=(false,eval e env) :: starEach es env:=by
 cases e <;> first | rfl | cases h
theorem a6N {e:Expr} (h:a3d e=true) (o i:Value):subscripted e false o i=operate [o,i] (getItem o i):=by
 cases e <;> first | rfl | cases h
theorem a2r {e:Expr} (h:a2A e=true) (op:CmpOp):behindInMarks op e=false:=by
 cases e <;> first | rfl | cases h
theorem plainT_ok {e:Expr} {env:Env} (h:plainT e=true) (whole:Sem Value):isTrue e env whole=(do let v ← whole;standAt e.pos;holding [v] (truthy v)):=by
 cases e <;> first | rfl | (cases h;done) | (rename_i op _ _;cases op <;> first | rfl | cases h)
theorem a3X {e:Expr} {env:Env} (h:a2A e=true) (x:Value):foldedSetIterable e env x=pure x:=by
 cases e <;> first | rfl | cases h
theorem a3z {e:Expr} {f:Str} {env:Env} {whole:Sem Value} (h:a9h e=true):attributeBase e f env whole=whole:=by
 unfold attributeBase
 split
 ·rename_i id _ _
  have q:(id != ("super" : Str))=true:=by
   have h':decide (id≠("super" : Str))=true:=h
   simpa using h'
  rw [q]
  simp
 ·rfl
theorem a09:∀ {es:List Expr} {env:Env} {pos:Pos},es.all a0A=true→(backTo pos (starEach es env)).any (·.1)=false
 | [],_,_,_=>rfl
 | e :: es,env,pos,h=>by
  rw [List.all_cons,zak] at h
  rw [a0m h.1]
  have q:=a09 (env:=env) (pos:=pos) h.2
  simpa [backTo] using q
def a9I (n:SN) (sc:Scope):List Nat→List Expr→Bool
 | [],xs=>xs.isEmpty
 | i :: is,xs=>match xs with
  | .Name y _ :: xs=>nmB n.N i y && a9g sc y && a9I n sc is xs
  | _=>false
def a1c (n:SN) (sc:Scope) (tg:List Nat) (one:Bool) (x:Expr):Bool :=
 if one=true then (match tg,x with
  | [i],.Name y _=>nmB n.N i y && a9g sc y
  | _,_=>false)
 else (match x with
  | .Tuple xs _ _=>a9I n sc tg xs
  | _=>false)
def mtB (l:List En) (j:Nat) (m:Str):Bool:=match l[j]? with
 | some (.mt _ m')=>decide (m'=m)
 | _=>false
theorem b7l {l:List En} {j:Nat} {m:Str} (h:mtB l j m=true):∃ C,l[j]?=some (.mt C m):=by
 unfold mtB at h
 split at h
 ·rename_i C m' e
  cases of_decide_eq_true h
  exact ⟨C,e⟩
 ·cases h
mutual
def chk (n:SN) (sc:Scope):RE→Expr→Bool
 | .var i,x=>match x with
  | .Name y _=>nmB n.N i y && b2D sc y
  | _=>false
 | .con c,x=>match c,x with
  | .non,.Constant .none _ _=>true
  | .bl b,.Constant (.bool b') _ _=>b == b'
  | .int i,.Constant (.int i') _ _=>decide (i=i')
  | .str s,.Constant (.str s') _ _=>decide (s=s')
  | _,_=>false
 | .glb j,x=>match x with
  | .Name y _=>nmB n.gvs j y && glB sc y
  | _=>false
 | .bin op a b,x=>match x with
  | .BinOp l o r _=>decide (o=op) && (chk n sc a l && chk n sc b r)
  | _=>false
 | .neg a,x=>match x with
  | .UnaryOp .USub l _=>chk n sc a l
  | _=>false
 | .nt a,x=>match x with
  | .UnaryOp .Not l _=>chk n sc a l
  | _=>false
 | .and es,x=>match x with
  | .BoolOp .And xs _=>a7a n sc es xs
  | _=>false
 | .or es,x=>match x with
  | .BoolOp .Or xs _=>a7a n sc es xs
  | _=>false
 | .ife c a b,x=>match x with
  | .IfExp t l r _=>chk n sc c t && (chk n sc a l && chk n sc b r)
  | _=>false
 | .cmp op a b,x=>match x with
  | .Compare l [o] [r] _=>decide (o=op) && a2A r && (chk n sc a l && chk n sc b r)
  | _=>false
 | .chn o1 o2 a b c,x=>match x with
  | .Compare l [o,o'] [r,t] _=>decide (o=o1) && decide (o'=o2) && a2A t && (chk n sc a l && (chk n sc b r && chk n sc c t))
  | _=>false
 | .lst _ es,x=>match x with
  | .List xs _=>a7a n sc es xs
  | _=>false
 | .tup es,x=>match x with
  | .Tuple xs _ _=>a7a n sc es xs
  | _=>false
 | .ix a b,x=>match x with
  | .Subscript l r _=>a3d r && (chk n sc a l && chk n sc b r)
  | _=>false
 | .slc a lo hi,x=>match x with
  | .Subscript l (.Slice p q none _) _=>chk n sc a l && (b3K n sc lo p && b3K n sc hi q)
  | _=>false
 | .sl a lo hi,x=>match x with
  | .Subscript l (.Slice p q none _) _=>chk n sc a l && (b3K n sc lo p && b3K n sc hi q)
  | _=>false
 | .fld a f,x=>match x with
  | .Attribute l f' _=>decide (f'=f) && a9h l && chk n sc a l
  | _=>false
 | .call j es,x=>match x with
  | .Call (.Name y _) xs [] _=>fnB n.fns j y && glB sc y && a7a n sc es xs
  | _=>false
 | .mth b a es,x=>match x with
  | .Call (.Attribute l m ap) xs [] p=>decide (m=b.nm) && a9h l && (ap.endLine == p.line) && decide (xs.length < 30) && chk n sc a l && a7a n sc es xs
  | _=>false
 | .om j m a es,x=>match x with
  | .Call (.Attribute l m' ap) xs [] p=>decide (m'=m) && a9h l && (ap.endLine == p.line) && decide (xs.length < 30) && mtB n.fns j m && chk n sc a l && a7a n sc es xs
  | _=>false
 | .mk j es,x=>match x with
  | .Call (.Name y _) xs [] _=>enB n.fns j (.mt y "__init__") && decide ((y == ("__debug__" : Str))=false) && glB sc y && a7a n sc es xs
  | _=>false
 | .lck e,x=>chk n sc e x
 | .fz e,x=>chk n sc e x
 | .fzt _ e,x=>chk n sc e x
 | .ofs srt a,x=>match x with
  | .Call (.Name y _) [.Call (.Name z _) [l] [] _] [] _=>decide (y=b7s srt) && glB sc y && decide (z=("set" : Str)) && glB sc z && a0A l && chk n sc a l
  | _=>false
 | .ofi a,x=>match x with
  | .Call (.Name y _) [.Call (.Name z _) [l] [] _] [] _=>decide (y=("sorted" : Str)) && glB sc y && decide (z=("set" : Str)) && glB sc z && a0A l && chk n sc a l
  | _=>false
 | .vls _ a,x=>match x with
  | .Call (.Name y _) [.Call (.Attribute l m ap) [] [] p] [] _=>decide (y=("list" : Str)) && glB sc y && decide (m=("values" : Str)) && a9h l && (ap.endLine == p.line) && chk n sc a l
  | _=>false
 | .rev _ a,x=>match x with
  | .Subscript l (.Slice none none (some (.UnaryOp .USub (.Constant (.int 1) _ _) _)) _) _=>chk n sc a l
  | _=>false
 | .sl2 k a,x=>match x with
  | .Subscript l (.Slice lo none (some (.Constant (.int 2) _ _)) _) _=>loE k lo && chk n sc a l
  | _=>false
 | .kin neg j a,x=>match x with
  | .Compare l [o] [.Name y _] _=>decide (o=(if neg=true then CmpOp.NotIn else CmpOp.In)) && nmB n.gvs j y && glB sc y && chk n sc a l
  | _=>false
 | .adc a b,x=>match x with
  | .BinOp l o r _=>decide (o=Operator.Add) && (chk n sc a l && chk n sc b r)
  | _=>false
 | .kix j a,x=>match x with
  | .Subscript (.Name y _) r _=>nmB n.gvs j y && glB sc y && a3d r && chk n sc a r
  | _=>false
 | .dct _ ps,x=>match x with
  | .Dict ks vs _=>decide (ks.length≤15) && b6g n sc ps ks vs
  | _=>false
 | .nev,_=>true
 | .bi b es,x=>match x with
  | .Call (.Name y _) xs [] _=>decide (y=b.nm) && glB sc y && !xs.isEmpty && a7a n sc es xs
  | _=>false
 | .isi a c,x=>match x with
  | .Call (.Name y _) [l,.Name z _] [] _=>decide (y=("isinstance" : Str)) && glB sc y && glB sc z && a0A l && chk n sc a l && (match c with
   | .ty t=>decide (bootBuiltins z=some (.type t)) && decide (z≠("__name__" : Str)) && decide ((z == ("__debug__" : Str))=false) && decide (z∈a5k)
   | .own j=>nmB n.cls j z)
  | _=>false
 | .lc _ elt tg one it c own,x=>match x with
  | .ListComp xe [⟨xt,xi,ifs,0⟩] scope _=>blkC n.N sc scope own && a2A xi && a7n n sc it xi && (tg.all fun i=>decide (i∈own.map (·.2))) && a1c n scope tg one xt && b6f n scope c ifs && chk n scope elt xe && (!it.two || !one)
  | _=>false
def b6g (n:SN) (sc:Scope):RQ→List (Option Expr)→List Expr→Bool
 | .nil,ks,vs=>ks.isEmpty && vs.isEmpty
 | .cons k v r,ks,vs=>match ks,vs with
  | some x :: ks,y :: vs=>chk n sc k x && chk n sc v y && b6g n sc r ks vs
  | _,_=>false
def a7a (n:SN) (sc:Scope):RL→List Expr→Bool
 | .nil,xs=>xs.isEmpty
 | .cons e es,xs=>match xs with
  | x :: xs=>a0A x && (chk n sc e x && a7a n sc es xs)
  | []=>false
def b3K (n:SN) (sc:Scope):RO→Option Expr→Bool
 | .nn,x=>x.isNone
 | .ss e,x=>match x with
  | some x=>chk n sc e x
  | none=>false
def b6f (n:SN) (sc:Scope):RO→List Expr→Bool
 | .nn,x=>x.isEmpty
 | .ss e,x=>match x with
  | [x]=>chk n sc e x
  | _=>false
def a7n (n:SN) (sc:Scope):RI→Expr→Bool
 | .lst e,x=>chk n sc e x
 | .tup e,x=>chk n sc e x
 | .rng1 a,x=>match x with
  | .Call (.Name y _) [l] [] _=>decide (y=("range" : Str)) && glB sc y && a0A l && chk n sc a l
  | _=>false
 | .rng2 a b,x=>match x with
  | .Call (.Name y _) [l,r] [] _=>decide (y=("range" : Str)) && glB sc y && a0A l && a0A r && (chk n sc a l && chk n sc b r)
  | _=>false
 | .str e,x=>chk n sc e x
 | .keys e,x=>chk n sc e x
 | .zip _ _ a b,x=>match x with
  | .Call (.Name y _) [l,r] [] _=>decide (y=("zip" : Str)) && glB sc y && a0A l && a0A r && (chk n sc a l && chk n sc b r)
  | _=>false
 | .enumt e,x=>match x with
  | .Call (.Name y _) [l] [] _=>decide (y=("enumerate" : Str)) && glB sc y && a0A l && chk n sc e l
  | _=>false
 | .enum e,x=>match x with
  | .Call (.Name y _) [l] [] _=>decide (y=("enumerate" : Str)) && glB sc y && a0A l && chk n sc e l
  | _=>false
 | .items e,x=>match x with
  | .Call (.Attribute l m ap) [] [] p=>decide (m=("items" : Str)) && a9h l && (ap.endLine == p.line) && chk n sc e l
  | _=>false
end
end Sv
namespace PySem.W
open PySem PySem.Spec PySem.Calls PyProof.Rows
section
variable {prog:Program} {w:World} {A:Around} {E:Value→Shared→Prop} {s:Shared} {K:Frag} {x D:Addr} {ox:Obj} {od:Option Obj}
theorem a9T (hd:hasDictIn K D=true) (ha:findIn K (.ref D) "__class__" = some (some (.builtin "object.__class__"))) (gt:specialIn K (.builtin "object.__class__") "__get__" = some (some (.builtin "getset_descriptor.__get__"))) (tk:takesIn K (.builtin "object.__class__")=some true) :
  findObj K D od "__class__" = some (.bind (.builtin "getset_descriptor.__get__") (.builtin "object.__class__")):=by
 have known:(clsIn K D).isSome=true:=by
  have ⟨_,e,_⟩:=any_some hd
  simp [e]
 match od with
 | none=>exact findObj_dataN known ha gt tk
 | some _=>exact findObj_data known ha gt tk
theorem a9S (own:findIn K (.ref D) "__getattribute__" = some (some (.builtin "BaseException.__getattribute__"))) (noHook:findIn K (.ref D) "__getattr__" = some none) (err:subIn K (.ref D) (.type "BaseException")=some true) (obj:mroIn K D (.type "object")=some true)
  (fnd:findObj K D od "__class__" = some (.bind (.builtin "getset_descriptor.__get__") (.builtin "object.__class__"))) (inK:K.In s.heap) (I:InstAt s.heap x ox D od) {Q:Option Value→Shared→Prop} (want:Q (some (.ref D)) { s with toks:=s.toks + 1 }):wpAny (model prog w) A (getAttr? (.ref x) "__class__") Q E s:=by
 rcases s with ⟨hp,gs,dr,tk,os⟩
 have ty {M:Model}:=I.type (M:=M)
 have own' {M:Model}:=looks_findIn (M:=M) inK own
 have hook' {M:Model}:=looks_findIn (M:=M) inK noHook
 have fnd' {M:Model}:=looks_find (M:=M) inK I fnd
 have isErr {M:Model}:Looks M hp (isInstance (.ref x) (.type "BaseException")) true:=ty.andThen (looks_subIn inK err)
 simp only [getAttr?,getAttrBy?,getAttrBy,getAttrByItsOwn,hookBefore,callGetattribute,boundAndCalled]
 repeat (first | with_reducible refine ty.at ?_ | with_reducible refine own'.at ?_ | with_reducible refine hook'.at ?_ | wp_step)
 refine wpAny_of_eq (PySem.F.excAttr_ValueError.ga.bind (.ref x)) ?_
 apply wpAny_call
 refine codeAny_call_builtin PySem.F.excAttr_ValueError.ga.plain PySem.F.entry_bexc_ga ?_
 have kind:builtinKind "BaseException.__getattribute__" = some .slot:=by decide +kernel
 have split:splitId "BaseException.__getattribute__" = some ("BaseException", "__getattribute__"):=by decide +kernel
 refine check_slot (i := "BaseException.__getattribute__") (self:=.ref x) (rest:=[.str "__class__" tk]) (kw:=[]) kind split isErr (PySem.F.args_bexc_ga _ _) ?_
 unfold Builtin.«object.__getattribute__»
 refine wpAny_bind (wpAny_of_eq (a:=((Value.ref x:Value),[Value.str "__class__" tk])) (by first | rfl | (simp only [slotArgs];rfl)) ?_)
 dsimp only
 repeat (first | with_reducible refine ty.at ?_ | with_reducible refine fnd'.at ?_ | wp_step)
 refine class_get (s:=⟨hp,gs,dr,tk + 1,os⟩) inK I obj (wpAny_pure ?_)
 dsimp only
 rw [handedOut_of (v:=.ref D) rfl]
 exact wpAny_pure (wpAny_pure want)
theorem err_kit (f:L2.ExcC K D):KitX K (.ref x) (.ref D) fun h=>InstAt h x ox D od where
 ty _ _ _ I:=I.type
 ca inK I want:=a9S f.hg f.hk f.hs f.hm (a9T f.hd f.ha f.hn f.ht) inK I want
 it:=by
  intro M h inK _
  have ⟨_,known,_⟩:=any_some f.hd
  revert known
  unfold clsIn
  split
  ·rename_i at_D
   intro _ A Q E t k q
   unfold isType loadHead
   exact wpAny_bind (wpAny_loadPart (k _ _ (inK _ _ at_D)) (wpAny_pure q))
  ·exact nofun
 ne:=by
  intro h tp dd its n sl inK at_tp
  have ⟨_,known,_⟩:=any_some f.hd
  cases same:(Value.ref D == Value.ref tp) with
  | false=>rfl
  | true =>
   cases beq_iff_eq.mp same
   revert known
   unfold clsIn
   split
   ·rename_i at_D
    cases (inK _ _ at_D).symm.trans at_tp
   ·exact nofun
end
end PySem.W
namespace Sv
open PySem PySem.Spec PyProof.Rows L2
open L2H (RoomH)
structure ExcAt (X:Cx) (H:Hp) (a C:Addr) (oe:Obj) (d:Option Addr):Prop where
 pin:(a,oe)∈X.pn
 z:Zc (.ref C) d oe
 f:∃ vs,oe.data=.fields vs
 d:d=none∨∃ dd ws,d=some dd∧H dd=some (.xd ws)
section
variable {X:Cx} {pins:List (Addr × Obj)} {σ:L2.St} {H:Hp} {s:Shared}
theorem a3V (I:Inv X pins σ H s) {d:Addr} {ws:List (Str × V)} (at_d:H d=some (.xd ws)):∃ od,s.heap.get? d=some od∧∀ (f:Str) (w:V),ws.lookup f=some w→∃ u,PySem.W.lookIn f od=some (some u)∧RelV w u:=by
 have laid:ObjOk X.prog X.w H s.heap d (.xd ws):=I.hok d _ at_d
 have ⟨keeps,named,alike⟩:=laid
 have ⟨od,there,tells⟩:=lookIn_ns named
 refine ⟨od,there,fun f w is=>?_⟩
 have like:=alike f
 rw [is] at like
 have told:=tells f
 cases found:keeps f with
 | none=>rw [found] at like;exact like.elim
 | some u=>rw [found] at like told;exact ⟨u,told,like⟩
theorem a2n {a C:Addr} {oe:Obj} {d:Option Addr} {od:Option Obj} (dict:match d,od with | some p,some o=>s.heap.get? p=some o | none,none=>True | _,_=>False)
  (zc:Zc (.ref C) d oe) (fields:∃ vs,oe.data=.fields vs) (here:s.heap.get? a=some oe):PySem.W.InstAt s.heap a oe C od where
 at_:=here
 cls:=zc.1
 no:=by
  have ⟨_,e⟩:=fields
  simp only [PySem.W.notCls,e]
 dict:=by rw [zc.2];exact dict
theorem ExcAt.inst {a C:Addr} {oe:Obj} {d:Option Addr} (x:ExcAt X H a C oe d) (I:Inv X pins σ H s):∃ od,PySem.W.InstAt s.heap a oe C od:=by
 have here:=(I.pin (a,oe) (zar _ x.pin)).1
 rcases x.d with rfl | ⟨p,ws,rfl,at_p⟩
 ·exact ⟨none,a2n trivial x.z x.f here⟩
 ·have ⟨od,there,_⟩:=a3V I at_p
  exact ⟨some od,a2n there x.z x.f here⟩
end
theorem a9Z {X:Cx} {pins:List (Addr × Obj)} {σ:L2.St} {H:Hp} {s:Shared} {a C:Addr} {d:Option Addr} {bare:Bool} (I:Inv X pins σ H s) (x:b3n H a C d bare) (dict:d=none∨∃ dd ws,d=some dd∧H dd=some (.xd ws)) :
  ∃ oe od,PySem.W.InstAt s.heap a oe C od:=by
 obtain ⟨φ,at_a,says⟩:=x
 have laid:ObjOk X.prog X.w H s.heap a (.ext φ):=I.hok a _ at_a
 obtain ⟨oe,here,zc,vs,fields,_⟩:=says _ laid.1
 rcases dict with rfl | ⟨p,ws,rfl,at_p⟩
 ·exact ⟨oe,none,a2n trivial zc ⟨vs,fields⟩ here⟩
 ·have ⟨od,there,_⟩:=a3V I at_p
  exact ⟨oe,some od,a2n there zc ⟨vs,fields⟩ here⟩
inductive TyP (X:Cx) (H:Hp):V→Value→Prop where
 | held {a C:Addr} {d:Option Addr} {bare:Bool} (h:b3n H a C d bare) (dict:d=none∨∃ dd ws,d=some dd∧H dd=some (.xd ws)) (c:ExcC X.K C):TyP X H (.ref a) (.ref C)
 | base {v:V} {t:Value} (h:TyX X.K H v t):TyP X H v t
 | exc {a C:Addr} {oe:Obj} {d:Option Addr} (h:ExcAt X H a C oe d) (c:ExcC X.K C):TyP X H (.ref a) (.ref C)
def c6u (X:Cx):List V→Hp→VK→Prop:=fun xs H Q=>∃ (x c:V) (t u:Value) (b:Bool),xs=[x,c]∧ClsV c u∧TyP X H x t∧PySem.W.kitOne X.K t u=some b∧Q (.bl b) H
theorem b1v {X:Cx}:CallR X (.builtin "isinstance") (c6u X):=by
 rintro pins s σ H _ us Q I given ⟨_,_,_,_,b,rfl,names,kind,asks,want⟩
 cases kind with
 | base plain=>exact call_isi _ _ _ _ _ _ _ I given ⟨_,_,_,_,b,rfl,names,plain,asks,want⟩
 | held at_a dict cls =>
  obtain ⟨_,rfl,one⟩:∃ u,us=[.ref _,u]∧RelV _ u:=by
   cases given with
   | cons one rest =>
    cases rest with
    | cons two none_left =>
     cases none_left
     cases one
     exact ⟨_,rfl,two⟩
  cases names.eq one
  have ⟨_,_,J⟩:=a9Z I at_a dict
  exact PySem.W.kia_one (PySem.W.err_kit cls) I.kIn J asks nofun fun t=>⟨.bl b,_,I.tok t,rfl,want⟩
 | exc at_a cls =>
  cases given with
  | cons one rest =>
   cases rest with
   | cons two none_left =>
    cases none_left
    cases one
    cases names.eq two
    have ⟨_,J⟩:=at_a.inst I
    exact PySem.W.kia_one (PySem.W.err_kit cls) I.kIn J asks nofun fun t=>⟨.bl b,_,I.tok t,rfl,want⟩
def b3o (X:Cx) (m0:Option (Addr × Obj)):Prop:=∀ p,m0=some p→p∈X.pn
theorem a1p.p {X:Cx} {m0:Option (Addr × Obj)} (h:a1p X m0):b3o X m0:=fun p e=>by
 subst e
 exact h.2.2
section
variable {X:Cx} {G:Gm} {S:SS} {H:Hp}
theorem b8H (hK:G.K=X.K) (hm:b3o X G.m0) (hc:CellsOk G.toGd S H) {d:D} {v:V} {t:Value} (r:Rep G.toGd S H d v) (e:tyD S d=some t) (ok:a7d G S d):TyP X H v t:=by
 cases d with
 | non=>simp only [Rep] at r;subst r;cases e;exact .base (.base .non)
 | bl _=>simp only [Rep] at r;subst r;cases e;exact .base (.base (.bl _))
 | int _=>simp only [Rep] at r;subst r;cases e;exact .base (.base (.int _))
 | str _=>simp only [Rep] at r;subst r;cases e;exact .base (.base (.str _))
 | lst ds =>
  simp only [Rep] at r
  obtain ⟨p,vs,rfl,a,b⟩:=r
  cases e
  rcases a.sq with (a | ⟨o,a⟩) | ⟨o,its,n,a,c,_⟩
  ·exact .base (.base (.lst a))
  ·exact .base (.base (.frz a))
  ·rw [hK] at a
   exact .base (.kList a c)
 | tup ds =>
  simp only [Rep] at r
  obtain ⟨p,vs,rfl,a,b⟩:=r
  cases e
  rcases a.sq with (a | ⟨o,a⟩) | ⟨o,its,n,a,c,_⟩
  ·exact .base (.base (.tup a))
  ·exact .base (.fTuple a)
  ·rw [hK] at a
   exact .base (.kTuple a c)
 | dic ds =>
  simp only [Rep] at r
  obtain ⟨p,vs,rfl,_,a,b⟩:=r
  cases e
  exact .base (.base (.dK a))
 | obj a =>
  simp only [Rep] at r
  subst r
  have e':(match S a with | some (.lst _)=>some (Value.type "list") | some (.dic _)=>some (.type "dict") | some (.loc _)=>some (.type "dict") | some (.ins C _)=>some (.ref C) | none=>none)=some t:=e
  cases q:S a with
  | none=>rw [q] at e';cases e'
  | some c =>
   rw [q] at e'
   have k:=hc a c q
   cases c with
   | lst _=>cases e';obtain ⟨_,h,_⟩:=k;exact .base (.base (.lst h))
   | dic _=>cases e';obtain ⟨_,h,_⟩:=k;exact .base (.base (.dK h))
   | loc _=>cases e';obtain ⟨_,_,h,_⟩:=k;exact .base (.fDict h)
   | ins C fs =>
    cases e'
    obtain ⟨dx,ws,h,_⟩:=k
    have F:=ok C fs q
    rw [hK] at F
    exact .base (.base (.ins h F.cl F.ha F.hn F.htk F.hm))
 | exc y oe C fs =>
  simp only [Rep] at r
  obtain ⟨d,rfl,⟨z,f⟩,x⟩:=r
  cases e
  have F:=ok.2
  rw [hK] at F
  refine .exc (oe:=oe) (d:=d) ⟨hm _ ok.1,z,f,?_⟩ F
  rcases x with ⟨x,_⟩ | ⟨dd,ws,x,_,y,_⟩
  ·exact .inl x
  ·exact .inr ⟨dd,ws,x,y⟩
 | err y C fs bare =>
  simp only [Rep] at r
  obtain ⟨d,rfl,_,held,x⟩:=r
  cases e
  have F:b09 G.K C:=ok
  rw [hK] at F
  refine .held held ?_ F
  rcases x with ⟨x,_⟩ | ⟨dd,ws,x,_,y,_⟩
  ·exact .inl x
  ·exact .inr ⟨dd,ws,x,y⟩
theorem a5Z {g:Gd} {fs:List (Str × D)}:∀ {ws:List (Str × V)},a2x g S H fs ws→∀ {f:Str} {d:D},fs.lookup f=some d→∃ v,ws.lookup f=some v∧Rep g S H d v:=by
 induction fs with
 | nil=>intro ws _ f d e;cases e
 | cons p fs ih =>
  intro ws r f d e
  obtain ⟨k,x⟩:=p
  simp only [a2x] at r
  obtain ⟨v,q,rfl,a,b⟩:=r
  rw [List.lookup_cons] at e ⊢
  cases h:f == k with
  | true=>rw [h] at e;cases e;exact ⟨v,rfl,a⟩
  | false=>rw [h] at e;exact ih b e
theorem b0I {g:Gd} {fs:List (Str × D)}:∀ {ws:List (Str × V)},a2x g S H fs ws→∀ {f:Str},fs.lookup f=none→ws.lookup f=none:=by
 induction fs with
 | nil=>intro ws r f _;simp only [a2x] at r;subst r;rfl
 | cons p fs ih =>
  intro ws r f e
  obtain ⟨k,x⟩:=p
  simp only [a2x] at r
  obtain ⟨v,q,rfl,a,b⟩:=r
  rw [List.lookup_cons] at e ⊢
  cases h:f == k with
  | true=>rw [h] at e;cases e
  | false=>rw [h] at e;exact ih b e
theorem b4Y {W:WX} {e:Expr} {f:Str} {pos:Pos} {t:RdE} (hK:G.K=X.K) (hm:b3o X G.m0) (he:PE X e (LE G.toGd W t)) (hb:attributeBase e f X.env (eval e X.env)=eval e X.env) :
  PE X (.Attribute e f pos) (LE G.toGd W fun δ S Y K=>t δ S Y fun x S1=>a9U G f x S1 K):=by
 refine ⟨fun pins s σ H Q I h=>?_⟩
 obtain ⟨δ,S,Y,K,R,ht,res,rw'⟩:=h
 refine attr_of hb (thn (he.run pins s σ H (fun v H1=>∃ d S1,a9U G f d S1 K∧a0h S H S1 H1∧CellsOk G.toGd S1 H1∧Rep G.toGd S1 H1 d v) I ⟨δ,S,Y,_,R,ht,fun d S1 v H1 k P c r=>⟨d,S1,k,P,c,r⟩,rw'⟩) fun u s1 hh=>?_)
 obtain ⟨v,H1,I1,rv,d,S1,k,P,c,r⟩:=hh
 unfold a9U at k
 split at k
 ·rename_i a
  cases a0z r
  cases rv
  obtain ⟨C,fs,x,e1,cl,na,l,q⟩:=k
  obtain ⟨dx,ws,ha,hf⟩:=c _ _ e1
  obtain ⟨w,lw,rw2⟩:=a5Z hf l
  rw [hK] at cl na
  exact getattr_ok I1 ha cl na lw fun u s' I' ru=>⟨w,H1,I',ru,res _ S1 _ _ q P c rw2⟩
 ·rename_i y oe C fs
  obtain ⟨mine,cls,apart,x,has,q⟩:=k
  simp only [Rep] at r
  obtain ⟨d,rfl,⟨zc,fields⟩,bare | ⟨p,ws,hasD,_,at_p,same⟩⟩:=r
  ·rw [bare.2] at has
   exact nomatch has
  ·cases rv
   rw [hK] at cls apart
   have ⟨w,is,like⟩:=a5Z same has
   have ⟨od,there,keeps⟩:=a3V I1 at_p
   have ⟨u,kept,ru⟩:=keeps f w is
   have here:=(I1.pin (y,oe) (zar _ (hm _ mine))).1
   exact HandSPX.exc_get I1.kIn (a2n (by rw [hasD];exact there) zc fields here) cls.hg cls.hk cls.hs (PySem.W.findObj_own cls.hd apart rfl kept) (handed_of ru) ⟨w,H1,I1.tok _,ru,res _ S1 _ _ q P c like⟩
 ·rename_i y C fs bare
  obtain ⟨cls,apart,x,has,q⟩:=k
  simp only [Rep] at r
  obtain ⟨d,rfl,_,⟨φ,at_y,says⟩,none_ | ⟨p,ws,hasD,_,at_p,same⟩⟩:=r
  ·rw [none_.2] at has
   exact nomatch has
  ·cases rv
   rw [hK] at cls apart
   have laid:ObjOk X.prog X.w H1 s1.heap y (.ext φ):=I1.hok y _ at_y
   obtain ⟨oe,here,zc,vs,fields,_⟩:=says _ laid.1
   have ⟨w,is,like⟩:=a5Z same has
   have ⟨od,there,keeps⟩:=a3V I1 at_p
   have ⟨u,kept,ru⟩:=keeps f w is
   exact HandSPX.exc_get I1.kIn (a2n (by rw [hasD];exact there) zc ⟨vs,fields⟩ here) cls.hg cls.hk cls.hs (PySem.W.findObj_own cls.hd apart rfl kept) (handed_of ru) ⟨w,H1,I1.tok _,ru,res _ S1 _ _ q P c like⟩
 ·exact k.elim
end
end Sv
namespace Sv
open PySem PySem.Spec PyProof.Rows L2
open L2H (RoomH)
def b8Q (K:zbj) (w:World) (p:Addr) (kvs:List (Key × D)):Prop:=∃ es n,KDict K w p es n∧∀ z:Str,match valD kvs (.inr z) with
 | some d=>∃ u v,PySem.W.nsIn K p z=some (some u)∧RelV v u∧∀ S H,Rep ⟨K⟩ S H d v
 | none=>PySem.W.nsIn K p z=some none
structure GOk (n:SN) (P:Program) (w:World) (KK:zbj) (mg:Str→Option Value) (base:Heap) (G:Gm) (k:Nat):Prop where
 K:G.K=KK
 nd:n.N.Nodup
 fn:∀ h j T x,G.fn h j=some T→n.fns[j]?=some (.fn x)→∃ f fd ps,mg x=some (.ref f)∧PySem.W.keepIn KK (.ref f)=true∧L2.Binds KK fd ps []∧FnG P w KK mg base h k f fd ps (spD G.toGd T)
 meth:∀ h j T C m,G.fn h j=some T→n.fns[j]?=some (.mt C m)→∃ f fd ps,Cls KK (G.mc j)∧Meth KK (G.mc j) m f∧L2.Binds KK fd ps []∧FnG P w KK mg base h k f fd ps (spD G.toGd T)
 made:∀ j T C,G.fn false j=some T→n.fns[j]?=some (.mt C "__init__")→mg C=some (.ref (G.mc j))∧∃ f fd ps kI,Mk KK (G.mc j) f∧L2.Binds KK fd ps []∧kI + 1≤k∧FnG P w KK mg base false kI f fd ps (spD G.toGd T)
 gv:∀ j x,n.gvs[j]?=some x→∃ v u,mg x=some u∧RelV v u∧∀ S H,Rep G.toGd S H (G.gv j) v
 cl:∀ j x,n.cls[j]?=some x→mg x=some (.ref (G.cl j))
 bt:∀ x,x∈a5k→mg x=none
 kd:∀ j x kvs,n.gvs[j]?=some x→G.kd j=some kvs→∃ p,mg x=some (.ref p)∧b8Q KK w p kvs
structure b3v (X:Cx) (sc:Scope):Prop where
 vis:∀ x,b2D sc x=true→Vis X.env.scope x
 loc:∀ x,a9g sc x=true→Loc X.env.scope x∧(X.fn x=true∨X.env.scope.names.lookup x=some .local)
 gl:∀ x,glB sc x=true→Gl X x
 fr:∀ x,sc.names.lookup x=some .cell∨sc.names.lookup x=some .free→X.env.scope.names.lookup x=some .cell∨X.env.scope.names.lookup x=some .free
structure XC (n:SN) (X:Cx) (G:Gm) (W:WX) (k:Nat) (sc:Scope):Prop where
 ok:GOk n X.prog X.w X.K X.mg X.base G k
 N:X.N=n.N
 sc:b3v X sc
 rm:RoomH k X.A
 md:a1p X G.m0
 tk:L2N.Takes X W
 ps:PassesOwn (model X.prog X.w) X.A X.env X.xe
abbrev noW:WX:=fun _ _ _ _=>False
theorem a5w {env:Env}:∀ {names:List (Str × NameKind)} {x:Str} {k:NameKind},names.lookup x=some k →
  (names.map fun (n,k)=>if (k == NameKind.free && env.scope.kind == .function && env.kindOf n == some .cell) then (n,NameKind.cell) else (n,k)).lookup x=some k ∨
  (k=.free∧(names.map fun (n,k)=>if (k == NameKind.free && env.scope.kind == .function && env.kindOf n == some .cell) then (n,NameKind.cell) else (n,k)).lookup x=some .cell)
 | [],_,_,h=>by simp at h
 | (m,j) :: r,x,k,h=>by
  have ih:=@a5w env r x k
  rw [zax]
  cases hx:x == m with
  | true =>
   rw [List.lookup_cons,hx] at h
   cases h
   by_cases q:(j == NameKind.free && env.scope.kind == .function && env.kindOf m == some .cell)=true
   ·right
    refine ⟨?_,?_⟩
    ·simp only [zak,beq_iff_eq] at q
     cases j <;> first | rfl | (have:=q.1.1;simp at this;done) | (exact absurd q.1.1 (by decide))
    ·simp only [q,if_true];rw [List.lookup_cons,hx]
   ·left
    simp only [q,if_false,Bool.false_eq_true];rw [List.lookup_cons,hx]
  | false =>
   rw [List.lookup_cons,hx] at h
   have e:∀ z:NameKind,List.lookup x ((m,z) :: r.map fun (n,k)=>if (k == NameKind.free && env.scope.kind == .function && env.kindOf n == some .cell) then (n,NameKind.cell) else (n,k)) =
     List.lookup x (r.map fun (n,k)=>if (k == NameKind.free && env.scope.kind == .function && env.kindOf n == some .cell) then (n,NameKind.cell) else (n,k)):=fun z=>by rw [List.lookup_cons,hx]
   dsimp only
   split
   ·rw [e];exact ih h
   ·rw [e];exact ih h
section
variable {n:SN} {X:Cx} {G:Gm} {W:WX} {k:Nat} {sc:Scope}
theorem b3v.self (hf:∀ x,X.fn x=true):b3v X X.env.scope :=
 ⟨fun _ h=>a7U h,fun x h=>⟨b0i h,.inl (hf x)⟩,fun _ h=>a9X h,fun _ h=>h⟩
theorem XC.nd (c:XC n X G W k sc):X.N.Nodup:=c.N ▸ c.ok.nd
theorem XC.un (c:XC n X G W k sc):X.A.units + 65 < cLine:=by have:=c.rm.un;omega
theorem XC.at (c:XC n X G W k sc) {i:Nat} {x:Str} (h:nmB n.N i x=true):X.N[i]?=some x:=c.N ▸ (a0M h).1
theorem b3v.blk {s:Shared} {H:Hp} {scope:Scope} {C:Addr} {cl:List (Str × Addr)} {fp:List Addr}:b3v (X.blk s H scope (compEnvC scope cl C X.env) fp) scope:=by
 have key:∀ {x k},scope.names.lookup x=some k→(X.blk s H scope (compEnvC scope cl C X.env) fp).env.scope.names.lookup x=some k∨(k=.free∧(X.blk s H scope (compEnvC scope cl C X.env) fp).env.scope.names.lookup x=some .cell):=fun {x k} h=>a5w (env:=X.env) h
 refine ⟨fun x h=>?_,fun x h=>?_,fun x h=>?_,fun x h=>?_⟩
 ·rcases a7U h with h | h | h <;> rcases key h with q | ⟨_,q⟩
  ·exact .inl q
  ·exact .inr (.inl q)
  ·exact .inr (.inl q)
  ·exact .inr (.inl q)
  ·exact .inr (.inr q)
  ·exact .inr (.inl q)
 ·rcases b0i h with h | h <;> rcases key h with q | ⟨e,q⟩
  ·exact ⟨.inl q,.inr q⟩
  ·cases e
  ·refine ⟨.inr q,.inl ?_⟩
   show (scope.names.lookup x == some .cell)=true
   rw [h];rfl
  ·cases e
 ·rcases key (a9X h) with q | ⟨e,_⟩
  ·exact q
  ·cases e
 ·rcases h with h | h <;> rcases key h with q | ⟨_,q⟩
  ·exact .inl q
  ·exact .inl q
  ·exact .inr q
  ·exact .inl q
theorem XC.blk (c:XC n X G W k sc) (hm:G.m0=none) {s:Shared} {H:Hp} {scope:Scope} {C:Addr} {cl:List (Str × Addr)} {fp:List Addr}:XC n (X.blk s H scope (compEnvC scope cl C X.env) fp) G noW k scope :=
 ⟨c.ok,c.N,b3v.blk,c.rm,by have:=c.md;rw [hm] at this ⊢;exact this,fun u s' ⟨_,_,_,_,_,_,_,_,_,_,_,_,_,_,_,_,z⟩=>z.elim,PassesOwn.never⟩
theorem XC.vis (c:XC n X G W k sc) {x:Str} (h:b2D sc x=true):Vis X.env.scope x:=c.sc.vis x h
theorem XC.loc (c:XC n X G W k sc) {x:Str} (h:a9g sc x=true):Loc X.env.scope x:=(c.sc.loc x h).1
theorem XC.sto (c:XC n X G W k sc) {x:Str} (h:a9g sc x=true):X.fn x=true∨X.env.scope.names.lookup x=some .local:=(c.sc.loc x h).2
theorem XC.gl (c:XC n X G W k sc) {x:Str} (h:glB sc x=true):Gl X x:=c.sc.gl x h
end
def LG (g:Gd) (t:D→DS→SS→(DS→SS→Prop)→Prop):TG:=fun v σ H Q=>∃ d δ S K,Rel g S H δ σ∧Rep g S H d v∧t d δ S K∧∀ δ' S' σ' H',K δ' S'→a0h S H S' H'→Rel g S' H' δ' σ'→Q σ' H'
section
variable {n:SN} {X:Cx} {G:Gm} {W:WX} {k:Nat} {sc:Scope}
theorem PG.imp {e:Expr} {t t':TG} (h:PG X e t) (w:∀ v σ H Q,t' v σ H Q→t v σ H Q):PG X e t':=⟨fun pins s σ H v u Q I r q=>h.run pins s σ H v u Q I r (w v σ H Q q)⟩
def a6s:List Nat→TGs
 | []=>gNil
 | i :: is=>gCons (gName i) (a6s is)
theorem a4D (c:XC n X G W k sc):∀ (is:List Nat) (xs:List Expr),a9I n sc is xs=true→PGs X xs (a6s is)∧(assignEach xs X.env).length=is.length∧(assignEach xs X.env).findIdx? (·.1)=none
 | [],xs,h=>by
  unfold a9I at h
  cases xs with
  | nil=>exact ⟨pgs_nil,rfl,rfl⟩
  | cons _ _=>cases h
 | i :: is,xs,h=>by
  unfold a9I at h
  split at h
  ·rename_i y p ys
   simp only [zak] at h
   obtain ⟨h1,h2,h3⟩:=a4D c is ys h.2
   refine ⟨pgs_cons (pg_name c.nd (c.at h.1.1) (c.loc h.1.2) (c.sto h.1.2)) h1,?_,?_⟩
   ·show (assignEach (Expr.Name y p :: ys) X.env).length=_
    unfold assignEach
    rw [zaz,zaz,h2]
   ·show (assignEach (Expr.Name y p :: ys) X.env).findIdx? _=none
    unfold assignEach
    rw [List.findIdx?_cons,h3];rfl
  ·cases h
theorem a5y {g:Gd} {S:SS} {H:Hp}:∀ (is:List Nat) (ds:List D) (vs:List V) (δ:DS) (σ:L2.St) (Q:L2.St→Hp→Prop),Rel g S H δ σ→a0i g S H ds vs→ds.length=is.length→(∀ σ',Rel g S H (a4K δ is ds) σ'→Q σ' H)→a6s is vs σ H Q
 | [],ds,vs,δ,σ,Q,R,r,l,h=>by
  cases ds with
  | nil=>simp only [a0i] at r;subst r;exact ⟨rfl,h σ R⟩
  | cons _ _=>cases l
 | i :: is,ds,vs,δ,σ,Q,R,r,l,h=>by
  cases ds with
  | nil=>cases l
  | cons d ds =>
   simp only [a0i] at r
   obtain ⟨v,q,rfl,a,b⟩:=r
   exact ⟨v,q,rfl,a5y is ds q _ _ Q ⟨R.sl.set a,R.ce⟩ b (by simpa using l) h⟩
end
section
variable {g:Gd} {W:WX}
def LE1 (g:Gd) (W:WX) (t:D→RdE) (v:V):TE:=fun σ H Q=>∃ x δ S Y K,Rel g S H δ σ∧Rep g S H x v∧t x δ S Y K∧Res g S H K Q∧a69 g S H Y W
theorem a0D {t1:RdE} {t2:D→RdE} {σ:L2.St} {H:Hp} {Q:VK} (h:LE g W (fun δ S Y K=>t1 δ S Y fun x S1=>t2 x δ S1 Y K) σ H Q):LE g W t1 σ H fun v H1=>LE1 g W t2 v σ H1 Q:=by
 obtain ⟨δ,S,Y,K,R,ht,res,rw'⟩:=h
 exact ⟨δ,S,Y,_,R,ht,fun d S1 v H1 k P c r=>⟨d,δ,S1,Y,K,R.mono P c,r,k,res.mono P,rw'.mono P⟩,rw'⟩
def LE2 (g:Gd) (W:WX) (t:D→D→RdE) (v u:V):TE:=fun σ H Q=>∃ x y δ S Y K,Rel g S H δ σ∧Rep g S H x v∧Rep g S H y u∧t x y δ S Y K∧Res g S H K Q∧a69 g S H Y W
theorem a2q {t1:RdE} {t2:D→D→RdE} {σ:L2.St} {H:Hp} {Q:VK} {v:V} (h:LE1 g W (fun x δ S Y K=>t1 δ S Y fun y S1=>t2 x y δ S1 Y K) v σ H Q):LE g W t1 σ H fun u H1=>LE2 g W t2 v u σ H1 Q:=by
 obtain ⟨x,δ,S,Y,K,R,r0,ht,res,rw'⟩:=h
 exact ⟨δ,S,Y,_,R,ht,fun d S1 u H1 k P c r=>⟨x,d,δ,S1,Y,K,R.mono P c,r0.mono P,r,k,res.mono P,rw'.mono P⟩,rw'⟩
theorem a6C {t:D→D→SS→DK→Prop} {σ:L2.St} {H:Hp} {Q:VK} {v u:V} (h:LE2 g W (fun x y _ S _ K=>t x y S K) v u σ H Q):rD2 g t v u H Q:=by
 obtain ⟨x,y,δ,S,Y,K,R,r1,r2,ht,res,_⟩:=h
 exact ⟨x,y,S,K,R.ce,r1,r2,ht,res⟩
theorem b4C {t:RdE} {σ:L2.St} {H:Hp} {Q:Bool→Hp→Prop} (h:LT g W (fun δ S Y K=>t δ S Y fun d S'=>∃ k,d=.bl k∧K k S') σ H Q):LE g W t σ H fun v H'=>∃ k,v=.bl k∧Q k H':=by
 obtain ⟨δ,S,Y,K,R,ht,res,rw'⟩:=h
 refine ⟨δ,S,Y,_,R,ht,fun d S1 v H1 k P c r=>?_,rw'⟩
 obtain ⟨b,rfl,k⟩:=k
 exact ⟨b,a3f r,res b S1 H1 k P c⟩
theorem b7h {K:zbj} (hK:g.K=K) {t:RdE} {σ:L2.St} {H:Hp} {Q:Bool→Hp→Prop} (h:LT g W (fun δ S Y K=>t δ S Y fun d S'=>a1v d S' fun b=>K b S') σ H Q):LE g W t σ H fun v H'=>∃ k,TruV K v H' k∧Q k H':=by
 obtain ⟨δ,S,Y,K',R,ht,res,rw'⟩:=h
 refine ⟨δ,S,Y,_,R,ht,fun d S1 v H1 k P c r=>?_,rw'⟩
 subst hK
 have X0:∃ k,TruV g.K v H1 k∧K' k S1:=by
  have k:a1v d S1 fun b=>K' b S1:=k
  unfold a1v at k
  split at k
  ·rename_i e;cases b3j r e;exact ⟨false,rfl,k⟩
  ·rename_i b e;cases b8K r e;exact ⟨b,rfl,k⟩
  ·rename_i b e;cases a8G r e;exact ⟨_,rfl,k⟩
  ·rename_i b e;cases a3n r e;exact ⟨_,⟨k.1,rfl⟩,k.2⟩
  ·rename_i ds e
   obtain ⟨p,vs,rfl,hl,hr⟩:=a0r c r e
   exact ⟨_,.inl ⟨vs,hl,rfl⟩,by rw [a1s hr];exact k⟩
  ·rename_i ds e
   obtain ⟨p,vs,rfl,hl,hr⟩:=a0H r e
   exact ⟨_,.inr (.inl ⟨vs,hl,rfl⟩),by rw [a1s hr];exact k⟩
  ·exact k.elim
 obtain ⟨b,tv,k⟩:=X0
 exact ⟨b,tv,res b S1 H1 k P c⟩
end
section
variable {n:SN} {X:Cx} {G:Gm} {W:WX} {k:Nat} {sc:Scope}
theorem a0U {x:Expr} {t:RdE} (h:∀ δ S Y K,¬ t δ S Y K):PE X x (LE G.toGd W t):=⟨fun _ _ _ _ _ _ ⟨_,_,_,_,_,q,_⟩=>(h _ _ _ _ q).elim⟩
theorem a8u {x:Expr} {t:RdT} (h:∀ δ S Y K,¬ t δ S Y K):PT X x (LT G.toGd W t):=⟨fun _ _ _ _ _ _ ⟨_,_,_,_,_,q,_⟩=>(h _ _ _ _ q).elim⟩
theorem a8x {x:Expr} {t:RdT} (h:∀ δ S Y K,¬ t δ S Y K):PW X x (LT G.toGd W t):=⟨fun _ _ _ _ _ _ _ ⟨_,_,_,_,_,q,_⟩=>(h _ _ _ _ q).elim⟩
theorem c1T {x:Expr} {t:RdE} (c:XC n X G W k sc) (h:PE X x (LE G.toGd W t)) (hp:plainT x=true):PT X x (LT G.toGd W fun δ S Y K=>t δ S Y fun d S'=>a1v d S' fun b=>K b S') :=
 PT.imp (pt_truth h fun whole=>plainT_ok hp whole) fun σ H Q q=>b7h c.ok.K q
end
end Sv
namespace Sv
open PySem PySem.Spec PySem.Calls PyProof.Rows L2
section
variable {prog:Program} {w:World} {A:Around} {E:Value→Shared→Prop} {s:Shared}
theorem a8k {h h':Heap} {it l:Addr} {us:Array Value} (a:h.IsList l us) (k:Heap.SameBut it h h') (ne:l≠it):h'.IsList l us:=by
 obtain ⟨o,e,r⟩:=a
 exact ⟨o,k.extBut l o ne e,r⟩
theorem a9P {it l:Addr} {us:Array Value} (ne:l≠it):∀ (k i:Nat) (s:Shared) (Q:List Value→Shared→Prop),s.heap.IsListIter it l i→s.heap.IsList l us→i + k≤us.size →
  (∀ h',h'.IsListIter it l (i + k)→Heap.SameBut it s.heap h'→Q ((us.toList.drop i).take k) { s with heap:=h' })→wpAny (model prog w) A (draw (.ref it) k) Q E s
 | 0,i,s,Q,a,_,_,fin=>by
  have:=fin s.heap a (Heap.SameBut.refl ..)
  rw [List.take_zero] at this
  exact wpAny_pure this
 | k + 1,i,s,Q,a,b,le,fin=>by
  have lt:i < us.size:=by omega
  have at_i:us[i]?=some us[i]:=by simp [lt]
  show wpAny _ _ (pyNext _ >>= _) Q E s
  refine wpAny_bind (wpAny_pyNext_list_item a b at_i fun h1 a1 k1=>?_)
  refine wpAny_bind (wpAny_holding (a9P ne k (i + 1) _ _ a1 (a8k b k1 ne) (by omega) fun h2 a2 k2=>?_))
  refine wpAny_pure ?_
  have r:=fin h2 (by rw [show i + (k + 1)=i + 1 + k by omega];exact a2) (k1.trans k2)
  rw [List.drop_eq_getElem_cons (by rw [Array.length_toList];exact lt),List.take_succ_cons] at r
  exact r
theorem b3E {l:Addr} {us:Array Value} {Q:List Value→Shared→Prop} (calm:A.handled=none) (b:s.heap.IsList l us) (fin:∀ h',Heap.ExtBut s.heap.objs.size s.heap h'→Q us.toList { s with heap:=h' }) :
  wpAny (model prog w) A (unpackItems (.ref l) us.size none) Q E s:=by
 have ne:l≠s.heap.objs.size:=by
  obtain ⟨o,e,_⟩:=b
  exact Nat.ne_of_lt (Heap.lt_size e)
 unfold unpackItems
 refine wpAny_bind ?_
 unfold notIterableAtAll
 refine wpAny_bind (wpAny_specialOf b.typeIs slot_list_iter.lookup ?_)
 refine wpAny_pure ?_
 simp only [Bool.false_eq_true,if_false]
 refine wpAny_bind (wpAny_holding ?_)
 refine wpAny_pyIter_list b ?_
 have bp:(s.heap.push { cls:=.type "list_iterator",data:=.fields #[.ref l,.int 0 0] }).IsList l us:=by
  obtain ⟨o,e,r⟩:=b
  exact ⟨o,Heap.get?_push_of_some _ e,r⟩
 refine wpAny_bind (wpAny_holding ?_)
 refine a9P ne us.size 0 _ _ ⟨_,Heap.get?_push_size _ rfl,rfl,rfl⟩ bp (by omega) fun h1 a1 k1=>?_
 rw [List.drop_zero,List.take_of_length_le (by simp),if_neg (by simp)]
 refine wpAny_bind (wpAny_holding ?_)
 refine wpAny_pyNext_list_end calm a1 (a8k bp k1 ne) (by simp) fun h2 k2=>?_
 simp only [Option.isSome_none,Bool.false_eq_true,if_false]
 exact wpAny_pure (fin h2 fun b o hb e=>k2 b o hb (k1.extBut b o hb (Heap.get?_push_of_some _ e)))
theorem b4F {env:Env} {es:List Expr} {x1} {pos:Pos} {l:Addr} {us:Array Value} {Q:Unit→Shared→Prop} (calm:A.handled=none) (b:s.heap.IsList l us) (len:(assignEach es env).length=us.size) (nostar:(assignEach es env).findIdx? (·.1)=none)
  (fin:∀ h',Heap.ExtBut s.heap.objs.size s.heap h'→wpAny (model prog w) A (assignInOrder ((assignEach es env).map (·.2)) us.toList) Q E { s with heap:=h' }):wpAny (model prog w) A (assign (.Tuple es x1 pos) env (.ref l)) Q E s:=by
 rw [assign_Tuple]
 refine wpAny_bind (wpAny_standAt ?_)
 unfold unpack
 rw [len,nostar]
 exact wpAny_bind (wpAny_holding (b3E calm b fin))
end
section
variable {X:Cx} {pos:Pos}
def gLst (K:zbj) (n:Nat) (t:TGs):TG:=fun v σ H Q=>∃ a xs,v=.ref a∧SqL K H a xs∧xs.length=n∧t xs σ H Q
theorem pg_lst {es:List Expr} {k:Nat} {t:TGs} {n:Nat} (calm:X.calm=true) (h:PGs X es t) (len:(assignEach es X.env).length=n) (nostar:(assignEach es X.env).findIdx? (·.1)=none):PG X (.Tuple es k pos) (gLst X.K n t):=by
 constructor
 rintro pins s σ H v u Q inv rel ⟨a,xs,rfl,seq,lx,told⟩
 cases rel
 obtain ⟨its,vals,at_its,_⟩:=inv.list seq
 refine b4F (inv.ok.hd calm) at_its.isList (by simp [len,← lx,vals.length]) nostar fun h' keep=>?_
 have inv2:Inv X pins σ H { s with heap:=h' }:=inv.kept (t':=s.toks) fun b o e=>keep b o (Nat.ne_of_lt (Heap.lt_size e)) e
 exact h.run pins _ σ H xs _ Q inv2 (by simpa using vals) told
end
section
variable {n:SN} {X:Cx} {G:Gm} {W:WX} {k:Nat} {sc:Scope}
theorem c6t (c:XC n X G W k sc) {tg:List Nat} {x:Expr} (calm:X.calm=true) (h:a1c n sc tg false x=true):PG X x (LG G.toGd fun d δ S K=>∃ ds,vw S d=.lst ds∧ds.length=tg.length∧K (a4K δ tg ds) S):=by
 unfold a1c at h
 rw [if_neg zbe] at h
 split at h
 ·rename_i xs kk p
  obtain ⟨h1,h2,h3⟩:=a4D c _ _ h
  refine PG.imp (pg_lst calm h1 h2 h3) ?_
  rintro v σ H Q ⟨d,δ,S,K,R,r,⟨ds,e,l,hk⟩,q⟩
  obtain ⟨p,vs,rfl,hl,hr⟩:=a0r R.ce r e
  rw [c.ok.K] at hl
  refine ⟨p,vs,rfl,hl,by rw [← hr.length];exact l,?_⟩
  exact a5y tg ds vs δ σ Q R hr l fun σ' R'=>q _ _ _ _ hk (a0h.refl _ _) R'
 ·cases h
end
end Sv
namespace Sv
open PySem PySem.Spec PyProof.Rows L2
open L2H (RoomH)
theorem a4P:∀ {es:List Expr} {env:Env} {pos:Pos},es.all a0A=true→(backTo pos (starEach es env)).all (fun x=>!x.1)=true
 | [],_,_,_=>rfl
 | e :: es,env,pos,h=>by
  rw [List.all_cons,zak] at h
  rw [a0m h.1]
  have q:=a4P (env:=env) (pos:=pos) h.2
  simpa [backTo] using q
theorem a7A {o:Expr} {args:List Expr} {name:Str} {apos pos:Pos} {env:Env} (h1:a9h o=true) (h2:args.all a0A=true) (h3:args.length < 30) (h4:(apos.endLine == pos.line)=true) :
  eval (.Call (.Attribute o name apos) args [] pos) env=(do
   let ov ← eval o env
   standAt apos.atName
   let (f,first) ← holding [ov] (getMethod ov name (do return (← importBound o env).getD true))
   callWith pos f first (backTo pos (starEach args env)) (backToKw pos (keywordEach [] env))):=by
 show (do
  let ov ← attributeBase o name env (eval o env)
  standAt apos.atName
  methodCall o name apos pos env ov (args.length + ([]:List Keyword).length) (backTo pos (starEach args env)) (backToKw pos (keywordEach [] env)))=_
 rw [a3z h1]
 have hform:methodCallForm (args.length + ([]:List Keyword).length) (backTo pos (starEach args env)) (backToKw pos (keywordEach [] env))=true:=by
  unfold methodCallForm
  rw [a4P h2]
  show (true && true && decide (args.length + 0 + (if true=true then 0 else 1) < 30))=true
  simpa using h3
 have hpos:methodCallPos true o env apos pos=pure pos:=by unfold methodCallPos;simp [h4]
 congr 1
 funext ov
 congr 1
 funext _
 unfold methodCall
 rw [hform,hpos]
 unfold calleeOf
 simp
end Sv
namespace Sv
open PySem PySem.Spec PyProof.Rows L2
open L2H (RoomH)
def RL.len:RL→Nat
 | .nil=>0 | .cons _ r=>r.len + 1
structure b3x (n:SN) (sc:Scope) (e:RE) (x:Expr):Prop where
 v:∀ X G W k,XC n X G W k sc→PE X x (LE G.toGd W (den G e))
 t:∀ X G W k,XC n X G W k sc→PT X x (LT G.toGd W (a0u G e))
structure a9f (n:SN) (sc:Scope) (es:RL) (xs:List Expr):Prop where
 a:∀ X G W k,XC n X G W k sc→PA X xs (LA G.toGd W (a0x G es))
 and:∀ X G W k pos,XC n X G W k sc→PE X (.BoolOp .And xs pos) (LE G.toGd W (a04 G es))
 or:∀ X G W k pos,XC n X G W k sc→PE X (.BoolOp .Or xs pos) (LE G.toGd W (a1W G es))
 tand:∀ X G W k pos,XC n X G W k sc→PW X (.BoolOp .And xs pos) (LT G.toGd W (a0R G es))
 tor:∀ X G W k pos,XC n X G W k sc→PW X (.BoolOp .Or xs pos) (LT G.toGd W (a1g G es))
 st:xs.all a0A=true
 nl:xs=[]→es=.nil
 ne:es.len=xs.length
def b5Q (n:SN) (sc:Scope) (i:RI) (x:Expr):Prop:=∀ X G W k tg,XC n X G W k sc→G.m0=none→(i.two=true→∃ elts kk tpos,tg=.Tuple elts kk tpos)→PI X tg x (LI G.toGd W (a02 G i))
theorem LE.then {g:Gd} {W:WX} {t:RdE} {σ:L2.St} {H:Hp} {Q Q':VK} (h:LE g W t σ H Q) (w:∀ v H',Q v H'→Q' v H'):LE g W t σ H Q':=by
 obtain ⟨δ,S,Y,K,R,ht,res,rw'⟩:=h
 exact ⟨δ,S,Y,K,R,ht,fun d S1 v H1 k P c r=>w _ _ (res d S1 v H1 k P c r),rw'⟩
theorem LT.then {g:Gd} {W:WX} {t:RdT} {σ:L2.St} {H:Hp} {Q Q':Bool→Hp→Prop} (h:LT g W t σ H Q) (w:∀ v H',Q v H'→Q' v H'):LT g W t σ H Q':=by
 obtain ⟨δ,S,Y,K,R,ht,res,rw'⟩:=h
 exact ⟨δ,S,Y,K,R,ht,fun d S1 v k P c=>w _ _ (res d S1 v k P c),rw'⟩
theorem LA.then {g:Gd} {W:WX} {t:RdL} {σ:L2.St} {H:Hp} {Q Q':List V→Hp→Prop} (h:LA g W t σ H Q) (w:∀ v H',Q v H'→Q' v H'):LA g W t σ H Q':=by
 obtain ⟨δ,S,Y,K,R,ht,res,rw'⟩:=h
 exact ⟨δ,S,Y,K,R,ht,fun d S1 v H1 k P c r=>w _ _ (res d S1 v H1 k P c r),rw'⟩
theorem LE.re {g:Gd} {W:WX} {t t':RdE} {σ:L2.St} {H:Hp} {Q:VK} (h:LE g W t σ H Q) (w:∀ δ S Y K,t δ S Y K→t' δ S Y K):LE g W t' σ H Q:=by
 obtain ⟨δ,S,Y,K,R,ht,res,rw'⟩:=h
 exact ⟨δ,S,Y,K,R,w _ _ _ _ ht,res,rw'⟩
theorem LT.re {g:Gd} {W:WX} {t t':RdT} {σ:L2.St} {H:Hp} {Q:Bool→Hp→Prop} (h:LT g W t σ H Q) (w:∀ δ S Y K,t δ S Y K→t' δ S Y K):LT g W t' σ H Q:=by
 obtain ⟨δ,S,Y,K,R,ht,res,rw'⟩:=h
 exact ⟨δ,S,Y,K,R,w _ _ _ _ ht,res,rw'⟩
section
variable {n:SN} {X:Cx} {G:Gm} {W:WX} {k:Nat} {sc:Scope} {a b c':RE} {l r t:Expr} {pos:Pos} {es:RL} {xs:List Expr}
theorem a4u {g:Gd} {t1:RdL} {t2:List D→RdE} {σ:L2.St} {H:Hp} {Q:VK} (h:LE g W (fun δ S Y K=>t1 δ S Y fun x S1=>t2 x δ S1 Y K) σ H Q) :
  LA g W t1 σ H fun vs H1=>∃ xs δ S Y K,Rel g S H1 δ σ∧a0i g S H1 xs vs∧t2 xs δ S Y K∧Res g S H1 K Q∧a69 g S H1 Y W:=by
 obtain ⟨δ,S,Y,K,R,ht,res,rw'⟩:=h
 exact ⟨δ,S,Y,_,R,ht,fun d S1 v H1 k P c r=>⟨d,δ,S1,Y,K,R.mono P c,r,k,res.mono P,rw'.mono P⟩,rw'⟩
theorem c11 {op:Operator} (c:XC n X G W k sc) (ha:PE X l (LE G.toGd W (den G a))) (hb:PE X r (LE G.toGd W (den G b))):PE X (.BinOp l op r pos) (LE G.toGd W (den G (.bin op a b))) :=
 PE.imp (pe_op (b7v c.ok.K op) ha hb) fun σ H Q h=>by
  rw [den] at h
  exact (a0D (t1:=den G a) (t2:=fun x δ S1 Y K=>den G b δ S1 Y fun y S2=>opD op x y S2 K) h).then fun v H1 q =>
   (a2q (t1:=den G b) (t2:=fun x y δ S2 Y K=>opD op x y S2 K) q).then fun u H2 q=>a6C q
theorem c1Z (c:XC n X G W k sc) (ha:PE X l (LE G.toGd W (den G a))) (hb:PE X r (LE G.toGd W (den G b))):PE X (.BinOp l .Add r pos) (LE G.toGd W (den G (.adc a b))) :=
 PE.imp (pe_op (b5V c.ok.K) ha hb) fun σ H Q h=>by
  rw [den] at h
  exact (a0D (t1:=den G a) (t2:=fun x δ S1 Y K=>den G b δ S1 Y fun y S2=>b1m x y S2 K) h).then fun v H1 q =>
   (a2q (t1:=den G b) (t2:=fun x y δ S2 Y K=>b1m x y S2 K) q).then fun u H2 q=>a6C q
theorem c2S (ha:PE X l (LE G.toGd W (den G a))):PE X (.UnaryOp .USub l pos) (LE G.toGd W (den G (.neg a))) :=
 PE.imp (pe_un un_neg ha) fun σ H Q h=>by
  rw [den] at h
  refine (a0D (t1:=den G a) (t2:=fun x δ S1 Y K=>∃ i,x=.int i∧K (.int (-i)) S1) h).then fun v H1 q=>?_
  obtain ⟨x,δ,S,Y,K,R,r,⟨i,rfl,q⟩,res,_⟩:=q
  exact ⟨i,a0k r,res.int q R.ce⟩
theorem c6Q (c:XC n X G W k sc) (ha:PE X l (LE G.toGd W (den G a))):PE X (.UnaryOp .Not l pos) (LE G.toGd W (den G (.nt a))) :=
 PE.imp (pe_notT ha) fun σ H Q h=>by
  rw [den] at h
  refine (a0D (t1:=den G a) (t2:=fun x δ S1 Y K=>a1v x S1 fun b=>K (.bl (!b)) S1) h).then fun v H1 q=>?_
  obtain ⟨x,δ,S,Y,K,R,r,q,res,_⟩:=q
  obtain ⟨b,tv,q⟩:=a7R c.ok.K R.ce r q
  exact ⟨b,tv,res.bl q R.ce⟩
theorem c2V (ha:PT X l (LT G.toGd W (a0u G a))):PT X (.UnaryOp .Not l pos) (LT G.toGd W (a0u G (.nt a))) :=
 PT.imp (pt_not ha) fun σ H Q h=>by
  rw [a0u] at h
  obtain ⟨δ,S,Y,K,R,ht,res,rw'⟩:=h
  exact ⟨δ,S,Y,_,R,ht,fun b S' H' k P c=>res _ S' H' k P c,rw'⟩
theorem c2F (hc:PT X t (LT G.toGd W (a0u G c'))) (ha:PE X l (LE G.toGd W (den G a))) (hb:PE X r (LE G.toGd W (den G b))):PE X (.IfExp t l r pos) (LE G.toGd W (den G (.ife c' a b))) :=
 PE.imp (pe_ifExp hc ha hb) fun σ H Q h=>by
  rw [den] at h
  obtain ⟨δ,S,Y,K,R,ht,res,rw'⟩:=h
  refine ⟨δ,S,Y,_,R,ht,fun b S' H' k P c=>?_,rw'⟩
  cases b with
  | true=>exact ⟨δ,S',Y,K,R.mono P c,k,res.mono P,rw'.mono P⟩
  | false=>exact ⟨δ,S',Y,K,R.mono P c,k,res.mono P,rw'.mono P⟩
theorem c2g {op:CmpOp} (c:XC n X G W k sc) (hs:a2A r=true) (ha:PE X l (LE G.toGd W (den G a))) (hb:PE X r (LE G.toGd W (den G b))):PE X (.Compare l [op] [r] pos) (LE G.toGd W (den G (.cmp op a b))) :=
 PE.imp (pe_cmpR (a3x c.ok.K c.un op) ha hb (a2r hs op)) fun σ H Q h=>by
  rw [den] at h
  exact (a0D (t1:=den G a) (t2:=fun x δ S1 Y K=>den G b δ S1 Y fun y S2=>a0I op x y S2 K) h).then fun v H1 q =>
   (a2q (t1:=den G b) (t2:=fun x y δ S2 Y K=>a0I op x y S2 K) q).then fun u H2 q=>a6C q
theorem b7P {op:CmpOp} (c:XC n X G W k sc) (hs:a2A r=true) (ha:PE X l (LE G.toGd W (den G a))) (hb:PE X r (LE G.toGd W (den G b))):PT X (.Compare l [op] [r] pos) (LT G.toGd W (a0u G (.cmp op a b))) :=
 PT.imp (pt_cmpR (a3x c.ok.K c.un op) ha hb (a2r hs op)) fun σ H Q h=>by
  rw [a0u] at h
  have h:=b4C (t:=fun δ S Y K=>den G a δ S Y fun x S1=>den G b δ S1 Y fun y S2=>a0I op x y S2 K) h
  exact (a0D (t1:=den G a) (t2:=fun x δ S1 Y K=>den G b δ S1 Y fun y S2=>a0I op x y S2 K) h).then fun v H1 q =>
   (a2q (t1:=den G b) (t2:=fun x y δ S2 Y K=>a0I op x y S2 K) q).then fun u H2 q=>a6C q
theorem a72 {o1 o2:CmpOp} {σ:L2.St} {H:Hp} {Q:VK} (h:LE G.toGd W (den G (.chn o1 o2 a b c')) σ H Q):tChain (rD2 G.toGd (a0I o1)) (rD2 G.toGd (a0I o2)) (LE G.toGd W (den G a)) (LE G.toGd W (den G b)) (LE G.toGd W (den G c')) σ H Q:=by
 rw [den] at h
 refine (a0D (t1:=den G a) (t2:=fun x δ S1 Y K=>den G b δ S1 Y fun y S2=>a0I o1 x y S2 fun z S3=>∃ k,z=.bl k∧if k=true then den G c' δ S3 Y fun w S4=>a0I o2 y w S4 K else K (.bl false) S3) h).then fun v H1 q=>?_
 refine (a2q (t1:=den G b) (t2:=fun x y δ S2 Y K=>a0I o1 x y S2 fun z S3=>∃ k,z=.bl k∧if k=true then den G c' δ S3 Y fun w S4=>a0I o2 y w S4 K else K (.bl false) S3) q).then fun u H2 q=>?_
 obtain ⟨x,y,δ,S,Y,K,R,r1,r2,ht,res,rw'⟩:=q
 refine ⟨x,y,S,_,R.ce,r1,r2,ht,fun z S3 zv H3 k P c r=>?_⟩
 obtain ⟨b0,rfl,k⟩:=k
 refine ⟨b0,a3f r,?_⟩
 cases b0 with
 | false=>exact (res.mono P).bl k c
 | true=>exact ⟨δ,S3,Y,_,R.mono P c,k,fun w S4 wv H4 k P2 c2 r'=>⟨y,w,S4,K,c2,(r2.mono P).mono P2,r',k,(res.mono P).mono P2⟩,rw'.mono P⟩
theorem c2f {o1 o2:CmpOp} (c:XC n X G W k sc) (hs:a2A t=true) (ha:PE X l (LE G.toGd W (den G a))) (hb:PE X r (LE G.toGd W (den G b))) (hc:PE X t (LE G.toGd W (den G c'))):PE X (.Compare l [o1,o2] [r,t] pos) (LE G.toGd W (den G (.chn o1 o2 a b c'))) :=
 PE.imp (pe_chain (a3x c.ok.K c.un o1) (a3x c.ok.K c.un o2) ha hb hc (by show lastMarks [o2] [t]=false;exact a2r hs o2)) fun σ H Q h=>a72 h
theorem b7O {o1 o2:CmpOp} (c:XC n X G W k sc) (hs:a2A t=true) (ha:PE X l (LE G.toGd W (den G a))) (hb:PE X r (LE G.toGd W (den G b))) (hc:PE X t (LE G.toGd W (den G c'))):PT X (.Compare l [o1,o2] [r,t] pos) (LT G.toGd W (a0u G (.chn o1 o2 a b c'))) :=
 PT.imp (pt_chain (a3x c.ok.K c.un o1) (a3x c.ok.K c.un o2) ha hb hc (by show lastMarks [o2] [t]=false;exact a2r hs o2)) fun σ H Q h=>by
  refine a72 (b4C (t:=den G (.chn o1 o2 a b c')) ?_)
  refine h.re fun δ S Y K q=>?_
  rw [a0u] at q
  rw [den]
  refine q
theorem c2P {cell:Bool} (ha:PA X xs (LA G.toGd W (a0x G es))):PE X (.List xs pos) (LE G.toGd W (den G (.lst cell es))) :=
 PE.imp (pe_lst ha) fun σ H Q h=>by
  rw [den] at h
  refine (a4u (t1:=a0x G es) (t2:=fun ds δ S1 Y K=>ds.length≤sizeLine∧if cell=true then ∀ p,S1 p=none→K (.obj p) (S1.set p (.lst ds)) else K (.lst ds) S1) h).then fun vs H1 q=>?_
  obtain ⟨ds,δ,S,Y,K,R,r,⟨hz,q⟩,res,_⟩:=q
  refine ⟨by rw [← r.length];exact hz,fun p hp=>?_⟩
  cases cell with
  | true=>exact res.lstC q R.ce r hp
  | false=>exact res.lst q R.ce r hp
theorem c3g {kk:Nat} (ha:PA X xs (LA G.toGd W (a0x G es))):PE X (.Tuple xs kk pos) (LE G.toGd W (den G (.tup es))) :=
 PE.imp (pe_tup ha) fun σ H Q h=>by
  rw [den] at h
  refine (a4u (t1:=a0x G es) (t2:=fun ds δ S1 Y K=>ds.length≤sizeLine∧K (.tup ds) S1) h).then fun vs H1 q=>?_
  obtain ⟨ds,δ,S,Y,K,R,r,⟨hz,q⟩,res,_⟩:=q
  exact ⟨by rw [← r.length];exact hz,fun p hp=>res.tup q R.ce r hp⟩
theorem c6N (c:XC n X G W k sc) (hs:a3d r=true) (ha:PE X l (LE G.toGd W (den G a))) (hb:PE X r (LE G.toGd W (den G b))):PE X (.Subscript l r pos) (LE G.toGd W (den G (.ix a b))) :=
 PE.imp (pe_ix (b7b c.ok.K c.un) ha hb (a6N hs)) fun σ H Q h=>by
  rw [den] at h
  exact (a0D (t1:=den G a) (t2:=fun x δ S1 Y K=>den G b δ S1 Y fun y S2=>ixD x y S2 K) h).then fun v H1 q =>
   (a2q (t1:=den G b) (t2:=fun x y δ S2 Y K=>ixD x y S2 K) q).then fun u H2 q=>a6C q
def LO (g:Gd) (W:WX) (t:DS→SS→XD'→(Option Int→SS→Prop)→Prop):TO:=fun σ H Q=>∃ δ S Y K,Rel g S H δ σ∧t δ S Y K∧(∀ o S' H',K o S'→a0h S H S' H'→CellsOk g S' H'→Q o H')∧a69 g S H Y W
theorem PO.imp {e:Option Expr} {t t':TO} (h:PO X e t) (w:∀ σ H Q,t' σ H Q→t σ H Q):PO X e t':=⟨fun pins s σ H Q I q=>h.run pins s σ H Q I (w σ H Q q)⟩
theorem c6S {lo hi:RO} {p q:Option Expr} {p2:Pos} (c:XC n X G W k sc) (ha:PE X l (LE G.toGd W (den G a))) (hl:PO X p (LO G.toGd W (a2T G lo))) (hh:PO X q (LO G.toGd W (a2T G hi))):PE X (.Subscript l (.Slice p q none p2) pos) (LE G.toGd W (den G (.sl a lo hi))) :=
 PE.imp (pe_slice (b7W c.ok.K) ha hl hh) fun σ H Q h=>by
  rw [den] at h
  refine (a0D (t1:=den G a) (t2:=fun x δ S1 Y K=>a2T G lo δ S1 Y fun l S2=>a2T G hi δ S2 Y fun u S3=>slD x l u S3 K) h).then fun v H1 q=>?_
  obtain ⟨x,δ,S,Y,K,R,r,q,res,rw'⟩:=q
  refine ⟨δ,S,Y,_,R,q,fun o S1 H1 k P c=>⟨δ,S1,Y,_,R.mono P c,k,fun o2 S2 H2 k P2 c2=>⟨x,S2,K,c2,(r.mono P).mono P2,k,(res.mono P).mono P2⟩,rw'.mono P⟩,rw'⟩
theorem c24 {lo hi:RO} {p q:Option Expr} {p2:Pos} (c:XC n X G W k sc) (ha:PE X l (LE G.toGd W (den G a))) (hl:PO X p (LO G.toGd W (a2T G lo))) (hh:PO X q (LO G.toGd W (a2T G hi))):PE X (.Subscript l (.Slice p q none p2) pos) (LE G.toGd W (den G (.slc a lo hi))) :=
 PE.imp (pe_slice (b5m c.ok.K) ha hl hh) fun σ H Q h=>by
  rw [den] at h
  refine (a0D (t1:=den G a) (t2:=fun x δ S1 Y K=>a2T G lo δ S1 Y fun l S2=>a2T G hi δ S2 Y fun u S3=>b5G x l u S3 K) h).then fun v H1 q=>?_
  obtain ⟨x,δ,S,Y,K,R,r,q,res,rw'⟩:=q
  refine ⟨δ,S,Y,_,R,q,fun o S1 H1 k P c=>⟨δ,S1,Y,_,R.mono P c,k,fun o2 S2 H2 k P2 c2=>⟨x,S2,K,c2,(r.mono P).mono P2,k,(res.mono P).mono P2⟩,rw'.mono P⟩,rw'⟩
theorem s_call {j:Nat} {x:Str} {p:Pos} (c:XC n X G W k sc) (hn:fnB n.fns j x=true) (hg:glB sc x=true) (hL:a9f n sc es xs):PE X (.Call (.Name x p) xs [] pos) (LE G.toGd W (den G (.call j es))):=by
 cases hT:G.fn G.m0.isSome j with
 | none =>
  refine a0U fun δ S Y K h=>?_
  rw [den] at h
  obtain ⟨T,e,_⟩:=h
  rw [hT] at e;cases e
 | some T =>
  obtain ⟨f,fd,ps,h1,h2,h3,F⟩:=c.ok.fn _ j T x hT (a9V hn).1
  have hs:=hL.st
  have ha:=hL.a X G W k c
  have fin:∀ {σ:L2.St} {H:Hp} {Q:VK},LE G.toGd W (den G (.call j es)) σ H Q→tCallG G.m0 (spD G.toGd T) [] (WE W) (LA G.toGd W (a0x G es)) σ H Q:=by
   intro σ H Q h
   have h:=h.re (t':=fun δ S Y K=>a0x G es δ S Y fun ds S1=>T G.m0 ds S1 K fun C fs S'=>Y C fs δ S') fun δ S Y K q=>by
    rw [den] at q
    obtain ⟨T',e,q⟩:=q
    rw [hT] at e;cases e
    exact q
   refine (a4u (t1:=a0x G es) (t2:=fun ds δ S1 Y K=>T G.m0 ds S1 K fun C fs S'=>Y C fs δ S') h).then fun vs H1 q=>?_
   obtain ⟨ds,δ,S,Y,K,R,r,q,res,rw'⟩:=q
   rw [List.append_nil]
   exact ⟨ds,S,K,_,R.ce,r,q,res,fun C fs S' d H' y P cc x=>rw' C fs δ S' d σ H' y P (R.mono P cc) x⟩
  cases xs with
  | nil =>
   refine PE.imp (b0A F rfl c.rm c.md ⟨c.gl hg,h1,h2,(a9V hn).2⟩ h3 .nil (fun σ=>L2N.passAt c.tk σ)) fun σ H Q h=>?_
   have hes:=hL.nl rfl
   obtain ⟨δ,S,Y,K,R,ht,res,rw'⟩:=fin h
   rw [hes,a0x] at ht
   exact res [] S [] H ht (a0h.refl _ _) R.ce (by simp only [a0i])
  | cons y ys =>
   rw [List.all_cons,zak] at hs
   exact PE.imp (pe_callG F rfl c.rm c.md ⟨c.gl hg,h1,h2,(a9V hn).2⟩ h3 .nil (fun σ=>L2N.passAt c.tk σ) ha (a0m hs.1) (a09 hs.2)) fun σ H Q h=>fin h
theorem c0G (c:XC n X G W k sc) (b:Bn) (hb:b.needs G.m0):∃ f,((∃ id,f=.builtin id)∨∃ T,f=.type T)∧CallR X f (rDc G.toGd b.den)∧bootBuiltins b.nm=some f∧b.nm∈a5k∧b.nm ≠ "__name__" ∧ (b.nm == ("__debug__" : Str))=false:=by
 have calm:G.m0=none→X.calm=true:=fun e=>by have:=c.md;rw [e] at this;exact this.2
 cases b with
 | len=>exact ⟨_,.inl ⟨"len",rfl⟩,b7f c.ok.K,by decide +kernel,by decide +kernel,by decide +kernel,by decide +kernel⟩
 | abs=>exact ⟨_,.inl ⟨"abs",rfl⟩,b5U,by decide +kernel,by decide +kernel,by decide +kernel,by decide +kernel⟩
 | max=>exact ⟨_,.inl ⟨"max",rfl⟩,b7j (calm hb),by decide +kernel,by decide +kernel,by decide +kernel,by decide +kernel⟩
 | min=>exact ⟨_,.inl ⟨"min",rfl⟩,b7k (calm hb),by decide +kernel,by decide +kernel,by decide +kernel,by decide +kernel⟩
 | rpr=>exact ⟨_,.inl ⟨"repr",rfl⟩,a9F c.ok.K c.md.1 (by have:=c.rm.un;omega),by decide +kernel,by decide +kernel,by decide +kernel,by decide +kernel⟩
 | int=>exact ⟨_,.inr ⟨"int",rfl⟩,int_ok,by decide +kernel,by decide +kernel,by decide +kernel,by decide +kernel⟩
 | tup=>exact ⟨_,.inr ⟨"tuple",rfl⟩,b2z c.ok.K,by decide +kernel,by decide +kernel,by decide +kernel,by decide +kernel⟩
 | lst cell=>cases cell <;> exact ⟨_,.inr ⟨"list",rfl⟩,b4z c.ok.K _,by decide +kernel,by decide +kernel,by decide +kernel,by decide +kernel⟩
 | srt cell=>cases cell <;> exact ⟨_,.inl ⟨"sorted",rfl⟩,b0S (calm hb) c.ok.K _,by decide +kernel,by decide +kernel,by decide +kernel,by decide +kernel⟩
 | dic cell=>cases cell <;> exact ⟨_,.inr ⟨"dict",rfl⟩,b3Q _,by decide +kernel,by decide +kernel,by decide +kernel,by decide +kernel⟩
 | dcp cell=>cases cell <;> exact ⟨_,.inr ⟨"dict",rfl⟩,b1D (calm hb) c.ok.K _,by decide +kernel,by decide +kernel,by decide +kernel,by decide +kernel⟩
 | all=>exact ⟨_,.inl ⟨"all",rfl⟩,b5Z (calm hb) c.ok.K,by decide +kernel,by decide +kernel,by decide +kernel,by decide +kernel⟩
 | sum=>exact ⟨_,.inl ⟨"sum",rfl⟩,b8y (calm hb) c.ok.K,by decide +kernel,by decide +kernel,by decide +kernel,by decide +kernel⟩
 | lsk cell=>cases cell <;> exact ⟨_,.inr ⟨"list",rfl⟩,b1W (calm hb) _,by decide +kernel,by decide +kernel,by decide +kernel,by decide +kernel⟩
 | str=>exact ⟨_,.inr ⟨"str",rfl⟩,str_ok,by decide +kernel,by decide +kernel,by decide +kernel,by decide +kernel⟩
 | mnl=>exact ⟨_,.inl ⟨"min",rfl⟩,b4E (calm hb) c.ok.K c.un,by decide +kernel,by decide +kernel,by decide +kernel,by decide +kernel⟩
 | srl cell=>cases cell <;> exact ⟨_,.inl ⟨"sorted",rfl⟩,a9a (calm hb) c.ok.K c.un _,by decide +kernel,by decide +kernel,by decide +kernel,by decide +kernel⟩
 | srp cell=>cases cell <;> exact ⟨_,.inl ⟨"sorted",rfl⟩,a9b (calm hb) c.ok.K c.un _,by decide +kernel,by decide +kernel,by decide +kernel,by decide +kernel⟩
theorem c6z {b:Bn} {p:Pos} (c:XC n X G W k sc) (hg:glB sc b.nm=true) (hne:xs.isEmpty=false) (hL:a9f n sc es xs):PE X (.Call (.Name b.nm p) xs [] pos) (LE G.toGd W (den G (.bi b es))):=by
 by_cases hb:b.needs G.m0
 ·obtain ⟨f,hf,hc,hv,hm,hn,hd⟩:=c0G c b hb
  have hs:=hL.st
  cases xs with
  | nil=>cases hne
  | cons y ys =>
   rw [List.all_cons,zak] at hs
   have rule:PE X (.Call (.Name b.nm p) (y :: ys) [] pos) (tCB (rDc G.toGd b.den) (LA G.toGd W (a0x G es))):=by
    rcases hf with ⟨id,rfl⟩ | ⟨T,rfl⟩
    ·exact pe_callB hc (c.gl hg) (c.ok.bt _ hm) hv (hL.a X G W k c) hn hd (a0m hs.1) (a09 hs.2)
    ·exact pe_callTy hc (c.gl hg) (c.ok.bt _ hm) hv (hL.a X G W k c) hn hd (a0m hs.1) (a09 hs.2)
   refine PE.imp rule fun σ H Q h=>?_
   have h:=h.re (t':=fun δ S Y K=>a0x G es δ S Y fun ds S1=>b.den ds S1 K) fun δ S Y K q=>by
    rw [den] at q
    exact q.2
   refine (a4u (t1:=a0x G es) (t2:=fun ds δ S1 Y K=>b.den ds S1 K) h).then fun vs H1 q=>?_
   obtain ⟨ds,δ,S,Y,K,R,r,q,res,_⟩:=q
   exact ⟨ds,S,K,R.ce,r,q,res⟩
 ·refine a0U fun δ S Y K h=>?_
  rw [den] at h
  exact hb h.1
theorem c2H {cn:Cn} {x z:Str} {p p2:Pos} (c:XC n X G W k sc) (ex:x=("isinstance" : Str)) (hg:glB sc x=true) (hz:glB sc z=true) (hst:a0A l=true) (ha:PE X l (LE G.toGd W (den G a)))
  (hc:(match cn with
   | .ty t=>decide (bootBuiltins z=some (.type t)) && decide (z≠("__name__" : Str)) && decide ((z == ("__debug__" : Str))=false) && decide (z∈a5k)
   | .own j=>nmB n.cls j z)=true):PE X (.Call (.Name x p) [l,.Name z p2] [] pos) (LE G.toGd W (den G (.isi a cn))):=by
 subst ex
 have hcl:∃ cv,PE X (.Name z p2) (tC cv)∧ClsV cv (cn.val G):=by
  cases cn with
  | ty t =>
   simp only [zak,zah] at hc
   obtain ⟨⟨⟨h1,h2⟩,h3⟩,h4⟩:=hc
   exact ⟨.ty t,pe_bltn (c.gl hz) (c.ok.bt _ h4) h1 rfl h2 h3,.ty t⟩
  | own j =>
   have h:=c.ok.cl j z (a0M hc).1
   exact ⟨.ref (G.cl j),pe_glob (c.gl hz) h rfl (a0M hc).2.1,.own _⟩
 obtain ⟨cv,pz,cz⟩:=hcl
 refine PE.imp (pe_callB b1v (c.gl hg) (c.ok.bt _ (by decide +kernel)) (by decide +kernel) (pa_cons ha (pa_cons pz pa_nil rfl) (a0m hst)) (by decide +kernel) (by decide +kernel) (a0m hst) rfl) fun σ H Q h=>?_
 rw [den] at h
 refine (a0D (t1:=den G a) (t2:=fun x δ S1 Y K=>∃ t b,tyD S1 x=some t∧a7d G S1 x∧PySem.W.kitOne G.K t (cn.val G)=some b∧K (.bl b) S1) h).then fun v H1 q=>?_
 obtain ⟨x,δ,S,Y,K,R,r,⟨t,b,e1,e2,e3,q⟩,res,_⟩:=q
 rw [c.ok.K] at e3
 exact ⟨v,cv,t,_,b,rfl,cz,b8H c.ok.K c.md.p R.ce r e1 e2,e3,res.bl q R.ce⟩
theorem a2J {x:D} {v:V} {S:SS} {H:Hp} (hK:G.K=X.K) (cells:CellsOk G.toGd S H) (rep:Rep G.toGd S H x v) (h:a2V x S):tyV X.K "list" v H:=by
 obtain ⟨ds,seen⟩:=h
 obtain ⟨p,vs,rfl,seq,_⟩:=a0r cells rep seen
 rw [hK] at seq
 exact .inl ⟨rfl,vs,seq⟩
theorem a7S {x:D} {v:V} {S:SS} {H:Hp} (rep:Rep G.toGd S H x v) (h:a6x x):tyV X.K "str" v H:=by
 obtain ⟨z,rfl⟩:=h
 cases a0B rep
 exact rfl
theorem a6f {x:D} {v:V} {S:SS} {H:Hp} (cells:CellsOk G.toGd S H) (rep:Rep G.toGd S H x v) (h:a5p x S):tyV X.K "dict" v H:=by
 obtain ⟨p,kvs,rfl,at_p⟩:=h
 cases a0z rep
 obtain ⟨ws,here,_⟩:=cells p _ at_p
 exact .inr (.inr (.inl ⟨rfl,.inl ⟨ws,here⟩⟩))
theorem c1H (c:XC n X G W k sc) (b:Mn):∃ T id,PlainAttrs T∧Slot T b.nm id∧typeOf (.builtin id)=pure (.type "method_descriptor")∧MtR X id (rDm G.toGd b.den)∧∀ x v S H,CellsOk G.toGd S H→Rep G.toGd S H x v→b.rc x S→tyV X.K T v H:=by
 have un:=c.un
 cases b with
 | join=>exact ⟨_,_,PySem.F.plainAttrs_str,PySem.F.slot_str_join,PySem.F.type_str_join,b4s c.ok.K,fun _ _ _ _ _ r h=>a7S r h⟩
 | upper=>exact ⟨_,_,PySem.F.plainAttrs_str,PySem.F.slot_str_upper,PySem.F.type_str_upper,b2B,fun _ _ _ _ _ r h=>a7S r h⟩
 | app=>exact ⟨_,_,PySem.F.plainAttrs_list,PySem.F.slot_list_append,PySem.F.type_list_append,app_ok,fun _ _ _ _ q r h=>a2J c.ok.K q r h⟩
 | ins=>exact ⟨_,_,PySem.F.plainAttrs_list,PySem.F.slot_list_insert,PySem.F.type_list_insert,b69,fun _ _ _ _ q r h=>a2J c.ok.K q r h⟩
 | pop=>exact ⟨_,_,PySem.F.plainAttrs_list,PySem.F.slot_list_pop,PySem.F.type_list_pop,b7I,fun _ _ _ _ q r h=>a2J c.ok.K q r h⟩
 | clr=>exact ⟨_,_,PySem.F.plainAttrs_list,PySem.F.slot_list_clear,PySem.F.type_list_clear,b1y,fun _ _ _ _ q r h=>a2J c.ok.K q r h⟩
 | cnt=>exact ⟨_,_,PySem.F.plainAttrs_list,PySem.F.slot_list_count,PySem.F.type_list_count,b6j c.ok.K un,fun _ _ _ _ q r h=>a2J c.ok.K q r h⟩
 | dpop=>exact ⟨_,_,PySem.F.plainAttrs_dict,PySem.F.slot_dict_pop,PySem.F.type_dict_pop,b3S,fun _ _ _ _ q r h=>a6f q r h⟩
 | upd=>exact ⟨_,_,PySem.F.plainAttrs_dict,PySem.F.slot_dict_update,PySem.F.type_dict_update,b8I,fun _ _ _ _ q r h=>a6f q r h⟩
 | dget=>exact ⟨_,_,PySem.F.plainAttrs_dict,PySem.F.slot_dict_get,PySem.F.type_dict_get,b3O (by omega),fun _ _ _ _ q r h=>b2A q r h⟩
 | dset=>exact ⟨_,_,PySem.F.plainAttrs_dict,PySem.F.slot_dict_setdefault,PySem.F.type_dict_setdefault,b3V,fun _ _ _ _ q r h=>a6f q r h⟩
 | dpop2=>exact ⟨_,_,PySem.F.plainAttrs_dict,PySem.F.slot_dict_pop,PySem.F.type_dict_pop,b1E,fun _ _ _ _ q r h=>a6f q r h⟩
 | idx=>exact ⟨_,_,PySem.F.plainAttrs_list,PySem.F.slot_list_index,PySem.F.type_list_index,b67 c.ok.K,fun _ _ _ _ q r h=>a2J c.ok.K q r h⟩
 | rem=>exact ⟨_,_,PySem.F.plainAttrs_list,PySem.F.slot_list_remove,PySem.F.type_list_remove,b7L,fun _ _ _ _ q r h=>a2J c.ok.K q r h⟩
 | spl=>exact ⟨_,_,PySem.F.plainAttrs_str,PySem.F.slot_str_split,PySem.F.type_str_split,b2t,fun _ _ _ _ _ r h=>a7S r h⟩
theorem b6M {es:List Expr} {env:Env} {p:Pos} (st:es.all a0A=true) (few:es.length < 30):((backTo p (starEach es env)).all (fun x=>!x.1) && (backToKw p (keywordEach [] env)).all (fun x=>x.1.isSome) && decide (es.length + ([]:List Keyword).length + (if ([]:List Keyword).isEmpty then 0 else 1) < 30))=true:=by
 rw [a4P st]
 show (true && true && decide (es.length + 0 + 0 < 30))=true
 simpa using few
theorem a8g {g:Gd} {t1:RdL} {t2:D→List D→RdE} {σ:L2.St} {H:Hp} {Q:VK} {v:V} (h:LE1 g W (fun x δ S Y K=>t1 δ S Y fun ds S1=>t2 x ds δ S1 Y K) v σ H Q) :
  LA g W t1 σ H fun vs H1=>∃ x ds δ S Y K,Rel g S H1 δ σ∧Rep g S H1 x v∧a0i g S H1 ds vs∧t2 x ds δ S Y K∧Res g S H1 K Q∧a69 g S H1 Y W:=by
 obtain ⟨x,δ,S,Y,K,R,r0,ht,res,rw'⟩:=h
 exact ⟨δ,S,Y,_,R,ht,fun d S1 u H1 k P c r=>⟨x,d,δ,S1,Y,K,R.mono P c,r0.mono P,r,k,res.mono P,rw'.mono P⟩,rw'⟩
theorem c2R {b:Mn} {ap:Pos} (c:XC n X G W k sc) (hs:a9h l=true) (hl:(ap.endLine == pos.line)=true) (few:xs.length < 30) (ha:PE X l (LE G.toGd W (den G a))) (hL:a9f n sc es xs):PE X (.Call (.Attribute l b.nm ap) xs [] pos) (LE G.toGd W (den G (.mth b a es))):=by
 obtain ⟨T,id,pa,slot,ty,rule,typed⟩:=c1H c b
 have st:=hL.st
 have split:∀ {σ H Q},LE G.toGd W (den G (.mth b a es)) σ H Q→LE G.toGd W (den G a) σ H fun v H1=>tyV X.K T v H1∧LA G.toGd W (a0x G es) σ H1 fun vs H2=>rDm G.toGd b.den v vs H2 Q:=fun {σ H Q} h=>by
  rw [den] at h
  refine (a0D (t1:=den G a) (t2:=fun x δ S1 Y K=>b.rc x S1∧a0x G es δ S1 Y fun ds S2=>b.den x ds S2 K) h).then fun v H1 q=>?_
  obtain ⟨x,δ,S,Y,K,R,r,⟨rc,q⟩,res,rw'⟩:=q
  refine ⟨typed x v S H1 R.ce r rc,?_⟩
  refine (a8g (t1:=a0x G es) (t2:=fun x ds δ S2 Y K=>b.den x ds S2 K) ⟨x,δ,S,Y,K,R,r,q,res,rw'⟩).then fun vs H2 q=>?_
  obtain ⟨x,ds,δ,S,Y,K,R,r0,r1,q,res,_⟩:=q
  exact ⟨x,ds,S,K,R.ce,r0,r1,q,res⟩
 cases xs with
 | nil =>
  have hes:=hL.nl rfl
  refine PE.imp (pe_bm0 pa slot ty rule ha (a3z hs) hl) fun σ H Q h=>(split h).then fun v H1 q=>⟨q.1,?_⟩
  obtain ⟨δ,S,Y,K,R,ht,res,_⟩:=q.2
  rw [hes,a0x] at ht
  exact res [] S [] H1 ht (a0h.refl _ _) R.ce (by simp only [a0i])
 | cons y ys =>
  have st2:=st
  rw [List.all_cons,zak] at st2
  exact PE.imp (pe_bm pa slot ty rule ha (hL.a X G W k c) (a3z hs) (b6M st few) hl (a0m st2.1) (a09 st2.2)) fun σ H Q h=>split h
theorem c6R {j:Nat} {m:Str} {ap:Pos} (c:XC n X G W k sc) (hs:a9h l=true) (hl:(ap.endLine == pos.line)=true) (few:xs.length < 30) (hm:mtB n.fns j m=true) (ha:PE X l (LE G.toGd W (den G a))) (hL:a9f n sc es xs) :
  PE X (.Call (.Attribute l m ap) xs [] pos) (LE G.toGd W (den G (.om j m a es))):=by
 cases hT:G.fn G.m0.isSome j with
 | none =>
  refine a0U fun δ S Y K h=>?_
  rw [den] at h
  obtain ⟨T,e,_⟩:=h
  rw [hT] at e;cases e
 | some T =>
  obtain ⟨C0,at_j⟩:=b7l hm
  obtain ⟨f,fd,ps,cls,is,binds,F⟩:=c.ok.meth _ j T C0 m hT at_j
  have st:=hL.st
  have split:∀ {σ H Q},LE G.toGd W (den G (.om j m a es)) σ H Q→LE G.toGd W (den G a) σ H fun x H1=>∃ p dx fs,x=.ref p∧H1 p=some (.ins (G.mc j) dx fs)∧fs.lookup m=none∧LA G.toGd W (a0x G es) σ H1 fun vs H2=>spD G.toGd T G.m0 (x :: vs) H2 Q (WE W σ):=fun {σ H Q} h=>by
   have h:=h.re (t':=fun δ S Y K=>den G a δ S Y fun x S1=>∃ p,omD G j m x S1 p∧a0x G es δ S1 Y fun ds S2=>T G.m0 (.obj p :: ds) S2 K fun C fs S'=>Y C fs δ S') fun δ S Y K q=>by
    rw [den] at q
    obtain ⟨T',e,q⟩:=q
    rw [hT] at e;cases e
    exact q
   refine (a0D (t1:=den G a) (t2:=fun x δ S1 Y K=>∃ p,omD G j m x S1 p∧a0x G es δ S1 Y fun ds S2=>T G.m0 (.obj p :: ds) S2 K fun C fs S'=>Y C fs δ S') h).then fun v H1 q=>?_
   obtain ⟨x,δ,S,Y,K,R,r,⟨p,⟨rfl,fs,at_p,free⟩,q⟩,res,rw'⟩:=q
   cases a0z r
   obtain ⟨dx,ws,here,fields⟩:=R.ce p _ at_p
   refine ⟨p,dx,ws,rfl,here,b0I fields free,?_⟩
   refine (a8g (t1:=a0x G es) (t2:=fun x ds δ S2 Y K=>T G.m0 (x :: ds) S2 K fun C fs S'=>Y C fs δ S') ⟨.obj p,δ,S,Y,K,R,r,q,res,rw'⟩).then fun vs H2 q=>?_
   obtain ⟨x,ds,δ,S,Y,K,R,r0,r1,q,res,rw'⟩:=q
   exact ⟨x :: ds,S,K,_,R.ce,by simp only [a0i];exact ⟨_,_,rfl,r0,r1⟩,q,res,fun C fs S' d H' y P cc z=>rw' C fs δ S' d σ H' y P (R.mono P cc) z⟩
  cases xs with
  | nil =>
   have hes:=hL.nl rfl
   refine PE.imp (b7E F rfl c.rm c.md cls is binds (fun σ=>L2N.passAt c.tk σ) ha (a7A hs rfl few hl)) fun σ H Q h=>(split h).then fun v H1 q=>?_
   obtain ⟨p,dx,fs,e,here,free,q⟩:=q
   refine ⟨p,dx,fs,e,here,free,?_⟩
   obtain ⟨δ,S,Y,K,R,ht,res,_⟩:=q
   rw [hes,a0x] at ht
   exact res [] S [] H1 ht (a0h.refl _ _) R.ce (by simp only [a0i])
  | cons y ys =>
   have st2:=st
   rw [List.all_cons,zak] at st2
   exact PE.imp (c1P F rfl c.rm c.md cls is binds (fun σ=>L2N.passAt c.tk σ) ha (hL.a X G W k c) (a7A hs st few hl) (a0m st2.1) (a09 st2.2)) fun σ H Q h=>split h
theorem c6P {j:Nat} {y:Str} {p:Pos} (c:XC n X G W k sc) (hj:enB n.fns j (.mt y "__init__")=true) (hd:(y == ("__debug__" : Str))=false) (hg:glB sc y=true) (hL:a9f n sc es xs):PE X (.Call (.Name y p) xs [] pos) (LE G.toGd W (den G (.mk j es))):=by
 by_cases hm:G.m0=none
 ·cases hT:G.fn false j with
  | none =>
   refine a0U fun δ S Y K h=>?_
   rw [den] at h
   obtain ⟨_,T,e,_⟩:=h
   rw [hT] at e;cases e
  | some T =>
   obtain ⟨at_y,f,fd,ps,kI,M,binds,hk,F⟩:=c.ok.made j T y hT (of_decide_eq_true hj)
   have mode:a1p X none:=by have:=c.md;rw [hm] at this;exact this
   have st:=hL.st
   have fin:∀ {σ H Q},LE G.toGd W (den G (.mk j es)) σ H Q→b5t (G.mc j) (spD G.toGd T) (WE W) (LA G.toGd W (a0x G es)) σ H Q:=fun {σ H Q} h=>by
    have h:=h.re (t':=fun δ S Y K=>a0x G es δ S Y fun ds S1=>∀ p,S1 p=none→T none (.obj p :: ds) (S1.set p (.ins (G.mc j) [])) (fun d S'=>d=.non∧K (.obj p) S') fun C fs S'=>Y C fs δ S') fun δ S Y K q=>by
     rw [den] at q
     obtain ⟨_,T',e,q⟩:=q
     rw [hT] at e;cases e
     exact q
    refine (a4u (t1:=a0x G es) (t2:=fun ds δ S1 Y K=>∀ p,S1 p=none→T none (.obj p :: ds) (S1.set p (.ins (G.mc j) [])) (fun d S'=>d=.non∧K (.obj p) S') fun C fs S'=>Y C fs δ S') h).then fun vs H1 q x dx fx fd apart=>?_
    obtain ⟨ds,δ,S,Y,K,R,r,q,res,rw'⟩:=q
    have young:upd H1 dx (.own x) x=none:=by rw [upd_ne (Ne.symm apart)];exact fx
    have P1:a0h S H1 S (upd H1 dx (.own x)):=a0h.new fd
    have P:a0h S H1 (S.set x (.ins (G.mc j) [])) (upd (upd H1 dx (.own x)) x (.ins (G.mc j) dx [])):=P1.trans (a0h.newC young)
    have cells:CellsOk G.toGd (S.set x (.ins (G.mc j) [])) (upd (upd H1 dx (.own x)) x (.ins (G.mc j) dx [])):=(R.ce.new fd).newC young ⟨dx,[],upd_same,by simp only [a2x]⟩
    exact ⟨.obj x :: ds,_,_,_,cells,by simp only [a0i];exact ⟨_,_,rfl,by simp only [Rep],r.mono P⟩,q x (R.ce.free fx),fun d S' v H' kk P2 c2 r2=>by
     obtain ⟨rfl,kk⟩:=kk
     exact ⟨a6a r2,res _ S' _ H' kk (P.trans P2) c2 (by simp only [Rep])⟩,fun C fs S' d H' y P2 cc z=>rw' C fs δ S' d σ H' y (P.trans P2) (R.mono (P.trans P2) cc) z⟩
   cases xs with
   | nil =>
    have hes:=hL.nl rfl
    refine PE.imp (b7B M F (c.rm.mono hk) mode (c.gl hg) at_y hd binds (fun σ=>L2N.passAt c.tk σ)) fun σ H Q h=>?_
    obtain ⟨δ,S,Y,K,R,ht,res,_⟩:=fin h
    rw [hes,a0x] at ht
    exact res [] S [] H ht (a0h.refl _ _) R.ce (by simp only [a0i])
   | cons z zs =>
    rw [List.all_cons,zak] at st
    exact PE.imp (pe_mk M F (c.rm.mono hk) mode (c.gl hg) at_y hd binds (fun σ=>L2N.passAt c.tk σ) (hL.a X G W k c) (a0m st.1) (a09 st.2)) fun σ H Q h=>fin h
 ·refine a0U fun δ S Y K h=>?_
  rw [den] at h
  exact hm h.1
theorem c2M {x:Expr} (ha:PE X x (LE G.toGd W (den G a))):PE X x (LE G.toGd W (den G (.lck a))) :=
 PE.imp (pe_lock ha) fun σ H Q h=>by
  obtain ⟨δ,S,Y,K,R,ht,res,rw'⟩:=h
  rw [den] at ht
  obtain ⟨d,kvs,at_d,ht⟩:=ht
  obtain ⟨ws,here,all⟩:=R.ce d _ at_d
  refine ⟨d,_,here,trivial,fun od=>?_⟩
  have P:a0h S H (S.set d (.loc kvs)) (upd H d (.frz od (.dK ws))):=a0h.write at_d
  refine ⟨δ,_,Y,_,R.mono P (R.ce.lock at_d here all),ht,fun x S1 v H1 kk P1 c1 r1=>⟨(PostW.unlock at_d P1).2,?_⟩,rw'.mono P⟩
  exact res _ _ v _ kk (a0h.unlock at_d P1) (CellsOk.unlock at_d all P1 c1) (r1.monoW (.write (PostW.unlock at_d P1).1))
theorem c6H {x:Expr} (ha:PE X x (LE G.toGd W (den G a))):PE X x (LE G.toGd W (den G (.fz a))) :=
 PE.imp ha fun σ H Q h=>by
  obtain ⟨δ,S,Y,K,R,ht,res,rw'⟩:=h
  rw [den] at ht
  refine ⟨δ,S,Y,_,R,ht,fun d S1 v H1 kk P c r=>?_,rw'⟩
  obtain ⟨p,rfl,⟨ds,at_p,q⟩ | ⟨ds,at_p,q⟩⟩:=kk
  ·cases a0z r
   exact res _ _ _ _ q (P.trans (a0h.freeze at_p)) (c.freeze at_p) (Rep.freeze c at_p)
  ·cases a0z r
   exact res _ _ _ _ q (P.trans (a0h.freeze at_p)) (c.freeze at_p) (Rep.freezeK c at_p)
theorem c2E {i:Nat} {x:Expr} (ha:PE X x (LE G.toGd W (den G a))):PE X x (LE G.toGd W (den G (.fzt i a))) :=
 PE.imp ha fun σ H Q h=>by
  obtain ⟨δ,S,Y,K,R,ht,res,rw'⟩:=h
  rw [den] at ht
  refine ⟨δ,S,Y,_,R,ht,fun d S1 v H1 kk P c r=>?_,rw'⟩
  obtain ⟨ds,p,l,rfl,at_i,at_p,q⟩:=kk
  refine res _ _ _ _ q (P.trans (a0h.freeze at_p)) (c.freeze at_p) ?_
  have r1:=r.mono (a0h.freeze at_p)
  simp only [Rep] at r1 ⊢
  obtain ⟨T,vs,rfl,at_T,all⟩:=r1
  refine ⟨T,vs,rfl,at_T,?_⟩
  obtain ⟨w,hw,rw2⟩:=all.get at_i
  cases a0z rw2
  have:=all.set (i:=i) (Rep.freeze c at_p)
  have e:vs.set i (V.ref p)=vs:=by
   apply List.ext_getElem?
   intro j
   by_cases e:i=j
   ·subst e;rw [List.getElem?_set_self (List.getElem?_eq_some_iff.mp hw).1,hw]
   ·rw [List.getElem?_set_ne e]
  rw [e] at this
  exact this
theorem c2Y {x y:Str} {p p2 cp:Pos} (c:XC n X G W k sc) (ex:x=("sorted" : Str)) (hg:glB sc x=true) (ey:y=("set" : Str)) (hg2:glB sc y=true) (hn:a0A l=true) (ha:PE X l (LE G.toGd W (den G a))) :
  PE X (.Call (.Name x p) [.Call (.Name y p2) [l] [] cp] [] pos) (LE G.toGd W (den G (.ofi a))):=by
 subst ex ey
 by_cases hm:G.m0=none
 ·have calm:X.calm=true:=by have:=c.md;rw [hm] at this;exact this.2
  refine PE.imp (b7C calm (c.gl hg) (c.ok.bt _ (by decide +kernel)) (c.gl hg2) (c.ok.bt _ (by decide +kernel)) ha (a0m hn)) fun σ H Q h=>?_
  have h:=h.re (t':=fun δ S Y K=>den G a δ S Y fun x S1=>∃ zs:List Int,vw S1 x=.lst (zs.map D.int)∧zs.length < 64∧∀ ns:List Int,ns.Pairwise (· < ·)→(∀ k,k∈ns↔k∈zs)→K (.lst (ns.map D.int)) S1) fun δ S Y K q=>by
   rw [den] at q
   exact q.2
  refine (a0D (t1:=den G a) (t2:=fun x δ S1 Y K=>∃ zs:List Int,vw S1 x=.lst (zs.map D.int)∧zs.length < 64∧∀ ns:List Int,ns.Pairwise (· < ·)→(∀ k,k∈ns↔k∈zs)→K (.lst (ns.map D.int)) S1) h).then fun v H1 q=>?_
  obtain ⟨x,δ,S,Y,K,R,r,⟨zs,seen,few,q⟩,res,_⟩:=q
  obtain ⟨d,ws,rfl,seq,all⟩:=a0r R.ce r seen
  rw [c.ok.K] at seq
  cases a4H zs all
  exact ⟨d,zs,rfl,seq,few,fun ns q' hs hm free=>res.outL (cell:=false) (q ns hs hm) R.ce (a6v _) free⟩
 ·refine a0U fun δ S Y K h=>?_
  rw [den] at h
  exact hm h.1
theorem c2Z {srt:Bool} {x y:Str} {p p2 cp:Pos} (c:XC n X G W k sc) (ex:x=b7s srt) (hg:glB sc x=true) (ey:y=("set" : Str)) (hg2:glB sc y=true) (hn:a0A l=true) (ha:PE X l (LE G.toGd W (den G a))) :
  PE X (.Call (.Name x p) [.Call (.Name y p2) [l] [] cp] [] pos) (LE G.toGd W (den G (.ofs srt a))):=by
 subst ex ey
 by_cases hm:G.m0=none
 ·have calm:X.calm=true:=by have:=c.md;rw [hm] at this;exact this.2
  refine PE.imp (b7D calm (c.gl hg) (c.ok.bt _ (by cases srt <;> decide +kernel)) (c.gl hg2) (c.ok.bt _ (by decide +kernel)) ha (a0m hn)) fun σ H Q h=>?_
  have h:=h.re (t':=fun δ S Y K=>den G a δ S Y fun x S1=>∃ zs:List Str,vw S1 x=.lst (zs.map D.str)∧(zs.length < 64∨((uniq zs).length < 64∧zs.length < 1000))∧if srt=true then ∃ cell,outL cell ((a0l (uniq zs)).map D.str) S1 K else K (.int ((uniq zs).length:Nat)) S1) fun δ S Y K q=>by
   rw [den] at q
   exact q.2
  refine (a0D (t1:=den G a) (t2:=fun x δ S1 Y K=>∃ zs:List Str,vw S1 x=.lst (zs.map D.str)∧(zs.length < 64∨((uniq zs).length < 64∧zs.length < 1000))∧if srt=true then ∃ cell,outL cell ((a0l (uniq zs)).map D.str) S1 K else K (.int ((uniq zs).length:Nat)) S1) h).then fun v H1 q=>?_
  obtain ⟨x,δ,S,Y,K,R,r,⟨zs,seen,few,q⟩,res,_⟩:=q
  obtain ⟨d,ws,rfl,seq,all⟩:=a0r R.ce r seen
  rw [c.ok.K] at seq
  cases a2h zs all
  refine ⟨d,zs,rfl,seq,few,?_⟩
  cases srt with
  | true =>
   obtain ⟨cell,q⟩:=q
   exact fun q' free=>res.outL (cell:=cell) q R.ce (a3l _) free
  | false=>exact res.int q R.ce
 ·refine a0U fun δ S Y K h=>?_
  rw [den] at h
  exact hm h.1
theorem c3h {cell:Bool} {x m:Str} {p cp ap:Pos} (c:XC n X G W k sc) (ex:x=("list" : Str)) (hg:glB sc x=true) (em:m=("values" : Str)) (hs:a9h l=true) (hl:(ap.endLine == cp.line)=true) (ha:PE X l (LE G.toGd W (den G a))) :
  PE X (.Call (.Name x p) [.Call (.Attribute l m ap) [] [] cp] [] pos) (LE G.toGd W (den G (.vls cell a))):=by
 subst ex em
 by_cases hm:G.m0=none
 ·have calm:X.calm=true:=by have:=c.md;rw [hm] at this;exact this.2
  refine PE.imp (b4Z calm ha (c.gl hg) (c.ok.bt _ (by decide +kernel)) (a3z hs) hl) fun σ H Q h=>?_
  have h:=h.re (t':=fun δ S Y K=>den G a δ S Y fun x S1=>∃ p kvs,x=.obj p∧S1 p=some (.dic kvs)∧outL cell (kvs.map (·.2)) S1 K) fun δ S Y K q=>by
   rw [den] at q
   exact q.2
  refine (a0D (t1:=den G a) (t2:=fun x δ S1 Y K=>∃ p kvs,x=.obj p∧S1 p=some (.dic kvs)∧outL cell (kvs.map (·.2)) S1 K) h).then fun v H1 q=>?_
  obtain ⟨x,δ,S,Y,K,R,r,⟨d,kvs,rfl,at_d,q⟩,res,_⟩:=q
  cases a0z r
  obtain ⟨ws,here,all⟩:=R.ce d _ at_d
  exact ⟨d,ws,rfl,here,fun q' free=>res.outL q R.ce (b0L all) free⟩
 ·refine a0U fun δ S Y K h=>?_
  rw [den] at h
  exact hm h.1
theorem c22 {cell:Bool} {kk:Nat} {p1 p2 p3:Pos} (c:XC n X G W k sc) (ha:PE X l (LE G.toGd W (den G a))):PE X (.Subscript l (.Slice none none (some (.UnaryOp .USub (.Constant (.int 1) kk p1) p2)) p3) pos) (LE G.toGd W (den G (.rev cell a))) :=
 PE.imp (pe_revL ha) fun σ H Q h=>by
  rw [den] at h
  refine (a0D (t1:=den G a) (t2:=fun x δ S1 Y K=>∃ ds,vw S1 x=.lst ds∧outL cell ds.reverse S1 K) h).then fun v H1 q=>?_
  obtain ⟨x,δ,S,Y,K,R,r,⟨ds,seen,q⟩,res,_⟩:=q
  obtain ⟨p,vs,rfl,seq,all⟩:=a0r R.ce r seen
  rw [c.ok.K] at seq
  exact ⟨p,vs,rfl,seq,fun q' free=>res.outL q R.ce all.reverse free⟩
theorem c23 {j kk:Nat} {lo:Option Expr} {p2 p3:Pos} (c:XC n X G W k sc) (hlo:loE j lo=true) (ha:PE X l (LE G.toGd W (den G a))):PE X (.Subscript l (.Slice lo none (some (.Constant (.int 2) kk p2)) p3) pos) (LE G.toGd W (den G (.sl2 j a))) :=
 PE.imp (b7A ha hlo) fun σ H Q h=>by
  rw [den] at h
  refine (a0D (t1:=den G a) (t2:=fun x δ S1 Y K=>∃ ds,vw S1 x=.lst ds∧K (.lst (ev2 j ds)) S1) h).then fun v H1 q=>?_
  obtain ⟨x,δ,S,Y,K,R,r,⟨ds,seen,q⟩,res,_⟩:=q
  obtain ⟨p,vs,rfl,seq,all⟩:=a0r R.ce r seen
  rw [c.ok.K] at seq
  exact ⟨p,vs,rfl,seq,fun q' free=>res.lst q R.ce (b2p all j) free⟩
def c6v (g:Gd) (p:Addr) (kvs:List (Key × D)):R2:=fun v u H Q=>∃ y S K,CellsOk g S H∧v=.ref p∧Rep g S H y u∧(∃ z d,y=.str z∧valD kvs (.inr z)=some d∧K d S)∧Res g S H K Q
theorem b4p {g:Gd} {p:Addr} {kvs:List (Key × D)} (hK:g.K=X.K) (T:b8Q X.K X.w p kvs):IxR X (c6v g p kvs):=by
 intro value slice pins s σ H v1 v2 u1 u2 Q I r1 r2 h hs
 obtain ⟨y,S,K,hc,rfl,ry,⟨z,d,rfl,e,k⟩,res⟩:=h
 cases a0B ry
 obtain ⟨es,n,D,at_⟩:=T
 have h:=at_ z
 rw [e] at h
 obtain ⟨u,v,e1,e2,e3⟩:=h
 have eg:(⟨X.K⟩:Gd)=g:=by cases g;cases hK;rfl
 rw [eg] at e3
 exact ix_kdict value slice pins s σ H _ _ _ _ Q I r1 r2 ⟨p,z,v,rfl,rfl,⟨es,n,u,D.at_,D.lit,e1,e2⟩,res.val k hc (e3 S H)⟩ hs
def c6w (g:Gd) (p:Addr) (kvs:List (Key × D)) (neg:Bool):R2:=fun u v H Q=>∃ y S K,CellsOk g S H∧v=.ref p∧Rep g S H y u∧(∃ z,y=.str z∧K (.bl (neg ^^ (valD kvs (.inr z)).isSome)) S)∧Res g S H K Q
theorem a91 {g:Gd} {p:Addr} {kvs:List (Key × D)} (T:b8Q X.K X.w p kvs):∀ neg:Bool,OpR X (compareOp (if neg=true then CmpOp.NotIn else CmpOp.In)) (c6w g p kvs neg):=by
 intro neg pins s σ H u1 v1 u2 v2 Q I r1 r2 h
 obtain ⟨y,S,K,hc,rfl,ry,⟨z,rfl,k⟩,res⟩:=h
 cases a0B ry
 obtain ⟨es,n,D,at_⟩:=T
 have h:=at_ z
 have key:∃ r,PySem.W.nsIn X.K p z=some r∧r.isSome=(valD kvs (.inr z)).isSome:=by
  cases e:valD kvs (.inr z) with
  | none=>rw [e] at h;exact ⟨none,h,rfl⟩
  | some d =>
   rw [e] at h
   obtain ⟨u,v,e1,_⟩:=h
   exact ⟨some u,e1,rfl⟩
 obtain ⟨r,e,er⟩:=key
 rw [← er] at k
 cases neg with
 | false =>
  rw [Bool.false_xor] at k
  exact op_in_kd D pins s σ H _ _ _ _ Q I r1 r2 ⟨z,r,rfl,rfl,e,res.bl k hc⟩
 | true =>
  rw [Bool.true_xor] at k
  exact op_notIn_kd D pins s σ H _ _ _ _ Q I r1 r2 ⟨z,r,rfl,rfl,e,res.bl k hc⟩
theorem c2K {j:Nat} {y:Str} {p1:Pos} (c:XC n X G W k sc) (hn:nmB n.gvs j y=true) (hg:glB sc y=true) (hs:a3d r=true) (ha:PE X r (LE G.toGd W (den G a))):PE X (.Subscript (.Name y p1) r pos) (LE G.toGd W (den G (.kix j a))):=by
 cases e:G.kd j with
 | none =>
  refine ⟨fun pins s σ H Q I h=>?_⟩
  obtain ⟨δ,S,Y,K,R,ht,_⟩:=h
  rw [den] at ht
  obtain ⟨_,e',_⟩:=ht
  rw [e] at e'
  cases e'
 | some kvs =>
  obtain ⟨p,h1,T⟩:=c.ok.kd j y kvs (a0M hn).1 e
  refine PE.imp (pe_ix (b4p c.ok.K T) (pe_glob (v:=.ref p) (c.gl hg) h1 rfl (a0M hn).2.1) ha (a6N hs)) fun σ H Q h=>?_
  obtain ⟨δ,S,Y,K,R,ht,res,rw'⟩:=h
  rw [den] at ht
  obtain ⟨kvs',e',q⟩:=ht
  rw [e] at e'
  cases e'
  exact ⟨δ,S,Y,_,R,q,fun x S1 v1 H1 kk P cc r=>⟨x,S1,K,cc,rfl,r,kk,res.mono P⟩,rw'⟩
theorem c2I {neg:Bool} {j:Nat} {y:Str} {p1:Pos} (c:XC n X G W k sc) (hn:nmB n.gvs j y=true) (hg:glB sc y=true) (ha:PE X l (LE G.toGd W (den G a))):PE X (.Compare l [if neg=true then CmpOp.NotIn else CmpOp.In] [.Name y p1] pos) (LE G.toGd W (den G (.kin neg j a))):=by
 cases e:G.kd j with
 | none =>
  refine ⟨fun pins s σ H Q I h=>?_⟩
  obtain ⟨δ,S,Y,K,R,ht,_⟩:=h
  rw [den] at ht
  obtain ⟨_,e',_⟩:=ht
  rw [e] at e'
  cases e'
 | some kvs =>
  obtain ⟨p,h1,T⟩:=c.ok.kd j y kvs (a0M hn).1 e
  refine PE.imp (pe_cmpR (a91 (g:=G.toGd) T neg) ha (pe_glob (v:=.ref p) (c.gl hg) h1 rfl (a0M hn).2.1) (a2r (e:=.Name y p1) rfl _)) fun σ H Q h=>?_
  obtain ⟨δ,S,Y,K,R,ht,res,rw'⟩:=h
  rw [den] at ht
  obtain ⟨kvs',e',q⟩:=ht
  rw [e] at e'
  cases e'
  exact ⟨δ,S,Y,_,R,q,fun x S1 v1 H1 kk P cc r=>⟨x,S1,K,cc,rfl,r,kk,res.mono P⟩,rw'⟩
theorem b7Q {neg:Bool} {j:Nat} {y:Str} {p1:Pos} (c:XC n X G W k sc) (hn:nmB n.gvs j y=true) (hg:glB sc y=true) (ha:PE X l (LE G.toGd W (den G a))):PT X (.Compare l [if neg=true then CmpOp.NotIn else CmpOp.In] [.Name y p1] pos) (LT G.toGd W (a0u G (.kin neg j a))):=by
 cases e:G.kd j with
 | none =>
  refine ⟨fun pins s σ H Q I h=>?_⟩
  obtain ⟨δ,S,Y,K,R,ht,_⟩:=h
  rw [a0u] at ht
  obtain ⟨_,e',_⟩:=ht
  rw [e] at e'
  cases e'
 | some kvs =>
  obtain ⟨p,h1,T⟩:=c.ok.kd j y kvs (a0M hn).1 e
  refine PT.imp (pt_cmpR (a91 (g:=G.toGd) T neg) ha (pe_glob (v:=.ref p) (c.gl hg) h1 rfl (a0M hn).2.1) (a2r (e:=.Name y p1) rfl _)) fun σ H Q h=>?_
  rw [a0u] at h
  have h:=b4C (t:=fun δ S Y K=>∃ kvs,G.kd j=some kvs∧den G a δ S Y fun x S1=>∃ z,x=.str z∧K (.bl (neg ^^ (valD kvs (.inr z)).isSome)) S1) h
  obtain ⟨δ,S,Y,K,R,⟨kvs',e',q⟩,res,rw'⟩:=h
  rw [e] at e'
  cases e'
  exact ⟨δ,S,Y,_,R,q,fun x S1 v1 H1 kk P cc r=>⟨x,S1,K,cc,rfl,r,kk,res.mono P⟩,rw'⟩
end
end Sv
namespace Sv
open PySem PySem.Spec PyProof.Rows L2
open L2H (RoomH)
section
variable {g:Gd} {S1:SS} {H1:Hp}
theorem b1M {d:D} {v:V} {ds:List D} {a:Addr} (e:v=.ref a) (r:Rep g S1 H1 d v):a9k g S1 H1 (Itl g.K a) ds fun S'=>vw S' d=.lst ds:=by
 subst e
 have get:∀ {S H},a0h S1 H1 S H→CellsOk g S H→vw S d=.lst ds→∃ vs,SqL g.K H a vs∧a0i g S H ds vs:=fun {S H} P c ok=>by
  obtain ⟨p,vs,e,hl,hr⟩:=a0r c (r.mono P) ok
  cases e
  exact ⟨vs,hl,hr⟩
 refine ⟨fun i S H hi P c ok=>?_,fun i S H x H' d' hd P c ok y=>?_,fun i S H hi P c ok=>?_⟩
 ·obtain ⟨vs,hl,hr⟩:=get P c ok
  have:=hr.length
  exact ⟨vs,vs[i]'(by omega),hl,by simp⟩
 ·obtain ⟨vs,hl,hr⟩:=get P c ok
  obtain ⟨e,y⟩:=y
  subst e
  obtain ⟨w,hw,rw'⟩:=hr.get hd
  have:=y vs hl
  rw [hw] at this
  cases this
  exact ⟨a0h.refl _ _,c,rw'⟩
 ·obtain ⟨vs,hl,hr⟩:=get P c ok
  exact ⟨vs,hl,by rw [← hr.length];exact hi⟩
theorem b1O {d:D} {v:V} {ds:List D} {a:Addr} (e:v=.ref a) (r:Rep g S1 H1 d v) (ed:vw S1 d=.tup ds):a9k g S1 H1 (Itt g.K a) ds fun S'=>True:=by
 subst e
 have ed':=a7V ed
 subst ed'
 have get:∀ {S H},a0h S1 H1 S H→∃ vs,SqT g.K H a vs∧a0i g S H ds vs:=fun {S H} P=>by
  obtain ⟨p,vs,e,hl,hr⟩:=a0H (S:=S) (d:=.tup ds) (r.mono P) rfl
  cases e
  exact ⟨vs,hl,hr⟩
 refine ⟨fun i S H hi P c ok=>?_,fun i S H x H' d' hd P c ok y=>?_,fun i S H hi P c ok=>?_⟩
 ·obtain ⟨vs,hl,hr⟩:=get P
  have:=hr.length
  exact ⟨vs,vs[i]'(by omega),hl,by simp⟩
 ·obtain ⟨vs,hl,hr⟩:=get P
  obtain ⟨e,y⟩:=y
  subst e
  obtain ⟨w,hw,rw'⟩:=hr.get hd
  have:=y vs hl
  rw [hw] at this
  cases this
  exact ⟨a0h.refl _ _,c,rw'⟩
 ·obtain ⟨vs,hl,hr⟩:=get P
  exact ⟨vs,hl,by rw [← hr.length];exact hi⟩
theorem a1t {lo:Int} {n:Nat}:(a7L lo n).length=n:=by simp [a7L]
theorem a7M {lo:Int} {n i:Nat} {d:D} (h:(a7L lo n)[i]?=some d):i < n∧d=.int (lo + (i:Int)):=by
 unfold a7L at h
 rw [zbh] at h
 cases e:(List.range n)[i]? with
 | none=>rw [e] at h;cases h
 | some j =>
  rw [e] at h
  cases h
  obtain ⟨h1,h2⟩:=List.getElem?_eq_some_iff.mp e
  rw [List.getElem_range] at h2
  subst h2
  exact ⟨by simpa using h1,rfl⟩
theorem a8e {lo:Int} {n:Nat}:a9k g S1 H1 (Itr lo n) (a7L lo n) fun S'=>True:=by
 refine ⟨fun i S H hi P c ok=>?_,fun i S H x H' d' hd P c ok y=>?_,fun i S H hi P c ok=>?_⟩
 ·rw [a1t] at hi;exact hi
 ·obtain ⟨e,y⟩:=y
  subst e y
  obtain ⟨_,rfl⟩:=a7M hd
  exact ⟨a0h.refl _ _,c,by simp only [Rep]⟩
 ·rw [a1t] at hi;exact hi
theorem b1N {z:Str}:a9k g S1 H1 (Its z) (a1n z) fun S'=>True:=by
 have len:(a1n z).length=z.cps.size:=by unfold a1n;rw [zag,Array.length_toList]
 refine ⟨fun i S H hi P c ok=>?_,fun i S H x H' d' hd P c ok y=>?_,fun i S H hi P c ok=>?_⟩
 ·rw [len] at hi;exact hi
 ·obtain ⟨rfl,code,at_i,rfl⟩:=y
  unfold a1n at hd
  rw [zbh,Array.getElem?_toList,at_i] at hd
  cases hd
  exact ⟨a0h.refl _ _,c,by simp only [Rep]⟩
 ·rw [len] at hi;exact hi
theorem a2c {ds:List D}:(a2b ds).length=ds.length:=by unfold a2b;rw [zag,List.length_zipIdx]
theorem a5M {ds:List D} {i:Nat} {d:D} (h:(a2b ds)[i]?=some d):∃ e,ds[i]?=some e∧d=.tup [.int (i:Nat),e]:=by
 unfold a2b at h
 rw [zbh,List.getElem?_zipIdx] at h
 cases q:ds[i]? with
 | none=>rw [q] at h;cases h
 | some e=>rw [q] at h;cases h;exact ⟨e,rfl,by simp⟩
theorem a3Z {S:SS} {H:Hp} {T:Addr} {d e:D} {v u:V} (c:CellsOk g S H) (free:H T=none) (r1:Rep g S H d v) (r2:Rep g S H e u):a0h S H S (upd H T (.tup [v,u]))∧CellsOk g S (upd H T (.tup [v,u]))∧Rep g S (upd H T (.tup [v,u])) (.tup [d,e]) (.ref T):=by
 have P:a0h S H S (upd H T (.tup [v,u])):=a0h.new free
 refine ⟨P,c.new free,?_⟩
 simp only [Rep,a0i]
 exact ⟨T,_,rfl,.inl ⟨c.free free,upd_same⟩,v,_,rfl,r1.mono P,u,_,rfl,r2.mono P,rfl⟩
theorem a95 {d:D} {v:V} {ds:List D} {a:Addr} (e:v=.ref a) (r:Rep g S1 H1 d v):a9k g S1 H1 (Ite g.K a) (a2b ds) fun S'=>vw S' d=.lst ds:=by
 subst e
 have get:∀ {S H},a0h S1 H1 S H→CellsOk g S H→vw S d=.lst ds→∃ vs,SqL g.K H a vs∧a0i g S H ds vs:=fun {S H} P c ok=>by
  obtain ⟨p,vs,e,hl,hr⟩:=a0r c (r.mono P) ok
  cases e
  exact ⟨vs,hl,hr⟩
 refine ⟨fun i S H hi P c ok=>?_,fun i S H x H' d' hd P c ok y=>?_,fun i S H hi P c ok=>?_⟩
 ·obtain ⟨vs,hl,hr⟩:=get P c ok
  have same:=hr.length
  rw [a2c] at hi
  exact ⟨vs,vs[i]'(by omega),hl,by simp⟩
 ·obtain ⟨vs,hl,hr⟩:=get P c ok
  obtain ⟨T,x0,rfl,free,rfl,at_i⟩:=y
  obtain ⟨e0,he,rfl⟩:=a5M hd
  obtain ⟨w,hw,rw'⟩:=hr.get he
  have:=at_i vs hl
  rw [hw] at this
  cases this
  exact a3Z c free (by simp only [Rep]) rw'
 ·obtain ⟨vs,hl,hr⟩:=get P c ok
  rw [a2c] at hi
  exact ⟨vs,hl,by rw [← hr.length];exact hi⟩
theorem a4Y:∀ {xs ys:List D},(a2B xs ys).length=min xs.length ys.length
 | [],_=>by simp [a2B]
 | _ :: _,[]=>by simp [a2B]
 | _ :: xs,_ :: ys=>by simp only [a2B,zaz,a4Y (xs:=xs) (ys:=ys)];omega
theorem a8K:∀ {xs ys:List D} {i:Nat} {d:D},(a2B xs ys)[i]?=some d→∃ x y,xs[i]?=some x∧ys[i]?=some y∧d=.tup [x,y]
 | [],_,_,_,h=>by simp [a2B] at h
 | _ :: _,[],_,_,h=>by simp [a2B] at h
 | x :: xs,y :: ys,0,d,h=>by
  simp only [a2B,List.getElem?_cons_zero,Option.some.injEq] at h
  exact ⟨x,y,rfl,rfl,h.symm⟩
 | x :: xs,y :: ys,i + 1,d,h=>by
  simp only [a2B,List.getElem?_cons_succ] at h ⊢
  exact a8K h
theorem a3I {t:Bool} {S:SS} {H:Hp} {xs:List D} {a:Addr} (c:CellsOk g S H) (r:Rep g S H (sqv t xs) (.ref a)):∃ vs,SqB g.K t H a vs∧a0i g S H xs vs:=by
 cases t
 ·obtain ⟨p,vs,e,hl,hr⟩:=a0r (S:=S) (d:=.lst xs) c r rfl
  cases e
  exact ⟨vs,hl,hr⟩
 ·obtain ⟨p,vs,e,hl,hr⟩:=a0H (S:=S) (d:=.tup xs) r rfl
  cases e
  exact ⟨vs,hl,hr⟩
theorem b3f {t:Bool} {S:SS} {H:Hp} {xs:List D} {v:V} (c:CellsOk g S H) (r:Rep g S H (sqv t xs) v):∃ a,v=.ref a:=by
 cases t
 ·obtain ⟨p,vs,e,_⟩:=a0r (S:=S) (d:=.lst xs) c r rfl
  exact ⟨p,e⟩
 ·obtain ⟨p,vs,e,_⟩:=a0H (S:=S) (d:=.tup xs) r rfl
  exact ⟨p,e⟩
theorem b1P {t1 t2:Bool} {xs ys:List D} {a b:Addr} (r1:Rep g S1 H1 (sqv t1 xs) (.ref a)) (r2:Rep g S1 H1 (sqv t2 ys) (.ref b)):a9k g S1 H1 (b9J g.K t1 a t2 b) (a2B xs ys) fun _=>True:=by
 refine ⟨fun i S H hi P c ok=>?_,fun i S H x H' d' hd P c ok y=>?_,fun i S H hi P c ok=>?_⟩
 ·obtain ⟨vs,hl,hr⟩:=a3I c (r1.mono P)
  obtain ⟨us,hl2,hr2⟩:=a3I c (r2.mono P)
  have l1:=hr.length
  have l2:=hr2.length
  rw [a4Y] at hi
  exact ⟨vs,us,vs[i]'(by omega),us[i]'(by omega),hl,hl2,by simp,by simp⟩
 ·obtain ⟨vs,hl,hr⟩:=a3I c (r1.mono P)
  obtain ⟨us,hl2,hr2⟩:=a3I c (r2.mono P)
  obtain ⟨T,x0,y0,rfl,free,rfl,at1,at2⟩:=y
  obtain ⟨e1,e2,h1,h2,rfl⟩:=a8K hd
  obtain ⟨w1,hw1,q1⟩:=hr.get h1
  obtain ⟨w2,hw2,q2⟩:=hr2.get h2
  have k1:=at1 vs hl
  rw [hw1] at k1
  cases k1
  have k2:=at2 us hl2
  rw [hw2] at k2
  cases k2
  exact a3Z c free q1 q2
 ·obtain ⟨vs,hl,hr⟩:=a3I c (r1.mono P)
  obtain ⟨us,hl2,hr2⟩:=a3I c (r2.mono P)
  have l1:=hr.length
  have l2:=hr2.length
  rw [a4Y] at hi
  exact ⟨vs,us,hl,hl2,by omega⟩
theorem a8X {v:V} {ds:List D} {a:Addr} (e:v=.ref a) (r:Rep g S1 H1 (.tup ds) v):a9k g S1 H1 (b9I g.K a) (a2b ds) fun _=>True:=by
 subst e
 have get:∀ {S H},a0h S1 H1 S H→∃ vs,SqT g.K H a vs∧a0i g S H ds vs:=fun {S H} P=>by
  obtain ⟨p,vs,e,hl,hr⟩:=a0H (S:=S) (d:=.tup ds) (r.mono P) rfl
  cases e
  exact ⟨vs,hl,hr⟩
 refine ⟨fun i S H hi P c ok=>?_,fun i S H x H' d' hd P c ok y=>?_,fun i S H hi P c ok=>?_⟩
 ·obtain ⟨vs,hl,hr⟩:=get P
  have same:=hr.length
  rw [a2c] at hi
  exact ⟨vs,vs[i]'(by omega),hl,by simp⟩
 ·obtain ⟨vs,hl,hr⟩:=get P
  obtain ⟨T,x0,rfl,free,rfl,at_i⟩:=y
  obtain ⟨e0,he,rfl⟩:=a5M hd
  obtain ⟨w,hw,rw'⟩:=hr.get he
  have:=at_i vs hl
  rw [hw] at this
  cases this
  exact a3Z c free (by simp only [Rep]) rw'
 ·obtain ⟨vs,hl,hr⟩:=get P
  rw [a2c] at hi
  exact ⟨vs,hl,by rw [← hr.length];exact hi⟩
theorem a8z {S:SS} {H:Hp} (k:Key):Rep g S H (keyV k) (kV k):=by
 cases k <;> simp only [keyV,kV,Rep]
theorem a5U {S:SS} {H:Hp} {a:Addr} {kvs:List (Key × D)} {ws:List (Key × V)} {o:Obj} (at_a:S1 a=some (.loc kvs)) (here:H1 a=some (.frz o (.dK ws))) (all:a0V g S1 H1 kvs ws) (P:a0h S1 H1 S H):H a=some (.frz o (.dK ws))∧a0V g S H kvs ws :=
 ⟨(P.lk a kvs _ at_a here).2,all.mono P⟩
theorem b0J {S:SS} {H:Hp} {kvs:List (Key × D)} {ws:List (Key × V)} {i:Nat} {p:Key × D} (r:a0V g S H kvs ws) (e:kvs[i]?=some p):∃ w,ws[i]?=some (p.1,w)∧Rep g S H p.2 w:=by
 obtain ⟨q,e2,same,like⟩:=b0E (a05 r) e
 obtain ⟨k,w⟩:=q
 cases same
 exact ⟨w,e2,like⟩
theorem a96 {a:Addr} {kvs:List (Key × D)} {ws:List (Key × V)} {o:Obj} (at_a:S1 a=some (.loc kvs)) (here:H1 a=some (.frz o (.dK ws))) (all:a0V g S1 H1 kvs ws):a9k g S1 H1 (Itk a o ws) (kvs.map fun kv=>keyV kv.1) fun S'=>True:=by
 have same:kvs.length=ws.length:=Paired.length (a05 all)
 refine ⟨fun i S H hi P c ok=>?_,fun i S H x H' d' hd P c ok y=>?_,fun i S H hi P c ok=>?_⟩
 ·rw [zag] at hi
  exact ⟨(a5U at_a here all P).1,by omega⟩
 ·obtain ⟨rfl,k,v,at_i,rfl⟩:=y
  rw [zbh,zam] at hd
  obtain ⟨p,hp,rfl⟩:=hd
  obtain ⟨w,hw,_⟩:=b0J all hp
  rw [at_i] at hw
  cases hw
  exact ⟨a0h.refl _ _,c,a8z _⟩
 ·rw [zag] at hi
  exact ⟨(a5U at_a here all P).1,by omega⟩
theorem a8Y {a:Addr} {kvs:List (Key × D)} {ws:List (Key × V)} {o:Obj} (at_a:S1 a=some (.loc kvs)) (here:H1 a=some (.frz o (.dK ws))) (all:a0V g S1 H1 kvs ws):a9k g S1 H1 (Iti a o ws) (kvs.map fun kv=>.tup [keyV kv.1,kv.2]) fun S'=>True:=by
 have same:kvs.length=ws.length:=Paired.length (a05 all)
 refine ⟨fun i S H hi P c ok=>?_,fun i S H x H' d' hd P c ok y=>?_,fun i S H hi P c ok=>?_⟩
 ·rw [zag] at hi
  exact ⟨(a5U at_a here all P).1,by omega⟩
 ·obtain ⟨T,k,v,at_i,rfl,free,rfl⟩:=y
  rw [zbh,zam] at hd
  obtain ⟨p,hp,rfl⟩:=hd
  obtain ⟨w,hw,like⟩:=b0J (all.mono P) hp
  rw [at_i] at hw
  cases hw
  exact a3Z c free (a8z _) like
 ·rw [zag] at hi
  exact ⟨(a5U at_a here all P).1,by omega⟩
end
section
variable {n:SN} {X:Cx} {G:Gm} {W:WX} {k:Nat} {sc:Scope} {a b c':RE} {l r t:Expr} {pos:Pos} {es:RL} {xs:List Expr}
theorem b1d {tg:Expr} {g:Gd} {t1:RdE} {t2:D→RdI} {σ:L2.St} {H:Hp} {R:It→Hp→Prop} (h:LI g W (fun δ S Y K=>t1 δ S Y fun x S1=>t2 x δ S1 Y K) σ H R) :
  LE g W t1 σ H fun v H1=>∃ x δ S Y K,Rel g S H1 δ σ∧Rep g S H1 x v∧t2 x δ S Y K∧(∀ ds ok S' H' J,K ds ok S'→a0h S H1 S' H'→CellsOk g S' H'→a9k g S' H' J ds ok→R J H')∧a69 g S H1 Y W:=by
 obtain ⟨δ,S,Y,K,R0,ht,res,rw'⟩:=h
 exact ⟨δ,S,Y,_,R0,ht,fun d S1 v H1 k P c r=>⟨d,δ,S1,Y,K,R0.mono P c,r,k,fun ds ok S' H' J q P2=>res ds ok S' H' J q (P.trans P2),rw'.mono P⟩,rw'⟩
theorem c1o {tg:Expr} (c:XC n X G W k sc) (ha:PE X l (LE G.toGd W (den G a))):PI X tg l (LI G.toGd W (a02 G (.lst a))) :=
 PI.imp (pi_list ha) fun σ H R h=>by
  have h:LI G.toGd W (fun δ S Y K=>den G a δ S Y fun d S1=>∃ ds,vw S1 d=.lst ds∧K ds (fun S'=>vw S' d=.lst ds) S1) σ H R:=by
   obtain ⟨δ,S,Y,K,R,ht,q⟩:=h
   rw [a02] at ht
   exact ⟨δ,S,Y,K,R,ht,q⟩
  refine (b1d (tg:=tg) (t1:=den G a) (t2:=fun d δ S1 Y K=>∃ ds,vw S1 d=.lst ds∧K ds (fun S'=>vw S' d=.lst ds) S1) h).then fun v H1 q=>?_
  obtain ⟨x,δ,S,Y,K,R,r,⟨ds,e,q⟩,res,_⟩:=q
  obtain ⟨p,vs,rfl,hl,hr⟩:=a0r R.ce r e
  rw [c.ok.K] at hl
  refine ⟨p,rfl,⟨vs,hl⟩,?_⟩
  have:=res ds _ S H1 _ q (a0h.refl _ _) R.ce (b1M rfl r)
  rwa [c.ok.K] at this
theorem c1q {tg:Expr} (c:XC n X G W k sc) (ha:PE X l (LE G.toGd W (den G a))):PI X tg l (LI G.toGd W (a02 G (.tup a))) :=
 PI.imp (pi_tup ha) fun σ H R h=>by
  have h:LI G.toGd W (fun δ S Y K=>den G a δ S Y fun d S1=>∃ ds,vw S1 d=.tup ds∧K ds (fun S'=>True) S1) σ H R:=by
   obtain ⟨δ,S,Y,K,R,ht,q⟩:=h
   rw [a02] at ht
   exact ⟨δ,S,Y,K,R,ht,q⟩
  refine (b1d (tg:=tg) (t1:=den G a) (t2:=fun d δ S1 Y K=>∃ ds,vw S1 d=.tup ds∧K ds (fun S'=>True) S1) h).then fun v H1 q=>?_
  obtain ⟨x,δ,S,Y,K,R,r,⟨ds,e,q⟩,res,_⟩:=q
  obtain ⟨p,vs,rfl,hl,hr⟩:=a0H r e
  rw [c.ok.K] at hl
  refine ⟨p,rfl,⟨vs,hl⟩,?_⟩
  have:=res ds _ S H1 _ q (a0h.refl _ _) R.ce (b1O rfl r e)
  rwa [c.ok.K] at this
theorem b64 {tg:Expr} {p:Pos} (c:XC n X G W k sc) (hg:glB sc "range" = true) (hs:a0A l=true) (ha:PE X l (LE G.toGd W (den G a))):PI X tg (.Call (.Name "range" p) [l] [] pos) (LI G.toGd W (a02 G (.rng1 a))) :=
 PI.imp (pi_range1 (c.gl hg) (c.ok.bt _ (by decide +kernel)) (pa_cons ha pa_nil (a0m hs)) (a0m hs)) fun σ H R h=>by
  have h:LI G.toGd W (fun δ S Y K=>den G a δ S Y fun d S1=>∃ j,d=.int j∧-(2 ^ 62)≤j∧j < 2 ^ 62∧K (a7L 0 j.toNat) (fun _=>True) S1) σ H R:=by
   obtain ⟨δ,S,Y,K,R,ht,q⟩:=h
   rw [a02] at ht
   exact ⟨δ,S,Y,K,R,ht,q⟩
  refine (b1d (tg:=tg) (t1:=den G a) (t2:=fun d δ S1 Y K=>∃ j,d=.int j∧-(2 ^ 62)≤j∧j < 2 ^ 62∧K (a7L 0 j.toNat) (fun _=>True) S1) h).then fun v H1 q=>?_
  obtain ⟨x,δ,S,Y,K,R,r,⟨j,rfl,h1,h2,q⟩,res,_⟩:=q
  cases a0k r
  exact ⟨j,rfl,h1,h2,res _ _ S H1 _ q (a0h.refl _ _) R.ce a8e⟩
theorem b65 {tg:Expr} {p:Pos} (c:XC n X G W k sc) (hg:glB sc "range" = true) (hs:a0A l=true) (hs2:a0A r=true) (ha:PE X l (LE G.toGd W (den G a))) (hb:PE X r (LE G.toGd W (den G b))):PI X tg (.Call (.Name "range" p) [l,r] [] pos) (LI G.toGd W (a02 G (.rng2 a b))) :=
 PI.imp (pi_range2 (c.gl hg) (c.ok.bt _ (by decide +kernel)) (pa_cons ha (pa_cons hb pa_nil (a0m hs2)) (a0m hs)) (by rw [a0m hs,a0m hs2];rfl) (by rw [a0m hs2];rfl)) fun σ H R h=>by
  have h:LI G.toGd W (fun δ S Y K=>den G a δ S Y fun d S1=>den G b δ S1 Y fun d2 S2=>∃ i j,d=.int i∧d2=.int j∧(-(2 ^ 62)≤i∧i < 2 ^ 62∧-(2 ^ 62)≤j∧j < 2 ^ 62)∧K (a7L i (j - i).toNat) (fun _=>True) S2) σ H R:=by
   obtain ⟨δ,S,Y,K,R,ht,q⟩:=h
   rw [a02] at ht
   exact ⟨δ,S,Y,K,R,ht,q⟩
  refine (b1d (tg:=tg) (t1:=den G a) (t2:=fun d δ S1 Y K=>den G b δ S1 Y fun d2 S2=>∃ i j,d=.int i∧d2=.int j∧(-(2 ^ 62)≤i∧i < 2 ^ 62∧-(2 ^ 62)≤j∧j < 2 ^ 62)∧K (a7L i (j - i).toNat) (fun _=>True) S2) h).then fun v H1 q=>?_
  obtain ⟨x,δ,S,Y,K,R,r,q,res,rw'⟩:=q
  refine ⟨δ,S,Y,_,R,q,fun d S1 v2 H2 kk P cc r2=>?_,rw'⟩
  obtain ⟨i,j,rfl,rfl,hb,q⟩:=kk
  cases a0k r
  cases a0k r2
  exact ⟨i,j,rfl,hb,res _ _ S1 H2 _ q P cc a8e⟩
theorem b0f {g:Gd} {t t':RdI} {σ:L2.St} {H:Hp} {R:It→Hp→Prop} (h:LI g W t σ H R) (w:∀ δ S Y K,t δ S Y K→t' δ S Y K):LI g W t' σ H R:=by
 obtain ⟨δ,S,Y,K,R0,ht,q⟩:=h
 exact ⟨δ,S,Y,K,R0,w _ _ _ _ ht,q⟩
theorem c1p {tg:Expr} (ha:PE X l (LE G.toGd W (den G a))):PI X tg l (LI G.toGd W (a02 G (.str a))) :=
 PI.imp (pi_str ha) fun σ H R h=>by
  refine (b1d (tg:=tg) (t1:=den G a) (t2:=fun d δ S1 Y K=>∃ z,d=.str z∧K (a1n z) (fun _=>True) S1) (b0f h fun δ S Y K q=>by rw [a02] at q;exact q)).then fun v H1 q=>?_
  obtain ⟨x,δ,S,Y,K,R,r,⟨z,rfl,q⟩,res,_⟩:=q
  exact ⟨z,a0B r,res _ _ S H1 _ q (a0h.refl _ _) R.ce b1N⟩
theorem b63 {tg:Expr} (ha:PE X l (LE G.toGd W (den G a))):PI X tg l (LI G.toGd W (a02 G (.keys a))) :=
 PI.imp (pi_keys ha) fun σ H R h=>by
  refine (b1d (tg:=tg) (t1:=den G a) (t2:=fun d δ S1 Y K=>∃ a kvs,d=.obj a∧S1 a=some (.loc kvs)∧K (kvs.map fun kv=>keyV kv.1) (fun _=>True) S1) (b0f h fun δ S Y K q=>by rw [a02] at q;exact q)).then fun v H1 q=>?_
  obtain ⟨x,δ,S,Y,K,R,r,⟨d,kvs,rfl,at_d,q⟩,res,_⟩:=q
  cases a0z r
  obtain ⟨ws,o,here,all⟩:=R.ce d _ at_d
  exact ⟨d,o,rfl,.inl ⟨ws,here,res _ _ S H1 _ q (a0h.refl _ _) R.ce (a96 at_d here all)⟩⟩
theorem b4i {elts:List Expr} {kk:Nat} {tpos cp ap:Pos} (hs:a9h l=true) (hl:(ap.endLine == cp.line)=true) (ha:PE X l (LE G.toGd W (den G a))):PI X (.Tuple elts kk tpos) (.Call (.Attribute l "items" ap) [] [] cp) (LI G.toGd W (a02 G (.items a))) :=
 PI.imp (pi_items ha (a3z hs) hl) fun σ H R h=>by
  refine (b1d (tg:=.Tuple elts kk tpos) (t1:=den G a) (t2:=fun d δ S1 Y K=>∃ a kvs,d=.obj a∧S1 a=some (.loc kvs)∧K (kvs.map fun kv=>.tup [keyV kv.1,kv.2]) (fun _=>True) S1) (b0f h fun δ S Y K q=>by rw [a02] at q;exact q)).then fun v H1 q=>?_
  obtain ⟨x,δ,S,Y,K,R,r,⟨d,kvs,rfl,at_d,q⟩,res,_⟩:=q
  cases a0z r
  obtain ⟨ws,o,here,all⟩:=R.ce d _ at_d
  exact ⟨d,o,ws,rfl,here,res _ _ S H1 _ q (a0h.refl _ _) R.ce (a8Y at_d here all)⟩
theorem b62 {elts:List Expr} {kk:Nat} {tpos p:Pos} (c:XC n X G W k sc) (hg:glB sc "enumerate" = true) (hs:a0A l=true) (ha:PE X l (LE G.toGd W (den G a))):PI X (.Tuple elts kk tpos) (.Call (.Name "enumerate" p) [l] [] pos) (LI G.toGd W (a02 G (.enum a))) :=
 PI.imp (pi_enum (c.gl hg) (c.ok.bt _ (by decide +kernel)) (pa_cons ha pa_nil (a0m hs)) (a0m hs)) fun σ H R h=>by
  refine (b1d (tg:=.Tuple elts kk tpos) (t1:=den G a) (t2:=fun d δ S1 Y K=>∃ ds,vw S1 d=.lst ds∧K (a2b ds) (fun S'=>vw S' d=.lst ds) S1) (b0f h fun δ S Y K q=>by rw [a02] at q;exact q)).then fun v H1 q=>?_
  obtain ⟨x,δ,S,Y,K,R,r,⟨ds,e,q⟩,res,_⟩:=q
  obtain ⟨p,vs,rfl,hl,hr⟩:=a0r R.ce r e
  rw [c.ok.K] at hl
  refine ⟨p,vs,rfl,hl,?_⟩
  have:=res (a2b ds) _ S H1 _ q (a0h.refl _ _) R.ce (a95 rfl r)
  rwa [c.ok.K] at this
theorem b4h {elts:List Expr} {kk:Nat} {tpos p:Pos} (c:XC n X G W k sc) (hg:glB sc "enumerate" = true) (hs:a0A l=true) (ha:PE X l (LE G.toGd W (den G a))):PI X (.Tuple elts kk tpos) (.Call (.Name "enumerate" p) [l] [] pos) (LI G.toGd W (a02 G (.enumt a))) :=
 PI.imp (b2d (c.gl hg) (c.ok.bt _ (by decide +kernel)) (pa_cons ha pa_nil (a0m hs)) (a0m hs)) fun σ H R h=>by
  refine (b1d (tg:=.Tuple elts kk tpos) (t1:=den G a) (t2:=fun d δ S1 Y K=>∃ ds,d=.tup ds∧K (a2b ds) (fun _=>True) S1) (b0f h fun δ S Y K q=>by rw [a02] at q;exact q)).then fun v H1 q=>?_
  obtain ⟨x,δ,S,Y,K,R,r,⟨ds,rfl,q⟩,res,_⟩:=q
  obtain ⟨p,vs,rfl,hl,hr⟩:=a0H (S:=S) r rfl
  rw [c.ok.K] at hl
  refine ⟨p,vs,rfl,hl,?_⟩
  have:=res (a2b ds) _ S H1 _ q (a0h.refl _ _) R.ce (a8X rfl r)
  rwa [c.ok.K] at this
theorem b66 {elts:List Expr} {kk:Nat} {tpos p:Pos} {t1 t2:Bool} (c:XC n X G W k sc) (hg:glB sc "zip" = true) (hs:a0A l=true) (hs2:a0A r=true) (ha:PE X l (LE G.toGd W (den G a))) (hb:PE X r (LE G.toGd W (den G b))):PI X (.Tuple elts kk tpos) (.Call (.Name "zip" p) [l,r] [] pos) (LI G.toGd W (a02 G (.zip t1 t2 a b))) :=
 PI.imp (b5a t1 t2 (c.gl hg) (c.ok.bt _ (by decide +kernel)) (pa_cons ha (pa_cons hb pa_nil (a0m hs2)) (a0m hs)) (a0m hs) (by rw [a0m hs2];rfl)) fun σ H R h=>by
  have h:LI G.toGd W (fun δ S Y K=>den G a δ S Y fun d S1=>den G b δ S1 Y fun d2 S2=>∃ xs ys,d=sqv t1 xs∧d2=sqv t2 ys∧K (a2B xs ys) (fun _=>True) S2) σ H R:=by
   obtain ⟨δ,S,Y,K,R,ht,q⟩:=h
   rw [a02] at ht
   exact ⟨δ,S,Y,K,R,ht,q⟩
  refine (b1d (tg:=.Tuple elts kk tpos) (t1:=den G a) (t2:=fun d δ S1 Y K=>den G b δ S1 Y fun d2 S2=>∃ xs ys,d=sqv t1 xs∧d2=sqv t2 ys∧K (a2B xs ys) (fun _=>True) S2) h).then fun v H1 q=>?_
  obtain ⟨x,δ,S,Y,K,R,r,q,res,rw'⟩:=q
  refine ⟨δ,S,Y,_,R,q,fun d S1 v2 H2 kk P cc r2=>?_,rw'⟩
  obtain ⟨xs,ys,rfl,rfl,q⟩:=kk
  have r:=r.mono P
  obtain ⟨a1,rfl⟩:=b3f cc r
  obtain ⟨a2,rfl⟩:=b3f cc r2
  obtain ⟨vs,hl,_⟩:=a3I cc r
  obtain ⟨us,hl2,_⟩:=a3I cc r2
  rw [c.ok.K] at hl hl2
  refine ⟨a1,a2,vs,us,rfl,hl,hl2,?_⟩
  have:=res _ _ S1 H2 _ q P cc (b1P r r2)
  rwa [c.ok.K] at this
def b5R (n:SN) (sc:Scope) (ps:RQ) (ks:List (Option Expr)) (vs:List Expr):Prop:=ks.all (·.isSome)=true∧ks.length=vs.length∧(ks=[]→ps=.nil) ∧
 ∀ X G W k pos,XC n X G W k sc→∃ trs,PPs X pos ks vs trs∧∀ σ H (Q:List (V × V)→Hp→Prop),(∃ δ S Y K,Rel G.toGd S H δ σ∧a7c G ps δ S Y K∧(∀ xs S' ys H',K xs S'→a0h S H S' H'→CellsOk G.toGd S' H'→Paired (fun (x:D × D) (y:V × V)=>Rep G.toGd S' H' x.1 y.1∧Rep G.toGd S' H' x.2 y.2) xs ys→Q ys H')∧a69 G.toGd S H Y W)→tPairs trs σ H Q
theorem b2s:b5R n sc .nil [] []:=⟨rfl,rfl,fun _=>rfl,fun X G W k pos c=>⟨[],pps_nil,fun σ H Q ⟨δ,S,Y,K,R,ht,res,_⟩=>by
 rw [a7c] at ht
 exact res [] S [] H ht (a0h.refl _ _) R.ce .nil⟩⟩
theorem b0Q {kx vx:RE} {ps:RQ} {x y:Expr} {ks:List (Option Expr)} {vs:List Expr} (hk:b3x n sc kx x) (hv:b3x n sc vx y) (hr:b5R n sc ps ks vs):b5R n sc (.cons kx vx ps) (some x :: ks) (y :: vs):=by
 obtain ⟨h1,h2,_,h3⟩:=hr
 refine ⟨by rw [List.all_cons,h1];rfl,by rw [zaz,zaz,h2],(fun z=>nomatch z),fun X G W k pos c=>?_⟩
 obtain ⟨trs,rule,reads⟩:=h3 X G W k pos c
 refine ⟨_,pps_cons (hk.v X G W k c) (hv.v X G W k c) rule,fun σ H Q ⟨δ,S,Y,K,R,ht,res,rw'⟩=>?_⟩
 rw [a7c] at ht
 refine ⟨δ,S,Y,_,R,ht,fun d S1 v H1 kk P c1 r1=>⟨δ,S1,Y,_,R.mono P c1,kk,fun e S2 u H2 kk P2 c2 r2=>reads σ H2 _ ⟨δ,S2,Y,_,(R.mono P c1).mono P2 c2,kk,fun xs S3 ys H3 kk P3 c3 all=>?_,(rw'.mono P).mono P2⟩,rw'.mono P⟩,rw'⟩
 exact res _ S3 _ H3 kk ((P.trans P2).trans P3) c3 (.cons ⟨(r1.mono P2).mono P3,r2.mono P3⟩ all)
theorem b0a {g:Gd} {S:SS} {H:Hp} {xs:List (D × D)} {ys:List (V × V)} (all:Paired (fun (x:D × D) (y:V × V)=>Rep g S H x.1 y.1∧Rep g S H x.2 y.2) xs ys):∀ {kvs:List (Key × D)},a99 xs=some kvs→∃ ws:List (Key × V),ys=ws.map (fun kv=>(kV kv.1,kv.2))∧a0V g S H kvs ws:=by
 induction all with
 | nil =>
  intro kvs h
  cases h
  exact ⟨[],rfl,by simp only [a0V]⟩
 | @cons x y l m r _ ih =>
  intro kvs h
  obtain ⟨k,v⟩:=x
  obtain ⟨a,b⟩:=y
  simp only [a99] at h
  split at h
  ·rename_i key q e1 e2
   cases h
   obtain ⟨ws,rfl,more⟩:=ih e2
   have e:=a1d e1 r.1
   cases e
   exact ⟨(key,b) :: ws,rfl,by simp only [a0V];exact ⟨b,ws,rfl,r.2,more⟩⟩
  ·cases h
theorem c2D {cell:Bool} {ps:RQ} {ks:List (Option Expr)} {vs:List Expr} (c:XC n X G W k sc) (few:ks.length≤15) (hp:b5R n sc ps ks vs):PE X (.Dict ks vs pos) (LE G.toGd W (den G (.dct cell ps))):=by
 obtain ⟨h1,h2,h3,h4⟩:=hp
 obtain ⟨trs,rule,reads⟩:=h4 X G W k pos c
 by_cases none_:ks=[]
 ·have ep:=h3 none_
  subst none_
  cases vs with
  | cons _ _=>cases h2
  | nil =>
   refine PE.imp pe_dnewK fun σ H Q h=>?_
   obtain ⟨δ,S,Y,K,R,ht,res,rw'⟩:=h
   rw [den,ep] at ht
   intro p free
   have ht:=ht p (R.ce.free free)
   rw [a7c] at ht
   obtain ⟨_,kvs,e,_,q⟩:=ht
   cases e
   cases cell with
   | true=>exact res _ _ _ _ (show K (.obj p) (S.set p (.dic [])) from by have q:K (.obj p) ((S.set p (.dic [])).set p (.dic [])):=q;rwa [zac] at q) (a0h.newC free) (R.ce.newC free ⟨[],upd_same,by simp only [a0V]⟩) (by simp only [Rep])
   | false =>
    have q:K (.dic []) ((S.set p (.dic [])).del p):=q
    rw [zaf (R.ce.free free)] at q
    exact res.dic q R.ce (by simp only [a0V]) free
 ·refine PE.imp (pe_disp rule h1 h2 none_ few) fun σ H Q h=>?_
  obtain ⟨δ,S,Y,K,R,ht,res,rw'⟩:=h
  rw [den] at ht
  intro p free
  have P0:a0h S H (S.set p (.dic [])) (upd H p (.dK [])):=a0h.newC free
  have C0:CellsOk G.toGd (S.set p (.dic [])) (upd H p (.dK [])):=R.ce.newC free ⟨[],upd_same,by simp only [a0V]⟩
  refine reads σ _ _ ⟨δ,_,Y,_,R.mono P0 C0,ht p (R.ce.free free),fun xs S2 ys H2 kk P2 c2 all=>?_,rw'.mono P0⟩
  obtain ⟨at_p,kvs,e,small,q⟩:=kk
  obtain ⟨ws0,here,nothing⟩:=c2 p _ at_p
  simp only [a0V] at nothing
  subst nothing
  obtain ⟨ws,rfl,more⟩:=b0a all e
  have made:a0V G.toGd S2 H2 (a0L [] kvs) (mergeK [] ws):=a4y more (by simp only [a0V])
  have same:kvs.length=ws.length:=Paired.length (a05 more)
  have P3:a0h S2 H2 (S2.set p (.dic (a0L [] kvs))) (upd H2 p (.dK (mergeK [] ws))):=a0h.write at_p
  have C3:CellsOk G.toGd (S2.set p (.dic (a0L [] kvs))) (upd H2 p (.dK (mergeK [] ws))):=c2.write at_p ⟨_,upd_same,made.mono P3⟩
  refine ⟨here,ws,rfl,by rw [← same];exact small,?_⟩
  cases cell with
  | true=>exact res _ _ _ _ q ((P0.trans P2).trans P3) C3 (by simp only [Rep])
  | false =>
   have q:K (.dic (a0L [] kvs)) (S2.del p):=q
   rw [← SS.set_del (x:=.dic (a0L [] kvs))] at q
   exact res _ _ _ _ q (((P0.trans P2).trans P3).trans (a0h.freeze zab)) (C3.freeze zab) (Rep.freezeK C3 zab)
theorem a8I {g:Gd} {S:SS} {H:Hp} {δ:DS} {σ:L2.St} (h:a68 g S H δ σ):∀ vs:List Nat,a68 g S H (a7W δ vs) (wipe σ vs)
 | []=>h
 | v :: vs=>(a8I h vs).setN
theorem a8J {σ:L2.St} {i:Nat} {x:Option V}:∀ {vs:List Nat},i∈vs→wipe (σ.set i x) vs=wipe σ vs
 | v :: vs,h=>by
  unfold wipe
  by_cases e:i=v
  ·subst e
   have key:∀ (ws:List Nat),(wipe (σ.set i x) ws).set i none=(wipe σ ws).set i none:=by
    intro ws
    induction ws with
    | nil=>show (σ.set i x).set i none=σ.set i none;rw [List.set_set]
    | cons w ws ih =>
     unfold wipe
     by_cases ew:w=i
     ·subst ew;rw [List.set_set,List.set_set];exact ih
     ·rw [List.set_comm _ _ (Ne.symm (Ne.symm ew)),ih,List.set_comm _ _ ew]
   exact key vs
  ·rcases zau.mp h with h | h
   ·exact absurd h e
   ·rw [a8J h]
theorem b08 {σ:L2.St}:∀ vs:List Nat,wipe (wipe σ vs) vs=wipe σ vs:=by
 intro vs
 apply List.ext_getElem?
 intro i
 by_cases h:i∈vs
 ·have key:∀ (ws:List Nat) (τ:L2.St),i∈ws→(wipe τ ws)[i]?=if i < τ.length then some none else none:=by
   intro ws
   induction ws with
   | nil=>intro τ h;cases h
   | cons w ws ih =>
    intro τ h
    unfold wipe
    by_cases e:w=i
    ·subst e
     rw [List.getElem?_set]
     simp [wipe_length]
    ·rw [List.getElem?_set_ne e]
     exact ih τ (by rcases zau.mp h with h | h;exact absurd h.symm e;exact h)
  rw [key vs _ h,key vs _ h,wipe_length]
 ·rw [wipe_out h]
def gTg (K:zbj) (tg:List Nat) (one:Bool):TG:=if one=true then (match tg with
 | [i]=>gName i
 | _=>fun _ _ _ _=>False) else gTup K tg.length (a6s tg)
theorem b0B (c:XC n X G W k sc) {tg:List Nat} {one:Bool} {x:Expr} (hc:one=false→X.calm=true) (h:a1c n sc tg one x=true):PG X x (gTg X.K tg one):=by
 cases one with
 | true =>
  unfold a1c at h
  rw [if_pos rfl] at h
  split at h
  ·rw [zak] at h
   exact pg_name c.nd (c.at h.1) (c.loc h.2) (c.sto h.2)
  ·cases h
 | false =>
  unfold a1c at h
  rw [if_neg zbe] at h
  split at h
  ·obtain ⟨h1,h2,h3⟩:=a4D c _ _ h
   exact pg_tup (hc rfl) h1 h2 h3
  ·cases h
theorem a8p {g:Gd} {S:SS} {H:Hp} {I:L2.St→Prop}:∀ (is:List Nat) (ds:List D) (vs:List V) (δ:DS) (σ:L2.St) (Q:L2.St→Hp→Prop),(∀ σ i v,i∈is→I σ→I (σ.set i (some v)))→Rel g S H δ σ→I σ→a0i g S H ds vs→ds.length=is.length →
  (∀ σ',Rel g S H (a4K δ is ds) σ'→I σ'→Q σ' H)→a6s is vs σ H Q
 | [],ds,vs,δ,σ,Q,hI,R,i0,r,l,h=>by
  cases ds with
  | nil=>simp only [a0i] at r;subst r;exact ⟨rfl,h σ R i0⟩
  | cons _ _=>cases l
 | i :: is,ds,vs,δ,σ,Q,hI,R,i0,r,l,h=>by
  cases ds with
  | nil=>cases l
  | cons d ds =>
   simp only [a0i] at r
   obtain ⟨v,q,rfl,a,b⟩:=r
   exact ⟨v,q,rfl,a8p is ds q _ _ Q (fun σ j w hj=>hI σ j w (zao _ hj)) ⟨R.sl.set a,R.ce⟩ (hI _ _ _ zal i0) b (by simpa using l) h⟩
theorem a8a {g:Gd} {S:SS} {H:Hp} {I:L2.St→Prop} {tg:List Nat} {one:Bool} {d:D} {v:V} {δ:DS} {σ:L2.St} {K:DS→SS→Prop} {Q:L2.St→Hp→Prop} (hI:∀ σ i v,i∈tg→I σ→I (σ.set i (some v))) (hd:a2a tg one d δ S K) (r:Rep g S H d v) (R:Rel g S H δ σ) (i0:I σ)
  (h:∀ δ' σ',K δ' S→Rel g S H δ' σ'→I σ'→Q σ' H):gTg g.K tg one v σ H Q:=by
 cases one with
 | true =>
  unfold a2a at hd
  rw [if_pos rfl] at hd
  unfold gTg
  rw [if_pos rfl]
  split at hd
  ·exact h _ _ hd ⟨R.sl.set r,R.ce⟩ (hI _ _ _ zal i0)
  ·exact hd.elim
 | false =>
  unfold a2a at hd
  rw [if_neg zbe] at hd
  unfold gTg
  rw [if_neg zbe]
  obtain ⟨ds,e,l,hk⟩:=hd
  obtain ⟨p,vs,rfl,hl,hr⟩:=a0H r e
  exact ⟨p,vs,rfl,hl,by rw [← hr.length];exact l,a8p tg ds vs δ σ Q hI R i0 hr l fun σ' R' i'=>h _ _ hk R' i'⟩
theorem b7d {cell:Bool} {elt:RE} {cnd:RO} {tg:List Nat} {one:Bool} {it:RI} {own:List (Str × Nat)} (hK:G.K=X.K) (htg:(tg.all fun i=>decide (i∈own.map (·.2)))=true) {σ:L2.St} {H:Hp} {Q:VK} (h:LE G.toGd W (den G (.lc cell elt tg one it cnd own)) σ H Q) :
  tLc (LI G.toGd W (a02 G it)) (gTg X.K tg one) (LT G.toGd noW (a7b G cnd)) (LE G.toGd noW (den G elt)) (own.map (·.2)) σ H Q:=by
 rw [den] at h
 obtain ⟨δ,S,Y,K,R,⟨_,ht⟩,res,rw'⟩:=h
 refine ⟨δ,S,Y,_,R,ht,fun ds ok S1 H1 J hk P1 c1 io L hL=>?_,rw'⟩
 obtain ⟨Iv,i0,hok,step,last⟩:=hk L (c1.free hL)
 have PL:a0h S1 H1 (S1.set L (.lst [])) (upd H1 L (.lst [])):=a0h.newC hL
 have cL:CellsOk G.toGd (S1.set L (.lst [])) (upd H1 L (.lst [])):=c1.newC hL ⟨[],upd_same,by simp only [a0i]⟩
 refine ⟨fun i m H'=>m=ds.length - i∧i≤ds.length∧∃ S',Iv i S'∧a0h S1 H1 S' H'∧CellsOk G.toGd S' H',⟨_,rfl,Nat.zero_le _,_,i0,PL,cL⟩,?_⟩
 rintro i m H' ⟨rfl,hi,S',iv,P',c'⟩
 have ok':=hok i S' iv hi
 by_cases hlt:i < ds.length
 ·refine .inr ⟨io.go i S' H' hlt P' c' ok',fun H''=>i + 1≤ds.length∧∃ S'',Iv (i + 1) S''∧a0h S1 H1 S'' H''∧CellsOk G.toGd S'' H'',fun H'' q=>⟨_,by omega,rfl,q⟩,fun x H2 y=>?_⟩
  obtain ⟨P2,c2,r2⟩:=io.yl i S' H' x H2 ds[i] (by simp) P' c' ok' y
  have P12:=P'.trans P2
  have R2:Rel G.toGd S' H2 (a7W δ (own.map (·.2))) (wipe σ (own.map (·.2))):=⟨a8I (R.sl.mono (P1.trans P12)) _,c2⟩
  have hstep:=step i ds[i] S' (by simp) iv
  rw [← hK]
  refine a8a (I:=fun τ=>wipe τ (own.map (·.2))=wipe σ (own.map (·.2))) (fun τ j w hj e=>?_) hstep r2 R2 (b08 _) fun δ3 σ3 hq R3 e3=>⟨e3,?_⟩
  ·rw [a8J (by simpa using (List.all_eq_true.mp htg) j hj)]
   exact e
  ·refine ⟨δ3,S',noX,_,R3,hq,fun b S4 H4 hb4 P4 c4=>?_,fun _ _ _ _ _ _ _ z=>z.elim⟩
   cases b with
   | true =>
    refine ⟨δ3,S4,noX,_,R3.mono P4 c4,hb4,fun d5 S5 v5 H5 h5 P5 c5 r5=>?_,fun _ _ _ _ _ _ _ z=>z.elim⟩
    obtain ⟨acc,ea,hz,iv5⟩:=h5
    obtain ⟨vs,hL5,rvs⟩:=c5 L _ ea
    have P6:a0h S5 H5 (S5.set L (.lst (acc ++ [d5]))) (upd H5 L (.lst (vs ++ [v5]))):=a0h.write ea
    refine ⟨vs,hL5,by rw [← rvs.length];exact hz,hlt,_,iv5,((P12.trans P4).trans P5).trans P6,c5.write ea ⟨_,upd_same,(rvs.append (show a0i G.toGd S5 H5 [d5] [v5] from by simp only [a0i];exact ⟨v5,[],rfl,r5,rfl⟩)).mono P6⟩⟩
   | false=>exact ⟨hlt,S4,hb4,P12.trans P4,c4⟩
 ·have e:i=ds.length:=by omega
  subst e
  refine .inl ⟨io.st _ S' H' (Nat.le_refl _) P' c' ok',?_⟩
  obtain ⟨acc,ea,hk⟩:=last S' iv
  cases cell with
  | true=>exact res _ S' _ H' hk (P1.trans P') c' (by simp only [Rep])
  | false=>exact res _ (S'.del L) _ H' hk ((P1.trans P').trans (a0h.freeze ea)) (c'.freeze ea) (Rep.freeze c' ea)
theorem b0Z {n:SN} {scope:Scope} {tg:List Nat} {one:Bool} {xt:Expr} {it:RI} (h:a1c n scope tg one xt=true) (h2:(!it.two || !one)=true) (two:it.two=true):∃ elts kk tpos,xt=.Tuple elts kk tpos:=by
 rw [two] at h2
 cases one with
 | true=>cases h2
 | false =>
  unfold a1c at h
  rw [if_neg zbe] at h
  split at h
  ·exact ⟨_,_,_,rfl⟩
  ·cases h
theorem c6O {cell:Bool} {elt:RE} {cnd:RO} {tg:List Nat} {one:Bool} {it:RI} {own:List (Str × Nat)} {xe xt xi:Expr} {ifs:List Expr} {scope:Scope} (c:XC n X G W k sc) (hb:blkC n.N sc scope own=true) (hsd:a2A xi=true) (hI:b5Q n sc it xi)
  (htg:(tg.all fun i=>decide (i∈own.map (·.2)))=true) (hct:a1c n scope tg one xt=true) (h2:(!it.two || !one)=true) (hcnd:∀ X G W k,XC n X G W k scope→PTs X ifs (LT G.toGd W (a7b G cnd))) (he:∀ X G W k,XC n X G W k scope→PE X xe (LE G.toGd W (den G elt))) :
  PE X (.ListComp xe [⟨xt,xi,ifs,0⟩] scope pos) (LE G.toGd W (den G (.lc cell elt tg one it cnd own))):=by
 by_cases hm:G.m0=none
 ·have calm:X.calm=true:=by have:=c.md;rw [hm] at this;exact this.2
  have bo:BlkOk X.N X.env.scope scope own:=by
   have h:=blkOk_by hb
   exact ⟨h.kind,h.uniq,fun p hp=>c.N ▸ h.ix p hp,fun y hy e=>c.sc.fr _ (h.free y hy e),fun y hy e=>c.N ▸ h.own y hy e⟩
  refine PE.imp (pe_lc (wi:=LI G.toGd W (a02 G it)) (g:=gTg X.K tg one) (tt:=LT G.toGd noW (a7b G cnd)) (te:=LE G.toGd noW (den G elt)) calm c.nd (hI X G W k xt c hm (b0Z hct h2)) bo (fun s H C cl fp=>b0B (c.blk hm) (fun _=>calm) hct) (fun s H C cl fp=>hcnd _ G noW k (c.blk hm)) (fun s H C cl fp=>he _ G noW k (c.blk hm)) (fun x=>a3X hsd x)) fun σ H Q h=>b7d c.ok.K htg h
 ·refine a0U fun δ S Y K h=>?_
  rw [den] at h
  exact hm h.1
end
end Sv
namespace Sv
open PySem PySem.Spec PyProof.Rows L2
open L2H (RoomH)
variable {n:SN}
theorem b7Y {sc:Scope} {x:Expr} {e:RE} (hv:∀ G δ S Y K,¬ den G e δ S Y K) (ht:∀ G δ S Y K,¬ a0u G e δ S Y K):b3x n sc e x :=
 ⟨fun X G W k _=>a0U (hv G),fun X G W k _=>a8u (ht G)⟩
theorem a0E {sc:Scope} {x:Expr} {e:RE} (hp:plainT x=true) (hv:∀ X G W k,XC n X G W k sc→PE X x (LE G.toGd W (den G e))) (ht:∀ G δ S Y K,a0u G e δ S Y K→den G e δ S Y fun d S'=>a1v d S' fun b=>K b S'):b3x n sc e x :=
 ⟨hv,fun X G W k c=>PT.imp (c1T c (hv X G W k c) hp) fun σ H Q h=>h.re fun δ S Y K q=>ht G δ S Y K q⟩
theorem a0o {sc:Scope} {x:Expr} {e:RE} (hv:∀ X G W k,XC n X G W k sc→PE X x (LE G.toGd W (den G e))) (ht:∀ G δ S Y K,¬ a0u G e δ S Y K):b3x n sc e x :=
 ⟨hv,fun X G W k _=>a8u (ht G)⟩
section
variable {sc:Scope} {e f:RE} {es r:RL} {x y:Expr} {xs:List Expr}
theorem b2r:a9f n sc .nil [] where
 a:=fun X G W k c=>PA.imp pa_nil fun σ H Q h=>by
  obtain ⟨δ,S,Y,K,R,ht,res,_⟩:=h
  rw [a0x] at ht
  exact res [] S [] H ht (a0h.refl _ _) R.ce (by simp only [a0i])
 and:=fun X G W k pos c=>a0U fun δ S Y K h=>by rw [a04] at h;exact h
 or:=fun X G W k pos c=>a0U fun δ S Y K h=>by rw [a1W] at h;exact h
 tand:=fun X G W k pos c=>a8x fun δ S Y K h=>by rw [a0R] at h;exact h
 tor:=fun X G W k pos c=>a8x fun δ S Y K h=>by rw [a1g] at h;exact h
 st:=rfl
 nl:=fun _=>rfl
 ne:=rfl
theorem b0P (hs:a0A x=true) (he:b3x n sc e x) (hL:a9f n sc es xs):a9f n sc (.cons e es) (x :: xs) where
 a:=fun X G W k c=>PA.imp (pa_cons (he.v X G W k c) (hL.a X G W k c) (a0m hs)) fun σ H Q h=>by
  have h':LE G.toGd W (den G e) σ H fun v H1=>LA G.toGd W (a0x G es) σ H1 fun vs H2=>Q (v :: vs) H2:=by
   obtain ⟨δ,S,Y,K,R,ht,res,rw'⟩:=h
   rw [a0x] at ht
   refine ⟨δ,S,Y,_,R,ht,fun d S1 v H1 k P c r=>⟨δ,S1,Y,_,R.mono P c,k,fun ds S2 vs H2 k2 P2 c2 r2=>res (d :: ds) S2 (v :: vs) H2 k2 (P.trans P2) c2 ?_,rw'.mono P⟩,rw'⟩
   simp only [a0i]
   exact ⟨v,vs,rfl,r.mono P2,r2⟩
  exact h'
 and:=fun X G W k pos c=>by
  cases xs with
  | nil =>
   have he':=hL.nl rfl
   subst he'
   exact PE.imp (pe_one (he.v X G W k c)) fun σ H Q h=>h.re fun δ S Y K q=>by rw [a04] at q;exact q
  | cons z zs =>
   cases es with
   | nil=>exact absurd (hL.ne) (by simp [RL.len])
   | cons f r =>
    refine PE.imp (pe_andT (he.v X G W k c) (hL.and X G W k pos c)) fun σ H Q h=>?_
    have h:=h.re (t':=fun δ S Y K=>den G e δ S Y fun x S1=>a1v x S1 fun k=>if k=true then a04 G (.cons f r) δ S1 Y K else K x S1) fun δ S Y K q=>by rw [a04] at q;exact q
    refine (a0D (t1:=den G e) (t2:=fun x δ S1 Y K=>a1v x S1 fun k=>if k=true then a04 G (.cons f r) δ S1 Y K else K x S1) h).then fun v H1 q=>?_
    obtain ⟨x,δ,S,Y,K,R,r1,q,res,rw'⟩:=q
    obtain ⟨b,tv,q⟩:=a7R c.ok.K R.ce r1 q
    refine ⟨b,tv,?_⟩
    cases b with
    | true=>exact ⟨δ,S,Y,K,R,q,res,rw'⟩
    | false=>exact res.val q R.ce r1
 or:=fun X G W k pos c=>by
  cases xs with
  | nil =>
   have he':=hL.nl rfl
   subst he'
   exact PE.imp (pe_one (he.v X G W k c)) fun σ H Q h=>h.re fun δ S Y K q=>by rw [a1W] at q;exact q
  | cons z zs =>
   cases es with
   | nil=>exact absurd (hL.ne) (by simp [RL.len])
   | cons f r =>
    refine PE.imp (pe_orT (he.v X G W k c) (hL.or X G W k pos c)) fun σ H Q h=>?_
    have h:=h.re (t':=fun δ S Y K=>den G e δ S Y fun x S1=>a1v x S1 fun k=>if k=true then K x S1 else a1W G (.cons f r) δ S1 Y K) fun δ S Y K q=>by rw [a1W] at q;exact q
    refine (a0D (t1:=den G e) (t2:=fun x δ S1 Y K=>a1v x S1 fun k=>if k=true then K x S1 else a1W G (.cons f r) δ S1 Y K) h).then fun v H1 q=>?_
    obtain ⟨x,δ,S,Y,K,R,r1,q,res,rw'⟩:=q
    obtain ⟨b,tv,q⟩:=a7R c.ok.K R.ce r1 q
    refine ⟨b,tv,?_⟩
    cases b with
    | true=>exact res.val q R.ce r1
    | false=>exact ⟨δ,S,Y,K,R,q,res,rw'⟩
 tand:=fun X G W k pos c=>by
  cases xs with
  | nil =>
   have he':=hL.nl rfl
   subst he'
   exact PW.imp (pw_and1 (he.t X G W k c)) fun σ H Q h=>h.re fun δ S Y K q=>by rw [a0R] at q;exact q
  | cons z zs =>
   cases es with
   | nil=>exact absurd (hL.ne) (by simp [RL.len])
   | cons f r =>
    refine PW.imp (pw_and (he.t X G W k c) (hL.tand X G W k pos c)) fun σ H Q h=>?_
    obtain ⟨δ,S,Y,K,R,ht,res,rw'⟩:=h
    rw [a0R] at ht
    refine ⟨δ,S,Y,_,R,ht,fun b S1 H1 k P c1=>?_,rw'⟩
    cases b with
    | true=>exact ⟨δ,S1,Y,K,R.mono P c1,k,fun b S2 H2 k2 P2=>res b S2 H2 k2 (P.trans P2),rw'.mono P⟩
    | false=>exact res false S1 H1 k P c1
 tor:=fun X G W k pos c=>by
  cases xs with
  | nil =>
   have he':=hL.nl rfl
   subst he'
   exact PW.imp (pw_or1 (he.t X G W k c)) fun σ H Q h=>h.re fun δ S Y K q=>by rw [a1g] at q;exact q
  | cons z zs =>
   cases es with
   | nil=>exact absurd (hL.ne) (by simp [RL.len])
   | cons f r =>
    refine PW.imp (pw_or (he.t X G W k c) (hL.tor X G W k pos c)) fun σ H Q h=>?_
    obtain ⟨δ,S,Y,K,R,ht,res,rw'⟩:=h
    rw [a1g] at ht
    refine ⟨δ,S,Y,_,R,ht,fun b S1 H1 k P c1=>?_,rw'⟩
    cases b with
    | true=>exact res true S1 H1 k P c1
    | false=>exact ⟨δ,S1,Y,K,R.mono P c1,k,fun b S2 H2 k2 P2=>res b S2 H2 k2 (P.trans P2),rw'.mono P⟩
 st:=by rw [List.all_cons,hs,hL.st];rfl
 nl:=fun h=>nomatch h
 ne:=by simp [RL.len,hL.ne]
end
theorem b1B {H:Hp} {g:Gd} {W:WX} {G:Gm} {c:RC} {v:V} {σ:L2.St} {Q:VK} (hv:∀ S H,Rep g S H c.d v) (h:LE g W (den G (.con c)) σ H Q):Q v H:=by
 obtain ⟨δ,S,Y,K,R,ht,res,_⟩:=h
 rw [den] at ht
 exact res.val ht R.ce (hv _ _)
mutual
theorem sE:∀ (e:RE) (sc:Scope) (x:Expr),chk n sc e x=true→b3x n sc e x
 | .var i,sc,x,h=>by
  unfold chk at h
  split at h
  ·rename_i y p
   rw [zak] at h
   refine a0E rfl (fun X G W k c=>PE.imp (pe_var (c.at h.1) (c.vis h.2) (a0M h.1).2.1 (a0M h.1).2.2) fun σ H Q q=>?_) (fun G δ S Y K q=>by rw [a0u] at q;rw [den];exact q)
   obtain ⟨δ,S,Y,K,R,ht,res,_⟩:=q
   rw [den] at ht
   split at ht
   ·rename_i d e
    obtain ⟨v,e1,r⟩:=R.sl.at_ i d e
    exact ⟨v,e1,res.val ht R.ce r⟩
   ·exact ht.elim
  ·cases h
 | .con c,sc,x,h=>by
  unfold chk at h
  split at h
  ·exact a0E rfl (fun X G W k _=>PE.imp pe_non fun σ H Q q=>b1B (v:=.non) (fun _ _=>by simp only [RC.d,Rep]) q) (fun G δ S Y K q=>by rw [a0u] at q;rw [den];exact q)
  ·have e:=eq_of_beq h
   subst e
   exact a0E rfl (fun X G W k _=>PE.imp pe_bl fun σ H Q q=>b1B (v:=.bl _) (fun _ _=>by simp only [RC.d,Rep]) q) (fun G δ S Y K q=>by rw [a0u] at q;rw [den];exact q)
  ·have e:=of_decide_eq_true h
   subst e
   exact a0E rfl (fun X G W k _=>PE.imp pe_int fun σ H Q q=>b1B (v:=.int _) (fun _ _=>by simp only [RC.d,Rep]) q) (fun G δ S Y K q=>by rw [a0u] at q;rw [den];exact q)
  ·have e:=of_decide_eq_true h
   subst e
   exact a0E rfl (fun X G W k _=>PE.imp pe_str fun σ H Q q=>b1B (v:=.str _) (fun _ _=>by simp only [RC.d,Rep]) q) (fun G δ S Y K q=>by rw [a0u] at q;rw [den];exact q)
  ·cases h
 | .glb j,sc,x,h=>by
  unfold chk at h
  split at h
  ·rename_i y p
   rw [zak] at h
   refine a0E rfl (fun X G W k c=>?_) (fun G δ S Y K q=>by rw [a0u] at q;rw [den];exact q)
   obtain ⟨v,u,h1,h2,h3⟩:=c.ok.gv j _ (a0M h.1).1
   refine PE.imp (pe_glob (c.gl h.2) h1 h2 (a0M h.1).2.1) fun σ H Q q=>?_
   obtain ⟨δ,S,Y,K,R,ht,res,_⟩:=q
   rw [den] at ht
   exact res.val ht R.ce (h3 _ _)
  ·cases h
 | .bin op a b,sc,x,h=>by
  unfold chk at h
  split at h
  ·simp only [zak,zah] at h
   obtain ⟨e,h1,h2⟩:=h
   subst e
   exact a0o (fun X G W k c=>c11 c ((sE a sc _ h1).v X G W k c) ((sE b sc _ h2).v X G W k c)) (fun G δ S Y K q=>by unfold a0u at q;exact q)
  ·cases h
 | .neg a,sc,x,h=>by
  unfold chk at h
  split at h
  ·exact a0o (fun X G W k c=>c2S ((sE a sc _ h).v X G W k c)) (fun G δ S Y K q=>by unfold a0u at q;exact q)
  ·cases h
 | .nt a,sc,x,h=>by
  unfold chk at h
  split at h
  ·exact ⟨fun X G W k c=>c6Q c ((sE a sc _ h).v X G W k c),fun X G W k c=>c2V ((sE a sc _ h).t X G W k c)⟩
  ·cases h
 | .and es,sc,x,h=>by
  unfold chk at h
  split at h
  ·have q:=sL es sc _ h
   exact ⟨fun X G W k c=>PE.imp (q.and X G W k _ c) fun σ H Q z=>z.re fun δ S Y K y=>by rw [den] at y;exact y,fun X G W k c=>PT.imp (q.tand X G W k _ c).pt fun σ H Q z=>z.re fun δ S Y K y=>by rw [a0u] at y;exact y⟩
  ·cases h
 | .or es,sc,x,h=>by
  unfold chk at h
  split at h
  ·have q:=sL es sc _ h
   exact ⟨fun X G W k c=>PE.imp (q.or X G W k _ c) fun σ H Q z=>z.re fun δ S Y K y=>by rw [den] at y;exact y,fun X G W k c=>PT.imp (q.tor X G W k _ c).pt fun σ H Q z=>z.re fun δ S Y K y=>by rw [a0u] at y;exact y⟩
  ·cases h
 | .ife t a b,sc,x,h=>by
  unfold chk at h
  split at h
  ·simp only [zak] at h
   obtain ⟨h0,h1,h2⟩:=h
   exact a0o (fun X G W k c=>c2F ((sE t sc _ h0).t X G W k c) ((sE a sc _ h1).v X G W k c) ((sE b sc _ h2).v X G W k c)) (fun G δ S Y K q=>by unfold a0u at q;exact q)
  ·cases h
 | .cmp op a b,sc,x,h=>by
  unfold chk at h
  split at h
  ·simp only [zak,zah] at h
   obtain ⟨⟨e,h0⟩,h1,h2⟩:=h
   subst e
   exact ⟨fun X G W k c=>c2g c h0 ((sE a sc _ h1).v X G W k c) ((sE b sc _ h2).v X G W k c),fun X G W k c=>b7P c h0 ((sE a sc _ h1).v X G W k c) ((sE b sc _ h2).v X G W k c)⟩
  ·cases h
 | .chn o1 o2 a b t,sc,x,h=>by
  unfold chk at h
  split at h
  ·simp only [zak,zah] at h
   obtain ⟨⟨⟨e,e'⟩,h0⟩,h1,h2,h3⟩:=h
   subst e e'
   exact ⟨fun X G W k c=>c2f c h0 ((sE a sc _ h1).v X G W k c) ((sE b sc _ h2).v X G W k c) ((sE t sc _ h3).v X G W k c),fun X G W k c=>b7O c h0 ((sE a sc _ h1).v X G W k c) ((sE b sc _ h2).v X G W k c) ((sE t sc _ h3).v X G W k c)⟩
  ·cases h
 | .lst cell es,sc,x,h=>by
  unfold chk at h
  split at h
  ·exact a0o (fun X G W k c=>c2P ((sL es sc _ h).a X G W k c)) (fun G δ S Y K q=>by unfold a0u at q;exact q)
  ·cases h
 | .tup es,sc,x,h=>by
  unfold chk at h
  split at h
  ·exact a0o (fun X G W k c=>c3g ((sL es sc _ h).a X G W k c)) (fun G δ S Y K q=>by unfold a0u at q;exact q)
  ·cases h
 | .ix a b,sc,x,h=>by
  unfold chk at h
  split at h
  ·simp only [zak] at h
   obtain ⟨h0,h1,h2⟩:=h
   exact a0E rfl (fun X G W k c=>c6N c h0 ((sE a sc _ h1).v X G W k c) ((sE b sc _ h2).v X G W k c)) (fun G δ S Y K q=>by rw [a0u] at q;rw [den];exact q)
  ·cases h
 | .slc a lo hi,sc,x,h=>by
  unfold chk at h
  split at h
  ·simp only [zak] at h
   obtain ⟨h0,h1,h2⟩:=h
   exact a0o (fun X G W k c=>c24 c ((sE a sc _ h0).v X G W k c) (sO lo sc _ h1 X G W k c) (sO hi sc _ h2 X G W k c)) (fun G δ S Y K q=>by unfold a0u at q;exact q)
  ·cases h
 | .sl a lo hi,sc,x,h=>by
  unfold chk at h
  split at h
  ·simp only [zak] at h
   obtain ⟨h0,h1,h2⟩:=h
   exact a0o (fun X G W k c=>c6S c ((sE a sc _ h0).v X G W k c) (sO lo sc _ h1 X G W k c) (sO hi sc _ h2 X G W k c)) (fun G δ S Y K q=>by unfold a0u at q;exact q)
  ·cases h
 | .fld a f,sc,x,h=>by
  unfold chk at h
  split at h
  ·simp only [zak,zah] at h
   obtain ⟨⟨e,h0⟩,h1⟩:=h
   subst e
   exact a0E rfl (fun X G W k c=>PE.imp (b4Y c.ok.K c.md.p ((sE a sc _ h1).v X G W k c) (a3z h0)) fun σ H Q z=>z.re fun δ S Y K y=>by rw [den] at y;exact y) (fun G δ S Y K q=>by rw [a0u] at q;rw [den];exact q)
  ·cases h
 | .call j es,sc,x,h=>by
  unfold chk at h
  split at h
  ·simp only [zak] at h
   obtain ⟨⟨h0,h1⟩,h2⟩:=h
   exact a0E rfl (fun X G W k c=>s_call c h0 h1 (sL es sc _ h2)) (fun G δ S Y K q=>by rw [a0u] at q;rw [den];exact q)
  ·cases h
 | .bi b es,sc,x,h=>by
  unfold chk at h
  split at h
  ·simp only [zak,zah] at h
   obtain ⟨⟨⟨e,h0⟩,h1⟩,h2⟩:=h
   subst e
   exact a0E rfl (fun X G W k c=>c6z c h0 (by simpa using h1) (sL es sc _ h2)) (fun G δ S Y K q=>by rw [a0u] at q;rw [den];exact q)
  ·cases h
 | .isi a cn,sc,x,h=>by
  unfold chk at h
  split at h
  ·rw [zak] at h
   obtain ⟨h,hc⟩:=h
   simp only [zak,zah] at h
   obtain ⟨⟨⟨⟨e,h0⟩,h1⟩,h2⟩,h3⟩:=h
   exact a0E rfl (fun X G W k c=>c2H c e h0 h1 h2 ((sE a sc _ h3).v X G W k c) hc) (fun G δ S Y K q=>by rw [a0u] at q;rw [den];exact q)
  ·cases h
 | .lc cell elt tg one it cnd own,sc,x,h=>by
  unfold chk at h
  split at h
  ·simp only [zak] at h
   obtain ⟨⟨⟨⟨⟨⟨⟨h0,h1⟩,h2⟩,h3⟩,h4⟩,h5⟩,h6⟩,h7⟩:=h
   exact a0o (fun X G W k c=>c6O c h0 h1 (sI it sc _ h2) h3 h4 h7 (fun X G W k c=>sC cnd _ _ h5 X G W k c) (fun X G W k c=>(sE elt _ _ h6).v X G W k c)) (fun G δ S Y K q=>by unfold a0u at q;exact q)
  ·cases h
 | .mth b a es,sc,x,h=>by
  unfold chk at h
  split at h
  ·simp only [zak,zah] at h
   obtain ⟨⟨⟨⟨⟨e,h0⟩,h1⟩,h2⟩,h3⟩,h4⟩:=h
   subst e
   exact a0E rfl (fun X G W k c=>c2R c h0 h1 h2 ((sE a sc _ h3).v X G W k c) (sL es sc _ h4)) (fun G δ S Y K q=>by rw [a0u] at q;rw [den];exact q)
  ·cases h
 | .om j m a es,sc,x,h=>by
  unfold chk at h
  split at h
  ·simp only [zak,zah] at h
   obtain ⟨⟨⟨⟨⟨⟨e,h0⟩,h1⟩,h2⟩,h5⟩,h3⟩,h4⟩:=h
   subst e
   exact a0E rfl (fun X G W k c=>c6R c h0 h1 h2 h5 ((sE a sc _ h3).v X G W k c) (sL es sc _ h4)) (fun G δ S Y K q=>by rw [a0u] at q;rw [den];exact q)
  ·cases h
 | .mk j es,sc,x,h=>by
  unfold chk at h
  split at h
  ·simp only [zak,zah] at h
   obtain ⟨⟨⟨h0,h1⟩,h2⟩,h3⟩:=h
   exact a0o (fun X G W k c=>c6P c h0 h1 h2 (sL es sc _ h3)) (fun G δ S Y K q=>by unfold a0u at q;exact q)
  ·cases h
 | .lck a,sc,x,h=>by
  unfold chk at h
  exact a0o (fun X G W k c=>c2M ((sE a sc _ h).v X G W k c)) (fun G δ S Y K q=>by unfold a0u at q;exact q)
 | .fz a,sc,x,h=>by
  unfold chk at h
  exact a0o (fun X G W k c=>c6H ((sE a sc _ h).v X G W k c)) (fun G δ S Y K q=>by unfold a0u at q;exact q)
 | .fzt i a,sc,x,h=>by
  unfold chk at h
  exact a0o (fun X G W k c=>c2E ((sE a sc _ h).v X G W k c)) (fun G δ S Y K q=>by unfold a0u at q;exact q)
 | .ofs srt a,sc,x,h=>by
  unfold chk at h
  split at h
  ·simp only [zak,zah] at h
   obtain ⟨⟨⟨⟨⟨e,h0⟩,e2⟩,h1⟩,h2⟩,h3⟩:=h
   exact a0o (fun X G W k c=>c2Z c e h0 e2 h1 h2 ((sE a sc _ h3).v X G W k c)) (fun G δ S Y K q=>by unfold a0u at q;exact q)
  ·cases h
 | .ofi a,sc,x,h=>by
  unfold chk at h
  split at h
  ·simp only [zak,zah] at h
   obtain ⟨⟨⟨⟨⟨e,h0⟩,e2⟩,h1⟩,h2⟩,h3⟩:=h
   exact a0o (fun X G W k c=>c2Y c e h0 e2 h1 h2 ((sE a sc _ h3).v X G W k c)) (fun G δ S Y K q=>by unfold a0u at q;exact q)
  ·cases h
 | .vls cell a,sc,x,h=>by
  unfold chk at h
  split at h
  ·simp only [zak,zah] at h
   obtain ⟨⟨⟨⟨⟨e,h0⟩,e2⟩,h1⟩,h2⟩,h3⟩:=h
   exact a0o (fun X G W k c=>c3h c e h0 e2 h1 h2 ((sE a sc _ h3).v X G W k c)) (fun G δ S Y K q=>by unfold a0u at q;exact q)
  ·cases h
 | .rev cell a,sc,x,h=>by
  unfold chk at h
  split at h
  ·exact a0o (fun X G W k c=>c22 c ((sE a sc _ h).v X G W k c)) (fun G δ S Y K q=>by unfold a0u at q;exact q)
  ·cases h
 | .sl2 j a,sc,x,h=>by
  unfold chk at h
  split at h
  ·rw [zak] at h
   exact a0o (fun X G W k c=>c23 c h.1 ((sE a sc _ h.2).v X G W k c)) (fun G δ S Y K q=>by unfold a0u at q;exact q)
  ·cases h
 | .kin neg j a,sc,x,h=>by
  unfold chk at h
  split at h
  ·simp only [zak,zah] at h
   obtain ⟨⟨⟨e,h0⟩,h1⟩,h2⟩:=h
   rw [e]
   exact ⟨fun X G W k c=>c2I c h0 h1 ((sE a sc _ h2).v X G W k c),fun X G W k c=>b7Q c h0 h1 ((sE a sc _ h2).v X G W k c)⟩
  ·cases h
 | .adc a b,sc,x,h=>by
  unfold chk at h
  split at h
  ·simp only [zak,zah] at h
   obtain ⟨e,h1,h2⟩:=h
   subst e
   exact a0o (fun X G W k c=>c1Z c ((sE a sc _ h1).v X G W k c) ((sE b sc _ h2).v X G W k c)) (fun G δ S Y K q=>by unfold a0u at q;exact q)
  ·cases h
 | .kix j a,sc,x,h=>by
  unfold chk at h
  split at h
  ·simp only [zak] at h
   exact a0o (fun X G W k c=>c2K c h.1.1.1 h.1.1.2 h.1.2 ((sE a sc _ h.2).v X G W k c)) (fun G δ S Y K q=>by unfold a0u at q;exact q)
  ·cases h
 | .dct cell ps,sc,x,h=>by
  unfold chk at h
  split at h
  ·simp only [zak,zah] at h
   exact a0o (fun X G W k c=>c2D c h.1 (sP ps sc _ _ h.2)) (fun G δ S Y K q=>by unfold a0u at q;exact q)
  ·cases h
 | .nev,sc,x,h=>b7Y (fun G δ S Y K q=>by rw [den] at q;exact q) (fun G δ S Y K q=>by unfold a0u at q;exact q)
theorem sP:∀ (ps:RQ) (sc:Scope) (ks:List (Option Expr)) (vs:List Expr),b6g n sc ps ks vs=true→b5R n sc ps ks vs
 | .nil,sc,ks,vs,h=>by
  unfold b6g at h
  rw [zak] at h
  cases ks with
  | cons _ _=>exact nomatch h.1
  | nil =>
   cases vs with
   | cons _ _=>exact nomatch h.2
   | nil=>exact b2s
 | .cons kx vx ps,sc,ks,vs,h=>by
  unfold b6g at h
  split at h
  ·simp only [zak] at h
   obtain ⟨⟨h0,h1⟩,h2⟩:=h
   exact b0Q (sE kx sc _ h0) (sE vx sc _ h1) (sP ps sc _ _ h2)
  ·cases h
theorem sL:∀ (es:RL) (sc:Scope) (xs:List Expr),a7a n sc es xs=true→a9f n sc es xs
 | .nil,sc,xs,h=>by
  unfold a7a at h
  cases xs with
  | nil=>exact b2r
  | cons _ _=>cases h
 | .cons e es,sc,xs,h=>by
  unfold a7a at h
  split at h
  ·simp only [zak] at h
   obtain ⟨h0,h1,h2⟩:=h
   exact b0P h0 (sE e sc _ h1) (sL es sc _ h2)
  ·cases h
theorem sO:∀ (e:RO) (sc:Scope) (x:Option Expr),b3K n sc e x=true→∀ X G W k,XC n X G W k sc→PO X x (LO G.toGd W (a2T G e))
 | .nn,sc,x,h=>fun X G W k c=>by
  unfold b3K at h
  cases x with
  | some _=>cases h
  | none =>
   refine PO.imp po_none fun σ H Q q=>?_
   obtain ⟨δ,S,Y,K,R,ht,res,_⟩:=q
   rw [a2T] at ht
   exact res _ S H ht (a0h.refl _ _) R.ce
 | .ss e,sc,x,h=>fun X G W k c=>by
  unfold b3K at h
  split at h
  ·refine PO.imp (po_some ((sE e sc _ h).v X G W k c)) fun σ H Q q=>?_
   obtain ⟨δ,S,Y,K,R,ht,res,rw'⟩:=q
   rw [a2T] at ht
   refine ⟨δ,S,Y,_,R,ht,fun d S1 v H1 kk P cc r=>?_,rw'⟩
   obtain ⟨i,rfl,kk⟩:=kk
   exact ⟨i,a0k r,res _ S1 H1 kk P cc⟩
  ·cases h
theorem sC:∀ (e:RO) (sc:Scope) (ifs:List Expr),b6f n sc e ifs=true→∀ X G W k,XC n X G W k sc→PTs X ifs (LT G.toGd W (a7b G e))
 | .nn,sc,ifs,h=>fun X G W k c=>by
  unfold b6f at h
  cases ifs with
  | nil =>
   refine ⟨fun pins s σ H Q I q=>?_⟩
   obtain ⟨δ,S,Y,K,R,ht,res,rw'⟩:=q
   rw [a7b] at ht
   exact pts_nil.run pins s σ H Q I (res true S H ht (a0h.refl _ _) R.ce)
  | cons _ _=>cases h
 | .ss e,sc,ifs,h=>fun X G W k c=>by
  unfold b6f at h
  split at h
  ·rw [show a7b G (.ss e)=a0u G e by rw [a7b]]
   exact pts_one ((sE e sc _ h).t X G W k c)
  ·cases h
theorem sI:∀ (i:RI) (sc:Scope) (x:Expr),a7n n sc i x=true→b5Q n sc i x
 | .lst e,sc,x,h=>by
  unfold a7n at h
  exact fun X G W k tg c hm _=>c1o c ((sE e sc x h).v X G W k c)
 | .tup e,sc,x,h=>by
  unfold a7n at h
  exact fun X G W k tg c hm _=>c1q c ((sE e sc x h).v X G W k c)
 | .rng1 a,sc,x,h=>by
  unfold a7n at h
  split at h
  ·simp only [zak,zah] at h
   obtain ⟨⟨⟨e,h0⟩,h1⟩,h2⟩:=h
   subst e
   exact fun X G W k tg c hm _=>b64 c h0 h1 ((sE a sc _ h2).v X G W k c)
  ·cases h
 | .rng2 a b,sc,x,h=>by
  unfold a7n at h
  split at h
  ·simp only [zak,zah] at h
   obtain ⟨⟨⟨⟨e,h0⟩,h1⟩,h1'⟩,h2,h3⟩:=h
   subst e
   exact fun X G W k tg c hm _=>b65 c h0 h1 h1' ((sE a sc _ h2).v X G W k c) ((sE b sc _ h3).v X G W k c)
  ·cases h
 | .str a,sc,x,h=>by
  unfold a7n at h
  exact fun X G W k tg c hm _=>c1p ((sE a sc x h).v X G W k c)
 | .keys a,sc,x,h=>by
  unfold a7n at h
  exact fun X G W k tg c hm _=>b63 ((sE a sc x h).v X G W k c)
 | .zip t1 t2 a b,sc,x,h=>by
  unfold a7n at h
  split at h
  ·simp only [zak,zah] at h
   obtain ⟨⟨⟨⟨e,h0⟩,h1⟩,h1'⟩,h2,h3⟩:=h
   subst e
   intro X G W k tg c hm two
   obtain ⟨_,_,_,rfl⟩:=two rfl
   exact b66 c h0 h1 h1' ((sE a sc _ h2).v X G W k c) ((sE b sc _ h3).v X G W k c)
  ·cases h
 | .enumt a,sc,x,h=>by
  unfold a7n at h
  split at h
  ·simp only [zak,zah] at h
   obtain ⟨⟨⟨e,h0⟩,h1⟩,h2⟩:=h
   subst e
   intro X G W k tg c hm two
   obtain ⟨_,_,_,rfl⟩:=two rfl
   exact b4h c h0 h1 ((sE a sc _ h2).v X G W k c)
  ·cases h
 | .enum a,sc,x,h=>by
  unfold a7n at h
  split at h
  ·simp only [zak,zah] at h
   obtain ⟨⟨⟨e,h0⟩,h1⟩,h2⟩:=h
   subst e
   intro X G W k tg c hm two
   obtain ⟨_,_,_,rfl⟩:=two rfl
   exact b62 c h0 h1 ((sE a sc _ h2).v X G W k c)
  ·cases h
 | .items a,sc,x,h=>by
  unfold a7n at h
  split at h
  ·simp only [zak,zah] at h
   obtain ⟨⟨⟨e,h0⟩,h1⟩,h2⟩:=h
   subst e
   intro X G W k tg c hm two
   obtain ⟨_,_,_,rfl⟩:=two rfl
   exact b4i h0 h1 ((sE a sc _ h2).v X G W k c)
  ·cases h
end
end Sv
namespace Sv
open PySem PySem.Spec PyProof.Rows L2
open L2H (RoomH)
def a9j (x y z:D) (S:SS) (K:SS→Prop):Prop:=match x with
 | .obj a=>match S a with
  | some (.lst ds)=>∃ i j,y=.int i∧ixN ds.length i=some j∧K (S.set a (.lst (ds.set j z)))
  | some (.dic kvs)=>∃ k,keyD y=some k∧kvs.length < sizeLine∧K (S.set a (.dic (putD kvs k z)))
  | _=>False
 | _=>False
def rD3 (g:Gd) (t:D→D→D→SS→(SS→Prop)→Prop):TSet:=fun o i v H Q=>∃ x y z S K,CellsOk g S H∧Rep g S H x o∧Rep g S H y i∧Rep g S H z v∧t x y z S K∧∀ S' H',K S'→a0h S H S' H'→CellsOk g S' H'→Q H'
section
variable {X:Cx} {g:Gd}
theorem b0M (hu:X.A.units + 1 < cLine):PSet X (rD3 g a9j):=by
 intro pins s σ H o i v ov iv u Q I ro ri rv h
 obtain ⟨x,y,z,S,K,hc,p1,p2,p3,ht,res⟩:=h
 unfold a9j at ht
 split at ht
 ·rename_i a
  cases a0z p1
  split at ht
  ·rename_i ds e
   obtain ⟨k,j,rfl,hj,q⟩:=ht
   cases a0k p2
   obtain ⟨vs,hl,hr⟩:=hc a _ e
   exact set_list pins s σ H _ _ _ ov iv u Q I ro ri rv ⟨a,vs,k,j,rfl,rfl,hl,by rw [← hr.length];exact hj,res _ _ q (a0h.write e) (hc.write e ⟨_,upd_same,(hr.set p3).mono (a0h.write e)⟩)⟩
  ·rename_i kvs e
   obtain ⟨k,ek,hz,q⟩:=ht
   cases a1d ek p2
   obtain ⟨vs,hl,hr⟩:=hc a _ e
   exact set_dict hu pins s σ H _ _ _ ov iv u Q I ro ri rv ⟨a,_,rfl,.inl ⟨vs,k,hl,rfl,by rw [← Paired.length (a05 hr)];exact hz,rfl⟩,res _ _ q (a0h.write e) (hc.write e ⟨_,upd_same,(a7I hr k p3).mono (a0h.write e)⟩)⟩
  ·exact ht.elim
 ·exact ht.elim
theorem b1R {n j:Nat} {k:Int} (h:ixN n k=some j):(0≤k∧k=(j:Int)∨k < 0∧k + (n:Int)=(j:Int))∧j < n:=by
 unfold ixN at h
 split at h
 ·split at h <;> cases h
  omega
 ·split at h <;> cases h
  omega
theorem b0h {pins:List (Addr × Obj)} {σ:L2.St} {H:Hp} {s:Shared} {a:Addr} {vs:List V} {k:Int} {t:Tok} {z:V} {Q:Value→Shared→Prop} (I:Inv X pins σ H s) (at_a:SqL X.K H a vs) (found:atI vs k=some z) {E:Value→Shared→Prop} (done:∀ w,RelV z w→Q w s) :
  wpAny (model X.prog X.w) X.A (getItem (.ref a) (.int k t)) Q E s:=by
 obtain ⟨its,rel,isL,small⟩:=I.list at_a
 obtain ⟨j,place,here⟩:=Option.bind_eq_some_iff.mp found
 obtain ⟨w,at_j,like⟩:=b0E rel here
 have ⟨sign,inside⟩:=b1R place
 have same:its.toArray.size=vs.length:=by rw [List.size_toArray,rel.length]
 have bound:=line63
 have reads:∀ i:Nat,i=j→its.toArray[i]?=some w:=fun i e=>by rw [e,List.getElem?_toArray];exact at_j
 rcases sign with ⟨up,e⟩ | ⟨down,e⟩
 ·exact wpAny_getItem_list isL.isList up (by omega) (reads _ (by omega)) (done w like)
 ·exact wpAny_getItem_list_neg isL.isList down (by omega) (by omega) (reads _ (by omega)) (done w like)
def a6t (x y:D) (S:SS) (K:DK):Prop:=match x with
 | .obj a=>match S a with
  | some (.lst ds)=>∃ i d,y=.int i∧atI ds i=some d∧K d S
  | some (.dic kvs)=>∃ k d,keyD y=some k∧valD kvs k=some d∧K d S
  | _=>False
 | _=>False
theorem b4e (hu:X.A.units + 1 < cLine):PGet X (rD2 g a6t):=by
 intro pins s σ H o i ov iv Q I ro ri h
 obtain ⟨x,y,S,K,hc,p1,p2,ht,res⟩:=h
 unfold a6t at ht
 split at ht
 ·rename_i a
  cases a0z p1
  cases (show ov=Value.ref a from ro)
  split at ht
  ·rename_i ds e
   obtain ⟨k,d,rfl,hd,q⟩:=ht
   cases a0k p2
   obtain ⟨t,rfl⟩:=(show ∃ t,iv=Value.int k t from ri)
   obtain ⟨vs,hl,hr⟩:=hc a _ e
   obtain ⟨z,he,rz⟩:=hr.at hd
   exact b0h I (.inl (.inl hl)) he fun w rw'=>⟨z,H,I,rw',res.val q hc rz⟩
  ·rename_i kvs e
   obtain ⟨k,d,ek,ed,q⟩:=ht
   cases a1d ek p2
   obtain ⟨vs,hl,hr⟩:=hc a _ e
   rcases a1P hr k with ⟨z,_⟩ | ⟨d2,w,z1,z2,rw'⟩
   ·rw [ed] at z;cases z
   ·rw [ed] at z1
    cases z1
    exact d_getItem hu I (.inl ⟨vs,k,.inl hl,rfl,z2.symm⟩) ri fun w' s3 I3 rw2=>⟨w,H,I3,rw2,res.val q hc rw'⟩
  ·exact ht.elim
 ·exact ht.elim
def c0B (x y:D) (S:SS) (K:DK):Prop:=match x,y with
 | .int i,.int j=>K (.int (i + j)) S
 | .str a,.str b=>a.length + b.length≤sizeLine∧K (.str (a ++ b)) S
 | _,_=>False
def c0C (x y:D) (S:SS) (K:DK):Prop:=match x,y with
 | .int i,.int j=>K (.int (i - j)) S
 | _,_=>False
def b1r:Operator→D→D→SS→DK→Prop
 | .Add=>c0B | .Sub=>c0C | _=>fun _ _ _ _=>False
theorem a9C:∀ op:Operator,PIp X op (rD2 g (b1r op)):=by
 intro op pins s σ H v1 v2 u1 u2 Q I r1 r2 h
 obtain ⟨x,y,S,K,hc,p1,p2,ht,res⟩:=h
 cases op with
 | Add =>
  change c0B x y S K at ht
  unfold c0B at ht
  split at ht
  ·cases a0k p1
   cases a0k p2
   exact iop_add pins s σ H _ _ _ _ Q I r1 r2 ⟨_,_,rfl,rfl,res.int ht hc⟩
  ·cases a0B p1
   cases a0B p2
   exact iop_add_str pins s σ H _ _ _ _ Q I r1 r2 ⟨_,_,rfl,rfl,ht.1,res.str ht.2 hc⟩
  ·exact ht.elim
 | Sub =>
  change c0C x y S K at ht
  unfold c0C at ht
  split at ht
  ·cases a0k p1
   cases a0k p2
   exact iop_sub pins s σ H _ _ _ _ Q I r1 r2 ⟨_,_,rfl,rfl,res.int ht hc⟩
  ·exact ht.elim
 | _=>exact False.elim ht
end
def a6Q (f:Str) (v:D):List (Str × D)→List (Str × D)
 | []=>[(f,v)]
 | (g,x) :: r=>if g=f then (g,v) :: r else (g,x) :: a6Q f v r
theorem a8v {g:Gd} {S:SS} {H:Hp} {f:Str} {d:D} {v:V} (r:Rep g S H d v):∀ {fs:List (Str × D)} {ws:List (Str × V)},a2x g S H fs ws→a2x g S H (a6Q f d fs) (putF f v ws)
 | [],_,h=>by
  simp only [a2x] at h
  subst h
  simp only [a6Q,putF,a2x]
  exact ⟨v,[],rfl,r,rfl⟩
 | (k,x) :: fs,_,h=>by
  simp only [a2x] at h
  obtain ⟨w,q,rfl,a,b⟩:=h
  unfold a6Q putF
  by_cases e:k=f
  ·rw [if_pos e,if_pos e]
   simp only [a2x]
   exact ⟨v,q,rfl,r,b⟩
  ·rw [if_neg e,if_neg e]
   simp only [a2x]
   exact ⟨w,_,rfl,a,a8v r b⟩
theorem c3T {g:Gd} {S:SS} {H:Hp}:∀ {fs:List (Str × D)} {ws:List (Str × V)},a2x g S H fs ws→fs.length=ws.length
 | [],_,h=>by simp only [a2x] at h;subst h;rfl
 | (k,x) :: fs,_,h=>by
  simp only [a2x] at h
  obtain ⟨w,q,rfl,a,b⟩:=h
  rw [zaz,zaz,c3T b]
mutual
inductive RS where
 | exp (e:RE) | asg (tg:List Nat) (one:Bool) (e:RE) | asl (i:Nat) (e:RE)
 | sti (a b c:RE) | stf (a:RE) (f:Str) (c:RE)
 | agv (i:Nat) (op:Operator) (e:RE) | agi (a b:RE) (op:Operator) (e:RE)
 | ifs (c:RE) (a b:RSs) | fr (tg:List Nat) (one:Bool) (it:RI) (b:RSs) | wh (c:RE) (b:RSs)
 | ret (e:RE) | retN | brk | cnt | pas
 | rai (j:Nat) (es:RL) | tra (b:RSs) (j:Nat) (i:Nat) (s:RSs) | tro (b:RSs) (j:Nat) (s:RSs)
 | par (i j:Nat) (es:RL) | tri (i j l:Nat) (es:RL) | lck (s:RS) | asu (tg:List Nat) (e:RE) | frn (j:Nat) (tg:List Nat) (it:RI) (b:RSs) | nev
inductive RSs where
 | nil | cons (s:RS) (r:RSs) | frz (i:Nat) (r:RSs) | cut (s:RS) (r:RSs)
end
inductive XKd where
 | fld (f:Str) | bare
def XKd.ar:XKd→Nat
 | .fld _=>1 | .bare=>0
structure Gs extends Gm where
 xk:Nat→Option XKd
def Gs.suite (G:Gs) (a:Addr) (oe:Obj):Gs:={ G with m0:=some (a,oe) }
def mkX:XKd→List D→Option (List (Str × D))
 | .fld f,[d]=>some [(f,d)]
 | .bare,[]=>some []
 | _,_=>none
def SE.unlock (F:SE) (a:Addr) (kvs:List (Key × D)):SE :=
 { nx:=fun δ S=>F.nx δ (S.set a (.dic kvs)),rt:=fun d S=>F.rt d (S.set a (.dic kvs)),bk:=fun δ S=>F.bk δ (S.set a (.dic kvs)),ct:=fun δ S=>F.ct δ (S.set a (.dic kvs)) }
def c5x (i:Nat) (δ:DS) (S:SS) (K:DS→SS→Prop):Prop:=K δ S∨∃ a,δ[i]?=some (some (.obj a))∧((∃ ds,S a=some (.lst ds)∧K (δ.set i (some (.lst ds))) (S.del a))∨∃ ds,S a=some (.dic ds)∧K (δ.set i (some (.dic ds))) (S.del a))
def b6r (j:Nat) (tg:List Nat) (d:D) (δ:DS) (S:SS) (Q:DS→SS→Prop):Prop:=∃ x y ds,vw S d=.tup [x,y]∧vw S y=.tup ds∧ds.length=tg.length∧Q (a4K (δ.set j (some x)) tg ds) S
mutual
def a0q (G:Gs):RS→RdS
 | .exp e=>fun δ S Y F=>den G.toGm e δ S Y fun _ S1=>F.nx δ S1
 | .asg tg one e=>fun δ S Y F=>(one=false→G.m0=none)∧den G.toGm e δ S Y fun d S1=>a2a tg one d δ S1 F.nx
 | .asu tg e=>fun δ S Y F=>G.m0=none∧den G.toGm e δ S Y fun d S1=>∃ ds,vw S1 d=.lst ds∧ds.length=tg.length∧F.nx (a4K δ tg ds) S1
 | .asl i e=>fun δ S Y F=>den G.toGm e δ S Y fun d S1=>F.nx (δ.set i (some d)) S1
 | .sti a b c=>fun δ S Y F=>den G.toGm c δ S Y fun z S1=>den G.toGm a δ S1 Y fun x S2=>den G.toGm b δ S2 Y fun y S3=>a9j x y z S3 fun S4=>F.nx δ S4
 | .stf a f c=>fun δ S Y F=>den G.toGm c δ S Y fun z S1=>den G.toGm a δ S1 Y fun x S2=>∃ p C fs,x=.obj p∧S2 p=some (.ins C fs)∧Cls G.K C∧NoAttr G.K C f∧fs.length < 1000∧F.nx δ (S2.set p (.ins C (a6Q f z fs)))
 | .agv i op e=>fun δ S Y F=>∃ x,δ[i]?=some (some x)∧den G.toGm e δ S Y fun y S1=>b1r op x y S1 fun z S2=>F.nx (δ.set i (some z)) S2
 | .agi a b op e=>fun δ S Y F=>den G.toGm a δ S Y fun x S1=>den G.toGm b δ S1 Y fun y S2=>a6t x y S2 fun u S3=>den G.toGm e δ S3 Y fun w S4=>b1r op u w S4 fun z S5=>a9j x y z S5 fun S6=>F.nx δ S6
 | .ifs c a b=>fun δ S Y F=>a0u G.toGm c δ S Y fun k S1=>if k=true then a0b G a δ S1 Y F else a0b G b δ S1 Y F
 | .fr tg one it b=>fun δ S Y F=>G.m0=none∧a02 G.toGm it δ S Y fun ds ok S1=>∃ Iv:Nat→DS→SS→Prop,Iv 0 δ S1∧(∀ i δ' S',Iv i δ' S'→i≤ds.length→ok S') ∧
   (∀ i d δ' S',ds[i]?=some d→Iv i δ' S'→a2a tg one d δ' S' fun δ2 S2=>a0b G b δ2 S2 Y { F with nx:=Iv (i + 1),ct:=Iv (i + 1),bk:=F.nx })∧(∀ δ' S',Iv ds.length δ' S'→F.nx δ' S')
 | .frn j tg it b=>fun δ S Y F=>G.m0=none∧a02 G.toGm it δ S Y fun ds ok S1=>∃ Iv:Nat→DS→SS→Prop,Iv 0 δ S1∧(∀ i δ' S',Iv i δ' S'→i≤ds.length→ok S') ∧
   (∀ i d δ' S',ds[i]?=some d→Iv i δ' S'→b6r j tg d δ' S' fun δ2 S2=>a0b G b δ2 S2 Y { F with nx:=Iv (i + 1),ct:=Iv (i + 1),bk:=F.nx })∧(∀ δ' S',Iv ds.length δ' S'→F.nx δ' S')
 | .wh c b=>fun δ S Y F=>∃ Iv:Nat→DS→SS→Prop,(∃ m,Iv m δ S)∧∀ m δ' S',Iv m δ' S'→a0u G.toGm c δ' S' Y fun k S1 =>
   if k=true then a0b G b δ' S1 Y { F with nx:=fun δ2 S2=>∃ m',m' < m∧Iv m' δ2 S2,ct:=fun δ2 S2=>∃ m',m' < m∧Iv m' δ2 S2,bk:=F.nx } else F.nx δ' S1
 | .ret e=>fun δ S Y F=>den G.toGm e δ S Y F.rt
 | .retN=>fun δ S Y F=>F.rt .non S
 | .brk=>fun δ S Y F=>F.bk δ S
 | .cnt=>fun δ S Y F=>F.ct δ S
 | .pas=>fun δ S Y F=>F.nx δ S
 | .rai j es=>fun δ S Y F=>G.m0=none∧∃ kd,G.xk j=some kd∧es.len=kd.ar∧a0x G.toGm es δ S Y fun ds S1=>∃ fs,mkX kd ds=some fs∧Y (G.cl j) fs δ S1
 | .tra b j i s=>fun δ S Y F=>G.m0=none∧a0b G b δ S (fun C fs δ' S'=>∃ k,PySem.W.exmOne G.K (.ref C) (.ref (G.cl j))=some k ∧
   (k=true→∀ a oe,a0b (G.suite a oe) s (δ'.set i (some (.exc a oe C fs))) S' noX { F with nx:=fun δ2 S2=>F.nx (δ2.set i none) S2,bk:=fun δ2 S2=>F.bk (δ2.set i none) S2,ct:=fun δ2 S2=>F.ct (δ2.set i none) S2 }) ∧
   (k=false→Y C fs δ' S')) F
 | .tro b j s=>fun δ S Y F=>G.m0=none∧a0b G b δ S (fun C fs δ' S'=>∃ k,PySem.W.exmOne G.K (.ref C) (.ref (G.cl j))=some k∧(k=true→∀ a oe,a0b (G.suite a oe) s δ' S' noX F)∧(k=false→Y C fs δ' S')) F
 | .par i j es=>fun δ S Y F=>G.m0=none∧a0x G.toGm es δ S Y fun ds S1=>∃ v w,ds=[v,w]∧F.nx ((δ.set i (some v)).set j (some w)) S1
 | .tri i j l es=>fun δ S Y F=>G.m0=none∧a0x G.toGm es δ S Y fun ds S1=>∃ u v w,ds=[u,v,w]∧F.nx (((δ.set i (some u)).set j (some v)).set l (some w)) S1
 | .lck s=>fun δ S Y F=>∃ a kvs,S a=some (.dic kvs)∧a0q G s δ (S.set a (.loc kvs)) Y (F.unlock a kvs)
 | .nev=>fun _ _ _ _=>False
def a0b (G:Gs):RSs→RdS
 | .nil=>fun δ S Y F=>F.nx δ S
 | .cons s r=>fun δ S Y F=>a0q G s δ S Y { F with nx:=fun δ1 S1=>a0b G r δ1 S1 Y F }
 | .frz i r=>fun δ S Y F=>c5x i δ S fun δ1 S1=>a0b G r δ1 S1 Y F
 | .cut s r=>fun δ S Y F=>∃ J:DS→SS→Prop,a0q G s δ S Y { F with nx:=J }∧∀ δ1 S1,J δ1 S1→a0b G r δ1 S1 Y F
end
def nlc:Expr→Bool
 | .ListComp _ _ _ _=>false | .SetComp _ _ _ _=>false | .DictComp _ _ _ _ _=>false | _=>true
def ntup:Expr→Bool
 | .Tuple _ _ _=>false | _=>true
def a84 (sc:Scope) (x e:Expr):Bool:=nlc e || (match x with
 | .Name y p=>match sc.names.lookup y with
  | some .local=>!(p.line == e.pos.line)
  | _=>true
 | .Tuple _ _ _=>true
 | _=>false)
def a8P (sc:Scope):Expr→Bool
 | .Tuple [.Name y _,.Name z _] _ _=>!(decide (sc.names.lookup y=some .local) && decide (sc.names.lookup z=some .local))
 | .Tuple [.Name y _,.Name z _,.Name x _] _ _=>!(decide (sc.names.lookup y=some .local) && (decide (sc.names.lookup z=some .local) && decide (sc.names.lookup x=some .local)))
 | .Tuple (_ :: _ :: _ :: _ :: _) _ _=>true
 | _=>false
mutual
def a3w (n:SN) (sc:Scope):RS→Stmt→Bool
 | .exp e,x=>match x with
  | .Expr v _=>nlc v && chk n sc e v
  | _=>false
 | .asg tg one e,x=>match x with
  | .Assign [t] v _=>a84 sc t v && (one || ntup v || a8P sc t) && (a1c n sc tg one t && chk n sc e v)
  | _=>false
 | .asu tg e,x=>match x with
  | .Assign [t] v _=>a84 sc t v && (ntup v || a8P sc t) && (a1c n sc tg false t && chk n sc e v)
  | _=>false
 | .asl i e,x=>match x with
  | .Assign [.Name y py] (.ListComp xe [⟨xt,xi,ifs,0⟩] scope p) _=>match e with
   | .lc _ elt tg one it c own=>nmB n.N i y && decide (sc.names.lookup y=some .local) && (py.line == p.line) && !(scope.names.any fun (m,k)=>m == y && (k == .local || k == .cell)) &&
     (blkC n.N sc scope own && a2A xi && a7n n sc it xi && (tg.all fun i=>decide (i∈own.map (·.2))) && a1c n scope tg one xt && b6f n scope c ifs && chk n scope elt xe && (!it.two || !one))
   | _=>false
  | _=>false
 | .sti a b c,x=>match x with
  | .Assign [.Subscript l r _] v _=>a3d r && (chk n sc a l && (chk n sc b r && chk n sc c v))
  | _=>false
 | .stf a f c,x=>match x with
  | .Assign [.Attribute l f' _] v _=>decide (f'=f) && (chk n sc a l && chk n sc c v)
  | _=>false
 | .agv i op e,x=>match x with
  | .AugAssign (.Name y _) o v _=>nmB n.N i y && a9g sc y && decide (o=op) && chk n sc e v
  | _=>false
 | .agi a b op e,x=>match x with
  | .AugAssign (.Subscript l r _) o v _=>a3d r && decide (o=op) && (chk n sc a l && (chk n sc b r && chk n sc e v))
  | _=>false
 | .ifs c a b,x=>match x with
  | .If t p q _=>chk n sc c t && (a1u n sc a p && a1u n sc b q)
  | _=>false
 | .fr tg one it b,x=>match x with
  | .For t i p [] _=>a2A i && a1c n sc tg one t && (!it.two || !one) && (a7n n sc it i && a1u n sc b p)
  | _=>false
 | .frn j tg it b,x=>match x with
  | .For (.Tuple [.Name y _,t2] _ _) i p [] _=>a2A i && (nmB n.N j y && a9g sc y) && a1c n sc tg false t2 && (a7n n sc it i && a1u n sc b p)
  | _=>false
 | .wh c b,x=>match x with
  | .While t p [] _=>chk n sc c t && a1u n sc b p
  | _=>false
 | .ret e,x=>match x with
  | .Return (some v) _=>chk n sc e v
  | _=>false
 | .retN,x=>match x with
  | .Return none _=>true
  | _=>false
 | .brk,x=>match x with
  | .Break _=>true
  | _=>false
 | .cnt,x=>match x with
  | .Continue _=>true
  | _=>false
 | .pas,x=>match x with
  | .Pass _=>true
  | .Expr (.Constant (.str _) _ _) _=>true
  | _=>false
 | .rai j es,x=>match x with
  | .Raise (some (.Call (.Name y _) xs [] _)) none _=>nmB n.cls j y && glB sc y && a7a n sc es xs
  | _=>false
 | .tra b j i s,x=>match x with
  | .Try p [.ExceptHandler (some (.Name y _)) (some m) (q :: qs) _] [] [] _=>nmB n.cls j y && glB sc y && nmB n.N i m && decide (sc.names.lookup m=some .local) && (a1u n sc b p && a1u n sc s (q :: qs))
  | _=>false
 | .tro b j s,x=>match x with
  | .Try p [.ExceptHandler (some (.Name y _)) none (q :: qs) _] [] [] _=>nmB n.cls j y && glB sc y && (a1u n sc b p && a1u n sc s (q :: qs))
  | _=>false
 | .par i j es,x=>match x with
  | .Assign [.Tuple [.Name y py,.Name z pz] _ _] (.Tuple [a,b] _ _) _=>nmB n.N i y && nmB n.N j z && decide (i≠j) && decide (sc.names.lookup y=some .local) && decide (sc.names.lookup z=some .local) && (py.line == pz.line) && decide ((y == z)=false) && a0A a && a0A b &&
    !([a,b].all (foldedForSure 8)) && !([a,b].all (constantsAlone 8)) && a7a n sc es [a,b]
  | _=>false
 | .tri i j l es,x=>match x with
  | .Assign [.Tuple [.Name x px,.Name y py,.Name z pz] _ _] (.Tuple [a,b,c] _ _) _=>(nmB n.N i x && nmB n.N j y && nmB n.N l z && decide (i≠j) && decide (i≠l) && decide (j≠l)) && (decide (sc.names.lookup x=some .local) && decide (sc.names.lookup y=some .local) && decide (sc.names.lookup z=some .local)) && ((px.line == py.line) && (px.line == pz.line) && decide ([x,y,z].eraseDups=[x,y,z])) && (a0A a && a0A b && a0A c) &&
    !([a,b,c].all (foldedForSure 8)) && !([a,b,c].all (constantsAlone 8)) && a7a n sc es [a,b,c]
  | _=>false
 | .lck s,x=>a3w n sc s x
 | .nev,_=>true
def a1u (n:SN) (sc:Scope):RSs→List Stmt→Bool
 | .nil,xs=>xs.isEmpty
 | .cons s r,xs=>match xs with
  | x :: xs=>a3w n sc s x && a1u n sc r xs
  | []=>false
 | .frz _ r,xs=>a1u n sc r xs
 | .cut s r,xs=>match xs with
  | x :: xs=>a3w n sc s x && a1u n sc r xs
  | []=>false
end
end Sv
namespace Sv
open PySem PySem.Spec PyProof.Rows L2
open L2H (RoomH)
def spI (C:Addr) (f:Str):SpM:=fun m vs H Q E=>∃ a y,vs=[V.ref a,y]∧H a=some (exo a C none)∧∀ dx,H dx=none→dx≠a→Q .non (upd (upd H dx (exd dx [(f,y)])) a (exo a C (some dx)))
def c7L (C:Addr) (f:Str) (ta:TA):L2.St→Hp→XK→Prop:=fun σ H Q=>ta σ H fun vs H1=>∃ y,vs=[y]∧∀ dx,H1 dx=none→Q (.ref C) (some dx) (upd H1 dx (.xd [(f,y)]))
theorem a6E {A:Around} {C:Addr} {us:List Value} {kw:List (Str × Value)}:(A.under (.builtin "type.__call__" ⟨.ref C :: us,kw⟩)).handled=A.handled:=rfl
theorem b1T {H:Hp} {a d:Addr} {o o' u v:HO} (fresh:H a=none):upd (del (upd (upd (upd H a o) d u) a o') a) d v=upd H d v:=by
 funext b
 simp only [upd,del]
 split
 ·rfl
 ·split
  ·rename_i e;rw [e,fresh]
  ·rfl
section
variable {X:Cx} {C fI:Addr} {x f:Str} {e:Expr} {es:List Expr} {p pos:Pos} {ta:TA}
theorem a8V {H:Hp} {a:Addr} {y:V} {Q:XK} (fresh:H a=none) (want:∀ d,H d=none→Q (.ref C) (some d) (upd H d (.xd [(f,y)]))) :
  spI C f none [.ref a,y] (upd H a (exo a C none)) (fun v H2=>v=.non∧∃ d fs,H2 a=some (exo a C (some d))∧H2 d=some (exd d fs)∧H d=none∧Q (.ref C) (some d) (upd (del H2 a) d (.xd fs))) fun _ _ _=>False:=by
 refine ⟨a,y,rfl,upd_same,fun d free apart=>?_⟩
 have free':H d=none:=by simpa only [upd,if_neg apart] using free
 refine ⟨rfl,d,[(f,y)],upd_same,?_,free',?_⟩
 ·simp only [upd,if_neg apart,if_true]
 ·rw [b1T fresh]
  exact want d free'
theorem b5b {kI:Nat} {fd:FuncData} {ps:List Str} (T:OexC X.K C) (own:PySem.W.findIn X.K (.ref C) "__init__" = some (some (.ref fI))) (isFn:PySem.W.typeIn X.K (.ref fI)=some (.type "function")) (F:FnG X.prog X.w X.K X.mg X.base false kI fI fd ps (spI C f))
  (room:RoomH (kI + 1) X.A) (md:a1p X none) (binds:L2.Binds X.K fd ps []) (gl:Gl X x) (at_x:X.mg x=some (.ref C)) (args:PA X (e :: es) ta) (db:(x == ("__debug__" : Str))=false)
  (plain:starEach (e :: es) X.env=(false,eval e X.env) :: starEach es X.env) (rest:(backTo pos (starEach es X.env)).any (·.1)=false):L2N.PMk X (.Call (.Name x p) (e :: es) [] pos) (c7L C f ta):=by
 intro pins s σ H Q I want
 have ⟨_,_,_,_,bm,_,_,_,_,_,_,_,_,_,_,at_C,roots⟩:=T.cls
 apply wpAny_Call_Name_kw (ld_glob I gl at_x ?_ db)
 apply PySem.W.callWith_K (h₀:=X.base) I.ok.mod.kin T.kC ?_ plain rest
 apply thn (args.run pos pins s σ H _ I want)
 rintro us ⟨hp,gs,dr,tk,os⟩ ⟨_,H1,J,rv,y,rfl,wish⟩
 refine ⟨J.kIn,wpAny_call ?_⟩
 have one:us.length=1:=rv.length.symm
 have young:H1 (hp.objs.size + 1)=none:=J.hok.fresh (Nat.le_succ hp.objs.size)
 have grows:∀ b o,hp.get? b=some o→((hp.push (PySem.W.kdv_tup us)).push (PySem.HandSPX.excO C hp.objs.size)).get? b=some o:=fun _ _ z=>Heap.get?_push_of_some _ (Heap.get?_push_of_some _ z)
 have J':=J.laid (t':=tk) grows (Nat.le_succ hp.objs.size) (exo_ok (P:=X.prog) (w:=X.w) (H:=upd H1 _ _) (e:=hp.objs.size + 1) (C:=C) (d:=none) (t1:=hp.objs.size) (by heap_get))
 have asked:=a8V (Q:=Q) young wish
 have given:Vals [.ref (hp.objs.size + 1),y] (.ref (hp.objs.size + 1) :: us):=.cons rfl rv
 have bound:=binds ⟨_,gs,dr,tk,os⟩ (.ref (hp.objs.size + 1) :: us) J'.kIn (by rw [List.append_nil,← given.length];exact F.len _ _ _ _ _ rfl asked)
 rw [List.append_nil] at bound
 have inner:=F.run _ X.stack _ _ ⟨.ref (hp.objs.size + 1) :: us,[]⟩ _ _ _ _ none rfl (room.make C us []) ⟨md.1,a6E.trans (J'.ok.hd md.2)⟩ (J'.env0.make C us []) bound given asked
 refine PySem.HandSPX.call_own PySem.F.excBase_ValueError (fun n=>PySem.HandSPX.refsVE_contains n bm roots) (J.kIn _ _ at_C) (PySem.W.looks_findIn J.kIn own) (fun o=>PySem.W.bind_fn J.kIn o isFn) (by show us.length≤_;rw [one,zai];decide) (codeAny_mono inner ?_)
 rintro (er | fl) ⟨h2,g2,d2,t2,os2⟩ told
 ·have ⟨_,_,_,_,_,_,_,_,_,_,_,_,never⟩:=told
  exact never.elim
 ·cases fl with
  | ret u =>
   obtain ⟨_,H2,sameOs,bare,un,hok,rel,rfl,d,fs,at_e,at_d,free,done⟩:=told
   have ⟨_,G,JG,keeps,away,lies,off⟩:=mk_end0 (d2:=d2) (t2:=t2) J (Nat.le_succ _) grows un hok sameOs bare at_e at_d free
   exact ⟨rel,_,_,_,⟨G,g2,d2,t2,os2⟩,_,.ref C,some d,rfl,JG,keeps,away,lies,⟨rfl,rfl,fun _ z=>by cases z;rfl⟩,rfl,rfl,off,rfl,bare,raises_own T.exC T.tyC,done⟩
  | _=>exact told.elim
theorem b2h {bmB:List Value} {B newId initId:String} (base:ExcBaseFacts B newId initId bmB) (isExc:PySem.W.excIn X.K C bmB newId=true) (kept:PySem.W.keepIn X.K (.ref C)=true) (raises:Raises X (.ref C)) (gl:Gl X x) (at_x:X.mg x=some (.ref C)) (db:(x == ("__debug__" : Str))=false) :
  L2N.PMk X (.Call (.Name x p) [] [] pos) fun _ H Q=>Q (.ref C) none H:=fun _ _ _ _ _ I want =>
 have ⟨_,_,_,_,_,_,_,_,_,_,_,_,_,_,_,_,_,at_C,names,noInit,tail⟩:=exc_obj I.kIn isExc
 wpAny_Call_Name_kw (ld_glob I gl at_x (PySem.W.callWith_K0 I.kIn kept (wpAny_call_exc_subT base tail at_C names noInit (fun _ _ new=>L2N.mk_of I new raises want (I.hok.gone new.new)) (Nat.zero_le _))) db)
theorem b2c {B:Addr} {z:Str} {p1 p2:Pos} {pl:Sem Bool} (gl:Gl X z) (at_z:X.mg z=some (.ref B)) (db:(z == ("__debug__" : Str))=false) (reads:PySem.W.readsIn X.K B (.type "type")=true) (plainGa:PySem.W.specialIn X.K (.ref B) "__getattribute__" = some (some (.builtin "type.__getattribute__")))
  (found:PySem.W.findCls X.K (.ref B) (.type "type") "__init__" = some (.val (.builtin "ValueError.__init__"))) (args:PA X (e :: es) ta)
  (form:eval (.Call (.Attribute (.Name z p1) "__init__" p2) (e :: es) [] pos) X.env=(do let ov ← eval (.Name z p1) X.env;standAt p2.atName;let (g,first) ← holding [ov] (getMethod ov "__init__" pl);callWith pos g first (backTo pos (starEach (e :: es) X.env)) (backToKw pos (keywordEach [] X.env))))
  (plain:starEach (e :: es) X.env=(false,eval e X.env) :: starEach es X.env) (rest:(backTo pos (starEach es X.env)).any (·.1)=false):PE X (.Call (.Attribute (.Name z p1) "__init__" p2) (e :: es) [] pos) (tVeI X.K ta) where
 run pins s σ H Q I want:=by
  apply PySem.W.methodCall_KW (ld_glob I gl at_z (PySem.W.method_cls I.kIn plainGa (PySem.W.cls_value I.kIn reads found (by decide +kernel) ?_)) db) form
  apply PyProof.Rows.callWith_method1 (first:=[]) ?_ plain rest
  apply thn (args.run pos pins _ σ H _ (I.tok _) want)
  rintro _ _ ⟨_,H1,J,rv,a,C,ws,rfl,few,T,at_a,q⟩
  cases rv with
  | cons r0 r1 =>
   cases r0
   exact oinit_ok T J at_a (by rw [← Paired.length r1,zai];omega) fun _ J'=>⟨.non,H1,J',rfl,q⟩
end
end Sv
namespace Sv
open PySem PySem.Spec PyProof.Rows L2
open L2H (RoomH)
structure b9F (K:zbj) (B:Addr):Prop where
 rd:PySem.W.readsIn K B (.type "type")=true
 ga:PySem.W.specialIn K (.ref B) "__getattribute__" = some (some (.builtin "type.__getattribute__"))
 vV:PySem.W.findCls K (.ref B) (.type "type") "__init__" = some (.val (.builtin "ValueError.__init__"))
def b4k (N:List Str) (scope:Scope) (f:Str) (body:List Stmt) (z:Str):Bool:=match body with
 | [.Expr (.Call (.Attribute (.Name z' _) m ap) [.Name s1 _,.Constant (.str _) _ _] [] cp) _,.Assign [.Attribute (.Name s2 _) f' _] (.Name y _) _] =>
  nmB N 0 s1 && nmB N 0 s2 && nmB N 1 y && b2D scope s1 && b2D scope s2 && b2D scope y && decide (z'=z) && glB scope z && decide ((z == ("__debug__" : Str))=false) && decide (m=("__init__" : Str)) && decide (f'=f) && (ap.endLine == cp.line) && decide (N.length=2) && decide (z≠("super" : Str))
 | _=>false
theorem b4c {P:Program} {w:World} {K:zbj} {mg:Str→Option Value} {base:Heap} {k:Nat} {f:Addr} {name qual:Str} {params:Arguments} {body:List Stmt} {scope:Scope} {dV kV doc pm cdv ct oc:Value} {an od:Option Addr}
  {osl:Array (Option Value)} {N:List Str} {C B:Addr} {z fl:Str} (lk:K.lookup f=some ⟨oc,od,.func (PySem.W.fnOf name qual params body scope dV kV doc pm an cdv ct),osl⟩) (hcd:PySem.W.codeIn K cdv qual=true) (S:FnScope N N scope)
  (hb:b4k N scope fl body z=true) (hz:mg z=some (.ref B)) (bf:b9F K B) (T:OexC K C) (no:PySem.W.findIn K (.ref C) fl=some none) :
  FnG P w K mg base false (k + 1) f (PySem.W.fnOf name qual params body scope dV kV doc pm an cdv ct) N (spI C fl):=by
 unfold b4k at hb
 split at hb
 ·rename_i z' p1 m ap s1 p2 j0 j1 j2 cp p3 s2 p4 f' p5 y p6 p7
  simp only [zak,zah] at hb
  obtain ⟨⟨⟨⟨⟨⟨⟨⟨⟨⟨⟨⟨⟨n1,n2⟩,n3⟩,v1⟩,v2⟩,v3⟩,rfl⟩,g1⟩,d1⟩,rfl⟩,rfl⟩,ln⟩,l2⟩,ns⟩:=hb
  refine b2O lk hcd S (fun m vs H Q E _ h=>?_) fun A outer s H vs Q E m hm hM hr hsp=>?_
  ·obtain ⟨a,y0,rfl,_⟩:=h
   rw [l2];rfl
  ·have hm0:m=none:=by cases m with | none=>rfl | some _=>cases hm
   subst hm0
   obtain ⟨a,y0,rfl,ha,q⟩:=hsp
   have pv:∀ {x:Str} {i:Nat} {p:Pos},nmB N i x=true→b2D scope x=true→PE (cxM P w K mg base N qual scope f cdv A outer s H E none) (.Name x p) (tVar i):=fun {x i p} h1 h2=>pe_var (a0M h1).1 (a7U h2) (a0M h1).2.1 (a0M h1).2.2
   refine ⟨_,pss_cons (ps_expr (b2c (B:=B) (show Gl _ z' from a9X g1) hz d1 bf.rd bf.ga bf.vV (pa_cons (pv n1 v1) (pa_cons pe_str pa_nil rfl) rfl) (a7A (by simpa [a9h] using fun _=>ns) rfl (by show 2 < 30;decide) ln) rfl rfl) rfl) (pss_one (ps_ost (pv n2 v2) (pv n3 v3) rfl)),?_⟩
   have e0:(L2.start N [V.ref a,y0])=[some (V.ref a),some y0]:=by
    unfold L2.start
    rw [l2];rfl
   rw [e0]
   refine ⟨V.ref a,rfl,?_⟩
   refine ⟨a,C,_,rfl,(by show 1≤1000;decide),T,ha,?_⟩
   refine ⟨y0,rfl,V.ref a,rfl,a,C,rfl,T,no,.inl ⟨ha,fun dx hd hne=>q dx hd hne⟩⟩
 ·cases hb
end Sv
namespace Sv
open PySem PySem.Spec PyProof.Rows L2
open L2H (RoomH)
inductive MkF (P:Program) (w:World) (K:zbj) (mg:Str→Option Value) (base:Heap) (k:Nat) (C:Addr):XKd→Prop
 | fld {f:Str} {fI:Addr} {fd:FuncData} {ps:List Str} {kI:Nat} (T:OexC K C) (iC:PySem.W.findIn K (.ref C) "__init__" = some (some (.ref fI))) (tI:PySem.W.typeIn K (.ref fI)=some (.type "function")) (F:FnG P w K mg base false kI fI fd ps (spI C f)) (b:L2.Binds K fd ps []) (h:kI + 1≤k):MkF P w K mg base k C (.fld f)
 | bare {bmB:List Value} {B newId initId:String} (Fb:ExcBaseFacts B newId initId bmB) (q:PySem.W.excIn K C bmB newId=true) (kC:PySem.W.keepIn K (.ref C)=true) (e1:PySem.W.subIn K (.ref C) (.type "BaseException")=some true) (e2:PySem.W.typeIn K (.ref C)=some (.type "type")):MkF P w K mg base k C .bare
structure XS (n:SN) (X:Cx) (G:Gs) (W:WX) (k:Nat) (sc:Scope):Prop where
 xc:XC n X G.toGm W k sc
 esc:X.env.scope=sc
 fn:∀ x,X.fn x=true
 stk:X.stack=X.env :: X.outer
 fr:X.env.frame=some X.env.locals
 xm:∀ j x kd,G.xk j=some kd→n.cls[j]?=some x→MkF X.prog X.w X.K X.mg X.base k (G.cl j) kd
section
variable {n:SN} {X:Cx} {G:Gs} {W:WX} {k:Nat} {sc:Scope}
theorem XC.tr (c:XC n X G.toGm W k sc) {W':WX} {pn:List (Addr × Obj)} {xe:Value→Shared→Prop} (hm:G.m0=none) (tk:L2N.Takes (X.tr pn xe) W') (ps:PassesOwn (model X.prog X.w) X.A X.env xe):XC n (X.tr pn xe) G.toGm W' k sc :=
 ⟨c.ok,c.N,⟨c.sc.vis,c.sc.loc,c.sc.gl,c.sc.fr⟩,c.rm,by have:=c.md;rw [hm] at this ⊢;exact this,tk,ps⟩
theorem XS.tr (c:XS n X G W k sc) {W':WX} {pn:List (Addr × Obj)} {xe:Value→Shared→Prop} (hm:G.m0=none) (tk:L2N.Takes (X.tr pn xe) W') (ps:PassesOwn (model X.prog X.w) X.A X.env xe):XS n (X.tr pn xe) G W' k sc :=
 ⟨c.xc.tr hm tk ps,c.esc,c.fn,c.stk,c.fr,c.xm⟩
theorem GOk.suite {P:Program} {w:World} {K:zbj} {mg:Str→Option Value} {base:Heap} {G:Gm} {m:Option (Addr × Obj)} (h:GOk n P w K mg base G k):GOk n P w K mg base { G with m0:=m } k :=
 ⟨h.K,h.nd,h.fn,h.meth,h.made,h.gv,h.cl,h.bt,h.kd⟩
theorem XS.suite (c:XS n X G W k sc) {a:Addr} {oe:Obj} {pn:List (Addr × Obj)} {cls:Value} {d:Option Addr} (hz:L2N.Zn cls d oe) (hd:∃ vs,oe.data=.fields vs):XS n (X.suite a ((a,oe) :: pn)) (G.suite a oe) noW k sc :=
 ⟨⟨c.xc.ok.suite,c.xc.N,⟨c.xc.sc.vis,c.xc.sc.loc,c.xc.sc.gl,c.xc.sc.fr⟩,⟨c.xc.rm.dp,c.xc.rm.un⟩,by
   obtain ⟨vs,hv⟩:=hd
   exact ⟨c.xc.md.1,⟨rfl,vs,hv,hz.2.2 vs hv⟩,zal⟩,fun u s' ⟨_,_,_,_,_,_,_,_,_,_,_,_,_,_,_,_,z⟩=>z.elim,PassesOwn.never⟩,
  c.esc,c.fn,c.stk,c.fr,c.xm⟩
end
def c4j (n:SN) (sc:Scope) (s:RS) (x:Stmt):Prop:=∀ X G W k,XS n X G W k sc→PS X x (LS G.toGd W (a0q G s))
def a9l (n:SN) (sc:Scope) (s:RSs) (x:List Stmt):Prop:=∀ X G W k,XS n X G W k sc→PSs X x (LS G.toGd W (a0b G s))
theorem b2X {e:Expr} {t:Option Expr} {l:Nat} {env:Env} (h:nlc e=true):swapsWith e t l env=pure false:=by
 cases e <;> first | rfl | cases h
section
variable {n:SN} {X:Cx} {G:Gs} {W:WX} {k:Nat} {sc:Scope} {pos:Pos}
theorem a8s {t e:Expr} {l:Nat} (esc:X.env.scope=sc) (h:a84 sc t e=true):swapsWith e (some t) l X.env=pure false:=by
 unfold a84 at h
 rw [Bool.or_eq_true] at h
 rcases h with h | h
 ·exact b2X h
 ·split at h
  ·rename_i y p
   have key:(X.env.blockKind == .function && X.env.kindOf y == some .local && p.line == e.pos.line)=false:=by
    split at h
    ·have:(p.line == e.pos.line)=false:=by simpa using h
     rw [this,Bool.and_false]
    ·rename_i hne
     have:(X.env.kindOf y == some .local)=false:=by
      have e1:X.env.kindOf y=sc.names.lookup y:=by rw [← esc];rfl
      rw [e1]
      exact Bool.eq_false_iff.mpr fun z=>hne (eq_of_beq z)
     rw [this,Bool.and_false,Bool.false_and]
   unfold swapsWith
   cases e <;> first | rfl | (simp only [key,Bool.false_and];done) | (simp only [key,Bool.false_and];rfl)
  ·unfold swapsWith
   cases e <;> rfl
  ·cases h
theorem a4R {t e:Expr} (h:ntup e=true):swappedStores [t] e X.env=pure none:=by
 unfold swappedStores
 cases t <;> cases e <;> first | rfl | cases h
theorem a85 {t:Expr} {one:Bool} {tg:List Nat} (h:a1c n sc tg one t=true) (ho:one=true) {e:Expr}:swappedStores [t] e X.env=pure none:=by
 subst ho
 unfold a1c at h
 rw [if_pos rfl] at h
 split at h
 ·unfold swappedStores;cases e <;> rfl
 ·cases h
theorem LS.mk' {s:RS} {x:Stmt} {t:TS} (h:PS X x t) (w:∀ D σ H δ S Y F,Rel G.toGd S H δ σ→a0q G s δ S Y F→b5K G.toGd S H F D→a69 G.toGd S H Y W→t D σ H):PS X x (LS G.toGd W (a0q G s)) :=
 PS.imp h fun D σ H q=>by
  obtain ⟨δ,S,Y,F,R,ht,rs,rw'⟩:=q
  exact w D σ H δ S Y F R ht rs rw'
theorem a4Q {t e:Expr} (esc:X.env.scope=sc) (h:a8P sc t=true):swappedStores [t] e X.env=pure none:=by
 unfold a8P at h
 split at h
 ·rename_i y py z pz kt pt
  have few:([Expr.Name y py,.Name z pz].filterMap fun
   | .Name id pos=>if X.env.kindOf id == some .local && pos.line == (Expr.Name y py).pos.line then some id else none
   | _=>none).length≠2:=by
   have ky:X.env.kindOf y=sc.names.lookup y:=by rw [← esc];rfl
   have kz:X.env.kindOf z=sc.names.lookup z:=by rw [← esc];rfl
   simp only [List.filterMap_cons,List.filterMap_nil,ky,kz]
   rw [Bool.not_eq_true',Bool.and_eq_false_iff,decide_eq_false_iff_not,decide_eq_false_iff_not] at h
   rcases h with h | h
   ·have e:(sc.names.lookup y == some NameKind.local)=false:=by rw [beq_eq_false_iff_ne];exact h
    rw [e,Bool.false_and,if_neg zbe]
    dsimp only
    split <;> simp
   ·have e:(sc.names.lookup z == some NameKind.local)=false:=by rw [beq_eq_false_iff_ne];exact h
    rw [e,Bool.false_and,if_neg zbe]
    dsimp only
    split <;> simp
  unfold swappedStores
  cases e <;> first | rfl | skip
  dsimp only
  split
  ·rfl
  ·split
   ·rfl
   ·refine if_pos ?_
    rw [Bool.or_eq_true]
    left
    exact bne_iff_ne.mpr few
 ·rename_i y py z pz x px kt pt
  have few:([Expr.Name y py,.Name z pz,.Name x px].filterMap fun
   | .Name id pos=>if X.env.kindOf id == some .local && pos.line == (Expr.Name y py).pos.line then some id else none
   | _=>none).length≠3:=by
   have ky:X.env.kindOf y=sc.names.lookup y:=by rw [← esc];rfl
   have kz:X.env.kindOf z=sc.names.lookup z:=by rw [← esc];rfl
   have kx:X.env.kindOf x=sc.names.lookup x:=by rw [← esc];rfl
   simp only [List.filterMap_cons,List.filterMap_nil,ky,kz,kx]
   rw [Bool.not_eq_true',Bool.and_eq_false_iff,Bool.and_eq_false_iff,decide_eq_false_iff_not,decide_eq_false_iff_not,decide_eq_false_iff_not] at h
   rcases h with h | h | h
   ·have e:(sc.names.lookup y == some NameKind.local)=false:=by rw [beq_eq_false_iff_ne];exact h
    rw [e,Bool.false_and,if_neg zbe]
    dsimp only
    split <;> split <;> simp
   ·have e:(sc.names.lookup z == some NameKind.local)=false:=by rw [beq_eq_false_iff_ne];exact h
    rw [e,Bool.false_and,if_neg zbe]
    dsimp only
    split <;> split <;> simp
   ·have e:(sc.names.lookup x == some NameKind.local)=false:=by rw [beq_eq_false_iff_ne];exact h
    rw [e,Bool.false_and,if_neg zbe]
    dsimp only
    split <;> split <;> simp
  unfold swappedStores
  cases e <;> first | rfl | skip
  dsimp only
  split
  ·rfl
  ·split
   ·rfl
   ·refine if_pos ?_
    rw [Bool.or_eq_true]
    left
    exact bne_iff_ne.mpr few
 ·rename_i a1 a2 a3 a4 r kt pt
  unfold swappedStores
  cases e <;> first | rfl | skip
 ·cases h
theorem a5i {t:Expr} {one:Bool} {tg:List Nat} (h:a1c n sc tg one t=true):(assignEach [t] X.env).map (·.2)=[assign t X.env]:=by
 unfold a1c at h
 cases one with
 | true =>
  rw [if_pos rfl] at h
  split at h
  ·rfl
  ·cases h
 | false =>
  rw [if_neg zbe] at h
  split at h
  ·rfl
  ·cases h
theorem b74 {tg:List Nat} {one:Bool} {e:RE} {t v:Expr} (c:XS n X G W k sc) (h1:a84 sc t v=true) (h2:(one || ntup v || a8P sc t)=true) (h3:a1c n sc tg one t=true) (he:PE X v (LE G.toGd W (den G.toGm e))):PS X (.Assign [t] v pos) (LS G.toGd W (a0q G (.asg tg one e))):=by
 by_cases hm:one=false→G.m0=none
 ·have calm:one=false→X.calm=true:=fun h=>by
   have:=c.xc.md
   rw [hm h] at this
   exact this.2
  have hw:swappedStores [t] v X.env=pure none:=by
   cases one with
   | true=>exact a85 h3 rfl
   | false =>
    rw [Bool.false_or,Bool.or_eq_true] at h2
    rcases h2 with h2 | h2
    ·exact a4R h2
    ·exact a4Q c.esc h2
  refine LS.mk' (ps_asg he (b0B c.xc calm h3) (a8s c.esc h1) hw (a5i h3)) fun D σ H δ S Y F R ht rs rw'=>?_
  rw [a0q] at ht
  refine ⟨δ,S,Y,_,R,ht.2,fun d S1 v1 H1 kk P cc r=>?_,rw'⟩
  rw [← c.xc.ok.K]
  exact a8a (I:=fun _=>True) (fun _ _ _ _ _=>trivial) kk r (R.mono P cc) trivial fun δ' σ' q R' _=>rs.nx δ' S1 σ' H1 q P R'
 ·refine LS.mk' ps_never fun D σ H δ S Y F R ht rs rw'=>?_
  rw [a0q] at ht
  exact (hm ht.1).elim
theorem b76 {tg:List Nat} {e:RE} {t v:Expr} (c:XS n X G W k sc) (h1:a84 sc t v=true) (h2:(ntup v || a8P sc t)=true) (h3:a1c n sc tg false t=true) (he:PE X v (LE G.toGd W (den G.toGm e))):PS X (.Assign [t] v pos) (LS G.toGd W (a0q G (.asu tg e))):=by
 by_cases hm:G.m0=none
 ·have calm:X.calm=true:=by
   have:=c.xc.md
   rw [hm] at this
   exact this.2
  have hw:swappedStores [t] v X.env=pure none:=by
   rw [Bool.or_eq_true] at h2
   rcases h2 with h2 | h2
   ·exact a4R h2
   ·exact a4Q c.esc h2
  refine LS.mk' (ps_asg he (c6t c.xc calm h3) (a8s c.esc h1) hw (a5i h3)) fun D σ H δ S Y F R ht rs rw'=>?_
  rw [a0q] at ht
  refine ⟨δ,S,Y,_,R,ht.2,fun d S1 v1 H1 kk P cc r=>?_,rw'⟩
  obtain ⟨ds,e1,e2,nx⟩:=kk
  exact ⟨d,δ,S1,fun δ' S'=>F.nx δ' S'∧S'=S1,R.mono P cc,r,⟨ds,e1,e2,nx,rfl⟩,fun δ' S' σ' H' q P2 R'=>rs.nx δ' S' σ' H' q.1 (P.trans P2) R'⟩
 ·refine LS.mk' ps_never fun D σ H δ S Y F R ht rs rw'=>?_
  rw [a0q] at ht
  exact (hm ht.1).elim
theorem b77 {e:RE} {v:Expr} (h1:nlc v=true) (he:PE X v (LE G.toGd W (den G.toGm e))):PS X (.Expr v pos) (LS G.toGd W (a0q G (.exp e))) :=
 LS.mk' (ps_expr he (b2X h1)) fun D σ H δ S Y F R ht rs rw'=>by
  rw [a0q] at ht
  exact ⟨δ,S,Y,_,R,ht,fun d S1 v1 H1 kk P cc r=>rs.nx δ S1 σ H1 kk P (R.mono P cc),rw'⟩
theorem b8f {a b e:RE} {l r v:Expr} {p1:Pos} (c:XS n X G W k sc) (h2:a3d r=true) (ha:PE X l (LE G.toGd W (den G.toGm a))) (hb:PE X r (LE G.toGd W (den G.toGm b))) (he:PE X v (LE G.toGd W (den G.toGm e))) :
  PS X (.Assign [.Subscript l r p1] v pos) (LS G.toGd W (a0q G (.sti a b e))):=by
 have hst:swappedStores [.Subscript l r p1] v X.env=pure none:=by unfold swappedStores;cases v <;> rfl
 have haa:∀ v,assign (.Subscript l r p1) X.env v=(do
   let ov ← holding [v] (eval l X.env)
   let iv ← holding [v,ov] (eval r X.env)
   standAt p1
   holding [v,ov,iv] (setItem ov iv v)
   release [v,ov,iv] []):=by
  intro v
  cases r <;> first | rfl | cases h2
 refine LS.mk' (ps_asg he (pg_sub ha hb (b0M (g:=G.toGd) (by have:=c.xc.un;omega)) haa) (show swapsWith v (some (.Subscript l r p1)) pos.line X.env=pure false from by unfold swapsWith;cases v <;> rfl) hst rfl) fun D σ H δ S Y F R ht rs rw'=>?_
 rw [a0q] at ht
 refine ⟨δ,S,Y,_,R,ht,fun z S1 v1 H1 kk P cc r1=>?_,rw'⟩
 refine ⟨δ,S1,Y,_,R.mono P cc,kk,fun x S2 v2 H2 kk P2 cc2 r2=>?_,rw'.mono P⟩
 refine ⟨δ,S2,Y,_,(R.mono P cc).mono P2 cc2,kk,fun y S3 v3 H3 kk P3 cc3 r3=>?_,(rw'.mono P).mono P2⟩
 have P23:=P2.trans P3
 exact ⟨x,y,z,S3,_,cc3,r2.mono P3,r3,r1.mono P23,kk,fun S4 H4 q P4 cc4=>rs.nx δ S4 σ H4 q ((P.trans P23).trans P4) (R.mono ((P.trans P23).trans P4) cc4)⟩
theorem b8e {a e:RE} {l v:Expr} {f:Str} {p1:Pos} (c:XS n X G W k sc) (ha:PE X l (LE G.toGd W (den G.toGm a))) (he:PE X v (LE G.toGd W (den G.toGm e))) :
  PS X (.Assign [.Attribute l f p1] v pos) (LS G.toGd W (a0q G (.stf a f e))):=by
 refine LS.mk' (ps_fld ha he (by unfold swapsWith;cases v <;> rfl)) fun D σ H δ S Y F R ht rs rw'=>?_
 rw [a0q] at ht
 refine ⟨δ,S,Y,_,R,ht,fun z S1 v1 H1 kk P cc r1=>?_,rw'⟩
 refine ⟨δ,S1,Y,_,R.mono P cc,kk,fun x S2 v2 H2 kk P2 cc2 r2=>?_,rw'.mono P⟩
 obtain ⟨p,C,fs,rfl,e1,cl,na,hl,q⟩:=kk
 cases a0z r2
 obtain ⟨dx,ws,hi,hf⟩:=cc2 _ _ e1
 rw [c.xc.ok.K] at cl na
 have P3:a0h S2 H2 (S2.set p (.ins C (a6Q f z fs))) (upd H2 p (.ins C dx (putF f v1 ws))):=a0h.write e1
 refine ⟨p,C,dx,ws,rfl,hi,cl,na,by rw [← c3T hf];exact hl,rs.nx δ _ σ _ q ((P.trans P2).trans P3) (R.mono ((P.trans P2).trans P3) (cc2.write e1 ⟨dx,_,upd_same,(a8v (r1.mono P2) hf).mono P3⟩))⟩
theorem b73 {i:Nat} {op:Operator} {e:RE} {y:Str} {v:Expr} {p1:Pos} (c:XS n X G W k sc) (h1:nmB n.N i y=true) (h2:a9g sc y=true) (he:PE X v (LE G.toGd W (den G.toGm e))):PS X (.AugAssign (.Name y p1) op v pos) (LS G.toGd W (a0q G (.agv i op e))):=by
 refine LS.mk' (ps_aug c.xc.nd (c.xc.at h1) (c.xc.loc h2) he (a9C (g:=G.toGd) op) (c.xc.sto h2)) fun D σ H δ S Y F R ht rs rw'=>?_
 rw [a0q] at ht
 obtain ⟨x,ex,ht⟩:=ht
 obtain ⟨u,eu,ru⟩:=R.sl.at_ i x ex
 refine ⟨u,eu,δ,S,Y,_,R,ht,fun d S1 v1 H1 kk P cc r=>?_,rw'⟩
 exact ⟨x,d,S1,_,cc,ru.mono P,r,kk,fun z S2 v2 H2 q P2 cc2 r2=>rs.nx _ S2 _ H2 q (P.trans P2) ⟨(R.sl.mono (P.trans P2)).set r2,cc2⟩⟩
theorem b72 {a b e:RE} {op:Operator} {l r v:Expr} {p1:Pos} (c:XS n X G W k sc) (h2:a3d r=true) (ha:PE X l (LE G.toGd W (den G.toGm a))) (hb:PE X r (LE G.toGd W (den G.toGm b))) (he:PE X v (LE G.toGd W (den G.toGm e))) :
  PS X (.AugAssign (.Subscript l r p1) op v pos) (LS G.toGd W (a0q G (.agi a b op e))):=by
 have hau:∀ ov iv new,augStore r ov iv new=(do holding [new,ov,iv] (setItem ov iv new);release [new,ov,iv] [];pure .next):=by
  intro ov iv new
  cases r <;> first | rfl | cases h2
 have hu:X.A.units + 1 < cLine:=by have:=c.xc.un;omega
 refine LS.mk' (ps_augS ha hb (b4e (g:=G.toGd) hu) he (a9C (g:=G.toGd) op) (b0M (g:=G.toGd) hu) hau) fun D σ H δ S Y F R ht rs rw'=>?_
 rw [a0q] at ht
 refine ⟨δ,S,Y,_,R,ht,fun x S1 v1 H1 kk P cc r1=>?_,rw'⟩
 refine ⟨δ,S1,Y,_,R.mono P cc,kk,fun y S2 v2 H2 kk P2 cc2 r2=>?_,rw'.mono P⟩
 refine ⟨x,y,S2,_,cc2,r1.mono P2,r2,kk,fun u S3 v3 H3 kk P3 cc3 r3=>?_⟩
 have Q3:=(P.trans P2).trans P3
 refine ⟨δ,S3,Y,_,R.mono Q3 cc3,kk,fun w S4 v4 H4 kk P4 cc4 r4=>?_,rw'.mono Q3⟩
 refine ⟨u,w,S4,_,cc4,r3.mono P4,r4,kk,fun z S5 v5 H5 kk P5 cc5 r5=>?_⟩
 have P35:=(P3.trans P4).trans P5
 refine ⟨x,y,z,S5,_,cc5,r1.mono (P2.trans P35),r2.mono P35,r5,kk,fun S6 H6 q P6 cc6=>rs.nx δ S6 σ H6 q (((Q3.trans P4).trans P5).trans P6) (R.mono (((Q3.trans P4).trans P5).trans P6) cc6)⟩
theorem b79 {c0:RE} {a b:RSs} {t:Expr} {p q:List Stmt} (ht:PT X t (LT G.toGd W (a0u G.toGm c0))) (ha:PSs X p (LS G.toGd W (a0b G a))) (hb:PSs X q (LS G.toGd W (a0b G b))):PS X (.If t p q pos) (LS G.toGd W (a0q G (.ifs c0 a b))):=by
 refine LS.mk' (ps_if ht ha hb) fun D σ H δ S Y F R ht rs rw'=>?_
 rw [a0q] at ht
 refine ⟨δ,S,Y,_,R,ht,fun b S1 H1 kk P cc=>?_,rw'⟩
 cases b with
 | true=>exact ⟨δ,S1,Y,F,R.mono P cc,kk,rs.mono P,rw'.mono P⟩
 | false=>exact ⟨δ,S1,Y,F,R.mono P cc,kk,rs.mono P,rw'.mono P⟩
theorem c3m {c0:RE} {b:RSs} {t:Expr} {p:List Stmt} (c:XS n X G W k sc) (ht:PT X t (LT G.toGd W (a0u G.toGm c0))) (hb:PSs X p (LS G.toGd W (a0b G b))):PS X (.While t p [] pos) (LS G.toGd W (a0q G (.wh c0 b))):=by
 refine LS.mk' (ps_while c.xc.ps ht hb) fun D σ H δ S Y F R ht rs rw'=>?_
 rw [a0q] at ht
 obtain ⟨Iv,⟨m0,i0⟩,step⟩:=ht
 refine ⟨fun m σ' H'=>∃ δ' S',Iv m δ' S'∧a0h S H S' H'∧Rel G.toGd S' H' δ' σ',⟨m0,δ,S,i0,a0h.refl _ _,R⟩,?_⟩
 rintro m σ1 H1 ⟨δ1,S1,iv,P1,R1⟩
 refine ⟨δ1,S1,Y,_,R1,step m δ1 S1 iv,fun b S2 H2 kk P2 cc2=>?_,rw'.mono P1⟩
 have P12:=P1.trans P2
 cases b with
 | true =>
  refine ⟨fun σ' H'=>∃ m',m' < m∧∃ δ' S',Iv m' δ' S'∧a0h S H S' H'∧Rel G.toGd S' H' δ' σ',fun σ' H' q=>q,?_⟩
  have nx:∀ δ' S' σ' H',(∃ m',m' < m∧Iv m' δ' S')→a0h S2 H2 S' H'→Rel G.toGd S' H' δ' σ'→∃ m',m' < m∧∃ δ' S',Iv m' δ' S'∧a0h S H S' H'∧Rel G.toGd S' H' δ' σ':=fun δ' S' σ' H' ⟨m',hm,q⟩ P' R'=>⟨m',hm,δ',S',q,P12.trans P',R'⟩
  exact ⟨δ1,S2,Y,_,R1.mono P2 cc2,kk,⟨nx,rs.rt.mono P12,fun δ' S' σ' H' q P' R'=>rs.nx δ' S' σ' H' q (P12.trans P') R',nx⟩,rw'.mono P12⟩
 | false=>exact rs.nx δ1 S2 σ1 H2 kk P12 (R1.mono P2 cc2)
theorem c3l {tg:List Nat} {one:Bool} {it:RI} {b:RSs} {t i:Expr} {p:List Stmt} (c:XS n X G W k sc) (h1:a2A i=true) (h2:a1c n sc tg one t=true) (h3:(!it.two || !one)=true) (hI:b5Q n sc it i) (hb:PSs X p (LS G.toGd W (a0b G b))):PS X (.For t i p [] pos) (LS G.toGd W (a0q G (.fr tg one it b))):=by
 by_cases hm:G.m0=none
 ·have md:a1p X none:=by have:=c.xc.md;rw [hm] at this;exact this
  have calm:X.calm=true:=md.2
  refine LS.mk' (ps_for c.xc.ps calm (hI X G.toGm W k t c.xc hm (b0Z h2 h3)) (b0B c.xc (fun _=>calm) h2) hb (fun x=>a3X h1 x)) fun D σ H δ S Y F R ht rs rw'=>?_
  rw [a0q] at ht
  refine ⟨δ,S,Y,_,R,ht.2,fun ds ok S1 H1 J hk P1 c1 io=>?_,rw'⟩
  obtain ⟨Iv,i0,hok,step,last⟩:=hk
  refine ⟨fun i m σ' H'=>m=ds.length - i∧i≤ds.length∧∃ δ' S',Iv i δ' S'∧a0h S1 H1 S' H'∧Rel G.toGd S' H' δ' σ',⟨_,rfl,Nat.zero_le _,δ,S1,i0,a0h.refl _ _,R.mono P1 c1⟩,?_⟩
  rintro i m σ' H' ⟨rfl,hi,δ',S',iv,P',R'⟩
  have ok':=hok i δ' S' iv hi
  by_cases hlt:i < ds.length
  ·refine .inr ⟨io.go i S' H' hlt P' R'.ce ok',fun σ2 H2=>i + 1≤ds.length∧∃ δ' S',Iv (i + 1) δ' S'∧a0h S1 H1 S' H2∧Rel G.toGd S' H2 δ' σ2,fun σ2 H2 q=>⟨_,by omega,rfl,q⟩,fun x H2 y=>?_⟩
   obtain ⟨P2,c2,r2⟩:=io.yl i S' H' x H2 ds[i] (by simp) P' R'.ce ok' y
   have hstep:=step i ds[i] δ' S' (by simp) iv
   rw [← c.xc.ok.K]
   refine a8a (I:=fun _=>True) (fun _ _ _ _ _=>trivial) hstep r2 (R'.mono P2 c2) trivial fun δ3 σ3 hq R3 _=>?_
   have P12:=P'.trans P2
   have nx:∀ δ4 S4 σ4 H4,Iv (i + 1) δ4 S4→a0h S' H2 S4 H4→Rel G.toGd S4 H4 δ4 σ4→i + 1≤ds.length∧∃ δ' S',Iv (i + 1) δ' S'∧a0h S1 H1 S' H4∧Rel G.toGd S' H4 δ' σ4:=fun δ4 S4 σ4 H4 q P4 R4=>⟨hlt,δ4,S4,q,P12.trans P4,R4⟩
   exact ⟨δ3,S',Y,_,R3,hq,⟨nx,(rs.rt.mono P1).mono P12,fun δ4 S4 σ4 H4 q P4 R4=>rs.nx δ4 S4 σ4 H4 q (P1.trans (P12.trans P4)) R4,nx⟩,(rw'.mono P1).mono P12⟩
  ·have e:i=ds.length:=by omega
   subst e
   exact .inl ⟨io.st _ S' H' (Nat.le_refl _) P' R'.ce ok',rs.nx δ' S' σ' H' (last δ' S' iv) (P1.trans P') R'⟩
 ·refine LS.mk' ps_never fun D σ H δ S Y F R ht rs rw'=>?_
  rw [a0q] at ht
  exact (hm ht.1).elim
theorem b7F {j:Nat} {tg:List Nat} {y:Str} {p1 p2:Pos} {kk:Nat} {t2:Expr} (c:XC n X G.toGm W k sc) (calm:X.calm=true) (h2:nmB n.N j y=true) (h3:a9g sc y=true) (h4:a1c n sc tg false t2=true):PG X (.Tuple [.Name y p1,t2] kk p2) (gTup X.K 2 (gCons (gName j) (gCons (gTg X.K tg false) gNil))):=by
 have ht:∃ xs kk p,t2=.Tuple xs kk p:=by
  unfold a1c at h4
  rw [if_neg zbe] at h4
  split at h4
  ·exact ⟨_,_,_,rfl⟩
  ·cases h4
 have hp:=b0B c (fun _=>calm) h4
 obtain ⟨xs,k3,p3,rfl⟩:=ht
 exact pg_tup calm (pgs_cons (pg_name c.nd (c.at h2) (c.loc h3) (c.sto h3)) (pgs_cons hp pgs_nil))
theorem b6W {g:Gd} {S:SS} {H:Hp} {j:Nat} {tg:List Nat} {d:D} {v:V} {δ:DS} {σ:L2.St} {K:DS→SS→Prop} {Q:L2.St→Hp→Prop} (hd:b6r j tg d δ S K) (r:Rep g S H d v) (R:Rel g S H δ σ)
  (h:∀ δ' σ',K δ' S→Rel g S H δ' σ'→Q σ' H):gTup g.K 2 (gCons (gName j) (gCons (gTg g.K tg false) gNil)) v σ H Q:=by
 obtain ⟨x,y,ds,e,e2,l,hk⟩:=hd
 obtain ⟨p,vs,rfl,hl,hr⟩:=a0H r e
 simp only [a0i] at hr
 obtain ⟨v1,q1,rfl,a1,v2,q2,rfl,a2,rfl⟩:=hr
 refine ⟨p,_,rfl,hl,rfl,v1,_,rfl,v2,_,rfl,?_⟩
 refine a8a (I:=fun _=>True) (fun _ _ _ _ _=>trivial) (δ:=δ.set j (some x)) (K:=K) ?_ a2 ⟨R.sl.set a1,R.ce⟩ trivial fun δ' σ' hk R' _=>⟨rfl,h δ' σ' hk R'⟩
 unfold a2a
 rw [if_neg zbe]
 exact ⟨ds,e2,l,hk⟩
theorem b78 {j:Nat} {tg:List Nat} {it:RI} {b:RSs} {y:Str} {p1 p2:Pos} {kk:Nat} {t2 i:Expr} {p:List Stmt} (c:XS n X G W k sc) (h1:a2A i=true) (h2:nmB n.N j y=true) (h3:a9g sc y=true) (h4:a1c n sc tg false t2=true) (hI:b5Q n sc it i) (hb:PSs X p (LS G.toGd W (a0b G b))):PS X (.For (.Tuple [.Name y p1,t2] kk p2) i p [] pos) (LS G.toGd W (a0q G (.frn j tg it b))):=by
 by_cases hm:G.m0=none
 ·have md:a1p X none:=by have:=c.xc.md;rw [hm] at this;exact this
  have calm:X.calm=true:=md.2
  refine LS.mk' (ps_for c.xc.ps calm (hI X G.toGm W k (.Tuple [.Name y p1,t2] kk p2) c.xc hm (fun _=>⟨_,_,_,rfl⟩)) (b7F c.xc calm h2 h3 h4) hb (fun x=>a3X h1 x)) fun D σ H δ S Y F R ht rs rw'=>?_
  rw [a0q] at ht
  refine ⟨δ,S,Y,_,R,ht.2,fun ds ok S1 H1 J hk P1 c1 io=>?_,rw'⟩
  obtain ⟨Iv,i0,hok,step,last⟩:=hk
  refine ⟨fun i m σ' H'=>m=ds.length - i∧i≤ds.length∧∃ δ' S',Iv i δ' S'∧a0h S1 H1 S' H'∧Rel G.toGd S' H' δ' σ',⟨_,rfl,Nat.zero_le _,δ,S1,i0,a0h.refl _ _,R.mono P1 c1⟩,?_⟩
  rintro i m σ' H' ⟨rfl,hi,δ',S',iv,P',R'⟩
  have ok':=hok i δ' S' iv hi
  by_cases hlt:i < ds.length
  ·refine .inr ⟨io.go i S' H' hlt P' R'.ce ok',fun σ2 H2=>i + 1≤ds.length∧∃ δ' S',Iv (i + 1) δ' S'∧a0h S1 H1 S' H2∧Rel G.toGd S' H2 δ' σ2,fun σ2 H2 q=>⟨_,by omega,rfl,q⟩,fun x H2 y=>?_⟩
   obtain ⟨P2,c2,r2⟩:=io.yl i S' H' x H2 ds[i] (by simp) P' R'.ce ok' y
   have hstep:=step i ds[i] δ' S' (by simp) iv
   rw [← c.xc.ok.K]
   refine b6W hstep r2 (R'.mono P2 c2) fun δ3 σ3 hq R3=>?_
   have P12:=P'.trans P2
   have nx:∀ δ4 S4 σ4 H4,Iv (i + 1) δ4 S4→a0h S' H2 S4 H4→Rel G.toGd S4 H4 δ4 σ4→i + 1≤ds.length∧∃ δ' S',Iv (i + 1) δ' S'∧a0h S1 H1 S' H4∧Rel G.toGd S' H4 δ' σ4:=fun δ4 S4 σ4 H4 q P4 R4=>⟨hlt,δ4,S4,q,P12.trans P4,R4⟩
   exact ⟨δ3,S',Y,_,R3,hq,⟨nx,(rs.rt.mono P1).mono P12,fun δ4 S4 σ4 H4 q P4 R4=>rs.nx δ4 S4 σ4 H4 q (P1.trans (P12.trans P4)) R4,nx⟩,(rw'.mono P1).mono P12⟩
  ·have e:i=ds.length:=by omega
   subst e
   exact .inl ⟨io.st _ S' H' (Nat.le_refl _) P' R'.ce ok',rs.nx δ' S' σ' H' (last δ' S' iv) (P1.trans P') R'⟩
 ·refine LS.mk' ps_never fun D σ H δ S Y F R ht rs rw'=>?_
  rw [a0q] at ht
  exact (hm ht.1).elim
theorem b8d {e:RE} {v:Expr} (he:PE X v (LE G.toGd W (den G.toGm e))):PS X (.Return (some v) pos) (LS G.toGd W (a0q G (.ret e))) :=
 LS.mk' (ps_ret he) fun D σ H δ S Y F R ht rs rw'=>by
  rw [a0q] at ht
  exact ⟨δ,S,Y,_,R,ht,rs.rt,rw'⟩
theorem b8c {j:Nat} {es:RL} {y:Str} {xs:List Expr} {p1 p2:Pos} (c:XS n X G W k sc) (h1:nmB n.cls j y=true) (h2:glB sc y=true) (hL:a9f n sc es xs):PS X (.Raise (some (.Call (.Name y p1) xs [] p2)) none pos) (LS G.toGd W (a0q G (.rai j es))):=by
 by_cases hm:G.m0=none
 ·have md:a1p X none:=by have:=c.xc.md;rw [hm] at this;exact this
  have calm:X.calm=true:=md.2
  cases hx:G.xk j with
  | none =>
   refine LS.mk' ps_never fun D σ H δ S Y F R ht rs rw'=>?_
   rw [a0q] at ht
   obtain ⟨_,kd,e,_⟩:=ht
   rw [hx] at e;cases e
  | some kd =>
   have M:=c.xm j y kd hx (a0M h1).1
   have hcl:=c.xc.ok.cl j y (a0M h1).1
   have hs:=hL.st
   have ha:=hL.a X G.toGm W k c.xc
   have ar:∀ {δ S Y F},a0q G (.rai j es) δ S Y F→es.len=kd.ar:=fun {δ S Y F} q=>by
    rw [a0q] at q
    obtain ⟨_,kd',e,q,_⟩:=q
    rw [hx] at e;cases e
    exact q
   have un:∀ {δ S Y F},a0q G (.rai j es) δ S Y F→a0x G.toGm es δ S Y fun ds S1=>∃ fs,mkX kd ds=some fs∧Y (G.cl j) fs δ S1:=fun {δ S Y F} q=>by
    rw [a0q] at q
    obtain ⟨_,kd',e,_,q⟩:=q
    rw [hx] at e;cases e
    exact q
   cases M with
   | @fld f fI fd ps kI T iC tI Fn b hk =>
    cases xs with
    | nil =>
     refine LS.mk' ps_never fun D σ H δ S Y F R ht rs rw'=>?_
     have q:=un ht
     rw [hL.nl rfl,a0x] at q
     obtain ⟨fs,e,_⟩:=q
     cases e
    | cons z zs =>
     rw [List.all_cons,zak] at hs
     refine LS.mk' (L2N.ps_raise calm c.xc.tk (b5b T iC tI Fn ⟨by have:=c.xc.rm.dp;omega,by have:=c.xc.rm.un;omega⟩ md b (c.xc.gl h2) hcl ha (a0M h1).2.1 (a0m hs.1) (a09 hs.2))) fun D σ H δ S Y F R ht rs rw'=>?_
     refine ⟨δ,S,Y,_,R,un ht,fun ds S1 vs H1 kk P cc r=>?_,rw'⟩
     obtain ⟨fs,e,q⟩:=kk
     match ds,e,r with
     | [d],e,r =>
      cases e
      obtain ⟨v,rfl,rv⟩:=a6b r
      refine ⟨v,rfl,fun dx hd=>?_⟩
      have P2:a0h S1 H1 S1 (upd H1 dx (.xd [(f,v)])):=a0h.new hd
      refine rw' _ _ _ _ _ _ _ q (P.trans P2) (R.mono (P.trans P2) (cc.new hd)) (.inr ⟨dx,_,rfl,cc.free hd,upd_same,?_⟩)
      simp only [a2x]
      exact ⟨v,[],rfl,rv.mono P2,rfl⟩
   | bare Fb q0 kC e1 e2 =>
    cases xs with
    | nil =>
     refine LS.mk' (L2N.ps_raise calm c.xc.tk (b2h Fb q0 kC (raises_own e1 e2) (c.xc.gl h2) hcl (a0M h1).2.1)) fun D σ H δ S Y F R ht rs rw'=>?_
     have q:=un ht
     rw [hL.nl rfl,a0x] at q
     obtain ⟨fs,e,q⟩:=q
     cases e
     exact rw' _ _ _ _ _ _ _ q (a0h.refl _ _) R (.inl ⟨rfl,rfl⟩)
    | cons z zs =>
     refine LS.mk' (ps_never) fun D σ H δ S Y F R ht rs rw'=>?_
     have e1:=ar ht
     have e2:=hL.ne
     rw [e1] at e2
     cases e2
 ·refine LS.mk' ps_never fun D σ H δ S Y F R ht rs rw'=>?_
  rw [a0q] at ht
  exact (hm ht.1).elim
theorem b75 {i:Nat} {cell:Bool} {elt:RE} {cnd:RO} {tg:List Nat} {one:Bool} {it:RI} {own:List (Str × Nat)} {xe xt xi:Expr} {ifs:List Expr} {scope:Scope} {y:Str} {py p:Pos} (c:XS n X G W k sc) (h0:nmB n.N i y=true) (hl:sc.names.lookup y=some .local)
  (hp:(py.line == p.line)=true) (hna:(scope.names.any fun (m,k)=>m == y && (k == .local || k == .cell))=false) (hb:blkC n.N sc scope own=true) (hsd:a2A xi=true) (hI:b5Q n sc it xi)
  (htg:(tg.all fun i=>decide (i∈own.map (·.2)))=true) (hct:a1c n scope tg one xt=true) (h7:(!it.two || !one)=true) (hcnd:∀ X G W k,XC n X G W k scope→PTs X ifs (LT G.toGd W (a7b G cnd))) (he:∀ X G W k,XC n X G W k scope→PE X xe (LE G.toGd W (den G elt))) :
  PS X (.Assign [.Name y py] (.ListComp xe [⟨xt,xi,ifs,0⟩] scope p) pos) (LS G.toGd W (a0q G (.asl i (.lc cell elt tg one it cnd own)))):=by
 by_cases hm:G.m0=none
 ·have md:a1p X none:=by have:=c.xc.md;rw [hm] at this;exact this
  have calm:X.calm=true:=md.2
  have hyl:X.env.scope.names.lookup y=some .local:=by rw [c.esc];exact hl
  have bo:BlkOk X.N X.env.scope scope own:=by
   have h:=blkOk_by hb
   exact ⟨h.kind,h.uniq,fun p hp=>c.xc.N ▸ h.ix p hp,fun y hy e=>c.xc.sc.fr _ (h.free y hy e),fun y hy e=>c.xc.N ▸ h.own y hy e⟩
  have kf:X.env.scope.kind=.function∨True:=.inr trivial
  refine ⟨fun pins s σ H D I hh=>?_⟩
  have kfun:=I.ok.kind
  refine (LS.mk' (ps_setLc (wi:=LI G.toGd W (a02 G.toGm it)) (g:=gTg X.K tg one) (tt:=LT G.toGd noW (a7b G.toGm cnd)) (te:=LE G.toGd noW (den G.toGm elt)) calm c.xc.nd (c.xc.at h0) hyl (sw_true kfun hyl hp hna) (hI X G.toGm W k xt c.xc hm (b0Z hct h7)) bo (fun s H C cl fp=>b0B (c.xc.blk hm) (fun _=>calm) hct) (fun s H C cl fp=>hcnd _ G.toGm noW k (c.xc.blk hm)) (fun s H C cl fp=>he _ G.toGm noW k (c.xc.blk hm)) (fun x=>a3X hsd x)) fun D σ H δ S Y F R ht rs rw'=>?_).run pins s σ H D I hh
  rw [a0q] at ht
  have h:LE G.toGd W (den G.toGm (.lc cell elt tg one it cnd own)) σ H (fun v H1=>D.nx (σ.set i (some v)) H1):=⟨δ,S,Y,_,R,ht,fun d S1 v H1 q P cc r=>rs.nx _ S1 _ H1 q P ⟨(R.sl.mono P).set r,cc⟩,rw'⟩
  exact b7d c.xc.ok.K htg h
 ·refine LS.mk' ps_never fun D σ H δ S Y F R ht rs rw'=>?_
  rw [a0q,den] at ht
  exact (hm ht.1).elim
theorem b8g {b s:RSs} {j i:Nat} {y m:Str} {p1 p2:Pos} {p qs:List Stmt} {q:Stmt} (c:XS n X G W k sc) (h1:nmB n.cls j y=true) (h2:glB sc y=true) (h3:nmB n.N i m=true) (hl:sc.names.lookup m=some .local) (hb:a9l n sc b p) (hs:a9l n sc s (q :: qs)) :
  PS X (.Try p [.ExceptHandler (some (.Name y p1)) (some m) (q :: qs) p2] [] [] pos) (LS G.toGd W (a0q G (.tra b j i s))):=by
 by_cases hm:G.m0=none
 ·have hcl:=c.xc.ok.cl j y (a0M h1).1
  have hln:X.env.kindOf m=some .local:=by show X.env.scope.names.lookup m=_;rw [c.esc];exact hl
  refine LS.mk' (L2N.ps_try_as (tb:=fun W'=>LS G.toGd W' (a0b G b)) (ts:=fun a cls d=>fun D σ H=>∀ oe,L2N.Zn cls d oe→(∃ vs,oe.data=.fields vs)→LS G.toGd noW (a0b (G.suite a oe) s) D σ H) c.stk c.fr c.xc.nd (c.xc.at h3) hln ⟨c.xc.gl h2,(a0M h1).2.1,.inl hcl⟩ c.xc.tk
   (fun W' pn xe tk ps=>hb _ G W' k (c.tr hm tk ps))
   (fun a oe cls d pn hz hf=>PSs.imp (hs _ (G.suite a oe) noW k (c.suite hz hf)) fun D σ H q=>q oe hz hf)) fun D σ H δ S Y F R ht rs rw'=>?_
  rw [a0q] at ht
  refine ⟨δ,S,_,F,R,ht.2,rs,fun C fs δ' S' d σ' H' hy P R' hx=>?_⟩
  obtain ⟨kb,e1,e2,e3⟩:=hy
  refine ⟨kb,by rw [← c.xc.ok.K];exact e1,fun hk a na oe hz hf=>?_,fun hk=>rw' C fs δ' S' d σ' H' (e3 hk) P R' hx⟩
  have R2:Rel G.toGd S' H' (δ'.set i (some (.exc a oe C fs))) (σ'.set i (some (.ref a))):=⟨R'.sl.set (by
   simp only [Rep]
   exact ⟨d,trivial,⟨hz.zc,hf⟩,hx⟩),R'.ce⟩
  refine ⟨_,S',noX,_,R2,e2 hk a oe,?_,fun _ _ _ _ _ _ _ z=>z.elim⟩
  exact ⟨fun δ2 S2 σ2 H2 q P2 R3=>rs.nx _ S2 _ H2 q (P.trans P2) ⟨R3.sl.setN,R3.ce⟩,rs.rt.mono P,fun δ2 S2 σ2 H2 q P2 R3=>rs.bk _ S2 _ H2 q (P.trans P2) ⟨R3.sl.setN,R3.ce⟩,fun δ2 S2 σ2 H2 q P2 R3=>rs.ct _ S2 _ H2 q (P.trans P2) ⟨R3.sl.setN,R3.ce⟩⟩
 ·refine LS.mk' ps_never fun D σ H δ S Y F R ht rs rw'=>?_
  rw [a0q] at ht
  exact (hm ht.1).elim
theorem b8i {b s:RSs} {j:Nat} {y:Str} {p1 p2:Pos} {p qs:List Stmt} {q:Stmt} (c:XS n X G W k sc) (h1:nmB n.cls j y=true) (h2:glB sc y=true) (hb:a9l n sc b p) (hs:a9l n sc s (q :: qs)) :
  PS X (.Try p [.ExceptHandler (some (.Name y p1)) none (q :: qs) p2] [] [] pos) (LS G.toGd W (a0q G (.tro b j s))):=by
 by_cases hm:G.m0=none
 ·have hcl:=c.xc.ok.cl j y (a0M h1).1
  refine LS.mk' (L2N.ps_try_many (tb:=fun W'=>LS G.toGd W' (a0b G b)) (l:=[(.ref (G.cl j),fun a cls d=>fun D σ H=>∀ oe,L2N.Zn cls d oe→(∃ vs,oe.data=.fields vs)→LS G.toGd noW (a0b (G.suite a oe) s) D σ H)]) c.stk c.fr c.xc.tk
   (fun W' pn xe tk ps=>hb _ G W' k (c.tr hm tk ps))
   (.cons ⟨c.xc.gl h2,(a0M h1).2.1,.inl hcl⟩ (fun a oe cls d pn hz hf=>PSs.imp (hs _ (G.suite a oe) noW k (c.suite hz hf)) fun D σ H q=>q oe hz hf) .nil)) fun D σ H δ S Y F R ht rs rw'=>?_
  rw [a0q] at ht
  refine ⟨δ,S,_,F,R,ht.2,rs,fun C fs δ' S' d σ' H' hy P R' hx=>?_⟩
  obtain ⟨kb,e1,e2,e3⟩:=hy
  refine ⟨kb,by rw [← c.xc.ok.K];exact e1,fun hk a na oe hz hf=>?_,fun hk=>rw' C fs δ' S' d σ' H' (e3 hk) P R' hx⟩
  refine ⟨δ',S',noX,F,R',e2 hk a oe,?_,fun _ _ _ _ _ _ _ z=>z.elim⟩
  exact ⟨fun δ2 S2 σ2 H2 q P2 R3=>rs.nx _ S2 _ H2 q (P.trans P2) R3,rs.rt.mono P,fun δ2 S2 σ2 H2 q P2 R3=>rs.bk _ S2 _ H2 q (P.trans P2) R3,fun δ2 S2 σ2 H2 q P2 R3=>rs.ct _ S2 _ H2 q (P.trans P2) R3⟩
 ·refine LS.mk' ps_never fun D σ H δ S Y F R ht rs rw'=>?_
  rw [a0q] at ht
  exact (hm ht.1).elim
theorem a7Z {a b:Expr} (sa:a0A a=true) (sb:a0A b=true):([a,b].any fun | .Starred ..=>true | _=>false)=false:=by
 cases a <;> first | exact absurd sa zbe | (cases b <;> first | exact absurd sb zbe | rfl)
theorem a9c {y z:Str} {a b:Expr} {py pz pt p2:Pos} {kt k2:Nat} (kind:X.env.blockKind=.function) (ky:X.env.kindOf y=some .local) (kz:X.env.kindOf z=some .local) (same:(py.line == pz.line)=true) (apart:(y == z)=false) (sa:a0A a=true) (sb:a0A b=true)
  (f1:([a,b].all (foldedForSure 8))=false) (f2:([a,b].all (constantsAlone 8))=false):swappedStores [.Tuple [.Name y py,.Name z pz] kt pt] (.Tuple [a,b] k2 p2) X.env=pure (some [y,z]):=by
 have line:(pz.line == py.line)=true:=by rw [beq_iff_eq] at same ⊢;exact same.symm
 have dup:[y,z].eraseDups=[y,z]:=by
  rw [List.eraseDups_cons,List.filter_cons]
  have e:(z == y)=false:=by
   rw [beq_eq_false_iff_ne] at apart ⊢
   exact fun h=>apart h.symm
  simp [e,List.eraseDups_cons]
 unfold swappedStores
 simp only [zaz,List.length_nil,kind,f1,f2,List.head?_cons,Option.map_some,Option.getD_some,Expr.pos,List.filterMap_cons,List.filterMap_nil,ky,kz,line,beq_self_eq_true,Bool.and_self,if_true,dup]
 refine (if_neg (by decide)).trans ((if_neg fun h=>zbe ((a7Z sa sb).symm.trans h)).trans ?_)
 rfl
theorem b8b {i j:Nat} {es:RL} {y z:Str} {a b:Expr} {py pz pt p2:Pos} {kt k2:Nat} (c:XS n X G W k sc) (h1:nmB n.N i y=true) (h2:nmB n.N j z=true) (hij:i≠j) (hy:sc.names.lookup y=some .local) (hz:sc.names.lookup z=some .local) (same:(py.line == pz.line)=true) (apart:(y == z)=false) (sa:a0A a=true) (sb:a0A b=true)
  (f1:([a,b].all (foldedForSure 8))=false) (f2:([a,b].all (constantsAlone 8))=false) (hL:a9f n sc es [a,b]):PS X (.Assign [.Tuple [.Name y py,.Name z pz] kt pt] (.Tuple [a,b] k2 p2) pos) (LS G.toGd W (a0q G (.par i j es))):=by
 by_cases hm:G.m0=none
 ·have md:a1p X none:=by have:=c.xc.md;rw [hm] at this;exact this
  have ly:X.env.scope.names.lookup y=some .local:=by rw [c.esc];exact hy
  have lz:X.env.scope.names.lookup z=some .local:=by rw [c.esc];exact hz
  refine ⟨fun pins s σ H D I hh=>?_⟩
  have kind:X.env.blockKind=.function:=by unfold Env.blockKind;rw [I.ok.kind];rfl
  refine (LS.mk' (ps_par (pos:=pos) md.2 c.xc.nd (c.xc.at h1) (c.xc.at h2) hij ly lz (hL.a X G.toGm W k c.xc) (a9c kind ly lz same apart sa sb f1 f2) (by rfl)) fun D σ H δ S Y F R ht rs rw'=>?_).run pins s σ H D I hh
  rw [a0q] at ht
  refine ⟨δ,S,Y,_,R,ht.2,fun ds S1 vs H1 kk P cc r=>?_,rw'⟩
  obtain ⟨v,w,rfl,q⟩:=kk
  obtain ⟨a1,b1,rfl,r1,r2⟩:=a1j r
  exact ⟨a1,b1,rfl,rs.nx _ S1 _ H1 q P ⟨((R.sl.mono P).set r1).set r2,cc⟩⟩
 ·refine LS.mk' ps_never fun D σ H δ S Y F R ht rs rw'=>?_
  rw [a0q] at ht
  exact (hm ht.1).elim
theorem a9A {a b c:Expr} (sa:a0A a=true) (sb:a0A b=true) (sc:a0A c=true):([a,b,c].any fun | .Starred ..=>true | _=>false)=false:=by
 cases a <;> first | exact absurd sa zbe | exact a7Z sb sc
theorem a89 {d e f:D} {vs:List V} (r:a0i g S H [d,e,f] vs):∃ u v w,vs=[u,v,w]∧Rep g S H d u∧Rep g S H e v∧Rep g S H f w:=by
 simp only [a0i] at r
 obtain ⟨v,q,rfl,a,u,q2,rfl,b,w,q3,rfl,c,rfl⟩:=r
 exact ⟨v,u,w,rfl,a,b,c⟩
theorem a6Y {x y z:Str} {a b c:Expr} {px py pz pt p2:Pos} {kt k2:Nat} (kind:X.env.blockKind=.function) (kx:X.env.kindOf x=some .local) (ky:X.env.kindOf y=some .local) (kz:X.env.kindOf z=some .local) (same:(px.line == py.line)=true) (same2:(px.line == pz.line)=true) (dup:[x,y,z].eraseDups=[x,y,z]) (sa:a0A a=true) (sb:a0A b=true) (sc:a0A c=true)
  (f1:([a,b,c].all (foldedForSure 8))=false) (f2:([a,b,c].all (constantsAlone 8))=false):swappedStores [.Tuple [.Name x px,.Name y py,.Name z pz] kt pt] (.Tuple [a,b,c] k2 p2) X.env=pure (some [x,y,z]):=by
 have line:(py.line == px.line)=true:=by rw [beq_iff_eq] at same ⊢;exact same.symm
 have line2:(pz.line == px.line)=true:=by rw [beq_iff_eq] at same2 ⊢;exact same2.symm
 unfold swappedStores
 simp only [zaz,List.length_nil,kind,f1,f2,List.head?_cons,Option.map_some,Option.getD_some,Expr.pos,List.filterMap_cons,List.filterMap_nil,kx,ky,kz,line,line2,beq_self_eq_true,Bool.and_self,if_true,dup]
 refine (if_neg (by decide)).trans ((if_neg fun h=>zbe ((a9A sa sb sc).symm.trans h)).trans ?_)
 rfl
theorem b8h {i j l:Nat} {es:RL} {x y z:Str} {a b d:Expr} {px py pz pt p2:Pos} {kt k2:Nat} (c:XS n X G W k sc) (h1:nmB n.N i x=true) (h2:nmB n.N j y=true) (h3:nmB n.N l z=true) (hij:i≠j) (hil:i≠l) (hjl:j≠l) (hx:sc.names.lookup x=some .local) (hy:sc.names.lookup y=some .local) (hz:sc.names.lookup z=some .local) (same:(px.line == py.line)=true) (same2:(px.line == pz.line)=true) (dup:[x,y,z].eraseDups=[x,y,z]) (sa:a0A a=true) (sb:a0A b=true) (sd:a0A d=true)
  (f1:([a,b,d].all (foldedForSure 8))=false) (f2:([a,b,d].all (constantsAlone 8))=false) (hL:a9f n sc es [a,b,d]):PS X (.Assign [.Tuple [.Name x px,.Name y py,.Name z pz] kt pt] (.Tuple [a,b,d] k2 p2) pos) (LS G.toGd W (a0q G (.tri i j l es))):=by
 by_cases hm:G.m0=none
 ·have md:a1p X none:=by have:=c.xc.md;rw [hm] at this;exact this
  have lx:X.env.scope.names.lookup x=some .local:=by rw [c.esc];exact hx
  have ly:X.env.scope.names.lookup y=some .local:=by rw [c.esc];exact hy
  have lz:X.env.scope.names.lookup z=some .local:=by rw [c.esc];exact hz
  refine ⟨fun pins s σ H D I hh=>?_⟩
  have kind:X.env.blockKind=.function:=by unfold Env.blockKind;rw [I.ok.kind];rfl
  refine (LS.mk' (ps_par3 (pos:=pos) md.2 c.xc.nd (c.xc.at h1) (c.xc.at h2) (c.xc.at h3) hij hil hjl lx ly lz (hL.a X G.toGm W k c.xc) (a6Y kind lx ly lz same same2 dup sa sb sd f1 f2) (by rfl)) fun D σ H δ S Y F R ht rs rw'=>?_).run pins s σ H D I hh
  rw [a0q] at ht
  refine ⟨δ,S,Y,_,R,ht.2,fun ds S1 vs H1 kk P cc r=>?_,rw'⟩
  obtain ⟨u,v,w,rfl,q⟩:=kk
  obtain ⟨a1,b1,c1,rfl,r1,r2,r3⟩:=a89 r
  exact ⟨a1,b1,c1,rfl,rs.nx _ S1 _ H1 q P ⟨(((R.sl.mono P).set r1).set r2).set r3,cc⟩⟩
 ·refine LS.mk' ps_never fun D σ H δ S Y F R ht rs rw'=>?_
  rw [a0q] at ht
  exact (hm ht.1).elim
theorem b8a {s:RS} {x:Stmt} (h:PS X x (LS G.toGd W (a0q G s))):PS X x (LS G.toGd W (a0q G (.lck s))) :=
 LS.mk' (ps_lock h) fun D σ H δ S Y F R ht rs rw'=>by
  rw [a0q] at ht
  obtain ⟨d,kvs,at_d,ht⟩:=ht
  obtain ⟨ws,here,all⟩:=R.ce d _ at_d
  refine ⟨d,_,here,trivial,fun od=>?_⟩
  have P:a0h S H (S.set d (.loc kvs)) (upd H d (.frz od (.dK ws))):=a0h.write at_d
  have back:∀ {δ':DS} {S' σ' H'},a0h (S.set d (.loc kvs)) (upd H d (.frz od (.dK ws))) S' H'→Rel G.toGd S' H' δ' σ'→Rel G.toGd (S'.set d (.dic kvs)) (upd H' d (.dK ws)) δ' σ':=fun {δ' S' σ' H'} P' R' =>
   ⟨⟨R'.sl.len,fun i x e=>have ⟨v,e1,r⟩:=R'.sl.at_ i x e;⟨v,e1,r.monoW (.write (PostW.unlock at_d P').1)⟩⟩,CellsOk.unlock at_d all P' R'.ce⟩
  have go:∀ {δ':DS} {S' σ' H'} {K:DS→SS→Prop} {q:L2.St→Hp→Prop},(∀ δ' S' σ' H',K δ' S'→a0h S H S' H'→Rel G.toGd S' H' δ' σ'→q σ' H')→K δ' (S'.set d (.dic kvs))→a0h (S.set d (.loc kvs)) (upd H d (.frz od (.dK ws))) S' H'→Rel G.toGd S' H' δ' σ' →
    H' d=some (.frz od (.dK ws))∧q σ' (upd H' d (.dK ws)):=fun {δ' S' σ' H' K q} w kk P' R'=>⟨(PostW.unlock at_d P').2,w δ' _ σ' _ kk (a0h.unlock at_d P') (back P' R')⟩
  refine ⟨δ,_,Y,F.unlock d kvs,R.mono P (R.ce.lock at_d here all),ht,⟨fun δ' S' σ' H' kk P' R'=>go rs.nx kk P' R',fun x S' v H' kk P' c' r'=>⟨(PostW.unlock at_d P').2,?_⟩,fun δ' S' σ' H' kk P' R'=>go rs.bk kk P' R',fun δ' S' σ' H' kk P' R'=>go rs.ct kk P' R'⟩,rw'.mono P⟩
  exact rs.rt x _ v _ kk (a0h.unlock at_d P') (CellsOk.unlock at_d all P' c') (r'.monoW (.write (PostW.unlock at_d P').1))
end
end Sv
namespace Sv
open PySem PySem.Spec PyProof.Rows L2
open L2H (RoomH)
variable {n:SN}
mutual
theorem sS:∀ (s:RS) (sc:Scope) (x:Stmt),a3w n sc s x=true→c4j n sc s x
 | .exp e,sc,x,h=>by
  unfold a3w at h
  split at h
  ·rw [zak] at h
   exact fun X G W k c=>b77 h.1 ((sE e sc _ h.2).v X G.toGm W k c.xc)
  ·cases h
 | .asg tg one e,sc,x,h=>by
  unfold a3w at h
  split at h
  ·simp only [zak] at h
   obtain ⟨⟨h1,h2⟩,h3,h4⟩:=h
   exact fun X G W k c=>b74 c h1 h2 h3 ((sE e sc _ h4).v X G.toGm W k c.xc)
  ·cases h
 | .asu tg e,sc,x,h=>by
  unfold a3w at h
  split at h
  ·simp only [zak] at h
   obtain ⟨⟨h1,h2⟩,h3,h4⟩:=h
   exact fun X G W k c=>b76 c h1 h2 h3 ((sE e sc _ h4).v X G.toGm W k c.xc)
  ·cases h
 | .asl i e,sc,x,h=>by
  unfold a3w at h
  split at h
  ·split at h
   ·simp only [zak,zah,Bool.not_eq_true'] at h
    obtain ⟨⟨⟨⟨h1,h2⟩,h3⟩,h4⟩,⟨⟨⟨⟨⟨⟨g0,g1⟩,g2⟩,g3⟩,g4⟩,g5⟩,g6⟩,g7⟩:=h
    exact fun X G W k c=>b75 c h1 h2 h3 h4 g0 g1 (sI _ sc _ g2) g3 g4 g7 (fun X G W k c=>sC _ _ _ g5 X G W k c) (fun X G W k c=>(sE _ _ _ g6).v X G W k c)
   ·cases h
  ·cases h
 | .sti a b e,sc,x,h=>by
  unfold a3w at h
  split at h
  ·simp only [zak] at h
   obtain ⟨h2,h3,h4,h5⟩:=h
   exact fun X G W k c=>b8f c h2 ((sE a sc _ h3).v X G.toGm W k c.xc) ((sE b sc _ h4).v X G.toGm W k c.xc) ((sE e sc _ h5).v X G.toGm W k c.xc)
  ·cases h
 | .stf a f e,sc,x,h=>by
  unfold a3w at h
  split at h
  ·simp only [zak,zah] at h
   obtain ⟨h2,h3,h4⟩:=h
   subst h2
   exact fun X G W k c=>b8e c ((sE a sc _ h3).v X G.toGm W k c.xc) ((sE e sc _ h4).v X G.toGm W k c.xc)
  ·cases h
 | .agv i op e,sc,x,h=>by
  unfold a3w at h
  split at h
  ·simp only [zak,zah] at h
   obtain ⟨⟨⟨h1,h2⟩,h3⟩,h4⟩:=h
   subst h3
   exact fun X G W k c=>b73 c h1 h2 ((sE e sc _ h4).v X G.toGm W k c.xc)
  ·cases h
 | .agi a b op e,sc,x,h=>by
  unfold a3w at h
  split at h
  ·simp only [zak,zah] at h
   obtain ⟨⟨h1,h2⟩,h3,h4,h5⟩:=h
   subst h2
   exact fun X G W k c=>b72 c h1 ((sE a sc _ h3).v X G.toGm W k c.xc) ((sE b sc _ h4).v X G.toGm W k c.xc) ((sE e sc _ h5).v X G.toGm W k c.xc)
  ·cases h
 | .ifs t a b,sc,x,h=>by
  unfold a3w at h
  split at h
  ·simp only [zak] at h
   obtain ⟨h1,h2,h3⟩:=h
   exact fun X G W k c=>b79 ((sE t sc _ h1).t X G.toGm W k c.xc) (sSs a sc _ h2 X G W k c) (sSs b sc _ h3 X G W k c)
  ·cases h
 | .fr tg one it b,sc,x,h=>by
  unfold a3w at h
  split at h
  ·simp only [zak] at h
   obtain ⟨⟨⟨h1,h2⟩,h5⟩,h3,h4⟩:=h
   exact fun X G W k c=>c3l c h1 h2 h5 (sI it sc _ h3) (sSs b sc _ h4 X G W k c)
  ·cases h
 | .frn j tg it b,sc,x,h=>by
  unfold a3w at h
  split at h
  ·simp only [zak] at h
   obtain ⟨⟨⟨h1,h2,h3⟩,h5⟩,h6,h7⟩:=h
   exact fun X G W k c=>b78 c h1 h2 h3 h5 (sI it sc _ h6) (sSs b sc _ h7 X G W k c)
  ·cases h
 | .wh t b,sc,x,h=>by
  unfold a3w at h
  split at h
  ·simp only [zak] at h
   obtain ⟨h1,h2⟩:=h
   exact fun X G W k c=>c3m c ((sE t sc _ h1).t X G.toGm W k c.xc) (sSs b sc _ h2 X G W k c)
  ·cases h
 | .ret e,sc,x,h=>by
  unfold a3w at h
  split at h
  ·exact fun X G W k c=>b8d ((sE e sc _ h).v X G.toGm W k c.xc)
  ·cases h
 | .retN,sc,x,h=>by
  unfold a3w at h
  split at h
  ·exact fun X G W k c=>LS.mk' ps_retN fun D σ H δ S Y F R ht rs rw'=>by
    rw [a0q] at ht
    exact rs.rt.non ht R.ce
  ·cases h
 | .brk,sc,x,h=>by
  unfold a3w at h
  split at h
  ·exact fun X G W k c=>LS.mk' ps_break fun D σ H δ S Y F R ht rs rw'=>by
    rw [a0q] at ht
    exact rs.bk δ S σ H ht (a0h.refl _ _) R
  ·cases h
 | .cnt,sc,x,h=>by
  unfold a3w at h
  split at h
  ·exact fun X G W k c=>LS.mk' ps_continue fun D σ H δ S Y F R ht rs rw'=>by
    rw [a0q] at ht
    exact rs.ct δ S σ H ht (a0h.refl _ _) R
  ·cases h
 | .pas,sc,x,h=>by
  unfold a3w at h
  split at h
  ·exact fun X G W k c=>LS.mk' ps_pass fun D σ H δ S Y F R ht rs rw'=>by
    rw [a0q] at ht
    exact rs.nx δ S σ H ht (a0h.refl _ _) R
  ·exact fun X G W k c=>LS.mk' ps_doc fun D σ H δ S Y F R ht rs rw'=>by
    rw [a0q] at ht
    exact rs.nx δ S σ H ht (a0h.refl _ _) R
  ·cases h
 | .rai j es,sc,x,h=>by
  unfold a3w at h
  split at h
  ·simp only [zak] at h
   obtain ⟨⟨h1,h2⟩,h3⟩:=h
   exact fun X G W k c=>b8c c h1 h2 (sL es sc _ h3)
  ·cases h
 | .tra b j i s,sc,x,h=>by
  unfold a3w at h
  split at h
  ·simp only [zak,zah] at h
   obtain ⟨⟨⟨⟨h1,h2⟩,h3⟩,h4⟩,h5,h6⟩:=h
   exact fun X G W k c=>b8g c h1 h2 h3 h4 (sSs b sc _ h5) (sSs s sc _ h6)
  ·cases h
 | .tro b j s,sc,x,h=>by
  unfold a3w at h
  split at h
  ·simp only [zak] at h
   obtain ⟨⟨h1,h2⟩,h5,h6⟩:=h
   exact fun X G W k c=>b8i c h1 h2 (sSs b sc _ h5) (sSs s sc _ h6)
  ·cases h
 | .tri i j l es,sc,x,h=>by
  unfold a3w at h
  split at h
  ·simp only [zak,zah,Bool.not_eq_true'] at h
   obtain ⟨⟨⟨⟨⟨⟨⟨⟨⟨⟨⟨h1,h2⟩,h3⟩,h4⟩,h5⟩,h6⟩,⟨h7,h8⟩,h9⟩,⟨l1,l2⟩,l3⟩,⟨s1,s2⟩,s3⟩,g1⟩,g2⟩,g3⟩:=h
   exact fun X G W k c=>b8h c h1 h2 h3 h4 h5 h6 h7 h8 h9 l1 l2 l3 s1 s2 s3 g1 g2 (sL es sc _ g3)
  ·cases h
 | .par i j es,sc,x,h=>by
  unfold a3w at h
  split at h
  ·simp only [zak,zah,Bool.not_eq_true'] at h
   obtain ⟨⟨⟨⟨⟨⟨⟨⟨⟨⟨⟨h1,h2⟩,h3⟩,h4⟩,h5⟩,h6⟩,h7⟩,h8⟩,h9⟩,g1⟩,g2⟩,g3⟩:=h
   exact fun X G W k c=>b8b c h1 h2 h3 h4 h5 h6 h7 h8 h9 g1 g2 (sL es sc _ g3)
  ·cases h
 | .lck s,sc,x,h=>by
  unfold a3w at h
  exact fun X G W k c=>b8a (sS s sc x h X G W k c)
 | .nev,sc,x,h=>fun X G W k c=>LS.mk' ps_never fun D σ H δ S Y F R ht rs rw'=>by
  rw [a0q] at ht
  exact ht.elim
theorem sSs:∀ (s:RSs) (sc:Scope) (x:List Stmt),a1u n sc s x=true→a9l n sc s x
 | .nil,sc,x,h=>by
  unfold a1u at h
  cases x with
  | nil =>
   refine fun X G W k c=>PSs.imp pss_nil fun D σ H q=>?_
   obtain ⟨δ,S,Y,F,R,ht,rs,_⟩:=q
   rw [a0b] at ht
   exact rs.nx δ S σ H ht (a0h.refl _ _) R
  | cons _ _=>cases h
 | .cons s r,sc,x,h=>by
  unfold a1u at h
  split at h
  ·rw [zak] at h
   refine fun X G W k c=>PSs.imp (pss_cons (sS s sc _ h.1 X G W k c) (sSs r sc _ h.2 X G W k c)) fun D σ H q=>?_
   obtain ⟨δ,S,Y,F,R,ht,rs,rw'⟩:=q
   rw [a0b] at ht
   exact ⟨δ,S,Y,_,R,ht,⟨fun δ' S' σ' H' q P R'=>⟨δ',S',Y,F,R',q,rs.mono P,rw'.mono P⟩,rs.rt,rs.bk,rs.ct⟩,rw'⟩
  ·cases h
 | .cut s r,sc,x,h=>by
  unfold a1u at h
  split at h
  ·rw [zak] at h
   refine fun X G W k c=>PSs.imp (pss_cons (sS s sc _ h.1 X G W k c) (sSs r sc _ h.2 X G W k c)) fun D σ H q=>?_
   obtain ⟨δ,S,Y,F,R,ht,rs,rw'⟩:=q
   rw [a0b] at ht
   obtain ⟨J,hs,hj⟩:=ht
   exact ⟨δ,S,Y,_,R,hs,⟨fun δ' S' σ' H' q P R'=>⟨δ',S',Y,F,R',hj δ' S' q,rs.mono P,rw'.mono P⟩,rs.rt,rs.bk,rs.ct⟩,rw'⟩
  ·cases h
 | .frz i r,sc,x,h=>by
  unfold a1u at h
  refine fun X G W k c=>PSs.imp (sSs r sc x h X G W k c) fun D σ H q=>?_
  obtain ⟨δ,S,Y,F,R,ht,rs,rw'⟩:=q
  rw [a0b] at ht
  rcases ht with ht | ⟨a,ea,ht⟩
  ·exact ⟨δ,S,Y,F,R,ht,rs,rw'⟩
  obtain ⟨v,ev,rv⟩:=R.sl.at_ i _ ea
  cases a0z rv
  have hlt:i < σ.length:=by
   obtain ⟨hh,_⟩:=List.getElem?_eq_some_iff.mp ev
   exact hh
  have es:σ.set i (some (V.ref a))=σ:=by
   apply List.ext_getElem?
   intro j
   by_cases e:i=j
   ·subst e;rw [List.getElem?_set_self hlt,ev]
   ·rw [List.getElem?_set_ne e]
  rcases ht with ⟨ds,e1,q⟩ | ⟨ds,e1,q⟩
  ·have R2:Rel G.toGd (S.del a) H (δ.set i (some (.lst ds))) (σ.set i (some (V.ref a))):=⟨(R.sl.mono (a0h.freeze e1)).set (Rep.freeze R.ce e1),R.ce.freeze e1⟩
   rw [es] at R2
   exact ⟨_,_,Y,F,R2,q,rs.mono (a0h.freeze e1),rw'.mono (a0h.freeze e1)⟩
  ·have R2:Rel G.toGd (S.del a) H (δ.set i (some (.dic ds))) (σ.set i (some (V.ref a))):=⟨(R.sl.mono (a0h.freeze e1)).set (Rep.freezeK R.ce e1),R.ce.freeze e1⟩
   rw [es] at R2
   exact ⟨_,_,Y,F,R2,q,rs.mono (a0h.freeze e1),rw'.mono (a0h.freeze e1)⟩
end
def Meets (n:SN) (G:Option (Addr × Obj)→Gs) (np:Nat) (hot:Bool) (T:TR) (b:RSs):Prop:=∀ (m:Option (Addr × Obj)),m.isSome=hot→∀ (ds:List D) (S:SS) (K:DK) (Y:XK'),T m ds S K Y→ds.length=np ∧
 a0b (G m) b (ds.map some ++ List.replicate (n.N.length - ds.length) none) S (fun C fs _ S'=>Y C fs S') { nx:=fun _ S'=>K .non S',rt:=K,bk:=fun _ _=>False,ct:=fun _ _=>False }
theorem c5w {P:Program} {w:World} {K:zbj} {mg:Str→Option Value} {base:Heap} {hot:Bool} {k:Nat} {f:Addr} {name qual:Str} {params:Arguments} {body:List Stmt} {scope:Scope} {dV kV doc pm cdv ct oc:Value} {an od:Option Addr}
  {osl:Array (Option Value)} {ps:List Str} {T:TR} {b:RSs} {G:Option (Addr × Obj)→Gs} {g:Gd} (lk:K.lookup f=some ⟨oc,od,.func (PySem.W.fnOf name qual params body scope dV kV doc pm an cdv ct),osl⟩) (hcd:PySem.W.codeIn K cdv qual=true) (S:FnScope n.N ps scope)
  (hck:a1u n scope b body=true) (hG:∀ m,(G m).m0=m) (hg:∀ m,(G m).toGd=g) (ok:∀ m,GOk n P w K mg base (G m).toGm k) (xm:∀ m j x kd,(G m).xk j=some kd→n.cls[j]?=some x→MkF P w K mg base k ((G m).cl j) kd)
  (hm:Meets n G ps.length hot T b):FnG P w K mg base hot (k + 1) f (PySem.W.fnOf name qual params body scope dV kV doc pm an cdv ct) ps (spD g T):=by
 refine b2O lk hcd S (fun m vs H Q E hmh h=>?_) fun A outer s H vs Q E m hmh hM hr hsp=>?_
 ·obtain ⟨ds,S0,K0,Y0,ce,rp,ht,_⟩:=h
  rw [← rp.length]
  exact (hm m hmh ds S0 K0 Y0 ht).1
 ·obtain ⟨ds,S0,K0,Y0,ce,rp,ht,res,rex⟩:=hsp
  obtain ⟨hl,hd⟩:=hm m hmh ds S0 K0 Y0 ht
  have hx:XS n (cxM P w K mg base n.N qual scope f cdv A outer s H E m) (G m) (fun cls d _ H'=>E cls d H') k scope:=by
   refine ⟨⟨ok m,rfl,b3v.self (fun _=>rfl),?_,?_,?_,?_⟩,rfl,fun _=>rfl,rfl,rfl,xm m⟩
   ·exact hr
   ·rw [hG m]
    cases m with
    | none=>exact ⟨hM.1,rfl⟩
    | some p=>exact ⟨hM.1,⟨hM.2.1.1,hM.2.1.2⟩,zal⟩
   ·exact L2N.takes_of rfl rfl rfl rfl
   ·exact passes_of rfl
  refine ⟨_,sSs b scope body hck _ (G m) _ k hx,?_⟩
  have hN:ds.length≤n.N.length:=by
   have:=congrArg List.length S.pre
   rw [List.length_take] at this
   omega
  rw [hg m]
  refine ⟨_,S0,_,_,⟨a68.start (N:=n.N) rp,ce⟩,hd,⟨fun δ' S' σ' H' q P R'=>res .non S' .non H' q P R'.ce (by simp only [Rep]),res,fun _ _ _ _ z=>z.elim,fun _ _ _ _ z=>z.elim⟩,fun C fs δ' S' d σ' H' y P R' x=>rex C fs S' d H' y P R'.ce x⟩
end Sv
namespace Sv
open PySem PySem.Spec PyProof.Rows L2 PySem.W PySem.Calls
open L2H (RoomH)
structure b5S (K:zbj) (mg:Str→Option Value) (s:Shared):Prop where
 inK:K.In s.heap
 main:s.heap.Ns mainGlobals mg
 builtins:∃ mb,s.heap.Ns builtinsNs mb∧∀ x:Str,x ≠ "__name__" → mb x=bootBuiltins x
 nolimit:s.heap.NoLimit
 noGens:s.gens=#[]
structure a1x (K:zbj) (P:Program) (w:World) (H:Hp) (s:Shared) (a:Addr) (xs:List V):Prop where
 list:SqL K H a xs
 ok:HOk P w H s.heap
 frozen:∀ b u,H b=some u→∃ o ys,u=.frz o (.lst ys)
 own:∀ b u,H b=some u→K.lookup b=none∧∃ items n,(∃ o,s.heap.get? b=some o∧o.data=.seq items n)
theorem a1x.is {K:zbj} {P:Program} {w:World} {s:Shared} {a:Addr} {vs:List Value} {ns:List Int} (inK:K.In s.heap) (at_a:s.heap.get? a=some { cls:=.type "list",data:=.seq vs.toArray }) (whole:IntsAre vs ns) (short:ns.length≤sizeLine) :
  ∃ H,a1x K P w H s a (ns.map V.int):=by
 have reads:=vals_ints whole
 have size:vs.toArray.size≤sizeLine:=by rw [List.size_toArray,whole.length];exact short
 cases known:K.lookup a with
 | some o =>
  have same:=(inK a o known).symm.trans at_a
  cases same
  exact ⟨fun _=>none,.inr ⟨_,_,_,known,rfl,rfl,rfl,size,by simpa using reads⟩,nofun,nofun,nofun⟩
 | none =>
  let kept:HO:=.frz { cls:=.type "list",data:=.seq vs.toArray } (.lst (ns.map V.int))
  have only:∀ {b u},(if b=a then some kept else none)=some u→b=a∧u=kept:=by
   intro b u e
   split at e
   ·exact ⟨‹_›,(Option.some.inj e).symm⟩
   ·cases e
  refine ⟨fun b=>if b=a then some kept else none,.inl (.inr ⟨_,if_pos rfl⟩),?_,?_,?_⟩
  all_goals
   intro b u e
   obtain ⟨rfl,rfl⟩:=only e
  ·exact ⟨at_a,by rw [zag];exact short,vs,_,reads,at_a⟩
  ·exact ⟨_,_,rfl⟩
  ·exact ⟨known,_,_,_,at_a,rfl⟩
theorem a1x.base {K:zbj} {P:Program} {w:World} {H:Hp} {s:Shared} {a:Addr} {xs:List V} (T:a1x K P w H s a xs) {b:Addr} {o:Obj} (e:s.heap.get? b=some o) (no:∀ items n,o.data≠.seq items n):(hidT s.heap H).get? b=some o:=by
 cases tracked:H b with
 | none=>exact hidT_get e tracked
 | some u =>
  have ⟨_,items,n,o',e',d⟩:=T.own b u tracked
  cases e.symm.trans e'
  exact (no _ _ d).elim
theorem a1x.names {K:zbj} {P:Program} {w:World} {H:Hp} {s:Shared} {a:Addr} {xs:List V} (T:a1x K P w H s a xs) {b:Addr} {m:Str→Option Value}:s.heap.Ns b m→(hidT s.heap H).Ns b m
 | ⟨o,es,ep,e,d,r⟩=>⟨o,es,ep,T.base e (by rw [d];nofun),d,r⟩
theorem a1x.inK {K:zbj} {P:Program} {w:World} {H:Hp} {s:Shared} {a:Addr} {xs:List V} (T:a1x K P w H s a xs) (k:K.In s.heap):K.In (hidT s.heap H):=by
 intro b o known
 cases tracked:H b with
 | none=>exact hidT_get (k b o known) tracked
 | some u=>cases known.symm.trans (T.own b u tracked).1
theorem a1x.env {K:zbj} {P:Program} {w:World} {mg:Str→Option Value} {H:Hp} {s:Shared} {a:Addr} {xs:List V} (T:a1x K P w H s a xs) (G:b5S K mg s):Env0 P w K mg (hidT s.heap H) callerA [] s H where
 frames:=rfl
 mod:=⟨T.inK G.inK,T.names G.main,G.builtins.imp fun _ z=>⟨T.names z.1,z.2⟩,G.nolimit.imp fun _ z=>⟨T.names z.1,z.2⟩⟩
 bs b o e:=of_hidT e
 bsz:=Nat.le_of_eq (hidT_size _ _)
 funs:=trivial
 frf b z:=nomatch (show b∈([]:List Addr) from z)
 hok:=T.ok
 bare:=.of_eq G.noGens
theorem a1x.old {K:zbj} {P:Program} {w:World} {H H':Hp} {s s':Shared} {a:Addr} {xs:List V} (T:a1x K P w H s a xs) (un:Un (frs ([]:List Env)) [] H H' s.heap s'.heap) (hok:HOk P w H' s'.heap):OldK s.heap s'.heap:=by
 refine OldK.of_keep fun b o e=>?_
 cases tracked:H b with
 | none=>exact un.keep b o e tracked (fun z=>nomatch (show b∈([]:List Addr) from z)) (by simp)
 | some u =>
  obtain ⟨o',ys,rfl⟩:=T.frozen b u tracked
  cases e.symm.trans (T.ok b _ tracked).1
  exact (hok b _ (un.frzs b _ _ tracked)).1
theorem b4t {P:Program} {w:World} {K:zbj} {mg:Str→Option Value} {k:Nat} {fa a:Addr} {fd:FuncData} {x:Str} {sp:SpM} {s:Shared} {vs:List Value} {ns:List Int} (G:b5S K mg s)
  (at_a:s.heap.get? a=some { cls:=.type "list",data:=.seq vs.toArray }) (whole:IntsAre vs ns) (short:ns.length≤sizeLine) (room:RoomH k callerA) (F:∀ base:Heap,K.In base→base.Ns mainGlobals mg→FnG P w K mg base false k fa fd [x] sp)
  (binds:∀ (s:Shared) (u:Value),BindsTo s fd ⟨[u],[]⟩ [(x,u)]) (does:∀ H:Hp,SqL K H a (ns.map V.int)→sp none [.ref a] H (fun v _=>v=.bl true) fun _ _ _=>False) :
  codeAny (model P w) callerA (.call (.ref fa) ⟨[.ref a],[]⟩) (fun r s'=>r=.ok (.ret (.bool true))∧OldK s.heap s'.heap∧s'.os=s.os∧AllBare s'.gens) s:=by
 have ⟨H,T⟩:=a1x.is (P:=P) (w:=w) G.inK at_a whole short
 have promise:=F _ (T.inK G.inK) (T.names G.main)
 have walked:=promise.run callerA [] s H ⟨[.ref a],[]⟩ [.ref a] [.ref a] _ _ none rfl room ⟨rfl,rfl⟩ (T.env G) (binds s _) (.cons rfl .nil) (does H T.list)
 refine codeAny_mono walked ?_
 rintro (err | fl) s' told
 ·have ⟨_,_,_,_,_,_,_,_,_,_,_,_,never⟩:=told
  exact never.elim
 ·cases fl with
  | ret u =>
   obtain ⟨v,H',sameOs,bare,un,hok,rel,rfl⟩:=told
   have is:u=.bool true:=rel
   exact ⟨congrArg (fun z=>Except.ok (Flow.ret z)) is,T.old un hok,sameOs,bare⟩
  | _=>exact told.elim
theorem walk_ofG {l:PySem.W.OpenLaw} {n k:Nat} {q:Program} {loose:List Str} {XP:(Str→Option Value)→Heap→Prop} {YP:World→Heap→Prop} {d:DefRec} {x:Str} (most:l.most=some n) (few:n≤sizeLine) (noDf:d.params.defaults=[]) (room:RoomH k callerA)
  (kept:∀ w mg fa h,YP w h→h.Ns mainGlobals mg→mg d.name=some (.ref fa)→∃ (K:zbj) (fd:FuncData) (sp:SpM),K.In h∧(∀ s u,BindsTo s fd ⟨[u],[]⟩ [(x,u)]) ∧
   (∀ H a (ns:List Int),ns.length≤n→SqL K H a (ns.map V.int)→sp none [.ref a] H (fun v _=>v=.bl true) fun _ _ _=>False)∧∀ base:Heap,K.In base→base.Ns mainGlobals mg→FnG l.prog w K mg base false k fa fd [x] sp) :
  PySem.W.WalkO q loose XP YP l.row.toRowW d [] fun f vs=>PySem.call f vs :=
 Att.attach_call most noDf fun w _ s₁ mg _ fa _ _ _ _ _ _ _ G told _ _ _ nm lst whole short noGens =>
  have ⟨_,_,_,inK,binds,does,F⟩:=kept w mg fa _ told G.T.g nm
  b4t ⟨inK,G.T.g,⟨_,G.T.b,G.T.builtins⟩,G.T.nolimit,noGens⟩ lst whole (Nat.le_trans short few) room F binds fun H o=>does H _ _ short o
def lawT (n:Nat):TR:=fun m ds S K Y=>∃ ns:List Int,ns.length≤n∧ds=[.lst (ns.map .int)]∧S=(fun _=>none)∧∀ S',K (.bl true) S'
theorem law_sp {g:Gd} {n:Nat} {H:Hp} {a:Addr} {ns:List Int} (hl:ns.length≤n) (hS:SqL g.K H a (ns.map V.int)):spD g (lawT n) none [.ref a] H (fun v _=>v=.bl true) fun _ _ _=>False:=by
 have ri:∀ ms:List Int,a0i g (fun _=>none) H (ms.map D.int) (ms.map V.int):=by
  intro ms
  induction ms with
  | nil=>simp only [List.map_nil,a0i]
  | cons m ms ih =>
   simp only [zax,a0i]
   exact ⟨_,_,rfl,by simp only [Rep],ih⟩
 refine ⟨[.lst (ns.map .int)],fun _=>none,fun d _=>d=.bl true,fun _ _ _=>False,(fun a c e=>nomatch e),?_,⟨ns,hl,rfl,rfl,fun _=>rfl⟩,?_,fun _ _ _ _ _ z=>z.elim⟩
 ·simp only [a0i,Rep]
  refine ⟨.ref a,[],rfl,⟨a,ns.map V.int,rfl,?_,ri ns⟩,rfl⟩
  rcases hS with h | h
  ·exact .inl ⟨rfl,h⟩
  ·exact .inr (.inr h)
 ·rintro d S' v H' rfl P c r
  exact a3f r
theorem b6k {r:Option CFound} {v:Value} (h:cvB r v=true):r=some (.val v):=by
 unfold cvB at h
 split at h
 ·rw [of_decide_eq_true h]
 ·cases h
section
variable {K:Frag} {x:Str}
theorem a1U (c:(Fx.oex x).ok K=true):OexC K (He.ga K x):=by
 have ⟨shape,c⟩:=He.ba (show b8S K (He.ga K x)=true from c)
 have ⟨sets,c⟩:=He.ba c
 have ⟨under,c⟩:=He.ba c
 have ⟨typ,kept⟩:=He.ba c
 refine ⟨?_,He.eqO_ok sets,of_decide_eq_true under,of_decide_eq_true typ,kept⟩
 split at shape
 ·rename_i dd cd sl look
  split at shape
  ·rename_i C' bm k0 k1 k2 k3 n k5 em es
   simp only [zak,zah,Bool.not_eq_true'] at shape
   obtain ⟨⟨⟨⟨here,new⟩,noDel⟩,dict⟩,tail⟩:=shape
   obtain ⟨nm,bs,mro,ns,qn,hd,sn,sub,ab,col,del⟩:=cd
   obtain ⟨ls⟩:=sl
   cases em;cases es;cases here;cases new;cases noDel;cases dict
   exact ⟨_,_,_,_,_,_,_,_,_,_,_,_,_,_,_,look,tail⟩
  ·cases shape
 ·cases shape
theorem a5o (c:(Fx.ini x).ok K=true):findIn K (.ref (He.ga K x)) "__init__" = some (some (.ref (He.ma K (He.ga K x) "__init__")))∧typeIn K (.ref (He.ma K (He.ga K x) "__init__"))=some (.type "function"):=by
 obtain ⟨c1,c2⟩:=He.ba c
 exact ⟨He.eqO_ok c1,of_decide_eq_true c2⟩
theorem a5j (c:(Fx.bas x).ok K=true):b9F K (He.ga K x):=by
 obtain ⟨c1,c⟩:=He.ba c
 obtain ⟨c2,c3⟩:=He.ba c
 exact ⟨c1,He.eqO_ok c2,b6k c3⟩
theorem b6K (c:(Fx.exf x).ok K=true):b09 K (He.ga K x):=by
 have ⟨k1,c⟩:=He.ba (show c1i K x=true from c)
 have ⟨k2,c⟩:=He.ba c
 have ⟨k3,c⟩:=He.ba c
 have ⟨k4,c⟩:=He.ba c
 have ⟨k5,c⟩:=He.ba c
 have ⟨k6,c⟩:=He.ba c
 have ⟨k7,k8⟩:=He.ba c
 exact { hg:=He.eqO_ok k1,hk:=He.eqO_ok k2,hs:=of_decide_eq_true k3,hd:=k4,ha:=He.eqO_ok k5,hn:=He.eqO_ok k6,ht:=of_decide_eq_true k7,hm:=of_decide_eq_true k8 }
theorem b3Y {xs:List Str} (c:(Fx.exfs xs).ok K=true) (hx:x∈xs):b09 K (He.ga K x):=b6K (x:=x) (List.all_eq_true.mp c x hx)
theorem b4l (cl:Cls K (He.ga K x)) (c:(Fx.insf x).ok K=true):b9H K (He.ga K x):=by
 obtain ⟨c5,c⟩:=He.ba c
 obtain ⟨c6,c⟩:=He.ba c
 obtain ⟨c7,c8⟩:=He.ba c
 have ⟨c8,own⟩:=He.ba c8
 exact ⟨cl,He.eqO_ok c5,He.eqO_ok c6,of_decide_eq_true c7,of_decide_eq_true c8,of_decide_eq_true own⟩
theorem a3c {f:Str} (c:(Fx.nov x f).ok K=true):findIn K (.ref (He.ga K x)) f=some none:=He.eqO_ok c
theorem b7V {xs:List Str} {y:Str} (c:(Fx.sib xs).ok K=true) (hx:x∈xs) (hy:y∈xs):kitOne K (.ref (He.ga K x)) (.ref (He.ga K y))=some (decide (x=y)) :=
 of_decide_eq_true (List.all_eq_true.mp (List.all_eq_true.mp c x hx) y hy)
theorem b8J {xs:List Str} {n:String} (c:(Fx.veT xs n).ok K=true) (hx:x∈xs):kitOne K (.ref (He.ga K x)) (.type n)=some true:=of_decide_eq_true (List.all_eq_true.mp c x hx)
theorem b2N {xs:List Str} {y:Str} (c:(Fx.exA xs y).ok K=true) (hx:x∈xs):exmOne K (.ref (He.ga K x)) (.ref (He.ga K y))=some true:=of_decide_eq_true (List.all_eq_true.mp c x hx)
end
def obsX (fa:List He.Fa) (fn:List He.DefD) (fx:List Fx) (K:Frag):AlX:=(He.obsD fa fn K,fx.all fun f=>f.ok K)
def SaysX (fa:List He.Fa) (fn:List He.DefD) (fx:List Fx) (K:Frag):Prop:=obsX fa fn fx K=(He.valD fn,true)
section
variable {fa:List He.Fa} {fn:List He.DefD} {fx:List Fx} {K:Frag}
theorem SaysX.d (c:SaysX fa fn fx K):He.SaysD fa fn K:=congrArg (fun z:AlX=>z.1) c
theorem SaysX.fact (c:SaysX fa fn fx K) (i:Nat) {f:Fx} (h:fx[i]?=some f):f.ok K=true:=by
 have c1:(fx.all fun f=>f.ok K)=true:=congrArg (fun z:AlX=>z.2) c
 exact List.all_eq_true.mp c1 f (zaq h)
end
theorem c1k {n:SN} {P:Program} {w:World} {K:zbj} {mg:Str→Option Value} {base:Heap} {hot:Bool} {k:Nat} {f:Addr} {fd:FuncData} {x qual:Str} {params:Arguments} {body:List Stmt} {scope:Scope} {dvs:List V} {kws:List (Str × V)} {ps:List Str} {T:TR} {b:RSs} {G:Option (Addr × Obj)→Gs} {g:Gd}
  (F:FunD K x qual params body scope dvs kws f fd) (S:FnScope n.N ps scope)
  (hck:a1u n scope b body=true) (hG:∀ m,(G m).m0=m) (hg:∀ m,(G m).toGd=g) (ok:∀ m,GOk n P w K mg base (G m).toGm k) (xm:∀ m j x kd,(G m).xk j=some kd→n.cls[j]?=some x→MkF P w K mg base k ((G m).cl j) kd)
  (hm:Meets n G ps.length hot T b):FnG P w K mg base hot (k + 1) f fd ps (spD g T):=by
 obtain ⟨oc,od,dV,kV,doc,pm,an,cdv,ct,osl,rfl,lk,hcd,_,_⟩:=F.ex
 exact c5w lk hcd S hck hG hg ok xm hm
theorem a2p {P:Program} {w:World} {K:zbj} {mg:Str→Option Value} {base:Heap} {k:Nat} {f:Addr} {fd:FuncData} {x qual:Str} {params:Arguments} {body:List Stmt} {scope:Scope} {dvs:List V} {kws:List (Str × V)} {N:List Str} {C B:Addr} {z fl:Str}
  (F:FunD K x qual params body scope dvs kws f fd) (S:FnScope N N scope) (hb:b4k N scope fl body z=true) (hz:mg z=some (.ref B)) (bf:b9F K B) (T:OexC K C) (no:PySem.W.findIn K (.ref C) fl=some none):FnG P w K mg base false (k + 1) f fd N (spI C fl):=by
 obtain ⟨oc,od,dV,kV,doc,pm,an,cdv,ct,osl,rfl,lk,hcd,_,_⟩:=F.ex
 exact b4c lk hcd S hb hz bf T no
end Sv
namespace Sv
open PySem PySem.Spec PyProof.Rows L2
open L2H (RoomH)
structure Tb where
 fns:List En
 cls:List Str
 gvs:List Str
 tc:List (Option TR)
 th:List (Option TR)
 gv:List D
 xk:List (Option XKd)
 hd:List Nat
 kd:List (Option (List (Key × D)))
def Tb.lo (t:Tb) (i:Nat):Nat:=t.hd.getD i 0
def Tb.sn (t:Tb) (N:List Str):SN:=⟨N,t.fns,t.cls,t.gvs⟩
def Tb.T (t:Tb) (h:Bool) (j:Nat):Option TR:=(if h=true then t.th else t.tc)[j]?.join
def Tb.C (t:Tb) (K:zbj) (j:Nat):Addr:=He.ga K (t.cls.getD j "")
def Tb.M (t:Tb) (K:zbj) (j:Nat):Addr:=match t.fns[j]? with
 | some (.mt C _)=>He.ga K C
 | _=>0
def Tb.G (t:Tb) (K:zbj) (i:Nat) (m:Option (Addr × Obj)):Gs :=
 { K:=K,m0:=m,fn:=fun h j=>if j < t.lo i then t.T h j else none,gv:=fun j=>t.gv.getD j .non,cl:=fun j=>t.C K j,mc:=fun j=>t.M K j,xk:=fun j=>t.xk[j]?.join,kd:=fun j=>t.kd[j]?.join }
structure b9N (t:Tb) (w:World) (K:zbj) (mg:Str→Option Value):Prop where
 cl:∀ x,x∈t.cls→mg x=some (.ref (He.ga K x))
 gv:∀ j x,t.gvs[j]?=some x→∃ v u,mg x=some u∧RelV v u∧∀ S H,Rep ⟨K⟩ S H (t.gv.getD j .non) v
 bt:∀ x,x∈a5k→mg x=none
 kd:∀ (j:Nat) (x:Str) (kvs:List (Key × D)),t.gvs[j]?=some x→t.kd[j]?.join=some kvs→∃ p,mg x=some (.ref p)∧b8Q K w p kvs
def c3E (K:zbj) (mg:Str→Option Value) (f:Addr):En→Prop
 | .fn x=>mg x=some (.ref f)∧PySem.W.keepIn K (.ref f)=true
 | .mt C m=>Cls K (He.ga K C)∧Meth K (He.ga K C) m f∧(m = "__init__" → mg C=some (.ref (He.ga K C))∧Mk K (He.ga K C) f)
def a0n (t:Tb) (P:Program) (w:World) (K:zbj) (mg:Str→Option Value) (base:Heap) (i d:Nat):Prop:=∀ h j T x,j < i→t.T h j=some T→t.fns[j]?=some x →
 ∃ f fd ps,c3E K mg f x∧L2.Binds K fd ps []∧FnG P w K mg base h (2 * d + 2) f fd ps (spD ⟨K⟩ T)
section
variable {t:Tb} {P:Program} {w:World} {K:zbj} {mg:Str→Option Value} {base:Heap} {i d:Nat}
theorem a0n.zero:a0n t P w K mg base 0 0:=fun h j T x hj=>absurd hj (Nat.not_lt_zero _)
theorem a0n.step {e:Nat} (A:a0n t P w K mg base i e) (he:e≤d + 1) {x:En} {f:Addr} {fd:FuncData} {ps:List Str} (hx:t.fns[i]?=some x) (at_f:c3E K mg f x) (b:L2.Binds K fd ps [])
  (hc:∀ T,t.T false i=some T→FnG P w K mg base false (2 * d + 4) f fd ps (spD ⟨K⟩ T)) (hh:∀ T,t.T true i=some T→FnG P w K mg base true (2 * d + 4) f fd ps (spD ⟨K⟩ T)):a0n t P w K mg base (i + 1) (d + 1):=by
 intro h j T y hj hT hy
 by_cases e:j < i
 ·obtain ⟨f,fd,ps,h1,h2,F⟩:=A h j T y e hT hy
  exact ⟨f,fd,ps,h1,h2,F.mono (by omega)⟩
 ·have e:j=i:=by omega
  subst e
  rw [hx] at hy
  cases hy
  refine ⟨f,fd,ps,at_f,b,?_⟩
  cases h with
  | false=>exact hc T hT
  | true=>exact hh T hT
theorem a0n.gok (A:a0n t P w K mg base (t.lo i) d) (ok:b9N t w K mg) {N:List Str} (nd:N.Nodup) (m:Option (Addr × Obj)):GOk (t.sn N) P w K mg base (t.G K i m).toGm (2 * d + 3) where
 K:=rfl
 nd:=nd
 fn:=fun h j T x hT hx=>by
  have hT:(if j < t.lo i then t.T h j else none)=some T:=hT
  split at hT
  ·rename_i hj
   obtain ⟨f,fd,ps,h1,h2,F⟩:=A h j T _ hj hT hx
   exact ⟨f,fd,ps,h1.1,h1.2,h2,F.mono (by omega)⟩
  ·cases hT
 meth:=fun h j T C m hT hx=>by
  have hT:(if j < t.lo i then t.T h j else none)=some T:=hT
  split at hT
  ·rename_i hj
   obtain ⟨f,fd,ps,h1,h2,F⟩:=A h j T _ hj hT hx
   have e:t.M K j=He.ga K C:=by
    have hx:t.fns[j]?=some (.mt C m):=hx
    unfold Tb.M
    rw [hx]
   show ∃ f fd ps,Cls K (t.M K j)∧Meth K (t.M K j) m f∧_
   rw [e]
   exact ⟨f,fd,ps,h1.1,h1.2.1,h2,F.mono (by omega)⟩
  ·cases hT
 made:=fun j T C hT hx=>by
  have hT:(if j < t.lo i then t.T false j else none)=some T:=hT
  split at hT
  ·rename_i hj
   obtain ⟨f,fd,ps,h1,h2,F⟩:=A false j T _ hj hT hx
   have e:t.M K j=He.ga K C:=by
    have hx:t.fns[j]?=some (.mt C "__init__"):=hx
    unfold Tb.M
    rw [hx]
   show mg C=some (.ref (t.M K j))∧∃ f fd ps kI,Mk K (t.M K j) f∧_
   rw [e]
   exact ⟨(h1.2.2 rfl).1,f,fd,ps,_,(h1.2.2 rfl).2,h2,Nat.le_refl _,F⟩
  ·cases hT
 gv:=ok.gv
 cl:=fun j x hx=>by
  have hx:t.cls[j]?=some x:=hx
  have e:t.cls.getD j "" = x:=by rw [List.getD_eq_getElem?_getD,hx];rfl
  show mg x=some (.ref (He.ga K (t.cls.getD j "")))
  rw [e]
  exact ok.cl x (zaq hx)
 bt:=ok.bt
 kd:=ok.kd
def XOk (t:Tb) (P:Program) (w:World) (K:zbj) (mg:Str→Option Value) (base:Heap):Prop:=∀ (j:Nat) (x:Str) (kd:XKd),t.xk[j]?.join=some kd→t.cls[j]?=some x→MkF P w K mg base 2 (He.ga K x) kd
theorem MkF.mono {C:Addr} {kd:XKd} {j k:Nat} (h:MkF P w K mg base j C kd) (hj:j≤k):MkF P w K mg base k C kd:=by
 cases h with
 | fld T iC tI F b hk=>exact .fld T iC tI F b (Nat.le_trans hk hj)
 | bare Fb q kC e1 e2=>exact .bare Fb q kC e1 e2
theorem a0f {hot:Bool} {f:Addr} {fd:FuncData} {x qual:Str} {params:Arguments} {body:List Stmt} {scope:Scope} {dvs:List V} {kws:List (Str × V)} {N ps:List Str} {T:TR} {b:RSs}
  (A:a0n t P w K mg base (t.lo i) d) (ok:b9N t w K mg) (xo:XOk t P w K mg base) (F:FunD K x qual params body scope dvs kws f fd) (S:FnScope N ps scope) (hck:a1u (t.sn N) scope b body=true) (hm:Meets (t.sn N) (t.G K i) ps.length hot T b):FnG P w K mg base hot (2 * d + 4) f fd ps (spD ⟨K⟩ T):=by
 refine c1k (n:=t.sn N) (G:=t.G K i) (k:=2 * d + 3) F S hck (fun _=>rfl) (fun _=>rfl) (fun m=>A.gok ok S.nd m) (fun m j y kd h hy=>?_) hm
 have hy:t.cls[j]?=some y:=hy
 have e:t.cls.getD j "" = y:=by rw [List.getD_eq_getElem?_getD,hy];rfl
 show MkF P w K mg base (2 * d + 3) (He.ga K (t.cls.getD j "")) kd
 rw [e]
 exact (xo j y kd h hy).mono (by omega)
end
end Sv
namespace Sv
open PySem PySem.Spec PyProof.Rows L2
class Rdg (p:Prop) (q:outParam Prop):Prop where
 go:q→p
class M0 (m:Option (Addr × Obj)):Prop where
 out:m=none
instance {t:Tb} {K:zbj} {i:Nat}:M0 (t.G K i none).toGm.m0:=⟨rfl⟩
section
variable {G:Gm} {δ:DS} {S:SS} {Y:XD'} {K:DK} {KT:Bool→SS→Prop} {KL:List D→SS→Prop} {a b c:RE} {es:RL} {d x y:D} {i j:Int} {p:Addr} {op:Operator}
theorem a1B {i:Nat} (h:δ[i]?=some (some d)) (k:K d S):den G (.var i) δ S Y K:=by rw [den];dsimp only;rw [h];exact k
theorem b1C {r:RC} (k:K r.d S):den G (.con r) δ S Y K:=by rw [den];exact k
theorem a6h {b:Bn} (hb:b.needs G.m0) (h:a0x G es δ S Y fun ds S1=>b.den ds S1 K):den G (.bi b es) δ S Y K:=by rw [den];exact ⟨hb,h⟩
theorem c03 {i:Int} (k:K (.int i) S):den G (.con (.int i)) δ S Y K:=b1C k
instance c2o {i:Int}:Rdg (den G (.con (.int i)) δ S Y K) (K (.int i) S):=⟨c03⟩
theorem c1e {i:Str} (k:K (.str i) S):den G (.con (.str i)) δ S Y K:=b1C k
instance c2A {i:Str}:Rdg (den G (.con (.str i)) δ S Y K) (K (.str i) S):=⟨c1e⟩
theorem c5j {i:Bool} (k:K (.bl i) S):den G (.con (.bl i)) δ S Y K:=b1C k
instance c3Y {i:Bool}:Rdg (den G (.con (.bl i)) δ S Y K) (K (.bl i) S):=⟨c5j⟩
theorem c07 (k:K .non S):den G (.con .non) δ S Y K:=b1C k
instance c2t  : Rdg (den G (.con .non) δ S Y K) (K .non S):=⟨c07⟩
theorem b6x (h:a0x G es δ S Y fun ds S1=>Bn.len.den ds S1 K):den G (.bi .len es) δ S Y K:=a6h trivial h
instance b86  : Rdg (den G (.bi .len es) δ S Y K) (a0x G es δ S Y fun ds S1=>Bn.len.den ds S1 K):=⟨b6x⟩
theorem b6s (h:a0x G es δ S Y fun ds S1=>Bn.abs.den ds S1 K):den G (.bi .abs es) δ S Y K:=a6h trivial h
instance b81  : Rdg (den G (.bi .abs es) δ S Y K) (a0x G es δ S Y fun ds S1=>Bn.abs.den ds S1 K):=⟨b6s⟩
theorem a7o {i:Nat} (k:K (G.gv i) S):den G (.glb i) δ S Y K:=by rw [den];exact k
theorem c0Y (h:den G a δ S Y fun x S1=>den G b δ S1 Y fun y S2=>opD op x y S2 K):den G (.bin op a b) δ S Y K:=by rw [den];exact h
instance c2j  : Rdg (den G (.bin op a b) δ S Y K) (den G a δ S Y fun x S1=>den G b δ S1 Y fun y S2=>opD op x y S2 K):=⟨c0Y⟩
theorem c06 (h:den G a δ S Y fun x S1=>∃ i,x=.int i∧K (.int (-i)) S1):den G (.neg a) δ S Y K:=by rw [den];exact h
instance c2s  : Rdg (den G (.neg a) δ S Y K) (den G a δ S Y fun x S1=>∃ i,x=.int i∧K (.int (-i)) S1):=⟨c06⟩
theorem c5o (h:den G a δ S Y fun x S1=>a1v x S1 fun b=>K (.bl (!b)) S1):den G (.nt a) δ S Y K:=by rw [den];exact h
instance c32  : Rdg (den G (.nt a) δ S Y K) (den G a δ S Y fun x S1=>a1v x S1 fun b=>K (.bl (!b)) S1):=⟨c5o⟩
theorem c0X (h:a04 G es δ S Y K):den G (.and es) δ S Y K:=by rw [den];exact h
instance c2i  : Rdg (den G (.and es) δ S Y K) (a04 G es δ S Y K):=⟨c0X⟩
theorem c5p (h:a1W G es δ S Y K):den G (.or es) δ S Y K:=by rw [den];exact h
instance c33  : Rdg (den G (.or es) δ S Y K) (a1W G es δ S Y K):=⟨c5p⟩
theorem b6l (h:den G a δ S Y K):a04 G (.cons a .nil) δ S Y K:=by rw [a04];exact h
instance b8W  : Rdg (a04 G (.cons a .nil) δ S Y K) (den G a δ S Y K):=⟨b6l⟩
theorem c09 (h:den G a δ S Y K):a1W G (.cons a .nil) δ S Y K:=by rw [a1W];exact h
instance c2v  : Rdg (a1W G (.cons a .nil) δ S Y K) (den G a δ S Y K):=⟨c09⟩
theorem b6m (h:den G a δ S Y fun x S1=>a1v x S1 fun k=>if k=true then a04 G (.cons b es) δ S1 Y K else K x S1):a04 G (.cons a (.cons b es)) δ S Y K:=by rw [a04];exact h
instance b8X  : Rdg (a04 G (.cons a (.cons b es)) δ S Y K) (den G a δ S Y fun x S1=>a1v x S1 fun k=>if k=true then a04 G (.cons b es) δ S1 Y K else K x S1):=⟨b6m⟩
theorem c1a (h:den G a δ S Y fun x S1=>a1v x S1 fun k=>if k=true then K x S1 else a1W G (.cons b es) δ S1 Y K):a1W G (.cons a (.cons b es)) δ S Y K:=by rw [a1W];exact h
instance c2w  : Rdg (a1W G (.cons a (.cons b es)) δ S Y K) (den G a δ S Y fun x S1=>a1v x S1 fun k=>if k=true then K x S1 else a1W G (.cons b es) δ S1 Y K):=⟨c1a⟩
theorem c02 (h:a0u G c δ S Y fun k S1=>if k=true then den G a δ S1 Y K else den G b δ S1 Y K):den G (.ife c a b) δ S Y K:=by rw [den];exact h
instance c2n  : Rdg (den G (.ife c a b) δ S Y K) (a0u G c δ S Y fun k S1=>if k=true then den G a δ S1 Y K else den G b δ S1 Y K):=⟨c02⟩
theorem c00 {op:CmpOp} (h:den G a δ S Y fun x S1=>den G b δ S1 Y fun y S2=>a0I op x y S2 K):den G (.cmp op a b) δ S Y K:=by rw [den];exact h
instance c2l {op:CmpOp}:Rdg (den G (.cmp op a b) δ S Y K) (den G a δ S Y fun x S1=>den G b δ S1 Y fun y S2=>a0I op x y S2 K):=⟨c00⟩
theorem c0Z {o1 o2:CmpOp} (h:den G a δ S Y fun x S1=>den G b δ S1 Y fun y S2=>a0I o1 x y S2 fun z S3=>∃ k,z=.bl k∧if k=true then den G c δ S3 Y fun w S4=>a0I o2 y w S4 K else K (.bl false) S3):den G (.chn o1 o2 a b c) δ S Y K:=by rw [den];exact h
instance c2k {o1 o2:CmpOp}:Rdg (den G (.chn o1 o2 a b c) δ S Y K) (den G a δ S Y fun x S1=>den G b δ S1 Y fun y S2=>a0I o1 x y S2 fun z S3=>∃ k,z=.bl k∧if k=true then den G c δ S3 Y fun w S4=>a0I o2 y w S4 K else K (.bl false) S3):=⟨c0Z⟩
theorem c05 (h:a0x G es δ S Y fun ds S1=>ds.length≤sizeLine∧K (.lst ds) S1):den G (.lst false es) δ S Y K:=by
 rw [den];simpa only [Bool.false_eq_true,if_false] using h
instance c2q  : Rdg (den G (.lst false es) δ S Y K) (a0x G es δ S Y fun ds S1=>ds.length≤sizeLine∧K (.lst ds) S1):=⟨c05⟩
theorem b2L (h:a0x G es δ S Y fun ds S1=>ds.length≤sizeLine∧∀ p,S1 p=none→K (.obj p) (S1.set p (.lst ds))):den G (.lst true es) δ S Y K:=by
 rw [den];simpa only [if_true] using h
instance b8Y  : Rdg (den G (.lst true es) δ S Y K) (a0x G es δ S Y fun ds S1=>ds.length≤sizeLine∧∀ p,S1 p=none→K (.obj p) (S1.set p (.lst ds))):=⟨b2L⟩
theorem b3M (h:a0x G es δ S Y fun ds S1=>ds.length≤sizeLine∧K (.tup ds) S1):den G (.tup es) δ S Y K:=by rw [den];exact h
instance c2B  : Rdg (den G (.tup es) δ S Y K) (a0x G es δ S Y fun ds S1=>ds.length≤sizeLine∧K (.tup ds) S1):=⟨b3M⟩
theorem c5k (h:den G a δ S Y fun x S1=>den G b δ S1 Y fun y S2=>ixD x y S2 K):den G (.ix a b) δ S Y K:=by rw [den];exact h
instance c3Z  : Rdg (den G (.ix a b) δ S Y K) (den G a δ S Y fun x S1=>den G b δ S1 Y fun y S2=>ixD x y S2 K):=⟨c5k⟩
theorem c1d {lo hi:RO} (h:den G a δ S Y fun x S1=>a2T G lo δ S1 Y fun l S2=>a2T G hi δ S2 Y fun u S3=>b5G x l u S3 K):den G (.slc a lo hi) δ S Y K:=by rw [den];exact h
instance c2z {lo hi:RO}:Rdg (den G (.slc a lo hi) δ S Y K) (den G a δ S Y fun x S1=>a2T G lo δ S1 Y fun l S2=>a2T G hi δ S2 Y fun u S3=>b5G x l u S3 K):=⟨c1d⟩
theorem c5q {lo hi:RO} (h:den G a δ S Y fun x S1=>a2T G lo δ S1 Y fun l S2=>a2T G hi δ S2 Y fun u S3=>slD x l u S3 K):den G (.sl a lo hi) δ S Y K:=by rw [den];exact h
instance c34 {lo hi:RO}:Rdg (den G (.sl a lo hi) δ S Y K) (den G a δ S Y fun x S1=>a2T G lo δ S1 Y fun l S2=>a2T G hi δ S2 Y fun u S3=>slD x l u S3 K):=⟨c5q⟩
theorem c5n {KO:Option Int→SS→Prop} (k:KO none S):a2T G .nn δ S Y KO:=by rw [a2T];exact k
instance c31 {KO:Option Int→SS→Prop}:Rdg (a2T G .nn δ S Y KO) (KO none S):=⟨c5n⟩
theorem c5r {KO:Option Int→SS→Prop} (k:den G a δ S Y fun d S1=>∃ i,d=.int i∧KO (some i) S1):a2T G (.ss a) δ S Y KO:=by rw [a2T];exact k
instance c35 {KO:Option Int→SS→Prop}:Rdg (a2T G (.ss a) δ S Y KO) (den G a δ S Y fun d S1=>∃ i,d=.int i∧KO (some i) S1):=⟨c5r⟩
theorem c01 {f:Str} (h:den G a δ S Y fun x S1=>a9U G f x S1 K):den G (.fld a f) δ S Y K:=by rw [den];exact h
instance c2m {f:Str}:Rdg (den G (.fld a f) δ S Y K) (den G a δ S Y fun x S1=>a9U G f x S1 K):=⟨c01⟩
theorem a0a {j:Nat} {T:TR} (hT:G.fn G.m0.isSome j=some T) (h:a0x G es δ S Y fun ds S1=>T G.m0 ds S1 K fun C fs S'=>Y C fs δ S'):den G (.call j es) δ S Y K:=by rw [den];exact ⟨T,hT,h⟩
theorem c04 {cn:Cn} (h:den G a δ S Y fun x S1=>∃ t b,tyD S1 x=some t∧a7d G S1 x∧PySem.W.kitOne G.K t (cn.val G)=some b∧K (.bl b) S1):den G (.isi a cn) δ S Y K:=by rw [den];exact h
instance c2p {cn:Cn}:Rdg (den G (.isi a cn) δ S Y K) (den G a δ S Y fun x S1=>∃ t b,tyD S1 x=some t∧a7d G S1 x∧PySem.W.kitOne G.K t (cn.val G)=some b∧K (.bl b) S1):=⟨c04⟩
theorem a7w (k:KL [] S):a0x G .nil δ S Y KL:=by rw [a0x];exact k
instance c2L  : Rdg (a0x G .nil δ S Y KL) (KL [] S):=⟨a7w⟩
theorem a2X (k:den G a δ S Y fun d S1=>a0x G es δ S1 Y fun ds S2=>KL (d :: ds) S2):a0x G (.cons a es) δ S Y KL:=by rw [a0x];exact k
instance b9k  : Rdg (a0x G (.cons a es) δ S Y KL) (den G a δ S Y fun d S1=>a0x G es δ S1 Y fun ds S2=>KL (d :: ds) S2):=⟨a2X⟩
theorem b7a {Q:Int→Prop} (k:Q i):∃ j,D.int i=.int j∧Q j:=⟨i,rfl,k⟩
instance b9j {Q:Int→Prop}:Rdg (∃ j,D.int i=.int j∧Q j) (Q i):=⟨b7a⟩
theorem c0F {b:Bool} {Q:Bool→Prop} (k:Q b):∃ j,D.bl b=.bl j∧Q j:=⟨b,rfl,k⟩
instance c13 {b:Bool} {Q:Bool→Prop}:Rdg (∃ j,D.bl b=.bl j∧Q j) (Q b):=⟨c0F⟩
theorem c0W (h:den G a δ S Y fun x S1=>den G b δ S1 Y fun y S2=>b1m x y S2 K):den G (.adc a b) δ S Y K:=by rw [den];exact h
instance c2h  : Rdg (den G (.adc a b) δ S Y K) (den G a δ S Y fun x S1=>den G b δ S1 Y fun y S2=>b1m x y S2 K):=⟨c0W⟩
theorem b9Q {x y:D} {l m:List D} (e1:vw S x=.lst l) (e2:vw S y=.lst m) (few:l.length + m.length≤sizeLine) (k:∀ p,S p=none→K (.obj p) (S.set p (.lst (l ++ m)))):b1m x y S K:=by
 unfold b1m
 rw [e1,e2]
 exact ⟨few,k⟩
theorem c1z {Q:Str→Prop} {z:Str} (k:Q z):∃ z',D.str z=.str z'∧Q z':=⟨z,rfl,k⟩
instance c2J {Q:Str→Prop} {z:Str}:Rdg (∃ z',D.str z=.str z'∧Q z') (Q z):=⟨c1z⟩
theorem c7P (h:a0u G a δ S Y fun b S1=>KT (!b) S1):a0u G (.nt a) δ S Y KT:=by rw [a0u];exact h
instance c4e  : Rdg (a0u G (.nt a) δ S Y KT) (a0u G a δ S Y fun b S1=>KT (!b) S1):=⟨c7P⟩
theorem c3r (h:a0R G es δ S Y KT):a0u G (.and es) δ S Y KT:=by rw [a0u];exact h
instance c27  : Rdg (a0u G (.and es) δ S Y KT) (a0R G es δ S Y KT):=⟨c3r⟩
theorem c7Q (h:a1g G es δ S Y KT):a0u G (.or es) δ S Y KT:=by rw [a0u];exact h
instance c4f  : Rdg (a0u G (.or es) δ S Y KT) (a1g G es δ S Y KT):=⟨c7Q⟩
theorem b8z (h:a0u G a δ S Y KT):a0R G (.cons a .nil) δ S Y KT:=by rw [a0R];exact h
instance b9B  : Rdg (a0R G (.cons a .nil) δ S Y KT) (a0u G a δ S Y KT):=⟨b8z⟩
theorem c3x (h:a0u G a δ S Y KT):a1g G (.cons a .nil) δ S Y KT:=by rw [a1g];exact h
instance c3d  : Rdg (a1g G (.cons a .nil) δ S Y KT) (a0u G a δ S Y KT):=⟨c3x⟩
theorem b8A (h:a0u G a δ S Y fun k S1=>if k=true then a0R G (.cons b es) δ S1 Y KT else KT false S1):a0R G (.cons a (.cons b es)) δ S Y KT:=by rw [a0R];exact h
instance b9C  : Rdg (a0R G (.cons a (.cons b es)) δ S Y KT) (a0u G a δ S Y fun k S1=>if k=true then a0R G (.cons b es) δ S1 Y KT else KT false S1):=⟨b8A⟩
theorem c3y (h:a0u G a δ S Y fun k S1=>if k=true then KT true S1 else a1g G (.cons b es) δ S1 Y KT):a1g G (.cons a (.cons b es)) δ S Y KT:=by rw [a1g];exact h
instance c3e  : Rdg (a1g G (.cons a (.cons b es)) δ S Y KT) (a0u G a δ S Y fun k S1=>if k=true then KT true S1 else a1g G (.cons b es) δ S1 Y KT):=⟨c3y⟩
theorem c3t {op:CmpOp} (h:den G a δ S Y fun x S1=>den G b δ S1 Y fun y S2=>a0I op x y S2 fun d S'=>∃ k,d=.bl k∧KT k S'):a0u G (.cmp op a b) δ S Y KT:=by rw [a0u];exact h
instance c29 {op:CmpOp}:Rdg (a0u G (.cmp op a b) δ S Y KT) (den G a δ S Y fun x S1=>den G b δ S1 Y fun y S2=>a0I op x y S2 fun d S'=>∃ k,d=.bl k∧KT k S'):=⟨c3t⟩
theorem c3s {o1 o2:CmpOp} (h:den G a δ S Y fun x S1=>den G b δ S1 Y fun y S2=>a0I o1 x y S2 fun z S3=>∃ k,z=.bl k∧if k=true then den G c δ S3 Y fun w S4=>a0I o2 y w S4 fun d S'=>∃ k,d=.bl k∧KT k S' else ∃ k,D.bl false=.bl k∧KT k S3):a0u G (.chn o1 o2 a b c) δ S Y KT:=by rw [a0u];exact h
instance c28 {o1 o2:CmpOp}:Rdg (a0u G (.chn o1 o2 a b c) δ S Y KT) (den G a δ S Y fun x S1=>den G b δ S1 Y fun y S2=>a0I o1 x y S2 fun z S3=>∃ k,z=.bl k∧if k=true then den G c δ S3 Y fun w S4=>a0I o2 y w S4 fun d S'=>∃ k,d=.bl k∧KT k S' else ∃ k,D.bl false=.bl k∧KT k S3):=⟨c3s⟩
theorem c3z {i:Nat} (h:δ[i]?=some (some d)) (k:a1v d S fun b=>KT b S):a0u G (.var i) δ S Y KT:=by rw [a0u];dsimp only;rw [h];exact k
theorem c7O (h:den G a δ S Y fun x S1=>den G b δ S1 Y fun y S2=>ixD x y S2 fun d S3=>a1v d S3 fun b=>KT b S3):a0u G (.ix a b) δ S Y KT:=by rw [a0u];exact h
instance c4d  : Rdg (a0u G (.ix a b) δ S Y KT) (den G a δ S Y fun x S1=>den G b δ S1 Y fun y S2=>ixD x y S2 fun d S3=>a1v d S3 fun b=>KT b S3):=⟨c7O⟩
theorem b8B {j:Nat} {T:TR} (hT:G.fn G.m0.isSome j=some T) (h:a0x G es δ S Y fun ds S1=>T G.m0 ds S1 (fun d S3=>a1v d S3 fun b=>KT b S3) fun C fs S'=>Y C fs δ S'):a0u G (.call j es) δ S Y KT:=by rw [a0u];exact ⟨T,hT,h⟩
theorem c3v {cn:Cn} (h:den G a δ S Y fun x S1=>∃ t b,tyD S1 x=some t∧a7d G S1 x∧PySem.W.kitOne G.K t (cn.val G)=some b∧KT b S1):a0u G (.isi a cn) δ S Y KT:=by rw [a0u];exact h
instance c3b {cn:Cn}:Rdg (a0u G (.isi a cn) δ S Y KT) (den G a δ S Y fun x S1=>∃ t b,tyD S1 x=some t∧a7d G S1 x∧PySem.W.kitOne G.K t (cn.val G)=some b∧KT b S1):=⟨c3v⟩
theorem c3u {f:Str} (h:den G a δ S Y fun x S1=>a9U G f x S1 fun d S3=>a1v d S3 fun b=>KT b S3):a0u G (.fld a f) δ S Y KT:=by rw [a0u];exact h
instance c3a {f:Str}:Rdg (a0u G (.fld a f) δ S Y KT) (den G a δ S Y fun x S1=>a9U G f x S1 fun d S3=>a1v d S3 fun b=>KT b S3):=⟨c3u⟩
theorem c3A {b:Bool} {Q:Bool→Prop} (k:Q b):a1v (.bl b) S Q:=k
instance c3f {b:Bool} {Q:Bool→Prop}:Rdg (a1v (.bl b) S Q) (Q b):=⟨c3A⟩
theorem b8E {Q:Bool→Prop} (k:Q (i != 0)):a1v (.int i) S Q:=k
instance b9D {Q:Bool→Prop}:Rdg (a1v (.int i) S Q) (Q (i != 0)):=⟨b8E⟩
theorem c1K (k:K (.int (i + j)) S):opD .Add (.int i) (.int j) S K:=k
instance c2W  : Rdg (opD .Add (.int i) (.int j) S K) (K (.int (i + j)) S):=⟨c1K⟩
theorem c1L (k:K (.int (i - j)) S):opD .Sub (.int i) (.int j) S K:=k
instance c2X  : Rdg (opD .Sub (.int i) (.int j) S K) (K (.int (i - j)) S):=⟨c1L⟩
theorem a5W (h:CMul i j∨CMulW i j) (k:K (.int (i * j)) S):opD .Mult (.int i) (.int j) S K:=⟨h,k⟩
theorem b0o (h:CDivW i j) (k:K (.int (i / j)) S):opD .FloorDiv (.int i) (.int j) S K:=⟨h,k⟩
theorem a2G (h:0 < j) (k:K (.int (i % j)) S):opD .Mod (.int i) (.int j) S K:=⟨h,k⟩
theorem b0n {l m:List D} (h:l.length + m.length≤sizeLine) (k:K (.lst (l ++ m)) S):opD .Add (.lst l) (.lst m) S K:=⟨h,k⟩
theorem b2Z {l m:Str} (h:l.length + m.length≤sizeLine) (k:K (.str (l ++ m)) S):opD .Add (.str l) (.str m) S K:=⟨h,k⟩
theorem c1h:D.eqv (.int i) (.int j)=decide (i=j):=by
 simp only [D.eqv,D.py,PyData.eqv]
 rw [Bool.eq_iff_iff];simp
theorem b6b (k:K (.bl (decide (i=j))) S):a0I .Eq (.int i) (.int j) S K:=.inl ⟨rfl,rfl,by rw [Bool.false_xor];rw [← c1h] at k;exact k⟩
instance c14  : Rdg (a0I .Eq (.int i) (.int j) S K) (K (.bl (decide (i=j))) S):=⟨b6b⟩
theorem c0Q (k:K (.bl (!decide (i=j))) S):a0I .NotEq (.int i) (.int j) S K:=.inl ⟨rfl,rfl,by rw [Bool.true_xor];rw [← c1h] at k;exact k⟩
instance c2d  : Rdg (a0I .NotEq (.int i) (.int j) S K) (K (.bl (!decide (i=j))) S):=⟨c0Q⟩
theorem c0O (k:K (.bl (decide (i < j))) S):a0I .Lt (.int i) (.int j) S K:=.inl k
instance c2c  : Rdg (a0I .Lt (.int i) (.int j) S K) (K (.bl (decide (i < j))) S):=⟨c0O⟩
theorem c0N (k:K (.bl (decide (i≤j))) S):a0I .LtE (.int i) (.int j) S K:=k
instance c2b  : Rdg (a0I .LtE (.int i) (.int j) S K) (K (.bl (decide (i≤j))) S):=⟨c0N⟩
theorem c0K (k:K (.bl (decide (j < i))) S):a0I .Gt (.int i) (.int j) S K:=k
instance c18  : Rdg (a0I .Gt (.int i) (.int j) S K) (K (.bl (decide (j < i))) S):=⟨c0K⟩
theorem c0J (k:K (.bl (decide (j≤i))) S):a0I .GtE (.int i) (.int j) S K:=k
instance c17  : Rdg (a0I .GtE (.int i) (.int j) S K) (K (.bl (decide (j≤i))) S):=⟨c0J⟩
theorem b1u {x y:D} (hx:D.okd 60 (vw S x)=true) (hy:D.okd 60 (vw S y)=true) (k:K (.bl (D.eqv (vw S x) (vw S y))) S):a0I .Eq x y S K:=.inl ⟨hx,hy,by rw [Bool.false_xor];exact k⟩
theorem c0S {x y:D} (hx:D.okd 60 (vw S x)=true) (hy:D.okd 60 (vw S y)=true) (k:K (.bl (!D.eqv (vw S x) (vw S y))) S):a0I .NotEq x y S K:=.inl ⟨hx,hy,by rw [Bool.true_xor];exact k⟩
theorem a8H {b:Addr} {l:List D} (h:S b=some (.lst l)):vw S (.obj b)=.lst l:=by simp only [vw,h]
theorem b3i {b:Addr} {l:List (Key × D)} (h:S b=some (.dic l)):vw S (.obj b)=.dic l:=by simp only [vw,h]
theorem a8Z {l:List D} (h:S p=some (.lst l)) (e:atI l i=some d) (k:K d S):ixD (.obj p) (.int i) S K:=by
 unfold ixD;rw [a8H h];exact ⟨d,e,k⟩
theorem a4t {l:List D} (e:atI l i=some d) (k:K d S):ixD (.lst l) (.int i) S K:=⟨d,e,k⟩
theorem a80 {l:List D} (e:atI l i=some d) (k:K d S):ixD (.tup l) (.int i) S K:=⟨d,e,k⟩
theorem c5D {z:Str} {c:Nat} (hz:z.length≤sizeLine) (e:atI z.cps.toList i=some c) (k:K (.str ⟨#[c]⟩) S):ixD (.str z) (.int i) S K:=⟨c,hz,e,k⟩
theorem c7J {l:List D} {lo hi:Option Int} (k:K (.lst (cutD l lo hi)) S):slD (.lst l) lo hi S K:=k
instance c4c {l:List D} {lo hi:Option Int}:Rdg (slD (.lst l) lo hi S K) (K (.lst (cutD l lo hi)) S):=⟨c7J⟩
theorem b4v {l:List D} (h:S p=some (.lst l)) (k:K (.int l.length) S):Bn.len.den [.obj p] S K:=by
 show b4u [.obj p] S K;unfold b4u;simp only [a8H h];exact k
theorem c1A {l:List D} (k:K (.int l.length) S):Bn.len.den [.lst l] S K:=k
instance c2N {l:List D}:Rdg (Bn.len.den [.lst l] S K) (K (.int l.length) S):=⟨c1A⟩
theorem c1C {l:List D} (k:K (.int l.length) S):Bn.len.den [.tup l] S K:=k
instance c2O {l:List D}:Rdg (Bn.len.den [.tup l] S K) (K (.int l.length) S):=⟨c1C⟩
theorem c1B {z:Str} (hz:z.length≤sizeLine) (k:K (.int z.length) S):Bn.len.den [.str z] S K:=⟨hz,k⟩
theorem b9P (k:K (.int (if i < 0 then -i else i)) S):Bn.abs.den [.int i] S K:=k
instance c1Y  : Rdg (Bn.abs.den [.int i] S K) (K (.int (if i < 0 then -i else i)) S):=⟨b9P⟩
theorem b4b {y C:Addr} {oe:Obj} {fs:List (Str × D)} {f:Str} (hm:G.m0=some (y,oe)) (hF:b09 G.K C) (hn:NoAttr G.K C f) (e:fs.lookup f=some d) (k:K d S):a9U G f (.exc y oe C fs) S K:=⟨hm,hF,hn,d,e,k⟩
theorem a1K {α:Type} {f:α→D} {l:List α} {k:Nat} {x:α} (h:l[k]?=some x):atI (l.map f) (k:Int)=some (f x):=by
 have hk:k < l.length:=by
  obtain ⟨z,_⟩:=List.getElem?_eq_some_iff.mp h
  exact z
 exact atI_nat (by rw [zbh,h];rfl)
end
section
variable {G:Gs} {δ:DS} {S:SS} {Y:XD'} {F:SE} {a b c e:RE} {r r2:RSs} {s:RS} {d:D}
theorem a8C (h:F.nx δ S):a0b G .nil δ S Y F:=by rw [a0b];exact h
instance b9m  : Rdg (a0b G .nil δ S Y F) (F.nx δ S):=⟨a8C⟩
theorem a4N (h:a0q G s δ S Y { F with nx:=fun δ1 S1=>a0b G r δ1 S1 Y F }):a0b G (.cons s r) δ S Y F:=by rw [a0b];exact h
instance b7T  : Rdg (a0b G (.cons s r) δ S Y F) (a0q G s δ S Y { F with nx:=fun δ1 S1=>a0b G r δ1 S1 Y F }):=⟨a4N⟩
theorem a3k (J:DS→SS→Prop) (h:a0q G s δ S Y { F with nx:=J }) (h2:∀ δ1 S1,J δ1 S1→a0b G r δ1 S1 Y F):a0b G (.cut s r) δ S Y F:=by rw [a0b];exact ⟨J,h,h2⟩
theorem b0W (h:den G.toGm e δ S Y fun _ S1=>F.nx δ S1):a0q G (.exp e) δ S Y F:=by rw [a0q];exact h
instance b9q  : Rdg (a0q G (.exp e) δ S Y F) (den G.toGm e δ S Y fun _ S1=>F.nx δ S1):=⟨b0W⟩
theorem b8k {i:Nat} (h:den G.toGm e δ S Y fun d S1=>F.nx (δ.set i (some d)) S1):a0q G (.asg [i] true e) δ S Y F:=by
 rw [a0q];exact ⟨(fun z=>nomatch z),h⟩
instance b9o {i:Nat}:Rdg (a0q G (.asg [i] true e) δ S Y F) (den G.toGm e δ S Y fun d S1=>F.nx (δ.set i (some d)) S1):=⟨b8k⟩
theorem b8l {i:Nat} (h:den G.toGm e δ S Y fun d S1=>F.nx (δ.set i (some d)) S1):a0q G (.asl i e) δ S Y F:=by rw [a0q];exact h
instance b9p {i:Nat}:Rdg (a0q G (.asl i e) δ S Y F) (den G.toGm e δ S Y fun d S1=>F.nx (δ.set i (some d)) S1):=⟨b8l⟩
theorem b8q (h:den G.toGm c δ S Y fun z S1=>den G.toGm a δ S1 Y fun x S2=>den G.toGm b δ S2 Y fun y S3=>a9j x y z S3 fun S4=>F.nx δ S4):a0q G (.sti a b c) δ S Y F:=by rw [a0q];exact h
instance b9w  : Rdg (a0q G (.sti a b c) δ S Y F) (den G.toGm c δ S Y fun z S1=>den G.toGm a δ S1 Y fun x S2=>den G.toGm b δ S2 Y fun y S3=>a9j x y z S3 fun S4=>F.nx δ S4):=⟨b8q⟩
theorem b3g {i:Nat} {op:Operator} (hx:δ[i]?=some (some d)) (h:den G.toGm e δ S Y fun y S1=>b1r op d y S1 fun z S2=>F.nx (δ.set i (some z)) S2):a0q G (.agv i op e) δ S Y F:=by rw [a0q];exact ⟨d,hx,h⟩
theorem b8j {op:Operator} (h:den G.toGm a δ S Y fun x S1=>den G.toGm b δ S1 Y fun y S2=>a6t x y S2 fun u S3=>den G.toGm e δ S3 Y fun w S4=>b1r op u w S4 fun z S5=>a9j x y z S5 fun S6=>F.nx δ S6):a0q G (.agi a b op e) δ S Y F:=by rw [a0q];exact h
instance b9n {op:Operator}:Rdg (a0q G (.agi a b op e) δ S Y F) (den G.toGm a δ S Y fun x S1=>den G.toGm b δ S1 Y fun y S2=>a6t x y S2 fun u S3=>den G.toGm e δ S3 Y fun w S4=>b1r op u w S4 fun z S5=>a9j x y z S5 fun S6=>F.nx δ S6):=⟨b8j⟩
theorem b8m (h:a0u G.toGm c δ S Y fun k S1=>if k=true then a0b G r δ S1 Y F else a0b G r2 δ S1 Y F):a0q G (.ifs c r r2) δ S Y F:=by rw [a0q];exact h
instance b9r  : Rdg (a0q G (.ifs c r r2) δ S Y F) (a0u G.toGm c δ S Y fun k S1=>if k=true then a0b G r δ S1 Y F else a0b G r2 δ S1 Y F):=⟨b8m⟩
theorem st_ret (h:den G.toGm e δ S Y F.rt):a0q G (.ret e) δ S Y F:=by rw [a0q];exact h
instance b9u  : Rdg (a0q G (.ret e) δ S Y F) (den G.toGm e δ S Y F.rt):=⟨st_ret⟩
theorem b5p (h:F.rt .non S):a0q G .retN δ S Y F:=by rw [a0q];exact h
instance b7U  : Rdg (a0q G .retN δ S Y F) (F.rt .non S):=⟨b5p⟩
theorem b8o (h:F.nx δ S):a0q G .pas δ S Y F:=by rw [a0q];exact h
instance b9t  : Rdg (a0q G .pas δ S Y F) (F.nx δ S):=⟨b8o⟩
theorem a3J {j:Nat} {es:RL} {kd:XKd} (hm:G.m0=none) (hk:G.xk j=some kd) (ha:es.len=kd.ar) (h:a0x G.toGm es δ S Y fun ds S1=>∃ fs,mkX kd ds=some fs∧Y (G.cl j) fs δ S1):a0q G (.rai j es) δ S Y F:=by rw [a0q];exact ⟨hm,kd,hk,ha,h⟩
theorem b0N {p:Addr} {l:List D} {i:Int} {j:Nat} {z:D} {K:SS→Prop} (h:S p=some (.lst l)) (e:ixN l.length i=some j) (k:K (S.set p (.lst (l.set j z)))):a9j (.obj p) (.int i) z S K:=by
 unfold a9j;simp only [h];exact ⟨i,j,rfl,e,k⟩
theorem c1l {p:Addr} {l:List D} {i:Int} {K:DK} (h:S p=some (.lst l)) (e:atI l i=some d) (k:K d S):a6t (.obj p) (.int i) S K:=by
 unfold a6t;simp only [h];exact ⟨i,d,rfl,e,k⟩
theorem c0D {i j:Int} {K:DK} (k:K (.int (i + j)) S):b1r .Add (.int i) (.int j) S K:=k
instance c10 {i j:Int} {K:DK}:Rdg (b1r .Add (.int i) (.int j) S K) (K (.int (i + j)) S):=⟨c0D⟩
end
end Sv
namespace Sv
open PySem PySem.Spec PyProof.Rows L2
section
variable {G:Gm} {δ:DS} {S:SS} {Y:XD'} {K:DK}
def LcK (G:Gm) (cell:Bool) (elt:RE) (tg:List Nat) (one:Bool) (c:RO) (own:List Nat) (δ:DS) (K:DK) (ds:List D) (ok:SS→Prop) (S1:SS):Prop :=
 ∀ p,S1 p=none→∃ Iv:Nat→SS→Prop,Iv 0 (S1.set p (.lst []))∧(∀ i S',Iv i S'→i≤ds.length→ok S') ∧
   (∀ i d S',ds[i]?=some d→Iv i S'→a2a tg one d (a7W δ own) S' fun δ2 S2=>a7b G c δ2 S2 noX fun b S3 =>
    if b=true then den G elt δ2 S3 noX fun y S4=>∃ acc,S4 p=some (.lst acc)∧acc.length < sizeLine∧Iv (i + 1) (S4.set p (.lst (acc ++ [y]))) else Iv (i + 1) S3) ∧
   (∀ S',Iv ds.length S'→∃ acc,S' p=some (.lst acc)∧if cell=true then K (.obj p) S' else K (.lst acc) (S'.del p))
theorem c5l {cell:Bool} {elt:RE} {tg:List Nat} {one:Bool} {it:RI} {c:RO} {own:List (Str × Nat)} (hm:G.m0=none) (h:a02 G it δ S Y fun ds ok S1=>LcK G cell elt tg one c (own.map (·.2)) δ K ds ok S1):den G (.lc cell elt tg one it c own) δ S Y K:=by
 rw [den];exact ⟨hm,h⟩
instance c30 {cell:Bool} {elt:RE} {tg:List Nat} {one:Bool} {it:RI} {c:RO} {own:List (Str × Nat)} [M:M0 G.m0]:Rdg (den G (.lc cell elt tg one it c own) δ S Y K) (a02 G it δ S Y fun ds ok S1=>LcK G cell elt tg one c (own.map (·.2)) δ K ds ok S1):=⟨c5l M.out⟩
theorem i_l {e:RE} {KI:List D→(SS→Prop)→SS→Prop} (h:den G e δ S Y fun d S1=>∃ ds,vw S1 d=.lst ds∧KI ds (fun S'=>vw S' d=.lst ds) S1):a02 G (.lst e) δ S Y KI:=by rw [a02];exact h
instance c6K {e:RE} {KI:List D→(SS→Prop)→SS→Prop}:Rdg (a02 G (.lst e) δ S Y KI) (den G e δ S Y fun d S1=>∃ ds,vw S1 d=.lst ds∧KI ds (fun S'=>vw S' d=.lst ds) S1):=⟨i_l⟩
theorem i_t {e:RE} {KI:List D→(SS→Prop)→SS→Prop} (h:den G e δ S Y fun d S1=>∃ ds,vw S1 d=.tup ds∧KI ds (fun S'=>True) S1):a02 G (.tup e) δ S Y KI:=by rw [a02];exact h
instance c6M {e:RE} {KI:List D→(SS→Prop)→SS→Prop}:Rdg (a02 G (.tup e) δ S Y KI) (den G e δ S Y fun d S1=>∃ ds,vw S1 d=.tup ds∧KI ds (fun S'=>True) S1):=⟨i_t⟩
theorem c5A {e:RE} {KI:List D→(SS→Prop)→SS→Prop} (h:den G e δ S Y fun d S1=>∃ j,d=.int j∧-(2 ^ 62)≤j∧j < 2 ^ 62∧KI (a7L 0 j.toNat) (fun _=>True) S1):a02 G (.rng1 e) δ S Y KI:=by rw [a02];exact h
instance c38 {e:RE} {KI:List D→(SS→Prop)→SS→Prop}:Rdg (a02 G (.rng1 e) δ S Y KI) (den G e δ S Y fun d S1=>∃ j,d=.int j∧-(2 ^ 62)≤j∧j < 2 ^ 62∧KI (a7L 0 j.toNat) (fun _=>True) S1):=⟨c5A⟩
theorem a2e {elt:RE} {tg:List Nat} {one:Bool} {c:RO} {own:List Nat} {ds:List D} {ok:SS→Prop} (f:D→D) (g:D→Bool) (hz:ds.length≤sizeLine) (hok:∀ acc p,S p=none→ok (S.set p (.lst acc)))
  (hs:∀ (p:Addr) (i:Nat) (acc:List D) (d:D) (KK:DK) (KN:SS→Prop),ds[i]?=some d→S p=none→(g d=true→KK (f d) (S.set p (.lst acc)))→(g d=false→KN (S.set p (.lst acc))) →
   a2a tg one d (a7W δ own) (S.set p (.lst acc)) fun δ2 S2=>a7b G c δ2 S2 noX fun b S3=>if b=true then den G elt δ2 S3 noX KK else KN S3)
  (hl:K (.lst ((ds.filter g).map f)) S):LcK G false elt tg one c own δ K ds ok S:=by
 intro p hp
 have hcl:∀ i,i < ds.length→(((ds.take i).filter g).map f).length < sizeLine:=fun i hi=>by
  rw [zag]
  have:=zbb g (ds.take i)
  rw [List.length_take] at this
  omega
 refine ⟨fun i S'=>S'=S.set p (.lst (((ds.take i).filter g).map f)),rfl,?_,?_,?_⟩
 ·rintro i S' rfl _
  exact hok _ p hp
 ·rintro i d S' hd rfl
  have hi:i < ds.length:=by
   obtain ⟨z,_⟩:=List.getElem?_eq_some_iff.mp hd
   exact z
  have et:ds.take (i + 1)=ds.take i ++ [d]:=by
   rw [List.take_add_one,hd];rfl
  refine hs p i _ d _ _ hd hp (fun hg=>⟨_,zab,hcl i hi,?_⟩) fun hg=>?_
  ·rw [zac]
   show _=S.set p (.lst (((ds.take (i + 1)).filter g).map f))
   rw [et,List.filter_append,zav]
   simp [hg]
  ·show _=S.set p (.lst (((ds.take (i + 1)).filter g).map f))
   rw [et,List.filter_append,zav]
   simp [hg]
 ·rintro S' rfl
  refine ⟨_,zab,?_⟩
  rw [if_neg zbe,zaf hp,List.take_length]
  exact hl
theorem b1c {KT:Bool→SS→Prop} (k:KT true S):a7b G .nn δ S Y KT:=by rw [a7b];exact k
theorem b2J {KT:Bool→SS→Prop} {e:RE} (k:a0u G e δ S Y KT):a7b G (.ss e) δ S Y KT:=by rw [a7b];exact k
theorem a1O {i:Nat} {d:D} {Q:DS→SS→Prop} (k:Q (δ.set i (some d)) S):a2a [i] true d δ S Q:=k
theorem a7v {a C:Addr} {oe:Obj} {fs:List (Str × D)} {cn:Cn} {b:Bool} {Q:Bool→Prop} (hm:G.m0=some (a,oe)) (hF:b09 G.K C) (hk:PySem.W.kitOne G.K (.ref C) (cn.val G)=some b) (k:Q b) :
  ∃ t b,tyD S (.exc a oe C fs)=some t∧a7d G S (.exc a oe C fs)∧PySem.W.kitOne G.K t (cn.val G)=some b∧Q b:=⟨_,b,rfl,⟨hm,hF⟩,hk,k⟩
end
section
variable {G:Gs} {δ:DS} {S:SS} {Y:XD'} {F:SE}
theorem c3n {tg:List Nat} {one:Bool} {it:RI} {b:RSs} (hm:G.m0=none) (h:a02 G.toGm it δ S Y fun ds ok S1=>∃ Iv:Nat→DS→SS→Prop,Iv 0 δ S1∧(∀ i δ' S',Iv i δ' S'→i≤ds.length→ok S') ∧
   (∀ i d δ' S',ds[i]?=some d→Iv i δ' S'→a2a tg one d δ' S' fun δ2 S2=>a0b G b δ2 S2 Y { F with nx:=Iv (i + 1),ct:=Iv (i + 1),bk:=F.nx })∧(∀ δ' S',Iv ds.length δ' S'→F.nx δ' S')):a0q G (.fr tg one it b) δ S Y F:=by
 rw [a0q];exact ⟨hm,h⟩
instance c26 {tg:List Nat} {one:Bool} {it:RI} {b:RSs} [M:M0 G.m0]:Rdg (a0q G (.fr tg one it b) δ S Y F) (a02 G.toGm it δ S Y fun ds ok S1=>∃ Iv:Nat→DS→SS→Prop,Iv 0 δ S1∧(∀ i δ' S',Iv i δ' S'→i≤ds.length→ok S') ∧
   (∀ i d δ' S',ds[i]?=some d→Iv i δ' S'→a2a tg one d δ' S' fun δ2 S2=>a0b G b δ2 S2 Y { F with nx:=Iv (i + 1),ct:=Iv (i + 1),bk:=F.nx })∧(∀ δ' S',Iv ds.length δ' S'→F.nx δ' S')):=⟨c3n M.out⟩
theorem b8r {b s:RSs} {j i:Nat} (hm:G.m0=none) (h:a0b G b δ S (fun C fs δ' S'=>∃ k,PySem.W.exmOne G.K (.ref C) (.ref (G.cl j))=some k ∧
   (k=true→∀ a oe,a0b (G.suite a oe) s (δ'.set i (some (.exc a oe C fs))) S' noX { F with nx:=fun δ2 S2=>F.nx (δ2.set i none) S2,bk:=fun δ2 S2=>F.bk (δ2.set i none) S2,ct:=fun δ2 S2=>F.ct (δ2.set i none) S2 }) ∧
   (k=false→Y C fs δ' S')) F):a0q G (.tra b j i s) δ S Y F:=by
 rw [a0q];exact ⟨hm,h⟩
instance b9x {b s:RSs} {j i:Nat} [M:M0 G.m0]:Rdg (a0q G (.tra b j i s) δ S Y F) (a0b G b δ S (fun C fs δ' S'=>∃ k,PySem.W.exmOne G.K (.ref C) (.ref (G.cl j))=some k ∧
   (k=true→∀ a oe,a0b (G.suite a oe) s (δ'.set i (some (.exc a oe C fs))) S' noX { F with nx:=fun δ2 S2=>F.nx (δ2.set i none) S2,bk:=fun δ2 S2=>F.bk (δ2.set i none) S2,ct:=fun δ2 S2=>F.ct (δ2.set i none) S2 }) ∧
   (k=false→Y C fs δ' S')) F):=⟨b8r M.out⟩
theorem b8t {b s:RSs} {j:Nat} (hm:G.m0=none) (h:a0b G b δ S (fun C fs δ' S'=>∃ k,PySem.W.exmOne G.K (.ref C) (.ref (G.cl j))=some k∧(k=true→∀ a oe,a0b (G.suite a oe) s δ' S' noX F)∧(k=false→Y C fs δ' S')) F):a0q G (.tro b j s) δ S Y F:=by
 rw [a0q];exact ⟨hm,h⟩
instance b9z {b s:RSs} {j:Nat} [M:M0 G.m0]:Rdg (a0q G (.tro b j s) δ S Y F) (a0b G b δ S (fun C fs δ' S'=>∃ k,PySem.W.exmOne G.K (.ref C) (.ref (G.cl j))=some k∧(k=true→∀ a oe,a0b (G.suite a oe) s δ' S' noX F)∧(k=false→Y C fs δ' S')) F):=⟨b8t M.out⟩
end
end Sv
namespace Sv
open PySem PySem.Spec PyProof.Rows L2
section
variable {G:Gm} {δ:DS} {S:SS} {Y:XD'} {K:DK} {KT:Bool→SS→Prop} {KL:List D→SS→Prop} {KP:List (D × D)→SS→Prop} {KI:List D→(SS→Prop)→SS→Prop} {a b c e:RE} {es:RL} {ps:RQ} {d x y:D} {i j:Int} {p:Addr} {m:Str} {cell:Bool}
theorem b6D (h:a0x G es δ S Y fun ds S1=>Bn.rpr.den ds S1 K):den G (.bi .rpr es) δ S Y K:=a6h trivial h
instance b9c  : Rdg (den G (.bi .rpr es) δ S Y K) (a0x G es δ S Y fun ds S1=>Bn.rpr.den ds S1 K):=⟨b6D⟩
theorem b6w (h:a0x G es δ S Y fun ds S1=>Bn.int.den ds S1 K):den G (.bi .int es) δ S Y K:=a6h trivial h
instance b85  : Rdg (den G (.bi .int es) δ S Y K) (a0x G es δ S Y fun ds S1=>Bn.int.den ds S1 K):=⟨b6w⟩
theorem b6z (h:a0x G es δ S Y fun ds S1=>(Bn.lst cell).den ds S1 K):den G (.bi (.lst cell) es) δ S Y K:=a6h trivial h
instance b88  : Rdg (den G (.bi (.lst cell) es) δ S Y K) (a0x G es δ S Y fun ds S1=>(Bn.lst cell).den ds S1 K):=⟨b6z⟩
theorem b6J (h:a0x G es δ S Y fun ds S1=>Bn.tup.den ds S1 K):den G (.bi .tup es) δ S Y K:=a6h trivial h
instance b9i  : Rdg (den G (.bi .tup es) δ S Y K) (a0x G es δ S Y fun ds S1=>Bn.tup.den ds S1 K):=⟨b6J⟩
theorem b6v (h:a0x G es δ S Y fun ds S1=>(Bn.dic cell).den ds S1 K):den G (.bi (.dic cell) es) δ S Y K:=a6h trivial h
instance b84  : Rdg (den G (.bi (.dic cell) es) δ S Y K) (a0x G es δ S Y fun ds S1=>(Bn.dic cell).den ds S1 K):=⟨b6v⟩
theorem b6G (hm:G.m0=none) (h:a0x G es δ S Y fun ds S1=>(Bn.srt cell).den ds S1 K):den G (.bi (.srt cell) es) δ S Y K:=a6h hm h
instance b9f  [M:M0 G.m0]:Rdg (den G (.bi (.srt cell) es) δ S Y K) (a0x G es δ S Y fun ds S1=>(Bn.srt cell).den ds S1 K):=⟨b6G M.out⟩
theorem b3L {b:Mn} (h:den G a δ S Y fun x S1=>b.rc x S1∧a0x G es δ S1 Y fun ds S2=>b.den x ds S2 K):den G (.mth b a es) δ S Y K:=by rw [den];exact h
instance c2r {b:Mn}:Rdg (den G (.mth b a es) δ S Y K) (den G a δ S Y fun x S1=>b.rc x S1∧a0x G es δ S1 Y fun ds S2=>b.den x ds S2 K):=⟨b3L⟩
theorem c3w {b:Mn} (h:den G a δ S Y fun x S1=>b.rc x S1∧a0x G es δ S1 Y fun ds S2=>b.den x ds S2 fun d S3=>a1v d S3 fun b=>KT b S3):a0u G (.mth b a es) δ S Y KT:=by rw [a0u];exact h
instance c3c {b:Mn}:Rdg (a0u G (.mth b a es) δ S Y KT) (den G a δ S Y fun x S1=>b.rc x S1∧a0x G es δ S1 Y fun ds S2=>b.den x ds S2 fun d S3=>a1v d S3 fun b=>KT b S3):=⟨c3w⟩
theorem a4l {j:Nat} {T:TR} (hT:G.fn G.m0.isSome j=some T) (h:den G a δ S Y fun x S1=>∃ p,omD G j m x S1 p∧a0x G es δ S1 Y fun ds S2=>T G.m0 (.obj p :: ds) S2 K fun C fs S'=>Y C fs δ S'):den G (.om j m a es) δ S Y K:=by rw [den];exact ⟨T,hT,h⟩
theorem a4A {j:Nat} {fs:List (Str × D)} {Q:Addr→Prop} (at_p:S p=some (.ins (G.mc j) fs)) (free:fs.lookup m=none) (q:Q p):∃ p',omD G j m (.obj p) S p'∧Q p':=⟨p,⟨rfl,fs,at_p,free⟩,q⟩
theorem c5m {j:Nat} {T:TR} (hm:G.m0=none) (hT:G.fn false j=some T) (h:a0x G es δ S Y fun ds S1=>∀ p,S1 p=none→T none (.obj p :: ds) (S1.set p (.ins (G.mc j) [])) (fun d S'=>d=.non∧K (.obj p) S') fun C fs S'=>Y C fs δ S'):den G (.mk j es) δ S Y K:=by rw [den];exact ⟨hm,T,hT,h⟩
theorem b6o {kvs:List (Key × D)} (at_p:S p=some (.dic kvs)) (h:den G e δ (S.set p (.loc kvs)) Y fun d S'=>K d (S'.set p (.dic kvs))):den G (.lck e) δ S Y K:=by rw [den];exact ⟨p,kvs,at_p,h⟩
theorem b6u (hm:G.m0=none) (h:a0x G es δ S Y fun ds S1=>(Bn.dcp cell).den ds S1 K):den G (.bi (.dcp cell) es) δ S Y K:=a6h hm h
instance b83  [M:M0 G.m0]:Rdg (den G (.bi (.dcp cell) es) δ S Y K) (a0x G es δ S Y fun ds S1=>(Bn.dcp cell).den ds S1 K):=⟨b6u M.out⟩
theorem b6t (hm:G.m0=none) (h:a0x G es δ S Y fun ds S1=>Bn.all.den ds S1 K):den G (.bi .all es) δ S Y K:=a6h hm h
instance b82  [M:M0 G.m0]:Rdg (den G (.bi .all es) δ S Y K) (a0x G es δ S Y fun ds S1=>Bn.all.den ds S1 K):=⟨b6t M.out⟩
theorem b6I (hm:G.m0=none) (h:a0x G es δ S Y fun ds S1=>Bn.sum.den ds S1 K):den G (.bi .sum es) δ S Y K:=a6h hm h
instance b9h  [M:M0 G.m0]:Rdg (den G (.bi .sum es) δ S Y K) (a0x G es δ S Y fun ds S1=>Bn.sum.den ds S1 K):=⟨b6I M.out⟩
theorem b6y (hm:G.m0=none) (h:a0x G es δ S Y fun ds S1=>(Bn.lsk cell).den ds S1 K):den G (.bi (.lsk cell) es) δ S Y K:=a6h hm h
instance b87  [M:M0 G.m0]:Rdg (den G (.bi (.lsk cell) es) δ S Y K) (a0x G es δ S Y fun ds S1=>(Bn.lsk cell).den ds S1 K):=⟨b6y M.out⟩
theorem b6B (hm:G.m0=none) (h:a0x G es δ S Y fun ds S1=>Bn.min.den ds S1 K):den G (.bi .min es) δ S Y K:=a6h hm h
instance b9a  [M:M0 G.m0]:Rdg (den G (.bi .min es) δ S Y K) (a0x G es δ S Y fun ds S1=>Bn.min.den ds S1 K):=⟨b6B M.out⟩
theorem b6A (hm:G.m0=none) (h:a0x G es δ S Y fun ds S1=>Bn.max.den ds S1 K):den G (.bi .max es) δ S Y K:=a6h hm h
instance b89  [M:M0 G.m0]:Rdg (den G (.bi .max es) δ S Y K) (a0x G es δ S Y fun ds S1=>Bn.max.den ds S1 K):=⟨b6A M.out⟩
theorem b6H (h:a0x G es δ S Y fun ds S1=>Bn.str.den ds S1 K):den G (.bi .str es) δ S Y K:=a6h trivial h
instance b9g  : Rdg (den G (.bi .str es) δ S Y K) (a0x G es δ S Y fun ds S1=>Bn.str.den ds S1 K):=⟨b6H⟩
theorem c6y {kvs:List (Key × D)}:a8d (.dic kvs) S:=.inl ⟨kvs,rfl⟩
theorem b2m {kvs:List (Key × D)} (h:S p=some (.dic kvs)):a8d (.obj p) S:=.inr ⟨p,kvs,rfl,h⟩
theorem b4O {ds:List D} (k:K (.lst ds) S):∃ cell,outL cell ds S K:=⟨false,by unfold outL;rw [if_neg zbe];exact k⟩
instance b7R {ds:List D}:Rdg (∃ cell,outL cell ds S K) (K (.lst ds) S):=⟨b4O⟩
theorem b6q (hm:G.m0=none) (h:den G a δ S Y fun x S1=>∃ zs:List Str,vw S1 x=.lst (zs.map D.str)∧(zs.length < 64∨((uniq zs).length < 64∧zs.length < 1000))∧∃ cell,outL cell ((a0l (uniq zs)).map D.str) S1 K):den G (.ofs true a) δ S Y K:=by rw [den];exact ⟨hm,h⟩
instance b80  [M:M0 G.m0]:Rdg (den G (.ofs true a) δ S Y K) (den G a δ S Y fun x S1=>∃ zs:List Str,vw S1 x=.lst (zs.map D.str)∧(zs.length < 64∨((uniq zs).length < 64∧zs.length < 1000))∧∃ cell,outL cell ((a0l (uniq zs)).map D.str) S1 K):=⟨b6q M.out⟩
theorem c08 (hm:G.m0=none) (h:den G a δ S Y fun x S1=>∃ zs:List Int,vw S1 x=.lst (zs.map D.int)∧zs.length < 64∧∀ ns:List Int,ns.Pairwise (· < ·)→(∀ k,k∈ns↔k∈zs)→K (.lst (ns.map D.int)) S1):den G (.ofi a) δ S Y K:=by rw [den];exact ⟨hm,h⟩
instance c2u  [M:M0 G.m0]:Rdg (den G (.ofi a) δ S Y K) (den G a δ S Y fun x S1=>∃ zs:List Int,vw S1 x=.lst (zs.map D.int)∧zs.length < 64∧∀ ns:List Int,ns.Pairwise (· < ·)→(∀ k,k∈ns↔k∈zs)→K (.lst (ns.map D.int)) S1):=⟨c08 M.out⟩
theorem b6p (hm:G.m0=none) (h:den G a δ S Y fun x S1=>∃ zs:List Str,vw S1 x=.lst (zs.map D.str)∧(zs.length < 64∨((uniq zs).length < 64∧zs.length < 1000))∧K (.int ((uniq zs).length:Nat)) S1):den G (.ofs false a) δ S Y K:=by rw [den];exact ⟨hm,h⟩
instance b8Z  [M:M0 G.m0]:Rdg (den G (.ofs false a) δ S Y K) (den G a δ S Y fun x S1=>∃ zs:List Str,vw S1 x=.lst (zs.map D.str)∧(zs.length < 64∨((uniq zs).length < 64∧zs.length < 1000))∧K (.int ((uniq zs).length:Nat)) S1):=⟨b6p M.out⟩
theorem c1f (hm:G.m0=none) (h:den G a δ S Y fun x S1=>∃ p kvs,x=.obj p∧S1 p=some (.dic kvs)∧outL cell (kvs.map (·.2)) S1 K):den G (.vls cell a) δ S Y K:=by rw [den];exact ⟨hm,h⟩
instance c2C  [M:M0 G.m0]:Rdg (den G (.vls cell a) δ S Y K) (den G a δ S Y fun x S1=>∃ p kvs,x=.obj p∧S1 p=some (.dic kvs)∧outL cell (kvs.map (·.2)) S1 K):=⟨c1f M.out⟩
theorem c1b (h:den G a δ S Y fun x S1=>∃ ds,vw S1 x=.lst ds∧outL cell ds.reverse S1 K):den G (.rev cell a) δ S Y K:=by rw [den];exact h
instance c2x  : Rdg (den G (.rev cell a) δ S Y K) (den G a δ S Y fun x S1=>∃ ds,vw S1 x=.lst ds∧outL cell ds.reverse S1 K):=⟨c1b⟩
theorem b6n (h:∀ p,S p=none→a7c G ps δ (S.set p (.dic [])) Y fun ks S2=>S2 p=some (.dic [])∧∃ kvs,a99 ks=some kvs∧kvs.length≤15∧if cell=true then K (.obj p) (S2.set p (.dic (a0L [] kvs))) else K (.dic (a0L [] kvs)) (S2.del p)):den G (.dct cell ps) δ S Y K:=by rw [den];exact h
theorem a2S (k:∀ p,S p=none→K (.obj p) (S.set p (.dic []))):den G (.dct true .nil) δ S Y K:=b6n fun p free=>by
 rw [a7c]
 exact ⟨zab,[],rfl,by decide,by rw [if_pos rfl,zac];exact k p free⟩
theorem c1O (k:KP [] S):a7c G .nil δ S Y KP:=by rw [a7c];exact k
instance c20  : Rdg (a7c G .nil δ S Y KP) (KP [] S):=⟨c1O⟩
theorem b7y {kx vx:RE} (h:den G kx δ S Y fun x S1=>den G vx δ S1 Y fun y S2=>a7c G ps δ S2 Y fun r S3=>KP ((x,y) :: r) S3):a7c G (.cons kx vx ps) δ S Y KP:=by rw [a7c];exact h
instance b9l {kx vx:RE}:Rdg (a7c G (.cons kx vx ps) δ S Y KP) (den G kx δ S Y fun x S1=>den G vx δ S1 Y fun y S2=>a7c G ps δ S2 Y fun r S3=>KP ((x,y) :: r) S3):=⟨b7y⟩
theorem i_s (h:den G e δ S Y fun d S1=>∃ z,d=.str z∧KI (a1n z) (fun _=>True) S1):a02 G (.str e) δ S Y KI:=by rw [a02];exact h
instance c6L  : Rdg (a02 G (.str e) δ S Y KI) (den G e δ S Y fun d S1=>∃ z,d=.str z∧KI (a1n z) (fun _=>True) S1):=⟨i_s⟩
theorem i_k (h:den G e δ S Y fun d S1=>∃ a kvs,d=.obj a∧S1 a=some (.loc kvs)∧KI (kvs.map fun kv=>keyV kv.1) (fun _=>True) S1):a02 G (.keys e) δ S Y KI:=by rw [a02];exact h
instance c6J  : Rdg (a02 G (.keys e) δ S Y KI) (den G e δ S Y fun d S1=>∃ a kvs,d=.obj a∧S1 a=some (.loc kvs)∧KI (kvs.map fun kv=>keyV kv.1) (fun _=>True) S1):=⟨i_k⟩
theorem c5B {t1 t2:Bool} {a b:RE} (h:den G a δ S Y fun d S1=>den G b δ S1 Y fun d2 S2=>∃ xs ys,d=sqv t1 xs∧d2=sqv t2 ys∧KI (a2B xs ys) (fun _=>True) S2):a02 G (.zip t1 t2 a b) δ S Y KI:=by rw [a02];exact h
instance c39 {t1 t2:Bool} {a b:RE}:Rdg (a02 G (.zip t1 t2 a b) δ S Y KI) (den G a δ S Y fun d S1=>den G b δ S1 Y fun d2 S2=>∃ xs ys,d=sqv t1 xs∧d2=sqv t2 ys∧KI (a2B xs ys) (fun _=>True) S2):=⟨c5B⟩
theorem c5y (h:den G e δ S Y fun d S1=>∃ ds,d=.tup ds∧KI (a2b ds) (fun _=>True) S1):a02 G (.enumt e) δ S Y KI:=by rw [a02];exact h
instance c36  : Rdg (a02 G (.enumt e) δ S Y KI) (den G e δ S Y fun d S1=>∃ ds,d=.tup ds∧KI (a2b ds) (fun _=>True) S1):=⟨c5y⟩
theorem i_e (h:den G e δ S Y fun d S1=>∃ ds,vw S1 d=.lst ds∧KI (a2b ds) (fun S'=>vw S' d=.lst ds) S1):a02 G (.enum e) δ S Y KI:=by rw [a02];exact h
instance c6I  : Rdg (a02 G (.enum e) δ S Y KI) (den G e δ S Y fun d S1=>∃ ds,vw S1 d=.lst ds∧KI (a2b ds) (fun S'=>vw S' d=.lst ds) S1):=⟨i_e⟩
theorem c5z (h:den G e δ S Y fun d S1=>∃ a kvs,d=.obj a∧S1 a=some (.loc kvs)∧KI (kvs.map fun kv=>.tup [keyV kv.1,kv.2]) (fun _=>True) S1):a02 G (.items e) δ S Y KI:=by rw [a02];exact h
instance c37  : Rdg (a02 G (.items e) δ S Y KI) (den G e δ S Y fun d S1=>∃ a kvs,d=.obj a∧S1 a=some (.loc kvs)∧KI (kvs.map fun kv=>.tup [keyV kv.1,kv.2]) (fun _=>True) S1):=⟨c5z⟩
theorem b8v {z:Str} {Q:Str→Prop} (k:Q z):∃ w,D.str z=.str w∧Q w:=⟨z,rfl,k⟩
instance b9A {z:Str} {Q:Str→Prop}:Rdg (∃ w,D.str z=.str w∧Q w) (Q z):=⟨b8v⟩
theorem a3O {ds:List D} (h:S p=some (.lst ds)) (few:ds.length < sizeLine) (k:K .non (S.set p (.lst (ds ++ [d])))):Mn.app.den (.obj p) [d] S K:=⟨ds,h,few,k⟩
theorem a88 {ds:List D} (h:S p=some (.lst ds)):a2V (.obj p) S:=⟨ds,a8H h⟩
theorem b8T {kvs:List (Key × D)} (h:S p=some (.dic kvs)):a5p (.obj p) S:=⟨p,kvs,rfl,h⟩
theorem c3X {z:Str}:a6x (.str z):=⟨z,rfl⟩
theorem b5h {z:Str} {P:Prop} (k:P):Mn.join.rc (.str z) S∧P:=⟨c3X,k⟩
instance b7S {z:Str} {P:Prop}:Rdg (Mn.join.rc (.str z) S∧P) (P):=⟨b5h⟩
theorem b2l {z:Str} {P:Prop} (k:P):Mn.upper.rc (.str z) S∧P:=⟨c3X,k⟩
instance b5E {z:Str} {P:Prop}:Rdg (Mn.upper.rc (.str z) S∧P) (P):=⟨b2l⟩
theorem b7c {z:Str} {zs:List Str} (few:(zs.map (·.length)).sum + zs.length * z.length≤16777216) (k:K (.str (Txt.join z zs)) S):Mn.join.den (.str z) [.lst (zs.map D.str)] S K:=⟨zs,.inl rfl,few,k⟩
theorem b71 {zs:List Str} (few:zs.length < 64) (k:K (.lst ((a0l zs).map D.str)) S):(Bn.srt false).den [.lst (zs.map D.str)] S K:=⟨zs,.inl rfl,few,by unfold outL;rw [if_neg zbe];exact k⟩
theorem b0U {zs:List Str} {kvs:List (Key × D)} (h:S p=some (.dic kvs)) (keys:kvs.map (·.1)=zs.map Sum.inr) (few:zs.length < 64) (k:K (.lst ((a0l zs).map D.str)) S):(Bn.srt false).den [.obj p] S K :=
 ⟨zs,.inr ⟨kvs,b3i h,keys⟩,few,by unfold outL;rw [if_neg zbe];exact k⟩
theorem c1F {ds:List D} (k:K (.lst ds) S):(Bn.lst false).den [.lst ds] S K:=⟨ds,.inl rfl,by rw [if_neg zbe];exact k⟩
instance c2Q {ds:List D}:Rdg ((Bn.lst false).den [.lst ds] S K) (K (.lst ds) S):=⟨c1F⟩
theorem c1w {b:Bool} (k:K (.int (if b then 1 else 0)) S):Bn.int.den [.bl b] S K:=k
instance c2G {b:Bool}:Rdg (Bn.int.den [.bl b] S K) (K (.int (if b then 1 else 0)) S):=⟨c1w⟩
theorem b7e {kvs:List (Key × D)} (h:S p=some (.dic kvs)) (k:K (.int kvs.length) S):Bn.len.den [.obj p] S K:=by
 show b4u [.obj p] S K;unfold b4u;simp only [b3i h];exact k
theorem c1X {q:PyData} (h:pdS S d=some q) (s:b3w q) (k:K (.str q.shown) S):Bn.rpr.den [d] S K:=⟨q,.inl ⟨.inl h,s⟩,k⟩
theorem a1I {kvs:List (Key × D)} {key:Key} (h:S p=some (.dic kvs)) (hk:keyD y=some key) (e:valD kvs key=some d) (k:K d S):ixD (.obj p) y S K:=by
 unfold ixD;rw [b3i h];exact ⟨key,d,hk,e,k⟩
theorem c7S {p:Addr} {kvs:List (Key × D)} (h:S p=some (.loc kvs)):vw S (.obj p)=.dic kvs:=by simp only [vw,h]
theorem b5C {kvs:List (Key × D)} {key:Key} (h:S p=some (.loc kvs)) (hk:keyD y=some key) (e:valD kvs key=some d) (k:K d S):ixD (.obj p) y S K:=by
 unfold ixD;rw [c7S h];exact ⟨key,d,hk,e,k⟩
theorem c1y {kvs:List (Key × D)} {key:Key} (hk:keyD y=some key) (e:valD kvs key=some d) (k:K d S):ixD (.dic kvs) y S K:=⟨key,d,hk,e,k⟩
theorem b4j {kvs:List (Key × D)} {key:Key} (h:S p=some (.dic kvs)) (hk:keyD x=some key) (k:K (.bl (valD kvs key).isSome) S):a0I .In x (.obj p) S K:=by
 show a5l false x (.obj p) S K;unfold a5l;rw [b3i h];exact ⟨key,hk,by rw [Bool.false_xor];exact k⟩
theorem a82 {kvs:List (Key × D)} {key:Key} (h:S p=some (.dic kvs)) (hk:keyD x=some key) (k:K (.bl (!(valD kvs key).isSome)) S):a0I .NotIn x (.obj p) S K:=by
 show a5l true x (.obj p) S K;unfold a5l;rw [b3i h];exact ⟨key,hk,by rw [Bool.true_xor];exact k⟩
theorem a2k (z:Str):∀ zs:List Str,((zs.map D.str).any fun w=>D.eqv w (.str z))=decide (z∈zs)
 | []=>rfl
 | w :: zs=>by
  rw [zax,List.any_cons,a2k z zs]
  have e:D.eqv (.str w) (.str z)=decide (w=z):=by
   simp only [D.eqv,D.py,PyData.eqv]
   rw [Bool.eq_iff_iff];simp
  rw [e,Bool.eq_iff_iff]
  simp only [Bool.or_eq_true,zah,zau]
  exact or_congr ⟨Eq.symm,Eq.symm⟩ Iff.rfl
def fine (z:Str):Bool:=PyData.strOk z
theorem a1F (n:Nat):∀ zs:List Str,(∀ z∈zs,fine z=true)→D.okds n (zs.map D.str)=true
 | [],_=>rfl
 | z :: zs,h=>by
  simp only [zax,D.okds,D.okd,zak]
  exact ⟨h z zal,a1F n zs fun w hw=>h w (zao _ hw)⟩
theorem b68 {z:Str} {zs:List Str} (hz:fine z=true) (hs:∀ w∈zs,fine w=true) (k:K (.bl (decide (z∈zs))) S):a0I .In (.str z) (.lst (zs.map D.str)) S K:=by
 show a5l false (.str z) (.lst (zs.map D.str)) S K
 exact ⟨hz,a1F _ zs hs,by rw [Bool.false_xor,show vw S (.str z)=.str z from rfl,a2k];exact k⟩
theorem a83 {z:Str} {zs:List Str} (hz:fine z=true) (hs:∀ w∈zs,fine w=true) (k:K (.bl (!decide (z∈zs))) S):a0I .NotIn (.str z) (.lst (zs.map D.str)) S K:=by
 show a5l true (.str z) (.lst (zs.map D.str)) S K
 exact ⟨hz,a1F _ zs hs,by rw [Bool.true_xor,show vw S (.str z)=.str z from rfl,a2k];exact k⟩
theorem flat_strs:∀ zs:List Str,(zs.map D.str).all a2d=true
 | []=>rfl
 | _ :: zs=>by rw [zax,List.all_cons,flat_strs zs];rfl
theorem c1t {z:Str} {zs:List Str} (k:K (.bl (decide (z∈zs))) S):a0I .In (.str z) (.tup (zs.map D.str)) S K:=by
 show a5l false (.str z) (.tup (zs.map D.str)) S K
 exact .inl ⟨rfl,flat_strs zs,by rw [Bool.false_xor,a2k];exact k⟩
instance c4b {z:Str} {zs:List Str}:Rdg (a0I .In (.str z) (.tup (zs.map D.str)) S K) (K (.bl (decide (z∈zs))) S):=⟨c1t⟩
theorem c1J {z:Str} {zs:List Str} (k:K (.bl (!decide (z∈zs))) S):a0I .NotIn (.str z) (.tup (zs.map D.str)) S K:=by
 show a5l true (.str z) (.tup (zs.map D.str)) S K
 exact .inl ⟨rfl,flat_strs zs,by rw [Bool.true_xor,a2k];exact k⟩
instance c2U {z:Str} {zs:List Str}:Rdg (a0I .NotIn (.str z) (.tup (zs.map D.str)) S K) (K (.bl (!decide (z∈zs))) S):=⟨c1J⟩
theorem c5C {z:Str} {c:Nat} (k:K (.bl (decide (c∈z.cps.toList))) S):a0I .In (.str ⟨#[c]⟩) (.str z) S K:=by
 show a5l false (.str ⟨#[c]⟩) (.str z) S K
 exact ⟨c,rfl,by rw [Bool.false_xor];exact k⟩
instance c4a {z:Str} {c:Nat}:Rdg (a0I .In (.str ⟨#[c]⟩) (.str z) S K) (K (.bl (decide (c∈z.cps.toList))) S):=⟨c5C⟩
theorem c1I {z:Str} {c:Nat} (k:K (.bl (!decide (c∈z.cps.toList))) S):a0I .NotIn (.str ⟨#[c]⟩) (.str z) S K:=by
 show a5l true (.str ⟨#[c]⟩) (.str z) S K
 exact ⟨c,rfl,by rw [Bool.true_xor];exact k⟩
instance c2T {z:Str} {c:Nat}:Rdg (a0I .NotIn (.str ⟨#[c]⟩) (.str z) S K) (K (.bl (!decide (c∈z.cps.toList))) S):=⟨c1I⟩
theorem c0I {z w:Str} (k:K (.bl (decide (z=w))) S):a0I .Eq (.str z) (.str w) S K:=.inr (.inl ⟨z,w,rfl,rfl,by rw [Bool.false_xor];exact k⟩)
instance c15 {z w:Str}:Rdg (a0I .Eq (.str z) (.str w) S K) (K (.bl (decide (z=w))) S):=⟨c0I⟩
theorem c0R {z w:Str} (k:K (.bl (!decide (z=w))) S):a0I .NotEq (.str z) (.str w) S K:=.inr (.inl ⟨z,w,rfl,rfl,by rw [Bool.true_xor];exact k⟩)
instance c2e {z w:Str}:Rdg (a0I .NotEq (.str z) (.str w) S K) (K (.bl (!decide (z=w))) S):=⟨c0R⟩
theorem c0M (k:K (.bl (isNon x)) S):a0I .Is x .non S K:=by show cIs false x .non S K;unfold cIs;rw [Bool.false_xor];exact k
instance c2a  : Rdg (a0I .Is x .non S K) (K (.bl (isNon x)) S):=⟨c0M⟩
theorem b6e (k:K (.bl (!isNon x)) S):a0I .IsNot x .non S K:=by show cIs true x .non S K;unfold cIs;rw [Bool.true_xor];exact k
instance b8V  : Rdg (a0I .IsNot x .non S K) (K (.bl (!isNon x)) S):=⟨b6e⟩
theorem c0L {a b:Bool} (k:K (.bl (decide (a=b))) S):a0I .Is (.bl a) (.bl b) S K:=by show cIs false (.bl a) (.bl b) S K;unfold cIs;exact ⟨a,rfl,by rw [Bool.false_xor];exact k⟩
instance c19 {a b:Bool}:Rdg (a0I .Is (.bl a) (.bl b) S K) (K (.bl (decide (a=b))) S):=⟨c0L⟩
theorem b6d {a b:Bool} (k:K (.bl (!decide (a=b))) S):a0I .IsNot (.bl a) (.bl b) S K:=by show cIs true (.bl a) (.bl b) S K;unfold cIs;exact ⟨a,rfl,by rw [Bool.true_xor];exact k⟩
instance b8U {a b:Bool}:Rdg (a0I .IsNot (.bl a) (.bl b) S K) (K (.bl (!decide (a=b))) S):=⟨b6d⟩
theorem c5v:∀ zs:List D,D.eqv (.lst zs) (.lst [])=zs.isEmpty
 | []=>rfl
 | _ :: _=>by simp only [D.eqv,D.py,D.pys,PyData.eqv,PyData.eqvAll];rfl
theorem b6c {zs:List Str} (hs:∀ w∈zs,fine w=true) (k:K (.bl (!zs.isEmpty)) S):a0I .NotEq (.lst (zs.map D.str)) (.lst []) S K :=
 c0S (by show D.okd 60 (.lst (zs.map D.str))=true;simp only [D.okd,zak];exact ⟨rfl,a1F _ zs hs⟩) rfl (by
  rw [show vw S (.lst (zs.map D.str))=.lst (zs.map D.str) from rfl,show vw S (.lst [])=.lst [] from rfl,c5v,List.isEmpty_map];exact k)
theorem a1k {C:Addr} {fs:List (Str × D)} {f:Str} (h:S p=some (.ins C fs)) (cl:Cls G.K C) (na:NoAttr G.K C f) (e:fs.lookup f=some d) (k:K d S):a9U G f (.obj p) S K:=⟨C,fs,d,h,cl,na,e,k⟩
theorem a94 {cn:Cn} {t:Value} {b:Bool} {Q:Bool→Prop} (ht:tyD S d=some t) (ok:a7d G S d) (hk:PySem.W.kitOne G.K t (cn.val G)=some b) (k:Q b):∃ t b,tyD S d=some t∧a7d G S d∧PySem.W.kitOne G.K t (cn.val G)=some b∧Q b:=⟨t,b,ht,ok,hk,k⟩
end
section
variable {G:Gs} {δ:DS} {S:SS} {Y:XD'} {F:SE} {a b c e:RE} {es:RL} {s:RS} {d x y:D} {p:Addr} {K:SS→Prop}
theorem b8s {i j l:Nat} (hm:G.m0=none) (h:a0x G.toGm es δ S Y fun ds S1=>∃ u v w,ds=[u,v,w]∧F.nx (((δ.set i (some u)).set j (some v)).set l (some w)) S1):a0q G (.tri i j l es) δ S Y F:=by rw [a0q];exact ⟨hm,h⟩
instance b9y {i j l:Nat} [M:M0 G.m0]:Rdg (a0q G (.tri i j l es) δ S Y F) (a0x G.toGm es δ S Y fun ds S1=>∃ u v w,ds=[u,v,w]∧F.nx (((δ.set i (some u)).set j (some v)).set l (some w)) S1):=⟨b8s M.out⟩
theorem b2x {a b c:D} {Q:D→D→D→Prop} (k:Q a b c):∃ u v w,[a,b,c]=[u,v,w]∧Q u v w:=⟨a,b,c,rfl,k⟩
instance b5F {a b c:D} {Q:D→D→D→Prop}:Rdg (∃ u v w,[a,b,c]=[u,v,w]∧Q u v w) (Q a b c):=⟨b2x⟩
theorem b8n {i j:Nat} (hm:G.m0=none) (h:a0x G.toGm es δ S Y fun ds S1=>∃ v w,ds=[v,w]∧F.nx ((δ.set i (some v)).set j (some w)) S1):a0q G (.par i j es) δ S Y F:=by rw [a0q];exact ⟨hm,h⟩
instance b9s {i j:Nat} [M:M0 G.m0]:Rdg (a0q G (.par i j es) δ S Y F) (a0x G.toGm es δ S Y fun ds S1=>∃ v w,ds=[v,w]∧F.nx ((δ.set i (some v)).set j (some w)) S1):=⟨b8n M.out⟩
theorem b8G {Q:D→D→Prop} (k:Q x y):∃ v w,[x,y]=[v,w]∧Q v w:=⟨x,y,rfl,k⟩
instance b9E {Q:D→D→Prop}:Rdg (∃ v w,[x,y]=[v,w]∧Q v w) (Q x y):=⟨b8G⟩
theorem a5z {kvs:List (Key × D)} (at_p:S p=some (.dic kvs)) (h:a0q G s δ (S.set p (.loc kvs)) Y (F.unlock p kvs)):a0q G (.lck s) δ S Y F:=by rw [a0q];exact ⟨p,kvs,at_p,h⟩
theorem b8p {f:Str} (h:den G.toGm c δ S Y fun z S1=>den G.toGm a δ S1 Y fun x S2=>∃ p C fs,x=.obj p∧S2 p=some (.ins C fs)∧Cls G.K C∧NoAttr G.K C f∧fs.length < 1000∧F.nx δ (S2.set p (.ins C (a6Q f z fs)))):a0q G (.stf a f c) δ S Y F:=by rw [a0q];exact h
instance b9v {f:Str}:Rdg (a0q G (.stf a f c) δ S Y F) (den G.toGm c δ S Y fun z S1=>den G.toGm a δ S1 Y fun x S2=>∃ p C fs,x=.obj p∧S2 p=some (.ins C fs)∧Cls G.K C∧NoAttr G.K C f∧fs.length < 1000∧F.nx δ (S2.set p (.ins C (a6Q f z fs)))):=⟨b8p⟩
theorem a3i {kvs:List (Key × D)} {key:Key} {z:D} (h:S p=some (.dic kvs)) (hk:keyD y=some key) (few:kvs.length < sizeLine) (k:K (S.set p (.dic (putD kvs key z)))):a9j (.obj p) y z S K:=by
 unfold a9j;simp only [h];exact ⟨key,hk,few,k⟩
end
def a0g {α:Type} (f:α→D) (l:List (Str × α)):List (Key × D):=l.map fun q=>(.inr q.1,f q.2)
section
variable {α:Type} {f:α→D} {l:List (Str × α)} {z:Str}
theorem a4x:(a0g f l).map (·.1)=(l.map (·.1)).map Sum.inr:=by unfold a0g;rw [zat,zat];rfl
theorem a0p:(a0g f l).length=l.length:=by unfold a0g;rw [zag]
theorem a0s:valD (a0g f l) (.inr z)=(l.lookup z).map f:=by
 unfold valD a0g
 induction l with
 | nil=>rfl
 | cons q l ih =>
  obtain ⟨k,v⟩:=q
  rw [zax,List.find?_cons,List.lookup_cons]
  by_cases e:k=z
  ·subst e
   simp
  ·have e1:(z == k)=false:=by rw [beq_eq_false_iff_ne];exact fun h=>e h.symm
   have e2:decide ((Sum.inr k:Key)=Sum.inr z)=false:=by simpa using e
   rw [e1,e2]
   exact ih
theorem lookup_some:(l.lookup z).isSome=decide (z∈l.map (·.1)):=by
 induction l with
 | nil=>rfl
 | cons q l ih =>
  obtain ⟨k,v⟩:=q
  rw [List.lookup_cons,zax]
  by_cases e:z=k
  ·subst e;simp
  ·have e1:(z == k)=false:=by rw [beq_eq_false_iff_ne];exact e
   rw [e1]
   simp only [ih]
   simp [e]
theorem b0k:(valD (a0g f l) (.inr z)).isSome=decide (z∈l.map (·.1)):=by
 rw [a0s,Option.isSome_map,lookup_some]
theorem a0T {v:α} (h:z∉l.map (·.1)):putD (a0g f l) (.inr z) (f v)=a0g f (l ++ [(z,v)]):=by
 unfold putD
 rw [if_neg ?_]
 ·unfold a0g;rw [zav];rfl
 ·intro e
  apply h
  rw [List.any_eq_true] at e
  obtain ⟨q,hq,e⟩:=e
  unfold a0g at hq
  obtain ⟨r,hr,rfl⟩:=zan.mp hq
  have e:r.1=z:=by simpa using e
  rw [← e]
  exact zan.mpr ⟨r,hr,rfl⟩
end
end Sv
namespace Sv
open PySem PySem.Spec PyProof.Rows L2
structure Plain (x:D):Prop where
 ok:D.okd 60 x=true
 data:pdD x=some x.py
 shows:b3w x.py
mutual
def smD:Nat→D→Bool
 | _,.non=>true | _,.bl _=>true | _,.int i=>decide (i.natAbs < 10 ^ 12)
 | _,.str z=>decide (z.cps.size≤64) && fine z
 | n,.lst ds=>decide (0 < n) && (decide (ds.length≤64) && b7X (n - 1) ds)
 | n,.tup ds=>decide (0 < n) && (decide (ds.length≤64) && b7X (n - 1) ds)
 | _,_=>false
def b7X:Nat→List D→Bool
 | _,[]=>true | n,d :: ds=>smD n d && b7X n ds
end
def b6a:Nat→Nat
 | 0=>64 | n + 1=>64 * (b6a n + 1)
theorem b1H {z:Str} (h:fine z=true):(z.cps.toList.all fun c=>decide (c < 16 ^ 8))=true:=by
 unfold fine PyData.strOk at h
 rw [← Array.all_toList,List.all_eq_true] at h
 rw [List.all_eq_true]
 intro c hc
 have:=of_decide_eq_true (h c hc)
 exact zbg (by omega)
structure Fits (n:Nat) (d:D):Prop where
 data:pdD d=some d.py
 short:d.py.leavesShort 13=true
 bulk:d.py.bulk≤b6a n
 show_:d.py.showable=true
 dict:d.py.hasDict=false
 deep:d.py.depth≤n
 ok:D.okd n d=true
structure FitsAll (n:Nat) (ds:List D):Prop where
 data:b1f ds=some (D.pys ds)
 short:PyData.leavesShortAll 13 (D.pys ds)=true
 bulk:PyData.bulkAll (D.pys ds)≤ds.length * (b6a n + 1)
 show_:PyData.showableAll (D.pys ds)=true
 dict:PyData.hasDictAll (D.pys ds)=false
 deep:PyData.depthAll (D.pys ds)≤n
 ok:D.okds n ds=true
theorem b7n {l b:Nat} (h:l≤64):l * b≤64 * b:=Nat.mul_le_mul_right b h
mutual
theorem a3j:∀ (d:D) (n:Nat),smD n d=true→Fits n d
 | .non,n,_=>⟨rfl,by simp [D.py,PyData.leavesShort],by simp [D.py,PyData.bulk],by simp [D.py,PyData.showable],by simp [D.py,PyData.hasDict],by simp [D.py,PyData.depth],by simp [D.okd]⟩
 | .bl b,n,_=>⟨rfl,by simp [D.py,PyData.leavesShort],by simp [D.py,PyData.bulk],by simp [D.py,PyData.showable],by simp [D.py,PyData.hasDict],by simp [D.py,PyData.depth],by simp [D.okd]⟩
 | .int i,n,h=>by
  simp only [smD,zah] at h
  refine ⟨rfl,?_,by simp [D.py,PyData.bulk],?_,by simp [D.py,PyData.hasDict],by simp [D.py,PyData.depth],by simp [D.okd]⟩
  ·simp only [D.py,PyData.leavesShort,zah]
   rw [PyData.shown_int]
   have:=PySem.int_text_length_le10 (a:=i) (k:=12) (by decide) h
   rw [PySem.ofString_length]
   exact this
  ·simp only [D.py,PyData.showable,zah]
   exact log2_small (Nat.lt_of_lt_of_le (Nat.lt_trans h (by decide:10 ^ 12 < 2 ^ 64)) (Nat.pow_le_pow_right (by decide) (by decide)))
 | .str z,n,h=>by
  simp only [smD,zak,zah] at h
  refine ⟨rfl,by simp only [D.py,PyData.leavesShort];exact b1H h.2,?_,by simp [D.py,PyData.showable],by simp [D.py,PyData.hasDict],by simp [D.py,PyData.depth],by simp only [D.okd];exact h.2⟩
  simp only [D.py,PyData.bulk]
  have:64≤b6a n:=by
   cases n with
   | zero=>exact Nat.le_refl _
   | succ n=>unfold b6a;omega
  omega
 | .lst ds,n,h=>by
  simp only [smD,zak,zah] at h
  obtain ⟨m,rfl⟩:∃ m,n=m + 1:=⟨n - 1,by omega⟩
  have a:=a4L ds m h.2.2
  refine ⟨by simp only [pdD,D.py,a.data,Option.map_some],by simp only [D.py,PyData.leavesShort];exact a.short,?_,by simp only [D.py,PyData.showable];exact a.show_,by simp only [D.py,PyData.hasDict];exact a.dict,by simp only [D.py,PyData.depth];have:=a.deep;omega,by simp only [D.okd,zak,zah];exact ⟨by omega,a.ok⟩⟩
  simp only [D.py,PyData.bulk]
  exact Nat.le_trans a.bulk (b7n h.2.1)
 | .tup ds,n,h=>by
  simp only [smD,zak,zah] at h
  obtain ⟨m,rfl⟩:∃ m,n=m + 1:=⟨n - 1,by omega⟩
  have a:=a4L ds m h.2.2
  refine ⟨by simp only [pdD,D.py,a.data,Option.map_some],by simp only [D.py,PyData.leavesShort];exact a.short,?_,by simp only [D.py,PyData.showable];exact a.show_,by simp only [D.py,PyData.hasDict];exact a.dict,by simp only [D.py,PyData.depth];have:=a.deep;omega,by simp only [D.okd,zak,zah];exact ⟨by omega,a.ok⟩⟩
  simp only [D.py,PyData.bulk]
  exact Nat.le_trans a.bulk (b7n h.2.1)
 | .dic _,_,h=>by simp [smD] at h
 | .obj _,_,h=>by simp [smD] at h
 | .exc _ _ _ _,_,h=>by simp [smD] at h
 | .err _ _ _ _,_,h=>by simp [smD] at h
theorem a4L:∀ (ds:List D) (n:Nat),b7X n ds=true→FitsAll n ds
 | [],n,_=>⟨rfl,rfl,by simp [D.pys,PyData.bulkAll],rfl,rfl,by simp [D.pys,PyData.depthAll],by simp [D.okds]⟩
 | d :: ds,n,h=>by
  simp only [b7X,zak] at h
  have a:=a3j d n h.1
  have b:=a4L ds n h.2
  refine ⟨by simp only [b1f,D.pys,a.data,b.data],by simp only [D.pys,PyData.leavesShortAll,a.short,b.short];rfl,?_,by simp only [D.pys,PyData.showableAll,a.show_,b.show_];rfl,by simp only [D.pys,PyData.hasDictAll,a.dict,b.dict];rfl,by simp only [D.pys,PyData.depthAll];have:=a.deep;have:=b.deep;omega,by simp only [D.okds,a.ok,b.ok];rfl⟩
  simp only [D.pys,PyData.bulkAll,zaz,Nat.add_mul,Nat.one_mul]
  have:=a.bulk
  have:=b.bulk
  simp only [Nat.mul_add,Nat.mul_one] at *
  omega
end
mutual
theorem b3b:∀ (d:D) (n m:Nat),n≤m→D.okd n d=true→D.okd m d=true
 | .non,n,m,_,h=>by simp [D.okd]
 | .bl _,n,m,_,h=>by simp [D.okd]
 | .int _,n,m,_,h=>by simp [D.okd]
 | .str _,n,m,_,h=>by simpa [D.okd] using h
 | .lst ds,n,m,l,h=>by
  simp only [D.okd,zak,zah] at h ⊢
  exact ⟨by omega,a7F ds (n - 1) (m - 1) (by omega) h.2⟩
 | .tup ds,n,m,l,h=>by
  simp only [D.okd,zak,zah] at h ⊢
  exact ⟨by omega,a7F ds (n - 1) (m - 1) (by omega) h.2⟩
 | .dic _,n,m,_,h=>by simp [D.okd] at h
 | .obj _,n,m,_,h=>by simp [D.okd] at h
 | .exc _ _ _ _,n,m,_,h=>by simp [D.okd] at h
 | .err _ _ _ _,n,m,_,h=>by simp [D.okd] at h
theorem a7F:∀ (ds:List D) (n m:Nat),n≤m→D.okds n ds=true→D.okds m ds=true
 | [],n,m,_,_=>by simp [D.okds]
 | d :: ds,n,m,l,h=>by
  simp only [D.okds,zak] at h ⊢
  exact ⟨b3b d n m l h.1,a7F ds n m l h.2⟩
end
theorem Plain.self {d:D} (h:Plain d):D.eqv d d=true:=by
 unfold D.eqv
 exact SeqAt.eqv_refl _ (a4z d 60 h.ok).1
theorem Plain.vw {d:D} (h:Plain d) (S:SS):vw S d=d:=by
 cases d with
 | obj a=>have:=h.ok;simp [D.okd] at this
 | _=>rfl
theorem Plain.pdS {d:D} (h:Plain d) (S:SS):pdS S d=some d.py:=by
 have e:=h.data
 cases d with
 | obj a=>have:=h.ok;simp [D.okd] at this
 | _=>exact e
theorem c0H {x:D} {S:SS} {K:DK} (h:Plain x) (k:K (.bl true) S):a0I .Eq x x S K:=b1u (by rw [h.vw];exact h.ok) (by rw [h.vw];exact h.ok) (by rw [h.vw,h.self];exact k)
theorem b7N {x:D} {S:SS} {K:DK} (h:Plain x) (k:K (.str x.py.shown) S):Bn.rpr.den [x] S K:=c1X (h.pdS S) h.shows k
end Sv
namespace Sv
open PySem PySem.Spec PyProof.Rows L2
section
variable {G:Gm} {δ:DS} {S:SS} {Y:XD'} {K:DK} {a:RE} {es:RL} {cell:Bool} {k:Nat}
theorem c1c (h:den G a δ S Y fun x S1=>∃ ds,vw S1 x=.lst ds∧K (.lst (ev2 k ds)) S1):den G (.sl2 k a) δ S Y K:=by rw [den];exact h
instance c2y  : Rdg (den G (.sl2 k a) δ S Y K) (den G a δ S Y fun x S1=>∃ ds,vw S1 x=.lst ds∧K (.lst (ev2 k ds)) S1):=⟨c1c⟩
theorem b6C (hm:G.m0=none) (h:a0x G es δ S Y fun ds S1=>Bn.mnl.den ds S1 K):den G (.bi .mnl es) δ S Y K:=a6h hm h
instance b9b  [M:M0 G.m0]:Rdg (den G (.bi .mnl es) δ S Y K) (a0x G es δ S Y fun ds S1=>Bn.mnl.den ds S1 K):=⟨b6C M.out⟩
theorem b6E (hm:G.m0=none) (h:a0x G es δ S Y fun ds S1=>(Bn.srl cell).den ds S1 K):den G (.bi (.srl cell) es) δ S Y K:=a6h hm h
instance b9d  [M:M0 G.m0]:Rdg (den G (.bi (.srl cell) es) δ S Y K) (a0x G es δ S Y fun ds S1=>(Bn.srl cell).den ds S1 K):=⟨b6E M.out⟩
theorem b6F (hm:G.m0=none) (h:a0x G es δ S Y fun ds S1=>(Bn.srp cell).den ds S1 K):den G (.bi (.srp cell) es) δ S Y K:=a6h hm h
instance b9e  [M:M0 G.m0]:Rdg (den G (.bi (.srp cell) es) δ S Y K) (a0x G es δ S Y fun ds S1=>(Bn.srp cell).den ds S1 K):=⟨b6F M.out⟩
theorem c3i {z b:Str} {P:Prop} (k:P):Mn.spl.rc (.str z) S∧P:=⟨⟨z,rfl⟩,k⟩
instance c25 {z:Str} {P:Prop}:Rdg (Mn.spl.rc (.str z) S∧P) (P):=⟨c3i (b:=z)⟩
end
section
end
mutual
def lfD:Nat→D→Bool
 | _,.non=>true | _,.bl _=>true | _,.int i=>decide (i.natAbs < 10 ^ 12)
 | _,.str z=>decide (z.cps.size≤64) && fine z
 | n,.lst ds=>decide (0 < n) && b4x (n - 1) ds
 | n,.tup ds=>decide (0 < n) && b4x (n - 1) ds
 | _,_=>false
def b4x:Nat→List D→Bool
 | _,[]=>true | n,d :: ds=>lfD n d && b4x n ds
end
structure Fit (n:Nat) (d:D):Prop where
 data:pdD d=some d.py
 short:d.py.leavesShort 13=true
 show_:d.py.showable=true
 dict:d.py.hasDict=false
 deep:d.py.depth≤n
 ok:D.okd n d=true
structure b5I (n:Nat) (ds:List D):Prop where
 data:b1f ds=some (D.pys ds)
 short:PyData.leavesShortAll 13 (D.pys ds)=true
 show_:PyData.showableAll (D.pys ds)=true
 dict:PyData.hasDictAll (D.pys ds)=false
 deep:PyData.depthAll (D.pys ds)≤n
 ok:D.okds n ds=true
theorem Fits.fit {n:Nat} {d:D} (h:Fits n d):Fit n d:=⟨h.data,h.short,h.show_,h.dict,h.deep,h.ok⟩
mutual
theorem b0e:∀ (d:D) (n:Nat),lfD n d=true→Fit n d
 | .non,n,_=>(a3j .non n rfl).fit
 | .bl b,n,_=>(a3j (.bl b) n (by simp [smD])).fit
 | .int i,n,h=>(a3j (.int i) n (by simpa only [smD,lfD] using h)).fit
 | .str z,n,h=>(a3j (.str z) n (by simpa only [smD,lfD] using h)).fit
 | .lst ds,n,h=>by
  simp only [lfD,zak,zah] at h
  obtain ⟨m,rfl⟩:∃ m,n=m + 1:=⟨n - 1,by omega⟩
  have a:=a5S ds m h.2
  refine ⟨by simp only [pdD,D.py,a.data,Option.map_some],by simp only [D.py,PyData.leavesShort];exact a.short,by simp only [D.py,PyData.showable];exact a.show_,by simp only [D.py,PyData.hasDict];exact a.dict,by simp only [D.py,PyData.depth];have:=a.deep;omega,by simp only [D.okd,zak,zah];exact ⟨by omega,a.ok⟩⟩
 | .tup ds,n,h=>by
  simp only [lfD,zak,zah] at h
  obtain ⟨m,rfl⟩:∃ m,n=m + 1:=⟨n - 1,by omega⟩
  have a:=a5S ds m h.2
  refine ⟨by simp only [pdD,D.py,a.data,Option.map_some],by simp only [D.py,PyData.leavesShort];exact a.short,by simp only [D.py,PyData.showable];exact a.show_,by simp only [D.py,PyData.hasDict];exact a.dict,by simp only [D.py,PyData.depth];have:=a.deep;omega,by simp only [D.okd,zak,zah];exact ⟨by omega,a.ok⟩⟩
 | .dic _,_,h=>by simp [lfD] at h
 | .obj _,_,h=>by simp [lfD] at h
 | .exc _ _ _ _,_,h=>by simp [lfD] at h
 | .err _ _ _ _,_,h=>by simp [lfD] at h
theorem a5S:∀ (ds:List D) (n:Nat),b4x n ds=true→b5I n ds
 | [],n,_=>⟨rfl,rfl,rfl,rfl,by simp [D.pys,PyData.depthAll],by simp [D.okds]⟩
 | d :: ds,n,h=>by
  simp only [b4x,zak] at h
  have a:=b0e d n h.1
  have b:=a5S ds n h.2
  exact ⟨by simp only [b1f,D.pys,a.data,b.data],by simp only [D.pys,PyData.leavesShortAll,a.short,b.short];rfl,by simp only [D.pys,PyData.showableAll,a.show_,b.show_];rfl,by simp only [D.pys,PyData.hasDictAll,a.dict,b.dict];rfl,by simp only [D.pys,PyData.depthAll];have:=a.deep;have:=b.deep;omega,by simp only [D.okds,a.ok,b.ok];rfl⟩
end
theorem b2g {d:D} (h:lfD 20 d=true) (hb:d.py.bulk≤266304):Plain d:=by
 have f:=b0e d 20 h
 exact ⟨b3b d 20 60 (by decide) f.ok,f.data,⟨f.show_,f.dict,PySem.PyData.shown_fits_bulk (B:=13) (by decide) (by decide) f.short (Nat.le_trans hb (by decide)),Nat.le_trans f.deep (by decide)⟩⟩
theorem a3W {n:Nat}:∀ {ds:List D},(∀ d∈ds,lfD n d=true)→b4x n ds=true
 | [],_=>rfl
 | d :: ds,h=>by
  simp only [b4x,zak]
  exact ⟨h d zal,a3W fun e he=>h e (zao _ he)⟩
theorem a5J {b:Nat}:∀ {ds:List D},(∀ d∈ds,d.py.bulk≤b)→PyData.bulkAll (D.pys ds)≤ds.length * (b + 1)
 | [],_=>by simp [D.pys,PyData.bulkAll]
 | d :: ds,h=>by
  have h1:=h d zal
  have h2:=a5J (b:=b) fun e he=>h e (zao _ he)
  simp only [D.pys,PyData.bulkAll,zaz,Nat.add_mul,Nat.one_mul]
  simp only [Nat.mul_add,Nat.mul_one] at *
  omega
theorem a70 {b:Nat} {ds:List D} (h:∀ d∈ds,d.py.bulk≤b):(D.lst ds).py.bulk≤ds.length * (b + 1):=by
 simp only [D.py,PyData.bulk];exact a5J h
theorem b1t {b:Nat} {ds:List D} (h:∀ d∈ds,d.py.bulk≤b):(D.tup ds).py.bulk≤ds.length * (b + 1):=by
 simp only [D.py,PyData.bulk];exact a5J h
end Sv
noncomputable section
namespace Sv
open PySem PySem.Spec PyProof.Rows L2 PySem.W PySem.Calls
theorem a5m {β:Type} {f:{α:Type}→β→(β→α)→α} (h:∀ {α:Type} (b:β) (k:β→α),f b k=k b) {α:Type}:∀ (l:List β) (k:List β→α),foL f l k=k l
 | [],k=>rfl
 | a :: r,k=>by
  show f a (fun a=>foL f r fun r=>k (a :: r))=_
  rw [h,a5m h]
theorem a2C {α:Type} (n:Nat) (k:Nat→α):foN n k=k n:=HandSHeadRun.frNat_eq n k
theorem b6U {α:Type} (s:Str) (k:Str→α):foS s k=k s:=by
 obtain ⟨⟨l⟩⟩:=s
 exact a5m a2C l _
theorem a2U {α:Type} (v:Value) (k:Value→α):foV v k=k v:=by
 cases v with
 | ref a=>exact a2C a _
 | str s t=>exact b6U s fun s=>k (.str s t)
 | _=>rfl
theorem b6R {α:Type} (e:DictEntry) (k:DictEntry→α):foE e k=k e:=by
 obtain ⟨h,x,v⟩:=e
 show foV x (fun x=>foV v fun v=>k ⟨h,x,v⟩)=_
 rw [a2U,a2U]
theorem b6Q {α:Type} (d:Data) (k:Data→α):foD d k=k d:=by
 cases d with
 | dict es n=>obtain ⟨es⟩:=es;exact a5m b6R es _
 | seq es n=>obtain ⟨es⟩:=es;exact a5m a2U es _
 | fields es=>obtain ⟨es⟩:=es;exact a5m a2U es _
 | cls c =>
  obtain ⟨a1,a2,mro,ns,a3,a4,a5,a6,a7,a8,a9⟩:=c
  show foL foV mro (fun mro=>foN ns fun ns=>k (.cls ⟨a1,a2,mro,ns,a3,a4,a5,a6,a7,a8,a9⟩))=_
  rw [a5m a2U,a2C]
 | func f =>
  obtain ⟨n1,n2,n3,n4,n5,n6,n7,n8,n9,n10,n11,n12,n13,n14,n15⟩:=f
  show foN n6 (fun n6=>foV n8 fun n8=>foV n9 fun n9=>foV n13 fun n13=>foN n15 fun n15=>k (.func ⟨n1,n2,n3,n4,n5,n6,n7,n8,n9,n10,n11,n12,n13,n14,n15⟩))=_
  rw [a2C,a2U,a2U,a2U,a2C]
 | _=>rfl
theorem b6S {α:Type} (o:Obj) (k:Obj→α):foO o k=k o:=by
 obtain ⟨c,d,dt,sl⟩:=o
 show foV c (fun c=>foD dt fun dt=>k ⟨c,d,dt,sl⟩)=_
 rw [a2U,b6Q]
def b8D (o:Obj):Option (List (Nat × DictEntry)):=match o with
 | ⟨_,_,.dict es _,_⟩=>some (es.toList.map fun e=>(a2Q e,e))
 | _=>none
def b8C (K:Frag):Tab:=K.map fun p=>(p.1,b8D p.2)
theorem b2P {α:Type}:∀ (es:List DictEntry) (k:List (Nat × DictEntry)→α),foC es k=k (es.map fun e=>(a2Q e,e))
 | [],k=>rfl
 | e :: r,k=>by
  show foN (a2Q e) (fun n=>foC r fun r=>k ((n,e) :: r))=_
  rw [a2C,b2P r] <;> rfl
theorem b6T {α:Type} (o:Obj) (k:Option (List (Nat × DictEntry))→α):foP o k=k (b8D o):=by
 obtain ⟨c,d,dt,sl⟩:=o
 cases dt with
 | dict es n=>obtain ⟨es⟩:=es;exact b2P es _
 | _=>rfl
theorem a78 {α:Type}:∀ (K:Frag) (k:Tab→α),foT K k=k (b8C K)
 | [],k=>rfl
 | (a,o) :: r,k=>by
  show foP o (fun t=>foT r fun T=>k ((a,t) :: T))=_
  rw [b6T,a78 r] <;> rfl
theorem a00 {β:Type} {a:Nat}:∀ l:List (Nat × β),a1l l a=l.lookup a
 | []=>rfl
 | (b,v) :: r=>by
  show (match Nat.beq a b with
   | true=>some v
   | false=>a1l r a)=(match a == b with
   | true=>some v
   | false=>r.lookup a)
  have e:(a == b)=Nat.beq a b:=by
   cases h:Nat.beq a b with
   | true=>exact beq_iff_eq.mpr (Nat.eq_of_beq_eq_true h)
   | false=>exact beq_eq_false_iff_ne.mpr (Nat.ne_of_beq_eq_false h)
  rw [e,a00 r]
theorem b1z {e:DictEntry} {x:Str} (h:e.key.isStr x=true):a2Q e=codeS x:=by
 obtain ⟨hh,k,v⟩:=e
 cases k with
 | str s t =>
  have e:s=x:=eq_of_beq (show (s == x)=true from h)
  subst e
  rfl
 | _=>cases h
theorem a5O {x:Str}:∀ es:List DictEntry,a7q (codeS x) x (es.map fun e=>(a2Q e,e))=es.find? (·.key.isStr x)
 | []=>rfl
 | e :: r=>by
  show (match Nat.beq (a2Q e) (codeS x) with
   | true=>(match e.key.isStr x with
    | true=>some e
    | false=>a7q (codeS x) x (r.map fun e=>(a2Q e,e)))
   | false=>a7q (codeS x) x (r.map fun e=>(a2Q e,e)))=(match e.key.isStr x with
   | true=>some e
   | false=>r.find? (·.key.isStr x))
  rw [a5O r]
  cases h:Nat.beq (a2Q e) (codeS x) with
  | true=>rfl
  | false =>
   cases q:e.key.isStr x with
   | false=>rfl
   | true=>exact absurd (b1z q) (Nat.ne_of_beq_eq_false h)
def nsT (T:Tab) (ns:Addr) (x:Str):Option (Option Value):=match a1l T ns with
 | some (some l)=>foN (codeS x) fun c=>(match a7q c x l with
  | some e=>some (some e.val)
  | none=>if l.any (fun p=>p.2.refKey) then none else some none)
 | _=>none
theorem a4T {a:Addr}:∀ K:Frag,(b8C K).lookup a=(K.lookup a).map b8D
 | []=>rfl
 | (b,o) :: r=>by
  show (match a == b with
   | true=>some (b8D o)
   | false=>(b8C r).lookup a)=Option.map b8D (match a == b with
   | true=>some o
   | false=>r.lookup a)
  cases a == b with
  | true=>rfl
  | false=>exact a4T r
theorem b7p {K:Frag}:nsT (b8C K)=nsIn K:=by
 funext ns x
 unfold nsT nsIn
 rw [a00,a4T]
 cases K.lookup ns with
 | none=>rfl
 | some o =>
  obtain ⟨c,d,dt,sl⟩:=o
  cases dt with
  | dict es n =>
   show foN (codeS x) (fun c=>(match a7q c x (es.toList.map fun e=>(a2Q e,e)) with
    | some e=>some (some e.val)
    | none=>if (es.toList.map fun e=>(a2Q e,e)).any (fun p=>p.2.refKey) then none else some none))=_
   rw [a2C,a5O,List.any_map] <;> rfl
  | _=>rfl
section
variable (K:Frag) (N:Addr→Str→Option (Option Value))
def gaN (x:Str):Addr:=match N mainGlobals x with
 | some (some (.ref a))=>a
 | _=>0
def b7x (name:Str):Value→Option (Option Value)
 | .type n=>some (fastBuiltinOwn n name)
 | .ref a=>(match a1l K a with
   | some ⟨_,_,.cls cd,_⟩=>N cd.ns name
   | _=>none)
 | _=>some none
def a4k (name:Str):List Value→Option (Option Value)
 | []=>some none
 | c :: r=>match b7x K N name c with
  | some (some v)=>some (some v)
  | some none=>a4k name r
  | none=>none
def a5d (t:Value) (name:Str):Option (Option Value):=match t with
 | .type n=>fastLookup n name
 | .ref a=>(match a1l K a with
   | some ⟨_,_,.cls cd,_⟩=>a4k K N name cd.mro
   | _=>none)
 | _=>none
def maN (C:Addr) (m:Str):Addr:=match a5d K N (.ref C) m with
 | some (some (.ref a))=>a
 | _=>0
def b5z (p:Str × Option Str):Addr:=match p.2 with
 | none=>gaN N p.1
 | some m=>maN K N (gaN N p.1) m
def a98 (a:Addr):Bool:=match a1l K a with
 | some ⟨_,_,.func _,_⟩=>true
 | some ⟨_,_,.cls _,_⟩=>specialIn K (.ref a) "__call__" == some (some (.builtin "type.__call__"))
 | _=>false
def codeN (cd:Value) (q:Str):Bool:=match cd with
 | .ref c=>(match a1l K c with
   | some ⟨_,_,.fields vs,_⟩=>(match vs.toList with | _ :: .str n _ :: _=>n == q | _=>false)
   | _=>false)
 | _=>false
theorem a8f (a:Addr):a98 K a=keepIn K (.ref a):=by
 unfold a98 keepIn
 rw [a00] <;> rfl
theorem b1A (cd:Value) (q:Str):codeN K cd q=codeIn K cd q:=by
 unfold codeN codeIn
 cases cd with
 | ref c =>
  show (match a1l K c with
   | some ⟨_,_,.fields vs,_⟩=>(match vs.toList with | _ :: .str n _ :: _=>n == q | _=>false)
   | _=>false)=_
  rw [a00] <;> rfl
 | _=>rfl
def b1J (a:Addr):Bool:=(a1l K a).map (·.cls) == some (.type "function")
theorem b1K (a:Addr):b1J K a=isFn K (.ref a):=by
 unfold b1J isFn typeIn
 rw [a00] <;> rfl
def faN:He.Fa→Bool
 | .glo x=>He.eqO (N mainGlobals x) (some (some (.ref (gaN N x))))
 | .free x=>He.eqO (N mainGlobals x) (some none)
 | .int x i=>(match N mainGlobals x with
  | some (some (.int j _))=>decide (j=i)
  | _=>false)
 | .str x z=>(match N mainGlobals x with
  | some (some (.str y _))=>decide (y=z)
  | _=>false)
 | .cls x=>plainGet K (gaN N x) Str.empty && (hasDictIn K (gaN N x) && (plainOver K (gaN N x) && He.eqO (findIn K (.ref (gaN N x)) "__setattr__") (some (some (.builtin "object.__setattr__")))))
 | .noat x f=>He.eqO (a5d K N (.ref (gaN N x)) f) (some none)
 | .meth x m=>He.eqO (a5d K N (.ref (gaN N x)) m) (some (some (.ref (maN K N (gaN N x) m)))) && (b1J K (maN K N (gaN N x) m) && a98 K (maN K N (gaN N x) m))
 | f=>f.ok K
def okA (d:He.DefD) (a:Addr):Bool:=a98 K a && (match a1l K a with
 | some ⟨_,_,.func fd,_⟩=>codeN K fd.code d.qual && (He.dflB K fd.defaults (d.dvs K) && He.kwdB K fd.kwdefaults (d.kws K))
 | _=>false)
def fnA (a:Addr):He.FnW:=match a1l K a with
 | some ⟨_,_,.func fd,_⟩=>some (fd.name,fd.qualname,fd.params,fd.body,fd.scope,fd.globals,fd.closure,fd.builtins)
 | _=>none
def fxN:Fx→Bool
 | .oex x=>b8S K (gaN N x)
 | .ini x=>He.eqO (a5d K N (.ref (gaN N x)) "__init__") (some (some (.ref (maN K N (gaN N x) "__init__")))) && decide (typeIn K (.ref (maN K N (gaN N x) "__init__"))=some (.type "function"))
 | .nov x f=>He.eqO (a5d K N (.ref (gaN N x)) f) (some none)
 | .kit x y b=>decide (kitOne K (.ref (gaN N x)) (.ref (gaN N y))=some b)
 | .kitT x n b=>decide (kitOne K (.ref (gaN N x)) (.type n)=some b)
 | .sib xs=>xs.all fun x=>xs.all fun y=>decide (kitOne K (.ref (gaN N x)) (.ref (gaN N y))=some (decide (x=y)))
 | .veT xs n=>xs.all fun x=>decide (kitOne K (.ref (gaN N x)) (.type n)=some true)
 | .exA xs y=>xs.all fun x=>decide (exmOne K (.ref (gaN N x)) (.ref (gaN N y))=some true)
 | f=>f.ok K
def b4J (fa:List He.Fa) (fn:List He.DefD) (fx:List Fx):AlX:=(((fa.all fun f=>faN K N f) && fn.all fun d=>okA K d (b5z K N d.at_),fn.map fun d=>fnA K (b5z K N d.at_)),fx.all fun f=>fxN K N f)
end
section
variable {K:Frag}
theorem b4X {name:Str} (c:Value):b7x K (nsIn K) name c=ownIn K name c:=by
 unfold b7x ownIn
 cases c with
 | ref a =>
  show (match a1l K a with
   | some ⟨_,_,.cls cd,_⟩=>nsIn K cd.ns name
   | _=>none)=_
  rw [a00] <;> rfl
 | _=>rfl
theorem a6m {name:Str}:∀ l:List Value,a4k K (nsIn K) name l=alongIn K name l
 | []=>rfl
 | c :: r=>by
  show (match b7x K (nsIn K) name c with
   | some (some v)=>some (some v)
   | some none=>a4k K (nsIn K) name r
   | none=>none)=(match ownIn K name c with
   | some (some v)=>some (some v)
   | some none=>alongIn K name r
   | none=>none)
  rw [a6m r,b4X] <;> rfl
theorem a2o:a5d K (nsIn K)=findIn K:=by
 funext t name
 unfold a5d findIn
 cases t with
 | ref a =>
  show (match a1l K a with
   | some ⟨_,_,.cls cd,_⟩=>a4k K (nsIn K) name cd.mro
   | _=>none)=_
  rw [a00]
  simp only [a6m]
  rfl
 | _=>rfl
theorem a8l:maN K (nsIn K)=He.ma K:=by
 funext C m
 unfold maN He.ma
 rw [a2o] <;> rfl
theorem b3Z:b5z K (nsIn K)=He.fAd K:=by
 funext p
 unfold b5z He.fAd
 rw [a8l] <;> rfl
theorem b6L:faN K (nsIn K)=He.Fa.ok K:=by
 funext f
 cases f with
 | meth x m =>
  show (He.eqO (a5d K (nsIn K) (.ref (gaN (nsIn K) x)) m) (some (some (.ref (maN K (nsIn K) (gaN (nsIn K) x) m)))) && (b1J K (maN K (nsIn K) (gaN (nsIn K) x) m) && a98 K (maN K (nsIn K) (gaN (nsIn K) x) m)))=_
  rw [a2o,a8l,b1K,a8f] <;> rfl
 | _=>first | rfl | (unfold faN He.Fa.ok;rw [a2o];rfl) | (unfold faN He.Fa.ok;rw [a2o,a8l];rfl)
theorem b6V:fxN K (nsIn K)=Fx.ok K:=by
 funext f
 cases f <;> first | rfl | (unfold fxN Fx.ok;rw [a2o];rfl) | (unfold fxN Fx.ok;rw [a2o,a8l];rfl)
theorem b7t (d:He.DefD):okA K d (He.fAd K d.at_)=d.ok K:=by
 unfold okA He.DefD.ok
 rw [a8f,a00]
 simp only [b1A]
 rfl
theorem b6P (p:Str × Option Str):fnA K (He.fAd K p)=He.fnW K p:=by
 unfold fnA He.fnW
 rw [a00] <;> rfl
theorem a7D {fa:List He.Fa} {fn:List He.DefD} {fx:List Fx}:b4J K (nsIn K) fa fn fx=obsX fa fn fx K:=by
 unfold b4J
 rw [b6L,b6V,b3Z]
 simp only [b7t,b6P]
 rfl
end
section
end
section
variable {g:Addr→Option Obj}
def a2K (g:Addr→Option Obj) (K:Frag):Prop:=∀ p∈K,g p.1=some p.2
theorem a7l:∀ (l:List Addr) (m:Nat) (f:List Addr),∃ m' f',∀ {α:Type} (k:Nat→List Addr→α),b1b l m f k=k m' f'
 | [],m,f=>⟨m,f,fun _=>rfl⟩
 | a :: r,m,f=>by
  cases e:Nat.beq (Nat.land (Nat.shiftRight m a) 1) 0 with
  | true =>
   obtain ⟨m',f',h⟩:=a7l r (Nat.lor m (Nat.shiftLeft 1 a)) (a :: f)
   refine ⟨m',f',fun {α} k=>?_⟩
   show (match Nat.beq (Nat.land (Nat.shiftRight m a) 1) 0 with
    | true=>foN a fun a=>foN (Nat.lor m (Nat.shiftLeft 1 a)) fun m=>b1b r m (a :: f) k
    | false=>b1b r m f k)=k m' f'
   rw [e]
   show foN a (fun a=>foN (Nat.lor m (Nat.shiftLeft 1 a)) fun m=>b1b r m (a :: f) k)=k m' f'
   rw [a2C,a2C]
   exact h k
  | false =>
   obtain ⟨m',f',h⟩:=a7l r m f
   refine ⟨m',f',fun {α} k=>?_⟩
   show (match Nat.beq (Nat.land (Nat.shiftRight m a) 1) 0 with
    | true=>foN a fun a=>foN (Nat.lor m (Nat.shiftLeft 1 a)) fun m=>b1b r m (a :: f) k
    | false=>b1b r m f k)=k m' f'
   rw [e]
   exact h k
theorem a3h:∀ (l:List Addr) (m:Nat) (f:List Addr) (K:Frag),a2K g K→∃ m' f' K',a2K g K'∧∀ {α:Type} (k:Nat→List Addr→Frag→α),a3H g l m f K k=k m' f' K'
 | [],m,f,K,h=>⟨m,f,K,h,fun _=>rfl⟩
 | a :: r,m,f,K,h=>by
  cases e:g a with
  | none =>
   obtain ⟨m',f',K',h',q⟩:=a3h r m f K h
   refine ⟨m',f',K',h',fun {α} k=>?_⟩
   show (match g a with
    | none=>a3H g r m f K k
    | some o=>foO o fun o=>b1b (He.refsD o) m f fun m f=>a3H g r m f ((a,o) :: K) k)=k m' f' K'
   rw [e]
   exact q k
  | some o =>
   obtain ⟨m1,f1,e1⟩:=a7l (He.refsD o) m f
   obtain ⟨m',f',K',h',q⟩:=a3h r m1 f1 ((a,o) :: K) fun p hp=>by
    rcases zau.mp hp with rfl | hp
    ·exact e
    ·exact h p hp
   refine ⟨m',f',K',h',fun {α} k=>?_⟩
   show (match g a with
    | none=>a3H g r m f K k
    | some o=>foO o fun o=>b1b (He.refsD o) m f fun m f=>a3H g r m f ((a,o) :: K) k)=k m' f' K'
   rw [e]
   show foO o (fun o=>b1b (He.refsD o) m f fun m f=>a3H g r m f ((a,o) :: K) k)=k m' f' K'
   rw [b6S,e1]
   exact q k
theorem a6U:∀ (n:Nat) (l:List Addr) (m:Nat) (K:Frag),a2K g K→∃ K',a2K g K'∧∀ {α:Type} (k:Frag→α),b0F g n l m K k=k K'
 | 0,l,m,K,h=>by
  obtain ⟨_,_,K',h',e⟩:=a3h l m [] K h
  exact ⟨K',h',fun k=>e _⟩
 | n + 1,l,m,K,h=>by
  obtain ⟨m',f',K',h',e⟩:=a3h l m [] K h
  obtain ⟨K2,h2,e2⟩:=a6U n f' m' K' h'
  exact ⟨K2,h2,fun k=>(e _).trans (e2 k)⟩
theorem a5Y (n:Nat):∃ K,a2K g K∧∀ {α:Type} (k:Frag→α),b2b g n k=k K:=by
 obtain ⟨K,h,e⟩:=a6U n [mainGlobals,cStatics] (Nat.lor (Nat.shiftLeft 1 mainGlobals) (Nat.shiftLeft 1 cStatics)) [] (show a2K g [] from fun p hp=>nomatch hp)
 exact ⟨K.reverse,fun p hp=>h p (List.mem_reverse.mp hp),fun k=>e fun K=>k K.reverse⟩
theorem a2K.at_ {K:Frag} {a:Addr} {o:Obj}:a2K g K→K.lookup a=some o→g a=some o:=by
 induction K with
 | nil=>intro _ e;cases e
 | cons p r ih =>
  obtain ⟨b,ob⟩:=p
  intro h e
  have e2:(match a == b with
   | true=>some ob
   | false=>r.lookup a)=some o:=e
  cases q:(a == b) with
  | true =>
   rw [q] at e2
   cases e2
   rw [beq_iff_eq.mp q]
   exact h _ zal
  | false =>
   rw [q] at e2
   exact ih (fun p hp=>h p (zao _ hp)) e2
end
def a9i (n:Nat) (fa:List He.Fa) (fn:List He.DefD) (fx:List Fx) (g:Addr→Option Obj):AlX:=b2b g n fun K=>foT K fun T=>b4J K (nsT T) fa fn fx
def b6Y (n:Nat) (fa:List He.Fa) (fn:List He.DefD) (fx:List Fx):Hook where
 α:=AlX
 obs:=fun s=>a9i n fa fn fx s.heap.get?
 val:=fun _=>(He.valD fn,true)
 says:=fun _ h=>∃ K:Frag,K.In h∧SaysX fa fn fx K
 of:=fun _ s e=>by
  obtain ⟨K,h,q⟩:=a5Y (g:=s.heap.get?) n
  refine ⟨K,fun a o x=>h.at_ x,?_⟩
  have e2:a9i n fa fn fx s.heap.get?=(He.valD fn,true):=e
  unfold a9i at e2
  rw [q,a78,b7p,a7D] at e2
  exact e2
 keeps:=fun _ _ _ ⟨K,hK,c⟩ k=>⟨K,Frag.In.keeps hK k,c⟩
theorem b4H {n:Nat} {fa:List He.Fa} {fn:List He.DefD} {fx:List Fx} {g:Addr→Option Obj} {s:Shared} (h:∀ a,g a=s.heap.get? a):a9i n fa fn fx g=(b6Y n fa fn fx).obs s:=by
 have e:g=s.heap.get?:=funext h
 rw [e] <;> rfl
section
open HandSHeadRun
theorem b1Z {n:Nat} {fa1 fa2:List He.Fa} {fn1 fn2:List He.DefD} {fx1 fx2:List Fx} {g:Addr→Option Obj} (h1:a9i n fa1 fn1 fx1 g=(He.valD fn1,true)) (h2:a9i n fa2 fn2 fx2 g=(He.valD fn2,true)) :
  a9i n (fa1 ++ fa2) (fn1 ++ fn2) (fx1 ++ fx2) g=(He.valD (fn1 ++ fn2),true):=by
 obtain ⟨K,_,q⟩:=a5Y (g:=g) n
 unfold a9i at h1 h2 ⊢
 rw [q,a78] at h1 h2 ⊢
 unfold b4J He.valD at h1 h2 ⊢
 simp only [Prod.mk.injEq,zak] at h1 h2
 obtain ⟨⟨⟨a1,b1⟩,c1⟩,d1⟩:=h1
 obtain ⟨⟨⟨a2,b2⟩,c2⟩,d2⟩:=h2
 rw [List.all_append,List.all_append,List.all_append,zav,zav,a1,a2,b1,b2,c1,c2,d1,d2]
 rfl
def b9K (r:OpenRow) (q:Program) (M:Nat) (loose:List Str) (w:World):Prop :=
 ∀ os:OsState,(endF (stepQ (denQ tabQ) r.prog w) M r.prog w os).map (fun s=>(looksF r.prog (boot_heap w.params) s.abs,seenQ q loose (importedModules r.prog.main.body) (fun s=>xlAt q [] s && recOk r.toRowW.records s) s.abs))=some (true,openGood q loose)
def b5y (r:OpenRow) (M n:Nat) (fa:List He.Fa) (fn:List He.DefD) (fx:List Fx) (w:World):Prop :=
 ∀ os:OsState,(endF (stepQ (denQ tabQ) r.prog w) M r.prog w os).map (fun s=>a9i n fa fn fx (getT s))=some (He.valD fn,true)
variable {r:OpenRow} {q:Program} {M n:Nat} {loose:List Str} {w:World} {fa:List He.Fa} {fn:List He.DefD} {fx:List Fx}
theorem b5y.join (k1 k2 k3:Nat) (h1:b5y r M n (fa.take k1) (fn.take k2) (fx.take k3) w) (h2:b5y r M n (fa.drop k1) (fn.drop k2) (fx.drop k3) w):b5y r M n fa fn fx w:=by
 intro os
 have a:=h1 os
 have b:=h2 os
 cases e:endF (stepQ (denQ tabQ) r.prog w) M r.prog w os with
 | none =>
  rw [e] at a
  cases a
 | some s =>
  rw [e] at a b
  have c:=b1Z (Option.some.inj a) (Option.some.inj b)
  simp only [List.take_append_drop] at c
  exact congrArg some c
end
end Sv
noncomputable section
namespace Sv
open PySem PySem.Spec PyProof.Rows L2 PySem.W PySem.Calls
def Cw.d:Cw→D
 | .str z=>.str z
 | .tup zs=>.tup (zs.map D.str)
def a6O (n:Nat) (ts:List TbW) (g:Addr→Option Obj):Bool × List (Option (List (Option (Str × Int)))):=b2b g n fun K=>a2H ts K
section
open HandSHeadRun
def b9L (r:OpenRow) (M n:Nat) (ts:List TbW) (w:World):Prop :=
 ∀ os:OsState,(endF (stepQ (denQ tabQ) r.prog w) M r.prog w os).map (fun s=>a6O n ts (getT s))=some (a1V ts w)
variable {r:OpenRow} {q:Program} {M n:Nat} {loose:List Str} {w:World} {fa:List He.Fa} {fn:List He.DefD} {fx:List Fx} {ts:List TbW}
end
end Sv
namespace Sv
open PySem PySem.Spec PyProof.Rows L2 PySem.W PySem.Calls
section
open HandSHeadRun
def b8u (L:Nat) (t:Thread):Bool:=match t.cur with
 | .ask _=>Nat.beq t.pos.line L
 | _=>false
section
variable (st:SharedT→Thread→Option (SharedT × Thread)) (n0:Nat) (ann:Option Value) (L:Nat)
def goP:Nat→SharedT→Thread→Option (Nat × SharedT × Thread)
 | 0,_,_=>none
 | m + 1,s,t=>match b8u L t with
  | true=>some (m + 1,s,t)
  | false=>match through t with
   | true=>none
   | false=>match stepOk n0 ann t with
    | false=>none
    | true=>match st s t with
     | some (s',t')=>frS s' fun s'=>goP m s' t'
     | none=>none
theorem b2Q:∀ {m:Nat} {s:SharedT} {t:Thread} {k:Nat} {s1:SharedT} {t1:Thread},goP st n0 ann L m s t=some (k,s1,t1)→goF st n0 ann m s t=goF st n0 ann k s1 t1
 | 0,_,_,_,_,_,h=>by cases h
 | m + 1,s,t,k,s1,t1,h=>by
  unfold goP at h
  cases h1:b8u L t with
  | true =>
   rw [h1] at h
   cases h
   rfl
  | false =>
   rw [h1] at h
   cases h2:through t with
   | true =>
    rw [h2] at h
    cases h
   | false =>
    rw [h2] at h
    cases h3:stepOk n0 ann t with
    | false =>
     rw [h3] at h
     cases h
    | true =>
     rw [h3] at h
     cases h4:st s t with
     | none =>
      rw [h4] at h
      cases h
     | some r =>
      obtain ⟨s',t'⟩:=r
      rw [h4] at h
      have h5:(frS s' fun s'=>goP st n0 ann L m s' t')=some (k,s1,t1):=h
      rw [frS_eq] at h5
      have e:=b2Q h5
      show (match through t with
       | true=>some s
       | false=>match stepOk n0 ann t with
        | false=>none
        | true=>match st s t with
         | some (s',t')=>frS s' fun s'=>goF st n0 ann m s' t'
         | none=>none)=_
      rw [h2,h3,h4]
      show (frS s' fun s'=>goF st n0 ann m s' t')=_
      rw [frS_eq]
      exact e
end
noncomputable def b5H {α:Type} (st:SharedT→Thread→Option (SharedT × Thread)) (stb:Bool→SharedT→Thread→Option (SharedT × Thread)) (L M:Nat) (p:Program) (w:World) (os:OsState) (f:SharedT→α):Option (Option α × Option α) :=
 match putAll (boot_heap w.params).objs.toList .nil 0 with
 | some (t,n)=>frNat n fun n0=>match goP st n0 (bootAnn w) L M (bootT w os (t,n0)) (topStub p) with
  | some (k,s1,t1)=>some ((goF (stb false) n0 (bootAnn w) k s1 t1).map f,(goF (stb true) n0 (bootAnn w) k s1 t1).map f)
  | none=>none
 | none=>none
theorem a65 {α:Type} {den:Code→Sem Fin} {L M:Nat} {p:Program} {w:World} {os:OsState} {f:SharedT→α} {x:α}
  (h:b5H (stepQ den p w) (fun b=>stepQ den p (w.withFollow ROW b)) L M p w os f=some (some x,some x)):(endF (stepQ den p w) M p w os).map f=some x:=by
 unfold b5H at h
 unfold endF
 cases e:putAll (boot_heap w.params).objs.toList .nil 0 with
 | none =>
  rw [e] at h
  cases h
 | some r =>
  obtain ⟨t,n⟩:=r
  rw [e] at h
  dsimp only at h ⊢
  rw [frNat_eq] at h ⊢
  cases e2:goP (stepQ den p w) n (bootAnn w) L M (bootT w os (t,n)) (topStub p) with
  | none =>
   rw [e2] at h
   cases h
  | some r =>
   obtain ⟨k,s1,t1⟩:=r
   rw [e2] at h
   rw [b2Q _ _ _ _ e2]
   have h:=Option.some.inj h
   obtain ⟨ha,hb⟩:=Prod.mk.inj h
   have hw:=World.withFollow_self w ROW
   cases q:w.params.followText ROW with
   | false =>
    rw [q] at hw
    rw [hw] at ha
    exact ha
   | true =>
    rw [q] at hw
    rw [hw] at hb
    exact hb
variable {r:OpenRow} {q:Program} {L M n:Nat} {loose:List Str} {w:World} {fa:List He.Fa} {fn:List He.DefD} {fx:List Fx} {ts:List TbW}
def b5L (r:OpenRow) (q:Program) (L M:Nat) (loose:List Str) (w:World):Prop :=
 ∀ os:OsState,b5H (stepQ (denQ tabQ) r.prog w) (fun b=>stepQ (denQ tabQ) r.prog (w.withFollow ROW b)) L M r.prog w os (fun s=>(looksF r.prog (boot_heap w.params) s.abs,seenQ q loose (importedModules r.prog.main.body) (fun s=>xlAt q [] s && recOk r.toRowW.records s) s.abs))=some (some (true,openGood q loose),some (true,openGood q loose))
def b5M (r:OpenRow) (L M n:Nat) (fa:List He.Fa) (fn:List He.DefD) (fx:List Fx) (w:World):Prop :=
 ∀ os:OsState,b5H (stepQ (denQ tabQ) r.prog w) (fun b=>stepQ (denQ tabQ) r.prog (w.withFollow ROW b)) L M r.prog w os (fun s=>a9i n fa fn fx (getT s))=some (some (He.valD fn,true),some (He.valD fn,true))
def b5N (r:OpenRow) (L M n:Nat) (ts:List TbW) (w:World):Prop :=
 ∀ os:OsState,b5H (stepQ (denQ tabQ) r.prog w) (fun b=>stepQ (denQ tabQ) r.prog (w.withFollow ROW b)) L M r.prog w os (fun s=>a6O n ts (getT s))=some (some (a1V ts w),some (a1V ts w))
def b1k (r:OpenRow) (q:Program) (L M:Nat) (loose:List Str) (n:Nat) (ts:List TbW) (w:World):Prop :=
 ∀ os:OsState,b5H (stepQ (denQ tabQ) r.prog w) (fun b=>stepQ (denQ tabQ) r.prog (w.withFollow ROW b)) L M r.prog w os (fun s=>((looksF r.prog (boot_heap w.params) s.abs,seenQ q loose (importedModules r.prog.main.body) (fun s=>xlAt q [] s && recOk r.toRowW.records s) s.abs),a6O n ts (getT s)))=some (some ((true,openGood q loose),a1V ts w),some ((true,openGood q loose),a1V ts w))
theorem a7z {α β γ:Type} {o:Option γ} {f:γ→α} {g:γ→β} {x:α} {y:β} (h:o.map (fun s=>(f s,g s))=some (x,y)):o.map f=some x∧o.map g=some y:=by
 cases o with
 | none=>cases h
 | some s =>
  have h:=Option.some.inj h
  obtain ⟨h1,h2⟩:=Prod.mk.inj h
  exact ⟨congrArg some h1,congrArg some h2⟩
theorem b1k.a (h:b1k r q L M loose n ts w):b9K r q M loose w:=fun os=>(a7z (a65 (h os))).1
theorem b1k.d (h:b1k r q L M loose n ts w):b9L r M n ts w:=fun os=>(a7z (a65 (h os))).2
theorem b5L.a (h:b5L r q L M loose w):b9K r q M loose w:=fun os=>a65 (h os)
theorem b5M.b (h:b5M r L M n fa fn fx w):b5y r M n fa fn fx w:=fun os=>a65 (h os)
theorem b5N.d (h:b5N r L M n ts w):b9L r M n ts w:=fun os=>a65 (h os)
def b3r (r:OpenRow) (q:Program) (M:Nat) (loose:List Str) (n:Nat) (ts:List TbW) (b:Bool) (w:World):Prop :=
 ∀ os:OsState,(endF (stepQ (denQ tabQ) r.prog (w.withFollow ROW b)) M r.prog w os).map (fun s=>((looksF r.prog (boot_heap w.params) s.abs,seenQ q loose (importedModules r.prog.main.body) (fun s=>xlAt q [] s && recOk r.toRowW.records s) s.abs),a6O n ts (getT s)))=some ((true,openGood q loose),a1V ts w)
def b3q (r:OpenRow) (M n:Nat) (fa:List He.Fa) (fn:List He.DefD) (fx:List Fx) (b:Bool) (w:World):Prop :=
 ∀ os:OsState,(endF (stepQ (denQ tabQ) r.prog (w.withFollow ROW b)) M r.prog w os).map (fun s=>a9i n fa fn fx (getT s))=some (He.valD fn,true)
theorem a6P {p:Program} {w:World} {M:Nat} {os:OsState} {α:Type} {f:SharedT→α} {x:α} (h:∀ b,(endF (stepQ (denQ tabQ) p (w.withFollow ROW b)) M p w os).map f=some x):(endF (stepQ (denQ tabQ) p w) M p w os).map f=some x:=by
 have h:=h (w.params.followText ROW)
 rw [World.withFollow_self w ROW] at h
 exact h
theorem b3r.ad (h0:b3r r q M loose n ts false w) (h1:b3r r q M loose n ts true w):b9K r q M loose w∧b9L r M n ts w:=by
 have k:∀ os:OsState,_:=fun os=>a7z (a6P (f:=fun s=>((looksF r.prog (boot_heap w.params) s.abs,seenQ q loose (importedModules r.prog.main.body) (fun s=>xlAt q [] s && recOk r.toRowW.records s) s.abs),a6O n ts (getT s))) fun b=>match b with
  | false=>h0 os
  | true=>h1 os)
 exact ⟨fun os=>(k os).1,fun os=>(k os).2⟩
theorem b3q.b (h0:b3q r M n fa fn fx false w) (h1:b3q r M n fa fn fx true w):b5y r M n fa fn fx w:=fun os=>a6P fun b=>match b with
 | false=>h0 os
 | true=>h1 os
end
end Sv
noncomputable section
namespace Sv
open PySem PySem.Spec PyProof.Rows L2 PySem.W PySem.Calls
section
end
theorem b4I {L:Addr→Option Obj} {K:Frag} {N:Addr→Str→Option (Option Value)} {fa:List He.Fa} {fn:List He.DefD} {fx:List Fx} (h:L=a1l K):c1M L K N fa fn fx=b4J K N fa fn fx:=by
 subst h
 have e0:∀ (x:Str),gaM N x=gaN N x:=fun _=>rfl
 have e1:∀ name l,a7Y (a1l K) N name l=a4k K N name l:=fun name l=>by
  induction l with
  | nil=>rfl
  | cons c r ih =>
   show (match c3W (a1l K) N name c with
    | some (some v)=>some (some v)
    | some none=>a7Y (a1l K) N name r
    | none=>none)=(match b7x K N name c with
    | some (some v)=>some (some v)
    | some none=>a4k K N name r
    | none=>none)
   rw [ih]
   rfl
 have e2:a7r (a1l K) N=a5d K N:=by
  funext t name
  unfold a7r a5d
  cases t with
  | ref a =>
   simp only [e1]
   try rfl
  | _=>rfl
 have e3:maM (a1l K) N=maN K N:=by
  funext C m
  unfold maM maN
  rw [e2]
  try rfl
 have e4:b8R (a1l K) N=b5z K N:=by
  funext p
  unfold b8R b5z
  rw [e3]
  try rfl
 have e5:faM (a1l K) K N=faN K N:=by
  funext f
  cases f <;> first | rfl | (unfold faM faN;rw [e2];rfl) | (unfold faM faN;rw [e2,e3];rfl)
 have e6:fxM (a1l K) K N=fxN K N:=by
  funext f
  cases f <;> first | rfl | (unfold fxM fxN;rw [e2];rfl) | (unfold fxM fxN;rw [e2,e3];rfl)
 unfold c1M b4J
 rw [e4,e5,e6]
 try rfl
theorem a8i {K r:Frag} {a:Addr}:(K ++ r).lookup a=match K.lookup a with
 | some o=>some o
 | none=>r.lookup a:=by
 induction K with
 | nil=>rfl
 | cons p K ih =>
  obtain ⟨b,o⟩:=p
  show (match a == b with
   | true=>some o
   | false=>(K ++ r).lookup a)=(match (match a == b with
   | true=>some o
   | false=>K.lookup a) with
   | some o=>some o
   | none=>r.lookup a)
  cases a == b with
  | true=>rfl
  | false=>exact ih
theorem a7x {g:Addr→Option Obj} {a:Addr}:∀ l:List Addr,(l.filterMap fun a=>(g a).map fun o=>(a,o)).lookup a=if a∈l then g a else none
 | []=>rfl
 | b :: l=>by
  rw [List.filterMap_cons]
  cases e:g b with
  | none =>
   show (l.filterMap fun a=>(g a).map fun o=>(a,o)).lookup a=_
   rw [a7x l]
   by_cases h:a=b
   ·subst h
    rw [e]
    split <;> split <;> rfl
   ·by_cases m:a∈l
    ·rw [if_pos m,if_pos (zao _ m)]
    ·rw [if_neg m,if_neg fun z=>(zau.mp z).elim h m]
  | some o =>
   show (match a == b with
    | true=>some o
    | false=>(l.filterMap fun a=>(g a).map fun o=>(a,o)).lookup a)=_
   by_cases h:a=b
   ·subst h
    rw [beq_self_eq_true,if_pos zal,e]
   ·rw [beq_eq_false_iff_ne.mpr h]
    show (l.filterMap fun a=>(g a).map fun o=>(a,o)).lookup a=_
    rw [a7x l]
    by_cases m:a∈l
    ·rw [if_pos m,if_pos (zao _ m)]
    ·rw [if_neg m,if_neg fun z=>(zau.mp z).elim h m]
theorem a6r {g:Addr→Option Obj} {K:Frag} {n:Nat} (hK:a2K g K) (hg:∀ a,n≤a→g a=none) (a:Addr):(K ++ a7s g n).lookup a=g a:=by
 rw [a8i]
 cases e:K.lookup a with
 | some o=>exact (hK.at_ e).symm
 | none =>
  show (a7s g n).lookup a=g a
  unfold a7s
  rw [a7x]
  by_cases h:a < n
  ·rw [if_pos (List.mem_range.mpr h)]
  ·rw [if_neg fun z=>h (List.mem_range.mp z),hg a (Nat.le_of_not_lt h)]
theorem b7q {K r:Frag}:nsU (b8C K) (K ++ r)=nsIn (K ++ r):=by
 funext ns x
 unfold nsU
 rw [a00,a4T]
 cases e:K.lookup ns with
 | none=>rfl
 | some o =>
  obtain ⟨c,d,dt,sl⟩:=o
  cases dt with
  | dict es n =>
   have e2:(K ++ r).lookup ns=some ⟨c,d,.dict es n,sl⟩:=by rw [a8i,e]
   show foN (codeS x) (fun c=>(match a7q c x (es.toList.map fun e=>(a2Q e,e)) with
    | some e=>some (some e.val)
    | none=>if (es.toList.map fun e=>(a2Q e,e)).any (fun p=>p.2.refKey) then none else some none))=_
   unfold nsIn
   rw [a2C,a5O,List.any_map,e2] <;> rfl
  | _=>rfl
theorem b4L {g:Addr→Option Obj} {N:Nat} (n:Nat) (hg:∀ a,N≤a→g a=none):∃ K:Frag,(∀ a,K.lookup a=g a)∧∀ fa fn fx ts,b4K n N fa fn fx ts g=(obsX fa fn fx K,a2H ts K):=by
 obtain ⟨K,hK,q⟩:=a5Y (g:=g) n
 refine ⟨K ++ a7s g N,a6r hK hg,fun fa fn fx ts=>?_⟩
 unfold b4K
 rw [q,a78,b7q,b4I (by funext a;rw [a00,a6r hK hg]),a7D]
theorem b4f {h:Heap} {a:Addr} (k:h.objs.size≤a):h.get? a=none:=by
 unfold Heap.get?
 rw [Array.getElem?_eq_none k]
section
open HandSHeadRun
def c4h (r:OpenRow) (M:Nat) (w:World):Prop :=
 ∀ os:OsState,(endF (stepQ (denQ tabQ) r.prog w) M r.prog w os).map (fun s=>looksF r.prog (boot_heap w.params) s.abs)=some true
def c4i (r:OpenRow) (q:Program) (M:Nat) (loose:List Str) (w:World):Prop :=
 ∀ os:OsState,(endF (stepQ (denQ tabQ) r.prog w) M r.prog w os).map (fun s=>seenQ q loose (importedModules r.prog.main.body) (fun s=>xlAt q [] s && recOk r.toRowW.records s) s.abs)=some (openGood q loose)
def b5O (r:OpenRow) (M n:Nat) (fa:List He.Fa) (fn:List He.DefD) (fx:List Fx) (ts:List TbW) (w:World):Prop :=
 ∀ os:OsState,(endF (stepQ (denQ tabQ) r.prog w) M r.prog w os).map (fun s=>b4K n s.n fa fn fx ts (getT s))=some ((He.valD fn,true),a1V ts w)
variable {r:OpenRow} {q:Program} {M n:Nat} {loose:List Str} {w:World} {fa:List He.Fa} {fn:List He.DefD} {fx:List Fx} {ts:List TbW}
theorem b3s.l (h0:b3s r M false w) (h1:b3s r M true w):c4h r M w:=fun os=>a6P fun b=>match b with
 | false=>h0 os
 | true=>h1 os
theorem b3t.s (h0:b3t r q M loose false w) (h1:b3t r q M loose true w):c4i r q M loose w:=fun os=>a6P fun b=>match b with
 | false=>h0 os
 | true=>h1 os
theorem b3u.u (h0:b3u r M n fa fn fx ts false w) (h1:b3u r M n fa fn fx ts true w):b5O r M n fa fn fx ts w:=fun os=>a6P fun b=>match b with
 | false=>h0 os
 | true=>h1 os
theorem b2a {fa1 fa2:List He.Fa} {fn1 fn2:List He.DefD} {fx1 fx2:List Fx} {K:Frag} (h1:obsX fa1 fn1 fx1 K=(He.valD fn1,true)) (h2:obsX fa2 fn2 fx2 K=(He.valD fn2,true)):obsX (fa1 ++ fa2) (fn1 ++ fn2) (fx1 ++ fx2) K=(He.valD (fn1 ++ fn2),true):=by
 rw [← a7D] at h1 h2 ⊢
 unfold b4J He.valD at h1 h2 ⊢
 simp only [Prod.mk.injEq,zak] at h1 h2
 obtain ⟨⟨⟨a1,b1⟩,c1⟩,d1⟩:=h1
 obtain ⟨⟨⟨a2,b2⟩,c2⟩,d2⟩:=h2
 rw [List.all_append,List.all_append,List.all_append,zav,zav,a1,a2,b1,b2,c1,c2,d1,d2]
 rfl
theorem b5u {ts1 ts2:List TbW} {K:Frag} (h1:a2H ts1 K=a1V ts1 w) (h2:a2H ts2 K=a1V ts2 w):a2H (ts1 ++ ts2) K=a1V (ts1 ++ ts2) w:=by
 unfold a2H a1V at h1 h2 ⊢
 simp only [Prod.mk.injEq] at h1 h2
 obtain ⟨a1,b1⟩:=h1
 obtain ⟨a2,b2⟩:=h2
 rw [List.all_append,zav,zav,a1,a2,b1,b2]
 rfl
theorem b1I {s:SharedT} {a:Addr} (h:s.n≤a):getT s a=none:=by
 rw [getT_eq]
 exact b4f (by rw [show s.abs.heap.objs.size=s.n from absHeap_size s.tree s.n s.life];exact h)
theorem b5O.join (k1 k2 k3 k4:Nat) (h1:b5O r M n (fa.take k1) (fn.take k2) (fx.take k3) (ts.take k4) w) (h2:b5O r M n (fa.drop k1) (fn.drop k2) (fx.drop k3) (ts.drop k4) w):b5O r M n fa fn fx ts w:=by
 intro os
 have a:=h1 os
 have b:=h2 os
 cases e:endF (stepQ (denQ tabQ) r.prog w) M r.prog w os with
 | none =>
  rw [e] at a
  cases a
 | some s =>
  rw [e] at a b
  obtain ⟨K,_,q⟩:=b4L (g:=getT s) (N:=s.n) n fun a h=>b1I h
  have a:b4K n s.n (fa.take k1) (fn.take k2) (fx.take k3) (ts.take k4) (getT s)=_:=Option.some.inj a
  have b:b4K n s.n (fa.drop k1) (fn.drop k2) (fx.drop k3) (ts.drop k4) (getT s)=_:=Option.some.inj b
  rw [q] at a b
  obtain ⟨a1,a2⟩:=Prod.mk.inj a
  obtain ⟨b1,b2⟩:=Prod.mk.inj b
  have c:=b2a a1 b1
  have d:=b5u a2 b2
  simp only [List.take_append_drop] at c d
  show some (b4K n s.n fa fn fx ts (getT s))=_
  rw [q,c,d]
end
end Sv
namespace Sv
open PySem PySem.Spec PyProof.Rows L2
end Sv
namespace Cl
open PySem PySem.Spec PyProof.Rows L2 Sv
open L2H (RoomH)
def top (i:Nat):Stmt:=PySem.Challenge.pw_stillmain_k47_no_part.main.body.getD i (.Pass ⟨0,0,0,0⟩)
def fd (a:Str × Option Str) (n u:Str) (s:Stmt):He.DefD:=⟨a,n,u,defArgs s,defBody s,defScope s,[],[]⟩
def fn:List He.DefD:=[
 fd ("_law_bag",none) "_law_bag" "_law_bag" (top 54),
 fd ("_law_take",none) "_law_take" "_law_take" (top 55),
 fd ("Layout",some "__init__") "__init__" "Layout.__init__" (inClass (top 25) 0),
 fd ("wrong_unless",none) "wrong_unless" "wrong_unless" (top 23),
 fd ("is_name",none) "is_name" "is_name" (top 16),
 fd ("is_whole",none) "is_whole" "is_whole" (top 15),
 fd ("Layout",some "need_new") "need_new" "Layout.need_new" (inClass (top 25) 1),
 fd ("lacks_unless",none) "lacks_unless" "lacks_unless" (top 24),
 fd ("_law_bare",none) "_law_bare" "_law_bare" (top 66),
 fd ("must",none) "must" "must" (top 36),
 fd ("Layout",some "lines") "lines" "Layout.lines" (inClass (top 25) 11),
 fd ("Layout",some "rooms") "rooms" "Layout.rooms" (inClass (top 25) 10),
 fd ("need",none) "need" "need" (top 27),
 fd ("Layout",some "sources") "sources" "Layout.sources" (inClass (top 25) 13),
 fd ("steps_back",none) "steps_back" "steps_back" (top 44),
 fd ("arcs_left",none) "arcs_left" "arcs_left" (top 42),
 fd ("add_along",none) "add_along" "add_along" (top 46),
 fd ("left_along",none) "left_along" "left_along" (top 41),
 fd ("_law_class",none) "_law_class" "_law_class" (top 67),
 fd ("arcs_going",none) "arcs_going" "arcs_going" (top 43),
 fd ("_law_alike",none) "_law_alike" "_law_alike" (top 68),
 fd ("_law_size",none) "_law_size" "_law_size" (top 64),
 fd ("_law_name",none) "_law_name" "_law_name" (top 56),
 fd ("_law_some",none) "_law_some" "_law_some" (top 60),
 fd ("_law_ends",none) "_law_ends" "_law_ends" (top 58),
 fd ("_law_cost",none) "_law_cost" "_law_cost" (top 59),
 fd ("Layout",some "add_room") "add_room" "Layout.add_room" (inClass (top 25) 2),
 fd ("is_cost",none) "is_cost" "is_cost" (top 17),
 fd ("Layout",some "add_source") "add_source" "Layout.add_source" (inClass (top 25) 5),
 fd ("are_names",none) "are_names" "are_names" (top 18),
 fd ("Layout",some "line") "line" "Layout.line" (inClass (top 25) 14),
 fd ("must_be_rooms",none) "must_be_rooms" "must_be_rooms" (top 38),
 fd ("need_rooms",none) "need_rooms" "need_rooms" (top 29),
 fd ("Layout",some "lines_at") "lines_at" "Layout.lines_at" (inClass (top 25) 16),
 fd ("steps_to",none) "steps_to" "steps_to" (top 45),
 fd ("least_left",none) "least_left" "least_left" (top 47),
 fd ("rooms_behind",none) "rooms_behind" "rooms_behind" (top 49),
 fd ("Layout",some "take_source") "take_source" "Layout.take_source" (inClass (top 25) 9),
 fd ("Layout",some "take_line") "take_line" "Layout.take_line" (inClass (top 25) 7),
 fd ("_law_names",none) "_law_names" "_law_names" (top 57),
 fd ("Layout",some "add_line") "add_line" "Layout.add_line" (inClass (top 25) 3),
 fd ("_law_barred",none) "_law_barred" "_law_barred" (top 63),
 fd ("_law_stretch",none) "_law_stretch" "_law_stretch" (top 65),
 fd ("is_stretch",none) "is_stretch" "is_stretch" (top 19),
 fd ("must_be_switches",none) "must_be_switches" "must_be_switches" (top 37),
 fd ("limits_of",none) "limits_of" "limits_of" (top 39),
 fd ("need_switches",none) "need_switches" "need_switches" (top 28),
 fd ("other_end",none) "other_end" "other_end" (top 30),
 fd ("most_used",none) "most_used" "most_used" (top 48),
 fd ("border_of",none) "border_of" "border_of" (top 32),
 fd ("_law_works",none) "_law_works" "_law_works" (top 61),
 fd ("_law_layout",none) "_law_layout" "_law_layout" (top 62),
 fd ("distances",none) "distances" "distances" (top 31),
 fd ("nearer",none) "nearer" "nearer" (top 33),
 fd ("way_to",none) "way_to" "way_to" (top 34),
 fd ("must_part",none) "must_part" "must_part" (top 40),
 fd ("limits_asked",none) "limits_asked" "limits_asked" (top 50),
 fd ("least_lot",none) "least_lot" "least_lot" (top 51),
 fd ("ways_to",none) "ways_to" "ways_to" (top 52),
 fd ("_law_least_said",none) "_law_least_said" "_law_least_said" (top 69),
 fd ("_law_ways_said",none) "_law_ways_said" "_law_ways_said" (top 70),
 fd ("law",none) "law" "law" (top 71),
 fd ("Wrong",some "__init__") "__init__" "Wrong.__init__" (inClass (top 3) 0),
 fd ("There",some "__init__") "__init__" "There.__init__" (inClass (top 4) 0),
 fd ("Lacks",some "__init__") "__init__" "Lacks.__init__" (inClass (top 5) 0),
 fd ("TooMany",some "__init__") "__init__" "TooMany.__init__" (inClass (top 6) 0),
 fd ("Held",some "__init__") "__init__" "Held.__init__" (inClass (top 7) 0),
 fd ("NoPart",some "__init__") "__init__" "NoPart.__init__" (inClass (top 8) 0)]
def fa:List He.Fa:=[
 .glo "_law_bag",
 .glo "_law_take",
 .meth "Layout" "__init__",
 .cls "Layout",
 .mkr "Layout",
 .glo "wrong_unless",
 .glo "is_name",
 .glo "is_whole",
 .meth "Layout" "need_new",
 .glo "lacks_unless",
 .glo "_law_bare",
 .glo "must",
 .meth "Layout" "lines",
 .meth "Layout" "rooms",
 .glo "need",
 .meth "Layout" "sources",
 .glo "steps_back",
 .glo "arcs_left",
 .glo "add_along",
 .glo "left_along",
 .glo "_law_class",
 .glo "arcs_going",
 .glo "_law_alike",
 .glo "_law_size",
 .glo "_law_name",
 .glo "_law_some",
 .glo "_law_ends",
 .glo "_law_cost",
 .meth "Layout" "add_room",
 .glo "is_cost",
 .meth "Layout" "add_source",
 .glo "are_names",
 .meth "Layout" "line",
 .glo "must_be_rooms",
 .glo "need_rooms",
 .meth "Layout" "lines_at",
 .glo "steps_to",
 .glo "least_left",
 .glo "rooms_behind",
 .meth "Layout" "take_source",
 .meth "Layout" "take_line",
 .glo "_law_names",
 .meth "Layout" "add_line",
 .glo "_law_barred",
 .glo "_law_stretch",
 .glo "is_stretch",
 .glo "must_be_switches",
 .glo "limits_of",
 .glo "need_switches",
 .glo "other_end",
 .glo "most_used",
 .glo "border_of",
 .glo "_law_works",
 .glo "_law_layout",
 .glo "distances",
 .glo "nearer",
 .glo "way_to",
 .glo "must_part",
 .glo "limits_asked",
 .glo "least_lot",
 .glo "ways_to",
 .glo "_law_least_said",
 .glo "_law_ways_said",
 .glo "law",
 .glo "MainsError",
 .glo "Wrong",
 .glo "There",
 .glo "Lacks",
 .glo "TooMany",
 .glo "Held",
 .glo "NoPart",
 .glo "Layout",
 .free "len",
 .free "abs",
 .free "max",
 .free "min",
 .free "range",
 .free "isinstance",
 .free "repr",
 .free "list",
 .free "tuple",
 .free "dict",
 .free "sorted",
 .free "sum",
 .free "enumerate",
 .free "zip",
 .free "reversed",
 .free "str",
 .free "int",
 .free "bool",
 .free "set",
 .free "ValueError",
 .free "any",
 .free "all",
 .str "LETTERS" "abcdefghijklmnopqrstuvwxyz",
 .int "LONGEST" 8,
 .int "MOST_COST" 99,
 .int "MOST_NAMES" 60,
 .int "MOST_STRETCH" 24,
 .int "MOST_ROOMS" 24,
 .int "MOST_LINES" 40,
 .noat "Layout" "by_room",
 .noat "Layout" "ends_of",
 .noat "Layout" "seat_of",
 .noat "Layout" "pushed"]
def fx:List Fx:=[
 .oex "Wrong",
 .ini "Wrong",
 .nov "Wrong" "at",
 .oex "There",
 .ini "There",
 .nov "There" "name",
 .oex "Lacks",
 .ini "Lacks",
 .nov "Lacks" "name",
 .oex "TooMany",
 .ini "TooMany",
 .nov "TooMany" "most",
 .oex "Held",
 .ini "Held",
 .nov "Held" "hands",
 .oex "NoPart",
 .ini "NoPart",
 .nov "NoPart" "way",
 .bas "MainsError",
 .sib ["Wrong", "There", "Lacks", "TooMany", "Held", "NoPart"],
 .veT ["Wrong", "There", "Lacks", "TooMany", "Held", "NoPart"] "ValueError",
 .exA ["Wrong", "There", "Lacks", "TooMany", "Held", "NoPart"] "MainsError",
 .exfs ["Wrong", "There", "Lacks", "TooMany", "Held", "NoPart"],
 .insf "Layout"]
def nm0:List Str:=["_wall", "__name__", "MainsError", "Wrong", "There", "Lacks", "TooMany", "Held", "NoPart", "LETTERS", "LONGEST", "MOST_COST", "MOST_NAMES", "MOST_STRETCH", "is_whole", "is_name", "is_cost", "are_names", "is_stretch", "MOST_ROOMS", "MOST_LINES", "wrong_unless", "lacks_unless", "Layout", "need", "need_switches", "need_rooms", "other_end", "distances", "border_of"]
def nm1:List Str:=["nearer", "way_to", "must", "must_be_switches", "must_be_rooms", "limits_of", "must_part", "left_along", "arcs_left", "arcs_going", "steps_back", "steps_to", "add_along", "least_left", "most_used", "rooms_behind", "limits_asked", "least_lot", "ways_to", "_law_bag", "_law_take", "_law_name", "_law_names", "_law_ends", "_law_cost", "_law_some", "_law_works", "_law_layout", "_law_barred", "_law_size"]
def nm2:List Str:=["_law_stretch", "_law_bare", "_law_class", "_law_alike", "_law_least_said", "_law_ways_said"]
def names:List Str:=nm0 ++ nm1 ++ nm2
abbrev R:PySem.W.OpenRow:=PySem.W.OpenLaw.row PySem.Challenge.rw_stillmain_k47_no_part
noncomputable abbrev hk:PySem.W.Hook:=b6Y 5 fa fn fx
noncomputable def ob (s:PySem.W.SharedT):AlX:=a9i 5 fa fn fx (HandSHeadRun.getT s)
theorem ob_eq (s:PySem.W.SharedT):ob s=hk.obs s.abs:=b4H (HandSHeadRun.getT_eq s)
theorem run (w:World):HandSHeadRun.RunEq R (PySem.W.view R.prog [71]) hk ob 20000 names w:=by
 intro os
 kernel_rfl
def c3P:List En:=[.fn "_law_bag",.fn "_law_take",.mt "Layout" "__init__",.fn "wrong_unless",.fn "is_name",.fn "is_whole",.mt "Layout" "need_new",.fn "lacks_unless",.fn "_law_bare",.fn "must",.mt "Layout" "lines",.mt "Layout" "rooms",.fn "need",.mt "Layout" "sources",.fn "steps_back",.fn "arcs_left",.fn "add_along",.fn "left_along",.fn "_law_class",.fn "arcs_going",.fn "_law_alike",.fn "_law_size",.fn "_law_name",.fn "_law_some",.fn "_law_ends",.fn "_law_cost",.mt "Layout" "add_room",.fn "is_cost",.mt "Layout" "add_source",.fn "are_names",.mt "Layout" "line",.fn "must_be_rooms",.fn "need_rooms",.mt "Layout" "lines_at",.fn "steps_to",.fn "least_left",.fn "rooms_behind",.mt "Layout" "take_source",.mt "Layout" "take_line",.fn "_law_names",.mt "Layout" "add_line",.fn "_law_barred",.fn "_law_stretch",.fn "is_stretch",.fn "must_be_switches",.fn "limits_of",.fn "need_switches",.fn "other_end",.fn "most_used",.fn "border_of",.fn "_law_works",.fn "_law_layout",.fn "distances",.fn "nearer",.fn "way_to",.fn "must_part",.fn "limits_asked",.fn "least_lot",.fn "ways_to",.fn "_law_least_said",.fn "_law_ways_said",.fn "law"]
def b6h:List Str:=["MainsError", "Wrong", "There", "Lacks", "TooMany", "Held", "NoPart", "Layout"]
def c1m:List Str:=["LETTERS", "LONGEST", "MOST_COST", "MOST_NAMES", "MOST_STRETCH", "MOST_ROOMS", "MOST_LINES"]
abbrev sn (N:List Str):SN:=⟨N,c3P,b6h,c1m⟩
abbrev CK (N:List Str) (s:Stmt) (b:RSs):Prop:=a1u (sn N) (defScope s) b (defBody s)=true
local macro_rules | `(tactic| walk_at "ck")=>`(tactic| decide +kernel)
local macro_rules | `(tactic| walk_at "fs")=>`(tactic| exact ⟨rfl,rfl,rfl,by decide +kernel,rfl,by decide +kernel,by decide +kernel⟩)
def N0:List Str:=["_law_script", "_law_cell"]
def b0:RSs:=.cons (.ret (.lst true (.cons (.con (.int 0)) (.cons (.con (.int 1234567891)) (.cons (.con (.int 0)) (.cons (.lc false (.bi .abs (.cons (.var 1) .nil)) [1] true (.lst (.sl (.var 0) (.nn) (.ss (.con (.int 63))))) (.nn) [("_law_cell",1)]) .nil)))))) .nil
theorem sc0:FnScope N0 ["_law_script"] (defScope (top 54)):=by walk_at "fs"
theorem ck0:CK N0 (top 54) b0:=by walk_at "ck"
def N1:List Str:=["_law_bag_here", "_law_many", "_law_cell", "_law_value", "_law_first", "_law_second"]
def b1:RSs:=.cut (.ifs (.cmp .Eq (.ix (.var 0) (.con (.int 0))) (.con (.int 0))) (.cons (.asg [2] true (.con (.int 0))) (.cut (.ifs (.cmp .Lt (.ix (.var 0) (.con (.int 2))) (.bi .len (.cons (.ix (.var 0) (.con (.int 3))) .nil))) (.cons (.asg [2] true (.ix (.ix (.var 0) (.con (.int 3))) (.ix (.var 0) (.con (.int 2))))) .nil) (.nil)) (.cons (.agi (.var 0) (.con (.int 2)) .Add (.con (.int 1))) (.cut (.ifs (.cmp .GtE (.var 2) (.con (.int 1000000000000000000))) (.cons (.sti (.var 0) (.con (.int 0)) (.var 2)) .nil) (.nil)) (.cons (.sti (.var 0) (.con (.int 1)) (.bin .Mod (.bin .Add (.bin .Add (.bin .Mult (.ix (.var 0) (.con (.int 1))) (.con (.int 48271))) (.bin .Mod (.var 2) (.con (.int 2147483647)))) (.bin .Mult (.con (.int 7919)) (.ix (.var 0) (.con (.int 2))))) (.con (.int 2147483647)))) .nil))))) (.nil)) (.cons (.ifs (.cmp .Gt (.ix (.var 0) (.con (.int 0))) (.con (.int 0))) (.cons (.asg [3] true (.bin .Mod (.ix (.var 0) (.con (.int 0))) (.var 1))) (.cons (.sti (.var 0) (.con (.int 0)) (.bin .FloorDiv (.ix (.var 0) (.con (.int 0))) (.var 1))) (.cons (.ret (.var 3)) .nil))) (.nil)) (.cons (.asg [4] true (.bin .Mod (.bin .Mult (.bin .Add (.ix (.var 0) (.con (.int 1))) (.con (.int 1))) (.con (.int 39373))) (.con (.int 1000000007)))) (.cons (.asg [5] true (.bin .Mod (.bin .Mult (.bin .Mod (.bin .Mult (.var 4) (.var 4)) (.con (.int 998244353))) (.con (.int 30011))) (.con (.int 998244353)))) (.cons (.ifs (.cmp .Gt (.var 1) (.con (.int 1000000))) (.cons (.ret (.bin .Mod (.bin .Add (.bin .Mult (.var 5) (.con (.int 1000000007))) (.var 4)) (.var 1))) .nil) (.nil)) (.cons (.ret (.bin .Mod (.bin .FloorDiv (.var 5) (.con (.int 7))) (.var 1))) .nil)))))
theorem sc1:FnScope N1 ["_law_bag_here", "_law_many"] (defScope (top 55)):=by walk_at "fs"
theorem ck1:CK N1 (top 55) b1:=by walk_at "ck"
def N2:List Str:=["self"]
def b2:RSs:=.cons (.stf (.var 0) "by_room" (.dct true (.nil))) (.cons (.stf (.var 0) "ends_of" (.dct true (.nil))) (.cons (.stf (.var 0) "seat_of" (.dct true (.nil))) (.cons (.stf (.var 0) "pushed" (.dct true (.nil))) .nil)))
theorem sc2:FnScope N2 ["self"] (defScope (inClass (top 25) 0)):=by walk_at "fs"
theorem ck2:CK N2 (inClass (top 25) 0) b2:=by walk_at "ck"
def N3:List Str:=["at", "good"]
def b3:RSs:=.cons (.ifs (.nt (.var 1)) (.cons (.rai 1 (.cons (.var 0) .nil)) .nil) (.nil)) .nil
theorem sc3:FnScope N3 ["at", "good"] (defScope (top 23)):=by walk_at "fs"
theorem ck3:CK N3 (top 23) b3:=by walk_at "ck"
def N4:List Str:=["thing", "sign"]
def b4:RSs:=.cons (.ifs (.or (.cons (.nt (.isi (.var 0) (.ty "str"))) (.cons (.nt (.chn .LtE .LtE (.con (.int 1)) (.bi .len (.cons (.var 0) .nil)) (.glb 1))) .nil))) (.cons (.ret (.con (.bl false))) .nil) (.nil)) (.cons (.fr [1] true (.str (.var 0)) (.cons (.ifs (.cmp .NotIn (.var 1) (.glb 0)) (.cons (.ret (.con (.bl false))) .nil) (.nil)) .nil)) (.cons (.ret (.con (.bl true))) .nil))
theorem sc4:FnScope N4 ["thing"] (defScope (top 16)):=by walk_at "fs"
theorem ck4:CK N4 (top 16) b4:=by walk_at "ck"
def N5:List Str:=["thing"]
def b5:RSs:=.cons (.ret (.and (.cons (.isi (.var 0) (.ty "int")) (.cons (.nt (.isi (.var 0) (.ty "bool"))) .nil)))) .nil
theorem sc5:FnScope N5 ["thing"] (defScope (top 15)):=by walk_at "fs"
theorem ck5:CK N5 (top 15) b5:=by walk_at "ck"
def N6:List Str:=["self", "name"]
def b6:RSs:=.cons (.ifs (.or (.cons (.cmp .In (.var 1) (.fld (.var 0) "ends_of")) (.cons (.cmp .In (.var 1) (.fld (.var 0) "seat_of")) .nil))) (.cons (.rai 2 (.cons (.var 1) .nil)) .nil) (.nil)) .nil
theorem sc6:FnScope N6 ["self", "name"] (defScope (inClass (top 25) 1)):=by walk_at "fs"
theorem ck6:CK N6 (inClass (top 25) 1) b6:=by walk_at "ck"
def N7:List Str:=["name", "some"]
def b7:RSs:=.cons (.ifs (.cmp .NotIn (.var 0) (.var 1)) (.cons (.rai 3 (.cons (.var 0) .nil)) .nil) (.nil)) .nil
theorem sc7:FnScope N7 ["name", "some"] (defScope (top 24)):=by walk_at "fs"
theorem ck7:CK N7 (top 24) b7:=by walk_at "ck"
def N8:List Str:=["_law_m", "_law_barred_here", "_law_rooms", "_law_bare_here", "_law_far", "_law_k", "_law_name_here", "_law_one", "_law_other", "_law_cost_here", "_law_starts", "_law_way", "_law_here", "_law_there", "_law_room"]
def b8:RSs:=.cons (.asl 3 (.lc false (.var 6) [6] true (.lst (.bi (.srt false) (.cons (.ix (.var 0) (.con (.str "lines"))) .nil))) (.ss (.or (.cons (.cmp .Eq (.ix (.ix (.ix (.var 0) (.con (.str "lines"))) (.var 6)) (.con (.int 2))) (.con (.int 0))) (.cons (.cmp .In (.var 6) (.var 1)) .nil)))) [("_law_name_here",6)])) (.cons (.asg [4] true (.bi (.dcp true) (.cons (.lc false (.tup (.cons (.var 14) (.cons (.con (.int 0)) .nil))) [14] true (.lst (.var 2)) (.nn) [("_law_room",14)]) .nil))) (.cons (.fr [5] true (.rng1 (.bi .len (.cons (.ix (.var 0) (.con (.str "rooms"))) .nil))) (.cons (.fr [6] true (.lst (.var 3)) (.cons (.asg [7,8,9] false (.ix (.ix (.var 0) (.con (.str "lines"))) (.var 6))) (.cut (.ifs (.and (.cons (.cmp .Eq (.mth .dget (.var 4) (.cons (.var 7) .nil)) (.var 5)) (.cons (.cmp .NotIn (.var 8) (.var 4)) .nil))) (.cons (.sti (.var 4) (.var 8) (.bin .Add (.var 5) (.con (.int 1)))) .nil) (.nil)) (.cons (.ifs (.and (.cons (.cmp .Eq (.mth .dget (.var 4) (.cons (.var 8) .nil)) (.var 5)) (.cons (.cmp .NotIn (.var 7) (.var 4)) .nil))) (.cons (.sti (.var 4) (.var 7) (.bin .Add (.var 5) (.con (.int 1)))) .nil) (.nil)) .nil)))) .nil)) (.cons (.asg [10] true (.bi (.srl false) (.cons (.lc false (.tup (.cons (.ix (.var 4) (.var 14)) (.cons (.var 14) .nil))) [14] true (.lst (.ix (.var 0) (.con (.str "sources")))) (.ss (.cmp .In (.var 14) (.var 4))) [("_law_room",14)]) .nil))) (.cons (.ifs (.cmp .Eq (.var 10) (.lst false (.nil))) (.cons (.ret (.con .non)) .nil) (.nil)) (.cons (.asg [11] true (.lst false (.cons (.ix (.ix (.var 10) (.con (.int 0))) (.con (.int 1))) .nil))) (.cons (.wh (.cmp .Gt (.ix (.var 4) (.ix (.var 11) (.neg (.con (.int 1))))) (.con (.int 0))) (.cons (.asg [12] true (.ix (.var 11) (.neg (.con (.int 1))))) (.cons (.fr [6] true (.lst (.var 3)) (.cons (.asg [7,8,9] false (.ix (.ix (.var 0) (.con (.str "lines"))) (.var 6))) (.cons (.asg [13] true (.ix (.lst false (.cons (.var 7) (.cons (.var 8) .nil))) (.bi .int (.cons (.cmp .Eq (.var 7) (.var 12)) .nil)))) (.cons (.ifs (.and (.cons (.cmp .In (.var 12) (.tup (.cons (.var 7) (.cons (.var 8) .nil)))) (.cons (.cmp .Eq (.mth .dget (.var 4) (.cons (.var 13) .nil)) (.bin .Sub (.ix (.var 4) (.var 12)) (.con (.int 1)))) .nil))) (.cons (.asg [11] true (.bin .Add (.var 11) (.lst false (.cons (.var 6) (.cons (.var 13) .nil))))) (.cons (.brk) .nil)) (.nil)) .nil)))) .nil))) (.cons (.ret (.var 11)) .nil)))))))
theorem sc8:FnScope N8 ["_law_m", "_law_barred_here", "_law_rooms"] (defScope (top 66)):=by walk_at "fs"
theorem ck8:CK N8 (top 66) b8:=by walk_at "ck"
def N9:List Str:=["at", "good"]
def b9:RSs:=.cons (.ifs (.nt (.var 1)) (.cons (.rai 1 (.cons (.var 0) .nil)) .nil) (.nil)) .nil
theorem sc9:FnScope N9 ["at", "good"] (defScope (top 36)):=by walk_at "fs"
theorem ck9:CK N9 (top 36) b9:=by walk_at "ck"
def N10:List Str:=["self"]
def b10:RSs:=.cons (.ret (.bi (.srt false) (.cons (.fld (.var 0) "ends_of") .nil))) .nil
theorem c6T:FnScope N10 ["self"] (defScope (inClass (top 25) 11)):=by walk_at "fs"
theorem c4s:CK N10 (inClass (top 25) 11) b10:=by walk_at "ck"
def N11:List Str:=["self"]
def b11:RSs:=.cons (.ret (.bi (.srt false) (.cons (.fld (.var 0) "by_room") .nil))) .nil
theorem c6U:FnScope N11 ["self"] (defScope (inClass (top 25) 10)):=by walk_at "fs"
theorem c4t:CK N11 (inClass (top 25) 10) b11:=by walk_at "ck"
def N12:List Str:=["at", "good"]
def b12:RSs:=.cons (.ifs (.nt (.var 1)) (.cons (.rai 1 (.cons (.var 0) .nil)) .nil) (.nil)) .nil
theorem c6V:FnScope N12 ["at", "good"] (defScope (top 27)):=by walk_at "fs"
theorem c4u:CK N12 (top 27) b12:=by walk_at "ck"
def N13:List Str:=["self"]
def b13:RSs:=.cons (.ret (.bi (.srt false) (.cons (.fld (.var 0) "pushed") .nil))) .nil
theorem c6W:FnScope N13 ["self"] (defScope (inClass (top 25) 13)):=by walk_at "fs"
theorem c4v:CK N13 (inClass (top 25) 13) b13:=by walk_at "ck"
def N14:List Str:=["came", "room", "found", "name", "ahead"]
def b14:RSs:=.cons (.asg [2] true (.lst true (.nil))) (.cons (.wh (.cmp .IsNot (.ix (.var 0) (.var 1)) (.con .non)) (.cons (.asg [3,4] false (.ix (.var 0) (.var 1))) (.cons (.exp (.mth .app (.var 2) (.cons (.tup (.cons (.var 4) (.cons (.var 3) (.cons (.var 1) .nil)))) .nil))) (.cons (.asg [1] true (.var 4)) .nil)))) (.cons (.ret (.rev false (.var 2))) .nil))
theorem c6X:FnScope N14 ["came", "room"] (defScope (top 44)):=by walk_at "fs"
theorem c4w:CK N14 (top 44) b14:=by walk_at "ck"
def N15:List Str:=["limits", "used", "found", "name", "one", "other", "limit"]
def b15:RSs:=.cons (.asg [2] true (.dct true (.nil))) (.cons (.lck (.fr [3] true (.keys (.var 0)) (.cons (.asg [4,5,6] false (.ix (.var 0) (.var 3))) (.cut (.ifs (.or (.cons (.cmp .Is (.var 6) (.con .non)) (.cons (.cmp .Gt (.bin .Sub (.var 6) (.ix (.var 1) (.var 3))) (.con (.int 0))) .nil))) (.cons (.exp (.mth .app (.mth .dset (.var 2) (.cons (.var 4) (.cons (.lst true (.nil)) .nil))) (.cons (.tup (.cons (.var 3) (.cons (.var 5) .nil))) .nil))) .nil) (.nil)) (.cons (.ifs (.or (.cons (.cmp .Is (.var 6) (.con .non)) (.cons (.cmp .Gt (.bin .Add (.var 6) (.ix (.var 1) (.var 3))) (.con (.int 0))) .nil))) (.cons (.exp (.mth .app (.mth .dset (.var 2) (.cons (.var 5) (.cons (.lst true (.nil)) .nil))) (.cons (.tup (.cons (.var 3) (.cons (.var 4) .nil))) .nil))) .nil) (.nil)) .nil))))) (.cons (.ret (.var 2)) .nil))
theorem c6Y:FnScope N15 ["limits", "used"] (defScope (top 42)):=by walk_at "fs"
theorem c4x:CK N15 (top 42) b15:=by walk_at "ck"
def N16:List Str:=["limits", "used", "steps", "amount", "here", "name", "there"]
def b16:RSs:=.cons (.fr [4,5,6] false (.lst (.var 2)) (.cons (.ifs (.cmp .Eq (.var 4) (.ix (.ix (.var 0) (.var 5)) (.con (.int 0)))) (.cons (.agi (.var 1) (.var 5) .Add (.var 3)) .nil) (.cons (.agi (.var 1) (.var 5) .Sub (.var 3)) .nil)) .nil)) .nil
theorem c6Z:FnScope N16 ["limits", "used", "steps", "amount"] (defScope (top 46)):=by walk_at "fs"
theorem c4y:CK N16 (top 46) b16:=by walk_at "ck"
def N17:List Str:=["limit", "used", "there"]
def b17:RSs:=.cons (.ifs (.cmp .Is (.var 0) (.con .non)) (.cons (.ret (.con .non)) .nil) (.nil)) (.cons (.ifs (.var 2) (.cons (.ret (.bin .Sub (.var 0) (.var 1))) .nil) (.nil)) (.cons (.ret (.bin .Add (.var 0) (.var 1))) .nil))
theorem c60:FnScope N17 ["limit", "used", "there"] (defScope (top 41)):=by walk_at "fs"
theorem c4z:CK N17 (top 41) b17:=by walk_at "ck"
def N18:List Str:=["_law_e", "_law_kinds", "_law_way"]
def b18:RSs:=.cons (.asg [1] true (.lst false (.cons (.isi (.var 0) (.own 1)) (.cons (.isi (.var 0) (.own 3)) (.cons (.isi (.var 0) (.own 6)) .nil))))) (.cons (.asg [1] true (.bin .Add (.var 1) (.lst false (.cons (.isi (.var 0) (.own 2)) (.cons (.isi (.var 0) (.own 4)) (.cons (.isi (.var 0) (.own 5)) .nil)))))) (.cons (.ifs (.or (.cons (.nt (.isi (.var 0) (.ty "ValueError"))) (.cons (.cmp .NotEq (.mth .cnt (.var 1) (.cons (.con (.bl true)) .nil)) (.con (.int 1))) (.cons (.cmp .In (.con (.bl true)) (.sl (.var 1) (.ss (.con (.int 3))) (.nn))) .nil)))) (.cons (.ret (.tup (.cons (.con (.str "other")) .nil))) .nil) (.nil)) (.cons (.ifs (.ix (.var 1) (.con (.int 0))) (.cons (.ret (.tup (.cons (.con (.str "Wrong")) (.cons (.fld (.var 0) "at") .nil)))) .nil) (.nil)) (.cons (.ifs (.ix (.var 1) (.con (.int 1))) (.cons (.ret (.tup (.cons (.con (.str "Lacks")) (.cons (.fld (.var 0) "name") .nil)))) .nil) (.nil)) (.cons (.asg [2] true (.bi (.lst false) (.cons (.fld (.var 0) "way") .nil))) (.cons (.exp (.mth .app (.fld (.var 0) "way") (.cons (.con (.str "zy")) .nil))) (.cons (.sti (.fld (.var 0) "way") (.con (.int 0)) (.con (.str "zz"))) (.cons (.ret (.tup (.cons (.con (.str "NoPart")) (.cons (.var 2) .nil)))) .nil))))))))
theorem c61:FnScope N18 ["_law_e"] (defScope (top 67)):=by walk_at "fs"
theorem c4A:CK N18 (top 67) b18:=by walk_at "ck"
def N19:List Str:=["limits", "used", "found", "name", "one", "other", "limit"]
def b19:RSs:=.cons (.asg [2] true (.dct true (.nil))) (.cons (.lck (.fr [3] true (.keys (.var 0)) (.cons (.asg [4,5,6] false (.ix (.var 0) (.var 3))) (.cut (.ifs (.cmp .Gt (.ix (.var 1) (.var 3)) (.con (.int 0))) (.cons (.exp (.mth .app (.mth .dset (.var 2) (.cons (.var 4) (.cons (.lst true (.nil)) .nil))) (.cons (.tup (.cons (.var 3) (.cons (.var 5) .nil))) .nil))) .nil) (.nil)) (.cons (.ifs (.cmp .Lt (.ix (.var 1) (.var 3)) (.con (.int 0))) (.cons (.exp (.mth .app (.mth .dset (.var 2) (.cons (.var 5) (.cons (.lst true (.nil)) .nil))) (.cons (.tup (.cons (.var 3) (.cons (.var 4) .nil))) .nil))) .nil) (.nil)) .nil))))) (.cons (.ret (.var 2)) .nil))
theorem c62:FnScope N19 ["limits", "used"] (defScope (top 43)):=by walk_at "fs"
theorem c4B:CK N19 (top 43) b19:=by walk_at "ck"
def N20:List Str:=["_law_found", "_law_due"]
def b20:RSs:=.cons (.ret (.and (.cons (.cmp .Eq (.var 0) (.var 1)) (.cons (.cmp .Eq (.bi .rpr (.cons (.var 0) .nil)) (.bi .rpr (.cons (.var 1) .nil))) .nil)))) .nil
theorem c63:FnScope N20 ["_law_found", "_law_due"] (defScope (top 68)):=by walk_at "fs"
theorem c4C:CK N20 (top 68) b20:=by walk_at "ck"
def N21:List Str:=["_law_bag_here", "_law_way"]
def b21:RSs:=.cons (.asg [1] true (.call 1 (.cons (.var 0) (.cons (.con (.int 4)) .nil)))) (.cons (.ifs (.cmp .Eq (.var 1) (.con (.int 0))) (.cons (.ret (.tup (.cons (.con (.int 24)) (.cons (.con (.int 40)) .nil)))) .nil) (.nil)) (.cons (.ifs (.cmp .Eq (.var 1) (.con (.int 1))) (.cons (.ret (.tup (.cons (.bin .Add (.con (.int 1)) (.call 1 (.cons (.var 0) (.cons (.con (.int 24)) .nil)))) (.cons (.call 1 (.cons (.var 0) (.cons (.con (.int 41)) .nil))) .nil)))) .nil) (.nil)) (.cons (.ret (.tup (.cons (.bin .Add (.con (.int 2)) (.call 1 (.cons (.var 0) (.cons (.con (.int 6)) .nil)))) (.cons (.bin .Add (.con (.int 3)) (.call 1 (.cons (.var 0) (.cons (.con (.int 14)) .nil)))) .nil)))) .nil)))
theorem c64:FnScope N21 ["_law_bag_here"] (defScope (top 64)):=by walk_at "fs"
theorem c4D:CK N21 (top 64) b21:=by walk_at "ck"
def N22:List Str:=["_law_bag_here", "_law_words", "_law_way", "_law_letters", "_law_k"]
def b22:RSs:=.cons (.asg [1] true (.lst false (.cons (.con (.str "open")) (.cons (.con (.str "shut")) (.cons (.con (.str "by")) (.cons (.con (.str "step")) (.cons (.con (.str "none")) (.cons (.con (.str "paper")) (.cons (.con (.str "at")) (.cons (.con (.str "done")) (.cons (.con (.str "a")) (.cons (.con (.str "aa")) (.cons (.con (.str "ab")) (.cons (.con (.str "b")) .nil)))))))))))))) (.cons (.asg [2] true (.call 1 (.cons (.var 0) (.cons (.con (.int 4)) .nil)))) (.cons (.ifs (.cmp .Eq (.var 2) (.con (.int 0))) (.cons (.ret (.ix (.var 1) (.call 1 (.cons (.var 0) (.cons (.con (.int 12)) .nil))))) .nil) (.nil)) (.cons (.asg [3] true (.con (.str "abcdefghijklmnopqrstuvwxyz"))) (.cons (.ret (.mth .join (.con (.str "")) (.cons (.lc false (.ix (.var 3) (.call 1 (.cons (.var 0) (.cons (.con (.int 26)) .nil)))) [4] true (.rng1 (.bin .Add (.con (.int 1)) (.call 1 (.cons (.var 0) (.cons (.ix (.lst false (.cons (.con (.int 2)) (.cons (.con (.int 8)) (.cons (.con (.int 1)) .nil)))) (.bin .Sub (.var 2) (.con (.int 1)))) .nil))))) (.nn) [("_law_k",4)]) .nil))) .nil))))
theorem c65:FnScope N22 ["_law_bag_here"] (defScope (top 56)):=by walk_at "fs"
theorem c4E:CK N22 (top 56) b22:=by walk_at "ck"
def N23:List Str:=["_law_bag_here", "_law_names_here", "_law_many", "_law_found", "_law_k", "_law_name_here"]
def b23:RSs:=.cons (.asg [3] true (.lst true (.nil))) (.cons (.fr [4] true (.rng1 (.bin .Mult (.var 2) (.bi .int (.cons (.cmp .NotEq (.var 1) (.lst false (.nil))) .nil)))) (.cons (.asg [5] true (.ix (.var 1) (.call 1 (.cons (.var 0) (.cons (.bi .len (.cons (.var 1) .nil)) .nil))))) (.cons (.ifs (.cmp .NotIn (.var 5) (.var 3)) (.cons (.exp (.mth .app (.var 3) (.cons (.var 5) .nil))) .nil) (.nil)) .nil))) (.frz 3 (.cons (.ret (.var 3)) .nil)))
theorem c66:FnScope N23 ["_law_bag_here", "_law_names_here", "_law_many"] (defScope (top 60)):=by walk_at "fs"
theorem c4F:CK N23 (top 60) b23:=by walk_at "ck"
def N24:List Str:=["_law_bag_here", "_law_many", "_law_shape", "_law_k", "_law_half", "_law_heap"]
def b24:RSs:=.cons (.asg [4] true (.bin .FloorDiv (.bin .Add (.var 1) (.con (.int 1))) (.con (.int 2)))) (.cons (.ifs (.cmp .Eq (.var 2) (.con (.int 0))) (.cons (.ret (.tup (.cons (.call 1 (.cons (.var 0) (.cons (.var 1) .nil))) (.cons (.call 1 (.cons (.var 0) (.cons (.var 1) .nil))) .nil)))) .nil) (.nil)) (.cons (.ifs (.cmp .Eq (.var 2) (.con (.int 1))) (.cons (.ret (.tup (.cons (.bin .Mod (.var 3) (.var 1)) (.cons (.bin .Mod (.bin .Add (.bin .Add (.var 3) (.con (.int 1))) (.bin .Mult (.call 1 (.cons (.var 0) (.cons (.con (.int 2)) .nil))) (.call 1 (.cons (.var 0) (.cons (.var 1) .nil))))) (.var 1)) .nil)))) .nil) (.nil)) (.cons (.ifs (.cmp .Eq (.var 2) (.con (.int 2))) (.cons (.ret (.tup (.cons (.bin .Mod (.var 3) (.var 1)) (.cons (.call 1 (.cons (.var 0) (.cons (.bin .Add (.con (.int 1)) (.bin .Mod (.var 3) (.var 1))) .nil))) .nil)))) .nil) (.nil)) (.cons (.ifs (.cmp .Eq (.call 1 (.cons (.var 0) (.cons (.con (.int 5)) .nil))) (.con (.int 0))) (.cons (.ret (.tup (.cons (.call 1 (.cons (.var 0) (.cons (.var 4) .nil))) (.cons (.bin .Mod (.bin .Add (.var 4) (.call 1 (.cons (.var 0) (.cons (.var 1) .nil)))) (.var 1)) .nil)))) .nil) (.nil)) (.cons (.asg [5] true (.bin .Mult (.call 1 (.cons (.var 0) (.cons (.con (.int 2)) .nil))) (.var 4))) (.cons (.ret (.tup (.cons (.bin .Mod (.bin .Add (.var 5) (.call 1 (.cons (.var 0) (.cons (.var 4) .nil)))) (.var 1)) (.cons (.bin .Mod (.bin .Add (.var 5) (.call 1 (.cons (.var 0) (.cons (.var 4) .nil)))) (.var 1)) .nil)))) .nil))))))
theorem c67:FnScope N24 ["_law_bag_here", "_law_many", "_law_shape", "_law_k"] (defScope (top 58)):=by walk_at "fs"
theorem c4G:CK N24 (top 58) b24:=by walk_at "ck"
def N25:List Str:=["_law_bag_here", "_law_costs", "_law_way"]
def b25:RSs:=.cons (.asg [2] true (.call 1 (.cons (.var 0) (.cons (.con (.int 6)) .nil)))) (.cons (.ifs (.cmp .Eq (.var 2) (.con (.int 0))) (.cons (.ret (.con (.int 0))) .nil) (.nil)) (.cons (.ifs (.or (.cons (.cmp .Eq (.var 1) (.con (.int 0))) (.cons (.cmp .Eq (.var 2) (.con (.int 1))) .nil))) (.cons (.ret (.con (.int 1))) .nil) (.nil)) (.cons (.ifs (.or (.cons (.cmp .Eq (.var 1) (.con (.int 1))) (.cons (.cmp .Eq (.var 2) (.con (.int 2))) .nil))) (.cons (.ret (.bin .Add (.con (.int 1)) (.call 1 (.cons (.var 0) (.cons (.con (.int 3)) .nil))))) .nil) (.nil)) (.cons (.ret (.bin .Add (.con (.int 1)) (.call 1 (.cons (.var 0) (.cons (.con (.int 99)) .nil))))) .nil))))
theorem c68:FnScope N25 ["_law_bag_here", "_law_costs"] (defScope (top 59)):=by walk_at "fs"
theorem c4H:CK N25 (top 59) b25:=by walk_at "ck"
def N26:List Str:=["self", "room"]
def b26:RSs:=.cons (.exp (.call 3 (.cons (.con (.int 0)) (.cons (.call 4 (.cons (.var 1) .nil)) .nil)))) (.cons (.ifs (.cmp .In (.var 1) (.fld (.var 0) "by_room")) (.cons (.rai 2 (.cons (.var 1) .nil)) .nil) (.nil)) (.cons (.ifs (.cmp .GtE (.bi .len (.cons (.fld (.var 0) "by_room") .nil)) (.glb 5)) (.cons (.rai 4 (.cons (.glb 5) .nil)) .nil) (.nil)) (.cons (.sti (.fld (.var 0) "by_room") (.var 1) (.con (.bl true))) .nil)))
theorem c69:FnScope N26 ["self", "room"] (defScope (inClass (top 25) 2)):=by walk_at "fs"
theorem c4I:CK N26 (inClass (top 25) 2) b26:=by walk_at "ck"
def N27:List Str:=["thing"]
def b27:RSs:=.cons (.ret (.and (.cons (.call 5 (.cons (.var 0) .nil)) (.cons (.chn .LtE .LtE (.con (.int 0)) (.var 0) (.glb 2)) .nil)))) .nil
theorem c7a:FnScope N27 ["thing"] (defScope (top 17)):=by walk_at "fs"
theorem c4J:CK N27 (top 17) b27:=by walk_at "ck"
def N28:List Str:=["self", "room"]
def b28:RSs:=.cons (.exp (.call 3 (.cons (.con (.int 0)) (.cons (.call 4 (.cons (.var 1) .nil)) .nil)))) (.cons (.exp (.call 7 (.cons (.var 1) (.cons (.fld (.var 0) "by_room") .nil)))) (.cons (.ifs (.cmp .In (.var 1) (.fld (.var 0) "pushed")) (.cons (.rai 2 (.cons (.var 1) .nil)) .nil) (.nil)) (.cons (.sti (.fld (.var 0) "pushed") (.var 1) (.con (.bl true))) .nil)))
theorem c7b:FnScope N28 ["self", "room"] (defScope (inClass (top 25) 5)):=by walk_at "fs"
theorem c4K:CK N28 (inClass (top 25) 5) b28:=by walk_at "ck"
def N29:List Str:=["thing", "seen", "name"]
def b29:RSs:=.cons (.ifs (.or (.cons (.nt (.isi (.var 0) (.ty "list"))) (.cons (.cmp .Gt (.bi .len (.cons (.var 0) .nil)) (.glb 3)) .nil))) (.cons (.ret (.con (.bl false))) .nil) (.nil)) (.cons (.asg [1] true (.dct true (.nil))) (.cons (.fr [2] true (.lst (.var 0)) (.cons (.ifs (.or (.cons (.nt (.call 4 (.cons (.var 2) .nil))) (.cons (.cmp .In (.var 2) (.var 1)) .nil))) (.cons (.ret (.con (.bl false))) .nil) (.nil)) (.cons (.sti (.var 1) (.var 2) (.con (.bl true))) .nil))) (.frz 1 (.cons (.ret (.con (.bl true))) .nil))))
theorem c7c:FnScope N29 ["thing"] (defScope (top 18)):=by walk_at "fs"
theorem c4L:CK N29 (top 18) b29:=by walk_at "ck"
def N30:List Str:=["self", "line"]
def b30:RSs:=.cons (.exp (.call 3 (.cons (.con (.int 0)) (.cons (.call 4 (.cons (.var 1) .nil)) .nil)))) (.cons (.exp (.call 7 (.cons (.var 1) (.cons (.fld (.var 0) "ends_of") .nil)))) (.cons (.ret (.ix (.fld (.var 0) "ends_of") (.var 1))) .nil))
theorem c7d:FnScope N30 ["self", "line"] (defScope (inClass (top 25) 14)):=by walk_at "fs"
theorem c4M:CK N30 (inClass (top 25) 14) b30:=by walk_at "ck"
def N31:List Str:=["layout", "rooms", "known", "room"]
def b31:RSs:=.cons (.asg [2] true (.om 11 "rooms" (.var 0) (.nil))) (.cons (.fr [3] true (.lst (.var 1)) (.cons (.ifs (.cmp .NotIn (.var 3) (.var 2)) (.cons (.rai 3 (.cons (.var 3) .nil)) .nil) (.nil)) .nil)) .nil)
theorem c7e:FnScope N31 ["layout", "rooms"] (defScope (top 38)):=by walk_at "fs"
theorem c4N:CK N31 (top 38) b31:=by walk_at "ck"
def N32:List Str:=["layout", "names", "there", "name"]
def b32:RSs:=.cons (.asg [2] true (.om 11 "rooms" (.var 0) (.nil))) (.cons (.fr [3] true (.lst (.var 1)) (.cons (.ifs (.cmp .NotIn (.var 3) (.var 2)) (.cons (.rai 3 (.cons (.var 3) .nil)) .nil) (.nil)) .nil)) .nil)
theorem c7f:FnScope N32 ["layout", "names"] (defScope (top 29)):=by walk_at "fs"
theorem c4O:CK N32 (top 29) b32:=by walk_at "ck"
def N33:List Str:=["self", "room", "line", "ends"]
def b33:RSs:=.cons (.exp (.call 3 (.cons (.con (.int 0)) (.cons (.call 4 (.cons (.var 1) .nil)) .nil)))) (.cons (.exp (.call 7 (.cons (.var 1) (.cons (.fld (.var 0) "by_room") .nil)))) (.cons (.ret (.bi (.srt false) (.cons (.lck (.lc false (.var 2) [2,3] false (.items (.fld (.var 0) "ends_of")) (.ss (.cmp .In (.var 1) (.sl (.var 3) (.nn) (.ss (.con (.int 2)))))) [("line",2),("ends",3)])) .nil))) .nil))
theorem c7g:FnScope N33 ["self", "room"] (defScope (inClass (top 25) 16)):=by walk_at "fs"
theorem c4P:CK N33 (inClass (top 25) 16) b33:=by walk_at "ck"
def N34:List Str:=["arcs", "sources", "rooms", "came", "queue", "at", "here", "name", "there", "room"]
def b34:RSs:=.cons (.asg [3] true (.bi (.dcp true) (.cons (.lc false (.tup (.cons (.var 9) (.cons (.con .non) .nil))) [9] true (.lst (.var 1)) (.nn) [("room",9)]) .nil))) (.cons (.asg [4] true (.bi (.lst true) (.cons (.var 1) .nil))) (.cons (.asg [5] true (.con (.int 0))) (.cons (.wh (.cmp .Lt (.var 5) (.bi .len (.cons (.var 4) .nil))) (.cons (.asg [6] true (.ix (.var 4) (.var 5))) (.cons (.agv 5 .Add (.con (.int 1))) (.cons (.ifs (.cmp .In (.var 6) (.var 2)) (.cons (.ret (.call 14 (.cons (.var 3) (.cons (.var 6) .nil)))) .nil) (.nil)) (.cons (.fr [7,8] false (.lst (.mth .dget (.var 0) (.cons (.var 6) (.cons (.lst false (.nil)) .nil)))) (.cons (.ifs (.cmp .NotIn (.var 8) (.var 3)) (.cons (.sti (.var 3) (.var 8) (.tup (.cons (.var 7) (.cons (.var 6) .nil)))) (.cons (.exp (.mth .app (.var 4) (.cons (.var 8) .nil))) .nil)) (.nil)) .nil)) .nil))))) (.cons (.ret (.con .non)) .nil))))
theorem c7h:FnScope N34 ["arcs", "sources", "rooms"] (defScope (top 45)):=by walk_at "fs"
theorem c4Q:CK N34 (top 45) b34:=by walk_at "ck"
def N35:List Str:=["limits", "used", "steps", "found", "here", "name", "there", "left"]
def b35:RSs:=.cons (.asg [3] true (.lst true (.nil))) (.cons (.fr [4,5,6] false (.lst (.var 2)) (.cons (.asg [7] true (.call 17 (.cons (.ix (.ix (.var 0) (.var 5)) (.con (.int 2))) (.cons (.ix (.var 1) (.var 5)) (.cons (.cmp .Eq (.var 4) (.ix (.ix (.var 0) (.var 5)) (.con (.int 0)))) .nil))))) (.cons (.ifs (.cmp .IsNot (.var 7) (.con .non)) (.cons (.exp (.mth .app (.var 3) (.cons (.var 7) .nil))) .nil) (.nil)) .nil))) (.frz 3 (.cons (.ret (.bi (.mnl) (.cons (.var 3) .nil))) .nil)))
theorem c7i:FnScope N35 ["limits", "used", "steps"] (defScope (top 47)):=by walk_at "fs"
theorem c4R:CK N35 (top 47) b35:=by walk_at "ck"
def N36:List Str:=["limits", "used", "rooms", "found", "grown", "arcs", "here", "onward", "room", "name", "there"]
def b36:RSs:=.cons (.asg [3] true (.bi (.dcp true) (.cons (.lc false (.tup (.cons (.var 8) (.cons (.con (.bl true)) .nil))) [8] true (.lst (.var 2)) (.nn) [("room",8)]) .nil))) (.cons (.asg [4] true (.con (.bl true))) (.cons (.wh (.var 4) (.cons (.asg [4] true (.con (.bl false))) (.cons (.asg [5] true (.call 15 (.cons (.var 0) (.cons (.var 1) .nil)))) (.cons (.lck (.fr [6] true (.keys (.var 5)) (.cons (.asl 7 (.lc false (.var 10) [9,10] false (.lst (.ix (.var 5) (.var 6))) (.ss (.cmp .In (.var 10) (.var 3))) [("name",9),("there",10)])) (.cons (.ifs (.and (.cons (.cmp .NotIn (.var 6) (.var 3)) (.cons (.cmp .NotEq (.var 7) (.lst false (.nil))) .nil))) (.cons (.sti (.var 3) (.var 6) (.con (.bl true))) (.cons (.asg [4] true (.con (.bl true))) .nil)) (.nil)) .nil)))) .nil)))) (.cons (.ret (.bi (.srt false) (.cons (.var 3) .nil))) .nil)))
theorem c7j:FnScope N36 ["limits", "used", "rooms"] (defScope (top 49)):=by walk_at "fs"
theorem c4S:CK N36 (top 49) b36:=by walk_at "ck"
def N37:List Str:=["self", "room"]
def b37:RSs:=.cons (.exp (.call 3 (.cons (.con (.int 0)) (.cons (.call 4 (.cons (.var 1) .nil)) .nil)))) (.cons (.exp (.call 7 (.cons (.var 1) (.cons (.fld (.var 0) "pushed") .nil)))) (.cons (.exp (.mth .dpop (.fld (.var 0) "pushed") (.cons (.var 1) .nil))) .nil))
theorem c7k:FnScope N37 ["self", "room"] (defScope (inClass (top 25) 9)):=by walk_at "fs"
theorem c4T:CK N37 (inClass (top 25) 9) b37:=by walk_at "ck"
def N38:List Str:=["self", "line"]
def b38:RSs:=.cons (.exp (.call 3 (.cons (.con (.int 0)) (.cons (.call 4 (.cons (.var 1) .nil)) .nil)))) (.cons (.exp (.call 7 (.cons (.var 1) (.cons (.fld (.var 0) "ends_of") .nil)))) (.cons (.exp (.mth .dpop (.fld (.var 0) "ends_of") (.cons (.var 1) .nil))) .nil))
theorem c7l:FnScope N38 ["self", "line"] (defScope (inClass (top 25) 7)):=by walk_at "fs"
theorem c4U:CK N38 (inClass (top 25) 7) b38:=by walk_at "ck"
def N39:List Str:=["_law_bag_here", "_law_many", "_law_letters", "_law_some_here", "_law_found", "_law_name_here", "_law_k", "_law_letter"]
def b39:RSs:=.cons (.asg [2] true (.con (.str "abcdefghijklmnopqrstuvwxyz"))) (.cons (.asl 3 (.lc false (.call 22 (.cons (.var 0) .nil)) [6] true (.rng1 (.var 1)) (.nn) [("_law_k",6)])) (.cons (.asg [3] true (.bin .Add (.bin .Add (.var 3) (.lc false (.bin .Add (.var 7) (.con (.str "x"))) [7] true (.str (.var 2)) (.nn) [("_law_letter",7)])) (.lc false (.bin .Add (.con (.str "y")) (.var 7)) [7] true (.str (.var 2)) (.nn) [("_law_letter",7)]))) (.cons (.asg [4] true (.lst true (.nil))) (.cons (.fr [5] true (.lst (.var 3)) (.cons (.ifs (.and (.cons (.cmp .NotIn (.var 5) (.var 4)) (.cons (.cmp .Lt (.bi .len (.cons (.var 4) .nil)) (.var 1)) .nil))) (.cons (.exp (.mth .app (.var 4) (.cons (.var 5) .nil))) .nil) (.nil)) .nil)) (.frz 4 (.cons (.ret (.var 4)) .nil))))))
theorem c7m:FnScope N39 ["_law_bag_here", "_law_many"] (defScope (top 57)):=by walk_at "fs"
theorem c4V:CK N39 (top 57) b39:=by walk_at "ck"
def N40:List Str:=["self", "line", "one", "other", "cost"]
def b40:RSs:=.cons (.exp (.call 3 (.cons (.con (.int 0)) (.cons (.call 4 (.cons (.var 1) .nil)) .nil)))) (.cons (.exp (.call 3 (.cons (.con (.int 1)) (.cons (.call 4 (.cons (.var 2) .nil)) .nil)))) (.cons (.exp (.call 3 (.cons (.con (.int 2)) (.cons (.and (.cons (.call 4 (.cons (.var 3) .nil)) (.cons (.cmp .NotEq (.var 3) (.var 2)) .nil))) .nil)))) (.cons (.exp (.call 3 (.cons (.con (.int 3)) (.cons (.call 27 (.cons (.var 4) .nil)) .nil)))) (.cons (.exp (.om 6 "need_new" (.var 0) (.cons (.var 1) .nil))) (.cons (.exp (.call 7 (.cons (.var 2) (.cons (.fld (.var 0) "by_room") .nil)))) (.cons (.exp (.call 7 (.cons (.var 3) (.cons (.fld (.var 0) "by_room") .nil)))) (.cons (.ifs (.cmp .GtE (.bi .len (.cons (.fld (.var 0) "ends_of") .nil)) (.glb 6)) (.cons (.rai 4 (.cons (.glb 6) .nil)) .nil) (.nil)) (.cons (.sti (.fld (.var 0) "ends_of") (.var 1) (.tup (.cons (.var 2) (.cons (.var 3) (.cons (.var 4) .nil))))) .nil))))))))
theorem c7n:FnScope N40 ["self", "line", "one", "other", "cost"] (defScope (inClass (top 25) 3)):=by walk_at "fs"
theorem c4W:CK N40 (inClass (top 25) 3) b40:=by walk_at "ck"
def N41:List Str:=["_law_bag_here", "_law_m", "_law_switches", "_law_name_here"]
def b41:RSs:=.cons (.lck (.asl 2 (.lc false (.var 3) [3] true (.keys (.ix (.var 1) (.con (.str "lines")))) (.ss (.cmp .Gt (.ix (.ix (.ix (.var 1) (.con (.str "lines"))) (.var 3)) (.con (.int 2))) (.con (.int 0)))) [("_law_name_here",3)]))) (.cons (.ret (.call 23 (.cons (.var 0) (.cons (.var 2) (.cons (.ix (.lst false (.cons (.con (.int 0)) (.cons (.con (.int 1)) (.cons (.con (.int 3)) (.cons (.con (.int 8)) (.cons (.con (.int 40)) .nil)))))) (.call 1 (.cons (.var 0) (.cons (.con (.int 5)) .nil)))) .nil))))) .nil)
theorem c7o:FnScope N41 ["_law_bag_here", "_law_m"] (defScope (top 63)):=by walk_at "fs"
theorem c4X:CK N41 (top 63) b41:=by walk_at "ck"
def N42:List Str:=["_law_bag_here", "_law_m", "_law_behind", "_law_pool"]
def b42:RSs:=.cons (.asg [2] true (.sl (.ix (.var 1) (.con (.str "drawn"))) (.ss (.bin .FloorDiv (.bi .len (.cons (.ix (.var 1) (.con (.str "drawn"))) .nil)) (.con (.int 2)))) (.nn))) (.cons (.asg [3] true (.ix (.lst false (.cons (.var 2) (.cons (.var 2) (.cons (.var 2) (.cons (.ix (.var 1) (.con (.str "drawn"))) .nil))))) (.call 1 (.cons (.var 0) (.cons (.con (.int 4)) .nil))))) (.cons (.ret (.call 23 (.cons (.var 0) (.cons (.var 3) (.cons (.ix (.lst false (.cons (.con (.int 1)) (.cons (.con (.int 1)) (.cons (.con (.int 2)) (.cons (.con (.int 4)) (.cons (.con (.int 24)) .nil)))))) (.call 1 (.cons (.var 0) (.cons (.con (.int 5)) .nil)))) .nil))))) .nil))
theorem c7p:FnScope N42 ["_law_bag_here", "_law_m"] (defScope (top 65)):=by walk_at "fs"
theorem c4Y:CK N42 (top 65) b42:=by walk_at "ck"
def N43:List Str:=["thing"]
def b43:RSs:=.cons (.ret (.and (.cons (.call 29 (.cons (.var 0) .nil)) (.cons (.chn .LtE .LtE (.con (.int 1)) (.bi .len (.cons (.var 0) .nil)) (.glb 4)) .nil)))) .nil
theorem c7q:FnScope N43 ["thing"] (defScope (top 19)):=by walk_at "fs"
theorem c4Z:CK N43 (top 19) b43:=by walk_at "ck"
def N44:List Str:=["layout", "names", "known", "name"]
def b44:RSs:=.cons (.asg [2] true (.om 10 "lines" (.var 0) (.nil))) (.cons (.fr [3] true (.lst (.var 1)) (.cons (.ifs (.or (.cons (.cmp .NotIn (.var 3) (.var 2)) (.cons (.cmp .Eq (.ix (.om 30 "line" (.var 0) (.cons (.var 3) .nil)) (.con (.int 2))) (.con (.int 0))) .nil))) (.cons (.rai 3 (.cons (.var 3) .nil)) .nil) (.nil)) .nil)) .nil)
theorem c7r:FnScope N44 ["layout", "names"] (defScope (top 37)):=by walk_at "fs"
theorem c40:CK N44 (top 37) b44:=by walk_at "ck"
def N45:List Str:=["layout", "barred", "found", "name", "one", "other", "cost", "limit"]
def b45:RSs:=.cons (.asg [2] true (.dct true (.nil))) (.cons (.fr [3] true (.lst (.om 10 "lines" (.var 0) (.nil))) (.cons (.asg [4,5,6] false (.om 30 "line" (.var 0) (.cons (.var 3) .nil))) (.cons (.asg [7] true (.var 6)) (.cut (.ifs (.or (.cons (.cmp .Eq (.var 6) (.con (.int 0))) (.cons (.cmp .In (.var 3) (.var 1)) .nil))) (.cons (.asg [7] true (.con .non)) .nil) (.nil)) (.cons (.sti (.var 2) (.var 3) (.tup (.cons (.var 4) (.cons (.var 5) (.cons (.var 7) .nil))))) .nil))))) (.cons (.ret (.var 2)) .nil))
theorem c7s:FnScope N45 ["layout", "barred"] (defScope (top 39)):=by walk_at "fs"
theorem c41:CK N45 (top 39) b45:=by walk_at "ck"
def N46:List Str:=["layout", "names", "lines", "name"]
def b46:RSs:=.cons (.asg [2] true (.om 10 "lines" (.var 0) (.nil))) (.cons (.fr [3] true (.lst (.var 1)) (.cons (.ifs (.or (.cons (.cmp .NotIn (.var 3) (.var 2)) (.cons (.cmp .Eq (.ix (.om 30 "line" (.var 0) (.cons (.var 3) .nil)) (.con (.int 2))) (.con (.int 0))) .nil))) (.cons (.rai 3 (.cons (.var 3) .nil)) .nil) (.nil)) .nil)) .nil)
theorem c7t:FnScope N46 ["layout", "names"] (defScope (top 28)):=by walk_at "fs"
theorem c42:CK N46 (top 28) b46:=by walk_at "ck"
def N47:List Str:=["layout", "line", "room", "one", "other", "cost"]
def b47:RSs:=.cons (.asg [3,4,5] false (.om 30 "line" (.var 0) (.cons (.var 1) .nil))) (.cons (.ifs (.cmp .Eq (.var 3) (.var 2)) (.cons (.ret (.var 4)) .nil) (.nil)) (.cons (.ret (.var 3)) .nil))
theorem c7u:FnScope N47 ["layout", "line", "room"] (defScope (top 30)):=by walk_at "fs"
theorem c43:CK N47 (top 30) b47:=by walk_at "ck"
def N48:List Str:=["limits", "sources", "rooms", "used", "steps", "name"]
def b48:RSs:=.cons (.asg [3] true (.bi (.dcp true) (.cons (.lck (.lc false (.tup (.cons (.var 5) (.cons (.con (.int 0)) .nil))) [5] true (.keys (.var 0)) (.nn) [("name",5)])) .nil))) (.cons (.asg [4] true (.call 34 (.cons (.call 15 (.cons (.var 0) (.cons (.var 3) .nil))) (.cons (.var 1) (.cons (.var 2) .nil))))) (.cons (.wh (.cmp .IsNot (.var 4) (.con .non)) (.cons (.exp (.call 16 (.cons (.var 0) (.cons (.var 3) (.cons (.var 4) (.cons (.call 35 (.cons (.var 0) (.cons (.var 3) (.cons (.var 4) .nil)))) .nil)))))) (.cons (.asg [4] true (.call 34 (.cons (.call 15 (.cons (.var 0) (.cons (.var 3) .nil))) (.cons (.var 1) (.cons (.var 2) .nil))))) .nil))) (.cons (.ret (.var 3)) .nil)))
theorem c7v:FnScope N48 ["limits", "sources", "rooms"] (defScope (top 48)):=by walk_at "fs"
theorem c44:CK N48 (top 48) b48:=by walk_at "ck"
def N49:List Str:=["layout", "rooms", "found", "line", "one", "other", "cost"]
def b49:RSs:=.cons (.exp (.call 12 (.cons (.con (.int 0)) (.cons (.isi (.var 0) (.own 7)) .nil)))) (.cons (.exp (.call 12 (.cons (.con (.int 1)) (.cons (.call 29 (.cons (.var 1) .nil)) .nil)))) (.cons (.exp (.call 32 (.cons (.var 0) (.cons (.var 1) .nil)))) (.cons (.asg [2] true (.lst true (.nil))) (.cons (.fr [3] true (.lst (.om 10 "lines" (.var 0) (.nil))) (.cons (.asg [4,5,6] false (.om 30 "line" (.var 0) (.cons (.var 3) .nil))) (.cons (.ifs (.cmp .NotEq (.cmp .In (.var 4) (.var 1)) (.cmp .In (.var 5) (.var 1))) (.cons (.exp (.mth .app (.var 2) (.cons (.var 3) .nil))) .nil) (.nil)) .nil))) (.frz 2 (.cons (.ret (.var 2)) .nil))))))
theorem c7w:FnScope N49 ["layout", "rooms"] (defScope (top 32)):=by walk_at "fs"
theorem c45:CK N49 (top 32) b49:=by walk_at "ck"
def N50:List Str:=["_law_bag_here", "_law_many", "_law_more", "_law_shape", "_law_costs", "_law_drawn", "_law_half", "_law_sources", "_law_lines", "_law_k", "_law_name_here", "_law_one", "_law_other", "_law_cost_here"]
def b50:RSs:=.cons (.asg [3] true (.call 1 (.cons (.var 0) (.cons (.con (.int 4)) .nil)))) (.cons (.asg [4] true (.call 1 (.cons (.var 0) (.cons (.con (.int 3)) .nil)))) (.cons (.asg [5] true (.call 39 (.cons (.var 0) (.cons (.var 1) .nil)))) (.cons (.asg [6] true (.bin .FloorDiv (.bin .Add (.var 1) (.con (.int 1))) (.con (.int 2)))) (.cons (.asg [7] true (.call 23 (.cons (.var 0) (.cons (.sl (.var 5) (.nn) (.ss (.var 6))) (.cons (.ix (.lst false (.cons (.con (.int 1)) (.cons (.con (.int 1)) (.cons (.con (.int 2)) (.cons (.con (.int 3)) (.cons (.con (.int 0)) (.cons (.con (.int 12)) .nil))))))) (.call 1 (.cons (.var 0) (.cons (.con (.int 6)) .nil)))) .nil))))) (.cons (.asg [8] true (.dct true (.nil))) (.cons (.fr [9,10] false (.enum (.call 39 (.cons (.var 0) (.cons (.var 2) .nil)))) (.cons (.asg [11,12] false (.call 24 (.cons (.var 0) (.cons (.var 1) (.cons (.var 3) (.cons (.var 9) .nil)))))) (.cons (.asg [13] true (.call 25 (.cons (.var 0) (.cons (.var 4) .nil)))) (.cons (.ifs (.cmp .NotEq (.var 11) (.var 12)) (.cons (.sti (.var 8) (.var 10) (.tup (.cons (.ix (.var 5) (.var 11)) (.cons (.ix (.var 5) (.var 12)) (.cons (.var 13) .nil))))) .nil) (.nil)) .nil)))) (.cons (.ret (.dct true (.cons (.con (.str "rooms")) (.bi (.srt false) (.cons (.var 5) .nil)) (.cons (.con (.str "drawn")) (.var 5) (.cons (.con (.str "lines")) (.var 8) (.cons (.con (.str "sources")) (.bi (.srt true) (.cons (.var 7) .nil)) (.nil))))))) .nil)))))))
theorem c7x:FnScope N50 ["_law_bag_here", "_law_many", "_law_more"] (defScope (top 61)):=by walk_at "fs"
theorem c46:CK N50 (top 61) b50:=by walk_at "ck"
def N51:List Str:=["_law_m", "_law_here", "_law_room", "_law_name_here", "_law_one", "_law_other", "_law_cost_here"]
def b51:RSs:=.cons (.asg [1] true (.mk 2 (.nil))) (.cons (.fr [2] true (.lst (.ix (.var 0) (.con (.str "drawn")))) (.cons (.exp (.om 26 "add_room" (.var 1) (.cons (.var 2) .nil))) .nil)) (.cons (.lck (.fr [3] true (.keys (.ix (.var 0) (.con (.str "lines")))) (.cons (.asg [4,5,6] false (.ix (.ix (.var 0) (.con (.str "lines"))) (.var 3))) (.cons (.exp (.om 40 "add_line" (.var 1) (.cons (.var 3) (.cons (.var 4) (.cons (.var 5) (.cons (.var 6) .nil)))))) .nil)))) (.cons (.fr [2] true (.lst (.ix (.var 0) (.con (.str "sources")))) (.cons (.exp (.om 28 "add_source" (.var 1) (.cons (.var 2) .nil))) .nil)) (.cons (.ret (.var 1)) .nil))))
theorem c7y:FnScope N51 ["_law_m"] (defScope (top 62)):=by walk_at "fs"
theorem c47:CK N51 (top 62) b51:=by walk_at "ck"
def N52:List Str:=["layout", "shut", "rooms", "far", "reached", "at", "here", "line", "there", "room"]
def b52:RSs:=.cons (.asg [3] true (.bi (.dcp true) (.cons (.lc false (.tup (.cons (.var 9) (.cons (.con (.int 0)) .nil))) [9] true (.lst (.var 2)) (.nn) [("room",9)]) .nil))) (.cons (.asg [4] true (.bi (.lst true) (.cons (.var 2) .nil))) (.cons (.asg [5] true (.con (.int 0))) (.cons (.wh (.cmp .Lt (.var 5) (.bi .len (.cons (.var 4) .nil))) (.cons (.asg [6] true (.ix (.var 4) (.var 5))) (.cons (.fr [7] true (.lst (.om 33 "lines_at" (.var 0) (.cons (.var 6) .nil))) (.cons (.asg [8] true (.call 47 (.cons (.var 0) (.cons (.var 7) (.cons (.var 6) .nil))))) (.cons (.ifs (.and (.cons (.cmp .NotIn (.var 7) (.var 1)) (.cons (.cmp .NotIn (.var 8) (.var 3)) .nil))) (.cons (.sti (.var 3) (.var 8) (.bin .Add (.ix (.var 3) (.var 6)) (.con (.int 1)))) (.cons (.exp (.mth .app (.var 4) (.cons (.var 8) .nil))) .nil)) (.nil)) .nil))) (.cons (.agv 5 .Add (.con (.int 1))) .nil)))) (.frz 4 (.frz 3 (.cons (.ret (.var 3)) .nil))))))
theorem c7z:FnScope N52 ["layout", "shut", "rooms"] (defScope (top 31)):=by walk_at "fs"
theorem c48:CK N52 (top 31) b52:=by walk_at "ck"
def N53:List Str:=["layout", "shut", "far", "here", "found", "line", "there"]
def b53:RSs:=.cons (.asg [4] true (.lst true (.nil))) (.cons (.fr [5] true (.lst (.om 33 "lines_at" (.var 0) (.cons (.var 3) .nil))) (.cons (.asg [6] true (.call 47 (.cons (.var 0) (.cons (.var 5) (.cons (.var 3) .nil))))) (.cons (.ifs (.and (.cons (.cmp .NotIn (.var 5) (.var 1)) (.cons (.cmp .Eq (.mth .dget (.var 2) (.cons (.var 6) .nil)) (.bin .Sub (.ix (.var 2) (.var 3)) (.con (.int 1)))) .nil))) (.cons (.exp (.mth .app (.var 4) (.cons (.tup (.cons (.var 5) (.cons (.var 6) .nil))) .nil))) .nil) (.nil)) .nil))) (.frz 4 (.cons (.ret (.bi (.mnl) (.cons (.var 4) .nil))) .nil)))
theorem c7A:FnScope N53 ["layout", "shut", "far", "here"] (defScope (top 33)):=by walk_at "fs"
theorem c49:CK N53 (top 33) b53:=by walk_at "ck"
def N54:List Str:=["layout", "shut", "rooms", "far", "starts", "here", "found", "line", "room"]
def b54:RSs:=.cons (.exp (.call 12 (.cons (.con (.int 0)) (.cons (.isi (.var 0) (.own 7)) .nil)))) (.cons (.exp (.call 12 (.cons (.con (.int 1)) (.cons (.call 29 (.cons (.var 1) .nil)) .nil)))) (.cons (.exp (.call 12 (.cons (.con (.int 2)) (.cons (.call 43 (.cons (.var 2) .nil)) .nil)))) (.cons (.exp (.call 46 (.cons (.var 0) (.cons (.var 1) .nil)))) (.cons (.exp (.call 32 (.cons (.var 0) (.cons (.var 2) .nil)))) (.cons (.asg [3] true (.call 52 (.cons (.var 0) (.cons (.var 1) (.cons (.var 2) .nil))))) (.cons (.asl 4 (.lc false (.tup (.cons (.ix (.var 3) (.var 8)) (.cons (.var 8) .nil))) [8] true (.lst (.om 13 "sources" (.var 0) (.nil))) (.ss (.cmp .In (.var 8) (.var 3))) [("room",8)])) (.cons (.ifs (.cmp .Eq (.var 4) (.lst false (.nil))) (.cons (.ret (.con .non)) .nil) (.nil)) (.cons (.asg [5] true (.ix (.bi (.mnl) (.cons (.var 4) .nil)) (.con (.int 1)))) (.cons (.asg [6] true (.lst true (.cons (.var 5) .nil))) (.cons (.wh (.cmp .Gt (.ix (.var 3) (.var 5)) (.con (.int 0))) (.cons (.asg [7,5] false (.call 53 (.cons (.var 0) (.cons (.var 1) (.cons (.var 3) (.cons (.var 5) .nil)))))) (.cons (.asg [6] true (.adc (.var 6) (.lst false (.cons (.var 7) (.cons (.var 5) .nil))))) .nil))) (.cons (.ret (.var 6)) .nil)))))))))))
theorem c7B:FnScope N54 ["layout", "shut", "rooms"] (defScope (top 34)):=by walk_at "fs"
theorem c5a:CK N54 (top 34) b54:=by walk_at "ck"
def N55:List Str:=["layout", "limits", "rooms", "can_be_shut", "bare", "name"]
def b55:RSs:=.cons (.lck (.asl 3 (.lc false (.var 5) [5] true (.keys (.var 1)) (.ss (.cmp .IsNot (.ix (.ix (.var 1) (.var 5)) (.con (.int 2))) (.con .non))) [("name",5)]))) (.cons (.asg [4] true (.call 54 (.cons (.var 0) (.cons (.var 3) (.cons (.var 2) .nil))))) (.cons (.ifs (.cmp .IsNot (.var 4) (.con .non)) (.cons (.rai 6 (.cons (.var 4) .nil)) .nil) (.nil)) .nil))
theorem c7C:FnScope N55 ["layout", "limits", "rooms"] (defScope (top 40)):=by walk_at "fs"
theorem c5b:CK N55 (top 40) b55:=by walk_at "ck"
def N56:List Str:=["layout", "barred", "rooms", "limits"]
def b56:RSs:=.cons (.exp (.call 9 (.cons (.con (.int 0)) (.cons (.isi (.var 0) (.own 7)) .nil)))) (.cons (.exp (.call 9 (.cons (.con (.int 1)) (.cons (.call 29 (.cons (.var 1) .nil)) .nil)))) (.cons (.exp (.call 9 (.cons (.con (.int 2)) (.cons (.call 43 (.cons (.var 2) .nil)) .nil)))) (.cons (.exp (.call 44 (.cons (.var 0) (.cons (.var 1) .nil)))) (.cons (.exp (.call 31 (.cons (.var 0) (.cons (.var 2) .nil)))) (.cons (.asg [3] true (.call 45 (.cons (.var 0) (.cons (.var 1) .nil)))) (.cons (.exp (.call 55 (.cons (.var 0) (.cons (.var 3) (.cons (.var 2) .nil))))) (.cons (.ret (.var 3)) .nil)))))))
theorem c7D:FnScope N56 ["layout", "barred", "rooms"] (defScope (top 50)):=by walk_at "fs"
theorem c5c:CK N56 (top 50) b56:=by walk_at "ck"
def N57:List Str:=["layout", "barred", "rooms", "limits", "used", "found"]
def b57:RSs:=.cons (.asg [3] true (.call 56 (.cons (.var 0) (.cons (.var 1) (.cons (.var 2) .nil))))) (.cons (.asg [4] true (.call 48 (.cons (.var 3) (.cons (.om 13 "sources" (.var 0) (.nil)) (.cons (.var 2) .nil))))) (.cons (.asg [5] true (.call 36 (.cons (.var 3) (.cons (.var 4) (.cons (.var 2) .nil))))) (.cons (.ret (.tup (.cons (.call 49 (.cons (.var 0) (.cons (.var 5) .nil))) (.cons (.var 5) .nil)))) .nil)))
theorem c7E:FnScope N57 ["layout", "barred", "rooms"] (defScope (top 51)):=by walk_at "fs"
theorem c5d:CK N57 (top 51) b57:=by walk_at "ck"
def N58:List Str:=["layout", "barred", "rooms", "limits", "used", "found", "steps", "amount", "chain", "here", "name", "there"]
def b58:RSs:=.cons (.asg [3] true (.call 56 (.cons (.var 0) (.cons (.var 1) (.cons (.var 2) .nil))))) (.cons (.asg [4] true (.call 48 (.cons (.var 3) (.cons (.om 13 "sources" (.var 0) (.nil)) (.cons (.var 2) .nil))))) (.cons (.asg [5] true (.lst true (.nil))) (.cons (.asg [6] true (.call 34 (.cons (.call 19 (.cons (.var 3) (.cons (.var 4) .nil))) (.cons (.om 13 "sources" (.var 0) (.nil)) (.cons (.var 2) .nil))))) (.cons (.wh (.cmp .IsNot (.var 6) (.con .non)) (.cons (.asg [7] true (.bi (.mnl) (.cons (.lc false (.bi .abs (.cons (.ix (.var 4) (.var 10)) .nil)) [9,10,11] false (.lst (.var 6)) (.nn) [("here",9),("name",10),("there",11)]) .nil))) (.cons (.exp (.call 16 (.cons (.var 3) (.cons (.var 4) (.cons (.var 6) (.cons (.bin .Sub (.con (.int 0)) (.var 7)) .nil)))))) (.cons (.asg [8] true (.lst false (.cons (.ix (.ix (.var 6) (.con (.int 0))) (.con (.int 0))) .nil))) (.cons (.fr [9,10,11] false (.lst (.var 6)) (.cons (.asg [8] true (.bin .Add (.var 8) (.lst false (.cons (.var 10) (.cons (.var 11) .nil))))) .nil)) (.cons (.exp (.mth .app (.var 5) (.cons (.tup (.cons (.var 7) (.cons (.var 8) .nil))) .nil))) (.cons (.asg [6] true (.call 34 (.cons (.call 19 (.cons (.var 3) (.cons (.var 4) .nil))) (.cons (.om 13 "sources" (.var 0) (.nil)) (.cons (.var 2) .nil))))) .nil))))))) (.frz 5 (.cons (.ret (.var 5)) .nil))))))
theorem c7F:FnScope N58 ["layout", "barred", "rooms"] (defScope (top 52)):=by walk_at "fs"
theorem c5e:CK N58 (top 52) b58:=by walk_at "ck"
def N59:List Str:=["_law_here", "_law_barred_here", "_law_rooms", "_law_found", "_law_e"]
def b59:RSs:=.cons (.asg [3] true (.con .non)) (.cut (.tra (.cons (.asg [3] true (.call 57 (.cons (.var 0) (.cons (.var 1) (.cons (.var 2) .nil))))) .nil) 0 4 (.cons (.ret (.call 18 (.cons (.var 4) .nil))) .nil)) (.cons (.ret (.tup (.cons (.con (.str "told")) (.cons (.var 3) .nil)))) .nil))
theorem c7G:FnScope N59 ["_law_here", "_law_barred_here", "_law_rooms"] (defScope (top 69)):=by walk_at "fs"
theorem c5f:CK N59 (top 69) b59:=by walk_at "ck"
def N60:List Str:=["_law_here", "_law_barred_here", "_law_rooms", "_law_found", "_law_e"]
def b60:RSs:=.cons (.asg [3] true (.con .non)) (.cut (.tra (.cons (.asg [3] true (.call 58 (.cons (.var 0) (.cons (.var 1) (.cons (.var 2) .nil))))) .nil) 0 4 (.cons (.ret (.call 18 (.cons (.var 4) .nil))) .nil)) (.cons (.ret (.tup (.cons (.con (.str "told")) (.cons (.var 3) .nil)))) .nil))
theorem c7H:FnScope N60 ["_law_here", "_law_barred_here", "_law_rooms"] (defScope (top 70)):=by walk_at "fs"
theorem c5g:CK N60 (top 70) b60:=by walk_at "ck"
def N61:List Str:=["_law_script", "_law_bag_here", "_law_plain", "_law_many", "_law_more", "_law_m", "_law_name_here", "_law_one", "_law_other", "_law_cost_here", "_law_here", "_law_barred_here", "_law_rooms", "_law_turn", "_law_bare_here", "_law_lot", "_law_found"]
def b61:RSs:=.cons (.asg [1] true (.call 0 (.cons (.var 0) .nil))) (.cons (.asg [2] true (.ix (.lst false (.cons (.con (.int 0)) (.cons (.con (.int 2)) (.cons (.con (.int 3)) (.cons (.con (.int 4)) .nil))))) (.call 1 (.cons (.var 1) (.cons (.con (.int 4)) .nil))))) (.cons (.asg [3,4] false (.call 21 (.cons (.var 1) .nil))) (.cons (.asg [5] true (.call 50 (.cons (.var 1) (.cons (.var 3) (.cons (.var 4) .nil))))) (.cons (.fr [6] true (.lst (.bi (.lsk false) (.cons (.ix (.var 5) (.con (.str "lines"))) .nil))) (.cons (.asg [7,8,9] false (.ix (.ix (.var 5) (.con (.str "lines"))) (.var 6))) (.cons (.ifs (.cmp .Lt (.call 1 (.cons (.var 1) (.cons (.con (.int 5)) .nil))) (.var 2)) (.cons (.sti (.ix (.var 5) (.con (.str "lines"))) (.var 6) (.tup (.cons (.var 7) (.cons (.var 8) (.cons (.con (.int 0)) .nil))))) .nil) (.nil)) .nil))) (.cons (.asg [10] true (.call 51 (.cons (.var 5) .nil))) (.cons (.asg [11] true (.call 41 (.cons (.var 1) (.cons (.var 5) .nil)))) (.cons (.asg [12] true (.call 42 (.cons (.var 1) (.cons (.var 5) .nil)))) (.cons (.fr [13] true (.rng1 (.con (.int 6))) (.cons (.asg [14] true (.call 8 (.cons (.var 5) (.cons (.var 11) (.cons (.var 12) .nil))))) (.cons (.asg [15] true (.call 59 (.cons (.var 10) (.cons (.bi (.lst false) (.cons (.var 11) .nil)) (.cons (.bi (.lst false) (.cons (.var 12) .nil)) .nil))))) (.cons (.asg [16] true (.call 60 (.cons (.var 10) (.cons (.bi (.lst false) (.cons (.var 11) .nil)) (.cons (.bi (.lst false) (.cons (.var 12) .nil)) .nil))))) (.cons (.ifs (.cmp .Is (.var 14) (.con .non)) (.cons (.ret (.and (.cons (.cmp .Eq (.ix (.var 15) (.con (.int 0))) (.con (.str "told"))) (.cons (.cmp .Eq (.ix (.var 16) (.con (.int 0))) (.con (.str "told"))) .nil)))) .nil) (.nil)) (.cons (.ifs (.nt (.call 20 (.cons (.lst false (.cons (.var 15) (.cons (.var 16) .nil))) (.cons (.lst false (.cons (.tup (.cons (.con (.str "NoPart")) (.cons (.var 14) .nil))) (.cons (.tup (.cons (.con (.str "NoPart")) (.cons (.var 14) .nil))) .nil))) .nil)))) (.cons (.ret (.con (.bl false))) .nil) (.nil)) (.cons (.ifs (.cmp .Eq (.bi .len (.cons (.var 14) .nil)) (.con (.int 1))) (.cons (.exp (.om 37 "take_source" (.var 10) (.cons (.ix (.var 14) (.con (.int 0))) .nil))) (.cons (.exp (.mth .rem (.ix (.var 5) (.con (.str "sources"))) (.cons (.ix (.var 14) (.con (.int 0))) .nil))) .nil)) (.cons (.exp (.om 38 "take_line" (.var 10) (.cons (.ix (.var 14) (.con (.int 1))) .nil))) (.cons (.exp (.mth .dpop (.ix (.var 5) (.con (.str "lines"))) (.cons (.ix (.var 14) (.con (.int 1))) .nil))) (.cons (.asl 11 (.lc false (.var 6) [6] true (.lst (.var 11)) (.ss (.cmp .NotEq (.var 6) (.ix (.var 14) (.con (.int 1))))) [("_law_name_here",6)])) .nil)))) .nil))))))) (.cons (.ret (.con (.bl true))) .nil)))))))))
theorem c7I:FnScope N61 ["_law_script"] (defScope (top 71)):=by walk_at "fs"
theorem c5h:CK N61 (top 71) b61:=by walk_at "ck"
theorem whole (facts : ∀ {P : Program} {w : World} {K : zbj} {h : Heap} {mg : Str → Option Value} {f : Addr} (X : K.In h) (G : h.Ns mainGlobals mg) (hfa : mg ("law" : Str) = some (.ref f)) (c : SaysX fa fn fx K),
    ∃ fd : FuncData, (∀ (s : Shared) (v : Value), BindsTo s fd ⟨[v], []⟩ [("_law_script", v)]) ∧ ∀ base : Heap, K.In base → base.Ns mainGlobals mg → FnG P w K mg base false 22 f fd ["_law_script"] (spD ⟨K⟩ (lawT 63))) : PySem.Challenge.rw_stillmain_k47_no_part.Holds := by
  open PySem.W PySem.Calls in
  (w_on; o_law
   refine HandSHeadRun.head_any (r := OpenLaw.row PySem.Challenge.rw_stillmain_k47_no_part) (q := view (OpenLaw.row PySem.Challenge.rw_stillmain_k47_no_part).prog [71]) (H := Cl.hk) (ob := Cl.ob) (M := 20000) (loose := Cl.names) (d := HandSHeadRun.topDef (OpenLaw.row PySem.Challenge.rw_stillmain_k47_no_part).prog 71) (kwd := []) Cl.ob_eq
     (by kernel_rfl) (fun s => by kernel_rfl) Cl.run (by kernel_rfl) (by kernel_rfl) (by kernel_rfl) (by rfl) (by first | assumption | decide +kernel) (by decide +kernel) ⟨rfl, rfl, rfl, rfl, rfl, by decide +kernel⟩ ?hw ?hc
   case hw => w_witness2
   case hc =>
     refine Sv.walk_ofG (l := PySem.Challenge.rw_stillmain_k47_no_part) (n := 63) (k := 22) (x := "_law_script") rfl (by decide) (by kernel_rfl) ⟨by decide, by decide⟩ ?F
     intro w mg fa h Y G hmg0
     obtain ⟨K, KX, c⟩ := Y
     have hmg : mg ("law" : PySem.Str) = some (.ref fa) := by
       have e : (HandSHeadRun.topDef (OpenLaw.row PySem.Challenge.rw_stillmain_k47_no_part).prog 71).name = ("law" : PySem.Str) := by kernel_rfl
       rw [← e]
       exact hmg0
     obtain ⟨fd, hb, hF⟩ := facts (P := (PySem.Challenge.rw_stillmain_k47_no_part).prog) (w := w) KX G hmg c
     exact ⟨K, fd, Sv.spD ⟨K⟩ (Sv.lawT 63), KX, hb, fun H a ns hl hS => Sv.law_sp hl hS, hF⟩)
def b3m (x y z:Int) (cells:List Int):List D:=[.int x,.int y,.int z,.lst (cells.map .int)]
def c3D (x y z:Int) (cells:List Int):Prop:=0≤x∧0≤y∧y < 2147483647∧0≤z∧∀ i∈cells,0≤i
def a0K (c:Cell):Prop:=∃ (x y z:Int) (cells:List Int),c=.lst (b3m x y z cells)∧c3D x y z cells
def a0N:TR:=fun m ds S K Y=>m=none∧∃ b n c,ds=[.obj b,.int n]∧0 < n∧n.natAbs.log2 < 4000∧S b=some c∧a0K c∧∀ v c',0≤v→v < n→a0K c'→K (.int v) (S.set b c')
def b9M:TR:=fun m ds S K Y=>m=none∧∃ ns:List Int,ds=[.lst (ns.map .int)]∧∀ p c,S p=none→a0K c→K (.obj p) (S.set p c)
def Nm (z:Str):Prop:=z.cps.toList.length≤8∧1≤z.cps.toList.length∧∀ c∈z.cps.toList,97≤c∧c≤122
instance (z:Str):Decidable (Nm z):=by unfold Nm;infer_instance
theorem Nm.fine {z:Str} (h:Nm z):fine z=true:=by
 unfold Sv.fine PyData.strOk
 rw [← Array.all_toList,List.all_eq_true]
 intro c hc
 have:=(h.2.2 c hc).2
 exact zbg (by omega)
theorem Nm.len {z:Str} (h:Nm z):z.length≤8∧1≤z.length:=by
 have e:z.length=z.cps.toList.length:=by rw [Array.length_toList];rfl
 rw [e]
 exact ⟨h.1,h.2.1⟩
def b3A:TR:=fun m ds S K Y=>m=none∧∃ b c,ds=[.obj b]∧S b=some c∧a0K c∧∀ z c',Nm z→a0K c'→K (.str z) (S.set b c')
structure Lay where
 rooms:List (Str × Unit)
 lines:List (Str × Str × Str × Int)
 drains:List (Str × Str)
 pushed:List (Str × Unit)
 tw:Bool
def fU:Unit→D:=fun _=>.bl true
def fL:Str × Str × Int→D:=fun p=>.tup [.str p.1,.str p.2.1,.int p.2.2]
def fS:Str→D:=.str
def nms {α:Type} (l:List (Str × α)):List Str:=l.map (·.1)
inductive b2F where
 | room (z:Str) | line (l x y:Str) (n:Int) | drain (d r:Str) | source (z:Str) | takeR (z:Str) | takeL (z:Str) | takeD (z:Str) | takeS (z:Str)
def b2F.d:b2F→D
 | .room z=>.tup [.str "add_room",.str z]
 | .line l x y n=>.tup [.str "add_line",.str l,.str x,.str y,.int n]
 | .drain d r=>.tup [.str "add_drain",.str d,.str r]
 | .source z=>.tup [.str "add_source",.str z]
 | .takeR z=>.tup [.str "take_room",.str z]
 | .takeL z=>.tup [.str "take_line",.str z]
 | .takeD z=>.tup [.str "take_drain",.str z]
 | .takeS z=>.tup [.str "take_source",.str z]
def b2F.Ok:b2F→Prop
 | .room z=>Nm z
 | .line l x y n=>Nm l∧Nm x∧Nm y∧y≠x∧0≤n∧n≤99
 | .drain d r=>Nm d∧Nm r
 | .source z=>Nm z
 | .takeR z=>Nm z | .takeL z=>Nm z | .takeD z=>Nm z | .takeS z=>Nm z
inductive Rf where
 | there (z:Str) | lacks (z:Str) | many (n:Int) | inuse (z:Str) | wrong (i:Int)
def Rf.cls:Rf→Str
 | .there _ => "There" | .lacks _ => "Lacks" | .many _ => "TooMany" | .inuse _ => "InUse" | .wrong _ => "Wrong"
def Rf.v:Rf→D
 | .there z=>.str z | .lacks z=>.str z | .many n=>.int n | .inuse z=>.str z | .wrong i=>.int i
def Rf.fs:Rf→List (Str × D)
 | .there z=>[("name",.str z)] | .lacks z=>[("name",.str z)] | .many n=>[("most",.int n)] | .inuse z=>[("name",.str z)] | .wrong i=>[("at",.int i)]
def atR (st:Lay) (z:Str):List Str:=nms (st.lines.filter fun q=>decide (z∈[q.2.1,q.2.2.1]))
def without {α:Type} (l:List (Str × α)) (z:Str):List (Str × α):=l.filter fun q=>decide (q.1≠z)
def a1C (st:Lay):List Str→Option Rf
 | []=>none
 | z :: r=>if z∈nms st.rooms then a1C st r else some (.lacks z)
def due (st:Lay):b2F→Option Rf
 | .room z=>if z∈nms st.rooms then some (.there z) else if st.rooms.length=24 then some (.many 24) else none
 | .source z=>if z∈nms st.rooms then (if z∈nms st.pushed then some (.there z) else none) else some (.lacks z)
 | .line l x y _=>if l∈nms st.lines∨l∈nms st.drains then some (.there l) else (a1C st [x,y]).or (if st.lines.length=40 then some (.many 40) else none)
 | .drain d r=>if d∈nms st.lines∨d∈nms st.drains then some (.there d) else (a1C st [r]).or (if st.drains.length=12 then some (.many 12) else none)
 | .takeL z=>if z∈nms st.lines then none else some (.lacks z)
 | .takeD z=>if z∈nms st.drains then none else some (.lacks z)
 | .takeS z=>if z∈nms st.pushed then none else some (.lacks z)
 | .takeR z=>if z∈nms st.rooms then (if atR st z≠[]∨z∈st.drains.map (·.2)∨z∈nms st.pushed then some (.inuse z) else none) else some (.lacks z)
def c5s (st:Lay):b2F→Lay
 | .room z=>{ st with rooms:=st.rooms ++ [(z,())] }
 | .line l x y n=>{ st with lines:=st.lines ++ [(l,x,y,n)] }
 | .drain d r=>{ st with drains:=st.drains ++ [(d,r)] }
 | .source z=>{ st with pushed:=st.pushed ++ [(z,())] }
 | .takeR z=>{ st with rooms:=without st.rooms z }
 | .takeL z=>{ st with lines:=without st.lines z }
 | .takeD z=>{ st with drains:=without st.drains z }
 | .takeS z=>{ st with pushed:=without st.pushed z }
structure Ok (n:Nat) (st:Lay):Prop where
 r:st.rooms.length≤24
 l:st.lines.length≤40
 d:st.drains.length≤12
 up:(nms st.pushed).Nodup
 nr:∀ q∈st.rooms,Nm q.1
 nl:∀ q∈st.lines,Nm q.1∧Nm q.2.1∧Nm q.2.2.1∧0≤q.2.2.2∧q.2.2.2≤99
 nd:∀ q∈st.drains,Nm q.1∧Nm q.2
 np:∀ q∈st.pushed,Nm q.1
 ul:(nms st.lines).Nodup
 sub:∀ z∈nms st.pushed,z∈nms st.rooms
theorem a0C {l:List Str}:∀ {r:List Str},l.Nodup→(∀ z∈l,z∈r)→l.length≤r.length:=by
 induction l with
 | nil=>intro r _ _;exact Nat.zero_le _
 | cons a l ih =>
  intro r u s
  have ha:a∈r:=s a zal
  have h:=ih (r:=r.erase a) (zbd.mp u).2 fun z hz=>(List.mem_erase_of_ne (fun e=>(zbd.mp u).1 (by rw [← e];exact hz))).mpr (s z (zao _ hz))
  rw [List.length_erase_of_mem ha] at h
  have:=List.length_pos_of_mem ha
  rw [zaz]
  omega
theorem Ok.p {n:Nat} {st:Lay} (h:Ok n st):st.pushed.length≤24:=by
 have:=a0C h.up h.sub
 unfold nms at this
 rw [zag,zag] at this
 exact Nat.le_trans this h.r
def c1v (C a b c d:Addr):Cell:=.ins C [("by_room",.obj a),("ends_of",.obj b),("seat_of",.obj c),("pushed",.obj d)]
def mK (sm:Lay) (e f:Addr):List (Key × D) :=
 if sm.tw=true then [(.inr "rooms",.lst ((a0l (nms sm.rooms)).map D.str)),(.inr "sources",.lst ((a0l (nms sm.pushed)).map D.str)),(.inr "lines",.obj e),(.inr "drains",.obj f)] else [(.inr "rooms",.lst ((a0l (nms sm.rooms)).map D.str)),(.inr "lines",.obj e),(.inr "drains",.obj f),(.inr "sources",.lst ((a0l (nms sm.pushed)).map D.str))]
structure a1o (C:Addr) (S:SS) (L a b c d:Addr) (st:Lay):Prop where
 L:S L=some (c1v C a b c d)
 a:S a=some (.dic (a0g fU st.rooms))
 b:S b=some (.dic (a0g fL st.lines))
 c:S c=some (.dic (a0g fS st.drains))
 d:S d=some (.dic (a0g fU st.pushed))
structure Ad where
 (g L a b c d M e f:Addr)
def Ad.l (A:Ad):List Addr:=[A.g,A.L,A.a,A.b,A.c,A.d,A.M,A.e,A.f]
def put (C:Addr) (S0:SS) (A:Ad) (st sm:Lay) (cb:Cell):SS:=fun q =>
 if q=A.g then some cb else if q=A.L then some (c1v C A.a A.b A.c A.d) else if q=A.a then some (.dic (a0g fU st.rooms)) else if q=A.b then some (.dic (a0g fL st.lines)) else
 if q=A.c then some (.dic (a0g fS st.drains)) else if q=A.d then some (.dic (a0g fU st.pushed)) else if q=A.M then some (.dic (mK sm A.e A.f)) else
 if q=A.e then some (.dic (a0g fL sm.lines)) else if q=A.f then some (.dic (a0g fS sm.drains)) else S0 q
section
variable {C:Addr} {S0:SS} {A:Ad} {st sm:Lay} {cb:Cell}
structure Apart (A:Ad):Prop where
 (gL:A.g≠A.L) (ga:A.g≠A.a) (gb:A.g≠A.b) (gc:A.g≠A.c) (gd:A.g≠A.d) (gM:A.g≠A.M) (ge:A.g≠A.e) (gf:A.g≠A.f)
 (La:A.L≠A.a) (Lb:A.L≠A.b) (Lc:A.L≠A.c) (Ld:A.L≠A.d) (LM:A.L≠A.M) (Le:A.L≠A.e) (Lf:A.L≠A.f)
 (ab:A.a≠A.b) (ac:A.a≠A.c) (ad:A.a≠A.d) (aM:A.a≠A.M) (ae:A.a≠A.e) (af:A.a≠A.f)
 (bc:A.b≠A.c) (bd:A.b≠A.d) (bM:A.b≠A.M) (be:A.b≠A.e) (bf:A.b≠A.f)
 (cd:A.c≠A.d) (cM:A.c≠A.M) (ce:A.c≠A.e) (cf:A.c≠A.f)
 (dM:A.d≠A.M) (de:A.d≠A.e) (df:A.d≠A.f)
 (Me:A.M≠A.e) (Mf:A.M≠A.f) (ef:A.e≠A.f)
theorem b2q (h:Apart A) {x:List (Str × Str × Str × Int)}:(put C S0 A st sm cb).set A.b (.dic (a0g fL x))=put C S0 A { st with lines:=x } sm cb:=by
 funext q
 unfold SS.set put
 by_cases e:q=A.b
 ·simp [e,h.gb.symm,h.Lb.symm,h.ab.symm]
 ·simp [e]
end
structure Wo where
 rooms:List Str
 lines:List (Str × Str × Str × Int)
 drains:List (Str × Str)
 srcs:List Str
structure a03 (w:Wo):Prop where
 r:w.rooms.length≤24
 rn:∀ z∈w.rooms,Nm z
 ru:w.rooms.Nodup
 l:w.lines.length≤40
 ln:∀ q∈w.lines,Nm q.1∧q.2.1∈w.rooms∧q.2.2.1∈w.rooms∧q.2.2.1≠q.2.1∧0≤q.2.2.2∧q.2.2.2≤99
 lu:(nms w.lines).Nodup
 d:w.drains.length≤12
 dn:∀ q∈w.drains,Nm q.1∧q.2∈w.rooms
 du:(nms w.drains).Nodup
 ld:∀ z∈nms w.lines,z∉nms w.drains
 s:∀ z∈w.srcs,z∈w.rooms
 su:w.srcs.Nodup
def units (zs:List Str):List (Str × Unit):=zs.map fun z=>(z,())
theorem a0j {zs:List Str}:nms (units zs)=zs:=by
 unfold nms units
 rw [zat]
 exact List.map_id' _
def Wo.lay (w:Wo):Lay:=⟨units w.rooms,w.lines,w.drains,units w.srcs,false⟩
theorem a03.ok {w:Wo} (h:a03 w):Ok 0 w.lay:=by
 refine ⟨by show (units w.rooms).length≤24;unfold units;rw [zag];exact h.r,h.l,h.d,by show (nms (units w.srcs)).Nodup;rw [a0j];exact h.su,fun q hq=>?_,fun q hq=>?_,fun q hq=>?_,fun q hq=>?_,h.lu,fun z hz=>?_⟩
 ·obtain ⟨z,hz,rfl⟩:=zan.mp hq
  exact h.rn z hz
 ·obtain ⟨a,b,c,_,d,e⟩:=h.ln q hq
  exact ⟨a,h.rn _ b,h.rn _ c,d,e⟩
 ·obtain ⟨a,b⟩:=h.dn q hq
  exact ⟨a,h.rn _ b⟩
 ·obtain ⟨z,hz,rfl⟩:=zan.mp hq
  exact h.rn z (h.s z hz)
 ·have hz:z∈nms (units w.srcs):=hz
  show z∈nms (units w.rooms)
  rw [a0j] at hz ⊢
  exact h.s z hz
def a1Y (q:Str × Str × Str × Int) (x y:Str):Prop:=(q.2.1=x∧q.2.2.1=y)∨(q.2.2.1=x∧q.2.1=y)
def Adj (w:Wo) (shut:List Str) (x y:Str):Prop:=∃ q∈w.lines,q.1∉shut∧a1Y q x y
theorem Adj.symm {w:Wo} {shut:List Str} {x y:Str} (h:Adj w shut x y):Adj w shut y x:=by
 obtain ⟨q,hq,hs,h⟩:=h
 exact ⟨q,hq,hs,h.elim (fun h=>.inr ⟨h.2,h.1⟩) fun h=>.inl ⟨h.2,h.1⟩⟩
theorem Adj.room {w:Wo} {shut:List Str} {x y:Str} (ok:a03 w) (h:Adj w shut x y):y∈w.rooms:=by
 obtain ⟨q,hq,_,h⟩:=h
 have:=ok.ln q hq
 rcases h with ⟨_,rfl⟩ | ⟨_,rfl⟩
 ·exact this.2.2.1
 ·exact this.2.1
inductive Lev (w:Wo) (shut rs:List Str):Nat→Str→Prop where
 | zero {z:Str}:z∈rs→Lev w shut rs 0 z
 | succ {n:Nat} {x y:Str}:Lev w shut rs n x→Adj w shut x y→Lev w shut rs (n + 1) y
def Reach (w:Wo) (shut rs:List Str) (z:Str):Prop:=∃ n,Lev w shut rs n z
theorem Reach.base {w:Wo} {shut rs:List Str} {z:Str} (h:z∈rs):Reach w shut rs z:=⟨0,.zero h⟩
theorem Reach.step {w:Wo} {shut rs:List Str} {x y:Str} (h:Reach w shut rs x) (a:Adj w shut x y):Reach w shut rs y:=by
 obtain ⟨n,h⟩:=h
 exact ⟨n + 1,h.succ a⟩
theorem Reach.least {w:Wo} {shut rs:List Str} {P:Str→Prop} (h0:∀ z∈rs,P z) (h1:∀ x y,P x→Adj w shut x y→P y) {z:Str} (h:Reach w shut rs z):P z:=by
 obtain ⟨n,h⟩:=h
 induction h with
 | zero h=>exact h0 _ h
 | succ _ a ih=>exact h1 _ _ ih a
theorem Reach.room {w:Wo} {shut rs:List Str} (ok:a03 w) (sub:∀ z∈rs,z∈w.rooms) {z:Str} (h:Reach w shut rs z):z∈w.rooms:=h.least sub fun _ _ _ a=>a.room ok
structure a0F (w:Wo) (shut rs:List Str) (R:List (Str × Nat)):Prop where
 u:(nms R).Nodup
 lev:∀ q∈R,Lev w shut rs q.2 q.1
 all:∀ m z,Lev w shut rs m z→∃ d,(z,d)∈R∧d≤m
theorem a0F.iff {w:Wo} {shut rs:List Str} {R:List (Str × Nat)} (h:a0F w shut rs R) {z:Str}:z∈nms R↔Reach w shut rs z:=by
 constructor
 ·intro hz
  obtain ⟨q,hq,rfl⟩:=zan.mp hz
  exact ⟨_,h.lev q hq⟩
 ·rintro ⟨n,hz⟩
  obtain ⟨d,hd,_⟩:=h.all n z hz
  exact zan.mpr ⟨_,hd,rfl⟩
structure Bfs (w:Wo) (shut rs:List Str) (R:List (Str × Nat)) (at_:Nat) (P:List Str):Prop where
 u:(nms R).Nodup
 lev:∀ q∈R,Lev w shut rs q.2 q.1
 up:R.Pairwise fun p q=>p.2≤q.2
 base:∀ z∈rs,(z,0)∈R
 near:∀ p,R[at_]?=some p→∀ q∈R,q.2≤p.2 + 1
 done:∀ j p,j < at_→R[j]?=some p→∀ y,Adj w shut p.1 y→∃ d,(y,d)∈R∧d≤p.2 + 1
 part:∀ p,R[at_]?=some p→∀ q∈w.lines,q.1∈P→q.1∉shut→∀ y,a1Y q p.1 y→∃ d,(y,d)∈R∧d≤p.2 + 1
section
variable {w:Wo} {shut rs:List Str} {R:List (Str × Nat)} {k:Nat} {P:List Str}
theorem Bfs.start (u:rs.Nodup):Bfs w shut rs (rs.map fun z=>(z,0)) 0 []:=by
 have e:nms (rs.map fun z=>(z,0))=rs:=by
  unfold nms
  rw [zat]
  exact List.map_id' _
 refine ⟨by rw [e];exact u,fun q hq=>?_,?_,fun z hz=>zan.mpr ⟨z,hz,rfl⟩,fun p _ q hq=>?_,fun j _ hj=>absurd hj (Nat.not_lt_zero _),fun _ _ _ _ h=>absurd h zba⟩
 ·obtain ⟨z,hz,rfl⟩:=zan.mp hq
  exact .zero hz
 ·rw [List.pairwise_map]
  exact List.pairwise_of_forall fun _ _=>Nat.le_refl _
 ·obtain ⟨z,hz,rfl⟩:=zan.mp hq
  exact Nat.zero_le _
theorem Bfs.skip {l:Str} (h:Bfs w shut rs R k P) (here:∀ p,R[k]?=some p→∀ q∈w.lines,q.1=l→q.1∉shut→∀ y,a1Y q p.1 y→y∈nms R):Bfs w shut rs R k (P ++ [l]):=by
 refine ⟨h.u,h.lev,h.up,h.base,h.near,h.done,fun p hp q hq hl hs y hy=>?_⟩
 rcases zap.mp hl with hl | hl
 ·exact h.part p hp q hq hl hs y hy
 ·obtain ⟨⟨z,d⟩,hd,rfl⟩:=zan.mp (here p hp q hq (zaj.mp hl) hs y hy)
  exact ⟨d,hd,h.near p hp _ hd⟩
theorem Bfs.add {l there:Str} {p:Str × Nat} (h:Bfs w shut rs R k P) (hp:R[k]?=some p) (adj:Adj w shut p.1 there) (new:there∉nms R) (only:∀ q∈w.lines,q.1=l→∀ y,a1Y q p.1 y→y=there) :
  Bfs w shut rs (R ++ [(there,p.2 + 1)]) k (P ++ [l]):=by
 have hk:k < R.length:=(List.getElem?_eq_some_iff.mp hp).1
 have at_k:(R ++ [(there,p.2 + 1)])[k]?=some p:=by rw [List.getElem?_append_left hk];exact hp
 have old:∀ {y d},(y,d)∈R→(y,d)∈R ++ [(there,p.2 + 1)]:=fun h=>zar _ h
 refine ⟨?_,fun q hq=>?_,?_,fun z hz=>old (h.base z hz),fun p' hp' q hq=>?_,fun j p' hj hp' y hy=>?_,fun p' hp' q hq hl hs y hy=>?_⟩
 ·unfold nms
  rw [zav]
  refine List.nodup_append.mpr ⟨h.u,by simp,fun a ha b hb e=>new ?_⟩
  have hb:b=there:=by simpa using hb
  rw [← hb,← e]
  exact ha
 ·rcases zap.mp hq with hq | hq
  ·exact h.lev q hq
  ·cases zaj.mp hq
   exact (h.lev p (zaq hp)).succ adj
 ·refine List.pairwise_append.mpr ⟨h.up,List.pairwise_singleton _ _,fun a ha b hb=>?_⟩
  cases zaj.mp hb
  exact h.near p hp a ha
 ·rw [at_k] at hp'
  cases hp'
  rcases zap.mp hq with hq | hq
  ·exact h.near p hp q hq
  ·cases zaj.mp hq
   exact Nat.le_refl _
 ·rw [List.getElem?_append_left (by omega)] at hp'
  obtain ⟨d,hd,l⟩:=h.done j p' hj hp' y hy
  exact ⟨d,old hd,l⟩
 ·rw [at_k] at hp'
  cases hp'
  rcases zap.mp hl with hl | hl
  ·obtain ⟨d,hd,l⟩:=h.part p hp q hq hl hs y hy
   exact ⟨d,old hd,l⟩
  ·cases only q hq (zaj.mp hl) y hy
   exact ⟨p.2 + 1,zas _ (zaj.mpr rfl),Nat.le_refl _⟩
theorem Bfs.next {p:Str × Nat} (h:Bfs w shut rs R k P) (hp:R[k]?=some p) (all:∀ q∈w.lines,∀ y,a1Y q p.1 y→q.1∈P):Bfs w shut rs R (k + 1) []:=by
 refine ⟨h.u,h.lev,h.up,h.base,fun p' hp' q hq=>?_,fun j p' hj hp' y hy=>?_,fun _ _ _ _ h=>absurd h zba⟩
 ·have hlt:=(List.getElem?_eq_some_iff.mp hp').1
  have e1:R[k]'(by omega)=p:=Option.some.inj ((zbi (by omega)).symm.trans hp)
  have e2:R[k + 1]=p':=Option.some.inj ((zbi hlt).symm.trans hp')
  have:=List.pairwise_iff_getElem.mp h.up k (k + 1) (by omega) hlt (by omega)
  rw [e1,e2] at this
  have:=h.near p hp q hq
  omega
 ·by_cases e:j=k
  ·subst e
   rw [hp] at hp'
   cases hp'
   obtain ⟨q,hq,hs,hy⟩:=hy
   exact h.part p hp q hq (all q hq y hy) hs y hy
  ·exact h.done j p' (by omega) hp' y hy
theorem Bfs.end_ (h:Bfs w shut rs R R.length []):a0F w shut rs R:=by
 refine ⟨h.u,h.lev,fun m z hz=>?_⟩
 induction hz with
 | zero hz=>exact ⟨0,h.base _ hz,Nat.le_refl _⟩
 | @succ n x y _ a ih =>
  obtain ⟨d,hd,l⟩:=ih
  obtain ⟨j,hj⟩:=List.mem_iff_getElem?.mp hd
  obtain ⟨d2,hd2,l2⟩:=h.done j _ (List.getElem?_eq_some_iff.mp hj).1 hj y a
  have l2:d2≤d + 1:=l2
  exact ⟨d2,hd2,by omega⟩
theorem Bfs.few (ok:a03 w) (sub:∀ z∈rs,z∈w.rooms) (h:Bfs w shut rs R k P):R.length≤24:=by
 have e:(nms R).length=R.length:=zag ..
 rw [← e]
 refine Nat.le_trans (a0C h.u fun z hz=>?_) ok.r
 obtain ⟨q,hq,rfl⟩:=zan.mp hz
 exact Reach.room (w:=w) (shut:=shut) ok sub ⟨_,h.lev q hq⟩
end
noncomputable instance (w:Wo) (shut rs:List Str) (z:Str):Decidable (Reach w shut rs z):=Classical.propDecidable _
noncomputable def a6T (w:Wo) (shut rs:List Str):List Str:=w.rooms.filter fun z=>decide (Reach w shut rs z)
theorem a2t {w:Wo} {shut rs:List Str} (ok:a03 w) (sub:∀ z∈rs,z∈w.rooms) {z:Str}:z∈a6T w shut rs↔Reach w shut rs z:=by
 unfold a6T
 rw [zay,zah]
 exact ⟨fun h=>h.2,fun h=>⟨h.room ok sub,h⟩⟩
structure Grow (w:Wo) (shut rs ks:List Str):Prop where
 u:ks.Nodup
 base:∀ z∈rs,z∈ks
 in_:∀ z∈ks,Reach w shut rs z
theorem Grow.start {w:Wo} {shut rs:List Str} (u:rs.Nodup):Grow w shut rs rs:=⟨u,fun _ h=>h,fun _ h=>.base h⟩
theorem Grow.add {w:Wo} {shut rs ks:List Str} {x y:Str} (h:Grow w shut rs ks) (hx:x∈ks) (a:Adj w shut x y) (new:y∉ks):Grow w shut rs (ks ++ [y]):=by
 refine ⟨List.nodup_append.mpr ⟨h.u,by simp,fun a ha b hb e=>new ?_⟩,fun z hz=>zar _ (h.base z hz),fun z hz=>?_⟩
 ·rw [← zaj.mp hb,← e];exact ha
 ·rcases zap.mp hz with hz | hz
  ·exact h.in_ z hz
  ·cases zaj.mp hz
   exact (h.in_ x hx).step a
theorem Grow.few {w:Wo} {shut rs ks:List Str} (ok:a03 w) (sub:∀ z∈rs,z∈w.rooms) (h:Grow w shut rs ks):ks.length≤24 :=
 Nat.le_trans (a0C h.u fun z hz=>(h.in_ z hz).room ok sub) ok.r
theorem Grow.done {w:Wo} {shut rs ks:List Str} (h:Grow w shut rs ks) (shutOff:∀ q∈w.lines,q.1∉shut→(q.2.1∈ks↔q.2.2.1∈ks)):∀ z,z∈ks↔Reach w shut rs z:=fun z =>
 ⟨h.in_ z,fun r=>r.least h.base fun x y hx a=>by
  obtain ⟨q,hq,hs,⟨rfl,rfl⟩ | ⟨rfl,rfl⟩⟩:=a
  ·exact (shutOff q hq hs).mp hx
  ·exact (shutOff q hq hs).mpr hx⟩
section
variable {w:Wo} {shut:List Str}
theorem Lev.trans {rs:List Str} {x:Str} {n:Nat} {y:Str} (h:Lev w shut [x] n y) (hx:Reach w shut rs x):Reach w shut rs y:=by
 induction h with
 | zero h=>cases zaj.mp h;exact hx
 | succ _ a ih=>exact ih.step a
theorem Reach.trans {rs:List Str} {x y:Str} (h:Reach w shut [x] y) (hx:Reach w shut rs x):Reach w shut rs y:=by
 obtain ⟨n,h⟩:=h
 exact h.trans hx
theorem Reach.self {x:Str}:Reach w shut [x] x:=.base (zaj.mpr rfl)
theorem Reach.symm {x y:Str} (h:Reach w shut [x] y):Reach w shut [y] x:=by
 obtain ⟨n,h⟩:=h
 induction h with
 | zero h=>cases zaj.mp h;exact .self
 | @succ n u v _ a ih =>
  exact ih.trans (Reach.self.step a.symm)
theorem Reach.one {rs:List Str} {y:Str}:Reach w shut rs y↔∃ x∈rs,Reach w shut [x] y:=by
 constructor
 ·intro h
  exact Reach.least (P:=fun y=>∃ x∈rs,Reach w shut [x] y) (fun z hz=>⟨z,hz,.self⟩) (fun u v ⟨x,hx,h⟩ a=>⟨x,hx,h.step a⟩) h
 ·rintro ⟨x,hx,h⟩
  exact h.trans (.base hx)
theorem a0G {zs:List Str} {z:Str}:z∈a0l zs↔z∈zs:=(List.mergeSort_perm zs leS).mem_iff
theorem b0R {zs:List Str}:(a0l zs).length=zs.length:=(List.mergeSort_perm zs leS).length_eq
theorem a1N {zs:List Str} (h:zs.Nodup):(a0l zs).Nodup:=(List.mergeSort_perm zs leS).nodup_iff.mpr h
def a92 (acc:List (List Str)) (z:Str):Bool:=acc.any fun p=>decide (z∈p)
theorem a5n {acc:List (List Str)} {z:Str}:a92 acc z=true↔∃ p∈acc,z∈p:=by
 unfold a92
 rw [List.any_eq_true]
 exact ⟨fun ⟨p,h,e⟩=>⟨p,h,of_decide_eq_true e⟩,fun ⟨p,h,e⟩=>⟨p,h,zbg e⟩⟩
def a4B (w:Wo) (rs:List Str) (l:Str):Bool:=match w.lines.lookup l with
 | some q=>!(decide (q.1∈rs) == decide (q.2.1∈rs)) | none=>false
def a2E (w:Wo) (rs:List Str):List Str:=(a0l (nms w.lines)).filter (a4B w rs)
end
abbrev Lms:=List (Str × Str × Str × Option Int)
structure a6j (lm:Lms):Prop where
 u:(nms lm).Nodup
 ne:∀ q∈lm,q.2.1≠q.2.2.1
 c:∀ q∈lm,∀ c,q.2.2.2=some c→0 < c∧c≤99
 few:lm.length≤40
 nm:∀ q∈lm,Nm q.1∧Nm q.2.1∧Nm q.2.2.1
def ind (X:List Str) (r:Str):Int:=if r∈X then 1 else 0
def a2I {α:Type} (l:List α) (f:α→Int):Int:=match l with
 | []=>0
 | a :: l=>f a + a2I l f
def net (lm:Lms) (u:Str→Int) (X:List Str):Int:=a2I lm fun q=>(ind X q.2.2.1 - ind X q.2.1) * u q.1
def a5b (q:Str × Str × Str × Option Int) (u:Str→Int):Prop:=∀ c,q.2.2.2=some c→0 < c - u q.1
def a3v (q:Str × Str × Str × Option Int) (u:Str→Int):Prop:=∀ c,q.2.2.2=some c→0 < c + u q.1
def Arc (lm:Lms) (u:Str→Int) (x l y:Str):Prop:=∃ q∈lm,q.1=l∧((q.2.1=x∧q.2.2.1=y∧a5b q u)∨(q.2.2.1=x∧q.2.1=y∧a3v q u))
abbrev Stp:=Str × Str × Str
def a4a (lm:Lms) (s:Stp):Prop:=∃ q∈lm,q.1=s.2.1∧((q.2.1=s.1∧q.2.2.1=s.2.2)∨(q.2.2.1=s.1∧q.2.1=s.2.2))
def oneOf (lm:Lms) (l:Str):Str:=match lm.lookup l with
 | some q=>q.1
 | none => ""
def a0Q (lm:Lms) (amt:Int) (u:Str→Int) (s:Stp):Str→Int:=fun l=>if l=s.2.1 then (if s.1=oneOf lm l then u l + amt else u l - amt) else u l
def a0P (lm:Lms) (amt:Int) (u:Str→Int) (st:List Stp):Str→Int:=st.foldl (a0Q lm amt) u
inductive Chain (P:Stp→Prop):Str→List Stp→Str→Prop where
 | nil {x:Str}:Chain P x [] x
 | cons {x l y z:Str} {st:List Stp}:P (x,l,y)→Chain P y st z→Chain P x ((x,l,y) :: st) z
section
variable {α:Type} {lm:Lms} {u v:Str→Int} {X Y T Z:List Str} {r x y l:Str} {st:List Stp} {amt:Int}
theorem a3B {l:List α} {f g:α→Int} (h:∀ a∈l,f a=g a):a2I l f=a2I l g:=by
 induction l with
 | nil=>rfl
 | cons a l ih =>
  unfold a2I
  rw [h a zal,ih fun b hb=>h b (zao _ hb)]
theorem a8E {l:List α} {f g:α→Int}:a2I l (fun a=>f a + g a)=a2I l f + a2I l g:=by
 induction l with
 | nil=>rfl
 | cons a l ih=>unfold a2I;rw [ih];omega
theorem a7P {l:List α} {f g:α→Int} (h:∀ a∈l,f a≤g a):a2I l f≤a2I l g:=by
 induction l with
 | nil=>exact Int.le_refl _
 | cons a l ih =>
  unfold a2I
  have h1:=h a zal
  have h2:=ih fun b hb=>h b (zao _ hb)
  omega
theorem b5r {l:List α} {f g:α→Int} (h:∀ a∈l,f a≤g a) (e:a2I l f=a2I l g):∀ a∈l,f a=g a:=by
 induction l with
 | nil=>exact fun _ h=>nomatch h
 | cons a l ih =>
  unfold a2I at e
  have h1:=h a zal
  have h2:=a7P fun b hb=>h b (zao _ hb)
  intro b hb
  rcases zau.mp hb with rfl | hb
  ·omega
  ·exact ih (fun b hb=>h b (zao _ hb)) (by omega) b hb
theorem a4S {l:List α} {f:α→Int} (h:∀ a∈l,f a=0):a2I l f=0:=by
 induction l with
 | nil=>rfl
 | cons a l ih =>
  unfold a2I
  rw [h a zal,ih fun b hb=>h b (zao _ hb)]
  rfl
theorem b2v {l:List (Str × α)} (un:(nms l).Nodup) {q:Str × α} (hq:q∈l) {f:Str × α→Int} (h:∀ p∈l,p.1≠q.1→f p=0):a2I l f=f q:=by
 induction l with
 | nil=>cases hq
 | cons a l ih =>
  have un2:a.1∉nms l∧(nms l).Nodup:=zbd.mp un
  unfold a2I
  rcases zau.mp hq with rfl | hq
  ·rw [a4S fun p hp=>h p (zao _ hp) fun e=>un2.1 (by rw [← e];exact zan.mpr ⟨p,hp,rfl⟩)]
   omega
  ·rw [h a zal fun e=>un2.1 (by rw [e];exact zan.mpr ⟨q,hq,rfl⟩),ih un2.2 hq fun p hp=>h p (zao _ hp)]
   omega
theorem a0W (h:r∈X):ind X r=1:=if_pos h
theorem a0y (h:r∉X):ind X r=0:=if_neg h
theorem a6I (h:∀ z,z∈X↔z∈Y):net lm u X=net lm u Y:=by
 have e:∀ z,ind X z=ind Y z:=fun z=>by
  unfold ind
  by_cases hz:z∈X
  ·rw [if_pos hz,if_pos ((h z).mp hz)]
  ·rw [if_neg hz,if_neg fun k=>hz ((h z).mpr k)]
 unfold net
 simp only [e]
theorem a8q (h:r∉Y):net lm u (r :: Y)=net lm u [r] + net lm u Y:=by
 have e:∀ z,ind (r :: Y) z=ind [r] z + ind Y z:=fun z=>by
  by_cases hr:z=r
  ·subst hr
   rw [a0W zal,a0W zal,a0y h];rfl
  ·by_cases hz:z∈Y
   ·rw [a0W (zao _ hz),a0y (by simpa using hr),a0W hz];rfl
   ·rw [a0y (by simp [hr,hz]),a0y (by simpa using hr),a0y hz];rfl
 unfold net
 rw [← a8E]
 refine a3B fun q _=>?_
 rw [e,e,← Int.add_mul]
 congr 1
 omega
theorem a7B:∀ {Y:List Str},Y.Nodup→(∀ r∈Y,r∉T→net lm u [r]=0)→net lm u Y=net lm u (Y.filter fun z=>decide (z∈T))
 | [],_,_=>rfl
 | r :: Y,hu,h=>by
  obtain ⟨h1,h2⟩:=zbd.mp hu
  have ih:=a7B h2 fun z hz=>h z (zao _ hz)
  rw [a8q h1,ih]
  by_cases hr:r∈T
  ·rw [show (r :: Y).filter (fun z=>decide (z∈T))=r :: Y.filter (fun z=>decide (z∈T)) from List.filter_cons_of_pos (by simpa using hr),a8q fun k=>h1 (zay.mp k).1]
  ·rw [show (r :: Y).filter (fun z=>decide (z∈T))=Y.filter (fun z=>decide (z∈T)) from List.filter_cons_of_neg (by simpa using hr),h r zal hr]
   omega
theorem a3Y (ok:a6j lm) {q:Str × Str × Str × Option Int} (hq:q∈lm):oneOf lm q.1=q.2.1:=by
 have:∀ {l:Lms},(nms l).Nodup→q∈l→l.lookup q.1=some q.2:=fun {l}=>by
  induction l with
  | nil=>exact fun _ h=>nomatch h
  | cons a l ih =>
   intro un hq
   have un2:a.1∉nms l∧(nms l).Nodup:=zbd.mp un
   rw [List.lookup_cons]
   rcases zau.mp hq with rfl | hq
   ·simp
   ·have ne:(q.1 == a.1)=false:=by
     rw [beq_eq_false_iff_ne]
     exact fun e=>un2.1 (by rw [← e];exact zan.mpr ⟨q,hq,rfl⟩)
    rw [ne]
    exact ih un2.2 hq
 unfold oneOf
 rw [this ok.u hq]
theorem a2s (ok:a6j lm) {p q:Str × Str × Str × Option Int} (hp:p∈lm) (hq:q∈lm) (e:p.1=q.1):p=q:=by
 have:∀ {l:Lms},(nms l).Nodup→p∈l→q∈l→p=q:=fun {l}=>by
  induction l with
  | nil=>exact fun _ h=>nomatch h
  | cons a l ih =>
   intro un hp hq
   have un2:a.1∉nms l∧(nms l).Nodup:=zbd.mp un
   rcases zau.mp hp with e1 | k1 <;> rcases zau.mp hq with e2 | k2
   ·rw [e1,e2]
   ·exact absurd (zan.mpr ⟨q,k2,by rw [← e1];exact e.symm⟩) un2.1
   ·exact absurd (zan.mpr ⟨p,k1,by rw [← e2];exact e⟩) un2.1
   ·exact ih un2.2 k1 k2
 exact this ok.u hp hq
theorem b1Y (ok:a6j lm) {s:Stp} (h:a4a lm s):net lm (a0Q lm amt u s) X=net lm u X + amt * (ind X s.2.2 - ind X s.1):=by
 obtain ⟨q,hq,e,g⟩:=h
 have d:net lm (a0Q lm amt u s) X=net lm u X + a2I lm fun p=>(ind X p.2.2.1 - ind X p.2.1) * (a0Q lm amt u s p.1 - u p.1):=by
  unfold net
  rw [← a8E]
  refine a3B fun p _=>?_
  rw [← Int.mul_add]
  congr 1
  omega
 rw [d,b2v ok.u hq fun p hp ne=>?_]
 ·congr 1
  have e1:=a3Y ok hq
  unfold a0Q
  rw [if_pos e,e1]
  have ne:=ok.ne q hq
  rcases g with ⟨g1,g2⟩ | ⟨g1,g2⟩
  ·rw [if_pos g1.symm,g1,g2,show u q.1 + amt - u q.1=amt by omega,Int.mul_comm]
  ·rw [if_neg fun k=>ne (by rw [← k,g1]),g1,g2,show u q.1 - amt - u q.1=-amt by omega,Int.mul_neg,← Int.neg_mul,Int.mul_comm]
   congr 1
   omega
 ·unfold a0Q
  rw [if_neg fun k=>ne (by rw [k,e]),Int.sub_self,Int.mul_zero]
theorem a5V (ok:a6j lm) {P:Stp→Prop} (hP:∀ s,P s→a4a lm s):∀ {st:List Stp} {u:Str→Int} {x y:Str},Chain P x st y→net lm (a0P lm amt u st) X=net lm u X + amt * (ind X y - ind X x):=by
 intro st u x y h
 induction h generalizing u with
 | nil=>unfold a0P;rw [List.foldl_nil,Int.sub_self,Int.mul_zero,Int.add_zero]
 | @cons x l y z st p _ ih =>
  show net lm (a0P lm amt (a0Q lm amt u (x,l,y)) st) X=_
  rw [ih,b1Y ok (hP _ p)]
  show net lm u X + amt * (ind X y - ind X x) + amt * (ind X z - ind X y)=_
  rw [Int.add_assoc,← Int.mul_add]
  congr 2
  omega
theorem Chain.mono {P Q:Stp→Prop} (h:∀ s,P s→Q s) {x y:Str} {st:List Stp} (c:Chain P x st y):Chain Q x st y:=by
 induction c with
 | nil=>exact .nil
 | cons p _ ih=>exact .cons (h _ p) ih
theorem Chain.all {P:Stp→Prop} {x y:Str} {st:List Stp} (c:Chain P x st y):∀ s∈st,P s:=by
 induction c with
 | nil=>exact fun _ h=>nomatch h
 | cons p _ ih =>
  intro s hs
  rcases zau.mp hs with rfl | hs
  ·exact p
  ·exact ih s hs
theorem a2F (ok:a6j lm):∀ {st:List Stp} {x y:Str},Chain (a4a lm) x st y→(x :: st.map fun s=>s.2.2).Nodup→(st.map fun s=>s.2.1).Nodup:=by
 intro st x y h
 induction h with
 | nil=>exact fun _=>List.nodup_nil
 | @cons x l y z st p c ih =>
  intro hu
  obtain ⟨h1,h2⟩:=zbd.mp hu
  refine zbd.mpr ⟨fun k=>?_,ih h2⟩
  obtain ⟨s,hs,e⟩:=zan.mp k
  have e:s.2.1=l:=e
  obtain ⟨q,hq,e1,g1⟩:=p
  obtain ⟨q2,hq2,e2,g2⟩:=c.all s hs
  have eq:=a2s ok hq hq2 (by rw [e1,e2,e])
  subst eq
  have ms:s.2.2∈st.map fun s=>s.2.2:=zan.mpr ⟨s,hs,rfl⟩
  have nx:s.2.2≠x:=fun k=>h1 (by rw [← k];exact zao _ ms)
  have ny:s.2.2≠y:=fun k=>(zbd.mp h2).1 (by rw [← k];exact ms)
  rcases g1 with ⟨a1,a2⟩ | ⟨a1,a2⟩ <;> rcases g2 with ⟨b1,b2⟩ | ⟨b1,b2⟩
  ·exact ny (by rw [← b2,a2])
  ·exact nx (by rw [← b2,a1])
  ·exact nx (by rw [← b2,a1])
  ·exact ny (by rw [← b2,a2])
structure a1f (lm:Lms) (u:Str→Int) (S T:List Str):Prop where
 b:∀ q∈lm,∀ c,q.2.2.2=some c→-c≤u q.1∧u q.1≤c
 k:∀ r,r∉S→r∉T→net lm u [r]=0
def a1h (q:Str × Str × Str × Option Int) (u:Str→Int) (s:Stp) (c:Int):Int:=if s.1=q.2.1 then c - u q.1 else c + u q.1
def b3k (lm:Lms) (u:Str→Int) (st:List Stp) (amt:Int):Prop:=∀ s∈st,∀ q∈lm,q.1=s.2.1→∀ c,q.2.2.2=some c→amt≤a1h q u s c
theorem a2P {s:Stp} (h:l≠s.2.1):a0Q lm amt u s l=u l:=if_neg h
theorem a6o (ok:a6j lm) (a0:0≤amt):∀ {st:List Stp} {u:Str→Int},(st.map fun s=>s.2.1).Nodup→b3k lm u st amt→(∀ q∈lm,∀ c,q.2.2.2=some c→-c≤u q.1∧u q.1≤c)→∀ q∈lm,∀ c,q.2.2.2=some c→-c≤a0P lm amt u st q.1∧a0P lm amt u st q.1≤c
 | [],_,_,_,hb=>hb
 | s :: st,u,hu,ha,hb=>by
  obtain ⟨h1,h2⟩:=zbd.mp hu
  show ∀ q∈lm,∀ c,q.2.2.2=some c→-c≤a0P lm amt (a0Q lm amt u s) st q.1∧a0P lm amt (a0Q lm amt u s) st q.1≤c
  refine a6o ok a0 h2 (fun s' hs q hq e c hc=>?_) fun q hq c hc=>?_
  ·have ne:q.1≠s.2.1:=fun k=>h1 (by show s.2.1∈_;rw [← k,e];exact zan.mpr ⟨s',hs,rfl⟩)
   have:=ha s' (zao _ hs) q hq e c hc
   unfold a1h at this ⊢
   rw [a2P ne]
   exact this
  ·obtain ⟨b1,b2⟩:=hb q hq c hc
   by_cases e:q.1=s.2.1
   ·have:=ha s zal q hq e c hc
    unfold a1h at this
    unfold a0Q
    rw [if_pos e,a3Y ok hq]
    by_cases g:s.1=q.2.1
    ·rw [if_pos g] at this ⊢;omega
    ·rw [if_neg g] at this ⊢;omega
   ·rw [a2P e];exact ⟨b1,b2⟩
theorem a2l {s:Stp} (h:Arc lm u s.1 s.2.1 s.2.2):a4a lm s:=by
 obtain ⟨q,hq,e,g⟩:=h
 exact ⟨q,hq,e,g.elim (fun g=>.inl ⟨g.1,g.2.1⟩) fun g=>.inr ⟨g.1,g.2.1⟩⟩
abbrev b8M (lm:Lms) (u:Str→Int):Stp→Prop:=fun s=>Arc lm u s.1 s.2.1 s.2.2
theorem a1f.add (ok:a6j lm) {S:List Str} (f:a1f lm u S T) (c:Chain (b8M lm u) x st y) (hx:x∈S) (hy:y∈T) (nd:(st.map fun s=>s.2.1).Nodup) (a0:0≤amt) (a:b3k lm u st amt):a1f lm (a0P lm amt u st) S T:=by
 refine ⟨a6o ok a0 nd a f.b,fun r h1 h2=>?_⟩
 rw [a5V ok (fun s=>a2l) c,f.k r h1 h2,a0y (show y∉[r] from fun k=>h2 (by rw [← zaj.mp k];exact hy)),a0y (show x∉[r] from fun k=>h1 (by rw [← zaj.mp k];exact hx))]
 omega
structure a2w (lm:Lms) (S T Y:List Str):Prop where
 u:Y.Nodup
 t:∀ z∈T,z∈Y
 s:∀ z∈S,z∉Y
 b:∀ q∈lm,(q.2.1∈Y∧q.2.2.1∉Y)∨(q.2.1∉Y∧q.2.2.1∈Y)→q.2.2.2≠none
def a2R (lm:Lms) (Y:List Str):Int:=a2I lm fun q=>if (q.2.1∈Y∧q.2.2.1∉Y)∨(q.2.1∉Y∧q.2.2.1∈Y) then q.2.2.2.getD 0 else 0
theorem a2w.val {S:List Str} (h:a2w lm S T Y) (f:a1f lm u S T):net lm u Y=net lm u T:=by
 rw [a7B (T:=T) h.u fun r hr ht=>f.k r (fun k=>h.s r k hr) ht]
 exact a6I fun z=>⟨fun k=>of_decide_eq_true (zay.mp k).2,fun k=>zay.mpr ⟨h.t z k,zbg k⟩⟩
theorem b0X {S:List Str} (h:a2w lm S T Y) (f:a1f lm u S T):∀ q∈lm,(ind Y q.2.2.1 - ind Y q.2.1) * u q.1≤if (q.2.1∈Y∧q.2.2.1∉Y)∨(q.2.1∉Y∧q.2.2.1∈Y) then q.2.2.2.getD 0 else 0:=fun q hq=>by
 by_cases a:q.2.1∈Y <;> by_cases b:q.2.2.1∈Y
 ·rw [a0W a,a0W b,if_neg (by simp [a,b])];omega
 ·rw [a0W a,a0y b,if_pos (.inl ⟨a,b⟩)]
  cases e:q.2.2.2 with
  | none=>exact absurd e (h.b q hq (.inl ⟨a,b⟩))
  | some c =>
   have:=f.b q hq c e
   show (0 - 1) * u q.1≤c
   omega
 ·rw [a0y a,a0W b,if_pos (.inr ⟨a,b⟩)]
  cases e:q.2.2.2 with
  | none=>exact absurd e (h.b q hq (.inr ⟨a,b⟩))
  | some c =>
   have:=f.b q hq c e
   show (1 - 0) * u q.1≤c
   omega
 ·rw [a0y a,a0y b,if_neg (by simp [a,b])];omega
theorem a2w.le {S:List Str} (h:a2w lm S T Y) (f:a1f lm u S T):net lm u Y≤a2R lm Y:=a7P (b0X h f)
def b8O (lm:Lms) (u:Str→Int) (Y:List Str):Prop:=∀ x l y,Arc lm u x l y→y∈Y→x∈Y
theorem b8O.eq {S:List Str} (h:a2w lm S T Y) (f:a1f lm u S T) (fu:b8O lm u Y):net lm u Y=a2R lm Y:=by
 refine a3B fun q hq=>?_
 by_cases a:q.2.1∈Y <;> by_cases b:q.2.2.1∈Y
 ·rw [a0W a,a0W b,if_neg (by simp [a,b])];omega
 ·rw [a0W a,a0y b,if_pos (.inl ⟨a,b⟩)]
  cases e:q.2.2.2 with
  | none=>exact absurd e (h.b q hq (.inl ⟨a,b⟩))
  | some c =>
   have:=f.b q hq c e
   have no:¬ 0 < c + u q.1:=fun k=>b (fu q.2.2.1 q.1 q.2.1 ⟨q,hq,rfl,.inr ⟨rfl,rfl,fun c' hc=>by rw [e] at hc;cases hc;exact k⟩⟩ a)
   show (0 - 1) * u q.1=c
   omega
 ·rw [a0y a,a0W b,if_pos (.inr ⟨a,b⟩)]
  cases e:q.2.2.2 with
  | none=>exact absurd e (h.b q hq (.inr ⟨a,b⟩))
  | some c =>
   have:=f.b q hq c e
   have no:¬ 0 < c - u q.1:=fun k=>a (fu q.2.1 q.1 q.2.2.1 ⟨q,hq,rfl,.inl ⟨rfl,rfl,fun c' hc=>by rw [e] at hc;cases hc;exact k⟩⟩ b)
   show (1 - 0) * u q.1=c
   omega
 ·rw [a0y a,a0y b,if_neg (by simp [a,b])];omega
theorem b4d {S:List Str} (h:a2w lm S T Y) (f:a1f lm u S T) (e:net lm u Y=a2R lm Y):b8O lm u Y:=by
 have all:=b5r (b0X h f) e
 rintro x l y ⟨q,hq,rfl,⟨rfl,rfl,g⟩ | ⟨rfl,rfl,g⟩⟩ hy
 ·refine Decidable.byContradiction fun hx=>?_
  have t:=all q hq
  rw [a0y hx,a0W hy,if_pos (.inr ⟨hx,hy⟩)] at t
  cases e:q.2.2.2 with
  | none=>exact absurd e (h.b q hq (.inr ⟨hx,hy⟩))
  | some c =>
   rw [e] at t
   have t:(1 - 0) * u q.1=c:=t
   have:=g c e
   omega
 ·refine Decidable.byContradiction fun hx=>?_
  have t:=all q hq
  rw [a0W hy,a0y hx,if_pos (.inl ⟨hy,hx⟩)] at t
  cases e:q.2.2.2 with
  | none=>exact absurd e (h.b q hq (.inl ⟨hy,hx⟩))
  | some c =>
   rw [e] at t
   have t:(0 - 1) * u q.1=c:=t
   have:=g c e
   omega
inductive Behind (R:Str→Str→Str→Prop) (T:List Str):Str→Prop where
 | base {z:Str}:z∈T→Behind R T z
 | step {x l y:Str}:R x l y→Behind R T y→Behind R T x
abbrev RP3 (R:Str→Str→Str→Prop):Stp→Prop:=fun s=>R s.1 s.2.1 s.2.2
theorem Behind.chain {R:Str→Str→Str→Prop} (h:Behind R T x):∃ st y,y∈T∧Chain (RP3 R) x st y:=by
 induction h with
 | base h=>exact ⟨[],_,h,.nil⟩
 | step a _ ih =>
  obtain ⟨st,y,hy,c⟩:=ih
  exact ⟨_,y,hy,.cons a c⟩
structure a1q (lm:Lms) (S T X:List Str):Prop where
 ok:a2w lm S T X
 least:∀ Y,a2w lm S T Y→a2R lm X≤a2R lm Y∧(a2R lm X=a2R lm Y→∀ z∈X,z∈Y)
theorem a1q.uniq {S:List Str} (h:a1q lm S T X) (k:a1q lm S T Y):∀ z,z∈X↔z∈Y:=by
 have a:=h.least Y k.ok
 have b:=k.least X h.ok
 have e:a2R lm X=a2R lm Y:=by have:=a.1;have:=b.1;omega
 exact fun z=>⟨a.2 e z,b.2 e.symm z⟩
theorem a3F {S:List Str} (ok:a6j lm) (f:a1f lm u S T) (hu:X.Nodup) (hX:∀ z,z∈X↔Behind (Arc lm u) T z) (no:∀ z∈S,¬ Behind (Arc lm u) T z):a1q lm S T X∧net lm u T=a2R lm X:=by
 have fu:b8O lm u X:=fun x l y a hy=>(hX x).mpr (.step a ((hX y).mp hy))
 have cut:a2w lm S T X:=⟨hu,fun z hz=>(hX z).mpr (.base hz),fun z hz k=>no z hz ((hX z).mp k),fun q hq g e=>by
  rcases g with ⟨a,b⟩ | ⟨a,b⟩
  ·exact b (fu q.2.2.1 q.1 q.2.1 ⟨q,hq,rfl,.inr ⟨rfl,rfl,fun c hc=>by rw [e] at hc;cases hc⟩⟩ a)
  ·exact a (fu q.2.1 q.1 q.2.2.1 ⟨q,hq,rfl,.inl ⟨rfl,rfl,fun c hc=>by rw [e] at hc;cases hc⟩⟩ b)⟩
 have eX:=(cut.val f).symm.trans (fu.eq cut f)
 refine ⟨⟨cut,fun Y cy=>⟨by rw [← eX,← cy.val f];exact cy.le f,fun e z hz=>?_⟩⟩,eX⟩
 have fy:=b4d cy f (by rw [cy.val f,eX,e])
 have hz:=(hX z).mp hz
 induction hz with
 | base h=>exact cy.t _ h
 | step a hy ih=>exact fy _ _ _ a (ih ((hX _).mpr hy))
end
abbrev lc (K:zbj):Addr:=He.ga K "Layout"
abbrev gr (K:zbj) (r:Rf):Addr:=He.ga K r.cls
def lay0:Lay:=⟨[],[],[],[],false⟩
def b1g (C:Addr) (S:SS) (p a b c d:Addr):SS:=fun q=>if q=p then some (c1v C a b c d) else if q=a then some (.dic []) else if q=b then some (.dic []) else if q=c then some (.dic []) else if q=d then some (.dic []) else S q
def b3z (K0:zbj):TR:=fun m ds S K Y=>m=none∧∃ p,ds=[.obj p]∧S p=some (.ins (lc K0) [])∧∀ a b c d,a≠p→b≠p→c≠p→d≠p→a≠b→a≠c→a≠d→b≠c→b≠d→c≠d→S a=none→S b=none→S c=none→S d=none→K .non (b1g (lc K0) S p a b c d)
def a9n:TR:=fun m ds S K Y=>m=none∧∃ x,ds=[x,x]∧Plain x∧K (.bl true) S
def a1R:TR:=fun m ds S K Y=>m=none∧∃ x,ds=[x,.bl true]∧K .non S
def a1a:TR:=fun m ds S K Y=>m=none∧∃ z,ds=[.str z]∧Nm z∧K (.bl true) S
def a5F:TR:=fun m ds S K Y=>m=none∧∃ i,ds=[.int i]∧K (.bl true) S
def a7g:TR:=fun m ds S K Y=>m=none∧∃ i,ds=[.int i]∧0≤i∧i≤99∧K (.bl true) S
def a2M (K0:zbj):TR:=fun m ds S K Y=>m=none∧∃ (z:Str) (p:Addr) (α:Type) (f:α→D) (l:List (Str × α)),ds=[.str z,.obj p]∧S p=some (.dic (a0g f l))∧(z∈nms l→K .non S)∧(z∉nms l→Y (gr K0 (.lacks z)) (Rf.lacks z).fs S)
def a7h (K0:zbj):TR:=fun m ds S K Y=>m=none∧∃ L a b c d st z q,ds=[.obj L,.str z]∧Nm z∧a1o (lc K0) S L a b c d st∧st.lines.lookup z=some q∧K (fL q) S
def a3T (K0:zbj):TR:=fun m ds S K Y=>m=none∧∃ L a b c d st n z,ds=[.obj L,.str z]∧Nm z∧a1o (lc K0) S L a b c d st∧Ok n st∧z∈nms st.rooms∧K (.lst ((a0l (atR st z)).map D.str)) S
def a2y (K0:zbj) (sel:Lay→List Str):TR:=fun m ds S K Y=>m=none∧∃ L a b c d st,ds=[.obj L]∧a1o (lc K0) S L a b c d st∧(sel st).length < 64∧K (.lst ((a0l (sel st)).map D.str)) S
def b3B (K0:zbj):TR:=fun m ds S K Y=>m=none∧∃ L a b c d st z,ds=[.obj L,.str z]∧a1o (lc K0) S L a b c d st∧(z∈nms st.lines∨z∈nms st.drains→Y (gr K0 (.there z)) (Rf.there z).fs S)∧(z∉nms st.lines→z∉nms st.drains→K .non S)
def Ends (K0:zbj) (o:Option Rf) (Y:XK') (S:SS) (P:Prop):Prop:=match o with
 | some r=>Y (gr K0 r) r.fs S
 | none=>P
def a5B (K0:zbj):TR:=fun m ds S K Y=>m=none∧∃ L a b c d st n z,ds=[.obj L,.str z]∧Nm z∧a1o (lc K0) S L a b c d st∧Ok n st∧Ends K0 (due st (.room z)) Y S (K .non (S.set a (.dic (a0g fU (st.rooms ++ [(z,())])))))
def a3p (K0:zbj):TR:=fun m ds S K Y=>m=none∧∃ L a b c d st n z,ds=[.obj L,.str z]∧Nm z∧a1o (lc K0) S L a b c d st∧Ok n st∧n≤62∧Ends K0 (due st (.source z)) Y S (K .non (S.set d (.dic (a0g fU (st.pushed ++ [(z,())])))))
def a5A (K0:zbj):TR:=fun m ds S K Y=>m=none∧∃ L a b c d st n l x y k,ds=[.obj L,.str l,.str x,.str y,.int k]∧(b2F.line l x y k).Ok∧a1o (lc K0) S L a b c d st∧Ok n st∧Ends K0 (due st (.line l x y k)) Y S (K .non (S.set b (.dic (a0g fL (st.lines ++ [(l,x,y,k)])))))
def a4g (K0:zbj):TR:=fun m ds S K Y=>m=none∧∃ L a b c d st z,ds=[.obj L,.str z]∧Nm z∧a1o (lc K0) S L a b c d st∧Ends K0 (due st (.takeL z)) Y S (K .non (S.set b (.dic (a0g fL (without st.lines z)))))
def a2D (K0:zbj):TR:=fun m ds S K Y=>m=none∧∃ L a b c d st z,ds=[.obj L,.str z]∧Nm z∧a1o (lc K0) S L a b c d st∧Ends K0 (due st (.takeS z)) Y S (K .non (S.set d (.dic (a0g fU (without st.pushed z)))))
def next (st:Lay) (w:b2F):Lay:=match due st w with
 | some _=>st
 | none=>c5s st w
def mW (w:Wo) (e f:Addr):List (Key × D):=[(.inr "rooms",.lst ((a0l w.rooms).map D.str)),(.inr "drawn",.lst (w.rooms.map D.str)),(.inr "lines",.obj e),(.inr "sources",.obj f)]
structure MW (S:SS) (M e f:Addr) (w:Wo):Prop where
 Me:M≠e
 Mf:M≠f
 ef:e≠f
 M:S M=some (.dic (mW w e f))
 e:S e=some (.dic (a0g fL w.lines))
 f:S f=some (.lst (w.srcs.map D.str))
def Grows (S S':SS):Prop:=∀ q,S q≠none→S' q=S q
structure a3E (C:Addr) (S:SS) (L a b c d:Addr) (st:Lay):Prop where
 s:a1o C S L a b c d st
 ab:a≠b
 ac:a≠c
 ad:a≠d
 bc:b≠c
 bd:b≠d
 cd:c≠d
def a08 (w:Wo):List Str:=nms (w.lines.filter fun q=>decide (0 < q.2.2.2))
structure b1j (rs zs:List Str) (ls:List (Str × Str × Str × Int)):Prop where
 u:(nms ls).Nodup
 few:ls.length≤zs.length
 one:∀ q∈ls,q.1∈zs∧q.2.1∈rs∧q.2.2.1∈rs∧q.2.2.1≠q.2.1∧0≤q.2.2.2∧q.2.2.2≤99
def a1b:TR:=fun m ds S K Y=>m=none∧∃ x,ds=[x,.bl true]∧K .non S
def a1y:TR:=fun m ds S K Y=>m=none∧∃ zs:List Str,ds=[.lst (zs.map D.str)]∧zs.Nodup∧(∀ z∈zs,Nm z)∧zs.length≤60∧K (.bl true) S
def a2j:TR:=fun m ds S K Y=>m=none∧∃ zs:List Str,ds=[.lst (zs.map D.str)]∧zs.Nodup∧(∀ z∈zs,Nm z)∧zs≠[]∧zs.length≤24∧K (.bl true) S
def a3t (K0:zbj):TR:=fun m ds S K Y=>m=none∧∃ L a b c d st n,∃ zs:List Str,ds=[.obj L,.lst (zs.map D.str)]∧a1o (lc K0) S L a b c d st∧Ok n st∧zs.length≤1000∧(∀ z∈zs,∃ q,st.lines.lookup z=some q∧q.2.2≠0)∧K .non S
def a06 (K0:zbj):TR:=fun m ds S K Y=>m=none∧∃ L a b c d st n,∃ zs:List Str,ds=[.obj L,.lst (zs.map D.str)]∧a1o (lc K0) S L a b c d st∧Ok n st∧zs.length≤1000∧(∀ z∈zs,z∈nms st.rooms)∧K .non S
def a7X (K0:zbj):TR:=fun m ds S K Y=>m=none∧∃ L a b c d st l x y k r,ds=[.obj L,.str l,.str r]∧Nm l∧a1o (lc K0) S L a b c d st∧st.lines.lookup l=some (x,y,k)∧K (.str (if x=r then y else x)) S
def b3y (K0:zbj):TR:=fun m ds S K Y=>m=none∧∃ L a b c d w,∃ shut rs:List Str,ds=[.obj L,.lst (shut.map D.str),.lst (rs.map D.str)]∧a1o (lc K0) S L a b c d w.lay∧a03 w∧(∀ z∈shut,Nm z)∧(∀ z∈rs,z∈w.rooms)∧rs.Nodup∧∀ R,a0F w shut rs R→K (.dic (a0g (fun n:Nat=>.int n) R)) S
def a8L (w:Wo) (shut rs:List Str):Prop:=(∀ z∈shut,z∈a08 w)∧shut.Nodup∧shut.length≤40∧(∀ z∈rs,z∈w.rooms)∧rs.Nodup∧rs.length≤24
def a7f (K0:zbj):TR:=fun m ds S K Y=>m=none∧∃ L a b c d w,∃ rs:List Str,ds=[.obj L,.lst (rs.map D.str)]∧a1o (lc K0) S L a b c d w.lay∧a03 w∧(∀ z∈rs,z∈w.rooms)∧rs.Nodup∧K (.lst ((a2E w rs).map D.str)) S
def a8M (w:Wo) (shut:List Str) (R:List (Str × Nat)) (d:Nat) (z l y:Str):Prop:=(∃ q∈w.lines,q.1=l∧a1Y q z y)∧l∉shut∧(y,d)∈R∧∀ q∈w.lines,q.1∉shut→∀ y',a1Y q z y'→(y',d)∈R→leS l q.1=true
inductive a3L (w:Wo) (shut:List Str) (R:List (Str × Nat)):Nat→Str→List Str→Prop where
 | zero {z:Str}:(z,0)∈R→a3L w shut R 0 z [z]
 | succ {d:Nat} {z l y:Str} {t:List Str}:(z,d + 1)∈R→a8M w shut R d z l y→a3L w shut R d y t→a3L w shut R (d + 1) z (z :: l :: t)
def a4b (w:Wo) (R:List (Str × Nat)) (n:Nat) (s:Str):Prop:=s∈w.srcs∧(s,n)∈R∧∀ s' n',s'∈w.srcs→(s',n')∈R→n < n'∨(n=n'∧leS s s'=true)
def a3M (w:Wo) (shut rs:List Str):Option (List Str)→Prop
 | none=>∀ s∈w.srcs,¬ Reach w shut rs s
 | some ws=>∃ R n s,a0F w shut rs R∧a4b w R n s∧a3L w shut R n s ws
def c3C:Option (List Str)→D
 | none=>.non
 | some ws=>.lst (ws.map D.str)
def a7i (K0:zbj):TR:=fun m ds S K Y=>m=none∧∃ L a b c d w,∃ shut rs:List Str,∃ R n z,ds=[.obj L,.lst (shut.map D.str),.dic (a0g (fun n:Nat=>.int n) R),.str z]∧a1o (lc K0) S L a b c d w.lay∧a03 w∧(∀ z∈shut,Nm z)∧(∀ z∈rs,z∈w.rooms)∧a0F w shut rs R∧(z,n + 1)∈R∧∀ l y,a8M w shut R n z l y→K (.tup [.str l,.str y]) S
def a9t (K0:zbj):TR:=fun m ds S K Y=>m=none∧∃ L a b c d w,∃ shut rs:List Str,ds=[.obj L,.lst (shut.map D.str),.lst (rs.map D.str)]∧a1o (lc K0) S L a b c d w.lay∧a03 w∧a8L w shut rs∧rs≠[]∧∀ o,a3M w shut rs o→match o with
 | none=>K .non S
 | some ws=>ws≠[]→ws.length≤100→∀ q S',Grows S S'→S q=none→S' q=some (.lst (ws.map D.str))→K (.obj q) S'
structure b1i (w:Wo) (shut:List Str) (R:List (Str × Nat)) (t:Nat) (B:List (Str × List Str)):Prop where
 u:(nms B).Nodup
 mem:∀ z ws,(z,ws)∈B↔∃ d,d≤t∧(z,d)∈R∧a3L w shut R d z ws
def a5f:Option Int→D
 | none=>.non
 | some c=>.int c
def a1X (q:Str × Str × Option Int):D:=.tup [.str q.1,.str q.2.1,a5f q.2.2]
def a5r (w:Wo) (barred:List Str) (l:Str):Str × Str × Option Int:=match w.lines.lookup l with
 | some q=>(q.1,q.2.1,if q.2.2=0∨l∈barred then none else some q.2.2)
 | none=>("", "",none)
def a0w (w:Wo) (barred:List Str):Lms:=(a0l (nms w.lines)).map fun l=>(l,a5r w barred l)
def a1T (w:Wo) (barred:List Str):List Str:=nms ((a0w w barred).filter fun q=>q.2.2.2.isSome)
def prD (x:Str × Str):D:=.tup [.str x.1,.str x.2]
def stD (s:Stp):D:=.tup [.str s.1,.str s.2.1,.str s.2.2]
def a0d (us:List (Str × Int)) (l:Str):Int:=(us.lookup l).getD 0
abbrev ArL:=List (Str × Addr × List (Str × Str))
structure a3o (S:SS) (A:Addr) (R:Str→Str→Str→Prop) (n:Nat) (al:ArL):Prop where
 top:S A=some (.dic (a0g D.obj (al.map fun q=>(q.1,q.2.1))))
 u:(nms al).Nodup
 few:al.length≤n
 at_:∀ q∈al,S q.2.1=some (.lst (q.2.2.map prD))
 len:∀ q∈al,q.2.2.length≤n
 ad:(A :: al.map fun q=>q.2.1).Nodup
 mem:∀ r x y,R r x y↔∃ q∈al,q.1=r∧(x,y)∈q.2.2
 nm:∀ q∈al,Nm q.1∧∀ x∈q.2.2,Nm x.1∧Nm x.2
def b3l (S:SS) (A:Addr) (R:Str→Str→Str→Prop):Prop:=∃ al,a3o S A R 80 al
def a3P:Option (Str × Str)→D
 | none=>.non
 | some q=>.tup [.str q.1,.str q.2]
structure a6i (R:Str→Str→Str→Prop) (srcs:List Str) (cm:List (Str × Option (Str × Str))):Prop where
 u:(nms cm).Nodup
 root:∀ r,(r,none)∈cm→r∈srcs
 par:∀ (i:Nat) r l a,cm[i]?=some (r,some (l,a))→R a l r∧∃ j o,j < i∧cm[j]?=some (a,o)
def a7e (S:SS) (p:Addr) (lm:Lms):Prop:=S p=some (.dic (a0g a1X lm))∧a6j lm
def a4d (K0:zbj):TR:=fun m ds S K Y=>m=none∧∃ L a b c d w,∃ barred:List Str,ds=[.obj L,.lst (barred.map D.str)]∧a1o (lc K0) S L a b c d w.lay∧a03 w∧(∀ z∈barred,Nm z)∧∀ p S',Grows S S'→S p=none→a7e S' p (a0w w barred)→K (.obj p) S'
def b8N (C:Addr) (f:Str) (hs:List Str) (Y:XK') (S:SS):Prop:=hs≠[]∧hs.length≤100→∀ q S',Grows S S'→S q=none→S' q=some (.lst (hs.map D.str))→Y C [(f,.obj q)] S'
def a4e (K0:zbj):TR:=fun m ds S K Y=>m=none∧∃ L a b c d w p,∃ barred rs:List Str,ds=[.obj L,.obj p,.lst (rs.map D.str)]∧a1o (lc K0) S L a b c d w.lay∧a03 w∧a7e S p (a0w w barred)∧a8L w [] rs∧rs≠[]∧∀ o,a3M w (a1T w barred) rs o→match o with
 | none=>K .non S
 | some ws=>b8N (He.ga K0 "NoPart") "way" ws Y S
def b1l:TR:=fun m ds S K Y=>m=none∧∃ p q lm,∃ us:List (Str × Int),ds=[.obj p,.obj q]∧p≠q∧a7e S p lm∧S q=some (.dic (a0g D.int us))∧nms us=nms lm∧∀ A S',Grows S S'→S A=none→b3l S' A (Arc lm (a0d us))→K (.obj A) S'
def a3u:TR:=fun m ds S K Y=>m=none∧∃ c cm R srcs room,ds=[.obj c,.str room]∧S c=some (.dic (a0g a3P cm))∧a6i R srcs cm∧room∈nms cm∧cm.length≤24∧(∀ q∈cm,Nm q.1)∧∀ st x S',Grows S S'→x∈srcs→Chain (RP3 R) x st room→(x :: st.map fun s=>s.2.2).Nodup→K (.lst (st.map stD)) S'
structure a5a (R:Str→Str→Str→Prop) (srcs Rm:List Str):Prop where
 n:Rm.length≤24
 s:∀ z∈srcs,z∈Rm
 r:∀ x l y,R x l y→x∈Rm∧y∈Rm
 nm:∀ z∈Rm,Nm z
def a2N:TR:=fun m ds S K Y=>m=none∧∃ A R,∃ Rm srcs T:List Str,ds=[.obj A,.lst (srcs.map D.str),.lst (T.map D.str)]∧b3l S A R∧srcs.Nodup∧a5a R srcs Rm∧(∀ z∈T,Nm z)∧(∀ S',Grows S S'→(∀ z∈srcs,¬ Behind R T z)→K .non S')∧∀ st x y S',Grows S S'→x∈srcs→y∈T→Chain (RP3 R) x st y→(x :: st.map fun s=>s.2.2).Nodup→K (.lst (st.map stD)) S'
def a2L:TR:=fun m ds S K Y=>m=none∧∃ p q lm amt,∃ (us:List (Str × Int)) (st:List Stp),ds=[.obj p,.obj q,.lst (st.map stD),.int amt]∧p≠q∧a7e S p lm∧S q=some (.dic (a0g D.int us))∧nms us=nms lm∧(∀ s∈st,a4a lm s)∧∀ us':List (Str × Int),nms us'=nms lm→a0d us'=a0P lm amt (a0d us) st→K .non (S.set q (.dic (a0g D.int us')))
def a3s:TR:=fun m ds S K Y=>m=none∧∃ o i b,ds=[a5f o,.int i,.bl b]∧K (a5f (o.map fun c=>if b=true then c - i else c + i)) S
def a3q:TR:=fun m ds S K Y=>m=none∧∃ p q lm,∃ (us:List (Str × Int)) (st:List Stp),ds=[.obj p,.obj q,.lst (st.map stD)]∧p≠q∧a7e S p lm∧S q=some (.dic (a0g D.int us))∧nms us=nms lm∧(∀ s∈st,b8M lm (a0d us) s)∧st.length≤1000∧(∃ s∈st,∃ r∈lm,r.1=s.2.1∧r.2.2.2≠none)∧∀ amt,0 < amt→b3k lm (a0d us) st amt→K (.int amt) S
def a1z:TR:=fun m ds S K Y=>m=none∧∃ p lm,∃ Y0 Rm srcs T:List Str,ds=[.obj p,.lst (srcs.map D.str),.lst (T.map D.str)]∧a7e S p lm∧srcs.Nodup∧T.Nodup∧(∀ z∈T,Nm z)∧a2w lm srcs T Y0∧Rm.length≤24∧(∀ z∈srcs,z∈Rm)∧(∀ q∈lm,q.2.1∈Rm∧q.2.2.1∈Rm)∧(∀ z∈Rm,Nm z)∧∀ q (us:List (Str × Int)) S',Grows S S'→S q=none→S' q=some (.dic (a0g D.int us))→nms us=nms lm→a1f lm (a0d us) srcs T→(∀ z∈srcs,¬ Behind (Arc lm (a0d us)) T z)→K (.obj q) S'
def a5D:TR:=fun m ds S K Y=>m=none∧∃ p q lm,∃ (us:List (Str × Int)) (Rm T:List Str),ds=[.obj p,.obj q,.lst (T.map D.str)]∧p≠q∧a7e S p lm∧S q=some (.dic (a0g D.int us))∧nms us=nms lm∧T.Nodup∧Rm.length≤24∧(∀ z∈T,z∈Rm)∧(∀ q∈lm,q.2.1∈Rm∧q.2.2.1∈Rm)∧(∀ z∈Rm,Nm z)∧∀ X S',Grows S S'→X.Nodup→(∀ z,z∈X↔Behind (Arc lm (a0d us)) T z)→K (.lst ((a0l X).map D.str)) S'
def a3D (w:Wo) (barred rs:List Str):Prop:=a8L w barred rs∧rs≠[]
def a1r (K0:zbj):TR:=fun m ds S K Y=>m=none∧∃ L a b c d w,∃ barred rs:List Str,ds=[.obj L,.lst (barred.map D.str),.lst (rs.map D.str)]∧a1o (lc K0) S L a b c d w.lay∧a03 w∧a3D w barred rs∧∀ o,a3M w (a1T w barred) rs o→match o with
 | none=>∀ p S',Grows S S'→S p=none→a7e S' p (a0w w barred)→K (.obj p) S'
 | some ws=>∀ S',Grows S S'→b8N (He.ga K0 "NoPart") "way" ws Y S'
def a4c (K0:zbj):TR:=fun m ds S K Y=>m=none∧∃ L a b c d w,∃ barred rs:List Str,ds=[.obj L,.lst (barred.map D.str),.lst (rs.map D.str)]∧a1o (lc K0) S L a b c d w.lay∧a03 w∧a3D w barred rs∧∀ o,a3M w (a1T w barred) rs o→match o with
 | none=>∀ X S',Grows S S'→a1q (a0w w barred) w.srcs rs X→(∀ z∈X,z∈w.rooms)→K (.tup [.lst ((a2E w X).map D.str),.lst ((a0l X).map D.str)]) S'
 | some ws=>∀ S',Grows S S'→b8N (He.ga K0 "NoPart") "way" ws Y S'
def a9s:TR:=fun m ds S K Y=>m=none∧∃ b c,ds=[.obj b]∧S b=some c∧a0K c∧∀ n k c',1≤n→n≤24→0≤k→k≤40→a0K c'→K (.tup [.int n,.int k]) (S.set b c')
def a5H:TR:=fun m ds S K Y=>m=none∧∃ b c n,ds=[.obj b,.int n]∧0≤n∧n≤51∧S b=some c∧a0K c∧∀ (zs:List Str) c',(zs.length:Int)=n→(∀ z∈zs,Nm z)→zs.Nodup→a0K c'→K (.lst (zs.map D.str)) (S.set b c')
def a6k:TR:=fun m ds S K Y=>m=none∧∃ b c n,∃ zs:List Str,ds=[.obj b,.lst (zs.map D.str),.int n]∧zs.length≤1000∧0≤n∧n≤1000∧(∀ z∈zs,Nm z)∧S b=some c∧a0K c∧∀ (ys:List Str) c',(∀ y∈ys,y∈zs)→ys.Nodup→(ys.length:Int)≤n→(zs≠[]→1≤n→ys≠[])→a0K c'→K (.lst (ys.map D.str)) (S.set b c')
def a9q:TR:=fun m ds S K Y=>m=none∧∃ b c sh n k,ds=[.obj b,.int n,.int sh,.int k]∧1≤n∧n≤1000∧0≤k∧k≤1000∧S b=some c∧a0K c∧∀ i j c',0≤i→i < n→0≤j→j < n→a0K c'→K (.tup [.int i,.int j]) (S.set b c')
def a9p:TR:=fun m ds S K Y=>m=none∧∃ b c co,ds=[.obj b,.int co]∧S b=some c∧a0K c∧∀ v c',0≤v→v≤99→a0K c'→K (.int v) (S.set b c')
def a7k:TR:=fun m ds S K Y=>m=none∧∃ b c n k,ds=[.obj b,.int n,.int k]∧1≤n∧n≤24∧0≤k∧k≤40∧S b=some c∧a0K c∧∀ w M e f c' S',a03 w→w.rooms≠[]→w.drains=[]→(w.rooms.length:Int)=n→S' b=some c'→a0K c'→MW S' M e f w→K (.obj M) S'
def a5G (K0:zbj):TR:=fun m ds S K Y=>m=none∧∃ M e f w,ds=[.obj M]∧MW S M e f w∧a03 w∧w.drains=[]∧∀ L a b c d S',Grows S S'→S L=none→S a=none→S b=none→S c=none→S d=none→a3E (lc K0) S' L a b c d w.lay→K (.obj L) S'
def a5C:TR:=fun m ds S K Y=>m=none∧∃ b c M e f w,ds=[.obj b,.obj M]∧S b=some c∧a0K c∧MW S M e f w∧a03 w∧∀ (ys:List Str) c',(∀ y∈ys,y∈a08 w)→ys.Nodup→ys.length≤40→a0K c'→K (.lst (ys.map D.str)) (S.set b c')
def a4f:TR:=fun m ds S K Y=>m=none∧∃ b c M e f w,ds=[.obj b,.obj M]∧S b=some c∧a0K c∧MW S M e f w∧a03 w∧w.rooms≠[]∧∀ (ys:List Str) c',ys≠[]→(∀ y∈ys,y∈w.rooms)→ys.Nodup→ys.length≤24→a0K c'→K (.lst (ys.map D.str)) (S.set b c')
def a9o:TR:=fun m ds S K Y=>m=none∧∃ M e f w,∃ barred rs:List Str,ds=[.obj M,.lst (barred.map D.str),.lst (rs.map D.str)]∧MW S M e f w∧a03 w∧a3D w barred rs∧∀ o S',Grows S S'→a3M w (a1T w barred) rs o→K (c3C o) S'
def a5E (K0:zbj):TR:=fun m ds S K Y=>∃ a oe,∃ ws:List Str,∃ q,m=some (a,oe)∧ds=[.exc a oe (He.ga K0 "NoPart") [("way",.obj q)]]∧S q=some (.lst (ws.map D.str))∧ws≠[]∧ws.length≤100∧∀ x,K (.tup [.str "NoPart",.lst (ws.map D.str)]) (S.set q x)
def a3r (K0:zbj):TR:=fun m ds S K Y=>m=none∧∃ L a b c d w,∃ barred rs:List Str,ds=[.obj L,.lst (barred.map D.str),.lst (rs.map D.str)]∧a1o (lc K0) S L a b c d w.lay∧a03 w∧a3D w barred rs∧∀ o,a3M w (a1T w barred) rs o→match o with
 | none=>∀ X S',Grows S S'→a1q (a0w w barred) w.srcs rs X→(∀ z∈X,z∈w.rooms)→K (.tup [.str "told",.tup [.lst ((a2E w X).map D.str),.lst ((a0l X).map D.str)]]) S'
 | some ws=>∀ S',Grows S S'→K (.tup [.str "NoPart",.lst (ws.map D.str)]) S'
def a1w (lm:Lms) (u:Str→Int) (x l y:Str):Prop:=∃ q∈lm,q.1=l∧((q.2.1=x∧q.2.2.1=y∧0 < u q.1)∨(q.2.2.1=x∧q.2.1=y∧u q.1 < 0))
def a9r:TR:=fun m ds S K Y=>m=none∧∃ p q lm,∃ us:List (Str × Int),ds=[.obj p,.obj q]∧p≠q∧a7e S p lm∧S q=some (.dic (a0g D.int us))∧nms us=nms lm∧∀ A S',Grows S S'→S A=none→b3l S' A (a1w lm (a0d us))→K (.obj A) S'
abbrev Wy:=Int × Str × List Stp
def a3S (x:Str) (st:List Stp):List Str:=x :: st.flatMap fun s=>[s.2.1,s.2.2]
def wyD (w:Wy):D:=.tup [.int w.1,.lst ((a3S w.2.1 w.2.2).map D.str)]
def a9y (wl:List Wy) (l:Str):Int:=a2I wl fun w=>if l∈w.2.2.map (fun s=>s.2.1) then w.1 else 0
structure c3H (lm:Lms) (srcs T:List Str) (w:Wy):Prop where
 a:1≤w.1
 x:w.2.1∈srcs
 ch:∃ y∈T,Chain (a4a lm) w.2.1 w.2.2 y
 nd:(w.2.1 :: w.2.2.map fun s=>s.2.2).Nodup
structure a4h (lm:Lms) (srcs T X:List Str) (wl:List Wy):Prop where
 one:∀ w∈wl,c3H lm srcs T w
 few:wl.length≤lm.length
 cap:∀ q∈lm,∀ c,q.2.2.2=some c→a9y wl q.1≤c
 all:a2I wl (fun w=>w.1)=a2R lm X
def a7j (K0:zbj):TR:=fun m ds S K Y=>m=none∧∃ L a b c d w,∃ barred rs:List Str,ds=[.obj L,.lst (barred.map D.str),.lst (rs.map D.str)]∧a1o (lc K0) S L a b c d w.lay∧a03 w∧a3D w barred rs∧∀ o,a3M w (a1T w barred) rs o→match o with
 | none=>∀ X wl S',Grows S S'→a1q (a0w w barred) w.srcs rs X→(∀ z∈X,z∈w.rooms)→a4h (a0w w barred) w.srcs rs X wl→K (.lst (wl.map wyD)) S'
 | some ws=>∀ S',Grows S S'→b8N (He.ga K0 "NoPart") "way" ws Y S'
def a2O (K0:zbj):TR:=fun m ds S K Y=>m=none∧∃ L a b c d w,∃ barred rs:List Str,ds=[.obj L,.lst (barred.map D.str),.lst (rs.map D.str)]∧a1o (lc K0) S L a b c d w.lay∧a03 w∧a3D w barred rs∧∀ o,a3M w (a1T w barred) rs o→match o with
 | none=>∀ X wl S',Grows S S'→a1q (a0w w barred) w.srcs rs X→(∀ z∈X,z∈w.rooms)→a4h (a0w w barred) w.srcs rs X wl→K (.tup [.str "told",.lst (wl.map wyD)]) S'
 | some ws=>∀ S',Grows S S'→K (.tup [.str "NoPart",.lst (ws.map D.str)]) S'
theorem a0c {K:zbj} (c:SaysX fa fn fx K):Cls K (He.ga K "Layout"):=He.cls_ok (c.d.fact 3 (f:=.cls "Layout") rfl)
theorem a0O {K:zbj} (c:SaysX fa fn fx K):NoAttr K (He.ga K "Layout") "by_room" := He.noat_ok (c.d.fact 101 (f:=.noat "Layout" "by_room") rfl)
theorem a0J {K:zbj} (c:SaysX fa fn fx K):NoAttr K (He.ga K "Layout") "ends_of" := He.noat_ok (c.d.fact 102 (f:=.noat "Layout" "ends_of") rfl)
theorem a5s {K:zbj} (c:SaysX fa fn fx K):NoAttr K (He.ga K "Layout") "seat_of" := He.noat_ok (c.d.fact 103 (f:=.noat "Layout" "seat_of") rfl)
theorem a1E {K:zbj} (c:SaysX fa fn fx K):NoAttr K (He.ga K "Layout") "pushed" := He.noat_ok (c.d.fact 104 (f:=.noat "Layout" "pushed") rfl)
def tb (K:zbj):Tb:=⟨c3P,b6h,c1m,[some b9M,some a0N,some (b3z K),some a1R,some a1a,some a5F,some (b3B K),some (a2M K),some a9o,some a1b,some (a2y K fun st=>nms st.lines),some (a2y K fun st=>nms st.rooms),some a1b,some (a2y K fun st=>nms st.pushed),some a3u,some b1l,some a2L,some a3s,none,some a9r,some a9n,some a9s,some b3A,some a6k,some a9q,some a9p,some (a5B K),some a7g,some (a3p K),some a1y,some (a7h K),some (a06 K),some (a06 K),some (a3T K),some a2N,some a3q,some a5D,some (a2D K),some (a4g K),some a5H,some (a5A K),some a5C,some a4f,some a2j,some (a3t K),some (a4d K),some (a3t K),some (a7X K),some a1z,some (a7f K),some a7k,some (a5G K),some (b3y K),some (a7i K),some (a9t K),some (a4e K),some (a1r K),some (a4c K),some (a7j K),some (a3r K),some (a2O K),some (lawT 63)],[none,none,none,none,none,none,none,none,none,none,none,none,none,none,none,none,none,none,some (a5E K),none,none,none,none,none,none,none,none,none,none,none,none,none,none,none,none,none,none,none,none,none,none,none,none,none,none,none,none,none,none,none,none,none,none,none,none,none,none,none,none,none,none,none],[.str "abcdefghijklmnopqrstuvwxyz",.int 8,.int 99,.int 60,.int 24,.int 24,.int 40],[none,some (.fld "at"),some (.fld "name"),some (.fld "name"),some (.fld "most"),some (.fld "hands"),some (.fld "way"),none],[0,0,0,0,0,0,0,0,0,0,0,0,0,0,0,0,0,0,0,0,0,21,21,21,21,21,21,21,21,21,21,21,21,21,21,21,21,21,21,39,39,39,39,39,39,39,39,39,39,39,50,50,50,50,54,55,56,57,57,59,59,61],[]⟩
theorem dg0 {K:zbj} {i:Nat} {m:Option (Addr × Obj)} {δ:DS} {S:SS} {Y:XD' } {KK:DK} (k:KK (.str "abcdefghijklmnopqrstuvwxyz") S):den ((tb K).G K i m).toGm (.glb 0) δ S Y KK:=a7o k
theorem dg1 {K:zbj} {i:Nat} {m:Option (Addr × Obj)} {δ:DS} {S:SS} {Y:XD' } {KK:DK} (k:KK (.int 8) S):den ((tb K).G K i m).toGm (.glb 1) δ S Y KK:=a7o k
theorem dg2 {K:zbj} {i:Nat} {m:Option (Addr × Obj)} {δ:DS} {S:SS} {Y:XD' } {KK:DK} (k:KK (.int 99) S):den ((tb K).G K i m).toGm (.glb 2) δ S Y KK:=a7o k
theorem dg3 {K:zbj} {i:Nat} {m:Option (Addr × Obj)} {δ:DS} {S:SS} {Y:XD' } {KK:DK} (k:KK (.int 60) S):den ((tb K).G K i m).toGm (.glb 3) δ S Y KK:=a7o k
theorem dg4 {K:zbj} {i:Nat} {m:Option (Addr × Obj)} {δ:DS} {S:SS} {Y:XD' } {KK:DK} (k:KK (.int 24) S):den ((tb K).G K i m).toGm (.glb 4) δ S Y KK:=a7o k
theorem dg5 {K:zbj} {i:Nat} {m:Option (Addr × Obj)} {δ:DS} {S:SS} {Y:XD' } {KK:DK} (k:KK (.int 24) S):den ((tb K).G K i m).toGm (.glb 5) δ S Y KK:=a7o k
theorem dg6 {K:zbj} {i:Nat} {m:Option (Addr × Obj)} {δ:DS} {S:SS} {Y:XD' } {KK:DK} (k:KK (.int 40) S):den ((tb K).G K i m).toGm (.glb 6) δ S Y KK:=a7o k
instance c6A {K:zbj} {i:Nat} {m:Option (Addr × Obj)} {δ:DS} {S:SS} {Y:XD' } {KK:DK}:Rdg (den ((tb K).G K i m).toGm (.glb 0) δ S Y KK) (KK (.str "abcdefghijklmnopqrstuvwxyz") S):=⟨dg0⟩
instance c6B {K:zbj} {i:Nat} {m:Option (Addr × Obj)} {δ:DS} {S:SS} {Y:XD' } {KK:DK}:Rdg (den ((tb K).G K i m).toGm (.glb 1) δ S Y KK) (KK (.int 8) S):=⟨dg1⟩
instance c6C {K:zbj} {i:Nat} {m:Option (Addr × Obj)} {δ:DS} {S:SS} {Y:XD' } {KK:DK}:Rdg (den ((tb K).G K i m).toGm (.glb 2) δ S Y KK) (KK (.int 99) S):=⟨dg2⟩
instance c6D {K:zbj} {i:Nat} {m:Option (Addr × Obj)} {δ:DS} {S:SS} {Y:XD' } {KK:DK}:Rdg (den ((tb K).G K i m).toGm (.glb 3) δ S Y KK) (KK (.int 60) S):=⟨dg3⟩
instance c6E {K:zbj} {i:Nat} {m:Option (Addr × Obj)} {δ:DS} {S:SS} {Y:XD' } {KK:DK}:Rdg (den ((tb K).G K i m).toGm (.glb 4) δ S Y KK) (KK (.int 24) S):=⟨dg4⟩
instance c6F {K:zbj} {i:Nat} {m:Option (Addr × Obj)} {δ:DS} {S:SS} {Y:XD' } {KK:DK}:Rdg (den ((tb K).G K i m).toGm (.glb 5) δ S Y KK) (KK (.int 24) S):=⟨dg5⟩
instance c6G {K:zbj} {i:Nat} {m:Option (Addr × Obj)} {δ:DS} {S:SS} {Y:XD' } {KK:DK}:Rdg (den ((tb K).G K i m).toGm (.glb 6) δ S Y KK) (KK (.int 40) S):=⟨dg6⟩
def b9G:List Str:=["Wrong", "There", "Lacks", "TooMany", "Held", "NoPart"]
end Cl
open Cl PySem PySem.Spec PyProof.Rows L2 Sv
local macro_rules | `(tactic| lia)=>`(tactic| (repeat (first | (refine Rdg.go ?_) | ((with_reducible apply a1B);focus exact rfl) | ((with_reducible apply c3z);focus exact rfl) | (with_reducible refine And.intro (a:=_≤sizeLine) (by rw [zai];simp only [zaz,List.length_nil,zaw,zag];omega) ?_) | (with_reducible refine b0n (by rw [zai];simp only [zaz,List.length_nil,zaw,zag];omega) ?_) | (dsimp only))))
namespace Cl
open PySem PySem.Spec PyProof.Rows L2 Sv
variable {K:zbj}
section
variable {x y z v:Int} {cells:List Int}
theorem at0:atI (b3m x y z cells) 0=some (.int x):=rfl
theorem at1:atI (b3m x y z cells) 1=some (.int y):=rfl
theorem at2:atI (b3m x y z cells) 2=some (.int z):=rfl
theorem at3:atI (b3m x y z cells) 3=some (.lst (cells.map .int)):=rfl
end
theorem a74 {xs:List D} {k:Nat}:Sv.cutD xs none (some (k:Int))=xs.take k:=by
 unfold Sv.cutD
 rw [HT.sIx_none,HT.sIx_nat]
 simp only [List.drop_zero,Nat.sub_zero]
 by_cases h:k≤xs.length
 ·rw [Nat.min_eq_left h]
 ·rw [Nat.min_eq_right (by omega),List.take_length,List.take_of_length_le (by omega)]
theorem bnd {j:Int} (h0:-1000≤j) (h1:j≤1000000):-(2 ^ 62)≤j∧j < 2 ^ 62:=by
 have e:(2:Int) ^ 62=4611686018427387904:=by decide
 rw [e];omega
theorem lg {n : Int} (h0 : 0 < n) (h1 : n ≤ 1000000) : n.natAbs.log2 < 4000 := by
  have h : n.natAbs < 2 ^ 20 := by have : (2 : Nat) ^ 20 = 1048576 := by decide
                                   omega
  exact Nat.lt_trans ((Nat.log2_lt (by omega)).mpr h) (by decide)
theorem me1 (c:SaysX fa fn fx K):Meets ((tb K).sn N1) ((tb K).G K 1) 2 false a0N b1:=by
 refine Qt.put_in ?_
 simp (disch :=
 with_unfolding_all
 refine Qt.keep ?_
 rintro m hm ds S KK Y ⟨rfl,b,n0,c,rfl,hn,hn2,hb,⟨x,y,z,cells,rfl,hx,hy,hy2,hz,hc⟩,hK⟩
 refine ⟨rfl,?_⟩
 show a0b _ b1 [some _,some _,none,none,none,none] _ _ _
 unfold b1
 have hb0:=hb
 refine a3k (fun δ1 S1=>∃ x y z c1,c3D x y z cells∧S1=S.set b (.lst (b3m x y z cells))∧δ1=[some (.obj b),some (.int n0),c1,none,none,none]) ?_ ?_
 ·lia
  refine a8Z hb at0 ?_
  lia
  split
  ·lia
   refine a3k (fun δ1 S1=>∃ w,0≤w∧S1=S∧δ1=[some (.obj b),some (.int n0),some (.int w),none,none,none]) ?_ ?_
   ·lia
    refine a8Z hb at2 ?_
    lia
    refine a8Z hb at3 ?_
    lia
    split
    ·rename_i e
     have e:z < (cells.length:Int):=by simpa using e
     lia
     refine a8Z hb at3 ?_
     lia
     refine a8Z hb at2 ?_
     obtain ⟨k,rfl⟩:=Int.eq_ofNat_of_zero_le hz
     have hk:k < cells.length:=by omega
     refine a4t (a1K (zbi hk)) ?_
     lia
     exact ⟨cells[k],hc _ (List.getElem_mem hk),rfl,rfl⟩
    ·lia
     exact ⟨0,by omega,rfl,rfl⟩
   ·rintro δ1 S1 ⟨w,hw,hS,rfl⟩
    rw [hS]
    lia
    refine c1l hb at2 ?_
    lia
    refine b0N hb rfl ?_
    lia
    refine a3k (fun δ1 S1=>∃ x1,0≤x1∧S1=S.set b (.lst (b3m x1 y (z + 1) cells))∧δ1=[some (.obj b),some (.int n0),some (.int w),none,none,none]) ?_ ?_
    ·lia
     split
     ·lia
      refine b0N zab rfl ?_
      lia
      exact ⟨w,hw,by rw [zac];rfl,rfl⟩
     ·lia
      exact ⟨x,hx,rfl,rfl⟩
    ·rintro δ1 S1 ⟨x1,hx1,rfl,rfl⟩
     lia
     refine a8Z zab at1 ?_
     lia
     refine a5W (.inl (.inr (by decide))) ?_
     lia
     refine a2G (by decide) ?_
     lia
     refine a8Z zab at2 ?_
     lia
     refine a5W (.inl (.inl (by decide))) ?_
     lia
     refine a2G (by decide) ?_
     lia
     refine b0N zab rfl ?_
     lia
     exact ⟨x1,(y * 48271 + w % 2147483647 + 7919 * (z + 1)) % 2147483647,z + 1,_,⟨hx1,Int.emod_nonneg _ (by decide),Int.emod_lt_of_pos _ (by decide),by omega,hc⟩,by rw [zac];rfl,rfl⟩
  ·lia
   exact ⟨x,y,z,none,⟨hx,hy,hy2,hz,hc⟩,(SS.set_id hb).symm,rfl⟩
 ·rintro δ1 S1 ⟨x,y,z,c1,⟨hx,hy,hy2,hz,hc⟩,rfl,rfl⟩
  lia
  refine a8Z zab at0 ?_
  lia
  split
  ·rename_i e
   have e:0 < x:=by simpa using e
   lia
   refine a8Z zab at0 ?_
   lia
   refine a2G hn ?_
   lia
   refine a8Z zab at0 ?_
   lia
   refine b0o ⟨hn,by omega⟩ ?_
   lia
   refine b0N zab rfl ?_
   lia
   rw [zac]
   exact hK _ _ (Int.emod_nonneg _ (by omega)) (Int.emod_lt_of_pos _ hn) ⟨x / n0,y,z,cells,rfl,Int.ediv_nonneg hx (by omega),hy,hy2,hz,hc⟩
  ·lia
   refine a8Z zab at1 ?_
   lia
   refine a5W (.inl (.inr (by decide))) ?_
   lia
   refine a2G (by decide) ?_
   have h1:=Int.emod_nonneg ((y + 1) * 39373) (by decide:(1000000007:Int)≠0)
   have h2:=Int.emod_lt_of_pos ((y + 1) * 39373) (by decide:(0:Int) < 1000000007)
   generalize ((y + 1) * 39373) % 1000000007=f1 at h1 h2 ⊢
   lia
   refine a5W (.inl (.inl ⟨by omega,by omega⟩)) ?_
   lia
   refine a2G (by decide) ?_
   lia
   refine a5W (.inl (.inr (by decide))) ?_
   lia
   refine a2G (by decide) ?_
   have h3:=Int.emod_nonneg (f1 * f1 % 998244353 * 30011) (by decide:(998244353:Int)≠0)
   have h4:=Int.emod_lt_of_pos (f1 * f1 % 998244353 * 30011) (by decide:(0:Int) < 998244353)
   generalize (f1 * f1 % 998244353 * 30011) % 998244353=f2 at h3 h4 ⊢
   lia
   split
   ·lia
    refine a5W (.inl (.inr (by decide))) ?_
    lia
    refine a2G hn ?_
    exact hK _ _ (Int.emod_nonneg _ (by omega)) (Int.emod_lt_of_pos _ hn) ⟨x,y,z,cells,rfl,hx,hy,hy2,hz,hc⟩
   ·lia
    refine b0o ⟨by decide,by decide⟩ ?_
    lia
    refine a2G hn ?_
    exact hK _ _ (Int.emod_nonneg _ (by omega)) (Int.emod_lt_of_pos _ hn) ⟨x,y,z,cells,rfl,hx,hy,hy2,hz,hc⟩
 ) only [↓Qt.put_off]
def b5T:D→D
 | .int i=>.int (if i < 0 then -i else i)
 | d=>d
theorem me0 (c:SaysX fa fn fx K):Meets ((tb K).sn N0) ((tb K).G K 0) 1 false b9M b0:=by
 rintro m hm ds S KK Y ⟨rfl,ns,rfl,hK⟩
 refine ⟨rfl,?_⟩
 show a0b _ b0 [some _,none] _ _ _
 unfold b0
 lia
 refine ⟨_,rfl,?_⟩
 rw [show (63:Int)=((63:Nat):Int) from rfl,a74]
 have hl:((ns.map D.int).take 63).length≤63:=by rw [List.length_take];omega
 refine a2e b5T (fun _=>true) (by rw [zai];omega) (fun _ _ _=>rfl) (fun p i acc d KK KN hd hp hk hn=>?_) ?_
 ·refine a1O (b1c ?_)
  rw [if_pos rfl]
  have hm:d∈ns.map D.int:=List.mem_of_mem_take (zaq hd)
  obtain ⟨x,_,rfl⟩:=zan.mp hm
  lia
  exact hk rfl
 ·have e:(((ns.map D.int).take 63).filter fun _=>true).map b5T=((ns.take 63).map fun i=>if i < 0 then -i else i).map D.int:=by
   rw [zbc.mpr (fun _ _=>rfl),← List.map_take,zat,zat]
   rfl
  rw [e]
  lia
  intro p hp
  refine hK p _ hp ⟨0,1234567891,0,_,rfl,by decide,by decide,by decide,by decide,fun i hi=>?_⟩
  obtain ⟨x,_,rfl⟩:=zan.mp hi
  split <;> omega
theorem a8Q {tg:List Nat} {one:Bool} {d:D} {δ:DS} {S:SS} {Q Q':DS→SS→Prop} (w:∀ δ S,Q δ S→Q' δ S) (h:a2a tg one d δ S Q):a2a tg one d δ S Q':=by
 unfold a2a at h ⊢
 split
 ·rename_i e
  rw [if_pos e] at h
  split at h
  ·exact w _ _ h
  ·exact h
 ·rename_i e
  rw [if_neg e] at h
  obtain ⟨ds,h1,h2,h3⟩:=h
  exact ⟨ds,h1,h2,w _ _ h3⟩
theorem b2S {G:Gm} {elt:RE} {tg:List Nat} {one:Bool} {own:List Nat} {δ:DS} {KK:DK} {ds:List D} {ok:SS→Prop} {S:SS} {b:Addr} {c:Cell} (hb:S b=some c) (hc:a0K c) (hz:ds.length≤sizeLine) (P:D→Prop) (hok:∀ S',ok S')
  (hs:∀ (p:Addr) (i:Nat) (acc:List D) (d:D) (S0:SS) (c0:Cell) (K1:DK),ds[i]?=some d→S0 b=some c0→a0K c0→(∀ y c1,P y→a0K c1→K1 y (S0.set b c1))→a2a tg one d (a7W δ own) S0 fun δ2 S2=>den G elt δ2 S2 noX K1)
  (hl:∀ ys c',ys.length=ds.length→(∀ y∈ys,P y)→a0K c'→KK (.lst ys) (S.set b c')):LcK G false elt tg one .nn own δ KK ds ok S:=by
 intro p hp
 have apart:b≠p:=zad hb hp
 refine ⟨fun i S'=>∃ ys c',ys.length=i∧(∀ y∈ys,P y)∧a0K c'∧S'=(S.set b c').set p (.lst ys),⟨[],c,rfl,(fun _ z=>nomatch z),hc,by rw [SS.set_id hb]⟩,fun _ S' _ _=>hok S',?_,?_⟩
 ·rintro i d S' hd ⟨ys,c0,rfl,hP,hc0,rfl⟩
  have hi:ys.length < ds.length:=(List.getElem?_eq_some_iff.mp hd).1
  have at_b:((S.set b c0).set p (.lst ys)) b=some c0:=by rw [zaa apart,zab]
  refine a8Q (fun δ2 S2 q=>?_) (hs p ys.length ys d _ c0 (fun y S4=>∃ acc,S4 p=some (.lst acc)∧acc.length < sizeLine∧∃ ys' c',ys'.length=ys.length + 1∧(∀ y∈ys',P y)∧a0K c'∧S4.set p (.lst (acc ++ [y]))=(S.set b c').set p (.lst ys')) hd at_b hc0 fun y c1 hy hc1=>?_)
  ·refine b1c ?_
   rw [if_pos rfl]
   exact q
  ·have e:((S.set b c0).set p (.lst ys)).set b c1=(S.set b c1).set p (.lst ys):=by rw [zae (Ne.symm apart),zac]
   rw [e]
   refine ⟨ys,zab,by omega,ys ++ [y],c1,by simp,fun w hw=>?_,hc1,by rw [zac]⟩
   rcases zap.mp hw with hw | hw
   ·exact hP w hw
   ·cases zaj.mp hw;exact hy
 ·rintro S' ⟨ys,c',hlen,hP,hc',rfl⟩
  refine ⟨ys,zab,?_⟩
  rw [if_neg zbe,zaf (by rw [zaa (Ne.symm apart)];exact hp)]
  exact hl ys c' hlen hP hc'
def c3U (y:D):Prop:=∃ ch,y=.str ⟨#[ch]⟩∧97≤ch∧ch≤122
theorem b0d:∀ (ys:List D),(∀ y∈ys,c3U y)→∃ cs:List Nat,ys=(cs.map fun ch=>(⟨#[ch]⟩:Str)).map D.str∧cs.length=ys.length∧∀ ch∈cs,97≤ch∧ch≤122
 | [],_=>⟨[],rfl,rfl,fun _ z=>nomatch z⟩
 | y :: ys,h=>by
  obtain ⟨cs,rfl,hl,hc⟩:=b0d ys fun w hw=>h w (zao _ hw)
  obtain ⟨ch,rfl,h1⟩:=h _ zal
  refine ⟨ch :: cs,rfl,by simp,fun w hw=>?_⟩
  rcases zau.mp hw with rfl | hw
  ·exact h1
  ·exact hc w hw
theorem a6z:∀ cs:List Nat,TL.joinL [] (cs.map fun ch=>[ch])=cs
 | []=>rfl
 | [_]=>rfl
 | a :: b :: r=>by
  have ih:=a6z (b :: r)
  rw [zax] at ih
  rw [zax,zax]
  show [a] ++ ([] ++ TL.joinL [] ([b] :: r.map fun ch=>[ch]))=a :: b :: r
  rw [ih]
  rfl
theorem a97 (cs:List Nat):Txt.join "" (cs.map fun ch=>(⟨#[ch]⟩:Str))=⟨cs.toArray⟩:=by
 have h:=SX.join_S [] (cs.map fun ch=>[ch])
 rw [zat,a6z] at h
 exact h
theorem b5x {u:Int} (h0:0≤u) (h1:u < 12):∃ z,atI [D.str "open",D.str "shut",D.str "by",D.str "step",D.str "none",D.str "paper",D.str "at",D.str "done",D.str "a",D.str "aa",D.str "ab",D.str "b"] u=some (.str z)∧Nm z:=by
 have key:∀ k:Fin 12,Nm ((["open", "shut", "by", "step", "none", "paper", "at", "done", "a", "aa", "ab", "b"]:List Str)[k.1]'k.2):=by decide +kernel
 obtain ⟨k,rfl⟩:=Int.eq_ofNat_of_zero_le h0
 have hk:k < 12:=by omega
 refine ⟨_,?_,key ⟨k,hk⟩⟩
 exact a1K (f:=D.str) (l:=["open", "shut", "by", "step", "none", "paper", "at", "done", "a", "aa", "ab", "b"]) (zbi (show k < 12 from hk))
theorem b4w {v:Int} (h0:0≤v) (h1:v < 4) (h2:¬ v=0):∃ n,atI [D.int 2,D.int 8,D.int 1] (v - 1)=some (.int n)∧0 < n∧n≤8:=by
 obtain rfl | rfl | rfl:v=1∨v=2∨v=3:=by omega
 ·exact ⟨2,rfl,by decide,by decide⟩
 ·exact ⟨8,rfl,by decide,by decide⟩
 ·exact ⟨1,rfl,by decide,by decide⟩
theorem b7g {u:Int} (h0:0≤u) (h1:u < 26):∃ ch,atI ("abcdefghijklmnopqrstuvwxyz" : Str).cps.toList u=some ch∧97≤ch∧ch≤122:=by
 have key:∀ k:Fin 26,97≤(("abcdefghijklmnopqrstuvwxyz" : Str).cps.toList)[k.1]'(by have:=k.2;exact Nat.lt_of_lt_of_eq this (by decide +kernel))∧(("abcdefghijklmnopqrstuvwxyz" : Str).cps.toList)[k.1]'(by have:=k.2;exact Nat.lt_of_lt_of_eq this (by decide +kernel))≤122:=by decide +kernel
 obtain ⟨k,rfl⟩:=Int.eq_ofNat_of_zero_le h0
 have hk:k < 26:=by omega
 exact ⟨_,atI_nat (zbi (Nat.lt_of_lt_of_eq hk (by decide +kernel))),key ⟨k,hk⟩⟩
theorem c5P (c:SaysX fa fn fx K):Meets ((tb K).sn N22) ((tb K).G K 22) 1 false b3A b22:=by
 refine Qt.put_in ?_
 simp (disch :=
 with_unfolding_all
 refine Qt.keep ?_
 rintro m hm ds S KK Y ⟨rfl,b,c0,rfl,hb,hc,hK⟩
 refine ⟨rfl,?_⟩
 show a0b _ b22 [some _,none,none,none,none] _ _ _
 unfold b22
 lia
 refine a0a (T:=a0N) rfl ?_
 lia
 refine ⟨rfl,b,4,c0,rfl,by decide,by decide,hb,hc,fun v c1 h0 h1 hc1=>?_⟩
 lia
 by_cases hv:v=0
 ·rw [if_pos (by simpa using hv)]
  lia
  refine a0a (T:=a0N) rfl ?_
  lia
  refine ⟨rfl,b,12,c1,rfl,by decide,by decide,zab,hc1,fun u c2 u0 u1 hc2=>?_⟩
  rw [zac]
  obtain ⟨z,ez,nz⟩:=b5x u0 u1
  exact a4t ez (hK z c2 nz hc2)
 ·rw [if_neg (by simpa using hv)]
  lia
  refine a0a (T:=a0N) rfl ?_
  lia
  obtain ⟨n,en,n0,n8⟩:=b4w h0 h1 hv
  refine a4t en ?_
  lia
  refine ⟨rfl,b,n,c1,rfl,n0,lg n0 (by omega),zab,hc1,fun k c2 k0 k1 hc2=>?_⟩
  rw [zac]
  lia
  have bd:=bnd (j:=1 + k) (by omega) (by omega)
  refine ⟨bd.1,bd.2,?_⟩
  refine b2S (P:=c3U) zab hc2 (by rw [a1t,zai];omega) (fun _=>trivial) (fun p i acc d S0 c3 K1 hd hb0 hc3 hk=>?_) fun ys c4 hlen hP hc4=>?_
  ·refine a1O ?_
   lia
   refine a0a (T:=a0N) rfl ?_
   lia
   refine ⟨rfl,b,26,c3,rfl,by decide,by decide,hb0,hc3,fun u c5 u0 u1 hc5=>?_⟩
   obtain ⟨ch,ech,hch⟩:=b7g u0 u1
   exact c5D (by decide +kernel) ech (hk _ c5 ⟨ch,rfl,hch⟩ hc5)
  ·rw [zac]
   obtain ⟨cs,rfl,hl,hcs⟩:=b0d ys hP
   rw [a1t,← hl] at hlen
   lia
   refine b7c ?_ ?_
   ·have e:∀ cs:List Nat,((cs.map fun ch=>(⟨#[ch]⟩:Str)).map (·.length)).sum=cs.length:=by
     intro cs
     induction cs with
     | nil=>rfl
     | cons a r ih=>rw [zax,zax,List.sum_cons,ih,zaz];show 1 + _=_;omega
    rw [e]
    have:("" : Str).length=0:=rfl
    rw [this]
    omega
   ·rw [a97]
    refine hK _ c4 ⟨?_,?_,?_⟩ hc4
    ·show cs.toArray.toList.length≤8
     rw [List.toList_toArray];omega
    ·show 1≤cs.toArray.toList.length
     rw [List.toList_toArray];omega
    ·show ∀ c∈cs.toArray.toList,_
     rw [List.toList_toArray];exact hcs
 ) only [↓Qt.put_off]
def nmD (y:D):Prop:=∃ z,y=.str z∧Nm z
theorem b2Y:∀ (ys:List D),(∀ y∈ys,nmD y)→∃ zs:List Str,ys=zs.map D.str∧∀ z∈zs,Nm z
 | [],_=>⟨[],rfl,fun _ z=>nomatch z⟩
 | y :: ys,h=>by
  obtain ⟨zs,rfl,hc⟩:=b2Y ys fun w hw=>h w (zao _ hw)
  obtain ⟨z,rfl,h1⟩:=h _ zal
  refine ⟨z :: zs,rfl,fun w hw=>?_⟩
  rcases zau.mp hw with rfl | hw
  ·exact h1
  ·exact hc w hw
theorem b5c {zs:List Str} {u:Int} (h:∀ z∈zs,Nm z) (h0:0≤u) (h1:u < ((zs.map D.str).length:Int)):∃ z,atI (zs.map D.str) u=some (.str z)∧z∈zs∧Nm z:=by
 obtain ⟨k,rfl⟩:=Int.eq_ofNat_of_zero_le h0
 rw [zag] at h1
 have hk:k < zs.length:=by omega
 exact ⟨zs[k],a1K (zbi hk),List.getElem_mem hk,h _ (List.getElem_mem hk)⟩
variable {K:zbj}
theorem a01 {α:Type} {f:α→D} {l:List (Str × α)} {z:Str}:(valD (a0g f l) (.inr z)).isSome=decide (z∈nms l):=b0k
theorem a2W {α:Type} {f:α→D} {l:List (Str × α)}:(a0g f l).map (·.1)=(nms l).map Sum.inr:=a4x
theorem a5N {n:Nat} (h:n≤1000):n < sizeLine:=by rw [zai];omega
theorem b4m {G:Gm} {S:SS} {i:Int} {Q:Bool→Prop} (k:Q true):∃ t b,tyD S (.int i)=some t∧a7d G S (.int i)∧PySem.W.kitOne G.K t ((Cn.ty "int").val G)=some b∧Q b:=a94 rfl trivial rfl k
theorem b1L {G:Gm} {S:SS} {i:Int} {Q:Bool→Prop} (k:Q false):∃ t b,tyD S (.int i)=some t∧a7d G S (.int i)∧PySem.W.kitOne G.K t ((Cn.ty "bool").val G)=some b∧Q b:=a94 rfl trivial rfl k
theorem b4o {G:Gm} {S:SS} {z:Str} {Q:Bool→Prop} (k:Q true):∃ t b,tyD S (.str z)=some t∧a7d G S (.str z)∧PySem.W.kitOne G.K t ((Cn.ty "str").val G)=some b∧Q b:=a94 rfl trivial rfl k
theorem me5 (c:SaysX fa fn fx K):Meets ((tb K).sn N5) ((tb K).G K 5) 1 false a5F b5:=by
 refine Qt.put_in ?_
 simp (disch :=
 with_unfolding_all
 refine Qt.keep ?_
 rintro m hm ds S KK Y ⟨rfl,i,rfl,hK⟩
 refine ⟨rfl,?_⟩
 show a0b _ b5 [some _] _ _ _
 unfold b5
 lia
 refine b4m ?_
 lia
 rw [if_pos rfl]
 lia
 refine b1L ?_
 lia
 exact hK
 ) only [↓Qt.put_off]
theorem c5U (c:SaysX fa fn fx K):Meets ((tb K).sn N27) ((tb K).G K 27) 1 false a7g b27:=by
 refine Qt.put_in ?_
 simp (disch :=
 with_unfolding_all
 refine Qt.keep ?_
 rintro m hm ds S KK Y ⟨rfl,i,rfl,h0,h1,hK⟩
 refine ⟨rfl,?_⟩
 show a0b _ b27 [some _] _ _ _
 unfold b27
 lia
 refine a0a (T:=a5F) rfl ?_
 lia
 refine ⟨rfl,i,rfl,?_⟩
 lia
 rw [if_pos rfl]
 lia
 rw [if_pos (zbg h0)]
 lia
 rw [zbg h1]
 exact hK
 ) only [↓Qt.put_off]
theorem me3 (c:SaysX fa fn fx K):Meets ((tb K).sn N3) ((tb K).G K 3) 2 false a1R b3:=by
 rintro m hm ds S KK Y ⟨rfl,x,rfl,hK⟩
 refine ⟨rfl,?_⟩
 show a0b _ b3 [some _,some _] _ _ _
 unfold b3
 lia
 rw [if_neg (by decide)]
 lia
 exact hK
theorem me7 (c:SaysX fa fn fx K):Meets ((tb K).sn N7) ((tb K).G K 7) 2 false (a2M K) b7:=by
 refine Qt.put_in ?_
 simp (disch :=
 with_unfolding_all
 refine Qt.keep ?_
 rintro m hm ds S KK Y ⟨rfl,z,p,α,f,l,rfl,at_p,h1,h2⟩
 refine ⟨rfl,?_⟩
 show a0b _ b7 [some _,some _] _ _ _
 unfold b7
 lia
 refine a82 at_p rfl ?_
 rw [a01]
 lia
 by_cases h:z∈nms l
 ·rw [if_neg (by simpa using h)]
  lia
  exact h1 h
 ·rw [if_pos (by simpa using h)]
  lia
  exact a3J rfl rfl rfl (by lia;exact ⟨_,rfl,h2 h⟩)
 ) only [↓Qt.put_off]
theorem b5l {z:Str} {i:Nat} {d:D} (hz:Nm z) (h:(a1n z)[i]?=some d):∃ c,d=.str ⟨#[c]⟩∧97≤c∧c≤122:=by
 unfold a1n at h
 rw [zbh,zam] at h
 obtain ⟨c,hc,rfl⟩:=h
 exact ⟨c,rfl,hz.2.2 c (zaq hc)⟩
theorem letter {c:Nat} (h:97≤c∧c≤122):c∈("abcdefghijklmnopqrstuvwxyz" : Str).cps.toList:=by
 have key:∀ k:Fin 26,97 + k.1∈("abcdefghijklmnopqrstuvwxyz" : Str).cps.toList:=by decide +kernel
 have:=key ⟨c - 97,by omega⟩
 rwa [show 97 + (c - 97)=c by omega] at this
theorem me4 (c:SaysX fa fn fx K):Meets ((tb K).sn N4) ((tb K).G K 4) 1 false a1a b4:=by
 refine Qt.put_in ?_
 simp (disch :=
 with_unfolding_all
 refine Qt.keep ?_
 rintro m hm ds S KK Y ⟨rfl,z,rfl,hz,hK⟩
 refine ⟨rfl,?_⟩
 show a0b _ b4 [some _,none] _ _ _
 unfold b4
 have hl:=hz.len
 lia
 refine b4o ?_
 lia
 rw [if_neg (by decide)]
 lia
 refine c1B (by rw [zai];omega) ?_
 lia
 rw [if_pos (by simp;omega)]
 lia
 rw [if_neg (by simp;omega)]
 lia
 refine ⟨fun i δ' S'=>∃ x,S'=S∧δ'=[some (.str z),x],⟨none,rfl,rfl⟩,fun _ _ _ _ _=>trivial,?_,?_⟩
 ·rintro i d δ' S' hd ⟨x,rfl,rfl⟩
  obtain ⟨ch,rfl,hch⟩:=b5l hz hd
  refine a1O ?_
  lia
  rw [if_neg (by simpa using letter hch)]
  lia
  exact ⟨_,rfl,rfl⟩
 ·rintro δ' S' ⟨x,rfl,rfl⟩
  lia
  exact hK
 ) only [↓Qt.put_off]
theorem me6 (c:SaysX fa fn fx K):Meets ((tb K).sn N6) ((tb K).G K 6) 2 false (b3B K) b6:=by
 refine Qt.put_in ?_
 simp (disch :=
 with_unfolding_all
 refine Qt.keep ?_
 rintro m hm ds S KK Y ⟨rfl,L,a,b,c',d,st,z,rfl,lay,h1,h2⟩
 refine ⟨rfl,?_⟩
 show a0b _ b6 [some _,some _] _ _ _
 unfold b6
 lia
 refine a1k lay.L (a0c c) (a0J c) rfl ?_
 refine b4j lay.b rfl ?_
 rw [a01]
 lia
 by_cases h:z∈nms st.lines
 ·rw [if_pos (by simpa using h)]
  lia
  rw [if_pos rfl]
  lia
  exact a3J rfl rfl rfl (by lia;exact ⟨_,rfl,h1 (.inl h)⟩)
 ·rw [if_neg (by simpa using h)]
  lia
  refine a1k lay.L (a0c c) (a5s c) rfl ?_
  refine b4j lay.c rfl ?_
  rw [a01]
  lia
  by_cases h':z∈nms st.drains
  ·rw [if_pos (by simpa using h')]
   lia
   exact a3J rfl rfl rfl (by lia;exact ⟨_,rfl,h1 (.inr h')⟩)
  ·rw [if_neg (by simpa using h')]
   lia
   exact h2 h h'
 ) only [↓Qt.put_off]
theorem c5T (c:SaysX fa fn fx K):Meets ((tb K).sn N26) ((tb K).G K 26) 2 false (a5B K) b26:=by
 refine Qt.put_in ?_
 simp (disch :=
 with_unfolding_all
 refine Qt.keep ?_
 rintro m hm ds S KK Y ⟨rfl,L,a,b,c',d,st,n,z,rfl,hz,lay,ok,ends⟩
 refine ⟨rfl,?_⟩
 show a0b _ b26 [some _,some _] _ _ _
 unfold b26
 lia
 refine a0a (T:=a1R) rfl ?_
 lia
 refine a0a (T:=a1a) rfl ?_
 lia
 refine ⟨rfl,z,rfl,hz,?_⟩
 lia
 refine ⟨rfl,_,rfl,?_⟩
 lia
 refine a1k lay.L (a0c c) (a0O c) rfl ?_
 refine b4j lay.a rfl ?_
 rw [a01]
 lia
 simp only [due] at ends
 by_cases h:z∈nms st.rooms
 ·rw [if_pos h] at ends
  rw [if_pos (by simpa using h)]
  lia
  exact a3J rfl rfl rfl (by lia;exact ⟨_,rfl,ends⟩)
 ·rw [if_neg h] at ends
  rw [if_neg (by simpa using h)]
  lia
  refine a1k lay.L (a0c c) (a0O c) rfl ?_
  lia
  refine b7e lay.a ?_
  rw [a0p]
  lia
  have few:=ok.r
  by_cases h':st.rooms.length=24
  ·rw [if_pos h'] at ends
   rw [if_pos (by simp;omega)]
   lia
   exact a3J rfl rfl rfl (by lia;exact ⟨_,rfl,ends⟩)
  ·rw [if_neg h'] at ends
   rw [if_neg (by simp;omega)]
   lia
   refine a1k lay.L (a0c c) (a0O c) rfl ?_
   lia
   refine a3i lay.a rfl (by rw [a0p];exact a5N (by omega)) ?_
   rw [show (D.bl true)=fU () from rfl,a0T h]
   lia
   exact ends
 ) only [↓Qt.put_off]
theorem c5V (c:SaysX fa fn fx K):Meets ((tb K).sn N28) ((tb K).G K 28) 2 false (a3p K) b28:=by
 refine Qt.put_in ?_
 simp (disch :=
 with_unfolding_all
 refine Qt.keep ?_
 rintro m hm ds S KK Y ⟨rfl,L,a,b,c',d,st,n,z,rfl,hz,lay,ok,hn,ends⟩
 refine ⟨rfl,?_⟩
 show a0b _ b28 [some _,some _] _ _ _
 unfold b28
 lia
 refine a0a (T:=a1R) rfl ?_
 lia
 refine a0a (T:=a1a) rfl ?_
 lia
 refine ⟨rfl,z,rfl,hz,?_⟩
 lia
 refine ⟨rfl,_,rfl,?_⟩
 lia
 refine a0a (T:=a2M K) rfl ?_
 lia
 refine a1k lay.L (a0c c) (a0O c) rfl ?_
 lia
 simp only [due] at ends
 refine ⟨rfl,z,a,Unit,fU,st.rooms,rfl,lay.a,fun h=>?_,fun h=>?_⟩
 ·rw [if_pos h] at ends
  lia
  refine a1k lay.L (a0c c) (a1E c) rfl ?_
  refine b4j lay.d rfl ?_
  rw [a01]
  lia
  by_cases h':z∈nms st.pushed
  ·rw [if_pos h'] at ends
   rw [if_pos (by simpa using h')]
   lia
   exact a3J rfl rfl rfl (by lia;exact ⟨_,rfl,ends⟩)
  ·rw [if_neg h'] at ends
   rw [if_neg (by simpa using h')]
   lia
   refine a1k lay.L (a0c c) (a1E c) rfl ?_
   lia
   refine a3i lay.d rfl (by rw [a0p];have:=ok.p;exact a5N (by omega)) ?_
   rw [show (D.bl true)=fU () from rfl,a0T h']
   lia
   exact ends
 ·rw [if_neg h] at ends
  exact ends
 ) only [↓Qt.put_off]
theorem c57 (c:SaysX fa fn fx K):Meets ((tb K).sn N40) ((tb K).G K 40) 5 false (a5A K) b40:=by
 refine Qt.put_in ?_
 simp (disch :=
 with_unfolding_all
 refine Qt.keep ?_
 rintro m hm ds S KK Y ⟨rfl,L,a,b,c',d,st,n,z,x,y,k,rfl,hz,lay,ok,ends⟩
 refine ⟨rfl,?_⟩
 show a0b _ b40 [some _,some _,some _,some _,some _] _ _ _
 unfold b40
 lia
 refine a0a (T:=a1R) rfl ?_
 lia
 refine a0a (T:=a1a) rfl ?_
 lia
 refine ⟨rfl,z,rfl,hz.1,?_⟩
 lia
 refine ⟨rfl,_,rfl,?_⟩
 lia
 refine a0a (T:=a1R) rfl ?_
 lia
 refine a0a (T:=a1a) rfl ?_
 lia
 refine ⟨rfl,x,rfl,hz.2.1,?_⟩
 lia
 refine ⟨rfl,_,rfl,?_⟩
 lia
 refine a0a (T:=a1R) rfl ?_
 lia
 refine a0a (T:=a1a) rfl ?_
 lia
 refine ⟨rfl,y,rfl,hz.2.2.1,?_⟩
 lia
 rw [if_pos rfl]
 lia
 rw [show (!decide (y=x))=true from by simpa using hz.2.2.2.1]
 refine ⟨rfl,_,rfl,?_⟩
 lia
 refine a0a (T:=a1R) rfl ?_
 lia
 refine a0a (T:=a7g) rfl ?_
 lia
 refine ⟨rfl,k,rfl,hz.2.2.2.2.1,hz.2.2.2.2.2,?_⟩
 lia
 refine ⟨rfl,_,rfl,?_⟩
 lia
 refine a4l (T:=b3B K) rfl ?_
 lia
 refine a4A lay.L rfl ?_
 lia
 simp only [due] at ends
 refine ⟨rfl,L,a,b,c',d,st,z,rfl,lay,fun h=>?_,fun h h'=>?_⟩
 ·rw [if_pos h] at ends
  exact ends
 ·rw [if_neg (fun z=>z.elim h h')] at ends
  lia
  refine a0a (T:=a2M K) rfl ?_
  lia
  refine a1k lay.L (a0c c) (a0O c) rfl ?_
  lia
  refine ⟨rfl,x,a,Unit,fU,st.rooms,rfl,lay.a,fun hr=>?_,fun hr=>?_⟩
  ·lia
   refine a0a (T:=a2M K) rfl ?_
   lia
   refine a1k lay.L (a0c c) (a0O c) rfl ?_
   lia
   refine ⟨rfl,y,a,Unit,fU,st.rooms,rfl,lay.a,fun hr2=>?_,fun hr2=>?_⟩
   ·rw [show a1C st [x,y]=none from by unfold a1C a1C a1C;rw [if_pos hr,if_pos hr2]] at ends
    lia
    refine a1k lay.L (a0c c) (a0J c) rfl ?_
    lia
    refine b7e lay.b ?_
    rw [a0p]
    lia
    have few:=ok.l
    by_cases h2:st.lines.length=40
    ·rw [if_pos h2] at ends
     rw [if_pos (by simp;omega)]
     lia
     exact a3J rfl rfl rfl (by lia;exact ⟨_,rfl,ends⟩)
    ·rw [if_neg h2] at ends
     rw [if_neg (by simp;omega)]
     lia
     refine a1k lay.L (a0c c) (a0J c) rfl ?_
     lia
     refine a3i lay.b rfl (by rw [a0p];exact a5N (by omega)) ?_
     rw [show (D.tup [.str x,.str y,.int k])=fL (x,y,k) from rfl,a0T h]
     lia
     exact ends
   ·rw [show a1C st [x,y]=some (.lacks y) from by unfold a1C a1C;rw [if_pos hr,if_neg hr2]] at ends
    exact ends
  ·rw [show a1C st [x,y]=some (.lacks x) from by unfold a1C;rw [if_neg hr]] at ends
   exact ends
 ) only [↓Qt.put_off]
theorem a8j {α:Type} {l:List (Str × α)} {z:Str} (h:z∈nms l):∃ q,l.lookup z=some q:=by
 have e:(l.lookup z).isSome=decide (z∈nms l):=lookup_some
 rw [zbg h] at e
 exact Option.isSome_iff_exists.mp e
theorem b2M {S:SS} {KK:DK} {p:Addr} {kvs:List (Key × D)} {k:D} {key:Key} {d:D} (h:S p=some (.dic kvs)) (hk:keyD k=some key) (e:valD kvs key=some d) (kk:KK d (S.set p (.dic (a5L kvs key)))):Mn.dpop.den (.obj p) [k] S KK:=⟨kvs,key,d,h,hk,e,kk⟩
theorem a4w {α:Type} {f:α→D} {l:List (Str × α)} {z:Str}:a5L (a0g f l) (.inr z)=a0g f (without l z):=by
 unfold a5L a0g without
 rw [List.filter_map]
 refine congrArg (List.map _) (List.filter_congr fun q _=>?_)
 exact decide_eq_decide.mpr ⟨fun h e=>h (by show (Sum.inr q.1:Key)=_;rw [e]),fun h e=>h (Sum.inr.inj e)⟩
theorem c55 (c:SaysX fa fn fx K):Meets ((tb K).sn N38) ((tb K).G K 38) 2 false (a4g K) b38:=by
 refine Qt.put_in ?_
 simp (disch :=
 with_unfolding_all
 refine Qt.keep ?_
 rintro m hm ds S KK Y ⟨rfl,L,a,b,c',d,st,z,rfl,hz,lay,ends⟩
 refine ⟨rfl,?_⟩
 show a0b _ b38 [some _,some _] _ _ _
 unfold b38
 simp only [due] at ends
 lia
 refine a0a (T:=a1R) rfl ?_
 lia
 refine a0a (T:=a1a) rfl ?_
 lia
 refine ⟨rfl,z,rfl,hz,?_⟩
 lia
 refine ⟨rfl,_,rfl,?_⟩
 lia
 refine a0a (T:=a2M K) rfl ?_
 lia
 refine a1k lay.L (a0c c) (a0J c) rfl ?_
 lia
 refine ⟨rfl,z,b,_,fL,st.lines,rfl,lay.b,fun h=>?_,fun h=>?_⟩
 ·rw [if_pos h] at ends
  lia
  refine a1k lay.L (a0c c) (a0J c) rfl ?_
  refine ⟨b8T lay.b,?_⟩
  lia
  obtain ⟨q,hq⟩:=a8j h
  refine b2M lay.b rfl (by rw [a0s,hq];rfl) ?_
  rw [a4w]
  lia
  exact ends
 ·rw [if_neg h] at ends
  exact ends
 ) only [↓Qt.put_off]
theorem c54 (c:SaysX fa fn fx K):Meets ((tb K).sn N37) ((tb K).G K 37) 2 false (a2D K) b37:=by
 refine Qt.put_in ?_
 simp (disch :=
 with_unfolding_all
 refine Qt.keep ?_
 rintro m hm ds S KK Y ⟨rfl,L,a,b,c',d,st,z,rfl,hz,lay,ends⟩
 refine ⟨rfl,?_⟩
 show a0b _ b37 [some _,some _] _ _ _
 unfold b37
 simp only [due] at ends
 lia
 refine a0a (T:=a1R) rfl ?_
 lia
 refine a0a (T:=a1a) rfl ?_
 lia
 refine ⟨rfl,z,rfl,hz,?_⟩
 lia
 refine ⟨rfl,_,rfl,?_⟩
 lia
 refine a0a (T:=a2M K) rfl ?_
 lia
 refine a1k lay.L (a0c c) (a1E c) rfl ?_
 lia
 refine ⟨rfl,z,d,_,fU,st.pushed,rfl,lay.d,fun h=>?_,fun h=>?_⟩
 ·rw [if_pos h] at ends
  lia
  refine a1k lay.L (a0c c) (a1E c) rfl ?_
  refine ⟨b8T lay.d,?_⟩
  lia
  obtain ⟨q,hq⟩:=a8j h
  refine b2M lay.d rfl (by rw [a0s,hq];rfl) ?_
  rw [a4w]
  lia
  exact ends
 ·rw [if_neg h] at ends
  exact ends
 ) only [↓Qt.put_off]
variable {K:zbj}
theorem me2 (c:SaysX fa fn fx K):Meets ((tb K).sn N2) ((tb K).G K 2) 1 false (b3z K) b2:=by
 refine Qt.put_in ?_
 simp (disch :=
 with_unfolding_all
 refine Qt.keep ?_
 rintro m hm ds S KK Y ⟨rfl,p,rfl,at_p,hK⟩
 refine ⟨rfl,?_⟩
 show a0b _ b2 [some _] _ _ _
 unfold b2
 lia
 refine a2S fun a fa=>?_
 have ap:p≠a:=zad at_p fa
 lia
 refine ⟨p,lc K,[],rfl,by rw [zaa ap];exact at_p,a0c c,a0O c,by show 0 < 1000;decide,?_⟩
 lia
 refine a2S fun b fb=>?_
 have bp:p≠b:=zad zab fb
 rw [zaa (Ne.symm bp)] at fb
 have ba:a≠b:=zad zab fb
 rw [zaa (Ne.symm ba)] at fb
 lia
 refine ⟨p,lc K,_,rfl,by rw [zaa bp];exact zab,a0c c,a0J c,by show 1 < 1000;decide,?_⟩
 lia
 refine a2S fun d fd=>?_
 have dp:p≠d:=zad zab fd
 rw [zaa (Ne.symm dp)] at fd
 have db:b≠d:=zad zab fd
 rw [zaa (Ne.symm db),zaa (Ne.symm dp)] at fd
 have da:a≠d:=zad zab fd
 rw [zaa (Ne.symm da)] at fd
 lia
 refine ⟨p,lc K,_,rfl,by rw [zaa dp];exact zab,a0c c,a5s c,by show 2 < 1000;decide,?_⟩
 lia
 refine a2S fun e fe=>?_
 have ep:p≠e:=zad zab fe
 rw [zaa (Ne.symm ep)] at fe
 have ed:d≠e:=zad zab fe
 rw [zaa (Ne.symm ed),zaa (Ne.symm ep)] at fe
 have eb:b≠e:=zad zab fe
 rw [zaa (Ne.symm eb),zaa (Ne.symm ep)] at fe
 have ea:a≠e:=zad zab fe
 rw [zaa (Ne.symm ea)] at fe
 lia
 refine ⟨p,lc K,_,rfl,by rw [zaa ep];exact zab,a0c c,a1E c,by show 3 < 1000;decide,?_⟩
 lia
 have h:=hK a b d e (Ne.symm ap) (Ne.symm bp) (Ne.symm dp) (Ne.symm ep) ba da ea db eb ed fa fb fd fe
 refine (congrArg (KK .non) (?_:_=b1g (lc K) S p a b d e)).mpr h
 funext q
 unfold b1g SS.set
 by_cases h1:q=p
 ·simp only [h1,if_true];rfl
 ·by_cases h2:q=a
  ·simp [h2,ap.symm,ba,da,ea]
  ·by_cases h3:q=b
   ·simp [h3,bp.symm,ba.symm,db,eb]
   ·by_cases h4:q=d
    ·simp [h4,dp.symm,da.symm,db.symm,ed]
    ·by_cases h5:q=e
     ·simp [h5,ep.symm,ea.symm,eb.symm,ed.symm]
     ·simp [h1,h2,h3,h4,h5]
 ) only [↓Qt.put_off]
theorem c5N (c:SaysX fa fn fx K):Meets ((tb K).sn N20) ((tb K).G K 20) 2 false a9n b20:=by
 refine Qt.put_in ?_
 simp (disch :=
 with_unfolding_all
 refine Qt.keep ?_
 rintro m hm ds S KK Y ⟨rfl,x,rfl,hx,hK⟩
 refine ⟨rfl,?_⟩
 show a0b _ b20 [some _,some _] _ _ _
 unfold b20
 lia
 refine c0H hx ?_
 lia
 rw [if_pos rfl]
 lia
 refine b7N hx ?_
 lia
 refine b7N hx ?_
 lia
 rw [zbg rfl]
 exact hK
 ) only [↓Qt.put_off]
theorem a1m {α:Type} {l:List (Str × α)} {z:Str} {q:α} (h:l.lookup z=some q):z∈nms l:=by
 have e:=lookup_some (l:=l) (z:=z)
 rw [h] at e
 exact of_decide_eq_true e.symm
theorem c5X (c:SaysX fa fn fx K):Meets ((tb K).sn N30) ((tb K).G K 30) 2 false (a7h K) b30:=by
 refine Qt.put_in ?_
 simp (disch :=
 with_unfolding_all
 refine Qt.keep ?_
 rintro m hm ds S KK Y ⟨rfl,L,a,b,c',d,st,z,q,rfl,hz,lay,look,hK⟩
 refine ⟨rfl,?_⟩
 show a0b _ b30 [some _,some _] _ _ _
 unfold b30
 lia
 refine a0a (T:=a1R) rfl ?_
 lia
 refine a0a (T:=a1a) rfl ?_
 lia
 refine ⟨rfl,z,rfl,hz,?_⟩
 lia
 refine ⟨rfl,_,rfl,?_⟩
 lia
 refine a0a (T:=a2M K) rfl ?_
 lia
 refine a1k lay.L (a0c c) (a0J c) rfl ?_
 lia
 refine ⟨rfl,z,b,_,fL,st.lines,rfl,lay.b,fun h=>?_,fun h=>absurd (a1m look) h⟩
 lia
 refine a1k lay.L (a0c c) (a0J c) rfl ?_
 lia
 exact a1I lay.b rfl (by rw [a0s,look];rfl) hK
 ) only [↓Qt.put_off]
theorem c5F (c:SaysX fa fn fx K):Meets ((tb K).sn N11) ((tb K).G K 11) 1 false (a2y K fun st=>nms st.rooms) b11:=by
 rintro m hm ds S KK Y ⟨rfl,L,a,b,c',d,st,rfl,lay,few,hK⟩
 refine ⟨rfl,?_⟩
 show a0b _ b11 [some _] _ _ _
 unfold b11
 lia
 refine a1k lay.L (a0c c) (a0O c) rfl ?_
 lia
 exact b0U lay.a a2W few hK
theorem c5E (c:SaysX fa fn fx K):Meets ((tb K).sn N10) ((tb K).G K 10) 1 false (a2y K fun st=>nms st.lines) b10:=by
 rintro m hm ds S KK Y ⟨rfl,L,a,b,c',d,st,rfl,lay,few,hK⟩
 refine ⟨rfl,?_⟩
 show a0b _ b10 [some _] _ _ _
 unfold b10
 lia
 refine a1k lay.L (a0c c) (a0J c) rfl ?_
 lia
 exact b0U lay.b a2W few hK
theorem c5H (c:SaysX fa fn fx K):Meets ((tb K).sn N13) ((tb K).G K 13) 1 false (a2y K fun st=>nms st.pushed) b13:=by
 rintro m hm ds S KK Y ⟨rfl,L,a,b,c',d,st,rfl,lay,few,hK⟩
 refine ⟨rfl,?_⟩
 show a0b _ b13 [some _] _ _ _
 unfold b13
 lia
 refine a1k lay.L (a0c c) (a1E c) rfl ?_
 lia
 exact b0U lay.d a2W few hK
theorem c5i {x y:Str} {k:Int}:Sv.cutD [.str x,.str y,.int k] none (some 2)=[x,y].map D.str:=rfl
theorem c7K {ds:List D} {lo hi:Option Int} {S:SS} {KK:DK} (k:KK (.tup (Sv.cutD ds lo hi)) S):slD (.tup ds) lo hi S KK:=k
def c3O (z:Str):D→Bool
 | .tup [_,.tup [.str x,.str y,_]]=>decide (z∈[x,y])
 | _=>false
def c3Q:D→D
 | .tup [x,_]=>x
 | d=>d
theorem b1Q {st:Lay} {z:Str}:((((a0g fL st.lines).map fun kv=>D.tup [keyV kv.1,kv.2]).filter (c3O z)).map c3Q)=(atR st z).map D.str:=by
 unfold atR nms a0g
 rw [zat,List.filter_map,zat,zat]
 rfl
theorem sub_len {st:Lay} {z:Str}:(atR st z).length≤st.lines.length:=by
 unfold atR nms
 rw [zag]
 exact zbb _ _
theorem c50 (c:SaysX fa fn fx K):Meets ((tb K).sn N33) ((tb K).G K 33) 2 false (a3T K) b33:=by
 refine Qt.put_in ?_
 simp (disch :=
 with_unfolding_all
 refine Qt.keep ?_
 rintro m hm ds S KK Y ⟨rfl,L,a,b,c',d,st,n,z,rfl,hz,lay,ok,here,hK⟩
 refine ⟨rfl,?_⟩
 show a0b _ b33 [some _,some _,none,none] _ _ _
 unfold b33
 have ll:=ok.l
 lia
 refine a0a (T:=a1R) rfl ?_
 lia
 refine a0a (T:=a1a) rfl ?_
 lia
 refine ⟨rfl,z,rfl,hz,?_⟩
 lia
 refine ⟨rfl,_,rfl,?_⟩
 lia
 refine a0a (T:=a2M K) rfl ?_
 lia
 refine a1k lay.L (a0c c) (a0O c) rfl ?_
 lia
 refine ⟨rfl,z,a,_,fU,st.rooms,rfl,lay.a,fun h=>?_,fun h=>absurd here h⟩
 lia
 have apart:L≠b:=fun e=>by have h1:=lay.L;rw [e,lay.b] at h1;cases h1
 refine b6o lay.b ?_
 lia
 refine a1k (by rw [zaa apart];exact lay.L) (a0c c) (a0J c) rfl ?_
 refine ⟨b,_,rfl,zab,?_⟩
 refine a2e c3Q (c3O z) (by rw [zag,a0p,zai];omega) (fun _ _ _=>trivial) (fun p i acc d K1 KN hd hp hk hn=>?_) ?_
 ·unfold a0g at hd
  rw [zat,zbh,zam] at hd
  obtain ⟨⟨l,x,y,k⟩,hl,rfl⟩:=hd
  refine ⟨_,rfl,rfl,b2J ?_⟩
  show a0u _ _ [some _,some _,some (.str l),some (.tup [.str x,.str y,.int k])] _ _ _
  lia
  refine c7K ?_
  rw [c5i]
  refine c1t ?_
  lia
  by_cases e:z∈[x,y]
  ·rw [if_pos (zbg e)]
   lia
   exact hk (zbg e)
  ·rw [if_neg (by rw [zah];exact e)]
   exact hn (zbf e)
 ·rw [b1Q,zac,SS.set_id lay.b]
  exact b71 (by have:=sub_len (st:=st) (z:=z);omega) hK
 ) only [↓Qt.put_off]
theorem a5P {α:Type} {f:α→D} {l:List (Str × α)}:(a0g f l).map (fun kv=>keyV kv.1)=(nms l).map D.str:=by
 unfold a0g nms
 rw [zat,zat]
 rfl
theorem b4G {z:Str} (h:Nm z):z.cps.size≤64:=by
 have:=h.1
 rw [Array.length_toList] at this
 omega
theorem a0v {zs:List Str} {z:Str}:z∈a0l zs↔z∈zs:=(List.mergeSort_perm zs leS).mem_iff
theorem a2u {zs:List Str}:(a0l zs).length=zs.length:=(List.mergeSort_perm zs leS).length_eq
theorem Ok.room {n:Nat} {st:Lay} (h:Ok n st) {z:Str} (hz:z∈nms st.rooms):Nm z:=by
 obtain ⟨q,hq,rfl⟩:=zan.mp hz
 exact h.nr q hq
theorem Ok.line {n:Nat} {st:Lay} (h:Ok n st) {z:Str} (hz:z∈nms st.lines):Nm z:=by
 obtain ⟨q,hq,rfl⟩:=zan.mp hz
 exact (h.nl q hq).1
theorem Ok.drain {n:Nat} {st:Lay} (h:Ok n st) {z:Str} (hz:z∈nms st.drains):Nm z:=by
 obtain ⟨q,hq,rfl⟩:=zan.mp hz
 exact (h.nd q hq).1
theorem Ok.source {n:Nat} {st:Lay} (h:Ok n st) {z:Str} (hz:z∈nms st.pushed):Nm z:=by
 obtain ⟨q,hq,rfl⟩:=zan.mp hz
 exact h.np q hq
theorem b4A {α:Type} {l:List (Str × α)} {z:Str} {q:α} (h:l.lookup z=some q):(z,q)∈l:=by
 induction l with
 | nil=>cases h
 | cons p l ih =>
  obtain ⟨k,v⟩:=p
  rw [List.lookup_cons] at h
  by_cases e:z=k
  ·subst e
   rw [beq_self_eq_true] at h
   cases h
   exact zal
  ·rw [beq_eq_false_iff_ne.mpr e] at h
   exact zao _ (ih h)
theorem a1o.lock {C:Addr} {S:SS} {L a b c d p:Addr} {st:Lay} {kvs:List (Key × D)} (h:a1o C S L a b c d st) (h1:p≠L) (h2:p≠a) (h3:p≠b) (h4:p≠c) (h5:p≠d):a1o C (S.set p (.loc kvs)) L a b c d st :=
 ⟨by rw [zaa h1.symm];exact h.L,by rw [zaa h2.symm];exact h.a,by rw [zaa h3.symm];exact h.b,by rw [zaa h4.symm];exact h.c,by rw [zaa h5.symm];exact h.d⟩
variable {K:zbj}
theorem a07 {G:Gs} {δ:DS} {S:SS} {Y:XD'} {F:SE} {tg:List Nat} {e:RE} (hm:G.m0=none) (h:den G.toGm e δ S Y fun d S1=>a2a tg false d δ S1 F.nx):a0q G (.asg tg false e) δ S Y F:=by rw [a0q];exact ⟨fun _=>hm,h⟩
theorem a4O {G:Gs} {δ:DS} {S:SS} {Y:XD'} {F:SE} {i:Nat} {a:Addr} {ds:List D} {r:RSs} (at_i:δ[i]?=some (some (.obj a))) (at_a:S a=some (.lst ds)) (h:a0b G r (δ.set i (some (.lst ds))) (S.del a) Y F):a0b G (.frz i r) δ S Y F:=by
 rw [a0b]
 exact .inr ⟨a,at_i,.inl ⟨ds,at_a,h⟩⟩
theorem b0V {G:Gs} {δ:DS} {S:SS} {Y:XD'} {F:SE} {i:Nat} {a:Addr} {ds:List (Key × D)} {r:RSs} (at_i:δ[i]?=some (some (.obj a))) (at_a:S a=some (.dic ds)) (h:a0b G r (δ.set i (some (.dic ds))) (S.del a) Y F):a0b G (.frz i r) δ S Y F:=by
 rw [a0b]
 exact .inr ⟨a,at_i,.inr ⟨ds,at_a,h⟩⟩
theorem b1j.nil {rs zs:List Str}:b1j rs zs []:=⟨List.nodup_nil,Nat.zero_le _,fun _ h=>nomatch h⟩
theorem b1j.skip {rs zs:List Str} {z:Str} {ls:List (Str × Str × Str × Int)} (h:b1j rs zs ls):b1j rs (zs ++ [z]) ls :=
 ⟨h.u,by rw [zaw];exact Nat.le_add_right_of_le h.few,fun q hq=>⟨zar _ (h.one q hq).1,(h.one q hq).2⟩⟩
theorem b1j.add {rs zs:List Str} {z x y:Str} {k:Int} {ls:List (Str × Str × Str × Int)} (h:b1j rs zs ls) (new:z∉zs) (hx:x∈rs) (hy:y∈rs) (ne:y≠x) (k0:0≤k) (k1:k≤99):b1j rs (zs ++ [z]) (ls ++ [(z,x,y,k)]):=by
 refine ⟨?_,by rw [zaw,zaw];exact Nat.add_le_add_right h.few 1,fun q hq=>?_⟩
 ·unfold nms
  rw [zav]
  refine List.nodup_append.mpr ⟨h.u,by simp,fun a ha b hb e=>new ?_⟩
  have hb:b=z:=by simpa using hb
  obtain ⟨q,hq,rfl⟩:=zan.mp ha
  rw [← hb,← e]
  exact (h.one q hq).1
 ·rcases zap.mp hq with hq | hq
  ·exact ⟨zar _ (h.one q hq).1,(h.one q hq).2⟩
  ·cases zaj.mp hq
   exact ⟨zas _ (zaj.mpr rfl),hx,hy,ne,k0,k1⟩
theorem a73 {xs:List D} {k:Nat} (h:k≤xs.length):Sv.cutD xs (some (k:Int)) none=xs.drop k:=by
 unfold Sv.cutD
 rw [HT.sIx_none,HT.sIx_nat,Nat.min_eq_left h]
 exact List.take_of_length_le (by rw [List.length_drop];exact Nat.le_refl _)
theorem b5w {w:Wo} {e f:Addr}:valD (mW w e f) (.inr "rooms")=some (.lst ((a0l w.rooms).map D.str)):=rfl
theorem a6g {w:Wo} {e f:Addr}:valD (mW w e f) (.inr "drawn")=some (.lst (w.rooms.map D.str)):=rfl
theorem a1e {w:Wo} {e f:Addr}:valD (mW w e f) (.inr "lines")=some (.obj e):=rfl
theorem a4W {w:Wo} {e f:Addr}:valD (mW w e f) (.inr "sources")=some (.obj f):=rfl
theorem a0K.nd {S:SS} {b q:Addr} {c:Cell} {k:List (Key × D)} (hb:S b=some c) (hc:a0K c) (h:S q=some (.dic k)):q≠b:=fun e=>by
 obtain ⟨x,y,z,cells,rfl,_⟩:=hc
 rw [e,hb] at h
 cases h
theorem a0K.nf {S:SS} {b q:Addr} {c:Cell} {zs:List Str} (hb:S b=some c) (hc:a0K c) (h:S q=some (.lst (zs.map D.str))):q≠b:=fun e=>by
 obtain ⟨x,y,z,cells,rfl,_⟩:=hc
 rw [e,hb] at h
 cases zs with
 | nil=>cases h
 | cons a l=>cases h
theorem MW.bag {S:SS} {M e f b:Addr} {w:Wo} {c c':Cell} (h:MW S M e f w) (hb:S b=some c) (hc:a0K c):MW (S.set b c') M e f w :=
 ⟨h.Me,h.Mf,h.ef,by rw [zaa (hc.nd hb h.M)];exact h.M,by rw [zaa (hc.nd hb h.e)];exact h.e,by rw [zaa (hc.nf hb h.f)];exact h.f⟩
def swD (w:Wo):D→Bool
 | .str z=>match w.lines.lookup z with
  | some q=>decide (0 < q.2.2)
  | none=>false
 | _=>false
theorem a0e {α:Type} {l:List (Str × α)} (h:(nms l).Nodup) {q:Str × α} (hq:q∈l):l.lookup q.1=some q.2:=by
 induction l with
 | nil=>cases hq
 | cons p l ih =>
  have h':=zbd.mp (show (p.1 :: nms l).Nodup from h)
  rw [List.lookup_cons]
  rcases zau.mp hq with rfl | hq
  ·rw [beq_self_eq_true]
  ·have ne:q.1≠p.1:=fun e=>h'.1 (by rw [← e];exact zan.mpr ⟨q,hq,rfl⟩)
   rw [beq_eq_false_iff_ne.mpr ne]
   exact ih h'.2 hq
theorem a6A {α:Type} {f:α→D} {l:List (Str × α)} {i:Nat} {d:D} (h:((a0g f l).map fun kv=>keyV kv.1)[i]?=some d):∃ q,d=.str q.1∧l[i]?=some q:=by
 rw [a5P] at h
 unfold nms at h
 rw [zat,zbh,zam] at h
 obtain ⟨q,hq,rfl⟩:=h
 exact ⟨q,rfl,hq⟩
theorem b5s {w:Wo} (ok:a03 w):((((a0g fL w.lines).map fun kv=>keyV kv.1).filter (swD w)).map id)=(a08 w).map D.str:=by
 rw [List.map_id,a5P,List.filter_map]
 unfold a08
 refine congrArg (List.map D.str) ?_
 show ((w.lines.map (·.1)).filter (swD w ∘ D.str))=(w.lines.filter fun q=>decide (0 < q.2.2.2)).map (·.1)
 rw [List.filter_map]
 refine congrArg (fun l:List (Str × Str × Str × Int)=>l.map (·.1)) (List.filter_congr fun q hq=>?_)
 show swD w (.str q.1)=_
 simp only [swD,a0e ok.lu hq]
variable {K:zbj}
theorem a1o.bag {C:Addr} {S:SS} {L a b c d g:Addr} {st:Lay} {x x':Cell} (h:a1o C S L a b c d st) (hg:S g=some x) (hx:a0K x):a1o C (S.set g x') L a b c d st:=by
 have nL:L≠g:=fun e=>by
  obtain ⟨_,_,_,_,rfl,_⟩:=hx
  have:=h.L
  rw [e,hg] at this
  cases this
 exact ⟨by rw [zaa nL];exact h.L,by rw [zaa (hx.nd hg h.a)];exact h.a,by rw [zaa (hx.nd hg h.b)];exact h.b,by rw [zaa (hx.nd hg h.c)];exact h.c,by rw [zaa (hx.nd hg h.d)];exact h.d⟩
theorem a3E.bag {C:Addr} {S:SS} {L a b c d g:Addr} {st:Lay} {x x':Cell} (h:a3E C S L a b c d st) (hg:S g=some x) (hx:a0K x):a3E C (S.set g x') L a b c d st:=⟨h.s.bag hg hx,h.ab,h.ac,h.ad,h.bc,h.bd,h.cd⟩
theorem a1o.ne {C:Addr} {S:SS} {L a b c d q:Addr} {st:Lay} {k:List (Key × D)} (h:a1o C S L a b c d st) (hq:S q=some (.dic k)):L≠q:=fun e=>by
 have:=h.L
 rw [e,hq] at this
 cases this
theorem a3E.rooms {C:Addr} {S:SS} {L a b c d:Addr} {st:Lay} (h:a3E C S L a b c d st) (x:List (Str × Unit)):a3E C (S.set a (.dic (a0g fU x))) L a b c d { st with rooms:=x } :=
 ⟨⟨by rw [zaa (h.s.ne h.s.a)];exact h.s.L,zab,by rw [zaa h.ab.symm];exact h.s.b,by rw [zaa h.ac.symm];exact h.s.c,by rw [zaa h.ad.symm];exact h.s.d⟩,h.ab,h.ac,h.ad,h.bc,h.bd,h.cd⟩
theorem a3E.lines {C:Addr} {S:SS} {L a b c d:Addr} {st:Lay} (h:a3E C S L a b c d st) (x:List (Str × Str × Str × Int)):a3E C (S.set b (.dic (a0g fL x))) L a b c d { st with lines:=x } :=
 ⟨⟨by rw [zaa (h.s.ne h.s.b)];exact h.s.L,by rw [zaa h.ab];exact h.s.a,zab,by rw [zaa h.bc.symm];exact h.s.c,by rw [zaa h.bd.symm];exact h.s.d⟩,h.ab,h.ac,h.ad,h.bc,h.bd,h.cd⟩
theorem a3E.drains {C:Addr} {S:SS} {L a b c d:Addr} {st:Lay} (h:a3E C S L a b c d st) (x:List (Str × Str)):a3E C (S.set c (.dic (a0g fS x))) L a b c d { st with drains:=x } :=
 ⟨⟨by rw [zaa (h.s.ne h.s.c)];exact h.s.L,by rw [zaa h.ac];exact h.s.a,by rw [zaa h.bc];exact h.s.b,zab,by rw [zaa h.cd.symm];exact h.s.d⟩,h.ab,h.ac,h.ad,h.bc,h.bd,h.cd⟩
theorem a3E.pushed {C:Addr} {S:SS} {L a b c d:Addr} {st:Lay} (h:a3E C S L a b c d st) (x:List (Str × Unit)):a3E C (S.set d (.dic (a0g fU x))) L a b c d { st with pushed:=x } :=
 ⟨⟨by rw [zaa (h.s.ne h.s.d)];exact h.s.L,by rw [zaa h.ad];exact h.s.a,by rw [zaa h.bd];exact h.s.b,by rw [zaa h.cd];exact h.s.c,zab⟩,h.ab,h.ac,h.ad,h.bc,h.bd,h.cd⟩
theorem a3E.off {C:Addr} {S:SS} {L a b c d q:Addr} {st:Lay} {x:Cell} (h:a3E C S L a b c d st) (h1:q≠L) (h2:q≠a) (h3:q≠b) (h4:q≠c) (h5:q≠d):a3E C (S.set q x) L a b c d st :=
 ⟨⟨by rw [zaa h1.symm];exact h.s.L,by rw [zaa h2.symm];exact h.s.a,by rw [zaa h3.symm];exact h.s.b,by rw [zaa h4.symm];exact h.s.c,by rw [zaa h5.symm];exact h.s.d⟩,h.ab,h.ac,h.ad,h.bc,h.bd,h.cd⟩
theorem a1o.put {C:Addr} {S:SS} {L a b c d:Addr} (aL:a≠L) (bL:b≠L) (cL:c≠L) (dL:d≠L) (ab:a≠b) (ac:a≠c) (ad:a≠d) (bc:b≠c) (bd:b≠d) (cd:c≠d):a3E C (b1g C S L a b c d) L a b c d lay0:=by
 refine ⟨⟨?_,?_,?_,?_,?_⟩,ab,ac,ad,bc,bd,cd⟩ <;> unfold b1g <;> simp [aL,bL,cL,dL,ab.symm,ac.symm,ad.symm,bc.symm,bd.symm,cd.symm,lay0,a0g]
theorem a2v {zs:List Str} {z:Str}:units (zs ++ [z])=units zs ++ [(z,())]:=by unfold units;rw [zav];rfl
theorem take_snoc {α:Type} {l:List α} {i:Nat} {x:α} (h:l[i]?=some x):l.take (i + 1)=l.take i ++ [x]:=by rw [List.take_add_one,h];rfl
theorem a6J {l:List Str} {i:Nat} {z:Str} (u:l.Nodup) (h:l[i]?=some z):z∉l.take i:=fun hm=>by
 obtain ⟨j,hj⟩:=List.mem_iff_getElem?.mp hm
 have hji:j < i:=by have:=(List.getElem?_eq_some_iff.mp hj).1;rw [List.length_take] at this;omega
 rw [List.getElem?_take_of_lt hji] at hj
 have:=(List.getElem?_inj (List.getElem?_eq_some_iff.mp hj).1 u).mp (hj.trans h.symm)
 omega
theorem a8r {α:Type} {l:List (Str × α)} {i:Nat}:nms (l.take i)=(nms l).take i:=List.map_take
theorem a6K {α:Type} {l:List (Str × α)} {i:Nat} {q:Str × α} (h:l[i]?=some q):(nms l)[i]?=some q.1:=by unfold nms;rw [zbh,h];rfl
def part (w:Wo) (i j k n:Nat):Lay:=⟨units (w.rooms.take i),w.lines.take k,w.drains.take j,units (w.srcs.take n),false⟩
theorem a7G {w:Wo} {i j k n:Nat} (ok:a03 w) (h:n=0∨w.rooms.length≤i):Ok 0 (part w i j k n):=by
 have ok0:=ok.ok
 refine ⟨by show (units _).length≤24;unfold units;rw [zag,List.length_take];have:=ok.r;omega,by show (w.lines.take k).length≤40;rw [List.length_take];have:=ok.l;omega,by show (w.drains.take j).length≤12;rw [List.length_take];have:=ok.d;omega,
  by show (nms (units _)).Nodup;rw [a0j];exact ok.su.sublist (List.take_sublist _ _),fun q hq=>?_,fun q hq=>ok0.nl q (List.mem_of_mem_take hq),fun q hq=>ok0.nd q (List.mem_of_mem_take hq),fun q hq=>?_,by show (nms (w.lines.take k)).Nodup;rw [a8r];exact ok.lu.sublist (List.take_sublist _ _),fun z hz=>?_⟩
 ·obtain ⟨z,hz,rfl⟩:=zan.mp hq
  exact ok.rn z (List.mem_of_mem_take hz)
 ·obtain ⟨z,hz,rfl⟩:=zan.mp hq
  exact ok.rn z (ok.s z (List.mem_of_mem_take hz))
 ·have hz:z∈nms (units (w.srcs.take n)):=hz
  show z∈nms (units (w.rooms.take i))
  rw [a0j] at hz ⊢
  rcases h with rfl | h
  ·simp at hz
  ·rw [List.take_of_length_le h]
   exact ok.s z (List.mem_of_mem_take hz)
theorem a0S {α:Type} {l:List (Str × α)}:(nms l).length=l.length:=zag ..
structure Ld (C:Addr) (S S':SS) (L a b c d M e f:Addr) (w:Wo) (st:Lay) (ke:Cell):Prop where
 nw:∀ q,S q≠none→q≠L∧q≠a∧q≠b∧q≠c∧q≠d
 mw:MW S M e f w
 lay:a3E C S' L a b c d st
 at_M:S' M=some (.dic (mW w e f))
 at_e:S' e=some ke
 rest:∀ q,S q≠none→q≠e→S' q=S q
section
variable {C:Addr} {S S':SS} {L a b c d M e f:Addr} {w:Wo} {st:Lay} {ke:Cell}
theorem Ld.set (h:Ld C S S' L a b c d M e f w st ke) {q:Addr} {x:Cell} {st':Lay} (hq:q=L∨q=a∨q=b∨q=c∨q=d) (l:a3E C (S'.set q x) L a b c d st'):Ld C S (S'.set q x) L a b c d M e f w st' ke:=by
 have ne:∀ {r:Addr},S r≠none→r≠q:=fun {r} hr=>by
  obtain ⟨h1,h2,h3,h4,h5⟩:=h.nw r hr
  rcases hq with rfl | rfl | rfl | rfl | rfl <;> assumption
 have th:∀ {r:Addr} {y:Cell},S r=some y→S r≠none:=fun h z=>by rw [h] at z;cases z
 exact ⟨h.nw,h.mw,l,by rw [zaa (ne (th h.mw.M))];exact h.at_M,by rw [zaa (ne (th h.mw.e))];exact h.at_e,fun r hr h1=>by rw [zaa (ne hr)];exact h.rest r hr h1⟩
theorem Ld.sete (h:Ld C S S' L a b c d M e f w st ke) (k:Cell):Ld C S (S'.set e k) L a b c d M e f w st k:=by
 obtain ⟨h1,h2,h3,h4,h5⟩:=h.nw e (by rw [h.mw.e];exact fun z=>nomatch z)
 exact ⟨h.nw,h.mw,h.lay.off h1 h2 h3 h4 h5,by rw [zaa h.mw.Me];exact h.at_M,zab,fun r hr n1=>by rw [zaa n1];exact h.rest r hr n1⟩
theorem Ld.grows (h:Ld C S S' L a b c d M e f w st (.dic (a0g fL w.lines))):Grows S S':=fun q hq=>by
 by_cases h1:q=e
 ·rw [h1,h.at_e,h.mw.e]
 ·exact h.rest q hq h1
end
variable {K:zbj}
theorem c1Q {a b c d u:Int} (h0:0≤u) (h1:u < 4):∃ n,atI [D.int a,.int b,.int c,.int d] u=some (.int n)∧((u=0∧n=a)∨(u=1∧n=b)∨(u=2∧n=c)∨(u=3∧n=d)):=by
 obtain rfl | rfl | rfl | rfl:u=0∨u=1∨u=2∨u=3:=by omega
 ·exact ⟨_,rfl,.inl ⟨rfl,rfl⟩⟩
 ·exact ⟨_,rfl,.inr (.inl ⟨rfl,rfl⟩)⟩
 ·exact ⟨_,rfl,.inr (.inr (.inl ⟨rfl,rfl⟩))⟩
 ·exact ⟨_,rfl,.inr (.inr (.inr ⟨rfl,rfl⟩))⟩
theorem pairs_of {α:Type} {f:α→D} (l:List (Str × α)):a5u (l.map fun q=>.tup [.str q.1,f q.2])=some (a0g f l):=by
 induction l with
 | nil=>rfl
 | cons q l ih=>simp only [zax,a5u,keyD,ih];rfl
theorem a6G:∀ {kvs acc:List (Key × D)},(kvs.map (·.1)).Nodup→(∀ q∈kvs,q.1∉acc.map (·.1))→a0L acc kvs=acc ++ kvs
 | [],acc,_,_=>by unfold a0L;simp
 | (k,v) :: kvs,acc,u,off=>by
  have u':=zbd.mp (show (k :: kvs.map (·.1)).Nodup from u)
  have new:¬ (acc.any fun kv=>decide (kv.1=k))=true:=fun e=>by
   rw [List.any_eq_true] at e
   obtain ⟨q,hq,e⟩:=e
   exact off (k,v) zal (zan.mpr ⟨q,hq,of_decide_eq_true e⟩)
  have e1:putD acc k v=acc ++ [(k,v)]:=by unfold putD;rw [if_neg new]
  show a0L (putD acc k v) kvs=_
  rw [e1,a6G u'.2 fun q hq h=>?_]
  ·simp
  ·rw [zav] at h
   rcases zap.mp h with h | h
   ·exact off q (zao _ hq) h
   ·have e:q.1=k:=by simpa using h
    exact u'.1 (by rw [← e];exact zan.mpr ⟨q,hq,rfl⟩)
theorem b0l {α:Type} {f:α→D} {l:List (Str × α)} (u:(nms l).Nodup):a0L [] (a0g f l)=a0g f l:=by
 have:=a6G (kvs:=a0g f l) (acc:=[]) (by
  rw [a4x]
  refine List.pairwise_map.mpr (List.Pairwise.imp (fun {a b} h e=>h (Sum.inr.inj e)) u)) (fun q _ h=>by simp at h)
 rwa [List.nil_append] at this
theorem a9L {α:Type} {f:α→D} {S:SS} {KK:DK} {l:List (Str × α)} (u:(nms l).Nodup) (k:∀ p,S p=none→KK (.obj p) (S.set p (.dic (a0g f l)))):(Bn.dcp true).den [.lst (l.map fun q=>.tup [.str q.1,f q.2])] S KK :=
 ⟨_,_,rfl,pairs_of l,by unfold outK;rw [if_pos rfl,b0l u];exact k⟩
variable {K:zbj}
theorem c5G (c:SaysX fa fn fx K):Meets ((tb K).sn N12) ((tb K).G K 12) 2 false a1b b12:=by
 rintro m hm ds S KK Y ⟨rfl,x,rfl,hK⟩
 refine ⟨rfl,?_⟩
 show a0b _ b12 [some _,some _] _ _ _
 unfold b12
 lia
 rw [if_neg (by decide)]
 lia
 exact hK
theorem b4n {G:Gm} {S:SS} {zs:List D} {Q:Bool→Prop} (k:Q true):∃ t b,tyD S (.lst zs)=some t∧a7d G S (.lst zs)∧PySem.W.kitOne G.K t ((Cn.ty "list").val G)=some b∧Q b:=a94 rfl trivial rfl k
theorem c5W (c:SaysX fa fn fx K):Meets ((tb K).sn N29) ((tb K).G K 29) 1 false a1y b29:=by
 refine Qt.put_in ?_
 simp (disch :=
 with_unfolding_all
 refine Qt.keep ?_
 rintro m hm ds S KK Y ⟨rfl,zs,rfl,u,nm,few,hK⟩
 refine ⟨rfl,?_⟩
 show a0b _ b29 [some _,none,none] _ _ _
 unfold b29
 lia
 refine b4n ?_
 lia
 rw [if_neg (by decide)]
 lia
 rw [if_neg (by rw [zah,zag];omega)]
 lia
 refine a2S fun p fp=>?_
 lia
 refine ⟨_,rfl,?_⟩
 refine ⟨fun i δ' S'=>∃ x,S'=S.set p (.dic (a0g fU (units (zs.take i))))∧δ'=[some (.lst (zs.map D.str)),some (.obj p),x],⟨none,rfl,rfl⟩,fun _ _ _ _ _=>rfl,?_,?_⟩
 ·rintro i d δ' S' hd ⟨x,rfl,rfl⟩
  rw [zbh,zam] at hd
  obtain ⟨z,hz,rfl⟩:=hd
  have nw:=a6J u hz
  have nw':z∉nms (units (zs.take i)):=by rw [a0j];exact nw
  refine a1O ?_
  lia
  refine b8B (T:=a1a) rfl ?_
  lia
  refine ⟨rfl,z,rfl,nm z (zaq hz),?_⟩
  lia
  rw [if_neg (by decide)]
  lia
  refine b4j zab rfl ?_
  rw [a01]
  lia
  rw [if_neg (by rw [zah];exact nw')]
  lia
  refine a3i zab rfl (by rw [a0p,zai];unfold units;rw [zag,List.length_take];omega) ?_
  rw [zac,show (D.bl true)=fU () from rfl,a0T nw',← a2v,← take_snoc hz]
  lia
  exact ⟨_,rfl,rfl⟩
 ·rintro δ' S' ⟨x,rfl,rfl⟩
  refine b0V rfl zab ?_
  rw [zaf fp]
  lia
  exact hK
 ) only [↓Qt.put_off]
theorem c6a (c:SaysX fa fn fx K):Meets ((tb K).sn N43) ((tb K).G K 43) 1 false a2j b43:=by
 refine Qt.put_in ?_
 simp (disch :=
 with_unfolding_all
 refine Qt.keep ?_
 rintro m hm ds S KK Y ⟨rfl,zs,rfl,u,nm,ne,few,hK⟩
 refine ⟨rfl,?_⟩
 show a0b _ b43 [some _] _ _ _
 unfold b43
 have l1:1≤zs.length:=List.length_pos_iff.mpr ne
 lia
 refine a0a (T:=a1y) rfl ?_
 lia
 refine ⟨rfl,zs,rfl,u,nm,by omega,?_⟩
 lia
 rw [if_pos rfl]
 lia
 rw [if_pos (by rw [zah,zag];omega)]
 lia
 rw [zbg (by rw [zag];omega)]
 exact hK
 ) only [↓Qt.put_off]
theorem c6d (c:SaysX fa fn fx K):Meets ((tb K).sn N46) ((tb K).G K 46) 2 false (a3t K) b46:=by
 refine Qt.put_in ?_
 simp (disch :=
 with_unfolding_all
 refine Qt.keep ?_
 rintro m hm ds S KK Y ⟨rfl,L,a,b,c',d,st,n,zs,rfl,lay,ok,few,hz,hK⟩
 refine ⟨rfl,?_⟩
 show a0b _ b46 [some _,some _,none,none] _ _ _
 unfold b46
 have ll:=ok.l
 have nl:(nms st.lines).length=st.lines.length:=zag ..
 lia
 refine a4l (T:=a2y K fun st=>nms st.lines) rfl ?_
 lia
 refine a4A lay.L rfl ?_
 lia
 refine ⟨rfl,L,a,b,c',d,st,rfl,lay,by show (nms st.lines).length < 64;omega,?_⟩
 lia
 refine ⟨_,rfl,?_⟩
 refine ⟨fun i δ' S'=>∃ x,S'=S∧δ'=[some (.obj L),some (.lst (zs.map D.str)),some (.lst ((a0l (nms st.lines)).map D.str)),x],⟨none,rfl,rfl⟩,fun _ _ _ _ _=>rfl,?_,?_⟩
 ·rintro i d0 δ' S' hd ⟨x,rfl,rfl⟩
  rw [zbh,zam] at hd
  obtain ⟨z,hzi,rfl⟩:=hd
  obtain ⟨q,hq,hc⟩:=hz z (zaq hzi)
  have mz:=a1m hq
  refine a1O ?_
  lia
  refine a83 (ok.line mz).fine (fun w hw=>(ok.line (a0v.mp hw)).fine) ?_
  lia
  rw [if_neg (by simpa using a0v.mpr mz)]
  lia
  refine a4l (T:=a7h K) rfl ?_
  lia
  refine a4A lay.L rfl ?_
  lia
  refine ⟨rfl,L,a,b,c',d,st,z,q,rfl,ok.line mz,lay,hq,?_⟩
  lia
  refine a80 (d:=.int q.2.2) rfl ?_
  lia
  rw [if_neg (by rw [zah];exact hc)]
  lia
  exact ⟨_,rfl,rfl⟩
 ·rintro δ' S' ⟨x,rfl,rfl⟩
  lia
  exact hK
 ) only [↓Qt.put_off]
theorem c5Z (c:SaysX fa fn fx K):Meets ((tb K).sn N32) ((tb K).G K 32) 2 false (a06 K) b32:=by
 refine Qt.put_in ?_
 simp (disch :=
 with_unfolding_all
 refine Qt.keep ?_
 rintro m hm ds S KK Y ⟨rfl,L,a,b,c',d,st,n,zs,rfl,lay,ok,few,hz,hK⟩
 refine ⟨rfl,?_⟩
 show a0b _ b32 [some _,some _,none,none] _ _ _
 unfold b32
 have lr:=ok.r
 have nl:(nms st.rooms).length=st.rooms.length:=zag ..
 lia
 refine a4l (T:=a2y K fun st=>nms st.rooms) rfl ?_
 lia
 refine a4A lay.L rfl ?_
 lia
 refine ⟨rfl,L,a,b,c',d,st,rfl,lay,by show (nms st.rooms).length < 64;omega,?_⟩
 lia
 refine ⟨_,rfl,?_⟩
 refine ⟨fun i δ' S'=>∃ x,S'=S∧δ'=[some (.obj L),some (.lst (zs.map D.str)),some (.lst ((a0l (nms st.rooms)).map D.str)),x],⟨none,rfl,rfl⟩,fun _ _ _ _ _=>rfl,?_,?_⟩
 ·rintro i d0 δ' S' hd ⟨x,rfl,rfl⟩
  rw [zbh,zam] at hd
  obtain ⟨z,hzi,rfl⟩:=hd
  have mz:=hz z (zaq hzi)
  refine a1O ?_
  lia
  refine a83 (ok.room mz).fine (fun w hw=>(ok.room (a0v.mp hw)).fine) ?_
  lia
  rw [if_neg (by simpa using a0v.mpr mz)]
  lia
  exact ⟨_,rfl,rfl⟩
 ·rintro δ' S' ⟨x,rfl,rfl⟩
  lia
  exact hK
 ) only [↓Qt.put_off]
theorem c6e (c:SaysX fa fn fx K):Meets ((tb K).sn N47) ((tb K).G K 47) 3 false (a7X K) b47:=by
 refine Qt.put_in ?_
 simp (disch :=
 with_unfolding_all
 refine Qt.keep ?_
 rintro m hm ds S KK Y ⟨rfl,L,a,b,c',d,st,l,x,y,k,r,rfl,nl,lay,look,hK⟩
 refine ⟨rfl,?_⟩
 show a0b _ b47 [some _,some _,some _,none,none,none] _ _ _
 unfold b47
 lia
 refine a07 rfl ?_
 lia
 refine a4l (T:=a7h K) rfl ?_
 lia
 refine a4A lay.L rfl ?_
 lia
 refine ⟨rfl,L,a,b,c',d,st,l,(x,y,k),rfl,nl,lay,look,?_⟩
 refine ⟨_,rfl,rfl,?_⟩
 show a0b _ _ [some (.obj L),some (.str l),some (.str r),some (.str x),some (.str y),some (.int k)] _ _ _
 lia
 by_cases h:x=r
 ·rw [if_pos (zbg h)]
  rw [if_pos h] at hK
  lia
  exact hK
 ·rw [if_neg (by rw [zah];exact h)]
  rw [if_neg h] at hK
  lia
  exact hK
 ) only [↓Qt.put_off]
theorem a6W {G:Gs} {δ:DS} {S:SS} {Y:XD'} {F:SE} {c0:RE} {b:RSs} (Iv:Nat→DS→SS→Prop) {m0:Nat} (h0:Iv m0 δ S) (h:∀ m δ' S',Iv m δ' S'→a0u G.toGm c0 δ' S' Y fun k S1 =>
   if k=true then a0b G b δ' S1 Y { F with nx:=fun δ2 S2=>∃ m',m' < m∧Iv m' δ2 S2,ct:=fun δ2 S2=>∃ m',m' < m∧Iv m' δ2 S2,bk:=F.nx } else F.nx δ' S1):a0q G (.wh c0 b) δ S Y F:=by
 rw [a0q];exact ⟨Iv,⟨m0,h0⟩,h⟩
theorem b2T {S:SS} {KK:DK} {ds:List D} (k:∀ p,S p=none→KK (.obj p) (S.set p (.lst ds))):(Bn.lst true).den [.lst ds] S KK:=⟨ds,.inl rfl,by rw [if_pos rfl];exact k⟩
def b1e (n:Nat):D:=.int n
theorem a2m {q:Str × Str × Str × Int} {x y:Str} (ne:q.2.2.1≠q.2.1) (h:a1Y q x y):(if q.2.1=x then q.2.2.1 else q.2.1)=y:=by
 rcases h with ⟨rfl,rfl⟩ | ⟨rfl,rfl⟩
 ·rw [if_pos rfl]
 ·rw [if_neg (Ne.symm ne)]
theorem b2H {st:Lay} {z l:Str} (h:l∈atR st z):∃ q∈st.lines,q.1=l∧z∈[q.2.1,q.2.2.1]:=by
 obtain ⟨q,hq,rfl⟩:=zan.mp h
 obtain ⟨h1,h2⟩:=zay.mp hq
 exact ⟨q,h1,rfl,of_decide_eq_true h2⟩
theorem b2R {st:Lay} {q:Str × Str × Str × Int} {z:Str} (h:q∈st.lines) (e:z∈[q.2.1,q.2.2.1]):q.1∈atR st z:=zan.mpr ⟨q,zay.mpr ⟨h,zbg e⟩,rfl⟩
def StD (S:SS) (p q:Addr) (R:List (Str × Nat)):SS:=(S.set p (.dic (a0g b1e R))).set q (.lst ((nms R).map D.str))
theorem c6j (c:SaysX fa fn fx K):Meets ((tb K).sn N52) ((tb K).G K 52) 3 false (b3y K) b52:=by
 refine Qt.put_in ?_
 simp (disch :=
 with_unfolding_all
 refine Qt.keep ?_
 rintro m hm ds S KK Y ⟨rfl,L,a,b,c',d,w,shut,rs,rfl,lay,ok,snm,sub,ru,hK⟩
 refine ⟨rfl,?_⟩
 show a0b _ b52 [some _,some _,some _,none,none,none,none,none,none,none] _ _ _
 unfold b52
 have ok0:=ok.ok
 have lr:=ok.r
 have few0:rs.length≤24:=Nat.le_trans (a0C ru sub) lr
 lia
 refine ⟨_,rfl,?_⟩
 refine a2e (fun x=>.tup [x,.int 0]) (fun _=>true) (by rw [zag,zai];omega) (fun _ _ _=>rfl) (fun p i acc d0 K1 KN hd hp hk hn=>?_) ?_
 ·refine a1O (b1c ?_)
  rw [if_pos rfl]
  show den _ _ [some _,some _,some _,none,none,none,none,none,none,some d0] _ _ _
  lia
  exact hk rfl
 have e0:(((rs.map D.str).filter fun _=>true).map fun x=>D.tup [x,.int 0])=(rs.map fun z=>(z,0)).map fun q:Str × Nat=>D.tup [.str q.1,b1e q.2]:=by
  rw [zbc.mpr (fun _ _=>rfl),zat,zat]
  rfl
 rw [e0]
 have e1:nms (rs.map fun z=>((z,0):Str × Nat))=rs:=by
  unfold nms
  rw [zat]
  exact List.map_id' _
 lia
 refine a9L (f:=b1e) (by rw [e1];exact ru) fun p fp=>?_
 lia
 refine b2T fun q fq=>?_
 have pq:p≠q:=zad zab fq
 have fq0:S q=none:=by rw [zaa pq.symm] at fq;exact fq
 have at_p:∀ {R:List (Str × Nat)},StD S p q R p=some (.dic (a0g b1e R)):=fun {R}=>by unfold StD;rw [zaa pq];exact zab
 have at_q:∀ {R:List (Str × Nat)},StD S p q R q=some (.lst ((nms R).map D.str)):=fun {R}=>zab
 have off:∀ {x:Addr} {y:Cell} {R:List (Str × Nat)},S x=some y→StD S p q R x=some y:=fun {x y R} h=>by
  have h1:x≠p:=zad h fp
  have h2:x≠q:=zad h fq0
  unfold StD
  rw [zaa h2,zaa h1]
  exact h
 have layR:∀ {R:List (Str × Nat)},a1o (lc K) (StD S p q R) L a b c' d w.lay:=fun {R}=>⟨off lay.L,off lay.a,off lay.b,off lay.c,off lay.d⟩
 have eS:(S.set p (.dic (a0g b1e (rs.map fun z=>(z,0))))).set q (.lst (rs.map D.str))=StD S p q (rs.map fun z=>(z,0)):=by
  unfold StD
  rw [e1]
 rw [eS]
 lia
 refine a6W (fun mm δ' S'=>∃ R k x1 x2 x3,Bfs w shut rs R k []∧k≤R.length∧mm=24 - k∧S'=StD S p q R∧δ'=[some (.obj L),some (.lst (shut.map D.str)),some (.lst (rs.map D.str)),some (.obj p),some (.obj q),some (.int (k:Nat)),x1,x2,x3,none]) ⟨_,0,none,none,none,.start ru,Nat.zero_le _,rfl,rfl,rfl⟩ ?_
 rintro mm δ' S' ⟨R,k,x1,x2,x3,bf,kl,rfl,rfl,rfl⟩
 have few:=bf.few ok sub
 lia
 refine b4v at_q ?_
 lia
 by_cases hk:k < R.length
 ·rw [if_pos (by rw [zah,zag,a0S];omega)]
  obtain ⟨z,dz,hz⟩:∃ z dz,R[k]?=some (z,dz):=⟨R[k].1,R[k].2,zbi hk⟩
  have mz:=zaq hz
  have rz:z∈w.rooms:=Reach.room (w:=w) (shut:=shut) ok sub ⟨_,bf.lev _ mz⟩
  have nz:=ok.rn z rz
  lia
  refine a8Z at_q (a1K (a6K hz)) ?_
  lia
  refine a4l (T:=a3T K) rfl ?_
  lia
  refine a4A layR.L rfl ?_
  lia
  refine ⟨rfl,L,a,b,c',d,w.lay,0,z,rfl,nz,layR,ok0,by show z∈nms (units w.rooms);rw [a0j];exact rz,?_⟩
  refine ⟨_,rfl,?_⟩
  refine ⟨fun i δ' S'=>∃ R x2 x3,Bfs w shut rs R k ((a0l (atR w.lay z)).take i)∧R[k]?=some (z,dz)∧S'=StD S p q R∧δ'=[some (.obj L),some (.lst (shut.map D.str)),some (.lst (rs.map D.str)),some (.obj p),some (.obj q),some (.int (k:Nat)),some (.str z),x2,x3,none],⟨R,_,_,bf,hz,rfl,rfl⟩,fun _ _ _ _ _=>rfl,?_,?_⟩
  ·rintro i d0 δ' S' hd ⟨R,x2,x3,bf,hz,rfl,rfl⟩
   rw [zbh,zam] at hd
   obtain ⟨l,hl,rfl⟩:=hd
   have few:=bf.few ok sub
   have ml:=a0v.mp (zaq hl)
   obtain ⟨⟨l',x,y,kk⟩,hq,rfl,hzq⟩:=b2H ml
   have hq:(l',x,y,kk)∈w.lines:=hq
   obtain ⟨nl,rx,ry,ne,k0,k1⟩:=ok.ln _ hq
   have look:w.lay.lines.lookup l'=some (x,y,kk):=a0e ok.lu hq
   have one:∀ r∈w.lines,r.1=l'→r=(l',x,y,kk):=fun r hr e=>by
    have h1:=a0e ok.lu hr
    rw [e,a0e ok.lu hq] at h1
    have h2:=Option.some.inj h1
    exact Prod.ext e h2.symm
   have et2:(a0l (atR w.lay z)).take (i + 1)=(a0l (atR w.lay z)).take i ++ [l']:=take_snoc hl
   refine a1O ?_
   lia
   refine a0a (T:=a7X K) rfl ?_
   lia
   refine ⟨rfl,L,a,b,c',d,w.lay,l',x,y,kk,z,rfl,nl,layR,look,?_⟩
   obtain ⟨there,et⟩:∃ t,(if x=z then y else x)=t:=⟨_,rfl⟩
   rw [et]
   have e2:a1Y (l',x,y,kk) z there:=by
    rcases zau.mp hzq with e | e
    ·have e:z=x:=e
     subst e
     rw [if_pos rfl] at et
     exact .inl ⟨rfl,et⟩
    ·have e:z=y:=zaj.mp e
     subst e
     rw [if_neg (Ne.symm ne)] at et
     exact .inr ⟨rfl,et⟩
   have only:∀ r∈w.lines,r.1=l'→∀ t,a1Y r z t→t=there:=fun r hr e t h=>by
    rw [one r hr e] at h
    exact (a2m ne h).symm.trans et
   lia
   refine a83 nl.fine (fun s hs=>(snm s hs).fine) ?_
   lia
   by_cases hs:l'∈shut
   ·rw [if_neg (by simpa using hs)]
    rw [if_neg (by decide)]
    lia
    exact ⟨R,_,_,by rw [et2];exact bf.skip fun p' hp r hr e hns=>absurd (e ▸ hs) hns,hz,rfl,rfl⟩
   ·rw [if_pos (by simpa using hs)]
    lia
    refine a82 at_p rfl ?_
    rw [a01]
    lia
    by_cases ht:there∈nms R
    ·rw [if_neg (by simpa using ht)]
     lia
     refine ⟨R,_,_,?_,hz,rfl,rfl⟩
     rw [et2]
     refine bf.skip fun p' hp r hr e hns t h=>?_
     rw [hz] at hp
     cases hp
     rw [only r hr e t h]
     exact ht
    ·rw [if_pos (by simpa using ht)]
     lia
     refine a1I at_p rfl (by rw [a0s,a0e bf.u (zaq hz)];rfl) ?_
     lia
     show opD .Add (.int (dz:Nat)) (.int 1) _ _
     lia
     refine a3i at_p rfl (by rw [a0p,zai];omega) ?_
     rw [show D.int ((dz:Int) + 1)=b1e (dz + 1) from by unfold b1e;congr 1,a0T ht]
     lia
     have at_q2:((StD S p q R).set p (.dic (a0g b1e (R ++ [(there,dz + 1)])))) q=some (.lst ((nms R).map D.str)):=by rw [zaa pq.symm];exact at_q
     refine ⟨a88 at_q2,?_⟩
     lia
     refine a3O at_q2 (by rw [zag,a0S,zai];omega) ?_
     have e3:((StD S p q R).set p (.dic (a0g b1e (R ++ [(there,dz + 1)])))).set q (.lst ((nms R).map D.str ++ [.str there]))=StD S p q (R ++ [(there,dz + 1)]):=by
      unfold StD
      rw [zae pq.symm,zac,zac]
      unfold nms
      rw [zav,zav]
      rfl
     rw [e3]
     lia
     exact ⟨_,_,_,by rw [et2];exact bf.add hz ⟨_,hq,hs,e2⟩ ht fun r hr e t h=>only r hr e t h,by rw [List.getElem?_append_left (List.getElem?_eq_some_iff.mp hz).1];exact hz,rfl,rfl⟩
  ·rintro δ' S' ⟨R,x2,x3,bf,hz,rfl,rfl⟩
   rw [zag,List.take_length] at bf
   have few:=bf.few ok sub
   have hk:=(List.getElem?_eq_some_iff.mp hz).1
   lia
   refine b3g rfl ?_
   lia
   refine ⟨24 - (k + 1),by omega,R,k + 1,some (.str z),x2,x3,bf.next hz fun r hr t h=>a0v.mpr (b2R hr ?_),by omega,rfl,rfl,?_⟩
   ·rcases h with ⟨h,_⟩ | ⟨h,_⟩
    ·rw [h];exact zal
    ·rw [h];exact zao _ zal
   ·rfl
 ·rw [if_neg (by rw [zah,zag,a0S];omega)]
  have e4:k=R.length:=by omega
  subst e4
  refine a4O rfl at_q ?_
  have d1:(StD S p q R).del q=S.set p (.dic (a0g b1e R)):=by
   unfold StD
   exact zaf (by rw [zaa pq.symm];exact fq0)
  rw [d1]
  refine b0V rfl zab ?_
  rw [zaf fp]
  lia
  exact hK R bf.end_
 ) only [↓Qt.put_off]
theorem a6y (c:SaysX fa fn fx K):b9H K (lc K):=b4l (a0c c) (c.fact 23 rfl)
theorem a7u (c:SaysX fa fn fx K) {m0:Option (Addr × Obj)} {i:Nat} {S:SS} {L a b c' d:Addr} {st:Lay} {Q:Bool→Prop} (lay:a1o (lc K) S L a b c' d st) (k:Q true) :
  ∃ t b,tyD S (.obj L)=some t∧a7d ((tb K).G K i m0).toGm S (.obj L)∧PySem.W.kitOne ((tb K).G K i m0).toGm.K t ((Cn.own 7).val ((tb K).G K i m0).toGm)=some b∧Q b:=by
 refine a94 (t:=.ref (lc K)) (b:=true) ?_ ?_ (a6y c).me k
 ·show (match S L with | some (.lst _)=>some (Value.type "list") | some (.dic _)=>some (.type "dict") | some (.loc _)=>some (.type "dict") | some (.ins C _)=>some (.ref C) | none=>none)=_
  rw [lay.L]
  rfl
 ·intro C fs h
  rw [lay.L] at h
  cases h
  exact a6y c
theorem a7Q {w:Wo} (ok:a03 w) {z:Str} (h:z∈a08 w):Nm z∧∃ q,w.lay.lines.lookup z=some q∧q.2.2≠0:=by
 obtain ⟨q,hq,rfl⟩:=zan.mp h
 obtain ⟨h1,h2⟩:=zay.mp hq
 refine ⟨(ok.ln q h1).1,q.2,a0e ok.lu h1,?_⟩
 have:=of_decide_eq_true h2
 omega
theorem a8L.nm {w:Wo} {shut rs:List Str} (ok:a03 w) (h:a8L w shut rs):(∀ z∈shut,Nm z)∧∀ z∈rs,Nm z:=⟨fun z hz=>(a7Q ok (h.1 z hz)).1,fun z hz=>ok.rn z (h.2.2.2.1 z hz)⟩
theorem a0F.few {w:Wo} {shut rs:List Str} {R:List (Str × Nat)} (ok:a03 w) (sub:∀ z∈rs,z∈w.rooms) (h:a0F w shut rs R):R.length≤24:=by
 have e:(nms R).length=R.length:=zag ..
 rw [← e]
 exact Nat.le_trans (a0C h.u fun z hz=>(h.iff.mp hz).room ok sub) ok.r
theorem c5t {a b:Bool}:D.eqv (.bl a) (.bl b)=(a == b):=by simp only [D.eqv,D.py,PyData.eqv]
theorem c0P {S:SS} {KK:DK} {a b:Bool} (k:KK (.bl (!(a == b))) S):a0I .NotEq (.bl a) (.bl b) S KK:=.inl ⟨rfl,rfl,by rw [Bool.true_xor];rw [← c5t] at k;exact k⟩
variable {K:zbj}
theorem c1E {α:Type} {f:α→D} {S:SS} {KK:DK} {p:Addr} {l:List (Str × α)} (h:S p=some (.dic (a0g f l))) (k:KK (.lst ((nms l).map D.str)) S):(Bn.lsk false).den [.obj p] S KK :=
 ⟨_,b3i h,by unfold outL;rw [if_neg zbe,a5P];exact k⟩
variable {K:zbj}
theorem b0D {kvs:List (Key × D)} {k k':Key} {v:D}:k'∈(putD kvs k v).map (·.1)↔k'=k∨k'∈kvs.map (·.1):=by
 unfold putD
 split
 ·rename_i h
  rw [List.any_eq_true] at h
  obtain ⟨q,hq,e⟩:=h
  have e:=of_decide_eq_true e
  have same:(kvs.map fun kv=>if kv.1=k then (kv.1,v) else kv).map (·.1)=kvs.map (·.1):=by
   rw [zat]
   refine List.map_congr_left fun x _=>?_
   show (if x.1=k then (x.1,v) else x).1=x.1
   split <;> rfl
  rw [same]
  exact ⟨.inr,fun h=>h.elim (fun h=>by rw [h,← e];exact zan.mpr ⟨q,hq,rfl⟩) id⟩
 ·rw [zav,zap]
  show _∨k'∈[k]↔_
  rw [zaj]
  exact Or.comm
theorem merge_keys:∀ {more kvs:List (Key × D)} {k:Key},k∈(a0L kvs more).map (·.1)↔k∈kvs.map (·.1)∨k∈more.map (·.1)
 | [],kvs,k=>by unfold a0L;simp
 | (q,v) :: more,kvs,k=>by
  show k∈(a0L (putD kvs q v) more).map (·.1)↔_
  rw [merge_keys,b0D,zax,zau]
  constructor
  ·rintro ((h | h) | h)
   ·exact .inr (.inl h)
   ·exact .inl h
   ·exact .inr (.inr h)
  ·rintro (h | h | h)
   ·exact .inl (.inr h)
   ·exact .inl (.inl h)
   ·exact .inr h
theorem b2j {kvs:List (Key × D)} {k:Key} {v:D}:(putD kvs k v).length≤kvs.length + 1:=by
 unfold putD
 split
 ·rw [zag];omega
 ·rw [zaw];exact Nat.le_refl _
theorem a6F:∀ {more kvs:List (Key × D)},(a0L kvs more).length≤kvs.length + more.length
 | [],kvs=>Nat.le_refl _
 | (q,v) :: more,kvs=>by
  show (a0L (putD kvs q v) more).length≤_
  have h1:=a6F (more:=more) (kvs:=putD kvs q v)
  have h2:=b2j (kvs:=kvs) (k:=q) (v:=v)
  rw [zaz]
  omega
structure Seen (kvs:List (Key × D)) (acc:List (List Str)) (n:Nat):Prop where
 iff:∀ z:Str,(Sum.inr z:Key)∈kvs.map (·.1)↔a92 acc z=true
 few:kvs.length≤24 * n
theorem Seen.skip {kvs:List (Key × D)} {acc:List (List Str)} {n:Nat} (h:Seen kvs acc n):Seen kvs acc (n + 1):=⟨h.iff,by have:=h.few;omega⟩
theorem Seen.add {α:Type} {f:α→D} {kvs:List (Key × D)} {acc:List (List Str)} {n:Nat} {l:List (Str × α)} {p:List Str} (h:Seen kvs acc n) (few:l.length≤24) (same:∀ z,z∈nms l↔z∈p):Seen (a0L kvs (a0g f l)) (acc ++ [p]) (n + 1):=by
 refine ⟨fun z=>?_,?_⟩
 ·rw [merge_keys,h.iff,a4x,a5n,a5n]
  have e:(Sum.inr z:Key)∈(l.map (·.1)).map Sum.inr↔z∈p:=by
   rw [← same z]
   exact ⟨fun h=>by obtain ⟨y,hy,e⟩:=zan.mp h;cases e;exact hy,fun h=>zan.mpr ⟨z,h,rfl⟩⟩
  rw [e]
  constructor
  ·rintro (⟨q,hq,hz⟩ | hz)
   ·exact ⟨q,zar _ hq,hz⟩
   ·exact ⟨p,zas _ (zaj.mpr rfl),hz⟩
  ·rintro ⟨q,hq,hz⟩
   rcases zap.mp hq with hq | hq
   ·exact .inl ⟨q,hq,hz⟩
   ·rw [zaj.mp hq] at hz
    exact .inr hz
 ·have h1:=a6F (more:=a0g f l) (kvs:=kvs)
  rw [a0p] at h1
  have:=h.few
  omega
theorem b0c {w:Wo}:nms w.lay.rooms=w.rooms:=a0j
theorem c6g (c:SaysX fa fn fx K):Meets ((tb K).sn N49) ((tb K).G K 49) 2 false (a7f K) b49:=by
 refine Qt.put_in ?_
 simp (disch :=
 with_unfolding_all
 refine Qt.keep ?_
 rintro m hm ds S KK Y ⟨rfl,L,a,b,c',d,w,rs,rfl,lay,ok,rsub,ru,hK⟩
 refine ⟨rfl,?_⟩
 show a0b _ b49 [some _,some _,none,none,none,none,none] _ _ _
 unfold b49
 have lr:=ok.r
 have ll:=ok.l
 have rnm:∀ z∈rs,Nm z:=fun z hz=>ok.rn z (rsub z hz)
 have rf:rs.length≤24:=Nat.le_trans (a0C ru rsub) lr
 lia
 refine a0a (T:=a1b) rfl ?_
 lia
 refine a7u c lay ?_
 lia
 refine ⟨rfl,_,rfl,?_⟩
 lia
 refine a0a (T:=a1b) rfl ?_
 lia
 refine a0a (T:=a1y) rfl ?_
 lia
 refine ⟨rfl,rs,rfl,ru,rnm,by omega,?_⟩
 lia
 refine ⟨rfl,_,rfl,?_⟩
 lia
 refine a0a (T:=a06 K) rfl ?_
 lia
 refine ⟨rfl,L,a,b,c',d,w.lay,0,rs,rfl,lay,ok.ok,by omega,fun z hz=>by rw [b0c];exact rsub z hz,?_⟩
 lia
 intro p fp
 lia
 have layR:∀ {x:Cell},a1o (lc K) (S.set p x) L a b c' d w.lay:=fun {x}=>⟨by rw [zaa (zad lay.L fp)];exact lay.L,by rw [zaa (zad lay.a fp)];exact lay.a,by rw [zaa (zad lay.b fp)];exact lay.b,by rw [zaa (zad lay.c fp)];exact lay.c,by rw [zaa (zad lay.d fp)];exact lay.d⟩
 refine a4l (T:=a2y K fun st=>nms st.lines) rfl ?_
 lia
 refine a4A layR.L rfl ?_
 lia
 have nl:(nms w.lines).length=w.lines.length:=a0S
 refine ⟨rfl,L,a,b,c',d,w.lay,rfl,layR,by show (nms w.lines).length < 64;omega,?_⟩
 refine ⟨_,rfl,?_⟩
 refine ⟨fun i δ' S'=>∃ x1 x2 x3 x4,S'=S.set p (.lst ((((a0l (nms w.lines)).take i).filter (a4B w rs)).map D.str))∧δ'=[some (.obj L),some (.lst (rs.map D.str)),some (.obj p),x1,x2,x3,x4],⟨none,none,none,none,rfl,rfl⟩,fun _ _ _ _ _=>rfl,?_,?_⟩
 ·rintro i d0 δ' S' hd ⟨x1,x2,x3,x4,rfl,rfl⟩
  rw [zbh,zam] at hd
  obtain ⟨z,hz,rfl⟩:=hd
  have mz:z∈nms w.lines:=a0v.mp (zaq hz)
  obtain ⟨⟨l,x,y,k⟩,mq,rfl⟩:=zan.mp mz
  obtain ⟨nlm,rx,ry,ne,k0,k1⟩:=ok.ln _ mq
  have look:w.lines.lookup l=some (x,y,k):=a0e ok.lu mq
  have et:(a0l (nms w.lines)).take (i + 1)=(a0l (nms w.lines)).take i ++ [l]:=take_snoc hz
  have one:a4B w rs l=!(decide (x∈rs) == decide (y∈rs)):=by unfold a4B;rw [look]
  refine a1O ?_
  lia
  refine a07 rfl ?_
  lia
  refine a4l (T:=a7h K) rfl ?_
  lia
  refine a4A layR.L rfl ?_
  lia
  refine ⟨rfl,L,a,b,c',d,w.lay,l,(x,y,k),rfl,nlm,layR,look,?_⟩
  refine ⟨_,rfl,rfl,?_⟩
  show a0b _ _ [some (.obj L),some (.lst (rs.map D.str)),some (.obj p),some (.str l),some (.str x),some (.str y),some (.int k)] _ _ _
  lia
  refine b68 (ok.rn _ rx).fine (fun r hr=>(rnm r hr).fine) ?_
  lia
  refine b68 (ok.rn _ ry).fine (fun r hr=>(rnm r hr).fine) ?_
  refine c0P ?_
  lia
  by_cases h:a4B w rs l=true
  ·rw [if_pos (one.symm.trans h)]
   lia
   refine ⟨a88 zab,?_⟩
   lia
   refine a3O zab (by rw [zag,zai];have:=zbb (a4B w rs) ((a0l (nms w.lines)).take i);rw [List.length_take,a2u] at this;omega) ?_
   rw [zac]
   lia
   refine ⟨_,_,_,_,?_,rfl⟩
   rw [et,List.filter_append,zav]
   simp only [List.filter_cons,h,if_true,List.filter_nil,zax,List.map_nil]
  ·rw [if_neg (fun e=>h (one.trans e))]
   lia
   refine ⟨_,_,_,_,?_,rfl⟩
   rw [et,List.filter_append]
   simp only [List.filter_cons,h,if_false,List.filter_nil,List.append_nil,Bool.false_eq_true]
 ·rintro δ' S' ⟨x1,x2,x3,x4,rfl,rfl⟩
  have e8:(a0l ((fun st:Lay=>nms st.lines) w.lay)).length=(a0l (nms w.lines)).length:=rfl
  rw [zag,e8,List.take_length]
  refine a4O rfl zab ?_
  rw [zaf fp]
  lia
  exact hK
 ) only [↓Qt.put_off]
variable {K:zbj}
section
open PySem.W
variable {α:Type} [DecidableEq α] [DatumOrd α]
theorem a7y (a:α):DatumOrd.lt a a=false:=by rw [← DatumOrd.lt_eq];exact dataLt_self _
theorem b4B {a b:α} (h:DatumOrd.lt a b=true):DatumOrd.lt b a=false:=by
 rw [← Bool.not_eq_true]
 intro k
 have z:=a7y a
 rw [← DatumOrd.lt_eq] at h k z
 have t:=lex_trans (O:=itemOrd) _ _ _ h k
 exact zbe (z.symm.trans t)
theorem b2U {a c:α} (b:α) (h:DatumOrd.lt a c=true):DatumOrd.lt a b=true∨DatumOrd.lt b c=true:=by
 rw [← DatumOrd.lt_eq] at h ⊢
 rw [← DatumOrd.lt_eq b c]
 exact lex_negTrans (O:=itemOrd) _ _ _ h
theorem a8o:∀ (xs:List α) (x:α),minOf x xs∈x :: xs∧∀ y∈x :: xs,DatumOrd.lt y (minOf x xs)=false
 | [],x=>⟨zal,fun y hy=>by cases zaj.mp hy;exact a7y x⟩
 | y :: ys,x=>by
  have e:minOf x (y :: ys)=minOf (if DatumOrd.lt y x=true then y else x) ys:=rfl
  rw [e]
  obtain ⟨h1,h2⟩:=a8o ys (if DatumOrd.lt y x=true then y else x)
  by_cases c:DatumOrd.lt y x=true
  ·rw [if_pos c] at h1 h2 ⊢
   refine ⟨zao _ h1,fun z hz=>?_⟩
   rcases zau.mp hz with rfl | hz
   ·rw [← Bool.not_eq_true]
    intro k
    rcases b2U y k with k | k
    ·exact zbe ((b4B c).symm.trans k)
    ·exact zbe ((h2 y zal).symm.trans k)
   ·exact h2 z hz
  ·rw [if_neg c] at h1 h2 ⊢
   refine ⟨?_,fun z hz=>?_⟩
   ·rcases zau.mp h1 with h | h
    ·rw [h];exact zal
    ·exact zao _ (zao _ h)
   ·rcases zau.mp hz with rfl | hz
    ·exact h2 _ zal
    ·rcases zau.mp hz with rfl | hz
     ·rw [← Bool.not_eq_true]
      intro k
      rcases b2U x k with k | k
      ·exact c k
      ·exact zbe ((h2 x zal).symm.trans k)
     ·exact h2 z (zao _ hz)
theorem b1X {f:α→D} (hf:∀ a,(f a).py=Datum.toD a) {S:SS} {KK:DK} {xs:List α} (ne:xs≠[]) (ok:D.okd 60 (.lst (xs.map f))=true) (k:∀ m∈xs,(∀ y∈xs,DatumOrd.lt y m=false)→KK (f m) S):Bn.mnl.den [.lst (xs.map f)] S KK:=by
 cases xs with
 | nil=>exact absurd rfl ne
 | cons x xs =>
  have e:∀ l:List α,D.pys (l.map f)=l.map Datum.toD:=fun l=>by
   rw [a7J,zat]
   exact List.map_congr_left fun a _=>hf a
  refine ⟨f x,xs.map f,rfl,ok,?_,fun y hy h=>?_⟩
  ·have:=e (x :: xs)
   rw [zax] at this
   rw [this]
   exact alikeAll_datum (x :: xs)
  ·have hy:y∈(x :: xs).map f:=hy
   obtain ⟨b,hb,rfl⟩:=zan.mp hy
   rw [e,hf,hf,minD_map] at h
   refine k b hb fun z hz=>?_
   rw [← DatumOrd.lt_eq,h,DatumOrd.lt_eq]
   exact (a8o xs x).2 z hz
end
theorem a8t {α:Type} {f:α→D} {n:Nat}:∀ {l:List α},(∀ a∈l,D.okd n (f a)=true)→D.okds n (l.map f)=true
 | [],_=>rfl
 | a :: l,h=>by
  rw [zax,D.okds,h a zal,a8t fun b hb=>h b (zao _ hb)]
  rfl
theorem a3A {α:Type} {f:α→D} {l:List α} (h:∀ a∈l,D.okd 59 (f a)=true):D.okd 60 (.lst (l.map f))=true:=by
 simp only [D.okd,zak]
 exact ⟨rfl,a8t h⟩
def ssD (p:Str × Str):D:=.tup [.str p.1,.str p.2]
def isD (p:Int × Str):D:=.tup [.int p.1,.str p.2]
theorem a7E {n:Nat} {z:Str} (h:fine z=true):D.okd n (.str z)=true:=by
 have:=a1F n [z] fun w hw=>by rw [zaj.mp hw];exact h
 simp only [zax,List.map_nil,D.okds,Bool.and_true] at this
 exact this
theorem b7u {p:Str × Str} (h1:fine p.1=true) (h2:fine p.2=true):D.okd 59 (ssD p)=true:=by
 have a:=a7E (n:=58) h1
 have b:=a7E (n:=58) h2
 simp only [D.okd] at a b
 simp [ssD,D.okd,D.okds,a,b]
theorem b0r {p:Int × Str} (h2:fine p.2=true):D.okd 59 (isD p)=true:=by
 have b:=a7E (n:=58) h2
 simp only [D.okd] at b
 simp [isD,D.okd,D.okds,b]
theorem a0F.same {w:Wo} {shut rs:List Str} {R:List (Str × Nat)} (h:a0F w shut rs R) {z:Str} {a b:Nat} (ha:(z,a)∈R) (hb:(z,b)∈R):a=b:=by
 have h1:=a0e h.u ha
 have h2:=a0e h.u hb
 exact Option.some.inj (h1.symm.trans h2)
theorem a0F.near {w:Wo} {shut rs:List Str} {R:List (Str × Nat)} (h:a0F w shut rs R) {z:Str} {n:Nat} (hz:(z,n + 1)∈R):∃ q∈w.lines,q.1∉shut∧∃ y,a1Y q z y∧(y,n)∈R:=by
 have l:=h.lev _ hz
 generalize e:n + 1=k at l
 cases l with
 | zero _=>cases e
 | @succ n' x _ lx adj =>
  cases e
  obtain ⟨d,hd,hle⟩:=h.all _ x lx
  obtain ⟨d2,hd2,hle2⟩:=h.all _ z ((h.lev _ hd).succ adj)
  have e2:=h.same hz hd2
  have e3:d=n:=by
   have:d2≤d + 1:=hle2
   omega
  subst e3
  obtain ⟨q,hq,hs,en⟩:=adj.symm
  exact ⟨q,hq,hs,x,en,hd⟩
theorem a0F.chain {w:Wo} {shut rs:List Str} {R:List (Str × Nat)} (h:a0F w shut rs R):∀ {n:Nat} {z:Str},(z,n)∈R→∃ ys:List Str,ys.length=n + 1∧ys.Nodup∧∀ y∈ys,∃ d,(y,d)∈R∧d≤n
 | 0,z,hz=>⟨[z],rfl,by simp,fun y hy=>⟨0,by rw [zaj.mp hy];exact hz,Nat.le_refl _⟩⟩
 | n + 1,z,hz=>by
  obtain ⟨q,_,_,y,_,hy⟩:=h.near hz
  obtain ⟨ys,l,u,k⟩:=h.chain hy
  refine ⟨z :: ys,by rw [zaz,l],zbd.mpr ⟨fun hm=>?_,u⟩,fun x hx=>?_⟩
  ·obtain ⟨d,hd,le⟩:=k z hm
   have:=h.same hz hd
   omega
  ·rcases zau.mp hx with rfl | hx
   ·exact ⟨_,hz,Nat.le_refl _⟩
   ·obtain ⟨d,hd,le⟩:=k x hx
    exact ⟨d,hd,by omega⟩
theorem a0F.lt {w:Wo} {shut rs:List Str} {R:List (Str × Nat)} (ok:a03 w) (sub:∀ z∈rs,z∈w.rooms) (h:a0F w shut rs R) {z:Str} {n:Nat} (hz:(z,n)∈R):n < 24:=by
 obtain ⟨ys,l,u,k⟩:=h.chain hz
 have f:=a0C (r:=nms R) u fun y hy=>by
  obtain ⟨d,hd,_⟩:=k y hy
  exact zan.mpr ⟨_,hd,rfl⟩
 rw [a0S] at f
 have:=h.few ok sub
 omega
def a5g (w:Wo) (shut:List Str) (R:List (Str × Nat)) (n:Nat) (z:Str) (p:Str × Str):Prop:=(∃ q∈w.lines,q.1=p.1∧a1Y q z p.2)∧p.1∉shut∧(p.2,n)∈R
theorem c6k (c:SaysX fa fn fx K):Meets ((tb K).sn N53) ((tb K).G K 53) 4 false (a7i K) b53:=by
 refine Qt.put_in ?_
 simp (disch :=
 with_unfolding_all
 refine Qt.keep ?_
 rintro m hm ds S KK Y ⟨rfl,L,a,b,c',d,w,shut,rs,R,n,z,rfl,lay,ok,snm,sub,dist,hz,hK⟩
 refine ⟨rfl,?_⟩
 show a0b _ b53 [some _,some _,some _,some _,none,none,none] _ _ _
 unfold b53
 have ok0:=ok.ok
 have ll:=ok.l
 have rz:z∈w.rooms:=Reach.room (w:=w) (shut:=shut) ok sub ⟨_,dist.lev _ hz⟩
 have nz:=ok.rn z rz
 have rr:∀ {y:Str} {k:Nat},(y,k)∈R→Nm y:=fun {y k} h=>ok.rn y (Reach.room (w:=w) (shut:=shut) ok sub ⟨_,dist.lev _ h⟩)
 lia
 refine fun p fp=>?_
 have layp:∀ {x:Cell},a1o (lc K) (S.set p x) L a b c' d w.lay:=fun {x}=>by
  have off:∀ {q:Addr} {y:Cell},S q=some y→(S.set p x) q=some y:=fun {q y} h=>by rw [zaa (zad h fp)];exact h
  exact ⟨off lay.L,off lay.a,off lay.b,off lay.c,off lay.d⟩
 lia
 refine a4l (T:=a3T K) rfl ?_
 lia
 refine a4A layp.L rfl ?_
 lia
 refine ⟨rfl,L,a,b,c',d,w.lay,0,z,rfl,nz,layp,ok0,by show z∈nms (units w.rooms);rw [a0j];exact rz,?_⟩
 have al:(atR w.lay z).length≤40:=by
  unfold atR
  rw [a0S]
  exact Nat.le_trans (zbb _ _) ll
 refine ⟨_,rfl,?_⟩
 refine ⟨fun i δ' S'=>∃ fs x2 x3,(∀ q,q∈fs↔a5g w shut R n z q∧q.1∈(a0l (atR w.lay z)).take i)∧fs.length≤i∧S'=S.set p (.lst (fs.map ssD))∧δ'=[some (.obj L),some (.lst (shut.map D.str)),some (.dic (a0g (fun n:Nat=>.int n) R)),some (.str z),some (.obj p),x2,x3],⟨[],none,none,fun q=>by simp,Nat.le_refl _,rfl,rfl⟩,fun _ _ _ _ _=>rfl,?_,?_⟩
 ·rintro i d0 δ' S' hd ⟨fs,x2,x3,inv,fl,rfl,rfl⟩
  rw [zbh,zam] at hd
  obtain ⟨l,hl,rfl⟩:=hd
  have il:i < 40:=by
   have:=(List.getElem?_eq_some_iff.mp hl).1
   rw [a2u] at this
   omega
  have ml:=a0v.mp (zaq hl)
  obtain ⟨⟨l',x,y,kk⟩,hq,rfl,hzq⟩:=b2H ml
  have hq:(l',x,y,kk)∈w.lines:=hq
  obtain ⟨nl,rx,ry,ne,k0,k1⟩:=ok.ln _ hq
  have look:w.lay.lines.lookup l'=some (x,y,kk):=a0e ok.lu hq
  have one:∀ r∈w.lines,r.1=l'→r=(l',x,y,kk):=fun r hr e=>by
   have h1:=a0e ok.lu hr
   rw [e,a0e ok.lu hq] at h1
   have h2:=Option.some.inj h1
   exact Prod.ext e h2.symm
  have et2:(a0l (atR w.lay z)).take (i + 1)=(a0l (atR w.lay z)).take i ++ [l']:=take_snoc hl
  refine a1O ?_
  lia
  refine a0a (T:=a7X K) rfl ?_
  lia
  refine ⟨rfl,L,a,b,c',d,w.lay,l',x,y,kk,z,rfl,nl,layp,look,?_⟩
  obtain ⟨there,et⟩:∃ t,(if x=z then y else x)=t:=⟨_,rfl⟩
  rw [et]
  have e2:a1Y (l',x,y,kk) z there:=by
   rcases zau.mp hzq with e | e
   ·have e:z=x:=e
    subst e
    rw [if_pos rfl] at et
    exact .inl ⟨rfl,et⟩
   ·have e:z=y:=zaj.mp e
    subst e
    rw [if_neg (Ne.symm ne)] at et
    exact .inr ⟨rfl,et⟩
  have only:∀ r∈w.lines,r.1=l'→∀ t,a1Y r z t→t=there:=fun r hr e t h=>by
   rw [one r hr e] at h
   exact (a2m ne h).symm.trans et
  have keep:(l'∉shut→(there,n)∈R→False)→∀ q,q∈fs↔a5g w shut R n z q∧q.1∈(a0l (atR w.lay z)).take (i + 1):=fun no q=>by
   rw [et2,zap,zaj]
   refine ⟨fun h=>⟨((inv q).mp h).1,.inl ((inv q).mp h).2⟩,fun ⟨cd,h⟩=>?_⟩
   rcases h with h | h
   ·exact (inv q).mpr ⟨cd,h⟩
   ·obtain ⟨⟨r,hr,e,en⟩,ns,inR⟩:=cd
    rw [only r hr (e.trans h) _ en] at inR
    rw [h] at ns
    exact (no ns inR).elim
  have atp:(S.set p (.lst (fs.map ssD))) p=some (.lst (fs.map ssD)):=zab
  lia
  refine a83 nl.fine (fun s hs=>(snm s hs).fine) ?_
  lia
  by_cases hs:l'∈shut
  ·rw [if_neg (by simpa using hs)]
   rw [if_neg (by decide)]
   lia
   exact ⟨fs,_,_,keep fun ns=>absurd hs ns,by omega,rfl,rfl⟩
  ·rw [if_pos (by simpa using hs)]
   lia
   refine ⟨c6y,?_⟩
   lia
   refine ⟨_,.inr there,rfl,rfl,?_⟩
   rw [a0s]
   lia
   refine c1y rfl (by rw [a0s,a0e dist.u hz];rfl) ?_
   lia
   rw [show ((n + 1:Nat):Int) - 1=(n:Int) from by omega]
   by_cases ht:(there,n)∈R
   ·rw [a0e dist.u ht]
    show a0I .Eq (.int (n:Nat)) _ _ _
    lia
    rw [if_pos (by simp)]
    lia
    refine ⟨a88 atp,?_⟩
    lia
    refine a3O atp (by rw [zag,zai];omega) ?_
    rw [zac,show fs.map ssD ++ [.tup [.str l',.str there]]=(fs ++ [(l',there)]).map ssD from by rw [zav];rfl]
    lia
    refine ⟨fs ++ [(l',there)],_,_,fun q=>?_,by rw [zaw];show fs.length + 1≤_;omega,rfl,rfl⟩
    rw [et2,zap,zap,zaj,zaj]
    constructor
    ·rintro (h | rfl)
     ·exact ⟨((inv q).mp h).1,.inl ((inv q).mp h).2⟩
     ·exact ⟨⟨⟨_,hq,rfl,e2⟩,hs,ht⟩,.inr rfl⟩
    ·rintro ⟨cd,h | h⟩
     ·exact .inl ((inv q).mpr ⟨cd,h⟩)
     ·obtain ⟨⟨r,hr,e,en⟩,ns,inR⟩:=cd
      exact .inr (Prod.ext h (only r hr (e.trans h) _ en))
   ·obtain ⟨lk,elk⟩:∃ o,R.lookup there=o:=⟨_,rfl⟩
    rw [elk]
    have no:D.eqv ((lk.map fun n:Nat=>D.int n).getD .non) (.int (n:Nat))=false:=by
     cases lk with
     | none=>rfl
     | some k =>
      have:k≠n:=fun e=>ht (e ▸ b4A elk)
      show D.eqv (.int (k:Nat)) (.int (n:Nat))=false
      rw [c1h,decide_eq_false_iff_not]
      omega
    have vv:∀ S',vw S' ((lk.map fun n:Nat=>D.int n).getD .non)=(lk.map fun n:Nat=>D.int n).getD .non:=fun S'=>by cases lk <;> rfl
    refine b1u (by rw [vv];cases lk <;> rfl) rfl ?_
    rw [vv,show vw _ (D.int (n:Nat))=D.int (n:Nat) from rfl,no]
    lia
    rw [if_neg (by decide)]
    lia
    exact ⟨fs,_,_,keep fun _ h=>ht h,by omega,rfl,rfl⟩
 ·rintro δ' S' ⟨fs,x2,x3,inv,fl,rfl,rfl⟩
  rw [zag,List.take_length] at inv
  refine a4O rfl zab ?_
  rw [zaf fp]
  lia
  have inAt:∀ {q:Str × Str},a5g w shut R n z q→q∈fs:=fun {q} cd=>(inv q).mpr ⟨cd,by
   obtain ⟨⟨r,hr,e,en⟩,_⟩:=cd
   rw [← e]
   refine a0v.mpr (b2R hr ?_)
   rcases en with ⟨h,_⟩ | ⟨h,_⟩
   ·rw [h];exact zal
   ·rw [h];exact zao _ zal⟩
  have ne:fs≠[]:=by
   obtain ⟨q,hq,hs,y,en,hy⟩:=dist.near hz
   intro e
   have:=inAt (q:=(q.1,y)) ⟨⟨q,hq,rfl,en⟩,hs,hy⟩
   rw [e] at this
   cases this
  refine b1X (f:=ssD) (fun _=>rfl) ne (a3A fun q hq=>?_) fun m hm least=>?_
  ·obtain ⟨⟨⟨r,hr,e,_⟩,_,inR⟩,_⟩:=(inv q).mp hq
   exact b7u (e ▸ (ok.ln r hr).1.fine) (rr inR).fine
  ·obtain ⟨⟨ex,ns,inR⟩,_⟩:=(inv m).mp hm
   refine hK m.1 m.2 ⟨ex,ns,inR,fun q hq hs y' en hy'=>?_⟩
   have h:=least (q.1,y') (inAt ⟨⟨q,hq,rfl,en⟩,hs,hy'⟩)
   have h:(if q.1=m.1 then decide (y'.cps.toList < m.2.cps.toList) else decide (q.1.cps.toList < m.1.cps.toList))=false:=h
   by_cases e:q.1=m.1
   ·rw [e]
    exact (a1D m.1 m.1).elim id id
   ·rw [if_neg e] at h
    unfold leS
    rw [h]
    rfl
 ) only [↓Qt.put_off]
def b1h (w:Wo) (R:List (Str × Nat)):List (Int × Str):=((a0l w.srcs).filter fun z=>decide (z∈nms R)).map fun z=>((((R.lookup z).getD 0:Nat):Int),z)
theorem a3m {w:Wo} {R:List (Str × Nat)} (u:(nms R).Nodup) {p:Int × Str}:p∈b1h w R↔∃ n:Nat,p.1=n∧p.2∈w.srcs∧(p.2,n)∈R:=by
 unfold b1h
 rw [zan]
 constructor
 ·rintro ⟨z,hz,rfl⟩
  obtain ⟨h1,h2⟩:=zay.mp hz
  obtain ⟨q,hq,rfl⟩:=zan.mp (of_decide_eq_true h2)
  exact ⟨_,rfl,a0v.mp h1,by rw [a0e u hq];exact hq⟩
 ·rintro ⟨n,e,hs,hR⟩
  refine ⟨p.2,zay.mpr ⟨a0v.mpr hs,zbg (zan.mpr ⟨_,hR,rfl⟩)⟩,?_⟩
  have h:=a0e u hR
  have h:R.lookup p.2=some n:=h
  rw [h]
  exact Prod.ext e.symm rfl
def b5A (R:List (Str × Nat)):D→D
 | .str z=>isD ((((R.lookup z).getD 0:Nat):Int),z)
 | _=>.non
def inR (R:List (Str × Nat)):D→Bool
 | .str z=>decide (z∈nms R)
 | _=>false
theorem b8x {w:Wo} {R:List (Str × Nat)}:(((a0l w.srcs).map D.str).filter (inR R)).map (b5A R)=(b1h w R).map isD:=by
 unfold b1h
 rw [List.filter_map,zat,zat]
 rfl
theorem c1g {α:Type} {f:α→D} {l:List α}:D.eqv (.lst (l.map f)) (.lst [])=l.isEmpty:=by
 cases l with
 | nil=>rfl
 | cons a l=>rfl
theorem b2I {α:Type} {f:α→D} {l:List α} {S:SS} {KK:DK} (ok:D.okd 60 (.lst (l.map f))=true) (k:KK (.bl l.isEmpty) S):a0I .Eq (.lst (l.map f)) (.lst []) S KK :=
 b1u ok rfl (by rw [show vw S (.lst (l.map f))=.lst (l.map f) from rfl,show vw S (.lst [])=.lst [] from rfl,c1g];exact k)
theorem c1s {kvs:List (Key × D)} {key:Key} {x:D} {S:SS} {KK:DK} (hk:keyD x=some key) (k:KK (.bl (valD kvs key).isSome) S):a0I .In x (.dic kvs) S KK:=by
 show a5l false x (.dic kvs) S KK;unfold a5l;exact ⟨key,hk,by rw [Bool.false_xor];exact k⟩
theorem c6l (c:SaysX fa fn fx K):Meets ((tb K).sn N54) ((tb K).G K 54) 3 false (a9t K) b54:=by
 refine Qt.put_in ?_
 simp (disch :=
 with_unfolding_all
 refine Qt.keep ?_
 rintro m hm ds S KK Y ⟨rfl,L,a,b,c',d,w,shut,rs,rfl,lay,ok,as,ne,hK⟩
 refine ⟨rfl,?_⟩
 show a0b _ b54 [some _,some _,some _,none,none,none,none,none,none] _ _ _
 unfold b54
 obtain ⟨ns,nr⟩:=as.nm ok
 obtain ⟨ssub,su,sl,rsub,ru,rl⟩:=as
 have lr:=ok.r
 have sf:w.srcs.length≤24:=Nat.le_trans (a0C ok.su ok.s) lr
 lia
 refine a0a (T:=a1b) rfl ?_
 lia
 refine a7u c lay ?_
 lia
 refine ⟨rfl,_,rfl,?_⟩
 lia
 refine a0a (T:=a1b) rfl ?_
 lia
 refine a0a (T:=a1y) rfl ?_
 lia
 refine ⟨rfl,shut,rfl,su,ns,by omega,?_⟩
 lia
 refine ⟨rfl,_,rfl,?_⟩
 lia
 refine a0a (T:=a1b) rfl ?_
 lia
 refine a0a (T:=a2j) rfl ?_
 lia
 refine ⟨rfl,rs,rfl,ru,nr,ne,rl,?_⟩
 lia
 refine ⟨rfl,_,rfl,?_⟩
 lia
 refine a0a (T:=a3t K) rfl ?_
 lia
 refine ⟨rfl,L,a,b,c',d,w.lay,0,shut,rfl,lay,ok.ok,by omega,fun z hz=>(a7Q ok (ssub z hz)).2,?_⟩
 lia
 refine a0a (T:=a06 K) rfl ?_
 lia
 refine ⟨rfl,L,a,b,c',d,w.lay,0,rs,rfl,lay,ok.ok,by omega,fun z hz=>by show z∈nms (units w.rooms);rw [a0j];exact rsub z hz,?_⟩
 lia
 refine a0a (T:=b3y K) rfl ?_
 lia
 refine ⟨rfl,L,a,b,c',d,w,shut,rs,rfl,lay,ok,ns,rsub,ru,fun R dist=>?_⟩
 lia
 refine a4l (T:=a2y K fun st=>nms st.pushed) rfl ?_
 lia
 refine a4A lay.L rfl ?_
 lia
 have es:nms w.lay.pushed=w.srcs:=a0j
 refine ⟨rfl,L,a,b,c',d,w.lay,rfl,lay,by show (nms w.lay.pushed).length < 64;rw [es];omega,?_⟩
 have e9:(fun st:Lay=>nms st.pushed) w.lay=w.srcs:=es
 rw [e9]
 refine ⟨_,rfl,?_⟩
 refine a2e (b5A R) (inR R) (by rw [zag,a2u,zai];omega) (fun _ _ _=>rfl) (fun p i acc d0 K1 KN hd hp hk hn=>?_) ?_
 ·rw [zbh,zam] at hd
  obtain ⟨z,hz,rfl⟩:=hd
  refine a1O (b2J ?_)
  show a0u _ _ [some _,some _,some _,some _,none,none,none,none,some (.str z)] _ _ _
  lia
  refine c1s rfl ?_
  rw [a01]
  lia
  by_cases h:z∈nms R
  ·rw [if_pos (zbg h)]
   obtain ⟨q,hq,rfl⟩:=zan.mp h
   have hk:=hk (zbg h)
   have ef:b5A R (.str q.1)=.tup [.int (q.2:Nat),.str q.1]:=by
    show isD ((((R.lookup q.1).getD 0:Nat):Int),q.1)=_
    rw [a0e dist.u hq]
    rfl
   rw [ef] at hk
   lia
   refine c1y rfl (by rw [a0s,a0e dist.u hq];rfl) ?_
   lia
   exact hk
  ·rw [if_neg (by rw [zah];exact h)]
   exact hn (zbf h)
 rw [b8x]
 have okS:D.okd 60 (.lst ((b1h w R).map isD))=true:=a3A fun p hp=>by
  obtain ⟨n,_,hs,_⟩:=(a3m dist.u).mp hp
  exact b0r (ok.rn _ (ok.s _ hs)).fine
 lia
 refine b2I okS ?_
 lia
 by_cases e0:b1h w R=[]
 ·rw [if_pos (by rw [e0];rfl)]
  lia
  refine hK none fun s hs hr=>?_
  obtain ⟨q,hq,rfl⟩:=zan.mp (dist.iff.mpr hr)
  have:((q.2:Int),q.1)∈b1h w R:=(a3m dist.u).mpr ⟨q.2,rfl,hs,hq⟩
  rw [e0] at this
  cases this
 rw [if_neg (by rw [List.isEmpty_iff];exact e0)]
 lia
 refine b1X (f:=isD) (fun _=>rfl) e0 okS fun m hm least=>?_
 obtain ⟨mi,s⟩:=m
 obtain ⟨n,rfl,hs,hsn⟩:=(a3m dist.u).mp hm
 have hs:s∈w.srcs:=hs
 have hsn:(s,n)∈R:=hsn
 have first:a4b w R n s:=⟨hs,hsn,fun s' n' hs' hn'=>by
  have h:=least ((n':Int),s') ((a3m dist.u).mpr ⟨n',rfl,hs',hn'⟩)
  have h:(if (n':Int)=(n:Int) then decide (s'.cps.toList < s.cps.toList) else decide ((n':Int) < (n:Int)))=false:=h
  by_cases e:n'=n
  ·rw [if_pos (by omega)] at h
   refine .inr ⟨e.symm,?_⟩
   unfold leS
   rw [h]
   rfl
  ·rw [if_neg (by omega),decide_eq_false_iff_not] at h
   exact .inl (by omega)⟩
 have n24:=dist.lt ok rsub hsn
 lia
 show ixD (.tup [.int (n:Nat),.str s]) _ _ _
 refine a80 (d:=.str s) rfl ?_
 lia
 intro p0 fp0
 have ext:∀ {S1:SS} {p:Addr} {x:Cell},Grows S S1→S1 p=none→Grows S (S1.set p x):=fun {S1 p x} g f r hr=>by
  rw [zaa fun e=>hr (by rw [e];exact Decidable.byContradiction fun z=>z ((g p z).symm.trans f))]
  exact g r hr
 have new:∀ {S1:SS} {p:Addr},Grows S S1→S1 p=none→S p=none:=fun {S1 p} g f=>Decidable.byContradiction fun z=>z ((g p z).symm.trans f)
 lia
 refine a6W (fun mm δ' S'=>∃ z ws x1 x2 p,(z,mm)∈R∧mm≤n∧ws.length + 2 * mm=2 * n + 1∧(∀ t,a3L w shut R mm z (z :: t)→a3L w shut R n s (ws ++ t))∧Grows S S'∧S p=none∧S' p=some (.lst (ws.map D.str))∧δ'=[some (.obj L),some (.lst (shut.map D.str)),some (.lst (rs.map D.str)),some (.dic (a0g (fun n:Nat=>.int n) R)),some (.lst ((b1h w R).map isD)),some (.str z),some (.obj p),x1,x2]) (m0:=n) ⟨s,[s],none,none,p0,hsn,Nat.le_refl _,by show 1 + 2 * n=_;omega,fun t h=>h,(fun r hr=>zaa fun e=>hr (by rw [e];exact fp0)),fp0,zab,rfl⟩ ?_
 rintro mm δ' S' ⟨z,ws,x1,x2,p,hz,le,len,way,gr,fp,at_p,rfl⟩
 have old:∀ {u:Addr} {x:Cell},S u=some x→S' u=some x:=fun {u x} e=>(gr u (by rw [e];exact nofun)).trans e
 have lay2:a1o (lc K) S' L a b c' d w.lay:=⟨old lay.L,old lay.a,old lay.b,old lay.c,old lay.d⟩
 lia
 refine c1y rfl (by rw [a0s,a0e dist.u hz];rfl) ?_
 lia
 cases mm with
 | zero =>
  rw [if_neg (by simp)]
  lia
  have:=way [] (.zero hz)
  rw [List.append_nil] at this
  exact hK (some ws) ⟨R,n,s,dist,first,this⟩ (fun e=>by rw [e] at len;simp at len) (by omega) p S' gr fp at_p
 | succ d1 =>
  rw [if_pos (by simp)]
  refine a07 rfl ?_
  lia
  refine a0a (T:=a7i K) rfl ?_
  lia
  refine ⟨rfl,L,a,b,c',_,w,shut,rs,R,d1,z,rfl,lay2,ok,ns,rsub,dist,hz,fun l y nx=>?_⟩
  refine ⟨_,rfl,rfl,?_⟩
  show a0b _ _ [some (.obj L),some (.lst (shut.map D.str)),some (.lst (rs.map D.str)),some (.dic (a0g (fun n:Nat=>.int n) R)),some (.lst ((b1h w R).map isD)),some (.str y),some (.obj p),some (.str l),x2] _ _ _
  lia
  refine b9Q (l:=ws.map D.str) (m:=[.str l,.str y]) (a8H at_p) rfl (by rw [zag,zai];show ws.length + 2≤_;omega) fun p2 fp2=>?_
  rw [show ws.map D.str ++ [.str l,.str y]=(ws ++ [l,y]).map D.str from by rw [zav];rfl]
  lia
  refine ⟨d1,Nat.lt_succ_self _,y,ws ++ [l,y],_,_,p2,nx.2.2.1,by omega,by rw [zaw];show ws.length + 2 + 2 * d1=_;omega,fun t h=>?_,ext gr fp2,new gr fp2,zab,rfl⟩
  rw [List.append_assoc]
  exact way _ (.succ hz nx h)
 ) only [↓Qt.put_off]
variable {K:zbj}
theorem me9 (c:SaysX fa fn fx K):Meets ((tb K).sn N9) ((tb K).G K 9) 2 false a1b b9:=by
 rintro m hm ds S KK Y ⟨rfl,x,rfl,hK⟩
 refine ⟨rfl,?_⟩
 show a0b _ b9 [some _,some _] _ _ _
 unfold b9
 lia
 rw [if_neg (by decide)]
 lia
 exact hK
theorem c6b (c:SaysX fa fn fx K):Meets ((tb K).sn N44) ((tb K).G K 44) 2 false (a3t K) b44:=by
 refine Qt.put_in ?_
 simp (disch :=
 with_unfolding_all
 refine Qt.keep ?_
 rintro m hm ds S KK Y ⟨rfl,L,a,b,c',d,st,n,zs,rfl,lay,ok,few,hz,hK⟩
 refine ⟨rfl,?_⟩
 show a0b _ b44 [some _,some _,none,none] _ _ _
 unfold b44
 have ll:=ok.l
 have nl:(nms st.lines).length=st.lines.length:=zag ..
 lia
 refine a4l (T:=a2y K fun st=>nms st.lines) rfl ?_
 lia
 refine a4A lay.L rfl ?_
 lia
 refine ⟨rfl,L,a,b,c',d,st,rfl,lay,by show (nms st.lines).length < 64;omega,?_⟩
 lia
 refine ⟨_,rfl,?_⟩
 refine ⟨fun i δ' S'=>∃ x,S'=S∧δ'=[some (.obj L),some (.lst (zs.map D.str)),some (.lst ((a0l (nms st.lines)).map D.str)),x],⟨none,rfl,rfl⟩,fun _ _ _ _ _=>rfl,?_,?_⟩
 ·rintro i d0 δ' S' hd ⟨x,rfl,rfl⟩
  rw [zbh,zam] at hd
  obtain ⟨z,hzi,rfl⟩:=hd
  obtain ⟨q,hq,hc⟩:=hz z (zaq hzi)
  have mz:=a1m hq
  refine a1O ?_
  lia
  refine a83 (ok.line mz).fine (fun w hw=>(ok.line (a0v.mp hw)).fine) ?_
  lia
  rw [if_neg (by simpa using a0v.mpr mz)]
  lia
  refine a4l (T:=a7h K) rfl ?_
  lia
  refine a4A lay.L rfl ?_
  lia
  refine ⟨rfl,L,a,b,c',d,st,z,q,rfl,ok.line mz,lay,hq,?_⟩
  lia
  refine a80 (d:=.int q.2.2) rfl ?_
  lia
  rw [if_neg (by rw [zah];exact hc)]
  lia
  exact ⟨_,rfl,rfl⟩
 ·rintro δ' S' ⟨x,rfl,rfl⟩
  lia
  exact hK
 ) only [↓Qt.put_off]
theorem c5Y (c:SaysX fa fn fx K):Meets ((tb K).sn N31) ((tb K).G K 31) 2 false (a06 K) b31:=by
 refine Qt.put_in ?_
 simp (disch :=
 with_unfolding_all
 refine Qt.keep ?_
 rintro m hm ds S KK Y ⟨rfl,L,a,b,c',d,st,n,zs,rfl,lay,ok,few,hz,hK⟩
 refine ⟨rfl,?_⟩
 show a0b _ b31 [some _,some _,none,none] _ _ _
 unfold b31
 have lr:=ok.r
 have nl:(nms st.rooms).length=st.rooms.length:=zag ..
 lia
 refine a4l (T:=a2y K fun st=>nms st.rooms) rfl ?_
 lia
 refine a4A lay.L rfl ?_
 lia
 refine ⟨rfl,L,a,b,c',d,st,rfl,lay,by show (nms st.rooms).length < 64;omega,?_⟩
 lia
 refine ⟨_,rfl,?_⟩
 refine ⟨fun i δ' S'=>∃ x,S'=S∧δ'=[some (.obj L),some (.lst (zs.map D.str)),some (.lst ((a0l (nms st.rooms)).map D.str)),x],⟨none,rfl,rfl⟩,fun _ _ _ _ _=>rfl,?_,?_⟩
 ·rintro i d0 δ' S' hd ⟨x,rfl,rfl⟩
  rw [zbh,zam] at hd
  obtain ⟨z,hzi,rfl⟩:=hd
  have mz:=hz z (zaq hzi)
  refine a1O ?_
  lia
  refine a83 (ok.room mz).fine (fun w hw=>(ok.room (a0v.mp hw)).fine) ?_
  lia
  rw [if_neg (by simpa using a0v.mpr mz)]
  lia
  exact ⟨_,rfl,rfl⟩
 ·rintro δ' S' ⟨x,rfl,rfl⟩
  lia
  exact hK
 ) only [↓Qt.put_off]
variable {K:zbj}
theorem a9K {α:Type} [DecidableEq α] [PySem.W.Datum α] {x y:α} (h:PySem.W.Datum.toD x=PySem.W.Datum.toD y):x=y:=by
 have e:=PySem.W.Datum.eqv x y
 rw [h,PySem.W.Datum.eqv y y,zbg rfl] at e
 exact of_decide_eq_true e.symm
theorem a8h {P:Str→Prop}:∀ {l:List Str},(∃ x∈l,P x)→∃ x∈l,P x∧∀ y∈l,P y→leS x y=true
 | [],h=>by obtain ⟨_,h,_⟩:=h;cases h
 | a :: l,h=>by
  have self:leS a a=true:=(a1D a a).elim id id
  by_cases h2:∃ x∈l,P x
  ·obtain ⟨m,hm,pm,lm⟩:=a8h h2
   by_cases pa:P a
   ·rcases a1D a m with k | k
    ·refine ⟨a,zal,pa,fun y hy py=>?_⟩
     rcases zau.mp hy with rfl | hy
     ·exact self
     ·exact a2Y _ _ _ k (lm y hy py)
    ·refine ⟨m,zao _ hm,pm,fun y hy py=>?_⟩
     rcases zau.mp hy with rfl | hy
     ·exact k
     ·exact lm y hy py
   ·refine ⟨m,zao _ hm,pm,fun y hy py=>?_⟩
    rcases zau.mp hy with rfl | hy
    ·exact absurd py pa
    ·exact lm y hy py
  ·obtain ⟨x,hx,px⟩:=h
   rcases zau.mp hx with rfl | hx
   ·refine ⟨x,zal,px,fun y hy py=>?_⟩
    rcases zau.mp hy with rfl | hy
    ·exact self
    ·exact absurd ⟨y,hy,py⟩ h2
   ·exact absurd ⟨x,hx,px⟩ h2
section
variable {w:Wo} {shut rs:List Str} {R R':List (Str × Nat)}
theorem a0F.mem (h:a0F w shut rs R) {z:Str} {d:Nat}:(z,d)∈R↔Lev w shut rs d z∧∀ m,Lev w shut rs m z→d≤m:=by
 constructor
 ·intro hz
  refine ⟨h.lev _ hz,fun m hm=>?_⟩
  obtain ⟨d2,h2,le⟩:=h.all m z hm
  rw [h.same hz h2]
  exact le
 ·rintro ⟨l,least⟩
  obtain ⟨d2,h2,le⟩:=h.all d z l
  have:=least d2 (h.lev _ h2)
  rw [show d=d2 from by omega]
  exact h2
theorem a3L.to (e:∀ z d,(z,d)∈R→(z,d)∈R') (e':∀ z d,(z,d)∈R'→(z,d)∈R) {d:Nat} {z:Str} {ws:List Str} (h:a3L w shut R d z ws):a3L w shut R' d z ws:=by
 induction h with
 | zero h=>exact .zero (e _ _ h)
 | succ hz nx _ ih=>exact .succ (e _ _ hz) ⟨nx.1,nx.2.1,e _ _ nx.2.2.1,fun q hq hs y' en hy=>nx.2.2.2 q hq hs y' en (e' _ _ hy)⟩ ih
theorem a3L.same (d1:a0F w shut rs R) (d2:a0F w shut rs R') {d:Nat} {z:Str} {ws:List Str} (h:a3L w shut R d z ws):a3L w shut R' d z ws :=
 h.to (fun z d h=>d2.mem.mpr (d1.mem.mp h)) fun z d h=>d1.mem.mpr (d2.mem.mp h)
theorem a3L.at (h:a3L w shut R d z ws):(z,d)∈R:=by
 cases h with
 | zero h=>exact h
 | succ h _ _=>exact h
theorem a3a (ok:a03 w) {q r:Str × Str × Str × Int} (hq:q∈w.lines) (hr:r∈w.lines) (e:q.1=r.1):q=r:=by
 have h1:=a0e ok.lu hq
 rw [e,a0e ok.lu hr] at h1
 exact (Prod.ext e.symm (Option.some.inj h1)).symm
theorem b1w (ok:a03 w) {n n':Nat} {z l y y':Str} (h:a5g w shut R n z (l,y)) (h':a5g w shut R' n' z (l,y')):y=y':=by
 obtain ⟨⟨q,hq,e,en⟩,_⟩:=h
 obtain ⟨⟨r,hr,e',en'⟩,_⟩:=h'
 have:=a3a ok hq hr (e.trans e'.symm)
 subst this
 have ne:=(ok.ln q hq).2.2.2.1
 exact (a2m ne en).symm.trans (a2m ne en')
theorem a2f {n:Nat} {z l y:Str} (h:a8M w shut R n z l y):a5g w shut R n z (l,y):=⟨h.1,h.2.1,h.2.2.1⟩
theorem a7C {n:Nat} {z l y:Str} (h:a5g w shut R n z (l,y)) (k:∀ l2 y2,a5g w shut R n z (l2,y2)→leS l l2=true):a8M w shut R n z l y :=
 ⟨h.1,h.2.1,h.2.2,fun q hq hs y' en hy=>k q.1 y' ⟨⟨q,hq,rfl,en⟩,hs,hy⟩⟩
theorem a5t {n:Nat} {z l y l2 y2:Str} (h:a8M w shut R n z l y) (k:a5g w shut R n z (l2,y2)):leS l l2=true:=by
 obtain ⟨⟨q,hq,e,en⟩,hs,hy⟩:=k
 have e:q.1=l2:=e
 have:=h.2.2.2 q hq (by rw [e];exact hs) y2 en hy
 rwa [e] at this
theorem b06 (ok:a03 w) {d:Nat} {z:Str} {ws ws':List Str} (h:a3L w shut R d z ws) (h':a3L w shut R d z ws'):ws=ws':=by
 induction h generalizing ws' with
 | zero _=>cases h';rfl
 | succ hz nx t ih =>
  cases h' with
  | succ hz' nx' t' =>
   have e:=a5R (a5t nx (a2f nx')) (a5t nx' (a2f nx))
   subst e
   have e:=b1w ok (a2f nx) (a2f nx')
   subst e
   rw [ih t']
theorem b05 (dist:a0F w shut rs R):∀ {d:Nat} {z:Str},(z,d)∈R→∃ ws,a3L w shut R d z ws
 | 0,z,h=>⟨_,.zero h⟩
 | d + 1,z,h=>by
  obtain ⟨q,hq,hs,y,en,hy⟩:=dist.near h
  obtain ⟨l,_,⟨y',cd⟩,least⟩:=a8h (P:=fun l=>∃ y,a5g w shut R d z (l,y)) (l:=nms w.lines) ⟨q.1,zan.mpr ⟨q,hq,rfl⟩,y,⟨q,hq,rfl,en⟩,hs,hy⟩
  obtain ⟨ws,hw⟩:=b05 dist cd.2.2
  exact ⟨_,.succ h (a7C cd fun l2 y2 c2=>least l2 (by obtain ⟨⟨r,hr,e,_⟩,_⟩:=c2;exact zan.mpr ⟨r,hr,e⟩) ⟨y2,c2⟩) hw⟩
theorem b07 {d:Nat} {z:Str} {ws:List Str} (h:a3L w shut R d z ws):ws.length=2 * d + 1:=by
 induction h with
 | zero _=>rfl
 | succ _ _ _ ih=>rw [zaz,zaz,ih];omega
theorem b2E (ok:a03 w) (sub:∀ z∈rs,z∈w.rooms) (dist:a0F w shut rs R) {d:Nat} {z:Str} {ws:List Str} (h:a3L w shut R d z ws):∀ x∈ws,Nm x:=by
 have rr:∀ {y:Str} {k:Nat},(y,k)∈R→Nm y:=fun {y k} h=>ok.rn y (Reach.room (w:=w) (shut:=shut) ok sub ⟨_,dist.lev _ h⟩)
 induction h with
 | zero h=>exact fun x hx=>by rw [zaj.mp hx];exact rr h
 | succ hz nx _ ih =>
  intro x hx
  rcases zau.mp hx with rfl | hx
  ·exact rr hz
  ·rcases zau.mp hx with rfl | hx
   ·obtain ⟨⟨q,hq,e,_⟩,_⟩:=nx
    exact e ▸ (ok.ln q hq).1
   ·exact ih x hx
def putL {α:Type} (l:List (Str × α)) (z:Str) (v:α):List (Str × α):=if z∈nms l then l.map fun q=>if q.1=z then (q.1,v) else q else l ++ [(z,v)]
theorem a8w {α:Type} {l:List (Str × α)} {z:Str} {v:α}:nms (putL l z v)=if z∈nms l then nms l else nms l ++ [z]:=by
 unfold putL
 split
 ·unfold nms
  rw [zat]
  refine List.map_congr_left fun q _=>?_
  show (if q.1=z then (q.1,v) else q).1=q.1
  split <;> rfl
 ·unfold nms
  rw [zav]
  rfl
theorem b5d {α:Type} {l:List (Str × α)} {z:Str} {v:α} (u:(nms l).Nodup):(nms (putL l z v)).Nodup:=by
 rw [a8w]
 split
 ·exact u
 ·rename_i h
  exact List.nodup_append.mpr ⟨u,by simp,fun a ha b hb e=>by rw [zaj.mp hb] at e;exact h (e ▸ ha)⟩
theorem b2k {α:Type} {l:List (Str × α)} {z x:Str} {v y:α}:(x,y)∈putL l z v↔(x=z∧y=v)∨(x≠z∧(x,y)∈l):=by
 unfold putL
 split
 ·rename_i h
  rw [zan]
  constructor
  ·rintro ⟨q,hq,e⟩
   by_cases c:q.1=z
   ·rw [if_pos c] at e
    cases e
    exact .inl ⟨c,rfl⟩
   ·rw [if_neg c] at e
    subst e
    exact .inr ⟨c,hq⟩
  ·rintro (⟨rfl,rfl⟩ | ⟨c,hq⟩)
   ·obtain ⟨q,hq,e⟩:=zan.mp h
    exact ⟨q,hq,by rw [if_pos e,e]⟩
   ·exact ⟨_,hq,by rw [if_neg c]⟩
 ·rename_i h
  rw [zap,zaj]
  constructor
  ·rintro (hq | e)
   ·exact .inr ⟨fun c=>h (c ▸ zan.mpr ⟨_,hq,rfl⟩),hq⟩
   ·cases e
    exact .inl ⟨rfl,rfl⟩
  ·rintro (⟨rfl,rfl⟩ | ⟨c,hq⟩)
   ·exact .inr rfl
   ·exact .inl hq
def c3G (w:Wo) (shut:List Str) (R:List (Str × Nat)) (t:Nat) (P:List (Str × Str)) (z:Str) (ws:List Str):Prop :=
 ∃ l y t',ws=z :: l :: t'∧(l,z)∈P∧a5g w shut R t z (l,y)∧a3L w shut R t y t'∧∀ l2 y2,(l2,z)∈P→a5g w shut R t z (l2,y2)→leS l l2=true
structure GI (w:Wo) (shut:List Str) (R:List (Str × Nat)) (t:Nat) (P:List (Str × Str)) (G:List (Str × List Str)):Prop where
 u:(nms G).Nodup
 row:∀ z ws,(z,ws)∈G→(z,t + 1)∈R∧c3G w shut R t P z ws
 all:∀ l z y,(l,z)∈P→a5g w shut R t z (l,y)→(z,t + 1)∈R→z∈nms G
theorem GI.skip {t:Nat} {P:List (Str × Str)} {G:List (Str × List Str)} {l z:Str} (h:GI w shut R t P G) (no:∀ y,a5g w shut R t z (l,y)→(z,t + 1)∈R→False):GI w shut R t (P ++ [(l,z)]) G:=by
 refine ⟨h.u,fun x ws hx=>?_,fun l2 x y hp cd hx=>?_⟩
 ·obtain ⟨hr,l1,y1,t1,e,hp,cd,way,least⟩:=h.row x ws hx
  refine ⟨hr,l1,y1,t1,e,zar _ hp,cd,way,fun l2 y2 hp2 c2=>?_⟩
  rcases zap.mp hp2 with hp2 | hp2
  ·exact least l2 y2 hp2 c2
  ·cases zaj.mp hp2
   exact (no y2 c2 hr).elim
 ·rcases zap.mp hp with hp | hp
  ·exact h.all l2 x y hp cd hx
  ·cases zaj.mp hp
   exact (no y cd hx).elim
theorem GI.put {t:Nat} {P:List (Str × Str)} {G:List (Str × List Str)} {l z:Str} {v:List Str} (h:GI w shut R t P G) (hz:(z,t + 1)∈R) (new:c3G w shut R t (P ++ [(l,z)]) z v):GI w shut R t (P ++ [(l,z)]) (putL G z v):=by
 refine ⟨b5d h.u,fun x ws hx=>?_,fun l2 x y hp cd hx=>?_⟩
 ·rcases b2k.mp hx with ⟨rfl,rfl⟩ | ⟨ne,hx⟩
  ·exact ⟨hz,new⟩
  ·obtain ⟨hr,l1,y1,t1,e,hp,cd,way,least⟩:=h.row x ws hx
   refine ⟨hr,l1,y1,t1,e,zar _ hp,cd,way,fun l2 y2 hp2 c2=>?_⟩
   rcases zap.mp hp2 with hp2 | hp2
   ·exact least l2 y2 hp2 c2
   ·exact absurd (Prod.mk.inj (zaj.mp hp2)).2 ne
 ·rw [a8w]
  rcases zap.mp hp with hp | hp
  ·have:=h.all l2 x y hp cd hx
   split
   ·exact this
   ·exact zar _ this
  ·cases zaj.mp hp
   split
   ·assumption
   ·exact zas _ (zaj.mpr rfl)
def c3N (q:Str × Str × Str × Int):List (Str × Str):=[(q.1,q.2.1),(q.1,q.2.2.1)]
theorem a75 {l:List (Str × Str × Str × Int)} {n:Nat} {z x y:Str} (sub:∀ q∈w.lines,q∈l) (h:a5g w shut R n z (x,y)):(x,z)∈l.flatMap c3N:=by
 obtain ⟨⟨q,hq,e,en⟩,_⟩:=h
 refine List.mem_flatMap.mpr ⟨q,sub q hq,?_⟩
 rw [← (show q.1=x from e)]
 rcases en with ⟨e2,_⟩ | ⟨e2,_⟩
 ·rw [← e2];exact zal
 ·rw [← e2];exact zao _ zal
theorem GI.done {t:Nat} {B G:List (Str × List Str)} (ok:a03 w) (dist:a0F w shut rs R) (hB:b1i w shut R t B) (h:GI w shut R t (w.lines.flatMap c3N) G):b1i w shut R (t + 1) (B ++ G)∧∀ z∈nms G,z∉nms B:=by
 have full:∀ z ws,(z,ws)∈G↔(z,t + 1)∈R∧a3L w shut R (t + 1) z ws:=fun z ws=>by
  have one:∀ ws,(z,ws)∈G→a3L w shut R (t + 1) z ws:=fun ws hz=>by
   obtain ⟨hr,l,y,t',rfl,hp,cd,way,least⟩:=h.row z ws hz
   exact .succ hr (a7C cd fun l2 y2 c2=>least l2 y2 (a75 (fun _ h=>h) c2) c2) way
  constructor
  ·exact fun hz=>⟨(h.row z ws hz).1,one ws hz⟩
  ·rintro ⟨hr,way⟩
   obtain ⟨q,hq,hs,y,en,hy⟩:=dist.near hr
   have cd:a5g w shut R t z (q.1,y):=⟨⟨q,hq,rfl,en⟩,hs,hy⟩
   obtain ⟨r,hr2,e⟩:=zan.mp (h.all q.1 z y (a75 (fun _ h=>h) cd) cd hr)
   obtain ⟨z',ws'⟩:=r
   have e:z'=z:=e
   subst e
   rw [b06 ok way (one ws' hr2)]
   exact hr2
 have apart:∀ z∈nms G,z∉nms B:=fun z hz hb=>by
  obtain ⟨q,hq,rfl⟩:=zan.mp hz
  obtain ⟨r,hr,e⟩:=zan.mp hb
  obtain ⟨d,hd,hR,_⟩:=(hB.mem r.1 r.2).mp hr
  have h1:=((full q.1 q.2).mp hq).1
  rw [e] at hR
  have:=dist.same h1 hR
  omega
 refine ⟨⟨?_,fun z ws=>?_⟩,apart⟩
 ·unfold nms
  rw [zav]
  exact List.nodup_append.mpr ⟨hB.u,h.u,fun a ha b hb e=>apart b hb (e ▸ ha)⟩
 ·rw [zap,hB.mem,full]
  constructor
  ·rintro (⟨d,hd,h1,h2⟩ | ⟨h1,h2⟩)
   ·exact ⟨d,by omega,h1,h2⟩
   ·exact ⟨t + 1,Nat.le_refl _,h1,h2⟩
  ·rintro ⟨d,hd,h1,h2⟩
   by_cases c:d≤t
   ·exact .inl ⟨d,c,h1,h2⟩
   ·have:d=t + 1:=by omega
    subst this
    exact .inr ⟨h1,h2⟩
theorem b1i.in_ {t:Nat} {B:List (Str × List Str)} (dist:a0F w shut rs R) (h:b1i w shut R t B) {z:Str}:z∈nms B↔∃ d,d≤t∧(z,d)∈R:=by
 constructor
 ·intro hz
  obtain ⟨q,hq,rfl⟩:=zan.mp hz
  obtain ⟨d,hd,hR,_⟩:=(h.mem q.1 q.2).mp hq
  exact ⟨d,hd,hR⟩
 ·rintro ⟨d,hd,hR⟩
  obtain ⟨ws,hw⟩:=b05 dist hR
  exact zan.mpr ⟨(z,ws),(h.mem z ws).mpr ⟨d,hd,hR,hw⟩,rfl⟩
end
variable {K:zbj}
section
variable {S S0 S1 S':SS} {w:Wo} {barred:List Str} {lm:Lms} {us:List (Str × Int)} {l x y r:Str} {p q A:Addr} {R:Str→Str→Str→Prop} {al:ArL} {n:Nat} {amt:Int} {st:List Stp} {s:Stp}
theorem Grows.refl:Grows S S:=fun _ _=>rfl
theorem Grows.trans (h:Grows S S1) (k:Grows S1 S'):Grows S S':=fun q hq=>by rw [k q (by rw [h q hq];exact hq),h q hq]
theorem Grows.set {c:Cell} (h:S q=none):Grows S (S.set q c):=fun a ha=>zaa fun e=>ha (by rw [e];exact h)
theorem Grows.at_ (h:Grows S S') {c:Cell} (e:S q=some c):S' q=some c:=by rw [h q (by rw [e];exact nofun)];exact e
theorem a1o.grow {C L a b c d:Addr} {t:Lay} (h:a1o C S L a b c d t) (g:Grows S S'):a1o C S' L a b c d t:=⟨g.at_ h.L,g.at_ h.a,g.at_ h.b,g.at_ h.c,g.at_ h.d⟩
theorem a7e.grow (h:a7e S p lm) (g:Grows S S'):a7e S' p lm:=⟨g.at_ h.1,h.2⟩
theorem a6D (ok:a03 w) {q:Str × Str × Str × Int} (hq:q∈w.lines):a5r w barred q.1=(q.2.1,q.2.2.1,if q.2.2.2=0∨q.1∈barred then none else some q.2.2.2):=by
 unfold a5r
 rw [a0e ok.lu hq]
theorem a5T:nms (a0w w barred)=a0l (nms w.lines):=by
 unfold nms a0w
 rw [zat]
 exact List.map_id' _
theorem a1i (ok:a03 w) {q:Str × Str × Str × Option Int} (h:q∈a0w w barred):∃ r∈w.lines,q=(r.1,r.2.1,r.2.2.1,if r.2.2.2=0∨r.1∈barred then none else some r.2.2.2):=by
 obtain ⟨l,hl,rfl⟩:=zan.mp h
 obtain ⟨r,hr,rfl⟩:=zan.mp (a0G.mp hl)
 exact ⟨r,hr,by rw [a6D ok hr]⟩
theorem a4v (ok:a03 w):a6j (a0w w barred):=by
 refine ⟨by rw [a5T];exact a1N ok.lu,fun q hq=>?_,fun q hq c hc=>?_,?_,fun q hq=>?_⟩
 ·obtain ⟨r,hr,rfl⟩:=a1i ok hq
  exact fun e=>(ok.ln r hr).2.2.2.1 e.symm
 ·obtain ⟨r,hr,rfl⟩:=a1i ok hq
  obtain ⟨_,_,_,_,h0,h1⟩:=ok.ln r hr
  have hc:(if r.2.2.2=0∨r.1∈barred then none else some r.2.2.2)=some c:=hc
  split at hc
  ·cases hc
  ·rename_i h
   cases hc
   exact ⟨by have:r.2.2.2≠0:=fun e=>h (.inl e);omega,h1⟩
 ·unfold a0w
  rw [zag,b0R,a0S]
  exact ok.l
 ·obtain ⟨r,hr,rfl⟩:=a1i ok hq
  obtain ⟨a,b,c,_⟩:=ok.ln r hr
  exact ⟨a,ok.rn _ b,ok.rn _ c⟩
theorem a2Z (ok:a6j lm) {q:Str × Str × Str × Option Int} (hq:q∈lm):lm.lookup q.1=some q.2:=a0e ok.u hq
theorem a3K (h:l∈nms us):us.lookup l=some (a0d us l):=by
 obtain ⟨v,hv⟩:∃ v,us.lookup l=some v:=by
  cases e:us.lookup l with
  | some v=>exact ⟨v,rfl⟩
  | none =>
   obtain ⟨q,hq,rfl⟩:=zan.mp h
   have:=List.lookup_eq_none_iff.mp e q hq
   simp at this
 unfold a0d
 rw [hv]
 rfl
def b1x (us:List (Str × Int)) (l:Str) (v:Int):List (Str × Int):=us.map fun q=>if q.1=l then (q.1,v) else q
theorem a9G {v:Int}:nms (b1x us l v)=nms us:=by
 unfold nms b1x
 rw [zat]
 refine List.map_congr_left fun q _=>?_
 show (if q.1=l then (q.1,v) else q).1=q.1
 split <;> rfl
theorem b3J {v:Int} (h:l∈nms us):a0d (b1x us l v)=fun z=>if z=l then v else a0d us z:=by
 funext z
 have:∀ us:List (Str × Int),(b1x us l v).lookup z=if z=l then (if l∈nms us then some v else none) else us.lookup z:=fun us=>by
  induction us with
  | nil=>unfold b1x nms;simp
  | cons q us ih =>
   unfold b1x at ih ⊢
   rw [zax,List.lookup_cons,List.lookup_cons]
   by_cases e:q.1=l
   ·rw [if_pos e]
    dsimp only
    by_cases ez:z=l
    ·rw [ez,e];simp [nms,e]
    ·have:(z == q.1)=false:=by rw [beq_eq_false_iff_ne];exact fun k=>ez (by rw [k,e])
     rw [this,ih,if_neg ez,if_neg ez]
   ·rw [if_neg e]
    by_cases ez:z=l
    ·have:(z == q.1)=false:=by rw [beq_eq_false_iff_ne];exact fun k=>e (by rw [← k,ez])
     rw [this,ih,if_pos ez,if_pos ez]
     have:(l∈nms (q :: us))↔l∈nms us:=by
      unfold nms
      rw [zax,zau]
      exact ⟨fun k=>k.elim (fun k=>absurd k.symm e) id,.inr⟩
     simp only [this]
    ·rw [ih,if_neg ez,if_neg ez]
 unfold a0d
 rw [this us]
 by_cases ez:z=l
 ·rw [if_pos ez,if_pos h,if_pos ez];rfl
 ·rw [if_neg ez,if_neg ez]
theorem a9H {v:Int} (h:l∈nms us):putD (a0g D.int us) (.inr l) (.int v)=a0g D.int (b1x us l v):=by
 unfold putD
 obtain ⟨q0,hq0,e0⟩:=zan.mp h
 rw [if_pos (by rw [List.any_eq_true];exact ⟨(.inr q0.1,.int q0.2),zan.mpr ⟨q0,hq0,rfl⟩,by rw [← e0];simp⟩)]
 unfold a0g b1x
 rw [zat,zat]
 refine List.map_congr_left fun q _=>?_
 show (if (Sum.inr q.1:Key)=.inr l then ((.inr q.1:Key),D.int v) else (.inr q.1,.int q.2))=(.inr (if q.1=l then (q.1,v) else q).1,.int (if q.1=l then (q.1,v) else q).2)
 by_cases e:q.1=l
 ·rw [if_pos (by rw [e]),if_pos e]
 ·rw [if_neg (fun k=>e (Sum.inr.inj k)),if_neg e]
theorem a1L {α:Type} {f:α→D} {l:List (Str × α)} {z:Str} {x:α} (h:l.lookup z=some x):valD (a0g f l) (.inr z)=some (f x):=by rw [a0s,h];rfl
theorem b6X {kvs:List (Key × D)} {key:Key} {y d:D} {KK:DK} (h:S p=some (.dic kvs)) (hk:keyD y=some key) (e:valD kvs key=some d) (k:KK d S):a6t (.obj p) y S KK:=by
 show (match S p with | some (.lst ds)=>∃ i d,y=D.int i∧atI ds i=some d∧KK d S | some (.dic kvs)=>∃ k d,keyD y=some k∧valD kvs k=some d∧KK d S | _=>False)
 rw [h]
 exact ⟨key,d,hk,e,k⟩
theorem c0E {i j:Int} {KK:DK} (k:KK (.int (i - j)) S):b1r .Sub (.int i) (.int j) S KK:=k
end
theorem c5L (c:SaysX fa fn fx K):Meets ((tb K).sn N17) ((tb K).G K 17) 3 false a3s b17:=by
 refine Qt.put_in ?_
 simp (disch :=
 with_unfolding_all
 refine Qt.keep ?_
 rintro m hm ds S KK Y ⟨rfl,o,i,b,rfl,hK⟩
 refine ⟨rfl,?_⟩
 show a0b _ b17 [some _,some _,some _] _ _ _
 unfold b17
 cases o with
 | none =>
  unfold a5f
  lia
  rw [if_pos (show Sv.isNon D.non=true from rfl)]
  lia
  exact hK
 | some c =>
  unfold a5f
  lia
  rw [if_neg (show ¬ Sv.isNon (D.int c)=true from zbe)]
  lia
  cases b with
  | true =>
   rw [if_pos rfl]
   lia
   exact hK
  | false =>
   rw [if_neg zbe]
   lia
   exact hK
 ) only [↓Qt.put_off]
theorem c5K (c:SaysX fa fn fx K):Meets ((tb K).sn N16) ((tb K).G K 16) 4 false a2L b16:=by
 refine Qt.put_in ?_
 simp (disch :=
 with_unfolding_all
 refine Qt.keep ?_
 rintro m hm ds S KK Y ⟨rfl,p,q,lm,amt,us,st,rfl,pq,⟨hp,lok⟩,hq,un,ends,hK⟩
 refine ⟨rfl,?_⟩
 show a0b _ b16 [some _,some _,some _,some _,none,none,none] _ _ _
 unfold b16
 lia
 refine ⟨_,rfl,?_⟩
 refine ⟨fun i δ' S'=>∃ us' x4 x5 x6,nms us'=nms lm∧a0d us'=a0P lm amt (a0d us) (st.take i)∧S'=S.set q (.dic (a0g D.int us'))∧δ'=[some (.obj p),some (.obj q),some (.lst (st.map stD)),some (.int amt),x4,x5,x6],⟨us,none,none,none,un,rfl,by rw [SS.set_id hq],rfl⟩,fun _ _ _ _ _=>rfl,?_,?_⟩
 ·rintro i d0 δ' S' hd ⟨us',x4,x5,x6,un',eu,rfl,rfl⟩
  rw [zbh,zam] at hd
  obtain ⟨s,hs,rfl⟩:=hd
  obtain ⟨r,hr,er,hE⟩:=ends s (zaq hs)
  have look:lm.lookup s.2.1=some r.2:=by rw [← er];exact a2Z lok hr
  have eo:oneOf lm s.2.1=r.2.1:=by rw [← er];exact a3Y lok hr
  have hin:s.2.1∈nms us':=by rw [un',← er];exact zan.mpr ⟨r,hr,rfl⟩
  have hp':(S.set q (.dic (a0g D.int us'))) p=some (.dic (a0g a1X lm)):=by rw [zaa pq];exact hp
  have nms1:=(lok.nm r hr).2.1
  have nf:fine s.1=true:=by
   rcases hE with ⟨e1,_⟩ | ⟨e1,_⟩
   ·rw [← e1];exact (lok.nm r hr).2.1.fine
   ·rw [← e1];exact (lok.nm r hr).2.2.fine
  have ts:st.take (i + 1)=st.take i ++ [s]:=take_snoc hs
  have eu2:∀ v,(if s.1=r.2.1 then a0d us' s.2.1 + amt else a0d us' s.2.1 - amt)=v→a0d (b1x us' s.2.1 v)=a0P lm amt (a0d us) (st.take (i + 1)):=fun v ev=>by
   rw [ts]
   unfold a0P
   rw [List.foldl_append]
   show _=a0Q lm amt (a0P lm amt (a0d us) (st.take i)) s
   rw [← eu,b3J hin,← ev]
   funext z
   unfold a0Q
   by_cases ez:z=s.2.1
   ·rw [if_pos ez,if_pos ez,ez,eo]
   ·rw [if_neg ez,if_neg ez]
  refine ⟨_,rfl,rfl,?_⟩
  show a0b _ _ [some _,some _,some _,some _,some (.str s.1),some (.str s.2.1),some (.str s.2.2)] _ _ _
  lia
  refine a1I hp' rfl (a1L look) ?_
  lia
  refine a80 (d:=.str r.2.1) rfl ?_
  lia
  by_cases h1:s.1=r.2.1
  ·rw [if_pos (zbg h1)]
   lia
   refine b6X zab rfl (a1L (a3K hin)) ?_
   lia
   refine a3i zab rfl (by rw [a0p,← a0S,un',a0S,zai];have:=lok.few;omega) ?_
   rw [a9H hin,zac]
   lia
   exact ⟨_,_,_,_,by rw [a9G,un'],eu2 _ (if_pos h1),rfl,rfl⟩
  ·rw [if_neg (by rw [zah];exact h1)]
   lia
   refine b6X zab rfl (a1L (a3K hin)) ?_
   lia
   refine c0E ?_
   lia
   refine a3i zab rfl (by rw [a0p,← a0S,un',a0S,zai];have:=lok.few;omega) ?_
   rw [a9H hin,zac]
   lia
   exact ⟨_,_,_,_,by rw [a9G,un'],eu2 _ (if_neg h1),rfl,rfl⟩
 ·rintro δ' S' ⟨us',x4,x5,x6,un',eu,rfl,rfl⟩
  rw [zag,List.take_length] at eu
  lia
  exact hK us' un' eu
 ) only [↓Qt.put_off]
theorem c52 (c:SaysX fa fn fx K):Meets ((tb K).sn N35) ((tb K).G K 35) 3 false a3q b35:=by
 refine Qt.put_in ?_
 simp (disch :=
 with_unfolding_all
 refine Qt.keep ?_
 rintro m hm ds S KK Y ⟨rfl,p,q,lm,us,st,rfl,pq,⟨hp,lok⟩,hq,un,arcs,sl,⟨s0,hs0,r0,hr0,er0,nn0⟩,hK⟩
 refine ⟨rfl,?_⟩
 show a0b _ b35 [some _,some _,some _,none,none,none,none,none] _ _ _
 unfold b35
 lia
 intro f ff
 have offp:∀ {c},(S.set f c) p=some (.dic (a0g a1X lm)):=fun {c}=>by rw [zaa (zad hp ff)];exact hp
 have offq:∀ {c},(S.set f c) q=some (.dic (a0g D.int us)):=fun {c}=>by rw [zaa (zad hq ff)];exact hq
 lia
 refine ⟨_,rfl,?_⟩
 refine ⟨fun i δ' S'=>∃ is x4 x5 x6 x7,is.length≤i∧(∀ s∈st.take i,∀ r∈lm,r.1=s.2.1→∀ c,r.2.2.2=some c→a1h r (a0d us) s c∈is)∧(∀ v∈is,∃ s∈st,∃ r∈lm,r.1=s.2.1∧∃ c,r.2.2.2=some c∧v=a1h r (a0d us) s c)∧S'=S.set f (.lst (is.map D.int))∧δ'=[some (.obj p),some (.obj q),some (.lst (st.map stD)),some (.obj f),x4,x5,x6,x7],⟨[],none,none,none,none,Nat.le_refl _,(fun _ h=>nomatch h),(fun _ h=>nomatch h),rfl,rfl⟩,fun _ _ _ _ _=>rfl,?_,?_⟩
 ·rintro i d0 δ' S' hd ⟨is,x4,x5,x6,x7,il,all,from_,rfl,rfl⟩
  rw [zbh,zam] at hd
  obtain ⟨s,hs,rfl⟩:=hd
  have ms:=zaq hs
  have hi:=(List.getElem?_eq_some_iff.mp hs).1
  obtain ⟨r,hr,er,hE⟩:=a2l (arcs s ms)
  have look:lm.lookup s.2.1=some r.2:=by rw [← er];exact a2Z lok hr
  have hin:s.2.1∈nms us:=by rw [un,← er];exact zan.mpr ⟨r,hr,rfl⟩
  have ts:st.take (i + 1)=st.take i ++ [s]:=take_snoc hs
  have one:∀ r'∈lm,r'.1=s.2.1→r'=r:=fun r' h e=>a2s lok h hr (by rw [e,er])
  refine ⟨_,rfl,rfl,?_⟩
  show a0b _ _ [some _,some _,some _,some _,some (.str s.1),some (.str s.2.1),some (.str s.2.2),_] _ _ _
  lia
  refine a0a (T:=a3s) rfl ?_
  lia
  refine a1I offp rfl (a1L look) ?_
  lia
  refine a80 (d:=a5f r.2.2.2) (atI_nat (j:=2) rfl) ?_
  lia
  refine a1I offq rfl (a1L (a3K hin)) ?_
  lia
  refine a1I offp rfl (a1L look) ?_
  lia
  refine a80 (d:=.str r.2.1) rfl ?_
  lia
  refine ⟨rfl,r.2.2.2,a0d us s.2.1,decide (s.1=r.2.1),rfl,?_⟩
  cases ec:r.2.2.2 with
  | none =>
   lia
   rw [show Option.map (fun c=>if decide (s.1=r.2.1)=true then c - a0d us s.2.1 else c + a0d us s.2.1) none=none from rfl]
   unfold a5f
   lia
   rw [if_neg (by decide)]
   lia
   refine ⟨is,_,_,_,_,by omega,fun s' hs' r' hr' e c hc=>?_,from_,rfl,rfl⟩
   rw [ts] at hs'
   rcases zap.mp hs' with hs' | hs'
   ·exact all s' hs' r' hr' e c hc
   ·rw [zaj.mp hs'] at e
    rw [one r' hr' e,ec] at hc
    cases hc
  | some c =>
   have ev:(if decide (s.1=r.2.1)=true then c - a0d us s.2.1 else c + a0d us s.2.1)=a1h r (a0d us) s c:=by
    unfold a1h
    rw [er]
    by_cases h:s.1=r.2.1
    ·rw [if_pos (zbg h),if_pos h]
    ·rw [if_neg (by rw [zah];exact h),if_neg h]
   rw [show Option.map (fun c=>if decide (s.1=r.2.1)=true then c - a0d us s.2.1 else c + a0d us s.2.1) (some c)=some (a1h r (a0d us) s c) from congrArg some ev]
   unfold a5f
   lia
   rw [if_pos (show (!Sv.isNon (D.int (a1h r (a0d us) s c)))=true from rfl)]
   lia
   refine ⟨a88 zab,?_⟩
   lia
   refine a3O zab (by rw [zag,zai];omega) ?_
   rw [zac,show is.map D.int ++ [.int (a1h r (a0d us) s c)]=(is ++ [a1h r (a0d us) s c]).map D.int by rw [zav];rfl]
   lia
   refine ⟨is ++ [a1h r (a0d us) s c],_,_,_,_,by rw [zaw];show is.length + 1≤i + 1;omega,fun s' hs' r' hr' e c' hc=>?_,fun v hv=>?_,rfl,rfl⟩
   ·rw [ts] at hs'
    rcases zap.mp hs' with hs' | hs'
    ·exact zar _ (all s' hs' r' hr' e c' hc)
    ·rw [zaj.mp hs'] at e ⊢
     have:=one r' hr' e
     subst this
     rw [ec] at hc
     cases hc
     exact zas _ zal
   ·rcases zap.mp hv with hv | hv
    ·exact from_ v hv
    ·exact ⟨s,ms,r,hr,er,c,ec,zaj.mp hv⟩
 ·rintro δ' S' ⟨is,x4,x5,x6,x7,il,all,from_,rfl,rfl⟩
  rw [zag] at il all
  rw [List.take_length] at all
  refine a4O rfl zab ?_
  rw [zaf ff]
  obtain ⟨c0,hc0⟩:=Option.ne_none_iff_exists'.mp nn0
  have ne:is≠[]:=fun e=>by
   have:=all s0 hs0 r0 hr0 er0 c0 hc0
   rw [e] at this
   cases this
  have pos:∀ v∈is,0 < v:=fun v hv=>by
   obtain ⟨s,hs,r,hr,er,c,hc,rfl⟩:=from_ v hv
   obtain ⟨r',hr',er',g⟩:=arcs s hs
   have:=a2s lok hr hr' (by rw [er,er'])
   subst this
   unfold a1h
   rcases g with ⟨g1,_,g3⟩ | ⟨g1,g2,g3⟩
   ·rw [if_pos g1.symm];exact g3 c hc
   ·rw [if_neg (fun k=>lok.ne r hr (by rw [← k,g1]))];exact g3 c hc
  lia
  refine b1X (f:=D.int) (fun _=>rfl) ne (a3A fun _ _=>rfl) fun v hv least=>?_
  refine hK v (pos v hv) fun s hs r hr er c hc=>?_
  have:=least _ (all s hs r hr er c hc)
  have this:¬ a1h r (a0d us) s c < v:=by
   intro k
   have e:PySem.W.DatumOrd.lt (a1h r (a0d us) s c) v=decide (a1h r (a0d us) s c < v):=rfl
   rw [e,zbg k] at this
   cases this
  omega
 ) only [↓Qt.put_off]
variable {K:zbj}
section
variable {S S0 S1 S':SS} {w:Wo} {barred:List Str} {lm:Lms} {us:List (Str × Int)} {l x y r:Str} {p q A f:Addr} {R R':Str→Str→Str→Prop} {al:ArL} {n:Nat} {amt:Int} {st:List Stp} {s:Stp}
theorem a93 {α β:Type} {f:α→β}:∀ {l:List α},(l.map f).Nodup→∀ {a b:α},a∈l→b∈l→f a=f b→a=b
 | [],_,_,_,h,_,_=>nomatch h
 | x :: l,u,a,b,ha,hb,e=>by
  obtain ⟨n,u⟩:=zbd.mp (show (f x :: l.map f).Nodup from u)
  rcases zau.mp ha with e1 | ha <;> rcases zau.mp hb with e2 | hb
  ·rw [e1,e2]
  ·exact absurd (zan.mpr ⟨b,hb,by rw [← e,e1]⟩) n
  ·exact absurd (zan.mpr ⟨a,ha,by rw [e,e2]⟩) n
  ·exact a93 u ha hb e
theorem b3U {kvs:List (Key × D)} {key:Key} {x z d:D} {KK:DK} (h:S p=some (.dic kvs)) (hk:keyD x=some key) (few:kvs.length < sizeLine) (e:valD kvs key=some d) (k:KK d S):Mn.dset.den (.obj p) [x,z] S KK :=
 ⟨kvs,key,h,hk,few,fun d' e'=>by rw [e] at e';cases e';exact k,fun e'=>by rw [e] at e';cases e'⟩
theorem b1F {kvs:List (Key × D)} {key:Key} {x z:D} {KK:DK} (h:S p=some (.dic kvs)) (hk:keyD x=some key) (few:kvs.length < sizeLine) (e:valD kvs key=none) (k:KK z (S.set p (.dic (putD kvs key z)))):Mn.dset.den (.obj p) [x,z] S KK :=
 ⟨kvs,key,h,hk,few,(fun d' e'=>by rw [e] at e';cases e'),fun _=>k⟩
structure a3C (S0 S:SS) (A:Addr) (R:Str→Str→Str→Prop) (n:Nat):Prop where
 ex:∃ al,a3o S A R n al∧∀ v∈al,S0 v.2.1=none
 f:S0 A=none
 g:Grows S0 S
theorem a3o.iff (h:a3o S A R n al) (e:∀ r x y,R' r x y↔R r x y):a3o S A R' n al :=
 ⟨h.top,h.u,h.few,h.at_,h.len,h.ad,fun r x y=>(e r x y).trans (h.mem r x y),h.nm⟩
theorem a3C.iff (h:a3C S0 S A R n) (e:∀ r x y,R' r x y↔R r x y):a3C S0 S A R' n:=by
 obtain ⟨al,a,b⟩:=h.ex
 exact ⟨⟨al,a.iff e,b⟩,h.f,h.g⟩
theorem a3o.more (h:a3o S A R n al) {k:Nat} (hk:n≤k):a3o S A R k al:=⟨h.top,h.u,Nat.le_trans h.few hk,h.at_,fun q hq=>Nat.le_trans (h.len q hq) hk,h.ad,h.mem,h.nm⟩
theorem a3C.more (h:a3C S0 S A R n) {k:Nat} (hk:n≤k):a3C S0 S A R k:=by
 obtain ⟨al,a,b⟩:=h.ex
 exact ⟨⟨al,a.more hk,b⟩,h.f,h.g⟩
def a6l (al:ArL) (r x y:Str):ArL:=al.map fun v=>if v.1=r then (v.1,v.2.1,v.2.2 ++ [(x,y)]) else v
theorem a4j:(a6l al r x y).map (fun q=>(q.1,q.2.1))=al.map fun q=>(q.1,q.2.1):=by
 unfold a6l
 rw [zat]
 refine List.map_congr_left fun v _=>?_
 show ((if v.1=r then (v.1,v.2.1,v.2.2 ++ [(x,y)]) else v).1,(if v.1=r then (v.1,v.2.1,v.2.2 ++ [(x,y)]) else v).2.1)=_
 split <;> rfl
theorem a9u:nms (a6l al r x y)=nms al:=by
 have:=congrArg (List.map Prod.fst) (a4j (al:=al) (r:=r) (x:=x) (y:=y))
 rw [zat,zat] at this
 exact this
theorem b1n:(a6l al r x y).map (fun q=>q.2.1)=al.map fun q=>q.2.1:=by
 have:=congrArg (List.map Prod.snd) (a4j (al:=al) (r:=r) (x:=x) (y:=y))
 rw [zat,zat] at this
 exact this
theorem a1Z {v:Str × Addr × List (Str × Str)} (h:v∈a6l al r x y):(v∈al∧v.1≠r)∨∃ u∈al,u.1=r∧v=(u.1,u.2.1,u.2.2 ++ [(x,y)]):=by
 obtain ⟨u,hu,e⟩:=zan.mp h
 by_cases h1:u.1=r
 ·rw [if_pos h1] at e;exact .inr ⟨u,hu,h1,e.symm⟩
 ·rw [if_neg h1] at e;rw [← e];exact .inl ⟨hu,h1⟩
theorem a8c {u:Str × Addr × List (Str × Str)} (h:u∈al):(if u.1=r then (u.1,u.2.1,u.2.2 ++ [(x,y)]) else u)∈a6l al r x y:=zan.mpr ⟨u,h,rfl⟩
theorem b3c (h:a3o S A R n al) {u v:Str × Addr × List (Str × Str)} (hu:u∈al) (hv:v∈al) (e:u.1=v.1):u=v:=a93 (f:=fun q:Str × Addr × List (Str × Str)=>q.1) h.u hu hv e
theorem b3F {G:Gm} {δ:DS} {Y:XD'} {KK:DK} {e1 e2 e3:RE} (h:a3C S0 S A R n) (hn:n < 1000) (nr:Nm r) (nx:Nm x) (ny:Nm y) (h1:∀ S1 K1,K1 (.str r) S1→den G e1 δ S1 Y K1) (h2:∀ S1 K1,K1 (.str x) S1→den G e2 δ S1 Y K1) (h3:∀ S1 K1,K1 (.str y) S1→den G e3 δ S1 Y K1) (hA:δ[2]?=some (some (.obj A)))
  (k:∀ S',a3C S0 S' A (fun a b c=>R a b c∨(a=r∧b=x∧c=y)) (n + 1)→KK .non S') :
  den G (.mth .app (.mth .dset (.var 2) (.cons e1 (.cons (.lst true .nil) .nil))) (.cons (.tup (.cons e2 (.cons e3 .nil))) .nil)) δ S Y KK:=by
 obtain ⟨al,ar,fr⟩:=h.ex
 have kl:(a0g D.obj (al.map fun q=>(q.1,q.2.1))).length≤n:=by rw [a0p,zag];exact ar.few
 refine b3L ?_
 refine b3L ?_
 refine a1B (d:=.obj A) hA ?_
 refine ⟨b8T ar.top,?_⟩
 refine a2X ?_
 refine h1 _ _ ?_
 refine a2X ?_
 refine b2L ?_
 refine a7w ?_
 refine ⟨by rw [zai];decide,fun f ff=>?_⟩
 refine a7w ?_
 have Af:A≠f:=zad ar.top ff
 have topf:∀ {c},(S.set f c) A=some (.dic (a0g D.obj (al.map fun q=>(q.1,q.2.1)))):=fun {c}=>by rw [zaa Af];exact ar.top
 have S0f:S0 f=none:=Decidable.byContradiction fun h'=>h' (by rw [← h.g f h'];exact ff)
 have gf:∀ {c},Grows S0 (S.set f c):=fun {c}=>h.g.trans (Grows.set ff)
 by_cases hr:r∈nms al
 ·obtain ⟨v,hv,er⟩:=zan.mp hr
  have er:v.1=r:=er
  have look:(al.map fun q=>(q.1,q.2.1)).lookup r=some v.2.1:=by
   rw [← er]
   exact a0e (l:=al.map fun q=>(q.1,q.2.1)) (by unfold nms;rw [zat];exact ar.u) (q:=(v.1,v.2.1)) (zan.mpr ⟨v,hv,rfl⟩)
  have vf:v.2.1≠f:=zad (ar.at_ v hv) ff
  have atv:(S.set f (.lst [])) v.2.1=some (.lst (v.2.2.map prD)):=by rw [zaa vf];exact ar.at_ v hv
  have ad:=zbd.mp ar.ad
  have Av:A≠v.2.1:=fun e=>ad.1 (by rw [e];exact zan.mpr ⟨v,hv,rfl⟩)
  refine b3U topf rfl (by rw [zai];omega) (a1L look) ?_
  refine ⟨a88 atv,?_⟩
  refine a2X ?_
  refine b3M ?_
  refine a2X ?_
  refine h2 _ _ ?_
  refine a2X ?_
  refine h3 _ _ ?_
  refine a7w ?_
  refine ⟨by rw [zai];show 2≤16777216;decide,?_⟩
  refine a7w ?_
  refine a3O atv (by rw [zag,zai];have:=ar.len v hv;omega) ?_
  refine k _ ⟨⟨a6l al r x y,⟨?_,by rw [a9u];exact ar.u,by unfold a6l;rw [zag];have:=ar.few;omega,fun u hu=>?_,fun u hu=>?_,by rw [b1n];exact ar.ad,fun a b c=>?_,fun u hu=>?_⟩,fun u hu=>?_⟩,h.f,fun a ha=>?_⟩
  ·rw [zaa Av,topf,a4j]
  ·rcases a1Z hu with ⟨hu,ne⟩ | ⟨u0,hu0,e0,rfl⟩
   ·have nv:u.2.1≠v.2.1:=fun e=>ne (by rw [a93 (f:=fun q:Str × Addr × List (Str × Str)=>q.2.1) ad.2 hu hv e];exact er)
    rw [zaa nv,zaa (zad (ar.at_ u hu) ff)]
    exact ar.at_ u hu
   ·have:=b3c ar hu0 hv (by rw [e0,er])
    subst this
    show ((S.set f _).set u0.2.1 _) u0.2.1=some (.lst ((u0.2.2 ++ [(x,y)]).map prD))
    rw [zab,zav]
    rfl
  ·rcases a1Z hu with ⟨hu,ne⟩ | ⟨u0,hu0,e0,rfl⟩
   ·have:=ar.len u hu;omega
   ·show (u0.2.2 ++ [(x,y)]).length≤n + 1
    rw [zaw]
    have:=ar.len u0 hu0
    show u0.2.2.length + 1≤n + 1
    omega
  ·constructor
   ·rintro (h' | ⟨rfl,rfl,rfl⟩)
    ·obtain ⟨u,hu,e1,e2⟩:=(ar.mem a b c).mp h'
     refine ⟨_,a8c (r:=r) (x:=x) (y:=y) hu,?_⟩
     split
     ·exact ⟨e1,zar _ e2⟩
     ·exact ⟨e1,e2⟩
    ·refine ⟨_,a8c (r:=a) (x:=b) (y:=c) hv,?_⟩
     rw [if_pos er]
     exact ⟨er,zas _ zal⟩
   ·rintro ⟨u,hu,e1,e2⟩
    rcases a1Z hu with ⟨hu,ne⟩ | ⟨u0,hu0,e0,rfl⟩
    ·exact .inl ((ar.mem a b c).mpr ⟨u,hu,e1,e2⟩)
    ·rcases zap.mp e2 with e2 | e2
     ·exact .inl ((ar.mem a b c).mpr ⟨u0,hu0,e1,e2⟩)
     ·have:=zaj.mp e2
      cases this
      exact .inr ⟨by rw [← e1];exact e0,rfl,rfl⟩
  ·rcases a1Z hu with ⟨hu,ne⟩ | ⟨u0,hu0,e0,rfl⟩
   ·exact ar.nm u hu
   ·refine ⟨(ar.nm u0 hu0).1,fun z hz=>?_⟩
    rcases zap.mp hz with hz | hz
    ·exact (ar.nm u0 hu0).2 z hz
    ·rw [zaj.mp hz];exact ⟨nx,ny⟩
  ·rcases a1Z hu with ⟨hu,ne⟩ | ⟨u0,hu0,e0,rfl⟩
   ·exact fr u hu
   ·exact fr u0 hu0
  ·rw [zaa (fun e=>ha (by rw [e];exact fr v hv))]
   exact gf a ha
 ·have nl:(al.map fun q=>(q.1,q.2.1)).lookup r=none:=by
   cases e:(al.map fun q=>(q.1,q.2.1)).lookup r with
   | none=>rfl
   | some v =>
    have h1:=a1m e
    refine absurd ?_ hr
    have:nms (al.map fun q=>(q.1,q.2.1))=nms al:=by unfold nms;rw [zat];rfl
    rw [← this]
    exact h1
  have hr2:r∉nms (al.map fun q=>(q.1,q.2.1)):=by
   have:nms (al.map fun q=>(q.1,q.2.1))=nms al:=by unfold nms;rw [zat];rfl
   rw [this];exact hr
  refine b1F topf rfl (by rw [zai];omega) (by rw [a0s,nl];rfl) ?_
  rw [a0T (f:=D.obj) hr2]
  have fA:f≠A:=fun e=>Af e.symm
  have atf:∀ {c},((S.set f (.lst [])).set A c) f=some (.lst []):=fun {c}=>by rw [zaa fA];exact zab
  refine ⟨a88 atf,?_⟩
  refine a2X ?_
  refine b3M ?_
  refine a2X ?_
  refine h2 _ _ ?_
  refine a2X ?_
  refine h3 _ _ ?_
  refine a7w ?_
  refine ⟨by rw [zai];show 2≤16777216;decide,?_⟩
  refine a7w ?_
  refine a3O atf (by rw [zai];decide) ?_
  have off:∀ {u:Str × Addr × List (Str × Str)},u∈al→u.2.1≠f∧u.2.1≠A:=fun {u} hu=>⟨zad (ar.at_ u hu) ff,fun e=>(zbd.mp ar.ad).1 (by rw [← e];exact zan.mpr ⟨u,hu,rfl⟩)⟩
  refine k _ ⟨⟨al ++ [(r,f,[(x,y)])],⟨?_,?_,by rw [zaw];have:=ar.few;show al.length + 1≤n + 1;omega,fun u hu=>?_,fun u hu=>?_,?_,fun a b c=>?_,fun u hu=>?_⟩,fun u hu=>?_⟩,h.f,fun a ha=>?_⟩
  ·rw [zaa Af,zab,zav]
   rfl
  ·unfold nms
   rw [zav]
   refine List.nodup_append.mpr ⟨ar.u,by simp,fun a ha b hb e=>?_⟩
   have hb:b=r:=by simpa using hb
   exact hr (by rw [← hb,← e];exact ha)
  ·rcases zap.mp hu with hu | hu
   ·rw [zaa (off hu).1,zaa (off hu).2,zaa (off hu).1];exact ar.at_ u hu
   ·rw [zaj.mp hu];exact zab
  ·rcases zap.mp hu with hu | hu
   ·have:=ar.len u hu;omega
   ·rw [zaj.mp hu];show 1≤n + 1;omega
  ·obtain ⟨a1,a2⟩:=zbd.mp ar.ad
   rw [zav]
   refine zbd.mpr ⟨fun h'=>?_,List.nodup_append.mpr ⟨a2,by simp,fun a ha b hb e=>?_⟩⟩
   ·rcases zap.mp h' with h' | h'
    ·exact a1 h'
    ·exact Af (by simpa using h')
   ·have hb:b=f:=by simpa using hb
    obtain ⟨u,hu,rfl⟩:=zan.mp ha
    exact (off hu).1 (by rw [← hb,← e])
  ·constructor
   ·rintro (h' | ⟨rfl,rfl,rfl⟩)
    ·obtain ⟨u,hu,e⟩:=(ar.mem a b c).mp h'
     exact ⟨u,zar _ hu,e⟩
    ·exact ⟨(a,f,[(b,c)]),zas _ zal,rfl,zal⟩
   ·rintro ⟨u,hu,e1,e2⟩
    rcases zap.mp hu with hu | hu
    ·exact .inl ((ar.mem a b c).mpr ⟨u,hu,e1,e2⟩)
    ·rw [zaj.mp hu] at e1 e2
     have:=zaj.mp e2
     cases this
     exact .inr ⟨e1.symm,rfl,rfl⟩
  ·rcases zap.mp hu with hu | hu
   ·exact ar.nm u hu
   ·rw [zaj.mp hu]
    exact ⟨nr,fun z hz=>by rw [zaj.mp hz];exact ⟨nx,ny⟩⟩
  ·rcases zap.mp hu with hu | hu
   ·exact fr u hu
   ·rw [zaj.mp hu];exact S0f
  ·have a1:a≠f:=fun e=>ha (by rw [e];exact S0f)
   have a2:a≠A:=fun e=>ha (by rw [e];exact h.f)
   rw [zaa a1,zaa a2,zaa a1]
   exact h.g a ha
theorem a5h {G:Gs} {δ:DS} {Y:XD'} {F:SE} {e1 e2 e3:RE} (h:a3C S0 S A R n) (hn:n < 1000) (nr:Nm r) (nx:Nm x) (ny:Nm y) (h1:∀ S1 K1,K1 (.str r) S1→den G.toGm e1 δ S1 Y K1) (h2:∀ S1 K1,K1 (.str x) S1→den G.toGm e2 δ S1 Y K1) (h3:∀ S1 K1,K1 (.str y) S1→den G.toGm e3 δ S1 Y K1) (hA:δ[2]?=some (some (.obj A)))
  (k:∀ S',a3C S0 S' A (fun a b c=>R a b c∨(a=r∧b=x∧c=y)) (n + 1)→F.nx δ S') :
  a0b G (.cons (.exp (.mth .app (.mth .dset (.var 2) (.cons e1 (.cons (.lst true .nil) .nil))) (.cons (.tup (.cons e2 (.cons e3 .nil))) .nil))) .nil) δ S Y F :=
 a4N (b0W (b3F h hn nr nx ny h1 h2 h3 hA fun S2 f2=>by show a0b G .nil δ S2 Y F;rw [a0b];exact k S2 f2))
theorem b1o {u:Str→Int} (r x y:Str):Arc (lm.take 0) u r x y↔False:=⟨fun ⟨q,hq,_⟩=>by simp at hq,fun h=>h.elim⟩
theorem b1p {u:Str→Int} {i:Nat} {q:Str × Str × Str × Option Int} (h:lm[i]?=some q) (a b c:Str):Arc (lm.take (i + 1)) u a b c↔(Arc (lm.take i) u a b c∨(a=q.2.1∧b=q.1∧c=q.2.2.1∧a5b q u))∨(a=q.2.2.1∧b=q.1∧c=q.2.1∧a3v q u):=by
 unfold Arc
 rw [take_snoc h]
 constructor
 ·rintro ⟨v,hv,e,g⟩
  rcases zap.mp hv with hv | hv
  ·exact .inl (.inl ⟨v,hv,e,g⟩)
  ·rw [zaj.mp hv] at e g
   rcases g with ⟨g1,g2,g3⟩ | ⟨g1,g2,g3⟩
   ·exact .inl (.inr ⟨g1.symm,e.symm,g2.symm,g3⟩)
   ·exact .inr ⟨g1.symm,e.symm,g2.symm,g3⟩
 ·rintro ((⟨v,hv,g⟩ | ⟨e1,e2,e3,g⟩) | ⟨e1,e2,e3,g⟩)
  ·exact ⟨v,zar _ hv,g⟩
  ·exact ⟨q,zas _ zal,e2.symm,.inl ⟨e1.symm,e3.symm,g⟩⟩
  ·exact ⟨q,zas _ zal,e2.symm,.inr ⟨e1.symm,e3.symm,g⟩⟩
theorem a3o.keep (h:a3o S A R n al) (g:∀ a,S a≠none→S' a=S a):a3o S' A R n al :=
 ⟨by rw [g A (by rw [h.top];exact nofun)];exact h.top,h.u,h.few,fun q hq=>by rw [g _ (by rw [h.at_ q hq];exact nofun)];exact h.at_ q hq,h.len,h.ad,h.mem,h.nm⟩
end
theorem c5J (c:SaysX fa fn fx K):Meets ((tb K).sn N15) ((tb K).G K 15) 2 false b1l b15:=by
 refine Qt.put_in ?_
 simp (disch :=
 with_unfolding_all
 refine Qt.keep ?_
 rintro m hm ds S KK Y ⟨rfl,p,q,lm,us,rfl,pq,⟨hp,lok⟩,hq,un,hK⟩
 refine ⟨rfl,?_⟩
 show a0b _ b15 [some _,some _,none,none,none,none,none] _ _ _
 unfold b15
 lia
 refine a2S fun A fA=>?_
 have pA:p≠A:=zad hp fA
 have qA:q≠A:=zad hq fA
 have hpA:(S.set A (.dic [])) p=some (.dic (a0g a1X lm)):=by rw [zaa pA];exact hp
 lia
 refine a5z hpA ?_
 lia
 refine ⟨p,_,rfl,zab,?_⟩
 have f0:a3C (S.set p (.loc (a0g a1X lm))) ((S.set A (.dic [])).set p (.loc (a0g a1X lm))) A (fun _ _ _=>False) 0:=by
  refine ⟨⟨[],⟨by rw [zaa pA.symm];exact zab,List.nodup_nil,Nat.le_refl _,(fun _ h=>nomatch h),(fun _ h=>nomatch h),by simp,fun _ _ _=>⟨fun h=>h.elim,fun ⟨_,h,_⟩=>nomatch h⟩,fun _ h=>nomatch h⟩,fun _ h=>nomatch h⟩,by rw [zaa pA.symm];exact fA,fun a ha=>?_⟩
  by_cases e:a=p
  ·rw [e,zab,zab]
  ·have e2:a≠A:=fun h=>ha (by rw [h,zaa pA.symm];exact fA)
   rw [zaa e,zaa e2,zaa e]
 have at_:∀ {S':SS} {R:Str→Str→Str→Prop} {n:Nat},a3C (S.set p (.loc (a0g a1X lm))) S' A R n→S' p=some (.loc (a0g a1X lm))∧S' q=some (.dic (a0g D.int us)):=fun {S' R n} f=>⟨f.g.at_ zab,f.g.at_ (by rw [zaa pq.symm];exact hq)⟩
 refine ⟨fun i δ' S'=>∃ x3 x4 x5 x6,a3C (S.set p (.loc (a0g a1X lm))) S' A (Arc (lm.take i) (a0d us)) (2 * i)∧δ'=[some (.obj p),some (.obj q),some (.obj A),x3,x4,x5,x6],⟨none,none,none,none,f0.iff b1o,rfl⟩,fun _ _ _ _ _=>trivial,?_,?_⟩
 ·rintro i d0 δ' S' hd ⟨x3,x4,x5,x6,f,rfl⟩
  obtain ⟨⟨l,x,y,o⟩,rfl,hi⟩:=a6A hd
  have mi:=zaq hi
  obtain ⟨nl,nx,ny⟩:=lok.nm _ mi
  have il:i < lm.length:=(List.getElem?_eq_some_iff.mp hi).1
  have few:=lok.few
  have look:=a2Z lok mi
  have hin:l∈nms us:=by rw [un];exact zan.mpr ⟨_,mi,rfl⟩
  refine a1O ?_
  lia
  refine a07 rfl ?_
  lia
  refine b5C (at_ f).1 rfl (a1L look) ?_
  refine ⟨_,rfl,rfl,?_⟩
  show a0b _ _ [some (.obj p),some (.obj q),some (.obj A),some (.str l),some (.str x),some (.str y),some (a5f o)] _ _ _
  refine a3k (fun δ' S'=>a3C (S.set p (.loc (a0g a1X lm))) S' A (fun a b c=>Arc (lm.take i) (a0d us) a b c∨(a=x∧b=l∧c=y∧a5b (l,x,y,o) (a0d us))) (2 * i + 1)∧δ'=[some (.obj p),some (.obj q),some (.obj A),some (.str l),some (.str x),some (.str y),some (a5f o)]) ?_ ?_
  ·have no:¬ a5b (l,x,y,o) (a0d us)→a3C (S.set p (.loc (a0g a1X lm))) S' A (fun a b c=>Arc (lm.take i) (a0d us) a b c∨(a=x∧b=l∧c=y∧a5b (l,x,y,o) (a0d us))) (2 * i + 1):=fun cg=>(f.iff fun a b c=>⟨fun h=>h.elim id fun ⟨_,_,_,h⟩=>absurd h cg,.inl⟩).more (by omega)
   have yes:a5b (l,x,y,o) (a0d us)→∀ {S2:SS},a3C (S.set p (.loc (a0g a1X lm))) S2 A (fun a b c=>Arc (lm.take i) (a0d us) a b c∨(a=x∧b=l∧c=y)) (2 * i + 1)→a3C (S.set p (.loc (a0g a1X lm))) S2 A (fun a b c=>Arc (lm.take i) (a0d us) a b c∨(a=x∧b=l∧c=y∧a5b (l,x,y,o) (a0d us))) (2 * i + 1):=fun cg {S2} f2=>f2.iff fun a b c=>⟨fun h=>h.elim .inl fun ⟨h1,h2,h3,_⟩=>.inr ⟨h1,h2,h3⟩,fun h=>h.elim .inl fun ⟨h1,h2,h3⟩=>.inr ⟨h1,h2,h3,cg⟩⟩
   cases o with
   | none =>
    have cg:a5b (l,x,y,none) (a0d us):=fun c' e=>by cases e
    unfold a5f
    lia
    rw [if_pos (show Sv.isNon D.non=true from rfl)]
    rw [if_pos rfl]
    exact a5h (r:=x) (x:=l) (y:=y) f (by omega) nx nl ny (fun _ _ k=>a1B rfl k) (fun _ _ k=>a1B rfl k) (fun _ _ k=>a1B rfl k) rfl fun S2 f2=>⟨yes cg f2,rfl⟩
   | some c =>
    unfold a5f
    lia
    rw [if_neg (show ¬ Sv.isNon (D.int c)=true from zbe)]
    lia
    refine a1I (at_ f).2 rfl (a1L (a3K hin)) ?_
    lia
    by_cases h:c - a0d us l > 0
    ·rw [if_pos (zbg h)]
     have cg:a5b (l,x,y,some c) (a0d us):=fun c' e=>by cases e;exact h
     exact a5h (r:=x) (x:=l) (y:=y) f (by omega) nx nl ny (fun _ _ k=>a1B rfl k) (fun _ _ k=>a1B rfl k) (fun _ _ k=>a1B rfl k) rfl fun S2 f2=>⟨yes cg f2,rfl⟩
    ·rw [if_neg (by rw [zah];exact h)]
     lia
     exact ⟨no fun cg=>h (cg c rfl),rfl⟩
  ·rintro δ' S' ⟨f,rfl⟩
   have sn:=fun a b c=>b1p (lm:=lm) (u:=a0d us) hi a b c
   have no:¬ a3v (l,x,y,o) (a0d us)→a3C (S.set p (.loc (a0g a1X lm))) S' A (Arc (lm.take (i + 1)) (a0d us)) (2 * (i + 1)):=fun cg=>(f.iff fun a b c=>(sn a b c).trans ⟨fun h=>h.elim id fun ⟨_,_,_,h⟩=>absurd h cg,.inl⟩).more (by omega)
   have yes:a3v (l,x,y,o) (a0d us)→∀ {S2:SS},a3C (S.set p (.loc (a0g a1X lm))) S2 A (fun a b c=>(Arc (lm.take i) (a0d us) a b c∨(a=x∧b=l∧c=y∧a5b (l,x,y,o) (a0d us)))∨(a=y∧b=l∧c=x)) (2 * i + 1 + 1)→a3C (S.set p (.loc (a0g a1X lm))) S2 A (Arc (lm.take (i + 1)) (a0d us)) (2 * (i + 1)):=fun cg {S2} f2=>f2.iff fun a b c=>(sn a b c).trans ⟨fun h=>h.elim .inl fun ⟨h1,h2,h3,_⟩=>.inr ⟨h1,h2,h3⟩,fun h=>h.elim .inl fun ⟨h1,h2,h3⟩=>.inr ⟨h1,h2,h3,cg⟩⟩
   cases o with
   | none =>
    have cg:a3v (l,x,y,none) (a0d us):=fun c' e=>by cases e
    unfold a5f
    lia
    rw [if_pos (show Sv.isNon D.non=true from rfl)]
    rw [if_pos rfl]
    exact a5h (r:=y) (x:=l) (y:=x) f (by omega) ny nl nx (fun _ _ k=>a1B rfl k) (fun _ _ k=>a1B rfl k) (fun _ _ k=>a1B rfl k) rfl fun S2 f2=>by first | exact ⟨_,_,_,_,yes cg f2,rfl⟩ | (show a0b _ .nil _ _ _ _;exact a8C ⟨_,_,_,_,yes cg f2,rfl⟩)
   | some c =>
    unfold a5f
    lia
    rw [if_neg (show ¬ Sv.isNon (D.int c)=true from zbe)]
    lia
    refine a1I (at_ f).2 rfl (a1L (a3K hin)) ?_
    lia
    by_cases h:c + a0d us l > 0
    ·rw [if_pos (zbg h)]
     have cg:a3v (l,x,y,some c) (a0d us):=fun c' e=>by cases e;exact h
     exact a5h (r:=y) (x:=l) (y:=x) f (by omega) ny nl nx (fun _ _ k=>a1B rfl k) (fun _ _ k=>a1B rfl k) (fun _ _ k=>a1B rfl k) rfl fun S2 f2=>by first | exact ⟨_,_,_,_,yes cg f2,rfl⟩ | (show a0b _ .nil _ _ _ _;exact a8C ⟨_,_,_,_,yes cg f2,rfl⟩)
    ·rw [if_neg (by rw [zah];exact h)]
     lia
     exact ⟨_,_,_,_,no fun cg=>h (cg c rfl),rfl⟩
 ·rintro δ' S' ⟨x3,x4,x5,x6,f,rfl⟩
  rw [zag,a0p,List.take_length] at f
  obtain ⟨al,ar,fr⟩:=f.ex
  have few:=lok.few
  have neA:A≠p:=pA.symm
  have nev:∀ v∈al,v.2.1≠p:=fun v hv e=>by
   have:=fr v hv
   rw [e,zab] at this
   cases this
  lia
  refine hK A _ (fun a ha=>?_) fA ⟨al,⟨by rw [zaa neA];exact ar.top,ar.u,by have:=ar.few;omega,fun v hv=>by rw [zaa (nev v hv)];exact ar.at_ v hv,fun v hv=>by have:=ar.len v hv;omega,ar.ad,ar.mem,ar.nm⟩⟩
  by_cases e:a=p
  ·rw [e,zab,hp]
  ·rw [zaa e,f.g a (by rw [zaa e];exact ha),zaa e]
 ) only [↓Qt.put_off]
variable {K:zbj}
section
variable {S S0 S1 S':SS} {w:Wo} {barred:List Str} {lm:Lms} {l x y r z:Str} {p q A f:Addr} {R:Str→Str→Str→Prop} {srcs T Rm:List Str} {cm:List (Str × Option (Str × Str))} {k:Nat}
theorem b7o {l:List Str} (u:l.Nodup) {i j:Nat} {a:Str} (h:l[i]?=some a) (h':l[j]?=some a):i=j :=
 (List.getElem?_inj (List.getElem?_eq_some_iff.mp h).1 u).mp (h.trans h'.symm)
theorem b6i (u:(nms cm).Nodup) {i j:Nat} {a:Str} {o o':Option (Str × Str)} (h:cm[i]?=some (a,o)) (h':cm[j]?=some (a,o')):i=j:=by
 have h1:=a6K h
 have h2:=a6K h'
 exact b7o u h1 h2
theorem a6i.add (h:a6i R srcs cm) {o:Option (Str × Str)} (hk:cm[k]?=some (z,o)) (hR:R z l y) (new:y∉nms cm):a6i R srcs (cm ++ [(y,some (l,z))]):=by
 refine ⟨?_,fun r hr=>?_,fun i r l' a hi=>?_⟩
 ·unfold nms
  rw [zav]
  refine List.nodup_append.mpr ⟨h.u,by simp,fun a ha b hb e=>?_⟩
  have hb:b=y:=by simpa using hb
  exact new (by rw [← hb,← e];exact ha)
 ·rcases zap.mp hr with hr | hr
  ·exact h.root r hr
  ·cases zaj.mp hr
 ·have kl:=(List.getElem?_eq_some_iff.mp hk).1
  by_cases hl:i < cm.length
  ·rw [List.getElem?_append_left hl] at hi
   obtain ⟨h1,j,o',hj,h2⟩:=h.par i r l' a hi
   exact ⟨h1,j,o',hj,by rw [List.getElem?_append_left (by omega)];exact h2⟩
  ·have:i=cm.length:=by
    have:=(List.getElem?_eq_some_iff.mp hi).1
    rw [zaw] at this
    have:i < cm.length + 1:=this
    omega
   subst this
   rw [List.getElem?_append_right (Nat.le_refl _),Nat.sub_self] at hi
   have hi:some (y,some (l,z))=some (r,some (l',a)):=hi
   cases hi
   exact ⟨hR,k,o,kl,by rw [List.getElem?_append_left kl];exact hk⟩
structure Sch (R:Str→Str→Str→Prop) (srcs T Rm:List Str) (cm:List (Str × Option (Str × Str))) (k:Nat) (ps:List (Str × Str)):Prop where
 ok:a6i R srcs cm
 s:∀ z∈srcs,z∈nms cm
 rm:∀ z∈nms cm,z∈Rm
 done:∀ j z o,j < k→cm[j]?=some (z,o)→z∉T∧∀ l y,R z l y→y∈nms cm
 now:∀ q∈ps,q.2∈nms cm
theorem Sch.few (h:Sch R srcs T Rm cm k []) (hr:Rm.length≤24):cm.length≤24:=by
 have h1:=a0C h.ok.u h.rm
 have h2:(nms cm).length=cm.length:=zag ..
 omega
theorem Sch.few' {ps:List (Str × Str)} (h:Sch R srcs T Rm cm k ps) (hr:Rm.length≤24):cm.length≤24:=by
 have h1:=a0C h.ok.u h.rm
 have h2:(nms cm).length=cm.length:=zag ..
 omega
theorem a3b {o:Option (Str × Str)}:nms (cm ++ [(y,o)])=nms cm ++ [y]:=by unfold nms;rw [zav];rfl
theorem Sch.add {ps:List (Str × Str)} (h:Sch R srcs T Rm cm k ps) {o:Option (Str × Str)} (hk:cm[k]?=some (z,o)) (hR:R z l y) (new:y∉nms cm) (hy:y∈Rm):Sch R srcs T Rm (cm ++ [(y,some (l,z))]) k (ps ++ [(l,y)]):=by
 have kl:=(List.getElem?_eq_some_iff.mp hk).1
 have old:∀ {a:Str},a∈nms cm→a∈nms (cm ++ [(y,some (l,z))]):=fun {a} ha=>by rw [a3b];exact zar _ ha
 refine ⟨h.ok.add hk hR new,fun a ha=>old (h.s a ha),fun a ha=>?_,fun j a o' hj ha=>?_,fun q hq=>?_⟩
 ·rw [a3b] at ha
  rcases zap.mp ha with ha | ha
  ·exact h.rm a ha
  ·rw [zaj.mp ha];exact hy
 ·rw [List.getElem?_append_left (by omega)] at ha
  obtain ⟨h1,h2⟩:=h.done j a o' hj ha
  exact ⟨h1,fun l' y' hr=>old (h2 l' y' hr)⟩
 ·rcases zap.mp hq with hq | hq
  ·exact old (h.now q hq)
  ·rw [zaj.mp hq,a3b]
   exact zas _ zal
theorem Sch.skip {ps:List (Str × Str)} (h:Sch R srcs T Rm cm k ps) (hy:y∈nms cm):Sch R srcs T Rm cm k (ps ++ [(l,y)]) :=
 ⟨h.ok,h.s,h.rm,h.done,fun q hq=>by
  rcases zap.mp hq with hq | hq
  ·exact h.now q hq
  ·rw [zaj.mp hq];exact hy⟩
theorem Sch.next {ps:List (Str × Str)} (h:Sch R srcs T Rm cm k ps) {o:Option (Str × Str)} (hk:cm[k]?=some (z,o)) (hT:z∉T) (all:∀ l y,R z l y→(l,y)∈ps):Sch R srcs T Rm cm (k + 1) [] :=
 ⟨h.ok,h.s,h.rm,fun j a o' hj ha=>by
  by_cases e:j=k
  ·subst e
   rw [hk] at ha
   cases ha
   exact ⟨hT,fun l y hr=>h.now (l,y) (all l y hr)⟩
  ·exact h.done j a o' (by omega) ha,fun _ h=>nomatch h⟩
theorem Sch.end (h:Sch R srcs T Rm cm cm.length []):∀ z∈srcs,¬ Behind R T z:=by
 have all:∀ z,Behind R T z→z∉nms cm:=fun z hz=>by
  induction hz with
  | base hT =>
   intro hm
   obtain ⟨q,hq,rfl⟩:=zan.mp hm
   obtain ⟨j,hj⟩:=List.getElem?_of_mem hq
   exact (h.done j q.1 q.2 (List.getElem?_eq_some_iff.mp hj).1 hj).1 hT
  | @step x l y a _ ih =>
   intro hm
   obtain ⟨q,hq,e⟩:=zan.mp hm
   obtain ⟨j,hj⟩:=List.getElem?_of_mem hq
   have e:q.1=x:=e
   exact ih ((h.done j q.1 q.2 (List.getElem?_eq_some_iff.mp hj).1 hj).2 l y (by rw [e];exact a))
 exact fun z hz hb=>all z hb (h.s z hz)
def StQ (S:SS) (p q:Addr) (cm:List (Str × Option (Str × Str))):SS:=(S.set p (.dic (a0g a3P cm))).set q (.lst ((nms cm).map D.str))
theorem b1q {al:ArL} {n:Nat} (h:a3o S A R n al) (z:Str):∃ x,∃ ps:List (Str × Str),((valD (a0g D.obj (al.map fun q=>(q.1,q.2.1))) (.inr z)).getD (.lst []))=x∧(∀ S',(∀ a,S a≠none→S' a=S a)→vw S' x=.lst (ps.map prD))∧(∀ l y,R z l y↔(l,y)∈ps)∧∀ q∈ps,Nm q.1∧Nm q.2:=by
 by_cases hz:z∈nms al
 ·obtain ⟨v,hv,e⟩:=zan.mp hz
  have e:v.1=z:=e
  have look:(al.map fun q=>(q.1,q.2.1)).lookup z=some v.2.1:=by
   rw [← e]
   exact a0e (l:=al.map fun q=>(q.1,q.2.1)) (by unfold nms;rw [zat];exact h.u) (q:=(v.1,v.2.1)) (zan.mpr ⟨v,hv,rfl⟩)
  refine ⟨.obj v.2.1,v.2.2,by rw [a1L look];rfl,fun S' g=>a8H (by rw [g _ (by rw [h.at_ v hv];exact nofun)];exact h.at_ v hv),fun l y=>?_,(h.nm v hv).2⟩
  constructor
  ·intro hr
   obtain ⟨u,hu,e1,e2⟩:=(h.mem z l y).mp hr
   rw [b3c h hu hv (by rw [e1,e])] at e2
   exact e2
  ·exact fun hm=>(h.mem z l y).mpr ⟨v,hv,e,hm⟩
 ·have nl:(al.map fun q=>(q.1,q.2.1)).lookup z=none:=by
   cases e:(al.map fun q=>(q.1,q.2.1)).lookup z with
   | none=>rfl
   | some v =>
    have h1:=a1m e
    have:nms (al.map fun q=>(q.1,q.2.1))=nms al:=by unfold nms;rw [zat];rfl
    rw [this] at h1
    exact absurd h1 hz
  refine ⟨.lst [],[],by rw [a0s,nl];rfl,fun _ _=>rfl,fun l y=>⟨fun hr=>?_,fun h=>nomatch h⟩,fun _ h=>nomatch h⟩
  obtain ⟨u,hu,e1,_⟩:=(h.mem z l y).mp hr
  exact absurd (zan.mpr ⟨u,hu,e1⟩) hz
end
theorem c6c (c:SaysX fa fn fx K):Meets ((tb K).sn N45) ((tb K).G K 45) 2 false (a4d K) b45:=by
 refine Qt.put_in ?_
 simp (disch :=
 with_unfolding_all
 refine Qt.keep ?_
 rintro m hm ds S KK Y ⟨rfl,L,a,b,c',d,w,barred,rfl,lay,ok,bn,hK⟩
 refine ⟨rfl,?_⟩
 show a0b _ b45 [some _,some _,none,none,none,none,none,none] _ _ _
 unfold b45
 have ok0:=ok.ok
 have ll:=ok.l
 have nl:(nms w.lines).length=w.lines.length:=zag ..
 lia
 refine a2S fun p fp=>?_
 have lay1:∀ {c},a1o (lc K) (S.set p c) L a b c' d w.lay:=fun {c}=>lay.grow (Grows.set fp)
 have ln:(a0w w barred).length≤40:=(a4v ok).few
 lia
 refine a4l (T:=a2y K fun st=>nms st.lines) rfl ?_
 lia
 refine a4A lay1.L rfl ?_
 lia
 refine ⟨rfl,L,a,b,c',d,w.lay,rfl,lay1,by show (nms w.lines).length < 64;omega,?_⟩
 refine ⟨_,rfl,?_⟩
 refine ⟨fun i δ' S'=>∃ x3 x4 x5 x6 x7,S'=S.set p (.dic (a0g a1X ((a0w w barred).take i)))∧δ'=[some (.obj L),some (.lst (barred.map D.str)),some (.obj p),x3,x4,x5,x6,x7],⟨none,none,none,none,none,rfl,rfl⟩,fun _ _ _ _ _=>rfl,?_,?_⟩
 ·rintro i d0 δ' S' hd ⟨x3,x4,x5,x6,x7,rfl,rfl⟩
  rw [zbh,zam] at hd
  obtain ⟨l,hl,rfl⟩:=hd
  have ml:=a0v.mp (zaq hl)
  obtain ⟨⟨l',x,y,kk⟩,hq,rfl⟩:=zan.mp ml
  have hq:(l',x,y,kk)∈w.lines:=hq
  have hl:(a0l (nms w.lines))[i]?=some l':=hl
  obtain ⟨nl',rx,ry,ne,k0,k1⟩:=ok.ln _ hq
  have look:w.lay.lines.lookup l'=some (x,y,kk):=a0e ok.lu hq
  have hi:(a0w w barred)[i]?=some (l',a5r w barred l'):=by unfold a0w;rw [zbh,hl];rfl
  have eo:a5r w barred l'=(x,y,if kk=0∨l'∈barred then none else some kk):=a6D ok hq
  have new:l'∉nms ((a0w w barred).take i):=by
   have e:nms ((a0w w barred).take i)=(nms (a0w w barred)).take i:=List.map_take ..
   rw [e,a5T]
   exact a6J (a1N ok.lu) hl
  refine a1O ?_
  lia
  refine a07 rfl ?_
  lia
  refine a4l (T:=a7h K) rfl ?_
  lia
  refine a4A lay1.L rfl ?_
  lia
  refine ⟨rfl,L,a,b,c',d,w.lay,l',(x,y,kk),rfl,nl',lay1,look,?_⟩
  refine ⟨_,rfl,rfl,?_⟩
  show a0b _ _ [some (.obj L),some (.lst (barred.map D.str)),some (.obj p),some (.str l'),some (.str x),some (.str y),some (.int kk),x7] _ _ _
  lia
  refine a3k (fun δ' S'=>S'=S.set p (.dic (a0g a1X ((a0w w barred).take i)))∧δ'=[some (.obj L),some (.lst (barred.map D.str)),some (.obj p),some (.str l'),some (.str x),some (.str y),some (.int kk),some (a5f (if kk=0∨l'∈barred then none else some kk))]) ?_ ?_
  ·lia
   by_cases h0:kk=0
   ·rw [if_pos (zbg h0)]
    rw [if_pos rfl]
    lia
    exact ⟨rfl,by rw [if_pos (.inl h0)];rfl⟩
   ·rw [if_neg (by rw [zah];exact h0)]
    lia
    refine b68 nl'.fine (fun z hz=>(bn z hz).fine) ?_
    lia
    by_cases hb:l'∈barred
    ·rw [if_pos (zbg hb)]
     lia
     exact ⟨rfl,by rw [if_pos (.inr hb)];rfl⟩
    ·rw [if_neg (by rw [zah];exact hb)]
     lia
     exact ⟨rfl,by rw [if_neg (fun h=>h.elim h0 hb)];rfl⟩
  ·rintro δ' S' ⟨rfl,rfl⟩
   lia
   refine a3i zab rfl (by rw [a0p,zai,List.length_take];omega) ?_
   rw [zac,show (D.tup [.str x,.str y,a5f (if kk=0∨l'∈barred then none else some kk)])=a1X (a5r w barred l') by rw [eo];rfl,a0T new,← take_snoc hi]
   lia
   exact ⟨_,_,_,_,_,rfl,rfl⟩
 ·rintro δ' S' ⟨x3,x4,x5,x6,x7,rfl,rfl⟩
  rw [zag,List.take_of_length_le (by unfold a0w;rw [zag];exact Nat.le_refl _)]
  lia
  exact hK p _ (Grows.set fp) fp ⟨zab,a4v ok⟩
 ) only [↓Qt.put_off]
theorem c6m (c:SaysX fa fn fx K):Meets ((tb K).sn N55) ((tb K).G K 55) 3 false (a4e K) b55:=by
 refine Qt.put_in ?_
 simp (disch :=
 with_unfolding_all
 refine Qt.keep ?_
 rintro m hm ds S KK Y ⟨rfl,L,a,b,c',d,w,p,barred,rs,rfl,lay,ok,⟨hp,lok⟩,as,ne,ends⟩
 refine ⟨rfl,?_⟩
 show a0b _ b55 [some _,some _,some _,none,none,none] _ _ _
 unfold b55
 have lok':=lok.few
 lia
 refine a5z hp ?_
 lia
 refine ⟨p,_,rfl,zab,?_⟩
 refine a2e id (fun x=>match x with | .str z=>decide (z∈a1T w barred) | _=>false) (by rw [zag,a0p,zai];omega) (fun _ _ _=>trivial) (fun pq ii acc d0 K1 KN hd hpq hk hn=>?_) ?_
 ·obtain ⟨⟨l,x,y,o⟩,rfl,hi⟩:=a6A hd
  have mi:=zaq hi
  have look:=a2Z lok mi
  have inC:l∈a1T w barred↔o.isSome=true:=by
   unfold a1T
   constructor
   ·intro h
    obtain ⟨q,hq,e⟩:=zan.mp h
    obtain ⟨h1,h2⟩:=zay.mp hq
    rw [a2s lok h1 mi e] at h2
    exact h2
   ·exact fun h=>zan.mpr ⟨_,zay.mpr ⟨mi,h⟩,rfl⟩
  refine a1O (b2J ?_)
  show a0u _ _ [some _,some (.obj p),some _,none,none,some (.str l)] _ _ _
  lia
  refine b5C (by rw [zaa (zad zab hpq)];exact zab) rfl (a1L look) ?_
  lia
  refine a80 (d:=a5f o) (atI_nat (j:=2) rfl) ?_
  cases o with
  | none =>
   unfold a5f
   lia
   rw [if_neg (by decide)]
   exact hn (zbf fun h=>zbe (inC.mp h))
  | some cc =>
   unfold a5f
   lia
   rw [if_pos (show (!Sv.isNon (D.int cc))=true from rfl)]
   lia
   exact hk (zbg (inC.mpr rfl))
 have ec:(((a0g a1X (a0w w barred)).map fun kv=>keyV kv.1).filter (fun x=>match x with | .str z=>decide (z∈a1T w barred) | _=>false)).map id=(a1T w barred).map D.str:=by
  have e1:((a0g a1X (a0w w barred)).map fun kv=>keyV kv.1)=(a0w w barred).map fun q=>D.str q.1:=by unfold a0g;rw [zat];rfl
  rw [List.map_id,e1,List.filter_map]
  unfold a1T nms
  rw [zat]
  refine congrArg (List.map _) (List.filter_congr fun q hq=>?_)
  show decide (q.1∈nms ((a0w w barred).filter fun q=>q.2.2.2.isSome))=q.2.2.2.isSome
  cases e:q.2.2.2 with
  | none =>
   refine zbf fun h=>?_
   obtain ⟨q',hq',e'⟩:=zan.mp h
   obtain ⟨h1,h2⟩:=zay.mp hq'
   rw [a2s lok h1 hq e',e] at h2
   cases h2
  | some v=>exact zbg (zan.mpr ⟨q,zay.mpr ⟨hq,by rw [e];rfl⟩,rfl⟩)
 rw [ec]
 have hS:(S.set p (.loc (a0g a1X (a0w w barred)))).set p (.dic (a0g a1X (a0w w barred)))=S:=by rw [zac,SS.set_id hp]
 show a0b _ _ _ ((S.set p (.loc (a0g a1X (a0w w barred)))).set p (.dic (a0g a1X (a0w w barred)))) _ _
 rw [hS]
 have as2:a8L w (a1T w barred) rs:=by
  obtain ⟨_,_,_,r1,r2,r3⟩:=as
  refine ⟨fun z hz=>?_,?_,?_,r1,r2,r3⟩
  ·obtain ⟨q,hq,rfl⟩:=zan.mp hz
   obtain ⟨h1,h2⟩:=zay.mp hq
   obtain ⟨r,hr,rfl⟩:=a1i ok h1
   have h2:(if r.2.2.2=0∨r.1∈barred then none else some r.2.2.2).isSome=true:=h2
   obtain ⟨_,_,_,_,k0,_⟩:=ok.ln r hr
   have:r.2.2.2≠0:=fun e=>by rw [if_pos (.inl e)] at h2;cases h2
   exact zan.mpr ⟨r,zay.mpr ⟨hr,zbg (by omega)⟩,rfl⟩
  ·exact List.Sublist.nodup (List.Sublist.map _ (List.filter_sublist)) lok.u
  ·unfold a1T nms
   rw [zag]
   exact Nat.le_trans (zbb _ _) lok.few
 lia
 refine a0a (T:=a9t K) rfl ?_
 lia
 refine ⟨rfl,L,a,b,c',d,w,a1T w barred,rs,rfl,lay,ok,as2,ne,fun o ho=>?_⟩
 have ends:=ends o ho
 cases o with
 | none =>
  lia
  rw [if_neg (by decide)]
  lia
  exact ends
 | some ws =>
  intro wne wfew q S' gr fq at_q
  lia
  rw [if_pos (show (!Sv.isNon (D.obj q))=true from rfl)]
  refine a4N ?_
  exact a3J rfl rfl rfl (by lia;exact ⟨_,rfl,ends ⟨wne,wfew⟩ q S' gr fq at_q⟩)
 ) only [↓Qt.put_off]
theorem c5I (c:SaysX fa fn fx K):Meets ((tb K).sn N14) ((tb K).G K 14) 2 false a3u b14:=by
 refine Qt.put_in ?_
 simp (disch :=
 with_unfolding_all
 refine Qt.keep ?_
 rintro m hm ds S KK Y ⟨rfl,p,cm,R,srcs,room,rfl,hp,co,hr,few,nm,hK⟩
 refine ⟨rfl,?_⟩
 show a0b _ b14 [some _,some _,none,none,none] _ _ _
 unfold b14
 lia
 intro f ff
 have offp:∀ {c},(S.set f c) p=some (.dic (a0g a3P cm)):=fun {c}=>by rw [zaa (zad hp ff)];exact hp
 obtain ⟨j0,o0,hj0⟩:∃ j o,cm[j]?=some (room,o):=by
  obtain ⟨q,hq,e⟩:=zan.mp hr
  obtain ⟨j,hj⟩:=List.getElem?_of_mem hq
  exact ⟨j,q.2,by rw [hj];exact congrArg some (Prod.ext e rfl)⟩
 lia
 refine a6W (fun mm δ' S'=>∃ rm o st x3 x4,cm[mm]?=some (rm,o)∧Chain (RP3 R) rm st room∧(∀ s∈st,∃ j o,mm < j∧cm[j]?=some (s.2.2,o))∧(st.map fun s=>s.2.2).Nodup∧S'=S.set f (.lst (st.reverse.map stD))∧δ'=[some (.obj p),some (.str rm),some (.obj f),x3,x4]) ⟨room,o0,[],none,none,hj0,.nil,(fun _ h=>nomatch h),List.nodup_nil,rfl,rfl⟩ ?_
 rintro mm δ' S' ⟨rm,o,st,x3,x4,hj,ch,idx,nd,rfl,rfl⟩
 have mj:=zaq hj
 have look:cm.lookup rm=some o:=a0e co.u mj
 have stl:st.length≤24:=by
  have h1:=a0C nd (r:=nms cm) fun z hz=>by
   obtain ⟨s,hs,rfl⟩:=zan.mp hz
   obtain ⟨j,o,_,h⟩:=idx s hs
   exact zan.mpr ⟨_,zaq h,rfl⟩
  rw [zag] at h1
  have h2:(nms cm).length=cm.length:=zag ..
  omega
 have no:rm∉st.map fun s=>s.2.2:=fun h=>by
  obtain ⟨s,hs,e⟩:=zan.mp h
  obtain ⟨j,o',lt,h⟩:=idx s hs
  rw [e] at h
  have:=b6i co.u hj h
  omega
 lia
 refine a1I offp rfl (a1L look) ?_
 lia
 cases o with
 | none =>
  rw [if_neg (by show ¬ (!Sv.isNon (a3P none))=true;decide)]
  lia
  refine ⟨_,a8H zab,?_⟩
  unfold outL
  rw [if_neg zbe,← List.map_reverse,List.reverse_reverse]
  exact hK st rm _ (Grows.set ff) (co.root rm mj) ch (zbd.mpr ⟨no,nd⟩)
 | some v =>
  obtain ⟨l,a⟩:=v
  rw [if_pos (show (!Sv.isNon (a3P (some (l,a))))=true from rfl)]
  obtain ⟨hR,j',o',lt,hj'⟩:=co.par mm rm l a hj
  refine a4N ?_
  refine a07 rfl ?_
  lia
  refine a1I offp rfl (a1L look) ?_
  refine ⟨_,rfl,rfl,?_⟩
  show a0b _ _ [some (.obj p),some (.str rm),some (.obj f),some (.str l),some (.str a)] _ _ _
  lia
  refine ⟨a88 zab,?_⟩
  lia
  refine a3O zab (by rw [zag,List.length_reverse,zai];omega) ?_
  lia
  refine ⟨j',lt,a,o',(a,l,rm) :: st,_,_,hj',.cons hR ch,fun s hs=>?_,zbd.mpr ⟨no,nd⟩,?_,rfl⟩
  ·rcases zau.mp hs with rfl | hs
   ·exact ⟨mm,_,lt,hj⟩
   ·obtain ⟨j,o,h1,h2⟩:=idx s hs
    exact ⟨j,o,by omega,h2⟩
  ·rw [zac,List.reverse_cons,zav]
   rfl
 ) only [↓Qt.put_off]
theorem c51 (c:SaysX fa fn fx K):Meets ((tb K).sn N34) ((tb K).G K 34) 3 false a2N b34:=by
 refine Qt.put_in ?_
 simp (disch :=
 with_unfolding_all
 refine Qt.keep ?_
 rintro m hm ds S KK Y ⟨rfl,A,R,Rm,srcs,T,rfl,⟨al,ar⟩,su,fw,tn,hN,hY⟩
 refine ⟨rfl,?_⟩
 show a0b _ b34 [some _,some _,some _,none,none,none,none,none,none,none] _ _ _
 unfold b34
 have sl:srcs.length≤24:=Nat.le_trans (a0C su fw.s) fw.n
 lia
 refine ⟨_,rfl,?_⟩
 refine a2e (fun x=>.tup [x,.non]) (fun _=>true) (by rw [zag,zai];omega) (fun _ _ _=>rfl) (fun p i acc d0 K1 KN hd hp hk hn=>?_) ?_
 ·refine a1O (b1c ?_)
  rw [if_pos rfl]
  show den _ _ [some _,some _,some _,none,none,none,none,none,none,some d0] _ _ _
  lia
  exact hk rfl
 have e0:(((srcs.map D.str).filter fun _=>true).map fun x=>D.tup [x,.non])=(srcs.map fun z=>((z,none):Str × Option (Str × Str))).map fun q=>D.tup [.str q.1,a3P q.2]:=by
  rw [zbc.mpr (fun _ _=>rfl),zat,zat]
  rfl
 rw [e0]
 have e1:nms (srcs.map fun z=>((z,none):Str × Option (Str × Str)))=srcs:=by
  unfold nms
  rw [zat]
  exact List.map_id' _
 refine a9L (f:=a3P) (by rw [e1];exact su) fun p fp=>?_
 lia
 refine b2T fun q fq=>?_
 have pq:p≠q:=zad zab fq
 have fq0:S q=none:=by rw [zaa pq.symm] at fq;exact fq
 have at_p:∀ {cm},StQ S p q cm p=some (.dic (a0g a3P cm)):=fun {cm}=>by unfold StQ;rw [zaa pq];exact zab
 have at_q:∀ {cm},StQ S p q cm q=some (.lst ((nms cm).map D.str)):=fun {cm}=>zab
 have gr:∀ {cm},Grows S (StQ S p q cm):=fun {cm} a ha=>by
  unfold StQ
  rw [zaa (fun e=>ha (by rw [e];exact fq0)),zaa (fun e=>ha (by rw [e];exact fp))]
 have eS:(S.set p (.dic (a0g a3P (srcs.map fun z=>((z,none):Str × Option (Str × Str)))))).set q (.lst (srcs.map D.str))=StQ S p q (srcs.map fun z=>(z,none)):=by
  unfold StQ
  rw [e1]
 rw [eS]
 have s0:Sch R srcs T Rm (srcs.map fun z=>(z,none)) 0 []:=by
  refine ⟨⟨by rw [e1];exact su,fun r hr=>?_,fun i r l a hi=>?_⟩,fun z hz=>by rw [e1];exact hz,fun z hz=>by rw [e1] at hz;exact fw.s z hz,(fun j _ _ h=>absurd h (Nat.not_lt_zero j)),fun _ h=>nomatch h⟩
  ·obtain ⟨z,hz,e⟩:=zan.mp hr
   cases e
   exact hz
  ·rw [zbh,zam] at hi
   obtain ⟨z,_,e⟩:=hi
   cases e
 lia
 refine a6W (fun mm δ' S'=>∃ cm k x6 x7 x8,Sch R srcs T Rm cm k []∧k≤cm.length∧mm=24 - k∧S'=StQ S p q cm∧δ'=[some (.obj A),some (.lst (srcs.map D.str)),some (.lst (T.map D.str)),some (.obj p),some (.obj q),some (.int (k:Nat)),x6,x7,x8,none]) ⟨_,0,none,none,none,s0,Nat.zero_le _,rfl,rfl,rfl⟩ ?_
 rintro mm δ' S' ⟨cm,k,x6,x7,x8,sc,kl,rfl,rfl,rfl⟩
 have few:=sc.few fw.n
 lia
 refine b4v at_q ?_
 lia
 by_cases hk:k < cm.length
 case neg =>
  rw [if_neg (by rw [zah,zag,a0S];omega)]
  have ek:k=cm.length:=by omega
  subst ek
  lia
  exact hN _ gr sc.end
 rw [if_pos (by rw [zah,zag,a0S];omega)]
 obtain ⟨z,o,hz⟩:∃ z o,cm[k]?=some (z,o):=⟨cm[k].1,cm[k].2,zbi hk⟩
 have mz:=zaq hz
 have rz:z∈Rm:=sc.rm z (zan.mpr ⟨_,mz,rfl⟩)
 have nz:=fw.nm z rz
 lia
 refine a8Z at_q (a1K (a6K hz)) ?_
 lia
 refine b3g rfl ?_
 lia
 refine b68 nz.fine (fun s hs=>(tn s hs).fine) ?_
 lia
 by_cases hT:z∈T
 ·rw [if_pos (zbg hT)]
  lia
  refine a0a (T:=a3u) rfl ?_
  lia
  exact ⟨rfl,p,cm,R,srcs,z,rfl,at_p,sc.ok,zan.mpr ⟨_,mz,rfl⟩,few,fun q hq=>fw.nm _ (sc.rm _ (zan.mpr ⟨q,hq,rfl⟩)),fun st x S2 g hx ch nd=>hY st x z S2 (gr.trans g) hx hT ch nd⟩
 rw [if_neg (by rw [zah];exact hT)]
 have topA:∀ {cm},StQ S p q cm A=some (.dic (a0g D.obj (al.map fun q=>(q.1,q.2.1)))):=fun {cm}=>gr.at_ ar.top
 obtain ⟨x,ps,ex,vx,mem,pn⟩:=b1q ar z
 lia
 refine ⟨b2m topA,?_⟩
 lia
 refine ⟨_,.inr z,b3i topA,rfl,?_⟩
 rw [ex]
 refine ⟨_,vx _ gr,?_⟩
 refine ⟨fun i δ' S'=>∃ cm x7 x8,Sch R srcs T Rm cm k (ps.take i)∧cm[k]?=some (z,o)∧S'=StQ S p q cm∧δ'=[some (.obj A),some (.lst (srcs.map D.str)),some (.lst (T.map D.str)),some (.obj p),some (.obj q),some (.int (k + 1)),some (.str z),x7,x8,none],⟨cm,x7,x8,by rw [List.take_zero];exact sc,hz,rfl,rfl⟩,fun i S' δ' ⟨cm,_,_,_,_,e,_⟩ _=>by rw [e];exact vx _ gr,?_,?_⟩
 ·rintro i d0 δ' S' hd ⟨cm,x7,x8,sc,hz,rfl,rfl⟩
  rw [zbh,zam] at hd
  obtain ⟨⟨l,y⟩,hi,rfl⟩:=hd
  have mi:=zaq hi
  obtain ⟨nl,ny⟩:=pn _ mi
  have hR:=(mem l y).mpr mi
  have ry:=(fw.r z l y hR).2
  have few:=sc.few' fw.n
  have ts:ps.take (i + 1)=ps.take i ++ [(l,y)]:=take_snoc hi
  refine ⟨_,rfl,rfl,?_⟩
  show a0b _ _ [some (.obj A),some (.lst (srcs.map D.str)),some (.lst (T.map D.str)),some (.obj p),some (.obj q),some (.int (k + 1)),some (.str z),some (.str l),some (.str y),none] _ _ _
  lia
  refine a82 at_p rfl ?_
  rw [a01]
  lia
  by_cases hy:y∈nms cm
  ·rw [if_neg (by rw [zbg hy];decide)]
   lia
   exact ⟨cm,_,_,by rw [ts];exact sc.skip hy,hz,rfl,rfl⟩
  ·rw [if_pos (by rw [zbf hy];rfl)]
   lia
   refine a3i at_p rfl (by rw [a0p,zai];omega) ?_
   rw [show (D.tup [.str l,.str z])=a3P (some (l,z)) from rfl,a0T hy]
   lia
   have at_q2:((StQ S p q cm).set p (.dic (a0g a3P (cm ++ [(y,some (l,z))])))) q=some (.lst ((nms cm).map D.str)):=by rw [zaa pq.symm];exact at_q
   refine ⟨a88 at_q2,?_⟩
   lia
   refine a3O at_q2 (by rw [zag,a0S,zai];omega) ?_
   have e3:((StQ S p q cm).set p (.dic (a0g a3P (cm ++ [(y,some (l,z))])))).set q (.lst ((nms cm).map D.str ++ [.str y]))=StQ S p q (cm ++ [(y,some (l,z))]):=by
    unfold StQ
    rw [zae pq.symm,zac,zac,a3b,zav]
    rfl
   rw [e3]
   lia
   exact ⟨_,_,_,by rw [ts];exact sc.add hz hR hy ry,by rw [List.getElem?_append_left (List.getElem?_eq_some_iff.mp hz).1];exact hz,rfl,rfl⟩
 ·rintro δ' S' ⟨cm,x7,x8,sc,hz,rfl,rfl⟩
  rw [zag,List.take_length] at sc
  have hk:=(List.getElem?_eq_some_iff.mp hz).1
  have few:=sc.few' fw.n
  lia
  exact ⟨24 - (k + 1),by omega,cm,k + 1,_,_,_,sc.next hz hT fun l y h=>(mem l y).mp h,by omega,rfl,rfl,rfl⟩
 ) only [↓Qt.put_off]
variable {K:zbj}
def Found (lm:Lms) (u:Str→Int) (srcs T:List Str):Option (List Stp)→Prop
 | none=>∀ z∈srcs,¬ Behind (Arc lm u) T z
 | some st=>∃ x y,x∈srcs∧y∈T∧Chain (b8M lm u) x st y∧(x :: st.map fun s=>s.2.2).Nodup
def a3G:Option (List Stp)→D
 | none=>.non
 | some st=>.lst (st.map stD)
section
variable {S S0 S1 S':SS} {w:Wo} {barred rs:List Str} {lm:Lms} {l x y r z:Str} {p q A f:Addr} {R:Str→Str→Str→Prop} {srcs T Rm X Y0:List Str} {us:List (Str × Int)} {st:List Stp} {amt:Int} {u:Str→Int}
theorem a5I (hs:∀ z∈srcs,z∈Rm) (hl:∀ q∈lm,q.2.1∈Rm∧q.2.2.1∈Rm) (hr:Rm.length≤24) (hn:∀ z∈Rm,Nm z):a5a (Arc lm u) srcs Rm :=
 ⟨hr,hs,fun x l y h=>by
  obtain ⟨q,hq,_,⟨rfl,rfl,_⟩ | ⟨rfl,rfl,_⟩⟩:=h
  ·exact hl q hq
  ·exact ⟨(hl q hq).2,(hl q hq).1⟩,hn⟩
theorem search (c:SaysX fa fn fx K) {x4 x5:Option D} {Y:XD'} {KK:DK} (hp:a7e S p lm) (pq:p≠q) (hq:S q=some (.dic (a0g D.int us))) (un:nms us=nms lm) (su:srcs.Nodup) (fw:a5a (Arc lm (a0d us)) srcs Rm) (tn:∀ z∈T,Nm z) (k:∀ o S',Grows S S'→Found lm (a0d us) srcs T o→KK (a3G o) S') :
  den ((tb K).G K 48 none).toGm (.call 34 (.cons (.call 15 (.cons (.var 0) (.cons (.var 3) .nil))) (.cons (.var 1) (.cons (.var 2) .nil)))) [some (.obj p),some (.lst (srcs.map D.str)),some (.lst (T.map D.str)),some (.obj q),x4,x5] S Y KK:=by
 refine a0a (T:=a2N) rfl ?_
 lia
 refine a0a (T:=b1l) rfl ?_
 lia
 refine ⟨rfl,p,q,lm,us,rfl,pq,hp,hq,un,fun A S2 g2 fA arcs=>?_⟩
 lia
 exact ⟨rfl,A,_,Rm,srcs,T,rfl,arcs,su,fw,tn,fun S3 g3 no=>k none S3 (g2.trans g3) no,fun st x y S3 g3 hx hy ch nd=>k (some st) S3 (g2.trans g3) ⟨x,y,hx,hy,ch,nd⟩⟩
theorem cross (cut:a2w lm srcs T Y0) (ch:Chain (b8M lm u) x st y) (hx:x∉Y0) (hy:y∈Y0):∃ s∈st,∃ r∈lm,r.1=s.2.1∧r.2.2.2≠none:=by
 induction ch with
 | nil=>exact absurd hy hx
 | @cons a l b z st pa _ ih =>
  by_cases hb:b∈Y0
  ·obtain ⟨q,hq,e,g⟩:=a2l pa
   refine ⟨_,zal,q,hq,e,cut.b q hq ?_⟩
   rcases g with ⟨g1,g2⟩ | ⟨g1,g2⟩
   ·exact .inr ⟨by rw [g1];exact hx,by rw [g2];exact hb⟩
   ·exact .inl ⟨by rw [g2];exact hb,by rw [g1];exact hx⟩
  ·obtain ⟨s,hs,r⟩:=ih hb hy
   exact ⟨s,zao _ hs,r⟩
theorem c1j (lok:a6j lm):a1f lm (a0d (lm.map fun q=>(q.1,(0:Int)))) srcs T∧∀ l,a0d (lm.map fun q=>(q.1,(0:Int))) l=0:=by
 have e':∀ (lm:Lms) l,a0d (lm.map fun q=>(q.1,(0:Int))) l=0:=fun lm l=>by
  unfold a0d
  induction lm with
  | nil=>rfl
  | cons a lm ih =>
   rw [zax,List.lookup_cons]
   split
   ·rfl
   ·exact ih
 have e:=e' lm
 refine ⟨⟨fun q hq c hc=>?_,fun r _ _=>?_⟩,e⟩
 ·have:=lok.c q hq c hc
  rw [e]
  omega
 ·unfold net
  exact a4S fun q _=>by rw [e,Int.mul_zero]
end
theorem c6f (c:SaysX fa fn fx K):Meets ((tb K).sn N48) ((tb K).G K 48) 3 false a1z b48:=by
 refine Qt.put_in ?_
 simp (disch :=
 with_unfolding_all
 refine Qt.keep ?_
 rintro m hm ds S KK Y ⟨rfl,p,lm,Y0,Rm,srcs,T,rfl,⟨hp,lok⟩,su,tu,tn,cut,rl,rs_,rlm,rn,hK⟩
 refine ⟨rfl,?_⟩
 show a0b _ b48 [some _,some _,some _,none,none,none] _ _ _
 unfold b48
 have few:=lok.few
 have fw:∀ {u},a5a (Arc lm u) srcs Rm:=fun {u}=>a5I rs_ rlm rl rn
 lia
 refine b6o hp ?_
 lia
 refine ⟨p,_,rfl,zab,?_⟩
 refine a2e (fun x=>.tup [x,.int 0]) (fun _=>true) (by rw [zag,a0p,zai];omega) (fun _ _ _=>trivial) (fun pq ii acc d0 K1 KN hd hpq hk hn=>?_) ?_
 ·refine a1O (b1c ?_)
  rw [if_pos rfl]
  show den _ _ [some _,some _,some _,none,none,some d0] _ _ _
  lia
  exact hk rfl
 have e0:((((a0g a1X lm).map fun kv=>keyV kv.1).filter fun _=>true).map fun x=>D.tup [x,.int 0])=(lm.map fun q=>(q.1,(0:Int))).map fun q=>D.tup [.str q.1,.int q.2]:=by
  rw [zbc.mpr (fun _ _=>rfl)]
  unfold a0g
  rw [zat,zat,zat]
  rfl
 rw [e0]
 rw [show (S.set p (.loc (a0g a1X lm))).set p (.dic (a0g a1X lm))=S by rw [zac,SS.set_id hp]]
 have e1:nms (lm.map fun q=>(q.1,(0:Int)))=nms lm:=by
  unfold nms
  rw [zat]
  rfl
 refine a9L (f:=D.int) (by rw [e1];exact lok.u) fun q fq=>?_
 have pq:p≠q:=zad hp fq
 obtain ⟨fl0,_⟩:=c1j (lm:=lm) (srcs:=srcs) (T:=T) lok
 lia
 refine search c (Rm:=Rm) ⟨by rw [zaa pq];exact hp,lok⟩ pq zab e1 su fw tn fun o S1 g1 fo=>?_
 have q1:=g1.at_ (q:=q) zab
 have g1:=(Grows.set fq).trans g1
 lia
 refine a6W (fun mm δ' S'=>∃ us o x5,nms us=nms lm∧a1f lm (a0d us) srcs T∧Found lm (a0d us) srcs T o∧mm=(a2R lm Y0 - net lm (a0d us) T).toNat∧Grows S S'∧S' q=some (.dic (a0g D.int us))∧δ'=[some (.obj p),some (.lst (srcs.map D.str)),some (.lst (T.map D.str)),some (.obj q),some (a3G o),x5]) ⟨_,o,none,e1,fl0,fo,rfl,g1,q1,rfl⟩ ?_
 rintro mm δ' S' ⟨us,o,x5,un,fl,fo,rfl,g,hq,rfl⟩
 lia
 cases o with
 | none =>
  rw [if_neg (by show ¬ (!Sv.isNon (a3G none))=true;decide)]
  lia
  exact hK q us S' g fq hq un fl fo
 | some st =>
  obtain ⟨x,y,hx,hy,ch,nd⟩:=fo
  rw [if_pos (show (!Sv.isNon (a3G (some st)))=true from rfl)]
  have x0:x∉Y0:=cut.s x hx
  have y0:=cut.t y hy
  have xT:x∉T:=fun h=>x0 (cut.t x h)
  have hp':=g.at_ hp
  have stl:st.length≤1000:=by
   have h1:=a0C (zbd.mp nd).2 (r:=Rm) fun z hz=>by
    obtain ⟨s,hs,rfl⟩:=zan.mp hz
    exact ((fw (u:=a0d us)).r _ _ _ (ch.all s hs)).2
   rw [zag] at h1
   omega
  refine a4N ?_
  refine b0W ?_
  refine a0a (T:=a2L) rfl ?_
  lia
  refine a0a (T:=a3q) rfl ?_
  lia
  refine ⟨rfl,p,q,lm,us,st,rfl,pq,⟨hp',lok⟩,hq,un,fun s hs=>ch.all s hs,stl,cross cut ch x0 y0,fun amt a0 aok=>?_⟩
  lia
  refine ⟨rfl,p,q,lm,amt,us,st,rfl,pq,⟨hp',lok⟩,hq,un,fun s hs=>a2l (ch.all s hs),fun us' un' eu=>?_⟩
  have ln:=a2F lok (ch.mono fun s=>a2l) nd
  have fl2:a1f lm (a0d us') srcs T:=by rw [eu];exact fl.add lok ch hx hy ln (by omega) aok
  have nt:net lm (a0d us') T=net lm (a0d us) T + amt:=by
   rw [eu,a5V lok (fun s=>a2l) ch,a0W hy,a0y xT]
   omega
  have le2:net lm (a0d us') T≤a2R lm Y0:=by rw [← cut.val fl2];exact cut.le fl2
  have g2:Grows S (S'.set q (.dic (a0g D.int us'))):=fun a ha=>by
   rw [zaa fun e=>ha (by rw [e];exact fq)]
   exact g a ha
  lia
  refine search c (Rm:=Rm) ⟨g2.at_ hp,lok⟩ pq zab un' su fw tn fun o S3 g3 fo=>?_
  lia
  exact ⟨_,by omega,us',o,_,un',fl2,fo,rfl,g2.trans g3,g3.at_ zab,rfl⟩
 ) only [↓Qt.put_off]
def b3h:D→D
 | .tup [_,y]=>y
 | d=>d
def a90 (X:List Str):D→Bool
 | .tup [_,.str y]=>decide (y∈X)
 | _=>false
theorem b0s {X:List Str} {ps:List (Str × Str)}:(((ps.map prD).filter (a90 X)).map b3h)=((ps.filter fun v=>decide (v.2∈X)).map fun v=>v.2).map D.str:=by
 rw [List.filter_map,zat,zat]
 rfl
theorem c53 (c:SaysX fa fn fx K):Meets ((tb K).sn N36) ((tb K).G K 36) 3 false a5D b36:=by
 refine Qt.put_in ?_
 simp (disch :=
 with_unfolding_all
 refine Qt.keep ?_
 rintro m hm ds S KK Y ⟨rfl,p,q,lm,us,Rm,T,rfl,pq,⟨hp,lok⟩,hq,un,tu,rl,ts,rlm,rn,hK⟩
 refine ⟨rfl,?_⟩
 show a0b _ b36 [some _,some _,some _,none,none,none,none,none,none,none,none] _ _ _
 unfold b36
 have tl:T.length≤24:=Nat.le_trans (a0C tu ts) rl
 have fw:a5a (Arc lm (a0d us)) T Rm:=a5I ts rlm rl rn
 lia
 refine ⟨_,rfl,?_⟩
 refine a2e (fun x=>.tup [x,.bl true]) (fun _=>true) (by rw [zag,zai];omega) (fun _ _ _=>rfl) (fun pp i acc d0 K1 KN hd hpp hk hn=>?_) ?_
 ·refine a1O (b1c ?_)
  rw [if_pos rfl]
  show den _ _ [some _,some _,some _,none,none,none,none,none,some d0,none,none] _ _ _
  lia
  exact hk rfl
 have e0:(((T.map D.str).filter fun _=>true).map fun x=>D.tup [x,.bl true])=(units T).map fun q:Str × Unit=>D.tup [.str q.1,fU q.2]:=by
  unfold units
  rw [zbc.mpr (fun _ _=>rfl),zat,zat]
  rfl
 rw [e0]
 refine a9L (f:=fU) (by rw [a0j];exact tu) fun f fp=>?_
 have pf:p≠f:=zad hp fp
 have qf:q≠f:=zad hq fp
 lia
 refine a6W (fun mm δ' S'=>∃ X gr x5 x6 x7,X.Nodup∧(∀ z∈T,z∈X)∧(∀ z∈X,Behind (Arc lm (a0d us)) T z∧z∈Rm)∧(gr=false→∀ x l y,Arc lm (a0d us) x l y→y∈X→x∈X)∧mm=2 * (24 - X.length) + (if gr=true then 1 else 0)∧Grows S S'∧S' f=some (.dic (a0g fU (units X)))∧δ'=[some (.obj p),some (.obj q),some (.lst (T.map D.str)),some (.obj f),some (.bl gr),x5,x6,x7,none,none,none]) ⟨T,true,none,none,none,tu,fun _ h=>h,fun z hz=>⟨.base hz,ts z hz⟩,(fun h=>nomatch h),rfl,Grows.set fp,zab,rfl⟩ ?_
 rintro mm δ' S' ⟨X,gr,x5,x6,x7,xu,xt,xb,cl,rfl,g,hf,rfl⟩
 have xl:X.length≤24:=Nat.le_trans (a0C xu fun z hz=>(xb z hz).2) rl
 lia
 cases gr with
 | false =>
  rw [if_neg zbe]
  lia
  refine b0U (zs:=X) hf (by have:=a2W (l:=units X) (f:=fU);rw [a0j] at this;exact this) (by omega) ?_
  refine hK X S' g xu fun z=>⟨fun h=>(xb z h).1,fun h=>?_⟩
  induction h with
  | base h=>exact xt _ h
  | step a _ ih=>exact cl rfl _ _ _ a ih
 | true =>
  rw [if_pos rfl]
  lia
  refine a0a (T:=b1l) rfl ?_
  lia
  refine ⟨rfl,p,q,lm,us,rfl,pq,⟨g.at_ hp,lok⟩,g.at_ hq,un,fun A S2 g2 fA ⟨al,ar⟩=>?_⟩
  have hf2:=g2.at_ hf
  have Af:A≠f:=fun e=>by rw [e,hf] at fA;cases fA
  have ad:=zbd.mp ar.ad
  have alA:∀ v∈al,v.2.1≠A:=fun v hv e=>ad.1 (by rw [← e];exact zan.mpr ⟨v,hv,rfl⟩)
  have alf:∀ v∈al,v.2.1≠f:=fun v hv e=>by
   have:=ar.at_ v hv
   rw [e,hf2] at this
   cases this
  have topk:((a0g D.obj (al.map fun q=>(q.1,q.2.1))).map fun kv=>keyV kv.1)=al.map fun v=>D.str v.1:=by unfold a0g;rw [zat,zat];rfl
  have SA:S A=none:=Decidable.byContradiction fun h=>h (by rw [← g A h];exact fA)
  lia
  refine a5z ar.top ?_
  lia
  refine ⟨A,_,rfl,zab,?_⟩
  rw [topk]
  have ll:=lok.few
  refine ⟨fun i δ' S'=>∃ X1 gr x6 x7,X1.Nodup∧(∀ z∈X,z∈X1)∧(∀ z∈X1,Behind (Arc lm (a0d us)) T z∧z∈Rm)∧(gr=false→X1=X∧∀ v∈al.take i,∀ u∈v.2.2,u.2∈X→v.1∈X)∧(gr=true→X.length < X1.length)∧(∀ a,a≠f→S' a=(S2.set A (.loc (a0g D.obj (al.map fun q=>(q.1,q.2.1))))) a)∧S' f=some (.dic (a0g fU (units X1)))∧δ'=[some (.obj p),some (.obj q),some (.lst (T.map D.str)),some (.obj f),some (.bl gr),some (.obj A),x6,x7,none,none,none],⟨X,false,x6,x7,xu,fun _ h=>h,xb,fun _=>⟨rfl,fun v hv=>by simp at hv⟩,(fun h=>nomatch h),fun _ _=>rfl,by rw [zaa Af.symm];exact hf2,rfl⟩,fun _ _ _ _ _=>trivial,?_,?_⟩
  ·rintro i d0 δ' S' hd ⟨X1,gr,x6,x7,x1u,x1x,x1b,same,more,eS,hf',rfl⟩
   rw [zbh,zam] at hd
   obtain ⟨v,hv,rfl⟩:=hd
   have mv:=zaq hv
   have x1l:X1.length≤24:=Nat.le_trans (a0C x1u fun z hz=>(x1b z hz).2) rl
   obtain ⟨nv,pn⟩:=ar.nm v mv
   have A':S' A=some (.loc (a0g D.obj (al.map fun q=>(q.1,q.2.1)))):=by rw [eS A Af];exact zab
   have V':S' v.2.1=some (.lst (v.2.2.map prD)):=by rw [eS _ (alf v mv),zaa (alA v mv)];exact ar.at_ v mv
   have look:(al.map fun q=>(q.1,q.2.1)).lookup v.1=some v.2.1:=a0e (l:=al.map fun q=>(q.1,q.2.1)) (by unfold nms;rw [zat];exact ar.u) (q:=(v.1,v.2.1)) (zan.mpr ⟨v,mv,rfl⟩)
   have pl:=ar.len v mv
   have tk:al.take (i + 1)=al.take i ++ [v]:=take_snoc hv
   have bh:∀ u∈v.2.2,u.2∈X1→Behind (Arc lm (a0d us)) T v.1∧v.1∈Rm:=fun u hu h=>by
    have hR:Arc lm (a0d us) v.1 u.1 u.2:=(ar.mem v.1 u.1 u.2).mpr ⟨v,mv,rfl,hu⟩
    exact ⟨.step hR (x1b _ h).1,(fw.r _ _ _ hR).1⟩
   refine a1O ?_
   lia
   refine b5C A' rfl (a1L look) ?_
   refine ⟨_,a8H V',?_⟩
   refine a2e b3h (a90 X1) (by rw [zag,zai];omega) (fun acc pp h=>?_) (fun pp ii acc d0 K1 KN hd hpp hk hn=>?_) ?_
   ·exact a8H (by rw [zaa (zad V' h)];exact V')
   ·rw [zbh,zam] at hd
    obtain ⟨⟨l,y⟩,hi,rfl⟩:=hd
    refine ⟨_,rfl,rfl,b2J ?_⟩
    show a0u _ _ [some _,some _,some _,some (.obj f),some _,some _,some _,_,none,some (.str l),some (.str y)] _ _ _
    lia
    refine b4j (by rw [zaa (zad hf' hpp)];exact hf') rfl ?_
    rw [a01,a0j]
    lia
    by_cases hy:y∈X1
    ·rw [if_pos (zbg hy)]
     lia
     exact hk (zbg hy)
    ·rw [if_neg (by rw [zah];exact hy)]
     exact hn (zbf hy)
   rw [b0s]
   have onw:∀ z∈(v.2.2.filter fun v=>decide (v.2∈X1)).map (fun v=>v.2),Nm z:=fun z hz=>by
    obtain ⟨u,hu,rfl⟩:=zan.mp hz
    exact (pn u (zay.mp hu).1).2
   lia
   refine a82 hf' rfl ?_
   rw [a01,a0j]
   lia
   by_cases h1:v.1∈X1
   ·rw [if_neg (by rw [zbg h1];decide)]
    rw [if_neg (by decide)]
    lia
    refine ⟨X1,gr,_,_,x1u,x1x,x1b,fun h=>⟨(same h).1,fun v' hv' u hu hX=>?_⟩,more,eS,hf',rfl⟩
    rw [tk] at hv'
    rcases zap.mp hv' with hv' | hv'
    ·exact (same h).2 v' hv' u hu hX
    ·rw [zaj.mp hv',← (same h).1];exact h1
   rw [if_pos (by rw [zbf h1];rfl)]
   lia
   refine b6c (fun z hz=>(onw z hz).fine) ?_
   lia
   by_cases h2:(v.2.2.filter fun v=>decide (v.2∈X1))=[]
   ·rw [if_neg (by rw [h2];decide)]
    lia
    refine ⟨X1,gr,_,_,x1u,x1x,x1b,fun h=>⟨(same h).1,fun v' hv' u hu hX=>?_⟩,more,eS,hf',rfl⟩
    rw [tk] at hv'
    rcases zap.mp hv' with hv' | hv'
    ·exact (same h).2 v' hv' u hu hX
    ·rw [zaj.mp hv'] at hu ⊢
     refine absurd ?_ (zba (a:=u))
     rw [← h2]
     exact zay.mpr ⟨hu,zbg (by rw [(same h).1];exact hX)⟩
   ·obtain ⟨u,hu⟩:=List.exists_mem_of_ne_nil _ h2
    obtain ⟨hu1,hu2⟩:=zay.mp hu
    obtain ⟨b1,b2⟩:=bh u hu1 (of_decide_eq_true hu2)
    rw [if_pos (by
     cases e:((v.2.2.filter fun v=>decide (v.2∈X1)).map fun v=>v.2) with
     | nil=>exact absurd (List.map_eq_nil_iff.mp e) h2
     | cons a l=>rfl)]
    lia
    have nw:v.1∉nms (units X1):=by rw [a0j];exact h1
    refine a3i hf' rfl (by rw [a0p,zai];unfold units;rw [zag];omega) ?_
    rw [show (D.bl true)=fU () from rfl,a0T nw,← a2v]
    lia
    refine ⟨X1 ++ [v.1],true,_,_,?_,fun z hz=>zar _ (x1x z hz),fun z hz=>?_,(fun h=>nomatch h),fun _=>?_,fun a ha=>by rw [zaa ha];exact eS a ha,zab,rfl⟩
    ·refine List.nodup_append.mpr ⟨x1u,by simp,fun a ha b hb e=>?_⟩
     rw [zaj.mp hb] at e
     exact h1 (by rw [← e];exact ha)
    ·rcases zap.mp hz with hz | hz
     ·exact x1b z hz
     ·rw [zaj.mp hz];exact ⟨b1,b2⟩
    ·rw [zaw]
     have:X.length≤X1.length:=a0C xu x1x
     show X.length < X1.length + 1
     omega
  ·rintro δ' S' ⟨X1,gr,x6,x7,x1u,x1x,x1b,same,more,eS,hf',rfl⟩
   rw [zag,List.take_length] at same
   have x1l:X1.length≤24:=Nat.le_trans (a0C x1u fun z hz=>(x1b z hz).2) rl
   have le:=a0C xu x1x
   refine ⟨2 * (24 - X1.length) + (if gr=true then 1 else 0),?_,X1,gr,_,_,_,x1u,fun z hz=>x1x z (xt z hz),x1b,fun h x l y a hy=>?_,rfl,fun a ha=>?_,by rw [zaa Af.symm];exact hf',rfl⟩
   ·cases gr with
    | true =>
     have:=more rfl
     show 2 * (24 - X1.length) + 1 < 2 * (24 - X.length) + 1
     omega
    | false =>
     show 2 * (24 - X1.length) + 0 < 2 * (24 - X.length) + 1
     rw [(same rfl).1]
     omega
   ·obtain ⟨e1,cl1⟩:=same h
    rw [e1] at hy ⊢
    obtain ⟨v,hv,e2,hm⟩:=(ar.mem x l y).mp a
    rw [← e2]
    exact cl1 v hv _ hm hy
   ·have aA:a≠A:=fun e=>ha (by rw [e];exact SA)
    have af:a≠f:=fun e=>ha (by rw [e];exact fp)
    rw [zaa aA,eS a af,zaa aA,g2 a (by rw [g a ha];exact ha)]
    exact g a ha
 ) only [↓Qt.put_off]
theorem a7m {w:Wo} {a b:List Str} (h:∀ z,z∈a↔z∈b):a2E w a=a2E w b:=by
 unfold a2E
 refine List.filter_congr fun l _=>?_
 unfold a4B
 split
 ·rename_i q _
  rw [decide_eq_decide.mpr (h q.1),decide_eq_decide.mpr (h q.2.1)]
 ·rfl
theorem c6n (c:SaysX fa fn fx K):Meets ((tb K).sn N56) ((tb K).G K 56) 3 false (a1r K) b56:=by
 refine Qt.put_in ?_
 simp (disch :=
 with_unfolding_all
 refine Qt.keep ?_
 rintro m hm ds S KK Y ⟨rfl,L,a,b,c',d,w,shut,rs,rfl,lay,ok,⟨as,ne⟩,ends⟩
 refine ⟨rfl,?_⟩
 show a0b _ b56 [some _,some _,some _,none] _ _ _
 unfold b56
 have as0:=as
 obtain ⟨ns,nr⟩:=as.nm ok
 obtain ⟨ssub,su,sl,rsub,ru,rl⟩:=as
 lia
 refine a0a (T:=a1b) rfl ?_
 lia
 refine a7u c lay ?_
 lia
 refine ⟨rfl,_,rfl,?_⟩
 lia
 refine a0a (T:=a1b) rfl ?_
 lia
 refine a0a (T:=a1y) rfl ?_
 lia
 refine ⟨rfl,shut,rfl,su,ns,by omega,?_⟩
 lia
 refine ⟨rfl,_,rfl,?_⟩
 lia
 refine a0a (T:=a1b) rfl ?_
 lia
 refine a0a (T:=a2j) rfl ?_
 lia
 refine ⟨rfl,rs,rfl,ru,nr,ne,rl,?_⟩
 lia
 refine ⟨rfl,_,rfl,?_⟩
 lia
 refine a0a (T:=a3t K) rfl ?_
 lia
 refine ⟨rfl,L,a,b,c',d,w.lay,0,shut,rfl,lay,ok.ok,by omega,fun z hz=>(a7Q ok (ssub z hz)).2,?_⟩
 lia
 refine a0a (T:=a06 K) rfl ?_
 lia
 refine ⟨rfl,L,a,b,c',d,w.lay,0,rs,rfl,lay,ok.ok,by omega,fun z hz=>by show z∈nms (units w.rooms);rw [a0j];exact rsub z hz,?_⟩
 lia
 refine a0a (T:=a4d K) rfl ?_
 lia
 refine ⟨rfl,L,a,b,c',d,w,shut,rfl,lay,ok,ns,fun p S1 g1 fp lims=>?_⟩
 lia
 refine a0a (T:=a4e K) rfl ?_
 lia
 refine ⟨rfl,L,a,b,c',d,w,p,shut,rs,rfl,lay.grow g1,ok,lims,⟨(fun _ h=>nomatch h),List.nodup_nil,Nat.zero_le _,rsub,ru,rl⟩,ne,fun o ho=>?_⟩
 have ends:=ends o ho
 cases o with
 | none =>
  lia
  exact ends p S1 g1 fp lims
 | some ws=>exact ends S1 g1
 ) only [↓Qt.put_off]
theorem a6p {w:Wo} {barred rs:List Str} (ok:a03 w) (sub:∀ z∈rs,z∈w.rooms) (h:∀ s∈w.srcs,¬ Reach w (a1T w barred) rs s):a2w (a0w w barred) w.srcs rs (a6T w (a1T w barred) rs):=by
 refine ⟨ok.ru.filter _,fun z hz=>(a2t ok sub).mpr (.base hz),fun z hz hm=>h z hz ((a2t ok sub).mp hm),fun q hq g e=>?_⟩
 obtain ⟨r,hr,rfl⟩:=a1i ok hq
 have nc:r.1∉a1T w barred:=fun hm=>by
  obtain ⟨q',hq',e'⟩:=zan.mp hm
  obtain ⟨h1,h2⟩:=zay.mp hq'
  rw [a2s (a4v ok) h1 hq e',e] at h2
  cases h2
 have adj:∀ {x y:Str},a1Y r x y→x∈a6T w (a1T w barred) rs→y∈a6T w (a1T w barred) rs:=fun {x y} he hx=>(a2t ok sub).mpr (((a2t ok sub).mp hx).step ⟨r,hr,nc,he⟩)
 rcases g with ⟨g1,g2⟩ | ⟨g1,g2⟩
 ·exact g2 (adj (.inl ⟨rfl,rfl⟩) g1)
 ·exact g1 (adj (.inr ⟨rfl,rfl⟩) g2)
theorem a2w.src {lm:Lms} {S S' T Y:List Str} (h:a2w lm S T Y) (e:∀ z,z∈S'→z∈S):a2w lm S' T Y:=⟨h.u,h.t,fun z hz=>h.s z (e z hz),h.b⟩
theorem a1q.src {lm:Lms} {S S' T X:List Str} (h:a1q lm S T X) (e:∀ z,z∈S'↔z∈S):a1q lm S' T X :=
 ⟨h.ok.src fun z=>(e z).mp,fun Y cy=>h.least Y (cy.src fun z=>(e z).mpr)⟩
theorem c6o (c:SaysX fa fn fx K):Meets ((tb K).sn N57) ((tb K).G K 57) 3 false (a4c K) b57:=by
 refine Qt.put_in ?_
 simp (disch :=
 with_unfolding_all
 refine Qt.keep ?_
 rintro m hm ds S KK Y ⟨rfl,L,a,b,c',d,w,barred,rs,rfl,lay,ok,br,ends⟩
 refine ⟨rfl,?_⟩
 show a0b _ b57 [some _,some _,some _,none,none,none] _ _ _
 unfold b57
 have br0:=br
 obtain ⟨⟨ssub,su,sl,rsub,ru,rl⟩,ne⟩:=br
 have nr:∀ z∈rs,Nm z:=fun z hz=>ok.rn z (rsub z hz)
 have lok:=a4v (barred:=barred) ok
 have lr:=ok.r
 have ends2:∀ q∈a0w w barred,q.2.1∈w.rooms∧q.2.2.1∈w.rooms:=fun q hq=>by
  obtain ⟨r,hr,rfl⟩:=a1i ok hq
  obtain ⟨_,h1,h2,_⟩:=ok.ln r hr
  exact ⟨h1,h2⟩
 lia
 refine a0a (T:=a1r K) rfl ?_
 lia
 refine ⟨rfl,L,a,b,c',d,w,barred,rs,rfl,lay,ok,br0,fun o ho=>?_⟩
 have ends:=ends o ho
 cases o with
 | some ws=>exact ends
 | none =>
  refine fun p S1 g1 fp lims=>?_
  have cut:=(a6p (barred:=barred) ok rsub ho).src (S':=a0l w.srcs) fun z=>a0G.mp
  have ns:(nms (units w.srcs)).length < 64:=by
   rw [a0j]
   have:=a0C ok.su ok.s
   omega
  lia
  refine a0a (T:=a1z) rfl ?_
  lia
  refine a4l (T:=a2y K fun st=>nms st.pushed) rfl ?_
  lia
  refine a4A (lay.grow g1).L rfl ?_
  lia
  refine ⟨rfl,L,a,b,c',d,w.lay,rfl,lay.grow g1,ns,?_⟩
  lia
  show a1z _ [.obj p,.lst ((a0l (nms (units w.srcs))).map D.str),.lst (rs.map D.str)] _ _ _
  rw [a0j]
  refine ⟨rfl,p,a0w w barred,_,w.rooms,a0l w.srcs,rs,rfl,lims,a1N ok.su,ru,nr,cut,lr,fun z hz=>ok.s z (a0G.mp hz),ends2,ok.rn,fun q us S2 g2 fq hq un fl no=>?_⟩
  have pq:p≠q:=zad lims.1 fq
  lia
  refine a0a (T:=a5D) rfl ?_
  lia
  refine ⟨rfl,p,q,a0w w barred,us,w.rooms,rs,rfl,pq,lims.grow g2,hq,un,ru,lr,rsub,ends2,ok.rn,fun X S3 g3 xu hX=>?_⟩
  obtain ⟨lx,_⟩:=a3F lok fl xu hX no
  have lx2:=lx.src (S':=w.srcs) fun z=>a0G.symm
  have xr:∀ z∈X,z∈w.rooms:=fun z hz=>by
   have fw:a5a (Arc (a0w w barred) (a0d us)) rs w.rooms:=a5I rsub ends2 lr ok.rn
   have:∀ z,Behind (Arc (a0w w barred) (a0d us)) rs z→z∈w.rooms:=fun z h=>by
    cases h with
    | base h=>exact rsub _ h
    | step a _=>exact (fw.r _ _ _ a).1
   exact this z ((hX z).mp hz)
  lia
  refine a0a (T:=a7f K) rfl ?_
  lia
  refine ⟨rfl,L,a,b,c',d,w,a0l X,rfl,((lay.grow g1).grow g2).grow g3,ok,fun z hz=>xr z (a0G.mp hz),a1N xu,?_⟩
  lia
  rw [a7m fun z=>a0G]
  exact ends X S3 ((g1.trans g2).trans g3) lx2 xr
 ) only [↓Qt.put_off]
variable {K:zbj}
section
variable {lm:Lms} {l x y r:Str}
theorem a8T {u:Str→Int} (r x y:Str):a1w (lm.take 0) u r x y↔False:=⟨fun ⟨q,hq,_⟩=>by simp at hq,fun h=>h.elim⟩
theorem a8U {u:Str→Int} {i:Nat} {q:Str × Str × Str × Option Int} (h:lm[i]?=some q) (a b c:Str):a1w (lm.take (i + 1)) u a b c↔(a1w (lm.take i) u a b c∨(a=q.2.1∧b=q.1∧c=q.2.2.1∧0 < u q.1))∨(a=q.2.2.1∧b=q.1∧c=q.2.1∧u q.1 < 0):=by
 unfold a1w
 rw [take_snoc h]
 constructor
 ·rintro ⟨v,hv,e,g⟩
  rcases zap.mp hv with hv | hv
  ·exact .inl (.inl ⟨v,hv,e,g⟩)
  ·rw [zaj.mp hv] at e g
   rcases g with ⟨g1,g2,g3⟩ | ⟨g1,g2,g3⟩
   ·exact .inl (.inr ⟨g1.symm,e.symm,g2.symm,g3⟩)
   ·exact .inr ⟨g1.symm,e.symm,g2.symm,g3⟩
 ·rintro ((⟨v,hv,g⟩ | ⟨e1,e2,e3,g⟩) | ⟨e1,e2,e3,g⟩)
  ·exact ⟨v,zar _ hv,g⟩
  ·exact ⟨q,zas _ zal,e2.symm,.inl ⟨e1.symm,e3.symm,g⟩⟩
  ·exact ⟨q,zas _ zal,e2.symm,.inr ⟨e1.symm,e3.symm,g⟩⟩
end
theorem c5M (c:SaysX fa fn fx K):Meets ((tb K).sn N19) ((tb K).G K 19) 2 false a9r b19:=by
 refine Qt.put_in ?_
 simp (disch :=
 with_unfolding_all
 refine Qt.keep ?_
 rintro m hm ds S KK Y ⟨rfl,p,q,lm,us,rfl,pq,⟨hp,lok⟩,hq,un,hK⟩
 refine ⟨rfl,?_⟩
 show a0b _ b19 [some _,some _,none,none,none,none,none] _ _ _
 unfold b19
 lia
 refine a2S fun A fA=>?_
 have pA:p≠A:=zad hp fA
 have qA:q≠A:=zad hq fA
 have hpA:(S.set A (.dic [])) p=some (.dic (a0g a1X lm)):=by rw [zaa pA];exact hp
 lia
 refine a5z hpA ?_
 lia
 refine ⟨p,_,rfl,zab,?_⟩
 have f0:a3C (S.set p (.loc (a0g a1X lm))) ((S.set A (.dic [])).set p (.loc (a0g a1X lm))) A (fun _ _ _=>False) 0:=by
  refine ⟨⟨[],⟨by rw [zaa pA.symm];exact zab,List.nodup_nil,Nat.le_refl _,(fun _ h=>nomatch h),(fun _ h=>nomatch h),by simp,fun _ _ _=>⟨fun h=>h.elim,fun ⟨_,h,_⟩=>nomatch h⟩,fun _ h=>nomatch h⟩,fun _ h=>nomatch h⟩,by rw [zaa pA.symm];exact fA,fun a ha=>?_⟩
  by_cases e:a=p
  ·rw [e,zab,zab]
  ·have e2:a≠A:=fun h=>ha (by rw [h,zaa pA.symm];exact fA)
   rw [zaa e,zaa e2,zaa e]
 have at_:∀ {S':SS} {R:Str→Str→Str→Prop} {n:Nat},a3C (S.set p (.loc (a0g a1X lm))) S' A R n→S' p=some (.loc (a0g a1X lm))∧S' q=some (.dic (a0g D.int us)):=fun {S' R n} f=>⟨f.g.at_ zab,f.g.at_ (by rw [zaa pq.symm];exact hq)⟩
 refine ⟨fun i δ' S'=>∃ x3 x4 x5 x6,a3C (S.set p (.loc (a0g a1X lm))) S' A (a1w (lm.take i) (a0d us)) (2 * i)∧δ'=[some (.obj p),some (.obj q),some (.obj A),x3,x4,x5,x6],⟨none,none,none,none,f0.iff a8T,rfl⟩,fun _ _ _ _ _=>trivial,?_,?_⟩
 ·rintro i d0 δ' S' hd ⟨x3,x4,x5,x6,f,rfl⟩
  obtain ⟨⟨l,x,y,o⟩,rfl,hi⟩:=a6A hd
  have mi:=zaq hi
  obtain ⟨nl,nx,ny⟩:=lok.nm _ mi
  have il:i < lm.length:=(List.getElem?_eq_some_iff.mp hi).1
  have few:=lok.few
  have look:=a2Z lok mi
  have hin:l∈nms us:=by rw [un];exact zan.mpr ⟨_,mi,rfl⟩
  refine a1O ?_
  lia
  refine a07 rfl ?_
  lia
  refine b5C (at_ f).1 rfl (a1L look) ?_
  refine ⟨_,rfl,rfl,?_⟩
  show a0b _ _ [some (.obj p),some (.obj q),some (.obj A),some (.str l),some (.str x),some (.str y),some (a5f o)] _ _ _
  refine a3k (fun δ' S'=>a3C (S.set p (.loc (a0g a1X lm))) S' A (fun a b c=>a1w (lm.take i) (a0d us) a b c∨(a=x∧b=l∧c=y∧0 < a0d us l)) (2 * i + 1)∧δ'=[some (.obj p),some (.obj q),some (.obj A),some (.str l),some (.str x),some (.str y),some (a5f o)]) ?_ ?_
  ·lia
   refine a1I (at_ f).2 rfl (a1L (a3K hin)) ?_
   lia
   by_cases h:a0d us l > 0
   ·rw [if_pos (zbg h)]
    exact a5h (r:=x) (x:=l) (y:=y) f (by omega) nx nl ny (fun _ _ k=>a1B rfl k) (fun _ _ k=>a1B rfl k) (fun _ _ k=>a1B rfl k) rfl fun S2 f2=>⟨f2.iff fun a b c=>⟨fun h=>h.elim .inl fun ⟨h1,h2,h3,_⟩=>.inr ⟨h1,h2,h3⟩,fun h'=>h'.elim .inl fun ⟨h1,h2,h3⟩=>.inr ⟨h1,h2,h3,h⟩⟩,rfl⟩
   ·rw [if_neg (by rw [zah];exact h)]
    lia
    exact ⟨(f.iff fun a b c=>⟨fun h'=>h'.elim id fun ⟨_,_,_,h'⟩=>absurd h' h,.inl⟩).more (by omega),rfl⟩
  ·rintro δ' S' ⟨f,rfl⟩
   have sn:=fun a b c=>a8U (lm:=lm) (u:=a0d us) hi a b c
   lia
   refine a1I (at_ f).2 rfl (a1L (a3K hin)) ?_
   lia
   by_cases h:a0d us l < 0
   ·rw [if_pos (zbg h)]
    have yes:∀ {S2:SS},a3C (S.set p (.loc (a0g a1X lm))) S2 A (fun a b c=>(a1w (lm.take i) (a0d us) a b c∨(a=x∧b=l∧c=y∧0 < a0d us l))∨(a=y∧b=l∧c=x)) (2 * i + 1 + 1)→a3C (S.set p (.loc (a0g a1X lm))) S2 A (a1w (lm.take (i + 1)) (a0d us)) (2 * (i + 1)):=fun {S2} f2=>f2.iff fun a b c=>(sn a b c).trans ⟨fun h=>h.elim .inl fun ⟨h1,h2,h3,_⟩=>.inr ⟨h1,h2,h3⟩,fun h'=>h'.elim .inl fun ⟨h1,h2,h3⟩=>.inr ⟨h1,h2,h3,h⟩⟩
    exact a5h (r:=y) (x:=l) (y:=x) f (by omega) ny nl nx (fun _ _ k=>a1B rfl k) (fun _ _ k=>a1B rfl k) (fun _ _ k=>a1B rfl k) rfl fun S2 f2=>by first | exact ⟨_,_,_,_,yes f2,rfl⟩ | (show a0b _ .nil _ _ _ _;exact a8C ⟨_,_,_,_,yes f2,rfl⟩)
   ·rw [if_neg (by rw [zah];exact h)]
    lia
    exact ⟨_,_,_,_,(f.iff fun a b c=>(sn a b c).trans ⟨fun h'=>h'.elim id fun ⟨_,_,_,h'⟩=>absurd h' h,.inl⟩).more (by omega),rfl⟩
 ·rintro δ' S' ⟨x3,x4,x5,x6,f,rfl⟩
  rw [zag,a0p,List.take_length] at f
  obtain ⟨al,ar,fr⟩:=f.ex
  have few:=lok.few
  have neA:A≠p:=pA.symm
  have nev:∀ v∈al,v.2.1≠p:=fun v hv e=>by
   have:=fr v hv
   rw [e,zab] at this
   cases this
  lia
  refine hK A _ (fun a ha=>?_) fA ⟨al,⟨by rw [zaa neA];exact ar.top,ar.u,by have:=ar.few;omega,fun v hv=>by rw [zaa (nev v hv)];exact ar.at_ v hv,fun v hv=>by have:=ar.len v hv;omega,ar.ad,ar.mem,ar.nm⟩⟩
  by_cases e:a=p
  ·rw [e,zab,hp]
  ·rw [zaa e,f.g a (by rw [zaa e];exact ha),zaa e]
 ) only [↓Qt.put_off]
variable {K:zbj}
section
variable {lm:Lms} {u u0:Str→Int} {srcs T Rm:List Str} {x y l:Str} {st:List Stp} {amt:Int} {wl:List Wy}
abbrev GoP (lm:Lms) (u:Str→Int) (s:Stp):Prop:=a1w lm u s.1 s.2.1 s.2.2
theorem a4s {s:Stp} (h:GoP lm u s):a4a lm s:=by
 obtain ⟨q,hq,e,⟨a,b,_⟩ | ⟨a,b,_⟩⟩:=h
 ·exact ⟨q,hq,e,.inl ⟨a,b⟩⟩
 ·exact ⟨q,hq,e,.inr ⟨a,b⟩⟩
def Betw (u0 u:Int):Prop:=(0≤u∧u≤u0)∨(u0≤u∧u≤0)
theorem a9Y (hs:∀ z∈srcs,z∈Rm) (hl:∀ q∈lm,q.2.1∈Rm∧q.2.2.1∈Rm) (hr:Rm.length≤24) (hn:∀ z∈Rm,Nm z):a5a (a1w lm u) srcs Rm :=
 ⟨hr,hs,fun x l y h=>by
  obtain ⟨q,hq,_,⟨rfl,rfl,_⟩ | ⟨rfl,rfl,_⟩⟩:=h
  ·exact hl q hq
  ·exact ⟨(hl q hq).2,(hl q hq).1⟩,hn⟩
theorem a1A (ok:a6j lm):∀ {st:List Stp} {u:Str→Int},l∉st.map (fun s=>s.2.1)→a0P lm amt u st l=u l
 | [],_,_=>rfl
 | s :: st,u,h=>by
  have h1:l≠s.2.1:=fun e=>h (by rw [e];exact zal)
  show a0P lm amt (a0Q lm amt u s) st l=u l
  rw [a1A ok (fun k=>h (zao _ k)),a2P h1]
theorem a4i (ok:a6j lm):∀ {st:List Stp} {u v:Str→Int},(st.map fun s=>s.2.1).Nodup→(∀ s∈st,GoP lm v s)→(∀ s∈st,u s.2.1=v s.2.1)→l∈st.map (fun s=>s.2.1)→a0P lm amt u st l=(if 0 < v l then v l + amt else v l - amt)∧v l≠0
 | [],_,_,_,_,_,h=>nomatch h
 | s :: st,u,v,nd,gs,e,h=>by
  obtain ⟨n1,nd'⟩:=zbd.mp nd
  show a0P lm amt (a0Q lm amt u s) st l=_∧_
  by_cases c:l=s.2.1
  ·subst c
   rw [a1A ok n1]
   obtain ⟨q,hq,eq,g⟩:=gs s zal
   have one:oneOf lm s.2.1=q.2.1:=by rw [← eq];exact a3Y ok hq
   have ne:=ok.ne q hq
   have ev:=e s zal
   unfold a0Q
   rw [if_pos rfl,one,ev]
   rcases g with ⟨g1,g2,g3⟩ | ⟨g1,g2,g3⟩
   ·rw [eq] at g3
    rw [if_pos g1.symm,if_pos g3]
    exact ⟨rfl,by omega⟩
   ·rw [eq] at g3
    rw [if_neg (fun k=>ne (by rw [g1,← k])),if_neg (by omega)]
    exact ⟨rfl,by omega⟩
  ·have hl:l∈st.map fun s=>s.2.1:=(zau.mp h).resolve_left c
   refine a4i ok nd' (fun s' hs=>gs s' (zao _ hs)) (fun s' hs=>?_) hl
   have:s'.2.1≠s.2.1:=fun k=>n1 (zan.mpr ⟨s',hs,k⟩)
   rw [a2P this]
   exact e s' (zao _ hs)
structure ApartW (lm:Lms) (srcs T:List Str) (u0 u:Str→Int) (wl:List Wy):Prop where
 one:∀ w∈wl,c3H lm srcs T w
 btw:∀ q∈lm,Betw (u0 q.1) (u q.1)
 k:∀ r,r∉srcs→r∉T→net lm u [r]=0
 sum:a2I wl (fun w=>w.1)=net lm u0 T - net lm u T
 along:∀ q∈lm,a9y wl q.1=(u0 q.1 - u q.1).natAbs
 few:wl.length + (lm.filter fun q=>decide (u q.1≠0)).length≤lm.length
theorem a6Z {α:Type} {l:List α} {a:α} {f:α→Int}:a2I (l ++ [a]) f=a2I l f + f a:=by
 induction l with
 | nil=>show f a + 0=0 + f a;omega
 | cons b l ih =>
  show f b + a2I (l ++ [a]) f=f b + a2I l f + f a
  rw [ih]
  omega
theorem ApartW.start (f:a1f lm u0 srcs T):ApartW lm srcs T u0 u0 [] :=
 ⟨(fun _ h=>nomatch h),fun q _=>by unfold Betw;omega,f.k,by show (0:Int)=_;omega,fun q _=>by show (0:Int)=_;omega,by rw [List.length_nil,Nat.zero_add];exact zbb _ _⟩
theorem a4r {α:Type} {p p':α→Bool}:∀ {l:List α},(∀ a∈l,p' a=true→p a=true)→(∃ a∈l,p a=true∧p' a=false)→(l.filter p').length + 1≤(l.filter p).length
 | [],_,⟨_,h,_⟩=>nomatch h
 | b :: l,sub,⟨a,ha,h1,h2⟩=>by
  have le:(l.filter p').length≤(l.filter p).length:=by
   rw [← List.countP_eq_length_filter,← List.countP_eq_length_filter]
   exact List.countP_mono_left fun a ha h=>sub a (zao _ ha) h
  rcases zau.mp ha with rfl | ha
  ·rw [List.filter_cons_of_pos h1,List.filter_cons_of_neg (by rw [h2];decide),zaz]
   omega
  ·have ih:=a4r (fun a h=>sub a (zao _ h)) ⟨a,ha,h1,h2⟩
   rw [List.filter_cons,List.filter_cons]
   have:=sub b zal
   by_cases c1:p' b=true
   ·rw [if_pos c1,if_pos (this c1),zaz,zaz];omega
   ·rw [if_neg c1]
    split
    ·rw [zaz];omega
    ·exact ih
theorem a6X {a:Int} (ok:a6j lm) (ch:Chain (GoP lm u) x st y) (nd:(x :: st.map fun s=>s.2.2).Nodup) (least:∀ s∈st,a≤(u s.2.1).natAbs) (att:∃ s∈st,a=(u s.2.1).natAbs):(lm.filter fun q=>decide (a0P lm (0 - a) u st q.1≠0)).length + 1≤(lm.filter fun q=>decide (u q.1≠0)).length:=by
 have ce:=ch.mono fun s=>a4s (lm:=lm) (u:=u)
 have ln:=a2F ok ce nd
 have on:∀ {l:Str},l∈st.map (fun s=>s.2.1)→a0P lm (0 - a) u st l=(if 0 < u l then u l + (0 - a) else u l - (0 - a))∧u l≠0∧a≤(u l).natAbs:=fun {l} hl=>by
  obtain ⟨e1,e2⟩:=a4i (amt:=0 - a) ok ln (fun s hs=>ch.all s hs) (fun _ _=>rfl) hl
  obtain ⟨s,hs,rfl⟩:=zan.mp hl
  exact ⟨e1,e2,least s hs⟩
 exact a4r (l:=lm) (p:=fun q=>decide (u q.1≠0)) (p':=fun q=>decide (a0P lm (0 - a) u st q.1≠0)) (fun q hq k=>by
   rw [zah] at k ⊢
   by_cases hl:q.1∈st.map (fun s=>s.2.1)
   ·exact (on hl).2.1
   ·rw [a1A ok hl] at k
    exact k) (by
   obtain ⟨s,hs,ea⟩:=att
   obtain ⟨q,hq,e,_⟩:=ch.all s hs
   have hl:q.1∈st.map (fun s=>s.2.1):=by rw [e];exact zan.mpr ⟨s,hs,rfl⟩
   obtain ⟨e1,n0,l⟩:=on hl
   refine ⟨q,hq,zbg n0,zbf ?_⟩
   rw [e1]
   rw [← e] at ea
   split <;> omega)
theorem ApartW.step {a:Int} (ok:a6j lm) (h:ApartW lm srcs T u0 u wl) (ch:Chain (GoP lm u) x st y) (hx:x∈srcs) (hy:y∈T) (xT:x∉T) (nd:(x :: st.map fun s=>s.2.2).Nodup) (a1:1≤a) (least:∀ s∈st,a≤(u s.2.1).natAbs) (att:∃ s∈st,a=(u s.2.1).natAbs):ApartW lm srcs T u0 (a0P lm (0 - a) u st) (wl ++ [(a,x,st)]):=by
 have ce:=ch.mono fun s=>a4s (lm:=lm) (u:=u)
 have ln:=a2F ok ce nd
 have on:∀ {l:Str},l∈st.map (fun s=>s.2.1)→a0P lm (0 - a) u st l=(if 0 < u l then u l + (0 - a) else u l - (0 - a))∧u l≠0∧a≤(u l).natAbs:=fun {l} hl=>by
  obtain ⟨e1,e2⟩:=a4i (amt:=0 - a) ok ln (fun s hs=>ch.all s hs) (fun _ _=>rfl) hl
  obtain ⟨s,hs,rfl⟩:=zan.mp hl
  exact ⟨e1,e2,least s hs⟩
 refine ⟨fun w hw=>?_,fun q hq=>?_,fun r h1 h2=>?_,?_,fun q hq=>?_,?_⟩
 ·rcases zap.mp hw with hw | hw
  ·exact h.one w hw
  ·rw [zaj.mp hw]
   exact ⟨a1,hx,⟨y,hy,ce⟩,nd⟩
 ·have b:=h.btw q hq
  by_cases hl:q.1∈st.map (fun s=>s.2.1)
  ·obtain ⟨e,n0,l⟩:=on hl
   rw [e]
   unfold Betw at b ⊢
   split <;> omega
  ·rw [a1A ok hl]
   exact b
 ·rw [a5V ok (fun s=>a4s) ch,h.k r h1 h2,a0y (show y∉[r] from fun k=>h2 (by rw [← zaj.mp k];exact hy)),a0y (show x∉[r] from fun k=>h1 (by rw [← zaj.mp k];exact hx))]
  omega
 ·rw [a6Z,h.sum,a5V ok (fun s=>a4s) ch,a0W hy,a0y xT]
  show _ - _ + a=_
  omega
 ·have b:=h.btw q hq
  have al:=h.along q hq
  unfold a9y at al ⊢
  rw [a6Z,al]
  show _ + (if q.1∈st.map (fun s=>s.2.1) then a else 0)=_
  by_cases hl:q.1∈st.map (fun s=>s.2.1)
  ·obtain ⟨e,n0,l⟩:=on hl
   rw [if_pos hl,e]
   unfold Betw at b
   split <;> omega
  ·rw [if_neg hl,a1A ok hl]
   omega
 ·have less:=a6X ok ch nd least att
  have:=h.few
  rw [zaw]
  show wl.length + 1 + _≤_
  omega
theorem b0m {X:List Str}:net lm (fun l=>u0 l - u l) X=net lm u0 X - net lm u X:=by
 unfold net
 induction lm with
 | nil=>rfl
 | cons q lm ih =>
  show (ind X q.2.2.1 - ind X q.2.1) * (u0 q.1 - u q.1) + a2I lm _=(ind X q.2.2.1 - ind X q.2.1) * u0 q.1 + a2I lm _ - ((ind X q.2.2.1 - ind X q.2.1) * u q.1 + a2I lm _)
  rw [ih,Int.mul_sub]
  omega
noncomputable instance (R:Str→Str→Str→Prop) (T:List Str) (z:Str):Decidable (Behind R T z):=Classical.propDecidable _
theorem ApartW.done {X:List Str} (lx:a1q lm srcs T X) (val:net lm u0 T=a2R lm X) (f0:a1f lm u0 srcs T) (h:ApartW lm srcs T u0 u wl) (no:∀ z∈srcs,¬ Behind (a1w lm u) T z) (ru:Rm.Nodup) (tr:∀ z∈T,z∈Rm) (lr:∀ q∈lm,q.2.1∈Rm∧q.2.2.1∈Rm):a4h lm srcs T X wl:=by
 have wm:∀ {z:Str},z∈Rm.filter (fun z=>decide (Behind (a1w lm u) T z))↔z∈Rm∧Behind (a1w lm u) T z:=fun {z}=>by rw [zay,zah]
 have le0:net lm u T≤0:=by
  have e:net lm u (Rm.filter fun z=>decide (Behind (a1w lm u) T z))=net lm u T:=by
   rw [a7B (T:=T) (ru.filter _) fun r hr ht=>h.k r (fun k=>no r k (wm.mp hr).2) ht]
   exact a6I fun z=>⟨fun k=>of_decide_eq_true (zay.mp k).2,fun k=>zay.mpr ⟨wm.mpr ⟨tr z k,.base k⟩,zbg k⟩⟩
  rw [← e]
  refine Int.le_trans (a7P (g:=fun _=>0) fun q hq=>?_) (by rw [a4S fun _ _=>rfl];exact Int.le_refl _)
  obtain ⟨r1,r2⟩:=lr q hq
  by_cases a:q.2.1∈Rm.filter (fun z=>decide (Behind (a1w lm u) T z)) <;> by_cases b:q.2.2.1∈Rm.filter (fun z=>decide (Behind (a1w lm u) T z))
  ·rw [a0W a,a0W b];omega
  ·rw [a0W a,a0y b]
   have:¬ u q.1 < 0:=fun k=>b (wm.mpr ⟨r2,.step ⟨q,hq,rfl,.inr ⟨rfl,rfl,k⟩⟩ (wm.mp a).2⟩)
   omega
  ·rw [a0y a,a0W b]
   have:¬ 0 < u q.1:=fun k=>a (wm.mpr ⟨r1,.step ⟨q,hq,rfl,.inl ⟨rfl,rfl,k⟩⟩ (wm.mp b).2⟩)
   omega
  ·rw [a0y a,a0y b];omega
 have fl:a1f lm (fun l=>u0 l - u l) srcs T:=⟨fun q hq c hc=>by
  have b:=h.btw q hq
  have f:=f0.b q hq c hc
  unfold Betw at b
  show -c≤u0 q.1 - u q.1∧u0 q.1 - u q.1≤c
  omega,fun r h1 h2=>by rw [b0m,f0.k r h1 h2,h.k r h1 h2];rfl⟩
 have up:=lx.ok.le fl
 rw [lx.ok.val fl,b0m,← h.sum] at up
 refine ⟨h.one,by have:=h.few;omega,fun q hq c hc=>?_,by have:=h.sum;omega⟩
 have b:=h.btw q hq
 have f:=f0.b q hq c hc
 rw [h.along q hq]
 unfold Betw at b
 omega
end
variable {K:zbj}
def b2G (lm:Lms) (u:Str→Int) (srcs T:List Str):Option (List Stp)→Prop
 | none=>∀ z∈srcs,¬ Behind (a1w lm u) T z
 | some st=>∃ x y,x∈srcs∧y∈T∧Chain (GoP lm u) x st y∧(x :: st.map fun s=>s.2.2).Nodup
section
variable {S:SS} {lm:Lms} {us:List (Str × Int)} {p q L a b c' d:Addr} {w:Wo} {rs:List Str}
theorem searchG (c:SaysX fa fn fx K) {x1 x5 x6 x7 x8 x9 x10 x11:Option D} {Y:XD'} {KK:DK} (hp:a7e S p lm) (pq:p≠q) (hq:S q=some (.dic (a0g D.int us))) (un:nms us=nms lm) (lay:a1o (lc K) S L a b c' d w.lay) (ok:a03 w) (fw:a5a (a1w lm (a0d us)) (a0l w.srcs) w.rooms) (tn:∀ z∈rs,Nm z) (k:∀ o S',Grows S S'→b2G lm (a0d us) (a0l w.srcs) rs o→KK (a3G o) S') :
  den ((tb K).G K 58 none).toGm (.call 34 (.cons (.call 19 (.cons (.var 3) (.cons (.var 4) .nil))) (.cons (.om 13 "sources" (.var 0) .nil) (.cons (.var 2) .nil)))) [some (.obj L),x1,some (.lst (rs.map D.str)),some (.obj p),some (.obj q),x5,x6,x7,x8,x9,x10,x11] S Y KK:=by
 refine Qt.put_in ?_
 simp (disch :=
 with_unfolding_all
 refine Qt.keep ?_
 have ns:(nms (units w.srcs)).length < 64:=by
  rw [a0j]
  have:=a0C ok.su ok.s
  have:=ok.r
  omega
 refine a0a (T:=a2N) rfl ?_
 lia
 refine a0a (T:=a9r) rfl ?_
 lia
 refine ⟨rfl,p,q,lm,us,rfl,pq,hp,hq,un,fun A S2 g2 fA arcs=>?_⟩
 lia
 refine a4l (T:=a2y K fun st=>nms st.pushed) rfl ?_
 lia
 refine a4A (lay.grow g2).L rfl ?_
 lia
 refine ⟨rfl,L,a,b,c',d,w.lay,rfl,lay.grow g2,ns,?_⟩
 lia
 show a2N _ [.obj A,.lst ((a0l (nms (units w.srcs))).map D.str),.lst (rs.map D.str)] _ _ _
 rw [a0j]
 exact ⟨rfl,A,_,w.rooms,a0l w.srcs,rs,rfl,arcs,a1N ok.su,fw,tn,fun S3 g3 no=>k none S3 (g2.trans g3) no,fun st x y S3 g3 hx hy ch nd=>k (some st) S3 (g2.trans g3) ⟨x,y,hx,hy,ch,nd⟩⟩
 ) only [↓Qt.put_off]
end
def c3I (us:List (Str × Int)):D→D
 | .tup [_,.str l,_]=>.int (((a0d us l).natAbs:Nat):Int)
 | d=>d
theorem a4h.src {lm:Lms} {srcs srcs' T X:List Str} {wl:List Wy} (h:a4h lm srcs T X wl) (e:∀ z,z∈srcs→z∈srcs'):a4h lm srcs' T X wl:=⟨fun w hw=>⟨(h.one w hw).a,e _ (h.one w hw).x,(h.one w hw).ch,(h.one w hw).nd⟩,h.few,h.cap,h.all⟩
theorem c6p (c:SaysX fa fn fx K):Meets ((tb K).sn N58) ((tb K).G K 58) 3 false (a7j K) b58:=by
 refine Qt.put_in ?_
 simp (disch :=
 with_unfolding_all
 refine Qt.keep ?_
 rintro m hm ds S KK Y ⟨rfl,L,a,b,c',d,w,barred,rs,rfl,lay,ok,br,ends⟩
 refine ⟨rfl,?_⟩
 show a0b _ b58 [some _,some _,some _,none,none,none,none,none,none,none,none,none] _ _ _
 unfold b58
 have br0:=br
 obtain ⟨⟨ssub,su,sl,rsub,ru,rl⟩,ne⟩:=br
 have nr:∀ z∈rs,Nm z:=fun z hz=>ok.rn z (rsub z hz)
 have lok:=a4v (barred:=barred) ok
 have lr:=ok.r
 have ends2:∀ q∈a0w w barred,q.2.1∈w.rooms∧q.2.2.1∈w.rooms:=fun q hq=>by
  obtain ⟨r,hr,rfl⟩:=a1i ok hq
  obtain ⟨_,h1,h2,_⟩:=ok.ln r hr
  exact ⟨h1,h2⟩
 lia
 refine a0a (T:=a1r K) rfl ?_
 lia
 refine ⟨rfl,L,a,b,c',d,w,barred,rs,rfl,lay,ok,br0,fun o ho=>?_⟩
 have ends:=ends o ho
 cases o with
 | some ws=>exact ends
 | none =>
 refine fun p S1 g1 fp lims=>?_
 have cut:=(a6p (barred:=barred) ok rsub ho).src (S':=a0l w.srcs) fun z=>a0G.mp
 have ns:(nms (units w.srcs)).length < 64:=by
  rw [a0j]
  have:=a0C ok.su ok.s
  omega
 lia
 refine a0a (T:=a1z) rfl ?_
 lia
 refine a4l (T:=a2y K fun st=>nms st.pushed) rfl ?_
 lia
 refine a4A (lay.grow g1).L rfl ?_
 lia
 refine ⟨rfl,L,a,b,c',d,w.lay,rfl,lay.grow g1,ns,?_⟩
 lia
 show a1z _ [.obj p,.lst ((a0l (nms (units w.srcs))).map D.str),.lst (rs.map D.str)] _ _ _
 rw [a0j]
 refine ⟨rfl,p,a0w w barred,_,w.rooms,a0l w.srcs,rs,rfl,lims,a1N ok.su,ru,nr,cut,lr,fun z hz=>ok.s z (a0G.mp hz),ends2,ok.rn,fun q us0 S2 g2 fq hq un0 fl0 no=>?_⟩
 have pq:p≠q:=zad lims.1 fq
 lia
 intro f ff
 have g12:Grows S S2:=g1.trans g2
 have fq0:S q=none:=Decidable.byContradiction fun h=>h (by rw [← g1 q h];exact fq)
 have ff0:S f=none:=Decidable.byContradiction fun h=>h (by rw [← g12 f h];exact ff)
 have qf:q≠f:=zad hq ff
 have fq1:S1 q=none:=fq
 have ff1:S1 f=none:=Decidable.byContradiction fun h=>h (by rw [← g2 f h];exact ff)
 have lims2:=lims.grow g2
 have pf:p≠f:=zad lims2.1 ff
 have lm0:a6j (a0w w barred):=lok
 have fw:∀ {u},a5a (a1w (a0w w barred) u) (a0l w.srcs) w.rooms:=fun {u}=>a9Y (fun z hz=>ok.s z (a0G.mp hz)) ends2 lr ok.rn
 have sT:∀ x∈a0l w.srcs,x∉rs:=fun x hx h=>cut.s x hx (cut.t x h)
 have keep:∀ {S':SS},(∀ r,S1 r≠none→S' r=S1 r)→a1o (lc K) S' L a b c' d w.lay∧a7e S' p (a0w w barred):=fun {S'} g=>⟨(lay.grow g1).grow g,lims.grow g⟩
 have gf:Grows S1 (S2.set f (.lst [])):=g2.trans (Grows.set ff)
 lia
 refine searchG c (keep gf).2 pq (by rw [zaa qf];exact hq) un0 (keep gf).1 ok fw nr fun o S3 g3 fo=>?_
 have h3f:S3 f=some (.lst []):=g3.at_ zab
 have h3q:S3 q=some (.dic (a0g D.int us0)):=g3.at_ (by rw [zaa qf];exact hq)
 have g3:Grows S1 S3:=gf.trans g3
 lia
 refine a6W (fun mm δ' S'=>∃ us o wl x7 x8 x9 x10 x11,nms us=nms (a0w w barred)∧ApartW (a0w w barred) (a0l w.srcs) rs (a0d us0) (a0d us) wl∧b2G (a0w w barred) (a0d us) (a0l w.srcs) rs o∧mm=((a0w w barred).filter fun q=>decide (a0d us q.1≠0)).length∧Grows S1 S'∧S' q=some (.dic (a0g D.int us))∧S' f=some (.lst (wl.map wyD))∧δ'=[some (.obj L),some (.lst (barred.map D.str)),some (.lst (rs.map D.str)),some (.obj p),some (.obj q),some (.obj f),some (a3G o),x7,x8,x9,x10,x11]) ⟨us0,o,[],none,none,none,none,none,un0,.start fl0,fo,rfl,g3,h3q,h3f,rfl⟩ ?_
 clear fo h3f h3q
 rintro mm δ' S' ⟨us,o,wl,x7,x8,x9,x10,x11,un,ap,fo,rfl,g,hq',hf',rfl⟩
 lia
 cases o with
 | none =>
  rw [if_neg (by show ¬ (!Sv.isNon (a3G none))=true;decide)]
  lia
  refine a4O rfl hf' ?_
  have gd:Grows S (S'.del f):=fun r hr=>by
   have rf:r≠f:=fun e=>hr (by rw [e];exact ff0)
   rw [SS.del_ne rf,g r (by rw [g1 r hr];exact hr),g1 r hr]
  have bm:∀ {z:Str},Behind (Arc (a0w w barred) (a0d us0)) rs z→z∈w.rooms:=fun {z} h=>by
   have fa:a5a (Arc (a0w w barred) (a0d us0)) rs w.rooms:=a5I rsub ends2 lr ok.rn
   cases h with
   | base h=>exact rsub _ h
   | step a _=>exact (fa.r _ _ _ a).1
  obtain ⟨lx,val⟩:=a3F (X:=w.rooms.filter fun z=>decide (Behind (Arc (a0w w barred) (a0d us0)) rs z)) lok fl0 (ok.ru.filter _) (fun z=>by rw [zay,zah];exact ⟨fun h=>h.2,fun h=>⟨bm h,h⟩⟩) no
  have wk:=ap.done lx val fl0 fo ok.ru rsub ends2
  lia
  exact ends _ wl _ gd (lx.src fun z=>a0G.symm) (fun z hz=>(zay.mp hz).1) (wk.src fun z=>a0G.mp)
 | some st =>
  rw [if_pos (show (!Sv.isNon (a3G (some st)))=true from rfl)]
  obtain ⟨x,y,hx,hy,ch,nd⟩:=fo
  have xT:=sT x hx
  have hp':=(keep g).2
  have stl:st.length≤24:=by
   have h1:=a0C (zbd.mp nd).2 (r:=w.rooms) fun z hz=>by
    obtain ⟨s,hs,rfl⟩:=zan.mp hz
    exact ((fw (u:=a0d us)).r _ _ _ (ch.all s hs)).2
   rw [zag] at h1
   omega
  obtain ⟨l1,y1,st1,est⟩:∃ l1 y1 st1,st=(x,l1,y1) :: st1:=by
   cases ch with
   | nil=>exact absurd hy xT
   | cons _ _=>exact ⟨_,_,_,rfl⟩
  have hin:∀ s∈st,s.2.1∈nms us:=fun s hs=>by
   obtain ⟨q',hq'',e,_⟩:=ch.all s hs
   rw [un,← e]
   exact zan.mpr ⟨q',hq'',rfl⟩
  have wll:wl.length≤40:=by have:=ap.few;have:=lok.few;omega
  show a0b _ _ [some (.obj L),some (.lst (barred.map D.str)),some (.lst (rs.map D.str)),some (.obj p),some (.obj q),some (.obj f),some (.lst (st.map stD)),x7,x8,x9,x10,x11] _ _ _
  lia
  refine ⟨_,rfl,?_⟩
  refine a2e (c3I us) (fun _=>true) (by rw [zag,zai];omega) (fun _ _ _=>rfl) (fun pp ii acc d0 K1 KN hd hpp hk hn=>?_) ?_
  ·rw [zbh,zam] at hd
   obtain ⟨s,hs,rfl⟩:=hd
   have ms:=zaq hs
   have qp:q≠pp:=zad hq' hpp
   refine ⟨_,rfl,rfl,?_⟩
   refine b1c ?_
   rw [if_pos rfl]
   show den _ _ [some _,some _,some _,some _,some (.obj q),some _,some _,_,_,some (.str s.1),some (.str s.2.1),some (.str s.2.2)] _ _ _
   lia
   refine a1I (by rw [zaa qp];exact hq') rfl (a1L (a3K (hin s ms))) ?_
   lia
   rw [show (if a0d us s.2.1 < 0 then -a0d us s.2.1 else a0d us s.2.1)=(((a0d us s.2.1).natAbs:Nat):Int) by split <;> omega]
   exact hk rfl
  rw [show (((st.map stD).filter fun _=>true).map (c3I us))=(st.map fun s=>(((a0d us s.2.1).natAbs:Nat):Int)).map D.int by
   rw [zbc.mpr (fun _ _=>rfl),zat,zat]
   rfl]
  lia
  refine b1X (f:=D.int) (fun _=>rfl) (by rw [est];simp) (a3A fun _ _=>rfl) fun am ha hl=>?_
  have att:∃ s∈st,am=(a0d us s.2.1).natAbs:=by
   obtain ⟨s,hs,e⟩:=zan.mp ha
   exact ⟨s,hs,e.symm⟩
  have least:∀ s∈st,am≤(a0d us s.2.1).natAbs:=fun s hs=>by
   have h:=hl _ (zan.mpr ⟨s,hs,rfl⟩)
   have h:decide ((((a0d us s.2.1).natAbs:Nat):Int) < am)=false:=h
   rw [decide_eq_false_iff_not] at h
   omega
  have a1:1≤am:=by
   obtain ⟨s,hs,e⟩:=att
   obtain ⟨q',hq'',eq,⟨_,_,g⟩ | ⟨_,_,g⟩⟩:=ch.all s hs
   ·rw [eq] at g;omega
   ·rw [eq] at g;omega
  lia
  refine a0a (T:=a2L) rfl ?_
  lia
  refine ⟨rfl,p,q,a0w w barred,0 - am,us,st,rfl,pq,hp',hq',un,fun s hs=>a4s (ch.all s hs),fun us' un' eu=>?_⟩
  have ap2:ApartW (a0w w barred) (a0l w.srcs) rs (a0d us0) (a0d us') (wl ++ [(am,x,st)]):=by rw [eu];exact ap.step lok ch hx hy xT nd a1 least att
  have less:=a6X lok ch nd least att
  rw [← eu] at less
  have g2':Grows S1 (S'.set q (.dic (a0g D.int us'))):=fun r hr=>by
   rw [zaa fun e=>hr (by rw [e];exact fq1)]
   exact g r hr
  have hf2:(S'.set q (.dic (a0g D.int us'))) f=some (.lst (wl.map wyD)):=by rw [zaa qf.symm];exact hf'
  have hq2:(S'.set q (.dic (a0g D.int us'))) q=some (.dic (a0g D.int us')):=zab
  generalize S'.set q (.dic (a0g D.int us'))=S3 at g2' hf2 hq2 ⊢
  lia
  refine a4t (d:=stD (x,l1,y1)) (by rw [est];exact a1K (f:=stD) (l:=(x,l1,y1) :: st1) (k:=0) rfl) ?_
  lia
  refine a80 (d:=.str x) rfl ?_
  lia
  refine ⟨_,rfl,?_⟩
  refine ⟨fun i δ' S'=>∃ y9 y10 y11,S'=S3∧δ'=[some (.obj L),some (.lst (barred.map D.str)),some (.lst (rs.map D.str)),some (.obj p),some (.obj q),some (.obj f),some (.lst (st.map stD)),some (.int am),some (.lst ((a3S x (st.take i)).map D.str)),y9,y10,y11],⟨_,_,_,rfl,rfl⟩,fun _ _ _ _ _=>rfl,?_,?_⟩
  ·rintro i d0 δ' S' hd ⟨y9,y10,y11,rfl,rfl⟩
   rw [zbh,zam] at hd
   obtain ⟨s,hs,rfl⟩:=hd
   have wl2:(a3S x (st.take i)).length≤100:=by
    have:∀ l:List Stp,(l.flatMap fun s=>[s.2.1,s.2.2]).length=2 * l.length:=fun l=>by
     induction l with
     | nil=>rfl
     | cons a l ih=>rw [List.flatMap_cons,zaw,ih];show 2 + 2 * l.length=2 * (l.length + 1);omega
    unfold a3S
    rw [zaz,this,List.length_take]
    omega
   refine ⟨_,rfl,rfl,?_⟩
   show a0b _ _ [some (.obj L),some (.lst (barred.map D.str)),some (.lst (rs.map D.str)),some (.obj p),some (.obj q),some (.obj f),some (.lst (st.map stD)),some (.int am),some (.lst ((a3S x (st.take i)).map D.str)),some (.str s.1),some (.str s.2.1),some (.str s.2.2)] _ _ _
   lia
   refine ⟨some (.str s.1),some (.str s.2.1),some (.str s.2.2),rfl,?_⟩
   rw [take_snoc hs,show a3S x (st.take i ++ [s])=a3S x (st.take i) ++ [s.2.1,s.2.2] by unfold a3S;rw [List.flatMap_append,List.cons_append];rfl,zav]
   rfl
  rintro δ' S' ⟨y9,y10,y11,rfl,rfl⟩
  rw [zag,List.take_length]
  lia
  refine ⟨a88 hf2,?_⟩
  lia
  refine a3O hf2 (by rw [zag,zai];omega) ?_
  have g3':Grows S1 (S'.set f (.lst (wl.map wyD ++ [.tup [.int am,.lst ((a3S x st).map D.str)]]))):=fun r hr=>by
   rw [zaa fun e=>hr (by rw [e];exact ff1)]
   exact g2' r hr
  have hq3:(S'.set f (.lst (wl.map wyD ++ [.tup [.int am,.lst ((a3S x st).map D.str)]]))) q=some (.dic (a0g D.int us')):=by rw [zaa qf];exact hq2
  have hf3:(S'.set f (.lst (wl.map wyD ++ [.tup [.int am,.lst ((a3S x st).map D.str)]]))) f=some (.lst ((wl ++ [(am,x,st)]).map wyD)):=by rw [zab,zav];rfl
  generalize S'.set f (.lst (wl.map wyD ++ [.tup [.int am,.lst ((a3S x st).map D.str)]]))=S4 at g3' hq3 hf3 ⊢
  lia
  refine searchG c (keep g3').2 pq hq3 un' (keep g3').1 ok fw nr fun o S5 g5 fo=>?_
  lia
  exact ⟨_,by omega,us',o,_,_,_,_,_,_,un',ap2,fo,rfl,g3'.trans g5,g5.at_ hq3,g5.at_ hf3,rfl⟩
 ) only [↓Qt.put_off]
variable {K:zbj}
theorem c5O (c:SaysX fa fn fx K):Meets ((tb K).sn N21) ((tb K).G K 21) 1 false a9s b21:=by
 refine Qt.put_in ?_
 simp (disch :=
 with_unfolding_all
 refine Qt.keep ?_
 rintro m hm ds S KK Y ⟨rfl,b,c0,rfl,hb,hc,hK⟩
 refine ⟨rfl,?_⟩
 show a0b _ b21 [some _,none] _ _ _
 unfold b21
 lia
 refine a0a (T:=a0N) rfl ?_
 lia
 refine ⟨rfl,b,4,c0,rfl,by decide,by decide,hb,hc,fun v c1 v0 v1 hc1=>?_⟩
 lia
 by_cases h0:v=0
 ·rw [if_pos (zbg h0)]
  lia
  exact hK 24 40 c1 (by decide) (by decide) (by decide) (by decide) hc1
 rw [if_neg (by rw [zah];exact h0)]
 lia
 by_cases h1:v=1
 ·rw [if_pos (zbg h1)]
  lia
  refine a0a (T:=a0N) rfl ?_
  lia
  refine ⟨rfl,b,24,c1,rfl,by decide,by decide,zab,hc1,fun u c2 u0 u1 hc2=>?_⟩
  rw [zac]
  lia
  refine a0a (T:=a0N) rfl ?_
  lia
  refine ⟨rfl,b,41,c2,rfl,by decide,by decide,zab,hc2,fun t c3 t0 t1 hc3=>?_⟩
  rw [zac]
  lia
  exact hK _ _ c3 (by omega) (by omega) (by omega) (by omega) hc3
 rw [if_neg (by rw [zah];exact h1)]
 lia
 refine a0a (T:=a0N) rfl ?_
 lia
 refine ⟨rfl,b,6,c1,rfl,by decide,by decide,zab,hc1,fun u c2 u0 u1 hc2=>?_⟩
 rw [zac]
 lia
 refine a0a (T:=a0N) rfl ?_
 lia
 refine ⟨rfl,b,14,c2,rfl,by decide,by decide,zab,hc2,fun t c3 t0 t1 hc3=>?_⟩
 rw [zac]
 lia
 exact hK _ _ c3 (by omega) (by omega) (by omega) (by omega) hc3
 ) only [↓Qt.put_off]
theorem b2W {S:SS} {KK:DK} {p:Addr} {z:Str} {zs:List Str} (h:S p=some (.lst (zs.map D.str))) (hz:fine z=true) (hs:∀ w∈zs,fine w=true) (k:KK (.bl (!decide (z∈zs))) S):a0I .NotIn (.str z) (.obj p) S KK:=by
 show a5l true (.str z) (.obj p) S KK
 unfold a5l
 rw [a8H h]
 exact ⟨hz,a1F _ zs hs,by rw [Bool.true_xor,show vw S (.str z)=.str z from rfl,a2k];exact k⟩
def c3L:D→D
 | .str z=>.str (z ++ "x")
 | d=>d
def c3J:D→D
 | .str z=>.str ("y" ++ z)
 | d=>d
def a4J:List Str:=("abcdefghijklmnopqrstuvwxyz" : Str).cps.toList.map (fun c=>(⟨#[c]⟩:Str) ++ "x") ++ ("abcdefghijklmnopqrstuvwxyz" : Str).cps.toList.map (fun c=>("y" : Str) ++ ⟨#[c]⟩)
def b5j:List Str:=a4J.eraseDups
theorem b5k:b5j.Nodup∧(∀ z∈a4J,Nm z)∧b5j.length=51∧∀ z∈b5j,z∈a4J:=by
 refine ⟨by decide +kernel,by decide +kernel,by decide +kernel,by decide +kernel⟩
theorem c56 (c:SaysX fa fn fx K):Meets ((tb K).sn N39) ((tb K).G K 39) 2 false a5H b39:=by
 refine Qt.put_in ?_
 simp (disch :=
 with_unfolding_all
 refine Qt.keep ?_
 rintro m hm ds S KK Y ⟨rfl,b,c0,n,rfl,n0,n1,hb,hc,hK⟩
 refine ⟨rfl,?_⟩
 show a0b _ b39 [some _,some _,none,none,none,none,none,none] _ _ _
 unfold b39
 lia
 have bd:=bnd (j:=n) (by omega) (by omega)
 refine ⟨bd.1,bd.2,?_⟩
 refine b2S (P:=nmD) hb hc (by rw [a1t,zai];omega) (fun _=>trivial) (fun p i acc d S0 c3 K1 hd hb0 hc3 hk=>?_) fun ys c4 hlen hP hc4=>?_
 ·refine a1O ?_
  lia
  refine a0a (T:=b3A) rfl ?_
  lia
  exact ⟨rfl,b,c3,rfl,hb0,hc3,fun z c5 hz hc5=>hk _ c5 ⟨z,rfl,hz⟩ hc5⟩
 obtain ⟨zs,rfl,hzs⟩:=b2Y ys hP
 rw [a1t,zag] at hlen
 obtain ⟨r1,r2,r3,r4⟩:=b5k
 lia
 refine a2e c3L (fun _=>true) (by rw [zai];decide +kernel) (fun _ _ _=>trivial) (fun p i acc d K1 KN hd hp hk hn=>?_) ?_
 ·unfold a1n at hd
  rw [zbh,zam] at hd
  obtain ⟨cc,_,rfl⟩:=hd
  refine a1O (b1c ?_)
  rw [if_pos rfl]
  show den _ _ [some _,some _,some _,some _,none,none,none,some (.str ⟨#[cc]⟩)] _ _ _
  lia
  refine b2Z (by rw [zai];show 1 + 1≤16777216;decide) ?_
  exact hk rfl
 refine b0n (by rw [zag,zai,zag,zbc.mpr (fun _ _=>rfl)];show _ + 26≤_;omega) ?_
 lia
 refine a2e c3J (fun _=>true) (by rw [zai];decide +kernel) (fun _ _ _=>trivial) (fun p i acc d K1 KN hd hp hk hn=>?_) ?_
 ·unfold a1n at hd
  rw [zbh,zam] at hd
  obtain ⟨cc,_,rfl⟩:=hd
  refine a1O (b1c ?_)
  rw [if_pos rfl]
  show den _ _ [some _,some _,some _,some _,none,none,none,some (.str ⟨#[cc]⟩)] _ _ _
  lia
  refine b2Z (by rw [zai];show 1 + 1≤16777216;decide) ?_
  exact hk rfl
 refine b0n (by rw [zaw,zag,zai,zag,zbc.mpr (fun _ _=>rfl),zag];show _ + 26 + 26≤_;omega) ?_
 rw [zbc.mpr (fun _ _=>rfl)]
 rw [show zs.map D.str ++ (a1n ("abcdefghijklmnopqrstuvwxyz" : Str)).map c3L ++ (a1n ("abcdefghijklmnopqrstuvwxyz" : Str)).map c3J=(zs ++ a4J).map D.str by
  unfold a1n a4J
  rw [zav,zav,zat,zat,zat,zat,List.append_assoc]
  rfl]
 lia
 intro p fp
 have bp:b≠p:=zad zab fp
 have all:∀ z∈zs ++ a4J,Nm z:=fun z hz=>(zap.mp hz).elim (hzs z) (r2 z)
 lia
 refine ⟨_,rfl,?_⟩
 refine ⟨fun i δ' S'=>∃ ws x5,ws.Nodup∧(∀ y∈ws,y∈zs ++ a4J)∧(ws.length:Int)≤n∧((ws.length:Int) < n→∀ y∈(zs ++ a4J).take i,y∈ws)∧S'=(S.set b c4).set p (.lst (ws.map D.str))∧δ'=[some (.obj b),some (.int n),some (.str "abcdefghijklmnopqrstuvwxyz"),some (.lst ((zs ++ a4J).map D.str)),some (.obj p),x5,none,none],⟨[],none,List.nodup_nil,(fun _ h=>nomatch h),n0,fun _ y hy=>by simp at hy,rfl,rfl⟩,fun _ _ _ _ _=>rfl,?_,?_⟩
 ·rintro i d0 δ' S' hd ⟨ws,x5,wu,wi,wl,wa,rfl,rfl⟩
  rw [zbh,zam] at hd
  obtain ⟨z,hz,rfl⟩:=hd
  have mz:=zaq hz
  have tk:(zs ++ a4J).take (i + 1)=(zs ++ a4J).take i ++ [z]:=take_snoc hz
  refine a1O ?_
  lia
  refine b2W zab (all z mz).fine (fun w hw=>(all w (wi w hw)).fine) ?_
  lia
  by_cases h1:z∈ws
  ·rw [if_neg (by rw [zbg h1];decide)]
   rw [if_neg (by decide)]
   lia
   refine ⟨ws,_,wu,wi,wl,fun lt y hy=>?_,rfl,rfl⟩
   rw [tk] at hy
   rcases zap.mp hy with hy | hy
   ·exact wa lt y hy
   ·rw [zaj.mp hy];exact h1
  rw [if_pos (by rw [zbf h1];rfl)]
  lia
  refine b4v zab ?_
  lia
  by_cases h2:(ws.length:Int) < n
  ·rw [if_pos (by rw [zah,zag];exact h2)]
   lia
   refine ⟨a88 zab,?_⟩
   lia
   refine a3O zab (by rw [zag,zai];omega) ?_
   lia
   refine ⟨ws ++ [z],_,?_,fun y hy=>?_,by rw [zaw];show ((ws.length + 1:Nat):Int)≤n;omega,fun _ y hy=>?_,by rw [zac,zav];rfl,rfl⟩
   ·refine List.nodup_append.mpr ⟨wu,by simp,fun a ha b hb e=>h1 ?_⟩
    rw [← zaj.mp hb,← e];exact ha
   ·rcases zap.mp hy with hy | hy
    ·exact wi y hy
    ·rw [zaj.mp hy];exact mz
   ·rw [tk] at hy
    rcases zap.mp hy with hy | hy
    ·exact zar _ (wa h2 y hy)
    ·exact zas _ hy
  ·rw [if_neg (by rw [zah,zag];exact h2)]
   lia
   exact ⟨ws,_,wu,wi,wl,fun lt=>absurd lt h2,rfl,rfl⟩
 ·rintro δ' S' ⟨ws,x5,wu,wi,wl,wa,rfl,rfl⟩
  rw [zag,List.take_length] at wa
  refine a4O rfl zab ?_
  rw [zaf (by rw [zaa bp.symm] at fp ⊢;exact fp)]
  lia
  refine hK ws c4 ?_ (fun z hz=>all z (wi z hz)) wu hc4
  by_cases h2:(ws.length:Int) < n
  ·have:=a0C r1 fun z hz=>wa h2 z (zas _ (r4 z hz))
   omega
  ·omega
 ) only [↓Qt.put_off]
theorem c5Q (c:SaysX fa fn fx K):Meets ((tb K).sn N23) ((tb K).G K 23) 3 false a6k b23:=by
 refine Qt.put_in ?_
 simp (disch :=
 with_unfolding_all
 refine Qt.keep ?_
 rintro m hm ds S KK Y ⟨rfl,b,c0,n,zs,rfl,zl,n0,n1,nm,hb,hc,hK⟩
 refine ⟨rfl,?_⟩
 show a0b _ b23 [some _,some _,some _,none,none,none] _ _ _
 unfold b23
 lia
 intro p fp
 have bp:b≠p:=zad hb fp
 lia
 refine b6c (fun z hz=>(nm z hz).fine) ?_
 lia
 have kk:∃ k:Int,n * (if (!zs.isEmpty)=true then 1 else 0)=k∧0≤k∧k≤n∧(zs≠[]→k=n)∧(zs=[]→k=0):=by
  cases zs with
  | nil=>exact ⟨0,by simp,Int.le_refl _,n0,fun h=>absurd rfl h,fun _=>rfl⟩
  | cons a l=>exact ⟨n,by simp,n0,Int.le_refl _,fun _=>rfl,fun h=>nomatch h⟩
 obtain ⟨k,ek,k0,k1,kz,ky⟩:=kk
 have bd:=bnd (j:=k) (by omega) (by omega)
 refine a5W (.inl (.inl ⟨by omega,by omega⟩)) ?_
 rw [ek]
 refine ⟨_,rfl,bd.1,bd.2,?_⟩
 have ln:(a7L 0 k.toNat).length=k.toNat:=by rw [a1t]
 refine ⟨fun i δ' S'=>∃ ws cb x4 x5,a0K cb∧ws.Nodup∧(∀ y∈ws,y∈zs)∧ws.length≤i∧(0 < i→ws≠[])∧S'=(S.set b cb).set p (.lst (ws.map D.str))∧δ'=[some (.obj b),some (.lst (zs.map D.str)),some (.int n),some (.obj p),x4,x5],⟨[],c0,none,none,hc,List.nodup_nil,(fun _ h=>nomatch h),Nat.le_refl _,fun h=>absurd h (Nat.lt_irrefl _),by rw [SS.set_id hb];rfl,rfl⟩,fun _ _ _ _ _=>trivial,?_,?_⟩
 ·rintro i d0 δ' S' hd ⟨ws,cb,x4,x5,hcb,wu,wi,wl,wn,rfl,rfl⟩
  have il:=(List.getElem?_eq_some_iff.mp hd).1
  rw [ln] at il
  have zn:zs≠[]:=fun h=>by rw [ky h] at il;simp at il
  have zp:=List.length_pos_iff.mpr zn
  have at_b:∀ {cb:Cell},((S.set b cb).set p (.lst (ws.map D.str))) b=some cb:=fun {cb}=>by rw [zaa bp,zab]
  refine a1O ?_
  lia
  refine a0a (T:=a0N) rfl ?_
  lia
  refine ⟨rfl,b,_,cb,rfl,by rw [zag];omega,lg (by rw [zag];omega) (by rw [zag];omega),at_b,hcb,fun u c2 u0 u1 hc2=>?_⟩
  rw [show ((S.set b cb).set p (.lst (ws.map D.str))).set b c2=(S.set b c2).set p (.lst (ws.map D.str)) by rw [zae bp.symm,zac]]
  obtain ⟨z,ez,mz,_⟩:=b5c nm u0 u1
  refine a4t ez ?_
  lia
  refine b2W zab (nm z mz).fine (fun w hw=>(nm w (wi w hw)).fine) ?_
  lia
  by_cases h1:z∈ws
  ·rw [if_neg (by rw [zbg h1];decide)]
   lia
   exact ⟨ws,c2,_,_,hc2,wu,wi,by omega,fun _=>List.ne_nil_of_mem h1,rfl,rfl⟩
  ·rw [if_pos (by rw [zbf h1];rfl)]
   lia
   refine ⟨a88 zab,?_⟩
   lia
   have nb:=a0C wu wi
   refine a3O zab (by rw [zag,zai];omega) ?_
   lia
   refine ⟨ws ++ [z],c2,_,_,hc2,?_,fun y hy=>?_,by rw [zaw];show ws.length + 1≤_;omega,fun _ e=>by simp at e,by rw [zac,zav];rfl,rfl⟩
   ·refine List.nodup_append.mpr ⟨wu,by simp,fun a ha b hb e=>h1 ?_⟩
    rw [← zaj.mp hb,← e];exact ha
   ·rcases zap.mp hy with hy | hy
    ·exact wi y hy
    ·rw [zaj.mp hy];exact mz
 ·rintro δ' S' ⟨ws,cb,x4,x5,hcb,wu,wi,wl,wn,rfl,rfl⟩
  rw [ln] at wl wn
  refine a4O rfl zab ?_
  rw [zaf (by rw [zaa bp.symm];exact fp)]
  lia
  exact hK ws cb wi wu (by omega) (fun h1 h2=>wn (by rw [kz h1];omega)) hcb
 ) only [↓Qt.put_off]
theorem c5S (c:SaysX fa fn fx K):Meets ((tb K).sn N25) ((tb K).G K 25) 2 false a9p b25:=by
 refine Qt.put_in ?_
 simp (disch :=
 with_unfolding_all
 refine Qt.keep ?_
 rintro m hm ds S KK Y ⟨rfl,b,c0,co,rfl,hb,hc,hK⟩
 refine ⟨rfl,?_⟩
 show a0b _ b25 [some _,some _,none] _ _ _
 unfold b25
 lia
 refine a0a (T:=a0N) rfl ?_
 lia
 refine ⟨rfl,b,6,c0,rfl,by decide,by decide,hb,hc,fun v c1 h0 h1 hc1=>?_⟩
 lia
 by_cases hv:v=0
 ·rw [if_pos (zbg hv)]
  lia
  exact hK 0 c1 (by decide) (by decide) hc1
 rw [if_neg (by rw [zah];exact hv)]
 lia
 by_cases a1:co=0
 ·rw [if_pos (zbg a1)]
  try rw [if_pos rfl]
  lia
  exact hK 1 c1 (by decide) (by decide) hc1
 rw [if_neg (by rw [zah];exact a1)]
 lia
 by_cases a2:v=1
 ·rw [if_pos (zbg a2)]
  try rw [if_pos rfl]
  lia
  exact hK 1 c1 (by decide) (by decide) hc1
 rw [if_neg (by rw [zah];exact a2)]
 try rw [if_neg zbe]
 lia
 by_cases a3:co=1
 ·rw [if_pos (zbg a3)]
  try rw [if_pos rfl]
  lia
  refine a0a (T:=a0N) rfl ?_
  lia
  refine ⟨rfl,b,3,c1,rfl,by decide,by decide,zab,hc1,fun u c2 u0 u1 hc2=>?_⟩
  rw [zac]
  lia
  exact hK _ c2 (by omega) (by omega) hc2
 rw [if_neg (by rw [zah];exact a3)]
 lia
 by_cases a4:v=2
 ·rw [if_pos (zbg a4)]
  try rw [if_pos rfl]
  lia
  refine a0a (T:=a0N) rfl ?_
  lia
  refine ⟨rfl,b,3,c1,rfl,by decide,by decide,zab,hc1,fun u c2 u0 u1 hc2=>?_⟩
  rw [zac]
  lia
  exact hK _ c2 (by omega) (by omega) hc2
 rw [if_neg (by rw [zah];exact a4)]
 try rw [if_neg zbe]
 lia
 refine a0a (T:=a0N) rfl ?_
 lia
 refine ⟨rfl,b,99,c1,rfl,by decide,by decide,zab,hc1,fun u c2 u0 u1 hc2=>?_⟩
 rw [zac]
 lia
 exact hK _ c2 (by omega) (by omega) hc2
 ) only [↓Qt.put_off]
theorem c5R (c:SaysX fa fn fx K):Meets ((tb K).sn N24) ((tb K).G K 24) 4 false a9q b24:=by
 refine Qt.put_in ?_
 simp (disch :=
 with_unfolding_all
 refine Qt.keep ?_
 rintro m hm ds S KK Y ⟨rfl,b,c0,sh,n,k,rfl,n1,n2,k0,k1,hb,hc,hK⟩
 have md:∀ x:Int,0≤x % n∧x % n < n:=fun x=>⟨Int.emod_nonneg _ (by omega),Int.emod_lt_of_pos _ (by omega)⟩
 refine ⟨rfl,?_⟩
 show a0b _ b24 [some _,some _,some _,some _,none,none] _ _ _
 unfold b24
 lia
 refine b0o ⟨by decide,by decide⟩ ?_
 have hh:1≤(n + 1) / 2∧(n + 1) / 2≤n:=by omega
 generalize (n + 1) / 2=h at hh ⊢
 lia
 by_cases h0:sh=0
 ·rw [if_pos (zbg h0)]
  lia
  refine a0a (T:=a0N) rfl ?_
  lia
  refine ⟨rfl,b,n,c0,rfl,by omega,lg (by omega) (by omega),hb,hc,fun u c1 u0 u1 hc1=>?_⟩
  lia
  refine a0a (T:=a0N) rfl ?_
  lia
  refine ⟨rfl,b,n,c1,rfl,by omega,lg (by omega) (by omega),zab,hc1,fun v c2 v0 v1 hc2=>?_⟩
  rw [zac]
  lia
  exact hK _ _ c2 u0 u1 v0 v1 hc2
 rw [if_neg (by rw [zah];exact h0)]
 lia
 by_cases h1:sh=1
 ·rw [if_pos (zbg h1)]
  lia
  refine a2G (by omega) ?_
  lia
  refine a0a (T:=a0N) rfl ?_
  lia
  refine ⟨rfl,b,2,c0,rfl,by decide,by decide,hb,hc,fun u c1 u0 u1 hc1=>?_⟩
  lia
  refine a0a (T:=a0N) rfl ?_
  lia
  refine ⟨rfl,b,n,c1,rfl,by omega,lg (by omega) (by omega),zab,hc1,fun v c2 v0 v1 hc2=>?_⟩
  rw [zac]
  lia
  refine a5W (.inl (.inl ⟨by omega,by omega⟩)) ?_
  lia
  refine a2G (by omega) ?_
  lia
  exact hK _ _ c2 (md _).1 (md _).2 (md _).1 (md _).2 hc2
 rw [if_neg (by rw [zah];exact h1)]
 lia
 by_cases h2:sh=2
 ·rw [if_pos (zbg h2)]
  lia
  refine a2G (by omega) ?_
  lia
  refine a0a (T:=a0N) rfl ?_
  lia
  refine a2G (by omega) ?_
  have m1:=md k
  lia
  refine ⟨rfl,b,1 + k % n,c0,rfl,by omega,lg (by omega) (by omega),hb,hc,fun u c1 u0 u1 hc1=>?_⟩
  lia
  exact hK _ _ c1 m1.1 m1.2 u0 (by omega) hc1
 rw [if_neg (by rw [zah];exact h2)]
 lia
 refine a0a (T:=a0N) rfl ?_
 lia
 refine ⟨rfl,b,5,c0,rfl,by decide,by decide,hb,hc,fun v c1 v0 v1 hc1=>?_⟩
 lia
 by_cases h3:v=0
 ·rw [if_pos (zbg h3)]
  lia
  refine a0a (T:=a0N) rfl ?_
  lia
  refine ⟨rfl,b,h,c1,rfl,by omega,lg (by omega) (by omega),zab,hc1,fun u c2 u0 u1 hc2=>?_⟩
  rw [zac]
  lia
  refine a0a (T:=a0N) rfl ?_
  lia
  refine ⟨rfl,b,n,c2,rfl,by omega,lg (by omega) (by omega),zab,hc2,fun t c3 t0 t1 hc3=>?_⟩
  rw [zac]
  lia
  refine a2G (by omega) ?_
  lia
  exact hK _ _ c3 u0 (by omega) (md _).1 (md _).2 hc3
 rw [if_neg (by rw [zah];exact h3)]
 lia
 refine a0a (T:=a0N) rfl ?_
 lia
 refine ⟨rfl,b,2,c1,rfl,by decide,by decide,zab,hc1,fun u c2 u0 u1 hc2=>?_⟩
 rw [zac]
 lia
 refine a5W (.inl (.inl ⟨by omega,by omega⟩)) ?_
 lia
 refine a0a (T:=a0N) rfl ?_
 lia
 refine ⟨rfl,b,h,c2,rfl,by omega,lg (by omega) (by omega),zab,hc2,fun s c3 s0 s1 hc3=>?_⟩
 rw [zac]
 lia
 refine a2G (by omega) ?_
 lia
 refine a0a (T:=a0N) rfl ?_
 lia
 refine ⟨rfl,b,h,c3,rfl,by omega,lg (by omega) (by omega),zab,hc3,fun t c4 t0 t1 hc4=>?_⟩
 rw [zac]
 lia
 refine a2G (by omega) ?_
 lia
 exact hK _ _ c4 (md _).1 (md _).2 (md _).1 (md _).2 hc4
 ) only [↓Qt.put_off]
variable {K:zbj}
theorem c6i (c:SaysX fa fn fx K):Meets ((tb K).sn N51) ((tb K).G K 51) 1 false (a5G K) b51:=by
 refine Qt.put_in ?_
 simp (disch :=
 with_unfolding_all
 refine Qt.keep ?_
 rintro m hm ds S KK Y ⟨rfl,M,e,f,w,rfl,mw,ok,wd,hK⟩
 refine ⟨rfl,?_⟩
 show a0b _ b51 [some _,none,none,none,none,none,none] _ _ _
 unfold b51
 have lr:=ok.r
 have ll:=ok.l
 have ld:=ok.d
 lia
 refine c5m (T:=b3z K) rfl rfl ?_
 lia
 intro L frL
 refine ⟨rfl,L,rfl,zab,fun a b c' d aL bL cL dL ab ac ad bc bd cd fa fb fc fd=>⟨rfl,?_⟩⟩
 rw [zaa aL] at fa
 rw [zaa bL] at fb
 rw [zaa cL] at fc
 rw [zaa dL] at fd
 have l0:=a1o.put (C:=lc K) (S:=S.set L (.ins (lc K) [])) aL bL cL dL ab ac ad bc bd cd
 have nw:∀ q,S q≠none→q≠L∧q≠a∧q≠b∧q≠c'∧q≠d:=fun q h=>⟨fun e=>h (e ▸ frL),fun e=>h (e ▸ fa),fun e=>h (e ▸ fb),fun e=>h (e ▸ fc),fun e=>h (e ▸ fd)⟩
 have g0:Grows S (b1g (lc K) (S.set L (.ins (lc K) [])) L a b c' d):=fun q hq=>by
  obtain ⟨h1,h2,h3,h4,h5⟩:=nw q hq
  unfold b1g
  simp [h1,h2,h3,h4,h5,zaa h1]
 have old:∀ {S1:SS} {q:Addr} {x:Cell},Grows S S1→S q=some x→S1 q=some x:=fun {S1 q x} g h=>by rw [g q (by rw [h];exact fun z=>nomatch z)];exact h
 have d0:Ld (lc K) S (b1g (lc K) (S.set L (.ins (lc K) [])) L a b c' d) L a b c' d M e f w (part w 0 0 0 0) (.dic (a0g fL w.lines)):=⟨nw,mw,l0,old g0 mw.M,old g0 mw.e,fun q h _=>g0 q h⟩
 clear l0 g0
 show a0b ((tb K).G K 51 none) _ _ (b1g (lc K) (S.set L (.ins (lc K) [])) L a b c' d) _ _
 generalize b1g (lc K) (S.set L (.ins (lc K) [])) L a b c' d=S0 at d0 ⊢
 lia
 refine a1I d0.at_M rfl a6g ?_
 refine ⟨_,rfl,?_⟩
 refine ⟨fun i δ' S'=>∃ x,Ld (lc K) S S' L a b c' d M e f w (part w i 0 0 0) (.dic (a0g fL w.lines))∧δ'=[some (.obj M),some (.obj L),x,none,none,none,none],⟨none,d0,rfl⟩,fun _ _ _ _ _=>rfl,?_,?_⟩
 ·rintro i d0 δ' S' hd ⟨x,d1,rfl⟩
  rw [zbh,zam] at hd
  obtain ⟨z,hz,rfl⟩:=hd
  have hi:=(List.getElem?_eq_some_iff.mp hz).1
  refine a1O ?_
  lia
  refine a4l (T:=a5B K) rfl ?_
  lia
  refine a4A d1.lay.s.L rfl ?_
  lia
  refine ⟨rfl,L,a,b,c',d,_,0,z,rfl,ok.rn z (zaq hz),d1.lay.s,a7G ok (.inl rfl),?_⟩
  have du:due (part w i 0 0 0) (.room z)=none:=by
   have h1:z∉nms (part w i 0 0 0).rooms:=by show z∉nms (units _);rw [a0j];exact a6J ok.ru hz
   have h2:¬ (part w i 0 0 0).rooms.length=24:=by show ¬ (units _).length=24;unfold units;rw [zag,List.length_take];omega
   simp only [due,if_neg h1,if_neg h2]
  rw [du]
  have l2:=d1.set (.inr (.inl rfl)) (d1.lay.rooms (units (w.rooms.take i) ++ [(z,())]))
  show Ends _ none _ _ _
  unfold Ends
  dsimp only
  lia
  refine ⟨_,?_,rfl⟩
  have e1:part w (i + 1) 0 0 0={ part w i 0 0 0 with rooms:=units (w.rooms.take i) ++ [(z,())] }:=by
   unfold part
   rw [take_snoc hz,a2v]
  rw [e1]
  exact l2
 rintro δ' S' ⟨x,d1,rfl⟩
 rw [zag] at d1
 clear d0
 have d3:=d1
 clear d1
 lia
 refine a5z d3.at_e ?_
 lia
 have d2:=d3.sete (.loc (a0g fL w.lines))
 refine a1I d2.at_M rfl a1e ?_
 refine ⟨e,_,rfl,zab,?_⟩
 refine ⟨fun i δ' S'=>∃ y z1 z2 z3,Ld (lc K) S S' L a b c' d M e f w (part w w.rooms.length 0 i 0) (.loc (a0g fL w.lines))∧δ'=[some (.obj M),some (.obj L),x,y,z1,z2,z3],⟨_,_,_,_,d2,rfl⟩,fun _ _ _ _ _=>trivial,?_,?_⟩
 ·rintro i d0 δ' S' hd ⟨y,z1,z2,z3,d1,rfl⟩
  obtain ⟨q,rfl,hq⟩:=a6A hd
  have hi:=(List.getElem?_eq_some_iff.mp hq).1
  have mq:=zaq hq
  obtain ⟨n1,r1,r2,ne,k0,k1⟩:=ok.ln q mq
  refine a1O ?_
  lia
  refine a07 rfl ?_
  lia
  refine a1I d1.at_M rfl a1e ?_
  lia
  refine b5C d1.at_e rfl (by rw [a0s,a0e ok.lu mq];rfl) ?_
  refine ⟨_,rfl,rfl,?_⟩
  show a0b _ _ [some (.obj M),some (.obj L),x,some (.str q.1),some (.str q.2.1),some (.str q.2.2.1),some (.int q.2.2.2)] _ _ _
  lia
  refine a4l (T:=a5A K) rfl ?_
  lia
  refine a4A d1.lay.s.L rfl ?_
  lia
  refine ⟨rfl,L,a,b,c',d,_,0,q.1,q.2.1,q.2.2.1,q.2.2.2,rfl,⟨n1,ok.rn _ r1,ok.rn _ r2,ne,k0,k1⟩,d1.lay.s,a7G ok (.inl rfl),?_⟩
  have du:due (part w w.rooms.length 0 i 0) (.line q.1 q.2.1 q.2.2.1 q.2.2.2)=none:=by
   have h1:¬ (q.1∈nms (part w w.rooms.length 0 i 0).lines∨q.1∈nms (part w w.rooms.length 0 i 0).drains):=by
    rintro (h | h)
    ·have h:q.1∈nms (w.lines.take i):=h
     rw [a8r] at h
     exact a6J ok.lu (a6K hq) h
    ·have h:q.1∈nms (w.drains.take 0):=h
     simp [nms] at h
   have rm:∀ {z:Str},z∈w.rooms→z∈nms (part w w.rooms.length 0 i 0).rooms:=fun {z} hz=>by show _∈nms (units _);rw [a0j,List.take_length];exact hz
   have h3:¬ (part w w.rooms.length 0 i 0).lines.length=40:=by show ¬ (w.lines.take i).length=40;rw [List.length_take];omega
   simp only [due,a1C,if_neg h1,if_pos (rm r1),if_pos (rm r2),if_neg h3,Option.none_or]
  rw [du]
  have l2:=d1.set (.inr (.inr (.inl rfl))) (d1.lay.lines (w.lines.take i ++ [q]))
  show Ends _ none _ _ _
  unfold Ends
  dsimp only
  lia
  refine ⟨_,_,_,_,?_,rfl⟩
  have e1:part w w.rooms.length 0 (i + 1) 0={ part w w.rooms.length 0 i 0 with lines:=w.lines.take i ++ [q] }:=by
   unfold part
   rw [take_snoc hq]
  rw [e1]
  exact l2
 rintro δ' S' ⟨y,z1,z2,z3,d1,rfl⟩
 have el:((a0g fL w.lines).map fun kv=>keyV kv.1).length=w.lines.length:=by rw [zag,a0p]
 rw [el] at d1
 dsimp only [SE.unlock]
 clear d2 d3
 have d3:=d1.sete (.dic (a0g fL w.lines))
 clear d1
 generalize S'.set e (.dic (a0g fL w.lines))=S2 at d3 ⊢
 lia
 refine a1I d3.at_M rfl a4W ?_
 have at_f:∀ {S':SS},(∀ q,S q≠none→q≠e→S' q=S q)→S' f=some (.lst (w.srcs.map D.str)):=fun {S'} h=>(h f (by rw [d3.mw.f];exact nofun) d3.mw.ef.symm).trans d3.mw.f
 refine ⟨_,a8H (at_f d3.rest),?_⟩
 refine ⟨fun i δ' S'=>∃ x,Ld (lc K) S S' L a b c' d M e f w (part w w.rooms.length 0 w.lines.length i) (.dic (a0g fL w.lines))∧δ'=[some (.obj M),some (.obj L),x,y,z1,z2,z3],⟨_,d3,rfl⟩,fun _ _ _ h _=>a8H (at_f h.choose_spec.1.rest),?_,?_⟩
 ·rintro i d0 δ' S' hd ⟨x,d1,rfl⟩
  rw [zbh,zam] at hd
  obtain ⟨z,hz,rfl⟩:=hd
  have hi:=(List.getElem?_eq_some_iff.mp hz).1
  have mz:=ok.s z (zaq hz)
  refine a1O ?_
  lia
  refine a4l (T:=a3p K) rfl ?_
  lia
  refine a4A d1.lay.s.L rfl ?_
  lia
  refine ⟨rfl,L,a,b,c',d,_,0,z,rfl,ok.rn z mz,d1.lay.s,a7G ok (.inr (Nat.le_refl _)),by decide,?_⟩
  have du:due (part w w.rooms.length 0 w.lines.length i) (.source z)=none:=by
   have h1:z∈nms (part w w.rooms.length 0 w.lines.length i).rooms:=by show _∈nms (units _);rw [a0j,List.take_length];exact mz
   have h2:z∉nms (part w w.rooms.length 0 w.lines.length i).pushed:=by show _∉nms (units _);rw [a0j];exact a6J ok.su hz
   simp only [due,if_pos h1,if_neg h2]
  rw [du]
  have l2:=d1.set (.inr (.inr (.inr (.inr rfl)))) (d1.lay.pushed (units (w.srcs.take i) ++ [(z,())]))
  show Ends _ none _ _ _
  unfold Ends
  dsimp only
  lia
  refine ⟨_,?_,rfl⟩
  have e1:part w w.rooms.length 0 w.lines.length (i + 1)={ part w w.rooms.length 0 w.lines.length i with pushed:=units (w.srcs.take i) ++ [(z,())] }:=by
   unfold part
   rw [take_snoc hz,a2v]
  rw [e1]
  exact l2
 rintro δ' S' ⟨x,d1,rfl⟩
 rw [zag] at d1
 have e1:part w w.rooms.length 0 w.lines.length w.srcs.length=w.lay:=by
  unfold part Wo.lay
  rw [List.take_length,List.take_length,List.take_length,wd]
  rfl
 rw [e1] at d1
 lia
 exact hK L a b c' d S' d1.grows frL fa fb fc fd d1.lay
 ) only [↓Qt.put_off]
theorem c1R {a b c d e f u:Int} (h0:0≤u) (h1:u < 6):∃ n,atI [D.int a,.int b,.int c,.int d,.int e,.int f] u=some (.int n)∧(n=a∨n=b∨n=c∨n=d∨n=e∨n=f):=by
 obtain rfl | rfl | rfl | rfl | rfl | rfl:u=0∨u=1∨u=2∨u=3∨u=4∨u=5:=by omega
 all_goals exact ⟨_,rfl,by simp⟩
theorem b7H {a b c d e u:Int} (h0:0≤u) (h1:u < 5):∃ n,atI [D.int a,.int b,.int c,.int d,.int e] u=some (.int n)∧(n=a∨n=b∨n=c∨n=d∨n=e):=by
 obtain rfl | rfl | rfl | rfl | rfl:u=0∨u=1∨u=2∨u=3∨u=4:=by omega
 all_goals exact ⟨_,rfl,by simp⟩
theorem b7G {a b c d:D} {u:Int} (h0:0≤u) (h1:u < 4):∃ n,atI [a,b,c,d] u=some n∧(n=a∨n=b∨n=c∨n=d):=by
 obtain rfl | rfl | rfl | rfl:u=0∨u=1∨u=2∨u=3:=by omega
 all_goals exact ⟨_,rfl,by simp⟩
theorem c6h (c:SaysX fa fn fx K):Meets ((tb K).sn N50) ((tb K).G K 50) 3 false a7k b50:=by
 refine Qt.put_in ?_
 simp (disch :=
 with_unfolding_all
 refine Qt.keep ?_
 rintro m hm ds S KK Y ⟨rfl,b,c0,n,k,rfl,n0,n1,k0,k1,hb,hc,hK⟩
 refine ⟨rfl,?_⟩
 show a0b _ b50 [some _,some _,some _,none,none,none,none,none,none,none,none,none,none,none] _ _ _
 unfold b50
 lia
 refine a0a (T:=a0N) rfl ?_
 lia
 refine ⟨rfl,b,4,c0,rfl,by decide,by decide,hb,hc,fun sh c1 s0 s1 hc1=>?_⟩
 lia
 refine a0a (T:=a0N) rfl ?_
 lia
 refine ⟨rfl,b,3,c1,rfl,by decide,by decide,zab,hc1,fun co c2 o0 o1 hc2=>?_⟩
 rw [zac]
 lia
 refine a0a (T:=a5H) rfl ?_
 lia
 refine ⟨rfl,b,c2,n,rfl,by omega,by omega,zab,hc2,fun rs c3 rl rn ru hc3=>?_⟩
 rw [zac]
 lia
 refine b0o ⟨by decide,by decide⟩ ?_
 have hh:1≤(n + 1) / 2∧(n + 1) / 2≤n∧(n + 1) / 2≤12:=by omega
 generalize (n + 1) / 2=h at hh ⊢
 obtain ⟨h,rfl⟩:=Int.eq_ofNat_of_zero_le (show 0≤h by omega)
 lia
 refine a0a (T:=a6k) rfl ?_
 lia
 rw [a74,← List.map_take]
 refine a0a (T:=a0N) rfl ?_
 lia
 refine ⟨rfl,b,6,c3,rfl,by decide,by decide,zab,hc3,fun v c4 v0 v1 hc4=>?_⟩
 rw [zac]
 obtain ⟨mny,em,hm⟩:=c1R (a:=1) (b:=1) (c:=2) (d:=3) (e:=0) (f:=12) v0 v1
 refine a4t em ?_
 lia
 refine ⟨rfl,b,c4,mny,rs.take h,rfl,by rw [List.length_take];omega,by omega,by omega,fun z hz=>rn z (List.mem_of_mem_take hz),zab,hc4,fun ss c5 ssub su sl _ hc5=>?_⟩
 rw [zac]
 lia
 refine a2S fun p fp=>?_
 have bp:b≠p:=zad zab fp
 have fp0:S p=none:=by rw [zaa bp.symm] at fp;exact fp
 have at_b:∀ {cb x:Cell},((S.set b cb).set p x) b=some cb:=fun {cb x}=>by rw [zaa bp,zab]
 have b2q:∀ {cb cb2 x:Cell},((S.set b cb).set p x).set b cb2=(S.set b cb2).set p x:=fun {cb cb2 x}=>by rw [zae bp.symm,zac]
 lia
 refine a0a (T:=a5H) rfl ?_
 lia
 refine ⟨rfl,b,c5,k,rfl,by omega,by omega,at_b,hc5,fun zs c6 zl zn zu hc6=>?_⟩
 rw [b2q]
 refine ⟨_,rfl,?_⟩
 refine ⟨fun i δ' S'=>∃ cb ls x1 x2 x3 x4 x5,a0K cb∧b1j rs (zs.take i) ls∧S'=(S.set b cb).set p (.dic (a0g fL ls))∧δ'=[some (.obj b),some (.int n),some (.int k),some (.int sh),some (.int co),some (.lst (rs.map D.str)),some (.int h),some (.lst (ss.map D.str)),some (.obj p),x1,x2,x3,x4,x5],⟨c6,[],none,none,none,none,none,hc6,.nil,rfl,rfl⟩,fun _ _ _ _ _=>rfl,?_,?_⟩
 ·rintro i d0 δ' S' hd ⟨cb,ls,x1,x2,x3,x4,x5,hcb,ok,rfl,rfl⟩
  obtain ⟨e0,he,rfl⟩:=a5M hd
  rw [zbh,zam] at he
  obtain ⟨z,hz,rfl⟩:=he
  have hi:=(List.getElem?_eq_some_iff.mp hz).1
  have et:zs.take (i + 1)=zs.take i ++ [z]:=by rw [List.take_add_one,hz];rfl
  have new:z∉zs.take i:=fun h=>by
   obtain ⟨j,hj⟩:=List.mem_iff_getElem?.mp h
   have hji:j < i:=by have:=(List.getElem?_eq_some_iff.mp hj).1;rw [List.length_take] at this;omega
   rw [List.getElem?_take_of_lt hji] at hj
   have:=(List.getElem?_inj (by have:=(List.getElem?_eq_some_iff.mp hj).1;exact this) zu).mp (hj.trans hz.symm)
   omega
  refine ⟨_,rfl,rfl,?_⟩
  show a0b _ _ [some _,some _,some _,some _,some _,some _,some _,some _,some (.obj p),some (.int ((i:Nat):Int)),some (.str z),x3,x4,x5] _ _ _
  lia
  refine a07 rfl ?_
  lia
  refine a0a (T:=a9q) rfl ?_
  lia
  refine ⟨rfl,b,cb,sh,n,_,rfl,by omega,by omega,by omega,by omega,at_b,hcb,fun u v c2 u0 u1 v0 v1 hc2=>?_⟩
  rw [b2q]
  refine ⟨_,rfl,rfl,?_⟩
  show a0b _ _ [some _,some _,some _,some _,some _,some _,some _,some _,some (.obj p),some (.int ((i:Nat):Int)),some (.str z),some (.int u),some (.int v),x5] _ _ _
  lia
  refine a0a (T:=a9p) rfl ?_
  lia
  refine ⟨rfl,b,c2,co,rfl,at_b,hc2,fun kk c3 k0 k1 hc3=>?_⟩
  rw [b2q]
  lia
  obtain ⟨u,rfl⟩:=Int.eq_ofNat_of_zero_le u0
  obtain ⟨v,rfl⟩:=Int.eq_ofNat_of_zero_le v0
  have hu:u < rs.length:=by omega
  have hv:v < rs.length:=by omega
  by_cases e:u=v
  ·rw [if_neg (by simp [e])]
   lia
   exact ⟨c3,ls,_,_,_,_,_,hc3,by rw [et];exact ok.skip,rfl,rfl⟩
  ·rw [if_pos (by simp;omega)]
   lia
   refine a4t (a1K (zbi hu)) ?_
   lia
   refine a4t (a1K (zbi hv)) ?_
   lia
   have ne:rs[v]≠rs[u]:=fun h=>e ((List.getElem_inj ru).mp h).symm
   have lz:z∉nms ls:=fun h=>by
    obtain ⟨q,hq,rfl⟩:=zan.mp h
    exact new (ok.one q hq).1
   have few:=ok.few
   rw [List.length_take] at few
   refine a3i zab rfl (by rw [a0p,zai];omega) ?_
   rw [zac,show (D.tup [.str rs[u],.str rs[v],.int kk])=fL (rs[u],rs[v],kk) from rfl,a0T lz]
   lia
   exact ⟨c3,_,_,_,_,_,_,hc3,by rw [et];exact ok.add new (List.getElem_mem hu) (List.getElem_mem hv) ne k0 k1,rfl,rfl⟩
 ·rintro δ' S' ⟨cb,ls,x1,x2,x3,x4,x5,hcb,ok,rfl,rfl⟩
  have el:(a2b (zs.map D.str)).length=zs.length:=by rw [a2c,zag]
  rw [el,List.take_length] at ok
  lia
  refine b6n fun M fM=>?_
  lia
  refine b71 (zs:=rs) (by omega) ?_
  lia
  refine ⟨ss,.inl rfl,by omega,?_⟩
  unfold outL
  rw [if_pos rfl]
  intro f ff
  lia
  have pM:p≠M:=zad zab fM
  have bM:b≠M:=zad at_b fM
  have few:=ok.few
  have Mf:M≠f:=zad zab ff
  have pf:p≠f:=zad (by rw [zaa pM];exact zab) ff
  have bf:b≠f:=zad (by rw [zaa bM];exact at_b) ff
  refine ⟨by rw [zaa Mf];exact zab,_,rfl,by show 4≤15;decide,?_⟩
  rw [if_pos rfl,zae Mf,zac]
  refine hK ⟨rs,ls,[],a0l ss⟩ M p f cb _ ⟨by show rs.length≤24;omega,rn,ru,by show ls.length≤40;omega,fun r hr=>?_,ok.u,Nat.zero_le _,(fun _ hr=>nomatch hr),List.nodup_nil,(fun _ _ h=>nomatch h),fun z hz=>List.mem_of_mem_take (ssub z (a0G.mp hz)),a1N su⟩ (fun h=>by have h:rs=[]:=h;rw [h] at rl;simp at rl;omega) rfl rl ?_ hcb ⟨pM.symm,Mf,pf,zab,?_,?_⟩
  ·obtain ⟨h1,h2⟩:=ok.one r hr
   exact ⟨zn _ h1,h2⟩
  ·rw [zaa bM,zaa bf];exact at_b
  ·rw [zaa pM,zaa pf];exact zab
  ·rw [zaa Mf.symm];exact zab
 ) only [↓Qt.put_off]
theorem c58 (c:SaysX fa fn fx K):Meets ((tb K).sn N41) ((tb K).G K 41) 2 false a5C b41:=by
 refine Qt.put_in ?_
 simp (disch :=
 with_unfolding_all
 refine Qt.keep ?_
 rintro m hm ds S KK Y ⟨rfl,b,c0,M,e,f,w,rfl,hb,hc,mw,ok,hK⟩
 refine ⟨rfl,?_⟩
 show a0b _ b41 [some _,some _,none,none] _ _ _
 unfold b41
 have ll:=ok.l
 lia
 refine a5z mw.e ?_
 lia
 have M1:(S.set e (.loc (a0g fL w.lines))) M=some (.dic (mW w e f)):=by rw [zaa mw.Me];exact mw.M
 refine a1I M1 rfl a1e ?_
 refine ⟨e,_,rfl,zab,?_⟩
 refine a2e id (swD w) (by rw [zag,a0p,zai];omega) (fun _ _ _=>trivial) (fun p i acc d K1 KN hd hp hk hn=>?_) ?_
 ·obtain ⟨q,rfl,hq⟩:=a6A hd
  have hq:=zaq hq
  have pM:M≠p:=zad M1 hp
  have pe:e≠p:=zad zab hp
  have el:swD w (.str q.1)=decide (0 < q.2.2.2):=by simp only [swD,a0e ok.lu hq]
  refine a1O (b2J ?_)
  show a0u _ _ [some _,some _,none,some _] _ _ _
  lia
  refine a1I (by rw [zaa pM];exact M1) rfl a1e ?_
  lia
  refine b5C (by rw [zaa pe];exact zab) rfl (by rw [a0s,a0e ok.lu hq];rfl) ?_
  lia
  refine a80 (d:=.int q.2.2.2) rfl ?_
  lia
  by_cases h:0 < q.2.2.2
  ·rw [if_pos (zbg h)]
   lia
   exact hk (el.trans (zbg h))
  ·rw [if_neg (by rw [zah];exact h)]
   exact hn (el.trans (zbf h))
 rw [b5s ok]
 dsimp only [SE.unlock]
 rw [zac,SS.set_id mw.e]
 lia
 refine a0a (T:=a6k) rfl ?_
 lia
 refine a0a (T:=a0N) rfl ?_
 lia
 refine ⟨rfl,b,5,c0,rfl,by decide,by decide,hb,hc,fun v c1 v0 v1 hc1=>?_⟩
 obtain ⟨mny,em,hm⟩:=b7H (a:=0) (b:=1) (c:=3) (d:=8) (e:=40) v0 v1
 refine a4t em ?_
 lia
 have sl:(a08 w).length≤40:=by
  unfold a08 nms
  rw [zag]
  exact Nat.le_trans (zbb _ _) ll
 have sn:∀ z∈a08 w,Nm z:=fun z hz=>by
  unfold a08 nms at hz
  obtain ⟨q,hq,rfl⟩:=zan.mp hz
  exact (ok.ln q (zay.mp hq).1).1
 refine ⟨rfl,b,c1,mny,a08 w,rfl,by omega,by omega,by omega,sn,zab,hc1,fun ys c2 ysub yu yl _ hc2=>?_⟩
 rw [zac]
 exact hK ys c2 ysub yu (by omega) hc2
 ) only [↓Qt.put_off]
theorem c59 (c:SaysX fa fn fx K):Meets ((tb K).sn N42) ((tb K).G K 42) 2 false a4f b42:=by
 refine Qt.put_in ?_
 simp (disch :=
 with_unfolding_all
 refine Qt.keep ?_
 rintro m hm ds S KK Y ⟨rfl,b,c0,M,e,f,w,rfl,hb,hc,mw,ok,rne,hK⟩
 refine ⟨rfl,?_⟩
 show a0b _ b42 [some _,some _,none,none] _ _ _
 unfold b42
 have lr:1≤w.rooms.length:=List.length_pos_iff.mpr rne
 have lr2:=ok.r
 lia
 refine a1I mw.M rfl a6g ?_
 lia
 refine a1I mw.M rfl a6g ?_
 lia
 refine b0o ⟨by decide,by decide⟩ ?_
 have eh:(((w.rooms.map D.str).length:Nat):Int) / 2=((w.rooms.length / 2:Nat):Int):=by rw [zag];omega
 rw [eh]
 lia
 rw [a73 (by rw [zag];omega),← List.map_drop]
 lia
 refine a1I mw.M rfl a6g ?_
 lia
 refine a0a (T:=a0N) rfl ?_
 lia
 refine ⟨rfl,b,4,c0,rfl,by decide,by decide,hb,hc,fun v c1 v0 v1 hc1=>?_⟩
 have pk:∃ ps:List Str,atI [D.lst ((w.rooms.drop (w.rooms.length / 2)).map D.str),.lst ((w.rooms.drop (w.rooms.length / 2)).map D.str),.lst ((w.rooms.drop (w.rooms.length / 2)).map D.str),.lst (w.rooms.map D.str)] v=some (.lst (ps.map D.str))∧ps≠[]∧(∀ z∈ps,z∈w.rooms)∧ps.length≤24:=by
  have h1:w.rooms.drop (w.rooms.length / 2)≠[]:=fun h=>by
   have:=congrArg List.length h
   rw [List.length_drop] at this
   have h3:([]:List Str).length=0:=rfl
   omega
  have h2:(w.rooms.drop (w.rooms.length / 2)).length≤24:=by rw [List.length_drop];omega
  have h3:∀ z∈w.rooms.drop (w.rooms.length / 2),z∈w.rooms:=fun z hz=>List.mem_of_mem_drop hz
  obtain ⟨n,en,hn⟩:=b7G v0 v1
  rcases hn with rfl | rfl | rfl | rfl
  ·exact ⟨_,en,h1,h3,h2⟩
  ·exact ⟨_,en,h1,h3,h2⟩
  ·exact ⟨_,en,h1,h3,h2⟩
  ·exact ⟨_,en,rne,fun _ h=>h,lr2⟩
 obtain ⟨ps,ep,pn,psub,pl⟩:=pk
 refine a4t ep ?_
 lia
 refine a0a (T:=a6k) rfl ?_
 lia
 refine a0a (T:=a0N) rfl ?_
 lia
 refine ⟨rfl,b,5,c1,rfl,by decide,by decide,zab,hc1,fun v c2 v0 v1 hc2=>?_⟩
 rw [zac]
 obtain ⟨mny,em,hm⟩:=b7H (a:=1) (b:=1) (c:=2) (d:=4) (e:=24) v0 v1
 refine a4t em ?_
 lia
 refine ⟨rfl,b,c2,mny,ps,rfl,by omega,by omega,by omega,fun z hz=>ok.rn z (psub z hz),zab,hc2,fun ys c3 ysub yu yl yn hc3=>?_⟩
 rw [zac]
 exact hK ys c3 (yn pn (by omega)) (fun y hy=>psub y (ysub y hy)) yu (by omega) hc3
 ) only [↓Qt.put_off]
variable {K:zbj}
theorem b4a {α:Type} [BEq α] [LawfulBEq α] {l:List α}:∀ {r:List α},l.Nodup→(∀ z∈l,z∈r)→l.length≤r.length:=by
 induction l with
 | nil=>intro r _ _;exact Nat.zero_le _
 | cons a l ih =>
  intro r u s
  have ha:a∈r:=s a zal
  have h:=ih (r:=r.erase a) (zbd.mp u).2 fun z hz=>(List.mem_erase_of_ne (fun e=>(zbd.mp u).1 (by rw [← e];exact hz))).mpr (s z (zao _ hz))
  rw [List.length_erase_of_mem ha] at h
  have:=List.length_pos_of_mem ha
  rw [zaz]
  omega
structure Rnd (w:Wo) (shut rs:List Str) (R:List (Str × Nat)) (k:Nat) (P:List Str):Prop where
 u:(nms R).Nodup
 lev:∀ q∈R,Lev w shut rs q.2 q.1
 few:∀ q∈R,q.2≤k + 1
 base:∀ z∈rs,(z,0)∈R
 prev:∀ q∈R,0 < q.2→∃ p∈R,p.2 + 1=q.2
 done:∀ q∈R,q.2 < k→∀ y,Adj w shut q.1 y→∃ d,(y,d)∈R∧d≤q.2 + 1
 part:∀ q∈R,q.2=k→∀ ln∈w.lines,ln.1∈P→ln.1∉shut→∀ y,a1Y ln q.1 y→∃ d,(y,d)∈R∧d≤k + 1
def put1 (R:List (Str × Nat)) (k:Nat) (x y:Str):List (Str × Nat):=if (x,k)∈R∧y∉nms R then R ++ [(y,k + 1)] else R
section
variable {w:Wo} {shut rs:List Str} {R:List (Str × Nat)} {k:Nat} {P:List Str}
theorem Rnd.start (u:rs.Nodup):Rnd w shut rs (rs.map fun z=>(z,0)) 0 []:=by
 have e:nms (rs.map fun z=>(z,0))=rs:=by
  unfold nms
  rw [zat]
  exact List.map_id' _
 have zero:∀ q∈rs.map (fun z=>(z,0)),q.2=0:=fun q hq=>by
  obtain ⟨z,hz,rfl⟩:=zan.mp hq
  rfl
 refine ⟨by rw [e];exact u,fun q hq=>?_,fun q hq=>by rw [zero q hq];exact Nat.zero_le _,fun z hz=>zan.mpr ⟨z,hz,rfl⟩,fun q hq h=>?_,fun q hq h=>absurd h (Nat.not_lt_zero _),fun _ _ _ _ _ h=>nomatch h⟩
 ·obtain ⟨z,hz,rfl⟩:=zan.mp hq
  exact .zero hz
 ·rw [zero q hq] at h
  exact absurd h (Nat.lt_irrefl _)
theorem Rnd.put {x y:Str} (h:Rnd w shut rs R k P) (a:Adj w shut x y):Rnd w shut rs (put1 R k x y) k P∧((x,k)∈put1 R k x y→∃ d,(y,d)∈put1 R k x y∧d≤k + 1)∧(∀ q∈R,q∈put1 R k x y)∧∀ z,(z,k)∈put1 R k x y→(z,k)∈R:=by
 unfold put1
 split
 ·rename_i g
  obtain ⟨hx,hy⟩:=g
  have old:∀ q∈R,q∈R ++ [(y,k + 1)]:=fun q hq=>zar _ hq
  refine ⟨⟨?_,fun q hq=>?_,fun q hq=>?_,fun z hz=>old _ (h.base z hz),fun q hq p=>?_,fun q hq lt y' ay=>?_,fun q hq e ln hln hP hs y' en=>?_⟩,fun _=>⟨k + 1,zas _ (zaj.mpr rfl),Nat.le_refl _⟩,old,fun z hz=>?_⟩
  ·unfold nms
   rw [zav]
   refine List.nodup_append.mpr ⟨h.u,by simp,fun a ha b hb e=>hy ?_⟩
   have hb:b=y:=by simpa using hb
   rw [← hb,← e]
   exact ha
  ·rcases zap.mp hq with hq | hq
   ·exact h.lev q hq
   ·cases zaj.mp hq
    exact (h.lev _ hx).succ a
  ·rcases zap.mp hq with hq | hq
   ·exact h.few q hq
   ·cases zaj.mp hq
    exact Nat.le_refl _
  ·rcases zap.mp hq with hq | hq
   ·obtain ⟨p',hp',e⟩:=h.prev q hq p
    exact ⟨p',old _ hp',e⟩
   ·cases zaj.mp hq
    exact ⟨_,old _ hx,rfl⟩
  ·rcases zap.mp hq with hq | hq
   ·obtain ⟨d,hd,l⟩:=h.done q hq lt y' ay
    exact ⟨d,old _ hd,l⟩
   ·cases zaj.mp hq
    exact absurd lt (by show ¬ k + 1 < k;omega)
  ·rcases zap.mp hq with hq | hq
   ·obtain ⟨d,hd,l⟩:=h.part q hq e ln hln hP hs y' en
    exact ⟨d,old _ hd,l⟩
   ·cases zaj.mp hq
    exact absurd e (by show ¬ k + 1=k;omega)
  ·rcases zap.mp hz with hz | hz
   ·exact hz
   ·have e:=zaj.mp hz
    have e:=congrArg Prod.snd e
    exact absurd e (by show ¬ k=k + 1;omega)
 ·rename_i g
  refine ⟨h,fun hx=>?_,fun _ h=>h,fun _ h=>h⟩
  by_cases hy:y∈nms R
  ·obtain ⟨⟨y',d⟩,hd,rfl⟩:=zan.mp hy
   exact ⟨d,hd,h.few _ hd⟩
  ·exact absurd ⟨hx,hy⟩ g
theorem Rnd.line (ok:a03 w) {l x y:Str} {c:Int} (h:Rnd w shut rs R k P) (mq:(l,x,y,c)∈w.lines) (ns:l∉shut):Rnd w shut rs (put1 (put1 R k x y) k y x) k (P ++ [l]):=by
 have a:Adj w shut x y:=⟨_,mq,ns,.inl ⟨rfl,rfl⟩⟩
 obtain ⟨h1,n1,o1,k1⟩:=h.put a
 obtain ⟨h2,n2,o2,k2⟩:=h1.put a.symm
 refine ⟨h2.u,h2.lev,h2.few,h2.base,h2.prev,h2.done,fun q hq e ln hln hP hs y' en=>?_⟩
 rcases zap.mp hP with hP | hP
 ·exact h2.part q hq e ln hln hP hs y' en
 ·obtain rfl:ln=(l,x,y,c):=a3a ok hln mq (zaj.mp hP)
  obtain ⟨z,d⟩:=q
  have e:d=k:=e
  subst e
  rcases en with ⟨e1,e2⟩ | ⟨e1,e2⟩
  ·have e1:x=z:=e1
   have e2:y=y':=e2
   subst e1 e2
   obtain ⟨d,hd,l⟩:=n1 (k2 _ hq)
   exact ⟨d,o2 _ hd,l⟩
  ·have e1:y=z:=e1
   have e2:x=y':=e2
   subst e1 e2
   exact n2 hq
theorem Rnd.next (h:Rnd w shut rs R k P) (all:∀ ln∈w.lines,ln.1∉shut→ln.1∈P):Rnd w shut rs R (k + 1) []:=by
 refine ⟨h.u,h.lev,fun q hq=>Nat.le_succ_of_le (h.few q hq),h.base,h.prev,fun q hq lt y a=>?_,fun _ _ _ _ _ h=>nomatch h⟩
 by_cases e:q.2=k
 ·obtain ⟨ln,hln,hs,en⟩:=a
  rw [e]
  exact h.part q hq e ln hln (all ln hln hs) hs y en
 ·exact h.done q hq (by omega) y a
theorem Rnd.levels (h:Rnd w shut rs R k P):∀ (n:Nat) (q:Str × Nat),q∈R→q.2=n→∀ m,m≤n→m∈R.map (·.2):=by
 intro n
 induction n with
 | zero=>intro q hq e m hm;exact zan.mpr ⟨q,hq,by omega⟩
 | succ n ih =>
  intro q hq e m hm
  by_cases c:m=n + 1
  ·exact zan.mpr ⟨q,hq,by omega⟩
  ·obtain ⟨p,hp,e'⟩:=h.prev q hq (by omega)
   exact ih p hp (by omega) m (by omega)
theorem Rnd.room (ok:a03 w) (sub:∀ z∈rs,z∈w.rooms) (h:Rnd w shut rs R k P) {q:Str × Nat} (hq:q∈R):q.1∈w.rooms:=Reach.room (w:=w) (shut:=shut) ok sub ⟨_,h.lev q hq⟩
theorem Rnd.many (ok:a03 w) (sub:∀ z∈rs,z∈w.rooms) (h:Rnd w shut rs R k P):R.length≤w.rooms.length:=by
 have e:(nms R).length=R.length:=zag ..
 rw [← e]
 refine a0C h.u fun z hz=>?_
 obtain ⟨q,hq,rfl⟩:=zan.mp hz
 exact h.room ok sub hq
theorem Rnd.end_ (ok:a03 w) (sub:∀ z∈rs,z∈w.rooms) (h:Rnd w shut rs R w.rooms.length []):a0F w shut rs R:=by
 refine ⟨h.u,h.lev,fun m z hz=>?_⟩
 have lt:∀ q∈R,q.2 < w.rooms.length:=fun q hq=>by
  have f:=b4a (l:=List.range (q.2 + 1)) (r:=R.map (·.2)) List.nodup_range fun m hm=>h.levels q.2 q hq rfl m (by have:=List.mem_range.mp hm;omega)
  rw [List.length_range,zag] at f
  have:=h.many ok sub
  omega
 induction hz with
 | zero hz=>exact ⟨0,h.base _ hz,Nat.le_refl _⟩
 | @succ n x y _ a ih =>
  obtain ⟨d,hd,l⟩:=ih
  obtain ⟨d2,hd2,l2⟩:=h.done _ hd (lt _ hd) y a
  have l2:d2≤d + 1:=l2
  exact ⟨d2,hd2,by omega⟩
end
theorem a4b.one {w:Wo} {R:List (Str × Nat)} {n n':Nat} {s s':Str} (a:a4b w R n s) (b:a4b w R n' s'):n=n'∧s=s':=by
 have h1:=a.2.2 s' n' b.1 b.2.1
 have h2:=b.2.2 s n a.1 a.2.1
 rcases h1 with h1 | ⟨e1,l1⟩
 ·rcases h2 with h2 | ⟨e2,_⟩ <;> omega
 ·rcases h2 with h2 | ⟨_,l2⟩
  ·omega
  ·exact ⟨e1,a5R l1 l2⟩
theorem a4X {w:Wo} {shut rs:List Str} (ok:a03 w) {o o':Option (List Str)} (h:a3M w shut rs o) (h':a3M w shut rs o'):o=o':=by
 cases o with
 | none =>
  cases o' with
  | none=>rfl
  | some ws =>
   obtain ⟨R,n,s,dist,first,way⟩:=h'
   exact absurd ⟨n,dist.lev _ first.2.1⟩ (h s first.1)
 | some ws =>
  obtain ⟨R,n,s,dist,first,way⟩:=h
  cases o' with
  | none=>exact absurd ⟨n,dist.lev _ first.2.1⟩ (h' s first.1)
  | some ws' =>
   obtain ⟨R',n',s',dist',first',way'⟩:=h'
   have e:∀ {z:Str} {d:Nat},(z,d)∈R'↔(z,d)∈R:=fun {z d}=>by rw [dist.mem,dist'.mem]
   have f':a4b w R n' s':=⟨first'.1,e.mp first'.2.1,fun s n hs hn=>first'.2.2 s n hs (e.mpr hn)⟩
   obtain ⟨rfl,rfl⟩:=first.one f'
   rw [b06 ok way (way'.same dist' dist)]
def a9D (w:Wo) (barred:List Str) (l:Str):Bool:=match w.lines.lookup l with
 | some q=>decide (q.2.2=0) || decide (l∈barred)
 | none=>false
def a2z (w:Wo) (barred:List Str):List Str:=(a0l (nms w.lines)).filter (a9D w barred)
section
variable {w:Wo} {barred rs:List Str}
theorem b3I (ok:a03 w) {r:Str × Str × Str × Int} (hr:r∈w.lines):r.1∈a1T w barred↔¬ (r.2.2.2=0∨r.1∈barred):=by
 unfold a1T nms
 constructor
 ·intro h
  obtain ⟨q,hq,e⟩:=zan.mp h
  obtain ⟨h1,h2⟩:=zay.mp hq
  obtain ⟨r',hr',rfl⟩:=a1i ok h1
  obtain rfl:r'=r:=a3a ok hr' hr e
  intro g
  have h2:(if r'.2.2.2=0∨r'.1∈barred then none else some r'.2.2.2).isSome=true:=h2
  rw [if_pos g] at h2
  cases h2
 ·intro g
  have h1:r.1∈nms (a0w w barred):=by
   rw [a5T,a0v]
   exact zan.mpr ⟨r,hr,rfl⟩
  obtain ⟨q,hq,e⟩:=zan.mp h1
  obtain ⟨r',hr',rfl⟩:=a1i ok hq
  obtain rfl:r'=r:=a3a ok hr' hr e
  refine zan.mpr ⟨_,zay.mpr ⟨hq,?_⟩,rfl⟩
  show (if r'.2.2.2=0∨r'.1∈barred then none else some r'.2.2.2).isSome=true
  rw [if_neg g]
  rfl
theorem a3U (ok:a03 w) {r:Str × Str × Str × Int} (hr:r∈w.lines):r.1∈a2z w barred↔r.1∉a1T w barred:=by
 unfold a2z
 rw [zay,b3I ok hr,Classical.not_not]
 unfold a9D
 rw [a0e ok.lu hr,a0v]
 simp only [Bool.or_eq_true,zah]
 exact ⟨fun h=>h.2,fun h=>⟨zan.mpr ⟨r,hr,rfl⟩,h⟩⟩
theorem a6n (ok:a03 w) {l:Str} (h:l∈a2z w barred):∃ r∈w.lines,r.1=l∧l∉a1T w barred:=by
 have h1:=(zay.mp h).1
 rw [a0v] at h1
 obtain ⟨r,hr,rfl⟩:=zan.mp h1
 exact ⟨r,hr,rfl,(a3U ok hr).mp h⟩
theorem b3G (ok:a03 w):(a2z w barred).Pairwise fun a b=>leS a b=true:=List.Pairwise.filter _ (List.pairwise_mergeSort a2Y (fun a b=>by have:=a1D a b;simpa using this) _)
theorem b1s (ok:a03 w):(a2z w barred).length≤40:=by
 refine Nat.le_trans (zbb _ _) ?_
 rw [a2u,a0S]
 exact ok.l
end
variable {K:zbj}
theorem of_map {α:Type} {f:α→D} {P:α→Prop}:∀ ds:List D,(∀ d∈ds,∃ a,P a∧d=f a)→∃ ys:List α,ds=ys.map f∧∀ a∈ys,P a
 | [],_=>⟨[],rfl,fun _ h=>nomatch h⟩
 | d :: ds,h=>by
  obtain ⟨a,ha,rfl⟩:=h d zal
  obtain ⟨ys,rfl,hy⟩:=of_map ds fun d hd=>h d (zao _ hd)
  exact ⟨a :: ys,rfl,fun b hb=>(zau.mp hb).elim (fun e=>by rw [e];exact ha) (hy b)⟩
theorem b70 {S:SS} {KK:DK} {xs:List (Int × Str)} (ok:D.okd 60 (.lst (xs.map isD))=true) (k:∀ ys:List (Int × Str),(∀ y∈ys,y∈xs)→(ys=[]↔xs=[])→(∀ m l,ys=m :: l→∀ y∈xs,PySem.W.DatumOrd.lt y m=false)→KK (.lst (ys.map isD)) S):(Bn.srl false).den [.lst (xs.map isD)] S KK:=by
 have py:∀ a:Int × Str,(isD a).py=PySem.W.Datum.toD a:=fun _=>rfl
 have epy:(xs.map isD).map D.py=xs.map PySem.W.Datum.toD:=by
  rw [zat]
  exact List.map_congr_left fun a _=>py a
 refine ⟨xs.map isD,rfl,ok,?_,?_,?_⟩
 ·rw [epy]
  exact (PySem.W.alikeAll_datum xs).1
 ·refine .inl fun d hd=>?_
  rw [epy] at hd
  obtain ⟨a,_,rfl⟩:=zan.mp hd
  exact ⟨_,_,rfl⟩
 unfold outL
 rw [if_neg zbe]
 have perm:=List.mergeSort_perm (xs.map isD) (PySem.W.dataLe false D.py)
 have tot:PySem.W.TotalLe (PySem.W.dataLe false D.py):=PySem.W.sortLe_total _ _ _
 have sorted:=List.pairwise_mergeSort (le:=PySem.W.dataLe false D.py) tot.trans (fun a b=>by have:=tot.total a b;simpa using this) (xs.map isD)
 obtain ⟨ys,ey,hy⟩:=of_map (f:=isD) (P:=fun a=>a∈xs) ((xs.map isD).mergeSort (PySem.W.dataLe false D.py)) fun d hd=>by
  obtain ⟨a,ha,rfl⟩:=zan.mp (perm.mem_iff.mp hd)
  exact ⟨a,ha,rfl⟩
 rw [ey] at perm sorted ⊢
 have len:=perm.length_eq
 rw [zag,zag] at len
 refine k ys hy ⟨fun h=>List.eq_nil_of_length_eq_zero (by rw [← len,h];rfl),fun h=>List.eq_nil_of_length_eq_zero (by rw [len,h];rfl)⟩ fun m l e y hyx=>?_
 subst e
 have hm:isD y∈(m :: l).map isD:=perm.mem_iff.mpr (zan.mpr ⟨y,hyx,rfl⟩)
 rcases zau.mp (show isD y∈isD m :: l.map isD from hm) with e | hl
 ·have e:y=m:=by
   have h:PySem.W.Datum.toD y=PySem.W.Datum.toD m:=by rw [← py,← py,e]
   exact a9K h
  rw [e]
  exact a7y m
 ·have le:=(List.pairwise_cons.mp (show (isD m :: l.map isD).Pairwise _ from sorted)).1 _ hl
  rw [PySem.W.dataLe_eq] at le
  have le:(!PySem.W.dataLt (isD y).py (isD m).py)=true:=le
  rw [py,py,PySem.W.DatumOrd.lt_eq] at le
  simpa using le
def a9d (w:Wo) (R:List (Str × Nat)):List (Int × Str):=(w.srcs.filter fun z=>decide (z∈nms R)).map fun z=>((((R.lookup z).getD 0:Nat):Int),z)
theorem a2i {w:Wo} {R:List (Str × Nat)} (u:(nms R).Nodup) {p:Int × Str}:p∈a9d w R↔∃ n:Nat,p.1=n∧p.2∈w.srcs∧(p.2,n)∈R:=by
 rw [← a3m u]
 unfold a9d b1h
 rw [zan,zan]
 constructor
 ·rintro ⟨z,hz,e⟩
  exact ⟨z,zay.mpr ⟨a0v.mpr (zay.mp hz).1,(zay.mp hz).2⟩,e⟩
 ·rintro ⟨z,hz,e⟩
  exact ⟨z,zay.mpr ⟨a0v.mp (zay.mp hz).1,(zay.mp hz).2⟩,e⟩
theorem b5q {w:Wo} {R:List (Str × Nat)}:((w.srcs.map D.str).filter (inR R)).map (b5A R)=(a9d w R).map isD:=by
 unfold a9d
 rw [List.filter_map,zat,zat]
 rfl
abbrev fN:Nat→D:=fun n=>.int n
theorem b3H {R:List (Str × Nat)} {x:Str} {k:Nat} {S:SS} {KK:DK} (u:(nms R).Nodup) (h:KK (.bl (decide ((x,k)∈R))) S):a0I .Eq (((valD (a0g fN R) (.inr x))).getD .non) (.int (k:Int)) S KK:=by
 rw [a0s]
 cases e:R.lookup x with
 | none =>
  have n:¬ (x,k)∈R:=fun hm=>by rw [a0e u hm] at e;cases e
  rw [zbf n] at h
  exact b1u rfl rfl h
 | some d =>
  have e2:decide ((x,k)∈R)=decide ((d:Int)=(k:Int)):=by
   rw [decide_eq_decide]
   constructor
   ·intro hm
    rw [a0e u hm] at e
    cases e
    rfl
   ·intro hd
    have:d=k:=by omega
    subst this
    have:x∈nms R:=by
     rw [← Classical.not_not (a:=x∈nms R)]
     intro hn
     have:=lookup_some (l:=R) (z:=x)
     rw [e] at this
     exact hn (of_decide_eq_true this.symm)
    obtain ⟨q,hq,rfl⟩:=zan.mp this
    rw [a0e u hq] at e
    cases e
    exact hq
  rw [e2] at h
  exact b6b h
theorem b4g {S:SS} {KK:DK} {p:Addr} {kvs:List (Key × D)} {z:Str} (h:S p=some (.dic kvs)) (k:KK ((valD kvs (.inr z)).getD .non) S):Mn.dget.den (.obj p) [.str z] S KK:=⟨kvs,_,b3i h,rfl,k⟩
theorem st_brk {G:Gs} {δ:DS} {S:SS} {Y:XD'} {F:SE} (k:F.bk δ S):a0q G .brk δ S Y F:=by rw [a0q];exact k
theorem a9B {l:List D} {d:D}:atI (l ++ [d]) (-1)=some d:=by
 have e:ixN (l ++ [d]).length (-1)=some l.length:=by
  unfold ixN
  rw [zaw]
  simp
  omega
 unfold atI
 rw [e]
 simp
theorem later {l:List Str} (h:l.Pairwise fun a b=>leS a b=true) {i:Nat} {x y:Str} (hx:l[i]?=some x) (hy:y∈l) (no:y∉l.take i):leS x y=true:=by
 rw [← List.take_append_drop i l] at hy
 rcases zap.mp hy with hy | hy
 ·exact absurd hy no
 ·have hi:=(List.getElem?_eq_some_iff.mp hx).1
  have e:l.drop i=x :: l.drop (i + 1):=by
   rw [List.drop_eq_getElem_cons hi]
   rw [(List.getElem?_eq_some_iff.mp hx).2]
  rw [e] at hy
  rcases zau.mp hy with rfl | hy
  ·exact (a1D y y).elim id id
  ·have p:=List.Pairwise.sublist (List.drop_sublist i l) h
   rw [e] at p
   exact (List.pairwise_cons.mp p).1 y hy
def a8N (w:Wo) (barred:List Str):D→Bool
 | .str z=>a9D w barred z
 | _=>false
theorem a9E {w:Wo} {barred:List Str}:((((a0l (nms w.lines)).map D.str).filter (a8N w barred)).map id)=(a2z w barred).map D.str:=by
 rw [List.map_id,List.filter_map]
 rfl
theorem me8 (c:SaysX fa fn fx K):Meets ((tb K).sn N8) ((tb K).G K 8) 3 false a9o b8:=by
 refine Qt.put_in ?_
 simp (disch :=
 with_unfolding_all
 refine Qt.keep ?_
 rintro m hm ds S KK Y ⟨rfl,M,e,f,w,barred,rs,rfl,mw,ok,⟨⟨bsw,bu,bl,rsub,ru,rl⟩,rne⟩,hK⟩
 refine ⟨rfl,?_⟩
 show a0b _ b8 [some _,some _,some _,none,none,none,none,none,none,none,none,none,none,none,none] _ _ _
 unfold b8
 have ll:=ok.l
 have lr:=ok.r
 have nl:(nms w.lines).length=w.lines.length:=a0S
 have bnm:∀ z∈barred,Nm z:=fun z hz=>by
  obtain ⟨q,hq,rfl⟩:=zan.mp (bsw z hz)
  exact (ok.ln q (zay.mp hq).1).1
 lia
 refine a1I mw.M rfl a1e ?_
 lia
 refine b0U mw.e a2W (by omega) ?_
 refine ⟨_,rfl,?_⟩
 refine a2e id (a8N w barred) (by rw [zag,a2u,zai];omega) (fun _ _ _=>rfl) (fun pp i acc d0 K1 KN hd hp hk hn=>?_) ?_
 ·rw [zbh,zam] at hd
  obtain ⟨z,hz,rfl⟩:=hd
  have mz:z∈nms w.lines:=a0v.mp (zaq hz)
  obtain ⟨⟨l,x,y,k⟩,mq,rfl⟩:=zan.mp mz
  have look:w.lines.lookup l=some (x,y,k):=a0e ok.lu mq
  have eb:a8N w barred (.str l)=(decide (k=0) || decide (l∈barred)):=by
   show a9D w barred l=_
   unfold a9D
   rw [look]
  have pM:M≠pp:=zad mw.M hp
  have pe:e≠pp:=zad mw.e hp
  refine a1O (b2J ?_)
  show a0u _ _ [some _,some _,some _,none,none,none,some (.str l),none,none,none,none,none,none,none,none] _ _ _
  lia
  refine a1I (by rw [zaa pM];exact mw.M) rfl a1e ?_
  lia
  refine a1I (by rw [zaa pe];exact mw.e) rfl (by rw [a0s,look];rfl) ?_
  lia
  refine a80 (d:=.int k) rfl ?_
  lia
  by_cases h0:k=0
  ·rw [if_pos (zbg h0)]
   try rw [if_pos rfl]
   exact hk (by show a8N w barred (.str l)=true;rw [eb,zbg h0,Bool.true_or])
  rw [if_neg (by rw [zah];exact h0)]
  lia
  refine b68 (ok.ln _ mq).1.fine (fun z hz=>(bnm z hz).fine) ?_
  lia
  by_cases h1:l∈barred
  ·rw [if_pos (zbg h1)]
   try rw [if_pos rfl]
   exact hk (by show a8N w barred (.str l)=true;rw [eb,zbg h1,Bool.or_true])
  ·rw [if_neg (by rw [zah];exact h1)]
   try rw [if_neg zbe]
   exact hn (by show a8N w barred (.str l)=false;rw [eb,zbf h1,zbf h0];rfl)
 rw [a9E]
 have bll:=b1s (barred:=barred) ok
 have bup:=b3G (barred:=barred) ok
 lia
 refine ⟨_,rfl,?_⟩
 refine a2e (fun x=>.tup [x,.int 0]) (fun _=>true) (by rw [zag,zai];omega) (fun _ _ _=>rfl) (fun p i acc d0 K1 KN hd hp hk hn=>?_) ?_
 ·refine a1O (b1c ?_)
  rw [if_pos rfl]
  show den _ _ [some _,some _,some _,some _,none,none,none,none,none,none,none,none,none,none,some d0] _ _ _
  lia
  exact hk rfl
 have e0:(((rs.map D.str).filter fun _=>true).map fun x=>D.tup [x,.int 0])=(rs.map fun z=>(z,0)).map fun q:Str × Nat=>D.tup [.str q.1,fN q.2]:=by
  rw [zbc.mpr (fun _ _=>rfl),zat,zat]
  rfl
 rw [e0]
 lia
 have st0:=Rnd.start (w:=w) (shut:=a1T w barred) ru
 refine a9L (f:=fN) st0.u fun p fp=>?_
 have Mp:M≠p:=zad mw.M fp
 have ep:e≠p:=zad mw.e fp
 have grow:∀ {x:Cell},Grows S (S.set p x):=fun {x} q hq=>zaa (fun e=>hq (e ▸ fp))
 have at_M:∀ {x:Cell},(S.set p x) M=some (.dic (mW w e f)):=fun {x}=>by rw [zaa Mp];exact mw.M
 have at_e:∀ {x:Cell},(S.set p x) e=some (.dic (a0g fL w.lines)):=fun {x}=>by rw [zaa ep];exact mw.e
 lia
 refine a1I at_M rfl b5w ?_
 lia
 have ern:(((a0l w.rooms).map D.str).length:Int)=(w.rooms.length:Int):=by rw [zag,a2u]
 rw [ern]
 have bd:=bnd (j:=(w.rooms.length:Int)) (by omega) (by omega)
 refine ⟨bd.1,bd.2,?_⟩
 have ln:(a7L 0 ((w.rooms.length:Int).toNat)).length=w.rooms.length:=by rw [a1t];rfl
 refine ⟨fun i δ' S'=>∃ R x5 x6 x7 x8 x9,Rnd w (a1T w barred) rs R i []∧S'=S.set p (.dic (a0g fN R))∧δ'=[some (.obj M),some (.lst (barred.map D.str)),some (.lst (rs.map D.str)),some (.lst ((a2z w barred).map D.str)),some (.obj p),x5,x6,x7,x8,x9,none,none,none,none,none],⟨_,none,none,none,none,none,st0,rfl,rfl⟩,fun _ _ _ _ _=>trivial,?_,?_⟩
 ·rintro k d0 δ' S' hd ⟨R,x5,x6,x7,x8,x9,rnd,rfl,rfl⟩
  obtain ⟨hi,rfl⟩:=a7M hd
  rw [show (0 + (k:Int))=(k:Int) by omega]
  refine a1O ?_
  lia
  refine ⟨_,rfl,?_⟩
  refine ⟨fun i δ' S'=>∃ R x6 x7 x8 x9,Rnd w (a1T w barred) rs R k ((a2z w barred).take i)∧S'=S.set p (.dic (a0g fN R))∧δ'=[some (.obj M),some (.lst (barred.map D.str)),some (.lst (rs.map D.str)),some (.lst ((a2z w barred).map D.str)),some (.obj p),some (.int (k:Int)),x6,x7,x8,x9,none,none,none,none,none],⟨R,_,_,_,_,rnd,rfl,rfl⟩,fun _ _ _ _ _=>rfl,?_,?_⟩
  ·clear rnd R x6 x7 x8 x9
   rintro i d0 δ' S' hd ⟨R,x6,x7,x8,x9,rnd,rfl,rfl⟩
   rw [zbh,zam] at hd
   obtain ⟨z,hz,rfl⟩:=hd
   obtain ⟨⟨l,x,y,co⟩,mq,el,nc⟩:=a6n ok (zaq hz)
   have el:l=z:=el
   subst el
   have rn2:=rnd.line ok mq nc
   have ad:Adj w (a1T w barred) x y:=⟨_,mq,nc,.inl ⟨rfl,rfl⟩⟩
   have rn1:=(rnd.put ad).1
   have look:w.lines.lookup l=some (x,y,co):=a0e ok.lu mq
   refine a1O ?_
   lia
   refine a07 rfl ?_
   lia
   refine a1I at_M rfl a1e ?_
   lia
   refine a1I at_e rfl (by rw [a0s,look];rfl) ?_
   refine ⟨_,rfl,rfl,?_⟩
   show a0b _ _ [some (.obj M),some (.lst (barred.map D.str)),some (.lst (rs.map D.str)),some (.lst ((a2z w barred).map D.str)),some (.obj p),some (.int (k:Int)),some (.str l),some (.str x),some (.str y),some (.int co),none,none,none,none,none] _ _ _
   have half:∀ {R:List (Str × Nat)} {a b:Str} {P:List Str} {KK:SS→Prop} ,True:=trivial
   refine a3k (fun δ' S'=>S'=S.set p (.dic (a0g fN (put1 R k x y)))∧δ'=[some (.obj M),some (.lst (barred.map D.str)),some (.lst (rs.map D.str)),some (.lst ((a2z w barred).map D.str)),some (.obj p),some (.int (k:Int)),some (.str l),some (.str x),some (.str y),some (.int co),none,none,none,none,none]) ?_ ?_
   ·lia
    refine ⟨b2m zab,?_⟩
    lia
    refine b4g zab ?_
    lia
    refine b3H rnd.u ?_
    lia
    by_cases h1:(x,k)∈R
    ·rw [if_pos (zbg h1)]
     lia
     refine a82 zab rfl ?_
     rw [a01]
     lia
     by_cases h2:y∈nms R
     ·rw [if_neg (by rw [zbg h2];decide)]
      lia
      exact ⟨by unfold put1;rw [if_neg (fun h=>h.2 h2)],rfl⟩
     ·rw [if_pos (by rw [zbf h2];rfl)]
      lia
      have mn:=rnd.many ok rsub
      refine a3i zab rfl (by rw [a0p,zai];omega) ?_
      rw [zac,show D.int ((k:Int) + 1)=fN (k + 1) from rfl,a0T h2]
      lia
      exact ⟨by unfold put1;rw [if_pos ⟨h1,h2⟩],rfl⟩
    ·rw [if_neg (by rw [zah];exact h1)]
     try rw [if_neg zbe]
     lia
     exact ⟨by unfold put1;rw [if_neg (fun h=>h1 h.1)],rfl⟩
   rintro δ' S' ⟨rfl,rfl⟩
   generalize put1 R k x y=R1 at rn1 rn2
   lia
   refine ⟨b2m zab,?_⟩
   lia
   refine b4g zab ?_
   lia
   refine b3H rn1.u ?_
   lia
   have fin:∀ {P:Prop},P→P:=fun h=>h
   by_cases h1:(y,k)∈R1
   ·rw [if_pos (zbg h1)]
    lia
    refine a82 zab rfl ?_
    rw [a01]
    lia
    by_cases h2:x∈nms R1
    ·rw [if_neg (by rw [zbg h2];decide)]
     lia
     refine ⟨_,_,_,_,_,?_,rfl,rfl⟩
     rw [take_snoc hz]
     have e1:put1 R1 k y x=R1:=by unfold put1;rw [if_neg (fun h=>h.2 h2)]
     rw [e1] at rn2
     exact rn2
    ·rw [if_pos (by rw [zbf h2];rfl)]
     lia
     have mn:=rn1.many ok rsub
     refine a3i zab rfl (by rw [a0p,zai];omega) ?_
     rw [zac,show D.int ((k:Int) + 1)=fN (k + 1) from rfl,a0T h2]
     lia
     refine ⟨_,_,_,_,_,?_,rfl,rfl⟩
     rw [take_snoc hz]
     have e1:put1 R1 k y x=R1 ++ [(x,k + 1)]:=by unfold put1;rw [if_pos ⟨h1,h2⟩]
     rw [e1] at rn2
     exact rn2
   ·rw [if_neg (by rw [zah];exact h1)]
    try rw [if_neg zbe]
    lia
    refine ⟨_,_,_,_,_,?_,rfl,rfl⟩
    rw [take_snoc hz]
    have e1:put1 R1 k y x=R1:=by unfold put1;rw [if_neg (fun h=>h1 h.1)]
    rw [e1] at rn2
    exact rn2
  ·clear rnd R x6 x7 x8 x9
   rintro δ' S' ⟨R,x6,x7,x8,x9,rnd,rfl,rfl⟩
   rw [zag,List.take_length] at rnd
   exact ⟨R,_,_,_,_,_,rnd.next fun ln hln hs=>(a3U ok hln).mpr hs,rfl,rfl⟩
 rintro δ' S' ⟨R,x5,x6,x7,x8,x9,rnd,rfl,rfl⟩
 rw [ln] at rnd
 have dist:=rnd.end_ ok rsub
 clear rnd st0 e0
 have at_p:(S.set p (.dic (a0g fN R))) p=some (.dic (a0g fN R)):=zab
 lia
 refine a1I at_M rfl a4W ?_
 have fp2:f≠p:=zad mw.f fp
 have at_f:(S.set p (.dic (a0g fN R))) f=some (.lst (w.srcs.map D.str)):=by rw [zaa fp2];exact mw.f
 refine ⟨_,a8H at_f,?_⟩
 have srl:w.srcs.length≤24:=Nat.le_trans (a0C ok.su ok.s) lr
 refine a2e (b5A R) (inR R) (by rw [zag,zai];omega) (fun _ pp hpp=>a8H (by rw [zaa (zad at_f hpp)];exact at_f)) (fun pp i acc d0 K1 KN hd hp hk hn=>?_) ?_
 ·rw [zbh,zam] at hd
  obtain ⟨z,hz,rfl⟩:=hd
  have pp_p:p≠pp:=zad at_p hp
  refine a1O (b2J ?_)
  show a0u _ _ [some _,some _,some _,some _,some _,x5,x6,x7,x8,x9,none,none,none,none,some (.str z)] _ _ _
  lia
  refine b4j (by rw [zaa pp_p];exact at_p) rfl ?_
  rw [a01]
  lia
  by_cases h:z∈nms R
  ·rw [if_pos (zbg h)]
   obtain ⟨q,hq,rfl⟩:=zan.mp h
   have hk:=hk (zbg h)
   have ef:b5A R (.str q.1)=.tup [.int (q.2:Nat),.str q.1]:=by
    show isD ((((R.lookup q.1).getD 0:Nat):Int),q.1)=_
    rw [a0e dist.u hq]
    rfl
   rw [ef] at hk
   lia
   refine a1I (by rw [zaa pp_p];exact at_p) rfl (by rw [a0s,a0e dist.u hq];rfl) ?_
   lia
   exact hk
  ·rw [if_neg (by rw [zah];exact h)]
   exact hn (zbf h)
 rw [b5q]
 have okS:D.okd 60 (.lst ((a9d w R).map isD))=true:=a3A fun p hp=>by
  obtain ⟨n,_,hs,_⟩:=(a2i dist.u).mp hp
  exact b0r (ok.rn _ (ok.s _ hs)).fine
 lia
 refine b70 okS fun ys ysub yne least=>?_
 have okY:D.okd 60 (.lst (ys.map isD))=true:=a3A fun p hp=>by
  obtain ⟨n,_,hs,_⟩:=(a2i dist.u).mp (ysub p hp)
  exact b0r (ok.rn _ (ok.s _ hs)).fine
 lia
 refine b2I okY ?_
 lia
 cases ys with
 | nil =>
  rw [if_pos List.isEmpty_nil]
  lia
  refine hK none _ grow fun s hs hr=>?_
  obtain ⟨q,hq,rfl⟩:=zan.mp (dist.iff.mpr hr)
  have:((q.2:Int),q.1)∈a9d w R:=(a2i dist.u).mpr ⟨q.2,rfl,hs,hq⟩
  rw [yne.mp rfl] at this
  cases this
 | cons m ms =>
 rw [if_neg (by rw [List.isEmpty_cons];decide)]
 lia
 have least:=least m ms rfl
 have hm:=ysub m zal
 obtain ⟨mi,s⟩:=m
 obtain ⟨n,rfl,hs,hsn⟩:=(a2i dist.u).mp hm
 have hs:s∈w.srcs:=hs
 have hsn:(s,n)∈R:=hsn
 have first:a4b w R n s:=⟨hs,hsn,fun s' n' hs' hn'=>by
  have h:=least ((n':Int),s') ((a2i dist.u).mpr ⟨n',rfl,hs',hn'⟩)
  have h:(if (n':Int)=(n:Int) then decide (s'.cps.toList < s.cps.toList) else decide ((n':Int) < (n:Int)))=false:=h
  by_cases e:n'=n
  ·rw [if_pos (by omega)] at h
   refine .inr ⟨e.symm,?_⟩
   unfold leS
   rw [h]
   rfl
  ·rw [if_neg (by omega),decide_eq_false_iff_not] at h
   exact .inl (by omega)⟩
 have n24:=dist.lt ok rsub hsn
 refine a4t (d:=.tup [.int (n:Nat),.str s]) (a1K (f:=isD) (l:=((n:Int),s) :: ms) (k:=0) rfl) ?_
 lia
 refine a80 (d:=.str s) rfl ?_
 lia
 refine a6W (fun mm δ' S'=>∃ (pre:List Str) (z:Str) (y6 y7 y8 y9 y12 y13:Option D),(z,mm)∈R∧mm≤n∧pre.length + 2 * mm=2 * n∧(∀ t,a3L w (a1T w barred) R mm z t→a3L w (a1T w barred) R n s (pre ++ t))∧S'=S.set p (.dic (a0g fN R))∧δ'=[some (.obj M),some (.lst (barred.map D.str)),some (.lst (rs.map D.str)),some (.lst ((a2z w barred).map D.str)),some (.obj p),x5,y6,y7,y8,y9,some (.lst ((((n:Int),s) :: ms).map isD)),some (.lst ((pre ++ [z]).map D.str)),y12,y13,none]) (m0:=n) ⟨[],s,_,_,_,_,none,none,hsn,Nat.le_refl _,by show 0 + 2 * n=_;omega,fun t h=>h,rfl,rfl⟩ ?_
 rintro mm δ' S' ⟨pre,z,y6,y7,y8,y9,y12,y13,hz,le,len,way,rfl,rfl⟩
 have last:atI ((pre ++ [z]).map D.str) (-1)=some (.str z):=by
  rw [zav]
  exact a9B
 lia
 refine a4t last ?_
 lia
 refine a1I at_p rfl (by rw [a0s,a0e dist.u hz];rfl) ?_
 lia
 cases mm with
 | zero =>
  rw [if_neg (by simp)]
  lia
  have:=way [z] (.zero hz)
  exact hK (some (pre ++ [z])) _ grow ⟨R,n,s,dist,first,this⟩
 | succ d =>
  rw [if_pos (by simp)]
  lia
  refine a4t last ?_
  lia
  refine ⟨_,rfl,?_⟩
  refine ⟨fun i δ' S'=>∃ (y6 y7 y8 y9 y13:Option D),(∀ l∈(a2z w barred).take i,∀ y,¬ a5g w (a1T w barred) R d z (l,y))∧S'=S.set p (.dic (a0g fN R))∧δ'=[some (.obj M),some (.lst (barred.map D.str)),some (.lst (rs.map D.str)),some (.lst ((a2z w barred).map D.str)),some (.obj p),x5,y6,y7,y8,y9,some (.lst ((((n:Int),s) :: ms).map isD)),some (.lst ((pre ++ [z]).map D.str)),some (.str z),y13,none],⟨_,_,_,_,_,fun _ h=>by simp at h,rfl,rfl⟩,fun _ _ _ _ _=>rfl,?_,?_⟩
  ·clear y6 y7 y8 y9 y12 y13
   rintro i d0 δ' S' hd ⟨y6,y7,y8,y9,y13,none_,rfl,rfl⟩
   rw [zbh,zam] at hd
   obtain ⟨l',hl,rfl⟩:=hd
   obtain ⟨⟨l,x,y,co⟩,mq,el,nc⟩:=a6n ok (zaq hl)
   have el:l=l':=el
   subst el
   have nxy:y≠x:=(ok.ln _ mq).2.2.2.1
   have look:w.lines.lookup l=some (x,y,co):=a0e ok.lu mq
   have only:∀ y',a5g w (a1T w barred) R d z (l,y')→z∈[x,y]∧((if x=z then y else x),d)∈R:=fun y' cd=>by
    obtain ⟨⟨q,hq,e,en⟩,_,hy⟩:=cd
    obtain rfl:=a3a ok hq mq e
    rcases en with ⟨e1,e2⟩ | ⟨e1,e2⟩
    ·have e1:x=z:=e1
     have e2:y=y':=e2
     subst e1 e2
     exact ⟨zal,by rw [if_pos rfl];exact hy⟩
    ·have e1:y=z:=e1
     have e2:x=y':=e2
     subst e1 e2
     exact ⟨zao _ zal,by rw [if_neg nxy.symm];exact hy⟩
   have skip:¬ (z∈[x,y]∧((if x=z then y else x),d)∈R)→∀ l2∈(a2z w barred).take (i + 1),∀ y,¬ a5g w (a1T w barred) R d z (l2,y):=fun no l2 h2 y2 cd=>by
    rw [take_snoc hl] at h2
    rcases zap.mp h2 with h2 | h2
    ·exact none_ l2 h2 y2 cd
    ·rw [zaj.mp h2] at cd
     exact no (only y2 cd)
   refine a1O ?_
   lia
   refine a07 rfl ?_
   lia
   refine a1I at_M rfl a1e ?_
   lia
   refine a1I at_e rfl (by rw [a0s,look];rfl) ?_
   refine ⟨_,rfl,rfl,?_⟩
   show a0b _ _ [some (.obj M),some (.lst (barred.map D.str)),some (.lst (rs.map D.str)),some (.lst ((a2z w barred).map D.str)),some (.obj p),x5,some (.str l),some (.str x),some (.str y),some (.int co),some (.lst ((((n:Int),s) :: ms).map isD)),some (.lst ((pre ++ [z]).map D.str)),some (.str z),y13,none] _ _ _
   lia
   have et:atI [D.str x,D.str y] (if decide (x=z)=true then (1:Int) else 0)=some (.str (if x=z then y else x)):=by
    by_cases h:x=z
    ·rw [if_pos (zbg h),if_pos h];rfl
    ·rw [if_neg (by rw [zah];exact h),if_neg h];rfl
   refine a4t et ?_
   lia
   refine c1t (zs:=[x,y]) ?_
   lia
   by_cases hin:z∈[x,y]
   ·rw [if_pos (zbg hin)]
    lia
    refine ⟨b2m at_p,?_⟩
    lia
    refine b4g at_p ?_
    lia
    refine a1I at_p rfl (by rw [a0s,a0e dist.u hz];rfl) ?_
    lia
    rw [show (((d + 1:Nat):Int) - 1)=(d:Int) by omega]
    refine b3H dist.u ?_
    lia
    by_cases h2:((if x=z then y else x),d)∈R
    ·rw [if_pos (zbg h2)]
     have en:a1Y (l,x,y,co) z (if x=z then y else x):=by
      by_cases h:x=z
      ·exact .inl ⟨h,by rw [if_pos h]⟩
      ·have:z=y:=by simpa [Ne.symm h] using hin
       exact .inr ⟨this.symm,by rw [if_neg h]⟩
     have cd:a5g w (a1T w barred) R d z (l,if x=z then y else x):=⟨⟨_,mq,rfl,en⟩,nc,h2⟩
     have nx:a8M w (a1T w barred) R d z l (if x=z then y else x):=a7C cd fun l2 y2 c2=>by
      obtain ⟨⟨q,hq,e,_⟩,ns,_⟩:=id c2
      have e:q.1=l2:=e
      subst e
      exact later bup hl ((a3U ok hq).mpr ns) fun h=>none_ _ h y2 c2
     generalize (if x=z then y else x)=there at cd nx h2 en ⊢
     lia
     refine st_brk ?_
     refine ⟨d,Nat.lt_succ_self d,pre ++ [z,l],there,some (.str l),some (.str x),some (.str y),some (.int co),some (.str z),some (.str there),h2,by omega,by rw [zaw];show pre.length + 2 + 2 * d=_;omega,fun t ht=>?_,rfl,?_⟩
     ·have:=way (z :: l :: t) (.succ hz nx ht)
      rw [List.append_assoc]
      exact this
     ·rw [show (pre ++ [z,l] ++ [there]).map D.str=(pre ++ [z]).map D.str ++ [.str l,.str there] by simp]
      rfl
    ·rw [if_neg (by rw [zah];exact h2)]
     try rw [if_neg zbe]
     lia
     exact ⟨_,_,_,_,_,skip fun h=>h2 h.2,rfl,rfl⟩
   ·rw [if_neg (by rw [zah];exact hin)]
    try rw [if_neg zbe]
    lia
    exact ⟨_,_,_,_,_,skip fun h=>hin h.1,rfl,rfl⟩
  ·rintro δ' S' ⟨_,_,_,_,_,none_,_,_⟩
   rw [zag,List.take_length] at none_
   obtain ⟨ws,hws⟩:=b05 dist hz
   cases hws with
   | succ _ nx _ =>
    have cd:=a2f nx
    obtain ⟨⟨q,hq,e,_⟩,ns,_⟩:=id cd
    have ns:=(a3U (barred:=barred) ok hq).mpr (by rw [show q.1=_ from e];exact ns)
    rw [show q.1=_ from e] at ns
    exact absurd cd (none_ _ ns _)
 ) only [↓Qt.put_off]
variable {K:zbj}
theorem b5D (c:SaysX fa fn fx K) {x y:Str} (hx:x∈b9G) (hy:y∈b9G):PySem.W.kitOne K (.ref (He.ga K x)) (.ref (He.ga K y))=some (decide (x=y)):=b7V (c.fact 19 rfl) hx hy
theorem b2K:∀ bs:List Bool,((bs.map D.bl).countP fun z=>D.eqv z (.bl true))=bs.count true
 | []=>rfl
 | b :: bs=>by
  have e:D.eqv (.bl b) (.bl true)=(b == true):=by
   simp only [D.eqv,D.py,PyData.eqv]
  rw [zax,List.countP_cons,b2K bs,List.count_cons,e]
theorem c0U {S:SS} {KK:DK} {bs:List Bool} (k:KK (.int (bs.count true:Nat)) S):Mn.cnt.den (.lst (bs.map D.bl)) [.bl true] S KK:=by
 refine ⟨_,rfl,?_,rfl,by rw [show vw S (.bl true)=.bl true from rfl,b2K];exact k⟩
 clear k
 induction bs with
 | nil=>rfl
 | cons b bs ih=>simp only [zax,D.okds,D.okd,Bool.true_and];exact ih
theorem c1G (c:SaysX fa fn fx K):Meets ((tb K).sn N18) ((tb K).G K 18) 1 true (a5E K) b18:=by
 refine Qt.put_in ?_
 simp (disch :=
 with_unfolding_all
 refine Qt.keep ?_
 rintro m hm ds S KK Y ⟨a,oe,ws,q,rfl,rfl,hq,hne,hl,hK⟩
 refine ⟨rfl,?_⟩
 show a0b _ b18 [some _,none,none] _ _ _
 unfold b18
 have hx:("NoPart" : Str)∈b9G:=by decide +kernel
 have hF:b09 K (He.ga K "NoPart"):=b3Y (c.fact 22 rfl) hx
 have hv:PySem.W.kitOne K (.ref (He.ga K "NoPart")) ((Cn.ty "ValueError").val ((tb K).G K 18 (some (a,oe))).toGm)=some true:=b8J (c.fact 20 rfl) hx
 lia
 refine a7v rfl hF (b5D c (x := "NoPart") (y := "Wrong") hx (by decide +kernel)) ?_
 lia
 refine a7v rfl hF (b5D c (x := "NoPart") (y := "Lacks") hx (by decide +kernel)) ?_
 lia
 refine a7v rfl hF (b5D c (x := "NoPart") (y := "NoPart") hx (by decide +kernel)) ?_
 lia
 refine a7v rfl hF (b5D c (x := "NoPart") (y := "There") hx (by decide +kernel)) ?_
 lia
 refine a7v rfl hF (b5D c (x := "NoPart") (y := "TooMany") hx (by decide +kernel)) ?_
 lia
 refine a7v rfl hF (b5D c (x := "NoPart") (y := "Held") hx (by decide +kernel)) ?_
 lia
 refine a7v rfl hF hv ?_
 lia
 rw [if_neg (by decide)]
 lia
 refine ⟨⟨_,rfl⟩,?_⟩
 lia
 refine c0U (bs:=[decide (("NoPart" : Str) = "Wrong"),decide (("NoPart" : Str) = "Lacks"),decide (("NoPart" : Str) = "NoPart"),decide (("NoPart" : Str) = "There"),decide (("NoPart" : Str) = "TooMany"),decide (("NoPart" : Str) = "Held")]) ?_
 lia
 rw [if_neg (by decide +kernel)]
 lia
 rw [show (3:Int)=((3:Nat):Int) from rfl,a73 (by show 3≤6;decide)]
 refine ⟨rfl,rfl,?_⟩
 lia
 rw [show vw S (.bl true)=.bl true from rfl,if_neg (by decide +kernel)]
 try rw [if_neg zbe]
 lia
 refine a4t (d:=.bl (decide (("NoPart" : Str) = "Wrong"))) rfl ?_
 lia
 rw [if_neg (by decide +kernel)]
 lia
 refine a4t (d:=.bl (decide (("NoPart" : Str) = "Lacks"))) rfl ?_
 lia
 rw [if_neg (by decide +kernel)]
 lia
 refine b4b rfl hF (a3c (c.fact 17 rfl)) rfl ?_
 lia
 refine ⟨_,.inl (a8H hq),?_⟩
 rw [if_neg zbe]
 lia
 refine b4b rfl hF (a3c (c.fact 17 rfl)) rfl ?_
 lia
 refine ⟨a88 hq,?_⟩
 lia
 refine a3O hq (by rw [zag,zai];omega) ?_
 lia
 refine b4b rfl hF (a3c (c.fact 17 rfl)) rfl ?_
 lia
 refine b0N (j:=0) zab (by rw [zaw];show ixN (_ + 1) 0=some 0;simp [ixN]) ?_
 rw [zac]
 lia
 exact hK _
 ) only [↓Qt.put_off]
theorem c6q (c:SaysX fa fn fx K):Meets ((tb K).sn N59) ((tb K).G K 59) 3 false (a3r K) b59:=by
 refine Qt.put_in ?_
 simp (disch :=
 with_unfolding_all
 refine Qt.keep ?_
 rintro m hm ds S KK Y ⟨rfl,L,a,b,c',d,w,barred,rs,rfl,lay,ok,br,ends⟩
 refine ⟨rfl,?_⟩
 show a0b _ b59 [some _,some _,some _,none,none] _ _ _
 unfold b59
 lia
 refine a3k (fun δ' S'=>∃ X,Grows S S'∧a1q (a0w w barred) w.srcs rs X∧(∀ z∈X,z∈w.rooms)∧a3M w (a1T w barred) rs none∧δ'=[some (.obj L),some (.lst (barred.map D.str)),some (.lst (rs.map D.str)),some (.tup [.lst ((a2E w X).map D.str),.lst ((a0l X).map D.str)]),none]) ?_ ?_
 ·lia
  refine a0a (T:=a4c K) rfl ?_
  lia
  refine ⟨rfl,L,a,b,c',d,w,barred,rs,rfl,lay,ok,br,fun o ho=>?_⟩
  cases o with
  | none=>exact fun X S' g lx sub=>⟨X,g,lx,sub,ho,rfl⟩
  | some ws =>
   have e:=ends (some ws) ho
   rintro S' gr ⟨hne,hl⟩ x S2 g2 fx hx
   refine ⟨true,b2N (c.fact 21 rfl) (by decide +kernel),fun _ a oe=>?_,fun z=>nomatch z⟩
   lia
   refine a0a (T:=a5E K) rfl ?_
   lia
   refine ⟨a,oe,ws,x,rfl,rfl,hx,hne,hl,fun y=>?_⟩
   lia
   refine e _ fun p hp=>?_
   have h1:S' p≠none:=by rw [gr p hp];exact hp
   rw [zaa fun e:p=x=>h1 (by rw [e];exact fx),g2 p h1]
   exact gr p hp
 ·rintro δ' S' ⟨X,g,lx,sub,ho,rfl⟩
  lia
  exact ends none ho X S' g lx sub
 ) only [↓Qt.put_off]
variable {K:zbj}
theorem c6r (c:SaysX fa fn fx K):Meets ((tb K).sn N60) ((tb K).G K 60) 3 false (a2O K) b60:=by
 refine Qt.put_in ?_
 simp (disch :=
 with_unfolding_all
 refine Qt.keep ?_
 rintro m hm ds S KK Y ⟨rfl,L,a,b,c',d,w,barred,rs,rfl,lay,ok,br,ends⟩
 refine ⟨rfl,?_⟩
 show a0b _ b60 [some _,some _,some _,none,none] _ _ _
 unfold b60
 lia
 refine a3k (fun δ' S'=>∃ X wl,Grows S S'∧a1q (a0w w barred) w.srcs rs X∧(∀ z∈X,z∈w.rooms)∧a4h (a0w w barred) w.srcs rs X wl∧a3M w (a1T w barred) rs none∧δ'=[some (.obj L),some (.lst (barred.map D.str)),some (.lst (rs.map D.str)),some (.lst (wl.map wyD)),none]) ?_ ?_
 ·lia
  refine a0a (T:=a7j K) rfl ?_
  lia
  refine ⟨rfl,L,a,b,c',d,w,barred,rs,rfl,lay,ok,br,fun o ho=>?_⟩
  cases o with
  | none=>exact fun X wl S' g lx sub wk=>⟨X,wl,g,lx,sub,wk,ho,rfl⟩
  | some ws =>
   have e:=ends (some ws) ho
   rintro S' gr ⟨hne,hl⟩ x S2 g2 fx hx
   refine ⟨true,b2N (c.fact 21 rfl) (by decide +kernel),fun _ a oe=>?_,fun z=>nomatch z⟩
   lia
   refine a0a (T:=a5E K) rfl ?_
   lia
   refine ⟨a,oe,ws,x,rfl,rfl,hx,hne,hl,fun y=>?_⟩
   lia
   refine e _ fun p hp=>?_
   have h1:S' p≠none:=by rw [gr p hp];exact hp
   rw [zaa fun e:p=x=>h1 (by rw [e];exact fx),g2 p h1]
   exact gr p hp
 ·rintro δ' S' ⟨X,wl,g,lx,sub,wk,ho,rfl⟩
  lia
  exact ends none ho X wl S' g lx sub wk
 ) only [↓Qt.put_off]
variable {K:zbj}
def a66 {α:Type} (l:List (Str × α)) (z:Str) (g:α→α):List (Str × α):=l.map fun q=>if q.1=z then (q.1,g q.2) else q
theorem a8n {α:Type} {l:List (Str × α)} {z:Str} {x:α} (h:l.lookup z=some x):(z,x)∈l:=by
 induction l with
 | nil=>cases h
 | cons q l ih =>
  rw [List.lookup_cons] at h
  split at h
  ·rename_i e
   have e:z=q.1:=by simpa using e
   cases h
   rw [e]
   exact zal
  ·exact zao _ (ih h)
theorem b02 {α:Type}:∀ {l:List (Str × α)} {z:Str} {x y:α},(nms l).Nodup→(z,x)∈l→(z,y)∈l→x=y
 | [],_,_,_,_,h,_=>nomatch h
 | q :: l,z,x,y,u,h1,h2=>by
  obtain ⟨n,u⟩:=zbd.mp (show (q.1 :: nms l).Nodup from u)
  rcases zau.mp h1 with e1 | h1 <;> rcases zau.mp h2 with e2 | h2
  ·exact (Prod.mk.inj (e1.trans e2.symm)).2
  ·exact absurd (zan.mpr ⟨_,h2,rfl⟩:z∈nms l) (by rw [show z=q.1 from (congrArg Prod.fst e1)];exact n)
  ·exact absurd (zan.mpr ⟨_,h1,rfl⟩:z∈nms l) (by rw [show z=q.1 from (congrArg Prod.fst e2)];exact n)
  ·exact b02 u h1 h2
theorem a6M {α:Type} {l:List (Str × α)} {z:Str} {g:α→α}:nms (a66 l z g)=nms l:=by
 unfold nms a66
 rw [zat]
 refine List.map_congr_left fun q _=>?_
 show (if q.1=z then (q.1,g q.2) else q).1=q.1
 split <;> rfl
theorem a9z {α:Type} {f:α→D} {l:List (Str × α)} {z:Str}:((a0g f l).any fun kv=>decide (kv.1=Sum.inr z))=decide (z∈nms l):=by
 rw [Bool.eq_iff_iff,List.any_eq_true,zah]
 constructor
 ·rintro ⟨x,hx,e⟩
  obtain ⟨q,hq,rfl⟩:=zan.mp hx
  exact zan.mpr ⟨q,hq,Sum.inr.inj (of_decide_eq_true e)⟩
 ·intro h
  obtain ⟨q,hq,rfl⟩:=zan.mp h
  exact ⟨_,zan.mpr ⟨q,hq,rfl⟩,zbg rfl⟩
theorem a81 {α:Type} {f:α→D} {l:List (Str × α)} {z:Str} {g:α→α} {r:α} {v:D} (u:(nms l).Nodup) (h:l.lookup z=some r) (hv:f (g r)=v):putD (a0g f l) (.inr z) v=a0g f (a66 l z g):=by
 have hz:z∈nms l:=zan.mpr ⟨_,a8n h,rfl⟩
 unfold putD
 rw [if_pos (by rw [a9z];exact zbg hz)]
 unfold a0g a66
 rw [zat,zat]
 refine List.map_congr_left fun q hq=>?_
 show (if (Sum.inr q.1:Key)=Sum.inr z then ((Sum.inr q.1:Key),v) else (Sum.inr q.1,f q.2))=((Sum.inr (if q.1=z then (q.1,g q.2) else q).1:Key),f (if q.1=z then (q.1,g q.2) else q).2)
 by_cases e:q.1=z
 ·rw [if_pos e,if_pos (by rw [e])]
  have:q.2=r:=b02 u (show (q.1,q.2)∈l from hq) (by rw [e];exact a8n h)
  rw [this,hv]
 ·rw [if_neg e,if_neg fun h=>e (Sum.inr.inj h)]
theorem b0j {α:Type} {l:List (Str × α)} {z:Str} (u:(nms l).Nodup) (h:z∈nms l):∃ x,l.lookup z=some x∧(z,x)∈l:=by
 obtain ⟨q,hq,rfl⟩:=zan.mp h
 exact ⟨q.2,a0e u hq,hq⟩
theorem b1G {l:List Str} (u:l.Nodup):∀ {j:Nat} {z:Str},l[j]?=some z→l.eraseIdx j=l.filter fun y=>decide (y≠z):=by
 induction l with
 | nil=>intro j z h;simp at h
 | cons a l ih =>
  obtain ⟨ha,hu⟩:=zbd.mp u
  intro j z h
  cases j with
  | zero =>
   obtain rfl:a=z:=by simpa using h
   show l=_
   rw [List.filter_cons,if_neg (by simp)]
   exact (zbc.mpr fun y hy=>zbg (show y≠a from fun e=>ha (by rw [← e];exact hy))).symm
  | succ j =>
   have h:l[j]?=some z:=by simpa using h
   show a :: l.eraseIdx j=_
   rw [List.filter_cons,if_pos (zbg (show a≠z from fun e=>ha (by rw [e];exact zaq h))),ih hu h]
theorem map_erase {α β:Type} (f:α→β):∀ (l:List α) (j:Nat),(l.map f).eraseIdx j=(l.eraseIdx j).map f
 | [],_=>rfl
 | _ :: _,0=>rfl
 | a :: l,j + 1=>by
  show f a :: (l.map f).eraseIdx j=f a :: (l.eraseIdx j).map f
  rw [map_erase f l j]
theorem b03 {l:List Str} {z:Str}:without (units l) z=units (l.filter fun y=>decide (y≠z)):=by
 unfold without units
 rw [List.filter_map]
 rfl
def b7r (w:Wo) (z:Str):Wo:={ w with srcs:=w.srcs.filter fun y=>decide (y≠z) }
def b0q (w:Wo) (l:Str):Wo:={ w with lines:=without w.lines l }
theorem a6L {α:Type} {l:List (Str × α)} {z:Str}:nms (without l z)=(nms l).filter fun y=>decide (y≠z):=by
 unfold without nms
 rw [List.filter_map]
 rfl
theorem b4N {w:Wo} (ok:a03 w) (z:Str):a03 (b7r w z) where
 r:=ok.r
 rn:=ok.rn
 ru:=ok.ru
 l:=ok.l
 ln:=ok.ln
 lu:=ok.lu
 d:=ok.d
 dn:=ok.dn
 du:=ok.du
 ld:=ok.ld
 s:=fun y hy=>ok.s y (zay.mp hy).1
 su:=ok.su.filter _
theorem b4M {w:Wo} (ok:a03 w) (z:Str):a03 (b0q w z) where
 r:=ok.r
 rn:=ok.rn
 ru:=ok.ru
 l:=Nat.le_trans (zbb _ _) ok.l
 ln:=fun q hq=>ok.ln q (zay.mp hq).1
 lu:=by show (nms (without w.lines z)).Nodup;rw [a6L];exact ok.lu.filter _
 d:=ok.d
 dn:=ok.dn
 du:=ok.du
 ld:=fun y hy=>by
  have hy:y∈nms (without w.lines z):=hy
  rw [a6L] at hy
  exact ok.ld y (zay.mp hy).1
 s:=ok.s
 su:=ok.su
def a7H (w:Wo) (z:Str):Wo:={ w with lines:=a66 w.lines z fun x=>(x.1,x.2.1,0) }
theorem a4E {w:Wo} {z:Str}:(a7H w z).lines=a66 w.lines z fun x=>(x.1,x.2.1,0):=rfl
theorem a86 {w:Wo} (ok:a03 w) (nd:w.drains=[]) (z:Str):a03 (a7H w z) where
 r:=ok.r
 rn:=ok.rn
 ru:=ok.ru
 l:=by rw [a4E];unfold a66;rw [zag];exact ok.l
 ln:=fun q hq=>by
  obtain ⟨q0,h0,rfl⟩:=zan.mp hq
  obtain ⟨a,b,c,d,e,f⟩:=ok.ln q0 h0
  split
  ·exact ⟨a,b,c,d,Int.le_refl 0,by show (0:Int)≤99;decide⟩
  ·exact ⟨a,b,c,d,e,f⟩
 lu:=by rw [a4E,a6M];exact ok.lu
 d:=ok.d
 dn:=ok.dn
 du:=ok.du
 ld:=fun y _ h=>by
  have h:y∈nms w.drains:=h
  rw [nd] at h
  cases h
 s:=ok.s
 su:=ok.su
theorem MW.grow47 {S S':SS} {M e f:Addr} {w:Wo} (h:MW S M e f w) (g:Grows S S'):MW S' M e f w:=⟨h.Me,h.Mf,h.ef,g.at_ h.M,g.at_ h.e,g.at_ h.f⟩
theorem a3E.grow47 {C:Addr} {S S':SS} {L a b c d:Addr} {st:Lay} (h:a3E C S L a b c d st) (g:Grows S S'):a3E C S' L a b c d st:=⟨h.s.grow g,h.ab,h.ac,h.ad,h.bc,h.bd,h.cd⟩
structure a9m (K:zbj) (S:SS) (M e f L a b c d:Addr) (w:Wo):Prop where
 mw:MW S M e f w
 lay:a3E (lc K) S L a b c d w.lay
 ok:a03 w
 far:∀ q,q=M∨q=e∨q=f→q≠L∧q≠a∧q≠b∧q≠c∧q≠d
section
variable {S S':SS} {M e f L a b c d:Addr} {w:Wo} {z:Str}
theorem a9m.grow (h:a9m K S M e f L a b c d w) (g:Grows S S'):a9m K S' M e f L a b c d w:=⟨h.mw.grow47 g,h.lay.grow47 g,h.ok,h.far⟩
theorem a9m.source (h:a9m K S M e f L a b c d w) (z:Str):a9m K ((S.set d (.dic (a0g fU (without w.lay.pushed z)))).set f (.lst ((b7r w z).srcs.map D.str))) M e f L a b c d (b7r w z):=by
 obtain ⟨m1,m2,m3,m4,m5⟩:=h.far M (.inl rfl)
 obtain ⟨e1,e2,e3,e4,e5⟩:=h.far e (.inr (.inl rfl))
 obtain ⟨f1,f2,f3,f4,f5⟩:=h.far f (.inr (.inr rfl))
 refine ⟨⟨h.mw.Me,h.mw.Mf,h.mw.ef,?_,?_,zab⟩,?_,b4N h.ok z,h.far⟩
 ·rw [zaa h.mw.Mf,zaa m5];exact h.mw.M
 ·rw [zaa h.mw.ef,zaa e5];exact h.mw.e
 ·have l:=h.lay.pushed (without w.lay.pushed z)
  have e:({ w.lay with pushed:=without w.lay.pushed z }:Lay)=(b7r w z).lay:=by
   show ({ w.lay with pushed:=without (units w.srcs) z }:Lay)=_
   rw [b03]
   rfl
  rw [e] at l
  exact l.off f1 f2 f3 f4 f5
theorem a9m.line (h:a9m K S M e f L a b c d w) (z:Str):a9m K ((S.set b (.dic (a0g fL (without w.lay.lines z)))).set e (.dic (a0g fL (without w.lines z)))) M e f L a b c d (b0q w z):=by
 obtain ⟨m1,m2,m3,m4,m5⟩:=h.far M (.inl rfl)
 obtain ⟨e1,e2,e3,e4,e5⟩:=h.far e (.inr (.inl rfl))
 obtain ⟨f1,f2,f3,f4,f5⟩:=h.far f (.inr (.inr rfl))
 refine ⟨⟨h.mw.Me,h.mw.Mf,h.mw.ef,?_,zab,?_⟩,?_,b4M h.ok z,h.far⟩
 ·rw [zaa h.mw.Me,zaa m3];exact h.mw.M
 ·rw [zaa h.mw.ef.symm,zaa f3];exact h.mw.f
 ·exact (h.lay.lines (without w.lay.lines z)).off e1 e2 e3 e4 e5
end
theorem b1V {z:Str} {n:Nat} (h:Nm z):lfD n (.str z)=true:=by
 simp only [lfD,zak,zah];exact ⟨b4G h,h.fine⟩
theorem a8O {z:Str} (h:Nm z):(D.str z).py.bulk≤8:=by
 have:=h.1
 rw [Array.length_toList] at this
 simpa only [D.py,PyData.bulk] using this
theorem b2f {ws:List Str} (h:∀ z∈ws,Nm z) (l:ws.length≤64):Plain (.lst [.tup [.str "NoPart",.lst (ws.map D.str)],.tup [.str "NoPart",.lst (ws.map D.str)]]):=by
 have b1:=a70 (b:=8) (ds:=ws.map D.str) fun d hd=>by
  obtain ⟨z,hz,rfl⟩:=zan.mp hd
  exact a8O (h z hz)
 rw [zag] at b1
 have l1:lfD 18 (.lst (ws.map D.str))=true:=by
  simp only [lfD,zak,zah]
  refine ⟨by decide,a3W fun d hd=>?_⟩
  obtain ⟨z,hz,rfl⟩:=zan.mp hd
  exact b1V (h z hz)
 have l2:lfD 18 (.str "NoPart")=true:=by decide +kernel
 have b2:(D.str "NoPart").py.bulk≤600:=by decide +kernel
 have two:∀ {P:D→Prop} {x y:D},P x→P y→∀ d∈[x,y],P d:=fun {P x y} hx hy d hd=>by
  rcases zau.mp hd with rfl | hd
  ·exact hx
  ·rw [zaj.mp hd];exact hy
 have lt:lfD 19 (.tup [.str "NoPart",.lst (ws.map D.str)])=true:=by
  simp only [lfD,zak,zah]
  exact ⟨by decide,a3W (two (P:=fun d=>lfD 18 d=true) l2 l1)⟩
 have bt:(D.tup [.str "NoPart",.lst (ws.map D.str)]).py.bulk≤2 * (600 + 1):=b1t (two (P:=fun d=>d.py.bulk≤600) b2 (Nat.le_trans b1 (by omega)))
 refine b2g ?_ (Nat.le_trans (a70 (two (P:=fun d=>d.py.bulk≤2 * (600 + 1)) bt bt)) (by show 2 * (2 * (600 + 1) + 1)≤_;decide))
 simp only [lfD,zak,zah]
 exact ⟨by decide,a3W (two (P:=fun d=>lfD 19 d=true) lt lt)⟩
theorem b7K {S:SS} {KK:DK} {f:Addr} {zs:List Str} {z:Str} (h:S f=some (.lst (zs.map D.str))) (u:zs.Nodup) (hz:z∈zs) (k:KK .non (S.set f (.lst ((zs.filter fun y=>decide (y≠z)).map D.str)))):Mn.rem.den (.obj f) [.str z] S KK:=by
 obtain ⟨j,hj⟩:=List.getElem?_of_mem hz
 have eqv:∀ a b:Str,D.eqv (.str a) (.str b)=decide (a=b):=fun a b=>by
  simp only [D.eqv,D.py,PyData.eqv]
  rw [Bool.eq_iff_iff];simp
 refine ⟨zs.map D.str,j,.str z,h,rfl,?_,by rw [zbh,hj];rfl,by rw [eqv];exact zbg rfl,fun m z' hm hz'=>?_,?_⟩
 ·rw [List.all_eq_true]
  intro d hd
  obtain ⟨y,_,rfl⟩:=zan.mp hd
  rfl
 ·rw [zbh,zam] at hz'
  obtain ⟨y,hy,rfl⟩:=hz'
  rw [eqv]
  refine zbf fun e=>?_
  subst e
  have:=(List.getElem?_inj (by exact (List.getElem?_eq_some_iff.mp hy).1) u).mp (hy.trans hj.symm)
  omega
 ·rw [map_erase,b1G u hj]
  exact k
theorem c6s (c:SaysX fa fn fx K):Meets ((tb K).sn N61) ((tb K).G K 61) 1 false (lawT 63) b61:=by
 refine Qt.put_in ?_
 simp (disch :=
 with_unfolding_all
 refine Qt.keep ?_
 rintro m hm ds S KK Y ⟨ns,hns,rfl,hS,hK⟩
 have hm0:m=none:=by cases m with | none=>rfl | some _=>cases hm
 subst hm0
 refine ⟨rfl,?_⟩
 show a0b _ b61 [some _,none,none,none,none,none,none,none,none,none,none,none,none,none,none,none,none] _ _ _
 unfold b61
 lia
 refine a0a (T:=b9M) rfl ?_
 lia
 refine ⟨rfl,ns,rfl,fun g c0 fg hc0=>?_⟩
 lia
 refine a0a (T:=a0N) rfl ?_
 lia
 refine ⟨rfl,g,4,c0,rfl,by decide,by decide,zab,hc0,fun v c1 v0 v1 hc1=>?_⟩
 rw [zac]
 obtain ⟨pl,epl,_⟩:=c1Q (a:=0) (b:=2) (c:=3) (d:=4) v0 v1
 refine a4t epl ?_
 lia
 refine a07 rfl ?_
 lia
 refine a0a (T:=a9s) rfl ?_
 lia
 refine ⟨rfl,g,c1,rfl,zab,hc1,fun n k c2 n0 n1 k0 k1 hc2=>?_⟩
 rw [zac]
 refine ⟨_,rfl,rfl,?_⟩
 show a0b _ _ [some (.lst (ns.map .int)),some (.obj g),some (.int pl),some (.int n),some (.int k),none,none,none,none,none,none,none,none,none,none,none,none] _ _ _
 lia
 refine a0a (T:=a7k) rfl ?_
 lia
 refine ⟨rfl,g,c2,n,k,rfl,n0,n1,k0,k1,zab,hc2,fun w M e f c3 S1 ok wne wd rl at_g hc3 mw=>?_⟩
 lia
 refine a1I mw.M rfl a1e ?_
 lia
 refine c1E mw.e ?_
 refine ⟨_,rfl,?_⟩
 refine ⟨fun i δ' S'=>∃ (w1:Wo) (cb:Cell) (x6 x7 x8 x9:Option D),a03 w1∧w1.rooms=w.rooms∧w1.drains=[]∧nms w1.lines=nms w.lines∧a0K cb∧S' g=some cb∧MW S' M e f w1∧δ'=[some (.lst (ns.map .int)),some (.obj g),some (.int pl),some (.int n),some (.int k),some (.obj M),x6,x7,x8,x9,none,none,none,none,none,none,none],⟨w,c3,none,none,none,none,ok,rfl,wd,rfl,hc3,at_g,mw,rfl⟩,fun _ _ _ _ _=>rfl,?_,?_⟩
 ·clear mw at_g hc3
  rintro i d0 δ' S' hd ⟨w1,cb,x6,x7,x8,x9,ok1,er,wd1,en,hcb,at_g,mw,rfl⟩
  rw [zbh,zam] at hd
  obtain ⟨z,hz,rfl⟩:=hd
  have mz:z∈nms w1.lines:=by rw [en];exact zaq hz
  obtain ⟨⟨x,y,cc⟩,hx,hin⟩:=b0j ok1.lu mz
  refine a1O ?_
  lia
  refine a07 rfl ?_
  lia
  refine a1I mw.M rfl a1e ?_
  lia
  refine a1I mw.e rfl (by rw [a0s,hx];rfl) ?_
  refine ⟨_,rfl,rfl,?_⟩
  show a0b _ _ [some (.lst (ns.map .int)),some (.obj g),some (.int pl),some (.int n),some (.int k),some (.obj M),some (.str z),some (.str x),some (.str y),some (.int cc),none,none,none,none,none,none,none] _ _ _
  lia
  refine a0a (T:=a0N) rfl ?_
  lia
  refine ⟨rfl,g,5,cb,rfl,by decide,by decide,at_g,hcb,fun u c4 u0 u1 hc4=>?_⟩
  have ge:g≠e:=(hcb.nd at_g mw.e).symm
  have mw:=mw.bag (c':=c4) at_g hcb
  lia
  by_cases h:u < pl
  ·rw [if_pos (zbg h)]
   lia
   refine a1I mw.M rfl a1e ?_
   lia
   refine a3i mw.e rfl (by rw [a0p,zai];have:=ok1.l;omega) ?_
   rw [show putD (a0g fL w1.lines) (.inr z) (D.tup [D.str x,D.str y,D.int 0])=a0g fL (a66 w1.lines z fun x=>(x.1,x.2.1,0)) from a81 (f:=fL) ok1.lu hx rfl]
   lia
   refine ⟨a7H w1 z,c4,_,_,_,_,a86 ok1 wd1 z,er,wd1,by rw [a4E,a6M];exact en,hc4,by rw [zaa ge];exact zab,?_,rfl⟩
   exact ⟨mw.Me,mw.Mf,mw.ef,by rw [zaa mw.Me];exact mw.M,zab,by rw [zaa mw.ef.symm];exact mw.f⟩
  ·rw [if_neg (by rw [zah];exact h)]
   lia
   exact ⟨w1,c4,_,_,_,_,ok1,er,wd1,en,hc4,zab,mw,rfl⟩
 clear mw at_g hc3 ok wd
 rintro δ' S' ⟨w1,cb,x6,x7,x8,x9,ok1,er,wd1,en,hcb,at_g,mw,rfl⟩
 have wne1:w1.rooms≠[]:=by rw [er];exact wne
 clear er en
 lia
 refine a0a (T:=a5G K) rfl ?_
 lia
 refine ⟨rfl,M,e,f,w1,rfl,mw,ok1,wd1,fun L a b c' d S2 gr fL_ fa_ fb fc fd lay=>?_⟩
 have far:∀ q,q=M∨q=e∨q=f→q≠L∧q≠a∧q≠b∧q≠c'∧q≠d:=by
  rintro q (rfl | rfl | rfl)
  ·exact ⟨zad mw.M fL_,zad mw.M fa_,zad mw.M fb,zad mw.M fc,zad mw.M fd⟩
  ·exact ⟨zad mw.e fL_,zad mw.e fa_,zad mw.e fb,zad mw.e fc,zad mw.e fd⟩
  ·exact ⟨zad mw.f fL_,zad mw.f fa_,zad mw.f fb,zad mw.f fc,zad mw.f fd⟩
 have at_g:=gr.at_ at_g
 have mw:=mw.grow47 gr
 lia
 refine a0a (T:=a5C) rfl ?_
 lia
 refine ⟨rfl,g,cb,M,e,f,w1,rfl,at_g,hcb,mw,ok1,fun barred c3 bsub bu bl hc3=>?_⟩
 have mw:=mw.bag (c':=c3) at_g hcb
 have lay:=lay.bag (x':=c3) at_g hcb
 lia
 refine a0a (T:=a4f) rfl ?_
 lia
 refine ⟨rfl,g,c3,M,e,f,w1,rfl,zab,hc3,mw,ok1,wne1,fun rs c4 rne rsub ru rl hc4=>?_⟩
 have mw:=mw.bag (c':=c4) zab hc3
 have lay:=lay.bag (x':=c4) zab hc3
 have st0:a9m K ((S2.set g c3).set g c4) M e f L a b c' d w1:=⟨mw,lay,ok1,far⟩
 have br0:a3D w1 barred rs:=⟨⟨bsub,bu,bl,rsub,ru,rl⟩,rne⟩
 generalize (S2.set g c3).set g c4=S3 at st0 ⊢
 lia
 refine ⟨by decide,by decide,?_⟩
 refine ⟨fun i δ' S'=>∃ (w:Wo) (barred:List Str) (y6 x13 x14 x15 x16:Option D),a9m K S' M e f L a b c' d w∧a3D w barred rs∧δ'=[some (.lst (ns.map .int)),some (.obj g),some (.int pl),some (.int n),some (.int k),some (.obj M),y6,x7,x8,x9,some (.obj L),some (.lst (barred.map D.str)),some (.lst (rs.map D.str)),x13,x14,x15,x16],⟨w1,barred,_,_,_,_,_,st0,br0,rfl⟩,fun _ _ _ _ _=>trivial,?_,?_⟩
 ·clear st0 br0 bsub bu bl mw lay
  rintro i d0 δ' S' hd ⟨w,barred,y6,x13,x14,x15,x16,st,br,rfl⟩
  obtain ⟨hi,rfl⟩:=a7M hd
  refine a1O ?_
  lia
  refine a0a (T:=a9o) rfl ?_
  lia
  refine ⟨rfl,M,e,f,w,barred,rs,rfl,st.mw,st.ok,br,fun o S4 g4 ho=>?_⟩
  have st:=st.grow g4
  lia
  refine a0a (T:=a3r K) rfl ?_
  lia
  refine ⟨rfl,L,a,b,c',d,w,barred,rs,rfl,st.lay.s,st.ok,br,fun o' ho'=>?_⟩
  obtain rfl:=a4X st.ok ho ho'
  cases o with
  | none =>
   refine fun X S5 g5 lx xsub=>?_
   have st:=st.grow g5
   lia
   refine a0a (T:=a2O K) rfl ?_
   lia
   refine ⟨rfl,L,a,b,c',d,w,barred,rs,rfl,st.lay.s,st.ok,br,fun o' ho'=>?_⟩
   obtain rfl:=a4X st.ok ho ho'
   refine fun X2 wl S6 g6 lx2 xsub2 wk=>?_
   lia
   rw [if_pos (show Sv.isNon (c3C none)=true from rfl)]
   lia
   refine a80 (d:=.str "told") rfl ?_
   lia
   try rw [if_pos (by decide +kernel)]
   try lia
   refine a80 (d:=.str "told") rfl ?_
   lia
   exact hK _
  | some ws =>
   refine fun S5 g5=>?_
   have st:=st.grow g5
   lia
   refine a0a (T:=a2O K) rfl ?_
   lia
   refine ⟨rfl,L,a,b,c',d,w,barred,rs,rfl,st.lay.s,st.ok,br,fun o' ho'=>?_⟩
   obtain rfl:=a4X st.ok ho ho'
   refine fun S6 g6=>?_
   have st:=st.grow g6
   have ok:=st.ok
   obtain ⟨R,nn,s,dist,first,way⟩:=ho
   have wl:ws.length≤64:=by
    rw [b07 way]
    have:=dist.lt ok br.1.2.2.2.1 first.2.1
    omega
   have wn:=b2E ok br.1.2.2.2.1 dist way
   have pw:=b2f wn wl
   lia
   rw [if_neg (show ¬ (Sv.isNon (c3C (some ws))=true) from fun h=>zbe h)]
   try rw [if_neg zbe]
   lia
   refine a0a (T:=a9n) rfl ?_
   lia
   refine ⟨rfl,_,rfl,pw,?_⟩
   lia
   try rw [if_neg (by decide)]
   try rw [if_neg zbe]
   lia
   show Bn.len.den [.lst (ws.map D.str)] _ _
   lia
   have srs:=first.1
   cases way with
   | zero hz =>
    rw [if_pos (show decide (((([s]:List Str).map D.str).length:Int)=1)=true from rfl)]
    lia
    refine a4l (T:=a2D K) rfl ?_
    lia
    refine a4A st.lay.s.L rfl ?_
    lia
    refine a4t (d:=.str s) rfl ?_
    lia
    have du:due w.lay (.takeS s)=none:=by
     have h1:s∈nms w.lay.pushed:=by show s∈nms (units w.srcs);rw [a0j];exact srs
     simp only [due,if_pos h1]
    refine ⟨rfl,L,a,b,c',d,w.lay,s,rfl,ok.rn s (ok.s s srs),st.lay.s,?_⟩
    rw [du]
    show Ends _ none _ _ _
    unfold Ends
    dsimp only
    obtain ⟨m1,m2,m3,m4,m5⟩:=st.far M (.inl rfl)
    obtain ⟨f1,f2,f3,f4,f5⟩:=st.far f (.inr (.inr rfl))
    have at_f:(S6.set d (.dic (a0g fU (without w.lay.pushed s)))) f=some (.lst (w.srcs.map D.str)):=by rw [zaa f5];exact st.mw.f
    lia
    refine a1I (by rw [zaa m5];exact st.mw.M) rfl a4W ?_
    lia
    refine ⟨a88 at_f,?_⟩
    lia
    refine a4t (d:=.str s) rfl ?_
    lia
    refine b7K at_f ok.su srs ?_
    lia
    exact ⟨b7r w s,barred,_,_,_,_,_,st.source s,br,rfl⟩
   | @succ dd z l y t hz nx tl =>
    have l1:=b07 tl
    rw [if_neg (by
     rw [zah,zag]
     show ¬ (((t.length + 2:Nat):Int)=1)
     omega)]
    lia
    obtain ⟨⟨q,hq,rfl,en⟩,nsh,_⟩:=nx
    have nl:=(ok.ln q hq).1
    have ml:q.1∈nms w.lines:=zan.mpr ⟨q,hq,rfl⟩
    refine a4l (T:=a4g K) rfl ?_
    lia
    refine a4A st.lay.s.L rfl ?_
    lia
    refine a4t (d:=.str q.1) (atI_nat (j:=1) rfl) ?_
    lia
    have du:due w.lay (.takeL q.1)=none:=by
     have h1:q.1∈nms w.lay.lines:=ml
     simp only [due,if_pos h1]
    refine ⟨rfl,L,a,b,c',d,w.lay,q.1,rfl,nl,st.lay.s,?_⟩
    rw [du]
    show Ends _ none _ _ _
    unfold Ends
    dsimp only
    obtain ⟨m1,m2,m3,m4,m5⟩:=st.far M (.inl rfl)
    obtain ⟨e1,e2,e3,e4,e5⟩:=st.far e (.inr (.inl rfl))
    have at_e:(S6.set b (.dic (a0g fL (without w.lay.lines q.1)))) e=some (.dic (a0g fL w.lines)):=by rw [zaa e3];exact st.mw.e
    lia
    refine a1I (by rw [zaa m3];exact st.mw.M) rfl a1e ?_
    lia
    refine ⟨b8T at_e,?_⟩
    lia
    refine a4t (d:=.str q.1) (atI_nat (j:=1) rfl) ?_
    lia
    refine ⟨a0g fL w.lines,.inr q.1,fL q.2,at_e,rfl,by rw [a0s,a0e ok.lu hq];rfl,?_⟩
    rw [a4w]
    have st2:=st.line q.1
    generalize (S6.set b (.dic (a0g fL (without w.lay.lines q.1)))).set e (.dic (a0g fL (without w.lines q.1)))=S7 at st2 ⊢
    have bn:∀ z∈barred,Nm z:=fun z hz=>by
     obtain ⟨q2,hq2,rfl⟩:=zan.mp (br.1.1 z hz)
     exact (ok.ln q2 (zay.mp hq2).1).1
    lia
    refine ⟨_,rfl,?_⟩
    refine a2e id (fun x=>match x with | .str z=>decide (z≠q.1) | _=>false) (by rw [zag,zai];have:=br.1.2.2.1;omega) (fun _ _ _=>rfl) (fun pp i2 acc d0 K1 KN hd hp hk hn=>?_) ?_
    ·rw [zbh,zam] at hd
     obtain ⟨z2,hz2,rfl⟩:=hd
     refine a1O (b2J ?_)
     lia
     refine a4t (d:=.str q.1) (atI_nat (j:=1) rfl) ?_
     lia
     by_cases h:z2=q.1
     ·rw [if_neg (by rw [zbg h];decide)]
      exact hn (zbf fun z=>z h)
     ·rw [if_pos (by rw [zbf h];rfl)]
      lia
      exact hk (zbg h)
    have ef:(((barred.map D.str).filter (fun x=>match x with | .str z=>decide (z≠q.1) | _=>false)).map id)=(barred.filter fun z=>decide (z≠q.1)).map D.str:=by
     rw [List.map_id,List.filter_map]
     rfl
    rw [ef]
    lia
    refine ⟨b0q w q.1,barred.filter fun z=>decide (z≠q.1),_,_,_,_,_,st2,⟨⟨fun z hz=>?_,br.1.2.1.filter _,Nat.le_trans (zbb _ _) br.1.2.2.1,br.1.2.2.2⟩,br.2⟩,rfl⟩
    obtain ⟨h1,h2⟩:=zay.mp hz
    obtain ⟨q2,hq2,rfl⟩:=zan.mp (br.1.1 z h1)
    obtain ⟨h3,h4⟩:=zay.mp hq2
    exact zan.mpr ⟨q2,zay.mpr ⟨zay.mpr ⟨h3,h2⟩,h4⟩,rfl⟩
 ·rintro δ' S' ⟨w,barred,y6,x13,x14,x15,x16,st,br,rfl⟩
  lia
  exact hK _
 ) only [↓Qt.put_off]
open L2H (RoomH)
section
theorem a0Y {P:TR→Prop}:∀ T:TR,(none:Option TR)=some T→P T:=fun _ h=>nomatch h
theorem a0Z {P:TR→Prop} {T0:TR} (h0:P T0):∀ T:TR,some T0=some T→P T:=fun _ h=>by cases h;exact h0
variable {P:Program} {w:World} {K:zbj} {h:Heap} {mg:Str→Option Value} {base:Heap}
theorem a0X (X:K.In h) (G:h.Ns mainGlobals mg) (c:SaysX fa fn fx K):b9N (tb K) w K mg where
 cl:=fun x hx=>by
  have hx:x∈b6h:=hx
  simp only [b6h,zau,zba,or_false] at hx
  rcases hx with rfl | rfl | rfl | rfl | rfl | rfl | rfl | rfl
  ·exact He.glo_ok X G (c.d.fact 64 (f:=.glo "MainsError") rfl)
  ·exact He.glo_ok X G (c.d.fact 65 (f:=.glo "Wrong") rfl)
  ·exact He.glo_ok X G (c.d.fact 66 (f:=.glo "There") rfl)
  ·exact He.glo_ok X G (c.d.fact 67 (f:=.glo "Lacks") rfl)
  ·exact He.glo_ok X G (c.d.fact 68 (f:=.glo "TooMany") rfl)
  ·exact He.glo_ok X G (c.d.fact 69 (f:=.glo "Held") rfl)
  ·exact He.glo_ok X G (c.d.fact 70 (f:=.glo "NoPart") rfl)
  ·exact He.glo_ok X G (c.d.fact 71 (f:=.glo "Layout") rfl)
 gv:=fun j x hx=>by
  have hx:c1m[j]?=some x:=hx
  match j,hx with
  | 0,hx=>cases hx;obtain ⟨t,e⟩:=He.str_ok X G (c.d.fact 94 rfl);exact ⟨.str "abcdefghijklmnopqrstuvwxyz",_,e,⟨t,rfl⟩,fun S H=>by show Rep _ S H (.str "abcdefghijklmnopqrstuvwxyz") _;simp only [Rep]⟩
  | 1,hx=>cases hx;obtain ⟨t,e⟩:=He.int_ok X G (c.d.fact 95 rfl);exact ⟨.int 8,_,e,⟨t,rfl⟩,fun S H=>by show Rep _ S H (.int 8) _;simp only [Rep]⟩
  | 2,hx=>cases hx;obtain ⟨t,e⟩:=He.int_ok X G (c.d.fact 96 rfl);exact ⟨.int 99,_,e,⟨t,rfl⟩,fun S H=>by show Rep _ S H (.int 99) _;simp only [Rep]⟩
  | 3,hx=>cases hx;obtain ⟨t,e⟩:=He.int_ok X G (c.d.fact 97 rfl);exact ⟨.int 60,_,e,⟨t,rfl⟩,fun S H=>by show Rep _ S H (.int 60) _;simp only [Rep]⟩
  | 4,hx=>cases hx;obtain ⟨t,e⟩:=He.int_ok X G (c.d.fact 98 rfl);exact ⟨.int 24,_,e,⟨t,rfl⟩,fun S H=>by show Rep _ S H (.int 24) _;simp only [Rep]⟩
  | 5,hx=>cases hx;obtain ⟨t,e⟩:=He.int_ok X G (c.d.fact 99 rfl);exact ⟨.int 24,_,e,⟨t,rfl⟩,fun S H=>by show Rep _ S H (.int 24) _;simp only [Rep]⟩
  | 6,hx=>cases hx;obtain ⟨t,e⟩:=He.int_ok X G (c.d.fact 100 rfl);exact ⟨.int 40,_,e,⟨t,rfl⟩,fun S H=>by show Rep _ S H (.int 40) _;simp only [Rep]⟩
  | n + 7,hx=>cases hx
 kd:=fun j x kvs hx hk=>by
  have hk:(none:Option (List (Key × D)))=some kvs:=hk
  cases hk
 bt:=fun x hx=>by
  simp only [a5k,zau,zba,or_false] at hx
  rcases hx with rfl | rfl | rfl | rfl | rfl | rfl | rfl | rfl | rfl | rfl | rfl | rfl | rfl | rfl | rfl | rfl | rfl | rfl | rfl | rfl | rfl | rfl
  ·exact He.free_ok X G (c.d.fact 72 (f:=.free "len") rfl)
  ·exact He.free_ok X G (c.d.fact 73 (f:=.free "abs") rfl)
  ·exact He.free_ok X G (c.d.fact 74 (f:=.free "max") rfl)
  ·exact He.free_ok X G (c.d.fact 75 (f:=.free "min") rfl)
  ·exact He.free_ok X G (c.d.fact 76 (f:=.free "range") rfl)
  ·exact He.free_ok X G (c.d.fact 77 (f:=.free "isinstance") rfl)
  ·exact He.free_ok X G (c.d.fact 78 (f:=.free "repr") rfl)
  ·exact He.free_ok X G (c.d.fact 79 (f:=.free "list") rfl)
  ·exact He.free_ok X G (c.d.fact 80 (f:=.free "tuple") rfl)
  ·exact He.free_ok X G (c.d.fact 81 (f:=.free "dict") rfl)
  ·exact He.free_ok X G (c.d.fact 82 (f:=.free "sorted") rfl)
  ·exact He.free_ok X G (c.d.fact 83 (f:=.free "sum") rfl)
  ·exact He.free_ok X G (c.d.fact 84 (f:=.free "enumerate") rfl)
  ·exact He.free_ok X G (c.d.fact 85 (f:=.free "zip") rfl)
  ·exact He.free_ok X G (c.d.fact 86 (f:=.free "reversed") rfl)
  ·exact He.free_ok X G (c.d.fact 87 (f:=.free "str") rfl)
  ·exact He.free_ok X G (c.d.fact 88 (f:=.free "int") rfl)
  ·exact He.free_ok X G (c.d.fact 89 (f:=.free "bool") rfl)
  ·exact He.free_ok X G (c.d.fact 90 (f:=.free "set") rfl)
  ·exact He.free_ok X G (c.d.fact 91 (f:=.free "ValueError") rfl)
  ·exact He.free_ok X G (c.d.fact 92 (f:=.free "any") rfl)
  ·exact He.free_ok X G (c.d.fact 93 (f:=.free "all") rfl)
theorem xok (X:K.In h) (G:h.Ns mainGlobals mg) (c:SaysX fa fn fx K):XOk (tb K) P w K mg base:=by
 intro j x kd h1 h2
 have h1:([none,some (.fld "at"),some (.fld "name"),some (.fld "name"),some (.fld "most"),some (.fld "hands"),some (.fld "way"),none]:List (Option XKd))[j]?.join=some kd:=h1
 have h2:b6h[j]?=some x:=h2
 match j,h1,h2 with
 | 0,h1,_=>cases h1
 | 1,h1,h2 =>
  cases h1;cases h2
  obtain ⟨fd,F⟩:=c.d.def_ 62 rfl
  have z:=a5o (c.fact 1 (f:=.ini "Wrong") rfl)
  exact .fld (a1U (c.fact 0 (f:=.oex "Wrong") rfl)) z.1 z.2 (a2p (k:=0) (N:=["self", "at"]) (B:=He.ga K "MainsError") (z := "MainsError") F ⟨rfl,rfl,rfl,by decide +kernel,rfl,by decide +kernel,by decide +kernel⟩ (by decide +kernel) (He.glo_ok X G (c.d.fact 64 (f:=.glo "MainsError") rfl)) (a5j (c.fact 18 (f:=.bas "MainsError") rfl)) (a1U (c.fact 0 (f:=.oex "Wrong") rfl)) (a3c (c.fact 2 (f:=.nov "Wrong" "at") rfl))) (FunD.bindsN (ps:=["self", "at"]) F fun _ _ _ _ _ _ us hl=>match us,hl with | [_,_],_=>rfl) (by omega)
 | 2,h1,h2 =>
  cases h1;cases h2
  obtain ⟨fd,F⟩:=c.d.def_ 63 rfl
  have z:=a5o (c.fact 4 (f:=.ini "There") rfl)
  exact .fld (a1U (c.fact 3 (f:=.oex "There") rfl)) z.1 z.2 (a2p (k:=0) (N:=["self", "name"]) (B:=He.ga K "MainsError") (z := "MainsError") F ⟨rfl,rfl,rfl,by decide +kernel,rfl,by decide +kernel,by decide +kernel⟩ (by decide +kernel) (He.glo_ok X G (c.d.fact 64 (f:=.glo "MainsError") rfl)) (a5j (c.fact 18 (f:=.bas "MainsError") rfl)) (a1U (c.fact 3 (f:=.oex "There") rfl)) (a3c (c.fact 5 (f:=.nov "There" "name") rfl))) (FunD.bindsN (ps:=["self", "name"]) F fun _ _ _ _ _ _ us hl=>match us,hl with | [_,_],_=>rfl) (by omega)
 | 3,h1,h2 =>
  cases h1;cases h2
  obtain ⟨fd,F⟩:=c.d.def_ 64 rfl
  have z:=a5o (c.fact 7 (f:=.ini "Lacks") rfl)
  exact .fld (a1U (c.fact 6 (f:=.oex "Lacks") rfl)) z.1 z.2 (a2p (k:=0) (N:=["self", "name"]) (B:=He.ga K "MainsError") (z := "MainsError") F ⟨rfl,rfl,rfl,by decide +kernel,rfl,by decide +kernel,by decide +kernel⟩ (by decide +kernel) (He.glo_ok X G (c.d.fact 64 (f:=.glo "MainsError") rfl)) (a5j (c.fact 18 (f:=.bas "MainsError") rfl)) (a1U (c.fact 6 (f:=.oex "Lacks") rfl)) (a3c (c.fact 8 (f:=.nov "Lacks" "name") rfl))) (FunD.bindsN (ps:=["self", "name"]) F fun _ _ _ _ _ _ us hl=>match us,hl with | [_,_],_=>rfl) (by omega)
 | 4,h1,h2 =>
  cases h1;cases h2
  obtain ⟨fd,F⟩:=c.d.def_ 65 rfl
  have z:=a5o (c.fact 10 (f:=.ini "TooMany") rfl)
  exact .fld (a1U (c.fact 9 (f:=.oex "TooMany") rfl)) z.1 z.2 (a2p (k:=0) (N:=["self", "most"]) (B:=He.ga K "MainsError") (z := "MainsError") F ⟨rfl,rfl,rfl,by decide +kernel,rfl,by decide +kernel,by decide +kernel⟩ (by decide +kernel) (He.glo_ok X G (c.d.fact 64 (f:=.glo "MainsError") rfl)) (a5j (c.fact 18 (f:=.bas "MainsError") rfl)) (a1U (c.fact 9 (f:=.oex "TooMany") rfl)) (a3c (c.fact 11 (f:=.nov "TooMany" "most") rfl))) (FunD.bindsN (ps:=["self", "most"]) F fun _ _ _ _ _ _ us hl=>match us,hl with | [_,_],_=>rfl) (by omega)
 | 5,h1,h2 =>
  cases h1;cases h2
  obtain ⟨fd,F⟩:=c.d.def_ 66 rfl
  have z:=a5o (c.fact 13 (f:=.ini "Held") rfl)
  exact .fld (a1U (c.fact 12 (f:=.oex "Held") rfl)) z.1 z.2 (a2p (k:=0) (N:=["self", "hands"]) (B:=He.ga K "MainsError") (z := "MainsError") F ⟨rfl,rfl,rfl,by decide +kernel,rfl,by decide +kernel,by decide +kernel⟩ (by decide +kernel) (He.glo_ok X G (c.d.fact 64 (f:=.glo "MainsError") rfl)) (a5j (c.fact 18 (f:=.bas "MainsError") rfl)) (a1U (c.fact 12 (f:=.oex "Held") rfl)) (a3c (c.fact 14 (f:=.nov "Held" "hands") rfl))) (FunD.bindsN (ps:=["self", "hands"]) F fun _ _ _ _ _ _ us hl=>match us,hl with | [_,_],_=>rfl) (by omega)
 | 6,h1,h2 =>
  cases h1;cases h2
  obtain ⟨fd,F⟩:=c.d.def_ 67 rfl
  have z:=a5o (c.fact 16 (f:=.ini "NoPart") rfl)
  exact .fld (a1U (c.fact 15 (f:=.oex "NoPart") rfl)) z.1 z.2 (a2p (k:=0) (N:=["self", "way"]) (B:=He.ga K "MainsError") (z := "MainsError") F ⟨rfl,rfl,rfl,by decide +kernel,rfl,by decide +kernel,by decide +kernel⟩ (by decide +kernel) (He.glo_ok X G (c.d.fact 64 (f:=.glo "MainsError") rfl)) (a5j (c.fact 18 (f:=.bas "MainsError") rfl)) (a1U (c.fact 15 (f:=.oex "NoPart") rfl)) (a3c (c.fact 17 (f:=.nov "NoPart" "way") rfl))) (FunD.bindsN (ps:=["self", "way"]) F fun _ _ _ _ _ _ us hl=>match us,hl with | [_,_],_=>rfl) (by omega)
 | 7,h1,_=>cases h1
 | n + 8,h1,_=>cases h1
theorem a4Z:a0n (tb K) P w K mg base 0 0:=a0n.zero
local macro_rules | `(tactic| walk_at "b1")=>`(tactic| exact fun _ _ _ _ _ _ us hl=>match us,hl with | [_],_=>rfl)
local macro_rules | `(tactic| walk_at "b2")=>`(tactic| exact fun _ _ _ _ _ _ us hl=>match us,hl with | [_,_],_=>rfl)
local macro_rules | `(tactic| walk_at "b3")=>`(tactic| exact fun _ _ _ _ _ _ us hl=>match us,hl with | [_,_,_],_=>rfl)
local macro_rules | `(tactic| walk_at "b4")=>`(tactic| exact fun _ _ _ _ _ _ us hl=>match us,hl with | [_,_,_,_],_=>rfl)
local macro_rules | `(tactic| walk_at "b5")=>`(tactic| exact fun _ _ _ _ _ _ us hl=>match us,hl with | [_,_,_,_,_],_=>rfl)
section
variable (P w base)
variable (X:K.In h) (G:h.Ns mainGlobals mg) (c:SaysX fa fn fx K)
include X G c
theorem all1:a0n (tb K) P w K mg base 1 1:=by
 have A:a0n (tb K) P w K mg base 0 0:=a4Z
 have A2:=a4Z (P:=P) (w:=w) (K:=K) (mg:=mg) (base:=base)
 obtain ⟨fd,F⟩:=c.d.def_ 0 rfl
 exact A.step (d:=0) (by omega) (x:=.fn "_law_bag") rfl ⟨He.glo_ok X G (c.d.fact 0 (f:=.glo "_law_bag") rfl),F.kp⟩ (FunD.bindsN (ps:=["_law_script"]) F (by walk_at "b1")) (a0Z (a0f (i:=0) A2 (a0X X G c) (xok X G c) F sc0 ck0 (me0 c))) (a0Y)
theorem all2:a0n (tb K) P w K mg base 2 1:=by
 have A:=all1 P w base X G c
 have A2:=a4Z (P:=P) (w:=w) (K:=K) (mg:=mg) (base:=base)
 obtain ⟨fd,F⟩:=c.d.def_ 1 rfl
 exact A.step (d:=0) (by omega) (x:=.fn "_law_take") rfl ⟨He.glo_ok X G (c.d.fact 1 (f:=.glo "_law_take") rfl),F.kp⟩ (FunD.bindsN (ps:=["_law_bag_here", "_law_many"]) F (by walk_at "b2")) (a0Z (a0f (i:=1) A2 (a0X X G c) (xok X G c) F sc1 ck1 (me1 c))) (a0Y)
theorem c4k:a0n (tb K) P w K mg base 3 1:=by
 have A:=all2 P w base X G c
 have A2:=a4Z (P:=P) (w:=w) (K:=K) (mg:=mg) (base:=base)
 obtain ⟨fd,F⟩:=c.d.def_ 2 rfl
 exact A.step (d:=0) (by omega) (x:=.mt "Layout" "__init__") rfl ⟨a0c c,He.meth_ok (c.d.fact 2 (f:=.meth "Layout" "__init__") rfl),fun _=>⟨He.glo_ok X G (c.d.fact 71 (f:=.glo "Layout") rfl),He.mkr_ok (c.d.fact 4 (f:=.mkr "Layout") rfl)⟩⟩ (FunD.bindsN (ps:=["self"]) F (by walk_at "b1")) (a0Z (a0f (i:=2) A2 (a0X X G c) (xok X G c) F sc2 ck2 (me2 c))) (a0Y)
theorem c4l:a0n (tb K) P w K mg base 4 1:=by
 have A:=c4k P w base X G c
 have A2:=a4Z (P:=P) (w:=w) (K:=K) (mg:=mg) (base:=base)
 obtain ⟨fd,F⟩:=c.d.def_ 3 rfl
 exact A.step (d:=0) (by omega) (x:=.fn "wrong_unless") rfl ⟨He.glo_ok X G (c.d.fact 5 (f:=.glo "wrong_unless") rfl),F.kp⟩ (FunD.bindsN (ps:=["at", "good"]) F (by walk_at "b2")) (a0Z (a0f (i:=3) A2 (a0X X G c) (xok X G c) F sc3 ck3 (me3 c))) (a0Y)
theorem c4m:a0n (tb K) P w K mg base 5 1:=by
 have A:=c4l P w base X G c
 have A2:=a4Z (P:=P) (w:=w) (K:=K) (mg:=mg) (base:=base)
 obtain ⟨fd,F⟩:=c.d.def_ 4 rfl
 exact A.step (d:=0) (by omega) (x:=.fn "is_name") rfl ⟨He.glo_ok X G (c.d.fact 6 (f:=.glo "is_name") rfl),F.kp⟩ (FunD.bindsN (ps:=["thing"]) F (by walk_at "b1")) (a0Z (a0f (i:=4) A2 (a0X X G c) (xok X G c) F sc4 ck4 (me4 c))) (a0Y)
theorem c4n:a0n (tb K) P w K mg base 6 1:=by
 have A:=c4m P w base X G c
 have A2:=a4Z (P:=P) (w:=w) (K:=K) (mg:=mg) (base:=base)
 obtain ⟨fd,F⟩:=c.d.def_ 5 rfl
 exact A.step (d:=0) (by omega) (x:=.fn "is_whole") rfl ⟨He.glo_ok X G (c.d.fact 7 (f:=.glo "is_whole") rfl),F.kp⟩ (FunD.bindsN (ps:=["thing"]) F (by walk_at "b1")) (a0Z (a0f (i:=5) A2 (a0X X G c) (xok X G c) F sc5 ck5 (me5 c))) (a0Y)
theorem c4o:a0n (tb K) P w K mg base 7 1:=by
 have A:=c4n P w base X G c
 have A2:=a4Z (P:=P) (w:=w) (K:=K) (mg:=mg) (base:=base)
 obtain ⟨fd,F⟩:=c.d.def_ 6 rfl
 exact A.step (d:=0) (by omega) (x:=.mt "Layout" "need_new") rfl ⟨a0c c,He.meth_ok (c.d.fact 8 (f:=.meth "Layout" "need_new") rfl),fun h=>absurd h (by decide)⟩ (FunD.bindsN (ps:=["self", "name"]) F (by walk_at "b2")) (a0Z (a0f (i:=6) A2 (a0X X G c) (xok X G c) F sc6 ck6 (me6 c))) (a0Y)
theorem c4p:a0n (tb K) P w K mg base 8 1:=by
 have A:=c4o P w base X G c
 have A2:=a4Z (P:=P) (w:=w) (K:=K) (mg:=mg) (base:=base)
 obtain ⟨fd,F⟩:=c.d.def_ 7 rfl
 exact A.step (d:=0) (by omega) (x:=.fn "lacks_unless") rfl ⟨He.glo_ok X G (c.d.fact 9 (f:=.glo "lacks_unless") rfl),F.kp⟩ (FunD.bindsN (ps:=["name", "some"]) F (by walk_at "b2")) (a0Z (a0f (i:=7) A2 (a0X X G c) (xok X G c) F sc7 ck7 (me7 c))) (a0Y)
theorem c4q:a0n (tb K) P w K mg base 9 1:=by
 have A:=c4p P w base X G c
 have A2:=a4Z (P:=P) (w:=w) (K:=K) (mg:=mg) (base:=base)
 obtain ⟨fd,F⟩:=c.d.def_ 8 rfl
 exact A.step (d:=0) (by omega) (x:=.fn "_law_bare") rfl ⟨He.glo_ok X G (c.d.fact 10 (f:=.glo "_law_bare") rfl),F.kp⟩ (FunD.bindsN (ps:=["_law_m", "_law_barred_here", "_law_rooms"]) F (by walk_at "b3")) (a0Z (a0f (i:=8) A2 (a0X X G c) (xok X G c) F sc8 ck8 (me8 c))) (a0Y)
theorem b9R:a0n (tb K) P w K mg base 10 1:=by
 have A:=c4q P w base X G c
 have A2:=a4Z (P:=P) (w:=w) (K:=K) (mg:=mg) (base:=base)
 obtain ⟨fd,F⟩:=c.d.def_ 9 rfl
 exact A.step (d:=0) (by omega) (x:=.fn "must") rfl ⟨He.glo_ok X G (c.d.fact 11 (f:=.glo "must") rfl),F.kp⟩ (FunD.bindsN (ps:=["at", "good"]) F (by walk_at "b2")) (a0Z (a0f (i:=9) A2 (a0X X G c) (xok X G c) F sc9 ck9 (me9 c))) (a0Y)
theorem b9S:a0n (tb K) P w K mg base 11 1:=by
 have A:=b9R P w base X G c
 have A2:=a4Z (P:=P) (w:=w) (K:=K) (mg:=mg) (base:=base)
 obtain ⟨fd,F⟩:=c.d.def_ 10 rfl
 exact A.step (d:=0) (by omega) (x:=.mt "Layout" "lines") rfl ⟨a0c c,He.meth_ok (c.d.fact 12 (f:=.meth "Layout" "lines") rfl),fun h=>absurd h (by decide)⟩ (FunD.bindsN (ps:=["self"]) F (by walk_at "b1")) (a0Z (a0f (i:=10) A2 (a0X X G c) (xok X G c) F c6T c4s (c5E c))) (a0Y)
theorem b9T:a0n (tb K) P w K mg base 12 1:=by
 have A:=b9S P w base X G c
 have A2:=a4Z (P:=P) (w:=w) (K:=K) (mg:=mg) (base:=base)
 obtain ⟨fd,F⟩:=c.d.def_ 11 rfl
 exact A.step (d:=0) (by omega) (x:=.mt "Layout" "rooms") rfl ⟨a0c c,He.meth_ok (c.d.fact 13 (f:=.meth "Layout" "rooms") rfl),fun h=>absurd h (by decide)⟩ (FunD.bindsN (ps:=["self"]) F (by walk_at "b1")) (a0Z (a0f (i:=11) A2 (a0X X G c) (xok X G c) F c6U c4t (c5F c))) (a0Y)
theorem b9U:a0n (tb K) P w K mg base 13 1:=by
 have A:=b9T P w base X G c
 have A2:=a4Z (P:=P) (w:=w) (K:=K) (mg:=mg) (base:=base)
 obtain ⟨fd,F⟩:=c.d.def_ 12 rfl
 exact A.step (d:=0) (by omega) (x:=.fn "need") rfl ⟨He.glo_ok X G (c.d.fact 14 (f:=.glo "need") rfl),F.kp⟩ (FunD.bindsN (ps:=["at", "good"]) F (by walk_at "b2")) (a0Z (a0f (i:=12) A2 (a0X X G c) (xok X G c) F c6V c4u (c5G c))) (a0Y)
theorem b9V:a0n (tb K) P w K mg base 14 1:=by
 have A:=b9U P w base X G c
 have A2:=a4Z (P:=P) (w:=w) (K:=K) (mg:=mg) (base:=base)
 obtain ⟨fd,F⟩:=c.d.def_ 13 rfl
 exact A.step (d:=0) (by omega) (x:=.mt "Layout" "sources") rfl ⟨a0c c,He.meth_ok (c.d.fact 15 (f:=.meth "Layout" "sources") rfl),fun h=>absurd h (by decide)⟩ (FunD.bindsN (ps:=["self"]) F (by walk_at "b1")) (a0Z (a0f (i:=13) A2 (a0X X G c) (xok X G c) F c6W c4v (c5H c))) (a0Y)
theorem b9W:a0n (tb K) P w K mg base 15 1:=by
 have A:=b9V P w base X G c
 have A2:=a4Z (P:=P) (w:=w) (K:=K) (mg:=mg) (base:=base)
 obtain ⟨fd,F⟩:=c.d.def_ 14 rfl
 exact A.step (d:=0) (by omega) (x:=.fn "steps_back") rfl ⟨He.glo_ok X G (c.d.fact 16 (f:=.glo "steps_back") rfl),F.kp⟩ (FunD.bindsN (ps:=["came", "room"]) F (by walk_at "b2")) (a0Z (a0f (i:=14) A2 (a0X X G c) (xok X G c) F c6X c4w (c5I c))) (a0Y)
theorem b9X:a0n (tb K) P w K mg base 16 1:=by
 have A:=b9W P w base X G c
 have A2:=a4Z (P:=P) (w:=w) (K:=K) (mg:=mg) (base:=base)
 obtain ⟨fd,F⟩:=c.d.def_ 15 rfl
 exact A.step (d:=0) (by omega) (x:=.fn "arcs_left") rfl ⟨He.glo_ok X G (c.d.fact 17 (f:=.glo "arcs_left") rfl),F.kp⟩ (FunD.bindsN (ps:=["limits", "used"]) F (by walk_at "b2")) (a0Z (a0f (i:=15) A2 (a0X X G c) (xok X G c) F c6Y c4x (c5J c))) (a0Y)
theorem b9Y:a0n (tb K) P w K mg base 17 1:=by
 have A:=b9X P w base X G c
 have A2:=a4Z (P:=P) (w:=w) (K:=K) (mg:=mg) (base:=base)
 obtain ⟨fd,F⟩:=c.d.def_ 16 rfl
 exact A.step (d:=0) (by omega) (x:=.fn "add_along") rfl ⟨He.glo_ok X G (c.d.fact 18 (f:=.glo "add_along") rfl),F.kp⟩ (FunD.bindsN (ps:=["limits", "used", "steps", "amount"]) F (by walk_at "b4")) (a0Z (a0f (i:=16) A2 (a0X X G c) (xok X G c) F c6Z c4y (c5K c))) (a0Y)
theorem b9Z:a0n (tb K) P w K mg base 18 1:=by
 have A:=b9Y P w base X G c
 have A2:=a4Z (P:=P) (w:=w) (K:=K) (mg:=mg) (base:=base)
 obtain ⟨fd,F⟩:=c.d.def_ 17 rfl
 exact A.step (d:=0) (by omega) (x:=.fn "left_along") rfl ⟨He.glo_ok X G (c.d.fact 19 (f:=.glo "left_along") rfl),F.kp⟩ (FunD.bindsN (ps:=["limit", "used", "there"]) F (by walk_at "b3")) (a0Z (a0f (i:=17) A2 (a0X X G c) (xok X G c) F c60 c4z (c5L c))) (a0Y)
theorem b90:a0n (tb K) P w K mg base 19 1:=by
 have A:=b9Z P w base X G c
 have A2:=a4Z (P:=P) (w:=w) (K:=K) (mg:=mg) (base:=base)
 obtain ⟨fd,F⟩:=c.d.def_ 18 rfl
 exact A.step (d:=0) (by omega) (x:=.fn "_law_class") rfl ⟨He.glo_ok X G (c.d.fact 20 (f:=.glo "_law_class") rfl),F.kp⟩ (FunD.bindsN (ps:=["_law_e"]) F (by walk_at "b1")) (a0Y) (a0Z (a0f (i:=18) A2 (a0X X G c) (xok X G c) F c61 c4A (c1G c)))
theorem b91:a0n (tb K) P w K mg base 20 1:=by
 have A:=b90 P w base X G c
 have A2:=a4Z (P:=P) (w:=w) (K:=K) (mg:=mg) (base:=base)
 obtain ⟨fd,F⟩:=c.d.def_ 19 rfl
 exact A.step (d:=0) (by omega) (x:=.fn "arcs_going") rfl ⟨He.glo_ok X G (c.d.fact 21 (f:=.glo "arcs_going") rfl),F.kp⟩ (FunD.bindsN (ps:=["limits", "used"]) F (by walk_at "b2")) (a0Z (a0f (i:=19) A2 (a0X X G c) (xok X G c) F c62 c4B (c5M c))) (a0Y)
theorem a1J:a0n (tb K) P w K mg base 21 1:=by
 have A:=b91 P w base X G c
 have A2:=a4Z (P:=P) (w:=w) (K:=K) (mg:=mg) (base:=base)
 obtain ⟨fd,F⟩:=c.d.def_ 20 rfl
 exact A.step (d:=0) (by omega) (x:=.fn "_law_alike") rfl ⟨He.glo_ok X G (c.d.fact 22 (f:=.glo "_law_alike") rfl),F.kp⟩ (FunD.bindsN (ps:=["_law_found", "_law_due"]) F (by walk_at "b2")) (a0Z (a0f (i:=20) A2 (a0X X G c) (xok X G c) F c63 c4C (c5N c))) (a0Y)
theorem b92:a0n (tb K) P w K mg base 22 2:=by
 have A:=a1J P w base X G c
 have A2:=a1J P w base X G c
 obtain ⟨fd,F⟩:=c.d.def_ 21 rfl
 exact A.step (d:=1) (by omega) (x:=.fn "_law_size") rfl ⟨He.glo_ok X G (c.d.fact 23 (f:=.glo "_law_size") rfl),F.kp⟩ (FunD.bindsN (ps:=["_law_bag_here"]) F (by walk_at "b1")) (a0Z (a0f (i:=21) A2 (a0X X G c) (xok X G c) F c64 c4D (c5O c))) (a0Y)
theorem b93:a0n (tb K) P w K mg base 23 2:=by
 have A:=b92 P w base X G c
 have A2:=a1J P w base X G c
 obtain ⟨fd,F⟩:=c.d.def_ 22 rfl
 exact A.step (d:=1) (by omega) (x:=.fn "_law_name") rfl ⟨He.glo_ok X G (c.d.fact 24 (f:=.glo "_law_name") rfl),F.kp⟩ (FunD.bindsN (ps:=["_law_bag_here"]) F (by walk_at "b1")) (a0Z (a0f (i:=22) A2 (a0X X G c) (xok X G c) F c65 c4E (c5P c))) (a0Y)
theorem b94:a0n (tb K) P w K mg base 24 2:=by
 have A:=b93 P w base X G c
 have A2:=a1J P w base X G c
 obtain ⟨fd,F⟩:=c.d.def_ 23 rfl
 exact A.step (d:=1) (by omega) (x:=.fn "_law_some") rfl ⟨He.glo_ok X G (c.d.fact 25 (f:=.glo "_law_some") rfl),F.kp⟩ (FunD.bindsN (ps:=["_law_bag_here", "_law_names_here", "_law_many"]) F (by walk_at "b3")) (a0Z (a0f (i:=23) A2 (a0X X G c) (xok X G c) F c66 c4F (c5Q c))) (a0Y)
theorem b95:a0n (tb K) P w K mg base 25 2:=by
 have A:=b94 P w base X G c
 have A2:=a1J P w base X G c
 obtain ⟨fd,F⟩:=c.d.def_ 24 rfl
 exact A.step (d:=1) (by omega) (x:=.fn "_law_ends") rfl ⟨He.glo_ok X G (c.d.fact 26 (f:=.glo "_law_ends") rfl),F.kp⟩ (FunD.bindsN (ps:=["_law_bag_here", "_law_many", "_law_shape", "_law_k"]) F (by walk_at "b4")) (a0Z (a0f (i:=24) A2 (a0X X G c) (xok X G c) F c67 c4G (c5R c))) (a0Y)
theorem b96:a0n (tb K) P w K mg base 26 2:=by
 have A:=b95 P w base X G c
 have A2:=a1J P w base X G c
 obtain ⟨fd,F⟩:=c.d.def_ 25 rfl
 exact A.step (d:=1) (by omega) (x:=.fn "_law_cost") rfl ⟨He.glo_ok X G (c.d.fact 27 (f:=.glo "_law_cost") rfl),F.kp⟩ (FunD.bindsN (ps:=["_law_bag_here", "_law_costs"]) F (by walk_at "b2")) (a0Z (a0f (i:=25) A2 (a0X X G c) (xok X G c) F c68 c4H (c5S c))) (a0Y)
theorem b97:a0n (tb K) P w K mg base 27 2:=by
 have A:=b96 P w base X G c
 have A2:=a1J P w base X G c
 obtain ⟨fd,F⟩:=c.d.def_ 26 rfl
 exact A.step (d:=1) (by omega) (x:=.mt "Layout" "add_room") rfl ⟨a0c c,He.meth_ok (c.d.fact 28 (f:=.meth "Layout" "add_room") rfl),fun h=>absurd h (by decide)⟩ (FunD.bindsN (ps:=["self", "room"]) F (by walk_at "b2")) (a0Z (a0f (i:=26) A2 (a0X X G c) (xok X G c) F c69 c4I (c5T c))) (a0Y)
theorem b98:a0n (tb K) P w K mg base 28 2:=by
 have A:=b97 P w base X G c
 have A2:=a1J P w base X G c
 obtain ⟨fd,F⟩:=c.d.def_ 27 rfl
 exact A.step (d:=1) (by omega) (x:=.fn "is_cost") rfl ⟨He.glo_ok X G (c.d.fact 29 (f:=.glo "is_cost") rfl),F.kp⟩ (FunD.bindsN (ps:=["thing"]) F (by walk_at "b1")) (a0Z (a0f (i:=27) A2 (a0X X G c) (xok X G c) F c7a c4J (c5U c))) (a0Y)
theorem b99:a0n (tb K) P w K mg base 29 2:=by
 have A:=b98 P w base X G c
 have A2:=a1J P w base X G c
 obtain ⟨fd,F⟩:=c.d.def_ 28 rfl
 exact A.step (d:=1) (by omega) (x:=.mt "Layout" "add_source") rfl ⟨a0c c,He.meth_ok (c.d.fact 30 (f:=.meth "Layout" "add_source") rfl),fun h=>absurd h (by decide)⟩ (FunD.bindsN (ps:=["self", "room"]) F (by walk_at "b2")) (a0Z (a0f (i:=28) A2 (a0X X G c) (xok X G c) F c7b c4K (c5V c))) (a0Y)
theorem c0a:a0n (tb K) P w K mg base 30 2:=by
 have A:=b99 P w base X G c
 have A2:=a1J P w base X G c
 obtain ⟨fd,F⟩:=c.d.def_ 29 rfl
 exact A.step (d:=1) (by omega) (x:=.fn "are_names") rfl ⟨He.glo_ok X G (c.d.fact 31 (f:=.glo "are_names") rfl),F.kp⟩ (FunD.bindsN (ps:=["thing"]) F (by walk_at "b1")) (a0Z (a0f (i:=29) A2 (a0X X G c) (xok X G c) F c7c c4L (c5W c))) (a0Y)
theorem c0b:a0n (tb K) P w K mg base 31 2:=by
 have A:=c0a P w base X G c
 have A2:=a1J P w base X G c
 obtain ⟨fd,F⟩:=c.d.def_ 30 rfl
 exact A.step (d:=1) (by omega) (x:=.mt "Layout" "line") rfl ⟨a0c c,He.meth_ok (c.d.fact 32 (f:=.meth "Layout" "line") rfl),fun h=>absurd h (by decide)⟩ (FunD.bindsN (ps:=["self", "line"]) F (by walk_at "b2")) (a0Z (a0f (i:=30) A2 (a0X X G c) (xok X G c) F c7d c4M (c5X c))) (a0Y)
theorem c0c:a0n (tb K) P w K mg base 32 2:=by
 have A:=c0b P w base X G c
 have A2:=a1J P w base X G c
 obtain ⟨fd,F⟩:=c.d.def_ 31 rfl
 exact A.step (d:=1) (by omega) (x:=.fn "must_be_rooms") rfl ⟨He.glo_ok X G (c.d.fact 33 (f:=.glo "must_be_rooms") rfl),F.kp⟩ (FunD.bindsN (ps:=["layout", "rooms"]) F (by walk_at "b2")) (a0Z (a0f (i:=31) A2 (a0X X G c) (xok X G c) F c7e c4N (c5Y c))) (a0Y)
theorem c0d:a0n (tb K) P w K mg base 33 2:=by
 have A:=c0c P w base X G c
 have A2:=a1J P w base X G c
 obtain ⟨fd,F⟩:=c.d.def_ 32 rfl
 exact A.step (d:=1) (by omega) (x:=.fn "need_rooms") rfl ⟨He.glo_ok X G (c.d.fact 34 (f:=.glo "need_rooms") rfl),F.kp⟩ (FunD.bindsN (ps:=["layout", "names"]) F (by walk_at "b2")) (a0Z (a0f (i:=32) A2 (a0X X G c) (xok X G c) F c7f c4O (c5Z c))) (a0Y)
theorem c0e:a0n (tb K) P w K mg base 34 2:=by
 have A:=c0d P w base X G c
 have A2:=a1J P w base X G c
 obtain ⟨fd,F⟩:=c.d.def_ 33 rfl
 exact A.step (d:=1) (by omega) (x:=.mt "Layout" "lines_at") rfl ⟨a0c c,He.meth_ok (c.d.fact 35 (f:=.meth "Layout" "lines_at") rfl),fun h=>absurd h (by decide)⟩ (FunD.bindsN (ps:=["self", "room"]) F (by walk_at "b2")) (a0Z (a0f (i:=33) A2 (a0X X G c) (xok X G c) F c7g c4P (c50 c))) (a0Y)
theorem c0f:a0n (tb K) P w K mg base 35 2:=by
 have A:=c0e P w base X G c
 have A2:=a1J P w base X G c
 obtain ⟨fd,F⟩:=c.d.def_ 34 rfl
 exact A.step (d:=1) (by omega) (x:=.fn "steps_to") rfl ⟨He.glo_ok X G (c.d.fact 36 (f:=.glo "steps_to") rfl),F.kp⟩ (FunD.bindsN (ps:=["arcs", "sources", "rooms"]) F (by walk_at "b3")) (a0Z (a0f (i:=34) A2 (a0X X G c) (xok X G c) F c7h c4Q (c51 c))) (a0Y)
theorem c0g:a0n (tb K) P w K mg base 36 2:=by
 have A:=c0f P w base X G c
 have A2:=a1J P w base X G c
 obtain ⟨fd,F⟩:=c.d.def_ 35 rfl
 exact A.step (d:=1) (by omega) (x:=.fn "least_left") rfl ⟨He.glo_ok X G (c.d.fact 37 (f:=.glo "least_left") rfl),F.kp⟩ (FunD.bindsN (ps:=["limits", "used", "steps"]) F (by walk_at "b3")) (a0Z (a0f (i:=35) A2 (a0X X G c) (xok X G c) F c7i c4R (c52 c))) (a0Y)
theorem c0h:a0n (tb K) P w K mg base 37 2:=by
 have A:=c0g P w base X G c
 have A2:=a1J P w base X G c
 obtain ⟨fd,F⟩:=c.d.def_ 36 rfl
 exact A.step (d:=1) (by omega) (x:=.fn "rooms_behind") rfl ⟨He.glo_ok X G (c.d.fact 38 (f:=.glo "rooms_behind") rfl),F.kp⟩ (FunD.bindsN (ps:=["limits", "used", "rooms"]) F (by walk_at "b3")) (a0Z (a0f (i:=36) A2 (a0X X G c) (xok X G c) F c7j c4S (c53 c))) (a0Y)
theorem c0i:a0n (tb K) P w K mg base 38 2:=by
 have A:=c0h P w base X G c
 have A2:=a1J P w base X G c
 obtain ⟨fd,F⟩:=c.d.def_ 37 rfl
 exact A.step (d:=1) (by omega) (x:=.mt "Layout" "take_source") rfl ⟨a0c c,He.meth_ok (c.d.fact 39 (f:=.meth "Layout" "take_source") rfl),fun h=>absurd h (by decide)⟩ (FunD.bindsN (ps:=["self", "room"]) F (by walk_at "b2")) (a0Z (a0f (i:=37) A2 (a0X X G c) (xok X G c) F c7k c4T (c54 c))) (a0Y)
theorem a3N:a0n (tb K) P w K mg base 39 2:=by
 have A:=c0i P w base X G c
 have A2:=a1J P w base X G c
 obtain ⟨fd,F⟩:=c.d.def_ 38 rfl
 exact A.step (d:=1) (by omega) (x:=.mt "Layout" "take_line") rfl ⟨a0c c,He.meth_ok (c.d.fact 40 (f:=.meth "Layout" "take_line") rfl),fun h=>absurd h (by decide)⟩ (FunD.bindsN (ps:=["self", "line"]) F (by walk_at "b2")) (a0Z (a0f (i:=38) A2 (a0X X G c) (xok X G c) F c7l c4U (c55 c))) (a0Y)
theorem c0j:a0n (tb K) P w K mg base 40 3:=by
 have A:=a3N P w base X G c
 have A2:=a3N P w base X G c
 obtain ⟨fd,F⟩:=c.d.def_ 39 rfl
 exact A.step (d:=2) (by omega) (x:=.fn "_law_names") rfl ⟨He.glo_ok X G (c.d.fact 41 (f:=.glo "_law_names") rfl),F.kp⟩ (FunD.bindsN (ps:=["_law_bag_here", "_law_many"]) F (by walk_at "b2")) (a0Z (a0f (i:=39) A2 (a0X X G c) (xok X G c) F c7m c4V (c56 c))) (a0Y)
theorem c0k:a0n (tb K) P w K mg base 41 3:=by
 have A:=c0j P w base X G c
 have A2:=a3N P w base X G c
 obtain ⟨fd,F⟩:=c.d.def_ 40 rfl
 exact A.step (d:=2) (by omega) (x:=.mt "Layout" "add_line") rfl ⟨a0c c,He.meth_ok (c.d.fact 42 (f:=.meth "Layout" "add_line") rfl),fun h=>absurd h (by decide)⟩ (FunD.bindsN (ps:=["self", "line", "one", "other", "cost"]) F (by walk_at "b5")) (a0Z (a0f (i:=40) A2 (a0X X G c) (xok X G c) F c7n c4W (c57 c))) (a0Y)
theorem c0l:a0n (tb K) P w K mg base 42 3:=by
 have A:=c0k P w base X G c
 have A2:=a3N P w base X G c
 obtain ⟨fd,F⟩:=c.d.def_ 41 rfl
 exact A.step (d:=2) (by omega) (x:=.fn "_law_barred") rfl ⟨He.glo_ok X G (c.d.fact 43 (f:=.glo "_law_barred") rfl),F.kp⟩ (FunD.bindsN (ps:=["_law_bag_here", "_law_m"]) F (by walk_at "b2")) (a0Z (a0f (i:=41) A2 (a0X X G c) (xok X G c) F c7o c4X (c58 c))) (a0Y)
theorem c0m:a0n (tb K) P w K mg base 43 3:=by
 have A:=c0l P w base X G c
 have A2:=a3N P w base X G c
 obtain ⟨fd,F⟩:=c.d.def_ 42 rfl
 exact A.step (d:=2) (by omega) (x:=.fn "_law_stretch") rfl ⟨He.glo_ok X G (c.d.fact 44 (f:=.glo "_law_stretch") rfl),F.kp⟩ (FunD.bindsN (ps:=["_law_bag_here", "_law_m"]) F (by walk_at "b2")) (a0Z (a0f (i:=42) A2 (a0X X G c) (xok X G c) F c7p c4Y (c59 c))) (a0Y)
theorem c0n:a0n (tb K) P w K mg base 44 3:=by
 have A:=c0m P w base X G c
 have A2:=a3N P w base X G c
 obtain ⟨fd,F⟩:=c.d.def_ 43 rfl
 exact A.step (d:=2) (by omega) (x:=.fn "is_stretch") rfl ⟨He.glo_ok X G (c.d.fact 45 (f:=.glo "is_stretch") rfl),F.kp⟩ (FunD.bindsN (ps:=["thing"]) F (by walk_at "b1")) (a0Z (a0f (i:=43) A2 (a0X X G c) (xok X G c) F c7q c4Z (c6a c))) (a0Y)
theorem c0o:a0n (tb K) P w K mg base 45 3:=by
 have A:=c0n P w base X G c
 have A2:=a3N P w base X G c
 obtain ⟨fd,F⟩:=c.d.def_ 44 rfl
 exact A.step (d:=2) (by omega) (x:=.fn "must_be_switches") rfl ⟨He.glo_ok X G (c.d.fact 46 (f:=.glo "must_be_switches") rfl),F.kp⟩ (FunD.bindsN (ps:=["layout", "names"]) F (by walk_at "b2")) (a0Z (a0f (i:=44) A2 (a0X X G c) (xok X G c) F c7r c40 (c6b c))) (a0Y)
theorem c0p:a0n (tb K) P w K mg base 46 3:=by
 have A:=c0o P w base X G c
 have A2:=a3N P w base X G c
 obtain ⟨fd,F⟩:=c.d.def_ 45 rfl
 exact A.step (d:=2) (by omega) (x:=.fn "limits_of") rfl ⟨He.glo_ok X G (c.d.fact 47 (f:=.glo "limits_of") rfl),F.kp⟩ (FunD.bindsN (ps:=["layout", "barred"]) F (by walk_at "b2")) (a0Z (a0f (i:=45) A2 (a0X X G c) (xok X G c) F c7s c41 (c6c c))) (a0Y)
theorem c0q:a0n (tb K) P w K mg base 47 3:=by
 have A:=c0p P w base X G c
 have A2:=a3N P w base X G c
 obtain ⟨fd,F⟩:=c.d.def_ 46 rfl
 exact A.step (d:=2) (by omega) (x:=.fn "need_switches") rfl ⟨He.glo_ok X G (c.d.fact 48 (f:=.glo "need_switches") rfl),F.kp⟩ (FunD.bindsN (ps:=["layout", "names"]) F (by walk_at "b2")) (a0Z (a0f (i:=46) A2 (a0X X G c) (xok X G c) F c7t c42 (c6d c))) (a0Y)
theorem c0r:a0n (tb K) P w K mg base 48 3:=by
 have A:=c0q P w base X G c
 have A2:=a3N P w base X G c
 obtain ⟨fd,F⟩:=c.d.def_ 47 rfl
 exact A.step (d:=2) (by omega) (x:=.fn "other_end") rfl ⟨He.glo_ok X G (c.d.fact 49 (f:=.glo "other_end") rfl),F.kp⟩ (FunD.bindsN (ps:=["layout", "line", "room"]) F (by walk_at "b3")) (a0Z (a0f (i:=47) A2 (a0X X G c) (xok X G c) F c7u c43 (c6e c))) (a0Y)
theorem c0s:a0n (tb K) P w K mg base 49 3:=by
 have A:=c0r P w base X G c
 have A2:=a3N P w base X G c
 obtain ⟨fd,F⟩:=c.d.def_ 48 rfl
 exact A.step (d:=2) (by omega) (x:=.fn "most_used") rfl ⟨He.glo_ok X G (c.d.fact 50 (f:=.glo "most_used") rfl),F.kp⟩ (FunD.bindsN (ps:=["limits", "sources", "rooms"]) F (by walk_at "b3")) (a0Z (a0f (i:=48) A2 (a0X X G c) (xok X G c) F c7v c44 (c6f c))) (a0Y)
theorem a9x:a0n (tb K) P w K mg base 50 3:=by
 have A:=c0s P w base X G c
 have A2:=a3N P w base X G c
 obtain ⟨fd,F⟩:=c.d.def_ 49 rfl
 exact A.step (d:=2) (by omega) (x:=.fn "border_of") rfl ⟨He.glo_ok X G (c.d.fact 51 (f:=.glo "border_of") rfl),F.kp⟩ (FunD.bindsN (ps:=["layout", "rooms"]) F (by walk_at "b2")) (a0Z (a0f (i:=49) A2 (a0X X G c) (xok X G c) F c7w c45 (c6g c))) (a0Y)
theorem c0t:a0n (tb K) P w K mg base 51 4:=by
 have A:=a9x P w base X G c
 have A2:=a9x P w base X G c
 obtain ⟨fd,F⟩:=c.d.def_ 50 rfl
 exact A.step (d:=3) (by omega) (x:=.fn "_law_works") rfl ⟨He.glo_ok X G (c.d.fact 52 (f:=.glo "_law_works") rfl),F.kp⟩ (FunD.bindsN (ps:=["_law_bag_here", "_law_many", "_law_more"]) F (by walk_at "b3")) (a0Z (a0f (i:=50) A2 (a0X X G c) (xok X G c) F c7x c46 (c6h c))) (a0Y)
theorem c0u:a0n (tb K) P w K mg base 52 4:=by
 have A:=c0t P w base X G c
 have A2:=a9x P w base X G c
 obtain ⟨fd,F⟩:=c.d.def_ 51 rfl
 exact A.step (d:=3) (by omega) (x:=.fn "_law_layout") rfl ⟨He.glo_ok X G (c.d.fact 53 (f:=.glo "_law_layout") rfl),F.kp⟩ (FunD.bindsN (ps:=["_law_m"]) F (by walk_at "b1")) (a0Z (a0f (i:=51) A2 (a0X X G c) (xok X G c) F c7y c47 (c6i c))) (a0Y)
theorem c0v:a0n (tb K) P w K mg base 53 4:=by
 have A:=c0u P w base X G c
 have A2:=a9x P w base X G c
 obtain ⟨fd,F⟩:=c.d.def_ 52 rfl
 exact A.step (d:=3) (by omega) (x:=.fn "distances") rfl ⟨He.glo_ok X G (c.d.fact 54 (f:=.glo "distances") rfl),F.kp⟩ (FunD.bindsN (ps:=["layout", "shut", "rooms"]) F (by walk_at "b3")) (a0Z (a0f (i:=52) A2 (a0X X G c) (xok X G c) F c7z c48 (c6j c))) (a0Y)
theorem b5W:a0n (tb K) P w K mg base 54 4:=by
 have A:=c0v P w base X G c
 have A2:=a9x P w base X G c
 obtain ⟨fd,F⟩:=c.d.def_ 53 rfl
 exact A.step (d:=3) (by omega) (x:=.fn "nearer") rfl ⟨He.glo_ok X G (c.d.fact 55 (f:=.glo "nearer") rfl),F.kp⟩ (FunD.bindsN (ps:=["layout", "shut", "far", "here"]) F (by walk_at "b4")) (a0Z (a0f (i:=53) A2 (a0X X G c) (xok X G c) F c7A c49 (c6k c))) (a0Y)
theorem b5X:a0n (tb K) P w K mg base 55 5:=by
 have A:=b5W P w base X G c
 have A2:=b5W P w base X G c
 obtain ⟨fd,F⟩:=c.d.def_ 54 rfl
 exact A.step (d:=4) (by omega) (x:=.fn "way_to") rfl ⟨He.glo_ok X G (c.d.fact 56 (f:=.glo "way_to") rfl),F.kp⟩ (FunD.bindsN (ps:=["layout", "shut", "rooms"]) F (by walk_at "b3")) (a0Z (a0f (i:=54) A2 (a0X X G c) (xok X G c) F c7B c5a (c6l c))) (a0Y)
theorem b5Y:a0n (tb K) P w K mg base 56 6:=by
 have A:=b5X P w base X G c
 have A2:=b5X P w base X G c
 obtain ⟨fd,F⟩:=c.d.def_ 55 rfl
 exact A.step (d:=5) (by omega) (x:=.fn "must_part") rfl ⟨He.glo_ok X G (c.d.fact 57 (f:=.glo "must_part") rfl),F.kp⟩ (FunD.bindsN (ps:=["layout", "limits", "rooms"]) F (by walk_at "b3")) (a0Z (a0f (i:=55) A2 (a0X X G c) (xok X G c) F c7C c5b (c6m c))) (a0Y)
theorem b3C:a0n (tb K) P w K mg base 57 7:=by
 have A:=b5Y P w base X G c
 have A2:=b5Y P w base X G c
 obtain ⟨fd,F⟩:=c.d.def_ 56 rfl
 exact A.step (d:=6) (by omega) (x:=.fn "limits_asked") rfl ⟨He.glo_ok X G (c.d.fact 58 (f:=.glo "limits_asked") rfl),F.kp⟩ (FunD.bindsN (ps:=["layout", "barred", "rooms"]) F (by walk_at "b3")) (a0Z (a0f (i:=56) A2 (a0X X G c) (xok X G c) F c7D c5c (c6n c))) (a0Y)
theorem c0w:a0n (tb K) P w K mg base 58 8:=by
 have A:=b3C P w base X G c
 have A2:=b3C P w base X G c
 obtain ⟨fd,F⟩:=c.d.def_ 57 rfl
 exact A.step (d:=7) (by omega) (x:=.fn "least_lot") rfl ⟨He.glo_ok X G (c.d.fact 59 (f:=.glo "least_lot") rfl),F.kp⟩ (FunD.bindsN (ps:=["layout", "barred", "rooms"]) F (by walk_at "b3")) (a0Z (a0f (i:=57) A2 (a0X X G c) (xok X G c) F c7E c5d (c6o c))) (a0Y)
theorem b3D:a0n (tb K) P w K mg base 59 8:=by
 have A:=c0w P w base X G c
 have A2:=b3C P w base X G c
 obtain ⟨fd,F⟩:=c.d.def_ 58 rfl
 exact A.step (d:=7) (by omega) (x:=.fn "ways_to") rfl ⟨He.glo_ok X G (c.d.fact 60 (f:=.glo "ways_to") rfl),F.kp⟩ (FunD.bindsN (ps:=["layout", "barred", "rooms"]) F (by walk_at "b3")) (a0Z (a0f (i:=58) A2 (a0X X G c) (xok X G c) F c7F c5e (c6p c))) (a0Y)
theorem c0x:a0n (tb K) P w K mg base 60 9:=by
 have A:=b3D P w base X G c
 have A2:=b3D P w base X G c
 obtain ⟨fd,F⟩:=c.d.def_ 59 rfl
 exact A.step (d:=8) (by omega) (x:=.fn "_law_least_said") rfl ⟨He.glo_ok X G (c.d.fact 61 (f:=.glo "_law_least_said") rfl),F.kp⟩ (FunD.bindsN (ps:=["_law_here", "_law_barred_here", "_law_rooms"]) F (by walk_at "b3")) (a0Z (a0f (i:=59) A2 (a0X X G c) (xok X G c) F c7G c5f (c6q c))) (a0Y)
theorem c0y:a0n (tb K) P w K mg base 61 9:=by
 have A:=c0x P w base X G c
 have A2:=b3D P w base X G c
 obtain ⟨fd,F⟩:=c.d.def_ 60 rfl
 exact A.step (d:=8) (by omega) (x:=.fn "_law_ways_said") rfl ⟨He.glo_ok X G (c.d.fact 62 (f:=.glo "_law_ways_said") rfl),F.kp⟩ (FunD.bindsN (ps:=["_law_here", "_law_barred_here", "_law_rooms"]) F (by walk_at "b3")) (a0Z (a0f (i:=60) A2 (a0X X G c) (xok X G c) F c7H c5g (c6r c))) (a0Y)
end
theorem facts {f:Addr} (X:K.In h) (G:h.Ns mainGlobals mg) (hfa:mg ("law" : Str)=some (.ref f)) (c:SaysX fa fn fx K) :
  ∃ fd:FuncData,(∀ (s:Shared) (v:Value),BindsTo s fd ⟨[v],[]⟩ [("_law_script",v)])∧∀ base:Heap,K.In base→base.Ns mainGlobals mg→FnG P w K mg base false 22 f fd ["_law_script"] (spD ⟨K⟩ (lawT 63)):=by
 obtain ⟨fd,F⟩:=c.d.def_ 61 rfl
 have e:=hfa.symm.trans (He.glo_ok X G (c.d.fact 63 (f:=.glo "law") rfl))
 cases e
 have b:=FunD.bindsA (ps:=["_law_script"]) F fun _ _ _ _ _ _ us hl=>match us,hl with | [_],_=>rfl
 refine ⟨fd,fun s v=>b s [v] rfl,fun base _ _=>?_⟩
 exact a0f (t:=tb K) (i:=61) (d:=9) (show a0n (tb K) P w K mg base ((tb K).lo 61) 9 from c0y P w base X G c) (a0X X G c) (xok X G c) F c7I c5h (c6s c)
end
end Cl
open PySem PySem.W PySem.Calls PyProof.Rows
theorem PySem.Challenge.cw_stillmain_k47_no_part_holds : PySem.Challenge.rw_stillmain_k47_no_part.Holds := by
 exact Cl.whole fun X G hfa c=>Cl.facts X G hfa c
