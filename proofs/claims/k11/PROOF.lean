import PyProof.Rows.All
import Wide.All
import OpenK.AllK
import Wide.FinOn
import KE.KStateDown
import HandS.ForMost
import HandS.Exc
import HandS.ExcOwn
import HandS.Head0
import HandS.Head1
import HandS.Head2
import HandS.HeadEnd
import HandS.HeadHook1
import HandS.HeadHook2
import HandS.HeadHook3
import HandS.Defaults
import HandS.Ends
import HandS.HotCalls
import HandS.Wide
import HandS.Flow
import HandS.Deep
import HandS.TupAny
import HandS.IsInst
import HandS.Text
import HandS.WordsDict
import HandS.Style
import PyProof.ReprRoads
import PyProof.ReprBulk
import KE.KExcStr
import HandS.ExcValue
import KE.KIntText
import HandS.Conv
import HandS.More
import HandS.ListItems
import HandS.ExcInit
import HandS.ExcInitHot
import KE.KDictList
import HandS.SetKeys
import KE.DataFind
import PyProof.ListStr
import HandS.SetTxt0
import HandS.Set
import HandS.SetFor
import HandS.Strs
import KE.DataMinMax
import KE.SortData
import KE.GoesEnum
import HandS.Iter
import KE.GoesZip
import KE.GoesMore
import HandS.Codes
import HandS.Comp
import HandS.ForList
import HandS.ExcIs
import HandS.ExcField
import KE.KIsAll
import HandS.Small
import PyProof.FitsInt
import PyProof.ReprRoom
import Lean
import PySem.Challenge.RW_stillmain_k11_kinds_known
set_option Elab.async false
set_option linter.all false
set_option maxRecDepth 100000
set_option maxHeartbeats 0
def zag:=@List.length_map
def zah:=@decide_eq_true_eq
def zai:=@PySem.sizeLine_eq
def zaj:=@List.mem_singleton
def zak:=@Bool.and_eq_true
def zal:=@List.mem_cons_self
def zam:=@Option.map_eq_some_iff
def zan:=@List.mem_map
def zao:=@List.mem_cons_of_mem
def zap:=@List.mem_append
def zaq:=@List.mem_of_getElem?
def zar:=@List.mem_append_left
def zas:=@List.mem_append_right
def zat:=@List.mem_cons
def zau:=@List.map_append
def zav:=@List.map_cons
def zaw:=@List.length_cons
def zax:=@List.not_mem_nil
def zay:=@List.nodup_cons
def zaz:=@Bool.false_ne_true
def zba:=@decide_eq_true
def zbb:=@List.getElem?_map
def zbc:=@List.getElem?_eq_getElem
abbrev zbd:=PySem.W.Frag
namespace Qt
def Put (p:Prop):Prop:=p
theorem put_in {p:Prop} (h:Put p):p:=h
theorem keep {p:Prop} (h:p):p:=h
theorem put_off {p:Prop} (h:p):Put p=True:=eq_true h
end Qt
noncomputable section
namespace Sv
open PySem PySem.Spec PyProof.Rows L2 PySem.W PySem.Calls
inductive Fx where
 | oex (x:Str) | ini (x:Str) | bas (x:Str) | exf (x:Str) | insf (x:Str) | nov (x f:Str)
 | kit (x y:Str) (b:Bool) | kitT (x:Str) (n:String) (b:Bool)
 | exfs (xs:List Str) | sib (xs:List Str) | veT (xs:List Str) (n:String) | exA (xs:List Str) (y:Str) | tyo (x:Str) | rpx (x:Str) (n:String)
def a9I (K:Frag) (C:Addr):Option String:=match K.lookup C with
 | some ⟨_,_,.cls cd,_⟩=>some ((cd.name.toString.cutAt '.').getLastD "")
 | _=>none
def b5H (K:Frag) (C:Addr):Bool:=(match K.lookup C with
 | some ⟨.type "type",_,.cls cd,sl⟩=>(match cd.mro,sl.toList with
  | .ref C' :: bm,[_,_,_,_,some (.builtin n),_]=>decide (C'=C) && decide (n = "ValueError.__new__") && !cd.hasDel && cd.hasDict && PySem.HandSPX.refsVE bm
  | _,_=>false)
 | _=>false) && (He.eqO (findIn K (.ref C) "__setattr__") (some (some (.builtin "object.__setattr__"))) && (decide (subIn K (.ref C) (.type "BaseException")=some true) && (decide (typeIn K (.ref C)=some (.type "type")) && keepIn K (.ref C))))
def cvB (r:Option CFound) (v:Value):Bool:=match r with
 | some (.val u)=>decide (u=v)
 | _=>false
def b5g (K:Frag) (x:Str):Bool:=He.eqO (findIn K (.ref (He.ga K x)) "__getattribute__") (some (some (.builtin "BaseException.__getattribute__"))) && (He.eqO (findIn K (.ref (He.ga K x)) "__getattr__") (some none) && (decide (subIn K (.ref (He.ga K x)) (.type "BaseException")=some true) && (hasDictIn K (He.ga K x) &&
   (He.eqO (findIn K (.ref (He.ga K x)) "__class__") (some (some (.builtin "object.__class__"))) && (He.eqO (specialIn K (.builtin "object.__class__") "__get__") (some (some (.builtin "getset_descriptor.__get__"))) && (decide (takesIn K (.builtin "object.__class__")=some true) && decide (mroIn K (He.ga K x) (.type "object")=some true)))))))
def Fx.ok (K:Frag):Fx→Bool
 | .oex x=>b5H K (He.ga K x)
 | .ini x=>He.eqO (findIn K (.ref (He.ga K x)) "__init__") (some (some (.ref (He.ma K (He.ga K x) "__init__")))) && decide (typeIn K (.ref (He.ma K (He.ga K x) "__init__"))=some (.type "function"))
 | .bas x=>readsIn K (He.ga K x) (.type "type") && (He.eqO (specialIn K (.ref (He.ga K x)) "__getattribute__") (some (some (.builtin "type.__getattribute__"))) && cvB (findCls K (.ref (He.ga K x)) (.type "type") "__init__") (.builtin "ValueError.__init__"))
 | .exf x=>b5g K x
 | .exfs xs=>xs.all (b5g K)
 | .insf x=>He.eqO (findIn K (.ref (He.ga K x)) "__class__") (some (some (.builtin "object.__class__"))) && (He.eqO (specialIn K (.builtin "object.__class__") "__get__") (some (some (.builtin "getset_descriptor.__get__"))) && (decide (takesIn K (.builtin "object.__class__")=some true) && (decide (mroIn K (He.ga K x) (.type "object")=some true) && decide (kitOne K (.ref (He.ga K x)) (.ref (He.ga K x))=some true))))
 | .nov x f=>He.eqO (findIn K (.ref (He.ga K x)) f) (some none)
 | .kit x y b=>decide (kitOne K (.ref (He.ga K x)) (.ref (He.ga K y))=some b)
 | .kitT x n b=>decide (kitOne K (.ref (He.ga K x)) (.type n)=some b)
 | .sib xs=>xs.all fun x=>xs.all fun y=>decide (kitOne K (.ref (He.ga K x)) (.ref (He.ga K y))=some (decide (x=y)))
 | .veT xs n=>xs.all fun x=>decide (kitOne K (.ref (He.ga K x)) (.type n)=some true)
 | .exA xs y=>xs.all fun x=>decide (exmOne K (.ref (He.ga K x)) (.ref (He.ga K y))=some true)
 | .tyo x=>decide (typeIn K (.ref (He.ga K x))=some (.type "type"))
 | .rpx x n=>decide (a9I K (He.ga K x)=some n) && (decide ((Str.ofString n).length + 2≤1000) && (He.eqO (findIn K (.ref (He.ga K x)) "__repr__") (some (some (.builtin "BaseException.__repr__"))) && decide (subIn K (.ref (He.ga K x)) (.type "BaseException")=some true)))
abbrev AlX:Type:=He.AlD × Bool
def foL {β:Type} {α:Type} (f:{α:Type}→β→(β→α)→α) (l:List β):(List β→α)→α :=
 List.rec (motive:=fun _=>(List β→α)→α) (fun k=>k []) (fun a _ ih k=>f a fun a=>ih fun r=>k (a :: r)) l
def foN {α:Type} (n:Nat) (k:Nat→α):α:=HandSHeadRun.frNat n k
def foS {α:Type} (s:Str) (k:Str→α):α:=match s with
 | ⟨⟨l⟩⟩=>foL foN l fun l=>k ⟨⟨l⟩⟩
def foV {α:Type} (v:Value) (k:Value→α):α:=match v with
 | .ref a=>foN a fun a=>k (.ref a)
 | .str s t=>foS s fun s=>k (.str s t)
 | .none=>k .none
 | .ellipsis=>k .ellipsis
 | .notImplemented=>k .notImplemented
 | .bool b=>k (.bool b)
 | .int i t=>k (.int i t)
 | .float b t=>k (.float b t)
 | .bytes b t=>k (.bytes b t)
 | .type n=>k (.type n)
 | .builtin n=>k (.builtin n)
def foE {α:Type} (e:DictEntry) (k:DictEntry→α):α:=match e with
 | ⟨h,x,v⟩=>foV x fun x=>foV v fun v=>k ⟨h,x,v⟩
def foD {α:Type} (d:Data) (k:Data→α):α:=match d with
 | .dict ⟨es⟩ n=>foL foE es fun es=>k (.dict ⟨es⟩ n)
 | .seq ⟨es⟩ n=>foL foV es fun es=>k (.seq ⟨es⟩ n)
 | .cls ⟨a1,a2,mro,ns,a3,a4,a5,a6,a7,a8,a9⟩=>foL foV mro fun mro=>foN ns fun ns=>k (.cls ⟨a1,a2,mro,ns,a3,a4,a5,a6,a7,a8,a9⟩)
 | .func ⟨n1,n2,n3,n4,n5,n6,n7,n8,n9,n10,n11,n12,n13,n14,n15⟩=>foN n6 fun n6=>foV n8 fun n8=>foV n9 fun n9=>foV n13 fun n13=>foN n15 fun n15=>k (.func ⟨n1,n2,n3,n4,n5,n6,n7,n8,n9,n10,n11,n12,n13,n14,n15⟩)
 | .plain=>k .plain
 | .prim v=>k (.prim v)
 | .set a b c=>k (.set a b c)
 | .bytearray a b=>k (.bytearray a b)
 | .cell v=>k (.cell v)
 | .fields ⟨es⟩=>foL foV es fun es=>k (.fields ⟨es⟩)
 | .freed=>k .freed
def foO {α:Type} (o:Obj) (k:Obj→α):α:=match o with
 | ⟨c,d,dt,sl⟩=>foV c fun c=>foD dt fun dt=>k ⟨c,d,dt,sl⟩
def codeS (x:Str):Nat:=x.cps.toList.foldl (fun n c=>Nat.add (Nat.mul 256 n) c) 1
abbrev Tab:Type:=List (Addr × Option (List (Nat × DictEntry)))
def a1l (e:DictEntry):Nat:=match e.key with
 | .str x _=>codeS x
 | _=>0
def foC {α:Type} (es:List DictEntry):(List (Nat × DictEntry)→α)→α :=
 List.rec (motive:=fun _=>(List (Nat × DictEntry)→α)→α) (fun k=>k []) (fun e _ ih k=>foN (a1l e) fun n=>ih fun r=>k ((n,e) :: r)) es
def foP {α:Type} (o:Obj) (k:Option (List (Nat × DictEntry))→α):α:=match o with
 | ⟨_,_,.dict ⟨es⟩ _,_⟩=>foC es fun l=>k (some l)
 | _=>k none
def foT {α:Type} (K:Frag):(Tab→α)→α :=
 List.rec (motive:=fun _=>(Tab→α)→α) (fun k=>k []) (fun p _ ih k=>match p with
  | (a,o)=>foP o fun t=>ih fun T=>k ((a,t) :: T)) K
def a0L {β:Type} (l:List (Nat × β)) (a:Nat):Option β :=
 List.rec none (fun p _ ih=>match p with
  | (b,v)=>match Nat.beq a b with
   | true=>some v
   | false=>ih) l
def a3U (c:Nat) (x:Str) (l:List (Nat × DictEntry)):Option DictEntry :=
 List.rec none (fun p _ ih=>match p with
  | (n,e)=>match Nat.beq n c with
   | true=>(match e.key.isStr x with
    | true=>some e
    | false=>ih)
   | false=>ih) l
section
variable {α:Type} (g:Addr→Option Obj)
def a7v (l:List Addr):Nat→List Addr→(Nat→List Addr→α)→α :=
 List.rec (motive:=fun _=>Nat→List Addr→(Nat→List Addr→α)→α) (fun m f k=>k m f) (fun a _ ih m f k=>match Nat.beq (Nat.land (Nat.shiftRight m a) 1) 0 with
  | true=>foN a fun a=>foN (Nat.lor m (Nat.shiftLeft 1 a)) fun m=>ih m (a :: f) k
  | false=>ih m f k) l
end
section
variable {α:Type} (g:Addr→Option Obj)
def a1H (l:List Addr):Nat→List Addr→Frag→(Nat→List Addr→Frag→α)→α :=
 List.rec (motive:=fun _=>Nat→List Addr→Frag→(Nat→List Addr→Frag→α)→α) (fun m f K k=>k m f K) (fun a _ ih m f K k=>match g a with
  | none=>ih m f K k
  | some o=>foO o fun o=>a7v (He.refsD o) m f fun m f=>ih m f ((a,o) :: K) k) l
end
section
variable {α:Type} (g:Addr→Option Obj)
def a68:Nat→List Addr→Nat→Frag→(Frag→α)→α
 | 0,l,m,K,k=>a1H g l m [] K fun _ _ K=>k K
 | n + 1,l,m,K,k=>a1H g l m [] K fun m f K=>a68 n f m K k
end
section
variable {α:Type} (g:Addr→Option Obj)
def a79 (n:Nat) (k:Frag→α):α:=a68 g n [mainGlobals,cStatics] (Nat.lor (Nat.shiftLeft 1 mainGlobals) (Nat.shiftLeft 1 cStatics)) [] fun K=>k K.reverse
end
inductive Cw where
 | str (z:Str) | tup (zs:List Str)
abbrev TbW:Type:=Str × List (Str × Cw)
def b3d:List Value→List Str→Bool
 | [],[]=>true
 | .str x _ :: vs,z :: zs=>decide (x=z) && b3d vs zs
 | _,_=>false
def cwB (K:Frag) (v:Cw) (u:Value):Bool:=match v with
 | .str z=>(match u with
  | .str x _=>decide (x=z)
  | _=>false)
 | .tup zs=>(match u with
  | .ref a=>(match K.lookup a with
   | some ⟨.type c,_,.seq its _,_⟩=>decide (c = "tuple") && (decide (its.size≤1000) && b3d its.toList zs)
   | _=>false)
  | _=>false)
def b9x (K:Frag) (t:TbW):Bool:=t.2.all fun q=>match nsIn K (He.ga K t.1) q.1 with
 | some (some u)=>cwB K q.2 u
 | _=>false
def a1i (ts:List TbW) (K:Frag):Bool × List (Option (List (Option (Str × Int)))):=(ts.all (b9x K),ts.map fun t=>He.dicW K (He.ga K t.1))
def a06 (ts:List TbW) (w:World):Bool × List (Option (List (Option (Str × Int)))):=(true,ts.map fun t=>some (He.keysIn w.params (t.2.map (·.1))))
abbrev AlT:Type:=AlX × (Bool × List (Option (List (Option (Str × Int)))))
section
open HandSHeadRun
abbrev ROW:String := "special-get-raises"
end
section
variable (L:Addr→Option Obj) (K:Frag) (N:Addr→Str→Option (Option Value))
def gaM (x:Str):Addr:=match N mainGlobals x with
 | some (some (.ref a))=>a
 | _=>0
end
section
variable (L:Addr→Option Obj) (K:Frag) (N:Addr→Str→Option (Option Value))
def b7X (name:Str):Value→Option (Option Value)
 | .type n=>some (fastBuiltinOwn n name)
 | .ref a=>(match L a with
   | some ⟨_,_,.cls cd,_⟩=>N cd.ns name
   | _=>none)
 | _=>some none
end
section
variable (L:Addr→Option Obj) (K:Frag) (N:Addr→Str→Option (Option Value))
def a4w (name:Str):List Value→Option (Option Value)
 | []=>some none
 | c :: r=>match b7X L N name c with
  | some (some v)=>some (some v)
  | some none=>a4w name r
  | none=>none
end
section
variable (L:Addr→Option Obj) (K:Frag) (N:Addr→Str→Option (Option Value))
def a3V (t:Value) (name:Str):Option (Option Value):=match t with
 | .type n=>fastLookup n name
 | .ref a=>(match L a with
   | some ⟨_,_,.cls cd,_⟩=>a4w L N name cd.mro
   | _=>none)
 | _=>none
end
section
variable (L:Addr→Option Obj) (K:Frag) (N:Addr→Str→Option (Option Value))
def maM (C:Addr) (m:Str):Addr:=match a3V L N (.ref C) m with
 | some (some (.ref a))=>a
 | _=>0
end
section
variable (L:Addr→Option Obj) (K:Frag) (N:Addr→Str→Option (Option Value))
def b3x (p:Str × Option Str):Addr:=match p.2 with
 | none=>gaM N p.1
 | some m=>maM L N (gaM N p.1) m
end
section
variable (L:Addr→Option Obj) (K:Frag) (N:Addr→Str→Option (Option Value))
def keepM (a:Addr):Bool:=match L a with
 | some ⟨_,_,.func _,_⟩=>true
 | some ⟨_,_,.cls _,_⟩=>specialIn K (.ref a) "__call__" == some (some (.builtin "type.__call__"))
 | _=>false
end
section
variable (L:Addr→Option Obj) (K:Frag) (N:Addr→Str→Option (Option Value))
def b4P (cd:Value) (q:Str):Bool:=match cd with
 | .ref c=>(match L c with
   | some ⟨_,_,.fields vs,_⟩=>(match vs.toList with | _ :: .str n _ :: _=>n == q | _=>false)
   | _=>false)
 | _=>false
end
section
variable (L:Addr→Option Obj) (K:Frag) (N:Addr→Str→Option (Option Value))
def b5s (a:Addr):Bool:=(L a).map (·.cls) == some (.type "function")
end
section
variable (L:Addr→Option Obj) (K:Frag) (N:Addr→Str→Option (Option Value))
def faM:He.Fa→Bool
 | .glo x=>He.eqO (N mainGlobals x) (some (some (.ref (gaM N x))))
 | .free x=>He.eqO (N mainGlobals x) (some none)
 | .int x i=>(match N mainGlobals x with
  | some (some (.int j _))=>decide (j=i)
  | _=>false)
 | .str x z=>(match N mainGlobals x with
  | some (some (.str y _))=>decide (y=z)
  | _=>false)
 | .cls x=>plainGet K (gaM N x) Str.empty && (hasDictIn K (gaM N x) && (plainOver K (gaM N x) && He.eqO (findIn K (.ref (gaM N x)) "__setattr__") (some (some (.builtin "object.__setattr__")))))
 | .noat x f=>He.eqO (a3V L N (.ref (gaM N x)) f) (some none)
 | .meth x m=>He.eqO (a3V L N (.ref (gaM N x)) m) (some (some (.ref (maM L N (gaM N x) m)))) && (b5s L (maM L N (gaM N x) m) && keepM L K (maM L N (gaM N x) m))
 | f=>f.ok K
end
section
variable (L:Addr→Option Obj) (K:Frag) (N:Addr→Str→Option (Option Value))
def okM (d:He.DefD) (a:Addr):Bool:=keepM L K a && (match L a with
 | some ⟨_,_,.func fd,_⟩=>b4P L fd.code d.qual && (He.dflB K fd.defaults (d.dvs K) && He.kwdB K fd.kwdefaults (d.kws K))
 | _=>false)
end
section
variable (L:Addr→Option Obj) (K:Frag) (N:Addr→Str→Option (Option Value))
def fnM (a:Addr):He.FnW:=match L a with
 | some ⟨_,_,.func fd,_⟩=>some (fd.name,fd.qualname,fd.params,fd.body,fd.scope,fd.globals,fd.closure,fd.builtins)
 | _=>none
end
section
variable (L:Addr→Option Obj) (K:Frag) (N:Addr→Str→Option (Option Value))
def fxM:Fx→Bool
 | .oex x=>b5H K (gaM N x)
 | .ini x=>He.eqO (a3V L N (.ref (gaM N x)) "__init__") (some (some (.ref (maM L N (gaM N x) "__init__")))) && decide (typeIn K (.ref (maM L N (gaM N x) "__init__"))=some (.type "function"))
 | .nov x f=>He.eqO (a3V L N (.ref (gaM N x)) f) (some none)
 | .kit x y b=>decide (kitOne K (.ref (gaM N x)) (.ref (gaM N y))=some b)
 | .kitT x n b=>decide (kitOne K (.ref (gaM N x)) (.type n)=some b)
 | .sib xs=>xs.all fun x=>xs.all fun y=>decide (kitOne K (.ref (gaM N x)) (.ref (gaM N y))=some (decide (x=y)))
 | .veT xs n=>xs.all fun x=>decide (kitOne K (.ref (gaM N x)) (.type n)=some true)
 | .exA xs y=>xs.all fun x=>decide (exmOne K (.ref (gaM N x)) (.ref (gaM N y))=some true)
 | f=>f.ok K
end
section
variable (L:Addr→Option Obj) (K:Frag) (N:Addr→Str→Option (Option Value))
def b5G (fa:List He.Fa) (fn:List He.DefD) (fx:List Fx):AlX:=(((fa.all fun f=>faM L K N f) && fn.all fun d=>okM L K d (b3x L N d.at_),fn.map fun d=>fnM L (b3x L N d.at_)),fx.all fun f=>fxM L K N f)
end
def a3W (g:Addr→Option Obj) (n:Nat):Frag:=(List.range n).filterMap fun a=>(g a).map fun o=>(a,o)
def nsU (T:Tab) (K:Frag) (ns:Addr) (x:Str):Option (Option Value):=match a0L T ns with
 | some (some l)=>foN (codeS x) fun c=>(match a3U c x l with
  | some e=>some (some e.val)
  | none=>if l.any (fun p=>p.2.refKey) then none else some none)
 | _=>nsIn K ns x
def a9M (n N:Nat) (fa:List He.Fa) (fn:List He.DefD) (fx:List Fx) (ts:List TbW) (g:Addr→Option Obj):AlT :=
 a79 g n fun K=>foT K fun T=>(b5G g (K ++ a3W g N) (nsU T (K ++ a3W g N)) fa fn fx,a1i ts (K ++ a3W g N))
section
open HandSHeadRun
def a8V (r:OpenRow) (M:Nat) (b:Bool) (w:World):Prop :=
 ∀ os:OsState,(endF (stepQ (denQ tabQ) r.prog (w.withFollow ROW b)) M r.prog w os).map (fun s=>looksF r.prog (boot_heap w.params) s.abs)=some true
end
section
open HandSHeadRun
def a8W (r:OpenRow) (q:Program) (M:Nat) (loose:List Str) (b:Bool) (w:World):Prop :=
 ∀ os:OsState,(endF (stepQ (denQ tabQ) r.prog (w.withFollow ROW b)) M r.prog w os).map (fun s=>seenQ q loose (importedModules r.prog.main.body) (fun s=>xlAt q [] s && recOk r.toRowW.records s) s.abs)=some (openGood q loose)
end
section
open HandSHeadRun
def a8X (r:OpenRow) (M n:Nat) (fa:List He.Fa) (fn:List He.DefD) (fx:List Fx) (ts:List TbW) (b:Bool) (w:World):Prop :=
 ∀ os:OsState,(endF (stepQ (denQ tabQ) r.prog (w.withFollow ROW b)) M r.prog w os).map (fun s=>a9M n s.n fa fn fx ts (getT s))=some ((He.valD fn,true),a06 ts w)
end
end Sv
end
namespace Sv
open PySem PySem.Spec PyProof.Rows L2
inductive D where
 | non | bl (b:Bool) | int (i:Int) | str (x:Str)
 | lst (xs:List D) | tup (xs:List D) | dic (kvs:List (Key × D))
 | obj (a:Addr) | exc (a:Addr) (oe:Obj) (C:Addr) (fs:List (Str × D))
 | err (a C:Addr) (fs:List (Str × D)) (bare:Bool)
inductive Cell where
 | lst (xs:List D) | dic (kvs:List (Key × D)) | loc (kvs:List (Key × D)) | ins (C:Addr) (fs:List (Str × D))
abbrev SS:=Addr→Option Cell
def SS.set (S:SS) (a:Addr) (c:Cell):SS:=fun b=>if b=a then some c else S b
def SS.del (S:SS) (a:Addr):SS:=fun b=>if b=a then none else S b
theorem zab {S:SS} {a:Addr} {c:Cell}:S.set a c a=some c:=if_pos rfl
theorem zaa {S:SS} {a b:Addr} {c:Cell} (h:b≠a):S.set a c b=S b:=if_neg h
theorem SS.del_same {S:SS} {a:Addr}:S.del a a=none:=if_pos rfl
theorem SS.del_ne {S:SS} {a b:Addr} (h:b≠a):S.del a b=S b:=if_neg h
theorem zac {S:SS} {p:Addr} {x y:Cell}:(S.set p x).set p y=S.set p y:=by
 funext q
 unfold SS.set
 by_cases h:q=p
 ·rw [if_pos h,if_pos h]
 ·rw [if_neg h,if_neg h,if_neg h]
theorem SS.set_id {S:SS} {p:Addr} {x:Cell} (h:S p=some x):S.set p x=S:=by
 funext q
 unfold SS.set
 by_cases e:q=p
 ·rw [if_pos e,e,h]
 ·rw [if_neg e]
theorem zae {S:SS} {a b:Addr} {x y:Cell} (h:a≠b):(S.set a x).set b y=(S.set b y).set a x:=by
 funext q
 unfold SS.set
 by_cases h1:q=b
 ·have h2:q≠a:=fun e=>h (e.symm.trans h1)
  rw [if_pos h1,if_neg h2,if_pos h1]
 ·rw [if_neg h1]
  by_cases h2:q=a
  ·rw [if_pos h2,if_pos h2]
  ·rw [if_neg h2,if_neg h2,if_neg h1]
theorem zaf {S:SS} {p:Addr} {x:Cell} (h:S p=none):(S.set p x).del p=S:=by
 funext q
 unfold SS.set SS.del
 by_cases e:q=p
 ·simp [e,h]
 ·simp [e]
theorem SS.set_del {S:SS} {p:Addr} {x:Cell}:(S.set p x).del p=S.del p:=by
 funext q
 unfold SS.set SS.del
 by_cases e:q=p
 ·simp [e]
 ·simp [e]
theorem zad {S:SS} {a b:Addr} {c:Cell} (h:S a=some c) (h2:S b=none):a≠b:=fun e=>by rw [e,h2] at h;cases h
structure Gd where
 K:zbd
abbrev noH:Hp:=fun _=>none
def LstAt (g:Gd) (S:SS) (H:Hp) (p:Addr) (vs:List V):Prop:=(S p=none∧Rd H p (.lst vs))∨SqL g.K noH p vs
def TupAt (g:Gd) (S:SS) (H:Hp) (p:Addr) (vs:List V):Prop:=(S p=none∧H p=some (.tup vs))∨SqT g.K noH p vs
def a8R (H:Hp) (a C:Addr) (d:Option Addr) (bare:Bool) (t0:Addr):Prop:=∃ φ:Heap→Prop,H a=some (.ext φ)∧∀ h,φ h→∃ oe,h.get? a=some oe∧Zc (.ref C) d oe∧∃ vs,oe.data=.fields vs∧(bare=true→d=none∧vs[0]?=some (.ref t0))
mutual
def Rep (g:Gd) (S:SS) (H:Hp):D→V→Prop
 | .non,v=>v=.non
 | .bl b,v=>v=.bl b
 | .int i,v=>v=.int i
 | .str x,v=>v=.str x
 | .lst ds,v=>∃ p vs,v=.ref p∧LstAt g S H p vs∧a0c g S H ds vs
 | .tup ds,v=>∃ p vs,v=.ref p∧TupAt g S H p vs∧a0c g S H ds vs
 | .dic kvs,v=>∃ p ws,v=.ref p∧S p=none∧H p=some (.dK ws)∧a0v g S H kvs ws
 | .obj a,v=>v=.ref a
 | .exc a oe C fs,v=>∃ d,v=.ref a∧(Zc (.ref C) d oe∧∃ vs,oe.data=.fields vs)∧((d=none∧fs=[])∨∃ dd ws,d=some dd∧S dd=none∧H dd=some (.xd ws)∧a1c g S H fs ws)
 | .err a C fs bare,v=>∃ d t0,v=.ref a∧S a=none∧a8R H a C d bare t0∧(bare=true→S t0=none∧H t0=some (.tup []))∧((d=none∧fs=[])∨∃ dd ws,d=some dd∧S dd=none∧H dd=some (.xd ws)∧a1c g S H fs ws)
def a0c (g:Gd) (S:SS) (H:Hp):List D→List V→Prop
 | [],vs=>vs=[]
 | d :: ds,vs=>∃ v r,vs=v :: r∧Rep g S H d v∧a0c g S H ds r
def a0v (g:Gd) (S:SS) (H:Hp):List (Key × D)→List (Key × V)→Prop
 | [],ws=>ws=[]
 | (k,d) :: r,ws=>∃ v q,ws=(k,v) :: q∧Rep g S H d v∧a0v g S H r q
def a1c (g:Gd) (S:SS) (H:Hp):List (Str × D)→List (Str × V)→Prop
 | [],ws=>ws=[]
 | (k,d) :: r,ws=>∃ v q,ws=(k,v) :: q∧Rep g S H d v∧a1c g S H r q
end
structure PostW (S:SS) (H:Hp) (S':SS) (H':Hp):Prop where
 kp:∀ p o,S p=none→H p=some o→H' p=some o
 fr:∀ a,S' a≠none→S a≠none∨H a=none
structure a0a (S:SS) (H:Hp) (S':SS) (H':Hp):Prop extends PostW S H S' H' where
 lk:∀ p k o,S p=some (.loc k)→H p=some o→S' p=some (.loc k)∧H' p=some o
def Cell.free:Cell→Bool
 | .loc _=>false | _=>true
theorem a0a.refl (S:SS) (H:Hp):a0a S H S H:=⟨⟨fun _ _ _ h=>h,fun _ h=>.inl h⟩,fun _ _ _ h q=>⟨h,q⟩⟩
theorem PostW.none_of {S:SS} {H:Hp} {S':SS} {H':Hp} (P:PostW S H S' H') {p:Addr} {o:HO} (h:S p=none) (e:H p=some o):S' p=none:=by
 cases q:S' p with
 | none=>rfl
 | some c =>
  rcases P.fr p (by rw [q];exact fun z=>nomatch z) with z | z
  ·exact absurd h z
  ·rw [e] at z;cases z
theorem PostW.trans {S:SS} {H:Hp} {S1:SS} {H1:Hp} {S2:SS} {H2:Hp} (a:PostW S H S1 H1) (b:PostW S1 H1 S2 H2):PostW S H S2 H2:=by
 refine ⟨fun p o h e=>b.kp p o (a.none_of h e) (a.kp p o h e),fun x h=>?_⟩
 rcases b.fr x h with z | z
 ·exact a.fr x z
 ·cases q:S x with
  | some c=>exact .inl (fun z=>nomatch z)
  | none =>
   cases r:H x with
   | none=>exact .inr rfl
   | some o =>
    rw [a.kp x o q r] at z
    cases z
theorem a0a.trans {S:SS} {H:Hp} {S1:SS} {H1:Hp} {S2:SS} {H2:Hp} (a:a0a S H S1 H1) (b:a0a S1 H1 S2 H2):a0a S H S2 H2 :=
 ⟨a.toPostW.trans b.toPostW,fun p k o h e=>have ⟨h1,e1⟩:=a.lk p k o h e;b.lk p k o h1 e1⟩
section
variable {g:Gd} {S S':SS} {H H':Hp}
theorem Rd.kpW {p:Addr} {u:HO} (P:PostW S H S' H') (h:S p=none) (r:Rd H p u):Rd H' p u:=by
 rcases r with r | ⟨o,r⟩
 ·exact .inl (P.kp _ _ h r)
 ·exact .inr ⟨o,P.kp _ _ h r⟩
theorem Rd.none'W {p:Addr} {u:HO} (P:PostW S H S' H') (h:S p=none) (r:Rd H p u):S' p=none:=by
 rcases r with r | ⟨o,r⟩
 ·exact P.none_of h r
 ·exact P.none_of h r
theorem LstAt.monoW {p:Addr} {vs:List V} (P:PostW S H S' H') (h:LstAt g S H p vs):LstAt g S' H' p vs:=by
 rcases h with ⟨h,r⟩ | h
 ·exact .inl ⟨Rd.none'W P h r,Rd.kpW P h r⟩
 ·exact .inr h
theorem TupAt.monoW {p:Addr} {vs:List V} (P:PostW S H S' H') (h:TupAt g S H p vs):TupAt g S' H' p vs:=by
 rcases h with ⟨h,r⟩ | h
 ·exact .inl ⟨P.none_of h r,P.kp _ _ h r⟩
 ·exact .inr h
theorem b0b {p:Addr} {vs:List V} (h:SqL g.K noH p vs):SqL g.K H p vs:=by
 rcases h with h | h
 ·rcases h with h | ⟨o,h⟩ <;> cases h
 ·exact .inr h
theorem b0c {p:Addr} {vs:List V} (h:SqT g.K noH p vs):SqT g.K H p vs:=by
 rcases h with h | h
 ·rcases h with h | ⟨o,h⟩ <;> cases h
 ·exact .inr h
theorem LstAt.sq {p:Addr} {vs:List V} (h:LstAt g S H p vs):SqL g.K H p vs:=by
 rcases h with ⟨h,r⟩ | h
 ·exact .inl r
 ·exact b0b h
theorem TupAt.sq {p:Addr} {vs:List V} (h:TupAt g S H p vs):SqT g.K H p vs:=by
 rcases h with ⟨h,r⟩ | h
 ·exact .inl (.inl r)
 ·exact b0c h
mutual
theorem Rep.monoW (P:PostW S H S' H'):∀ {d:D} {v:V},Rep g S H d v→Rep g S' H' d v
 | .non,_,h=>by simp only [Rep] at h ⊢;exact h
 | .bl _,_,h=>by simp only [Rep] at h ⊢;exact h
 | .int _,_,h=>by simp only [Rep] at h ⊢;exact h
 | .str _,_,h=>by simp only [Rep] at h ⊢;exact h
 | .lst ds,_,h=>by
  simp only [Rep] at h ⊢
  obtain ⟨p,vs,e,a,r⟩:=h
  exact ⟨p,vs,e,a.monoW P,a0c.monoW P r⟩
 | .tup ds,_,h=>by
  simp only [Rep] at h ⊢
  obtain ⟨p,vs,e,a,r⟩:=h
  exact ⟨p,vs,e,a.monoW P,a0c.monoW P r⟩
 | .dic kvs,_,h=>by
  simp only [Rep] at h ⊢
  obtain ⟨p,ws,e,a,b,r⟩:=h
  exact ⟨p,ws,e,P.none_of a b,P.kp _ _ a b,a0v.monoW P r⟩
 | .obj _,_,h=>by simp only [Rep] at h ⊢;exact h
 | .exc a oe C fs,_,h=>by
  simp only [Rep] at h ⊢
  obtain ⟨d,e,x,r⟩:=h
  refine ⟨d,e,x,?_⟩
  rcases r with r | ⟨dd,ws,e1,n,q,r⟩
  ·exact .inl r
  ·exact .inr ⟨dd,ws,e1,P.none_of n q,P.kp _ _ n q,a1c.monoW P r⟩
 | .err a C fs bare,_,h=>by
  simp only [Rep] at h ⊢
  obtain ⟨d,t0,e,n,⟨φ,here,says⟩,tt,r⟩:=h
  refine ⟨d,t0,e,P.none_of n here,⟨φ,P.kp _ _ n here,says⟩,fun hb=>⟨P.none_of (tt hb).1 (tt hb).2,P.kp _ _ (tt hb).1 (tt hb).2⟩,?_⟩
  rcases r with r | ⟨dd,ws,e1,n,q,r⟩
  ·exact .inl r
  ·exact .inr ⟨dd,ws,e1,P.none_of n q,P.kp _ _ n q,a1c.monoW P r⟩
theorem a0c.monoW (P:PostW S H S' H'):∀ {ds:List D} {vs:List V},a0c g S H ds vs→a0c g S' H' ds vs
 | [],_,h=>by simp only [a0c] at h ⊢;exact h
 | d :: ds,_,h=>by
  simp only [a0c] at h ⊢
  obtain ⟨v,r,e,a,b⟩:=h
  exact ⟨v,r,e,Rep.monoW P a,a0c.monoW P b⟩
theorem a0v.monoW (P:PostW S H S' H'):∀ {ds:List (Key × D)} {vs:List (Key × V)},a0v g S H ds vs→a0v g S' H' ds vs
 | [],_,h=>by simp only [a0v] at h ⊢;exact h
 | (k,d) :: ds,_,h=>by
  simp only [a0v] at h ⊢
  obtain ⟨v,r,e,a,b⟩:=h
  exact ⟨v,r,e,Rep.monoW P a,a0v.monoW P b⟩
theorem a1c.monoW (P:PostW S H S' H'):∀ {ds:List (Str × D)} {vs:List (Str × V)},a1c g S H ds vs→a1c g S' H' ds vs
 | [],_,h=>by simp only [a1c] at h ⊢;exact h
 | (k,d) :: ds,_,h=>by
  simp only [a1c] at h ⊢
  obtain ⟨v,r,e,a,b⟩:=h
  exact ⟨v,r,e,Rep.monoW P a,a1c.monoW P b⟩
end
theorem LstAt.mono {p:Addr} {vs:List V} (P:a0a S H S' H') (h:LstAt g S H p vs):LstAt g S' H' p vs:=h.monoW P.toPostW
theorem Rep.mono (P:a0a S H S' H') {d:D} {v:V} (h:Rep g S H d v):Rep g S' H' d v:=h.monoW P.toPostW
theorem a0c.mono (P:a0a S H S' H') {ds:List D} {vs:List V} (h:a0c g S H ds vs):a0c g S' H' ds vs:=h.monoW P.toPostW
theorem a0v.mono (P:a0a S H S' H') {ds:List (Key × D)} {vs:List (Key × V)} (h:a0v g S H ds vs):a0v g S' H' ds vs:=h.monoW P.toPostW
theorem a1c.mono (P:a0a S H S' H') {ds:List (Str × D)} {vs:List (Str × V)} (h:a1c g S H ds vs):a1c g S' H' ds vs:=h.monoW P.toPostW
def a0Z (g:Gd) (S:SS) (H:Hp) (a:Addr):Cell→Prop
 | .lst ds=>∃ vs,H a=some (.lst vs)∧a0c g S H ds vs
 | .dic kvs=>∃ ws,H a=some (.dK ws)∧a0v g S H kvs ws
 | .loc kvs=>∃ ws o,H a=some (.frz o (.dK ws))∧a0v g S H kvs ws
 | .ins C fs=>∃ dx ws,H a=some (.ins C dx ws)∧a1c g S H fs ws
def CellsOk (g:Gd) (S:SS) (H:Hp):Prop:=∀ a c,S a=some c→a0Z g S H a c
theorem a0Z.there {a:Addr} {c:Cell} (h:a0Z g S H a c):∃ o,H a=some o:=by
 cases c with
 | lst _=>obtain ⟨_,e,_⟩:=h;exact ⟨_,e⟩
 | dic _=>obtain ⟨_,e,_⟩:=h;exact ⟨_,e⟩
 | loc _=>obtain ⟨_,_,e,_⟩:=h;exact ⟨_,e⟩
 | ins _ _=>obtain ⟨_,_,e,_⟩:=h;exact ⟨_,e⟩
theorem a0Z.monoW {a:Addr} {c:Cell} (P:PostW S H S' H') (e:H' a=H a) (h:a0Z g S H a c):a0Z g S' H' a c:=by
 cases c with
 | lst _=>obtain ⟨x,q,r⟩:=h;exact ⟨x,by rw [e];exact q,r.monoW P⟩
 | dic _=>obtain ⟨x,q,r⟩:=h;exact ⟨x,by rw [e];exact q,r.monoW P⟩
 | loc _=>obtain ⟨x,y,q,r⟩:=h;exact ⟨x,y,by rw [e];exact q,r.monoW P⟩
 | ins _ _=>obtain ⟨x,y,q,r⟩:=h;exact ⟨x,y,by rw [e];exact q,r.monoW P⟩
theorem a0Z.mono {a:Addr} {c:Cell} (P:a0a S H S' H') (e:H' a=H a) (h:a0Z g S H a c):a0Z g S' H' a c:=h.monoW P.toPostW e
theorem CellsOk.free (h:CellsOk g S H) {p:Addr} (e:H p=none):S p=none:=by
 cases q:S p with
 | none=>rfl
 | some c =>
  obtain ⟨o,z⟩:=(h p c q).there
  rw [e] at z;cases z
theorem a0a.new {p:Addr} {o:HO} (e:H p=none):a0a S H S (upd H p o) :=
 ⟨⟨fun q u _ z=>by rw [upd_ne (ne_of_none z e)];exact z,fun _ h=>.inl h⟩,fun q k u h z=>⟨h,by rw [upd_ne (ne_of_none z e)];exact z⟩⟩
theorem CellsOk.new {p:Addr} {o:HO} (h:CellsOk g S H) (e:H p=none):CellsOk g S (upd H p o):=fun a c q=>by
 obtain ⟨u,z⟩:=(h a c q).there
 exact (h a c q).mono (a0a.new e) (upd_ne (ne_of_none z e))
theorem a0a.newC {p:Addr} {o:HO} {c:Cell} (e:H p=none):a0a S H (S.set p c) (upd H p o) :=
 ⟨⟨fun q u _ z=>by rw [upd_ne (ne_of_none z e)];exact z,fun a h=>by
  by_cases q:a=p
  ·exact .inr (q ▸ e)
  ·rw [zaa q] at h;exact .inl h⟩,fun q k u h z=>⟨by rw [zaa (ne_of_none z e)];exact h,by rw [upd_ne (ne_of_none z e)];exact z⟩⟩
theorem CellsOk.newC {p:Addr} {o:HO} {c:Cell} (h:CellsOk g S H) (e:H p=none) (hc:a0Z g (S.set p c) (upd H p o) p c):CellsOk g (S.set p c) (upd H p o):=fun a d q=>by
 by_cases z:a=p
 ·subst z;rw [zab] at q;cases q;exact hc
 ·rw [zaa z] at q
  exact (h a d q).mono (a0a.newC e) (upd_ne z)
theorem PostW.write {a:Addr} {o:HO} {c c0:Cell} (e:S a=some c0):PostW S H (S.set a c) (upd H a o) :=
 ⟨fun q u n z=>by rw [upd_ne (fun y=>by rw [y,e] at n;cases n)];exact z,fun b h=>by
  by_cases q:b=a
  ·exact .inl (by rw [q,e];exact fun z=>nomatch z)
  ·rw [zaa q] at h;exact .inl h⟩
theorem a0a.write {a:Addr} {o:HO} {c c0:Cell} (e:S a=some c0) (fr:c0.free=true:=by rfl):a0a S H (S.set a c) (upd H a o) :=
 ⟨.write e,fun q k u h z=>by
  have apart:q≠a:=fun y=>by rw [y,e] at h;cases h;cases fr
  exact ⟨by rw [zaa apart];exact h,by rw [upd_ne apart];exact z⟩⟩
theorem CellsOk.writeW {a:Addr} {o:HO} {c c0:Cell} (h:CellsOk g S H) (e:S a=some c0) (hc:a0Z g (S.set a c) (upd H a o) a c):CellsOk g (S.set a c) (upd H a o):=fun b d q=>by
 by_cases z:b=a
 ·subst z;rw [zab] at q;cases q;exact hc
 ·rw [zaa z] at q
  exact (h b d q).monoW (.write e) (upd_ne z)
theorem CellsOk.write {a:Addr} {o:HO} {c c0:Cell} (h:CellsOk g S H) (e:S a=some c0) (hc:a0Z g (S.set a c) (upd H a o) a c):CellsOk g (S.set a c) (upd H a o):=h.writeW e hc
theorem a0a.freeze {a:Addr} {c:Cell} (e:S a=some c) (fr:c.free=true:=by rfl):a0a S H (S.del a) H :=
 ⟨⟨fun _ _ _ z=>z,fun b h=>by
  by_cases q:b=a
  ·rw [q,SS.del_same] at h;exact absurd rfl h
  ·rw [SS.del_ne q] at h;exact .inl h⟩,fun q k u h z=>⟨by rw [SS.del_ne (fun y=>by rw [y,e] at h;cases h;cases fr)];exact h,z⟩⟩
theorem CellsOk.freeze {a:Addr} {c:Cell} (h:CellsOk g S H) (e:S a=some c) (fr:c.free=true:=by rfl):CellsOk g (S.del a) H:=fun b d q=>by
 by_cases z:b=a
 ·rw [z,SS.del_same] at q;cases q
 ·rw [SS.del_ne z] at q
  exact (h b d q).mono (a0a.freeze e fr) rfl
theorem Rep.freeze {a:Addr} {ds:List D} (h:CellsOk g S H) (e:S a=some (.lst ds)):Rep g (S.del a) H (.lst ds) (.ref a):=by
 obtain ⟨vs,q,r⟩:=h a _ e
 simp only [Rep]
 exact ⟨a,vs,rfl,.inl ⟨SS.del_same,.inl q⟩,r.mono (a0a.freeze e)⟩
theorem Rep.freezeK {a:Addr} {ds:List (Key × D)} (h:CellsOk g S H) (e:S a=some (.dic ds)):Rep g (S.del a) H (.dic ds) (.ref a):=by
 obtain ⟨vs,q,r⟩:=h a _ e
 simp only [Rep]
 exact ⟨a,vs,rfl,SS.del_same,q,r.mono (a0a.freeze e)⟩
theorem CellsOk.lock {a:Addr} {kvs:List (Key × D)} {ws:List (Key × V)} {o:Obj} (h:CellsOk g S H) (e:S a=some (.dic kvs)) (at_a:H a=some (.dK ws)) (r:a0v g S H kvs ws):CellsOk g (S.set a (.loc kvs)) (upd H a (.frz o (.dK ws))) :=
 h.writeW e ⟨ws,o,upd_same,r.mono (a0a.write e)⟩
theorem PostW.unlock {a:Addr} {kvs:List (Key × D)} {ws:List (Key × V)} {o:Obj} (e:S a=some (.dic kvs)) (P:a0a (S.set a (.loc kvs)) (upd H a (.frz o (.dK ws))) S' H'):S' a=some (.loc kvs)∧H' a=some (.frz o (.dK ws)) :=
 P.lk a kvs _ zab upd_same
theorem a0a.unlock {a:Addr} {kvs:List (Key × D)} {ws:List (Key × V)} {o:Obj} (e:S a=some (.dic kvs)) (P:a0a (S.set a (.loc kvs)) (upd H a (.frz o (.dK ws))) S' H'):a0a S H (S'.set a (.dic kvs)) (upd H' a (.dK ws)) :=
 ⟨(PostW.write e).trans (P.toPostW.trans (.write (PostW.unlock e P).1)),fun q k u h z=>by
  have apart:q≠a:=fun y=>by rw [y,e] at h;cases h
  have:=P.lk q k u (by rw [zaa apart];exact h) (by rw [upd_ne apart];exact z)
  exact ⟨by rw [zaa apart];exact this.1,by rw [upd_ne apart];exact this.2⟩⟩
theorem CellsOk.unlock {a:Addr} {kvs:List (Key × D)} {ws:List (Key × V)} {o:Obj} (e:S a=some (.dic kvs)) (r:a0v g S H kvs ws) (P:a0a (S.set a (.loc kvs)) (upd H a (.frz o (.dK ws))) S' H') (h:CellsOk g S' H'):CellsOk g (S'.set a (.dic kvs)) (upd H' a (.dK ws)) :=
 h.writeW (PostW.unlock e P).1 ⟨ws,upd_same,r.mono (a0a.unlock e P)⟩
abbrev DS:=List (Option D)
structure a3K (g:Gd) (S:SS) (H:Hp) (δ:DS) (σ:L2.St):Prop where
 len:δ.length=σ.length
 at_:∀ (i:Nat) d,δ[i]?=some (some d)→∃ v,σ[i]?=some (some v)∧Rep g S H d v
theorem a3K.mono {δ:DS} {σ:L2.St} (P:a0a S H S' H') (h:a3K g S H δ σ):a3K g S' H' δ σ:=⟨h.len,fun i d e =>
 let ⟨v,e1,r⟩:=h.at_ i d e
 ⟨v,e1,r.mono P⟩⟩
theorem a3K.set {δ:DS} {σ:L2.St} {i:Nat} {d:D} {v:V} (h:a3K g S H δ σ) (r:Rep g S H d v):a3K g S H (δ.set i (some d)) (σ.set i (some v)):=by
 refine ⟨by rw [List.length_set,List.length_set,h.len],fun j e q=>?_⟩
 by_cases hj:i=j
 ·subst hj
  by_cases hi:i < δ.length
  ·rw [List.getElem?_set_self hi] at q
   cases q
   exact ⟨v,List.getElem?_set_self (by rw [← h.len];exact hi),r⟩
  ·rw [List.getElem?_eq_none (by simpa using hi)] at q;cases q
 ·rw [List.getElem?_set_ne hj] at q
  obtain ⟨w,e1,r1⟩:=h.at_ j e q
  exact ⟨w,by rw [List.getElem?_set_ne hj];exact e1,r1⟩
theorem a3K.setN {δ:DS} {σ:L2.St} {i:Nat} {x:Option V} (h:a3K g S H δ σ):a3K g S H (δ.set i none) (σ.set i x):=by
 refine ⟨by rw [List.length_set,List.length_set,h.len],fun j e q=>?_⟩
 by_cases hj:i=j
 ·subst hj
  by_cases hi:i < δ.length
  ·rw [List.getElem?_set_self hi] at q;cases q
  ·rw [List.getElem?_eq_none (by simpa using hi)] at q;cases q
 ·rw [List.getElem?_set_ne hj] at q
  obtain ⟨w,e1,r1⟩:=h.at_ j e q
  exact ⟨w,by rw [List.getElem?_set_ne hj];exact e1,r1⟩
theorem a3K.start {N:List Str}:∀ {ds:List D} {vs:List V},a0c g S H ds vs→a3K g S H (ds.map some ++ List.replicate (N.length - ds.length) none) (L2.start N vs):=by
 have key:∀ (n:Nat) (ds:List D) (vs:List V),a0c g S H ds vs→a3K g S H (ds.map some ++ List.replicate n none) (vs.map some ++ List.replicate n none):=by
  intro n ds
  induction ds with
  | nil =>
   intro vs h
   simp only [a0c] at h
   subst h
   refine ⟨by simp,fun i d e=>?_⟩
   simp only [List.map_nil,List.nil_append,List.getElem?_replicate] at e
   split at e <;> cases e
  | cons d ds ih =>
   intro vs h
   simp only [a0c] at h
   obtain ⟨v,r,e,a,b⟩:=h
   subst e
   have q:=ih r b
   refine ⟨by simpa using q.len,fun i x e=>?_⟩
   cases i with
   | zero=>cases e;exact ⟨v,rfl,a⟩
   | succ i=>exact q.at_ i x e
 intro ds vs h
 have hl:ds.length=vs.length:=by
  induction ds generalizing vs with
  | nil=>simp only [a0c] at h;subst h;rfl
  | cons d ds ih =>
   simp only [a0c] at h
   obtain ⟨v,r,e,a,b⟩:=h
   subst e
   rw [zaw,zaw,ih b]
 unfold L2.start
 rw [← hl]
 exact key _ _ _ h
structure Rel (g:Gd) (S:SS) (H:Hp) (δ:DS) (σ:L2.St):Prop where
 sl:a3K g S H δ σ
 ce:CellsOk g S H
end
end Sv
namespace Sv
open PySem PySem.Spec PyProof.Rows L2
open L2H (RoomH Hot1 PinOk)
def b7F (A:Around) (outer:List Env) (H:Hp) (s:Shared):Option (Addr × Obj)→Prop
 | none=>A.handled=none
 | some p=>Hot1 A p∧PinOk outer H s p
def Mode (A:Around) (outer:List Env) (H:Hp) (s:Shared) (m:Option (Addr × Obj)):Prop:=A.guards=some []∧b7F A outer H s m
abbrev SpM:=Option (Addr × Obj)→Sp
structure FnG (P:Program) (w:World) (K:zbd) (mg:Str→Option Value) (base:Heap) (hot:Bool) (k:Nat) (f:Addr) (fd:FuncData) (ps:List Str) (sp:SpM):Prop where
 len:∀ m vs H Q E,m.isSome=hot→sp m vs H Q E→vs.length=ps.length
 run:∀ (A:Around) (outer:List Env) (s:Shared) (H:Hp) (args:Args) (us:List Value) (vs:List V) (Q:VK) (E:XK) (m:Option (Addr × Obj)),m.isSome=hot→RoomH k A→Mode A outer H s m→Env0 P w K mg base A outer s H →
  BindsTo s fd args (ps.zip us)→Vals vs us→sp m vs H Q E→codeAny (model P w) A (.call (.ref f) args) (CR (L2N.CX P w) outer P w H s Q E) s
theorem FnG.mono {P:Program} {w:World} {K:zbd} {mg:Str→Option Value} {base:Heap} {hot:Bool} {j k:Nat} {f:Addr} {fd:FuncData} {ps:List Str} {sp:SpM} (F:FnG P w K mg base hot j f fd ps sp) (h:j≤k) :
  FnG P w K mg base hot k f fd ps sp:=⟨F.len,fun A outer s H args us vs Q E m hm hr=>F.run A outer s H args us vs Q E m hm (hr.mono h)⟩
theorem FnG.imp {P:Program} {w:World} {K:zbd} {mg:Str→Option Value} {base:Heap} {hot:Bool} {k:Nat} {f:Addr} {fd:FuncData} {ps:List Str} {sp sp':SpM} (F:FnG P w K mg base hot k f fd ps sp)
  (h:∀ m vs H Q E,sp' m vs H Q E→sp m vs H Q E):FnG P w K mg base hot k f fd ps sp' :=
 ⟨fun m vs H Q E z q=>F.len m vs H Q E z (h _ _ _ _ _ q),fun A outer s H args us vs Q E m hm hr hM he hb hv hs=>F.run A outer s H args us vs Q E m hm hr hM he hb hv (h _ _ _ _ _ hs)⟩
def cxM (P:Program) (w:World) (K:zbd) (mg:Str→Option Value) (base:Heap) (N:List Str) (qual:Str) (scope:Scope) (f:Addr) (cd:Value) (A:Around) (outer:List Env) (s:Shared) (H:Hp) (E:XK) (m:Option (Addr × Obj)):Cx :=
 { cxOf (L2N.CX P w) P w K mg base N qual scope f cd A outer s H E with calm:=m.isNone,pn:=m.toList }
theorem a5u {P:Program} {w:World} {K:zbd} {mg:Str→Option Value} {base:Heap} {N ps:List Str} {qual:Str} {scope:Scope} {f:Addr} {cd:Value} {A:Around} {outer:List Env} {s s1:Shared} {H:Hp} {E:XK} {us:List Value} {vs:List V}
  (S:FnScope N ps scope) {m:Option (Addr × Obj)} (hM:Mode A outer H s m) (e0:Env0 P w K mg base A outer s H) (hl:vs.length=ps.length) (r:Vals vs us)
  (x:InCallC s s.heap.objs.size (bindL (envOfC qual scope s.heap.objs.size f cd).kindOf (ps.zip us) (fun _=>none)) (cellsFrom (s.heap.objs.size + 1) scope.names []) (bindC (envOfC qual scope s.heap.objs.size f cd).kindOf (ps.zip us) (fun _=>none)) s1) :
  Inv (cxM P w K mg base N qual scope f cd A outer s H E m) [] (L2.start N vs) H s1:=by
 cases m with
 | none=>exact L2.inv_start S hM.2 e0 hl r x
 | some p=>exact L2H.inv_startH S hM.2.2 e0 hl r x
theorem a6X {N ps:List Str} {scope:Scope} {us:List Value} {n:Nat} (S:FnScope N ps scope) (y:Str × Value) (hy:y∈ps.zip us) :
  scope.names.lookup y.1=some .local∨(scope.names.lookup y.1=some .cell∧((cellsFrom n scope.names []).lookup y.1).isSome=true) :=
 (S.par y.1 (List.of_mem_zip (show (y.1,y.2)∈ps.zip us from hy)).1).imp id fun c=>⟨c,PySem.W.cellsFrom_some _ _ _ (.inl c)⟩
theorem a5s {P:Program} {w:World} {K:zbd} {mg:Str→Option Value} {base:Heap} {N:List Str} {qual:Str} {scope:Scope} {f:Addr} {cd:Value} {A:Around} {outer:List Env} {s:Shared} {H:Hp} {Q:VK} {E:XK} {m:Option (Addr × Obj)} :
  ∀ (fl:Flow) (t:Shared),SP (cxM P w K mg base N qual scope f cd A outer s H E m) [] { nx:=fun _ H1=>Q .non H1,rt:=Q } fl t →
   match fl with
   | .ret u=>CE outer P w H s Q u t
   | .next=>CE outer P w H s Q .none t
   | _=>False
 | .ret _,_,⟨v,_,H1,I,rv,q⟩=>⟨v,H1,I.os,I.bare,I.base,I.hok,rv,q⟩
 | .next,_,⟨_,H1,I,q⟩=>⟨.non,H1,I.os,I.bare,I.base,I.hok,rfl,q⟩
 | .brk,_,⟨_,_,_,q⟩=>q
 | .cont,_,⟨_,_,_,q⟩=>q
theorem b1v {P:Program} {w:World} {K:zbd} {mg:Str→Option Value} {base:Heap} {hot:Bool} {k:Nat} {f:Addr} {name qual:Str} {params:Arguments} {body:List Stmt} {scope:Scope} {dV kV doc pm cdv ct oc:Value} {an od:Option Addr}
  {osl:Array (Option Value)} {N ps:List Str} {sp:SpM} (at_f:K.lookup f=some ⟨oc,od,.func (PySem.W.fnOf name qual params body scope dV kV doc pm an cdv ct),osl⟩) (at_cd:PySem.W.codeIn K cdv qual=true) (S:FnScope N ps scope)
  (len:∀ m vs H Q E,m.isSome=hot→sp m vs H Q E→vs.length=ps.length)
  (hbody:∀ (A:Around) (outer:List Env) (s:Shared) (H:Hp) (vs:List V) (Q:VK) (E:XK) (m:Option (Addr × Obj)),m.isSome=hot→Mode A outer H s m→RoomH k (A.deeper (envOfC qual scope s.heap.objs.size f cdv))→sp m vs H Q E →
   ∃ t,PSs (cxM P w K mg base N qual scope f cdv A outer s H E m) body t∧t { nx:=fun _ H'=>Q .non H',rt:=Q } (L2.start N vs) H) :
  FnG P w K mg base hot (k + 1) f (PySem.W.fnOf name qual params body scope dV kV doc pm an cdv ct) ps sp where
 len:=len
 run A outer s H args us vs Q E m hm hr hM e0 hb r hsp:=by
  have grown:∀ {b o},base.get? b=some o→s.heap.get? b=some o:=fun {b o} e=>(e0.bs b o e).1
  have inK:K.In s.heap:=e0.mod.kin.keeps fun _ _=>grown
  apply codeAny_call_function hr.depth (inK _ _ at_f) rfl S.co S.gen rfl (PySem.W.codeRec_of inK at_cd)
  apply hb
  apply wpAny_newFunctionEnv_cells S.kind (a6X S)
  rintro _ rfl s1 laid
  obtain ⟨t,walks,wants⟩:=hbody A outer s H vs Q E m hm hM (hr.deeper _) hsp
  have I0:=a5u (E:=E) S hM e0 (len _ _ _ _ _ hm hsp) r laid
  refine ⟨(e0.mod.nolimit.keeps fun _ _=>grown).keeps laid.toInCall.keep,codeAny_func (wpAny_mono (walks.run _ _ _ _ _ I0 wants) (fun fl t ended=>?_) fun _ _ x=>x)⟩
  have told:=a5s fl t ended
  cases fl <;> first | exact told | exact told.elim
def a8T (X:Cx):Option (Addr × Obj)→Prop
 | none=>X.calm=true
 | some p=>Hot1 X.A p∧p∈X.pn
def a0N (X:Cx) (m:Option (Addr × Obj)):Prop:=X.A.guards=some []∧a8T X m
theorem a8T.at {X:Cx} {m0:Option (Addr × Obj)} {pins:List (Addr × Obj)} {σ:L2.St} {H:Hp} {s:Shared} (c:a8T X m0) (I:Inv X pins σ H s):b7F X.A X.stack H s m0:=by
 match m0,c with
 | none,c=>exact I.ok.hd c
 | some p,⟨h,hp⟩ =>
  have ⟨get,free,noLoc,noFs,noCell⟩:=I.pin p (zar pins hp)
  refine ⟨h,get,free,fun z=>?_,noCell⟩
  rcases zat.mp (I.stkSub _ z) with z | z
  ·exact noLoc z
  ·exact noFs z
theorem a0N.at {X:Cx} {m0:Option (Addr × Obj)} {pins:List (Addr × Obj)} {σ:L2.St} {H:Hp} {s:Shared} (c:a0N X m0) (I:Inv X pins σ H s):Mode X.A X.stack H s m0:=⟨c.1,c.2.at I⟩
section
variable {X:Cx} {hot:Bool} {m0:Option (Addr × Obj)} {k:Nat} {f:Addr} {fd:FuncData} {ps:List Str} {sp:SpM} {dvs:List V} {ds:List Value} {E:L2.St→XK} {x:Str} {q pos:Pos} {e:Expr} {es:List Expr} {t:TA}
theorem a4i {pins:List (Addr × Obj)} {σ:L2.St} {H:Hp} {s:Shared} {Q:VK} {us:List Value} {vs:List V} (F:FnG X.prog X.w X.K X.mg X.base hot k f fd ps sp) (hh:m0.isSome=hot) (room:RoomH k X.A) (mode:a0N X m0) (binds:L2.Binds X.K fd ps ds) (hd:Vals dvs ds)
  (out:PassesAt (L2N.CX X.prog X.w) X σ (E σ)) (I:Inv X pins σ H s) (rv:Vals vs us) (want:sp m0 (vs ++ dvs) H Q (E σ)):wpAny (model X.prog X.w) X.A (call (.ref f) us) (EP X pins σ Q) X.xe s:=by
 have all:=rv.append hd
 have whole:=F.run X.A X.stack s H ⟨us,[]⟩ (us ++ ds) _ Q (E σ) m0 hh room (mode.at I) I.env0 (binds s us I.kIn (all.length ▸ F.len _ _ _ _ _ hh want)) all want
 apply wpAny_call
 refine codeAny_mono whole ?_
 rintro (err | (_ | u | _ | _)) s' told
 ·exact out _ _ _ _ _ I told
 all_goals first | exact I.after told | exact told.elim
def tCallG (m0:Option (Addr × Obj)) (sp:SpM) (dvs:List V) (E:L2.St→XK) (t:TA):TE:=fun σ H Q=>t σ H fun vs H1=>sp m0 (vs ++ dvs) H1 Q (E σ)
structure Named (X:Cx) (x:Str) (f:Addr):Prop where
 gl:Gl X x
 mg:X.mg x=some (.ref f)
 kp:PySem.W.keepIn X.K (.ref f)=true
 db:(x == ("__debug__" : Str))=false
theorem pe_callG (F:FnG X.prog X.w X.K X.mg X.base hot k f fd ps sp) (hh:m0.isSome=hot) (room:RoomH k X.A) (mode:a0N X m0) (nm:Named X x f) (binds:L2.Binds X.K fd ps ds) (hd:Vals dvs ds)
  (out:∀ σ,PassesAt (L2N.CX X.prog X.w) X σ (E σ)) (args:PA X (e :: es) t) (plain:starEach (e :: es) X.env=(false,eval e X.env) :: starEach es X.env) (rest:(backTo pos (starEach es X.env)).any (·.1)=false) :
  PE X (.Call (.Name x q) (e :: es) [] pos) (tCallG m0 sp dvs E t) where
 run pins s σ H Q I want:=wpAny_Call_Name_kw (ld_glob I nm.gl nm.mg (PySem.W.callWith_K (h₀:=X.base) I.ok.mod.kin nm.kp
  (thn (args.run pos pins s σ H _ I want) fun _ _ ⟨_,_,J,rv,go⟩=>⟨J.kIn,a4i F hh room mode binds hd (out σ) J rv go⟩) plain rest) nm.db)
theorem a6Y (F:FnG X.prog X.w X.K X.mg X.base hot k f fd ps sp) (hh:m0.isSome=hot) (room:RoomH k X.A) (mode:a0N X m0) (nm:Named X x f) (binds:L2.Binds X.K fd ps ds) (hd:Vals dvs ds) (out:∀ σ,PassesAt (L2N.CX X.prog X.w) X σ (E σ)) :
  PE X (.Call (.Name x q) [] [] pos) (tCallG m0 sp dvs E tNil) where
 run pins s σ H Q I want:=wpAny_Call_Name_kw (ld_glob I nm.gl nm.mg (PySem.W.callWith_K0 I.kIn nm.kp (a4i F hh room mode binds hd (out σ) I .nil want)) nm.db)
end
end Sv
namespace Sv
open PySem PySem.Spec PyProof.Rows L2
abbrev DK:=D→SS→Prop
section
variable {α β:Type} {F:α→β→Prop}
theorem a3D {xs:List α} {us:List β} (h:Paired F xs us):∃ ps:List {p:α × β // F p.1 p.2},ps.map (fun p=>p.1.1)=xs∧ps.map (fun p=>p.1.2)=us:=by
 induction h with
 | nil=>exact ⟨[],rfl,rfl⟩
 | cons r _ more =>
  obtain ⟨ps,rfl,rfl⟩:=more
  exact ⟨⟨(_,_),r⟩ :: ps,rfl,rfl⟩
theorem a95 (ps:List {p:α × β // F p.1 p.2}):Paired F (ps.map fun p=>p.1.1) (ps.map fun p=>p.1.2):=by
 induction ps with
 | nil=>exact .nil
 | cons p ps more=>exact .cons p.2 more
theorem a2f (f:∀ {γ:Type},List γ→List γ) (nat:∀ {γ δ:Type} (h:γ→δ) (l:List γ),f (l.map h)=(f l).map h) {xs:List α} {us:List β} (r:Paired F xs us):Paired F (f xs) (f us):=by
 obtain ⟨ps,rfl,rfl⟩:=a3D r
 rw [nat,nat]
 exact a95 _
theorem a67 {xs:List α} {us:List β} {i:Nat} {x:α} (r:Paired F xs us) (e:xs[i]?=some x):∃ u,us[i]?=some u∧F x u:=by
 obtain ⟨ps,rfl,rfl⟩:=a3D r
 rw [zbb] at e
 rw [zbb]
 cases at_i:ps[i]? with
 | none=>rw [at_i] at e;exact nomatch e
 | some p =>
  rw [at_i] at e
  cases e
  exact ⟨p.1.2,rfl,p.2⟩
theorem b2p {x:α} {u:β} (r:F x u) {xs:List α} {us:List β} (i:Nat) (rs:Paired F xs us):Paired F (xs.set i x) (us.set i u):=by
 obtain ⟨ps,rfl,rfl⟩:=a3D rs
 have put:=a95 (ps.set i ⟨(x,u),r⟩)
 rwa [List.map_set,List.map_set] at put
theorem a3C {xs ys:List α} {us ws:List β} (r:Paired F xs us) (q:Paired F ys ws):Paired F (xs ++ ys) (us ++ ws):=by
 obtain ⟨ps,rfl,rfl⟩:=a3D r
 obtain ⟨qs,rfl,rfl⟩:=a3D q
 rw [← zau,← zau]
 exact a95 _
theorem a96 {xs:List α} {us:List β} (n:Nat):Paired F xs us→Paired F (xs.take n) (us.take n):=a2f (fun l=>l.take n) fun h l=>List.map_take.symm
theorem a94 {xs:List α} {us:List β} (n:Nat):Paired F xs us→Paired F (xs.drop n) (us.drop n):=a2f (fun l=>l.drop n) fun h l=>List.map_drop.symm
theorem a5A {xs:List α} {us:List β}:Paired F xs us→Paired F xs.reverse us.reverse:=a2f List.reverse fun h l=>List.map_reverse.symm
theorem a4e {xs:List α} {us:List β}:Paired F xs us→Paired F xs.dropLast us.dropLast:=a2f List.dropLast fun h l=>List.map_dropLast.symm
end
section
variable {g:Gd} {S S':SS} {H H':Hp}
abbrev RP (g:Gd) (S:SS) (H:Hp):List D→List V→Prop:=Paired fun d v=>Rep g S H d v
theorem a1J:∀ {ds:List D} {vs:List V},a0c g S H ds vs→RP g S H ds vs
 | [],_,h=>by simp only [a0c] at h;subst h;exact .nil
 | d :: ds,_,h=>by
  simp only [a0c] at h
  obtain ⟨v,r,e,a,b⟩:=h
  subst e
  exact .cons a (a1J b)
theorem a2c:∀ {ds:List D} {vs:List V},RP g S H ds vs→a0c g S H ds vs
 | _,_,.nil=>by simp only [a0c]
 | _,_,.cons a b=>by simp only [a0c];exact ⟨_,_,rfl,a,a2c b⟩
abbrev RPK (g:Gd) (S:SS) (H:Hp):List (Key × D)→List (Key × V)→Prop:=Paired fun d v=>d.1=v.1∧Rep g S H d.2 v.2
theorem a0A:∀ {ds:List (Key × D)} {vs:List (Key × V)},a0v g S H ds vs→RPK g S H ds vs
 | [],_,h=>by simp only [a0v] at h;subst h;exact .nil
 | (k,d) :: ds,_,h=>by
  simp only [a0v] at h
  obtain ⟨v,r,e,a,b⟩:=h
  subst e
  exact .cons ⟨rfl,a⟩ (a0A b)
theorem a6Q:∀ {ds:List (Key × D)} {vs:List (Key × V)},RPK g S H ds vs→a0v g S H ds vs
 | _,_,.nil=>by simp only [a0v]
 | (k,d) :: _,(k',v) :: _,.cons a b=>by
  obtain ⟨e,a⟩:=a
  cases e
  simp only [a0v]
  exact ⟨v,_,rfl,a,a6Q b⟩
theorem a0c.length {ds:List D} {vs:List V} (h:a0c g S H ds vs):ds.length=vs.length:=Paired.length (a1J h)
theorem a0c.get {ds:List D} {vs:List V} (h:a0c g S H ds vs) {i:Nat} {d:D} (e:ds[i]?=some d):∃ v,vs[i]?=some v∧Rep g S H d v:=a67 (a1J h) e
theorem a0c.append {ds es:List D} {vs us:List V} (h:a0c g S H ds vs) (h':a0c g S H es us):a0c g S H (ds ++ es) (vs ++ us):=a2c (a3C (a1J h) (a1J h'))
theorem a0c.take {ds:List D} {vs:List V} (h:a0c g S H ds vs) (n:Nat):a0c g S H (ds.take n) (vs.take n):=a2c (a96 n (a1J h))
theorem a0c.drop {ds:List D} {vs:List V} (h:a0c g S H ds vs) (n:Nat):a0c g S H (ds.drop n) (vs.drop n):=a2c (a94 n (a1J h))
theorem a0c.set {ds:List D} {vs:List V} (h:a0c g S H ds vs) {i:Nat} {d:D} {v:V} (r:Rep g S H d v):a0c g S H (ds.set i d) (vs.set i v):=a2c (b2p r i (a1J h))
theorem a0c.reverse {ds:List D} {vs:List V} (h:a0c g S H ds vs):a0c g S H ds.reverse vs.reverse:=a2c (a5A (a1J h))
theorem a0c.at {ds:List D} {vs:List V} (h:a0c g S H ds vs) {i:Int} {d:D} (e:atI ds i=some d):∃ v,atI vs i=some v∧Rep g S H d v:=by
 unfold atI at e ⊢
 rw [← h.length]
 cases q:ixN ds.length i with
 | none=>rw [q] at e;cases e
 | some j =>
  rw [q] at e
  exact h.get e
def vw (S:SS):D→D
 | .obj a=>match S a with
  | some (.lst ds)=>.lst ds
  | some (.dic k)=>.dic k
  | some (.loc k)=>.dic k
  | _=>.obj a
 | d=>d
def dv (S:SS):Nat→D→D
 | 0,d=>d
 | n + 1,d=>match vw S d with
  | .lst ds=>.lst (ds.map (dv S n))
  | .tup ds=>.tup (ds.map (dv S n))
  | d=>d
theorem a0g {d:D} {ds:List D} {v:V} (hc:CellsOk g S H) (r:Rep g S H d v) (e:vw S d=.lst ds):∃ p vs,v=.ref p∧SqL g.K H p vs∧a0c g S H ds vs:=by
 cases d with
 | lst xs =>
  have e':D.lst xs=.lst ds:=e
  cases e'
  simp only [Rep] at r
  obtain ⟨p,vs,e1,a,b⟩:=r
  exact ⟨p,vs,e1,a.sq,b⟩
 | obj a =>
  simp only [Rep] at r
  have e':(match S a with | some (.lst ds)=>D.lst ds | some (.dic k)=>.dic k | some (.loc k)=>.dic k | _=>.obj a)=.lst ds:=e
  cases q:S a with
  | none=>rw [q] at e';cases e'
  | some c =>
   rw [q] at e'
   cases c with
   | lst xs =>
    cases e'
    obtain ⟨vs,h1,h2⟩:=hc a _ q
    exact ⟨a,vs,r,.inl (.inl h1),h2⟩
   | _=>cases e'
 | _=>cases e
theorem a0s {d:D} {ds:List D} {v:V} (r:Rep g S H d v) (e:vw S d=.tup ds):∃ p vs,v=.ref p∧SqT g.K H p vs∧a0c g S H ds vs:=by
 cases d with
 | tup xs =>
  have e':D.tup xs=.tup ds:=e
  cases e'
  simp only [Rep] at r
  obtain ⟨p,vs,e1,a,b⟩:=r
  exact ⟨p,vs,e1,a.sq,b⟩
 | obj a =>
  have e':(match S a with | some (.lst ds)=>D.lst ds | some (.dic k)=>.dic k | some (.loc k)=>.dic k | _=>.obj a)=.tup ds:=e
  cases q:S a with
  | none=>rw [q] at e';cases e'
  | some c =>
   rw [q] at e'
   cases c <;> cases e'
 | _=>cases e
theorem a0V {d:D} {ds:List (Key × D)} {v:V} (hc:CellsOk g S H) (r:Rep g S H d v) (e:vw S d=.dic ds):∃ p vs,v=.ref p∧Rd H p (.dK vs)∧a0v g S H ds vs:=by
 cases d with
 | dic xs =>
  have e':D.dic xs=.dic ds:=e
  cases e'
  simp only [Rep] at r
  obtain ⟨p,vs,e1,_,a,b⟩:=r
  exact ⟨p,vs,e1,.inl a,b⟩
 | obj a =>
  simp only [Rep] at r
  have e':(match S a with | some (.lst ds)=>D.lst ds | some (.dic k)=>.dic k | some (.loc k)=>.dic k | _=>.obj a)=.dic ds:=e
  cases q:S a with
  | none=>rw [q] at e';cases e'
  | some c =>
   rw [q] at e'
   cases c with
   | dic xs =>
    cases e'
    obtain ⟨vs,h1,h2⟩:=hc a _ q
    exact ⟨a,vs,r,.inl h1,h2⟩
   | loc xs =>
    cases e'
    obtain ⟨vs,o,h1,h2⟩:=hc a _ q
    exact ⟨a,vs,r,.inr ⟨o,h1⟩,h2⟩
   | _=>cases e'
 | _=>cases e
theorem a1K {d x:D} {v:V} (r:Rep g S H d v) (e:vw S d=x) (h:∀ ds,x≠.lst ds) (h2:∀ ds,x≠.dic ds):Rep g S H x v:=by
 cases d with
 | obj a =>
  have e':(match S a with | some (.lst ds)=>D.lst ds | some (.dic k)=>.dic k | some (.loc k)=>.dic k | _=>.obj a)=x:=e
  cases q:S a with
  | none=>rw [q] at e';subst e';exact r
  | some c =>
   rw [q] at e'
   cases c with
   | lst xs=>subst e';exact absurd rfl (h _)
   | dic xs=>subst e';exact absurd rfl (h2 _)
   | loc xs=>subst e';exact absurd rfl (h2 _)
   | ins _ _=>subst e';exact r
 | _=>subst e;exact r
def Res (g:Gd) (S:SS) (H:Hp) (K:DK) (Q:VK):Prop:=∀ d S' v H',K d S'→a0a S H S' H'→CellsOk g S' H'→Rep g S' H' d v→Q v H'
theorem Res.val {K:DK} {Q:VK} {d:D} {v:V} (r:Res g S H K Q) (k:K d S) (hc:CellsOk g S H) (h:Rep g S H d v):Q v H:=r d S v H k (a0a.refl _ _) hc h
theorem Res.int {K:DK} {Q:VK} {i:Int} (r:Res g S H K Q) (k:K (.int i) S) (hc:CellsOk g S H):Q (.int i) H:=r.val k hc (by simp only [Rep])
theorem Res.bl {K:DK} {Q:VK} {i:Bool} (r:Res g S H K Q) (k:K (.bl i) S) (hc:CellsOk g S H):Q (.bl i) H:=r.val k hc (by simp only [Rep])
theorem Res.str {K:DK} {Q:VK} {i:Str} (r:Res g S H K Q) (k:K (.str i) S) (hc:CellsOk g S H):Q (.str i) H:=r.val k hc (by simp only [Rep])
theorem Res.non {K:DK} {Q:VK} (r:Res g S H K Q) (k:K .non S) (hc:CellsOk g S H):Q .non H:=r.val k hc (by simp only [Rep])
theorem Res.lst {K:DK} {Q:VK} {ds:List D} {vs:List V} {p:Addr} (r:Res g S H K Q) (k:K (.lst ds) S) (hc:CellsOk g S H) (h:a0c g S H ds vs) (e:H p=none):Q (.ref p) (upd H p (.lst vs)) :=
 r _ S _ _ k (a0a.new e) (hc.new e) (by simp only [Rep];exact ⟨p,vs,rfl,.inl ⟨hc.free e,.inl upd_same⟩,h.mono (a0a.new e)⟩)
theorem Res.tup {K:DK} {Q:VK} {ds:List D} {vs:List V} {p:Addr} (r:Res g S H K Q) (k:K (.tup ds) S) (hc:CellsOk g S H) (h:a0c g S H ds vs) (e:H p=none):Q (.ref p) (upd H p (.tup vs)) :=
 r _ S _ _ k (a0a.new e) (hc.new e) (by simp only [Rep];exact ⟨p,vs,rfl,.inl ⟨hc.free e,upd_same⟩,h.mono (a0a.new e)⟩)
theorem Res.dic {K:DK} {Q:VK} {ds:List (Key × D)} {vs:List (Key × V)} {p:Addr} (r:Res g S H K Q) (k:K (.dic ds) S) (hc:CellsOk g S H) (h:a0v g S H ds vs) (e:H p=none):Q (.ref p) (upd H p (.dK vs)) :=
 r _ S _ _ k (a0a.new e) (hc.new e) (by simp only [Rep];exact ⟨p,vs,rfl,hc.free e,upd_same,h.mono (a0a.new e)⟩)
theorem Res.lstC {K:DK} {Q:VK} {ds:List D} {vs:List V} {p:Addr} (r:Res g S H K Q) (k:∀ p,S p=none→K (.obj p) (S.set p (.lst ds))) (hc:CellsOk g S H) (h:a0c g S H ds vs) (e:H p=none):Q (.ref p) (upd H p (.lst vs)) :=
 r _ _ _ _ (k p (hc.free e)) (a0a.newC e) (hc.newC e ⟨vs,upd_same,h.mono (a0a.newC e)⟩) (by simp only [Rep])
theorem Res.dicC {K:DK} {Q:VK} {ds:List (Key × D)} {vs:List (Key × V)} {p:Addr} (r:Res g S H K Q) (k:∀ p,S p=none→K (.obj p) (S.set p (.dic ds))) (hc:CellsOk g S H) (h:a0v g S H ds vs) (e:H p=none):Q (.ref p) (upd H p (.dK vs)) :=
 r _ _ _ _ (k p (hc.free e)) (a0a.newC e) (hc.newC e ⟨vs,upd_same,h.mono (a0a.newC e)⟩) (by simp only [Rep])
def rD2 (g:Gd) (t:D→D→SS→DK→Prop):R2:=fun v u H Q=>∃ x y S K,CellsOk g S H∧Rep g S H x v∧Rep g S H y u∧t x y S K∧Res g S H K Q
def rDc (g:Gd) (t:List D→SS→DK→Prop):List V→Hp→VK→Prop:=fun vs H Q=>∃ xs S K,CellsOk g S H∧a0c g S H xs vs∧t xs S K∧Res g S H K Q
def rDm (g:Gd) (t:D→List D→SS→DK→Prop):V→List V→Hp→VK→Prop:=fun v vs H Q=>∃ x xs S K,CellsOk g S H∧Rep g S H x v∧a0c g S H xs vs∧t x xs S K∧Res g S H K Q
end
def a9P (x y:D) (S:SS) (Q:DK):Prop:=match vw S x,vw S y with
 | .int i,.int j=>Q (.int (i + j)) S
 | .str a,.str b=>a.length + b.length≤sizeLine∧Q (.str (a ++ b)) S
 | .lst a,.lst b=>a.length + b.length≤sizeLine∧Q (.lst (a ++ b)) S
 | .tup a,.tup b=>a.length + b.length≤sizeLine∧Q (.tup (a ++ b)) S
 | _,_=>False
def a80 (x y:D) (S:SS) (Q:DK):Prop:=match vw S x,vw S y with
 | .lst a,.lst b=>a.length + b.length≤sizeLine∧∀ p,S p=none→Q (.obj p) (S.set p (.lst (a ++ b)))
 | _,_=>False
def a9U (x y:D) (S:SS) (Q:DK):Prop:=match x,y with
 | .int i,.int j=>Q (.int (i - j)) S
 | _,_=>False
def b2r (z:Str) (k:Nat):Str:=⟨(List.replicate k z.cps).foldl (· ++ ·) #[]⟩
def a9S (x y:D) (S:SS) (Q:DK):Prop:=match x,y with
 | .int i,.int j=>(CMul i j∨CMulW i j)∧Q (.int (i * j)) S
 | .lst xs,.int k=>-(2 ^ 63)≤k∧k < 2 ^ 63∧xs.length * k.toNat≤sizeLine∧Q (.lst (List.replicate k.toNat xs).flatten) S
 | .str z,.int k=>2≤k∧k < 1000∧0 < z.length∧z.length * k.toNat≤1000000∧Q (.str (b2r z k.toNat)) S
 | _,_=>False
def a9Q (x y:D) (S:SS) (Q:DK):Prop:=match x,y with
 | .int i,.int j=>CDivW i j∧Q (.int (i / j)) S
 | _,_=>False
def a9R (x y:D) (S:SS) (Q:DK):Prop:=match x,y with
 | .int i,.int j=>0 < j∧Q (.int (i % j)) S
 | _,_=>False
def a9T (x y:D) (S:SS) (Q:DK):Prop:=match x,y with
 | .int i,.int j=>CPow i j∧Q (.int (i ^ j.toNat)) S
 | _,_=>False
def opD:Operator→D→D→SS→DK→Prop
 | .Add=>a9P | .Sub=>a9U | .Mult=>a9S | .FloorDiv=>a9Q | .Mod=>a9R | .Pow=>a9T | _=>fun _ _ _ _=>False
section
variable {X:Cx} {g:Gd}
theorem a6R:OpR X (binaryOp .Add) (fun x y H Q=>∃ l b xs zs,x=.ref l∧y=.ref b∧SqL X.K H l xs∧SqL X.K H b zs∧xs.length + zs.length≤sizeLine∧∀ p,H p=none→Q (.ref p) (upd H p (.lst (xs ++ zs)))):=by
 intro pins s σ H x y v u Q I rx ry h
 obtain ⟨l,b,xs,zs,rfl,rfl,hl,hb,hz,q⟩:=h
 cases rx
 cases ry
 obtain ⟨its,r1,p1,z1⟩:=I.list hl
 obtain ⟨its2,r2,p2,z2⟩:=I.list hb
 obtain ⟨⟨cls,dd,data,sl⟩,n,ho,hc,hdd,hd⟩:=p1
 obtain ⟨⟨cls2,dd2,data2,sl2⟩,n2,ho2,hc2,hdd2,hd2⟩:=p2
 simp only at hc hd hc2 hd2
 subst hc hd hc2 hd2
 have e1:=r1.length
 have e2:=r2.length
 have e:its.toArray ++ its2.toArray=(its ++ its2).toArray:=by simp
 refine PySem.concat_meets ⟨_,ho,rfl⟩ ⟨_,ho2,rfl⟩ PySem.noFill_list_add PySem.seq_list_add PySem.F.slot_list_add PySem.F.entry_list_add (PySem.F.args_list_add_2 _ _) (list_addW l b its.toArray its2.toArray n n2 dd dd2 sl sl2 (by simpa [← e1,← e2] using hz)) ⟨ho,ho2,?_⟩
 rw [e]
 exact ⟨.ref _,_,I.lnew (t':=s.toks) (r1.append r2) (by rw [List.length_append];omega),rfl,q _ I.fresh⟩
theorem a9V:OpR X (binaryOp .Mult) (fun x y H Q=>∃ l k xs,x=.ref l∧y=.int k∧SqL X.K H l xs∧-(2 ^ 63)≤k∧k < 2 ^ 63∧xs.length * k.toNat≤sizeLine∧∀ p,H p=none→Q (.ref p) (upd H p (.lst (List.replicate k.toNat xs).flatten))):=by
 intro pins s σ H x y v u Q I rx ry h
 obtain ⟨l,k,xs,rfl,rfl,hl,lo,hi,few,q⟩:=h
 cases rx
 obtain ⟨t,rfl⟩:=ry
 obtain ⟨its,rv,pl,z⟩:=I.list hl
 obtain ⟨⟨cls,dd,data,sl⟩,n,ho,hc,hdd,hd⟩:=pl
 simp only at hc hd
 subst hc hd
 have len:=rv.length
 have few':its.toArray.size * k.toNat≤sizeLine:=by rw [List.size_toArray,← len];exact few
 have cap:(sizeLine:Nat)≤(2 ^ 63 - 1) / 8:=by decide
 have flat:List.foldl (fun x1 x2=>x1 ++ x2) #[] (List.replicate (if its.toArray.isEmpty=true then 0 else k.toNat) its.toArray)=(List.replicate k.toNat its).flatten.toArray:=by
  have go:∀ m:Nat,List.foldl (fun x1 x2=>x1 ++ x2) #[] (List.replicate m its.toArray)=(List.replicate m its).flatten.toArray:=fun m=>by
   have:=foldl_rep its m []
   rwa [List.nil_append] at this
  rw [go]
  cases its with
  | nil=>simp
  | cons a r=>rw [if_neg (by simp)]
 refine wpAny_binaryOp_repeat_ref (T := "list") (U := "int") (by decide) ⟨_,ho,rfl⟩ (fun s'=>typeIs_int s' k t) noFill_list_mul F.fills_int_mul F.slot_int_rmul repeat_list F.slot_int_index.lookup
  (call_meets F.slot_int_rmul (typeIs_int s k t) F.entry_int_rmul (F.args_int_rmul_2 _ _) (lm_int_rmul_list_any k t l its.toArray n dd sl)
   ⟨ho,rfl,⟨_,ho,rfl⟩,call_meets F.slot_list_mul ⟨_,ho,rfl⟩ F.entry_list_mul (F.args_list_mul_2 _ _) (lm_list_mul_any l its.toArray n dd sl k t (by rw [fitsIndex_both lo hi];exact zaz) (by omega) (by rw [notLongL few'];exact zaz)) ⟨ho,?_⟩⟩)
 rw [flat]
 exact ⟨.ref _,_,I.lnew (t':=s.toks) (rv.rep k.toNat) (by rw [PyProof.Rows.lm_len_rep_flat,Nat.mul_comm];exact few),rfl,q _ I.fresh⟩
theorem a3j (a:Array Nat):∀ (n:Nat) (acc:Array Nat),((List.replicate n a).foldl (· ++ ·) acc).size=acc.size + n * a.size
 | 0,acc=>by simp
 | n + 1,acc=>by
  rw [List.replicate_succ,List.foldl_cons,a3j a n,Array.size_append,Nat.succ_mul]
  omega
theorem a8e (z:Str) (n:Nat):(b2r z n).length=z.length * n:=by
 show ((List.replicate n z.cps).foldl (· ++ ·) #[]).size=z.cps.size * n
 rw [a3j,Nat.mul_comm]
 simp
theorem a9W:OpR X (binaryOp .Mult) (fun x y H Q=>∃ z k,x=.str z∧y=.int k∧2≤k∧k < 1000∧0 < z.length∧z.length * k.toNat≤1000000∧Q (.str (b2r z k.toNat)) H):=by
 intro pins s σ H x y v u Q I rx ry h
 obtain ⟨z,k,rfl,rfl,lo,hi,ln,few,q⟩:=h
 obtain ⟨t,rfl⟩:=rx
 obtain ⟨t',rfl⟩:=ry
 have big:(2:Int) ^ 63=9223372036854775808:=by decide
 refine PySem.P.mul_str ?_ (fun _ _=>?_) (fun _ _=>?_) ?_
 ·rw [decide_eq_false (by omega),decide_eq_false (by omega)];rfl
 ·have e:=Int.toNat_of_nonneg (show 0≤k by omega)
  have hk:0 < k:=by omega
  have e2:(z.length:Int) * k=((z.length * k.toNat:Nat):Int):=by rw [Int.natCast_mul,e]
  rw [show ((2:Int) ^ 63 - 1)=9223372036854775807 by decide]
  have h2:(z.length:Int)≤9223372036854775807 / k:=by
   rw [Int.le_ediv_iff_mul_le hk,e2]
   omega
  omega
 ·unfold Builtin.Str.tooLong
  simp only [decide_eq_false_iff_not]
  have:(sizeLine:Nat)=16777216:=rfl
  omega
 ·rw [if_neg (by omega),if_neg (by
   rw [Bool.or_eq_true,not_or]
   refine ⟨fun e=>?_,fun e=>?_⟩
   ·have:=eq_of_beq e
    omega
   ·have:=eq_of_beq e
    omega)]
  refine ⟨?_,.str (b2r z k.toNat),H,I.tok _,⟨_,rfl⟩,q⟩
  have:=a8e z k.toNat
  have e:(sizeLine:Nat)=16777216:=rfl
  show (b2r z k.toNat).length≤sizeLine
  omega
theorem a0c.rep {g:Gd} {S:SS} {H:Hp} {ds:List D} {vs:List V} (h:a0c g S H ds vs):∀ k:Nat,a0c g S H (List.replicate k ds).flatten (List.replicate k vs).flatten
 | 0=>by simp only [List.replicate_zero,List.flatten_nil,a0c]
 | k + 1=>by
  rw [List.replicate_succ,List.replicate_succ,List.flatten_cons,List.flatten_cons]
  exact h.append (a0c.rep h k)
theorem a0d {S:SS} {H:Hp} {i:Int} {v:V} (h:Rep g S H (.int i) v):v=.int i:=by simpa only [Rep] using h
theorem a1t {S:SS} {H:Hp} {i:Bool} {v:V} (h:Rep g S H (.bl i) v):v=.bl i:=by simpa only [Rep] using h
theorem a0o {S:SS} {H:Hp} {i:Str} {v:V} (h:Rep g S H (.str i) v):v=.str i:=by simpa only [Rep] using h
theorem a2V {S:SS} {H:Hp} {v:V} (h:Rep g S H .non v):v=.non:=by simpa only [Rep] using h
theorem a0n {S:SS} {H:Hp} {a:Addr} {v:V} (h:Rep g S H (.obj a) v):v=.ref a:=by simpa only [Rep] using h
theorem a5j {S:SS} {H:Hp} {d:D} {i:Int} {v:V} (r:Rep g S H d v) (e:vw S d=.int i):v=.int i:=a0d (a1K r e (fun _ z=>nomatch z) (fun _ z=>nomatch z))
theorem b3q {S:SS} {H:Hp} {d:D} {i:Bool} {v:V} (r:Rep g S H d v) (e:vw S d=.bl i):v=.bl i:=a1t (a1K r e (fun _ z=>nomatch z) (fun _ z=>nomatch z))
theorem a1x {S:SS} {H:Hp} {d:D} {i:Str} {v:V} (r:Rep g S H d v) (e:vw S d=.str i):v=.str i:=a0o (a1K r e (fun _ z=>nomatch z) (fun _ z=>nomatch z))
theorem a8O {S:SS} {H:Hp} {d:D} {v:V} (r:Rep g S H d v) (e:vw S d=.non):v=.non:=a2V (a1K r e (fun _ z=>nomatch z) (fun _ z=>nomatch z))
theorem b0L (hK:g.K=X.K):OpR X (binaryOp .Add) (rD2 g a80):=by
 intro pins s σ H v1 v2 u1 u2 Q I r1 r2 h
 obtain ⟨x,y,S,K,hc,p1,p2,ht,res⟩:=h
 unfold a80 at ht
 split at ht
 ·rename_i a b e1 e2
  obtain ⟨p,vs,rfl,hl,hr⟩:=a0g hc p1 e1
  obtain ⟨q,us,rfl,hl2,hr2⟩:=a0g hc p2 e2
  rw [hK] at hl hl2
  exact a6R pins s σ H _ _ _ _ Q I r1 r2 ⟨p,q,vs,us,rfl,rfl,hl,hl2,by rw [← hr.length,← hr2.length];exact ht.1,fun r hn=>res.lstC ht.2 hc (hr.append hr2) hn⟩
 ·exact ht.elim
theorem b2c (hK:g.K=X.K):∀ op:Operator,OpR X (binaryOp op) (rD2 g (opD op)):=by
 intro op pins s σ H v1 v2 u1 u2 Q I r1 r2 h
 obtain ⟨x,y,S,K,hc,p1,p2,ht,res⟩:=h
 cases op with
 | Add =>
  change a9P x y S K at ht
  unfold a9P at ht
  split at ht
  ·rename_i i j e1 e2
   cases a5j p1 e1
   cases a5j p2 e2
   exact op_add pins s σ H _ _ _ _ Q I r1 r2 ⟨i,j,rfl,rfl,res.int ht hc⟩
  ·rename_i i j e1 e2
   cases a1x p1 e1
   cases a1x p2 e2
   exact op_add_str pins s σ H _ _ _ _ Q I r1 r2 ⟨i,j,rfl,rfl,ht.1,res.str ht.2 hc⟩
  ·rename_i i j e1 e2
   obtain ⟨p,vs,rfl,hl,hr⟩:=a0g hc p1 e1
   obtain ⟨q,us,rfl,hl2,hr2⟩:=a0g hc p2 e2
   rw [hK] at hl hl2
   exact a6R pins s σ H _ _ _ _ Q I r1 r2 ⟨p,q,vs,us,rfl,rfl,hl,hl2,by rw [← hr.length,← hr2.length];exact ht.1,fun z hz=>res.lst ht.2 hc (hr.append hr2) hz⟩
  ·rename_i i j e1 e2
   obtain ⟨p,vs,rfl,hl,hr⟩:=a0s p1 e1
   obtain ⟨q,us,rfl,hl2,hr2⟩:=a0s p2 e2
   have hl':=hl
   have hl2':=hl2
   rw [hK] at hl hl2
   have f1:vw S x=x:=by
    cases x with
    | tup _=>rfl
    | obj a =>
     have e':(match S a with | some (.lst ds)=>D.lst ds | some (.dic k)=>.dic k | some (.loc k)=>.dic k | _=>.obj a)=.tup i:=e1
     cases q:S a with
     | none=>rw [q] at e';cases e'
     | some c=>rw [q] at e';cases c <;> cases e'
    | _=>cases e1
   have f2:vw S y=y:=by
    cases y with
    | tup _=>rfl
    | obj a =>
     have e':(match S a with | some (.lst ds)=>D.lst ds | some (.dic k)=>.dic k | some (.loc k)=>.dic k | _=>.obj a)=.tup j:=e2
     cases q:S a with
     | none=>rw [q] at e';cases e'
     | some c=>rw [q] at e';cases c <;> cases e'
    | _=>cases e2
   have g1:x=.tup i:=f1.symm.trans e1
   have g2:y=.tup j:=f2.symm.trans e2
   subst g1 g2
   refine op_catA pins s σ H _ _ _ _ Q I r1 r2 ⟨p,q,vs,us,rfl,rfl,hl,hl2,by rw [← hr.length,← hr2.length];exact ht.1,fun z=>?_,fun _ z=>?_,fun _ _ a ha=>res.tup ht.2 hc (hr.append hr2) ha⟩
   ·have hi:i=[]:=by
     have e:=hr.length
     rw [z] at e
     exact List.eq_nil_of_length_eq_zero e
    refine res.val (d:=.tup (i ++ j)) ht.2 hc ?_
    rw [hi]
    exact p2
   ·have hi:j=[]:=by
     have e:=hr2.length
     rw [z] at e
     exact List.eq_nil_of_length_eq_zero e
    refine res.val (d:=.tup (i ++ j)) ht.2 hc ?_
    rw [hi,List.append_nil]
    exact p1
  ·exact ht.elim
 | Sub =>
  change a9U x y S K at ht
  unfold a9U at ht
  split at ht
  ·rename_i i j
   cases a0d p1
   cases a0d p2
   exact op_sub pins s σ H _ _ _ _ Q I r1 r2 ⟨i,j,rfl,rfl,res.int ht hc⟩
  ·exact ht.elim
 | Mult =>
  change a9S x y S K at ht
  unfold a9S at ht
  split at ht
  ·rename_i i j
   cases a0d p1
   cases a0d p2
   rcases ht.1 with hm | hm
   ·exact op_mul pins s σ H _ _ _ _ Q I r1 r2 ⟨i,j,rfl,rfl,hm,res.int ht.2 hc⟩
   ·exact op_mulW pins s σ H _ _ _ _ Q I r1 r2 ⟨i,j,rfl,rfl,hm,res.int ht.2 hc⟩
  ·rename_i xs j
   cases a0d p2
   obtain ⟨p,vs,rfl,hl,hr⟩:=a0g hc p1 rfl
   rw [hK] at hl
   exact a9V pins s σ H _ _ _ _ Q I r1 r2 ⟨p,j,vs,rfl,rfl,hl,ht.1,ht.2.1,by rw [← hr.length];exact ht.2.2.1,fun z hz=>res.lst ht.2.2.2 hc (hr.rep _) hz⟩
  ·rename_i z j
   cases a0o p1
   cases a0d p2
   exact a9W pins s σ H _ _ _ _ Q I r1 r2 ⟨z,j,rfl,rfl,ht.1,ht.2.1,ht.2.2.1,ht.2.2.2.1,res.str ht.2.2.2.2 hc⟩
  ·exact ht.elim
 | FloorDiv =>
  change a9Q x y S K at ht
  unfold a9Q at ht
  split at ht
  ·rename_i i j
   cases a0d p1
   cases a0d p2
   exact op_fdivW pins s σ H _ _ _ _ Q I r1 r2 ⟨i,j,rfl,rfl,ht.1,res.int ht.2 hc⟩
  ·exact ht.elim
 | Mod =>
  change a9R x y S K at ht
  unfold a9R at ht
  split at ht
  ·rename_i i j
   cases a0d p1
   cases a0d p2
   exact op_mod pins s σ H _ _ _ _ Q I r1 r2 ⟨i,j,rfl,rfl,ht.1,res.int ht.2 hc⟩
  ·exact ht.elim
 | Pow =>
  change a9T x y S K at ht
  unfold a9T at ht
  split at ht
  ·rename_i i j
   cases a0d p1
   cases a0d p2
   exact op_pow pins s σ H _ _ _ _ Q I r1 r2 ⟨i,j,rfl,rfl,ht.1,res.int ht.2 hc⟩
  ·exact ht.elim
 | _=>exact False.elim ht
end
mutual
def D.py:D→PyData
 | .non=>.none | .bl b=>.bool b | .int i=>.int i | .str x=>.str x
 | .lst xs=>.list (D.pys xs) | .tup xs=>.tuple (D.pys xs)
 | _=>.none
def D.pys:List D→List PyData
 | []=>[] | d :: ds=>D.py d :: D.pys ds
end
mutual
def D.okd:Nat→D→Bool
 | _,.non=>true | _,.bl _=>true | _,.int _=>true | _,.str x=>PyData.strOk x
 | n,.lst xs=>decide (0 < n) && D.okds (n - 1) xs
 | n,.tup xs=>decide (0 < n) && D.okds (n - 1) xs
 | _,_=>false
def D.okds:Nat→List D→Bool
 | _,[]=>true | n,d :: ds=>D.okd n d && D.okds n ds
end
mutual
theorem a1C:∀ (d:D) (n:Nat),D.okd n d=true→d.py.canLay0=true∧d.py.depth≤n
 | .non,n,_=>by simp [D.py,PyData.canLay0,PyData.depth]
 | .bl _,n,_=>by simp [D.py,PyData.canLay0,PyData.depth]
 | .int _,n,_=>by simp [D.py,PyData.canLay0,PyData.depth]
 | .str _,n,h=>by simpa [D.py,PyData.canLay0,PyData.depth,D.okd] using h
 | .lst xs,n,h=>by
  simp only [D.okd,zak,zah] at h
  have q:=a2R xs (n - 1) h.2
  simp only [D.py,PyData.canLay0,PyData.depth]
  exact ⟨q.1,by omega⟩
 | .tup xs,n,h=>by
  simp only [D.okd,zak,zah] at h
  have q:=a2R xs (n - 1) h.2
  simp only [D.py,PyData.canLay0,PyData.depth]
  exact ⟨q.1,by omega⟩
 | .dic _,n,h=>by simp [D.okd] at h
 | .obj _,n,h=>by simp [D.okd] at h
 | .exc _ _ _ _,n,h=>by simp [D.okd] at h
 | .err _ _ _ _,n,h=>by simp [D.okd] at h
theorem a2R:∀ (ds:List D) (n:Nat),D.okds n ds=true→PyData.canLayAll0 (D.pys ds)=true∧PyData.depthAll (D.pys ds)≤n
 | [],n,_=>by simp [D.pys,PyData.canLayAll0,PyData.depthAll]
 | d :: ds,n,h=>by
  simp only [D.okds,zak] at h
  have q:=a1C d n h.1
  have q2:=a2R ds n h.2
  simp only [D.pys,PyData.canLayAll0,PyData.depthAll,zak]
  exact ⟨⟨q.1,q2.1⟩,by omega⟩
end
section
variable {X:Cx} {g:Gd} {S:SS} {H:Hp}
mutual
theorem a2t:∀ {d:D} {v:V} (n:Nat),D.okd n d=true→Rep g S H d v→Dp g.K H v d.py
 | .non,_,n,_,r=>by simp only [Rep] at r;subst r;exact .non
 | .bl _,_,n,_,r=>by simp only [Rep] at r;subst r;exact .bl _
 | .int _,_,n,_,r=>by simp only [Rep] at r;subst r;exact .int _
 | .str _,_,n,_,r=>by simp only [Rep] at r;subst r;exact .str _
 | .lst xs,_,n,h,r=>by
  simp only [D.okd,zak] at h
  simp only [Rep] at r
  obtain ⟨p,vs,rfl,a,b⟩:=r
  exact .lst a.sq (a1U (n - 1) h.2 b)
 | .tup xs,_,n,h,r=>by
  simp only [D.okd,zak] at h
  simp only [Rep] at r
  obtain ⟨p,vs,rfl,a,b⟩:=r
  exact .tup a.sq (a1U (n - 1) h.2 b)
 | .dic _,_,n,h,_=>by simp [D.okd] at h
 | .obj _,_,n,h,_=>by simp [D.okd] at h
 | .exc _ _ _ _,_,n,h,_=>by simp [D.okd] at h
 | .err _ _ _ _,_,n,h,_=>by simp [D.okd] at h
theorem a1U:∀ {ds:List D} {vs:List V} (n:Nat),D.okds n ds=true→a0c g S H ds vs→DpAll g.K H vs (D.pys ds)
 | [],_,n,_,r=>by simp only [a0c] at r;subst r;exact .nil
 | d :: ds,_,n,h,r=>by
  simp only [D.okds,zak] at h
  simp only [a0c] at r
  obtain ⟨v,q,rfl,a,b⟩:=r
  exact .cons (a2t n h.1 a) (a1U n h.2 b)
end
theorem a1A {d x:D} {v:V} (hc:CellsOk g S H) (r:Rep g S H d v) (e:vw S d=x) (h:D.okd 60 x=true):Dp g.K H v x.py:=by
 cases x with
 | lst ds =>
  obtain ⟨p,vs,rfl,hl,hr⟩:=a0g hc r e
  simp only [D.okd,zak] at h
  exact .lst hl (a1U _ h.2 hr)
 | tup ds =>
  obtain ⟨p,vs,rfl,hl,hr⟩:=a0s r e
  simp only [D.okd,zak] at h
  exact .tup hl (a1U _ h.2 hr)
 | dic ds=>simp [D.okd] at h
 | obj a=>simp [D.okd] at h
 | exc _ _ _ _=>simp [D.okd] at h
 | err _ _ _ _=>simp [D.okd] at h
 | non=>exact a2t 60 h (a1K r e (fun _ z=>nomatch z) (fun _ z=>nomatch z))
 | bl _=>exact a2t 60 h (a1K r e (fun _ z=>nomatch z) (fun _ z=>nomatch z))
 | int _=>exact a2t 60 h (a1K r e (fun _ z=>nomatch z) (fun _ z=>nomatch z))
 | str _=>exact a2t 60 h (a1K r e (fun _ z=>nomatch z) (fun _ z=>nomatch z))
theorem a5q (hc : CellsOk g S H) : ∀ (n : Nat) {d : D} {v : V} (m : Nat), D.okd m (dv S n d) = true → Rep g S H d v → Dp g.K H v (dv S n d).py
  | 0, d, v, m, h, r => a2t m h r
  | n + 1, d, v, m, h, r => by
    have all : ∀ (ds : List D) {vs : List V} (m : Nat), D.okds m (ds.map (dv S n)) = true → a0c g S H ds vs → DpAll g.K H vs (D.pys (ds.map (dv S n))) := by
      intro ds
      induction ds with
      | nil =>
        intro vs m _ r
        simp only [a0c] at r
        subst r
        exact .nil
      | cons d ds ih =>
        intro vs m h r
        simp only [zav, D.okds, zak] at h
        simp only [a0c] at r
        obtain ⟨v, q, rfl, a, b⟩ := r
        exact .cons (a5q hc n m h.1 a) (ih m h.2 b)
    cases e : vw S d with
    | lst ds =>
      have ed : dv S (n + 1) d = .lst (ds.map (dv S n)) := by simp only [dv, e]
      rw [ed] at h ⊢
      obtain ⟨p, vs, rfl, hl, hr⟩ := a0g hc r e
      simp only [D.okd, zak] at h
      exact .lst hl (all ds _ h.2 hr)
    | tup ds =>
      have ed : dv S (n + 1) d = .tup (ds.map (dv S n)) := by simp only [dv, e]
      rw [ed] at h ⊢
      obtain ⟨p, vs, rfl, hl, hr⟩ := a0s r e
      simp only [D.okd, zak] at h
      exact .tup hl (all ds _ h.2 hr)
    | dic ds => have ed : dv S (n + 1) d = .dic ds := by simp only [dv, e]
                rw [ed] at h; simp [D.okd] at h
    | obj a => have ed : dv S (n + 1) d = .obj a := by simp only [dv, e]
               rw [ed] at h; simp [D.okd] at h
    | exc a b c x => have ed : dv S (n + 1) d = .exc a b c x := by simp only [dv, e]
                     rw [ed] at h; simp [D.okd] at h
    | err a b c x => have ed : dv S (n + 1) d = .err a b c x := by simp only [dv, e]
                     rw [ed] at h; simp [D.okd] at h
    | non => have ed : dv S (n + 1) d = .non := by simp only [dv, e]
             rw [ed] at h ⊢; exact a2t m h (a1K r e (fun _ z => nomatch z) (fun _ z => nomatch z))
    | bl x => have ed : dv S (n + 1) d = .bl x := by simp only [dv, e]
              rw [ed] at h ⊢; exact a2t m h (a1K r e (fun _ z => nomatch z) (fun _ z => nomatch z))
    | int x => have ed : dv S (n + 1) d = .int x := by simp only [dv, e]
               rw [ed] at h ⊢; exact a2t m h (a1K r e (fun _ z => nomatch z) (fun _ z => nomatch z))
    | str x => have ed : dv S (n + 1) d = .str x := by simp only [dv, e]
               rw [ed] at h ⊢; exact a2t m h (a1K r e (fun _ z => nomatch z) (fun _ z => nomatch z))
theorem a0i {d:D} (h:D.okd 60 d=true):SeqAt.shaped d.py=true:=by
 have q:=a1C d 60 h
 unfold SeqAt.shaped
 rw [q.1,zba (by omega:d.py.depth≤64)]
 rfl
end
def D.eqv (x y:D):Bool:=PyData.eqv x.py y.py
def cEq (neg:Bool) (x y:D) (S:SS) (Q:DK):Prop:=(D.okd 60 (vw S x)=true∧D.okd 60 (vw S y)=true∧Q (.bl (neg ^^ D.eqv (vw S x) (vw S y))) S)∨(∃ a b,x=.str a∧y=.str b∧Q (.bl (neg ^^ decide (a=b))) S)∨(D.okd 60 (dv S 60 x)=true∧D.okd 60 (dv S 60 y)=true∧Q (.bl (neg ^^ D.eqv (dv S 60 x) (dv S 60 y))) S)∨(∃ p kvs,x=.obj p∧S p=some (.dic kvs)∧y=.dic []∧Q (.bl (neg ^^ kvs.isEmpty)) S)∨(∃ ds es,vw S x=.lst ds∧vw S y=.lst es∧ds.length≠es.length∧Q (.bl neg) S)
def cLt (f:Int→Int→Bool) (h:List Nat→List Nat→Bool) (x y:D) (S:SS) (Q:DK):Prop:=match x,y with
 | .int i,.int j=>Q (.bl (f i j)) S
 | .str a,.str b=>Q (.bl (h a.cps.toList b.cps.toList)) S
 | _,_=>False
def keyD:D→Option Key
 | .int i=>some (.inl i) | .str x=>some (.inr x) | _=>none
def valD (kvs:List (Key × D)) (k:Key):Option D:=(kvs.find? fun kv=>decide (kv.1=k)).map (·.2)
def putD (kvs:List (Key × D)) (k:Key) (v:D):List (Key × D) :=
 if (kvs.any fun kv=>decide (kv.1=k))=true then kvs.map fun kv=>if kv.1=k then (kv.1,v) else kv else kvs ++ [(k,v)]
def a5r (kvs:List (Key × D)) (k:Key):List (Key × D):=kvs.filter fun kv=>decide (kv.1≠k)
def cIn (neg:Bool) (x y:D) (S:SS) (Q:DK):Prop:=match vw S y with
 | .lst ds=>D.okd 60 (vw S x)=true∧D.okds 59 ds=true∧Q (.bl (neg ^^ ds.any fun z=>D.eqv z (vw S x))) S
 | .tup ds=>(∃ z,x=.str z∧∃ zs:List Str,ds=zs.map D.str∧Q (.bl (neg ^^ zs.any fun y=>y == z)) S)∨(∃ z,x=.int z∧∃ zs:List Int,ds=zs.map D.int∧Q (.bl (neg ^^ zs.any fun y=>y == z)) S)
 | .str b=>match x with
  | .str a=>a.length=1∧Q (.bl (neg ^^ decide (a.cps.getD 0 0∈b.cps.toList))) S
  | _=>False
 | .dic kvs=>∃ k,keyD x=some k∧Q (.bl (neg ^^ (valD kvs k).isSome)) S
 | _=>False
def isNon:D→Bool
 | .non=>true | _=>false
def cIs (neg:Bool) (x y:D) (S:SS) (Q:DK):Prop:=match y with
 | .non=>Q (.bl (neg ^^ isNon x)) S
 | .bl b=>∃ a,x=.bl a∧Q (.bl (neg ^^ decide (a=b))) S
 | _=>False
def b7L:CmpOp→D→D→SS→DK→Prop
 | .Eq=>cEq false | .NotEq=>cEq true
 | .Lt=>cLt (fun i j=>decide (i < j)) (fun a b=>decide (a < b)) | .LtE=>cLt (fun i j=>decide (i≤j)) (fun a b=>!decide (b < a))
 | .Gt=>cLt (fun i j=>decide (j < i)) (fun a b=>decide (b < a)) | .GtE=>cLt (fun i j=>decide (j≤i)) (fun a b=>!decide (a < b))
 | .In=>cIn false | .NotIn=>cIn true | .Is=>cIs false | .IsNot=>cIs true
section
variable {X:Cx} {g:Gd} {S:SS} {H:Hp}
theorem a0Y {ds:List (Key × D)} {vs:List (Key × V)} (h:a0v g S H ds vs) (k:Key):(valD ds k=none∧valV vs k=none)∨∃ d v,valD ds k=some d∧valV vs k=some v∧Rep g S H d v:=by
 have q:=a0A h
 clear h
 induction q with
 | nil=>exact .inl ⟨rfl,rfl⟩
 | @cons x y l l2 r _ ih =>
  obtain ⟨k1,d1⟩:=x
  obtain ⟨k2,v2⟩:=y
  obtain ⟨e,r⟩:=r
  cases e
  by_cases z:k1=k
  ·refine .inr ⟨d1,v2,?_,valV_pos z,r⟩
   simp [valD,List.find?_cons,z]
  ·have e1:valD ((k1,d1) :: l) k=valD l k:=by simp [valD,List.find?_cons,z]
   rw [e1,valV_neg z]
   exact ih
theorem a3J {ds:List (Key × D)} {vs:List (Key × V)} (h:a0v g S H ds vs) (k:Key):(valV vs k).isSome=(valD ds k).isSome:=by
 rcases a0Y h k with ⟨a,b⟩ | ⟨d,v,a,b,_⟩ <;> rw [a,b] <;> rfl
theorem a4d {ds:List (Key × D)} {vs:List (Key × V)} (h:a0v g S H ds vs) (k:Key) {d:D} {v:V} (r:Rep g S H d v):a0v g S H (putD ds k d) (putK vs k v):=by
 have q:=a0A h
 refine a6Q ?_
 have ea:(ds.any fun kv=>decide (kv.1=k))=(vs.any fun kv=>decide (kv.1=k)):=by
  clear h
  induction q with
  | nil=>rfl
  | cons r _ ih=>rw [List.any_cons,List.any_cons,ih,r.1]
 unfold putD putK
 rw [ea]
 split
 ·rename_i hz
  clear h ea hz
  induction q with
  | nil=>exact .nil
  | @cons x y l l2 r1 _ ih =>
   rw [zav,zav]
   refine .cons ?_ ih
   obtain ⟨k1,d1⟩:=x
   obtain ⟨k2,v2⟩:=y
   obtain ⟨e,r1⟩:=r1
   cases e
   dsimp only
   split <;> rename_i z
   ·exact ⟨rfl,r⟩
   ·exact ⟨rfl,r1⟩
 ·exact a3C q (.cons ⟨rfl,r⟩ .nil)
end
end Sv
namespace Sv
open PySem PySem.Spec PyProof.Rows L2
def a02:D→Bool
 | .non=>true | .bl _=>true | .int _=>true | .str _=>true | _=>false
section
variable {X:Cx} {g:Gd} {S:SS} {H:Hp}
theorem a1u {d:D} {v:V} (h:a02 d=true) (r:Rep g S H d v):flatV v=true:=by
 cases d <;> simp only [Rep] at r <;> first | (subst r;rfl) | cases h
theorem a03:∀ {ds:List D} {vs:List V},ds.all a02=true→a0c g S H ds vs→vs.all flatV=true
 | [],_,_,r=>by simp only [a0c] at r;subst r;rfl
 | d :: ds,_,h,r=>by
  simp only [a0c] at r
  obtain ⟨v,q,rfl,a,b⟩:=r
  rw [List.all_cons,zak] at h
  rw [List.all_cons,a1u h.1 a,a03 h.2 b];rfl
theorem a1X {d e:D} {v u:V} (h:a02 d=true) (h2:a02 e=true) (r:Rep g S H d v) (r2:Rep g S H e u):eqV v u=D.eqv d e:=by
 cases d <;> (first | (cases h;done) | skip) <;> cases e <;> (first | (cases h2;done) | skip) <;> simp only [Rep] at r r2 <;> subst r r2 <;> simp [eqV,D.eqv,D.py,PyData.eqv]
theorem a3Y {x:D} {u:V} (h:a02 x=true) (rx:Rep g S H x u):∀ {ds:List D} {vs:List V},ds.all a02=true→a0c g S H ds vs→inV u vs=ds.any fun z=>D.eqv z x
 | [],_,_,r=>by simp only [a0c] at r;subst r;rfl
 | d :: ds,_,hd,r=>by
  simp only [a0c] at r
  obtain ⟨v,q,rfl,a,b⟩:=r
  rw [List.all_cons,zak] at hd
  have ih:=a3Y h rx hd.2 b
  unfold inV at ih ⊢
  rw [List.any_cons,List.any_cons,ih,a1X hd.1 h a rx]
theorem a3r {d:D} {v:V} (r:Rep g S H d v):decide (v=.non)=isNon d:=by
 cases d with
 | non=>simp only [Rep] at r;subst r;rfl
 | bl _=>simp only [Rep] at r;subst r;rfl
 | int _=>simp only [Rep] at r;subst r;rfl
 | str _=>simp only [Rep] at r;subst r;rfl
 | obj _=>simp only [Rep] at r;subst r;rfl
 | lst _=>simp only [Rep] at r;obtain ⟨_,_,rfl,_⟩:=r;rfl
 | tup _=>simp only [Rep] at r;obtain ⟨_,_,rfl,_⟩:=r;rfl
 | dic _=>simp only [Rep] at r;obtain ⟨_,_,rfl,_⟩:=r;rfl
 | exc _ _ _ _=>simp only [Rep] at r;obtain ⟨_,rfl,_⟩:=r;rfl
 | err _ _ _ _=>simp only [Rep] at r;obtain ⟨_,_,rfl,_⟩:=r;rfl
theorem a0E {d:D} {k:Key} {v:V} (e:keyD d=some k) (r:Rep g S H d v):v=kV k:=by
 cases d <;> first | (cases e;done) | skip
 ·simp only [Rep] at r;cases e;exact r
 ·simp only [Rep] at r;cases e;exact r
theorem a4q {d:D} {ds:List D} (e:vw S d=.tup ds):d=.tup ds:=by
 cases d with
 | tup _=>exact e
 | obj a =>
  have e':(match S a with | some (.lst ds)=>D.lst ds | some (.dic k)=>.dic k | some (.loc k)=>.dic k | _=>.obj a)=.tup ds:=e
  cases q:S a with
  | none=>rw [q] at e';cases e'
  | some c=>rw [q] at e';cases c <;> cases e'
 | _=>cases e
end
def a7w (neg:Bool) (x y:D) (S:SS) (Q:DK):Prop:=match vw S y with
 | .lst ds=>D.okd 60 (vw S x)=true∧D.okds 59 ds=true∧Q (.bl (neg ^^ ds.any fun z=>D.eqv z (vw S x))) S
 | .tup ds=>(a02 x=true∧ds.all a02=true∧Q (.bl (neg ^^ ds.any fun z=>D.eqv z x)) S)∨(D.okd 60 (vw S x)=true∧D.okds 59 ds=true∧Q (.bl (neg ^^ ds.any fun z=>D.eqv z (vw S x))) S)
 | .str b=>match x with
  | .str a=>∃ c,a=⟨#[c]⟩∧Q (.bl (neg ^^ decide (c∈b.cps.toList))) S
  | _=>False
 | .dic kvs=>∃ k,keyD x=some k∧Q (.bl (neg ^^ (valD kvs k).isSome)) S
 | _=>False
def b8t (x y:D) (S:SS) (Q:DK):Prop:=∃ ns ms:List Int,x=.tup (ns.map D.int)∧y=.tup (ms.map D.int)∧Q (.bl (HT.lexLt ns ms)) S
def a0t:CmpOp→D→D→SS→DK→Prop
 | .In=>a7w false | .NotIn=>a7w true | .Lt=>fun x y S Q=>b7L .Lt x y S Q∨b8t x y S Q | o=>b7L o
section
variable {X:Cx} {g:Gd}
theorem a4y {op:CmpOp} {f:Int→Int→Bool} {h:List Nat→List Nat→Bool} (hi:OpR X (compareOp op) (rI0 fun i j=>.bl (f i j)))
  (hs:OpR X (compareOp op) (fun x y H Q=>∃ i j,x=.str i∧y=.str j∧Q (.bl (h i.cps.toList j.cps.toList)) H)):OpR X (compareOp op) (rD2 g (cLt f h)):=by
 intro pins s σ H v1 v2 u1 u2 Q I r1 r2 hh
 obtain ⟨x,y,S,K,hc,p1,p2,ht,res⟩:=hh
 unfold cLt at ht
 split at ht
 ·cases a0d p1
  cases a0d p2
  exact hi pins s σ H _ _ _ _ Q I r1 r2 ⟨_,_,rfl,rfl,res.bl ht hc⟩
 ·cases a0o p1
  cases a0o p2
  exact hs pins s σ H _ _ _ _ Q I r1 r2 ⟨_,_,rfl,rfl,res.bl ht hc⟩
 ·exact ht.elim
theorem a2i {S:SS} {H:Hp}:∀ (ns:List Int) {vs:List V},a0c g S H (ns.map D.int) vs→vs=ns.map V.int
 | [],_,r=>by simp only [List.map_nil,a0c] at r;exact r
 | n :: ns,_,r=>by
  simp only [zav,a0c] at r
  obtain ⟨v,q,rfl,one,more⟩:=r
  rw [a0d one,a2i ns more,zav]
theorem a4H {X:Cx} {A:Around} {s:Shared} {ks:List (Key × V)} {va vb:List (Key × Value)} (ra:KV ks va) (rb:KV [] vb) (e:va.length=vb.length):PySem.W.KeqHits A s vb va true:=by
 cases rb
 cases ra with
 | nil=>exact .nil
 | cons _ _=>cases e
theorem b3r {S:SS} {b:Addr} {l:List (Key × D)} (h:S b=some (.dic l)):vw S (.obj b)=.dic l:=by simp only [vw,h]
theorem a6T {X:Cx} (hu:X.A.units < cLine):OpR X (compareOp .Eq) (fun x y H Q=>∃ a b ks,x=.ref a∧y=.ref b∧Rd H a (.dK ks)∧Rd H b (.dK [])∧Q (.bl (ks:List (Key × V)).isEmpty) H):=by
 intro pins s σ H x y v u Q I rx ry h
 obtain ⟨a,b,ks,rfl,rfl,ea,eb,q⟩:=h
 obtain rfl:v=Value.ref a:=rx
 obtain rfl:u=Value.ref b:=ry
 obtain ⟨_,ya,va,ra,da⟩:=dk_rd I.hok ea
 obtain ⟨_,yb,vb,rb,db⟩:=dk_rd I.hok eb
 have e1:ks.length=va.length:=ra.length
 have e2:0=vb.length:=rb.length
 exact PySem.W.keq_eq (knd:=mixKind X.prog X.w) (r:=true) ya yb da db hu (fun e=>a4H (X:=X) ra rb e) (fin_bl I q (by rw [← e1,← e2];cases ks <;> simp))
theorem a6V {X:Cx} (hu:X.A.units < cLine):OpR X (compareOp .NotEq) (fun x y H Q=>∃ a b ks,x=.ref a∧y=.ref b∧Rd H a (.dK ks)∧Rd H b (.dK [])∧Q (.bl (!(ks:List (Key × V)).isEmpty)) H):=by
 intro pins s σ H x y v u Q I rx ry h
 obtain ⟨a,b,ks,rfl,rfl,ea,eb,q⟩:=h
 obtain rfl:v=Value.ref a:=rx
 obtain rfl:u=Value.ref b:=ry
 obtain ⟨_,ya,va,ra,da⟩:=dk_rd I.hok ea
 obtain ⟨_,yb,vb,rb,db⟩:=dk_rd I.hok eb
 have e1:ks.length=va.length:=ra.length
 have e2:0=vb.length:=rb.length
 exact PySem.W.keq_ne (knd:=mixKind X.prog X.w) (r:=true) ya yb da db hu (fun e=>a4H (X:=X) ra rb e) (fin_bl I q (by rw [← e1,← e2];cases ks <;> simp))
theorem a6S {X:Cx} (hu:X.A.units < cLine):OpR X (compareOp .Eq) (fun x y H Q=>∃ a b xs ys,x=.ref a∧y=.ref b∧SqL X.K H a xs∧SqL X.K H b ys∧xs.length≠ys.length∧Q (.bl false) H):=by
 intro pins s σ H x y v u Q I rx ry h
 obtain ⟨a,b,xs,ys,rfl,rfl,ea,eb,ne,q⟩:=h
 obtain rfl:v=Value.ref a:=rx
 obtain rfl:u=Value.ref b:=ry
 obtain ⟨va,ra,pa,_⟩:=I.list ea
 obtain ⟨vb,rb,pb,_⟩:=I.list eb
 have la:=ra.length
 have lb:=rb.length
 exact SeqAt.RcAt.lists_lengths pa.isList pb.isList (by rw [List.size_toArray,List.size_toArray];exact bne_iff_ne.mpr (by omega)) hu X.prog X.w _ _ (fin_bl I q rfl)
theorem a6U {X:Cx} (hu:X.A.units < cLine):OpR X (compareOp .NotEq) (fun x y H Q=>∃ a b xs ys,x=.ref a∧y=.ref b∧SqL X.K H a xs∧SqL X.K H b ys∧xs.length≠ys.length∧Q (.bl true) H):=by
 intro pins s σ H x y v u Q I rx ry h
 obtain ⟨a,b,xs,ys,rfl,rfl,ea,eb,ne,q⟩:=h
 obtain rfl:v=Value.ref a:=rx
 obtain rfl:u=Value.ref b:=ry
 obtain ⟨va,ra,pa,_⟩:=I.list ea
 obtain ⟨vb,rb,pb,_⟩:=I.list eb
 have la:=ra.length
 have lb:=rb.length
 exact SeqAt.RcNeAt.lists_lengths pa.isList pb.isList (by rw [List.size_toArray,List.size_toArray];exact bne_iff_ne.mpr (by omega)) hu X.prog X.w _ _ (fin_bl I q rfl)
theorem b2d (hu:X.A.units + 65 < cLine):OpR X (compareOp .In) (fun x y H Q=>∃ d ds,Dp X.K H x d∧Dp X.K H y (.tuple ds)∧SeqAt.shaped d=true∧SeqAt.shaped (.tuple ds)=true∧Q (.bl ((ds.any fun z=>PyData.eqv z d))) H):=by
 intro pins s σ H x y v u Q I rx ry h
 obtain ⟨d,ds,hd,he,sd,se,q⟩:=h
 obtain ⟨as,r1⟩:=Dp.reads I d x v hd rx
 obtain ⟨bs,r2⟩:=Dp.reads I (.tuple ds) y u he ry
 exact SeqAt.in_tuple_reads r2 r1 (SeqAt.canLay_of_shaped se) (SeqAt.canLay_of_shaped sd) (room_in_shaped sd hu) ⟨.bl _,H,I,rfl,q⟩
theorem a6W (hu:X.A.units + 65 < cLine):OpR X (compareOp .NotIn) (fun x y H Q=>∃ d ds,Dp X.K H x d∧Dp X.K H y (.tuple ds)∧SeqAt.shaped d=true∧SeqAt.shaped (.tuple ds)=true∧Q (.bl (!(ds.any fun z=>PyData.eqv z d))) H):=by
 intro pins s σ H x y v u Q I rx ry h
 obtain ⟨d,ds,hd,he,sd,se,q⟩:=h
 obtain ⟨as,r1⟩:=Dp.reads I d x v hd rx
 obtain ⟨bs,r2⟩:=Dp.reads I (.tuple ds) y u he ry
 exact SeqAt.notIn_tuple_reads r2 r1 (SeqAt.canLay_of_shaped se) (SeqAt.canLay_of_shaped sd) (room_in_shaped sd hu) ⟨.bl _,H,I,rfl,q⟩
theorem a1z (hK:g.K=X.K) (hu:X.A.units + 65 < cLine):∀ op:CmpOp,OpR X (compareOp op) (rD2 g (a0t op)):=by
 intro op
 cases op with
 | Eq =>
  intro pins s σ H v1 v2 u1 u2 Q I r1 r2 ⟨x,y,S,K,hc,p1,p2,ht,res⟩
  rcases ht with ⟨o1,o2,k⟩ | ⟨a,b,rfl,rfl,k⟩ | ⟨o1,o2,k⟩ | ⟨p,kvs,rfl,hp,rfl,k⟩ | ⟨ds,es,e1,e2,ne,k⟩
  case inr.inr.inr.inr =>
   obtain ⟨p',vs,rfl,hl,hr⟩:=a0g hc p1 e1
   obtain ⟨b',ws,rfl,hl2,hr2⟩:=a0g hc p2 e2
   rw [hK] at hl hl2
   exact a6S (by omega) pins s σ H _ _ _ _ Q I r1 r2 ⟨p',b',vs,ws,rfl,rfl,hl,hl2,by rw [← hr.length,← hr2.length];exact ne,res.bl k hc⟩
  case inr.inr.inr.inl =>
   obtain ⟨p',vs,rfl,hl,hr⟩:=a0V hc p1 (b3r hp)
   obtain ⟨b',ws,rfl,hl2,hr2⟩:=a0V hc p2 rfl
   have ew:ws=[]:=by simpa only [a0v] using hr2
   subst ew
   have es:vs.isEmpty=kvs.isEmpty:=by cases a0A hr <;> rfl
   rw [Bool.false_xor,← es] at k
   exact a6T (by omega) pins s σ H _ _ _ _ Q I r1 r2 ⟨p',b',vs,rfl,rfl,hl,hl2,res.bl k hc⟩
  case inr.inr.inl =>
   rw [Bool.false_xor] at k
   exact op_eqD (by omega) pins s σ H _ _ _ _ Q I r1 r2 ⟨_,_,hK ▸ a5q hc 60 60 o1 p1,hK ▸ a5q hc 60 60 o2 p2,a0i o1,a0i o2,res.bl k hc⟩
  case inr.inl =>
   cases a0o p1
   cases a0o p2
   rw [Bool.false_xor] at k
   exact op_eq pins s σ H _ _ _ _ Q I r1 r2 ⟨rfl,by rw [show decide (V.str a=V.str b)=decide (a=b) from decide_eq_decide.mpr ⟨fun h=>by cases h;rfl,fun h=>by rw [h]⟩];exact res.bl k hc⟩
  rw [Bool.false_xor] at k
  exact op_eqD (by omega) pins s σ H _ _ _ _ Q I r1 r2 ⟨_,_,hK ▸ a1A hc p1 rfl o1,hK ▸ a1A hc p2 rfl o2,a0i o1,a0i o2,res.bl k hc⟩
 | NotEq =>
  intro pins s σ H v1 v2 u1 u2 Q I r1 r2 ⟨x,y,S,K,hc,p1,p2,ht,res⟩
  rcases ht with ⟨o1,o2,k⟩ | ⟨a,b,rfl,rfl,k⟩ | ⟨o1,o2,k⟩ | ⟨p,kvs,rfl,hp,rfl,k⟩ | ⟨ds,es,e1,e2,ne,k⟩
  case inr.inr.inr.inr =>
   obtain ⟨p',vs,rfl,hl,hr⟩:=a0g hc p1 e1
   obtain ⟨b',ws,rfl,hl2,hr2⟩:=a0g hc p2 e2
   rw [hK] at hl hl2
   exact a6U (by omega) pins s σ H _ _ _ _ Q I r1 r2 ⟨p',b',vs,ws,rfl,rfl,hl,hl2,by rw [← hr.length,← hr2.length];exact ne,res.bl k hc⟩
  case inr.inr.inr.inl =>
   obtain ⟨p',vs,rfl,hl,hr⟩:=a0V hc p1 (b3r hp)
   obtain ⟨b',ws,rfl,hl2,hr2⟩:=a0V hc p2 rfl
   have ew:ws=[]:=by simpa only [a0v] using hr2
   subst ew
   have es:vs.isEmpty=kvs.isEmpty:=by cases a0A hr <;> rfl
   rw [Bool.true_xor,← es] at k
   exact a6V (by omega) pins s σ H _ _ _ _ Q I r1 r2 ⟨p',b',vs,rfl,rfl,hl,hl2,res.bl k hc⟩
  case inr.inr.inl =>
   rw [Bool.true_xor] at k
   exact op_neD (by omega) pins s σ H _ _ _ _ Q I r1 r2 ⟨_,_,hK ▸ a5q hc 60 60 o1 p1,hK ▸ a5q hc 60 60 o2 p2,a0i o1,a0i o2,res.bl k hc⟩
  case inr.inl =>
   cases a0o p1
   cases a0o p2
   rw [Bool.true_xor] at k
   exact op_ne pins s σ H _ _ _ _ Q I r1 r2 ⟨rfl,by rw [show decide (V.str a=V.str b)=decide (a=b) from decide_eq_decide.mpr ⟨fun h=>by cases h;rfl,fun h=>by rw [h]⟩];exact res.bl k hc⟩
  rw [Bool.true_xor] at k
  exact op_neD (by omega) pins s σ H _ _ _ _ Q I r1 r2 ⟨_,_,hK ▸ a1A hc p1 rfl o1,hK ▸ a1A hc p2 rfl o2,a0i o1,a0i o2,res.bl k hc⟩
 | Lt =>
  intro pins s σ H v1 v2 u1 u2 Q I r1 r2 ⟨x,y,S,K,hc,p1,p2,ht,res⟩
  rcases ht with ht | ⟨ns,ms,rfl,rfl,k⟩
  ·exact a4y (f:=fun i j=>decide (i < j)) (h:=fun a b=>decide (a < b)) op_lt op_lt_str pins s σ H v1 v2 u1 u2 Q I r1 r2 ⟨x,y,S,K,hc,p1,p2,ht,res⟩
  ·obtain ⟨a,vs,rfl,hl,hr⟩:=a0s p1 rfl
   obtain ⟨b,ws,rfl,hl2,hr2⟩:=a0s p2 rfl
   have e1:=a2i ns hr
   have e2:=a2i ms hr2
   subst e1 e2
   exact op_ltT (by omega) pins s σ H _ _ _ _ Q I r1 r2 ⟨a,b,ns,ms,rfl,rfl,hK ▸ hl,hK ▸ hl2,res.bl k hc⟩
 | LtE=>exact a4y (f:=fun i j=>decide (i≤j)) (h:=fun a b=>!decide (b < a)) op_le op_le_str
 | Gt=>exact a4y (f:=fun i j=>decide (j < i)) (h:=fun a b=>decide (b < a)) op_gt op_gt_str
 | GtE=>exact a4y (f:=fun i j=>decide (j≤i)) (h:=fun a b=>!decide (a < b)) op_ge op_ge_str
 | Is =>
  intro pins s σ H v1 v2 u1 u2 Q I r1 r2 ⟨x,y,S,K,hc,p1,p2,ht,res⟩
  change cIs false x y S K at ht
  unfold cIs at ht
  split at ht
  ·cases a2V p2
   rw [Bool.false_xor] at ht
   exact op_isN pins s σ H _ _ _ _ Q I r1 r2 ⟨rfl,by rw [a3r p1];exact res.bl ht hc⟩
  ·obtain ⟨a,rfl,ht⟩:=ht
   cases a1t p1
   cases a1t p2
   rw [Bool.false_xor] at ht
   exact op_isBl pins s σ H _ _ _ _ Q I r1 r2 ⟨_,_,rfl,rfl,res.bl ht hc⟩
  ·exact ht.elim
 | IsNot =>
  intro pins s σ H v1 v2 u1 u2 Q I r1 r2 ⟨x,y,S,K,hc,p1,p2,ht,res⟩
  change cIs true x y S K at ht
  unfold cIs at ht
  split at ht
  ·cases a2V p2
   rw [Bool.true_xor] at ht
   exact op_notN pins s σ H _ _ _ _ Q I r1 r2 ⟨rfl,by rw [a3r p1];exact res.bl ht hc⟩
  ·obtain ⟨a,rfl,ht⟩:=ht
   cases a1t p1
   cases a1t p2
   rw [Bool.true_xor] at ht
   exact op_notBl pins s σ H _ _ _ _ Q I r1 r2 ⟨_,_,rfl,rfl,res.bl ht hc⟩
  ·exact ht.elim
 | In =>
  intro pins s σ H v1 v2 u1 u2 Q I r1 r2 ⟨x,y,S,K,hc,p1,p2,ht,res⟩
  change a7w false x y S K at ht
  unfold a7w at ht
  split at ht
  ·rename_i ds e
   obtain ⟨o1,o2,k⟩:=ht
   rw [Bool.false_xor] at k
   have o3:D.okd 60 (.lst ds)=true:=by simp only [D.okd,zak];exact ⟨rfl,o2⟩
   have w:((D.pys ds).any fun z=>PyData.eqv z (vw S x).py)=ds.any fun z=>D.eqv z (vw S x):=by
    clear e o2 k o3
    induction ds with
    | nil=>rfl
    | cons a l ih=>rw [D.pys,List.any_cons,List.any_cons,ih];rfl
   exact op_inD hu pins s σ H _ _ _ _ Q I r1 r2 ⟨(vw S x).py,D.pys ds,hK ▸ a1A hc p1 rfl o1,hK ▸ a1A hc p2 e o3,a0i o1,a0i o3,by rw [w];exact res.bl k hc⟩
  ·rename_i ds e
   rcases ht with ⟨f1,f2,k⟩ | ⟨o1,o2,k⟩
   case inr =>
    rw [Bool.false_xor] at k
    have o3:D.okd 60 (.tup ds)=true:=by simp only [D.okd,zak];exact ⟨rfl,o2⟩
    have w:((D.pys ds).any fun z=>PyData.eqv z (vw S x).py)=ds.any fun z=>D.eqv z (vw S x):=by
     clear e o2 k o3
     induction ds with
     | nil=>rfl
     | cons a l ih=>rw [D.pys,List.any_cons,List.any_cons,ih];rfl
    exact b2d hu pins s σ H _ _ _ _ Q I r1 r2 ⟨(vw S x).py,D.pys ds,hK ▸ a1A hc p1 rfl o1,hK ▸ a1A hc p2 e o3,a0i o1,a0i o3,by rw [w];exact res.bl k hc⟩
   obtain ⟨p,vs,rfl,hl,hr⟩:=a0s p2 e
   rw [hK] at hl
   rw [Bool.false_xor] at k
   exact op_in_seq pins s σ H _ _ _ _ Q I r1 r2 ⟨p,vs,rfl,.inr hl,a1u f1 p1,a03 f2 hr,by rw [a3Y f1 p1 f2 hr];exact res.bl k hc⟩
  ·rename_i b e
   cases a1x p2 e
   split at ht
   ·obtain ⟨c,rfl,k⟩:=ht
    cases a0o p1
    rw [Bool.false_xor] at k
    exact op_in_sign pins s σ H _ _ _ _ Q I r1 r2 ⟨c,b,rfl,rfl,res.bl k hc⟩
   ·exact ht.elim
  ·rename_i kvs e
   obtain ⟨k,ek,q⟩:=ht
   obtain ⟨p,vs,rfl,hl,hr⟩:=a0V hc p2 e
   cases a0E ek p1
   cases (show u2=Value.ref p from r2)
   rw [Bool.false_xor] at q
   exact d_in (by omega) I (.inl ⟨vs,k,hl,rfl,rfl⟩) r1 fun s' I'=>⟨.bl _,H,I',rfl,by rw [a3J hr];exact res.bl q hc⟩
  ·exact ht.elim
 | NotIn =>
  intro pins s σ H v1 v2 u1 u2 Q I r1 r2 ⟨x,y,S,K,hc,p1,p2,ht,res⟩
  change a7w true x y S K at ht
  unfold a7w at ht
  split at ht
  ·rename_i ds e
   obtain ⟨o1,o2,k⟩:=ht
   rw [Bool.true_xor] at k
   have o3:D.okd 60 (.lst ds)=true:=by simp only [D.okd,zak];exact ⟨rfl,o2⟩
   have w:((D.pys ds).any fun z=>PyData.eqv z (vw S x).py)=ds.any fun z=>D.eqv z (vw S x):=by
    clear e o2 k o3
    induction ds with
    | nil=>rfl
    | cons a l ih=>rw [D.pys,List.any_cons,List.any_cons,ih];rfl
   exact op_notInD hu pins s σ H _ _ _ _ Q I r1 r2 ⟨(vw S x).py,D.pys ds,hK ▸ a1A hc p1 rfl o1,hK ▸ a1A hc p2 e o3,a0i o1,a0i o3,by rw [w];exact res.bl k hc⟩
  ·rename_i ds e
   rcases ht with ⟨f1,f2,k⟩ | ⟨o1,o2,k⟩
   case inr =>
    rw [Bool.true_xor] at k
    have o3:D.okd 60 (.tup ds)=true:=by simp only [D.okd,zak];exact ⟨rfl,o2⟩
    have w:((D.pys ds).any fun z=>PyData.eqv z (vw S x).py)=ds.any fun z=>D.eqv z (vw S x):=by
     clear e o2 k o3
     induction ds with
     | nil=>rfl
     | cons a l ih=>rw [D.pys,List.any_cons,List.any_cons,ih];rfl
    exact a6W hu pins s σ H _ _ _ _ Q I r1 r2 ⟨(vw S x).py,D.pys ds,hK ▸ a1A hc p1 rfl o1,hK ▸ a1A hc p2 e o3,a0i o1,a0i o3,by rw [w];exact res.bl k hc⟩
   obtain ⟨p,vs,rfl,hl,hr⟩:=a0s p2 e
   rw [hK] at hl
   rw [Bool.true_xor] at k
   exact op_notIn_seq pins s σ H _ _ _ _ Q I r1 r2 ⟨p,vs,rfl,.inr hl,a1u f1 p1,a03 f2 hr,by rw [a3Y f1 p1 f2 hr];exact res.bl k hc⟩
  ·rename_i b e
   cases a1x p2 e
   split at ht
   ·obtain ⟨c,rfl,k⟩:=ht
    cases a0o p1
    rw [Bool.true_xor] at k
    exact op_notIn_sign pins s σ H _ _ _ _ Q I r1 r2 ⟨c,b,rfl,rfl,res.bl k hc⟩
   ·exact ht.elim
  ·rename_i kvs e
   obtain ⟨k,ek,q⟩:=ht
   obtain ⟨p,vs,rfl,hl,hr⟩:=a0V hc p2 e
   cases a0E ek p1
   cases (show u2=Value.ref p from r2)
   rw [Bool.true_xor] at q
   exact d_notIn (by omega) I (.inl ⟨vs,k,hl,rfl,rfl⟩) r1 fun s' I'=>⟨.bl _,H,I',rfl,by rw [a3J hr];exact res.bl q hc⟩
  ·exact ht.elim
end
def ixD (x y:D) (S:SS) (Q:DK):Prop:=match vw S x with
 | .lst ds=>match y with
  | .int i=>∃ d,atI ds i=some d∧Q d S
  | _=>False
 | .tup ds=>match y with
  | .int i=>∃ d,atI ds i=some d∧Q d S
  | _=>False
 | .str z=>match y with
  | .int i=>∃ c,z.length≤sizeLine∧atI z.cps.toList i=some c∧Q (.str ⟨#[c]⟩) S
  | _=>False
 | .dic kvs=>∃ k d,keyD y=some k∧valD kvs k=some d∧Q d S
 | _=>False
section
variable {X:Cx} {g:Gd}
theorem a9v (hu:X.A.units + 1 < cLine):IxR X (fun x y H Q=>∃ a v,x=.ref a∧DGet H a y (some v)∧Q v H):=by
 intro value slice pins s σ H x y v u Q I rx ry h hs
 obtain ⟨a,w,rfl,g,q⟩:=h
 cases (show v=Value.ref a from rx)
 exact tail_any (dict_typeIs I g) PySem.F.slot_dict_getitem.lookup (d_getItem hu I g ry fun w' s3 I3 rw'=>⟨w,H,I3,rw',q⟩) hs
theorem b1P (hK:g.K=X.K) (hu:X.A.units + 65 < cLine):IxR X (rD2 g ixD):=by
 intro value slice pins s σ H v1 v2 u1 u2 Q I r1 r2 h hs
 obtain ⟨x,y,S,K,hc,p1,p2,ht,res⟩:=h
 unfold ixD at ht
 split at ht
 ·rename_i ds e
  obtain ⟨p,vs,rfl,hl,hr⟩:=a0g hc p1 e
  rw [hK] at hl
  split at ht
  ·obtain ⟨d,ed,k⟩:=ht
   obtain ⟨w,ew,rw'⟩:=hr.at ed
   cases a0d p2
   exact ix_list value slice pins s σ H _ _ _ _ Q I r1 r2 ⟨p,vs,_,w,rfl,rfl,hl,ew,res.val k hc rw'⟩ hs
  ·exact ht.elim
 ·rename_i ds e
  obtain ⟨p,vs,rfl,hl,hr⟩:=a0s p1 e
  rw [hK] at hl
  split at ht
  ·obtain ⟨d,ed,k⟩:=ht
   obtain ⟨w,ew,rw'⟩:=hr.at ed
   cases a0d p2
   exact ix_tup value slice pins s σ H _ _ _ _ Q I r1 r2 ⟨p,vs,_,w,rfl,rfl,hl,ew,res.val k hc rw'⟩ hs
  ·exact ht.elim
 ·rename_i z e
  cases a1x p1 e
  split at ht
  ·obtain ⟨c,hz,ec,k⟩:=ht
   cases a0d p2
   exact ix_str value slice pins s σ H _ _ _ _ Q I r1 r2 ⟨z,_,c,rfl,rfl,hz,ec,res.str k hc⟩ hs
  ·exact ht.elim
 ·rename_i kvs e
  obtain ⟨k,d,ek,ed,q⟩:=ht
  obtain ⟨p,vs,rfl,hl,hr⟩:=a0V hc p1 e
  cases a0E ek p2
  rcases a0Y hr k with ⟨z,_⟩ | ⟨d2,w,z1,z2,rw'⟩
  ·rw [ed] at z;cases z
  ·rw [ed] at z1
   cases z1
   exact a9v (by omega) value slice pins s σ H _ _ _ _ Q I r1 r2 ⟨p,w,rfl,.inl ⟨vs,k,hl,rfl,z2.symm⟩,res.val q hc rw'⟩ hs
 ·exact ht.elim
end
def cutD (xs:List D) (lo hi:Option Int):List D:=(xs.drop (HT.sIx xs.length 0 lo)).take (HT.sIx xs.length xs.length hi - HT.sIx xs.length 0 lo)
def slD (x:D) (lo hi:Option Int) (S:SS) (Q:DK):Prop:=match vw S x with
 | .lst ds=>Q (.lst (cutD ds lo hi)) S
 | .tup ds=>Q (.tup (cutD ds lo hi)) S
 | .str z=>z.length≤sizeLine∧Q (.str (cutS z lo hi)) S
 | _=>False
def b0t (x:D) (lo hi:Option Int) (S:SS) (Q:DK):Prop:=match vw S x with
 | .lst ds=>∀ p,S p=none→Q (.obj p) (S.set p (.lst (cutD ds lo hi)))
 | _=>False
section
variable {X:Cx} {g:Gd}
def rDs (g:Gd) (t:D→Option Int→Option Int→SS→DK→Prop):V→Option Int→Option Int→Hp→VK→Prop:=fun v lo hi H Q=>∃ x S K,CellsOk g S H∧Rep g S H x v∧t x lo hi S K∧Res g S H K Q
theorem b0a (hK:g.K=X.K):SlR X (rDs g b0t):=by
 intro pins s σ H v1 u1 vl vu lo hi sl Q I r1 hs pl pu h
 obtain ⟨x,S,K,hc,p1,ht,res⟩:=h
 unfold b0t at ht
 split at ht
 ·rename_i ds e
  obtain ⟨p,vs,rfl,hl,hr⟩:=a0g hc p1 e
  rw [hK] at hl
  refine sl_list pins s σ H _ _ vl vu lo hi sl Q I r1 hs pl pu ⟨p,vs,rfl,hl,fun q hq=>res.lstC ht hc ?_ hq⟩
  unfold cutD cutV
  rw [hr.length]
  exact (hr.drop _).take _
 ·exact ht.elim
theorem b2E (hK:g.K=X.K):SlR X (rDs g slD):=by
 intro pins s σ H v1 u1 vl vu lo hi sl Q I r1 hs pl pu h
 obtain ⟨x,S,K,hc,p1,ht,res⟩:=h
 unfold slD at ht
 split at ht
 ·rename_i ds e
  obtain ⟨p,vs,rfl,hl,hr⟩:=a0g hc p1 e
  rw [hK] at hl
  refine sl_list pins s σ H _ _ vl vu lo hi sl Q I r1 hs pl pu ⟨p,vs,rfl,hl,fun q hq=>res.lst ht hc ?_ hq⟩
  unfold cutD cutV
  rw [hr.length]
  exact (hr.drop _).take _
 ·rename_i ds e
  cases a4q e
  obtain ⟨p,vs,rfl,hl,hr⟩:=a0s p1 e
  rw [hK] at hl
  refine sl_tupA pins s σ H _ _ vl vu lo hi sl Q I r1 hs pl pu ⟨p,vs,rfl,hl,fun whole=>?_,fun part q hq=>res.tup ht hc ?_ hq⟩
  ·refine res.val (d:=.tup (cutD ds lo hi)) ht hc ?_
   have all:cutD ds lo hi=ds:=by
    unfold cutD
    rw [hr.length,whole.1,whole.2,List.drop_zero,Nat.sub_zero,← hr.length,List.take_length]
   rw [all]
   exact p1
  ·unfold cutD cutV
   rw [hr.length]
   exact (hr.drop _).take _
 ·rename_i z e
  cases a1x p1 e
  exact sl_str pins s σ H _ _ vl vu lo hi sl Q I r1 hs pl pu ⟨z,rfl,ht.1,res.str ht.2 hc⟩
 ·exact ht.elim
end
def b5v (xs:List D) (S:SS) (Q:DK):Prop:=match xs with
 | [x]=>match vw S x with
  | .lst ds=>Q (.int ds.length) S
  | .tup ds=>Q (.int ds.length) S
  | .str z=>z.length≤sizeLine∧Q (.int z.length) S
  | .dic kvs=>Q (.int kvs.length) S
  | _=>False
 | _=>False
def b4p (xs:List D) (S:SS) (Q:DK):Prop:=match xs with
 | [.int i]=>Q (.int (if i < 0 then -i else i)) S
 | _=>False
def maxD (xs:List D) (S:SS) (Q:DK):Prop:=match xs with
 | [.int i,.int j]=>Q (.int (if j > i then j else i)) S
 | _=>False
def minD (xs:List D) (S:SS) (Q:DK):Prop:=match xs with
 | [.int i,.int j]=>Q (.int (if j < i then j else i)) S
 | _=>False
section
variable {X:Cx} {g:Gd} {S:SS} {H:Hp}
theorem a2W {d:D} {vs:List V} (r:a0c g S H [d] vs):∃ v,vs=[v]∧Rep g S H d v:=by
 simp only [a0c] at r
 obtain ⟨v,q,rfl,a,rfl⟩:=r
 exact ⟨v,rfl,a⟩
theorem a0G {d e:D} {vs:List V} (r:a0c g S H [d,e] vs):∃ v u,vs=[v,u]∧Rep g S H d v∧Rep g S H e u:=by
 simp only [a0c] at r
 obtain ⟨v,q,rfl,a,u,q2,rfl,b,rfl⟩:=r
 exact ⟨v,u,rfl,a,b⟩
theorem b1T (hK:g.K=X.K):CallR X (.builtin "len") (rDc g b5v):=by
 intro pins s σ H vs us Q I r h
 obtain ⟨xs,S,K,hc,p1,ht,res⟩:=h
 unfold b5v at ht
 split at ht
 ·rename_i x
  obtain ⟨v,rfl,p2⟩:=a2W p1
  split at ht
  ·rename_i ds e
   obtain ⟨p,ws,rfl,hl,hr⟩:=a0g hc p2 e
   rw [hK] at hl
   exact call_len_seq pins s σ H _ _ Q I r ⟨p,ws,rfl,.inl hl,by rw [← hr.length];exact res.int ht hc⟩
  ·rename_i ds e
   obtain ⟨p,ws,rfl,hl,hr⟩:=a0s p2 e
   rw [hK] at hl
   exact call_len_seq pins s σ H _ _ Q I r ⟨p,ws,rfl,.inr hl,by rw [← hr.length];exact res.int ht hc⟩
  ·rename_i z e
   cases a1x p2 e
   exact call_len_str pins s σ H _ _ Q I r ⟨z,rfl,ht.1,res.int ht.2 hc⟩
  ·rename_i kvs e
   obtain ⟨p,ws,rfl,hl,hr⟩:=a0V hc p2 e
   obtain ⟨u1,rfl,r1⟩:=Vals.one r
   cases (show u1=Value.ref p from r1)
   exact d_len I hl fun t s' I'=>⟨.int ws.length,H,I',⟨t,rfl⟩,by rw [← Paired.length (a0A hr)];exact res.int ht hc⟩
  ·exact ht.elim
 ·exact ht.elim
theorem b0K:CallR X (.builtin "abs") (rDc g b4p):=by
 intro pins s σ H vs us Q I r h
 obtain ⟨xs,S,K,hc,p1,ht,res⟩:=h
 unfold b4p at ht
 split at ht
 ·obtain ⟨v,rfl,p2⟩:=a2W p1
  cases a0d p2
  exact call_abs pins s σ H _ _ Q I r ⟨_,rfl,res.int ht hc⟩
 ·exact ht.elim
theorem b1X (hc:X.calm=true):CallR X (.builtin "max") (rDc g maxD):=by
 intro pins s σ H vs us Q I r h
 obtain ⟨xs,S,K,hce,p1,ht,res⟩:=h
 unfold maxD at ht
 split at ht
 ·obtain ⟨v,u,rfl,p3,p4⟩:=a0G p1
  cases a0d p3
  cases a0d p4
  exact call_max2 hc pins s σ H _ _ Q I r ⟨_,_,rfl,res.int ht hce⟩
 ·exact ht.elim
theorem b1Y (hc:X.calm=true):CallR X (.builtin "min") (rDc g minD):=by
 intro pins s σ H vs us Q I r h
 obtain ⟨xs,S,K,hce,p1,ht,res⟩:=h
 unfold minD at ht
 split at ht
 ·obtain ⟨v,u,rfl,p3,p4⟩:=a0G p1
  cases a0d p3
  cases a0d p4
  exact call_min2 hc pins s σ H _ _ Q I r ⟨_,_,rfl,res.int ht hce⟩
 ·exact ht.elim
def a0R (x:D) (S:SS) (Q:Bool→Prop):Prop:=match vw S x with
 | .non=>Q false
 | .bl b=>Q b
 | .int i=>Q (i != 0)
 | .str z=>z.length≤sizeLine∧Q ((z.length:Int) != 0)
 | .lst ds=>Q (!ds.isEmpty)
 | .tup ds=>Q (!ds.isEmpty)
 | _=>False
theorem a0O {ds:List D} {vs:List V} (r:a0c g S H ds vs):vs.isEmpty=ds.isEmpty:=by
 cases a1J r <;> rfl
theorem a4n (hK:g.K=X.K) {x:D} {v:V} {Q:Bool→Prop} (hc:CellsOk g S H) (r:Rep g S H x v) (h:a0R x S Q):∃ k,TruV X.K v H k∧Q k:=by
 unfold a0R at h
 split at h
 ·rename_i e;cases a8O r e;exact ⟨false,rfl,h⟩
 ·rename_i b e;cases b3q r e;exact ⟨b,rfl,h⟩
 ·rename_i b e;cases a5j r e;exact ⟨_,rfl,h⟩
 ·rename_i b e;cases a1x r e;exact ⟨_,⟨h.1,rfl⟩,h.2⟩
 ·rename_i ds e
  obtain ⟨p,vs,rfl,hl,hr⟩:=a0g hc r e
  rw [hK] at hl
  exact ⟨_,.inl ⟨vs,hl,rfl⟩,by rw [a0O hr];exact h⟩
 ·rename_i ds e
  obtain ⟨p,vs,rfl,hl,hr⟩:=a0s r e
  rw [hK] at hl
  exact ⟨_,.inr (.inl ⟨vs,hl,rfl⟩),by rw [a0O hr];exact h⟩
 ·exact h.elim
end
end Sv
namespace Sv
open PySem PySem.Spec PyProof.Rows L2
mutual
def pdD:D→Option PyData
 | .non=>some .none
 | .bl b=>some (.bool b)
 | .int i=>some (.int i)
 | .str x=>some (.str x)
 | .lst ds=>(b0p ds).map .list
 | .tup ds=>(b0p ds).map .tuple
 | .dic _ | .obj _ | .exc _ _ _ _ | .err _ _ _ _=>none
def b0p:List D→Option (List PyData)
 | []=>some []
 | d :: ds=>match pdD d,b0p ds with
  | some p,some ps=>some (p :: ps)
  | _,_=>none
end
section
variable {X:Cx} {g:Gd} {S:SS} {pins:List (Addr × Obj)} {σ:L2.St} {H:Hp} {s:Shared}
mutual
theorem a5b (hK:g.K=X.K) (I:Inv X pins σ H s):∀ (d:D) {v:V} {u:Value} {p:PyData},Rep g S H d v→RelV v u→pdD d=some p→∃ as,Reads s.heap u p as
 | .non,_,_,_,r,q,e=>by
  simp only [Rep] at r;subst r;cases e;cases (show _=Value.none from q);exact ⟨_,.none⟩
 | .bl b,_,_,_,r,q,e=>by
  simp only [Rep] at r;subst r;cases e;cases (show _=Value.bool b from q);exact ⟨_,.bool b⟩
 | .int i,_,_,_,r,q,e=>by
  simp only [Rep] at r;subst r;cases e
  obtain ⟨t,rfl⟩:=(show ∃ t,_=Value.int i t from q)
  exact ⟨_,.int i t⟩
 | .str x,_,_,_,r,q,e=>by
  simp only [Rep] at r;subst r;cases e
  obtain ⟨t,rfl⟩:=(show ∃ t,_=Value.str x t from q)
  exact ⟨_,.str x t⟩
 | .lst ds,_,_,_,r,q,e=>by
  simp only [Rep] at r
  obtain ⟨a,vs,rfl,at_a,rs⟩:=r
  have seq:=at_a.sq
  rw [hK] at seq
  obtain ⟨its,rel,⟨o,n,here,cls,_,data⟩,_⟩:=I.list seq
  cases (show _=Value.ref a from q)
  simp only [pdD,zam] at e
  obtain ⟨ps,all,rfl⟩:=e
  have ⟨as,each⟩:=a0W hK I ds rs rel all
  exact ⟨_,.list here cls data (by simpa using each)⟩
 | .tup ds,_,_,_,r,q,e=>by
  simp only [Rep] at r
  obtain ⟨a,vs,rfl,at_a,rs⟩:=r
  have seq:=at_a.sq
  rw [hK] at seq
  obtain ⟨its,rel,⟨o,here,cls,n,data⟩,_⟩:=I.tuple seq
  cases (show _=Value.ref a from q)
  simp only [pdD,zam] at e
  obtain ⟨ps,all,rfl⟩:=e
  have ⟨as,each⟩:=a0W hK I ds rs rel all
  exact ⟨_,.tuple here cls data (by simpa using each)⟩
 | .dic _,_,_,_,_,_,e=>nomatch e
 | .obj _,_,_,_,_,_,e=>nomatch e
 | .exc _ _ _ _,_,_,_,_,_,e=>nomatch e
 | .err _ _ _ _,_,_,_,_,_,e=>nomatch e
theorem a0W (hK:g.K=X.K) (I:Inv X pins σ H s):∀ (ds:List D) {vs:List V} {us:List Value} {ps:List PyData},a0c g S H ds vs→Vals vs us→b0p ds=some ps→∃ as,ReadsAll s.heap us ps as
 | [],_,_,_,r,q,e=>by
  simp only [a0c] at r;subst r;cases q;cases e;exact ⟨_,.nil⟩
 | d :: ds,_,_,_,r,q,e=>by
  simp only [a0c] at r
  obtain ⟨v,vs,rfl,r1,r2⟩:=r
  cases q with
  | cons q1 q2 =>
   simp only [b0p] at e
   split at e
   ·rename_i p ps e1 e2
    cases e
    have ⟨_,x⟩:=a5b hK I d r1 q1 e1
    have ⟨_,y⟩:=a0W hK I ds r2 q2 e2
    exact ⟨_,.cons x y⟩
   ·cases e
end
end
def a5x:Key→PyData
 | .inl i=>.int i
 | .inr x=>.str x
mutual
def pdE:D→Option PyData
 | .non=>some .none
 | .bl b=>some (.bool b)
 | .int i=>some (.int i)
 | .str x=>some (.str x)
 | .lst ds=>(a9Y ds).map .list
 | .tup ds=>(a9Y ds).map .tuple
 | .dic kvs=>(b2g kvs).map .dict
 | .obj _ | .exc _ _ _ _ | .err _ _ _ _=>none
def b2g:List (Key × D)→Option (List (PyData × PyData))
 | []=>some []
 | (k,d) :: r=>match pdE d,b2g r with
  | some p,some ps=>some ((a5x k,p) :: ps)
  | _,_=>none
def a9Y:List D→Option (List PyData)
 | []=>some []
 | d :: ds=>match pdE d,a9Y ds with
  | some p,some ps=>some (p :: ps)
  | _,_=>none
end
section
variable {X:Cx} {g:Gd} {S:SS} {pins:List (Addr × Obj)} {σ:L2.St} {H:Hp} {s:Shared}
theorem noE {p:PyData} (h:p.hasDict=false) {as:List Addr}:p.hasDict=true→sysModules∉as:=fun e=>by rw [h] at e;cases e
theorem a9y {k:Key} {u:Value} (h:(mixKind X.prog X.w).is k u=true) (hs:(a5x k).showable=true) (hz:(a5x k).shown.length≤sizeLine) :
  Reads s.heap u (a5x k) []∧∃ bs,ReadAtMost s.heap (a5x k).depth bs∧ReprK X.prog X.w bs s.heap (a5x k).depth u (a5x k).shown:=by
 rcases keyIs_shape h with ⟨i,t,rfl,rfl⟩ | ⟨x,t,rfl,rfl⟩
 ·exact ⟨.int i t,ReprK.of_reads (prog:=X.prog) (w:=X.w) (h₀:=s.heap) (.int i t) hs (noE rfl) hz⟩
 ·exact ⟨.str x t,ReprK.of_reads (prog:=X.prog) (w:=X.w) (h₀:=s.heap) (.str x t) hs (noE rfl) hz⟩
mutual
theorem a4f (hK:g.K=X.K) (I:Inv X pins σ H s):∀ (d:D) {v:V} {u:Value} {p:PyData},Rep g S H d v→RelV v u→pdE d=some p→p.showable=true→p.shown.length≤sizeLine →
  ∃ as bs,Reads s.heap u p as∧ReadAtMost s.heap p.depth bs∧ReprK X.prog X.w bs s.heap p.depth u p.shown
 | .non,_,_,_,r,q,e,hs,hz=>by
  simp only [Rep] at r;subst r;cases e;cases (show _=Value.none from q)
  obtain ⟨bs,h1,h2⟩:=ReprK.of_reads (prog:=X.prog) (w:=X.w) (h₀:=s.heap) .none hs (noE rfl) hz
  exact ⟨_,bs,.none,h1,h2⟩
 | .bl b,_,_,_,r,q,e,hs,hz=>by
  simp only [Rep] at r;subst r;cases e;cases (show _=Value.bool b from q)
  obtain ⟨bs,h1,h2⟩:=ReprK.of_reads (prog:=X.prog) (w:=X.w) (h₀:=s.heap) (.bool b) hs (noE rfl) hz
  exact ⟨_,bs,.bool b,h1,h2⟩
 | .int i,_,_,_,r,q,e,hs,hz=>by
  simp only [Rep] at r;subst r;cases e
  obtain ⟨t,rfl⟩:=(show ∃ t,_=Value.int i t from q)
  obtain ⟨bs,h1,h2⟩:=ReprK.of_reads (prog:=X.prog) (w:=X.w) (h₀:=s.heap) (.int i t) hs (noE rfl) hz
  exact ⟨_,bs,.int i t,h1,h2⟩
 | .str x,_,_,_,r,q,e,hs,hz=>by
  simp only [Rep] at r;subst r;cases e
  obtain ⟨t,rfl⟩:=(show ∃ t,_=Value.str x t from q)
  obtain ⟨bs,h1,h2⟩:=ReprK.of_reads (prog:=X.prog) (w:=X.w) (h₀:=s.heap) (.str x t) hs (noE rfl) hz
  exact ⟨_,bs,.str x t,h1,h2⟩
 | .lst ds,_,_,_,r,q,e,hs,hz=>by
  simp only [Rep] at r
  obtain ⟨a,vs,rfl,at_a,rs⟩:=r
  have seq:=at_a.sq
  rw [hK] at seq
  obtain ⟨its,rel,⟨o,n,here,cls,_,data⟩,_⟩:=I.list seq
  cases (show _=Value.ref a from q)
  simp only [pdE,zam] at e
  obtain ⟨ps,all,rfl⟩:=e
  have hz':(listText (PyData.shownAll ps)).length≤sizeLine:=by simpa only [PyData.shown] using hz
  obtain ⟨as,bs,each,hb,hk⟩:=a1s hK I ds rs rel all (by simpa [PyData.showable] using hs) (fun t ht=>Nat.le_trans (listText_mem_le ht) hz')
  have r:Reads s.heap (.ref a) (.list ps) _:=.list here cls data (by simpa using each)
  have hna:a∉bs:=not_mem_of_deeper r (by simp only [PyData.depth];omega) hb
  refine ⟨_,a :: bs,r,ReadAtMost.cons r (by simp only [PyData.depth];omega) hb,?_⟩
  simp only [PyData.depth,PyData.shown]
  cases its with
  | nil =>
   cases each
   simp only [PyData.shownAll,listText_nil]
   exact ReprK.listEmpty here cls data
  | cons x l=>exact ReprK.list here cls data hna (by simpa using hk.length_eq) (fun i y e=>hk.item i y (by simpa using e))
 | .tup ds,_,_,_,r,q,e,hs,hz=>by
  simp only [Rep] at r
  obtain ⟨a,vs,rfl,at_a,rs⟩:=r
  have seq:=at_a.sq
  rw [hK] at seq
  obtain ⟨its,rel,⟨o,here,cls,n,data⟩,_⟩:=I.tuple seq
  cases (show _=Value.ref a from q)
  simp only [pdE,zam] at e
  obtain ⟨ps,all,rfl⟩:=e
  have hz':(tupleText (PyData.shownAll ps)).length≤sizeLine:=by simpa only [PyData.shown] using hz
  obtain ⟨as,bs,each,hb,hk⟩:=a1s hK I ds rs rel all (by simpa [PyData.showable] using hs) (fun t ht=>Nat.le_trans (tupleText_mem_le ht) hz')
  have r:Reads s.heap (.ref a) (.tuple ps) _:=.tuple here cls data (by simpa using each)
  have hna:a∉bs:=not_mem_of_deeper r (by simp only [PyData.depth];omega) hb
  refine ⟨_,a :: bs,r,ReadAtMost.cons r (by simp only [PyData.depth];omega) hb,?_⟩
  simp only [PyData.depth,PyData.shown]
  exact ReprK.tuple here cls data hna (by simpa using hk)
 | .dic kvs,_,_,_,r,q,e,hs,hz=>by
  simp only [Rep] at r
  obtain ⟨a,ws,rfl,_,at_a,rk⟩:=r
  cases (show _=Value.ref a from q)
  simp only [pdE,zam] at e
  obtain ⟨ps,all,rfl⟩:=e
  obtain ⟨_,hsys,vs,kv,o,es,ep,here,ex,data,_,pr,_⟩:=dk_of I.hok at_a
  have hz':(dictText (PyData.shownKv ps)).length≤sizeLine:=by simpa only [PyData.shown] using hz
  obtain ⟨a1,a2,bs,e1,e2,hb,k1,k2⟩:=a2T hK I kvs rk kv pr all (by simpa [PyData.showable] using hs) (fun t ht=>let ⟨p,hp,hl⟩:=PyData.shownKv_key_le ps t ht;Nat.le_trans hl (Nat.le_trans (dictText_mem_le hp) hz')) (fun t ht=>let ⟨p,hp,hl⟩:=PyData.shownKv_val_le ps t ht;Nat.le_trans hl (Nat.le_trans (dictText_mem_le hp) hz'))
  have r:Reads s.heap (.ref a) (.dict ps) _:=.dict here ex.1 data e1 e2
  have hna:a∉bs:=not_mem_of_deeper r (by simp only [PyData.depth];omega) hb
  refine ⟨_,a :: bs,r,ReadAtMost.cons r (by simp only [PyData.depth];omega) hb,?_⟩
  simp only [PyData.depth,PyData.shown,PyData.shownKv_eq]
  exact ReprK.dict here ex.1 data hsys hna (ReprEntriesK.of_two es.toList _ _ k1 k2)
 | .obj _,_,_,_,_,_,e,_,_=>nomatch e
 | .exc _ _ _ _,_,_,_,_,_,e,_,_=>nomatch e
 | .err _ _ _ _,_,_,_,_,_,e,_,_=>nomatch e
theorem a2T (hK:g.K=X.K) (I:Inv X pins σ H s):∀ (kvs:List (Key × D)) {ws:List (Key × V)} {vs:List (Key × Value)} {es:List DictEntry} {ps:List (PyData × PyData)},a0v g S H kvs ws→KV ws vs→Pairs (mixKind X.prog X.w) es vs→b2g kvs=some ps→PyData.showableKv ps=true →
  (∀ t∈PyData.shownAll (ps.map (·.1)),t.length≤sizeLine)→(∀ t∈PyData.shownAll (ps.map (·.2)),t.length≤sizeLine) →
  ∃ a1 a2 bs,ReadsAll s.heap (es.map (·.key)) (ps.map (·.1)) a1∧ReadsAll s.heap (es.map (·.val)) (ps.map (·.2)) a2∧ReadAtMost s.heap (PyData.depthKv ps) bs ∧
   ReprAllK X.prog X.w bs s.heap (PyData.depthKv ps) (es.map (·.key)) (PyData.shownAll (ps.map (·.1)))∧ReprAllK X.prog X.w bs s.heap (PyData.depthKv ps) (es.map (·.val)) (PyData.shownAll (ps.map (·.2)))
 | [],_,_,_,_,r,kv,pr,e,_,_,_=>by
  simp only [a0v] at r;subst r;cases kv;cases pr;cases e
  exact ⟨_,_,[],.nil,.nil,(fun _ h=>nomatch h),by simp only [List.map_nil,PyData.shownAll];exact .nil,by simp only [List.map_nil,PyData.shownAll];exact .nil⟩
 | (k,d) :: kvs,_,_,_,_,r,kv,pr,e,hs,hz1,hz2=>by
  simp only [a0v] at r
  obtain ⟨v,ws,rfl,r1,r2⟩:=r
  cases kv with
  | cons q1 q2 =>
   cases pr with
   | cons is1 ev pr =>
    simp only [b2g] at e
    split at e
    ·rename_i p ps e1 e2
     cases e
     obtain ⟨q0,q1⟩:=q1
     rw [← q0] at is1
     rw [← ev] at q1
     have hs':((a5x k).showable=true∧p.showable=true)∧PyData.showableKv ps=true:=by simpa [PyData.showableKv] using hs
     simp only [zav,PyData.shownAll] at hz1 hz2
     obtain ⟨x0,b0,hb0,k0⟩:=a9y (X:=X) (s:=s) is1 hs'.1.1 (hz1 _ (zal ..))
     obtain ⟨a1,b1,x1,hb1,k1⟩:=a4f hK I d r1 q1 e1 hs'.1.2 (hz2 _ (zal ..))
     obtain ⟨c1,c2,b2,y1,y2,hb2,m1,m2⟩:=a2T hK I kvs r2 q2 pr e2 hs'.2 (fun t ht=>hz1 t (zao _ ht)) (fun t ht=>hz2 t (zao _ ht))
     have d0:(a5x k).depth≤PyData.depthKv ((a5x k,p) :: ps):=by simp only [PyData.depthKv];omega
     have d1:p.depth≤PyData.depthKv ((a5x k,p) :: ps):=by simp only [PyData.depthKv];omega
     have d2:PyData.depthKv ps≤PyData.depthKv ((a5x k,p) :: ps):=by simp only [PyData.depthKv];omega
     refine ⟨_,_,b0 ++ (b1 ++ b2),.cons x0 y1,.cons x1 y2,(hb0.mono d0).append ((hb1.mono d1).append (hb2.mono d2)),?_,?_⟩
     ·simp only [zav,PyData.shownAll]
      exact .cons ((k0.more fun b hb=>zar _ hb).level_le d0) (m1.more_le (fun b hb=>zas _ (zas _ hb)) d2)
     ·simp only [zav,PyData.shownAll]
      exact .cons ((k1.more fun b hb=>zas _ (zar _ hb)).level_le d1) (m2.more_le (fun b hb=>zas _ (zas _ hb)) d2)
    ·cases e
theorem a1s (hK:g.K=X.K) (I:Inv X pins σ H s):∀ (ds:List D) {vs:List V} {us:List Value} {ps:List PyData},a0c g S H ds vs→Vals vs us→a9Y ds=some ps→PyData.showableAll ps=true→(∀ t∈PyData.shownAll ps,t.length≤sizeLine) →
  ∃ as bs,ReadsAll s.heap us ps as∧ReadAtMost s.heap (PyData.depthAll ps) bs∧ReprAllK X.prog X.w bs s.heap (PyData.depthAll ps) us (PyData.shownAll ps)
 | [],_,_,_,r,q,e,_,_=>by
  simp only [a0c] at r;subst r;cases q;cases e
  exact ⟨_,[],.nil,(fun _ h=>nomatch h),by simp only [PyData.shownAll];exact .nil⟩
 | d :: ds,_,_,_,r,q,e,hs,hz=>by
  simp only [a0c] at r
  obtain ⟨v,vs,rfl,r1,r2⟩:=r
  cases q with
  | cons q1 q2 =>
   simp only [a9Y] at e
   split at e
   ·rename_i p ps e1 e2
    cases e
    have hs':p.showable=true∧PyData.showableAll ps=true:=by simpa [PyData.showableAll] using hs
    obtain ⟨a1,b1,x1,hb1,k1⟩:=a4f hK I d r1 q1 e1 hs'.1 (hz _ (by simp only [PyData.shownAll];exact zal ..))
    obtain ⟨a2,b2,x2,hb2,k2⟩:=a1s hK I ds r2 q2 e2 hs'.2 (fun t ht=>hz t (by simp only [PyData.shownAll];exact zao _ ht))
    refine ⟨_,b1 ++ b2,.cons x1 x2,?_,?_⟩
    ·intro b hm
     simp only [PyData.depthAll]
     rcases zap.mp hm with hm | hm
     ·obtain ⟨d',as',r',hd'⟩:=hb1 b hm
      exact ⟨d',as',r',Nat.le_trans hd' (Nat.le_max_left _ _)⟩
     ·obtain ⟨d',as',r',hd'⟩:=hb2 b hm
      exact ⟨d',as',r',Nat.le_trans hd' (Nat.le_max_right _ _)⟩
    ·simp only [PyData.depthAll,PyData.shownAll]
     exact .cons ((k1.more fun b hb=>zar _ hb).level_le (Nat.le_max_left _ _)) (k2.more_le (fun b hb=>zas _ hb) (Nat.le_max_right _ _))
   ·cases e
end
theorem a7f (hK:g.K=X.K) (I:Inv X pins σ H s):∀ (d:D) {v:V} {a:Addr} {p:PyData},Rep g S H d v→RelV v (.ref a)→pdE d=some p→p.showable=true→p.shown.length≤sizeLine→∃ T idr,ShowsBy X.prog X.w s.heap a p T idr
 | .non,_,_,_,r,q,e,_,_=>by
  simp only [Rep] at r;subst r;cases (show _=Value.none from q)
 | .bl b,_,_,_,r,q,e,_,_=>by
  simp only [Rep] at r;subst r;cases (show _=Value.bool b from q)
 | .int i,_,_,_,r,q,e,_,_=>by
  simp only [Rep] at r;subst r
  obtain ⟨t,h⟩:=(show ∃ t,_=Value.int i t from q)
  cases h
 | .str x,_,_,_,r,q,e,_,_=>by
  simp only [Rep] at r;subst r
  obtain ⟨t,h⟩:=(show ∃ t,_=Value.str x t from q)
  cases h
 | .lst ds,_,a,_,r,q,e,hs,hz=>by
  simp only [Rep] at r
  obtain ⟨a1,vs,rfl,at_a,rs⟩:=r
  have ea:a=a1:=by cases (show Value.ref a=Value.ref a1 from q);rfl
  subst ea
  have seq:=at_a.sq
  rw [hK] at seq
  obtain ⟨its,rel,⟨o,n,here,cls,_,data⟩,_⟩:=I.list seq
  simp only [pdE,zam] at e
  obtain ⟨ps,all,rfl⟩:=e
  have hz':(listText (PyData.shownAll ps)).length≤sizeLine:=by simpa only [PyData.shown] using hz
  obtain ⟨as,bs,each,hb,hk⟩:=a1s hK I ds rs rel all (by simpa [PyData.showable] using hs) (fun t ht=>Nat.le_trans (listText_mem_le ht) hz')
  have r:Reads s.heap (.ref a) (.list ps) _:=.list here cls data (by simpa using each)
  have hna:a∉bs:=not_mem_of_deeper r (by simp only [PyData.depth];omega) hb
  refine ⟨"list", "list.__repr__",F.slot_list_repr.toG,F.slot_list_str,F.slot_list_format,fun s hk0=>⟨o,hk0 _ _ here,cls⟩,fun A E s Q hg hu hk0 hQ=>?_⟩
  simp only [PyData.depth] at hu
  simp only [PyData.shown] at hQ
  cases its with
  | nil =>
   cases each
   simp only [PyData.shownAll,listText_nil] at hQ
   exact call_list_repr_empty ⟨o,hk0 _ _ here,cls⟩ (hk0 _ _ here) data (hQ s.heap _ _ fun _ _ e=>e)
  | cons x l=>exact call_list_reprK here cls data hna (by simpa using hk.length_eq) (fun i y e=>hk.item i y (by simpa using e)) hg (fun b _=>Clear.nil b) hu hk0 hQ hz'
 | .tup ds,_,a,_,r,q,e,hs,hz=>by
  simp only [Rep] at r
  obtain ⟨a1,vs,rfl,at_a,rs⟩:=r
  have ea:a=a1:=by cases (show Value.ref a=Value.ref a1 from q);rfl
  subst ea
  have seq:=at_a.sq
  rw [hK] at seq
  obtain ⟨its,rel,⟨o,here,cls,n,data⟩,_⟩:=I.tuple seq
  simp only [pdE,zam] at e
  obtain ⟨ps,all,rfl⟩:=e
  have hz':(tupleText (PyData.shownAll ps)).length≤sizeLine:=by simpa only [PyData.shown] using hz
  obtain ⟨as,bs,each,hb,hk⟩:=a1s hK I ds rs rel all (by simpa [PyData.showable] using hs) (fun t ht=>Nat.le_trans (tupleText_mem_le ht) hz')
  have r:Reads s.heap (.ref a) (.tuple ps) _:=.tuple here cls data (by simpa using each)
  have hna:a∉bs:=not_mem_of_deeper r (by simp only [PyData.depth];omega) hb
  refine ⟨"tuple", "tuple.__repr__",F.slot_tuple_repr,F.slot_tuple_str,F.slot_tuple_format,fun s hk0=>⟨o,hk0 _ _ here,cls⟩,fun A E s Q hg hu hk0 hQ=>?_⟩
  simp only [PyData.depth] at hu
  simp only [PyData.shown] at hQ
  exact call_tuple_reprK here cls data hna (by simpa using hk) hg (fun b _=>Clear.nil b) hu hk0 hQ hz'
 | .dic kvs,_,a,_,r,q,e,hs,hz=>by
  simp only [Rep] at r
  obtain ⟨a1,ws,rfl,_,at_a,rk⟩:=r
  have ea:a=a1:=by cases (show Value.ref a=Value.ref a1 from q);rfl
  subst ea
  simp only [pdE,zam] at e
  obtain ⟨ps,all,rfl⟩:=e
  obtain ⟨_,hsys,vs,kv,o,es,ep,here,ex,data,_,pr,_⟩:=dk_of I.hok at_a
  have hz':(dictText (PyData.shownKv ps)).length≤sizeLine:=by simpa only [PyData.shown] using hz
  obtain ⟨a1,a2,bs,e1,e2,hb,k1,k2⟩:=a2T hK I kvs rk kv pr all (by simpa [PyData.showable] using hs) (fun t ht=>let ⟨p,hp,hl⟩:=PyData.shownKv_key_le ps t ht;Nat.le_trans hl (Nat.le_trans (dictText_mem_le hp) hz')) (fun t ht=>let ⟨p,hp,hl⟩:=PyData.shownKv_val_le ps t ht;Nat.le_trans hl (Nat.le_trans (dictText_mem_le hp) hz'))
  have r:Reads s.heap (.ref a) (.dict ps) _:=.dict here ex.1 data e1 e2
  have hna:a∉bs:=not_mem_of_deeper r (by simp only [PyData.depth];omega) hb
  refine ⟨"dict", "dict.__repr__",F.slot_dict_repr,F.slot_dict_str,F.slot_dict_format,fun s hk0=>⟨o,hk0 _ _ here,ex.1⟩,fun A E s Q hg hu hk0 hQ=>?_⟩
  simp only [PyData.depth] at hu
  simp only [PyData.shown,PyData.shownKv_eq] at hQ
  exact call_dict_reprK here ex.1 data hsys hna (ReprEntriesK.of_two es.toList _ _ k1 k2) hg (fun b _=>Clear.nil b) hu hk0 hQ (by rw [← PyData.shownKv_eq];exact hz')
 | .obj _,_,_,_,_,_,e,_,_=>nomatch e
 | .exc _ _ _ _,_,_,_,_,_,e,_,_=>nomatch e
 | .err _ _ _ _,_,_,_,_,_,e,_,_=>nomatch e
end
structure b0F (p:PyData):Prop where
 can:p.showable=true
 noDict:p.hasDict=false
 fits:p.shown.length≤sizeLine
 flat:p.depth≤20
structure a4t (p:PyData):Prop where
 can:p.showable=true
 fits:p.shown.length≤sizeLine
 flat:p.depth≤20
def pdS (S:SS):D→Option PyData
 | .obj a=>match S a with
  | some (.lst ds)=>(b0p ds).map .list
  | _=>none
 | d=>pdD d
theorem a69 {X:Cx} {g:Gd} {S:SS} {pins:List (Addr × Obj)} {σ:L2.St} {H:Hp} {s:Shared} (hK:g.K=X.K) (I:Inv X pins σ H s) (cells:CellsOk g S H) {d:D} {v:V} {u:Value} {p:PyData} (r:Rep g S H d v) (q:RelV v u) (e:pdS S d=some p):∃ as,Reads s.heap u p as:=by
 unfold pdS at e
 split at e
 ·rename_i a
  simp only [Rep] at r
  subst r
  split at e
  ·rename_i ds at_a
   obtain ⟨vs,tracked,rs⟩:=cells a _ at_a
   simp only [zam] at e
   obtain ⟨ps,all,rfl⟩:=e
   obtain ⟨its,rel,⟨o,n,here,cls,_,data⟩,_⟩:=I.list (.inl (.inl tracked))
   cases (show u=Value.ref a from q)
   have ⟨as,each⟩:=a0W hK I ds rs rel all
   exact ⟨_,.list here cls data (by simpa using each)⟩
  ·cases e
 ·exact a5b hK I d r q e
def a8g (xs:List D) (S:SS) (K:DK):Prop:=match xs with
 | [d]=>∃ p,(((pdS S d=some p∨(D.okd 60 (dv S 60 d)=true∧p=(dv S 60 d).py))∧b0F p)∨(pdE d=some p∧a4t p))∧K (.str p.shown) S
 | _=>False
theorem a3i {X:Cx} {g:Gd} (hK:g.K=X.K) (guards:X.A.guards=some []) (units:X.A.units + 21 < cLine):CallR X (.builtin "repr") (rDc g a8g):=by
 rintro pins s σ H _ _ Q I given ⟨xs,S,K,cells,reps,told,res⟩
 unfold a8g at told
 split at told
 case h_2=>exact told.elim
 rename_i d
 obtain ⟨p,told,k⟩:=told
 simp only [a0c] at reps
 obtain ⟨v,_,rfl,rep,rfl⟩:=reps
 have want:Q (.str p.shown) H:=res.val k cells (by simp only [Rep])
 cases given with
 | cons one rest =>
  cases rest
  rcases told with ⟨plain,shows⟩ | ⟨plain,shows⟩
  case inr =>
   obtain ⟨as,bs,reads,_⟩:=a4f hK I d rep one plain shows.can shows.fits
   have big:=fun (a:Addr) (q:RelV _ (.ref a)) =>
    have ⟨T,idr,sb⟩:=a7f hK I d rep q plain shows.can shows.fits
    call_repr_slot (prog:=X.prog) (w:=X.w) (A:=X.A) (E:=X.xe) (s:=s) (Q:=EP X pins σ Q) (by omega) (sb.typeIs s fun _ _ e=>e) sb.slotRepr (sb.call X.A.in1 X.xe s _ guards (by show X.A.units + 1 + p.depth < cLine;have:=shows.flat;omega) (fun _ _ e=>e) fun h' u tk keeps=>⟨_,_,rfl,⟨.str p.shown,H,I.kept keeps,⟨u,rfl⟩,want⟩⟩)
   cases reads with
   | none=>exact PySem.P.repr_of_none ⟨.str _,H,I.tok _,⟨_,rfl⟩,want⟩
   | bool b=>exact PySem.P.repr_of_bool ⟨.str _,H,I.tok _,⟨_,rfl⟩,by cases b <;> exact want⟩
   | int i t=>exact PySem.P.repr_of_int (by simpa [PyData.showable] using shows.can) ⟨.str _,H,I.tok _,⟨_,rfl⟩,want⟩
   | str x t=>exact PySem.P.repr_of_str ⟨.str _,H,I.tok _,⟨_,rfl⟩,want⟩ shows.fits
   | list e1 e2 e3 e4=>exact big _ one
   | tuple e1 e2 e3 e4=>exact big _ one
   | dict e1 e2 e3 e4 e5=>exact big _ one
  obtain ⟨as,reads⟩:∃ as,Reads s.heap _ p as:=by
   rcases plain with plain | ⟨okd,rfl⟩
   ·exact a69 hK I cells rep one plain
   ·exact Dp.reads I _ _ _ (hK ▸ a5q cells 60 60 okd rep) one
  have big:=fun (a:Addr) (reads:Reads s.heap (.ref a) p as)=>repr_of_reads' (prog:=X.prog) (w:=X.w) (A:=X.A) (E:=X.xe) (s:=s) (Q:=EP X pins σ Q) reads shows.can (PyData.noDict_hsm shows.noDict) guards (by have:=shows.flat;omega) (fun _ _ e=>e)
   (fun h' u tk keeps=>⟨.str p.shown,H,I.kept keeps,⟨u,rfl⟩,want⟩) shows.fits
  cases reads with
  | none=>exact PySem.P.repr_of_none ⟨.str _,H,I.tok _,⟨_,rfl⟩,want⟩
  | bool b=>exact PySem.P.repr_of_bool ⟨.str _,H,I.tok _,⟨_,rfl⟩,by cases b <;> exact want⟩
  | int i t=>exact PySem.P.repr_of_int (by simpa [PyData.showable] using shows.can) ⟨.str _,H,I.tok _,⟨_,rfl⟩,want⟩
  | str x t=>exact PySem.P.repr_of_str ⟨.str _,H,I.tok _,⟨_,rfl⟩,want⟩ shows.fits
  | list e1 e2 e3 e4=>exact big _ (.list e1 e2 e3 e4)
  | tuple e1 e2 e3 e4=>exact big _ (.tuple e1 e2 e3 e4)
  | dict e1 e2 e3 e4 e5=>exact big _ (.dict e1 e2 e3 e4 e5)
section
open Builtin Builtin.Str Builtin.BaseException Builtin.Exceptions
open PySem.W (Looks Frag findIn subIn looks_findIn looks_subIn)
section
variable {prog:Program} {w:World} {M:Model} {A:Around} {E:Value→Shared→Prop} {s:Shared} {K:Frag} {C e t0:Addr} {n:String}
theorem a75 {Q:String→Shared→Prop} (x:ExcC K C e t0 s.heap) (hn:a9I K C=some n) (hq:∀ m,(m.cutAt '.').getLastD "" = n→Q m s):wpAny M A (typeNameOfWhole (.ref e)) Q E s:=by
 unfold a9I at hn
 split at hn
 ·rename_i c d cd sl hl
  cases hn
  have hC:=x.1 _ _ hl
  unfold typeNameOfWhole shownTypeOf
  refine wpAny_bind (wpAny_bind (x.LT.here ?_))
  rw [if_neg (by intro q;exact Bool.noConfusion (q.symm.trans (by rfl)))]
  refine wpAny_pure ?_
  unfold typeNameWhole classData
  refine wpAny_bind (wpAny_bind (wpAny_load hC ?_))
  exact wpAny_pure (wpAny_pure (hq _ rfl))
 ·cases hn
theorem a8h {base:Nat} {Q:Str→Shared→Prop} (ht:s.heap.TupAt t0 []) (hb:base + 2≤sizeLine) (hg:A.guards=some []) (hu:A.units + 1 < cLine)
  (hQ:∀ h' tk,(∀ b o,s.heap.get? b=some o→h'.get? b=some o)→Q "()" { s with heap:=h',toks:=tk }):wpAny (model prog w) A (pyReprUnder base (.ref t0)) Q E s:=by
 obtain ⟨o,k,ho,hc,hd⟩:=ht
 have r:Reads s.heap (.ref t0) (.tuple []) []:=.tuple ho hc hd .nil
 obtain ⟨bs,hbs,hk⟩:=ReprK.of_reads (prog:=prog) (w:=w) (h₀:=s.heap) r rfl (noE rfl) (by rw [zai];decide +kernel)
 have e:(PyData.tuple []).shown=("()" : Str):=by decide +kernel
 rw [e] at hk
 exact hk base hb A [] E s Q hg (fun b _=>Clear.nil b) hu (fun _ _ e=>e) hQ
theorem a1R {Q:Fin→Shared→Prop} (x:ExcC K C e t0 s.heap) (ht:s.heap.TupAt t0 []) (hn:a9I K C=some n) (hb:(Str.ofString n).length + 2≤1000) (hg:A.guards=some []) (hu:A.units + 1 < cLine)
  (hq:∀ h' tk u,(∀ b o,s.heap.get? b=some o→h'.get? b=some o)→Q (.done (.ret (.str (Str.ofString n ++ "()") u))) { s with heap:=h',toks:=tk }) :
  wpAny (model prog w) A (Builtin.«BaseException.__repr__» ⟨[.ref e],[]⟩) Q E s:=by
 have e2:("()" : Str).length=2:=by decide
 have hsz:(Str.ofString n ++ ("()" : Str)).length≤sizeLine:=by rw [Str.length_append,e2,zai];omega
 unfold Builtin.«BaseException.__repr__» Builtin.bexcReprAt
 refine wpAny_bind (m:=slotArgs "__repr__" 0 _) (wpAny_pure ?_)
 refine wpAny_bind (a75 x hn fun m hm=>?_)
 rw [hm]
 refine wpAny_bind (bexcArgs_C x ht ?_)
 refine wpAny_bind (a8h ht (by rw [zai];omega) hg hu fun h' tk k=>?_)
 repeat wp_step
 exact hq h' _ _ k
theorem a1S {Q:Value→Shared→Prop} (x:ExcC K C e t0 s.heap) (hB:subIn K (.ref C) (.type "BaseException")=some true)
  (h:wpAny (model prog w) A.in1 (Builtin.«BaseException.__repr__» ⟨[.ref e],[]⟩) (fun fin s'=>∃ v,fin=.done (.ret v)∧Q v s') E s):wpAny (model prog w) A (call (.builtin "BaseException.__repr__") [.ref e]) Q E s:=by
 refine wpAny_call (codeAny_call_builtin F.excStr_Exception.repr.plain F.entry_bexc_repr (@PySem.W.check_slot (model prog w) _ _ s "BaseException.__repr__" "BaseException" "__repr__" (.ref e) [] [] _ (by decide +kernel) (by decide +kernel) (x.LI hB) (F.args_bexc_repr _) ?_))
 exact wpAny_mono h (fun fin s' hv=>by obtain ⟨v,rfl,q⟩:=hv;exact q) fun _ _ z=>z
theorem a6n {i:String} {v tp:Value} {name:Str} {Q:Option Value→Shared→Prop} (hT:Looks M s.heap (typeOf v) tp) (hf:Looks M s.heap (typeLookup tp name) (some (.builtin i))) (hb:bindSpecial (.builtin i) v=pure (.builtin i,[v]))
  (hc:wpAny M A (call (.builtin i) [v]) (fun r=>Q (some r)) E s):wpAny M A (callSpecialIfBound? v name) Q E s:=by
 simp only [callSpecialIfBound?,bindSpecialIfBound?]
 refine wpAny_holding (wpAny_bind (wpAny_bind ?_))
 unfold specialOf
 refine wpAny_bind (hT.here (hf.here ?_))
 simp only [hb]
 refine wpAny_bind (wpAny_askSetting (wpAny_ite ?_))
 have fin:wpAny M A (call (.builtin i) ([v] ++ []) >>= fun v=>pure (some v)) Q E s:=wpAny_bind (wpAny_mono hc (fun v s' h'=>wpAny_pure h') fun _ _ h'=>h')
 split
 ·exact wpAny_bind (wpAny_pure (wpAny_pure (by exact fin)))
 ·exact wpAny_tryCatch (wpAny_bind (wpAny_pure (wpAny_pure (by exact fin))))
theorem a4g {Q:Value→Shared→Prop} (x:ExcC K C e t0 s.heap) (ht:s.heap.TupAt t0 []) (hn:a9I K C=some n) (hb:(Str.ofString n).length + 2≤1000) (hs:findIn K (.ref C) "__repr__" = some (some (.builtin "BaseException.__repr__"))) (hB:subIn K (.ref C) (.type "BaseException")=some true)
  (hg:A.guards=some []) (hu:A.units + 4 < cLine)
  (hq:∀ h' tk u,(∀ b o,s.heap.get? b=some o→h'.get? b=some o)→Q (.str (Str.ofString n ++ "()") u) { s with heap:=h',toks:=tk }):wpAny (model prog w) A (call (.builtin "repr") [.ref e]) Q E s:=by
 have hf:Looks (model prog w) s.heap (typeLookup (.ref C) "__repr__") (some (.builtin "BaseException.__repr__")):=looks_findIn x.1 hs
 refine Calls.call_function_entry PySem.F.kind_repr PySem.F.plain_repr PySem.F.entry_repr (PySem.F.args_repr1 _) ?_
 unfold Builtin.«repr»
 refine wpAny_bind (m:=oneArg "repr" _) (wpAny_pure ?_)
 refine wpAny_bind (wpAny_cRoomFor (by show A.units + 1 < cLine;omega) ?_)
 refine wpAny_bind (wpAny_bind (x.LT.here (hf.here ?_)))
 rw [if_neg (by simp)]
 refine wpAny_bind (m:=callSpecialIfBound? (.ref e) (Str.ofString "__repr__") _) (a6n x.LT hf (F.excStr_Exception.repr.bind _) (a1S x hB (a1R x ht hn hb hg (by show A.units + 1 + 1 + 1 < cLine;omega) fun h' tk u k=>⟨_,rfl,?_⟩)))
 refine wpAny_bind (wpAny_isInstance (typeIs_str _ _ _) isSubtype_str_str ?_)
 first
  | exact wpAny_pure ⟨_,rfl,hq h' tk u k⟩
  | (rw [if_pos rfl];exact wpAny_pure ⟨_,rfl,hq h' tk u k⟩)
  | (simp only [if_true];exact wpAny_pure ⟨_,rfl,hq h' tk u k⟩)
end
section
variable {X:Cx} {pins:List (Addr × Obj)} {σ:L2.St} {H:Hp} {s:Shared}
def erO (a C t0:Addr):HO:=.ext fun h=>∃ oe,h.get? a=some oe∧Zc (.ref C) none oe∧∃ vs,oe.data=.fields vs∧(true=true→vs[0]?=some (.ref t0))
theorem a9D {C a:Addr} {h':Heap} {tk:Nat} (I:Inv X pins σ H s) (hm:Heap.MadeExcOf s.heap h' a (.ref C) []):∃ t0,H a=none∧H t0=none∧a≠t0∧Inv X pins σ (upd (upd H t0 (.tup [])) a (erO a C t0)) { s with heap:=h',toks:=tk }:=by
 obtain ⟨t0,hta,htn,htt⟩:=hm.there
 have na:H a=none:=I.hok.gone hm.new
 have nt:H t0=none:=I.hok.gone htn
 have ne:a≠t0:=fun e=>by
  rw [e,htt] at hta
  cases hta
 obtain ⟨G,g1,g2⟩:=restrict h' fun b=>decide (b≠a)
 have gk:∀ b,b≠a→G.get? b=h'.get? b:=fun b hb=>g1 b (zba hb)
 have ga:G.get? a=none:=g2 a (decide_eq_false fun z=>z rfl)
 have I1:Inv X pins σ (upd H t0 (.tup [])) { s with heap:=G,toks:=tk }:=I.laidN (fun b o e=>by
  have hb:b≠a:=fun z=>by rw [z,hm.new] at e;cases e
  rw [gk b hb]
  exact hm.keeps b o e) htn nt ⟨Nat.zero_le _,[],.nil,⟨_,(gk t0 ne.symm).trans htt,rfl,_,rfl⟩⟩
 have I2:=I1.laidN (h':=h') (a:=a) (o:=erO a C t0) (t':=tk) (fun b o e=>by
  have hb:b≠a:=fun z=>by rw [z,ga] at e;cases e
  rw [← gk b hb]
  exact e) ga (by rw [upd_ne ne];exact na) ⟨⟨_,hta,⟨rfl,rfl⟩,_,rfl,fun _=>rfl⟩,⟨_,hta⟩,fun h1 h2 ⟨oe,e,z⟩ k=>⟨oe,k _ e,z⟩⟩
 exact ⟨t0,na,nt,ne,I2⟩
theorem a9Z {C:Addr} {bmB:List Value} {B newId initId:String} {x:Str} {p pos:Pos} (F:ExcBaseFacts B newId initId bmB) (q:PySem.W.excIn X.K C bmB newId=true) (gC:X.mg x=some (.ref C)) (kC:PySem.W.keepIn X.K (.ref C)=true) (hg:Gl X x)
  (hdb:(x == ("__debug__" : Str))=false) :
  PE X (.Call (.Name x p) [] [] pos) (fun σ H Q=>∀ a t0,H a=none→H t0=none→a≠t0→Q (.ref a) (upd (upd H t0 (.tup [])) a (erO a C t0))):=by
 refine ⟨fun pins s σ H Q I h=>?_⟩
 have ⟨_,_,_,_,_,_,_,_,_,_,_,_,_,_,_,_,_,at_C,names,noInit,tail⟩:=exc_obj I.kIn q
 refine wpAny_Call_Name_kw (ld_glob I hg gC (PySem.W.callWith_K0 I.kIn kC (wpAny_call_exc_subT F tail at_C names noInit (fun h' a hm=>?_) (Nat.zero_le _))) hdb)
 obtain ⟨t0,na,nt,ne,I2⟩:=a9D (tk:=s.toks) I hm
 exact ⟨.ref a,_,I2,rfl,h a t0 na nt ne⟩
end
end
structure RpC (K:zbd) (C:Addr) (n:String):Prop where
 nm:a9I K C=some n
 few:(Str.ofString n).length + 2≤1000
 rp:PySem.W.findIn K (.ref C) "__repr__" = some (some (.builtin "BaseException.__repr__"))
 be:PySem.W.subIn K (.ref C) (.type "BaseException")=some true
def a7z (K:zbd) (C:Addr):Prop:=∃ (bmB:List Value) (B newId initId:String),ExcBaseFacts B newId initId bmB∧PySem.W.excIn K C bmB newId=true∧PySem.W.keepIn K (.ref C)=true
def a5B (K0:zbd) (x:D) (S:SS) (K:DK):Prop:=a8g [x] S K∨∃ a C n,x=.err a C [] true∧RpC K0 C n∧K (.str (Str.ofString n ++ "()")) S
def b83 (g:Gd):List V→Hp→VK→Prop:=fun vs H Q=>∃ x v S K,vs=[v]∧Rep g S H x v∧CellsOk g S H∧a5B g.K x S K∧Res g S H K Q
theorem a7E {X:Cx} {g:Gd} (hK:g.K=X.K) (guards:X.A.guards=some []) (units:X.A.units + 21 < cLine):CallR X (.builtin "repr") (b83 g):=by
 rintro pins s σ H vs us Q I given ⟨x,v,S,K,rfl,rep,cells,told,res⟩
 rcases told with told | ⟨a,C,n,rfl,rc,k⟩
 ·exact a3i hK guards units _ _ _ _ _ _ _ I given ⟨[x],S,K,cells,by simp only [a0c];exact ⟨v,[],rfl,rep,rfl⟩,told,res⟩
 ·have rep2:=rep
  simp only [Rep] at rep2
  obtain ⟨d,t0,rfl,_,⟨φ,at_a,says⟩,tt,_⟩:=rep2
  have at_t:=(tt trivial).2
  rw [hK] at rc
  cases given with
  | cons one rest =>
   cases rest
   cases (show _=Value.ref a from one)
   have laid:ObjOk X.prog X.w H s.heap a (.ext φ):=I.hok a _ at_a
   obtain ⟨oe,here,zc,ws,fields,fst⟩:=says _ laid.1
   obtain ⟨rfl,w0⟩:=fst rfl
   obtain ⟨_,its,rv,o,h1,h2,m,h3⟩:=(show ObjOk X.prog X.w H s.heap t0 (.tup []) from I.hok t0 _ at_t)
   cases rv
   have want:Q (.str (Str.ofString n ++ "()")) H:=res.val k cells (by simp only [Rep])
   exact a4g ⟨I.kIn,oe,ws,here,zc.1,fields,w0⟩ ⟨o,m,h1,h2,h3⟩ rc.nm rc.few rc.rp rc.be guards (by omega) fun h' tk u keeps=>⟨.str _,H,I.kept keeps,⟨u,rfl⟩,want⟩
end Sv
namespace Sv
open PySem PySem.Spec PyProof.Rows L2
def intD (xs:List D) (S:SS) (K:DK):Prop:=match xs with
 | [.int i]=>K (.int i) S
 | [.bl b]=>K (.int (if b then 1 else 0)) S
 | [.str x]=>x.length≤640∧∃ n,PySem.intText? x=some n∧K (.int n) S
 | _=>False
def a7o (xs:List D) (S:SS) (K:DK):Prop:=match xs with
 | [d]=>match vw S d with
  | .lst ds=>K (.tup ds) S
  | .tup ds=>K (.tup ds) S
  | _=>False
 | _=>False
def a9A (cell:Bool) (xs:List D) (S:SS) (K:DK):Prop:=match xs with
 | [d]=>∃ ds,(vw S d=.lst ds∨vw S d=.tup ds)∧if cell=true then ∀ p,S p=none→K (.obj p) (S.set p (.lst ds)) else K (.lst ds) S
 | _=>False
section
variable {X:Cx} {g:Gd}
theorem one_of {S:SS} {H:Hp} {d:D} {vs:List V} (r:a0c g S H [d] vs):∃ v,vs=[v]∧Rep g S H d v:=by
 simp only [a0c] at r
 obtain ⟨v,_,rfl,rep,rfl⟩:=r
 exact ⟨v,rfl,rep⟩
theorem int_ok:CallR X (.type "int") (rDc g intD):=by
 rintro pins s σ H vs us Q I given ⟨xs,S,K,cells,reps,told,res⟩
 unfold intD at told
 split at told
 ·obtain ⟨v,rfl,rep⟩:=one_of reps
  cases a0d rep
  exact call_int1 _ _ _ _ _ _ _ I given (.inl ⟨_,rfl,res.int told cells⟩)
 ·obtain ⟨v,rfl,rep⟩:=one_of reps
  simp only [Rep] at rep
  subst rep
  exact call_int1 _ _ _ _ _ _ _ I given (.inr ⟨_,rfl,res.int told cells⟩)
 ·obtain ⟨v,rfl,rep⟩:=one_of reps
  cases a0o rep
  obtain ⟨short,n,reads,k⟩:=told
  obtain ⟨u,rfl,t,rfl⟩:=vals1 given
  exact PySem.W.KIN.call_text reads short ⟨.int n,H,I.tok _,⟨_,rfl⟩,res.int k cells⟩
 ·exact told.elim
theorem a8s (hK:g.K=X.K):CallR X (.type "tuple") (rDc g a7o):=by
 rintro pins s σ H vs us Q I given ⟨xs,S,K,cells,reps,told,res⟩
 unfold a7o at told
 split at told
 ·obtain ⟨v,rfl,rep⟩:=one_of reps
  split at told
  ·rename_i ds seen
   obtain ⟨p,ws,rfl,seq,all⟩:=a0g cells rep seen
   rw [hK] at seq
   exact call_tuple_of _ _ _ _ _ _ _ I given ⟨_,_,rfl,.inl ⟨seq,fun l free=>res.tup told cells all free⟩⟩
  ·rename_i ds seen
   have is:=a4q seen
   subst is
   obtain ⟨p,ws,rfl,seq,all⟩:=a0s rep seen
   rw [hK] at seq
   exact call_tuple_of _ _ _ _ _ _ _ I given ⟨_,_,rfl,.inr ⟨seq,res.val told cells rep⟩⟩
  ·exact told.elim
 ·exact told.elim
theorem a9B (hK:g.K=X.K) (cell:Bool):CallR X (.type "list") (rDc g (a9A cell)):=by
 rintro pins s σ H vs us Q I given ⟨xs,S,K,cells,reps,told,res⟩
 unfold a9A at told
 split at told
 ·obtain ⟨v,rfl,rep⟩:=one_of reps
  obtain ⟨ds,seen,told⟩:=told
  have laid:∃ p ws,v=.ref p∧(SqL X.K H p ws∨SqT X.K H p ws)∧a0c g S H ds ws:=by
   rw [← hK]
   rcases seen with seen | seen
   ·exact (a0g cells rep seen).imp fun _ z=>z.imp fun _ z=>⟨z.1,.inl z.2.1,z.2.2⟩
   ·exact (a0s rep seen).imp fun _ z=>z.imp fun _ z=>⟨z.1,.inr z.2.1,z.2.2⟩
  obtain ⟨p,ws,rfl,seq,all⟩:=laid
  refine call_list_of _ _ _ _ _ _ _ I given ⟨_,_,rfl,seq,fun l free=>?_⟩
  cases cell with
  | true=>exact res.lstC told cells all free
  | false=>exact res.lst told cells all free
 ·exact told.elim
end
end Sv
namespace Sv
open PySem PySem.Spec PyProof.Rows L2
def leS (a b:Str):Bool:=!decide (b.cps.toList < a.cps.toList)
def a0X (zs:List Str):List Str:=zs.mergeSort leS
theorem a6A (a b:Str):leS a b=true∨leS b a=true:=by
 unfold leS
 simp only [Bool.not_eq_true',decide_eq_false_iff_not]
 by_cases h:b.cps.toList < a.cps.toList
 ·exact .inr fun z=>List.lt_irrefl _ (List.lt_trans h z)
 ·exact .inl h
theorem a3w (a b c:Str) (h:leS a b=true) (k:leS b c=true):leS a c=true:=by
 unfold leS at h k ⊢
 simp only [Bool.not_eq_true',decide_eq_false_iff_not] at h k ⊢
 exact List.le_trans (List.not_lt.mp h) (List.not_lt.mp k)
theorem a71 {a b:Str} (h:leS a b=true) (k:leS b a=true):a=b:=by
 unfold leS at h k
 simp only [Bool.not_eq_true',decide_eq_false_iff_not] at h k
 have same:=List.le_antisymm (List.not_lt.mp h) (List.not_lt.mp k)
 cases a;cases b
 congr 1
 exact Array.toList_inj.mp same
theorem a3F:∀ (zs:List Str) (p:Str),risingS p zs=true→(p :: zs).Pairwise fun a b=>leS a b=true
 | [],_,_=>List.pairwise_singleton _ _
 | x :: r,p,h=>by
  simp only [risingS,zak] at h
  have rest:=a3F r x h.2
  have first:leS p x=true:=by
   unfold leS
   rw [← ltCps_eq]
   exact h.1
  refine List.pairwise_cons.mpr ⟨fun y hy=>?_,rest⟩
  rcases zat.mp hy with rfl | hy
  ·exact first
  ·exact a3w _ _ _ first ((List.pairwise_cons.mp rest).1 y hy)
theorem a2l {ys zs:List Str} (perm:ys.Perm zs) (up:sortedS ys=true):ys=a0X zs:=by
 have rises:ys.Pairwise fun a b=>leS a b=true:=by
  cases ys with
  | nil=>exact .nil
  | cons x r=>exact a3F r x up
 have rises2:(a0X zs).Pairwise fun a b=>leS a b=true:=List.pairwise_mergeSort a3w (fun a b=>by
  have:=a6A a b
  simpa using this) zs
 exact List.Perm.eq_of_pairwise (fun a b _ _ h k=>a71 h k) rises rises2 (perm.trans (List.mergeSort_perm zs leS).symm)
def outL (cell:Bool) (ds:List D) (S:SS) (K:DK):Prop:=if cell=true then ∀ p,S p=none→K (.obj p) (S.set p (.lst ds)) else K (.lst ds) S
def outK (cell:Bool) (kvs:List (Key × D)) (S:SS) (K:DK):Prop:=if cell=true then ∀ p,S p=none→K (.obj p) (S.set p (.dic kvs)) else K (.dic kvs) S
theorem Res.outL {g:Gd} {S:SS} {H:Hp} {K:DK} {Q:VK} {cell:Bool} {ds:List D} {vs:List V} {p:Addr} (res:Res g S H K Q) (k:outL cell ds S K) (cells:CellsOk g S H) (all:a0c g S H ds vs) (free:H p=none):Q (.ref p) (upd H p (.lst vs)):=by
 cases cell with
 | true=>exact res.lstC k cells all free
 | false=>exact res.lst k cells all free
theorem Res.outK {g:Gd} {S:SS} {H:Hp} {K:DK} {Q:VK} {cell:Bool} {kvs:List (Key × D)} {ws:List (Key × V)} {p:Addr} (res:Res g S H K Q) (k:outK cell kvs S K) (cells:CellsOk g S H) (all:a0v g S H kvs ws) (free:H p=none):Q (.ref p) (upd H p (.dK ws)):=by
 cases cell with
 | true=>exact res.dicC k cells all free
 | false=>exact res.dic k cells all free
theorem a04 {g:Gd} {S:SS} {H:Hp}:∀ (zs:List Str) {vs:List V},a0c g S H (zs.map D.str) vs→vs=zs.map V.str
 | [],_,r=>by simp only [List.map_nil,a0c] at r;exact r
 | z :: zs,_,r=>by
  simp only [zav,a0c] at r
  obtain ⟨v,q,rfl,one,more⟩:=r
  rw [a0o one,a04 zs more,zav]
theorem a1w {g:Gd} {S:SS} {H:Hp}:∀ (zs:List Str),a0c g S H (zs.map D.str) (zs.map V.str)
 | []=>by simp only [List.map_nil,a0c]
 | z :: zs=>by
  simp only [zav,a0c]
  exact ⟨_,_,rfl,by simp only [Rep],a1w zs⟩
theorem a7c {g:Gd} {S:SS} {H:Hp} {kvs:List (Key × D)} {ws:List (Key × V)} (r:a0v g S H kvs ws):ws.map (·.1)=kvs.map (·.1):=by
 have q:=a0A r
 clear r
 induction q with
 | nil=>rfl
 | cons h _ ih=>rw [zav,zav,ih,h.1]
theorem a7d {g:Gd} {S:SS} {H:Hp} {kvs:List (Key × D)} {ws:List (Key × V)} (r:a0v g S H kvs ws):a0c g S H (kvs.map (·.2)) (ws.map (·.2)):=by
 have q:=a0A r
 clear r
 refine a2c ?_
 induction q with
 | nil=>exact .nil
 | cons h _ ih=>exact .cons h.2 ih
def a4k (cell:Bool) (xs:List D) (S:SS) (K:DK):Prop:=match xs with
 | [d]=>∃ zs:List Str,(vw S d=.lst (zs.map D.str)∨∃ kvs,vw S d=.dic kvs∧kvs.map (·.1)=zs.map Sum.inr)∧zs.length < 64∧outL cell ((a0X zs).map D.str) S K
 | _=>False
def a9c (cell:Bool) (xs:List D) (S:SS) (K:DK):Prop:=match xs with
 | [d]=>∃ kvs,vw S d=.dic kvs∧outK cell kvs S K
 | _=>False
section
variable {X:Cx} {g:Gd}
theorem a7j (calm:X.calm=true) (hK:g.K=X.K) (cell:Bool):CallR X (.builtin "sorted") (rDc g (a4k cell)):=by
 rintro pins s σ H vs us Q I given ⟨xs,S,K,cells,reps,told,res⟩
 unfold a4k at told
 split at told
 ·obtain ⟨v,rfl,rep⟩:=one_of reps
  obtain ⟨zs,seen | ⟨kvs,seen,keys⟩,few,k⟩:=told
  ·obtain ⟨p,ws,rfl,seq,all⟩:=a0g cells rep seen
   rw [hK] at seq
   cases a04 zs all
   exact cr_sortedS _ _ _ _ _ _ _ I given ⟨p,zs,rfl,seq,few,fun ys q perm up free=>by
    rw [a2l perm up]
    exact res.outL k cells (a1w _) free⟩
  ·obtain ⟨p,ws,rfl,at_p,all⟩:=a0V cells rep seen
   exact call_sortedD calm _ _ _ _ _ _ _ I given ⟨p,ws,zs,rfl,at_p,(a7c all).trans keys,few,fun ys q perm up free=>by
    rw [a2l perm up]
    exact res.outL k cells (a1w _) free⟩
 ·exact told.elim
theorem a9d (cell:Bool):CallR X (.type "dict") (rDc g (a9c cell)):=by
 rintro pins s σ H vs us Q I given ⟨xs,S,K,cells,reps,told,res⟩
 unfold a9c at told
 split at told
 ·obtain ⟨v,rfl,rep⟩:=one_of reps
  obtain ⟨kvs,seen,k⟩:=told
  obtain ⟨p,ws,rfl,at_p,all⟩:=a0V cells rep seen
  exact call_dictD _ _ _ _ _ _ _ I given ⟨p,ws,rfl,at_p,fun q free=>res.outK k cells all free⟩
 ·exact told.elim
def a9w (x:D) (xs:List D) (S:SS) (K:DK):Prop:=match x,xs with
 | .str a,[d]=>∃ zs:List Str,(vw S d=.lst (zs.map D.str)∨vw S d=.tup (zs.map D.str))∧(zs.map (·.length)).sum + zs.length * a.length≤16777216∧K (.str (Txt.join a zs)) S
 | _,_=>False
def a7q (x:D) (xs:List D) (S:SS) (K:DK):Prop:=match x,xs with
 | .str a,[]=>a.length≤5592405∧K (.str (Txt.upper a)) S
 | _,_=>False
def b4v (x:D) (xs:List D) (S:SS) (K:DK):Prop:=match x,xs with
 | .obj p,[d]=>∃ ds,S p=some (.lst ds)∧ds.length < sizeLine∧K .non (S.set p (.lst (ds ++ [d])))
 | _,_=>False
def b5q (x:D) (xs:List D) (S:SS) (K:DK):Prop:=match x,xs with
 | .obj p,[.int i,d]=>∃ ds,S p=some (.lst ds)∧ds.length < sizeLine∧0≤i∧i < 2 ^ 63∧K .non (S.set p (.lst (ds.take i.toNat ++ [d] ++ ds.drop i.toNat)))
 | _,_=>False
def b5L (x:D) (xs:List D) (S:SS) (K:DK):Prop:=match x,xs with
 | .obj p,[]=>∃ ds d,S p=some (.lst ds)∧ds[ds.length - 1]?=some d∧K d (S.set p (.lst ds.dropLast))
 | .obj p,[.int i]=>∃ (ds:List D) (d:D) (k:Nat),S p=some (.lst ds)∧i=(k:Int)∧ds[k]?=some d∧i < 2 ^ 63∧K d (S.set p (.lst (ds.eraseIdx k)))
 | _,_=>False
def a5X (x:D) (xs:List D) (S:SS) (K:DK):Prop:=match x,xs with
 | .obj p,[]=>∃ ds,S p=some (.lst ds)∧K .non (S.set p (.lst []))
 | _,_=>False
def b4O (x:D) (xs:List D) (S:SS) (K:DK):Prop:=match xs with
 | [d]=>∃ ds,vw S x=.lst ds∧D.okds 59 ds=true∧D.okd 60 (vw S d)=true∧K (.int (ds.countP fun z=>D.eqv z (vw S d):Nat)) S
 | _=>False
def a9e (x:D) (xs:List D) (S:SS) (K:DK):Prop:=match x,xs with
 | .obj p,[k]=>∃ kvs key d,S p=some (.dic kvs)∧keyD k=some key∧valD kvs key=some d∧K d (S.set p (.dic (a5r kvs key)))
 | _,_=>False
theorem a9x (hK:g.K=X.K):MtR X "str.join" (rDm g a9w):=by
 rintro pins s σ H v vs u us Q I rv given ⟨x,xs,S,K,cells,rep,reps,told,res⟩
 unfold a9w at told
 split at told
 ·obtain ⟨w,rfl,rep2⟩:=one_of reps
  cases a0o rep
  obtain ⟨zs,seen,few,k⟩:=told
  have laid:∃ p,w=.ref p∧(SqL X.K H p (zs.map V.str)∨SqT X.K H p (zs.map V.str)):=by
   rw [← hK]
   rcases seen with seen | seen
   ·obtain ⟨p,ws,e,seq,all⟩:=a0g cells rep2 seen
    rw [a04 zs all] at seq
    exact ⟨p,e,.inl seq⟩
   ·obtain ⟨p,ws,e,seq,all⟩:=a0s rep2 seen
    rw [a04 zs all] at seq
    exact ⟨p,e,.inr seq⟩
  obtain ⟨p,rfl,seq⟩:=laid
  exact mt_join _ _ _ _ _ _ _ _ _ I rv given ⟨_,p,zs,rfl,rfl,seq,few,res.str k cells⟩
 ·exact told.elim
theorem a8u:MtR X "str.upper" (rDm g a7q):=by
 rintro pins s σ H v vs u us Q I rv given ⟨x,xs,S,K,cells,rep,reps,told,res⟩
 unfold a7q at told
 split at told
 ·simp only [a0c] at reps
  subst reps
  cases a0o rep
  exact mt_upper _ _ _ _ _ _ _ _ _ I rv given ⟨_,rfl,rfl,told.1,res.str told.2 cells⟩
 ·exact told.elim
theorem app_ok:MtR X "list.append" (rDm g b4v):=by
 rintro pins s σ H v vs u us Q I rv given ⟨x,xs,S,K,cells,rep,reps,told,res⟩
 unfold b4v at told
 split at told
 ·rename_i p d
  obtain ⟨w,rfl,rep2⟩:=one_of reps
  cases a0n rep
  obtain ⟨ds,at_p,few,k⟩:=told
  obtain ⟨ws,here,all⟩:=cells p _ at_p
  have P:=a0a.write (H:=H) (o:=.lst (ws ++ [w])) (c:=.lst (ds ++ [d])) at_p
  exact mt_append _ _ _ _ _ _ _ _ _ I rv given ⟨p,ws,w,rfl,rfl,here,by rw [← all.length];exact few,res _ _ _ _ k P (cells.write at_p ⟨_,upd_same,(all.append reps).mono P⟩) (by simp only [Rep])⟩
 ·exact told.elim
theorem b1N:MtR X "list.insert" (rDm g b5q):=by
 rintro pins s σ H v vs u us Q I rv given ⟨x,xs,S,K,cells,rep,reps,told,res⟩
 unfold b5q at told
 split at told
 ·rename_i p i d
  obtain ⟨wi,w,rfl,repi,rep2⟩:=a0G reps
  cases a0n rep
  cases a0d repi
  obtain ⟨ds,at_p,few,lo,hi,k⟩:=told
  obtain ⟨ws,here,all⟩:=cells p _ at_p
  have P:=a0a.write (H:=H) (o:=.lst (ws.take i.toNat ++ [w] ++ ws.drop i.toNat)) (c:=.lst (ds.take i.toNat ++ [d] ++ ds.drop i.toNat)) at_p
  have one:a0c g S H [d] [w]:=by simp only [a0c];exact ⟨w,[],rfl,rep2,rfl⟩
  exact mt_insert _ _ _ _ _ _ _ _ _ I rv given ⟨p,ws,i,w,rfl,rfl,here,by rw [← all.length];exact few,lo,hi,res _ _ _ _ k P (cells.write at_p ⟨_,upd_same,(((all.take _).append one).append (all.drop _)).mono P⟩) (by simp only [Rep])⟩
 ·exact told.elim
theorem a0c.dropLast {S:SS} {H:Hp} {ds:List D} {vs:List V} (h:a0c g S H ds vs):a0c g S H ds.dropLast vs.dropLast:=a2c (a4e (a1J h))
theorem b2o:MtR X "list.pop" (rDm g b5L):=by
 rintro pins s σ H v vs u us Q I rv given ⟨x,xs,S,K,cells,rep,reps,told,res⟩
 unfold b5L at told
 split at told
 ·rename_i p
  simp only [a0c] at reps
  subst reps
  cases a0n rep
  obtain ⟨ds,d,at_p,last,k⟩:=told
  obtain ⟨ws,here,all⟩:=cells p _ at_p
  obtain ⟨w,at_last,like⟩:=all.get last
  have P:=a0a.write (H:=H) (o:=.lst ws.dropLast) (c:=.lst ds.dropLast) at_p
  exact mt_pop _ _ _ _ _ _ _ _ _ I rv given ⟨p,ws,w,rfl,rfl,here,by rw [← all.length];exact at_last,res _ _ _ _ k P (cells.write at_p ⟨_,upd_same,all.dropLast.mono P⟩) (like.mono P)⟩
 ·rename_i p i
  obtain ⟨w0,rfl,repi⟩:=one_of reps
  cases a0n rep
  cases a0d repi
  obtain ⟨ds,d,k,at_p,rfl,at_k,small,kk⟩:=told
  obtain ⟨ws,here,all⟩:=cells p _ at_p
  obtain ⟨w,at_w,like⟩:=all.get at_k
  have lt:k < ws.length:=(List.getElem?_eq_some_iff.mp at_w).1
  have six:=(ixN_seq (n:=ws.length) (i:=(k:Int)) (j:=k) (by unfold ixN;rw [if_pos (by omega),if_pos (by omega)];simp)).1
  have P:=a0a.write (H:=H) (o:=.lst (ws.eraseIdx k)) (c:=.lst (ds.eraseIdx k)) at_p
  have er:a0c g S H (ds.eraseIdx k) (ws.eraseIdx k):=by
   rw [List.eraseIdx_eq_take_drop_succ,List.eraseIdx_eq_take_drop_succ]
   exact (all.take k).append (all.drop (k + 1))
  exact mt_popAt _ _ _ _ _ _ _ _ _ I rv given ⟨p,ws,k,k,w,rfl,rfl,here,by omega,small,six,at_w,res _ _ _ _ kk P (cells.write at_p ⟨_,upd_same,er.mono P⟩) (like.mono P)⟩
 ·exact told.elim
theorem a7F:MtR X "list.clear" (rDm g a5X):=by
 rintro pins s σ H v vs u us Q I rv given ⟨x,xs,S,K,cells,rep,reps,told,res⟩
 unfold a5X at told
 split at told
 ·rename_i p
  simp only [a0c] at reps
  subst reps
  cases a0n rep
  obtain ⟨ds,at_p,k⟩:=told
  obtain ⟨ws,here,all⟩:=cells p _ at_p
  exact mt_clear _ _ _ _ _ _ _ _ _ I rv given ⟨p,ws,rfl,rfl,here,res _ _ _ _ k (a0a.write at_p) (cells.write at_p ⟨[],upd_same,by simp only [a0c]⟩) (by simp only [Rep])⟩
 ·exact told.elim
theorem a4C {S:SS} {H:Hp} {kvs:List (Key × D)} {ws:List (Key × V)} (k:Key) (h:a0v g S H kvs ws):a0v g S H (a5r kvs k) (dropK ws k):=by
 have q:=a0A h
 refine a6Q ?_
 clear h
 unfold a5r dropK
 induction q with
 | nil=>exact .nil
 | @cons x y l m r _ ih =>
  have same:decide (x.1≠k)=decide (y.1≠k):=by rw [r.1]
  rw [List.filter_cons,List.filter_cons]
  by_cases z:y.1≠k
  ·rw [same,zba z,if_pos rfl,if_pos rfl]
   exact .cons r ih
  ·rw [same,decide_eq_false z,if_neg zaz,if_neg zaz]
   exact ih
theorem a9f:MtR X "dict.pop" (rDm g a9e):=by
 rintro pins s σ H v vs u us Q I rv given ⟨x,xs,S,K,cells,rep,reps,told,res⟩
 unfold a9e at told
 split at told
 ·rename_i p k0
  obtain ⟨w,rfl,rep2⟩:=one_of reps
  cases a0n rep
  cases (show u=Value.ref p from rv)
  obtain ⟨kvs,key,d,at_p,is,found,k⟩:=told
  obtain ⟨ws,here,all⟩:=cells p _ at_p
  cases a0E is rep2
  obtain ⟨uk,rfl,rk⟩:=Vals.one given
  rcases a0Y all key with ⟨z,_⟩ | ⟨d2,w2,z1,z2,like⟩
  ·rw [found] at z;cases z
  ·rw [found] at z1
   cases z1
   have P:=a0a.write (H:=H) (o:=.dK (dropK ws key)) (c:=.dic (a5r kvs key)) at_p
   exact d_pop I here rk z2 (.inl rfl) fun w' s' I' rw'=>⟨w2,_,I',rw',res _ _ _ _ k P (cells.write at_p ⟨_,upd_same,(a4C key all).mono P⟩) (like.mono P)⟩
 ·exact told.elim
def a0P (kvs more:List (Key × D)):List (Key × D):=more.foldl (fun acc kv=>putD acc kv.1 kv.2) kvs
def b7A (x:D) (xs:List D) (S:SS) (K:DK):Prop:=match x,xs with
 | .obj p,[.dic more]=>∃ kvs,S p=some (.dic kvs)∧kvs.length + more.length≤sizeLine∧K .non (S.set p (.dic (a0P kvs more)))
 | _,_=>False
theorem a2a {g:Gd} {S:SS} {H:Hp} {more:List (Key × D)}:∀ {ws:List (Key × V)} {kvs:List (Key × D)} {us:List (Key × V)},a0v g S H more ws→a0v g S H kvs us→a0v g S H (a0P kvs more) (mergeK us ws):=by
 induction more with
 | nil =>
  intro ws kvs us h q
  simp only [a0v] at h
  subst h
  exact q
 | cons p more ih =>
  intro ws kvs us h q
  obtain ⟨k,d⟩:=p
  simp only [a0v] at h
  obtain ⟨v,ws,rfl,r,h⟩:=h
  show a0v g S H (a0P (putD kvs k d) more) (mergeK (putK us k v) ws)
  exact ih h (a4d q k r)
theorem b3o:MtR X "dict.update" (rDm g b7A):=by
 rintro pins s σ H v vs u us Q I rv given ⟨x,xs,S,K,cells,rep,reps,told,res⟩
 unfold b7A at told
 split at told
 ·rename_i p more
  obtain ⟨w,rfl,rep2⟩:=one_of reps
  cases a0n rep
  cases (show u=Value.ref p from rv)
  obtain ⟨kvs,at_p,few,k⟩:=told
  obtain ⟨ws,here,all⟩:=cells p _ at_p
  simp only [Rep] at rep2
  obtain ⟨q,vs2,rfl,own,rd,all2⟩:=rep2
  obtain ⟨uk,rfl,rk⟩:=Vals.one given
  cases (show uk=Value.ref q from rk)
  have ne:p≠q:=fun e=>by rw [e,own] at at_p;cases at_p
  obtain ⟨z,hd,vals,rel,dd⟩:=dk_of I.hok here
  obtain ⟨z2,hd2,vals2,rel2,dd2⟩:=dk_rd I.hok (.inl rd)
  have l1:kvs.length=ws.length:=(a0A all).length
  have l2:more.length=vs2.length:=(a0A all2).length
  have room:(mergeK ws vs2).length≤sizeLine:=Nat.le_trans (length_mergeK vs2 ws) (by rw [← l1,← l2];exact few)
  refine call_meetsIn PySem.F.slot_dict_update dd.typeIs PySem.F.entry_dict_update (PySem.F.args_dict_update_2 _ _) (meets_dict_update (mixKind X.prog X.w) p q ne hd2) ⟨vals,vals2,dd,dd2,by rw [← rel.length,← rel2.length,← l1,← l2];exact few,fun h' dd' _ hs=>?_⟩
  have he:∃ o,h'.get? p=some o:=let ⟨o,_,_,ho,_⟩:=dd';⟨o,ho⟩
  have P:=a0a.write (H:=H) (o:=.dK (mergeK ws vs2)) (c:=.dic (a0P kvs more)) at_p
  exact ⟨.non,_,d_write I (by rw [here];exact True.intro) hs he (dk_new room hd (rel2.merge rel) dd'),rfl,res _ _ _ _ k P (cells.write at_p ⟨_,upd_same,(a2a all2 all).mono P⟩) (by simp only [Rep])⟩
 ·exact told.elim
theorem b8J {its:List Value} {h:Heap} {ds:List PyData} {d:PyData} (is:its.map (SeqAt.readOf h)=ds):its.countP (fun u=>PyData.eqv (SeqAt.readOf h u) d)=ds.countP fun z=>PyData.eqv z d:=by
 rw [← is,List.countP_map]
 rfl
theorem a66:∀ ds:List D,D.pys ds=ds.map D.py
 | []=>rfl
 | d :: ds=>by rw [D.pys,a66 ds,zav]
theorem b0W (hK:g.K=X.K) (units:X.A.units + 65 < cLine):MtR X "list.count" (rDm g b4O):=by
 rintro pins s σ H v vs u us Q I rv given ⟨x,xs,S,K,cells,rep,reps,told,res⟩
 unfold b4O at told
 split at told
 ·rename_i d
  obtain ⟨w,rfl,rep2⟩:=one_of reps
  obtain ⟨ds,seen,flat,fine,k⟩:=told
  have fine2:D.okd 60 (.lst ds)=true:=by simp only [D.okd,zak];exact ⟨rfl,flat⟩
  have lay:Dp X.K H w (vw S d).py:=hK ▸ a1A cells rep2 rfl fine
  obtain ⟨p,ws,rfl,seq,all⟩:=a0g cells rep seen
  have lays:DpAll X.K H ws (D.pys ds):=hK ▸ a1U 59 flat all
  rw [hK] at seq
  cases (show u=Value.ref p from rv)
  obtain ⟨uw,rfl,rw2⟩:=Vals.one given
  obtain ⟨bs,r1⟩:=Dp.reads I _ _ _ lay rw2
  obtain ⟨its,rel,⟨⟨cls,dd,data,sls⟩,n,here,isL,_,dt⟩,_⟩:=I.list seq
  simp only at isL dt
  subst isL dt
  obtain ⟨as,r2⟩:=Dp.readsAll I _ _ its lays rel
  have can:PyData.canLayAll0 (D.pys ds)=true:=SeqAt.canLay_of_shaped (d:=.list (D.pys ds)) (a0i fine2)
  have room:X.A.units + 1 + min (PyData.depthAll (D.pys ds)) (vw S d).py.depth < cLine:=room_in_shaped (a0i fine) units
  have is:its.map (SeqAt.readOf s.heap)=D.pys ds:=SeqAt.readsAll_map _ its as can r2
  refine call_meets PySem.F.slot_list_count ⟨_,here,rfl⟩ PySem.F.entry_list_count (PySem.F.args_list_count_2 _ _) (SeqAt.list_countAt p its.toArray n dd sls uw fun u=>PyData.eqv (SeqAt.readOf s.heap u) (vw S d).py) ⟨here,SeqAt.items_eqAt (vs:=its.toArray) (show ReadsAll s.heap its.toArray.toList _ as from r2) r1 can (SeqAt.canLay_of_shaped (a0i fine)) room,?_⟩
  refine ⟨.int (ds.countP fun z=>D.eqv z (vw S d):Nat),H,I.tok _,⟨s.toks,?_⟩,res.int k cells⟩
  show Value.int ((its.toArray.toList.countP fun u=>PyData.eqv (SeqAt.readOf s.heap u) (vw S d).py:Nat):Int) s.toks=_
  rw [List.toList_toArray,b8J is,a66,List.countP_map]
  rfl
 ·exact told.elim
end
end Sv
namespace Sv
open PySem PySem.Spec PyProof.Rows L2
open L2H (RoomH)
def tOm (C:Addr) (m:Str) (m0:Option (Addr × Obj)) (sp:SpM) (E:L2.St→XK) (to:TE) (t:TA):TE:=fun σ H Q=>to σ H fun x H1=>∃ a dx fs,x=.ref a∧H1 a=some (.ins C dx fs)∧fs.lookup m=none∧t σ H1 fun vs H2=>sp m0 (x :: vs) H2 Q (E σ)
def b0f (C:Addr) (sp:SpM) (E:L2.St→XK) (t:TA):TE:=fun σ H Q=>t σ H fun vs H1=>∀ x dx,H1 x=none→H1 dx=none→dx≠x →
 sp none (.ref x :: vs) (upd (upd H1 dx (.own x)) x (.ins C dx [])) (fun v H2=>v=.non∧Q (.ref x) H2) (E σ)
section
variable {X:Cx} {hot:Bool} {m0:Option (Addr × Obj)} {k:Nat} {f C:Addr} {fd:FuncData} {ps:List Str} {sp:SpM} {E:L2.St→XK} {x m:Str} {q apos pos:Pos} {o e:Expr} {es:List Expr} {to:TE} {t:TA}
def b0z (X:Cx) (o:Expr) (m:Str) (apos:Pos) (es:List Expr) (pos:Pos) (pl:Sem Bool):Prop:=eval (.Call (.Attribute o m apos) es [] pos) X.env=(do
 let ov ← eval o X.env
 standAt apos.atName
 let (f,first) ← holding [ov] (getMethod ov m pl)
 callWith pos f first (backTo pos (starEach es X.env)) (backToKw pos (keywordEach [] X.env)))
theorem a5e {pins:List (Addr × Obj)} {σ:L2.St} {H:Hp} {s:Shared} {Q:VK} {us:List Value} {vs:List V} {a:Addr} (F:FnG X.prog X.w X.K X.mg X.base hot k f fd ps sp) (hh:m0.isSome=hot) (room:RoomH k X.A) (mode:a0N X m0) (binds:L2.Binds X.K fd ps [])
  (out:PassesAt (L2N.CX X.prog X.w) X σ (E σ)) (I:Inv X pins σ H s) (rv:Vals vs us) (want:sp m0 (.ref a :: vs) H Q (E σ)):wpAny (model X.prog X.w) X.A (call (.ref f) (.ref a :: us)) (EP X pins σ Q) X.xe s :=
 a4i (dvs:=[]) (vs:=.ref a :: vs) F hh room mode binds .nil out I (.cons rfl rv) (by rw [List.append_nil];exact want)
theorem b5K {pl:Sem Bool} (F:FnG X.prog X.w X.K X.mg X.base hot k f fd ps sp) (hh:m0.isSome=hot) (room:RoomH k X.A) (mode:a0N X m0) (cls:Cls X.K C) (is:Meth X.K C m f) (binds:L2.Binds X.K fd ps [])
  (out:∀ σ,PassesAt (L2N.CX X.prog X.w) X σ (E σ)) (recv:PE X o to) (args:PA X (e :: es) t) (form:b0z X o m apos (e :: es) pos pl) (plain:starEach (e :: es) X.env=(false,eval e X.env) :: starEach es X.env) (rest:(backTo pos (starEach es X.env)).any (·.1)=false) :
  PE X (.Call (.Attribute o m apos) (e :: es) [] pos) (tOm C m m0 sp E to t) where
 run pins s σ H Q I want:=PySem.W.methodCall_KW (thn (recv.run pins s σ H _ I want) fun u s1 ⟨x,H1,J,rx,a,dx,fs,isRef,at_a,free,go⟩=>by
  subst isRef
  cases (show u=Value.ref a from rx)
  exact getmeth_ok J at_a cls is free (PySem.W.callWith_K (first:=[.ref a]) (h₀:=X.base) J.ok.mod.kin is.kp
   (thn (args.run pos pins s1 σ H1 _ J go) fun us s2 ⟨vs,H2,J2,rv,want2⟩=>⟨J2.kIn,a5e F hh room mode binds (out σ) J2 rv want2⟩) plain rest)) form
theorem b2m {pl:Sem Bool} (F:FnG X.prog X.w X.K X.mg X.base hot k f fd ps sp) (hh:m0.isSome=hot) (room:RoomH k X.A) (mode:a0N X m0) (cls:Cls X.K C) (is:Meth X.K C m f) (binds:L2.Binds X.K fd ps [])
  (out:∀ σ,PassesAt (L2N.CX X.prog X.w) X σ (E σ)) (recv:PE X o to) (form:b0z X o m apos [] pos pl):PE X (.Call (.Attribute o m apos) [] [] pos) (tOm C m m0 sp E to tNil) where
 run pins s σ H Q I want:=PySem.W.methodCall_KW (thn (recv.run pins s σ H _ I want) fun u s1 ⟨x,H1,J,rx,a,dx,fs,isRef,at_a,free,go⟩=>by
  subst isRef
  cases (show u=Value.ref a from rx)
  exact getmeth_ok J at_a cls is free (PySem.W.callWith_K0 (first:=[.ref a]) J.kIn is.kp (a5e F hh room mode binds (out σ) J .nil go))) form
theorem a8I {pins:List (Addr × Obj)} {σ:L2.St} {H:Hp} {s:Shared} {Q:VK} {us:List Value} {vs:List V} (M:Mk X.K C f) (F:FnG X.prog X.w X.K X.mg X.base false k f fd ps sp) (room:RoomH (k + 1) X.A) (mode:a0N X none) (binds:L2.Binds X.K fd ps [])
  (out:PassesAt (L2N.CX X.prog X.w) X σ (E σ)) (I:Inv X pins σ H s) (rv:Vals vs us)
  (want:∀ x dx,H x=none→H dx=none→dx≠x→sp none (.ref x :: vs) (upd (upd H dx (.own x)) x (.ins C dx [])) (fun v H2=>v=.non∧Q (.ref x) H2) (E σ)):wpAny (model X.prog X.w) X.A (call (.ref C) us) (EP X pins σ Q) X.xe s:=by
 have young:=fun n (h:s.heap.objs.size≤n)=>I.hok.fresh h
 have asked:=want (s.heap.objs.size + 1) _ (young _ (Nat.le_add_right _ 1)) (young _ (Nat.le_refl _)) (Nat.ne_of_lt (Nat.lt_succ_self _))
 have J:=Inv.made (C:=C) I
 have given:Vals (V.ref (s.heap.objs.size + 1) :: vs) (Value.ref (s.heap.objs.size + 1) :: us):=.cons rfl rv
 have bound:=binds _ (Value.ref (s.heap.objs.size + 1) :: us) J.kIn (by rw [List.append_nil,← given.length];exact F.len _ _ _ _ _ rfl asked)
 rw [List.append_nil] at bound
 have inner:=F.run _ X.stack _ _ ⟨Value.ref (s.heap.objs.size + 1) :: us,[]⟩ _ _ _ (E σ) none rfl (room.make C us []) ⟨mode.1,show (X.A.under _).handled=none from J.ok.hd mode.2⟩ (J.env0.make C us []) bound given asked
 apply wpAny_call
 apply make_map (f:=f) I.kIn M.makes M.init (beq_iff_eq.mp M.fn)
 apply codeAny_mono inner
 rintro (err | (_ | u | _ | _)) s2 told
 ·exact out _ _ _ _ _ J told
 all_goals first | exact told.elim | skip
 obtain ⟨v,H2,J2,like,rfl,done⟩:=J.after told
 exact ⟨like,.ref _,H2,J2,rfl,done⟩
theorem pe_mk (M:Mk X.K C f) (F:FnG X.prog X.w X.K X.mg X.base false k f fd ps sp) (room:RoomH (k + 1) X.A) (mode:a0N X none) (gl:Gl X x) (at_x:X.mg x=some (.ref C)) (db:(x == ("__debug__" : Str))=false) (binds:L2.Binds X.K fd ps [])
  (out:∀ σ,PassesAt (L2N.CX X.prog X.w) X σ (E σ)) (args:PA X (e :: es) t) (plain:starEach (e :: es) X.env=(false,eval e X.env) :: starEach es X.env) (rest:(backTo pos (starEach es X.env)).any (·.1)=false) :
  PE X (.Call (.Name x q) (e :: es) [] pos) (b0f C sp E t) where
 run pins s σ H Q I want:=wpAny_Call_Name_kw (ld_glob I gl at_x (PySem.W.callWith_K (h₀:=X.base) I.ok.mod.kin M.kp
  (thn (args.run pos pins s σ H _ I want) fun us s1 ⟨vs,H1,J,rv,go⟩=>⟨J.kIn,a8I M F room mode binds (out σ) J rv go⟩) plain rest) db)
theorem b2j (M:Mk X.K C f) (F:FnG X.prog X.w X.K X.mg X.base false k f fd ps sp) (room:RoomH (k + 1) X.A) (mode:a0N X none) (gl:Gl X x) (at_x:X.mg x=some (.ref C)) (db:(x == ("__debug__" : Str))=false) (binds:L2.Binds X.K fd ps [])
  (out:∀ σ,PassesAt (L2N.CX X.prog X.w) X σ (E σ)):PE X (.Call (.Name x q) [] [] pos) (b0f C sp E tNil) where
 run pins s σ H Q I want:=wpAny_Call_Name_kw (ld_glob I gl at_x (PySem.W.callWith_K0 I.kIn M.kp (a8I M F room mode binds (out σ) I .nil want)) db)
end
def b7n (te:TE):TE:=fun σ H Q=>te σ H fun x H1=>∃ (d:Addr) (kvs:List (Key × V)),x=.ref d∧H1 d=some (.dK kvs)∧∀ p,H1 p=none→Q (.ref p) (upd H1 p (.lst (kvs.map (·.2))))
section
variable {X:Cx} {e:Expr} {te:TE} {p apos cpos pos:Pos}
theorem a91 (calm:X.calm=true) (he:PE X e te) (gl:Gl X "list") (free:X.mg "list" = none) (base:attributeBase e "values" X.env (eval e X.env)=eval e X.env) (line:(apos.endLine == cpos.line)=true) :
  PE X (.Call (.Name "list" p) [.Call (.Attribute e "values" apos) [] [] cpos] [] pos) (b7n te) where
 run pins s σ H Q I want:=by
  refine wpAny_Call_Name_kw (ld_blt I gl free (u:=.type "list") (by decide +kernel) (PyProof.Rows.callWith_type1 (Calls.spliced_cons ?_) rfl rfl))
  refine wpAny_Call_method (T := "dict") (id := "dict.values") base rfl line PySem.F.plainAttrs_dict PySem.F.slot_dict_values PySem.F.type_dict_values (thn (he.run pins s σ H _ I want) ?_)
  rintro u s1 ⟨x,H1,J,rx,d,kvs,rfl,at_d,go⟩
  cases (show u=Value.ref d from rx)
  obtain ⟨few,notSys,vs,kv,isD⟩:=J.hok d _ at_d
  obtain ⟨ep,lies⟩:=isD.dictAt
  have same:kvs.length=vs.length:=Paired.length kv
  have J2:Inv X pins σ H1 { s1 with heap:=s1.heap.push { cls:=.type "dict_values",data:=.fields #[.ref d] } }:=J.kept (t':=s1.toks) fun b ob z=>Heap.get?_push_of_some _ z
  refine ⟨isD.typeIs,isD.mapOf.noDict,?_⟩
  refine method_meetsIn PySem.F.slot_dict_values PySem.F.entry_dict_values rfl (PySem.evalArgs_none ⟨rfl,isD.typeIs,PySem.F.args_dict_values_1 _,_,meets_dict_values (mixKind X.prog X.w) d notSys,⟨vs,isD⟩,?_⟩)
  refine Calls.spliced_nil ?_
  refine PySem.W.kdl_call (PySem.W.kdl_values (knd:=mixKind X.prog X.w) (kvs:=vs) (ep:=ep)) (J.ok.hd calm) ⟨⟨_,Heap.get?_push_size _ rfl,rfl,rfl⟩,lies.push _⟩ (by rw [← same];exact few) fun h' tk acc c keep made told=>?_
  have like:Vals (kvs.map (·.2)) acc.toList:=vals_of_at (by rw [zag,same];simpa using told.1.symm) fun j x w h1 h2=>by
   obtain ⟨k,at_j⟩:=told.2 j w (by rw [← Array.getElem?_toList];exact h2)
   rw [zbb,zam] at h1
   obtain ⟨y,at_y,rfl⟩:=h1
   obtain ⟨z,at_z,_,rel⟩:=LiI.paired_get kv at_y
   rw [at_j] at at_z
   cases at_z
   exact rel
  exact ⟨.ref _,_,J2.laid (t':=tk) (o:=.lst (kvs.map (·.2))) keep (Nat.le_refl _) ⟨by rw [zag];exact few,acc.toList,c,like,by rw [Array.toArray_toList];exact made⟩,rfl,go _ (J2.hok.fresh (Nat.le_refl _))⟩
end
end Sv
namespace Sv
open PySem PySem.Spec PyProof.Rows L2
def a4W:List D→Option (List (Key × D))
 | []=>some []
 | .tup [k,v] :: r=>match keyD k,a4W r with
  | some key,some q=>some ((key,v) :: q)
  | _,_=>none
 | _=>none
def a5Z (cell:Bool) (xs:List D) (S:SS) (K:DK):Prop:=match xs with
 | [d]=>∃ ps kvs,vw S d=.lst ps∧a4W ps=some kvs∧outK cell (a0P [] kvs) S K
 | _=>False
def b4u (xs:List D) (S:SS) (K:DK):Prop:=match xs with
 | [d]=>∃ bs:List Bool,vw S d=.lst (bs.map D.bl)∧K (.bl (bs.all id)) S
 | _=>False
def b7m (xs:List D) (S:SS) (K:DK):Prop:=match xs with
 | [d]=>∃ ns:List Int,vw S d=.lst (ns.map D.int)∧K (.int ns.sum) S
 | _=>False
def b7l (xs:List D) (S:SS) (K:DK):Prop:=match xs with
 | [.int i]=>i.natAbs.log2 < 1920∧K (.str (toString i)) S
 | [.str z]=>K (.str z) S
 | _=>False
def keyV:Key→D
 | .inl i=>.int i | .inr x=>.str x
def a6E (cell:Bool) (xs:List D) (S:SS) (K:DK):Prop:=match xs with
 | [d]=>∃ kvs,vw S d=.dic kvs∧outL cell (kvs.map fun kv=>keyV kv.1) S K
 | _=>False
def a6F (cell:Bool) (xs:List D) (S:SS) (K:DK):Prop:=match xs with
 | [d]=>∃ z,d=.str z∧z.cps.size≤sizeLine∧outL cell (z.cps.toList.map fun c=>D.str ⟨#[c]⟩) S K
 | _=>False
def b5h (x:D) (xs:List D) (S:SS) (K:DK):Prop:=match x,xs with
 | .obj p,[d]=>∃ ds q es,S p=some (.lst ds)∧d=.obj q∧S q=some (.lst es)∧ds.length + es.length≤sizeLine∧K .non (S.set p (.lst (ds ++ es)))
 | _,_=>False
def a8C (x:D) (S:SS):Prop:=(∃ kvs,x=.dic kvs)∨∃ p kvs,x=.obj p∧S p=some (.dic kvs)
def a9a (x:D) (xs:List D) (S:SS) (K:DK):Prop:=match xs with
 | [k]=>∃ kvs key,vw S x=.dic kvs∧keyD k=some key∧K ((valD kvs key).getD .non) S
 | [k,z]=>∃ kvs key,vw S x=.dic kvs∧keyD k=some key∧K ((valD kvs key).getD z) S
 | _=>False
def a9g (x:D) (xs:List D) (S:SS) (K:DK):Prop:=match x,xs with
 | .obj p,[k,z]=>∃ kvs key,S p=some (.dic kvs)∧keyD k=some key∧kvs.length < sizeLine∧(∀ d,valD kvs key=some d→K d S)∧(valD kvs key=none→K z (S.set p (.dic (putD kvs key z))))
 | _,_=>False
def a6a (x:D) (xs:List D) (S:SS) (K:DK):Prop:=match x,xs with
 | .obj p,[k,z]=>∃ kvs key,S p=some (.dic kvs)∧keyD k=some key∧(∀ d,valD kvs key=some d→K d (S.set p (.dic (a5r kvs key))))∧(valD kvs key=none→K z S)
 | _,_=>False
def b5p (x:D) (xs:List D) (S:SS) (K:DK):Prop:=match xs with
 | [d]=>∃ ds j z,vw S x=.lst ds∧a02 d=true∧ds.all a02=true∧ds[j]?=some z∧D.eqv z d=true∧(∀ m z',m < j→ds[m]?=some z'→D.eqv z' d=false)∧K (.int (j:Nat)) S
 | _=>False
section
variable {X:Cx} {g:Gd} {S:SS} {H:Hp}
theorem a5d:∀ (bs:List Bool) {vs:List V},a0c g S H (bs.map D.bl) vs→vs=bs.map V.bl
 | [],_,r=>by simp only [List.map_nil,a0c] at r;exact r
 | z :: zs,_,r=>by
  simp only [zav,a0c] at r
  obtain ⟨v,q,rfl,one,more⟩:=r
  rw [a1t one,a5d zs more,zav]
theorem a2h:∀ (bs:List Int) {vs:List V},a0c g S H (bs.map D.int) vs→vs=bs.map V.int
 | [],_,r=>by simp only [List.map_nil,a0c] at r;exact r
 | z :: zs,_,r=>by
  simp only [zav,a0c] at r
  obtain ⟨v,q,rfl,one,more⟩:=r
  rw [a0d one,a2h zs more,zav]
theorem pairs_at (hK:g.K=X.K):∀ {ps:List D} {kvs:List (Key × D)} {vs:List V},a4W ps=some kvs→a0c g S H ps vs→∃ as ws,vs=as.map V.ref∧Paired (fun p kv=>SqT X.K H p [kV kv.1,kv.2]) as ws∧a0v g S H kvs ws
 | [],kvs,vs,e,r=>by
  cases e
  simp only [a0c] at r
  subst r
  exact ⟨[],[],rfl,.nil,by simp only [a0v]⟩
 | d :: r0,kvs,vs,e,r=>by
  simp only [a0c] at r
  obtain ⟨v,q,rfl,one,more⟩:=r
  unfold a4W at e
  split at e
  ·rename_i e0
   cases e0
  ·rename_i k z r1 e0
   obtain ⟨rfl,rfl⟩:=List.cons.inj e0
   split at e
   ·rename_i key kv ek er
    cases e
    obtain ⟨as,ws,rfl,pw,rk⟩:=pairs_at hK er more
    simp only [Rep] at one
    obtain ⟨p,us,rfl,at_p,all⟩:=one
    obtain ⟨w1,w2,rfl,r1,r2⟩:=a0G all
    cases a0E ek r1
    refine ⟨p :: as,(key,w2) :: ws,rfl,.cons ?_ pw,by simp only [a0v];exact ⟨w2,ws,rfl,r2,rk⟩⟩
    rw [← hK]
    exact at_p.sq
   ·cases e
  ·cases e
theorem a7M (calm:X.calm=true) (hK:g.K=X.K) (cell:Bool):CallR X (.type "dict") (rDc g (a5Z cell)):=by
 rintro pins s σ H vs us Q I given ⟨xs,S,K,cells,reps,told,res⟩
 unfold a5Z at told
 split at told
 ·obtain ⟨v,rfl,rep⟩:=one_of reps
  obtain ⟨ps,kvs,seen,is,k⟩:=told
  obtain ⟨p,ws,rfl,seq,all⟩:=a0g cells rep seen
  rw [hK] at seq
  obtain ⟨as,us2,rfl,pw,rk⟩:=pairs_at hK is all
  exact call_dictP calm _ _ _ _ _ _ _ I given ⟨p,as,us2,rfl,seq,pw,fun q free=>res.outK k cells (a2a rk (by simp only [a0v])) free⟩
 ·exact told.elim
theorem a7X {kvs:List (Key × D)} {ws:List (Key × V)} (h:a0v g S H kvs ws):a0c g S H (kvs.map fun kv=>keyV kv.1) (ws.map fun kv=>kV kv.1):=by
 have q:=a0A h
 clear h
 refine a2c ?_
 induction q with
 | nil=>exact .nil
 | @cons x y l m r _ ih =>
  refine .cons ?_ ih
  show Rep g S H (keyV x.1) (kV y.1)
  rw [r.1]
  cases y.1 <;> (show Rep g S H _ _;unfold keyV;simp only [Rep];rfl)
theorem a73 (calm:X.calm=true) (cell:Bool):CallR X (.type "list") (rDc g (a6E cell)):=by
 rintro pins s σ H vs us Q I given ⟨xs,S,K,cells,reps,told,res⟩
 unfold a6E at told
 split at told
 ·obtain ⟨v,rfl,rep⟩:=one_of reps
  obtain ⟨kvs,seen,k⟩:=told
  obtain ⟨p,ws,rfl,rd,all⟩:=a0V cells rep seen
  exact call_listD calm _ _ _ _ _ _ _ I given ⟨p,ws,rfl,rd,fun q free=>res.outL k cells (a7X all) free⟩
 ·exact told.elim
theorem a2E:∀ {l:List Nat} {us:List Value},us.length=l.length→(∀ (j:Nat) (v:Value),us[j]?=some v→∃ c u,l[j]?=some c∧v=.str ⟨#[c]⟩ u)→Vals (l.map fun c=>V.str ⟨#[c]⟩) us
 | [],[],_,_=>.nil
 | c :: l,v :: us,hl,h=>by
  obtain ⟨c',u,e1,e2⟩:=h 0 v rfl
  have e1:c=c':=Option.some.inj e1
  subst e1
  rw [zav]
  exact .cons ⟨u,e2⟩ (a2E (by simpa using hl) fun j v e=>by
   obtain ⟨c,u,a,b⟩:=h (j + 1) v (by simpa using e)
   exact ⟨c,u,by simpa using a,b⟩)
theorem a5n (hcalm:X.calm=true):CallR X (.type "list") (fun xs H Q=>∃ z:Str,xs=[.str z]∧z.cps.size≤sizeLine∧∀ p,H p=none→Q (.ref p) (upd H p (.lst (z.cps.toList.map fun c=>V.str ⟨#[c]⟩)))):=by
 intro pins s σ H xs us Q I r q
 obtain ⟨z,ex,hz,q⟩:=q
 subst ex
 obtain ⟨u,eu,rx⟩:=vals1 r
 subst eu
 obtain ⟨t,rfl⟩:=rx
 refine call_list_str (I.ok.hd hcalm) z t (fun h' tk acc c' hk hD hacc=>?_) hz
 have hv:Vals (z.cps.toList.map fun c=>V.str ⟨#[c]⟩) acc.toList:=a2E (by rw [Array.length_toList,Array.length_toList];exact hacc.1) fun j v e=>by
  obtain ⟨c,u,h1,h2⟩:=hacc.2 j v (by rw [← Array.getElem?_toList];exact e)
  exact ⟨c,u,by rw [Array.getElem?_toList];exact h1,h2⟩
 exact ⟨.ref s.heap.objs.size,upd H s.heap.objs.size (.lst (z.cps.toList.map fun c=>V.str ⟨#[c]⟩)),I.laid (t':=tk) hk (Nat.le_refl _)
  (show ObjOk X.prog X.w _ _ _ (.lst _) from ⟨by rw [zag,Array.length_toList];exact hz,acc.toList,c',hv,by rw [Array.toArray_toList];exact hD⟩),rfl,q _ (I.hok.fresh (Nat.le_refl _))⟩
theorem a7g {l:List Nat}:a0c g S H (l.map fun c=>D.str ⟨#[c]⟩) (l.map fun c=>V.str ⟨#[c]⟩):=by
 refine a2c ?_
 induction l with
 | nil=>exact .nil
 | cons c l ih =>
  refine .cons ?_ ih
  show Rep g S H (.str _) (V.str _)
  simp only [Rep]
theorem b1p:MtR X "list.extend" (rDm g b5h):=by
 rintro pins s σ H v vs u us Q I rv given ⟨x,xs,S,K,cells,rep,reps,told,res⟩
 unfold b5h at told
 split at told
 ·rename_i p d
  obtain ⟨w,rfl,rep2⟩:=one_of reps
  cases a0n rep
  obtain ⟨ds,q,es,at_p,rfl,at_q,few,k⟩:=told
  cases a0n rep2
  obtain ⟨ws,here,all⟩:=cells p _ at_p
  obtain ⟨ws2,here2,all2⟩:=cells q _ at_q
  have P:=a0a.write (H:=H) (o:=.lst (ws ++ ws2)) (c:=.lst (ds ++ es)) at_p
  exact mt_extend _ _ _ _ _ _ _ _ _ I rv given ⟨p,q,ws,ws2,rfl,rfl,here,here2,by rw [← all.length,← all2.length];exact few,res _ _ _ _ k P (cells.write at_p ⟨_,upd_same,(all.append all2).mono P⟩) (by simp only [Rep])⟩
 ·exact told.elim
theorem a74 (calm:X.calm=true) (cell:Bool):CallR X (.type "list") (rDc g (a6F cell)):=by
 rintro pins s σ H vs us Q I given ⟨xs,S,K,cells,reps,told,res⟩
 unfold a6F at told
 split at told
 ·obtain ⟨v,rfl,rep⟩:=one_of reps
  obtain ⟨z,rfl,hz,k⟩:=told
  have ev:v=.str z:=by simpa only [Rep] using rep
  subst ev
  exact a5n calm _ _ _ _ _ _ _ I given ⟨z,rfl,hz,fun q free=>res.outL k cells a7g free⟩
 ·exact told.elim
theorem b0N (calm:X.calm=true) (hK:g.K=X.K):CallR X (.builtin "all") (rDc g b4u):=by
 rintro pins s σ H vs us Q I given ⟨xs,S,K,cells,reps,told,res⟩
 unfold b4u at told
 split at told
 ·obtain ⟨v,rfl,rep⟩:=one_of reps
  obtain ⟨bs,seen,k⟩:=told
  obtain ⟨p,ws,rfl,seq,all⟩:=a0g cells rep seen
  rw [hK] at seq
  cases a5d bs all
  exact cr_all calm _ _ _ _ _ _ _ I given ⟨p,bs,rfl,seq,res.bl k cells⟩
 ·exact told.elim
theorem b3f (calm:X.calm=true) (hK:g.K=X.K):CallR X (.builtin "sum") (rDc g b7m):=by
 rintro pins s σ H vs us Q I given ⟨xs,S,K,cells,reps,told,res⟩
 unfold b7m at told
 split at told
 ·obtain ⟨v,rfl,rep⟩:=one_of reps
  obtain ⟨bs,seen,k⟩:=told
  obtain ⟨p,ws,rfl,seq,all⟩:=a0g cells rep seen
  rw [hK] at seq
  cases a2h bs all
  exact cr_sum calm _ _ _ _ _ _ _ I given ⟨p,bs,rfl,seq,res.int k cells⟩
 ·exact told.elim
theorem str_ok:CallR X (.type "str") (rDc g b7l):=by
 rintro pins s σ H vs us Q I given ⟨xs,S,K,cells,reps,told,res⟩
 unfold b7l at told
 split at told
 ·obtain ⟨v,rfl,rep⟩:=one_of reps
  cases a0d rep
  exact call_str_int _ _ _ _ _ _ _ I given ⟨_,rfl,told.1,res.str told.2 cells⟩
 ·obtain ⟨v,rfl,rep⟩:=one_of reps
  cases a0o rep
  obtain ⟨u,rfl,t,rfl⟩:=vals1 given
  exact PySem.P.str_of_str ⟨.str _,H,I,⟨t,rfl⟩,res.str told cells⟩
 ·exact told.elim
theorem a8t {x:D} {v:V} {K:zbd} (cells:CellsOk g S H) (rep:Rep g S H x v) (h:a8C x S):tyV K "dict" v H:=by
 rcases h with ⟨kvs,rfl⟩ | ⟨p,kvs,rfl,at_p⟩
 ·simp only [Rep] at rep
  obtain ⟨p,ws,rfl,_,here,_⟩:=rep
  exact .inr (.inr (.inl ⟨rfl,.inl ⟨ws,here⟩⟩))
 ·cases a0n rep
  obtain ⟨ws,here,_⟩:=cells p _ at_p
  exact .inr (.inr (.inl ⟨rfl,.inl ⟨ws,here⟩⟩))
theorem a9b (hu:X.A.units + 1 < cLine):MtR X "dict.get" (rDm g a9a):=by
 rintro pins s σ H v vs u us Q I rv given ⟨x,xs,S,K,cells,rep,reps,told,res⟩
 unfold a9a at told
 split at told
 ·obtain ⟨w,rfl,rep2⟩:=one_of reps
  obtain ⟨kvs,key,seen,is,k⟩:=told
  obtain ⟨p,ws,rfl,rd,all⟩:=a0V cells rep seen
  cases a0E is rep2
  cases (show u=Value.ref p from rv)
  obtain ⟨uk,rfl,rk⟩:=Vals.one given
  refine d_get1 hu I (.inl ⟨ws,key,rd,rfl,rfl⟩) rk fun w' s' I' rw'=>?_
  rcases a0Y all key with ⟨z1,z2⟩ | ⟨d2,w2,z1,z2,like⟩
  ·rw [z2] at rw'
   rw [z1] at k
   exact ⟨_,H,I',rw',res.non k cells⟩
  ·rw [z2] at rw'
   rw [z1] at k
   exact ⟨_,H,I',rw',res.val k cells like⟩
 ·obtain ⟨w,w2,rfl,rep2,rep3⟩:=a0G reps
  obtain ⟨kvs,key,seen,is,k⟩:=told
  obtain ⟨p,ws,rfl,rd,all⟩:=a0V cells rep seen
  cases a0E is rep2
  cases (show u=Value.ref p from rv)
  obtain ⟨uk,ud,rfl,rk,rd2⟩:=Vals.two given
  refine d_get2 hu I (.inl ⟨ws,key,rd,rfl,rfl⟩) rk rd2 fun w' s' I' rw'=>?_
  rcases a0Y all key with ⟨z1,z2⟩ | ⟨d2,w3,z1,z2,like⟩
  ·rw [z2] at rw'
   rw [z1] at k
   exact ⟨_,H,I',rw',res.val k cells rep3⟩
  ·rw [z2] at rw'
   rw [z1] at k
   exact ⟨_,H,I',rw',res.val k cells like⟩
 ·exact told.elim
theorem a9h:MtR X "dict.setdefault" (rDm g a9g):=by
 rintro pins s σ H v vs u us Q I rv given ⟨x,xs,S,K,cells,rep,reps,told,res⟩
 unfold a9g at told
 split at told
 ·rename_i p k0 z0
  obtain ⟨w,w2,rfl,rep2,rep3⟩:=a0G reps
  cases a0n rep
  cases (show u=Value.ref p from rv)
  obtain ⟨kvs,key,at_p,is,few,k1,k2⟩:=told
  obtain ⟨ws,here,all⟩:=cells p _ at_p
  cases a0E is rep2
  obtain ⟨uk,ud,rfl,rk,rd2⟩:=Vals.two given
  refine d_setd I here rk rd2 (by rw [← (a0A all).length];exact few) (fun v hv w' s' I' rw'=>?_) (fun hn w' s' I' rw'=>?_)
  ·rcases a0Y all key with ⟨z1,z2⟩ | ⟨d2,w3,z1,z2,like⟩
   ·rw [hv] at z2;cases z2
   ·rw [hv] at z2
    cases z2
    exact ⟨_,H,I',rw',res.val (k1 _ z1) cells like⟩
  ·rcases a0Y all key with ⟨z1,z2⟩ | ⟨d2,w3,z1,z2,like⟩
   ·have P:=a0a.write (H:=H) (o:=.dK (putK ws key w2)) (c:=.dic (putD kvs key z0)) at_p
    exact ⟨_,_,I',rw',res _ _ _ _ (k2 z1) P (cells.write at_p ⟨_,upd_same,(a4d all key rep3).mono P⟩) (rep3.mono P)⟩
   ·rw [hn] at z2;cases z2
 ·exact told.elim
theorem a7N:MtR X "dict.pop" (rDm g a6a):=by
 rintro pins s σ H v vs u us Q I rv given ⟨x,xs,S,K,cells,rep,reps,told,res⟩
 unfold a6a at told
 split at told
 ·rename_i p k0 z0
  obtain ⟨w,w2,rfl,rep2,rep3⟩:=a0G reps
  cases a0n rep
  cases (show u=Value.ref p from rv)
  obtain ⟨kvs,key,at_p,is,k1,k2⟩:=told
  obtain ⟨ws,here,all⟩:=cells p _ at_p
  cases a0E is rep2
  obtain ⟨uk,ud,rfl,rk,rd2⟩:=Vals.two given
  rcases a0Y all key with ⟨z1,z2⟩ | ⟨d2,w3,z1,z2,like⟩
  ·exact d_popD I here rk z2 fun s' I'=>⟨_,H,I',rd2,res.val (k2 z1) cells rep3⟩
  ·have P:=a0a.write (H:=H) (o:=.dK (dropK ws key)) (c:=.dic (a5r kvs key)) at_p
   exact d_pop I here rk z2 (.inr ⟨_,rfl⟩) fun w' s' I' rw'=>⟨w3,_,I',rw',res _ _ _ _ (k1 _ z1) P (cells.write at_p ⟨_,upd_same,(a4C key all).mono P⟩) (like.mono P)⟩
 ·exact told.elim
theorem b1M (hK:g.K=X.K):MtR X "list.index" (rDm g b5p):=by
 rintro pins s σ H v vs u us Q I rv given ⟨x,xs,S,K,cells,rep,reps,told,res⟩
 unfold b5p at told
 split at told
 ·rename_i d
  obtain ⟨w,rfl,rep2⟩:=one_of reps
  obtain ⟨ds,j,z,seen,fd,fds,at_j,same,other,k⟩:=told
  obtain ⟨p,ws,rfl,seq,all⟩:=a0g cells rep seen
  rw [hK] at seq
  obtain ⟨wz,at_w,rz⟩:=all.get at_j
  have fz:a02 z=true:=List.all_eq_true.mp fds z (zaq at_j)
  refine mt_index _ _ _ _ _ _ _ _ _ I rv given ⟨p,ws,w,j,wz,rfl,rfl,seq,a1u fd rep2,a03 fds all,at_w,(a1X fz fd rz rep2).trans same,fun m z' hm hz'=>?_,res.int k cells⟩
  have hlt:m < ds.length:=by rw [all.length];exact (List.getElem?_eq_some_iff.mp hz').1
  have at_m:ds[m]?=some ds[m]:=zbc hlt
  obtain ⟨w',at_w',r'⟩:=all.get at_m
  rw [hz'] at at_w'
  cases at_w'
  have fm:a02 ds[m]=true:=List.all_eq_true.mp fds _ (List.getElem_mem hlt)
  exact (a1X fm fd r' rep2).trans (other m _ hm at_m)
 ·exact told.elim
def b82:V→List V→Hp→VK→Prop:=fun x xs H Q=>∃ (a:Addr) (ys:List V) (y:V) (j:Nat) (z:V),x=V.ref a∧xs=[y]∧H a=some (.lst ys)∧flatV y=true∧ys.all flatV=true∧ys[j]?=some z∧eqV z y=true ∧
 (∀ (m:Nat) (z':V),m < j→ys[m]?=some z'→eqV z' y=false)∧Q .non (upd H a (.lst (ys.eraseIdx j)))
theorem b15:MtR X "list.remove" b82:=by
 intro pins s σ H x xs v us Q I rx rxs h
 obtain ⟨a,ys,y,j,z,rfl,rfl,hH,fy,fys,hz,hzj,hno,q⟩:=h
 cases rx
 cases rxs with
 | cons ry rt =>
  rename_i uy ut
  cases rt
  obtain ⟨sz,its,n,rv,hl,e⟩:=I.lstM hH
  obtain ⟨u,hu,ru⟩:=rv.get hz
  obtain ⟨hjl,hje⟩:=List.getElem?_eq_some_iff.mp hu
  have hvl:=rv.length
  have hj:j < its.toArray.size:=by simpa using hjl
  refine call_meets PySem.F.slot_list_remove ⟨_,e,rfl⟩ PySem.F.entry_list_remove (PySem.F.args_list_remove_2 _ _)
   (SeqAt.list_removeAt a its.toArray n none #[] uy (eqU y) j hj ?_ ?_ (by rw [List.size_toArray];omega)) ⟨e,fun u' hu'=>mem_eqAt ry fy rv fys u' (by simpa using hu'),?_⟩
  ·have e1:its.toArray[j]=u:=by simpa using hje
   rw [e1,eqU_of ru (flat_at fys hz)]
   exact hzj
  ·intro m hm hmj
   have hml:m < its.length:=by simpa using hm
   have hmy:m < ys.length:=by omega
   have hy':ys[m]?=some ys[m]:=zbc hmy
   obtain ⟨u2,hu2,ru2⟩:=rv.get hy'
   obtain ⟨_,hme⟩:=List.getElem?_eq_some_iff.mp hu2
   have e1:its.toArray[m]=u2:=by simpa using hme
   rw [e1,eqU_of ru2 (flat_at fys hy')]
   exact hno m _ hmj hy'
  ·refine ⟨.non,_,I.lset (its':=its.eraseIdx j) hH e ?_ (rv.eraseIdx j) ?_,rfl,q⟩
   ·show its.toArray.eraseIdxIfInBounds j=(its.eraseIdx j).toArray
    rw [List.eraseIdxIfInBounds_toArray]
   ·have:=len_erase ys j
    omega
def b5Q (x:D) (xs:List D) (S:SS) (K:DK):Prop:=match x,xs with
 | .obj p,[d]=>∃ ds j z,S p=some (.lst ds)∧a02 d=true∧ds.all a02=true∧ds[j]?=some z∧D.eqv z d=true∧(∀ m z',m < j→ds[m]?=some z'→D.eqv z' d=false)∧K .non (S.set p (.lst (ds.eraseIdx j)))
 | _,_=>False
theorem b2q:MtR X "list.remove" (rDm g b5Q):=by
 rintro pins s σ H v vs u us Q I rv given ⟨x,xs,S,K,cells,rep,reps,told,res⟩
 unfold b5Q at told
 split at told
 ·rename_i p d
  obtain ⟨w,rfl,rep2⟩:=one_of reps
  cases a0n rep
  obtain ⟨ds,j,z,at_p,fd,fds,at_j,same,other,k⟩:=told
  obtain ⟨ws,here,all⟩:=cells p _ at_p
  obtain ⟨wz,at_w,rz⟩:=all.get at_j
  have fz:a02 z=true:=List.all_eq_true.mp fds z (zaq at_j)
  have P:=a0a.write (H:=H) (o:=.lst (ws.eraseIdx j)) (c:=.lst (ds.eraseIdx j)) at_p
  have er:a0c g S H (ds.eraseIdx j) (ws.eraseIdx j):=by
   rw [List.eraseIdx_eq_take_drop_succ,List.eraseIdx_eq_take_drop_succ]
   exact (all.take j).append (all.drop (j + 1))
  refine b15 _ _ _ _ _ _ _ _ _ I rv given ⟨p,ws,w,j,wz,rfl,rfl,here,a1u fd rep2,a03 fds all,at_w,(a1X fz fd rz rep2).trans same,fun m z' hm hz'=>?_,res _ _ _ _ k P (cells.write at_p ⟨_,upd_same,er.mono P⟩) (by simp only [Rep])⟩
  have hlt:m < ds.length:=by rw [all.length];exact (List.getElem?_eq_some_iff.mp hz').1
  have at_m:ds[m]?=some ds[m]:=zbc hlt
  obtain ⟨w',at_w',r'⟩:=all.get at_m
  rw [hz'] at at_w'
  cases at_w'
  have fm:a02 ds[m]=true:=List.all_eq_true.mp fds _ (List.getElem_mem hlt)
  exact (a1X fm fd r' rep2).trans (other m _ hm at_m)
 ·exact told.elim
end
end Sv
namespace Sv
open PySem PySem.Spec PyProof.Rows L2 PySem.Froz
def a7u (P:Program) (w:World) (h:Heap) (a:Addr) (l:List Str):Prop :=
 ∃ D:SD,h.get? a=some (sObj "set" D)∧TxOk P w D l∧Ris D.2.2.place.toList∧(w.params.followText "set-order" = true∨D.2.2.led=true)
theorem a7u.keep {P:Program} {w:World} {h h':Heap} {a:Addr} {l:List Str} (t:a7u P w h a l) (k:∀ o,h.get? a=some o→h'.get? a=some o):a7u P w h' a l:=by
 obtain ⟨D,at_a,r⟩:=t
 exact ⟨D,k _ at_a,r⟩
theorem a5R {h:Int} {v:Value} {D:SD} (r:Ris D.2.2.place.toList):Ris (addTx h v D).2.2.place.toList∧(addTx h v D).2.2.led=D.2.2.led:=by
 have r1:=layNew_ris D.2.2 D.1 h v r
 have l1:=layNew_led D.2.2 D.1 h v
 have key:∀ t2:SetTable,Ris t2.place.toList→t2.led=D.2.2.led→Ris (tailTx D.2.1 (layNew D.2.2 D.1 h v).1 t2 (layNew D.2.2 D.1 h v).2.2.1).2.2.place.toList∧(tailTx D.2.1 (layNew D.2.2 D.1 h v).1 t2 (layNew D.2.2 D.1 h v).2.2.1).2.2.led=D.2.2.led:=fun t2 a b=>by
  unfold tailTx
  split
  ·exact ⟨relayAll_ris _ _ _,(relayAll_led _ _ _).trans b⟩
  ·exact ⟨a,b⟩
 unfold addTx
 split
 ·exact key _ r1 l1
 ·exact key _ r1 l1
def a00 (l:List Str) (k:Str):List Str:=if k∈l then l else k :: l
section
variable {P:Program} {w:World} {A:Around} {E:Value→Shared→Prop} {s:Shared}
theorem b5I {a:Addr} {D:SD} {l:List Str} {k:Str} {u:Tok} {Q:Bool→Shared→Prop} (ho:s.heap.get? a=some (sObj "set" D)) (F:TxOk P w D l) (hk:k∈l) (hb:l.length < scanBound) (h:Q false s) :
  wpAny (model P w) A (setAddHashed a (.str k u) (hashStr w k)) Q E s:=by
 obtain ⟨es,ep,t⟩:=D
 have few:es.size < scanBound:=by rw [show es.size=l.length from F.sz];exact hb
 obtain ⟨e,me,se⟩:=(F.mem k).mp hk
 unfold setAddHashed setAddHashedIn
 refine wpAny_holding (wpAny_bind (wpAny_setState_of ho rfl F.fit ?_))
 dsimp only
 rw [byScan_of rfl few F.el]
 simp only [↓reduceIte]
 unfold setAddByScan
 refine wpAny_bind ?_
 refine wpAny_bind (wpAny_rule ?_)
 refine wpAny_bind (wpAny_setScan_of (knd:=strKind P w) (is_str k u) ho rfl F.fit F.el ?_)
 cases hf:List.findIdx? (fun e=>(strKind P w).is k e.2) es.toList with
 | none=>exact absurd se (by have:=List.findIdx?_eq_none_iff.mp hf e me;simpa using this)
 | some j =>
  dsimp only
  exact wpAny_pure (wpAny_pure h)
theorem b5O {a:Addr} {l:List Str} {k:Str} {u:Tok} {Q:Bool→Shared→Prop} (t:a7u P w s.heap a l) (few:l.length + 1 < scanBound)
  (h:∀ b h',a7u P w h' a (a00 l k)→(∀ b o,b≠a→s.heap.get? b=some o→h'.get? b=some o)→Q b { s with heap:=h',toks:=s.toks + 1 }):wpAny (model P w) A (setAdd a (.str k u)) Q E s:=by
 obtain ⟨D,at_a,F,r,led⟩:=t
 unfold setAdd
 refine wpAny_holding (wpAny_bind ((strKind P w).pyHash (k:=k) (is_str k u) ?_))
 unfold a00 at h
 by_cases hk:k∈l
 ·rw [if_pos hk] at h
  exact b5I (s:={ s with toks:=s.toks + 1 }) at_a F hk (by omega) (h _ _ ⟨D,at_a,F,r,led⟩ fun _ _ _ e=>e)
 ·rw [if_neg hk] at h
  obtain ⟨r2,l2⟩:=a5R (h:=hashStr w k) (v:=.str k u) r
  refine add_x (s:={ s with toks:=s.toks + 1 }) at_a F hk few (h _ _ ⟨_,get_upd _ at_a rfl,add_ok u F,r2,led.imp id fun q=>l2.trans q⟩ fun b o hb e=>Heap.get?_update_of_ne _ (Ne.symm hb) e)
theorem b1t {a I:Addr} {fp wr:List Addr} {n:Nat} {Pv:Nat→Value→Prop} {St:Nat→Heap→Prop} {R:Result→Shared→Prop} (W:Walks P w A.in1 I fp wr n Pv St) (off:a∉fp) {zs:List Str} (len:zs.length=n) (few:n + 1 < scanBound)
  (val:∀ i v,Pv i v→∃ z u,zs[i]?=some z∧v=.str z u):∀ (rest:List Str) (i:Nat) (l:List Str) (s:Shared),zs.drop i=rest→i≤n→l.length≤i→St i s.heap→a7u P w s.heap a l →
   (∀ h' tk,a7u P w h' a (rest.foldl a00 l)→(∀ b o,b∉a :: wr→s.heap.get? b=some o→h'.get? b=some o)→R (.ok (.ret .none)) { s with heap:=h',toks:=tk }) →
   codeAny (model P w) A (.builtin "set.update.loop" ⟨[.ref a,.ref I],[]⟩) R s:=by
 have off2:a∉wr:=fun h=>off (W.sub _ h)
 intro rest
 induction rest with
 | nil =>
  intro i l s hd hi hl st t h
  have e:i=n:=by
   have:=congrArg List.length hd
   rw [List.length_drop,List.length_nil] at this
   omega
  subst e
  refine codeAny_builtin PyProof.Rows.F.entry_set_update_loop ?_
  rw [Around.under_plainId PyProof.Rows.F.plain_set_update_loop _]
  show wpAny _ A.in1 (pyNext (.ref I) >>= _) _ _ s
  refine wpAny_bind (W.done s _ _ st fun h' tk k=>?_)
  exact wpAny_pure (h h' tk (t.keep fun o e=>k _ o off2 e) fun b o hb e=>k b o (fun z=>hb (zao _ z)) e)
 | cons z rest ih =>
  intro i l s hd hi hl st t h
  have at_i:zs[i]?=some z:=by
   have:=congrArg (fun q:List Str=>q[0]?) hd
   rw [List.getElem?_drop] at this
   exact this
  have lt:i < n:=by rw [← len];exact (List.getElem?_eq_some_iff.mp at_i).1
  have hd2:zs.drop (i + 1)=rest:=by
   have:=congrArg (List.drop 1) hd
   rw [List.drop_drop] at this
   exact this
  refine codeAny_builtin PyProof.Rows.F.entry_set_update_loop ?_
  rw [Around.under_plainId PyProof.Rows.F.plain_set_update_loop _]
  show wpAny _ A.in1 (pyNext (.ref I) >>= _) _ _ s
  refine wpAny_bind (W.item i s _ _ lt st fun v h1 tk hv st1 k1=>?_)
  obtain ⟨z',u,ez,rfl⟩:=val i v hv
  rw [at_i] at ez
  cases ez
  show wpAny _ A.in1 (holding [Value.str z u] (setAdd a (.str z u)) >>= _) _ _ _
  refine wpAny_bind (wpAny_holding ?_)
  refine b5O (s:={ s with heap:=h1,toks:=tk }) (t.keep fun o e=>k1 _ o off2 e) (by omega) fun b h2 t2 k2=>?_
  refine wpAny_pure ⟨plainId_quiet PyProof.Rows.F.plain_set_update_loop _,ih (i + 1) (a00 l z) _ hd2 lt (by unfold a00;split;omega;show l.length + 1≤_;omega) (W.frame _ h1 h2 st1 fun b hb o e=>k2 b o (fun q=>off (q ▸ hb)) e) t2 fun h3 tk3 t3 k3=>?_⟩
  refine h h3 tk3 t3 fun b o hb e=>k3 b o hb ?_
  refine k2 b o (fun q=>hb (q ▸ zal)) ?_
  exact k1 b o (fun q=>hb (zao _ q)) e
theorem a2Z:∀ {us:List Value} {zs:List Str},StrsAre us zs→∀ {i:Nat} {v:Value},us[i]?=some v→∃ z u,zs[i]?=some z∧v=.str z u
 | _,_,.nil,i,v,h=>by simp at h
 | _,_,.cons z t r,0,v,h=>⟨z,t,rfl,(Option.some.inj h).symm⟩
 | _,_,.cons z t r,i + 1,v,h=>a2Z r (i:=i) h
theorem a4O {l:Addr} {us:List Value} {Fin:Heap→Prop} {Q:Value→Shared→Prop} (hh:A.handled=none) (at_l:s.heap.IsList l us.toArray)
  (fills:∀ (A':Around) (R:Result→Shared→Prop),A'.handled=none→(∀ h' tk,Fin h'→(∀ b o,s.heap.get? b=some o→h'.get? b=some o)→R (.ok (.ret .none)) { s with heap:=h',toks:=tk }) →
   codeAny (model P w) A' (.builtin "set.update.loop" ⟨[.ref s.heap.objs.size,.ref (s.heap.push { cls:=.type "set",dict:=none,data:=.set #[] 0 (.fresh 0 0 (!w.params.followText "set-order")) }).objs.size],[]⟩) R { s with heap:=(s.heap.push { cls:=.type "set",dict:=none,data:=.set #[] 0 (.fresh 0 0 (!w.params.followText "set-order")) }).push { cls:=.type "list_iterator",data:=.fields #[.ref l,.int 0 0] } })
  (h:∀ h' tk,Fin h'→(∀ b o,s.heap.get? b=some o→h'.get? b=some o)→Q (.ref s.heap.objs.size) { s with heap:=h',toks:=tk }) :
  wpAny (model P w) A (call (.type "set") [.ref l]) Q E s:=by
 obtain ⟨mro,tail,of_mro⟩:=F.called_set.mro
 have made:=F.called_set.made
 have sub:=F.called_set.sub
 have proper:=F.called_set.notType
 have can:=F.called_set.canCreate
 have told:=F.typeCall_set_1 (.ref l)
 let o0:Obj:={ cls:=.type "set",dict:=none,data:=.set #[] 0 (.fresh 0 0 (!w.params.followText "set-order")) }
 have init:∀ (A':Around) (R:Result→Shared→Prop),A'.handled=none→(∀ h' tk,Fin h'→(∀ b o,s.heap.get? b=some o→h'.get? b=some o)→R (.ok (.ret .none)) { s with heap:=h',toks:=tk }) →
   codeAny (model P w) A' (.call (.builtin "set.__init__") ⟨[.ref s.heap.objs.size,.ref l],[]⟩) R { s with heap:=s.heap.push o0 }:=fun A' R hA' k=>by
  have ty:Shared.TypeIs { s with heap:=s.heap.push o0 } (.ref s.heap.objs.size) "set" := ⟨_,Heap.get?_push_size _ rfl,rfl⟩
  obtain ⟨ol,hol,cls,n,dat⟩:=id at_l
  obtain ⟨c0,d0,p0,x0⟩:=ol
  cases (show c0=_ from cls)
  cases (show p0=_ from dat)
  have here:(s.heap.push o0).get? l=some _:=Heap.get?_push_of_some o0 hol
  have noSet:=F.sub_list_set
  have noFroz:=F.sub_list_frozenset
  have noDict:(Value.type "list" == Value.type "dict")=false:=by decide
  refine codeAny_call_builtin F.called_set.init.plain F.entry_set_init (check_set_init_1 ty ?_)
  unfold Builtin.«set.__init__» noKeywords Builtin.Frozenset.updateFrom
  generalize eI:pyIter=PI
  wp_walk
  subst eI
  refine wpAny_pyIter_list (at_l.push _) ?_
  refine wpAny_bind (wpAny_runValue (fills _ _ (by simp [hA']) fun h' tk t k2=>?_))
  exact wpAny_pure (wpAny_pure (k h' tk t k2))
 refine wpAny_call (codeAny_of_tree ?_)
 show wpAny _ _ (callAny (.type "set") _) _ _ _
 refine wpAny_pure ⟨Code.quiet_builtin _ (by decide +kernel),codeAny_builtin F.entry_type_call ?_⟩
 rw [Around.under_plain (weight_type_call_type "set" [.ref l] []) rfl]
 repeat (any_goals (first | assumption | wp_step))
 refine codeAny_mono (code_set_led1 (.ref l) (E:=E) (Q₁:=fun v s1=>v=.ref s.heap.objs.size∧s1={ s with heap:=s.heap.push o0 }) ⟨rfl,rfl⟩) fun r s1 hr=>?_
 match r,hr with
 | .error _,hr=>exact hr
 | .ok (.ret _),⟨e1,e2⟩ =>
  subst e1 e2
  have here:(s.heap.push o0).get? s.heap.objs.size=some o0:=Heap.get?_push_size _ rfl
  have ty:Shared.TypeIs { s with heap:=s.heap.push o0 } (.ref s.heap.objs.size) "set" := ⟨_,here,rfl⟩
  have look:=F.called_set.init.lookup
  have bound:=F.called_set.init.bind (.ref s.heap.objs.size)
  repeat (any_goals (first | assumption | wp_step))
  refine codeAny_mono (init _ (fun r s2=>r=.ok (.ret .none)∧∃ h' tk,s2={ s with heap:=h',toks:=tk }∧Fin h'∧∀ b o,s.heap.get? b=some o→h'.get? b=some o) (by simp [hh]) fun h' tk t k=>⟨rfl,h',tk,rfl,t,k⟩) fun r2 s2 hr2=>?_
  obtain ⟨rfl,h',tk,rfl,t,k⟩:=hr2
  repeat (any_goals (first | assumption | wp_step))
  exact h h' tk t k
 | .ok .next,hr=>exact hr.elim
 | .ok .brk,hr=>exact hr.elim
 | .ok .cont,hr=>exact hr.elim
theorem a8E {l:Addr} {us:List Value} {zs:List Str} {Q:Value→Shared→Prop} (hh:A.handled=none) (at_l:s.heap.IsList l us.toArray) (all:StrsAre us zs) (few:zs.length + 1 < scanBound)
  (h:∀ h' tk,a7u P w h' s.heap.objs.size (zs.foldl a00 [])→(∀ b o,s.heap.get? b=some o→h'.get? b=some o)→Q (.ref s.heap.objs.size) { s with heap:=h',toks:=tk }) :
  wpAny (model P w) A (call (.type "set") [.ref l]) Q E s:=by
 have len:us.length=zs.length:=all.length
 refine a4O hh at_l (fun A' R hA' k=>?_) h
 let o0:Obj:={ cls:=.type "set",dict:=none,data:=.set #[] 0 (.fresh 0 0 (!w.params.followText "set-order")) }
 obtain ⟨ol,hol,_⟩:=id at_l
 have lt:=Heap.lt_size hol
 have sz:(s.heap.push o0).objs.size=s.heap.objs.size + 1:=size_push' _ _
 have ne:l≠(s.heap.push o0).objs.size:=by rw [sz];exact Nat.ne_of_lt (Nat.lt_succ_of_lt lt)
 have off:s.heap.objs.size∉[(s.heap.push o0).objs.size,l]:=fun hm=>by
  rw [sz] at hm
  rcases zat.mp hm with q | q
  ·exact Nat.ne_of_lt (Nat.lt_succ_self _) q
  ·exact Nat.ne_of_gt lt (zaj.mp q)
 have here:((s.heap.push o0).push { cls:=.type "list_iterator",data:=.fields #[.ref l,.int 0 0] }).get? s.heap.objs.size=some o0:=Heap.get?_push_of_some _ (Heap.get?_push_size _ rfl)
 refine b1t (Walks.list (by exact hA') _ l ne us.toArray) off (zs:=zs) (by rw [List.size_toArray,len]) (by rw [List.size_toArray,len];exact few) (fun i v hv=>a2Z all (by rw [← List.getElem?_toArray];exact hv)) zs 0 [] _ rfl (Nat.zero_le _) (Nat.zero_le _)
  ⟨⟨_,Heap.get?_push_size _ rfl,rfl,rfl⟩,(at_l.push _).push _⟩ ⟨(#[],0,.fresh 0 0 (!w.params.followText "set-order")),here,.nil rfl,List.Pairwise.nil,?_⟩ fun h' tk t k2=>k h' tk t fun b o e=>?_
 ·cases q:w.params.followText "set-order"
  ·exact .inr rfl
  ·exact .inl rfl
 ·have hb:=Heap.lt_size e
  refine k2 b o (fun hm=>?_) (Heap.get?_push_of_some _ (Heap.get?_push_of_some _ e))
  rw [sz] at hm
  rcases zat.mp hm with q | q
  ·exact Nat.ne_of_lt hb q
  ·exact Nat.ne_of_lt (Nat.lt_succ_of_lt hb) (zaj.mp q)
end
def uniq (zs:List Str):List Str:=zs.foldl a00 []
theorem a5Q {l:List Str} {k:Str} (u:l.Nodup):(a00 l k).Nodup:=by
 unfold a00
 split
 ·exact u
 ·rename_i h
  exact zay.mpr ⟨h,u⟩
theorem a6l:∀ {zs l:List Str},l.Nodup→(zs.foldl a00 l).Nodup
 | [],_,u=>u
 | _ :: zs,_,u=>a6l (zs:=zs) (a5Q u)
theorem b0h {zs:List Str}:(uniq zs).Nodup:=a6l List.nodup_nil
theorem a4F:∀ {zs l:List Str},(zs.foldl a00 l).length≤l.length + zs.length
 | [],_=>Nat.le_refl _
 | y :: zs,l=>by
  refine Nat.le_trans (a4F (zs:=zs)) ?_
  rw [zaw]
  unfold a00
  split
  ·omega
  ·rw [zaw];omega
theorem a5i {zs:List Str}:(uniq zs).length≤zs.length:=by
 have:=a4F (zs:=zs) (l:=[])
 rw [List.length_nil,Nat.zero_add] at this
 exact this
theorem perm_of:∀ {l m:List Str},l.Nodup→(∀ z∈l,z∈m)→m.length≤l.length→m.Perm l
 | [],m,_,_,few=>by
  cases m with
  | nil=>exact .nil
  | cons _ _=>exact absurd few (by simp)
 | z :: l,m,u,sub,few=>by
  obtain ⟨nz,u⟩:=zay.mp u
  have mz:=sub z zal
  refine (List.perm_cons_erase mz).trans (.cons z (perm_of u (fun y hy=>(List.mem_erase_of_ne fun e=>nz (by rw [← e];exact hy)).mpr (sub y (zao _ hy))) ?_))
  rw [List.length_erase_of_mem mz]
  rw [zaw] at few
  omega
section
variable {X:Cx} {pins:List (Addr × Obj)} {σ:L2.St} {H:Hp} {s:Shared} {a:Addr} {l:List Str}
theorem a8p {P:Program} {w:World} {es:List (Int × Value)} (el:ElemsOf (PySem.strKind P w) es):∃ zs,StrsAre (es.map (·.2)) zs:=by
 induction es with
 | nil=>exact ⟨[],.nil⟩
 | cons e es ih =>
  obtain ⟨zs,h⟩:=ih fun e he=>el e (zao _ he)
  obtain ⟨⟨k,is,_⟩,_⟩:=el e zal
  obtain ⟨t,et⟩:=Value.isStrOf_shape (x:=k) (v:=e.2) is
  refine ⟨k :: zs,?_⟩
  rw [zav,et]
  exact .cons k t h
theorem a5g:∀ {us:List Value} {zs:List Str},StrsAre us zs→∀ {z:Str},z∈zs↔∃ t,Value.str z t∈us
 | _,_,.nil,z=>⟨fun h=>absurd h zax,fun ⟨_,h⟩=>absurd h zax⟩
 | _,_,.cons y t r,z=>by
  rw [zat,a5g r]
  constructor
  ·rintro (rfl | ⟨u,h⟩)
   ·exact ⟨t,zal⟩
   ·exact ⟨u,zao _ h⟩
  ·rintro ⟨u,h⟩
   rcases zat.mp h with h | h
   ·injection h with h1 _
    exact .inl h1
   ·exact .inr ⟨u,h⟩
theorem a8n:∀ {us vs:List Value},us.Perm vs→∀ {zs:List Str},StrsAre vs zs→∃ ys,StrsAre us ys∧ys.Perm zs:=by
 intro us vs p zs h
 have all:∀ v∈us,∃ z t,v=.str z t:=fun v hv=>by
  obtain ⟨i,hi⟩:=List.mem_iff_getElem?.mp (p.mem_iff.mp hv)
  obtain ⟨z,t,_,e⟩:=a2Z h hi
  exact ⟨z,t,e⟩
 let f:Value→Str:=fun v=>match v with
  | .str z _=>z
  | _=>⟨#[]⟩
 have back:∀ {us:List Value},(∀ v∈us,∃ z t,v=.str z t)→StrsAre us (us.map f):=fun {us}=>by
  induction us with
  | nil=>exact fun _=>.nil
  | cons v us ih =>
   intro h
   obtain ⟨z,t,rfl⟩:=h v zal
   exact .cons z t (ih fun v hv=>h v (zao _ hv))
 have of:∀ {us:List Value} {zs:List Str},StrsAre us zs→us.map f=zs:=fun {us zs} h=>by
  induction h with
  | nil=>rfl
  | cons z t _ ih=>rw [zav,ih]
 exact ⟨us.map f,back all,by rw [← of h];exact p.map f⟩
theorem b7h (calm:X.calm=true) (I:Inv X pins σ H s) (t:a7u X.prog X.w s.heap a l) (few:l.length < 64) (u:l.Nodup) {Q:VK} (q:∀ p,H p=none→Q (.ref p) (upd H p (.lst ((a0X l).map V.str)))) :
  wpAny (model X.prog X.w) X.A (call (.builtin "sorted") [.ref a]) (EP X pins σ Q) X.xe s:=by
 obtain ⟨⟨es,ep,tb⟩,at_a,F,r,led⟩:=t
 have sz:es.size=l.length:=F.sz
 have el:ElemsOf (PySem.strKind X.prog X.w) es.toList:=F.el
 have mem:∀ k:Str,k∈l↔∃ e∈es.toList,(PySem.strKind X.prog X.w).is k e.2=true:=F.mem
 obtain ⟨zs,hz⟩:=a8p el
 have zl:zs.length=es.toList.length:=by rw [← hz.length,zag]
 have pz:zs.Perm l:=perm_of u (fun k hk=>by
  obtain ⟨e,he,is⟩:=(mem k).mp hk
  obtain ⟨t,et⟩:=Value.isStrOf_shape (x:=k) (v:=e.2) is
  exact (a5g hz).mpr ⟨t,zan.mpr ⟨e,he,et⟩⟩) (by rw [zl,Array.length_toList,sz];exact Nat.le_refl _)
 refine Calls.call_function_entry PyProof.Rows.kind_sorted PyProof.Rows.plain_sorted PyProof.Rows.entry_sorted (PyProof.Rows.args_sorted1 _) ?_
 unfold Builtin.«sorted»
 refine wpAny_bind (m:=checkCount "sorted" 1 1 _) (wpAny_pure ?_)
 refine wpAny_bind (collect_set (A:=X.A.in1) (es:=es) (ep:=ep) (t:=tb) (I.ok.hd calm) ⟨_,at_a,rfl,rfl⟩ F.fit (by rw [sz];unfold scanBound;omega) r led fun s1 out k1 le1 g_1 o1 po=>?_)
 obtain ⟨ys,hy,py⟩:=a8n po hz
 have yl:out.length=l.length:=by rw [po.length_eq,zag,Array.length_toList,sz]
 have e1:s1={ s with heap:=s1.heap,gens:=s1.gens,drawn:=s1.drawn,toks:=s1.toks }:=by
  cases s1
  cases s
  cases o1
  rfl
 rw [e1]
 refine wpAny_bind (wpAny_newList ?_ (by rw [yl,zai];omega))
 have at_p:(s1.heap.push (seqObj "list" out.toArray 0)).get? s1.heap.objs.size=some (seqObj "list" out.toArray 0):=Heap.get?_push_size _ rfl
 show wpAny _ _ _ _ _ { s with heap:=s1.heap.push (seqObj "list" out.toArray 0),gens:=s1.gens,drawn:=s1.drawn,toks:=s1.toks }
 refine wpAny_bind (wpAny_holding (wpAny_call_entry PyProof.Rows.slot_list_sort ⟨_,at_p,rfl⟩ PyProof.Rows.entry_list_sort
  (list_sort_treeK strKind_oneLt (s:={ s with heap:=s1.heap.push (seqObj "list" out.toArray 0),gens:=s1.gens,drawn:=s1.drawn,toks:=s1.toks }) at_p hy.keysOf (fun v₁ v₂ rest e=>keyKind_strs (by rw [← e];exact hy)) (by rw [yl];exact few) fun st hp hs=>⟨_,rfl,?_⟩)
  (PyProof.Rows.args_list_sort _)))
 obtain ⟨qs,g1,g2,g3⟩:=sorted_out_str hy hp hs
 obtain ⟨e',at_q⟩:=PyProof.Rows.sortedHeap_at (vs:=out) (out:=(arrOf st).map (·.2)) at_p
 have eq:qs=a0X l:=a2l (g2.trans (py.trans pz)) g3
 subst eq
 have ql:((a0X l).map V.str).length≤sizeLine:=by rw [zag,show (a0X l).length=l.length from (List.mergeSort_perm l leS).length_eq,zai];omega
 have k3:∀ b o,s.heap.get? b=some o→(sortedHeap (s1.heap.push (seqObj "list" out.toArray 0)) s1.heap.objs.size out ((arrOf st).map (·.2))).get? b=some o:=fun b o e=>by
  have e:=k1 b o e
  have lt:=Heap.lt_size e
  rw [PyProof.Rows.sortedHeap_old (Nat.ne_of_lt lt) (by rw [size_push'];exact Nat.lt_succ_of_lt lt)]
  exact Heap.get?_push_of_some _ e
 have free:H s1.heap.objs.size=none:=I.hok.fresh le1
 have J:Inv X pins σ (upd H s1.heap.objs.size (.lst ((a0X l).map V.str))) { s with heap:=sortedHeap (s1.heap.push (seqObj "list" out.toArray 0)) s1.heap.objs.size out ((arrOf st).map (·.2)),gens:=s1.gens,drawn:=s1.drawn,toks:=s1.toks } :=
  I.call (ch:=[]) (Un.laid k3 le1 free) (I.hok.laid k3 le1 ⟨ql,((arrOf st).map (·.2)).toList,e',vals_of_strs g1,by rw [Array.toArray_toList];exact at_q⟩) (by rw [g_1];exact I.bare) (fun _ z=>nomatch z)
 exact wpAny_pure ⟨_,rfl,.ref s1.heap.objs.size,_,J,rfl,q _ free⟩
theorem b5y (I:Inv X pins σ H s) (t:a7u X.prog X.w s.heap a l) (few:l.length < 64) {Q:VK} (q:Q (.int (l.length:Nat)) H) :
  wpAny (model X.prog X.w) X.A (call (.builtin "len") [.ref a]) (EP X pins σ Q) X.xe s:=by
 obtain ⟨⟨es,ep,tb⟩,at_a,F,r,led⟩:=t
 have sz:es.size=l.length:=F.sz
 refine call_len_set (o:=sObj "set" (es,ep,tb)) at_a ⟨rfl,rfl,rfl⟩ rfl F.fit (by rw [sz];omega) ⟨.int (l.length:Nat),H,I.tok _,⟨_,by rw [sz]⟩,q⟩
def b9t (K:zbd) (srt:Bool) (ta:TE):TE:=fun σ H Q=>ta σ H fun x H1=>∃ p ks,x=.ref p∧SqL K H1 p (ks.map V.str)∧(ks.length < 64∨((uniq ks).length < 64∧ks.length < 1000)) ∧
 if srt=true then ∀ q,H1 q=none→Q (.ref q) (upd H1 q (.lst ((a0X (uniq ks)).map V.str))) else Q (.int ((uniq ks).length:Nat)) H1
def b2a (srt:Bool):Str:=if srt=true then "sorted" else "len"
end
section
variable {X:Cx}
theorem b2l {srt:Bool} {a:Expr} {ta:TE} {p p2 q pos:Pos} (calm:X.calm=true) (hg:Gl X (b2a srt)) (hm:X.mg (b2a srt)=none) (hg2:Gl X "set") (hm2:X.mg "set" = none) (ha:PE X a ta)
  (na:starEach [a] X.env=(false,eval a X.env) :: starEach [] X.env):PE X (.Call (.Name (b2a srt) p) [.Call (.Name "set" p2) [a] [] q] [] pos) (b9t X.K srt ta):=by
 refine ⟨fun pins s σ H Q I h=>?_⟩
 cases srt with
 | true =>
  refine Call_ (ld_blt I hg hm PyProof.Rows.boot_sorted ?_)
  refine PyProof.Rows.callWith_builtin1 (PyProof.Rows.args_cons ?_ rfl) rfl rfl
  refine Call_ (ld_blt I hg2 hm2 boot_set ?_)
  refine PyProof.Rows.callWith_type1 (PyProof.Rows.args_cons (thn (ha.run pins s σ H _ I h) fun v s1 ⟨x,H1,I1,r1,q1⟩=>PyProof.Rows.args_nil ?_) na) na rfl
  obtain ⟨l,ks,rfl,seq,few,q1⟩:=q1
  cases r1
  obtain ⟨its,rv,hl,_⟩:=I1.list seq
  refine a8E (us:=its) (I1.ok.hd calm) hl.isList rv.strs (by unfold scanBound;rcases few with few | few <;> omega) fun h' tk t k=>PyProof.Rows.args_nil ?_
  have I2:Inv X pins σ H1 { s1 with heap:=h',toks:=tk }:=I1.kept k
  have fu:(uniq ks).length < 64:=few.elim (fun few=>Nat.lt_of_le_of_lt a5i few) (·.1)
  exact b7h calm I2 t fu b0h q1
 | false =>
  refine Call_ (ld_blt I hg hm boot_len ?_)
  refine PyProof.Rows.callWith_builtin1 (PyProof.Rows.args_cons ?_ rfl) rfl rfl
  refine Call_ (ld_blt I hg2 hm2 boot_set ?_)
  refine PyProof.Rows.callWith_type1 (PyProof.Rows.args_cons (thn (ha.run pins s σ H _ I h) fun v s1 ⟨x,H1,I1,r1,q1⟩=>PyProof.Rows.args_nil ?_) na) na rfl
  obtain ⟨l,ks,rfl,seq,few,q1⟩:=q1
  cases r1
  obtain ⟨its,rv,hl,_⟩:=I1.list seq
  refine a8E (us:=its) (I1.ok.hd calm) hl.isList rv.strs (by unfold scanBound;rcases few with few | few <;> omega) fun h' tk t k=>PyProof.Rows.args_nil ?_
  have I2:Inv X pins σ H1 { s1 with heap:=h',toks:=tk }:=I1.kept k
  have fu:(uniq ks).length < 64:=few.elim (fun few=>Nat.lt_of_le_of_lt a5i few) (·.1)
  exact b5y I2 t fu q1
end
end Sv
namespace Sv
open PySem PySem.Spec PyProof.Rows L2 PySem.Froz
section
variable {P:Program} {w:World} {A:Around} {E:Value→Shared→Prop} {s:Shared}
theorem b5N {a:Addr} {S:Int→Bool} {n:Nat} {k:Int} {u:Tok} {Q:Bool→Shared→Prop} (R:SetR w s.heap a S n) (few:n + 1 < scanBound)
  (h:∀ b h',SetR w h' a (fun j=>S j || decide (j=k)) (if S k=true then n else n + 1)→(∀ b o,b≠a→s.heap.get? b=some o→h'.get? b=some o)→Q b { s with heap:=h',toks:=s.toks + 1 }):wpAny (model P w) A (setAdd a (.int k u)) Q E s:=by
 unfold setAdd
 refine wpAny_holding (wpAny_bind ((intKind P w).pyHash (intKind_is P w k u) ?_))
 exact setR_add_hashed (s:={ s with toks:=s.toks + 1 }) R few fun h' sb r=>h _ _ r fun b o hb e=>(sb.2 b hb).trans e
theorem b1s {a I:Addr} {fp wr:List Addr} {n:Nat} {Pv:Nat→Value→Prop} {St:Nat→Heap→Prop} {R:Result→Shared→Prop} (W:Walks P w A.in1 I fp wr n Pv St) (off:a∉fp) {zs:List Int} (len:zs.length=n) (few:n + 1 < scanBound)
  (val:∀ i v,Pv i v→∃ z u,zs[i]?=some z∧v=.int z u):∀ (rest:List Int) (i:Nat) (F:Int→Bool) (m:Nat) (s:Shared),zs.drop i=rest→i≤n→m≤i→St i s.heap→SetR w s.heap a F m →
   (∀ h' tk m',m'≤n→SetR w h' a (fun j=>F j || decide (j∈rest)) m'→(∀ b o,b∉a :: wr→s.heap.get? b=some o→h'.get? b=some o)→R (.ok (.ret .none)) { s with heap:=h',toks:=tk }) →
   codeAny (model P w) A (.builtin "set.update.loop" ⟨[.ref a,.ref I],[]⟩) R s:=by
 have off2:a∉wr:=fun h=>off (W.sub _ h)
 intro rest
 induction rest with
 | nil =>
  intro i F m s hd hi hm st t h
  have e:i=n:=by
   have:=congrArg List.length hd
   rw [List.length_drop,List.length_nil] at this
   omega
  subst e
  refine codeAny_builtin PyProof.Rows.F.entry_set_update_loop ?_
  rw [Around.under_plainId PyProof.Rows.F.plain_set_update_loop _]
  show wpAny _ A.in1 (pyNext (.ref I) >>= _) _ _ s
  refine wpAny_bind (W.done s _ _ st fun h' tk k=>?_)
  exact wpAny_pure (h h' tk m hm ((t.at fun o e=>k _ o off2 e).congr fun j=>by simp) fun b o hb e=>k b o (fun z=>hb (zao _ z)) e)
 | cons z rest ih =>
  intro i F m s hd hi hm st t h
  have at_i:zs[i]?=some z:=by
   have:=congrArg (fun q:List Int=>q[0]?) hd
   rw [List.getElem?_drop] at this
   exact this
  have lt:i < n:=by rw [← len];exact (List.getElem?_eq_some_iff.mp at_i).1
  have hd2:zs.drop (i + 1)=rest:=by
   have:=congrArg (List.drop 1) hd
   rw [List.drop_drop] at this
   exact this
  refine codeAny_builtin PyProof.Rows.F.entry_set_update_loop ?_
  rw [Around.under_plainId PyProof.Rows.F.plain_set_update_loop _]
  show wpAny _ A.in1 (pyNext (.ref I) >>= _) _ _ s
  refine wpAny_bind (W.item i s _ _ lt st fun v h1 tk hv st1 k1=>?_)
  obtain ⟨z',u,ez,rfl⟩:=val i v hv
  rw [at_i] at ez
  cases ez
  show wpAny _ A.in1 (holding [Value.int z u] (setAdd a (.int z u)) >>= _) _ _ _
  refine wpAny_bind (wpAny_holding ?_)
  refine b5N (s:={ s with heap:=h1,toks:=tk }) (t.at fun o e=>k1 _ o off2 e) (by omega) fun b h2 t2 k2=>?_
  refine wpAny_pure ⟨plainId_quiet PyProof.Rows.F.plain_set_update_loop _,ih (i + 1) _ _ _ hd2 lt (by split <;> omega) (W.frame _ h1 h2 st1 fun b hb o e=>k2 b o (fun q=>off (q ▸ hb)) e) t2 fun h3 tk3 m3 hm3 t3 k3=>?_⟩
  refine h h3 tk3 m3 hm3 (t3.congr fun j=>?_) fun b o hb e=>k3 b o hb ?_
  ·show (F j || decide (j∈z :: rest))=((F j || decide (j=z)) || decide (j∈rest))
   rw [Bool.or_assoc]
   congr 1
   rw [Bool.eq_iff_iff]
   simp
  ·refine k2 b o (fun q=>hb (q ▸ zal)) ?_
   exact k1 b o (fun q=>hb (zao _ q)) e
theorem ints_get:∀ {us:List Value} {zs:List Int},IntsAre us zs→∀ {i:Nat} {v:Value},us[i]?=some v→∃ z u,zs[i]?=some z∧v=.int z u
 | _,_,.nil,i,v,h=>by simp at h
 | _,_,.cons z t r,0,v,h=>⟨z,t,rfl,(Option.some.inj h).symm⟩
 | _,_,.cons z t r,i + 1,v,h=>ints_get r (i:=i) h
theorem b1W {l:Addr} {us:List Value} {zs:List Int} {Q:Value→Shared→Prop} (hh:A.handled=none) (at_l:s.heap.IsList l us.toArray) (all:IntsAre us zs) (few:zs.length + 1 < scanBound)
  (h:∀ h' tk,(∃ m,m≤zs.length∧SetR w h' s.heap.objs.size (fun j=>decide (j∈zs)) m)→(∀ b o,s.heap.get? b=some o→h'.get? b=some o)→Q (.ref s.heap.objs.size) { s with heap:=h',toks:=tk }) :
  wpAny (model P w) A (call (.type "set") [.ref l]) Q E s:=by
 have len:us.length=zs.length:=all.length
 refine a4O hh at_l (fun A' R hA' k=>?_) h
 let o0:Obj:={ cls:=.type "set",dict:=none,data:=.set #[] 0 (.fresh 0 0 (!w.params.followText "set-order")) }
 obtain ⟨ol,hol,_⟩:=id at_l
 have lt:=Heap.lt_size hol
 have sz:(s.heap.push o0).objs.size=s.heap.objs.size + 1:=size_push' _ _
 have ne:l≠(s.heap.push o0).objs.size:=by rw [sz];exact Nat.ne_of_lt (Nat.lt_succ_of_lt lt)
 have off:s.heap.objs.size∉[(s.heap.push o0).objs.size,l]:=fun hm=>by
  rw [sz] at hm
  rcases zat.mp hm with q | q
  ·exact Nat.ne_of_lt (Nat.lt_succ_self _) q
  ·exact Nat.ne_of_gt lt (zaj.mp q)
 refine b1s (Walks.list (by exact hA') _ l ne us.toArray) off (zs:=zs) (by rw [List.size_toArray,len]) (by rw [List.size_toArray,len];exact few) (fun i v hv=>ints_get all (by rw [← List.getElem?_toArray];exact hv)) zs 0 (fun _=>false) 0 _ rfl (Nat.zero_le _) (Nat.zero_le _)
  ⟨⟨_,Heap.get?_push_size _ rfl,rfl,rfl⟩,(at_l.push _).push _⟩ ((setR_fresh w).at fun o e=>Heap.get?_push_of_some _ e) fun h' tk m hm t k2=>k h' tk ⟨m,by rw [List.size_toArray,len] at hm;exact hm,t.congr fun j=>by simp⟩ fun b o e=>?_
 have hb:=Heap.lt_size e
 refine k2 b o (fun hm=>?_) (Heap.get?_push_of_some _ (Heap.get?_push_of_some _ e))
 rw [sz] at hm
 rcases zat.mp hm with q | q
 ·exact Nat.ne_of_lt hb q
 ·exact Nat.ne_of_lt (Nat.lt_succ_of_lt hb) (zaj.mp q)
end
theorem a3o {g:Gd} {S:SS} {H:Hp}:∀ (zs:List Int),a0c g S H (zs.map D.int) (zs.map V.int)
 | []=>by simp only [List.map_nil,a0c]
 | z :: zs=>by
  simp only [zav,a0c]
  exact ⟨_,_,rfl,by simp only [Rep],a3o zs⟩
section
variable {X:Cx} {pins:List (Addr × Obj)} {σ:L2.St} {H:Hp} {s:Shared} {a:Addr}
theorem b7g {S:Int→Bool} {n:Nat} (calm:X.calm=true) (I:Inv X pins σ H s) (R:SetR X.w s.heap a S n) (h64:n < 64) {Q:VK} (q:∀ (ns:List Int) p,ns.Pairwise (· < ·)→(∀ k:Int,k∈ns↔S k=true)→H p=none→Q (.ref p) (upd H p (.lst (ns.map V.int)))) :
  wpAny (model X.prog X.w) X.A (call (.builtin "sorted") [.ref a]) (EP X pins σ Q) X.xe s:=by
 refine sorted_set R (I.ok.hd calm) h64 fun s' p out c ns k g o hp hg hi hs hm hl=>?_
 have hlen:(ns.map V.int).length≤sizeLine:=by rw [zag,hl,zai];omega
 have hn:H p=none:=I.hok.fresh hp
 have J:Inv X pins σ (upd H p (.lst (ns.map V.int))) { s with heap:=s'.heap,gens:=s'.gens,drawn:=s'.drawn,toks:=s'.toks } :=
  I.call (ch:=[]) (Un.laid k hp hn) (I.hok.laid k hp ⟨hlen,out.toList,c,vals_of_ints hi,hg⟩) (by rw [g];exact I.bare) (fun _ z=>nomatch z)
 have e:s'={ s with heap:=s'.heap,gens:=s'.gens,drawn:=s'.drawn,toks:=s'.toks }:=by
  cases s'
  cases s
  cases o
  rfl
 rw [e]
 exact ⟨.ref p,_,J,rfl,q ns p hs hm hn⟩
def b9s (K:zbd) (ta:TE):TE:=fun σ H Q=>ta σ H fun x H1=>∃ p,∃ ks:List Int,x=.ref p∧SqL K H1 p (ks.map V.int)∧ks.length < 64 ∧
 ∀ (ns:List Int) q,ns.Pairwise (· < ·)→(∀ k,k∈ns↔k∈ks)→H1 q=none→Q (.ref q) (upd H1 q (.lst (ns.map V.int)))
end
section
variable {X:Cx}
theorem b2k {a:Expr} {ta:TE} {p p2 q pos:Pos} (calm:X.calm=true) (hg:Gl X "sorted") (hm:X.mg "sorted" = none) (hg2:Gl X "set") (hm2:X.mg "set" = none) (ha:PE X a ta)
  (na:starEach [a] X.env=(false,eval a X.env) :: starEach [] X.env):PE X (.Call (.Name "sorted" p) [.Call (.Name "set" p2) [a] [] q] [] pos) (b9s X.K ta):=by
 refine ⟨fun pins s σ H Q I h=>?_⟩
 refine Call_ (ld_blt I hg hm PyProof.Rows.boot_sorted ?_)
 refine PyProof.Rows.callWith_builtin1 (PyProof.Rows.args_cons ?_ rfl) rfl rfl
 refine Call_ (ld_blt I hg2 hm2 boot_set ?_)
 refine PyProof.Rows.callWith_type1 (PyProof.Rows.args_cons (thn (ha.run pins s σ H _ I h) fun v s1 ⟨x,H1,I1,r1,q1⟩=>PyProof.Rows.args_nil ?_) na) na rfl
 obtain ⟨l,ks,rfl,seq,few,q1⟩:=q1
 cases r1
 obtain ⟨its,rv,hl,_⟩:=I1.list seq
 refine b1W (us:=its) (I1.ok.hd calm) hl.isList rv.ints (by unfold scanBound;omega) fun h' tk ⟨m,hm,t⟩ k=>PyProof.Rows.args_nil ?_
 have I2:Inv X pins σ H1 { s1 with heap:=h',toks:=tk }:=I1.kept k
 exact b7g calm I2 t (by omega) fun ns q hs hm free=>q1 ns q hs (fun k=>(hm k).trans decide_eq_true_iff) free
end
end Sv
namespace Sv
open PySem PySem.Spec PyProof.Rows L2
def ev2 {α:Type} (k:Nat) (xs:List α):List α:=((List.range ((xs.length + 1 - k) / 2)).map fun i=>k + 2 * i).filterMap (xs[·]?)
theorem a9j {α β:Type} (f:α→β) (k:Nat) (xs:List α):ev2 k (xs.map f)=(ev2 k xs).map f:=by
 unfold ev2
 rw [zag,List.map_filterMap]
 exact congrArg (fun f=>List.filterMap f _) (funext fun i=>zbb)
theorem a9i {α:Type} (k:Nat) (xs:List α):(ev2 k xs).length≤xs.length:=by
 unfold ev2
 refine Nat.le_trans (List.length_filterMap_le _ _) ?_
 rw [zag,List.length_range]
 omega
theorem a8b (its:Array Value):slicePick its none none (some 2)=(ev2 0 its.toList).toArray:=by
 unfold slicePick ev2
 have b:sliceBounds none none (some 2) its.size=(0,(its.size:Int),2):=rfl
 rw [b]
 have r:sliceRange 0 (its.size:Int) 2=(List.range ((its.toList.length + 1 - 0) / 2)).map fun i=>0 + 2 * i:=by
  unfold sliceRange
  rw [Array.length_toList]
  have e:(if (2:Int) > 0 then (if (0:Int) < (its.size:Int) then ((its.size:Int) - 0 + 2 - 1) / 2 else 0) else (if (0:Int) > (its.size:Int) then (0 - (its.size:Int) - 2 - 1) / (-2) else 0)).toNat=(its.size + 1 - 0) / 2:=by
   rw [if_pos (by decide)]
   split <;> omega
  dsimp only
  rw [e]
  exact List.map_congr_left fun i _=>by omega
 rw [r]
 exact congrArg List.toArray (congrArg (fun f=>List.filterMap f _) (funext fun i=>Array.getElem?_toList.symm))
theorem a65 (its:Array Value):slicePick its (some 1) none (some 2)=(ev2 1 its.toList).toArray:=by
 unfold slicePick ev2
 have b:sliceBounds (some 1) none (some 2) its.size=(max 0 (min 1 (its.size:Int)),(its.size:Int),2):=rfl
 rw [b]
 have r:sliceRange (max 0 (min 1 (its.size:Int))) (its.size:Int) 2=(List.range ((its.toList.length + 1 - 1) / 2)).map fun i=>1 + 2 * i:=by
  rw [Array.length_toList]
  by_cases h0:its.size=0
  ·rw [h0];rfl
  ·have e1:max 0 (min 1 (its.size:Int))=1:=by omega
   rw [e1]
   unfold sliceRange
   have e:(if (2:Int) > 0 then (if (1:Int) < (its.size:Int) then ((its.size:Int) - 1 + 2 - 1) / 2 else 0) else (if (1:Int) > (its.size:Int) then (1 - (its.size:Int) - 2 - 1) / (-2) else 0)).toNat=(its.size + 1 - 1) / 2:=by
    rw [if_pos (by decide)]
    split <;> omega
   dsimp only
   rw [e]
   exact List.map_congr_left fun i _=>by omega
 rw [r]
 exact congrArg List.toArray (congrArg (fun f=>List.filterMap f _) (funext fun i=>Array.getElem?_toList.symm))
theorem a4p:∀ {xs:List V} {us:List Value},Vals xs us→∀ i:Nat,(xs[i]?=none∧us[i]?=none)∨∃ x u,xs[i]?=some x∧us[i]?=some u∧RelV x u
 | _,_,.nil,i=>.inl ⟨rfl,rfl⟩
 | _,_,.cons r rs,0=>.inr ⟨_,_,rfl,rfl,r⟩
 | _,_,.cons r rs,i + 1=>a4p rs i
theorem a2r {xs:List V} {us:List Value} (r:Vals xs us):∀ is:List Nat,Vals (is.filterMap (xs[·]?)) (is.filterMap (us[·]?))
 | []=>.nil
 | i :: is=>by
  rcases a4p r i with ⟨e1,e2⟩ | ⟨x,u,e1,e2,q⟩
  ·rw [List.filterMap_cons_none e1,List.filterMap_cons_none e2];exact a2r r is
  ·rw [List.filterMap_cons_some e1,List.filterMap_cons_some e2];exact .cons q (a2r r is)
theorem a8v {xs:List V} {us:List Value} (r:Vals xs us) (k:Nat):Vals (ev2 k xs) (ev2 k us):=by
 unfold ev2
 rw [r.length]
 exact a2r r _
section
variable {X:Cx} {e:Expr} {te:TE}
def loE (k:Nat):Option Expr→Bool
 | none=>k == 0
 | some (.Constant (.int 1) _ _)=>k == 1
 | _=>false
theorem b2h {k kk:Nat} {lo:Option Expr} {p2 p3 pos:Pos} (he:PE X e te) (hlo:loE k lo=true):PE X (.Subscript e (.Slice lo none (some (.Constant (.int 2) kk p2)) p3) pos) (fun σ H Q=>te σ H fun x H1=>∃ a xs,x=.ref a∧SqL X.K H1 a xs∧∀ p,H1 p=none→Q (.ref p) (upd H1 p (.lst (ev2 k xs)))):=by
 obtain ⟨o,to,hp,hto,pick⟩:∃ (o:Option Int) (to:TO),PO X lo to∧(∀ σ H Q,Q o H→to σ H Q)∧∀ its:Array Value,slicePick its o none (some 2)=(ev2 k its.toList).toArray:=by
  unfold loE at hlo
  split at hlo
  ·rw [beq_iff_eq] at hlo;subst hlo
   exact ⟨none,_,po_none,fun _ _ _ q=>q,a8b⟩
  ·rw [beq_iff_eq] at hlo;subst hlo
   exact ⟨some 1,_,po_some pe_int,fun _ _ _ q=>⟨1,rfl,q⟩,a65⟩
  ·cases hlo
 constructor
 intro pins s σ H Q inv asked
 apply Subscript_
 refine thn (he.run pins s σ H _ inv asked) ?_
 rintro v s1 ⟨x,H1,i1,r1,a,xs,rfl,at_a,q⟩
 cases r1
 apply wpAny_Slice
 refine thn (hp.run pins s1 σ H1 (fun z H2=>z=o∧H2=H1) i1 (hto _ _ _ ⟨rfl,rfl⟩)) ?_
 rintro vl s2 ⟨z,H2,i2,part,rfl,rfl⟩
 refine thn (po_none.run pins s2 σ H2 (fun z H3=>z=none∧H3=H2) i2 ⟨rfl,rfl⟩) ?_
 rintro vu s3 ⟨z2,H3,i3,part2,rfl,rfl⟩
 refine thn ((po_some pe_int).run pins s3 σ H3 (fun z H4=>z=some 2∧H4=H3) i3 ⟨2,rfl,rfl,rfl⟩) ?_
 rintro vs s4 ⟨z3,H4,i4,part3,rfl,rfl⟩
 have laid:=i4.kept (t':=s4.toks) (h':=s4.heap.push { cls:=.type "slice",data:=.fields #[vl,vu,vs] }) fun b ob there=>Heap.get?_push_of_some _ there
 obtain ⟨its,rel,at_its,fits⟩:=laid.list at_a
 have same:its.length=xs.length:=rel.length.symm
 refine tail_any (ops:=[.ref a,.ref s4.heap.objs.size]) at_its.isList.typeIs (PySem.slot_list_getitem.lookup) ?_ (by with_unfolding_all rfl)
 refine wpAny_getItem_list_slice at_its.isList (Heap.IsSliceOf.new _ vl vu vs) part part2 part3 (by decide) ?_ (by rw [List.size_toArray,same];exact fits)
 rw [pick]
 refine ⟨.ref _,_,laid.laid (t':=s4.toks) (o:=.lst (ev2 k xs)) (fun b ob there=>Heap.get?_push_of_some _ there) (Nat.le_refl _) ?_,rfl,q _ (laid.hok.fresh (Nat.le_refl _))⟩
 exact ⟨Nat.le_trans (a9i k xs) fits,_,0,a8v rel k,Heap.get?_push_size _ rfl⟩
end
section
variable {X:Cx} {g:Gd} {S:SS} {H:Hp}
theorem a8i {ds:List D} {vs:List V} (h:a0c g S H ds vs) (k:Nat):a0c g S H (ev2 k ds) (ev2 k vs):=a2c (a2f (fun l=>ev2 k l) (fun h l=>a9j h k l) (a1J h))
def a7k (x:D) (xs:List D) (S:SS) (K:DK):Prop:=match x,xs with
 | .str z,[.str b]=>(b.length == 0)=false∧z.length + 2≤sizeLine∧∃ cell,outL cell ((Txt.split z b).map D.str) S K
 | _,_=>False
theorem a2C:∀ (zs:List Str),a0c g S H (zs.map D.str) (zs.map V.str)
 | []=>by simp only [List.map_nil,a0c]
 | z :: zs=>by
  simp only [zav,a0c]
  exact ⟨_,_,rfl,by simp only [Rep],a2C zs⟩
theorem a8m:MtR X "str.split" (rDm g a7k):=by
 rintro pins s σ H v vs u us Q inv rv given ⟨x,xs,S,K,cells,rep,reps,told,res⟩
 unfold a7k at told
 split at told
 ·rename_i z b
  obtain ⟨w,rfl,rep2⟩:=one_of reps
  cases a0o rep
  cases a0o rep2
  obtain ⟨h1,h2,cell,k⟩:=told
  exact mt_split _ _ _ _ _ _ _ _ _ inv rv given ⟨z,b,rfl,rfl,h1,h2,fun p free=>res.outL (cell:=cell) k cells (a2C _) free⟩
 ·exact told.elim
def a9E (xs:List D) (S:SS) (K:DK):Prop:=match xs with
 | [d]=>∃ x rest,vw S d=.lst (x :: rest)∧D.okd 60 (.lst (x :: rest))=true∧PySem.W.AlikeAll (D.pys (x :: rest))∧∀ y,y∈x :: rest→y.py=PySem.W.minD x.py (D.pys rest)→K y S
 | [x,y]=>D.okd 60 (.lst [x,y])=true∧PySem.W.AlikeAll (D.pys [x,y])∧∀ z,z∈[x,y]→z.py=PySem.W.minD x.py [y.py]→K z S
 | _=>False
section
open PySem.W
variable {prog:Program} {w:World} {A:Around} {E:Value→Shared→Prop} {s:Shared}
theorem a2L {a b:Value} {Q:Value→Shared→Prop}
  (h:wpAny (model prog w) A.in1 (pyIter (.ref s.heap.objs.size)) (fun it s₂=>∃ I fp wr G n P St H bt,it=.ref I∧WalksS prog w A.in1 I fp wr G n P St∧St 0 s₂∧(∀ b∈fp,b < s₂.heap.objs.size)∧0 < n ∧
   (∀ b o,H.get? b=some o→b∉wr)∧(∀ b o,H.get? b=some o→s₂.heap.get? b=some o)∧CmpIn prog w A.in1 .Lt H P bt∧∀ v s',P (argBest bt (n - 1)) v→Moved wr G s₂ s'→Q v s') E { s with heap:=s.heap.push { cls:=.type "tuple",data:=.seq #[a,b] } }) :
  wpAny (model prog w) A (call (.builtin "min") [a,b]) Q E s:=by
 have hname:(toString "min" ++ toString ".loop" : String) = "min.loop" := by decide
 refine call_function_tree F.kind_min F.plain_min F.entry_min (F.args_min2 _ _) ?_
 show wpAny _ A.in1 (Builtin.Builtins.bindParams "min" ["key", "default"] 0 ⟨[],[]⟩ >>= _) _ _ s
 refine wpAny_bind (wpAny_of_eq (show Builtin.Builtins.bindParams "min" ["key", "default"] 0 ⟨[],[]⟩=pure [none,none] from rfl) ?_)
 show wpAny _ A.in1 (newTuple [a,b] >>= _) _ _ s
 refine wpAny_bind (wpAny_newObj_type ?_)
 refine wpAny_bind (wpAny_mono h (fun it s₂ h₂=>?_) fun _ _ e=>e)
 obtain ⟨I,fp,wr,G,n,P,St,H,bt,rfl,W,hst,hfp,hn,hw,hkeep,hcmp,hQ⟩:=h₂
 refine wpAny_bind (wpAny_newObj_type ?_)
 have hSf:s₂.heap.objs.size∉fp:=fun hm=>Nat.lt_irrefl _ (hfp _ hm)
 rw [hname]
 refine wpAny_pure ⟨plainId_quiet F.plain_min_loop _,codeAny_min_loop_firstH W H hw bt hcmp s₂.heap.objs.size hSf (fresh_in hkeep) _ hn (fun b o e=>Heap.get?_push_of_some _ (hkeep b o e)) (W.frame 0 s₂ _ s₂.toks hst (Nat.le_refl _) fun b _ o e=>Heap.get?_push_of_some _ e) (Heap.get?_push_size _ rfl) fun v s' hP hm=>?_⟩
 exact hQ v s' hP (Moved.drop_new (tk:=s₂.toks) hm (Nat.le_refl _))
theorem a2g {h h':Heap} (k:∀ b o,h.get? b=some o→h'.get? b=some o):∀ {vs:List Value} {xs:List PyData} {as:List Addr},ReadsAll h vs xs as→ReadsAll h' vs xs as
 | _,_,_,.nil=>.nil
 | _,_,_,.cons r rs=>.cons (reads_keeps k r) (a2g k rs)
theorem a3y {a b:Value} {x y:PyData} {as:List Addr} {Q:Value→Shared→Prop} (hh:A.handled=none) (hr:ReadsAll s.heap [a,b] [x,y] as) (ha:AlikeAll [x,y]) (hu:A.units + 1 + PyData.depthAll [x,y] < cLine)
  (h:∀ (i:Nat) v h' tk bs,[a,b][i]?=some v→Reads h' v (PySem.W.minD x [y]) bs→(∀ b o,s.heap.get? b=some o→h'.get? b=some o)→Q v { s with heap:=h',toks:=tk }) :
  wpAny (model prog w) A (call (.builtin "min") [a,b]) Q E s:=by
 have hT:(s.heap.push { cls:=.type "tuple",data:=.seq #[a,b] }).IsTuple s.heap.objs.size #[a,b]:=⟨_,Heap.get?_push_size _ rfl,rfl,0,rfl⟩
 have hr2:ReadsAll (s.heap.push { cls:=.type "tuple",data:=.seq #[a,b] }) (#[a,b]:Array Value).toList [x,y] as:=a2g (fun c o e=>Heap.get?_push_of_some _ e) hr
 refine a2L (iter_tupleW (A:=A.in1) (s:={ s with heap:=s.heap.push { cls:=.type "tuple",data:=.seq #[a,b] } }) hh hT fun s₂ e W st hfp hw hk=>?_)
 refine ⟨_,_,_,_,_,_,_,s.heap.push { cls:=.type "tuple",data:=.seq #[a,b] },_,rfl,W,st,hfp,Nat.zero_lt_succ 1,hw,hk,cmpIn_lt (A:=A.in1) (s:={ s with heap:=s.heap.push { cls:=.type "tuple",data:=.seq #[a,b] } }) hr2 ha (by show A.units + 1 + _ < _;exact hu),fun v s' hP m=>?_⟩
 obtain ⟨h',tk,rfl,hk'⟩:=moved_old e rfl m
 obtain ⟨bs,r,_,_,_⟩:=readsAll_atA hr2 _ v hP
 have e2:=(argBest_fold dataLt PyData.none x [y] 1 (Nat.le_refl _)).2
 refine h _ v h' tk bs (by have:=hP;rw [← Array.getElem?_toList] at this;exact this) (reads_keeps hk' (by unfold PySem.W.minD;have e3:[y].take 1=[y]:=rfl;rw [e3] at e2;rw [← e2];exact r)) fun c o e=>hk' c o (Heap.get?_push_of_some _ e)
end
theorem a1T {ds:List D} (h:D.okd 60 (.lst ds)=true):PyData.depthAll (D.pys ds)≤59:=by
 have:=(a1C (.lst ds) 60 h).2
 simp only [D.py,PyData.depth] at this
 omega
theorem a8H:∀ {ds:List D} {i:Nat},(D.pys ds)[i]?=(ds[i]?).map D.py
 | [],_=>by simp [D.pys]
 | d :: ds,0=>by simp [D.pys]
 | d :: ds,i + 1=>by simp [D.pys,a8H (ds:=ds) (i:=i)]
theorem a6b {ds:List D} {vs:List V} (ok:D.okd 60 (.lst ds)=true) (all:a0c g S H ds vs):DpAll g.K H vs (D.pys ds):=by
 simp only [D.okd,zak] at ok
 exact a1U 59 ok.2 all
theorem a6z {ds:List D} (ok:D.okd 60 (.lst ds)=true) {d:D} (h:d∈ds):d.py.canLay0=true:=by
 simp only [D.okd,zak] at ok
 obtain ⟨_,ok⟩:=ok
 have all:∀ (es:List D),D.okds 59 es=true→∀ e∈es,D.okd 59 e=true:=by
  intro es
  induction es with
  | nil=>exact fun _ _ h=>nomatch h
  | cons x es ih =>
   intro h e he
   simp only [D.okds,zak] at h
   rcases zat.mp he with rfl | he
   ·exact h.1
   ·exact ih h.2 e he
 exact (a1C d 59 (all ds ok d h)).1
theorem a9F (calm:X.calm=true) (hK:g.K=X.K) (room:X.A.units + 65 < cLine):CallR X (.builtin "min") (rDc g a9E):=by
 rintro pins s σ H vs us Q inv given ⟨xs,S,K,cells,reps,told,res⟩
 unfold a9E at told
 split at told
 ·rename_i d
  obtain ⟨v,rfl,rep⟩:=one_of reps
  obtain ⟨x,rest,seen,okd,al,k⟩:=told
  obtain ⟨a,ws,rfl,seq,all⟩:=a0g cells rep seen
  have dp:=a6b okd all
  rw [hK] at seq dp
  obtain ⟨its,rel,at_its,fits⟩:=inv.list seq
  obtain ⟨as,reads⟩:=Dp.readsAll inv _ ws its dp rel
  have deep:=a1T okd
  rw [Vals.ref1 given]
  refine PySem.W.min_list_data (inv.ok.hd calm) at_its.isList reads al (by show _ + 1 + PyData.depthAll (D.pys (x :: rest)) < _;omega) fun i u h' tk bs at_u least keep=>?_
  have at_u:its[i]?=some u:=by rw [← at_u];simp
  obtain ⟨w,u',e1,e2,rw'⟩:=(a4p rel i).resolve_left fun h=>by rw [h.2] at at_u;cases at_u
  rw [at_u] at e2
  cases e2
  have hlt:i < (x :: rest).length:=by rw [all.length];exact (List.getElem?_eq_some_iff.mp e1).1
  have e3:(x :: rest)[i]?=some (x :: rest)[i]:=zbc hlt
  obtain ⟨w2,e4,one⟩:=all.get e3
  rw [e1] at e4
  cases e4
  have mem:=List.getElem_mem hlt
  obtain ⟨bs2,r2,_⟩:=PySem.W.readsAll_at reads i u at_u
  have e5:(D.pys (x :: rest)).getD i .none=((x :: rest)[i]).py:=by rw [List.getD_eq_getElem?_getD,a8H,e3];rfl
  rw [e5] at r2
  have same:=PySem.SeqAt.Reads.unique _ _ _ _ _ (a6z okd mem) (PyProof.Rows.Reads.keeps keep r2) least
  exact ⟨w,H,inv.kept (t':=tk) keep,rw',res.val (k _ mem same) cells one⟩
 ·rename_i x y
  obtain ⟨okd,al,k⟩:=told
  have dp:=a6b okd reps
  rw [hK] at dp
  obtain ⟨v1,v2,rfl,p3,p4⟩:=a0G reps
  obtain ⟨as,reads⟩:=Dp.readsAll inv _ _ us dp given
  obtain ⟨u1,u2,rfl,r1,r2⟩:=vals2 given
  have deep:=a1T okd
  refine a3y (inv.ok.hd calm) (x:=x.py) (y:=y.py) (as:=as) (by simpa only [D.pys] using reads) (by simpa only [D.pys] using al) (by simp only [D.pys] at deep;omega) fun i u h' tk bs at_u least keep=>?_
  have reads:ReadsAll s.heap [u1,u2] [x.py,y.py] as:=by simpa only [D.pys] using reads
  obtain ⟨bs2,rd,_⟩:=PySem.W.readsAll_at reads i u at_u
  match i,at_u with
  | 0,at_u =>
   cases at_u
   have same:=PySem.SeqAt.Reads.unique _ _ _ _ _ (a6z okd (zal)) (PyProof.Rows.Reads.keeps keep rd) least
   exact ⟨v1,H,inv.kept (t':=tk) keep,r1,res.val (k x zal same) cells p3⟩
  | 1,at_u =>
   cases at_u
   have same:=PySem.SeqAt.Reads.unique _ _ _ _ _ (a6z okd (zao _ zal)) (PyProof.Rows.Reads.keeps keep rd) least
   exact ⟨v2,H,inv.kept (t':=tk) keep,r2,res.val (k y (zao _ zal) same) cells p4⟩
  | n + 2,at_u=>simp at at_u
 ·exact told.elim
def a2X (cell:Bool) (xs:List D) (S:SS) (K:DK):Prop:=match xs with
 | [d]=>∃ ds,vw S d=.lst ds∧D.okd 60 (.lst ds)=true∧PySem.W.AllAlike (ds.map D.py)∧PySem.W.Sortable (ds.map D.py)∧outL cell (ds.mergeSort (PySem.W.dataLe false D.py)) S K
 | _=>False
theorem a1W:∀ {us:List Value} {ds:List D},PySem.W.EachIs (fun u d=>∃ v,RelV v u∧Rep g S H d v) us ds→∃ vs,Vals vs us∧a0c g S H ds vs
 | _,_,.nil=>⟨[],.nil,by simp only [a0c]⟩
 | _,_,.cons ⟨v,r,q⟩ more=>by
  obtain ⟨vs,a,b⟩:=a1W more
  exact ⟨v :: vs,.cons r a,by simp only [a0c];exact ⟨_,_,rfl,q,b⟩⟩
theorem a2q:∀ {us:List Value} {ds:List D} {vs:List V},Vals vs us→a0c g S H ds vs→PySem.W.EachIs (fun u d=>∃ v,RelV v u∧Rep g S H d v) us ds
 | _,[],_,r,all=>by
  simp only [a0c] at all
  subst all
  cases r
  exact .nil
 | _,d :: ds,_,r,all=>by
  simp only [a0c] at all
  obtain ⟨v,q,rfl,one,more⟩:=all
  cases r with
  | cons r1 r2=>exact .cons ⟨v,r1,one⟩ (a2q r2 more)
theorem a2A {h:Heap}:∀ {us:List Value} {ds:List D} {as:List Addr},ReadsAll h us (D.pys ds) as→PySem.W.EachIs (fun u (d:D)=>∃ as,Reads h u d.py as) us ds
 | _,[],_,r=>by
  simp only [D.pys] at r
  cases r
  exact .nil
 | _,d :: ds,_,r=>by
  simp only [D.pys] at r
  cases r with
  | cons r1 r2=>exact .cons ⟨_,r1⟩ (a2A r2)
theorem a5E (calm:X.calm=true) (hK:g.K=X.K) (room:X.A.units + 65 < cLine) (cell:Bool):CallR X (.builtin "sorted") (rDc g (a2X cell)):=by
 rintro pins s σ H vs us Q inv given ⟨xs,S,K,cells,reps,told,res⟩
 unfold a2X at told
 split at told
 ·rename_i d
  obtain ⟨v,rfl,rep⟩:=one_of reps
  obtain ⟨ds,seen,okd,al,so,k⟩:=told
  obtain ⟨a,ws,rfl,seq,all⟩:=a0g cells rep seen
  have dp:=a6b okd all
  rw [hK] at seq dp
  obtain ⟨its,rel,at_its,fits⟩:=inv.list seq
  obtain ⟨as,reads⟩:=Dp.readsAll inv _ ws its dp rel
  have deep:=a1T okd
  have each:∀ d∈ds,d.py.depth≤59:=by
   have gen:∀ es:List D,PyData.depthAll (D.pys es)≤59→∀ d∈es,d.py.depth≤59:=by
    intro es
    induction es with
    | nil=>exact fun _ _ h=>nomatch h
    | cons x es ih =>
     intro h d hd
     simp only [D.pys,PyData.depthAll] at h
     rcases zat.mp hd with rfl | hd
     ·omega
     ·exact ih (by omega) d hd
   exact gen ds deep
  rw [Vals.ref1 given]
  refine PySem.W.sorted_data (bs:=ds) (enc:=D.py) (R:=fun u d=>∃ v,RelV v u∧Rep g S H d v) at_its.isList (a2q rel all) (a2A reads) al so (by rw [all.length];exact fits) (fun b hb=>by have:=each b hb;omega) fun out len is=>?_
  obtain ⟨vs2,r1,r2⟩:=a1W is
  obtain ⟨ep,here⟩:=PyProof.Rows.sortedAll_at s.heap its out.toArray
  have few:vs2.length≤sizeLine:=by rw [r1.length,len,all.length];exact fits
  refine ⟨.ref _,upd H (s.heap.objs.size + 1) (.lst vs2),inv.laid (t':=s.toks) (fun _ _=>PyProof.Rows.sortedAll_old) (Nat.le_succ _) ⟨few,out,ep,r1,here⟩,rfl,res.outL k cells r2 (inv.hok.fresh (Nat.le_succ _))⟩
 ·exact told.elim
end
end Sv
namespace Sv
open PySem PySem.Spec PySem.Calls PyProof.Rows L2
def Head3 (h:Heap) (v:Value) (p:Int × Int):Prop:=∃ a o n t u x,v=.ref a∧h.get? a=some o∧o.cls=.type "tuple" ∧ o.data=.seq #[.int p.1 t,.int p.2 u,.ref x] n
theorem Head3.one {h:Heap} {v:Value} {p q:Int × Int} (a:Head3 h v p) (b:Head3 h v q):p=q:=by
 obtain ⟨a,o,n,t,u,x,rfl,h1,_,h3⟩:=a
 obtain ⟨a',o',n',t',u',x',e,k1,_,k3⟩:=b
 cases e
 rw [h1] at k1
 cases k1
 rw [h3] at k3
 injection k3 with k3 _
 have k3:=congrArg Array.toList k3
 simp only [List.cons.injEq,Value.int.injEq] at k3
 exact Prod.ext k3.1.1 k3.2.1.1
theorem Head3.keep {h h':Heap} {v:Value} {p:Int × Int} (k:∀ b o,h.get? b=some o→h'.get? b=some o) (a:Head3 h v p):Head3 h' v p:=by
 obtain ⟨a,o,n,t,u,x,e,h1,h2,h3⟩:=a
 exact ⟨a,o,n,t,u,x,e,k _ _ h1,h2,h3⟩
def a0T (p:Int × Int):List (Int ⊕ List Nat):=[.inl p.1,.inl p.2]
noncomputable def a2O (h:Heap) (us:List Value):PyProof.Rows.KeyKind where
 toKeyOrd:=listOrd itemOrd
 keyOf v:=open Classical in if q:∃ p,Head3 h v p∧v∈us then some (a0T q.choose) else none
 dflt:=([]:List (Int ⊕ List Nat))
theorem a2z {h:Heap} {us:List Value} {v:Value} {p:Int × Int} (hv:v∈us) (q:Head3 h v p):(a2O h us).keyOf v=some (a0T p):=by
 have q':∃ p,Head3 h v p∧v∈us:=⟨p,q,hv⟩
 show (open Classical in if q:∃ p,Head3 h v p∧v∈us then some (a0T q.choose) else none)=_
 rw [dif_pos q',q'.choose_spec.1.one q]
theorem a3u {h:Heap} {us:List Value} {v:Value} {k:List (Int ⊕ List Nat)} (e:(a2O h us).keyOf v=some k):∃ p,v∈us∧Head3 h v p∧k=a0T p:=by
 have e:(open Classical in if q:∃ p,Head3 h v p∧v∈us then some (a0T q.choose) else none)=some k:=e
 split at e
 ·rename_i q
  cases e
  exact ⟨_,q.choose_spec.2,q.choose_spec.1,rfl⟩
 ·cases e
section
variable {prog:Program} {w:World} {A:Around} {E:Value→Shared→Prop} {s:Shared}
theorem a3T {l:Addr} {Q:Bool→Shared→Prop} (h:Q true s):wpAny (model prog w) A (eqBool (.ref l) (.ref l)) Q E s:=by
 unfold eqBool
 refine wpAny_holding ?_
 show wpAny _ _ (if (Value.ref l == Value.ref l)=true then _ else _) Q E s
 rw [if_pos (by simp)]
 exact wpAny_bind (wpAny_rule (wpAny_pure h))
theorem a7m {p q:Int × Int} {t u t' u':Tok} {x x':Addr} {b fin:Bool} {Q:Bool→Shared→Prop} (same:p=q→x=x'∧fin=false) (h:Q (lexLt itemOrd (a0T p) (a0T q)) s) :
  PySem.W.KatLex prog w A b fin Q [(.int p.1 t,.int q.1 t'),(.int p.2 u,.int q.2 u'),(.ref x,.ref x')] 0 s:=by
 refine PySem.W.kat_cons (wpAny_eqBool_int ?_)
 refine PySem.W.kat_go (fun e=>PySem.W.kat_yes ?_) (fun e=>PySem.W.kat_no ?_)
 ·have e1:p.1=q.1:=by simpa using e
  refine PySem.W.kat_cons (wpAny_eqBool_int ?_)
  refine PySem.W.kat_go (fun e=>PySem.W.kat_yes ?_) (fun e=>PySem.W.kat_no ?_)
  ·have e2:p.2=q.2:=by simpa using e
   obtain ⟨rfl,rfl⟩:=same (Prod.ext e1 e2)
   have e3:p=q:=Prod.ext e1 e2
   subst e3
   rw [lex_irrefl] at h
   exact PySem.W.kat_cons (a3T (PySem.W.kat_go (fun _=>PySem.W.kat_yes (PySem.W.kat_nil h)) (fun e=>by cases e)))
  ·have e2:¬ p.2=q.2:=by simpa using e
   have e:lexLt itemOrd (a0T p) (a0T q)=decide (p.2 < q.2):=by
    unfold a0T
    rw [e1,lex_self,lex_diff (fun z=>e2 (Sum.inl.inj z))]
    rfl
   rw [e] at h
   exact oneLt_any_int h
 ·have e1:¬ p.1=q.1:=by simpa using e
  have e:lexLt itemOrd (a0T p) (a0T q)=decide (p.1 < q.1):=by
   unfold a0T
   rw [lex_diff (fun z=>e1 (Sum.inl.inj z))]
   rfl
  rw [e] at h
  exact oneLt_any_int h
theorem b3m {h:Heap}:∀ {us:List Value} {ps:List (Int × Int)},PySem.W.EachIs (Head3 h) us ps→∃ fs,PySem.W.KatTups h us fs∧fs.length=us.length∧∀ f∈fs,∃ i t,f=Value.int i t
 | _,_,.nil=>⟨[],PySem.W.KatTups.nil,rfl,fun _ h=>nomatch h⟩
 | _,_,.cons (as:=us) ⟨a,o,n,t,u,x,e,h1,h2,h3⟩ more=>by
  obtain ⟨fs,k1,k2,k3⟩:=b3m more
  subst e
  refine ⟨_ :: fs,PySem.W.KatTups.cons h1 h2 h3 rfl k1,by rw [zaw,k2];rfl,fun f hf=>?_⟩
  rcases zat.mp hf with rfl | hf
  ·exact ⟨_,_,rfl⟩
  ·exact k3 f hf
theorem b2G {us:List Value} {ps:List (Int × Int)} (e:PySem.W.EachIs (Head3 s.heap) us ps) (ne:∀ u∈us,∀ u'∈us,∀ p,Head3 s.heap u p→Head3 s.heap u' p→u=u'):PySem.W.SortsAt prog w A s (a2O s.heap us) us:=by
 refine ⟨fun v hv=>?_,tuples' (Value.type "int" != Value.type "tuple"),?_,fun h2 E Q hq=>?_⟩
 ·obtain ⟨p,_,hp⟩:=e.left v hv
  exact ⟨_,a2z hv hp⟩
 ·intro E x y a b Q ha hb hq
  obtain ⟨p,mx,hx,rfl⟩:=a3u ha
  obtain ⟨q,my,hy,rfl⟩:=a3u hb
  have same:p=q→x=y:=fun e=>ne x mx y my p hx (e ▸ hy)
  obtain ⟨a,o,n,t,u,z,rfl,h1,_,h3⟩:=hx
  obtain ⟨a',o',n',t',u',z',rfl,k1,_,k3⟩:=hy
  refine PySem.W.kat_lt h1 h3 k1 k3 ?_
  refine a7m (fun e=>⟨?_,rfl⟩) hq
  have e:=same e
  cases e
  rw [h1] at k1
  cases k1
  rw [h3] at k3
  injection k3 with k3 _
  have k3:=congrArg Array.toList k3
  simp only [List.cons.injEq,Value.ref.injEq] at k3
  exact k3.2.2.1
 ·obtain ⟨fs,t1,t2,t3⟩:=b3m e
  refine PySem.W.kat_kind (T:=Value.type "int") t1 (by omega) (fun f hf=>?_) (beq_self_eq_true _) hq
  obtain ⟨i,t,rfl⟩:=t3 f hf
  exact PySem.W.looks_reads (Reads.int i t)
end
def leP (p q:Int × Int × List D):Bool:=decide (p.1 < q.1∨p.1=q.1∧p.2.1≤q.2.1)
def a8r (p:Int × Int × List D):D:=.tup [.int p.1,.int p.2.1,.tup p.2.2]
def hd3 (p:Int × Int × List D):Int × Int:=(p.1,p.2.1)
def a2Y (cell:Bool) (xs:List D) (S:SS) (K:DK):Prop:=match xs with
 | [d]=>∃ ps:List (Int × Int × List D),vw S d=.lst (ps.map a8r)∧(ps.map hd3).Nodup∧outL cell ((ps.mergeSort leP).map a8r) S K
 | _=>False
theorem a70 (p q:Int × Int × List D):PySem.W.sortLe (listOrd itemOrd) false (fun p:Int × Int × List D=>a0T (hd3 p)) p q=leP p q:=by
 show (!lexLt itemOrd (a0T (hd3 q)) (a0T (hd3 p)))=leP p q
 unfold leP a0T hd3
 by_cases e1:q.1=p.1
 ·dsimp only
  rw [e1,lex_self]
  by_cases e2:q.2.1=p.2.1
  ·rw [e2,lex_irrefl,zba (.inr ⟨rfl,Int.le_refl _⟩)]
   rfl
  ·rw [lex_diff (fun z=>e2 (Sum.inl.inj z))]
   show (!decide (q.2.1 < p.2.1))=_
   rw [Bool.eq_iff_iff]
   simp
 ·dsimp only
  rw [lex_diff (fun z=>e1 (Sum.inl.inj z))]
  show (!decide (q.1 < p.1))=_
  rw [Bool.eq_iff_iff]
  simp
  omega
theorem a1V {β γ:Type} {R:Value→γ→Prop} (f:β→γ):∀ {vs:List Value} {bs:List β},PySem.W.EachIs (fun v b=>R v (f b)) vs bs→PySem.W.EachIs R vs (bs.map f)
 | _,_,.nil=>.nil
 | _,_,.cons h1 t=>.cons h1 (a1V f t)
theorem a3m {h:Heap}:∀ {us:List Value} {ps:List (Int × Int × List D)},PySem.W.EachIs (fun u p=>Head3 h u (hd3 p)) us ps→(ps.map hd3).Nodup→∀ u∈us,∀ u'∈us,∀ q,Head3 h u q→Head3 h u' q→u=u'
 | _,_,.nil,_,_,hu,_,_,_,_,_=>nomatch hu
 | u0 :: us,p0 :: ps,.cons h0 more,nd,u,hu,u',hu',q,k,k'=>by
  rw [zav,zay] at nd
  have out:∀ v∈us,Head3 h v q→hd3 p0≠q:=fun v hv kv e=>by
   obtain ⟨p1,hp1,k1⟩:=more.left v hv
   have:=k1.one kv
   exact nd.1 (zan.mpr ⟨p1,hp1,this.trans e.symm⟩)
  rcases zat.mp hu with e1 | m1
  ·rcases zat.mp hu' with e2 | m2
   ·rw [e1,e2]
   ·exact absurd (h0.one (e1 ▸ k)) (out u' m2 k')
  ·rcases zat.mp hu' with e2 | m2
   ·exact absurd (h0.one (e2 ▸ k')) (out u m1 k)
   ·exact a3m more nd.2 u m1 u' m2 q k k'
section
variable {X:Cx} {g:Gd}
theorem a8f {S:SS} {H:Hp} {v:V} {p:Int × Int × List D} (r:Rep g S H (a8r p) v):∃ a x,v=.ref a∧SqT g.K H a [.int p.1,.int p.2.1,.ref x]:=by
 obtain ⟨a,vs,rfl,at_,all⟩:=a0s r (show vw S (a8r p)=.tup [.int p.1,.int p.2.1,.tup p.2.2] from rfl)
 simp only [a0c] at all
 obtain ⟨v1,r1,rfl,e1,v2,r2,rfl,e2,v3,r3,rfl,e3,rfl⟩:=all
 simp only [Rep] at e1 e2 e3
 subst e1
 subst e2
 obtain ⟨x,_,rfl,_⟩:=e3
 exact ⟨a,x,rfl,at_⟩
theorem a5F (calm:X.calm=true) (hK:g.K=X.K) (room:X.A.units + 65 < cLine) (cell:Bool):CallR X (.builtin "sorted") (rDc g (a2Y cell)):=by
 rintro pins s σ H vs us Q inv given ⟨xs,S,K,cells,reps,told,res⟩
 unfold a2Y at told
 split at told
 ·rename_i d
  obtain ⟨v,rfl,rep⟩:=one_of reps
  obtain ⟨ps,seen,nd,k⟩:=told
  obtain ⟨a,ws,rfl,seq,all⟩:=a0g cells rep seen
  rw [hK] at seq
  obtain ⟨its,rel,at_its,fits⟩:=inv.list seq
  have lay:∀ (u:Value) (v:V) (p:Int × Int × List D),RelV v u→Rep g S H (a8r p) v→Head3 s.heap u (hd3 p):=fun u v p hu hr=>by
   obtain ⟨a,x,rfl,at_⟩:=a8f hr
   rw [hK] at at_
   obtain ⟨its2,rel2,⟨o,h1,h2,n,h3⟩,_⟩:=inv.tuple at_
   have hu:u=.ref a:=hu
   subst hu
   cases rel2 with
   | cons q1 q2 =>
    cases q2 with
    | cons q2 q3 =>
     cases q3 with
     | cons q3 q4 =>
      cases q4
      obtain ⟨t1,rfl⟩:=q1
      obtain ⟨t2,rfl⟩:=q2
      cases q3
      exact ⟨a,o,n,t1,t2,x,rfl,h1,h2,h3⟩
  have e:PySem.W.EachIs (fun u p=>∃ v,RelV v u∧Rep g S H (a8r p) v) its ps:=PySem.W.each_of_map a8r (a2q rel all)
  have eh:PySem.W.EachIs (fun u p=>Head3 s.heap u (hd3 p)) its ps:=e.mono fun u p ⟨v,h1,h2⟩=>lay u v p h1 h2
  have eh':PySem.W.EachIs (fun u p=>Head3 (PySem.W.sortingHeap (PySem.W.copyHeap s.heap its) (s.heap.objs.size + 1) its) u (hd3 p)) its ps:=eh.mono fun u p h=>h.keep fun _ _=>PySem.W.sorting_copy_old
  have l1:its.length=ps.length:=e.length
  have hk:PySem.W.EachIs (fun v p=>(a2O (PySem.W.sortingHeap (PySem.W.copyHeap s.heap its) (s.heap.objs.size + 1) its) its).keyOf v=some (a0T (hd3 p))) its ps:=PySem.W.EachIs.of_zip l1 fun q hq=>a2z (List.of_mem_zip hq).1 (eh'.zip q hq)
  have so:=PySem.W.sortVals_each (κ:=a2O (PySem.W.sortingHeap (PySem.W.copyHeap s.heap its) (s.heap.objs.size + 1) its) its) (rev:=false) (fun p=>a0T (hd3 p)) e hk
  have el:PySem.W.sortLe (listOrd itemOrd) false (fun p:Int × Int × List D=>a0T (hd3 p))=leP:=funext fun p=>funext fun q=>a70 p q
  have so:PySem.W.EachIs (fun u p=>∃ v,RelV v u∧Rep g S H (a8r p) v) (PySem.W.sortVals (a2O (PySem.W.sortingHeap (PySem.W.copyHeap s.heap its) (s.heap.objs.size + 1) its) its) false its its) (ps.mergeSort leP):=by rw [← el];exact so
  rw [Vals.ref1 given]
  refine PySem.W.sorted_vals (κ:=a2O (PySem.W.sortingHeap (PySem.W.copyHeap s.heap its) (s.heap.objs.size + 1) its) its) at_its.isList (b2G (s:={ s with heap:=PySem.W.sortingHeap (PySem.W.copyHeap s.heap its) (s.heap.objs.size + 1) its }) (ps:=ps.map hd3) (a1V hd3 eh') (a3m eh' nd)) (by have:=rel.length;omega) ?_
  have len:=PySem.W.sortVals_length (κ:=a2O (PySem.W.sortingHeap (PySem.W.copyHeap s.heap its) (s.heap.objs.size + 1) its) its) (ks:=its) (vs:=its) false rfl
  generalize PySem.W.sortVals (a2O (PySem.W.sortingHeap (PySem.W.copyHeap s.heap its) (s.heap.objs.size + 1) its) its) false its its=out at so len ⊢
  obtain ⟨vs2,r1,r2⟩:=a1W (a1V (R:=fun u d=>∃ v,RelV v u∧Rep g S H d v) a8r so)
  obtain ⟨ep,here⟩:=PyProof.Rows.sortedAll_at s.heap its out.toArray
  have few:vs2.length≤sizeLine:=by rw [r1.length,len,rel.length.symm];exact fits
  exact ⟨.ref _,upd H (s.heap.objs.size + 1) (.lst vs2),inv.laid (t':=s.toks) (fun _ _=>PyProof.Rows.sortedAll_old) (Nat.le_succ _) ⟨few,out,ep,r1,here⟩,rfl,res.outL k cells r2 (inv.hok.fresh (Nat.le_succ _))⟩
 ·exact told.elim
end
end Sv
namespace Sv
open PySem PySem.Spec PyProof.Rows L2
theorem a6e {v:Value} {o:Obj} {Hd:Heap→Prop} (B:Begins v o Hd) :
  Meets (Builtin.«enumerate.__new__» ⟨[.type "enumerate",v],[]⟩) (fun _ R s=>Hd s.heap ∧
   R (.ok (.ret (.ref (s.heap.push o).objs.size))) { s with heap:=(s.heap.push o).push { cls:=.type "enumerate",data:=.fields #[.none,.bool false,.ref s.heap.objs.size,rawInt 0,.none,.none] } }) :=
 .of_wp fun prog w A R s ⟨stands,want⟩=>by
  obtain ⟨hp,gen,dr,tk,os⟩:=s
  have below:=sub_enumerate
  have starts:∀ {A':Around} {E Q:Value→Shared→Prop},Q (.ref hp.objs.size) ⟨hp.push o,gen,dr,tk,os⟩→wpAny (model prog w) A' (pyIter v) Q E ⟨hp,gen,dr,tk,os⟩:=fun q=>B.iter prog w _ _ ⟨hp,gen,dr,tk,os⟩ _ stands q
  wp_walk using starts
  refine wpAny_stack_any fun top=>wpAny_pure ?_
  split
  ·rename_i cl _ _ _ _ _
   cases (cl == Value.type "enumerate") <;> (wp_walk using starts) <;> exact ⟨_,rfl,want⟩
  ·wp_walk using starts
   exact ⟨_,rfl,want⟩
section
variable {prog:Program} {w:World} {A:Around} {E:Value→Shared→Prop} {s:Shared}
theorem a6d {v:Value} {o:Obj} {Hd:Heap→Prop} {Q:Value→Shared→Prop} (B:Begins v o Hd) (stands:Hd s.heap)
  (want:∀ h',IsEnum h' (s.heap.objs.size + 1) s.heap.objs.size 0 .none→h'.get? s.heap.objs.size=some o→h'.objs.size=s.heap.objs.size + 2→(∀ b u,s.heap.get? b=some u→h'.get? b=some u)→Q (.ref (s.heap.objs.size + 1)) { s with heap:=h' }) :
  wpAny (model prog w) A (call (.type "enumerate") [v]) Q E s:=by
 have one:(s.heap.push o).objs.size=s.heap.objs.size + 1:=Heap.size_push ..
 have top:=Heap.get?_push_size (s.heap.push o) (o:=⟨.type "enumerate",none,.fields #[.none,.bool false,.ref s.heap.objs.size,rawInt 0,.none,.none],#[]⟩) rfl
 rw [one] at top
 refine callType_new F.called_enumerate (by decide) (F.typeCall_enumerate_1 _) (F.newCall_enumerate_1 _) (fun obj=>F.args_object_init_2 obj _) F.entry_enumerate_new (a6e B) ⟨stands,?_⟩
 refine ⟨?_,?_⟩
 ·rw [one]
  exact ⟨_,top,rfl⟩
 ·rw [one]
  exact want _ top (Heap.get?_push_of_some _ (Heap.get?_push_size _ B.free)) (by rw [Heap.size_push,one]) fun b u x=>Heap.get?_push_of_some _ (Heap.get?_push_of_some _ x)
end
def b4l (K:zbd) (a:Addr):It :=
 ⟨fun i H=>∃ xs x,SqT K H a xs∧xs[i]?=some x,fun i H v H'=>∃ T x,v=.ref T∧H T=none∧H'=upd H T (.tup [.int (i:Nat),x])∧∀ xs,SqT K H a xs→xs[i]?=some x,fun i H=>∃ xs:List V,SqT K H a xs∧xs.length≤i⟩
theorem a2d {h:Heap} {a b:Addr} {o u:Obj} (ha:h.get? a=some o) (hb:h.get? b=some u) (ne:o.cls≠u.cls):a≠b:=fun e=>ne (by rw [e,hb] at ha;cases ha;rfl)
theorem a5H {P:Program} {w:World} {K:zbd} {elts:List Expr} {kk:Nat} {tpos:Pos} (a e it:Addr) :
  Turn P w K (.Tuple elts kk tpos) (b4l K a) [e,it] e (fun i h=>(∃ old,IsEnum h e it ((i:Nat):Int) old)∧h.IsTupleIter it a i) where
 mem:=zal
 obj:=fun i h ⟨⟨old,en⟩,⟨o,at_it,_,dt⟩⟩ b hb=>by
  rcases zat.mp hb with rfl | hb
  ·exact ⟨_,en,nofun⟩
  ·rw [zaj.mp hb]
   exact ⟨o,at_it,fun v q=>by rw [dt] at q;cases q⟩
 keep:=fun i h h' ⟨⟨old,en⟩,walk⟩ k=>⟨⟨old,k e zal _ en⟩,walk.at fun o q=>k it (zao _ zal) o q⟩
 item:=by
  intro X hP hw hK calm i pins s σ H E I free st g
  subst hP hw hK
  obtain ⟨⟨old,en⟩,walk⟩:=st
  obtain ⟨xs,x,seq,at_i⟩:=g
  obtain ⟨its,vals,tup,_⟩:=I.tuple seq
  obtain ⟨oi,gi,ci,_⟩:=id walk
  obtain ⟨oa,ga,ca,_⟩:=id tup
  have ei:e≠it:=a2d en gi (by rw [ci];exact (by decide:Value.type "enumerate" ≠ .type "tuple_iterator"))
  have ea:e≠a:=a2d en ga (by rw [ca];exact (by decide:Value.type "enumerate" ≠ .type "tuple"))
  have ai:a≠it:=a2d ga gi (by rw [ca,ci];decide)
  have inside:i < its.toArray.size:=by
   have l:=vals.length
   have:=(List.getElem?_eq_some_iff.mp at_i).1
   rw [List.size_toArray]
   omega
  have W:=WalksT.enumerateD (prog:=X.prog) (w:=X.w) (A:=X.A) (fp:=[it,a]) (Draws.tuple (A:=X.A.in1) (I.ok.hd calm) it a ai its.toArray) e ei (by simp [ei,ea]) zal
  refine W.item i s _ _ inside ⟨⟨old,en⟩,walk,tup⟩ fun T got h1 tk told young isT mid kept=>?_
  obtain ⟨t0,v,here,rfl⟩:=told
  refine ⟨_,rfl,W.go elts kk tpos i T _ _ _ mid fun h2 st2 kept2=>?_⟩
  obtain ⟨u,hu,ru⟩:=vals.get at_i
  have uv:u=v:=by
   have:its.toArray[i]?=some u:=by simpa using hu
   rw [here] at this
   exact (Option.some.inj this).symm
  subst uv
  obtain ⟨oT,gT,cT,nT,dT⟩:=isT
  have gT2:=kept2 T oT (W.apart i T h1 mid) gT
  have new:ObjOk X.prog X.w (upd H T (.tup [.int (i:Nat),x])) h2 T (.tup [.int (i:Nat),x]):=⟨by show 2≤sizeLine;decide,[.int i t0,u],.cons ⟨_,rfl⟩ (.cons ru .nil),oT,gT2,cT,nT,dT⟩
  have J:=I.turnedNew (t':=tk) (ch:=[e,it]) (fun b o hb q=>kept2 b o hb (kept b o hb q)) free young new
  refine ⟨.ref T,_,J,rfl,⟨T,x,rfl,I.hok.fresh young,rfl,fun ys hy=>by rw [I.tuple_inj hy seq];exact at_i⟩,?_,fun b hb=>?_⟩
  ·obtain ⟨⟨old2,en2⟩,walk2,_⟩:=st2
   exact ⟨⟨old2,en2⟩,walk2⟩
  ·have ne:b≠T:=fun q=>W.apart i T h1 mid (by rw [← q];exact hb)
   rw [upd_ne ne]
   exact (free b hb).1
 done:=by
  intro X hP hw hK calm i pins s σ H E I free st g
  subst hP hw hK
  obtain ⟨⟨old,en⟩,walk⟩:=st
  obtain ⟨xs,seq,past⟩:=g
  obtain ⟨its,vals,tup,_⟩:=I.tuple seq
  obtain ⟨oi,gi,ci,di⟩:=id walk
  obtain ⟨oa,ga,ca,_⟩:=id tup
  have l:=vals.length
  have gone:its.toArray[i]?=none:=by rw [List.getElem?_toArray];exact List.getElem?_eq_none (by omega)
  have over:Draws X.prog X.w X.A.in1 it [it,a] 0 (fun _ _=>False) (fun _ h=>h.IsTupleIter it a i∧h.IsTuple a its.toArray) :=
   {
    live:=fun _ _ ⟨⟨o,q,_⟩,_⟩=>⟨o,q⟩
    frame:=fun _ _ _ st k=>⟨st.1.at fun o q=>k it zal o q,st.2.at fun o q=>k a (zao _ zal) o q⟩
    item:=fun _ _ _ _ none _ _=>absurd none (Nat.not_lt_zero _)
    done:=fun _ _ _ st hE=>wpAny_nextOf_tuple_end (I.ok.hd calm) st.1 st.2 gone hE }
  refine wpAny_pyNext_enum_endD over en ⟨walk,tup⟩ fun h' kept=>⟨rfl,?_⟩
  obtain ⟨f0,f1,f2,f3,f4,f5⟩:=free it (zao _ zal)
  exact I.turned (t':=s.toks) (fun b o hb q=>kept b o hb q) f0 f1 f3 f4 f5
 self:=fun A i s Q E ⟨⟨_,en⟩,_⟩ h=>wpAny_pyIter_enum en h
def b1G (K:zbd) (ta:TA):TI:=fun σ H R=>ta σ H fun vs H1=>∃ a xs,vs=[.ref a]∧SqT K H1 a xs∧R (b4l K a) H1
theorem a8a {X:Cx} {x:Expr} {ta:TA} {p pos tpos:Pos} {elts:List Expr} {kk:Nat} (glob:Gl X "enumerate") (free:X.mg "enumerate" = none) (arg:PA X [x] ta) (plain:starEach [x] X.env=[(false,eval x X.env)]) :
  PI X (.Tuple elts kk tpos) (.Call (.Name "enumerate" p) [x] [] pos) (b1G X.K ta):=by
 refine ⟨fun pins s σ H R I h=>?_⟩
 refine Call_ (ld_blt I glob free boot_enumerate (callWith_type1 (thn (arg.run pos pins s σ H _ I h) fun us s1 ⟨vs,H1,I1,like,want⟩=>?_) plain rfl))
 obtain ⟨a,xs,rfl,seq,want⟩:=want
 cases like with
 | cons one rest =>
  cases rest
  cases one
  obtain ⟨its,vals,tup,_⟩:=I1.tuple seq
  refine a6d (begins_tuple a its.toArray) tup fun h' en at_it _ kept=>wpAny_pyIter_enum en ?_
  refine ⟨_,[s1.heap.objs.size + 1,s1.heap.objs.size],_,_,H1,rfl,I1.kept (t':=s1.toks) kept,a5H a (s1.heap.objs.size + 1) s1.heap.objs.size,⟨⟨.none,en⟩,⟨_,at_it,rfl,rfl⟩⟩,fun b hb=>?_,want⟩
  have late:s1.heap.objs.size≤b:=by
   rcases zat.mp hb with rfl | hb
   ·exact Nat.le_add_right _ _
   ·exact Nat.le_of_eq (zaj.mp hb).symm
  exact I1.fpOk late (I1.hok.fresh late)
end Sv
namespace Sv
open PySem PySem.Spec PyProof.Rows L2
def SqB (K:zbd):Bool→Hp→Addr→List V→Prop
 | true=>SqT K
 | false=>SqL K
def IsB:Bool→Heap→Addr→Array Value→Prop
 | true=>Heap.IsTuple
 | false=>Heap.IsList
def ItB:Bool→Heap→Addr→Addr→Nat→Prop
 | true=>Heap.IsTupleIter
 | false=>Heap.IsListIter
def b7W:Bool→Addr→Obj
 | true,a=>{ cls:=.type "tuple_iterator",data:=.fields #[.ref a,.int 0 0] }
 | false,a=>{ cls:=.type "list_iterator",data:=.fields #[.ref a,.int 0 0] }
theorem b7J (t:Bool) (a:Addr) (its:Array Value):Begins (.ref a) (b7W t a) fun h=>IsB t h a its:=by
 cases t
 ·exact begins_list a its
 ·exact begins_tuple a its
theorem b7P {t:Bool} {h:Heap} {it a:Addr} (e:h.get? it=some (b7W t a)):ItB t h it a 0:=by
 cases t <;> exact ⟨_,e,rfl,rfl⟩
theorem ItB.at_ {t:Bool} {h h':Heap} {it a:Addr} {i:Nat} (x:ItB t h it a i) (k:∀ o,h.get? it=some o→h'.get? it=some o):ItB t h' it a i:=by
 cases t
 ·exact Heap.IsListIter.at x k
 ·exact Heap.IsTupleIter.at x k
theorem ItB.obj {t:Bool} {h:Heap} {it a:Addr} {i:Nat} (x:ItB t h it a i):∃ o,h.get? it=some o∧∀ v,o.data≠.cell v:=by
 cases t <;> (obtain ⟨o,e,_,d⟩:=x;exact ⟨o,e,fun v q=>by rw [d] at q;cases q⟩)
theorem a4B {prog:Program} {w:World} {A:Around} (t:Bool) (hh:A.handled=none) (it a:Addr) (ne:a≠it) (its:Array Value) (i:Nat) :
  Draws prog w A it [it,a] (its.size - i) (fun j v=>its[i + j]?=some v) (fun j h=>ItB t h it a (i + j)∧IsB t h a its):=by
 cases t
 ·exact {
   live:=fun _ _ st=>let ⟨o,ho,_⟩:=st.1;⟨o,ho⟩
   frame:=fun _ _ _ st hk=>⟨Heap.IsListIter.at st.1 fun o e=>hk it (by simp) o e,Heap.IsList.at st.2 fun o e=>hk a (by simp) o e⟩
   item:=fun j s Q E hj st hQ=>by
    have hi:i + j < its.size:=by omega
    refine wpAny_nextOf_list_item st.1 st.2 (x:=its[i + j]) (by simp [hi]) fun h' hit' hs'=>?_
    exact hQ _ h' s.toks (by simp [hi]) ⟨hit',Heap.IsList.extBut st.2 hs'.extBut ne⟩ hs'
   done:=fun s Q E st hE=>wpAny_nextOf_list_end hh st.1 st.2 (Array.getElem?_eq_none (by omega)) hE }
 ·exact {
   live:=fun _ _ st=>let ⟨o,ho,_⟩:=st.1;⟨o,ho⟩
   frame:=fun _ _ _ st hk=>⟨Heap.IsTupleIter.at st.1 fun o e=>hk it (by simp) o e,Heap.IsTuple.at st.2 fun o e=>hk a (by simp) o e⟩
   item:=fun j s Q E hj st hQ=>by
    have hi:i + j < its.size:=by omega
    refine wpAny_nextOf_tuple_item st.1 st.2 (x:=its[i + j]) (by simp [hi]) fun h' hit' hs'=>?_
    exact hQ _ h' s.toks (by simp [hi]) ⟨hit',Heap.IsTuple.extBut st.2 hs'.extBut ne⟩ hs'
   done:=fun s Q E st hE=>wpAny_nextOf_tuple_end hh st.1 st.2 (Array.getElem?_eq_none (by omega)) hE }
theorem b0n {X:Cx} {pins:List (Addr × Obj)} {σ:L2.St} {H:Hp} {s:Shared} (I:Inv X pins σ H s) (t:Bool) {a:Addr} {xs:List V} (h:SqB X.K t H a xs):∃ its:List Value,Vals xs its∧IsB t s.heap a its.toArray:=by
 cases t
 ·obtain ⟨its,rv,p,_⟩:=I.list h
  exact ⟨its,rv,p.isList⟩
 ·obtain ⟨its,rv,p,_⟩:=I.tuple h
  exact ⟨its,rv,p⟩
theorem b7O {X:Cx} {pins:List (Addr × Obj)} {σ:L2.St} {H:Hp} {s:Shared} (I:Inv X pins σ H s) {t:Bool} {a:Addr} {xs ys:List V} (h:SqB X.K t H a xs) (h':SqB X.K t H a ys):xs=ys:=by
 cases t
 ·exact I.list_inj h h'
 ·exact I.tuple_inj h h'
theorem a8G {N d:Addr} (h:d < N):∀ c∈([N + 4,N + 2,N + 3,N,N + 1]:List Addr),c≠d:=fun c hc e=>by
 have e':c=N + 4∨c=N + 2∨c=N + 3∨c=N∨c=N + 1:=by simpa using hc
 have lo:N≤c:=by
  rcases e' with z | z | z | z | z
  ·rw [z];exact Nat.le_add_right _ _
  ·rw [z];exact Nat.le_add_right _ _
  ·rw [z];exact Nat.le_add_right _ _
  ·rw [z];exact Nat.le_refl _
  ·rw [z];exact Nat.le_add_right _ _
 exact absurd (Nat.lt_of_lt_of_le h lo) (by rw [e];exact Nat.lt_irrefl _)
theorem ltB {t:Bool} {h:Heap} {a:Addr} {its:Array Value} (x:IsB t h a its):a < h.objs.size:=by
 cases t <;> (obtain ⟨o,e,_⟩:=x;exact Heap.lt_size e)
def b4m (K:zbd) (t1:Bool) (a:Addr) (t2:Bool) (b:Addr):It :=
 ⟨fun i H=>∃ (xs ys:List V) (x y:V),SqB K t1 H a xs∧SqB K t2 H b ys∧xs[i]?=some x∧ys[i]?=some y,
  fun i H v H'=>∃ T x y,v=.ref T∧H T=none∧H'=upd H T (.tup [x,y])∧(∀ xs,SqB K t1 H a xs→xs[i]?=some x)∧∀ ys,SqB K t2 H b ys→ys[i]?=some y,
  fun i H=>∃ xs ys:List V,SqB K t1 H a xs∧SqB K t2 H b ys∧(xs.length≤i∨ys.length≤i)⟩
theorem b8h {N a b:Addr} (ha:∀ c∈([N + 4,N + 2,N + 3,N,N + 1]:List Addr),c≠a) (hb:∀ c∈([N + 4,N + 2,N + 3,N,N + 1]:List Addr),c≠b):ZipSep2 (N + 4) (N + 2) (N + 3) N (N + 1) [N,a] [N + 1,b]:=by
 have q:∀ {i j:Nat},i≠j→(N + i:Addr)≠(N + j:Addr):=fun {i j} h e=>h (Nat.add_left_cancel e)
 have q0:∀ {i:Nat},i≠0→(N + i:Addr)≠N:=fun {i} h e=>h (Nat.add_left_cancel (e.trans (Nat.add_zero N).symm))
 have no:∀ {c x y:Addr},c≠x→c≠y→c∉([x,y]:List Addr):=fun h1 h2 h=>by
  rcases zat.mp h with e | h
  ·exact h1 e
  ·exact h2 (zaj.mp h)
 exact {
  TIz:=q (by decide),TOz:=q (by decide),TITO:=q (by decide),TIi1:=q0 (by decide),mem1:=zal
  zf1:=no (q0 (by decide)) (ha _ (by simp)),Tf1:=no (q0 (by decide)) (ha _ (by simp)),TIi2:=q (by decide),mem2:=zal
  zf2:=no (q (by decide)) (hb _ (by simp)),Tf2:=no (q (by decide)) (hb _ (by simp))
  sep1_2:=no (q0 (by decide)).symm (hb _ (by simp)),sep2_1:=no (q0 (by decide)) (ha _ (by simp)) }
theorem a7p {P:Program} {w:World} {K:zbd} {elts:List Expr} {kk:Nat} {tpos:Pos} (t1 t2:Bool) {a b N:Addr} (la:a < N) (lb:b < N) :
  Turn P w K (.Tuple elts kk tpos) (b4m K t1 a t2 b) [N + 4,N + 2,N + 3,N,N + 1] (N + 4) (fun i h=>IsZip h (N + 4) (N + 2) (N + 3) .none∧IsTupOf2 h (N + 2) (.ref N) (.ref (N + 1))∧(∃ x y,IsTupOf2 h (N + 3) x y)∧ItB t1 h N a i∧ItB t2 h (N + 1) b i) where
 mem:=by simp
 obj:=fun i h st c hc=>by
  obtain ⟨hz,hTI,⟨x,y,hTO⟩,h1,h2⟩:=st
  have e':c=N + 4∨c=N + 2∨c=N + 3∨c=N∨c=N + 1:=by simpa using hc
  rcases e' with q | q | q | q | q
  ·rw [q];exact ⟨_,hz,fun v q=>nomatch q⟩
  ·rw [q];exact ⟨_,hTI,fun v q=>nomatch q⟩
  ·rw [q];exact ⟨_,hTO,fun v q=>nomatch q⟩
  ·rw [q];exact h1.obj
  ·rw [q];exact h2.obj
 keep:=fun i h h' st k=>by
  obtain ⟨hz,hTI,⟨x,y,hTO⟩,h1,h2⟩:=st
  exact ⟨k _ (by simp) _ hz,k _ (by simp) _ hTI,⟨x,y,k _ (by simp) _ hTO⟩,h1.at_ fun o q=>k N (by simp) o q,h2.at_ fun o q=>k (N + 1) (by simp) o q⟩
 item:=by
  intro X hP hw hK hc i pins s σ H E I hf st hg
  subst hP hw hK
  obtain ⟨hz,hTI,⟨x0,y0,hTO⟩,h1,h2⟩:=st
  obtain ⟨xs,ys,x,y,hqx,hqy,hx,hy⟩:=hg
  obtain ⟨its,rv,p⟩:=b0n I t1 hqx
  obtain ⟨its2,rv2,p2⟩:=b0n I t2 hqy
  obtain ⟨u,hu,ru⟩:=rv.get hx
  obtain ⟨u2,hu2,ru2⟩:=rv2.get hy
  have S:=b8h (a8G la) (a8G lb)
  have n1:i < its.length:=(List.getElem?_eq_some_iff.mp hu).1
  have n2:i < its2.length:=(List.getElem?_eq_some_iff.mp hu2).1
  have hzl:N + 4 < s.heap.objs.size:=Heap.lt_size hz
  refine wpAny_pyNext_zipD2_item (i:=0) S (a4B (prog:=X.prog) (w:=X.w) (A:=X.A.in1) t1 (I.ok.hd hc) N a (a8G la N (by simp)).symm its.toArray i) (a4B (prog:=X.prog) (w:=X.w) (A:=X.A.in1) t2 (I.ok.hd hc) (N + 1) b (a8G lb (N + 1) (by simp)).symm its2.toArray i) hz hTI hTO ⟨h1,p⟩ ⟨h2,p2⟩ (by rw [List.size_toArray];omega) (by rw [List.size_toArray];omega) fun v1 v2 h' tk p1 p2 z' TO' s1 s2 hT hsz hk=>?_
  have e1:v1=u:=by
   have p1:its.toArray[i + 0]?=some v1:=p1
   rw [Nat.add_zero,List.getElem?_toArray,hu] at p1
   exact (Option.some.inj p1).symm
  have e2:v2=u2:=by
   have p2:its2.toArray[i + 0]?=some v2:=p2
   rw [Nat.add_zero,List.getElem?_toArray,hu2] at p2
   exact (Option.some.inj p2).symm
  subst e1 e2
  refine ⟨_,rfl,wpAny_letOwnedTupleGo_zip (s:={ s with heap:=h',toks:=tk }) z' fun h'' z'' sb=>?_⟩
  have hT2:h''.get? s.heap.objs.size=some { cls:=.type "tuple",data:=.seq #[v1,v2] }:=(sb.2 _ (Nat.ne_of_gt hzl)).trans hT
  have new:ObjOk X.prog X.w (upd H s.heap.objs.size (.tup [x,y])) h'' s.heap.objs.size (.tup [x,y]) :=
   ⟨by show 2≤sizeLine;decide,[v1,v2],.cons ru (.cons ru2 .nil),⟨_,hT2,rfl,_,rfl⟩⟩
  have I1:Inv X pins σ (upd H s.heap.objs.size (.tup [x,y])) { s with heap:=h'',toks:=tk } :=
   I.turnedNew (t':=tk) (ch:=[N + 4,N + 2,N + 3,N,N + 1]) (fun c o hb q=>(sb.2 c (fun q'=>hb (by simp [q']))).trans (hk c o (fun q'=>hb (by simp [q'])) (fun q'=>hb (by simp [q'])) (fun q'=>hb (by simp [q'])) (fun q'=>hb (by simp [q'])) q)) hf (Nat.le_refl _) new
  refine ⟨.ref s.heap.objs.size,_,I1,rfl,⟨_,x,y,rfl,I.hok.fresh (Nat.le_refl _),rfl,fun l hl=>by rw [b7O I hl hqx];exact hx,fun l hl=>by rw [b7O I hl hqy];exact hy⟩,⟨z'',?_,⟨v1,v2,?_⟩,?_,?_⟩,fun c hcm=>?_⟩
  ·exact (sb.2 _ S.TIz).trans (hk _ _ S.TIz S.TITO S.TIi1 S.TIi2 hTI)
  ·exact (sb.2 _ S.TOz).trans TO'
  ·exact ItB.at_ s1.1 fun o q=>(sb.2 _ S.zi1.symm).trans q
  ·exact ItB.at_ s2.1 fun o q=>(sb.2 _ S.zi2.symm).trans q
  ·have hlt:c < s.heap.objs.size:=by
    have e':c=N + 4∨c=N + 2∨c=N + 3∨c=N∨c=N + 1:=by simpa using hcm
    rcases e' with q | q | q | q | q
    ·rw [q];exact hzl
    ·rw [q];exact Heap.lt_size hTI
    ·rw [q];exact Heap.lt_size hTO
    ·rw [q];obtain ⟨_,e1,_⟩:=h1.obj;exact Heap.lt_size e1
    ·rw [q];obtain ⟨_,e2,_⟩:=h2.obj;exact Heap.lt_size e2
   rw [upd_ne (Nat.ne_of_lt hlt)]
   exact (hf c hcm).1
 done:=by
  intro X hP hw hK hc i pins s σ H E I hf st hg
  subst hP hw hK
  obtain ⟨hz,hTI,⟨x0,y0,hTO⟩,h1,h2⟩:=st
  obtain ⟨xs,ys,hqx,hqy,hend⟩:=hg
  obtain ⟨its,rv,p⟩:=b0n I t1 hqx
  obtain ⟨its2,rv2,p2⟩:=b0n I t2 hqy
  have l1:=rv.length
  have l2:=rv2.length
  have S:=b8h (a8G la) (a8G lb)
  refine wpAny_pyNext_zipD2_end (i:=0) S (a4B (prog:=X.prog) (w:=X.w) (A:=X.A.in1) t1 (I.ok.hd hc) N a (a8G la N (by simp)).symm its.toArray i) (a4B (prog:=X.prog) (w:=X.w) (A:=X.A.in1) t2 (I.ok.hd hc) (N + 1) b (a8G lb (N + 1) (by simp)).symm its2.toArray i) hz hTI hTO ⟨h1,p⟩ ⟨h2,p2⟩ (Nat.zero_le _) (Nat.zero_le _) (by rw [List.size_toArray,List.size_toArray];omega) fun h' tk hk=>⟨rfl,I.turnedL (t':=tk) (ch:=[N + 4,N + 2,N + 3,N,N + 1]) (fun c o hb q =>
   hk c o (fun q'=>hb (by simp [q'])) (fun q'=>hb (by simp [q'])) (fun q'=>hb (by simp [q'])) (fun q'=>hb (by simp [q'])) q) hf⟩
 self:=fun A i s Q E st h=>wpAny_pyIter_zip st.1 h
def b5l (K:zbd) (t1 t2:Bool) (ta:TA):TI:=fun σ H R=>ta σ H fun vs H1=>∃ a b xs ys,vs=[.ref a,.ref b]∧SqB K t1 H1 a xs∧SqB K t2 H1 b ys∧R (b4m K t1 a t2 b) H1
theorem a92 {X:Cx} {e e2:Expr} {ta:TA} {p pos tpos:Pos} {elts:List Expr} {kk:Nat} (t1 t2:Bool) (hg:Gl X "zip") (hm:X.mg "zip" = none) (ha:PA X [e,e2] ta)
  (hs:starEach [e,e2] X.env=(false,eval e X.env) :: starEach [e2] X.env) (hpl:(backTo pos (starEach [e2] X.env)).any (·.1)=false) :
  PI X (.Tuple elts kk tpos) (.Call (.Name "zip" p) [e,e2] [] pos) (b5l X.K t1 t2 ta):=by
 refine ⟨fun pins s σ H R I h=>?_⟩
 refine Call_ (ld_blt I hg hm PyProof.Rows.boot_zip (PyProof.Rows.callWith_type1 (thn (ha.run pos pins s σ H _ I h) fun us s1 ⟨vs,H1,I1,r1,q1⟩=>?_) hs hpl))
 obtain ⟨a,b,xs,ys,ex,hqx,hqy,q⟩:=q1
 subst ex
 cases r1 with
 | cons r rr =>
  cases rr with
  | cons r' rr =>
   cases rr
   cases r
   cases r'
   obtain ⟨its,rv,p1⟩:=b0n I1 t1 hqx
   obtain ⟨its2,rv2,p2⟩:=b0n I1 t2 hqy
   refine zip_begins2 (b7J t1 a its.toArray) (b7J t2 b its2.toArray) p1 p2 fun h' hz hTI hTO h1 h2 hsz hk=>wpAny_pyIter_zip hz ?_
   have I2:Inv X pins σ H1 { s1 with heap:=h' }:=I1.kept (t':=s1.toks) hk
   refine ⟨s1.heap.objs.size + 4,[s1.heap.objs.size + 4,s1.heap.objs.size + 2,s1.heap.objs.size + 3,s1.heap.objs.size,s1.heap.objs.size + 1],_,_,H1,rfl,I2,a7p t1 t2 (ltB p1) (ltB p2),⟨hz,hTI,⟨_,_,hTO⟩,b7P h1,b7P h2⟩,fun c hcm=>?_,q⟩
   have e':c=s1.heap.objs.size + 4∨c=s1.heap.objs.size + 2∨c=s1.heap.objs.size + 3∨c=s1.heap.objs.size∨c=s1.heap.objs.size + 1:=by simpa using hcm
   have hle:s1.heap.objs.size≤c:=by
    rcases e' with z | z | z | z | z
    ·rw [z];exact Nat.le_add_right _ _
    ·rw [z];exact Nat.le_add_right _ _
    ·rw [z];exact Nat.le_add_right _ _
    ·rw [z];exact Nat.le_refl _
    ·rw [z];exact Nat.le_add_right _ _
   exact I1.fpOk hle (I1.hok.fresh hle)
end Sv
namespace Sv
open PySem PySem.Spec PyProof.Rows L2
open L2H (RoomH)
abbrev XK':=Addr→List (Str × D)→SS→Prop
abbrev XD':=Addr→List (Str × D)→DS→SS→Prop
abbrev TR:=Option (Addr × Obj)→List D→SS→DK→XK'→Prop
structure SE where
 nx:DS→SS→Prop
 rt:DK
 bk:DS→SS→Prop
 ct:DS→SS→Prop
def XDk (g:Gd) (S:SS) (H:Hp) (d:Option Addr) (fs:List (Str × D)):Prop:=(d=none∧fs=[])∨∃ dd ws,d=some dd∧S dd=none∧H dd=some (.xd ws)∧a1c g S H fs ws
def b3u (g:Gd) (S:SS) (H:Hp) (Y:XK') (E:XK):Prop:=∀ C fs S' d H',Y C fs S'→a0a S H S' H'→CellsOk g S' H'→XDk g S' H' d fs→E (.ref C) d H'
def spD (g:Gd) (T:TR):SpM:=fun m vs H Q E=>∃ ds S K Y,CellsOk g S H∧a0c g S H ds vs∧T m ds S K Y∧Res g S H K Q∧b3u g S H Y E
def a3L (g:Gd) (S:SS) (H:Hp) (Y:XD') (W:WX):Prop:=∀ C fs δ' S' d σ' H',Y C fs δ' S'→a0a S H S' H'→Rel g S' H' δ' σ'→XDk g S' H' d fs→W (.ref C) d σ' H'
structure b0A (g:Gd) (S:SS) (H:Hp) (F:SE) (D:Ends):Prop where
 nx:∀ δ' S' σ' H',F.nx δ' S'→a0a S H S' H'→Rel g S' H' δ' σ'→D.nx σ' H'
 rt:Res g S H F.rt D.rt
 bk:∀ δ' S' σ' H',F.bk δ' S'→a0a S H S' H'→Rel g S' H' δ' σ'→D.bk σ' H'
 ct:∀ δ' S' σ' H',F.ct δ' S'→a0a S H S' H'→Rel g S' H' δ' σ'→D.ct σ' H'
structure a5N (g:Gd) (S1:SS) (H1:Hp) (J:It) (ds:List D) (ok:SS→Prop):Prop where
 go:∀ i S H,i < ds.length→a0a S1 H1 S H→CellsOk g S H→ok S→J.go i H
 yl:∀ i S H x H' d,ds[i]?=some d→a0a S1 H1 S H→CellsOk g S H→ok S→J.yld i H x H'→a0a S H S H'∧CellsOk g S H'∧Rep g S H' d x
 st:∀ i S H,ds.length≤i→a0a S1 H1 S H→CellsOk g S H→ok S→J.stop i H
abbrev RdE:=DS→SS→XD'→DK→Prop
abbrev RdT:=DS→SS→XD'→(Bool→SS→Prop)→Prop
abbrev RdL:=DS→SS→XD'→(List D→SS→Prop)→Prop
abbrev RdI:=DS→SS→XD'→(List D→(SS→Prop)→SS→Prop)→Prop
abbrev RdS:=DS→SS→XD'→SE→Prop
section
variable (g:Gd) (W:WX)
def LE (t:RdE):TE:=fun σ H Q=>∃ δ S Y K,Rel g S H δ σ∧t δ S Y K∧Res g S H K Q∧a3L g S H Y W
def LT (t:RdT):TT:=fun σ H Q=>∃ δ S Y K,Rel g S H δ σ∧t δ S Y K∧(∀ b S' H',K b S'→a0a S H S' H'→CellsOk g S' H'→Q b H')∧a3L g S H Y W
def LA (t:RdL):TA:=fun σ H Q=>∃ δ S Y K,Rel g S H δ σ∧t δ S Y K∧(∀ ds S' vs H',K ds S'→a0a S H S' H'→CellsOk g S' H'→a0c g S' H' ds vs→Q vs H')∧a3L g S H Y W
def LI (t:RdI):TI:=fun σ H R=>∃ δ S Y K,Rel g S H δ σ∧t δ S Y K∧(∀ ds ok S' H' J,K ds ok S'→a0a S H S' H'→CellsOk g S' H'→a5N g S' H' J ds ok→R J H')∧a3L g S H Y W
def LS (t:RdS):TS:=fun D σ H=>∃ δ S Y F,Rel g S H δ σ∧t δ S Y F∧b0A g S H F D∧a3L g S H Y W
end
section
variable {g:Gd} {W:WX} {S S1 S':SS} {H H1 H':Hp} {δ:DS} {σ:L2.St}
theorem Rel.mono (P:a0a S H S' H') (c:CellsOk g S' H') (h:Rel g S H δ σ):Rel g S' H' δ σ:=⟨h.sl.mono P,c⟩
theorem XDk.mono {d:Option Addr} {fs:List (Str × D)} (P:a0a S H S' H') (h:XDk g S H d fs):XDk g S' H' d fs:=by
 rcases h with h | ⟨dd,ws,e,n,q,r⟩
 ·exact .inl h
 ·exact .inr ⟨dd,ws,e,P.none_of n q,P.kp _ _ n q,r.mono P⟩
theorem Res.mono {K:DK} {Q:VK} (P:a0a S H S1 H1) (h:Res g S H K Q):Res g S1 H1 K Q:=fun d S' v H' k p c r=>h d S' v H' k (P.trans p) c r
theorem b3u.mono {Y:XK'} {E:XK} (P:a0a S H S1 H1) (h:b3u g S H Y E):b3u g S1 H1 Y E:=fun C fs S' d H' y p c x=>h C fs S' d H' y (P.trans p) c x
theorem a3L.mono {Y:XD'} (P:a0a S H S1 H1) (h:a3L g S H Y W):a3L g S1 H1 Y W:=fun C fs δ' S' d σ' H' y p c x=>h C fs δ' S' d σ' H' y (P.trans p) c x
theorem b0A.mono {F:SE} {D:Ends} (P:a0a S H S1 H1) (h:b0A g S H F D):b0A g S1 H1 F D :=
 ⟨fun δ' S' σ' H' y p c=>h.nx δ' S' σ' H' y (P.trans p) c,h.rt.mono P,fun δ' S' σ' H' y p c=>h.bk δ' S' σ' H' y (P.trans p) c,fun δ' S' σ' H' y p c=>h.ct δ' S' σ' H' y (P.trans p) c⟩
end
section
variable {X:Cx} {e:Expr}
theorem PE.imp {t t':TE} (h:PE X e t) (w:∀ σ H Q,t' σ H Q→t σ H Q):PE X e t':=⟨fun pins s σ H Q I q=>h.run pins s σ H Q I (w σ H Q q)⟩
theorem PT.imp {t t':TT} (h:PT X e t) (w:∀ σ H Q,t' σ H Q→t σ H Q):PT X e t':=⟨fun pins s σ H Q I q=>h.run pins s σ H Q I (w σ H Q q)⟩
theorem PW.imp {t t':TT} (h:PW X e t) (w:∀ σ H Q,t' σ H Q→t σ H Q):PW X e t':=⟨fun whole pins s σ H Q I q=>h.run whole pins s σ H Q I (w σ H Q q)⟩
theorem PA.imp {es:List Expr} {t t':TA} (h:PA X es t) (w:∀ σ H Q,t' σ H Q→t σ H Q):PA X es t':=⟨fun pos pins s σ H Q I q=>h.run pos pins s σ H Q I (w σ H Q q)⟩
theorem PI.imp {tg:Expr} {t t':TI} (h:PI X tg e t) (w:∀ σ H Q,t' σ H Q→t σ H Q):PI X tg e t':=⟨fun pins s σ H Q I q=>h.run pins s σ H Q I (w σ H Q q)⟩
theorem PS.imp {st:Stmt} {t t':TS} (h:PS X st t) (w:∀ D σ H,t' D σ H→t D σ H):PS X st t':=⟨fun pins s σ H D I q=>h.run pins s σ H D I (w D σ H q)⟩
theorem PSs.imp {st:List Stmt} {t t':TS} (h:PSs X st t) (w:∀ D σ H,t' D σ H→t D σ H):PSs X st t':=⟨fun pins s σ H D I q=>h.run pins s σ H D I (w D σ H q)⟩
end
inductive RC where
 | non | bl (b:Bool) | int (i:Int) | str (x:Str)
def RC.d:RC→D
 | .non=>.non | .bl b=>.bl b | .int i=>.int i | .str x=>.str x
inductive Bn where
 | len | abs | max | min | rpr | int | tup | lst (cell:Bool) | srt (cell:Bool) | dic (cell:Bool) | dcp (cell:Bool) | all | sum | str | lsk (cell:Bool) | lss (cell:Bool) | mnl | srl (cell:Bool) | srp (cell:Bool)
def Bn.nm:Bn→Str
 | .len => "len" | .abs => "abs" | .max => "max" | .min => "min" | .rpr => "repr" | .int => "int" | .tup => "tuple" | .lst _ => "list" | .srt _ => "sorted" | .dic _ => "dict" | .dcp _ => "dict" | .all => "all" | .sum => "sum" | .str => "str" | .lsk _ => "list" | .lss _ => "list" | .mnl => "min" | .srl _ => "sorted" | .srp _ => "sorted"
def Bn.den:Bn→List D→SS→DK→Prop
 | .len=>b5v | .abs=>b4p | .max=>maxD | .min=>minD | .rpr=>a8g | .int=>intD | .tup=>a7o | .lst cell=>a9A cell | .srt cell=>a4k cell | .dic cell=>a9c cell | .dcp cell=>a5Z cell | .all=>b4u | .sum=>b7m | .str=>b7l | .lsk cell=>a6E cell | .lss cell=>a6F cell | .mnl=>a9E | .srl cell=>a2X cell | .srp cell=>a2Y cell
def Bn.needs (m0:Option (Addr × Obj)):Bn→Prop
 | .len=>True | .abs=>True | .max=>m0=none | .min=>m0=none | .rpr=>True | .int=>True | .tup=>True | .lst _=>True | .srt _=>m0=none | .dic _=>True | .dcp _=>m0=none | .all=>m0=none | .sum=>m0=none | .str=>True | .lsk _=>m0=none | .lss _=>m0=none | .mnl=>m0=none | .srl _=>m0=none | .srp _=>m0=none
inductive Mn where
 | join | upper | app | ins | pop | clr | cnt | dpop | upd | dget | dset | dpop2 | idx | spl | rem | ext
def Mn.nm:Mn→Str
 | .join => "join" | .upper => "upper" | .app => "append" | .ins => "insert" | .pop => "pop" | .clr => "clear" | .cnt => "count" | .dpop => "pop" | .upd => "update" | .dget => "get" | .dset => "setdefault" | .dpop2 => "pop" | .idx => "index" | .spl => "split" | .rem => "remove" | .ext => "extend"
def Mn.den:Mn→D→List D→SS→DK→Prop
 | .join=>a9w | .upper=>a7q | .app=>b4v | .ins=>b5q | .pop=>b5L | .clr=>a5X | .cnt=>b4O | .dpop=>a9e | .upd=>b7A | .dget=>a9a | .dset=>a9g | .dpop2=>a6a | .idx=>b5p | .spl=>a7k | .rem=>b5Q | .ext=>b5h
def a3s (x:D):Prop:=∃ z,x=.str z
def a1q (x:D) (S:SS):Prop:=∃ ds,vw S x=.lst ds
def a3q (x:D) (S:SS):Prop:=∃ p kvs,x=.obj p∧S p=some (.dic kvs)
def Mn.rc:Mn→D→SS→Prop
 | .join=>fun x _=>a3s x | .upper=>fun x _=>a3s x
 | .app=>a1q | .ins=>a1q | .pop=>a1q | .clr=>a1q | .cnt=>a1q | .dpop=>a3q | .upd=>a3q | .dget=>a8C | .dset=>a3q | .dpop2=>a3q | .idx=>a1q | .spl=>fun x _=>a3s x | .rem=>a1q | .ext=>a1q
inductive En where
 | fn (x:Str) | mt (C m:Str)
 deriving DecidableEq
inductive Cn where
 | ty (n:String) | own (j:Nat)
mutual
inductive RE where
 | var (i:Nat) | con (c:RC) | glb (j:Nat)
 | bin (op:Operator) (a b:RE) | neg (a:RE) | nt (a:RE)
 | and (es:RL) | or (es:RL) | ife (c a b:RE)
 | cmp (op:CmpOp) (a b:RE) | chn (o1 o2:CmpOp) (a b c:RE)
 | lst (cell:Bool) (es:RL) | tup (es:RL)
 | ix (a b:RE) | sl (a:RE) (lo hi:RO) | fld (a:RE) (f:Str)
 | call (j:Nat) (es:RL) | bi (b:Bn) (es:RL) | isi (a:RE) (c:Cn) | ist (a:RE) (js:List Nat) | mkx (j:Nat) | rpx (a:RE)
 | lc (cell:Bool) (elt:RE) (tg:List Nat) (one:Bool) (it:RI) (c:RO) (own:List (Str × Nat))
 | dct (cell:Bool) (ps:RQ) | mth (b:Mn) (a:RE) (es:RL) | om (j:Nat) (m:Str) (a:RE) (es:RL) | mk (j:Nat) (es:RL)
 | lck (e:RE) | fz (e:RE) | vls (cell:Bool) (a:RE) | ofs (srt:Bool) (a:RE) | rev (cell:Bool) (a:RE) | sl2 (k:Nat) (a:RE) | kin (neg:Bool) (j:Nat) (a:RE) | kix (j:Nat) (a:RE) | adc (a b:RE) | slc (a:RE) (lo hi:RO) | ofi (a:RE) | fzt (k:Nat) (e:RE) | nev
inductive RO where
 | nn | ss (e:RE)
inductive RL where
 | nil | cons (e:RE) (es:RL)
inductive RQ where
 | nil | cons (k v:RE) (r:RQ)
inductive RI where
 | lst (e:RE) | tup (e:RE) | rng1 (a:RE) | rng2 (a b:RE) | str (e:RE) | keys (e:RE) | enum (e:RE) | items (e:RE) | enumt (e:RE) | zip (t1 t2:Bool) (a b:RE)
end
def RI.two:RI→Bool
 | .enum _=>true | .items _=>true | .enumt _=>true | .zip _ _ _ _=>true | _=>false
structure SN where
 N:List Str
 fns:List En
 cls:List Str
 gvs:List Str
structure Gm extends Gd where
 m0:Option (Addr × Obj)
 fn:Bool→Nat→Option TR
 gv:Nat→D
 cl:Nat→Addr
 mc:Nat→Addr
 kd:Nat→Option (List (Key × D))
def Cn.val (G:Gm):Cn→Value
 | .ty n=>.type n | .own j=>.ref (G.cl j)
def tyD (S:SS):D→Option Value
 | .non=>some (.type "NoneType") | .bl _=>some (.type "bool") | .int _=>some (.type "int") | .str _=>some (.type "str")
 | .lst _=>some (.type "list") | .tup _=>some (.type "tuple") | .dic _=>some (.type "dict")
 | .obj a=>match S a with
  | some (.lst _)=>some (.type "list") | some (.dic _)=>some (.type "dict") | some (.loc _)=>some (.type "dict") | some (.ins C _)=>some (.ref C) | none=>none
 | .exc _ _ C _=>some (.ref C)
 | .err _ C _ _=>some (.ref C)
def a0U (z:Str):List D:=z.cps.toList.map fun c=>.str ⟨#[c]⟩
def a1e (ds:List D):List D:=ds.zipIdx.map fun p=>.tup [.int (p.2:Nat),p.1]
def a6w:List (D × D)→Option (List (Key × D))
 | []=>some []
 | (k,v) :: r=>match keyD k,a6w r with
  | some key,some q=>some ((key,v) :: q)
  | _,_=>none
def sqv:Bool→List D→D
 | true,ds=>.tup ds
 | false,ds=>.lst ds
def a1g:List D→List D→List D
 | x :: xs,y :: ys=>.tup [x,y] :: a1g xs ys
 | _,_=>[]
def a4h (lo:Int) (n:Nat):List D:=(List.range n).map fun (i:Nat)=>.int (lo + (i:Int))
abbrev b8j:zbd→Addr→Prop:=C8.InsC
abbrev a8w:zbd→Addr→Prop:=ExcC
def a3c (G:Gm) (S:SS):D→Prop
 | .obj a=>∀ C fs,S a=some (.ins C fs)→b8j G.K C
 | .exc y oe C _=>G.m0=some (y,oe)∧a8w G.K C
 | .err _ C _ _=>a8w G.K C
 | _=>True
def a7O (G:Gm) (f:Str) (x:D) (S:SS) (K:DK):Prop:=match x with
 | .obj a=>∃ C fs d,S a=some (.ins C fs)∧Cls G.K C∧NoAttr G.K C f∧fs.lookup f=some d∧K d S
 | .exc y oe C fs=>G.m0=some (y,oe)∧a8w G.K C∧NoAttr G.K C f∧∃ d,fs.lookup f=some d∧K d S
 | .err _ C fs _=>a8w G.K C∧NoAttr G.K C f∧∃ d,fs.lookup f=some d∧K d S
 | _=>False
def omD (G:Gm) (j:Nat) (m:Str) (x:D) (S:SS) (p:Addr):Prop:=x=.obj p∧∃ fs,S p=some (.ins (G.mc j) fs)∧fs.lookup m=none
def noX:XD':=fun _ _ _ _=>False
def a2k:DS→List Nat→List D→DS
 | δ,i :: is,d :: ds=>a2k (δ.set i (some d)) is ds
 | δ,_,_=>δ
def a1d (tg:List Nat) (one:Bool) (d:D) (δ:DS) (S:SS) (Q:DS→SS→Prop):Prop :=
 if one=true then (match tg with
  | [i]=>Q (δ.set i (some d)) S
  | _=>False)
 else ∃ ds,vw S d=.tup ds∧ds.length=tg.length∧Q (a2k δ tg ds) S
def a4r (δ:DS):List Nat→DS
 | []=>δ
 | v :: vs=>(a4r δ vs).set v none
mutual
def den (G:Gm):RE→RdE
 | .var i=>fun δ S _ K=>match δ[i]? with
  | some (some d)=>K d S
  | _=>False
 | .con c=>fun _ S _ K=>K c.d S
 | .glb j=>fun _ S _ K=>K (G.gv j) S
 | .bin op a b=>fun δ S Y K=>den G a δ S Y fun x S1=>den G b δ S1 Y fun y S2=>opD op x y S2 K
 | .neg a=>fun δ S Y K=>den G a δ S Y fun x S1=>∃ i,x=.int i∧K (.int (-i)) S1
 | .nt a=>fun δ S Y K=>den G a δ S Y fun x S1=>a0R x S1 fun b=>K (.bl (!b)) S1
 | .and es=>a0z G es
 | .or es=>a01 G es
 | .ife c a b=>fun δ S Y K=>a0j G c δ S Y fun k S1=>if k=true then den G a δ S1 Y K else den G b δ S1 Y K
 | .cmp op a b=>fun δ S Y K=>den G a δ S Y fun x S1=>den G b δ S1 Y fun y S2=>a0t op x y S2 K
 | .chn o1 o2 a b c=>fun δ S Y K=>den G a δ S Y fun x S1=>den G b δ S1 Y fun y S2=>a0t o1 x y S2 fun z S3=>∃ k,z=.bl k ∧
   if k=true then den G c δ S3 Y fun w S4=>a0t o2 y w S4 K else K (.bl false) S3
 | .lst cell es=>fun δ S Y K=>a0l G es δ S Y fun ds S1=>ds.length≤sizeLine∧if cell=true then ∀ p,S1 p=none→K (.obj p) (S1.set p (.lst ds)) else K (.lst ds) S1
 | .tup es=>fun δ S Y K=>a0l G es δ S Y fun ds S1=>ds.length≤sizeLine∧K (.tup ds) S1
 | .ix a b=>fun δ S Y K=>den G a δ S Y fun x S1=>den G b δ S1 Y fun y S2=>ixD x y S2 K
 | .sl a lo hi=>fun δ S Y K=>den G a δ S Y fun x S1=>a1m G lo δ S1 Y fun l S2=>a1m G hi δ S2 Y fun u S3=>slD x l u S3 K
 | .fld a f=>fun δ S Y K=>den G a δ S Y fun x S1=>a7O G f x S1 K
 | .call j es=>fun δ S Y K=>∃ T,G.fn G.m0.isSome j=some T∧a0l G es δ S Y fun ds S1=>T G.m0 ds S1 K fun C fs S'=>Y C fs δ S'
 | .bi b es=>fun δ S Y K=>b.needs G.m0∧a0l G es δ S Y fun ds S1=>b.den ds S1 K
 | .isi a c=>fun δ S Y K=>den G a δ S Y fun x S1=>∃ t b,tyD S1 x=some t∧a3c G S1 x∧PySem.W.kitOne G.K t (c.val G)=some b∧K (.bl b) S1
 | .mkx j=>fun δ S Y K=>a7z G.K (G.cl j)∧∀ a,K (.err a (G.cl j) [] true) S
 | .rpx a=>fun δ S Y K=>den G a δ S Y fun x S1=>a5B G.K x S1 K
 | .ist a js=>fun δ S Y K=>den G a δ S Y fun x S1=>∃ t b,tyD S1 x=some t∧a3c G S1 x∧PySem.W.kitAny G.K t (js.map fun j=>Value.ref (G.cl j))=some b∧K (.bl b) S1
 | .lc cell elt tg one it c own=>fun δ S Y K=>G.m0=none∧a0y G it δ S Y fun ds ok S1=>∀ p,S1 p=none→∃ Iv:Nat→SS→Prop,Iv 0 (S1.set p (.lst []))∧(∀ i S',Iv i S'→i≤ds.length→ok S') ∧
   (∀ i d S',ds[i]?=some d→Iv i S'→a1d tg one d (a4r δ (own.map (·.2))) S' fun δ2 S2=>a3N G c δ2 S2 noX fun b S3 =>
    if b=true then den G elt δ2 S3 noX fun y S4=>∃ acc,S4 p=some (.lst acc)∧acc.length < sizeLine∧Iv (i + 1) (S4.set p (.lst (acc ++ [y]))) else Iv (i + 1) S3) ∧
   (∀ S',Iv ds.length S'→∃ acc,S' p=some (.lst acc)∧if cell=true then K (.obj p) S' else K (.lst acc) (S'.del p))
 | .dct cell ps=>fun δ S Y K=>∀ p,S p=none→a3O G ps δ (S.set p (.dic [])) Y fun ks S2=>S2 p=some (.dic [])∧∃ kvs,a6w ks=some kvs∧kvs.length≤15∧if cell=true then K (.obj p) (S2.set p (.dic (a0P [] kvs))) else K (.dic (a0P [] kvs)) (S2.del p)
 | .mth b a es=>fun δ S Y K=>den G a δ S Y fun x S1=>b.rc x S1∧a0l G es δ S1 Y fun ds S2=>b.den x ds S2 K
 | .om j m a es=>fun δ S Y K=>∃ T,G.fn G.m0.isSome j=some T∧den G a δ S Y fun x S1=>∃ p,omD G j m x S1 p∧a0l G es δ S1 Y fun ds S2=>T G.m0 (.obj p :: ds) S2 K fun C fs S'=>Y C fs δ S'
 | .mk j es=>fun δ S Y K=>G.m0=none∧∃ T,G.fn false j=some T∧a0l G es δ S Y fun ds S1=>∀ p,S1 p=none→T none (.obj p :: ds) (S1.set p (.ins (G.mc j) [])) (fun d S'=>d=.non∧K (.obj p) S') fun C fs S'=>Y C fs δ S'
 | .lck e=>fun δ S Y K=>∃ a kvs,S a=some (.dic kvs)∧den G e δ (S.set a (.loc kvs)) Y fun d S'=>K d (S'.set a (.dic kvs))
 | .fz e=>fun δ S Y K=>den G e δ S Y fun d S1=>∃ a,d=.obj a∧((∃ ds,S1 a=some (.lst ds)∧K (.lst ds) (S1.del a))∨∃ kvs,S1 a=some (.dic kvs)∧K (.dic kvs) (S1.del a))
 | .fzt k e=>fun δ S Y K=>den G e δ S Y fun d S1=>∃ ds a l,d=.tup ds∧ds[k]?=some (.obj a)∧S1 a=some (.lst l)∧K (.tup (ds.set k (.lst l))) (S1.del a)
 | .ofs srt a=>fun δ S Y K=>G.m0=none∧den G a δ S Y fun x S1=>∃ zs:List Str,vw S1 x=.lst (zs.map D.str)∧(zs.length < 64∨((uniq zs).length < 64∧zs.length < 1000))∧if srt=true then ∃ cell,outL cell ((a0X (uniq zs)).map D.str) S1 K else K (.int ((uniq zs).length:Nat)) S1
 | .ofi a=>fun δ S Y K=>G.m0=none∧den G a δ S Y fun x S1=>∃ zs:List Int,vw S1 x=.lst (zs.map D.int)∧zs.length < 64∧∀ ns:List Int,ns.Pairwise (· < ·)→(∀ k,k∈ns↔k∈zs)→K (.lst (ns.map D.int)) S1
 | .vls cell a=>fun δ S Y K=>G.m0=none∧den G a δ S Y fun x S1=>∃ p kvs,x=.obj p∧S1 p=some (.dic kvs)∧outL cell (kvs.map (·.2)) S1 K
 | .rev cell a=>fun δ S Y K=>den G a δ S Y fun x S1=>∃ ds,vw S1 x=.lst ds∧outL cell ds.reverse S1 K
 | .sl2 k a=>fun δ S Y K=>den G a δ S Y fun x S1=>∃ ds,vw S1 x=.lst ds∧K (.lst (ev2 k ds)) S1
 | .kin neg j a=>fun δ S Y K=>∃ kvs,G.kd j=some kvs∧den G a δ S Y fun x S1=>∃ z,x=.str z∧K (.bl (neg ^^ (valD kvs (.inr z)).isSome)) S1
 | .kix j a=>fun δ S Y K=>∃ kvs,G.kd j=some kvs∧den G a δ S Y fun x S1=>∃ z d,x=.str z∧valD kvs (.inr z)=some d∧K d S1
 | .slc a lo hi=>fun δ S Y K=>den G a δ S Y fun x S1=>a1m G lo δ S1 Y fun l S2=>a1m G hi δ S2 Y fun u S3=>b0t x l u S3 K
 | .adc a b=>fun δ S Y K=>den G a δ S Y fun x S1=>den G b δ S1 Y fun y S2=>a80 x y S2 K
 | .nev=>fun _ _ _ _=>False
def a3O (G:Gm):RQ→DS→SS→XD'→(List (D × D)→SS→Prop)→Prop
 | .nil=>fun _ S _ K=>K [] S
 | .cons k v r=>fun δ S Y K=>den G k δ S Y fun x S1=>den G v δ S1 Y fun y S2=>a3O G r δ S2 Y fun ps S3=>K ((x,y) :: ps) S3
def a0l (G:Gm):RL→RdL
 | .nil=>fun _ S _ K=>K [] S
 | .cons e es=>fun δ S Y K=>den G e δ S Y fun d S1=>a0l G es δ S1 Y fun ds S2=>K (d :: ds) S2
def a0z (G:Gm):RL→RdE
 | .nil=>fun _ _ _ _=>False
 | .cons e .nil=>den G e
 | .cons e (.cons f r)=>fun δ S Y K=>den G e δ S Y fun x S1=>a0R x S1 fun k=>if k=true then a0z G (.cons f r) δ S1 Y K else K x S1
def a01 (G:Gm):RL→RdE
 | .nil=>fun _ _ _ _=>False
 | .cons e .nil=>den G e
 | .cons e (.cons f r)=>fun δ S Y K=>den G e δ S Y fun x S1=>a0R x S1 fun k=>if k=true then K x S1 else a01 G (.cons f r) δ S1 Y K
def a0j (G:Gm):RE→RdT
 | .nt a=>fun δ S Y K=>a0j G a δ S Y fun b S1=>K (!b) S1
 | .and es=>a0u G es
 | .or es=>a0F G es
 | .ife _ _ _=>fun _ _ _ _=>False
 | .cmp op a b=>fun δ S Y K=>den G a δ S Y fun x S1=>den G b δ S1 Y fun y S2=>a0t op x y S2 fun d S'=>∃ k,d=.bl k∧K k S'
 | .chn o1 o2 a b c=>fun δ S Y K=>den G a δ S Y fun x S1=>den G b δ S1 Y fun y S2=>a0t o1 x y S2 fun z S3=>∃ k,z=.bl k ∧
   if k=true then den G c δ S3 Y fun w S4=>a0t o2 y w S4 fun d S'=>∃ k,d=.bl k∧K k S' else ∃ k,D.bl false=.bl k∧K k S3
 | .var i=>fun δ S _ K=>match δ[i]? with
  | some (some d)=>a0R d S fun b=>K b S
  | _=>False
 | .con c=>fun _ S _ K=>a0R c.d S fun b=>K b S
 | .glb j=>fun _ S _ K=>a0R (G.gv j) S fun b=>K b S
 | .ix a b=>fun δ S Y K=>den G a δ S Y fun x S1=>den G b δ S1 Y fun y S2=>ixD x y S2 fun d S3=>a0R d S3 fun b=>K b S3
 | .fld a f=>fun δ S Y K=>den G a δ S Y fun x S1=>a7O G f x S1 fun d S3=>a0R d S3 fun b=>K b S3
 | .call j es=>fun δ S Y K=>∃ T,G.fn G.m0.isSome j=some T∧a0l G es δ S Y fun ds S1=>T G.m0 ds S1 (fun d S3=>a0R d S3 fun b=>K b S3) fun C fs S'=>Y C fs δ S'
 | .isi a c=>fun δ S Y K=>den G a δ S Y fun x S1=>∃ t b,tyD S1 x=some t∧a3c G S1 x∧PySem.W.kitOne G.K t (c.val G)=some b∧K b S1
 | .mkx _=>fun _ _ _ _=>False
 | .rpx _=>fun _ _ _ _=>False
 | .ist a js=>fun δ S Y K=>den G a δ S Y fun x S1=>∃ t b,tyD S1 x=some t∧a3c G S1 x∧PySem.W.kitAny G.K t (js.map fun j=>Value.ref (G.cl j))=some b∧K b S1
 | .kin neg j a=>fun δ S Y K=>∃ kvs,G.kd j=some kvs∧den G a δ S Y fun x S1=>∃ z,x=.str z∧∃ k,D.bl (neg ^^ (valD kvs (.inr z)).isSome)=.bl k∧K k S1
 | .om j m a es=>fun δ S Y K=>∃ T,G.fn G.m0.isSome j=some T∧den G a δ S Y fun x S1=>∃ p,omD G j m x S1 p∧a0l G es δ S1 Y fun ds S2=>T G.m0 (.obj p :: ds) S2 (fun d S3=>a0R d S3 fun b=>K b S3) fun C fs S'=>Y C fs δ S'
 | .mth b a es=>fun δ S Y K=>den G a δ S Y fun x S1=>b.rc x S1∧a0l G es δ S1 Y fun ds S2=>b.den x ds S2 fun d S3=>a0R d S3 fun b=>K b S3
 | .bi b es=>fun δ S Y K=>b.needs G.m0∧a0l G es δ S Y fun ds S1=>b.den ds S1 fun d S3=>a0R d S3 fun b=>K b S3
 | _=>fun _ _ _ _=>False
def a0u (G:Gm):RL→RdT
 | .nil=>fun _ _ _ _=>False
 | .cons e .nil=>a0j G e
 | .cons e (.cons f r)=>fun δ S Y K=>a0j G e δ S Y fun k S1=>if k=true then a0u G (.cons f r) δ S1 Y K else K false S1
def a0F (G:Gm):RL→RdT
 | .nil=>fun _ _ _ _=>False
 | .cons e .nil=>a0j G e
 | .cons e (.cons f r)=>fun δ S Y K=>a0j G e δ S Y fun k S1=>if k=true then K true S1 else a0F G (.cons f r) δ S1 Y K
def a3N (G:Gm):RO→RdT
 | .nn=>fun _ S _ K=>K true S
 | .ss e=>a0j G e
def a1m (G:Gm):RO→DS→SS→XD'→(Option Int→SS→Prop)→Prop
 | .nn=>fun _ S _ K=>K none S
 | .ss e=>fun δ S Y K=>den G e δ S Y fun d S1=>∃ i,d=.int i∧K (some i) S1
def a0y (G:Gm):RI→RdI
 | .lst e=>fun δ S Y K=>den G e δ S Y fun d S1=>∃ ds,vw S1 d=.lst ds∧K ds (fun S'=>vw S' d=.lst ds) S1
 | .tup e=>fun δ S Y K=>den G e δ S Y fun d S1=>∃ ds,vw S1 d=.tup ds∧K ds (fun S'=>True) S1
 | .rng1 a=>fun δ S Y K=>den G a δ S Y fun d S1=>∃ j,d=.int j∧-(2 ^ 62)≤j∧j < 2 ^ 62∧K (a4h 0 j.toNat) (fun _=>True) S1
 | .rng2 a b=>fun δ S Y K=>den G a δ S Y fun d S1=>den G b δ S1 Y fun d2 S2=>∃ i j,d=.int i∧d2=.int j∧(-(2 ^ 62)≤i∧i < 2 ^ 62∧-(2 ^ 62)≤j∧j < 2 ^ 62)∧K (a4h i (j - i).toNat) (fun _=>True) S2
 | .str e=>fun δ S Y K=>den G e δ S Y fun d S1=>∃ z,d=.str z∧K (a0U z) (fun _=>True) S1
 | .keys e=>fun δ S Y K=>den G e δ S Y fun d S1=>∃ a kvs,d=.obj a∧S1 a=some (.loc kvs)∧K (kvs.map fun kv=>keyV kv.1) (fun _=>True) S1
 | .enumt e=>fun δ S Y K=>den G e δ S Y fun d S1=>∃ ds,d=.tup ds∧K (a1e ds) (fun _=>True) S1
 | .zip t1 t2 a b=>fun δ S Y K=>den G a δ S Y fun d S1=>den G b δ S1 Y fun d2 S2=>∃ xs ys,d=sqv t1 xs∧d2=sqv t2 ys∧K (a1g xs ys) (fun _=>True) S2
 | .enum e=>fun δ S Y K=>den G e δ S Y fun d S1=>∃ ds,vw S1 d=.lst ds∧K (a1e ds) (fun S'=>vw S' d=.lst ds) S1
 | .items e=>fun δ S Y K=>den G e δ S Y fun d S1=>∃ a kvs,d=.obj a∧S1 a=some (.loc kvs)∧K (kvs.map fun kv=>.tup [keyV kv.1,kv.2]) (fun _=>True) S1
end
def nmB (l:List Str) (i:Nat) (x:Str):Bool:=decide (l[i]?=some x) && decide ((x == ("__debug__" : Str))=false∧(x == ("__classdict__" : Str))=false)
def enB (l:List En) (i:Nat) (e:En):Bool:=decide (l[i]?=some e)
def fnB (l:List En) (i:Nat) (x:Str):Bool:=enB l i (.fn x) && decide ((x == ("__debug__" : Str))=false)
theorem a6j {l:List En} {i:Nat} {x:Str} (h:fnB l i x=true):l[i]?=some (.fn x)∧(x == ("__debug__" : Str))=false:=by
 unfold fnB enB at h
 rw [zak,zah,zah] at h
 exact h
def a2x:List Str:=["len", "abs", "max", "min", "range", "isinstance", "repr", "list", "tuple", "dict", "sorted", "sum", "enumerate", "zip", "reversed", "str", "int", "bool", "set", "ValueError", "any", "all"]
def b3p (sc:Scope) (x:Str):Bool:=match sc.names.lookup x with
 | some .local=>true | some .cell=>true | some .free=>true | _=>false
def a5J (sc:Scope) (x:Str):Bool:=match sc.names.lookup x with
 | some .local=>true | some .cell=>true | _=>false
def glB (sc:Scope) (x:Str):Bool:=match sc.names.lookup x with
 | some .globalImplicit=>true | _=>false
theorem a0r {l:List Str} {i:Nat} {x:Str} (h:nmB l i x=true):l[i]?=some x∧(x == ("__debug__" : Str))=false∧(x == ("__classdict__" : Str))=false:=by
 unfold nmB at h
 rw [zak,zah,zah] at h
 exact h
theorem a7r {sc:Scope} {x:Str} (h:b3p sc x=true):Vis sc x:=by
 unfold b3p at h
 split at h <;> first | exact .inl (by assumption) | exact .inr (.inl (by assumption)) | exact .inr (.inr (by assumption)) | cases h
theorem a6H {sc:Scope} {x:Str} (h:a5J sc x=true):Loc sc x:=by
 unfold a5J at h
 split at h <;> first | exact .inl (by assumption) | exact .inr (by assumption) | cases h
theorem a8A {sc:Scope} {x:Str} (h:glB sc x=true):sc.names.lookup x=some .globalImplicit:=by
 unfold glB at h
 split at h <;> first | assumption | cases h
def a0m:Expr→Bool
 | .Starred _ _=>false | _=>true
def a6N:Expr→Bool
 | .Call (.Name x _) [] [] _=>decide (x≠("super" : Str)) | _=>true
def a1r:Expr→Bool
 | .Slice _ _ _ _=>false | _=>true
def a1f:Expr→Bool
 | .Set _ _ _=>false | _=>true
def plainT:Expr→Bool
 | .UnaryOp .Not _ _=>false | .BoolOp _ _ _=>false | .IfExp _ _ _ _=>false | .Compare _ _ _ _=>false | _=>true
def a89 (l:List Str) (sc:Scope):List Nat→List Expr→Bool
 | [],[]=>true
 | j :: js,x :: es=>(match x with
  | .Name z _=>glB sc z && nmB l j z
  | _=>false) && a0m x && a89 l sc js es
 | _,_=>false
theorem a0b {e:Expr} {es:List Expr} {env:Env} (h:a0m e=true):starEach (e :: es) env=(false,eval e env) :: starEach es env:=by
 cases e <;> first | rfl | cases h
theorem a3A {e:Expr} (h:a1r e=true) (o i:Value):subscripted e false o i=operate [o,i] (getItem o i):=by
 cases e <;> first | rfl | cases h
theorem a1a {e:Expr} (h:a1f e=true) (op:CmpOp):behindInMarks op e=false:=by
 cases e <;> first | rfl | cases h
theorem plainT_ok {e:Expr} {env:Env} (h:plainT e=true) (whole:Sem Value):isTrue e env whole=(do let v ← whole;standAt e.pos;holding [v] (truthy v)):=by
 cases e <;> first | rfl | (cases h;done) | (rename_i op _ _;cases op <;> first | rfl | cases h)
theorem a1N {e:Expr} {env:Env} (h:a1f e=true) (x:Value):foldedSetIterable e env x=pure x:=by
 cases e <;> first | rfl | cases h
theorem a1B {e:Expr} {f:Str} {env:Env} {whole:Sem Value} (h:a6N e=true):attributeBase e f env whole=whole:=by
 unfold attributeBase
 split
 ·rename_i id _ _
  have q:(id != ("super" : Str))=true:=by
   have h':decide (id≠("super" : Str))=true:=h
   simpa using h'
  rw [q]
  simp
 ·rfl
theorem a0C:∀ {es:List Expr} {env:Env} {pos:Pos},es.all a0m=true→(backTo pos (starEach es env)).any (·.1)=false
 | [],_,_,_=>rfl
 | e :: es,env,pos,h=>by
  rw [List.all_cons,zak] at h
  rw [a0b h.1]
  have q:=a0C (env:=env) (pos:=pos) h.2
  simpa [backTo] using q
def a5W (n:SN) (sc:Scope):List Nat→List Expr→Bool
 | [],xs=>xs.isEmpty
 | i :: is,xs=>match xs with
  | .Name y _ :: xs=>nmB n.N i y && a5J sc y && a5W n sc is xs
  | _=>false
def a0D (n:SN) (sc:Scope) (tg:List Nat) (one:Bool) (x:Expr):Bool :=
 if one=true then (match tg,x with
  | [i],.Name y _=>nmB n.N i y && a5J sc y
  | _,_=>false)
 else (match x with
  | .Tuple xs _ _=>a5W n sc tg xs
  | _=>false)
def mtB (l:List En) (j:Nat) (m:Str):Bool:=match l[j]? with
 | some (.mt _ m')=>decide (m'=m)
 | _=>false
theorem b1Z {l:List En} {j:Nat} {m:Str} (h:mtB l j m=true):∃ C,l[j]?=some (.mt C m):=by
 unfold mtB at h
 split at h
 ·rename_i C m' e
  cases of_decide_eq_true h
  exact ⟨C,e⟩
 ·cases h
mutual
def chk (n:SN) (sc:Scope):RE→Expr→Bool
 | .var i,x=>match x with
  | .Name y _=>nmB n.N i y && b3p sc y
  | _=>false
 | .con c,x=>match c,x with
  | .non,.Constant .none _ _=>true
  | .bl b,.Constant (.bool b') _ _=>b == b'
  | .int i,.Constant (.int i') _ _=>decide (i=i')
  | .str s,.Constant (.str s') _ _=>decide (s=s')
  | _,_=>false
 | .glb j,x=>match x with
  | .Name y _=>nmB n.gvs j y && glB sc y
  | _=>false
 | .bin op a b,x=>match x with
  | .BinOp l o r _=>decide (o=op) && (chk n sc a l && chk n sc b r)
  | _=>false
 | .neg a,x=>match x with
  | .UnaryOp .USub l _=>chk n sc a l
  | _=>false
 | .nt a,x=>match x with
  | .UnaryOp .Not l _=>chk n sc a l
  | _=>false
 | .and es,x=>match x with
  | .BoolOp .And xs _=>a3M n sc es xs
  | _=>false
 | .or es,x=>match x with
  | .BoolOp .Or xs _=>a3M n sc es xs
  | _=>false
 | .ife c a b,x=>match x with
  | .IfExp t l r _=>chk n sc c t && (chk n sc a l && chk n sc b r)
  | _=>false
 | .cmp op a b,x=>match x with
  | .Compare l [o] [r] _=>decide (o=op) && a1f r && (chk n sc a l && chk n sc b r)
  | _=>false
 | .chn o1 o2 a b c,x=>match x with
  | .Compare l [o,o'] [r,t] _=>decide (o=o1) && decide (o'=o2) && a1f t && (chk n sc a l && (chk n sc b r && chk n sc c t))
  | _=>false
 | .lst _ es,x=>match x with
  | .List xs _=>a3M n sc es xs
  | _=>false
 | .tup es,x=>match x with
  | .Tuple xs _ _=>a3M n sc es xs
  | _=>false
 | .ix a b,x=>match x with
  | .Subscript l r _=>a1r r && (chk n sc a l && chk n sc b r)
  | _=>false
 | .slc a lo hi,x=>match x with
  | .Subscript l (.Slice p q none _) _=>chk n sc a l && (a88 n sc lo p && a88 n sc hi q)
  | _=>false
 | .sl a lo hi,x=>match x with
  | .Subscript l (.Slice p q none _) _=>chk n sc a l && (a88 n sc lo p && a88 n sc hi q)
  | _=>false
 | .fld a f,x=>match x with
  | .Attribute l f' _=>decide (f'=f) && a6N l && chk n sc a l
  | _=>false
 | .call j es,x=>match x with
  | .Call (.Name y _) xs [] _=>fnB n.fns j y && glB sc y && a3M n sc es xs
  | _=>false
 | .mth b a es,x=>match x with
  | .Call (.Attribute l m ap) xs [] p=>decide (m=b.nm) && a6N l && (ap.endLine == p.line) && decide (xs.length < 30) && chk n sc a l && a3M n sc es xs
  | _=>false
 | .om j m a es,x=>match x with
  | .Call (.Attribute l m' ap) xs [] p=>decide (m'=m) && a6N l && (ap.endLine == p.line) && decide (xs.length < 30) && mtB n.fns j m && chk n sc a l && a3M n sc es xs
  | _=>false
 | .mk j es,x=>match x with
  | .Call (.Name y _) xs [] _=>enB n.fns j (.mt y "__init__") && decide ((y == ("__debug__" : Str))=false) && glB sc y && a3M n sc es xs
  | _=>false
 | .lck e,x=>chk n sc e x
 | .fz e,x=>chk n sc e x
 | .fzt _ e,x=>chk n sc e x
 | .ofs srt a,x=>match x with
  | .Call (.Name y _) [.Call (.Name z _) [l] [] _] [] _=>decide (y=b2a srt) && glB sc y && decide (z=("set" : Str)) && glB sc z && a0m l && chk n sc a l
  | _=>false
 | .ofi a,x=>match x with
  | .Call (.Name y _) [.Call (.Name z _) [l] [] _] [] _=>decide (y=("sorted" : Str)) && glB sc y && decide (z=("set" : Str)) && glB sc z && a0m l && chk n sc a l
  | _=>false
 | .vls _ a,x=>match x with
  | .Call (.Name y _) [.Call (.Attribute l m ap) [] [] p] [] _=>decide (y=("list" : Str)) && glB sc y && decide (m=("values" : Str)) && a6N l && (ap.endLine == p.line) && chk n sc a l
  | _=>false
 | .rev _ a,x=>match x with
  | .Subscript l (.Slice none none (some (.UnaryOp .USub (.Constant (.int 1) _ _) _)) _) _=>chk n sc a l
  | _=>false
 | .sl2 k a,x=>match x with
  | .Subscript l (.Slice lo none (some (.Constant (.int 2) _ _)) _) _=>loE k lo && chk n sc a l
  | _=>false
 | .kin neg j a,x=>match x with
  | .Compare l [o] [.Name y _] _=>decide (o=(if neg=true then CmpOp.NotIn else CmpOp.In)) && nmB n.gvs j y && glB sc y && chk n sc a l
  | _=>false
 | .adc a b,x=>match x with
  | .BinOp l o r _=>decide (o=Operator.Add) && (chk n sc a l && chk n sc b r)
  | _=>false
 | .kix j a,x=>match x with
  | .Subscript (.Name y _) r _=>nmB n.gvs j y && glB sc y && a1r r && chk n sc a r
  | _=>false
 | .dct _ ps,x=>match x with
  | .Dict ks vs _=>decide (ks.length≤15) && b0U n sc ps ks vs
  | _=>false
 | .nev,_=>true
 | .bi b es,x=>match x with
  | .Call (.Name y _) xs [] _=>decide (y=b.nm) && glB sc y && !xs.isEmpty && a3M n sc es xs
  | _=>false
 | .isi a c,x=>match x with
  | .Call (.Name y _) [l,.Name z _] [] _=>decide (y=("isinstance" : Str)) && glB sc y && glB sc z && a0m l && chk n sc a l && (match c with
   | .ty t=>decide (bootBuiltins z=some (.type t)) && decide (z≠("__name__" : Str)) && decide ((z == ("__debug__" : Str))=false) && decide (z∈a2x)
   | .own j=>nmB n.cls j z)
  | _=>false
 | .mkx j,x=>match x with
  | .Call (.Name y _) [] [] _=>nmB n.cls j y && glB sc y
  | _=>false
 | .rpx a,x=>match x with
  | .Call (.Name y _) [l] [] _=>decide (y=("repr" : Str)) && glB sc y && a0m l && chk n sc a l
  | _=>false
 | .ist a js,x=>match x with
  | .Call (.Name y _) [l,.Tuple es _ _] [] _=>decide (y=("isinstance" : Str)) && glB sc y && a0m l && chk n sc a l && a89 n.cls sc js es && decide (js.length≤100)
  | _=>false
 | .lc _ elt tg one it c own,x=>match x with
  | .ListComp xe [⟨xt,xi,ifs,0⟩] scope _=>blkC n.N sc scope own && a1f xi && a3R n sc it xi && (tg.all fun i=>decide (i∈own.map (·.2))) && a0D n scope tg one xt && b0T n scope c ifs && chk n scope elt xe && (!it.two || !one)
  | _=>false
def b0U (n:SN) (sc:Scope):RQ→List (Option Expr)→List Expr→Bool
 | .nil,ks,vs=>ks.isEmpty && vs.isEmpty
 | .cons k v r,ks,vs=>match ks,vs with
  | some x :: ks,y :: vs=>chk n sc k x && chk n sc v y && b0U n sc r ks vs
  | _,_=>false
def a3M (n:SN) (sc:Scope):RL→List Expr→Bool
 | .nil,xs=>xs.isEmpty
 | .cons e es,xs=>match xs with
  | x :: xs=>a0m x && (chk n sc e x && a3M n sc es xs)
  | []=>false
def a88 (n:SN) (sc:Scope):RO→Option Expr→Bool
 | .nn,x=>x.isNone
 | .ss e,x=>match x with
  | some x=>chk n sc e x
  | none=>false
def b0T (n:SN) (sc:Scope):RO→List Expr→Bool
 | .nn,x=>x.isEmpty
 | .ss e,x=>match x with
  | [x]=>chk n sc e x
  | _=>false
def a3R (n:SN) (sc:Scope):RI→Expr→Bool
 | .lst e,x=>chk n sc e x
 | .tup e,x=>chk n sc e x
 | .rng1 a,x=>match x with
  | .Call (.Name y _) [l] [] _=>decide (y=("range" : Str)) && glB sc y && a0m l && chk n sc a l
  | _=>false
 | .rng2 a b,x=>match x with
  | .Call (.Name y _) [l,r] [] _=>decide (y=("range" : Str)) && glB sc y && a0m l && a0m r && (chk n sc a l && chk n sc b r)
  | _=>false
 | .str e,x=>chk n sc e x
 | .keys e,x=>chk n sc e x
 | .zip _ _ a b,x=>match x with
  | .Call (.Name y _) [l,r] [] _=>decide (y=("zip" : Str)) && glB sc y && a0m l && a0m r && (chk n sc a l && chk n sc b r)
  | _=>false
 | .enumt e,x=>match x with
  | .Call (.Name y _) [l] [] _=>decide (y=("enumerate" : Str)) && glB sc y && a0m l && chk n sc e l
  | _=>false
 | .enum e,x=>match x with
  | .Call (.Name y _) [l] [] _=>decide (y=("enumerate" : Str)) && glB sc y && a0m l && chk n sc e l
  | _=>false
 | .items e,x=>match x with
  | .Call (.Attribute l m ap) [] [] p=>decide (m=("items" : Str)) && a6N l && (ap.endLine == p.line) && chk n sc e l
  | _=>false
end
end Sv
namespace PySem.W
open PySem PySem.Spec PySem.Calls PyProof.Rows
section
variable {prog:Program} {w:World} {A:Around} {E:Value→Shared→Prop} {s:Shared} {K:Frag} {x D:Addr} {ox:Obj} {od:Option Obj}
theorem a6g (hd:hasDictIn K D=true) (ha:findIn K (.ref D) "__class__" = some (some (.builtin "object.__class__"))) (gt:specialIn K (.builtin "object.__class__") "__get__" = some (some (.builtin "getset_descriptor.__get__"))) (tk:takesIn K (.builtin "object.__class__")=some true) :
  findObj K D od "__class__" = some (.bind (.builtin "getset_descriptor.__get__") (.builtin "object.__class__")):=by
 have known:(clsIn K D).isSome=true:=by
  have ⟨_,e,_⟩:=any_some hd
  simp [e]
 match od with
 | none=>exact findObj_dataN known ha gt tk
 | some _=>exact findObj_data known ha gt tk
theorem a6f (own:findIn K (.ref D) "__getattribute__" = some (some (.builtin "BaseException.__getattribute__"))) (noHook:findIn K (.ref D) "__getattr__" = some none) (err:subIn K (.ref D) (.type "BaseException")=some true) (obj:mroIn K D (.type "object")=some true)
  (fnd:findObj K D od "__class__" = some (.bind (.builtin "getset_descriptor.__get__") (.builtin "object.__class__"))) (inK:K.In s.heap) (I:InstAt s.heap x ox D od) {Q:Option Value→Shared→Prop} (want:Q (some (.ref D)) { s with toks:=s.toks + 1 }):wpAny (model prog w) A (getAttr? (.ref x) "__class__") Q E s:=by
 rcases s with ⟨hp,gs,dr,tk,os⟩
 have ty {M:Model}:=I.type (M:=M)
 have own' {M:Model}:=looks_findIn (M:=M) inK own
 have hook' {M:Model}:=looks_findIn (M:=M) inK noHook
 have fnd' {M:Model}:=looks_find (M:=M) inK I fnd
 have isErr {M:Model}:Looks M hp (isInstance (.ref x) (.type "BaseException")) true:=ty.andThen (looks_subIn inK err)
 simp only [getAttr?,getAttrBy?,getAttrBy,getAttrByItsOwn,hookBefore,callGetattribute,boundAndCalled]
 repeat (first | with_reducible refine ty.at ?_ | with_reducible refine own'.at ?_ | with_reducible refine hook'.at ?_ | wp_step)
 refine wpAny_of_eq (PySem.F.excAttr_ValueError.ga.bind (.ref x)) ?_
 apply wpAny_call
 refine codeAny_call_builtin PySem.F.excAttr_ValueError.ga.plain PySem.F.entry_bexc_ga ?_
 have kind:builtinKind "BaseException.__getattribute__" = some .slot:=by decide +kernel
 have split:splitId "BaseException.__getattribute__" = some ("BaseException", "__getattribute__"):=by decide +kernel
 refine check_slot (i := "BaseException.__getattribute__") (self:=.ref x) (rest:=[.str "__class__" tk]) (kw:=[]) kind split isErr (PySem.F.args_bexc_ga _ _) ?_
 unfold Builtin.«object.__getattribute__»
 refine wpAny_bind (wpAny_of_eq (a:=((Value.ref x:Value),[Value.str "__class__" tk])) (by first | rfl | (simp only [slotArgs];rfl)) ?_)
 dsimp only
 repeat (first | with_reducible refine ty.at ?_ | with_reducible refine fnd'.at ?_ | wp_step)
 refine class_get (s:=⟨hp,gs,dr,tk + 1,os⟩) inK I obj (wpAny_pure ?_)
 dsimp only
 rw [handedOut_of (v:=.ref D) rfl]
 exact wpAny_pure (wpAny_pure want)
theorem err_kit (f:L2.ExcC K D):KitX K (.ref x) (.ref D) fun h=>InstAt h x ox D od where
 ty _ _ _ I:=I.type
 ca inK I want:=a6f f.hg f.hk f.hs f.hm (a6g f.hd f.ha f.hn f.ht) inK I want
 it:=by
  intro M h inK _
  have ⟨_,known,_⟩:=any_some f.hd
  revert known
  unfold clsIn
  split
  ·rename_i at_D
   intro _ A Q E t k q
   unfold isType loadHead
   exact wpAny_bind (wpAny_loadPart (k _ _ (inK _ _ at_D)) (wpAny_pure q))
  ·exact nofun
 ne:=by
  intro h tp dd its n sl inK at_tp
  have ⟨_,known,_⟩:=any_some f.hd
  cases same:(Value.ref D == Value.ref tp) with
  | false=>rfl
  | true =>
   cases beq_iff_eq.mp same
   revert known
   unfold clsIn
   split
   ·rename_i at_D
    cases (inK _ _ at_D).symm.trans at_tp
   ·exact nofun
end
end PySem.W
namespace Sv
open PySem PySem.Spec PyProof.Rows L2
open L2H (RoomH)
structure ExcAt (X:Cx) (H:Hp) (a C:Addr) (oe:Obj) (d:Option Addr):Prop where
 pin:(a,oe)∈X.pn
 z:Zc (.ref C) d oe
 f:∃ vs,oe.data=.fields vs
 d:d=none∨∃ dd ws,d=some dd∧H dd=some (.xd ws)
section
variable {X:Cx} {pins:List (Addr × Obj)} {σ:L2.St} {H:Hp} {s:Shared}
theorem a1M (I:Inv X pins σ H s) {d:Addr} {ws:List (Str × V)} (at_d:H d=some (.xd ws)):∃ od,s.heap.get? d=some od∧∀ (f:Str) (w:V),ws.lookup f=some w→∃ u,PySem.W.lookIn f od=some (some u)∧RelV w u:=by
 have laid:ObjOk X.prog X.w H s.heap d (.xd ws):=I.hok d _ at_d
 have ⟨keeps,named,alike⟩:=laid
 have ⟨od,there,tells⟩:=lookIn_ns named
 refine ⟨od,there,fun f w is=>?_⟩
 have like:=alike f
 rw [is] at like
 have told:=tells f
 cases found:keeps f with
 | none=>rw [found] at like;exact like.elim
 | some u=>rw [found] at like told;exact ⟨u,told,like⟩
theorem a07 {a C:Addr} {oe:Obj} {d:Option Addr} {od:Option Obj} (dict:match d,od with | some p,some o=>s.heap.get? p=some o | none,none=>True | _,_=>False)
  (zc:Zc (.ref C) d oe) (fields:∃ vs,oe.data=.fields vs) (here:s.heap.get? a=some oe):PySem.W.InstAt s.heap a oe C od where
 at_:=here
 cls:=zc.1
 no:=by
  have ⟨_,e⟩:=fields
  simp only [PySem.W.notCls,e]
 dict:=by rw [zc.2];exact dict
theorem ExcAt.inst {a C:Addr} {oe:Obj} {d:Option Addr} (x:ExcAt X H a C oe d) (I:Inv X pins σ H s):∃ od,PySem.W.InstAt s.heap a oe C od:=by
 have here:=(I.pin (a,oe) (zar _ x.pin)).1
 rcases x.d with rfl | ⟨p,ws,rfl,at_p⟩
 ·exact ⟨none,a07 trivial x.z x.f here⟩
 ·have ⟨od,there,_⟩:=a1M I at_p
  exact ⟨some od,a07 there x.z x.f here⟩
end
theorem a3n {X:Cx} {pins:List (Addr × Obj)} {σ:L2.St} {H:Hp} {s:Shared} {a C:Addr} {d:Option Addr} {bare:Bool} {t0:Addr} (I:Inv X pins σ H s) (x:a8R H a C d bare t0) (dict:d=none∨∃ dd ws,d=some dd∧H dd=some (.xd ws)) :
  ∃ oe od,PySem.W.InstAt s.heap a oe C od:=by
 obtain ⟨φ,at_a,says⟩:=x
 have laid:ObjOk X.prog X.w H s.heap a (.ext φ):=I.hok a _ at_a
 obtain ⟨oe,here,zc,vs,fields,_⟩:=says _ laid.1
 rcases dict with rfl | ⟨p,ws,rfl,at_p⟩
 ·exact ⟨oe,none,a07 trivial zc ⟨vs,fields⟩ here⟩
 ·have ⟨od,there,_⟩:=a1M I at_p
  exact ⟨oe,some od,a07 there zc ⟨vs,fields⟩ here⟩
inductive TyP (X:Cx) (H:Hp):V→Value→Prop where
 | held {a C:Addr} {d:Option Addr} {bare:Bool} {t0:Addr} (h:a8R H a C d bare t0) (dict:d=none∨∃ dd ws,d=some dd∧H dd=some (.xd ws)) (c:ExcC X.K C):TyP X H (.ref a) (.ref C)
 | base {v:V} {t:Value} (h:TyX X.K H v t):TyP X H v t
 | exc {a C:Addr} {oe:Obj} {d:Option Addr} (h:ExcAt X H a C oe d) (c:ExcC X.K C):TyP X H (.ref a) (.ref C)
def b8Z (X:Cx):List V→Hp→VK→Prop:=fun xs H Q=>∃ (x c:V) (t u:Value) (b:Bool),xs=[x,c]∧ClsV c u∧TyP X H x t∧PySem.W.kitOne X.K t u=some b∧Q (.bl b) H
theorem a7D {X:Cx}:CallR X (.builtin "isinstance") (b8Z X):=by
 rintro pins s σ H _ us Q I given ⟨_,_,_,_,b,rfl,names,kind,asks,want⟩
 cases kind with
 | base plain=>exact call_isi _ _ _ _ _ _ _ I given ⟨_,_,_,_,b,rfl,names,plain,asks,want⟩
 | held at_a dict cls =>
  obtain ⟨_,rfl,one⟩:∃ u,us=[.ref _,u]∧RelV _ u:=by
   cases given with
   | cons one rest =>
    cases rest with
    | cons two none_left =>
     cases none_left
     cases one
     exact ⟨_,rfl,two⟩
  cases names.eq one
  have ⟨_,_,J⟩:=a3n I at_a dict
  exact PySem.W.kia_one (PySem.W.err_kit cls) I.kIn J asks nofun fun t=>⟨.bl b,_,I.tok t,rfl,want⟩
 | exc at_a cls =>
  cases given with
  | cons one rest =>
   cases rest with
   | cons two none_left =>
    cases none_left
    cases one
    cases names.eq two
    have ⟨_,J⟩:=at_a.inst I
    exact PySem.W.kia_one (PySem.W.err_kit cls) I.kIn J asks nofun fun t=>⟨.bl b,_,I.tok t,rfl,want⟩
def b5P (X:Cx):List V→Hp→VK→Prop:=fun xs H Q=>∃ (x:V) (tp:Addr) (cs:List V) (t:Value) (us:List Value) (b:Bool),xs=[x,.ref tp]∧H tp=some (.tup cs)∧Paired ClsV cs us∧TyP X H x t∧PySem.W.kitAny X.K t us=some b∧Q (.bl b) H
theorem a5V {X:Cx}:CallR X (.builtin "isinstance") (b5P X):=by
 rintro pins s σ H _ us Q I given ⟨x,tp,cs,t,ws,b,rfl,hT,names,kind,asks,want⟩
 cases kind with
 | base plain=>exact call_isiT _ _ _ _ _ _ _ I given ⟨x,tp,cs,t,ws,b,rfl,hT,names,plain,asks,want⟩
 | held at_a dict cls =>
  obtain ⟨u1,u2,rfl,r1,r2⟩:=vals2 given
  cases (show u2=Value.ref tp from r2)
  cases r1
  obtain ⟨_,its,rv,o,h1,h2,n,h3⟩:=(show ObjOk X.prog X.w H s.heap tp (.tup cs) from I.hok tp _ hT)
  have e3:=ClsV.all names rv
  subst e3
  obtain ⟨oc,od,dt,sl⟩:=o
  simp only at h2 h3
  subst h2 h3
  have ⟨_,_,J⟩:=a3n I at_a dict
  exact PySem.W.kia_tup (PySem.W.err_kit cls) I.kIn J h1 asks nofun fun t=>⟨.bl b,_,I.tok t,rfl,want⟩
 | exc at_a cls =>
  obtain ⟨u1,u2,rfl,r1,r2⟩:=vals2 given
  cases (show u2=Value.ref tp from r2)
  cases r1
  obtain ⟨_,its,rv,o,h1,h2,n,h3⟩:=(show ObjOk X.prog X.w H s.heap tp (.tup cs) from I.hok tp _ hT)
  have e3:=ClsV.all names rv
  subst e3
  obtain ⟨oc,od,dt,sl⟩:=o
  simp only at h2 h3
  subst h2 h3
  have ⟨_,J⟩:=at_a.inst I
  exact PySem.W.kia_tup (PySem.W.err_kit cls) I.kIn J h1 asks nofun fun t=>⟨.bl b,_,I.tok t,rfl,want⟩
def a8S (X:Cx) (m0:Option (Addr × Obj)):Prop:=∀ p,m0=some p→p∈X.pn
theorem a0N.p {X:Cx} {m0:Option (Addr × Obj)} (h:a0N X m0):a8S X m0:=fun p e=>by
 subst e
 exact h.2.2
section
variable {X:Cx} {G:Gm} {S:SS} {H:Hp}
theorem a8N (hK:G.K=X.K) (hm:a8S X G.m0) (hc:CellsOk G.toGd S H) {d:D} {v:V} {t:Value} (r:Rep G.toGd S H d v) (e:tyD S d=some t) (ok:a3c G S d):TyP X H v t:=by
 cases d with
 | non=>simp only [Rep] at r;subst r;cases e;exact .base (.base .non)
 | bl _=>simp only [Rep] at r;subst r;cases e;exact .base (.base (.bl _))
 | int _=>simp only [Rep] at r;subst r;cases e;exact .base (.base (.int _))
 | str _=>simp only [Rep] at r;subst r;cases e;exact .base (.base (.str _))
 | lst ds =>
  simp only [Rep] at r
  obtain ⟨p,vs,rfl,a,b⟩:=r
  cases e
  rcases a.sq with (a | ⟨o,a⟩) | ⟨o,its,n,a,c,_⟩
  ·exact .base (.base (.lst a))
  ·exact .base (.base (.frz a))
  ·rw [hK] at a
   exact .base (.kList a c)
 | tup ds =>
  simp only [Rep] at r
  obtain ⟨p,vs,rfl,a,b⟩:=r
  cases e
  rcases a.sq with (a | ⟨o,a⟩) | ⟨o,its,n,a,c,_⟩
  ·exact .base (.base (.tup a))
  ·exact .base (.fTuple a)
  ·rw [hK] at a
   exact .base (.kTuple a c)
 | dic ds =>
  simp only [Rep] at r
  obtain ⟨p,vs,rfl,_,a,b⟩:=r
  cases e
  exact .base (.base (.dK a))
 | obj a =>
  simp only [Rep] at r
  subst r
  have e':(match S a with | some (.lst _)=>some (Value.type "list") | some (.dic _)=>some (.type "dict") | some (.loc _)=>some (.type "dict") | some (.ins C _)=>some (.ref C) | none=>none)=some t:=e
  cases q:S a with
  | none=>rw [q] at e';cases e'
  | some c =>
   rw [q] at e'
   have k:=hc a c q
   cases c with
   | lst _=>cases e';obtain ⟨_,h,_⟩:=k;exact .base (.base (.lst h))
   | dic _=>cases e';obtain ⟨_,h,_⟩:=k;exact .base (.base (.dK h))
   | loc _=>cases e';obtain ⟨_,_,h,_⟩:=k;exact .base (.fDict h)
   | ins C fs =>
    cases e'
    obtain ⟨dx,ws,h,_⟩:=k
    have F:=ok C fs q
    rw [hK] at F
    exact .base (.base (.ins h F.cl F.ha F.hn F.htk F.hm))
 | exc y oe C fs =>
  simp only [Rep] at r
  obtain ⟨d,rfl,⟨z,f⟩,x⟩:=r
  cases e
  have F:=ok.2
  rw [hK] at F
  refine .exc (oe:=oe) (d:=d) ⟨hm _ ok.1,z,f,?_⟩ F
  rcases x with ⟨x,_⟩ | ⟨dd,ws,x,_,y,_⟩
  ·exact .inl x
  ·exact .inr ⟨dd,ws,x,y⟩
 | err y C fs bare =>
  simp only [Rep] at r
  obtain ⟨d,t0,rfl,_,held,_,x⟩:=r
  cases e
  have F:a8w G.K C:=ok
  rw [hK] at F
  refine .held held ?_ F
  rcases x with ⟨x,_⟩ | ⟨dd,ws,x,_,y,_⟩
  ·exact .inl x
  ·exact .inr ⟨dd,ws,x,y⟩
theorem a2U {g:Gd} {fs:List (Str × D)}:∀ {ws:List (Str × V)},a1c g S H fs ws→∀ {f:Str} {d:D},fs.lookup f=some d→∃ v,ws.lookup f=some v∧Rep g S H d v:=by
 induction fs with
 | nil=>intro ws _ f d e;cases e
 | cons p fs ih =>
  intro ws r f d e
  obtain ⟨k,x⟩:=p
  simp only [a1c] at r
  obtain ⟨v,q,rfl,a,b⟩:=r
  rw [List.lookup_cons] at e ⊢
  cases h:f == k with
  | true=>rw [h] at e;cases e;exact ⟨v,rfl,a⟩
  | false=>rw [h] at e;exact ih b e
theorem a7a {g:Gd} {fs:List (Str × D)}:∀ {ws:List (Str × V)},a1c g S H fs ws→∀ {f:Str},fs.lookup f=none→ws.lookup f=none:=by
 induction fs with
 | nil=>intro ws r f _;simp only [a1c] at r;subst r;rfl
 | cons p fs ih =>
  intro ws r f e
  obtain ⟨k,x⟩:=p
  simp only [a1c] at r
  obtain ⟨v,q,rfl,a,b⟩:=r
  rw [List.lookup_cons] at e ⊢
  cases h:f == k with
  | true=>rw [h] at e;cases e
  | false=>rw [h] at e;exact ih b e
theorem a90 {W:WX} {e:Expr} {f:Str} {pos:Pos} {t:RdE} (hK:G.K=X.K) (hm:a8S X G.m0) (he:PE X e (LE G.toGd W t)) (hb:attributeBase e f X.env (eval e X.env)=eval e X.env) :
  PE X (.Attribute e f pos) (LE G.toGd W fun δ S Y K=>t δ S Y fun x S1=>a7O G f x S1 K):=by
 refine ⟨fun pins s σ H Q I h=>?_⟩
 obtain ⟨δ,S,Y,K,R,ht,res,rw'⟩:=h
 refine attr_of hb (thn (he.run pins s σ H (fun v H1=>∃ d S1,a7O G f d S1 K∧a0a S H S1 H1∧CellsOk G.toGd S1 H1∧Rep G.toGd S1 H1 d v) I ⟨δ,S,Y,_,R,ht,fun d S1 v H1 k P c r=>⟨d,S1,k,P,c,r⟩,rw'⟩) fun u s1 hh=>?_)
 obtain ⟨v,H1,I1,rv,d,S1,k,P,c,r⟩:=hh
 unfold a7O at k
 split at k
 ·rename_i a
  cases a0n r
  cases rv
  obtain ⟨C,fs,x,e1,cl,na,l,q⟩:=k
  obtain ⟨dx,ws,ha,hf⟩:=c _ _ e1
  obtain ⟨w,lw,rw2⟩:=a2U hf l
  rw [hK] at cl na
  exact getattr_ok I1 ha cl na lw fun u s' I' ru=>⟨w,H1,I',ru,res _ S1 _ _ q P c rw2⟩
 ·rename_i y oe C fs
  obtain ⟨mine,cls,apart,x,has,q⟩:=k
  simp only [Rep] at r
  obtain ⟨d,rfl,⟨zc,fields⟩,bare | ⟨p,ws,hasD,_,at_p,same⟩⟩:=r
  ·rw [bare.2] at has
   exact nomatch has
  ·cases rv
   rw [hK] at cls apart
   have ⟨w,is,like⟩:=a2U same has
   have ⟨od,there,keeps⟩:=a1M I1 at_p
   have ⟨u,kept,ru⟩:=keeps f w is
   have here:=(I1.pin (y,oe) (zar _ (hm _ mine))).1
   exact HandSPX.exc_get I1.kIn (a07 (by rw [hasD];exact there) zc fields here) cls.hg cls.hk cls.hs (PySem.W.findObj_own cls.hd apart rfl kept) (handed_of ru) ⟨w,H1,I1.tok _,ru,res _ S1 _ _ q P c like⟩
 ·rename_i y C fs bare
  obtain ⟨cls,apart,x,has,q⟩:=k
  simp only [Rep] at r
  obtain ⟨d,t0,rfl,_,⟨φ,at_y,says⟩,_,none_ | ⟨p,ws,hasD,_,at_p,same⟩⟩:=r
  ·rw [none_.2] at has
   exact nomatch has
  ·cases rv
   rw [hK] at cls apart
   have laid:ObjOk X.prog X.w H1 s1.heap y (.ext φ):=I1.hok y _ at_y
   obtain ⟨oe,here,zc,vs,fields,_⟩:=says _ laid.1
   have ⟨w,is,like⟩:=a2U same has
   have ⟨od,there,keeps⟩:=a1M I1 at_p
   have ⟨u,kept,ru⟩:=keeps f w is
   exact HandSPX.exc_get I1.kIn (a07 (by rw [hasD];exact there) zc ⟨vs,fields⟩ here) cls.hg cls.hk cls.hs (PySem.W.findObj_own cls.hd apart rfl kept) (handed_of ru) ⟨w,H1,I1.tok _,ru,res _ S1 _ _ q P c like⟩
 ·exact k.elim
end
end Sv
namespace Sv
open PySem PySem.Spec PyProof.Rows L2
open L2H (RoomH)
def b3v (K:zbd) (w:World) (p:Addr) (kvs:List (Key × D)):Prop:=∃ es n,KDict K w p es n∧∀ z:Str,match valD kvs (.inr z) with
 | some d=>∃ u v,PySem.W.nsIn K p z=some (some u)∧RelV v u∧∀ S H,Rep ⟨K⟩ S H d v
 | none=>PySem.W.nsIn K p z=some none
structure GOk (n:SN) (P:Program) (w:World) (KK:zbd) (mg:Str→Option Value) (base:Heap) (G:Gm) (k:Nat):Prop where
 K:G.K=KK
 nd:n.N.Nodup
 fn:∀ h j T x,G.fn h j=some T→n.fns[j]?=some (.fn x)→∃ f fd ps,mg x=some (.ref f)∧PySem.W.keepIn KK (.ref f)=true∧L2.Binds KK fd ps []∧FnG P w KK mg base h k f fd ps (spD G.toGd T)
 meth:∀ h j T C m,G.fn h j=some T→n.fns[j]?=some (.mt C m)→∃ f fd ps,Cls KK (G.mc j)∧Meth KK (G.mc j) m f∧L2.Binds KK fd ps []∧FnG P w KK mg base h k f fd ps (spD G.toGd T)
 made:∀ j T C,G.fn false j=some T→n.fns[j]?=some (.mt C "__init__")→mg C=some (.ref (G.mc j))∧∃ f fd ps kI,Mk KK (G.mc j) f∧L2.Binds KK fd ps []∧kI + 1≤k∧FnG P w KK mg base false kI f fd ps (spD G.toGd T)
 gv:∀ j x,n.gvs[j]?=some x→∃ v u,mg x=some u∧RelV v u∧∀ S H,Rep G.toGd S H (G.gv j) v
 cl:∀ j x,n.cls[j]?=some x→mg x=some (.ref (G.cl j))
 bt:∀ x,x∈a2x→mg x=none
 kd:∀ j x kvs,n.gvs[j]?=some x→G.kd j=some kvs→∃ p,mg x=some (.ref p)∧b3v KK w p kvs
structure a8Y (X:Cx) (sc:Scope):Prop where
 vis:∀ x,b3p sc x=true→Vis X.env.scope x
 loc:∀ x,a5J sc x=true→Loc X.env.scope x∧(X.fn x=true∨X.env.scope.names.lookup x=some .local)
 gl:∀ x,glB sc x=true→Gl X x
 fr:∀ x,sc.names.lookup x=some .cell∨sc.names.lookup x=some .free→X.env.scope.names.lookup x=some .cell∨X.env.scope.names.lookup x=some .free
structure XC (n:SN) (X:Cx) (G:Gm) (W:WX) (k:Nat) (sc:Scope):Prop where
 ok:GOk n X.prog X.w X.K X.mg X.base G k
 N:X.N=n.N
 sc:a8Y X sc
 rm:RoomH k X.A
 md:a0N X G.m0
 tk:L2N.Takes X W
 ps:PassesOwn (model X.prog X.w) X.A X.env X.xe
abbrev noW:WX:=fun _ _ _ _=>False
theorem a2B {env:Env}:∀ {names:List (Str × NameKind)} {x:Str} {k:NameKind},names.lookup x=some k →
  (names.map fun (n,k)=>if (k == NameKind.free && env.scope.kind == .function && env.kindOf n == some .cell) then (n,NameKind.cell) else (n,k)).lookup x=some k ∨
  (k=.free∧(names.map fun (n,k)=>if (k == NameKind.free && env.scope.kind == .function && env.kindOf n == some .cell) then (n,NameKind.cell) else (n,k)).lookup x=some .cell)
 | [],_,_,h=>by simp at h
 | (m,j) :: r,x,k,h=>by
  have ih:=@a2B env r x k
  rw [zav]
  cases hx:x == m with
  | true =>
   rw [List.lookup_cons,hx] at h
   cases h
   by_cases q:(j == NameKind.free && env.scope.kind == .function && env.kindOf m == some .cell)=true
   ·right
    refine ⟨?_,?_⟩
    ·simp only [zak,beq_iff_eq] at q
     cases j <;> first | rfl | (have:=q.1.1;simp at this;done) | (exact absurd q.1.1 (by decide))
    ·simp only [q,if_true];rw [List.lookup_cons,hx]
   ·left
    simp only [q,if_false,Bool.false_eq_true];rw [List.lookup_cons,hx]
  | false =>
   rw [List.lookup_cons,hx] at h
   have e:∀ z:NameKind,List.lookup x ((m,z) :: r.map fun (n,k)=>if (k == NameKind.free && env.scope.kind == .function && env.kindOf n == some .cell) then (n,NameKind.cell) else (n,k)) =
     List.lookup x (r.map fun (n,k)=>if (k == NameKind.free && env.scope.kind == .function && env.kindOf n == some .cell) then (n,NameKind.cell) else (n,k)):=fun z=>by rw [List.lookup_cons,hx]
   dsimp only
   split
   ·rw [e];exact ih h
   ·rw [e];exact ih h
section
variable {n:SN} {X:Cx} {G:Gm} {W:WX} {k:Nat} {sc:Scope}
theorem a8Y.self (hf:∀ x,X.fn x=true):a8Y X X.env.scope :=
 ⟨fun _ h=>a7r h,fun x h=>⟨a6H h,.inl (hf x)⟩,fun _ h=>a8A h,fun _ h=>h⟩
theorem XC.nd (c:XC n X G W k sc):X.N.Nodup:=c.N ▸ c.ok.nd
theorem XC.un (c:XC n X G W k sc):X.A.units + 65 < cLine:=by have:=c.rm.un;omega
theorem XC.at (c:XC n X G W k sc) {i:Nat} {x:Str} (h:nmB n.N i x=true):X.N[i]?=some x:=c.N ▸ (a0r h).1
theorem a8Y.blk {s:Shared} {H:Hp} {scope:Scope} {C:Addr} {cl:List (Str × Addr)} {fp:List Addr}:a8Y (X.blk s H scope (compEnvC scope cl C X.env) fp) scope:=by
 have key:∀ {x k},scope.names.lookup x=some k→(X.blk s H scope (compEnvC scope cl C X.env) fp).env.scope.names.lookup x=some k∨(k=.free∧(X.blk s H scope (compEnvC scope cl C X.env) fp).env.scope.names.lookup x=some .cell):=fun {x k} h=>a2B (env:=X.env) h
 refine ⟨fun x h=>?_,fun x h=>?_,fun x h=>?_,fun x h=>?_⟩
 ·rcases a7r h with h | h | h <;> rcases key h with q | ⟨_,q⟩
  ·exact .inl q
  ·exact .inr (.inl q)
  ·exact .inr (.inl q)
  ·exact .inr (.inl q)
  ·exact .inr (.inr q)
  ·exact .inr (.inl q)
 ·rcases a6H h with h | h <;> rcases key h with q | ⟨e,q⟩
  ·exact ⟨.inl q,.inr q⟩
  ·cases e
  ·refine ⟨.inr q,.inl ?_⟩
   show (scope.names.lookup x == some .cell)=true
   rw [h];rfl
  ·cases e
 ·rcases key (a8A h) with q | ⟨e,_⟩
  ·exact q
  ·cases e
 ·rcases h with h | h <;> rcases key h with q | ⟨_,q⟩
  ·exact .inl q
  ·exact .inl q
  ·exact .inr q
  ·exact .inl q
theorem XC.blk (c:XC n X G W k sc) (hm:G.m0=none) {s:Shared} {H:Hp} {scope:Scope} {C:Addr} {cl:List (Str × Addr)} {fp:List Addr}:XC n (X.blk s H scope (compEnvC scope cl C X.env) fp) G noW k scope :=
 ⟨c.ok,c.N,a8Y.blk,c.rm,by have:=c.md;rw [hm] at this ⊢;exact this,fun u s' ⟨_,_,_,_,_,_,_,_,_,_,_,_,_,_,_,_,z⟩=>z.elim,PassesOwn.never⟩
theorem XC.vis (c:XC n X G W k sc) {x:Str} (h:b3p sc x=true):Vis X.env.scope x:=c.sc.vis x h
theorem XC.loc (c:XC n X G W k sc) {x:Str} (h:a5J sc x=true):Loc X.env.scope x:=(c.sc.loc x h).1
theorem XC.sto (c:XC n X G W k sc) {x:Str} (h:a5J sc x=true):X.fn x=true∨X.env.scope.names.lookup x=some .local:=(c.sc.loc x h).2
theorem XC.gl (c:XC n X G W k sc) {x:Str} (h:glB sc x=true):Gl X x:=c.sc.gl x h
end
def LG (g:Gd) (t:D→DS→SS→(DS→SS→Prop)→Prop):TG:=fun v σ H Q=>∃ d δ S K,Rel g S H δ σ∧Rep g S H d v∧t d δ S K∧∀ δ' S' σ' H',K δ' S'→a0a S H S' H'→Rel g S' H' δ' σ'→Q σ' H'
section
variable {n:SN} {X:Cx} {G:Gm} {W:WX} {k:Nat} {sc:Scope}
theorem PG.imp {e:Expr} {t t':TG} (h:PG X e t) (w:∀ v σ H Q,t' v σ H Q→t v σ H Q):PG X e t':=⟨fun pins s σ H v u Q I r q=>h.run pins s σ H v u Q I r (w v σ H Q q)⟩
def a3l:List Nat→TGs
 | []=>gNil
 | i :: is=>gCons (gName i) (a3l is)
theorem a2e (c:XC n X G W k sc):∀ (is:List Nat) (xs:List Expr),a5W n sc is xs=true→PGs X xs (a3l is)∧(assignEach xs X.env).length=is.length∧(assignEach xs X.env).findIdx? (·.1)=none
 | [],xs,h=>by
  unfold a5W at h
  cases xs with
  | nil=>exact ⟨pgs_nil,rfl,rfl⟩
  | cons _ _=>cases h
 | i :: is,xs,h=>by
  unfold a5W at h
  split at h
  ·rename_i y p ys
   simp only [zak] at h
   obtain ⟨h1,h2,h3⟩:=a2e c is ys h.2
   refine ⟨pgs_cons (pg_name c.nd (c.at h.1.1) (c.loc h.1.2) (c.sto h.1.2)) h1,?_,?_⟩
   ·show (assignEach (Expr.Name y p :: ys) X.env).length=_
    unfold assignEach
    rw [zaw,zaw,h2]
   ·show (assignEach (Expr.Name y p :: ys) X.env).findIdx? _=none
    unfold assignEach
    rw [List.findIdx?_cons,h3];rfl
  ·cases h
theorem a2D {g:Gd} {S:SS} {H:Hp}:∀ (is:List Nat) (ds:List D) (vs:List V) (δ:DS) (σ:L2.St) (Q:L2.St→Hp→Prop),Rel g S H δ σ→a0c g S H ds vs→ds.length=is.length→(∀ σ',Rel g S H (a2k δ is ds) σ'→Q σ' H)→a3l is vs σ H Q
 | [],ds,vs,δ,σ,Q,R,r,l,h=>by
  cases ds with
  | nil=>simp only [a0c] at r;subst r;exact ⟨rfl,h σ R⟩
  | cons _ _=>cases l
 | i :: is,ds,vs,δ,σ,Q,R,r,l,h=>by
  cases ds with
  | nil=>cases l
  | cons d ds =>
   simp only [a0c] at r
   obtain ⟨v,q,rfl,a,b⟩:=r
   exact ⟨v,q,rfl,a2D is ds q _ _ Q ⟨R.sl.set a,R.ce⟩ b (by simpa using l) h⟩
end
section
variable {g:Gd} {W:WX}
def LE1 (g:Gd) (W:WX) (t:D→RdE) (v:V):TE:=fun σ H Q=>∃ x δ S Y K,Rel g S H δ σ∧Rep g S H x v∧t x δ S Y K∧Res g S H K Q∧a3L g S H Y W
theorem a0p {t1:RdE} {t2:D→RdE} {σ:L2.St} {H:Hp} {Q:VK} (h:LE g W (fun δ S Y K=>t1 δ S Y fun x S1=>t2 x δ S1 Y K) σ H Q):LE g W t1 σ H fun v H1=>LE1 g W t2 v σ H1 Q:=by
 obtain ⟨δ,S,Y,K,R,ht,res,rw'⟩:=h
 exact ⟨δ,S,Y,_,R,ht,fun d S1 v H1 k P c r=>⟨d,δ,S1,Y,K,R.mono P c,r,k,res.mono P,rw'.mono P⟩,rw'⟩
def LE2 (g:Gd) (W:WX) (t:D→D→RdE) (v u:V):TE:=fun σ H Q=>∃ x y δ S Y K,Rel g S H δ σ∧Rep g S H x v∧Rep g S H y u∧t x y δ S Y K∧Res g S H K Q∧a3L g S H Y W
theorem a09 {t1:RdE} {t2:D→D→RdE} {σ:L2.St} {H:Hp} {Q:VK} {v:V} (h:LE1 g W (fun x δ S Y K=>t1 δ S Y fun y S1=>t2 x y δ S1 Y K) v σ H Q):LE g W t1 σ H fun u H1=>LE2 g W t2 v u σ H1 Q:=by
 obtain ⟨x,δ,S,Y,K,R,r0,ht,res,rw'⟩:=h
 exact ⟨δ,S,Y,_,R,ht,fun d S1 u H1 k P c r=>⟨x,d,δ,S1,Y,K,R.mono P c,r0.mono P,r,k,res.mono P,rw'.mono P⟩,rw'⟩
theorem a3v {t:D→D→SS→DK→Prop} {σ:L2.St} {H:Hp} {Q:VK} {v u:V} (h:LE2 g W (fun x y _ S _ K=>t x y S K) v u σ H Q):rD2 g t v u H Q:=by
 obtain ⟨x,y,δ,S,Y,K,R,r1,r2,ht,res,_⟩:=h
 exact ⟨x,y,S,K,R.ce,r1,r2,ht,res⟩
theorem a9C {t:RdE} {σ:L2.St} {H:Hp} {Q:Bool→Hp→Prop} (h:LT g W (fun δ S Y K=>t δ S Y fun d S'=>∃ k,d=.bl k∧K k S') σ H Q):LE g W t σ H fun v H'=>∃ k,v=.bl k∧Q k H':=by
 obtain ⟨δ,S,Y,K,R,ht,res,rw'⟩:=h
 refine ⟨δ,S,Y,_,R,ht,fun d S1 v H1 k P c r=>?_,rw'⟩
 obtain ⟨b,rfl,k⟩:=k
 exact ⟨b,a1t r,res b S1 H1 k P c⟩
theorem b1V {K:zbd} (hK:g.K=K) {t:RdE} {σ:L2.St} {H:Hp} {Q:Bool→Hp→Prop} (h:LT g W (fun δ S Y K=>t δ S Y fun d S'=>a0R d S' fun b=>K b S') σ H Q):LE g W t σ H fun v H'=>∃ k,TruV K v H' k∧Q k H':=by
 obtain ⟨δ,S,Y,K',R,ht,res,rw'⟩:=h
 refine ⟨δ,S,Y,_,R,ht,fun d S1 v H1 k P c r=>?_,rw'⟩
 subst hK
 have X0:∃ k,TruV g.K v H1 k∧K' k S1:=by
  have k:a0R d S1 fun b=>K' b S1:=k
  unfold a0R at k
  split at k
  ·rename_i e;cases a8O r e;exact ⟨false,rfl,k⟩
  ·rename_i b e;cases b3q r e;exact ⟨b,rfl,k⟩
  ·rename_i b e;cases a5j r e;exact ⟨_,rfl,k⟩
  ·rename_i b e;cases a1x r e;exact ⟨_,⟨k.1,rfl⟩,k.2⟩
  ·rename_i ds e
   obtain ⟨p,vs,rfl,hl,hr⟩:=a0g c r e
   exact ⟨_,.inl ⟨vs,hl,rfl⟩,by rw [a0O hr];exact k⟩
  ·rename_i ds e
   obtain ⟨p,vs,rfl,hl,hr⟩:=a0s r e
   exact ⟨_,.inr (.inl ⟨vs,hl,rfl⟩),by rw [a0O hr];exact k⟩
  ·exact k.elim
 obtain ⟨b,tv,k⟩:=X0
 exact ⟨b,tv,res b S1 H1 k P c⟩
end
section
variable {n:SN} {X:Cx} {G:Gm} {W:WX} {k:Nat} {sc:Scope}
theorem a0w {x:Expr} {t:RdE} (h:∀ δ S Y K,¬ t δ S Y K):PE X x (LE G.toGd W t):=⟨fun _ _ _ _ _ _ ⟨_,_,_,_,_,q,_⟩=>(h _ _ _ _ q).elim⟩
theorem a4X {x:Expr} {t:RdT} (h:∀ δ S Y K,¬ t δ S Y K):PT X x (LT G.toGd W t):=⟨fun _ _ _ _ _ _ ⟨_,_,_,_,_,q,_⟩=>(h _ _ _ _ q).elim⟩
theorem a4Z {x:Expr} {t:RdT} (h:∀ δ S Y K,¬ t δ S Y K):PW X x (LT G.toGd W t):=⟨fun _ _ _ _ _ _ _ ⟨_,_,_,_,_,q,_⟩=>(h _ _ _ _ q).elim⟩
theorem b5M {x:Expr} {t:RdE} (c:XC n X G W k sc) (h:PE X x (LE G.toGd W t)) (hp:plainT x=true):PT X x (LT G.toGd W fun δ S Y K=>t δ S Y fun d S'=>a0R d S' fun b=>K b S') :=
 PT.imp (pt_truth h fun whole=>plainT_ok hp whole) fun σ H Q q=>b1V c.ok.K q
end
end Sv
namespace Sv
open PySem PySem.Spec PySem.Calls PyProof.Rows L2
section
variable {prog:Program} {w:World} {A:Around} {E:Value→Shared→Prop} {s:Shared}
theorem a4M {h h':Heap} {it l:Addr} {us:Array Value} (a:h.IsList l us) (k:Heap.SameBut it h h') (ne:l≠it):h'.IsList l us:=by
 obtain ⟨o,e,r⟩:=a
 exact ⟨o,k.extBut l o ne e,r⟩
theorem a6c {it l:Addr} {us:Array Value} (ne:l≠it):∀ (k i:Nat) (s:Shared) (Q:List Value→Shared→Prop),s.heap.IsListIter it l i→s.heap.IsList l us→i + k≤us.size →
  (∀ h',h'.IsListIter it l (i + k)→Heap.SameBut it s.heap h'→Q ((us.toList.drop i).take k) { s with heap:=h' })→wpAny (model prog w) A (draw (.ref it) k) Q E s
 | 0,i,s,Q,a,_,_,fin=>by
  have:=fin s.heap a (Heap.SameBut.refl ..)
  rw [List.take_zero] at this
  exact wpAny_pure this
 | k + 1,i,s,Q,a,b,le,fin=>by
  have lt:i < us.size:=by omega
  have at_i:us[i]?=some us[i]:=by simp [lt]
  show wpAny _ _ (pyNext _ >>= _) Q E s
  refine wpAny_bind (wpAny_pyNext_list_item a b at_i fun h1 a1 k1=>?_)
  refine wpAny_bind (wpAny_holding (a6c ne k (i + 1) _ _ a1 (a4M b k1 ne) (by omega) fun h2 a2 k2=>?_))
  refine wpAny_pure ?_
  have r:=fin h2 (by rw [show i + (k + 1)=i + 1 + k by omega];exact a2) (k1.trans k2)
  rw [List.drop_eq_getElem_cons (by rw [Array.length_toList];exact lt),List.take_succ_cons] at r
  exact r
theorem a84 {l:Addr} {us:Array Value} {Q:List Value→Shared→Prop} (calm:A.handled=none) (b:s.heap.IsList l us) (fin:∀ h',Heap.ExtBut s.heap.objs.size s.heap h'→Q us.toList { s with heap:=h' }) :
  wpAny (model prog w) A (unpackItems (.ref l) us.size none) Q E s:=by
 have ne:l≠s.heap.objs.size:=by
  obtain ⟨o,e,_⟩:=b
  exact Nat.ne_of_lt (Heap.lt_size e)
 unfold unpackItems
 refine wpAny_bind ?_
 unfold notIterableAtAll
 refine wpAny_bind (wpAny_specialOf b.typeIs slot_list_iter.lookup ?_)
 refine wpAny_pure ?_
 simp only [Bool.false_eq_true,if_false]
 refine wpAny_bind (wpAny_holding ?_)
 refine wpAny_pyIter_list b ?_
 have bp:(s.heap.push { cls:=.type "list_iterator",data:=.fields #[.ref l,.int 0 0] }).IsList l us:=by
  obtain ⟨o,e,r⟩:=b
  exact ⟨o,Heap.get?_push_of_some _ e,r⟩
 refine wpAny_bind (wpAny_holding ?_)
 refine a6c ne us.size 0 _ _ ⟨_,Heap.get?_push_size _ rfl,rfl,rfl⟩ bp (by omega) fun h1 a1 k1=>?_
 rw [List.drop_zero,List.take_of_length_le (by simp),if_neg (by simp)]
 refine wpAny_bind (wpAny_holding ?_)
 refine wpAny_pyNext_list_end calm a1 (a4M bp k1 ne) (by simp) fun h2 k2=>?_
 simp only [Option.isSome_none,Bool.false_eq_true,if_false]
 exact wpAny_pure (fin h2 fun b o hb e=>k2 b o hb (k1.extBut b o hb (Heap.get?_push_of_some _ e)))
theorem a9G {env:Env} {es:List Expr} {x1} {pos:Pos} {l:Addr} {us:Array Value} {Q:Unit→Shared→Prop} (calm:A.handled=none) (b:s.heap.IsList l us) (len:(assignEach es env).length=us.size) (nostar:(assignEach es env).findIdx? (·.1)=none)
  (fin:∀ h',Heap.ExtBut s.heap.objs.size s.heap h'→wpAny (model prog w) A (assignInOrder ((assignEach es env).map (·.2)) us.toList) Q E { s with heap:=h' }):wpAny (model prog w) A (assign (.Tuple es x1 pos) env (.ref l)) Q E s:=by
 rw [assign_Tuple]
 refine wpAny_bind (wpAny_standAt ?_)
 unfold unpack
 rw [len,nostar]
 exact wpAny_bind (wpAny_holding (a84 calm b fin))
end
section
variable {X:Cx} {pos:Pos}
def gLst (K:zbd) (n:Nat) (t:TGs):TG:=fun v σ H Q=>∃ a xs,v=.ref a∧SqL K H a xs∧xs.length=n∧t xs σ H Q
theorem pg_lst {es:List Expr} {k:Nat} {t:TGs} {n:Nat} (calm:X.calm=true) (h:PGs X es t) (len:(assignEach es X.env).length=n) (nostar:(assignEach es X.env).findIdx? (·.1)=none):PG X (.Tuple es k pos) (gLst X.K n t):=by
 constructor
 rintro pins s σ H v u Q inv rel ⟨a,xs,rfl,seq,lx,told⟩
 cases rel
 obtain ⟨its,vals,at_its,_⟩:=inv.list seq
 refine a9G (inv.ok.hd calm) at_its.isList (by simp [len,← lx,vals.length]) nostar fun h' keep=>?_
 have inv2:Inv X pins σ H { s with heap:=h' }:=inv.kept (t':=s.toks) fun b o e=>keep b o (Nat.ne_of_lt (Heap.lt_size e)) e
 exact h.run pins _ σ H xs _ Q inv2 (by simpa using vals) told
end
section
variable {n:SN} {X:Cx} {G:Gm} {W:WX} {k:Nat} {sc:Scope}
theorem b8Y (c:XC n X G W k sc) {tg:List Nat} {x:Expr} (calm:X.calm=true) (h:a0D n sc tg false x=true):PG X x (LG G.toGd fun d δ S K=>∃ ds,vw S d=.lst ds∧ds.length=tg.length∧K (a2k δ tg ds) S):=by
 unfold a0D at h
 rw [if_neg zaz] at h
 split at h
 ·rename_i xs kk p
  obtain ⟨h1,h2,h3⟩:=a2e c _ _ h
  refine PG.imp (pg_lst calm h1 h2 h3) ?_
  rintro v σ H Q ⟨d,δ,S,K,R,r,⟨ds,e,l,hk⟩,q⟩
  obtain ⟨p,vs,rfl,hl,hr⟩:=a0g R.ce r e
  rw [c.ok.K] at hl
  refine ⟨p,vs,rfl,hl,by rw [← hr.length];exact l,?_⟩
  exact a2D tg ds vs δ σ Q R hr l fun σ' R'=>q _ _ _ _ hk (a0a.refl _ _) R'
 ·cases h
end
end Sv
namespace Sv
open PySem PySem.Spec PyProof.Rows L2
open L2H (RoomH)
theorem a2m:∀ {es:List Expr} {env:Env} {pos:Pos},es.all a0m=true→(backTo pos (starEach es env)).all (fun x=>!x.1)=true
 | [],_,_,_=>rfl
 | e :: es,env,pos,h=>by
  rw [List.all_cons,zak] at h
  rw [a0b h.1]
  have q:=a2m (env:=env) (pos:=pos) h.2
  simpa [backTo] using q
theorem a6K {o:Expr} {args:List Expr} {name:Str} {apos pos:Pos} {env:Env} (h1:a6N o=true) (h2:args.all a0m=true) (h3:args.length < 30) (h4:(apos.endLine == pos.line)=true) :
  eval (.Call (.Attribute o name apos) args [] pos) env=(do
   let ov ← eval o env
   standAt apos.atName
   let (f,first) ← holding [ov] (getMethod ov name (do return (← importBound o env).getD true))
   callWith pos f first (backTo pos (starEach args env)) (backToKw pos (keywordEach [] env))):=by
 show (do
  let ov ← attributeBase o name env (eval o env)
  standAt apos.atName
  methodCall o name apos pos env ov (args.length + ([]:List Keyword).length) (backTo pos (starEach args env)) (backToKw pos (keywordEach [] env)))=_
 rw [a1B h1]
 have hform:methodCallForm (args.length + ([]:List Keyword).length) (backTo pos (starEach args env)) (backToKw pos (keywordEach [] env))=true:=by
  unfold methodCallForm
  rw [a2m h2]
  show (true && true && decide (args.length + 0 + (if true=true then 0 else 1) < 30))=true
  simpa using h3
 have hpos:methodCallPos true o env apos pos=pure pos:=by unfold methodCallPos;simp [h4]
 congr 1
 funext ov
 congr 1
 funext _
 unfold methodCall
 rw [hform,hpos]
 unfold calleeOf
 simp
end Sv
namespace Sv
open PySem PySem.Spec PyProof.Rows L2
open L2H (RoomH)
def RL.len:RL→Nat
 | .nil=>0 | .cons _ r=>r.len + 1
structure a8Z (n:SN) (sc:Scope) (e:RE) (x:Expr):Prop where
 v:∀ X G W k,XC n X G W k sc→PE X x (LE G.toGd W (den G e))
 t:∀ X G W k,XC n X G W k sc→PT X x (LT G.toGd W (a0j G e))
structure a5I (n:SN) (sc:Scope) (es:RL) (xs:List Expr):Prop where
 a:∀ X G W k,XC n X G W k sc→PA X xs (LA G.toGd W (a0l G es))
 and:∀ X G W k pos,XC n X G W k sc→PE X (.BoolOp .And xs pos) (LE G.toGd W (a0z G es))
 or:∀ X G W k pos,XC n X G W k sc→PE X (.BoolOp .Or xs pos) (LE G.toGd W (a01 G es))
 tand:∀ X G W k pos,XC n X G W k sc→PW X (.BoolOp .And xs pos) (LT G.toGd W (a0u G es))
 tor:∀ X G W k pos,XC n X G W k sc→PW X (.BoolOp .Or xs pos) (LT G.toGd W (a0F G es))
 st:xs.all a0m=true
 nl:xs=[]→es=.nil
 ne:es.len=xs.length
def b0G (n:SN) (sc:Scope) (i:RI) (x:Expr):Prop:=∀ X G W k tg,XC n X G W k sc→G.m0=none→(i.two=true→∃ elts kk tpos,tg=.Tuple elts kk tpos)→PI X tg x (LI G.toGd W (a0y G i))
theorem LE.then {g:Gd} {W:WX} {t:RdE} {σ:L2.St} {H:Hp} {Q Q':VK} (h:LE g W t σ H Q) (w:∀ v H',Q v H'→Q' v H'):LE g W t σ H Q':=by
 obtain ⟨δ,S,Y,K,R,ht,res,rw'⟩:=h
 exact ⟨δ,S,Y,K,R,ht,fun d S1 v H1 k P c r=>w _ _ (res d S1 v H1 k P c r),rw'⟩
theorem LT.then {g:Gd} {W:WX} {t:RdT} {σ:L2.St} {H:Hp} {Q Q':Bool→Hp→Prop} (h:LT g W t σ H Q) (w:∀ v H',Q v H'→Q' v H'):LT g W t σ H Q':=by
 obtain ⟨δ,S,Y,K,R,ht,res,rw'⟩:=h
 exact ⟨δ,S,Y,K,R,ht,fun d S1 v k P c=>w _ _ (res d S1 v k P c),rw'⟩
theorem LA.then {g:Gd} {W:WX} {t:RdL} {σ:L2.St} {H:Hp} {Q Q':List V→Hp→Prop} (h:LA g W t σ H Q) (w:∀ v H',Q v H'→Q' v H'):LA g W t σ H Q':=by
 obtain ⟨δ,S,Y,K,R,ht,res,rw'⟩:=h
 exact ⟨δ,S,Y,K,R,ht,fun d S1 v H1 k P c r=>w _ _ (res d S1 v H1 k P c r),rw'⟩
theorem LE.re {g:Gd} {W:WX} {t t':RdE} {σ:L2.St} {H:Hp} {Q:VK} (h:LE g W t σ H Q) (w:∀ δ S Y K,t δ S Y K→t' δ S Y K):LE g W t' σ H Q:=by
 obtain ⟨δ,S,Y,K,R,ht,res,rw'⟩:=h
 exact ⟨δ,S,Y,K,R,w _ _ _ _ ht,res,rw'⟩
theorem LT.re {g:Gd} {W:WX} {t t':RdT} {σ:L2.St} {H:Hp} {Q:Bool→Hp→Prop} (h:LT g W t σ H Q) (w:∀ δ S Y K,t δ S Y K→t' δ S Y K):LT g W t' σ H Q:=by
 obtain ⟨δ,S,Y,K,R,ht,res,rw'⟩:=h
 exact ⟨δ,S,Y,K,R,w _ _ _ _ ht,res,rw'⟩
section
variable {n:SN} {X:Cx} {G:Gm} {W:WX} {k:Nat} {sc:Scope} {a b c':RE} {l r t:Expr} {pos:Pos} {es:RL} {xs:List Expr}
theorem a1Y {g:Gd} {t1:RdL} {t2:List D→RdE} {σ:L2.St} {H:Hp} {Q:VK} (h:LE g W (fun δ S Y K=>t1 δ S Y fun x S1=>t2 x δ S1 Y K) σ H Q) :
  LA g W t1 σ H fun vs H1=>∃ xs δ S Y K,Rel g S H1 δ σ∧a0c g S H1 xs vs∧t2 xs δ S Y K∧Res g S H1 K Q∧a3L g S H1 Y W:=by
 obtain ⟨δ,S,Y,K,R,ht,res,rw'⟩:=h
 exact ⟨δ,S,Y,_,R,ht,fun d S1 v H1 k P c r=>⟨d,δ,S1,Y,K,R.mono P c,r,k,res.mono P,rw'.mono P⟩,rw'⟩
theorem b5V {op:Operator} (c:XC n X G W k sc) (ha:PE X l (LE G.toGd W (den G a))) (hb:PE X r (LE G.toGd W (den G b))):PE X (.BinOp l op r pos) (LE G.toGd W (den G (.bin op a b))) :=
 PE.imp (pe_op (b2c c.ok.K op) ha hb) fun σ H Q h=>by
  rw [den] at h
  exact (a0p (t1:=den G a) (t2:=fun x δ S1 Y K=>den G b δ S1 Y fun y S2=>opD op x y S2 K) h).then fun v H1 q =>
   (a09 (t1:=den G b) (t2:=fun x y δ S2 Y K=>opD op x y S2 K) q).then fun u H2 q=>a3v q
theorem b5T (c:XC n X G W k sc) (ha:PE X l (LE G.toGd W (den G a))) (hb:PE X r (LE G.toGd W (den G b))):PE X (.BinOp l .Add r pos) (LE G.toGd W (den G (.adc a b))) :=
 PE.imp (pe_op (b0L c.ok.K) ha hb) fun σ H Q h=>by
  rw [den] at h
  exact (a0p (t1:=den G a) (t2:=fun x δ S1 Y K=>den G b δ S1 Y fun y S2=>a80 x y S2 K) h).then fun v H1 q =>
   (a09 (t1:=den G b) (t2:=fun x y δ S2 Y K=>a80 x y S2 K) q).then fun u H2 q=>a3v q
theorem b6O (ha:PE X l (LE G.toGd W (den G a))):PE X (.UnaryOp .USub l pos) (LE G.toGd W (den G (.neg a))) :=
 PE.imp (pe_un un_neg ha) fun σ H Q h=>by
  rw [den] at h
  refine (a0p (t1:=den G a) (t2:=fun x δ S1 Y K=>∃ i,x=.int i∧K (.int (-i)) S1) h).then fun v H1 q=>?_
  obtain ⟨x,δ,S,Y,K,R,r,⟨i,rfl,q⟩,res,_⟩:=q
  exact ⟨i,a0d r,res.int q R.ce⟩
theorem b9i (c:XC n X G W k sc) (ha:PE X l (LE G.toGd W (den G a))):PE X (.UnaryOp .Not l pos) (LE G.toGd W (den G (.nt a))) :=
 PE.imp (pe_notT ha) fun σ H Q h=>by
  rw [den] at h
  refine (a0p (t1:=den G a) (t2:=fun x δ S1 Y K=>a0R x S1 fun b=>K (.bl (!b)) S1) h).then fun v H1 q=>?_
  obtain ⟨x,δ,S,Y,K,R,r,q,res,_⟩:=q
  obtain ⟨b,tv,q⟩:=a4n c.ok.K R.ce r q
  exact ⟨b,tv,res.bl q R.ce⟩
theorem b6R (ha:PT X l (LT G.toGd W (a0j G a))):PT X (.UnaryOp .Not l pos) (LT G.toGd W (a0j G (.nt a))) :=
 PT.imp (pt_not ha) fun σ H Q h=>by
  rw [a0j] at h
  obtain ⟨δ,S,Y,K,R,ht,res,rw'⟩:=h
  exact ⟨δ,S,Y,_,R,ht,fun b S' H' k P c=>res _ S' H' k P c,rw'⟩
theorem b6z (hc:PT X t (LT G.toGd W (a0j G c'))) (ha:PE X l (LE G.toGd W (den G a))) (hb:PE X r (LE G.toGd W (den G b))):PE X (.IfExp t l r pos) (LE G.toGd W (den G (.ife c' a b))) :=
 PE.imp (pe_ifExp hc ha hb) fun σ H Q h=>by
  rw [den] at h
  obtain ⟨δ,S,Y,K,R,ht,res,rw'⟩:=h
  refine ⟨δ,S,Y,_,R,ht,fun b S' H' k P c=>?_,rw'⟩
  cases b with
  | true=>exact ⟨δ,S',Y,K,R.mono P c,k,res.mono P,rw'.mono P⟩
  | false=>exact ⟨δ,S',Y,K,R.mono P c,k,res.mono P,rw'.mono P⟩
theorem b58 {op:CmpOp} (c:XC n X G W k sc) (hs:a1f r=true) (ha:PE X l (LE G.toGd W (den G a))) (hb:PE X r (LE G.toGd W (den G b))):PE X (.Compare l [op] [r] pos) (LE G.toGd W (den G (.cmp op a b))) :=
 PE.imp (pe_cmpR (a1z c.ok.K c.un op) ha hb (a1a hs op)) fun σ H Q h=>by
  rw [den] at h
  exact (a0p (t1:=den G a) (t2:=fun x δ S1 Y K=>den G b δ S1 Y fun y S2=>a0t op x y S2 K) h).then fun v H1 q =>
   (a09 (t1:=den G b) (t2:=fun x y δ S2 Y K=>a0t op x y S2 K) q).then fun u H2 q=>a3v q
theorem b2w {op:CmpOp} (c:XC n X G W k sc) (hs:a1f r=true) (ha:PE X l (LE G.toGd W (den G a))) (hb:PE X r (LE G.toGd W (den G b))):PT X (.Compare l [op] [r] pos) (LT G.toGd W (a0j G (.cmp op a b))) :=
 PT.imp (pt_cmpR (a1z c.ok.K c.un op) ha hb (a1a hs op)) fun σ H Q h=>by
  rw [a0j] at h
  have h:=a9C (t:=fun δ S Y K=>den G a δ S Y fun x S1=>den G b δ S1 Y fun y S2=>a0t op x y S2 K) h
  exact (a0p (t1:=den G a) (t2:=fun x δ S1 Y K=>den G b δ S1 Y fun y S2=>a0t op x y S2 K) h).then fun v H1 q =>
   (a09 (t1:=den G b) (t2:=fun x y δ S2 Y K=>a0t op x y S2 K) q).then fun u H2 q=>a3v q
theorem a4z {o1 o2:CmpOp} {σ:L2.St} {H:Hp} {Q:VK} (h:LE G.toGd W (den G (.chn o1 o2 a b c')) σ H Q):tChain (rD2 G.toGd (a0t o1)) (rD2 G.toGd (a0t o2)) (LE G.toGd W (den G a)) (LE G.toGd W (den G b)) (LE G.toGd W (den G c')) σ H Q:=by
 rw [den] at h
 refine (a0p (t1:=den G a) (t2:=fun x δ S1 Y K=>den G b δ S1 Y fun y S2=>a0t o1 x y S2 fun z S3=>∃ k,z=.bl k∧if k=true then den G c' δ S3 Y fun w S4=>a0t o2 y w S4 K else K (.bl false) S3) h).then fun v H1 q=>?_
 refine (a09 (t1:=den G b) (t2:=fun x y δ S2 Y K=>a0t o1 x y S2 fun z S3=>∃ k,z=.bl k∧if k=true then den G c' δ S3 Y fun w S4=>a0t o2 y w S4 K else K (.bl false) S3) q).then fun u H2 q=>?_
 obtain ⟨x,y,δ,S,Y,K,R,r1,r2,ht,res,rw'⟩:=q
 refine ⟨x,y,S,_,R.ce,r1,r2,ht,fun z S3 zv H3 k P c r=>?_⟩
 obtain ⟨b0,rfl,k⟩:=k
 refine ⟨b0,a1t r,?_⟩
 cases b0 with
 | false=>exact (res.mono P).bl k c
 | true=>exact ⟨δ,S3,Y,_,R.mono P c,k,fun w S4 wv H4 k P2 c2 r'=>⟨y,w,S4,K,c2,(r2.mono P).mono P2,r',k,(res.mono P).mono P2⟩,rw'.mono P⟩
theorem b57 {o1 o2:CmpOp} (c:XC n X G W k sc) (hs:a1f t=true) (ha:PE X l (LE G.toGd W (den G a))) (hb:PE X r (LE G.toGd W (den G b))) (hc:PE X t (LE G.toGd W (den G c'))):PE X (.Compare l [o1,o2] [r,t] pos) (LE G.toGd W (den G (.chn o1 o2 a b c'))) :=
 PE.imp (pe_chain (a1z c.ok.K c.un o1) (a1z c.ok.K c.un o2) ha hb hc (by show lastMarks [o2] [t]=false;exact a1a hs o2)) fun σ H Q h=>a4z h
theorem b2v {o1 o2:CmpOp} (c:XC n X G W k sc) (hs:a1f t=true) (ha:PE X l (LE G.toGd W (den G a))) (hb:PE X r (LE G.toGd W (den G b))) (hc:PE X t (LE G.toGd W (den G c'))):PT X (.Compare l [o1,o2] [r,t] pos) (LT G.toGd W (a0j G (.chn o1 o2 a b c'))) :=
 PT.imp (pt_chain (a1z c.ok.K c.un o1) (a1z c.ok.K c.un o2) ha hb hc (by show lastMarks [o2] [t]=false;exact a1a hs o2)) fun σ H Q h=>by
  refine a4z (a9C (t:=den G (.chn o1 o2 a b c')) ?_)
  refine h.re fun δ S Y K q=>?_
  rw [a0j] at q
  rw [den]
  refine q
theorem b6K {cell:Bool} (ha:PA X xs (LA G.toGd W (a0l G es))):PE X (.List xs pos) (LE G.toGd W (den G (.lst cell es))) :=
 PE.imp (pe_lst ha) fun σ H Q h=>by
  rw [den] at h
  refine (a1Y (t1:=a0l G es) (t2:=fun ds δ S1 Y K=>ds.length≤sizeLine∧if cell=true then ∀ p,S1 p=none→K (.obj p) (S1.set p (.lst ds)) else K (.lst ds) S1) h).then fun vs H1 q=>?_
  obtain ⟨ds,δ,S,Y,K,R,r,⟨hz,q⟩,res,_⟩:=q
  refine ⟨by rw [← r.length];exact hz,fun p hp=>?_⟩
  cases cell with
  | true=>exact res.lstC q R.ce r hp
  | false=>exact res.lst q R.ce r hp
theorem b7d {kk:Nat} (ha:PA X xs (LA G.toGd W (a0l G es))):PE X (.Tuple xs kk pos) (LE G.toGd W (den G (.tup es))) :=
 PE.imp (pe_tup ha) fun σ H Q h=>by
  rw [den] at h
  refine (a1Y (t1:=a0l G es) (t2:=fun ds δ S1 Y K=>ds.length≤sizeLine∧K (.tup ds) S1) h).then fun vs H1 q=>?_
  obtain ⟨ds,δ,S,Y,K,R,r,⟨hz,q⟩,res,_⟩:=q
  exact ⟨by rw [← r.length];exact hz,fun p hp=>res.tup q R.ce r hp⟩
theorem b9f (c:XC n X G W k sc) (hs:a1r r=true) (ha:PE X l (LE G.toGd W (den G a))) (hb:PE X r (LE G.toGd W (den G b))):PE X (.Subscript l r pos) (LE G.toGd W (den G (.ix a b))) :=
 PE.imp (pe_ix (b1P c.ok.K c.un) ha hb (a3A hs)) fun σ H Q h=>by
  rw [den] at h
  exact (a0p (t1:=den G a) (t2:=fun x δ S1 Y K=>den G b δ S1 Y fun y S2=>ixD x y S2 K) h).then fun v H1 q =>
   (a09 (t1:=den G b) (t2:=fun x y δ S2 Y K=>ixD x y S2 K) q).then fun u H2 q=>a3v q
def LO (g:Gd) (W:WX) (t:DS→SS→XD'→(Option Int→SS→Prop)→Prop):TO:=fun σ H Q=>∃ δ S Y K,Rel g S H δ σ∧t δ S Y K∧(∀ o S' H',K o S'→a0a S H S' H'→CellsOk g S' H'→Q o H')∧a3L g S H Y W
theorem PO.imp {e:Option Expr} {t t':TO} (h:PO X e t) (w:∀ σ H Q,t' σ H Q→t σ H Q):PO X e t':=⟨fun pins s σ H Q I q=>h.run pins s σ H Q I (w σ H Q q)⟩
theorem b9k {lo hi:RO} {p q:Option Expr} {p2:Pos} (c:XC n X G W k sc) (ha:PE X l (LE G.toGd W (den G a))) (hl:PO X p (LO G.toGd W (a1m G lo))) (hh:PO X q (LO G.toGd W (a1m G hi))):PE X (.Subscript l (.Slice p q none p2) pos) (LE G.toGd W (den G (.sl a lo hi))) :=
 PE.imp (pe_slice (b2E c.ok.K) ha hl hh) fun σ H Q h=>by
  rw [den] at h
  refine (a0p (t1:=den G a) (t2:=fun x δ S1 Y K=>a1m G lo δ S1 Y fun l S2=>a1m G hi δ S2 Y fun u S3=>slD x l u S3 K) h).then fun v H1 q=>?_
  obtain ⟨x,δ,S,Y,K,R,r,q,res,rw'⟩:=q
  refine ⟨δ,S,Y,_,R,q,fun o S1 H1 k P c=>⟨δ,S1,Y,_,R.mono P c,k,fun o2 S2 H2 k P2 c2=>⟨x,S2,K,c2,(r.mono P).mono P2,k,(res.mono P).mono P2⟩,rw'.mono P⟩,rw'⟩
theorem b60 {lo hi:RO} {p q:Option Expr} {p2:Pos} (c:XC n X G W k sc) (ha:PE X l (LE G.toGd W (den G a))) (hl:PO X p (LO G.toGd W (a1m G lo))) (hh:PO X q (LO G.toGd W (a1m G hi))):PE X (.Subscript l (.Slice p q none p2) pos) (LE G.toGd W (den G (.slc a lo hi))) :=
 PE.imp (pe_slice (b0a c.ok.K) ha hl hh) fun σ H Q h=>by
  rw [den] at h
  refine (a0p (t1:=den G a) (t2:=fun x δ S1 Y K=>a1m G lo δ S1 Y fun l S2=>a1m G hi δ S2 Y fun u S3=>b0t x l u S3 K) h).then fun v H1 q=>?_
  obtain ⟨x,δ,S,Y,K,R,r,q,res,rw'⟩:=q
  refine ⟨δ,S,Y,_,R,q,fun o S1 H1 k P c=>⟨δ,S1,Y,_,R.mono P c,k,fun o2 S2 H2 k P2 c2=>⟨x,S2,K,c2,(r.mono P).mono P2,k,(res.mono P).mono P2⟩,rw'.mono P⟩,rw'⟩
theorem s_call {j:Nat} {x:Str} {p:Pos} (c:XC n X G W k sc) (hn:fnB n.fns j x=true) (hg:glB sc x=true) (hL:a5I n sc es xs):PE X (.Call (.Name x p) xs [] pos) (LE G.toGd W (den G (.call j es))):=by
 cases hT:G.fn G.m0.isSome j with
 | none =>
  refine a0w fun δ S Y K h=>?_
  rw [den] at h
  obtain ⟨T,e,_⟩:=h
  rw [hT] at e;cases e
 | some T =>
  obtain ⟨f,fd,ps,h1,h2,h3,F⟩:=c.ok.fn _ j T x hT (a6j hn).1
  have hs:=hL.st
  have ha:=hL.a X G W k c
  have fin:∀ {σ:L2.St} {H:Hp} {Q:VK},LE G.toGd W (den G (.call j es)) σ H Q→tCallG G.m0 (spD G.toGd T) [] (WE W) (LA G.toGd W (a0l G es)) σ H Q:=by
   intro σ H Q h
   have h:=h.re (t':=fun δ S Y K=>a0l G es δ S Y fun ds S1=>T G.m0 ds S1 K fun C fs S'=>Y C fs δ S') fun δ S Y K q=>by
    rw [den] at q
    obtain ⟨T',e,q⟩:=q
    rw [hT] at e;cases e
    exact q
   refine (a1Y (t1:=a0l G es) (t2:=fun ds δ S1 Y K=>T G.m0 ds S1 K fun C fs S'=>Y C fs δ S') h).then fun vs H1 q=>?_
   obtain ⟨ds,δ,S,Y,K,R,r,q,res,rw'⟩:=q
   rw [List.append_nil]
   exact ⟨ds,S,K,_,R.ce,r,q,res,fun C fs S' d H' y P cc x=>rw' C fs δ S' d σ H' y P (R.mono P cc) x⟩
  cases xs with
  | nil =>
   refine PE.imp (a6Y F rfl c.rm c.md ⟨c.gl hg,h1,h2,(a6j hn).2⟩ h3 .nil (fun σ=>L2N.passAt c.tk σ)) fun σ H Q h=>?_
   have hes:=hL.nl rfl
   obtain ⟨δ,S,Y,K,R,ht,res,rw'⟩:=fin h
   rw [hes,a0l] at ht
   exact res [] S [] H ht (a0a.refl _ _) R.ce (by simp only [a0c])
  | cons y ys =>
   rw [List.all_cons,zak] at hs
   exact PE.imp (pe_callG F rfl c.rm c.md ⟨c.gl hg,h1,h2,(a6j hn).2⟩ h3 .nil (fun σ=>L2N.passAt c.tk σ) ha (a0b hs.1) (a0C hs.2)) fun σ H Q h=>fin h
theorem b4B (c:XC n X G W k sc) (b:Bn) (hb:b.needs G.m0):∃ f,((∃ id,f=.builtin id)∨∃ T,f=.type T)∧CallR X f (rDc G.toGd b.den)∧bootBuiltins b.nm=some f∧b.nm∈a2x∧b.nm ≠ "__name__" ∧ (b.nm == ("__debug__" : Str))=false:=by
 have calm:G.m0=none→X.calm=true:=fun e=>by have:=c.md;rw [e] at this;exact this.2
 cases b with
 | len=>exact ⟨_,.inl ⟨"len",rfl⟩,b1T c.ok.K,by decide +kernel,by decide +kernel,by decide +kernel,by decide +kernel⟩
 | abs=>exact ⟨_,.inl ⟨"abs",rfl⟩,b0K,by decide +kernel,by decide +kernel,by decide +kernel,by decide +kernel⟩
 | max=>exact ⟨_,.inl ⟨"max",rfl⟩,b1X (calm hb),by decide +kernel,by decide +kernel,by decide +kernel,by decide +kernel⟩
 | min=>exact ⟨_,.inl ⟨"min",rfl⟩,b1Y (calm hb),by decide +kernel,by decide +kernel,by decide +kernel,by decide +kernel⟩
 | rpr=>exact ⟨_,.inl ⟨"repr",rfl⟩,a3i c.ok.K c.md.1 (by have:=c.rm.un;omega),by decide +kernel,by decide +kernel,by decide +kernel,by decide +kernel⟩
 | int=>exact ⟨_,.inr ⟨"int",rfl⟩,int_ok,by decide +kernel,by decide +kernel,by decide +kernel,by decide +kernel⟩
 | tup=>exact ⟨_,.inr ⟨"tuple",rfl⟩,a8s c.ok.K,by decide +kernel,by decide +kernel,by decide +kernel,by decide +kernel⟩
 | lst cell=>cases cell <;> exact ⟨_,.inr ⟨"list",rfl⟩,a9B c.ok.K _,by decide +kernel,by decide +kernel,by decide +kernel,by decide +kernel⟩
 | srt cell=>cases cell <;> exact ⟨_,.inl ⟨"sorted",rfl⟩,a7j (calm hb) c.ok.K _,by decide +kernel,by decide +kernel,by decide +kernel,by decide +kernel⟩
 | dic cell=>cases cell <;> exact ⟨_,.inr ⟨"dict",rfl⟩,a9d _,by decide +kernel,by decide +kernel,by decide +kernel,by decide +kernel⟩
 | dcp cell=>cases cell <;> exact ⟨_,.inr ⟨"dict",rfl⟩,a7M (calm hb) c.ok.K _,by decide +kernel,by decide +kernel,by decide +kernel,by decide +kernel⟩
 | all=>exact ⟨_,.inl ⟨"all",rfl⟩,b0N (calm hb) c.ok.K,by decide +kernel,by decide +kernel,by decide +kernel,by decide +kernel⟩
 | sum=>exact ⟨_,.inl ⟨"sum",rfl⟩,b3f (calm hb) c.ok.K,by decide +kernel,by decide +kernel,by decide +kernel,by decide +kernel⟩
 | lsk cell=>cases cell <;> exact ⟨_,.inr ⟨"list",rfl⟩,a73 (calm hb) _,by decide +kernel,by decide +kernel,by decide +kernel,by decide +kernel⟩
 | lss cell=>cases cell <;> exact ⟨_,.inr ⟨"list",rfl⟩,a74 (calm hb) _,by decide +kernel,by decide +kernel,by decide +kernel,by decide +kernel⟩
 | str=>exact ⟨_,.inr ⟨"str",rfl⟩,str_ok,by decide +kernel,by decide +kernel,by decide +kernel,by decide +kernel⟩
 | mnl=>exact ⟨_,.inl ⟨"min",rfl⟩,a9F (calm hb) c.ok.K c.un,by decide +kernel,by decide +kernel,by decide +kernel,by decide +kernel⟩
 | srl cell=>cases cell <;> exact ⟨_,.inl ⟨"sorted",rfl⟩,a5E (calm hb) c.ok.K c.un _,by decide +kernel,by decide +kernel,by decide +kernel,by decide +kernel⟩
 | srp cell=>cases cell <;> exact ⟨_,.inl ⟨"sorted",rfl⟩,a5F (calm hb) c.ok.K c.un _,by decide +kernel,by decide +kernel,by decide +kernel,by decide +kernel⟩
theorem b84 {b:Bn} {p:Pos} (c:XC n X G W k sc) (hg:glB sc b.nm=true) (hne:xs.isEmpty=false) (hL:a5I n sc es xs):PE X (.Call (.Name b.nm p) xs [] pos) (LE G.toGd W (den G (.bi b es))):=by
 by_cases hb:b.needs G.m0
 ·obtain ⟨f,hf,hc,hv,hm,hn,hd⟩:=b4B c b hb
  have hs:=hL.st
  cases xs with
  | nil=>cases hne
  | cons y ys =>
   rw [List.all_cons,zak] at hs
   have rule:PE X (.Call (.Name b.nm p) (y :: ys) [] pos) (tCB (rDc G.toGd b.den) (LA G.toGd W (a0l G es))):=by
    rcases hf with ⟨id,rfl⟩ | ⟨T,rfl⟩
    ·exact pe_callB hc (c.gl hg) (c.ok.bt _ hm) hv (hL.a X G W k c) hn hd (a0b hs.1) (a0C hs.2)
    ·exact pe_callTy hc (c.gl hg) (c.ok.bt _ hm) hv (hL.a X G W k c) hn hd (a0b hs.1) (a0C hs.2)
   refine PE.imp rule fun σ H Q h=>?_
   have h:=h.re (t':=fun δ S Y K=>a0l G es δ S Y fun ds S1=>b.den ds S1 K) fun δ S Y K q=>by
    rw [den] at q
    exact q.2
   refine (a1Y (t1:=a0l G es) (t2:=fun ds δ S1 Y K=>b.den ds S1 K) h).then fun vs H1 q=>?_
   obtain ⟨ds,δ,S,Y,K,R,r,q,res,_⟩:=q
   exact ⟨ds,S,K,R.ce,r,q,res⟩
 ·refine a0w fun δ S Y K h=>?_
  rw [den] at h
  exact hb h.1
theorem b6B {cn:Cn} {x z:Str} {p p2:Pos} (c:XC n X G W k sc) (ex:x=("isinstance" : Str)) (hg:glB sc x=true) (hz:glB sc z=true) (hst:a0m l=true) (ha:PE X l (LE G.toGd W (den G a)))
  (hc:(match cn with
   | .ty t=>decide (bootBuiltins z=some (.type t)) && decide (z≠("__name__" : Str)) && decide ((z == ("__debug__" : Str))=false) && decide (z∈a2x)
   | .own j=>nmB n.cls j z)=true):PE X (.Call (.Name x p) [l,.Name z p2] [] pos) (LE G.toGd W (den G (.isi a cn))):=by
 subst ex
 have hcl:∃ cv,PE X (.Name z p2) (tC cv)∧ClsV cv (cn.val G):=by
  cases cn with
  | ty t =>
   simp only [zak,zah] at hc
   obtain ⟨⟨⟨h1,h2⟩,h3⟩,h4⟩:=hc
   exact ⟨.ty t,pe_bltn (c.gl hz) (c.ok.bt _ h4) h1 rfl h2 h3,.ty t⟩
  | own j =>
   have h:=c.ok.cl j z (a0r hc).1
   exact ⟨.ref (G.cl j),pe_glob (c.gl hz) h rfl (a0r hc).2.1,.own _⟩
 obtain ⟨cv,pz,cz⟩:=hcl
 refine PE.imp (pe_callB a7D (c.gl hg) (c.ok.bt _ (by decide +kernel)) (by decide +kernel) (pa_cons ha (pa_cons pz pa_nil rfl) (a0b hst)) (by decide +kernel) (by decide +kernel) (a0b hst) rfl) fun σ H Q h=>?_
 rw [den] at h
 refine (a0p (t1:=den G a) (t2:=fun x δ S1 Y K=>∃ t b,tyD S1 x=some t∧a3c G S1 x∧PySem.W.kitOne G.K t (cn.val G)=some b∧K (.bl b) S1) h).then fun v H1 q=>?_
 obtain ⟨x,δ,S,Y,K,R,r,⟨t,b,e1,e2,e3,q⟩,res,_⟩:=q
 rw [c.ok.K] at e3
 exact ⟨v,cv,t,_,b,rfl,cz,a8N c.ok.K c.md.p R.ce r e1 e2,e3,res.bl q R.ce⟩
theorem a8y (c:XC n X G W k sc):∀ {js:List Nat} {es:List Expr},a89 n.cls sc js es=true→∃ cvs,PA X es (fun _ H Q=>Q cvs H)∧cvs.length=js.length∧Paired ClsV cvs (js.map fun j=>Value.ref (G.cl j))
 | [],[],_=>⟨[],pa_nil,rfl,.nil⟩
 | j :: js,x :: es,h=>by
  unfold a89 at h
  simp only [zak] at h
  obtain ⟨⟨h1,h2⟩,h3⟩:=h
  split at h1
  ·rename_i z p
   rw [zak] at h1
   obtain ⟨hz,hn⟩:=h1
   have hc:=c.ok.cl j z (a0r hn).1
   have pz:PE X (.Name z p) (tC (.ref (G.cl j))):=pe_glob (c.gl hz) hc rfl (a0r hn).2.1
   obtain ⟨cvs,pa,len,pr⟩:=a8y c h3
   exact ⟨.ref (G.cl j) :: cvs,PA.imp (pa_cons pz pa (a0b h2)) (fun σ H Q q=>q),by rw [zaw,len];rfl,.cons (.own _) pr⟩
  ·cases h1
 | [],_ :: _,h=>by unfold a89 at h;cases h
 | _ :: _,[],h=>by unfold a89 at h;cases h
theorem b6C {js:List Nat} {es:List Expr} {kk:Nat} {x:Str} {p p2:Pos} (c:XC n X G W k sc) (ex:x=("isinstance" : Str)) (hg:glB sc x=true) (hst:a0m l=true) (ha:PE X l (LE G.toGd W (den G a)))
  (hc:a89 n.cls sc js es=true) (few:js.length≤100):PE X (.Call (.Name x p) [l,.Tuple es kk p2] [] pos) (LE G.toGd W (den G (.ist a js))):=by
 subst ex
 obtain ⟨cvs,pa,len,pr⟩:=a8y c hc
 refine PE.imp (pe_callB a5V (c.gl hg) (c.ok.bt _ (by decide +kernel)) (by decide +kernel) (pa_cons ha (pa_cons (pe_tup pa) pa_nil rfl) (a0b hst)) (by decide +kernel) (by decide +kernel) (a0b hst) rfl) fun σ H Q h=>?_
 rw [den] at h
 refine (a0p (t1:=den G a) (t2:=fun x δ S1 Y K=>∃ t b,tyD S1 x=some t∧a3c G S1 x∧PySem.W.kitAny G.K t (js.map fun j=>Value.ref (G.cl j))=some b∧K (.bl b) S1) h).then fun v H1 q=>?_
 obtain ⟨x,δ,S,Y,K,R,r,⟨t,b,e1,e2,e3,q⟩,res,_⟩:=q
 rw [c.ok.K] at e3
 refine ⟨by rw [len,zai];omega,fun tp free=>?_⟩
 have P:a0a S H1 S (upd H1 tp (.tup cvs)):=a0a.new free
 exact ⟨v,tp,cvs,t,_,b,rfl,upd_same,pr,a8N c.ok.K c.md.p (R.ce.new free) (r.mono P) e1 e2,e3,res _ S _ _ q P (R.ce.new free) (by simp only [Rep])⟩
theorem b6M {j:Nat} {y:Str} {p:Pos} (c:XC n X G W k sc) (h1:nmB n.cls j y=true) (hg:glB sc y=true):PE X (.Call (.Name y p) [] [] pos) (LE G.toGd W (den G (.mkx j))):=by
 by_cases hB:a7z G.K (G.cl j)
 ·obtain ⟨bmB,B,newId,initId,Fb,q0,kC⟩:=hB
  rw [c.ok.K] at q0 kC
  refine PE.imp (a9Z Fb q0 (c.ok.cl j y (a0r h1).1) kC (c.gl hg) (a0r h1).2.1) fun σ H Q h=>?_
  obtain ⟨δ,S,Y,K,R,ht,res,_⟩:=h
  rw [den] at ht
  intro a t0 na nt ne
  have P1:a0a S H S (upd H t0 (.tup [])):=a0a.new nt
  have n2:upd H t0 (.tup []) a=none:=by rw [upd_ne ne];exact na
  have P:a0a S H S (upd (upd H t0 (.tup [])) a (erO a (G.cl j) t0)):=P1.trans (a0a.new n2)
  refine res _ S _ _ (ht.2 a) P ((R.ce.new nt).new n2) ?_
  unfold Rep
  refine ⟨none,t0,rfl,R.ce.free na,⟨_,upd_same,fun h ⟨oe,e,z,vs,d,f⟩=>⟨oe,e,z,vs,d,fun b=>⟨rfl,f b⟩⟩⟩,fun _=>⟨R.ce.free nt,?_⟩,.inl ⟨rfl,rfl⟩⟩
  rw [upd_ne (fun e=>ne e.symm)]
  exact upd_same
 ·exact ⟨fun pins s σ H Q I h=>by
   obtain ⟨δ,S,Y,K,R,ht,res,_⟩:=h
   rw [den] at ht
   exact absurd ht.1 hB⟩
theorem b6Y {x:Str} {p:Pos} (c:XC n X G W k sc) (ex:x=("repr" : Str)) (hg:glB sc x=true) (hst:a0m l=true) (ha:PE X l (LE G.toGd W (den G a))):PE X (.Call (.Name x p) [l] [] pos) (LE G.toGd W (den G (.rpx a))):=by
 subst ex
 refine PE.imp (pe_callB (a7E c.ok.K c.md.1 (by have:=c.rm.un;omega)) (c.gl hg) (c.ok.bt _ (by decide +kernel)) (by decide +kernel) (pa_cons ha pa_nil (a0b hst)) (by decide +kernel) (by decide +kernel) (a0b hst) rfl) fun σ H Q h=>?_
 rw [den] at h
 refine (a0p (t1:=den G a) (t2:=fun x δ S1 Y K=>a5B G.K x S1 K) h).then fun v H1 q=>?_
 obtain ⟨x,δ,S,Y,K,R,r,q,res,_⟩:=q
 exact ⟨x,v,S,K,rfl,r,R.ce,q,res⟩
theorem a05 {x:D} {v:V} {S:SS} {H:Hp} (hK:G.K=X.K) (cells:CellsOk G.toGd S H) (rep:Rep G.toGd S H x v) (h:a1q x S):tyV X.K "list" v H:=by
 obtain ⟨ds,seen⟩:=h
 obtain ⟨p,vs,rfl,seq,_⟩:=a0g cells rep seen
 rw [hK] at seq
 exact .inl ⟨rfl,vs,seq⟩
theorem a4o {x:D} {v:V} {S:SS} {H:Hp} (rep:Rep G.toGd S H x v) (h:a3s x):tyV X.K "str" v H:=by
 obtain ⟨z,rfl⟩:=h
 cases a0o rep
 exact rfl
theorem a3b {x:D} {v:V} {S:SS} {H:Hp} (cells:CellsOk G.toGd S H) (rep:Rep G.toGd S H x v) (h:a3q x S):tyV X.K "dict" v H:=by
 obtain ⟨p,kvs,rfl,at_p⟩:=h
 cases a0n rep
 obtain ⟨ws,here,_⟩:=cells p _ at_p
 exact .inr (.inr (.inl ⟨rfl,.inl ⟨ws,here⟩⟩))
theorem b5A (c:XC n X G W k sc) (b:Mn):∃ T id,PlainAttrs T∧Slot T b.nm id∧typeOf (.builtin id)=pure (.type "method_descriptor")∧MtR X id (rDm G.toGd b.den)∧∀ x v S H,CellsOk G.toGd S H→Rep G.toGd S H x v→b.rc x S→tyV X.K T v H:=by
 have un:=c.un
 cases b with
 | join=>exact ⟨_,_,PySem.F.plainAttrs_str,PySem.F.slot_str_join,PySem.F.type_str_join,a9x c.ok.K,fun _ _ _ _ _ r h=>a4o r h⟩
 | upper=>exact ⟨_,_,PySem.F.plainAttrs_str,PySem.F.slot_str_upper,PySem.F.type_str_upper,a8u,fun _ _ _ _ _ r h=>a4o r h⟩
 | app=>exact ⟨_,_,PySem.F.plainAttrs_list,PySem.F.slot_list_append,PySem.F.type_list_append,app_ok,fun _ _ _ _ q r h=>a05 c.ok.K q r h⟩
 | ins=>exact ⟨_,_,PySem.F.plainAttrs_list,PySem.F.slot_list_insert,PySem.F.type_list_insert,b1N,fun _ _ _ _ q r h=>a05 c.ok.K q r h⟩
 | pop=>exact ⟨_,_,PySem.F.plainAttrs_list,PySem.F.slot_list_pop,PySem.F.type_list_pop,b2o,fun _ _ _ _ q r h=>a05 c.ok.K q r h⟩
 | clr=>exact ⟨_,_,PySem.F.plainAttrs_list,PySem.F.slot_list_clear,PySem.F.type_list_clear,a7F,fun _ _ _ _ q r h=>a05 c.ok.K q r h⟩
 | cnt=>exact ⟨_,_,PySem.F.plainAttrs_list,PySem.F.slot_list_count,PySem.F.type_list_count,b0W c.ok.K un,fun _ _ _ _ q r h=>a05 c.ok.K q r h⟩
 | dpop=>exact ⟨_,_,PySem.F.plainAttrs_dict,PySem.F.slot_dict_pop,PySem.F.type_dict_pop,a9f,fun _ _ _ _ q r h=>a3b q r h⟩
 | upd=>exact ⟨_,_,PySem.F.plainAttrs_dict,PySem.F.slot_dict_update,PySem.F.type_dict_update,b3o,fun _ _ _ _ q r h=>a3b q r h⟩
 | dget=>exact ⟨_,_,PySem.F.plainAttrs_dict,PySem.F.slot_dict_get,PySem.F.type_dict_get,a9b (by omega),fun _ _ _ _ q r h=>a8t q r h⟩
 | dset=>exact ⟨_,_,PySem.F.plainAttrs_dict,PySem.F.slot_dict_setdefault,PySem.F.type_dict_setdefault,a9h,fun _ _ _ _ q r h=>a3b q r h⟩
 | dpop2=>exact ⟨_,_,PySem.F.plainAttrs_dict,PySem.F.slot_dict_pop,PySem.F.type_dict_pop,a7N,fun _ _ _ _ q r h=>a3b q r h⟩
 | idx=>exact ⟨_,_,PySem.F.plainAttrs_list,PySem.F.slot_list_index,PySem.F.type_list_index,b1M c.ok.K,fun _ _ _ _ q r h=>a05 c.ok.K q r h⟩
 | rem=>exact ⟨_,_,PySem.F.plainAttrs_list,PySem.F.slot_list_remove,PySem.F.type_list_remove,b2q,fun _ _ _ _ q r h=>a05 c.ok.K q r h⟩
 | ext=>exact ⟨_,_,PySem.F.plainAttrs_list,PySem.F.slot_list_extend,PySem.F.type_list_extend,b1p,fun _ _ _ _ q r h=>a05 c.ok.K q r h⟩
 | spl=>exact ⟨_,_,PySem.F.plainAttrs_str,PySem.F.slot_str_split,PySem.F.type_str_split,a8m,fun _ _ _ _ _ r h=>a4o r h⟩
theorem b1r {es:List Expr} {env:Env} {p:Pos} (st:es.all a0m=true) (few:es.length < 30):((backTo p (starEach es env)).all (fun x=>!x.1) && (backToKw p (keywordEach [] env)).all (fun x=>x.1.isSome) && decide (es.length + ([]:List Keyword).length + (if ([]:List Keyword).isEmpty then 0 else 1) < 30))=true:=by
 rw [a2m st]
 show (true && true && decide (es.length + 0 + 0 < 30))=true
 simpa using few
theorem a4K {g:Gd} {t1:RdL} {t2:D→List D→RdE} {σ:L2.St} {H:Hp} {Q:VK} {v:V} (h:LE1 g W (fun x δ S Y K=>t1 δ S Y fun ds S1=>t2 x ds δ S1 Y K) v σ H Q) :
  LA g W t1 σ H fun vs H1=>∃ x ds δ S Y K,Rel g S H1 δ σ∧Rep g S H1 x v∧a0c g S H1 ds vs∧t2 x ds δ S Y K∧Res g S H1 K Q∧a3L g S H1 Y W:=by
 obtain ⟨x,δ,S,Y,K,R,r0,ht,res,rw'⟩:=h
 exact ⟨δ,S,Y,_,R,ht,fun d S1 u H1 k P c r=>⟨x,d,δ,S1,Y,K,R.mono P c,r0.mono P,r,k,res.mono P,rw'.mono P⟩,rw'⟩
theorem b6N {b:Mn} {ap:Pos} (c:XC n X G W k sc) (hs:a6N l=true) (hl:(ap.endLine == pos.line)=true) (few:xs.length < 30) (ha:PE X l (LE G.toGd W (den G a))) (hL:a5I n sc es xs):PE X (.Call (.Attribute l b.nm ap) xs [] pos) (LE G.toGd W (den G (.mth b a es))):=by
 obtain ⟨T,id,pa,slot,ty,rule,typed⟩:=b5A c b
 have st:=hL.st
 have split:∀ {σ H Q},LE G.toGd W (den G (.mth b a es)) σ H Q→LE G.toGd W (den G a) σ H fun v H1=>tyV X.K T v H1∧LA G.toGd W (a0l G es) σ H1 fun vs H2=>rDm G.toGd b.den v vs H2 Q:=fun {σ H Q} h=>by
  rw [den] at h
  refine (a0p (t1:=den G a) (t2:=fun x δ S1 Y K=>b.rc x S1∧a0l G es δ S1 Y fun ds S2=>b.den x ds S2 K) h).then fun v H1 q=>?_
  obtain ⟨x,δ,S,Y,K,R,r,⟨rc,q⟩,res,rw'⟩:=q
  refine ⟨typed x v S H1 R.ce r rc,?_⟩
  refine (a4K (t1:=a0l G es) (t2:=fun x ds δ S2 Y K=>b.den x ds S2 K) ⟨x,δ,S,Y,K,R,r,q,res,rw'⟩).then fun vs H2 q=>?_
  obtain ⟨x,ds,δ,S,Y,K,R,r0,r1,q,res,_⟩:=q
  exact ⟨x,ds,S,K,R.ce,r0,r1,q,res⟩
 cases xs with
 | nil =>
  have hes:=hL.nl rfl
  refine PE.imp (pe_bm0 pa slot ty rule ha (a1B hs) hl) fun σ H Q h=>(split h).then fun v H1 q=>⟨q.1,?_⟩
  obtain ⟨δ,S,Y,K,R,ht,res,_⟩:=q.2
  rw [hes,a0l] at ht
  exact res [] S [] H1 ht (a0a.refl _ _) R.ce (by simp only [a0c])
 | cons y ys =>
  have st2:=st
  rw [List.all_cons,zak] at st2
  exact PE.imp (pe_bm pa slot ty rule ha (hL.a X G W k c) (a1B hs) (b1r st few) hl (a0b st2.1) (a0C st2.2)) fun σ H Q h=>split h
theorem b9j {j:Nat} {m:Str} {ap:Pos} (c:XC n X G W k sc) (hs:a6N l=true) (hl:(ap.endLine == pos.line)=true) (few:xs.length < 30) (hm:mtB n.fns j m=true) (ha:PE X l (LE G.toGd W (den G a))) (hL:a5I n sc es xs) :
  PE X (.Call (.Attribute l m ap) xs [] pos) (LE G.toGd W (den G (.om j m a es))):=by
 cases hT:G.fn G.m0.isSome j with
 | none =>
  refine a0w fun δ S Y K h=>?_
  rw [den] at h
  obtain ⟨T,e,_⟩:=h
  rw [hT] at e;cases e
 | some T =>
  obtain ⟨C0,at_j⟩:=b1Z hm
  obtain ⟨f,fd,ps,cls,is,binds,F⟩:=c.ok.meth _ j T C0 m hT at_j
  have st:=hL.st
  have split:∀ {σ H Q},LE G.toGd W (den G (.om j m a es)) σ H Q→LE G.toGd W (den G a) σ H fun x H1=>∃ p dx fs,x=.ref p∧H1 p=some (.ins (G.mc j) dx fs)∧fs.lookup m=none∧LA G.toGd W (a0l G es) σ H1 fun vs H2=>spD G.toGd T G.m0 (x :: vs) H2 Q (WE W σ):=fun {σ H Q} h=>by
   have h:=h.re (t':=fun δ S Y K=>den G a δ S Y fun x S1=>∃ p,omD G j m x S1 p∧a0l G es δ S1 Y fun ds S2=>T G.m0 (.obj p :: ds) S2 K fun C fs S'=>Y C fs δ S') fun δ S Y K q=>by
    rw [den] at q
    obtain ⟨T',e,q⟩:=q
    rw [hT] at e;cases e
    exact q
   refine (a0p (t1:=den G a) (t2:=fun x δ S1 Y K=>∃ p,omD G j m x S1 p∧a0l G es δ S1 Y fun ds S2=>T G.m0 (.obj p :: ds) S2 K fun C fs S'=>Y C fs δ S') h).then fun v H1 q=>?_
   obtain ⟨x,δ,S,Y,K,R,r,⟨p,⟨rfl,fs,at_p,free⟩,q⟩,res,rw'⟩:=q
   cases a0n r
   obtain ⟨dx,ws,here,fields⟩:=R.ce p _ at_p
   refine ⟨p,dx,ws,rfl,here,a7a fields free,?_⟩
   refine (a4K (t1:=a0l G es) (t2:=fun x ds δ S2 Y K=>T G.m0 (x :: ds) S2 K fun C fs S'=>Y C fs δ S') ⟨.obj p,δ,S,Y,K,R,r,q,res,rw'⟩).then fun vs H2 q=>?_
   obtain ⟨x,ds,δ,S,Y,K,R,r0,r1,q,res,rw'⟩:=q
   exact ⟨x :: ds,S,K,_,R.ce,by simp only [a0c];exact ⟨_,_,rfl,r0,r1⟩,q,res,fun C fs S' d H' y P cc z=>rw' C fs δ S' d σ H' y P (R.mono P cc) z⟩
  cases xs with
  | nil =>
   have hes:=hL.nl rfl
   refine PE.imp (b2m F rfl c.rm c.md cls is binds (fun σ=>L2N.passAt c.tk σ) ha (a6K hs rfl few hl)) fun σ H Q h=>(split h).then fun v H1 q=>?_
   obtain ⟨p,dx,fs,e,here,free,q⟩:=q
   refine ⟨p,dx,fs,e,here,free,?_⟩
   obtain ⟨δ,S,Y,K,R,ht,res,_⟩:=q
   rw [hes,a0l] at ht
   exact res [] S [] H1 ht (a0a.refl _ _) R.ce (by simp only [a0c])
  | cons y ys =>
   have st2:=st
   rw [List.all_cons,zak] at st2
   exact PE.imp (b5K F rfl c.rm c.md cls is binds (fun σ=>L2N.passAt c.tk σ) ha (hL.a X G W k c) (a6K hs st few hl) (a0b st2.1) (a0C st2.2)) fun σ H Q h=>split h
theorem b9h {j:Nat} {y:Str} {p:Pos} (c:XC n X G W k sc) (hj:enB n.fns j (.mt y "__init__")=true) (hd:(y == ("__debug__" : Str))=false) (hg:glB sc y=true) (hL:a5I n sc es xs):PE X (.Call (.Name y p) xs [] pos) (LE G.toGd W (den G (.mk j es))):=by
 by_cases hm:G.m0=none
 ·cases hT:G.fn false j with
  | none =>
   refine a0w fun δ S Y K h=>?_
   rw [den] at h
   obtain ⟨_,T,e,_⟩:=h
   rw [hT] at e;cases e
  | some T =>
   obtain ⟨at_y,f,fd,ps,kI,M,binds,hk,F⟩:=c.ok.made j T y hT (of_decide_eq_true hj)
   have mode:a0N X none:=by have:=c.md;rw [hm] at this;exact this
   have st:=hL.st
   have fin:∀ {σ H Q},LE G.toGd W (den G (.mk j es)) σ H Q→b0f (G.mc j) (spD G.toGd T) (WE W) (LA G.toGd W (a0l G es)) σ H Q:=fun {σ H Q} h=>by
    have h:=h.re (t':=fun δ S Y K=>a0l G es δ S Y fun ds S1=>∀ p,S1 p=none→T none (.obj p :: ds) (S1.set p (.ins (G.mc j) [])) (fun d S'=>d=.non∧K (.obj p) S') fun C fs S'=>Y C fs δ S') fun δ S Y K q=>by
     rw [den] at q
     obtain ⟨_,T',e,q⟩:=q
     rw [hT] at e;cases e
     exact q
    refine (a1Y (t1:=a0l G es) (t2:=fun ds δ S1 Y K=>∀ p,S1 p=none→T none (.obj p :: ds) (S1.set p (.ins (G.mc j) [])) (fun d S'=>d=.non∧K (.obj p) S') fun C fs S'=>Y C fs δ S') h).then fun vs H1 q x dx fx fd apart=>?_
    obtain ⟨ds,δ,S,Y,K,R,r,q,res,rw'⟩:=q
    have young:upd H1 dx (.own x) x=none:=by rw [upd_ne (Ne.symm apart)];exact fx
    have P1:a0a S H1 S (upd H1 dx (.own x)):=a0a.new fd
    have P:a0a S H1 (S.set x (.ins (G.mc j) [])) (upd (upd H1 dx (.own x)) x (.ins (G.mc j) dx [])):=P1.trans (a0a.newC young)
    have cells:CellsOk G.toGd (S.set x (.ins (G.mc j) [])) (upd (upd H1 dx (.own x)) x (.ins (G.mc j) dx [])):=(R.ce.new fd).newC young ⟨dx,[],upd_same,by simp only [a1c]⟩
    exact ⟨.obj x :: ds,_,_,_,cells,by simp only [a0c];exact ⟨_,_,rfl,by simp only [Rep],r.mono P⟩,q x (R.ce.free fx),fun d S' v H' kk P2 c2 r2=>by
     obtain ⟨rfl,kk⟩:=kk
     exact ⟨a2V r2,res _ S' _ H' kk (P.trans P2) c2 (by simp only [Rep])⟩,fun C fs S' d H' y P2 cc z=>rw' C fs δ S' d σ H' y (P.trans P2) (R.mono (P.trans P2) cc) z⟩
   cases xs with
   | nil =>
    have hes:=hL.nl rfl
    refine PE.imp (b2j M F (c.rm.mono hk) mode (c.gl hg) at_y hd binds (fun σ=>L2N.passAt c.tk σ)) fun σ H Q h=>?_
    obtain ⟨δ,S,Y,K,R,ht,res,_⟩:=fin h
    rw [hes,a0l] at ht
    exact res [] S [] H ht (a0a.refl _ _) R.ce (by simp only [a0c])
   | cons z zs =>
    rw [List.all_cons,zak] at st
    exact PE.imp (pe_mk M F (c.rm.mono hk) mode (c.gl hg) at_y hd binds (fun σ=>L2N.passAt c.tk σ) (hL.a X G W k c) (a0b st.1) (a0C st.2)) fun σ H Q h=>fin h
 ·refine a0w fun δ S Y K h=>?_
  rw [den] at h
  exact hm h.1
theorem b6H {x:Expr} (ha:PE X x (LE G.toGd W (den G a))):PE X x (LE G.toGd W (den G (.lck a))) :=
 PE.imp (pe_lock ha) fun σ H Q h=>by
  obtain ⟨δ,S,Y,K,R,ht,res,rw'⟩:=h
  rw [den] at ht
  obtain ⟨d,kvs,at_d,ht⟩:=ht
  obtain ⟨ws,here,all⟩:=R.ce d _ at_d
  refine ⟨d,_,here,trivial,fun od=>?_⟩
  have P:a0a S H (S.set d (.loc kvs)) (upd H d (.frz od (.dK ws))):=a0a.write at_d
  refine ⟨δ,_,Y,_,R.mono P (R.ce.lock at_d here all),ht,fun x S1 v H1 kk P1 c1 r1=>⟨(PostW.unlock at_d P1).2,?_⟩,rw'.mono P⟩
  exact res _ _ v _ kk (a0a.unlock at_d P1) (CellsOk.unlock at_d all P1 c1) (r1.monoW (.write (PostW.unlock at_d P1).1))
theorem b89 {x:Expr} (ha:PE X x (LE G.toGd W (den G a))):PE X x (LE G.toGd W (den G (.fz a))) :=
 PE.imp ha fun σ H Q h=>by
  obtain ⟨δ,S,Y,K,R,ht,res,rw'⟩:=h
  rw [den] at ht
  refine ⟨δ,S,Y,_,R,ht,fun d S1 v H1 kk P c r=>?_,rw'⟩
  obtain ⟨p,rfl,⟨ds,at_p,q⟩ | ⟨ds,at_p,q⟩⟩:=kk
  ·cases a0n r
   exact res _ _ _ _ q (P.trans (a0a.freeze at_p)) (c.freeze at_p) (Rep.freeze c at_p)
  ·cases a0n r
   exact res _ _ _ _ q (P.trans (a0a.freeze at_p)) (c.freeze at_p) (Rep.freezeK c at_p)
theorem b6y {i:Nat} {x:Expr} (ha:PE X x (LE G.toGd W (den G a))):PE X x (LE G.toGd W (den G (.fzt i a))) :=
 PE.imp ha fun σ H Q h=>by
  obtain ⟨δ,S,Y,K,R,ht,res,rw'⟩:=h
  rw [den] at ht
  refine ⟨δ,S,Y,_,R,ht,fun d S1 v H1 kk P c r=>?_,rw'⟩
  obtain ⟨ds,p,l,rfl,at_i,at_p,q⟩:=kk
  refine res _ _ _ _ q (P.trans (a0a.freeze at_p)) (c.freeze at_p) ?_
  have r1:=r.mono (a0a.freeze at_p)
  simp only [Rep] at r1 ⊢
  obtain ⟨T,vs,rfl,at_T,all⟩:=r1
  refine ⟨T,vs,rfl,at_T,?_⟩
  obtain ⟨w,hw,rw2⟩:=all.get at_i
  cases a0n rw2
  have:=all.set (i:=i) (Rep.freeze c at_p)
  have e:vs.set i (V.ref p)=vs:=by
   apply List.ext_getElem?
   intro j
   by_cases e:i=j
   ·subst e;rw [List.getElem?_set_self (List.getElem?_eq_some_iff.mp hw).1,hw]
   ·rw [List.getElem?_set_ne e]
  rw [e] at this
  exact this
theorem b6U {x y:Str} {p p2 cp:Pos} (c:XC n X G W k sc) (ex:x=("sorted" : Str)) (hg:glB sc x=true) (ey:y=("set" : Str)) (hg2:glB sc y=true) (hn:a0m l=true) (ha:PE X l (LE G.toGd W (den G a))) :
  PE X (.Call (.Name x p) [.Call (.Name y p2) [l] [] cp] [] pos) (LE G.toGd W (den G (.ofi a))):=by
 subst ex ey
 by_cases hm:G.m0=none
 ·have calm:X.calm=true:=by have:=c.md;rw [hm] at this;exact this.2
  refine PE.imp (b2k calm (c.gl hg) (c.ok.bt _ (by decide +kernel)) (c.gl hg2) (c.ok.bt _ (by decide +kernel)) ha (a0b hn)) fun σ H Q h=>?_
  have h:=h.re (t':=fun δ S Y K=>den G a δ S Y fun x S1=>∃ zs:List Int,vw S1 x=.lst (zs.map D.int)∧zs.length < 64∧∀ ns:List Int,ns.Pairwise (· < ·)→(∀ k,k∈ns↔k∈zs)→K (.lst (ns.map D.int)) S1) fun δ S Y K q=>by
   rw [den] at q
   exact q.2
  refine (a0p (t1:=den G a) (t2:=fun x δ S1 Y K=>∃ zs:List Int,vw S1 x=.lst (zs.map D.int)∧zs.length < 64∧∀ ns:List Int,ns.Pairwise (· < ·)→(∀ k,k∈ns↔k∈zs)→K (.lst (ns.map D.int)) S1) h).then fun v H1 q=>?_
  obtain ⟨x,δ,S,Y,K,R,r,⟨zs,seen,few,q⟩,res,_⟩:=q
  obtain ⟨d,ws,rfl,seq,all⟩:=a0g R.ce r seen
  rw [c.ok.K] at seq
  cases a2h zs all
  exact ⟨d,zs,rfl,seq,few,fun ns q' hs hm free=>res.outL (cell:=false) (q ns hs hm) R.ce (a3o _) free⟩
 ·refine a0w fun δ S Y K h=>?_
  rw [den] at h
  exact hm h.1
theorem b6V {srt:Bool} {x y:Str} {p p2 cp:Pos} (c:XC n X G W k sc) (ex:x=b2a srt) (hg:glB sc x=true) (ey:y=("set" : Str)) (hg2:glB sc y=true) (hn:a0m l=true) (ha:PE X l (LE G.toGd W (den G a))) :
  PE X (.Call (.Name x p) [.Call (.Name y p2) [l] [] cp] [] pos) (LE G.toGd W (den G (.ofs srt a))):=by
 subst ex ey
 by_cases hm:G.m0=none
 ·have calm:X.calm=true:=by have:=c.md;rw [hm] at this;exact this.2
  refine PE.imp (b2l calm (c.gl hg) (c.ok.bt _ (by cases srt <;> decide +kernel)) (c.gl hg2) (c.ok.bt _ (by decide +kernel)) ha (a0b hn)) fun σ H Q h=>?_
  have h:=h.re (t':=fun δ S Y K=>den G a δ S Y fun x S1=>∃ zs:List Str,vw S1 x=.lst (zs.map D.str)∧(zs.length < 64∨((uniq zs).length < 64∧zs.length < 1000))∧if srt=true then ∃ cell,outL cell ((a0X (uniq zs)).map D.str) S1 K else K (.int ((uniq zs).length:Nat)) S1) fun δ S Y K q=>by
   rw [den] at q
   exact q.2
  refine (a0p (t1:=den G a) (t2:=fun x δ S1 Y K=>∃ zs:List Str,vw S1 x=.lst (zs.map D.str)∧(zs.length < 64∨((uniq zs).length < 64∧zs.length < 1000))∧if srt=true then ∃ cell,outL cell ((a0X (uniq zs)).map D.str) S1 K else K (.int ((uniq zs).length:Nat)) S1) h).then fun v H1 q=>?_
  obtain ⟨x,δ,S,Y,K,R,r,⟨zs,seen,few,q⟩,res,_⟩:=q
  obtain ⟨d,ws,rfl,seq,all⟩:=a0g R.ce r seen
  rw [c.ok.K] at seq
  cases a04 zs all
  refine ⟨d,zs,rfl,seq,few,?_⟩
  cases srt with
  | true =>
   obtain ⟨cell,q⟩:=q
   exact fun q' free=>res.outL (cell:=cell) q R.ce (a1w _) free
  | false=>exact res.int q R.ce
 ·refine a0w fun δ S Y K h=>?_
  rw [den] at h
  exact hm h.1
theorem b7e {cell:Bool} {x m:Str} {p cp ap:Pos} (c:XC n X G W k sc) (ex:x=("list" : Str)) (hg:glB sc x=true) (em:m=("values" : Str)) (hs:a6N l=true) (hl:(ap.endLine == cp.line)=true) (ha:PE X l (LE G.toGd W (den G a))) :
  PE X (.Call (.Name x p) [.Call (.Attribute l m ap) [] [] cp] [] pos) (LE G.toGd W (den G (.vls cell a))):=by
 subst ex em
 by_cases hm:G.m0=none
 ·have calm:X.calm=true:=by have:=c.md;rw [hm] at this;exact this.2
  refine PE.imp (a91 calm ha (c.gl hg) (c.ok.bt _ (by decide +kernel)) (a1B hs) hl) fun σ H Q h=>?_
  have h:=h.re (t':=fun δ S Y K=>den G a δ S Y fun x S1=>∃ p kvs,x=.obj p∧S1 p=some (.dic kvs)∧outL cell (kvs.map (·.2)) S1 K) fun δ S Y K q=>by
   rw [den] at q
   exact q.2
  refine (a0p (t1:=den G a) (t2:=fun x δ S1 Y K=>∃ p kvs,x=.obj p∧S1 p=some (.dic kvs)∧outL cell (kvs.map (·.2)) S1 K) h).then fun v H1 q=>?_
  obtain ⟨x,δ,S,Y,K,R,r,⟨d,kvs,rfl,at_d,q⟩,res,_⟩:=q
  cases a0n r
  obtain ⟨ws,here,all⟩:=R.ce d _ at_d
  exact ⟨d,ws,rfl,here,fun q' free=>res.outL q R.ce (a7d all) free⟩
 ·refine a0w fun δ S Y K h=>?_
  rw [den] at h
  exact hm h.1
theorem b6X {cell:Bool} {kk:Nat} {p1 p2 p3:Pos} (c:XC n X G W k sc) (ha:PE X l (LE G.toGd W (den G a))):PE X (.Subscript l (.Slice none none (some (.UnaryOp .USub (.Constant (.int 1) kk p1) p2)) p3) pos) (LE G.toGd W (den G (.rev cell a))) :=
 PE.imp (pe_revL ha) fun σ H Q h=>by
  rw [den] at h
  refine (a0p (t1:=den G a) (t2:=fun x δ S1 Y K=>∃ ds,vw S1 x=.lst ds∧outL cell ds.reverse S1 K) h).then fun v H1 q=>?_
  obtain ⟨x,δ,S,Y,K,R,r,⟨ds,seen,q⟩,res,_⟩:=q
  obtain ⟨p,vs,rfl,seq,all⟩:=a0g R.ce r seen
  rw [c.ok.K] at seq
  exact ⟨p,vs,rfl,seq,fun q' free=>res.outL q R.ce all.reverse free⟩
theorem b6Z {j kk:Nat} {lo:Option Expr} {p2 p3:Pos} (c:XC n X G W k sc) (hlo:loE j lo=true) (ha:PE X l (LE G.toGd W (den G a))):PE X (.Subscript l (.Slice lo none (some (.Constant (.int 2) kk p2)) p3) pos) (LE G.toGd W (den G (.sl2 j a))) :=
 PE.imp (b2h ha hlo) fun σ H Q h=>by
  rw [den] at h
  refine (a0p (t1:=den G a) (t2:=fun x δ S1 Y K=>∃ ds,vw S1 x=.lst ds∧K (.lst (ev2 j ds)) S1) h).then fun v H1 q=>?_
  obtain ⟨x,δ,S,Y,K,R,r,⟨ds,seen,q⟩,res,_⟩:=q
  obtain ⟨p,vs,rfl,seq,all⟩:=a0g R.ce r seen
  rw [c.ok.K] at seq
  exact ⟨p,vs,rfl,seq,fun q' free=>res.lst q R.ce (a8i all j) free⟩
def b80 (g:Gd) (p:Addr) (kvs:List (Key × D)):R2:=fun v u H Q=>∃ y S K,CellsOk g S H∧v=.ref p∧Rep g S H y u∧(∃ z d,y=.str z∧valD kvs (.inr z)=some d∧K d S)∧Res g S H K Q
theorem a9u {g:Gd} {p:Addr} {kvs:List (Key × D)} (hK:g.K=X.K) (T:b3v X.K X.w p kvs):IxR X (b80 g p kvs):=by
 intro value slice pins s σ H v1 v2 u1 u2 Q I r1 r2 h hs
 obtain ⟨y,S,K,hc,rfl,ry,⟨z,d,rfl,e,k⟩,res⟩:=h
 cases a0o ry
 obtain ⟨es,n,D,at_⟩:=T
 have h:=at_ z
 rw [e] at h
 obtain ⟨u,v,e1,e2,e3⟩:=h
 have eg:(⟨X.K⟩:Gd)=g:=by cases g;cases hK;rfl
 rw [eg] at e3
 exact ix_kdict value slice pins s σ H _ _ _ _ Q I r1 r2 ⟨p,z,v,rfl,rfl,⟨es,n,u,D.at_,D.lit,e1,e2⟩,res.val k hc (e3 S H)⟩ hs
def b81 (g:Gd) (p:Addr) (kvs:List (Key × D)) (neg:Bool):R2:=fun u v H Q=>∃ y S K,CellsOk g S H∧v=.ref p∧Rep g S H y u∧(∃ z,y=.str z∧K (.bl (neg ^^ (valD kvs (.inr z)).isSome)) S)∧Res g S H K Q
theorem a6o {g:Gd} {p:Addr} {kvs:List (Key × D)} (T:b3v X.K X.w p kvs):∀ neg:Bool,OpR X (compareOp (if neg=true then CmpOp.NotIn else CmpOp.In)) (b81 g p kvs neg):=by
 intro neg pins s σ H u1 v1 u2 v2 Q I r1 r2 h
 obtain ⟨y,S,K,hc,rfl,ry,⟨z,rfl,k⟩,res⟩:=h
 cases a0o ry
 obtain ⟨es,n,D,at_⟩:=T
 have h:=at_ z
 have key:∃ r,PySem.W.nsIn X.K p z=some r∧r.isSome=(valD kvs (.inr z)).isSome:=by
  cases e:valD kvs (.inr z) with
  | none=>rw [e] at h;exact ⟨none,h,rfl⟩
  | some d =>
   rw [e] at h
   obtain ⟨u,v,e1,_⟩:=h
   exact ⟨some u,e1,rfl⟩
 obtain ⟨r,e,er⟩:=key
 rw [← er] at k
 cases neg with
 | false =>
  rw [Bool.false_xor] at k
  exact op_in_kd D pins s σ H _ _ _ _ Q I r1 r2 ⟨z,r,rfl,rfl,e,res.bl k hc⟩
 | true =>
  rw [Bool.true_xor] at k
  exact op_notIn_kd D pins s σ H _ _ _ _ Q I r1 r2 ⟨z,r,rfl,rfl,e,res.bl k hc⟩
theorem b6F {j:Nat} {y:Str} {p1:Pos} (c:XC n X G W k sc) (hn:nmB n.gvs j y=true) (hg:glB sc y=true) (hs:a1r r=true) (ha:PE X r (LE G.toGd W (den G a))):PE X (.Subscript (.Name y p1) r pos) (LE G.toGd W (den G (.kix j a))):=by
 cases e:G.kd j with
 | none =>
  refine ⟨fun pins s σ H Q I h=>?_⟩
  obtain ⟨δ,S,Y,K,R,ht,_⟩:=h
  rw [den] at ht
  obtain ⟨_,e',_⟩:=ht
  rw [e] at e'
  cases e'
 | some kvs =>
  obtain ⟨p,h1,T⟩:=c.ok.kd j y kvs (a0r hn).1 e
  refine PE.imp (pe_ix (a9u c.ok.K T) (pe_glob (v:=.ref p) (c.gl hg) h1 rfl (a0r hn).2.1) ha (a3A hs)) fun σ H Q h=>?_
  obtain ⟨δ,S,Y,K,R,ht,res,rw'⟩:=h
  rw [den] at ht
  obtain ⟨kvs',e',q⟩:=ht
  rw [e] at e'
  cases e'
  exact ⟨δ,S,Y,_,R,q,fun x S1 v1 H1 kk P cc r=>⟨x,S1,K,cc,rfl,r,kk,res.mono P⟩,rw'⟩
theorem b6D {neg:Bool} {j:Nat} {y:Str} {p1:Pos} (c:XC n X G W k sc) (hn:nmB n.gvs j y=true) (hg:glB sc y=true) (ha:PE X l (LE G.toGd W (den G a))):PE X (.Compare l [if neg=true then CmpOp.NotIn else CmpOp.In] [.Name y p1] pos) (LE G.toGd W (den G (.kin neg j a))):=by
 cases e:G.kd j with
 | none =>
  refine ⟨fun pins s σ H Q I h=>?_⟩
  obtain ⟨δ,S,Y,K,R,ht,_⟩:=h
  rw [den] at ht
  obtain ⟨_,e',_⟩:=ht
  rw [e] at e'
  cases e'
 | some kvs =>
  obtain ⟨p,h1,T⟩:=c.ok.kd j y kvs (a0r hn).1 e
  refine PE.imp (pe_cmpR (a6o (g:=G.toGd) T neg) ha (pe_glob (v:=.ref p) (c.gl hg) h1 rfl (a0r hn).2.1) (a1a (e:=.Name y p1) rfl _)) fun σ H Q h=>?_
  obtain ⟨δ,S,Y,K,R,ht,res,rw'⟩:=h
  rw [den] at ht
  obtain ⟨kvs',e',q⟩:=ht
  rw [e] at e'
  cases e'
  exact ⟨δ,S,Y,_,R,q,fun x S1 v1 H1 kk P cc r=>⟨x,S1,K,cc,rfl,r,kk,res.mono P⟩,rw'⟩
theorem b2x {neg:Bool} {j:Nat} {y:Str} {p1:Pos} (c:XC n X G W k sc) (hn:nmB n.gvs j y=true) (hg:glB sc y=true) (ha:PE X l (LE G.toGd W (den G a))):PT X (.Compare l [if neg=true then CmpOp.NotIn else CmpOp.In] [.Name y p1] pos) (LT G.toGd W (a0j G (.kin neg j a))):=by
 cases e:G.kd j with
 | none =>
  refine ⟨fun pins s σ H Q I h=>?_⟩
  obtain ⟨δ,S,Y,K,R,ht,_⟩:=h
  rw [a0j] at ht
  obtain ⟨_,e',_⟩:=ht
  rw [e] at e'
  cases e'
 | some kvs =>
  obtain ⟨p,h1,T⟩:=c.ok.kd j y kvs (a0r hn).1 e
  refine PT.imp (pt_cmpR (a6o (g:=G.toGd) T neg) ha (pe_glob (v:=.ref p) (c.gl hg) h1 rfl (a0r hn).2.1) (a1a (e:=.Name y p1) rfl _)) fun σ H Q h=>?_
  rw [a0j] at h
  have h:=a9C (t:=fun δ S Y K=>∃ kvs,G.kd j=some kvs∧den G a δ S Y fun x S1=>∃ z,x=.str z∧K (.bl (neg ^^ (valD kvs (.inr z)).isSome)) S1) h
  obtain ⟨δ,S,Y,K,R,⟨kvs',e',q⟩,res,rw'⟩:=h
  rw [e] at e'
  cases e'
  exact ⟨δ,S,Y,_,R,q,fun x S1 v1 H1 kk P cc r=>⟨x,S1,K,cc,rfl,r,kk,res.mono P⟩,rw'⟩
end
end Sv
namespace Sv
open PySem PySem.Spec PyProof.Rows L2
open L2H (RoomH)
section
variable {g:Gd} {S1:SS} {H1:Hp}
theorem a7S {d:D} {v:V} {ds:List D} {a:Addr} (e:v=.ref a) (r:Rep g S1 H1 d v):a5N g S1 H1 (Itl g.K a) ds fun S'=>vw S' d=.lst ds:=by
 subst e
 have get:∀ {S H},a0a S1 H1 S H→CellsOk g S H→vw S d=.lst ds→∃ vs,SqL g.K H a vs∧a0c g S H ds vs:=fun {S H} P c ok=>by
  obtain ⟨p,vs,e,hl,hr⟩:=a0g c (r.mono P) ok
  cases e
  exact ⟨vs,hl,hr⟩
 refine ⟨fun i S H hi P c ok=>?_,fun i S H x H' d' hd P c ok y=>?_,fun i S H hi P c ok=>?_⟩
 ·obtain ⟨vs,hl,hr⟩:=get P c ok
  have:=hr.length
  exact ⟨vs,vs[i]'(by omega),hl,by simp⟩
 ·obtain ⟨vs,hl,hr⟩:=get P c ok
  obtain ⟨e,y⟩:=y
  subst e
  obtain ⟨w,hw,rw'⟩:=hr.get hd
  have:=y vs hl
  rw [hw] at this
  cases this
  exact ⟨a0a.refl _ _,c,rw'⟩
 ·obtain ⟨vs,hl,hr⟩:=get P c ok
  exact ⟨vs,hl,by rw [← hr.length];exact hi⟩
theorem a7U {d:D} {v:V} {ds:List D} {a:Addr} (e:v=.ref a) (r:Rep g S1 H1 d v) (ed:vw S1 d=.tup ds):a5N g S1 H1 (Itt g.K a) ds fun S'=>True:=by
 subst e
 have ed':=a4q ed
 subst ed'
 have get:∀ {S H},a0a S1 H1 S H→∃ vs,SqT g.K H a vs∧a0c g S H ds vs:=fun {S H} P=>by
  obtain ⟨p,vs,e,hl,hr⟩:=a0s (S:=S) (d:=.tup ds) (r.mono P) rfl
  cases e
  exact ⟨vs,hl,hr⟩
 refine ⟨fun i S H hi P c ok=>?_,fun i S H x H' d' hd P c ok y=>?_,fun i S H hi P c ok=>?_⟩
 ·obtain ⟨vs,hl,hr⟩:=get P
  have:=hr.length
  exact ⟨vs,vs[i]'(by omega),hl,by simp⟩
 ·obtain ⟨vs,hl,hr⟩:=get P
  obtain ⟨e,y⟩:=y
  subst e
  obtain ⟨w,hw,rw'⟩:=hr.get hd
  have:=y vs hl
  rw [hw] at this
  cases this
  exact ⟨a0a.refl _ _,c,rw'⟩
 ·obtain ⟨vs,hl,hr⟩:=get P
  exact ⟨vs,hl,by rw [← hr.length];exact hi⟩
theorem a1b {lo:Int} {n:Nat}:(a4h lo n).length=n:=by simp [a4h]
theorem a98 {lo:Int} {n i:Nat} {d:D} (h:(a4h lo n)[i]?=some d):i < n∧d=.int (lo + (i:Int)):=by
 unfold a4h at h
 rw [zbb] at h
 cases e:(List.range n)[i]? with
 | none=>rw [e] at h;cases h
 | some j =>
  rw [e] at h
  cases h
  obtain ⟨h1,h2⟩:=List.getElem?_eq_some_iff.mp e
  rw [List.getElem_range] at h2
  subst h2
  exact ⟨by simpa using h1,rfl⟩
theorem a4I {lo:Int} {n:Nat}:a5N g S1 H1 (Itr lo n) (a4h lo n) fun S'=>True:=by
 refine ⟨fun i S H hi P c ok=>?_,fun i S H x H' d' hd P c ok y=>?_,fun i S H hi P c ok=>?_⟩
 ·rw [a1b] at hi;exact hi
 ·obtain ⟨e,y⟩:=y
  subst e y
  obtain ⟨_,rfl⟩:=a98 hd
  exact ⟨a0a.refl _ _,c,by simp only [Rep]⟩
 ·rw [a1b] at hi;exact hi
theorem a7T {z:Str}:a5N g S1 H1 (Its z) (a0U z) fun S'=>True:=by
 have len:(a0U z).length=z.cps.size:=by unfold a0U;rw [zag,Array.length_toList]
 refine ⟨fun i S H hi P c ok=>?_,fun i S H x H' d' hd P c ok y=>?_,fun i S H hi P c ok=>?_⟩
 ·rw [len] at hi;exact hi
 ·obtain ⟨rfl,code,at_i,rfl⟩:=y
  unfold a0U at hd
  rw [zbb,Array.getElem?_toList,at_i] at hd
  cases hd
  exact ⟨a0a.refl _ _,c,by simp only [Rep]⟩
 ·rw [len] at hi;exact hi
theorem a1n {ds:List D}:(a1e ds).length=ds.length:=by unfold a1e;rw [zag,List.length_zipIdx]
theorem a4D {ds:List D} {i:Nat} {d:D} (h:(a1e ds)[i]?=some d):∃ e,ds[i]?=some e∧d=.tup [.int (i:Nat),e]:=by
 unfold a1e at h
 rw [zbb,List.getElem?_zipIdx] at h
 cases q:ds[i]? with
 | none=>rw [q] at h;cases h
 | some e=>rw [q] at h;cases h;exact ⟨e,rfl,by simp⟩
theorem a1O {S:SS} {H:Hp} {T:Addr} {d e:D} {v u:V} (c:CellsOk g S H) (free:H T=none) (r1:Rep g S H d v) (r2:Rep g S H e u):a0a S H S (upd H T (.tup [v,u]))∧CellsOk g S (upd H T (.tup [v,u]))∧Rep g S (upd H T (.tup [v,u])) (.tup [d,e]) (.ref T):=by
 have P:a0a S H S (upd H T (.tup [v,u])):=a0a.new free
 refine ⟨P,c.new free,?_⟩
 simp only [Rep,a0c]
 exact ⟨T,_,rfl,.inl ⟨c.free free,upd_same⟩,v,_,rfl,r1.mono P,u,_,rfl,r2.mono P,rfl⟩
theorem a6r {d:D} {v:V} {ds:List D} {a:Addr} (e:v=.ref a) (r:Rep g S1 H1 d v):a5N g S1 H1 (Ite g.K a) (a1e ds) fun S'=>vw S' d=.lst ds:=by
 subst e
 have get:∀ {S H},a0a S1 H1 S H→CellsOk g S H→vw S d=.lst ds→∃ vs,SqL g.K H a vs∧a0c g S H ds vs:=fun {S H} P c ok=>by
  obtain ⟨p,vs,e,hl,hr⟩:=a0g c (r.mono P) ok
  cases e
  exact ⟨vs,hl,hr⟩
 refine ⟨fun i S H hi P c ok=>?_,fun i S H x H' d' hd P c ok y=>?_,fun i S H hi P c ok=>?_⟩
 ·obtain ⟨vs,hl,hr⟩:=get P c ok
  have same:=hr.length
  rw [a1n] at hi
  exact ⟨vs,vs[i]'(by omega),hl,by simp⟩
 ·obtain ⟨vs,hl,hr⟩:=get P c ok
  obtain ⟨T,x0,rfl,free,rfl,at_i⟩:=y
  obtain ⟨e0,he,rfl⟩:=a4D hd
  obtain ⟨w,hw,rw'⟩:=hr.get he
  have:=at_i vs hl
  rw [hw] at this
  cases this
  exact a1O c free (by simp only [Rep]) rw'
 ·obtain ⟨vs,hl,hr⟩:=get P c ok
  rw [a1n] at hi
  exact ⟨vs,hl,by rw [← hr.length];exact hi⟩
theorem a2s:∀ {xs ys:List D},(a1g xs ys).length=min xs.length ys.length
 | [],_=>by simp [a1g]
 | _ :: _,[]=>by simp [a1g]
 | _ :: xs,_ :: ys=>by simp only [a1g,zaw,a2s (xs:=xs) (ys:=ys)];omega
theorem a5m:∀ {xs ys:List D} {i:Nat} {d:D},(a1g xs ys)[i]?=some d→∃ x y,xs[i]?=some x∧ys[i]?=some y∧d=.tup [x,y]
 | [],_,_,_,h=>by simp [a1g] at h
 | _ :: _,[],_,_,h=>by simp [a1g] at h
 | x :: xs,y :: ys,0,d,h=>by
  simp only [a1g,List.getElem?_cons_zero,Option.some.injEq] at h
  exact ⟨x,y,rfl,rfl,h.symm⟩
 | x :: xs,y :: ys,i + 1,d,h=>by
  simp only [a1g,List.getElem?_cons_succ] at h ⊢
  exact a5m h
theorem a1I {t:Bool} {S:SS} {H:Hp} {xs:List D} {a:Addr} (c:CellsOk g S H) (r:Rep g S H (sqv t xs) (.ref a)):∃ vs,SqB g.K t H a vs∧a0c g S H xs vs:=by
 cases t
 ·obtain ⟨p,vs,e,hl,hr⟩:=a0g (S:=S) (d:=.lst xs) c r rfl
  cases e
  exact ⟨vs,hl,hr⟩
 ·obtain ⟨p,vs,e,hl,hr⟩:=a0s (S:=S) (d:=.tup xs) r rfl
  cases e
  exact ⟨vs,hl,hr⟩
theorem a8L {t:Bool} {S:SS} {H:Hp} {xs:List D} {v:V} (c:CellsOk g S H) (r:Rep g S H (sqv t xs) v):∃ a,v=.ref a:=by
 cases t
 ·obtain ⟨p,vs,e,_⟩:=a0g (S:=S) (d:=.lst xs) c r rfl
  exact ⟨p,e⟩
 ·obtain ⟨p,vs,e,_⟩:=a0s (S:=S) (d:=.tup xs) r rfl
  exact ⟨p,e⟩
theorem a7V {t1 t2:Bool} {xs ys:List D} {a b:Addr} (r1:Rep g S1 H1 (sqv t1 xs) (.ref a)) (r2:Rep g S1 H1 (sqv t2 ys) (.ref b)):a5N g S1 H1 (b4m g.K t1 a t2 b) (a1g xs ys) fun _=>True:=by
 refine ⟨fun i S H hi P c ok=>?_,fun i S H x H' d' hd P c ok y=>?_,fun i S H hi P c ok=>?_⟩
 ·obtain ⟨vs,hl,hr⟩:=a1I c (r1.mono P)
  obtain ⟨us,hl2,hr2⟩:=a1I c (r2.mono P)
  have l1:=hr.length
  have l2:=hr2.length
  rw [a2s] at hi
  exact ⟨vs,us,vs[i]'(by omega),us[i]'(by omega),hl,hl2,by simp,by simp⟩
 ·obtain ⟨vs,hl,hr⟩:=a1I c (r1.mono P)
  obtain ⟨us,hl2,hr2⟩:=a1I c (r2.mono P)
  obtain ⟨T,x0,y0,rfl,free,rfl,at1,at2⟩:=y
  obtain ⟨e1,e2,h1,h2,rfl⟩:=a5m hd
  obtain ⟨w1,hw1,q1⟩:=hr.get h1
  obtain ⟨w2,hw2,q2⟩:=hr2.get h2
  have k1:=at1 vs hl
  rw [hw1] at k1
  cases k1
  have k2:=at2 us hl2
  rw [hw2] at k2
  cases k2
  exact a1O c free q1 q2
 ·obtain ⟨vs,hl,hr⟩:=a1I c (r1.mono P)
  obtain ⟨us,hl2,hr2⟩:=a1I c (r2.mono P)
  have l1:=hr.length
  have l2:=hr2.length
  rw [a2s] at hi
  exact ⟨vs,us,hl,hl2,by omega⟩
theorem a5v {v:V} {ds:List D} {a:Addr} (e:v=.ref a) (r:Rep g S1 H1 (.tup ds) v):a5N g S1 H1 (b4l g.K a) (a1e ds) fun _=>True:=by
 subst e
 have get:∀ {S H},a0a S1 H1 S H→∃ vs,SqT g.K H a vs∧a0c g S H ds vs:=fun {S H} P=>by
  obtain ⟨p,vs,e,hl,hr⟩:=a0s (S:=S) (d:=.tup ds) (r.mono P) rfl
  cases e
  exact ⟨vs,hl,hr⟩
 refine ⟨fun i S H hi P c ok=>?_,fun i S H x H' d' hd P c ok y=>?_,fun i S H hi P c ok=>?_⟩
 ·obtain ⟨vs,hl,hr⟩:=get P
  have same:=hr.length
  rw [a1n] at hi
  exact ⟨vs,vs[i]'(by omega),hl,by simp⟩
 ·obtain ⟨vs,hl,hr⟩:=get P
  obtain ⟨T,x0,rfl,free,rfl,at_i⟩:=y
  obtain ⟨e0,he,rfl⟩:=a4D hd
  obtain ⟨w,hw,rw'⟩:=hr.get he
  have:=at_i vs hl
  rw [hw] at this
  cases this
  exact a1O c free (by simp only [Rep]) rw'
 ·obtain ⟨vs,hl,hr⟩:=get P
  rw [a1n] at hi
  exact ⟨vs,hl,by rw [← hr.length];exact hi⟩
theorem a5c {S:SS} {H:Hp} (k:Key):Rep g S H (keyV k) (kV k):=by
 cases k <;> simp only [keyV,kV,Rep]
theorem a2P {S:SS} {H:Hp} {a:Addr} {kvs:List (Key × D)} {ws:List (Key × V)} {o:Obj} (at_a:S1 a=some (.loc kvs)) (here:H1 a=some (.frz o (.dK ws))) (all:a0v g S1 H1 kvs ws) (P:a0a S1 H1 S H):H a=some (.frz o (.dK ws))∧a0v g S H kvs ws :=
 ⟨(P.lk a kvs _ at_a here).2,all.mono P⟩
theorem a7b {S:SS} {H:Hp} {kvs:List (Key × D)} {ws:List (Key × V)} {i:Nat} {p:Key × D} (r:a0v g S H kvs ws) (e:kvs[i]?=some p):∃ w,ws[i]?=some (p.1,w)∧Rep g S H p.2 w:=by
 obtain ⟨q,e2,same,like⟩:=a67 (a0A r) e
 obtain ⟨k,w⟩:=q
 cases same
 exact ⟨w,e2,like⟩
theorem a6s {a:Addr} {kvs:List (Key × D)} {ws:List (Key × V)} {o:Obj} (at_a:S1 a=some (.loc kvs)) (here:H1 a=some (.frz o (.dK ws))) (all:a0v g S1 H1 kvs ws):a5N g S1 H1 (Itk a o ws) (kvs.map fun kv=>keyV kv.1) fun S'=>True:=by
 have same:kvs.length=ws.length:=Paired.length (a0A all)
 refine ⟨fun i S H hi P c ok=>?_,fun i S H x H' d' hd P c ok y=>?_,fun i S H hi P c ok=>?_⟩
 ·rw [zag] at hi
  exact ⟨(a2P at_a here all P).1,by omega⟩
 ·obtain ⟨rfl,k,v,at_i,rfl⟩:=y
  rw [zbb,zam] at hd
  obtain ⟨p,hp,rfl⟩:=hd
  obtain ⟨w,hw,_⟩:=a7b all hp
  rw [at_i] at hw
  cases hw
  exact ⟨a0a.refl _ _,c,a5c _⟩
 ·rw [zag] at hi
  exact ⟨(a2P at_a here all P).1,by omega⟩
theorem a5w {a:Addr} {kvs:List (Key × D)} {ws:List (Key × V)} {o:Obj} (at_a:S1 a=some (.loc kvs)) (here:H1 a=some (.frz o (.dK ws))) (all:a0v g S1 H1 kvs ws):a5N g S1 H1 (Iti a o ws) (kvs.map fun kv=>.tup [keyV kv.1,kv.2]) fun S'=>True:=by
 have same:kvs.length=ws.length:=Paired.length (a0A all)
 refine ⟨fun i S H hi P c ok=>?_,fun i S H x H' d' hd P c ok y=>?_,fun i S H hi P c ok=>?_⟩
 ·rw [zag] at hi
  exact ⟨(a2P at_a here all P).1,by omega⟩
 ·obtain ⟨T,k,v,at_i,rfl,free,rfl⟩:=y
  rw [zbb,zam] at hd
  obtain ⟨p,hp,rfl⟩:=hd
  obtain ⟨w,hw,like⟩:=a7b (all.mono P) hp
  rw [at_i] at hw
  cases hw
  exact a1O c free (a5c _) like
 ·rw [zag] at hi
  exact ⟨(a2P at_a here all P).1,by omega⟩
end
section
variable {n:SN} {X:Cx} {G:Gm} {W:WX} {k:Nat} {sc:Scope} {a b c':RE} {l r t:Expr} {pos:Pos} {es:RL} {xs:List Expr}
theorem a7x {tg:Expr} {g:Gd} {t1:RdE} {t2:D→RdI} {σ:L2.St} {H:Hp} {R:It→Hp→Prop} (h:LI g W (fun δ S Y K=>t1 δ S Y fun x S1=>t2 x δ S1 Y K) σ H R) :
  LE g W t1 σ H fun v H1=>∃ x δ S Y K,Rel g S H1 δ σ∧Rep g S H1 x v∧t2 x δ S Y K∧(∀ ds ok S' H' J,K ds ok S'→a0a S H1 S' H'→CellsOk g S' H'→a5N g S' H' J ds ok→R J H')∧a3L g S H1 Y W:=by
 obtain ⟨δ,S,Y,K,R0,ht,res,rw'⟩:=h
 exact ⟨δ,S,Y,_,R0,ht,fun d S1 v H1 k P c r=>⟨d,δ,S1,Y,K,R0.mono P c,r,k,fun ds ok S' H' J q P2=>res ds ok S' H' J q (P.trans P2),rw'.mono P⟩,rw'⟩
theorem b5m {tg:Expr} (c:XC n X G W k sc) (ha:PE X l (LE G.toGd W (den G a))):PI X tg l (LI G.toGd W (a0y G (.lst a))) :=
 PI.imp (pi_list ha) fun σ H R h=>by
  have h:LI G.toGd W (fun δ S Y K=>den G a δ S Y fun d S1=>∃ ds,vw S1 d=.lst ds∧K ds (fun S'=>vw S' d=.lst ds) S1) σ H R:=by
   obtain ⟨δ,S,Y,K,R,ht,q⟩:=h
   rw [a0y] at ht
   exact ⟨δ,S,Y,K,R,ht,q⟩
  refine (a7x (tg:=tg) (t1:=den G a) (t2:=fun d δ S1 Y K=>∃ ds,vw S1 d=.lst ds∧K ds (fun S'=>vw S' d=.lst ds) S1) h).then fun v H1 q=>?_
  obtain ⟨x,δ,S,Y,K,R,r,⟨ds,e,q⟩,res,_⟩:=q
  obtain ⟨p,vs,rfl,hl,hr⟩:=a0g R.ce r e
  rw [c.ok.K] at hl
  refine ⟨p,rfl,⟨vs,hl⟩,?_⟩
  have:=res ds _ S H1 _ q (a0a.refl _ _) R.ce (a7S rfl r)
  rwa [c.ok.K] at this
theorem b5o {tg:Expr} (c:XC n X G W k sc) (ha:PE X l (LE G.toGd W (den G a))):PI X tg l (LI G.toGd W (a0y G (.tup a))) :=
 PI.imp (pi_tup ha) fun σ H R h=>by
  have h:LI G.toGd W (fun δ S Y K=>den G a δ S Y fun d S1=>∃ ds,vw S1 d=.tup ds∧K ds (fun S'=>True) S1) σ H R:=by
   obtain ⟨δ,S,Y,K,R,ht,q⟩:=h
   rw [a0y] at ht
   exact ⟨δ,S,Y,K,R,ht,q⟩
  refine (a7x (tg:=tg) (t1:=den G a) (t2:=fun d δ S1 Y K=>∃ ds,vw S1 d=.tup ds∧K ds (fun S'=>True) S1) h).then fun v H1 q=>?_
  obtain ⟨x,δ,S,Y,K,R,r,⟨ds,e,q⟩,res,_⟩:=q
  obtain ⟨p,vs,rfl,hl,hr⟩:=a0s r e
  rw [c.ok.K] at hl
  refine ⟨p,rfl,⟨vs,hl⟩,?_⟩
  have:=res ds _ S H1 _ q (a0a.refl _ _) R.ce (a7U rfl r e)
  rwa [c.ok.K] at this
theorem b1J {tg:Expr} {p:Pos} (c:XC n X G W k sc) (hg:glB sc "range" = true) (hs:a0m l=true) (ha:PE X l (LE G.toGd W (den G a))):PI X tg (.Call (.Name "range" p) [l] [] pos) (LI G.toGd W (a0y G (.rng1 a))) :=
 PI.imp (pi_range1 (c.gl hg) (c.ok.bt _ (by decide +kernel)) (pa_cons ha pa_nil (a0b hs)) (a0b hs)) fun σ H R h=>by
  have h:LI G.toGd W (fun δ S Y K=>den G a δ S Y fun d S1=>∃ j,d=.int j∧-(2 ^ 62)≤j∧j < 2 ^ 62∧K (a4h 0 j.toNat) (fun _=>True) S1) σ H R:=by
   obtain ⟨δ,S,Y,K,R,ht,q⟩:=h
   rw [a0y] at ht
   exact ⟨δ,S,Y,K,R,ht,q⟩
  refine (a7x (tg:=tg) (t1:=den G a) (t2:=fun d δ S1 Y K=>∃ j,d=.int j∧-(2 ^ 62)≤j∧j < 2 ^ 62∧K (a4h 0 j.toNat) (fun _=>True) S1) h).then fun v H1 q=>?_
  obtain ⟨x,δ,S,Y,K,R,r,⟨j,rfl,h1,h2,q⟩,res,_⟩:=q
  cases a0d r
  exact ⟨j,rfl,h1,h2,res _ _ S H1 _ q (a0a.refl _ _) R.ce a4I⟩
theorem b1K {tg:Expr} {p:Pos} (c:XC n X G W k sc) (hg:glB sc "range" = true) (hs:a0m l=true) (hs2:a0m r=true) (ha:PE X l (LE G.toGd W (den G a))) (hb:PE X r (LE G.toGd W (den G b))):PI X tg (.Call (.Name "range" p) [l,r] [] pos) (LI G.toGd W (a0y G (.rng2 a b))) :=
 PI.imp (pi_range2 (c.gl hg) (c.ok.bt _ (by decide +kernel)) (pa_cons ha (pa_cons hb pa_nil (a0b hs2)) (a0b hs)) (by rw [a0b hs,a0b hs2];rfl) (by rw [a0b hs2];rfl)) fun σ H R h=>by
  have h:LI G.toGd W (fun δ S Y K=>den G a δ S Y fun d S1=>den G b δ S1 Y fun d2 S2=>∃ i j,d=.int i∧d2=.int j∧(-(2 ^ 62)≤i∧i < 2 ^ 62∧-(2 ^ 62)≤j∧j < 2 ^ 62)∧K (a4h i (j - i).toNat) (fun _=>True) S2) σ H R:=by
   obtain ⟨δ,S,Y,K,R,ht,q⟩:=h
   rw [a0y] at ht
   exact ⟨δ,S,Y,K,R,ht,q⟩
  refine (a7x (tg:=tg) (t1:=den G a) (t2:=fun d δ S1 Y K=>den G b δ S1 Y fun d2 S2=>∃ i j,d=.int i∧d2=.int j∧(-(2 ^ 62)≤i∧i < 2 ^ 62∧-(2 ^ 62)≤j∧j < 2 ^ 62)∧K (a4h i (j - i).toNat) (fun _=>True) S2) h).then fun v H1 q=>?_
  obtain ⟨x,δ,S,Y,K,R,r,q,res,rw'⟩:=q
  refine ⟨δ,S,Y,_,R,q,fun d S1 v2 H2 kk P cc r2=>?_,rw'⟩
  obtain ⟨i,j,rfl,rfl,hb,q⟩:=kk
  cases a0d r
  cases a0d r2
  exact ⟨i,j,rfl,hb,res _ _ S1 H2 _ q P cc a4I⟩
theorem a6D {g:Gd} {t t':RdI} {σ:L2.St} {H:Hp} {R:It→Hp→Prop} (h:LI g W t σ H R) (w:∀ δ S Y K,t δ S Y K→t' δ S Y K):LI g W t' σ H R:=by
 obtain ⟨δ,S,Y,K,R0,ht,q⟩:=h
 exact ⟨δ,S,Y,K,R0,w _ _ _ _ ht,q⟩
theorem b5n {tg:Expr} (ha:PE X l (LE G.toGd W (den G a))):PI X tg l (LI G.toGd W (a0y G (.str a))) :=
 PI.imp (pi_str ha) fun σ H R h=>by
  refine (a7x (tg:=tg) (t1:=den G a) (t2:=fun d δ S1 Y K=>∃ z,d=.str z∧K (a0U z) (fun _=>True) S1) (a6D h fun δ S Y K q=>by rw [a0y] at q;exact q)).then fun v H1 q=>?_
  obtain ⟨x,δ,S,Y,K,R,r,⟨z,rfl,q⟩,res,_⟩:=q
  exact ⟨z,a0o r,res _ _ S H1 _ q (a0a.refl _ _) R.ce a7T⟩
theorem b1I {tg:Expr} (ha:PE X l (LE G.toGd W (den G a))):PI X tg l (LI G.toGd W (a0y G (.keys a))) :=
 PI.imp (pi_keys ha) fun σ H R h=>by
  refine (a7x (tg:=tg) (t1:=den G a) (t2:=fun d δ S1 Y K=>∃ a kvs,d=.obj a∧S1 a=some (.loc kvs)∧K (kvs.map fun kv=>keyV kv.1) (fun _=>True) S1) (a6D h fun δ S Y K q=>by rw [a0y] at q;exact q)).then fun v H1 q=>?_
  obtain ⟨x,δ,S,Y,K,R,r,⟨d,kvs,rfl,at_d,q⟩,res,_⟩:=q
  cases a0n r
  obtain ⟨ws,o,here,all⟩:=R.ce d _ at_d
  exact ⟨d,o,rfl,.inl ⟨ws,here,res _ _ S H1 _ q (a0a.refl _ _) R.ce (a6s at_d here all)⟩⟩
theorem a9t {elts:List Expr} {kk:Nat} {tpos cp ap:Pos} (hs:a6N l=true) (hl:(ap.endLine == cp.line)=true) (ha:PE X l (LE G.toGd W (den G a))):PI X (.Tuple elts kk tpos) (.Call (.Attribute l "items" ap) [] [] cp) (LI G.toGd W (a0y G (.items a))) :=
 PI.imp (pi_items ha (a1B hs) hl) fun σ H R h=>by
  refine (a7x (tg:=.Tuple elts kk tpos) (t1:=den G a) (t2:=fun d δ S1 Y K=>∃ a kvs,d=.obj a∧S1 a=some (.loc kvs)∧K (kvs.map fun kv=>.tup [keyV kv.1,kv.2]) (fun _=>True) S1) (a6D h fun δ S Y K q=>by rw [a0y] at q;exact q)).then fun v H1 q=>?_
  obtain ⟨x,δ,S,Y,K,R,r,⟨d,kvs,rfl,at_d,q⟩,res,_⟩:=q
  cases a0n r
  obtain ⟨ws,o,here,all⟩:=R.ce d _ at_d
  exact ⟨d,o,ws,rfl,here,res _ _ S H1 _ q (a0a.refl _ _) R.ce (a5w at_d here all)⟩
theorem b1H {elts:List Expr} {kk:Nat} {tpos p:Pos} (c:XC n X G W k sc) (hg:glB sc "enumerate" = true) (hs:a0m l=true) (ha:PE X l (LE G.toGd W (den G a))):PI X (.Tuple elts kk tpos) (.Call (.Name "enumerate" p) [l] [] pos) (LI G.toGd W (a0y G (.enum a))) :=
 PI.imp (pi_enum (c.gl hg) (c.ok.bt _ (by decide +kernel)) (pa_cons ha pa_nil (a0b hs)) (a0b hs)) fun σ H R h=>by
  refine (a7x (tg:=.Tuple elts kk tpos) (t1:=den G a) (t2:=fun d δ S1 Y K=>∃ ds,vw S1 d=.lst ds∧K (a1e ds) (fun S'=>vw S' d=.lst ds) S1) (a6D h fun δ S Y K q=>by rw [a0y] at q;exact q)).then fun v H1 q=>?_
  obtain ⟨x,δ,S,Y,K,R,r,⟨ds,e,q⟩,res,_⟩:=q
  obtain ⟨p,vs,rfl,hl,hr⟩:=a0g R.ce r e
  rw [c.ok.K] at hl
  refine ⟨p,vs,rfl,hl,?_⟩
  have:=res (a1e ds) _ S H1 _ q (a0a.refl _ _) R.ce (a6r rfl r)
  rwa [c.ok.K] at this
theorem a9s {elts:List Expr} {kk:Nat} {tpos p:Pos} (c:XC n X G W k sc) (hg:glB sc "enumerate" = true) (hs:a0m l=true) (ha:PE X l (LE G.toGd W (den G a))):PI X (.Tuple elts kk tpos) (.Call (.Name "enumerate" p) [l] [] pos) (LI G.toGd W (a0y G (.enumt a))) :=
 PI.imp (a8a (c.gl hg) (c.ok.bt _ (by decide +kernel)) (pa_cons ha pa_nil (a0b hs)) (a0b hs)) fun σ H R h=>by
  refine (a7x (tg:=.Tuple elts kk tpos) (t1:=den G a) (t2:=fun d δ S1 Y K=>∃ ds,d=.tup ds∧K (a1e ds) (fun _=>True) S1) (a6D h fun δ S Y K q=>by rw [a0y] at q;exact q)).then fun v H1 q=>?_
  obtain ⟨x,δ,S,Y,K,R,r,⟨ds,rfl,q⟩,res,_⟩:=q
  obtain ⟨p,vs,rfl,hl,hr⟩:=a0s (S:=S) r rfl
  rw [c.ok.K] at hl
  refine ⟨p,vs,rfl,hl,?_⟩
  have:=res (a1e ds) _ S H1 _ q (a0a.refl _ _) R.ce (a5v rfl r)
  rwa [c.ok.K] at this
theorem b1L {elts:List Expr} {kk:Nat} {tpos p:Pos} {t1 t2:Bool} (c:XC n X G W k sc) (hg:glB sc "zip" = true) (hs:a0m l=true) (hs2:a0m r=true) (ha:PE X l (LE G.toGd W (den G a))) (hb:PE X r (LE G.toGd W (den G b))):PI X (.Tuple elts kk tpos) (.Call (.Name "zip" p) [l,r] [] pos) (LI G.toGd W (a0y G (.zip t1 t2 a b))) :=
 PI.imp (a92 t1 t2 (c.gl hg) (c.ok.bt _ (by decide +kernel)) (pa_cons ha (pa_cons hb pa_nil (a0b hs2)) (a0b hs)) (a0b hs) (by rw [a0b hs2];rfl)) fun σ H R h=>by
  have h:LI G.toGd W (fun δ S Y K=>den G a δ S Y fun d S1=>den G b δ S1 Y fun d2 S2=>∃ xs ys,d=sqv t1 xs∧d2=sqv t2 ys∧K (a1g xs ys) (fun _=>True) S2) σ H R:=by
   obtain ⟨δ,S,Y,K,R,ht,q⟩:=h
   rw [a0y] at ht
   exact ⟨δ,S,Y,K,R,ht,q⟩
  refine (a7x (tg:=.Tuple elts kk tpos) (t1:=den G a) (t2:=fun d δ S1 Y K=>den G b δ S1 Y fun d2 S2=>∃ xs ys,d=sqv t1 xs∧d2=sqv t2 ys∧K (a1g xs ys) (fun _=>True) S2) h).then fun v H1 q=>?_
  obtain ⟨x,δ,S,Y,K,R,r,q,res,rw'⟩:=q
  refine ⟨δ,S,Y,_,R,q,fun d S1 v2 H2 kk P cc r2=>?_,rw'⟩
  obtain ⟨xs,ys,rfl,rfl,q⟩:=kk
  have r:=r.mono P
  obtain ⟨a1,rfl⟩:=a8L cc r
  obtain ⟨a2,rfl⟩:=a8L cc r2
  obtain ⟨vs,hl,_⟩:=a1I cc r
  obtain ⟨us,hl2,_⟩:=a1I cc r2
  rw [c.ok.K] at hl hl2
  refine ⟨a1,a2,vs,us,rfl,hl,hl2,?_⟩
  have:=res _ _ S1 H2 _ q P cc (a7V r r2)
  rwa [c.ok.K] at this
def b0H (n:SN) (sc:Scope) (ps:RQ) (ks:List (Option Expr)) (vs:List Expr):Prop:=ks.all (·.isSome)=true∧ks.length=vs.length∧(ks=[]→ps=.nil) ∧
 ∀ X G W k pos,XC n X G W k sc→∃ trs,PPs X pos ks vs trs∧∀ σ H (Q:List (V × V)→Hp→Prop),(∃ δ S Y K,Rel G.toGd S H δ σ∧a3O G ps δ S Y K∧(∀ xs S' ys H',K xs S'→a0a S H S' H'→CellsOk G.toGd S' H'→Paired (fun (x:D × D) (y:V × V)=>Rep G.toGd S' H' x.1 y.1∧Rep G.toGd S' H' x.2 y.2) xs ys→Q ys H')∧a3L G.toGd S H Y W)→tPairs trs σ H Q
theorem a8l:b0H n sc .nil [] []:=⟨rfl,rfl,fun _=>rfl,fun X G W k pos c=>⟨[],pps_nil,fun σ H Q ⟨δ,S,Y,K,R,ht,res,_⟩=>by
 rw [a3O] at ht
 exact res [] S [] H ht (a0a.refl _ _) R.ce .nil⟩⟩
theorem a7i {kx vx:RE} {ps:RQ} {x y:Expr} {ks:List (Option Expr)} {vs:List Expr} (hk:a8Z n sc kx x) (hv:a8Z n sc vx y) (hr:b0H n sc ps ks vs):b0H n sc (.cons kx vx ps) (some x :: ks) (y :: vs):=by
 obtain ⟨h1,h2,_,h3⟩:=hr
 refine ⟨by rw [List.all_cons,h1];rfl,by rw [zaw,zaw,h2],(fun z=>nomatch z),fun X G W k pos c=>?_⟩
 obtain ⟨trs,rule,reads⟩:=h3 X G W k pos c
 refine ⟨_,pps_cons (hk.v X G W k c) (hv.v X G W k c) rule,fun σ H Q ⟨δ,S,Y,K,R,ht,res,rw'⟩=>?_⟩
 rw [a3O] at ht
 refine ⟨δ,S,Y,_,R,ht,fun d S1 v H1 kk P c1 r1=>⟨δ,S1,Y,_,R.mono P c1,kk,fun e S2 u H2 kk P2 c2 r2=>reads σ H2 _ ⟨δ,S2,Y,_,(R.mono P c1).mono P2 c2,kk,fun xs S3 ys H3 kk P3 c3 all=>?_,(rw'.mono P).mono P2⟩,rw'.mono P⟩,rw'⟩
 exact res _ S3 _ H3 kk ((P.trans P2).trans P3) c3 (.cons ⟨(r1.mono P2).mono P3,r2.mono P3⟩ all)
theorem a6x {g:Gd} {S:SS} {H:Hp} {xs:List (D × D)} {ys:List (V × V)} (all:Paired (fun (x:D × D) (y:V × V)=>Rep g S H x.1 y.1∧Rep g S H x.2 y.2) xs ys):∀ {kvs:List (Key × D)},a6w xs=some kvs→∃ ws:List (Key × V),ys=ws.map (fun kv=>(kV kv.1,kv.2))∧a0v g S H kvs ws:=by
 induction all with
 | nil =>
  intro kvs h
  cases h
  exact ⟨[],rfl,by simp only [a0v]⟩
 | @cons x y l m r _ ih =>
  intro kvs h
  obtain ⟨k,v⟩:=x
  obtain ⟨a,b⟩:=y
  simp only [a6w] at h
  split at h
  ·rename_i key q e1 e2
   cases h
   obtain ⟨ws,rfl,more⟩:=ih e2
   have e:=a0E e1 r.1
   cases e
   exact ⟨(key,b) :: ws,rfl,by simp only [a0v];exact ⟨b,ws,rfl,r.2,more⟩⟩
  ·cases h
theorem b6x {cell:Bool} {ps:RQ} {ks:List (Option Expr)} {vs:List Expr} (c:XC n X G W k sc) (few:ks.length≤15) (hp:b0H n sc ps ks vs):PE X (.Dict ks vs pos) (LE G.toGd W (den G (.dct cell ps))):=by
 obtain ⟨h1,h2,h3,h4⟩:=hp
 obtain ⟨trs,rule,reads⟩:=h4 X G W k pos c
 by_cases none_:ks=[]
 ·have ep:=h3 none_
  subst none_
  cases vs with
  | cons _ _=>cases h2
  | nil =>
   refine PE.imp pe_dnewK fun σ H Q h=>?_
   obtain ⟨δ,S,Y,K,R,ht,res,rw'⟩:=h
   rw [den,ep] at ht
   intro p free
   have ht:=ht p (R.ce.free free)
   rw [a3O] at ht
   obtain ⟨_,kvs,e,_,q⟩:=ht
   cases e
   cases cell with
   | true=>exact res _ _ _ _ (show K (.obj p) (S.set p (.dic [])) from by have q:K (.obj p) ((S.set p (.dic [])).set p (.dic [])):=q;rwa [zac] at q) (a0a.newC free) (R.ce.newC free ⟨[],upd_same,by simp only [a0v]⟩) (by simp only [Rep])
   | false =>
    have q:K (.dic []) ((S.set p (.dic [])).del p):=q
    rw [zaf (R.ce.free free)] at q
    exact res.dic q R.ce (by simp only [a0v]) free
 ·refine PE.imp (pe_disp rule h1 h2 none_ few) fun σ H Q h=>?_
  obtain ⟨δ,S,Y,K,R,ht,res,rw'⟩:=h
  rw [den] at ht
  intro p free
  have P0:a0a S H (S.set p (.dic [])) (upd H p (.dK [])):=a0a.newC free
  have C0:CellsOk G.toGd (S.set p (.dic [])) (upd H p (.dK [])):=R.ce.newC free ⟨[],upd_same,by simp only [a0v]⟩
  refine reads σ _ _ ⟨δ,_,Y,_,R.mono P0 C0,ht p (R.ce.free free),fun xs S2 ys H2 kk P2 c2 all=>?_,rw'.mono P0⟩
  obtain ⟨at_p,kvs,e,small,q⟩:=kk
  obtain ⟨ws0,here,nothing⟩:=c2 p _ at_p
  simp only [a0v] at nothing
  subst nothing
  obtain ⟨ws,rfl,more⟩:=a6x all e
  have made:a0v G.toGd S2 H2 (a0P [] kvs) (mergeK [] ws):=a2a more (by simp only [a0v])
  have same:kvs.length=ws.length:=Paired.length (a0A more)
  have P3:a0a S2 H2 (S2.set p (.dic (a0P [] kvs))) (upd H2 p (.dK (mergeK [] ws))):=a0a.write at_p
  have C3:CellsOk G.toGd (S2.set p (.dic (a0P [] kvs))) (upd H2 p (.dK (mergeK [] ws))):=c2.write at_p ⟨_,upd_same,made.mono P3⟩
  refine ⟨here,ws,rfl,by rw [← same];exact small,?_⟩
  cases cell with
  | true=>exact res _ _ _ _ q ((P0.trans P2).trans P3) C3 (by simp only [Rep])
  | false =>
   have q:K (.dic (a0P [] kvs)) (S2.del p):=q
   rw [← SS.set_del (x:=.dic (a0P [] kvs))] at q
   exact res _ _ _ _ q (((P0.trans P2).trans P3).trans (a0a.freeze zab)) (C3.freeze zab) (Rep.freezeK C3 zab)
theorem a5k {g:Gd} {S:SS} {H:Hp} {δ:DS} {σ:L2.St} (h:a3K g S H δ σ):∀ vs:List Nat,a3K g S H (a4r δ vs) (wipe σ vs)
 | []=>h
 | v :: vs=>(a5k h vs).setN
theorem a5l {σ:L2.St} {i:Nat} {x:Option V}:∀ {vs:List Nat},i∈vs→wipe (σ.set i x) vs=wipe σ vs
 | v :: vs,h=>by
  unfold wipe
  by_cases e:i=v
  ·subst e
   have key:∀ (ws:List Nat),(wipe (σ.set i x) ws).set i none=(wipe σ ws).set i none:=by
    intro ws
    induction ws with
    | nil=>show (σ.set i x).set i none=σ.set i none;rw [List.set_set]
    | cons w ws ih =>
     unfold wipe
     by_cases ew:w=i
     ·subst ew;rw [List.set_set,List.set_set];exact ih
     ·rw [List.set_comm _ _ (Ne.symm (Ne.symm ew)),ih,List.set_comm _ _ ew]
   exact key vs
  ·rcases zat.mp h with h | h
   ·exact absurd h e
   ·rw [a5l h]
theorem a7s {σ:L2.St}:∀ vs:List Nat,wipe (wipe σ vs) vs=wipe σ vs:=by
 intro vs
 apply List.ext_getElem?
 intro i
 by_cases h:i∈vs
 ·have key:∀ (ws:List Nat) (τ:L2.St),i∈ws→(wipe τ ws)[i]?=if i < τ.length then some none else none:=by
   intro ws
   induction ws with
   | nil=>intro τ h;cases h
   | cons w ws ih =>
    intro τ h
    unfold wipe
    by_cases e:w=i
    ·subst e
     rw [List.getElem?_set]
     simp [wipe_length]
    ·rw [List.getElem?_set_ne e]
     exact ih τ (by rcases zat.mp h with h | h;exact absurd h.symm e;exact h)
  rw [key vs _ h,key vs _ h,wipe_length]
 ·rw [wipe_out h]
def gTg (K:zbd) (tg:List Nat) (one:Bool):TG:=if one=true then (match tg with
 | [i]=>gName i
 | _=>fun _ _ _ _=>False) else gTup K tg.length (a3l tg)
theorem a6Z (c:XC n X G W k sc) {tg:List Nat} {one:Bool} {x:Expr} (hc:one=false→X.calm=true) (h:a0D n sc tg one x=true):PG X x (gTg X.K tg one):=by
 cases one with
 | true =>
  unfold a0D at h
  rw [if_pos rfl] at h
  split at h
  ·rw [zak] at h
   exact pg_name c.nd (c.at h.1) (c.loc h.2) (c.sto h.2)
  ·cases h
 | false =>
  unfold a0D at h
  rw [if_neg zaz] at h
  split at h
  ·obtain ⟨h1,h2,h3⟩:=a2e c _ _ h
   exact pg_tup (hc rfl) h1 h2 h3
  ·cases h
theorem a4Q {g:Gd} {S:SS} {H:Hp} {I:L2.St→Prop}:∀ (is:List Nat) (ds:List D) (vs:List V) (δ:DS) (σ:L2.St) (Q:L2.St→Hp→Prop),(∀ σ i v,i∈is→I σ→I (σ.set i (some v)))→Rel g S H δ σ→I σ→a0c g S H ds vs→ds.length=is.length →
  (∀ σ',Rel g S H (a2k δ is ds) σ'→I σ'→Q σ' H)→a3l is vs σ H Q
 | [],ds,vs,δ,σ,Q,hI,R,i0,r,l,h=>by
  cases ds with
  | nil=>simp only [a0c] at r;subst r;exact ⟨rfl,h σ R i0⟩
  | cons _ _=>cases l
 | i :: is,ds,vs,δ,σ,Q,hI,R,i0,r,l,h=>by
  cases ds with
  | nil=>cases l
  | cons d ds =>
   simp only [a0c] at r
   obtain ⟨v,q,rfl,a,b⟩:=r
   exact ⟨v,q,rfl,a4Q is ds q _ _ Q (fun σ j w hj=>hI σ j w (zao _ hj)) ⟨R.sl.set a,R.ce⟩ (hI _ _ _ zal i0) b (by simpa using l) h⟩
theorem a4G {g:Gd} {S:SS} {H:Hp} {I:L2.St→Prop} {tg:List Nat} {one:Bool} {d:D} {v:V} {δ:DS} {σ:L2.St} {K:DS→SS→Prop} {Q:L2.St→Hp→Prop} (hI:∀ σ i v,i∈tg→I σ→I (σ.set i (some v))) (hd:a1d tg one d δ S K) (r:Rep g S H d v) (R:Rel g S H δ σ) (i0:I σ)
  (h:∀ δ' σ',K δ' S→Rel g S H δ' σ'→I σ'→Q σ' H):gTg g.K tg one v σ H Q:=by
 cases one with
 | true =>
  unfold a1d at hd
  rw [if_pos rfl] at hd
  unfold gTg
  rw [if_pos rfl]
  split at hd
  ·exact h _ _ hd ⟨R.sl.set r,R.ce⟩ (hI _ _ _ zal i0)
  ·exact hd.elim
 | false =>
  unfold a1d at hd
  rw [if_neg zaz] at hd
  unfold gTg
  rw [if_neg zaz]
  obtain ⟨ds,e,l,hk⟩:=hd
  obtain ⟨p,vs,rfl,hl,hr⟩:=a0s r e
  exact ⟨p,vs,rfl,hl,by rw [← hr.length];exact l,a4Q tg ds vs δ σ Q hI R i0 hr l fun σ' R' i'=>h _ _ hk R' i'⟩
theorem b1S {cell:Bool} {elt:RE} {cnd:RO} {tg:List Nat} {one:Bool} {it:RI} {own:List (Str × Nat)} (hK:G.K=X.K) (htg:(tg.all fun i=>decide (i∈own.map (·.2)))=true) {σ:L2.St} {H:Hp} {Q:VK} (h:LE G.toGd W (den G (.lc cell elt tg one it cnd own)) σ H Q) :
  tLc (LI G.toGd W (a0y G it)) (gTg X.K tg one) (LT G.toGd noW (a3N G cnd)) (LE G.toGd noW (den G elt)) (own.map (·.2)) σ H Q:=by
 rw [den] at h
 obtain ⟨δ,S,Y,K,R,⟨_,ht⟩,res,rw'⟩:=h
 refine ⟨δ,S,Y,_,R,ht,fun ds ok S1 H1 J hk P1 c1 io L hL=>?_,rw'⟩
 obtain ⟨Iv,i0,hok,step,last⟩:=hk L (c1.free hL)
 have PL:a0a S1 H1 (S1.set L (.lst [])) (upd H1 L (.lst [])):=a0a.newC hL
 have cL:CellsOk G.toGd (S1.set L (.lst [])) (upd H1 L (.lst [])):=c1.newC hL ⟨[],upd_same,by simp only [a0c]⟩
 refine ⟨fun i m H'=>m=ds.length - i∧i≤ds.length∧∃ S',Iv i S'∧a0a S1 H1 S' H'∧CellsOk G.toGd S' H',⟨_,rfl,Nat.zero_le _,_,i0,PL,cL⟩,?_⟩
 rintro i m H' ⟨rfl,hi,S',iv,P',c'⟩
 have ok':=hok i S' iv hi
 by_cases hlt:i < ds.length
 ·refine .inr ⟨io.go i S' H' hlt P' c' ok',fun H''=>i + 1≤ds.length∧∃ S'',Iv (i + 1) S''∧a0a S1 H1 S'' H''∧CellsOk G.toGd S'' H'',fun H'' q=>⟨_,by omega,rfl,q⟩,fun x H2 y=>?_⟩
  obtain ⟨P2,c2,r2⟩:=io.yl i S' H' x H2 ds[i] (by simp) P' c' ok' y
  have P12:=P'.trans P2
  have R2:Rel G.toGd S' H2 (a4r δ (own.map (·.2))) (wipe σ (own.map (·.2))):=⟨a5k (R.sl.mono (P1.trans P12)) _,c2⟩
  have hstep:=step i ds[i] S' (by simp) iv
  rw [← hK]
  refine a4G (I:=fun τ=>wipe τ (own.map (·.2))=wipe σ (own.map (·.2))) (fun τ j w hj e=>?_) hstep r2 R2 (a7s _) fun δ3 σ3 hq R3 e3=>⟨e3,?_⟩
  ·rw [a5l (by simpa using (List.all_eq_true.mp htg) j hj)]
   exact e
  ·refine ⟨δ3,S',noX,_,R3,hq,fun b S4 H4 hb4 P4 c4=>?_,fun _ _ _ _ _ _ _ z=>z.elim⟩
   cases b with
   | true =>
    refine ⟨δ3,S4,noX,_,R3.mono P4 c4,hb4,fun d5 S5 v5 H5 h5 P5 c5 r5=>?_,fun _ _ _ _ _ _ _ z=>z.elim⟩
    obtain ⟨acc,ea,hz,iv5⟩:=h5
    obtain ⟨vs,hL5,rvs⟩:=c5 L _ ea
    have P6:a0a S5 H5 (S5.set L (.lst (acc ++ [d5]))) (upd H5 L (.lst (vs ++ [v5]))):=a0a.write ea
    refine ⟨vs,hL5,by rw [← rvs.length];exact hz,hlt,_,iv5,((P12.trans P4).trans P5).trans P6,c5.write ea ⟨_,upd_same,(rvs.append (show a0c G.toGd S5 H5 [d5] [v5] from by simp only [a0c];exact ⟨v5,[],rfl,r5,rfl⟩)).mono P6⟩⟩
   | false=>exact ⟨hlt,S4,hb4,P12.trans P4,c4⟩
 ·have e:i=ds.length:=by omega
  subst e
  refine .inl ⟨io.st _ S' H' (Nat.le_refl _) P' c' ok',?_⟩
  obtain ⟨acc,ea,hk⟩:=last S' iv
  cases cell with
  | true=>exact res _ S' _ H' hk (P1.trans P') c' (by simp only [Rep])
  | false=>exact res _ (S'.del L) _ H' hk ((P1.trans P').trans (a0a.freeze ea)) (c'.freeze ea) (Rep.freeze c' ea)
theorem a7n {n:SN} {scope:Scope} {tg:List Nat} {one:Bool} {xt:Expr} {it:RI} (h:a0D n scope tg one xt=true) (h2:(!it.two || !one)=true) (two:it.two=true):∃ elts kk tpos,xt=.Tuple elts kk tpos:=by
 rw [two] at h2
 cases one with
 | true=>cases h2
 | false =>
  unfold a0D at h
  rw [if_neg zaz] at h
  split at h
  ·exact ⟨_,_,_,rfl⟩
  ·cases h
theorem b9g {cell:Bool} {elt:RE} {cnd:RO} {tg:List Nat} {one:Bool} {it:RI} {own:List (Str × Nat)} {xe xt xi:Expr} {ifs:List Expr} {scope:Scope} (c:XC n X G W k sc) (hb:blkC n.N sc scope own=true) (hsd:a1f xi=true) (hI:b0G n sc it xi)
  (htg:(tg.all fun i=>decide (i∈own.map (·.2)))=true) (hct:a0D n scope tg one xt=true) (h2:(!it.two || !one)=true) (hcnd:∀ X G W k,XC n X G W k scope→PTs X ifs (LT G.toGd W (a3N G cnd))) (he:∀ X G W k,XC n X G W k scope→PE X xe (LE G.toGd W (den G elt))) :
  PE X (.ListComp xe [⟨xt,xi,ifs,0⟩] scope pos) (LE G.toGd W (den G (.lc cell elt tg one it cnd own))):=by
 by_cases hm:G.m0=none
 ·have calm:X.calm=true:=by have:=c.md;rw [hm] at this;exact this.2
  have bo:BlkOk X.N X.env.scope scope own:=by
   have h:=blkOk_by hb
   exact ⟨h.kind,h.uniq,fun p hp=>c.N ▸ h.ix p hp,fun y hy e=>c.sc.fr _ (h.free y hy e),fun y hy e=>c.N ▸ h.own y hy e⟩
  refine PE.imp (pe_lc (wi:=LI G.toGd W (a0y G it)) (g:=gTg X.K tg one) (tt:=LT G.toGd noW (a3N G cnd)) (te:=LE G.toGd noW (den G elt)) calm c.nd (hI X G W k xt c hm (a7n hct h2)) bo (fun s H C cl fp=>a6Z (c.blk hm) (fun _=>calm) hct) (fun s H C cl fp=>hcnd _ G noW k (c.blk hm)) (fun s H C cl fp=>he _ G noW k (c.blk hm)) (fun x=>a1N hsd x)) fun σ H Q h=>b1S c.ok.K htg h
 ·refine a0w fun δ S Y K h=>?_
  rw [den] at h
  exact hm h.1
end
end Sv
namespace Sv
open PySem PySem.Spec PyProof.Rows L2
open L2H (RoomH)
variable {n:SN}
theorem b2F {sc:Scope} {x:Expr} {e:RE} (hv:∀ G δ S Y K,¬ den G e δ S Y K) (ht:∀ G δ S Y K,¬ a0j G e δ S Y K):a8Z n sc e x :=
 ⟨fun X G W k _=>a0w (hv G),fun X G W k _=>a4X (ht G)⟩
theorem a0q {sc:Scope} {x:Expr} {e:RE} (hp:plainT x=true) (hv:∀ X G W k,XC n X G W k sc→PE X x (LE G.toGd W (den G e))) (ht:∀ G δ S Y K,a0j G e δ S Y K→den G e δ S Y fun d S'=>a0R d S' fun b=>K b S'):a8Z n sc e x :=
 ⟨hv,fun X G W k c=>PT.imp (b5M c (hv X G W k c) hp) fun σ H Q h=>h.re fun δ S Y K q=>ht G δ S Y K q⟩
theorem a0e {sc:Scope} {x:Expr} {e:RE} (hv:∀ X G W k,XC n X G W k sc→PE X x (LE G.toGd W (den G e))) (ht:∀ G δ S Y K,¬ a0j G e δ S Y K):a8Z n sc e x :=
 ⟨hv,fun X G W k _=>a4X (ht G)⟩
section
variable {sc:Scope} {e f:RE} {es r:RL} {x y:Expr} {xs:List Expr}
theorem a8k:a5I n sc .nil [] where
 a:=fun X G W k c=>PA.imp pa_nil fun σ H Q h=>by
  obtain ⟨δ,S,Y,K,R,ht,res,_⟩:=h
  rw [a0l] at ht
  exact res [] S [] H ht (a0a.refl _ _) R.ce (by simp only [a0c])
 and:=fun X G W k pos c=>a0w fun δ S Y K h=>by rw [a0z] at h;exact h
 or:=fun X G W k pos c=>a0w fun δ S Y K h=>by rw [a01] at h;exact h
 tand:=fun X G W k pos c=>a4Z fun δ S Y K h=>by rw [a0u] at h;exact h
 tor:=fun X G W k pos c=>a4Z fun δ S Y K h=>by rw [a0F] at h;exact h
 st:=rfl
 nl:=fun _=>rfl
 ne:=rfl
theorem a7h (hs:a0m x=true) (he:a8Z n sc e x) (hL:a5I n sc es xs):a5I n sc (.cons e es) (x :: xs) where
 a:=fun X G W k c=>PA.imp (pa_cons (he.v X G W k c) (hL.a X G W k c) (a0b hs)) fun σ H Q h=>by
  have h':LE G.toGd W (den G e) σ H fun v H1=>LA G.toGd W (a0l G es) σ H1 fun vs H2=>Q (v :: vs) H2:=by
   obtain ⟨δ,S,Y,K,R,ht,res,rw'⟩:=h
   rw [a0l] at ht
   refine ⟨δ,S,Y,_,R,ht,fun d S1 v H1 k P c r=>⟨δ,S1,Y,_,R.mono P c,k,fun ds S2 vs H2 k2 P2 c2 r2=>res (d :: ds) S2 (v :: vs) H2 k2 (P.trans P2) c2 ?_,rw'.mono P⟩,rw'⟩
   simp only [a0c]
   exact ⟨v,vs,rfl,r.mono P2,r2⟩
  exact h'
 and:=fun X G W k pos c=>by
  cases xs with
  | nil =>
   have he':=hL.nl rfl
   subst he'
   exact PE.imp (pe_one (he.v X G W k c)) fun σ H Q h=>h.re fun δ S Y K q=>by rw [a0z] at q;exact q
  | cons z zs =>
   cases es with
   | nil=>exact absurd (hL.ne) (by simp [RL.len])
   | cons f r =>
    refine PE.imp (pe_andT (he.v X G W k c) (hL.and X G W k pos c)) fun σ H Q h=>?_
    have h:=h.re (t':=fun δ S Y K=>den G e δ S Y fun x S1=>a0R x S1 fun k=>if k=true then a0z G (.cons f r) δ S1 Y K else K x S1) fun δ S Y K q=>by rw [a0z] at q;exact q
    refine (a0p (t1:=den G e) (t2:=fun x δ S1 Y K=>a0R x S1 fun k=>if k=true then a0z G (.cons f r) δ S1 Y K else K x S1) h).then fun v H1 q=>?_
    obtain ⟨x,δ,S,Y,K,R,r1,q,res,rw'⟩:=q
    obtain ⟨b,tv,q⟩:=a4n c.ok.K R.ce r1 q
    refine ⟨b,tv,?_⟩
    cases b with
    | true=>exact ⟨δ,S,Y,K,R,q,res,rw'⟩
    | false=>exact res.val q R.ce r1
 or:=fun X G W k pos c=>by
  cases xs with
  | nil =>
   have he':=hL.nl rfl
   subst he'
   exact PE.imp (pe_one (he.v X G W k c)) fun σ H Q h=>h.re fun δ S Y K q=>by rw [a01] at q;exact q
  | cons z zs =>
   cases es with
   | nil=>exact absurd (hL.ne) (by simp [RL.len])
   | cons f r =>
    refine PE.imp (pe_orT (he.v X G W k c) (hL.or X G W k pos c)) fun σ H Q h=>?_
    have h:=h.re (t':=fun δ S Y K=>den G e δ S Y fun x S1=>a0R x S1 fun k=>if k=true then K x S1 else a01 G (.cons f r) δ S1 Y K) fun δ S Y K q=>by rw [a01] at q;exact q
    refine (a0p (t1:=den G e) (t2:=fun x δ S1 Y K=>a0R x S1 fun k=>if k=true then K x S1 else a01 G (.cons f r) δ S1 Y K) h).then fun v H1 q=>?_
    obtain ⟨x,δ,S,Y,K,R,r1,q,res,rw'⟩:=q
    obtain ⟨b,tv,q⟩:=a4n c.ok.K R.ce r1 q
    refine ⟨b,tv,?_⟩
    cases b with
    | true=>exact res.val q R.ce r1
    | false=>exact ⟨δ,S,Y,K,R,q,res,rw'⟩
 tand:=fun X G W k pos c=>by
  cases xs with
  | nil =>
   have he':=hL.nl rfl
   subst he'
   exact PW.imp (pw_and1 (he.t X G W k c)) fun σ H Q h=>h.re fun δ S Y K q=>by rw [a0u] at q;exact q
  | cons z zs =>
   cases es with
   | nil=>exact absurd (hL.ne) (by simp [RL.len])
   | cons f r =>
    refine PW.imp (pw_and (he.t X G W k c) (hL.tand X G W k pos c)) fun σ H Q h=>?_
    obtain ⟨δ,S,Y,K,R,ht,res,rw'⟩:=h
    rw [a0u] at ht
    refine ⟨δ,S,Y,_,R,ht,fun b S1 H1 k P c1=>?_,rw'⟩
    cases b with
    | true=>exact ⟨δ,S1,Y,K,R.mono P c1,k,fun b S2 H2 k2 P2=>res b S2 H2 k2 (P.trans P2),rw'.mono P⟩
    | false=>exact res false S1 H1 k P c1
 tor:=fun X G W k pos c=>by
  cases xs with
  | nil =>
   have he':=hL.nl rfl
   subst he'
   exact PW.imp (pw_or1 (he.t X G W k c)) fun σ H Q h=>h.re fun δ S Y K q=>by rw [a0F] at q;exact q
  | cons z zs =>
   cases es with
   | nil=>exact absurd (hL.ne) (by simp [RL.len])
   | cons f r =>
    refine PW.imp (pw_or (he.t X G W k c) (hL.tor X G W k pos c)) fun σ H Q h=>?_
    obtain ⟨δ,S,Y,K,R,ht,res,rw'⟩:=h
    rw [a0F] at ht
    refine ⟨δ,S,Y,_,R,ht,fun b S1 H1 k P c1=>?_,rw'⟩
    cases b with
    | true=>exact res true S1 H1 k P c1
    | false=>exact ⟨δ,S1,Y,K,R.mono P c1,k,fun b S2 H2 k2 P2=>res b S2 H2 k2 (P.trans P2),rw'.mono P⟩
 st:=by rw [List.all_cons,hs,hL.st];rfl
 nl:=fun h=>nomatch h
 ne:=by simp [RL.len,hL.ne]
end
theorem a7I {H:Hp} {g:Gd} {W:WX} {G:Gm} {c:RC} {v:V} {σ:L2.St} {Q:VK} (hv:∀ S H,Rep g S H c.d v) (h:LE g W (den G (.con c)) σ H Q):Q v H:=by
 obtain ⟨δ,S,Y,K,R,ht,res,_⟩:=h
 rw [den] at ht
 exact res.val ht R.ce (hv _ _)
mutual
theorem sE:∀ (e:RE) (sc:Scope) (x:Expr),chk n sc e x=true→a8Z n sc e x
 | .var i,sc,x,h=>by
  unfold chk at h
  split at h
  ·rename_i y p
   rw [zak] at h
   refine a0q rfl (fun X G W k c=>PE.imp (pe_var (c.at h.1) (c.vis h.2) (a0r h.1).2.1 (a0r h.1).2.2) fun σ H Q q=>?_) (fun G δ S Y K q=>by rw [a0j] at q;rw [den];exact q)
   obtain ⟨δ,S,Y,K,R,ht,res,_⟩:=q
   rw [den] at ht
   split at ht
   ·rename_i d e
    obtain ⟨v,e1,r⟩:=R.sl.at_ i d e
    exact ⟨v,e1,res.val ht R.ce r⟩
   ·exact ht.elim
  ·cases h
 | .con c,sc,x,h=>by
  unfold chk at h
  split at h
  ·exact a0q rfl (fun X G W k _=>PE.imp pe_non fun σ H Q q=>a7I (v:=.non) (fun _ _=>by simp only [RC.d,Rep]) q) (fun G δ S Y K q=>by rw [a0j] at q;rw [den];exact q)
  ·have e:=eq_of_beq h
   subst e
   exact a0q rfl (fun X G W k _=>PE.imp pe_bl fun σ H Q q=>a7I (v:=.bl _) (fun _ _=>by simp only [RC.d,Rep]) q) (fun G δ S Y K q=>by rw [a0j] at q;rw [den];exact q)
  ·have e:=of_decide_eq_true h
   subst e
   exact a0q rfl (fun X G W k _=>PE.imp pe_int fun σ H Q q=>a7I (v:=.int _) (fun _ _=>by simp only [RC.d,Rep]) q) (fun G δ S Y K q=>by rw [a0j] at q;rw [den];exact q)
  ·have e:=of_decide_eq_true h
   subst e
   exact a0q rfl (fun X G W k _=>PE.imp pe_str fun σ H Q q=>a7I (v:=.str _) (fun _ _=>by simp only [RC.d,Rep]) q) (fun G δ S Y K q=>by rw [a0j] at q;rw [den];exact q)
  ·cases h
 | .glb j,sc,x,h=>by
  unfold chk at h
  split at h
  ·rename_i y p
   rw [zak] at h
   refine a0q rfl (fun X G W k c=>?_) (fun G δ S Y K q=>by rw [a0j] at q;rw [den];exact q)
   obtain ⟨v,u,h1,h2,h3⟩:=c.ok.gv j _ (a0r h.1).1
   refine PE.imp (pe_glob (c.gl h.2) h1 h2 (a0r h.1).2.1) fun σ H Q q=>?_
   obtain ⟨δ,S,Y,K,R,ht,res,_⟩:=q
   rw [den] at ht
   exact res.val ht R.ce (h3 _ _)
  ·cases h
 | .bin op a b,sc,x,h=>by
  unfold chk at h
  split at h
  ·simp only [zak,zah] at h
   obtain ⟨e,h1,h2⟩:=h
   subst e
   exact a0e (fun X G W k c=>b5V c ((sE a sc _ h1).v X G W k c) ((sE b sc _ h2).v X G W k c)) (fun G δ S Y K q=>by unfold a0j at q;exact q)
  ·cases h
 | .neg a,sc,x,h=>by
  unfold chk at h
  split at h
  ·exact a0e (fun X G W k c=>b6O ((sE a sc _ h).v X G W k c)) (fun G δ S Y K q=>by unfold a0j at q;exact q)
  ·cases h
 | .nt a,sc,x,h=>by
  unfold chk at h
  split at h
  ·exact ⟨fun X G W k c=>b9i c ((sE a sc _ h).v X G W k c),fun X G W k c=>b6R ((sE a sc _ h).t X G W k c)⟩
  ·cases h
 | .and es,sc,x,h=>by
  unfold chk at h
  split at h
  ·have q:=sL es sc _ h
   exact ⟨fun X G W k c=>PE.imp (q.and X G W k _ c) fun σ H Q z=>z.re fun δ S Y K y=>by rw [den] at y;exact y,fun X G W k c=>PT.imp (q.tand X G W k _ c).pt fun σ H Q z=>z.re fun δ S Y K y=>by rw [a0j] at y;exact y⟩
  ·cases h
 | .or es,sc,x,h=>by
  unfold chk at h
  split at h
  ·have q:=sL es sc _ h
   exact ⟨fun X G W k c=>PE.imp (q.or X G W k _ c) fun σ H Q z=>z.re fun δ S Y K y=>by rw [den] at y;exact y,fun X G W k c=>PT.imp (q.tor X G W k _ c).pt fun σ H Q z=>z.re fun δ S Y K y=>by rw [a0j] at y;exact y⟩
  ·cases h
 | .ife t a b,sc,x,h=>by
  unfold chk at h
  split at h
  ·simp only [zak] at h
   obtain ⟨h0,h1,h2⟩:=h
   exact a0e (fun X G W k c=>b6z ((sE t sc _ h0).t X G W k c) ((sE a sc _ h1).v X G W k c) ((sE b sc _ h2).v X G W k c)) (fun G δ S Y K q=>by unfold a0j at q;exact q)
  ·cases h
 | .cmp op a b,sc,x,h=>by
  unfold chk at h
  split at h
  ·simp only [zak,zah] at h
   obtain ⟨⟨e,h0⟩,h1,h2⟩:=h
   subst e
   exact ⟨fun X G W k c=>b58 c h0 ((sE a sc _ h1).v X G W k c) ((sE b sc _ h2).v X G W k c),fun X G W k c=>b2w c h0 ((sE a sc _ h1).v X G W k c) ((sE b sc _ h2).v X G W k c)⟩
  ·cases h
 | .chn o1 o2 a b t,sc,x,h=>by
  unfold chk at h
  split at h
  ·simp only [zak,zah] at h
   obtain ⟨⟨⟨e,e'⟩,h0⟩,h1,h2,h3⟩:=h
   subst e e'
   exact ⟨fun X G W k c=>b57 c h0 ((sE a sc _ h1).v X G W k c) ((sE b sc _ h2).v X G W k c) ((sE t sc _ h3).v X G W k c),fun X G W k c=>b2v c h0 ((sE a sc _ h1).v X G W k c) ((sE b sc _ h2).v X G W k c) ((sE t sc _ h3).v X G W k c)⟩
  ·cases h
 | .lst cell es,sc,x,h=>by
  unfold chk at h
  split at h
  ·exact a0e (fun X G W k c=>b6K ((sL es sc _ h).a X G W k c)) (fun G δ S Y K q=>by unfold a0j at q;exact q)
  ·cases h
 | .tup es,sc,x,h=>by
  unfold chk at h
  split at h
  ·exact a0e (fun X G W k c=>b7d ((sL es sc _ h).a X G W k c)) (fun G δ S Y K q=>by unfold a0j at q;exact q)
  ·cases h
 | .ix a b,sc,x,h=>by
  unfold chk at h
  split at h
  ·simp only [zak] at h
   obtain ⟨h0,h1,h2⟩:=h
   exact a0q rfl (fun X G W k c=>b9f c h0 ((sE a sc _ h1).v X G W k c) ((sE b sc _ h2).v X G W k c)) (fun G δ S Y K q=>by rw [a0j] at q;rw [den];exact q)
  ·cases h
 | .slc a lo hi,sc,x,h=>by
  unfold chk at h
  split at h
  ·simp only [zak] at h
   obtain ⟨h0,h1,h2⟩:=h
   exact a0e (fun X G W k c=>b60 c ((sE a sc _ h0).v X G W k c) (sO lo sc _ h1 X G W k c) (sO hi sc _ h2 X G W k c)) (fun G δ S Y K q=>by unfold a0j at q;exact q)
  ·cases h
 | .sl a lo hi,sc,x,h=>by
  unfold chk at h
  split at h
  ·simp only [zak] at h
   obtain ⟨h0,h1,h2⟩:=h
   exact a0e (fun X G W k c=>b9k c ((sE a sc _ h0).v X G W k c) (sO lo sc _ h1 X G W k c) (sO hi sc _ h2 X G W k c)) (fun G δ S Y K q=>by unfold a0j at q;exact q)
  ·cases h
 | .fld a f,sc,x,h=>by
  unfold chk at h
  split at h
  ·simp only [zak,zah] at h
   obtain ⟨⟨e,h0⟩,h1⟩:=h
   subst e
   exact a0q rfl (fun X G W k c=>PE.imp (a90 c.ok.K c.md.p ((sE a sc _ h1).v X G W k c) (a1B h0)) fun σ H Q z=>z.re fun δ S Y K y=>by rw [den] at y;exact y) (fun G δ S Y K q=>by rw [a0j] at q;rw [den];exact q)
  ·cases h
 | .call j es,sc,x,h=>by
  unfold chk at h
  split at h
  ·simp only [zak] at h
   obtain ⟨⟨h0,h1⟩,h2⟩:=h
   exact a0q rfl (fun X G W k c=>s_call c h0 h1 (sL es sc _ h2)) (fun G δ S Y K q=>by rw [a0j] at q;rw [den];exact q)
  ·cases h
 | .bi b es,sc,x,h=>by
  unfold chk at h
  split at h
  ·simp only [zak,zah] at h
   obtain ⟨⟨⟨e,h0⟩,h1⟩,h2⟩:=h
   subst e
   exact a0q rfl (fun X G W k c=>b84 c h0 (by simpa using h1) (sL es sc _ h2)) (fun G δ S Y K q=>by rw [a0j] at q;rw [den];exact q)
  ·cases h
 | .isi a cn,sc,x,h=>by
  unfold chk at h
  split at h
  ·rw [zak] at h
   obtain ⟨h,hc⟩:=h
   simp only [zak,zah] at h
   obtain ⟨⟨⟨⟨e,h0⟩,h1⟩,h2⟩,h3⟩:=h
   exact a0q rfl (fun X G W k c=>b6B c e h0 h1 h2 ((sE a sc _ h3).v X G W k c) hc) (fun G δ S Y K q=>by rw [a0j] at q;rw [den];exact q)
  ·cases h
 | .mkx j,sc,x,h=>by
  unfold chk at h
  split at h
  ·simp only [zak] at h
   exact a0e (fun X G W k c=>b6M c h.1 h.2) (fun G δ S Y K q=>by rw [a0j] at q;exact q)
  ·cases h
 | .rpx a,sc,x,h=>by
  unfold chk at h
  split at h
  ·simp only [zak,zah] at h
   obtain ⟨⟨⟨e,h0⟩,h1⟩,h2⟩:=h
   exact a0e (fun X G W k c=>b6Y c e h0 h1 ((sE a sc _ h2).v X G W k c)) (fun G δ S Y K q=>by rw [a0j] at q;exact q)
  ·cases h
 | .ist a js,sc,x,h=>by
  unfold chk at h
  split at h
  ·simp only [zak,zah] at h
   obtain ⟨⟨⟨⟨⟨e,h0⟩,h1⟩,h2⟩,hc⟩,few⟩:=h
   exact a0q rfl (fun X G W k c=>b6C c e h0 h1 ((sE a sc _ h2).v X G W k c) hc few) (fun G δ S Y K q=>by rw [a0j] at q;rw [den];exact q)
  ·cases h
 | .lc cell elt tg one it cnd own,sc,x,h=>by
  unfold chk at h
  split at h
  ·simp only [zak] at h
   obtain ⟨⟨⟨⟨⟨⟨⟨h0,h1⟩,h2⟩,h3⟩,h4⟩,h5⟩,h6⟩,h7⟩:=h
   exact a0e (fun X G W k c=>b9g c h0 h1 (sI it sc _ h2) h3 h4 h7 (fun X G W k c=>sC cnd _ _ h5 X G W k c) (fun X G W k c=>(sE elt _ _ h6).v X G W k c)) (fun G δ S Y K q=>by unfold a0j at q;exact q)
  ·cases h
 | .mth b a es,sc,x,h=>by
  unfold chk at h
  split at h
  ·simp only [zak,zah] at h
   obtain ⟨⟨⟨⟨⟨e,h0⟩,h1⟩,h2⟩,h3⟩,h4⟩:=h
   subst e
   exact a0q rfl (fun X G W k c=>b6N c h0 h1 h2 ((sE a sc _ h3).v X G W k c) (sL es sc _ h4)) (fun G δ S Y K q=>by rw [a0j] at q;rw [den];exact q)
  ·cases h
 | .om j m a es,sc,x,h=>by
  unfold chk at h
  split at h
  ·simp only [zak,zah] at h
   obtain ⟨⟨⟨⟨⟨⟨e,h0⟩,h1⟩,h2⟩,h5⟩,h3⟩,h4⟩:=h
   subst e
   exact a0q rfl (fun X G W k c=>b9j c h0 h1 h2 h5 ((sE a sc _ h3).v X G W k c) (sL es sc _ h4)) (fun G δ S Y K q=>by rw [a0j] at q;rw [den];exact q)
  ·cases h
 | .mk j es,sc,x,h=>by
  unfold chk at h
  split at h
  ·simp only [zak,zah] at h
   obtain ⟨⟨⟨h0,h1⟩,h2⟩,h3⟩:=h
   exact a0e (fun X G W k c=>b9h c h0 h1 h2 (sL es sc _ h3)) (fun G δ S Y K q=>by unfold a0j at q;exact q)
  ·cases h
 | .lck a,sc,x,h=>by
  unfold chk at h
  exact a0e (fun X G W k c=>b6H ((sE a sc _ h).v X G W k c)) (fun G δ S Y K q=>by unfold a0j at q;exact q)
 | .fz a,sc,x,h=>by
  unfold chk at h
  exact a0e (fun X G W k c=>b89 ((sE a sc _ h).v X G W k c)) (fun G δ S Y K q=>by unfold a0j at q;exact q)
 | .fzt i a,sc,x,h=>by
  unfold chk at h
  exact a0e (fun X G W k c=>b6y ((sE a sc _ h).v X G W k c)) (fun G δ S Y K q=>by unfold a0j at q;exact q)
 | .ofs srt a,sc,x,h=>by
  unfold chk at h
  split at h
  ·simp only [zak,zah] at h
   obtain ⟨⟨⟨⟨⟨e,h0⟩,e2⟩,h1⟩,h2⟩,h3⟩:=h
   exact a0e (fun X G W k c=>b6V c e h0 e2 h1 h2 ((sE a sc _ h3).v X G W k c)) (fun G δ S Y K q=>by unfold a0j at q;exact q)
  ·cases h
 | .ofi a,sc,x,h=>by
  unfold chk at h
  split at h
  ·simp only [zak,zah] at h
   obtain ⟨⟨⟨⟨⟨e,h0⟩,e2⟩,h1⟩,h2⟩,h3⟩:=h
   exact a0e (fun X G W k c=>b6U c e h0 e2 h1 h2 ((sE a sc _ h3).v X G W k c)) (fun G δ S Y K q=>by unfold a0j at q;exact q)
  ·cases h
 | .vls cell a,sc,x,h=>by
  unfold chk at h
  split at h
  ·simp only [zak,zah] at h
   obtain ⟨⟨⟨⟨⟨e,h0⟩,e2⟩,h1⟩,h2⟩,h3⟩:=h
   exact a0e (fun X G W k c=>b7e c e h0 e2 h1 h2 ((sE a sc _ h3).v X G W k c)) (fun G δ S Y K q=>by unfold a0j at q;exact q)
  ·cases h
 | .rev cell a,sc,x,h=>by
  unfold chk at h
  split at h
  ·exact a0e (fun X G W k c=>b6X c ((sE a sc _ h).v X G W k c)) (fun G δ S Y K q=>by unfold a0j at q;exact q)
  ·cases h
 | .sl2 j a,sc,x,h=>by
  unfold chk at h
  split at h
  ·rw [zak] at h
   exact a0e (fun X G W k c=>b6Z c h.1 ((sE a sc _ h.2).v X G W k c)) (fun G δ S Y K q=>by unfold a0j at q;exact q)
  ·cases h
 | .kin neg j a,sc,x,h=>by
  unfold chk at h
  split at h
  ·simp only [zak,zah] at h
   obtain ⟨⟨⟨e,h0⟩,h1⟩,h2⟩:=h
   rw [e]
   exact ⟨fun X G W k c=>b6D c h0 h1 ((sE a sc _ h2).v X G W k c),fun X G W k c=>b2x c h0 h1 ((sE a sc _ h2).v X G W k c)⟩
  ·cases h
 | .adc a b,sc,x,h=>by
  unfold chk at h
  split at h
  ·simp only [zak,zah] at h
   obtain ⟨e,h1,h2⟩:=h
   subst e
   exact a0e (fun X G W k c=>b5T c ((sE a sc _ h1).v X G W k c) ((sE b sc _ h2).v X G W k c)) (fun G δ S Y K q=>by unfold a0j at q;exact q)
  ·cases h
 | .kix j a,sc,x,h=>by
  unfold chk at h
  split at h
  ·simp only [zak] at h
   exact a0e (fun X G W k c=>b6F c h.1.1.1 h.1.1.2 h.1.2 ((sE a sc _ h.2).v X G W k c)) (fun G δ S Y K q=>by unfold a0j at q;exact q)
  ·cases h
 | .dct cell ps,sc,x,h=>by
  unfold chk at h
  split at h
  ·simp only [zak,zah] at h
   exact a0e (fun X G W k c=>b6x c h.1 (sP ps sc _ _ h.2)) (fun G δ S Y K q=>by unfold a0j at q;exact q)
  ·cases h
 | .nev,sc,x,h=>b2F (fun G δ S Y K q=>by rw [den] at q;exact q) (fun G δ S Y K q=>by unfold a0j at q;exact q)
theorem sP:∀ (ps:RQ) (sc:Scope) (ks:List (Option Expr)) (vs:List Expr),b0U n sc ps ks vs=true→b0H n sc ps ks vs
 | .nil,sc,ks,vs,h=>by
  unfold b0U at h
  rw [zak] at h
  cases ks with
  | cons _ _=>exact nomatch h.1
  | nil =>
   cases vs with
   | cons _ _=>exact nomatch h.2
   | nil=>exact a8l
 | .cons kx vx ps,sc,ks,vs,h=>by
  unfold b0U at h
  split at h
  ·simp only [zak] at h
   obtain ⟨⟨h0,h1⟩,h2⟩:=h
   exact a7i (sE kx sc _ h0) (sE vx sc _ h1) (sP ps sc _ _ h2)
  ·cases h
theorem sL:∀ (es:RL) (sc:Scope) (xs:List Expr),a3M n sc es xs=true→a5I n sc es xs
 | .nil,sc,xs,h=>by
  unfold a3M at h
  cases xs with
  | nil=>exact a8k
  | cons _ _=>cases h
 | .cons e es,sc,xs,h=>by
  unfold a3M at h
  split at h
  ·simp only [zak] at h
   obtain ⟨h0,h1,h2⟩:=h
   exact a7h h0 (sE e sc _ h1) (sL es sc _ h2)
  ·cases h
theorem sO:∀ (e:RO) (sc:Scope) (x:Option Expr),a88 n sc e x=true→∀ X G W k,XC n X G W k sc→PO X x (LO G.toGd W (a1m G e))
 | .nn,sc,x,h=>fun X G W k c=>by
  unfold a88 at h
  cases x with
  | some _=>cases h
  | none =>
   refine PO.imp po_none fun σ H Q q=>?_
   obtain ⟨δ,S,Y,K,R,ht,res,_⟩:=q
   rw [a1m] at ht
   exact res _ S H ht (a0a.refl _ _) R.ce
 | .ss e,sc,x,h=>fun X G W k c=>by
  unfold a88 at h
  split at h
  ·refine PO.imp (po_some ((sE e sc _ h).v X G W k c)) fun σ H Q q=>?_
   obtain ⟨δ,S,Y,K,R,ht,res,rw'⟩:=q
   rw [a1m] at ht
   refine ⟨δ,S,Y,_,R,ht,fun d S1 v H1 kk P cc r=>?_,rw'⟩
   obtain ⟨i,rfl,kk⟩:=kk
   exact ⟨i,a0d r,res _ S1 H1 kk P cc⟩
  ·cases h
theorem sC:∀ (e:RO) (sc:Scope) (ifs:List Expr),b0T n sc e ifs=true→∀ X G W k,XC n X G W k sc→PTs X ifs (LT G.toGd W (a3N G e))
 | .nn,sc,ifs,h=>fun X G W k c=>by
  unfold b0T at h
  cases ifs with
  | nil =>
   refine ⟨fun pins s σ H Q I q=>?_⟩
   obtain ⟨δ,S,Y,K,R,ht,res,rw'⟩:=q
   rw [a3N] at ht
   exact pts_nil.run pins s σ H Q I (res true S H ht (a0a.refl _ _) R.ce)
  | cons _ _=>cases h
 | .ss e,sc,ifs,h=>fun X G W k c=>by
  unfold b0T at h
  split at h
  ·rw [show a3N G (.ss e)=a0j G e by rw [a3N]]
   exact pts_one ((sE e sc _ h).t X G W k c)
  ·cases h
theorem sI:∀ (i:RI) (sc:Scope) (x:Expr),a3R n sc i x=true→b0G n sc i x
 | .lst e,sc,x,h=>by
  unfold a3R at h
  exact fun X G W k tg c hm _=>b5m c ((sE e sc x h).v X G W k c)
 | .tup e,sc,x,h=>by
  unfold a3R at h
  exact fun X G W k tg c hm _=>b5o c ((sE e sc x h).v X G W k c)
 | .rng1 a,sc,x,h=>by
  unfold a3R at h
  split at h
  ·simp only [zak,zah] at h
   obtain ⟨⟨⟨e,h0⟩,h1⟩,h2⟩:=h
   subst e
   exact fun X G W k tg c hm _=>b1J c h0 h1 ((sE a sc _ h2).v X G W k c)
  ·cases h
 | .rng2 a b,sc,x,h=>by
  unfold a3R at h
  split at h
  ·simp only [zak,zah] at h
   obtain ⟨⟨⟨⟨e,h0⟩,h1⟩,h1'⟩,h2,h3⟩:=h
   subst e
   exact fun X G W k tg c hm _=>b1K c h0 h1 h1' ((sE a sc _ h2).v X G W k c) ((sE b sc _ h3).v X G W k c)
  ·cases h
 | .str a,sc,x,h=>by
  unfold a3R at h
  exact fun X G W k tg c hm _=>b5n ((sE a sc x h).v X G W k c)
 | .keys a,sc,x,h=>by
  unfold a3R at h
  exact fun X G W k tg c hm _=>b1I ((sE a sc x h).v X G W k c)
 | .zip t1 t2 a b,sc,x,h=>by
  unfold a3R at h
  split at h
  ·simp only [zak,zah] at h
   obtain ⟨⟨⟨⟨e,h0⟩,h1⟩,h1'⟩,h2,h3⟩:=h
   subst e
   intro X G W k tg c hm two
   obtain ⟨_,_,_,rfl⟩:=two rfl
   exact b1L c h0 h1 h1' ((sE a sc _ h2).v X G W k c) ((sE b sc _ h3).v X G W k c)
  ·cases h
 | .enumt a,sc,x,h=>by
  unfold a3R at h
  split at h
  ·simp only [zak,zah] at h
   obtain ⟨⟨⟨e,h0⟩,h1⟩,h2⟩:=h
   subst e
   intro X G W k tg c hm two
   obtain ⟨_,_,_,rfl⟩:=two rfl
   exact a9s c h0 h1 ((sE a sc _ h2).v X G W k c)
  ·cases h
 | .enum a,sc,x,h=>by
  unfold a3R at h
  split at h
  ·simp only [zak,zah] at h
   obtain ⟨⟨⟨e,h0⟩,h1⟩,h2⟩:=h
   subst e
   intro X G W k tg c hm two
   obtain ⟨_,_,_,rfl⟩:=two rfl
   exact b1H c h0 h1 ((sE a sc _ h2).v X G W k c)
  ·cases h
 | .items a,sc,x,h=>by
  unfold a3R at h
  split at h
  ·simp only [zak,zah] at h
   obtain ⟨⟨⟨e,h0⟩,h1⟩,h2⟩:=h
   subst e
   intro X G W k tg c hm two
   obtain ⟨_,_,_,rfl⟩:=two rfl
   exact a9t h0 h1 ((sE a sc _ h2).v X G W k c)
  ·cases h
end
end Sv
namespace Sv
open PySem PySem.Spec PyProof.Rows L2
open L2H (RoomH)
def a7y (x y z:D) (S:SS) (K:SS→Prop):Prop:=match x with
 | .obj a=>match S a with
  | some (.lst ds)=>∃ i j,y=.int i∧ixN ds.length i=some j∧K (S.set a (.lst (ds.set j z)))
  | some (.dic kvs)=>∃ k,keyD y=some k∧kvs.length < sizeLine∧K (S.set a (.dic (putD kvs k z)))
  | _=>False
 | _=>False
def rD3 (g:Gd) (t:D→D→D→SS→(SS→Prop)→Prop):TSet:=fun o i v H Q=>∃ x y z S K,CellsOk g S H∧Rep g S H x o∧Rep g S H y i∧Rep g S H z v∧t x y z S K∧∀ S' H',K S'→a0a S H S' H'→CellsOk g S' H'→Q H'
section
variable {X:Cx} {g:Gd}
theorem a7e (hu:X.A.units + 1 < cLine):PSet X (rD3 g a7y):=by
 intro pins s σ H o i v ov iv u Q I ro ri rv h
 obtain ⟨x,y,z,S,K,hc,p1,p2,p3,ht,res⟩:=h
 unfold a7y at ht
 split at ht
 ·rename_i a
  cases a0n p1
  split at ht
  ·rename_i ds e
   obtain ⟨k,j,rfl,hj,q⟩:=ht
   cases a0d p2
   obtain ⟨vs,hl,hr⟩:=hc a _ e
   exact set_list pins s σ H _ _ _ ov iv u Q I ro ri rv ⟨a,vs,k,j,rfl,rfl,hl,by rw [← hr.length];exact hj,res _ _ q (a0a.write e) (hc.write e ⟨_,upd_same,(hr.set p3).mono (a0a.write e)⟩)⟩
  ·rename_i kvs e
   obtain ⟨k,ek,hz,q⟩:=ht
   cases a0E ek p2
   obtain ⟨vs,hl,hr⟩:=hc a _ e
   exact set_dict hu pins s σ H _ _ _ ov iv u Q I ro ri rv ⟨a,_,rfl,.inl ⟨vs,k,hl,rfl,by rw [← Paired.length (a0A hr)];exact hz,rfl⟩,res _ _ q (a0a.write e) (hc.write e ⟨_,upd_same,(a4d hr k p3).mono (a0a.write e)⟩)⟩
  ·exact ht.elim
 ·exact ht.elim
theorem a7W {n j:Nat} {k:Int} (h:ixN n k=some j):(0≤k∧k=(j:Int)∨k < 0∧k + (n:Int)=(j:Int))∧j < n:=by
 unfold ixN at h
 split at h
 ·split at h <;> cases h
  omega
 ·split at h <;> cases h
  omega
theorem a6G {pins:List (Addr × Obj)} {σ:L2.St} {H:Hp} {s:Shared} {a:Addr} {vs:List V} {k:Int} {t:Tok} {z:V} {Q:Value→Shared→Prop} (I:Inv X pins σ H s) (at_a:SqL X.K H a vs) (found:atI vs k=some z) {E:Value→Shared→Prop} (done:∀ w,RelV z w→Q w s) :
  wpAny (model X.prog X.w) X.A (getItem (.ref a) (.int k t)) Q E s:=by
 obtain ⟨its,rel,isL,small⟩:=I.list at_a
 obtain ⟨j,place,here⟩:=Option.bind_eq_some_iff.mp found
 obtain ⟨w,at_j,like⟩:=a67 rel here
 have ⟨sign,inside⟩:=a7W place
 have same:its.toArray.size=vs.length:=by rw [List.size_toArray,rel.length]
 have bound:=line63
 have reads:∀ i:Nat,i=j→its.toArray[i]?=some w:=fun i e=>by rw [e,List.getElem?_toArray];exact at_j
 rcases sign with ⟨up,e⟩ | ⟨down,e⟩
 ·exact wpAny_getItem_list isL.isList up (by omega) (reads _ (by omega)) (done w like)
 ·exact wpAny_getItem_list_neg isL.isList down (by omega) (by omega) (reads _ (by omega)) (done w like)
def a3X (x y:D) (S:SS) (K:DK):Prop:=match x with
 | .obj a=>match S a with
  | some (.lst ds)=>∃ i d,y=.int i∧atI ds i=some d∧K d S
  | some (.dic kvs)=>∃ k d,keyD y=some k∧valD kvs k=some d∧K d S
  | _=>False
 | _=>False
theorem a9q (hu:X.A.units + 1 < cLine):PGet X (rD2 g a3X):=by
 intro pins s σ H o i ov iv Q I ro ri h
 obtain ⟨x,y,S,K,hc,p1,p2,ht,res⟩:=h
 unfold a3X at ht
 split at ht
 ·rename_i a
  cases a0n p1
  cases (show ov=Value.ref a from ro)
  split at ht
  ·rename_i ds e
   obtain ⟨k,d,rfl,hd,q⟩:=ht
   cases a0d p2
   obtain ⟨t,rfl⟩:=(show ∃ t,iv=Value.int k t from ri)
   obtain ⟨vs,hl,hr⟩:=hc a _ e
   obtain ⟨z,he,rz⟩:=hr.at hd
   exact a6G I (.inl (.inl hl)) he fun w rw'=>⟨z,H,I,rw',res.val q hc rz⟩
  ·rename_i kvs e
   obtain ⟨k,d,ek,ed,q⟩:=ht
   cases a0E ek p2
   obtain ⟨vs,hl,hr⟩:=hc a _ e
   rcases a0Y hr k with ⟨z,_⟩ | ⟨d2,w,z1,z2,rw'⟩
   ·rw [ed] at z;cases z
   ·rw [ed] at z1
    cases z1
    exact d_getItem hu I (.inl ⟨vs,k,.inl hl,rfl,z2.symm⟩) ri fun w' s3 I3 rw2=>⟨w,H,I3,rw2,res.val q hc rw'⟩
  ·exact ht.elim
 ·exact ht.elim
def b4w (x y:D) (S:SS) (K:DK):Prop:=match x,y with
 | .int i,.int j=>K (.int (i + j)) S
 | .str a,.str b=>a.length + b.length≤sizeLine∧K (.str (a ++ b)) S
 | _,_=>False
def b4x (x y:D) (S:SS) (K:DK):Prop:=match x,y with
 | .int i,.int j=>K (.int (i - j)) S
 | _,_=>False
def a85:Operator→D→D→SS→DK→Prop
 | .Add=>b4w | .Sub=>b4x | _=>fun _ _ _ _=>False
theorem a5U:∀ op:Operator,PIp X op (rD2 g (a85 op)):=by
 intro op pins s σ H v1 v2 u1 u2 Q I r1 r2 h
 obtain ⟨x,y,S,K,hc,p1,p2,ht,res⟩:=h
 cases op with
 | Add =>
  change b4w x y S K at ht
  unfold b4w at ht
  split at ht
  ·cases a0d p1
   cases a0d p2
   exact iop_add pins s σ H _ _ _ _ Q I r1 r2 ⟨_,_,rfl,rfl,res.int ht hc⟩
  ·cases a0o p1
   cases a0o p2
   exact iop_add_str pins s σ H _ _ _ _ Q I r1 r2 ⟨_,_,rfl,rfl,ht.1,res.str ht.2 hc⟩
  ·exact ht.elim
 | Sub =>
  change b4x x y S K at ht
  unfold b4x at ht
  split at ht
  ·cases a0d p1
   cases a0d p2
   exact iop_sub pins s σ H _ _ _ _ Q I r1 r2 ⟨_,_,rfl,rfl,res.int ht hc⟩
  ·exact ht.elim
 | _=>exact False.elim ht
end
def a3B (f:Str) (v:D):List (Str × D)→List (Str × D)
 | []=>[(f,v)]
 | (g,x) :: r=>if g=f then (g,v) :: r else (g,x) :: a3B f v r
theorem a4Y {g:Gd} {S:SS} {H:Hp} {f:Str} {d:D} {v:V} (r:Rep g S H d v):∀ {fs:List (Str × D)} {ws:List (Str × V)},a1c g S H fs ws→a1c g S H (a3B f d fs) (putF f v ws)
 | [],_,h=>by
  simp only [a1c] at h
  subst h
  simp only [a3B,putF,a1c]
  exact ⟨v,[],rfl,r,rfl⟩
 | (k,x) :: fs,_,h=>by
  simp only [a1c] at h
  obtain ⟨w,q,rfl,a,b⟩:=h
  unfold a3B putF
  by_cases e:k=f
  ·rw [if_pos e,if_pos e]
   simp only [a1c]
   exact ⟨v,q,rfl,r,b⟩
  ·rw [if_neg e,if_neg e]
   simp only [a1c]
   exact ⟨w,_,rfl,a,a4Y r b⟩
theorem b7S {g:Gd} {S:SS} {H:Hp}:∀ {fs:List (Str × D)} {ws:List (Str × V)},a1c g S H fs ws→fs.length=ws.length
 | [],_,h=>by simp only [a1c] at h;subst h;rfl
 | (k,x) :: fs,_,h=>by
  simp only [a1c] at h
  obtain ⟨w,q,rfl,a,b⟩:=h
  rw [zaw,zaw,b7S b]
mutual
inductive RS where
 | exp (e:RE) | asg (tg:List Nat) (one:Bool) (e:RE) | asl (i:Nat) (e:RE)
 | sti (a b c:RE) | stf (a:RE) (f:Str) (c:RE)
 | agv (i:Nat) (op:Operator) (e:RE) | agi (a b:RE) (op:Operator) (e:RE)
 | ifs (c:RE) (a b:RSs) | fr (tg:List Nat) (one:Bool) (it:RI) (b:RSs) | wh (c:RE) (b:RSs)
 | ret (e:RE) | retN | brk | cnt | pas
 | rai (j:Nat) (es:RL) | tra (b:RSs) (j:Nat) (i:Nat) (s:RSs) | tro (b:RSs) (j:Nat) (s:RSs)
 | par (i j:Nat) (es:RL) | tri (i j l:Nat) (es:RL) | lck (s:RS) | asu (tg:List Nat) (e:RE) | frn (j:Nat) (tg:List Nat) (it:RI) (b:RSs) | nev
inductive RSs where
 | nil | cons (s:RS) (r:RSs) | frz (i:Nat) (r:RSs) | cut (s:RS) (r:RSs)
end
inductive XKd where
 | fld (f:Str) | bare
def XKd.ar:XKd→Nat
 | .fld _=>1 | .bare=>0
structure Gs extends Gm where
 xk:Nat→Option XKd
def Gs.suite (G:Gs) (a:Addr) (oe:Obj):Gs:={ G with m0:=some (a,oe) }
def mkX:XKd→List D→Option (List (Str × D))
 | .fld f,[d]=>some [(f,d)]
 | .bare,[]=>some []
 | _,_=>none
def SE.unlock (F:SE) (a:Addr) (kvs:List (Key × D)):SE :=
 { nx:=fun δ S=>F.nx δ (S.set a (.dic kvs)),rt:=fun d S=>F.rt d (S.set a (.dic kvs)),bk:=fun δ S=>F.bk δ (S.set a (.dic kvs)),ct:=fun δ S=>F.ct δ (S.set a (.dic kvs)) }
def b8L (i:Nat) (δ:DS) (S:SS) (K:DS→SS→Prop):Prop:=K δ S∨∃ a,δ[i]?=some (some (.obj a))∧((∃ ds,S a=some (.lst ds)∧K (δ.set i (some (.lst ds))) (S.del a))∨∃ ds,S a=some (.dic ds)∧K (δ.set i (some (.dic ds))) (S.del a))
def b04 (j:Nat) (tg:List Nat) (d:D) (δ:DS) (S:SS) (Q:DS→SS→Prop):Prop:=∃ x y ds,vw S d=.tup [x,y]∧vw S y=.tup ds∧ds.length=tg.length∧Q (a2k (δ.set j (some x)) tg ds) S
mutual
def a0k (G:Gs):RS→RdS
 | .exp e=>fun δ S Y F=>den G.toGm e δ S Y fun _ S1=>F.nx δ S1
 | .asg tg one e=>fun δ S Y F=>(one=false→G.m0=none)∧den G.toGm e δ S Y fun d S1=>a1d tg one d δ S1 F.nx
 | .asu tg e=>fun δ S Y F=>G.m0=none∧den G.toGm e δ S Y fun d S1=>∃ ds,vw S1 d=.lst ds∧ds.length=tg.length∧F.nx (a2k δ tg ds) S1
 | .asl i e=>fun δ S Y F=>den G.toGm e δ S Y fun d S1=>F.nx (δ.set i (some d)) S1
 | .sti a b c=>fun δ S Y F=>den G.toGm c δ S Y fun z S1=>den G.toGm a δ S1 Y fun x S2=>den G.toGm b δ S2 Y fun y S3=>a7y x y z S3 fun S4=>F.nx δ S4
 | .stf a f c=>fun δ S Y F=>den G.toGm c δ S Y fun z S1=>den G.toGm a δ S1 Y fun x S2=>∃ p C fs,x=.obj p∧S2 p=some (.ins C fs)∧Cls G.K C∧NoAttr G.K C f∧fs.length < 1000∧F.nx δ (S2.set p (.ins C (a3B f z fs)))
 | .agv i op e=>fun δ S Y F=>∃ x,δ[i]?=some (some x)∧den G.toGm e δ S Y fun y S1=>a85 op x y S1 fun z S2=>F.nx (δ.set i (some z)) S2
 | .agi a b op e=>fun δ S Y F=>den G.toGm a δ S Y fun x S1=>den G.toGm b δ S1 Y fun y S2=>a3X x y S2 fun u S3=>den G.toGm e δ S3 Y fun w S4=>a85 op u w S4 fun z S5=>a7y x y z S5 fun S6=>F.nx δ S6
 | .ifs c a b=>fun δ S Y F=>a0j G.toGm c δ S Y fun k S1=>if k=true then a0f G a δ S1 Y F else a0f G b δ S1 Y F
 | .fr tg one it b=>fun δ S Y F=>G.m0=none∧a0y G.toGm it δ S Y fun ds ok S1=>∃ Iv:Nat→DS→SS→Prop,Iv 0 δ S1∧(∀ i δ' S',Iv i δ' S'→i≤ds.length→ok S') ∧
   (∀ i d δ' S',ds[i]?=some d→Iv i δ' S'→a1d tg one d δ' S' fun δ2 S2=>a0f G b δ2 S2 Y { F with nx:=Iv (i + 1),ct:=Iv (i + 1),bk:=F.nx })∧(∀ δ' S',Iv ds.length δ' S'→F.nx δ' S')
 | .frn j tg it b=>fun δ S Y F=>G.m0=none∧a0y G.toGm it δ S Y fun ds ok S1=>∃ Iv:Nat→DS→SS→Prop,Iv 0 δ S1∧(∀ i δ' S',Iv i δ' S'→i≤ds.length→ok S') ∧
   (∀ i d δ' S',ds[i]?=some d→Iv i δ' S'→b04 j tg d δ' S' fun δ2 S2=>a0f G b δ2 S2 Y { F with nx:=Iv (i + 1),ct:=Iv (i + 1),bk:=F.nx })∧(∀ δ' S',Iv ds.length δ' S'→F.nx δ' S')
 | .wh c b=>fun δ S Y F=>∃ Iv:Nat→DS→SS→Prop,(∃ m,Iv m δ S)∧∀ m δ' S',Iv m δ' S'→a0j G.toGm c δ' S' Y fun k S1 =>
   if k=true then a0f G b δ' S1 Y { F with nx:=fun δ2 S2=>∃ m',m' < m∧Iv m' δ2 S2,ct:=fun δ2 S2=>∃ m',m' < m∧Iv m' δ2 S2,bk:=F.nx } else F.nx δ' S1
 | .ret e=>fun δ S Y F=>den G.toGm e δ S Y F.rt
 | .retN=>fun δ S Y F=>F.rt .non S
 | .brk=>fun δ S Y F=>F.bk δ S
 | .cnt=>fun δ S Y F=>F.ct δ S
 | .pas=>fun δ S Y F=>F.nx δ S
 | .rai j es=>fun δ S Y F=>G.m0=none∧∃ kd,G.xk j=some kd∧es.len=kd.ar∧a0l G.toGm es δ S Y fun ds S1=>∃ fs,mkX kd ds=some fs∧Y (G.cl j) fs δ S1
 | .tra b j i s=>fun δ S Y F=>G.m0=none∧a0f G b δ S (fun C fs δ' S'=>∃ k,PySem.W.exmOne G.K (.ref C) (.ref (G.cl j))=some k ∧
   (k=true→∀ a oe,a0f (G.suite a oe) s (δ'.set i (some (.exc a oe C fs))) S' noX { F with nx:=fun δ2 S2=>F.nx (δ2.set i none) S2,bk:=fun δ2 S2=>F.bk (δ2.set i none) S2,ct:=fun δ2 S2=>F.ct (δ2.set i none) S2 }) ∧
   (k=false→Y C fs δ' S')) F
 | .tro b j s=>fun δ S Y F=>G.m0=none∧a0f G b δ S (fun C fs δ' S'=>∃ k,PySem.W.exmOne G.K (.ref C) (.ref (G.cl j))=some k∧(k=true→∀ a oe,a0f (G.suite a oe) s δ' S' noX F)∧(k=false→Y C fs δ' S')) F
 | .par i j es=>fun δ S Y F=>G.m0=none∧a0l G.toGm es δ S Y fun ds S1=>∃ v w,ds=[v,w]∧F.nx ((δ.set i (some v)).set j (some w)) S1
 | .tri i j l es=>fun δ S Y F=>G.m0=none∧a0l G.toGm es δ S Y fun ds S1=>∃ u v w,ds=[u,v,w]∧F.nx (((δ.set i (some u)).set j (some v)).set l (some w)) S1
 | .lck s=>fun δ S Y F=>∃ a kvs,S a=some (.dic kvs)∧a0k G s δ (S.set a (.loc kvs)) Y (F.unlock a kvs)
 | .nev=>fun _ _ _ _=>False
def a0f (G:Gs):RSs→RdS
 | .nil=>fun δ S Y F=>F.nx δ S
 | .cons s r=>fun δ S Y F=>a0k G s δ S Y { F with nx:=fun δ1 S1=>a0f G r δ1 S1 Y F }
 | .frz i r=>fun δ S Y F=>b8L i δ S fun δ1 S1=>a0f G r δ1 S1 Y F
 | .cut s r=>fun δ S Y F=>∃ J:DS→SS→Prop,a0k G s δ S Y { F with nx:=J }∧∀ δ1 S1,J δ1 S1→a0f G r δ1 S1 Y F
end
def nlc:Expr→Bool
 | .ListComp _ _ _ _=>false | .SetComp _ _ _ _=>false | .DictComp _ _ _ _ _=>false | _=>true
def ntup:Expr→Bool
 | .Tuple _ _ _=>false | _=>true
def a5y (sc:Scope) (x e:Expr):Bool:=nlc e || (match x with
 | .Name y p=>match sc.names.lookup y with
  | some .local=>!(p.line == e.pos.line)
  | _=>true
 | .Tuple _ _ _=>true
 | _=>false)
def a5o (sc:Scope):Expr→Bool
 | .Tuple [.Name y _,.Name z _] _ _=>!(decide (sc.names.lookup y=some .local) && decide (sc.names.lookup z=some .local))
 | .Tuple [.Name y _,.Name z _,.Name x _] _ _=>!(decide (sc.names.lookup y=some .local) && (decide (sc.names.lookup z=some .local) && decide (sc.names.lookup x=some .local)))
 | .Tuple (_ :: _ :: _ :: _ :: _) _ _=>true
 | _=>false
mutual
def a1y (n:SN) (sc:Scope):RS→Stmt→Bool
 | .exp e,x=>match x with
  | .Expr v _=>nlc v && chk n sc e v
  | _=>false
 | .asg tg one e,x=>match x with
  | .Assign [t] v _=>a5y sc t v && (one || ntup v || a5o sc t) && (a0D n sc tg one t && chk n sc e v)
  | _=>false
 | .asu tg e,x=>match x with
  | .Assign [t] v _=>a5y sc t v && (ntup v || a5o sc t) && (a0D n sc tg false t && chk n sc e v)
  | _=>false
 | .asl i e,x=>match x with
  | .Assign [.Name y py] (.ListComp xe [⟨xt,xi,ifs,0⟩] scope p) _=>match e with
   | .lc _ elt tg one it c own=>nmB n.N i y && decide (sc.names.lookup y=some .local) && (py.line == p.line) && !(scope.names.any fun (m,k)=>m == y && (k == .local || k == .cell)) &&
     (blkC n.N sc scope own && a1f xi && a3R n sc it xi && (tg.all fun i=>decide (i∈own.map (·.2))) && a0D n scope tg one xt && b0T n scope c ifs && chk n scope elt xe && (!it.two || !one))
   | _=>false
  | _=>false
 | .sti a b c,x=>match x with
  | .Assign [.Subscript l r _] v _=>a1r r && (chk n sc a l && (chk n sc b r && chk n sc c v))
  | _=>false
 | .stf a f c,x=>match x with
  | .Assign [.Attribute l f' _] v _=>decide (f'=f) && (chk n sc a l && chk n sc c v)
  | _=>false
 | .agv i op e,x=>match x with
  | .AugAssign (.Name y _) o v _=>nmB n.N i y && a5J sc y && decide (o=op) && chk n sc e v
  | _=>false
 | .agi a b op e,x=>match x with
  | .AugAssign (.Subscript l r _) o v _=>a1r r && decide (o=op) && (chk n sc a l && (chk n sc b r && chk n sc e v))
  | _=>false
 | .ifs c a b,x=>match x with
  | .If t p q _=>chk n sc c t && (a0Q n sc a p && a0Q n sc b q)
  | _=>false
 | .fr tg one it b,x=>match x with
  | .For t i p [] _=>a1f i && a0D n sc tg one t && (!it.two || !one) && (a3R n sc it i && a0Q n sc b p)
  | _=>false
 | .frn j tg it b,x=>match x with
  | .For (.Tuple [.Name y _,t2] _ _) i p [] _=>a1f i && (nmB n.N j y && a5J sc y) && a0D n sc tg false t2 && (a3R n sc it i && a0Q n sc b p)
  | _=>false
 | .wh c b,x=>match x with
  | .While t p [] _=>chk n sc c t && a0Q n sc b p
  | _=>false
 | .ret e,x=>match x with
  | .Return (some v) _=>chk n sc e v
  | _=>false
 | .retN,x=>match x with
  | .Return none _=>true
  | _=>false
 | .brk,x=>match x with
  | .Break _=>true
  | _=>false
 | .cnt,x=>match x with
  | .Continue _=>true
  | _=>false
 | .pas,x=>match x with
  | .Pass _=>true
  | .Expr (.Constant (.str _) _ _) _=>true
  | _=>false
 | .rai j es,x=>match x with
  | .Raise (some (.Call (.Name y _) xs [] _)) none _=>nmB n.cls j y && glB sc y && a3M n sc es xs
  | _=>false
 | .tra b j i s,x=>match x with
  | .Try p [.ExceptHandler (some (.Name y _)) (some m) (q :: qs) _] [] [] _=>nmB n.cls j y && glB sc y && nmB n.N i m && decide (sc.names.lookup m=some .local) && (a0Q n sc b p && a0Q n sc s (q :: qs))
  | _=>false
 | .tro b j s,x=>match x with
  | .Try p [.ExceptHandler (some (.Name y _)) none (q :: qs) _] [] [] _=>nmB n.cls j y && glB sc y && (a0Q n sc b p && a0Q n sc s (q :: qs))
  | _=>false
 | .par i j es,x=>match x with
  | .Assign [.Tuple [.Name y py,.Name z pz] _ _] (.Tuple [a,b] _ _) _=>nmB n.N i y && nmB n.N j z && decide (i≠j) && decide (sc.names.lookup y=some .local) && decide (sc.names.lookup z=some .local) && (py.line == pz.line) && decide ((y == z)=false) && a0m a && a0m b &&
    !([a,b].all (foldedForSure 8)) && !([a,b].all (constantsAlone 8)) && a3M n sc es [a,b]
  | _=>false
 | .tri i j l es,x=>match x with
  | .Assign [.Tuple [.Name x px,.Name y py,.Name z pz] _ _] (.Tuple [a,b,c] _ _) _=>(nmB n.N i x && nmB n.N j y && nmB n.N l z && decide (i≠j) && decide (i≠l) && decide (j≠l)) && (decide (sc.names.lookup x=some .local) && decide (sc.names.lookup y=some .local) && decide (sc.names.lookup z=some .local)) && ((px.line == py.line) && (px.line == pz.line) && decide ([x,y,z].eraseDups=[x,y,z])) && (a0m a && a0m b && a0m c) &&
    !([a,b,c].all (foldedForSure 8)) && !([a,b,c].all (constantsAlone 8)) && a3M n sc es [a,b,c]
  | _=>false
 | .lck s,x=>a1y n sc s x
 | .nev,_=>true
def a0Q (n:SN) (sc:Scope):RSs→List Stmt→Bool
 | .nil,xs=>xs.isEmpty
 | .cons s r,xs=>match xs with
  | x :: xs=>a1y n sc s x && a0Q n sc r xs
  | []=>false
 | .frz _ r,xs=>a0Q n sc r xs
 | .cut s r,xs=>match xs with
  | x :: xs=>a1y n sc s x && a0Q n sc r xs
  | []=>false
end
end Sv
namespace Sv
open PySem PySem.Spec PyProof.Rows L2
open L2H (RoomH)
def spI (C:Addr) (f:Str):SpM:=fun m vs H Q E=>∃ a y,vs=[V.ref a,y]∧H a=some (exo a C none)∧∀ dx,H dx=none→dx≠a→Q .non (upd (upd H dx (exd dx [(f,y)])) a (exo a C (some dx)))
def b9r (C:Addr) (f:Str) (ta:TA):L2.St→Hp→XK→Prop:=fun σ H Q=>ta σ H fun vs H1=>∃ y,vs=[y]∧∀ dx,H1 dx=none→Q (.ref C) (some dx) (upd H1 dx (.xd [(f,y)]))
theorem a3x {A:Around} {C:Addr} {us:List Value} {kw:List (Str × Value)}:(A.under (.builtin "type.__call__" ⟨.ref C :: us,kw⟩)).handled=A.handled:=rfl
theorem a7Y {H:Hp} {a d:Addr} {o o' u v:HO} (fresh:H a=none):upd (del (upd (upd (upd H a o) d u) a o') a) d v=upd H d v:=by
 funext b
 simp only [upd,del]
 split
 ·rfl
 ·split
  ·rename_i e;rw [e,fresh]
  ·rfl
section
variable {X:Cx} {C fI:Addr} {x f:Str} {e:Expr} {es:List Expr} {p pos:Pos} {ta:TA}
theorem a5t {H:Hp} {a:Addr} {y:V} {Q:XK} (fresh:H a=none) (want:∀ d,H d=none→Q (.ref C) (some d) (upd H d (.xd [(f,y)]))) :
  spI C f none [.ref a,y] (upd H a (exo a C none)) (fun v H2=>v=.non∧∃ d fs,H2 a=some (exo a C (some d))∧H2 d=some (exd d fs)∧H d=none∧Q (.ref C) (some d) (upd (del H2 a) d (.xd fs))) fun _ _ _=>False:=by
 refine ⟨a,y,rfl,upd_same,fun d free apart=>?_⟩
 have free':H d=none:=by simpa only [upd,if_neg apart] using free
 refine ⟨rfl,d,[(f,y)],upd_same,?_,free',?_⟩
 ·simp only [upd,if_neg apart,if_true]
 ·rw [a7Y fresh]
  exact want d free'
theorem a93 {kI:Nat} {fd:FuncData} {ps:List Str} (T:OexC X.K C) (own:PySem.W.findIn X.K (.ref C) "__init__" = some (some (.ref fI))) (isFn:PySem.W.typeIn X.K (.ref fI)=some (.type "function")) (F:FnG X.prog X.w X.K X.mg X.base false kI fI fd ps (spI C f))
  (room:RoomH (kI + 1) X.A) (md:a0N X none) (binds:L2.Binds X.K fd ps []) (gl:Gl X x) (at_x:X.mg x=some (.ref C)) (args:PA X (e :: es) ta) (db:(x == ("__debug__" : Str))=false)
  (plain:starEach (e :: es) X.env=(false,eval e X.env) :: starEach es X.env) (rest:(backTo pos (starEach es X.env)).any (·.1)=false):L2N.PMk X (.Call (.Name x p) (e :: es) [] pos) (b9r C f ta):=by
 intro pins s σ H Q I want
 have ⟨_,_,_,_,bm,_,_,_,_,_,_,_,_,_,_,at_C,roots⟩:=T.cls
 apply wpAny_Call_Name_kw (ld_glob I gl at_x ?_ db)
 apply PySem.W.callWith_K (h₀:=X.base) I.ok.mod.kin T.kC ?_ plain rest
 apply thn (args.run pos pins s σ H _ I want)
 rintro us ⟨hp,gs,dr,tk,os⟩ ⟨_,H1,J,rv,y,rfl,wish⟩
 refine ⟨J.kIn,wpAny_call ?_⟩
 have one:us.length=1:=rv.length.symm
 have young:H1 (hp.objs.size + 1)=none:=J.hok.fresh (Nat.le_succ hp.objs.size)
 have grows:∀ b o,hp.get? b=some o→((hp.push (PySem.W.kdv_tup us)).push (PySem.HandSPX.excO C hp.objs.size)).get? b=some o:=fun _ _ z=>Heap.get?_push_of_some _ (Heap.get?_push_of_some _ z)
 have J':=J.laid (t':=tk) grows (Nat.le_succ hp.objs.size) (exo_ok (P:=X.prog) (w:=X.w) (H:=upd H1 _ _) (e:=hp.objs.size + 1) (C:=C) (d:=none) (t1:=hp.objs.size) (by heap_get))
 have asked:=a5t (Q:=Q) young wish
 have given:Vals [.ref (hp.objs.size + 1),y] (.ref (hp.objs.size + 1) :: us):=.cons rfl rv
 have bound:=binds ⟨_,gs,dr,tk,os⟩ (.ref (hp.objs.size + 1) :: us) J'.kIn (by rw [List.append_nil,← given.length];exact F.len _ _ _ _ _ rfl asked)
 rw [List.append_nil] at bound
 have inner:=F.run _ X.stack _ _ ⟨.ref (hp.objs.size + 1) :: us,[]⟩ _ _ _ _ none rfl (room.make C us []) ⟨md.1,a3x.trans (J'.ok.hd md.2)⟩ (J'.env0.make C us []) bound given asked
 refine PySem.HandSPX.call_own PySem.F.excBase_ValueError (fun n=>PySem.HandSPX.refsVE_contains n bm roots) (J.kIn _ _ at_C) (PySem.W.looks_findIn J.kIn own) (fun o=>PySem.W.bind_fn J.kIn o isFn) (by show us.length≤_;rw [one,zai];decide) (codeAny_mono inner ?_)
 rintro (er | fl) ⟨h2,g2,d2,t2,os2⟩ told
 ·have ⟨_,_,_,_,_,_,_,_,_,_,_,_,never⟩:=told
  exact never.elim
 ·cases fl with
  | ret u =>
   obtain ⟨_,H2,sameOs,bare,un,hok,rel,rfl,d,fs,at_e,at_d,free,done⟩:=told
   have ⟨_,G,JG,keeps,away,lies,off⟩:=mk_end0 (d2:=d2) (t2:=t2) J (Nat.le_succ _) grows un hok sameOs bare at_e at_d free
   exact ⟨rel,_,_,_,⟨G,g2,d2,t2,os2⟩,_,.ref C,some d,rfl,JG,keeps,away,lies,⟨rfl,rfl,fun _ z=>by cases z;rfl⟩,rfl,rfl,off,rfl,bare,raises_own T.exC T.tyC,done⟩
  | _=>exact told.elim
theorem a8c {bmB:List Value} {B newId initId:String} (base:ExcBaseFacts B newId initId bmB) (isExc:PySem.W.excIn X.K C bmB newId=true) (kept:PySem.W.keepIn X.K (.ref C)=true) (raises:Raises X (.ref C)) (gl:Gl X x) (at_x:X.mg x=some (.ref C)) (db:(x == ("__debug__" : Str))=false) :
  L2N.PMk X (.Call (.Name x p) [] [] pos) fun _ H Q=>Q (.ref C) none H:=fun _ _ _ _ _ I want =>
 have ⟨_,_,_,_,_,_,_,_,_,_,_,_,_,_,_,_,_,at_C,names,noInit,tail⟩:=exc_obj I.kIn isExc
 wpAny_Call_Name_kw (ld_glob I gl at_x (PySem.W.callWith_K0 I.kIn kept (wpAny_call_exc_subT base tail at_C names noInit (fun _ _ new=>L2N.mk_of I new raises want (I.hok.gone new.new)) (Nat.zero_le _))) db)
end
end Sv
namespace Sv
open PySem PySem.Spec PyProof.Rows L2
open L2H (RoomH)
end Sv
namespace Sv
open PySem PySem.Spec PyProof.Rows L2
open L2H (RoomH)
inductive MkF (P:Program) (w:World) (K:zbd) (mg:Str→Option Value) (base:Heap) (k:Nat) (C:Addr):XKd→Prop
 | fld {f:Str} {fI:Addr} {fd:FuncData} {ps:List Str} {kI:Nat} (T:OexC K C) (iC:PySem.W.findIn K (.ref C) "__init__" = some (some (.ref fI))) (tI:PySem.W.typeIn K (.ref fI)=some (.type "function")) (F:FnG P w K mg base false kI fI fd ps (spI C f)) (b:L2.Binds K fd ps []) (h:kI + 1≤k):MkF P w K mg base k C (.fld f)
 | bare {bmB:List Value} {B newId initId:String} (Fb:ExcBaseFacts B newId initId bmB) (q:PySem.W.excIn K C bmB newId=true) (kC:PySem.W.keepIn K (.ref C)=true) (e1:PySem.W.subIn K (.ref C) (.type "BaseException")=some true) (e2:PySem.W.typeIn K (.ref C)=some (.type "type")):MkF P w K mg base k C .bare
structure XS (n:SN) (X:Cx) (G:Gs) (W:WX) (k:Nat) (sc:Scope):Prop where
 xc:XC n X G.toGm W k sc
 esc:X.env.scope=sc
 fn:∀ x,X.fn x=true
 stk:X.stack=X.env :: X.outer
 fr:X.env.frame=some X.env.locals
 xm:∀ j x kd,G.xk j=some kd→n.cls[j]?=some x→MkF X.prog X.w X.K X.mg X.base k (G.cl j) kd
section
variable {n:SN} {X:Cx} {G:Gs} {W:WX} {k:Nat} {sc:Scope}
theorem XC.tr (c:XC n X G.toGm W k sc) {W':WX} {pn:List (Addr × Obj)} {xe:Value→Shared→Prop} (hm:G.m0=none) (tk:L2N.Takes (X.tr pn xe) W') (ps:PassesOwn (model X.prog X.w) X.A X.env xe):XC n (X.tr pn xe) G.toGm W' k sc :=
 ⟨c.ok,c.N,⟨c.sc.vis,c.sc.loc,c.sc.gl,c.sc.fr⟩,c.rm,by have:=c.md;rw [hm] at this ⊢;exact this,tk,ps⟩
theorem XS.tr (c:XS n X G W k sc) {W':WX} {pn:List (Addr × Obj)} {xe:Value→Shared→Prop} (hm:G.m0=none) (tk:L2N.Takes (X.tr pn xe) W') (ps:PassesOwn (model X.prog X.w) X.A X.env xe):XS n (X.tr pn xe) G W' k sc :=
 ⟨c.xc.tr hm tk ps,c.esc,c.fn,c.stk,c.fr,c.xm⟩
theorem GOk.suite {P:Program} {w:World} {K:zbd} {mg:Str→Option Value} {base:Heap} {G:Gm} {m:Option (Addr × Obj)} (h:GOk n P w K mg base G k):GOk n P w K mg base { G with m0:=m } k :=
 ⟨h.K,h.nd,h.fn,h.meth,h.made,h.gv,h.cl,h.bt,h.kd⟩
theorem XS.suite (c:XS n X G W k sc) {a:Addr} {oe:Obj} {pn:List (Addr × Obj)} {cls:Value} {d:Option Addr} (hz:L2N.Zn cls d oe) (hd:∃ vs,oe.data=.fields vs):XS n (X.suite a ((a,oe) :: pn)) (G.suite a oe) noW k sc :=
 ⟨⟨c.xc.ok.suite,c.xc.N,⟨c.xc.sc.vis,c.xc.sc.loc,c.xc.sc.gl,c.xc.sc.fr⟩,⟨c.xc.rm.dp,c.xc.rm.un⟩,by
   obtain ⟨vs,hv⟩:=hd
   exact ⟨c.xc.md.1,⟨rfl,vs,hv,hz.2.2 vs hv⟩,zal⟩,fun u s' ⟨_,_,_,_,_,_,_,_,_,_,_,_,_,_,_,_,z⟩=>z.elim,PassesOwn.never⟩,
  c.esc,c.fn,c.stk,c.fr,c.xm⟩
end
def b8m (n:SN) (sc:Scope) (s:RS) (x:Stmt):Prop:=∀ X G W k,XS n X G W k sc→PS X x (LS G.toGd W (a0k G s))
def a5P (n:SN) (sc:Scope) (s:RSs) (x:List Stmt):Prop:=∀ X G W k,XS n X G W k sc→PSs X x (LS G.toGd W (a0f G s))
theorem a8F {e:Expr} {t:Option Expr} {l:Nat} {env:Env} (h:nlc e=true):swapsWith e t l env=pure false:=by
 cases e <;> first | rfl | cases h
section
variable {n:SN} {X:Cx} {G:Gs} {W:WX} {k:Nat} {sc:Scope} {pos:Pos}
theorem a4T {t e:Expr} {l:Nat} (esc:X.env.scope=sc) (h:a5y sc t e=true):swapsWith e (some t) l X.env=pure false:=by
 unfold a5y at h
 rw [Bool.or_eq_true] at h
 rcases h with h | h
 ·exact a8F h
 ·split at h
  ·rename_i y p
   have key:(X.env.blockKind == .function && X.env.kindOf y == some .local && p.line == e.pos.line)=false:=by
    split at h
    ·have:(p.line == e.pos.line)=false:=by simpa using h
     rw [this,Bool.and_false]
    ·rename_i hne
     have:(X.env.kindOf y == some .local)=false:=by
      have e1:X.env.kindOf y=sc.names.lookup y:=by rw [← esc];rfl
      rw [e1]
      exact Bool.eq_false_iff.mpr fun z=>hne (eq_of_beq z)
     rw [this,Bool.and_false,Bool.false_and]
   unfold swapsWith
   cases e <;> first | rfl | (simp only [key,Bool.false_and];done) | (simp only [key,Bool.false_and];rfl)
  ·unfold swapsWith
   cases e <;> rfl
  ·cases h
theorem a2o {t e:Expr} (h:ntup e=true):swappedStores [t] e X.env=pure none:=by
 unfold swappedStores
 cases t <;> cases e <;> first | rfl | cases h
theorem a5z {t:Expr} {one:Bool} {tg:List Nat} (h:a0D n sc tg one t=true) (ho:one=true) {e:Expr}:swappedStores [t] e X.env=pure none:=by
 subst ho
 unfold a0D at h
 rw [if_pos rfl] at h
 split at h
 ·unfold swappedStores;cases e <;> rfl
 ·cases h
theorem LS.mk' {s:RS} {x:Stmt} {t:TS} (h:PS X x t) (w:∀ D σ H δ S Y F,Rel G.toGd S H δ σ→a0k G s δ S Y F→b0A G.toGd S H F D→a3L G.toGd S H Y W→t D σ H):PS X x (LS G.toGd W (a0k G s)) :=
 PS.imp h fun D σ H q=>by
  obtain ⟨δ,S,Y,F,R,ht,rs,rw'⟩:=q
  exact w D σ H δ S Y F R ht rs rw'
theorem a2n {t e:Expr} (esc:X.env.scope=sc) (h:a5o sc t=true):swappedStores [t] e X.env=pure none:=by
 unfold a5o at h
 split at h
 ·rename_i y py z pz kt pt
  have few:([Expr.Name y py,.Name z pz].filterMap fun
   | .Name id pos=>if X.env.kindOf id == some .local && pos.line == (Expr.Name y py).pos.line then some id else none
   | _=>none).length≠2:=by
   have ky:X.env.kindOf y=sc.names.lookup y:=by rw [← esc];rfl
   have kz:X.env.kindOf z=sc.names.lookup z:=by rw [← esc];rfl
   simp only [List.filterMap_cons,List.filterMap_nil,ky,kz]
   rw [Bool.not_eq_true',Bool.and_eq_false_iff,decide_eq_false_iff_not,decide_eq_false_iff_not] at h
   rcases h with h | h
   ·have e:(sc.names.lookup y == some NameKind.local)=false:=by rw [beq_eq_false_iff_ne];exact h
    rw [e,Bool.false_and,if_neg zaz]
    dsimp only
    split <;> simp
   ·have e:(sc.names.lookup z == some NameKind.local)=false:=by rw [beq_eq_false_iff_ne];exact h
    rw [e,Bool.false_and,if_neg zaz]
    dsimp only
    split <;> simp
  unfold swappedStores
  cases e <;> first | rfl | skip
  dsimp only
  split
  ·rfl
  ·split
   ·rfl
   ·refine if_pos ?_
    rw [Bool.or_eq_true]
    left
    exact bne_iff_ne.mpr few
 ·rename_i y py z pz x px kt pt
  have few:([Expr.Name y py,.Name z pz,.Name x px].filterMap fun
   | .Name id pos=>if X.env.kindOf id == some .local && pos.line == (Expr.Name y py).pos.line then some id else none
   | _=>none).length≠3:=by
   have ky:X.env.kindOf y=sc.names.lookup y:=by rw [← esc];rfl
   have kz:X.env.kindOf z=sc.names.lookup z:=by rw [← esc];rfl
   have kx:X.env.kindOf x=sc.names.lookup x:=by rw [← esc];rfl
   simp only [List.filterMap_cons,List.filterMap_nil,ky,kz,kx]
   rw [Bool.not_eq_true',Bool.and_eq_false_iff,Bool.and_eq_false_iff,decide_eq_false_iff_not,decide_eq_false_iff_not,decide_eq_false_iff_not] at h
   rcases h with h | h | h
   ·have e:(sc.names.lookup y == some NameKind.local)=false:=by rw [beq_eq_false_iff_ne];exact h
    rw [e,Bool.false_and,if_neg zaz]
    dsimp only
    split <;> split <;> simp
   ·have e:(sc.names.lookup z == some NameKind.local)=false:=by rw [beq_eq_false_iff_ne];exact h
    rw [e,Bool.false_and,if_neg zaz]
    dsimp only
    split <;> split <;> simp
   ·have e:(sc.names.lookup x == some NameKind.local)=false:=by rw [beq_eq_false_iff_ne];exact h
    rw [e,Bool.false_and,if_neg zaz]
    dsimp only
    split <;> split <;> simp
  unfold swappedStores
  cases e <;> first | rfl | skip
  dsimp only
  split
  ·rfl
  ·split
   ·rfl
   ·refine if_pos ?_
    rw [Bool.or_eq_true]
    left
    exact bne_iff_ne.mpr few
 ·rename_i a1 a2 a3 a4 r kt pt
  unfold swappedStores
  cases e <;> first | rfl | skip
 ·cases h
theorem a2w {t:Expr} {one:Bool} {tg:List Nat} (h:a0D n sc tg one t=true):(assignEach [t] X.env).map (·.2)=[assign t X.env]:=by
 unfold a0D at h
 cases one with
 | true =>
  rw [if_pos rfl] at h
  split at h
  ·rfl
  ·cases h
 | false =>
  rw [if_neg zaz] at h
  split at h
  ·rfl
  ·cases h
theorem b2J {tg:List Nat} {one:Bool} {e:RE} {t v:Expr} (c:XS n X G W k sc) (h1:a5y sc t v=true) (h2:(one || ntup v || a5o sc t)=true) (h3:a0D n sc tg one t=true) (he:PE X v (LE G.toGd W (den G.toGm e))):PS X (.Assign [t] v pos) (LS G.toGd W (a0k G (.asg tg one e))):=by
 by_cases hm:one=false→G.m0=none
 ·have calm:one=false→X.calm=true:=fun h=>by
   have:=c.xc.md
   rw [hm h] at this
   exact this.2
  have hw:swappedStores [t] v X.env=pure none:=by
   cases one with
   | true=>exact a5z h3 rfl
   | false =>
    rw [Bool.false_or,Bool.or_eq_true] at h2
    rcases h2 with h2 | h2
    ·exact a2o h2
    ·exact a2n c.esc h2
  refine LS.mk' (ps_asg he (a6Z c.xc calm h3) (a4T c.esc h1) hw (a2w h3)) fun D σ H δ S Y F R ht rs rw'=>?_
  rw [a0k] at ht
  refine ⟨δ,S,Y,_,R,ht.2,fun d S1 v1 H1 kk P cc r=>?_,rw'⟩
  rw [← c.xc.ok.K]
  exact a4G (I:=fun _=>True) (fun _ _ _ _ _=>trivial) kk r (R.mono P cc) trivial fun δ' σ' q R' _=>rs.nx δ' S1 σ' H1 q P R'
 ·refine LS.mk' ps_never fun D σ H δ S Y F R ht rs rw'=>?_
  rw [a0k] at ht
  exact (hm ht.1).elim
theorem b2L {tg:List Nat} {e:RE} {t v:Expr} (c:XS n X G W k sc) (h1:a5y sc t v=true) (h2:(ntup v || a5o sc t)=true) (h3:a0D n sc tg false t=true) (he:PE X v (LE G.toGd W (den G.toGm e))):PS X (.Assign [t] v pos) (LS G.toGd W (a0k G (.asu tg e))):=by
 by_cases hm:G.m0=none
 ·have calm:X.calm=true:=by
   have:=c.xc.md
   rw [hm] at this
   exact this.2
  have hw:swappedStores [t] v X.env=pure none:=by
   rw [Bool.or_eq_true] at h2
   rcases h2 with h2 | h2
   ·exact a2o h2
   ·exact a2n c.esc h2
  refine LS.mk' (ps_asg he (b8Y c.xc calm h3) (a4T c.esc h1) hw (a2w h3)) fun D σ H δ S Y F R ht rs rw'=>?_
  rw [a0k] at ht
  refine ⟨δ,S,Y,_,R,ht.2,fun d S1 v1 H1 kk P cc r=>?_,rw'⟩
  obtain ⟨ds,e1,e2,nx⟩:=kk
  exact ⟨d,δ,S1,fun δ' S'=>F.nx δ' S'∧S'=S1,R.mono P cc,r,⟨ds,e1,e2,nx,rfl⟩,fun δ' S' σ' H' q P2 R'=>rs.nx δ' S' σ' H' q.1 (P.trans P2) R'⟩
 ·refine LS.mk' ps_never fun D σ H δ S Y F R ht rs rw'=>?_
  rw [a0k] at ht
  exact (hm ht.1).elim
theorem b2M {e:RE} {v:Expr} (h1:nlc v=true) (he:PE X v (LE G.toGd W (den G.toGm e))):PS X (.Expr v pos) (LS G.toGd W (a0k G (.exp e))) :=
 LS.mk' (ps_expr he (a8F h1)) fun D σ H δ S Y F R ht rs rw'=>by
  rw [a0k] at ht
  exact ⟨δ,S,Y,_,R,ht,fun d S1 v1 H1 kk P cc r=>rs.nx δ S1 σ H1 kk P (R.mono P cc),rw'⟩
theorem b2V {a b e:RE} {l r v:Expr} {p1:Pos} (c:XS n X G W k sc) (h2:a1r r=true) (ha:PE X l (LE G.toGd W (den G.toGm a))) (hb:PE X r (LE G.toGd W (den G.toGm b))) (he:PE X v (LE G.toGd W (den G.toGm e))) :
  PS X (.Assign [.Subscript l r p1] v pos) (LS G.toGd W (a0k G (.sti a b e))):=by
 have hst:swappedStores [.Subscript l r p1] v X.env=pure none:=by unfold swappedStores;cases v <;> rfl
 have haa:∀ v,assign (.Subscript l r p1) X.env v=(do
   let ov ← holding [v] (eval l X.env)
   let iv ← holding [v,ov] (eval r X.env)
   standAt p1
   holding [v,ov,iv] (setItem ov iv v)
   release [v,ov,iv] []):=by
  intro v
  cases r <;> first | rfl | cases h2
 refine LS.mk' (ps_asg he (pg_sub ha hb (a7e (g:=G.toGd) (by have:=c.xc.un;omega)) haa) (show swapsWith v (some (.Subscript l r p1)) pos.line X.env=pure false from by unfold swapsWith;cases v <;> rfl) hst rfl) fun D σ H δ S Y F R ht rs rw'=>?_
 rw [a0k] at ht
 refine ⟨δ,S,Y,_,R,ht,fun z S1 v1 H1 kk P cc r1=>?_,rw'⟩
 refine ⟨δ,S1,Y,_,R.mono P cc,kk,fun x S2 v2 H2 kk P2 cc2 r2=>?_,rw'.mono P⟩
 refine ⟨δ,S2,Y,_,(R.mono P cc).mono P2 cc2,kk,fun y S3 v3 H3 kk P3 cc3 r3=>?_,(rw'.mono P).mono P2⟩
 have P23:=P2.trans P3
 exact ⟨x,y,z,S3,_,cc3,r2.mono P3,r3,r1.mono P23,kk,fun S4 H4 q P4 cc4=>rs.nx δ S4 σ H4 q ((P.trans P23).trans P4) (R.mono ((P.trans P23).trans P4) cc4)⟩
theorem b2U {a e:RE} {l v:Expr} {f:Str} {p1:Pos} (c:XS n X G W k sc) (ha:PE X l (LE G.toGd W (den G.toGm a))) (he:PE X v (LE G.toGd W (den G.toGm e))) :
  PS X (.Assign [.Attribute l f p1] v pos) (LS G.toGd W (a0k G (.stf a f e))):=by
 refine LS.mk' (ps_fld ha he (by unfold swapsWith;cases v <;> rfl)) fun D σ H δ S Y F R ht rs rw'=>?_
 rw [a0k] at ht
 refine ⟨δ,S,Y,_,R,ht,fun z S1 v1 H1 kk P cc r1=>?_,rw'⟩
 refine ⟨δ,S1,Y,_,R.mono P cc,kk,fun x S2 v2 H2 kk P2 cc2 r2=>?_,rw'.mono P⟩
 obtain ⟨p,C,fs,rfl,e1,cl,na,hl,q⟩:=kk
 cases a0n r2
 obtain ⟨dx,ws,hi,hf⟩:=cc2 _ _ e1
 rw [c.xc.ok.K] at cl na
 have P3:a0a S2 H2 (S2.set p (.ins C (a3B f z fs))) (upd H2 p (.ins C dx (putF f v1 ws))):=a0a.write e1
 refine ⟨p,C,dx,ws,rfl,hi,cl,na,by rw [← b7S hf];exact hl,rs.nx δ _ σ _ q ((P.trans P2).trans P3) (R.mono ((P.trans P2).trans P3) (cc2.write e1 ⟨dx,_,upd_same,(a4Y (r1.mono P2) hf).mono P3⟩))⟩
theorem b2I {i:Nat} {op:Operator} {e:RE} {y:Str} {v:Expr} {p1:Pos} (c:XS n X G W k sc) (h1:nmB n.N i y=true) (h2:a5J sc y=true) (he:PE X v (LE G.toGd W (den G.toGm e))):PS X (.AugAssign (.Name y p1) op v pos) (LS G.toGd W (a0k G (.agv i op e))):=by
 refine LS.mk' (ps_aug c.xc.nd (c.xc.at h1) (c.xc.loc h2) he (a5U (g:=G.toGd) op) (c.xc.sto h2)) fun D σ H δ S Y F R ht rs rw'=>?_
 rw [a0k] at ht
 obtain ⟨x,ex,ht⟩:=ht
 obtain ⟨u,eu,ru⟩:=R.sl.at_ i x ex
 refine ⟨u,eu,δ,S,Y,_,R,ht,fun d S1 v1 H1 kk P cc r=>?_,rw'⟩
 exact ⟨x,d,S1,_,cc,ru.mono P,r,kk,fun z S2 v2 H2 q P2 cc2 r2=>rs.nx _ S2 _ H2 q (P.trans P2) ⟨(R.sl.mono (P.trans P2)).set r2,cc2⟩⟩
theorem b2H {a b e:RE} {op:Operator} {l r v:Expr} {p1:Pos} (c:XS n X G W k sc) (h2:a1r r=true) (ha:PE X l (LE G.toGd W (den G.toGm a))) (hb:PE X r (LE G.toGd W (den G.toGm b))) (he:PE X v (LE G.toGd W (den G.toGm e))) :
  PS X (.AugAssign (.Subscript l r p1) op v pos) (LS G.toGd W (a0k G (.agi a b op e))):=by
 have hau:∀ ov iv new,augStore r ov iv new=(do holding [new,ov,iv] (setItem ov iv new);release [new,ov,iv] [];pure .next):=by
  intro ov iv new
  cases r <;> first | rfl | cases h2
 have hu:X.A.units + 1 < cLine:=by have:=c.xc.un;omega
 refine LS.mk' (ps_augS ha hb (a9q (g:=G.toGd) hu) he (a5U (g:=G.toGd) op) (a7e (g:=G.toGd) hu) hau) fun D σ H δ S Y F R ht rs rw'=>?_
 rw [a0k] at ht
 refine ⟨δ,S,Y,_,R,ht,fun x S1 v1 H1 kk P cc r1=>?_,rw'⟩
 refine ⟨δ,S1,Y,_,R.mono P cc,kk,fun y S2 v2 H2 kk P2 cc2 r2=>?_,rw'.mono P⟩
 refine ⟨x,y,S2,_,cc2,r1.mono P2,r2,kk,fun u S3 v3 H3 kk P3 cc3 r3=>?_⟩
 have Q3:=(P.trans P2).trans P3
 refine ⟨δ,S3,Y,_,R.mono Q3 cc3,kk,fun w S4 v4 H4 kk P4 cc4 r4=>?_,rw'.mono Q3⟩
 refine ⟨u,w,S4,_,cc4,r3.mono P4,r4,kk,fun z S5 v5 H5 kk P5 cc5 r5=>?_⟩
 have P35:=(P3.trans P4).trans P5
 refine ⟨x,y,z,S5,_,cc5,r1.mono (P2.trans P35),r2.mono P35,r5,kk,fun S6 H6 q P6 cc6=>rs.nx δ S6 σ H6 q (((Q3.trans P4).trans P5).trans P6) (R.mono (((Q3.trans P4).trans P5).trans P6) cc6)⟩
theorem b2O {c0:RE} {a b:RSs} {t:Expr} {p q:List Stmt} (ht:PT X t (LT G.toGd W (a0j G.toGm c0))) (ha:PSs X p (LS G.toGd W (a0f G a))) (hb:PSs X q (LS G.toGd W (a0f G b))):PS X (.If t p q pos) (LS G.toGd W (a0k G (.ifs c0 a b))):=by
 refine LS.mk' (ps_if ht ha hb) fun D σ H δ S Y F R ht rs rw'=>?_
 rw [a0k] at ht
 refine ⟨δ,S,Y,_,R,ht,fun b S1 H1 kk P cc=>?_,rw'⟩
 cases b with
 | true=>exact ⟨δ,S1,Y,F,R.mono P cc,kk,rs.mono P,rw'.mono P⟩
 | false=>exact ⟨δ,S1,Y,F,R.mono P cc,kk,rs.mono P,rw'.mono P⟩
theorem b7j {c0:RE} {b:RSs} {t:Expr} {p:List Stmt} (c:XS n X G W k sc) (ht:PT X t (LT G.toGd W (a0j G.toGm c0))) (hb:PSs X p (LS G.toGd W (a0f G b))):PS X (.While t p [] pos) (LS G.toGd W (a0k G (.wh c0 b))):=by
 refine LS.mk' (ps_while c.xc.ps ht hb) fun D σ H δ S Y F R ht rs rw'=>?_
 rw [a0k] at ht
 obtain ⟨Iv,⟨m0,i0⟩,step⟩:=ht
 refine ⟨fun m σ' H'=>∃ δ' S',Iv m δ' S'∧a0a S H S' H'∧Rel G.toGd S' H' δ' σ',⟨m0,δ,S,i0,a0a.refl _ _,R⟩,?_⟩
 rintro m σ1 H1 ⟨δ1,S1,iv,P1,R1⟩
 refine ⟨δ1,S1,Y,_,R1,step m δ1 S1 iv,fun b S2 H2 kk P2 cc2=>?_,rw'.mono P1⟩
 have P12:=P1.trans P2
 cases b with
 | true =>
  refine ⟨fun σ' H'=>∃ m',m' < m∧∃ δ' S',Iv m' δ' S'∧a0a S H S' H'∧Rel G.toGd S' H' δ' σ',fun σ' H' q=>q,?_⟩
  have nx:∀ δ' S' σ' H',(∃ m',m' < m∧Iv m' δ' S')→a0a S2 H2 S' H'→Rel G.toGd S' H' δ' σ'→∃ m',m' < m∧∃ δ' S',Iv m' δ' S'∧a0a S H S' H'∧Rel G.toGd S' H' δ' σ':=fun δ' S' σ' H' ⟨m',hm,q⟩ P' R'=>⟨m',hm,δ',S',q,P12.trans P',R'⟩
  exact ⟨δ1,S2,Y,_,R1.mono P2 cc2,kk,⟨nx,rs.rt.mono P12,fun δ' S' σ' H' q P' R'=>rs.nx δ' S' σ' H' q (P12.trans P') R',nx⟩,rw'.mono P12⟩
 | false=>exact rs.nx δ1 S2 σ1 H2 kk P12 (R1.mono P2 cc2)
theorem b7i {tg:List Nat} {one:Bool} {it:RI} {b:RSs} {t i:Expr} {p:List Stmt} (c:XS n X G W k sc) (h1:a1f i=true) (h2:a0D n sc tg one t=true) (h3:(!it.two || !one)=true) (hI:b0G n sc it i) (hb:PSs X p (LS G.toGd W (a0f G b))):PS X (.For t i p [] pos) (LS G.toGd W (a0k G (.fr tg one it b))):=by
 by_cases hm:G.m0=none
 ·have md:a0N X none:=by have:=c.xc.md;rw [hm] at this;exact this
  have calm:X.calm=true:=md.2
  refine LS.mk' (ps_for c.xc.ps calm (hI X G.toGm W k t c.xc hm (a7n h2 h3)) (a6Z c.xc (fun _=>calm) h2) hb (fun x=>a1N h1 x)) fun D σ H δ S Y F R ht rs rw'=>?_
  rw [a0k] at ht
  refine ⟨δ,S,Y,_,R,ht.2,fun ds ok S1 H1 J hk P1 c1 io=>?_,rw'⟩
  obtain ⟨Iv,i0,hok,step,last⟩:=hk
  refine ⟨fun i m σ' H'=>m=ds.length - i∧i≤ds.length∧∃ δ' S',Iv i δ' S'∧a0a S1 H1 S' H'∧Rel G.toGd S' H' δ' σ',⟨_,rfl,Nat.zero_le _,δ,S1,i0,a0a.refl _ _,R.mono P1 c1⟩,?_⟩
  rintro i m σ' H' ⟨rfl,hi,δ',S',iv,P',R'⟩
  have ok':=hok i δ' S' iv hi
  by_cases hlt:i < ds.length
  ·refine .inr ⟨io.go i S' H' hlt P' R'.ce ok',fun σ2 H2=>i + 1≤ds.length∧∃ δ' S',Iv (i + 1) δ' S'∧a0a S1 H1 S' H2∧Rel G.toGd S' H2 δ' σ2,fun σ2 H2 q=>⟨_,by omega,rfl,q⟩,fun x H2 y=>?_⟩
   obtain ⟨P2,c2,r2⟩:=io.yl i S' H' x H2 ds[i] (by simp) P' R'.ce ok' y
   have hstep:=step i ds[i] δ' S' (by simp) iv
   rw [← c.xc.ok.K]
   refine a4G (I:=fun _=>True) (fun _ _ _ _ _=>trivial) hstep r2 (R'.mono P2 c2) trivial fun δ3 σ3 hq R3 _=>?_
   have P12:=P'.trans P2
   have nx:∀ δ4 S4 σ4 H4,Iv (i + 1) δ4 S4→a0a S' H2 S4 H4→Rel G.toGd S4 H4 δ4 σ4→i + 1≤ds.length∧∃ δ' S',Iv (i + 1) δ' S'∧a0a S1 H1 S' H4∧Rel G.toGd S' H4 δ' σ4:=fun δ4 S4 σ4 H4 q P4 R4=>⟨hlt,δ4,S4,q,P12.trans P4,R4⟩
   exact ⟨δ3,S',Y,_,R3,hq,⟨nx,(rs.rt.mono P1).mono P12,fun δ4 S4 σ4 H4 q P4 R4=>rs.nx δ4 S4 σ4 H4 q (P1.trans (P12.trans P4)) R4,nx⟩,(rw'.mono P1).mono P12⟩
  ·have e:i=ds.length:=by omega
   subst e
   exact .inl ⟨io.st _ S' H' (Nat.le_refl _) P' R'.ce ok',rs.nx δ' S' σ' H' (last δ' S' iv) (P1.trans P') R'⟩
 ·refine LS.mk' ps_never fun D σ H δ S Y F R ht rs rw'=>?_
  rw [a0k] at ht
  exact (hm ht.1).elim
theorem b2n {j:Nat} {tg:List Nat} {y:Str} {p1 p2:Pos} {kk:Nat} {t2:Expr} (c:XC n X G.toGm W k sc) (calm:X.calm=true) (h2:nmB n.N j y=true) (h3:a5J sc y=true) (h4:a0D n sc tg false t2=true):PG X (.Tuple [.Name y p1,t2] kk p2) (gTup X.K 2 (gCons (gName j) (gCons (gTg X.K tg false) gNil))):=by
 have ht:∃ xs kk p,t2=.Tuple xs kk p:=by
  unfold a0D at h4
  rw [if_neg zaz] at h4
  split at h4
  ·exact ⟨_,_,_,rfl⟩
  ·cases h4
 have hp:=a6Z c (fun _=>calm) h4
 obtain ⟨xs,k3,p3,rfl⟩:=ht
 exact pg_tup calm (pgs_cons (pg_name c.nd (c.at h2) (c.loc h3) (c.sto h3)) (pgs_cons hp pgs_nil))
theorem b1E {g:Gd} {S:SS} {H:Hp} {j:Nat} {tg:List Nat} {d:D} {v:V} {δ:DS} {σ:L2.St} {K:DS→SS→Prop} {Q:L2.St→Hp→Prop} (hd:b04 j tg d δ S K) (r:Rep g S H d v) (R:Rel g S H δ σ)
  (h:∀ δ' σ',K δ' S→Rel g S H δ' σ'→Q σ' H):gTup g.K 2 (gCons (gName j) (gCons (gTg g.K tg false) gNil)) v σ H Q:=by
 obtain ⟨x,y,ds,e,e2,l,hk⟩:=hd
 obtain ⟨p,vs,rfl,hl,hr⟩:=a0s r e
 simp only [a0c] at hr
 obtain ⟨v1,q1,rfl,a1,v2,q2,rfl,a2,rfl⟩:=hr
 refine ⟨p,_,rfl,hl,rfl,v1,_,rfl,v2,_,rfl,?_⟩
 refine a4G (I:=fun _=>True) (fun _ _ _ _ _=>trivial) (δ:=δ.set j (some x)) (K:=K) ?_ a2 ⟨R.sl.set a1,R.ce⟩ trivial fun δ' σ' hk R' _=>⟨rfl,h δ' σ' hk R'⟩
 unfold a1d
 rw [if_neg zaz]
 exact ⟨ds,e2,l,hk⟩
theorem b2N {j:Nat} {tg:List Nat} {it:RI} {b:RSs} {y:Str} {p1 p2:Pos} {kk:Nat} {t2 i:Expr} {p:List Stmt} (c:XS n X G W k sc) (h1:a1f i=true) (h2:nmB n.N j y=true) (h3:a5J sc y=true) (h4:a0D n sc tg false t2=true) (hI:b0G n sc it i) (hb:PSs X p (LS G.toGd W (a0f G b))):PS X (.For (.Tuple [.Name y p1,t2] kk p2) i p [] pos) (LS G.toGd W (a0k G (.frn j tg it b))):=by
 by_cases hm:G.m0=none
 ·have md:a0N X none:=by have:=c.xc.md;rw [hm] at this;exact this
  have calm:X.calm=true:=md.2
  refine LS.mk' (ps_for c.xc.ps calm (hI X G.toGm W k (.Tuple [.Name y p1,t2] kk p2) c.xc hm (fun _=>⟨_,_,_,rfl⟩)) (b2n c.xc calm h2 h3 h4) hb (fun x=>a1N h1 x)) fun D σ H δ S Y F R ht rs rw'=>?_
  rw [a0k] at ht
  refine ⟨δ,S,Y,_,R,ht.2,fun ds ok S1 H1 J hk P1 c1 io=>?_,rw'⟩
  obtain ⟨Iv,i0,hok,step,last⟩:=hk
  refine ⟨fun i m σ' H'=>m=ds.length - i∧i≤ds.length∧∃ δ' S',Iv i δ' S'∧a0a S1 H1 S' H'∧Rel G.toGd S' H' δ' σ',⟨_,rfl,Nat.zero_le _,δ,S1,i0,a0a.refl _ _,R.mono P1 c1⟩,?_⟩
  rintro i m σ' H' ⟨rfl,hi,δ',S',iv,P',R'⟩
  have ok':=hok i δ' S' iv hi
  by_cases hlt:i < ds.length
  ·refine .inr ⟨io.go i S' H' hlt P' R'.ce ok',fun σ2 H2=>i + 1≤ds.length∧∃ δ' S',Iv (i + 1) δ' S'∧a0a S1 H1 S' H2∧Rel G.toGd S' H2 δ' σ2,fun σ2 H2 q=>⟨_,by omega,rfl,q⟩,fun x H2 y=>?_⟩
   obtain ⟨P2,c2,r2⟩:=io.yl i S' H' x H2 ds[i] (by simp) P' R'.ce ok' y
   have hstep:=step i ds[i] δ' S' (by simp) iv
   rw [← c.xc.ok.K]
   refine b1E hstep r2 (R'.mono P2 c2) fun δ3 σ3 hq R3=>?_
   have P12:=P'.trans P2
   have nx:∀ δ4 S4 σ4 H4,Iv (i + 1) δ4 S4→a0a S' H2 S4 H4→Rel G.toGd S4 H4 δ4 σ4→i + 1≤ds.length∧∃ δ' S',Iv (i + 1) δ' S'∧a0a S1 H1 S' H4∧Rel G.toGd S' H4 δ' σ4:=fun δ4 S4 σ4 H4 q P4 R4=>⟨hlt,δ4,S4,q,P12.trans P4,R4⟩
   exact ⟨δ3,S',Y,_,R3,hq,⟨nx,(rs.rt.mono P1).mono P12,fun δ4 S4 σ4 H4 q P4 R4=>rs.nx δ4 S4 σ4 H4 q (P1.trans (P12.trans P4)) R4,nx⟩,(rw'.mono P1).mono P12⟩
  ·have e:i=ds.length:=by omega
   subst e
   exact .inl ⟨io.st _ S' H' (Nat.le_refl _) P' R'.ce ok',rs.nx δ' S' σ' H' (last δ' S' iv) (P1.trans P') R'⟩
 ·refine LS.mk' ps_never fun D σ H δ S Y F R ht rs rw'=>?_
  rw [a0k] at ht
  exact (hm ht.1).elim
theorem b2T {e:RE} {v:Expr} (he:PE X v (LE G.toGd W (den G.toGm e))):PS X (.Return (some v) pos) (LS G.toGd W (a0k G (.ret e))) :=
 LS.mk' (ps_ret he) fun D σ H δ S Y F R ht rs rw'=>by
  rw [a0k] at ht
  exact ⟨δ,S,Y,_,R,ht,rs.rt,rw'⟩
theorem b2S {j:Nat} {es:RL} {y:Str} {xs:List Expr} {p1 p2:Pos} (c:XS n X G W k sc) (h1:nmB n.cls j y=true) (h2:glB sc y=true) (hL:a5I n sc es xs):PS X (.Raise (some (.Call (.Name y p1) xs [] p2)) none pos) (LS G.toGd W (a0k G (.rai j es))):=by
 by_cases hm:G.m0=none
 ·have md:a0N X none:=by have:=c.xc.md;rw [hm] at this;exact this
  have calm:X.calm=true:=md.2
  cases hx:G.xk j with
  | none =>
   refine LS.mk' ps_never fun D σ H δ S Y F R ht rs rw'=>?_
   rw [a0k] at ht
   obtain ⟨_,kd,e,_⟩:=ht
   rw [hx] at e;cases e
  | some kd =>
   have M:=c.xm j y kd hx (a0r h1).1
   have hcl:=c.xc.ok.cl j y (a0r h1).1
   have hs:=hL.st
   have ha:=hL.a X G.toGm W k c.xc
   have ar:∀ {δ S Y F},a0k G (.rai j es) δ S Y F→es.len=kd.ar:=fun {δ S Y F} q=>by
    rw [a0k] at q
    obtain ⟨_,kd',e,q,_⟩:=q
    rw [hx] at e;cases e
    exact q
   have un:∀ {δ S Y F},a0k G (.rai j es) δ S Y F→a0l G.toGm es δ S Y fun ds S1=>∃ fs,mkX kd ds=some fs∧Y (G.cl j) fs δ S1:=fun {δ S Y F} q=>by
    rw [a0k] at q
    obtain ⟨_,kd',e,_,q⟩:=q
    rw [hx] at e;cases e
    exact q
   cases M with
   | @fld f fI fd ps kI T iC tI Fn b hk =>
    cases xs with
    | nil =>
     refine LS.mk' ps_never fun D σ H δ S Y F R ht rs rw'=>?_
     have q:=un ht
     rw [hL.nl rfl,a0l] at q
     obtain ⟨fs,e,_⟩:=q
     cases e
    | cons z zs =>
     rw [List.all_cons,zak] at hs
     refine LS.mk' (L2N.ps_raise calm c.xc.tk (a93 T iC tI Fn ⟨by have:=c.xc.rm.dp;omega,by have:=c.xc.rm.un;omega⟩ md b (c.xc.gl h2) hcl ha (a0r h1).2.1 (a0b hs.1) (a0C hs.2))) fun D σ H δ S Y F R ht rs rw'=>?_
     refine ⟨δ,S,Y,_,R,un ht,fun ds S1 vs H1 kk P cc r=>?_,rw'⟩
     obtain ⟨fs,e,q⟩:=kk
     match ds,e,r with
     | [d],e,r =>
      cases e
      obtain ⟨v,rfl,rv⟩:=a2W r
      refine ⟨v,rfl,fun dx hd=>?_⟩
      have P2:a0a S1 H1 S1 (upd H1 dx (.xd [(f,v)])):=a0a.new hd
      refine rw' _ _ _ _ _ _ _ q (P.trans P2) (R.mono (P.trans P2) (cc.new hd)) (.inr ⟨dx,_,rfl,cc.free hd,upd_same,?_⟩)
      simp only [a1c]
      exact ⟨v,[],rfl,rv.mono P2,rfl⟩
   | bare Fb q0 kC e1 e2 =>
    cases xs with
    | nil =>
     refine LS.mk' (L2N.ps_raise calm c.xc.tk (a8c Fb q0 kC (raises_own e1 e2) (c.xc.gl h2) hcl (a0r h1).2.1)) fun D σ H δ S Y F R ht rs rw'=>?_
     have q:=un ht
     rw [hL.nl rfl,a0l] at q
     obtain ⟨fs,e,q⟩:=q
     cases e
     exact rw' _ _ _ _ _ _ _ q (a0a.refl _ _) R (.inl ⟨rfl,rfl⟩)
    | cons z zs =>
     refine LS.mk' (ps_never) fun D σ H δ S Y F R ht rs rw'=>?_
     have e1:=ar ht
     have e2:=hL.ne
     rw [e1] at e2
     cases e2
 ·refine LS.mk' ps_never fun D σ H δ S Y F R ht rs rw'=>?_
  rw [a0k] at ht
  exact (hm ht.1).elim
theorem b2K {i:Nat} {cell:Bool} {elt:RE} {cnd:RO} {tg:List Nat} {one:Bool} {it:RI} {own:List (Str × Nat)} {xe xt xi:Expr} {ifs:List Expr} {scope:Scope} {y:Str} {py p:Pos} (c:XS n X G W k sc) (h0:nmB n.N i y=true) (hl:sc.names.lookup y=some .local)
  (hp:(py.line == p.line)=true) (hna:(scope.names.any fun (m,k)=>m == y && (k == .local || k == .cell))=false) (hb:blkC n.N sc scope own=true) (hsd:a1f xi=true) (hI:b0G n sc it xi)
  (htg:(tg.all fun i=>decide (i∈own.map (·.2)))=true) (hct:a0D n scope tg one xt=true) (h7:(!it.two || !one)=true) (hcnd:∀ X G W k,XC n X G W k scope→PTs X ifs (LT G.toGd W (a3N G cnd))) (he:∀ X G W k,XC n X G W k scope→PE X xe (LE G.toGd W (den G elt))) :
  PS X (.Assign [.Name y py] (.ListComp xe [⟨xt,xi,ifs,0⟩] scope p) pos) (LS G.toGd W (a0k G (.asl i (.lc cell elt tg one it cnd own)))):=by
 by_cases hm:G.m0=none
 ·have md:a0N X none:=by have:=c.xc.md;rw [hm] at this;exact this
  have calm:X.calm=true:=md.2
  have hyl:X.env.scope.names.lookup y=some .local:=by rw [c.esc];exact hl
  have bo:BlkOk X.N X.env.scope scope own:=by
   have h:=blkOk_by hb
   exact ⟨h.kind,h.uniq,fun p hp=>c.xc.N ▸ h.ix p hp,fun y hy e=>c.xc.sc.fr _ (h.free y hy e),fun y hy e=>c.xc.N ▸ h.own y hy e⟩
  have kf:X.env.scope.kind=.function∨True:=.inr trivial
  refine ⟨fun pins s σ H D I hh=>?_⟩
  have kfun:=I.ok.kind
  refine (LS.mk' (ps_setLc (wi:=LI G.toGd W (a0y G.toGm it)) (g:=gTg X.K tg one) (tt:=LT G.toGd noW (a3N G.toGm cnd)) (te:=LE G.toGd noW (den G.toGm elt)) calm c.xc.nd (c.xc.at h0) hyl (sw_true kfun hyl hp hna) (hI X G.toGm W k xt c.xc hm (a7n hct h7)) bo (fun s H C cl fp=>a6Z (c.xc.blk hm) (fun _=>calm) hct) (fun s H C cl fp=>hcnd _ G.toGm noW k (c.xc.blk hm)) (fun s H C cl fp=>he _ G.toGm noW k (c.xc.blk hm)) (fun x=>a1N hsd x)) fun D σ H δ S Y F R ht rs rw'=>?_).run pins s σ H D I hh
  rw [a0k] at ht
  have h:LE G.toGd W (den G.toGm (.lc cell elt tg one it cnd own)) σ H (fun v H1=>D.nx (σ.set i (some v)) H1):=⟨δ,S,Y,_,R,ht,fun d S1 v H1 q P cc r=>rs.nx _ S1 _ H1 q P ⟨(R.sl.mono P).set r,cc⟩,rw'⟩
  exact b1S c.xc.ok.K htg h
 ·refine LS.mk' ps_never fun D σ H δ S Y F R ht rs rw'=>?_
  rw [a0k,den] at ht
  exact (hm ht.1).elim
theorem b2W {b s:RSs} {j i:Nat} {y m:Str} {p1 p2:Pos} {p qs:List Stmt} {q:Stmt} (c:XS n X G W k sc) (h1:nmB n.cls j y=true) (h2:glB sc y=true) (h3:nmB n.N i m=true) (hl:sc.names.lookup m=some .local) (hb:a5P n sc b p) (hs:a5P n sc s (q :: qs)) :
  PS X (.Try p [.ExceptHandler (some (.Name y p1)) (some m) (q :: qs) p2] [] [] pos) (LS G.toGd W (a0k G (.tra b j i s))):=by
 by_cases hm:G.m0=none
 ·have hcl:=c.xc.ok.cl j y (a0r h1).1
  have hln:X.env.kindOf m=some .local:=by show X.env.scope.names.lookup m=_;rw [c.esc];exact hl
  refine LS.mk' (L2N.ps_try_as (tb:=fun W'=>LS G.toGd W' (a0f G b)) (ts:=fun a cls d=>fun D σ H=>∀ oe,L2N.Zn cls d oe→(∃ vs,oe.data=.fields vs)→LS G.toGd noW (a0f (G.suite a oe) s) D σ H) c.stk c.fr c.xc.nd (c.xc.at h3) hln ⟨c.xc.gl h2,(a0r h1).2.1,.inl hcl⟩ c.xc.tk
   (fun W' pn xe tk ps=>hb _ G W' k (c.tr hm tk ps))
   (fun a oe cls d pn hz hf=>PSs.imp (hs _ (G.suite a oe) noW k (c.suite hz hf)) fun D σ H q=>q oe hz hf)) fun D σ H δ S Y F R ht rs rw'=>?_
  rw [a0k] at ht
  refine ⟨δ,S,_,F,R,ht.2,rs,fun C fs δ' S' d σ' H' hy P R' hx=>?_⟩
  obtain ⟨kb,e1,e2,e3⟩:=hy
  refine ⟨kb,by rw [← c.xc.ok.K];exact e1,fun hk a na oe hz hf=>?_,fun hk=>rw' C fs δ' S' d σ' H' (e3 hk) P R' hx⟩
  have R2:Rel G.toGd S' H' (δ'.set i (some (.exc a oe C fs))) (σ'.set i (some (.ref a))):=⟨R'.sl.set (by
   simp only [Rep]
   exact ⟨d,trivial,⟨hz.zc,hf⟩,hx⟩),R'.ce⟩
  refine ⟨_,S',noX,_,R2,e2 hk a oe,?_,fun _ _ _ _ _ _ _ z=>z.elim⟩
  exact ⟨fun δ2 S2 σ2 H2 q P2 R3=>rs.nx _ S2 _ H2 q (P.trans P2) ⟨R3.sl.setN,R3.ce⟩,rs.rt.mono P,fun δ2 S2 σ2 H2 q P2 R3=>rs.bk _ S2 _ H2 q (P.trans P2) ⟨R3.sl.setN,R3.ce⟩,fun δ2 S2 σ2 H2 q P2 R3=>rs.ct _ S2 _ H2 q (P.trans P2) ⟨R3.sl.setN,R3.ce⟩⟩
 ·refine LS.mk' ps_never fun D σ H δ S Y F R ht rs rw'=>?_
  rw [a0k] at ht
  exact (hm ht.1).elim
theorem b2Y {b s:RSs} {j:Nat} {y:Str} {p1 p2:Pos} {p qs:List Stmt} {q:Stmt} (c:XS n X G W k sc) (h1:nmB n.cls j y=true) (h2:glB sc y=true) (hb:a5P n sc b p) (hs:a5P n sc s (q :: qs)) :
  PS X (.Try p [.ExceptHandler (some (.Name y p1)) none (q :: qs) p2] [] [] pos) (LS G.toGd W (a0k G (.tro b j s))):=by
 by_cases hm:G.m0=none
 ·have hcl:=c.xc.ok.cl j y (a0r h1).1
  refine LS.mk' (L2N.ps_try_many (tb:=fun W'=>LS G.toGd W' (a0f G b)) (l:=[(.ref (G.cl j),fun a cls d=>fun D σ H=>∀ oe,L2N.Zn cls d oe→(∃ vs,oe.data=.fields vs)→LS G.toGd noW (a0f (G.suite a oe) s) D σ H)]) c.stk c.fr c.xc.tk
   (fun W' pn xe tk ps=>hb _ G W' k (c.tr hm tk ps))
   (.cons ⟨c.xc.gl h2,(a0r h1).2.1,.inl hcl⟩ (fun a oe cls d pn hz hf=>PSs.imp (hs _ (G.suite a oe) noW k (c.suite hz hf)) fun D σ H q=>q oe hz hf) .nil)) fun D σ H δ S Y F R ht rs rw'=>?_
  rw [a0k] at ht
  refine ⟨δ,S,_,F,R,ht.2,rs,fun C fs δ' S' d σ' H' hy P R' hx=>?_⟩
  obtain ⟨kb,e1,e2,e3⟩:=hy
  refine ⟨kb,by rw [← c.xc.ok.K];exact e1,fun hk a na oe hz hf=>?_,fun hk=>rw' C fs δ' S' d σ' H' (e3 hk) P R' hx⟩
  refine ⟨δ',S',noX,F,R',e2 hk a oe,?_,fun _ _ _ _ _ _ _ z=>z.elim⟩
  exact ⟨fun δ2 S2 σ2 H2 q P2 R3=>rs.nx _ S2 _ H2 q (P.trans P2) R3,rs.rt.mono P,fun δ2 S2 σ2 H2 q P2 R3=>rs.bk _ S2 _ H2 q (P.trans P2) R3,fun δ2 S2 σ2 H2 q P2 R3=>rs.ct _ S2 _ H2 q (P.trans P2) R3⟩
 ·refine LS.mk' ps_never fun D σ H δ S Y F R ht rs rw'=>?_
  rw [a0k] at ht
  exact (hm ht.1).elim
theorem a4x {a b:Expr} (sa:a0m a=true) (sb:a0m b=true):([a,b].any fun | .Starred ..=>true | _=>false)=false:=by
 cases a <;> first | exact absurd sa zaz | (cases b <;> first | exact absurd sb zaz | rfl)
theorem a5G {y z:Str} {a b:Expr} {py pz pt p2:Pos} {kt k2:Nat} (kind:X.env.blockKind=.function) (ky:X.env.kindOf y=some .local) (kz:X.env.kindOf z=some .local) (same:(py.line == pz.line)=true) (apart:(y == z)=false) (sa:a0m a=true) (sb:a0m b=true)
  (f1:([a,b].all (foldedForSure 8))=false) (f2:([a,b].all (constantsAlone 8))=false):swappedStores [.Tuple [.Name y py,.Name z pz] kt pt] (.Tuple [a,b] k2 p2) X.env=pure (some [y,z]):=by
 have line:(pz.line == py.line)=true:=by rw [beq_iff_eq] at same ⊢;exact same.symm
 have dup:[y,z].eraseDups=[y,z]:=by
  rw [List.eraseDups_cons,List.filter_cons]
  have e:(z == y)=false:=by
   rw [beq_eq_false_iff_ne] at apart ⊢
   exact fun h=>apart h.symm
  simp [e,List.eraseDups_cons]
 unfold swappedStores
 simp only [zaw,List.length_nil,kind,f1,f2,List.head?_cons,Option.map_some,Option.getD_some,Expr.pos,List.filterMap_cons,List.filterMap_nil,ky,kz,line,beq_self_eq_true,Bool.and_self,if_true,dup]
 refine (if_neg (by decide)).trans ((if_neg fun h=>zaz ((a4x sa sb).symm.trans h)).trans ?_)
 rfl
theorem b2R {i j:Nat} {es:RL} {y z:Str} {a b:Expr} {py pz pt p2:Pos} {kt k2:Nat} (c:XS n X G W k sc) (h1:nmB n.N i y=true) (h2:nmB n.N j z=true) (hij:i≠j) (hy:sc.names.lookup y=some .local) (hz:sc.names.lookup z=some .local) (same:(py.line == pz.line)=true) (apart:(y == z)=false) (sa:a0m a=true) (sb:a0m b=true)
  (f1:([a,b].all (foldedForSure 8))=false) (f2:([a,b].all (constantsAlone 8))=false) (hL:a5I n sc es [a,b]):PS X (.Assign [.Tuple [.Name y py,.Name z pz] kt pt] (.Tuple [a,b] k2 p2) pos) (LS G.toGd W (a0k G (.par i j es))):=by
 by_cases hm:G.m0=none
 ·have md:a0N X none:=by have:=c.xc.md;rw [hm] at this;exact this
  have ly:X.env.scope.names.lookup y=some .local:=by rw [c.esc];exact hy
  have lz:X.env.scope.names.lookup z=some .local:=by rw [c.esc];exact hz
  refine ⟨fun pins s σ H D I hh=>?_⟩
  have kind:X.env.blockKind=.function:=by unfold Env.blockKind;rw [I.ok.kind];rfl
  refine (LS.mk' (ps_par (pos:=pos) md.2 c.xc.nd (c.xc.at h1) (c.xc.at h2) hij ly lz (hL.a X G.toGm W k c.xc) (a5G kind ly lz same apart sa sb f1 f2) (by rfl)) fun D σ H δ S Y F R ht rs rw'=>?_).run pins s σ H D I hh
  rw [a0k] at ht
  refine ⟨δ,S,Y,_,R,ht.2,fun ds S1 vs H1 kk P cc r=>?_,rw'⟩
  obtain ⟨v,w,rfl,q⟩:=kk
  obtain ⟨a1,b1,rfl,r1,r2⟩:=a0G r
  exact ⟨a1,b1,rfl,rs.nx _ S1 _ H1 q P ⟨((R.sl.mono P).set r1).set r2,cc⟩⟩
 ·refine LS.mk' ps_never fun D σ H δ S Y F R ht rs rw'=>?_
  rw [a0k] at ht
  exact (hm ht.1).elim
theorem a5S {a b c:Expr} (sa:a0m a=true) (sb:a0m b=true) (sc:a0m c=true):([a,b,c].any fun | .Starred ..=>true | _=>false)=false:=by
 cases a <;> first | exact absurd sa zaz | exact a4x sb sc
theorem a5C {d e f:D} {vs:List V} (r:a0c g S H [d,e,f] vs):∃ u v w,vs=[u,v,w]∧Rep g S H d u∧Rep g S H e v∧Rep g S H f w:=by
 simp only [a0c] at r
 obtain ⟨v,q,rfl,a,u,q2,rfl,b,w,q3,rfl,c,rfl⟩:=r
 exact ⟨v,u,w,rfl,a,b,c⟩
theorem a3H {x y z:Str} {a b c:Expr} {px py pz pt p2:Pos} {kt k2:Nat} (kind:X.env.blockKind=.function) (kx:X.env.kindOf x=some .local) (ky:X.env.kindOf y=some .local) (kz:X.env.kindOf z=some .local) (same:(px.line == py.line)=true) (same2:(px.line == pz.line)=true) (dup:[x,y,z].eraseDups=[x,y,z]) (sa:a0m a=true) (sb:a0m b=true) (sc:a0m c=true)
  (f1:([a,b,c].all (foldedForSure 8))=false) (f2:([a,b,c].all (constantsAlone 8))=false):swappedStores [.Tuple [.Name x px,.Name y py,.Name z pz] kt pt] (.Tuple [a,b,c] k2 p2) X.env=pure (some [x,y,z]):=by
 have line:(py.line == px.line)=true:=by rw [beq_iff_eq] at same ⊢;exact same.symm
 have line2:(pz.line == px.line)=true:=by rw [beq_iff_eq] at same2 ⊢;exact same2.symm
 unfold swappedStores
 simp only [zaw,List.length_nil,kind,f1,f2,List.head?_cons,Option.map_some,Option.getD_some,Expr.pos,List.filterMap_cons,List.filterMap_nil,kx,ky,kz,line,line2,beq_self_eq_true,Bool.and_self,if_true,dup]
 refine (if_neg (by decide)).trans ((if_neg fun h=>zaz ((a5S sa sb sc).symm.trans h)).trans ?_)
 rfl
theorem b2X {i j l:Nat} {es:RL} {x y z:Str} {a b d:Expr} {px py pz pt p2:Pos} {kt k2:Nat} (c:XS n X G W k sc) (h1:nmB n.N i x=true) (h2:nmB n.N j y=true) (h3:nmB n.N l z=true) (hij:i≠j) (hil:i≠l) (hjl:j≠l) (hx:sc.names.lookup x=some .local) (hy:sc.names.lookup y=some .local) (hz:sc.names.lookup z=some .local) (same:(px.line == py.line)=true) (same2:(px.line == pz.line)=true) (dup:[x,y,z].eraseDups=[x,y,z]) (sa:a0m a=true) (sb:a0m b=true) (sd:a0m d=true)
  (f1:([a,b,d].all (foldedForSure 8))=false) (f2:([a,b,d].all (constantsAlone 8))=false) (hL:a5I n sc es [a,b,d]):PS X (.Assign [.Tuple [.Name x px,.Name y py,.Name z pz] kt pt] (.Tuple [a,b,d] k2 p2) pos) (LS G.toGd W (a0k G (.tri i j l es))):=by
 by_cases hm:G.m0=none
 ·have md:a0N X none:=by have:=c.xc.md;rw [hm] at this;exact this
  have lx:X.env.scope.names.lookup x=some .local:=by rw [c.esc];exact hx
  have ly:X.env.scope.names.lookup y=some .local:=by rw [c.esc];exact hy
  have lz:X.env.scope.names.lookup z=some .local:=by rw [c.esc];exact hz
  refine ⟨fun pins s σ H D I hh=>?_⟩
  have kind:X.env.blockKind=.function:=by unfold Env.blockKind;rw [I.ok.kind];rfl
  refine (LS.mk' (ps_par3 (pos:=pos) md.2 c.xc.nd (c.xc.at h1) (c.xc.at h2) (c.xc.at h3) hij hil hjl lx ly lz (hL.a X G.toGm W k c.xc) (a3H kind lx ly lz same same2 dup sa sb sd f1 f2) (by rfl)) fun D σ H δ S Y F R ht rs rw'=>?_).run pins s σ H D I hh
  rw [a0k] at ht
  refine ⟨δ,S,Y,_,R,ht.2,fun ds S1 vs H1 kk P cc r=>?_,rw'⟩
  obtain ⟨u,v,w,rfl,q⟩:=kk
  obtain ⟨a1,b1,c1,rfl,r1,r2,r3⟩:=a5C r
  exact ⟨a1,b1,c1,rfl,rs.nx _ S1 _ H1 q P ⟨(((R.sl.mono P).set r1).set r2).set r3,cc⟩⟩
 ·refine LS.mk' ps_never fun D σ H δ S Y F R ht rs rw'=>?_
  rw [a0k] at ht
  exact (hm ht.1).elim
theorem b2P {s:RS} {x:Stmt} (h:PS X x (LS G.toGd W (a0k G s))):PS X x (LS G.toGd W (a0k G (.lck s))) :=
 LS.mk' (ps_lock h) fun D σ H δ S Y F R ht rs rw'=>by
  rw [a0k] at ht
  obtain ⟨d,kvs,at_d,ht⟩:=ht
  obtain ⟨ws,here,all⟩:=R.ce d _ at_d
  refine ⟨d,_,here,trivial,fun od=>?_⟩
  have P:a0a S H (S.set d (.loc kvs)) (upd H d (.frz od (.dK ws))):=a0a.write at_d
  have back:∀ {δ':DS} {S' σ' H'},a0a (S.set d (.loc kvs)) (upd H d (.frz od (.dK ws))) S' H'→Rel G.toGd S' H' δ' σ'→Rel G.toGd (S'.set d (.dic kvs)) (upd H' d (.dK ws)) δ' σ':=fun {δ' S' σ' H'} P' R' =>
   ⟨⟨R'.sl.len,fun i x e=>have ⟨v,e1,r⟩:=R'.sl.at_ i x e;⟨v,e1,r.monoW (.write (PostW.unlock at_d P').1)⟩⟩,CellsOk.unlock at_d all P' R'.ce⟩
  have go:∀ {δ':DS} {S' σ' H'} {K:DS→SS→Prop} {q:L2.St→Hp→Prop},(∀ δ' S' σ' H',K δ' S'→a0a S H S' H'→Rel G.toGd S' H' δ' σ'→q σ' H')→K δ' (S'.set d (.dic kvs))→a0a (S.set d (.loc kvs)) (upd H d (.frz od (.dK ws))) S' H'→Rel G.toGd S' H' δ' σ' →
    H' d=some (.frz od (.dK ws))∧q σ' (upd H' d (.dK ws)):=fun {δ' S' σ' H' K q} w kk P' R'=>⟨(PostW.unlock at_d P').2,w δ' _ σ' _ kk (a0a.unlock at_d P') (back P' R')⟩
  refine ⟨δ,_,Y,F.unlock d kvs,R.mono P (R.ce.lock at_d here all),ht,⟨fun δ' S' σ' H' kk P' R'=>go rs.nx kk P' R',fun x S' v H' kk P' c' r'=>⟨(PostW.unlock at_d P').2,?_⟩,fun δ' S' σ' H' kk P' R'=>go rs.bk kk P' R',fun δ' S' σ' H' kk P' R'=>go rs.ct kk P' R'⟩,rw'.mono P⟩
  exact rs.rt x _ v _ kk (a0a.unlock at_d P') (CellsOk.unlock at_d all P' c') (r'.monoW (.write (PostW.unlock at_d P').1))
end
end Sv
namespace Sv
open PySem PySem.Spec PyProof.Rows L2
open L2H (RoomH)
variable {n:SN}
mutual
theorem sS:∀ (s:RS) (sc:Scope) (x:Stmt),a1y n sc s x=true→b8m n sc s x
 | .exp e,sc,x,h=>by
  unfold a1y at h
  split at h
  ·rw [zak] at h
   exact fun X G W k c=>b2M h.1 ((sE e sc _ h.2).v X G.toGm W k c.xc)
  ·cases h
 | .asg tg one e,sc,x,h=>by
  unfold a1y at h
  split at h
  ·simp only [zak] at h
   obtain ⟨⟨h1,h2⟩,h3,h4⟩:=h
   exact fun X G W k c=>b2J c h1 h2 h3 ((sE e sc _ h4).v X G.toGm W k c.xc)
  ·cases h
 | .asu tg e,sc,x,h=>by
  unfold a1y at h
  split at h
  ·simp only [zak] at h
   obtain ⟨⟨h1,h2⟩,h3,h4⟩:=h
   exact fun X G W k c=>b2L c h1 h2 h3 ((sE e sc _ h4).v X G.toGm W k c.xc)
  ·cases h
 | .asl i e,sc,x,h=>by
  unfold a1y at h
  split at h
  ·split at h
   ·simp only [zak,zah,Bool.not_eq_true'] at h
    obtain ⟨⟨⟨⟨h1,h2⟩,h3⟩,h4⟩,⟨⟨⟨⟨⟨⟨g0,g1⟩,g2⟩,g3⟩,g4⟩,g5⟩,g6⟩,g7⟩:=h
    exact fun X G W k c=>b2K c h1 h2 h3 h4 g0 g1 (sI _ sc _ g2) g3 g4 g7 (fun X G W k c=>sC _ _ _ g5 X G W k c) (fun X G W k c=>(sE _ _ _ g6).v X G W k c)
   ·cases h
  ·cases h
 | .sti a b e,sc,x,h=>by
  unfold a1y at h
  split at h
  ·simp only [zak] at h
   obtain ⟨h2,h3,h4,h5⟩:=h
   exact fun X G W k c=>b2V c h2 ((sE a sc _ h3).v X G.toGm W k c.xc) ((sE b sc _ h4).v X G.toGm W k c.xc) ((sE e sc _ h5).v X G.toGm W k c.xc)
  ·cases h
 | .stf a f e,sc,x,h=>by
  unfold a1y at h
  split at h
  ·simp only [zak,zah] at h
   obtain ⟨h2,h3,h4⟩:=h
   subst h2
   exact fun X G W k c=>b2U c ((sE a sc _ h3).v X G.toGm W k c.xc) ((sE e sc _ h4).v X G.toGm W k c.xc)
  ·cases h
 | .agv i op e,sc,x,h=>by
  unfold a1y at h
  split at h
  ·simp only [zak,zah] at h
   obtain ⟨⟨⟨h1,h2⟩,h3⟩,h4⟩:=h
   subst h3
   exact fun X G W k c=>b2I c h1 h2 ((sE e sc _ h4).v X G.toGm W k c.xc)
  ·cases h
 | .agi a b op e,sc,x,h=>by
  unfold a1y at h
  split at h
  ·simp only [zak,zah] at h
   obtain ⟨⟨h1,h2⟩,h3,h4,h5⟩:=h
   subst h2
   exact fun X G W k c=>b2H c h1 ((sE a sc _ h3).v X G.toGm W k c.xc) ((sE b sc _ h4).v X G.toGm W k c.xc) ((sE e sc _ h5).v X G.toGm W k c.xc)
  ·cases h
 | .ifs t a b,sc,x,h=>by
  unfold a1y at h
  split at h
  ·simp only [zak] at h
   obtain ⟨h1,h2,h3⟩:=h
   exact fun X G W k c=>b2O ((sE t sc _ h1).t X G.toGm W k c.xc) (sSs a sc _ h2 X G W k c) (sSs b sc _ h3 X G W k c)
  ·cases h
 | .fr tg one it b,sc,x,h=>by
  unfold a1y at h
  split at h
  ·simp only [zak] at h
   obtain ⟨⟨⟨h1,h2⟩,h5⟩,h3,h4⟩:=h
   exact fun X G W k c=>b7i c h1 h2 h5 (sI it sc _ h3) (sSs b sc _ h4 X G W k c)
  ·cases h
 | .frn j tg it b,sc,x,h=>by
  unfold a1y at h
  split at h
  ·simp only [zak] at h
   obtain ⟨⟨⟨h1,h2,h3⟩,h5⟩,h6,h7⟩:=h
   exact fun X G W k c=>b2N c h1 h2 h3 h5 (sI it sc _ h6) (sSs b sc _ h7 X G W k c)
  ·cases h
 | .wh t b,sc,x,h=>by
  unfold a1y at h
  split at h
  ·simp only [zak] at h
   obtain ⟨h1,h2⟩:=h
   exact fun X G W k c=>b7j c ((sE t sc _ h1).t X G.toGm W k c.xc) (sSs b sc _ h2 X G W k c)
  ·cases h
 | .ret e,sc,x,h=>by
  unfold a1y at h
  split at h
  ·exact fun X G W k c=>b2T ((sE e sc _ h).v X G.toGm W k c.xc)
  ·cases h
 | .retN,sc,x,h=>by
  unfold a1y at h
  split at h
  ·exact fun X G W k c=>LS.mk' ps_retN fun D σ H δ S Y F R ht rs rw'=>by
    rw [a0k] at ht
    exact rs.rt.non ht R.ce
  ·cases h
 | .brk,sc,x,h=>by
  unfold a1y at h
  split at h
  ·exact fun X G W k c=>LS.mk' ps_break fun D σ H δ S Y F R ht rs rw'=>by
    rw [a0k] at ht
    exact rs.bk δ S σ H ht (a0a.refl _ _) R
  ·cases h
 | .cnt,sc,x,h=>by
  unfold a1y at h
  split at h
  ·exact fun X G W k c=>LS.mk' ps_continue fun D σ H δ S Y F R ht rs rw'=>by
    rw [a0k] at ht
    exact rs.ct δ S σ H ht (a0a.refl _ _) R
  ·cases h
 | .pas,sc,x,h=>by
  unfold a1y at h
  split at h
  ·exact fun X G W k c=>LS.mk' ps_pass fun D σ H δ S Y F R ht rs rw'=>by
    rw [a0k] at ht
    exact rs.nx δ S σ H ht (a0a.refl _ _) R
  ·exact fun X G W k c=>LS.mk' ps_doc fun D σ H δ S Y F R ht rs rw'=>by
    rw [a0k] at ht
    exact rs.nx δ S σ H ht (a0a.refl _ _) R
  ·cases h
 | .rai j es,sc,x,h=>by
  unfold a1y at h
  split at h
  ·simp only [zak] at h
   obtain ⟨⟨h1,h2⟩,h3⟩:=h
   exact fun X G W k c=>b2S c h1 h2 (sL es sc _ h3)
  ·cases h
 | .tra b j i s,sc,x,h=>by
  unfold a1y at h
  split at h
  ·simp only [zak,zah] at h
   obtain ⟨⟨⟨⟨h1,h2⟩,h3⟩,h4⟩,h5,h6⟩:=h
   exact fun X G W k c=>b2W c h1 h2 h3 h4 (sSs b sc _ h5) (sSs s sc _ h6)
  ·cases h
 | .tro b j s,sc,x,h=>by
  unfold a1y at h
  split at h
  ·simp only [zak] at h
   obtain ⟨⟨h1,h2⟩,h5,h6⟩:=h
   exact fun X G W k c=>b2Y c h1 h2 (sSs b sc _ h5) (sSs s sc _ h6)
  ·cases h
 | .tri i j l es,sc,x,h=>by
  unfold a1y at h
  split at h
  ·simp only [zak,zah,Bool.not_eq_true'] at h
   obtain ⟨⟨⟨⟨⟨⟨⟨⟨⟨⟨⟨h1,h2⟩,h3⟩,h4⟩,h5⟩,h6⟩,⟨h7,h8⟩,h9⟩,⟨l1,l2⟩,l3⟩,⟨s1,s2⟩,s3⟩,g1⟩,g2⟩,g3⟩:=h
   exact fun X G W k c=>b2X c h1 h2 h3 h4 h5 h6 h7 h8 h9 l1 l2 l3 s1 s2 s3 g1 g2 (sL es sc _ g3)
  ·cases h
 | .par i j es,sc,x,h=>by
  unfold a1y at h
  split at h
  ·simp only [zak,zah,Bool.not_eq_true'] at h
   obtain ⟨⟨⟨⟨⟨⟨⟨⟨⟨⟨⟨h1,h2⟩,h3⟩,h4⟩,h5⟩,h6⟩,h7⟩,h8⟩,h9⟩,g1⟩,g2⟩,g3⟩:=h
   exact fun X G W k c=>b2R c h1 h2 h3 h4 h5 h6 h7 h8 h9 g1 g2 (sL es sc _ g3)
  ·cases h
 | .lck s,sc,x,h=>by
  unfold a1y at h
  exact fun X G W k c=>b2P (sS s sc x h X G W k c)
 | .nev,sc,x,h=>fun X G W k c=>LS.mk' ps_never fun D σ H δ S Y F R ht rs rw'=>by
  rw [a0k] at ht
  exact ht.elim
theorem sSs:∀ (s:RSs) (sc:Scope) (x:List Stmt),a0Q n sc s x=true→a5P n sc s x
 | .nil,sc,x,h=>by
  unfold a0Q at h
  cases x with
  | nil =>
   refine fun X G W k c=>PSs.imp pss_nil fun D σ H q=>?_
   obtain ⟨δ,S,Y,F,R,ht,rs,_⟩:=q
   rw [a0f] at ht
   exact rs.nx δ S σ H ht (a0a.refl _ _) R
  | cons _ _=>cases h
 | .cons s r,sc,x,h=>by
  unfold a0Q at h
  split at h
  ·rw [zak] at h
   refine fun X G W k c=>PSs.imp (pss_cons (sS s sc _ h.1 X G W k c) (sSs r sc _ h.2 X G W k c)) fun D σ H q=>?_
   obtain ⟨δ,S,Y,F,R,ht,rs,rw'⟩:=q
   rw [a0f] at ht
   exact ⟨δ,S,Y,_,R,ht,⟨fun δ' S' σ' H' q P R'=>⟨δ',S',Y,F,R',q,rs.mono P,rw'.mono P⟩,rs.rt,rs.bk,rs.ct⟩,rw'⟩
  ·cases h
 | .cut s r,sc,x,h=>by
  unfold a0Q at h
  split at h
  ·rw [zak] at h
   refine fun X G W k c=>PSs.imp (pss_cons (sS s sc _ h.1 X G W k c) (sSs r sc _ h.2 X G W k c)) fun D σ H q=>?_
   obtain ⟨δ,S,Y,F,R,ht,rs,rw'⟩:=q
   rw [a0f] at ht
   obtain ⟨J,hs,hj⟩:=ht
   exact ⟨δ,S,Y,_,R,hs,⟨fun δ' S' σ' H' q P R'=>⟨δ',S',Y,F,R',hj δ' S' q,rs.mono P,rw'.mono P⟩,rs.rt,rs.bk,rs.ct⟩,rw'⟩
  ·cases h
 | .frz i r,sc,x,h=>by
  unfold a0Q at h
  refine fun X G W k c=>PSs.imp (sSs r sc x h X G W k c) fun D σ H q=>?_
  obtain ⟨δ,S,Y,F,R,ht,rs,rw'⟩:=q
  rw [a0f] at ht
  rcases ht with ht | ⟨a,ea,ht⟩
  ·exact ⟨δ,S,Y,F,R,ht,rs,rw'⟩
  obtain ⟨v,ev,rv⟩:=R.sl.at_ i _ ea
  cases a0n rv
  have hlt:i < σ.length:=by
   obtain ⟨hh,_⟩:=List.getElem?_eq_some_iff.mp ev
   exact hh
  have es:σ.set i (some (V.ref a))=σ:=by
   apply List.ext_getElem?
   intro j
   by_cases e:i=j
   ·subst e;rw [List.getElem?_set_self hlt,ev]
   ·rw [List.getElem?_set_ne e]
  rcases ht with ⟨ds,e1,q⟩ | ⟨ds,e1,q⟩
  ·have R2:Rel G.toGd (S.del a) H (δ.set i (some (.lst ds))) (σ.set i (some (V.ref a))):=⟨(R.sl.mono (a0a.freeze e1)).set (Rep.freeze R.ce e1),R.ce.freeze e1⟩
   rw [es] at R2
   exact ⟨_,_,Y,F,R2,q,rs.mono (a0a.freeze e1),rw'.mono (a0a.freeze e1)⟩
  ·have R2:Rel G.toGd (S.del a) H (δ.set i (some (.dic ds))) (σ.set i (some (V.ref a))):=⟨(R.sl.mono (a0a.freeze e1)).set (Rep.freezeK R.ce e1),R.ce.freeze e1⟩
   rw [es] at R2
   exact ⟨_,_,Y,F,R2,q,rs.mono (a0a.freeze e1),rw'.mono (a0a.freeze e1)⟩
end
def Meets (n:SN) (G:Option (Addr × Obj)→Gs) (np:Nat) (hot:Bool) (T:TR) (b:RSs):Prop:=∀ (m:Option (Addr × Obj)),m.isSome=hot→∀ (ds:List D) (S:SS) (K:DK) (Y:XK'),T m ds S K Y→ds.length=np ∧
 a0f (G m) b (ds.map some ++ List.replicate (n.N.length - ds.length) none) S (fun C fs _ S'=>Y C fs S') { nx:=fun _ S'=>K .non S',rt:=K,bk:=fun _ _=>False,ct:=fun _ _=>False }
theorem b8K {P:Program} {w:World} {K:zbd} {mg:Str→Option Value} {base:Heap} {hot:Bool} {k:Nat} {f:Addr} {name qual:Str} {params:Arguments} {body:List Stmt} {scope:Scope} {dV kV doc pm cdv ct oc:Value} {an od:Option Addr}
  {osl:Array (Option Value)} {ps:List Str} {T:TR} {b:RSs} {G:Option (Addr × Obj)→Gs} {g:Gd} (lk:K.lookup f=some ⟨oc,od,.func (PySem.W.fnOf name qual params body scope dV kV doc pm an cdv ct),osl⟩) (hcd:PySem.W.codeIn K cdv qual=true) (S:FnScope n.N ps scope)
  (hck:a0Q n scope b body=true) (hG:∀ m,(G m).m0=m) (hg:∀ m,(G m).toGd=g) (ok:∀ m,GOk n P w K mg base (G m).toGm k) (xm:∀ m j x kd,(G m).xk j=some kd→n.cls[j]?=some x→MkF P w K mg base k ((G m).cl j) kd)
  (hm:Meets n G ps.length hot T b):FnG P w K mg base hot (k + 1) f (PySem.W.fnOf name qual params body scope dV kV doc pm an cdv ct) ps (spD g T):=by
 refine b1v lk hcd S (fun m vs H Q E hmh h=>?_) fun A outer s H vs Q E m hmh hM hr hsp=>?_
 ·obtain ⟨ds,S0,K0,Y0,ce,rp,ht,_⟩:=h
  rw [← rp.length]
  exact (hm m hmh ds S0 K0 Y0 ht).1
 ·obtain ⟨ds,S0,K0,Y0,ce,rp,ht,res,rex⟩:=hsp
  obtain ⟨hl,hd⟩:=hm m hmh ds S0 K0 Y0 ht
  have hx:XS n (cxM P w K mg base n.N qual scope f cdv A outer s H E m) (G m) (fun cls d _ H'=>E cls d H') k scope:=by
   refine ⟨⟨ok m,rfl,a8Y.self (fun _=>rfl),?_,?_,?_,?_⟩,rfl,fun _=>rfl,rfl,rfl,xm m⟩
   ·exact hr
   ·rw [hG m]
    cases m with
    | none=>exact ⟨hM.1,rfl⟩
    | some p=>exact ⟨hM.1,⟨hM.2.1.1,hM.2.1.2⟩,zal⟩
   ·exact L2N.takes_of rfl rfl rfl rfl
   ·exact passes_of rfl
  refine ⟨_,sSs b scope body hck _ (G m) _ k hx,?_⟩
  have hN:ds.length≤n.N.length:=by
   have:=congrArg List.length S.pre
   rw [List.length_take] at this
   omega
  rw [hg m]
  refine ⟨_,S0,_,_,⟨a3K.start (N:=n.N) rp,ce⟩,hd,⟨fun δ' S' σ' H' q P R'=>res .non S' .non H' q P R'.ce (by simp only [Rep]),res,fun _ _ _ _ z=>z.elim,fun _ _ _ _ z=>z.elim⟩,fun C fs δ' S' d σ' H' y P R' x=>rex C fs S' d H' y P R'.ce x⟩
end Sv
namespace Sv
open PySem PySem.Spec PyProof.Rows L2 PySem.W PySem.Calls
open L2H (RoomH)
structure b0I (K:zbd) (mg:Str→Option Value) (s:Shared):Prop where
 inK:K.In s.heap
 main:s.heap.Ns mainGlobals mg
 builtins:∃ mb,s.heap.Ns builtinsNs mb∧∀ x:Str,x ≠ "__name__" → mb x=bootBuiltins x
 nolimit:s.heap.NoLimit
 noGens:s.gens=#[]
structure a0S (K:zbd) (P:Program) (w:World) (H:Hp) (s:Shared) (a:Addr) (xs:List V):Prop where
 list:SqL K H a xs
 ok:HOk P w H s.heap
 frozen:∀ b u,H b=some u→∃ o ys,u=.frz o (.lst ys)
 own:∀ b u,H b=some u→K.lookup b=none∧∃ items n,(∃ o,s.heap.get? b=some o∧o.data=.seq items n)
theorem a0S.is {K:zbd} {P:Program} {w:World} {s:Shared} {a:Addr} {vs:List Value} {ns:List Int} (inK:K.In s.heap) (at_a:s.heap.get? a=some { cls:=.type "list",data:=.seq vs.toArray }) (whole:IntsAre vs ns) (short:ns.length≤sizeLine) :
  ∃ H,a0S K P w H s a (ns.map V.int):=by
 have reads:=vals_ints whole
 have size:vs.toArray.size≤sizeLine:=by rw [List.size_toArray,whole.length];exact short
 cases known:K.lookup a with
 | some o =>
  have same:=(inK a o known).symm.trans at_a
  cases same
  exact ⟨fun _=>none,.inr ⟨_,_,_,known,rfl,rfl,rfl,size,by simpa using reads⟩,nofun,nofun,nofun⟩
 | none =>
  let kept:HO:=.frz { cls:=.type "list",data:=.seq vs.toArray } (.lst (ns.map V.int))
  have only:∀ {b u},(if b=a then some kept else none)=some u→b=a∧u=kept:=by
   intro b u e
   split at e
   ·exact ⟨‹_›,(Option.some.inj e).symm⟩
   ·cases e
  refine ⟨fun b=>if b=a then some kept else none,.inl (.inr ⟨_,if_pos rfl⟩),?_,?_,?_⟩
  all_goals
   intro b u e
   obtain ⟨rfl,rfl⟩:=only e
  ·exact ⟨at_a,by rw [zag];exact short,vs,_,reads,at_a⟩
  ·exact ⟨_,_,rfl⟩
  ·exact ⟨known,_,_,_,at_a,rfl⟩
theorem a0S.base {K:zbd} {P:Program} {w:World} {H:Hp} {s:Shared} {a:Addr} {xs:List V} (T:a0S K P w H s a xs) {b:Addr} {o:Obj} (e:s.heap.get? b=some o) (no:∀ items n,o.data≠.seq items n):(hidT s.heap H).get? b=some o:=by
 cases tracked:H b with
 | none=>exact hidT_get e tracked
 | some u =>
  have ⟨_,items,n,o',e',d⟩:=T.own b u tracked
  cases e.symm.trans e'
  exact (no _ _ d).elim
theorem a0S.names {K:zbd} {P:Program} {w:World} {H:Hp} {s:Shared} {a:Addr} {xs:List V} (T:a0S K P w H s a xs) {b:Addr} {m:Str→Option Value}:s.heap.Ns b m→(hidT s.heap H).Ns b m
 | ⟨o,es,ep,e,d,r⟩=>⟨o,es,ep,T.base e (by rw [d];nofun),d,r⟩
theorem a0S.inK {K:zbd} {P:Program} {w:World} {H:Hp} {s:Shared} {a:Addr} {xs:List V} (T:a0S K P w H s a xs) (k:K.In s.heap):K.In (hidT s.heap H):=by
 intro b o known
 cases tracked:H b with
 | none=>exact hidT_get (k b o known) tracked
 | some u=>cases known.symm.trans (T.own b u tracked).1
theorem a0S.env {K:zbd} {P:Program} {w:World} {mg:Str→Option Value} {H:Hp} {s:Shared} {a:Addr} {xs:List V} (T:a0S K P w H s a xs) (G:b0I K mg s):Env0 P w K mg (hidT s.heap H) callerA [] s H where
 frames:=rfl
 mod:=⟨T.inK G.inK,T.names G.main,G.builtins.imp fun _ z=>⟨T.names z.1,z.2⟩,G.nolimit.imp fun _ z=>⟨T.names z.1,z.2⟩⟩
 bs b o e:=of_hidT e
 bsz:=Nat.le_of_eq (hidT_size _ _)
 funs:=trivial
 frf b z:=nomatch (show b∈([]:List Addr) from z)
 hok:=T.ok
 bare:=.of_eq G.noGens
theorem a0S.old {K:zbd} {P:Program} {w:World} {H H':Hp} {s s':Shared} {a:Addr} {xs:List V} (T:a0S K P w H s a xs) (un:Un (frs ([]:List Env)) [] H H' s.heap s'.heap) (hok:HOk P w H' s'.heap):OldK s.heap s'.heap:=by
 refine OldK.of_keep fun b o e=>?_
 cases tracked:H b with
 | none=>exact un.keep b o e tracked (fun z=>nomatch (show b∈([]:List Addr) from z)) (by simp)
 | some u =>
  obtain ⟨o',ys,rfl⟩:=T.frozen b u tracked
  cases e.symm.trans (T.ok b _ tracked).1
  exact (hok b _ (un.frzs b _ _ tracked)).1
theorem a9z {P:Program} {w:World} {K:zbd} {mg:Str→Option Value} {k:Nat} {fa a:Addr} {fd:FuncData} {x:Str} {sp:SpM} {s:Shared} {vs:List Value} {ns:List Int} (G:b0I K mg s)
  (at_a:s.heap.get? a=some { cls:=.type "list",data:=.seq vs.toArray }) (whole:IntsAre vs ns) (short:ns.length≤sizeLine) (room:RoomH k callerA) (F:∀ base:Heap,K.In base→base.Ns mainGlobals mg→FnG P w K mg base false k fa fd [x] sp)
  (binds:∀ (s:Shared) (u:Value),BindsTo s fd ⟨[u],[]⟩ [(x,u)]) (does:∀ H:Hp,SqL K H a (ns.map V.int)→sp none [.ref a] H (fun v _=>v=.bl true) fun _ _ _=>False) :
  codeAny (model P w) callerA (.call (.ref fa) ⟨[.ref a],[]⟩) (fun r s'=>r=.ok (.ret (.bool true))∧OldK s.heap s'.heap∧s'.os=s.os∧AllBare s'.gens) s:=by
 have ⟨H,T⟩:=a0S.is (P:=P) (w:=w) G.inK at_a whole short
 have promise:=F _ (T.inK G.inK) (T.names G.main)
 have walked:=promise.run callerA [] s H ⟨[.ref a],[]⟩ [.ref a] [.ref a] _ _ none rfl room ⟨rfl,rfl⟩ (T.env G) (binds s _) (.cons rfl .nil) (does H T.list)
 refine codeAny_mono walked ?_
 rintro (err | fl) s' told
 ·have ⟨_,_,_,_,_,_,_,_,_,_,_,_,never⟩:=told
  exact never.elim
 ·cases fl with
  | ret u =>
   obtain ⟨v,H',sameOs,bare,un,hok,rel,rfl⟩:=told
   have is:u=.bool true:=rel
   exact ⟨congrArg (fun z=>Except.ok (Flow.ret z)) is,T.old un hok,sameOs,bare⟩
  | _=>exact told.elim
theorem walk_ofG {l:PySem.W.OpenLaw} {n k:Nat} {q:Program} {loose:List Str} {XP:(Str→Option Value)→Heap→Prop} {YP:World→Heap→Prop} {d:DefRec} {x:Str} (most:l.most=some n) (few:n≤sizeLine) (noDf:d.params.defaults=[]) (room:RoomH k callerA)
  (kept:∀ w mg fa h,YP w h→h.Ns mainGlobals mg→mg d.name=some (.ref fa)→∃ (K:zbd) (fd:FuncData) (sp:SpM),K.In h∧(∀ s u,BindsTo s fd ⟨[u],[]⟩ [(x,u)]) ∧
   (∀ H a (ns:List Int),ns.length≤n→SqL K H a (ns.map V.int)→sp none [.ref a] H (fun v _=>v=.bl true) fun _ _ _=>False)∧∀ base:Heap,K.In base→base.Ns mainGlobals mg→FnG l.prog w K mg base false k fa fd [x] sp) :
  PySem.W.WalkO q loose XP YP l.row.toRowW d [] fun f vs=>PySem.call f vs :=
 Att.attach_call most noDf fun w _ s₁ mg _ fa _ _ _ _ _ _ _ G told _ _ _ nm lst whole short noGens =>
  have ⟨_,_,_,inK,binds,does,F⟩:=kept w mg fa _ told G.T.g nm
  a9z ⟨inK,G.T.g,⟨_,G.T.b,G.T.builtins⟩,G.T.nolimit,noGens⟩ lst whole (Nat.le_trans short few) room F binds fun H o=>does H _ _ short o
def lawT (n:Nat):TR:=fun m ds S K Y=>∃ ns:List Int,ns.length≤n∧ds=[.lst (ns.map .int)]∧S=(fun _=>none)∧∀ S',K (.bl true) S'
theorem law_sp {g:Gd} {n:Nat} {H:Hp} {a:Addr} {ns:List Int} (hl:ns.length≤n) (hS:SqL g.K H a (ns.map V.int)):spD g (lawT n) none [.ref a] H (fun v _=>v=.bl true) fun _ _ _=>False:=by
 have ri:∀ ms:List Int,a0c g (fun _=>none) H (ms.map D.int) (ms.map V.int):=by
  intro ms
  induction ms with
  | nil=>simp only [List.map_nil,a0c]
  | cons m ms ih =>
   simp only [zav,a0c]
   exact ⟨_,_,rfl,by simp only [Rep],ih⟩
 refine ⟨[.lst (ns.map .int)],fun _=>none,fun d _=>d=.bl true,fun _ _ _=>False,(fun a c e=>nomatch e),?_,⟨ns,hl,rfl,rfl,fun _=>rfl⟩,?_,fun _ _ _ _ _ z=>z.elim⟩
 ·simp only [a0c,Rep]
  refine ⟨.ref a,[],rfl,⟨a,ns.map V.int,rfl,?_,ri ns⟩,rfl⟩
  rcases hS with h | h
  ·exact .inl ⟨rfl,h⟩
  ·exact .inr (.inr h)
 ·rintro d S' v H' rfl P c r
  exact a1t r
section
variable {K:Frag} {x:Str}
theorem b1o (c:(Fx.exf x).ok K=true):a8w K (He.ga K x):=by
 have ⟨k1,c⟩:=He.ba (show b5g K x=true from c)
 have ⟨k2,c⟩:=He.ba c
 have ⟨k3,c⟩:=He.ba c
 have ⟨k4,c⟩:=He.ba c
 have ⟨k5,c⟩:=He.ba c
 have ⟨k6,c⟩:=He.ba c
 have ⟨k7,k8⟩:=He.ba c
 exact { hg:=He.eqO_ok k1,hk:=He.eqO_ok k2,hs:=of_decide_eq_true k3,hd:=k4,ha:=He.eqO_ok k5,hn:=He.eqO_ok k6,ht:=of_decide_eq_true k7,hm:=of_decide_eq_true k8 }
theorem a9k {xs:List Str} (c:(Fx.exfs xs).ok K=true) (hx:x∈xs):a8w K (He.ga K x):=b1o (x:=x) (List.all_eq_true.mp c x hx)
theorem b2u {n:String} (c:(Fx.rpx x n).ok K=true):RpC K (He.ga K x) n:=by
 have c:(decide (a9I K (He.ga K x)=some n) && (decide ((Str.ofString n).length + 2≤1000) && (He.eqO (findIn K (.ref (He.ga K x)) "__repr__") (some (some (.builtin "BaseException.__repr__"))) && decide (subIn K (.ref (He.ga K x)) (.type "BaseException")=some true))))=true:=c
 simp only [zak,zah] at c
 exact ⟨c.1,c.2.1,He.eqO_ok c.2.2.1,c.2.2.2⟩
theorem a86 (c:(He.Fa.exc x).ok K=true):a7z K (He.ga K x):=by
 obtain ⟨e1,e2,_⟩:=He.exc_ok c
 exact ⟨_,_,_,_,F.excBase_ValueError,e1,e2⟩
theorem a3Z {n:String} {b:Bool} (c:(Fx.kitT x n b).ok K=true):kitOne K (.ref (He.ga K x)) (.type n)=some b:=of_decide_eq_true c
end
def obsX (fa:List He.Fa) (fn:List He.DefD) (fx:List Fx) (K:Frag):AlX:=(He.obsD fa fn K,fx.all fun f=>f.ok K)
def SaysX (fa:List He.Fa) (fn:List He.DefD) (fx:List Fx) (K:Frag):Prop:=obsX fa fn fx K=(He.valD fn,true)
section
variable {fa:List He.Fa} {fn:List He.DefD} {fx:List Fx} {K:Frag}
theorem SaysX.d (c:SaysX fa fn fx K):He.SaysD fa fn K:=congrArg (fun z:AlX=>z.1) c
theorem SaysX.fact (c:SaysX fa fn fx K) (i:Nat) {f:Fx} (h:fx[i]?=some f):f.ok K=true:=by
 have c1:(fx.all fun f=>f.ok K)=true:=congrArg (fun z:AlX=>z.2) c
 exact List.all_eq_true.mp c1 f (zaq h)
end
theorem b5i {n:SN} {P:Program} {w:World} {K:zbd} {mg:Str→Option Value} {base:Heap} {hot:Bool} {k:Nat} {f:Addr} {fd:FuncData} {x qual:Str} {params:Arguments} {body:List Stmt} {scope:Scope} {dvs:List V} {kws:List (Str × V)} {ps:List Str} {T:TR} {b:RSs} {G:Option (Addr × Obj)→Gs} {g:Gd}
  (F:FunD K x qual params body scope dvs kws f fd) (S:FnScope n.N ps scope)
  (hck:a0Q n scope b body=true) (hG:∀ m,(G m).m0=m) (hg:∀ m,(G m).toGd=g) (ok:∀ m,GOk n P w K mg base (G m).toGm k) (xm:∀ m j x kd,(G m).xk j=some kd→n.cls[j]?=some x→MkF P w K mg base k ((G m).cl j) kd)
  (hm:Meets n G ps.length hot T b):FnG P w K mg base hot (k + 1) f fd ps (spD g T):=by
 obtain ⟨oc,od,dV,kV,doc,pm,an,cdv,ct,osl,rfl,lk,hcd,_,_⟩:=F.ex
 exact b8K lk hcd S hck hG hg ok xm hm
end Sv
namespace Sv
open PySem PySem.Spec PyProof.Rows L2
open L2H (RoomH)
structure Tb where
 fns:List En
 cls:List Str
 gvs:List Str
 tc:List (Option TR)
 th:List (Option TR)
 gv:List D
 xk:List (Option XKd)
 hd:List Nat
 kd:List (Option (List (Key × D)))
def Tb.lo (t:Tb) (i:Nat):Nat:=t.hd.getD i 0
def Tb.sn (t:Tb) (N:List Str):SN:=⟨N,t.fns,t.cls,t.gvs⟩
def Tb.T (t:Tb) (h:Bool) (j:Nat):Option TR:=(if h=true then t.th else t.tc)[j]?.join
def Tb.C (t:Tb) (K:zbd) (j:Nat):Addr:=He.ga K (t.cls.getD j "")
def Tb.M (t:Tb) (K:zbd) (j:Nat):Addr:=match t.fns[j]? with
 | some (.mt C _)=>He.ga K C
 | _=>0
def Tb.G (t:Tb) (K:zbd) (i:Nat) (m:Option (Addr × Obj)):Gs :=
 { K:=K,m0:=m,fn:=fun h j=>if j < t.lo i then t.T h j else none,gv:=fun j=>t.gv.getD j .non,cl:=fun j=>t.C K j,mc:=fun j=>t.M K j,xk:=fun j=>t.xk[j]?.join,kd:=fun j=>t.kd[j]?.join }
structure b4o (t:Tb) (w:World) (K:zbd) (mg:Str→Option Value):Prop where
 cl:∀ x,x∈t.cls→mg x=some (.ref (He.ga K x))
 gv:∀ j x,t.gvs[j]?=some x→∃ v u,mg x=some u∧RelV v u∧∀ S H,Rep ⟨K⟩ S H (t.gv.getD j .non) v
 bt:∀ x,x∈a2x→mg x=none
 kd:∀ (j:Nat) (x:Str) (kvs:List (Key × D)),t.gvs[j]?=some x→t.kd[j]?.join=some kvs→∃ p,mg x=some (.ref p)∧b3v K w p kvs
def b7D (K:zbd) (mg:Str→Option Value) (f:Addr):En→Prop
 | .fn x=>mg x=some (.ref f)∧PySem.W.keepIn K (.ref f)=true
 | .mt C m=>Cls K (He.ga K C)∧Meth K (He.ga K C) m f∧(m = "__init__" → mg C=some (.ref (He.ga K C))∧Mk K (He.ga K C) f)
def a0B (t:Tb) (P:Program) (w:World) (K:zbd) (mg:Str→Option Value) (base:Heap) (i d:Nat):Prop:=∀ h j T x,j < i→t.T h j=some T→t.fns[j]?=some x →
 ∃ f fd ps,b7D K mg f x∧L2.Binds K fd ps []∧FnG P w K mg base h (2 * d + 2) f fd ps (spD ⟨K⟩ T)
section
variable {t:Tb} {P:Program} {w:World} {K:zbd} {mg:Str→Option Value} {base:Heap} {i d:Nat}
theorem a0B.zero:a0B t P w K mg base 0 0:=fun h j T x hj=>absurd hj (Nat.not_lt_zero _)
theorem a0B.step {e:Nat} (A:a0B t P w K mg base i e) (he:e≤d + 1) {x:En} {f:Addr} {fd:FuncData} {ps:List Str} (hx:t.fns[i]?=some x) (at_f:b7D K mg f x) (b:L2.Binds K fd ps [])
  (hc:∀ T,t.T false i=some T→FnG P w K mg base false (2 * d + 4) f fd ps (spD ⟨K⟩ T)) (hh:∀ T,t.T true i=some T→FnG P w K mg base true (2 * d + 4) f fd ps (spD ⟨K⟩ T)):a0B t P w K mg base (i + 1) (d + 1):=by
 intro h j T y hj hT hy
 by_cases e:j < i
 ·obtain ⟨f,fd,ps,h1,h2,F⟩:=A h j T y e hT hy
  exact ⟨f,fd,ps,h1,h2,F.mono (by omega)⟩
 ·have e:j=i:=by omega
  subst e
  rw [hx] at hy
  cases hy
  refine ⟨f,fd,ps,at_f,b,?_⟩
  cases h with
  | false=>exact hc T hT
  | true=>exact hh T hT
theorem a0B.gok (A:a0B t P w K mg base (t.lo i) d) (ok:b4o t w K mg) {N:List Str} (nd:N.Nodup) (m:Option (Addr × Obj)):GOk (t.sn N) P w K mg base (t.G K i m).toGm (2 * d + 3) where
 K:=rfl
 nd:=nd
 fn:=fun h j T x hT hx=>by
  have hT:(if j < t.lo i then t.T h j else none)=some T:=hT
  split at hT
  ·rename_i hj
   obtain ⟨f,fd,ps,h1,h2,F⟩:=A h j T _ hj hT hx
   exact ⟨f,fd,ps,h1.1,h1.2,h2,F.mono (by omega)⟩
  ·cases hT
 meth:=fun h j T C m hT hx=>by
  have hT:(if j < t.lo i then t.T h j else none)=some T:=hT
  split at hT
  ·rename_i hj
   obtain ⟨f,fd,ps,h1,h2,F⟩:=A h j T _ hj hT hx
   have e:t.M K j=He.ga K C:=by
    have hx:t.fns[j]?=some (.mt C m):=hx
    unfold Tb.M
    rw [hx]
   show ∃ f fd ps,Cls K (t.M K j)∧Meth K (t.M K j) m f∧_
   rw [e]
   exact ⟨f,fd,ps,h1.1,h1.2.1,h2,F.mono (by omega)⟩
  ·cases hT
 made:=fun j T C hT hx=>by
  have hT:(if j < t.lo i then t.T false j else none)=some T:=hT
  split at hT
  ·rename_i hj
   obtain ⟨f,fd,ps,h1,h2,F⟩:=A false j T _ hj hT hx
   have e:t.M K j=He.ga K C:=by
    have hx:t.fns[j]?=some (.mt C "__init__"):=hx
    unfold Tb.M
    rw [hx]
   show mg C=some (.ref (t.M K j))∧∃ f fd ps kI,Mk K (t.M K j) f∧_
   rw [e]
   exact ⟨(h1.2.2 rfl).1,f,fd,ps,_,(h1.2.2 rfl).2,h2,Nat.le_refl _,F⟩
  ·cases hT
 gv:=ok.gv
 cl:=fun j x hx=>by
  have hx:t.cls[j]?=some x:=hx
  have e:t.cls.getD j "" = x:=by rw [List.getD_eq_getElem?_getD,hx];rfl
  show mg x=some (.ref (He.ga K (t.cls.getD j "")))
  rw [e]
  exact ok.cl x (zaq hx)
 bt:=ok.bt
 kd:=ok.kd
def XOk (t:Tb) (P:Program) (w:World) (K:zbd) (mg:Str→Option Value) (base:Heap):Prop:=∀ (j:Nat) (x:Str) (kd:XKd),t.xk[j]?.join=some kd→t.cls[j]?=some x→MkF P w K mg base 2 (He.ga K x) kd
theorem MkF.mono {C:Addr} {kd:XKd} {j k:Nat} (h:MkF P w K mg base j C kd) (hj:j≤k):MkF P w K mg base k C kd:=by
 cases h with
 | fld T iC tI F b hk=>exact .fld T iC tI F b (Nat.le_trans hk hj)
 | bare Fb q kC e1 e2=>exact .bare Fb q kC e1 e2
theorem a0J {hot:Bool} {f:Addr} {fd:FuncData} {x qual:Str} {params:Arguments} {body:List Stmt} {scope:Scope} {dvs:List V} {kws:List (Str × V)} {N ps:List Str} {T:TR} {b:RSs}
  (A:a0B t P w K mg base (t.lo i) d) (ok:b4o t w K mg) (xo:XOk t P w K mg base) (F:FunD K x qual params body scope dvs kws f fd) (S:FnScope N ps scope) (hck:a0Q (t.sn N) scope b body=true) (hm:Meets (t.sn N) (t.G K i) ps.length hot T b):FnG P w K mg base hot (2 * d + 4) f fd ps (spD ⟨K⟩ T):=by
 refine b5i (n:=t.sn N) (G:=t.G K i) (k:=2 * d + 3) F S hck (fun _=>rfl) (fun _=>rfl) (fun m=>A.gok ok S.nd m) (fun m j y kd h hy=>?_) hm
 have hy:t.cls[j]?=some y:=hy
 have e:t.cls.getD j "" = y:=by rw [List.getD_eq_getElem?_getD,hy];rfl
 show MkF P w K mg base (2 * d + 3) (He.ga K (t.cls.getD j "")) kd
 rw [e]
 exact (xo j y kd h hy).mono (by omega)
end
end Sv
namespace Sv
open PySem PySem.Spec PyProof.Rows L2
class Rdg (p:Prop) (q:outParam Prop):Prop where
 go:q→p
class M0 (m:Option (Addr × Obj)):Prop where
 out:m=none
instance {t:Tb} {K:zbd} {i:Nat}:M0 (t.G K i none).toGm.m0:=⟨rfl⟩
section
variable {G:Gm} {δ:DS} {S:SS} {Y:XD'} {K:DK} {KT:Bool→SS→Prop} {KL:List D→SS→Prop} {a b c:RE} {es:RL} {d x y:D} {i j:Int} {p:Addr} {op:Operator}
theorem b5e {i:Nat} (h:δ[i]?=some (some d)) (k:K d S):den G (.var i) δ S Y K:=by rw [den];dsimp only;rw [h];exact k
theorem a7K {r:RC} (k:K r.d S):den G (.con r) δ S Y K:=by rw [den];exact k
theorem a2M {b:Bn} (hb:b.needs G.m0) (h:a0l G es δ S Y fun ds S1=>b.den ds S1 K):den G (.bi b es) δ S Y K:=by rw [den];exact ⟨hb,h⟩
theorem b4X {i:Int} (k:K (.int i) S):den G (.con (.int i)) δ S Y K:=a7K k
instance b6g {i:Int}:Rdg (den G (.con (.int i)) δ S Y K) (K (.int i) S):=⟨b4X⟩
theorem b5c {i:Str} (k:K (.str i) S):den G (.con (.str i)) δ S Y K:=a7K k
instance b6u {i:Str}:Rdg (den G (.con (.str i)) δ S Y K) (K (.str i) S):=⟨b5c⟩
theorem b8A {i:Bool} (k:K (.bl i) S):den G (.con (.bl i)) δ S Y K:=a7K k
instance b7Z {i:Bool}:Rdg (den G (.con (.bl i)) δ S Y K) (K (.bl i) S):=⟨b8A⟩
theorem b44 (k:K .non S):den G (.con .non) δ S Y K:=a7K k
instance b6m  : Rdg (den G (.con .non) δ S Y K) (K .non S):=⟨b44⟩
theorem b1a (h:a0l G es δ S Y fun ds S1=>Bn.len.den ds S1 K):den G (.bi .len es) δ S Y K:=a2M trivial h
instance b3L  : Rdg (den G (.bi .len es) δ S Y K) (a0l G es δ S Y fun ds S1=>Bn.len.den ds S1 K):=⟨b1a⟩
theorem b05 (h:a0l G es δ S Y fun ds S1=>Bn.abs.den ds S1 K):den G (.bi .abs es) δ S Y K:=a2M trivial h
instance b3G  : Rdg (den G (.bi .abs es) δ S Y K) (a0l G es δ S Y fun ds S1=>Bn.abs.den ds S1 K):=⟨b05⟩
theorem a7L {i:Nat} (k:K (G.gv i) S):den G (.glb i) δ S Y K:=by rw [den];exact k
theorem b4S (h:den G a δ S Y fun x S1=>den G b δ S1 Y fun y S2=>opD op x y S2 K):den G (.bin op a b) δ S Y K:=by rw [den];exact h
instance b6b  : Rdg (den G (.bin op a b) δ S Y K) (den G a δ S Y fun x S1=>den G b δ S1 Y fun y S2=>opD op x y S2 K):=⟨b4S⟩
theorem b43 (h:den G a δ S Y fun x S1=>∃ i,x=.int i∧K (.int (-i)) S1):den G (.neg a) δ S Y K:=by rw [den];exact h
instance b6l  : Rdg (den G (.neg a) δ S Y K) (den G a δ S Y fun x S1=>∃ i,x=.int i∧K (.int (-i)) S1):=⟨b43⟩
theorem b8E (h:den G a δ S Y fun x S1=>a0R x S1 fun b=>K (.bl (!b)) S1):den G (.nt a) δ S Y K:=by rw [den];exact h
instance b73  : Rdg (den G (.nt a) δ S Y K) (den G a δ S Y fun x S1=>a0R x S1 fun b=>K (.bl (!b)) S1):=⟨b8E⟩
theorem b4R (h:a0z G es δ S Y K):den G (.and es) δ S Y K:=by rw [den];exact h
instance b6a  : Rdg (den G (.and es) δ S Y K) (a0z G es δ S Y K):=⟨b4R⟩
theorem b8F (h:a01 G es δ S Y K):den G (.or es) δ S Y K:=by rw [den];exact h
instance b74  : Rdg (den G (.or es) δ S Y K) (a01 G es δ S Y K):=⟨b8F⟩
theorem b0X (h:den G a δ S Y K):a0z G (.cons a .nil) δ S Y K:=by rw [a0z];exact h
instance b3B  : Rdg (a0z G (.cons a .nil) δ S Y K) (den G a δ S Y K):=⟨b0X⟩
theorem b46 (h:den G a δ S Y K):a01 G (.cons a .nil) δ S Y K:=by rw [a01];exact h
instance b6o  : Rdg (a01 G (.cons a .nil) δ S Y K) (den G a δ S Y K):=⟨b46⟩
theorem b0Y (h:den G a δ S Y fun x S1=>a0R x S1 fun k=>if k=true then a0z G (.cons b es) δ S1 Y K else K x S1):a0z G (.cons a (.cons b es)) δ S Y K:=by rw [a0z];exact h
instance b3C  : Rdg (a0z G (.cons a (.cons b es)) δ S Y K) (den G a δ S Y fun x S1=>a0R x S1 fun k=>if k=true then a0z G (.cons b es) δ S1 Y K else K x S1):=⟨b0Y⟩
theorem b47 (h:den G a δ S Y fun x S1=>a0R x S1 fun k=>if k=true then K x S1 else a01 G (.cons b es) δ S1 Y K):a01 G (.cons a (.cons b es)) δ S Y K:=by rw [a01];exact h
instance b6p  : Rdg (a01 G (.cons a (.cons b es)) δ S Y K) (den G a δ S Y fun x S1=>a0R x S1 fun k=>if k=true then K x S1 else a01 G (.cons b es) δ S1 Y K):=⟨b47⟩
theorem b4W (h:a0j G c δ S Y fun k S1=>if k=true then den G a δ S1 Y K else den G b δ S1 Y K):den G (.ife c a b) δ S Y K:=by rw [den];exact h
instance b6f  : Rdg (den G (.ife c a b) δ S Y K) (a0j G c δ S Y fun k S1=>if k=true then den G a δ S1 Y K else den G b δ S1 Y K):=⟨b4W⟩
theorem b4U {op:CmpOp} (h:den G a δ S Y fun x S1=>den G b δ S1 Y fun y S2=>a0t op x y S2 K):den G (.cmp op a b) δ S Y K:=by rw [den];exact h
instance b6d {op:CmpOp}:Rdg (den G (.cmp op a b) δ S Y K) (den G a δ S Y fun x S1=>den G b δ S1 Y fun y S2=>a0t op x y S2 K):=⟨b4U⟩
theorem b4T {o1 o2:CmpOp} (h:den G a δ S Y fun x S1=>den G b δ S1 Y fun y S2=>a0t o1 x y S2 fun z S3=>∃ k,z=.bl k∧if k=true then den G c δ S3 Y fun w S4=>a0t o2 y w S4 K else K (.bl false) S3):den G (.chn o1 o2 a b c) δ S Y K:=by rw [den];exact h
instance b6c {o1 o2:CmpOp}:Rdg (den G (.chn o1 o2 a b c) δ S Y K) (den G a δ S Y fun x S1=>den G b δ S1 Y fun y S2=>a0t o1 x y S2 fun z S3=>∃ k,z=.bl k∧if k=true then den G c δ S3 Y fun w S4=>a0t o2 y w S4 K else K (.bl false) S3):=⟨b4T⟩
theorem b40 (h:a0l G es δ S Y fun ds S1=>ds.length≤sizeLine∧K (.lst ds) S1):den G (.lst false es) δ S Y K:=by
 rw [den];simpa only [Bool.false_eq_true,if_false] using h
instance b6j  : Rdg (den G (.lst false es) δ S Y K) (a0l G es δ S Y fun ds S1=>ds.length≤sizeLine∧K (.lst ds) S1):=⟨b40⟩
theorem b01 (h:a0l G es δ S Y fun ds S1=>ds.length≤sizeLine∧∀ p,S1 p=none→K (.obj p) (S1.set p (.lst ds))):den G (.lst true es) δ S Y K:=by
 rw [den];simpa only [if_true] using h
instance b3D  : Rdg (den G (.lst true es) δ S Y K) (a0l G es δ S Y fun ds S1=>ds.length≤sizeLine∧∀ p,S1 p=none→K (.obj p) (S1.set p (.lst ds))):=⟨b01⟩
theorem b5d (h:a0l G es δ S Y fun ds S1=>ds.length≤sizeLine∧K (.tup ds) S1):den G (.tup es) δ S Y K:=by rw [den];exact h
instance b6v  : Rdg (den G (.tup es) δ S Y K) (a0l G es δ S Y fun ds S1=>ds.length≤sizeLine∧K (.tup ds) S1):=⟨b5d⟩
theorem b8B (h:den G a δ S Y fun x S1=>den G b δ S1 Y fun y S2=>ixD x y S2 K):den G (.ix a b) δ S Y K:=by rw [den];exact h
instance b70  : Rdg (den G (.ix a b) δ S Y K) (den G a δ S Y fun x S1=>den G b δ S1 Y fun y S2=>ixD x y S2 K):=⟨b8B⟩
theorem b5b {lo hi:RO} (h:den G a δ S Y fun x S1=>a1m G lo δ S1 Y fun l S2=>a1m G hi δ S2 Y fun u S3=>b0t x l u S3 K):den G (.slc a lo hi) δ S Y K:=by rw [den];exact h
instance b6t {lo hi:RO}:Rdg (den G (.slc a lo hi) δ S Y K) (den G a δ S Y fun x S1=>a1m G lo δ S1 Y fun l S2=>a1m G hi δ S2 Y fun u S3=>b0t x l u S3 K):=⟨b5b⟩
theorem b8G {lo hi:RO} (h:den G a δ S Y fun x S1=>a1m G lo δ S1 Y fun l S2=>a1m G hi δ S2 Y fun u S3=>slD x l u S3 K):den G (.sl a lo hi) δ S Y K:=by rw [den];exact h
instance b75 {lo hi:RO}:Rdg (den G (.sl a lo hi) δ S Y K) (den G a δ S Y fun x S1=>a1m G lo δ S1 Y fun l S2=>a1m G hi δ S2 Y fun u S3=>slD x l u S3 K):=⟨b8G⟩
theorem b8D {KO:Option Int→SS→Prop} (k:KO none S):a1m G .nn δ S Y KO:=by rw [a1m];exact k
instance b72 {KO:Option Int→SS→Prop}:Rdg (a1m G .nn δ S Y KO) (KO none S):=⟨b8D⟩
theorem b8H {KO:Option Int→SS→Prop} (k:den G a δ S Y fun d S1=>∃ i,d=.int i∧KO (some i) S1):a1m G (.ss a) δ S Y KO:=by rw [a1m];exact k
instance b76 {KO:Option Int→SS→Prop}:Rdg (a1m G (.ss a) δ S Y KO) (den G a δ S Y fun d S1=>∃ i,d=.int i∧KO (some i) S1):=⟨b8H⟩
theorem b4V {f:Str} (h:den G a δ S Y fun x S1=>a7O G f x S1 K):den G (.fld a f) δ S Y K:=by rw [den];exact h
instance b6e {f:Str}:Rdg (den G (.fld a f) δ S Y K) (den G a δ S Y fun x S1=>a7O G f x S1 K):=⟨b4V⟩
theorem a0h {j:Nat} {T:TR} (hT:G.fn G.m0.isSome j=some T) (h:a0l G es δ S Y fun ds S1=>T G.m0 ds S1 K fun C fs S'=>Y C fs δ S'):den G (.call j es) δ S Y K:=by rw [den];exact ⟨T,hT,h⟩
theorem b4Y {cn:Cn} (h:den G a δ S Y fun x S1=>∃ t b,tyD S1 x=some t∧a3c G S1 x∧PySem.W.kitOne G.K t (cn.val G)=some b∧K (.bl b) S1):den G (.isi a cn) δ S Y K:=by rw [den];exact h
theorem b41 {j:Nat} (h:a7z G.K (G.cl j)) (k:∀ a,K (.err a (G.cl j) [] true) S):den G (.mkx j) δ S Y K:=by rw [den];exact ⟨h,k⟩
theorem b49 (h:den G a δ S Y fun x S1=>a5B G.K x S1 K):den G (.rpx a) δ S Y K:=by rw [den];exact h
instance b6r:Rdg (den G (.rpx a) δ S Y K) (den G a δ S Y fun x S1=>a5B G.K x S1 K):=⟨b49⟩
theorem b4Z {js:List Nat} (h:den G a δ S Y fun x S1=>∃ t b,tyD S1 x=some t∧a3c G S1 x∧PySem.W.kitAny G.K t (js.map fun j=>Value.ref (G.cl j))=some b∧K (.bl b) S1):den G (.ist a js) δ S Y K:=by rw [den];exact h
instance b6h {cn:Cn}:Rdg (den G (.isi a cn) δ S Y K) (den G a δ S Y fun x S1=>∃ t b,tyD S1 x=some t∧a3c G S1 x∧PySem.W.kitOne G.K t (cn.val G)=some b∧K (.bl b) S1):=⟨b4Y⟩
instance b6i {js:List Nat}:Rdg (den G (.ist a js) δ S Y K) (den G a δ S Y fun x S1=>∃ t b,tyD S1 x=some t∧a3c G S1 x∧PySem.W.kitAny G.K t (js.map fun j=>Value.ref (G.cl j))=some b∧K (.bl b) S1):=⟨b4Z⟩
theorem b5u (k:KL [] S):a0l G .nil δ S Y KL:=by rw [a0l];exact k
instance b6G  : Rdg (a0l G .nil δ S Y KL) (KL [] S):=⟨b5u⟩
theorem b1R (k:den G a δ S Y fun d S1=>a0l G es δ S1 Y fun ds S2=>KL (d :: ds) S2):a0l G (.cons a es) δ S Y KL:=by rw [a0l];exact k
instance b30  : Rdg (a0l G (.cons a es) δ S Y KL) (den G a δ S Y fun d S1=>a0l G es δ S1 Y fun ds S2=>KL (d :: ds) S2):=⟨b1R⟩
theorem b1O {Q:Int→Prop} (k:Q i):∃ j,D.int i=.int j∧Q j:=⟨i,rfl,k⟩
instance b3Z {Q:Int→Prop}:Rdg (∃ j,D.int i=.int j∧Q j) (Q i):=⟨b1O⟩
theorem b4A {b:Bool} {Q:Bool→Prop} (k:Q b):∃ j,D.bl b=.bl j∧Q j:=⟨b,rfl,k⟩
instance b5W {b:Bool} {Q:Bool→Prop}:Rdg (∃ j,D.bl b=.bl j∧Q j) (Q b):=⟨b4A⟩
theorem b4Q (h:den G a δ S Y fun x S1=>den G b δ S1 Y fun y S2=>a80 x y S2 K):den G (.adc a b) δ S Y K:=by rw [den];exact h
instance b59  : Rdg (den G (.adc a b) δ S Y K) (den G a δ S Y fun x S1=>den G b δ S1 Y fun y S2=>a80 x y S2 K):=⟨b4Q⟩
theorem b5t {Q:Str→Prop} {z:Str} (k:Q z):∃ z',D.str z=.str z'∧Q z':=⟨z,rfl,k⟩
instance b6E {Q:Str→Prop} {z:Str}:Rdg (∃ z',D.str z=.str z'∧Q z') (Q z):=⟨b5t⟩
theorem b9v (h:a0j G a δ S Y fun b S1=>KT (!b) S1):a0j G (.nt a) δ S Y KT:=by rw [a0j];exact h
instance b8f  : Rdg (a0j G (.nt a) δ S Y KT) (a0j G a δ S Y fun b S1=>KT (!b) S1):=⟨b9v⟩
theorem b7o (h:a0u G es δ S Y KT):a0j G (.and es) δ S Y KT:=by rw [a0j];exact h
instance b63  : Rdg (a0j G (.and es) δ S Y KT) (a0u G es δ S Y KT):=⟨b7o⟩
theorem b9w (h:a0F G es δ S Y KT):a0j G (.or es) δ S Y KT:=by rw [a0j];exact h
instance b8g  : Rdg (a0j G (.or es) δ S Y KT) (a0F G es δ S Y KT):=⟨b9w⟩
theorem b3g (h:a0j G a δ S Y KT):a0u G (.cons a .nil) δ S Y KT:=by rw [a0u];exact h
instance b4h  : Rdg (a0u G (.cons a .nil) δ S Y KT) (a0j G a δ S Y KT):=⟨b3g⟩
theorem b7v (h:a0j G a δ S Y KT):a0F G (.cons a .nil) δ S Y KT:=by rw [a0F];exact h
instance b7a  : Rdg (a0F G (.cons a .nil) δ S Y KT) (a0j G a δ S Y KT):=⟨b7v⟩
theorem b3h (h:a0j G a δ S Y fun k S1=>if k=true then a0u G (.cons b es) δ S1 Y KT else KT false S1):a0u G (.cons a (.cons b es)) δ S Y KT:=by rw [a0u];exact h
instance b4i  : Rdg (a0u G (.cons a (.cons b es)) δ S Y KT) (a0j G a δ S Y fun k S1=>if k=true then a0u G (.cons b es) δ S1 Y KT else KT false S1):=⟨b3h⟩
theorem b7w (h:a0j G a δ S Y fun k S1=>if k=true then KT true S1 else a0F G (.cons b es) δ S1 Y KT):a0F G (.cons a (.cons b es)) δ S Y KT:=by rw [a0F];exact h
instance b7b  : Rdg (a0F G (.cons a (.cons b es)) δ S Y KT) (a0j G a δ S Y fun k S1=>if k=true then KT true S1 else a0F G (.cons b es) δ S1 Y KT):=⟨b7w⟩
theorem b7q {op:CmpOp} (h:den G a δ S Y fun x S1=>den G b δ S1 Y fun y S2=>a0t op x y S2 fun d S'=>∃ k,d=.bl k∧KT k S'):a0j G (.cmp op a b) δ S Y KT:=by rw [a0j];exact h
instance b65 {op:CmpOp}:Rdg (a0j G (.cmp op a b) δ S Y KT) (den G a δ S Y fun x S1=>den G b δ S1 Y fun y S2=>a0t op x y S2 fun d S'=>∃ k,d=.bl k∧KT k S'):=⟨b7q⟩
theorem b7p {o1 o2:CmpOp} (h:den G a δ S Y fun x S1=>den G b δ S1 Y fun y S2=>a0t o1 x y S2 fun z S3=>∃ k,z=.bl k∧if k=true then den G c δ S3 Y fun w S4=>a0t o2 y w S4 fun d S'=>∃ k,d=.bl k∧KT k S' else ∃ k,D.bl false=.bl k∧KT k S3):a0j G (.chn o1 o2 a b c) δ S Y KT:=by rw [a0j];exact h
instance b64 {o1 o2:CmpOp}:Rdg (a0j G (.chn o1 o2 a b c) δ S Y KT) (den G a δ S Y fun x S1=>den G b δ S1 Y fun y S2=>a0t o1 x y S2 fun z S3=>∃ k,z=.bl k∧if k=true then den G c δ S3 Y fun w S4=>a0t o2 y w S4 fun d S'=>∃ k,d=.bl k∧KT k S' else ∃ k,D.bl false=.bl k∧KT k S3):=⟨b7p⟩
theorem b7x {i:Nat} (h:δ[i]?=some (some d)) (k:a0R d S fun b=>KT b S):a0j G (.var i) δ S Y KT:=by rw [a0j];dsimp only;rw [h];exact k
theorem b9u (h:den G a δ S Y fun x S1=>den G b δ S1 Y fun y S2=>ixD x y S2 fun d S3=>a0R d S3 fun b=>KT b S3):a0j G (.ix a b) δ S Y KT:=by rw [a0j];exact h
instance b8e  : Rdg (a0j G (.ix a b) δ S Y KT) (den G a δ S Y fun x S1=>den G b δ S1 Y fun y S2=>ixD x y S2 fun d S3=>a0R d S3 fun b=>KT b S3):=⟨b9u⟩
theorem a8M {j:Nat} {T:TR} (hT:G.fn G.m0.isSome j=some T) (h:a0l G es δ S Y fun ds S1=>T G.m0 ds S1 (fun d S3=>a0R d S3 fun b=>KT b S3) fun C fs S'=>Y C fs δ S'):a0j G (.call j es) δ S Y KT:=by rw [a0j];exact ⟨T,hT,h⟩
theorem b7s {cn:Cn} (h:den G a δ S Y fun x S1=>∃ t b,tyD S1 x=some t∧a3c G S1 x∧PySem.W.kitOne G.K t (cn.val G)=some b∧KT b S1):a0j G (.isi a cn) δ S Y KT:=by rw [a0j];exact h
theorem b7t {js:List Nat} (h:den G a δ S Y fun x S1=>∃ t b,tyD S1 x=some t∧a3c G S1 x∧PySem.W.kitAny G.K t (js.map fun j=>Value.ref (G.cl j))=some b∧KT b S1):a0j G (.ist a js) δ S Y KT:=by rw [a0j];exact h
instance b67 {cn:Cn}:Rdg (a0j G (.isi a cn) δ S Y KT) (den G a δ S Y fun x S1=>∃ t b,tyD S1 x=some t∧a3c G S1 x∧PySem.W.kitOne G.K t (cn.val G)=some b∧KT b S1):=⟨b7s⟩
instance b68 {js:List Nat}:Rdg (a0j G (.ist a js) δ S Y KT) (den G a δ S Y fun x S1=>∃ t b,tyD S1 x=some t∧a3c G S1 x∧PySem.W.kitAny G.K t (js.map fun j=>Value.ref (G.cl j))=some b∧KT b S1):=⟨b7t⟩
theorem b7r {f:Str} (h:den G a δ S Y fun x S1=>a7O G f x S1 fun d S3=>a0R d S3 fun b=>KT b S3):a0j G (.fld a f) δ S Y KT:=by rw [a0j];exact h
instance b66 {f:Str}:Rdg (a0j G (.fld a f) δ S Y KT) (den G a δ S Y fun x S1=>a7O G f x S1 fun d S3=>a0R d S3 fun b=>KT b S3):=⟨b7r⟩
theorem b7y {b:Bool} {Q:Bool→Prop} (k:Q b):a0R (.bl b) S Q:=k
instance b7c {b:Bool} {Q:Bool→Prop}:Rdg (a0R (.bl b) S Q) (Q b):=⟨b7y⟩
theorem b3l {Q:Bool→Prop} (k:Q (i != 0)):a0R (.int i) S Q:=k
instance b4j {Q:Bool→Prop}:Rdg (a0R (.int i) S Q) (Q (i != 0)):=⟨b3l⟩
theorem b5E (k:K (.int (i + j)) S):opD .Add (.int i) (.int j) S K:=k
instance b6S  : Rdg (opD .Add (.int i) (.int j) S K) (K (.int (i + j)) S):=⟨b5E⟩
theorem b5F (k:K (.int (i - j)) S):opD .Sub (.int i) (.int j) S K:=k
instance b6T  : Rdg (opD .Sub (.int i) (.int j) S K) (K (.int (i - j)) S):=⟨b5F⟩
theorem a4b (h:CMul i j∨CMulW i j) (k:K (.int (i * j)) S):opD .Mult (.int i) (.int j) S K:=⟨h,k⟩
theorem b19 (h:CDivW i j) (k:K (.int (i / j)) S):opD .FloorDiv (.int i) (.int j) S K:=⟨h,k⟩
theorem a2Q (h:0 < j) (k:K (.int (i % j)) S):opD .Mod (.int i) (.int j) S K:=⟨h,k⟩
theorem a6O (h:CPow i j) (k:K (.int (i ^ j.toNat)) S):opD .Pow (.int i) (.int j) S K:=⟨h,k⟩
theorem b18 {l m:List D} (h:l.length + m.length≤sizeLine) (k:K (.lst (l ++ m)) S):opD .Add (.lst l) (.lst m) S K:=⟨h,k⟩
theorem a2b {l m:Str} (h:l.length + m.length≤sizeLine) (k:K (.str (l ++ m)) S):opD .Add (.str l) (.str m) S K:=⟨h,k⟩
theorem b7M:D.eqv (.int i) (.int j)=decide (i=j):=by
 simp only [D.eqv,D.py,PyData.eqv]
 rw [Bool.eq_iff_iff];simp
theorem b4C (k:K (.bl (decide (i=j))) S):a0t .Eq (.int i) (.int j) S K:=.inl ⟨rfl,rfl,by rw [Bool.false_xor];rw [← b7M] at k;exact k⟩
instance b5X  : Rdg (a0t .Eq (.int i) (.int j) S K) (K (.bl (decide (i=j))) S):=⟨b4C⟩
theorem b4K (k:K (.bl (!decide (i=j))) S):a0t .NotEq (.int i) (.int j) S K:=.inl ⟨rfl,rfl,by rw [Bool.true_xor];rw [← b7M] at k;exact k⟩
instance b55  : Rdg (a0t .NotEq (.int i) (.int j) S K) (K (.bl (!decide (i=j))) S):=⟨b4K⟩
theorem b4J (k:K (.bl (decide (i < j))) S):a0t .Lt (.int i) (.int j) S K:=.inl k
instance b54  : Rdg (a0t .Lt (.int i) (.int j) S K) (K (.bl (decide (i < j))) S):=⟨b4J⟩
theorem b4I (k:K (.bl (decide (i≤j))) S):a0t .LtE (.int i) (.int j) S K:=k
instance b53  : Rdg (a0t .LtE (.int i) (.int j) S K) (K (.bl (decide (i≤j))) S):=⟨b4I⟩
theorem b4F (k:K (.bl (decide (j < i))) S):a0t .Gt (.int i) (.int j) S K:=k
instance b50  : Rdg (a0t .Gt (.int i) (.int j) S K) (K (.bl (decide (j < i))) S):=⟨b4F⟩
theorem b4E (k:K (.bl (decide (j≤i))) S):a0t .GtE (.int i) (.int j) S K:=k
instance b5Z  : Rdg (a0t .GtE (.int i) (.int j) S K) (K (.bl (decide (j≤i))) S):=⟨b4E⟩
theorem b0Q {x y:D} (hx:D.okd 60 (vw S x)=true) (hy:D.okd 60 (vw S y)=true) (k:K (.bl (D.eqv (vw S x) (vw S y))) S):a0t .Eq x y S K:=.inl ⟨hx,hy,by rw [Bool.false_xor];exact k⟩
theorem b4M {x y:D} (hx:D.okd 60 (vw S x)=true) (hy:D.okd 60 (vw S y)=true) (k:K (.bl (!D.eqv (vw S x) (vw S y))) S):a0t .NotEq x y S K:=.inl ⟨hx,hy,by rw [Bool.true_xor];exact k⟩
theorem b9y {b:Addr} {l:List D} (h:S b=some (.lst l)):vw S (.obj b)=.lst l:=by simp only [vw,h]
theorem a6t {l:List D} (h:S p=some (.lst l)) (e:atI l i=some d) (k:K d S):ixD (.obj p) (.int i) S K:=by
 unfold ixD;rw [b9y h];exact ⟨d,e,k⟩
theorem a3P {l:List D} (e:atI l i=some d) (k:K d S):ixD (.lst l) (.int i) S K:=⟨d,e,k⟩
theorem b7Q {z:Str} {c:Nat} (hz:z.length≤sizeLine) (e:atI z.cps.toList i=some c) (k:K (.str ⟨#[c]⟩) S):ixD (.str z) (.int i) S K:=⟨c,hz,e,k⟩
theorem b9q {l:List D} {lo hi:Option Int} (k:K (.lst (cutD l lo hi)) S):slD (.lst l) lo hi S K:=k
instance b8d {l:List D} {lo hi:Option Int}:Rdg (slD (.lst l) lo hi S K) (K (.lst (cutD l lo hi)) S):=⟨b9q⟩
theorem b0s {z:Str} {lo hi:Option Int} (hz:z.length≤sizeLine) (k:K (.str (cutS z lo hi)) S):slD (.str z) lo hi S K:=⟨hz,k⟩
theorem b5w {l:List D} (k:K (.int l.length) S):Bn.len.den [.lst l] S K:=k
instance b6I {l:List D}:Rdg (Bn.len.den [.lst l] S K) (K (.int l.length) S):=⟨b5w⟩
theorem b5x {l:List D} (k:K (.int l.length) S):Bn.len.den [.tup l] S K:=k
instance b6J {l:List D}:Rdg (Bn.len.den [.tup l] S K) (K (.int l.length) S):=⟨b5x⟩
theorem a72 {z:Str} (hz:z.length≤sizeLine) (k:K (.int z.length) S):Bn.len.den [.str z] S K:=⟨hz,k⟩
theorem b4q (k:K (.int (if i < 0 then -i else i)) S):Bn.abs.den [.int i] S K:=k
instance b5S  : Rdg (Bn.abs.den [.int i] S K) (K (.int (if i < 0 then -i else i)) S):=⟨b4q⟩
theorem a5T {α:Type} {f:α→D} {l:List α} {k:Nat} {x:α} (h:l[k]?=some x):atI (l.map f) (k:Int)=some (f x):=by
 have hk:k < l.length:=by
  obtain ⟨z,_⟩:=List.getElem?_eq_some_iff.mp h
  exact z
 exact atI_nat (by rw [zbb,h];rfl)
end
section
variable {G:Gs} {δ:DS} {S:SS} {Y:XD'} {F:SE} {a b c e:RE} {r r2:RSs} {s:RS} {d:D}
theorem b2Q (h:F.nx δ S):a0f G .nil δ S Y F:=by rw [a0f];exact h
instance b32  : Rdg (a0f G .nil δ S Y F) (F.nx δ S):=⟨b2Q⟩
theorem b0d (h:a0k G s δ S Y { F with nx:=fun δ1 S1=>a0f G r δ1 S1 Y F }):a0f G (.cons s r) δ S Y F:=by rw [a0f];exact h
instance b2A  : Rdg (a0f G (.cons s r) δ S Y F) (a0k G s δ S Y { F with nx:=fun δ1 S1=>a0f G r δ1 S1 Y F }):=⟨b0d⟩
theorem a3G (J:DS→SS→Prop) (h:a0k G s δ S Y { F with nx:=J }) (h2:∀ δ1 S1,J δ1 S1→a0f G r δ1 S1 Y F):a0f G (.cut s r) δ S Y F:=by rw [a0f];exact ⟨J,h,h2⟩
theorem b22 (h:den G.toGm e δ S Y fun _ S1=>F.nx δ S1):a0k G (.exp e) δ S Y F:=by rw [a0k];exact h
instance b36  : Rdg (a0k G (.exp e) δ S Y F) (den G.toGm e δ S Y fun _ S1=>F.nx δ S1):=⟨b22⟩
theorem b20 {i:Nat} (h:den G.toGm e δ S Y fun d S1=>F.nx (δ.set i (some d)) S1):a0k G (.asg [i] true e) δ S Y F:=by
 rw [a0k];exact ⟨(fun z=>nomatch z),h⟩
instance b34 {i:Nat}:Rdg (a0k G (.asg [i] true e) δ S Y F) (den G.toGm e δ S Y fun d S1=>F.nx (δ.set i (some d)) S1):=⟨b20⟩
theorem b21 {i:Nat} (h:den G.toGm e δ S Y fun d S1=>F.nx (δ.set i (some d)) S1):a0k G (.asl i e) δ S Y F:=by rw [a0k];exact h
instance b35 {i:Nat}:Rdg (a0k G (.asl i e) δ S Y F) (den G.toGm e δ S Y fun d S1=>F.nx (δ.set i (some d)) S1):=⟨b21⟩
theorem b27 (h:den G.toGm c δ S Y fun z S1=>den G.toGm a δ S1 Y fun x S2=>den G.toGm b δ S2 Y fun y S3=>a7y x y z S3 fun S4=>F.nx δ S4):a0k G (.sti a b c) δ S Y F:=by rw [a0k];exact h
instance b4c  : Rdg (a0k G (.sti a b c) δ S Y F) (den G.toGm c δ S Y fun z S1=>den G.toGm a δ S1 Y fun x S2=>den G.toGm b δ S2 Y fun y S3=>a7y x y z S3 fun S4=>F.nx δ S4):=⟨b27⟩
theorem b2Z {op:Operator} (h:den G.toGm a δ S Y fun x S1=>den G.toGm b δ S1 Y fun y S2=>a3X x y S2 fun u S3=>den G.toGm e δ S3 Y fun w S4=>a85 op u w S4 fun z S5=>a7y x y z S5 fun S6=>F.nx δ S6):a0k G (.agi a b op e) δ S Y F:=by rw [a0k];exact h
instance b33 {op:Operator}:Rdg (a0k G (.agi a b op e) δ S Y F) (den G.toGm a δ S Y fun x S1=>den G.toGm b δ S1 Y fun y S2=>a3X x y S2 fun u S3=>den G.toGm e δ S3 Y fun w S4=>a85 op u w S4 fun z S5=>a7y x y z S5 fun S6=>F.nx δ S6):=⟨b2Z⟩
theorem b23 (h:a0j G.toGm c δ S Y fun k S1=>if k=true then a0f G r δ S1 Y F else a0f G r2 δ S1 Y F):a0k G (.ifs c r r2) δ S Y F:=by rw [a0k];exact h
instance b37  : Rdg (a0k G (.ifs c r r2) δ S Y F) (a0j G.toGm c δ S Y fun k S1=>if k=true then a0f G r δ S1 Y F else a0f G r2 δ S1 Y F):=⟨b23⟩
theorem st_ret (h:den G.toGm e δ S Y F.rt):a0k G (.ret e) δ S Y F:=by rw [a0k];exact h
instance b4a  : Rdg (a0k G (.ret e) δ S Y F) (den G.toGm e δ S Y F.rt):=⟨st_ret⟩
theorem b0e (h:F.rt .non S):a0k G .retN δ S Y F:=by rw [a0k];exact h
instance b2B  : Rdg (a0k G .retN δ S Y F) (F.rt .non S):=⟨b0e⟩
theorem b25 (h:F.nx δ S):a0k G .pas δ S Y F:=by rw [a0k];exact h
instance b39  : Rdg (a0k G .pas δ S Y F) (F.nx δ S):=⟨b25⟩
theorem a8j {p:Addr} {l:List D} {i:Int} {j:Nat} {z:D} {K:SS→Prop} (h:S p=some (.lst l)) (e:ixN l.length i=some j) (k:K (S.set p (.lst (l.set j z)))):a7y (.obj p) (.int i) z S K:=by
 unfold a7y;simp only [h];exact ⟨i,j,rfl,e,k⟩
theorem b5j {p:Addr} {l:List D} {i:Int} {K:DK} (h:S p=some (.lst l)) (e:atI l i=some d) (k:K d S):a3X (.obj p) (.int i) S K:=by
 unfold a3X;simp only [h];exact ⟨i,d,rfl,e,k⟩
theorem b4y {i j:Int} {K:DK} (k:K (.int (i + j)) S):a85 .Add (.int i) (.int j) S K:=k
instance b5U {i j:Int} {K:DK}:Rdg (a85 .Add (.int i) (.int j) S K) (K (.int (i + j)) S):=⟨b4y⟩
end
end Sv
namespace Sv
open PySem PySem.Spec PyProof.Rows L2
section
variable {G:Gm} {δ:DS} {S:SS} {Y:XD'} {K:DK}
def LcK (G:Gm) (cell:Bool) (elt:RE) (tg:List Nat) (one:Bool) (c:RO) (own:List Nat) (δ:DS) (K:DK) (ds:List D) (ok:SS→Prop) (S1:SS):Prop :=
 ∀ p,S1 p=none→∃ Iv:Nat→SS→Prop,Iv 0 (S1.set p (.lst []))∧(∀ i S',Iv i S'→i≤ds.length→ok S') ∧
   (∀ i d S',ds[i]?=some d→Iv i S'→a1d tg one d (a4r δ own) S' fun δ2 S2=>a3N G c δ2 S2 noX fun b S3 =>
    if b=true then den G elt δ2 S3 noX fun y S4=>∃ acc,S4 p=some (.lst acc)∧acc.length < sizeLine∧Iv (i + 1) (S4.set p (.lst (acc ++ [y]))) else Iv (i + 1) S3) ∧
   (∀ S',Iv ds.length S'→∃ acc,S' p=some (.lst acc)∧if cell=true then K (.obj p) S' else K (.lst acc) (S'.del p))
theorem b8C {cell:Bool} {elt:RE} {tg:List Nat} {one:Bool} {it:RI} {c:RO} {own:List (Str × Nat)} (hm:G.m0=none) (h:a0y G it δ S Y fun ds ok S1=>LcK G cell elt tg one c (own.map (·.2)) δ K ds ok S1):den G (.lc cell elt tg one it c own) δ S Y K:=by
 rw [den];exact ⟨hm,h⟩
instance b71 {cell:Bool} {elt:RE} {tg:List Nat} {one:Bool} {it:RI} {c:RO} {own:List (Str × Nat)} [M:M0 G.m0]:Rdg (den G (.lc cell elt tg one it c own) δ S Y K) (a0y G it δ S Y fun ds ok S1=>LcK G cell elt tg one c (own.map (·.2)) δ K ds ok S1):=⟨b8C M.out⟩
theorem i_l {e:RE} {KI:List D→(SS→Prop)→SS→Prop} (h:den G e δ S Y fun d S1=>∃ ds,vw S1 d=.lst ds∧KI ds (fun S'=>vw S' d=.lst ds) S1):a0y G (.lst e) δ S Y KI:=by rw [a0y];exact h
instance b9c {e:RE} {KI:List D→(SS→Prop)→SS→Prop}:Rdg (a0y G (.lst e) δ S Y KI) (den G e δ S Y fun d S1=>∃ ds,vw S1 d=.lst ds∧KI ds (fun S'=>vw S' d=.lst ds) S1):=⟨i_l⟩
theorem i_t {e:RE} {KI:List D→(SS→Prop)→SS→Prop} (h:den G e δ S Y fun d S1=>∃ ds,vw S1 d=.tup ds∧KI ds (fun S'=>True) S1):a0y G (.tup e) δ S Y KI:=by rw [a0y];exact h
instance b9e {e:RE} {KI:List D→(SS→Prop)→SS→Prop}:Rdg (a0y G (.tup e) δ S Y KI) (den G e δ S Y fun d S1=>∃ ds,vw S1 d=.tup ds∧KI ds (fun S'=>True) S1):=⟨i_t⟩
theorem b8O {e:RE} {KI:List D→(SS→Prop)→SS→Prop} (h:den G e δ S Y fun d S1=>∃ j,d=.int j∧-(2 ^ 62)≤j∧j < 2 ^ 62∧KI (a4h 0 j.toNat) (fun _=>True) S1):a0y G (.rng1 e) δ S Y KI:=by rw [a0y];exact h
instance b79 {e:RE} {KI:List D→(SS→Prop)→SS→Prop}:Rdg (a0y G (.rng1 e) δ S Y KI) (den G e δ S Y fun d S1=>∃ j,d=.int j∧-(2 ^ 62)≤j∧j < 2 ^ 62∧KI (a4h 0 j.toNat) (fun _=>True) S1):=⟨b8O⟩
theorem a7Z {elt:RE} {tg:List Nat} {one:Bool} {c:RO} {own:List Nat} {ds:List D} {ok:SS→Prop} (f:D→D) (g:D→Bool) (hz:ds.length≤sizeLine) (hok:∀ acc p,S p=none→ok (S.set p (.lst acc)))
  (hs:∀ (p:Addr) (i:Nat) (acc:List D) (d:D) (KK:DK) (KN:SS→Prop),ds[i]?=some d→S p=none→(g d=true→KK (f d) (S.set p (.lst acc)))→(g d=false→KN (S.set p (.lst acc))) →
   a1d tg one d (a4r δ own) (S.set p (.lst acc)) fun δ2 S2=>a3N G c δ2 S2 noX fun b S3=>if b=true then den G elt δ2 S3 noX KK else KN S3)
  (hl:K (.lst ((ds.filter g).map f)) S):LcK G false elt tg one c own δ K ds ok S:=by
 intro p hp
 have hcl:∀ i,i < ds.length→(((ds.take i).filter g).map f).length < sizeLine:=fun i hi=>by
  rw [zag]
  have:=List.length_filter_le g (ds.take i)
  rw [List.length_take] at this
  omega
 refine ⟨fun i S'=>S'=S.set p (.lst (((ds.take i).filter g).map f)),rfl,?_,?_,?_⟩
 ·rintro i S' rfl _
  exact hok _ p hp
 ·rintro i d S' hd rfl
  have hi:i < ds.length:=by
   obtain ⟨z,_⟩:=List.getElem?_eq_some_iff.mp hd
   exact z
  have et:ds.take (i + 1)=ds.take i ++ [d]:=by
   rw [List.take_add_one,hd];rfl
  refine hs p i _ d _ _ hd hp (fun hg=>⟨_,zab,hcl i hi,?_⟩) fun hg=>?_
  ·rw [zac]
   show _=S.set p (.lst (((ds.take (i + 1)).filter g).map f))
   rw [et,List.filter_append,zau]
   simp [hg]
  ·show _=S.set p (.lst (((ds.take (i + 1)).filter g).map f))
   rw [et,List.filter_append,zau]
   simp [hg]
 ·rintro S' rfl
  refine ⟨_,zab,?_⟩
  rw [if_neg zaz,zaf hp,List.take_length]
  exact hl
theorem b3w {KT:Bool→SS→Prop} (k:KT true S):a3N G .nn δ S Y KT:=by rw [a3N];exact k
theorem b8u {KT:Bool→SS→Prop} {e:RE} (k:a0j G e δ S Y KT):a3N G (.ss e) δ S Y KT:=by rw [a3N];exact k
theorem b0u {i:Nat} {d:D} {Q:DS→SS→Prop} (k:Q (δ.set i (some d)) S):a1d [i] true d δ S Q:=k
end
section
variable {G:Gs} {δ:DS} {S:SS} {Y:XD'} {F:SE}
theorem b7k {tg:List Nat} {one:Bool} {it:RI} {b:RSs} (hm:G.m0=none) (h:a0y G.toGm it δ S Y fun ds ok S1=>∃ Iv:Nat→DS→SS→Prop,Iv 0 δ S1∧(∀ i δ' S',Iv i δ' S'→i≤ds.length→ok S') ∧
   (∀ i d δ' S',ds[i]?=some d→Iv i δ' S'→a1d tg one d δ' S' fun δ2 S2=>a0f G b δ2 S2 Y { F with nx:=Iv (i + 1),ct:=Iv (i + 1),bk:=F.nx })∧(∀ δ' S',Iv ds.length δ' S'→F.nx δ' S')):a0k G (.fr tg one it b) δ S Y F:=by
 rw [a0k];exact ⟨hm,h⟩
instance b62 {tg:List Nat} {one:Bool} {it:RI} {b:RSs} [M:M0 G.m0]:Rdg (a0k G (.fr tg one it b) δ S Y F) (a0y G.toGm it δ S Y fun ds ok S1=>∃ Iv:Nat→DS→SS→Prop,Iv 0 δ S1∧(∀ i δ' S',Iv i δ' S'→i≤ds.length→ok S') ∧
   (∀ i d δ' S',ds[i]?=some d→Iv i δ' S'→a1d tg one d δ' S' fun δ2 S2=>a0f G b δ2 S2 Y { F with nx:=Iv (i + 1),ct:=Iv (i + 1),bk:=F.nx })∧(∀ δ' S',Iv ds.length δ' S'→F.nx δ' S')):=⟨b7k M.out⟩
theorem b28 {b s:RSs} {j i:Nat} (hm:G.m0=none) (h:a0f G b δ S (fun C fs δ' S'=>∃ k,PySem.W.exmOne G.K (.ref C) (.ref (G.cl j))=some k ∧
   (k=true→∀ a oe,a0f (G.suite a oe) s (δ'.set i (some (.exc a oe C fs))) S' noX { F with nx:=fun δ2 S2=>F.nx (δ2.set i none) S2,bk:=fun δ2 S2=>F.bk (δ2.set i none) S2,ct:=fun δ2 S2=>F.ct (δ2.set i none) S2 }) ∧
   (k=false→Y C fs δ' S')) F):a0k G (.tra b j i s) δ S Y F:=by
 rw [a0k];exact ⟨hm,h⟩
instance b4d {b s:RSs} {j i:Nat} [M:M0 G.m0]:Rdg (a0k G (.tra b j i s) δ S Y F) (a0f G b δ S (fun C fs δ' S'=>∃ k,PySem.W.exmOne G.K (.ref C) (.ref (G.cl j))=some k ∧
   (k=true→∀ a oe,a0f (G.suite a oe) s (δ'.set i (some (.exc a oe C fs))) S' noX { F with nx:=fun δ2 S2=>F.nx (δ2.set i none) S2,bk:=fun δ2 S2=>F.bk (δ2.set i none) S2,ct:=fun δ2 S2=>F.ct (δ2.set i none) S2 }) ∧
   (k=false→Y C fs δ' S')) F):=⟨b28 M.out⟩
theorem b3a {b s:RSs} {j:Nat} (hm:G.m0=none) (h:a0f G b δ S (fun C fs δ' S'=>∃ k,PySem.W.exmOne G.K (.ref C) (.ref (G.cl j))=some k∧(k=true→∀ a oe,a0f (G.suite a oe) s δ' S' noX F)∧(k=false→Y C fs δ' S')) F):a0k G (.tro b j s) δ S Y F:=by
 rw [a0k];exact ⟨hm,h⟩
instance b4f {b s:RSs} {j:Nat} [M:M0 G.m0]:Rdg (a0k G (.tro b j s) δ S Y F) (a0f G b δ S (fun C fs δ' S'=>∃ k,PySem.W.exmOne G.K (.ref C) (.ref (G.cl j))=some k∧(k=true→∀ a oe,a0f (G.suite a oe) s δ' S' noX F)∧(k=false→Y C fs δ' S')) F):=⟨b3a M.out⟩
end
end Sv
namespace Sv
open PySem PySem.Spec PyProof.Rows L2
section
variable {G:Gm} {δ:DS} {S:SS} {Y:XD'} {K:DK} {KT:Bool→SS→Prop} {KL:List D→SS→Prop} {KP:List (D × D)→SS→Prop} {KI:List D→(SS→Prop)→SS→Prop} {a b c e:RE} {es:RL} {ps:RQ} {d x y:D} {i j:Int} {p:Addr} {m:Str} {cell:Bool}
theorem b1h (h:a0l G es δ S Y fun ds S1=>Bn.rpr.den ds S1 K):den G (.bi .rpr es) δ S Y K:=a2M trivial h
instance b3S  : Rdg (den G (.bi .rpr es) δ S Y K) (a0l G es δ S Y fun ds S1=>Bn.rpr.den ds S1 K):=⟨b1h⟩
theorem b09 (h:a0l G es δ S Y fun ds S1=>Bn.int.den ds S1 K):den G (.bi .int es) δ S Y K:=a2M trivial h
instance b3K  : Rdg (den G (.bi .int es) δ S Y K) (a0l G es δ S Y fun ds S1=>Bn.int.den ds S1 K):=⟨b09⟩
theorem b1d (h:a0l G es δ S Y fun ds S1=>(Bn.lst cell).den ds S1 K):den G (.bi (.lst cell) es) δ S Y K:=a2M trivial h
instance b3O  : Rdg (den G (.bi (.lst cell) es) δ S Y K) (a0l G es δ S Y fun ds S1=>(Bn.lst cell).den ds S1 K):=⟨b1d⟩
theorem b1n (h:a0l G es δ S Y fun ds S1=>Bn.tup.den ds S1 K):den G (.bi .tup es) δ S Y K:=a2M trivial h
instance b3Y  : Rdg (den G (.bi .tup es) δ S Y K) (a0l G es δ S Y fun ds S1=>Bn.tup.den ds S1 K):=⟨b1n⟩
theorem b08 (h:a0l G es δ S Y fun ds S1=>(Bn.dic cell).den ds S1 K):den G (.bi (.dic cell) es) δ S Y K:=a2M trivial h
instance b3J  : Rdg (den G (.bi (.dic cell) es) δ S Y K) (a0l G es δ S Y fun ds S1=>(Bn.dic cell).den ds S1 K):=⟨b08⟩
theorem b1k (hm:G.m0=none) (h:a0l G es δ S Y fun ds S1=>(Bn.srt cell).den ds S1 K):den G (.bi (.srt cell) es) δ S Y K:=a2M hm h
instance b3V  [M:M0 G.m0]:Rdg (den G (.bi (.srt cell) es) δ S Y K) (a0l G es δ S Y fun ds S1=>(Bn.srt cell).den ds S1 K):=⟨b1k M.out⟩
theorem b42 {b:Mn} (h:den G a δ S Y fun x S1=>b.rc x S1∧a0l G es δ S1 Y fun ds S2=>b.den x ds S2 K):den G (.mth b a es) δ S Y K:=by rw [den];exact h
instance b6k {b:Mn}:Rdg (den G (.mth b a es) δ S Y K) (den G a δ S Y fun x S1=>b.rc x S1∧a0l G es δ S1 Y fun ds S2=>b.den x ds S2 K):=⟨b42⟩
theorem b7u {b:Mn} (h:den G a δ S Y fun x S1=>b.rc x S1∧a0l G es δ S1 Y fun ds S2=>b.den x ds S2 fun d S3=>a0R d S3 fun b=>KT b S3):a0j G (.mth b a es) δ S Y KT:=by rw [a0j];exact h
instance b69 {b:Mn}:Rdg (a0j G (.mth b a es) δ S Y KT) (den G a δ S Y fun x S1=>b.rc x S1∧a0l G es δ S1 Y fun ds S2=>b.den x ds S2 fun d S3=>a0R d S3 fun b=>KT b S3):=⟨b7u⟩
theorem b07 (hm:G.m0=none) (h:a0l G es δ S Y fun ds S1=>(Bn.dcp cell).den ds S1 K):den G (.bi (.dcp cell) es) δ S Y K:=a2M hm h
instance b3I  [M:M0 G.m0]:Rdg (den G (.bi (.dcp cell) es) δ S Y K) (a0l G es δ S Y fun ds S1=>(Bn.dcp cell).den ds S1 K):=⟨b07 M.out⟩
theorem b06 (hm:G.m0=none) (h:a0l G es δ S Y fun ds S1=>Bn.all.den ds S1 K):den G (.bi .all es) δ S Y K:=a2M hm h
instance b3H  [M:M0 G.m0]:Rdg (den G (.bi .all es) δ S Y K) (a0l G es δ S Y fun ds S1=>Bn.all.den ds S1 K):=⟨b06 M.out⟩
theorem b1m (hm:G.m0=none) (h:a0l G es δ S Y fun ds S1=>Bn.sum.den ds S1 K):den G (.bi .sum es) δ S Y K:=a2M hm h
instance b3X  [M:M0 G.m0]:Rdg (den G (.bi .sum es) δ S Y K) (a0l G es δ S Y fun ds S1=>Bn.sum.den ds S1 K):=⟨b1m M.out⟩
theorem b1b (hm:G.m0=none) (h:a0l G es δ S Y fun ds S1=>(Bn.lsk cell).den ds S1 K):den G (.bi (.lsk cell) es) δ S Y K:=a2M hm h
instance b3M  [M:M0 G.m0]:Rdg (den G (.bi (.lsk cell) es) δ S Y K) (a0l G es δ S Y fun ds S1=>(Bn.lsk cell).den ds S1 K):=⟨b1b M.out⟩
theorem b1c (hm:G.m0=none) (h:a0l G es δ S Y fun ds S1=>(Bn.lss cell).den ds S1 K):den G (.bi (.lss cell) es) δ S Y K:=a2M hm h
instance b3N  [M:M0 G.m0]:Rdg (den G (.bi (.lss cell) es) δ S Y K) (a0l G es δ S Y fun ds S1=>(Bn.lss cell).den ds S1 K):=⟨b1c M.out⟩
theorem b1f (hm:G.m0=none) (h:a0l G es δ S Y fun ds S1=>Bn.min.den ds S1 K):den G (.bi .min es) δ S Y K:=a2M hm h
instance b3Q  [M:M0 G.m0]:Rdg (den G (.bi .min es) δ S Y K) (a0l G es δ S Y fun ds S1=>Bn.min.den ds S1 K):=⟨b1f M.out⟩
theorem b1e (hm:G.m0=none) (h:a0l G es δ S Y fun ds S1=>Bn.max.den ds S1 K):den G (.bi .max es) δ S Y K:=a2M hm h
instance b3P  [M:M0 G.m0]:Rdg (den G (.bi .max es) δ S Y K) (a0l G es δ S Y fun ds S1=>Bn.max.den ds S1 K):=⟨b1e M.out⟩
theorem b1l (h:a0l G es δ S Y fun ds S1=>Bn.str.den ds S1 K):den G (.bi .str es) δ S Y K:=a2M trivial h
instance b3W  : Rdg (den G (.bi .str es) δ S Y K) (a0l G es δ S Y fun ds S1=>Bn.str.den ds S1 K):=⟨b1l⟩
theorem a9O {ds:List D} (k:K (.lst ds) S):∃ cell,outL cell ds S K:=⟨false,by unfold outL;rw [if_neg zaz];exact k⟩
instance b2y {ds:List D}:Rdg (∃ cell,outL cell ds S K) (K (.lst ds) S):=⟨a9O⟩
theorem b03 (hm:G.m0=none) (h:den G a δ S Y fun x S1=>∃ zs:List Str,vw S1 x=.lst (zs.map D.str)∧(zs.length < 64∨((uniq zs).length < 64∧zs.length < 1000))∧∃ cell,outL cell ((a0X (uniq zs)).map D.str) S1 K):den G (.ofs true a) δ S Y K:=by rw [den];exact ⟨hm,h⟩
instance b3F  [M:M0 G.m0]:Rdg (den G (.ofs true a) δ S Y K) (den G a δ S Y fun x S1=>∃ zs:List Str,vw S1 x=.lst (zs.map D.str)∧(zs.length < 64∨((uniq zs).length < 64∧zs.length < 1000))∧∃ cell,outL cell ((a0X (uniq zs)).map D.str) S1 K):=⟨b03 M.out⟩
theorem b45 (hm:G.m0=none) (h:den G a δ S Y fun x S1=>∃ zs:List Int,vw S1 x=.lst (zs.map D.int)∧zs.length < 64∧∀ ns:List Int,ns.Pairwise (· < ·)→(∀ k,k∈ns↔k∈zs)→K (.lst (ns.map D.int)) S1):den G (.ofi a) δ S Y K:=by rw [den];exact ⟨hm,h⟩
instance b6n  [M:M0 G.m0]:Rdg (den G (.ofi a) δ S Y K) (den G a δ S Y fun x S1=>∃ zs:List Int,vw S1 x=.lst (zs.map D.int)∧zs.length < 64∧∀ ns:List Int,ns.Pairwise (· < ·)→(∀ k,k∈ns↔k∈zs)→K (.lst (ns.map D.int)) S1):=⟨b45 M.out⟩
theorem b02 (hm:G.m0=none) (h:den G a δ S Y fun x S1=>∃ zs:List Str,vw S1 x=.lst (zs.map D.str)∧(zs.length < 64∨((uniq zs).length < 64∧zs.length < 1000))∧K (.int ((uniq zs).length:Nat)) S1):den G (.ofs false a) δ S Y K:=by rw [den];exact ⟨hm,h⟩
instance b3E  [M:M0 G.m0]:Rdg (den G (.ofs false a) δ S Y K) (den G a δ S Y fun x S1=>∃ zs:List Str,vw S1 x=.lst (zs.map D.str)∧(zs.length < 64∨((uniq zs).length < 64∧zs.length < 1000))∧K (.int ((uniq zs).length:Nat)) S1):=⟨b02 M.out⟩
theorem b5f (hm:G.m0=none) (h:den G a δ S Y fun x S1=>∃ p kvs,x=.obj p∧S1 p=some (.dic kvs)∧outL cell (kvs.map (·.2)) S1 K):den G (.vls cell a) δ S Y K:=by rw [den];exact ⟨hm,h⟩
instance b6w  [M:M0 G.m0]:Rdg (den G (.vls cell a) δ S Y K) (den G a δ S Y fun x S1=>∃ p kvs,x=.obj p∧S1 p=some (.dic kvs)∧outL cell (kvs.map (·.2)) S1 K):=⟨b5f M.out⟩
theorem b48 (h:den G a δ S Y fun x S1=>∃ ds,vw S1 x=.lst ds∧outL cell ds.reverse S1 K):den G (.rev cell a) δ S Y K:=by rw [den];exact h
instance b6q  : Rdg (den G (.rev cell a) δ S Y K) (den G a δ S Y fun x S1=>∃ ds,vw S1 x=.lst ds∧outL cell ds.reverse S1 K):=⟨b48⟩
theorem b0Z (h:∀ p,S p=none→a3O G ps δ (S.set p (.dic [])) Y fun ks S2=>S2 p=some (.dic [])∧∃ kvs,a6w ks=some kvs∧kvs.length≤15∧if cell=true then K (.obj p) (S2.set p (.dic (a0P [] kvs))) else K (.dic (a0P [] kvs)) (S2.del p)):den G (.dct cell ps) δ S Y K:=by rw [den];exact h
theorem b5J (k:KP [] S):a3O G .nil δ S Y KP:=by rw [a3O];exact k
instance b6W  : Rdg (a3O G .nil δ S Y KP) (KP [] S):=⟨b5J⟩
theorem b2f {kx vx:RE} (h:den G kx δ S Y fun x S1=>den G vx δ S1 Y fun y S2=>a3O G ps δ S2 Y fun r S3=>KP ((x,y) :: r) S3):a3O G (.cons kx vx ps) δ S Y KP:=by rw [a3O];exact h
instance b31 {kx vx:RE}:Rdg (a3O G (.cons kx vx ps) δ S Y KP) (den G kx δ S Y fun x S1=>den G vx δ S1 Y fun y S2=>a3O G ps δ S2 Y fun r S3=>KP ((x,y) :: r) S3):=⟨b2f⟩
theorem i_s (h:den G e δ S Y fun d S1=>∃ z,d=.str z∧KI (a0U z) (fun _=>True) S1):a0y G (.str e) δ S Y KI:=by rw [a0y];exact h
instance b9d  : Rdg (a0y G (.str e) δ S Y KI) (den G e δ S Y fun d S1=>∃ z,d=.str z∧KI (a0U z) (fun _=>True) S1):=⟨i_s⟩
theorem i_k (h:den G e δ S Y fun d S1=>∃ a kvs,d=.obj a∧S1 a=some (.loc kvs)∧KI (kvs.map fun kv=>keyV kv.1) (fun _=>True) S1):a0y G (.keys e) δ S Y KI:=by rw [a0y];exact h
instance b9b  : Rdg (a0y G (.keys e) δ S Y KI) (den G e δ S Y fun d S1=>∃ a kvs,d=.obj a∧S1 a=some (.loc kvs)∧KI (kvs.map fun kv=>keyV kv.1) (fun _=>True) S1):=⟨i_k⟩
theorem b8P {t1 t2:Bool} {a b:RE} (h:den G a δ S Y fun d S1=>den G b δ S1 Y fun d2 S2=>∃ xs ys,d=sqv t1 xs∧d2=sqv t2 ys∧KI (a1g xs ys) (fun _=>True) S2):a0y G (.zip t1 t2 a b) δ S Y KI:=by rw [a0y];exact h
instance b8a {t1 t2:Bool} {a b:RE}:Rdg (a0y G (.zip t1 t2 a b) δ S Y KI) (den G a δ S Y fun d S1=>den G b δ S1 Y fun d2 S2=>∃ xs ys,d=sqv t1 xs∧d2=sqv t2 ys∧KI (a1g xs ys) (fun _=>True) S2):=⟨b8P⟩
theorem b8M (h:den G e δ S Y fun d S1=>∃ ds,d=.tup ds∧KI (a1e ds) (fun _=>True) S1):a0y G (.enumt e) δ S Y KI:=by rw [a0y];exact h
instance b77  : Rdg (a0y G (.enumt e) δ S Y KI) (den G e δ S Y fun d S1=>∃ ds,d=.tup ds∧KI (a1e ds) (fun _=>True) S1):=⟨b8M⟩
theorem i_e (h:den G e δ S Y fun d S1=>∃ ds,vw S1 d=.lst ds∧KI (a1e ds) (fun S'=>vw S' d=.lst ds) S1):a0y G (.enum e) δ S Y KI:=by rw [a0y];exact h
instance b9a  : Rdg (a0y G (.enum e) δ S Y KI) (den G e δ S Y fun d S1=>∃ ds,vw S1 d=.lst ds∧KI (a1e ds) (fun S'=>vw S' d=.lst ds) S1):=⟨i_e⟩
theorem b8N (h:den G e δ S Y fun d S1=>∃ a kvs,d=.obj a∧S1 a=some (.loc kvs)∧KI (kvs.map fun kv=>.tup [keyV kv.1,kv.2]) (fun _=>True) S1):a0y G (.items e) δ S Y KI:=by rw [a0y];exact h
instance b78  : Rdg (a0y G (.items e) δ S Y KI) (den G e δ S Y fun d S1=>∃ a kvs,d=.obj a∧S1 a=some (.loc kvs)∧KI (kvs.map fun kv=>.tup [keyV kv.1,kv.2]) (fun _=>True) S1):=⟨b8N⟩
theorem b3c {z:Str} {Q:Str→Prop} (k:Q z):∃ w,D.str z=.str w∧Q w:=⟨z,rfl,k⟩
instance b4g {z:Str} {Q:Str→Prop}:Rdg (∃ w,D.str z=.str w∧Q w) (Q z):=⟨b3c⟩
theorem b7Y {z:Str}:a3s (.str z):=⟨z,rfl⟩
theorem a97 {z:Str} {P:Prop} (k:P):Mn.join.rc (.str z) S∧P:=⟨b7Y,k⟩
instance b2z {z:Str} {P:Prop}:Rdg (Mn.join.rc (.str z) S∧P) (P):=⟨a97⟩
theorem a8d {z:Str} {P:Prop} (k:P):Mn.upper.rc (.str z) S∧P:=⟨b7Y,k⟩
instance b0q {z:Str} {P:Prop}:Rdg (Mn.upper.rc (.str z) S∧P) (P):=⟨a8d⟩
theorem b1Q {z:Str} {zs:List Str} (few:(zs.map (·.length)).sum + zs.length * z.length≤16777216) (k:K (.str (Txt.join z zs)) S):Mn.join.den (.str z) [.lst (zs.map D.str)] S K:=⟨zs,.inl rfl,few,k⟩
theorem b5z {ds:List D} (k:K (.lst ds) S):(Bn.lst false).den [.lst ds] S K:=⟨ds,.inl rfl,by rw [if_neg zaz];exact k⟩
instance b6L {ds:List D}:Rdg ((Bn.lst false).den [.lst ds] S K) (K (.lst ds) S):=⟨b5z⟩
theorem b5r {b:Bool} (k:K (.int (if b then 1 else 0)) S):Bn.int.den [.bl b] S K:=k
instance b6A {b:Bool}:Rdg (Bn.int.den [.bl b] S K) (K (.int (if b then 1 else 0)) S):=⟨b5r⟩
theorem b5R {q:PyData} (h:pdE d=some q) (s:a4t q) (k:K (.str q.shown) S):Bn.rpr.den [d] S K:=⟨q,.inr ⟨h,s⟩,k⟩
theorem a2K (z:Str):∀ zs:List Str,((zs.map D.str).any fun w=>D.eqv w (.str z))=decide (z∈zs)
 | []=>rfl
 | w :: zs=>by
  rw [zav,List.any_cons,a2K z zs]
  have e:D.eqv (.str w) (.str z)=decide (w=z):=by
   simp only [D.eqv,D.py,PyData.eqv]
   rw [Bool.eq_iff_iff];simp
  rw [e,Bool.eq_iff_iff]
  simp only [Bool.or_eq_true,zah,zat]
  exact or_congr ⟨Eq.symm,Eq.symm⟩ Iff.rfl
def fine (z:Str):Bool:=PyData.strOk z
theorem flat_strs:∀ zs:List Str,(zs.map D.str).all a02=true
 | []=>rfl
 | _ :: zs=>by rw [zav,List.all_cons,flat_strs zs];rfl
theorem b3y {z:Str} {zs:List Str} (k:K (.bl (decide (z∈zs))) S):a0t .In (.str z) (.tup (zs.map D.str)) S K:=by
 show a7w false (.str z) (.tup (zs.map D.str)) S K
 exact .inl ⟨rfl,flat_strs zs,by rw [Bool.false_xor,a2K];exact k⟩
instance b8c {z:Str} {zs:List Str}:Rdg (a0t .In (.str z) (.tup (zs.map D.str)) S K) (K (.bl (decide (z∈zs))) S):=⟨b3y⟩
theorem b5D {z:Str} {zs:List Str} (k:K (.bl (!decide (z∈zs))) S):a0t .NotIn (.str z) (.tup (zs.map D.str)) S K:=by
 show a7w true (.str z) (.tup (zs.map D.str)) S K
 exact .inl ⟨rfl,flat_strs zs,by rw [Bool.true_xor,a2K];exact k⟩
instance b6Q {z:Str} {zs:List Str}:Rdg (a0t .NotIn (.str z) (.tup (zs.map D.str)) S K) (K (.bl (!decide (z∈zs))) S):=⟨b5D⟩
theorem b8Q {z:Str} {c:Nat} (k:K (.bl (decide (c∈z.cps.toList))) S):a0t .In (.str ⟨#[c]⟩) (.str z) S K:=by
 show a7w false (.str ⟨#[c]⟩) (.str z) S K
 exact ⟨c,rfl,by rw [Bool.false_xor];exact k⟩
instance b8b {z:Str} {c:Nat}:Rdg (a0t .In (.str ⟨#[c]⟩) (.str z) S K) (K (.bl (decide (c∈z.cps.toList))) S):=⟨b8Q⟩
theorem b5C {z:Str} {c:Nat} (k:K (.bl (!decide (c∈z.cps.toList))) S):a0t .NotIn (.str ⟨#[c]⟩) (.str z) S K:=by
 show a7w true (.str ⟨#[c]⟩) (.str z) S K
 exact ⟨c,rfl,by rw [Bool.true_xor];exact k⟩
instance b6P {z:Str} {c:Nat}:Rdg (a0t .NotIn (.str ⟨#[c]⟩) (.str z) S K) (K (.bl (!decide (c∈z.cps.toList))) S):=⟨b5C⟩
theorem b4D {z w:Str} (k:K (.bl (decide (z=w))) S):a0t .Eq (.str z) (.str w) S K:=.inr (.inl ⟨z,w,rfl,rfl,by rw [Bool.false_xor];exact k⟩)
instance b5Y {z w:Str}:Rdg (a0t .Eq (.str z) (.str w) S K) (K (.bl (decide (z=w))) S):=⟨b4D⟩
theorem b4L {z w:Str} (k:K (.bl (!decide (z=w))) S):a0t .NotEq (.str z) (.str w) S K:=.inr (.inl ⟨z,w,rfl,rfl,by rw [Bool.true_xor];exact k⟩)
instance b56 {z w:Str}:Rdg (a0t .NotEq (.str z) (.str w) S K) (K (.bl (!decide (z=w))) S):=⟨b4L⟩
theorem b4H (k:K (.bl (isNon x)) S):a0t .Is x .non S K:=by show cIs false x .non S K;unfold cIs;rw [Bool.false_xor];exact k
instance b52  : Rdg (a0t .Is x .non S K) (K (.bl (isNon x)) S):=⟨b4H⟩
theorem b0S (k:K (.bl (!isNon x)) S):a0t .IsNot x .non S K:=by show cIs true x .non S K;unfold cIs;rw [Bool.true_xor];exact k
instance b3A  : Rdg (a0t .IsNot x .non S K) (K (.bl (!isNon x)) S):=⟨b0S⟩
theorem b4G {a b:Bool} (k:K (.bl (decide (a=b))) S):a0t .Is (.bl a) (.bl b) S K:=by show cIs false (.bl a) (.bl b) S K;unfold cIs;exact ⟨a,rfl,by rw [Bool.false_xor];exact k⟩
instance b51 {a b:Bool}:Rdg (a0t .Is (.bl a) (.bl b) S K) (K (.bl (decide (a=b))) S):=⟨b4G⟩
theorem b0R {a b:Bool} (k:K (.bl (!decide (a=b))) S):a0t .IsNot (.bl a) (.bl b) S K:=by show cIs true (.bl a) (.bl b) S K;unfold cIs;exact ⟨a,rfl,by rw [Bool.true_xor];exact k⟩
instance b3z {a b:Bool}:Rdg (a0t .IsNot (.bl a) (.bl b) S K) (K (.bl (!decide (a=b))) S):=⟨b0R⟩
theorem b0P {x y:D} {ds es:List D} (e1:vw S x=.lst ds) (e2:vw S y=.lst es) (ne:ds.length≠es.length) (k:K (.bl false) S):a0t .Eq x y S K:=.inr (.inr (.inr (.inr ⟨ds,es,e1,e2,ne,k⟩)))
theorem a6q {cn:Cn} {t:Value} {b:Bool} {Q:Bool→Prop} (ht:tyD S d=some t) (ok:a3c G S d) (hk:PySem.W.kitOne G.K t (cn.val G)=some b) (k:Q b):∃ t b,tyD S d=some t∧a3c G S d∧PySem.W.kitOne G.K t (cn.val G)=some b∧Q b:=⟨t,b,ht,ok,hk,k⟩
end
section
variable {G:Gs} {δ:DS} {S:SS} {Y:XD'} {F:SE} {a b c e:RE} {es:RL} {s:RS} {d x y:D} {p:Addr} {K:SS→Prop}
theorem b29 {i j l:Nat} (hm:G.m0=none) (h:a0l G.toGm es δ S Y fun ds S1=>∃ u v w,ds=[u,v,w]∧F.nx (((δ.set i (some u)).set j (some v)).set l (some w)) S1):a0k G (.tri i j l es) δ S Y F:=by rw [a0k];exact ⟨hm,h⟩
instance b4e {i j l:Nat} [M:M0 G.m0]:Rdg (a0k G (.tri i j l es) δ S Y F) (a0l G.toGm es δ S Y fun ds S1=>∃ u v w,ds=[u,v,w]∧F.nx (((δ.set i (some u)).set j (some v)).set l (some w)) S1):=⟨b29 M.out⟩
theorem a8q {a b c:D} {Q:D→D→D→Prop} (k:Q a b c):∃ u v w,[a,b,c]=[u,v,w]∧Q u v w:=⟨a,b,c,rfl,k⟩
instance b0r {a b c:D} {Q:D→D→D→Prop}:Rdg (∃ u v w,[a,b,c]=[u,v,w]∧Q u v w) (Q a b c):=⟨a8q⟩
theorem b24 {i j:Nat} (hm:G.m0=none) (h:a0l G.toGm es δ S Y fun ds S1=>∃ v w,ds=[v,w]∧F.nx ((δ.set i (some v)).set j (some w)) S1):a0k G (.par i j es) δ S Y F:=by rw [a0k];exact ⟨hm,h⟩
instance b38 {i j:Nat} [M:M0 G.m0]:Rdg (a0k G (.par i j es) δ S Y F) (a0l G.toGm es δ S Y fun ds S1=>∃ v w,ds=[v,w]∧F.nx ((δ.set i (some v)).set j (some w)) S1):=⟨b24 M.out⟩
theorem b3n {Q:D→D→Prop} (k:Q x y):∃ v w,[x,y]=[v,w]∧Q v w:=⟨x,y,rfl,k⟩
instance b4k {Q:D→D→Prop}:Rdg (∃ v w,[x,y]=[v,w]∧Q v w) (Q x y):=⟨b3n⟩
theorem b26 {f:Str} (h:den G.toGm c δ S Y fun z S1=>den G.toGm a δ S1 Y fun x S2=>∃ p C fs,x=.obj p∧S2 p=some (.ins C fs)∧Cls G.K C∧NoAttr G.K C f∧fs.length < 1000∧F.nx δ (S2.set p (.ins C (a3B f z fs)))):a0k G (.stf a f c) δ S Y F:=by rw [a0k];exact h
instance b4b {f:Str}:Rdg (a0k G (.stf a f c) δ S Y F) (den G.toGm c δ S Y fun z S1=>den G.toGm a δ S1 Y fun x S2=>∃ p C fs,x=.obj p∧S2 p=some (.ins C fs)∧Cls G.K C∧NoAttr G.K C f∧fs.length < 1000∧F.nx δ (S2.set p (.ins C (a3B f z fs)))):=⟨b26⟩
end
def b0o {α:Type} (f:α→D) (l:List (Str × α)):List (Key × D):=l.map fun q=>(.inr q.1,f q.2)
section
end
end Sv
namespace Sv
open PySem PySem.Spec PyProof.Rows L2
structure Plain (x:D):Prop where
 ok:D.okd 60 x=true
 data:pdD x=some x.py
 shows:b0F x.py
def b7K:Nat→Nat
 | 0=>64 | n + 1=>64 * (b7K n + 1)
structure Fits (n:Nat) (d:D):Prop where
 data:pdD d=some d.py
 short:d.py.leavesShort 13=true
 bulk:d.py.bulk≤b7K n
 show_:d.py.showable=true
 dict:d.py.hasDict=false
 deep:d.py.depth≤n
 ok:D.okd n d=true
theorem Plain.self {d:D} (h:Plain d):D.eqv d d=true:=by
 unfold D.eqv
 exact SeqAt.eqv_refl _ (a1C d 60 h.ok).1
end Sv
namespace Sv
open PySem PySem.Spec PyProof.Rows L2
section
variable {G:Gm} {δ:DS} {S:SS} {Y:XD'} {K:DK} {a:RE} {es:RL} {cell:Bool} {k:Nat}
theorem b5a (h:den G a δ S Y fun x S1=>∃ ds,vw S1 x=.lst ds∧K (.lst (ev2 k ds)) S1):den G (.sl2 k a) δ S Y K:=by rw [den];exact h
instance b6s  : Rdg (den G (.sl2 k a) δ S Y K) (den G a δ S Y fun x S1=>∃ ds,vw S1 x=.lst ds∧K (.lst (ev2 k ds)) S1):=⟨b5a⟩
theorem b1g (hm:G.m0=none) (h:a0l G es δ S Y fun ds S1=>Bn.mnl.den ds S1 K):den G (.bi .mnl es) δ S Y K:=a2M hm h
instance b3R  [M:M0 G.m0]:Rdg (den G (.bi .mnl es) δ S Y K) (a0l G es δ S Y fun ds S1=>Bn.mnl.den ds S1 K):=⟨b1g M.out⟩
theorem b1i (hm:G.m0=none) (h:a0l G es δ S Y fun ds S1=>(Bn.srl cell).den ds S1 K):den G (.bi (.srl cell) es) δ S Y K:=a2M hm h
instance b3T  [M:M0 G.m0]:Rdg (den G (.bi (.srl cell) es) δ S Y K) (a0l G es δ S Y fun ds S1=>(Bn.srl cell).den ds S1 K):=⟨b1i M.out⟩
theorem b1j (hm:G.m0=none) (h:a0l G es δ S Y fun ds S1=>(Bn.srp cell).den ds S1 K):den G (.bi (.srp cell) es) δ S Y K:=a2M hm h
instance b3U  [M:M0 G.m0]:Rdg (den G (.bi (.srp cell) es) δ S Y K) (a0l G es δ S Y fun ds S1=>(Bn.srp cell).den ds S1 K):=⟨b1j M.out⟩
theorem b7f {z b:Str} {P:Prop} (k:P):Mn.spl.rc (.str z) S∧P:=⟨⟨z,rfl⟩,k⟩
instance b61 {z:Str} {P:Prop}:Rdg (Mn.spl.rc (.str z) S∧P) (P):=⟨b7f (b:=z)⟩
end
section
end
structure Fit (n:Nat) (d:D):Prop where
 data:pdD d=some d.py
 short:d.py.leavesShort 13=true
 show_:d.py.showable=true
 dict:d.py.hasDict=false
 deep:d.py.depth≤n
 ok:D.okd n d=true
theorem Fits.fit {n:Nat} {d:D} (h:Fits n d):Fit n d:=⟨h.data,h.short,h.show_,h.dict,h.deep,h.ok⟩
end Sv
noncomputable section
namespace Sv
open PySem PySem.Spec PyProof.Rows L2 PySem.W PySem.Calls
theorem a2y {β:Type} {f:{α:Type}→β→(β→α)→α} (h:∀ {α:Type} (b:β) (k:β→α),f b k=k b) {α:Type}:∀ (l:List β) (k:List β→α),foL f l k=k l
 | [],k=>rfl
 | a :: r,k=>by
  show f a (fun a=>foL f r fun r=>k (a :: r))=_
  rw [h,a2y h]
theorem a1h {α:Type} (n:Nat) (k:Nat→α):foN n k=k n:=HandSHeadRun.frNat_eq n k
theorem b1A {α:Type} (s:Str) (k:Str→α):foS s k=k s:=by
 obtain ⟨⟨l⟩⟩:=s
 exact a2y a1h l _
theorem a1o {α:Type} (v:Value) (k:Value→α):foV v k=k v:=by
 cases v with
 | ref a=>exact a1h a _
 | str s t=>exact b1A s fun s=>k (.str s t)
 | _=>rfl
theorem b1x {α:Type} (e:DictEntry) (k:DictEntry→α):foE e k=k e:=by
 obtain ⟨h,x,v⟩:=e
 show foV x (fun x=>foV v fun v=>k ⟨h,x,v⟩)=_
 rw [a1o,a1o]
theorem b1w {α:Type} (d:Data) (k:Data→α):foD d k=k d:=by
 cases d with
 | dict es n=>obtain ⟨es⟩:=es;exact a2y b1x es _
 | seq es n=>obtain ⟨es⟩:=es;exact a2y a1o es _
 | fields es=>obtain ⟨es⟩:=es;exact a2y a1o es _
 | cls c =>
  obtain ⟨a1,a2,mro,ns,a3,a4,a5,a6,a7,a8,a9⟩:=c
  show foL foV mro (fun mro=>foN ns fun ns=>k (.cls ⟨a1,a2,mro,ns,a3,a4,a5,a6,a7,a8,a9⟩))=_
  rw [a2y a1o,a1h]
 | func f =>
  obtain ⟨n1,n2,n3,n4,n5,n6,n7,n8,n9,n10,n11,n12,n13,n14,n15⟩:=f
  show foN n6 (fun n6=>foV n8 fun n8=>foV n9 fun n9=>foV n13 fun n13=>foN n15 fun n15=>k (.func ⟨n1,n2,n3,n4,n5,n6,n7,n8,n9,n10,n11,n12,n13,n14,n15⟩))=_
  rw [a1h,a1o,a1o,a1o,a1h]
 | _=>rfl
theorem b1y {α:Type} (o:Obj) (k:Obj→α):foO o k=k o:=by
 obtain ⟨c,d,dt,sl⟩:=o
 show foV c (fun c=>foD dt fun dt=>k ⟨c,d,dt,sl⟩)=_
 rw [a1o,b1w]
def b3j (o:Obj):Option (List (Nat × DictEntry)):=match o with
 | ⟨_,_,.dict es _,_⟩=>some (es.toList.map fun e=>(a1l e,e))
 | _=>none
def b3i (K:Frag):Tab:=K.map fun p=>(p.1,b3j p.2)
theorem a8z {α:Type}:∀ (es:List DictEntry) (k:List (Nat × DictEntry)→α),foC es k=k (es.map fun e=>(a1l e,e))
 | [],k=>rfl
 | e :: r,k=>by
  show foN (a1l e) (fun n=>foC r fun r=>k ((n,e) :: r))=_
  rw [a1h,a8z r] <;> rfl
theorem b1z {α:Type} (o:Obj) (k:Option (List (Nat × DictEntry))→α):foP o k=k (b3j o):=by
 obtain ⟨c,d,dt,sl⟩:=o
 cases dt with
 | dict es n=>obtain ⟨es⟩:=es;exact a8z es _
 | _=>rfl
theorem a4E {α:Type}:∀ (K:Frag) (k:Tab→α),foT K k=k (b3i K)
 | [],k=>rfl
 | (a,o) :: r,k=>by
  show foP o (fun t=>foT r fun T=>k ((a,t) :: T))=_
  rw [b1z,a4E r] <;> rfl
theorem a0x {β:Type} {a:Nat}:∀ l:List (Nat × β),a0L l a=l.lookup a
 | []=>rfl
 | (b,v) :: r=>by
  show (match Nat.beq a b with
   | true=>some v
   | false=>a0L r a)=(match a == b with
   | true=>some v
   | false=>r.lookup a)
  have e:(a == b)=Nat.beq a b:=by
   cases h:Nat.beq a b with
   | true=>exact beq_iff_eq.mpr (Nat.eq_of_beq_eq_true h)
   | false=>exact beq_eq_false_iff_ne.mpr (Nat.ne_of_beq_eq_false h)
  rw [e,a0x r]
theorem a7G {e:DictEntry} {x:Str} (h:e.key.isStr x=true):a1l e=codeS x:=by
 obtain ⟨hh,k,v⟩:=e
 cases k with
 | str s t =>
  have e:s=x:=eq_of_beq (show (s == x)=true from h)
  subst e
  rfl
 | _=>cases h
theorem a2N {x:Str}:∀ es:List DictEntry,a3U (codeS x) x (es.map fun e=>(a1l e,e))=es.find? (·.key.isStr x)
 | []=>rfl
 | e :: r=>by
  show (match Nat.beq (a1l e) (codeS x) with
   | true=>(match e.key.isStr x with
    | true=>some e
    | false=>a3U (codeS x) x (r.map fun e=>(a1l e,e)))
   | false=>a3U (codeS x) x (r.map fun e=>(a1l e,e)))=(match e.key.isStr x with
   | true=>some e
   | false=>r.find? (·.key.isStr x))
  rw [a2N r]
  cases h:Nat.beq (a1l e) (codeS x) with
  | true=>rfl
  | false =>
   cases q:e.key.isStr x with
   | false=>rfl
   | true=>exact absurd (a7G q) (Nat.ne_of_beq_eq_false h)
def nsT (T:Tab) (ns:Addr) (x:Str):Option (Option Value):=match a0L T ns with
 | some (some l)=>foN (codeS x) fun c=>(match a3U c x l with
  | some e=>some (some e.val)
  | none=>if l.any (fun p=>p.2.refKey) then none else some none)
 | _=>none
theorem a2p {a:Addr}:∀ K:Frag,(b3i K).lookup a=(K.lookup a).map b3j
 | []=>rfl
 | (b,o) :: r=>by
  show (match a == b with
   | true=>some (b3j o)
   | false=>(b3i r).lookup a)=Option.map b3j (match a == b with
   | true=>some o
   | false=>r.lookup a)
  cases a == b with
  | true=>rfl
  | false=>exact a2p r
theorem b16 {K:Frag}:nsT (b3i K)=nsIn K:=by
 funext ns x
 unfold nsT nsIn
 rw [a0x,a2p]
 cases K.lookup ns with
 | none=>rfl
 | some o =>
  obtain ⟨c,d,dt,sl⟩:=o
  cases dt with
  | dict es n =>
   show foN (codeS x) (fun c=>(match a3U c x (es.toList.map fun e=>(a1l e,e)) with
    | some e=>some (some e.val)
    | none=>if (es.toList.map fun e=>(a1l e,e)).any (fun p=>p.2.refKey) then none else some none))=_
   rw [a1h,a2N,List.any_map] <;> rfl
  | _=>rfl
section
variable (K:Frag) (N:Addr→Str→Option (Option Value))
def gaN (x:Str):Addr:=match N mainGlobals x with
 | some (some (.ref a))=>a
 | _=>0
def b2e (name:Str):Value→Option (Option Value)
 | .type n=>some (fastBuiltinOwn n name)
 | .ref a=>(match a0L K a with
   | some ⟨_,_,.cls cd,_⟩=>N cd.ns name
   | _=>none)
 | _=>some none
def a1Q (name:Str):List Value→Option (Option Value)
 | []=>some none
 | c :: r=>match b2e K N name c with
  | some (some v)=>some (some v)
  | some none=>a1Q name r
  | none=>none
def a2u (t:Value) (name:Str):Option (Option Value):=match t with
 | .type n=>fastLookup n name
 | .ref a=>(match a0L K a with
   | some ⟨_,_,.cls cd,_⟩=>a1Q K N name cd.mro
   | _=>none)
 | _=>none
def maN (C:Addr) (m:Str):Addr:=match a2u K N (.ref C) m with
 | some (some (.ref a))=>a
 | _=>0
def b0m (p:Str × Option Str):Addr:=match p.2 with
 | none=>gaN N p.1
 | some m=>maN K N (gaN N p.1) m
def a6v (a:Addr):Bool:=match a0L K a with
 | some ⟨_,_,.func _,_⟩=>true
 | some ⟨_,_,.cls _,_⟩=>specialIn K (.ref a) "__call__" == some (some (.builtin "type.__call__"))
 | _=>false
def codeN (cd:Value) (q:Str):Bool:=match cd with
 | .ref c=>(match a0L K c with
   | some ⟨_,_,.fields vs,_⟩=>(match vs.toList with | _ :: .str n _ :: _=>n == q | _=>false)
   | _=>false)
 | _=>false
theorem a4J (a:Addr):a6v K a=keepIn K (.ref a):=by
 unfold a6v keepIn
 rw [a0x] <;> rfl
theorem a7H (cd:Value) (q:Str):codeN K cd q=codeIn K cd q:=by
 unfold codeN codeIn
 cases cd with
 | ref c =>
  show (match a0L K c with
   | some ⟨_,_,.fields vs,_⟩=>(match vs.toList with | _ :: .str n _ :: _=>n == q | _=>false)
   | _=>false)=_
  rw [a0x] <;> rfl
 | _=>rfl
def a7Q (a:Addr):Bool:=(a0L K a).map (·.cls) == some (.type "function")
theorem a7R (a:Addr):a7Q K a=isFn K (.ref a):=by
 unfold a7Q isFn typeIn
 rw [a0x] <;> rfl
def faN:He.Fa→Bool
 | .glo x=>He.eqO (N mainGlobals x) (some (some (.ref (gaN N x))))
 | .free x=>He.eqO (N mainGlobals x) (some none)
 | .int x i=>(match N mainGlobals x with
  | some (some (.int j _))=>decide (j=i)
  | _=>false)
 | .str x z=>(match N mainGlobals x with
  | some (some (.str y _))=>decide (y=z)
  | _=>false)
 | .cls x=>plainGet K (gaN N x) Str.empty && (hasDictIn K (gaN N x) && (plainOver K (gaN N x) && He.eqO (findIn K (.ref (gaN N x)) "__setattr__") (some (some (.builtin "object.__setattr__")))))
 | .noat x f=>He.eqO (a2u K N (.ref (gaN N x)) f) (some none)
 | .meth x m=>He.eqO (a2u K N (.ref (gaN N x)) m) (some (some (.ref (maN K N (gaN N x) m)))) && (a7Q K (maN K N (gaN N x) m) && a6v K (maN K N (gaN N x) m))
 | f=>f.ok K
def okA (d:He.DefD) (a:Addr):Bool:=a6v K a && (match a0L K a with
 | some ⟨_,_,.func fd,_⟩=>codeN K fd.code d.qual && (He.dflB K fd.defaults (d.dvs K) && He.kwdB K fd.kwdefaults (d.kws K))
 | _=>false)
def fnA (a:Addr):He.FnW:=match a0L K a with
 | some ⟨_,_,.func fd,_⟩=>some (fd.name,fd.qualname,fd.params,fd.body,fd.scope,fd.globals,fd.closure,fd.builtins)
 | _=>none
def fxN:Fx→Bool
 | .oex x=>b5H K (gaN N x)
 | .ini x=>He.eqO (a2u K N (.ref (gaN N x)) "__init__") (some (some (.ref (maN K N (gaN N x) "__init__")))) && decide (typeIn K (.ref (maN K N (gaN N x) "__init__"))=some (.type "function"))
 | .nov x f=>He.eqO (a2u K N (.ref (gaN N x)) f) (some none)
 | .kit x y b=>decide (kitOne K (.ref (gaN N x)) (.ref (gaN N y))=some b)
 | .kitT x n b=>decide (kitOne K (.ref (gaN N x)) (.type n)=some b)
 | .sib xs=>xs.all fun x=>xs.all fun y=>decide (kitOne K (.ref (gaN N x)) (.ref (gaN N y))=some (decide (x=y)))
 | .veT xs n=>xs.all fun x=>decide (kitOne K (.ref (gaN N x)) (.type n)=some true)
 | .exA xs y=>xs.all fun x=>decide (exmOne K (.ref (gaN N x)) (.ref (gaN N y))=some true)
 | f=>f.ok K
def a9L (fa:List He.Fa) (fn:List He.DefD) (fx:List Fx):AlX:=(((fa.all fun f=>faN K N f) && fn.all fun d=>okA K d (b0m K N d.at_),fn.map fun d=>fnA K (b0m K N d.at_)),fx.all fun f=>fxN K N f)
end
section
variable {K:Frag}
theorem a9X {name:Str} (c:Value):b2e K (nsIn K) name c=ownIn K name c:=by
 unfold b2e ownIn
 cases c with
 | ref a =>
  show (match a0L K a with
   | some ⟨_,_,.cls cd,_⟩=>nsIn K cd.ns name
   | _=>none)=_
  rw [a0x] <;> rfl
 | _=>rfl
theorem a3g {name:Str}:∀ l:List Value,a1Q K (nsIn K) name l=alongIn K name l
 | []=>rfl
 | c :: r=>by
  show (match b2e K (nsIn K) name c with
   | some (some v)=>some (some v)
   | some none=>a1Q K (nsIn K) name r
   | none=>none)=(match ownIn K name c with
   | some (some v)=>some (some v)
   | some none=>alongIn K name r
   | none=>none)
  rw [a3g r,a9X] <;> rfl
theorem a08:a2u K (nsIn K)=findIn K:=by
 funext t name
 unfold a2u findIn
 cases t with
 | ref a =>
  show (match a0L K a with
   | some ⟨_,_,.cls cd,_⟩=>a1Q K (nsIn K) name cd.mro
   | _=>none)=_
  rw [a0x]
  simp only [a3g]
  rfl
 | _=>rfl
theorem a4N:maN K (nsIn K)=He.ma K:=by
 funext C m
 unfold maN He.ma
 rw [a08] <;> rfl
theorem a9l:b0m K (nsIn K)=He.fAd K:=by
 funext p
 unfold b0m He.fAd
 rw [a4N] <;> rfl
theorem b1q:faN K (nsIn K)=He.Fa.ok K:=by
 funext f
 cases f with
 | meth x m =>
  show (He.eqO (a2u K (nsIn K) (.ref (gaN (nsIn K) x)) m) (some (some (.ref (maN K (nsIn K) (gaN (nsIn K) x) m)))) && (a7Q K (maN K (nsIn K) (gaN (nsIn K) x) m) && a6v K (maN K (nsIn K) (gaN (nsIn K) x) m)))=_
  rw [a08,a4N,a7R,a4J] <;> rfl
 | _=>first | rfl | (unfold faN He.Fa.ok;rw [a08];rfl) | (unfold faN He.Fa.ok;rw [a08,a4N];rfl)
theorem b1D:fxN K (nsIn K)=Fx.ok K:=by
 funext f
 cases f <;> first | rfl | (unfold fxN Fx.ok;rw [a08];rfl) | (unfold fxN Fx.ok;rw [a08,a4N];rfl)
theorem b2b (d:He.DefD):okA K d (He.fAd K d.at_)=d.ok K:=by
 unfold okA He.DefD.ok
 rw [a4J,a0x]
 simp only [a7H]
 rfl
theorem b1u (p:Str × Option Str):fnA K (He.fAd K p)=He.fnW K p:=by
 unfold fnA He.fnW
 rw [a0x] <;> rfl
theorem a4c {fa:List He.Fa} {fn:List He.DefD} {fx:List Fx}:a9L K (nsIn K) fa fn fx=obsX fa fn fx K:=by
 unfold a9L
 rw [b1q,b1D,a9l]
 simp only [b2b,b1u]
 rfl
end
section
end
section
variable {g:Addr→Option Obj}
def a1j (g:Addr→Option Obj) (K:Frag):Prop:=∀ p∈K,g p.1=some p.2
theorem a3Q:∀ (l:List Addr) (m:Nat) (f:List Addr),∃ m' f',∀ {α:Type} (k:Nat→List Addr→α),a7v l m f k=k m' f'
 | [],m,f=>⟨m,f,fun _=>rfl⟩
 | a :: r,m,f=>by
  cases e:Nat.beq (Nat.land (Nat.shiftRight m a) 1) 0 with
  | true =>
   obtain ⟨m',f',h⟩:=a3Q r (Nat.lor m (Nat.shiftLeft 1 a)) (a :: f)
   refine ⟨m',f',fun {α} k=>?_⟩
   show (match Nat.beq (Nat.land (Nat.shiftRight m a) 1) 0 with
    | true=>foN a fun a=>foN (Nat.lor m (Nat.shiftLeft 1 a)) fun m=>a7v r m (a :: f) k
    | false=>a7v r m f k)=k m' f'
   rw [e]
   show foN a (fun a=>foN (Nat.lor m (Nat.shiftLeft 1 a)) fun m=>a7v r m (a :: f) k)=k m' f'
   rw [a1h,a1h]
   exact h k
  | false =>
   obtain ⟨m',f',h⟩:=a3Q r m f
   refine ⟨m',f',fun {α} k=>?_⟩
   show (match Nat.beq (Nat.land (Nat.shiftRight m a) 1) 0 with
    | true=>foN a fun a=>foN (Nat.lor m (Nat.shiftLeft 1 a)) fun m=>a7v r m (a :: f) k
    | false=>a7v r m f k)=k m' f'
   rw [e]
   exact h k
theorem a1v:∀ (l:List Addr) (m:Nat) (f:List Addr) (K:Frag),a1j g K→∃ m' f' K',a1j g K'∧∀ {α:Type} (k:Nat→List Addr→Frag→α),a1H g l m f K k=k m' f' K'
 | [],m,f,K,h=>⟨m,f,K,h,fun _=>rfl⟩
 | a :: r,m,f,K,h=>by
  cases e:g a with
  | none =>
   obtain ⟨m',f',K',h',q⟩:=a1v r m f K h
   refine ⟨m',f',K',h',fun {α} k=>?_⟩
   show (match g a with
    | none=>a1H g r m f K k
    | some o=>foO o fun o=>a7v (He.refsD o) m f fun m f=>a1H g r m f ((a,o) :: K) k)=k m' f' K'
   rw [e]
   exact q k
  | some o =>
   obtain ⟨m1,f1,e1⟩:=a3Q (He.refsD o) m f
   obtain ⟨m',f',K',h',q⟩:=a1v r m1 f1 ((a,o) :: K) fun p hp=>by
    rcases zat.mp hp with rfl | hp
    ·exact e
    ·exact h p hp
   refine ⟨m',f',K',h',fun {α} k=>?_⟩
   show (match g a with
    | none=>a1H g r m f K k
    | some o=>foO o fun o=>a7v (He.refsD o) m f fun m f=>a1H g r m f ((a,o) :: K) k)=k m' f' K'
   rw [e]
   show foO o (fun o=>a7v (He.refsD o) m f fun m f=>a1H g r m f ((a,o) :: K) k)=k m' f' K'
   rw [b1y,e1]
   exact q k
theorem a3E:∀ (n:Nat) (l:List Addr) (m:Nat) (K:Frag),a1j g K→∃ K',a1j g K'∧∀ {α:Type} (k:Frag→α),a68 g n l m K k=k K'
 | 0,l,m,K,h=>by
  obtain ⟨_,_,K',h',e⟩:=a1v l m [] K h
  exact ⟨K',h',fun k=>e _⟩
 | n + 1,l,m,K,h=>by
  obtain ⟨m',f',K',h',e⟩:=a1v l m [] K h
  obtain ⟨K2,h2,e2⟩:=a3E n f' m' K' h'
  exact ⟨K2,h2,fun k=>(e _).trans (e2 k)⟩
theorem a2S (n:Nat):∃ K,a1j g K∧∀ {α:Type} (k:Frag→α),a79 g n k=k K:=by
 obtain ⟨K,h,e⟩:=a3E n [mainGlobals,cStatics] (Nat.lor (Nat.shiftLeft 1 mainGlobals) (Nat.shiftLeft 1 cStatics)) [] (show a1j g [] from fun p hp=>nomatch hp)
 exact ⟨K.reverse,fun p hp=>h p (List.mem_reverse.mp hp),fun k=>e fun K=>k K.reverse⟩
theorem a1j.at_ {K:Frag} {a:Addr} {o:Obj}:a1j g K→K.lookup a=some o→g a=some o:=by
 induction K with
 | nil=>intro _ e;cases e
 | cons p r ih =>
  obtain ⟨b,ob⟩:=p
  intro h e
  have e2:(match a == b with
   | true=>some ob
   | false=>r.lookup a)=some o:=e
  cases q:(a == b) with
  | true =>
   rw [q] at e2
   cases e2
   rw [beq_iff_eq.mp q]
   exact h _ zal
  | false =>
   rw [q] at e2
   exact ih (fun p hp=>h p (zao _ hp)) e2
end
def a5K (n:Nat) (fa:List He.Fa) (fn:List He.DefD) (fx:List Fx) (g:Addr→Option Obj):AlX:=a79 g n fun K=>foT K fun T=>a9L K (nsT T) fa fn fx
def b1F (n:Nat) (fa:List He.Fa) (fn:List He.DefD) (fx:List Fx):Hook where
 α:=AlX
 obs:=fun s=>a5K n fa fn fx s.heap.get?
 val:=fun _=>(He.valD fn,true)
 says:=fun _ h=>∃ K:Frag,K.In h∧SaysX fa fn fx K
 of:=fun _ s e=>by
  obtain ⟨K,h,q⟩:=a2S (g:=s.heap.get?) n
  refine ⟨K,fun a o x=>h.at_ x,?_⟩
  have e2:a5K n fa fn fx s.heap.get?=(He.valD fn,true):=e
  unfold a5K at e2
  rw [q,a4E,b16,a4c] at e2
  exact e2
 keeps:=fun _ _ _ ⟨K,hK,c⟩ k=>⟨K,Frag.In.keeps hK k,c⟩
theorem a9J {n:Nat} {fa:List He.Fa} {fn:List He.DefD} {fx:List Fx} {g:Addr→Option Obj} {s:Shared} (h:∀ a,g a=s.heap.get? a):a5K n fa fn fx g=(b1F n fa fn fx).obs s:=by
 have e:g=s.heap.get?:=funext h
 rw [e] <;> rfl
section
open HandSHeadRun
theorem a77 {n:Nat} {fa1 fa2:List He.Fa} {fn1 fn2:List He.DefD} {fx1 fx2:List Fx} {g:Addr→Option Obj} (h1:a5K n fa1 fn1 fx1 g=(He.valD fn1,true)) (h2:a5K n fa2 fn2 fx2 g=(He.valD fn2,true)) :
  a5K n (fa1 ++ fa2) (fn1 ++ fn2) (fx1 ++ fx2) g=(He.valD (fn1 ++ fn2),true):=by
 obtain ⟨K,_,q⟩:=a2S (g:=g) n
 unfold a5K at h1 h2 ⊢
 rw [q,a4E] at h1 h2 ⊢
 unfold a9L He.valD at h1 h2 ⊢
 simp only [Prod.mk.injEq,zak] at h1 h2
 obtain ⟨⟨⟨a1,b1⟩,c1⟩,d1⟩:=h1
 obtain ⟨⟨⟨a2,b2⟩,c2⟩,d2⟩:=h2
 rw [List.all_append,List.all_append,List.all_append,zau,zau,a1,a2,b1,b2,c1,c2,d1,d2]
 rfl
def b7G (r:OpenRow) (q:Program) (M:Nat) (loose:List Str) (w:World):Prop :=
 ∀ os:OsState,(endF (stepQ (denQ tabQ) r.prog w) M r.prog w os).map (fun s=>(looksF r.prog (boot_heap w.params) s.abs,seenQ q loose (importedModules r.prog.main.body) (fun s=>xlAt q [] s && recOk r.toRowW.records s) s.abs))=some (true,openGood q loose)
def b0k (r:OpenRow) (M n:Nat) (fa:List He.Fa) (fn:List He.DefD) (fx:List Fx) (w:World):Prop :=
 ∀ os:OsState,(endF (stepQ (denQ tabQ) r.prog w) M r.prog w os).map (fun s=>a5K n fa fn fx (getT s))=some (He.valD fn,true)
variable {r:OpenRow} {q:Program} {M n:Nat} {loose:List Str} {w:World} {fa:List He.Fa} {fn:List He.DefD} {fx:List Fx}
theorem b0k.join (k1 k2 k3:Nat) (h1:b0k r M n (fa.take k1) (fn.take k2) (fx.take k3) w) (h2:b0k r M n (fa.drop k1) (fn.drop k2) (fx.drop k3) w):b0k r M n fa fn fx w:=by
 intro os
 have a:=h1 os
 have b:=h2 os
 cases e:endF (stepQ (denQ tabQ) r.prog w) M r.prog w os with
 | none =>
  rw [e] at a
  cases a
 | some s =>
  rw [e] at a b
  have c:=a77 (Option.some.inj a) (Option.some.inj b)
  simp only [List.take_append_drop] at c
  exact congrArg some c
end
end Sv
noncomputable section
namespace Sv
open PySem PySem.Spec PyProof.Rows L2 PySem.W PySem.Calls
def Cw.d:Cw→D
 | .str z=>.str z
 | .tup zs=>.tup (zs.map D.str)
def a6P (n:Nat) (ts:List TbW) (g:Addr→Option Obj):Bool × List (Option (List (Option (Str × Int)))):=a79 g n fun K=>a1i ts K
section
open HandSHeadRun
def b7H (r:OpenRow) (M n:Nat) (ts:List TbW) (w:World):Prop :=
 ∀ os:OsState,(endF (stepQ (denQ tabQ) r.prog w) M r.prog w os).map (fun s=>a6P n ts (getT s))=some (a06 ts w)
variable {r:OpenRow} {q:Program} {M n:Nat} {loose:List Str} {w:World} {fa:List He.Fa} {fn:List He.DefD} {fx:List Fx} {ts:List TbW}
end
end Sv
namespace Sv
open PySem PySem.Spec PyProof.Rows L2 PySem.W PySem.Calls
section
open HandSHeadRun
def b3b (L:Nat) (t:Thread):Bool:=match t.cur with
 | .ask _=>Nat.beq t.pos.line L
 | _=>false
section
variable (st:SharedT→Thread→Option (SharedT × Thread)) (n0:Nat) (ann:Option Value) (L:Nat)
def goP:Nat→SharedT→Thread→Option (Nat × SharedT × Thread)
 | 0,_,_=>none
 | m + 1,s,t=>match b3b L t with
  | true=>some (m + 1,s,t)
  | false=>match through t with
   | true=>none
   | false=>match stepOk n0 ann t with
    | false=>none
    | true=>match st s t with
     | some (s',t')=>frS s' fun s'=>goP m s' t'
     | none=>none
theorem a8B:∀ {m:Nat} {s:SharedT} {t:Thread} {k:Nat} {s1:SharedT} {t1:Thread},goP st n0 ann L m s t=some (k,s1,t1)→goF st n0 ann m s t=goF st n0 ann k s1 t1
 | 0,_,_,_,_,_,h=>by cases h
 | m + 1,s,t,k,s1,t1,h=>by
  unfold goP at h
  cases h1:b3b L t with
  | true =>
   rw [h1] at h
   cases h
   rfl
  | false =>
   rw [h1] at h
   cases h2:through t with
   | true =>
    rw [h2] at h
    cases h
   | false =>
    rw [h2] at h
    cases h3:stepOk n0 ann t with
    | false =>
     rw [h3] at h
     cases h
    | true =>
     rw [h3] at h
     cases h4:st s t with
     | none =>
      rw [h4] at h
      cases h
     | some r =>
      obtain ⟨s',t'⟩:=r
      rw [h4] at h
      have h5:(frS s' fun s'=>goP st n0 ann L m s' t')=some (k,s1,t1):=h
      rw [frS_eq] at h5
      have e:=a8B h5
      show (match through t with
       | true=>some s
       | false=>match stepOk n0 ann t with
        | false=>none
        | true=>match st s t with
         | some (s',t')=>frS s' fun s'=>goF st n0 ann m s' t'
         | none=>none)=_
      rw [h2,h3,h4]
      show (frS s' fun s'=>goF st n0 ann m s' t')=_
      rw [frS_eq]
      exact e
end
noncomputable def b0v {α:Type} (st:SharedT→Thread→Option (SharedT × Thread)) (stb:Bool→SharedT→Thread→Option (SharedT × Thread)) (L M:Nat) (p:Program) (w:World) (os:OsState) (f:SharedT→α):Option (Option α × Option α) :=
 match putAll (boot_heap w.params).objs.toList .nil 0 with
 | some (t,n)=>frNat n fun n0=>match goP st n0 (bootAnn w) L M (bootT w os (t,n0)) (topStub p) with
  | some (k,s1,t1)=>some ((goF (stb false) n0 (bootAnn w) k s1 t1).map f,(goF (stb true) n0 (bootAnn w) k s1 t1).map f)
  | none=>none
 | none=>none
theorem a3I {α:Type} {den:Code→Sem Fin} {L M:Nat} {p:Program} {w:World} {os:OsState} {f:SharedT→α} {x:α}
  (h:b0v (stepQ den p w) (fun b=>stepQ den p (w.withFollow ROW b)) L M p w os f=some (some x,some x)):(endF (stepQ den p w) M p w os).map f=some x:=by
 unfold b0v at h
 unfold endF
 cases e:putAll (boot_heap w.params).objs.toList .nil 0 with
 | none =>
  rw [e] at h
  cases h
 | some r =>
  obtain ⟨t,n⟩:=r
  rw [e] at h
  dsimp only at h ⊢
  rw [frNat_eq] at h ⊢
  cases e2:goP (stepQ den p w) n (bootAnn w) L M (bootT w os (t,n)) (topStub p) with
  | none =>
   rw [e2] at h
   cases h
  | some r =>
   obtain ⟨k,s1,t1⟩:=r
   rw [e2] at h
   rw [a8B _ _ _ _ e2]
   have h:=Option.some.inj h
   obtain ⟨ha,hb⟩:=Prod.mk.inj h
   have hw:=World.withFollow_self w ROW
   cases q:w.params.followText ROW with
   | false =>
    rw [q] at hw
    rw [hw] at ha
    exact ha
   | true =>
    rw [q] at hw
    rw [hw] at hb
    exact hb
variable {r:OpenRow} {q:Program} {L M n:Nat} {loose:List Str} {w:World} {fa:List He.Fa} {fn:List He.DefD} {fx:List Fx} {ts:List TbW}
def b0B (r:OpenRow) (q:Program) (L M:Nat) (loose:List Str) (w:World):Prop :=
 ∀ os:OsState,b0v (stepQ (denQ tabQ) r.prog w) (fun b=>stepQ (denQ tabQ) r.prog (w.withFollow ROW b)) L M r.prog w os (fun s=>(looksF r.prog (boot_heap w.params) s.abs,seenQ q loose (importedModules r.prog.main.body) (fun s=>xlAt q [] s && recOk r.toRowW.records s) s.abs))=some (some (true,openGood q loose),some (true,openGood q loose))
def b0C (r:OpenRow) (L M n:Nat) (fa:List He.Fa) (fn:List He.DefD) (fx:List Fx) (w:World):Prop :=
 ∀ os:OsState,b0v (stepQ (denQ tabQ) r.prog w) (fun b=>stepQ (denQ tabQ) r.prog (w.withFollow ROW b)) L M r.prog w os (fun s=>a5K n fa fn fx (getT s))=some (some (He.valD fn,true),some (He.valD fn,true))
def b0D (r:OpenRow) (L M n:Nat) (ts:List TbW) (w:World):Prop :=
 ∀ os:OsState,b0v (stepQ (denQ tabQ) r.prog w) (fun b=>stepQ (denQ tabQ) r.prog (w.withFollow ROW b)) L M r.prog w os (fun s=>a6P n ts (getT s))=some (some (a06 ts w),some (a06 ts w))
def a7B (r:OpenRow) (q:Program) (L M:Nat) (loose:List Str) (n:Nat) (ts:List TbW) (w:World):Prop :=
 ∀ os:OsState,b0v (stepQ (denQ tabQ) r.prog w) (fun b=>stepQ (denQ tabQ) r.prog (w.withFollow ROW b)) L M r.prog w os (fun s=>((looksF r.prog (boot_heap w.params) s.abs,seenQ q loose (importedModules r.prog.main.body) (fun s=>xlAt q [] s && recOk r.toRowW.records s) s.abs),a6P n ts (getT s)))=some (some ((true,openGood q loose),a06 ts w),some ((true,openGood q loose),a06 ts w))
theorem a6J {α β γ:Type} {o:Option γ} {f:γ→α} {g:γ→β} {x:α} {y:β} (h:o.map (fun s=>(f s,g s))=some (x,y)):o.map f=some x∧o.map g=some y:=by
 cases o with
 | none=>cases h
 | some s =>
  have h:=Option.some.inj h
  obtain ⟨h1,h2⟩:=Prod.mk.inj h
  exact ⟨congrArg some h1,congrArg some h2⟩
theorem a7B.a (h:a7B r q L M loose n ts w):b7G r q M loose w:=fun os=>(a6J (a3I (h os))).1
theorem a7B.d (h:a7B r q L M loose n ts w):b7H r M n ts w:=fun os=>(a6J (a3I (h os))).2
theorem b0B.a (h:b0B r q L M loose w):b7G r q M loose w:=fun os=>a3I (h os)
theorem b0C.b (h:b0C r L M n fa fn fx w):b0k r M n fa fn fx w:=fun os=>a3I (h os)
theorem b0D.d (h:b0D r L M n ts w):b7H r M n ts w:=fun os=>a3I (h os)
def a8U (r:OpenRow) (M n:Nat) (fa:List He.Fa) (fn:List He.DefD) (fx:List Fx) (b:Bool) (w:World):Prop :=
 ∀ os:OsState,(endF (stepQ (denQ tabQ) r.prog (w.withFollow ROW b)) M r.prog w os).map (fun s=>a5K n fa fn fx (getT s))=some (He.valD fn,true)
theorem a4V {p:Program} {w:World} {M:Nat} {os:OsState} {α:Type} {f:SharedT→α} {x:α} (h:∀ b,(endF (stepQ (denQ tabQ) p (w.withFollow ROW b)) M p w os).map f=some x):(endF (stepQ (denQ tabQ) p w) M p w os).map f=some x:=by
 have h:=h (w.params.followText ROW)
 rw [World.withFollow_self w ROW] at h
 exact h
theorem a8U.b (h0:a8U r M n fa fn fx false w) (h1:a8U r M n fa fn fx true w):b0k r M n fa fn fx w:=fun os=>a4V fun b=>match b with
 | false=>h0 os
 | true=>h1 os
end
end Sv
noncomputable section
namespace Sv
open PySem PySem.Spec PyProof.Rows L2 PySem.W PySem.Calls
section
end
theorem a9K {L:Addr→Option Obj} {K:Frag} {N:Addr→Str→Option (Option Value)} {fa:List He.Fa} {fn:List He.DefD} {fx:List Fx} (h:L=a0L K):b5G L K N fa fn fx=a9L K N fa fn fx:=by
 subst h
 have e0:∀ (x:Str),gaM N x=gaN N x:=fun _=>rfl
 have e1:∀ name l,a4w (a0L K) N name l=a1Q K N name l:=fun name l=>by
  induction l with
  | nil=>rfl
  | cons c r ih =>
   show (match b7X (a0L K) N name c with
    | some (some v)=>some (some v)
    | some none=>a4w (a0L K) N name r
    | none=>none)=(match b2e K N name c with
    | some (some v)=>some (some v)
    | some none=>a1Q K N name r
    | none=>none)
   rw [ih]
   rfl
 have e2:a3V (a0L K) N=a2u K N:=by
  funext t name
  unfold a3V a2u
  cases t with
  | ref a =>
   simp only [e1]
   try rfl
  | _=>rfl
 have e3:maM (a0L K) N=maN K N:=by
  funext C m
  unfold maM maN
  rw [e2]
  try rfl
 have e4:b3x (a0L K) N=b0m K N:=by
  funext p
  unfold b3x b0m
  rw [e3]
  try rfl
 have e5:faM (a0L K) K N=faN K N:=by
  funext f
  cases f <;> first | rfl | (unfold faM faN;rw [e2];rfl) | (unfold faM faN;rw [e2,e3];rfl)
 have e6:fxM (a0L K) K N=fxN K N:=by
  funext f
  cases f <;> first | rfl | (unfold fxM fxN;rw [e2];rfl) | (unfold fxM fxN;rw [e2,e3];rfl)
 unfold b5G a9L
 rw [e4,e5,e6]
 try rfl
theorem a4L {K r:Frag} {a:Addr}:(K ++ r).lookup a=match K.lookup a with
 | some o=>some o
 | none=>r.lookup a:=by
 induction K with
 | nil=>rfl
 | cons p K ih =>
  obtain ⟨b,o⟩:=p
  show (match a == b with
   | true=>some o
   | false=>(K ++ r).lookup a)=(match (match a == b with
   | true=>some o
   | false=>K.lookup a) with
   | some o=>some o
   | none=>r.lookup a)
  cases a == b with
  | true=>rfl
  | false=>exact ih
theorem a4a {g:Addr→Option Obj} {a:Addr}:∀ l:List Addr,(l.filterMap fun a=>(g a).map fun o=>(a,o)).lookup a=if a∈l then g a else none
 | []=>rfl
 | b :: l=>by
  rw [List.filterMap_cons]
  cases e:g b with
  | none =>
   show (l.filterMap fun a=>(g a).map fun o=>(a,o)).lookup a=_
   rw [a4a l]
   by_cases h:a=b
   ·subst h
    rw [e]
    split <;> split <;> rfl
   ·by_cases m:a∈l
    ·rw [if_pos m,if_pos (zao _ m)]
    ·rw [if_neg m,if_neg fun z=>(zat.mp z).elim h m]
  | some o =>
   show (match a == b with
    | true=>some o
    | false=>(l.filterMap fun a=>(g a).map fun o=>(a,o)).lookup a)=_
   by_cases h:a=b
   ·subst h
    rw [beq_self_eq_true,if_pos zal,e]
   ·rw [beq_eq_false_iff_ne.mpr h]
    show (l.filterMap fun a=>(g a).map fun o=>(a,o)).lookup a=_
    rw [a4a l]
    by_cases m:a∈l
    ·rw [if_pos m,if_pos (zao _ m)]
    ·rw [if_neg m,if_neg fun z=>(zat.mp z).elim h m]
theorem a3k {g:Addr→Option Obj} {K:Frag} {n:Nat} (hK:a1j g K) (hg:∀ a,n≤a→g a=none) (a:Addr):(K ++ a3W g n).lookup a=g a:=by
 rw [a4L]
 cases e:K.lookup a with
 | some o=>exact (hK.at_ e).symm
 | none =>
  show (a3W g n).lookup a=g a
  unfold a3W
  rw [a4a]
  by_cases h:a < n
  ·rw [if_pos (List.mem_range.mpr h)]
  ·rw [if_neg fun z=>h (List.mem_range.mp z),hg a (Nat.le_of_not_lt h)]
theorem b17 {K r:Frag}:nsU (b3i K) (K ++ r)=nsIn (K ++ r):=by
 funext ns x
 unfold nsU
 rw [a0x,a2p]
 cases e:K.lookup ns with
 | none=>rfl
 | some o =>
  obtain ⟨c,d,dt,sl⟩:=o
  cases dt with
  | dict es n =>
   have e2:(K ++ r).lookup ns=some ⟨c,d,.dict es n,sl⟩:=by rw [a4L,e]
   show foN (codeS x) (fun c=>(match a3U c x (es.toList.map fun e=>(a1l e,e)) with
    | some e=>some (some e.val)
    | none=>if (es.toList.map fun e=>(a1l e,e)).any (fun p=>p.2.refKey) then none else some none))=_
   unfold nsIn
   rw [a1h,a2N,List.any_map,e2] <;> rfl
  | _=>rfl
theorem a9N {g:Addr→Option Obj} {N:Nat} (n:Nat) (hg:∀ a,N≤a→g a=none):∃ K:Frag,(∀ a,K.lookup a=g a)∧∀ fa fn fx ts,a9M n N fa fn fx ts g=(obsX fa fn fx K,a1i ts K):=by
 obtain ⟨K,hK,q⟩:=a2S (g:=g) n
 refine ⟨K ++ a3W g N,a3k hK hg,fun fa fn fx ts=>?_⟩
 unfold a9M
 rw [q,a4E,b17,a9K (by funext a;rw [a0x,a3k hK hg]),a4c]
theorem a9r {h:Heap} {a:Addr} (k:h.objs.size≤a):h.get? a=none:=by
 unfold Heap.get?
 rw [Array.getElem?_eq_none k]
section
open HandSHeadRun
def b8k (r:OpenRow) (M:Nat) (w:World):Prop :=
 ∀ os:OsState,(endF (stepQ (denQ tabQ) r.prog w) M r.prog w os).map (fun s=>looksF r.prog (boot_heap w.params) s.abs)=some true
def b8l (r:OpenRow) (q:Program) (M:Nat) (loose:List Str) (w:World):Prop :=
 ∀ os:OsState,(endF (stepQ (denQ tabQ) r.prog w) M r.prog w os).map (fun s=>seenQ q loose (importedModules r.prog.main.body) (fun s=>xlAt q [] s && recOk r.toRowW.records s) s.abs)=some (openGood q loose)
def b0E (r:OpenRow) (M n:Nat) (fa:List He.Fa) (fn:List He.DefD) (fx:List Fx) (ts:List TbW) (w:World):Prop :=
 ∀ os:OsState,(endF (stepQ (denQ tabQ) r.prog w) M r.prog w os).map (fun s=>a9M n s.n fa fn fx ts (getT s))=some ((He.valD fn,true),a06 ts w)
variable {r:OpenRow} {q:Program} {M n:Nat} {loose:List Str} {w:World} {fa:List He.Fa} {fn:List He.DefD} {fx:List Fx} {ts:List TbW}
theorem a8V.l (h0:a8V r M false w) (h1:a8V r M true w):b8k r M w:=fun os=>a4V fun b=>match b with
 | false=>h0 os
 | true=>h1 os
theorem a8W.s (h0:a8W r q M loose false w) (h1:a8W r q M loose true w):b8l r q M loose w:=fun os=>a4V fun b=>match b with
 | false=>h0 os
 | true=>h1 os
theorem a8X.u (h0:a8X r M n fa fn fx ts false w) (h1:a8X r M n fa fn fx ts true w):b0E r M n fa fn fx ts w:=fun os=>a4V fun b=>match b with
 | false=>h0 os
 | true=>h1 os
theorem a78 {fa1 fa2:List He.Fa} {fn1 fn2:List He.DefD} {fx1 fx2:List Fx} {K:Frag} (h1:obsX fa1 fn1 fx1 K=(He.valD fn1,true)) (h2:obsX fa2 fn2 fx2 K=(He.valD fn2,true)):obsX (fa1 ++ fa2) (fn1 ++ fn2) (fx1 ++ fx2) K=(He.valD (fn1 ++ fn2),true):=by
 rw [← a4c] at h1 h2 ⊢
 unfold a9L He.valD at h1 h2 ⊢
 simp only [Prod.mk.injEq,zak] at h1 h2
 obtain ⟨⟨⟨a1,b1⟩,c1⟩,d1⟩:=h1
 obtain ⟨⟨⟨a2,b2⟩,c2⟩,d2⟩:=h2
 rw [List.all_append,List.all_append,List.all_append,zau,zau,a1,a2,b1,b2,c1,c2,d1,d2]
 rfl
theorem b0g {ts1 ts2:List TbW} {K:Frag} (h1:a1i ts1 K=a06 ts1 w) (h2:a1i ts2 K=a06 ts2 w):a1i (ts1 ++ ts2) K=a06 (ts1 ++ ts2) w:=by
 unfold a1i a06 at h1 h2 ⊢
 simp only [Prod.mk.injEq] at h1 h2
 obtain ⟨a1,b1⟩:=h1
 obtain ⟨a2,b2⟩:=h2
 rw [List.all_append,zau,zau,a1,a2,b1,b2]
 rfl
theorem a7P {s:SharedT} {a:Addr} (h:s.n≤a):getT s a=none:=by
 rw [getT_eq]
 exact a9r (by rw [show s.abs.heap.objs.size=s.n from absHeap_size s.tree s.n s.life];exact h)
theorem b0E.join (k1 k2 k3 k4:Nat) (h1:b0E r M n (fa.take k1) (fn.take k2) (fx.take k3) (ts.take k4) w) (h2:b0E r M n (fa.drop k1) (fn.drop k2) (fx.drop k3) (ts.drop k4) w):b0E r M n fa fn fx ts w:=by
 intro os
 have a:=h1 os
 have b:=h2 os
 cases e:endF (stepQ (denQ tabQ) r.prog w) M r.prog w os with
 | none =>
  rw [e] at a
  cases a
 | some s =>
  rw [e] at a b
  obtain ⟨K,_,q⟩:=a9N (g:=getT s) (N:=s.n) n fun a h=>a7P h
  have a:a9M n s.n (fa.take k1) (fn.take k2) (fx.take k3) (ts.take k4) (getT s)=_:=Option.some.inj a
  have b:a9M n s.n (fa.drop k1) (fn.drop k2) (fx.drop k3) (ts.drop k4) (getT s)=_:=Option.some.inj b
  rw [q] at a b
  obtain ⟨a1,a2⟩:=Prod.mk.inj a
  obtain ⟨b1,b2⟩:=Prod.mk.inj b
  have c:=a78 a1 b1
  have d:=b0g a2 b2
  simp only [List.take_append_drop] at c d
  show some (a9M n s.n fa fn fx ts (getT s))=_
  rw [q,c,d]
end
end Sv
namespace Sv
open PySem PySem.Spec PyProof.Rows L2
end Sv
namespace Cl
open PySem PySem.Spec PyProof.Rows L2 Sv
open L2H (RoomH)
def top (i:Nat):Stmt:=PySem.Challenge.pw_stillmain_k11_kinds_known.main.body.getD i (.Pass ⟨0,0,0,0⟩)
def fd (a:Str × Option Str) (n u:Str) (s:Stmt):He.DefD:=⟨a,n,u,defArgs s,defBody s,defScope s,[],[]⟩
def fn:List He.DefD:=[
 fd ("_law_bag",none) "_law_bag" "_law_bag" (top 14),
 fd ("_law_take",none) "_law_take" "_law_take" (top 15),
 fd ("is_whole",none) "is_whole" "is_whole" (top 5),
 fd ("is_name",none) "is_name" "is_name" (top 6),
 fd ("is_position",none) "is_position" "is_position" (top 9),
 fd ("_law_due",none) "_law_due" "_law_due" (top 20),
 fd ("_law_number",none) "_law_number" "_law_number" (top 17),
 fd ("_law_sign",none) "_law_sign" "_law_sign" (top 16),
 fd ("is_cost",none) "is_cost" "is_cost" (top 7),
 fd ("is_time",none) "is_time" "is_time" (top 8),
 fd ("_law_text",none) "_law_text" "_law_text" (top 18),
 fd ("_law_asked",none) "_law_asked" "_law_asked" (top 21),
 fd ("_law_thing",none) "_law_thing" "_law_thing" (top 19),
 fd ("_law_right",none) "_law_right" "_law_right" (top 22),
 fd ("law",none) "law" "law" (top 23)]
def fa:List He.Fa:=[
 .glo "_law_bag",
 .glo "_law_take",
 .glo "is_whole",
 .glo "is_name",
 .glo "is_position",
 .glo "_law_due",
 .glo "_law_number",
 .glo "_law_sign",
 .glo "is_cost",
 .glo "is_time",
 .glo "_law_text",
 .glo "_law_asked",
 .glo "_law_thing",
 .glo "_law_right",
 .glo "law",
 .glo "MainsError",
 .glo "NoRow",
 .free "len",
 .free "abs",
 .free "max",
 .free "min",
 .free "range",
 .free "isinstance",
 .free "repr",
 .free "list",
 .free "tuple",
 .free "dict",
 .free "sorted",
 .free "sum",
 .free "enumerate",
 .free "zip",
 .free "reversed",
 .free "str",
 .free "int",
 .free "bool",
 .free "set",
 .free "ValueError",
 .free "any",
 .free "all",
 .str "LETTERS" "abcdefghijklmnopqrstuvwxyz",
 .int "LONGEST" 8,
 .int "MOST_COST" 99,
 .int "MOST_TIME" 1000000000,
 .exc "NoRow"]
def fx:List Fx:=[
 .bas "MainsError",
 .sib ["NoRow"],
 .veT ["NoRow"] "ValueError",
 .exA ["NoRow"] "MainsError",
 .exfs ["NoRow"],
 .kitT "NoRow" "str" false,
 .kitT "NoRow" "int" false,
 .kitT "NoRow" "bool" false,
 .rpx "NoRow" "NoRow"]
def nm0:List Str:=["__name__", "LETTERS", "LONGEST", "MOST_COST", "MOST_TIME", "is_whole", "is_name", "is_cost", "is_time", "is_position", "MainsError", "NoRow", "_law_bag", "_law_take", "_law_sign", "_law_number", "_law_text", "_law_thing", "_law_due", "_law_asked", "_law_right"]
def names:List Str:=nm0
abbrev R:PySem.W.OpenRow:=PySem.W.OpenLaw.row PySem.Challenge.rw_stillmain_k11_kinds_known
noncomputable abbrev hk:PySem.W.Hook:=b1F 5 fa fn fx
noncomputable def ob (s:PySem.W.SharedT):AlX:=a5K 5 fa fn fx (HandSHeadRun.getT s)
theorem ob_eq (s:PySem.W.SharedT):ob s=hk.obs s.abs:=a9J (HandSHeadRun.getT_eq s)
theorem run (w:World):HandSHeadRun.RunEq R (PySem.W.view R.prog [23]) hk ob 20000 names w:=by
 intro os
 kernel_rfl
def b7N:List En:=[.fn "_law_bag",.fn "_law_take",.fn "is_whole",.fn "is_name",.fn "is_position",.fn "_law_due",.fn "_law_number",.fn "_law_sign",.fn "is_cost",.fn "is_time",.fn "_law_text",.fn "_law_asked",.fn "_law_thing",.fn "_law_right",.fn "law"]
def b0V:List Str:=["MainsError", "NoRow"]
def b5k:List Str:=["LETTERS", "LONGEST", "MOST_COST", "MOST_TIME"]
abbrev sn (N:List Str):SN:=⟨N,b7N,b0V,b5k⟩
abbrev CK (N:List Str) (s:Stmt) (b:RSs):Prop:=a0Q (sn N) (defScope s) b (defBody s)=true
local macro_rules | `(tactic| walk_at "ck")=>`(tactic| decide +kernel)
local macro_rules | `(tactic| walk_at "fs")=>`(tactic| exact ⟨rfl,rfl,rfl,by decide +kernel,rfl,by decide +kernel,by decide +kernel⟩)
def N0:List Str:=["_law_script", "_law_cell"]
def b0:RSs:=.cons (.ret (.lst true (.cons (.con (.int 0)) (.cons (.con (.int 1234567891)) (.cons (.con (.int 0)) (.cons (.lc false (.bi .abs (.cons (.var 1) .nil)) [1] true (.lst (.sl (.var 0) (.nn) (.ss (.con (.int 63))))) (.nn) [("_law_cell",1)]) .nil)))))) .nil
theorem sc0:FnScope N0 ["_law_script"] (defScope (top 14)):=by walk_at "fs"
theorem ck0:CK N0 (top 14) b0:=by walk_at "ck"
def N1:List Str:=["_law_bag_here", "_law_many", "_law_cell", "_law_value", "_law_first", "_law_second"]
def b1:RSs:=.cut (.ifs (.cmp .Eq (.ix (.var 0) (.con (.int 0))) (.con (.int 0))) (.cons (.asg [2] true (.con (.int 0))) (.cut (.ifs (.cmp .Lt (.ix (.var 0) (.con (.int 2))) (.bi .len (.cons (.ix (.var 0) (.con (.int 3))) .nil))) (.cons (.asg [2] true (.ix (.ix (.var 0) (.con (.int 3))) (.ix (.var 0) (.con (.int 2))))) .nil) (.nil)) (.cons (.agi (.var 0) (.con (.int 2)) .Add (.con (.int 1))) (.cut (.ifs (.cmp .GtE (.var 2) (.con (.int 1000000000000000000))) (.cons (.sti (.var 0) (.con (.int 0)) (.var 2)) .nil) (.nil)) (.cons (.sti (.var 0) (.con (.int 1)) (.bin .Mod (.bin .Add (.bin .Add (.bin .Mult (.ix (.var 0) (.con (.int 1))) (.con (.int 48271))) (.bin .Mod (.var 2) (.con (.int 2147483647)))) (.bin .Mult (.con (.int 7919)) (.ix (.var 0) (.con (.int 2))))) (.con (.int 2147483647)))) .nil))))) (.nil)) (.cons (.ifs (.cmp .Gt (.ix (.var 0) (.con (.int 0))) (.con (.int 0))) (.cons (.asg [3] true (.bin .Mod (.ix (.var 0) (.con (.int 0))) (.var 1))) (.cons (.sti (.var 0) (.con (.int 0)) (.bin .FloorDiv (.ix (.var 0) (.con (.int 0))) (.var 1))) (.cons (.ret (.var 3)) .nil))) (.nil)) (.cons (.asg [4] true (.bin .Mod (.bin .Mult (.bin .Add (.ix (.var 0) (.con (.int 1))) (.con (.int 1))) (.con (.int 39373))) (.con (.int 1000000007)))) (.cons (.asg [5] true (.bin .Mod (.bin .Mult (.bin .Mod (.bin .Mult (.var 4) (.var 4)) (.con (.int 998244353))) (.con (.int 30011))) (.con (.int 998244353)))) (.cons (.ifs (.cmp .Gt (.var 1) (.con (.int 1000000))) (.cons (.ret (.bin .Mod (.bin .Add (.bin .Mult (.var 5) (.con (.int 1000000007))) (.var 4)) (.var 1))) .nil) (.nil)) (.cons (.ret (.bin .Mod (.bin .FloorDiv (.var 5) (.con (.int 7))) (.var 1))) .nil)))))
theorem sc1:FnScope N1 ["_law_bag_here", "_law_many"] (defScope (top 15)):=by walk_at "fs"
theorem ck1:CK N1 (top 15) b1:=by walk_at "ck"
def N2:List Str:=["thing"]
def b2:RSs:=.cons (.ret (.and (.cons (.isi (.var 0) (.ty "int")) (.cons (.nt (.isi (.var 0) (.ty "bool"))) .nil)))) .nil
theorem sc2:FnScope N2 ["thing"] (defScope (top 5)):=by walk_at "fs"
theorem ck2:CK N2 (top 5) b2:=by walk_at "ck"
def N3:List Str:=["thing", "sign"]
def b3:RSs:=.cons (.ifs (.or (.cons (.nt (.isi (.var 0) (.ty "str"))) (.cons (.nt (.chn .LtE .LtE (.con (.int 1)) (.bi .len (.cons (.var 0) .nil)) (.glb 1))) .nil))) (.cons (.ret (.con (.bl false))) .nil) (.nil)) (.cons (.fr [1] true (.str (.var 0)) (.cons (.ifs (.cmp .NotIn (.var 1) (.glb 0)) (.cons (.ret (.con (.bl false))) .nil) (.nil)) .nil)) (.cons (.ret (.con (.bl true))) .nil))
theorem sc3:FnScope N3 ["thing"] (defScope (top 6)):=by walk_at "fs"
theorem ck3:CK N3 (top 6) b3:=by walk_at "ck"
def N4:List Str:=["thing"]
def b4:RSs:=.cons (.ret (.and (.cons (.isi (.var 0) (.ty "str")) (.cons (.or (.cons (.cmp .Eq (.var 0) (.con (.str "open"))) (.cons (.cmp .Eq (.var 0) (.con (.str "shut"))) .nil))) .nil)))) .nil
theorem sc4:FnScope N4 ["thing"] (defScope (top 9)):=by walk_at "fs"
theorem ck4:CK N4 (top 9) b4:=by walk_at "ck"
def N5:List Str:=["_law_kind", "_law_thing_here", "_law_letters", "_law_whole", "_law_name", "_law_position", "_law_sign_here"]
def b5:RSs:=.cons (.asg [2] true (.con (.str "abcdefghijklmnopqrstuvwxyz"))) (.cons (.asg [3] true (.cmp .Eq (.var 0) (.con (.str "whole")))) (.cons (.asg [4] true (.and (.cons (.cmp .Eq (.var 0) (.con (.str "text"))) (.cons (.chn .LtE .LtE (.con (.int 1)) (.bi .len (.cons (.var 1) .nil)) (.con (.int 8))) (.cons (.cmp .Eq (.lc false (.var 6) [6] true (.str (.var 1)) (.ss (.cmp .NotIn (.var 6) (.var 2))) [("_law_sign_here",6)]) (.lst false (.nil))) .nil))))) (.cons (.asg [5] true (.and (.cons (.cmp .Eq (.var 0) (.con (.str "text"))) (.cons (.cmp .In (.var 1) (.tup (.cons (.con (.str "open")) (.cons (.con (.str "shut")) .nil)))) .nil)))) (.cons (.ret (.lst false (.cons (.var 3) (.cons (.var 4) (.cons (.and (.cons (.var 3) (.cons (.chn .LtE .LtE (.con (.int 0)) (.var 1) (.con (.int 99))) .nil))) (.cons (.and (.cons (.var 3) (.cons (.chn .LtE .LtE (.con (.int 0)) (.var 1) (.bin .Pow (.con (.int 10)) (.con (.int 9)))) .nil))) (.cons (.var 5) .nil))))))) .nil))))
theorem sc5:FnScope N5 ["_law_kind", "_law_thing_here"] (defScope (top 20)):=by walk_at "fs"
theorem ck5:CK N5 (top 20) b5:=by walk_at "ck"
def N6:List Str:=["_law_bag_here", "_law_way"]
def b6:RSs:=.cons (.asg [1] true (.call 1 (.cons (.var 0) (.cons (.con (.int 5)) .nil)))) (.cons (.ifs (.cmp .Eq (.var 1) (.con (.int 0))) (.cons (.ret (.bin .Sub (.bin .Add (.ix (.lst false (.cons (.con (.int 0)) (.cons (.con (.int 99)) (.cons (.bin .Pow (.con (.int 10)) (.con (.int 9))) .nil)))) (.call 1 (.cons (.var 0) (.cons (.con (.int 3)) .nil)))) (.call 1 (.cons (.var 0) (.cons (.con (.int 3)) .nil)))) (.con (.int 1)))) .nil) (.nil)) (.cons (.ifs (.cmp .Eq (.var 1) (.con (.int 1))) (.cons (.ret (.call 1 (.cons (.var 0) (.cons (.con (.int 120)) .nil)))) .nil) (.nil)) (.cons (.ifs (.cmp .Eq (.var 1) (.con (.int 2))) (.cons (.ret (.bin .Sub (.con (.int 0)) (.call 1 (.cons (.var 0) (.cons (.bin .Pow (.con (.int 10)) (.con (.int 40))) .nil))))) .nil) (.nil)) (.cons (.ifs (.cmp .Eq (.var 1) (.con (.int 3))) (.cons (.ret (.call 1 (.cons (.var 0) (.cons (.bin .Pow (.con (.int 10)) (.con (.int 40))) .nil)))) .nil) (.nil)) (.cons (.ret (.call 1 (.cons (.var 0) (.cons (.bin .Add (.bin .Pow (.con (.int 10)) (.con (.int 9))) (.con (.int 2))) .nil)))) .nil)))))
theorem sc6:FnScope N6 ["_law_bag_here"] (defScope (top 17)):=by walk_at "fs"
theorem ck6:CK N6 (top 17) b6:=by walk_at "ck"
def N7:List Str:=["_law_bag_here", "_law_some"]
def b7:RSs:=.cons (.asg [1] true (.con (.str " !\"#$&'()*+,-./0123456789:;<=>?@ABCDEFGHIJKLMNOPQRSTUVWXYZ[\\]^_`"))) (.cons (.asg [1] true (.bin .Add (.var 1) (.con (.str "abcdefghijklmnopqrstuvwxyz{|}~\n")))) (.cons (.ret (.ix (.var 1) (.call 1 (.cons (.var 0) (.cons (.bi .len (.cons (.var 1) .nil)) .nil))))) .nil))
theorem sc7:FnScope N7 ["_law_bag_here"] (defScope (top 16)):=by walk_at "fs"
theorem ck7:CK N7 (top 16) b7:=by walk_at "ck"
def N8:List Str:=["thing"]
def b8:RSs:=.cons (.ret (.and (.cons (.call 2 (.cons (.var 0) .nil)) (.cons (.chn .LtE .LtE (.con (.int 0)) (.var 0) (.glb 2)) .nil)))) .nil
theorem sc8:FnScope N8 ["thing"] (defScope (top 7)):=by walk_at "fs"
theorem ck8:CK N8 (top 7) b8:=by walk_at "ck"
def N9:List Str:=["thing"]
def b9:RSs:=.cons (.ret (.and (.cons (.call 2 (.cons (.var 0) .nil)) (.cons (.chn .LtE .LtE (.con (.int 0)) (.var 0) (.glb 3)) .nil)))) .nil
theorem sc9:FnScope N9 ["thing"] (defScope (top 8)):=by walk_at "fs"
theorem ck9:CK N9 (top 8) b9:=by walk_at "ck"
def N10:List Str:=["_law_bag_here", "_law_way", "_law_letters", "_law_base", "_law_at", "_law_k"]
def b10:RSs:=.cons (.asg [1] true (.call 1 (.cons (.var 0) (.cons (.con (.int 6)) .nil)))) (.cons (.ifs (.cmp .Eq (.var 1) (.con (.int 0))) (.cons (.ret (.ix (.lst false (.cons (.con (.str "open")) (.cons (.con (.str "shut")) (.cons (.con (.str "")) (.cons (.con (.str "Open")) (.cons (.con (.str "shut ")) (.cons (.con (.str "opens")) (.cons (.con (.str "ope")) (.cons (.con (.str "aopen")) (.cons (.con (.str "shutshut")) .nil)))))))))) (.call 1 (.cons (.var 0) (.cons (.con (.int 9)) .nil))))) .nil) (.nil)) (.cons (.asg [2] true (.con (.str "abcdefghijklmnopqrstuvwxyz"))) (.cut (.ifs (.cmp .Eq (.var 1) (.con (.int 1))) (.cons (.asg [3] true (.ix (.lst false (.cons (.con (.str "open")) (.cons (.con (.str "shut")) .nil))) (.call 1 (.cons (.var 0) (.cons (.con (.int 2)) .nil))))) .nil) (.cons (.asg [3] true (.mth .join (.con (.str "")) (.cons (.lc false (.ix (.var 2) (.call 1 (.cons (.var 0) (.cons (.con (.int 26)) .nil)))) [5] true (.rng1 (.call 1 (.cons (.var 0) (.cons (.con (.int 11)) .nil)))) (.nn) [("_law_k",5)]) .nil))) .nil)) (.cons (.asg [4] true (.call 1 (.cons (.var 0) (.cons (.bin .Add (.bi .len (.cons (.var 3) .nil)) (.con (.int 1))) .nil)))) (.cons (.ifs (.or (.cons (.cmp .Eq (.var 1) (.con (.int 2))) (.cons (.cmp .Eq (.var 1) (.con (.int 1))) .nil))) (.cons (.ret (.bin .Add (.bin .Add (.sl (.var 3) (.nn) (.ss (.var 4))) (.call 7 (.cons (.var 0) .nil))) (.sl (.var 3) (.ss (.bin .Add (.var 4) (.con (.int 1)))) (.nn)))) .nil) (.nil)) (.cons (.ifs (.cmp .Eq (.var 1) (.con (.int 3))) (.cons (.ret (.bin .Add (.bin .Add (.sl (.var 3) (.nn) (.ss (.var 4))) (.call 7 (.cons (.var 0) .nil))) (.sl (.var 3) (.ss (.var 4)) (.nn)))) .nil) (.nil)) (.cons (.ret (.var 3)) .nil)))))))
theorem b9l:FnScope N10 ["_law_bag_here"] (defScope (top 18)):=by walk_at "fs"
theorem b8v:CK N10 (top 18) b10:=by walk_at "ck"
def N11:List Str:=["_law_way", "_law_thing_here"]
def b11:RSs:=.cons (.ifs (.cmp .Eq (.var 0) (.con (.int 0))) (.cons (.ret (.call 2 (.cons (.var 1) .nil))) .nil) (.nil)) (.cons (.ifs (.cmp .Eq (.var 0) (.con (.int 1))) (.cons (.ret (.call 3 (.cons (.var 1) .nil))) .nil) (.nil)) (.cons (.ifs (.cmp .Eq (.var 0) (.con (.int 2))) (.cons (.ret (.call 8 (.cons (.var 1) .nil))) .nil) (.nil)) (.cons (.ifs (.cmp .Eq (.var 0) (.con (.int 3))) (.cons (.ret (.call 9 (.cons (.var 1) .nil))) .nil) (.nil)) (.cons (.ret (.call 4 (.cons (.var 1) .nil))) .nil))))
theorem b9m:FnScope N11 ["_law_way", "_law_thing_here"] (defScope (top 21)):=by walk_at "fs"
theorem b8w:CK N11 (top 21) b11:=by walk_at "ck"
def N12:List Str:=["_law_bag_here", "_law_way", "_law_how", "_law_part"]
def b12:RSs:=.cons (.asg [1] true (.call 1 (.cons (.var 0) (.cons (.con (.int 8)) .nil)))) (.cons (.ifs (.cmp .Lt (.var 1) (.con (.int 3))) (.cons (.ret (.tup (.cons (.con (.str "whole")) (.cons (.call 6 (.cons (.var 0) .nil)) .nil)))) .nil) (.nil)) (.cons (.ifs (.cmp .Lt (.var 1) (.con (.int 6))) (.cons (.ret (.tup (.cons (.con (.str "text")) (.cons (.call 10 (.cons (.var 0) .nil)) .nil)))) .nil) (.nil)) (.cons (.ifs (.cmp .Eq (.var 1) (.con (.int 6))) (.cons (.ret (.tup (.cons (.con (.str "other")) (.cons (.ix (.lst false (.cons (.con .non) (.cons (.con (.bl true)) (.cons (.con (.bl false)) .nil)))) (.call 1 (.cons (.var 0) (.cons (.con (.int 3)) .nil)))) .nil)))) .nil) (.nil)) (.cons (.asg [2] true (.call 1 (.cons (.var 0) (.cons (.con (.int 8)) .nil)))) (.cons (.asg [3] true (.con (.int 0))) (.cut (.ifs (.cmp .Eq (.call 1 (.cons (.var 0) (.cons (.con (.int 2)) .nil))) (.con (.int 0))) (.cons (.asg [3] true (.call 6 (.cons (.var 0) .nil))) .nil) (.cons (.asg [3] true (.call 10 (.cons (.var 0) .nil))) .nil)) (.cons (.ret (.tup (.cons (.con (.str "other")) (.cons (.ix (.lst false (.cons (.lst false (.cons (.var 3) .nil)) (.cons (.tup (.cons (.var 3) .nil)) (.cons (.dct false (.cons (.con (.str "a")) (.var 3) (.nil))) (.cons (.lst false (.nil)) (.cons (.tup (.nil)) (.cons (.dct false (.nil)) (.cons (.lst false (.cons (.lst false (.cons (.var 3) .nil)) .nil)) (.cons (.mkx 1) .nil))))))))) (.var 2)) .nil)))) .nil)))))))
theorem b9n:FnScope N12 ["_law_bag_here"] (defScope (top 19)):=by walk_at "fs"
theorem b8x:CK N12 (top 19) b12:=by walk_at "ck"
def N13:List Str:=["_law_thing_here", "_law_due_here", "_law_first", "_law_step", "_law_k", "_law_way", "_law_found"]
def b13:RSs:=.cons (.fr [4] true (.rng1 (.con (.int 5))) (.cons (.asg [5] true (.bin .Mod (.bin .Add (.var 2) (.bin .Mult (.var 3) (.var 4))) (.con (.int 5)))) (.cons (.asg [6] true (.call 11 (.cons (.var 5) (.cons (.var 0) .nil)))) (.cons (.ifs (.or (.cons (.nt (.isi (.var 6) (.ty "bool"))) (.cons (.cmp .NotEq (.var 6) (.ix (.var 1) (.var 5))) .nil))) (.cons (.ret (.con (.bl false))) .nil) (.nil)) .nil)))) (.cons (.ret (.con (.bl true))) .nil)
theorem b9o:FnScope N13 ["_law_thing_here", "_law_due_here", "_law_first", "_law_step"] (defScope (top 22)):=by walk_at "fs"
theorem b8y:CK N13 (top 22) b13:=by walk_at "ck"
def N14:List Str:=["_law_script", "_law_bag_here", "_law_things", "_law_kept", "_law_kind", "_law_thing_here", "_law_k"]
def b14:RSs:=.cons (.asg [1] true (.call 0 (.cons (.var 0) .nil))) (.cons (.asl 2 (.lc false (.call 12 (.cons (.var 1) .nil)) [6] true (.rng1 (.bin .Add (.con (.int 8)) (.call 1 (.cons (.var 1) (.cons (.con (.int 23)) .nil))))) (.nn) [("_law_k",6)])) (.cons (.asl 3 (.lc false (.rpx (.var 5)) [4,5] false (.lst (.var 2)) (.nn) [("_law_kind",4),("_law_thing_here",5)])) (.cons (.fr [4,5] false (.lst (.var 2)) (.cons (.ifs (.nt (.call 13 (.cons (.var 5) (.cons (.call 5 (.cons (.var 4) (.cons (.var 5) .nil))) (.cons (.call 1 (.cons (.var 1) (.cons (.con (.int 5)) .nil))) (.cons (.con (.int 1)) .nil)))))) (.cons (.ret (.con (.bl false))) .nil) (.nil)) .nil)) (.cons (.fr [4,5] false (.lst (.rev false (.var 2))) (.cons (.ifs (.nt (.call 13 (.cons (.var 5) (.cons (.call 5 (.cons (.var 4) (.cons (.var 5) .nil))) (.cons (.call 1 (.cons (.var 1) (.cons (.con (.int 5)) .nil))) (.cons (.con (.int 3)) .nil)))))) (.cons (.ret (.con (.bl false))) .nil) (.nil)) .nil)) (.cons (.ret (.cmp .Eq (.lc false (.rpx (.var 5)) [4,5] false (.lst (.var 2)) (.nn) [("_law_kind",4),("_law_thing_here",5)]) (.var 3))) .nil)))))
theorem b9p:FnScope N14 ["_law_script"] (defScope (top 23)):=by walk_at "fs"
theorem b8z:CK N14 (top 23) b14:=by walk_at "ck"
theorem whole (facts : ∀ {P : Program} {w : World} {K : zbd} {h : Heap} {mg : Str → Option Value} {f : Addr} (X : K.In h) (G : h.Ns mainGlobals mg) (hfa : mg ("law" : Str) = some (.ref f)) (c : SaysX fa fn fx K),
    ∃ fd : FuncData, (∀ (s : Shared) (v : Value), BindsTo s fd ⟨[v], []⟩ [("_law_script", v)]) ∧ ∀ base : Heap, K.In base → base.Ns mainGlobals mg → FnG P w K mg base false 12 f fd ["_law_script"] (spD ⟨K⟩ (lawT 63))) : PySem.Challenge.rw_stillmain_k11_kinds_known.Holds := by
  open PySem.W PySem.Calls in
  (w_on; o_law
   refine HandSHeadRun.head_any (r := OpenLaw.row PySem.Challenge.rw_stillmain_k11_kinds_known) (q := view (OpenLaw.row PySem.Challenge.rw_stillmain_k11_kinds_known).prog [23]) (H := Cl.hk) (ob := Cl.ob) (M := 20000) (loose := Cl.names) (d := HandSHeadRun.topDef (OpenLaw.row PySem.Challenge.rw_stillmain_k11_kinds_known).prog 23) (kwd := []) Cl.ob_eq
     (by kernel_rfl) (fun s => by kernel_rfl) Cl.run (by kernel_rfl) (by kernel_rfl) (by kernel_rfl) (by rfl) (by first | assumption | decide +kernel) (by decide +kernel) ⟨rfl, rfl, rfl, rfl, rfl, by decide +kernel⟩ ?hw ?hc
   case hw => w_witness2
   case hc =>
     refine Sv.walk_ofG (l := PySem.Challenge.rw_stillmain_k11_kinds_known) (n := 63) (k := 12) (x := "_law_script") rfl (by decide) (by kernel_rfl) ⟨by decide, by decide⟩ ?F
     intro w mg fa h Y G hmg0
     obtain ⟨K, KX, c⟩ := Y
     have hmg : mg ("law" : PySem.Str) = some (.ref fa) := by
       have e : (HandSHeadRun.topDef (OpenLaw.row PySem.Challenge.rw_stillmain_k11_kinds_known).prog 23).name = ("law" : PySem.Str) := by kernel_rfl
       rw [← e]
       exact hmg0
     obtain ⟨fd, hb, hF⟩ := facts (P := (PySem.Challenge.rw_stillmain_k11_kinds_known).prog) (w := w) KX G hmg c
     exact ⟨K, fd, Sv.spD ⟨K⟩ (Sv.lawT 63), KX, hb, fun H a ns hl hS => Sv.law_sp hl hS, hF⟩)
def a8P (x y z:Int) (cells:List Int):List D:=[.int x,.int y,.int z,.lst (cells.map .int)]
def b7B (x y z:Int) (cells:List Int):Prop:=0≤x∧0≤y∧y < 2147483647∧0≤z∧∀ i∈cells,0≤i
def a0M (c:Cell):Prop:=∃ (x y z:Int) (cells:List Int),c=.lst (a8P x y z cells)∧b7B x y z cells
def a0H:TR:=fun m ds S K Y=>m=none∧∃ b n c,ds=[.obj b,.int n]∧0 < n∧n.natAbs.log2 < 4000∧S b=some c∧a0M c∧∀ v c',0≤v→v < n→a0M c'→K (.int v) (S.set b c')
def b4n:TR:=fun m ds S K Y=>m=none∧∃ ns:List Int,ds=[.lst (ns.map .int)]∧∀ p c,S p=none→a0M c→K (.obj p) (S.set p c)
def Nm (z:Str):Prop:=z.cps.toList.length≤8∧1≤z.cps.toList.length∧∀ c∈z.cps.toList,97≤c∧c≤122
instance (z:Str):Decidable (Nm z):=by unfold Nm;infer_instance
theorem Nm.len {z:Str} (h:Nm z):z.length≤8∧1≤z.length:=by
 have e:z.length=z.cps.toList.length:=by rw [Array.length_toList];rfl
 rw [e]
 exact ⟨h.1,h.2.1⟩
structure Lay where
 rooms:List (Str × Unit)
 lines:List (Str × Str × Str × Int)
 drains:List (Str × Str)
 pushed:List (Str × Unit)
 tw:Bool
def fU:Unit→D:=fun _=>.bl true
def fL:Str × Str × Int→D:=fun p=>.tup [.str p.1,.str p.2.1,.int p.2.2]
def fS:Str→D:=.str
def nms {α:Type} (l:List (Str × α)):List Str:=l.map (·.1)
inductive b0j where
 | room (z:Str) | line (l x y:Str) (n:Int) | drain (d r:Str) | source (z:Str) | takeR (z:Str) | takeL (z:Str) | takeD (z:Str) | takeS (z:Str)
def b0j.d:b0j→D
 | .room z=>.tup [.str "add_room",.str z]
 | .line l x y n=>.tup [.str "add_line",.str l,.str x,.str y,.int n]
 | .drain d r=>.tup [.str "add_drain",.str d,.str r]
 | .source z=>.tup [.str "add_source",.str z]
 | .takeR z=>.tup [.str "take_room",.str z]
 | .takeL z=>.tup [.str "take_line",.str z]
 | .takeD z=>.tup [.str "take_drain",.str z]
 | .takeS z=>.tup [.str "take_source",.str z]
inductive Rf where
 | there (z:Str) | lacks (z:Str) | many (n:Int) | inuse (z:Str) | wrong (i:Int)
def Rf.cls:Rf→Str
 | .there _ => "There" | .lacks _ => "Lacks" | .many _ => "TooMany" | .inuse _ => "InUse" | .wrong _ => "Wrong"
def Rf.v:Rf→D
 | .there z=>.str z | .lacks z=>.str z | .many n=>.int n | .inuse z=>.str z | .wrong i=>.int i
def Rf.fs:Rf→List (Str × D)
 | .there z=>[("name",.str z)] | .lacks z=>[("name",.str z)] | .many n=>[("most",.int n)] | .inuse z=>[("name",.str z)] | .wrong i=>[("at",.int i)]
def atR (st:Lay) (z:Str):List Str:=nms (st.lines.filter fun q=>decide (z∈[q.2.1,q.2.2.1]))
def without {α:Type} (l:List (Str × α)) (z:Str):List (Str × α):=l.filter fun q=>decide (q.1≠z)
def a6y (st:Lay):List Str→Option Rf
 | []=>none
 | z :: r=>if z∈nms st.rooms then a6y st r else some (.lacks z)
def due (st:Lay):b0j→Option Rf
 | .room z=>if z∈nms st.rooms then some (.there z) else if st.rooms.length=24 then some (.many 24) else none
 | .source z=>if z∈nms st.rooms then (if z∈nms st.pushed then some (.there z) else none) else some (.lacks z)
 | .line l x y _=>if l∈nms st.lines∨l∈nms st.drains then some (.there l) else (a6y st [x,y]).or (if st.lines.length=40 then some (.many 40) else none)
 | .drain d r=>if d∈nms st.lines∨d∈nms st.drains then some (.there d) else (a6y st [r]).or (if st.drains.length=12 then some (.many 12) else none)
 | .takeL z=>if z∈nms st.lines then none else some (.lacks z)
 | .takeD z=>if z∈nms st.drains then none else some (.lacks z)
 | .takeS z=>if z∈nms st.pushed then none else some (.lacks z)
 | .takeR z=>if z∈nms st.rooms then (if atR st z≠[]∨z∈st.drains.map (·.2)∨z∈nms st.pushed then some (.inuse z) else none) else some (.lacks z)
def b8I (st:Lay):b0j→Lay
 | .room z=>{ st with rooms:=st.rooms ++ [(z,())] }
 | .line l x y n=>{ st with lines:=st.lines ++ [(l,x,y,n)] }
 | .drain d r=>{ st with drains:=st.drains ++ [(d,r)] }
 | .source z=>{ st with pushed:=st.pushed ++ [(z,())] }
 | .takeR z=>{ st with rooms:=without st.rooms z }
 | .takeL z=>{ st with lines:=without st.lines z }
 | .takeD z=>{ st with drains:=without st.drains z }
 | .takeS z=>{ st with pushed:=without st.pushed z }
structure Ok (n:Nat) (st:Lay):Prop where
 r:st.rooms.length≤24
 l:st.lines.length≤40
 d:st.drains.length≤12
 up:(nms st.pushed).Nodup
 nr:∀ q∈st.rooms,Nm q.1
 nl:∀ q∈st.lines,Nm q.1∧Nm q.2.1∧Nm q.2.2.1∧0≤q.2.2.2∧q.2.2.2≤99
 nd:∀ q∈st.drains,Nm q.1∧Nm q.2
 np:∀ q∈st.pushed,Nm q.1
 ul:(nms st.lines).Nodup
 sub:∀ z∈nms st.pushed,z∈nms st.rooms
theorem a6h {l:List Str}:∀ {r:List Str},l.Nodup→(∀ z∈l,z∈r)→l.length≤r.length:=by
 induction l with
 | nil=>intro r _ _;exact Nat.zero_le _
 | cons a l ih =>
  intro r u s
  have ha:a∈r:=s a zal
  have h:=ih (r:=r.erase a) (zay.mp u).2 fun z hz=>(List.mem_erase_of_ne (fun e=>(zay.mp u).1 (by rw [← e];exact hz))).mpr (s z (zao _ hz))
  rw [List.length_erase_of_mem ha] at h
  have:=List.length_pos_of_mem ha
  rw [zaw]
  omega
theorem Ok.p {n:Nat} {st:Lay} (h:Ok n st):st.pushed.length≤24:=by
 have:=a6h h.up h.sub
 unfold nms at this
 rw [zag,zag] at this
 exact Nat.le_trans this h.r
def b8R (C a b c d:Addr):Cell:=.ins C [("by_room",.obj a),("ends_of",.obj b),("seat_of",.obj c),("pushed",.obj d)]
def mK (sm:Lay) (e f:Addr):List (Key × D) :=
 if sm.tw=true then [(.inr "rooms",.lst ((a0X (nms sm.rooms)).map D.str)),(.inr "sources",.lst ((a0X (nms sm.pushed)).map D.str)),(.inr "lines",.obj e),(.inr "drains",.obj f)] else [(.inr "rooms",.lst ((a0X (nms sm.rooms)).map D.str)),(.inr "lines",.obj e),(.inr "drains",.obj f),(.inr "sources",.lst ((a0X (nms sm.pushed)).map D.str))]
structure Ad where
 (g L a b c d M e f:Addr)
def Ad.l (A:Ad):List Addr:=[A.g,A.L,A.a,A.b,A.c,A.d,A.M,A.e,A.f]
def put (C:Addr) (S0:SS) (A:Ad) (st sm:Lay) (cb:Cell):SS:=fun q =>
 if q=A.g then some cb else if q=A.L then some (b8R C A.a A.b A.c A.d) else if q=A.a then some (.dic (b0o fU st.rooms)) else if q=A.b then some (.dic (b0o fL st.lines)) else
 if q=A.c then some (.dic (b0o fS st.drains)) else if q=A.d then some (.dic (b0o fU st.pushed)) else if q=A.M then some (.dic (mK sm A.e A.f)) else
 if q=A.e then some (.dic (b0o fL sm.lines)) else if q=A.f then some (.dic (b0o fS sm.drains)) else S0 q
section
end
structure Wo where
 rooms:List Str
 lines:List (Str × Str × Str × Int)
 drains:List (Str × Str)
 srcs:List Str
structure b0l (w:Wo):Prop where
 r:w.rooms.length≤24
 rn:∀ z∈w.rooms,Nm z
 ru:w.rooms.Nodup
 l:w.lines.length≤40
 ln:∀ q∈w.lines,Nm q.1∧q.2.1∈w.rooms∧q.2.2.1∈w.rooms∧q.2.2.1≠q.2.1∧0≤q.2.2.2∧q.2.2.2≤99
 lu:(nms w.lines).Nodup
 d:w.drains.length≤12
 dn:∀ q∈w.drains,Nm q.1∧q.2∈w.rooms
 du:(nms w.drains).Nodup
 ld:∀ z∈nms w.lines,z∉nms w.drains
 s:∀ z∈w.srcs,z∈w.rooms
 su:w.srcs.Nodup
def units (zs:List Str):List (Str × Unit):=zs.map fun z=>(z,())
theorem a3z {zs:List Str}:nms (units zs)=zs:=by
 unfold nms units
 rw [List.map_map]
 exact List.map_id' _
def Wo.lay (w:Wo):Lay:=⟨units w.rooms,w.lines,w.drains,units w.srcs,false⟩
theorem b0l.ok {w:Wo} (h:b0l w):Ok 0 w.lay:=by
 refine ⟨by show (units w.rooms).length≤24;unfold units;rw [zag];exact h.r,h.l,h.d,by show (nms (units w.srcs)).Nodup;rw [a3z];exact h.su,fun q hq=>?_,fun q hq=>?_,fun q hq=>?_,fun q hq=>?_,h.lu,fun z hz=>?_⟩
 ·obtain ⟨z,hz,rfl⟩:=zan.mp hq
  exact h.rn z hz
 ·obtain ⟨a,b,c,_,d,e⟩:=h.ln q hq
  exact ⟨a,h.rn _ b,h.rn _ c,d,e⟩
 ·obtain ⟨a,b⟩:=h.dn q hq
  exact ⟨a,h.rn _ b⟩
 ·obtain ⟨z,hz,rfl⟩:=zan.mp hq
  exact h.rn z (h.s z hz)
 ·have hz:z∈nms (units w.srcs):=hz
  show z∈nms (units w.rooms)
  rw [a3z] at hz ⊢
  exact h.s z hz
def a7A (q:Str × Str × Str × Int) (x y:Str):Prop:=(q.2.1=x∧q.2.2.1=y)∨(q.2.2.1=x∧q.2.1=y)
def Adj (w:Wo) (shut:List Str) (x y:Str):Prop:=∃ q∈w.lines,q.1∉shut∧a7A q x y
theorem Adj.symm {w:Wo} {shut:List Str} {x y:Str} (h:Adj w shut x y):Adj w shut y x:=by
 obtain ⟨q,hq,hs,h⟩:=h
 exact ⟨q,hq,hs,h.elim (fun h=>.inr ⟨h.2,h.1⟩) fun h=>.inl ⟨h.2,h.1⟩⟩
theorem Adj.room {w:Wo} {shut:List Str} {x y:Str} (ok:b0l w) (h:Adj w shut x y):y∈w.rooms:=by
 obtain ⟨q,hq,_,h⟩:=h
 have:=ok.ln q hq
 rcases h with ⟨_,rfl⟩ | ⟨_,rfl⟩
 ·exact this.2.2.1
 ·exact this.2.1
inductive Lev (w:Wo) (shut rs:List Str):Nat→Str→Prop where
 | zero {z:Str}:z∈rs→Lev w shut rs 0 z
 | succ {n:Nat} {x y:Str}:Lev w shut rs n x→Adj w shut x y→Lev w shut rs (n + 1) y
def Reach (w:Wo) (shut rs:List Str) (z:Str):Prop:=∃ n,Lev w shut rs n z
theorem Reach.base {w:Wo} {shut rs:List Str} {z:Str} (h:z∈rs):Reach w shut rs z:=⟨0,.zero h⟩
theorem Reach.step {w:Wo} {shut rs:List Str} {x y:Str} (h:Reach w shut rs x) (a:Adj w shut x y):Reach w shut rs y:=by
 obtain ⟨n,h⟩:=h
 exact ⟨n + 1,h.succ a⟩
theorem Reach.least {w:Wo} {shut rs:List Str} {P:Str→Prop} (h0:∀ z∈rs,P z) (h1:∀ x y,P x→Adj w shut x y→P y) {z:Str} (h:Reach w shut rs z):P z:=by
 obtain ⟨n,h⟩:=h
 induction h with
 | zero h=>exact h0 _ h
 | succ _ a ih=>exact h1 _ _ ih a
theorem Reach.room {w:Wo} {shut rs:List Str} (ok:b0l w) (sub:∀ z∈rs,z∈w.rooms) {z:Str} (h:Reach w shut rs z):z∈w.rooms:=h.least sub fun _ _ _ a=>a.room ok
structure b0x (w:Wo) (shut rs:List Str) (R:List (Str × Nat)):Prop where
 u:(nms R).Nodup
 lev:∀ q∈R,Lev w shut rs q.2 q.1
 all:∀ m z,Lev w shut rs m z→∃ d,(z,d)∈R∧d≤m
structure Bfs (w:Wo) (shut rs:List Str) (R:List (Str × Nat)) (at_:Nat) (P:List Str):Prop where
 u:(nms R).Nodup
 lev:∀ q∈R,Lev w shut rs q.2 q.1
 up:R.Pairwise fun p q=>p.2≤q.2
 base:∀ z∈rs,(z,0)∈R
 near:∀ p,R[at_]?=some p→∀ q∈R,q.2≤p.2 + 1
 done:∀ j p,j < at_→R[j]?=some p→∀ y,Adj w shut p.1 y→∃ d,(y,d)∈R∧d≤p.2 + 1
 part:∀ p,R[at_]?=some p→∀ q∈w.lines,q.1∈P→q.1∉shut→∀ y,a7A q p.1 y→∃ d,(y,d)∈R∧d≤p.2 + 1
section
variable {w:Wo} {shut rs:List Str} {R:List (Str × Nat)} {k:Nat} {P:List Str}
theorem Bfs.start (u:rs.Nodup):Bfs w shut rs (rs.map fun z=>(z,0)) 0 []:=by
 have e:nms (rs.map fun z=>(z,0))=rs:=by
  unfold nms
  rw [List.map_map]
  exact List.map_id' _
 refine ⟨by rw [e];exact u,fun q hq=>?_,?_,fun z hz=>zan.mpr ⟨z,hz,rfl⟩,fun p _ q hq=>?_,fun j _ hj=>absurd hj (Nat.not_lt_zero _),fun _ _ _ _ h=>absurd h zax⟩
 ·obtain ⟨z,hz,rfl⟩:=zan.mp hq
  exact .zero hz
 ·rw [List.pairwise_map]
  exact List.pairwise_of_forall fun _ _=>Nat.le_refl _
 ·obtain ⟨z,hz,rfl⟩:=zan.mp hq
  exact Nat.zero_le _
theorem Bfs.add {l there:Str} {p:Str × Nat} (h:Bfs w shut rs R k P) (hp:R[k]?=some p) (adj:Adj w shut p.1 there) (new:there∉nms R) (only:∀ q∈w.lines,q.1=l→∀ y,a7A q p.1 y→y=there) :
  Bfs w shut rs (R ++ [(there,p.2 + 1)]) k (P ++ [l]):=by
 have hk:k < R.length:=(List.getElem?_eq_some_iff.mp hp).1
 have at_k:(R ++ [(there,p.2 + 1)])[k]?=some p:=by rw [List.getElem?_append_left hk];exact hp
 have old:∀ {y d},(y,d)∈R→(y,d)∈R ++ [(there,p.2 + 1)]:=fun h=>zar _ h
 refine ⟨?_,fun q hq=>?_,?_,fun z hz=>old (h.base z hz),fun p' hp' q hq=>?_,fun j p' hj hp' y hy=>?_,fun p' hp' q hq hl hs y hy=>?_⟩
 ·unfold nms
  rw [zau]
  refine List.nodup_append.mpr ⟨h.u,by simp,fun a ha b hb e=>new ?_⟩
  have hb:b=there:=by simpa using hb
  rw [← hb,← e]
  exact ha
 ·rcases zap.mp hq with hq | hq
  ·exact h.lev q hq
  ·cases zaj.mp hq
   exact (h.lev p (zaq hp)).succ adj
 ·refine List.pairwise_append.mpr ⟨h.up,List.pairwise_singleton _ _,fun a ha b hb=>?_⟩
  cases zaj.mp hb
  exact h.near p hp a ha
 ·rw [at_k] at hp'
  cases hp'
  rcases zap.mp hq with hq | hq
  ·exact h.near p hp q hq
  ·cases zaj.mp hq
   exact Nat.le_refl _
 ·rw [List.getElem?_append_left (by omega)] at hp'
  obtain ⟨d,hd,l⟩:=h.done j p' hj hp' y hy
  exact ⟨d,old hd,l⟩
 ·rw [at_k] at hp'
  cases hp'
  rcases zap.mp hl with hl | hl
  ·obtain ⟨d,hd,l⟩:=h.part p hp q hq hl hs y hy
   exact ⟨d,old hd,l⟩
  ·cases only q hq (zaj.mp hl) y hy
   exact ⟨p.2 + 1,zas _ (zaj.mpr rfl),Nat.le_refl _⟩
theorem Bfs.next {p:Str × Nat} (h:Bfs w shut rs R k P) (hp:R[k]?=some p) (all:∀ q∈w.lines,∀ y,a7A q p.1 y→q.1∈P):Bfs w shut rs R (k + 1) []:=by
 refine ⟨h.u,h.lev,h.up,h.base,fun p' hp' q hq=>?_,fun j p' hj hp' y hy=>?_,fun _ _ _ _ h=>absurd h zax⟩
 ·have hlt:=(List.getElem?_eq_some_iff.mp hp').1
  have e1:R[k]'(by omega)=p:=Option.some.inj ((zbc (by omega)).symm.trans hp)
  have e2:R[k + 1]=p':=Option.some.inj ((zbc hlt).symm.trans hp')
  have:=List.pairwise_iff_getElem.mp h.up k (k + 1) (by omega) hlt (by omega)
  rw [e1,e2] at this
  have:=h.near p hp q hq
  omega
 ·by_cases e:j=k
  ·subst e
   rw [hp] at hp'
   cases hp'
   obtain ⟨q,hq,hs,hy⟩:=hy
   exact h.part p hp q hq (all q hq y hy) hs y hy
  ·exact h.done j p' (by omega) hp' y hy
theorem Bfs.end_ (h:Bfs w shut rs R R.length []):b0x w shut rs R:=by
 refine ⟨h.u,h.lev,fun m z hz=>?_⟩
 induction hz with
 | zero hz=>exact ⟨0,h.base _ hz,Nat.le_refl _⟩
 | @succ n x y _ a ih =>
  obtain ⟨d,hd,l⟩:=ih
  obtain ⟨j,hj⟩:=List.mem_iff_getElem?.mp hd
  obtain ⟨d2,hd2,l2⟩:=h.done j _ (List.getElem?_eq_some_iff.mp hj).1 hj y a
  have l2:d2≤d + 1:=l2
  exact ⟨d2,hd2,by omega⟩
theorem Bfs.few (ok:b0l w) (sub:∀ z∈rs,z∈w.rooms) (h:Bfs w shut rs R k P):R.length≤24:=by
 have e:(nms R).length=R.length:=zag ..
 rw [← e]
 refine Nat.le_trans (a6h h.u fun z hz=>?_) ok.r
 obtain ⟨q,hq,rfl⟩:=zan.mp hz
 exact Reach.room (w:=w) (shut:=shut) ok sub ⟨_,h.lev q hq⟩
end
noncomputable instance (w:Wo) (shut rs:List Str) (z:Str):Decidable (Reach w shut rs z):=Classical.propDecidable _
structure Grow (w:Wo) (shut rs ks:List Str):Prop where
 u:ks.Nodup
 base:∀ z∈rs,z∈ks
 in_:∀ z∈ks,Reach w shut rs z
theorem Grow.start {w:Wo} {shut rs:List Str} (u:rs.Nodup):Grow w shut rs rs:=⟨u,fun _ h=>h,fun _ h=>.base h⟩
theorem Grow.add {w:Wo} {shut rs ks:List Str} {x y:Str} (h:Grow w shut rs ks) (hx:x∈ks) (a:Adj w shut x y) (new:y∉ks):Grow w shut rs (ks ++ [y]):=by
 refine ⟨List.nodup_append.mpr ⟨h.u,by simp,fun a ha b hb e=>new ?_⟩,fun z hz=>zar _ (h.base z hz),fun z hz=>?_⟩
 ·rw [← zaj.mp hb,← e];exact ha
 ·rcases zap.mp hz with hz | hz
  ·exact h.in_ z hz
  ·cases zaj.mp hz
   exact (h.in_ x hx).step a
theorem Grow.few {w:Wo} {shut rs ks:List Str} (ok:b0l w) (sub:∀ z∈rs,z∈w.rooms) (h:Grow w shut rs ks):ks.length≤24 :=
 Nat.le_trans (a6h h.u fun z hz=>(h.in_ z hz).room ok sub) ok.r
theorem Grow.done {w:Wo} {shut rs ks:List Str} (h:Grow w shut rs ks) (shutOff:∀ q∈w.lines,q.1∉shut→(q.2.1∈ks↔q.2.2.1∈ks)):∀ z,z∈ks↔Reach w shut rs z:=fun z =>
 ⟨h.in_ z,fun r=>r.least h.base fun x y hx a=>by
  obtain ⟨q,hq,hs,⟨rfl,rfl⟩ | ⟨rfl,rfl⟩⟩:=a
  ·exact (shutOff q hq hs).mp hx
  ·exact (shutOff q hq hs).mpr hx⟩
section
variable {w:Wo} {shut:List Str}
theorem Lev.trans {rs:List Str} {x:Str} {n:Nat} {y:Str} (h:Lev w shut [x] n y) (hx:Reach w shut rs x):Reach w shut rs y:=by
 induction h with
 | zero h=>cases zaj.mp h;exact hx
 | succ _ a ih=>exact ih.step a
theorem Reach.trans {rs:List Str} {x y:Str} (h:Reach w shut [x] y) (hx:Reach w shut rs x):Reach w shut rs y:=by
 obtain ⟨n,h⟩:=h
 exact h.trans hx
theorem Reach.self {x:Str}:Reach w shut [x] x:=.base (zaj.mpr rfl)
theorem Reach.symm {x y:Str} (h:Reach w shut [x] y):Reach w shut [y] x:=by
 obtain ⟨n,h⟩:=h
 induction h with
 | zero h=>cases zaj.mp h;exact .self
 | @succ n u v _ a ih =>
  exact ih.trans (Reach.self.step a.symm)
theorem Reach.one {rs:List Str} {y:Str}:Reach w shut rs y↔∃ x∈rs,Reach w shut [x] y:=by
 constructor
 ·intro h
  exact Reach.least (P:=fun y=>∃ x∈rs,Reach w shut [x] y) (fun z hz=>⟨z,hz,.self⟩) (fun u v ⟨x,hx,h⟩ a=>⟨x,hx,h.step a⟩) h
 ·rintro ⟨x,hx,h⟩
  exact h.trans (.base hx)
end
abbrev Lms:=List (Str × Str × Str × Option Int)
structure b0y (lm:Lms):Prop where
 u:(nms lm).Nodup
 ne:∀ q∈lm,q.2.1≠q.2.2.1
 c:∀ q∈lm,∀ c,q.2.2.2=some c→0 < c∧c≤99
 few:lm.length≤40
 nm:∀ q∈lm,Nm q.1∧Nm q.2.1∧Nm q.2.2.1
def ind (X:List Str) (r:Str):Int:=if r∈X then 1 else 0
def a4l {α:Type} (l:List α) (f:α→Int):Int:=match l with
 | []=>0
 | a :: l=>f a + a4l l f
def net (lm:Lms) (u:Str→Int) (X:List Str):Int:=a4l lm fun q=>(ind X q.2.2.1 - ind X q.2.1) * u q.1
def b4N (q:Str × Str × Str × Option Int) (u:Str→Int):Prop:=∀ c,q.2.2.2=some c→0 < c - u q.1
def a87 (q:Str × Str × Str × Option Int) (u:Str→Int):Prop:=∀ c,q.2.2.2=some c→0 < c + u q.1
def Arc (lm:Lms) (u:Str→Int) (x l y:Str):Prop:=∃ q∈lm,q.1=l∧((q.2.1=x∧q.2.2.1=y∧b4N q u)∨(q.2.2.1=x∧q.2.1=y∧a87 q u))
abbrev Stp:=Str × Str × Str
def a5M (lm:Lms) (s:Stp):Prop:=∃ q∈lm,q.1=s.2.1∧((q.2.1=s.1∧q.2.2.1=s.2.2)∨(q.2.2.1=s.1∧q.2.1=s.2.2))
def oneOf (lm:Lms) (l:Str):Str:=match lm.lookup l with
 | some q=>q.1
 | none => ""
def a0I (lm:Lms) (amt:Int) (u:Str→Int) (s:Stp):Str→Int:=fun l=>if l=s.2.1 then (if s.1=oneOf lm l then u l + amt else u l - amt) else u l
def a1F (lm:Lms) (amt:Int) (u:Str→Int) (st:List Stp):Str→Int:=st.foldl (a0I lm amt) u
inductive Chain (P:Stp→Prop):Str→List Stp→Str→Prop where
 | nil {x:Str}:Chain P x [] x
 | cons {x l y z:Str} {st:List Stp}:P (x,l,y)→Chain P y st z→Chain P x ((x,l,y) :: st) z
section
variable {α:Type} {lm:Lms} {u v:Str→Int} {X Y T Z:List Str} {r x y l:Str} {st:List Stp} {amt:Int}
theorem a1D {l:List α} {f g:α→Int} (h:∀ a∈l,f a=g a):a4l l f=a4l l g:=by
 induction l with
 | nil=>rfl
 | cons a l ih =>
  unfold a4l
  rw [h a zal,ih fun b hb=>h b (zao _ hb)]
theorem a5h {l:List α} {f g:α→Int}:a4l l (fun a=>f a + g a)=a4l l f + a4l l g:=by
 induction l with
 | nil=>rfl
 | cons a l ih=>unfold a4l;rw [ih];omega
theorem a7l {l:List α} {f:α→Int} (h:∀ a∈l,f a=0):a4l l f=0:=by
 induction l with
 | nil=>rfl
 | cons a l ih =>
  unfold a4l
  rw [h a zal,ih fun b hb=>h b (zao _ hb)]
  rfl
theorem a8o {l:List (Str × α)} (un:(nms l).Nodup) {q:Str × α} (hq:q∈l) {f:Str × α→Int} (h:∀ p∈l,p.1≠q.1→f p=0):a4l l f=f q:=by
 induction l with
 | nil=>cases hq
 | cons a l ih =>
  have un2:a.1∉nms l∧(nms l).Nodup:=zay.mp un
  unfold a4l
  rcases zat.mp hq with rfl | hq
  ·rw [a7l fun p hp=>h p (zao _ hp) fun e=>un2.1 (by rw [← e];exact zan.mpr ⟨p,hp,rfl⟩)]
   omega
  ·rw [h a zal fun e=>un2.1 (by rw [e];exact zan.mpr ⟨q,hq,rfl⟩),ih un2.2 hq fun p hp=>h p (zao _ hp)]
   omega
theorem a1G (h:r∈X):ind X r=1:=if_pos h
theorem a0K (h:r∉X):ind X r=0:=if_neg h
theorem a6L (h:∀ z,z∈X↔z∈Y):net lm u X=net lm u Y:=by
 have e:∀ z,ind X z=ind Y z:=fun z=>by
  unfold ind
  by_cases hz:z∈X
  ·rw [if_pos hz,if_pos ((h z).mp hz)]
  ·rw [if_neg hz,if_neg fun k=>hz ((h z).mpr k)]
 unfold net
 simp only [e]
theorem a4R (h:r∉Y):net lm u (r :: Y)=net lm u [r] + net lm u Y:=by
 have e:∀ z,ind (r :: Y) z=ind [r] z + ind Y z:=fun z=>by
  by_cases hr:z=r
  ·subst hr
   rw [a1G zal,a1G zal,a0K h];rfl
  ·by_cases hz:z∈Y
   ·rw [a1G (zao _ hz),a0K (by simpa using hr),a1G hz];rfl
   ·rw [a0K (by simp [hr,hz]),a0K (by simpa using hr),a0K hz];rfl
 unfold net
 rw [← a5h]
 refine a1D fun q _=>?_
 rw [e,e,← Int.add_mul]
 congr 1
 omega
theorem a6M:∀ {Y:List Str},Y.Nodup→(∀ r∈Y,r∉T→net lm u [r]=0)→net lm u Y=net lm u (Y.filter fun z=>decide (z∈T))
 | [],_,_=>rfl
 | r :: Y,hu,h=>by
  obtain ⟨h1,h2⟩:=zay.mp hu
  have ih:=a6M h2 fun z hz=>h z (zao _ hz)
  rw [a4R h1,ih]
  by_cases hr:r∈T
  ·rw [show (r :: Y).filter (fun z=>decide (z∈T))=r :: Y.filter (fun z=>decide (z∈T)) from List.filter_cons_of_pos (by simpa using hr),a4R fun k=>h1 (List.mem_filter.mp k).1]
  ·rw [show (r :: Y).filter (fun z=>decide (z∈T))=Y.filter (fun z=>decide (z∈T)) from List.filter_cons_of_neg (by simpa using hr),h r zal hr]
   omega
theorem a4U (ok:b0y lm) {q:Str × Str × Str × Option Int} (hq:q∈lm):oneOf lm q.1=q.2.1:=by
 have:∀ {l:Lms},(nms l).Nodup→q∈l→l.lookup q.1=some q.2:=fun {l}=>by
  induction l with
  | nil=>exact fun _ h=>nomatch h
  | cons a l ih =>
   intro un hq
   have un2:a.1∉nms l∧(nms l).Nodup:=zay.mp un
   rw [List.lookup_cons]
   rcases zat.mp hq with rfl | hq
   ·simp
   ·have ne:(q.1 == a.1)=false:=by
     rw [beq_eq_false_iff_ne]
     exact fun e=>un2.1 (by rw [← e];exact zan.mpr ⟨q,hq,rfl⟩)
    rw [ne]
    exact ih un2.2 hq
 unfold oneOf
 rw [this ok.u hq]
theorem a76 (ok:b0y lm) {s:Stp} (h:a5M lm s):net lm (a0I lm amt u s) X=net lm u X + amt * (ind X s.2.2 - ind X s.1):=by
 obtain ⟨q,hq,e,g⟩:=h
 have d:net lm (a0I lm amt u s) X=net lm u X + a4l lm fun p=>(ind X p.2.2.1 - ind X p.2.1) * (a0I lm amt u s p.1 - u p.1):=by
  unfold net
  rw [← a5h]
  refine a1D fun p _=>?_
  rw [← Int.mul_add]
  congr 1
  omega
 rw [d,a8o ok.u hq fun p hp ne=>?_]
 ·congr 1
  have e1:=a4U ok hq
  unfold a0I
  rw [if_pos e,e1]
  have ne:=ok.ne q hq
  rcases g with ⟨g1,g2⟩ | ⟨g1,g2⟩
  ·rw [if_pos g1.symm,g1,g2,show u q.1 + amt - u q.1=amt by omega,Int.mul_comm]
  ·rw [if_neg fun k=>ne (by rw [← k,g1]),g1,g2,show u q.1 - amt - u q.1=-amt by omega,Int.mul_neg,← Int.neg_mul,Int.mul_comm]
   congr 1
   omega
 ·unfold a0I
  rw [if_neg fun k=>ne (by rw [k,e]),Int.sub_self,Int.mul_zero]
theorem a9H (ok:b0y lm) {P:Stp→Prop} (hP:∀ s,P s→a5M lm s):∀ {st:List Stp} {u:Str→Int} {x y:Str},Chain P x st y→net lm (a1F lm amt u st) X=net lm u X + amt * (ind X y - ind X x):=by
 intro st u x y h
 induction h generalizing u with
 | nil=>unfold a1F;rw [List.foldl_nil,Int.sub_self,Int.mul_zero,Int.add_zero]
 | @cons x l y z st p _ ih =>
  show net lm (a1F lm amt (a0I lm amt u (x,l,y)) st) X=_
  rw [ih,a76 ok (hP _ p)]
  show net lm u X + amt * (ind X y - ind X x) + amt * (ind X z - ind X y)=_
  rw [Int.add_assoc,← Int.mul_add]
  congr 2
  omega
theorem Chain.mono {P Q:Stp→Prop} (h:∀ s,P s→Q s) {x y:Str} {st:List Stp} (c:Chain P x st y):Chain Q x st y:=by
 induction c with
 | nil=>exact .nil
 | cons p _ ih=>exact .cons (h _ p) ih
theorem Chain.all {P:Stp→Prop} {x y:Str} {st:List Stp} (c:Chain P x st y):∀ s∈st,P s:=by
 induction c with
 | nil=>exact fun _ h=>nomatch h
 | cons p _ ih =>
  intro s hs
  rcases zat.mp hs with rfl | hs
  ·exact p
  ·exact ih s hs
structure a3d (lm:Lms) (u:Str→Int) (S T:List Str):Prop where
 b:∀ q∈lm,∀ c,q.2.2.2=some c→-c≤u q.1∧u q.1≤c
 k:∀ r,r∉S→r∉T→net lm u [r]=0
def a6B (q:Str × Str × Str × Option Int) (u:Str→Int) (s:Stp) (c:Int):Int:=if s.1=q.2.1 then c - u q.1 else c + u q.1
def b0w (lm:Lms) (u:Str→Int) (st:List Stp) (amt:Int):Prop:=∀ s∈st,∀ q∈lm,q.1=s.2.1→∀ c,q.2.2.2=some c→amt≤a6B q u s c
theorem a3f {s:Stp} (h:l≠s.2.1):a0I lm amt u s l=u l:=if_neg h
theorem a3h (ok:b0y lm) (a0:0≤amt):∀ {st:List Stp} {u:Str→Int},(st.map fun s=>s.2.1).Nodup→b0w lm u st amt→(∀ q∈lm,∀ c,q.2.2.2=some c→-c≤u q.1∧u q.1≤c)→∀ q∈lm,∀ c,q.2.2.2=some c→-c≤a1F lm amt u st q.1∧a1F lm amt u st q.1≤c
 | [],_,_,_,hb=>hb
 | s :: st,u,hu,ha,hb=>by
  obtain ⟨h1,h2⟩:=zay.mp hu
  show ∀ q∈lm,∀ c,q.2.2.2=some c→-c≤a1F lm amt (a0I lm amt u s) st q.1∧a1F lm amt (a0I lm amt u s) st q.1≤c
  refine a3h ok a0 h2 (fun s' hs q hq e c hc=>?_) fun q hq c hc=>?_
  ·have ne:q.1≠s.2.1:=fun k=>h1 (by show s.2.1∈_;rw [← k,e];exact zan.mpr ⟨s',hs,rfl⟩)
   have:=ha s' (zao _ hs) q hq e c hc
   unfold a6B at this ⊢
   rw [a3f ne]
   exact this
  ·obtain ⟨b1,b2⟩:=hb q hq c hc
   by_cases e:q.1=s.2.1
   ·have:=ha s zal q hq e c hc
    unfold a6B at this
    unfold a0I
    rw [if_pos e,a4U ok hq]
    by_cases g:s.1=q.2.1
    ·rw [if_pos g] at this ⊢;omega
    ·rw [if_neg g] at this ⊢;omega
   ·rw [a3f e];exact ⟨b1,b2⟩
theorem a7C {s:Stp} (h:Arc lm u s.1 s.2.1 s.2.2):a5M lm s:=by
 obtain ⟨q,hq,e,g⟩:=h
 exact ⟨q,hq,e,g.elim (fun g=>.inl ⟨g.1,g.2.1⟩) fun g=>.inr ⟨g.1,g.2.1⟩⟩
abbrev b8i (lm:Lms) (u:Str→Int):Stp→Prop:=fun s=>Arc lm u s.1 s.2.1 s.2.2
theorem a3d.add (ok:b0y lm) {S:List Str} (f:a3d lm u S T) (c:Chain (b8i lm u) x st y) (hx:x∈S) (hy:y∈T) (nd:(st.map fun s=>s.2.1).Nodup) (a0:0≤amt) (a:b0w lm u st amt):a3d lm (a1F lm amt u st) S T:=by
 refine ⟨a3h ok a0 nd a f.b,fun r h1 h2=>?_⟩
 rw [a9H ok (fun s=>a7C) c,f.k r h1 h2,a0K (show y∉[r] from fun k=>h2 (by rw [← zaj.mp k];exact hy)),a0K (show x∉[r] from fun k=>h1 (by rw [← zaj.mp k];exact hx))]
 omega
structure a5L (lm:Lms) (S T Y:List Str):Prop where
 u:Y.Nodup
 t:∀ z∈T,z∈Y
 s:∀ z∈S,z∉Y
 b:∀ q∈lm,(q.2.1∈Y∧q.2.2.1∉Y)∨(q.2.1∉Y∧q.2.2.1∈Y)→q.2.2.2≠none
def a3S (lm:Lms) (Y:List Str):Int:=a4l lm fun q=>if (q.2.1∈Y∧q.2.2.1∉Y)∨(q.2.1∉Y∧q.2.2.1∈Y) then q.2.2.2.getD 0 else 0
theorem a5L.val {S:List Str} (h:a5L lm S T Y) (f:a3d lm u S T):net lm u Y=net lm u T:=by
 rw [a6M (T:=T) h.u fun r hr ht=>f.k r (fun k=>h.s r k hr) ht]
 exact a6L fun z=>⟨fun k=>of_decide_eq_true (List.mem_filter.mp k).2,fun k=>List.mem_filter.mpr ⟨h.t z k,zba k⟩⟩
def b7E (lm:Lms) (u:Str→Int) (Y:List Str):Prop:=∀ x l y,Arc lm u x l y→y∈Y→x∈Y
theorem b7E.eq {S:List Str} (h:a5L lm S T Y) (f:a3d lm u S T) (fu:b7E lm u Y):net lm u Y=a3S lm Y:=by
 refine a1D fun q hq=>?_
 by_cases a:q.2.1∈Y <;> by_cases b:q.2.2.1∈Y
 ·rw [a1G a,a1G b,if_neg (by simp [a,b])];omega
 ·rw [a1G a,a0K b,if_pos (.inl ⟨a,b⟩)]
  cases e:q.2.2.2 with
  | none=>exact absurd e (h.b q hq (.inl ⟨a,b⟩))
  | some c =>
   have:=f.b q hq c e
   have no:¬ 0 < c + u q.1:=fun k=>b (fu q.2.2.1 q.1 q.2.1 ⟨q,hq,rfl,.inr ⟨rfl,rfl,fun c' hc=>by rw [e] at hc;cases hc;exact k⟩⟩ a)
   show (0 - 1) * u q.1=c
   omega
 ·rw [a0K a,a1G b,if_pos (.inr ⟨a,b⟩)]
  cases e:q.2.2.2 with
  | none=>exact absurd e (h.b q hq (.inr ⟨a,b⟩))
  | some c =>
   have:=f.b q hq c e
   have no:¬ 0 < c - u q.1:=fun k=>a (fu q.2.1 q.1 q.2.2.1 ⟨q,hq,rfl,.inl ⟨rfl,rfl,fun c' hc=>by rw [e] at hc;cases hc;exact k⟩⟩ b)
   show (1 - 0) * u q.1=c
   omega
 ·rw [a0K a,a0K b,if_neg (by simp [a,b])];omega
structure a5O (lm:Lms) (S T X:List Str):Prop where
 ok:a5L lm S T X
 least:∀ Y,a5L lm S T Y→a3S lm X≤a3S lm Y∧(a3S lm X=a3S lm Y→∀ z∈X,z∈Y)
theorem a5O.uniq {S:List Str} (h:a5O lm S T X) (k:a5O lm S T Y):∀ z,z∈X↔z∈Y:=by
 have a:=h.least Y k.ok
 have b:=k.least X h.ok
 have e:a3S lm X=a3S lm Y:=by have:=a.1;have:=b.1;omega
 exact fun z=>⟨a.2 e z,b.2 e.symm z⟩
end
structure Rw where
 pos:Str
 home:Str
 jobs:List Str
 at_:Addr
 marks:List Str
structure Bo where
 rows:List (Str × Rw)
 crews:List (Str × List Str)
 sk:List Str
 fa:List (Str × Unit)
inductive Rb where
 | there (z:Str) | lacks (z:Str) | many (n:Int) | inuse (z:Str) | held (hs:List Str) | stuck (z:Str) | wrong (i:Int) | notnow (z:Str) | nopart (ws:List Str) | notdry (rs:List Str)
def Rb.cls:Rb→Str
 | .there _ => "There" | .lacks _ => "Lacks" | .many _ => "TooMany" | .inuse _ => "InUse" | .held _ => "Held" | .stuck _ => "Stuck" | .wrong _ => "Wrong" | .notnow _ => "NotNow" | .nopart _ => "NoPart" | .notdry _ => "NotDry"
def Rb.v:Rb→D
 | .there z=>.str z | .lacks z=>.str z | .many n=>.int n | .inuse z=>.str z | .held hs=>.lst (hs.map D.str) | .stuck z=>.str z | .wrong i=>.int i | .notnow z=>.str z | .nopart ws=>.lst (ws.map D.str) | .notdry rs=>.lst (rs.map D.str)
def Rb.fs:Rb→List (Str × D)
 | .there z=>[("name",.str z)] | .lacks z=>[("name",.str z)] | .many n=>[("most",.int n)] | .inuse z=>[("name",.str z)] | .held hs=>[("hands",.lst (hs.map D.str))] | .stuck z=>[("name",.str z)] | .wrong i=>[("at",.int i)] | .notnow z=>[("job",.str z)] | .nopart ws=>[("way",.lst (ws.map D.str))] | .notdry rs=>[("damp",.lst (rs.map D.str))]
inductive Db where
 | add (z pos:Str) | take (z:Str) | crew (j:Str) (hs:List Str) | leave (j:Str) | turn (z pos:Str) | stick (z:Str) | mend (z:Str) | hold (z pos j:Str) | free (z j:Str)
def b3e (zs:List Str):D:=.lst (zs.map D.str)
def Db.d:Db→D
 | .add z pos=>.tup [.str "add",.str z,.str pos]
 | .take z=>.tup [.str "take",.str z]
 | .crew j hs=>.tup [.str "crew",.str j,b3e hs]
 | .leave j=>.tup [.str "leave",.str j]
 | .turn z pos=>.tup [.str "turn",.str z,.str pos]
 | .stick z=>.tup [.str "stick",.str z]
 | .mend z=>.tup [.str "mend",.str z]
 | .hold z pos j=>.tup [.str "hold",.str z,.str pos,.str j]
 | .free z j=>.tup [.str "free",.str z,.str j]
def PS (z:Str):Prop:=z = "open" ∨ z = "shut"
def b7C (hs:List Str):Prop:=hs≠[]∧hs.length≤6∧hs.Nodup∧∀ z∈hs,Nm z
def a4A (w:Bo) (j:Str):List Str:=(w.crews.lookup j).getD []
structure b7I (w:Bo) (z:Str) (r:Rw):Prop where
 z:Nm z
 pos:PS r.pos
 home:PS r.home
 ju:r.jobs.Nodup
 jc:∀ j∈r.jobs,j∈nms w.crews
 mp:r.marks.Perm r.jobs
structure b3s (w:Bo):Prop where
 r:w.rows.length≤52
 ru:(nms w.rows).Nodup
 rw_:∀ q∈w.rows,b7I w q.1 q.2
 c:w.crews.length≤8
 cu:(nms w.crews).Nodup
 cw:∀ q∈w.crews,Nm q.1∧b7C q.2
 su:w.sk.Nodup
 ss:∀ z∈w.sk,z∈nms w.rows
 fu:(nms w.fa).Nodup
 fs:∀ z,z∈nms w.fa↔z∈w.sk
theorem a4P {α:Type} {l:List (Str × α)} {z:Str} {x:α} (h:l.lookup z=some x):(z,x)∈l:=by
 induction l with
 | nil=>cases h
 | cons q l ih =>
  rw [List.lookup_cons] at h
  split at h
  ·rename_i e
   have e:z=q.1:=by simpa using e
   cases h
   rw [e]
   exact zal
  ·exact zao _ (ih h)
theorem look_none {α:Type} {l:List (Str × α)} {z:Str} (h:l.lookup z=none):z∉nms l:=by
 induction l with
 | nil=>exact zax
 | cons q l ih =>
  rw [List.lookup_cons] at h
  split at h
  ·cases h
  ·rename_i e
   intro hm
   rcases zat.mp hm with e2 | hm
   ·rw [e2] at e;simp at e
   ·exact ih h hm
theorem a6I {α:Type} {l:List (Str × α)} {z:Str} (h:z∈nms l):∃ x,l.lookup z=some x:=by
 cases e:l.lookup z with
 | none=>exact absurd h (look_none e)
 | some x=>exact ⟨x,rfl⟩
theorem b3s.crew {w:Bo} (h:b3s w) {j:Str} (hj:j∈nms w.crews):w.crews.lookup j=some (a4A w j)∧b7C (a4A w j):=by
 obtain ⟨hs,e⟩:=a6I hj
 unfold a4A
 rw [e]
 exact ⟨rfl,(h.cw _ (a4P e)).2⟩
theorem b3s.row {w:Bo} (h:b3s w) {z:Str} {r:Rw} (e:w.rows.lookup z=some r):b7I w z r:=h.rw_ _ (a4P e)
abbrev lc (K:zbd):Addr:=He.ga K "Layout"
abbrev gr (K:zbd) (r:Rf):Addr:=He.ga K r.cls
def Ends (K0:zbd) (o:Option Rf) (Y:XK') (S:SS) (P:Prop):Prop:=match o with
 | some r=>Y (gr K0 r) r.fs S
 | none=>P
def next (st:Lay) (w:b0j):Lay:=match due st w with
 | some _=>st
 | none=>b8I st w
structure BdA where
 (L a b c d e:Addr)
def bl (A:BdA) (w:Bo):List Addr:=[A.L,A.a,A.b,A.c,A.d,A.e] ++ w.rows.map fun q=>q.2.at_
def bo0:Bo:=⟨[],[],[],[]⟩
def Db.In (p1 p2:List Str):Db→Prop
 | .add z _=>z∈p1 | .take z=>z∈p1 | .crew j _=>j∈p2 | .leave j=>j∈p2 | .turn z _=>z∈p1 | .stick z=>z∈p1 | .mend z=>z∈p1 | .hold z _ j=>z∈p1∧j∈p2 | .free z j=>z∈p1∧j∈p2
abbrev jc (K:zbd):Addr:=He.ga K "Job"
structure Jb where
 (named:Str) (about:List Str) (now:Str) (ending:Bool) (cutting emptying:List Str)
inductive Dj where
 | begin (sw dr:List Str) | step | give | tryOut | goOn | putBy | end_ | signOn (h:Str) | signOff (h:Str) | handOver (a b:Str)
def b8X (z:Str) (rs:List Str):Jb:=⟨z,rs, "by",false,[],[]⟩
structure Ws where
 g:Wo
 b:Bo
 js:List (Str × Jb)
 sd:List (Str × List Str)
 wet:List Str
inductive Dw where
 | lay (e:b0j) | turn (z pos:Str) | stick (z:Str) | mend (z:Str) | ask (j h:Str) (rs:List Str) | begin (j:Str) | give (j:Str) | job (j:Str) (f:Dj) | relieve (a c:Str)
def Dj.plain:Dj→Prop
 | .begin _ _=>False | .give=>False | _=>True
def b7R (w:Ws) (j:Str):Jb:=(w.js.lookup j).getD (b8X j [])
def mine (w:Ws) (a:Str):List Str:=(a0X (nms w.js)).filter fun j=>decide (a∈a4A w.b j)
def gone (w:Ws) (j:Str):Prop:=(b7R w j).now = "by" ∨ (b7R w j).now = "ended"
instance (w:Ws) (j:Str):Decidable (gone w j):=by unfold gone;infer_instance
def g0:Wo:=⟨[],[],[],[]⟩
def ws0:Ws:=⟨g0,bo0,[],[],[]⟩
def Dw.d:Dw→D
 | .lay e=>e.d
 | .turn z pos=>.tup [.str "turn",.str z,.str pos]
 | .stick z=>.tup [.str "stick",.str z]
 | .mend z=>.tup [.str "mend",.str z]
 | .ask j h rs=>.tup [.str "ask",.str j,.str h,b3e rs]
 | .begin j=>.tup [.str "begin",.str j]
 | .give j=>.tup [.str "give",.str j]
 | .job j .step=>.tup [.str "step",.str j]
 | .job j .end_=>.tup [.str "end",.str j]
 | .job j .putBy=>.tup [.str "put_by",.str j]
 | .job j .tryOut=>.tup [.str "try_out",.str j]
 | .job j .goOn=>.tup [.str "go_on",.str j]
 | .job j (.signOn h)=>.tup [.str "sign_on",.str j,.str h]
 | .job j (.signOff h)=>.tup [.str "sign_off",.str j,.str h]
 | .job j (.handOver a c)=>.tup [.str "hand_over",.str j,.str a,.str c]
 | .job j (.begin _ _)=>.tup [.str "begin",.str j]
 | .job j .give=>.tup [.str "give",.str j]
 | .relieve a c=>.tup [.str "relieve",.str a,.str c]
def TxOk (b:Nat) (z:Str):Prop:=(∀ c∈z.cps.toList,c < 128)∧z.length≤b
def a7t (K0:zbd) (x:D):Prop:=(∃ q,pdE x=some q∧a4t q∧fine q.shown=true∧∀ z,x=.str z→TxOk 40 z)∨∃ a,x=.err a (He.ga K0 "NoRow") [] true
def kdB:D→Str
 | .int _ => "whole"
 | .str _ => "text"
 | _ => "other"
def NmP (x:D):Prop:=∃ z,x=.str z∧Nm z
def a1k (x:D):Prop:=∃ i,x=.int i
def a2F (x:D):Prop:=∃ i,x=.int i∧0≤i∧i≤99
def a2J (x:D):Prop:=∃ i,x=.int i∧0≤i∧i≤1000000000
def a8x (x:D):Prop:=∃ z,x=.str z∧PS z
def a3e (K0:zbd) (P:D→Prop):TR:=fun m ds S K Y=>m=none∧∃ x,ds=[x]∧a7t K0 x∧∀ (k:Bool),(k=true↔P x)→K (.bl k) S
def a1P:TR:=fun m ds S K Y=>m=none∧∃ b c,ds=[.obj b]∧S b=some c∧a0M c∧∀ z c',TxOk 1 z→a0M c'→K (.str z) (S.set b c')
def a4v:TR:=fun m ds S K Y=>m=none∧∃ b c,ds=[.obj b]∧S b=some c∧a0M c∧∀ i c',i.natAbs < 10 ^ 41→a0M c'→K (.int i) (S.set b c')
def a2H:TR:=fun m ds S K Y=>m=none∧∃ b c,ds=[.obj b]∧S b=some c∧a0M c∧∀ z c',TxOk 40 z→a0M c'→K (.str z) (S.set b c')
def b3t (K0:zbd) (d:D):Prop:=∃ x,d=.tup [.str (kdB x),x]∧a7t K0 x
def a2I (K0:zbd):TR:=fun m ds S K Y=>m=none∧∃ b c,ds=[.obj b]∧S b=some c∧a0M c∧∀ d c',b3t K0 d→a0M c'→K d (S.set b c')
structure a8Q (x:D) (w n c t p:Bool):Prop where
 w:w=true↔a1k x
 n:n=true↔NmP x
 c:c=true↔a2F x
 t:t=true↔a2J x
 p:p=true↔a8x x
def a4u (K0:zbd):TR:=fun m ds S K Y=>m=none∧∃ x,ds=[.str (kdB x),x]∧a7t K0 x∧∀ w n c t p,a8Q x w n c t p→K (.lst [.bl w,.bl n,.bl c,.bl t,.bl p]) S
def a2G (K0:zbd):TR:=fun m ds S K Y=>m=none∧∃ x i w n c t p,ds=[.int i,x]∧0≤i∧i < 5∧a7t K0 x∧a8Q x w n c t p∧∀ k,atI [D.bl w,.bl n,.bl c,.bl t,.bl p] i=some (.bl k)→K (.bl k) S
def a1L (K0:zbd):TR:=fun m ds S K Y=>m=none∧∃ x i s w n c t p,ds=[x,.lst [.bl w,.bl n,.bl c,.bl t,.bl p],.int i,.int s]∧0≤i∧i < 5∧0≤s∧s≤3∧a7t K0 x∧a8Q x w n c t p∧K (.bl true) S
def tb (K:zbd):Tb:=⟨b7N,b0V,b5k,[some b4n,some a0H,some (a3e K a1k),some (a3e K NmP),some (a3e K a8x),some (a4u K),some a4v,some a1P,some (a3e K a2F),some (a3e K a2J),some a2H,some (a2G K),some (a2I K),some (a1L K),some (lawT 63)],[none,none,none,none,none,none,none,none,none,none,none,none,none,none,none],[.str "abcdefghijklmnopqrstuvwxyz",.int 8,.int 99,.int 1000000000],[none,some .bare],[0,0,0,0,0,0,6,6,6,6,10,10,12,12,14],[]⟩
theorem dg0 {K:zbd} {i:Nat} {m:Option (Addr × Obj)} {δ:DS} {S:SS} {Y:XD' } {KK:DK} (k:KK (.str "abcdefghijklmnopqrstuvwxyz") S):den ((tb K).G K i m).toGm (.glb 0) δ S Y KK:=a7L k
theorem dg1 {K:zbd} {i:Nat} {m:Option (Addr × Obj)} {δ:DS} {S:SS} {Y:XD' } {KK:DK} (k:KK (.int 8) S):den ((tb K).G K i m).toGm (.glb 1) δ S Y KK:=a7L k
theorem dg2 {K:zbd} {i:Nat} {m:Option (Addr × Obj)} {δ:DS} {S:SS} {Y:XD' } {KK:DK} (k:KK (.int 99) S):den ((tb K).G K i m).toGm (.glb 2) δ S Y KK:=a7L k
theorem dg3 {K:zbd} {i:Nat} {m:Option (Addr × Obj)} {δ:DS} {S:SS} {Y:XD' } {KK:DK} (k:KK (.int 1000000000) S):den ((tb K).G K i m).toGm (.glb 3) δ S Y KK:=a7L k
instance b85 {K:zbd} {i:Nat} {m:Option (Addr × Obj)} {δ:DS} {S:SS} {Y:XD' } {KK:DK}:Rdg (den ((tb K).G K i m).toGm (.glb 0) δ S Y KK) (KK (.str "abcdefghijklmnopqrstuvwxyz") S):=⟨dg0⟩
instance b86 {K:zbd} {i:Nat} {m:Option (Addr × Obj)} {δ:DS} {S:SS} {Y:XD' } {KK:DK}:Rdg (den ((tb K).G K i m).toGm (.glb 1) δ S Y KK) (KK (.int 8) S):=⟨dg1⟩
instance b87 {K:zbd} {i:Nat} {m:Option (Addr × Obj)} {δ:DS} {S:SS} {Y:XD' } {KK:DK}:Rdg (den ((tb K).G K i m).toGm (.glb 2) δ S Y KK) (KK (.int 99) S):=⟨dg2⟩
instance b88 {K:zbd} {i:Nat} {m:Option (Addr × Obj)} {δ:DS} {S:SS} {Y:XD' } {KK:DK}:Rdg (den ((tb K).G K i m).toGm (.glb 3) δ S Y KK) (KK (.int 1000000000) S):=⟨dg3⟩
end Cl
open Cl PySem PySem.Spec PyProof.Rows L2 Sv
local macro_rules | `(tactic| lia)=>`(tactic| (repeat (first | (refine Rdg.go ?_) | ((with_reducible apply b5e);focus exact rfl) | ((with_reducible apply b7x);focus exact rfl) | (with_reducible refine And.intro (a:=_≤sizeLine) (by rw [zai];simp only [zaw,List.length_nil,List.length_append,zag];omega) ?_) | (with_reducible refine b18 (by rw [zai];simp only [zaw,List.length_nil,List.length_append,zag];omega) ?_) | (dsimp only))))
namespace Cl
open PySem PySem.Spec PyProof.Rows L2 Sv
variable {K:zbd}
section
variable {x y z v:Int} {cells:List Int}
theorem at0:atI (a8P x y z cells) 0=some (.int x):=rfl
theorem at1:atI (a8P x y z cells) 1=some (.int y):=rfl
theorem at2:atI (a8P x y z cells) 2=some (.int z):=rfl
theorem at3:atI (a8P x y z cells) 3=some (.lst (cells.map .int)):=rfl
end
theorem a7J {xs:List D} {k:Nat}:Sv.cutD xs none (some (k:Int))=xs.take k:=by
 unfold Sv.cutD
 rw [HT.sIx_none,HT.sIx_nat]
 simp only [List.drop_zero,Nat.sub_zero]
 by_cases h:k≤xs.length
 ·rw [Nat.min_eq_left h]
 ·rw [Nat.min_eq_right (by omega),List.take_length,List.take_of_length_le (by omega)]
theorem bnd {j:Int} (h0:-1000≤j) (h1:j≤1000000):-(2 ^ 62)≤j∧j < 2 ^ 62:=by
 have e:(2:Int) ^ 62=4611686018427387904:=by decide
 rw [e];omega
theorem me1 (c:SaysX fa fn fx K):Meets ((tb K).sn N1) ((tb K).G K 1) 2 false a0H b1:=by
 refine Qt.put_in ?_
 simp (disch :=
 with_unfolding_all
 refine Qt.keep ?_
 rintro m hm ds S KK Y ⟨rfl,b,n0,c,rfl,hn,hn2,hb,⟨x,y,z,cells,rfl,hx,hy,hy2,hz,hc⟩,hK⟩
 refine ⟨rfl,?_⟩
 show a0f _ b1 [some _,some _,none,none,none,none] _ _ _
 unfold b1
 have hb0:=hb
 refine a3G (fun δ1 S1=>∃ x y z c1,b7B x y z cells∧S1=S.set b (.lst (a8P x y z cells))∧δ1=[some (.obj b),some (.int n0),c1,none,none,none]) ?_ ?_
 ·lia
  refine a6t hb at0 ?_
  lia
  split
  ·lia
   refine a3G (fun δ1 S1=>∃ w,0≤w∧S1=S∧δ1=[some (.obj b),some (.int n0),some (.int w),none,none,none]) ?_ ?_
   ·lia
    refine a6t hb at2 ?_
    lia
    refine a6t hb at3 ?_
    lia
    split
    ·rename_i e
     have e:z < (cells.length:Int):=by simpa using e
     lia
     refine a6t hb at3 ?_
     lia
     refine a6t hb at2 ?_
     obtain ⟨k,rfl⟩:=Int.eq_ofNat_of_zero_le hz
     have hk:k < cells.length:=by omega
     refine a3P (a5T (zbc hk)) ?_
     lia
     exact ⟨cells[k],hc _ (List.getElem_mem hk),rfl,rfl⟩
    ·lia
     exact ⟨0,by omega,rfl,rfl⟩
   ·rintro δ1 S1 ⟨w,hw,hS,rfl⟩
    rw [hS]
    lia
    refine b5j hb at2 ?_
    lia
    refine a8j hb rfl ?_
    lia
    refine a3G (fun δ1 S1=>∃ x1,0≤x1∧S1=S.set b (.lst (a8P x1 y (z + 1) cells))∧δ1=[some (.obj b),some (.int n0),some (.int w),none,none,none]) ?_ ?_
    ·lia
     split
     ·lia
      refine a8j zab rfl ?_
      lia
      exact ⟨w,hw,by rw [zac];rfl,rfl⟩
     ·lia
      exact ⟨x,hx,rfl,rfl⟩
    ·rintro δ1 S1 ⟨x1,hx1,rfl,rfl⟩
     lia
     refine a6t zab at1 ?_
     lia
     refine a4b (.inl (.inr (by decide))) ?_
     lia
     refine a2Q (by decide) ?_
     lia
     refine a6t zab at2 ?_
     lia
     refine a4b (.inl (.inl (by decide))) ?_
     lia
     refine a2Q (by decide) ?_
     lia
     refine a8j zab rfl ?_
     lia
     exact ⟨x1,(y * 48271 + w % 2147483647 + 7919 * (z + 1)) % 2147483647,z + 1,_,⟨hx1,Int.emod_nonneg _ (by decide),Int.emod_lt_of_pos _ (by decide),by omega,hc⟩,by rw [zac];rfl,rfl⟩
  ·lia
   exact ⟨x,y,z,none,⟨hx,hy,hy2,hz,hc⟩,(SS.set_id hb).symm,rfl⟩
 ·rintro δ1 S1 ⟨x,y,z,c1,⟨hx,hy,hy2,hz,hc⟩,rfl,rfl⟩
  lia
  refine a6t zab at0 ?_
  lia
  split
  ·rename_i e
   have e:0 < x:=by simpa using e
   lia
   refine a6t zab at0 ?_
   lia
   refine a2Q hn ?_
   lia
   refine a6t zab at0 ?_
   lia
   refine b19 ⟨hn,by omega⟩ ?_
   lia
   refine a8j zab rfl ?_
   lia
   rw [zac]
   exact hK _ _ (Int.emod_nonneg _ (by omega)) (Int.emod_lt_of_pos _ hn) ⟨x / n0,y,z,cells,rfl,Int.ediv_nonneg hx (by omega),hy,hy2,hz,hc⟩
  ·lia
   refine a6t zab at1 ?_
   lia
   refine a4b (.inl (.inr (by decide))) ?_
   lia
   refine a2Q (by decide) ?_
   have h1:=Int.emod_nonneg ((y + 1) * 39373) (by decide:(1000000007:Int)≠0)
   have h2:=Int.emod_lt_of_pos ((y + 1) * 39373) (by decide:(0:Int) < 1000000007)
   generalize ((y + 1) * 39373) % 1000000007=f1 at h1 h2 ⊢
   lia
   refine a4b (.inl (.inl ⟨by omega,by omega⟩)) ?_
   lia
   refine a2Q (by decide) ?_
   lia
   refine a4b (.inl (.inr (by decide))) ?_
   lia
   refine a2Q (by decide) ?_
   have h3:=Int.emod_nonneg (f1 * f1 % 998244353 * 30011) (by decide:(998244353:Int)≠0)
   have h4:=Int.emod_lt_of_pos (f1 * f1 % 998244353 * 30011) (by decide:(0:Int) < 998244353)
   generalize (f1 * f1 % 998244353 * 30011) % 998244353=f2 at h3 h4 ⊢
   lia
   split
   ·lia
    refine a4b (.inl (.inr (by decide))) ?_
    lia
    refine a2Q hn ?_
    exact hK _ _ (Int.emod_nonneg _ (by omega)) (Int.emod_lt_of_pos _ hn) ⟨x,y,z,cells,rfl,hx,hy,hy2,hz,hc⟩
   ·lia
    refine b19 ⟨by decide,by decide⟩ ?_
    lia
    refine a2Q hn ?_
    exact hK _ _ (Int.emod_nonneg _ (by omega)) (Int.emod_lt_of_pos _ hn) ⟨x,y,z,cells,rfl,hx,hy,hy2,hz,hc⟩
 ) only [↓Qt.put_off]
def b0J:D→D
 | .int i=>.int (if i < 0 then -i else i)
 | d=>d
theorem me0 (c:SaysX fa fn fx K):Meets ((tb K).sn N0) ((tb K).G K 0) 1 false b4n b0:=by
 rintro m hm ds S KK Y ⟨rfl,ns,rfl,hK⟩
 refine ⟨rfl,?_⟩
 show a0f _ b0 [some _,none] _ _ _
 unfold b0
 lia
 refine ⟨_,rfl,?_⟩
 rw [show (63:Int)=((63:Nat):Int) from rfl,a7J]
 have hl:((ns.map D.int).take 63).length≤63:=by rw [List.length_take];omega
 refine a7Z b0J (fun _=>true) (by rw [zai];omega) (fun _ _ _=>rfl) (fun p i acc d KK KN hd hp hk hn=>?_) ?_
 ·refine b0u (b3w ?_)
  rw [if_pos rfl]
  have hm:d∈ns.map D.int:=List.mem_of_mem_take (zaq hd)
  obtain ⟨x,_,rfl⟩:=zan.mp hm
  lia
  exact hk rfl
 ·have e:(((ns.map D.int).take 63).filter fun _=>true).map b0J=((ns.take 63).map fun i=>if i < 0 then -i else i).map D.int:=by
   rw [List.filter_eq_self.mpr (fun _ _=>rfl),← List.map_take,List.map_map,List.map_map]
   rfl
  rw [e]
  lia
  intro p hp
  refine hK p _ hp ⟨0,1234567891,0,_,rfl,by decide,by decide,by decide,by decide,fun i hi=>?_⟩
  obtain ⟨x,_,rfl⟩:=zan.mp hi
  split <;> omega
theorem a5p {tg:List Nat} {one:Bool} {d:D} {δ:DS} {S:SS} {Q Q':DS→SS→Prop} (w:∀ δ S,Q δ S→Q' δ S) (h:a1d tg one d δ S Q):a1d tg one d δ S Q':=by
 unfold a1d at h ⊢
 split
 ·rename_i e
  rw [if_pos e] at h
  split at h
  ·exact w _ _ h
  ·exact h
 ·rename_i e
  rw [if_neg e] at h
  obtain ⟨ds,h1,h2,h3⟩:=h
  exact ⟨ds,h1,h2,w _ _ h3⟩
theorem a8D {G:Gm} {elt:RE} {tg:List Nat} {one:Bool} {own:List Nat} {δ:DS} {KK:DK} {ds:List D} {ok:SS→Prop} {S:SS} {b:Addr} {c:Cell} (hb:S b=some c) (hc:a0M c) (hz:ds.length≤sizeLine) (P:D→Prop) (hok:∀ S',ok S')
  (hs:∀ (p:Addr) (i:Nat) (acc:List D) (d:D) (S0:SS) (c0:Cell) (K1:DK),ds[i]?=some d→S0 b=some c0→a0M c0→(∀ y c1,P y→a0M c1→K1 y (S0.set b c1))→a1d tg one d (a4r δ own) S0 fun δ2 S2=>den G elt δ2 S2 noX K1)
  (hl:∀ ys c',ys.length=ds.length→(∀ y∈ys,P y)→a0M c'→KK (.lst ys) (S.set b c')):LcK G false elt tg one .nn own δ KK ds ok S:=by
 intro p hp
 have apart:b≠p:=zad hb hp
 refine ⟨fun i S'=>∃ ys c',ys.length=i∧(∀ y∈ys,P y)∧a0M c'∧S'=(S.set b c').set p (.lst ys),⟨[],c,rfl,(fun _ z=>nomatch z),hc,by rw [SS.set_id hb]⟩,fun _ S' _ _=>hok S',?_,?_⟩
 ·rintro i d S' hd ⟨ys,c0,rfl,hP,hc0,rfl⟩
  have hi:ys.length < ds.length:=(List.getElem?_eq_some_iff.mp hd).1
  have at_b:((S.set b c0).set p (.lst ys)) b=some c0:=by rw [zaa apart,zab]
  refine a5p (fun δ2 S2 q=>?_) (hs p ys.length ys d _ c0 (fun y S4=>∃ acc,S4 p=some (.lst acc)∧acc.length < sizeLine∧∃ ys' c',ys'.length=ys.length + 1∧(∀ y∈ys',P y)∧a0M c'∧S4.set p (.lst (acc ++ [y]))=(S.set b c').set p (.lst ys')) hd at_b hc0 fun y c1 hy hc1=>?_)
  ·refine b3w ?_
   rw [if_pos rfl]
   exact q
  ·have e:((S.set b c0).set p (.lst ys)).set b c1=(S.set b c1).set p (.lst ys):=by rw [zae (Ne.symm apart),zac]
   rw [e]
   refine ⟨ys,zab,by omega,ys ++ [y],c1,by simp,fun w hw=>?_,hc1,by rw [zac]⟩
   rcases zap.mp hw with hw | hw
   ·exact hP w hw
   ·cases zaj.mp hw;exact hy
 ·rintro S' ⟨ys,c',hlen,hP,hc',rfl⟩
  refine ⟨ys,zab,?_⟩
  rw [if_neg zaz,zaf (by rw [zaa (Ne.symm apart)];exact hp)]
  exact hl ys c' hlen hP hc'
def b7T (y:D):Prop:=∃ ch,y=.str ⟨#[ch]⟩∧97≤ch∧ch≤122
theorem a6C:∀ (ys:List D),(∀ y∈ys,b7T y)→∃ cs:List Nat,ys=(cs.map fun ch=>(⟨#[ch]⟩:Str)).map D.str∧cs.length=ys.length∧∀ ch∈cs,97≤ch∧ch≤122
 | [],_=>⟨[],rfl,rfl,fun _ z=>nomatch z⟩
 | y :: ys,h=>by
  obtain ⟨cs,rfl,hl,hc⟩:=a6C ys fun w hw=>h w (zao _ hw)
  obtain ⟨ch,rfl,h1⟩:=h _ zal
  refine ⟨ch :: cs,rfl,by simp,fun w hw=>?_⟩
  rcases zat.mp hw with rfl | hw
  ·exact h1
  ·exact hc w hw
theorem a3t:∀ cs:List Nat,TL.joinL [] (cs.map fun ch=>[ch])=cs
 | []=>rfl
 | [_]=>rfl
 | a :: b :: r=>by
  have ih:=a3t (b :: r)
  rw [zav] at ih
  rw [zav,zav]
  show [a] ++ ([] ++ TL.joinL [] ([b] :: r.map fun ch=>[ch]))=a :: b :: r
  rw [ih]
  rfl
theorem a6u (cs:List Nat):Txt.join "" (cs.map fun ch=>(⟨#[ch]⟩:Str))=⟨cs.toArray⟩:=by
 have h:=SX.join_S [] (cs.map fun ch=>[ch])
 rw [List.map_map,a3t] at h
 exact h
theorem b1U {u:Int} (h0:0≤u) (h1:u < 26):∃ ch,atI ("abcdefghijklmnopqrstuvwxyz" : Str).cps.toList u=some ch∧97≤ch∧ch≤122:=by
 have key:∀ k:Fin 26,97≤(("abcdefghijklmnopqrstuvwxyz" : Str).cps.toList)[k.1]'(by have:=k.2;exact Nat.lt_of_lt_of_eq this (by decide +kernel))∧(("abcdefghijklmnopqrstuvwxyz" : Str).cps.toList)[k.1]'(by have:=k.2;exact Nat.lt_of_lt_of_eq this (by decide +kernel))≤122:=by decide +kernel
 obtain ⟨k,rfl⟩:=Int.eq_ofNat_of_zero_le h0
 have hk:k < 26:=by omega
 exact ⟨_,atI_nat (zbc (Nat.lt_of_lt_of_eq hk (by decide +kernel))),key ⟨k,hk⟩⟩
variable {K:zbd}
def a3p (n:String):D→Bool
 | .str _=>n == "str"
 | .int _=>n == "int"
 | .bl _=>n == "bool" || n == "int"
 | .lst _=>n == "list"
 | .tup _=>n == "tuple"
 | _=>false
theorem eq_nil {S:SS} {KK:DK} {l:List D} (k:KK (.bl l.isEmpty) S):a0t .Eq (.lst l) (.lst []) S KK:=by
 cases l with
 | nil=>exact b0Q rfl rfl k
 | cons x l=>exact b0P (ds:=x :: l) (es:=[]) rfl rfl (by simp) k
theorem b5B {S:SS} {KK:DK} {a b:Bool} (k:KK (.bl (a != b)) S):a0t .NotEq (.bl a) (.bl b) S KK:=b4M rfl rfl (by
 have e:(!D.eqv (vw S (.bl a)) (vw S (.bl b)))=(a != b):=by cases a <;> cases b <;> rfl
 rw [e];exact k)
theorem tru {P:Prop} (h:P):(true=true↔P):=⟨fun _=>h,fun _=>rfl⟩
theorem fal {P:Prop} (h:¬ P):(false=true↔P):=⟨fun e=>(nomatch e),fun p=>absurd p h⟩
theorem a1Z {c:Nat}:c∈("abcdefghijklmnopqrstuvwxyz" : Str).cps.toList↔97≤c∧c≤122:=by
 have e:("abcdefghijklmnopqrstuvwxyz" : Str).cps.toList=List.range' 97 26:=by decide +kernel
 rw [e,List.mem_range'_1]
 omega
def offB:D→Bool
 | .str z=>!(z.cps.toList.all fun c=>decide (97≤c) && decide (c≤122))
 | _=>true
theorem filter_nil {α:Type} {g:α→Bool} {l:List α}:(l.filter g).isEmpty=true↔∀ x∈l,g x=false:=by
 rw [List.isEmpty_iff,List.filter_eq_nil_iff]
 exact ⟨fun h x hx=>by simpa using h x hx,fun h x hx=>by simpa using h x hx⟩
theorem a5Y {n:Nat} {z:Str} (h:TxOk n z) (lo hi:Option Int):TxOk n (cutS z lo hi):=by
 unfold cutS
 refine ⟨fun c hc=>?_,?_⟩
 ·rw [List.toList_toArray] at hc
  exact h.1 c (List.mem_of_mem_drop (List.mem_of_mem_take hc))
 ·show (List.toArray _).size≤n
  rw [List.size_toArray]
  have h1:z.cps.toList.length≤n:=by
   have e:z.length=z.cps.toList.length:=by rw [Array.length_toList];rfl
   rw [← e];exact h.2
  rw [List.length_take,List.length_drop]
  omega
theorem a2v {a b:Nat} {x y:Str} (h:TxOk a x) (k:TxOk b y):TxOk (a + b) (x ++ y):=⟨fun c hc=>by
 have hc:c∈TL.tl (x ++ y):=hc
 rw [TL.tl_append] at hc
 rcases zap.mp hc with hc | hc
 ·exact h.1 c hc
 ·exact k.1 c hc,by
 rw [Str.length_append]
 have:=h.2
 have:=k.2
 omega⟩
theorem b7V {n:Int} (h0:0≤n) (h1:n≤100000):n.natAbs.log2 < 4000:=by
 have h:n.natAbs < 131072:=by omega
 by_cases e:n.natAbs=0
 ·rw [e];decide
 ·exact Nat.lt_trans ((Nat.log2_lt e).mpr (show n.natAbs < 2 ^ 17 from h)) (by decide)
theorem a99:(" !\"#$&'()*+,-./0123456789:;<=>?@ABCDEFGHIJKLMNOPQRSTUVWXYZ[\\]^_`" : Str).length + ("abcdefghijklmnopqrstuvwxyz{|}~\n" : Str).length≤128∧0 < ((" !\"#$&'()*+,-./0123456789:;<=>?@ABCDEFGHIJKLMNOPQRSTUVWXYZ[\\]^_`" : Str) ++ ("abcdefghijklmnopqrstuvwxyz{|}~\n" : Str)).length∧((" !\"#$&'()*+,-./0123456789:;<=>?@ABCDEFGHIJKLMNOPQRSTUVWXYZ[\\]^_`" : Str) ++ ("abcdefghijklmnopqrstuvwxyz{|}~\n" : Str)).length≤128∧∀ c∈((" !\"#$&'()*+,-./0123456789:;<=>?@ABCDEFGHIJKLMNOPQRSTUVWXYZ[\\]^_`" : Str) ++ ("abcdefghijklmnopqrstuvwxyz{|}~\n" : Str)).cps.toList,c < 128:=by decide +kernel
theorem a3a {a b:Nat} {z:Str} (h:TxOk a z) (le:a≤b):TxOk b z:=⟨h.1,Nat.le_trans h.2 le⟩
theorem b2s {n i:Nat} {d:D} (h:(a4h 0 n)[i]?=some d):i < n∧d=.int (i:Nat):=by
 unfold a4h at h
 rw [zbb,zam] at h
 obtain ⟨k,hk,rfl⟩:=h
 obtain ⟨h1,h2⟩:=List.getElem?_eq_some_iff.mp hk
 rw [List.length_range] at h1
 rw [List.getElem_range] at h2
 subst h2
 exact ⟨h1,by rw [Int.zero_add]⟩
theorem b00 {G:Gm} {δ:DS} {S:SS} {Y:XD'} {KK:DK} (k:KK (.dic []) S):den G (.dct false .nil) δ S Y KK:=b0Z fun p free=>by
 rw [a3O]
 refine ⟨zab,[],rfl,by decide,?_⟩
 rw [if_neg zaz,zaf free]
 exact k
theorem a6p (c:SaysX fa fn fx K) {S:SS} {x:D} {n:String} {G:Gm} {Q:Bool→Prop} (hG:G.K=K) (hn:n∈["str", "int", "bool"]) (hx:a7t K x) (k:Q (a3p n x)):∃ t b,tyD S x=some t∧a3c G S x∧PySem.W.kitOne G.K t ((Cn.ty n).val G)=some b∧Q b:=by
 subst hG
 simp only [zat,zax,or_false] at hn
 rcases hx with ⟨q,hq,_⟩ | ⟨a,rfl⟩
 ·rcases hn with rfl | rfl | rfl <;> cases x with
  | obj _=>simp [pdE] at hq
  | exc _ _ _ _=>simp [pdE] at hq
  | err _ _ _ _=>simp [pdE] at hq
  | _=>exact a6q rfl trivial (by first | rfl | kernel_rfl) k
 ·have hF:a8w G.K (He.ga G.K "NoRow"):=a9k (x := "NoRow") (c.fact 4 rfl) (by decide +kernel)
  rcases hn with rfl | rfl | rfl
  ·exact a6q rfl hF (a3Z (c.fact 5 rfl)) k
  ·exact a6q rfl hF (a3Z (c.fact 6 rfl)) k
  ·exact a6q rfl hF (a3Z (c.fact 7 rfl)) k
theorem b3k {z:Str} (h:a7t K (.str z)):TxOk 40 z:=by
 rcases h with ⟨_,_,_,_,h⟩ | ⟨_,e⟩
 ·exact h z rfl
 ·cases e
variable {K:zbd}
theorem me3 (c:SaysX fa fn fx K):Meets ((tb K).sn N3) ((tb K).G K 3) 1 false (a3e K NmP) b3:=by
 refine Qt.put_in ?_
 simp (disch :=
 with_unfolding_all
 refine Qt.keep ?_
 rintro m hm ds S KK Y ⟨rfl,x,rfl,hx,hK⟩
 refine ⟨rfl,?_⟩
 show a0f _ b3 [some _,none] _ _ _
 unfold b3
 by_cases hs:∃ z,x=.str z
 ·obtain ⟨z,rfl⟩:=hs
  have lz:=(b3k hx).2
  have el:z.length=z.cps.toList.length:=by rw [Array.length_toList];rfl
  have no:¬ Nm z→¬ NmP (.str z):=fun h ⟨y,e,hy⟩=>by cases e;exact h hy
  lia
  refine a6p c (n := "str") (by rfl) (by decide) hx ?_
  rw [show a3p "str" (.str z)=true from rfl]
  lia
  rw [if_neg (by decide)]
  lia
  refine a72 (by rw [zai];omega) ?_
  lia
  by_cases h1:(1:Int)≤(z.length:Int)
  ·rw [if_pos (zba h1)]
   lia
   by_cases h2:(z.length:Int)≤8
   ·rw [if_neg (by simpa using h2)]
    lia
    refine ⟨fun i δ' S'=>∃ x,S'=S∧δ'=[some (.str z),x]∧∀ j c,j < i→z.cps.toList[j]?=some c→97≤c∧c≤122,⟨none,rfl,rfl,fun j c h=>absurd h (Nat.not_lt_zero _)⟩,fun _ _ _ _ _=>trivial,?_,?_⟩
    ·rintro i d δ' S' hd ⟨x,rfl,rfl,sofar⟩
     unfold a0U at hd
     rw [zbb,zam] at hd
     obtain ⟨ch,hc,rfl⟩:=hd
     refine b0u ?_
     lia
     by_cases hl:ch∈("abcdefghijklmnopqrstuvwxyz" : Str).cps.toList
     ·rw [if_neg (by simpa using hl)]
      lia
      refine ⟨_,rfl,rfl,fun j c hj e=>?_⟩
      by_cases ej:j=i
      ·subst ej
       rw [hc] at e
       cases e
       exact a1Z.mp hl
      ·exact sofar j c (by omega) e
     ·rw [if_pos (by simpa using hl)]
      lia
      exact hK false (fal (no fun h=>hl (a1Z.mpr (h.2.2 ch (zaq hc)))))
    ·rintro δ' S' ⟨x,rfl,rfl,all⟩
     lia
     refine hK true (tru ⟨z,rfl,by omega,by omega,fun c hc=>?_⟩)
     obtain ⟨j,hj⟩:=List.mem_iff_getElem?.mp hc
     refine all j c ?_ hj
     unfold a0U
     rw [zag]
     exact (List.getElem?_eq_some_iff.mp hj).1
   ·rw [if_pos (by simpa using h2)]
    lia
    exact hK false (fal (no fun h=>by have:=h.1;omega))
  ·rw [if_neg (by rw [zah];exact h1)]
   lia
   exact hK false (fal (no fun h=>by have:=h.2.1;omega))
 ·have no:¬ NmP x:=fun ⟨z,e,_⟩=>hs ⟨z,e⟩
  have e:a3p "str" x=false:=by cases x <;> first | rfl | exact absurd ⟨_,rfl⟩ hs
  lia
  refine a6p c (n := "str") (by rfl) (by decide) hx ?_
  rw [e]
  lia
  rw [if_pos (by decide)]
  rw [if_pos rfl]
  lia
  exact hK false (fal no)
 ) only [↓Qt.put_off]
theorem me2 (c:SaysX fa fn fx K):Meets ((tb K).sn N2) ((tb K).G K 2) 1 false (a3e K a1k) b2:=by
 refine Qt.put_in ?_
 simp (disch :=
 with_unfolding_all
 refine Qt.keep ?_
 rintro m hm ds S KK Y ⟨rfl,x,rfl,hx,hK⟩
 refine ⟨rfl,?_⟩
 show a0f _ b2 [some _] _ _ _
 unfold b2
 lia
 refine a6p c (n := "int") (by rfl) (by decide) hx ?_
 by_cases hi:a3p "int" x=true
 ·rw [hi]
  lia
  rw [if_pos rfl]
  lia
  refine a6p c (n := "bool") (by rfl) (by decide) hx ?_
  cases x with
  | int i =>
   rw [show a3p "bool" (.int i)=false from rfl]
   lia
   exact hK true (tru ⟨i,rfl⟩)
  | bl b =>
   rw [show a3p "bool" (.bl b)=true from rfl]
   lia
   exact hK false (fal fun ⟨_,e⟩=>nomatch e)
  | _=>exact nomatch hi
 ·rw [Bool.not_eq_true] at hi
  rw [hi]
  lia
  rw [if_neg (by decide)]
  exact hK false (fal fun ⟨i,e⟩=>by rw [e] at hi;exact nomatch hi)
 ) only [↓Qt.put_off]
theorem me8 (c:SaysX fa fn fx K):Meets ((tb K).sn N8) ((tb K).G K 8) 1 false (a3e K a2F) b8:=by
 refine Qt.put_in ?_
 simp (disch :=
 with_unfolding_all
 refine Qt.keep ?_
 rintro m hm ds S KK Y ⟨rfl,x,rfl,hx,hK⟩
 refine ⟨rfl,?_⟩
 show a0f _ b8 [some _] _ _ _
 unfold b8
 lia
 refine a0h (T:=a3e K a1k) rfl ?_
 lia
 refine ⟨rfl,x,rfl,hx,fun k hk=>?_⟩
 lia
 by_cases h:k=true
 ·rw [if_pos h]
  obtain ⟨i,rfl⟩:=hk.mp h
  have iff:a2F (.int i)↔(0≤i∧i≤99):=⟨fun ⟨j,e,h⟩=>by cases e;exact h,fun h=>⟨i,rfl,h⟩⟩
  lia
  by_cases h0:(0:Int)≤i
  ·rw [if_pos (zba h0)]
   lia
   refine hK _ ?_
   rw [zah,iff]
   exact ⟨fun h=>⟨h0,h⟩,fun h=>h.2⟩
  ·rw [if_neg (by rw [zah];exact h0)]
   exact hK false (fal fun h=>h0 (iff.mp h).1)
 ·rw [if_neg h]
  rw [Bool.not_eq_true] at h
  subst h
  exact hK false (fal fun ⟨i,e,_⟩=>nomatch hk.mpr ⟨i,e⟩)
 ) only [↓Qt.put_off]
theorem me9 (c:SaysX fa fn fx K):Meets ((tb K).sn N9) ((tb K).G K 9) 1 false (a3e K a2J) b9:=by
 refine Qt.put_in ?_
 simp (disch :=
 with_unfolding_all
 refine Qt.keep ?_
 rintro m hm ds S KK Y ⟨rfl,x,rfl,hx,hK⟩
 refine ⟨rfl,?_⟩
 show a0f _ b9 [some _] _ _ _
 unfold b9
 lia
 refine a0h (T:=a3e K a1k) rfl ?_
 lia
 refine ⟨rfl,x,rfl,hx,fun k hk=>?_⟩
 lia
 by_cases h:k=true
 ·rw [if_pos h]
  obtain ⟨i,rfl⟩:=hk.mp h
  have iff:a2J (.int i)↔(0≤i∧i≤1000000000):=⟨fun ⟨j,e,h⟩=>by cases e;exact h,fun h=>⟨i,rfl,h⟩⟩
  lia
  by_cases h0:(0:Int)≤i
  ·rw [if_pos (zba h0)]
   lia
   refine hK _ ?_
   rw [zah,iff]
   exact ⟨fun h=>⟨h0,h⟩,fun h=>h.2⟩
  ·rw [if_neg (by rw [zah];exact h0)]
   exact hK false (fal fun h=>h0 (iff.mp h).1)
 ·rw [if_neg h]
  rw [Bool.not_eq_true] at h
  subst h
  exact hK false (fal fun ⟨i,e,_⟩=>nomatch hk.mpr ⟨i,e⟩)
 ) only [↓Qt.put_off]
theorem me4 (c:SaysX fa fn fx K):Meets ((tb K).sn N4) ((tb K).G K 4) 1 false (a3e K a8x) b4:=by
 refine Qt.put_in ?_
 simp (disch :=
 with_unfolding_all
 refine Qt.keep ?_
 rintro m hm ds S KK Y ⟨rfl,x,rfl,hx,hK⟩
 refine ⟨rfl,?_⟩
 show a0f _ b4 [some _] _ _ _
 unfold b4
 lia
 refine a6p c (n := "str") (by rfl) (by decide) hx ?_
 by_cases hs:∃ z,x=.str z
 ·obtain ⟨z,rfl⟩:=hs
  have iff:a8x (.str z)↔(z = "open" ∨ z = "shut"):=⟨fun ⟨y,e,h⟩=>by cases e;exact h,fun h=>⟨z,rfl,h⟩⟩
  rw [show a3p "str" (.str z)=true from rfl]
  lia
  rw [if_pos rfl]
  lia
  by_cases h:z = "open"
  ·rw [if_pos (zba h)]
   rw [zba h]
   exact hK true (tru (iff.mpr (.inl h)))
  ·rw [if_neg (by rw [zah];exact h)]
   lia
   refine hK _ ?_
   rw [zah,iff]
   exact ⟨.inr,fun e=>e.resolve_left h⟩
 ·have e:a3p "str" x=false:=by cases x <;> first | rfl | exact absurd ⟨_,rfl⟩ hs
  rw [e]
  lia
  rw [if_neg (by decide)]
  exact hK false (fal fun ⟨z,e,_⟩=>hs ⟨z,e⟩)
 ) only [↓Qt.put_off]
theorem me7 (c:SaysX fa fn fx K):Meets ((tb K).sn N7) ((tb K).G K 7) 1 false a1P b7:=by
 refine Qt.put_in ?_
 simp (disch :=
 with_unfolding_all
 refine Qt.keep ?_
 rintro m hm ds S KK Y ⟨rfl,b,cb,rfl,hb,hc,hK⟩
 refine ⟨rfl,?_⟩
 show a0f _ b7 [some _,none] _ _ _
 unfold b7
 obtain ⟨s1,s2,s3,s4⟩:=a99
 lia
 refine a2b (by rw [zai];omega) ?_
 generalize (" !\"#$&'()*+,-./0123456789:;<=>?@ABCDEFGHIJKLMNOPQRSTUVWXYZ[\\]^_`" : Str) ++ ("abcdefghijklmnopqrstuvwxyz{|}~\n" : Str)=sg at s2 s3 s4 ⊢
 lia
 refine a0h (T:=a0H) rfl ?_
 lia
 refine a72 (by rw [zai];omega) ?_
 lia
 refine ⟨rfl,b,_,cb,rfl,by omega,b7V (by omega) (by omega),hb,hc,fun v c2 v0 v1 hc2=>?_⟩
 obtain ⟨v,rfl⟩:=Int.eq_ofNat_of_zero_le v0
 have el:sg.length=sg.cps.toList.length:=by rw [Array.length_toList];rfl
 have hv:v < sg.cps.toList.length:=by omega
 refine b7Q (c:=sg.cps.toList[v]) (by rw [zai];omega) (atI_nat (zbc hv)) ?_
 lia
 refine hK _ c2 ⟨fun c hc=>?_,Nat.le_refl 1⟩ hc2
 have hc:c∈[sg.cps.toList[v]]:=hc
 rw [zaj.mp hc]
 exact s4 _ (List.getElem_mem hv)
 ) only [↓Qt.put_off]
variable {K:zbd}
theorem b7U:((10:Int) ^ (40:Int).toNat).natAbs.log2 < 4000:=by decide +kernel
theorem e40:(10:Int) ^ (40:Int).toNat=10 ^ 40:=by decide +kernel
theorem e9:(10:Int) ^ (9:Int).toNat=1000000000:=by decide +kernel
theorem b0O {i:Int} (h0:0≤i) (h1:i < 10 ^ 40):i.natAbs < 10 ^ 41:=by
 have e:(10:Int) ^ 40=10000000000000000000000000000000000000000:=by decide +kernel
 have e2:(10:Nat) ^ 41=100000000000000000000000000000000000000000:=by decide +kernel
 omega
theorem b4z {i:Int} (h0:-10≤i) (h1:i < 1000000010):i.natAbs < 10 ^ 41:=by
 have e2:(10:Nat) ^ 41=100000000000000000000000000000000000000000:=by decide +kernel
 omega
theorem a9m {u:Int} (h0:0≤u) (h1:u < 3):∃ n,atI [D.int 0,D.int 99,D.int 1000000000] u=some (.int n)∧0≤n∧n≤1000000000:=by
 obtain rfl | rfl | rfl:u=0∨u=1∨u=2:=by omega
 ·exact ⟨0,rfl,by decide,by decide⟩
 ·exact ⟨99,rfl,by decide,by decide⟩
 ·exact ⟨1000000000,rfl,by decide,by decide⟩
theorem me6 (c:SaysX fa fn fx K):Meets ((tb K).sn N6) ((tb K).G K 6) 1 false a4v b6:=by
 refine Qt.put_in ?_
 simp (disch :=
 with_unfolding_all
 refine Qt.keep ?_
 rintro m hm ds S KK Y ⟨rfl,b,cb,rfl,hb,hc,hK⟩
 refine ⟨rfl,?_⟩
 show a0f _ b6 [some _,none] _ _ _
 unfold b6
 lia
 refine a0h (T:=a0H) rfl ?_
 lia
 refine ⟨rfl,b,5,cb,rfl,by decide,by decide,hb,hc,fun v c2 v0 v1 hc2=>?_⟩
 lia
 by_cases h:v=0
 ·rw [if_pos (zba h)]
  lia
  refine a6O ⟨by decide,by decide,by decide⟩ ?_
  lia
  refine a0h (T:=a0H) rfl ?_
  lia
  refine ⟨rfl,b,3,c2,rfl,by decide,by decide,zab,hc2,fun u c3 u0 u1 hc3=>?_⟩
  rw [zac]
  rw [e9]
  obtain ⟨n,en,n0,n1⟩:=a9m u0 u1
  refine a3P en ?_
  lia
  refine a0h (T:=a0H) rfl ?_
  lia
  refine ⟨rfl,b,3,c3,rfl,by decide,by decide,zab,hc3,fun w c4 w0 w1 hc4=>?_⟩
  rw [zac]
  lia
  exact hK _ c4 (b4z (by omega) (by omega)) hc4
 rw [if_neg (by rw [zah];exact h)]
 lia
 by_cases h:v=1
 ·rw [if_pos (zba h)]
  lia
  refine a0h (T:=a0H) rfl ?_
  lia
  refine ⟨rfl,b,120,c2,rfl,by decide,by decide,zab,hc2,fun u c3 u0 u1 hc3=>?_⟩
  rw [zac]
  exact hK _ c3 (b4z (by omega) (by omega)) hc3
 rw [if_neg (by rw [zah];exact h)]
 lia
 by_cases h:v=2
 ·rw [if_pos (zba h)]
  lia
  refine a0h (T:=a0H) rfl ?_
  lia
  refine a6O ⟨by decide,by decide,by decide⟩ ?_
  lia
  refine ⟨rfl,b,_,c2,rfl,by rw [e40];decide +kernel,b7U,zab,hc2,fun u c3 u0 u1 hc3=>?_⟩
  rw [zac]
  rw [e40] at u1
  lia
  refine hK _ c3 ?_ hc3
  have:=b0O u0 u1
  omega
 rw [if_neg (by rw [zah];exact h)]
 lia
 by_cases h:v=3
 ·rw [if_pos (zba h)]
  lia
  refine a0h (T:=a0H) rfl ?_
  lia
  refine a6O ⟨by decide,by decide,by decide⟩ ?_
  lia
  refine ⟨rfl,b,_,c2,rfl,by rw [e40];decide +kernel,b7U,zab,hc2,fun u c3 u0 u1 hc3=>?_⟩
  rw [zac]
  rw [e40] at u1
  exact hK _ c3 (b0O u0 u1) hc3
 rw [if_neg (by rw [zah];exact h)]
 lia
 refine a0h (T:=a0H) rfl ?_
 lia
 refine a6O ⟨by decide,by decide,by decide⟩ ?_
 lia
 rw [e9]
 refine ⟨rfl,b,_,c2,rfl,by decide,by decide +kernel,zab,hc2,fun u c3 u0 u1 hc3=>?_⟩
 rw [zac]
 exact hK _ c3 (b4z (by omega) (by omega)) hc3
 ) only [↓Qt.put_off]
theorem b0i {u:Int} (h0:0≤u) (h1:u < 9):∃ z,atI [D.str "open",.str "shut",.str "",.str "Open",.str "shut ",.str "opens",.str "ope",.str "aopen",.str "shutshut"] u=some (.str z)∧TxOk 40 z:=by
 have key:∀ k:Fin 9,(∀ c∈((["open", "shut", "", "Open", "shut ", "opens", "ope", "aopen", "shutshut"]:List Str)[k.1]'k.2).cps.toList,c < 128)∧((["open", "shut", "", "Open", "shut ", "opens", "ope", "aopen", "shutshut"]:List Str)[k.1]'k.2).length≤40:=by decide +kernel
 obtain ⟨k,rfl⟩:=Int.eq_ofNat_of_zero_le h0
 have hk:k < 9:=by omega
 refine ⟨_,?_,key ⟨k,hk⟩⟩
 exact a5T (f:=D.str) (l:=["open", "shut", "", "Open", "shut ", "opens", "ope", "aopen", "shutshut"]) (zbc (show k < 9 from hk))
theorem b7z {u:Int} (h0:0≤u) (h1:u < 2):∃ z,atI [D.str "open",.str "shut"] u=some (.str z)∧TxOk 10 z:=by
 obtain rfl | rfl:u=0∨u=1:=by omega
 ·exact ⟨"open",rfl,by decide +kernel,by decide⟩
 ·exact ⟨"shut",rfl,by decide +kernel,by decide⟩
theorem b8S (c:SaysX fa fn fx K):Meets ((tb K).sn N10) ((tb K).G K 10) 1 false a2H b10:=by
 refine Qt.put_in ?_
 simp (disch :=
 with_unfolding_all
 refine Qt.keep ?_
 rintro m hm ds S KK Y ⟨rfl,b,cb,rfl,hb,hc,hK⟩
 refine ⟨rfl,?_⟩
 show a0f _ b10 [some _,none,none,none,none,none] _ _ _
 unfold b10
 lia
 refine a0h (T:=a0H) rfl ?_
 lia
 refine ⟨rfl,b,6,cb,rfl,by decide,by decide,hb,hc,fun v c2 v0 v1 hc2=>?_⟩
 lia
 by_cases h:v=0
 ·rw [if_pos (zba h)]
  lia
  refine a0h (T:=a0H) rfl ?_
  lia
  refine ⟨rfl,b,9,c2,rfl,by decide,by decide,zab,hc2,fun u c3 u0 u1 hc3=>?_⟩
  rw [zac]
  obtain ⟨z,ez,tz⟩:=b0i u0 u1
  exact a3P ez (hK z c3 tz hc3)
 rw [if_neg (by rw [zah];exact h)]
 lia
 refine a3G (fun δ' S'=>∃ z c3,TxOk 10 z∧a0M c3∧S'=S.set b c3∧∃ x,δ'=[some (.obj b),some (.int v),some (.str "abcdefghijklmnopqrstuvwxyz"),some (.str z),none,x]) ?_ ?_
 ·lia
  by_cases h1:v=1
  ·rw [if_pos (zba h1)]
   lia
   refine a0h (T:=a0H) rfl ?_
   lia
   refine ⟨rfl,b,2,c2,rfl,by decide,by decide,zab,hc2,fun u c3 u0 u1 hc3=>?_⟩
   rw [zac]
   obtain ⟨z,ez,tz⟩:=b7z u0 u1
   refine a3P ez ?_
   lia
   exact ⟨z,c3,tz,hc3,rfl,_,rfl⟩
  ·rw [if_neg (by rw [zah];exact h1)]
   lia
   refine a0h (T:=a0H) rfl ?_
   lia
   refine ⟨rfl,b,11,c2,rfl,by decide,by decide,zab,hc2,fun k c3 k0 k1 hc3=>?_⟩
   rw [zac]
   lia
   have bd:=bnd (j:=k) (by omega) (by omega)
   refine ⟨bd.1,bd.2,?_⟩
   refine a8D (P:=b7T) zab hc3 (by rw [a1b,zai];omega) (fun _=>trivial) (fun p i acc d S0 c4 K1 hd hb0 hc4 hk=>?_) fun ys c4 hlen hP hc4=>?_
   ·refine b0u ?_
    lia
    refine a0h (T:=a0H) rfl ?_
    lia
    refine ⟨rfl,b,26,c4,rfl,by decide,by decide,hb0,hc4,fun u c5 u0 u1 hc5=>?_⟩
    obtain ⟨ch,ech,hch⟩:=b1U u0 u1
    exact b7Q (by decide +kernel) ech (hk _ c5 ⟨ch,rfl,hch⟩ hc5)
   ·rw [zac]
    obtain ⟨cs,rfl,hl,hcs⟩:=a6C ys hP
    rw [a1b,← hl] at hlen
    lia
    refine b1Q ?_ ?_
    ·have e:∀ cs:List Nat,((cs.map fun ch=>(⟨#[ch]⟩:Str)).map (·.length)).sum=cs.length:=by
      intro cs
      induction cs with
      | nil=>rfl
      | cons a r ih=>rw [zav,zav,List.sum_cons,ih,zaw];show 1 + _=_;omega
     rw [e]
     have:("" : Str).length=0:=rfl
     rw [this]
     omega
    ·rw [a6u]
     lia
     refine ⟨_,c4,⟨?_,?_⟩,hc4,rfl,_,rfl⟩
     ·show ∀ c∈cs.toArray.toList,_
      rw [List.toList_toArray]
      exact fun c hc=>by have:=hcs c hc;omega
     ·show cs.toArray.size≤10
      rw [List.size_toArray];omega
 ·rintro δ' S' ⟨z,c3,tz,hc3,rfl,x,rfl⟩
  have lz:=tz.2
  lia
  refine a0h (T:=a0H) rfl ?_
  lia
  refine a72 (by rw [zai];omega) ?_
  lia
  refine ⟨rfl,b,_,c3,rfl,by omega,b7V (by omega) (by omega),zab,hc3,fun at_ c4 a0 a1 hc4=>?_⟩
  rw [zac]
  have tx1:=a5Y tz none (some at_)
  have tx2:=a5Y tz (some at_) none
  have tx3:=a5Y tz (some (at_ + 1)) none
  lia
  by_cases h3:v=2
  ·rw [if_pos (zba h3)]
   rw [if_pos rfl]
   lia
   refine b0s (by rw [zai];omega) ?_
   lia
   refine a0h (T:=a1P) rfl ?_
   lia
   refine ⟨rfl,b,c4,rfl,zab,hc4,fun y c5 ty hc5=>?_⟩
   rw [zac]
   refine a2b (by have:=tx1.2;have:=ty.2;rw [zai];omega) ?_
   lia
   refine b0s (by rw [zai];omega) ?_
   lia
   have t1:=a2v tx1 ty
   refine a2b (by have:=t1.2;have:=tx3.2;rw [zai];omega) ?_
   exact hK _ c5 (a3a (a2v t1 tx3) (by decide)) hc5
  rw [if_neg (by rw [zah];exact h3)]
  lia
  by_cases h4:v=1
  ·rw [if_pos (zba h4)]
   lia
   refine b0s (by rw [zai];omega) ?_
   lia
   refine a0h (T:=a1P) rfl ?_
   lia
   refine ⟨rfl,b,c4,rfl,zab,hc4,fun y c5 ty hc5=>?_⟩
   rw [zac]
   refine a2b (by have:=tx1.2;have:=ty.2;rw [zai];omega) ?_
   lia
   refine b0s (by rw [zai];omega) ?_
   lia
   have t1:=a2v tx1 ty
   refine a2b (by have:=t1.2;have:=tx3.2;rw [zai];omega) ?_
   exact hK _ c5 (a3a (a2v t1 tx3) (by decide)) hc5
  rw [if_neg (by rw [zah];exact h4)]
  lia
  by_cases h5:v=3
  ·rw [if_pos (zba h5)]
   lia
   refine b0s (by rw [zai];omega) ?_
   lia
   refine a0h (T:=a1P) rfl ?_
   lia
   refine ⟨rfl,b,c4,rfl,zab,hc4,fun y c5 ty hc5=>?_⟩
   rw [zac]
   refine a2b (by have:=tx1.2;have:=ty.2;rw [zai];omega) ?_
   lia
   refine b0s (by rw [zai];omega) ?_
   lia
   have t1:=a2v tx1 ty
   refine a2b (by have:=t1.2;have:=tx2.2;rw [zai];omega) ?_
   exact hK _ c5 (a3a (a2v t1 tx2) (by decide)) hc5
  rw [if_neg (by rw [zah];exact h5)]
  lia
  exact hK _ c4 (a3a tz (by decide)) hc4
 ) only [↓Qt.put_off]
variable {K:zbd}
def Fv (z:Str):Prop:=∀ c∈z.cps.toList,c < 1114112
instance (z:Str):Decidable (Fv z):=by unfold Fv;infer_instance
theorem a6m {z:Str} (h:Fv z):fine z=true:=by
 unfold fine PyData.strOk
 rw [← Array.all_toList,List.all_eq_true]
 exact fun c hc=>zba (h c hc)
theorem a1p {a b:Str} (h:Fv a) (k:Fv b):Fv (a ++ b):=fun c hc=>by
 have hc:c∈TL.tl (a ++ b):=hc
 rw [TL.tl_append] at hc
 exact (zap.mp hc).elim (h c) (k c)
theorem a9o (s:String):Fv (Str.ofString s):=fun c hc=>by
 have e:(Str.ofString s).cps.toList=s.toList.map Char.toNat:=PyProof.Rows.signs_ofString s
 rw [e] at hc
 obtain ⟨d,_,rfl⟩:=zan.mp hc
 have:=d.valid
 show d.val.toNat < _
 rcases this with h | ⟨_,h⟩
 ·have h:d.val.toNat < 55296:=h
  omega
 ·exact h
theorem rch:∀ q∈[34,39],∀ c < 128,∀ d∈Builtin.Str.reprChar q c,d < 1114112:=by decide +kernel
theorem a6k (q:Nat) (hq:q∈[34,39]):∀ (l:List Nat) (acc:Array Nat),(∀ c∈l,c < 128)→(∀ c∈acc.toList,c < 1114112)→∀ c∈(l.foldl (fun out c=>out ++ (Builtin.Str.reprChar q c).toArray) acc).toList,c < 1114112
 | [],acc,_,h,c,hc=>h c hc
 | d :: l,acc,hl,h,c,hc=>by
  refine a6k q hq l (acc ++ (Builtin.Str.reprChar q d).toArray) (fun e he=>hl e (zao _ he)) (fun e he=>?_) c hc
  rw [Array.toList_append,List.toList_toArray] at he
  rcases zap.mp he with he | he
  ·exact h e he
  ·exact rch q hq d (hl d zal) e he
theorem a5a (z:Str):reprQuote z∈[34,39]:=by
 unfold reprQuote
 split <;> decide
theorem a9p {z:Str} (h:∀ c∈z.cps.toList,c < 128):Fv (reprText z):=fun c hc=>by
 unfold reprText at hc
 have hc:c∈((z.cps.foldl (fun out c=>out ++ (Builtin.Str.reprChar (reprQuote z) c).toArray) #[reprQuote z]).push (reprQuote z)).toList:=hc
 have q:reprQuote z < 1114112:=by
  have:=a5a z
  simp only [zat,zax,or_false] at this
  omega
 rw [Array.toList_push,← Array.foldl_toList] at hc
 rcases zap.mp hc with hc | hc
 ·exact a6k _ (a5a z) _ _ h (fun e he=>by
   have he:e∈[reprQuote z]:=he
   rw [zaj.mp he];exact q) c hc
 ·rw [zaj.mp hc];exact q
structure a4s (n b:Nat) (d:D) (q:PyData):Prop where
 e:pdE d=some q
 s:q.showable=true
 l:q.leavesShort 43=true
 d:q.depth≤n
 b:q.bulk≤b
 f:Fv q.shown
theorem a4s.shows {n b:Nat} {d:D} {q:PyData} (h:a4s n b d q) (hn:n≤20) (hb:b≤1000):a4t q:=by
 refine ⟨h.s,?_,Nat.le_trans h.d hn⟩
 have:=PyData.shown_le_bulk 43 (by decide) q h.l
 have:=h.b
 rw [zai]
 omega
theorem a4s.th {n b:Nat} {d:D} {q:PyData} (h:a4s n b d q) (hn:n≤20) (hb:b≤1000) (no:∀ z,d=.str z→TxOk 40 z):a7t K d:=.inl ⟨q,h.e,h.shows hn hb,a6m h.f,no⟩
theorem a8J {i:Int} (h:i.natAbs < 10 ^ 41):a4s 0 0 (.int i) (.int i):=by
 refine ⟨rfl,?_,?_,Nat.le_refl _,Nat.le_refl _,?_⟩
 ·simp only [PyData.showable,zah]
  exact log2_small (Nat.lt_of_lt_of_le (Nat.lt_trans h (by decide +kernel:10 ^ 41 < 2 ^ 140)) (Nat.pow_le_pow_right (by decide) (by decide)))
 ·simp only [PyData.leavesShort,zah]
  rw [PyData.shown_int]
  have:=PySem.int_text_length_le10 (a:=i) (k:=41) (by decide) h
  rw [PySem.ofString_length]
  omega
 ·rw [PyData.shown_int]
  exact a9o _
theorem a8K {z:Str} (h:TxOk 40 z):a4s 0 40 (.str z) (.str z):=by
 refine ⟨rfl,by simp [PyData.showable],?_,Nat.le_refl _,?_,?_⟩
 ·simp only [PyData.leavesShort]
  rw [List.all_eq_true]
  exact fun c hc=>zba (by have:=h.1 c hc;omega)
 ·have e:z.length=z.cps.size:=rfl
  simp only [PyData.bulk]
  have:=h.2
  omega
 ·rw [PyData.shown_str]
  exact a9p h.1
theorem a9n {q:PyData} (h:Fv q.shown):Fv (PyData.list [q]).shown:=by
 simp only [PyData.shown,PyData.shownAll,listText_eq_join]
 exact a1p (a1p (by decide +kernel) h) (by decide +kernel)
theorem b1C {q:PyData} (h:Fv q.shown):Fv (PyData.tuple [q]).shown:=by
 simp only [PyData.shown,PyData.shownAll]
 unfold tupleText
 exact a1p (a1p (by decide +kernel) h) (a9o _)
theorem b1B {q:PyData} (h:Fv q.shown):Fv (PyData.dict [(.str "a",q)]).shown:=by
 simp only [PyData.shown,PyData.shownKv]
 unfold dictText
 exact a1p (a1p (by decide +kernel) (a1p (a1p (by decide +kernel) (by decide +kernel)) h)) (by decide +kernel)
theorem a4j {n b:Nat} {d:D} {q:PyData} (h:a4s n b d q):a4s (n + 1) (b + 1) (.lst [d]) (.list [q]):=by
 refine ⟨by simp only [pdE,a9Y,h.e,Option.map_some],?_,?_,?_,?_,a9n h.f⟩
 ·simp only [PyData.showable,PyData.showableAll,h.s];rfl
 ·simp only [PyData.leavesShort,PyData.leavesShortAll,h.l];rfl
 ·simp only [PyData.depth,PyData.depthAll];have:=h.d;omega
 ·simp only [PyData.bulk,PyData.bulkAll];have:=h.b;omega
theorem b2D {n b:Nat} {d:D} {q:PyData} (h:a4s n b d q):a4s (n + 1) (b + 1) (.tup [d]) (.tuple [q]):=by
 refine ⟨by simp only [pdE,a9Y,h.e,Option.map_some],?_,?_,?_,?_,b1C h.f⟩
 ·simp only [PyData.showable,PyData.showableAll,h.s];rfl
 ·simp only [PyData.leavesShort,PyData.leavesShortAll,h.l];rfl
 ·simp only [PyData.depth,PyData.depthAll];have:=h.d;omega
 ·simp only [PyData.bulk,PyData.bulkAll];have:=h.b;omega
theorem b2C {n b:Nat} {d:D} {q:PyData} (h:a4s n b d q):a4s (n + 1) (b + 3) (.dic [(.inr "a",d)]) (.dict [(.str "a",q)]):=by
 refine ⟨by simp only [pdE,b2g,h.e,Option.map_some,a5x],?_,?_,?_,?_,b1B h.f⟩
 ·simp only [PyData.showable,PyData.showableKv,h.s];rfl
 ·simp only [PyData.leavesShort,PyData.leavesShortKv,h.l];decide +kernel
 ·simp only [PyData.depth,PyData.depthKv];have:=h.d;omega
 ·have e:(PyData.str "a").bulk=1:=by decide +kernel
  simp only [PyData.bulk,PyData.bulkKv] at e ⊢;have:=h.b;omega
theorem a5D {d:D} {q:PyData} (e:pdE d=some q) (h:q.showable=true∧q.leavesShort 43=true∧q.depth≤1∧q.bulk≤0∧Fv q.shown):a4s 1 0 d q:=⟨e,h.1,h.2.1,h.2.2.1,h.2.2.2.1,h.2.2.2.2⟩
theorem b8U (c:SaysX fa fn fx K):Meets ((tb K).sn N12) ((tb K).G K 12) 1 false (a2I K) b12:=by
 refine Qt.put_in ?_
 simp (disch :=
 with_unfolding_all
 refine Qt.keep ?_
 rintro m hm ds S KK Y ⟨rfl,b,cb,rfl,hb,hc,hK⟩
 refine ⟨rfl,?_⟩
 show a0f _ b12 [some _,none,none,none] _ _ _
 unfold b12
 have other:∀ {x:D} {c':Cell},kdB x = "other" → a7t K x→a0M c'→KK (.tup [.str "other",x]) (S.set b c'):=fun {x c'} e h hc=>hK _ c' ⟨x,by rw [e],h⟩ hc
 lia
 refine a0h (T:=a0H) rfl ?_
 lia
 refine ⟨rfl,b,8,cb,rfl,by decide,by decide,hb,hc,fun v c2 v0 v1 hc2=>?_⟩
 lia
 by_cases h:v < 3
 ·rw [if_pos (zba h)]
  lia
  refine a0h (T:=a4v) rfl ?_
  lia
  refine ⟨rfl,b,c2,rfl,zab,hc2,fun i c3 hi hc3=>?_⟩
  rw [zac]
  lia
  exact hK _ c3 ⟨.int i,rfl,(a8J hi).th (by decide) (by decide) (fun z e=>nomatch e)⟩ hc3
 rw [if_neg (by rw [zah];exact h)]
 lia
 by_cases h:v < 6
 ·rw [if_pos (zba h)]
  lia
  refine a0h (T:=a2H) rfl ?_
  lia
  refine ⟨rfl,b,c2,rfl,zab,hc2,fun z c3 hz hc3=>?_⟩
  rw [zac]
  lia
  exact hK _ c3 ⟨.str z,rfl,(a8K hz).th (by decide) (by decide) (fun y e=>by cases e;exact hz)⟩ hc3
 rw [if_neg (by rw [zah];exact h)]
 lia
 by_cases h:v=6
 ·rw [if_pos (zba h)]
  lia
  refine a0h (T:=a0H) rfl ?_
  lia
  refine ⟨rfl,b,3,c2,rfl,by decide,by decide,zab,hc2,fun u c3 u0 u1 hc3=>?_⟩
  rw [zac]
  obtain rfl | rfl | rfl:u=0∨u=1∨u=2:=by omega
  ·refine a3P (d:=.non) rfl ?_
   lia
   exact other rfl ((a5D rfl (by decide +kernel)).th (by decide) (by decide) (fun z e=>nomatch e)) hc3
  ·refine a3P (d:=.bl true) rfl ?_
   lia
   exact other rfl ((a5D rfl (by decide +kernel)).th (by decide) (by decide) (fun z e=>nomatch e)) hc3
  ·refine a3P (d:=.bl false) rfl ?_
   lia
   exact other rfl ((a5D rfl (by decide +kernel)).th (by decide) (by decide) (fun z e=>nomatch e)) hc3
 rw [if_neg (by rw [zah];exact h)]
 lia
 refine a0h (T:=a0H) rfl ?_
 lia
 refine ⟨rfl,b,8,c2,rfl,by decide,by decide,zab,hc2,fun how c3 how0 how1 hc3=>?_⟩
 rw [zac]
 lia
 refine a3G (fun δ' S'=>∃ x q c4,a4s 0 40 x q∧a0M c4∧S'=S.set b c4∧δ'=[some (.obj b),some (.int v),some (.int how),some x]) ?_ ?_
 ·lia
  refine a0h (T:=a0H) rfl ?_
  lia
  refine ⟨rfl,b,2,c3,rfl,by decide,by decide,zab,hc3,fun u c4 u0 u1 hc4=>?_⟩
  rw [zac]
  lia
  by_cases hu:u=0
  ·rw [if_pos (zba hu)]
   lia
   refine a0h (T:=a4v) rfl ?_
   lia
   refine ⟨rfl,b,c4,rfl,zab,hc4,fun i c5 hi hc5=>?_⟩
   rw [zac]
   lia
   have s:=a8J hi
   exact ⟨.int i,_,c5,⟨s.e,s.s,s.l,s.d,Nat.le_trans s.b (by decide),s.f⟩,hc5,rfl,rfl⟩
  ·rw [if_neg (by rw [zah];exact hu)]
   lia
   refine a0h (T:=a2H) rfl ?_
   lia
   refine ⟨rfl,b,c4,rfl,zab,hc4,fun z c5 hz hc5=>?_⟩
   rw [zac]
   lia
   exact ⟨.str z,_,c5,a8K hz,hc5,rfl,rfl⟩
 ·rintro δ' S' ⟨x,q,c4,sx,hc4,rfl,rfl⟩
  lia
  refine b0Z fun p fp=>?_
  lia
  refine ⟨zab,[(.inr "a",x)],rfl,by show 1≤15;decide,?_⟩
  rw [if_neg zaz,zaf fp]
  lia
  refine b00 ?_
  lia
  refine b41 (a86 (c.d.fact 43 (f:=.exc "NoRow") rfl)) fun a=>?_
  lia
  obtain rfl | rfl | rfl | rfl | rfl | rfl | rfl | rfl:how=0∨how=1∨how=2∨how=3∨how=4∨how=5∨how=6∨how=7:=by omega
  ·refine a3P (d:=.lst [x]) rfl ?_
   lia
   exact other rfl ((a4j sx).th (by decide) (by decide) (fun z e=>nomatch e)) hc4
  ·refine a3P (d:=.tup [x]) rfl ?_
   lia
   exact other rfl ((b2D sx).th (by decide) (by decide) (fun z e=>nomatch e)) hc4
  ·refine a3P (d:=.dic [(.inr "a",x)]) rfl ?_
   lia
   exact other rfl ((b2C sx).th (by decide) (by decide) (fun z e=>nomatch e)) hc4
  ·refine a3P (d:=.lst []) rfl ?_
   lia
   exact other rfl ((a5D (d:=.lst []) rfl (by decide +kernel)).th (by decide) (by decide) (fun z e=>nomatch e)) hc4
  ·refine a3P (d:=.tup []) rfl ?_
   lia
   exact other rfl ((a5D (d:=.tup []) rfl (by decide +kernel)).th (by decide) (by decide) (fun z e=>nomatch e)) hc4
  ·refine a3P (d:=.dic []) rfl ?_
   lia
   exact other rfl ((a5D (d:=.dic []) rfl (by decide +kernel)).th (by decide) (by decide) (fun z e=>nomatch e)) hc4
  ·refine a3P (d:=.lst [.lst [x]]) rfl ?_
   lia
   exact other rfl ((a4j (a4j sx)).th (by decide) (by decide) (fun z e=>nomatch e)) hc4
  ·refine a3P (d:=.err a (He.ga K "NoRow") [] true) rfl ?_
   lia
   exact other rfl (.inr ⟨a,rfl⟩) hc4
 ) only [↓Qt.put_off]
end Cl
local macro_rules | `(tactic| ac_nf)=>`(tactic| (repeat (first | (rw [if_pos (by decide +kernel)];lia) | (rw [if_neg (by decide +kernel)];lia))))
namespace Cl
open PySem PySem.Spec PyProof.Rows L2 Sv
variable {K:zbd}
theorem me5 (c:SaysX fa fn fx K):Meets ((tb K).sn N5) ((tb K).G K 5) 2 false (a4u K) b5:=by
 refine Qt.put_in ?_
 simp (disch :=
 with_unfolding_all
 refine Qt.keep ?_
 rintro m hm ds S KK Y ⟨rfl,x,rfl,hx,hK⟩
 refine ⟨rfl,?_⟩
 show a0f _ b5 [some _,some _,none,none,none,none,none] _ _ _
 unfold b5
 by_cases hi:∃ i,x=.int i
 ·obtain ⟨i,rfl⟩:=hi
  rw [show kdB (.int i) = "whole" from rfl]
  have wh:a1k (.int i):=⟨i,rfl⟩
  have nn:¬ NmP (.int i):=fun ⟨_,e,_⟩=>nomatch e
  have np:¬ a8x (.int i):=fun ⟨_,e,_⟩=>nomatch e
  have ci:a2F (.int i)↔(0≤i∧i≤99):=⟨fun ⟨j,e,h⟩=>by cases e;exact h,fun h=>⟨i,rfl,h⟩⟩
  have ti:a2J (.int i)↔(0≤i∧i≤1000000000):=⟨fun ⟨j,e,h⟩=>by cases e;exact h,fun h=>⟨i,rfl,h⟩⟩
  lia
  rw [if_neg (by decide)]
  lia
  rw [if_neg (by decide)]
  lia
  have fin:∀ c t:Bool,(c=true↔a2F (.int i))→(t=true↔a2J (.int i))→KK (.lst [.bl (decide (("whole" : Str) = "whole")),.bl (decide (("whole" : Str) = "text")),.bl c,.bl t,.bl (decide (("whole" : Str) = "text"))]) S:=fun c t hc ht=>hK _ _ _ _ _ ⟨⟨fun _=>wh,fun _=>by decide⟩,⟨fun h=>absurd h (by decide),fun h=>absurd h nn⟩,hc,ht,⟨fun h=>absurd h (by decide),fun h=>absurd h np⟩⟩
  rw [if_pos (by decide)]
  lia
  by_cases i0:(0:Int)≤i
  ·rw [if_pos (zba i0)]
   lia
   rw [if_pos (by decide)]
   lia
   rw [if_pos (zba i0)]
   lia
   refine a6O ⟨by decide,by decide,by decide⟩ ?_
   lia
   refine fin _ _ ?_ ?_
   ·rw [zah,ci];exact ⟨fun h=>⟨i0,h⟩,fun h=>h.2⟩
   ·rw [zah,ti,e9];exact ⟨fun h=>⟨i0,h⟩,fun h=>h.2⟩
  ·rw [if_neg (by rw [zah];exact i0)]
   lia
   rw [if_pos (by decide)]
   lia
   rw [if_neg (by rw [zah];exact i0)]
   lia
   refine fin _ _ ?_ ?_
   ·exact fal fun h=>i0 (ci.mp h).1
   ·exact fal fun h=>i0 (ti.mp h).1
 by_cases hs:∃ z,x=.str z
 ·obtain ⟨z,rfl⟩:=hs
  rw [show kdB (.str z) = "text" from rfl]
  have tz:=b3k hx
  have lz:=tz.2
  have nw:¬ a1k (.str z):=fun ⟨_,e⟩=>nomatch e
  have nc:¬ a2F (.str z):=fun ⟨_,e,_⟩=>nomatch e
  have nt:¬ a2J (.str z):=fun ⟨_,e,_⟩=>nomatch e
  have pz:a8x (.str z)↔(z = "open" ∨ z = "shut"):=⟨fun ⟨y,e,h⟩=>by cases e;exact h,fun h=>⟨z,rfl,h⟩⟩
  have el:z.length=z.cps.toList.length:=by rw [Array.length_toList];rfl
  lia
  rw [if_pos (by decide)]
  lia
  have fin:∀ n:Bool,(n=true↔NmP (.str z))→KK (.lst [.bl (decide (("text" : Str) = "whole")),.bl n,.bl (decide (("text" : Str) = "whole")),.bl (decide (("text" : Str) = "whole")),.bl (decide (z∈(["open", "shut"]:List Str)))]) S:=fun n hn=>hK _ _ _ _ _ ⟨⟨fun h=>absurd h (by decide),fun h=>absurd h nw⟩,hn,⟨fun h=>absurd h (by decide),fun h=>absurd h nc⟩,⟨fun h=>absurd h (by decide),fun h=>absurd h nt⟩,by rw [zah,pz];simp⟩
  have no:¬ Nm z→¬ NmP (.str z):=fun h ⟨y,e,hy⟩=>by cases e;exact h hy
  refine a72 (by rw [zai];omega) ?_
  lia
  by_cases h1:(1:Int)≤(z.length:Int)
  ·rw [if_pos (zba h1)]
   lia
   by_cases h2:(z.length:Int)≤8
   ·rw [if_pos (zba h2)]
    lia
    refine a7Z (fun d=>d) offB (by unfold a0U;rw [zag,zai];omega) (fun _ _ _=>trivial) ?_ ?_
    ·intro p i acc d KK2 KN hd hp h1 h2
     unfold a0U at hd
     rw [zbb,zam] at hd
     obtain ⟨ch,hc,rfl⟩:=hd
     refine b0u ?_
     refine b8u ?_
     lia
     have e:offB (.str ⟨#[ch]⟩)=!decide (ch∈("abcdefghijklmnopqrstuvwxyz" : Str).cps.toList):=by
      show (!((decide (97≤ch) && decide (ch≤122)) && true))=_
      rw [Bool.and_true]
      congr 1
      rw [Bool.eq_iff_iff,zak,zah,zah,zah,a1Z]
     rw [← e]
     by_cases h:offB (.str ⟨#[ch]⟩)=true
     ·rw [if_pos h]
      lia
      exact h1 h
     ·rw [if_neg h]
      rw [Bool.not_eq_true] at h
      exact h2 h
    lia
    refine eq_nil ?_
    lia
    rw [if_pos (by decide)]
    lia
    refine b3y (zs:=[("open" : Str), "shut"]) ?_
    lia
    rw [if_neg (by decide)]
    lia
    rw [if_neg (by decide)]
    lia
    refine fin _ ?_
    rw [List.map_id',filter_nil]
    unfold a0U
    constructor
    ·intro h
     refine ⟨z,rfl,by omega,by omega,fun ch hc=>?_⟩
     have:=h _ (List.mem_map_of_mem hc)
     have:(!((decide (97≤ch) && decide (ch≤122)) && true))=false:=this
     rw [Bool.not_eq_false',Bool.and_true,zak,zah,zah] at this
     exact this
    ·rintro ⟨y,e,_,_,h⟩ d hd
     cases e
     obtain ⟨ch,hc,rfl⟩:=zan.mp hd
     show (!((decide (97≤ch) && decide (ch≤122)) && true))=false
     rw [Bool.not_eq_false',Bool.and_true,zak,zah,zah]
     exact h ch hc
   ·rw [if_neg (by rw [zah];exact h2)]
    lia
    rw [if_pos (by decide)]
    lia
    refine b3y (zs:=[("open" : Str), "shut"]) ?_
    lia
    rw [if_neg (by decide)]
    lia
    rw [if_neg (by decide)]
    lia
    refine fin _ ?_
    rw [zah]
    exact ⟨fun h=>absurd h h2,fun h=>absurd h (no fun h=>by have:=h.1;omega)⟩
  ·rw [if_neg (by rw [zah];exact h1)]
   lia
   rw [if_neg (by decide)]
   lia
   rw [if_pos (by decide)]
   lia
   refine b3y (zs:=[("open" : Str), "shut"]) ?_
   lia
   rw [if_neg (by decide)]
   lia
   rw [if_neg (by decide)]
   lia
   refine fin _ ?_
   exact fal (no fun h=>by have:=h.2.1;omega)
 ·have ek:kdB x = "other" := by
   cases x <;> first | rfl | exact absurd ⟨_,rfl⟩ hi | exact absurd ⟨_,rfl⟩ hs
  rw [ek]
  have nw:¬ a1k x:=fun ⟨_,e⟩=>hi ⟨_,e⟩
  have nn:¬ NmP x:=fun ⟨_,e,_⟩=>hs ⟨_,e⟩
  have nc:¬ a2F x:=fun ⟨_,e,_⟩=>hi ⟨_,e⟩
  have nt:¬ a2J x:=fun ⟨_,e,_⟩=>hi ⟨_,e⟩
  have np:¬ a8x x:=fun ⟨_,e,_⟩=>hs ⟨_,e⟩
  lia
  rw [if_neg (by decide)]
  lia
  rw [if_neg (by decide)]
  lia
  rw [if_neg (by decide)]
  lia
  rw [if_neg (by decide)]
  lia
  exact hK _ _ _ _ _ ⟨⟨fun h=>absurd h (by decide),fun h=>absurd h nw⟩,⟨fun h=>absurd h (by decide),fun h=>absurd h nn⟩,⟨fun h=>absurd h (by decide),fun h=>absurd h nc⟩,⟨fun h=>absurd h (by decide),fun h=>absurd h nt⟩,⟨fun h=>absurd h (by decide),fun h=>absurd h np⟩⟩
 ) only [↓Qt.put_off]
theorem a2j {P:Prop} {a b:Bool} (h:a=true↔P) (k:b=true↔P):a=b:=by
 rw [Bool.eq_iff_iff]
 exact h.trans k.symm
theorem b8T (c:SaysX fa fn fx K):Meets ((tb K).sn N11) ((tb K).G K 11) 2 false (a2G K) b11:=by
 refine Qt.put_in ?_
 simp (disch :=
 with_unfolding_all
 refine Qt.keep ?_
 rintro m hm ds S KK Y ⟨rfl,x,i,w,n,c1,t,p,rfl,h0,h1,hx,due,hK⟩
 refine ⟨rfl,?_⟩
 show a0f _ b11 [some _,some _] _ _ _
 unfold b11
 obtain rfl | rfl | rfl | rfl | rfl:i=0∨i=1∨i=2∨i=3∨i=4:=by omega
 ·lia
  ac_nf
  refine a0h (T:=a3e K a1k) rfl ?_
  lia
  exact ⟨rfl,x,rfl,hx,fun k hk=>hK k (by rw [a2j hk due.w];rfl)⟩
 ·lia
  ac_nf
  refine a0h (T:=a3e K NmP) rfl ?_
  lia
  exact ⟨rfl,x,rfl,hx,fun k hk=>hK k (by rw [a2j hk due.n];rfl)⟩
 ·lia
  ac_nf
  refine a0h (T:=a3e K a2F) rfl ?_
  lia
  exact ⟨rfl,x,rfl,hx,fun k hk=>hK k (by rw [a2j hk due.c];rfl)⟩
 ·lia
  ac_nf
  refine a0h (T:=a3e K a2J) rfl ?_
  lia
  exact ⟨rfl,x,rfl,hx,fun k hk=>hK k (by rw [a2j hk due.t];rfl)⟩
 ·lia
  ac_nf
  refine a0h (T:=a3e K a8x) rfl ?_
  lia
  exact ⟨rfl,x,rfl,hx,fun k hk=>hK k (by rw [a2j hk due.p];rfl)⟩
 ) only [↓Qt.put_off]
theorem b8V (c:SaysX fa fn fx K):Meets ((tb K).sn N13) ((tb K).G K 13) 4 false (a1L K) b13:=by
 refine Qt.put_in ?_
 simp (disch :=
 with_unfolding_all
 refine Qt.keep ?_
 rintro m hm ds S KK Y ⟨rfl,x,f,s,w,n,c1,t,p,rfl,f0,f1,s0,s1,hx,due,hK⟩
 refine ⟨rfl,?_⟩
 show a0f _ b13 [some _,some _,some _,some _,none,none,none] _ _ _
 unfold b13
 lia
 refine ⟨by decide,by decide,?_⟩
 refine ⟨fun i δ' S'=>S'=S∧∃ a b d,δ'=[some x,some (.lst [.bl w,.bl n,.bl c1,.bl t,.bl p]),some (.int f),some (.int s),a,b,d],⟨rfl,none,none,none,rfl⟩,fun _ _ _ _ _=>trivial,?_,?_⟩
 ·rintro i d0 δ' S' hd ⟨rfl,a,b,d,rfl⟩
  obtain ⟨hi,rfl⟩:=b2s hd
  have hi:i < 5:=hi
  refine b0u ?_
  lia
  refine a4b (.inl (.inl ⟨by omega,by omega⟩)) ?_
  lia
  refine a2Q (by decide) ?_
  lia
  have w0:0≤(f + s * (i:Int)) % 5:=Int.emod_nonneg _ (by decide)
  have w1:(f + s * (i:Int)) % 5 < 5:=Int.emod_lt_of_pos _ (by decide)
  generalize (f + s * (i:Int)) % 5=way at w0 w1 ⊢
  refine a0h (T:=a2G K) rfl ?_
  lia
  refine ⟨rfl,x,way,w,n,c1,t,p,rfl,w0,w1,hx,due,fun k hk=>?_⟩
  lia
  refine a6q (t:=.type "bool") rfl trivial (by first | rfl | kernel_rfl) ?_
  lia
  rw [if_neg (by decide)]
  lia
  refine a3P hk ?_
  refine b5B ?_
  lia
  rw [if_neg (by cases k <;> decide)]
  lia
  exact ⟨rfl,_,_,_,rfl⟩
 ·rintro δ' S' ⟨rfl,a,b,d,rfl⟩
  lia
  exact hK
 ) only [↓Qt.put_off]
def a1E (d:D):Str:=match d with
 | .tup [_,x]=>(match pdE x with
  | some q=>q.shown
  | none=>Str.ofString "NoRow" ++ "()")
 | _ => ""
theorem a6i {d:D} (h:b3t K d):fine (a1E d)=true:=by
 obtain ⟨x,rfl,⟨q,e,_,f,_⟩ | ⟨a,rfl⟩⟩:=h
 ·show fine (match pdE x with | some q=>q.shown | none=>Str.ofString "NoRow" ++ "()")=true
  rw [e]
  exact f
 ·exact a6m (a1p (a9o _) (by decide +kernel))
theorem b2t (c:SaysX fa fn fx K) {x:D} {S:SS} {KK:DK} (h:a7t K x) (k:KK (.str (a1E (.tup [.str (kdB x),x]))) S):a5B K x S KK:=by
 rcases h with ⟨q,e,sh,_,_⟩ | ⟨a,rfl⟩
 ·have et:a1E (.tup [.str (kdB x),x])=q.shown:=by
   show (match pdE x with | some q=>q.shown | none=>Str.ofString "NoRow" ++ "()")=_
   rw [e]
  rw [et] at k
  exact .inl (b5R e sh k)
 ·exact .inr ⟨a,_,_,rfl,b2u (c.fact 8 rfl),k⟩
theorem b8W (c:SaysX fa fn fx K):Meets ((tb K).sn N14) ((tb K).G K 14) 1 false (lawT 63) b14:=by
 refine Qt.put_in ?_
 simp (disch :=
 with_unfolding_all
 refine Qt.keep ?_
 rintro m hm ds S KK Y ⟨ns,hns,rfl,hS,hK⟩
 have hm0:m=none:=by cases m with | none=>rfl | some _=>cases hm
 subst hm0
 refine ⟨rfl,?_⟩
 show a0f _ b14 [some _,none,none,none,none,none,none] _ _ _
 unfold b14
 lia
 refine a0h (T:=b4n) rfl ?_
 lia
 refine ⟨rfl,ns,rfl,fun b cb fb hcb=>?_⟩
 lia
 refine a0h (T:=a0H) rfl ?_
 lia
 refine ⟨rfl,b,23,cb,rfl,by decide,by decide,zab,hcb,fun f c2 f0 f1 hc2=>?_⟩
 rw [zac]
 lia
 have bd:=bnd (j:=8 + f) (by omega) (by omega)
 refine ⟨bd.1,bd.2,?_⟩
 refine a8D (P:=b3t K) zab hc2 (by rw [a1b,zai];omega) (fun _=>trivial) (fun p i acc d S0 c3 K1 hd hb0 hc3 hk=>?_) fun ys c4 hlen hP hc4=>?_
 ·refine b0u ?_
  lia
  refine a0h (T:=a2I K) rfl ?_
  lia
  exact ⟨rfl,b,c3,rfl,hb0,hc3,fun d c5 hd hc5=>hk d c5 hd hc5⟩
 rw [zac]
 rw [a1b] at hlen
 have few:ys.length≤31:=by omega
 lia
 refine ⟨_,rfl,?_⟩
 refine a7Z (fun d=>D.str (a1E d)) (fun _=>true) (by rw [zai];omega) (fun _ _ _=>rfl) (fun p i acc d KK2 KN hd hp h1 h2=>?_) ?_
 ·obtain ⟨x,rfl,hx⟩:=hP d (zaq hd)
  refine ⟨_,rfl,rfl,b3w ?_⟩
  rw [if_pos rfl]
  lia
  exact b2t c hx (h1 rfl)
 rw [List.filter_eq_self.mpr (fun _ _=>rfl)]
 lia
 refine ⟨_,rfl,?_⟩
 refine ⟨fun i δ' S'=>∃ c',a0M c'∧S' b=some c'∧∃ x4 x5 x6,δ'=[some (.lst (ns.map .int)),some (.obj b),some (.lst ys),some (.lst (ys.map fun d=>D.str (a1E d))),x4,x5,x6],⟨c4,hc4,zab,_,_,_,rfl⟩,fun _ _ _ _ _=>rfl,?_,?_⟩
 ·rintro i d0 δ' S' hd ⟨c',hc',hb',x4,x5,x6,rfl⟩
  obtain ⟨x,rfl,hx⟩:=hP d0 (zaq hd)
  refine ⟨_,rfl,rfl,?_⟩
  lia
  refine a8M (T:=a1L K) rfl ?_
  lia
  refine a0h (T:=a4u K) rfl ?_
  lia
  refine ⟨rfl,x,rfl,hx,fun w n c1 t p due=>?_⟩
  lia
  refine a0h (T:=a0H) rfl ?_
  lia
  refine ⟨rfl,b,5,c',rfl,by decide,by decide,hb',hc',fun v c5 v0 v1 hc5=>?_⟩
  lia
  refine ⟨rfl,x,v,_,w,n,c1,t,p,rfl,v0,v1,by decide,by decide,hx,due,?_⟩
  lia
  rw [if_neg (by decide)]
  lia
  exact ⟨c5,hc5,zab,_,_,_,rfl⟩
 rintro δ' S' ⟨c',hc',hb',x4,x5,x6,rfl⟩
 lia
 refine ⟨_,rfl,?_⟩
 unfold outL
 rw [if_neg zaz]
 refine ⟨_,rfl,?_⟩
 refine ⟨fun i δ' S'=>∃ c',a0M c'∧S' b=some c'∧∃ x4 x5 x6,δ'=[some (.lst (ns.map .int)),some (.obj b),some (.lst ys),some (.lst (ys.map fun d=>D.str (a1E d))),x4,x5,x6],⟨c',hc',hb',_,_,_,rfl⟩,fun _ _ _ _ _=>rfl,?_,?_⟩
 ·rintro i d0 δ' S' hd ⟨c',hc',hb',x4,x5,x6,rfl⟩
  obtain ⟨x,rfl,hx⟩:=hP d0 (List.mem_reverse.mp (zaq hd))
  refine ⟨_,rfl,rfl,?_⟩
  lia
  refine a8M (T:=a1L K) rfl ?_
  lia
  refine a0h (T:=a4u K) rfl ?_
  lia
  refine ⟨rfl,x,rfl,hx,fun w n c1 t p due=>?_⟩
  lia
  refine a0h (T:=a0H) rfl ?_
  lia
  refine ⟨rfl,b,5,c',rfl,by decide,by decide,hb',hc',fun v c5 v0 v1 hc5=>?_⟩
  lia
  refine ⟨rfl,x,v,_,w,n,c1,t,p,rfl,v0,v1,by decide,by decide,hx,due,?_⟩
  lia
  rw [if_neg (by decide)]
  lia
  exact ⟨c5,hc5,zab,_,_,_,rfl⟩
 rintro δ' S' ⟨c',hc',hb',x4,x5,x6,rfl⟩
 lia
 refine ⟨_,rfl,?_⟩
 refine a7Z (fun d=>D.str (a1E d)) (fun _=>true) (by rw [zai];omega) (fun _ _ _=>rfl) (fun p i acc d KK2 KN hd hp h1 h2=>?_) ?_
 ·obtain ⟨x,rfl,hx⟩:=hP d (zaq hd)
  refine ⟨_,rfl,rfl,b3w ?_⟩
  rw [if_pos rfl]
  lia
  exact b2t c hx (h1 rfl)
 rw [List.filter_eq_self.mpr (fun _ _=>rfl)]
 have okd:D.okd 60 (.lst (ys.map fun d=>D.str (a1E d)))=true:=by
  have key:∀ l:List D,(∀ d∈l,b3t K d)→D.okds 59 (l.map fun d=>D.str (a1E d))=true:=by
   intro l
   induction l with
   | nil=>intro _;rfl
   | cons d l ih =>
    intro h
    simp only [zav,D.okds,zak]
    exact ⟨by simp only [D.okd];exact a6i (h d zal),ih fun e he=>h e (zao _ he)⟩
  simp only [D.okd,zak,zah]
  exact ⟨by decide,key ys hP⟩
 refine b0Q okd okd ?_
 have e:D.eqv (.lst (ys.map fun d=>D.str (a1E d))) (.lst (ys.map fun d=>D.str (a1E d)))=true:=SeqAt.eqv_refl _ (a1C _ 60 okd).1
 have v:∀ S:SS,vw S (.lst (ys.map fun d=>D.str (a1E d)))=.lst (ys.map fun d=>D.str (a1E d)):=fun _=>rfl
 rw [v,e]
 exact hK _
 ) only [↓Qt.put_off]
open L2H (RoomH)
section
theorem a4S {P:TR→Prop}:∀ T:TR,(none:Option TR)=some T→P T:=fun _ h=>nomatch h
theorem a5f {P:TR→Prop} {T0:TR} (h0:P T0):∀ T:TR,some T0=some T→P T:=fun _ h=>by cases h;exact h0
variable {P:Program} {w:World} {K:zbd} {h:Heap} {mg:Str→Option Value} {base:Heap}
theorem a4m (X:K.In h) (G:h.Ns mainGlobals mg) (c:SaysX fa fn fx K):b4o (tb K) w K mg where
 cl:=fun x hx=>by
  have hx:x∈b0V:=hx
  simp only [b0V,zat,zax,or_false] at hx
  rcases hx with rfl | rfl
  ·exact He.glo_ok X G (c.d.fact 15 (f:=.glo "MainsError") rfl)
  ·exact He.glo_ok X G (c.d.fact 16 (f:=.glo "NoRow") rfl)
 gv:=fun j x hx=>by
  have hx:b5k[j]?=some x:=hx
  match j,hx with
  | 0,hx=>cases hx;obtain ⟨t,e⟩:=He.str_ok X G (c.d.fact 39 rfl);exact ⟨.str "abcdefghijklmnopqrstuvwxyz",_,e,⟨t,rfl⟩,fun S H=>by show Rep _ S H (.str "abcdefghijklmnopqrstuvwxyz") _;simp only [Rep]⟩
  | 1,hx=>cases hx;obtain ⟨t,e⟩:=He.int_ok X G (c.d.fact 40 rfl);exact ⟨.int 8,_,e,⟨t,rfl⟩,fun S H=>by show Rep _ S H (.int 8) _;simp only [Rep]⟩
  | 2,hx=>cases hx;obtain ⟨t,e⟩:=He.int_ok X G (c.d.fact 41 rfl);exact ⟨.int 99,_,e,⟨t,rfl⟩,fun S H=>by show Rep _ S H (.int 99) _;simp only [Rep]⟩
  | 3,hx=>cases hx;obtain ⟨t,e⟩:=He.int_ok X G (c.d.fact 42 rfl);exact ⟨.int 1000000000,_,e,⟨t,rfl⟩,fun S H=>by show Rep _ S H (.int 1000000000) _;simp only [Rep]⟩
  | n + 4,hx=>cases hx
 kd:=fun j x kvs hx hk=>by
  have hk:(none:Option (List (Key × D)))=some kvs:=hk
  cases hk
 bt:=fun x hx=>by
  simp only [a2x,zat,zax,or_false] at hx
  rcases hx with rfl | rfl | rfl | rfl | rfl | rfl | rfl | rfl | rfl | rfl | rfl | rfl | rfl | rfl | rfl | rfl | rfl | rfl | rfl | rfl | rfl | rfl
  ·exact He.free_ok X G (c.d.fact 17 (f:=.free "len") rfl)
  ·exact He.free_ok X G (c.d.fact 18 (f:=.free "abs") rfl)
  ·exact He.free_ok X G (c.d.fact 19 (f:=.free "max") rfl)
  ·exact He.free_ok X G (c.d.fact 20 (f:=.free "min") rfl)
  ·exact He.free_ok X G (c.d.fact 21 (f:=.free "range") rfl)
  ·exact He.free_ok X G (c.d.fact 22 (f:=.free "isinstance") rfl)
  ·exact He.free_ok X G (c.d.fact 23 (f:=.free "repr") rfl)
  ·exact He.free_ok X G (c.d.fact 24 (f:=.free "list") rfl)
  ·exact He.free_ok X G (c.d.fact 25 (f:=.free "tuple") rfl)
  ·exact He.free_ok X G (c.d.fact 26 (f:=.free "dict") rfl)
  ·exact He.free_ok X G (c.d.fact 27 (f:=.free "sorted") rfl)
  ·exact He.free_ok X G (c.d.fact 28 (f:=.free "sum") rfl)
  ·exact He.free_ok X G (c.d.fact 29 (f:=.free "enumerate") rfl)
  ·exact He.free_ok X G (c.d.fact 30 (f:=.free "zip") rfl)
  ·exact He.free_ok X G (c.d.fact 31 (f:=.free "reversed") rfl)
  ·exact He.free_ok X G (c.d.fact 32 (f:=.free "str") rfl)
  ·exact He.free_ok X G (c.d.fact 33 (f:=.free "int") rfl)
  ·exact He.free_ok X G (c.d.fact 34 (f:=.free "bool") rfl)
  ·exact He.free_ok X G (c.d.fact 35 (f:=.free "set") rfl)
  ·exact He.free_ok X G (c.d.fact 36 (f:=.free "ValueError") rfl)
  ·exact He.free_ok X G (c.d.fact 37 (f:=.free "any") rfl)
  ·exact He.free_ok X G (c.d.fact 38 (f:=.free "all") rfl)
theorem xok (X:K.In h) (G:h.Ns mainGlobals mg) (c:SaysX fa fn fx K):XOk (tb K) P w K mg base:=by
 intro j x kd h1 h2
 have h1:([none,some .bare]:List (Option XKd))[j]?.join=some kd:=h1
 have h2:b0V[j]?=some x:=h2
 match j,h1,h2 with
 | 0,h1,_=>cases h1
 | 1,h1,h2 =>
  cases h1;cases h2
  obtain ⟨e1,e2,e3,e4⟩:=He.exc_ok (c.d.fact 43 (f:=.exc "NoRow") rfl)
  exact .bare F.excBase_ValueError e1 e2 e3 e4
 | n + 2,h1,_=>cases h1
theorem a81:a0B (tb K) P w K mg base 0 0:=a0B.zero
local macro_rules | `(tactic| walk_at "b1")=>`(tactic| exact fun _ _ _ _ _ _ us hl=>match us,hl with | [_],_=>rfl)
local macro_rules | `(tactic| walk_at "b2")=>`(tactic| exact fun _ _ _ _ _ _ us hl=>match us,hl with | [_,_],_=>rfl)
local macro_rules | `(tactic| walk_at "b4")=>`(tactic| exact fun _ _ _ _ _ _ us hl=>match us,hl with | [_,_,_,_],_=>rfl)
section
variable (P w base)
variable (X:K.In h) (G:h.Ns mainGlobals mg) (c:SaysX fa fn fx K)
include X G c
theorem all1:a0B (tb K) P w K mg base 1 1:=by
 have A:a0B (tb K) P w K mg base 0 0:=a81
 have A2:=a81 (P:=P) (w:=w) (K:=K) (mg:=mg) (base:=base)
 obtain ⟨fd,F⟩:=c.d.def_ 0 rfl
 exact A.step (d:=0) (by omega) (x:=.fn "_law_bag") rfl ⟨He.glo_ok X G (c.d.fact 0 (f:=.glo "_law_bag") rfl),F.kp⟩ (FunD.bindsN (ps:=["_law_script"]) F (by walk_at "b1")) (a5f (a0J (i:=0) A2 (a4m X G c) (xok X G c) F sc0 ck0 (me0 c))) (a4S)
theorem all2:a0B (tb K) P w K mg base 2 1:=by
 have A:=all1 P w base X G c
 have A2:=a81 (P:=P) (w:=w) (K:=K) (mg:=mg) (base:=base)
 obtain ⟨fd,F⟩:=c.d.def_ 1 rfl
 exact A.step (d:=0) (by omega) (x:=.fn "_law_take") rfl ⟨He.glo_ok X G (c.d.fact 1 (f:=.glo "_law_take") rfl),F.kp⟩ (FunD.bindsN (ps:=["_law_bag_here", "_law_many"]) F (by walk_at "b2")) (a5f (a0J (i:=1) A2 (a4m X G c) (xok X G c) F sc1 ck1 (me1 c))) (a4S)
theorem b8n:a0B (tb K) P w K mg base 3 1:=by
 have A:=all2 P w base X G c
 have A2:=a81 (P:=P) (w:=w) (K:=K) (mg:=mg) (base:=base)
 obtain ⟨fd,F⟩:=c.d.def_ 2 rfl
 exact A.step (d:=0) (by omega) (x:=.fn "is_whole") rfl ⟨He.glo_ok X G (c.d.fact 2 (f:=.glo "is_whole") rfl),F.kp⟩ (FunD.bindsN (ps:=["thing"]) F (by walk_at "b1")) (a5f (a0J (i:=2) A2 (a4m X G c) (xok X G c) F sc2 ck2 (me2 c))) (a4S)
theorem b8o:a0B (tb K) P w K mg base 4 1:=by
 have A:=b8n P w base X G c
 have A2:=a81 (P:=P) (w:=w) (K:=K) (mg:=mg) (base:=base)
 obtain ⟨fd,F⟩:=c.d.def_ 3 rfl
 exact A.step (d:=0) (by omega) (x:=.fn "is_name") rfl ⟨He.glo_ok X G (c.d.fact 3 (f:=.glo "is_name") rfl),F.kp⟩ (FunD.bindsN (ps:=["thing"]) F (by walk_at "b1")) (a5f (a0J (i:=3) A2 (a4m X G c) (xok X G c) F sc3 ck3 (me3 c))) (a4S)
theorem b8p:a0B (tb K) P w K mg base 5 1:=by
 have A:=b8o P w base X G c
 have A2:=a81 (P:=P) (w:=w) (K:=K) (mg:=mg) (base:=base)
 obtain ⟨fd,F⟩:=c.d.def_ 4 rfl
 exact A.step (d:=0) (by omega) (x:=.fn "is_position") rfl ⟨He.glo_ok X G (c.d.fact 4 (f:=.glo "is_position") rfl),F.kp⟩ (FunD.bindsN (ps:=["thing"]) F (by walk_at "b1")) (a5f (a0J (i:=4) A2 (a4m X G c) (xok X G c) F sc4 ck4 (me4 c))) (a4S)
theorem b0M:a0B (tb K) P w K mg base 6 1:=by
 have A:=b8p P w base X G c
 have A2:=a81 (P:=P) (w:=w) (K:=K) (mg:=mg) (base:=base)
 obtain ⟨fd,F⟩:=c.d.def_ 5 rfl
 exact A.step (d:=0) (by omega) (x:=.fn "_law_due") rfl ⟨He.glo_ok X G (c.d.fact 5 (f:=.glo "_law_due") rfl),F.kp⟩ (FunD.bindsN (ps:=["_law_kind", "_law_thing_here"]) F (by walk_at "b2")) (a5f (a0J (i:=5) A2 (a4m X G c) (xok X G c) F sc5 ck5 (me5 c))) (a4S)
theorem b8q:a0B (tb K) P w K mg base 7 2:=by
 have A:=b0M P w base X G c
 have A2:=b0M P w base X G c
 obtain ⟨fd,F⟩:=c.d.def_ 6 rfl
 exact A.step (d:=1) (by omega) (x:=.fn "_law_number") rfl ⟨He.glo_ok X G (c.d.fact 6 (f:=.glo "_law_number") rfl),F.kp⟩ (FunD.bindsN (ps:=["_law_bag_here"]) F (by walk_at "b1")) (a5f (a0J (i:=6) A2 (a4m X G c) (xok X G c) F sc6 ck6 (me6 c))) (a4S)
theorem b8r:a0B (tb K) P w K mg base 8 2:=by
 have A:=b8q P w base X G c
 have A2:=b0M P w base X G c
 obtain ⟨fd,F⟩:=c.d.def_ 7 rfl
 exact A.step (d:=1) (by omega) (x:=.fn "_law_sign") rfl ⟨He.glo_ok X G (c.d.fact 7 (f:=.glo "_law_sign") rfl),F.kp⟩ (FunD.bindsN (ps:=["_law_bag_here"]) F (by walk_at "b1")) (a5f (a0J (i:=7) A2 (a4m X G c) (xok X G c) F sc7 ck7 (me7 c))) (a4S)
theorem b8s:a0B (tb K) P w K mg base 9 2:=by
 have A:=b8r P w base X G c
 have A2:=b0M P w base X G c
 obtain ⟨fd,F⟩:=c.d.def_ 8 rfl
 exact A.step (d:=1) (by omega) (x:=.fn "is_cost") rfl ⟨He.glo_ok X G (c.d.fact 8 (f:=.glo "is_cost") rfl),F.kp⟩ (FunD.bindsN (ps:=["thing"]) F (by walk_at "b1")) (a5f (a0J (i:=8) A2 (a4m X G c) (xok X G c) F sc8 ck8 (me8 c))) (a4S)
theorem a82:a0B (tb K) P w K mg base 10 2:=by
 have A:=b8s P w base X G c
 have A2:=b0M P w base X G c
 obtain ⟨fd,F⟩:=c.d.def_ 9 rfl
 exact A.step (d:=1) (by omega) (x:=.fn "is_time") rfl ⟨He.glo_ok X G (c.d.fact 9 (f:=.glo "is_time") rfl),F.kp⟩ (FunD.bindsN (ps:=["thing"]) F (by walk_at "b1")) (a5f (a0J (i:=9) A2 (a4m X G c) (xok X G c) F sc9 ck9 (me9 c))) (a4S)
theorem b4r:a0B (tb K) P w K mg base 11 3:=by
 have A:=a82 P w base X G c
 have A2:=a82 P w base X G c
 obtain ⟨fd,F⟩:=c.d.def_ 10 rfl
 exact A.step (d:=2) (by omega) (x:=.fn "_law_text") rfl ⟨He.glo_ok X G (c.d.fact 10 (f:=.glo "_law_text") rfl),F.kp⟩ (FunD.bindsN (ps:=["_law_bag_here"]) F (by walk_at "b1")) (a5f (a0J (i:=10) A2 (a4m X G c) (xok X G c) F b9l b8v (b8S c))) (a4S)
theorem a83:a0B (tb K) P w K mg base 12 3:=by
 have A:=b4r P w base X G c
 have A2:=a82 P w base X G c
 obtain ⟨fd,F⟩:=c.d.def_ 11 rfl
 exact A.step (d:=2) (by omega) (x:=.fn "_law_asked") rfl ⟨He.glo_ok X G (c.d.fact 11 (f:=.glo "_law_asked") rfl),F.kp⟩ (FunD.bindsN (ps:=["_law_way", "_law_thing_here"]) F (by walk_at "b2")) (a5f (a0J (i:=11) A2 (a4m X G c) (xok X G c) F b9m b8w (b8T c))) (a4S)
theorem b4s:a0B (tb K) P w K mg base 13 4:=by
 have A:=a83 P w base X G c
 have A2:=a83 P w base X G c
 obtain ⟨fd,F⟩:=c.d.def_ 12 rfl
 exact A.step (d:=3) (by omega) (x:=.fn "_law_thing") rfl ⟨He.glo_ok X G (c.d.fact 12 (f:=.glo "_law_thing") rfl),F.kp⟩ (FunD.bindsN (ps:=["_law_bag_here"]) F (by walk_at "b1")) (a5f (a0J (i:=12) A2 (a4m X G c) (xok X G c) F b9n b8x (b8U c))) (a4S)
theorem b4t:a0B (tb K) P w K mg base 14 4:=by
 have A:=b4s P w base X G c
 have A2:=a83 P w base X G c
 obtain ⟨fd,F⟩:=c.d.def_ 13 rfl
 exact A.step (d:=3) (by omega) (x:=.fn "_law_right") rfl ⟨He.glo_ok X G (c.d.fact 13 (f:=.glo "_law_right") rfl),F.kp⟩ (FunD.bindsN (ps:=["_law_thing_here", "_law_due_here", "_law_first", "_law_step"]) F (by walk_at "b4")) (a5f (a0J (i:=13) A2 (a4m X G c) (xok X G c) F b9o b8y (b8V c))) (a4S)
end
theorem facts {f:Addr} (X:K.In h) (G:h.Ns mainGlobals mg) (hfa:mg ("law" : Str)=some (.ref f)) (c:SaysX fa fn fx K) :
  ∃ fd:FuncData,(∀ (s:Shared) (v:Value),BindsTo s fd ⟨[v],[]⟩ [("_law_script",v)])∧∀ base:Heap,K.In base→base.Ns mainGlobals mg→FnG P w K mg base false 12 f fd ["_law_script"] (spD ⟨K⟩ (lawT 63)):=by
 obtain ⟨fd,F⟩:=c.d.def_ 14 rfl
 have e:=hfa.symm.trans (He.glo_ok X G (c.d.fact 14 (f:=.glo "law") rfl))
 cases e
 have b:=FunD.bindsA (ps:=["_law_script"]) F fun _ _ _ _ _ _ us hl=>match us,hl with | [_],_=>rfl
 refine ⟨fd,fun s v=>b s [v] rfl,fun base _ _=>?_⟩
 exact a0J (t:=tb K) (i:=14) (d:=4) (show a0B (tb K) P w K mg base ((tb K).lo 14) 4 from b4t P w base X G c) (a4m X G c) (xok X G c) F b9p b8z (b8W c)
end
end Cl
open PySem PySem.W PySem.Calls PyProof.Rows
theorem PySem.Challenge.cw_stillmain_k11_kinds_known_holds : PySem.Challenge.rw_stillmain_k11_kinds_known.Holds := by
 exact Cl.whole fun X G hfa c=>Cl.facts X G hfa c
